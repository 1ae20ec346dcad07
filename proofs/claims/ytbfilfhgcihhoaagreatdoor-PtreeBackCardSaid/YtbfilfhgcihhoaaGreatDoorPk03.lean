/-
  The engine: maps whose keys are pairs of strings. No program in sight.
  The engine: owned structs behind pointers, handed back and opened. No program in sight.
  The engine: calls that change what the caller owns. No program in sight.
  The engine: structs of plain values are compared. No program in sight.
  The engine: what an owned thing reads as, written otherwise. No program in sight.
  The engine: literals of structs. No program in sight.
  The engine: a contract's result, read otherwise. No program in sight.
  The engine: a slot's value, read otherwise. No program in sight.
  Walks: process trees: comparing them, which are the same, which are great.
  Process trees: tokens and reading, in plain Lean.
  The engine: fields of struct values, elements of arrays that are shared. No program in sight.
  The engine: remainders, bits. No program in sight.
  The engine: arrays of two numbers are compared. No program in sight.
  The engine: numerals are appended to a row of bytes; the library's table. No program in sight.
  The engine: quotients; a struct and a value are handed back beside what is owned. No program in sight.
  The engine: four operations that come up together. No program in sight.
  The engine: maps keyed by pairs of numbers. No program in sight.
  The engine: a call that hands back one of a family of pairs. No program in sight.
  The engine: three values are handed back. No program in sight.
  The engine: a row of numbers is turned round by the library. No program in sight.
  The engine: a struct that lies in cells and two values are handed back. No program in sight.
  The engine: a struct is handed back beside what is owned. No program in sight.
  The engine: the end of an owned row as a slice of its own. No program in sight.
  The engine: ways that split meet again behind what splits them; shifts and bits. No program in sight.
  The engine: functions that may panic. No program in sight.
  The engine: regions that draw their order, in which an operation may panic. No program in sight.
  The engine: what builders of strings want: pointers compared and seen as others, strings appended to bytes, strings seen in bytes. No program in sight.
  The engine: strings cut, structs built of structs, values in interfaces. No program in sight.
  Walks: the lexer of the program: letters, digits, lengths, symbols, literals, going on.
-/
import Derived.DeepKeys3
import Derived.Lib.SliceRun
import Derived.Laws.StructEq
import Derived.Lib.Bytealg
import Derived.Lib.AppendIntMem
import Derived.Lib.OthersKept
import Derived.Laws.BytesArg
import Derived.Recover
import Derived.Lib.Builder
import Derived.Lib.UnsafeStr
import Derived.Lib.AppendStr
import Derived.Laws.Externs
import Derived.Laws.Slices
import Derived.Test.YtbfilfhgcihhoaaGreatDoorPk02
namespace Go.En
open Go.RowKit Go.Cb
open Go.ChangeMaps (setBlock)
set_option linter.all false
def ArrT (P : Program) (t len : Nat) : Bool := match P.underlying t with
 | some (.array n e) => Nat.beq n len && (match P.info? e with | some i => Nat.beq i.size 1 | none => false)
 | _ => false
theorem ArrT.run {P : Program} {t len : Nat} (h : ArrT P t len = true) : ∃ e i, P.underlying t = some (.array len e) ∧ P.info? e = some i ∧ i.size = 1 := by
 unfold ArrT at h
 split at h
 · rename_i n e hu
   rw [Bool.and_eq_true] at h
   obtain ⟨h1, h2⟩ := h
   split at h2
   · rename_i i hi
     have e1 := Nat.eq_of_beq_eq_true h1
     subst e1
     exact ⟨e, i, hu, hi, Nat.eq_of_beq_eq_true h2⟩
   · cases h2
 · cases h
section
variable {P : Program} {st : St} {o : Oper}
end
abbrev Pr := ByteArray × ByteArray
def pkey (k : Pr) : Value := .agg #[.string k.1, .string k.2]
def prOk (k : Pr) : Prop := k.1.size ≤ 140737488355328 ∧ k.2.size ≤ 140737488355328
structure PkT (P : Program) (t ks s e : Nat) (z : Value) : Prop where
 ht : P.underlying t = some (.map ks e)
 hu : P.underlying ks = some (.array 2 s)
 hs : P.underlying s = some .string
 hk : P.keyType ks = true
 hk2 : P.keyTypeAt 2 ks = true
 hti : P.tiled 2 ks = true
 hc2 : P.cellsOf ks = 2
 hc1 : P.cellsOf s = 1
 hf : ∀ a b : ByteArray, (Value.agg #[.string a, .string b]).formed P ks = true
 hsz : ∃ n, P.types.size = n + 1
 hz : ZeroT P e z
theorem PkT.law {P : Program} {t ks s e : Nat} {z : Value} (h : PkT P t ks s e z) : WideMaps.KeyLaw P ks := deep_law (m := 2) (by decide) h.hk2 h.hti (by rw [h.hu])
theorem PkT.key {P : Program} {t ks s e : Nat} {z : Value} (h : PkT P t ks s e z) {k : Pr} (hk : prOk k) : ∃ l, keyOf P ks (pkey k) = some l := by
 obtain ⟨n, hn⟩ := h.hsz
 have hl : ∀ c : ByteArray, c.size ≤ 140737488355328 → P.keyLits (n + 1) s [.string c] = some [.string c.data.toList] := fun c hc => by
  unfold Program.keyLits
  rw [h.hs]
  dsimp only
  rw [if_pos (Nat.le_trans hc (by decide))]
 unfold keyOf
 rw [h.hu]
 dsimp only
 rw [h.hk, show (pkey k).formed P ks = true from h.hf _ _, hn]
 refine ⟨.string (keyBytes [.string k.1.data.toList, .string k.2.data.toList]), ?_⟩
 rw [if_pos (show (true && true) = true from rfl)]
 unfold Program.keyLits
 rw [h.hu]
 dsimp only [pkey, Value.cells]
 rw [h.hc2, h.hc1]
 rw [if_pos (by rfl)]
 rw [show List.range 2 = [0, 1] from rfl]
 simp only [List.mapM_cons, List.mapM_nil, Nat.zero_mul, Nat.one_mul, List.drop_zero, List.drop_succ_cons, List.take_succ_cons, List.take_zero, hl _ hk.1, hl _ hk.2]
 rfl
section
variable {P : Program} {c : Ctx} {ops : Array Oper} {Q : Exit → Act → World → Prop} {rest : List Oper} {sL hP : List (Nat × Ent)} {o : Oper}
end
section
variable {P : Program} {c : Ctx} {ops : Array Oper} {Q : Exit → Act → World → Prop} {rest : List Oper} {sL hP : List (Nat × Ent)} {o : Oper}
end
def RetH (c : Ctx) (R : Value → PV → List (Nat × Ent) → Prop) (e : Ending) (w' : World) : Prop := ∃ v p h F, e = .returned v ∧ R v p h ∧ HeapF c h F w' ∧ Shr (mof c h F) w' v p
def AFh (dd : Prop) (P : Program) (f : FuncId) (ar h : List (Nat × Ent)) (R : Value → PV → List (Nat × Ent) → Prop) : Prop :=
 ∀ (M N : BS) (w : World) (F : Nat → BS), HeapF ⟨w, M, N, 0, dd, []⟩ h F w → (∀ i x, lk ar i = some x → Shr (mof ⟨w, M, N, 0, dd, []⟩ h F) w x.1 x.2) → Calls P f (ar.map (·.2.1)).toArray w (RetH ⟨w, M, N, 0, dd, []⟩ R)
theorem HeapF.nt {c c' : Ctx} {h : List (Nat × Ent)} {F : Nat → BS} {w : World} (H : HeapF c h F w) (h0 : c'.w0 = c.w0) (h1 : c'.M0 = c.M0) (h2 : c'.N0 = c.N0) (h3 : c'.dr → c.dr) (hm : M0k c'.w0 c'.M0 c'.N0 c'.dr) : HeapF c' h F w := by
 obtain ⟨w0, M0, N0, nt, dr, df⟩ := c
 obtain ⟨w0', M0', N0', nt', dr'⟩ := c'
 simp only at h0 h1 h2 h3
 subst h0 h1 h2
 exact ⟨H.tr, H.lo, H.dj, hm, H.ext, fun h => H.dw (h3 h)⟩
def inOrder : Nat → List (Nat × Ent) → Bool
 | _, [] => true
 | i, (j, _) :: l => Nat.beq i j && inOrder (i + 1) l
theorem inOrder_lk : ∀ (l : List (Nat × Ent)) (i t : Nat) (x : Ent), inOrder i l = true → lk l t = some x → i ≤ t ∧ (l.map (·.2.1))[t - i]? = some x.1
 | [], _, _, _, _, h => by simp [lk] at h
 | (j, y) :: l, i, t, x, ho, h => by
   simp only [inOrder, Bool.and_eq_true] at ho
   obtain ⟨h1, h2⟩ := ho
   have h1 := Nat.eq_of_beq_eq_true h1
   subst h1
   simp only [lk] at h
   cases hb : Nat.beq i t
   · rw [hb] at h
     obtain ⟨h3, h4⟩ := inOrder_lk l (i + 1) t x h2 h
     have : t - i = (t - (i + 1)) + 1 := by omega
     exact ⟨by omega, by rw [this]; simpa using h4⟩
   · rw [hb] at h
     have : i = t := Nat.eq_of_beq_eq_true hb
     subst this
     cases h
     simp
theorem inOrder_lk' : ∀ (l : List (Nat × Ent)) (i t : Nat) (x : Ent), inOrder i l = true → lk l t = some x → i ≤ t ∧ (l[t - i]?).map (·.2) = some x
 | [], _, _, _, _, h => by simp [lk] at h
 | (j, y) :: l, i, t, x, ho, h => by
   simp only [inOrder, Bool.and_eq_true] at ho
   obtain ⟨h1, h2⟩ := ho
   have h1 := Nat.eq_of_beq_eq_true h1
   subst h1
   simp only [lk] at h
   cases hb : Nat.beq i t
   · rw [hb] at h
     obtain ⟨h3, h4⟩ := inOrder_lk' l (i + 1) t x h2 h
     have : t - i = (t - (i + 1)) + 1 := by omega
     exact ⟨by omega, by rw [this]; simpa using h4⟩
   · rw [hb] at h
     have : i = t := Nat.eq_of_beq_eq_true hb
     subst this
     cases h
     simp
section
variable {P : Program}
theorem AFh.of_body {dd : Prop} {f : FuncId} {fn : Func} {code : Code} {ar h : List (Nat × Ent)} {R : Value → PV → List (Nat × Ent) → Prop} (nt : Nat) (hf : P.funcs[f]? = some fn) (hb : fn.body = some code) (hnt : fn.ntmps = nt) (hn : ar.length ≤ nt) (ho : inOrder 0 ar = true)
 (H : ∀ (w0 : World) (M0 N0 : BS), aC P ⟨w0, M0, N0, nt, dd, []⟩ code (bodyPost P fn (RetH ⟨w0, M0, N0, nt, dd, []⟩ R)) ⟨ar, h⟩) : AFh dd P f ar h R := fun M N w F HF hv => by
 subst hnt
 refine calls_of_wp hf hb ?_
 refine wp_mono (H w M N _ w ⟨F, ⟨HF.nt rfl rfl rfl id HF.m0, fun t v p ht => ?_, ?_, rfl⟩⟩) fun e a w' hq => ?_
 · obtain ⟨_, h1⟩ := inOrder_lk ar 0 t (v, p) ho ht
   refine ⟨?_, hv t (v, p) ht⟩
   simp only [Nat.sub_zero] at h1
   have := lt_of_get h1
   rw [Array.getElem?_append_left (by simpa using this)]
   simpa using h1
 · simp; omega
 · have key : ∀ e w', RetH ⟨w, M, N, fn.ntmps, dd, []⟩ R e w' → RetH ⟨w, M, N, 0, dd, []⟩ R e w' := fun _ _ ⟨v', p, h', F', h3, h4, h5, h6⟩ => ⟨v', p, h', F', h3, h4, h5.nt rfl rfl rfl id h5.m0, h6⟩
   cases e with
   | ret => obtain ⟨h1, v, h2, h3⟩ := hq; exact ⟨h1, v, h2, key _ _ h3⟩
   | normal => obtain ⟨h1, v, h2, h3⟩ := hq; exact ⟨h1, v, h2, key _ _ h3⟩
   | panic ch => obtain ⟨h1, h3⟩ := hq; exact ⟨h1, key _ _ h3⟩
   | outgrown => exact key _ _ hq
   | _ => exact hq.elim
end
section
variable {P : Program} {c : Ctx} {ops : Array Oper} {Q : Exit → Act → World → Prop} {rest : List Oper} {sL hP : List (Nat × Ent)} {o : Oper}
theorem ret_h {fn : Func} {R : Value → PV → List (Nat × Ent) → Prop} {t : Nat} {v : Value} {p : PV} (h : List (Nat × Ent)) (hr : fn.results = #[.tmp t]) (ht : lk sL t = some (v, p)) (hs : Sub h hP) (hR : R v p h) (hdf : c.df = [] := by exact rfl) : aR c (bodyPost P fn (RetH c R)) (⟨sL, hP⟩ : St) := fun a w ⟨F, H0⟩ => by
 have H : HoldsF c (⟨sL, h⟩ : St) F a w := H0.less (fun _ _ h => h) fun t x hx => hs.lk hx
 obtain ⟨h1, h2⟩ := H.sl t v p ht
 refine ⟨H.df.trans hdf, v, ?_, v, p, h, F, rfl, hR, H.toHeapF, h2⟩
 simp [results, hr, Array.getD_eq_getD_getElem?, h1]
theorem ret_h0 {fn : Func} {R : Value → PV → List (Nat × Ent) → Prop} (h : List (Nat × Ent)) (hr : fn.results = #[]) (hs : Sub h hP) (hR : R (.tuple #[]) (.val (.tuple #[])) h) (hdf : c.df = [] := by exact rfl) : aR c (bodyPost P fn (RetH c R)) (⟨sL, hP⟩ : St) := fun a w ⟨F, H0⟩ => by
 have H : HoldsF c (⟨sL, h⟩ : St) F a w := H0.less (fun _ _ h => h) fun t x hx => hs.lk hx
 refine ⟨H.df.trans hdf, .tuple #[], ?_, .tuple #[], .val (.tuple #[]), h, F, rfl, hR, H.toHeapF, .val _⟩
 simp [results, hr]
theorem end_h0 {fn : Func} {R : Value → PV → List (Nat × Ent) → Prop} (h : List (Nat × Ent)) (hr : fn.results = #[]) (hs : Sub h hP) (hR : R (.tuple #[]) (.val (.tuple #[])) h) (hdf : c.df = [] := by exact rfl) : aN c (bodyPost P fn (RetH c R)) (⟨sL, hP⟩ : St) := ret_h0 h hr hs hR hdf
theorem aL_chE {dd : Prop} {f : Nat} {ar : List (Nat × Ent)} {R : Value → PV → List (Nat × Ent) → Prop} (K : List Nat) (d : Nat) (hw : wants ops sL o = some true) (hd : o.dst = some d) (hn : d < c.nt)
 (hE : ∀ a w F, HoldsF c (⟨sL, hP⟩ : St) F a w → (execOp a.eval o).run P w = .ok (.enter f (ar.map (·.2.1)).toArray) w ∧ ∀ (i : Nat) (x : Value) (q : PV), ((ar.map (·.2)).map (·.1))[i]? = some x → ((ar.map (·.2)).map (·.2))[i]? = some q → Shr (mof c hP F) w x q)
 (hA : AFh dd P f ar (minusK K hP) R) (hio : inOrder 0 ar = true) (hdd : c.dr → dd)
 (k : ∀ v p h, R v p h → aL P c ops Q rest ⟨put d (v, p) sL, h ++ onlyK K hP⟩) : aL P c ops Q (o :: rest) (⟨sL, hP⟩ : St) :=
 aL_run hw fun a w F H => by
  obtain ⟨hr, h2⟩ := hE a w F H
  have hfr := H.frame K
  have hin : ∀ b, mof ⟨w, fun b => c.M0 b ∨ ∃ l x, K.elem l = true ∧ lk hP l = some x ∧ F l b, nK K hP F, c.nt, c.dr, c.df⟩ (minusK K hP) F b → mof c hP F b := by
   rintro b ((h | ⟨l, x, _, h1, h2⟩) | ⟨l, x, h1, h2⟩)
   · exact .inl h
   · exact .inr ⟨l, x, h1, h2⟩
   · exact .inr ⟨l, x, (lk_minusK.1 h1).2, h2⟩
  have hcall := hA (fun b => c.M0 b ∨ ∃ l x, K.elem l = true ∧ lk hP l = some x ∧ F l b) (nK K hP F) w F
   ⟨hfr.tr, hfr.lo, hfr.dj, hfr.m0.up hdd, hfr.ext, fun _ => Nat.le_refl _⟩
   (fun i x hi => by
     obtain ⟨_, h3⟩ := inOrder_lk' ar 0 i x hio hi
     rw [Nat.sub_zero] at h3
     exact (h2 i x.1 x.2 (by rw [List.getElem?_map, List.getElem?_map, h3]; rfl) (by rw [List.getElem?_map, List.getElem?_map, h3]; rfl)).anti fun b _ hb => hin b hb)
  unfold Oper.wp
  rw [hr, Oper.upon_enter]
  refine hcall.mono fun e w' ⟨v, p, h, F', e1, e2, e3, e4⟩ => ?_
  subst e1
  have hch : Chg (nK K hP F) w w' := e3.ext
  have hlow : ∀ b, b < w.heap.size → mof ⟨w, fun b => c.M0 b ∨ ∃ l x, K.elem l = true ∧ lk hP l = some x ∧ F l b, nK K hP F, 0, dd, []⟩ h F' b → mof c hP F b := by
   rintro b hlt ((h1 | ⟨l, x, _, h1, h2⟩) | ⟨l, x, h1, h2⟩)
   · exact .inl h1
   · exact .inr ⟨l, x, h1, h2⟩
   · rcases e3.lo l x b h1 h2 with h3 | ⟨l', x', _, h3, h4⟩
     · exact absurd hlt (by simp only at h3; omega)
     · exact .inr ⟨l', x', h3, h4⟩
  have H' : HoldsF ⟨w, fun b => c.M0 b ∨ ∃ l x, K.elem l = true ∧ lk hP l = some x ∧ F l b, nK K hP F, c.nt, c.dr, c.df⟩ (⟨put d (v, p) sL, h⟩ : St) F' (a.put o.dst v) w' := by
   refine ⟨e3.nt rfl rfl rfl hdd hfr.m0, fun t u q ht => ?_, by rw [hd]; simpa [Act.put] using H.size, by rw [hd]; exact H.df⟩
   rw [hd]
   rcases lk_put ht with ⟨rfl, e⟩ | ⟨hne, e⟩
   · cases e
     refine ⟨?_, e4⟩
     simp [Act.put, H.size, hn]
   · obtain ⟨h3, h4⟩ := H.sl t u q e
     refine ⟨?_, h4.to hch (fun b _ ⟨l, x, _, h5, h6⟩ => .inr ⟨l, x, h5, h6⟩) (fun b hlt hb => hlow b hlt hb)⟩
     simpa [Act.put, Array.getElem?_setIfInBounds, hne] using h3
  obtain ⟨H2, _, _⟩ := H.unframe H'
  exact k v p h e2 _ _ ⟨_, H2⟩
theorem aL_ch {dd : Prop} {f : Nat} {ar h0 : List (Nat × Ent)} {R : Value → PV → List (Nat × Ent) → Prop} {xs : Array Operand} {ats : Array TypeId} (K : List Nat) (d : Nat) (hc : ∀ args w, (callFunc f args).run P w = .ok (.enter f args) w) (hA : AFh dd P f ar h0 R)
 (k : ∀ v p h, R v p h → aL P c ops Q rest ⟨put d (v, p) sL, h ++ onlyK K hP⟩) (hw : wants ops sL o = some true := by exact rfl) (hd : o.dst = some d := by exact rfl) (hn : d < c.nt := by exact Nat.le_of_ble_eq_true rfl)
 (ho : o.op = .call { callee := .value (.func f), args := xs, argTypes := ats } := by exact rfl) (hx : evL sL xs.toList = some (ar.map (·.2)) := by exact rfl) (hh0 : h0 = minusK K hP := by exact rfl) (hio : inOrder 0 ar = true := by exact rfl) (hdd : c.dr → dd := by first | exact id | exact fun h => h.elim | exact fun _ => trivial) : aL P c ops Q (o :: rest) (⟨sL, hP⟩ : St) := by
 subst hh0
 refine aL_chE K d hw hd hn (fun a w F H => ?_) hA hio hdd k
 obtain ⟨h1, h2⟩ := evL_spec H.rd hx
 refine ⟨?_, h2⟩
 have hargs : xs.map a.eval = (ar.map (·.2.1)).toArray := by
  rw [show ar.map (·.2.1) = (ar.map (·.2)).map (·.1) by rw [List.map_map]; rfl, ← h1, ← Array.toList_map, Array.toArray_toList]
 simp [execOp, ho, resolve, Act.eval, Deferred.ofValue, invoke, hargs, hc]
theorem zeros_holds {l e k n g cap : Nat} {h : Value} {a : Act} (hh : h = .slice (some ⟨g, 0, none⟩) n cap) (zs : List Value) (h1 : zs.all Value.oneCell' = true) :
 ∀ (m i j : Nat) (cs : List PV) (w : World) (F : Nat → BS) (hp : List (Nat × Ent)), HoldsF c ⟨sL, hp⟩ F a w → lk hp l = some (h, .own e k n cs) → i + m = zs.length → j + i + m ≤ cs.length →
  ∃ w' F' hp', (storeCells ⟨g, j, none⟩ (zs.drop i) i).run P w = .ok () w' ∧ HoldsF c ⟨sL, hp'⟩ F' a w' ∧ lk hp' l = some (h, .own e k n (setL cs (j + i) ((zs.drop i).map PV.val))) ∧ ∀ l', l' ≠ l → lk hp' l' = lk hp l'
 | 0, i, j, cs, w, F, hp, H, hl, hi, hj => by
   refine ⟨w, F, hp, ?_, H, ?_, fun _ _ => rfl⟩
   · rw [List.drop_eq_nil_of_le (by omega)]; rfl
   · rw [List.drop_eq_nil_of_le (by omega : zs.length ≤ i)]; exact hl
 | m + 1, i, j, cs, w, F, hp, H, hl, hi, hj => by
   have hi' : i < zs.length := by omega
   obtain ⟨v, hv⟩ := get_of_lt hi'
   have hv1 : v.oneCell' = true := List.all_eq_true.1 h1 v (List.mem_of_getElem? hv)
   obtain ⟨F1, H1⟩ := set_holds H hl hh (show j + i < cs.length by omega) (Shr.val v)
   obtain ⟨w', F', hp2, hr, H2, hl2, hsame⟩ := zeros_holds hh zs h1 m (i + 1) j (cs.set (j + i) (.val v)) _ F1 _ H1 (lk_put_self _ _ _) (by omega) (by simp; omega)
   refine ⟨w', F', hp2, ?_, H2, ?_, fun l' hne => by rw [hsame l' hne, lk_put_ne (Ne.symm hne)]⟩
   · obtain ⟨xs, Fs, hrow, hlen, _⟩ := (H.tr l _ _ hl).row
     subst hh
     obtain ⟨z, hz⟩ := get_of_lt (show j + i < xs.length by omega)
     have hcell := row_cell hrow hz
     have hfr := hrow.frozenAt (j + i)
     rw [List.drop_eq_getElem_cons (lt_of_get hv), show zs[i]'(lt_of_get hv) = v from (List.getElem?_eq_some_iff.1 hv).2, storeCells]
     simp only [Sem.run_bind, run_store _ _ _ _ _ hv1, add_none, hcell, hfr, Bool.false_eq_true, if_false, Result.andThen_ok]
     exact hr
   · rw [hl2, List.drop_eq_getElem_cons hi', show zs[i]'hi' = v from (List.getElem?_eq_some_iff.1 hv).2, List.map_cons, setL, Nat.add_assoc]
theorem take_setL : ∀ (ps cs : List PV) (j : Nat), (setL cs j ps).take j = cs.take j
 | [], _, _ => rfl
 | p :: ps, cs, j => by
   rw [setL]
   have h := take_setL ps (cs.set j p) (j + 1)
   have h2 := congrArg (List.take j) h
   rw [List.take_take, List.take_take, Nat.min_eq_left (Nat.le_succ j)] at h2
   rw [h2, List.take_set_of_le (Nat.le_refl j)]
theorem zeros_one {z : Value} (h : z.cells.toList.all Value.oneCell' = true) (m : Nat) : (Builtin.zeroCells z.cells m).toList.all Value.oneCell' = true := by
 rw [List.all_eq_true]
 intro v hv
 unfold Builtin.zeroCells at hv
 rw [Array.toList_map, List.mem_map] at hv
 obtain ⟨i, _, rfl⟩ := hv
 rw [getElem!_def]
 cases hc : z.cells[i % z.cells.size]? with
 | none => rfl
 | some u => exact List.all_eq_true.1 h u (by rw [← Array.getElem?_toList] at hc; exact List.mem_of_getElem? hc)
theorem aL_clear {t e kk bytes n i : Nat} {z : Value} {x : Operand} {h : Value} {q : PV} {cs : List PV} (l : Nat) (hT : ElT P t e kk bytes z) (hz0 : z.cells.toList.all Value.oneCell' = true) (hw : wants ops sL o = some true) (hd : o.dst = none)
 (ho : o.op = .call { callee := .builtin .clear, args := #[x], argTypes := #[t] }) (hx : ev sL x = some (slc h i n kk, q)) (hl : lk hP l = some (h, .own e kk n cs)) (hi : i ≤ n)
 (k : ∀ cs', cs'.length = cs.length → cs'.take (i * kk) = cs.take (i * kk) → aL P c ops Q rest ⟨sL, put l (h, .own e kk n cs') hP⟩) : aL P c ops Q (o :: rest) (⟨sL, hP⟩ : St) :=
 aL_run hw fun a w F H => by
  have hxv := (H.rd.ev hx).1
  obtain ⟨xs, Fs, hrow, hlen, _⟩ := (H.tr l _ _ hl).row
  obtain ⟨inf, hi1, hi2, hi3, hi4⟩ := hT.info
  have hback : Holds c ⟨sL, put l (h, .own e kk n cs) hP⟩ a w := ⟨F, H.less (fun _ _ h => h) fun t x hx => by
   rcases lk_put hx with ⟨rfl, rfl⟩ | ⟨hne, e1⟩
   · exact hl
   · exact e1⟩
  rcases row_form hrow with ⟨rfl, rfl, rfl⟩ | ⟨g, cap, rfl, hc1, hc2, hc3⟩
  · have hi0 : i = 0 := by omega
    subst hi0
    unfold Oper.wp execOp
    simp [ho, hxv, resolve, invoke, builtin, Builtin.clear_, slc, run_underlying hT.ht, Oper.upon, hd, Act.put]
    exact k cs rfl rfl _ _ hback
  · rcases Nat.lt_or_ge i n with hlt | hge
    · have hlen' : cs.length = n * kk := by rw [hlen, hrow.1]
      have hzs : (Builtin.zeroCells z.cells (n - i)).toList.length = (n - i) * kk := by rw [Array.length_toList, size_zeroCells, hT.hz]
      have hmul : i * kk + (n - i) * kk = n * kk := by rw [← Nat.add_mul]; congr 1; omega
      obtain ⟨w', F', hp', hr, H', hl', hsame⟩ := zeros_holds (P := P) rfl (Builtin.zeroCells z.cells (n - i)).toList (zeros_one hz0 _) _ 0 (i * kk) cs w F hP H hl (Nat.zero_add _) (by omega)
      simp only [List.drop_zero, Nat.add_zero] at hr hl'
      have hcap : cap ≠ i := by omega
      obtain ⟨m, hm⟩ : ∃ m, n - i = m + 1 := ⟨n - i - 1, by omega⟩
      simp only [slc, hcap, if_false, Option.map_some, add_none, Nat.zero_add, hm] at hxv
      rw [hm] at hr hl'
      unfold Oper.wp execOp
      simp [ho, hxv, resolve, invoke, builtin, Builtin.clear_, run_underlying hT.ht, zeroValue, typeInfo, hi1, hi2, hr, Oper.upon, hd, Act.put]
      refine k (setL cs (i * kk) ((Builtin.zeroCells z.cells (m + 1)).toList.map PV.val)) (setL_len _ _ _) (take_setL _ _ _) _ _ ⟨F', H'.less (fun _ _ h => h) fun t x hx => ?_⟩
      rcases lk_put hx with ⟨rfl, rfl⟩ | ⟨hne, e1⟩
      · exact hl'
      · show lk hp' t = _
        rw [hsame t (Ne.symm hne)]; exact e1
    · have hin : i = n := by omega
      subst hin
      by_cases hca : cap = i
      all_goals
       unfold Oper.wp execOp
       simp [ho, hxv, resolve, invoke, builtin, Builtin.clear_, slc, hca, run_underlying hT.ht, Oper.upon, hd, Act.put]
       exact k cs rfl rfl _ _ hback
theorem aL_heap {l : List Oper} (h : List (Nat × Ent)) (hs : Sub h hP) (k : aL P c ops Q l ⟨sL, h⟩) : aL P c ops Q l (⟨sL, hP⟩ : St) := fun a w ⟨F, H⟩ => k a w ⟨F, H.less (fun _ _ h => h) fun t x hx => hs.lk hx⟩
end
section
variable {P : Program} {st : St} {o : Oper}
theorem agg_plain {M : BS} {w : World} {v : Value} {us : List Value} (h : Shr M w v (.agg (us.map PV.val))) : v = .agg us.toArray := by
 generalize hp : PV.agg (us.map PV.val) = p at h
 cases h with
 | agg vs ps hl hT =>
   cases hp
   congr 2
   apply List.ext_getElem?
   intro i
   rw [List.length_map] at hl
   rcases Nat.lt_or_ge i us.length with hi | hi
   · obtain ⟨u, hu⟩ := get_of_lt hi
     obtain ⟨x, hx⟩ := get_of_len hu hl.symm
     have h1 := hT i x (.val u) hx (by rw [List.getElem?_map, hu]; rfl)
     have h2 : x = u := h1.vOf
     rw [hx, hu, h2]
   · rw [List.getElem?_eq_none hi, List.getElem?_eq_none (by omega)]
 | _ => cases hp
theorem q_eqS {t r : Nat} {x y : Operand} {v v' : Value} {us us' : List Value} {b : Bool} (ht : P.underlying t = some (.struct (P.fieldsOf t))) (hp : P.stoodInHeld t = false) (hg : P.eqGuardType P.depth t = false)
 (hE : ∀ w, (Op.eqFields 9999 us.toArray us'.toArray (P.fieldsOf t).toList).run P w = .ok b w) (hx : ev st.slots x = some (v, .agg (us.map PV.val))) (hy : ev st.slots y = some (v', .agg (us'.map PV.val))) (ho : o.op = .binOp .eql t x y r := by exact rfl) : YE P st o (· = .bool b) (.val (.bool b)) :=
 .exact fun M F a w H => ⟨.val _, by
  obtain ⟨h1, h2⟩ := H.ev hx
  obtain ⟨h3, h4⟩ := H.ev hy
  have e1 := agg_plain h2
  have e2 := agg_plain h4
  subst e1 e2
  have hr : (Op.equalIn 10000 t (.agg us.toArray) (.agg us'.toArray)).run P w = .ok b w := by rw [run_equalIn_struct w 9999 t _ _ ht hp]; exact hE w
  simp [execOp, ho, h1, h3, run_eqGuard_agg w .eql t x y us.toArray us'.toArray hg, run_eql_struct, hr]⟩
end
theorem recast {sL hP : List (Nat × Ent)} {l : Nat} {h : Value} {p p' : PV} (hl : lk hP l = some (h, p)) (e : p = p') : EntE (⟨sL, hP⟩ : St) (fun _ : Unit => ⟨sL, put l (h, p') hP⟩) := fun c a w ⟨F, H⟩ => by
 subst e
 refine ⟨(), F, H.less (fun t x h => h) fun t x ht => ?_⟩
 rcases lk_put ht with ⟨rfl, e1⟩ | ⟨_, h1⟩
 · rw [hl, e1]
 · exact h1
theorem reslot {sL hP : List (Nat × Ent)} {t : Nat} {v : Value} {p p' : PV} (hl : lk sL t = some (v, p)) (e : p = p') : EntE (⟨sL, hP⟩ : St) (fun _ : Unit => ⟨put t (v, p') sL, hP⟩) := fun c a w ⟨F, H⟩ => by
 subst e
 refine ⟨(), F, H.less (fun s x ht => ?_) (fun t x h => h)⟩
 rcases lk_put ht with ⟨rfl, e1⟩ | ⟨_, h1⟩
 · rw [hl, e1]
 · exact h1
section
variable {P : Program} {c : Ctx} {ops : Array Oper} {Q : Exit → Act → World → Prop} {rest : List Oper} {sL hP : List (Nat × Ent)} {o : Oper}
theorem fold_off : ∀ (l : List Value) (j off : Nat) (cells : Array Value), (l.zipIdx j).foldl (fun cs x => cs.setIfInBounds (off + x.2) x.1) cells = (l.zipIdx (off + j)).foldl (fun cs x => cs.setIfInBounds (0 + x.2) x.1) cells
 | [], j, off, cells => rfl
 | x :: l, j, off, cells => by
   simp only [List.zipIdx_cons, List.foldl_cons]
   rw [fold_off l (j + 1) off, Nat.zero_add, Nat.add_assoc]
theorem fold_mid : ∀ (l : List Value) (i : Nat) (cells : Array Value), i + l.length ≤ cells.size → (l.zipIdx i).foldl (fun cs x => cs.setIfInBounds (0 + x.2) x.1) cells = (cells.toList.take i ++ l ++ cells.toList.drop (i + l.length)).toArray
 | [], i, cells, h => by
   simp only [List.zipIdx_nil, List.foldl_nil, List.append_nil, List.length_nil, Nat.add_zero, List.take_append_drop, Array.toArray_toList]
 | x :: l, i, cells, h => by
   simp only [List.zipIdx_cons, List.foldl_cons]
   simp only [List.length_cons] at h
   rw [fold_mid l (i + 1) _ (by simp; omega)]
   congr 1
   rw [Nat.zero_add, Array.toList_setIfInBounds, List.take_succ_eq_append_getElem (by simp; omega)]
   simp only [List.getElem_set_self, List.length_cons]
   rw [List.take_set_of_le (by omega), List.drop_set_of_lt (by omega), show i + 1 + l.length = i + (l.length + 1) by omega]
   simp
theorem fill_k (kk : Nat) : ∀ (vs : List (List Value)) (i : Nat) (cells : Array Value), cells.size = (i + vs.length) * kk → (∀ v ∈ vs, v.length = kk) → Instr.fill (fun i => some (i * kk, kk)) cells (((vs.map fun v => Value.agg v.toArray).zipIdx i).map fun x => (x.2, x.1)) = some (cells.toList.take (i * kk) ++ vs.flatten).toArray
 | [], i, cells, h, _ => by
   simp only [List.map_nil, List.zipIdx_nil, Instr.fill, List.flatten_nil, List.append_nil]
   simp only [List.length_nil, Nat.add_zero] at h
   rw [List.take_of_length_le (by simp; omega)]
 | v :: vs, i, cells, h, h1 => by
   have hv := h1 v (by simp)
   have hcs : (Value.agg v.toArray).cells = v.toArray := rfl
   have hle : (i + 1) * kk ≤ cells.size := by rw [h]; exact Nat.mul_le_mul_right _ (by simp)
   rw [Nat.succ_mul] at hle
   have hc : ¬ ((Value.agg v.toArray).cells.size ≠ kk || decide (i * kk + (Value.agg v.toArray).cells.size > cells.size)) = true := by rw [hcs]; simp; omega
   simp only [List.map_cons, List.zipIdx_cons, Instr.fill, hc, if_false]
   rw [hcs, ← Array.foldl_toList, Array.toList_zipIdx, fold_off, fold_mid _ _ _ (by simp; omega)]
   have := fill_k kk vs (i + 1) (cells.toList.take (i * kk + 0) ++ v ++ cells.toList.drop (i * kk + 0 + v.length)).toArray (by
    simp only [List.size_toArray, List.length_append, List.length_take, List.length_drop, Array.length_toList]
    rw [Nat.min_eq_left (by omega)]
    rw [List.length_cons] at h
    rw [h, show i + 1 + vs.length = i + (vs.length + 1) by omega] at *
    omega) (fun u hu => h1 u (by simp [hu]))
   simp only [Array.toArray_toList] at this ⊢
   rw [this]
   congr 2
   rw [List.flatten_cons, ← List.append_assoc]
   congr 1
   rw [List.take_append_of_le_length (by simp; rw [Nat.succ_mul, Nat.min_eq_left (by omega)]; omega)]
   rw [List.take_of_length_le (by simp; rw [Nat.succ_mul, Nat.min_eq_left (by omega)]; omega)]
   simp
theorem s_lita {t e kk bytes m : Nat} {z : Value} {xs : List Operand} {parts : Array (Nat × Operand)} {es : List Ent} {cs : List (List PV)} (d : Nat) (hT : ElT P t e kk bytes z)
 (k : ∀ h : Value, h.oneCell' = true → aL P c ops Q rest ⟨put d (h, .val h) sL, put d (h, .own e kk m cs.flatten) hP⟩) (hw : wants ops sL o = some true := by exact rfl) (hd : o.dst = some d := by exact rfl) (hn : d < c.nt := by exact Nat.le_of_ble_eq_true rfl) (ho : o.op = .buildSlice t m parts := by exact rfl) (hpt : parts = ((xs.zipIdx).map fun x => (x.2, x.1)).toArray := by exact rfl) (hx : evL sL xs = some es := by exact rfl)
 (hcs : es.map (·.2) = cs.map PV.agg := by exact rfl) (hck : ∀ q ∈ cs, q.length = kk := by simp) (hm : es.length = m := by exact rfl) (hm0 : 0 < m := by decide) (hm1 : m ≤ 1000 := by decide) (hk0 : kk ≤ 1000 := by decide) (hl : lk hP d = none := by exact rfl) : aL P c ops Q (o :: rest) (⟨sL, hP⟩ : St) :=
 aL_run hw fun a w F H => by
  obtain ⟨i, hi1, hi2, hi3, hi4⟩ := hT.info
  obtain ⟨he, hS⟩ := evL_spec H.rd hx
  have hkp := hT.hk
  have key : ∀ (es : List Ent) (cs : List (List PV)), es.map (·.2) = cs.map PV.agg → (∀ q ∈ cs, q.length = kk) → (∀ (i : Nat) (x : Value) (q : PV), (es.map (·.1))[i]? = some x → (es.map (·.2))[i]? = some q → Shr (mof c hP F) w x q) → ∃ us : List (List Value), es.map (·.1) = us.map (fun v => Value.agg v.toArray) ∧ us.length = es.length ∧ (∀ u ∈ us, u.length = kk) ∧ us.flatten.length = cs.flatten.length ∧ ∀ (i : Nat) (x : Value) (q : PV), us.flatten[i]? = some x → cs.flatten[i]? = some q → Shr (mof c hP F) w x q := fun es => by
   induction es with
   | nil =>
     intro cs h1 _ _
     cases cs with
     | nil => exact ⟨[], rfl, rfl, by simp, rfl, by simp⟩
     | cons q cs => simp at h1
   | cons e0 es ih =>
     intro cs h1 h2 h3
     cases cs with
     | nil => simp at h1
     | cons q cs =>
       simp only [List.map_cons, List.cons.injEq] at h1
       obtain ⟨us, g1, g2, g3, g4, g5⟩ := ih cs h1.2 (fun u hu => h2 u (List.mem_cons_of_mem _ hu)) (fun i x q hx hq => h3 (i + 1) x q (by simpa using hx) (by simpa using hq))
       have h4 := h3 0 e0.1 e0.2 rfl rfl
       rw [h1.1] at h4
       generalize hv0 : e0.1 = v0 at h4
       have hqk := h2 q (List.mem_cons_self ..)
       cases h4 with
       | agg vs ps hvl hTT =>
         refine ⟨vs :: us, by rw [List.map_cons, List.map_cons, hv0, g1], by simp [g2], fun u hu => ?_, by rw [List.flatten_cons, List.flatten_cons, List.length_append, List.length_append, g4, hvl], fun i x r hx hr => ?_⟩
         · rcases List.mem_cons.1 hu with rfl | hu
           · omega
           · exact g3 u hu
         · rw [List.flatten_cons] at hx hr
           rcases Nat.lt_or_ge i vs.length with hi | hi
           · rw [List.getElem?_append_left hi] at hx
             rw [List.getElem?_append_left (by omega)] at hr
             exact hTT i x r hx hr
           · rw [List.getElem?_append_right hi] at hx
             rw [List.getElem?_append_right (by omega)] at hr
             refine g5 (i - vs.length) x r hx ?_
             rw [hvl]; exact hr
  obtain ⟨us, u1, u2, u3, u4, u5⟩ := key es cs hcs hck hS
  have hfl : us.flatten.length = m * kk := by
   have : ∀ us : List (List Value), (∀ u ∈ us, u.length = kk) → us.flatten.length = us.length * kk := fun us => by
    induction us with
    | nil => intro _; simp
    | cons u us ih =>
      intro h
      rw [List.flatten_cons, List.length_append, h u (List.mem_cons_self ..), ih fun v hv => h v (List.mem_cons_of_mem _ hv), List.length_cons, Nat.succ_mul]; omega
   rw [this us u3, u2, hm]
  have hmk : m * kk ≤ 1000000 := Nat.le_trans (Nat.mul_le_mul hm1 hk0) (by decide)
  have hmk0 : 0 < m * kk := Nat.mul_pos hm0 hkp
  obtain ⟨F', H'⟩ := alloc_holds (e := e) (k := kk) (n := m) (cap := m) (cur := us.flatten.toArray) (v := .slice (some ⟨w.heap.size, 0, none⟩) m m) H hl hn (vs := us.flatten) (ps := cs.flatten) u4 u5 (by first | omega | exact hfl | (rw [hfl]) | (rw [Nat.mul_comm]; exact hfl)) (Nat.le_refl _) (by unfold maxLen; omega) (by simp; rw [← List.length_flatten, hfl]) (List.take_of_length_le (by simp; rw [← List.length_flatten, hfl]; omega))
  have hf := fill_k kk us 0 ((Array.range (m * i.size)).map (z.cells[· % z.cells.size]!)) (by simp [hi3, u2, hm]) u3
  have hpe : (parts.map fun (i, x) => (i, a.eval x)).toList = ((us.map fun v => Value.agg v.toArray).zipIdx 0).map fun x => (x.2, x.1) := by
   rw [hpt, ← u1, ← he]
   simp [List.zipIdx_map]
  have hr := run_buildSlice (P := P) w t e m (parts.map fun (i, x) => (i, a.eval x)) us.flatten.toArray i z hT.ht hi1 hi2 (by rw [hi3]; omega) (by rw [hi3]; omega) (by rw [hpe, hi3]; rw [hi3] at hf; simpa using hf)
  unfold Oper.wp execOp
  simp only [ho, Sem.run_bind, hr, Result.andThen_ok, Sem.run_pure, Oper.upon, hd]
  exact k (.slice (some ⟨w.heap.size, 0, none⟩) m m) rfl _ _ ⟨F', H'⟩
end
def Rr (p p' : PV) : Prop := ∀ (M : BS) (w : World) (v : Value), Shr M w v p → Shr M w v p'
theorem Rr.rfl' (p : PV) : Rr p p := fun _ _ _ h => h
theorem Rr.nil : Rr (.val (.slice none 0 0)) (.sl 0 []) := fun M w v h => by
 cases h with
 | val => exact .emp none 0 (by unfold maxLen; omega) (fun _ => rfl)
theorem Rr.agg {ps ps' : List PV} (hl : ps.length = ps'.length) (h : ∀ (i : Nat) (p p' : PV), ps[i]? = some p → ps'[i]? = some p' → Rr p p') : Rr (.agg ps) (.agg ps') := fun M w v hv => by
 cases hv with
 | agg vs ps hvl hT =>
   refine .agg vs ps' (by omega) fun i x q hx hq => ?_
   obtain ⟨p, hp⟩ := get_of_len hq hl.symm
   exact h i p q hp hq M w x (hT i x p hx hp)
theorem Rr.tup {ps ps' : List PV} (hl : ps.length = ps'.length) (h : ∀ (i : Nat) (p p' : PV), ps[i]? = some p → ps'[i]? = some p' → Rr p p') : Rr (.tup ps) (.tup ps') := fun M w v hv => by
 cases hv with
 | tup vs ps hvl hT =>
   refine .tup vs ps' (by omega) fun i x q hx hq => ?_
   obtain ⟨p, hp⟩ := get_of_len hq hl.symm
   exact h i p q hp hq M w x (hT i x p hx hp)
theorem rslot {sL hP : List (Nat × Ent)} {t : Nat} {v : Value} {p p' : PV} (hl : lk sL t = some (v, p)) (hr : Rr p p') : EntE (⟨sL, hP⟩ : St) (fun _ : Unit => ⟨put t (v, p') sL, hP⟩) := fun c a w ⟨F, H⟩ => by
 refine ⟨(), F, H.toHeapF, fun s u r hs => ?_, H.size, H.df⟩
 rcases lk_put hs with ⟨rfl, e1⟩ | ⟨_, hs'⟩
 · cases e1
   exact ⟨(H.sl t _ _ hl).1, hr _ _ _ (H.sl t _ _ hl).2⟩
 · exact H.sl s u r hs'
end Go.En
namespace Go.Proofs.YtbfilfhgcihhoaaGreatDoor
open Go.RowKit Go.Cb Go.En
set_option linter.all false
set_option maxRecDepth 100000
theorem tAgg24_PtD : AggT Tryz.prog 24 3 = true := by kernel_rfl
theorem tEl138_PtD : ElT Tryz.prog 138 3 1 8 (.int .i64 0) := ⟨Tryz.underlying138, by kernel_rfl, rfl, by decide⟩
theorem tFl24_0_PtD : FldT Tryz.prog 24 0 0 = true := by kernel_rfl
theorem tFl24_1_PtD : FldT Tryz.prog 24 1 1 = true := by kernel_rfl
theorem tFl24_2_PtD : FldT Tryz.prog 24 2 2 = true := by kernel_rfl
theorem tNa22_PtD : NoAgg Tryz.prog 22 = true := by kernel_rfl
theorem tNa3_PtD : NoAgg Tryz.prog 3 = true := by kernel_rfl
theorem tNa9_PtD : NoAgg Tryz.prog 9 = true := by kernel_rfl
theorem tSl138_PtD : SlT Tryz.prog 138 3 1 = true := by kernel_rfl
theorem tSl22_PtD : SlT Tryz.prog 22 24 3 = true := by kernel_rfl
theorem tSt24_PtD : stInfo Tryz.prog 24 = some ((.agg #[(.int .i64 0), (.string ByteArray.empty), (.slice none 0 0)]), ([0, 1, 2] : List Nat).map fun o => (o, 1)) := by kernel_rfl
theorem tZr24_PtD : ZeroT Tryz.prog 24 (.agg #[(.int .i64 0), (.string ByteArray.empty), (.slice none 0 0)]) := by unfold ZeroT; kernel_rfl
theorem q_min {P : Program} {st : St} {o : Oper} {x y : Operand} {t t' : TypeId} {a b : Int} {q q' : PV} (ho : o.op = .call { callee := .builtin .min, args := #[x, y], argTypes := #[t, t'] } := by exact rfl) (hx : ev st.slots x = some (.int .i64 a, q) := by exact rfl) (hy : ev st.slots y = some (.int .i64 b, q') := by exact rfl) : YE P st o (· = .int .i64 (if b < a then b else a)) (.val (.int .i64 (if b < a then b else a))) :=
 y2 hx hy fun ρ w h1 h2 => by
  simp [execOp, ho, h1, h2, resolve, invoke, builtin, Builtin.min_, Builtin.min2]
theorem isNaNInt_e (s : Int) : AF Tryz.prog 101 [pInt s] (· = pBool false) := by
 refine AF.of_body 6 Tryz.func101 rfl Tryz.ntmps101 (Nat.le_of_ble_eq_true rfl) ?_
 intro w0 M0 vs hl hv
 obtain ⟨v0, rfl⟩ := len1 hl
 obtain rfl := hv 0 _ _ rfl rfl
 clear hl hv
 refine nav ?_
 (refine aC_region ?_ <;> refine xL 2 q_assign ?_ <;> refine aL_end (nav ?_) <;> try dsimp only)
 (refine aC_region ?_ <;> refine xL 3 q_move ?_ <;> refine xL 4 q_move ?_ <;> refine xL 5 q_neq ?_ <;> refine xL 2 q_assign ?_ <;> refine aL_end (nav ?_) <;> try dsimp only)
 refine ret_shr (Tryz.results101) rfl ?_
 simp
theorem cmpInt_e (a b : Int) : AF Tryz.prog 70 [pInt a, pInt b] (· = pInt (cmpI3 a b)) := by
 refine AF.of_body 20 Tryz.func70 rfl Tryz.ntmps70 (Nat.le_of_ble_eq_true rfl) ?_
 intro w0 M0 vs hl hv
 obtain ⟨v0, v1, rfl⟩ := len2 hl
 obtain rfl := hv 0 _ _ rfl rfl
 obtain rfl := hv 1 _ _ rfl rfl
 clear hl hv
 refine nav ?_
 (refine aC_region ?_ <;> refine xL 4 q_assign ?_ <;> refine aL_end (nav ?_) <;> try dsimp only)
 (refine aC_region ?_ <;> refine xL 7 q_move ?_ <;> (refine cS 8 (cA Tryz.call101 (isNaNInt_e a)) fun v8 hv8 => ?_; cases hv8) <;> refine xL 5 q_assign ?_ <;> refine aL_end (nav ?_) <;> try dsimp only)
 (refine aC_region ?_ <;> refine xL 9 q_move ?_ <;> (refine cS 10 (cA Tryz.call101 (isNaNInt_e b)) fun v10 hv10 => ?_; cases hv10) <;> refine xL 6 q_assign ?_ <;> refine aL_end (nav ?_) <;> try dsimp only)
 (refine aC_region ?_ <;> refine xL 11 q_move ?_ <;> refine aL_end (nav ?_) <;> try dsimp only)
 refine cCf ?_
 refine nav ?_
 (refine aC_region ?_ <;> refine xL 13 q_move ?_ <;> refine aL_end (nav ?_) <;> try dsimp only)
 refine cCf ?_
 refine nav ?_
 (refine aC_region ?_ <;> refine xL 14 q_move ?_ <;> refine xL 15 q_move ?_ <;> refine xL 16 q_lss ?_ <;> refine aL_end (nav ?_) <;> try dsimp only)
 (first | refine cCd ?_ ?_ | refine cC ?_ ?_) <;> intro hb16
 · first
   | exact Bool.noConfusion hb16
   | (
    refine nav ?_
    (refine aC_region ?_ <;> refine xL 4 q_assign ?_ <;> refine aL_end (nav ?_) <;> try dsimp only)
    refine ret_shr (Tryz.results70) rfl ?_
    rw [cmpI3, if_pos hb16])
 · first
   | exact Bool.noConfusion hb16
   | (
    refine nav ?_
    (refine aC_region ?_ <;> refine xL 17 q_move ?_ <;> refine xL 18 q_move ?_ <;> refine xL 19 q_gtr ?_ <;> refine aL_end (nav ?_) <;> try dsimp only)
    (first | refine cCd ?_ ?_ | refine cC ?_ ?_) <;> intro hb19
    · first
      | exact Bool.noConfusion hb19
      | (
       refine nav ?_
       (refine aC_region ?_ <;> refine xL 4 q_assign ?_ <;> refine aL_end (nav ?_) <;> try dsimp only)
       refine ret_shr (Tryz.results70) rfl ?_
       rw [cmpI3, if_neg (by omega), if_pos (by omega)])
    · first
      | exact Bool.noConfusion hb19
      | (
       refine nav ?_
       (refine aC_region ?_ <;> refine xL 4 q_assign ?_ <;> refine aL_end (nav ?_) <;> try dsimp only)
       refine ret_shr (Tryz.results70) rfl ?_
       rw [cmpI3, if_neg (by omega), if_neg (by omega)]))
def orL : List Int → Int
 | [] => 0
 | x :: l => if x ≠ 0 then x else orL l
theorem orL_three (a b c : Int) : orL [a, b, c] = or3 a b c := by
 unfold or3
 simp only [orL]
 split
 · rfl
 · split
   · rfl
   · split <;> omega
theorem cmpOrI_e (l : List Int) (hl : l.length ≤ 1000) : AF Tryz.prog 69 [pInts l] (· = pInt (orL l)) := by
 refine AF.of_body 18 Tryz.func69 rfl Tryz.ntmps69 (Nat.le_of_ble_eq_true rfl) ?_
 intro w0 M0 vs hl hv
 obtain ⟨v0, rfl⟩ := len1 hl
 clear hl hv
 refine nav ?_
 (refine aC_region ?_ <;> refine xL 2 q_assign ?_ <;> refine aL_end (nav ?_) <;> try dsimp only)
 (refine aC_region ?_ <;> refine xL 3 q_assign ?_ <;> refine aL_end (nav ?_) <;> try dsimp only)
 (refine aC_region ?_ <;> refine xL 6 q_move ?_ <;> refine xL 7 (q_len tSl138_PtD) ?_ <;> refine xL 8 q_move ?_ <;> refine aL_end (nav ?_) <;> try dsimp only)
 refine aC_loop (ι := { k : Nat // k ≤ l.length ∧ orL l = orL (l.drop k) }) (fun k => ⟨[(3, _, _), (6, _, _), (7, _, _), (8, .int .i64 k.1, pInt k.1)], []⟩) (fun k => l.length - k.1) ⟨0, by omega, rfl⟩ (fun a w H => H.weaken ⟨rfl, rfl, rfl, rfl, trivial⟩ trivial) ?_
 rintro ⟨k, hk, hp⟩
 dsimp only
 refine nav ?_
 (refine aC_region ?_ <;> refine xL 9 q_lss ?_ <;> refine aL_end (nav ?_) <;> try dsimp only)
 (first | refine cCd ?_ ?_ | refine cC ?_ ?_) <;> intro hb9
 · first
   | exact Bool.noConfusion hb9
   | (
    obtain ⟨x, hx⟩ := get_some (show k < l.length by omega)
    have e1 := map_at (f := pInt) hx
    have hdr : l.drop k = x :: l.drop (k + 1) := by rw [List.drop_eq_getElem_cons (lt_of_get hx)]; congr 1; exact (List.getElem?_eq_some_iff.1 hx).2
    refine nav ?_
    (refine aC_region ?_ <;> refine xL 10 (q_idxN tSl138_PtD) ?_ <;> (refine yL 11 (q_ld tNa3_PtD) fun v11 hv11 => ?_; cases hv11) <;> refine xL 5 q_assign ?_ <;> refine aL_end (nav ?_) <;> try dsimp only)
    (refine aC_region ?_ <;> refine xL 12 q_move ?_ <;> refine xL 13 q_move ?_ <;> refine xL 14 q_neq ?_ <;> refine aL_end (nav ?_) <;> try dsimp only)
    (first | refine cCd ?_ ?_ | refine cC ?_ ?_) <;> intro hb14
    · first
      | exact Bool.noConfusion hb14
      | (
       refine nav ?_
       (refine aC_region ?_ <;> refine xL 15 q_move ?_ <;> refine xL 2 q_assign ?_ <;> refine aL_end (nav ?_) <;> try dsimp only)
       refine ret_shr (Tryz.results69) rfl ?_
       rw [hp, hdr, orL, if_pos hb14])
    · first
      | exact Bool.noConfusion hb14
      | (
       refine nav ?_
       (refine aC_region ?_ <;> refine xL 16 q_add ?_ <;> refine xL 8 q_move ?_ <;> refine aL_end (nav ?_) <;> try dsimp only)
       refine aN_again (
        ⟨k + 1, by omega, by rw [hp, hdr, orL, if_neg hb14]⟩
        ) (by dsimp only; omega) ⟨rfl, rfl, rfl, rfl, trivial⟩ trivial))
 · first
   | exact Bool.noConfusion hb9
   | (
    refine nav ?_
    (refine aC_region ?_ <;> refine xL 17 q_move ?_ <;> refine xL 2 q_assign ?_ <;> refine aL_end (nav ?_) <;> try dsimp only)
    refine ret_shr (Tryz.results69) rfl ?_
    rw [hp, List.drop_eq_nil_of_le (by omega)]; rfl)
theorem cb_eq : ∀ a b : List UInt8, Lib.compareBytes a b = if Op.bytesLess a b = true then -1 else if (a == b) = true then 0 else 1
 | [], [] => by simp [Lib.compareBytes, Op.bytesLess]
 | [], _ :: _ => by simp [Lib.compareBytes, Op.bytesLess]
 | _ :: _, [] => by simp [Lib.compareBytes, Op.bytesLess]
 | x :: a, y :: b => by
   rw [Lib.compareBytes, cb_eq a b]
   simp only [Op.bytesLess, List.cons_beq_cons]
   by_cases h1 : x < y
   · simp [h1]
   · by_cases h2 : x = y
     · subst h2; simp [h1]
     · have h3 : y < x := UInt8.lt_of_le_of_ne (UInt8.not_lt.1 h1) (Ne.symm h2)
       simp [h1, h2, h3]
theorem cmpEntry (a b : ByteArray) (w : World) : (callFunc 128 #[.string a, .string b]).run Tryz.prog w = .ok (.value (.int .i64 (cmpStr a b))) w := by
 rw [run_callFunc_extern Tryz.func128 (by kernel_rfl) (by kernel_rfl) (by kernel_rfl) (e := Extern.BytealgCompare.compare) (by kernel_rfl), Lib.run_compareString]
 simp only [Result.andThen]
 rw [cb_eq]
 unfold cmpStr strLt strEq
 rw [ByteArray.toList_eq, ByteArray.toList_eq]
theorem q_ext2 {st : St} {o : Oper} {x y : Operand} {f : Nat} {u v r : Value} {p q : PV} {ats : Array TypeId} (hc : ∀ w, (callFunc f #[u, v]).run Tryz.prog w = .ok (.value r) w) (ho : o.op = .call { callee := .value (.func f), args := #[x, y], argTypes := ats } := by exact rfl) (hx : ev st.slots x = some (u, p) := by exact rfl) (hy : ev st.slots y = some (v, q) := by exact rfl) : YE Tryz.prog st o (· = r) (.val r) :=
 .exact fun M F a w H => ⟨.val _, by
  have h1 := (H.ev hx).1
  have h2 := (H.ev hy).1
  have hev : a.eval (.func f) = .func (.func f) #[] #[] := rfl
  simp [execOp, ho, resolve, hev, Deferred.ofValue, invoke, h1, h2, hc]⟩
theorem baCompare_e (a b : ByteArray) : AF Tryz.prog 102 [pStr a, pStr b] (· = pInt (cmpStr a b)) := by
 refine AF.of_body 8 Tryz.func102 rfl Tryz.ntmps102 (Nat.le_of_ble_eq_true rfl) ?_
 intro w0 M0 vs hl hv
 obtain ⟨v0, v1, rfl⟩ := len2 hl
 obtain rfl := hv 0 _ _ rfl rfl
 obtain rfl := hv 1 _ _ rfl rfl
 clear hl hv
 refine nav ?_
 (refine aC_region ?_ <;> refine xL 4 q_assign ?_ <;> refine aL_end (nav ?_) <;> try dsimp only)
 (refine aC_region ?_ <;> refine xL 5 q_move ?_ <;> refine xL 6 q_move ?_ <;> refine xL 7 (q_ext2 (cmpEntry a b)) ?_ <;> refine xL 4 q_assign ?_ <;> refine aL_end (nav ?_) <;> try dsimp only)
 exact ret_shr Tryz.results102 rfl rfl
theorem strCompare_e (a b : ByteArray) : AF Tryz.prog 71 [pStr a, pStr b] (· = pInt (cmpStr a b)) := by
 refine AF.of_body 8 Tryz.func71 rfl Tryz.ntmps71 (Nat.le_of_ble_eq_true rfl) ?_
 intro w0 M0 vs hl hv
 obtain ⟨v0, v1, rfl⟩ := len2 hl
 clear hl hv
 refine nav ?_
 (refine aC_region ?_ <;> refine xL 4 q_assign ?_ <;> refine aL_end (nav ?_) <;> try dsimp only)
 (refine aC_region ?_ <;> refine xL 5 q_move ?_ <;> refine xL 6 q_move ?_ <;> (refine cS 7 (cA Tryz.call102 (baCompare_e a b)) fun v7 hv7 => ?_; cases hv7) <;> refine xL 4 q_assign ?_ <;> refine aL_end (nav ?_) <;> try dsimp only)
 exact ret_shr Tryz.results71 rfl rfl
theorem cmpL_drop {l m : List Nd} {k : Nat} {x y : Nd} (hx : l[k]? = some x) (hy : m[k]? = some y) : cmpL (l.drop k) (m.drop k) = if cmpT x y ≠ 0 then cmpT x y else cmpL (l.drop (k + 1)) (m.drop (k + 1)) := by
 rw [List.drop_eq_getElem_cons (lt_of_get hx), List.drop_eq_getElem_cons (lt_of_get hy), (List.getElem?_eq_some_iff.1 hx).2, (List.getElem?_eq_some_iff.1 hy).2, cmpL]
theorem cmpL_end {l m : List Nd} {k : Nat} (hk : k ≤ l.length) (hk' : k ≤ m.length) (h : ¬ (k < l.length ∧ k < m.length)) : cmpL (l.drop k) (m.drop k) = if l.length < m.length then -1 else if m.length < l.length then 1 else 0 := by
 rcases Nat.lt_or_ge k l.length with h1 | h1
 · have h2 : k = m.length := by omega
   subst h2
   rw [List.drop_eq_nil_of_le (Nat.le_refl m.length), List.drop_eq_getElem_cons h1, cmpL, if_neg (by omega), if_pos h1]
 · have h2 : k = l.length := by omega
   subst h2
   rw [List.drop_eq_nil_of_le (Nat.le_refl l.length), if_neg (by omega : ¬ m.length < l.length)]
   rcases Nat.lt_or_ge l.length m.length with h3 | h3
   · rw [List.drop_eq_getElem_cons h3, cmpL, if_pos h3]
   · have h4 : l.length = m.length := by omega
     rw [List.drop_eq_nil_of_le (by omega), cmpL, if_neg (by omega)]
theorem tCompareFn_e (f : Nat) (l m : List Nd) (hl : l.length ≤ 140737488355328) (hm : m.length ≤ 140737488355328) (hc : ∀ args w, (callFunc f args).run Tryz.prog w = .ok (.enter f args) w) (hf : ∀ x ∈ l, ∀ y ∈ m, AF Tryz.prog f [pTr x, pTr y] (· = pInt (cmpT x y))) : AF Tryz.prog 72 [pTrs l, pTrs m, .fn f []] (· = pInt (cmpL l m)) := by
 refine AF.of_body 39 Tryz.func72 rfl Tryz.ntmps72 (Nat.le_of_ble_eq_true rfl) ?_
 intro w0 M0 vs hl hv
 obtain ⟨v0, v1, v2, rfl⟩ := len3 hl
 clear hl hv
 refine nav ?_
 (refine aC_region ?_ <;> refine xL 6 q_assign ?_ <;> refine aL_end (nav ?_) <;> try dsimp only)
 (refine aC_region ?_ <;> refine xL 11 q_move ?_ <;> refine xL 12 (q_len tSl22_PtD) ?_ <;> refine xL 13 q_move ?_ <;> refine aL_end (nav ?_) <;> try dsimp only)
 refine aC_loop (ι := { k : Nat // k ≤ l.length ∧ k ≤ m.length ∧ cmpL l m = cmpL (l.drop k) (m.drop k) }) (fun k => ⟨[(0, _, _), (1, _, _), (2, _, _), (11, _, _), (12, _, _), (13, .int .i64 k.1, pInt k.1)], []⟩) (fun k => l.length - k.1) ⟨0, by omega, by omega, rfl⟩ (fun a w H => H.weaken ⟨rfl, rfl, rfl, rfl, rfl, rfl, trivial⟩ trivial) ?_
 rintro ⟨k, hk, hkm, hp⟩
 dsimp only
 refine nav ?_
 (refine aC_region ?_ <;> refine xL 14 q_lss ?_ <;> refine aL_end (nav ?_) <;> try dsimp only)
 (first | refine cCd ?_ ?_ | refine cC ?_ ?_) <;> intro hb14
 · first
   | exact Bool.noConfusion hb14
   | (
    obtain ⟨x, hx⟩ := get_some (show k < l.length by omega)
    have e1 := tr_drop hx
    have e2 := tr_fit hx
    refine nav ?_
    (refine aC_region ?_ <;> refine xL 15 q_move ?_ <;> refine xL 16 (q_idxN tSl22_PtD) ?_ <;> (refine yL 17 (q_lda tAgg24_PtD) fun v17 hv17 => ?_; cases hv17) <;> refine s_alloc [(.int .i64 0), (.string ByteArray.empty), (.slice none 0 0)] 3 8 tZr24_PtD fun h8 => ?_ <;> refine xL 7 q_assign ?_ <;> refine s_sta 8 tAgg24_PtD ?_ <;> refine aL_end (nav ?_) <;> try dsimp only)
    (refine aC_region ?_ <;> refine xL 18 q_move ?_ <;> refine xL 19 q_move ?_ <;> refine xL 20 (q_len tSl22_PtD) ?_ <;> refine xL 21 q_geq ?_ <;> refine aL_end (nav ?_) <;> try dsimp only)
    (first | refine cCd ?_ ?_ | refine cC ?_ ?_) <;> intro hb21
    · first
      | exact Bool.noConfusion hb21
      | (
       refine nav ?_
       (refine aC_region ?_ <;> refine xL 6 q_assign ?_ <;> refine aL_end (nav ?_) <;> try dsimp only)
       refine ret_shr (Tryz.results72) rfl ?_
       rw [hp, cmpL_end hk hkm (by omega), if_neg (by omega), if_pos (by omega)])
    · first
      | exact Bool.noConfusion hb21
      | (
       obtain ⟨y, hy⟩ := get_some (show k < m.length by omega)
       have e3 := tr_drop hy
       have e4 := tr_fit hy
       have hd := cmpL_drop hx hy
       refine nav ?_
       (refine aC_region ?_ <;> refine xL 22 q_move ?_ <;> refine xL 23 q_move ?_ <;> refine xL 24 (q_idxN tSl22_PtD) ?_ <;> (refine yL 25 (q_lda tAgg24_PtD) fun v25 hv25 => ?_; cases hv25) <;> refine s_alloc [(.int .i64 0), (.string ByteArray.empty), (.slice none 0 0)] 3 9 tZr24_PtD fun h9 => ?_ <;> refine s_sta 9 tAgg24_PtD ?_ <;> refine aL_end (nav ?_) <;> try dsimp only)
       (refine aC_region ?_ <;> refine xL 26 q_move ?_ <;> (refine yL 27 (q_ldao 8 tAgg24_PtD) fun v27 hv27 => ?_; cases hv27) <;> (refine yL 28 (q_ldao 9 tAgg24_PtD) fun v28 hv28 => ?_; cases hv28) <;> (refine cS 29 (callF (f := f) (ps := []) rfl ⟨_, rfl⟩ hc rfl (hf x (List.mem_of_getElem? hx) y (List.mem_of_getElem? hy))) fun v29 hv29 => ?_; cases hv29) <;> refine xL 10 q_assign ?_ <;> refine aL_end (nav ?_) <;> try dsimp only)
       (refine aC_region ?_ <;> refine xL 30 q_move ?_ <;> refine xL 31 q_neq ?_ <;> refine aL_end (nav ?_) <;> try dsimp only)
       (first | refine cCd ?_ ?_ | refine cC ?_ ?_) <;> intro hb31
       · first
         | exact Bool.noConfusion hb31
         | (
          refine nav ?_
          (refine aC_region ?_ <;> refine xL 32 q_move ?_ <;> refine xL 6 q_assign ?_ <;> refine aL_end (nav ?_) <;> try dsimp only)
          refine ret_shr (Tryz.results72) rfl ?_
          rw [hp, hd, if_pos hb31])
       · first
         | exact Bool.noConfusion hb31
         | (
          refine nav ?_
          (refine aC_region ?_ <;> refine xL 33 q_add ?_ <;> refine xL 13 q_move ?_ <;> refine aL_end (nav ?_) <;> try dsimp only)
          refine aN_again (
           ⟨k + 1, by omega, by omega, by rw [hp, hd, if_neg hb31]⟩
           ) (by dsimp only; omega) ⟨rfl, rfl, rfl, rfl, rfl, rfl, trivial⟩ trivial)))
 · first
   | exact Bool.noConfusion hb14
   | (
    refine nav ?_
    (refine aC_region ?_ <;> refine xL 34 q_move ?_ <;> refine xL 35 (q_len tSl22_PtD) ?_ <;> refine xL 36 q_move ?_ <;> refine xL 37 (q_len tSl22_PtD) ?_ <;> refine xL 38 q_lss ?_ <;> refine aL_end (nav ?_) <;> try dsimp only)
    (first | refine cCd ?_ ?_ | refine cC ?_ ?_) <;> intro hb38
    · first
      | exact Bool.noConfusion hb38
      | (
       refine nav ?_
       (refine aC_region ?_ <;> refine xL 6 q_assign ?_ <;> refine aL_end (nav ?_) <;> try dsimp only)
       refine ret_shr (Tryz.results72) rfl ?_
       rw [hp, cmpL_end hk hkm (by omega), if_pos (by omega)])
    · first
      | exact Bool.noConfusion hb38
      | (
       refine nav ?_
       (refine aC_region ?_ <;> refine xL 6 q_assign ?_ <;> refine aL_end (nav ?_) <;> try dsimp only)
       refine ret_shr (Tryz.results72) rfl ?_
       rw [hp, cmpL_end hk hkm (by omega), if_neg (by omega), if_neg (by omega)]))
theorem tCmp_e : ∀ (t u : Nd), FitT t → FitT u → AF Tryz.prog 47 [pTr t, pTr u] (· = pInt (cmpT t u)) := Nd.ind fun o a l ih u hf hg => by
 obtain ⟨o', a', l'⟩ := u
 have hl := hf.len
 have hp := hf.p
 have hl' := hg.len
 have hp' := hg.p
 simp only [Nd.l] at hl hp hl' hp'
 refine AF.of_body 22 Tryz.func47 rfl Tryz.ntmps47 (Nat.le_of_ble_eq_true rfl) ?_
 intro w0 M0 vs hl hv
 obtain ⟨v0, v1, rfl⟩ := len2 hl
 clear hl hv
 have e0 : pTr (.mk o a l) = .agg [pInt o, pStr a, .sl l.length (cTrs l)] := rfl
 have e1 : pTr (.mk o' a' l') = .agg [pInt o', pStr a', .sl l'.length (cTrs l')] := rfl
 rw [e0, e1]
 refine nav ?_
 (refine aC_region ?_ <;> refine s_boxa 2 3 fun h2 => ?_ <;> refine s_boxa 3 3 fun h3 => ?_ <;> refine xL 4 q_assign ?_ <;> refine aL_end (nav ?_) <;> try dsimp only)
 (refine aC_draw (fun i => ([] : List Nat).elem i) [2, 3] (by kernel_rfl) ?_ <;> refine xD 0 5 rfl (q_fldo 2 tFl24_0_PtD) ?_ <;> (refine yD 1 6 rfl (q_ldo 2 tNa3_PtD) fun v6 hv6 => ?_; cases hv6) <;> refine xD 2 7 rfl (q_fldo 3 tFl24_0_PtD) ?_ <;> (refine yD 3 8 rfl (q_ldo 3 tNa3_PtD) fun v8 hv8 => ?_; cases hv8) <;> refine xD 5 10 rfl (q_fldo 2 tFl24_1_PtD) ?_ <;> (refine yD 6 11 rfl (q_ldo 2 tNa9_PtD) fun v11 hv11 => ?_; cases hv11) <;> refine xD 7 12 rfl (q_fldo 3 tFl24_1_PtD) ?_ <;> (refine yD 8 13 rfl (q_ldo 3 tNa9_PtD) fun v13 hv13 => ?_; cases hv13) <;> refine xD 10 15 rfl (q_fldo 2 tFl24_2_PtD) ?_ <;> (refine yD 11 16 rfl (q_ldo 2 tNa22_PtD) fun v16 hv16 => ?_; cases hv16) <;> refine xD 12 17 rfl (q_fldo 3 tFl24_2_PtD) ?_ <;> (refine yD 13 18 rfl (q_ldo 3 tNa22_PtD) fun v18 hv18 => ?_; cases hv18) <;> (refine aD_one 4 (by kernel_rfl) ?_) <;> (refine aW_run rfl fun w9 M9 N9 DQ back => ?_) <;> (refine cS 9 (cA Tryz.call70 (cmpInt_e o o')) fun v9 hv9 => ?_; cases hv9) <;> refine aL_end (back _ (nrm ?_)) <;> (refine aD_one 9 (by kernel_rfl) ?_) <;> (refine aW_run rfl fun w9 M9 N9 DQ back => ?_) <;> (refine cS 14 (cA Tryz.call71 (strCompare_e a a')) fun v14 hv14 => ?_; cases hv14) <;> refine aL_end (back _ (nrm ?_)) <;> (refine aD_one 14 (by kernel_rfl) ?_) <;> (refine aW_run rfl fun w9 M9 N9 DQ back => ?_) <;> (refine cS 19 (cA Tryz.call72 (tCompareFn_e 47 l l' hl hl' (Tryz.call47) (fun x hx y hy => ih x hx y (hp x hx) (hp' y hy)))) fun v19 hv19 => ?_; cases hv19) <;> refine aL_end (back _ (nrm ?_)) <;> (refine aD_one 15 (by kernel_rfl) ?_) <;> (refine aW_run rfl fun w9 M9 N9 DQ back => ?_) <;> (refine s_litn (xs := [_, _, _]) 20 tEl138_PtD fun h20 ho20 => ?_; refine aL_ent (En.freeze (l := 20) (t := 20) rfl rfl) fun _ => ?_) <;> refine aL_end (back _ (nrm ?_)) <;> (refine aD_one 16 (by kernel_rfl) ?_) <;> (refine aW_run rfl fun w9 M9 N9 DQ back => ?_) <;> (refine cS 21 (cA Tryz.call69 (cmpOrI_e [cmpI3 o o', cmpStr a a', cmpL l l'] (by simp only [List.length_cons, List.length_nil]; omega))) fun v21 hv21 => ?_; cases hv21) <;> refine aL_end (back _ (nrm ?_)) <;> refine xE 17 4 rfl q_assign ?_ <;> refine aD_end (by kernel_rfl) (nav ?_) <;> try dsimp only)
 refine ret_shr (Tryz.results47) rfl ?_
 rw [orL_three, cmpT]
def sameT (t u : Nd) : Bool := decide (cmpT t u = 0)
theorem sameT_iff {t u : Nd} : sameT t u = true ↔ t = u := by unfold sameT; rw [decide_eq_true_eq, cmpT_zero]
theorem sameT_no {t u : Nd} (h : t ≠ u) : sameT t u = false := by
 cases hs : sameT t u with
 | false => rfl
 | true => exact absurd (sameT_iff.1 hs) h
theorem nd_ext {o o' : Int} {a a' : ByteArray} {l l' : List Nd} (h1 : o = o') (h2 : a = a') (h3 : l.length = l'.length) (h4 : ∀ (j : Nat) (x y : Nd), l[j]? = some x → l'[j]? = some y → x = y) : Nd.mk o a l = Nd.mk o' a' l' := by
 have : l = l' := by
  apply List.ext_getElem?
  intro i
  rcases Nat.lt_or_ge i l.length with h | h
  · obtain ⟨x, hx⟩ := get_some h
    obtain ⟨y, hy⟩ := get_some (show i < l'.length by omega)
    rw [hx, hy, h4 i x y hx hy]
  · rw [List.getElem?_eq_none h, List.getElem?_eq_none (by omega)]
 rw [h1, h2, this]
theorem rtSame_e : ∀ (t u : Nd), FitT t → FitT u → AF Tryz.prog 15 [pTr t, pTr u] (· = pBool (sameT t u)) := Nd.ind fun o a l ih u hf hg => by
 obtain ⟨o', a', l'⟩ := u
 have hl := hf.len
 have hp := hf.p
 have hl' := hg.len
 have hp' := hg.p
 simp only [Nd.l] at hl hp hl' hp'
 refine AF.of_body 46 Tryz.func15 rfl Tryz.ntmps15 (Nat.le_of_ble_eq_true rfl) ?_
 intro w0 M0 vs hl hv
 obtain ⟨v0, v1, rfl⟩ := len2 hl
 clear hl hv
 have e0 : pTr (.mk o a l) = .agg [pInt o, pStr a, .sl l.length (cTrs l)] := rfl
 have e1 : pTr (.mk o' a' l') = .agg [pInt o', pStr a', .sl l'.length (cTrs l')] := rfl
 rw [e0, e1]
 refine nav ?_
 (refine aC_region ?_ <;> refine s_boxa 2 3 fun h2 => ?_ <;> refine s_boxa 3 3 fun h3 => ?_ <;> refine xL 4 q_assign ?_ <;> refine aL_end (nav ?_) <;> try dsimp only)
 (refine aC_region ?_ <;> refine xL 6 (q_fldo 2 tFl24_0_PtD) ?_ <;> (refine yL 7 (q_ldo 2 tNa3_PtD) fun v7 hv7 => ?_; cases hv7) <;> refine xL 8 (q_fldo 3 tFl24_0_PtD) ?_ <;> (refine yL 9 (q_ldo 3 tNa3_PtD) fun v9 hv9 => ?_; cases hv9) <;> refine xL 10 q_neq ?_ <;> refine xL 11 q_move ?_ <;> (refine bLd 11 (fun hb11 => ?_) (fun hb11 => ?_) <;> (first | refine kL 12 ?_ | refine xL 12 (q_fldo 2 tFl24_1_PtD) ?_)) <;> (first | refine kL 13 ?_ | (refine yL 13 (q_ldo 2 tNa9_PtD) fun v13 hv13 => ?_; cases hv13)) <;> (first | refine kL 14 ?_ | refine xL 14 (q_fldo 3 tFl24_1_PtD) ?_) <;> (first | refine kL 15 ?_ | (refine yL 15 (q_ldo 3 tNa9_PtD) fun v15 hv15 => ?_; cases hv15)) <;> (first | refine kL 16 ?_ | refine xL 16 q_sneq ?_) <;> refine xL 17 q_pick ?_ <;> refine xL 18 q_move ?_ <;> (first | refine kL 19 ?_ | (refine bL 18 (fun hb18 => ?_) (fun hb18 => ?_) <;> (first | refine kL 19 ?_ | refine xL 19 (q_fldo 2 tFl24_2_PtD) ?_))) <;> (first | refine kL 20 ?_ | (refine yL 20 (q_ldo 2 tNa22_PtD) fun v20 hv20 => ?_; cases hv20)) <;> (first | refine kL 21 ?_ | refine xL 21 (q_len tSl22_PtD) ?_) <;> (first | refine kL 22 ?_ | refine xL 22 (q_fldo 3 tFl24_2_PtD) ?_) <;> (first | refine kL 23 ?_ | (refine yL 23 (q_ldo 3 tNa22_PtD) fun v23 hv23 => ?_; cases hv23)) <;> (first | refine kL 24 ?_ | refine xL 24 (q_len tSl22_PtD) ?_) <;> (first | refine kL 25 ?_ | refine xL 25 q_neq ?_) <;> refine xL 26 q_pick ?_ <;> refine aL_end (nav ?_) <;> try dsimp only) <;> (
  (first | refine cCd ?_ ?_ | refine cC ?_ ?_) <;> intro hb26
  · first
    | exact Bool.noConfusion hb26
    | (
     refine nav ?_
     (refine aC_region ?_ <;> refine xL 4 q_assign ?_ <;> refine aL_end (nav ?_) <;> try dsimp only)
     refine ret_shr (Tryz.results15) rfl ?_
     rw [sameT_no fun h => ?_]
     injection h with h1 h2 h3
     subst h1 h2 h3
     first
      | omega
      | (simp at hb18; done)
      | (simp at hb26; done))
  · first
    | exact Bool.noConfusion hb26
    | (
     have ho : o = o' := by omega
     have ha : a = a' := by
      have : (a.toList == a'.toList) = true := by simpa using hb18
      exact strEq_iff.1 this
     have hll : l.length = l'.length := by omega
     refine nav ?_
     (refine aC_region ?_ <;> refine xL 5 q_assign ?_ <;> refine aL_end (nav ?_) <;> try dsimp only)
     refine aC_loop (ι := { k : Nat // k ≤ l.length ∧ ∀ j x y, j < k → l[j]? = some x → l'[j]? = some y → x = y }) (fun k => ⟨[(2, _, _), (3, _, _), (5, .int .i64 k.1, pInt k.1)], [(2, _, _), (3, _, _)]⟩) (fun k => l.length - k.1) ⟨0, by omega, by omega⟩ (fun a w H => H.weaken ⟨rfl, rfl, rfl, trivial⟩ ⟨rfl, rfl, trivial⟩) ?_
     rintro ⟨k, hk, hp3⟩
     dsimp only
     refine nav ?_
     (refine aC_region ?_ <;> refine xL 27 q_move ?_ <;> refine xL 28 (q_fldo 2 tFl24_2_PtD) ?_ <;> (refine yL 29 (q_ldo 2 tNa22_PtD) fun v29 hv29 => ?_; cases hv29) <;> refine xL 30 (q_len tSl22_PtD) ?_ <;> refine xL 31 q_lss ?_ <;> refine aL_end (nav ?_) <;> try dsimp only)
     (first | refine cCd ?_ ?_ | refine cC ?_ ?_) <;> intro hb31
     · first
       | exact Bool.noConfusion hb31
       | (
        obtain ⟨x, hx⟩ := get_some (show k < l.length by omega)
        obtain ⟨y, hy⟩ := get_some (show k < l'.length by omega)
        have e1 := tr_drop hx
        have e2 := tr_fit hx
        have e3 := tr_drop hy
        have e4 := tr_fit hy
        have hxm := List.mem_of_getElem? hx
        have hym := List.mem_of_getElem? hy
        refine nav ?_
        (refine aC_draw (fun i => ([] : List Nat).elem i) [2, 3] (by kernel_rfl) ?_ <;> refine xD 0 34 rfl (q_fldo 2 tFl24_2_PtD) ?_ <;> (refine yD 1 35 rfl (q_ldo 2 tNa22_PtD) fun v35 hv35 => ?_; cases hv35) <;> refine xD 2 36 rfl q_move ?_ <;> refine xD 3 37 rfl (q_idxN tSl22_PtD) ?_ <;> (refine yD 4 38 rfl (q_lda tAgg24_PtD) fun v38 hv38 => ?_; cases hv38) <;> refine xD 5 39 rfl (q_fldo 3 tFl24_2_PtD) ?_ <;> (refine yD 6 40 rfl (q_ldo 3 tNa22_PtD) fun v40 hv40 => ?_; cases hv40) <;> refine xE 7 41 rfl q_move ?_ <;> refine xE 8 42 rfl (q_idxN tSl22_PtD) ?_ <;> (refine yE 9 43 rfl (q_lda tAgg24_PtD) fun v43 hv43 => ?_; cases hv43) <;> (refine aD_one 10 (by kernel_rfl) ?_) <;> (refine aW_run rfl fun w9 M9 N9 DQ back => ?_) <;> (refine cS 44 (cA Tryz.call15 (ih x hxm y (hp x hxm) (hp' y hym))) fun v44 hv44 => ?_; cases hv44) <;> refine aL_end (back _ (nrm ?_)) <;> refine xE 11 45 rfl q_not ?_ <;> refine aD_end (by kernel_rfl) (nav ?_) <;> try dsimp only)
        (first | refine cCd ?_ ?_ | refine cC ?_ ?_) <;> intro hb45
        · first
          | exact Bool.noConfusion hb45
          | (
           refine nav ?_
           (refine aC_region ?_ <;> refine xL 4 q_assign ?_ <;> refine aL_end (nav ?_) <;> try dsimp only)
           refine ret_shr (Tryz.results15) rfl ?_
           rw [sameT_no fun h => ?_]
           injection h with h1 h2 h3
           subst h3
           rw [hx] at hy
           cases hy
           rw [sameT_iff.2 rfl] at hb45
           cases hb45)
        · first
          | exact Bool.noConfusion hb45
          | (
           refine nav ?_
           (refine aC_region ?_ <;> refine xL 32 q_move ?_ <;> refine xL 33 q_add ?_ <;> refine xL 5 q_assign ?_ <;> refine aL_end (nav ?_) <;> try dsimp only)
           refine aN_again (
            ⟨k + 1, by omega, fun j u v hj hu hv => by
             by_cases e : j = k
             · subst e
               rw [hx] at hu; rw [hy] at hv; cases hu; cases hv
               exact sameT_iff.1 (by simpa using hb45)
             · exact hp3 j u v (by omega) hu hv⟩
            ) (by dsimp only; omega) ⟨rfl, rfl, rfl, trivial⟩ ⟨rfl, rfl, trivial⟩))
     · first
       | exact Bool.noConfusion hb31
       | (
        refine nav ?_
        (refine aC_region ?_ <;> refine xL 4 q_assign ?_ <;> refine aL_end (nav ?_) <;> try dsimp only)
        refine ret_shr (Tryz.results15) rfl ?_
        rw [sameT_iff.2 (nd_ext ho ha hll fun j u v hu hv => hp3 j u v (by have := lt_of_get hu; omega) hu hv)])))
def nd0 : Nd := .mk 0 ByteArray.empty []
theorem fit_nd0 : FitT nd0 := .mk _ (Nat.zero_le _) (Nat.zero_le _) (by decide) (by decide) (fun x hx => by cases hx)
def zeroN : PV := .agg [.val (.int .i64 0), .val (.string ByteArray.empty), .val (.slice none 0 0)]
theorem rr_zeroN : Rr zeroN (pTr nd0) := Rr.agg rfl fun i a b ha hb => by
 match i with
 | 0 => cases ha; cases hb; exact Rr.rfl' _
 | 1 => cases ha; cases hb; exact Rr.rfl' _
 | 2 => cases ha; cases hb; exact Rr.nil
 | i + 3 => simp at ha
theorem w19None_e (t : Nd) (hf : FitT t) : AF Tryz.prog 20 [pTr t] (· = pBool (sameT t nd0)) := by
 refine AF.of_body 6 Tryz.func20 rfl Tryz.ntmps20 (Nat.le_of_ble_eq_true rfl) ?_
 intro w0 M0 vs hl hv
 obtain ⟨v0, rfl⟩ := len1 hl
 clear hl hv
 have e0 : pTr t = .agg [pInt t.op, pStr t.act, pTrs t.l] := rfl
 rw [e0]
 refine nav ?_
 (refine aC_region ?_ <;> refine s_boxa 1 3 fun h1 => ?_ <;> refine xL 2 q_assign ?_ <;> refine aL_end (nav ?_) <;> try dsimp only)
 (refine aC_region ?_ <;> (refine yL 3 (q_ldao 1 tAgg24_PtD) fun v3 hv3 => ?_; cases hv3) <;> refine xL 4 (q_build tSt24_PtD) ?_ <;> (refine aL_ent (rslot (t := 4) (p' := pTr nd0) rfl rr_zeroN) fun _ => ?_; refine cS 5 (cA Tryz.call15 (rtSame_e t nd0 hf fit_nd0)) fun v5 hv5 => ?_; cases hv5) <;> refine xL 2 q_assign ?_ <;> refine aL_end (nav ?_) <;> try dsimp only)
 exact ret_shr Tryz.results20 rfl rfl
theorem sameT_parts {o o' : Int} {a a' : ByteArray} {l l' : List Nd} (h1 : o = o') (h2 : a = a') : sameT (.mk 0 ByteArray.empty l) (.mk 0 ByteArray.empty l') = sameT (.mk o a l) (.mk o' a' l') := by
 subst h1 h2
 rw [Bool.eq_iff_iff, sameT_iff, sameT_iff]
 exact ⟨fun h => by injection h with h1 h2 h3; rw [h3], fun h => by injection h with h1 h2 h3; rw [h3]⟩
theorem tEqualFn_e (f : Nat) (l m : List Nd) (hl : l.length ≤ 140737488355328) (hm : m.length ≤ 140737488355328) (hc : ∀ args w, (callFunc f args).run Tryz.prog w = .ok (.enter f args) w) (hf : ∀ x ∈ l, ∀ y ∈ m, AF Tryz.prog f [pTr x, pTr y] (· = pBool (sameT x y))) : AF Tryz.prog 49 [pTrs l, pTrs m, .fn f []] (· = pBool (sameT (.mk 0 ByteArray.empty l) (.mk 0 ByteArray.empty m))) := by
 refine AF.of_body 32 Tryz.func49 rfl Tryz.ntmps49 (Nat.le_of_ble_eq_true rfl) ?_
 intro w0 M0 vs hl hv
 obtain ⟨v0, v1, v2, rfl⟩ := len3 hl
 clear hl hv
 refine nav ?_
 (refine aC_region ?_ <;> refine xL 6 q_assign ?_ <;> refine aL_end (nav ?_) <;> try dsimp only)
 (refine aC_region ?_ <;> refine xL 10 q_move ?_ <;> refine xL 11 (q_len tSl22_PtD) ?_ <;> refine xL 12 q_move ?_ <;> refine xL 13 (q_len tSl22_PtD) ?_ <;> refine xL 14 q_neq ?_ <;> refine aL_end (nav ?_) <;> try dsimp only)
 (first | refine cCd ?_ ?_ | refine cC ?_ ?_) <;> intro hb14
 · first
   | exact Bool.noConfusion hb14
   | (
    refine nav ?_
    (refine aC_region ?_ <;> refine xL 6 q_assign ?_ <;> refine aL_end (nav ?_) <;> try dsimp only)
    refine ret_shr (Tryz.results49) rfl ?_
    rw [sameT_no fun h => ?_]
    injection h with h1 h2 h3
    subst h3
    omega)
 · first
   | exact Bool.noConfusion hb14
   | (
    have hll : l.length = m.length := by omega
    refine nav ?_
    (refine aC_region ?_ <;> refine xL 15 q_move ?_ <;> refine xL 16 (q_len tSl22_PtD) ?_ <;> refine xL 17 q_move ?_ <;> refine aL_end (nav ?_) <;> try dsimp only)
    refine aC_loop (ι := { k : Nat // k ≤ l.length ∧ ∀ j x y, j < k → l[j]? = some x → m[j]? = some y → x = y }) (fun k => ⟨[(1, _, _), (2, _, _), (15, _, _), (16, _, _), (17, .int .i64 k.1, pInt k.1)], []⟩) (fun k => l.length - k.1) ⟨0, by omega, by omega⟩ (fun a w H => H.weaken ⟨rfl, rfl, rfl, rfl, rfl, trivial⟩ trivial) ?_
    rintro ⟨k, hk, hp3⟩
    dsimp only
    refine nav ?_
    (refine aC_region ?_ <;> refine xL 18 q_lss ?_ <;> refine aL_end (nav ?_) <;> try dsimp only)
    (first | refine cCd ?_ ?_ | refine cC ?_ ?_) <;> intro hb18
    · first
      | exact Bool.noConfusion hb18
      | (
       obtain ⟨x, hx⟩ := get_some (show k < l.length by omega)
       obtain ⟨y, hy⟩ := get_some (show k < m.length by omega)
       have e1 := tr_drop hx
       have e2 := tr_fit hx
       have e3 := tr_drop hy
       have e4 := tr_fit hy
       refine nav ?_
       (refine aC_region ?_ <;> refine xL 19 q_move ?_ <;> refine xL 20 (q_idxN tSl22_PtD) ?_ <;> (refine yL 21 (q_lda tAgg24_PtD) fun v21 hv21 => ?_; cases hv21) <;> refine s_alloc [(.int .i64 0), (.string ByteArray.empty), (.slice none 0 0)] 3 8 tZr24_PtD fun h8 => ?_ <;> refine xL 7 q_assign ?_ <;> refine s_sta 8 tAgg24_PtD ?_ <;> refine aL_end (nav ?_) <;> try dsimp only)
       (refine aC_region ?_ <;> refine xL 22 q_move ?_ <;> refine xL 23 q_move ?_ <;> refine xL 24 (q_idxN tSl22_PtD) ?_ <;> (refine yL 25 (q_lda tAgg24_PtD) fun v25 hv25 => ?_; cases hv25) <;> refine s_alloc [(.int .i64 0), (.string ByteArray.empty), (.slice none 0 0)] 3 9 tZr24_PtD fun h9 => ?_ <;> refine s_sta 9 tAgg24_PtD ?_ <;> refine aL_end (nav ?_) <;> try dsimp only)
       (refine aC_region ?_ <;> refine xL 26 q_move ?_ <;> (refine yL 27 (q_ldao 8 tAgg24_PtD) fun v27 hv27 => ?_; cases hv27) <;> (refine yL 28 (q_ldao 9 tAgg24_PtD) fun v28 hv28 => ?_; cases hv28) <;> (refine cS 29 (callF (f := f) (ps := []) rfl ⟨_, rfl⟩ hc rfl (hf x (List.mem_of_getElem? hx) y (List.mem_of_getElem? hy))) fun v29 hv29 => ?_; cases hv29) <;> refine xL 30 q_not ?_ <;> refine aL_end (nav ?_) <;> try dsimp only)
       (first | refine cCd ?_ ?_ | refine cC ?_ ?_) <;> intro hb30
       · first
         | exact Bool.noConfusion hb30
         | (
          refine nav ?_
          (refine aC_region ?_ <;> refine xL 6 q_assign ?_ <;> refine aL_end (nav ?_) <;> try dsimp only)
          refine ret_shr (Tryz.results49) rfl ?_
          rw [sameT_no fun h => ?_]
          injection h with h1 h2 h3
          subst h3
          rw [hx] at hy
          cases hy
          rw [sameT_iff.2 rfl] at hb30
          cases hb30)
       · first
         | exact Bool.noConfusion hb30
         | (
          refine nav ?_
          (refine aC_region ?_ <;> refine xL 31 q_add ?_ <;> refine xL 17 q_move ?_ <;> refine aL_end (nav ?_) <;> try dsimp only)
          refine aN_again (
           ⟨k + 1, by omega, fun j u v hj hu hv => by
            by_cases e : j = k
            · subst e
              rw [hx] at hu; rw [hy] at hv; cases hu; cases hv
              exact sameT_iff.1 (by simpa using hb30)
            · exact hp3 j u v (by omega) hu hv⟩
           ) (by dsimp only; omega) ⟨rfl, rfl, rfl, rfl, rfl, trivial⟩ trivial))
    · first
      | exact Bool.noConfusion hb18
      | (
       refine nav ?_
       (refine aC_region ?_ <;> refine xL 6 q_assign ?_ <;> refine aL_end (nav ?_) <;> try dsimp only)
       refine ret_shr (Tryz.results49) rfl ?_
       rw [sameT_iff.2 (nd_ext rfl rfl hll fun j u v hu hv => hp3 j u v (by have := lt_of_get hu; omega) hu hv)]))
theorem tSame_e : ∀ (t u : Nd), FitT t → FitT u → AF Tryz.prog 25 [pTr t, pTr u] (· = pBool (sameT t u)) := Nd.ind fun o a l ih u hf hg => by
 obtain ⟨o', a', l'⟩ := u
 have hl := hf.len
 have hp := hf.p
 have hl' := hg.len
 have hp' := hg.p
 simp only [Nd.l] at hl hp hl' hp'
 refine AF.of_body 24 Tryz.func25 rfl Tryz.ntmps25 (Nat.le_of_ble_eq_true rfl) ?_
 intro w0 M0 vs hl hv
 obtain ⟨v0, v1, rfl⟩ := len2 hl
 clear hl hv
 have e0 : pTr (.mk o a l) = .agg [pInt o, pStr a, .sl l.length (cTrs l)] := rfl
 have e1 : pTr (.mk o' a' l') = .agg [pInt o', pStr a', .sl l'.length (cTrs l')] := rfl
 rw [e0, e1]
 refine nav ?_
 (refine aC_region ?_ <;> refine s_boxa 2 3 fun h2 => ?_ <;> refine s_boxa 3 3 fun h3 => ?_ <;> refine xL 4 q_assign ?_ <;> refine aL_end (nav ?_) <;> try dsimp only)
 (refine aC_region ?_ <;> refine xL 5 (q_fldo 2 tFl24_0_PtD) ?_ <;> (refine yL 6 (q_ldo 2 tNa3_PtD) fun v6 hv6 => ?_; cases hv6) <;> refine xL 7 (q_fldo 3 tFl24_0_PtD) ?_ <;> (refine yL 8 (q_ldo 3 tNa3_PtD) fun v8 hv8 => ?_; cases hv8) <;> refine xL 9 q_eql ?_ <;> refine xL 10 q_move ?_ <;> (refine bLd 10 (fun hb10 => ?_) (fun hb10 => ?_) <;> (first | refine kL 11 ?_ | refine xL 11 (q_fldo 2 tFl24_1_PtD) ?_)) <;> (first | refine kL 12 ?_ | (refine yL 12 (q_ldo 2 tNa9_PtD) fun v12 hv12 => ?_; cases hv12)) <;> (first | refine kL 13 ?_ | refine xL 13 (q_fldo 3 tFl24_1_PtD) ?_) <;> (first | refine kL 14 ?_ | (refine yL 14 (q_ldo 3 tNa9_PtD) fun v14 hv14 => ?_; cases hv14)) <;> (first | refine kL 15 ?_ | refine xL 15 q_seql ?_) <;> refine xL 16 q_pick ?_ <;> refine xL 17 q_move ?_ <;> (first | refine kL 18 ?_ | (refine bL 17 (fun hb17 => ?_) (fun hb17 => ?_) <;> (first | refine kL 18 ?_ | refine xL 18 (q_fldo 2 tFl24_2_PtD) ?_))) <;> (first | refine kL 19 ?_ | (refine yL 19 (q_ldo 2 tNa22_PtD) fun v19 hv19 => ?_; cases hv19)) <;> (first | refine kL 20 ?_ | refine xL 20 (q_fldo 3 tFl24_2_PtD) ?_) <;> (first | refine kL 21 ?_ | (refine yL 21 (q_ldo 3 tNa22_PtD) fun v21 hv21 => ?_; cases hv21)) <;> (first | refine kL 22 ?_ | (refine cS 22 (cA Tryz.call49 (tEqualFn_e 25 l l' hl hl' (Tryz.call25) (fun x hx y hy => ih x hx y (hp x hx) (hp' y hy)))) fun v22 hv22 => ?_; cases hv22)) <;> refine xL 23 q_pick ?_ <;> refine xL 4 q_assign ?_ <;> refine aL_end (nav ?_) <;> try dsimp only) <;> (
  refine ret_shr (Tryz.results25) rfl ?_
  first
   | (rw [sameT_no fun h => by injection h with h1 h2 h3; omega]; done)
   | (rw [sameT_no fun h => by injection h with h1 h2 h3; subst h2; simp at hb17]; done)
   | (rw [sameT_parts hb10 (strEq_iff.1 hb17)]; done))
mutual
def ndsT : Nd → Int → Int
 | .mk _ a l, d => if 80 < d ∨ 100 < (a.size : Int) then 1000 else min (ndsL l (d + 1) 1) 1000
def ndsL : List Nd → Int → Int → Int
 | [], _, n => n
 | x :: l, d, n => if n < 600 then ndsL l d (n + ndsT x d) else n
end
theorem ndsL_drop {l : List Nd} {k : Nat} {x : Nd} (hx : l[k]? = some x) (d n : Int) : ndsL (l.drop k) d n = if n < 600 then ndsL (l.drop (k + 1)) d (n + ndsT x d) else n := by
 rw [List.drop_eq_getElem_cons (lt_of_get hx), (List.getElem?_eq_some_iff.1 hx).2, ndsL]
theorem ndsL_stop {l : List Nd} {d n : Int} (h : ¬ n < 600) : ndsL l d n = n := by
 cases l with
 | nil => rw [ndsL]
 | cons x l => rw [ndsL, if_neg h]
theorem ndsL_lo : ∀ (l : List Nd) (d n : Int), (∀ x ∈ l, ∀ d, 0 ≤ ndsT x d ∧ ndsT x d ≤ 1000) → 0 ≤ n → 0 ≤ ndsL l d n
 | [], d, n, _, h => by rw [ndsL]; exact h
 | x :: l, d, n, hx, h => by
   rw [ndsL]
   split
   · exact ndsL_lo l d _ (fun y hy => hx y (List.mem_cons_of_mem _ hy)) (by have := (hx x (List.mem_cons_self ..) d).1; omega)
   · exact h
theorem ndsT_bd : ∀ (t : Nd) (d : Int), 0 ≤ ndsT t d ∧ ndsT t d ≤ 1000 := Nd.ind fun o a l ih d => by
 rw [ndsT]
 split
 · omega
 · have := ndsL_lo l (d + 1) 1 ih (by omega)
   omega
theorem w19Nodes_e : ∀ (t : Nd), FitT t → ∀ (d : Int), 0 ≤ d → d ≤ 4611686018427387904 → AF Tryz.prog 21 [pTr t, pInt d] (· = pInt (ndsT t d)) := Nd.ind fun o a l ih hf d hd1 hd2 => by
 have hl := hf.len
 have hp := hf.p
 have ha := hf.sz
 simp only [Nd.l, Nd.act] at hl hp ha
 refine AF.of_body 38 Tryz.func21 rfl Tryz.ntmps21 (Nat.le_of_ble_eq_true rfl) ?_
 intro w0 M0 vs hl hv
 obtain ⟨v0, v1, rfl⟩ := len2 hl
 obtain rfl := hv 1 _ _ rfl rfl
 clear hl hv
 have e0 : pTr (.mk o a l) = .agg [pInt o, pStr a, .sl l.length (cTrs l)] := rfl
 rw [e0]
 refine nav ?_
 (refine aC_region ?_ <;> refine s_boxa 2 3 fun h2 => ?_ <;> refine xL 4 q_assign ?_ <;> refine aL_end (nav ?_) <;> try dsimp only)
 (refine aC_region ?_ <;> refine xL 5 q_assign ?_ <;> refine aL_end (nav ?_) <;> try dsimp only)
 (refine aC_region ?_ <;> refine xL 7 q_move ?_ <;> refine xL 8 q_gtr ?_ <;> refine xL 9 q_move ?_ <;> (refine bLd 9 (fun hb9 => ?_) (fun hb9 => ?_) <;> (first | refine kL 10 ?_ | refine xL 10 (q_fldo 2 tFl24_1_PtD) ?_)) <;> (first | refine kL 11 ?_ | (refine yL 11 (q_ldo 2 tNa9_PtD) fun v11 hv11 => ?_; cases hv11)) <;> (first | refine kL 12 ?_ | refine xL 12 (q_slen Tryz.underlying9) ?_) <;> (first | refine kL 13 ?_ | refine xL 13 q_gtr ?_) <;> refine xL 14 q_pick ?_ <;> refine aL_end (nav ?_) <;> try dsimp only) <;> (
  (first | refine cCd ?_ ?_ | refine cC ?_ ?_) <;> intro hb14
  · first
    | exact Bool.noConfusion hb14
    | (
     refine nav ?_
     (refine aC_region ?_ <;> refine xL 4 q_assign ?_ <;> refine aL_end (nav ?_) <;> try dsimp only)
     refine ret_shr (Tryz.results21) rfl ?_
     rw [ndsT, if_pos (by omega)])
  · first
    | exact Bool.noConfusion hb14
    | (
     have hb : ¬ (80 < d ∨ 100 < (a.size : Int)) := by omega
     refine nav ?_
     (refine aC_region ?_ <;> refine xL 6 q_assign ?_ <;> refine aL_end (nav ?_) <;> try dsimp only)
     refine aC_loop (ι := { q : Nat × Int // q.1 ≤ l.length ∧ 0 ≤ q.2 ∧ q.2 ≤ 1600 ∧ ndsL l (d + 1) 1 = ndsL (l.drop q.1) (d + 1) q.2 }) (fun k => ⟨[(1, _, _), (2, _, _), (6, .int .i64 k.1.1, pInt k.1.1), (5, .int .i64 k.1.2, pInt k.1.2)], [(2, _, _)]⟩) (fun k => l.length - k.1.1) ⟨(0, 1), by dsimp only; omega, by dsimp only; omega, by dsimp only; omega, rfl⟩ (fun a w H => H.weaken ⟨rfl, rfl, rfl, rfl, trivial⟩ ⟨rfl, trivial⟩) ?_
     rintro ⟨⟨k, n⟩, hk, hn1, hn2, hq⟩
     dsimp only
     dsimp only at hk hn1 hn2 hq
     refine nav ?_
     (refine aC_region ?_ <;> refine xL 15 q_move ?_ <;> refine xL 16 (q_fldo 2 tFl24_2_PtD) ?_ <;> (refine yL 17 (q_ldo 2 tNa22_PtD) fun v17 hv17 => ?_; cases hv17) <;> refine xL 18 (q_len tSl22_PtD) ?_ <;> refine xL 19 q_lss ?_ <;> refine xL 20 q_move ?_ <;> (refine bLd 20 (fun hb20 => ?_) (fun hb20 => ?_) <;> (first | refine kL 21 ?_ | refine xL 21 q_move ?_)) <;> (first | refine kL 22 ?_ | refine xL 22 q_lss ?_) <;> refine xL 23 q_pick ?_ <;> refine aL_end (nav ?_) <;> try dsimp only) <;> (
      (first | refine cCd ?_ ?_ | refine cC ?_ ?_) <;> intro hb23
      · first
        | exact Bool.noConfusion hb23
        | (
         obtain ⟨x, hx⟩ := get_some (show k < l.length by omega)
         have e1 := tr_drop hx
         have e2 := tr_fit hx
         have hxm := List.mem_of_getElem? hx
         have hbd := ndsT_bd x (d + 1)
         refine nav ?_
         (refine aC_region ?_ <;> refine xL 26 q_move ?_ <;> refine xL 27 (q_fldo 2 tFl24_2_PtD) ?_ <;> (refine yL 28 (q_ldo 2 tNa22_PtD) fun v28 hv28 => ?_; cases hv28) <;> refine xL 29 q_move ?_ <;> refine xL 30 (q_idxN tSl22_PtD) ?_ <;> (refine yL 31 (q_lda tAgg24_PtD) fun v31 hv31 => ?_; cases hv31) <;> refine xL 32 q_move ?_ <;> refine xL 33 q_add ?_ <;> (refine cS 34 (cA Tryz.call21 (ih x hxm (hp x hxm) (d + 1) (by omega) (by omega))) fun v34 hv34 => ?_; cases hv34) <;> refine xL 35 q_add ?_ <;> refine xL 5 q_assign ?_ <;> refine aL_end (nav ?_) <;> try dsimp only)
         (refine aC_region ?_ <;> refine xL 24 q_move ?_ <;> refine xL 25 q_add ?_ <;> refine xL 6 q_assign ?_ <;> refine aL_end (nav ?_) <;> try dsimp only)
         refine aN_again (
          ⟨(k + 1, n + ndsT x (d + 1)), by dsimp only; omega, by dsimp only; omega, by dsimp only; omega, by dsimp only; rw [hq, ndsL_drop hx, if_pos (by omega)]⟩
          ) (by dsimp only; omega) ⟨rfl, rfl, rfl, rfl, trivial⟩ ⟨rfl, trivial⟩)
      · first
        | exact Bool.noConfusion hb23
        | (
         refine nav ?_
         (refine aC_region ?_ <;> refine xL 36 q_move ?_ <;> refine xL 37 q_min ?_ <;> refine xL 4 q_assign ?_ <;> refine aL_end (nav ?_) <;> try dsimp only)
         refine ret_shr (Tryz.results21) rfl ?_
         have he : ndsL (l.drop k) (d + 1) n = n := by
          by_cases h : n < 600
          · rw [List.drop_eq_nil_of_le (by omega), ndsL]
          · exact ndsL_stop h
         rw [ndsT, if_neg hb, hq, he]
         have hmn : (if (1000 : Int) < n then 1000 else n) = min n 1000 := by split <;> omega
         rw [← hmn]))))
theorem w19Great1_e (t : Nd) (hf : FitT t) : AF Tryz.prog 32 [pTr t] (· = pBool (decide (500 < ndsT t 1))) := by
 refine AF.of_body 6 Tryz.func32 rfl Tryz.ntmps32 (Nat.le_of_ble_eq_true rfl) ?_
 intro w0 M0 vs hl hv
 obtain ⟨v0, rfl⟩ := len1 hl
 clear hl hv
 have e0 : pTr t = .agg [pInt t.op, pStr t.act, pTrs t.l] := rfl
 rw [e0]
 refine nav ?_
 (refine aC_region ?_ <;> refine s_boxa 1 3 fun h1 => ?_ <;> refine xL 2 q_assign ?_ <;> refine aL_end (nav ?_) <;> try dsimp only)
 (refine aC_region ?_ <;> (refine yL 3 (q_ldao 1 tAgg24_PtD) fun v3 hv3 => ?_; cases hv3) <;> (refine cS 4 (cA Tryz.call21 (w19Nodes_e t hf 1 (by omega) (by omega))) fun v4 hv4 => ?_; cases hv4) <;> refine xL 5 q_gtr ?_ <;> refine xL 2 q_assign ?_ <;> refine aL_end (nav ?_) <;> try dsimp only)
 exact ret_shr Tryz.results32 rfl rfl
theorem tIndexFn_e (f : Nat) (p : Nd → Bool) (l : List Nd) (hl : l.length ≤ 140737488355328) (hc : ∀ args w, (callFunc f args).run Tryz.prog w = .ok (.enter f args) w) (hf : ∀ s ∈ l, AF Tryz.prog f [pTr s] (· = pBool (p s))) : AF Tryz.prog 53 [pTrs l, .fn f []] (· = pInt (idx p l)) := by
 refine AF.of_body 19 Tryz.func53 rfl Tryz.ntmps53 (Nat.le_of_ble_eq_true rfl) ?_
 intro w0 M0 vs hl hv
 obtain ⟨v0, v1, rfl⟩ := len2 hl
 clear hl hv
 refine nav ?_
 (refine aC_region ?_ <;> refine xL 4 q_assign ?_ <;> refine aL_end (nav ?_) <;> try dsimp only)
 (refine aC_region ?_ <;> refine xL 6 q_move ?_ <;> refine xL 7 (q_len tSl22_PtD) ?_ <;> refine xL 8 q_move ?_ <;> refine aL_end (nav ?_) <;> try dsimp only)
 refine aC_loop (ι := { k : Nat // k ≤ l.length ∧ ∀ i y, i < k → l[i]? = some y → p y = false }) (fun k => ⟨[(0, _, _), (1, _, _), (7, _, _), (8, .int .i64 k.1, pInt k.1)], []⟩) (fun k => l.length - k.1) ⟨0, by omega, by omega⟩ (fun a w H => H.weaken ⟨rfl, rfl, rfl, rfl, trivial⟩ trivial) ?_
 rintro ⟨k, hk, hp⟩
 dsimp only
 refine nav ?_
 (refine aC_region ?_ <;> refine xL 9 q_lss ?_ <;> refine aL_end (nav ?_) <;> try dsimp only)
 (first | refine cCd ?_ ?_ | refine cC ?_ ?_) <;> intro hb9
 · first
   | exact Bool.noConfusion hb9
   | (
    obtain ⟨x, hx⟩ := get_some (show k < l.length by omega)
    have e1 := tr_drop hx
    have e2 := tr_fit hx
    refine nav ?_
    (refine aC_region ?_ <;> refine xL 10 q_move ?_ <;> refine xL 5 q_assign ?_ <;> refine aL_end (nav ?_) <;> try dsimp only)
    (refine aC_region ?_ <;> refine xL 11 q_move ?_ <;> refine xL 12 q_move ?_ <;> refine xL 13 q_move ?_ <;> refine xL 14 (q_idxN tSl22_PtD) ?_ <;> (refine yL 15 (q_lda tAgg24_PtD) fun v15 hv15 => ?_; cases hv15) <;> (refine cS 16 (callF (f := f) (ps := []) rfl ⟨_, rfl⟩ hc rfl (hf x (List.mem_of_getElem? hx))) fun v16 hv16 => ?_; cases hv16) <;> refine aL_end (nav ?_) <;> try dsimp only)
    (first | refine cCd ?_ ?_ | refine cC ?_ ?_) <;> intro hb16
    · first
      | exact Bool.noConfusion hb16
      | (
       refine nav ?_
       (refine aC_region ?_ <;> refine xL 17 q_move ?_ <;> refine xL 4 q_assign ?_ <;> refine aL_end (nav ?_) <;> try dsimp only)
       refine ret_shr (Tryz.results53) rfl ?_
       rw [idx_here hp hx hb16])
    · first
      | exact Bool.noConfusion hb16
      | (
       refine nav ?_
       (refine aC_region ?_ <;> refine xL 18 q_add ?_ <;> refine xL 8 q_move ?_ <;> refine aL_end (nav ?_) <;> try dsimp only)
       refine aN_again (
        ⟨k + 1, by omega, fun i y hi hy => by
         by_cases e : i = k
         · subst e; rw [hx] at hy; cases hy; exact hb16
         · exact hp i y (by omega) hy⟩
        ) (by dsimp only; omega) ⟨rfl, rfl, rfl, rfl, trivial⟩ trivial))
 · first
   | exact Bool.noConfusion hb9
   | (
    refine nav ?_
    (refine aC_region ?_ <;> refine xL 4 q_assign ?_ <;> refine aL_end (nav ?_) <;> try dsimp only)
    refine ret_shr (Tryz.results53) rfl ?_
    rw [idx_none fun i y hi hy => hp i y (by omega) hy])
theorem tContainsFn_e (f : Nat) (p : Nd → Bool) (l : List Nd) (hl : l.length ≤ 140737488355328) (hc : ∀ args w, (callFunc f args).run Tryz.prog w = .ok (.enter f args) w) (hf : ∀ s ∈ l, AF Tryz.prog f [pTr s] (· = pBool (p s))) : AF Tryz.prog 31 [pTrs l, .fn f []] (· = pBool (l.any p)) := by
 refine AF.of_body 9 Tryz.func31 rfl Tryz.ntmps31 (Nat.le_of_ble_eq_true rfl) ?_
 intro w0 M0 vs hl hv
 obtain ⟨v0, v1, rfl⟩ := len2 hl
 clear hl hv
 refine nav ?_
 (refine aC_region ?_ <;> refine xL 4 q_assign ?_ <;> refine aL_end (nav ?_) <;> try dsimp only)
 (refine aC_region ?_ <;> refine xL 5 q_move ?_ <;> refine xL 6 q_move ?_ <;> (refine cS 7 (cA Tryz.call53 (tIndexFn_e f p l hl hc hf)) fun v7 hv7 => ?_; cases hv7) <;> refine xL 8 q_geq ?_ <;> refine xL 4 q_assign ?_ <;> refine aL_end (nav ?_) <;> try dsimp only)
 refine ret_shr (Tryz.results31) rfl ?_
 rw [idx_any]
def grtT (t : Nd) : Bool := decide (500 < ndsT t 1)
theorem w19Great_e (l : List Nd) (hl : l.length ≤ 1000) (hf : ∀ t ∈ l, FitT t) : AF Tryz.prog 10 [pTrs l] (· = pBool (l.any grtT)) := by
 refine AF.of_body 5 Tryz.func10 rfl Tryz.ntmps10 (Nat.le_of_ble_eq_true rfl) ?_
 intro w0 M0 vs hl hv
 obtain ⟨v0, rfl⟩ := len1 hl
 clear hl hv
 refine nav ?_
 (refine aC_region ?_ <;> refine xL 2 q_assign ?_ <;> refine aL_end (nav ?_) <;> try dsimp only)
 (refine aC_region ?_ <;> refine xL 3 q_move ?_ <;> (refine cS 4 (cA Tryz.call31 (tContainsFn_e 32 grtT l (by omega) (Tryz.call32) (fun t ht => w19Great1_e t (hf t ht)))) fun v4 hv4 => ?_; cases hv4) <;> refine xL 2 q_assign ?_ <;> refine aL_end (nav ?_) <;> try dsimp only)
 exact ret_shr Tryz.results10 rfl rfl
def bst (l : List UInt8) : ByteArray := ⟨l.toArray⟩
theorem bst_eta (s : ByteArray) : bst s.data.toList = s := by cases s; simp [bst]
theorem bst_list (l : List UInt8) : (bst l).data.toList = l := by simp [bst]
theorem bst_size (l : List UInt8) : (bst l).size = l.length := by simp [bst, ByteArray.size]
theorem bst_get (l : List UInt8) (i : Nat) : (bst l).data[i]? = l[i]? := by simp [bst]
theorem bst_inj {l m : List UInt8} (h : bst l = bst m) : l = m := by rw [← bst_list l, h, bst_list]
theorem bst_drop (l : List UInt8) (n : Nat) : (bst l).extract n (bst l).size = bst (l.drop n) := by
 apply ByteArray.ext
 apply Array.toList_inj.1
 rw [ByteArray.data_extract, Array.toList_extract, bst_list, bst_size]
 simp only [List.extract, bst]
 exact List.take_of_length_le (by rw [List.length_drop]; exact Nat.le_refl _)
theorem bst_take (l : List UInt8) (n : Nat) : (bst l).extract 0 n = bst (l.take n) := by
 apply ByteArray.ext
 apply Array.toList_inj.1
 rw [ByteArray.data_extract, Array.toList_extract, bst_list]
 simp [List.extract, bst]
structure Tk where
 kind : Int
 text : List UInt8
 n : Int
 ln : Int
 col : Int
def isPB (c : UInt8) : Bool := partB c.toNat
def isLB (c : UInt8) : Bool := letterB c.toNat
def isDB (c : UInt8) : Bool := decide (48 ≤ c.toNat) && decide (c.toNat ≤ 57)
def isBB (c : UInt8) : Bool := c.toNat == 32 || c.toNat == 9 || c.toNat == 10 || c.toNat == 13
def blkN : Bool → List UInt8 → Nat
 | _, [] => 0
 | true, c :: m => 1 + blkN (c.toNat != 10) m
 | false, c :: m => if isBB c then 1 + blkN false m else if c.toNat = 35 then 1 + blkN true m else 0
theorem blkN_le : ∀ (m : List UInt8) (b : Bool), blkN b m ≤ m.length
 | [], b => by cases b <;> exact Nat.le_refl _
 | c :: m, true => by have := blkN_le m (c.toNat != 10); rw [blkN, List.length_cons]; omega
 | c :: m, false => by
   have h1 := blkN_le m false
   have h2 := blkN_le m true
   rw [blkN, List.length_cons]
   split
   · omega
   · split <;> omega
theorem blkN_not {c : UInt8} {m : List UInt8} (h1 : isBB c = false) (h2 : c.toNat ≠ 35) : blkN false (c :: m) = 0 := by rw [blkN, if_neg (by rw [h1]; exact Bool.false_ne_true), if_neg h2]
def adv (p : Int × Int) (c : UInt8) : Int × Int := if c.toNat = 10 then (p.1 + 1, 1) else (p.1, p.2 + 1)
def advs (p : Int × Int) (l : List UInt8) : Int × Int := l.foldl adv p
theorem advs_add (p : Int × Int) (l : List UInt8) (n k : Nat) : advs (advs p (l.take n)) ((l.drop n).take k) = advs p (l.take (n + k)) := by
 unfold advs
 rw [← List.foldl_append, List.take_add]
def syms : List (List UInt8) := [[45, 62], [61, 62], [60, 61], [62, 61], [33, 61], [61, 61], [58, 61], [46, 46], [40], [41], [91], [93], [123], [125], [44], [59], [58], [46], [124], [38], [33], [63], [43], [45], [42], [47], [61], [60], [62], [64], [37], [94], [126]]
def symB (l : List UInt8) : Option (List UInt8) := syms.find? (·.isPrefixOf l)
theorem symB_some {l x : List UInt8} (h : symB l = some x) : x ∈ syms ∧ x.isPrefixOf l = true := by
 refine ⟨List.mem_of_find?_eq_some h, ?_⟩
 have := List.find?_some (p := fun x : List UInt8 => x.isPrefixOf l) h
 exact this
theorem syms_len {x : List UInt8} (h : x ∈ syms) : 1 ≤ x.length ∧ x.length ≤ 2 := by
 have : syms.all (fun x => decide (1 ≤ x.length ∧ x.length ≤ 2)) = true := by decide
 simpa using List.all_eq_true.1 this x h
inductive Lt where
 | ok (n : Nat) (t : List UInt8)
 | err (e : Int)
def litB : List UInt8 → Lt
 | [] => .err 4
 | c :: m => if c.toNat = 34 then .ok 1 [] else if c.toNat < 32 ∨ 126 < c.toNat then .err 3 else if c.toNat = 92 then
    match m with
    | [] => .err 4
    | d :: m2 => if d.toNat = 34 ∨ d.toNat = 92 then (match litB m2 with | .ok n t => .ok (n + 2) (d :: t) | .err e => .err e) else .err 3
   else match litB m with | .ok n t => .ok (n + 1) (c :: t) | .err e => .err e
theorem litB_len : ∀ (m : List UInt8) {n : Nat} {t : List UInt8}, litB m = .ok n t → 1 ≤ n ∧ n ≤ m.length ∧ t.length + 1 ≤ n
 | [], n, t, h => by simp [litB] at h
 | [c], n, t, h => by
   rw [litB.eq_def] at h
   simp only at h
   split at h
   · cases h; simp
   · split at h
     · cases h
     · split at h
       · cases h
       · simp [litB] at h
 | c :: d :: m, n, t, h => by
   rw [litB.eq_def] at h
   simp only at h
   split at h
   · cases h; simp
   · split at h
     · cases h
     · split at h
       · split at h
         · cases h2 : litB m with
           | err e => rw [h2] at h; cases h
           | ok n2 t2 =>
             rw [h2] at h; cases h
             have := litB_len m h2
             simp only [List.length_cons]; omega
         · cases h
       · cases h2 : litB (d :: m) with
         | err e => rw [h2] at h; cases h
         | ok n2 t2 =>
           rw [h2] at h; cases h
           have := litB_len (d :: m) h2
           simp only [List.length_cons] at this ⊢; omega
def valD (l : List UInt8) : Nat := l.foldl (fun n c => 10 * n + (c.toNat - 48)) 0
inductive Lx where
 | ok (kind : Int) (text : List UInt8) (n : Int) (len : Nat)
 | err (e : Int)
def lexB : List UInt8 → Lx
 | [] => .ok 5 [] 0 0
 | c :: m =>
   if isLB c then (if 40 < ((c :: m).takeWhile isPB).length then .err 5 else .ok 1 ((c :: m).takeWhile isPB) 0 ((c :: m).takeWhile isPB).length)
   else if isDB c then (if ((c :: m).dropWhile isDB).head?.any (fun d => isLB d || d.toNat == 95) then .err 3 else if 4503599627370496 < valD ((c :: m).takeWhile isDB) then .err 6 else .ok 2 [] (valD ((c :: m).takeWhile isDB)) ((c :: m).takeWhile isDB).length)
   else if c.toNat = 34 then (match litB m with | .err e => .err e | .ok n t => .ok 3 t 0 (n + 1))
   else match symB (c :: m) with
    | some x => .ok 4 x 0 x.length
    | none => .err 3
theorem tw_pos {p : UInt8 → Bool} {c : UInt8} {m : List UInt8} (h : p c = true) : 1 ≤ ((c :: m).takeWhile p).length := by rw [List.takeWhile_cons, h]; simp
theorem tw_le (p : UInt8 → Bool) (l : List UInt8) : (l.takeWhile p).length ≤ l.length := (List.takeWhile_sublist p).length_le
theorem isLB_PB {c : UInt8} (h : isLB c = true) : isPB c = true := by
 unfold isPB partB
 unfold isLB at h
 rw [h]; rfl
structure LexOk (l : List UInt8) (kd : Int) (tx : List UInt8) (n : Int) (len : Nat) : Prop where
 le : len ≤ l.length
 endk : l = [] ↔ kd = 5
 pos : l ≠ [] → 1 ≤ len
 tlen : tx.length ≤ len
 lo : 0 ≤ n
 hi : n ≤ 4503599627370496
theorem lexB_ok {l : List UInt8} {kd : Int} {tx : List UInt8} {n : Int} {len : Nat} (h : lexB l = .ok kd tx n len) : LexOk l kd tx n len := by
 cases l with
 | nil => cases h; exact ⟨Nat.le_refl _, ⟨fun _ => rfl, fun _ => rfl⟩, fun h => absurd rfl h, Nat.le_refl _, by omega, by omega⟩
 | cons c m =>
   rw [lexB] at h
   split at h
   · rename_i hc
     have h1 := tw_pos (p := isPB) (m := m) (isLB_PB hc)
     have h2 := tw_le isPB (c :: m)
     split at h
     · cases h
     · cases h
       exact ⟨h2, by simp, fun _ => h1, Nat.le_refl _, by omega, by omega⟩
   · split at h
     · rename_i hc
       have h1 := tw_pos (p := isDB) (m := m) hc
       have h2 := tw_le isDB (c :: m)
       split at h
       · cases h
       · split at h
         · cases h
         · cases h
           exact ⟨h2, by simp, fun _ => h1, by simp, by omega, by omega⟩
     · split at h
       · cases h2 : litB m with
         | err e => rw [h2] at h; cases h
         | ok n2 t2 =>
           rw [h2] at h; cases h
           have := litB_len m h2
           exact ⟨by rw [List.length_cons]; omega, by simp, fun _ => by omega, by omega, by omega, by omega⟩
       · cases h2 : symB (c :: m) with
         | none => rw [h2] at h; cases h
         | some x =>
           rw [h2] at h; cases h
           obtain ⟨h3, h4⟩ := symB_some h2
           have h5 := syms_len h3
           exact ⟨(List.isPrefixOf_iff_prefix.1 h4).length_le, by simp, fun _ => h5.1, Nat.le_refl _, by omega, by omega⟩
def toksF : Nat → List UInt8 → Int × Int → List Tk → List Tk × (Int × Int) × Int
 | 0, _, p, _ => ([], p, 5)
 | f + 1, l, p, out =>
   match lexB (l.drop (blkN false l)) with
   | .err e => ([], advs p (l.take (blkN false l)), e)
   | .ok kd tx n len =>
     if kd ≠ 5 ∧ out.length = 4000 then ([], advs p (l.take (blkN false l)), 5)
     else if kd = 5 then (out ++ [⟨kd, tx, n, (advs p (l.take (blkN false l))).1, (advs p (l.take (blkN false l))).2⟩], (0, 0), 0)
     else toksF f (l.drop (blkN false l + len)) (advs p (l.take (blkN false l + len))) (out ++ [⟨kd, tx, n, (advs p (l.take (blkN false l))).1, (advs p (l.take (blkN false l))).2⟩])
theorem toksF_fuel : ∀ (f g : Nat) (l : List UInt8) (p : Int × Int) (out : List Tk), l.length < f → l.length < g → toksF f l p out = toksF g l p out
 | 0, _, _, _, _, h, _ => by omega
 | _ + 1, 0, _, _, _, _, h => by omega
 | f + 1, g + 1, l, p, out, h1, h2 => by
   rw [toksF, toksF]
   cases h : lexB (l.drop (blkN false l)) with
   | err e => rfl
   | ok kd tx n len =>
     have hk := lexB_ok h
     simp only
     split
     · rfl
     · split
       · rfl
       · rename_i h5
         have hne : l.drop (blkN false l) ≠ [] := fun e => h5 (hk.endk.1 e)
         have h6 := hk.pos hne
         have h7 := hk.le
         rw [List.length_drop] at h7
         exact toksF_fuel f g _ _ _ (by rw [List.length_drop]; omega) (by rw [List.length_drop]; omega)
def toksB (l : List UInt8) (p : Int × Int) (out : List Tk) : List Tk × (Int × Int) × Int := toksF (l.length + 1) l p out
theorem toksB_eq (l : List UInt8) (p : Int × Int) (out : List Tk) : toksB l p out = match lexB (l.drop (blkN false l)) with
 | .err e => ([], advs p (l.take (blkN false l)), e)
 | .ok kd tx n len =>
   if kd ≠ 5 ∧ out.length = 4000 then ([], advs p (l.take (blkN false l)), 5)
   else if kd = 5 then (out ++ [⟨kd, tx, n, (advs p (l.take (blkN false l))).1, (advs p (l.take (blkN false l))).2⟩], (0, 0), 0)
   else toksB (l.drop (blkN false l + len)) (advs p (l.take (blkN false l + len))) (out ++ [⟨kd, tx, n, (advs p (l.take (blkN false l))).1, (advs p (l.take (blkN false l))).2⟩]) := by
 rw [toksB, toksF]
 cases h : lexB (l.drop (blkN false l)) with
 | err e => rfl
 | ok kd tx n len =>
   have hk := lexB_ok h
   simp only
   split
   · rfl
   · split
     · rfl
     · rename_i h5
       have hne : l.drop (blkN false l) ≠ [] := fun e => h5 (hk.endk.1 e)
       have h6 := hk.pos hne
       have h7 := hk.le
       rw [List.length_drop] at h7
       exact toksF_fuel _ _ _ _ _ (by rw [List.length_drop]; omega) (by rw [List.length_drop]; omega)
def EndL (l : List Tk) : Prop := ∃ a e, l = a ++ [e] ∧ e.kind = 5 ∧ ∀ x ∈ a, x.kind ≠ 5
theorem EndL.ne {l : List Tk} (h : EndL l) : l ≠ [] := by obtain ⟨a, e, rfl, _⟩ := h; simp
theorem EndL.tail {t : Tk} {m : List Tk} (h : EndL (t :: m)) (ht : t.kind ≠ 5) : EndL m := by
 obtain ⟨a, e, h1, h2, h3⟩ := h
 cases a with
 | nil => simp at h1; rw [h1.1] at ht; exact absurd h2 ht
 | cons b a =>
   rw [List.cons_append, List.cons.injEq] at h1
   exact ⟨a, e, h1.2, h2, fun x hx => h3 x (List.mem_cons_of_mem _ hx)⟩
structure TkOk (t : Tk) : Prop where
 text : t.text.length ≤ 16384
 lo : 0 ≤ t.n
 hi : t.n ≤ 4503599627370496
theorem toksF_ok : ∀ (f : Nat) (l : List UInt8) (p : Int × Int) (out : List Tk), l.length < f → l.length ≤ 16384 → out.length ≤ 4000 → (∀ x ∈ out, x.kind ≠ 5 ∧ TkOk x) → (toksF f l p out).2.2 = 0 → EndL (toksF f l p out).1 ∧ (toksF f l p out).1.length ≤ 4001 ∧ ∀ x ∈ (toksF f l p out).1, TkOk x
 | 0, l, p, out, h, _, _, _ => by omega
 | f + 1, l, p, out, hf, hl, ho, hx => by
   rw [toksF]
   cases h : lexB (l.drop (blkN false l)) with
   | err e =>
     intro he
     simp only at he
     exfalso
     subst he
     cases hd : l.drop (blkN false l) with
     | nil => rw [hd] at h; cases h
     | cons c m =>
       rw [hd, lexB] at h
       have key : ∀ (m : List UInt8) (e : Int), litB m = .err e → e = 3 ∨ e = 4 := fun m => by
        have : ∀ (k : Nat) (m : List UInt8), m.length ≤ k → ∀ e, litB m = .err e → e = 3 ∨ e = 4 := fun k => by
         induction k with
         | zero => intro m hm e he; obtain rfl : m = [] := List.eq_nil_of_length_eq_zero (by omega); simp [litB] at he; omega
         | succ k ih =>
           intro m hm e he
           cases m with
           | nil => simp [litB] at he; omega
           | cons c m =>
             rw [litB.eq_def] at he
             simp only at he
             rw [List.length_cons] at hm
             split at he
             · cases he
             · split at he
               · cases he; omega
               · split at he
                 · cases m with
                   | nil => cases he; omega
                   | cons d m2 =>
                     rw [List.length_cons] at hm
                     simp only at he
                     split at he
                     · cases h2 : litB m2 with
                       | err e2 => rw [h2] at he; cases he; exact ih m2 (by omega) _ h2
                       | ok n2 t2 => rw [h2] at he; cases he
                     · cases he; omega
                 · cases h2 : litB m with
                   | err e2 => rw [h2] at he; cases he; exact ih m (by omega) _ h2
                   | ok n2 t2 => rw [h2] at he; cases he
        exact this m.length m (Nat.le_refl _)
       split at h
       · split at h <;> cases h
       · split at h
         · split at h
           · cases h
           · split at h <;> cases h
         · split at h
           · cases h2 : litB m with
             | err e => rw [h2] at h; cases h; have := key m 0 h2; omega
             | ok n2 t2 => rw [h2] at h; cases h
           · cases h2 : symB (c :: m) with
             | none => rw [h2] at h; cases h
             | some x => rw [h2] at h; cases h
   | ok kd tx n len =>
     have hk := lexB_ok h
     have h7 := hk.le
     rw [List.length_drop] at h7
     have htk : ∀ a b : Int, TkOk ⟨kd, tx, n, a, b⟩ := fun a b => ⟨by have := hk.tlen; show tx.length ≤ _; omega, hk.lo, hk.hi⟩
     simp only
     split
     · intro he; cases he
     · rename_i h4
       split
       · rename_i h5
         intro _
         refine ⟨⟨out, _, rfl, h5, fun x hx' => (hx x hx').1⟩, by rw [List.length_append]; simp; omega, fun x hx' => ?_⟩
         rcases List.mem_append.1 hx' with h8 | h8
         · exact (hx x h8).2
         · rw [List.mem_singleton] at h8; subst h8; exact htk _ _
       · rename_i h5
         have hne : l.drop (blkN false l) ≠ [] := fun e => h5 (hk.endk.1 e)
         have h6 := hk.pos hne
         refine toksF_ok f _ _ _ (by rw [List.length_drop]; omega) (by rw [List.length_drop]; omega) (by rw [List.length_append]; simp; omega) fun x hx' => ?_
         rcases List.mem_append.1 hx' with h8 | h8
         · exact hx x h8
         · rw [List.mem_singleton] at h8; subst h8; exact ⟨h5, htk _ _⟩
def tk0 : Tk := ⟨0, [], 0, 0, 0⟩
def isSy (m : List Tk) (s : List UInt8) : Bool := match m with
 | [] => false
 | t :: _ => decide (t.kind = 4) && t.text == s
def opOf (s : List UInt8) : Int := if s = [115, 101, 113] then 3 else if s = [120, 111, 114] then 4 else if s = [97, 110, 100] then 5 else if s = [108, 111, 111, 112] then 6 else 0
inductive Rd where
 | ok (t : Nd) (m : List Tk)
 | err (t : Tk)
mutual
def rdT : Nat → List Tk → Rd
 | 0, _ => .err tk0
 | f + 1, m => match m with
   | [] => .err tk0
   | t :: m1 => if isSy (t :: m1) [40] then (if isSy m1 [41] then .ok silT m1.tail else .err (m1.headD tk0))
     else if t.kind ≠ 1 then .err t
     else if opOf t.text = 0 then (if isSy m1 [40] then .err (m1.headD tk0) else .ok (.mk 1 (bst t.text) []) m1)
     else if isSy m1 [40] then (match rdT f m1.tail with | .err e => .err e | .ok x m2 => rdL f (opOf t.text) [x] m2)
     else .ok (.mk 1 (bst t.text) []) m1
def rdL : Nat → Int → List Nd → List Tk → Rd
 | 0, _, _, _ => .err tk0
 | f + 1, op, l, m => if (op = 6 ∧ l.length < 2) ∨ (op ≠ 6 ∧ isSy m [44] = true) then
    (if isSy m [44] then (match rdT f m.tail with | .err e => .err e | .ok x m2 => rdL f op (l ++ [x]) m2) else .err (m.headD tk0))
   else if isSy m [41] then .ok (.mk op ByteArray.empty l) m.tail else .err (m.headD tk0)
end
theorem isSy_cons {m : List Tk} {s : List UInt8} (h : isSy m s = true) : ∃ t m1, m = t :: m1 ∧ t.kind = 4 ∧ t.text = s := by
 cases m with
 | nil => cases h
 | cons t m1 =>
   unfold isSy at h
   simp only [Bool.and_eq_true, decide_eq_true_eq, beq_iff_eq] at h
   exact ⟨t, m1, rfl, h.1, h.2⟩
structure RdOk (m : List Tk) (t : Nd) (m2 : List Tk) : Prop where
 lt : m2.length < m.length
 suf : m2 <:+ m
 endl : EndL m2
theorem rd_ok : ∀ (f : Nat), (∀ (m : List Tk) t m2, EndL m → rdT f m = .ok t m2 → RdOk m t m2) ∧ (∀ op l (m : List Tk) t m2, EndL m → rdL f op l m = .ok t m2 → RdOk m t m2)
 | 0 => ⟨fun _ _ _ _ h => by simp [rdT] at h, fun _ _ _ _ _ _ h => by simp [rdL] at h⟩
 | f + 1 => by
   obtain ⟨ih1, ih2⟩ := rd_ok f
   refine ⟨fun m t m2 he h => ?_, fun op l m t m2 he h => ?_⟩
   · cases m with
     | nil => exact absurd rfl he.ne
     | cons t0 m1 =>
       rw [rdT] at h
       split at h
       · rename_i h40
         obtain ⟨t', m', hcons, hk, _⟩ := isSy_cons h40
         cases hcons
         have he1 := he.tail (by omega)
         split at h
         · rename_i h41
           obtain ⟨t', m', hcons, hk, _⟩ := isSy_cons h41
           subst hcons
           cases h
           exact ⟨by simp only [List.length_cons, List.tail_cons]; omega, ⟨[t0, t'], rfl⟩, he1.tail (by omega)⟩
         · cases h
       · split at h
         · cases h
         · rename_i hk1
           have hk1 : t0.kind = 1 := by simpa using hk1
           have he1 := he.tail (by omega)
           split at h
           · split at h
             · cases h
             · cases h
               exact ⟨by simp, ⟨[t0], rfl⟩, he1⟩
           · split at h
             · rename_i h40
               obtain ⟨t', m', hcons, hk, _⟩ := isSy_cons h40
               subst hcons
               have he2 := he1.tail (by omega)
               cases h2 : rdT f m' with
               | err e => simp only [List.tail_cons, h2] at h; cases h
               | ok x m3 =>
                 simp only [List.tail_cons, h2] at h
                 have r1 := ih1 _ _ _ he2 h2
                 have r2 := ih2 _ _ _ _ _ r1.endl h
                 refine ⟨?_, r2.suf.trans (r1.suf.trans ⟨[t0, t'], rfl⟩), r2.endl⟩
                 have := r1.lt; have := r2.lt
                 simp only [List.length_cons]; omega
             · cases h
               exact ⟨by simp, ⟨[t0], rfl⟩, he1⟩
   · rw [rdL] at h
     split at h
     · split at h
       · rename_i h44
         obtain ⟨t', m', hcons, hk, _⟩ := isSy_cons h44
         subst hcons
         have he2 := he.tail (by omega)
         cases h2 : rdT f m' with
         | err e => simp only [List.tail_cons, h2] at h; cases h
         | ok x m3 =>
           simp only [List.tail_cons, h2] at h
           have r1 := ih1 _ _ _ he2 h2
           have r2 := ih2 _ _ _ _ _ r1.endl h
           refine ⟨?_, r2.suf.trans (r1.suf.trans ⟨[t'], rfl⟩), r2.endl⟩
           have := r1.lt; have := r2.lt
           simp only [List.length_cons]; omega
       · cases h
     · split at h
       · rename_i h41
         obtain ⟨t', m', hcons, hk, _⟩ := isSy_cons h41
         subst hcons
         cases h
         exact ⟨by simp, ⟨[t'], rfl⟩, he.tail (by omega)⟩
       · cases h
theorem opOf_bd (s : List UInt8) : 0 ≤ opOf s ∧ opOf s ≤ 6 := by
 unfold opOf
 split
 · omega
 · split
   · omega
   · split
     · omega
     · split <;> omega
theorem fit_act {t : Tk} (h : t.text.length ≤ 16384) : FitT (.mk 1 (bst t.text) []) := .mk _ (Nat.zero_le _) (by show (bst t.text).size ≤ _; rw [bst_size]; omega) (show (-9223372036854775808 : Int) ≤ 1 by decide) (show (1 : Int) ≤ 9223372036854775807 by decide) (fun x hx => by cases hx)
theorem fit_sil : FitT silT := .mk _ (Nat.zero_le _) (Nat.zero_le _) (by decide) (by decide) (fun x hx => by cases hx)
theorem rd_fit : ∀ (f : Nat), (∀ (m : List Tk) t m2, EndL m → (∀ x ∈ m, x.text.length ≤ 16384) → m.length ≤ 10000 → rdT f m = .ok t m2 → FitT t) ∧ (∀ op l (m : List Tk) t m2, EndL m → (∀ x ∈ m, x.text.length ≤ 16384) → 0 ≤ op → op ≤ 6 → (∀ x ∈ l, FitT x) → l.length + m.length ≤ 10000 → rdL f op l m = .ok t m2 → FitT t)
 | 0 => ⟨fun _ _ _ _ _ _ h => by simp [rdT] at h, fun _ _ _ _ _ _ _ _ _ _ _ h => by simp [rdL] at h⟩
 | f + 1 => by
   obtain ⟨ih1, ih2⟩ := rd_fit f
   refine ⟨fun m t m2 he hx hl h => ?_, fun op l m t m2 he hx ho1 ho2 hll hl h => ?_⟩
   · cases m with
     | nil => exact absurd rfl he.ne
     | cons t0 m1 =>
       have hx0 := hx t0 (List.mem_cons_self ..)
       have hob := opOf_bd t0.text
       rw [rdT] at h
       split at h
       · split at h
         · cases h; exact fit_sil
         · cases h
       · split at h
         · cases h
         · rename_i hk1
           have hk1 : t0.kind = 1 := by simpa using hk1
           have he1 := he.tail (by omega)
           split at h
           · split at h
             · cases h
             · cases h; exact fit_act hx0
           · split at h
             · rename_i h40
               obtain ⟨t', m', hcons, hk, _⟩ := isSy_cons h40
               subst hcons
               have he2 := he1.tail (by omega)
               have hx2 : ∀ x ∈ m', x.text.length ≤ 16384 := fun x hx' => hx x (List.mem_cons_of_mem _ (List.mem_cons_of_mem _ hx'))
               simp only [List.length_cons] at hl
               cases h2 : rdT f m' with
               | err e => simp only [List.tail_cons, h2] at h; cases h
               | ok x m3 =>
                 simp only [List.tail_cons, h2] at h
                 have r1 := (rd_ok f).1 _ _ _ he2 h2
                 have r2 := ih1 _ _ _ he2 hx2 (by omega) h2
                 have := r1.lt
                 exact ih2 _ _ _ _ _ r1.endl (fun x hx' => hx2 x (r1.suf.subset hx')) (by omega) (by omega) (fun y hy => by rw [List.mem_singleton] at hy; subst hy; exact r2) (by simp only [List.length_cons, List.length_nil]; omega) h
             · cases h; exact fit_act hx0
   · rw [rdL] at h
     split at h
     · split at h
       · rename_i h44
         obtain ⟨t', m', hcons, hk, _⟩ := isSy_cons h44
         subst hcons
         have he2 := he.tail (by omega)
         have hx2 : ∀ x ∈ m', x.text.length ≤ 16384 := fun x hx' => hx x (List.mem_cons_of_mem _ hx')
         simp only [List.length_cons] at hl
         cases h2 : rdT f m' with
         | err e => simp only [List.tail_cons, h2] at h; cases h
         | ok x m3 =>
           simp only [List.tail_cons, h2] at h
           have r1 := (rd_ok f).1 _ _ _ he2 h2
           have r2 := ih1 _ _ _ he2 hx2 (by omega) h2
           have := r1.lt
           exact ih2 _ _ _ _ _ r1.endl (fun x hx' => hx2 x (r1.suf.subset hx')) ho1 ho2 (fun y hy => by
            rcases List.mem_append.1 hy with h8 | h8
            · exact hll y h8
            · rw [List.mem_singleton] at h8; subst h8; exact r2) (by simp only [List.length_append, List.length_cons, List.length_nil]; omega) h
       · cases h
     · split at h
       · cases h
         exact .mk _ (by show l.length ≤ _; omega) (Nat.zero_le _) (by show _ ≤ op; omega) (by show op ≤ _; omega) hll
       · cases h
def parB (s : List UInt8) : Nd × (Int × Int) × Int :=
 if 16384 < s.length then (nd0, (0, 0), 5)
 else if (toksB s (1, 1) []).2.2 ≠ 0 then (nd0, (toksB s (1, 1) []).2)
 else match rdT ((toksB s (1, 1) []).1.length + 1) (toksB s (1, 1) []).1 with
  | .err t => (nd0, (t.ln, t.col), if t.kind = 5 then 4 else 3)
  | .ok t m => if (m.headD tk0).kind ≠ 5 then (nd0, ((m.headD tk0).ln, (m.headD tk0).col), 3) else if valT t then (t, (0, 0), 0) else (nd0, (0, 0), 5)
end Go.Proofs.YtbfilfhgcihhoaaGreatDoor
namespace Go.En
open Go.RowKit Go.Cb
set_option linter.all false
section
variable {P : Program} {st : St} {o : Oper}
end
section
variable {P : Program} {st : St} {o : Oper} {x y : Operand} {q q' : PV} {t t' : TypeId}
end
section
variable {P : Program} {st : St} {o : Oper}
theorem q_eqlT {x y : Operand} {q q' : PV} {t t' : TypeId} {k : IntKind} {a : Int} (ho : o.op = .binOp .eql t x y t' := by exact rfl) (hx : ev st.slots x = some (.int k a, q) := by exact rfl) (hy : ev st.slots y = some (.int k a, q') := by exact rfl) : YE P st o (· = .bool true) (.val (.bool true)) := by
 have h := q_eql (P := P) ho hx hy
 rwa [decide_eq_true rfl] at h
end
theorem tabW_of {P : Program} {g : Nat} (hg : P.globalNamed "internal/strconv.uint64pow10" = some g) (ht : tabG = some g) {w : World} (h : Lib.TabIs P w "internal/strconv.uint64pow10" .u64 Lib.pow10Tab) : TabW w (fun _ => False) (fun _ => False) := fun g' hg' => by
 obtain rfl : g = g' := Option.some.inj (ht.symm.trans hg')
 unfold Lib.TabIs World.var? at h
 rw [hg, Option.bind_some] at h
 split at h
 · rename_i cs ty at' hc
   cases h
   exact ⟨⟨ty, at', hc⟩, fun h => h, fun h => h⟩
 · cases h
theorem errW_of {P : Program} {g : Nat} (hg : P.globalNamed "strconv.ErrRange" = some g) (ht : errG = some g) {w : World} (h : ∃ ev, w.var? P "strconv.ErrRange" = some #[ev] ∧ (ev = .nilIface ∨ ∃ te pe, ev = .iface te pe)) : ErrW w (fun _ => False) (fun _ => False) := fun g' hg' => by
 obtain rfl : g = g' := Option.some.inj (ht.symm.trans hg')
 obtain ⟨ev, h, hev⟩ := h
 unfold World.var? at h
 rw [hg, Option.bind_some] at h
 split at h
 · rename_i cs ty at' hc
   cases h
   exact ⟨⟨ev, ty, at', hc, hev⟩, fun h => h, fun h => h⟩
 · cases h
theorem trod_err {H : Type} {P : Program} {t : TypeId} {e : TypeId × Value → H} {w : World} {spare : Nat → Bool} {held : Bool} {fuel : Nat} {cs : List Value} {x : DataW H × List MemPlace} (ht : ∃ ms, P.underlying t = some (.interface ms)) (h : DataW.trod e P w 0 spare held fuel t cs = some x) : ∃ ev, cs = [ev] ∧ (ev = .nilIface ∨ ∃ te pe, ev = .iface te pe) := by
 obtain ⟨ms, ht⟩ := ht
 cases fuel with
 | zero => simp [DataW.trod] at h
 | succ n =>
   unfold DataW.trod at h
   rw [ht] at h
   split at h <;> simp_all
def pByte (b : UInt8) : PV := .val (.int .u8 (b.toNat : Nat))
theorem bytes_of {M : BS} {w : World} {bs : List UInt8} {xs : List Value} {Fs : Nat → BS} (hlen : (bs.map pByte).length = xs.length) (hT : ∀ (i : Nat) (x : Value) (p : PV), xs[i]? = some x → (bs.map pByte)[i]? = some p → Tr M w x p (Fs i)) : xs = Lib.byteCells bs := by
 apply List.ext_getElem?
 intro j
 unfold Lib.byteCells
 rw [List.getElem?_map]
 cases hj : bs[j]? with
 | none =>
   have := List.getElem?_eq_none_iff.1 hj
   rw [List.length_map] at hlen
   exact List.getElem?_eq_none (by omega)
 | some b =>
   have hp : (bs.map pByte)[j]? = some (pByte b) := by rw [List.getElem?_map, hj]; rfl
   obtain ⟨v, hv⟩ := get_of_len hp hlen
   rw [hv]
   have := ((hT j v _ hv hp).sh rfl).vOf
   exact congrArg some this
section
variable {P : Program} {c : Ctx} {ops : Array Oper} {Q : Exit → Act → World → Prop} {rest : List Oper} {sL hP : List (Nat × Ent)} {o : Oper}
end
section
variable {P : Program} {ops : Array Oper} {Q : Exit → Act → World → Prop} {md : Region.Mode} {C : World → Prop} {Z : Nat → Bool}
def reachW (md : Region.Mode) (ops : Array Oper) : Nat → Nat → Nat → Bool
 | 0, _, _ => false
 | n + 1, z, i => match ops[z]? with
   | some oz => oz.after.any fun e => Region.binds md e && (e.on == i || reachW md ops n e.on i)
   | none => false
def zWaitsT (md : Region.Mode) (ops : Array Oper) (Z : Nat → Bool) (i : Nat) : Bool := (List.range ops.size).all fun z => !Z z || reachW md ops ops.size z i
def closedB (md : Region.Mode) (ops : Array Oper) (listed : Array Bool) : Bool := (List.range ops.size).all fun k => !(listed.getD k false) || (match ops[k]? with
 | some o => o.after.all fun e => !Region.binds md e || listed.getD e.on false
 | none => true)
def ClosedL (md : Region.Mode) (ops : Array Oper) (listed : Array Bool) : Prop := ∀ (k : Nat) (o : Oper), ops[k]? = some o → listed.getD k false = true → ∀ e ∈ o.after, Region.binds md e = true → listed.getD e.on false = true
theorem closedB_spec {listed : Array Bool} (h : closedB md ops listed = true) : ClosedL md ops listed := fun k o ho hk e he hb => by
 have hks : k < ops.size := by
  rcases Nat.lt_or_ge k ops.size with h' | h'
  · exact h'
  · rw [Array.getElem?_eq_none h'] at ho; cases ho
 have := List.all_eq_true.1 h k (List.mem_range.2 hks)
 rw [hk, ho] at this
 simp only [Bool.not_true, Bool.false_or] at this
 have := (Array.all_eq_true'.1 this) e he
 rw [hb] at this
 simpa using this
theorem ClosedL.reach {listed : Array Bool} (h : ClosedL md ops listed) {i : Nat} : ∀ (n z : Nat), listed.getD z false = true → reachW md ops n z i = true → listed.getD i false = true
 | 0, _, _, hr => by simp [reachW] at hr
 | n + 1, z, hz, hr => by
   rw [reachW] at hr
   split at hr
   · rename_i oz ho
     obtain ⟨e, he, hb⟩ := Array.any_eq_true'.1 hr
     simp only [Bool.and_eq_true, Bool.or_eq_true, beq_iff_eq] at hb
     have h1 := h z oz ho hz e he hb.1
     rcases hb.2 with h2 | h2
     · rw [← h2]; exact h1
     · exact ClosedL.reach h n e.on h1 h2
   · cases hr
theorem ClosedL.ready {listed : Array Bool} (h : ClosedL md ops listed) {i j n : Nat} (hj : j ∈ Region.ready md ops listed) (hr : reachW md ops n j i = true) : listed.getD i false = true := by
 obtain ⟨_, oj, hoj, hall⟩ := mem_ready.1 hj
 cases n with
 | zero => simp [reachW] at hr
 | succ n =>
   rw [reachW, hoj] at hr
   obtain ⟨e, he, hb⟩ := Array.any_eq_true'.1 hr
   simp only [Bool.and_eq_true, Bool.or_eq_true, beq_iff_eq] at hb
   have h1 := hall e he hb.1
   rcases hb.2 with h2 | h2
   · rw [← h2]; exact h1
   · exact h.reach n e.on h1 h2
theorem ClosedL.set {listed : Array Bool} (h : ClosedL md ops listed) {j : Nat} (hj : j ∈ Region.ready md ops listed) : ClosedL md ops (listed.setIfInBounds j true) := fun k o ho hk e he hb => by
 obtain ⟨_, oj, hoj, hall⟩ := mem_ready.1 hj
 by_cases hkj : k = j
 · subst hkj
   rw [hoj] at ho; cases ho
   exact getD_set_true (hall e he hb)
 · rw [getD_set_ne false (Ne.symm hkj)] at hk
   exact getD_set_true (h k o ho hk e he hb)
theorem wpAnyS_firstT {i : Nat} {oi : Oper} {v : Value} (hi : ops[i]? = some oi) (hz : zWaitsT md ops Z i = true)
 (hsel : ∀ (j : Nat) (o : Oper) cs b, ops[j]? = some o → o.op ≠ .select cs b) :
 ∀ (fuel : Nat) (listed : Array Bool) (a : Act) (w : World), ClosedL md ops listed →
  (∀ j oj, ops[j]? = some oj → j ≠ i → listed.getD j true = false → (∀ e ∈ oj.after, Region.binds md e = true → e.on ≠ i) → oi.apart ops oj = true) →
  i ∈ Region.ready md ops listed → YieldsC P ops C oi v a → C w →
  wpAnyS P md ops Q C Z fuel (listed.setIfInBounds i true) (a.put oi.dst v) w → wpAnyS P md ops Q C Z (fuel + 1) listed a w := by
 intro fuel
 induction fuel with
 | zero =>
   intro listed a w _ _ hr hy hC H
   refine ⟨fun h => (by rw [h] at hr; cases hr), fun j hj => ?_⟩
   by_cases hji : j = i
   · subst hji; exact YieldsIf.wpOp hi hy.ifS hC ⟨.inr hC, H⟩
   · have := ready_mono hj hji
     rw [H.1] at this
     cases this
 | succ fuel ih =>
   intro listed a w hcl hfree hr hy hC H
   refine ⟨fun h => (by rw [h] at hr; cases hr), fun j hj => ?_⟩
   by_cases hji : j = i
   · subst hji; exact YieldsIf.wpOp hi hy.ifS hC ⟨.inr hC, H⟩
   · have h1 := H.2 j (ready_mono hj hji)
     obtain ⟨hjun, oj, hoj, hall⟩ := mem_ready.1 hj
     have hnot : ∀ e ∈ oj.after, Region.binds md e = true → e.on ≠ i := fun e he hb heq => by
      have h1 := hall e he hb
      have h0 := (mem_ready.1 hr).1
      rw [heq] at h1
      rcases Nat.lt_or_ge i listed.size with h' | h'
      · simp [h'] at h0 h1; rw [h0] at h1; cases h1
      · simp [Array.getElem?_eq_none h'] at h1
     have hjz : Z j = false := by
      cases hZ : Z j
      · rfl
      · exfalso
        have hjs : j < ops.size := by
         rcases Nat.lt_or_ge j ops.size with h' | h'
         · exact h'
         · rw [Array.getElem?_eq_none h'] at hoj; cases hoj
        have := List.all_eq_true.1 hz j (List.mem_range.2 hjs)
        rw [hZ] at this
        simp only [Bool.not_true, Bool.false_or] at this
        have h0 := (mem_ready.1 hr).1
        have h1 := hcl.ready hj this
        rcases Nat.lt_or_ge i listed.size with h' | h'
        · simp [h'] at h0 h1; rw [h0] at h1; cases h1
        · simp [Array.getElem?_eq_none h'] at h1
     have h2 := wpOp_putIf hoj (hfree j oj hoj hji hjun hnot) (fun cs b => hsel i oi cs b hi) (fun cs b => hsel j oj cs b hoj) (fun c a w h => h) hy.ifS h1
     have hfree' : ∀ k ok, ops[k]? = some ok → k ≠ i → (listed.setIfInBounds j true).getD k true = false →
      (∀ e ∈ ok.after, Region.binds md e = true → e.on ≠ i) → oi.apart ops ok = true := fun k ok hk hki hun hno => by
      refine hfree k ok hk hki ?_ hno
      by_cases hjk : j = k
      · subst hjk; exact hjun
      · rw [getD_set_ne true hjk] at hun; exact hun
     refine wpOp_mono (fun a' w' h3 => ?_) h2
     obtain ⟨hy', hor, hK⟩ := h3
     have hC' : C w' := by
      rcases hor with h | h
      · rw [hjz] at h; cases h
      · exact h
     refine ⟨.inr hC', ih (listed.setIfInBounds j true) a' w' (hcl.set hj) hfree' (ready_mono hr (Ne.symm hji)) hy' hC' ?_⟩
     rw [Array.setIfInBounds_comm _ _ hji]
     exact hK
end
section
variable {P : Program} {c : Ctx} {ops : Array Oper} {Q : Exit → Act → World → Prop} {Z : Nat → Bool} {K : List Nat} {fuel : Nat} {listed : Array Bool} {sL hP : List (Nat × Ent)} {o : Oper}
theorem aD_yT {V : Value → Prop} {p : PV} (i d : Nat) (ho : ops[i]? = some o) (hck : (Region.noSelect ops && (Region.ready .any ops listed).contains i && Region.free .any ops listed i && zWaitsT .any ops Z i && closedB .any ops listed) = true) (hw : wants ops sL o = some true) (hd : o.dst = some d) (hn : d < c.nt) (hy : YE P ⟨sL, onlyK K hP⟩ o V p)
 (k : ∀ v, V v → aD P c ops Q Z K fuel (listed.setIfInBounds i true) ⟨put d (v, p) sL, hP⟩) : aD P c ops Q Z K (fuel + 1) listed (⟨sL, hP⟩ : St) := fun a w F H C hC => by
 simp only [Bool.and_eq_true] at hck
 obtain ⟨⟨⟨⟨hs, hr⟩, hf⟩, hz⟩, hcl⟩ := hck
 obtain ⟨v, hV, hS, hrun⟩ := hy _ F a w (H.rdK K)
 refine wpAnyS_class hC _ _ _ _ ?_
 refine wpAnyS_firstT ho hz (Region.noSelect_spec hs) _ listed a w (closedB_spec hcl) (Region.free_spec ho hf) (by simpa using hr) (v := v) (.inl ⟨wanted_of H.rd hw, fun W hW => ?_⟩) (Chg.rfl' _ _) ?_
 · exact hrun _ W hW (fun b ⟨l, x, _, h1, h2⟩ => .inr ⟨l, x, h1, h2⟩) (fun l x b hl hFb ⟨l', x', h1, h2, h3⟩ => by
    obtain ⟨h4, h5⟩ := lk_onlyK.1 hl
    exact H.dj l l' _ _ b (fun e => by rw [e, h1] at h4; cases h4) h5 h2 hFb h3)
 · rw [hd]
   exact k v hV _ w F (H.put hn hS) _ (fun W h => h)
theorem aD_xT {v : Value} {p : PV} (i d : Nat) (ho : ops[i]? = some o) (hck : (Region.noSelect ops && (Region.ready .any ops listed).contains i && Region.free .any ops listed i && zWaitsT .any ops Z i && closedB .any ops listed) = true) (hw : wants ops sL o = some true) (hd : o.dst = some d) (hn : d < c.nt) (hy : YE P ⟨sL, onlyK K hP⟩ o (· = v) p)
 (k : aD P c ops Q Z K fuel (listed.setIfInBounds i true) ⟨put d (v, p) sL, hP⟩) : aD P c ops Q Z K (fuel + 1) listed (⟨sL, hP⟩ : St) := aD_yT i d ho hck hw hd hn hy fun u hu => by cases hu; exact k
theorem xDT {v : Value} {p : PV} (i : Nat) (d : Nat) (ho : ops[i]? = some o) (hy : YE P ⟨sL, onlyK K hP⟩ o (· = v) p) (k : aD P c ops Q Z K fuel (listed.setIfInBounds i true) ⟨put d (v, p) sL, hP⟩) (hck : (Region.noSelect ops && (Region.ready .any ops listed).contains i && Region.free .any ops listed i && zWaitsT .any ops Z i && closedB .any ops listed) = true := by kernel_rfl) (hw : wants ops sL o = some true := by exact rfl) (hd : o.dst = some d := by exact rfl) (hn : d < c.nt := by exact Nat.le_of_ble_eq_true rfl) : aD P c ops Q Z K (fuel + 1) listed (⟨sL, hP⟩ : St) :=
 aD_xT i d ho hck hw hd hn hy k
theorem yDT {V : Value → Prop} {p : PV} (i : Nat) (d : Nat) (ho : ops[i]? = some o) (hy : YE P ⟨sL, onlyK K hP⟩ o V p) (k : ∀ v, V v → aD P c ops Q Z K fuel (listed.setIfInBounds i true) ⟨put d (v, p) sL, hP⟩) (hck : (Region.noSelect ops && (Region.ready .any ops listed).contains i && Region.free .any ops listed i && zWaitsT .any ops Z i && closedB .any ops listed) = true := by kernel_rfl) (hw : wants ops sL o = some true := by exact rfl) (hd : o.dst = some d := by exact rfl) (hn : d < c.nt := by exact Nat.le_of_ble_eq_true rfl) : aD P c ops Q Z K (fuel + 1) listed (⟨sL, hP⟩ : St) :=
 aD_yT i d ho hck hw hd hn hy k
end
def aDZ (P : Program) (c : Ctx) (ops : Array Oper) (Q : Exit → Act → World → Prop) (Z : Nat → Bool) (fuel : Nat) (listed : Array Bool) (st : St) : Prop :=
 ∀ a w F, HoldsF c st F a w → ∀ C : World → Prop, wpAnyS P .any ops Q C Z fuel listed a w
section
variable {P : Program} {c : Ctx} {ops : Array Oper} {Q : Exit → Act → World → Prop} {Z : Nat → Bool} {K : List Nat} {fuel : Nat} {listed : Array Bool} {sL hP : List (Nat × Ent)} {o : Oper}
theorem aW_thenZ {i : Nat} (ho : ops[i]? = some o) (hZ : Z i = true) (h : ∀ DQ : Exit → Act → World → Prop, (∀ st' : St, aDZ P c ops Q Z fuel (listed.setIfInBounds i true) st' → aN c DQ st') → aL P c ops DQ [o] (⟨sL, hP⟩ : St)) : aW P c ops Q Z K fuel listed (⟨sL, hP⟩ : St) i := fun a w F H C hC => by
 refine wpOp_of_list (Q' := fun _ a' w' => (Z i = true ∨ C w') ∧ wpAnyS P .any ops Q C Z fuel (listed.setIfInBounds i true) a' w') ho (fun a' w' hq => hq) ?_
 exact h _ (fun st' hN a' w' ⟨F', H'⟩ => ⟨.inl hZ, hN a' w' F' H' C⟩) a w ⟨F, H⟩
theorem aDZ_one (i : Nat) (hr : Region.ready .any ops listed = [i]) (ho : ops[i]? = some o) (hZ : Z i = true) (h : ∀ DQ : Exit → Act → World → Prop, (∀ st' : St, aDZ P c ops Q Z fuel (listed.setIfInBounds i true) st' → aN c DQ st') → aL P c ops DQ [o] (⟨sL, hP⟩ : St)) : aDZ P c ops Q Z (fuel + 1) listed (⟨sL, hP⟩ : St) := fun a w F H C =>
 ⟨(fun hn => by rw [hr] at hn; cases hn), fun j hj => by
   rw [hr] at hj
   obtain rfl : j = i := by simpa using hj
   refine wpOp_of_list (Q' := fun _ a' w' => (Z j = true ∨ C w') ∧ wpAnyS P .any ops Q C Z fuel (listed.setIfInBounds j true) a' w') ho (fun a' w' hq => hq) ?_
   exact h _ (fun st' hN a' w' ⟨F', H'⟩ => ⟨.inl hZ, hN a' w' F' H' C⟩) a w ⟨F, H⟩⟩
theorem aDZ_end (hr : Region.ready .any ops listed = []) (h : aN c Q (⟨sL, hP⟩ : St)) : aDZ P c ops Q Z fuel listed (⟨sL, hP⟩ : St) := fun a w F H C => by
 cases fuel with
 | zero => exact ⟨hr, h a w ⟨F, H⟩⟩
 | succ n => exact ⟨fun _ => h a w ⟨F, H⟩, fun i hi => by rw [hr] at hi; cases hi⟩
end
section
variable {P : Program} {st : St} {o : Oper} {x y : Operand} {q q' : PV} {t t' : TypeId}
end
section
variable {P : Program} {c : Ctx} {sL hP : List (Nat × Ent)}
end
section
variable {P : Program} {c : Ctx} {ops : Array Oper} {Q : Exit → Act → World → Prop} {Z : Nat → Bool} {K : List Nat} {fuel : Nat} {listed : Array Bool} {sL hP : List (Nat × Ent)} {o : Oper}
end
abbrev Pi2 := Int × Int
def ikey (k : Pi2) : Value := .agg #[.int .i64 k.1, .int .i64 k.2]
def piOk (k : Pi2) : Prop := (0 ≤ k.1 ∧ k.1 ≤ 1000000) ∧ (0 ≤ k.2 ∧ k.2 ≤ 1000000)
structure PiT (P : Program) (t ks s e : Nat) (z : Value) : Prop where
 ht : P.underlying t = some (.map ks e)
 hu : P.underlying ks = some (.array 2 s)
 hs : P.underlying s = some (.int .i64)
 hk : P.keyType ks = true
 hk2 : P.keyTypeAt 2 ks = true
 hti : P.tiled 2 ks = true
 hc2 : P.cellsOf ks = 2
 hc1 : P.cellsOf s = 1
 hf : ∀ a b : Int, (Value.agg #[.int .i64 a, .int .i64 b]).formed P ks = true
 hsz : ∃ n, P.types.size = n + 1
 hz : ZeroT P e z
theorem PiT.law {P : Program} {t ks s e : Nat} {z : Value} (h : PiT P t ks s e z) : WideMaps.KeyLaw P ks := deep_law (m := 2) (by decide) h.hk2 h.hti (by rw [h.hu])
theorem PiT.key {P : Program} {t ks s e : Nat} {z : Value} (h : PiT P t ks s e z) {k : Pi2} (hk : piOk k) : ∃ l, keyOf P ks (ikey k) = some l := by
 obtain ⟨n, hn⟩ := h.hsz
 have hl : ∀ c : Int, (0 ≤ c ∧ c ≤ 1000000) → P.keyLits (n + 1) s [.int .i64 c] = some [.int .i64 c] := fun c hc => by
  unfold Program.keyLits
  rw [h.hs]
  dsimp only
  rw [if_pos ⟨rfl, by simp [Lit.wf, IntKind.min, IntKind.max, IntKind.signed, IntKind.bits]; omega⟩]
 unfold keyOf
 rw [h.hu]
 dsimp only
 rw [h.hk, show (ikey k).formed P ks = true from h.hf _ _, hn]
 refine ⟨.string (keyBytes [.int .i64 k.1, .int .i64 k.2]), ?_⟩
 rw [if_pos (show (true && true) = true from rfl)]
 unfold Program.keyLits
 rw [h.hu]
 dsimp only [ikey, Value.cells]
 rw [h.hc2, h.hc1]
 rw [if_pos (by rfl)]
 rw [show List.range 2 = [0, 1] from rfl]
 simp only [List.mapM_cons, List.mapM_nil, Nat.zero_mul, Nat.one_mul, List.drop_zero, List.drop_succ_cons, List.take_succ_cons, List.take_zero, hl _ hk.1, hl _ hk.2]
 rfl
section
variable {P : Program} {c : Ctx} {ops : Array Oper} {Q : Exit → Act → World → Prop} {rest : List Oper} {sL hP : List (Nat × Ent)} {o : Oper}
end
section
variable {P : Program} {sL hP : List (Nat × Ent)} {o : Oper}
end
theorem cPx {P : Program} {c : Ctx} {ops : Array Oper} {Q : Exit → Act → World → Prop} {rest : List Oper} {sL hP : List (Nat × Ent)} {o : Oper} {ι : Type} {p1 p2 : ι → PV} (d : Nat) (hC : CallR P c (⟨sL, hP⟩ : St) o (fun p => ∃ i, p = .tup [p1 i, p2 i])) (k : ∀ i v1 v2, vOf (p1 i) v1 → vOf (p2 i) v2 → aL P c ops Q rest ⟨put d (.tuple [v1, v2].toArray, .tup [p1 i, p2 i]) sL, hP⟩) (hsh : ∀ i, shD (.tup [p1 i, p2 i]) = true) (hw : wants ops sL o = some true := by exact rfl) (hd : o.dst = some d := by exact rfl) (hn : d < c.nt := by exact Nat.le_of_ble_eq_true rfl) : aL P c ops Q (o :: rest) (⟨sL, hP⟩ : St) :=
 call_run hw hC fun a w F w' v p' Fr H hR hx hT hlo hdw => by
  obtain ⟨i, rfl⟩ := hR
  have hS := hT.shD (hsh i)
  rw [hd]
  have hS' : Shr (mof c hP F) w' v (.tup [p1 i, p2 i]) := hS.anti fun b _ h => .inl h
  cases hS with
  | tup vs ps hl h =>
    match vs, hl, h, hS' with
    | [v1, v2], _, h, hS' => exact k i v1 v2 (h 0 v1 _ rfl rfl).vOf (h 1 v2 _ rfl rfl).vOf _ _ ⟨F, put_up H hx hn hS'⟩
section
variable {P : Program} {c : Ctx} {sL hP : List (Nat × Ent)}
end
theorem cPx3 {P : Program} {c : Ctx} {ops : Array Oper} {Q : Exit → Act → World → Prop} {rest : List Oper} {sL hP : List (Nat × Ent)} {o : Oper} {p1 p2 p3 : PV} (d : Nat) (hC : CallR P c (⟨sL, hP⟩ : St) o (· = .tup [p1, p2, p3])) (k : ∀ v1 v2 v3, vOf p1 v1 → vOf p2 v2 → vOf p3 v3 → aL P c ops Q rest ⟨put d (.tuple [v1, v2, v3].toArray, .tup [p1, p2, p3]) sL, hP⟩) (hsh : shD (.tup [p1, p2, p3]) = true := by exact rfl) (hw : wants ops sL o = some true := by exact rfl) (hd : o.dst = some d := by exact rfl) (hn : d < c.nt := by exact Nat.le_of_ble_eq_true rfl) : aL P c ops Q (o :: rest) (⟨sL, hP⟩ : St) :=
 call_run hw hC fun a w F w' v p' Fr H hR hx hT hlo hdw => by
  subst hR
  have hS := hT.shD hsh
  rw [hd]
  have hS' : Shr (mof c hP F) w' v (.tup [p1, p2, p3]) := hS.anti fun b _ h => .inl h
  cases hS with
  | tup vs ps hl h =>
    match vs, hl, h, hS' with
    | [v1, v2, v3], _, h, hS' => exact k v1 v2 v3 (h 0 v1 _ rfl rfl).vOf (h 1 v2 _ rfl rfl).vOf (h 2 v3 _ rfl rfl).vOf _ _ ⟨F, put_up H hx hn hS'⟩
open Go.RowKit Go.Cb Go.Proofs Go.Sort
section
variable {P : Program} {c : Ctx} {ops : Array Oper} {Q : Exit → Act → World → Prop} {rest : List Oper} {sL hP : List (Nat × Ent)} {o : Oper}
end
section
variable {P : Program} {sL hP : List (Nat × Ent)} {o : Oper}
end
section
variable {P : Program} {c : Ctx} {sL hP : List (Nat × Ent)}
end
section
variable {P : Program} {c : Ctx} {sL hP : List (Nat × Ent)}
theorem ret_hc {fn : Func} {R : Value → PV → List (Nat × Ent) → Prop} {t ty k e k' n : Nat} {h : Value} {q : PV} {cs : List PV} (l : Nat) (H' : List (Nat × Ent)) (hT : AggT P ty k = true) (hr : fn.results = #[.cell t ty]) (ht : lk sL t = some (padd (sbase h) 0, q)) (hl : lk hP l = some (h, .own e k' n cs)) (hp : k ≤ cs.length) (hk : 0 < k) (hsh : (cs.take k).all isSh = true) (hsub : Sub H' hP) (hR : ∀ V : Value, R V (.agg (cs.take k)) H') (hdf : c.df = [] := by exact rfl) : aR c (bodyPost P fn (RetH c R)) (⟨sL, hP⟩ : St) := fun a w ⟨F, H⟩ => by
 obtain ⟨V, A, h0, h1, h2⟩ := cell_run H hT ht hl hp hk hsh
 have H2 : HoldsF c (⟨sL, H'⟩ : St) F a w := H.less (fun _ _ h => h) fun t x hx => hsub.lk hx
 have hM : ∀ b, b < w.heap.size → mof c H' F b → mof c hP F b := fun b _ hb => by
  rcases hb with hb | ⟨l, x, h1, h2⟩
  · exact .inl hb
  · exact .inr ⟨l, x, hsub.lk h1, h2⟩
 refine ⟨H.df.trans hdf, V, ?_, V, .agg (cs.take k), H', F, rfl, hR _, H2.toHeapF, h2.anti hM⟩
 simp only [results, hr]
 simp at h0
 simp [h0, h1]
end
section
variable {P : Program} {st : St} {o : Oper}
theorem y_idx_slc {t e k e' k' n a : Nat} {x y : Operand} {h : Value} {p q : PV} {cs : List PV} {kd : IntKind} {i : Int} (l : Nat) (hT : SlT P t e k = true) (ho : o.op = .indexAddr t x y) (hx : ev st.slots x = some (slc h a n k, p)) (hy : ev st.slots y = some (.int kd i, q)) (hl : lk st.heap l = some (h, .own e' k' n cs)) (h0 : 0 ≤ i) (h1 : (a : Int) + i < n) {m : Nat} (hm : m = (a + i.toNat) * k) :
 YE P st o (· = padd (sbase h) m) (.val (padd (sbase h) m)) :=
 .exact fun M F w' w H => by
  subst hm
  have hv := (H.ev hx).1
  have hi := (H.ev hy).1
  obtain ⟨g, cap, rfl, hc, _⟩ := own_hdr (H.tr l _ _ hl) (by omega)
  refine ⟨.val _, ?_⟩
  have hca : cap ≠ a := by omega
  simp only [slc, hca, if_false, Option.map_some, add_none, Nat.zero_add] at hv
  simp [execOp, ho, hv, hi, run_indexAt hT h0 (show i < ((n - a : Nat) : Int) by omega), sbase, padd, Nat.add_mul]
theorem y_len_slc {t e k e' k' n a : Nat} {x : Operand} {h : Value} {p : PV} {cs : List PV} (l : Nat) (hT : SlT P t e k = true) (ho : o.op = .call { callee := .builtin .len, args := #[x], argTypes := #[t] }) (hx : ev st.slots x = some (slc h a n k, p)) (hl : lk st.heap l = some (h, .own e' k' n cs)) {m : Nat} (hm : m = n - a) : YE P st o (· = .int .i64 m) (.val (.int .i64 m)) :=
 .exact fun M F w' w H => by
  subst hm
  have hv := (H.ev hx).1
  obtain ⟨xs, Fs, hrow, hlen, _⟩ := (H.tr l _ _ hl).row
  rcases row_form hrow with ⟨rfl, rfl, _⟩ | ⟨g, cap, rfl, h1, h2, h3⟩
  · exact ⟨.val _, by simp [execOp, ho, hv, resolve, invoke, builtin, Builtin.len_, run_underlying (SlT.und hT), goInt, slc]⟩
  · exact ⟨.val _, by simp [execOp, ho, hv, resolve, invoke, builtin, Builtin.len_, run_underlying (SlT.und hT), goInt, slc]⟩
end
section
variable {P : Program} {c : Ctx} {Q : Exit → Act → World → Prop} {sL hP : List (Nat × Ent)}
end
section
variable {P : Program} {st : St} {o : Oper} {x y : Operand} {q q' : PV} {t t' : TypeId}
end
def RetP (c : Ctx) (R : Value → PV → List (Nat × Ent) → Prop) (Rp : List PanicEntry → List (Nat × Ent) → Prop) (e : Ending) (w' : World) : Prop :=
 RetH c R e w' ∨ ∃ ch h F, e = .panicked ch ∧ Rp ch h ∧ HeapF c h F w'
def AFp (dd : Prop) (P : Program) (f : FuncId) (ar h : List (Nat × Ent)) (R : Value → PV → List (Nat × Ent) → Prop) (Rp : List PanicEntry → List (Nat × Ent) → Prop) : Prop :=
 ∀ (M N : BS) (w : World) (F : Nat → BS), HeapF ⟨w, M, N, 0, dd, []⟩ h F w → (∀ i x, lk ar i = some x → Shr (mof ⟨w, M, N, 0, dd, []⟩ h F) w x.1 x.2) → Calls P f (ar.map (·.2.1)).toArray w (RetP ⟨w, M, N, 0, dd, []⟩ R Rp)
def aP (c : Ctx) (Q : Exit → Act → World → Prop) (ch : List PanicEntry) (st : St) : Prop := ∀ a w F, HoldsF c st F a w → Q (.panic ch) a w
section
variable {P : Program}
theorem AFp.of_body {dd : Prop} {f : FuncId} {fn : Func} {code : Code} {ar h : List (Nat × Ent)} {R : Value → PV → List (Nat × Ent) → Prop} {Rp : List PanicEntry → List (Nat × Ent) → Prop} (nt : Nat) (hf : P.funcs[f]? = some fn) (hb : fn.body = some code) (hnt : fn.ntmps = nt) (hn : ar.length ≤ nt) (ho : inOrder 0 ar = true)
 (H : ∀ (w0 : World) (M0 N0 : BS), aC P ⟨w0, M0, N0, nt, dd, []⟩ code (bodyPost P fn (RetP ⟨w0, M0, N0, nt, dd, []⟩ R Rp)) ⟨ar, h⟩) : AFp dd P f ar h R Rp := fun M N w F HF hv => by
 subst hnt
 refine calls_of_wp hf hb ?_
 refine wp_mono (H w M N _ w ⟨F, ⟨HF.nt rfl rfl rfl id HF.m0, fun t v p ht => ?_, ?_, rfl⟩⟩) fun e a w' hq => ?_
 · obtain ⟨_, h1⟩ := inOrder_lk ar 0 t (v, p) ho ht
   refine ⟨?_, hv t (v, p) ht⟩
   simp only [Nat.sub_zero] at h1
   have := lt_of_get h1
   rw [Array.getElem?_append_left (by simpa using this)]
   simpa using h1
 · simp; omega
 · have key : ∀ e w', RetP ⟨w, M, N, fn.ntmps, dd, []⟩ R Rp e w' → RetP ⟨w, M, N, 0, dd, []⟩ R Rp e w' := fun _ _ h => by
    rcases h with ⟨v', p, h', F', h3, h4, h5, h6⟩ | ⟨ch, h', F', h3, h4, h5⟩
    · exact .inl ⟨v', p, h', F', h3, h4, h5.nt rfl rfl rfl id h5.m0, h6⟩
    · exact .inr ⟨ch, h', F', h3, h4, h5.nt rfl rfl rfl id h5.m0⟩
   cases e with
   | ret => obtain ⟨h1, v, h2, h3⟩ := hq; exact ⟨h1, v, h2, key _ _ h3⟩
   | normal => obtain ⟨h1, v, h2, h3⟩ := hq; exact ⟨h1, v, h2, key _ _ h3⟩
   | panic ch => obtain ⟨h1, h3⟩ := hq; exact ⟨h1, key _ _ h3⟩
   | outgrown => exact key _ _ hq
   | _ => exact hq.elim
theorem AFp.imp {dd : Prop} {f : FuncId} {ar h : List (Nat × Ent)} {R R' : Value → PV → List (Nat × Ent) → Prop} {Rp Rp' : List PanicEntry → List (Nat × Ent) → Prop} (H : AFp dd P f ar h R Rp) (h1 : ∀ v p h, R v p h → R' v p h) (h2 : ∀ ch h, Rp ch h → Rp' ch h) : AFp dd P f ar h R' Rp' := fun M N w F HF hv => (H M N w F HF hv).mono fun _ _ h => by
 rcases h with ⟨v', p, h', F', h3, h4, h5, h6⟩ | ⟨ch, h', F', h3, h4, h5⟩
 · exact .inl ⟨v', p, h', F', h3, h1 _ _ _ h4, h5, h6⟩
 · exact .inr ⟨ch, h', F', h3, h2 _ _ h4, h5⟩
end
section
variable {P : Program} {c : Ctx} {ops : Array Oper} {Q : Exit → Act → World → Prop} {rest : List Oper} {sL hP : List (Nat × Ent)} {o : Oper}
theorem ret_p0 {fn : Func} {R : Value → PV → List (Nat × Ent) → Prop} {Rp : List PanicEntry → List (Nat × Ent) → Prop} (h : List (Nat × Ent)) (hr : fn.results = #[]) (hs : Sub h hP) (hR : R (.tuple #[]) (.val (.tuple #[])) h) (hdf : c.df = [] := by exact rfl) : aR c (bodyPost P fn (RetP c R Rp)) (⟨sL, hP⟩ : St) := fun a w ⟨F, H0⟩ => by
 have H : HoldsF c (⟨sL, h⟩ : St) F a w := H0.less (fun _ _ h => h) fun t x hx => hs.lk hx
 refine ⟨H.df.trans hdf, .tuple #[], ?_, .inl ⟨.tuple #[], .val (.tuple #[]), h, F, rfl, hR, H.toHeapF, .val _⟩⟩
 simp [results, hr]
theorem end_p0 {fn : Func} {R : Value → PV → List (Nat × Ent) → Prop} {Rp : List PanicEntry → List (Nat × Ent) → Prop} (h : List (Nat × Ent)) (hr : fn.results = #[]) (hs : Sub h hP) (hR : R (.tuple #[]) (.val (.tuple #[])) h) (hdf : c.df = [] := by exact rfl) : aN c (bodyPost P fn (RetP c R Rp)) (⟨sL, hP⟩ : St) := ret_p0 h hr hs hR hdf
theorem aP.less {ch : List PanicEntry} {st st' : St} (h : aP c Q ch st') (hs : Sub st'.slots st.slots) (hh : Sub st'.heap st.heap) : aP c Q ch st := fun a w F H => h a w F (H.less (fun t x hx => hs.lk hx) fun t x hx => hh.lk hx)
theorem aL_panic {x : Operand} {t : TypeId} {v : Value} {q : PV} (k : aP c Q [{ v := .iface t v, recovered := false }] (⟨sL, hP⟩ : St)) (hw : wants ops sL o = some true := by exact rfl) (ho : o.op = .panic x := by exact rfl) (hx : ev sL x = some (.iface t v, q) := by exact rfl) : aL P c ops Q (o :: rest) (⟨sL, hP⟩ : St) :=
 aL_run hw fun a w F H => by
  have hxv := (H.rd.ev hx).1
  unfold Oper.wp execOp
  simp [ho, hxv, Instr.panic, goPanic, Sem.run, Oper.upon]
  exact k a w F H
theorem aL_cpE {dd : Prop} {f : Nat} {ar : List (Nat × Ent)} {R : Value → PV → List (Nat × Ent) → Prop} {Rp : List PanicEntry → List (Nat × Ent) → Prop} (K : List Nat) (d : Nat) (hw : wants ops sL o = some true) (hd : o.dst = some d) (hn : d < c.nt)
 (hE : ∀ a w F, HoldsF c (⟨sL, hP⟩ : St) F a w → (execOp a.eval o).run P w = .ok (.enter f (ar.map (·.2.1)).toArray) w ∧ ∀ (i : Nat) (x : Value) (q : PV), ((ar.map (·.2)).map (·.1))[i]? = some x → ((ar.map (·.2)).map (·.2))[i]? = some q → Shr (mof c hP F) w x q)
 (hA : AFp dd P f ar (minusK K hP) R Rp) (hio : inOrder 0 ar = true) (hdd : c.dr → dd)
 (k : ∀ v p h, R v p h → aL P c ops Q rest ⟨put d (v, p) sL, h ++ onlyK K hP⟩) (kp : ∀ ch h, Rp ch h → aP c Q ch ⟨[], h ++ onlyK K hP⟩) : aL P c ops Q (o :: rest) (⟨sL, hP⟩ : St) :=
 aL_run hw fun a w F H => by
  obtain ⟨hr, h2⟩ := hE a w F H
  have hfr := H.frame K
  have hin : ∀ b, mof ⟨w, fun b => c.M0 b ∨ ∃ l x, K.elem l = true ∧ lk hP l = some x ∧ F l b, nK K hP F, c.nt, c.dr, c.df⟩ (minusK K hP) F b → mof c hP F b := by
   rintro b ((h | ⟨l, x, _, h1, h2⟩) | ⟨l, x, h1, h2⟩)
   · exact .inl h
   · exact .inr ⟨l, x, h1, h2⟩
   · exact .inr ⟨l, x, (lk_minusK.1 h1).2, h2⟩
  have hcall := hA (fun b => c.M0 b ∨ ∃ l x, K.elem l = true ∧ lk hP l = some x ∧ F l b) (nK K hP F) w F
   ⟨hfr.tr, hfr.lo, hfr.dj, hfr.m0.up hdd, hfr.ext, fun _ => Nat.le_refl _⟩
   (fun i x hi => by
     obtain ⟨_, h3⟩ := inOrder_lk' ar 0 i x hio hi
     rw [Nat.sub_zero] at h3
     exact (h2 i x.1 x.2 (by rw [List.getElem?_map, List.getElem?_map, h3]; rfl) (by rw [List.getElem?_map, List.getElem?_map, h3]; rfl)).anti fun b _ hb => hin b hb)
  unfold Oper.wp
  rw [hr, Oper.upon_enter]
  refine hcall.mono fun e w' he => ?_
  rcases he with ⟨v, p, h, F', e1, e2, e3, e4⟩ | ⟨ch, h, F', e1, e2, e3⟩
  · subst e1
    have hch : Chg (nK K hP F) w w' := e3.ext
    have hlow : ∀ b, b < w.heap.size → mof ⟨w, fun b => c.M0 b ∨ ∃ l x, K.elem l = true ∧ lk hP l = some x ∧ F l b, nK K hP F, 0, dd, []⟩ h F' b → mof c hP F b := by
     rintro b hlt ((h1 | ⟨l, x, _, h1, h2⟩) | ⟨l, x, h1, h2⟩)
     · exact .inl h1
     · exact .inr ⟨l, x, h1, h2⟩
     · rcases e3.lo l x b h1 h2 with h3 | ⟨l', x', _, h3, h4⟩
       · exact absurd hlt (by simp only at h3; omega)
       · exact .inr ⟨l', x', h3, h4⟩
    have H' : HoldsF ⟨w, fun b => c.M0 b ∨ ∃ l x, K.elem l = true ∧ lk hP l = some x ∧ F l b, nK K hP F, c.nt, c.dr, c.df⟩ (⟨put d (v, p) sL, h⟩ : St) F' (a.put o.dst v) w' := by
     refine ⟨e3.nt rfl rfl rfl hdd hfr.m0, fun t u q ht => ?_, by rw [hd]; simpa [Act.put] using H.size, by rw [hd]; exact H.df⟩
     rw [hd]
     rcases lk_put ht with ⟨rfl, e⟩ | ⟨hne, e⟩
     · cases e
       refine ⟨?_, e4⟩
       simp [Act.put, H.size, hn]
     · obtain ⟨h3, h4⟩ := H.sl t u q e
       refine ⟨?_, h4.to hch (fun b _ ⟨l, x, _, h5, h6⟩ => .inr ⟨l, x, h5, h6⟩) (fun b hlt hb => hlow b hlt hb)⟩
       simpa [Act.put, Array.getElem?_setIfInBounds, hne] using h3
    obtain ⟨H2, _, _⟩ := H.unframe H'
    exact k v p h e2 _ _ ⟨_, H2⟩
  · subst e1
    have H' : HoldsF ⟨w, fun b => c.M0 b ∨ ∃ l x, K.elem l = true ∧ lk hP l = some x ∧ F l b, nK K hP F, c.nt, c.dr, c.df⟩ (⟨[], h⟩ : St) F' a w' :=
     ⟨e3.nt rfl rfl rfl hdd hfr.m0, fun t u q ht => by simp [lk] at ht, H.size, H.df⟩
    obtain ⟨H2, _, _⟩ := H.unframe H'
    exact kp ch h e2 _ _ _ H2
theorem aL_cp {dd : Prop} {f : Nat} {ar h0 : List (Nat × Ent)} {R : Value → PV → List (Nat × Ent) → Prop} {Rp : List PanicEntry → List (Nat × Ent) → Prop} {xs : Array Operand} {ats : Array TypeId} (K : List Nat) (d : Nat) (hc : ∀ args w, (callFunc f args).run P w = .ok (.enter f args) w) (hA : AFp dd P f ar h0 R Rp)
 (k : ∀ v p h, R v p h → aL P c ops Q rest ⟨put d (v, p) sL, h ++ onlyK K hP⟩) (kp : ∀ ch h, Rp ch h → aP c Q ch ⟨[], h ++ onlyK K hP⟩) (hw : wants ops sL o = some true := by exact rfl) (hd : o.dst = some d := by exact rfl) (hn : d < c.nt := by exact Nat.le_of_ble_eq_true rfl)
 (ho : o.op = .call { callee := .value (.func f), args := xs, argTypes := ats } := by exact rfl) (hx : evL sL xs.toList = some (ar.map (·.2)) := by exact rfl) (hh0 : h0 = minusK K hP := by exact rfl) (hio : inOrder 0 ar = true := by exact rfl) (hdd : c.dr → dd := by first | exact id | exact fun h => h.elim | exact fun _ => trivial) : aL P c ops Q (o :: rest) (⟨sL, hP⟩ : St) := by
 subst hh0
 refine aL_cpE K d hw hd hn (fun a w F H => ?_) hA hio hdd k kp
 obtain ⟨h1, h2⟩ := evL_spec H.rd hx
 refine ⟨?_, h2⟩
 have hargs : xs.map a.eval = (ar.map (·.2.1)).toArray := by
  rw [show ar.map (·.2.1) = (ar.map (·.2)).map (·.1) by rw [List.map_map]; rfl, ← h1, ← Array.toList_map, Array.toArray_toList]
 simp [execOp, ho, resolve, Act.eval, Deferred.ofValue, invoke, hargs, hc]
end
def okN (Q : Exit → Act → World → Prop) (Pp : List PanicEntry → World → Prop) : Exit → Act → World → Prop
 | .normal, a, w => Q .normal a w
 | .panic ch, a, w => a.defers = [] ∧ Pp ch w
 | _, _, _ => False
section
variable {P : Program} {ops : Array Oper} {Q : Exit → Act → World → Prop} {Pp : List PanicEntry → World → Prop} {md : Region.Mode} {C : World → Prop} {Z : Nat → Bool}
theorem wp_okN {o : Oper} {a : Act} {w : World} {K : Act → World → Prop} (hP : ∀ ch a w, a.defers = [] → Pp ch w → Q (.panic ch) a w) (h : o.wp P a w K (okN Q Pp)) : o.wp P a w K Q := by
 unfold Oper.wp at *
 generalize (execOp a.eval o).run P w = r at *
 cases r with
 | ok n w' =>
   cases n <;> simp only [Oper.upon] at h ⊢ <;> try exact h
   refine Calls.mono h fun e w'' he => ?_
   cases e with
   | returned u => exact he
   | panicked c => exact hP _ _ _ he.1 he.2
   | outgrown => obtain ⟨_, _, hf⟩ := he; exact hf.elim
 | halt x w' =>
   cases x <;> simp only [Oper.upon] at h ⊢
   · exact hP _ _ _ h.1 h.2
theorem wpOp_okN (hP : ∀ ch a w, a.defers = [] → Pp ch w → Q (.panic ch) a w) {i : Nat} {a : Act} {w : World} {K : Act → World → Prop} (h : wpOp P ops (okN Q Pp) i K a w) : wpOp P ops Q i K a w := by
 unfold wpOp at *
 split
 · rename_i ho; simp only [ho] at h; exact h
 · rename_i o ho
   simp only [ho] at h
   split
   · rename_i hw
     simp only [hw, if_true] at h
     rcases h with h | ⟨_, _, _, hf⟩
     · exact .inl (wp_okN hP h)
     · exact hf.elim
   · rename_i hw; simp only [hw] at h; exact h
def wpAnyP (P : Program) (md : Region.Mode) (ops : Array Oper) (Q : Exit → Act → World → Prop) (Pp : List PanicEntry → World → Prop) (C : World → Prop) (Z : Nat → Bool) : Nat → Array Bool → Act → World → Prop
 | 0, listed, a, w => Region.ready md ops listed = [] ∧ Q .normal a w
 | fuel + 1, listed, a, w =>
   (Region.ready md ops listed = [] → Q .normal a w) ∧
   ∀ i ∈ Region.ready md ops listed, wpOp P ops (okN Q Pp) i (fun a' w' => (Z i = true ∨ C w') ∧ wpAnyP P md ops Q Pp C Z fuel (listed.setIfInBounds i true) a' w') a w
theorem wpAny_of_P (hP : ∀ ch a w, a.defers = [] → Pp ch w → Q (.panic ch) a w) : ∀ (fuel : Nat) (listed : Array Bool) (a : Act) (w : World), wpAnyP P md ops Q Pp C Z fuel listed a w → wpAny P md ops Q fuel listed a w
 | 0, _, _, _, h => h
 | fuel + 1, _, _, _, h => ⟨h.1, fun i hi => wpOp_okN hP (wpOp_mono (fun a' w' h' => wpAny_of_P hP fuel _ a' w' h'.2) (h.2 i hi))⟩
theorem wpAnyP_firstT {i : Nat} {oi : Oper} {v : Value} (hi : ops[i]? = some oi) (hz : zWaitsT md ops Z i = true)
 (hsel : ∀ (j : Nat) (o : Oper) cs b, ops[j]? = some o → o.op ≠ .select cs b) :
 ∀ (fuel : Nat) (listed : Array Bool) (a : Act) (w : World), ClosedL md ops listed →
  (∀ j oj, ops[j]? = some oj → j ≠ i → listed.getD j true = false → (∀ e ∈ oj.after, Region.binds md e = true → e.on ≠ i) → oi.apart ops oj = true) →
  i ∈ Region.ready md ops listed → YieldsC P ops C oi v a → C w →
  wpAnyP P md ops Q Pp C Z fuel (listed.setIfInBounds i true) (a.put oi.dst v) w → wpAnyP P md ops Q Pp C Z (fuel + 1) listed a w := by
 intro fuel
 induction fuel with
 | zero =>
   intro listed a w _ _ hr hy hC H
   refine ⟨fun h => (by rw [h] at hr; cases hr), fun j hj => ?_⟩
   by_cases hji : j = i
   · subst hji; exact YieldsIf.wpOp hi hy.ifS hC ⟨.inr hC, H⟩
   · have := ready_mono hj hji
     rw [H.1] at this
     cases this
 | succ fuel ih =>
   intro listed a w hcl hfree hr hy hC H
   refine ⟨fun h => (by rw [h] at hr; cases hr), fun j hj => ?_⟩
   by_cases hji : j = i
   · subst hji; exact YieldsIf.wpOp hi hy.ifS hC ⟨.inr hC, H⟩
   · have h1 := H.2 j (ready_mono hj hji)
     obtain ⟨hjun, oj, hoj, hall⟩ := mem_ready.1 hj
     have hnot : ∀ e ∈ oj.after, Region.binds md e = true → e.on ≠ i := fun e he hb heq => by
      have h1 := hall e he hb
      have h0 := (mem_ready.1 hr).1
      rw [heq] at h1
      rcases Nat.lt_or_ge i listed.size with h' | h'
      · simp [h'] at h0 h1; rw [h0] at h1; cases h1
      · simp [Array.getElem?_eq_none h'] at h1
     have hjz : Z j = false := by
      cases hZ : Z j
      · rfl
      · exfalso
        have hjs : j < ops.size := by
         rcases Nat.lt_or_ge j ops.size with h' | h'
         · exact h'
         · rw [Array.getElem?_eq_none h'] at hoj; cases hoj
        have := List.all_eq_true.1 hz j (List.mem_range.2 hjs)
        rw [hZ] at this
        simp only [Bool.not_true, Bool.false_or] at this
        have h0 := (mem_ready.1 hr).1
        have h1 := hcl.ready hj this
        rcases Nat.lt_or_ge i listed.size with h' | h'
        · simp [h'] at h0 h1; rw [h0] at h1; cases h1
        · simp [Array.getElem?_eq_none h'] at h1
     have h2 := wpOp_putIf hoj (hfree j oj hoj hji hjun hnot) (fun cs b => hsel i oi cs b hi) (fun cs b => hsel j oj cs b hoj) (fun c a w h => ⟨by have h0 := h.1; revert h0; cases oi.dst <;> exact id, h.2⟩) hy.ifS h1
     have hfree' : ∀ k ok, ops[k]? = some ok → k ≠ i → (listed.setIfInBounds j true).getD k true = false →
      (∀ e ∈ ok.after, Region.binds md e = true → e.on ≠ i) → oi.apart ops ok = true := fun k ok hk hki hun hno => by
      refine hfree k ok hk hki ?_ hno
      by_cases hjk : j = k
      · subst hjk; exact hjun
      · rw [getD_set_ne true hjk] at hun; exact hun
     refine wpOp_mono (fun a' w' h3 => ?_) h2
     obtain ⟨hy', hor, hK⟩ := h3
     have hC' : C w' := by
      rcases hor with h | h
      · rw [hjz] at h; cases h
      · exact h
     refine ⟨.inr hC', ih (listed.setIfInBounds j true) a' w' (hcl.set hj) hfree' (ready_mono hr (Ne.symm hji)) hy' hC' ?_⟩
     rw [Array.setIfInBounds_comm _ _ hji]
     exact hK
end
def aDp (P : Program) (c : Ctx) (ops : Array Oper) (Q : Exit → Act → World → Prop) (Pp : List PanicEntry → World → Prop) (Z : Nat → Bool) (K : List Nat) (fuel : Nat) (listed : Array Bool) (st : St) : Prop :=
 ∀ a w F, HoldsF c st F a w → ∀ C : World → Prop, (∀ W, Chg (nK K st.heap F) w W → C W) → wpAnyP P .any ops Q Pp C Z fuel listed a w
section
variable {P : Program} {c : Ctx} {ops : Array Oper} {Q : Exit → Act → World → Prop} {Pp : List PanicEntry → World → Prop} {Z : Nat → Bool} {K : List Nat} {fuel : Nat} {listed : Array Bool} {sL hP : List (Nat × Ent)} {o : Oper}
theorem wpAnyP_class {C C' : World → Prop} (h : ∀ w, C' w → C w) : ∀ (fuel : Nat) (listed : Array Bool) (a : Act) (w : World), wpAnyP P .any ops Q Pp C' Z fuel listed a w → wpAnyP P .any ops Q Pp C Z fuel listed a w
 | 0, _, _, _, H => H
 | fuel + 1, _, _, _, H => ⟨H.1, fun i hi => wpOp_mono (fun a' w' h' => ⟨h'.1.imp id (h w'), wpAnyP_class h fuel _ a' w' h'.2⟩) (H.2 i hi)⟩
theorem aC_drawP {id : Nat} {l : List Oper} (Pp : List PanicEntry → World → Prop) (Z : Nat → Bool) (K : List Nat) (hm : P.follows .mixedOrders = true) (hPp : ∀ ch a w, a.defers = [] → Pp ch w → Q (.panic ch) a w) (h : aDp P c l.toArray Q Pp Z K l.length (Array.replicate l.length false) (⟨sL, hP⟩ : St)) : aC P c (.region id l.toArray true) Q (⟨sL, hP⟩ : St) := fun a w ⟨F, H⟩ => by
 refine wp_region_any hm (wpAny_of_P (C := fun _ => True) (Z := Z) hPp _ _ _ _ ?_)
 have := h a w.drew F (H.up (Ext.drew w)) (fun _ => True) (fun _ _ => trivial)
 simpa using this
theorem aDp_y {V : Value → Prop} {p : PV} (i d : Nat) (ho : ops[i]? = some o) (hck : (Region.noSelect ops && (Region.ready .any ops listed).contains i && Region.free .any ops listed i && zWaitsT .any ops Z i && closedB .any ops listed) = true) (hw : wants ops sL o = some true) (hd : o.dst = some d) (hn : d < c.nt) (hy : YE P ⟨sL, onlyK K hP⟩ o V p)
 (k : ∀ v, V v → aDp P c ops Q Pp Z K fuel (listed.setIfInBounds i true) ⟨put d (v, p) sL, hP⟩) : aDp P c ops Q Pp Z K (fuel + 1) listed (⟨sL, hP⟩ : St) := fun a w F H C hC => by
 simp only [Bool.and_eq_true] at hck
 obtain ⟨⟨⟨⟨hs, hr⟩, hf⟩, hz⟩, hcl⟩ := hck
 obtain ⟨v, hV, hS, hrun⟩ := hy _ F a w (H.rdK K)
 refine wpAnyP_class hC _ _ _ _ ?_
 refine wpAnyP_firstT ho hz (Region.noSelect_spec hs) _ listed a w (closedB_spec hcl) (Region.free_spec ho hf) (by simpa using hr) (v := v) (.inl ⟨wanted_of H.rd hw, fun W hW => ?_⟩) (Chg.rfl' _ _) ?_
 · exact hrun _ W hW (fun b ⟨l, x, _, h1, h2⟩ => .inr ⟨l, x, h1, h2⟩) (fun l x b hl hFb ⟨l', x', h1, h2, h3⟩ => by
    obtain ⟨h4, h5⟩ := lk_onlyK.1 hl
    exact H.dj l l' _ _ b (fun e => by rw [e, h1] at h4; cases h4) h5 h2 hFb h3)
 · rw [hd]
   exact k v hV _ w F (H.put hn hS) _ (fun W h => h)
theorem aDp_x {v : Value} {p : PV} (i d : Nat) (ho : ops[i]? = some o) (hck : (Region.noSelect ops && (Region.ready .any ops listed).contains i && Region.free .any ops listed i && zWaitsT .any ops Z i && closedB .any ops listed) = true) (hw : wants ops sL o = some true) (hd : o.dst = some d) (hn : d < c.nt) (hy : YE P ⟨sL, onlyK K hP⟩ o (· = v) p)
 (k : aDp P c ops Q Pp Z K fuel (listed.setIfInBounds i true) ⟨put d (v, p) sL, hP⟩) : aDp P c ops Q Pp Z K (fuel + 1) listed (⟨sL, hP⟩ : St) := aDp_y i d ho hck hw hd hn hy fun u hu => by cases hu; exact k
theorem xDp {v : Value} {p : PV} (i : Nat) (d : Nat) (ho : ops[i]? = some o) (hy : YE P ⟨sL, onlyK K hP⟩ o (· = v) p) (k : aDp P c ops Q Pp Z K fuel (listed.setIfInBounds i true) ⟨put d (v, p) sL, hP⟩) (hck : (Region.noSelect ops && (Region.ready .any ops listed).contains i && Region.free .any ops listed i && zWaitsT .any ops Z i && closedB .any ops listed) = true := by kernel_rfl) (hw : wants ops sL o = some true := by exact rfl) (hd : o.dst = some d := by exact rfl) (hn : d < c.nt := by exact Nat.le_of_ble_eq_true rfl) : aDp P c ops Q Pp Z K (fuel + 1) listed (⟨sL, hP⟩ : St) :=
 aDp_x i d ho hck hw hd hn hy k
theorem yDp {V : Value → Prop} {p : PV} (i : Nat) (d : Nat) (ho : ops[i]? = some o) (hy : YE P ⟨sL, onlyK K hP⟩ o V p) (k : ∀ v, V v → aDp P c ops Q Pp Z K fuel (listed.setIfInBounds i true) ⟨put d (v, p) sL, hP⟩) (hck : (Region.noSelect ops && (Region.ready .any ops listed).contains i && Region.free .any ops listed i && zWaitsT .any ops Z i && closedB .any ops listed) = true := by kernel_rfl) (hw : wants ops sL o = some true := by exact rfl) (hd : o.dst = some d := by exact rfl) (hn : d < c.nt := by exact Nat.le_of_ble_eq_true rfl) : aDp P c ops Q Pp Z K (fuel + 1) listed (⟨sL, hP⟩ : St) :=
 aDp_y i d ho hck hw hd hn hy k
theorem aDp_panic {x : Operand} {t : TypeId} {v : Value} {q : PV} (i : Nat) (ho : ops[i]? = some o) (k : ∀ a w F, HoldsF c (⟨sL, hP⟩ : St) F a w → Pp [{ v := .iface t v, recovered := false }] w) (hr : Region.ready .any ops listed = [i] := by kernel_rfl) (hw : wants ops sL o = some true := by exact rfl) (hop : o.op = .panic x := by exact rfl) (hx : ev sL x = some (.iface t v, q) := by exact rfl) (hdf : c.df = [] := by exact rfl) : aDp P c ops Q Pp Z K (fuel + 1) listed (⟨sL, hP⟩ : St) := fun a w F H C hC =>
 ⟨(fun hn => by rw [hr] at hn; cases hn), fun j hj => by
   rw [hr] at hj
   obtain rfl : j = i := by simpa using hj
   have hxv := (H.rd.ev hx).1
   have h1 := wanted_of H.rd hw
   unfold Go.wpOp
   simp only [ho, h1, if_true]
   refine .inl ?_
   unfold Oper.wp execOp
   simp [hop, hxv, Instr.panic, goPanic, Sem.run, Oper.upon]
   exact ⟨H.df.trans hdf, k a w F H⟩⟩
def aDpZ (P : Program) (c : Ctx) (ops : Array Oper) (Q : Exit → Act → World → Prop) (Pp : List PanicEntry → World → Prop) (Z : Nat → Bool) (fuel : Nat) (listed : Array Bool) (st : St) : Prop :=
 ∀ a w F, HoldsF c st F a w → ∀ C : World → Prop, wpAnyP P .any ops Q Pp C Z fuel listed a w
theorem wpOp_of_listP {Q' : Exit → Act → World → Prop} {k : Nat} (ho : ops[k]? = some o) {a : Act} {w : World} {K : Act → World → Prop} (hK : ∀ a w, Q' .normal a w → K a w) (h : wpList P ops (okN Q' Pp) [o] a w) : wpOp P ops (okN Q Pp) k K a w := by
 have key : ∀ {K' : Act → World → Prop}, o.wp P a w K' (okN Q' Pp) → (∀ a w, K' a w → K a w) → o.wp P a w K (okN Q Pp) := fun {K'} h hK' => by
  unfold Oper.wp at *
  generalize (execOp a.eval o).run P w = r at *
  cases r with
  | ok n w' =>
    cases n <;> simp only [Oper.upon] at h ⊢ <;> first | exact hK' _ _ h | exact h | skip
    · refine Calls.mono h fun e w'' he => ?_
      cases e with
      | returned u => exact hK' _ _ he
      | panicked c => exact he
      | outgrown => obtain ⟨_, _, hf⟩ := he; exact hf.elim
    all_goals exact Rows.mono h fun _ _ h => hK' _ _ h
  | halt x w' =>
    cases x <;> simp only [Oper.upon] at h ⊢
    · exact h
 unfold wpOp
 simp only [ho]
 unfold wpList at h
 split
 · rename_i hw
   rw [if_pos hw] at h
   rcases h with h | ⟨_, _, _, hf⟩
   · exact .inl (key h fun a w h => hK a w h)
   · exact hf.elim
 · rename_i hw
   rw [if_neg hw] at h
   exact hK _ _ h
theorem aDpZ_one (i : Nat) (ho : ops[i]? = some o) (h : ∀ DQ : Exit → Act → World → Prop, (∀ ch a w, a.defers = [] → Pp ch w → DQ (.panic ch) a w) → (∀ st' : St, aDpZ P c ops Q Pp Z fuel (listed.setIfInBounds i true) st' → aN c DQ st') → aL P c ops DQ [o] (⟨sL, hP⟩ : St)) (hr : Region.ready .any ops listed = [i] := by kernel_rfl) (hZ : Z i = true := by rfl) : aDpZ P c ops Q Pp Z (fuel + 1) listed (⟨sL, hP⟩ : St) := fun a w F H C =>
 ⟨(fun hn => by rw [hr] at hn; cases hn), fun j hj => by
   rw [hr] at hj
   obtain rfl : j = i := by simpa using hj
   refine wpOp_of_listP (Q' := fun _ a' w' => (Z j = true ∨ C w') ∧ wpAnyP P .any ops Q Pp C Z fuel (listed.setIfInBounds j true) a' w') ho (fun a' w' hq => hq) ?_
   exact h (okN (fun _ a' w' => (Z j = true ∨ C w') ∧ wpAnyP P .any ops Q Pp C Z fuel (listed.setIfInBounds j true) a' w') Pp) (fun ch a w h1 h2 => ⟨h1, h2⟩) (fun st' hN a' w' ⟨F', H'⟩ => ⟨.inl hZ, hN a' w' F' H' C⟩) a w ⟨F, H⟩⟩
theorem aDpZ_end (hr : Region.ready .any ops listed = []) (h : aN c Q (⟨sL, hP⟩ : St)) : aDpZ P c ops Q Pp Z fuel listed (⟨sL, hP⟩ : St) := fun a w F H C => by
 cases fuel with
 | zero => exact ⟨hr, h a w ⟨F, H⟩⟩
 | succ n => exact ⟨fun _ => h a w ⟨F, H⟩, fun i hi => by rw [hr] at hi; cases hi⟩
theorem aDp_of_Z (h : aDpZ P c ops Q Pp Z fuel listed (⟨sL, hP⟩ : St)) : aDp P c ops Q Pp Z K fuel listed (⟨sL, hP⟩ : St) := fun a w F H C _ => h a w F H C
end
def hdr1 (b : Nat) : Value := .slice (some ⟨b, 0, none⟩) 1 1
def ptr1 (b : Nat) : Value := padd (sbase (hdr1 b)) 0
section
variable {P : Program} {st : St} {o : Oper} {x y : Operand} {q q' : PV} {t t' : TypeId}
theorem run_eql_nil {w : World} {tp te : TypeId} {j : TypeInfo} (hp : P.underlying tp = some (.pointer te)) (hte : P.info? te = some j) : (binOp .eql tp (.pointer none) (.pointer none)).run P w = .ok (.bool true) w := by
 have h : ∀ d : Nat, (Op.equalIn (d + 1) tp (.pointer none) (.pointer none)).run P w = .ok true w := fun d => by
  simp [Op.equalIn, run_underlying hp, sizeOf, typeInfo, hte]
 simp only [binOp]
 simp [Op.equal, Op.maxDepth, h 9999]
theorem run_eql_some {w : World} {tp te : TypeId} {j : TypeInfo} (a : Addr) (hp : P.underlying tp = some (.pointer te)) (hte : P.info? te = some j) : (binOp .eql tp (.pointer (some a)) (.pointer none)).run P w = .ok (.bool false) w := by
 have h : ∀ d : Nat, (Op.equalIn (d + 1) tp (.pointer (some a)) (.pointer none)).run P w = .ok false w := fun d => by
  simp [Op.equalIn, run_underlying hp, sizeOf, typeInfo, hte]
 simp only [binOp]
 simp [Op.equal, Op.maxDepth, h 9999]
theorem q_pnil {te : TypeId} (hp : P.underlying t = some (.pointer te)) (hte : (P.info? te).isSome = true) (ho : o.op = .binOp .eql t x y t' := by exact rfl) (hx : ev st.slots x = some (.pointer none, q) := by exact rfl) (hy : ev st.slots y = some (.pointer none, q') := by exact rfl) : YE P st o (· = .bool true) (.val (.bool true)) :=
 y2 hx hy fun ρ w h3 h4 => by
  obtain ⟨j, hj⟩ := Option.isSome_iff_exists.1 hte
  have := run_eql_nil (w := w) hp hj
  simp only [execOp, ho, h3, h4]
  simp [eqGuard, this]
theorem q_psome {te : TypeId} {b : Nat} (hp : P.underlying t = some (.pointer te)) (hte : (P.info? te).isSome = true) (ho : o.op = .binOp .eql t x y t' := by exact rfl) (hx : ev st.slots x = some (ptr1 b, q) := by exact rfl) (hy : ev st.slots y = some (.pointer none, q') := by exact rfl) : YE P st o (· = .bool false) (.val (.bool false)) :=
 y2 hx hy fun ρ w h3 h4 => by
  obtain ⟨j, hj⟩ := Option.isSome_iff_exists.1 hte
  have := run_eql_some (w := w) ⟨b, 0, none⟩ hp hj
  simp only [ptr1, hdr1, sbase, padd, Nat.add_zero] at h3
  simp only [execOp, ho, h3, h4]
  simp [eqGuard, this]
theorem q_psame {te : TypeId} {b : Nat} (hp : P.underlying t = some (.pointer te)) (hte : (P.info? te).isSome = true) (ho : o.op = .binOp .neq t x y t' := by exact rfl) (hx : ev st.slots x = some (ptr1 b, q) := by exact rfl) (hy : ev st.slots y = some (ptr1 b, q') := by exact rfl) : YE P st o (· = .bool false) (.val (.bool false)) :=
 y2 hx hy fun ρ w h3 h4 => by
  obtain ⟨j, hj⟩ := Option.isSome_iff_exists.1 hte
  have := Lib.run_neq_ptr_same w ⟨b, 0, none⟩ hp hj
  simp only [ptr1, hdr1, sbase, padd, Nat.add_zero] at h3 h4
  simp only [execOp, ho, h3, h4]
  simp [eqGuard, this]
theorem hdr1_shape {M : BS} {w : World} {e k : Nat} {b : Nat} {cs : List PV} {F : BS} (H : Tr M w (hdr1 b) (.own e k 1 cs) F) : w.shape? b = some (e, k) := by
 obtain ⟨xs, Fs, hrow, _⟩ := H.row
 rcases hrow.2 with ⟨h, _⟩ | ⟨g, cap, cur, h, _, hg, _, _, hsz, _⟩
 · cases h
 · unfold hdr1 at h
   cases h
   rw [Nat.one_mul] at hsz
   simp [World.shape?, hg, hsz]
theorem q_p2u {s d te e k b : Nat} {cs : List PV} (l : Nat) (hs : P.underlying s = some (.pointer te)) (hd : P.underlying d = some .unsafePointer) (hte : (P.info? te).map (·.size) = some k) (hk : 0 < k) (ho : o.op = .convert s d x := by exact rfl) (hx : ev st.slots x = some (ptr1 b, q) := by exact rfl) (hl : lk st.heap l = some (hdr1 b, .own e k 1 cs) := by exact rfl) : YE P st o (· = ptr1 b) (.val (ptr1 b)) :=
 .exact fun M F a w H => by
  have hv := (H.ev hx).1
  obtain ⟨j, hj, hjs⟩ := Option.map_eq_some_iff.1 hte
  have hsh := hdr1_shape (H.tr l _ _ hl)
  have hr := Lib.run_to_unsafe w ⟨b, 0, none⟩ hs hd hj (by omega) hsh hk
  refine ⟨.val _, ?_⟩
  simp only [ptr1, hdr1, sbase, padd, Nat.add_zero] at hv ⊢
  simp [execOp, ho, hv, hr]
theorem q_u2p {s d u e k b : Nat} {cs : List PV} (l : Nat) (hs : P.underlying s = some .unsafePointer) (hd : P.underlying d = some (.pointer u)) (hu : (P.info? u).isSome = true) (hlies : liesAt P P.depth e (k / P.cellsOf e) 0 u 1 = true) (ho : o.op = .convert s d x := by exact rfl) (hx : ev st.slots x = some (ptr1 b, q) := by exact rfl) (hl : lk st.heap l = some (hdr1 b, .own e k 1 cs) := by exact rfl) : YE P st o (· = ptr1 b) (.val (ptr1 b)) :=
 .exact fun M F a w H => by
  have hv := (H.ev hx).1
  obtain ⟨j, hj⟩ := Option.isSome_iff_exists.1 hu
  have hsh := hdr1_shape (H.tr l _ _ hl)
  have hr := Lib.run_from_unsafe w ⟨b, 0, none⟩ hs hd hj hsh hlies
  refine ⟨.val _, ?_⟩
  simp only [ptr1, hdr1, sbase, padd, Nat.add_zero] at hv ⊢
  simp [execOp, ho, hv, hr]
theorem q_noesc {f : Nat} {fn : Func} {xs : Array Operand} {ats : Array TypeId} {v : Value} (hf : P.funcs[f]? = some fn) (hname : (fn.name == "runtime.NumGoroutine") = false) (hb : fn.body.isNone = true) (hn : Extern.findNext fn = none) (he : Extern.find fn = some Extern.AbiNoEscape.same) (ho : o.op = .call { callee := .value (.func f), args := xs, argTypes := ats } := by exact rfl) (hx : evL st.slots xs.toList = some [(v, .val v)] := by exact rfl) : YE P st o (· = v) (.val v) :=
 .exact fun M F a w H => by
  obtain ⟨h1, _⟩ := evL_spec H hx
  refine ⟨.val _, ?_⟩
  have hargs : xs.map a.eval = #[v] := by
   rw [show (#[v] : Array Value) = ([(v, PV.val v)].map (·.1)).toArray from rfl, ← h1, ← Array.toList_map, Array.toArray_toList]
  have := run_callFunc_extern hf hname hb hn he #[v] w
  rw [Lib.run_noEscape] at this
  simp [execOp, ho, resolve, Act.eval, Deferred.ofValue, invoke, hargs, this, Result.andThen]
theorem q_sadd {a b : ByteArray} (ho : o.op = .binOp .add t x y t' := by exact rfl) (hx : ev st.slots x = some (.string a, q) := by exact rfl) (hy : ev st.slots y = some (.string b, q') := by exact rfl) (hs : (a.size : Int) + b.size ≤ 9223372036854775807 := by omega) : YE P st o (· = .string (a ++ b)) (.val (.string (a ++ b))) :=
 y2 hx hy fun ρ w h3 h4 => by simp [execOp, ho, h3, h4, eqGuard, binOp, Op.stringOp]; omega
theorem q_usd {e n : Nat} {ats : Array TypeId} {h : Value} {cs : List PV} (l : Nat) (ho : o.op = .call { callee := .builtin .unsafeSliceData, args := #[x], argTypes := ats } := by exact rfl) (hx : ev st.slots x = some (h, q) := by exact rfl) (hl : lk st.heap l = some (h, .own e 1 n cs) := by exact rfl) (hn : 0 < n := by omega) : YE P st o (· = sbase h) (.val (sbase h)) :=
 .exact fun M F a w H => by
  have hv := (H.ev hx).1
  obtain ⟨g, cap, rfl, hc, _⟩ := own_hdr (H.tr l _ _ hl) hn
  refine ⟨.val _, ?_⟩
  have := Lib.run_unsafeSliceData_row (P := P) w ats o.type ⟨g, 0, none⟩ n cap (by omega)
  simp [execOp, ho, resolve, invoke, builtin, hv, this, sbase]
end
section
variable {P : Program} {c : Ctx} {ops : Array Oper} {Q : Exit → Act → World → Prop} {rest : List Oper} {sL hP : List (Nat × Ent)} {o : Oper}
theorem s_alloc1 {t : TypeId} {z : Value} (zs : List Value) (m : Nat) (d : Nat) (hz : ZeroT P t z) (k : ∀ b : Nat, aL P c ops Q rest ⟨put d (ptr1 b, .val (ptr1 b)) sL, put d (hdr1 b, .own t m 1 (zs.map .val)) hP⟩) (hw : wants ops sL o = some true := by exact rfl) (hd : o.dst = some d := by exact rfl) (hn : d < c.nt := by exact Nat.le_of_ble_eq_true rfl) (ho : o.op = .alloc t := by exact rfl) (hzs : z.cells = zs.toArray := by exact rfl) (hm : zs.length = m := by exact rfl) (hl : lk hP d = none := by exact rfl) : aL P c ops Q (o :: rest) (⟨sL, hP⟩ : St) :=
 aL_run hw fun a w F H => by
  obtain ⟨F', H'⟩ := alloc_holds (e := t) (k := m) (n := 1) (cap := 1) (cur := zs.toArray) (v := .pointer (some ⟨w.heap.size, 0, none⟩)) H hl hn (vs := zs) (ps := zs.map .val) (by simp) (fun i y q hy hq => by
   rw [List.getElem?_map, hy] at hq
   simp at hq
   subst hq
   exact .val _) (by omega) (Nat.le_refl _) (by unfold maxLen; omega) (by simp; omega) (List.take_of_length_le (by simp; omega))
  unfold Oper.wp execOp
  simp [ho, Instr.alloc, hz.run, newVar, newRow, newObj, Sem.run, hzs, hd, Oper.upon]
  exact k w.heap.size _ _ ⟨F', H'⟩
theorem apStr_blk {w : World} {t u ty e : TypeId} {i : TypeInfo} (ht : P.underlying t = some (.slice e)) (hu : P.underlying u = some .string) (hi : P.info? e = some i) (hz : i.zero = some (.int .u8 0)) (hsize : i.size = 1) (hby : i.bytes = 1) {v : Value} {n : Nat} {xs : List Value} (hown : w.ownsRow 0 e 1 v n xs) (s : ByteArray) (hb : n + s.size ≤ 140737488355328) {v' : Value} {w' : World} (hr : (Builtin.append_ #[t, u] ty #[v, .string s]).run P w = .ok v' w') :
 v'.ownBlock = v.ownBlock ∨ ∀ b, v'.ownBlock = some b → w.heap.size ≤ b := by
 rcases hown.2 with ⟨rfl, rfl⟩ | ⟨g, cap, cur, rfl, hbg, hg, hnc, hcm, hcs, htake⟩
 · obtain ⟨v2, w2, h1, h2, _⟩ := Lib.run_append_own_string (P := P) w w.heap.size t u ty e i ht hu hi hz hsize hby (.slice none 0 0) 0 xs ⟨hown.1, .inl ⟨rfl, rfl⟩⟩ s (by unfold maxLen; omega) (by omega) (Nat.le_refl _)
   rw [h1] at hr
   cases hr
   right
   intro b hb
   rcases h2.2 with ⟨rfl, _⟩ | ⟨g, cap, cur, rfl, hbg, _⟩
   · cases hb
   · cases hb; exact hbg
 · by_cases hroom : n + s.size ≤ cap
   · have hcs' : cur.size = cap := by simpa using hcs
     have h1 := Lib.run_append_room_string (P := P) w t u ty e i ht hu hi hsize g n cap cur hg s hroom (by omega)
     rw [h1] at hr
     cases hr
     exact .inl rfl
   · have hxl : xs.length = n := by simpa using hown.1
     have holds : ∀ j u, xs[j]? = some u → w.cell? ((⟨g, 0, none⟩ : Addr).add j) = some u := hown.cells (g := g) rfl
     have h1 := Lib.run_append_grow_string (P := P) w t u ty e i (.int .u8 0) ht hu hi hz ⟨g, 0, none⟩ n cap xs (by rw [hsize]; simpa using hxl) holds s (by omega) (by omega) (by rw [hby]; exact growslice_fits (by omega) (by omega))
     rw [h1] at hr
     cases hr
     right
     intro b hb
     cases hb
     exact Nat.le_refl _
theorem s_apStr {t u e n : Nat} {x y : Operand} {h : Value} {q q2 : PV} {bs : List UInt8} {s : ByteArray} (l d : Nat) (hT : ElT P t e 1 1 (.int .u8 0)) (hu : P.underlying u = some .string)
 (k : ∀ h' : Value, h'.oneCell' = true → aL P c ops Q rest ⟨put d (h', .val h') sL, put d (h', .own e 1 (n + s.size) (bs.map pByte ++ s.data.toList.map pByte)) (del l hP)⟩)
 (hb : n + s.size ≤ 140737488355328) (hw : wants ops sL o = some true := by exact rfl) (hd : o.dst = some d := by exact rfl) (hn : d < c.nt := by exact Nat.le_of_ble_eq_true rfl)
 (ho : o.op = .call { callee := .builtin .append, args := #[x, y], argTypes := #[t, u] } := by exact rfl) (hx : ev sL x = some (h, q) := by exact rfl) (hy : ev sL y = some (.string s, q2) := by exact rfl) (hl : lk hP l = some (h, .own e 1 n (bs.map pByte)) := by exact rfl) (hdl : lk (del l hP) d = none := by exact rfl) (hdr : ¬ c.dr := by exact id) : aL P c ops Q (o :: rest) (⟨sL, hP⟩ : St) :=
 aL_run hw fun a w F H => by
  have hxv := (H.rd.ev hx).1
  have hyv := (H.rd.ev hy).1
  have hT1 := H.tr l _ _ hl
  obtain ⟨xs, Fs, hrow, hlen1, hTc, hdd, hbb, hFF⟩ := hT1.row
  obtain ⟨i, hi1, hi2, hi3, hi4⟩ := hT.info
  obtain ⟨v', w', hr, hown, hg, _⟩ := Lib.run_append_own_string (P := P) w 0 t u o.type e i hT.ht hu hi1 hi2 hi3 hi4 h n xs hrow s (by unfold maxLen; omega) hb (Nat.zero_le _)
  have hblk := apStr_blk hT.ht hu hi1 hi2 hi3 hi4 hrow s hb hr
  have hch : Chg (fun b => h.ownBlock = some b) w w' := (Chg.grown hg).wid fun b hb => .inl hb
  have hF1 : ∀ b, h.ownBlock = some b → F l b := fun b hb => (hFF b).2 (.inl hb)
  have hv1 : v'.oneCell' = true := by rcases row_form hown with ⟨rfl, _⟩ | ⟨g, cap, rfl, _⟩ <;> rfl
  let Fn : Nat → BS := fun j b => if j < (bs.map pByte).length then Fs j b else False
  let Fd : BS := fun b => v'.ownBlock = some b ∨ ∃ j, j < (bs.map pByte ++ s.data.toList.map pByte).length ∧ Fn j b
  have hFd : ∀ b, Fd b → F l b ∨ w.heap.size ≤ b := by
   rintro b (h1 | ⟨j, hj, h1⟩)
   · rcases hblk with h2 | h2
     · exact .inl (hF1 b (by rw [← h2]; exact h1))
     · exact .inr (h2 b h1)
   · simp only [Fn] at h1
     split at h1
     · exact .inl ((hFF b).2 (.inr ⟨j, by assumption, h1⟩))
     · exact h1.elim
  have key : HoldsF c ⟨put d (v', .val v') sL, put d (v', .own e 1 (n + s.size) (bs.map pByte ++ s.data.toList.map pByte)) (del l hP)⟩ (fun l' => if l' = d then Fd else F l') (a.put (some d) v') w' := by
   have aux : ∀ l' x, (l' = l ∨ l' = d) → lk (put d (v', .own e 1 (n + s.size) (bs.map pByte ++ s.data.toList.map pByte)) (del l hP)) l' = some x → l' = d ∧ x = (v', .own e 1 (n + s.size) (bs.map pByte ++ s.data.toList.map pByte)) := fun l' x hTl hx' => by
    rcases lk_put hx' with ⟨e1, e2⟩ | ⟨hne2, e1⟩
    · exact ⟨e1.symm, e2.symm⟩
    · rcases hTl with h5 | h5
      · exact absurd h5.symm (lk_del e1).1
      · exact absurd h5.symm hne2
   refine H.change (fun l' => l' = l ∨ l' = d) hn (hch.wid fun b hb => .inl ⟨l, _, .inl rfl, hl, hF1 b hb⟩) (fun l' x hnT hx' => ?_) (fun l' x b hTl hx' hb' => ?_) (fun hmm l' u p hTl hx' => ?_) (fun l1 l2' x1 x2 b h1 h2 hne' hx1 hx2 => absurd ((aux l1 x1 h1 hx1).1.trans (aux l2' x2 h2 hx2).1.symm) hne') (fun _ => .val _) (fun h => (hdr h).elim)
   · rcases lk_put hx' with ⟨e1, _⟩ | ⟨_, e1⟩
     · exact absurd (.inr e1.symm) hnT
     · refine ⟨(lk_del e1).2, ?_⟩
       have : l' ≠ d := fun e2 => hnT (.inr e2)
       simp [this]
   · obtain ⟨rfl, _⟩ := aux l' x hTl hx'
     simp only [if_true] at hb'
     rcases hFd b hb' with h1 | h1
     · exact .inl ⟨l, _, .inl rfl, hl, h1⟩
     · exact .inr h1
   · obtain ⟨rfl, e2⟩ := aux l' _ hTl hx'
     cases e2
     simp only [if_true]
     refine .own (xs ++ Lib.strCells s) Fn hown (by rw [List.length_append, List.length_append, hlen1, List.length_map, Lib.strCells_length]; simp) (fun j y p hy' hp' => ?_) (fun j1 j2 b hj1 hj2 hne' h1 h2 => ?_) (fun j b hj h1 => ?_) (fun b => Iff.rfl)
     · simp only [Fn]
       rcases Nat.lt_or_ge j (bs.map pByte).length with hj | hj
       · rw [List.getElem?_append_left hj] at hp'
         rw [List.getElem?_append_left (by omega)] at hy'
         simp only [hj, if_true]
         exact (hTc j y p hy' hp').to hch hmm (fun b _ hb' => .inr ⟨l, _, hl, hF1 b hb'⟩) (fun b hb' he => hbb j b hj hb' he)
       · rw [List.getElem?_append_right hj] at hp'
         rw [List.getElem?_append_right (by omega), ← hlen1] at hy'
         simp only [show ¬ j < (bs.map pByte).length by omega, if_false]
         rw [Lib.strCells, List.getElem?_map] at hy'
         rw [List.getElem?_map] at hp'
         cases hc : s.data.toList[j - (bs.map pByte).length]? with
         | none => rw [hc] at hp'; cases hp'
         | some z => rw [hc] at hp' hy'; cases hp'; cases hy'; exact .shr (.val _) (fun _ h => h)
     · simp only [Fn] at h1 h2
       split at h1
       · split at h2
         · exact hdd j1 j2 b (by assumption) (by assumption) hne' h1 h2
         · exact h2
       · exact h1
     · simp only [Fn] at h1
       split at h1
       · rename_i hjl
         intro hbk
         have hlt := hT1.lt b ((hFF b).2 (.inr ⟨j, hjl, h1⟩))
         rcases hblk with h3 | h3
         · rw [h3] at hbk; exact hbb j b hjl h1 hbk
         · have := h3 b hbk; omega
       · exact h1.elim
  unfold Oper.wp execOp
  simp only [ho, resolve, invoke, builtin, Sem.run_bind, Sem.run_pure, Result.andThen_ok, List.map_toArray, List.map_cons, List.map_nil, hxv, hyv, hr, Oper.upon, hd]
  exact k v' hv1 _ _ ⟨_, key⟩
theorem s_ustr {pt it e n : Nat} {x y : Operand} {h : Value} {q q2 : PV} {bs : List UInt8} (l d : Nat) (hp : P.underlying pt = some (.pointer e)) (hc : P.cellsOf e = 1)
 (k : aL P c ops Q rest ⟨put d (.string ⟨bs.toArray⟩, .val (.string ⟨bs.toArray⟩)) sL, del l hP⟩) (h0 : bs ≠ []) (hnb : n = bs.length)
 (hw : wants ops sL o = some true := by exact rfl) (hd : o.dst = some d := by exact rfl) (hn : d < c.nt := by exact Nat.le_of_ble_eq_true rfl)
 (ho : o.op = .call { callee := .builtin .unsafeString, args := #[x, y], argTypes := #[pt, it] } := by exact rfl) (hx : ev sL x = some (sbase h, q) := by exact rfl) (hy : ev sL y = some (.int .i64 n, q2) := by exact rfl) (hl : lk hP l = some (h, .own e 1 n (bs.map pByte)) := by exact rfl) : aL P c ops Q (o :: rest) (⟨sL, hP⟩ : St) :=
 aL_run hw fun a w F H => by
  subst hnb
  have hxv := (H.rd.ev hx).1
  have hyv := (H.rd.ev hy).1
  have hT1 := H.tr l _ _ hl
  obtain ⟨xs, Fs, hrow, hlen1, hTc, hdd, hbb, hFF⟩ := hT1.row
  have hl0 : bs.length ≠ 0 := by simpa using h0
  have hxs : xs = Lib.byteCells bs := bytes_of hlen1 hTc
  subst hxs
  rcases hrow.2 with ⟨_, h9⟩ | ⟨g, cap, cur, rfl, _, hg, hnc, hcm, hcs, htake⟩
  · exact absurd h9 hl0
  have hr := Lib.run_unsafeString_row (P := P) w pt it o.type e hp hc g cur.size (by simp [World.shape?, hg]) bs h0 (by omega) (by unfold maxLen at hcm; omega) (fun j z hz => by
   rw [add_none, Nat.zero_add]
   exact row_cell hrow (by simp [Lib.byteCells, hz]))
  have hch : Chg (fun b => b = g) w (w.freeze ⟨g, 0, none⟩ bs.length) := by
   unfold World.freeze
   rw [if_neg hl0]
   exact ⟨rfl, rfl, rfl, by simp, fun k hk hne => by
    simp only [Array.getElem?_modify]
    rw [if_neg (fun e => hne e.symm)]⟩
  have hFg : F l g := (hFF g).2 (.inl rfl)
  have hdw : (w.freeze ⟨g, 0, none⟩ bs.length).drawn = w.drawn := by unfold World.freeze; rw [if_neg hl0]
  have key : HoldsF c ⟨put d (.string ⟨bs.toArray⟩, .val (.string ⟨bs.toArray⟩)) sL, del l hP⟩ F (a.put (some d) (.string ⟨bs.toArray⟩)) (w.freeze ⟨g, 0, none⟩ bs.length) := by
   refine H.change (fun l' => l' = l) hn (hch.wid fun b hb => .inl ⟨l, _, rfl, hl, by rw [hb]; exact hFg⟩) (fun l' x hnT hx' => ⟨(lk_del hx').2, rfl⟩) (fun l' x b hTl hx' hb' => absurd hTl.symm (lk_del hx').1) (fun hmm l' u p hTl hx' => absurd hTl.symm (lk_del hx').1) (fun l1 l2 _ _ _ h1 h2 hne => absurd (h1.trans h2.symm) hne) (fun _ => .val _) (fun _ => by rw [hdw]; exact Nat.le_refl _)
  unfold Oper.wp execOp
  simp only [sbase] at hxv
  simp only [ho, resolve, invoke, builtin, Sem.run_bind, Sem.run_pure, Result.andThen_ok, List.map_toArray, List.map_cons, List.map_nil, hxv, hyv, hr, Oper.upon, hd]
  exact k _ _ ⟨_, key⟩
end
section
variable {P : Program} {st : St} {o : Oper} {x y u : Operand} {q q' q2 : PV} {t t' : TypeId}
theorem q_sfrom {a : ByteArray} {k : IntKind} {i : Int} (hu : P.underlying t = some .string) (h0 : 0 ≤ i) (h1 : i ≤ a.size) (ho : o.op = .slice t x (some y) none none := by exact rfl) (hx : ev st.slots x = some (.string a, q) := by exact rfl) (hy : ev st.slots y = some (.int k i, q') := by exact rfl) : YE P st o (· = .string (a.extract i.toNat a.size)) (.val (.string (a.extract i.toNat a.size))) :=
 y2 hx hy fun ρ w h3 h4 => by simp [execOp, ho, h3, h4, run_sliceAt_string w t _ _ _ _ hu, run_slice_string_l w t a hu k i h0 h1]
theorem q_sto {a : ByteArray} {k : IntKind} {i : Int} (hu : P.underlying t = some .string) (h0 : 0 ≤ i) (h1 : i ≤ a.size) (ho : o.op = .slice t x none (some y) none := by exact rfl) (hx : ev st.slots x = some (.string a, q) := by exact rfl) (hy : ev st.slots y = some (.int k i, q') := by exact rfl) : YE P st o (· = .string (a.extract 0 i.toNat)) (.val (.string (a.extract 0 i.toNat))) :=
 y2 hx hy fun ρ w h3 h4 => by simp [execOp, ho, h3, h4, run_sliceAt_string w t _ _ _ _ hu, run_slice_string_h w t a hu k i h0 h1]
theorem run_slice_string_lh (w : World) (a : ByteArray) (k k' : IntKind) (i j : Int) (hu : P.underlying t = some .string) (h0 : 0 ≤ i) (h1 : i ≤ j) (h2 : j ≤ a.size) : (Instr.slice t (.string a) (some (.int k i)) (some (.int k' j)) none).run P w = .ok (.string (a.extract i.toNat j.toNat)) w := by
 have h3 : i ≤ ((j.toNat : Nat) : Int) := by omega
 simp [Instr.slice, run_underlying hu, Instr.sliceBounds, run_sliceBound, h0, h1, h2, h3, (by omega : 0 ≤ j)]
 rw [run_sliceBound _ k i j.toNat _ h0 h3]; rfl
theorem q_sft {a : ByteArray} {k k' : IntKind} {i j : Int} (hu : P.underlying t = some .string) (h0 : 0 ≤ i) (h1 : i ≤ j) (h2 : j ≤ a.size) (ho : o.op = .slice t x (some y) (some u) none := by exact rfl) (hx : ev st.slots x = some (.string a, q) := by exact rfl) (hy : ev st.slots y = some (.int k i, q') := by exact rfl) (hz : ev st.slots u = some (.int k' j, q2) := by exact rfl) : YE P st o (· = .string (a.extract i.toNat j.toNat)) (.val (.string (a.extract i.toNat j.toNat))) :=
 .exact fun M F a' w H => by
  have e1 := (H.ev hx).1
  have e2 := (H.ev hy).1
  have e3 := (H.ev hz).1
  exact ⟨.val _, by simp [execOp, ho, e1, e2, e3, run_sliceAt_string w t _ _ _ _ hu, run_slice_string_lh w a k k' i j hu h0 h1 h2]⟩
theorem q_mkif {v : Value} (hu : (match P.underlying t with | some (.interface _) => false | some _ => true | none => false) = true) (ho : o.op = .makeInterface t x := by exact rfl) (hx : ev st.slots x = some (v, q) := by exact rfl) : YE P st o (· = .iface t v) (.val (.iface t v)) :=
 .exact fun M F a w H => by
  have e1 := (H.ev hx).1
  refine ⟨.val _, ?_⟩
  simp only [execOp, ho, e1]
  unfold Instr.makeInterface
  cases h : P.underlying t with
  | none => rw [h] at hu; cases hu
  | some d => cases d <;> simp_all [run_underlying h]
theorem shr_agg {M : BS} {w : World} {v : Value} {vs : List Value} (h : Shr M w v (.agg (vs.map .val))) : v = .agg vs.toArray := by
 generalize hp : PV.agg (vs.map .val) = p at h
 cases h with
 | agg us ps hl hV =>
   cases hp
   congr 2
   refine List.ext_getElem? fun i => ?_
   rw [List.length_map] at hl
   cases h1 : us[i]? with
   | none =>
     have := List.getElem?_eq_none_iff.1 h1
     rw [List.getElem?_eq_none (by omega)]
   | some a =>
     have hi := lt_of_get h1
     have h2 : vs[i]? = some (vs[i]'(by omega)) := List.getElem?_eq_getElem (by omega)
     have h3 := hV i a (.val (vs[i]'(by omega))) h1 (by rw [List.getElem?_map, h2]; rfl)
     rw [h2]
     cases h3; rfl
 | _ => cases hp
end
section
variable {P : Program} {c : Ctx} {ops : Array Oper} {Q : Exit → Act → World → Prop} {rest : List Oper} {sL hP : List (Nat × Ent)}
theorem aL_agv {d : Nat} {v : Value} (vs : List Value) (hx : lk sL d = some (v, .agg (vs.map .val))) (k : v = .agg vs.toArray → aL P c ops Q rest (⟨sL, hP⟩ : St)) : aL P c ops Q rest (⟨sL, hP⟩ : St) := fun a w ⟨F, H⟩ => k (shr_agg (H.sl d v _ hx).2) a w ⟨F, H⟩
theorem aDp_agv {Pp : List PanicEntry → World → Prop} {Z : Nat → Bool} {K : List Nat} {fuel : Nat} {listed : Array Bool} {d : Nat} {v : Value} (vs : List Value) (hx : lk sL d = some (v, .agg (vs.map .val))) (k : v = .agg vs.toArray → aDp P c ops Q Pp Z K fuel listed (⟨sL, hP⟩ : St)) : aDp P c ops Q Pp Z K fuel listed (⟨sL, hP⟩ : St) := fun a w F H => k (shr_agg (H.sl d v _ hx).2) a w F H
end
def pcells : PV → List PV
 | .agg ps => ps
 | p => [p]
def spl {α : Type} : List α → Nat → List α → List α
 | cs, _, [] => cs
 | cs, o, x :: xs => spl (cs.set o x) (o + 1) xs
def setQ {α : Type} (offs : List (Nat × Nat)) : List α → List (Nat × List α) → List α
 | cs, [] => cs
 | cs, (i, xs) :: r => setQ offs (spl cs (offs.getD i (0, 0)).1 xs) r
theorem spl_length {α : Type} : ∀ (xs cs : List α) (o : Nat), (spl cs o xs).length = cs.length
 | [], _, _ => rfl
 | x :: xs, cs, o => by rw [spl, spl_length xs, List.length_set]
def isAg : PV → Bool
 | .agg _ => true
 | _ => false
def okP (offs : List (Nat × Nat)) (n : Nat) (e : Nat × Ent) : Bool := match offs[e.1]? with
 | some (o, k) => decide ((pcells e.2.2).length = k) && decide (o + k ≤ n) && (one e.2.2 || isAg e.2.2)
 | none => false
theorem fill_spl (off : Nat) : ∀ (xs : List Value) (k : Nat) (cs : Array Value), ((xs.zipIdx k).foldl (fun cs (c, j) => cs.setIfInBounds (off + j) c) cs).toList = spl cs.toList (off + k) xs
 | [], _, _ => rfl
 | x :: xs, k, cs => by
   rw [List.zipIdx_cons, List.foldl_cons, fill_spl off xs (k + 1), spl, Array.toList_setIfInBounds]
   rfl
theorem fill_Q (offs : List (Nat × Nat)) : ∀ (ps : List (Nat × Value)) (cs : List Value), (∀ x ∈ ps, ∃ o, offs[x.1]? = some (o, x.2.cells.size) ∧ o + x.2.cells.size ≤ cs.length) → Instr.fill (offs.toArray[·]?) cs.toArray ps = some (setQ offs cs (ps.map fun x => (x.1, x.2.cells.toList))).toArray
 | [], cs, _ => rfl
 | (i, v) :: ps, cs, h => by
   obtain ⟨o, h1, h2⟩ := h (i, v) (by simp)
   have hpl : offs.toArray[i]? = some (o, v.cells.size) := by simpa using h1
   have hc : ¬ (v.cells.size ≠ v.cells.size || decide (o + v.cells.size > cs.toArray.size)) = true := by simp at h2 ⊢; omega
   simp only [Instr.fill, hpl, hc, if_false]
   have e : (v.cells.zipIdx.foldl (fun cs (c, j) => cs.setIfInBounds (o + j) c) cs.toArray) = (spl cs o v.cells.toList).toArray := by
    apply Array.toList_inj.1
    have := fill_spl o v.cells.toList 0 cs.toArray
    rw [← Array.foldl_toList, Array.toList_zipIdx]
    exact this
   rw [e]
   have hg : offs.getD i (0, 0) = (o, v.cells.size) := by rw [List.getD_eq_getElem?_getD, h1]; rfl
   have := fill_Q offs ps (spl cs o v.cells.toList) fun x hx => by rw [spl_length]; exact h x (by simp [hx])
   rw [this, List.map_cons, setQ, hg]
   rfl
theorem spl_rel (M : BS) (w : World) : ∀ (us : List Value) (qs : List PV) (vs : List Value) (ps : List PV) (o : Nat), us.length = qs.length → (∀ (i : Nat) (x : Value) (q : PV), us[i]? = some x → qs[i]? = some q → Shr M w x q) → vs.length = ps.length → (∀ (i : Nat) (x : Value) (q : PV), vs[i]? = some x → ps[i]? = some q → Shr M w x q) →
 ∀ (i : Nat) (x : Value) (q : PV), (spl vs o us)[i]? = some x → (spl ps o qs)[i]? = some q → Shr M w x q
 | [], [], vs, ps, o, _, _, _, h => h
 | [], _ :: _, _, _, _, h, _, _, _ => by simp at h
 | _ :: _, [], _, _, _, h, _, _, _ => by simp at h
 | a :: us, b :: qs, vs, ps, o, hl, hu, hl2, h => by
   rw [spl, spl]
   refine spl_rel M w us qs _ _ _ (by simpa using hl) (fun i x q hx hq => hu (i + 1) x q (by simpa using hx) (by simpa using hq)) (by simpa using hl2) fun i x q hx hq => ?_
   by_cases hij : o = i
   · subst hij
     have h1 : o < vs.length := by have := lt_of_get hx; simpa using this
     rw [List.getElem?_set_self h1] at hx
     rw [List.getElem?_set_self (by omega)] at hq
     cases hx; cases hq
     exact hu 0 a b rfl rfl
   · rw [List.getElem?_set_ne hij] at hx hq
     exact h i x q hx hq
theorem shr_cells {M : BS} {w : World} {v : Value} {p : PV} (h : Shr M w v p) (hp : (one p || isAg p) = true) : v.cells.toList.length = (pcells p).length ∧ ∀ (i : Nat) (x : Value) (q : PV), v.cells.toList[i]? = some x → (pcells p)[i]? = some q → Shr M w x q := by
 by_cases h1 : one p = true
 · have hv := h.one h1
   have hc : v.cells.toList = [v] := by rw [cells_one hv]
   have hpc : pcells p = [p] := by cases p <;> first | rfl | cases h1
   rw [hc, hpc]
   refine ⟨rfl, fun i x q hx hq => ?_⟩
   match i with
   | 0 => cases hx; cases hq; exact h
   | i + 1 => simp at hx
 · rw [Bool.or_eq_true] at hp
   have hp := hp.resolve_left h1
   cases h with
   | agg us ps hl hV => exact ⟨hl, hV⟩
   | _ => cases hp
theorem setQ_rel (M : BS) (w : World) (offs : List (Nat × Nat)) : ∀ (es : List (Nat × Ent)) (vs : List Value) (ps : List PV), vs.length = ps.length → (∀ (i : Nat) (x : Value) (q : PV), vs[i]? = some x → ps[i]? = some q → Shr M w x q) → (∀ x ∈ es, Shr M w x.2.1 x.2.2 ∧ (one x.2.2 || isAg x.2.2) = true) →
 (setQ offs vs (es.map fun x => (x.1, x.2.1.cells.toList))).length = (setQ offs ps (es.map fun x => (x.1, pcells x.2.2))).length ∧ ∀ (i : Nat) (x : Value) (q : PV), (setQ offs vs (es.map fun x => (x.1, x.2.1.cells.toList)))[i]? = some x → (setQ offs ps (es.map fun x => (x.1, pcells x.2.2)))[i]? = some q → Shr M w x q
 | [], vs, ps, hl, h, _ => ⟨hl, h⟩
 | (j, v, p) :: es, vs, ps, hl, h, he => by
   obtain ⟨h1, h2⟩ := he (j, v, p) (by simp)
   obtain ⟨h3, h4⟩ := shr_cells h1 h2
   exact setQ_rel M w offs es _ _ (by rw [spl_length, spl_length]; exact hl) (spl_rel M w _ _ _ _ _ h3 h4 hl h) fun x hx => he x (by simp [hx])
section
variable {P : Program} {sL hP : List (Nat × Ent)} {o : Oper}
theorem q_buildM {t : Nat} {parts : Array (Nat × Operand)} {z : Value} {offs : List (Nat × Nat)} {zs : List Value} {es : List (Nat × Ent)} (hT : stInfo P t = some (z, offs)) (hzs : z.cells = zs.toArray := by exact rfl) (ho : o.op = .build t parts := by exact rfl) (hx : evP sL parts.toList = some es := by exact rfl) (hok : es.all (okP offs zs.length) = true := by exact rfl) : YE P (⟨sL, hP⟩ : St) o (fun _ => True) (.agg (setQ offs (zs.map .val) (es.map fun x => (x.1, pcells x.2.2)))) := fun M F a w H => by
 obtain ⟨h2, h3⟩ := evP_spec H hx
 have hok' : ∀ x ∈ es, okP offs zs.length x = true := fun x hx => List.all_eq_true.1 hok x hx
 have hag : ∀ x ∈ es, (one x.2.2 || isAg x.2.2) = true := fun x hx => by
  have := hok' x hx
  unfold okP at this
  split at this
  · simp only [Bool.and_eq_true] at this; exact this.2
  · cases this
 obtain ⟨h4, h5⟩ := setQ_rel M w offs es zs (zs.map .val) (by simp) (fun i x q hx hq => by
  rw [List.getElem?_map, hx] at hq
  simp at hq
  subst hq
  exact .val _) fun x hx => ⟨h3 x hx, hag x hx⟩
 refine ⟨.agg (setQ offs zs (es.map fun x => (x.1, x.2.1.cells.toList))).toArray, trivial, .agg _ _ h4 h5, fun N W _ _ _ => ?_⟩
 have hb : P.built t ((parts.map fun (i, x) => (i, a.eval x)).toList) = some (setQ offs zs (es.map fun x => (x.1, x.2.1.cells.toList))).toArray := by
  have hpe : (parts.map fun (i, x) => (i, a.eval x)).toList = es.map fun x => (x.1, x.2.1) := by rw [Array.toList_map, ← h2]
  rw [hpe]
  unfold stInfo at hT
  split at hT
  · rename_i i fs hi hf
    split at hT
    · rename_i z' pl hz hpl
      cases hT
      unfold Program.built
      simp only [hi, hf, hz, hpl, hzs]
      have := fill_Q offs (es.map fun x => (x.1, x.2.1)) zs fun x hx => by
       rw [List.mem_map] at hx
       obtain ⟨y, hy, rfl⟩ := hx
       have h6 := hok' y hy
       have h7 := (shr_cells (h3 y hy) (hag y hy)).1
       unfold okP at h6
       split at h6
       · rename_i o k hok
         simp only [Bool.and_eq_true, decide_eq_true_eq] at h6
         have h8 : y.2.1.cells.size = k := by rw [← h6.1.1, ← h7, Array.length_toList]
         exact ⟨o, by rw [h8]; exact hok, by rw [h8]; exact h6.1.2⟩
       · cases h6
      rw [this, List.map_map]
      rfl
    · cases hT
  · cases hT
 have := run_build (P := P) W t (parts.map fun (i, x) => (i, a.eval x)) _ hb
 simp only [execOp, ho]
 simp [this]
end
end Go.En
namespace Go.Proofs.YtbfilfhgcihhoaaGreatDoor
open Go.RowKit Go.Cb Go.En
set_option linter.all false
set_option maxRecDepth 100000
theorem tFl33_0_PtN : FldT Tryz.prog 33 0 0 = true := by kernel_rfl
theorem tFl33_1_PtN : FldT Tryz.prog 33 1 1 = true := by kernel_rfl
theorem tFl99_0_PtN : FldT Tryz.prog 99 0 0 = true := by kernel_rfl
theorem tFl99_1_PtN : FldT Tryz.prog 99 1 1 = true := by kernel_rfl
theorem tNa3_PtN : NoAgg Tryz.prog 3 = true := by kernel_rfl
theorem tNa9_PtN : NoAgg Tryz.prog 9 = true := by kernel_rfl
theorem tSz3_PtN : (Tryz.prog.info? 3).map (·.size) = some 1 := by kernel_rfl
theorem tSz9_PtN : (Tryz.prog.info? 9).map (·.size) = some 1 := by kernel_rfl
abbrev pB (l : List UInt8) : PV := pStr (bst l)
theorem bst_at {l : List UInt8} {i : Nat} {c : UInt8} (h : l[i]? = some c) : (bst l).data[i]? = some c := by rw [bst_get, h]
theorem bst_eq (l m : List UInt8) : ((bst l).toList == (bst m).toList) = decide (l = m) := by
 rw [Bool.eq_iff_iff, decide_eq_true_eq]
 exact (strEq_iff (a := bst l) (b := bst m)).trans ⟨fun h => bst_inj h, fun h => by rw [h]⟩
theorem q_from {P : Program} {st : St} {o : Oper} {x y : Operand} {q q' : PV} {t : TypeId} {l : List UInt8} {k : IntKind} {i : Int} (hu : P.underlying t = some .string) (ho : o.op = .slice t x (some y) none none := by exact rfl) (hx : ev st.slots x = some (.string (bst l), q) := by exact rfl) (hy : ev st.slots y = some (.int k i, q') := by exact rfl) (h0 : 0 ≤ i := by omega) (h1 : i ≤ l.length := by omega) : YE P st o (· = .string (bst (l.drop i.toNat))) (pB (l.drop i.toNat)) := by
 have := q_sfrom hu h0 (by rw [bst_size]; exact h1) ho hx hy
 rw [bst_drop] at this
 exact this
theorem q_upto {P : Program} {st : St} {o : Oper} {x y : Operand} {q q' : PV} {t : TypeId} {l : List UInt8} {k : IntKind} {i : Int} (hu : P.underlying t = some .string) (ho : o.op = .slice t x none (some y) none := by exact rfl) (hx : ev st.slots x = some (.string (bst l), q) := by exact rfl) (hy : ev st.slots y = some (.int k i, q') := by exact rfl) (h0 : 0 ≤ i := by omega) (h1 : i ≤ l.length := by omega) : YE P st o (· = .string (bst (l.take i.toNat))) (pB (l.take i.toNat)) := by
 have := q_sto hu h0 (by rw [bst_size]; exact h1) ho hx hy
 rw [bst_take] at this
 exact this
theorem get_byte {l : List UInt8} {i : Nat} (h : i < l.length) : ∃ c, l[i]? = some c := ⟨l[i], List.getElem?_eq_getElem h⟩
theorem tkLetter_e (c : Int) : AF Tryz.prog 78 [pU8 c] (· = pBool (letterB c)) := by
 refine AF.of_body 17 Tryz.func78 rfl Tryz.ntmps78 (Nat.le_of_ble_eq_true rfl) ?_
 intro w0 M0 vs hl hv
 obtain ⟨v0, rfl⟩ := len1 hl
 obtain rfl := hv 0 _ _ rfl rfl
 clear hl hv
 refine nav ?_
 (refine aC_region ?_ <;> refine xL 2 q_assign ?_ <;> refine aL_end (nav ?_) <;> try dsimp only)
 (refine aC_region ?_ <;> refine xL 3 q_move ?_ <;> refine xL 4 q_geq ?_ <;> refine xL 5 q_move ?_ <;> (refine bLd 5 (fun hb5 => ?_) (fun hb5 => ?_) <;> (first | refine kL 6 ?_ | refine xL 6 q_move ?_)) <;> (first | refine kL 7 ?_ | refine xL 7 q_leq ?_) <;> refine xL 8 q_pick ?_ <;> refine xL 9 q_move ?_ <;> (first | refine xL 10 q_move ?_ | (refine bLd 9 (fun hb9 => ?_) (fun hb9 => ?_) <;> (first | refine kL 10 ?_ | refine xL 10 q_move ?_))) <;> (first | refine kL 11 ?_ | refine xL 11 q_geq ?_) <;> (first | refine kL 12 ?_ | refine xL 12 q_move ?_) <;> (first | refine kL 13 ?_ | (refine bLd 12 (fun hb12 => ?_) (fun hb12 => ?_) <;> (first | refine kL 13 ?_ | refine xL 13 q_move ?_))) <;> (first | refine kL 14 ?_ | refine xL 14 q_leq ?_) <;> (first | refine kL 15 ?_ | refine xL 15 q_pick ?_) <;> refine xL 16 q_pick ?_ <;> refine xL 2 q_assign ?_ <;> refine aL_end (nav ?_) <;> try dsimp only) <;> (
  refine ret_shr (Tryz.results78) rfl (bool_val ?_)
  simp only [letterB, Bool.or_eq_true, Bool.and_eq_true, decide_eq_true_eq, true_iff, false_iff, Bool.false_eq_true] <;> omega)
theorem tkDigit_e (c : UInt8) : AF Tryz.prog 81 [pU8 c.toNat] (· = pBool (isDB c)) := by
 refine AF.of_body 9 Tryz.func81 rfl Tryz.ntmps81 (Nat.le_of_ble_eq_true rfl) ?_
 intro w0 M0 vs hl hv
 obtain ⟨v0, rfl⟩ := len1 hl
 obtain rfl := hv 0 _ _ rfl rfl
 clear hl hv
 refine nav ?_
 (refine aC_region ?_ <;> refine xL 2 q_assign ?_ <;> refine aL_end (nav ?_) <;> try dsimp only)
 (refine aC_region ?_ <;> refine xL 3 q_move ?_ <;> refine xL 4 q_geq ?_ <;> refine xL 5 q_move ?_ <;> (refine bLd 5 (fun hb5 => ?_) (fun hb5 => ?_) <;> (first | refine kL 6 ?_ | refine xL 6 q_move ?_)) <;> (first | refine kL 7 ?_ | refine xL 7 q_leq ?_) <;> refine xL 8 q_pick ?_ <;> refine xL 2 q_assign ?_ <;> refine aL_end (nav ?_) <;> try dsimp only) <;> (
  refine ret_shr (Tryz.results81) rfl (bool_val ?_)
  simp only [isDB, Bool.and_eq_true, decide_eq_true_eq, true_iff, false_iff, Bool.false_eq_true] <;> omega)
theorem tkNext1_e (c : UInt8) : AF Tryz.prog 80 [pU8 c.toNat] (· = pBool (isPB c)) := by
 refine AF.of_body 21 Tryz.func80 rfl Tryz.ntmps80 (Nat.le_of_ble_eq_true rfl) ?_
 intro w0 M0 vs hl hv
 obtain ⟨v0, rfl⟩ := len1 hl
 obtain rfl := hv 0 _ _ rfl rfl
 clear hl hv
 refine nav ?_
 (refine aC_region ?_ <;> refine xL 2 q_assign ?_ <;> refine aL_end (nav ?_) <;> try dsimp only)
 (refine aC_region ?_ <;> refine xL 3 q_move ?_ <;> (refine cS 4 (cA Tryz.call78 (tkLetter_e c.toNat)) fun v4 hv4 => ?_; cases hv4) <;> refine xL 5 q_move ?_ <;> (refine bL 5 (fun hb5 => ?_) (fun hb5 => ?_) <;> (first | refine kL 6 ?_ | refine xL 6 q_move ?_)) <;> (first | refine kL 7 ?_ | (refine cS 7 (cA Tryz.call81 (tkDigit_e c)) fun v7 hv7 => ?_; cases hv7)) <;> refine xL 8 q_pick ?_ <;> refine xL 9 q_move ?_ <;> (first | refine kL 10 ?_ | (refine bL 9 (fun hb9 => ?_) (fun hb9 => ?_) <;> (first | refine kL 10 ?_ | refine xL 10 q_move ?_))) <;> (first | refine kL 11 ?_ | refine xL 11 q_eql ?_) <;> refine xL 12 q_pick ?_ <;> refine xL 13 q_move ?_ <;> (first | refine kL 14 ?_ | (refine bLd 13 (fun hb13 => ?_) (fun hb13 => ?_) <;> (first | refine kL 14 ?_ | refine xL 14 q_move ?_))) <;> (first | refine kL 15 ?_ | refine xL 15 q_eql ?_) <;> refine xL 16 q_pick ?_ <;> refine xL 17 q_move ?_ <;> (first | refine kL 18 ?_ | (refine bLd 17 (fun hb17 => ?_) (fun hb17 => ?_) <;> (first | refine kL 18 ?_ | refine xL 18 q_move ?_))) <;> (first | refine kL 19 ?_ | refine xL 19 q_eql ?_) <;> refine xL 20 q_pick ?_ <;> refine xL 2 q_assign ?_ <;> refine aL_end (nav ?_) <;> try dsimp only) <;> (
  refine ret_shr (Tryz.results80) rfl (bool_val ?_)
  simp only [isPB, partB, isDB] at *
  simp only [Bool.or_eq_true, Bool.and_eq_true, decide_eq_true_eq, true_iff, false_iff, Bool.false_eq_true, beq_iff_eq] at * <;> simp_all <;> omega)
theorem tw_stop {q : UInt8 → Bool} : ∀ {l : List UInt8} {k : Nat} {c : UInt8}, (∀ (j : Nat) (d : UInt8), j < k → l[j]? = some d → q d = true) → l[k]? = some c → q c = false → (l.takeWhile q).length = k
 | [], k, c, _, h, _ => by simp at h
 | d :: l, 0, c, _, h, hc => by simp at h; subst h; rw [List.takeWhile_cons, hc]; rfl
 | d :: l, k + 1, c, h0, h, hc => by
   rw [List.takeWhile_cons, h0 0 d (by omega) rfl]
   simp only [if_true, List.length_cons]
   rw [tw_stop (q := q) (l := l) (k := k) (c := c) (fun j e hj he => h0 (j + 1) e (by omega) (by simpa using he)) (by simpa using h) hc]
theorem tw_end {q : UInt8 → Bool} : ∀ {l : List UInt8}, (∀ (j : Nat) (d : UInt8), l[j]? = some d → q d = true) → (l.takeWhile q).length = l.length
 | [], _ => rfl
 | d :: l, h0 => by
   rw [List.takeWhile_cons, h0 0 d rfl]
   simp only [if_true, List.length_cons]
   rw [tw_end (q := q) (l := l) fun j e he => h0 (j + 1) e (by simpa using he)]
theorem tkLength_e (f : Nat) (p : UInt8 → Bool) (l : List UInt8) (hl : l.length ≤ 1000000) (hc : ∀ args w, (callFunc f args).run Tryz.prog w = .ok (.enter f args) w) (hf : ∀ c, AF Tryz.prog f [pU8 c.toNat] (· = pBool (p c))) : AF Tryz.prog 79 [pB l, .fn f []] (· = pInt (l.takeWhile p).length) := by
 have hsz := bst_size l
 refine AF.of_body 21 Tryz.func79 rfl Tryz.ntmps79 (Nat.le_of_ble_eq_true rfl) ?_
 intro w0 M0 vs hl hv
 obtain ⟨v0, v1, rfl⟩ := len2 hl
 obtain rfl := hv 0 _ _ rfl rfl
 clear hl hv
 refine nav ?_
 (refine aC_region ?_ <;> refine xL 4 q_assign ?_ <;> refine aL_end (nav ?_) <;> try dsimp only)
 (refine aC_region ?_ <;> refine xL 6 q_move ?_ <;> refine xL 7 (q_slen Tryz.underlying9) ?_ <;> refine xL 8 q_move ?_ <;> refine aL_end (nav ?_) <;> try dsimp only)
 refine aC_loop (ι := { k : Nat // k ≤ l.length ∧ ∀ j d, j < k → l[j]? = some d → p d = true }) (fun k => ⟨[(0, _, _), (1, _, _), (7, _, _), (8, .int .i64 k.1, pInt k.1)], []⟩) (fun k => l.length - k.1) ⟨0, Nat.zero_le _, fun j d hj => absurd hj (Nat.not_lt_zero _)⟩ (fun a w H => H.weaken ⟨rfl, rfl, rfl, rfl, trivial⟩ trivial) ?_
 rintro ⟨k, hk, hp⟩
 dsimp only
 try dsimp only at hk hp
 refine nav ?_
 (refine aC_region ?_ <;> refine xL 9 q_lss ?_ <;> refine aL_end (nav ?_) <;> try dsimp only)
 (first | refine cCd ?_ ?_ | refine cC ?_ ?_) <;> intro hb9
 · first
   | exact Bool.noConfusion hb9
   | (
    obtain ⟨c, hcx⟩ := get_byte (show k < l.length by omega)
    have hcy := bst_at hcx
    refine nav ?_
    (refine aC_region ?_ <;> refine xL 10 q_move ?_ <;> refine xL 5 q_assign ?_ <;> refine aL_end (nav ?_) <;> try dsimp only)
    (refine aC_region ?_ <;> refine xL 11 q_move ?_ <;> refine xL 12 q_move ?_ <;> refine xL 13 q_move ?_ <;> refine xL 14 (q_index Tryz.underlying9) ?_ <;> (refine cS 15 (callF (f := f) (ps := []) rfl ⟨_, rfl⟩ hc rfl (hf c)) fun v15 hv15 => ?_; cases hv15) <;> refine xL 16 q_not ?_ <;> refine aL_end (nav ?_) <;> try dsimp only)
    (first | refine cCd ?_ ?_ | refine cC ?_ ?_) <;> intro hb16
    · first
      | exact Bool.noConfusion hb16
      | (
       refine nav ?_
       (refine aC_region ?_ <;> refine xL 17 q_move ?_ <;> refine xL 4 q_assign ?_ <;> refine aL_end (nav ?_) <;> try dsimp only)
       refine ret_shr (Tryz.results79) rfl ?_
       rw [tw_stop hp hcx (by simpa using hb16)])
    · first
      | exact Bool.noConfusion hb16
      | (
       refine nav ?_
       (refine aC_region ?_ <;> refine xL 18 q_add ?_ <;> refine xL 8 q_move ?_ <;> refine aL_end (nav ?_) <;> try dsimp only)
       refine aN_again (
        ⟨k + 1, by omega, fun j d hj hd => by
         rcases Nat.lt_or_ge j k with h | h
         · exact hp j d h hd
         · obtain rfl : j = k := by omega
           rw [hcx] at hd; cases hd; simpa using hb16⟩
        ) (by dsimp only; omega) ⟨rfl, rfl, rfl, rfl, trivial⟩ trivial))
 · first
   | exact Bool.noConfusion hb9
   | (
    refine nav ?_
    (refine aC_region ?_ <;> refine xL 19 q_move ?_ <;> refine xL 20 (q_slen Tryz.underlying9) ?_ <;> refine xL 4 q_assign ?_ <;> refine aL_end (nav ?_) <;> try dsimp only)
    refine ret_shr (Tryz.results79) rfl ?_
    rw [tw_end fun j d hd => hp j d (by have := lt_of_get hd; omega) hd]
    try (rw [hsz]; done))
theorem pre_take {l m : List UInt8} (h : m.length ≤ l.length) : m.isPrefixOf l = decide (l.take m.length = m) := by
 rw [Bool.eq_iff_iff, List.isPrefixOf_iff_prefix, decide_eq_true_eq, List.prefix_iff_eq_take]
 exact ⟨fun h => h.symm, fun h => h.symm⟩
theorem pre_long {l m : List UInt8} (h : ¬ m.length ≤ l.length) : m.isPrefixOf l = false := by
 cases h2 : m.isPrefixOf l with
 | false => rfl
 | true => exact absurd (List.isPrefixOf_iff_prefix.1 h2).length_le h
theorem slPrefix_e (l m : List UInt8) (hl : l.length ≤ 1000000) (hm : m.length ≤ 1000000) : AF Tryz.prog 146 [pB l, pB m] (· = pBool (m.isPrefixOf l)) := by
 have h1 := bst_size l
 have h2 := bst_size m
 refine AF.of_body 18 Tryz.func146 rfl Tryz.ntmps146 (Nat.le_of_ble_eq_true rfl) ?_
 intro w0 M0 vs hl hv
 obtain ⟨v0, v1, rfl⟩ := len2 hl
 obtain rfl := hv 0 _ _ rfl rfl
 obtain rfl := hv 1 _ _ rfl rfl
 clear hl hv
 refine nav ?_
 (refine aC_region ?_ <;> refine xL 4 q_assign ?_ <;> refine aL_end (nav ?_) <;> try dsimp only)
 (refine aC_region ?_ <;> refine xL 5 q_move ?_ <;> refine xL 6 (q_slen Tryz.underlying9) ?_ <;> refine xL 7 q_move ?_ <;> refine xL 8 (q_slen Tryz.underlying9) ?_ <;> refine xL 9 q_geq ?_ <;> refine xL 10 q_move ?_ <;> (refine bLd 10 (fun hb10 => ?_) (fun hb10 => ?_) <;> (first | refine kL 11 ?_ | refine xL 11 q_move ?_)) <;> (first | refine kL 12 ?_ | refine xL 12 q_move ?_) <;> (first | refine kL 13 ?_ | refine xL 13 (q_slen Tryz.underlying9) ?_) <;> (first | refine kL 14 ?_ | refine xL 14 (q_upto Tryz.underlying9) ?_) <;> (first | refine kL 15 ?_ | refine xL 15 q_move ?_) <;> (first | refine kL 16 ?_ | refine xL 16 q_seql ?_) <;> refine xL 17 q_pick ?_ <;> refine xL 4 q_assign ?_ <;> refine aL_end (nav ?_) <;> try dsimp only) <;> (
  refine ret_shr (Tryz.results146) rfl ?_
  first
   | (rw [pre_long (by omega)]; done)
   | (rw [pre_take (by omega), bst_eq]
      simp only [h2, Int.toNat_natCast]; done))
theorem strPrefix_e (l m : List UInt8) (hl : l.length ≤ 1000000) (hm : m.length ≤ 1000000) : AF Tryz.prog 119 [pB l, pB m] (· = pBool (m.isPrefixOf l)) := by
 refine AF.of_body 8 Tryz.func119 rfl Tryz.ntmps119 (Nat.le_of_ble_eq_true rfl) ?_
 intro w0 M0 vs hl hv
 obtain ⟨v0, v1, rfl⟩ := len2 hl
 obtain rfl := hv 0 _ _ rfl rfl
 obtain rfl := hv 1 _ _ rfl rfl
 clear hl hv
 refine nav ?_
 (refine aC_region ?_ <;> refine xL 4 q_assign ?_ <;> refine aL_end (nav ?_) <;> try dsimp only)
 (refine aC_region ?_ <;> refine xL 5 q_move ?_ <;> refine xL 6 q_move ?_ <;> (refine cS 7 (cA Tryz.call146 (slPrefix_e l m hl hm)) fun v7 hv7 => ?_; cases hv7) <;> refine xL 4 q_assign ?_ <;> refine aL_end (nav ?_) <;> try dsimp only)
 exact ret_shr (Tryz.results119) rfl rfl
def RdH (b : Nat) (l : List UInt8) (p : Int × Int) : List (Nat × Ent) := [(1000, hdr1 b, .own 99 3 1 [pB l, pInt p.1, pInt p.2])]
theorem advs_step {p : Int × Int} {l : List UInt8} {k : Nat} {c : UInt8} (h : l[k]? = some c) : advs p (l.take (k + 1)) = adv (advs p (l.take k)) c := by
 unfold advs
 rw [take_snoc h, List.foldl_append]; rfl
theorem adv_bd {p : Int × Int} (h1 : 0 ≤ p.1) (h2 : 0 ≤ p.2) : ∀ l : List UInt8, 0 ≤ (advs p l).1 ∧ 0 ≤ (advs p l).2 ∧ (advs p l).1 ≤ p.1 + l.length ∧ (advs p l).2 ≤ p.2 + l.length + 1
 | [] => by simp only [advs, List.foldl_nil, List.length_nil]; omega
 | c :: l => by
   have hb : 0 ≤ (adv p c).1 ∧ 0 ≤ (adv p c).2 ∧ (adv p c).1 ≤ p.1 + 1 ∧ (adv p c).2 ≤ p.2 + 1 := by
    unfold adv; split <;> simp only <;> omega
   have := adv_bd (p := adv p c) hb.1 hb.2.1 l
   rw [show advs p (c :: l) = advs (adv p c) l from rfl, List.length_cons]
   omega
theorem tkSkip_e (b : Nat) (l : List UInt8) (p : Int × Int) (n : Nat) (hn : n ≤ l.length) (hl : l.length ≤ 1000000) (h1 : 0 ≤ p.1) (h2 : 0 ≤ p.2) (h3 : p.1 ≤ 1000000) (h4 : p.2 ≤ 1000000) : AFh False Tryz.prog 59 [(0, ptr1 b, .val (ptr1 b)), (1, .int .i64 n, pInt n)] (RdH b l p) (fun _ _ h => h = RdH b (l.drop n) (advs p (l.take n))) := by
 unfold RdH
 refine AFh.of_body 48 Tryz.func59 rfl Tryz.ntmps59 (Nat.le_of_ble_eq_true rfl) rfl ?_
 intro w0 M0 N0
 refine nav ?_
 (refine aC_region ?_ <;> refine xL 5 q_move ?_ <;> refine xL 6 q_move ?_ <;> refine aL_end (nav ?_) <;> try dsimp only)
 refine aC_loop (ι := { k : Nat // k ≤ n }) (fun k => ⟨[(0, _, _), (1, _, _), (5, _, _), (6, .int .i64 k.1, pInt k.1)], [(1000, hdr1 b, .own 99 3 1 [pB l, pInt (advs p (l.take k.1)).1, pInt (advs p (l.take k.1)).2])]⟩) (fun k => n - k.1) ⟨0, Nat.zero_le _⟩ (fun a w H => H.weaken ⟨rfl, rfl, rfl, rfl, trivial⟩ ⟨rfl, trivial⟩) ?_
 rintro ⟨k, hk⟩
 dsimp only
 try dsimp only at hk
 have hb := adv_bd h1 h2 (l.take k)
 rw [List.length_take] at hb
 refine nav ?_
 (refine aC_region ?_ <;> refine xL 7 q_lss ?_ <;> refine aL_end (nav ?_) <;> try dsimp only)
 (first | refine cCd ?_ ?_ | refine cC ?_ ?_) <;> intro hb7
 · first
   | exact Bool.noConfusion hb7
   | (
    obtain ⟨c, hcx⟩ := get_byte (show k < l.length by omega)
    have hcy := bst_at hcx
    have hst := advs_step (p := p) hcx
    refine nav ?_
    (refine aC_region ?_ <;> refine xL 8 q_move ?_ <;> refine xL 4 q_assign ?_ <;> refine aL_end (nav ?_) <;> try dsimp only)
    (refine aC_region ?_ <;> refine xL 9 q_move ?_ <;> refine xL 10 (q_nilo 1000) ?_ <;> refine xL 11 (q_fldo 1000 tFl99_1_PtN) ?_ <;> refine xL 12 (q_fldo 1000 tFl33_1_PtN) ?_ <;> (refine yL 13 (q_ldo 1000 tNa3_PtN) fun v13 hv13 => ?_; cases hv13) <;> refine xL 14 q_add ?_ <;> refine xL 15 (q_nilo 1000) ?_ <;> refine xL 16 (q_fldo 1000 tFl99_1_PtN) ?_ <;> refine xL 17 (q_fldo 1000 tFl33_1_PtN) ?_ <;> refine s_st 1000 tNa3_PtN tSz3_PtN ?_ <;> refine aL_end (nav ?_) <;> try dsimp only)
    (refine aC_region ?_ <;> refine xL 18 q_move ?_ <;> refine xL 19 (q_nilo 1000) ?_ <;> refine xL 20 (q_fldo 1000 tFl99_0_PtN) ?_ <;> (refine yL 21 (q_ldo 1000 tNa9_PtN) fun v21 hv21 => ?_; cases hv21) <;> refine xL 22 q_move ?_ <;> refine xL 23 (q_index Tryz.underlying9) ?_ <;> refine xL 24 q_eql ?_ <;> refine aL_end (nav ?_) <;> try dsimp only)
    (first | refine cCd ?_ ?_ | refine cC ?_ ?_) <;> intro hb24
    · first
      | exact Bool.noConfusion hb24
      | (
       have hd : advs p (l.take (k + 1)) = ((advs p (l.take k)).1 + 1, 1) := by rw [hst, adv, if_pos (by omega)]
       refine aC_ent (recast (l := 1000) (p' := .own 99 3 1 [pB l, pInt (advs p (l.take k)).1, pInt ((advs p (l.take k)).2 + 1)]) rfl rfl) fun _ => ?_
       refine nav ?_
       (refine aC_region ?_ <;> refine xL 25 q_move ?_ <;> refine xL 26 (q_nilo 1000) ?_ <;> refine xL 27 (q_fldo 1000 tFl99_1_PtN) ?_ <;> refine xL 28 (q_fldo 1000 tFl33_0_PtN) ?_ <;> (refine yL 29 (q_ldo 1000 tNa3_PtN) fun v29 hv29 => ?_; cases hv29) <;> refine xL 30 q_add ?_ <;> refine xL 31 (q_nilo 1000) ?_ <;> refine xL 32 (q_fldo 1000 tFl99_1_PtN) ?_ <;> refine xL 33 (q_fldo 1000 tFl33_0_PtN) ?_ <;> refine s_st 1000 tNa3_PtN tSz3_PtN ?_ <;> refine aL_end (nav ?_) <;> try dsimp only)
       (refine aC_region ?_ <;> refine xL 34 q_move ?_ <;> refine xL 35 (q_nilo 1000) ?_ <;> refine xL 36 (q_fldo 1000 tFl99_1_PtN) ?_ <;> refine xL 37 (q_fldo 1000 tFl33_1_PtN) ?_ <;> refine s_st 1000 tNa3_PtN tSz3_PtN ?_ <;> refine aL_end (nav ?_) <;> try dsimp only)
       refine aC_ent (recast (l := 1000) rfl (show PV.own 99 3 1 [pB l, pInt ((advs p (l.take k)).1 + 1), pInt 1] = PV.own 99 3 1 [pB l, pInt (advs p (l.take (k + 1))).1, pInt (advs p (l.take (k + 1))).2] by rw [hd])) fun _ => ?_
       (refine aC_region ?_ <;> refine xL 38 q_add ?_ <;> refine xL 6 q_move ?_ <;> refine aL_end (nav ?_) <;> try dsimp only)
       refine aN_again (
        ⟨k + 1, by omega⟩
        ) (by dsimp only; omega) ⟨rfl, rfl, rfl, rfl, trivial⟩ ⟨rfl, trivial⟩)
    · first
      | exact Bool.noConfusion hb24
      | (
       have hd : advs p (l.take (k + 1)) = ((advs p (l.take k)).1, (advs p (l.take k)).2 + 1) := by rw [hst, adv, if_neg (by omega)]
       refine aC_ent (recast (l := 1000) rfl (show PV.own 99 3 1 [pB l, pInt (advs p (l.take k)).1, pInt ((advs p (l.take k)).2 + 1)] = PV.own 99 3 1 [pB l, pInt (advs p (l.take (k + 1))).1, pInt (advs p (l.take (k + 1))).2] by rw [hd])) fun _ => ?_
       refine nav ?_
       (refine aC_region ?_ <;> refine xL 38 q_add ?_ <;> refine xL 6 q_move ?_ <;> refine aL_end (nav ?_) <;> try dsimp only)
       refine aN_again (
        ⟨k + 1, by omega⟩
        ) (by dsimp only; omega) ⟨rfl, rfl, rfl, rfl, trivial⟩ ⟨rfl, trivial⟩))
 · first
   | exact Bool.noConfusion hb7
   | (
    obtain rfl : k = n := by omega
    refine nav ?_
    (refine aC_region ?_ <;> refine xL 39 q_move ?_ <;> refine xL 40 q_move ?_ <;> refine xL 41 (q_nilo 1000) ?_ <;> refine xL 42 (q_fldo 1000 tFl99_0_PtN) ?_ <;> (refine yL 43 (q_ldo 1000 tNa9_PtN) fun v43 hv43 => ?_; cases hv43) <;> refine xL 44 q_move ?_ <;> refine xL 45 (q_from Tryz.underlying9) ?_ <;> refine xL 46 (q_nilo 1000) ?_ <;> refine xL 47 (q_fldo 1000 tFl99_0_PtN) ?_ <;> refine s_st 1000 tNa9_PtN tSz9_PtN ?_ <;> refine aL_end (nav ?_) <;> try dsimp only)
    exact end_h0 (RdH b (l.drop k) (advs p (l.take k))) (Tryz.results59) ⟨rfl, trivial⟩ rfl)
end Go.Proofs.YtbfilfhgcihhoaaGreatDoor
