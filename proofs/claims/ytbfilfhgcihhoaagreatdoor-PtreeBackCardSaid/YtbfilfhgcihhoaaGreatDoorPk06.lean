/-
  The engine: deferred calls that recover. No program in sight.
  Walks: reading a whole list of tokens: the panic is caught.
  Walks: a text is parsed.
  Walks: the reference parses a text.
  Walks: the reference's text of a tree.
  The engine, last part: arguments of whatever shape, as they came in, read as plain data; and the frame of a law's row. No program in sight.
  The engine: arguments whose types lead back to themselves, read as plain data, by the depth of the reading. No program in sight.
  Process trees: how the arguments of the laws read; the examples of the chapter (layer 19).
  Walks: process trees: the reference's normal forms.
  Walks: process trees: the reference's normal forms, second part.
  The law PtreeNormal: Normal returns the normal form of the reference, or its error, whatever the tree.
  The law PtreeTexts: Text and Parse return what is specified.
  Numbers are read by the library: Atoi, as the lexer's contract wants it.
  The law PtreeBack: trees are read from their texts.
-/
import Derived.Recover
import Derived.WalkKit
import Derived.ProofKit
import Derived.OpenShut
import Derived.ShutString
import Derived.ChangeOld
import Derived.Below
import Derived.Carry
import Derived.Deep.Slices
import Derived.Test.YtbfilfhgcihhoaaGreatDoorPk05
import Derived.Test.YtbfilfhgcihhoaaGreatDoorPk04
import Derived.Test.YtbfilfhgcihhoaaGreatDoorPk02
import Derived.Test.YtbfilfhgcihhoaaGreatDoorPk03
import Derived.Test.YtbfilfhgcihhoaaGreatDoorMShelfV
namespace Go.En
open Go.RowKit Go.Cb
set_option linter.all false
section
variable {P : Program} {c : Ctx} {ops : Array Oper} {Q : Exit → Act → World → Prop} {rest : List Oper} {sL hP : List (Nat × Ent)} {o : Oper}
theorem s_defer {f : Nat} {caps : Array Value} {x : Operand} {q : PV} (k : aL P ⟨c.w0, c.M0, c.N0, c.nt, c.dr, { target := .fn (.func f) caps, args := #[] } :: c.df⟩ ops Q rest (⟨sL, hP⟩ : St)) (hw : wants ops sL o = some true := by exact rfl) (hd : o.dst = none := by exact rfl) (ho : o.op = .defer { callee := .value x, args := #[], argTypes := #[] } := by exact rfl) (hx : ev sL x = some (.func (.func f) #[] caps, q) := by exact rfl) : aL P c ops Q (o :: rest) (⟨sL, hP⟩ : St) :=
 aL_run hw fun a w F H => by
  have hv := (H.rd.ev hx).1
  unfold Oper.wp execOp
  simp [ho, resolve, Deferred.ofValue, hv, Oper.upon, hd, Act.put]
  exact k _ _ ⟨F, ⟨⟨H.tr, H.lo, H.dj, H.m0, H.ext, H.dw⟩, H.sl, H.size, congrArg (_ :: ·) H.df⟩⟩
end
section
variable {P : Program}
theorem AF.of_bodyD {f : FuncId} {fn : Func} {code : Code} {ps : List PV} {R : PV → Prop} (nt : Nat) (hf : P.funcs[f]? = some fn) (hb : fn.body = some code) (hnt : fn.ntmps = nt) (hn : ps.length ≤ nt)
 (h : ∀ (w0 : World) (M0 : BS) (vs : List Value), vs.length = ps.length → (∀ (i : Nat) (v : Value) (p : PV), vs[i]? = some v → ps[i]? = some p → vOf p v) → aC P ⟨w0, M0, fun _ => False, nt, False, []⟩ code (bodyPostD P fn (RetAF ⟨w0, M0, fun _ => False, nt, False, []⟩ R)) ⟨argSlots 0 vs ps, []⟩) : AF P f ps R := fun M w vs hM hl hv => by
 subst hnt
 refine calls_of_wp_defers hf hb ?_
 refine wp_mono (h w M vs hl (fun i v p h1 h2 => (hv i v p h1 h2).vOf) _ w ⟨fun _ _ => False, ⟨⟨by simp [lk], by simp [lk], by simp [lk], hM, Chg.rfl' _ _, fun _ => Nat.le_refl _⟩, fun t v p ht => ?_, ?_, rfl⟩⟩) fun e a w' hq => ?_
 · obtain ⟨_, h1, h2⟩ := argSlots_lk vs ps 0 t v p ht
   simp only [Nat.sub_zero] at h1 h2
   refine ⟨?_, (hv t v p h1 h2).anti fun b _ hb => ?_⟩
   · have := lt_of_get h1
     rw [Array.getElem?_append_left (by simpa using this)]
     simpa using h1
   · rcases hb with hb | ⟨l, x, h3, _⟩
     · exact hb
     · simp [lk] at h3
 · simp; omega
 · cases e <;> exact hq
def AFD (P : Program) (f : FuncId) (caps : List Value) (u u' : FrameMode) (h h' : List (Nat × Ent)) : Prop :=
 ∀ (M N : BS) (w : World) (F : Nat → BS), HeapF ⟨w, M, N, 0, False, []⟩ h F w → CallsD P f caps.toArray u w fun e um w' => um = u' ∧ ∃ F', e = .returned (.tuple #[]) ∧ HeapF ⟨w, M, N, 0, False, []⟩ h' F' w'
def postD (c : Ctx) (h' : List (Nat × Ent)) (e : Exit) (a : Act) (w : World) : Prop := (e = .normal ∨ e = .ret) ∧ a.defers = [] ∧ ∃ F, HeapF c h' F w
theorem AFD.of_body {f : FuncId} {fn : Func} {rid : Nat} {o0 o1 : Oper} {rest : Code} {caps : List Value} {u u' : FrameMode} {h h' : List (Nat × Ent)} (v : Value) (t0 t1 nt : Nat) (hf : P.funcs[f]? = some fn) (hb : fn.body = some (.seq (.region rid #[o0, o1] false) rest)) (hnt : fn.ntmps = nt) (hr : fn.results = #[]) (h0 : o0.op = .call { callee := .builtin .recover, args := #[], argTypes := #[] }) (g0 : o0.guard = none) (d0 : o0.dst = some t0) (h1 : o1.op = .assign (.tmp t0)) (g1 : o1.guard = none) (d1 : o1.dst = some t1) (b0 : t0 < nt) (b1 : t1 < nt) (bc : caps.length ≤ nt)
 (hrc : ∀ (c₀ : Frame) (cs : List Frame), c₀.mode = u → (match recoverD (c₀ :: cs) with | some (x, cs') => x = v ∧ cs' = { c₀ with mode := u' } :: cs | none => v = .nilIface ∧ u' = u))
 (H : ∀ (w0 : World) (M0 N0 : BS), aC P ⟨w0, M0, N0, nt, False, []⟩ rest (postD ⟨w0, M0, N0, nt, False, []⟩ h') ⟨put t1 (v, .val v) (put t0 (v, .val v) (argSlots 0 caps (caps.map .val))), h⟩) : AFD P f caps u u' h h' := fun M N w F HF => by
 subst hnt
 refine callsD_of_wpS hf hb fun c₀ cs hu => ?_
 have hw0 : ∀ y, Region.wanted o0 y = true := fun y => by unfold Region.wanted; rw [g0]
 have hw1 : ∀ y, Region.wanted o1 y = true := fun y => by unfold Region.wanted; rw [g1]
 have hrun : ∀ (ρ : Operand → Value) w, (execOp ρ o0).run P w = .ok .recover w := fun ρ w => by simp [execOp, h0, resolve, invoke, builtin]
 have hHold : HoldsF ⟨w, M, N, fn.ntmps, False, []⟩ ⟨argSlots 0 caps (caps.map .val), h⟩ F { tmps := caps.toArray ++ Array.replicate (fn.ntmps - caps.toArray.size) undef, defers := [] } w := by
  refine ⟨HF.nt rfl rfl rfl id HF.m0, fun t v p ht => ?_, ?_, rfl⟩
  · obtain ⟨_, g1, g2⟩ := argSlots_lk _ _ 0 t v p ht
    simp only [Nat.sub_zero] at g1 g2
    rw [List.getElem?_map, g1] at g2
    simp at g2
    subst g2
    refine ⟨?_, .val _⟩
    have := lt_of_get g1
    rw [Array.getElem?_append_left (by simpa using this)]
    simpa using g1
  · simp; omega
 generalize hA : ({ tmps := caps.toArray ++ Array.replicate (fn.ntmps - caps.toArray.size) undef, defers := [] } : Act) = A at hHold ⊢
 have H1 := hHold.put (d := t0) (v := v) (p := .val v) b0 (.val _)
 have H2 := H1.put (d := t1) (v := v) (p := .val v) b1 (.val _)
 refine wpS_seq (wpS_region ?_)
 have hrange : List.range (#[o0, o1] : Array Oper).size = [0, 1] := rfl
 rw [hrange]
 have hev : (A.put (some t0) v).eval (.tmp t0) = v := by
  have := (H1.sl t0 v (.val v) (by rw [lk_put_self])).1
  simp [Act.eval, Array.getD_eq_getD_getElem?, this]
 have hfin : ∀ cs1, cs1 = { c₀ with mode := u' } :: cs → rest.wpS P (bodyPostS P fn c₀ cs (fun e um w' => um = u' ∧ ∃ F', e = .returned (.tuple #[]) ∧ HeapF ⟨w, M, N, 0, False, []⟩ h' F' w')) ((A.put (some t0) v).put (some t1) v) cs1 w := fun cs1 hcs => by
  refine wpS_of_wp (wp_mono (H w M N _ w ⟨F, H2⟩) fun e a' w' ⟨he, hd, F', hF'⟩ => ?_)
  have hres : (results fn a'.tmps).run P w' = .ok (.tuple #[]) w' := by simp [results, hr]
  have key : a'.defers = [] ∧ ∃ u'', cs1 = { c₀ with mode := u'' } :: cs ∧ ∃ x, (results fn a'.tmps).run P w' = .ok x w' ∧ (u'' = u' ∧ ∃ F', Ending.returned x = .returned (.tuple #[]) ∧ HeapF ⟨w, M, N, 0, False, []⟩ h' F' w') :=
   ⟨hd, u', hcs, _, hres, rfl, F', rfl, hF'.nt rfl rfl rfl id hF'.m0⟩
  rcases he with rfl | rfl
  · exact key
  · exact key
 have hstep1 : ∀ cs1, cs1 = { c₀ with mode := u' } :: cs → wpOpsS P #[o0, o1] (Exit.thenS (rest.wpS P (bodyPostS P fn c₀ cs (fun e um w' => um = u' ∧ ∃ F', e = .returned (.tuple #[]) ∧ HeapF ⟨w, M, N, 0, False, []⟩ h' F' w'))) (bodyPostS P fn c₀ cs (fun e um w' => um = u' ∧ ∃ F', e = .returned (.tuple #[]) ∧ HeapF ⟨w, M, N, 0, False, []⟩ h' F' w'))) [1] (A.put (some t0) v) cs1 w := fun cs1 hcs => by
  have hr1 : (execOp (A.put (some t0) v).eval o1).run P w = .ok (.value v) w := by simp only [execOp, h1]; rw [hev]; rfl
  simp only [wpOpsS, List.getElem?_toArray, List.getElem?_cons_succ, List.getElem?_cons_zero, hw1, if_true, hr1, Oper.upon, d1]
  exact hfin cs1 hcs
 have h00 := hrc c₀ cs hu
 rw [wpOpsS]
 simp only [List.getElem?_toArray, List.getElem?_cons_zero, hw0, if_true, hrun, d0]
 cases hrec : recoverD (c₀ :: cs) with
 | none =>
   rw [hrec] at h00
   obtain ⟨rfl, rfl⟩ := h00
   refine hstep1 _ ?_
   subst hu
   rfl
 | some x =>
   rw [hrec] at h00
   obtain ⟨x, cs'⟩ := x
   obtain ⟨rfl, h01⟩ := h00
   exact hstep1 _ h01
end
section
variable {P : Program} {c : Ctx} {sL hP : List (Nat × Ent)}
theorem leaves_of {fn : Func} {R' : Ending → World → Prop} {f : FuncId} {caps : List Value} {u u' : FrameMode} {h0 h' : List (Nat × Ent)} {K : List Nat} {a : Act} {w : World} {F : Nat → BS} (H : HoldsF c (⟨sL, hP⟩ : St) F a w) (hdf : c.df = [{ target := .fn (.func f) caps.toArray, args := #[] }]) (hc : ∀ args w, (callFunc f args).run P w = .ok (.enter f args) w) (hu : u ≠ .run) (hA : AFD P f caps u u' h0 h') (hh0 : h0 = minusK K hP) (hs : settle u' = .returning) (hdd : c.dr → False)
 (k : ∀ F' w', HoldsF c (⟨sL, h' ++ onlyK K hP⟩ : St) F' a w' → ∃ v, (results fn a.tmps).run P w' = .ok v w' ∧ R' (.returned v) w') : Leaves P fn a.tmps R' a.defers u w := by
 subst hh0
 have hfr := H.frame K
 rw [H.df, hdf]
 refine leaves_cons hu (f := f) (args := caps.toArray) (by simp [invoke, hc]) ?_
 have hcall := hA (fun b => c.M0 b ∨ ∃ l x, K.elem l = true ∧ lk hP l = some x ∧ F l b) (nK K hP F) w F ⟨hfr.tr, hfr.lo, hfr.dj, hfr.m0.up hdd, hfr.ext, fun _ => Nat.le_refl _⟩
 refine hcall.mono fun e um w' ⟨h1, F', h2, e3⟩ => ?_
 subst h1 h2
 show Leaves P fn a.tmps R' [] (settle um) w'
 rw [hs]
 have hch : Chg (nK K hP F) w w' := e3.ext
 have hlow : ∀ b, b < w.heap.size → mof ⟨w, fun b => c.M0 b ∨ ∃ l x, K.elem l = true ∧ lk hP l = some x ∧ F l b, nK K hP F, 0, False, []⟩ h' F' b → mof c hP F b := by
  rintro b hlt ((h1 | ⟨l, x, _, h1, h2⟩) | ⟨l, x, h1, h2⟩)
  · exact .inl h1
  · exact .inr ⟨l, x, h1, h2⟩
  · rcases e3.lo l x b h1 h2 with h3 | ⟨l', x', _, h3, h4⟩
    · exact absurd hlt (by simp only at h3; omega)
    · exact .inr ⟨l', x', h3, h4⟩
 have H' : HoldsF ⟨w, fun b => c.M0 b ∨ ∃ l x, K.elem l = true ∧ lk hP l = some x ∧ F l b, nK K hP F, c.nt, c.dr, c.df⟩ (⟨sL, h'⟩ : St) F' a w' := by
  refine ⟨e3.nt rfl rfl rfl hdd hfr.m0, fun t v q e => ?_, H.size, H.df⟩
  obtain ⟨h3, h4⟩ := H.sl t v q e
  exact ⟨h3, h4.to hch (fun b _ ⟨l, x, _, h5, h6⟩ => .inr ⟨l, x, h5, h6⟩) (fun b hlt hb => hlow b hlt hb)⟩
 obtain ⟨H2, _, _⟩ := H.unframe H'
 obtain ⟨v, h5, h6⟩ := k _ _ H2
 exact ⟨v, h5, h6⟩
end
section
variable {P : Program} {c : Ctx} {sL hP : List (Nat × Ent)}
theorem end_d {h' : List (Nat × Ent)} (hs : Sub h' hP) (hdf : c.df = [] := by exact rfl) : aN c (postD c h') (⟨sL, hP⟩ : St) := fun a w ⟨F, H0⟩ => by
 have H : HoldsF c (⟨sL, h'⟩ : St) F a w := H0.less (fun _ _ h => h) fun t x hx => hs.lk hx
 exact ⟨.inl rfl, H.df.trans hdf, F, H.toHeapF⟩
theorem leaves3 {fn : Func} {R : PV → Prop} {f : FuncId} {caps : List Value} {u u' : FrameMode} {h0 h' : List (Nat × Ent)} {r0 r1 r2 : ResultVar} {p0 p1 p2 : PV} (K : List Nat) {a : Act} {w : World} {F : Nat → BS} (H : HoldsF c (⟨sL, hP⟩ : St) F a w) (hdf : c.df = [{ target := .fn (.func f) caps.toArray, args := #[] }]) (hc : ∀ args w, (callFunc f args).run P w = .ok (.enter f args) w) (hu : u ≠ .run) (hA : AFD P f caps u u' h0 h') (hh0 : h0 = minusK K hP) (hs : settle u' = .returning) (hdd : c.dr → False) (hr : fn.results = #[r0, r1, r2]) (g0 : ResR P sL (h' ++ onlyK K hP) r0 p0) (g1 : ResR P sL (h' ++ onlyK K hP) r1 p1) (g2 : ResR P sL (h' ++ onlyK K hP) r2 p2) (hR : R (.tup [p0, p1, p2])) (hN : ∀ b, ¬ c.N0 b) : Leaves P fn a.tmps (RetAF c R) a.defers u w :=
 leaves_of H hdf hc hu hA hh0 hs hdd fun F' w' H2 => by
  obtain ⟨V0, e0, s0⟩ := g0.run H2
  obtain ⟨V1, e1, s1⟩ := g1.run H2
  obtain ⟨V2, e2, s2⟩ := g2.run H2
  refine ⟨_, results3 hr e0 e1 e2, _, _, fun _ => False, rfl, hR, H2.ext.ext (fun b _ => hN b), .shr ((shr3 s0 s1 s2).anti fun b _ hb => ?_) (fun _ h => h), fun _ h => h.elim, H2.dw⟩
  rcases hb with hb | hb
  · exact .inl hb
  · exact hb.elim
theorem aP_leaves3 {fn : Func} {R : PV → Prop} {Q : Exit → Act → World → Prop} {f : FuncId} {caps : List Value} {ch : List PanicEntry} {u' : FrameMode} {h0 h' : List (Nat × Ent)} {r0 r1 r2 : ResultVar} {p0 p1 p2 : PV} (K : List Nat) (hr : fn.results = #[r0, r1, r2]) (hA : AFD P f caps (.panicking ch) u' h0 h') (hc : ∀ args w, (callFunc f args).run P w = .ok (.enter f args) w) (g0 : ResR P sL (h' ++ onlyK K hP) r0 p0) (g1 : ResR P sL (h' ++ onlyK K hP) r1 p1) (g2 : ResR P sL (h' ++ onlyK K hP) r2 p2) (hR : R (.tup [p0, p1, p2])) (hQ : ∀ (a : Act) w, Leaves P fn a.tmps (RetAF c R) a.defers (.panicking ch) w → Q (.panic ch) a w := by exact fun _ _ h => h) (hdf : c.df = [{ target := .fn (.func f) caps.toArray, args := #[] }] := by exact rfl) (hh0 : h0 = minusK K hP := by exact rfl) (hs : settle u' = .returning := by exact rfl) (hdd : c.dr → False := by exact id) (hN : ∀ b, ¬ c.N0 b := by intro _ h; exact h) : aP c Q ch (⟨sL, hP⟩ : St) := fun a w F H =>
 hQ a w (leaves3 K H hdf hc (by intro h; cases h) hA hh0 hs hdd hr g0 g1 g2 hR hN)
theorem aR_leaves3 {fn : Func} {R : PV → Prop} {Q : Exit → Act → World → Prop} {f : FuncId} {caps : List Value} {u' : FrameMode} {h0 h' : List (Nat × Ent)} {r0 r1 r2 : ResultVar} {p0 p1 p2 : PV} (K : List Nat) (hr : fn.results = #[r0, r1, r2]) (hA : AFD P f caps .returning u' h0 h') (hc : ∀ args w, (callFunc f args).run P w = .ok (.enter f args) w) (g0 : ResR P sL (h' ++ onlyK K hP) r0 p0) (g1 : ResR P sL (h' ++ onlyK K hP) r1 p1) (g2 : ResR P sL (h' ++ onlyK K hP) r2 p2) (hR : R (.tup [p0, p1, p2])) (hQ : ∀ (a : Act) w, Leaves P fn a.tmps (RetAF c R) a.defers .returning w → Q .ret a w := by exact fun _ _ h => h) (hdf : c.df = [{ target := .fn (.func f) caps.toArray, args := #[] }] := by exact rfl) (hh0 : h0 = minusK K hP := by exact rfl) (hs : settle u' = .returning := by exact rfl) (hdd : c.dr → False := by exact id) (hN : ∀ b, ¬ c.N0 b := by intro _ h; exact h) : aR c Q (⟨sL, hP⟩ : St) := fun a w ⟨F, H⟩ =>
 hQ a w (leaves3 K H hdf hc (by intro h; cases h) hA hh0 hs hdd hr g0 g1 g2 hR hN)
end
section
variable {P : Program} {c : Ctx} {ops : Array Oper} {Q : Exit → Act → World → Prop} {rest : List Oper} {sL hP : List (Nat × Ent)} {o : Oper}
theorem aL_cpSE {dd : Prop} {f : Nat} {ar : List (Nat × Ent)} {R : Value → PV → List (Nat × Ent) → Prop} {Rp : List PanicEntry → List (Nat × Ent) → Prop} (K : List Nat) (d : Nat) (hw : wants ops sL o = some true) (hd : o.dst = some d) (hn : d < c.nt)
 (hE : ∀ a w F, HoldsF c (⟨sL, hP⟩ : St) F a w → (execOp a.eval o).run P w = .ok (.enter f (ar.map (·.2.1)).toArray) w ∧ ∀ (i : Nat) (x : Value) (q : PV), ((ar.map (·.2)).map (·.1))[i]? = some x → ((ar.map (·.2)).map (·.2))[i]? = some q → Shr (mof c hP F) w x q)
 (hA : AFp dd P f ar (minusK K hP) R Rp) (hio : inOrder 0 ar = true) (hdd : c.dr → dd)
 (k : ∀ v p h, R v p h → aL P c ops Q rest ⟨put d (v, p) sL, h ++ onlyK K hP⟩) (kp : ∀ ch h, Rp ch h → aP c Q ch ⟨sL, h ++ onlyK K hP⟩) : aL P c ops Q (o :: rest) (⟨sL, hP⟩ : St) :=
 aL_run hw fun a w F H => by
  obtain ⟨hr, h2⟩ := hE a w F H
  have hfr := H.frame K
  have hin : ∀ b, mof ⟨w, fun b => c.M0 b ∨ ∃ l x, K.elem l = true ∧ lk hP l = some x ∧ F l b, nK K hP F, c.nt, c.dr, c.df⟩ (minusK K hP) F b → mof c hP F b := by
   rintro b ((h | ⟨l, x, _, h1, h2⟩) | ⟨l, x, h1, h2⟩)
   · exact .inl h
   · exact .inr ⟨l, x, h1, h2⟩
   · exact .inr ⟨l, x, (lk_minusK.1 h1).2, h2⟩
  have hcall := hA (fun b => c.M0 b ∨ ∃ l x, K.elem l = true ∧ lk hP l = some x ∧ F l b) (nK K hP F) w F
   ⟨hfr.tr, hfr.lo, hfr.dj, hfr.m0.up hdd, hfr.ext, fun _ => Nat.le_refl _⟩
   (fun i x hi => by
     obtain ⟨_, h3⟩ := inOrder_lk' ar 0 i x hio hi
     rw [Nat.sub_zero] at h3
     exact (h2 i x.1 x.2 (by rw [List.getElem?_map, List.getElem?_map, h3]; rfl) (by rw [List.getElem?_map, List.getElem?_map, h3]; rfl)).anti fun b _ hb => hin b hb)
  unfold Oper.wp
  rw [hr, Oper.upon_enter]
  refine hcall.mono fun e w' he => ?_
  rcases he with ⟨v, p, h, F', e1, e2, e3, e4⟩ | ⟨ch, h, F', e1, e2, e3⟩
  · subst e1
    have hch : Chg (nK K hP F) w w' := e3.ext
    have hlow : ∀ b, b < w.heap.size → mof ⟨w, fun b => c.M0 b ∨ ∃ l x, K.elem l = true ∧ lk hP l = some x ∧ F l b, nK K hP F, 0, dd, []⟩ h F' b → mof c hP F b := by
     rintro b hlt ((h1 | ⟨l, x, _, h1, h2⟩) | ⟨l, x, h1, h2⟩)
     · exact .inl h1
     · exact .inr ⟨l, x, h1, h2⟩
     · rcases e3.lo l x b h1 h2 with h3 | ⟨l', x', _, h3, h4⟩
       · exact absurd hlt (by simp only at h3; omega)
       · exact .inr ⟨l', x', h3, h4⟩
    have H' : HoldsF ⟨w, fun b => c.M0 b ∨ ∃ l x, K.elem l = true ∧ lk hP l = some x ∧ F l b, nK K hP F, c.nt, c.dr, c.df⟩ (⟨put d (v, p) sL, h⟩ : St) F' (a.put o.dst v) w' := by
     refine ⟨e3.nt rfl rfl rfl hdd hfr.m0, fun t u q ht => ?_, by rw [hd]; simpa [Act.put] using H.size, by rw [hd]; exact H.df⟩
     rw [hd]
     rcases lk_put ht with ⟨rfl, e⟩ | ⟨hne, e⟩
     · cases e
       refine ⟨?_, e4⟩
       simp [Act.put, H.size, hn]
     · obtain ⟨h3, h4⟩ := H.sl t u q e
       refine ⟨?_, h4.to hch (fun b _ ⟨l, x, _, h5, h6⟩ => .inr ⟨l, x, h5, h6⟩) (fun b hlt hb => hlow b hlt hb)⟩
       simpa [Act.put, Array.getElem?_setIfInBounds, hne] using h3
    obtain ⟨H2, _, _⟩ := H.unframe H'
    exact k v p h e2 _ _ ⟨_, H2⟩
  · subst e1
    have hch : Chg (nK K hP F) w w' := e3.ext
    have hlow : ∀ b, b < w.heap.size → mof ⟨w, fun b => c.M0 b ∨ ∃ l x, K.elem l = true ∧ lk hP l = some x ∧ F l b, nK K hP F, 0, dd, []⟩ h F' b → mof c hP F b := by
     rintro b hlt ((h1 | ⟨l, x, _, h1, h2⟩) | ⟨l, x, h1, h2⟩)
     · exact .inl h1
     · exact .inr ⟨l, x, h1, h2⟩
     · rcases e3.lo l x b h1 h2 with h3 | ⟨l', x', _, h3, h4⟩
       · exact absurd hlt (by simp only at h3; omega)
       · exact .inr ⟨l', x', h3, h4⟩
    have H' : HoldsF ⟨w, fun b => c.M0 b ∨ ∃ l x, K.elem l = true ∧ lk hP l = some x ∧ F l b, nK K hP F, c.nt, c.dr, c.df⟩ (⟨sL, h⟩ : St) F' a w' := by
     refine ⟨e3.nt rfl rfl rfl hdd hfr.m0, fun t u q e => ?_, H.size, H.df⟩
     obtain ⟨h3, h4⟩ := H.sl t u q e
     exact ⟨h3, h4.to hch (fun b _ ⟨l, x, _, h5, h6⟩ => .inr ⟨l, x, h5, h6⟩) (fun b hlt hb => hlow b hlt hb)⟩
    obtain ⟨H2, _, _⟩ := H.unframe H'
    exact kp ch h e2 _ _ _ H2
theorem aL_cpS {dd : Prop} {f : Nat} {ar h0 : List (Nat × Ent)} {R : Value → PV → List (Nat × Ent) → Prop} {Rp : List PanicEntry → List (Nat × Ent) → Prop} {xs : Array Operand} {ats : Array TypeId} (K : List Nat) (d : Nat) (hc : ∀ args w, (callFunc f args).run P w = .ok (.enter f args) w) (hA : AFp dd P f ar h0 R Rp)
 (k : ∀ v p h, R v p h → aL P c ops Q rest ⟨put d (v, p) sL, h ++ onlyK K hP⟩) (kp : ∀ ch h, Rp ch h → aP c Q ch ⟨sL, h ++ onlyK K hP⟩) (hw : wants ops sL o = some true := by exact rfl) (hd : o.dst = some d := by exact rfl) (hn : d < c.nt := by exact Nat.le_of_ble_eq_true rfl)
 (ho : o.op = .call { callee := .value (.func f), args := xs, argTypes := ats } := by exact rfl) (hx : evL sL xs.toList = some (ar.map (·.2)) := by exact rfl) (hh0 : h0 = minusK K hP := by exact rfl) (hio : inOrder 0 ar = true := by exact rfl) (hdd : c.dr → dd := by first | exact id | exact fun h => h.elim | exact fun _ => trivial) : aL P c ops Q (o :: rest) (⟨sL, hP⟩ : St) := by
 subst hh0
 refine aL_cpSE K d hw hd hn (fun a w F H => ?_) hA hio hdd k kp
 obtain ⟨h1, h2⟩ := evL_spec H.rd hx
 refine ⟨?_, h2⟩
 have hargs : xs.map a.eval = (ar.map (·.2.1)).toArray := by
  rw [show ar.map (·.2.1) = (ar.map (·.2)).map (·.1) by rw [List.map_map]; rfl, ← h1, ← Array.toList_map, Array.toArray_toList]
 simp [execOp, ho, resolve, Act.eval, Deferred.ofValue, invoke, hargs, hc]
theorem q_tass {vs : List Value} {x : Operand} {q : PV} {t xt : TypeId} (hu : (match P.underlying t with | some (.interface _) => false | some _ => true | none => false) = true) (ho : o.op = .typeAssert x xt t true := by exact rfl) (hx : ev sL x = some (.iface t (.agg vs.toArray), q) := by exact rfl) : YE P (⟨sL, hP⟩ : St) o (· = .tuple #[.agg vs.toArray, .bool true]) (.tup [.agg (vs.map .val), .val (.bool true)]) :=
 .exact fun M F a w H => by
  have e1 := (H.ev hx).1
  refine ⟨.tup [.agg vs.toArray, .bool true] _ rfl fun i v p hv hp => ?_, ?_⟩
  · match i with
    | 0 =>
      cases hv; cases hp
      exact .agg _ _ (by simp) fun j u r hu hr => by
       rw [List.getElem?_map, hu] at hr
       simp at hr; subst hr; exact .val _
    | 1 => cases hv; cases hp; exact .val _
    | i + 2 => simp at hv
  · simp only [execOp, ho, e1]
    unfold Instr.typeAssert
    cases h : P.underlying t with
    | none => rw [h] at hu; cases hu
    | some d => cases d <;> simp_all [run_underlying h]
end
end Go.En
namespace Go.Proofs.YtbfilfhgcihhoaaGreatDoor
open Go.RowKit Go.Cb Go.En
set_option linter.all false
set_option maxRecDepth 100000
theorem tAgg104_PtY : AggT Tryz.prog 104 5 = true := by kernel_rfl
theorem tAgg24_PtY : AggT Tryz.prog 24 3 = true := by kernel_rfl
theorem tAgg71_PtY : AggT Tryz.prog 71 5 = true := by kernel_rfl
theorem tFl104_0_PtY : FldT Tryz.prog 104 0 0 = true := by kernel_rfl
theorem tFl108_1_PtY : FldT Tryz.prog 108 1 1 = true := by kernel_rfl
theorem tFl71_0_PtY : FldT Tryz.prog 71 0 0 = true := by kernel_rfl
theorem tNa3_PtY : NoAgg Tryz.prog 3 = true := by kernel_rfl
theorem tNa4_PtY : NoAgg Tryz.prog 4 = true := by kernel_rfl
theorem tSl67_PtY : SlT Tryz.prog 67 71 5 = true := by kernel_rfl
theorem tSq104_PtY : stInfo Tryz.prog 104 = some ((.agg #[(.int .i64 0), (.string ByteArray.empty), (.int .i64 0), (.int .i64 0), (.int .i64 0)]), [(0, 5)]) := by kernel_rfl
theorem tSq71_PtY : stInfo Tryz.prog 71 = some ((.agg #[(.int .i64 0), (.string ByteArray.empty), (.int .i64 0), (.int .i64 0), (.int .i64 0)]), [(0, 1), (1, 1), (2, 1), (3, 2)]) := by kernel_rfl
theorem tSt108_PtY : stInfo Tryz.prog 108 = some ((.agg #[(.slice none 0 0), (.int .i64 0)]), ([0, 1] : List Nat).map fun o => (o, 1)) := by kernel_rfl
theorem tSt24_PtY : stInfo Tryz.prog 24 = some ((.agg #[(.int .i64 0), (.string ByteArray.empty), (.slice none 0 0)]), ([0, 1, 2] : List Nat).map fun o => (o, 1)) := by kernel_rfl
theorem tSz4_PtY : (Tryz.prog.info? 4).map (·.size) = some 1 := by kernel_rfl
theorem tZr104_PtY : ZeroT Tryz.prog 104 (.agg #[(.int .i64 0), (.string ByteArray.empty), (.int .i64 0), (.int .i64 0), (.int .i64 0)]) := by unfold ZeroT; kernel_rfl
theorem tZr24_PtY : ZeroT Tryz.prog 24 (.agg #[(.int .i64 0), (.string ByteArray.empty), (.slice none 0 0)]) := by unfold ZeroT; kernel_rfl
theorem tZr4_PtY : ZeroT Tryz.prog 4 (.bool false) := by unfold ZeroT; kernel_rfl
theorem tZr71_PtY : ZeroT Tryz.prog 71 (.agg #[(.int .i64 0), (.string ByteArray.empty), (.int .i64 0), (.int .i64 0), (.int .i64 0)]) := by unfold ZeroT; kernel_rfl
theorem tTree_e (b : Nat) (L : List Tk) (hL : L.length ≤ 10000) (hT : ∀ x ∈ L, TkOk x) : ∀ N f, f ≤ N → TreeC b L f := fun N => by
 induction N with
 | zero => intro f hf m _ _ h; omega
 | succ N ih =>
   intro f hf m hs he hm
   obtain ⟨t0, m1, rfl⟩ := he.cons
   obtain ⟨g, rfl⟩ : ∃ g, f = g + 1 := ⟨f - 1, by omega⟩
   exact tTree_step b L hL hT g (fun f' h => ih f' (by omega)) t0 m1 hs he hm _ rfl
def BxH (b2 b3 b4 : Nat) (A B : List PV) (q : PV) : List (Nat × Ent) := [(1002, hdr1 b2, .own 24 3 1 A), (1003, hdr1 b3, .own 71 5 1 B), (1004, hdr1 b4, .own 4 1 1 [q])]
def caught (t : Tk) : FrameMode := .panicking [{ v := .iface 104 (.agg (tkV t).toArray), recovered := true }]
theorem tRead1_ret (b2 b3 b4 : Nat) (A B : List PV) (q : PV) : AFD Tryz.prog 60 [ptr1 b2, ptr1 b3, ptr1 b4] .returning .returning (BxH b2 b3 b4 A B q) (BxH b2 b3 b4 A B q) := by
 unfold BxH
 refine AFD.of_body .nilIface 6 3 20 (Tryz.func60) rfl rfl (Tryz.results60) rfl rfl rfl rfl rfl rfl (by decide) (by decide) (Nat.le_of_ble_eq_true rfl) (fun c₀ cs hu => by simp [recoverD, hu]) ?_
 intro w0 M0 N0
 refine nav ?_
 refine nav ?_
 (refine aC_region ?_ <;> refine xL 7 q_move ?_ <;> refine xL 8 (q_ifnil (by kernel_rfl)) ?_ <;> refine aL_end (nav ?_) <;> try dsimp only)
 refine cCf ?_
 refine nav ?_
 exact end_d ⟨rfl, rfl, rfl, trivial⟩
def z3 : List PV := [.val (.int .i64 0), .val (.string ByteArray.empty), .val (.slice none 0 0)]
theorem tRead1_pan (b2 b3 b4 : Nat) (t : Tk) (a1 a2 a3 k1 k2 k3 k4 k5 q : PV) : AFD Tryz.prog 60 [ptr1 b2, ptr1 b3, ptr1 b4] (.panicking (panT t)) (caught t) (BxH b2 b3 b4 [a1, a2, a3] [k1, k2, k3, k4, k5] q) (BxH b2 b3 b4 z3 (cTk t) (.val (.bool false))) := by
 unfold BxH
 refine AFD.of_body (.iface 104 (.agg (tkV t).toArray)) 6 3 20 (Tryz.func60) rfl rfl (Tryz.results60) rfl rfl rfl rfl rfl rfl (by decide) (by decide) (Nat.le_of_ble_eq_true rfl) (fun c₀ cs hu => by simp [recoverD, hu, panT, caught]) ?_
 intro w0 M0 N0
 refine nav ?_
 refine nav ?_
 (refine aC_region ?_ <;> refine xL 7 q_move ?_ <;> refine xL 8 (q_ifsome (by kernel_rfl)) ?_ <;> refine aL_end (nav ?_) <;> try dsimp only)
 refine cCt ?_
 refine nav ?_
 (refine aC_region ?_ <;> refine xL 10 q_move ?_ <;> refine xL 11 (q_tass (by kernel_rfl)) ?_ <;> refine xL 9 q_move ?_ <;> refine xL 12 q_extract ?_ <;> refine xL 13 q_extract ?_ <;> refine s_alloc [(.int .i64 0), (.string ByteArray.empty), (.int .i64 0), (.int .i64 0), (.int .i64 0)] 5 4 tZr104_PtY fun h4 => ?_ <;> refine s_sta 4 tAgg104_PtY ?_ <;> refine xL 5 q_assign ?_ <;> refine aL_end (nav ?_) <;> try dsimp only)
 (refine aC_region ?_ <;> refine xL 14 q_move ?_ <;> refine xL 15 q_not ?_ <;> refine aL_end (nav ?_) <;> try dsimp only)
 refine cCf ?_
 refine nav ?_
 (refine aC_draw (fun i => ([] : List Nat).elem i) [4] (by kernel_rfl) ?_ <;> refine xD 0 17 rfl (q_build tSt24_PtY) ?_ <;> refine xD 1 18 rfl (q_fldo 4 tFl104_0_PtY) ?_ <;> (refine yD 2 19 rfl (q_ldao 4 tAgg71_PtY) fun v19 hv19 => ?_; cases hv19) <;> (refine aD_one 3 (by kernel_rfl) ?_) <;> (refine aW_run rfl fun w9 M9 N9 DQ back => ?_) <;> refine s_sta 1002 tAgg24_PtY ?_ <;> refine aL_end (back _ (nrm ?_)) <;> (refine aD_one 4 (by kernel_rfl) ?_) <;> (refine aW_run rfl fun w9 M9 N9 DQ back => ?_) <;> refine s_sta 1003 tAgg71_PtY ?_ <;> refine aL_end (back _ (nrm ?_)) <;> (refine aD_one 5 (by kernel_rfl) ?_) <;> (refine aW_run rfl fun w9 M9 N9 DQ back => ?_) <;> refine s_st 1004 tNa4_PtY tSz4_PtY ?_ <;> refine aL_end (back _ (nrm ?_)) <;> refine aD_end (by kernel_rfl) (nav ?_) <;> try dsimp only)
 exact end_d ⟨rfl, rfl, rfl, trivial⟩
def rdR (L : List Tk) : Option Nd × Tk := match rdT (L.length + 1) L with
 | .err t => (none, t)
 | .ok t m => if (m.headD tk0).kind ≠ 5 then (none, m.headD tk0) else (some t, tk0)
theorem rdR_err {L : List Tk} {t : Tk} (h : rdT (L.length + 1) L = .err t) : rdR L = (none, t) := by unfold rdR; rw [h]
theorem rdR_no {L : List Tk} {t : Nd} {x : Tk} {mt : List Tk} (h : rdT (L.length + 1) L = .ok t (x :: mt)) (hk : x.kind ≠ 5) : rdR L = (none, x) := by unfold rdR; rw [h]; exact if_pos hk
theorem rdR_yes {L : List Tk} {t : Nd} {x : Tk} {mt : List Tk} (h : rdT (L.length + 1) L = .ok t (x :: mt)) (hk : x.kind = 5) : rdR L = (some t, tk0) := by unfold rdR; rw [h]; exact if_neg (fun h => h hk)
def rdO : Option Nd → PV
 | none => .agg z3
 | some t => pTr t
def rdP (L : List Tk) : PV := .tup [rdO (rdR L).1, .agg (cTk (rdR L).2), pBool (rdR L).1.isSome]
set_option maxHeartbeats 4000000 in
theorem tRead_e (L : List Tk) (hL : L.length ≤ 10000) (hT : ∀ x ∈ L, TkOk x) (he : EndL L) : AF Tryz.prog 38 [pTks L] (· = rdP L) := by
 have hT0 : ∀ b, AFp False Tryz.prog 61 [(0, ptr1 b, .val (ptr1 b))] (RtH b L 0) (fun _ q h => ∃ t m2, rdT (L.length + 1) L = .ok t m2 ∧ q = pTr t ∧ h = RtH b L (L.length - m2.length)) (TreeP b L (L.length + 1) L) := fun b => by
  have := tTree_e b L hL hT _ (L.length + 1) (Nat.le_refl _) L (List.suffix_refl L) he (Nat.lt_succ_self _)
  rw [Nat.sub_self] at this
  exact this
 refine AF.of_bodyD 32 Tryz.func38 rfl Tryz.ntmps38 (Nat.le_of_ble_eq_true rfl) ?_
 intro w0 M0 vs hl hv
 obtain ⟨v0, rfl⟩ := len1 hl
 clear hl hv
 refine nav ?_
 (refine aC_region ?_ <;> refine s_alloc1 [.int .i64 0, .string ByteArray.empty, .slice none 0 0] 3 2 tZr24_PtY fun b2 => ?_ <;> refine s_alloc1 [.int .i64 0, .string ByteArray.empty, .int .i64 0, .int .i64 0, .int .i64 0] 5 3 tZr71_PtY fun b3 => ?_ <;> refine s_alloc1 [.bool false] 1 4 tZr4_PtY fun b4 => ?_ <;> refine aL_end (nav ?_) <;> try dsimp only)
 refine aC_ent (relabel (l := 2) 1002 rfl rfl) fun _ => ?_
 refine aC_ent (relabel (l := 3) 1003 rfl rfl) fun _ => ?_
 refine aC_ent (relabel (l := 4) 1004 rfl rfl) fun _ => ?_
 (refine aC_region ?_ <;> refine xL 6 q_mkfn ?_ <;> refine s_defer ?_ <;> refine aL_end (nav ?_) <;> try dsimp only)
 (refine aC_region ?_ <;> refine xL 7 q_move ?_ <;> refine xL 8 (q_build tSt108_PtY) ?_ <;> refine s_boxa1 9 2 fun b => ?_ <;> refine xL 5 q_assign ?_ <;> refine aL_end (nav ?_) <;> try dsimp only)
 refine aC_ent (relabel (l := 9) 1000 rfl rfl) fun _ => ?_
 (refine aC_region ?_ <;> refine xL 10 q_move ?_ <;> (refine aL_heap [(1002, hdr1 b2, .own 24 3 1 z3), (1003, hdr1 b3, .own 71 5 1 (cTk tk0)), (1004, hdr1 b4, .own 4 1 1 [.val (.bool false)]), (1000, hdr1 b, .own 108 2 1 [pTks L, pInt ((0 : Nat) : Int)])] ⟨rfl, rfl, rfl, rfl, trivial⟩ ?_; refine aL_cpS [1002, 1003, 1004] 11 (Tryz.call61) (hT0 b) (fun v11 p11 h11 hR11 => ?_) (fun ch h hRp => by (obtain ⟨t, hp1, rfl, j, rfl⟩ := hRp; exact aP_leaves3 (R := (· = rdP L)) [1000] (Tryz.results38) (tRead1_pan b2 b3 b4 t _ _ _ _ _ _ _ _ _) (Tryz.call60) (.cell (k := 3) 1002 (by kernel_rfl) rfl rfl (Nat.le_of_ble_eq_true rfl) (by decide) rfl) (.cell (k := 5) 1003 (by kernel_rfl) rfl rfl (Nat.le_of_ble_eq_true rfl) (by decide) rfl) (.cell1 1004 (by kernel_rfl) rfl rfl rfl rfl) (by unfold rdP; rw [rdR_err hp1]; rfl))); obtain ⟨t, m2, hp1, rfl, rfl⟩ := hR11; dsimp only [RtH]) <;> (refine s_sta 1002 tAgg24_PtY ?_; refine aL_ent (recast (l := 1002) (p' := .own 24 3 1 [pInt t.op, pStr t.act, pTrs t.l]) rfl rfl) fun _ => ?_) <;> refine aL_end (nav ?_) <;> try dsimp only)
 have hrd := (rd_ok (L.length + 1)).1 _ _ _ he hp1
 obtain ⟨x, mt, rfl⟩ := hrd.endl.cons
 obtain ⟨hdi, hml⟩ := suf_drop hrd.suf
 have hx := get_drop hdi
 have hil : L.length - (x :: mt).length < L.length := lt_of_get hx
 have hk0 : (cTks L)[(L.length - (x :: mt).length) * 5 + 0]? = some (pInt x.kind) := tks_get (j := 0) hx (by decide)
 have e1 : ((cTks L).drop ((L.length - (x :: mt).length) * 5)).take 5 = [pInt x.kind, pB x.text, pInt x.n, pInt x.ln, pInt x.col] := tks_drop hx
 have e2 : (L.length - (x :: mt).length) * 5 + 5 ≤ (cTks L).length := tks_fit hx
 (refine aC_region ?_ <;> refine xL 12 q_move ?_ <;> refine xL 13 q_move ?_ <;> refine xL 14 (q_nilo 1000) ?_ <;> refine xL 15 (q_fldo 1000 tFl108_1_PtY) ?_ <;> (refine yL 16 (q_ldo 1000 tNa3_PtY) fun v16 hv16 => ?_; cases hv16) <;> refine xL 17 (q_idxN tSl67_PtY) ?_ <;> refine xL 18 (q_fld tFl71_0_PtY) ?_ <;> (refine yL 19 (q_ld tNa3_PtY) fun v19 hv19 => ?_; cases hv19) <;> refine xL 20 q_neq ?_ <;> refine aL_end (nav ?_) <;> try dsimp only)
 (first | refine cCd ?_ ?_ | refine cC ?_ ?_) <;> intro hb20
 · first
   | exact Bool.noConfusion hb20
   | (
    refine nav ?_
    (refine aC_region ?_ <;> refine xL 21 q_move ?_ <;> refine xL 22 q_move ?_ <;> refine xL 23 (q_nilo 1000) ?_ <;> refine xL 24 (q_fldo 1000 tFl108_1_PtY) ?_ <;> (refine yL 25 (q_ldo 1000 tNa3_PtY) fun v25 hv25 => ?_; cases hv25) <;> refine xL 26 (q_idxN tSl67_PtY) ?_ <;> (refine yL 27 (q_lda tAgg71_PtY) fun v27 hv27 => ?_; cases hv27) <;> (refine yL 28 (q_buildM tSq104_PtY) fun v28 hv28 => ?_; cases hv28) <;> refine xL 29 (q_mkif (by kernel_rfl)) ?_ <;> (refine aL_agv (d := 28) (tkV x) rfl (fun h28 => ?_); subst h28; refine aL_heap [(1002, hdr1 b2, .own 24 3 1 [pInt t.op, pStr t.act, pTrs t.l]), (1003, hdr1 b3, .own 71 5 1 (cTk tk0)), (1004, hdr1 b4, .own 4 1 1 [.val (.bool false)]), (1000, _, _)] ⟨rfl, rfl, rfl, rfl, trivial⟩ ?_; refine aL_panic ?_; exact aP_leaves3 (R := (· = rdP L)) [1000] (Tryz.results38) (tRead1_pan b2 b3 b4 x _ _ _ _ _ _ _ _ _) (Tryz.call60) (.cell (k := 3) 1002 (by kernel_rfl) rfl rfl (Nat.le_of_ble_eq_true rfl) (by decide) rfl) (.cell (k := 5) 1003 (by kernel_rfl) rfl rfl (Nat.le_of_ble_eq_true rfl) (by decide) rfl) (.cell1 1004 (by kernel_rfl) rfl rfl rfl rfl) (by unfold rdP; rw [rdR_no hp1 hb20]; rfl)) <;> refine aL_end (nav ?_) <;> try dsimp only))
 · first
   | exact Bool.noConfusion hb20
   | (
    refine nav ?_
    (refine aC_region ?_ <;> (refine yL 30 (q_ldao 1002 tAgg24_PtY) fun v30 hv30 => ?_; cases hv30) <;> (refine yL 31 (q_buildM tSq71_PtY) fun v31 hv31 => ?_; cases hv31) <;> refine s_sta 1002 tAgg24_PtY ?_ <;> refine s_sta 1003 tAgg71_PtY ?_ <;> (refine s_st 1004 tNa4_PtY tSz4_PtY ?_; refine aL_heap [(1002, hdr1 b2, .own 24 3 1 [pInt t.op, pStr t.act, pTrs t.l]), (1003, hdr1 b3, .own 71 5 1 (cTk tk0)), (1004, hdr1 b4, .own 4 1 1 [.val (.bool true)]), (1000, _, _)] ⟨rfl, rfl, rfl, rfl, trivial⟩ ?_) <;> refine aL_end (nav ?_) <;> try dsimp only)
    refine aR_leaves3 [1000] (Tryz.results38) (tRead1_ret b2 b3 b4 _ _ _) (Tryz.call60) (.cell (k := 3) 1002 (by kernel_rfl) rfl rfl (Nat.le_of_ble_eq_true rfl) (by decide) rfl) (.cell (k := 5) 1003 (by kernel_rfl) rfl rfl (Nat.le_of_ble_eq_true rfl) (by decide) rfl) (.cell1 1004 (by kernel_rfl) rfl rfl rfl rfl) ?_
    unfold rdP
    rw [rdR_yes hp1 (by omega)]
    rfl)
theorem tAgg24_PtZ : AggT Tryz.prog 24 3 = true := by kernel_rfl
theorem tAgg33_PtZ : AggT Tryz.prog 33 2 = true := by kernel_rfl
theorem tAgg71_PtZ : AggT Tryz.prog 71 5 = true := by kernel_rfl
theorem tFl71_0_PtZ : FldT Tryz.prog 71 0 0 = true := by kernel_rfl
theorem tFl71_3_PtZ : FldT Tryz.prog 71 3 3 = true := by kernel_rfl
theorem tNa3_PtZ : NoAgg Tryz.prog 3 = true := by kernel_rfl
theorem tSt24_PtZ : stInfo Tryz.prog 24 = some ((.agg #[(.int .i64 0), (.string ByteArray.empty), (.slice none 0 0)]), ([0, 1, 2] : List Nat).map fun o => (o, 1)) := by kernel_rfl
theorem tSt33_PtZ : stInfo Tryz.prog 33 = some ((.agg #[(.int .i64 0), (.int .i64 0)]), ([0, 1] : List Nat).map fun o => (o, 1)) := by kernel_rfl
theorem tZr24_PtZ : ZeroT Tryz.prog 24 (.agg #[(.int .i64 0), (.string ByteArray.empty), (.slice none 0 0)]) := by unfold ZeroT; kernel_rfl
theorem tZr33_PtZ : ZeroT Tryz.prog 33 (.agg #[(.int .i64 0), (.int .i64 0)]) := by unfold ZeroT; kernel_rfl
theorem tZr71_PtZ : ZeroT Tryz.prog 71 (.agg #[(.int .i64 0), (.string ByteArray.empty), (.int .i64 0), (.int .i64 0), (.int .i64 0)]) := by unfold ZeroT; kernel_rfl
def tokR (l : List UInt8) : List Tk × (Int × Int) × Int := if 16384 < l.length then ([], (0, 0), 5) else toksB l (1, 1) []
theorem tokP_eq (l : List UInt8) : tokP l = tk3 (tokR l) := by unfold tokP tokR; split <;> rfl
def parP (r : Nd × (Int × Int) × Int) : PV := .tup [pTr r.1, .agg [pInt r.2.1.1, pInt r.2.1.2], pInt r.2.2]
theorem tokR_ok {l : List UInt8} (h : (tokR l).2.2 = 0) : EndL (tokR l).1 ∧ (tokR l).1.length ≤ 4001 ∧ ∀ x ∈ (tokR l).1, TkOk x := by
 unfold tokR at h ⊢
 split at h
 · exact absurd h (by decide)
 · rename_i hl
   rw [if_neg hl]
   exact toksF_ok (l.length + 1) l (1, 1) [] (Nat.lt_succ_self _) (by omega) (Nat.zero_le _) (fun x hx => by cases hx) h
theorem par_tok {l : List UInt8} (h : (tokR l).2.2 ≠ 0) : parB l = (nd0, (tokR l).2) := by
 unfold parB
 unfold tokR at h ⊢
 split
 · rfl
 · rename_i hl
   rw [if_neg hl] at h
   rw [if_pos h]
theorem par_no {l : List UInt8} {tk : Tk} (h : (tokR l).2.2 = 0) (hr : rdR (tokR l).1 = (none, tk)) : parB l = (nd0, (tk.ln, tk.col), if tk.kind = 5 then 4 else 3) := by
 unfold parB
 unfold tokR at h hr
 split at h
 · exact absurd h (by decide)
 · rename_i hl
   rw [if_neg hl] at hr ⊢
   rw [if_neg (fun h' => h' h)]
   unfold rdR at hr
   cases hx : rdT ((toksB l (1, 1) []).1.length + 1) (toksB l (1, 1) []).1 with
   | err t => rw [hx] at hr; cases hr; rfl
   | ok t m =>
     rw [hx] at hr
     simp only at hr ⊢
     by_cases h5 : (m.headD tk0).kind ≠ 5
     · rw [if_pos h5] at hr ⊢
       cases hr
       rw [if_neg h5]
     · rw [if_neg h5] at hr; cases hr
theorem par_yes {l : List UInt8} {t : Nd} {tk : Tk} (h : (tokR l).2.2 = 0) (hr : rdR (tokR l).1 = (some t, tk)) : parB l = (if valT t then (t, (0, 0), 0) else (nd0, (0, 0), 5)) ∧ ∃ m, rdT ((tokR l).1.length + 1) (tokR l).1 = .ok t m := by
 unfold parB
 unfold tokR at h hr ⊢
 split at h
 · exact absurd h (by decide)
 · rename_i hl
   rw [if_neg hl] at hr ⊢
   rw [if_neg (fun h' => h' h), if_neg hl]
   unfold rdR at hr
   cases hx : rdT ((toksB l (1, 1) []).1.length + 1) (toksB l (1, 1) []).1 with
   | err t => rw [hx] at hr; cases hr
   | ok t m =>
     rw [hx] at hr
     simp only at hr ⊢
     by_cases h5 : (m.headD tk0).kind ≠ 5
     · rw [if_pos h5] at hr; cases hr
     · rw [if_neg h5] at hr ⊢
       cases hr
       exact ⟨rfl, m, rfl⟩
set_option maxHeartbeats 4000000 in
theorem tParse_e (l : List UInt8) (hA : (∃ c ∈ l, isDB c = true) → AtoiC Tryz.prog 82) (hb : l.length ≤ 1000000000) : AF Tryz.prog 13 [pB l] (· = parP (parB l)) := by
 have h13 := tkTokens_e l hA hb
 rw [tokP_eq] at h13
 obtain ⟨r, hrt⟩ : ∃ r, r = tokR l := ⟨_, rfl⟩
 rw [← hrt] at h13
 obtain ⟨L, ⟨pa, pb⟩, e⟩ := r
 have h13 : AF Tryz.prog 37 [pB l] (· = .tup [pTks L, .agg [pInt pa, pInt pb], pInt e]) := h13
 have hfit : ∀ t m, rdT (L.length + 1) L = .ok t m → e = 0 → FitT t := fun t m h he => by
  have hok := tokR_ok (l := l) (by rw [← hrt]; exact he)
  rw [← hrt] at hok
  exact (rd_fit (L.length + 1)).1 L t m hok.1 (fun x hx => (hok.2.2 x hx).text) (by have := hok.2.1; dsimp only at this; omega) h
 refine AF.of_body 53 Tryz.func13 rfl Tryz.ntmps13 (Nat.le_of_ble_eq_true rfl) ?_
 intro w0 M0 vs hl hv
 obtain ⟨v0, rfl⟩ := len1 hl
 obtain rfl := hv 0 _ _ rfl rfl
 clear hl hv
 refine nav ?_
 (refine aC_region ?_ <;> refine s_alloc [(.int .i64 0), (.string ByteArray.empty), (.slice none 0 0)] 3 2 tZr24_PtZ fun h2 => ?_ <;> refine s_alloc [(.int .i64 0), (.int .i64 0)] 2 3 tZr33_PtZ fun h3 => ?_ <;> refine xL 4 q_assign ?_ <;> refine aL_end (nav ?_) <;> try dsimp only)
 (refine aC_region ?_ <;> refine xL 12 q_move ?_ <;> (refine cPx3 13 (cA (Tryz.call37) h13) (fun va13 vb13 vc13 hva13 hvb13 hvc13 => ?_); cases hvc13) <;> refine xL 11 q_move ?_ <;> refine xL 14 q_extract ?_ <;> refine xL 15 q_extract ?_ <;> refine xL 16 q_extract ?_ <;> refine s_alloc [(.int .i64 0), (.int .i64 0)] 2 6 tZr33_PtZ fun h6 => ?_ <;> refine xL 5 q_assign ?_ <;> refine s_sta 6 tAgg33_PtZ ?_ <;> refine xL 7 q_assign ?_ <;> refine aL_end (nav ?_) <;> try dsimp only)
 (refine aC_region ?_ <;> refine xL 17 q_move ?_ <;> refine xL 18 q_neq ?_ <;> refine aL_end (nav ?_) <;> try dsimp only)
 (first | refine cCd ?_ ?_ | refine cC ?_ ?_) <;> intro hb18
 · first
   | exact Bool.noConfusion hb18
   | (
    refine nav ?_
    (refine aC_draw (fun i => ([] : List Nat).elem i) [6] (by kernel_rfl) ?_ <;> refine xD 0 19 rfl (q_build tSt24_PtZ) ?_ <;> (refine yD 1 20 rfl (q_ldao 6 tAgg33_PtZ) fun v20 hv20 => ?_; cases hv20) <;> refine xD 2 21 rfl q_move ?_ <;> (refine aD_one 3 (by kernel_rfl) ?_) <;> (refine aW_run rfl fun w9 M9 N9 DQ back => ?_) <;> (refine aL_ent (rslot (t := 19) (p' := pTr nd0) rfl (rr_leaf 0 ByteArray.empty)) fun _ => ?_; refine s_sta 2 tAgg24_PtZ ?_) <;> refine aL_end (back _ (nrm ?_)) <;> (refine aD_one 4 (by kernel_rfl) ?_) <;> (refine aW_run rfl fun w9 M9 N9 DQ back => ?_) <;> refine s_sta 3 tAgg33_PtZ ?_ <;> refine aL_end (back _ (nrm ?_)) <;> refine xE 5 4 rfl q_assign ?_ <;> refine aD_end (by kernel_rfl) (nav ?_) <;> try dsimp only)
    refine ret_3 (Tryz.results13) (.cell (k := 3) 2 (by kernel_rfl) rfl rfl (Nat.le_of_ble_eq_true rfl) (by decide) rfl) (.cell (k := 2) 3 (by kernel_rfl) rfl rfl (Nat.le_of_ble_eq_true rfl) (by decide) rfl) (.tmp rfl) ?_
    rw [par_tok (by rw [← hrt]; exact hb18), ← hrt]; rfl)
 · first
   | exact Bool.noConfusion hb18
   | (
    have he0 : e = 0 := by omega
    subst he0
    have hok := tokR_ok (l := l) (by rw [← hrt])
    rw [← hrt] at hok
    have h24 := tRead_e L (by have := hok.2.1; dsimp only at this; omega) hok.2.2 hok.1
    unfold rdP at h24
    refine nav ?_
    (refine aC_region ?_ <;> refine xL 23 q_move ?_ <;> (rcases hrr : rdR L with ⟨_ | t, tk⟩ <;> rw [hrr] at h24 <;> dsimp only [rdO, Option.isSome] at h24 <;> (refine cPx3 24 (cA (Tryz.call38) h24) (fun va24 vb24 vc24 hva24 hvb24 hvc24 => ?_); cases hvc24)) <;> refine xL 22 q_move ?_ <;> refine xL 25 q_extract ?_ <;> refine xL 26 q_extract ?_ <;> refine xL 27 q_extract ?_ <;> refine s_alloc [(.int .i64 0), (.string ByteArray.empty), (.slice none 0 0)] 3 8 tZr24_PtZ fun h8 => ?_ <;> refine s_alloc [(.int .i64 0), (.string ByteArray.empty), (.int .i64 0), (.int .i64 0), (.int .i64 0)] 5 9 tZr71_PtZ fun h9 => ?_ <;> refine s_sta 8 tAgg24_PtZ ?_ <;> refine s_sta 9 tAgg71_PtZ ?_ <;> refine xL 10 q_assign ?_ <;> refine aL_end (nav ?_) <;> try dsimp only) <;> (
     (refine aC_region ?_ <;> refine xL 29 q_move ?_ <;> refine xL 30 q_not ?_ <;> refine xL 31 q_move ?_ <;> (first | refine kL 32 ?_ | refine xL 32 (q_fldo 9 tFl71_0_PtZ) ?_) <;> (first | refine kL 33 ?_ | (refine yL 33 (q_ldo 9 tNa3_PtZ) fun v33 hv33 => ?_; cases hv33)) <;> (first | refine kL 34 ?_ | refine xL 34 q_eql ?_) <;> refine xL 35 q_pick ?_ <;> refine xL 28 q_assign ?_ <;> refine aL_end (nav ?_) <;> try dsimp only) <;> (
      (first | refine cCd ?_ ?_ | refine cC ?_ ?_) <;> intro hb28
      · first
        | exact Bool.noConfusion hb28
        | (
         refine nav ?_
         (refine aC_draw (fun i => ([] : List Nat).elem i) [9] (by kernel_rfl) ?_ <;> refine xD 0 36 rfl (q_build tSt24_PtZ) ?_ <;> refine xD 1 37 rfl (q_fldo 9 tFl71_3_PtZ) ?_ <;> (refine yD 2 38 rfl (q_ldao 9 tAgg33_PtZ) fun v38 hv38 => ?_; cases hv38) <;> (refine aD_one 3 (by kernel_rfl) ?_) <;> (refine aW_run rfl fun w9 M9 N9 DQ back => ?_) <;> (refine aL_ent (rslot (t := 36) (p' := pTr nd0) rfl (rr_leaf 0 ByteArray.empty)) fun _ => ?_; refine s_sta 2 tAgg24_PtZ ?_) <;> refine aL_end (back _ (nrm ?_)) <;> (refine aD_one 4 (by kernel_rfl) ?_) <;> (refine aW_run rfl fun w9 M9 N9 DQ back => ?_) <;> refine s_sta 3 tAgg33_PtZ ?_ <;> refine aL_end (back _ (nrm ?_)) <;> refine xE 5 4 rfl q_assign ?_ <;> refine aD_end (by kernel_rfl) (nav ?_) <;> try dsimp only)
         refine ret_3 (Tryz.results13) (.cell (k := 3) 2 (by kernel_rfl) rfl rfl (Nat.le_of_ble_eq_true rfl) (by decide) rfl) (.cell (k := 2) 3 (by kernel_rfl) rfl rfl (Nat.le_of_ble_eq_true rfl) (by decide) rfl) (.tmp rfl) ?_
         rw [par_no (by rw [← hrt]) (by rw [← hrt]; exact hrr), if_pos (by omega)]; rfl)
      · first
        | exact Bool.noConfusion hb28
        | (
         refine nav ?_
         (refine aC_region ?_ <;> refine xL 40 q_move ?_ <;> refine xL 41 q_not ?_ <;> refine xL 39 q_assign ?_ <;> refine aL_end (nav ?_) <;> try dsimp only)
         (first | refine cCd ?_ ?_ | refine cC ?_ ?_) <;> intro hb39
         · first
           | exact Bool.noConfusion hb39
           | (
            refine nav ?_
            (refine aC_draw (fun i => ([] : List Nat).elem i) [9] (by kernel_rfl) ?_ <;> refine xD 0 42 rfl (q_build tSt24_PtZ) ?_ <;> refine xD 1 43 rfl (q_fldo 9 tFl71_3_PtZ) ?_ <;> (refine yD 2 44 rfl (q_ldao 9 tAgg33_PtZ) fun v44 hv44 => ?_; cases hv44) <;> (refine aD_one 3 (by kernel_rfl) ?_) <;> (refine aW_run rfl fun w9 M9 N9 DQ back => ?_) <;> (refine aL_ent (rslot (t := 42) (p' := pTr nd0) rfl (rr_leaf 0 ByteArray.empty)) fun _ => ?_; refine s_sta 2 tAgg24_PtZ ?_) <;> refine aL_end (back _ (nrm ?_)) <;> (refine aD_one 4 (by kernel_rfl) ?_) <;> (refine aW_run rfl fun w9 M9 N9 DQ back => ?_) <;> refine s_sta 3 tAgg33_PtZ ?_ <;> refine aL_end (back _ (nrm ?_)) <;> refine xE 5 4 rfl q_assign ?_ <;> refine aD_end (by kernel_rfl) (nav ?_) <;> try dsimp only)
            refine ret_3 (Tryz.results13) (.cell (k := 3) 2 (by kernel_rfl) rfl rfl (Nat.le_of_ble_eq_true rfl) (by decide) rfl) (.cell (k := 2) 3 (by kernel_rfl) rfl rfl (Nat.le_of_ble_eq_true rfl) (by decide) rfl) (.tmp rfl) ?_
            rw [par_no (by rw [← hrt]) (by rw [← hrt]; exact hrr), if_neg (by omega)]; rfl)
         · first
           | exact Bool.noConfusion hb39
           | (
            refine nav ?_
            have hpy := par_yes (l := l) (by rw [← hrt]) (by rw [← hrt]; exact hrr)
            rw [← hrt] at hpy
            obtain ⟨hpe, m, hm⟩ := hpy
            have hft := hfit t m hm rfl
            (refine aC_region ?_ <;> (refine yL 46 (q_ldao 8 tAgg24_PtZ) fun v46 hv46 => ?_; cases hv46) <;> (refine cS 47 (cA Tryz.call26 (tValid_e t hft)) fun v47 hv47 => ?_; cases hv47) <;> refine xL 48 q_not ?_ <;> refine xL 45 q_assign ?_ <;> refine aL_end (nav ?_) <;> try dsimp only)
            (first | refine cCd ?_ ?_ | refine cC ?_ ?_) <;> intro hb45
            · first
              | exact Bool.noConfusion hb45
              | (
               refine nav ?_
               (refine aC_region ?_ <;> refine xL 49 (q_build tSt24_PtZ) ?_ <;> refine xL 50 (q_build tSt33_PtZ) ?_ <;> (refine aL_ent (rslot (t := 49) (p' := pTr nd0) rfl (rr_leaf 0 ByteArray.empty)) fun _ => ?_; refine s_sta 2 tAgg24_PtZ ?_) <;> refine s_sta 3 tAgg33_PtZ ?_ <;> refine xL 4 q_assign ?_ <;> refine aL_end (nav ?_) <;> try dsimp only)
               refine ret_3 (Tryz.results13) (.cell (k := 3) 2 (by kernel_rfl) rfl rfl (Nat.le_of_ble_eq_true rfl) (by decide) rfl) (.cell (k := 2) 3 (by kernel_rfl) rfl rfl (Nat.le_of_ble_eq_true rfl) (by decide) rfl) (.tmp rfl) ?_
               rw [hpe, if_neg (by intro h; rw [h] at hb45; cases hb45)]; rfl)
            · first
              | exact Bool.noConfusion hb45
              | (
               refine nav ?_
               (refine aC_region ?_ <;> (refine yL 51 (q_ldao 8 tAgg24_PtZ) fun v51 hv51 => ?_; cases hv51) <;> refine xL 52 (q_build tSt33_PtZ) ?_ <;> refine s_sta 2 tAgg24_PtZ ?_ <;> refine s_sta 3 tAgg33_PtZ ?_ <;> refine xL 4 q_assign ?_ <;> refine aL_end (nav ?_) <;> try dsimp only)
               refine ret_3 (Tryz.results13) (.cell (k := 3) 2 (by kernel_rfl) rfl rfl (Nat.le_of_ble_eq_true rfl) (by decide) rfl) (.cell (k := 2) 3 (by kernel_rfl) rfl rfl (Nat.le_of_ble_eq_true rfl) (by decide) rfl) (.tmp rfl) ?_
               rw [hpe, if_pos (by simpa using hb45)]; rfl))))))
theorem tAgg24_PuV : AggT Tryz.prog 24 3 = true := by kernel_rfl
theorem tAgg33_PuV : AggT Tryz.prog 33 2 = true := by kernel_rfl
theorem tAgg71_PuV : AggT Tryz.prog 71 5 = true := by kernel_rfl
theorem tFl71_0_PuV : FldT Tryz.prog 71 0 0 = true := by kernel_rfl
theorem tFl71_3_PuV : FldT Tryz.prog 71 3 3 = true := by kernel_rfl
theorem tNa3_PuV : NoAgg Tryz.prog 3 = true := by kernel_rfl
theorem tSl67_PuV : SlT Tryz.prog 67 71 5 = true := by kernel_rfl
theorem tSt24_PuV : stInfo Tryz.prog 24 = some ((.agg #[(.int .i64 0), (.string ByteArray.empty), (.slice none 0 0)]), ([0, 1, 2] : List Nat).map fun o => (o, 1)) := by kernel_rfl
theorem tSt33_PuV : stInfo Tryz.prog 33 = some ((.agg #[(.int .i64 0), (.int .i64 0)]), ([0, 1] : List Nat).map fun o => (o, 1)) := by kernel_rfl
theorem tZr24_PuV : ZeroT Tryz.prog 24 (.agg #[(.int .i64 0), (.string ByteArray.empty), (.slice none 0 0)]) := by unfold ZeroT; kernel_rfl
theorem tZr33_PuV : ZeroT Tryz.prog 33 (.agg #[(.int .i64 0), (.int .i64 0)]) := by unfold ZeroT; kernel_rfl
theorem tks_pos {L : List Tk} {i : Nat} {x : Tk} {m : List Tk} (h : L.drop i = x :: m) : ((cTks L).drop (i * 5 + 3)).take 2 = [pInt x.ln, pInt x.col] ∧ i * 5 + 3 + 2 ≤ (cTks L).length := by
 obtain ⟨h1, h2⟩ := tks_at h
 refine ⟨?_, by omega⟩
 have e : ((cTks L).drop (i * 5 + 3)).take 2 = (((cTks L).drop (i * 5)).take 5).drop 3 := by
  rw [List.drop_take, List.drop_drop]
 rw [e, h1]; rfl
set_option maxHeartbeats 4000000 in
theorem rrParse_e (l : List UInt8) (hb : l.length ≤ 1000000000) : AF Tryz.prog 14 [pB l] (· = parP (parB l)) := by
 have h13 := rkTokens_e l hb
 rw [tokP_eq] at h13
 obtain ⟨r, hrt⟩ : ∃ r, r = tokR l := ⟨_, rfl⟩
 rw [← hrt] at h13
 obtain ⟨L, ⟨pa, pb⟩, e⟩ := r
 have h13 : AF Tryz.prog 39 [pB l] (· = .tup [pTks L, .agg [pInt pa, pInt pb], pInt e]) := h13
 have hfit : ∀ t m, rdT (L.length + 1) L = .ok t m → e = 0 → FitT t := fun t m h he => by
  have hok := tokR_ok (l := l) (by rw [← hrt]; exact he)
  rw [← hrt] at hok
  exact (rd_fit (L.length + 1)).1 L t m hok.1 (fun x hx => (hok.2.2 x hx).text) (by have := hok.2.1; dsimp only at this; omega) h
 refine AF.of_body 56 Tryz.func14 rfl Tryz.ntmps14 (Nat.le_of_ble_eq_true rfl) ?_
 intro w0 M0 vs hl hv
 obtain ⟨v0, rfl⟩ := len1 hl
 obtain rfl := hv 0 _ _ rfl rfl
 clear hl hv
 refine nav ?_
 (refine aC_region ?_ <;> refine s_alloc [(.int .i64 0), (.string ByteArray.empty), (.slice none 0 0)] 3 2 tZr24_PuV fun h2 => ?_ <;> refine s_alloc [(.int .i64 0), (.int .i64 0)] 2 3 tZr33_PuV fun h3 => ?_ <;> refine xL 4 q_assign ?_ <;> refine aL_end (nav ?_) <;> try dsimp only)
 (refine aC_region ?_ <;> refine xL 12 q_move ?_ <;> (refine cPx3 13 (cA (Tryz.call39) h13) (fun va13 vb13 vc13 hva13 hvb13 hvc13 => ?_); cases hvc13) <;> refine xL 11 q_move ?_ <;> refine xL 14 q_extract ?_ <;> refine xL 15 q_extract ?_ <;> refine xL 16 q_extract ?_ <;> refine s_alloc [(.int .i64 0), (.int .i64 0)] 2 6 tZr33_PuV fun h6 => ?_ <;> refine xL 5 q_assign ?_ <;> refine s_sta 6 tAgg33_PuV ?_ <;> refine xL 7 q_assign ?_ <;> refine aL_end (nav ?_) <;> try dsimp only)
 (refine aC_region ?_ <;> refine xL 17 q_move ?_ <;> refine xL 18 q_neq ?_ <;> refine aL_end (nav ?_) <;> try dsimp only)
 (first | refine cCd ?_ ?_ | refine cC ?_ ?_) <;> intro hb18
 · first
   | exact Bool.noConfusion hb18
   | (
    refine nav ?_
    (refine aC_draw (fun i => ([] : List Nat).elem i) [6] (by kernel_rfl) ?_ <;> refine xD 0 19 rfl (q_build tSt24_PuV) ?_ <;> (refine yD 1 20 rfl (q_ldao 6 tAgg33_PuV) fun v20 hv20 => ?_; cases hv20) <;> refine xD 2 21 rfl q_move ?_ <;> (refine aD_one 3 (by kernel_rfl) ?_) <;> (refine aW_run rfl fun w9 M9 N9 DQ back => ?_) <;> (refine aL_ent (rslot (t := 19) (p' := pTr nd0) rfl (rr_leaf 0 ByteArray.empty)) fun _ => ?_; refine s_sta 2 tAgg24_PuV ?_) <;> refine aL_end (back _ (nrm ?_)) <;> (refine aD_one 4 (by kernel_rfl) ?_) <;> (refine aW_run rfl fun w9 M9 N9 DQ back => ?_) <;> refine s_sta 3 tAgg33_PuV ?_ <;> refine aL_end (back _ (nrm ?_)) <;> refine xE 5 4 rfl q_assign ?_ <;> refine aD_end (by kernel_rfl) (nav ?_) <;> try dsimp only)
    refine ret_3 (Tryz.results14) (.cell (k := 3) 2 (by kernel_rfl) rfl rfl (Nat.le_of_ble_eq_true rfl) (by decide) rfl) (.cell (k := 2) 3 (by kernel_rfl) rfl rfl (Nat.le_of_ble_eq_true rfl) (by decide) rfl) (.tmp rfl) ?_
    rw [par_tok (by rw [← hrt]; exact hb18), ← hrt]; rfl)
 · first
   | exact Bool.noConfusion hb18
   | (
    have he0 : e = 0 := by omega
    subst he0
    have hok := tokR_ok (l := l) (by rw [← hrt])
    rw [← hrt] at hok
    dsimp only at hok
    have h24 := rrRead_e L (by omega) hok.2.2 L.length (L.length + 1) L (Nat.le_refl _) (List.suffix_refl L) hok.1 (Nat.lt_succ_self _)
    rw [Nat.sub_self] at h24
    have hrd := (re_rd (L.length + 1)).1 L
    have hre := (re_err (L.length + 1)).1 L
    have hro := (rd_ok (L.length + 1)).1 L
    refine nav ?_
    (refine aC_region ?_ <;> refine xL 23 q_move ?_ <;> (obtain ⟨r, hq⟩ : ∃ r, r = reT (L.length + 1) L := ⟨_, rfl⟩; rw [← hq] at h24 hrd; rcases r with ⟨t, m⟩ | m <;> dsimp only [reO, reRd] at h24 hrd <;> (refine cPx3 24 (cA (Tryz.call40) h24) (fun va24 vb24 vc24 hva24 hvb24 hvc24 => ?_); cases hvb24; cases hvc24)) <;> refine xL 22 q_move ?_ <;> refine xL 25 q_extract ?_ <;> refine xL 26 q_extract ?_ <;> refine xL 27 q_extract ?_ <;> refine s_alloc [(.int .i64 0), (.string ByteArray.empty), (.slice none 0 0)] 3 8 tZr24_PuV fun h8 => ?_ <;> refine s_sta 8 tAgg24_PuV ?_ <;> refine xL 9 q_assign ?_ <;> refine xL 10 q_assign ?_ <;> refine aL_end (nav ?_) <;> try dsimp only) <;> (
     have hm : m <:+ L ∧ m ≠ [] := by
      first
       | exact ⟨(hro t m hok.1 hrd).suf, (hro t m hok.1 hrd).endl.ne⟩
       | exact hre m hok.1 (Nat.lt_succ_self _) hq.symm
     obtain ⟨y, m', rfl⟩ : ∃ y m', m = y :: m' := by
      cases m with
      | nil => exact absurd rfl hm.2
      | cons y m' => exact ⟨y, m', rfl⟩
     obtain ⟨hdj, hjl⟩ := suf_drop hm.1
     obtain ⟨j, hj⟩ : ∃ j, j = L.length - (y :: m').length := ⟨_, rfl⟩
     rw [← hj] at hdj ⊢
     rw [List.length_cons] at hjl hj
     obtain ⟨y1, y2⟩ := tks_at hdj
     obtain ⟨y3, y4⟩ := tks_pos hdj
     obtain ⟨y5, _⟩ := tks_f hdj
     have hF := rrFault_e y
     rw [show cTk y = [pInt y.kind, pB y.text, pInt y.n, pInt y.ln, pInt y.col] from rfl] at hF
     (refine aC_region ?_ <;> refine xL 28 q_move ?_ <;> (first | refine xL (v := .bool false) (p := .val (.bool false)) 29 (q_not (b := true)) ?_ | refine xL (v := .bool true) (p := .val (.bool true)) 29 (q_not (b := false)) ?_) <;> refine xL 30 q_move ?_ <;> (first | refine kL 31 ?_ | refine xL 31 q_move ?_) <;> (first | refine kL 32 ?_ | refine xL 32 q_move ?_) <;> (first | refine kL 33 ?_ | refine xL 33 (q_idxN tSl67_PuV) ?_) <;> (first | refine kL 34 ?_ | refine xL 34 (q_fld tFl71_0_PuV) ?_) <;> (first | refine kL 35 ?_ | (refine yL 35 (q_ld tNa3_PuV) fun v35 hv35 => ?_; cases hv35)) <;> (first | refine kL 36 ?_ | refine xL 36 q_neq ?_) <;> refine xL 37 q_pick ?_ <;> refine aL_end (nav ?_) <;> try dsimp only) <;> (
      (first | refine cCd ?_ ?_ | refine cC ?_ ?_) <;> intro hb37
      · first
        | exact Bool.noConfusion hb37
        | (
         refine nav ?_
         (refine aC_draw (fun i => ([] : List Nat).elem i) [8] (by kernel_rfl) ?_ <;> refine xD 0 38 rfl (q_build tSt24_PuV) ?_ <;> refine xD 1 39 rfl q_move ?_ <;> refine xD 2 40 rfl q_move ?_ <;> refine xD 3 41 rfl (q_idxN tSl67_PuV) ?_ <;> refine xD 4 42 rfl (q_fld tFl71_3_PuV) ?_ <;> (refine yD 5 43 rfl (q_lda tAgg33_PuV) fun v43 hv43 => ?_; cases hv43) <;> refine xD 6 44 rfl q_move ?_ <;> refine xE 7 45 rfl q_move ?_ <;> refine xE 8 46 rfl (q_idxN tSl67_PuV) ?_ <;> (refine yE 9 47 rfl (q_lda tAgg71_PuV) fun v47 hv47 => ?_; cases hv47) <;> (refine aD_one 10 (by kernel_rfl) ?_) <;> (refine aW_call (d := 48) rfl (cA (Tryz.call41) hF) fun v48 hv48 => ?_; cases hv48) <;> (refine aD_one 11 (by kernel_rfl) ?_) <;> (refine aW_run rfl fun w9 M9 N9 DQ back => ?_) <;> (refine aL_ent (rslot (t := 38) (p' := pTr nd0) rfl (rr_leaf 0 ByteArray.empty)) fun _ => ?_; refine s_sta 2 tAgg24_PuV ?_) <;> refine aL_end (back _ (nrm ?_)) <;> (refine aD_one 12 (by kernel_rfl) ?_) <;> (refine aW_run rfl fun w9 M9 N9 DQ back => ?_) <;> refine s_sta 3 tAgg33_PuV ?_ <;> refine aL_end (back _ (nrm ?_)) <;> refine xE 13 4 rfl q_assign ?_ <;> refine aD_end (by kernel_rfl) (nav ?_) <;> try dsimp only)
         refine ret_3 (Tryz.results14) (.cell (k := 3) 2 (by kernel_rfl) rfl rfl (Nat.le_of_ble_eq_true rfl) (by decide) rfl) (.cell (k := 2) 3 (by kernel_rfl) rfl rfl (Nat.le_of_ble_eq_true rfl) (by decide) rfl) (.tmp rfl) ?_
         have hrr : rdR L = (none, y) := by
          first
           | exact rdR_no hrd (by omega)
           | exact rdR_err hrd
         rw [par_no (by rw [← hrt]) (by rw [← hrt]; exact hrr)]; rfl)
      · first
        | exact Bool.noConfusion hb37
        | (
         have hrr : rdR L = (some t, tk0) := rdR_yes hrd (by omega)
         have hpy := par_yes (l := l) (by rw [← hrt]) (by rw [← hrt]; exact hrr)
         rw [← hrt] at hpy
         obtain ⟨hpe, m2, hm2⟩ := hpy
         have hft := hfit t m2 hm2 rfl
         refine nav ?_
         (refine aC_region ?_ <;> (refine yL 49 (q_ldao 8 tAgg24_PuV) fun v49 hv49 => ?_; cases hv49) <;> (refine cS 50 (cA Tryz.call19 (rtValid_e t hft)) fun v50 hv50 => ?_; cases hv50) <;> refine xL 51 q_not ?_ <;> refine aL_end (nav ?_) <;> try dsimp only)
         (first | refine cCd ?_ ?_ | refine cC ?_ ?_) <;> intro hb51
         · first
           | exact Bool.noConfusion hb51
           | (
            refine nav ?_
            (refine aC_region ?_ <;> refine xL 52 (q_build tSt24_PuV) ?_ <;> refine xL 53 (q_build tSt33_PuV) ?_ <;> (refine aL_ent (rslot (t := 52) (p' := pTr nd0) rfl (rr_leaf 0 ByteArray.empty)) fun _ => ?_; refine s_sta 2 tAgg24_PuV ?_) <;> refine s_sta 3 tAgg33_PuV ?_ <;> refine xL 4 q_assign ?_ <;> refine aL_end (nav ?_) <;> try dsimp only)
            refine ret_3 (Tryz.results14) (.cell (k := 3) 2 (by kernel_rfl) rfl rfl (Nat.le_of_ble_eq_true rfl) (by decide) rfl) (.cell (k := 2) 3 (by kernel_rfl) rfl rfl (Nat.le_of_ble_eq_true rfl) (by decide) rfl) (.tmp rfl) ?_
            rw [hpe, if_neg (by intro h; rw [h] at hb51; cases hb51)]; rfl)
         · first
           | exact Bool.noConfusion hb51
           | (
            refine nav ?_
            (refine aC_region ?_ <;> (refine yL 54 (q_ldao 8 tAgg24_PuV) fun v54 hv54 => ?_; cases hv54) <;> refine xL 55 (q_build tSt33_PuV) ?_ <;> refine s_sta 2 tAgg24_PuV ?_ <;> refine s_sta 3 tAgg33_PuV ?_ <;> refine xL 4 q_assign ?_ <;> refine aL_end (nav ?_) <;> try dsimp only)
            refine ret_3 (Tryz.results14) (.cell (k := 3) 2 (by kernel_rfl) rfl rfl (Nat.le_of_ble_eq_true rfl) (by decide) rfl) (.cell (k := 2) 3 (by kernel_rfl) rfl rfl (Nat.le_of_ble_eq_true rfl) (by decide) rfl) (.tmp rfl) ?_
            rw [hpe, if_pos (by simpa using hb51)]; rfl)))))
theorem tAgg24_PuW : AggT Tryz.prog 24 3 = true := by kernel_rfl
theorem tFl24_0_PuW : FldT Tryz.prog 24 0 0 = true := by kernel_rfl
theorem tFl24_1_PuW : FldT Tryz.prog 24 1 1 = true := by kernel_rfl
theorem tFl24_2_PuW : FldT Tryz.prog 24 2 2 = true := by kernel_rfl
theorem tNa22_PuW : NoAgg Tryz.prog 22 = true := by kernel_rfl
theorem tNa3_PuW : NoAgg Tryz.prog 3 = true := by kernel_rfl
theorem tNa9_PuW : NoAgg Tryz.prog 9 = true := by kernel_rfl
theorem tSl22_PuW : SlT Tryz.prog 22 24 3 = true := by kernel_rfl
theorem q_saddB {P : Program} {st : St} {o : Oper} {x y : Operand} {q q' : PV} {t t' : TypeId} (l m : List UInt8) (hs : l.length + m.length ≤ 9223372036854775807) (ho : o.op = .binOp .add t x y t' := by exact rfl) (hx : ev st.slots x = some (.string (bst l), q) := by exact rfl) (hy : ev st.slots y = some (.string (bst m), q') := by exact rfl) : YE P st o (· = .string (bst (l ++ m))) (pB (l ++ m)) := by
 have := q_sadd (P := P) ho hx hy (by rw [bst_size, bst_size]; omega)
 rw [bst_cat] at this
 exact this
set_option maxHeartbeats 4000000 in
theorem rrText_e : ∀ t : Nd, okT t = true → szT t ≤ 1000000 → AF Tryz.prog 36 [pTr t] (· = pB (textT t)) := Nd.ind fun o a l ih hok hs => by
 have e0 : pTr (.mk o a l) = .agg [pInt o, pStr a, pTrs l] := rfl
 rw [e0]
 obtain ⟨hr, hp⟩ := okT_iff.1 hok
 have hf := fit_ok _ hok hs
 have hsz := szT_eq (.mk o a l)
 simp only [Nd.l, Nd.op] at hp hsz
 have hlz := len_szL l
 have hW : AF Tryz.prog 56 [pInt o] (· = pB (wordT o).data.toList) := by
  have := rrWord_e o
  rw [show pB (wordT o).data.toList = pStr (wordT o) by unfold pB; rw [bst_eta]]
  exact this
 have hwl := wordT_len o
 obtain ⟨W, hWe⟩ : ∃ W, W = (wordT o).data.toList := ⟨_, rfl⟩
 rw [← hWe] at hW hwl
 refine AF.of_body 38 Tryz.func36 rfl Tryz.ntmps36 (Nat.le_of_ble_eq_true rfl) ?_
 intro w0 M0 vs hl hv
 obtain ⟨v0, rfl⟩ := len1 hl
 clear hl hv
 refine nav ?_
 (refine aC_region ?_ <;> refine s_boxa 1 3 fun h1 => ?_ <;> refine xL 2 q_assign ?_ <;> refine aL_end (nav ?_) <;> try dsimp only)
 (refine aC_region ?_ <;> refine xL 5 (q_fldo 1 tFl24_0_PuW) ?_ <;> (refine yL 6 (q_ldo 1 tNa3_PuW) fun v6 hv6 => ?_; cases hv6) <;> refine xL 7 q_eql ?_ <;> refine aL_end (nav ?_) <;> try dsimp only)
 (first | refine cCd ?_ ?_ | refine cC ?_ ?_) <;> intro hb7
 · first
   | exact Bool.noConfusion hb7
   | (
    refine nav ?_
    (refine aC_region ?_ <;> refine xL 8 (q_fldo 1 tFl24_1_PuW) ?_ <;> (refine yL 9 (q_ldo 1 tNa9_PuW) fun v9 hv9 => ?_; cases hv9) <;> refine xL 2 q_assign ?_ <;> refine aL_end (nav ?_) <;> try dsimp only)
    refine ret_shr (Tryz.results36) rfl ?_
    rw [textT, if_pos (by assumption)]
    unfold pB
    rw [bst_eta])
 · first
   | exact Bool.noConfusion hb7
   | (
    refine nav ?_
    (refine aC_region ?_ <;> refine xL 10 (q_fldo 1 tFl24_0_PuW) ?_ <;> (refine yL 11 (q_ldo 1 tNa3_PuW) fun v11 hv11 => ?_; cases hv11) <;> refine xL 12 q_eql ?_ <;> refine aL_end (nav ?_) <;> try dsimp only)
    (first | refine cCd ?_ ?_ | refine cC ?_ ?_) <;> intro hb12
    · first
      | exact Bool.noConfusion hb12
      | (
       refine nav ?_
       (refine aC_region ?_ <;> refine xL 2 q_assign ?_ <;> refine aL_end (nav ?_) <;> try dsimp only)
       refine ret_shr (Tryz.results36) rfl ?_
       rw [textT, if_neg (by assumption), if_pos (by assumption)]; rfl)
    · first
      | exact Bool.noConfusion hb12
      | (
       refine nav ?_
       (refine aC_region ?_ <;> refine xL 13 (q_fldo 1 tFl24_0_PuW) ?_ <;> (refine yL 14 (q_ldo 1 tNa3_PuW) fun v14 hv14 => ?_; cases hv14) <;> (refine cS 15 (cA Tryz.call56 (hW)) fun v15 hv15 => ?_; cases hv15) <;> (refine xL 16 (q_saddB W [40] (by simp only [List.length_cons, List.length_nil]; omega)) ?_) <;> refine xL 3 q_assign ?_ <;> refine aL_end (nav ?_) <;> try dsimp only)
       (refine aC_region ?_ <;> refine xL 4 q_assign ?_ <;> refine aL_end (nav ?_) <;> try dsimp only)
       refine aC_loop (ι := { q : Nat × List UInt8 // q.1 ≤ l.length ∧ q.2 = W ++ [40] ++ comB (textL (l.take q.1)) }) (fun k => ⟨[(1, _, _), (3, .string (bst k.1.2), pB k.1.2), (4, .int .i64 k.1.1, pInt k.1.1)], [(1, _, _)]⟩) (fun k => l.length - k.1.1) ⟨(0, W ++ [40]), Nat.zero_le _, by rw [List.take_zero, textL, comB, List.append_nil]⟩ (fun a w H => H.weaken ⟨rfl, rfl, rfl, trivial⟩ ⟨rfl, trivial⟩) ?_
       rintro ⟨⟨k, s⟩, hk, hse⟩
       dsimp only
       dsimp only at hk hse; have hpl := textP_len hp k; have hsl : s.length ≤ 4 + 1 + 50 * szL l := by (rw [hse, List.length_append, List.length_append, List.length_singleton]; omega)
       refine nav ?_
       (refine aC_region ?_ <;> refine xL 17 q_move ?_ <;> refine xL 18 (q_fldo 1 tFl24_2_PuW) ?_ <;> (refine yL 19 (q_ldo 1 tNa22_PuW) fun v19 hv19 => ?_; cases hv19) <;> refine xL 20 (q_len tSl22_PuW) ?_ <;> refine xL 21 q_lss ?_ <;> refine aL_end (nav ?_) <;> try dsimp only)
       (first | refine cCd ?_ ?_ | refine cC ?_ ?_) <;> intro hb21
       · first
         | exact Bool.noConfusion hb21
         | (
          obtain ⟨x, hx⟩ := get_some (show k < l.length by omega)
          have e1 : ((cTrs l).drop (k * 3)).take 3 = [pInt x.op, pStr x.act, pTrs x.l] := tr_drop hx
          have e2 := tr_fit hx
          have hxm := List.mem_of_getElem? hx
          have hxs := szL_mem hxm
          have hX := ih x hxm (hp x hxm) (by omega)
          have hxl := text_len x (hp x hxm)
          have hsn := textP_snoc hx
          refine nav ?_
          (refine aC_region ?_ <;> refine xL 24 q_move ?_ <;> refine xL 25 q_gtr ?_ <;> refine aL_end (nav ?_) <;> try dsimp only)
          (first | refine cCd ?_ ?_ | refine cC ?_ ?_) <;> intro hb25
          · first
            | exact Bool.noConfusion hb25
            | (
             refine nav ?_
             (refine aC_region ?_ <;> refine xL 26 q_move ?_ <;> (refine xL 27 (q_saddB s [44, 32] (by simp only [List.length_cons, List.length_nil]; omega)) ?_) <;> refine xL 3 q_assign ?_ <;> refine aL_end (nav ?_) <;> try dsimp only)
             (refine aC_region ?_ <;> refine xL 28 q_move ?_ <;> refine xL 29 (q_fldo 1 tFl24_2_PuW) ?_ <;> (refine yL 30 (q_ldo 1 tNa22_PuW) fun v30 hv30 => ?_; cases hv30) <;> refine xL 31 q_move ?_ <;> refine xL 32 (q_idxN tSl22_PuW) ?_ <;> (refine yL 33 (q_lda tAgg24_PuW) fun v33 hv33 => ?_; cases hv33) <;> (refine cS 34 (cA Tryz.call36 (hX)) fun v34 hv34 => ?_; cases hv34) <;> (refine xL 35 (q_saddB (s ++ [44, 32]) (textT x) (by rw [List.length_append]; simp only [List.length_cons, List.length_nil]; omega)) ?_) <;> refine xL 3 q_assign ?_ <;> refine aL_end (nav ?_) <;> try dsimp only)
             (refine aC_region ?_ <;> refine xL 22 q_move ?_ <;> refine xL 23 q_add ?_ <;> refine xL 4 q_assign ?_ <;> refine aL_end (nav ?_) <;> try dsimp only)
             first
              | (exact aN_again (
                  ⟨(k + 1, s ++ textT x), lt_of_get hx, by dsimp only; rw [hsn, if_pos (by omega), hse, List.append_nil, List.append_assoc]⟩
                  ) (by dsimp only; omega) ⟨rfl, rfl, rfl, trivial⟩ ⟨rfl, trivial⟩)
              | (exact aN_again (
                  ⟨(k + 1, s ++ [44, 32] ++ textT x), lt_of_get hx, by dsimp only; rw [hsn, if_neg (by omega), hse]; simp only [List.append_assoc]⟩
                  ) (by dsimp only; omega) ⟨rfl, rfl, rfl, trivial⟩ ⟨rfl, trivial⟩))
          · first
            | exact Bool.noConfusion hb25
            | (
             refine nav ?_
             (refine aC_region ?_ <;> refine xL 28 q_move ?_ <;> refine xL 29 (q_fldo 1 tFl24_2_PuW) ?_ <;> (refine yL 30 (q_ldo 1 tNa22_PuW) fun v30 hv30 => ?_; cases hv30) <;> refine xL 31 q_move ?_ <;> refine xL 32 (q_idxN tSl22_PuW) ?_ <;> (refine yL 33 (q_lda tAgg24_PuW) fun v33 hv33 => ?_; cases hv33) <;> (refine cS 34 (cA Tryz.call36 (hX)) fun v34 hv34 => ?_; cases hv34) <;> refine xL 35 (q_saddB s (textT x) (by omega)) ?_ <;> refine xL 3 q_assign ?_ <;> refine aL_end (nav ?_) <;> try dsimp only)
             (refine aC_region ?_ <;> refine xL 22 q_move ?_ <;> refine xL 23 q_add ?_ <;> refine xL 4 q_assign ?_ <;> refine aL_end (nav ?_) <;> try dsimp only)
             first
              | (exact aN_again (
                  ⟨(k + 1, s ++ textT x), lt_of_get hx, by dsimp only; rw [hsn, if_pos (by omega), hse, List.append_nil, List.append_assoc]⟩
                  ) (by dsimp only; omega) ⟨rfl, rfl, rfl, trivial⟩ ⟨rfl, trivial⟩)
              | (exact aN_again (
                  ⟨(k + 1, s ++ [44, 32] ++ textT x), lt_of_get hx, by dsimp only; rw [hsn, if_neg (by omega), hse]; simp only [List.append_assoc]⟩
                  ) (by dsimp only; omega) ⟨rfl, rfl, rfl, trivial⟩ ⟨rfl, trivial⟩)))
       · first
         | exact Bool.noConfusion hb21
         | (
          refine nav ?_
          (refine aC_region ?_ <;> refine xL 36 q_move ?_ <;> (refine xL 37 (q_saddB s [41] (by simp only [List.length_cons, List.length_nil]; omega)) ?_) <;> refine xL 2 q_assign ?_ <;> refine aL_end (nav ?_) <;> try dsimp only)
          refine ret_shr (Tryz.results36) rfl ?_
          rw [textT, if_neg (by assumption), if_neg (by assumption), hse, List.take_of_length_le (by omega), hWe])))
theorem rrTextX_e (t : Nd) (hf : FitT t) : AF Tryz.prog 12 [pTr t] (· = .tup [pStr (texX t).1, pInt (texX t).2]) := by
 have e0 : pTr t = .agg [pInt t.op, pStr t.act, pTrs t.l] := rfl
 have hV := rtValid_e t hf
 have hsz := bst_size (textT t)
 rw [e0] at hV ⊢
 refine AF.of_body 14 Tryz.func12 rfl Tryz.ntmps12 (Nat.le_of_ble_eq_true rfl) ?_
 intro w0 M0 vs hl hv
 obtain ⟨v0, rfl⟩ := len1 hl
 clear hl hv
 refine nav ?_
 (refine aC_region ?_ <;> refine s_boxa 1 3 fun h1 => ?_ <;> refine xL 2 q_assign ?_ <;> refine xL 3 q_assign ?_ <;> refine aL_end (nav ?_) <;> try dsimp only)
 (refine aC_region ?_ <;> (refine yL 5 (q_ldao 1 tAgg24_PuW) fun v5 hv5 => ?_; cases hv5) <;> (refine cS 6 (cA Tryz.call19 (hV)) fun v6 hv6 => ?_; cases hv6) <;> refine xL 7 q_not ?_ <;> refine aL_end (nav ?_) <;> try dsimp only)
 (first | refine cCd ?_ ?_ | refine cC ?_ ?_) <;> intro hb7
 · first
   | exact Bool.noConfusion hb7
   | (
    refine nav ?_
    (refine aC_region ?_ <;> refine xL 2 q_assign ?_ <;> refine xL 3 q_assign ?_ <;> refine aL_end (nav ?_) <;> try dsimp only)
    refine ret_ss (Tryz.results12) rfl rfl ?_
    rw [texX, if_neg (by simpa using hb7)]; rfl)
 · first
   | exact Bool.noConfusion hb7
   | (
    have hv : valT t = true := by simpa using hb7
    have hT := rrText_e t (val_ok hv) (by have := val_sz hv; omega)
    rw [e0] at hT
    refine nav ?_
    (refine aC_region ?_ <;> (refine yL 8 (q_ldao 1 tAgg24_PuW) fun v8 hv8 => ?_; cases hv8) <;> (refine cS 9 (cA Tryz.call36 (hT)) fun v9 hv9 => ?_; cases hv9) <;> refine xL 4 q_assign ?_ <;> refine aL_end (nav ?_) <;> try dsimp only)
    (refine aC_region ?_ <;> refine xL 10 q_move ?_ <;> refine xL 11 (q_slen Tryz.underlying9) ?_ <;> refine xL 12 q_gtr ?_ <;> refine aL_end (nav ?_) <;> try dsimp only)
    (first | refine cCd ?_ ?_ | refine cC ?_ ?_) <;> intro hb12
    · first
      | exact Bool.noConfusion hb12
      | (
       refine nav ?_
       (refine aC_region ?_ <;> refine xL 2 q_assign ?_ <;> refine xL 3 q_assign ?_ <;> refine aL_end (nav ?_) <;> try dsimp only)
       refine ret_ss (Tryz.results12) rfl rfl ?_
       rw [texX, if_pos hv, if_pos (by omega)]; rfl)
    · first
      | exact Bool.noConfusion hb12
      | (
       refine nav ?_
       (refine aC_region ?_ <;> refine xL 13 q_move ?_ <;> refine xL 2 q_assign ?_ <;> refine xL 3 q_assign ?_ <;> refine aL_end (nav ?_) <;> try dsimp only)
       refine ret_ss (Tryz.results12) rfl rfl ?_
       rw [texX, if_pos hv, if_neg (by omega)]; rfl))
end Go.Proofs.YtbfilfhgcihhoaaGreatDoor
namespace Go.En
open Go.RowKit Go.Cb Go.WideShapes Go.ChangeShapes Go.ChangeAt Go.Deep
set_option linter.all false
theorem weightsAll_mem {H : Type} (P : Program) (e : TypeId) {d : DataW H} {n : Nat} : ∀ {l : List (DataW H)}, d ∈ l → n ∈ d.weights P e → n ∈ DataW.weightsAll P e l
 | x :: l, h, hn => by
   rw [DataW.weightsAll, List.mem_append]
   rcases List.mem_cons.1 h with rfl | h
   · exact .inl hn
   · exact .inr (weightsAll_mem P e h hn)
theorem weightsEach_mem {H : Type} (P : Program) {d : DataW H} {t : TypeId} {n : Nat} : ∀ {ts : List TypeId} {l : List (DataW H)} (i : Nat), ts[i]? = some t → l[i]? = some d → n ∈ d.weights P t → n ∈ DataW.weightsEach P ts l
 | t' :: ts, x :: l, 0, h1, h2, hn => by
   simp at h1 h2
   subst h1 h2
   rw [DataW.weightsEach, List.mem_append]
   exact .inl hn
 | t' :: ts, x :: l, i + 1, h1, h2, hn => by
   rw [DataW.weightsEach, List.mem_append]
   exact .inr (weightsEach_mem P i (by simpa using h1) (by simpa using h2) hn)
structure Dec (P : Program) (t : TypeId) (k : Nat) {α : Type} (enc : α → List PV) (fit : α → Prop) : Prop where
 size : P.cellsOf t = k
 len : ∀ a, (enc a).length = k
 dec : ∀ {H : Type} (e : TypeId × Value → H) (w : World) (spare : Nat → Bool) (held : Bool) (fuel : Nat) (cs : List Value) (x : DataW H × List MemPlace), DataW.trod e P w 0 spare held fuel t cs = some x → (∀ n ∈ x.1.weights P t, n ≤ reachBytes) →
  ∃ a, fit a ∧ cs.length = k ∧ ∀ (i : Nat) (v : Value) (p : PV), cs[i]? = some v → (enc a)[i]? = some p → Shr (fun _ => False) w v p
section
variable {P : Program} {t : TypeId}
theorem one_at {v u : Value} {p q : PV} {w : World} (h : Shr (fun _ => False) w v p) (i : Nat) (h1 : [v][i]? = some u) (h2 : [p][i]? = some q) : Shr (fun _ => False) w u q := by
 cases i with
 | zero => simp at h1 h2; subst h1 h2; exact h
 | succ i => simp at h1
theorem dec_int (ht : P.underlying t = some (.int .i64)) (hs : P.cellsOf t = 1) : Dec P t 1 (fun n : Int => [pInt n]) (fun n => -9223372036854775808 ≤ n ∧ n ≤ 9223372036854775807) where
 size := hs
 len := fun _ => rfl
 dec := fun e w spare held fuel cs x h => by
  intro hwt
  obtain ⟨n, rfl, _, hw⟩ := DataW.trod_int ht h
  refine ⟨n, ?_, rfl, fun i v p h1 h2 => one_at (.val _) i h1 h2⟩
  simpa [Lit.wf, IntKind.min, IntKind.max, IntKind.signed, IntKind.bits] using hw
theorem dec_str (ht : P.underlying t = some .string) (hs : P.cellsOf t = 1) : Dec P t 1 (fun s : ByteArray => [pStr s]) (fun s => s.size ≤ 140737488355328) where
 size := hs
 len := fun _ => rfl
 dec := fun e w spare held fuel cs x h => by
  intro hwt
  obtain ⟨s, rfl, rfl, hw⟩ := DataW.trod_string ht h
  have hsz : s.size ≤ reachBytes := hwt s.size (by show s.size ∈ DataW.weights P t (.lit (.string s.data.toList)); rw [DataW.weights]; exact List.mem_singleton.2 (by rw [Array.length_toList]; rfl))
  exact ⟨s, by unfold reachBytes at hsz; omega, rfl, fun i v p h1 h2 => one_at (.val _) i h1 h2⟩
section
variable {H : Type} {en : TypeId × Value → H} {w : World} {spare : Nat → Bool} {held : Bool} {r : Reach} {base : Nat} {v : Value} {d : DataW H} {ps : List MemPlace}
theorem okWide_one (hT : NoAgg P t = true) (h : Value.okWide P w r base t v) : v.cells = #[v] := by
 unfold NoAgg at hT
 unfold Value.okWide at h
 cases v <;> first | rfl | skip
 rename_i cs
 exfalso
 cases hu : P.underlying t with
 | none => rw [hu] at hT; simp at hT
 | some dd =>
   rw [hu] at hT h
   cases dd <;> simp_all [Cell.okWide, Cell.ok]
theorem arg1 {α : Type} {f : α → PV} {fit : α → Prop} (D : Dec P t 1 (fun a => [f a]) fit) (hT : NoAgg P t = true) (hv : Value.okWide P w r base t v) (h : DataW.Trod en P w 0 spare held t v d ps) (hwt : ∀ n ∈ d.weights P t, n ≤ reachBytes) : ∃ a, fit a ∧ Shr (fun _ => False) w v (f a) := by
 obtain ⟨fuel, hf⟩ := h
 rw [okWide_one hT hv] at hf
 obtain ⟨a, h1, _, h3⟩ := D.dec en w spare held fuel _ _ hf hwt
 exact ⟨a, h1, h3 0 v (f a) rfl rfl⟩
theorem argA {α : Type} {k : Nat} {enc : α → List PV} {fit : α → Prop} (D : Dec P t k enc fit) (hT : StrT P t = true) (hv : Value.okWide P w r base t v) (h : DataW.Trod en P w 0 spare held t v d ps) (hwt : ∀ n ∈ d.weights P t, n ≤ reachBytes) : ∃ a, fit a ∧ Shr (fun _ => False) w v (.agg (enc a)) := by
 obtain ⟨fuel, hf⟩ := h
 have : ∃ fs, P.underlying t = some (.struct fs) := by
  unfold StrT at hT
  split at hT
  · rename_i fs hfs; exact ⟨fs, hfs⟩
  · cases hT
 obtain ⟨fs, hfs⟩ := this
 obtain ⟨cs, rfl, hsz⟩ := okWide_struct hfs hv
 obtain ⟨a, h1, h2, h3⟩ := D.dec en w spare held fuel _ _ hf hwt
 refine ⟨a, h1, ?_⟩
 have := Shr.agg (M := fun _ => False) (w := w) cs.toList (enc a) (by rw [D.len a]; exact h2) h3
 simpa using this
end
theorem trodAll_back {H : Type} {enc : TypeId × Value → H} {P : Program} (hl : laidOutB P = true) {W W' : World} (hb : Below W.heap.size W W') : ∀ {ts : List TypeId} {vs : List Value} {ds : List (DataW H)} {ps : List MemPlace}, (ts.all fun t => P.readableRec t && decide (t < P.types.size)) = true →
 DataW.TrodAll enc P W 0 (fun _ => true) true ts vs ds ps → DataW.TrodAll enc P W' 0 (fun b => decide (b < W.heap.size)) true ts vs ds ps
 | [], [], [], ps, _, h => h
 | t :: ts, v :: vs, d :: ds, ps, ht, ⟨p, q, h1, h2, h3⟩ => by
   rw [List.all_cons, Bool.and_eq_true, Bool.and_eq_true] at ht
   refine ⟨p, q, Below.trod hl ht.1.1 (of_decide_eq_true ht.1.2) h1 hb ?_, trodAll_back hl hb ht.2 h2, h3⟩
   obtain ⟨m, hm⟩ := h1
   exact DataW.trod_lt m _ _ _ hm
theorem AF.law {P : Program} {f : FuncId} {ps : List PV} (hA : AF P f ps (· = .val (.bool true))) {W : World} {vs : List Value} (hl : vs.length = ps.length) (hv : ∀ (i : Nat) (v : Value) (p : PV), vs[i]? = some v → ps[i]? = some p → Shr (fun _ => False) W v p) (hT : TabW W (fun _ => False) (fun _ => False)) (hE : ErrW W (fun _ => False) (fun _ => False) := by intro g hg; cases hg) :
 Calls P f vs.toArray W fun e w' => e = .returned (.bool true) ∧ Below W.heap.size W w' :=
 (hA (fun _ => False) W vs ⟨fun _ h => h.elim, fun _ => hT, fun _ => hE⟩ hl hv).mono fun e w' ⟨v, p, F, h1, h2, h3, h4, _⟩ => by
   subst h2
   have := (h4.sh rfl).vOf
   subst this
   exact ⟨h1, h3⟩
end
def DecF (P : Program) (t : TypeId) (k : Nat) {α : Type} (enc : α → List PV) (fit : α → Prop) (fuel : Nat) : Prop :=
 ∀ {H : Type} (e : TypeId × Value → H) (w : World) (spare : Nat → Bool) (held : Bool) (cs : List Value) (x : DataW H × List MemPlace), DataW.trod e P w 0 spare held fuel t cs = some x → (∀ n ∈ x.1.weights P t, n ≤ reachBytes) →
  ∃ a, fit a ∧ cs.length = k ∧ ∀ (i : Nat) (v : Value) (p : PV), cs[i]? = some v → (enc a)[i]? = some p → Shr (fun _ => False) w v p
section
variable {P : Program} {t : TypeId}
theorem Dec.toF {α : Type} {k : Nat} {enc : α → List PV} {fit : α → Prop} (D : Dec P t k enc fit) (fuel : Nat) : DecF P t k enc fit fuel := fun e w spare held cs x h hw => D.dec e w spare held fuel cs x h hw
theorem decF_field {H : Type} {α : Type} {e k o fuel : Nat} {enc : α → List PV} {fit : α → Prop} (hsz : P.cellsOf e = k) (hlen : ∀ a, (enc a).length = k) (D : DecF P e k enc fit fuel) {en : TypeId × Value → H} {w : World} {spare : Nat → Bool} {held : Bool} {cs : List Value} {y : DataW H × List MemPlace}
 (h : DataW.trod en P w 0 spare held fuel e ((cs.drop o).take (P.cellsOf e)) = some y) (hwt : ∀ n ∈ y.1.weights P e, n ≤ reachBytes) : ∃ a, fit a ∧ ∀ (i : Nat) (v : Value) (p : PV), cs[o + i]? = some v → (enc a)[i]? = some p → Shr (fun _ => False) w v p := by
 obtain ⟨a, h1, _, h3⟩ := D en w spare held _ y h hwt
 refine ⟨a, h1, fun i v p hv hp => h3 i v p ?_ hp⟩
 have hi : i < k := by rw [← hlen a]; exact lt_of_get hp
 rw [hsz, List.getElem?_take_of_lt hi, List.getElem?_drop]; exact hv
theorem decF_slice {α : Type} {e k fuel : Nat} {enc : α → List PV} {fit : α → Prop} (ht : P.underlying t = some (.slice e)) (hk : 0 < k) (hby : 0 < P.bytesOf e) (hsz : P.cellsOf e = k) (hln : ∀ a, (enc a).length = k) (D : ∀ n, n < fuel → DecF P e k enc fit n) :
 DecF P t 1 (fun l : List α => [PV.sl l.length (l.flatMap enc)]) (fun l => l.length ≤ 140737488355328 ∧ ∀ x ∈ l, fit x) fuel := fun en w spare held cs x h hwt => by
 rcases DataW.trod_slice ht h with ⟨rfl, _⟩ | ⟨a, len, cap, elems, more, n, rfl, rfl, rfl, _, hl, hm, hel, hx, _, _⟩
 · exact ⟨[], ⟨by simp, by simp⟩, rfl, fun i v p h1 h2 => one_at (.emp none 0 (by unfold maxLen; omega) (fun _ => rfl)) i h1 h2⟩
 · rcases Nat.eq_zero_or_pos len with h0 | h0
   · subst h0
     exact ⟨[], ⟨by simp, by simp⟩, rfl, fun i v p h1 h2 => one_at (.emp (some a) cap hm (fun h => by cases h)) i h1 h2⟩
   simp only [DataW.weights, ht] at hwt
   have hlen : len ≤ reachBytes := by
    have := hwt _ (List.mem_cons_self ..)
    simp only [List.length_map, hel] at this
    exact Nat.le_trans (Nat.le_trans (Nat.le_add_right len _) (Nat.le_mul_of_pos_right _ hby)) this
   have hDn : DecF P e k enc fit n := D n (Nat.lt_succ_self n)
   have hone : ∀ i, i < len → ∃ (y : α × (Nat → Value)), fit y.1 ∧ ∀ (j : Nat) (p : PV), (enc y.1)[j]? = some p → w.cell? ((a.add (i * k)).add j) = some (y.2 j) ∧ Shr (fun _ => False) w (y.2 j) p := fun i hi => by
    have h1 := hx i hi
    obtain ⟨z, hz⟩ := get_of_lt (show i < elems.length by omega)
    rw [hz] at h1
    obtain ⟨cs', h2, h3⟩ := Option.bind_eq_some_iff.1 h1
    rw [hsz] at h2
    obtain ⟨_, hlen', hcell⟩ := World.cells?_some h2
    obtain ⟨y, hy, _, hS⟩ := hDn en w spare held cs' _ h3 (fun m hm => hwt m (List.mem_cons_of_mem _ (List.mem_append.2 (.inl (weightsAll_mem P e (List.mem_map.2 ⟨z, List.mem_of_getElem? hz, rfl⟩) hm)))))
    refine ⟨(y, fun j => (cs'[j]?).getD undef), hy, fun j p hp => ?_⟩
    have hj : j < k := by rw [← hln y]; exact lt_of_get hp
    obtain ⟨u, hu⟩ := get_of_lt (show j < cs'.length by omega)
    have := hcell j hj
    simp only [hu, Option.getD_some]
    exact ⟨by rw [this, hu], hS j u p hu hp⟩
   obtain ⟨y0, hy0⟩ := hone 0 h0
   have key : ∀ i : Nat, ∃ (y : α × (Nat → Value)), i < len → fit y.1 ∧ ∀ (j : Nat) (p : PV), (enc y.1)[j]? = some p → w.cell? ((a.add (i * k)).add j) = some (y.2 j) ∧ Shr (fun _ => False) w (y.2 j) p := fun i => by
    by_cases hi : i < len
    · obtain ⟨y, hy⟩ := hone i hi; exact ⟨y, fun _ => hy⟩
    · exact ⟨y0, fun h => absurd h hi⟩
   obtain ⟨Y, hY⟩ := Classical.skolem.1 key
   have hspot : ∃ b off, a = ⟨b, off, none⟩ := by
    obtain ⟨hf, hc⟩ := hY 0 h0
    obtain ⟨p, hp⟩ := get_of_lt (show 0 < (enc (Y 0).1).length by rw [hln]; exact hk)
    have := (hc 0 p hp).1
    obtain ⟨b, off, spot⟩ := a
    have hspot : spot = none := by simpa [Addr.add] using World.cell?_spot this
    subst hspot
    exact ⟨b, off, rfl⟩
   obtain ⟨b, off, rfl⟩ := hspot
   have hflen : ((List.range len).map fun i => (Y i).1).length = len := by simp
   refine ⟨(List.range len).map fun i => (Y i).1, ⟨by rw [hflen]; unfold reachBytes at hlen; omega, fun x hx => ?_⟩, rfl, fun i v p h1 h2 => one_at ?_ i h1 h2⟩
   · obtain ⟨i, hi, rfl⟩ := List.mem_map.1 hx
     exact (hY i (by simpa using hi)).1
   · rw [hflen]
     have hat : ∀ (c : Nat) (p : PV), (((List.range len).map fun i => (Y i).1).flatMap enc)[c]? = some p → c / k < len ∧ (enc (Y (c / k)).1)[c % k]? = some p := fun c p hp => by
      have hc : c < len * k := by have := lt_of_get hp; rw [flat_len hln, hflen] at this; exact this
      have hq : c / k < len := Nat.div_lt_of_lt_mul (by rw [Nat.mul_comm]; exact hc)
      have hget : ((List.range len).map fun i => (Y i).1)[c / k]? = some (Y (c / k)).1 := by simp [hq]
      have := flat_at hln hget (Nat.mod_lt c hk)
      rw [Nat.mul_comm, Nat.div_add_mod] at this
      exact ⟨hq, by rw [← this]; exact hp⟩
     refine .sl b off len cap _ (fun c => (Y (c / k)).2 (c % k)) hl hm (fun c hc => ⟨?_, fun h => h⟩) (fun c p hp => ?_)
     · obtain ⟨p, hp⟩ := get_of_lt hc
       obtain ⟨hq, hp'⟩ := hat c p hp
       have := ((hY (c / k) hq).2 (c % k) p hp').1
       rw [add_none, add_none, Nat.add_assoc, Nat.mul_comm, Nat.div_add_mod] at this
       exact this
     · obtain ⟨hq, hp'⟩ := hat c p hp
       exact ((hY (c / k) hq).2 (c % k) p hp').2
end
end Go.En
namespace Go.Proofs.YtbfilfhgcihhoaaGreatDoor
open Go.RowKit Go.Cb Go.En Go.ChangeShapes Go.WideShapes Go.ChangeAt
set_option linter.all false
set_option maxRecDepth 100000
theorem tAgg24_PuA : AggT Tryz.prog 24 3 = true := by kernel_rfl
theorem tAgg33_PuA : AggT Tryz.prog 33 2 = true := by kernel_rfl
theorem tSt33_PuA : stInfo Tryz.prog 33 = some ((.agg #[(.int .i64 0), (.int .i64 0)]), ([0, 1] : List Nat).map fun o => (o, 1)) := by kernel_rfl
theorem tZr24_PuA : ZeroT Tryz.prog 24 (.agg #[(.int .i64 0), (.string ByteArray.empty), (.slice none 0 0)]) := by unfold ZeroT; kernel_rfl
theorem tZr33_PuA : ZeroT Tryz.prog 33 (.agg #[(.int .i64 0), (.int .i64 0)]) := by unfold ZeroT; kernel_rfl
theorem dInt9 : Dec Tryz.prog 3 1 (fun n : Int => [pInt n]) (fun n => -9223372036854775808 ≤ n ∧ n ≤ 9223372036854775807) := dec_int Tryz.underlying3 (by kernel_rfl)
theorem dStr9 : Dec Tryz.prog 9 1 (fun s : ByteArray => [pStr s]) (fun s => s.size ≤ 140737488355328) := dec_str Tryz.underlying9 (by kernel_rfl)
theorem decF_tree (fuel : Nat) : DecF Tryz.prog 24 3 cN FitT fuel := by
 induction fuel using Nat.strongRecOn with
 | _ fuel ih =>
   intro H e w spare held cs x h hwt
   obtain ⟨xs, n, rfl, rfl, hlen, hxl, hf⟩ := DataW.trod_struct Tryz.underlying24 h
   simp only [DataW.weights, Tryz.underlying24] at hwt
   match xs, hxl with
   | [y0, y1, y2], _ =>
   have g0 : DataW.trod e Tryz.prog w 0 spare held n 3 ((cs.drop 0).take (Tryz.prog.cellsOf 3)) = some y0 := hf 0 _ rfl
   have g1 : DataW.trod e Tryz.prog w 0 spare held n 9 ((cs.drop 1).take (Tryz.prog.cellsOf 9)) = some y1 := hf 1 _ rfl
   have g2 : DataW.trod e Tryz.prog w 0 spare held n 22 ((cs.drop 2).take (Tryz.prog.cellsOf 22)) = some y2 := hf 2 _ rfl
   have hD0 : DecF Tryz.prog 3 1 (fun n : Int => [pInt n]) (fun n => -9223372036854775808 ≤ n ∧ n ≤ 9223372036854775807) n := Dec.toF dInt9 n
   have hD1 : DecF Tryz.prog 9 1 (fun s : ByteArray => [pStr s]) (fun s => s.size ≤ 140737488355328) n := Dec.toF dStr9 n
   have hsl : DecF Tryz.prog 22 1 (fun l : List Nd => [PV.sl l.length (l.flatMap cN)]) (fun l => l.length ≤ 140737488355328 ∧ ∀ x ∈ l, FitT x) n :=
    decF_slice Tryz.underlying22 (by decide) (Nat.le_of_ble_eq_true (by kernel_rfl)) (by kernel_rfl) cN_len (fun m hm => ih m (by omega))
   obtain ⟨a, ha, A⟩ := decF_field (k := 1) (enc := fun n : Int => [pInt n]) (fit := fun n : Int => -9223372036854775808 ≤ n ∧ n ≤ 9223372036854775807) (by kernel_rfl) (fun _ => rfl) hD0 g0 (fun n hn => hwt n (weightsEach_mem Tryz.prog 0 rfl rfl hn))
   obtain ⟨b, hb, B⟩ := decF_field (k := 1) (enc := fun s : ByteArray => [pStr s]) (fit := fun s : ByteArray => s.size ≤ 140737488355328) (by kernel_rfl) (fun _ => rfl) hD1 g1 (fun n hn => hwt n (weightsEach_mem Tryz.prog 1 rfl rfl hn))
   obtain ⟨l, hl, C⟩ := decF_field (k := 1) (enc := fun l : List Nd => [PV.sl l.length (l.flatMap cN)]) (fit := fun l : List Nd => l.length ≤ 140737488355328 ∧ ∀ x ∈ l, FitT x) (by kernel_rfl) (fun _ => rfl) hsl g2 (fun n hn => hwt n (weightsEach_mem Tryz.prog 2 rfl rfl hn))
   refine ⟨.mk a b l, .mk _ hl.1 hb ha.1 ha.2 hl.2, by rw [hlen]; kernel_rfl, fun i v p hv hp => ?_⟩
   match i with
   | 0 => exact A 0 v p hv (by simpa [cN, Nd.op] using hp)
   | 1 => exact B 0 v p hv (by simpa [cN, Nd.act] using hp)
   | 2 => exact C 0 v p hv (by rw [← hp]; show some _ = some _; unfold pTrs; rw [cTrs_eq]; rfl)
   | i + 3 => simp [cN] at hp
theorem dTree : Dec Tryz.prog 24 3 cN FitT where
 size := by kernel_rfl
 len := cN_len
 dec := fun e w spare held fuel cs x h hw => decF_tree fuel e w spare held cs x h hw
theorem q_seqT {P : Program} {st : St} {o : Oper} {x y : Operand} {q q' : PV} {t t' : TypeId} {a : ByteArray} (ho : o.op = .binOp .eql t x y t' := by exact rfl) (hx : ev st.slots x = some (.string a, q) := by exact rfl) (hy : ev st.slots y = some (.string a, q') := by exact rfl) : YE P st o (· = .bool true) (.val (.bool true)) := by
 have h := q_seql (P := P) ho hx hy
 rwa [show (a.toList == a.toList) = true from by simp] at h
theorem uPos : Tryz.prog.underlying 33 = some (.struct (Tryz.prog.fieldsOf 33)) := by kernel_rfl
theorem hPos : Tryz.prog.stoodInHeld 33 = false := by kernel_rfl
theorem gPos : Tryz.prog.eqGuardType Tryz.prog.depth 33 = false := by kernel_rfl
theorem eqPos_run (a b c d : Int) (w : World) : (Op.eqFields 9999 [Value.int .i64 a, .int .i64 b].toArray [Value.int .i64 c, .int .i64 d].toArray (Tryz.prog.fieldsOf 33).toList).run Tryz.prog w = .ok (decide (a = c) && decide (b = d)) w := by
 simp only [Program.fieldsOf, Tryz.underlying33]
 simp [Op.eqFields, part, run_equalIn_int w 9998 3 .i64 .i64 a c Tryz.underlying3, run_equalIn_int w 9998 3 .i64 .i64 b d Tryz.underlying3]
 by_cases h1 : a = c <;> by_cases h2 : b = d <;> simp [h1, h2]
theorem awA_v : valT (parB awA).1 = true := by decide +kernel
theorem awB_v : valT (parB awB).1 = true := by decide +kernel
theorem aw_nodig {l : List UInt8} (h : l.all (fun c => !isDB c) = true) {Q : Prop} : (∃ c ∈ l, isDB c = true) → Q := fun ⟨c, hc, hd⟩ => by
 have := List.all_eq_true.1 h c hc
 rw [hd] at this; cases this
theorem aw_par {l : List UInt8} (h : l.all (fun c => !isDB c) = true) (hl : l.length ≤ 1000000) {r : (Int × Int) × Int} (hr : (parB l).2 = r) : AF Tryz.prog 13 [pB l] (· = .tup [pTr (parB l).1, .agg [pInt r.1.1, pInt r.1.2], pInt r.2]) := by
 have := tParse_e l (aw_nodig h) (by omega)
 rw [show parB l = ((parB l).1, r) from Prod.ext rfl hr] at this
 exact this
theorem aw_norm {t : Nd} (h1 : valT t = true) (h2 : valT (norT t) = true) : AF Tryz.prog 16 [pTr t] (· = .tup [pTr (norT t), pInt 0]) := by
 have := tNormalX_e t (fit_ok t (val_ok h1) (by have := val_sz h1; omega))
 unfold norX at this
 rw [if_pos h1, if_pos h2] at this
 exact this
theorem w19Awake_e : AF Tryz.prog 9 [] (· = pBool true) := by
 have hA := aw_par (l := awA) (by decide) (by decide) awA_e
 have hB := aw_par (l := awB) (by decide) (by decide) awB_e
 have hC := aw_par (l := awC) (by decide) (by decide) awC_e
 have hD := aw_par (l := awD) (by decide) (by decide) awD_e
 dsimp only at hA hB hC hD
 have hNA := aw_norm awA_v awN_v
 have hNB := aw_norm awB_v awM_v
 have hfA := fit_nor (val_ok awA_v) (by have := val_sz awA_v; omega)
 have hfB := fit_nor (val_ok awB_v) (by have := val_sz awB_v; omega)
 have hT : AF Tryz.prog 11 [pTr (norT (parB awA).1)] (· = .tup [pB awS, pInt 0]) := by
  have := tText_e _ hfA
  unfold texX at this
  rw [if_pos awN_v, awN_e, if_neg (by decide)] at this
  exact this
 have hS : AF Tryz.prog 27 [pTr (norT (parB awB).1)] (· = pInt 5) := by
  have := tSize_e _ hfB
  rw [if_pos awM_v, awM_e] at this
  exact this
 generalize norT (parB awA).1 = NA at hNA hT
 generalize norT (parB awB).1 = NB at hNB hS
 generalize (parB awA).1 = TA at hA hNA
 generalize (parB awB).1 = TB at hB hNB
 generalize (parB awC).1 = TC at hC
 generalize (parB awD).1 = TD at hD
 refine AF.of_body 99 Tryz.func9 rfl Tryz.ntmps9 (Nat.le_of_ble_eq_true rfl) ?_
 intro w0 M0 vs hl hv
 obtain rfl := List.eq_nil_of_length_eq_zero hl
 clear hl hv
 refine nav ?_
 (refine aC_region ?_ <;> refine xL 0 q_assign ?_ <;> refine aL_end (nav ?_) <;> try dsimp only)
 (refine aC_region ?_ <;> (refine cPx3 20 (cA (Tryz.call13) hA) (fun va20 vb20 vc20 hva20 hvb20 hvc20 => ?_); cases hvc20) <;> refine xL 19 q_move ?_ <;> refine xL 21 q_extract ?_ <;> refine xL 22 q_extract ?_ <;> refine xL 23 q_extract ?_ <;> refine s_alloc [(.int .i64 0), (.string ByteArray.empty), (.slice none 0 0)] 3 1 tZr24_PuA fun h1 => ?_ <;> refine s_alloc [(.int .i64 0), (.int .i64 0)] 2 2 tZr33_PuA fun h2 => ?_ <;> refine s_sta 1 tAgg24_PuA ?_ <;> refine s_sta 2 tAgg33_PuA ?_ <;> refine xL 3 q_assign ?_ <;> refine aL_end (nav ?_) <;> try dsimp only)
 (refine aC_region ?_ <;> (refine yL 25 (q_ldao 1 tAgg24_PuA) fun v25 hv25 => ?_; cases hv25) <;> (refine cP 26 (cA Tryz.call16 (hNA)) fun va26 vb26 hva26 hvb26 => ?_; cases hvb26) <;> refine xL 24 q_move ?_ <;> refine xL 27 q_extract ?_ <;> refine xL 28 q_extract ?_ <;> refine s_alloc [(.int .i64 0), (.string ByteArray.empty), (.slice none 0 0)] 3 4 tZr24_PuA fun h4 => ?_ <;> refine s_sta 4 tAgg24_PuA ?_ <;> refine xL 5 q_assign ?_ <;> refine aL_end (nav ?_) <;> try dsimp only)
 (refine aC_region ?_ <;> (refine yL 30 (q_ldao 4 tAgg24_PuA) fun v30 hv30 => ?_; cases hv30) <;> (refine cP 31 (cA Tryz.call11 (hT)) fun va31 vb31 hva31 hvb31 => ?_; cases hva31; cases hvb31) <;> refine xL 29 q_move ?_ <;> refine xL 32 q_extract ?_ <;> refine xL 33 q_extract ?_ <;> refine xL 6 q_assign ?_ <;> refine xL 7 q_assign ?_ <;> refine aL_end (nav ?_) <;> try dsimp only)
 (refine aC_region ?_ <;> (refine cPx3 35 (cA (Tryz.call13) hB) (fun va35 vb35 vc35 hva35 hvb35 hvc35 => ?_); cases hvc35) <;> refine xL 34 q_move ?_ <;> refine xL 36 q_extract ?_ <;> refine xL 37 q_extract ?_ <;> refine xL 38 q_extract ?_ <;> refine s_alloc [(.int .i64 0), (.string ByteArray.empty), (.slice none 0 0)] 3 8 tZr24_PuA fun h8 => ?_ <;> refine s_alloc [(.int .i64 0), (.int .i64 0)] 2 9 tZr33_PuA fun h9 => ?_ <;> refine s_sta 8 tAgg24_PuA ?_ <;> refine s_sta 9 tAgg33_PuA ?_ <;> refine xL 10 q_assign ?_ <;> refine aL_end (nav ?_) <;> try dsimp only)
 (refine aC_region ?_ <;> (refine yL 40 (q_ldao 8 tAgg24_PuA) fun v40 hv40 => ?_; cases hv40) <;> (refine cP 41 (cA Tryz.call16 (hNB)) fun va41 vb41 hva41 hvb41 => ?_; cases hvb41) <;> refine xL 39 q_move ?_ <;> refine xL 42 q_extract ?_ <;> refine xL 43 q_extract ?_ <;> refine s_alloc [(.int .i64 0), (.string ByteArray.empty), (.slice none 0 0)] 3 11 tZr24_PuA fun h11 => ?_ <;> refine s_sta 11 tAgg24_PuA ?_ <;> refine xL 12 q_assign ?_ <;> refine aL_end (nav ?_) <;> try dsimp only)
 (refine aC_region ?_ <;> (refine cPx3 45 (cA (Tryz.call13) hC) (fun va45 vb45 vc45 hva45 hvb45 hvc45 => ?_); cases hvc45) <;> refine xL 44 q_move ?_ <;> refine xL 46 q_extract ?_ <;> refine xL 47 q_extract ?_ <;> refine xL 48 q_extract ?_ <;> refine s_alloc [(.int .i64 0), (.string ByteArray.empty), (.slice none 0 0)] 3 13 tZr24_PuA fun h13 => ?_ <;> refine s_alloc [(.int .i64 0), (.int .i64 0)] 2 14 tZr33_PuA fun h14 => ?_ <;> refine s_sta 13 tAgg24_PuA ?_ <;> refine s_sta 14 tAgg33_PuA ?_ <;> refine xL 15 q_assign ?_ <;> refine aL_end (nav ?_) <;> try dsimp only)
 (refine aC_region ?_ <;> (refine cPx3 50 (cA (Tryz.call13) hD) (fun va50 vb50 vc50 hva50 hvb50 hvc50 => ?_); cases hvc50) <;> refine xL 49 q_move ?_ <;> refine xL 51 q_extract ?_ <;> refine xL 52 q_extract ?_ <;> refine xL 53 q_extract ?_ <;> refine s_alloc [(.int .i64 0), (.string ByteArray.empty), (.slice none 0 0)] 3 16 tZr24_PuA fun h16 => ?_ <;> refine s_alloc [(.int .i64 0), (.int .i64 0)] 2 17 tZr33_PuA fun h17 => ?_ <;> refine s_sta 16 tAgg24_PuA ?_ <;> refine s_sta 17 tAgg33_PuA ?_ <;> refine xL 18 q_assign ?_ <;> refine aL_end (nav ?_) <;> try dsimp only)
 (refine aC_region ?_ <;> refine xL 54 q_move ?_ <;> refine xL 55 q_eqlT ?_ <;> refine xL 56 q_move ?_ <;> refine xL 57 q_move ?_ <;> refine xL 58 q_eqlT ?_ <;> refine xL 59 q_pick ?_ <;> refine xL 60 q_move ?_ <;> refine xL 61 q_move ?_ <;> refine xL 62 q_eqlT ?_ <;> refine xL 63 q_pick ?_ <;> refine xL 64 q_move ?_ <;> refine xL 65 q_move ?_ <;> refine xL 66 q_seqT ?_ <;> refine xL 67 q_pick ?_ <;> refine xL 68 q_move ?_ <;> refine xL 69 q_move ?_ <;> refine xL 70 q_eqlT ?_ <;> refine xL 71 q_pick ?_ <;> refine xL 72 q_move ?_ <;> refine xL 73 q_move ?_ <;> refine xL 74 q_eqlT ?_ <;> refine xL 75 q_pick ?_ <;> refine xL 76 q_move ?_ <;> (refine yL 77 (q_ldao 11 tAgg24_PuA) fun v77 hv77 => ?_; cases hv77) <;> (refine cS 78 (cA Tryz.call27 (hS)) fun v78 hv78 => ?_; cases hv78) <;> refine xL 79 q_eqlT ?_ <;> refine xL 80 q_pick ?_ <;> refine xL 81 q_move ?_ <;> refine xL 82 q_move ?_ <;> refine xL 83 q_eqlT ?_ <;> refine xL 84 q_pick ?_ <;> refine xL 85 q_move ?_ <;> (refine yL 86 (q_ldao 14 tAgg33_PuA) fun v86 hv86 => ?_; cases hv86) <;> refine xL 87 (q_build tSt33_PuA) ?_ <;> (refine xL 88 (q_eqS (us := [Value.int .i64 1, .int .i64 6]) (us' := [Value.int .i64 1, .int .i64 6]) uPos hPos gPos (eqPos_run 1 6 1 6) rfl rfl) ?_; rw [show (decide ((1 : Int) = 1) && decide ((6 : Int) = 6)) = true by decide]) <;> refine xL 89 q_pick ?_ <;> refine xL 90 q_move ?_ <;> refine xL 91 q_move ?_ <;> refine xL 92 q_eqlT ?_ <;> refine xL 93 q_pick ?_ <;> refine xL 94 q_move ?_ <;> (refine yL 95 (q_ldao 17 tAgg33_PuA) fun v95 hv95 => ?_; cases hv95) <;> refine xL 96 (q_build tSt33_PuA) ?_ <;> (refine xL 97 (q_eqS (us := [Value.int .i64 1, .int .i64 7]) (us' := [Value.int .i64 1, .int .i64 7]) uPos hPos gPos (eqPos_run 1 7 1 7) rfl rfl) ?_; rw [show (decide ((1 : Int) = 1) && decide ((7 : Int) = 7)) = true by decide]) <;> refine xL 98 q_pick ?_ <;> refine xL 0 q_assign ?_ <;> refine aL_end (nav ?_) <;> try dsimp only) <;> (
  exact ret_shr (Tryz.results9) rfl rfl)
open Go.RowKit Go.Cb Go.En
theorem one_trs (x : Nd) : PV.sl 1 [pInt x.op, pStr x.act, pTrs x.l] = pTrs [x] := by
 show PV.sl 1 (cN x) = PV.sl 1 (cTrs [x])
 rw [cTrs_eq]; rfl
theorem tAgg24_PuX : AggT Tryz.prog 24 3 = true := by kernel_rfl
theorem tAgg33_PuX : AggT Tryz.prog 33 2 = true := by kernel_rfl
theorem tEl22_PuX : ElT Tryz.prog 22 24 3 48 (.agg #[(.int .i64 0), (.string ByteArray.empty), (.slice none 0 0)]) := ⟨Tryz.underlying22, by kernel_rfl, rfl, by decide⟩
theorem tZr24_PuX : ZeroT Tryz.prog 24 (.agg #[(.int .i64 0), (.string ByteArray.empty), (.slice none 0 0)]) := by unfold ZeroT; kernel_rfl
theorem tZr33_PuX : ZeroT Tryz.prog 33 (.agg #[(.int .i64 0), (.int .i64 0)]) := by unfold ZeroT; kernel_rfl
theorem par_fit (l : List UInt8) : FitT (parB l).1 := by
 unfold parB
 split
 · exact fit_nd0
 · split
   · exact fit_nd0
   · split
     · exact fit_nd0
     · split
       · exact fit_nd0
       · split
         · rename_i t m _ _ h
           show FitT t
           exact fit_ok t (val_ok h) (by have := val_sz h; omega)
         · exact fit_nd0
set_option maxHeartbeats 4000000 in
theorem ptTextsC_e (hA : AtoiC Tryz.prog 82) (t : Nd) (s : ByteArray) (hf : FitT t) (hs : s.size ≤ 140737488355328) : AF Tryz.prog 3 [pTr t, pStr s] (· = pBool true) := by
 obtain ⟨l, rfl⟩ : ∃ l, s = bst l := ⟨s.data.toList, (bst_eta s).symm⟩
 have hsz := bst_size l
 have hU := tText_e t hf
 have hV := rrTextX_e t hf
 obtain ⟨a, b, hab⟩ : ∃ a b, texX t = (a, b) := ⟨_, _, rfl⟩
 rw [hab] at hU hV
 dsimp only at hU hV
 have e0 : pTr t = .agg [pInt t.op, pStr t.act, pTrs t.l] := rfl
 rw [e0] at hU hV ⊢
 refine AF.of_body 70 Tryz.func3 rfl Tryz.ntmps3 (Nat.le_of_ble_eq_true rfl) ?_
 intro w0 M0 vs hl hv
 obtain ⟨v0, v1, rfl⟩ := len2 hl
 obtain rfl := hv 1 _ _ rfl rfl
 clear hl hv
 refine nav ?_
 (refine aC_region ?_ <;> refine s_boxa 2 3 fun h2 => ?_ <;> refine xL 4 q_assign ?_ <;> refine aL_end (nav ?_) <;> try dsimp only)
 (refine aC_region ?_ <;> (refine cS 15 (cA Tryz.call9 (w19Awake_e)) fun v15 hv15 => ?_; cases hv15) <;> refine xL 16 q_not ?_ <;> refine aL_end (nav ?_) <;> try dsimp only)
 (first | refine cCd ?_ ?_ | refine cC ?_ ?_) <;> intro hb16
 · first
   | exact Bool.noConfusion hb16
   | (
    refine nav ?_
    (refine aC_region ?_ <;> refine xL 4 q_assign ?_ <;> refine aL_end (nav ?_) <;> try dsimp only)
    exfalso; simp at hb16)
 · first
   | exact Bool.noConfusion hb16
   | (
    refine nav ?_
    (refine aC_region ?_ <;> (refine yL 17 (q_ldao 2 tAgg24_PuX) fun v17 hv17 => ?_; cases hv17) <;> (refine s_lita (kk := 3) (xs := [_]) (cs := [[_, _, _]]) 18 tEl22_PuX fun h18 ho18 => ?_; refine aL_ent (En.freeze (l := 18) (t := 18) rfl rfl) fun _ => ?_; refine aL_ent (reslot (t := 18) (p' := pTrs [t]) rfl (one_trs t)) fun _ => ?_) <;> (refine cS 19 (cA Tryz.call10 (w19Great_e [t] (Nat.le_of_ble_eq_true rfl) (fun x hx => by rw [List.mem_singleton] at hx; subst hx; exact hf))) fun v19 hv19 => ?_; cases hv19) <;> refine xL 20 q_move ?_ <;> (refine bL 20 (fun hb20 => ?_) (fun hb20 => ?_) <;> (first | refine kL 21 ?_ | refine xL 21 q_move ?_)) <;> (first | refine kL 22 ?_ | refine xL 22 (q_slen Tryz.underlying9) ?_) <;> (first | refine kL 23 ?_ | refine xL 23 q_gtr ?_) <;> refine xL 24 q_pick ?_ <;> refine aL_end (nav ?_) <;> try dsimp only) <;> (
     (first | refine cCd ?_ ?_ | refine cC ?_ ?_) <;> intro hb24
     · first
       | exact Bool.noConfusion hb24
       | (
        refine nav ?_
        (refine aC_region ?_ <;> refine xL 4 q_assign ?_ <;> refine aL_end (nav ?_) <;> try dsimp only)
        exact ret_shr (Tryz.results3) rfl rfl)
     · first
       | exact Bool.noConfusion hb24
       | (
        have hl : l.length ≤ 2000 := by omega
        have hP := tParse_e l (fun _ => hA) (by omega)
        have hQ := rrParse_e l (by omega)
        have hfp := par_fit l
        obtain ⟨r, hr⟩ : ∃ r, r = parB l := ⟨_, rfl⟩
        rw [← hr] at hP hQ hfp
        obtain ⟨x, ⟨pa, pb⟩, e⟩ := r
        have hP : AF Tryz.prog 13 [pB l] (· = .tup [pTr x, .agg [pInt pa, pInt pb], pInt e]) := hP
        have hQ : AF Tryz.prog 14 [pB l] (· = .tup [pTr x, .agg [pInt pa, pInt pb], pInt e]) := hQ
        have hS := rtSame_e x x hfp hfp
        rw [sameT_iff.2 rfl] at hS
        refine nav ?_
        (refine aC_region ?_ <;> (refine yL 26 (q_ldao 2 tAgg24_PuX) fun v26 hv26 => ?_; cases hv26) <;> (refine cP 27 (cA Tryz.call11 (hU)) fun va27 vb27 hva27 hvb27 => ?_; cases hva27; cases hvb27) <;> refine xL 25 q_move ?_ <;> refine xL 28 q_extract ?_ <;> refine xL 29 q_extract ?_ <;> refine xL 5 q_assign ?_ <;> refine xL 6 q_assign ?_ <;> refine aL_end (nav ?_) <;> try dsimp only)
        (refine aC_region ?_ <;> (refine yL 31 (q_ldao 2 tAgg24_PuX) fun v31 hv31 => ?_; cases hv31) <;> (refine cP 32 (cA Tryz.call12 (hV)) fun va32 vb32 hva32 hvb32 => ?_; cases hva32; cases hvb32) <;> refine xL 30 q_move ?_ <;> refine xL 33 q_extract ?_ <;> refine xL 34 q_extract ?_ <;> refine xL 7 q_assign ?_ <;> refine xL 8 q_assign ?_ <;> refine aL_end (nav ?_) <;> try dsimp only)
        (refine aC_region ?_ <;> refine xL 36 q_move ?_ <;> (refine cPx3 37 (cA (Tryz.call13) hP) (fun va37 vb37 vc37 hva37 hvb37 hvc37 => ?_); cases hvc37) <;> refine xL 35 q_move ?_ <;> refine xL 38 q_extract ?_ <;> refine xL 39 q_extract ?_ <;> refine xL 40 q_extract ?_ <;> refine s_alloc [(.int .i64 0), (.string ByteArray.empty), (.slice none 0 0)] 3 9 tZr24_PuX fun h9 => ?_ <;> refine s_alloc [(.int .i64 0), (.int .i64 0)] 2 10 tZr33_PuX fun h10 => ?_ <;> refine s_sta 9 tAgg24_PuX ?_ <;> refine s_sta 10 tAgg33_PuX ?_ <;> refine xL 11 q_assign ?_ <;> refine aL_end (nav ?_) <;> try dsimp only)
        (refine aC_region ?_ <;> refine xL 42 q_move ?_ <;> (refine cPx3 43 (cA (Tryz.call14) hQ) (fun va43 vb43 vc43 hva43 hvb43 hvc43 => ?_); cases hvc43) <;> refine xL 41 q_move ?_ <;> refine xL 44 q_extract ?_ <;> refine xL 45 q_extract ?_ <;> refine xL 46 q_extract ?_ <;> refine s_alloc [(.int .i64 0), (.string ByteArray.empty), (.slice none 0 0)] 3 12 tZr24_PuX fun h12 => ?_ <;> refine s_alloc [(.int .i64 0), (.int .i64 0)] 2 13 tZr33_PuX fun h13 => ?_ <;> refine s_sta 12 tAgg24_PuX ?_ <;> refine s_sta 13 tAgg33_PuX ?_ <;> refine xL 14 q_assign ?_ <;> refine aL_end (nav ?_) <;> try dsimp only)
        (refine aC_region ?_ <;> refine xL 47 q_move ?_ <;> refine xL 48 q_move ?_ <;> refine xL 49 q_seqT ?_ <;> refine xL 50 q_move ?_ <;> refine xL 51 q_move ?_ <;> refine xL 52 q_move ?_ <;> refine xL 53 q_eqlT ?_ <;> refine xL 54 q_pick ?_ <;> refine xL 55 q_move ?_ <;> (refine yL 56 (q_ldao 9 tAgg24_PuX) fun v56 hv56 => ?_; cases hv56) <;> (refine yL 57 (q_ldao 12 tAgg24_PuX) fun v57 hv57 => ?_; cases hv57) <;> (refine cS 58 (cA Tryz.call15 (hS)) fun v58 hv58 => ?_; cases hv58) <;> refine xL 59 q_pick ?_ <;> refine xL 60 q_move ?_ <;> (refine yL 61 (q_ldao 10 tAgg33_PuX) fun v61 hv61 => ?_; cases hv61) <;> (refine yL 62 (q_ldao 13 tAgg33_PuX) fun v62 hv62 => ?_; cases hv62) <;> (refine xL 63 (q_eqS (us := [Value.int .i64 pa, .int .i64 pb]) (us' := [Value.int .i64 pa, .int .i64 pb]) uPos hPos gPos (eqPos_run pa pb pa pb) rfl rfl) ?_; rw [show (decide (pa = pa) && decide (pb = pb)) = true by simp]) <;> refine xL 64 q_pick ?_ <;> refine xL 65 q_move ?_ <;> refine xL 66 q_move ?_ <;> refine xL 67 q_move ?_ <;> refine xL 68 q_eqlT ?_ <;> refine xL 69 q_pick ?_ <;> refine xL 4 q_assign ?_ <;> refine aL_end (nav ?_) <;> try dsimp only) <;> (
         exact ret_shr (Tryz.results3) rfl rfl))))
def dvF (n : Nat) (c : UInt8) : Nat := 10 * n + (c.toNat - 48)
theorem dv_ge : ∀ (l : List UInt8) (a : Nat), a ≤ l.foldl dvF a
 | [], a => Nat.le_refl _
 | c :: l, a => Nat.le_trans (by unfold dvF; omega) (dv_ge l (dvF a c))
theorem dig_bd {c : UInt8} (h : isDB c = true) : 48 ≤ c.toNat ∧ c.toNat ≤ 57 := by
 unfold isDB at h
 simpa using h
theorem parse_dig : ∀ (l : List UInt8) (a : Nat), (∀ c ∈ l, isDB c = true) → a < 18446744073709551616 → Lib.parseUint10 a l = if l.foldl dvF a < 18446744073709551616 then .ok (l.foldl dvF a) else .range
 | [], a, _, h => by rw [Lib.parseUint10]; exact (if_pos h).symm
 | c :: l, a, hd, h => by
   have hc := dig_bd (hd c (List.mem_cons_self ..))
   have hge := dv_ge l (dvF a c)
   have e : dvF a c = a * 10 + (c.toNat - 48) := by unfold dvF; omega
   show Lib.parseUint10 a (c :: l) = if l.foldl dvF (dvF a c) < _ then .ok (l.foldl dvF (dvF a c)) else .range
   rw [Lib.parseUint10, if_pos hc]
   by_cases h1 : 1844674407370955162 ≤ a
   · rw [if_pos h1, if_neg (by omega)]
   · rw [if_neg h1]
     by_cases h2 : 18446744073709551616 ≤ a * 10 + (c.toNat - 48)
     · rw [if_pos h2, if_neg (by omega)]
     · rw [if_neg h2, ← e, parse_dig l (dvF a c) (fun d hd' => hd d (List.mem_cons_of_mem _ hd')) (by omega)]
theorem valD_dv (l : List UInt8) : valD l = l.foldl dvF 0 := rfl
theorem atoi_dig {l : List UInt8} (hne : l ≠ []) (hd : ∀ c ∈ l, isDB c = true) : Lib.atoiAll l = if valD l ≤ 9223372036854775807 then .ok (valD l : Int) else .range := by
 obtain ⟨c, r, rfl⟩ : ∃ c r, l = c :: r := by
  cases l with
  | nil => exact absurd rfl hne
  | cons c r => exact ⟨c, r, rfl⟩
 have hc := dig_bd (hd c (List.mem_cons_self ..))
 have hp := parse_dig (c :: r) 0 hd (by decide)
 rw [← valD_dv] at hp
 have hm : Lib.parseMag (c :: r) = if valD (c :: r) < 18446744073709551616 then .ok (valD (c :: r)) else .range := by
  unfold Lib.parseMag
  rw [if_neg (by simp), hp]
 have e1 : (if c.toNat = 43 ∨ c.toNat = 45 then r else c :: r) = c :: r := if_neg (by omega)
 unfold Lib.atoiAll
 dsimp only
 rw [e1, hm]
 generalize valD (c :: r) = v
 by_cases h1 : v < 18446744073709551616
 · rw [if_pos h1]
   dsimp only
   by_cases h2 : v ≤ 9223372036854775807
   · rw [if_pos h2, if_neg (by omega), if_neg (by omega), if_neg (by omega)]
   · rw [if_neg h2, if_pos (by omega)]
 · rw [if_neg h1, if_neg (by omega)]
theorem atoiC : AtoiC Tryz.prog 82 := fun d hne hd hl M w vs hM hlen hv => by
 obtain ⟨v0, rfl⟩ : ∃ v0, vs = [v0] := by
  match vs, hlen with
  | [v], _ => exact ⟨v, rfl⟩
 have h0 := hv 0 v0 _ rfl rfl
 have e0 : v0 = .string (bst d) := h0.vOf
 subst e0
 have hbd : (bst d).data.toList = d := by simp [bst]
 have hA := atoi_dig hne hd
 have hsz : (bst d).size = d.length := bst_size d
 by_cases h : valD d ≤ 9223372036854775807
 · rw [if_pos h] at hA
   refine (Tryz.strconv_Atoi_ok (bst d) (by omega) (valD d : Int) (by rw [hbd]; exact hA) w).mono fun e w' ⟨h1, h2⟩ => ?_
   subst h1
   have hE : Below w.heap.size w w' ∧ w.drawn ≤ w'.drawn := by
    rcases h2 with rfl | ⟨t, rfl⟩
    · exact ⟨Below.refl _ _, Nat.le_refl _⟩
    · exact ⟨Lib.bytesWorld_below _ _ _, Nat.le_succ _⟩
   exact ⟨_, .tup [pInt (valD d : Nat), atP2 none], fun _ => False, rfl, ⟨⟨((valD d : Nat), none), .inl ⟨rfl, rfl, h⟩⟩, rfl⟩, hE.1, .shr (.tup [_, _] [_, _] rfl fun i x r hx hr => by
    match i with
    | 0 => cases hx; cases hr; exact .val _
    | 1 => cases hx; cases hr; exact .val _
    | i + 2 => simp at hx) (fun _ h => h), fun _ h => h.elim, fun h => h.elim⟩
 · rw [if_neg h] at hA
   obtain ⟨⟨ev, ty, at', hb, hev⟩, _, _⟩ := hM.er (fun h => h) _ rfl
   refine (Tryz.strconv_Atoi_range (bst d) (by omega) (by rw [hbd]; exact hA) ev w (by unfold World.cell?; rw [hb]; rfl) hev).mono fun e w' ⟨n, h1, _, _, h4⟩ => ?_
   subst h1
   have key : ∀ (a : Int) (ty : Nat) (x : Value), RetAF ⟨w, M, fun _ => False, 0, False, []⟩ (fun p => ∃ i : {i : Int × Option (Nat × Value) // (i.2 = none ∧ i.1 = valD d ∧ valD d ≤ 9223372036854775807) ∨ (∃ x, i.2 = some x) ∧ 9223372036854775807 < valD d}, p = .tup [pInt i.1.1, atP2 i.1.2]) (.returned (.tuple #[.int .i64 a, .iface ty x])) w' := fun a ty x =>
    ⟨_, .tup [pInt a, atP2 (some (ty, x))], fun _ => False, rfl, ⟨⟨(a, some (ty, x)), .inr ⟨⟨_, rfl⟩, by omega⟩⟩, rfl⟩, h4, .shr (.tup [_, _] [_, _] rfl fun i y r hy hr => by
     match i with
     | 0 => cases hy; cases hr; exact .val _
     | 1 => cases hy; cases hr; exact .val _
     | i + 2 => simp at hy) (fun _ h => h), fun _ h => h.elim, fun h => h.elim⟩
   exact key _ _ _
theorem tAgg24_PuZ : AggT Tryz.prog 24 3 = true := by kernel_rfl
theorem tAgg33_PuZ : AggT Tryz.prog 33 2 = true := by kernel_rfl
theorem tEl22_PuZ : ElT Tryz.prog 22 24 3 48 (.agg #[(.int .i64 0), (.string ByteArray.empty), (.slice none 0 0)]) := ⟨Tryz.underlying22, by kernel_rfl, rfl, by decide⟩
theorem tSt33_PuZ : stInfo Tryz.prog 33 = some ((.agg #[(.int .i64 0), (.int .i64 0)]), ([0, 1] : List Nat).map fun o => (o, 1)) := by kernel_rfl
theorem tZr24_PuZ : ZeroT Tryz.prog 24 (.agg #[(.int .i64 0), (.string ByteArray.empty), (.slice none 0 0)]) := by unfold ZeroT; kernel_rfl
theorem tZr33_PuZ : ZeroT Tryz.prog 33 (.agg #[(.int .i64 0), (.int .i64 0)]) := by unfold ZeroT; kernel_rfl
theorem tex_facts (t : Nd) : ((texX t).2 = 0 ∧ valT t = true ∧ (textT t).length ≤ 16384 ∧ (texX t).1 = bst (textT t)) ∨ ((texX t).1 = ByteArray.empty ∧ ((texX t).2 = 5 ∨ (texX t).2 = 1 ∧ valT t = false)) := by
 unfold texX
 by_cases h : valT t = true
 · rw [if_pos h]
   by_cases h2 : 16384 < (textT t).length
   · rw [if_pos h2]; exact .inr ⟨rfl, .inl rfl⟩
   · rw [if_neg h2]; exact .inl ⟨rfl, h, by omega, rfl⟩
 · rw [if_neg h]; exact .inr ⟨rfl, .inr ⟨rfl, by simpa using h⟩⟩
theorem par_facts (l : List UInt8) : ((parB l).2.2 ≠ 0 ∧ (parB l).1 = nd0) ∨ ((parB l).2.2 = 0 ∧ (parB l).2.1 = (0, 0) ∧ valT (parB l).1 = true) := by
 unfold parB
 split
 · exact .inl ⟨by decide, rfl⟩
 · split
   · rename_i h; exact .inl ⟨h, rfl⟩
   · split
     · exact .inl ⟨by dsimp only; split <;> decide, rfl⟩
     · split
       · exact .inl ⟨by show (3 : Int) ≠ 0; decide, rfl⟩
       · split
         · rename_i h; exact .inr ⟨rfl, rfl, h⟩
         · exact .inl ⟨by decide, rfl⟩
set_option maxHeartbeats 4000000 in
theorem ptBack1_e (hA : AtoiC Tryz.prog 82) (t : Nd) (hf : FitT t) : AF Tryz.prog 18 [pTr t] (· = pBool true) := by
 have hU := tText_e t hf
 have hV := rtValid_e t hf
 have hS := rtSame_e t t hf hf
 rw [sameT_iff.2 rfl] at hS
 have hfa := tex_facts t
 obtain ⟨a, b, hab⟩ : ∃ a b, texX t = (a, b) := ⟨_, _, rfl⟩
 rw [hab] at hU hfa
 dsimp only at hU hfa
 have e0 : pTr t = .agg [pInt t.op, pStr t.act, pTrs t.l] := rfl
 rw [e0] at hU hV ⊢
 refine AF.of_body 48 Tryz.func18 rfl Tryz.ntmps18 (Nat.le_of_ble_eq_true rfl) ?_
 intro w0 M0 vs hl hv
 obtain ⟨v0, rfl⟩ := len1 hl
 clear hl hv
 refine nav ?_
 (refine aC_region ?_ <;> refine s_boxa 1 3 fun h1 => ?_ <;> refine xL 2 q_assign ?_ <;> refine aL_end (nav ?_) <;> try dsimp only)
 (refine aC_region ?_ <;> (refine yL 9 (q_ldao 1 tAgg24_PuZ) fun v9 hv9 => ?_; cases hv9) <;> (refine cP 10 (cA Tryz.call11 (hU)) fun va10 vb10 hva10 hvb10 => ?_; cases hva10; cases hvb10) <;> refine xL 8 q_move ?_ <;> refine xL 11 q_extract ?_ <;> refine xL 12 q_extract ?_ <;> refine xL 3 q_assign ?_ <;> refine xL 4 q_assign ?_ <;> refine aL_end (nav ?_) <;> try dsimp only)
 (refine aC_region ?_ <;> refine xL 13 q_move ?_ <;> refine xL 14 q_neq ?_ <;> refine aL_end (nav ?_) <;> try dsimp only)
 (first | refine cCd ?_ ?_ | refine cC ?_ ?_) <;> intro hb14
 · first
   | exact Bool.noConfusion hb14
   | (
    have h2 : a = ByteArray.empty ∧ (b = 5 ∨ b = 1 ∧ valT t = false) := by
     rcases hfa with h | h
     · exact absurd h.1 hb14
     · exact h
    obtain ⟨rfl, h3⟩ := h2
    refine nav ?_
    (refine aC_region ?_ <;> refine xL 15 q_move ?_ <;> refine xL 16 q_seqT ?_ <;> refine xL 17 q_move ?_ <;> refine xL 18 q_move ?_ <;> refine xL 19 q_eql ?_ <;> refine xL 20 q_move ?_ <;> (refine bLd 20 (fun hb20 => ?_) (fun hb20 => ?_) <;> (first | refine kL 21 ?_ | refine xL 21 q_move ?_)) <;> (first | refine kL 22 ?_ | refine xL 22 q_eql ?_) <;> (first | refine kL 23 ?_ | refine xL 23 q_move ?_) <;> (first | refine kL 24 ?_ | (refine bLd 23 (fun hb23 => ?_) (fun hb23 => ?_) <;> (first | refine kL 24 ?_ | (refine yL 24 (q_ldao 1 tAgg24_PuZ) fun v24 hv24 => ?_; cases hv24)))) <;> (first | refine kL 25 ?_ | (refine cS 25 (cA Tryz.call19 (hV)) fun v25 hv25 => ?_; cases hv25)) <;> (first | refine kL 26 ?_ | refine xL 26 q_not ?_) <;> (first | refine kL 27 ?_ | refine xL 27 q_pick ?_) <;> refine xL 28 q_pick ?_ <;> refine xL 29 q_pick ?_ <;> refine xL 2 q_assign ?_ <;> refine aL_end (nav ?_) <;> try dsimp only) <;> (
     refine ret_shr (Tryz.results18) rfl ?_
     first
      | rfl
      | (exfalso; omega)
      | (rcases h3 with h3 | ⟨_, h4⟩; exact absurd h3 hb20; rw [h4]; rfl)
      | (exfalso; rcases h3 with h3 | ⟨h4, _⟩; exact hb20 h3; exact hb23 h4)))
 · first
   | exact Bool.noConfusion hb14
   | (
    have h2 : b = 0 ∧ valT t = true ∧ (textT t).length ≤ 16384 ∧ a = bst (textT t) := by
     rcases hfa with h | h
     · exact h
     · exfalso; have := h.2; omega
    obtain ⟨rfl, hv, htl, rfl⟩ := h2
    have hP := tParse_e (textT t) (fun _ => hA) (by omega)
    rw [par_text hv htl] at hP
    have hP : AF Tryz.prog 13 [pB (textT t)] (· = .tup [pTr t, .agg [pInt 0, pInt 0], pInt 0]) := hP
    refine nav ?_
    (refine aC_region ?_ <;> refine xL 31 q_move ?_ <;> (refine cPx3 32 (cA (Tryz.call13) hP) (fun va32 vb32 vc32 hva32 hvb32 hvc32 => ?_); cases hvc32) <;> refine xL 30 q_move ?_ <;> refine xL 33 q_extract ?_ <;> refine xL 34 q_extract ?_ <;> refine xL 35 q_extract ?_ <;> refine s_alloc [(.int .i64 0), (.string ByteArray.empty), (.slice none 0 0)] 3 5 tZr24_PuZ fun h5 => ?_ <;> refine s_alloc [(.int .i64 0), (.int .i64 0)] 2 6 tZr33_PuZ fun h6 => ?_ <;> refine s_sta 5 tAgg24_PuZ ?_ <;> refine s_sta 6 tAgg33_PuZ ?_ <;> refine xL 7 q_assign ?_ <;> refine aL_end (nav ?_) <;> try dsimp only)
    (refine aC_region ?_ <;> refine xL 36 q_move ?_ <;> refine xL 37 q_eqlT ?_ <;> refine xL 38 q_move ?_ <;> (refine yL 39 (q_ldao 6 tAgg33_PuZ) fun v39 hv39 => ?_; cases hv39) <;> refine xL 40 (q_build tSt33_PuZ) ?_ <;> (refine xL 41 (q_eqS (us := [Value.int .i64 0, .int .i64 0]) (us' := [Value.int .i64 0, .int .i64 0]) uPos hPos gPos (eqPos_run 0 0 0 0) rfl rfl) ?_; rw [show (decide ((0 : Int) = 0) && decide ((0 : Int) = 0)) = true by decide]) <;> refine xL 42 q_pick ?_ <;> refine xL 43 q_move ?_ <;> (refine yL 44 (q_ldao 5 tAgg24_PuZ) fun v44 hv44 => ?_; cases hv44) <;> (refine yL 45 (q_ldao 1 tAgg24_PuZ) fun v45 hv45 => ?_; cases hv45) <;> (refine cS 46 (cA Tryz.call15 (hS)) fun v46 hv46 => ?_; cases hv46) <;> refine xL 47 q_pick ?_ <;> refine xL 2 q_assign ?_ <;> refine aL_end (nav ?_) <;> try dsimp only) <;> (
     exact ret_shr (Tryz.results18) rfl rfl))
set_option maxHeartbeats 4000000 in
theorem ptBackC_e (hA : AtoiC Tryz.prog 82) (t : Nd) (s : ByteArray) (hf : FitT t) (hs : s.size ≤ 140737488355328) : AF Tryz.prog 5 [pTr t, pStr s] (· = pBool true) := by
 obtain ⟨l, rfl⟩ : ∃ l, s = bst l := ⟨s.data.toList, (bst_eta s).symm⟩
 have hsz := bst_size l
 have hT := ptBack1_e hA t hf
 have e0 : pTr t = .agg [pInt t.op, pStr t.act, pTrs t.l] := rfl
 rw [e0] at hT ⊢
 refine AF.of_body 51 Tryz.func5 rfl Tryz.ntmps5 (Nat.le_of_ble_eq_true rfl) ?_
 intro w0 M0 vs hl hv
 obtain ⟨v0, v1, rfl⟩ := len2 hl
 obtain rfl := hv 1 _ _ rfl rfl
 clear hl hv
 refine nav ?_
 (refine aC_region ?_ <;> refine s_boxa 2 3 fun h2 => ?_ <;> refine xL 4 q_assign ?_ <;> refine aL_end (nav ?_) <;> try dsimp only)
 (refine aC_region ?_ <;> (refine cS 9 (cA Tryz.call9 (w19Awake_e)) fun v9 hv9 => ?_; cases hv9) <;> refine xL 10 q_not ?_ <;> refine aL_end (nav ?_) <;> try dsimp only)
 (first | refine cCd ?_ ?_ | refine cC ?_ ?_) <;> intro hb10
 · first
   | exact Bool.noConfusion hb10
   | (
    refine nav ?_
    (refine aC_region ?_ <;> refine xL 4 q_assign ?_ <;> refine aL_end (nav ?_) <;> try dsimp only)
    exfalso; simp at hb10)
 · first
   | exact Bool.noConfusion hb10
   | (
    refine nav ?_
    (refine aC_region ?_ <;> (refine yL 11 (q_ldao 2 tAgg24_PuZ) fun v11 hv11 => ?_; cases hv11) <;> (refine s_lita (kk := 3) (xs := [_]) (cs := [[_, _, _]]) 12 tEl22_PuZ fun h12 ho12 => ?_; refine aL_ent (En.freeze (l := 12) (t := 12) rfl rfl) fun _ => ?_; refine aL_ent (reslot (t := 12) (p' := pTrs [t]) rfl (one_trs t)) fun _ => ?_) <;> (refine cS 13 (cA Tryz.call10 (w19Great_e [t] (Nat.le_of_ble_eq_true rfl) (fun x hx => by rw [List.mem_singleton] at hx; subst hx; exact hf))) fun v13 hv13 => ?_; cases hv13) <;> refine xL 14 q_move ?_ <;> (refine bL 14 (fun hb14 => ?_) (fun hb14 => ?_) <;> (first | refine kL 15 ?_ | refine xL 15 q_move ?_)) <;> (first | refine kL 16 ?_ | refine xL 16 (q_slen Tryz.underlying9) ?_) <;> (first | refine kL 17 ?_ | refine xL 17 q_gtr ?_) <;> refine xL 18 q_pick ?_ <;> refine aL_end (nav ?_) <;> try dsimp only) <;> (
     (first | refine cCd ?_ ?_ | refine cC ?_ ?_) <;> intro hb18
     · first
       | exact Bool.noConfusion hb18
       | (
        refine nav ?_
        (refine aC_region ?_ <;> refine xL 4 q_assign ?_ <;> refine aL_end (nav ?_) <;> try dsimp only)
        exact ret_shr (Tryz.results5) rfl rfl)
     · first
       | exact Bool.noConfusion hb18
       | (
        have hl : l.length ≤ 2000 := by omega
        have hP := tParse_e l (fun _ => hA) (by omega)
        have hfp := par_fit l
        have hfa := par_facts l
        obtain ⟨r, hr⟩ : ∃ r, r = parB l := ⟨_, rfl⟩
        rw [← hr] at hP hfp hfa
        obtain ⟨x, ⟨pa, pb⟩, e⟩ := r
        have hP : AF Tryz.prog 13 [pB l] (· = .tup [pTr x, .agg [pInt pa, pInt pb], pInt e]) := hP
        dsimp only at hfp hfa
        have hX := ptBack1_e hA x hfp
        have hN := w19None_e x hfp
        have hV := rtValid_e x hfp
        refine nav ?_
        (refine aC_region ?_ <;> refine xL 5 q_assign ?_ <;> refine aL_end (nav ?_) <;> try dsimp only)
        (refine aC_region ?_ <;> refine xL 20 q_move ?_ <;> (refine cPx3 21 (cA (Tryz.call13) hP) (fun va21 vb21 vc21 hva21 hvb21 hvc21 => ?_); cases hvc21) <;> refine xL 19 q_move ?_ <;> refine xL 22 q_extract ?_ <;> refine xL 23 q_extract ?_ <;> refine xL 24 q_extract ?_ <;> refine s_alloc [(.int .i64 0), (.string ByteArray.empty), (.slice none 0 0)] 3 6 tZr24_PuZ fun h6 => ?_ <;> refine s_alloc [(.int .i64 0), (.int .i64 0)] 2 7 tZr33_PuZ fun h7 => ?_ <;> refine s_sta 6 tAgg24_PuZ ?_ <;> refine s_sta 7 tAgg33_PuZ ?_ <;> refine xL 8 q_assign ?_ <;> refine aL_end (nav ?_) <;> try dsimp only)
        (refine aC_region ?_ <;> refine xL 25 q_move ?_ <;> refine xL 26 q_neq ?_ <;> refine aL_end (nav ?_) <;> try dsimp only)
        (first | refine cCd ?_ ?_ | refine cC ?_ ?_) <;> intro hb26
        · first
          | exact Bool.noConfusion hb26
          | (
           have hx0 : x = nd0 := by
            rcases hfa with h | h
            · exact h.2
            · exact absurd h.1 hb26
           rw [sameT_iff.2 hx0] at hN
           refine nav ?_
           (refine aC_region ?_ <;> (refine yL 27 (q_ldao 6 tAgg24_PuZ) fun v27 hv27 => ?_; cases hv27) <;> (refine cS 28 (cA Tryz.call20 (hN)) fun v28 hv28 => ?_; cases hv28) <;> refine xL 29 q_move ?_ <;> refine xL 30 q_move ?_ <;> (refine yL 31 (q_ldao 2 tAgg24_PuZ) fun v31 hv31 => ?_; cases hv31) <;> (refine cS 32 (callF (f := 18) (ps := []) rfl ⟨_, rfl⟩ (Tryz.call18) rfl hT) fun v32 hv32 => ?_; cases hv32) <;> refine xL 33 q_pick ?_ <;> refine xL 4 q_assign ?_ <;> refine aL_end (nav ?_) <;> try dsimp only) <;> (
            exact ret_shr (Tryz.results5) rfl rfl))
        · first
          | exact Bool.noConfusion hb26
          | (
           have h2 : e = 0 ∧ (pa, pb) = (0, 0) ∧ valT x = true := by
            rcases hfa with h | h
            · exfalso; have := h.1; omega
            · exact h
           obtain ⟨rfl, hpp, hv⟩ := h2
           cases hpp
           rw [hv] at hV
           refine nav ?_
           (refine aC_region ?_ <;> (refine yL 34 (q_ldao 7 tAgg33_PuZ) fun v34 hv34 => ?_; cases hv34) <;> refine xL 35 (q_build tSt33_PuZ) ?_ <;> (refine xL 36 (q_eqS (us := [Value.int .i64 0, .int .i64 0]) (us' := [Value.int .i64 0, .int .i64 0]) uPos hPos gPos (eqPos_run 0 0 0 0) rfl rfl) ?_; rw [show (decide ((0 : Int) = 0) && decide ((0 : Int) = 0)) = true by decide]) <;> refine xL 37 q_move ?_ <;> (refine yL 38 (q_ldao 6 tAgg24_PuZ) fun v38 hv38 => ?_; cases hv38) <;> (refine cS 39 (cA Tryz.call19 (hV)) fun v39 hv39 => ?_; cases hv39) <;> refine xL 40 q_pick ?_ <;> refine xL 41 q_move ?_ <;> refine xL 42 q_move ?_ <;> (refine yL 43 (q_ldao 6 tAgg24_PuZ) fun v43 hv43 => ?_; cases hv43) <;> (refine cS 44 (callF (f := 18) (ps := []) rfl ⟨_, rfl⟩ (Tryz.call18) rfl hX) fun v44 hv44 => ?_; cases hv44) <;> refine xL 45 q_pick ?_ <;> refine xL 46 q_move ?_ <;> refine xL 47 q_move ?_ <;> (refine yL 48 (q_ldao 2 tAgg24_PuZ) fun v48 hv48 => ?_; cases hv48) <;> (refine cS 49 (callF (f := 18) (ps := []) rfl ⟨_, rfl⟩ (Tryz.call18) rfl hT) fun v49 hv49 => ?_; cases hv49) <;> refine xL 50 q_pick ?_ <;> refine xL 4 q_assign ?_ <;> refine aL_end (nav ?_) <;> try dsimp only) <;> (
            exact ret_shr (Tryz.results5) rfl rfl)))))
end Go.Proofs.YtbfilfhgcihhoaaGreatDoor
