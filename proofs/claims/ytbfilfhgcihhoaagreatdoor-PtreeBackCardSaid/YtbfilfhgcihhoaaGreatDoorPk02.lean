/-
  The engine, thirteenth part: a region that draws its order. No program in sight.
  The engine, fourteenth part: labels renamed; nil in cells; make of structs. No program in sight.
  The engine's rules in short forms. No program in sight.
  The engine: rows of owned rows as a family; nil checks; pointers that are shared from now on; three writers at once. No program in sight.
  The engine: results that lie in cells. No program in sight.
  Walks: names, alphabets; searching lists of strings (package name, the reference's layer 2, package slices).
  Owned slices, more: a middle part, a store, make. No program in sight.
  Maps from strings to numbers, read as functions. No program in sight.
  Plain functions, more: the parts of a cut as a map. No program in sight.
  Plain laws: words in order; variants counted by first occurrence, then sorted, are those added in order. No program in sight.
  Plain: process trees: their order, valid ones, normal forms. No program in sight.
  Walks: slices.IndexFunc, slices.ContainsFunc, at the element types of the program.
  Walks: lists of variants: which are valid, which are the same; what is small enough for the laws of the cut chapter.
  Walks: process trees: which nodes are right, how many there are, which trees are valid, in the program and in the reference.
  The engine, fifteenth part: a row is sorted by the library. No program in sight.
  The engine: a row is cut short; new rows of zeros by append. No program in sight.
  The engine: a row of numbers is sorted by the library. No program in sight.
  The engine: rows are sorted by the library, compared by functions that were walked. No program in sight.
  The engine: ranging over a map that is read. No program in sight.
-/
import Derived.KernelRfl
import Derived.Test.YtbfilfhgcihhoaaGreatDoorProg
import Derived.Maps.Own
import Derived.Maps.OwnOps
import Derived.Maps.OwnSet
import Derived.StringKeys
import Derived.Shelf.SlSortCmp.InsertionK
import Derived.Shelf.SlSortCmp.Kit1
import Derived.Maps.RangeRun
import Derived.Test.YtbfilfhgcihhoaaGreatDoorPk01
namespace Go.En
open Go.RowKit Go.Cb
set_option linter.all false
section
variable {P : Program} {ops : Array Oper} {Q : Exit → Act → World → Prop} {md : Region.Mode} {C : World → Prop} {Z : Nat → Bool}
def wpAnyS (P : Program) (md : Region.Mode) (ops : Array Oper) (Q : Exit → Act → World → Prop) (C : World → Prop) (Z : Nat → Bool) : Nat → Array Bool → Act → World → Prop
 | 0, listed, a, w => Region.ready md ops listed = [] ∧ Q .normal a w
 | fuel + 1, listed, a, w =>
   (Region.ready md ops listed = [] → Q .normal a w) ∧
   ∀ i ∈ Region.ready md ops listed, wpOp P ops (onlyN Q) i (fun a' w' => (Z i = true ∨ C w') ∧ wpAnyS P md ops Q C Z fuel (listed.setIfInBounds i true) a' w') a w
theorem wpAny_of_S : ∀ (fuel : Nat) (listed : Array Bool) (a : Act) (w : World), wpAnyS P md ops Q C Z fuel listed a w → wpAny P md ops Q fuel listed a w
 | 0, _, _, _, h => h
 | fuel + 1, _, _, _, h => ⟨h.1, fun i hi => wpOp_onlyN (wpOp_mono (fun a' w' h' => wpAny_of_S fuel _ a' w' h'.2) (h.2 i hi))⟩
def zWaits (md : Region.Mode) (ops : Array Oper) (Z : Nat → Bool) (i : Nat) : Bool := (List.range ops.size).all fun z => !Z z || waitsFor md ops z i
theorem wpAnyS_first {i : Nat} {oi : Oper} {v : Value} (hi : ops[i]? = some oi) (hz : zWaits md ops Z i = true)
 (hsel : ∀ (j : Nat) (o : Oper) cs b, ops[j]? = some o → o.op ≠ .select cs b) :
 ∀ (fuel : Nat) (listed : Array Bool) (a : Act) (w : World),
  (∀ j oj, ops[j]? = some oj → j ≠ i → listed.getD j true = false → (∀ e ∈ oj.after, Region.binds md e = true → e.on ≠ i) → oi.apart ops oj = true) →
  i ∈ Region.ready md ops listed → YieldsC P ops C oi v a → C w →
  wpAnyS P md ops Q C Z fuel (listed.setIfInBounds i true) (a.put oi.dst v) w → wpAnyS P md ops Q C Z (fuel + 1) listed a w := by
 intro fuel
 induction fuel with
 | zero =>
   intro listed a w _ hr hy hC H
   refine ⟨fun h => (by rw [h] at hr; cases hr), fun j hj => ?_⟩
   by_cases hji : j = i
   · subst hji; exact YieldsIf.wpOp hi hy.ifS hC ⟨.inr hC, H⟩
   · have := ready_mono hj hji
     rw [H.1] at this
     cases this
 | succ fuel ih =>
   intro listed a w hfree hr hy hC H
   refine ⟨fun h => (by rw [h] at hr; cases hr), fun j hj => ?_⟩
   by_cases hji : j = i
   · subst hji; exact YieldsIf.wpOp hi hy.ifS hC ⟨.inr hC, H⟩
   · have h1 := H.2 j (ready_mono hj hji)
     obtain ⟨hjun, oj, hoj, hall⟩ := mem_ready.1 hj
     have hnot : ∀ e ∈ oj.after, Region.binds md e = true → e.on ≠ i := fun e he hb heq => by
      have h1 := hall e he hb
      have h0 := (mem_ready.1 hr).1
      rw [heq] at h1
      rcases Nat.lt_or_ge i listed.size with h' | h'
      · simp [h'] at h0 h1; rw [h0] at h1; cases h1
      · simp [Array.getElem?_eq_none h'] at h1
     have hjz : Z j = false := by
      cases hZ : Z j
      · rfl
      · exfalso
        have hjs : j < ops.size := by
         rcases Nat.lt_or_ge j ops.size with h' | h'
         · exact h'
         · rw [Array.getElem?_eq_none h'] at hoj; cases hoj
        have := List.all_eq_true.1 hz j (List.mem_range.2 hjs)
        rw [hZ] at this
        simp only [Bool.not_true, Bool.false_or] at this
        unfold waitsFor at this
        rw [hoj] at this
        obtain ⟨e, he, hb⟩ := Array.any_eq_true'.1 this
        simp only [Bool.and_eq_true, beq_iff_eq] at hb
        exact hnot e he hb.1 hb.2
     have h2 := wpOp_putIf hoj (hfree j oj hoj hji hjun hnot) (fun cs b => hsel i oi cs b hi) (fun cs b => hsel j oj cs b hoj) (fun c a w h => h) hy.ifS h1
     have hfree' : ∀ k ok, ops[k]? = some ok → k ≠ i → (listed.setIfInBounds j true).getD k true = false →
      (∀ e ∈ ok.after, Region.binds md e = true → e.on ≠ i) → oi.apart ops ok = true := fun k ok hk hki hun hno => by
      refine hfree k ok hk hki ?_ hno
      by_cases hjk : j = k
      · subst hjk; exact hjun
      · rw [getD_set_ne true hjk] at hun; exact hun
     refine wpOp_mono (fun a' w' h3 => ?_) h2
     obtain ⟨hy', hor, hK⟩ := h3
     have hC' : C w' := by
      rcases hor with h | h
      · rw [hjz] at h; cases h
      · exact h
     refine ⟨.inr hC', ih (listed.setIfInBounds j true) a' w' hfree' (ready_mono hr (Ne.symm hji)) hy' hC' ?_⟩
     rw [Array.setIfInBounds_comm _ _ hji]
     exact hK
end
def onlyK (K : List Nat) : List (Nat × Ent) → List (Nat × Ent)
 | [] => []
 | (k, x) :: l => cond (K.elem k) ((k, x) :: onlyK K l) (onlyK K l)
def minusK (K : List Nat) : List (Nat × Ent) → List (Nat × Ent)
 | [] => []
 | (k, x) :: l => cond (K.elem k) (minusK K l) ((k, x) :: minusK K l)
theorem lk_onlyK {K : List Nat} {t : Nat} : ∀ {l : List (Nat × Ent)} {x : Ent}, lk (onlyK K l) t = some x ↔ K.elem t = true ∧ lk l t = some x
 | [], x => by simp [onlyK, lk]
 | (k, y) :: l, x => by
   unfold onlyK
   cases hk : K.elem k
   · simp only [cond_false, lk]
     rw [lk_onlyK]
     cases hb : Nat.beq k t
     · simp
     · have : k = t := Nat.eq_of_beq_eq_true hb
       subst this
       rw [hk]; simp
   · simp only [cond_true, lk]
     cases hb : Nat.beq k t
     · simp only [cond_false]; exact lk_onlyK
     · have : k = t := Nat.eq_of_beq_eq_true hb
       subst this
       rw [hk]; simp
theorem lk_minusK {K : List Nat} {t : Nat} : ∀ {l : List (Nat × Ent)} {x : Ent}, lk (minusK K l) t = some x ↔ K.elem t = false ∧ lk l t = some x
 | [], x => by simp [minusK, lk]
 | (k, y) :: l, x => by
   unfold minusK
   cases hk : K.elem k
   · simp only [cond_false, lk]
     cases hb : Nat.beq k t
     · simp only [cond_false]; exact lk_minusK
     · have : k = t := Nat.eq_of_beq_eq_true hb
       subst this
       rw [hk]; simp
   · simp only [cond_true, lk]
     rw [lk_minusK]
     cases hb : Nat.beq k t
     · simp
     · have : k = t := Nat.eq_of_beq_eq_true hb
       subst this
       rw [hk]; simp
theorem lk_append {l m : List (Nat × Ent)} {t : Nat} : lk (l ++ m) t = match lk l t with | some x => some x | none => lk m t := by
 induction l with
 | nil => rfl
 | cons y l ih =>
   obtain ⟨k, y⟩ := y
   simp only [List.cons_append, lk]
   cases Nat.beq k t
   · simp only [cond_false]; exact ih
   · rfl
def nK (K : List Nat) (h : List (Nat × Ent)) (F : Nat → BS) : BS := fun b => ∃ l x, K.elem l = false ∧ lk h l = some x ∧ F l b
def aD (P : Program) (c : Ctx) (ops : Array Oper) (Q : Exit → Act → World → Prop) (Z : Nat → Bool) (K : List Nat) (fuel : Nat) (listed : Array Bool) (st : St) : Prop :=
 ∀ a w F, HoldsF c st F a w → ∀ C : World → Prop, (∀ W, Chg (nK K st.heap F) w W → C W) → wpAnyS P .any ops Q C Z fuel listed a w
section
variable {P : Program} {c : Ctx} {ops : Array Oper} {Q : Exit → Act → World → Prop} {Z : Nat → Bool} {K : List Nat} {fuel : Nat} {listed : Array Bool} {sL hP : List (Nat × Ent)} {o : Oper}
theorem wpAnyS_class {C C' : World → Prop} (h : ∀ w, C' w → C w) : ∀ (fuel : Nat) (listed : Array Bool) (a : Act) (w : World), wpAnyS P .any ops Q C' Z fuel listed a w → wpAnyS P .any ops Q C Z fuel listed a w
 | 0, _, _, _, H => H
 | fuel + 1, _, _, _, H => ⟨H.1, fun i hi => wpOp_mono (fun a' w' h' => ⟨h'.1.imp id (h w'), wpAnyS_class h fuel _ a' w' h'.2⟩) (H.2 i hi)⟩
theorem aC_draw {id : Nat} {l : List Oper} (Z : Nat → Bool) (K : List Nat) (hm : P.follows .mixedOrders = true) (h : aD P c l.toArray Q Z K l.length (Array.replicate l.length false) (⟨sL, hP⟩ : St)) : aC P c (.region id l.toArray true) Q (⟨sL, hP⟩ : St) := fun a w ⟨F, H⟩ => by
 refine wp_region_any hm (wpAny_of_S (C := fun _ => True) (Z := Z) _ _ _ _ ?_)
 have := h a w.drew F (H.up (Ext.drew w)) (fun _ => True) (fun _ _ => trivial)
 simpa using this
theorem aD_end (hr : Region.ready .any ops listed = []) (h : aN c Q (⟨sL, hP⟩ : St)) : aD P c ops Q Z K fuel listed (⟨sL, hP⟩ : St) := fun a w F H C hC => by
 cases fuel with
 | zero => exact ⟨hr, h a w ⟨F, H⟩⟩
 | succ n => exact ⟨fun _ => h a w ⟨F, H⟩, fun i hi => by rw [hr] at hi; cases hi⟩
theorem HoldsF.rdK {F : Nat → BS} {a : Act} {w : World} (H : HoldsF c (⟨sL, hP⟩ : St) F a w) (K : List Nat) : RdF (mof c hP F) ⟨sL, onlyK K hP⟩ F a w := ⟨fun l v p h => H.tr l v p (lk_onlyK.1 h).2, H.sl⟩
theorem aD_y {V : Value → Prop} {p : PV} (i d : Nat) (ho : ops[i]? = some o) (hck : (Region.noSelect ops && (Region.ready .any ops listed).contains i && Region.free .any ops listed i && zWaits .any ops Z i) = true) (hw : wants ops sL o = some true) (hd : o.dst = some d) (hn : d < c.nt) (hy : YE P ⟨sL, onlyK K hP⟩ o V p)
 (k : ∀ v, V v → aD P c ops Q Z K fuel (listed.setIfInBounds i true) ⟨put d (v, p) sL, hP⟩) : aD P c ops Q Z K (fuel + 1) listed (⟨sL, hP⟩ : St) := fun a w F H C hC => by
 simp only [Bool.and_eq_true] at hck
 obtain ⟨⟨⟨hs, hr⟩, hf⟩, hz⟩ := hck
 obtain ⟨v, hV, hS, hrun⟩ := hy _ F a w (H.rdK K)
 refine wpAnyS_class hC _ _ _ _ ?_
 refine wpAnyS_first ho hz (Region.noSelect_spec hs) _ listed a w (Region.free_spec ho hf) (by simpa using hr) (v := v) (.inl ⟨wanted_of H.rd hw, fun W hW => ?_⟩) (Chg.rfl' _ _) ?_
 · exact hrun _ W hW (fun b ⟨l, x, _, h1, h2⟩ => .inr ⟨l, x, h1, h2⟩) (fun l x b hl hFb ⟨l', x', h1, h2, h3⟩ => by
    obtain ⟨h4, h5⟩ := lk_onlyK.1 hl
    exact H.dj l l' _ _ b (fun e => by rw [e, h1] at h4; cases h4) h5 h2 hFb h3)
 · rw [hd]
   exact k v hV _ w F (H.put hn hS) _ (fun W h => h)
theorem aD_x {v : Value} {p : PV} (i d : Nat) (ho : ops[i]? = some o) (hck : (Region.noSelect ops && (Region.ready .any ops listed).contains i && Region.free .any ops listed i && zWaits .any ops Z i) = true) (hw : wants ops sL o = some true) (hd : o.dst = some d) (hn : d < c.nt) (hy : YE P ⟨sL, onlyK K hP⟩ o (· = v) p)
 (k : aD P c ops Q Z K fuel (listed.setIfInBounds i true) ⟨put d (v, p) sL, hP⟩) : aD P c ops Q Z K (fuel + 1) listed (⟨sL, hP⟩ : St) := aD_y i d ho hck hw hd hn hy fun u hu => by cases hu; exact k
theorem aD_y1 {V : Value → Prop} {p : PV} (i d : Nat) (ho : ops[i]? = some o) (hr : Region.ready .any ops listed = [i]) (hw : wants ops sL o = some true) (hd : o.dst = some d) (hn : d < c.nt) (hy : YE P (⟨sL, hP⟩ : St) o V p)
 (k : ∀ v, V v → aD P c ops Q Z K fuel (listed.setIfInBounds i true) ⟨put d (v, p) sL, hP⟩) : aD P c ops Q Z K (fuel + 1) listed (⟨sL, hP⟩ : St) := fun a w F H C hC => by
 obtain ⟨v, hV, hS, hrun⟩ := hy _ F a w H.rd
 have h1 : YieldsC P ops (fun W => W = w) o v a := .inl ⟨wanted_of H.rd hw, fun W hW => by
  subst hW
  exact hrun (fun _ => False) W (Chg.rfl' _ _) (fun _ h => h.elim) (fun _ _ _ _ _ h => h)⟩
 refine ⟨fun hn => (by rw [hr] at hn; cases hn), fun j hj => ?_⟩
 rw [hr] at hj
 obtain rfl : j = i := by simpa using hj
 refine YieldsIf.wpOp ho h1.ifS rfl ⟨.inr (hC w (Chg.rfl' _ _)), ?_⟩
 rw [hd]
 exact k v hV _ w F (H.put hn hS) C hC
theorem aD_x1 {v : Value} {p : PV} (i d : Nat) (ho : ops[i]? = some o) (hr : Region.ready .any ops listed = [i]) (hw : wants ops sL o = some true) (hd : o.dst = some d) (hn : d < c.nt) (hy : YE P (⟨sL, hP⟩ : St) o (· = v) p)
 (k : aD P c ops Q Z K fuel (listed.setIfInBounds i true) ⟨put d (v, p) sL, hP⟩) : aD P c ops Q Z K (fuel + 1) listed (⟨sL, hP⟩ : St) := aD_y1 i d ho hr hw hd hn hy fun u hu => by cases hu; exact k
theorem aD_skip (i d : Nat) (ho : ops[i]? = some o) (hck : (Region.noSelect ops && (Region.ready .any ops listed).contains i && Region.free .any ops listed i && zWaits .any ops Z i) = true) (hw : wants ops sL o = some false) (hd : o.dst = some d) (hn : d < c.nt)
 (k : aD P c ops Q Z K fuel (listed.setIfInBounds i true) ⟨put d (undef, .val undef) sL, hP⟩) : aD P c ops Q Z K (fuel + 1) listed (⟨sL, hP⟩ : St) := fun a w F H C hC => by
 simp only [Bool.and_eq_true] at hck
 obtain ⟨⟨⟨hs, hr⟩, hf⟩, hz⟩ := hck
 refine wpAnyS_class hC _ _ _ _ ?_
 refine wpAnyS_first ho hz (Region.noSelect_spec hs) _ listed a w (Region.free_spec ho hf) (by simpa using hr) (v := undef) (.inr ⟨wanted_of H.rd hw, rfl⟩) (Chg.rfl' _ _) ?_
 rw [hd]
 exact k _ w F (H.put hn (.val _)) _ (fun W h => h)
theorem aD_bcase (t : Nat) {b : Bool} {q : PV} (hx : lk sL t = some (.bool b, q)) (ht : b = true → aD P c ops Q Z K fuel listed ⟨put t (.bool true, .val (.bool true)) sL, hP⟩) (hf : b = false → aD P c ops Q Z K fuel listed ⟨put t (.bool false, .val (.bool false)) sL, hP⟩) : aD P c ops Q Z K fuel listed (⟨sL, hP⟩ : St) := fun a w F H C hC => by
 have key : HoldsF c ⟨put t (.bool b, .val (.bool b)) sL, hP⟩ F a w := ⟨H.toHeapF, fun s u r hs => by
  rcases lk_put hs with ⟨rfl, e⟩ | ⟨_, e⟩
  · cases e; exact ⟨(H.sl _ _ _ hx).1, .val _⟩
  · exact H.sl s u r e, H.size, H.df⟩
 cases b
 · exact hf rfl a w F key C hC
 · exact ht rfl a w F key C hC
theorem HoldsF.frame {F : Nat → BS} {a : Act} {w : World} (H : HoldsF c (⟨sL, hP⟩ : St) F a w) (K : List Nat) :
 HoldsF ⟨w, fun b => c.M0 b ∨ ∃ l x, K.elem l = true ∧ lk hP l = some x ∧ F l b, nK K hP F, c.nt, c.dr, c.df⟩ ⟨sL, minusK K hP⟩ F a w := by
 have hm : ∀ b, mof ⟨w, fun b => c.M0 b ∨ ∃ l x, K.elem l = true ∧ lk hP l = some x ∧ F l b, nK K hP F, c.nt, c.dr, c.df⟩ (minusK K hP) F b → mof c hP F b := by
  rintro b ((h | ⟨l, x, _, h1, h2⟩) | ⟨l, x, h1, h2⟩)
  · exact .inl h
  · exact .inr ⟨l, x, h1, h2⟩
  · exact .inr ⟨l, x, (lk_minusK.1 h1).2, h2⟩
 refine ⟨⟨fun l v p h => (H.tr l v p (lk_minusK.1 h).2).anti fun b _ => hm b, fun l x b h hb => .inr ⟨l, x, (lk_minusK.1 h).1, (lk_minusK.1 h).2, hb⟩, fun l l' x x' b hne h h' => H.dj l l' x x' b hne (lk_minusK.1 h).2 (lk_minusK.1 h').2, ?_, Chg.rfl' _ _, fun _ => Nat.le_refl _⟩, fun t v p h => ⟨(H.sl t v p h).1, (H.sl t v p h).2.anti fun b _ => hm b⟩, H.size, H.df⟩
 refine ⟨?_, fun hn g hg => ?_, fun hn g hg => ?_⟩
 rotate_left
 · obtain ⟨h1, h2, _⟩ := H.mok.tb hn g hg
   refine ⟨h1, ?_, ?_⟩
   · rintro (h | ⟨l, x, _, h3, h4⟩)
     · exact h2 (.inl h)
     · exact h2 (.inr ⟨l, x, h3, h4⟩)
   · rintro ⟨l, x, _, h3, h4⟩
     exact h2 (.inr ⟨l, x, h3, h4⟩)
 · obtain ⟨h1, h2, _⟩ := H.mok.er hn g hg
   refine ⟨h1, ?_, ?_⟩
   · rintro (h | ⟨l, x, _, h3, h4⟩)
     · exact h2 (.inl h)
     · exact h2 (.inr ⟨l, x, h3, h4⟩)
   · rintro ⟨l, x, _, h3, h4⟩
     exact h2 (.inr ⟨l, x, h3, h4⟩)
 rintro b (h | ⟨l, x, hK, h1, h2⟩)
 · exact ⟨Nat.lt_of_lt_of_le (H.m0.m b h).1 H.ext.size, fun ⟨l, x, _, h1, h2⟩ => H.apart h h1 h2⟩
 · exact ⟨(H.tr l _ _ h1).lt b h2, fun ⟨l', x', hK', h3, h4⟩ => H.dj l l' _ _ b (fun e => by rw [e, hK'] at hK; cases hK) h1 h3 h2 h4⟩
theorem HoldsF.unframe {F F' : Nat → BS} {a a' : Act} {w w' : World} {st' : St} (H : HoldsF c (⟨sL, hP⟩ : St) F a w)
 (H' : HoldsF ⟨w, fun b => c.M0 b ∨ ∃ l x, K.elem l = true ∧ lk hP l = some x ∧ F l b, nK K hP F, c.nt, c.dr, c.df⟩ st' F' a' w') :
 HoldsF c ⟨st'.slots, st'.heap ++ onlyK K hP⟩ (fun l => match lk st'.heap l with | some _ => F' l | none => F l) a' w' ∧ Chg (nK K hP F) w w' ∧
  (∀ b, nK K (st'.heap ++ onlyK K hP) (fun l => match lk st'.heap l with | some _ => F' l | none => F l) b → nK K hP F b ∨ w.heap.size ≤ b) := by
 have hlook : ∀ l x, lk (st'.heap ++ onlyK K hP) l = some x → (lk st'.heap l = some x) ∨ (lk st'.heap l = none ∧ K.elem l = true ∧ lk hP l = some x) := fun l x h => by
  rw [lk_append] at h
  cases h1 : lk st'.heap l with
  | some y => rw [h1] at h; cases h; exact .inl rfl
  | none => rw [h1] at h; exact .inr ⟨rfl, lk_onlyK.1 h⟩
 have hmm : ∀ b, mof c (st'.heap ++ onlyK K hP) (fun l => match lk st'.heap l with | some _ => F' l | none => F l) b → mof ⟨w, fun b => c.M0 b ∨ ∃ l x, K.elem l = true ∧ lk hP l = some x ∧ F l b, nK K hP F, c.nt, c.dr, c.df⟩ st'.heap F' b := by
  rintro b (h | ⟨l, x, h1, h2⟩)
  · exact .inl (.inl h)
  · rcases hlook l x h1 with h3 | ⟨h3, h4, h5⟩
    · simp only [h3] at h2; exact .inr ⟨l, x, h3, h2⟩
    · simp only [h3] at h2; exact .inl (.inr ⟨l, x, h4, h5, h2⟩)
 have hch : Chg (nK K hP F) w w' := H'.ext
 have hKN : ∀ l x b, K.elem l = true → lk hP l = some x → F l b → ¬ nK K hP F b := fun l x b hK hl hb ⟨l', x', hK', h3, h4⟩ => H.dj l l' _ _ b (fun e => by rw [e, hK'] at hK; cases hK) hl h3 hb h4
 have hapart : ∀ l x l' x' b, K.elem l = true → lk hP l = some x → F l b → lk st'.heap l' = some x' → ¬ F' l' b := fun l x l' x' b hK hl hb hl' hb' => by
  exact H'.apart (.inr ⟨l, x, hK, hl, hb⟩) hl' hb'
 refine ⟨⟨⟨fun l v p h => ?_, fun l x b h hb => ?_, fun l l' x x' b hne h h' hb hb' => ?_, H.m0, ?_, fun h => Nat.le_trans (H.dw h) (H'.dw h)⟩, fun t v p h => ⟨(H'.sl t v p h).1, (H'.sl t v p h).2.anti fun b _ => hmm b⟩, H'.size, H'.df⟩, hch, ?_⟩
 · rcases hlook l _ h with h1 | ⟨h1, h2, h3⟩
   · simp only [h1]; exact (H'.tr l v p h1).anti fun b _ => hmm b
   · simp only [h1]
     refine (H.tr l v p h3).to hch (fun b hlt hb => ?_) (fun b _ ⟨l', x', _, h4, h5⟩ => .inr ⟨l', x', h4, h5⟩) (fun b hb => hKN l _ b h2 h3 hb)
     rcases hmm b hb with (h | ⟨l', x', _, h4, h5⟩) | ⟨l', x', h4, h5⟩
     · exact .inl h
     · exact .inr ⟨l', x', h4, h5⟩
     · rcases H'.lo l' x' b h4 h5 with h6 | ⟨l2, x2, _, h7, h8⟩
       · exact absurd hlt (by simp only at h6; omega)
       · exact .inr ⟨l2, x2, h7, h8⟩
 · rcases hlook l _ h with h1 | ⟨h1, h2, h3⟩
   · simp only [h1] at hb
     rcases H'.lo l x b h1 hb with h4 | ⟨l2, x2, _, h7, h8⟩
     · exact .inl (Nat.le_trans H.ext.size h4)
     · exact H.lo l2 x2 b h7 h8
   · simp only [h1] at hb
     exact H.lo l x b h3 hb
 · rcases hlook l _ h with h1 | ⟨h1, h2, h3⟩
   · rcases hlook l' _ h' with k1 | ⟨k1, k2, k3⟩
     · simp only [h1] at hb; simp only [k1] at hb'; exact H'.dj l l' x x' b hne h1 k1 hb hb'
     · simp only [h1] at hb; simp only [k1] at hb'; exact hapart l' _ l _ b k2 k3 hb' h1 hb
   · rcases hlook l' _ h' with k1 | ⟨k1, k2, k3⟩
     · simp only [h1] at hb; simp only [k1] at hb'; exact hapart l _ l' _ b h2 h3 hb k1 hb'
     · simp only [h1] at hb; simp only [k1] at hb'; exact H.dj l l' x x' b hne h3 k3 hb hb'
 · exact H.ext.tr hch fun b ⟨l, x, _, h1, h2⟩ => (H.lo l x b h1 h2).symm
 · rintro b ⟨l, x, hK, h1, h2⟩
   rcases hlook l _ h1 with h3 | ⟨h3, h4, h5⟩
   · simp only [h3] at h2
     rcases H'.lo l x b h3 h2 with h4 | h4
     · exact .inr h4
     · exact .inl h4
   · rw [hK] at h4; cases h4
def aW (P : Program) (c : Ctx) (ops : Array Oper) (Q : Exit → Act → World → Prop) (Z : Nat → Bool) (K : List Nat) (fuel : Nat) (listed : Array Bool) (st : St) (i : Nat) : Prop :=
 ∀ a w F, HoldsF c st F a w → ∀ C : World → Prop, (∀ W, Chg (nK K st.heap F) w W → C W) → wpOp P ops (onlyN Q) i (fun a' w' => (Z i = true ∨ C w') ∧ wpAnyS P .any ops Q C Z fuel (listed.setIfInBounds i true) a' w') a w
theorem aD_one (i : Nat) (hr : Region.ready .any ops listed = [i]) (h : aW P c ops Q Z K fuel listed (⟨sL, hP⟩ : St) i) : aD P c ops Q Z K (fuel + 1) listed (⟨sL, hP⟩ : St) := fun a w F H C hC =>
 ⟨(fun hn => by rw [hr] at hn; cases hn), fun j hj => by
   rw [hr] at hj
   obtain rfl : j = i := by simpa using hj
   exact h a w F H C hC⟩
theorem aD_two (i j : Nat) (hr : Region.ready .any ops listed = [i, j]) (h : aW P c ops Q Z K fuel listed (⟨sL, hP⟩ : St) i) (h' : aW P c ops Q Z K fuel listed (⟨sL, hP⟩ : St) j) : aD P c ops Q Z K (fuel + 1) listed (⟨sL, hP⟩ : St) := fun a w F H C hC =>
 ⟨(fun hn => by rw [hr] at hn; cases hn), fun m hm => by
   rw [hr] at hm
   rcases (by simpa using hm : m = i ∨ m = j) with rfl | rfl
   · exact h a w F H C hC
   · exact h' a w F H C hC⟩
theorem aW_run {i : Nat} (ho : ops[i]? = some o)
 (h : ∀ (w' : World) (M' N' : BS) (DQ : Exit → Act → World → Prop), (∀ st' : St, aD P c ops Q Z K fuel (listed.setIfInBounds i true) ⟨st'.slots, st'.heap ++ onlyK K hP⟩ → aN ⟨w', M', N', c.nt, c.dr, c.df⟩ DQ st') → aL P ⟨w', M', N', c.nt, c.dr, c.df⟩ ops DQ [o] ⟨sL, minusK K hP⟩) : aW P c ops Q Z K fuel listed (⟨sL, hP⟩ : St) i := fun a w F H C hC => by
 refine wpOp_of_list (Q' := fun _ a' w' => (Z i = true ∨ C w') ∧ wpAnyS P .any ops Q C Z fuel (listed.setIfInBounds i true) a' w') ho (fun a' w' hq => hq) ?_
 refine h w _ _ _ (fun st' hD a' w' ⟨F', H'⟩ => ?_) a w ⟨F, H.frame K⟩
 obtain ⟨H2, hch, hnk⟩ := H.unframe H'
 refine ⟨.inr (hC w' hch), hD a' w' _ H2 C fun W hW => hC W (hch.tr hW hnk)⟩
end
section
variable {P : Program} {c : Ctx} {ops : Array Oper} {Q : Exit → Act → World → Prop} {rest : List Oper} {sL hP : List (Nat × Ent)} {o : Oper}
theorem relabel {l : Nat} {x : Ent} (l' : Nat) (hl : lk hP l = some x) (hl' : lk (del l hP) l' = none) : EntE (⟨sL, hP⟩ : St) (fun _ : Unit => ⟨sL, put l' x (del l hP)⟩) := fun c a w ⟨F, H⟩ => by
 refine ⟨(), fun t => if t = l' then F l else F t, ?_⟩
 obtain ⟨v, p⟩ := x
 have aux : ∀ t y, (t = l ∨ t = l') → lk (put l' (v, p) (del l hP)) t = some y → t = l' ∧ y = (v, p) := fun t y ht hy => by
  rcases lk_put hy with ⟨e1, e2⟩ | ⟨n1, e2⟩
  · exact ⟨e1.symm, e2.symm⟩
  · rcases ht with h | h
    · exact absurd h.symm (lk_del e2).1
    · exact absurd h.symm n1
 refine H.retell (fun t => t = l ∨ t = l') (fun t y hnT hy => ?_) (fun t y b hT hy hb => ?_) (fun hm t u q hT hy => ?_) (fun t1 t2 y1 y2 b h1 h2 hne hy1 hy2 => absurd ((aux t1 y1 h1 hy1).1.trans (aux t2 y2 h2 hy2).1.symm) hne)
 · have n2 : t ≠ l' := fun e => hnT (.inr e)
   rw [lk_put_ne (Ne.symm n2)] at hy
   exact ⟨(lk_del hy).2, by simp [n2]⟩
 · obtain ⟨rfl, _⟩ := aux t y hT hy
   simp only [if_true] at hb
   exact ⟨l, _, .inl rfl, hl, hb⟩
 · obtain ⟨rfl, e⟩ := aux t _ hT hy
   cases e
   simp only [if_true]
   exact (H.tr l v p hl).anti hm
theorem aC_mid {ι : Type} {x y : Code} (S : ι → St) (h : aC P c x (Exit.then (fun a w => ∃ i, Holds c (S i) a w) Q) (⟨sL, hP⟩ : St)) (k : ∀ i, aC P c y Q (S i)) : aC P c x (Exit.then (y.wp P Q) Q) (⟨sL, hP⟩ : St) := fun a w H =>
 wp_mono (h a w H) fun e a' w' hq => by
  cases e with
  | normal => obtain ⟨i, hi⟩ := hq; exact k i a' w' hi
  | _ => exact hq
end
theorem nav {A B : Prop} (h : B) (e : B → A := by intro h; (repeat (first | with_reducible refine aC_seq ?_ | with_reducible refine aC_block ?_ | with_reducible refine aN_then ?_ | with_reducible refine aN_block ?_ | with_reducible refine aC_skip ?_ | with_reducible refine aC_exit ?_ | with_reducible refine aX_then ?_ | with_reducible refine aX_block ?_ | with_reducible refine aX_other rfl ?_ | with_reducible refine aC_ret ?_ | with_reducible refine aR_then ?_ | with_reducible refine aR_block ?_)); exact h) : A := e h
section
variable {P : Program} {c : Ctx} {ops : Array Oper} {Q : Exit → Act → World → Prop} {rest : List Oper} {st : St} {sL hP : List (Nat × Ent)} {o : Oper} {x y : Operand} {t t' : TypeId} {q q' : PV} {Z : Nat → Bool} {K : List Nat} {fuel : Nat} {listed : Array Bool}
theorem xL {v : Value} {p : PV} (d : Nat) (hy : YE P (⟨sL, hP⟩ : St) o (· = v) p) (k : aL P c ops Q rest ⟨put d (v, p) sL, hP⟩) (hw : wants ops sL o = some true := by exact rfl) (hd : o.dst = some d := by exact rfl) (hn : d < c.nt := by exact Nat.le_of_ble_eq_true rfl) : aL P c ops Q (o :: rest) (⟨sL, hP⟩ : St) :=
 aL_x d hw hd hn hy k
theorem yL {V : Value → Prop} {p : PV} (d : Nat) (hy : YE P (⟨sL, hP⟩ : St) o V p) (k : ∀ v, V v → aL P c ops Q rest ⟨put d (v, p) sL, hP⟩) (hw : wants ops sL o = some true := by exact rfl) (hd : o.dst = some d := by exact rfl) (hn : d < c.nt := by exact Nat.le_of_ble_eq_true rfl) : aL P c ops Q (o :: rest) (⟨sL, hP⟩ : St) :=
 aL_y d hw hd hn hy k
theorem kL (d : Nat) (k : aL P c ops Q rest ⟨put d (undef, .val undef) sL, hP⟩) (hw : wants ops sL o = some false := by exact rfl) (hd : o.dst = some d := by exact rfl) (hn : d < c.nt := by exact Nat.le_of_ble_eq_true rfl) : aL P c ops Q (o :: rest) (⟨sL, hP⟩ : St) :=
 aL_skip d hw hd hn k
theorem bL {l : List Oper} {b : Bool} {q : PV} (t : Nat) (ht : b = true → aL P c ops Q l ⟨put t (.bool true, .val (.bool true)) sL, hP⟩) (hf : b = false → aL P c ops Q l ⟨put t (.bool false, .val (.bool false)) sL, hP⟩) (hx : lk sL t = some (.bool b, q) := by exact rfl) : aL P c ops Q l (⟨sL, hP⟩ : St) :=
 aL_bcase t hx ht hf
theorem xD {v : Value} {p : PV} (i : Nat) (d : Nat) (ho : ops[i]? = some o) (hy : YE P ⟨sL, onlyK K hP⟩ o (· = v) p) (k : aD P c ops Q Z K fuel (listed.setIfInBounds i true) ⟨put d (v, p) sL, hP⟩) (hck : (Region.noSelect ops && (Region.ready .any ops listed).contains i && Region.free .any ops listed i && zWaits .any ops Z i) = true := by kernel_rfl) (hw : wants ops sL o = some true := by exact rfl) (hd : o.dst = some d := by exact rfl) (hn : d < c.nt := by exact Nat.le_of_ble_eq_true rfl) : aD P c ops Q Z K (fuel + 1) listed (⟨sL, hP⟩ : St) :=
 aD_x i d ho hck hw hd hn hy k
theorem yD {V : Value → Prop} {p : PV} (i : Nat) (d : Nat) (ho : ops[i]? = some o) (hy : YE P ⟨sL, onlyK K hP⟩ o V p) (k : ∀ v, V v → aD P c ops Q Z K fuel (listed.setIfInBounds i true) ⟨put d (v, p) sL, hP⟩) (hck : (Region.noSelect ops && (Region.ready .any ops listed).contains i && Region.free .any ops listed i && zWaits .any ops Z i) = true := by kernel_rfl) (hw : wants ops sL o = some true := by exact rfl) (hd : o.dst = some d := by exact rfl) (hn : d < c.nt := by exact Nat.le_of_ble_eq_true rfl) : aD P c ops Q Z K (fuel + 1) listed (⟨sL, hP⟩ : St) :=
 aD_y i d ho hck hw hd hn hy k
theorem kD (i : Nat) (d : Nat) (ho : ops[i]? = some o) (k : aD P c ops Q Z K fuel (listed.setIfInBounds i true) ⟨put d (undef, .val undef) sL, hP⟩) (hck : (Region.noSelect ops && (Region.ready .any ops listed).contains i && Region.free .any ops listed i && zWaits .any ops Z i) = true := by kernel_rfl) (hw : wants ops sL o = some false := by exact rfl) (hd : o.dst = some d := by exact rfl) (hn : d < c.nt := by exact Nat.le_of_ble_eq_true rfl) : aD P c ops Q Z K (fuel + 1) listed (⟨sL, hP⟩ : St) :=
 aD_skip i d ho hck hw hd hn k
theorem xE {v : Value} {p : PV} (i : Nat) (d : Nat) (ho : ops[i]? = some o) (hy : YE P (⟨sL, hP⟩ : St) o (· = v) p) (k : aD P c ops Q Z K fuel (listed.setIfInBounds i true) ⟨put d (v, p) sL, hP⟩) (hr : Region.ready .any ops listed = [i] := by kernel_rfl) (hw : wants ops sL o = some true := by exact rfl) (hd : o.dst = some d := by exact rfl) (hn : d < c.nt := by exact Nat.le_of_ble_eq_true rfl) : aD P c ops Q Z K (fuel + 1) listed (⟨sL, hP⟩ : St) :=
 aD_x1 i d ho hr hw hd hn hy k
theorem yE {V : Value → Prop} {p : PV} (i : Nat) (d : Nat) (ho : ops[i]? = some o) (hy : YE P (⟨sL, hP⟩ : St) o V p) (k : ∀ v, V v → aD P c ops Q Z K fuel (listed.setIfInBounds i true) ⟨put d (v, p) sL, hP⟩) (hr : Region.ready .any ops listed = [i] := by kernel_rfl) (hw : wants ops sL o = some true := by exact rfl) (hd : o.dst = some d := by exact rfl) (hn : d < c.nt := by exact Nat.le_of_ble_eq_true rfl) : aD P c ops Q Z K (fuel + 1) listed (⟨sL, hP⟩ : St) :=
 aD_y1 i d ho hr hw hd hn hy k
theorem q_move {P : Program} {st : St} {o : Oper} {x : Operand} {v : Value} {p : PV} (ho : o.op = .move x := by exact rfl) (hx : ev st.slots x = some (v, p) := by exact rfl) : YE P st o (· = v) p :=
 y_move ho hx
theorem q_assign {P : Program} {st : St} {o : Oper} {x : Operand} {v : Value} {p : PV} (ho : o.op = .assign x := by exact rfl) (hx : ev st.slots x = some (v, p) := by exact rfl) : YE P st o (· = v) p :=
 y_assign ho hx
theorem q_pick {P : Program} {st : St} {o : Oper} {c x y : Operand} {b : Bool} {q : PV} {v : Value} {p : PV} (ho : o.op = .pick c x y := by exact rfl) (hc : ev st.slots c = some (.bool b, q) := by exact rfl) (hx : ev st.slots (if b then x else y) = some (v, p) := by exact rfl) : YE P st o (· = v) p :=
 y_pick ho hc hx
theorem q_not {P : Program} {st : St} {o : Oper} {x : Operand} {t : TypeId} {b : Bool} {q : PV} (ho : o.op = .unOp .not t x := by exact rfl) (hx : ev st.slots x = some (.bool b, q) := by exact rfl) : YE P st o (· = .bool (!b)) (.val (.bool (!b))) :=
 y_not ho hx
theorem q_lss {k : IntKind} {a b : Int} (ho : o.op = .binOp .lss t x y t' := by exact rfl) (hx : ev st.slots x = some (.int k a, q) := by exact rfl) (hy : ev st.slots y = some (.int k b, q') := by exact rfl) : YE P st o (· = .bool (decide (a < b))) (.val (.bool (decide (a < b)))) :=
 y_lss ho hx hy
theorem q_leq {k : IntKind} {a b : Int} (ho : o.op = .binOp .leq t x y t' := by exact rfl) (hx : ev st.slots x = some (.int k a, q) := by exact rfl) (hy : ev st.slots y = some (.int k b, q') := by exact rfl) : YE P st o (· = .bool (decide (a ≤ b))) (.val (.bool (decide (a ≤ b)))) :=
 y_leq ho hx hy
theorem q_gtr {k : IntKind} {a b : Int} (ho : o.op = .binOp .gtr t x y t' := by exact rfl) (hx : ev st.slots x = some (.int k a, q) := by exact rfl) (hy : ev st.slots y = some (.int k b, q') := by exact rfl) : YE P st o (· = .bool (decide (b < a))) (.val (.bool (decide (b < a)))) :=
 y_gtr ho hx hy
theorem q_geq {k : IntKind} {a b : Int} (ho : o.op = .binOp .geq t x y t' := by exact rfl) (hx : ev st.slots x = some (.int k a, q) := by exact rfl) (hy : ev st.slots y = some (.int k b, q') := by exact rfl) : YE P st o (· = .bool (decide (b ≤ a))) (.val (.bool (decide (b ≤ a)))) :=
 y_geq ho hx hy
theorem q_eql {k : IntKind} {a b : Int} (ho : o.op = .binOp .eql t x y t' := by exact rfl) (hx : ev st.slots x = some (.int k a, q) := by exact rfl) (hy : ev st.slots y = some (.int k b, q') := by exact rfl) : YE P st o (· = .bool (decide (a = b))) (.val (.bool (decide (a = b)))) :=
 y_eql ho hx hy
theorem q_neq {k : IntKind} {a b : Int} (ho : o.op = .binOp .neq t x y t' := by exact rfl) (hx : ev st.slots x = some (.int k a, q) := by exact rfl) (hy : ev st.slots y = some (.int k b, q') := by exact rfl) : YE P st o (· = .bool (decide (a ≠ b))) (.val (.bool (decide (a ≠ b)))) :=
 y_neq ho hx hy
theorem q_seql {a b : ByteArray} (ho : o.op = .binOp .eql t x y t' := by exact rfl) (hx : ev st.slots x = some (.string a, q) := by exact rfl) (hy : ev st.slots y = some (.string b, q') := by exact rfl) : YE P st o (· = .bool (a.toList == b.toList)) (.val (.bool (a.toList == b.toList))) :=
 y_seql ho hx hy
theorem q_sneq {a b : ByteArray} (ho : o.op = .binOp .neq t x y t' := by exact rfl) (hx : ev st.slots x = some (.string a, q) := by exact rfl) (hy : ev st.slots y = some (.string b, q') := by exact rfl) : YE P st o (· = .bool (!(a.toList == b.toList))) (.val (.bool (!(a.toList == b.toList)))) :=
 y_sneq ho hx hy
theorem q_add {a b : Int} (ho : o.op = .binOp .add t x y t' := by exact rfl) (hx : ev st.slots x = some (.int .i64 a, q) := by exact rfl) (hy : ev st.slots y = some (.int .i64 b, q') := by exact rfl) (h1 : -9223372036854775808 ≤ a + b := by first | omega | exact Nat.le_of_ble_eq_true rfl | (simp only [List.length_cons, List.length_nil, List.length_map, List.length_set, List.length_append, List.length_replicate, List.length_singleton, List.flatMap_cons, List.flatMap_nil]; omega)) (h2 : a + b ≤ 9223372036854775807 := by first | omega | exact Nat.le_of_ble_eq_true rfl | (simp only [List.length_cons, List.length_nil, List.length_map, List.length_set, List.length_append, List.length_replicate, List.length_singleton, List.flatMap_cons, List.flatMap_nil]; omega)) : YE P st o (· = .int .i64 (a + b)) (.val (.int .i64 (a + b))) :=
 y_add ho hx hy h1 h2
theorem q_sub {a b : Int} (ho : o.op = .binOp .sub t x y t' := by exact rfl) (hx : ev st.slots x = some (.int .i64 a, q) := by exact rfl) (hy : ev st.slots y = some (.int .i64 b, q') := by exact rfl) (h1 : -9223372036854775808 ≤ a - b := by first | omega | exact Nat.le_of_ble_eq_true rfl | (simp only [List.length_cons, List.length_nil, List.length_map, List.length_set, List.length_append, List.length_replicate, List.length_singleton, List.flatMap_cons, List.flatMap_nil]; omega)) (h2 : a - b ≤ 9223372036854775807 := by first | omega | exact Nat.le_of_ble_eq_true rfl | (simp only [List.length_cons, List.length_nil, List.length_map, List.length_set, List.length_append, List.length_replicate, List.length_singleton, List.flatMap_cons, List.flatMap_nil]; omega)) : YE P st o (· = .int .i64 (a - b)) (.val (.int .i64 (a - b))) :=
 y_sub ho hx hy h1 h2
theorem q_mul {a b : Int} (ho : o.op = .binOp .mul t x y t' := by exact rfl) (hx : ev st.slots x = some (.int .i64 a, q) := by exact rfl) (hy : ev st.slots y = some (.int .i64 b, q') := by exact rfl) (h1 : -9223372036854775808 ≤ a * b := by first | omega | exact Nat.le_of_ble_eq_true rfl | (simp only [List.length_cons, List.length_nil, List.length_map, List.length_set, List.length_append, List.length_replicate, List.length_singleton, List.flatMap_cons, List.flatMap_nil]; omega)) (h2 : a * b ≤ 9223372036854775807 := by first | omega | exact Nat.le_of_ble_eq_true rfl | (simp only [List.length_cons, List.length_nil, List.length_map, List.length_set, List.length_append, List.length_replicate, List.length_singleton, List.flatMap_cons, List.flatMap_nil]; omega)) : YE P st o (· = .int .i64 (a * b)) (.val (.int .i64 (a * b))) :=
 y_mul ho hx hy h1 h2
theorem q_index {s : ByteArray} {i : Int} {c : UInt8} {k : IntKind} (hu : P.underlying t = some .string) (ho : o.op = .index t x y := by exact rfl) (hx : ev st.slots x = some (.string s, q) := by exact rfl) (hy : ev st.slots y = some (.int k i, q') := by exact rfl) (hi : 0 ≤ i := by first | omega | exact Nat.le_of_ble_eq_true rfl | (simp only [List.length_cons, List.length_nil, List.length_map, List.length_set, List.length_append, List.length_replicate, List.length_singleton, List.flatMap_cons, List.flatMap_nil]; omega)) (hc : s.data[i.toNat]? = some c := by assumption) : YE P st o (· = .int .u8 c.toNat) (.val (.int .u8 c.toNat)) :=
 y_index hu ho hx hy hi hc
theorem q_conv {P : Program} {st : St} {o : Oper} {x : Operand} {s d : TypeId} {k k' : IntKind} {a : Int} {q : PV} {ds : TypeDesc} (hs : P.underlying s = some ds) (hd : P.underlying d = some (.int k')) (ho : o.op = .convert s d x := by exact rfl) (hx : ev st.slots x = some (.int k a, q) := by exact rfl) (hw : k'.wrap a = a := by (exact IntWalk.i64_in _ (by first | omega | exact Nat.le_of_ble_eq_true rfl | (simp only [List.length_cons, List.length_nil, List.length_map, List.length_set, List.length_append, List.length_replicate, List.length_singleton, List.flatMap_cons, List.flatMap_nil]; omega)))) : YE P st o (· = .int k' a) (.val (.int k' a)) :=
 y_conv hs hd ho hx hw
theorem q_slen {P : Program} {st : St} {o : Oper} {x : Operand} {t : TypeId} {s : ByteArray} {q : PV} (ht : P.underlying t = some .string) (ho : o.op = .call { callee := .builtin .len, args := #[x], argTypes := #[t] } := by exact rfl) (hx : ev st.slots x = some (.string s, q) := by exact rfl) : YE P st o (· = .int .i64 s.size) (.val (.int .i64 s.size)) :=
 y_slen ht ho hx
theorem q_extract {P : Program} {st : St} {o : Oper} {x : Operand} {i : Nat} {vs : List Value} {ps : List PV} {v : Value} {p : PV} (ho : o.op = .extract x i := by exact rfl) (hx : ev st.slots x = some (.tuple vs.toArray, .tup ps) := by exact rfl) (hv : vs[i]? = some v := by exact rfl) (hp : ps[i]? = some p := by exact rfl) : YE P st o (· = v) p :=
 y_extract ho hx hv hp
theorem q_fld {s f fo j : Nat} {x : Operand} {v : Value} {cs : List PV} (hT : FldT P s f fo = true) (ho : o.op = .fieldAddr s x f := by exact rfl) (hx : ev st.slots x = some (v, .sptr j cs) := by exact rfl) : YE P st o (· = padd v fo) (.sptr (j + fo) cs) :=
 y_fld_shr hT ho hx
theorem q_fldo {s f fo j e k n : Nat} {x : Operand} {h : Value} {p : PV} {cs : List PV} (l : Nat) (hT : FldT P s f fo = true) (ho : o.op = .fieldAddr s x f := by exact rfl) (hx : ev st.slots x = some (padd (sbase h) j, p) := by exact rfl) (hl : lk st.heap l = some (h, .own e k n cs) := by exact rfl) (hn : 0 < n := by first | omega | exact Nat.le_of_ble_eq_true rfl | (simp only [List.length_cons, List.length_nil, List.length_map, List.length_set, List.length_append, List.length_replicate, List.length_singleton, List.flatMap_cons, List.flatMap_nil]; omega)) : YE P st o (· = padd (sbase h) (j + fo)) (.val (padd (sbase h) (j + fo))) :=
 y_fld_own l hT ho hx hl hn
theorem q_idxN {t e k n : Nat} {x y : Operand} {v : Value} {cs : List PV} {q : PV} {kd : IntKind} {i : Nat} (hT : SlT P t e k = true) (ho : o.op = .indexAddr t x y := by exact rfl) (hx : ev st.slots x = some (v, .sl n cs) := by exact rfl) (hy : ev st.slots y = some (.int kd (i : Int), q) := by exact rfl) (h1 : i < n := by first | omega | exact Nat.le_of_ble_eq_true rfl | (simp only [List.length_cons, List.length_nil, List.length_map, List.length_set, List.length_append, List.length_replicate, List.length_singleton, List.flatMap_cons, List.flatMap_nil]; omega)) : YE P st o (· = padd (sbase v) (i * k)) (.sptr (i * k) cs) :=
 y_idx_shrN hT ho hx hy h1
theorem q_idxoN {t e k e' k' n : Nat} {x y : Operand} {h : Value} {p q : PV} {cs : List PV} {kd : IntKind} {i : Nat} (l : Nat) (hT : SlT P t e k = true) (ho : o.op = .indexAddr t x y := by exact rfl) (hx : ev st.slots x = some (h, p) := by exact rfl) (hy : ev st.slots y = some (.int kd (i : Int), q) := by exact rfl) (hl : lk st.heap l = some (h, .own e' k' n cs) := by exact rfl) (h1 : i < n := by first | omega | exact Nat.le_of_ble_eq_true rfl | (simp only [List.length_cons, List.length_nil, List.length_map, List.length_set, List.length_append, List.length_replicate, List.length_singleton, List.flatMap_cons, List.flatMap_nil]; omega)) : YE P st o (· = padd (sbase h) (i * k)) (.val (padd (sbase h) (i * k))) :=
 y_idx_ownN l hT ho hx hy hl h1
theorem q_ld {t j : Nat} {x : Operand} {v : Value} {cs : List PV} {p : PV} (hT : NoAgg P t = true) (ho : o.op = .load t x := by exact rfl) (hx : ev st.slots x = some (v, .sptr j cs) := by exact rfl) (hp : cs[j]? = some p := by first | exact rfl | assumption) : YE P st o (vOf p) p :=
 y_ld_shr hT ho hx hp
theorem q_ldo {t j e k n : Nat} {x : Operand} {h : Value} {q : PV} {cs : List PV} {p : PV} (l : Nat) (hT : NoAgg P t = true) (ho : o.op = .load t x := by exact rfl) (hx : ev st.slots x = some (padd (sbase h) j, q) := by exact rfl) (hl : lk st.heap l = some (h, .own e k n cs) := by exact rfl) (hp : cs[j]? = some p := by first | exact rfl | assumption) (hsh : isSh p = true := by exact rfl) : YE P st o (vOf p) p :=
 y_ld_own l hT ho hx hl hp hsh
theorem q_lda {t k j : Nat} {x : Operand} {v : Value} {cs ps : List PV} (hT : AggT P t k = true) (ho : o.op = .load t x := by exact rfl) (hx : ev sL x = some (v, .sptr j cs) := by exact rfl) (hp : j + k ≤ cs.length := by first | omega | exact Nat.le_of_ble_eq_true rfl | (simp only [List.length_cons, List.length_nil, List.length_map, List.length_set, List.length_append, List.length_replicate, List.length_singleton, List.flatMap_cons, List.flatMap_nil]; omega)) (hps : (cs.drop j).take k = ps := by first | assumption | exact rfl) : YE P (⟨sL, hP⟩ : St) o (fun _ => True) (.agg ps) :=
 y_lda_shrE hT ho hx hp hps
theorem q_ldao {t k j e k' n : Nat} {x : Operand} {h : Value} {q : PV} {cs ps : List PV} (l : Nat) (hT : AggT P t k = true) (ho : o.op = .load t x := by exact rfl) (hx : ev sL x = some (padd (sbase h) j, q) := by exact rfl) (hl : lk hP l = some (h, .own e k' n cs) := by exact rfl) (hp : j + k ≤ cs.length := by first | omega | exact Nat.le_of_ble_eq_true rfl | (simp only [List.length_cons, List.length_nil, List.length_map, List.length_set, List.length_append, List.length_replicate, List.length_singleton, List.flatMap_cons, List.flatMap_nil]; omega)) (hk : 0 < k := by decide) (hps : (cs.drop j).take k = ps := by first | assumption | exact rfl) (hsh : ps.all isSh = true := by first | exact rfl | decide) : YE P (⟨sL, hP⟩ : St) o (fun _ => True) (.agg ps) :=
 y_lda_ownE l hT ho hx hl hp hk hps hsh
theorem q_len {t e k n : Nat} {x : Operand} {v : Value} {cs : List PV} (hT : SlT P t e k = true) (ho : o.op = .call { callee := .builtin .len, args := #[x], argTypes := #[t] } := by exact rfl) (hx : ev st.slots x = some (v, .sl n cs) := by exact rfl) : YE P st o (· = .int .i64 n) (.val (.int .i64 n)) :=
 y_len_shr hT ho hx
theorem q_leno {t e k e' k' n : Nat} {x : Operand} {h : Value} {p : PV} {cs : List PV} (l : Nat) (hT : SlT P t e k = true) (ho : o.op = .call { callee := .builtin .len, args := #[x], argTypes := #[t] } := by exact rfl) (hx : ev st.slots x = some (h, p) := by exact rfl) (hl : lk st.heap l = some (h, .own e' k' n cs) := by exact rfl) : YE P st o (· = .int .i64 n) (.val (.int .i64 n)) :=
 y_len_own l hT ho hx hl
theorem q_build {t : Nat} {parts : Array (Nat × Operand)} {z : Value} {offs : List Nat} {zs : List Value} {es : List (Nat × Ent)} (hT : stInfo P t = some (z, offs.map fun o => (o, 1))) (hzs : z.cells = zs.toArray := by exact rfl) (ho : o.op = .build t parts := by exact rfl) (hx : evP sL parts.toList = some es := by exact rfl) (h1 : es.all (fun x => one x.2.2) = true := by first | exact rfl | (simp only [List.all_cons, List.all_nil, Bool.and_true, Bool.and_eq_true]; (repeat (first | refine ⟨?_, ?_⟩ | rfl | assumption)))) (hin : es.all (fun x => decide (x.1 < offs.length) && decide (offs.getD x.1 0 < zs.length)) = true := by exact rfl) : YE P (⟨sL, hP⟩ : St) o (· = .agg (setP offs zs (es.map fun x => (x.1, x.2.1))).toArray) (.agg (setP offs (zs.map .val) (es.map fun x => (x.1, x.2.2)))) :=
 y_build hT hzs ho hx h1 hin
theorem q_mkfn {f : Nat} {caps : Array Operand} {es : List Ent} (ho : o.op = .makeFunc (.func f) #[] caps := by exact rfl) (hx : evL sL caps.toList = some es := by exact rfl) : YE P (⟨sL, hP⟩ : St) o (· = .func (.func f) #[] (es.map (·.1)).toArray) (.fn f (es.map (·.2))) :=
 y_mkfn ho hx
theorem s_boxa {t : TypeId} {x : Operand} {v : Value} {ps : List PV} (d : Nat) (m : Nat) (k : ∀ h : Value, aL P c ops Q rest ⟨put d (padd (sbase h) 0, .val (padd (sbase h) 0)) sL, put d (h, .own t m 1 ps) hP⟩) (hw : wants ops sL o = some true := by exact rfl) (hd : o.dst = some d := by exact rfl) (hn : d < c.nt := by exact Nat.le_of_ble_eq_true rfl) (ho : o.op = .box t x := by exact rfl) (hx : ev sL x = some (v, .agg ps) := by exact rfl) (hm : ps.length = m := by exact rfl) (hl : lk hP d = none := by exact rfl) : aL P c ops Q (o :: rest) (⟨sL, hP⟩ : St) :=
 aL_boxa d m hw hd hn ho hx hm hl k
theorem s_alloc {t : TypeId} {z : Value} (zs : List Value) (m : Nat) (d : Nat) (hz : ZeroT P t z) (k : ∀ h : Value, aL P c ops Q rest ⟨put d (padd (sbase h) 0, .val (padd (sbase h) 0)) sL, put d (h, .own t m 1 (zs.map .val)) hP⟩) (hw : wants ops sL o = some true := by exact rfl) (hd : o.dst = some d := by exact rfl) (hn : d < c.nt := by exact Nat.le_of_ble_eq_true rfl) (ho : o.op = .alloc t := by exact rfl) (hzs : z.cells = zs.toArray := by exact rfl) (hm : zs.length = m := by exact rfl) (hl : lk hP d = none := by exact rfl) : aL P c ops Q (o :: rest) (⟨sL, hP⟩ : St) :=
 aL_alloc zs m d hw hd hn ho hz hzs hm hl k
theorem s_lit1 {t e kk bytes : Nat} {z : Value} {x : Operand} {v : Value} {p : PV} (d : Nat) (hT : ElT P t e 1 bytes z) (k : ∀ h : Value, h.oneCell' = true → aL P c ops Q rest ⟨put d (h, .val h) sL, put d (h, .own e 1 1 [p]) hP⟩) (hw : wants ops sL o = some true := by exact rfl) (hd : o.dst = some d := by exact rfl) (hn : d < c.nt := by exact Nat.le_of_ble_eq_true rfl) (ho : o.op = .buildSlice t 1 #[(0, x)] := by exact rfl) (hx : ev sL x = some (v, p) := by exact rfl) (h10 : one p = true := by first | exact rfl | assumption) (hl : lk hP d = none := by exact rfl) : aL P c ops Q (o :: rest) (⟨sL, hP⟩ : St) :=
 aL_lit1 (kk := 1) d hT hw hd hn ho hx h10 hl k
theorem s_lit1a {t e kk bytes : Nat} {z : Value} {x : Operand} {v : Value} {ps : List PV} (d : Nat) (hT : ElT P t e kk bytes z) (k : ∀ h : Value, h.oneCell' = true → aL P c ops Q rest ⟨put d (h, .val h) sL, put d (h, .own e kk 1 ps) hP⟩) (hw : wants ops sL o = some true := by exact rfl) (hd : o.dst = some d := by exact rfl) (hn : d < c.nt := by exact Nat.le_of_ble_eq_true rfl) (ho : o.op = .buildSlice t 1 #[(0, x)] := by exact rfl) (hx : ev sL x = some (v, .agg ps) := by exact rfl) (hps : ps.length = kk := by exact rfl) (hkb : kk ≤ 1000 := by decide) (hl : lk hP d = none := by exact rfl) : aL P c ops Q (o :: rest) (⟨sL, hP⟩ : St) :=
 aL_lit1a d hT hw hd hn ho hx hps hkb hl k
theorem s_litn {t e bytes m : Nat} {z : Value} {xs : List Operand} {parts : Array (Nat × Operand)} {es : List Ent} (d : Nat) (hT : ElT P t e 1 bytes z) (k : ∀ h : Value, h.oneCell' = true → aL P c ops Q rest ⟨put d (h, .val h) sL, put d (h, .own e 1 m (es.map (·.2))) hP⟩) (hw : wants ops sL o = some true := by exact rfl) (hd : o.dst = some d := by exact rfl) (hn : d < c.nt := by exact Nat.le_of_ble_eq_true rfl) (ho : o.op = .buildSlice t m parts := by exact rfl) (hpt : parts = ((xs.zipIdx).map fun x => (x.2, x.1)).toArray := by exact rfl) (hx : evL sL xs = some es := by exact rfl) (h1 : es.all (fun x => one x.2) = true := by exact rfl) (hm : es.length = m := by exact rfl) (hm0 : 0 < m := by decide) (hm1 : m ≤ 1000 := by decide) (hl : lk hP d = none := by exact rfl) : aL P c ops Q (o :: rest) (⟨sL, hP⟩ : St) :=
 aL_litn d hT hw hd hn ho hpt hx h1 hm hm0 hm1 hl k
theorem s_st {t j e kk n : Nat} {x y : Operand} {h v : Value} {q p : PV} {cs : List PV} (l : Nat) (hT : NoAgg P t = true) (hsz : (P.info? t).map (·.size) = some 1) (k : aL P c ops Q rest ⟨sL, put l (h, .own e kk n (cs.set j p)) hP⟩) (hw : wants ops sL o = some true := by exact rfl) (hd : o.dst = none := by exact rfl) (ho : o.op = .store t x y := by exact rfl) (hx : ev sL x = some (padd (sbase h) j, q) := by exact rfl) (hy : ev sL y = some (v, p) := by exact rfl) (h1 : one p = true := by first | exact rfl | assumption) (hl : lk hP l = some (h, .own e kk n cs) := by exact rfl) (hj : j < cs.length := by first | omega | exact Nat.le_of_ble_eq_true rfl | (simp only [List.length_cons, List.length_nil, List.length_map, List.length_set, List.length_append, List.length_replicate, List.length_singleton, List.flatMap_cons, List.flatMap_nil]; omega)) : aL P c ops Q (o :: rest) (⟨sL, hP⟩ : St) :=
 aL_st1 l hw hd hT hsz ho hx hy h1 hl hj k
theorem s_sta {t j e kk n m : Nat} {x y : Operand} {h V : Value} {q : PV} {ps cs : List PV} (l : Nat) (hT : AggT P t m = true) (k : aL P c ops Q rest ⟨sL, put l (h, .own e kk n (setL cs j ps)) hP⟩) (hw : wants ops sL o = some true := by exact rfl) (hd : o.dst = none := by exact rfl) (ho : o.op = .store t x y := by exact rfl) (hx : ev sL x = some (padd (sbase h) j, q) := by exact rfl) (hy : ev sL y = some (V, .agg ps) := by exact rfl) (hm : ps.length = m := by exact rfl) (h1 : ps.all one = true := by first | exact rfl | (simp only [List.all_cons, List.all_nil, Bool.and_true, Bool.and_eq_true]; (repeat (first | refine ⟨?_, ?_⟩ | rfl | assumption)))) (hl : lk hP l = some (h, .own e kk n cs) := by exact rfl) (hj : j + m ≤ cs.length := by first | omega | exact Nat.le_of_ble_eq_true rfl | (simp only [List.length_cons, List.length_nil, List.length_map, List.length_set, List.length_append, List.length_replicate, List.length_singleton, List.flatMap_cons, List.flatMap_nil]; omega)) (hm0 : 0 < m := by decide) : aL P c ops Q (o :: rest) (⟨sL, hP⟩ : St) :=
 aL_sta l hw hd hT ho hx hy hm h1 hl hj hm0 k
theorem s_app {t ty e kk bytes n m : Nat} {z : Value} {x y : Operand} {h h2 : Value} {q q2 : PV} {cs cs2 : List PV} (l : Nat) (l2 : Nat) (d : Nat) (hT : ElT P t e kk bytes z) (k : ∀ h' : Value, h'.oneCell' = true → aL P c ops Q rest ⟨put d (h', .val h') sL, put d (h', .own e kk (n + m) (cs ++ cs2)) (del l2 (del l hP))⟩) (hw : wants ops sL o = some true := by exact rfl) (hd : o.dst = some d := by exact rfl) (hn : d < c.nt := by exact Nat.le_of_ble_eq_true rfl) (hty : o.type = ty := by exact rfl) (ho : o.op = .call { callee := .builtin .append, args := #[x, y], argTypes := #[t, t] } := by exact rfl) (hx : ev sL x = some (h, q) := by exact rfl) (hy : ev sL y = some (h2, q2) := by exact rfl) (hll : Nat.beq l l2 = false := by exact rfl) (hl : lk hP l = some (h, .own e kk n cs) := by exact rfl) (hl2 : lk hP l2 = some (h2, .own e kk m cs2) := by exact rfl) (hdl : lk (del l2 (del l hP)) d = none := by exact rfl) (hm : 0 < m := by decide) (hok : cs2.all cellOk = true := by first | exact rfl | (simp only [List.all_cons, List.all_nil, Bool.and_true, Bool.and_eq_true]; (repeat (first | refine ⟨?_, ?_⟩ | rfl | assumption)))) (hlen : n + m ≤ 9223372036854775807 := by first | omega | exact Nat.le_of_ble_eq_true rfl | (simp only [List.length_cons, List.length_nil, List.length_map, List.length_set, List.length_append, List.length_replicate, List.length_singleton, List.flatMap_cons, List.flatMap_nil]; omega)) (hb : (n + m) * bytes ≤ 140737488355328 := by first | omega | exact Nat.le_of_ble_eq_true rfl | (simp only [List.length_cons, List.length_nil, List.length_map, List.length_set, List.length_append, List.length_replicate, List.length_singleton, List.flatMap_cons, List.flatMap_nil]; omega)) (hdr : ¬ c.dr := by exact id) : aL P c ops Q (o :: rest) (⟨sL, hP⟩ : St) :=
 aL_append l l2 d hT hw hd hn hty ho hx hy hll hl hl2 hdl hm hok hlen hb hdr k
theorem bLd {l : List Oper} (t : Nat) {p : Prop} {_ : Decidable p} {q : PV} (ht : p → aL P c ops Q l ⟨put t (.bool true, .val (.bool true)) sL, hP⟩) (hf : ¬ p → aL P c ops Q l ⟨put t (.bool false, .val (.bool false)) sL, hP⟩) (hx : lk sL t = some (.bool (decide p), q) := by exact rfl) : aL P c ops Q l (⟨sL, hP⟩ : St) :=
 aL_bcase t hx (fun h => ht (of_decide_eq_true h)) (fun h => hf (of_decide_eq_false h))
theorem bDd (t : Nat) {p : Prop} {_ : Decidable p} {q : PV} (ht : p → aD P c ops Q Z K fuel listed ⟨put t (.bool true, .val (.bool true)) sL, hP⟩) (hf : ¬ p → aD P c ops Q Z K fuel listed ⟨put t (.bool false, .val (.bool false)) sL, hP⟩) (hx : lk sL t = some (.bool (decide p), q) := by exact rfl) : aD P c ops Q Z K fuel listed (⟨sL, hP⟩ : St) :=
 aD_bcase t hx (fun h => ht (of_decide_eq_true h)) (fun h => hf (of_decide_eq_false h))
theorem cC {x : Operand} {t e : Code} {b : Bool} {q : PV} (ht : b = true → aC P c t Q (⟨sL, hP⟩ : St)) (hf : b = false → aC P c e Q (⟨sL, hP⟩ : St)) (hx : ev sL x = some (.bool b, q) := by exact rfl) : aC P c (.cond x t e) Q (⟨sL, hP⟩ : St) := aC_cond hx ht hf
theorem cCd {x : Operand} {t e : Code} {p : Prop} {_ : Decidable p} {q : PV} (ht : p → aC P c t Q (⟨sL, hP⟩ : St)) (hf : ¬ p → aC P c e Q (⟨sL, hP⟩ : St)) (hx : ev sL x = some (.bool (decide p), q) := by exact rfl) : aC P c (.cond x t e) Q (⟨sL, hP⟩ : St) := aC_cond hx (fun h => ht (of_decide_eq_true h)) (fun h => hf (of_decide_eq_false h))
theorem cCt {x : Operand} {t e : Code} {q : PV} (ht : aC P c t Q (⟨sL, hP⟩ : St)) (hx : ev sL x = some (.bool true, q) := by exact rfl) : aC P c (.cond x t e) Q (⟨sL, hP⟩ : St) := aC_cond hx (fun _ => ht) (fun h => Bool.noConfusion h)
theorem cCf {x : Operand} {t e : Code} {q : PV} (hf : aC P c e Q (⟨sL, hP⟩ : St)) (hx : ev sL x = some (.bool false, q) := by exact rfl) : aC P c (.cond x t e) Q (⟨sL, hP⟩ : St) := aC_cond hx (fun h => Bool.noConfusion h) (fun _ => hf)
theorem cA {dd : Prop} {f : Nat} {xs : Array Operand} {ats : Array TypeId} {es : List Ent} {ps : List PV} {R : PV → Prop} (hc : ∀ args w, (callFunc f args).run P w = .ok (.enter f args) w) (hA : AFd dd P f ps R) (ho : o.op = .call { callee := .value (.func f), args := xs, argTypes := ats } := by exact rfl) (hx : evL sL xs.toList = some es := by exact rfl) (hps : es.map (·.2) = ps := by exact rfl) (hdd : c.dr → dd := by first | exact id | exact fun h => h.elim | exact fun _ => trivial) : CallR P c (⟨sL, hP⟩ : St) o R :=
 callA ho hc hx (hps ▸ hA) hdd
theorem cS {p : PV} (d : Nat) (hC : CallR P c (⟨sL, hP⟩ : St) o (· = p)) (k : ∀ v, vOf p v → aL P c ops Q rest ⟨put d (v, p) sL, hP⟩) (hsh : isSh p = true := by exact rfl) (hw : wants ops sL o = some true := by exact rfl) (hd : o.dst = some d := by exact rfl) (hn : d < c.nt := by exact Nat.le_of_ble_eq_true rfl) : aL P c ops Q (o :: rest) (⟨sL, hP⟩ : St) :=
 aL_cs d hw hd hn hC fun p' hp => by subst hp; exact ⟨hsh, k⟩
end
mutual
def shD : PV → Bool
 | .val _ => true
 | .sl _ _ => true
 | .sptr _ _ => true
 | .smap _ => true
 | .own _ _ _ _ => false
 | .omap _ => false
 | .obox _ _ _ => false
 | .agg ps => shDs ps
 | .tup ps => shDs ps
 | .fn _ _ => true
 | .oblk _ _ _ _ => false
def shDs : List PV → Bool
 | [] => true
 | p :: l => shD p && shDs l
end
theorem shDs_all : ∀ l : List PV, shDs l = l.all shD
 | [] => by simp [shDs]
 | p :: l => by simp [shDs, shDs_all l]
theorem Tr.shD {M : BS} {w : World} {v : Value} {p : PV} {F : BS} (h : Tr M w v p F) : En.shD p = true → Shr M w v p := by
 induction h with
 | shr h _ => exact fun _ => h
 | own => intro h; rw [En.shD] at h; cases h
 | omap => intro h; rw [En.shD] at h; cases h
 | oblk => intro h; rw [En.shD] at h; cases h
 | obox => intro h; rw [En.shD] at h; cases h
 | @agg ps F vs Fs hl h hd hF ih =>
   intro hs
   rw [En.shD, shDs_all] at hs
   exact .agg vs ps hl fun i v p hv hp => ih i v p hv hp (List.all_eq_true.1 hs p (List.mem_of_getElem? hp))
 | @tup ps F vs Fs hl h hd hF ih =>
   intro hs
   rw [En.shD, shDs_all] at hs
   exact .tup vs ps hl fun i v p hv hp => ih i v p hv hp (List.all_eq_true.1 hs p (List.mem_of_getElem? hp))
section
variable {P : Program} {c : Ctx} {ops : Array Oper} {Q : Exit → Act → World → Prop} {rest : List Oper} {st : St} {sL hP : List (Nat × Ent)} {o : Oper} {Z : Nat → Bool} {K : List Nat} {fuel : Nat} {listed : Array Bool}
theorem q_nilo {x : Operand} {h : Value} {q : PV} {j e k n : Nat} {cs : List PV} (l : Nat) (ho : o.op = .nilCheck x := by exact rfl) (hx : ev st.slots x = some (padd (sbase h) j, q) := by exact rfl) (hl : lk st.heap l = some (h, .own e k n cs) := by exact rfl) (hn : 0 < n := by first | omega | decide) : YE P st o (· = padd (sbase h) j) (.val (padd (sbase h) j)) :=
 .exact fun M F a w H => by
  have hv := (H.ev hx).1
  obtain ⟨g, cap, rfl, _⟩ := own_hdr (H.tr l _ _ hl) hn
  refine ⟨.val _, ?_⟩
  simp only [sbase, padd] at hv ⊢
  simp [execOp, ho, hv]
theorem aW_call {i d : Nat} {p : PV} (ho : ops[i]? = some o) (hC : CallR P c (⟨sL, hP⟩ : St) o (· = p)) (k : ∀ v, vOf p v → aD P c ops Q Z K fuel (listed.setIfInBounds i true) ⟨put d (v, p) sL, hP⟩) (hsh : shD p = true := by exact rfl) (hw : wants ops sL o = some true := by exact rfl) (hd : o.dst = some d := by exact rfl) (hn : d < c.nt := by exact Nat.le_of_ble_eq_true rfl) : aW P c ops Q Z K fuel listed (⟨sL, hP⟩ : St) i := fun a w F H C hC' => by
 refine wpOp_of_list (Q' := fun _ a' w' => (Z i = true ∨ C w') ∧ wpAnyS P .any ops Q C Z fuel (listed.setIfInBounds i true) a' w') ho (fun a' w' hq => hq) ?_
 have h1 := wanted_of H.rd hw
 unfold wpList
 rw [h1, if_pos rfl]
 refine .inl ?_
 obtain ⟨f, args, hr, hcall⟩ := hC a w F H
 unfold Oper.wp
 rw [hr, Oper.upon_enter]
 refine hcall.mono fun e w' ⟨v, q, Fr, e1, e2, e3, e4, e5, e6⟩ => ?_
 subst e1
 rw [show q = p from e2] at e4
 have hS := e4.shD hsh
 have H2 : HoldsF c ⟨put d (v, p) sL, hP⟩ F (a.put (some d) v) w' := put_up H e3 hn (hS.anti fun b _ h => .inl h)
 simp only [Oper.upon, hd]
 have hch : Chg (nK K hP F) w w' := e3.chg
 exact ⟨.inr (hC' w' hch), k v hS.vOf _ w' F H2 C fun W hW => hC' W (hch.tr hW fun b hb => .inl hb)⟩
theorem cD {p : PV} (d : Nat) (hC : CallR P c (⟨sL, hP⟩ : St) o (· = p)) (k : ∀ v, vOf p v → aL P c ops Q rest ⟨put d (v, p) sL, hP⟩) (hsh : shD p = true := by exact rfl) (hw : wants ops sL o = some true := by exact rfl) (hd : o.dst = some d := by exact rfl) (hn : d < c.nt := by exact Nat.le_of_ble_eq_true rfl) : aL P c ops Q (o :: rest) (⟨sL, hP⟩ : St) :=
 call_run hw hC fun a w F w' v p' Fr H hR hx hT hlo hdw => by
  rw [show p' = p from hR] at hT
  have hS := hT.shD hsh
  rw [hd]
  exact k v hS.vOf _ _ ⟨F, put_up H hx hn (hS.anti fun b _ h => .inl h)⟩
theorem cP {p1 p2 : PV} (d : Nat) (hC : CallR P c (⟨sL, hP⟩ : St) o (· = .tup [p1, p2])) (k : ∀ v1 v2, vOf p1 v1 → vOf p2 v2 → aL P c ops Q rest ⟨put d (.tuple [v1, v2].toArray, .tup [p1, p2]) sL, hP⟩) (hsh : shD (.tup [p1, p2]) = true := by exact rfl) (hw : wants ops sL o = some true := by exact rfl) (hd : o.dst = some d := by exact rfl) (hn : d < c.nt := by exact Nat.le_of_ble_eq_true rfl) : aL P c ops Q (o :: rest) (⟨sL, hP⟩ : St) :=
 call_run hw hC fun a w F w' v p' Fr H hR hx hT hlo hdw => by
  rw [show p' = .tup [p1, p2] from hR] at hT
  have hS := hT.shD hsh
  rw [hd]
  have hS' : Shr (mof c hP F) w' v (.tup [p1, p2]) := hS.anti fun b _ h => .inl h
  cases hS with
  | tup vs ps hl h =>
    match vs, hl, h, hS' with
    | [v1, v2], _, h, hS' => exact k v1 v2 (h 0 v1 p1 rfl rfl).vOf (h 1 v2 p2 rfl rfl).vOf _ _ ⟨F, put_up H hx hn hS'⟩
theorem aN_join {ι : Type} {S : ι → St} (i : ι) (hs : Sub (S i).slots sL) (hh : Sub (S i).heap hP) : aN c (Exit.then (fun a w => ∃ i, Holds c (S i) a w) Q) (⟨sL, hP⟩ : St) := aN_cut i hs hh
end
theorem nbeq (a b : Nat) : Nat.beq a b = (a == b) := by
 cases h : Nat.beq a b
 · exact (beq_eq_false_iff_ne.2 (fun e => by rw [e] at h; simp at h)).symm
 · exact (beq_iff_eq.2 (Nat.eq_of_beq_eq_true h)).symm
theorem nrm {A B : Prop} (h : B) (e : B → A := by intro h; (try simp only [minusK, onlyK, put, del, nbeq, List.elem, List.cons_append, List.nil_append, Nat.reduceBEq, cond_true, cond_false]); exact h) : A := e h
section
variable {P : Program} {c : Ctx} {sL hP : List (Nat × Ent)}
theorem cell_run {F : Nat → BS} {a : Act} {w : World} (H : HoldsF c (⟨sL, hP⟩ : St) F a w) {t ty k l e k' n : Nat} {h : Value} {q : PV} {cs : List PV} (hT : AggT P ty k = true) (ht : lk sL t = some (padd (sbase h) 0, q)) (hl : lk hP l = some (h, .own e k' n cs)) (hp : k ≤ cs.length) (hk : 0 < k) (hsh : (cs.take k).all isSh = true) :
 ∃ V A, (asAddr (a.tmps.getD t undef)).run P w = .ok A w ∧ (loadVar ty A).run P w = .ok V w ∧ Shr (mof c hP F) w V (.agg (cs.take k)) := by
 have hv := (H.sl t _ _ ht).1
 obtain ⟨xs, Fs, hrow, hlen, hTr, hd, hb, hF'⟩ := (H.tr l _ _ hl).row
 rcases row_form hrow with ⟨_, _, rfl⟩ | ⟨g, cap, rfl, h1, h2, h3⟩
 · simp at hlen; rw [hlen] at hp; simp at hp; omega
 refine ⟨.agg (xs.take k).toArray, ⟨g, 0, none⟩, ?_, ?_, .agg _ _ (by simp; omega) (fun i u p hu hp' => ?_)⟩
 · simp only [sbase, padd, Nat.zero_add] at hv
   simp [Array.getD_eq_getD_getElem?, hv, asAddr]
 · have hcl : ∀ i u, (xs.take k)[i]? = some u → w.cell? ((⟨g, 0, none⟩ : Addr).add i) = some u := fun i u hu => by
    have hi : i < k := by have := lt_of_get hu; simp at this; omega
    rw [List.getElem?_take_of_lt hi] at hu
    rw [add_none, Nat.zero_add]
    exact row_cell hrow hu
   have := run_loadCells_list (P := P) (w := w) ⟨g, 0, none⟩ _ hcl
   rw [show (xs.take k).length = k by simp; omega] at this
   simp [loadVar, AggT.run hT, AggT.size hT, this]
 · have hi : i < k := by have := lt_of_get hu; simp at this; omega
   have hps := List.all_eq_true.1 hsh p (List.mem_of_getElem? hp')
   rw [List.getElem?_take_of_lt hi] at hp' hu
   exact (hTr _ u p hu hp').sh hps
theorem ret_cell {fn : Func} {R : PV → Prop} {t ty k e k' n : Nat} {h : Value} {q : PV} {cs : List PV} (l : Nat) (hT : AggT P ty k = true) (hr : fn.results = #[.cell t ty]) (ht : lk sL t = some (padd (sbase h) 0, q)) (hl : lk hP l = some (h, .own e k' n cs)) (hp : k ≤ cs.length) (hk : 0 < k) (hsh : (cs.take k).all isSh = true) (hR : R (.agg (cs.take k))) (hN : ∀ b, ¬ c.N0 b := by intro _ h; exact h) (hdf : c.df = [] := by exact rfl) : aR c (bodyPost P fn (RetAF c R)) (⟨sL, hP⟩ : St) := fun a w ⟨F, H⟩ => by
 obtain ⟨V, A, h0, h1, h2⟩ := cell_run H hT ht hl hp hk hsh
 refine ⟨H.df.trans hdf, V, ?_, V, _, fun _ => False, rfl, hR, H.ext.ext (fun b _ => hN b), .shr (h2.anti fun b _ hb => ?_) (fun _ h => h), fun _ h => h.elim, H.dw⟩
 · simp only [results, hr]
   simp at h0
   simp [h0, h1]
 · rcases hb with hb | hb
   · exact .inl hb
   · exact hb.elim
theorem ret_cs {fn : Func} {R : PV → Prop} {t ty s k e k' n : Nat} {h u : Value} {q p : PV} {cs : List PV} (l : Nat) (hT : AggT P ty k = true) (hr : fn.results = #[.cell t ty, .tmp s]) (ht : lk sL t = some (padd (sbase h) 0, q)) (hl : lk hP l = some (h, .own e k' n cs)) (hs : lk sL s = some (u, p)) (hp : k ≤ cs.length) (hk : 0 < k) (hsh : (cs.take k).all isSh = true) (hR : R (.tup [.agg (cs.take k), p])) (hN : ∀ b, ¬ c.N0 b := by intro _ h; exact h) (hdf : c.df = [] := by exact rfl) : aR c (bodyPost P fn (RetAF c R)) (⟨sL, hP⟩ : St) := fun a w ⟨F, H⟩ => by
 obtain ⟨V, A, h0, h1, h2⟩ := cell_run H hT ht hl hp hk hsh
 obtain ⟨h3, h4⟩ := H.sl s _ _ hs
 have hM : ∀ b, b < w.heap.size → (c.M0 b ∨ False) → mof c hP F b := fun b _ hb => by
  rcases hb with hb | hb
  · exact .inl hb
  · exact hb.elim
 refine ⟨H.df.trans hdf, .tuple #[V, u], ?_, .tuple #[V, u], _, fun _ => False, rfl, hR, H.ext.ext (fun b _ => hN b), .shr (.tup [V, u] _ rfl fun i v q' hv hq' => ?_) (fun _ h => h), fun _ h => h.elim, H.dw⟩
 · simp only [results, hr]
   simp at h0
   simp [h0, h1, Array.getD_eq_getD_getElem?, h3]
 · match i with
   | 0 => simp at hv hq'; subst hv hq'; exact h2.anti hM
   | 1 => simp at hv hq'; subst hv hq'; exact h4.anti hM
   | i + 2 => simp at hv
end
end Go.En
namespace Go.Proofs.YtbfilfhgcihhoaaGreatDoor
open Go.RowKit Go.Cb Go.En
set_option linter.all false
set_option maxRecDepth 100000
abbrev pU8 (n : Int) : PV := .val (.int .u8 n)
theorem bool_val {a b : Bool} (h : a = true ↔ b = true) : pBool a = pBool b := by rw [Bool.eq_iff_iff.2 h]
theorem lt_of_arr {s : ByteArray} {i : Nat} {x : UInt8} (h : s.data[i]? = some x) : i < s.size := by
 rcases Nat.lt_or_ge i s.size with h1 | h1
 · exact h1
 · rw [Array.getElem?_eq_none h1] at h; cases h
theorem byte_at {s : ByteArray} {i : Nat} (h : i < s.size) : ∃ y, s.data[i]? = some y := ⟨s.data[i]'h, Array.getElem?_eq_getElem h⟩
theorem isName_short {s : ByteArray} (h : s.size < 1 ∨ 40 < s.size) : isName s = false := by
 unfold isName
 rcases h with h | h
 · rw [decide_eq_false (show ¬ 1 ≤ s.size by omega)]; simp
 · rw [decide_eq_false (show ¬ s.size ≤ 40 by omega)]; simp
theorem isName_let {s : ByteArray} {y : UInt8} (h0 : s.data[0]? = some y) (h : letterB y.toNat = false) : isName s = false := by
 unfold isName; rw [h0, Option.getD_some, h]; simp
theorem isName_bad {s : ByteArray} {k : Nat} {y : UInt8} (hy : s.data[k]? = some y) (h : partB y.toNat = false) : isName s = false := by
 unfold isName
 rw [Bool.and_eq_false_iff]; right
 rw [List.all_eq_false]
 exact ⟨y, Array.mem_toList_iff.2 (Array.mem_of_getElem? hy), by rw [h]; simp⟩
theorem isName_good {s : ByteArray} {y : UInt8} (h1 : 1 ≤ s.size) (h2 : s.size ≤ 40) (h0 : s.data[0]? = some y) (hl : letterB y.toNat = true) (h : ∀ j z, j < s.size → s.data[j]? = some z → partB z.toNat = true) : isName s = true := by
 unfold isName
 rw [h0, Option.getD_some, hl, decide_eq_true h1, decide_eq_true h2]
 simp only [Bool.and_self, Bool.true_and, List.all_eq_true]
 intro x hx
 obtain ⟨i, hi⟩ := Array.getElem?_of_mem (Array.mem_toList_iff.1 hx)
 exact h i x (lt_of_arr hi) hi
theorem letter_e (c : Int) : AF Tryz.prog 129 [pU8 c] (· = pBool (letterB c)) := by
 refine AF.of_body 17 Tryz.func129 rfl Tryz.ntmps129 (Nat.le_of_ble_eq_true rfl) ?_
 intro w0 M0 vs hl hv
 obtain ⟨v0, rfl⟩ := len1 hl
 obtain rfl := hv 0 _ _ rfl rfl
 clear hl hv
 refine nav ?_
 (refine aC_region ?_ <;> refine xL 2 q_assign ?_ <;> refine aL_end (nav ?_) <;> try dsimp only)
 (refine aC_region ?_ <;> refine xL 3 q_move ?_ <;> refine xL 4 q_geq ?_ <;> refine xL 5 q_move ?_ <;> (refine bLd 5 (fun hb5 => ?_) (fun hb5 => ?_) <;> (first | refine kL 6 ?_ | refine xL 6 q_move ?_)) <;> (first | refine kL 7 ?_ | refine xL 7 q_leq ?_) <;> refine xL 8 q_pick ?_ <;> refine xL 9 q_move ?_ <;> (first | refine xL 10 q_move ?_ | (refine bLd 9 (fun hb9 => ?_) (fun hb9 => ?_) <;> (first | refine kL 10 ?_ | refine xL 10 q_move ?_))) <;> (first | refine kL 11 ?_ | refine xL 11 q_geq ?_) <;> (first | refine kL 12 ?_ | refine xL 12 q_move ?_) <;> (first | refine kL 13 ?_ | (refine bLd 12 (fun hb12 => ?_) (fun hb12 => ?_) <;> (first | refine kL 13 ?_ | refine xL 13 q_move ?_))) <;> (first | refine kL 14 ?_ | refine xL 14 q_leq ?_) <;> (first | refine kL 15 ?_ | refine xL 15 q_pick ?_) <;> refine xL 16 q_pick ?_ <;> refine xL 2 q_assign ?_ <;> refine aL_end (nav ?_) <;> try dsimp only) <;> (
  refine ret_shr (Tryz.results129) rfl (bool_val ?_)
  simp only [letterB, Bool.or_eq_true, Bool.and_eq_true, decide_eq_true_eq, true_iff, false_iff, Bool.false_eq_true] <;> omega)
theorem part_e (c : Int) : AF Tryz.prog 130 [pU8 c] (· = pBool (partB c)) := by
 refine AF.of_body 25 Tryz.func130 rfl Tryz.ntmps130 (Nat.le_of_ble_eq_true rfl) ?_
 intro w0 M0 vs hl hv
 obtain ⟨v0, rfl⟩ := len1 hl
 obtain rfl := hv 0 _ _ rfl rfl
 clear hl hv
 refine nav ?_
 (refine aC_region ?_ <;> refine xL 2 q_assign ?_ <;> refine aL_end (nav ?_) <;> try dsimp only)
 (refine aC_region ?_ <;> refine xL 3 q_move ?_ <;> (refine cS 4 (cA Tryz.call129 (letter_e c)) fun v4 hv4 => ?_; cases hv4) <;> refine xL 5 q_move ?_ <;> (refine bL 5 (fun hb5 => ?_) (fun hb5 => ?_) <;> (first | refine kL 6 ?_ | refine xL 6 q_move ?_)) <;> (first | refine kL 7 ?_ | refine xL 7 q_geq ?_) <;> (first | refine kL 8 ?_ | refine xL 8 q_move ?_) <;> (first | refine kL 9 ?_ | (refine bLd 8 (fun hb8 => ?_) (fun hb8 => ?_) <;> (first | refine kL 9 ?_ | refine xL 9 q_move ?_))) <;> (first | refine kL 10 ?_ | refine xL 10 q_leq ?_) <;> (first | refine kL 11 ?_ | refine xL 11 q_pick ?_) <;> refine xL 12 q_pick ?_ <;> refine xL 13 q_move ?_ <;> (first | refine kL 14 ?_ | refine xL 14 q_move ?_ | (refine bLd 13 (fun hb13 => ?_) (fun hb13 => ?_) <;> (first | refine kL 14 ?_ | refine xL 14 q_move ?_))) <;> (first | refine kL 15 ?_ | refine xL 15 q_eql ?_) <;> refine xL 16 q_pick ?_ <;> refine xL 17 q_move ?_ <;> (first | refine kL 18 ?_ | (refine bLd 17 (fun hb17 => ?_) (fun hb17 => ?_) <;> (first | refine kL 18 ?_ | refine xL 18 q_move ?_))) <;> (first | refine kL 19 ?_ | refine xL 19 q_eql ?_) <;> refine xL 20 q_pick ?_ <;> refine xL 21 q_move ?_ <;> (first | refine kL 22 ?_ | (refine bLd 21 (fun hb21 => ?_) (fun hb21 => ?_) <;> (first | refine kL 22 ?_ | refine xL 22 q_move ?_))) <;> (first | refine kL 23 ?_ | refine xL 23 q_eql ?_) <;> refine xL 24 q_pick ?_ <;> refine xL 2 q_assign ?_ <;> refine aL_end (nav ?_) <;> try dsimp only) <;> (
  refine ret_shr (Tryz.results130) rfl (bool_val ?_)
  simp only [partB, Bool.or_eq_true, Bool.and_eq_true, decide_eq_true_eq, true_iff, false_iff, Bool.false_eq_true, beq_iff_eq] <;> simp_all <;> omega)
theorem isName_e (s : ByteArray) (hs : s.size ≤ 9223372036854775807) : AF Tryz.prog 103 [pStr s] (· = pBool (isName s)) := by
 refine AF.of_body 29 Tryz.func103 rfl Tryz.ntmps103 (Nat.le_of_ble_eq_true rfl) ?_
 intro w0 M0 vs hl hv
 obtain ⟨v0, rfl⟩ := len1 hl
 obtain rfl := hv 0 _ _ rfl rfl
 clear hl hv
 refine nav ?_
 (refine aC_region ?_ <;> refine xL 2 q_assign ?_ <;> refine aL_end (nav ?_) <;> try dsimp only)
 (refine aC_region ?_ <;> refine xL 4 q_move ?_ <;> refine xL 5 (q_slen Tryz.underlying9) ?_ <;> refine xL 6 q_lss ?_ <;> refine xL 7 q_move ?_ <;> (refine bLd 7 (fun hb7 => ?_) (fun hb7 => ?_) <;> (first | refine kL 8 ?_ | refine xL 8 q_move ?_)) <;> (first | refine kL 9 ?_ | refine xL 9 (q_slen Tryz.underlying9) ?_) <;> (first | refine kL 10 ?_ | refine xL 10 q_gtr ?_) <;> refine xL 11 q_pick ?_ <;> refine xL 12 q_move ?_ <;> (first | refine kL 13 ?_ | (refine bLd 12 (fun hb12 => ?_) (fun hb12 => ?_) <;> (first | refine kL 13 ?_ | refine xL 13 q_move ?_))) <;> (first | refine kL 14 ?_ | (refine (byte_at (i := 0) (s := s) (by omega)).elim fun y0 hy0 => ?_; refine xL 14 (q_index Tryz.underlying9) ?_)) <;> (first | refine kL 15 ?_ | (refine cS 15 (cA Tryz.call129 (letter_e y0.toNat)) fun v15 hv15 => ?_; cases hv15)) <;> (first | refine kL 16 ?_ | refine xL 16 q_not ?_) <;> refine xL 17 q_pick ?_ <;> refine aL_end (nav ?_) <;> try dsimp only) <;> (
  (first | refine cCd ?_ ?_ | refine cC ?_ ?_) <;> intro hb17
  · first
    | exact Bool.noConfusion hb17
    | (
     refine nav ?_
     (refine aC_region ?_ <;> refine xL 2 q_assign ?_ <;> refine aL_end (nav ?_) <;> try dsimp only)
     refine ret_shr (Tryz.results103) rfl ?_
     first | rw [isName_short (by omega)] | rw [isName_let hy0 (by simpa using hb17)])
  · first
    | exact Bool.noConfusion hb17
    | (
     refine nav ?_
     (refine aC_region ?_ <;> refine xL 18 q_move ?_ <;> refine xL 19 (q_slen Tryz.underlying9) ?_ <;> refine xL 20 q_move ?_ <;> refine aL_end (nav ?_) <;> try dsimp only)
     refine aC_loop (ι := { k : Nat // k ≤ s.size ∧ ∀ j y, j < k → s.data[j]? = some y → partB y.toNat = true }) (fun k => ⟨[(0, _, _), (19, _, _), (20, .int .i64 k.1, pInt k.1)], []⟩) (fun k => s.size - k.1) ⟨0, by omega, by omega⟩ (fun a w H => H.weaken ⟨rfl, rfl, rfl, trivial⟩ trivial) ?_
     rintro ⟨k, hk, hp⟩
     dsimp only
     refine nav ?_
     (refine aC_region ?_ <;> refine xL 21 q_lss ?_ <;> refine aL_end (nav ?_) <;> try dsimp only)
     (first | refine cCd ?_ ?_ | refine cC ?_ ?_) <;> intro hb21
     · first
       | exact Bool.noConfusion hb21
       | (
        have hlt : k < s.size := by omega
        obtain ⟨y, hy⟩ := byte_at (s := s) (i := k) (by omega)
        refine nav ?_
        (refine aC_region ?_ <;> refine xL 22 q_move ?_ <;> refine xL 3 q_assign ?_ <;> refine aL_end (nav ?_) <;> try dsimp only)
        (refine aC_region ?_ <;> refine xL 23 q_move ?_ <;> refine xL 24 q_move ?_ <;> refine xL 25 (q_index Tryz.underlying9) ?_ <;> (refine cS 26 (cA Tryz.call130 (part_e y.toNat)) fun v26 hv26 => ?_; cases hv26) <;> refine xL 27 q_not ?_ <;> refine aL_end (nav ?_) <;> try dsimp only)
        (first | refine cCd ?_ ?_ | refine cC ?_ ?_) <;> intro hb27
        · first
          | exact Bool.noConfusion hb27
          | (
           refine nav ?_
           (refine aC_region ?_ <;> refine xL 2 q_assign ?_ <;> refine aL_end (nav ?_) <;> try dsimp only)
           refine ret_shr (Tryz.results103) rfl ?_
           rw [isName_bad hy (by simpa using hb27)])
        · first
          | exact Bool.noConfusion hb27
          | (
           refine nav ?_
           (refine aC_region ?_ <;> refine xL 28 q_add ?_ <;> refine xL 20 q_move ?_ <;> refine aL_end (nav ?_) <;> try dsimp only)
           refine aN_again (
            ⟨k + 1, by omega, fun j z hj hz => by
             by_cases e : j = k
             · subst e; rw [hy] at hz; cases hz; simpa using hb27
             · exact hp j z (by omega) hz⟩
            ) (by dsimp only; omega) ⟨rfl, rfl, rfl, trivial⟩ trivial))
     · first
       | exact Bool.noConfusion hb21
       | (
        refine nav ?_
        (refine aC_region ?_ <;> refine xL 2 q_assign ?_ <;> refine aL_end (nav ?_) <;> try dsimp only)
        refine ret_shr (Tryz.results103) rfl ?_
        rw [isName_good (by omega) (by omega) hy0 (by simpa using hb17) (fun j z hj hz => hp j z (by omega) hz)])))
theorem rLetter_e (c : Int) : AF Tryz.prog 127 [pU8 c] (· = pBool (letterB c)) := by
 refine AF.of_body 17 Tryz.func127 rfl Tryz.ntmps127 (Nat.le_of_ble_eq_true rfl) ?_
 intro w0 M0 vs hl hv
 obtain ⟨v0, rfl⟩ := len1 hl
 obtain rfl := hv 0 _ _ rfl rfl
 clear hl hv
 refine nav ?_
 (refine aC_region ?_ <;> refine xL 2 q_assign ?_ <;> refine aL_end (nav ?_) <;> try dsimp only)
 (refine aC_region ?_ <;> refine xL 3 q_move ?_ <;> refine xL 4 q_geq ?_ <;> refine xL 5 q_move ?_ <;> (refine bLd 5 (fun hb5 => ?_) (fun hb5 => ?_) <;> (first | refine kL 6 ?_ | refine xL 6 q_move ?_)) <;> (first | refine kL 7 ?_ | refine xL 7 q_leq ?_) <;> refine xL 8 q_pick ?_ <;> refine xL 9 q_move ?_ <;> (first | refine xL 10 q_move ?_ | (refine bLd 9 (fun hb9 => ?_) (fun hb9 => ?_) <;> (first | refine kL 10 ?_ | refine xL 10 q_move ?_))) <;> (first | refine kL 11 ?_ | refine xL 11 q_geq ?_) <;> (first | refine kL 12 ?_ | refine xL 12 q_move ?_) <;> (first | refine kL 13 ?_ | (refine bLd 12 (fun hb12 => ?_) (fun hb12 => ?_) <;> (first | refine kL 13 ?_ | refine xL 13 q_move ?_))) <;> (first | refine kL 14 ?_ | refine xL 14 q_leq ?_) <;> (first | refine kL 15 ?_ | refine xL 15 q_pick ?_) <;> refine xL 16 q_pick ?_ <;> refine xL 2 q_assign ?_ <;> refine aL_end (nav ?_) <;> try dsimp only) <;> (
  refine ret_shr (Tryz.results127) rfl (bool_val ?_)
  simp only [letterB, Bool.or_eq_true, Bool.and_eq_true, decide_eq_true_eq, true_iff, false_iff, Bool.false_eq_true] <;> omega)
theorem rIsName_e (s : ByteArray) (hs : s.size ≤ 9223372036854775807) : AF Tryz.prog 100 [pStr s] (· = pBool (isName s)) := by
 refine AF.of_body 52 Tryz.func100 rfl Tryz.ntmps100 (Nat.le_of_ble_eq_true rfl) ?_
 intro w0 M0 vs hl hv
 obtain ⟨v0, rfl⟩ := len1 hl
 obtain rfl := hv 0 _ _ rfl rfl
 clear hl hv
 refine nav ?_
 (refine aC_region ?_ <;> refine xL 2 q_assign ?_ <;> refine aL_end (nav ?_) <;> try dsimp only)
 (refine aC_region ?_ <;> refine xL 5 q_move ?_ <;> refine xL 6 (q_slen Tryz.underlying9) ?_ <;> refine xL 7 q_lss ?_ <;> refine xL 8 q_move ?_ <;> (refine bLd 8 (fun hb8 => ?_) (fun hb8 => ?_) <;> (first | refine kL 9 ?_ | refine xL 9 q_move ?_)) <;> (first | refine kL 10 ?_ | refine xL 10 (q_slen Tryz.underlying9) ?_) <;> (first | refine kL 11 ?_ | refine xL 11 q_gtr ?_) <;> refine xL 12 q_pick ?_ <;> refine xL 13 q_move ?_ <;> (first | refine kL 14 ?_ | (refine bLd 13 (fun hb13 => ?_) (fun hb13 => ?_) <;> (first | refine kL 14 ?_ | refine xL 14 q_move ?_))) <;> (first | refine kL 15 ?_ | (refine (byte_at (i := 0) (s := s) (by omega)).elim fun y0 hy0 => ?_; refine xL 15 (q_index Tryz.underlying9) ?_)) <;> (first | refine kL 16 ?_ | (refine cS 16 (cA Tryz.call127 (rLetter_e y0.toNat)) fun v16 hv16 => ?_; cases hv16)) <;> (first | refine kL 17 ?_ | refine xL 17 q_not ?_) <;> refine xL 18 q_pick ?_ <;> refine aL_end (nav ?_) <;> try dsimp only) <;> (
  (first | refine cCd ?_ ?_ | refine cC ?_ ?_) <;> intro hb18
  · first
    | exact Bool.noConfusion hb18
    | (
     refine nav ?_
     (refine aC_region ?_ <;> refine xL 2 q_assign ?_ <;> refine aL_end (nav ?_) <;> try dsimp only)
     refine ret_shr (Tryz.results100) rfl ?_
     first | rw [isName_short (by omega)] | rw [isName_let hy0 (by simpa using hb18)])
  · first
    | exact Bool.noConfusion hb18
    | (
     refine nav ?_
     (refine aC_region ?_ <;> refine xL 3 q_assign ?_ <;> refine aL_end (nav ?_) <;> try dsimp only)
     have h0 : ∀ (j : Nat) z, j < 1 → s.data[j]? = some z → partB z.toNat = true := fun j z hj hz => by
      obtain rfl : j = 0 := by omega
      rw [hy0] at hz; cases hz
      unfold partB; rw [show letterB y0.toNat = true by simpa using hb18]; rfl
     refine aC_loop (ι := { k : Nat // 1 ≤ k ∧ k ≤ s.size ∧ ∀ j y, j < k → s.data[j]? = some y → partB y.toNat = true }) (fun k => ⟨[(0, _, _), (3, .int .i64 k.1, pInt k.1)], []⟩) (fun k => s.size - k.1) ⟨1, by omega, by omega, h0⟩ (fun a w H => H.weaken ⟨rfl, rfl, trivial⟩ trivial) ?_
     rintro ⟨k, hk1, hk, hp⟩
     dsimp only
     refine nav ?_
     (refine aC_region ?_ <;> refine xL 19 q_move ?_ <;> refine xL 20 q_move ?_ <;> refine xL 21 (q_slen Tryz.underlying9) ?_ <;> refine xL 22 q_lss ?_ <;> refine aL_end (nav ?_) <;> try dsimp only)
     (first | refine cCd ?_ ?_ | refine cC ?_ ?_) <;> intro hb22
     · first
       | exact Bool.noConfusion hb22
       | (
        have hlt : k < s.size := by omega
        obtain ⟨y, hy⟩ := byte_at (s := s) (i := k) (by omega)
        refine nav ?_
        (refine aC_region ?_ <;> refine xL 25 q_move ?_ <;> refine xL 26 q_move ?_ <;> refine xL 27 (q_index Tryz.underlying9) ?_ <;> refine xL 4 q_assign ?_ <;> refine aL_end (nav ?_) <;> try dsimp only)
        (refine aC_region ?_ <;> refine xL 28 q_move ?_ <;> (refine cS 29 (cA Tryz.call127 (rLetter_e y.toNat)) fun v29 hv29 => ?_; cases hv29) <;> refine xL 30 q_not ?_ <;> refine xL 31 q_move ?_ <;> (refine bL 31 (fun hb31 => ?_) (fun hb31 => ?_) <;> (first | refine kL 32 ?_ | refine xL 32 q_move ?_)) <;> (first | refine kL 33 ?_ | refine xL 33 q_geq ?_) <;> (first | refine kL 34 ?_ | refine xL 34 q_move ?_) <;> (first | refine kL 35 ?_ | (refine bLd 34 (fun hb34 => ?_) (fun hb34 => ?_) <;> (first | refine kL 35 ?_ | refine xL 35 q_move ?_))) <;> (first | refine kL 36 ?_ | refine xL 36 q_leq ?_) <;> (first | refine kL 37 ?_ | refine xL 37 q_pick ?_) <;> (first | refine kL 38 ?_ | refine xL 38 q_not ?_) <;> refine xL 39 q_pick ?_ <;> refine xL 40 q_move ?_ <;> (first | refine kL 41 ?_ | refine xL 41 q_move ?_ | (refine bL 40 (fun hb40 => ?_) (fun hb40 => ?_) <;> (first | refine kL 41 ?_ | refine xL 41 q_move ?_))) <;> (first | refine kL 42 ?_ | refine xL 42 q_neq ?_) <;> refine xL 43 q_pick ?_ <;> refine xL 44 q_move ?_ <;> (first | refine kL 45 ?_ | (refine bLd 44 (fun hb44 => ?_) (fun hb44 => ?_) <;> (first | refine kL 45 ?_ | refine xL 45 q_move ?_))) <;> (first | refine kL 46 ?_ | refine xL 46 q_neq ?_) <;> refine xL 47 q_pick ?_ <;> refine xL 48 q_move ?_ <;> (first | refine kL 49 ?_ | (refine bLd 48 (fun hb48 => ?_) (fun hb48 => ?_) <;> (first | refine kL 49 ?_ | refine xL 49 q_move ?_))) <;> (first | refine kL 50 ?_ | refine xL 50 q_neq ?_) <;> refine xL 51 q_pick ?_ <;> refine aL_end (nav ?_) <;> try dsimp only) <;> (
         (first | refine cCd ?_ ?_ | refine cC ?_ ?_) <;> intro hb51
         · first
           | exact Bool.noConfusion hb51
           | (
            refine nav ?_
            (refine aC_region ?_ <;> refine xL 2 q_assign ?_ <;> refine aL_end (nav ?_) <;> try dsimp only)
            refine ret_shr (Tryz.results100) rfl ?_
            rw [isName_bad hy]
            rw [Bool.eq_false_iff]; intro hpb
            simp only [partB, Bool.or_eq_true, Bool.and_eq_true, decide_eq_true_eq, beq_iff_eq] at hpb
            simp_all
            try omega)
         · first
           | exact Bool.noConfusion hb51
           | (
            refine nav ?_
            (refine aC_region ?_ <;> refine xL 23 q_move ?_ <;> refine xL 24 q_add ?_ <;> refine xL 3 q_assign ?_ <;> refine aL_end (nav ?_) <;> try dsimp only)
            refine aN_again (
             ⟨k + 1, by omega, by omega, fun j z hj hz => by
              by_cases e : j = k
              · subst e; rw [hy] at hz; cases hz
                simp only [partB, Bool.or_eq_true, Bool.and_eq_true, decide_eq_true_eq, beq_iff_eq]
                simp_all
                try omega
              · exact hp j z (by omega) hz⟩
             ) (by dsimp only; omega) ⟨rfl, rfl, trivial⟩ trivial)))
     · first
       | exact Bool.noConfusion hb22
       | (
        refine nav ?_
        (refine aC_region ?_ <;> refine xL 2 q_assign ?_ <;> refine aL_end (nav ?_) <;> try dsimp only)
        refine ret_shr (Tryz.results100) rfl ?_
        rw [isName_good (by omega) (by omega) hy0 (by simpa using hb18) (fun j z hj hz => hp j z (by omega) hz)])))
end Go.Proofs.YtbfilfhgcihhoaaGreatDoor
namespace Go.Cb
open Go.RowKit
set_option linter.all false
open Go.RowKit Go.WideMaps
structure MapT (P : Program) (t ks e : Nat) : Prop where
 ht : P.underlying t = some (.map ks e)
 hk : P.underlying ks = some .string
 he : P.underlying e = some (.int .i64)
 hz : ∀ w, (zeroValue e).run P w = .ok (.int .i64 0) w
def MapR (P : Program) (ks e : Nat) (w : World) (b n : Nat) (f : ByteArray → Option Int) : Prop :=
 ∃ D : DataW Unit, w.ownsMap P ks (plainElem P e) b n D ∧ ∀ s : ByteArray, Maps.has D (.string s.data.toList) = (f s).isSome ∧ D.atKey (.string s.data.toList) (.lit (.int .i64 0)) = .lit (.int .i64 ((f s).getD 0))
theorem MapR.lt {P : Program} {ks e : Nat} {w : World} {b n : Nat} {f : ByteArray → Option Int} (h : MapR P ks e w b n f) : b < w.heap.size := let ⟨_, h1, _⟩ := h; h1.lt
theorem MapR.mono {P : Program} {ks e : Nat} {w : World} {b n m : Nat} {f : ByteArray → Option Int} (h : MapR P ks e w b n f) (hm : n ≤ m) : MapR P ks e w b m f := let ⟨D, h1, h2⟩ := h; ⟨D, h1.mono hm, h2⟩
theorem MapR.mv {P : Program} {ks e : Nat} {w w' : World} {b n : Nat} {f : ByteArray → Option Int} {N : Mut} (h : MapR P ks e w b n f) (hc : Chg N w w') (hN : ¬ N b) : MapR P ks e w' b n f := by
 have hl := h.lt
 obtain ⟨D, ⟨es, clock, hb, h1⟩, h2⟩ := h
 exact ⟨D, ⟨es, clock, (hc.block b hl hN).trans hb, h1⟩, h2⟩
theorem MapR.up {P : Program} {ks e : Nat} {w w' : World} {b n : Nat} {f : ByteArray → Option Int} (h : MapR P ks e w b n f) (hc : Ext w w') : MapR P ks e w' b n f := h.mv (hc.chg (M := fun _ => False)) (fun h => h)
theorem strEq_iff {a b : ByteArray} : strEq a b = true ↔ a = b := by
 unfold strEq
 rw [beq_iff_eq, ByteArray.toList_eq, ByteArray.toList_eq]
 exact ⟨fun h => WideShapes.bytes_inj h, fun h => by rw [h]⟩
theorem bl_irrefl : ∀ l : List UInt8, Op.bytesLess l l = false
 | [] => rfl
 | a :: l => by simp [Op.bytesLess, bl_irrefl l, UInt8.lt_irrefl]
theorem bl_trans : ∀ a b c : List UInt8, Op.bytesLess a b = true → Op.bytesLess b c = true → Op.bytesLess a c = true
 | _, _, [], _, h => by cases h' : (‹List UInt8› : List UInt8) <;> simp_all [Op.bytesLess]
 | _, [], _ :: _, h, _ => by simp [Op.bytesLess] at h
 | [], _ :: _, _ :: _, _, _ => rfl
 | x :: a, y :: b, z :: c, h1, h2 => by
   simp only [Op.bytesLess, Bool.or_eq_true, Bool.and_eq_true, decide_eq_true_eq, beq_iff_eq] at h1 h2 ⊢
   rcases h1 with h1 | ⟨rfl, h1⟩
   · rcases h2 with h2 | ⟨rfl, h2⟩
     · exact .inl (UInt8.lt_trans h1 h2)
     · exact .inl h1
   · rcases h2 with h2 | ⟨rfl, h2⟩
     · exact .inl h2
     · exact .inr ⟨rfl, bl_trans a b c h1 h2⟩
theorem bl_total : ∀ a b : List UInt8, Op.bytesLess a b = false → Op.bytesLess b a = false → a = b
 | [], [], _, _ => rfl
 | [], _ :: _, h, _ => by simp [Op.bytesLess] at h
 | _ :: _, [], _, h => by simp [Op.bytesLess] at h
 | x :: a, y :: b, h1, h2 => by
   simp only [Op.bytesLess, Bool.or_eq_false_iff, decide_eq_false_iff_not] at h1 h2
   have hxy : x = y := UInt8.le_antisymm (UInt8.not_lt.1 h2.1) (UInt8.not_lt.1 h1.1)
   subst hxy
   simp only [beq_self_eq_true, Bool.true_and] at h1 h2
   rw [bl_total a b h1.2 h2.2]
theorem strLt_irrefl (a : ByteArray) : strLt a a = false := bl_irrefl _
theorem strLt_trans {a b c : ByteArray} (h : strLt a b = true) (k : strLt b c = true) : strLt a c = true := bl_trans _ _ _ h k
theorem strLt_total {a b : ByteArray} (h : strLt a b = false) (k : strLt b a = false) : a = b := by
 have := bl_total _ _ h k
 rw [ByteArray.toList_eq, ByteArray.toList_eq] at this
 exact WideShapes.bytes_inj this
theorem cmpStr_zero {a b : ByteArray} : cmpStr a b = 0 ↔ a = b := by
 unfold cmpStr
 constructor
 · intro h
   split at h
   · omega
   · split at h
     · rename_i h2; exact strEq_iff.1 h2
     · omega
 · rintro rfl
   rw [strLt_irrefl, strEq_iff.2 rfl]; rfl
def Nodup (r : List Var) : Prop := r.Pairwise fun x y => x.acts ≠ y.acts
theorem Nodup.perm {r s : List Var} (h : Nodup r) (p : r.Perm s) : Nodup s := (p.pairwise_iff (fun {x y} h => Ne.symm h)).1 h
end Go.Cb
namespace Go.Proofs.YtbfilfhgcihhoaaGreatDoor
open Go.RowKit Go.Cb Go.En
set_option linter.all false
theorem cmpStr_tri (x y : ByteArray) : cmpStr x y = -1 ∨ cmpStr x y = 0 ∨ cmpStr x y = 1 := by
 have := cmpStr_bd x y; omega
theorem cmpStr_cases (x y : ByteArray) : (strLt x y = true ∧ strLt y x = false ∧ x ≠ y ∧ cmpStr x y = -1 ∧ cmpStr y x = 1) ∨ (x = y ∧ cmpStr x y = 0 ∧ cmpStr y x = 0) ∨ (strLt y x = true ∧ strLt x y = false ∧ x ≠ y ∧ cmpStr x y = 1 ∧ cmpStr y x = -1) := by
 have hno : ∀ {a b : ByteArray}, strLt a b = true → strLt b a = false ∧ a ≠ b := fun {a b} h => by
  have h1 := strLt_irrefl a
  have h2 := strLt_irrefl b
  refine ⟨?_, fun e => by subst e; rw [h] at h1; cases h1⟩
  cases h3 : strLt b a with
  | false => rfl
  | true => rw [strLt_trans h h3] at h1; cases h1
 have heq : ∀ a : ByteArray, strEq a a = true := fun a => strEq_iff.2 rfl
 have hne : ∀ {a b : ByteArray}, a ≠ b → strEq a b = false := fun {a b} h => by
  cases h1 : strEq a b with
  | false => rfl
  | true => exact absurd (strEq_iff.1 h1) h
 unfold cmpStr
 cases h : strLt x y with
 | true =>
   obtain ⟨h1, h2⟩ := hno h
   refine .inl ⟨rfl, h1, h2, by simp, ?_⟩
   rw [h1, hne (Ne.symm h2)]; rfl
 | false =>
   cases h' : strLt y x with
   | true =>
     obtain ⟨h1, h2⟩ := hno h'
     refine .inr (.inr ⟨rfl, rfl, Ne.symm h2, ?_, by simp⟩)
     rw [hne (Ne.symm h2)]; rfl
   | false =>
     have e := strLt_total h h'
     subst e
     refine .inr (.inl ⟨rfl, ?_, ?_⟩) <;> simp [heq]
theorem cmpStr_anti (x y : ByteArray) : cmpStr y x = - cmpStr x y := by
 rcases cmpStr_cases x y with ⟨_, _, _, h1, h2⟩ | ⟨_, h1, h2⟩ | ⟨_, _, _, h1, h2⟩ <;> omega
theorem cmpStr_zero (x y : ByteArray) : cmpStr x y = 0 ↔ x = y := by
 rcases cmpStr_cases x y with ⟨_, _, h0, h1, h2⟩ | ⟨h0, h1, h2⟩ | ⟨_, _, h0, h1, h2⟩
 · exact ⟨fun h => by omega, fun h => absurd h h0⟩
 · exact ⟨fun _ => h0, fun _ => h1⟩
 · exact ⟨fun h => by omega, fun h => absurd h h0⟩
theorem cmpStr_m1 {x y : ByteArray} : cmpStr x y = -1 ↔ strLt x y = true := by
 rcases cmpStr_cases x y with ⟨h0, _, _, h1, h2⟩ | ⟨h0, h1, h2⟩ | ⟨_, h0, _, h1, h2⟩
 · exact ⟨fun _ => h0, fun _ => h1⟩
 · subst h0; rw [strLt_irrefl]; exact ⟨fun h => by omega, fun h => by cases h⟩
 · rw [h0]; exact ⟨fun h => by omega, fun h => by cases h⟩
theorem cmpStr_tr (x y z : ByteArray) (h : cmpStr x y = -1) (h' : cmpStr y z = -1) : cmpStr x z = -1 := cmpStr_m1.2 (strLt_trans (cmpStr_m1.1 h) (cmpStr_m1.1 h'))
inductive Nd where
 | mk (op : Int) (act : ByteArray) (l : List Nd)
section
def Nd.op : Nd → Int
 | .mk o _ _ => o
def Nd.act : Nd → ByteArray
 | .mk _ a _ => a
def Nd.l : Nd → List Nd
 | .mk _ _ l => l
theorem Nd.ind {P : Nd → Prop} (h : ∀ o a l, (∀ x ∈ l, P x) → P (.mk o a l)) : ∀ t, P t := fun t =>
 Nd.rec (motive_1 := P) (motive_2 := fun l => ∀ x ∈ l, P x) (fun o a l ih => h o a l ih) (fun _ hx => by cases hx) (fun x l hx hl y hy => by
  rcases List.mem_cons.1 hy with rfl | hy
  · exact hx
  · exact hl y hy) t
def cmpI3 (a b : Int) : Int := if a < b then -1 else if b < a then 1 else 0
def or3 (a b c : Int) : Int := if a ≠ 0 then a else if b ≠ 0 then b else c
mutual
def cmpT : Nd → Nd → Int
 | .mk o a l, .mk o' a' l' => or3 (cmpI3 o o') (cmpStr a a') (cmpL l l')
def cmpL : List Nd → List Nd → Int
 | [], [] => 0
 | [], _ :: _ => -1
 | _ :: _, [] => 1
 | x :: l, y :: m => if cmpT x y ≠ 0 then cmpT x y else cmpL l m
end
theorem cmpI3_tri (a b : Int) : cmpI3 a b = -1 ∨ cmpI3 a b = 0 ∨ cmpI3 a b = 1 := by unfold cmpI3; split <;> (try split) <;> omega
theorem cmpI3_anti (a b : Int) : cmpI3 b a = - cmpI3 a b := by unfold cmpI3; split <;> (try split) <;> (try split) <;> omega
theorem cmpI3_zero (a b : Int) : cmpI3 a b = 0 ↔ a = b := by unfold cmpI3; split <;> (try split) <;> omega
theorem cmpI3_lt (a b c : Int) (h : cmpI3 a b = -1) (h' : cmpI3 b c = -1) : cmpI3 a c = -1 := by
 unfold cmpI3 at *
 split at h
 · split at h'
   · rw [if_pos (by omega)]
   · split at h' <;> omega
 · split at h <;> omega
theorem or3_tri {a b c : Int} (ha : a = -1 ∨ a = 0 ∨ a = 1) (hb : b = -1 ∨ b = 0 ∨ b = 1) (hc : c = -1 ∨ c = 0 ∨ c = 1) : or3 a b c = -1 ∨ or3 a b c = 0 ∨ or3 a b c = 1 := by unfold or3; split <;> (try split) <;> omega
theorem or3_neg (a b c : Int) : or3 (-a) (-b) (-c) = - or3 a b c := by unfold or3; split <;> split <;> (try split) <;> (try split) <;> omega
theorem or3_zero {a b c : Int} : or3 a b c = 0 ↔ a = 0 ∧ b = 0 ∧ c = 0 := by unfold or3; split <;> (try split) <;> omega
theorem or3_m1 {a b c : Int} : or3 a b c = -1 ↔ a = -1 ∨ (a = 0 ∧ (b = -1 ∨ (b = 0 ∧ c = -1))) := by unfold or3; split <;> (try split) <;> omega
theorem cmpL_tri : ∀ (l : List Nd), (∀ x ∈ l, ∀ y, cmpT x y = -1 ∨ cmpT x y = 0 ∨ cmpT x y = 1) → ∀ m, cmpL l m = -1 ∨ cmpL l m = 0 ∨ cmpL l m = 1
 | [], _, m => by cases m <;> simp [cmpL]
 | x :: l, h, m => by
   cases m with
   | nil => simp [cmpL]
   | cons y m =>
     rw [cmpL]
     split
     · exact h x (List.mem_cons_self ..) y
     · exact cmpL_tri l (fun y hy => h y (List.mem_cons_of_mem _ hy)) m
theorem cmpL_anti : ∀ (l : List Nd), (∀ x ∈ l, ∀ y, cmpT y x = - cmpT x y) → ∀ m, cmpL m l = - cmpL l m
 | [], _, m => by cases m <;> simp [cmpL]
 | x :: l, h, m => by
   cases m with
   | nil => simp [cmpL]
   | cons y m =>
     rw [cmpL, cmpL, h x (List.mem_cons_self ..) y]
     have ih := cmpL_anti l (fun y hy => h y (List.mem_cons_of_mem _ hy)) m
     by_cases h0 : cmpT x y = 0
     · rw [if_neg (by omega), if_neg (by omega)]; exact ih
     · rw [if_pos (by omega), if_pos h0]
theorem cmpL_zero : ∀ (l : List Nd), (∀ x ∈ l, ∀ y, cmpT x y = 0 ↔ x = y) → ∀ m, cmpL l m = 0 ↔ l = m
 | [], _, m => by cases m <;> simp [cmpL]
 | x :: l, h, m => by
   cases m with
   | nil => simp [cmpL]
   | cons y m =>
     rw [cmpL]
     have h1 := h x (List.mem_cons_self ..) y
     have ih := cmpL_zero l (fun y hy => h y (List.mem_cons_of_mem _ hy)) m
     by_cases h0 : cmpT x y = 0
     · rw [if_neg (by omega), ih, h1.1 h0]; simp
     · rw [if_pos h0]
       exact ⟨fun h => absurd h h0, fun h => absurd (h1.2 (List.cons.inj h).1) h0⟩
theorem cmpT_tri : ∀ (x y : Nd), cmpT x y = -1 ∨ cmpT x y = 0 ∨ cmpT x y = 1 := Nd.ind fun o a l ih y => by
 obtain ⟨o', a', l'⟩ := y
 rw [cmpT]
 exact or3_tri (cmpI3_tri _ _) (cmpStr_tri _ _) (cmpL_tri l ih _)
theorem cmpT_anti : ∀ (x y : Nd), cmpT y x = - cmpT x y := Nd.ind fun o a l ih y => by
 obtain ⟨o', a', l'⟩ := y
 rw [cmpT, cmpT, cmpI3_anti, cmpStr_anti, cmpL_anti l ih, or3_neg]
theorem cmpT_zero : ∀ (x y : Nd), cmpT x y = 0 ↔ x = y := Nd.ind fun o a l ih y => by
 obtain ⟨o', a', l'⟩ := y
 rw [cmpT, or3_zero, cmpI3_zero, cmpStr_zero, cmpL_zero l ih]
 exact ⟨fun ⟨h1, h2, h3⟩ => by rw [h1, h2, h3], fun h => by injection h with h1 h2 h3; exact ⟨h1, h2, h3⟩⟩
theorem cmpL_lt : ∀ (l : List Nd), (∀ x ∈ l, ∀ y z, cmpT x y = -1 → cmpT y z = -1 → cmpT x z = -1) → ∀ m n, cmpL l m = -1 → cmpL m n = -1 → cmpL l n = -1
 | [], _, m, n, h1, h2 => by
   cases m with
   | nil => rw [cmpL] at h1; omega
   | cons y m =>
     cases n with
     | nil => rw [cmpL] at h2; omega
     | cons z n => rw [cmpL]
 | x :: l, h, m, n, h1, h2 => by
   cases m with
   | nil => rw [cmpL] at h1; omega
   | cons y m =>
     cases n with
     | nil => rw [cmpL] at h2; omega
     | cons z n =>
       rw [cmpL] at h1 h2 ⊢
       have ih := cmpL_lt l (fun y hy => h y (List.mem_cons_of_mem _ hy)) m n
       by_cases h0 : cmpT x y = 0
       · have e := (cmpT_zero x y).1 h0
         subst e
         rw [if_neg (by omega)] at h1
         by_cases h3 : cmpT x z = 0
         · rw [if_neg (by omega)] at h2 ⊢
           exact ih h1 h2
         · rw [if_pos h3] at h2 ⊢
           exact h2
       · rw [if_pos h0] at h1
         by_cases h3 : cmpT y z = 0
         · have e := (cmpT_zero y z).1 h3
           subst e
           rw [if_pos (by omega)]; exact h1
         · rw [if_pos h3] at h2
           have := h x (List.mem_cons_self ..) y z h1 h2
           rw [if_pos (by omega)]; exact this
theorem cmpT_lt : ∀ (x y z : Nd), cmpT x y = -1 → cmpT y z = -1 → cmpT x z = -1 := Nd.ind fun o a l ih y z h1 h2 => by
 obtain ⟨o', a', l'⟩ := y
 obtain ⟨o2, a2, l2⟩ := z
 rw [cmpT, or3_m1] at h1 h2 ⊢
 rcases h1 with h1 | ⟨e1, h1⟩
 · rcases h2 with h2 | ⟨e2, _⟩
   · exact .inl (cmpI3_lt _ _ _ h1 h2)
   · rw [← (cmpI3_zero _ _).1 e2]; exact .inl h1
 · rw [(cmpI3_zero _ _).1 e1]
   rcases h2 with h2 | ⟨e2, h2⟩
   · exact .inl h2
   · refine .inr ⟨e2, ?_⟩
     rcases h1 with h1 | ⟨e1, h1⟩
     · rcases h2 with h2 | ⟨e2, _⟩
       · exact .inl (cmpStr_tr _ _ _ h1 h2)
       · rw [← (cmpStr_zero _ _).1 e2]; exact .inl h1
     · rw [(cmpStr_zero _ _).1 e1]
       rcases h2 with h2 | ⟨e2, h2⟩
       · exact .inl h2
       · exact .inr ⟨e2, cmpL_lt l ih _ _ h1 h2⟩
def leT (x y : Nd) : Prop := cmpT x y ≠ 1
theorem leT_refl (x : Nd) : leT x x := by
 have := (cmpT_zero x x).2 rfl
 unfold leT; omega
theorem leT_anti {x y : Nd} (h : leT x y) (h' : leT y x) : x = y := by
 unfold leT at *
 have := cmpT_anti x y
 have := cmpT_tri x y
 exact (cmpT_zero x y).1 (by omega)
theorem leT_iff {x y : Nd} : leT x y ↔ cmpT x y = -1 ∨ x = y := by
 unfold leT
 have := cmpT_tri x y
 rw [← cmpT_zero x y]; omega
theorem leT_trans {x y z : Nd} (h : leT x y) (h' : leT y z) : leT x z := by
 rw [leT_iff] at *
 rcases h with h | rfl
 · rcases h' with h' | rfl
   · exact .inl (cmpT_lt x y z h h')
   · exact .inl h
 · exact h'
theorem leT_not {x y : Nd} : ¬ cmpT x y < 0 ↔ leT y x := by
 unfold leT
 have := cmpT_anti x y
 have := cmpT_tri x y
 omega
end
section
mutual
def szT : Nd → Nat
 | .mk _ _ l => 1 + szL l
def szL : List Nd → Nat
 | [] => 0
 | x :: l => szT x + szL l
end
mutual
def dpT : Nd → Nat
 | .mk _ _ l => 1 + dpL l
def dpL : List Nd → Nat
 | [] => 0
 | x :: l => max (dpT x) (dpL l)
end
theorem szL_append (l m : List Nd) : szL (l ++ m) = szL l + szL m := by
 induction l with
 | nil => simp [szL]
 | cons x l ih => rw [List.cons_append, szL, szL, ih, Nat.add_assoc]
theorem szL_snoc {l : List Nd} {k : Nat} {x : Nd} (h : l[k]? = some x) : szL (l.take (k + 1)) = szL (l.take k) + szT x := by
 rw [List.take_add_one, h, szL_append]; simp [szL]
theorem szT_pos (t : Nd) : 1 ≤ szT t := by cases t; rw [szT]; omega
theorem szL_mem {l : List Nd} {x : Nd} (h : x ∈ l) : szT x ≤ szL l := by
 induction l with
 | nil => cases h
 | cons y l ih =>
   rw [szL]
   rcases List.mem_cons.1 h with rfl | h
   · omega
   · have := ih h; omega
theorem dpL_mem {l : List Nd} {x : Nd} (h : x ∈ l) : dpT x ≤ dpL l := by
 induction l with
 | nil => cases h
 | cons y l ih =>
   rw [dpL]
   rcases List.mem_cons.1 h with rfl | h
   · omega
   · have := ih h; omega
theorem dpL_le {l : List Nd} {n : Nat} : dpL l ≤ n ↔ ∀ x ∈ l, dpT x ≤ n := by
 induction l with
 | nil => simp [dpL]
 | cons y l ih => rw [dpL, Nat.max_le, ih]; simp
def rightT (t : Nd) : Bool :=
 if t.op = 1 then t.l.isEmpty && isName t.act else if t.op = 2 then t.l.isEmpty && decide (t.act = ByteArray.empty) else if t.op = 3 ∨ t.op = 4 ∨ t.op = 5 then !t.l.isEmpty && decide (t.act = ByteArray.empty)
 else if t.op = 6 then decide (t.l.length = 2) && decide (t.act = ByteArray.empty) else false
mutual
def okT : Nd → Bool
 | .mk o a l => rightT (.mk o a l) && okL l
def okL : List Nd → Bool
 | [] => true
 | x :: l => okT x && okL l
end
theorem okL_iff {l : List Nd} : okL l = true ↔ ∀ x ∈ l, okT x = true := by
 induction l with
 | nil => simp [okL]
 | cons x l ih => rw [okL, Bool.and_eq_true, ih]; simp
theorem okT_iff {t : Nd} : okT t = true ↔ rightT t = true ∧ ∀ x ∈ t.l, okT x = true := by
 obtain ⟨o, a, l⟩ := t
 rw [okT, Bool.and_eq_true, okL_iff]; rfl
def meaT (t : Nd) (most : Int) (d : Int) : Bool := okT t && decide ((szT t : Int) ≤ most) && decide (d + dpT t ≤ 61)
theorem mea_no {t : Nd} {most d : Int} (h : most < 1 ∨ 60 < d ∨ rightT t = false) : meaT t most d = false := by
 cases hm : meaT t most d with
 | false => rfl
 | true =>
   exfalso
   unfold meaT at hm
   simp only [Bool.and_eq_true, decide_eq_true_eq] at hm
   obtain ⟨⟨h1, h2⟩, h3⟩ := hm
   have h4 := szT_pos t
   have h5 : 1 ≤ dpT t := by cases t; rw [dpT]; omega
   rcases h with h | h | h
   · omega
   · omega
   · rw [(okT_iff.1 h1).1] at h; cases h
theorem mea_part {t : Nd} {most d : Int} {k : Nat} {x : Nd} (hx : t.l[k]? = some x) (h : meaT x (most - (1 + szL (t.l.take k))) (d + 1) = false) : meaT t most d = false := by
 cases hm : meaT t most d with
 | false => rfl
 | true =>
   exfalso
   unfold meaT at hm h
   simp only [Bool.and_eq_true, decide_eq_true_eq] at hm
   obtain ⟨⟨h1, h2⟩, h3⟩ := hm
   have hmem := List.mem_of_getElem? hx
   have e1 := (okT_iff.1 h1).2 x hmem
   have e2 : szL t.l = szL (t.l.take k) + szL (t.l.drop k) := by rw [← szL_append, List.take_append_drop]
   have e3 : szT x ≤ szL (t.l.drop k) := szL_mem (List.mem_of_getElem? (show (t.l.drop k)[0]? = some x by rw [List.getElem?_drop]; exact hx))
   have e4 : szT t = 1 + szL t.l := by cases t; rw [szT]; rfl
   have e5 : dpT t = 1 + dpL t.l := by cases t; rw [dpT]; rfl
   have e6 := dpL_mem hmem
   rw [e1, decide_eq_true (by omega), decide_eq_true (by omega)] at h
   cases h
theorem mea_all {t : Nd} {most d : Int} (hr : rightT t = true) (h1 : 1 ≤ most) (h2 : d ≤ 60) (h : ∀ k x, t.l[k]? = some x → meaT x (most - (1 + szL (t.l.take k))) (d + 1) = true) : meaT t most d = true := by
 have e4 : szT t = 1 + szL t.l := by cases t; rw [szT]; rfl
 have e5 : dpT t = 1 + dpL t.l := by cases t; rw [dpT]; rfl
 unfold meaT at h ⊢
 have key : ∀ k x, t.l[k]? = some x → okT x = true ∧ (szT x : Int) ≤ most - (1 + szL (t.l.take k)) ∧ d + 1 + dpT x ≤ 61 := fun k x hx => by
  have := h k x hx
  simp only [Bool.and_eq_true, decide_eq_true_eq] at this
  exact ⟨this.1.1, this.1.2, this.2⟩
 simp only [Bool.and_eq_true, decide_eq_true_eq]
 refine ⟨⟨okT_iff.2 ⟨hr, fun x hx => ?_⟩, ?_⟩, ?_⟩
 · obtain ⟨k, hk⟩ := List.getElem?_of_mem hx
   exact (key k x hk).1
 · rw [e4]
   rcases hn : t.l.length with _ | n
   · have : t.l = [] := List.eq_nil_of_length_eq_zero hn
     rw [this]; simp [szL]; omega
   · obtain ⟨x, hx⟩ : ∃ x, t.l[n]? = some x := ⟨_, List.getElem?_eq_getElem (by omega)⟩
     have e1 := (key n x hx).2.1
     have e2 := szL_snoc hx
     rw [List.take_of_length_le (show t.l.length ≤ n + 1 by omega)] at e2
     omega
 · rw [e5]
   have : dpL t.l ≤ (60 - d).toNat := dpL_le.2 fun x hx => by
    obtain ⟨k, hk⟩ := List.getElem?_of_mem hx
    have := (key k x hk).2.2; omega
   omega
def valT (t : Nd) : Bool := meaT t 400 1
theorem val_ok {t : Nd} (h : valT t = true) : okT t = true := by unfold valT meaT at h; simp only [Bool.and_eq_true] at h; exact h.1.1
theorem val_sz {t : Nd} (h : valT t = true) : szT t ≤ 400 := by unfold valT meaT at h; simp only [Bool.and_eq_true, decide_eq_true_eq] at h; omega
def insT (x : Nd) : List Nd → List Nd
 | [] => [x]
 | y :: l => if cmpT y x < 0 then y :: insT x l else x :: y :: l
def srtT (l : List Nd) : List Nd := l.foldl (fun m x => insT x m) []
def cptT : List Nd → List Nd
 | [] => []
 | x :: l => match l with
   | [] => [x]
   | y :: m => if cmpT x y = 0 then cptT (y :: m) else x :: cptT (y :: m)
abbrev AscT (l : List Nd) : Prop := l.Pairwise fun x y => leT x y
abbrev StrT' (l : List Nd) : Prop := l.Pairwise fun x y => cmpT x y < 0
theorem lt_le {x y : Nd} (h : cmpT x y < 0) : leT x y := by unfold leT; omega
theorem lt_ne {x y : Nd} (h : cmpT x y < 0) : x ≠ y := fun e => by have := (cmpT_zero x y).2 e; omega
theorem le_ne_lt {x y : Nd} (h : leT x y) (h' : x ≠ y) : cmpT x y < 0 := by
 rcases leT_iff.1 h with h | h
 · omega
 · exact absurd h h'
theorem insT_perm (x : Nd) : ∀ l, (insT x l).Perm (x :: l)
 | [] => List.Perm.refl _
 | y :: l => by
   rw [insT]
   split
   · exact ((insT_perm x l).cons y).trans (List.Perm.swap ..)
   · exact List.Perm.refl _
theorem insT_asc (x : Nd) : ∀ l, AscT l → AscT (insT x l)
 | [], _ => List.pairwise_singleton ..
 | y :: l, h => by
   rw [insT]
   obtain ⟨h1, h2⟩ := List.pairwise_cons.1 h
   split
   · rename_i hl
     refine List.pairwise_cons.2 ⟨fun z hz => ?_, insT_asc x l h2⟩
     rcases List.mem_cons.1 ((insT_perm x l).mem_iff.1 hz) with rfl | hz
     · exact lt_le hl
     · exact h1 z hz
   · rename_i hl
     have hxy : leT x y := leT_not.1 hl
     refine List.pairwise_cons.2 ⟨fun z hz => ?_, h⟩
     rcases List.mem_cons.1 hz with rfl | hz
     · exact hxy
     · exact leT_trans hxy (h1 z hz)
theorem fold_ins (l : List Nd) : ∀ m, AscT m → AscT (l.foldl (fun m x => insT x m) m) ∧ (l.foldl (fun m x => insT x m) m).Perm (m ++ l) := by
 induction l with
 | nil => intro m h; exact ⟨h, by simp⟩
 | cons x l ih =>
   intro m h
   rw [List.foldl_cons]
   obtain ⟨h1, h2⟩ := ih _ (insT_asc x m h)
   refine ⟨h1, h2.trans ?_⟩
   exact ((insT_perm x m).append_right l).trans (by
    rw [List.cons_append]
    exact (List.perm_middle (l₁ := m) (a := x) (l₂ := l)).symm)
theorem srtT_asc (l : List Nd) : AscT (srtT l) := (fold_ins l [] List.Pairwise.nil).1
theorem srtT_perm (l : List Nd) : (srtT l).Perm l := by
 have := (fold_ins l [] List.Pairwise.nil).2
 rwa [List.nil_append] at this
theorem asc_uniq {l m : List Nd} (hl : AscT l) (hm : AscT m) (h : l.Perm m) : l = m := by
 exact List.Perm.eq_of_pairwise (fun a b _ _ h1 h2 => leT_anti h1 h2) hl hm h
theorem srtT_eq {l m : List Nd} (hm : AscT m) (h : m.Perm l) : m = srtT l := asc_uniq hm (srtT_asc l) (h.trans (srtT_perm l).symm)
theorem str_asc {l : List Nd} (h : StrT' l) : AscT l := h.imp fun h => lt_le h
theorem str_nodup {l : List Nd} (h : StrT' l) : l.Nodup := h.imp fun h => lt_ne h
theorem str_uniq {l m : List Nd} (hl : StrT' l) (hm : StrT' m) (h : ∀ z, z ∈ l ↔ z ∈ m) : l = m :=
 asc_uniq (str_asc hl) (str_asc hm) ((List.perm_ext_iff_of_nodup (str_nodup hl) (str_nodup hm)).2 h)
theorem cptT_mem : ∀ (l : List Nd) z, z ∈ cptT l ↔ z ∈ l
 | [], z => by simp [cptT]
 | [x], z => by simp [cptT]
 | x :: y :: m, z => by
   rw [cptT]
   split
   · rename_i h
     rw [cptT_mem (y :: m), (cmpT_zero x y).1 h]; simp
   · rw [List.mem_cons, cptT_mem (y :: m)]; simp
theorem cptT_str : ∀ (l : List Nd), AscT l → StrT' (cptT l)
 | [], _ => List.Pairwise.nil
 | [x], _ => List.pairwise_singleton ..
 | x :: y :: m, h => by
   rw [cptT]
   obtain ⟨h1, h2⟩ := List.pairwise_cons.1 h
   split
   · exact cptT_str (y :: m) h2
   · rename_i hn
     refine List.pairwise_cons.2 ⟨fun z hz => ?_, cptT_str (y :: m) h2⟩
     have hz' := (cptT_mem (y :: m) z).1 hz
     have hxz := h1 z hz'
     refine le_ne_lt hxz fun e => hn ?_
     subst e
     have hyx : leT y x := by
      rcases List.mem_cons.1 hz' with h | h
      · rw [h]; exact leT_refl y
      · exact (List.pairwise_cons.1 h2).1 _ h
     exact (cmpT_zero x y).2 (leT_anti (h1 y (List.mem_cons_self ..)) hyx)
end
section
def silT : Nd := .mk 2 ByteArray.empty []
def prtT (op : Int) (l : List Nd) : List Nd := l.flatMap fun x => if x.op = op then x.l else if x.op ≠ 2 ∨ op = 4 then [x] else []
def endT (op : Int) : List Nd → Nd
 | [] => silT
 | [x] => x
 | x :: y :: l => .mk op ByteArray.empty (x :: y :: l)
def ordT (op : Int) (p : List Nd) : List Nd := if op = 3 then p else if op = 4 then cptT (srtT p) else srtT p
def joinT (op : Int) (l : List Nd) : Nd := endT op (ordT op (prtT op l))
def lop2 (f s : Nd) : Nd × Nd := if f.op = 6 then match f.l with
 | a :: b :: _ => (a, joinT 4 [b, s])
 | _ => (f, s) else (f, s)
def lopE (p : Nd × Nd) : Nd := if p.1.op = 2 ∧ p.2.op = 2 then silT else .mk 6 ByteArray.empty [p.1, p.2]
def lopT : List Nd → Nd
 | f :: s :: _ => lopE (lop2 f s)
 | _ => silT
def nodT (o : Int) (a : ByteArray) (l : List Nd) : Nd := if o = 1 ∨ o = 2 then .mk o a [] else if o = 6 then lopT l else joinT o l
mutual
def norT : Nd → Nd
 | .mk o a l => nodT o a (norL l)
def norL : List Nd → List Nd
 | [] => []
 | x :: l => norT x :: norL l
end
theorem norL_eq (l : List Nd) : norL l = l.map norT := by
 induction l with
 | nil => rfl
 | cons x l ih => rw [norL, ih]; rfl
structure NfN (t : Nd) : Prop where
 rt : rightT t = true
 two : t.op ≠ 6 → ∀ x ∈ t.l, 2 ≤ t.l.length ∧ x.op ≠ t.op
 ns : t.op = 3 ∨ t.op = 5 → ∀ x ∈ t.l, x.op ≠ 2
 xo : t.op = 4 → StrT' t.l
 an : t.op = 5 → AscT t.l
 lp : t.op = 6 → ∃ a b, t.l = [a, b] ∧ a.op ≠ 6 ∧ ¬ (a.op = 2 ∧ b.op = 2)
inductive NF : Nd → Prop
 | mk (t : Nd) (h : NfN t) (hp : ∀ x ∈ t.l, NF x) : NF t
theorem NF.n {t : Nd} : NF t → NfN t
 | .mk _ h _ => h
theorem NF.p {t : Nd} : NF t → ∀ x ∈ t.l, NF x
 | .mk _ _ h => h
theorem NF.ok {t : Nd} : NF t → okT t = true
 | .mk _ h hp => okT_iff.2 ⟨h.rt, fun x hx => NF.ok (hp x hx)⟩
theorem right_ops {t : Nd} (h : rightT t = true) : t.op = 1 ∨ t.op = 2 ∨ t.op = 3 ∨ t.op = 4 ∨ t.op = 5 ∨ t.op = 6 := by
 unfold rightT at h
 by_cases h1 : t.op = 1
 · exact .inl h1
 · by_cases h2 : t.op = 2
   · exact .inr (.inl h2)
   · by_cases h3 : t.op = 3 ∨ t.op = 4 ∨ t.op = 5
     · omega
     · by_cases h4 : t.op = 6
       · omega
       · rw [if_neg h1, if_neg h2, if_neg h3, if_neg h4] at h; cases h
theorem sil_right : rightT silT = true := by unfold rightT silT; simp [Nd.op, Nd.l, Nd.act]
theorem leaf_nf {t : Nd} (hr : rightT t = true) (hl : t.l = []) (ho : t.op = 1 ∨ t.op = 2) : NF t :=
 .mk t ⟨hr, fun _ x hx => by (rw [hl] at hx; cases hx), fun h => by omega, fun h => by omega, fun h => by omega, fun h => by omega⟩ fun x hx => by rw [hl] at hx; cases hx
theorem sil_nf : NF silT := leaf_nf sil_right rfl (.inr rfl)
theorem prt_mem {op : Int} {l : List Nd} (hl : ∀ x ∈ l, NF x) (ho : op = 3 ∨ op = 4 ∨ op = 5) {y : Nd} (hy : y ∈ prtT op l) : NF y ∧ y.op ≠ op ∧ (op ≠ 4 → y.op ≠ 2) := by
 unfold prtT at hy
 obtain ⟨x, hx, hy⟩ := List.mem_flatMap.1 hy
 by_cases h1 : x.op = op
 · rw [if_pos h1] at hy
   have hn := (hl x hx).n
   refine ⟨(hl x hx).p y hy, ?_, fun h4 => hn.ns (by omega) y hy⟩
   rw [← h1]
   exact (hn.two (by omega) y hy).2
 · rw [if_neg h1] at hy
   split at hy
   · rename_i h2
     rw [List.mem_singleton] at hy
     subst hy
     exact ⟨hl _ hx, h1, fun h4 => by omega⟩
   · cases hy
theorem ord_mem {op : Int} {p : List Nd} {y : Nd} : y ∈ ordT op p ↔ y ∈ p := by
 unfold ordT
 split
 · exact Iff.rfl
 · split
   · rw [cptT_mem, (srtT_perm p).mem_iff]
   · rw [(srtT_perm p).mem_iff]
theorem end_nf {op : Int} (ho : op = 3 ∨ op = 4 ∨ op = 5) {p : List Nd} (hp : ∀ y ∈ p, NF y ∧ y.op ≠ op ∧ (op ≠ 4 → y.op ≠ 2)) (h4 : op = 4 → StrT' p) (h5 : op = 5 → AscT p) : NF (endT op p) := by
 match p, hp, h4, h5 with
 | [], _, _, _ => exact sil_nf
 | [x], hp, _, _ => exact (hp x (List.mem_cons_self ..)).1
 | x :: y :: l, hp, h4, h5 =>
   refine .mk _ ⟨?_, fun _ z hz => ⟨by simp [endT, Nd.l], (hp z hz).2.1⟩, fun h z hz => (hp z hz).2.2 (by simp only [endT, Nd.op] at h; omega), fun h => h4 h, fun h => h5 h, fun h => ?_⟩ fun z hz => (hp z hz).1
   · rcases ho with rfl | rfl | rfl <;> simp [rightT, endT, Nd.op, Nd.l, Nd.act]
   · simp only [endT, Nd.op] at h; omega
theorem join_nf {op : Int} (ho : op = 3 ∨ op = 4 ∨ op = 5) {l : List Nd} (hl : ∀ x ∈ l, NF x) : NF (joinT op l) := by
 refine end_nf ho (fun y hy => prt_mem hl ho (ord_mem.1 hy)) (fun h => ?_) (fun h => ?_)
 · subst h; unfold ordT; rw [if_neg (by decide), if_pos rfl]; exact cptT_str _ (srtT_asc _)
 · subst h; unfold ordT; rw [if_neg (by decide), if_neg (by decide)]; exact srtT_asc _
theorem lopE_nf {p : Nd × Nd} (h1 : NF p.1) (h2 : NF p.2) (h6 : p.1.op ≠ 6) : NF (lopE p) := by
 unfold lopE
 split
 · exact sil_nf
 · rename_i h
   refine .mk _ ⟨by simp [rightT, Nd.op, Nd.l, Nd.act], fun h => absurd rfl h, fun h => ?_, fun h => ?_, fun h => ?_, fun _ => ⟨_, _, rfl, h6, h⟩⟩ fun x hx => ?_
   · simp [Nd.op] at h
   · simp [Nd.op] at h
   · simp [Nd.op] at h
   · rcases List.mem_cons.1 hx with rfl | hx
     · exact h1
     · rcases List.mem_cons.1 hx with rfl | hx
       · exact h2
       · cases hx
theorem lop2_nf {f s : Nd} (hf : NF f) (hs : NF s) : NF (lop2 f s).1 ∧ NF (lop2 f s).2 ∧ (lop2 f s).1.op ≠ 6 := by
 unfold lop2
 by_cases h : f.op = 6
 · rw [if_pos h]
   obtain ⟨a, b, hl, ha, _⟩ := hf.n.lp h
   rw [hl]
   have hp := hf.p
   rw [hl] at hp
   have hb := hp b (by simp)
   refine ⟨hp a (by simp), join_nf (by omega) fun x hx => ?_, ha⟩
   rcases List.mem_cons.1 hx with rfl | hx
   · exact hb
   · rw [List.mem_singleton] at hx; subst hx; exact hs
 · rw [if_neg h]; exact ⟨hf, hs, h⟩
theorem nor_nf : ∀ (t : Nd), okT t = true → NF (norT t) := Nd.ind fun o a l ih hok => by
 obtain ⟨hr, hp⟩ := okT_iff.1 hok
 simp only [Nd.l] at hp
 have hl : ∀ x ∈ norL l, NF x := fun x hx => by
  rw [norL_eq] at hx
  obtain ⟨y, hy, rfl⟩ := List.mem_map.1 hx
  exact ih y hy (hp y hy)
 rw [norT]
 unfold nodT
 split
 · rename_i h
   refine leaf_nf ?_ rfl h
   unfold rightT at hr ⊢
   rcases h with rfl | rfl
   · simp [Nd.op, Nd.l, Nd.act] at hr ⊢; exact hr.2
   · simp [Nd.op, Nd.l, Nd.act] at hr ⊢; exact hr.2
 · split
   · rename_i h1 h
     subst h
     have hlen : l.length = 2 := by
      unfold rightT at hr
      simp [Nd.op, Nd.l, Nd.act] at hr
      exact of_decide_eq_true hr.1
     obtain ⟨x, y, rfl⟩ : ∃ x y, l = [x, y] := by
      match l, hlen with
      | [x, y], _ => exact ⟨x, y, rfl⟩
     rw [norL, norL, norL] at hl ⊢
     obtain ⟨g1, g2, g3⟩ := lop2_nf (hl (norT x) (by simp)) (hl (norT y) (by simp))
     exact lopE_nf g1 g2 g3
   · rename_i h1 h2
     exact join_nf (by have := right_ops hr; simp only [Nd.op] at this; omega) hl
end
set_option maxRecDepth 100000
structure Cnt where
 name : ByteArray
 n : Int
structure Flw where
 src : ByteArray
 dst : ByteArray
 n : Int
structure Dfg where
 acts : List Cnt
 starts : List Cnt
 ends : List Cnt
 follows : List Flw
def pInts (l : List Int) : PV := .sl l.length (l.map pInt)
theorem tAgg24_PtC : AggT Tryz.prog 24 3 = true := by kernel_rfl
theorem tFl24_0_PtC : FldT Tryz.prog 24 0 0 = true := by kernel_rfl
theorem tFl24_1_PtC : FldT Tryz.prog 24 1 1 = true := by kernel_rfl
theorem tFl24_2_PtC : FldT Tryz.prog 24 2 2 = true := by kernel_rfl
theorem tNa22_PtC : NoAgg Tryz.prog 22 = true := by kernel_rfl
theorem tNa3_PtC : NoAgg Tryz.prog 3 = true := by kernel_rfl
theorem tNa9_PtC : NoAgg Tryz.prog 9 = true := by kernel_rfl
theorem tSl22_PtC : SlT Tryz.prog 22 24 3 = true := by kernel_rfl
theorem tZr24_PtC : ZeroT Tryz.prog 24 (.agg #[(.int .i64 0), (.string ByteArray.empty), (.slice none 0 0)]) := by unfold ZeroT; kernel_rfl
mutual
def cTr : Nd → List PV
 | .mk o a l => [pInt o, pStr a, .sl l.length (cTrs l)]
def cTrs : List Nd → List PV
 | [] => []
 | x :: l => cTr x ++ cTrs l
end
def pTrs (l : List Nd) : PV := .sl l.length (cTrs l)
def cN (t : Nd) : List PV := [pInt t.op, pStr t.act, pTrs t.l]
def pTr (t : Nd) : PV := .agg (cN t)
theorem cN_len (t : Nd) : (cN t).length = 3 := rfl
theorem cTrs_eq (l : List Nd) : cTrs l = l.flatMap cN := by
 induction l with
 | nil => rfl
 | cons x l ih =>
   rw [cTrs, ih, List.flatMap_cons]
   congr 1
   cases x; rfl
theorem tr_drop {l : List Nd} {k : Nat} {x : Nd} (h : l[k]? = some x) : ((cTrs l).drop (k * 3)).take 3 = cN x := by rw [cTrs_eq]; exact flat_drop cN_len l k x h
theorem tr_fit {l : List Nd} {k : Nat} {x : Nd} (h : l[k]? = some x) : k * 3 + 3 ≤ (cTrs l).length := by rw [cTrs_eq]; exact flat_fit cN_len h
inductive FitT : Nd → Prop
 | mk (t : Nd) (h1 : t.l.length ≤ 140737488355328) (h2 : t.act.size ≤ 140737488355328) (h3 : -9223372036854775808 ≤ t.op) (h4 : t.op ≤ 9223372036854775807) (h : ∀ x ∈ t.l, FitT x) : FitT t
theorem FitT.len {t : Nd} : FitT t → t.l.length ≤ 140737488355328
 | .mk _ h _ _ _ _ => h
theorem FitT.sz {t : Nd} : FitT t → t.act.size ≤ 140737488355328
 | .mk _ _ h _ _ _ => h
theorem FitT.lo {t : Nd} : FitT t → -9223372036854775808 ≤ t.op
 | .mk _ _ _ h _ _ => h
theorem FitT.hi {t : Nd} : FitT t → t.op ≤ 9223372036854775807
 | .mk _ _ _ _ h _ => h
theorem FitT.p {t : Nd} : FitT t → ∀ x ∈ t.l, FitT x
 | .mk _ _ _ _ _ h => h
theorem str_nil (a : ByteArray) : (a.toList == ByteArray.toList { data := #[] }) = decide (a = ByteArray.empty) := by
 rw [Bool.eq_iff_iff, decide_eq_true_eq]
 exact strEq_iff (a := a) (b := ByteArray.empty)
section
variable {o : Int} {a : ByteArray} {l : List Nd}
theorem rightT_eq : rightT (.mk o a l) = if o = 1 then l.isEmpty && isName a else if o = 2 then l.isEmpty && decide (a = ByteArray.empty) else if o = 3 ∨ o = 4 ∨ o = 5 then !l.isEmpty && decide (a = ByteArray.empty)
 else if o = 6 then decide (l.length = 2) && decide (a = ByteArray.empty) else false := rfl
theorem right1 (h : o = 1) : rightT (.mk o a l) = (decide ((l.length : Int) = 0) && isName a) := by
 rw [rightT_eq, if_pos h]
 congr 1
 cases l <;> simp <;> omega
theorem right2 (h : o = 2) : rightT (.mk o a l) = (decide ((l.length : Int) = 0) && (a.toList == ByteArray.toList { data := #[] })) := by
 rw [rightT_eq, str_nil, if_neg (by omega), if_pos h]
 congr 1
 cases l <;> simp <;> omega
theorem right3 (h : o = 3 ∨ o = 4 ∨ o = 5) : rightT (.mk o a l) = (decide (1 ≤ (l.length : Int)) && (a.toList == ByteArray.toList { data := #[] })) := by
 rw [rightT_eq, str_nil, if_neg (by omega), if_neg (by omega), if_pos h]
 congr 1
 cases l <;> simp <;> omega
theorem right6 (h : o = 6) : rightT (.mk o a l) = (decide ((l.length : Int) = 2) && (a.toList == ByteArray.toList { data := #[] })) := by
 rw [rightT_eq, str_nil, if_neg (by omega), if_neg (by omega), if_neg (by omega), if_pos h]
 congr 1
 rw [Bool.eq_iff_iff, decide_eq_true_eq, decide_eq_true_eq]; omega
theorem right0 (h1 : o ≠ 1) (h2 : o ≠ 2) (h3 : o ≠ 3) (h4 : o ≠ 4) (h5 : o ≠ 5) (h6 : o ≠ 6) : rightT (.mk o a l) = false := by
 rw [rightT_eq, if_neg h1, if_neg h2, if_neg (by omega), if_neg h6]
end
theorem bool_and {a b : Bool} (h : a = true) : pBool b = pBool (a && b) := by rw [h]; rfl
theorem bool_no {a b : Bool} (h : a = false) : pBool false = pBool (a && b) := by rw [h]; rfl
theorem bool_and' {a b : Bool} (h : a = true) : pBool b = pBool (b && a) := by rw [h, Bool.and_true]
theorem bool_no' {a b : Bool} (h : a = false) : pBool false = pBool (b && a) := by rw [h, Bool.and_false]
theorem tRight_e (t : Nd) (hf : FitT t) : AF Tryz.prog 73 [pTr t] (· = pBool (rightT t)) := by
 obtain ⟨o, a, l⟩ := t
 have hl := hf.len
 have ha := hf.sz
 simp only [Nd.l, Nd.act] at hl ha
 refine AF.of_body 47 Tryz.func73 rfl Tryz.ntmps73 (Nat.le_of_ble_eq_true rfl) ?_
 intro w0 M0 vs hl hv
 obtain ⟨v0, rfl⟩ := len1 hl
 clear hl hv
 have e0 : pTr (.mk o a l) = .agg [pInt o, pStr a, .sl l.length (cTrs l)] := rfl
 rw [e0]
 refine nav ?_
 (refine aC_region ?_ <;> refine s_boxa 1 3 fun h1 => ?_ <;> refine xL 2 q_assign ?_ <;> refine aL_end (nav ?_) <;> try dsimp only)
 (refine aC_region ?_ <;> refine xL 4 (q_fldo 1 tFl24_2_PtC) ?_ <;> (refine yL 5 (q_ldo 1 tNa22_PtC) fun v5 hv5 => ?_; cases hv5) <;> refine xL 6 (q_len tSl22_PtC) ?_ <;> refine xL 3 q_assign ?_ <;> refine aL_end (nav ?_) <;> try dsimp only)
 (refine aC_region ?_ <;> refine xL 7 (q_fldo 1 tFl24_0_PtC) ?_ <;> (refine yL 8 (q_ldo 1 tNa3_PtC) fun v8 hv8 => ?_; cases hv8) <;> refine aL_end (nav ?_) <;> try dsimp only)
 (refine aC_region ?_ <;> refine xL 10 q_eql ?_ <;> refine xL 9 q_assign ?_ <;> refine aL_end (nav ?_) <;> try dsimp only)
 (first | refine cCd ?_ ?_ | refine cC ?_ ?_) <;> intro hb9
 · first
   | exact Bool.noConfusion hb9
   | (
    refine nav ?_
    (refine aC_region ?_ <;> refine xL 11 q_move ?_ <;> refine xL 12 q_eql ?_ <;> refine xL 13 q_move ?_ <;> (refine bLd 13 (fun hb13 => ?_) (fun hb13 => ?_) <;> (first | refine kL 14 ?_ | refine xL 14 (q_fldo 1 tFl24_1_PtC) ?_)) <;> (first | refine kL 15 ?_ | (refine yL 15 (q_ldo 1 tNa9_PtC) fun v15 hv15 => ?_; cases hv15)) <;> (first | refine kL 16 ?_ | (refine cS 16 (cA Tryz.call103 (isName_e a (by omega))) fun v16 hv16 => ?_; cases hv16)) <;> refine xL 17 q_pick ?_ <;> refine xL 2 q_assign ?_ <;> refine aL_end (nav ?_) <;> try dsimp only) <;> (
     refine ret_shr (Tryz.results73) rfl ?_
     rw [right1 hb9]
     first
      | exact bool_and (decide_eq_true hb13)
      | exact bool_no (decide_eq_false hb13)))
 · first
   | exact Bool.noConfusion hb9
   | (
    refine nav ?_
    (refine aC_region ?_ <;> refine xL 19 q_eql ?_ <;> refine xL 18 q_assign ?_ <;> refine aL_end (nav ?_) <;> try dsimp only)
    (first | refine cCd ?_ ?_ | refine cC ?_ ?_) <;> intro hb18
    · first
      | exact Bool.noConfusion hb18
      | (
       refine nav ?_
       (refine aC_region ?_ <;> refine xL 20 q_move ?_ <;> refine xL 21 q_eql ?_ <;> refine xL 22 q_move ?_ <;> (refine bLd 22 (fun hb22 => ?_) (fun hb22 => ?_) <;> (first | refine kL 23 ?_ | refine xL 23 (q_fldo 1 tFl24_1_PtC) ?_)) <;> (first | refine kL 24 ?_ | (refine yL 24 (q_ldo 1 tNa9_PtC) fun v24 hv24 => ?_; cases hv24)) <;> (first | refine kL 25 ?_ | refine xL 25 q_seql ?_) <;> refine xL 26 q_pick ?_ <;> refine xL 2 q_assign ?_ <;> refine aL_end (nav ?_) <;> try dsimp only) <;> (
        refine ret_shr (Tryz.results73) rfl ?_
        rw [right2 hb18]
        first
         | exact bool_and (decide_eq_true hb22)
         | exact bool_no (decide_eq_false hb22)))
    · first
      | exact Bool.noConfusion hb18
      | (
       refine nav ?_
       (refine aC_region ?_ <;> refine xL 28 q_eql ?_ <;> refine xL 27 q_assign ?_ <;> refine aL_end (nav ?_) <;> try dsimp only)
       (first | refine cCd ?_ ?_ | refine cC ?_ ?_) <;> intro hb27
       · first
         | exact Bool.noConfusion hb27
         | (
          refine nav ?_
          (first | refine cCd ?_ ?_ | refine cC ?_ ?_) <;> intro hb27
          · first
            | exact Bool.noConfusion hb27
            | (
             refine nav ?_
             (refine aC_region ?_ <;> refine xL 31 q_move ?_ <;> refine xL 32 q_geq ?_ <;> refine xL 33 q_move ?_ <;> (refine bLd 33 (fun hb33 => ?_) (fun hb33 => ?_) <;> (first | refine kL 34 ?_ | refine xL 34 (q_fldo 1 tFl24_1_PtC) ?_)) <;> (first | refine kL 35 ?_ | (refine yL 35 (q_ldo 1 tNa9_PtC) fun v35 hv35 => ?_; cases hv35)) <;> (first | refine kL 36 ?_ | refine xL 36 q_seql ?_) <;> refine xL 37 q_pick ?_ <;> refine xL 2 q_assign ?_ <;> refine aL_end (nav ?_) <;> try dsimp only) <;> (
              refine ret_shr (Tryz.results73) rfl ?_
              rw [right3 (by omega)]
              first
               | exact bool_and (decide_eq_true hb33)
               | exact bool_no (decide_eq_false hb33)))
          · first
            | exact Bool.noConfusion hb27
            | (
             refine nav ?_
             (refine aC_region ?_ <;> refine xL 39 q_eql ?_ <;> refine xL 38 q_assign ?_ <;> refine aL_end (nav ?_) <;> try dsimp only)
             (first | refine cCd ?_ ?_ | refine cC ?_ ?_) <;> intro hb38
             · first
               | exact Bool.noConfusion hb38
               | (
                refine nav ?_
                (refine aC_region ?_ <;> refine xL 40 q_move ?_ <;> refine xL 41 q_eql ?_ <;> refine xL 42 q_move ?_ <;> (refine bLd 42 (fun hb42 => ?_) (fun hb42 => ?_) <;> (first | refine kL 43 ?_ | refine xL 43 (q_fldo 1 tFl24_1_PtC) ?_)) <;> (first | refine kL 44 ?_ | (refine yL 44 (q_ldo 1 tNa9_PtC) fun v44 hv44 => ?_; cases hv44)) <;> (first | refine kL 45 ?_ | refine xL 45 q_seql ?_) <;> refine xL 46 q_pick ?_ <;> refine xL 2 q_assign ?_ <;> refine aL_end (nav ?_) <;> try dsimp only) <;> (
                 refine ret_shr (Tryz.results73) rfl ?_
                 rw [right6 hb38]
                 first
                  | exact bool_and (decide_eq_true hb42)
                  | exact bool_no (decide_eq_false hb42)))
             · first
               | exact Bool.noConfusion hb38
               | (
                refine nav ?_
                (refine aC_region ?_ <;> refine xL 2 q_assign ?_ <;> refine aL_end (nav ?_) <;> try dsimp only)
                refine ret_shr (Tryz.results73) rfl ?_
                rw [right0 (by omega) (by omega) (by omega) (by omega) (by omega) (by omega)])))
       · first
         | exact Bool.noConfusion hb27
         | (
          refine nav ?_
          (refine aC_region ?_ <;> refine xL 29 q_eql ?_ <;> refine xL 27 q_assign ?_ <;> refine aL_end (nav ?_) <;> try dsimp only)
          (first | refine cCd ?_ ?_ | refine cC ?_ ?_) <;> intro hb27
          · first
            | exact Bool.noConfusion hb27
            | (
             refine nav ?_
             (first | refine cCd ?_ ?_ | refine cC ?_ ?_) <;> intro hb27
             · first
               | exact Bool.noConfusion hb27
               | (
                refine nav ?_
                (refine aC_region ?_ <;> refine xL 31 q_move ?_ <;> refine xL 32 q_geq ?_ <;> refine xL 33 q_move ?_ <;> (refine bLd 33 (fun hb33 => ?_) (fun hb33 => ?_) <;> (first | refine kL 34 ?_ | refine xL 34 (q_fldo 1 tFl24_1_PtC) ?_)) <;> (first | refine kL 35 ?_ | (refine yL 35 (q_ldo 1 tNa9_PtC) fun v35 hv35 => ?_; cases hv35)) <;> (first | refine kL 36 ?_ | refine xL 36 q_seql ?_) <;> refine xL 37 q_pick ?_ <;> refine xL 2 q_assign ?_ <;> refine aL_end (nav ?_) <;> try dsimp only) <;> (
                 refine ret_shr (Tryz.results73) rfl ?_
                 rw [right3 (by omega)]
                 first
                  | exact bool_and (decide_eq_true hb33)
                  | exact bool_no (decide_eq_false hb33)))
             · first
               | exact Bool.noConfusion hb27
               | (
                refine nav ?_
                (refine aC_region ?_ <;> refine xL 39 q_eql ?_ <;> refine xL 38 q_assign ?_ <;> refine aL_end (nav ?_) <;> try dsimp only)
                (first | refine cCd ?_ ?_ | refine cC ?_ ?_) <;> intro hb38
                · first
                  | exact Bool.noConfusion hb38
                  | (
                   refine nav ?_
                   (refine aC_region ?_ <;> refine xL 40 q_move ?_ <;> refine xL 41 q_eql ?_ <;> refine xL 42 q_move ?_ <;> (refine bLd 42 (fun hb42 => ?_) (fun hb42 => ?_) <;> (first | refine kL 43 ?_ | refine xL 43 (q_fldo 1 tFl24_1_PtC) ?_)) <;> (first | refine kL 44 ?_ | (refine yL 44 (q_ldo 1 tNa9_PtC) fun v44 hv44 => ?_; cases hv44)) <;> (first | refine kL 45 ?_ | refine xL 45 q_seql ?_) <;> refine xL 46 q_pick ?_ <;> refine xL 2 q_assign ?_ <;> refine aL_end (nav ?_) <;> try dsimp only) <;> (
                    refine ret_shr (Tryz.results73) rfl ?_
                    rw [right6 hb38]
                    first
                     | exact bool_and (decide_eq_true hb42)
                     | exact bool_no (decide_eq_false hb42)))
                · first
                  | exact Bool.noConfusion hb38
                  | (
                   refine nav ?_
                   (refine aC_region ?_ <;> refine xL 2 q_assign ?_ <;> refine aL_end (nav ?_) <;> try dsimp only)
                   refine ret_shr (Tryz.results73) rfl ?_
                   rw [right0 (by omega) (by omega) (by omega) (by omega) (by omega) (by omega)])))
          · first
            | exact Bool.noConfusion hb27
            | (
             refine nav ?_
             (refine aC_region ?_ <;> refine xL 30 q_eql ?_ <;> refine xL 27 q_assign ?_ <;> refine aL_end (nav ?_) <;> try dsimp only)
             (first | refine cCd ?_ ?_ | refine cC ?_ ?_) <;> intro hb27
             · first
               | exact Bool.noConfusion hb27
               | (
                refine nav ?_
                (refine aC_region ?_ <;> refine xL 31 q_move ?_ <;> refine xL 32 q_geq ?_ <;> refine xL 33 q_move ?_ <;> (refine bLd 33 (fun hb33 => ?_) (fun hb33 => ?_) <;> (first | refine kL 34 ?_ | refine xL 34 (q_fldo 1 tFl24_1_PtC) ?_)) <;> (first | refine kL 35 ?_ | (refine yL 35 (q_ldo 1 tNa9_PtC) fun v35 hv35 => ?_; cases hv35)) <;> (first | refine kL 36 ?_ | refine xL 36 q_seql ?_) <;> refine xL 37 q_pick ?_ <;> refine xL 2 q_assign ?_ <;> refine aL_end (nav ?_) <;> try dsimp only) <;> (
                 refine ret_shr (Tryz.results73) rfl ?_
                 rw [right3 (by omega)]
                 first
                  | exact bool_and (decide_eq_true hb33)
                  | exact bool_no (decide_eq_false hb33)))
             · first
               | exact Bool.noConfusion hb27
               | (
                refine nav ?_
                (refine aC_region ?_ <;> refine xL 39 q_eql ?_ <;> refine xL 38 q_assign ?_ <;> refine aL_end (nav ?_) <;> try dsimp only)
                (first | refine cCd ?_ ?_ | refine cC ?_ ?_) <;> intro hb38
                · first
                  | exact Bool.noConfusion hb38
                  | (
                   refine nav ?_
                   (refine aC_region ?_ <;> refine xL 40 q_move ?_ <;> refine xL 41 q_eql ?_ <;> refine xL 42 q_move ?_ <;> (refine bLd 42 (fun hb42 => ?_) (fun hb42 => ?_) <;> (first | refine kL 43 ?_ | refine xL 43 (q_fldo 1 tFl24_1_PtC) ?_)) <;> (first | refine kL 44 ?_ | (refine yL 44 (q_ldo 1 tNa9_PtC) fun v44 hv44 => ?_; cases hv44)) <;> (first | refine kL 45 ?_ | refine xL 45 q_seql ?_) <;> refine xL 46 q_pick ?_ <;> refine xL 2 q_assign ?_ <;> refine aL_end (nav ?_) <;> try dsimp only) <;> (
                    refine ret_shr (Tryz.results73) rfl ?_
                    rw [right6 hb38]
                    first
                     | exact bool_and (decide_eq_true hb42)
                     | exact bool_no (decide_eq_false hb42)))
                · first
                  | exact Bool.noConfusion hb38
                  | (
                   refine nav ?_
                   (refine aC_region ?_ <;> refine xL 2 q_assign ?_ <;> refine aL_end (nav ?_) <;> try dsimp only)
                   refine ret_shr (Tryz.results73) rfl ?_
                   rw [right0 (by omega) (by omega) (by omega) (by omega) (by omega) (by omega)]))))))
theorem rtRight_e (t : Nd) (hf : FitT t) : AF Tryz.prog 68 [pTr t] (· = pBool (rightT t)) := by
 obtain ⟨o, a, l⟩ := t
 have hl := hf.len
 have ha := hf.sz
 simp only [Nd.l, Nd.act] at hl ha
 refine AF.of_body 51 Tryz.func68 rfl Tryz.ntmps68 (Nat.le_of_ble_eq_true rfl) ?_
 intro w0 M0 vs hl hv
 obtain ⟨v0, rfl⟩ := len1 hl
 clear hl hv
 have e0 : pTr (.mk o a l) = .agg [pInt o, pStr a, .sl l.length (cTrs l)] := rfl
 rw [e0]
 refine nav ?_
 (refine aC_region ?_ <;> refine s_boxa 1 3 fun h1 => ?_ <;> refine xL 2 q_assign ?_ <;> refine aL_end (nav ?_) <;> try dsimp only)
 (refine aC_region ?_ <;> refine xL 3 (q_fldo 1 tFl24_0_PtC) ?_ <;> (refine yL 4 (q_ldo 1 tNa3_PtC) fun v4 hv4 => ?_; cases hv4) <;> refine aL_end (nav ?_) <;> try dsimp only)
 (refine aC_region ?_ <;> refine xL 6 q_eql ?_ <;> refine xL 5 q_assign ?_ <;> refine aL_end (nav ?_) <;> try dsimp only)
 (first | refine cCd ?_ ?_ | refine cC ?_ ?_) <;> intro hb5
 · first
   | exact Bool.noConfusion hb5
   | (
    refine nav ?_
    (refine aC_region ?_ <;> refine xL 7 (q_fldo 1 tFl24_1_PtC) ?_ <;> (refine yL 8 (q_ldo 1 tNa9_PtC) fun v8 hv8 => ?_; cases hv8) <;> (refine cS 9 (cA Tryz.call100 (rIsName_e a (by omega))) fun v9 hv9 => ?_; cases hv9) <;> refine xL 10 q_move ?_ <;> (refine bL 10 (fun hb10 => ?_) (fun hb10 => ?_) <;> (first | refine kL 11 ?_ | refine xL 11 (q_fldo 1 tFl24_2_PtC) ?_)) <;> (first | refine kL 12 ?_ | (refine yL 12 (q_ldo 1 tNa22_PtC) fun v12 hv12 => ?_; cases hv12)) <;> (first | refine kL 13 ?_ | refine xL 13 (q_len tSl22_PtC) ?_) <;> (first | refine kL 14 ?_ | refine xL 14 q_eql ?_) <;> refine xL 15 q_pick ?_ <;> refine xL 2 q_assign ?_ <;> refine aL_end (nav ?_) <;> try dsimp only) <;> (
     refine ret_shr (Tryz.results68) rfl ?_
     rw [right1 hb5]
     first
      | exact bool_and' hb10
      | exact bool_no' hb10))
 · first
   | exact Bool.noConfusion hb5
   | (
    refine nav ?_
    (refine aC_region ?_ <;> refine xL 17 q_eql ?_ <;> refine xL 16 q_assign ?_ <;> refine aL_end (nav ?_) <;> try dsimp only)
    (first | refine cCd ?_ ?_ | refine cC ?_ ?_) <;> intro hb16
    · first
      | exact Bool.noConfusion hb16
      | (
       refine nav ?_
       (refine aC_region ?_ <;> refine xL 18 (q_fldo 1 tFl24_1_PtC) ?_ <;> (refine yL 19 (q_ldo 1 tNa9_PtC) fun v19 hv19 => ?_; cases hv19) <;> refine xL 20 q_seql ?_ <;> refine xL 21 q_move ?_ <;> (refine bL 21 (fun hb21 => ?_) (fun hb21 => ?_) <;> (first | refine kL 22 ?_ | refine xL 22 (q_fldo 1 tFl24_2_PtC) ?_)) <;> (first | refine kL 23 ?_ | (refine yL 23 (q_ldo 1 tNa22_PtC) fun v23 hv23 => ?_; cases hv23)) <;> (first | refine kL 24 ?_ | refine xL 24 (q_len tSl22_PtC) ?_) <;> (first | refine kL 25 ?_ | refine xL 25 q_eql ?_) <;> refine xL 26 q_pick ?_ <;> refine xL 2 q_assign ?_ <;> refine aL_end (nav ?_) <;> try dsimp only) <;> (
        refine ret_shr (Tryz.results68) rfl ?_
        rw [right2 hb16]
        first
         | exact bool_and' hb21
         | exact bool_no' hb21))
    · first
      | exact Bool.noConfusion hb16
      | (
       refine nav ?_
       (refine aC_region ?_ <;> refine xL 28 q_eql ?_ <;> refine xL 27 q_assign ?_ <;> refine aL_end (nav ?_) <;> try dsimp only)
       (first | refine cCd ?_ ?_ | refine cC ?_ ?_) <;> intro hb27
       · first
         | exact Bool.noConfusion hb27
         | (
          refine nav ?_
          (first | refine cCd ?_ ?_ | refine cC ?_ ?_) <;> intro hb27
          · first
            | exact Bool.noConfusion hb27
            | (
             refine nav ?_
             (refine aC_region ?_ <;> refine xL 31 (q_fldo 1 tFl24_1_PtC) ?_ <;> (refine yL 32 (q_ldo 1 tNa9_PtC) fun v32 hv32 => ?_; cases hv32) <;> refine xL 33 q_seql ?_ <;> refine xL 34 q_move ?_ <;> (refine bL 34 (fun hb34 => ?_) (fun hb34 => ?_) <;> (first | refine kL 35 ?_ | refine xL 35 (q_fldo 1 tFl24_2_PtC) ?_)) <;> (first | refine kL 36 ?_ | (refine yL 36 (q_ldo 1 tNa22_PtC) fun v36 hv36 => ?_; cases hv36)) <;> (first | refine kL 37 ?_ | refine xL 37 (q_len tSl22_PtC) ?_) <;> (first | refine kL 38 ?_ | refine xL 38 q_geq ?_) <;> refine xL 39 q_pick ?_ <;> refine xL 2 q_assign ?_ <;> refine aL_end (nav ?_) <;> try dsimp only) <;> (
              refine ret_shr (Tryz.results68) rfl ?_
              rw [right3 (by omega)]
              first
               | exact bool_and' hb34
               | exact bool_no' hb34))
          · first
            | exact Bool.noConfusion hb27
            | (
             refine nav ?_
             (refine aC_region ?_ <;> refine xL 41 q_eql ?_ <;> refine xL 40 q_assign ?_ <;> refine aL_end (nav ?_) <;> try dsimp only)
             (first | refine cCd ?_ ?_ | refine cC ?_ ?_) <;> intro hb40
             · first
               | exact Bool.noConfusion hb40
               | (
                refine nav ?_
                (refine aC_region ?_ <;> refine xL 42 (q_fldo 1 tFl24_1_PtC) ?_ <;> (refine yL 43 (q_ldo 1 tNa9_PtC) fun v43 hv43 => ?_; cases hv43) <;> refine xL 44 q_seql ?_ <;> refine xL 45 q_move ?_ <;> (refine bL 45 (fun hb45 => ?_) (fun hb45 => ?_) <;> (first | refine kL 46 ?_ | refine xL 46 (q_fldo 1 tFl24_2_PtC) ?_)) <;> (first | refine kL 47 ?_ | (refine yL 47 (q_ldo 1 tNa22_PtC) fun v47 hv47 => ?_; cases hv47)) <;> (first | refine kL 48 ?_ | refine xL 48 (q_len tSl22_PtC) ?_) <;> (first | refine kL 49 ?_ | refine xL 49 q_eql ?_) <;> refine xL 50 q_pick ?_ <;> refine xL 2 q_assign ?_ <;> refine aL_end (nav ?_) <;> try dsimp only) <;> (
                 refine ret_shr (Tryz.results68) rfl ?_
                 rw [right6 hb40]
                 first
                  | exact bool_and' hb45
                  | exact bool_no' hb45))
             · first
               | exact Bool.noConfusion hb40
               | (
                refine nav ?_
                (refine aC_region ?_ <;> refine xL 2 q_assign ?_ <;> refine aL_end (nav ?_) <;> try dsimp only)
                refine ret_shr (Tryz.results68) rfl ?_
                rw [right0 (by omega) (by omega) (by omega) (by omega) (by omega) (by omega)])))
       · first
         | exact Bool.noConfusion hb27
         | (
          refine nav ?_
          (refine aC_region ?_ <;> refine xL 29 q_eql ?_ <;> refine xL 27 q_assign ?_ <;> refine aL_end (nav ?_) <;> try dsimp only)
          (first | refine cCd ?_ ?_ | refine cC ?_ ?_) <;> intro hb27
          · first
            | exact Bool.noConfusion hb27
            | (
             refine nav ?_
             (first | refine cCd ?_ ?_ | refine cC ?_ ?_) <;> intro hb27
             · first
               | exact Bool.noConfusion hb27
               | (
                refine nav ?_
                (refine aC_region ?_ <;> refine xL 31 (q_fldo 1 tFl24_1_PtC) ?_ <;> (refine yL 32 (q_ldo 1 tNa9_PtC) fun v32 hv32 => ?_; cases hv32) <;> refine xL 33 q_seql ?_ <;> refine xL 34 q_move ?_ <;> (refine bL 34 (fun hb34 => ?_) (fun hb34 => ?_) <;> (first | refine kL 35 ?_ | refine xL 35 (q_fldo 1 tFl24_2_PtC) ?_)) <;> (first | refine kL 36 ?_ | (refine yL 36 (q_ldo 1 tNa22_PtC) fun v36 hv36 => ?_; cases hv36)) <;> (first | refine kL 37 ?_ | refine xL 37 (q_len tSl22_PtC) ?_) <;> (first | refine kL 38 ?_ | refine xL 38 q_geq ?_) <;> refine xL 39 q_pick ?_ <;> refine xL 2 q_assign ?_ <;> refine aL_end (nav ?_) <;> try dsimp only) <;> (
                 refine ret_shr (Tryz.results68) rfl ?_
                 rw [right3 (by omega)]
                 first
                  | exact bool_and' hb34
                  | exact bool_no' hb34))
             · first
               | exact Bool.noConfusion hb27
               | (
                refine nav ?_
                (refine aC_region ?_ <;> refine xL 41 q_eql ?_ <;> refine xL 40 q_assign ?_ <;> refine aL_end (nav ?_) <;> try dsimp only)
                (first | refine cCd ?_ ?_ | refine cC ?_ ?_) <;> intro hb40
                · first
                  | exact Bool.noConfusion hb40
                  | (
                   refine nav ?_
                   (refine aC_region ?_ <;> refine xL 42 (q_fldo 1 tFl24_1_PtC) ?_ <;> (refine yL 43 (q_ldo 1 tNa9_PtC) fun v43 hv43 => ?_; cases hv43) <;> refine xL 44 q_seql ?_ <;> refine xL 45 q_move ?_ <;> (refine bL 45 (fun hb45 => ?_) (fun hb45 => ?_) <;> (first | refine kL 46 ?_ | refine xL 46 (q_fldo 1 tFl24_2_PtC) ?_)) <;> (first | refine kL 47 ?_ | (refine yL 47 (q_ldo 1 tNa22_PtC) fun v47 hv47 => ?_; cases hv47)) <;> (first | refine kL 48 ?_ | refine xL 48 (q_len tSl22_PtC) ?_) <;> (first | refine kL 49 ?_ | refine xL 49 q_eql ?_) <;> refine xL 50 q_pick ?_ <;> refine xL 2 q_assign ?_ <;> refine aL_end (nav ?_) <;> try dsimp only) <;> (
                    refine ret_shr (Tryz.results68) rfl ?_
                    rw [right6 hb40]
                    first
                     | exact bool_and' hb45
                     | exact bool_no' hb45))
                · first
                  | exact Bool.noConfusion hb40
                  | (
                   refine nav ?_
                   (refine aC_region ?_ <;> refine xL 2 q_assign ?_ <;> refine aL_end (nav ?_) <;> try dsimp only)
                   refine ret_shr (Tryz.results68) rfl ?_
                   rw [right0 (by omega) (by omega) (by omega) (by omega) (by omega) (by omega)])))
          · first
            | exact Bool.noConfusion hb27
            | (
             refine nav ?_
             (refine aC_region ?_ <;> refine xL 30 q_eql ?_ <;> refine xL 27 q_assign ?_ <;> refine aL_end (nav ?_) <;> try dsimp only)
             (first | refine cCd ?_ ?_ | refine cC ?_ ?_) <;> intro hb27
             · first
               | exact Bool.noConfusion hb27
               | (
                refine nav ?_
                (refine aC_region ?_ <;> refine xL 31 (q_fldo 1 tFl24_1_PtC) ?_ <;> (refine yL 32 (q_ldo 1 tNa9_PtC) fun v32 hv32 => ?_; cases hv32) <;> refine xL 33 q_seql ?_ <;> refine xL 34 q_move ?_ <;> (refine bL 34 (fun hb34 => ?_) (fun hb34 => ?_) <;> (first | refine kL 35 ?_ | refine xL 35 (q_fldo 1 tFl24_2_PtC) ?_)) <;> (first | refine kL 36 ?_ | (refine yL 36 (q_ldo 1 tNa22_PtC) fun v36 hv36 => ?_; cases hv36)) <;> (first | refine kL 37 ?_ | refine xL 37 (q_len tSl22_PtC) ?_) <;> (first | refine kL 38 ?_ | refine xL 38 q_geq ?_) <;> refine xL 39 q_pick ?_ <;> refine xL 2 q_assign ?_ <;> refine aL_end (nav ?_) <;> try dsimp only) <;> (
                 refine ret_shr (Tryz.results68) rfl ?_
                 rw [right3 (by omega)]
                 first
                  | exact bool_and' hb34
                  | exact bool_no' hb34))
             · first
               | exact Bool.noConfusion hb27
               | (
                refine nav ?_
                (refine aC_region ?_ <;> refine xL 41 q_eql ?_ <;> refine xL 40 q_assign ?_ <;> refine aL_end (nav ?_) <;> try dsimp only)
                (first | refine cCd ?_ ?_ | refine cC ?_ ?_) <;> intro hb40
                · first
                  | exact Bool.noConfusion hb40
                  | (
                   refine nav ?_
                   (refine aC_region ?_ <;> refine xL 42 (q_fldo 1 tFl24_1_PtC) ?_ <;> (refine yL 43 (q_ldo 1 tNa9_PtC) fun v43 hv43 => ?_; cases hv43) <;> refine xL 44 q_seql ?_ <;> refine xL 45 q_move ?_ <;> (refine bL 45 (fun hb45 => ?_) (fun hb45 => ?_) <;> (first | refine kL 46 ?_ | refine xL 46 (q_fldo 1 tFl24_2_PtC) ?_)) <;> (first | refine kL 47 ?_ | (refine yL 47 (q_ldo 1 tNa22_PtC) fun v47 hv47 => ?_; cases hv47)) <;> (first | refine kL 48 ?_ | refine xL 48 (q_len tSl22_PtC) ?_) <;> (first | refine kL 49 ?_ | refine xL 49 q_eql ?_) <;> refine xL 50 q_pick ?_ <;> refine xL 2 q_assign ?_ <;> refine aL_end (nav ?_) <;> try dsimp only) <;> (
                    refine ret_shr (Tryz.results68) rfl ?_
                    rw [right6 hb40]
                    first
                     | exact bool_and' hb45
                     | exact bool_no' hb45))
                · first
                  | exact Bool.noConfusion hb40
                  | (
                   refine nav ?_
                   (refine aC_region ?_ <;> refine xL 2 q_assign ?_ <;> refine aL_end (nav ?_) <;> try dsimp only)
                   refine ret_shr (Tryz.results68) rfl ?_
                   rw [right0 (by omega) (by omega) (by omega) (by omega) (by omega) (by omega)]))))))
theorem tMeasure_e : ∀ (t : Nd), FitT t → ∀ (most d : Int), -4611686018427387904 ≤ most → most ≤ 4611686018427387904 → -4611686018427387904 ≤ d → d ≤ 4611686018427387904 → AF Tryz.prog 50 [pTr t, pInt most, pInt d] (· = .tup [pInt (if meaT t most d = true then (szT t : Int) else 0), pBool (meaT t most d)]) := Nd.ind fun o a l ih hf most d hm1 hm2 hd1 hd2 => by
 have hl := hf.len
 have hp := hf.p
 simp only [Nd.l] at hl hp
 refine AF.of_body 48 Tryz.func50 rfl Tryz.ntmps50 (Nat.le_of_ble_eq_true rfl) ?_
 intro w0 M0 vs hl hv
 obtain ⟨v0, v1, v2, rfl⟩ := len3 hl
 obtain rfl := hv 1 _ _ rfl rfl
 obtain rfl := hv 2 _ _ rfl rfl
 clear hl hv
 have e0 : pTr (.mk o a l) = .agg [pInt o, pStr a, .sl l.length (cTrs l)] := rfl
 rw [e0]
 refine nav ?_
 (refine aC_region ?_ <;> refine s_boxa 3 3 fun h3 => ?_ <;> refine xL 6 q_assign ?_ <;> refine xL 7 q_assign ?_ <;> refine aL_end (nav ?_) <;> try dsimp only)
 (refine aC_region ?_ <;> refine xL 13 q_move ?_ <;> refine xL 14 q_lss ?_ <;> refine xL 15 q_move ?_ <;> (refine bLd 15 (fun hb15 => ?_) (fun hb15 => ?_) <;> (first | refine kL 16 ?_ | refine xL 16 q_move ?_)) <;> (first | refine kL 17 ?_ | refine xL 17 q_gtr ?_) <;> refine xL 18 q_pick ?_ <;> refine xL 19 q_move ?_ <;> (first | refine kL 20 ?_ | (refine bLd 19 (fun hb19 => ?_) (fun hb19 => ?_) <;> (first | refine kL 20 ?_ | (refine yL 20 (q_ldao 3 tAgg24_PtC) fun v20 hv20 => ?_; cases hv20)))) <;> (first | refine kL 21 ?_ | (refine cS 21 (cA Tryz.call73 (tRight_e (.mk o a l) hf)) fun v21 hv21 => ?_; cases hv21)) <;> (first | refine kL 22 ?_ | refine xL 22 q_not ?_) <;> refine xL 23 q_pick ?_ <;> refine aL_end (nav ?_) <;> try dsimp only) <;> (
  (first | refine cCd ?_ ?_ | refine cC ?_ ?_) <;> intro hb23
  · first
    | exact Bool.noConfusion hb23
    | (
     refine nav ?_
     (refine aC_region ?_ <;> refine xL 6 q_assign ?_ <;> refine xL 7 q_assign ?_ <;> refine aL_end (nav ?_) <;> try dsimp only)
     refine ret_ss (Tryz.results50) rfl rfl ?_
     rw [mea_no (by first | exact .inl (by omega) | exact .inr (.inl (by omega)) | exact .inr (.inr (by simpa using hb23)))]; rfl)
  · first
    | exact Bool.noConfusion hb23
    | (
     have hrt : rightT (.mk o a l) = true := by simpa using hb23
     refine nav ?_
     (refine aC_region ?_ <;> refine xL 8 q_assign ?_ <;> refine aL_end (nav ?_) <;> try dsimp only)
     (refine aC_region ?_ <;> refine xL 24 (q_fldo 3 tFl24_2_PtC) ?_ <;> (refine yL 25 (q_ldo 3 tNa22_PtC) fun v25 hv25 => ?_; cases hv25) <;> refine xL 26 (q_len tSl22_PtC) ?_ <;> refine xL 27 q_move ?_ <;> refine aL_end (nav ?_) <;> try dsimp only)
     refine aC_loop (ι := { k : Nat // k ≤ l.length ∧ ((1 + szL (l.take k) : Nat) : Int) ≤ most ∧ ∀ j x, j < k → l[j]? = some x → meaT x (most - ((1 + szL (l.take j) : Nat) : Int)) (d + 1) = true }) (fun k => ⟨[(1, _, _), (2, _, _), (25, _, _), (26, _, _), (27, .int .i64 k.1, pInt k.1), (8, .int .i64 ((1 + szL (l.take k.1) : Nat) : Int), pInt ((1 + szL (l.take k.1) : Nat) : Int))], [(3, _, _)]⟩) (fun k => l.length - k.1) ⟨0, by omega, by simp [szL]; omega, by omega⟩ (fun a w H => H.weaken ⟨rfl, rfl, rfl, rfl, rfl, rfl, trivial⟩ ⟨rfl, trivial⟩) ?_
     rintro ⟨k, hk, hsz, hp2⟩
     dsimp only
     refine nav ?_
     (refine aC_region ?_ <;> refine xL 28 q_lss ?_ <;> refine aL_end (nav ?_) <;> try dsimp only)
     (first | refine cCd ?_ ?_ | refine cC ?_ ?_) <;> intro hb28
     · first
       | exact Bool.noConfusion hb28
       | (
        obtain ⟨x, hx⟩ := get_some (show k < l.length by omega)
        have hxm := List.mem_of_getElem? hx
        have e1 := tr_drop hx
        have e2 := tr_fit hx
        refine nav ?_
        (refine aC_region ?_ <;> refine xL 29 (q_idxN tSl22_PtC) ?_ <;> (refine yL 30 (q_lda tAgg24_PtC) fun v30 hv30 => ?_; cases hv30) <;> refine s_alloc [(.int .i64 0), (.string ByteArray.empty), (.slice none 0 0)] 3 10 tZr24_PtC fun h10 => ?_ <;> refine s_sta 10 tAgg24_PtC ?_ <;> refine aL_end (nav ?_) <;> try dsimp only)
        (refine aC_region ?_ <;> (refine yL 32 (q_ldao 10 tAgg24_PtC) fun v32 hv32 => ?_; cases hv32) <;> refine xL 33 q_move ?_ <;> refine xL 34 q_move ?_ <;> refine xL 35 q_sub ?_ <;> refine xL 36 q_move ?_ <;> refine xL 37 q_add ?_ <;> (refine cP 38 (cA Tryz.call50 (ih x hxm (hp x hxm) (most - ((1 + szL (l.take k) : Nat) : Int)) (d + 1) (by omega) (by omega) (by omega) (by omega))) fun va38 vb38 hva38 hvb38 => ?_; cases hva38; cases hvb38) <;> refine xL 31 q_move ?_ <;> refine xL 39 q_extract ?_ <;> refine xL 40 q_extract ?_ <;> refine xL 11 q_assign ?_ <;> refine xL 12 q_assign ?_ <;> refine aL_end (nav ?_) <;> try dsimp only)
        (refine aC_region ?_ <;> refine xL 41 q_move ?_ <;> refine xL 42 q_not ?_ <;> refine aL_end (nav ?_) <;> try dsimp only)
        (first | refine cCd ?_ ?_ | refine cC ?_ ?_) <;> intro hb42
        · first
          | exact Bool.noConfusion hb42
          | (
           refine nav ?_
           (refine aC_region ?_ <;> refine xL 6 q_assign ?_ <;> refine xL 7 q_assign ?_ <;> refine aL_end (nav ?_) <;> try dsimp only)
           refine ret_ss (Tryz.results50) rfl rfl ?_
           rw [mea_part (t := .mk o a l) hx (by simpa [Nd.l] using hb42)]; rfl)
        · first
          | exact Bool.noConfusion hb42
          | (
           have hmx : meaT x (most - ((1 + szL (l.take k) : Nat) : Int)) (d + 1) = true := by simpa using hb42
           have hsn := szL_snoc hx
           have hbd : (szT x : Int) ≤ most - ((1 + szL (l.take k) : Nat) : Int) := by
            have := hmx
            unfold meaT at this
            simp only [Bool.and_eq_true, decide_eq_true_eq] at this
            exact this.1.2
           have hn2 : ((1 + szL (l.take k) : Nat) : Int) + (szT x : Int) = ((1 + szL (l.take (k + 1)) : Nat) : Int) := by omega
           rw [if_pos hmx]
           refine nav ?_
           (refine aC_region ?_ <;> refine xL 43 q_move ?_ <;> refine xL 44 q_move ?_ <;> (refine xL 45 q_add ?_; rw [hn2]) <;> refine xL 8 q_assign ?_ <;> refine aL_end (nav ?_) <;> try dsimp only)
           (refine aC_region ?_ <;> refine xL 46 q_add ?_ <;> refine xL 27 q_move ?_ <;> refine aL_end (nav ?_) <;> try dsimp only)
           refine aN_again (
            ⟨k + 1, by omega, by omega, fun j y hj hy => by
             by_cases e : j = k
             · subst e; rw [hx] at hy; cases hy; exact hmx
             · exact hp2 j y (by omega) hy⟩
            ) (by dsimp only; omega) ⟨rfl, rfl, rfl, rfl, rfl, rfl, trivial⟩ ⟨rfl, trivial⟩))
     · first
       | exact Bool.noConfusion hb28
       | (
        refine nav ?_
        (refine aC_region ?_ <;> refine xL 47 q_move ?_ <;> refine xL 6 q_assign ?_ <;> refine xL 7 q_assign ?_ <;> refine aL_end (nav ?_) <;> try dsimp only)
        refine ret_ss (Tryz.results50) rfl rfl ?_
        have hkl : k = l.length := by omega
        subst hkl
        rw [mea_all (t := .mk o a l) hrt (by omega) (by omega) fun j x hx => hp2 j x (lt_of_get hx) hx]
        rw [List.take_of_length_le (Nat.le_refl _), if_pos rfl, szT])))
theorem tValid_e (t : Nd) (hf : FitT t) : AF Tryz.prog 26 [pTr t] (· = pBool (valT t)) := by
 refine AF.of_body 11 Tryz.func26 rfl Tryz.ntmps26 (Nat.le_of_ble_eq_true rfl) ?_
 intro w0 M0 vs hl hv
 obtain ⟨v0, rfl⟩ := len1 hl
 clear hl hv
 have e0 : pTr t = .agg [pInt t.op, pStr t.act, pTrs t.l] := rfl
 rw [e0]
 refine nav ?_
 (refine aC_region ?_ <;> refine s_boxa 1 3 fun h1 => ?_ <;> refine xL 2 q_assign ?_ <;> refine aL_end (nav ?_) <;> try dsimp only)
 (refine aC_region ?_ <;> (refine yL 6 (q_ldao 1 tAgg24_PtC) fun v6 hv6 => ?_; cases hv6) <;> (refine cP 7 (cA Tryz.call50 (tMeasure_e t hf 400 1 (by omega) (by omega) (by omega) (by omega))) fun va7 vb7 hva7 hvb7 => ?_; cases hva7; cases hvb7) <;> refine xL 5 q_move ?_ <;> refine xL 8 q_extract ?_ <;> refine xL 9 q_extract ?_ <;> refine xL 3 q_assign ?_ <;> refine xL 4 q_assign ?_ <;> refine aL_end (nav ?_) <;> try dsimp only)
 (refine aC_region ?_ <;> refine xL 10 q_move ?_ <;> refine xL 2 q_assign ?_ <;> refine aL_end (nav ?_) <;> try dsimp only)
 exact ret_shr Tryz.results26 rfl rfl
theorem tSize_e (t : Nd) (hf : FitT t) : AF Tryz.prog 27 [pTr t] (· = pInt (if valT t = true then (szT t : Int) else 0)) := by
 refine AF.of_body 11 Tryz.func27 rfl Tryz.ntmps27 (Nat.le_of_ble_eq_true rfl) ?_
 intro w0 M0 vs hl hv
 obtain ⟨v0, rfl⟩ := len1 hl
 clear hl hv
 have e0 : pTr t = .agg [pInt t.op, pStr t.act, pTrs t.l] := rfl
 rw [e0]
 refine nav ?_
 (refine aC_region ?_ <;> refine s_boxa 1 3 fun h1 => ?_ <;> refine xL 2 q_assign ?_ <;> refine aL_end (nav ?_) <;> try dsimp only)
 (refine aC_region ?_ <;> (refine yL 6 (q_ldao 1 tAgg24_PtC) fun v6 hv6 => ?_; cases hv6) <;> (refine cP 7 (cA Tryz.call50 (tMeasure_e t hf 400 1 (by omega) (by omega) (by omega) (by omega))) fun va7 vb7 hva7 hvb7 => ?_; cases hva7; cases hvb7) <;> refine xL 5 q_move ?_ <;> refine xL 8 q_extract ?_ <;> refine xL 9 q_extract ?_ <;> refine xL 3 q_assign ?_ <;> refine xL 4 q_assign ?_ <;> refine aL_end (nav ?_) <;> try dsimp only)
 (refine aC_region ?_ <;> refine xL 10 q_move ?_ <;> refine xL 2 q_assign ?_ <;> refine aL_end (nav ?_) <;> try dsimp only)
 exact ret_shr Tryz.results27 rfl rfl
theorem mea_bd {t : Nd} {most d : Int} (h : meaT t most d = true) : (szT t : Int) ≤ most := by
 unfold meaT at h
 simp only [Bool.and_eq_true, decide_eq_true_eq] at h
 exact h.1.2
def cntT (t : Nd) (d left : Int) : Int := if meaT t left d = true then left - (szT t : Int) else -1
theorem rtCount_e : ∀ (t : Nd), FitT t → ∀ (d left : Int), -4611686018427387904 ≤ left → left ≤ 4611686018427387904 → -4611686018427387904 ≤ d → d ≤ 4611686018427387904 → AF Tryz.prog 44 [pTr t, pInt d, pInt left] (· = pInt (cntT t d left)) := Nd.ind fun o a l ih hf d left hm1 hm2 hd1 hd2 => by
 have hl := hf.len
 have hp := hf.p
 simp only [Nd.l] at hl hp
 refine AF.of_body 41 Tryz.func44 rfl Tryz.ntmps44 (Nat.le_of_ble_eq_true rfl) ?_
 intro w0 M0 vs hl hv
 obtain ⟨v0, v1, v2, rfl⟩ := len3 hl
 obtain rfl := hv 1 _ _ rfl rfl
 obtain rfl := hv 2 _ _ rfl rfl
 clear hl hv
 have e0 : pTr (.mk o a l) = .agg [pInt o, pStr a, .sl l.length (cTrs l)] := rfl
 rw [e0]
 refine nav ?_
 (refine aC_region ?_ <;> refine s_boxa 3 3 fun h3 => ?_ <;> refine xL 6 q_assign ?_ <;> refine aL_end (nav ?_) <;> try dsimp only)
 (refine aC_region ?_ <;> refine xL 8 q_move ?_ <;> refine xL 9 q_leq ?_ <;> refine xL 10 q_move ?_ <;> (refine bLd 10 (fun hb10 => ?_) (fun hb10 => ?_) <;> (first | refine kL 11 ?_ | refine xL 11 q_move ?_)) <;> (first | refine kL 12 ?_ | refine xL 12 q_gtr ?_) <;> refine xL 13 q_pick ?_ <;> refine xL 14 q_move ?_ <;> (first | refine kL 15 ?_ | (refine bLd 14 (fun hb14 => ?_) (fun hb14 => ?_) <;> (first | refine kL 15 ?_ | (refine yL 15 (q_ldao 3 tAgg24_PtC) fun v15 hv15 => ?_; cases hv15)))) <;> (first | refine kL 16 ?_ | (refine cS 16 (cA Tryz.call68 (rtRight_e (.mk o a l) hf)) fun v16 hv16 => ?_; cases hv16)) <;> (first | refine kL 17 ?_ | refine xL 17 q_not ?_) <;> refine xL 18 q_pick ?_ <;> refine aL_end (nav ?_) <;> try dsimp only) <;> (
  (first | refine cCd ?_ ?_ | refine cC ?_ ?_) <;> intro hb18
  · first
    | exact Bool.noConfusion hb18
    | (
     refine nav ?_
     (refine aC_region ?_ <;> refine xL 6 q_assign ?_ <;> refine aL_end (nav ?_) <;> try dsimp only)
     refine ret_shr (Tryz.results44) rfl ?_
     unfold cntT
     rw [mea_no (by first | exact .inl (by omega) | exact .inr (.inl (by omega)) | exact .inr (.inr (by simpa using hb18)))]; rfl)
  · first
    | exact Bool.noConfusion hb18
    | (
     have hrt : rightT (.mk o a l) = true := by simpa using hb18
     have hc0 : left - 1 = left - ((1 + szL (l.take 0) : Nat) : Int) := by simp [szL]
     refine nav ?_
     (refine aC_region ?_ <;> refine xL 19 q_move ?_ <;> (refine xL 20 q_sub ?_; rw [hc0]) <;> refine xL 2 q_assign ?_ <;> refine aL_end (nav ?_) <;> try dsimp only)
     (refine aC_region ?_ <;> refine xL 7 q_assign ?_ <;> refine aL_end (nav ?_) <;> try dsimp only)
     refine aC_loop (ι := { k : Nat // k ≤ l.length ∧ ((1 + szL (l.take k) : Nat) : Int) ≤ left ∧ ∀ j x, j < k → l[j]? = some x → meaT x (left - ((1 + szL (l.take j) : Nat) : Int)) (d + 1) = true }) (fun k => ⟨[(1, _, _), (3, _, _), (7, .int .i64 k.1, pInt k.1), (2, .int .i64 (left - ((1 + szL (l.take k.1) : Nat) : Int)), pInt (left - ((1 + szL (l.take k.1) : Nat) : Int)))], [(3, _, _)]⟩) (fun k => l.length - k.1) ⟨0, by omega, by simp [szL]; omega, by omega⟩ (fun a w H => H.weaken ⟨rfl, rfl, rfl, rfl, trivial⟩ ⟨rfl, trivial⟩) ?_
     rintro ⟨k, hk, hsz, hp2⟩
     dsimp only
     refine nav ?_
     (refine aC_region ?_ <;> refine xL 21 q_move ?_ <;> refine xL 22 (q_fldo 3 tFl24_2_PtC) ?_ <;> (refine yL 23 (q_ldo 3 tNa22_PtC) fun v23 hv23 => ?_; cases hv23) <;> refine xL 24 (q_len tSl22_PtC) ?_ <;> refine xL 25 q_lss ?_ <;> refine aL_end (nav ?_) <;> try dsimp only)
     (first | refine cCd ?_ ?_ | refine cC ?_ ?_) <;> intro hb25
     · first
       | exact Bool.noConfusion hb25
       | (
        obtain ⟨x, hx⟩ := get_some (show k < l.length by omega)
        have hxm := List.mem_of_getElem? hx
        have e1 := tr_drop hx
        have e2 := tr_fit hx
        refine nav ?_
        (refine aC_region ?_ <;> refine xL 28 (q_fldo 3 tFl24_2_PtC) ?_ <;> (refine yL 29 (q_ldo 3 tNa22_PtC) fun v29 hv29 => ?_; cases hv29) <;> refine xL 30 q_move ?_ <;> refine xL 31 (q_idxN tSl22_PtC) ?_ <;> (refine yL 32 (q_lda tAgg24_PtC) fun v32 hv32 => ?_; cases hv32) <;> refine xL 33 q_move ?_ <;> refine xL 34 q_add ?_ <;> refine xL 35 q_move ?_ <;> (refine cS 36 (cA Tryz.call44 (ih x hxm (hp x hxm) (d + 1) (left - ((1 + szL (l.take k) : Nat) : Int)) (by omega) (by omega) (by omega) (by omega))) fun v36 hv36 => ?_; cases hv36) <;> refine xL 2 q_assign ?_ <;> refine aL_end (nav ?_) <;> try dsimp only)
        have hcx : cntT x (d + 1) (left - ((1 + szL (l.take k) : Nat) : Int)) < 0 ↔ meaT x (left - ((1 + szL (l.take k) : Nat) : Int)) (d + 1) = false := by
         unfold cntT
         cases hmx : meaT x (left - ((1 + szL (l.take k) : Nat) : Int)) (d + 1) with
         | true => have := mea_bd hmx; simp; omega
         | false => simp
        (refine aC_region ?_ <;> refine xL 37 q_move ?_ <;> refine xL 38 q_lss ?_ <;> refine aL_end (nav ?_) <;> try dsimp only)
        (first | refine cCd ?_ ?_ | refine cC ?_ ?_) <;> intro hb38
        · first
          | exact Bool.noConfusion hb38
          | (
           refine nav ?_
           (refine aC_region ?_ <;> refine xL 39 q_move ?_ <;> refine xL 6 q_assign ?_ <;> refine aL_end (nav ?_) <;> try dsimp only)
           refine ret_shr (Tryz.results44) rfl ?_
           have hmx := hcx.1 hb38
           unfold cntT
           rw [mea_part (t := .mk o a l) hx hmx, hmx]; rfl)
        · first
          | exact Bool.noConfusion hb38
          | (
           have hmx : meaT x (left - ((1 + szL (l.take k) : Nat) : Int)) (d + 1) = true := by
            cases h : meaT x (left - ((1 + szL (l.take k) : Nat) : Int)) (d + 1) with
            | true => rfl
            | false => exact absurd (hcx.2 h) hb38
           have hsn := szL_snoc hx
           have hbd := mea_bd hmx
           have hn2 : cntT x (d + 1) (left - ((1 + szL (l.take k) : Nat) : Int)) = left - ((1 + szL (l.take (k + 1)) : Nat) : Int) := by
            unfold cntT; rw [if_pos hmx]; omega
           rw [hn2]
           refine nav ?_
           (refine aC_region ?_ <;> refine xL 26 q_move ?_ <;> refine xL 27 q_add ?_ <;> refine xL 7 q_assign ?_ <;> refine aL_end (nav ?_) <;> try dsimp only)
           refine aN_again (
            ⟨k + 1, by omega, by omega, fun j y hj hy => by
             by_cases e : j = k
             · subst e; rw [hx] at hy; cases hy; exact hmx
             · exact hp2 j y (by omega) hy⟩
            ) (by dsimp only; omega) ⟨rfl, rfl, rfl, rfl, trivial⟩ ⟨rfl, trivial⟩))
     · first
       | exact Bool.noConfusion hb25
       | (
        refine nav ?_
        (refine aC_region ?_ <;> refine xL 40 q_move ?_ <;> refine xL 6 q_assign ?_ <;> refine aL_end (nav ?_) <;> try dsimp only)
        refine ret_shr (Tryz.results44) rfl ?_
        have hkl : k = l.length := by omega
        subst hkl
        unfold cntT
        rw [mea_all (t := .mk o a l) hrt (by omega) (by omega) fun j x hx => hp2 j x (lt_of_get hx) hx]
        rw [List.take_of_length_le (Nat.le_refl _), if_pos rfl, szT])))
theorem rtValid_e (t : Nd) (hf : FitT t) : AF Tryz.prog 19 [pTr t] (· = pBool (valT t)) := by
 refine AF.of_body 6 Tryz.func19 rfl Tryz.ntmps19 (Nat.le_of_ble_eq_true rfl) ?_
 intro w0 M0 vs hl hv
 obtain ⟨v0, rfl⟩ := len1 hl
 clear hl hv
 have e0 : pTr t = .agg [pInt t.op, pStr t.act, pTrs t.l] := rfl
 rw [e0]
 refine nav ?_
 (refine aC_region ?_ <;> refine s_boxa 1 3 fun h1 => ?_ <;> refine xL 2 q_assign ?_ <;> refine aL_end (nav ?_) <;> try dsimp only)
 (refine aC_region ?_ <;> (refine yL 3 (q_ldao 1 tAgg24_PtC) fun v3 hv3 => ?_; cases hv3) <;> (refine cS 4 (cA Tryz.call44 (rtCount_e t hf 1 400 (by omega) (by omega) (by omega) (by omega))) fun v4 hv4 => ?_; cases hv4) <;> refine xL 5 q_geq ?_ <;> refine xL 2 q_assign ?_ <;> refine aL_end (nav ?_) <;> try dsimp only)
 refine ret_shr (Tryz.results19) rfl (bool_val ?_)
 rw [decide_eq_true_eq]
 unfold cntT valT
 cases h : meaT t 400 1 with
 | true => have := mea_bd h; simp; omega
 | false => simp
end Go.Proofs.YtbfilfhgcihhoaaGreatDoor
namespace Go.En
open Go.RowKit Go.Cb Go.Proofs Go.Sort
set_option linter.all false
section
variable {P : Program} {c : Ctx} {ops : Array Oper} {Q : Exit → Act → World → Prop} {rest : List Oper} {sL hP : List (Nat × Ent)} {o : Oper}
end
open Go.RowKit Go.Cb
section
variable {P : Program} {c : Ctx} {ops : Array Oper} {Q : Exit → Act → World → Prop} {rest : List Oper} {st : St} {sL hP : List (Nat × Ent)} {o : Oper}
theorem slc_own {w : World} {e k n m : Nat} {h : Value} {xs : List Value} (hrow : w.ownsRow 0 e k h n xs) (hm : m ≤ n) : w.ownsRow 0 e k (slc h 0 m k) m (xs.take (m * k)) ∧ (slc h 0 m k).ownBlock = h.ownBlock := by
 rcases hrow.2 with ⟨rfl, rfl⟩ | ⟨g, cap, cur, rfl, hg, hh, h1, h2, h3, h4⟩
 · obtain rfl : m = 0 := by omega
   refine ⟨⟨by simp, .inl ⟨by simp [slc], rfl⟩⟩, by simp [slc]⟩
 · have hs : slc (.slice (some ⟨g, 0, none⟩) n cap) 0 m k = .slice (some ⟨g, 0, none⟩) m cap := by
    simp only [slc, Nat.zero_mul, Option.map_some, add_none, Nat.add_zero, Nat.sub_zero, ite_self]
   rw [hs]
   refine ⟨⟨?_, .inr ⟨g, cap, cur, rfl, hg, hh, by omega, h2, h3, ?_⟩⟩, rfl⟩
   · rw [List.length_take, hrow.1]; exact Nat.min_eq_left (Nat.mul_le_mul_right k hm)
   · rw [← h4, List.take_take, Nat.min_eq_left (Nat.mul_le_mul_right k hm)]
theorem trim {l e k n : Nat} {h : Value} {cs : List PV} (m : Nat) (hl : lk hP l = some (h, .own e k n cs)) (hm : m ≤ n) : EntE (⟨sL, hP⟩ : St) (fun _ : Unit => ⟨sL, put l (slc h 0 m k, .own e k m (cs.take (m * k))) hP⟩) := fun c a w ⟨F, H⟩ => by
 have hTr := H.tr l _ _ hl
 obtain ⟨xs, Fs, hrow, hlen, hT, hd, hb, hF⟩ := hTr.row
 obtain ⟨hrow', hown⟩ := slc_own hrow hm
 refine ⟨(), fun x => if x = l then (fun b => h.ownBlock = some b ∨ ∃ i, i < (cs.take (m * k)).length ∧ Fs i b) else F x, ?_⟩
 have hle : (cs.take (m * k)).length ≤ cs.length := by rw [List.length_take]; exact Nat.min_le_right _ _
 refine H.retell (fun x => x = l) (fun x y hnT hx => ?_) (fun x y b hTx hx hb' => ?_) (fun hmm x u q hTx hx => ?_) (fun x1 x2 y1 y2 b h1 h2 hne' => absurd (h1.trans h2.symm) hne')
 · have n1 : x ≠ l := hnT
   rw [lk_put_ne (Ne.symm n1)] at hx
   exact ⟨hx, by simp [n1]⟩
 · subst hTx
   simp only [if_true] at hb'
   refine ⟨x, _, rfl, hl, (hF b).2 ?_⟩
   rcases hb' with h1 | ⟨i, hi, h1⟩
   · exact .inl h1
   · exact .inr ⟨i, by omega, h1⟩
 · subst hTx
   rw [lk_put_self] at hx
   cases hx
   simp only [if_true]
   refine .own _ Fs hrow' (by rw [List.length_take, List.length_take, hlen]) (fun i x p hx9 hp => ?_) (fun i j b hi hj => hd i j b (by omega) (by omega)) (fun i b hi h1 h2 => hb i b (by omega) h1 (by rw [← hown]; exact h2)) (fun b => by rw [hown])
   have hi : i < m * k := by have := lt_of_get hx9; rw [List.length_take] at this; omega
   rw [List.getElem?_take_of_lt hi] at hx9 hp
   exact (hT i x p hx9 hp).anti hmm
theorem q_lennil {t e k : Nat} {x : Operand} {q : PV} (hT : SlT P t e k = true) (ho : o.op = .call { callee := .builtin .len, args := #[x], argTypes := #[t] } := by exact rfl) (hx : ev st.slots x = some (.slice none 0 0, q) := by exact rfl) : YE P st o (· = .int .i64 0) (.val (.int .i64 0)) :=
 y1 hx (fun _ _ _ => .val _) fun ρ w h => by
  simp [execOp, ho, h, resolve, invoke, builtin, Builtin.len_, run_underlying (SlT.und hT), goInt]
theorem s_apps {t e kk bytes n m : Nat} {z : Value} {x y : Operand} {h v2 : Value} {q : PV} {cs cs2 : List PV} (l d : Nat) (hT : ElT P t e kk bytes z) (k : ∀ h' : Value, h'.oneCell' = true → aL P c ops Q rest ⟨put d (h', .val h') sL, put d (h', .own e kk (n + m) (cs ++ cs2)) (del l hP)⟩)
 (hlen2 : cs2.length = m * kk := by first | assumption | exact rfl) (hok : cs2.all one = true := by first | assumption | exact rfl) (hw : wants ops sL o = some true := by exact rfl) (hd : o.dst = some d := by exact rfl) (hn : d < c.nt := by exact Nat.le_of_ble_eq_true rfl) (ho : o.op = .call { callee := .builtin .append, args := #[x, y], argTypes := #[t, t] } := by exact rfl)
 (hx : ev sL x = some (h, q) := by exact rfl) (hy : ev sL y = some (v2, .sl m cs2) := by exact rfl) (hl : lk hP l = some (h, .own e kk n cs) := by exact rfl) (hdl : lk (del l hP) d = none := by exact rfl) (hlen : n + m ≤ 9223372036854775807 := by first | omega | exact Nat.le_of_ble_eq_true rfl | (simp only [List.length_cons, List.length_nil, List.length_map, List.length_set, List.length_append, List.length_replicate, List.length_singleton, List.flatMap_cons, List.flatMap_nil]; omega)) (hb : (n + m) * bytes ≤ 140737488355328 := by first | omega | exact Nat.le_of_ble_eq_true rfl | (simp only [List.length_cons, List.length_nil, List.length_map, List.length_set, List.length_append, List.length_replicate, List.length_singleton, List.flatMap_cons, List.flatMap_nil]; omega)) (hdr : ¬ c.dr := by exact id) : aL P c ops Q (o :: rest) (⟨sL, hP⟩ : St) := fun a w ⟨F, H⟩ => by
 have h1 : h.oneCell' = true := (H.tr l _ _ hl).cellOne rfl
 rcases Nat.eq_zero_or_pos m with h0 | h0
 · subst h0
   have : cs2 = [] := List.eq_nil_of_length_eq_zero (by rw [hlen2, Nat.zero_mul])
   subst this
   refine aL_app0 l d hT hw hd hn ho hx hy hl (aL_ent (relabel d hl hdl) fun _ => ?_) a w ⟨F, H⟩
   have := k h h1
   rw [List.append_nil] at this
   exact this
 · exact aL_app_src l d hT hw hd hn ho hx hy hl (src_shr hy h0) hlen2 hdl hok hlen hb hdr k a w ⟨F, H⟩
end
section
variable {P : Program} {c : Ctx} {ops : Array Oper} {Q : Exit → Act → World → Prop} {rest : List Oper} {sL hP : List (Nat × Ent)} {o : Oper}
end
theorem ext_grow {w w' : World} (h : Ext w w') (hd : w.drawn ≤ w'.drawn) : ∃ q os', w' = Go.Sort.grow (w.drewN q) os' := by
 refine ⟨w'.drawn - w.drawn, w'.heap.extract w.heap.size w'.heap.size, ?_⟩
 have hh : w'.heap = w.heap ++ w'.heap.extract w.heap.size w'.heap.size := by
  apply Array.ext_getElem?
  intro i
  rcases Nat.lt_or_ge i w.heap.size with hi | hi
  · rw [Array.getElem?_append_left hi]; exact Below.block h i hi
  · rw [Array.getElem?_append_right hi, Array.getElem?_extract]
    have hs := h.size
    rcases Nat.lt_or_ge i w'.heap.size with hi2 | hi2
    · rw [if_pos (by simp; omega), show w.heap.size + (i - w.heap.size) = i by omega]
    · rw [Array.getElem?_eq_none hi2, if_neg (by simp; omega)]
 have h1 := h.os
 have h2 := h.tape
 have h3 := h.output
 cases w' with
 | mk heap' tape' drawn' os' output' =>
   simp only at h1 h2 h3 hh hd
   simp only [Go.Sort.grow, World.drewN]
   rw [← hh, h1, h2, h3, show w.drawn + (drawn' - w.drawn) = drawn' by omega]
theorem AFg.exact {P : Program} {g : Nat} {ps : List PV} {x : Value} (h : AFg P g ps (· = .val x)) {M : BS} {W : World} {vs : List Value} (hl : vs.length = ps.length) (hv : ∀ (i : Nat) (v : Value) (p : PV), vs[i]? = some v → ps[i]? = some p → Shr M W v p) :
 Calls P g vs.toArray W fun e w' => e = .returned x ∧ ∃ q os', w' = Go.Sort.grow (W.drewN q) os' :=
 (h (fun _ => False) W vs (M0k.true W) hl (fun i v p h1 h2 => (hv i v p h1 h2).anti fun _ _ h => h.elim)).mono fun e w' ⟨v, p, F, h1, h2, h3, h4, _, h6⟩ => by
   subst h2
   have := (h4.sh rfl).vOf
   subst this
   exact ⟨h1, ext_grow h3 (h6 trivial)⟩
section
variable {P : Program} {c : Ctx} {ops : Array Oper} {Q : Exit → Act → World → Prop} {rest : List Oper} {sL hP : List (Nat × Ent)} {o : Oper}
end
open Go.ChangeMaps (setBlock)
section
variable {P : Program} {c : Ctx} {ops : Array Oper} {Q : Exit → Act → World → Prop} {rest : List Oper} {sL hP : List (Nat × Ent)} {o : Oper}
end
end Go.En
