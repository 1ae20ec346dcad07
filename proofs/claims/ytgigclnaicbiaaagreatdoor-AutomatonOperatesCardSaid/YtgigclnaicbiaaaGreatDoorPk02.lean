/-
  The engine, twelfth part: maps. No program in sight.
  The engine, thirteenth part: a region that draws its order. No program in sight.
  The engine, fourteenth part: labels renamed; nil in cells; make of structs. No program in sight.
  The engine's rules in short forms. No program in sight.
  The engine: rows of owned rows as a family; nil checks; pointers that are shared from now on; three writers at once. No program in sight.
  The engine: results that lie in cells. No program in sight.
  Walks: names, alphabets; searching lists of strings (package name, the reference's layer 2, package slices).
  Walks: slices.IndexFunc, slices.ContainsFunc, at the element types of the program.
  Walks: lists of variants: which are valid, which are the same; what is small enough for the laws of the cut chapter.
  Walks: directly-follows graphs: which are valid (package dfg).
  The engine, fifteenth part: a row is sorted by the library. No program in sight.
  The engine: a row is cut short; new rows of zeros by append. No program in sight.
  The engine: a row of numbers is sorted by the library. No program in sight.
  The engine: rows are sorted by the library, compared by functions that were walked. No program in sight.
  The engine: ranging over a map that is read. No program in sight.
  The engine: maps whose keys are pairs of strings. No program in sight.
  The engine: owned structs behind pointers, handed back and opened. No program in sight.
  Plain laws: maps to numbers as lists; counts and pairs in order. No program in sight.
  Walks: comparing of counts and pairs where what is drawn only grows; dfg.list.
  Plain laws: what dfg.Make counts. No program in sight.
  Walks: dfg.newCounter, the counter's graph.
  The engine: a call that hands back one of a family of pairs. No program in sight.
  The engine: calls that change what the caller owns. No program in sight.
  Walks: slices.Clone and slices.DeleteFunc over counts and follows.
  Walks: slices.Clone over counts and follows; dfg.Threshold.
  Walks: automata: comparing moves, which automata are valid.
  Walks: automata: which states are near; which accept.
-/
import Derived.KernelRfl
import Derived.Test.YtgigclnaicbiaaaGreatDoorProg
import Derived.Shelf.SlSortCmp.InsertionK
import Derived.Shelf.SlSortCmp.Kit1
import Derived.Maps.RangeRun
import Derived.DeepKeys3
import Derived.Lib.SliceRun
import Derived.Test.YtgigclnaicbiaaaGreatDoorPk01
import Derived.Test.YtgigclnaicbiaaaGreatDoorMShelfC
namespace Go.En
open Go.RowKit Go.Cb
set_option linter.all false
def keq : Value → Value → Bool
 | .string a, .string b => a == b
 | .int k a, .int k' b => decide (k = k') && a == b
 | .bool a, .bool b => a == b
 | _, _ => false
theorem ba_beq {a b : ByteArray} : (a == b) = true ↔ a = b := by
 obtain ⟨a⟩ := a
 obtain ⟨b⟩ := b
 rw [show ((⟨a⟩ : ByteArray) == ⟨b⟩) = (a == b) from rfl]
 simp
theorem keq_sym {a b : Value} (h : keq a b = true) : keq b a = true := by
 cases a <;> cases b <;> simp_all [keq, ba_beq]
def kok (kd : TypeDesc) (k : Value) (kv : List (Value × Value)) : Prop := ∀ x ∈ kv, Instr.sameNow kd k x.1 = some (keq k x.1)
def mget : List (Value × Value) → Value → Option Value
 | [], _ => none
 | x :: l, k => if keq k x.1 then some x.2 else mget l k
def mput : List (Value × Value) → Value → Value → List (Value × Value)
 | [], k, v => [(k, v)]
 | x :: l, k, v => if keq k x.1 then (k, v) :: l else x :: mput l k v
def midx : List (Value × Value) → Value → Option Nat
 | [], _ => none
 | x :: l, k => if keq k x.1 then some 0 else (midx l k).map (· + 1)
theorem findNow_spec {kd : TypeDesc} {k : Value} : ∀ (l : List MapEntry) (i : Nat), kok kd k (l.map fun x => (x.key, x.val)) →
 Instr.findNow kd k l i = some (match midx (l.map fun x => (x.key, x.val)) k, mget (l.map fun x => (x.key, x.val)) k with | some j, some v => some (i + j, v) | _, _ => none) ∧ ((midx (l.map fun x => (x.key, x.val)) k).isSome = (mget (l.map fun x => (x.key, x.val)) k).isSome)
 | [], i, _ => ⟨rfl, rfl⟩
 | e :: l, i, h => by
   have h0 := h (e.key, e.val) (by simp)
   obtain ⟨h1, h2⟩ := findNow_spec l (i + 1) (fun x hx => h x (by simp at hx ⊢; exact .inr hx))
   simp only at h0
   simp only [Instr.findNow, h0, List.map_cons, midx, mget]
   cases hk : keq k e.key
   · simp only [Bool.false_eq_true, if_false]
     rw [h1]
     cases hm : midx (l.map fun x => (x.key, x.val)) k with
     | none =>
       rw [hm] at h2
       cases hg : mget (l.map fun x => (x.key, x.val)) k with
       | none => simp
       | some v => rw [hg] at h2; simp at h2
     | some j =>
       rw [hm] at h2
       cases hg : mget (l.map fun x => (x.key, x.val)) k with
       | none => rw [hg] at h2; simp at h2
       | some v => simp; omega
   · simp
structure MpT (P : Program) (t ks e : Nat) (kd : TypeDesc) (z : Value) : Prop where
 ht : P.underlying t = some (.map ks e)
 hk : P.underlying ks = some kd
 hkd : kd = .string ∨ ∃ k, kd = .int k
 hz : ZeroT P e z
section
variable {P : Program} {c : Ctx} {ops : Array Oper} {Q : Exit → Act → World → Prop} {rest : List Oper} {sL hP : List (Nat × Ent)} {o : Oper}
theorem run_checkKey {ks : Nat} {kd : TypeDesc} (hk : P.underlying ks = some kd) (hkd : kd = .string ∨ ∃ k, kd = .int k) (b : Bool) (v : Value) (w : World) : (Instr.checkKey b 10000 ks v).run P w = .ok () w := by
 rw [show (10000 : Nat) = 9999 + 1 from rfl, Instr.checkKey]
 rcases hkd with rfl | ⟨k, rfl⟩ <;> simp [run_underlying hk]
theorem run_findKey {ks : Nat} {kd : TypeDesc} (hk : P.underlying ks = some kd) {k : Value} {es : Array MapEntry} (h : kok kd k (kvOf es)) (w : World) : (Instr.findKey ks k es.toList).run P w = .ok (match midx (kvOf es) k, mget (kvOf es) k with | some j, some v => some (j, v) | _, _ => none) w := by
 obtain ⟨h1, _⟩ := findNow_spec es.toList 0 h
 unfold Instr.findKey
 simp only [Sem.run_bind, run_underlying hk, Result.andThen_ok, h1, Nat.zero_add]
 rfl
theorem mid_get (kv : List (Value × Value)) (k : Value) : (midx kv k).isSome = (mget kv k).isSome := by
 induction kv with
 | nil => rfl
 | cons x l ih =>
   simp only [midx, mget]
   split
   · rfl
   · simpa using ih
theorem run_lookup {t ks e : Nat} {kd : TypeDesc} {z : Value} (hT : MpT P t ks e kd z) {b clock : Nat} {es : Array MapEntry} {k : Value} (hb : Bool) {w : World} (h : w.heap[b]? = some (.map es clock)) (hk : kok kd k (kvOf es)) :
 (Instr.lookup t (.map (some b)) k hb).run P w = .ok (if hb then .tuple #[(mget (kvOf es) k).getD z, .bool (mget (kvOf es) k).isSome] else (mget (kvOf es) k).getD z) w := by
 have hm := mid_get (kvOf es) k
 unfold Instr.lookup
 simp only [Sem.run_bind, run_underlying hT.ht, Result.andThen_ok, getObj, Sem.run, h, run_checkKey hT.hk hT.hkd, run_findKey hT.hk hk]
 cases h1 : midx (kvOf es) k with
 | none =>
   rw [h1] at hm
   cases h2 : mget (kvOf es) k with
   | none => cases hb <;> simp [run_findKey hT.hk hk, h1, h2, ZeroT.run hT.hz]
   | some v => rw [h2] at hm; simp at hm
 | some j =>
   rw [h1] at hm
   cases h2 : mget (kvOf es) k with
   | none => rw [h2] at hm; simp at hm
   | some v => cases hb <;> simp [run_findKey hT.hk hk, h1, h2]
theorem Tr.map {M : BS} {w : World} {m : Value} {kv : List (Value × Value)} {F : BS} (h : Tr M w m (.omap kv) F) : ∃ b es clock, m = .map (some b) ∧ kv = kvOf es ∧ w.heap[b]? = some (.map es clock) ∧ ∀ x, F x ↔ x = b := by
 cases h with
 | shr h _ => cases h
 | omap b es clock h hF => exact ⟨b, es, clock, rfl, rfl, h, hF⟩
theorem y_look_o {t ks e : Nat} {kd : TypeDesc} {z : Value} {x y : Operand} {m k : Value} {kv : List (Value × Value)} {p q : PV} (l : Nat) (hT : MpT P t ks e kd z) (ho : o.op = .lookup t x y false) (hx : ev sL x = some (m, p)) (hl : lk hP l = some (m, .omap kv)) (hy : ev sL y = some (k, q)) (hk : kok kd k kv) :
 YE P (⟨sL, hP⟩ : St) o (· = (mget kv k).getD z) (.val ((mget kv k).getD z)) := .exact fun M F a w H => by
 have hv := (H.ev hx).1
 have hkv := (H.ev hy).1
 obtain ⟨b, es, clock, rfl, rfl, h, _⟩ := (H.tr l _ _ hl).map
 exact ⟨.val _, by simp [execOp, ho, hv, hkv, run_lookup hT false h hk]⟩
theorem y_look_o2 {t ks e : Nat} {kd : TypeDesc} {z : Value} {x y : Operand} {m k : Value} {kv : List (Value × Value)} {p q : PV} (l : Nat) (hT : MpT P t ks e kd z) (ho : o.op = .lookup t x y true) (hx : ev sL x = some (m, p)) (hl : lk hP l = some (m, .omap kv)) (hy : ev sL y = some (k, q)) (hk : kok kd k kv) :
 YE P (⟨sL, hP⟩ : St) o (· = .tuple [(mget kv k).getD z, .bool (mget kv k).isSome].toArray) (.tup [.val ((mget kv k).getD z), .val (.bool (mget kv k).isSome)]) := .exact fun M F a w H => by
 have hv := (H.ev hx).1
 have hkv := (H.ev hy).1
 obtain ⟨b, es, clock, rfl, rfl, h, _⟩ := (H.tr l _ _ hl).map
 refine ⟨.tup _ _ rfl fun i x p hx hp => ?_, by simp [execOp, ho, hv, hkv, run_lookup hT true h hk]⟩
 match i with
 | 0 => simp at hx hp; subst hx hp; exact .val _
 | 1 => simp at hx hp; subst hx hp; exact .val _
 | i + 2 => simp at hx
theorem y_look_oE {t ks e : Nat} {kd : TypeDesc} {z u : Value} {x y : Operand} {m k : Value} {kv : List (Value × Value)} {p q : PV} (l : Nat) (hT : MpT P t ks e kd z) (ho : o.op = .lookup t x y false) (hx : ev sL x = some (m, p)) (hl : lk hP l = some (m, .omap kv)) (hy : ev sL y = some (k, q)) (hk : kok kd k kv) (hu : (mget kv k).getD z = u) :
 YE P (⟨sL, hP⟩ : St) o (· = u) (.val u) := hu ▸ y_look_o l hT ho hx hl hy hk
theorem Tr.mapW {M : BS} {w : World} {m : Value} {kv : List (Value × Value)} {F : BS} (h : Tr M w m (.omap kv) F) : ∃ b es clock, m = .map (some b) ∧ kv = kvOf es ∧ w.heap[b]? = some (.map es clock) ∧ (∀ x, F x ↔ x = b) ∧ WfM es clock := by
 cases h with
 | shr h _ => cases h
 | omap b es clock h hF hW => exact ⟨b, es, clock, rfl, rfl, h, hF, hW⟩
theorem wf_push {es : Array MapEntry} {clock : Nat} {k v : Value} (h : WfM es clock) : WfM (es.push { key := k, val := v, born := clock }) (clock + 1) := by
 refine ⟨fun x hx => ?_, ?_⟩
 · rw [Array.toList_push, List.mem_append, List.mem_singleton] at hx
   rcases hx with hx | rfl
   · have := h.1 x hx; omega
   · exact Nat.lt_succ_self _
 · rw [Array.toList_push, List.map_append, List.nodup_append]
   refine ⟨h.2, by simp, fun a ha b hb => ?_⟩
   rw [List.map_cons, List.map_nil, List.mem_singleton] at hb
   obtain ⟨x, hx, rfl⟩ := List.mem_map.1 ha
   have := h.1 x hx
   dsimp only at hb; omega
theorem wf_modify {es : Array MapEntry} {clock j : Nat} (f : MapEntry → MapEntry) (hf : ∀ e, (f e).born = e.born) (h : WfM es clock) : WfM (es.modify j f) clock := by
 have e : (es.modify j f).toList.map (·.born) = es.toList.map (·.born) := by
  rw [Array.toList_modify]
  have : ∀ (l : List MapEntry) (j : Nat), (l.modify j f).map (·.born) = l.map (·.born) := fun l => by
   induction l with
   | nil => intro j; simp
   | cons a l ih => intro j; cases j with
     | zero => simp [hf]
     | succ j => rw [List.modify_succ_cons, List.map_cons, List.map_cons, ih]
  exact this _ _
 refine ⟨fun x hx => ?_, e ▸ h.2⟩
 have h1 : x.born ∈ es.toList.map (·.born) := e ▸ List.mem_map.2 ⟨x, hx, rfl⟩
 obtain ⟨y, hy, hxy⟩ := List.mem_map.1 h1
 have := h.1 y hy
 omega
theorem kvOf_len (es : Array MapEntry) : (kvOf es).length = es.size := by simp [kvOf]
theorem y_mlen_o {t ks e : Nat} {x : Operand} {m : Value} {kv : List (Value × Value)} {p : PV} (l : Nat) (ht : P.underlying t = some (.map ks e)) (ho : o.op = .call { callee := .builtin .len, args := #[x], argTypes := #[t] }) (hx : ev sL x = some (m, p)) (hl : lk hP l = some (m, .omap kv)) : YE P (⟨sL, hP⟩ : St) o (· = .int .i64 kv.length) (.val (.int .i64 kv.length)) := .exact fun M F a w H => by
 have hv := (H.ev hx).1
 obtain ⟨b, es, clock, rfl, rfl, h, _⟩ := (H.tr l _ _ hl).map
 exact ⟨.val _, by simp [execOp, ho, hv, resolve, invoke, builtin, Builtin.len_, run_underlying ht, getObj, Sem.run, h, goInt, kvOf_len]⟩
theorem aL_mkmap {t : Nat} (d : Nat) (hw : wants ops sL o = some true) (hd : o.dst = some d) (hn : d < c.nt) (ho : o.op = .makeMap t none) (hl : lk hP d = none)
 (k : ∀ m : Value, m.oneCell' = true → aL P c ops Q rest ⟨put d (m, .val m) sL, put d (m, .omap []) hP⟩) : aL P c ops Q (o :: rest) (⟨sL, hP⟩ : St) :=
 aL_run hw fun a w F H => by
  have key : HoldsF c ⟨put d (.map (some w.heap.size), .val (.map (some w.heap.size))) sL, put d (.map (some w.heap.size), .omap []) hP⟩ (fun l' => if l' = d then (fun b => b = w.heap.size) else F l') (a.put (some d) (.map (some w.heap.size))) (w.alloc (.map #[] 0)) := by
   refine H.change (fun l' => l' = d) hn ((Ext.alloc _ _).chg) (fun l' x hne hx' => ?_) (fun l' x b hT hx' hb => ?_) (fun hm l' u q hT hx' => ?_) (fun l1 l2 _ _ _ h1 h2 hne => absurd (h1.trans h2.symm) hne) (fun hm => .val _)
   · rcases lk_put hx' with ⟨e1, _⟩ | ⟨_, e1⟩
     · exact absurd e1.symm hne
     · exact ⟨e1, by simp [hne]⟩
   · subst hT
     simp only [if_true] at hb
     exact .inr (by rw [hb]; exact Nat.le_refl _)
   · subst hT
     rw [lk_put_self] at hx'
     cases hx'
     simp only [if_true]
     refine .omap w.heap.size #[] 0 ?_ (fun x => Iff.rfl) ⟨by simp, by simp⟩
     show (w.heap.push _)[w.heap.size]? = _
     simp
  unfold Oper.wp execOp
  simp [ho, Instr.makeMap, newObj, Sem.run, hd, Oper.upon]
  exact k _ rfl _ _ ⟨_, key⟩
theorem kv_modify {es : Array MapEntry} {k v : Value} : ∀ {j : Nat}, midx (kvOf es) k = some j → kvOf (es.modify j fun e => { e with key := k, val := v }) = mput (kvOf es) k v := by
 have key : ∀ (l : List MapEntry) (j : Nat), midx (l.map fun x => (x.key, x.val)) k = some j → (l.modify j fun e => { e with key := k, val := v }).map (fun x => (x.key, x.val)) = mput (l.map fun x => (x.key, x.val)) k v := by
  intro l
  induction l with
  | nil => intro j h; simp [midx] at h
  | cons e l ih =>
    intro j h
    simp only [List.map_cons, midx] at h
    simp only [List.map_cons, mput]
    split at h
    · rename_i hk
      cases h
      simp [hk]
    · rename_i hk
      rw [Option.map_eq_some_iff] at h
      obtain ⟨j', h1, rfl⟩ := h
      rw [if_neg hk, List.modify_succ_cons, List.map_cons, ih j' h1]
 intro j h
 unfold kvOf at h ⊢
 rw [Array.toList_modify]
 exact key _ j h
theorem kv_push {es : Array MapEntry} {k v : Value} {clock : Nat} (h : midx (kvOf es) k = none) : kvOf (es.push { key := k, val := v, born := clock }) = mput (kvOf es) k v := by
 have key : ∀ kv : List (Value × Value), midx kv k = none → kv ++ [(k, v)] = mput kv k v := by
  intro kv
  induction kv with
  | nil => intro _; rfl
  | cons x l ih =>
    intro h
    simp only [midx] at h
    split at h
    · cases h
    · rename_i hk
      rw [Option.map_eq_none_iff] at h
      rw [mput, if_neg hk, List.cons_append, ih h]
 rw [← key _ h]
 simp [kvOf]
def bits : Value → Bool
 | .string _ | .int _ _ | .bool _ => true
 | _ => false
theorem same_bits {a b : Value} (hb : bits a = true) (h : keq b a = true) : Instr.sameBits 10000 a b = true := by
 have h := keq_sym h
 cases a <;> cases b <;> simp_all [keq, bits, Instr.sameBits]
theorem aL_mput {t ks e : Nat} {kd : TypeDesc} {z : Value} {x y u : Operand} {m k v : Value} {kv : List (Value × Value)} {p q r : PV} (l : Nat) (hw : wants ops sL o = some true) (hd : o.dst = none) (hT : MpT P t ks e kd z) (ho : o.op = .mapUpdate t x y u) (hx : ev sL x = some (m, p)) (hl : lk hP l = some (m, .omap kv)) (hy : ev sL y = some (k, q)) (hu : ev sL u = some (v, r)) (hk : kok kd k kv) (hbits : bits k = true)
 (kk : aL P c ops Q rest ⟨sL, put l (m, .omap (mput kv k v)) hP⟩) : aL P c ops Q (o :: rest) (⟨sL, hP⟩ : St) :=
 aL_run hw fun a w F H => by
  have hxv := (H.rd.ev hx).1
  have hyv := (H.rd.ev hy).1
  have huv := (H.rd.ev hu).1
  obtain ⟨b, es, clock, rfl, rfl, hb, hFb, hWf⟩ := (H.tr l _ _ hl).mapW
  have hm := mid_get (kvOf es) k
  have main : ∀ (es' : Array MapEntry) (clock' : Nat), WfM es' clock' → kvOf es' = mput (kvOf es) k v → Holds c ⟨sL, put l (.map (some b), .omap (mput (kvOf es) k v)) hP⟩ a { w with heap := w.heap.setIfInBounds b (.map es' clock') } := fun es' clock' hW' he => by
   have hlt := blk_lt hb
   have hch : Chg (fun x => x = b) w { w with heap := w.heap.setIfInBounds b (.map es' clock') } := ⟨rfl, rfl, rfl, by simp, fun i hi hne => by
    rw [Array.getElem?_setIfInBounds_ne (fun e => hne e.symm)]⟩
   refine ⟨F, H.change0 (fun l' => l' = l) (hch.wid fun x hx => .inl ⟨l, _, rfl, hl, (hFb x).2 hx⟩) (fun l' x hne hx' => ?_) (fun l' x b' hT' hx' hb' => ?_) (fun hmm l' u q hT' hx' => ?_) (fun l1 l2 _ _ _ h1 h2 hne => absurd (h1.trans h2.symm) hne)⟩
   · rcases lk_put hx' with ⟨e1, _⟩ | ⟨_, e1⟩
     · exact absurd e1.symm hne
     · exact ⟨e1, rfl⟩
   · subst hT'; exact .inl ⟨l', _, rfl, hl, hb'⟩
   · subst hT'
     rw [lk_put_self] at hx'
     cases hx'
     rw [← he]
     exact .omap b es' clock' (by simp [hlt]) hFb hW'
  unfold Oper.wp execOp
  cases h1 : midx (kvOf es) k with
  | none =>
    rw [h1] at hm
    cases h2 : mget (kvOf es) k with
    | some v => rw [h2] at hm; simp at hm
    | none =>
      simp [ho, hxv, hyv, huv, Instr.mapUpdate, run_underlying hT.ht, getObj, setObj, Sem.run, hb, run_checkKey hT.hk hT.hkd, run_findKey hT.hk hk, h1, h2, Oper.upon, hd, Act.put]
      exact kk _ _ (main _ _ (wf_push hWf) (kv_push h1))
  | some j =>
    rw [h1] at hm
    cases h2 : mget (kvOf es) k with
    | none => rw [h2] at hm; simp at hm
    | some v0 =>
      have hj : ∃ e0, es[j]? = some e0 ∧ keq k e0.key = true := by
       have key : ∀ (l : List MapEntry) (j : Nat), midx (l.map fun x => (x.key, x.val)) k = some j → ∃ e0, l[j]? = some e0 ∧ keq k e0.key = true := by
        intro l
        induction l with
        | nil => intro j h; simp [midx] at h
        | cons e l ih =>
          intro j h
          simp only [List.map_cons, midx] at h
          split at h
          · rename_i hk; cases h; exact ⟨e, rfl, hk⟩
          · rw [Option.map_eq_some_iff] at h
            obtain ⟨j', h1, rfl⟩ := h
            obtain ⟨e0, h3, h4⟩ := ih j' h1
            exact ⟨e0, by simpa using h3, h4⟩
       obtain ⟨e0, h3, h4⟩ := key es.toList j h1
       exact ⟨e0, by simpa using h3, h4⟩
      obtain ⟨e0, h3, h4⟩ := hj
      have hb0 : bits e0.key = true := by
       cases k <;> simp [bits] at hbits <;> (generalize e0.key = y at h4 ⊢; cases y <;> simp_all [keq, bits])
      have hsb := same_bits hb0 h4
      simp [ho, hxv, hyv, huv, Instr.mapUpdate, run_underlying hT.ht, getObj, setObj, Sem.run, hb, run_checkKey hT.hk hT.hkd, run_findKey hT.hk hk, h1, h2, h3, Instr.keyThatStays, hsb, Oper.upon, hd, Act.put]
      exact kk _ _ (main _ _ (wf_modify _ (fun _ => rfl) hWf) (kv_modify h1))
end
def skv (es : List (ByteArray × Value)) : List (Value × Value) := es.map fun x => (.string x.1, x.2)
def ikv (es : List (Int × Value)) : List (Value × Value) := es.map fun x => (.int .i64 x.1, x.2)
theorem kok_nil (kd : TypeDesc) (k : Value) : kok kd k [] := fun x h => by simp at h
theorem kok_skv (s : ByteArray) (es : List (ByteArray × Value)) : kok .string (.string s) (skv es) := fun x h => by
 simp [skv] at h
 obtain ⟨a, b, _, rfl⟩ := h
 rfl
theorem kok_ikv (n : Int) (es : List (Int × Value)) : kok (.int .i64) (.int .i64 n) (ikv es) := fun x h => by
 simp [ikv] at h
 obtain ⟨a, b, _, rfl⟩ := h
 simp [Instr.sameNow, keq]
def aget {κ : Type} [DecidableEq κ] : List (κ × Value) → κ → Option Value
 | [], _ => none
 | x :: l, k => if k = x.1 then some x.2 else aget l k
def aput {κ : Type} [DecidableEq κ] : List (κ × Value) → κ → Value → List (κ × Value)
 | [], k, v => [(k, v)]
 | x :: l, k, v => if k = x.1 then (k, v) :: l else x :: aput l k v
theorem mget_skv (es : List (ByteArray × Value)) (s : ByteArray) : mget (skv es) (.string s) = aget es s := by
 induction es with
 | nil => rfl
 | cons x l ih =>
   simp only [skv, List.map_cons, mget, aget, keq, ba_beq]
   rw [show List.map (fun x : ByteArray × Value => (Value.string x.1, x.2)) l = skv l from rfl, ih]
theorem mput_skv (es : List (ByteArray × Value)) (s : ByteArray) (v : Value) : mput (skv es) (.string s) v = skv (aput es s v) := by
 induction es with
 | nil => rfl
 | cons x l ih =>
   simp only [skv, List.map_cons, mput, aput, keq, ba_beq]
   rw [show List.map (fun x : ByteArray × Value => (Value.string x.1, x.2)) l = skv l from rfl, ih]
   by_cases h : s = x.1
   · rw [if_pos h, if_pos h]; rfl
   · rw [if_neg h, if_neg h]; rfl
theorem mget_ikv (es : List (Int × Value)) (s : Int) : mget (ikv es) (.int .i64 s) = aget es s := by
 induction es with
 | nil => rfl
 | cons x l ih =>
   simp only [ikv, List.map_cons, mget, aget, keq]
   rw [show List.map (fun x : Int × Value => (Value.int .i64 x.1, x.2)) l = ikv l from rfl, ih]
   simp
theorem mput_ikv (es : List (Int × Value)) (s : Int) (v : Value) : mput (ikv es) (.int .i64 s) v = ikv (aput es s v) := by
 induction es with
 | nil => rfl
 | cons x l ih =>
   simp only [ikv, List.map_cons, mput, aput, keq]
   rw [show List.map (fun x : Int × Value => (Value.int .i64 x.1, x.2)) l = ikv l from rfl, ih]
   by_cases h : s = x.1
   · rw [if_pos h, if_pos (by simp [h])]; rfl
   · rw [if_neg h, if_neg (by simp [h])]; rfl
section
variable {P : Program} {ops : Array Oper} {Q : Exit → Act → World → Prop} {md : Region.Mode} {C : World → Prop} {Z : Nat → Bool}
def wpAnyS (P : Program) (md : Region.Mode) (ops : Array Oper) (Q : Exit → Act → World → Prop) (C : World → Prop) (Z : Nat → Bool) : Nat → Array Bool → Act → World → Prop
 | 0, listed, a, w => Region.ready md ops listed = [] ∧ Q .normal a w
 | fuel + 1, listed, a, w =>
   (Region.ready md ops listed = [] → Q .normal a w) ∧
   ∀ i ∈ Region.ready md ops listed, wpOp P ops (onlyN Q) i (fun a' w' => (Z i = true ∨ C w') ∧ wpAnyS P md ops Q C Z fuel (listed.setIfInBounds i true) a' w') a w
theorem wpAny_of_S : ∀ (fuel : Nat) (listed : Array Bool) (a : Act) (w : World), wpAnyS P md ops Q C Z fuel listed a w → wpAny P md ops Q fuel listed a w
 | 0, _, _, _, h => h
 | fuel + 1, _, _, _, h => ⟨h.1, fun i hi => wpOp_onlyN (wpOp_mono (fun a' w' h' => wpAny_of_S fuel _ a' w' h'.2) (h.2 i hi))⟩
def zWaits (md : Region.Mode) (ops : Array Oper) (Z : Nat → Bool) (i : Nat) : Bool := (List.range ops.size).all fun z => !Z z || waitsFor md ops z i
theorem wpAnyS_first {i : Nat} {oi : Oper} {v : Value} (hi : ops[i]? = some oi) (hz : zWaits md ops Z i = true)
 (hsel : ∀ (j : Nat) (o : Oper) cs b, ops[j]? = some o → o.op ≠ .select cs b) :
 ∀ (fuel : Nat) (listed : Array Bool) (a : Act) (w : World),
  (∀ j oj, ops[j]? = some oj → j ≠ i → listed.getD j true = false → (∀ e ∈ oj.after, Region.binds md e = true → e.on ≠ i) → oi.apart ops oj = true) →
  i ∈ Region.ready md ops listed → YieldsC P ops C oi v a → C w →
  wpAnyS P md ops Q C Z fuel (listed.setIfInBounds i true) (a.put oi.dst v) w → wpAnyS P md ops Q C Z (fuel + 1) listed a w := by
 intro fuel
 induction fuel with
 | zero =>
   intro listed a w _ hr hy hC H
   refine ⟨fun h => (by rw [h] at hr; cases hr), fun j hj => ?_⟩
   by_cases hji : j = i
   · subst hji; exact YieldsIf.wpOp hi hy.ifS hC ⟨.inr hC, H⟩
   · have := ready_mono hj hji
     rw [H.1] at this
     cases this
 | succ fuel ih =>
   intro listed a w hfree hr hy hC H
   refine ⟨fun h => (by rw [h] at hr; cases hr), fun j hj => ?_⟩
   by_cases hji : j = i
   · subst hji; exact YieldsIf.wpOp hi hy.ifS hC ⟨.inr hC, H⟩
   · have h1 := H.2 j (ready_mono hj hji)
     obtain ⟨hjun, oj, hoj, hall⟩ := mem_ready.1 hj
     have hnot : ∀ e ∈ oj.after, Region.binds md e = true → e.on ≠ i := fun e he hb heq => by
      have h1 := hall e he hb
      have h0 := (mem_ready.1 hr).1
      rw [heq] at h1
      rcases Nat.lt_or_ge i listed.size with h' | h'
      · simp [h'] at h0 h1; rw [h0] at h1; cases h1
      · simp [Array.getElem?_eq_none h'] at h1
     have hjz : Z j = false := by
      cases hZ : Z j
      · rfl
      · exfalso
        have hjs : j < ops.size := by
         rcases Nat.lt_or_ge j ops.size with h' | h'
         · exact h'
         · rw [Array.getElem?_eq_none h'] at hoj; cases hoj
        have := List.all_eq_true.1 hz j (List.mem_range.2 hjs)
        rw [hZ] at this
        simp only [Bool.not_true, Bool.false_or] at this
        unfold waitsFor at this
        rw [hoj] at this
        obtain ⟨e, he, hb⟩ := Array.any_eq_true'.1 this
        simp only [Bool.and_eq_true, beq_iff_eq] at hb
        exact hnot e he hb.1 hb.2
     have h2 := wpOp_putIf hoj (hfree j oj hoj hji hjun hnot) (fun cs b => hsel i oi cs b hi) (fun cs b => hsel j oj cs b hoj) (fun c a w h => h) hy.ifS h1
     have hfree' : ∀ k ok, ops[k]? = some ok → k ≠ i → (listed.setIfInBounds j true).getD k true = false →
      (∀ e ∈ ok.after, Region.binds md e = true → e.on ≠ i) → oi.apart ops ok = true := fun k ok hk hki hun hno => by
      refine hfree k ok hk hki ?_ hno
      by_cases hjk : j = k
      · subst hjk; exact hjun
      · rw [getD_set_ne true hjk] at hun; exact hun
     refine wpOp_mono (fun a' w' h3 => ?_) h2
     obtain ⟨hy', hor, hK⟩ := h3
     have hC' : C w' := by
      rcases hor with h | h
      · rw [hjz] at h; cases h
      · exact h
     refine ⟨.inr hC', ih (listed.setIfInBounds j true) a' w' hfree' (ready_mono hr (Ne.symm hji)) hy' hC' ?_⟩
     rw [Array.setIfInBounds_comm _ _ hji]
     exact hK
end
def onlyK (K : List Nat) : List (Nat × Ent) → List (Nat × Ent)
 | [] => []
 | (k, x) :: l => cond (K.elem k) ((k, x) :: onlyK K l) (onlyK K l)
def minusK (K : List Nat) : List (Nat × Ent) → List (Nat × Ent)
 | [] => []
 | (k, x) :: l => cond (K.elem k) (minusK K l) ((k, x) :: minusK K l)
theorem lk_onlyK {K : List Nat} {t : Nat} : ∀ {l : List (Nat × Ent)} {x : Ent}, lk (onlyK K l) t = some x ↔ K.elem t = true ∧ lk l t = some x
 | [], x => by simp [onlyK, lk]
 | (k, y) :: l, x => by
   unfold onlyK
   cases hk : K.elem k
   · simp only [cond_false, lk]
     rw [lk_onlyK]
     cases hb : Nat.beq k t
     · simp
     · have : k = t := Nat.eq_of_beq_eq_true hb
       subst this
       rw [hk]; simp
   · simp only [cond_true, lk]
     cases hb : Nat.beq k t
     · simp only [cond_false]; exact lk_onlyK
     · have : k = t := Nat.eq_of_beq_eq_true hb
       subst this
       rw [hk]; simp
theorem lk_minusK {K : List Nat} {t : Nat} : ∀ {l : List (Nat × Ent)} {x : Ent}, lk (minusK K l) t = some x ↔ K.elem t = false ∧ lk l t = some x
 | [], x => by simp [minusK, lk]
 | (k, y) :: l, x => by
   unfold minusK
   cases hk : K.elem k
   · simp only [cond_false, lk]
     cases hb : Nat.beq k t
     · simp only [cond_false]; exact lk_minusK
     · have : k = t := Nat.eq_of_beq_eq_true hb
       subst this
       rw [hk]; simp
   · simp only [cond_true, lk]
     rw [lk_minusK]
     cases hb : Nat.beq k t
     · simp
     · have : k = t := Nat.eq_of_beq_eq_true hb
       subst this
       rw [hk]; simp
theorem lk_append {l m : List (Nat × Ent)} {t : Nat} : lk (l ++ m) t = match lk l t with | some x => some x | none => lk m t := by
 induction l with
 | nil => rfl
 | cons y l ih =>
   obtain ⟨k, y⟩ := y
   simp only [List.cons_append, lk]
   cases Nat.beq k t
   · simp only [cond_false]; exact ih
   · rfl
def nK (K : List Nat) (h : List (Nat × Ent)) (F : Nat → BS) : BS := fun b => ∃ l x, K.elem l = false ∧ lk h l = some x ∧ F l b
def aD (P : Program) (c : Ctx) (ops : Array Oper) (Q : Exit → Act → World → Prop) (Z : Nat → Bool) (K : List Nat) (fuel : Nat) (listed : Array Bool) (st : St) : Prop :=
 ∀ a w F, HoldsF c st F a w → ∀ C : World → Prop, (∀ W, Chg (nK K st.heap F) w W → C W) → wpAnyS P .any ops Q C Z fuel listed a w
section
variable {P : Program} {c : Ctx} {ops : Array Oper} {Q : Exit → Act → World → Prop} {Z : Nat → Bool} {K : List Nat} {fuel : Nat} {listed : Array Bool} {sL hP : List (Nat × Ent)} {o : Oper}
theorem wpAnyS_class {C C' : World → Prop} (h : ∀ w, C' w → C w) : ∀ (fuel : Nat) (listed : Array Bool) (a : Act) (w : World), wpAnyS P .any ops Q C' Z fuel listed a w → wpAnyS P .any ops Q C Z fuel listed a w
 | 0, _, _, _, H => H
 | fuel + 1, _, _, _, H => ⟨H.1, fun i hi => wpOp_mono (fun a' w' h' => ⟨h'.1.imp id (h w'), wpAnyS_class h fuel _ a' w' h'.2⟩) (H.2 i hi)⟩
theorem aC_draw {id : Nat} {l : List Oper} (Z : Nat → Bool) (K : List Nat) (hm : P.follows .mixedOrders = true) (h : aD P c l.toArray Q Z K l.length (Array.replicate l.length false) (⟨sL, hP⟩ : St)) : aC P c (.region id l.toArray true) Q (⟨sL, hP⟩ : St) := fun a w ⟨F, H⟩ => by
 refine wp_region_any hm (wpAny_of_S (C := fun _ => True) (Z := Z) _ _ _ _ ?_)
 have := h a w.drew F (H.up (Ext.drew w)) (fun _ => True) (fun _ _ => trivial)
 simpa using this
theorem aD_end (hr : Region.ready .any ops listed = []) (h : aN c Q (⟨sL, hP⟩ : St)) : aD P c ops Q Z K fuel listed (⟨sL, hP⟩ : St) := fun a w F H C hC => by
 cases fuel with
 | zero => exact ⟨hr, h a w ⟨F, H⟩⟩
 | succ n => exact ⟨fun _ => h a w ⟨F, H⟩, fun i hi => by rw [hr] at hi; cases hi⟩
theorem HoldsF.rdK {F : Nat → BS} {a : Act} {w : World} (H : HoldsF c (⟨sL, hP⟩ : St) F a w) (K : List Nat) : RdF (mof c hP F) ⟨sL, onlyK K hP⟩ F a w := ⟨fun l v p h => H.tr l v p (lk_onlyK.1 h).2, H.sl⟩
theorem aD_y {V : Value → Prop} {p : PV} (i d : Nat) (ho : ops[i]? = some o) (hck : (Region.noSelect ops && (Region.ready .any ops listed).contains i && Region.free .any ops listed i && zWaits .any ops Z i) = true) (hw : wants ops sL o = some true) (hd : o.dst = some d) (hn : d < c.nt) (hy : YE P ⟨sL, onlyK K hP⟩ o V p)
 (k : ∀ v, V v → aD P c ops Q Z K fuel (listed.setIfInBounds i true) ⟨put d (v, p) sL, hP⟩) : aD P c ops Q Z K (fuel + 1) listed (⟨sL, hP⟩ : St) := fun a w F H C hC => by
 simp only [Bool.and_eq_true] at hck
 obtain ⟨⟨⟨hs, hr⟩, hf⟩, hz⟩ := hck
 obtain ⟨v, hV, hS, hrun⟩ := hy _ F a w (H.rdK K)
 refine wpAnyS_class hC _ _ _ _ ?_
 refine wpAnyS_first ho hz (Region.noSelect_spec hs) _ listed a w (Region.free_spec ho hf) (by simpa using hr) (v := v) (.inl ⟨wanted_of H.rd hw, fun W hW => ?_⟩) (Chg.rfl' _ _) ?_
 · exact hrun _ W hW (fun b ⟨l, x, _, h1, h2⟩ => .inr ⟨l, x, h1, h2⟩) (fun l x b hl hFb ⟨l', x', h1, h2, h3⟩ => by
    obtain ⟨h4, h5⟩ := lk_onlyK.1 hl
    exact H.dj l l' _ _ b (fun e => by rw [e, h1] at h4; cases h4) h5 h2 hFb h3)
 · rw [hd]
   exact k v hV _ w F (H.put hn hS) _ (fun W h => h)
theorem aD_x {v : Value} {p : PV} (i d : Nat) (ho : ops[i]? = some o) (hck : (Region.noSelect ops && (Region.ready .any ops listed).contains i && Region.free .any ops listed i && zWaits .any ops Z i) = true) (hw : wants ops sL o = some true) (hd : o.dst = some d) (hn : d < c.nt) (hy : YE P ⟨sL, onlyK K hP⟩ o (· = v) p)
 (k : aD P c ops Q Z K fuel (listed.setIfInBounds i true) ⟨put d (v, p) sL, hP⟩) : aD P c ops Q Z K (fuel + 1) listed (⟨sL, hP⟩ : St) := aD_y i d ho hck hw hd hn hy fun u hu => by cases hu; exact k
theorem aD_y1 {V : Value → Prop} {p : PV} (i d : Nat) (ho : ops[i]? = some o) (hr : Region.ready .any ops listed = [i]) (hw : wants ops sL o = some true) (hd : o.dst = some d) (hn : d < c.nt) (hy : YE P (⟨sL, hP⟩ : St) o V p)
 (k : ∀ v, V v → aD P c ops Q Z K fuel (listed.setIfInBounds i true) ⟨put d (v, p) sL, hP⟩) : aD P c ops Q Z K (fuel + 1) listed (⟨sL, hP⟩ : St) := fun a w F H C hC => by
 obtain ⟨v, hV, hS, hrun⟩ := hy _ F a w H.rd
 have h1 : YieldsC P ops (fun W => W = w) o v a := .inl ⟨wanted_of H.rd hw, fun W hW => by
  subst hW
  exact hrun (fun _ => False) W (Chg.rfl' _ _) (fun _ h => h.elim) (fun _ _ _ _ _ h => h)⟩
 refine ⟨fun hn => (by rw [hr] at hn; cases hn), fun j hj => ?_⟩
 rw [hr] at hj
 obtain rfl : j = i := by simpa using hj
 refine YieldsIf.wpOp ho h1.ifS rfl ⟨.inr (hC w (Chg.rfl' _ _)), ?_⟩
 rw [hd]
 exact k v hV _ w F (H.put hn hS) C hC
theorem aD_x1 {v : Value} {p : PV} (i d : Nat) (ho : ops[i]? = some o) (hr : Region.ready .any ops listed = [i]) (hw : wants ops sL o = some true) (hd : o.dst = some d) (hn : d < c.nt) (hy : YE P (⟨sL, hP⟩ : St) o (· = v) p)
 (k : aD P c ops Q Z K fuel (listed.setIfInBounds i true) ⟨put d (v, p) sL, hP⟩) : aD P c ops Q Z K (fuel + 1) listed (⟨sL, hP⟩ : St) := aD_y1 i d ho hr hw hd hn hy fun u hu => by cases hu; exact k
theorem aD_skip (i d : Nat) (ho : ops[i]? = some o) (hck : (Region.noSelect ops && (Region.ready .any ops listed).contains i && Region.free .any ops listed i && zWaits .any ops Z i) = true) (hw : wants ops sL o = some false) (hd : o.dst = some d) (hn : d < c.nt)
 (k : aD P c ops Q Z K fuel (listed.setIfInBounds i true) ⟨put d (undef, .val undef) sL, hP⟩) : aD P c ops Q Z K (fuel + 1) listed (⟨sL, hP⟩ : St) := fun a w F H C hC => by
 simp only [Bool.and_eq_true] at hck
 obtain ⟨⟨⟨hs, hr⟩, hf⟩, hz⟩ := hck
 refine wpAnyS_class hC _ _ _ _ ?_
 refine wpAnyS_first ho hz (Region.noSelect_spec hs) _ listed a w (Region.free_spec ho hf) (by simpa using hr) (v := undef) (.inr ⟨wanted_of H.rd hw, rfl⟩) (Chg.rfl' _ _) ?_
 rw [hd]
 exact k _ w F (H.put hn (.val _)) _ (fun W h => h)
theorem aD_bcase (t : Nat) {b : Bool} {q : PV} (hx : lk sL t = some (.bool b, q)) (ht : b = true → aD P c ops Q Z K fuel listed ⟨put t (.bool true, .val (.bool true)) sL, hP⟩) (hf : b = false → aD P c ops Q Z K fuel listed ⟨put t (.bool false, .val (.bool false)) sL, hP⟩) : aD P c ops Q Z K fuel listed (⟨sL, hP⟩ : St) := fun a w F H C hC => by
 have key : HoldsF c ⟨put t (.bool b, .val (.bool b)) sL, hP⟩ F a w := ⟨H.toHeapF, fun s u r hs => by
  rcases lk_put hs with ⟨rfl, e⟩ | ⟨_, e⟩
  · cases e; exact ⟨(H.sl _ _ _ hx).1, .val _⟩
  · exact H.sl s u r e, H.size, H.df⟩
 cases b
 · exact hf rfl a w F key C hC
 · exact ht rfl a w F key C hC
theorem HoldsF.frame {F : Nat → BS} {a : Act} {w : World} (H : HoldsF c (⟨sL, hP⟩ : St) F a w) (K : List Nat) :
 HoldsF ⟨w, fun b => c.M0 b ∨ ∃ l x, K.elem l = true ∧ lk hP l = some x ∧ F l b, nK K hP F, c.nt, c.dr⟩ ⟨sL, minusK K hP⟩ F a w := by
 have hm : ∀ b, mof ⟨w, fun b => c.M0 b ∨ ∃ l x, K.elem l = true ∧ lk hP l = some x ∧ F l b, nK K hP F, c.nt, c.dr⟩ (minusK K hP) F b → mof c hP F b := by
  rintro b ((h | ⟨l, x, _, h1, h2⟩) | ⟨l, x, h1, h2⟩)
  · exact .inl h
  · exact .inr ⟨l, x, h1, h2⟩
  · exact .inr ⟨l, x, (lk_minusK.1 h1).2, h2⟩
 refine ⟨⟨fun l v p h => (H.tr l v p (lk_minusK.1 h).2).anti fun b _ => hm b, fun l x b h hb => .inr ⟨l, x, (lk_minusK.1 h).1, (lk_minusK.1 h).2, hb⟩, fun l l' x x' b hne h h' => H.dj l l' x x' b hne (lk_minusK.1 h).2 (lk_minusK.1 h').2, ?_, Chg.rfl' _ _, fun _ => Nat.le_refl _⟩, fun t v p h => ⟨(H.sl t v p h).1, (H.sl t v p h).2.anti fun b _ => hm b⟩, H.size, H.df⟩
 refine ⟨?_, fun hn g hg => ?_⟩
 rotate_left
 · obtain ⟨h1, h2, _⟩ := H.mok.tb hn g hg
   refine ⟨h1, ?_, ?_⟩
   · rintro (h | ⟨l, x, _, h3, h4⟩)
     · exact h2 (.inl h)
     · exact h2 (.inr ⟨l, x, h3, h4⟩)
   · rintro ⟨l, x, _, h3, h4⟩
     exact h2 (.inr ⟨l, x, h3, h4⟩)
 rintro b (h | ⟨l, x, hK, h1, h2⟩)
 · exact ⟨Nat.lt_of_lt_of_le (H.m0.m b h).1 H.ext.size, fun ⟨l, x, _, h1, h2⟩ => H.apart h h1 h2⟩
 · exact ⟨(H.tr l _ _ h1).lt b h2, fun ⟨l', x', hK', h3, h4⟩ => H.dj l l' _ _ b (fun e => by rw [e, hK'] at hK; cases hK) h1 h3 h2 h4⟩
theorem HoldsF.unframe {F F' : Nat → BS} {a a' : Act} {w w' : World} {st' : St} (H : HoldsF c (⟨sL, hP⟩ : St) F a w)
 (H' : HoldsF ⟨w, fun b => c.M0 b ∨ ∃ l x, K.elem l = true ∧ lk hP l = some x ∧ F l b, nK K hP F, c.nt, c.dr⟩ st' F' a' w') :
 HoldsF c ⟨st'.slots, st'.heap ++ onlyK K hP⟩ (fun l => match lk st'.heap l with | some _ => F' l | none => F l) a' w' ∧ Chg (nK K hP F) w w' ∧
  (∀ b, nK K (st'.heap ++ onlyK K hP) (fun l => match lk st'.heap l with | some _ => F' l | none => F l) b → nK K hP F b ∨ w.heap.size ≤ b) := by
 have hlook : ∀ l x, lk (st'.heap ++ onlyK K hP) l = some x → (lk st'.heap l = some x) ∨ (lk st'.heap l = none ∧ K.elem l = true ∧ lk hP l = some x) := fun l x h => by
  rw [lk_append] at h
  cases h1 : lk st'.heap l with
  | some y => rw [h1] at h; cases h; exact .inl rfl
  | none => rw [h1] at h; exact .inr ⟨rfl, lk_onlyK.1 h⟩
 have hmm : ∀ b, mof c (st'.heap ++ onlyK K hP) (fun l => match lk st'.heap l with | some _ => F' l | none => F l) b → mof ⟨w, fun b => c.M0 b ∨ ∃ l x, K.elem l = true ∧ lk hP l = some x ∧ F l b, nK K hP F, c.nt, c.dr⟩ st'.heap F' b := by
  rintro b (h | ⟨l, x, h1, h2⟩)
  · exact .inl (.inl h)
  · rcases hlook l x h1 with h3 | ⟨h3, h4, h5⟩
    · simp only [h3] at h2; exact .inr ⟨l, x, h3, h2⟩
    · simp only [h3] at h2; exact .inl (.inr ⟨l, x, h4, h5, h2⟩)
 have hch : Chg (nK K hP F) w w' := H'.ext
 have hKN : ∀ l x b, K.elem l = true → lk hP l = some x → F l b → ¬ nK K hP F b := fun l x b hK hl hb ⟨l', x', hK', h3, h4⟩ => H.dj l l' _ _ b (fun e => by rw [e, hK'] at hK; cases hK) hl h3 hb h4
 have hapart : ∀ l x l' x' b, K.elem l = true → lk hP l = some x → F l b → lk st'.heap l' = some x' → ¬ F' l' b := fun l x l' x' b hK hl hb hl' hb' => by
  exact H'.apart (.inr ⟨l, x, hK, hl, hb⟩) hl' hb'
 refine ⟨⟨⟨fun l v p h => ?_, fun l x b h hb => ?_, fun l l' x x' b hne h h' hb hb' => ?_, H.m0, ?_, fun h => Nat.le_trans (H.dw h) (H'.dw h)⟩, fun t v p h => ⟨(H'.sl t v p h).1, (H'.sl t v p h).2.anti fun b _ => hmm b⟩, H'.size, H'.df⟩, hch, ?_⟩
 · rcases hlook l _ h with h1 | ⟨h1, h2, h3⟩
   · simp only [h1]; exact (H'.tr l v p h1).anti fun b _ => hmm b
   · simp only [h1]
     refine (H.tr l v p h3).to hch (fun b hlt hb => ?_) (fun b _ ⟨l', x', _, h4, h5⟩ => .inr ⟨l', x', h4, h5⟩) (fun b hb => hKN l _ b h2 h3 hb)
     rcases hmm b hb with (h | ⟨l', x', _, h4, h5⟩) | ⟨l', x', h4, h5⟩
     · exact .inl h
     · exact .inr ⟨l', x', h4, h5⟩
     · rcases H'.lo l' x' b h4 h5 with h6 | ⟨l2, x2, _, h7, h8⟩
       · exact absurd hlt (by simp only at h6; omega)
       · exact .inr ⟨l2, x2, h7, h8⟩
 · rcases hlook l _ h with h1 | ⟨h1, h2, h3⟩
   · simp only [h1] at hb
     rcases H'.lo l x b h1 hb with h4 | ⟨l2, x2, _, h7, h8⟩
     · exact .inl (Nat.le_trans H.ext.size h4)
     · exact H.lo l2 x2 b h7 h8
   · simp only [h1] at hb
     exact H.lo l x b h3 hb
 · rcases hlook l _ h with h1 | ⟨h1, h2, h3⟩
   · rcases hlook l' _ h' with k1 | ⟨k1, k2, k3⟩
     · simp only [h1] at hb; simp only [k1] at hb'; exact H'.dj l l' x x' b hne h1 k1 hb hb'
     · simp only [h1] at hb; simp only [k1] at hb'; exact hapart l' _ l _ b k2 k3 hb' h1 hb
   · rcases hlook l' _ h' with k1 | ⟨k1, k2, k3⟩
     · simp only [h1] at hb; simp only [k1] at hb'; exact hapart l _ l' _ b h2 h3 hb k1 hb'
     · simp only [h1] at hb; simp only [k1] at hb'; exact H.dj l l' x x' b hne h3 k3 hb hb'
 · exact H.ext.tr hch fun b ⟨l, x, _, h1, h2⟩ => (H.lo l x b h1 h2).symm
 · rintro b ⟨l, x, hK, h1, h2⟩
   rcases hlook l _ h1 with h3 | ⟨h3, h4, h5⟩
   · simp only [h3] at h2
     rcases H'.lo l x b h3 h2 with h4 | h4
     · exact .inr h4
     · exact .inl h4
   · rw [hK] at h4; cases h4
def aW (P : Program) (c : Ctx) (ops : Array Oper) (Q : Exit → Act → World → Prop) (Z : Nat → Bool) (K : List Nat) (fuel : Nat) (listed : Array Bool) (st : St) (i : Nat) : Prop :=
 ∀ a w F, HoldsF c st F a w → ∀ C : World → Prop, (∀ W, Chg (nK K st.heap F) w W → C W) → wpOp P ops (onlyN Q) i (fun a' w' => (Z i = true ∨ C w') ∧ wpAnyS P .any ops Q C Z fuel (listed.setIfInBounds i true) a' w') a w
theorem aD_one (i : Nat) (hr : Region.ready .any ops listed = [i]) (h : aW P c ops Q Z K fuel listed (⟨sL, hP⟩ : St) i) : aD P c ops Q Z K (fuel + 1) listed (⟨sL, hP⟩ : St) := fun a w F H C hC =>
 ⟨(fun hn => by rw [hr] at hn; cases hn), fun j hj => by
   rw [hr] at hj
   obtain rfl : j = i := by simpa using hj
   exact h a w F H C hC⟩
theorem aD_two (i j : Nat) (hr : Region.ready .any ops listed = [i, j]) (h : aW P c ops Q Z K fuel listed (⟨sL, hP⟩ : St) i) (h' : aW P c ops Q Z K fuel listed (⟨sL, hP⟩ : St) j) : aD P c ops Q Z K (fuel + 1) listed (⟨sL, hP⟩ : St) := fun a w F H C hC =>
 ⟨(fun hn => by rw [hr] at hn; cases hn), fun m hm => by
   rw [hr] at hm
   rcases (by simpa using hm : m = i ∨ m = j) with rfl | rfl
   · exact h a w F H C hC
   · exact h' a w F H C hC⟩
theorem aW_run {i : Nat} (ho : ops[i]? = some o)
 (h : ∀ (w' : World) (M' N' : BS) (DQ : Exit → Act → World → Prop), (∀ st' : St, aD P c ops Q Z K fuel (listed.setIfInBounds i true) ⟨st'.slots, st'.heap ++ onlyK K hP⟩ → aN ⟨w', M', N', c.nt, c.dr⟩ DQ st') → aL P ⟨w', M', N', c.nt, c.dr⟩ ops DQ [o] ⟨sL, minusK K hP⟩) : aW P c ops Q Z K fuel listed (⟨sL, hP⟩ : St) i := fun a w F H C hC => by
 refine wpOp_of_list (Q' := fun _ a' w' => (Z i = true ∨ C w') ∧ wpAnyS P .any ops Q C Z fuel (listed.setIfInBounds i true) a' w') ho (fun a' w' hq => hq) ?_
 refine h w _ _ _ (fun st' hD a' w' ⟨F', H'⟩ => ?_) a w ⟨F, H.frame K⟩
 obtain ⟨H2, hch, hnk⟩ := H.unframe H'
 refine ⟨.inr (hC w' hch), hD a' w' _ H2 C fun W hW => hC W (hch.tr hW hnk)⟩
theorem aW_last {i : Nat} (ho : ops[i]? = some o) (hZ : Z i = true) (hr : Region.ready .any ops (listed.setIfInBounds i true) = []) (h : ∀ DQ : Exit → Act → World → Prop, (∀ st' : St, aN c Q st' → aN c DQ st') → aL P c ops DQ [o] (⟨sL, hP⟩ : St)) : aW P c ops Q Z K fuel listed (⟨sL, hP⟩ : St) i := fun a w F H C hC => by
 refine wpOp_of_list (Q' := fun _ a' w' => (Z i = true ∨ C w') ∧ wpAnyS P .any ops Q C Z fuel (listed.setIfInBounds i true) a' w') ho (fun a' w' hq => hq) ?_
 refine h _ (fun st' hN a' w' H' => ⟨.inl hZ, ?_⟩) a w ⟨F, H⟩
 cases fuel with
 | zero => exact ⟨hr, hN a' w' H'⟩
 | succ n => exact ⟨fun _ => hN a' w' H', fun i hi => by rw [hr] at hi; cases hi⟩
end
section
variable {P : Program} {c : Ctx} {ops : Array Oper} {Q : Exit → Act → World → Prop} {rest : List Oper} {sL hP : List (Nat × Ent)} {o : Oper}
theorem relabel {l : Nat} {x : Ent} (l' : Nat) (hl : lk hP l = some x) (hl' : lk (del l hP) l' = none) : EntE (⟨sL, hP⟩ : St) (fun _ : Unit => ⟨sL, put l' x (del l hP)⟩) := fun c a w ⟨F, H⟩ => by
 refine ⟨(), fun t => if t = l' then F l else F t, ?_⟩
 obtain ⟨v, p⟩ := x
 have aux : ∀ t y, (t = l ∨ t = l') → lk (put l' (v, p) (del l hP)) t = some y → t = l' ∧ y = (v, p) := fun t y ht hy => by
  rcases lk_put hy with ⟨e1, e2⟩ | ⟨n1, e2⟩
  · exact ⟨e1.symm, e2.symm⟩
  · rcases ht with h | h
    · exact absurd h.symm (lk_del e2).1
    · exact absurd h.symm n1
 refine H.retell (fun t => t = l ∨ t = l') (fun t y hnT hy => ?_) (fun t y b hT hy hb => ?_) (fun hm t u q hT hy => ?_) (fun t1 t2 y1 y2 b h1 h2 hne hy1 hy2 => absurd ((aux t1 y1 h1 hy1).1.trans (aux t2 y2 h2 hy2).1.symm) hne)
 · have n2 : t ≠ l' := fun e => hnT (.inr e)
   rw [lk_put_ne (Ne.symm n2)] at hy
   exact ⟨(lk_del hy).2, by simp [n2]⟩
 · obtain ⟨rfl, _⟩ := aux t y hT hy
   simp only [if_true] at hb
   exact ⟨l, _, .inl rfl, hl, hb⟩
 · obtain ⟨rfl, e⟩ := aux t _ hT hy
   cases e
   simp only [if_true]
   exact (H.tr l v p hl).anti hm
def nilTo (p p' : PV) : Prop := p' = p ∨ (p = .val (.slice none 0 0) ∧ ∃ e k, p' = .own e k 0 [])
theorem nilCells {l e k n : Nat} {h : Value} {cs : List PV} (cs' : List PV) (hl : lk hP l = some (h, .own e k n cs)) (hlen : cs'.length = cs.length) (hc : ∀ (i : Nat) (p p' : PV), cs[i]? = some p → cs'[i]? = some p' → nilTo p p') : EntE (⟨sL, hP⟩ : St) (fun _ : Unit => ⟨sL, put l (h, .own e k n cs') hP⟩) := fun c a w ⟨F, H⟩ => by
 refine ⟨(), F, ?_⟩
 have hTr := H.tr l _ _ hl
 obtain ⟨xs, Fs, hrow, hxl, hT, hd, hb, hF⟩ := hTr.row
 refine H.retell (fun t => t = l) (fun t y hnT hy => ?_) (fun t y b hT' hy hb' => ?_) (fun hm t u q hT' hy => ?_) (fun t1 t2 _ _ _ h1 h2 hne => absurd (h1.trans h2.symm) hne)
 · have n2 : t ≠ l := hnT
   rw [lk_put_ne (Ne.symm n2)] at hy
   exact ⟨hy, rfl⟩
 · subst hT'; exact ⟨t, _, rfl, hl, hb'⟩
 · subst hT'
   rw [lk_put_self] at hy
   cases hy
   refine .own xs Fs hrow (by omega) (fun i x p' hx hp' => ?_) (fun i j b hi hj => hd i j b (by omega) (by omega)) (fun i b hi => hb i b (by omega)) (fun b => by rw [hF b, hlen])
   obtain ⟨p, hp⟩ := get_of_len hp' hlen
   have hTi := (hT i x p hx hp).anti hm
   rcases hc i p p' hp hp' with rfl | ⟨rfl, e', k', rfl⟩
   · exact hTi
   · have hFi : ∀ b, ¬ Fs i b := by
      cases hTi with
      | shr _ hF => exact hF
     have hx0 : x = .slice none 0 0 := (hTi.sh rfl).vOf
     subst hx0
     exact .own [] (fun _ _ => False) (World.ownsRow_nil _ _ _ _) rfl (by simp) (by simp) (by simp) (fun b => by simp [Value.ownBlock]; exact hFi b)
theorem aC_mid {ι : Type} {x y : Code} (S : ι → St) (h : aC P c x (Exit.then (fun a w => ∃ i, Holds c (S i) a w) Q) (⟨sL, hP⟩ : St)) (k : ∀ i, aC P c y Q (S i)) : aC P c x (Exit.then (y.wp P Q) Q) (⟨sL, hP⟩ : St) := fun a w H =>
 wp_mono (h a w H) fun e a' w' hq => by
  cases e with
  | normal => obtain ⟨i, hi⟩ := hq; exact k i a' w' hi
  | _ => exact hq
theorem focusO {l l' j e k n : Nat} {h : Value} {cs : List PV} {p : PV} (hl : lk hP l = some (h, .own e k n cs)) (hp : cs[j]? = some p) (hl' : lk hP l' = none) (hok : cellOk p = true) :
 EntE (⟨sL, hP⟩ : St) (fun v : { v : Value // v.oneCell' = true } => ⟨sL, put l' (v.1, p) (put l (h, .own e k n (cs.set j (.val v.1))) hP)⟩) := fun c a w H => by
 obtain ⟨v, F, H'⟩ := focus hl hp hl' c a w H
 exact ⟨⟨v, (H'.tr l' v p (lk_put_self _ _ _)).cellOne hok⟩, F, H'⟩
end
theorem nav {A B : Prop} (h : B) (e : B → A := by intro h; (repeat (first | with_reducible refine aC_seq ?_ | with_reducible refine aC_block ?_ | with_reducible refine aN_then ?_ | with_reducible refine aN_block ?_ | with_reducible refine aC_skip ?_ | with_reducible refine aC_exit ?_ | with_reducible refine aX_then ?_ | with_reducible refine aX_block ?_ | with_reducible refine aX_other rfl ?_ | with_reducible refine aC_ret ?_ | with_reducible refine aR_then ?_ | with_reducible refine aR_block ?_)); exact h) : A := e h
section
variable {P : Program} {c : Ctx} {ops : Array Oper} {Q : Exit → Act → World → Prop} {rest : List Oper} {st : St} {sL hP : List (Nat × Ent)} {o : Oper} {x y : Operand} {t t' : TypeId} {q q' : PV} {Z : Nat → Bool} {K : List Nat} {fuel : Nat} {listed : Array Bool}
theorem xL {v : Value} {p : PV} (d : Nat) (hy : YE P (⟨sL, hP⟩ : St) o (· = v) p) (k : aL P c ops Q rest ⟨put d (v, p) sL, hP⟩) (hw : wants ops sL o = some true := by exact rfl) (hd : o.dst = some d := by exact rfl) (hn : d < c.nt := by exact Nat.le_of_ble_eq_true rfl) : aL P c ops Q (o :: rest) (⟨sL, hP⟩ : St) :=
 aL_x d hw hd hn hy k
theorem yL {V : Value → Prop} {p : PV} (d : Nat) (hy : YE P (⟨sL, hP⟩ : St) o V p) (k : ∀ v, V v → aL P c ops Q rest ⟨put d (v, p) sL, hP⟩) (hw : wants ops sL o = some true := by exact rfl) (hd : o.dst = some d := by exact rfl) (hn : d < c.nt := by exact Nat.le_of_ble_eq_true rfl) : aL P c ops Q (o :: rest) (⟨sL, hP⟩ : St) :=
 aL_y d hw hd hn hy k
theorem kL (d : Nat) (k : aL P c ops Q rest ⟨put d (undef, .val undef) sL, hP⟩) (hw : wants ops sL o = some false := by exact rfl) (hd : o.dst = some d := by exact rfl) (hn : d < c.nt := by exact Nat.le_of_ble_eq_true rfl) : aL P c ops Q (o :: rest) (⟨sL, hP⟩ : St) :=
 aL_skip d hw hd hn k
theorem bL {l : List Oper} {b : Bool} {q : PV} (t : Nat) (ht : b = true → aL P c ops Q l ⟨put t (.bool true, .val (.bool true)) sL, hP⟩) (hf : b = false → aL P c ops Q l ⟨put t (.bool false, .val (.bool false)) sL, hP⟩) (hx : lk sL t = some (.bool b, q) := by exact rfl) : aL P c ops Q l (⟨sL, hP⟩ : St) :=
 aL_bcase t hx ht hf
theorem xD {v : Value} {p : PV} (i : Nat) (d : Nat) (ho : ops[i]? = some o) (hy : YE P ⟨sL, onlyK K hP⟩ o (· = v) p) (k : aD P c ops Q Z K fuel (listed.setIfInBounds i true) ⟨put d (v, p) sL, hP⟩) (hck : (Region.noSelect ops && (Region.ready .any ops listed).contains i && Region.free .any ops listed i && zWaits .any ops Z i) = true := by kernel_rfl) (hw : wants ops sL o = some true := by exact rfl) (hd : o.dst = some d := by exact rfl) (hn : d < c.nt := by exact Nat.le_of_ble_eq_true rfl) : aD P c ops Q Z K (fuel + 1) listed (⟨sL, hP⟩ : St) :=
 aD_x i d ho hck hw hd hn hy k
theorem yD {V : Value → Prop} {p : PV} (i : Nat) (d : Nat) (ho : ops[i]? = some o) (hy : YE P ⟨sL, onlyK K hP⟩ o V p) (k : ∀ v, V v → aD P c ops Q Z K fuel (listed.setIfInBounds i true) ⟨put d (v, p) sL, hP⟩) (hck : (Region.noSelect ops && (Region.ready .any ops listed).contains i && Region.free .any ops listed i && zWaits .any ops Z i) = true := by kernel_rfl) (hw : wants ops sL o = some true := by exact rfl) (hd : o.dst = some d := by exact rfl) (hn : d < c.nt := by exact Nat.le_of_ble_eq_true rfl) : aD P c ops Q Z K (fuel + 1) listed (⟨sL, hP⟩ : St) :=
 aD_y i d ho hck hw hd hn hy k
theorem kD (i : Nat) (d : Nat) (ho : ops[i]? = some o) (k : aD P c ops Q Z K fuel (listed.setIfInBounds i true) ⟨put d (undef, .val undef) sL, hP⟩) (hck : (Region.noSelect ops && (Region.ready .any ops listed).contains i && Region.free .any ops listed i && zWaits .any ops Z i) = true := by kernel_rfl) (hw : wants ops sL o = some false := by exact rfl) (hd : o.dst = some d := by exact rfl) (hn : d < c.nt := by exact Nat.le_of_ble_eq_true rfl) : aD P c ops Q Z K (fuel + 1) listed (⟨sL, hP⟩ : St) :=
 aD_skip i d ho hck hw hd hn k
theorem xE {v : Value} {p : PV} (i : Nat) (d : Nat) (ho : ops[i]? = some o) (hy : YE P (⟨sL, hP⟩ : St) o (· = v) p) (k : aD P c ops Q Z K fuel (listed.setIfInBounds i true) ⟨put d (v, p) sL, hP⟩) (hr : Region.ready .any ops listed = [i] := by kernel_rfl) (hw : wants ops sL o = some true := by exact rfl) (hd : o.dst = some d := by exact rfl) (hn : d < c.nt := by exact Nat.le_of_ble_eq_true rfl) : aD P c ops Q Z K (fuel + 1) listed (⟨sL, hP⟩ : St) :=
 aD_x1 i d ho hr hw hd hn hy k
theorem yE {V : Value → Prop} {p : PV} (i : Nat) (d : Nat) (ho : ops[i]? = some o) (hy : YE P (⟨sL, hP⟩ : St) o V p) (k : ∀ v, V v → aD P c ops Q Z K fuel (listed.setIfInBounds i true) ⟨put d (v, p) sL, hP⟩) (hr : Region.ready .any ops listed = [i] := by kernel_rfl) (hw : wants ops sL o = some true := by exact rfl) (hd : o.dst = some d := by exact rfl) (hn : d < c.nt := by exact Nat.le_of_ble_eq_true rfl) : aD P c ops Q Z K (fuel + 1) listed (⟨sL, hP⟩ : St) :=
 aD_y1 i d ho hr hw hd hn hy k
theorem q_move {P : Program} {st : St} {o : Oper} {x : Operand} {v : Value} {p : PV} (ho : o.op = .move x := by exact rfl) (hx : ev st.slots x = some (v, p) := by exact rfl) : YE P st o (· = v) p :=
 y_move ho hx
theorem q_assign {P : Program} {st : St} {o : Oper} {x : Operand} {v : Value} {p : PV} (ho : o.op = .assign x := by exact rfl) (hx : ev st.slots x = some (v, p) := by exact rfl) : YE P st o (· = v) p :=
 y_assign ho hx
theorem q_pick {P : Program} {st : St} {o : Oper} {c x y : Operand} {b : Bool} {q : PV} {v : Value} {p : PV} (ho : o.op = .pick c x y := by exact rfl) (hc : ev st.slots c = some (.bool b, q) := by exact rfl) (hx : ev st.slots (if b then x else y) = some (v, p) := by exact rfl) : YE P st o (· = v) p :=
 y_pick ho hc hx
theorem q_not {P : Program} {st : St} {o : Oper} {x : Operand} {t : TypeId} {b : Bool} {q : PV} (ho : o.op = .unOp .not t x := by exact rfl) (hx : ev st.slots x = some (.bool b, q) := by exact rfl) : YE P st o (· = .bool (!b)) (.val (.bool (!b))) :=
 y_not ho hx
theorem q_lss {k : IntKind} {a b : Int} (ho : o.op = .binOp .lss t x y t' := by exact rfl) (hx : ev st.slots x = some (.int k a, q) := by exact rfl) (hy : ev st.slots y = some (.int k b, q') := by exact rfl) : YE P st o (· = .bool (decide (a < b))) (.val (.bool (decide (a < b)))) :=
 y_lss ho hx hy
theorem q_leq {k : IntKind} {a b : Int} (ho : o.op = .binOp .leq t x y t' := by exact rfl) (hx : ev st.slots x = some (.int k a, q) := by exact rfl) (hy : ev st.slots y = some (.int k b, q') := by exact rfl) : YE P st o (· = .bool (decide (a ≤ b))) (.val (.bool (decide (a ≤ b)))) :=
 y_leq ho hx hy
theorem q_gtr {k : IntKind} {a b : Int} (ho : o.op = .binOp .gtr t x y t' := by exact rfl) (hx : ev st.slots x = some (.int k a, q) := by exact rfl) (hy : ev st.slots y = some (.int k b, q') := by exact rfl) : YE P st o (· = .bool (decide (b < a))) (.val (.bool (decide (b < a)))) :=
 y_gtr ho hx hy
theorem q_geq {k : IntKind} {a b : Int} (ho : o.op = .binOp .geq t x y t' := by exact rfl) (hx : ev st.slots x = some (.int k a, q) := by exact rfl) (hy : ev st.slots y = some (.int k b, q') := by exact rfl) : YE P st o (· = .bool (decide (b ≤ a))) (.val (.bool (decide (b ≤ a)))) :=
 y_geq ho hx hy
theorem q_eql {k : IntKind} {a b : Int} (ho : o.op = .binOp .eql t x y t' := by exact rfl) (hx : ev st.slots x = some (.int k a, q) := by exact rfl) (hy : ev st.slots y = some (.int k b, q') := by exact rfl) : YE P st o (· = .bool (decide (a = b))) (.val (.bool (decide (a = b)))) :=
 y_eql ho hx hy
theorem q_neq {k : IntKind} {a b : Int} (ho : o.op = .binOp .neq t x y t' := by exact rfl) (hx : ev st.slots x = some (.int k a, q) := by exact rfl) (hy : ev st.slots y = some (.int k b, q') := by exact rfl) : YE P st o (· = .bool (decide (a ≠ b))) (.val (.bool (decide (a ≠ b)))) :=
 y_neq ho hx hy
theorem q_add {a b : Int} (ho : o.op = .binOp .add t x y t' := by exact rfl) (hx : ev st.slots x = some (.int .i64 a, q) := by exact rfl) (hy : ev st.slots y = some (.int .i64 b, q') := by exact rfl) (h1 : -9223372036854775808 ≤ a + b := by first | omega | exact Nat.le_of_ble_eq_true rfl | (simp only [List.length_cons, List.length_nil, List.length_map, List.length_set, List.length_append, List.length_replicate, List.length_singleton, List.flatMap_cons, List.flatMap_nil]; omega)) (h2 : a + b ≤ 9223372036854775807 := by first | omega | exact Nat.le_of_ble_eq_true rfl | (simp only [List.length_cons, List.length_nil, List.length_map, List.length_set, List.length_append, List.length_replicate, List.length_singleton, List.flatMap_cons, List.flatMap_nil]; omega)) : YE P st o (· = .int .i64 (a + b)) (.val (.int .i64 (a + b))) :=
 y_add ho hx hy h1 h2
theorem q_sub {a b : Int} (ho : o.op = .binOp .sub t x y t' := by exact rfl) (hx : ev st.slots x = some (.int .i64 a, q) := by exact rfl) (hy : ev st.slots y = some (.int .i64 b, q') := by exact rfl) (h1 : -9223372036854775808 ≤ a - b := by first | omega | exact Nat.le_of_ble_eq_true rfl | (simp only [List.length_cons, List.length_nil, List.length_map, List.length_set, List.length_append, List.length_replicate, List.length_singleton, List.flatMap_cons, List.flatMap_nil]; omega)) (h2 : a - b ≤ 9223372036854775807 := by first | omega | exact Nat.le_of_ble_eq_true rfl | (simp only [List.length_cons, List.length_nil, List.length_map, List.length_set, List.length_append, List.length_replicate, List.length_singleton, List.flatMap_cons, List.flatMap_nil]; omega)) : YE P st o (· = .int .i64 (a - b)) (.val (.int .i64 (a - b))) :=
 y_sub ho hx hy h1 h2
theorem q_mul {a b : Int} (ho : o.op = .binOp .mul t x y t' := by exact rfl) (hx : ev st.slots x = some (.int .i64 a, q) := by exact rfl) (hy : ev st.slots y = some (.int .i64 b, q') := by exact rfl) (h1 : -9223372036854775808 ≤ a * b := by first | omega | exact Nat.le_of_ble_eq_true rfl | (simp only [List.length_cons, List.length_nil, List.length_map, List.length_set, List.length_append, List.length_replicate, List.length_singleton, List.flatMap_cons, List.flatMap_nil]; omega)) (h2 : a * b ≤ 9223372036854775807 := by first | omega | exact Nat.le_of_ble_eq_true rfl | (simp only [List.length_cons, List.length_nil, List.length_map, List.length_set, List.length_append, List.length_replicate, List.length_singleton, List.flatMap_cons, List.flatMap_nil]; omega)) : YE P st o (· = .int .i64 (a * b)) (.val (.int .i64 (a * b))) :=
 y_mul ho hx hy h1 h2
theorem q_beql {a b : Bool} (hu : P.underlying t = some .bool) (ho : o.op = .binOp .eql t x y t' := by exact rfl) (hx : ev st.slots x = some (.bool a, q) := by exact rfl) (hy : ev st.slots y = some (.bool b, q') := by exact rfl) : YE P st o (· = .bool (a == b)) (.val (.bool (a == b))) :=
 y_beql hu ho hx hy
theorem q_bneq {a b : Bool} (hu : P.underlying t = some .bool) (ho : o.op = .binOp .neq t x y t' := by exact rfl) (hx : ev st.slots x = some (.bool a, q) := by exact rfl) (hy : ev st.slots y = some (.bool b, q') := by exact rfl) : YE P st o (· = .bool (!(a == b))) (.val (.bool (!(a == b)))) :=
 y_bneq hu ho hx hy
theorem q_extract {P : Program} {st : St} {o : Oper} {x : Operand} {i : Nat} {vs : List Value} {ps : List PV} {v : Value} {p : PV} (ho : o.op = .extract x i := by exact rfl) (hx : ev st.slots x = some (.tuple vs.toArray, .tup ps) := by exact rfl) (hv : vs[i]? = some v := by exact rfl) (hp : ps[i]? = some p := by exact rfl) : YE P st o (· = v) p :=
 y_extract ho hx hv hp
theorem q_fld {s f fo j : Nat} {x : Operand} {v : Value} {cs : List PV} (hT : FldT P s f fo = true) (ho : o.op = .fieldAddr s x f := by exact rfl) (hx : ev st.slots x = some (v, .sptr j cs) := by exact rfl) : YE P st o (· = padd v fo) (.sptr (j + fo) cs) :=
 y_fld_shr hT ho hx
theorem q_fldo {s f fo j e k n : Nat} {x : Operand} {h : Value} {p : PV} {cs : List PV} (l : Nat) (hT : FldT P s f fo = true) (ho : o.op = .fieldAddr s x f := by exact rfl) (hx : ev st.slots x = some (padd (sbase h) j, p) := by exact rfl) (hl : lk st.heap l = some (h, .own e k n cs) := by exact rfl) (hn : 0 < n := by first | omega | exact Nat.le_of_ble_eq_true rfl | (simp only [List.length_cons, List.length_nil, List.length_map, List.length_set, List.length_append, List.length_replicate, List.length_singleton, List.flatMap_cons, List.flatMap_nil]; omega)) : YE P st o (· = padd (sbase h) (j + fo)) (.val (padd (sbase h) (j + fo))) :=
 y_fld_own l hT ho hx hl hn
theorem q_idxN {t e k n : Nat} {x y : Operand} {v : Value} {cs : List PV} {q : PV} {kd : IntKind} {i : Nat} (hT : SlT P t e k = true) (ho : o.op = .indexAddr t x y := by exact rfl) (hx : ev st.slots x = some (v, .sl n cs) := by exact rfl) (hy : ev st.slots y = some (.int kd (i : Int), q) := by exact rfl) (h1 : i < n := by first | omega | exact Nat.le_of_ble_eq_true rfl | (simp only [List.length_cons, List.length_nil, List.length_map, List.length_set, List.length_append, List.length_replicate, List.length_singleton, List.flatMap_cons, List.flatMap_nil]; omega)) : YE P st o (· = padd (sbase v) (i * k)) (.sptr (i * k) cs) :=
 y_idx_shrN hT ho hx hy h1
theorem q_idxoN {t e k e' k' n : Nat} {x y : Operand} {h : Value} {p q : PV} {cs : List PV} {kd : IntKind} {i : Nat} (l : Nat) (hT : SlT P t e k = true) (ho : o.op = .indexAddr t x y := by exact rfl) (hx : ev st.slots x = some (h, p) := by exact rfl) (hy : ev st.slots y = some (.int kd (i : Int), q) := by exact rfl) (hl : lk st.heap l = some (h, .own e' k' n cs) := by exact rfl) (h1 : i < n := by first | omega | exact Nat.le_of_ble_eq_true rfl | (simp only [List.length_cons, List.length_nil, List.length_map, List.length_set, List.length_append, List.length_replicate, List.length_singleton, List.flatMap_cons, List.flatMap_nil]; omega)) : YE P st o (· = padd (sbase h) (i * k)) (.val (padd (sbase h) (i * k))) :=
 y_idx_ownN l hT ho hx hy hl h1
theorem q_idx {t e k n : Nat} {x y : Operand} {v : Value} {cs : List PV} {q : PV} {kd : IntKind} {i : Int} (hT : SlT P t e k = true) (ho : o.op = .indexAddr t x y := by exact rfl) (hx : ev st.slots x = some (v, .sl n cs) := by exact rfl) (hy : ev st.slots y = some (.int kd i, q) := by exact rfl) (h0 : 0 ≤ i := by first | omega | exact Nat.le_of_ble_eq_true rfl | (simp only [List.length_cons, List.length_nil, List.length_map, List.length_set, List.length_append, List.length_replicate, List.length_singleton, List.flatMap_cons, List.flatMap_nil]; omega)) (h1 : i < n := by first | omega | exact Nat.le_of_ble_eq_true rfl | (simp only [List.length_cons, List.length_nil, List.length_map, List.length_set, List.length_append, List.length_replicate, List.length_singleton, List.flatMap_cons, List.flatMap_nil]; omega)) : YE P st o (· = padd (sbase v) (i.toNat * k)) (.sptr (i.toNat * k) cs) :=
 y_idx_shr hT ho hx hy h0 h1
theorem q_idxo {t e k e' k' n : Nat} {x y : Operand} {h : Value} {p q : PV} {cs : List PV} {kd : IntKind} {i : Int} (l : Nat) (hT : SlT P t e k = true) (ho : o.op = .indexAddr t x y := by exact rfl) (hx : ev st.slots x = some (h, p) := by exact rfl) (hy : ev st.slots y = some (.int kd i, q) := by exact rfl) (hl : lk st.heap l = some (h, .own e' k' n cs) := by exact rfl) (h0 : 0 ≤ i := by first | omega | exact Nat.le_of_ble_eq_true rfl | (simp only [List.length_cons, List.length_nil, List.length_map, List.length_set, List.length_append, List.length_replicate, List.length_singleton, List.flatMap_cons, List.flatMap_nil]; omega)) (h1 : i < n := by first | omega | exact Nat.le_of_ble_eq_true rfl | (simp only [List.length_cons, List.length_nil, List.length_map, List.length_set, List.length_append, List.length_replicate, List.length_singleton, List.flatMap_cons, List.flatMap_nil]; omega)) : YE P st o (· = padd (sbase h) (i.toNat * k)) (.val (padd (sbase h) (i.toNat * k))) :=
 y_idx_own l hT ho hx hy hl h0 h1
theorem q_ld {t j : Nat} {x : Operand} {v : Value} {cs : List PV} {p : PV} (hT : NoAgg P t = true) (ho : o.op = .load t x := by exact rfl) (hx : ev st.slots x = some (v, .sptr j cs) := by exact rfl) (hp : cs[j]? = some p := by first | exact rfl | assumption) : YE P st o (vOf p) p :=
 y_ld_shr hT ho hx hp
theorem q_ldo {t j e k n : Nat} {x : Operand} {h : Value} {q : PV} {cs : List PV} {p : PV} (l : Nat) (hT : NoAgg P t = true) (ho : o.op = .load t x := by exact rfl) (hx : ev st.slots x = some (padd (sbase h) j, q) := by exact rfl) (hl : lk st.heap l = some (h, .own e k n cs) := by exact rfl) (hp : cs[j]? = some p := by first | exact rfl | assumption) (hsh : isSh p = true := by exact rfl) : YE P st o (vOf p) p :=
 y_ld_own l hT ho hx hl hp hsh
theorem q_lda {t k j : Nat} {x : Operand} {v : Value} {cs ps : List PV} (hT : AggT P t k = true) (ho : o.op = .load t x := by exact rfl) (hx : ev sL x = some (v, .sptr j cs) := by exact rfl) (hp : j + k ≤ cs.length := by first | omega | exact Nat.le_of_ble_eq_true rfl | (simp only [List.length_cons, List.length_nil, List.length_map, List.length_set, List.length_append, List.length_replicate, List.length_singleton, List.flatMap_cons, List.flatMap_nil]; omega)) (hps : (cs.drop j).take k = ps := by first | assumption | exact rfl) : YE P (⟨sL, hP⟩ : St) o (fun _ => True) (.agg ps) :=
 y_lda_shrE hT ho hx hp hps
theorem q_ldao {t k j e k' n : Nat} {x : Operand} {h : Value} {q : PV} {cs ps : List PV} (l : Nat) (hT : AggT P t k = true) (ho : o.op = .load t x := by exact rfl) (hx : ev sL x = some (padd (sbase h) j, q) := by exact rfl) (hl : lk hP l = some (h, .own e k' n cs) := by exact rfl) (hp : j + k ≤ cs.length := by first | omega | exact Nat.le_of_ble_eq_true rfl | (simp only [List.length_cons, List.length_nil, List.length_map, List.length_set, List.length_append, List.length_replicate, List.length_singleton, List.flatMap_cons, List.flatMap_nil]; omega)) (hk : 0 < k := by decide) (hps : (cs.drop j).take k = ps := by first | assumption | exact rfl) (hsh : ps.all isSh = true := by first | exact rfl | decide) : YE P (⟨sL, hP⟩ : St) o (fun _ => True) (.agg ps) :=
 y_lda_ownE l hT ho hx hl hp hk hps hsh
theorem q_len {t e k n : Nat} {x : Operand} {v : Value} {cs : List PV} (hT : SlT P t e k = true) (ho : o.op = .call { callee := .builtin .len, args := #[x], argTypes := #[t] } := by exact rfl) (hx : ev st.slots x = some (v, .sl n cs) := by exact rfl) : YE P st o (· = .int .i64 n) (.val (.int .i64 n)) :=
 y_len_shr hT ho hx
theorem q_leno {t e k e' k' n : Nat} {x : Operand} {h : Value} {p : PV} {cs : List PV} (l : Nat) (hT : SlT P t e k = true) (ho : o.op = .call { callee := .builtin .len, args := #[x], argTypes := #[t] } := by exact rfl) (hx : ev st.slots x = some (h, p) := by exact rfl) (hl : lk st.heap l = some (h, .own e' k' n cs) := by exact rfl) : YE P st o (· = .int .i64 n) (.val (.int .i64 n)) :=
 y_len_own l hT ho hx hl
theorem q_mleno {t ks e : Nat} {x : Operand} {m : Value} {kv : List (Value × Value)} {p : PV} (l : Nat) (ht : P.underlying t = some (.map ks e)) (ho : o.op = .call { callee := .builtin .len, args := #[x], argTypes := #[t] } := by exact rfl) (hx : ev sL x = some (m, p) := by exact rfl) (hl : lk hP l = some (m, .omap kv) := by exact rfl) : YE P (⟨sL, hP⟩ : St) o (· = .int .i64 kv.length) (.val (.int .i64 kv.length)) :=
 y_mlen_o l ht ho hx hl
theorem q_build {t : Nat} {parts : Array (Nat × Operand)} {z : Value} {offs : List Nat} {zs : List Value} {es : List (Nat × Ent)} (hT : stInfo P t = some (z, offs.map fun o => (o, 1))) (hzs : z.cells = zs.toArray := by exact rfl) (ho : o.op = .build t parts := by exact rfl) (hx : evP sL parts.toList = some es := by exact rfl) (h1 : es.all (fun x => one x.2.2) = true := by first | exact rfl | (simp only [List.all_cons, List.all_nil, Bool.and_true, Bool.and_eq_true]; (repeat (first | refine ⟨?_, ?_⟩ | rfl | assumption)))) (hin : es.all (fun x => decide (x.1 < offs.length) && decide (offs.getD x.1 0 < zs.length)) = true := by exact rfl) : YE P (⟨sL, hP⟩ : St) o (· = .agg (setP offs zs (es.map fun x => (x.1, x.2.1))).toArray) (.agg (setP offs (zs.map .val) (es.map fun x => (x.1, x.2.2)))) :=
 y_build hT hzs ho hx h1 hin
theorem q_mkfn {f : Nat} {caps : Array Operand} {es : List Ent} (ho : o.op = .makeFunc (.func f) #[] caps := by exact rfl) (hx : evL sL caps.toList = some es := by exact rfl) : YE P (⟨sL, hP⟩ : St) o (· = .func (.func f) #[] (es.map (·.1)).toArray) (.fn f (es.map (·.2))) :=
 y_mkfn ho hx
theorem q_looko2 {t ks e : Nat} {kd : TypeDesc} {z : Value} {x y : Operand} {m k : Value} {kv : List (Value × Value)} {p q : PV} (l : Nat) (hT : MpT P t ks e kd z) (ho : o.op = .lookup t x y true := by exact rfl) (hx : ev sL x = some (m, p) := by exact rfl) (hl : lk hP l = some (m, .omap kv) := by exact rfl) (hy : ev sL y = some (k, q) := by exact rfl) (hk : kok kd k kv := by first | exact kok_skv _ _ | exact kok_ikv _ _ | exact kok_nil _ _ | assumption) : YE P (⟨sL, hP⟩ : St) o (· = .tuple [(mget kv k).getD z, .bool (mget kv k).isSome].toArray) (.tup [.val ((mget kv k).getD z), .val (.bool (mget kv k).isSome)]) :=
 y_look_o2 l hT ho hx hl hy hk
theorem q_lookoE {t ks e : Nat} {kd : TypeDesc} {z u : Value} {x y : Operand} {m k : Value} {kv : List (Value × Value)} {p q : PV} (l : Nat) (hT : MpT P t ks e kd z) (ho : o.op = .lookup t x y false := by exact rfl) (hx : ev sL x = some (m, p) := by exact rfl) (hl : lk hP l = some (m, .omap kv) := by exact rfl) (hy : ev sL y = some (k, q) := by exact rfl) (hk : kok kd k kv := by first | exact kok_skv _ _ | exact kok_ikv _ _ | exact kok_nil _ _ | assumption) (hu : (mget kv k).getD z = u := by assumption) : YE P (⟨sL, hP⟩ : St) o (· = u) (.val u) :=
 y_look_oE l hT ho hx hl hy hk hu
theorem s_box {t : TypeId} {x : Operand} {v : Value} {p : PV} (d : Nat) (k : ∀ h : Value, aL P c ops Q rest ⟨put d (padd (sbase h) 0, .val (padd (sbase h) 0)) sL, put d (h, .own t 1 1 [p]) hP⟩) (hw : wants ops sL o = some true := by exact rfl) (hd : o.dst = some d := by exact rfl) (hn : d < c.nt := by exact Nat.le_of_ble_eq_true rfl) (ho : o.op = .box t x := by exact rfl) (hx : ev sL x = some (v, p) := by exact rfl) (h1 : one p = true := by first | exact rfl | assumption) (hl : lk hP d = none := by exact rfl) : aL P c ops Q (o :: rest) (⟨sL, hP⟩ : St) :=
 aL_box1 d hw hd hn ho hx h1 hl k
theorem s_boxa {t : TypeId} {x : Operand} {v : Value} {ps : List PV} (d : Nat) (m : Nat) (k : ∀ h : Value, aL P c ops Q rest ⟨put d (padd (sbase h) 0, .val (padd (sbase h) 0)) sL, put d (h, .own t m 1 ps) hP⟩) (hw : wants ops sL o = some true := by exact rfl) (hd : o.dst = some d := by exact rfl) (hn : d < c.nt := by exact Nat.le_of_ble_eq_true rfl) (ho : o.op = .box t x := by exact rfl) (hx : ev sL x = some (v, .agg ps) := by exact rfl) (hm : ps.length = m := by exact rfl) (hl : lk hP d = none := by exact rfl) : aL P c ops Q (o :: rest) (⟨sL, hP⟩ : St) :=
 aL_boxa d m hw hd hn ho hx hm hl k
theorem s_alloc {t : TypeId} {z : Value} (zs : List Value) (m : Nat) (d : Nat) (hz : ZeroT P t z) (k : ∀ h : Value, aL P c ops Q rest ⟨put d (padd (sbase h) 0, .val (padd (sbase h) 0)) sL, put d (h, .own t m 1 (zs.map .val)) hP⟩) (hw : wants ops sL o = some true := by exact rfl) (hd : o.dst = some d := by exact rfl) (hn : d < c.nt := by exact Nat.le_of_ble_eq_true rfl) (ho : o.op = .alloc t := by exact rfl) (hzs : z.cells = zs.toArray := by exact rfl) (hm : zs.length = m := by exact rfl) (hl : lk hP d = none := by exact rfl) : aL P c ops Q (o :: rest) (⟨sL, hP⟩ : St) :=
 aL_alloc zs m d hw hd hn ho hz hzs hm hl k
theorem s_make {t e bytes : Nat} {z : Value} {x y : Operand} {n : Nat} {q q' : PV} (d : Nat) (hT : ElT P t e 1 bytes z) (k : ∀ h : Value, h.oneCell' = true → aL P c ops Q rest ⟨put d (h, .val h) sL, put d (h, .own e 1 n (List.replicate n (.val z))) hP⟩) (hw : wants ops sL o = some true := by exact rfl) (hd : o.dst = some d := by exact rfl) (hn : d < c.nt := by exact Nat.le_of_ble_eq_true rfl) (ho : o.op = .makeSlice t x y := by exact rfl) (hx : ev sL x = some (.int .i64 n, q) := by exact rfl) (hy : ev sL y = some (.int .i64 n, q') := by exact rfl) (hl : lk hP d = none := by exact rfl) (hb : bytes * n ≤ 281474976710656 := by first | omega | exact Nat.le_of_ble_eq_true rfl | (simp only [List.length_cons, List.length_nil, List.length_map, List.length_set, List.length_append, List.length_replicate, List.length_singleton, List.flatMap_cons, List.flatMap_nil]; omega)) (hn2 : n ≤ 9223372036854775807 := by first | omega | exact Nat.le_of_ble_eq_true rfl | (simp only [List.length_cons, List.length_nil, List.length_map, List.length_set, List.length_append, List.length_replicate, List.length_singleton, List.flatMap_cons, List.flatMap_nil]; omega)) (hz1 : z.oneCell' = true := by exact rfl) : aL P c ops Q (o :: rest) (⟨sL, hP⟩ : St) :=
 aL_make d hT hw hd hn ho hx hy hl hb hn2 hz1 k
theorem s_lit0 {t e kk bytes : Nat} {z : Value} (d : Nat) (hT : ElT P t e kk bytes z) (k : ∀ h : Value, h.oneCell' = true → aL P c ops Q rest ⟨put d (h, .val h) sL, put d (h, .own e kk 0 []) hP⟩) (hw : wants ops sL o = some true := by exact rfl) (hd : o.dst = some d := by exact rfl) (hn : d < c.nt := by exact Nat.le_of_ble_eq_true rfl) (ho : o.op = .buildSlice t 0 #[] := by exact rfl) (hl : lk hP d = none := by exact rfl) : aL P c ops Q (o :: rest) (⟨sL, hP⟩ : St) :=
 aL_lit0 d hT hw hd hn ho hl k
theorem s_lit1 {t e kk bytes : Nat} {z : Value} {x : Operand} {v : Value} {p : PV} (d : Nat) (hT : ElT P t e 1 bytes z) (k : ∀ h : Value, h.oneCell' = true → aL P c ops Q rest ⟨put d (h, .val h) sL, put d (h, .own e 1 1 [p]) hP⟩) (hw : wants ops sL o = some true := by exact rfl) (hd : o.dst = some d := by exact rfl) (hn : d < c.nt := by exact Nat.le_of_ble_eq_true rfl) (ho : o.op = .buildSlice t 1 #[(0, x)] := by exact rfl) (hx : ev sL x = some (v, p) := by exact rfl) (h10 : one p = true := by first | exact rfl | assumption) (hl : lk hP d = none := by exact rfl) : aL P c ops Q (o :: rest) (⟨sL, hP⟩ : St) :=
 aL_lit1 (kk := 1) d hT hw hd hn ho hx h10 hl k
theorem s_lit1a {t e kk bytes : Nat} {z : Value} {x : Operand} {v : Value} {ps : List PV} (d : Nat) (hT : ElT P t e kk bytes z) (k : ∀ h : Value, h.oneCell' = true → aL P c ops Q rest ⟨put d (h, .val h) sL, put d (h, .own e kk 1 ps) hP⟩) (hw : wants ops sL o = some true := by exact rfl) (hd : o.dst = some d := by exact rfl) (hn : d < c.nt := by exact Nat.le_of_ble_eq_true rfl) (ho : o.op = .buildSlice t 1 #[(0, x)] := by exact rfl) (hx : ev sL x = some (v, .agg ps) := by exact rfl) (hps : ps.length = kk := by exact rfl) (hkb : kk ≤ 1000 := by decide) (hl : lk hP d = none := by exact rfl) : aL P c ops Q (o :: rest) (⟨sL, hP⟩ : St) :=
 aL_lit1a d hT hw hd hn ho hx hps hkb hl k
theorem s_litn {t e bytes m : Nat} {z : Value} {xs : List Operand} {parts : Array (Nat × Operand)} {es : List Ent} (d : Nat) (hT : ElT P t e 1 bytes z) (k : ∀ h : Value, h.oneCell' = true → aL P c ops Q rest ⟨put d (h, .val h) sL, put d (h, .own e 1 m (es.map (·.2))) hP⟩) (hw : wants ops sL o = some true := by exact rfl) (hd : o.dst = some d := by exact rfl) (hn : d < c.nt := by exact Nat.le_of_ble_eq_true rfl) (ho : o.op = .buildSlice t m parts := by exact rfl) (hpt : parts = ((xs.zipIdx).map fun x => (x.2, x.1)).toArray := by exact rfl) (hx : evL sL xs = some es := by exact rfl) (h1 : es.all (fun x => one x.2) = true := by exact rfl) (hm : es.length = m := by exact rfl) (hm0 : 0 < m := by decide) (hm1 : m ≤ 1000 := by decide) (hl : lk hP d = none := by exact rfl) : aL P c ops Q (o :: rest) (⟨sL, hP⟩ : St) :=
 aL_litn d hT hw hd hn ho hpt hx h1 hm hm0 hm1 hl k
theorem s_st {t j e kk n : Nat} {x y : Operand} {h v : Value} {q p : PV} {cs : List PV} (l : Nat) (hT : NoAgg P t = true) (hsz : (P.info? t).map (·.size) = some 1) (k : aL P c ops Q rest ⟨sL, put l (h, .own e kk n (cs.set j p)) hP⟩) (hw : wants ops sL o = some true := by exact rfl) (hd : o.dst = none := by exact rfl) (ho : o.op = .store t x y := by exact rfl) (hx : ev sL x = some (padd (sbase h) j, q) := by exact rfl) (hy : ev sL y = some (v, p) := by exact rfl) (h1 : one p = true := by first | exact rfl | assumption) (hl : lk hP l = some (h, .own e kk n cs) := by exact rfl) (hj : j < cs.length := by first | omega | exact Nat.le_of_ble_eq_true rfl | (simp only [List.length_cons, List.length_nil, List.length_map, List.length_set, List.length_append, List.length_replicate, List.length_singleton, List.flatMap_cons, List.flatMap_nil]; omega)) : aL P c ops Q (o :: rest) (⟨sL, hP⟩ : St) :=
 aL_st1 l hw hd hT hsz ho hx hy h1 hl hj k
theorem s_sta {t j e kk n m : Nat} {x y : Operand} {h V : Value} {q : PV} {ps cs : List PV} (l : Nat) (hT : AggT P t m = true) (k : aL P c ops Q rest ⟨sL, put l (h, .own e kk n (setL cs j ps)) hP⟩) (hw : wants ops sL o = some true := by exact rfl) (hd : o.dst = none := by exact rfl) (ho : o.op = .store t x y := by exact rfl) (hx : ev sL x = some (padd (sbase h) j, q) := by exact rfl) (hy : ev sL y = some (V, .agg ps) := by exact rfl) (hm : ps.length = m := by exact rfl) (h1 : ps.all one = true := by first | exact rfl | (simp only [List.all_cons, List.all_nil, Bool.and_true, Bool.and_eq_true]; (repeat (first | refine ⟨?_, ?_⟩ | rfl | assumption)))) (hl : lk hP l = some (h, .own e kk n cs) := by exact rfl) (hj : j + m ≤ cs.length := by first | omega | exact Nat.le_of_ble_eq_true rfl | (simp only [List.length_cons, List.length_nil, List.length_map, List.length_set, List.length_append, List.length_replicate, List.length_singleton, List.flatMap_cons, List.flatMap_nil]; omega)) (hm0 : 0 < m := by decide) : aL P c ops Q (o :: rest) (⟨sL, hP⟩ : St) :=
 aL_sta l hw hd hT ho hx hy hm h1 hl hj hm0 k
theorem s_mkmap {t : Nat} (d : Nat) (k : ∀ m : Value, m.oneCell' = true → aL P c ops Q rest ⟨put d (m, .val m) sL, put d (m, .omap []) hP⟩) (hw : wants ops sL o = some true := by exact rfl) (hd : o.dst = some d := by exact rfl) (hn : d < c.nt := by exact Nat.le_of_ble_eq_true rfl) (ho : o.op = .makeMap t none := by exact rfl) (hl : lk hP d = none := by exact rfl) : aL P c ops Q (o :: rest) (⟨sL, hP⟩ : St) :=
 aL_mkmap d hw hd hn ho hl k
theorem s_mput {t ks e : Nat} {kd : TypeDesc} {z : Value} {x y u : Operand} {m k v : Value} {kv : List (Value × Value)} {p q r : PV} (l : Nat) (hT : MpT P t ks e kd z) (kk : aL P c ops Q rest ⟨sL, put l (m, .omap (mput kv k v)) hP⟩) (hw : wants ops sL o = some true := by exact rfl) (hd : o.dst = none := by exact rfl) (ho : o.op = .mapUpdate t x y u := by exact rfl) (hx : ev sL x = some (m, p) := by exact rfl) (hl : lk hP l = some (m, .omap kv) := by exact rfl) (hy : ev sL y = some (k, q) := by exact rfl) (hu : ev sL u = some (v, r) := by exact rfl) (hk : kok kd k kv := by first | exact kok_skv _ _ | exact kok_ikv _ _ | exact kok_nil _ _ | assumption) (hbits : bits k = true := by exact rfl) : aL P c ops Q (o :: rest) (⟨sL, hP⟩ : St) :=
 aL_mput l hw hd hT ho hx hl hy hu hk hbits kk
theorem s_app {t ty e kk bytes n m : Nat} {z : Value} {x y : Operand} {h h2 : Value} {q q2 : PV} {cs cs2 : List PV} (l : Nat) (l2 : Nat) (d : Nat) (hT : ElT P t e kk bytes z) (k : ∀ h' : Value, h'.oneCell' = true → aL P c ops Q rest ⟨put d (h', .val h') sL, put d (h', .own e kk (n + m) (cs ++ cs2)) (del l2 (del l hP))⟩) (hw : wants ops sL o = some true := by exact rfl) (hd : o.dst = some d := by exact rfl) (hn : d < c.nt := by exact Nat.le_of_ble_eq_true rfl) (hty : o.type = ty := by exact rfl) (ho : o.op = .call { callee := .builtin .append, args := #[x, y], argTypes := #[t, t] } := by exact rfl) (hx : ev sL x = some (h, q) := by exact rfl) (hy : ev sL y = some (h2, q2) := by exact rfl) (hll : Nat.beq l l2 = false := by exact rfl) (hl : lk hP l = some (h, .own e kk n cs) := by exact rfl) (hl2 : lk hP l2 = some (h2, .own e kk m cs2) := by exact rfl) (hdl : lk (del l2 (del l hP)) d = none := by exact rfl) (hm : 0 < m := by decide) (hok : cs2.all cellOk = true := by first | exact rfl | (simp only [List.all_cons, List.all_nil, Bool.and_true, Bool.and_eq_true]; (repeat (first | refine ⟨?_, ?_⟩ | rfl | assumption)))) (hlen : n + m ≤ 9223372036854775807 := by first | omega | exact Nat.le_of_ble_eq_true rfl | (simp only [List.length_cons, List.length_nil, List.length_map, List.length_set, List.length_append, List.length_replicate, List.length_singleton, List.flatMap_cons, List.flatMap_nil]; omega)) (hb : (n + m) * bytes ≤ 140737488355328 := by first | omega | exact Nat.le_of_ble_eq_true rfl | (simp only [List.length_cons, List.length_nil, List.length_map, List.length_set, List.length_append, List.length_replicate, List.length_singleton, List.flatMap_cons, List.flatMap_nil]; omega)) (hdr : ¬ c.dr := by exact id) : aL P c ops Q (o :: rest) (⟨sL, hP⟩ : St) :=
 aL_append l l2 d hT hw hd hn hty ho hx hy hll hl hl2 hdl hm hok hlen hb hdr k
theorem bLd {l : List Oper} (t : Nat) {p : Prop} {_ : Decidable p} {q : PV} (ht : p → aL P c ops Q l ⟨put t (.bool true, .val (.bool true)) sL, hP⟩) (hf : ¬ p → aL P c ops Q l ⟨put t (.bool false, .val (.bool false)) sL, hP⟩) (hx : lk sL t = some (.bool (decide p), q) := by exact rfl) : aL P c ops Q l (⟨sL, hP⟩ : St) :=
 aL_bcase t hx (fun h => ht (of_decide_eq_true h)) (fun h => hf (of_decide_eq_false h))
theorem bDd (t : Nat) {p : Prop} {_ : Decidable p} {q : PV} (ht : p → aD P c ops Q Z K fuel listed ⟨put t (.bool true, .val (.bool true)) sL, hP⟩) (hf : ¬ p → aD P c ops Q Z K fuel listed ⟨put t (.bool false, .val (.bool false)) sL, hP⟩) (hx : lk sL t = some (.bool (decide p), q) := by exact rfl) : aD P c ops Q Z K fuel listed (⟨sL, hP⟩ : St) :=
 aD_bcase t hx (fun h => ht (of_decide_eq_true h)) (fun h => hf (of_decide_eq_false h))
theorem cC {x : Operand} {t e : Code} {b : Bool} {q : PV} (ht : b = true → aC P c t Q (⟨sL, hP⟩ : St)) (hf : b = false → aC P c e Q (⟨sL, hP⟩ : St)) (hx : ev sL x = some (.bool b, q) := by exact rfl) : aC P c (.cond x t e) Q (⟨sL, hP⟩ : St) := aC_cond hx ht hf
theorem cCd {x : Operand} {t e : Code} {p : Prop} {_ : Decidable p} {q : PV} (ht : p → aC P c t Q (⟨sL, hP⟩ : St)) (hf : ¬ p → aC P c e Q (⟨sL, hP⟩ : St)) (hx : ev sL x = some (.bool (decide p), q) := by exact rfl) : aC P c (.cond x t e) Q (⟨sL, hP⟩ : St) := aC_cond hx (fun h => ht (of_decide_eq_true h)) (fun h => hf (of_decide_eq_false h))
theorem cCt {x : Operand} {t e : Code} {q : PV} (ht : aC P c t Q (⟨sL, hP⟩ : St)) (hx : ev sL x = some (.bool true, q) := by exact rfl) : aC P c (.cond x t e) Q (⟨sL, hP⟩ : St) := aC_cond hx (fun _ => ht) (fun h => Bool.noConfusion h)
theorem cCf {x : Operand} {t e : Code} {q : PV} (hf : aC P c e Q (⟨sL, hP⟩ : St)) (hx : ev sL x = some (.bool false, q) := by exact rfl) : aC P c (.cond x t e) Q (⟨sL, hP⟩ : St) := aC_cond hx (fun h => Bool.noConfusion h) (fun _ => hf)
theorem len6 {vs : List Value} (h : vs.length = 6) : ∃ x y z u v w, vs = [x, y, z, u, v, w] := by
 match vs, h with
 | [x, y, z, u, v, w], _ => exact ⟨x, y, z, u, v, w, rfl⟩
theorem cA {dd : Prop} {f : Nat} {xs : Array Operand} {ats : Array TypeId} {es : List Ent} {ps : List PV} {R : PV → Prop} (hc : ∀ args w, (callFunc f args).run P w = .ok (.enter f args) w) (hA : AFd dd P f ps R) (ho : o.op = .call { callee := .value (.func f), args := xs, argTypes := ats } := by exact rfl) (hx : evL sL xs.toList = some es := by exact rfl) (hps : es.map (·.2) = ps := by exact rfl) (hdd : c.dr → dd := by first | exact id | exact fun h => h.elim | exact fun _ => trivial) : CallR P c (⟨sL, hP⟩ : St) o R :=
 callA ho hc hx (hps ▸ hA) hdd
theorem cS {p : PV} (d : Nat) (hC : CallR P c (⟨sL, hP⟩ : St) o (· = p)) (k : ∀ v, vOf p v → aL P c ops Q rest ⟨put d (v, p) sL, hP⟩) (hsh : isSh p = true := by exact rfl) (hw : wants ops sL o = some true := by exact rfl) (hd : o.dst = some d := by exact rfl) (hn : d < c.nt := by exact Nat.le_of_ble_eq_true rfl) : aL P c ops Q (o :: rest) (⟨sL, hP⟩ : St) :=
 aL_cs d hw hd hn hC fun p' hp => by subst hp; exact ⟨hsh, k⟩
theorem cO {p : PV} (d : Nat) (hC : CallR P c (⟨sL, hP⟩ : St) o (· = p)) (k : ∀ v, v.oneCell' = true → aL P c ops Q rest ⟨put d (v, .val v) sL, put d (v, p) hP⟩) (hok : cellOk p = true := by exact rfl) (hl : lk hP d = none := by exact rfl) (hw : wants ops sL o = some true := by exact rfl) (hd : o.dst = some d := by exact rfl) (hn : d < c.nt := by exact Nat.le_of_ble_eq_true rfl) : aL P c ops Q (o :: rest) (⟨sL, hP⟩ : St) :=
 aL_co d hw hd hn hl hC fun p' hp => by subst hp; exact ⟨hok, k⟩
end
mutual
def shD : PV → Bool
 | .val _ => true
 | .sl _ _ => true
 | .sptr _ _ => true
 | .smap _ => true
 | .own _ _ _ _ => false
 | .omap _ => false
 | .obox _ _ _ => false
 | .agg ps => shDs ps
 | .tup ps => shDs ps
 | .fn _ _ => true
 | .oblk _ _ _ _ => false
def shDs : List PV → Bool
 | [] => true
 | p :: l => shD p && shDs l
end
theorem shDs_all : ∀ l : List PV, shDs l = l.all shD
 | [] => by simp [shDs]
 | p :: l => by simp [shDs, shDs_all l]
theorem Tr.shD {M : BS} {w : World} {v : Value} {p : PV} {F : BS} (h : Tr M w v p F) : En.shD p = true → Shr M w v p := by
 induction h with
 | shr h _ => exact fun _ => h
 | own => intro h; rw [En.shD] at h; cases h
 | omap => intro h; rw [En.shD] at h; cases h
 | oblk => intro h; rw [En.shD] at h; cases h
 | obox => intro h; rw [En.shD] at h; cases h
 | @agg ps F vs Fs hl h hd hF ih =>
   intro hs
   rw [En.shD, shDs_all] at hs
   exact .agg vs ps hl fun i v p hv hp => ih i v p hv hp (List.all_eq_true.1 hs p (List.mem_of_getElem? hp))
 | @tup ps F vs Fs hl h hd hF ih =>
   intro hs
   rw [En.shD, shDs_all] at hs
   exact .tup vs ps hl fun i v p hv hp => ih i v p hv hp (List.all_eq_true.1 hs p (List.mem_of_getElem? hp))
section
variable {P : Program} {c : Ctx} {ops : Array Oper} {Q : Exit → Act → World → Prop} {rest : List Oper} {st : St} {sL hP : List (Nat × Ent)} {o : Oper} {Z : Nat → Bool} {K : List Nat} {fuel : Nat} {listed : Array Bool}
theorem q_nilp {x : Operand} {v : Value} {j : Nat} {cs : List PV} (ho : o.op = .nilCheck x := by exact rfl) (hx : ev st.slots x = some (v, .sptr j cs) := by exact rfl) : YE P st o (· = v) (.sptr j cs) :=
 .exact fun M F a w H => by
  obtain ⟨hv, hs⟩ := H.ev hx
  cases hs with
  | sptr b off j cs vs hcell hT' => exact ⟨.sptr b off j cs vs hcell hT', by simp [execOp, ho, hv]⟩
theorem q_nilo {x : Operand} {h : Value} {q : PV} {j e k n : Nat} {cs : List PV} (l : Nat) (ho : o.op = .nilCheck x := by exact rfl) (hx : ev st.slots x = some (padd (sbase h) j, q) := by exact rfl) (hl : lk st.heap l = some (h, .own e k n cs) := by exact rfl) (hn : 0 < n := by first | omega | decide) : YE P st o (· = padd (sbase h) j) (.val (padd (sbase h) j)) :=
 .exact fun M F a w H => by
  have hv := (H.ev hx).1
  obtain ⟨g, cap, rfl, _⟩ := own_hdr (H.tr l _ _ hl) hn
  refine ⟨.val _, ?_⟩
  simp only [sbase, padd] at hv ⊢
  simp [execOp, ho, hv]
theorem freezeP {l t j e k n : Nat} {h : Value} {cs : List PV} {q : PV} (hl : lk hP l = some (h, .own e k n cs)) (hn : 0 < n) (ht : lk sL t = some (padd (sbase h) j, q)) : EntE (⟨sL, hP⟩ : St) (fun _ : Unit => ⟨put t (padd (sbase h) j, .sptr j (shares cs)) sL, del l hP⟩) := fun c a w ⟨F, H⟩ => by
 refine ⟨(), F, ?_⟩
 have hm : ∀ b, mof c (del l hP) F b → mof c hP F b := by
  rintro b (h | ⟨l', x, h1, h2⟩)
  · exact .inl h
  · exact .inr ⟨l', x, (lk_del h1).2, h2⟩
 have H1 : HoldsF c ⟨sL, del l hP⟩ F a w := H.less (fun _ _ h => h) (fun _ _ h => (lk_del h).2)
 refine ⟨H1.toHeapF, fun s u r hs => ?_, H.size, H.df⟩
 rcases lk_put hs with ⟨rfl, e1⟩ | ⟨_, hs'⟩
 · cases e1
   refine ⟨(H.sl t _ _ ht).1, ?_⟩
   obtain ⟨g, cap, rfl, _⟩ := own_hdr (H.tr l _ _ hl) hn
   have h2 := (H.tr l _ _ hl).share (M' := mof c (del l hP) F) (fun b _ h => hm b h) fun b hb hmb => by
    rcases hmb with h1 | ⟨l', x, h1, h2⟩
    · exact H.apart h1 hl hb
    · exact H.dj l l' _ _ b (lk_del h1).1 hl (lk_del h1).2 hb h2
   rw [share] at h2
   generalize shares cs = cs' at h2 ⊢
   cases h2 with
   | emp => omega
   | sl _ _ _ _ _ vs _ _ hcell hT => exact .sptr g 0 j cs' vs hcell hT
 · exact H1.sl s u r hs'
theorem cB {dd : Prop} {f : Nat} {xs : Array Operand} {ats : Array TypeId} {ps : List PV} {R : PV → Prop} (ho : o.op = .call { callee := .value (.func f), args := xs, argTypes := ats }) (hc : ∀ args w, (callFunc f args).run P w = .ok (.enter f args) w) (hA : AFd dd P f ps R) (hx : RdsL (⟨sL, hP⟩ : St) xs.toList ps) (hR : ∀ p, R p → nosh p = true := by rintro p rfl; exact rfl) (hdd : c.dr → dd := by first | exact id | exact fun h => h.elim | exact fun _ => trivial) : CallR P c (⟨sL, hP⟩ : St) o R := callB ho hc hx hA hR hdd
theorem aW_call {i d : Nat} {p : PV} (ho : ops[i]? = some o) (hC : CallR P c (⟨sL, hP⟩ : St) o (· = p)) (k : ∀ v, vOf p v → aD P c ops Q Z K fuel (listed.setIfInBounds i true) ⟨put d (v, p) sL, hP⟩) (hsh : shD p = true := by exact rfl) (hw : wants ops sL o = some true := by exact rfl) (hd : o.dst = some d := by exact rfl) (hn : d < c.nt := by exact Nat.le_of_ble_eq_true rfl) : aW P c ops Q Z K fuel listed (⟨sL, hP⟩ : St) i := fun a w F H C hC' => by
 refine wpOp_of_list (Q' := fun _ a' w' => (Z i = true ∨ C w') ∧ wpAnyS P .any ops Q C Z fuel (listed.setIfInBounds i true) a' w') ho (fun a' w' hq => hq) ?_
 have h1 := wanted_of H.rd hw
 unfold wpList
 rw [h1, if_pos rfl]
 refine .inl ?_
 obtain ⟨f, args, hr, hcall⟩ := hC a w F H
 unfold Oper.wp
 rw [hr, Oper.upon_enter]
 refine hcall.mono fun e w' ⟨v, q, Fr, e1, e2, e3, e4, e5, e6⟩ => ?_
 subst e1
 rw [show q = p from e2] at e4
 have hS := e4.shD hsh
 have H2 : HoldsF c ⟨put d (v, p) sL, hP⟩ F (a.put (some d) v) w' := put_up H e3 hn (hS.anti fun b _ h => .inl h)
 simp only [Oper.upon, hd]
 have hch : Chg (nK K hP F) w w' := e3.chg
 exact ⟨.inr (hC' w' hch), k v hS.vOf _ w' F H2 C fun W hW => hC' W (hch.tr hW fun b hb => .inl hb)⟩
theorem cD {p : PV} (d : Nat) (hC : CallR P c (⟨sL, hP⟩ : St) o (· = p)) (k : ∀ v, vOf p v → aL P c ops Q rest ⟨put d (v, p) sL, hP⟩) (hsh : shD p = true := by exact rfl) (hw : wants ops sL o = some true := by exact rfl) (hd : o.dst = some d := by exact rfl) (hn : d < c.nt := by exact Nat.le_of_ble_eq_true rfl) : aL P c ops Q (o :: rest) (⟨sL, hP⟩ : St) :=
 call_run hw hC fun a w F w' v p' Fr H hR hx hT hlo hdw => by
  rw [show p' = p from hR] at hT
  have hS := hT.shD hsh
  rw [hd]
  exact k v hS.vOf _ _ ⟨F, put_up H hx hn (hS.anti fun b _ h => .inl h)⟩
theorem cP {p1 p2 : PV} (d : Nat) (hC : CallR P c (⟨sL, hP⟩ : St) o (· = .tup [p1, p2])) (k : ∀ v1 v2, vOf p1 v1 → vOf p2 v2 → aL P c ops Q rest ⟨put d (.tuple [v1, v2].toArray, .tup [p1, p2]) sL, hP⟩) (hsh : shD (.tup [p1, p2]) = true := by exact rfl) (hw : wants ops sL o = some true := by exact rfl) (hd : o.dst = some d := by exact rfl) (hn : d < c.nt := by exact Nat.le_of_ble_eq_true rfl) : aL P c ops Q (o :: rest) (⟨sL, hP⟩ : St) :=
 call_run hw hC fun a w F w' v p' Fr H hR hx hT hlo hdw => by
  rw [show p' = .tup [p1, p2] from hR] at hT
  have hS := hT.shD hsh
  rw [hd]
  have hS' : Shr (mof c hP F) w' v (.tup [p1, p2]) := hS.anti fun b _ h => .inl h
  cases hS with
  | tup vs ps hl h =>
    match vs, hl, h, hS' with
    | [v1, v2], _, h, hS' => exact k v1 v2 (h 0 v1 p1 rfl rfl).vOf (h 1 v2 p2 rfl rfl).vOf _ _ ⟨F, put_up H hx hn hS'⟩
theorem aD_three (i j k : Nat) (hr : Region.ready .any ops listed = [i, j, k]) (h : aW P c ops Q Z K fuel listed (⟨sL, hP⟩ : St) i) (h' : aW P c ops Q Z K fuel listed (⟨sL, hP⟩ : St) j) (h'' : aW P c ops Q Z K fuel listed (⟨sL, hP⟩ : St) k) : aD P c ops Q Z K (fuel + 1) listed (⟨sL, hP⟩ : St) := fun a w F H C hC =>
 ⟨(fun hn => by rw [hr] at hn; cases hn), fun m hm => by
   rw [hr] at hm
   rcases (by simpa using hm : m = i ∨ m = j ∨ m = k) with rfl | rfl | rfl
   · exact h a w F H C hC
   · exact h' a w F H C hC
   · exact h'' a w F H C hC⟩
theorem aN_join {ι : Type} {S : ι → St} (i : ι) (hs : Sub (S i).slots sL) (hh : Sub (S i).heap hP) : aN c (Exit.then (fun a w => ∃ i, Holds c (S i) a w) Q) (⟨sL, hP⟩ : St) := aN_cut i hs hh
end
theorem nbeq (a b : Nat) : Nat.beq a b = (a == b) := by
 cases h : Nat.beq a b
 · exact (beq_eq_false_iff_ne.2 (fun e => by rw [e] at h; simp at h)).symm
 · exact (beq_iff_eq.2 (Nat.eq_of_beq_eq_true h)).symm
theorem nrm {A B : Prop} (h : B) (e : B → A := by intro h; (try simp only [minusK, onlyK, put, del, nbeq, List.elem, List.cons_append, List.nil_append, Nat.reduceBEq, cond_true, cond_false]); exact h) : A := e h
section
variable {P : Program} {c : Ctx} {sL hP : List (Nat × Ent)}
theorem cell_run {F : Nat → BS} {a : Act} {w : World} (H : HoldsF c (⟨sL, hP⟩ : St) F a w) {t ty k l e k' n : Nat} {h : Value} {q : PV} {cs : List PV} (hT : AggT P ty k = true) (ht : lk sL t = some (padd (sbase h) 0, q)) (hl : lk hP l = some (h, .own e k' n cs)) (hp : k ≤ cs.length) (hk : 0 < k) (hsh : (cs.take k).all isSh = true) :
 ∃ V A, (asAddr (a.tmps.getD t undef)).run P w = .ok A w ∧ (loadVar ty A).run P w = .ok V w ∧ Shr (mof c hP F) w V (.agg (cs.take k)) := by
 have hv := (H.sl t _ _ ht).1
 obtain ⟨xs, Fs, hrow, hlen, hTr, hd, hb, hF'⟩ := (H.tr l _ _ hl).row
 rcases row_form hrow with ⟨_, _, rfl⟩ | ⟨g, cap, rfl, h1, h2, h3⟩
 · simp at hlen; rw [hlen] at hp; simp at hp; omega
 refine ⟨.agg (xs.take k).toArray, ⟨g, 0, none⟩, ?_, ?_, .agg _ _ (by simp; omega) (fun i u p hu hp' => ?_)⟩
 · simp only [sbase, padd, Nat.zero_add] at hv
   simp [Array.getD_eq_getD_getElem?, hv, asAddr]
 · have hcl : ∀ i u, (xs.take k)[i]? = some u → w.cell? ((⟨g, 0, none⟩ : Addr).add i) = some u := fun i u hu => by
    have hi : i < k := by have := lt_of_get hu; simp at this; omega
    rw [List.getElem?_take_of_lt hi] at hu
    rw [add_none, Nat.zero_add]
    exact row_cell hrow hu
   have := run_loadCells_list (P := P) (w := w) ⟨g, 0, none⟩ _ hcl
   rw [show (xs.take k).length = k by simp; omega] at this
   simp [loadVar, AggT.run hT, AggT.size hT, this]
 · have hi : i < k := by have := lt_of_get hu; simp at this; omega
   have hps := List.all_eq_true.1 hsh p (List.mem_of_getElem? hp')
   rw [List.getElem?_take_of_lt hi] at hp' hu
   exact (hTr _ u p hu hp').sh hps
theorem ret_cell {fn : Func} {R : PV → Prop} {t ty k e k' n : Nat} {h : Value} {q : PV} {cs : List PV} (l : Nat) (hT : AggT P ty k = true) (hr : fn.results = #[.cell t ty]) (ht : lk sL t = some (padd (sbase h) 0, q)) (hl : lk hP l = some (h, .own e k' n cs)) (hp : k ≤ cs.length) (hk : 0 < k) (hsh : (cs.take k).all isSh = true) (hR : R (.agg (cs.take k))) (hN : ∀ b, ¬ c.N0 b := by intro _ h; exact h) : aR c (bodyPost P fn (RetAF c R)) (⟨sL, hP⟩ : St) := fun a w ⟨F, H⟩ => by
 obtain ⟨V, A, h0, h1, h2⟩ := cell_run H hT ht hl hp hk hsh
 refine ⟨H.df, V, ?_, V, _, fun _ => False, rfl, hR, H.ext.ext (fun b _ => hN b), .shr (h2.anti fun b _ hb => ?_) (fun _ h => h), fun _ h => h.elim, H.dw⟩
 · simp only [results, hr]
   simp at h0
   simp [h0, h1]
 · rcases hb with hb | hb
   · exact .inl hb
   · exact hb.elim
theorem ret_cs {fn : Func} {R : PV → Prop} {t ty s k e k' n : Nat} {h u : Value} {q p : PV} {cs : List PV} (l : Nat) (hT : AggT P ty k = true) (hr : fn.results = #[.cell t ty, .tmp s]) (ht : lk sL t = some (padd (sbase h) 0, q)) (hl : lk hP l = some (h, .own e k' n cs)) (hs : lk sL s = some (u, p)) (hp : k ≤ cs.length) (hk : 0 < k) (hsh : (cs.take k).all isSh = true) (hR : R (.tup [.agg (cs.take k), p])) (hN : ∀ b, ¬ c.N0 b := by intro _ h; exact h) : aR c (bodyPost P fn (RetAF c R)) (⟨sL, hP⟩ : St) := fun a w ⟨F, H⟩ => by
 obtain ⟨V, A, h0, h1, h2⟩ := cell_run H hT ht hl hp hk hsh
 obtain ⟨h3, h4⟩ := H.sl s _ _ hs
 have hM : ∀ b, b < w.heap.size → (c.M0 b ∨ False) → mof c hP F b := fun b _ hb => by
  rcases hb with hb | hb
  · exact .inl hb
  · exact hb.elim
 refine ⟨H.df, .tuple #[V, u], ?_, .tuple #[V, u], _, fun _ => False, rfl, hR, H.ext.ext (fun b _ => hN b), .shr (.tup [V, u] _ rfl fun i v q' hv hq' => ?_) (fun _ h => h), fun _ h => h.elim, H.dw⟩
 · simp only [results, hr]
   simp at h0
   simp [h0, h1, Array.getD_eq_getD_getElem?, h3]
 · match i with
   | 0 => simp at hv hq'; subst hv hq'; exact h2.anti hM
   | 1 => simp at hv hq'; subst hv hq'; exact h4.anti hM
   | i + 2 => simp at hv
end
end Go.En
namespace Go.Proofs.YtgigclnaicbiaaaGreatDoor
open Go.RowKit Go.Cb Go.En
set_option linter.all false
set_option maxRecDepth 100000
theorem all_stop {α : Type} {p : α → Bool} {l : List α} {k : Nat} {x : α} (hx : l[k]? = some x) (h : p x = false) : l.all p = false := List.all_eq_false.2 ⟨x, List.mem_of_getElem? hx, by rw [h]; simp⟩
theorem all_end {α : Type} {p : α → Bool} {l : List α} (h : ∀ (j : Nat) x, l[j]? = some x → p x = true) : l.all p = true := List.all_eq_true.2 fun x hx => by
 obtain ⟨j, hj⟩ := List.getElem?_of_mem hx
 exact h j x hj
theorem tNa3_LbB : NoAgg Tryz.prog 3 = true := by kernel_rfl
theorem tSl22_LbB : SlT Tryz.prog 22 3 1 = true := by kernel_rfl
structure Cnt where
 name : ByteArray
 n : Int
structure Flw where
 src : ByteArray
 dst : ByteArray
 n : Int
structure Dfg where
 acts : List Cnt
 starts : List Cnt
 ends : List Cnt
 follows : List Flw
def pInts (l : List Int) : PV := .sl l.length (l.map pInt)
def pIntss (l : List (List Int)) : PV := .sl l.length (l.map pInts)
theorem indexFuncInt_e (f : Nat) (caps : List PV) (p : Int → Bool) (l : List (Int)) (hc : ∀ args w, (callFunc f args).run Tryz.prog w = .ok (.enter f args) w) (hf : ∀ s ∈ l, AF Tryz.prog f (pInt s :: caps) (· = pBool (p s))) : AF Tryz.prog 111 [pInts l, .fn f caps] (· = pInt (idx p l)) := by
 refine AF.of_body 19 Tryz.func111 rfl Tryz.ntmps111 (Nat.le_of_ble_eq_true rfl) ?_
 intro w0 M0 vs hl hv
 obtain ⟨v0, v1, rfl⟩ := len2 hl
 clear hl hv
 refine aC_slen 0 rfl fun hlen => ?_
 refine nav ?_
 (refine aC_region ?_ <;> refine xL 4 q_assign ?_ <;> refine aL_end (nav ?_) <;> try dsimp only)
 (refine aC_region ?_ <;> refine xL 6 q_move ?_ <;> refine xL 7 (q_len tSl22_LbB) ?_ <;> refine xL 8 q_move ?_ <;> refine aL_end (nav ?_) <;> try dsimp only)
 refine aC_loop (ι := { k : Nat // k ≤ l.length ∧ ∀ i y, i < k → l[i]? = some y → p y = false }) (fun k => ⟨[(0, _, _), (1, _, _), (7, _, _), (8, .int .i64 k.1, pInt k.1)], []⟩) (fun k => l.length - k.1) ⟨0, by omega, by omega⟩ (fun a w H => H.weaken ⟨rfl, rfl, rfl, rfl, trivial⟩ trivial) ?_
 rintro ⟨k, hk, hp⟩
 dsimp only
 refine nav ?_
 (refine aC_region ?_ <;> refine xL 9 q_lss ?_ <;> refine aL_end (nav ?_) <;> try dsimp only)
 (first | refine cCd ?_ ?_ | refine cC ?_ ?_) <;> intro hb9
 · first
   | exact Bool.noConfusion hb9
   | (
    obtain ⟨x, hx⟩ := get_some (show k < l.length by omega)
    have e1 := map_at (f := pInt) hx
    refine nav ?_
    (refine aC_region ?_ <;> refine xL 10 q_move ?_ <;> refine xL 5 q_assign ?_ <;> refine aL_end (nav ?_) <;> try dsimp only)
    (refine aC_region ?_ <;> refine xL 11 q_move ?_ <;> refine xL 12 q_move ?_ <;> refine xL 13 q_move ?_ <;> refine xL 14 (q_idxN tSl22_LbB) ?_ <;> (refine yL 15 (q_ld tNa3_LbB) fun v15 hv15 => ?_; cases hv15) <;> (refine cS 16 (callF (f := f) (ps := caps) rfl ⟨_, rfl⟩ hc rfl (hf x (List.mem_of_getElem? hx))) fun v16 hv16 => ?_; cases hv16) <;> refine aL_end (nav ?_) <;> try dsimp only)
    (first | refine cCd ?_ ?_ | refine cC ?_ ?_) <;> intro hb16
    · first
      | exact Bool.noConfusion hb16
      | (
       refine nav ?_
       (refine aC_region ?_ <;> refine xL 17 q_move ?_ <;> refine xL 4 q_assign ?_ <;> refine aL_end (nav ?_) <;> try dsimp only)
       refine ret_shr (Tryz.results111) rfl ?_
       rw [idx_here hp hx hb16])
    · first
      | exact Bool.noConfusion hb16
      | (
       refine nav ?_
       (refine aC_region ?_ <;> refine xL 18 q_add ?_ <;> refine xL 8 q_move ?_ <;> refine aL_end (nav ?_) <;> try dsimp only)
       refine aN_again (
        ⟨k + 1, by omega, fun i y hi hy => by
         by_cases e : i = k
         · subst e; rw [hx] at hy; cases hy; exact hb16
         · exact hp i y (by omega) hy⟩
        ) (by dsimp only; omega) ⟨rfl, rfl, rfl, rfl, trivial⟩ trivial))
 · first
   | exact Bool.noConfusion hb9
   | (
    refine nav ?_
    (refine aC_region ?_ <;> refine xL 4 q_assign ?_ <;> refine aL_end (nav ?_) <;> try dsimp only)
    refine ret_shr (Tryz.results111) rfl ?_
    rw [idx_none fun i y hi hy => hp i y (by omega) hy])
theorem containsFuncInt_e (f : Nat) (caps : List PV) (p : Int → Bool) (l : List (Int)) (hc : ∀ args w, (callFunc f args).run Tryz.prog w = .ok (.enter f args) w) (hf : ∀ s ∈ l, AF Tryz.prog f (pInt s :: caps) (· = pBool (p s))) : AF Tryz.prog 76 [pInts l, .fn f caps] (· = pBool (l.any p)) := by
 refine AF.of_body 9 Tryz.func76 rfl Tryz.ntmps76 (Nat.le_of_ble_eq_true rfl) ?_
 intro w0 M0 vs hl hv
 obtain ⟨v0, v1, rfl⟩ := len2 hl
 clear hl hv
 refine nav ?_
 (refine aC_region ?_ <;> refine xL 4 q_assign ?_ <;> refine aL_end (nav ?_) <;> try dsimp only)
 (refine aC_region ?_ <;> refine xL 5 q_move ?_ <;> refine xL 6 q_move ?_ <;> (refine cS 7 (cA Tryz.call111 (indexFuncInt_e f caps p l hc hf)) fun v7 hv7 => ?_; cases hv7) <;> refine xL 8 q_geq ?_ <;> refine xL 4 q_assign ?_ <;> refine aL_end (nav ?_) <;> try dsimp only)
 refine ret_shr (Tryz.results76) rfl ?_
 rw [idx_any]
theorem flat_one {α β : Type} (f : α → β) (l : List α) : l.map f = l.flatMap fun x => [f x] := by
 induction l with
 | nil => rfl
 | cons x l ih => rw [List.map_cons, ih]; rfl
def firstNZ : List Int → Int
 | [] => 0
 | x :: l => if x = 0 then firstNZ l else x
end Go.Proofs.YtgigclnaicbiaaaGreatDoor
namespace Go.En
open Go.RowKit Go.Cb Go.Proofs Go.Sort
set_option linter.all false
def SortC (P : Program) (fs g k : Nat) : Prop := ∀ {α : Type} [Inhabited α] (enc : α → List Value), (∀ x, (enc x).length = k) → (∀ x, ∀ v ∈ enc x, v.oneCell' = true) → ∀ (cf : α → α → Int), SWO (ltOf cf) → ∀ (blk cap : Nat) (d : Array α) (w : World),
 CmpLays P g #[] enc k cf blk 0 d.size w → HoldsK enc k w blk 0 d → blk < w.heap.size → d.size < 4611686018427387904 →
 Calls P fs #[.slice (some ⟨blk, 0, none⟩) d.size cap, .func (.func g) #[] #[]] w fun e w' => e = .returned (.tuple #[]) ∧ ∃ d' n os, PermIn 0 d.size d d' ∧ SortedIn (ltOf cf) 0 d.size d' ∧ w' = sortWorldK enc k w blk 0 n d' os
theorem sw_chg {α : Type} [Inhabited α] (enc : α → List Value) (k : Nat) (w : World) (blk m : Nat) (d : Array α) (os : Array Obj) : Chg (fun b => b = blk) w (sortWorldK enc k w blk 0 m d os) := by
 refine ⟨rfl, rfl, rfl, ?_, fun i hi hne => ?_⟩
 · simp [sortWorldK, grow, putRowK, putRow, mapBlock, ahead]
 · have : (sortWorldK enc k w blk 0 m d os).heap = (w.heap.modify blk (onCells (putCells id 0 (flatK enc k d)))) ++ os := rfl
   rw [this, Array.getElem?_append_left (by simpa using hi), Array.getElem?_modify, if_neg (fun e => hne e.symm)]
theorem sw_blk {α : Type} [Inhabited α] (enc : α → List Value) (k : Nat) (w : World) (blk m : Nat) (d : Array α) (os : Array Obj) {cur : Array Value} {e : TypeId} (h : w.heap[blk]? = some (.cells cur e (0, 0))) :
 (sortWorldK enc k w blk 0 m d os).heap[blk]? = some (.cells (putCells id 0 (flatK enc k d) cur) e (0, 0)) := by
 have hlt := blk_lt h
 have : (sortWorldK enc k w blk 0 m d os).heap = (w.heap.modify blk (onCells (putCells id 0 (flatK enc k d)))) ++ os := rfl
 rw [this, Array.getElem?_append_left (by simpa using hlt), Array.getElem?_modify, if_pos rfl, h]
 rfl
theorem put_take (f cur : Array Value) (h : f.size ≤ cur.size) : (putCells id 0 f cur).toList.take f.size = f.toList := by
 apply List.ext_getElem?
 intro j
 by_cases hj : j < f.size
 · rw [List.getElem?_take_of_lt hj]
   have hjc : j < cur.size := by omega
   simp [putCells, hj, hjc]
 · rw [List.getElem?_eq_none (by simp; omega), List.getElem?_eq_none (by simp; omega)]
section
variable {P : Program} {c : Ctx} {ops : Array Oper} {Q : Exit → Act → World → Prop} {rest : List Oper} {sL hP : List (Nat × Ent)} {o : Oper}
theorem aL_sort {β : Type} {fs g k e d l : Nat} {f : β → List PV} {cmp : β → β → Int} {rows : List β} {h : Value} {q q' : PV} {x y : Operand} {ats : Array TypeId} (hS : SortC P fs g k) (hf : ∀ x, (f x).length = k) (hk : 0 < k) (hsh : ∀ x, (f x).all (fun p => isSh p && one p) = true)
 (hirr : ∀ a, ¬ cmp a a < 0) (htr : ∀ a b c, cmp a b < 0 → cmp b c < 0 → cmp a c < 0) (hnt : ∀ a b c, ¬ cmp a b < 0 → ¬ cmp b c < 0 → ¬ cmp a c < 0)
 (hcmp : ∀ (x y : β) (M : BS) (W : World) (u v : Value), x ∈ rows → y ∈ rows → Shr M W u (.agg (f x)) → Shr M W v (.agg (f y)) → Calls P g #[u, v] W fun e w' => e = .returned (.int .i64 (cmp x y)) ∧ ∃ q os', w' = grow (W.drewN q) os')
 (hn : 0 < rows.length) (hn2 : rows.length < 4611686018427387904)
 (hw : wants ops sL o = some true) (hd : o.dst = some d) (hdn : d < c.nt) (ho : o.op = .call { callee := .value (.func fs), args := #[x, y], argTypes := ats }) (hc : ∀ args w, (callFunc fs args).run P w = .ok (.enter fs args) w) (hx : ev sL x = some (h, q)) (hy : ev sL y = some (.func (.func g) #[] #[], q')) (hl : lk hP l = some (h, .own e k rows.length (rows.flatMap f)))
 (kk : ∀ rows' : List β, rows'.Perm rows → (∀ (i j : Nat) (a b : β), i < j → rows'[i]? = some a → rows'[j]? = some b → ¬ cmp b a < 0) → aL P c ops Q rest ⟨put d (.tuple #[], .val (.tuple #[])) sL, put l (h, .own e k rows.length (rows'.flatMap f)) hP⟩) : aL P c ops Q (o :: rest) (⟨sL, hP⟩ : St) :=
 aL_run hw fun a w F H => by
  have hxv := (H.rd.ev hx).1
  have hyv := (H.rd.ev hy).1
  have hTr := H.tr l _ _ hl
  obtain ⟨xs, Fs, hrow, hlen, hT, hdj, hb, hF⟩ := hTr.row
  obtain ⟨blk, cap, hh, hc1, hc2, hc3⟩ := own_hdr hTr hn
  have hfl := flat_len hf rows
  have hblkF : F l blk := (hF blk).2 (.inl (by rw [hh]; rfl))
  have hblkM : mof c hP F blk := .inr ⟨l, _, hl, hblkF⟩
  haveI : Inhabited (Fin rows.length) := ⟨⟨0, hn⟩⟩
  let enc : Fin rows.length → List Value := fun i => (xs.drop (i.1 * k)).take k
  have hxl : xs.length = rows.length * k := by omega
  have henc : ∀ i : Fin rows.length, (enc i).length = k := fun i => by
   have h1 : (i.1 + 1) * k ≤ rows.length * k := Nat.mul_le_mul_right k i.2
   rw [Nat.add_mul, Nat.one_mul] at h1
   simp [enc]; omega
  have hget : ∀ (i : Fin rows.length) (j : Nat), j < k → (enc i)[j]? = xs[i.1 * k + j]? := fun i j hj => by
   simp only [enc]
   rw [List.getElem?_take_of_lt hj, List.getElem?_drop]
  have hrd : ∀ (i : Fin rows.length) (j : Nat) (v : Value) (p : PV), (enc i)[j]? = some v → (f rows[i.1])[j]? = some p → Shr (mof c hP F) w v p ∧ isSh p = true ∧ one p = true := fun i j v p hv hp => by
   have hj : j < k := by rw [← hf]; exact lt_of_get hp
   rw [hget i j hj] at hv
   have hp2 : (rows.flatMap f)[i.1 * k + j]? = some p := by rw [flat_at hf (List.getElem?_eq_getElem i.2) hj]; exact hp
   have := List.all_eq_true.1 (hsh rows[i.1]) p (List.mem_of_getElem? hp)
   rw [Bool.and_eq_true] at this
   exact ⟨(hT _ v p hv hp2).sh this.1, this.1, this.2⟩
  have hone : ∀ (i : Fin rows.length), ∀ v ∈ enc i, v.oneCell' = true := fun i v hv => by
   obtain ⟨j, hj, rfl⟩ := List.getElem_of_mem hv
   have hjk : j < k := by rw [← henc i]; exact hj
   obtain ⟨p, hp⟩ := get_of_lt (show j < (f rows[i.1]).length by rw [hf]; exact hjk)
   obtain ⟨h1, _, h3⟩ := hrd i j _ p (List.getElem?_eq_getElem hj) hp
   exact h1.one h3
  let cf : Fin rows.length → Fin rows.length → Int := fun i j => cmp rows[i.1] rows[j.1]
  have hO : SWO (ltOf cf) := ⟨fun i => decide_eq_false (hirr _), fun i j m h1 h2 => decide_eq_true (htr _ _ _ (of_decide_eq_true h1) (of_decide_eq_true h2)), fun i j m h1 h2 => decide_eq_false (hnt _ _ _ (of_decide_eq_false h1) (of_decide_eq_false h2))⟩
  let ds : Array (Fin rows.length) := Array.ofFn id
  have hds : ds.size = rows.length := by simp [ds]
  have hdg : ∀ j (hj : j < rows.length), ds[j]! = ⟨j, hj⟩ := fun j hj => by simp [ds, hj]
  have hagg : ∀ (i : Fin rows.length) (W : World), Chg (fun b => b = blk) w W → Shr (mof c hP F) W (.agg (enc i).toArray) (.agg (f rows[i.1])) := fun i W hW => by
   refine .agg _ _ (by rw [henc, hf]) fun j v p hv hp => ?_
   exact (hrd i j v p hv hp).1.to hW (fun b _ hb => by rw [hb]; exact hblkM) (fun _ _ h => h)
  have hcl : CmpLays P g #[] enc k cf blk 0 ds.size w := fun m os dk _ i j => by
   have hW := sw_chg enc k w blk m dk os
   exact hcmp rows[i.1] rows[j.1] _ _ _ _ (List.getElem_mem _) (List.getElem_mem _) (hagg i _ hW) (hagg j _ hW)
  have hHold : HoldsK enc k w blk 0 ds := fun t ht => by
   rw [size_flatK, hds] at ht
   have hdiv : t / k < rows.length := by rw [Nat.div_lt_iff_lt_mul hk]; exact ht
   have hmod : t % k < k := Nat.mod_lt _ hk
   have he : t / k * k + t % k = t := by rw [Nat.mul_comm]; exact Nat.div_add_mod _ _
   rw [get_flatK _ _ _ _ (by rw [hds]; exact ht), hdg _ hdiv]
   have hg2 := hget ⟨t / k, hdiv⟩ (t % k) hmod
   simp only at hg2
   rw [he] at hg2
   obtain ⟨v, hv⟩ := get_of_lt (show t < xs.length by omega)
   rw [hv] at hg2
   have hrow' := hrow
   rw [hh] at hrow'
   refine ⟨?_, by rw [Nat.zero_add]; exact hrow'.frozenAt t⟩
   rw [Nat.zero_add, row_cell hrow' hv]
   have : (enc ⟨t / k, hdiv⟩)[t % k]! = v := by
    rw [getElem!_def, hg2]
   rw [id, this]
  have hcall := hS enc henc hone cf hO blk cap ds w hcl hHold hc3 (by rw [hds]; exact hn2)
  rw [hds] at hcall
  unfold Oper.wp
  have hrun : (execOp a.eval o).run P w = .ok (.enter fs #[h, .func (.func g) #[] #[]]) w := by
   have hev : a.eval (.func fs) = .func (.func fs) #[] #[] := rfl
   simp [execOp, ho, resolve, Deferred.ofValue, hev, invoke, hxv, hyv, hc]
  rw [hrun, Oper.upon_enter, hh]
  refine hcall.mono fun e' w' ⟨he', d', m, os, hperm, hsorted, hw'⟩ => ?_
  subst he'
  have hd's : d'.size = rows.length := by rw [hperm.1, hds]
  have hpl : d'.toList.Perm ds.toList := by
   have h2 := hperm.2.2
   have e1 : (ds.extract 0 rows.length).toList = ds.toList := by
    rw [Array.toList_extract]
    simp only [List.extract_eq_take_drop, List.drop_zero, Nat.sub_zero]
    exact List.take_of_length_le (by rw [Array.length_toList, hds]; exact Nat.le_refl _)
   have e2 : (d'.extract 0 rows.length).toList = d'.toList := by
    rw [Array.toList_extract]
    simp only [List.extract_eq_take_drop, List.drop_zero, Nat.sub_zero]
    exact List.take_of_length_le (by rw [Array.length_toList, hd's]; exact Nat.le_refl _)
   rw [e1, e2] at h2
   exact h2
  let rows' : List β := d'.toList.map fun i => rows[i.1]
  have hr's : rows'.length = rows.length := by simp [rows', hd's]
  have hdl : ds.toList.map (fun i : Fin rows.length => rows[i.1]) = rows := by
   apply List.ext_getElem
   · simp [ds]
   · intro j h1 h2
     simp [ds]
  have hrp : rows'.Perm rows := by
   have := hpl.map fun i : Fin rows.length => rows[i.1]
   rw [hdl] at this
   exact this
  have hat : ∀ j (hj : j < rows.length), ∃ i : Fin rows.length, d'[j]! = i ∧ rows'[j]? = some rows[i.1] := fun j hj => by
   have hj' : j < d'.size := by omega
   refine ⟨d'[j], by simp [hj'], ?_⟩
   simp [rows', hj']
  rw [hd]
  refine kk rows' hrp (fun i j x y hij hx' hy' => ?_) _ _ ⟨fun l' => if l' = l then (fun b => b = blk) else F l', ?_⟩
  · have hjl : j < rows.length := by have := lt_of_get hy'; omega
    obtain ⟨i1, h1, h2⟩ := hat i (by omega)
    obtain ⟨j1, h3, h4⟩ := hat j hjl
    rw [h2] at hx'; cases hx'
    rw [h4] at hy'; cases hy'
    have h5 := hsorted i j (Nat.zero_le _) hij hjl
    rw [h1, h3] at h5
    simpa [ltOf, cf] using h5
  · have hch0 := sw_chg enc k w blk m d' os
    rw [← hw'] at hch0
    refine H.change (fun l' => l' = l) hdn (hch0.wid fun b hb' => .inl ⟨l, _, rfl, hl, by rw [hb']; exact hblkF⟩) (fun l' z hne hz => ?_) (fun l' z b hT' hz hb' => ?_) (fun hmm l' u p hT' hz => ?_) (fun l1 l2 _ _ _ h1 h2 hne => absurd (h1.trans h2.symm) hne) (fun _ => .val _) (fun _ => by rw [hw']; exact Nat.le_add_right _ _)
    · rcases lk_put hz with ⟨e1, _⟩ | ⟨_, e1⟩
      · exact absurd e1.symm hne
      · exact ⟨e1, by simp [hne]⟩
    · subst hT'
      simp only [if_true] at hb'
      exact .inl ⟨l', _, rfl, hl, by rw [hb']; exact hblkF⟩
    · subst hT'
      rw [lk_put_self] at hz
      cases hz
      simp only [if_true]
      rcases hrow.2 with ⟨e1, _⟩ | ⟨g', cap', cur, e1, _, e3, e4, e5, e6, e7⟩
      · rw [hh] at e1; cases e1
      · rw [hh] at e1
        cases e1
        have hfs : (flatK enc k d').size = rows.length * k := by rw [size_flatK, hd's]
        refine .own (flatK enc k d').toList (fun _ _ => False) ⟨by rw [Array.length_toList, hfs], .inr ⟨blk, cap, putCells id 0 (flatK enc k d') cur, hh, Nat.zero_le _, by rw [hw']; exact sw_blk enc k w blk m d' os e3, e4, e5, by simp [putCells]; exact e6, ?_⟩⟩ ((flat_len hf rows').trans ((congrArg (· * k) hr's).trans ((Array.length_toList (xs := flatK enc k d')).trans hfs).symm)) (fun t v p hv hp => ?_) (fun _ _ _ _ _ _ h => h.elim) (fun _ _ _ h => h.elim) (fun b => by rw [hh]; simp [Value.ownBlock, eq_comm])
        · rw [← hfs]
          exact put_take _ _ (by rw [hfs, e6]; exact Nat.mul_le_mul_right k e4)
        · have ht : t < rows.length * k := by have := lt_of_get hv; rw [Array.length_toList, hfs] at this; exact this
          have hdiv : t / k < rows.length := by rw [Nat.div_lt_iff_lt_mul hk]; exact ht
          have hmod : t % k < k := Nat.mod_lt _ hk
          have he : t / k * k + t % k = t := by rw [Nat.mul_comm]; exact Nat.div_add_mod _ _
          obtain ⟨i1, h1, h2⟩ := hat (t / k) hdiv
          have hp2 := flat_at hf h2 hmod
          rw [he, hp] at hp2
          have hv2 : v = (enc i1)[t % k]! := by
           have h3 := get_flatK enc k d' t (by rw [hd's]; exact ht)
           rw [h1] at h3
           rw [← h3, getElem!_def, ← Array.getElem?_toList, hv]
          have hlt : t % k < (enc i1).length := by rw [henc]; exact hmod
          have hv3 : (enc i1)[t % k]? = some v := by
           rw [hv2, getElem!_def, List.getElem?_eq_getElem hlt]
          exact .shr ((hrd i1 (t % k) v p hv3 hp2.symm).1.to (hch0.wid (N := fun b => b = blk) fun b hb' => .inl hb') (fun b _ hb' => by rw [hb']; exact hblkM) hmm) (fun _ h => h)
end
open Go.RowKit Go.Cb
section
variable {P : Program} {c : Ctx} {ops : Array Oper} {Q : Exit → Act → World → Prop} {rest : List Oper} {st : St} {sL hP : List (Nat × Ent)} {o : Oper}
theorem slc_own {w : World} {e k n m : Nat} {h : Value} {xs : List Value} (hrow : w.ownsRow 0 e k h n xs) (hm : m ≤ n) : w.ownsRow 0 e k (slc h 0 m k) m (xs.take (m * k)) ∧ (slc h 0 m k).ownBlock = h.ownBlock := by
 rcases hrow.2 with ⟨rfl, rfl⟩ | ⟨g, cap, cur, rfl, hg, hh, h1, h2, h3, h4⟩
 · obtain rfl : m = 0 := by omega
   refine ⟨⟨by simp, .inl ⟨by simp [slc], rfl⟩⟩, by simp [slc]⟩
 · have hs : slc (.slice (some ⟨g, 0, none⟩) n cap) 0 m k = .slice (some ⟨g, 0, none⟩) m cap := by
    simp only [slc, Nat.zero_mul, Option.map_some, add_none, Nat.add_zero, Nat.sub_zero, ite_self]
   rw [hs]
   refine ⟨⟨?_, .inr ⟨g, cap, cur, rfl, hg, hh, by omega, h2, h3, ?_⟩⟩, rfl⟩
   · rw [List.length_take, hrow.1]; exact Nat.min_eq_left (Nat.mul_le_mul_right k hm)
   · rw [← h4, List.take_take, Nat.min_eq_left (Nat.mul_le_mul_right k hm)]
theorem trim {l e k n : Nat} {h : Value} {cs : List PV} (m : Nat) (hl : lk hP l = some (h, .own e k n cs)) (hm : m ≤ n) : EntE (⟨sL, hP⟩ : St) (fun _ : Unit => ⟨sL, put l (slc h 0 m k, .own e k m (cs.take (m * k))) hP⟩) := fun c a w ⟨F, H⟩ => by
 have hTr := H.tr l _ _ hl
 obtain ⟨xs, Fs, hrow, hlen, hT, hd, hb, hF⟩ := hTr.row
 obtain ⟨hrow', hown⟩ := slc_own hrow hm
 refine ⟨(), fun x => if x = l then (fun b => h.ownBlock = some b ∨ ∃ i, i < (cs.take (m * k)).length ∧ Fs i b) else F x, ?_⟩
 have hle : (cs.take (m * k)).length ≤ cs.length := by rw [List.length_take]; exact Nat.min_le_right _ _
 refine H.retell (fun x => x = l) (fun x y hnT hx => ?_) (fun x y b hTx hx hb' => ?_) (fun hmm x u q hTx hx => ?_) (fun x1 x2 y1 y2 b h1 h2 hne' => absurd (h1.trans h2.symm) hne')
 · have n1 : x ≠ l := hnT
   rw [lk_put_ne (Ne.symm n1)] at hx
   exact ⟨hx, by simp [n1]⟩
 · subst hTx
   simp only [if_true] at hb'
   refine ⟨x, _, rfl, hl, (hF b).2 ?_⟩
   rcases hb' with h1 | ⟨i, hi, h1⟩
   · exact .inl h1
   · exact .inr ⟨i, by omega, h1⟩
 · subst hTx
   rw [lk_put_self] at hx
   cases hx
   simp only [if_true]
   refine .own _ Fs hrow' (by rw [List.length_take, List.length_take, hlen]) (fun i x p hx9 hp => ?_) (fun i j b hi hj => hd i j b (by omega) (by omega)) (fun i b hi h1 h2 => hb i b (by omega) h1 (by rw [← hown]; exact h2)) (fun b => by rw [hown])
   have hi : i < m * k := by have := lt_of_get hx9; rw [List.length_take] at this; omega
   rw [List.getElem?_take_of_lt hi] at hx9 hp
   exact (hT i x p hx9 hp).anti hmm
theorem s_apps {t e kk bytes n m : Nat} {z : Value} {x y : Operand} {h v2 : Value} {q : PV} {cs cs2 : List PV} (l d : Nat) (hT : ElT P t e kk bytes z) (k : ∀ h' : Value, h'.oneCell' = true → aL P c ops Q rest ⟨put d (h', .val h') sL, put d (h', .own e kk (n + m) (cs ++ cs2)) (del l hP)⟩)
 (hlen2 : cs2.length = m * kk := by first | assumption | exact rfl) (hok : cs2.all one = true := by first | assumption | exact rfl) (hw : wants ops sL o = some true := by exact rfl) (hd : o.dst = some d := by exact rfl) (hn : d < c.nt := by exact Nat.le_of_ble_eq_true rfl) (ho : o.op = .call { callee := .builtin .append, args := #[x, y], argTypes := #[t, t] } := by exact rfl)
 (hx : ev sL x = some (h, q) := by exact rfl) (hy : ev sL y = some (v2, .sl m cs2) := by exact rfl) (hl : lk hP l = some (h, .own e kk n cs) := by exact rfl) (hdl : lk (del l hP) d = none := by exact rfl) (hlen : n + m ≤ 9223372036854775807 := by first | omega | exact Nat.le_of_ble_eq_true rfl | (simp only [List.length_cons, List.length_nil, List.length_map, List.length_set, List.length_append, List.length_replicate, List.length_singleton, List.flatMap_cons, List.flatMap_nil]; omega)) (hb : (n + m) * bytes ≤ 140737488355328 := by first | omega | exact Nat.le_of_ble_eq_true rfl | (simp only [List.length_cons, List.length_nil, List.length_map, List.length_set, List.length_append, List.length_replicate, List.length_singleton, List.flatMap_cons, List.flatMap_nil]; omega)) (hdr : ¬ c.dr := by exact id) : aL P c ops Q (o :: rest) (⟨sL, hP⟩ : St) := fun a w ⟨F, H⟩ => by
 have h1 : h.oneCell' = true := (H.tr l _ _ hl).cellOne rfl
 rcases Nat.eq_zero_or_pos m with h0 | h0
 · subst h0
   have : cs2 = [] := List.eq_nil_of_length_eq_zero (by rw [hlen2, Nat.zero_mul])
   subst this
   refine aL_app0 l d hT hw hd hn ho hx hy hl (aL_ent (relabel d hl hdl) fun _ => ?_) a w ⟨F, H⟩
   have := k h h1
   rw [List.append_nil] at this
   exact this
 · exact aL_app_src l d hT hw hd hn ho hx hy hl (src_shr hy h0) hlen2 hdl hok hlen hb hdr k a w ⟨F, H⟩
end
def SortI (P : Program) (fs : Nat) : Prop := ∀ (blk cap : Nat) (zs : List Int) (w : World), Go.Sort.Holds (Value.int .i64) w blk 0 zs.toArray → blk < w.heap.size → zs.length < 4611686018427387904 →
 Calls P fs #[.slice (some ⟨blk, 0, none⟩) zs.length cap] w fun e w' => e = .returned (.tuple #[]) ∧ ∃ n os, w' = grow (putRow (Value.int .i64) (Go.Sort.ahead w n) blk 0 (zs.mergeSort fun x y => decide (x ≤ y)).toArray) os
section
variable {P : Program} {c : Ctx} {ops : Array Oper} {Q : Exit → Act → World → Prop} {rest : List Oper} {sL hP : List (Nat × Ent)} {o : Oper}
theorem put_takeI {α : Type} [Inhabited α] (enc : α → Value) (f : Array α) (cur : Array Value) (h : f.size ≤ cur.size) : (putCells enc 0 f cur).toList.take f.size = f.toList.map enc := by
 apply List.ext_getElem?
 intro j
 by_cases hj : j < f.size
 · rw [List.getElem?_take_of_lt hj]
   have hjc : j < cur.size := by omega
   simp [putCells, hj, hjc]
 · rw [List.getElem?_eq_none (by simp; omega), List.getElem?_eq_none (by simp; omega)]
theorem s_sortI {fs e d : Nat} {zs : List Int} {h : Value} {q : PV} {x : Operand} {ats : Array TypeId} (l : Nat) (hS : SortI P fs) (hc : ∀ args w, (callFunc fs args).run P w = .ok (.enter fs args) w)
 (kk : aL P c ops Q rest ⟨put d (.tuple #[], .val (.tuple #[])) sL, put l (h, .own e 1 zs.length ((zs.mergeSort fun x y => decide (x ≤ y)).map pInt)) hP⟩)
 (hn : 0 < zs.length) (hn2 : zs.length < 4611686018427387904 := by omega) (hw : wants ops sL o = some true := by exact rfl) (hd : o.dst = some d := by exact rfl) (hdn : d < c.nt := by exact Nat.le_of_ble_eq_true rfl) (ho : o.op = .call { callee := .value (.func fs), args := #[x], argTypes := ats } := by exact rfl) (hx : ev sL x = some (h, q) := by exact rfl) (hl : lk hP l = some (h, .own e 1 zs.length (zs.map pInt)) := by exact rfl) : aL P c ops Q (o :: rest) (⟨sL, hP⟩ : St) :=
 aL_run hw fun a w F H => by
  have hxv := (H.rd.ev hx).1
  have hTr := H.tr l _ _ hl
  obtain ⟨xs, Fs, hrow, hlen, hT, hdj, hb, hF⟩ := hTr.row
  obtain ⟨blk, cap, hh, hc1, hc2, hc3⟩ := own_hdr hTr hn
  have hblkF : F l blk := (hF blk).2 (.inl (by rw [hh]; rfl))
  have hxs : ∀ (j : Nat) (v : Value), xs[j]? = some v → ∃ z, zs[j]? = some z ∧ v = .int .i64 z := fun j v hv => by
   obtain ⟨p, hp⟩ := get_of_len hv hlen.symm
   have h1 := hp
   rw [List.getElem?_map, Option.map_eq_some_iff] at h1
   obtain ⟨z, hz, rfl⟩ := h1
   exact ⟨z, hz, ((hT j v _ hv hp).sh rfl).vOf⟩
  have hHold : Go.Sort.Holds (Value.int .i64) w blk 0 zs.toArray := fun j hj => by
   simp only [List.size_toArray] at hj
   have hrow' := hrow
   rw [hh] at hrow'
   obtain ⟨v, hv⟩ := get_of_lt (show j < xs.length by rw [← hlen, List.length_map]; exact hj)
   obtain ⟨z, hz, rfl⟩ := hxs j v hv
   refine ⟨?_, by rw [Nat.zero_add]; exact hrow'.frozenAt j⟩
   rw [Nat.zero_add, row_cell hrow' hv]
   have : zs.toArray[j]! = z := by
    have hz' := (List.getElem?_eq_some_iff.1 hz).2
    simp [hj, hz']
   rw [this]
  have hcall := hS blk cap zs w hHold hc3 hn2
  unfold Oper.wp
  have hrun : (execOp a.eval o).run P w = .ok (.enter fs #[h]) w := by
   have hev : a.eval (.func fs) = .func (.func fs) #[] #[] := rfl
   simp [execOp, ho, resolve, Deferred.ofValue, hev, invoke, hxv, hc]
  rw [hrun, Oper.upon_enter, hh]
  refine hcall.mono fun e' w' ⟨he', m, os, hw'⟩ => ?_
  subst he'
  have hsl : (zs.mergeSort fun x y => decide (x ≤ y)).length = zs.length := List.length_mergeSort _
  generalize hsd : (zs.mergeSort fun x y => decide (x ≤ y)) = sd at hsl hw' kk
  have hch0 : Chg (fun b => b = blk) w w' := by
   rw [hw']
   refine ⟨rfl, rfl, rfl, ?_, fun i hi hne => ?_⟩
   · simp [grow, putRow, mapBlock, Go.Sort.ahead]
   · have : (grow (putRow (Value.int .i64) (Go.Sort.ahead w m) blk 0 sd.toArray) os).heap = (w.heap.modify blk (onCells (putCells (Value.int .i64) 0 sd.toArray))) ++ os := rfl
     rw [this, Array.getElem?_append_left (by simpa using hi), Array.getElem?_modify, if_neg (fun e => hne e.symm)]
  rw [hd]
  refine kk _ _ ⟨fun l' => if l' = l then (fun b => b = blk) else F l', ?_⟩
  refine H.change (fun l' => l' = l) hdn (hch0.wid fun b hb' => .inl ⟨l, _, rfl, hl, by rw [hb']; exact hblkF⟩) (fun l' z hne hz => ?_) (fun l' z b hT' hz hb' => ?_) (fun hmm l' u p hT' hz => ?_) (fun l1 l2 _ _ _ h1 h2 hne => absurd (h1.trans h2.symm) hne) (fun _ => .val _) (fun _ => by rw [hw']; exact Nat.le_add_right _ _)
  · rcases lk_put hz with ⟨e1, _⟩ | ⟨_, e1⟩
    · exact absurd e1.symm hne
    · exact ⟨e1, by simp [hne]⟩
  · subst hT'
    simp only [if_true] at hb'
    exact .inl ⟨l', _, rfl, hl, by rw [hb']; exact hblkF⟩
  · subst hT'
    rw [lk_put_self] at hz
    cases hz
    simp only [if_true]
    rcases hrow.2 with ⟨e1, _⟩ | ⟨g', cap', cur, e1, _, e3, e4, e5, e6, e7⟩
    · rw [hh] at e1; cases e1
    · rw [hh] at e1
      cases e1
      have hlt := blk_lt e3
      refine .own (sd.map (Value.int .i64)) (fun _ _ => False) ⟨by rw [List.length_map, hsl, Nat.mul_one], .inr ⟨blk, cap, putCells (Value.int .i64) 0 sd.toArray cur, hh, Nat.zero_le _, ?_, e4, e5, by simp [putCells]; omega, ?_⟩⟩ (by simp) (fun t v p hv hp => ?_) (fun _ _ _ _ _ _ h => h.elim) (fun _ _ _ h => h.elim) (fun b => by rw [hh]; simp [Value.ownBlock, eq_comm])
      · rw [hw']
        have : (grow (putRow (Value.int .i64) (Go.Sort.ahead w m) blk 0 sd.toArray) os).heap = (w.heap.modify blk (onCells (putCells (Value.int .i64) 0 sd.toArray))) ++ os := rfl
        rw [this, Array.getElem?_append_left (by simpa using hlt), Array.getElem?_modify, if_pos rfl, e3]
        rfl
      · have := put_takeI (Value.int .i64) sd.toArray cur (by simp only [List.size_toArray]; rw [hsl, e6]; omega)
        simp only [List.size_toArray] at this
        rw [Nat.mul_one, ← hsl]; exact this
      · rw [List.getElem?_map, Option.map_eq_some_iff] at hv hp
        obtain ⟨z, hz, rfl⟩ := hv
        obtain ⟨z', hz', rfl⟩ := hp
        rw [hz] at hz'; cases hz'
        exact .shr (.val _) (fun _ h => h)
end
theorem ext_grow {w w' : World} (h : Ext w w') (hd : w.drawn ≤ w'.drawn) : ∃ q os', w' = Go.Sort.grow (w.drewN q) os' := by
 refine ⟨w'.drawn - w.drawn, w'.heap.extract w.heap.size w'.heap.size, ?_⟩
 have hh : w'.heap = w.heap ++ w'.heap.extract w.heap.size w'.heap.size := by
  apply Array.ext_getElem?
  intro i
  rcases Nat.lt_or_ge i w.heap.size with hi | hi
  · rw [Array.getElem?_append_left hi]; exact Below.block h i hi
  · rw [Array.getElem?_append_right hi, Array.getElem?_extract]
    have hs := h.size
    rcases Nat.lt_or_ge i w'.heap.size with hi2 | hi2
    · rw [if_pos (by simp; omega), show w.heap.size + (i - w.heap.size) = i by omega]
    · rw [Array.getElem?_eq_none hi2, if_neg (by simp; omega)]
 have h1 := h.os
 have h2 := h.tape
 have h3 := h.output
 cases w' with
 | mk heap' tape' drawn' os' output' =>
   simp only at h1 h2 h3 hh hd
   simp only [Go.Sort.grow, World.drewN]
   rw [← hh, h1, h2, h3, show w.drawn + (drawn' - w.drawn) = drawn' by omega]
theorem AFg.exact {P : Program} {g : Nat} {ps : List PV} {x : Value} (h : AFg P g ps (· = .val x)) {M : BS} {W : World} {vs : List Value} (hl : vs.length = ps.length) (hv : ∀ (i : Nat) (v : Value) (p : PV), vs[i]? = some v → ps[i]? = some p → Shr M W v p) :
 Calls P g vs.toArray W fun e w' => e = .returned x ∧ ∃ q os', w' = Go.Sort.grow (W.drewN q) os' :=
 (h (fun _ => False) W vs (M0k.true W) hl (fun i v p h1 h2 => (hv i v p h1 h2).anti fun _ _ h => h.elim)).mono fun e w' ⟨v, p, F, h1, h2, h3, h4, _, h6⟩ => by
   subst h2
   have := (h4.sh rfl).vOf
   subst this
   exact ⟨h1, ext_grow h3 (h6 trivial)⟩
section
variable {P : Program} {c : Ctx} {ops : Array Oper} {Q : Exit → Act → World → Prop} {rest : List Oper} {sL hP : List (Nat × Ent)} {o : Oper}
end
open Go.ChangeMaps (setBlock)
section
variable {P : Program} {c : Ctx} {ops : Array Oper} {Q : Exit → Act → World → Prop} {rest : List Oper} {sL hP : List (Nat × Ent)} {o : Oper}
end
def ArrT (P : Program) (t len : Nat) : Bool := match P.underlying t with
 | some (.array n e) => Nat.beq n len && (match P.info? e with | some i => Nat.beq i.size 1 | none => false)
 | _ => false
theorem ArrT.run {P : Program} {t len : Nat} (h : ArrT P t len = true) : ∃ e i, P.underlying t = some (.array len e) ∧ P.info? e = some i ∧ i.size = 1 := by
 unfold ArrT at h
 split at h
 · rename_i n e hu
   rw [Bool.and_eq_true] at h
   obtain ⟨h1, h2⟩ := h
   split at h2
   · rename_i i hi
     have e1 := Nat.eq_of_beq_eq_true h1
     subst e1
     exact ⟨e, i, hu, hi, Nat.eq_of_beq_eq_true h2⟩
   · cases h2
 · cases h
section
variable {P : Program} {st : St} {o : Oper}
theorem q_idxa {t len j e' k' n i : Nat} {x y : Operand} {h : Value} {kd : IntKind} {p q : PV} {cs : List PV} (l : Nat) (hT : ArrT P t len = true) (ho : o.op = .indexAddr t x y := by exact rfl) (hx : ev st.slots x = some (padd (sbase h) j, p) := by exact rfl) (hy : ev st.slots y = some (.int kd (i : Int), q) := by exact rfl) (hl : lk st.heap l = some (h, .own e' k' n cs) := by exact rfl) (hn : 0 < n := by first | omega | exact Nat.le_of_ble_eq_true rfl) (hi : i < len := by first | omega | exact Nat.le_of_ble_eq_true rfl) : YE P st o (· = padd (sbase h) (j + i)) (.val (padd (sbase h) (j + i))) :=
 .exact fun M F a w H => by
  have hv := (H.ev hx).1
  have hyv := (H.ev hy).1
  obtain ⟨g, cap, rfl, _⟩ := own_hdr (H.tr l _ _ hl) hn
  obtain ⟨e, inf, hu, hinf, hs1⟩ := ArrT.run hT
  refine ⟨.val _, ?_⟩
  simp only [sbase, padd] at hv ⊢
  simp [execOp, ho, hv, hyv, Instr.indexAt, asIntOf, run_underlying hu, Instr.sureAddr, sizeOf, typeInfo, hinf, hs1, hi, add_none]
theorem q_build2 {t : Nat} {x y : Operand} {v0 v1 : Value} {p0 p1 : PV} {z : Value} (hT : ArrT P t 2 = true) (hz : ZeroT P t z) (ho : o.op = .build t #[(0, x), (1, y)] := by exact rfl) (hx : ev st.slots x = some (v0, p0) := by exact rfl) (hy : ev st.slots y = some (v1, p1) := by exact rfl) (h0 : v0.oneCell' = true := by exact rfl) (h1 : v1.oneCell' = true := by exact rfl) (hzs : z.cells.size = 2 := by exact rfl) : YE P st o (· = .agg [v0, v1].toArray) (.agg [p0, p1]) :=
 .exact fun M F a w H => by
  obtain ⟨hv, hS0⟩ := H.ev hx
  obtain ⟨hyv, hS1⟩ := H.ev hy
  obtain ⟨e, inf, hu, hinf, hs1⟩ := ArrT.run hT
  have c0 := cells_one h0
  have c1 := cells_one h1
  obtain ⟨a0, a1, hza⟩ : ∃ a0 a1, z.cells = #[a0, a1] := by
   generalize z.cells = A at hzs
   obtain ⟨L⟩ := A
   match L, hzs with
   | [a0, a1], _ => exact ⟨a0, a1, rfl⟩
  refine ⟨.agg _ _ rfl fun i u r hu hr => ?_, ?_⟩
  · match i with
    | 0 => simp at hu hr; subst hu hr; exact hS0
    | 1 => simp at hu hr; subst hu hr; exact hS1
    | i + 2 => simp at hu
  · simp [execOp, ho, hv, hyv, Instr.build, run_underlying hu, ZeroT.run hz, sizeOf, typeInfo, hinf, hs1, Instr.fill, c0, c1, hza]
end
abbrev Pr := ByteArray × ByteArray
def pkey (k : Pr) : Value := .agg #[.string k.1, .string k.2]
def prOk (k : Pr) : Prop := k.1.size ≤ 140737488355328 ∧ k.2.size ≤ 140737488355328
structure PkT (P : Program) (t ks s e : Nat) (z : Value) : Prop where
 ht : P.underlying t = some (.map ks e)
 hu : P.underlying ks = some (.array 2 s)
 hs : P.underlying s = some .string
 hk : P.keyType ks = true
 hk2 : P.keyTypeAt 2 ks = true
 hti : P.tiled 2 ks = true
 hc2 : P.cellsOf ks = 2
 hc1 : P.cellsOf s = 1
 hf : ∀ a b : ByteArray, (Value.agg #[.string a, .string b]).formed P ks = true
 hsz : ∃ n, P.types.size = n + 1
 hz : ZeroT P e z
theorem PkT.law {P : Program} {t ks s e : Nat} {z : Value} (h : PkT P t ks s e z) : WideMaps.KeyLaw P ks := deep_law (m := 2) (by decide) h.hk2 h.hti (by rw [h.hu])
theorem PkT.key {P : Program} {t ks s e : Nat} {z : Value} (h : PkT P t ks s e z) {k : Pr} (hk : prOk k) : ∃ l, keyOf P ks (pkey k) = some l := by
 obtain ⟨n, hn⟩ := h.hsz
 have hl : ∀ c : ByteArray, c.size ≤ 140737488355328 → P.keyLits (n + 1) s [.string c] = some [.string c.data.toList] := fun c hc => by
  unfold Program.keyLits
  rw [h.hs]
  dsimp only
  rw [if_pos (Nat.le_trans hc (by decide))]
 unfold keyOf
 rw [h.hu]
 dsimp only
 rw [h.hk, show (pkey k).formed P ks = true from h.hf _ _, hn]
 refine ⟨.string (keyBytes [.string k.1.data.toList, .string k.2.data.toList]), ?_⟩
 rw [if_pos (show (true && true) = true from rfl)]
 unfold Program.keyLits
 rw [h.hu]
 dsimp only [pkey, Value.cells]
 rw [h.hc2, h.hc1]
 rw [if_pos (by rfl)]
 rw [show List.range 2 = [0, 1] from rfl]
 simp only [List.mapM_cons, List.mapM_nil, Nat.zero_mul, Nat.one_mul, List.drop_zero, List.drop_succ_cons, List.take_succ_cons, List.take_zero, hl _ hk.1, hl _ hk.2]
 rfl
section
variable {P : Program} {c : Ctx} {ops : Array Oper} {Q : Exit → Act → World → Prop} {rest : List Oper} {sL hP : List (Nat × Ent)} {o : Oper}
end
section
variable {P : Program} {c : Ctx} {ops : Array Oper} {Q : Exit → Act → World → Prop} {rest : List Oper} {sL hP : List (Nat × Ent)} {o : Oper}
end
end Go.En
namespace Go.Proofs.YtgigclnaicbiaaaGreatDoor
open Go.RowKit Go.Cb Go.En
set_option linter.all false
section
variable {κ : Type} [DecidableEq κ]
def iget : List (κ × Int) → κ → Int
 | [], _ => 0
 | x :: l, k => if k = x.1 then x.2 else iget l k
def iput : List (κ × Int) → κ → Int → List (κ × Int)
 | [], k, v => [(k, v)]
 | x :: l, k, v => if k = x.1 then (k, v) :: l else x :: iput l k v
def iadd (m : List (κ × Int)) (k : κ) (n : Int) : List (κ × Int) := iput m k (iget m k + n)
theorem iput_keys {m : List (κ × Int)} {k : κ} {v : Int} : ∀ x, x ∈ (iput m k v).map (·.1) ↔ x = k ∨ x ∈ m.map (·.1) := by
 induction m with
 | nil => intro x; simp [iput]
 | cons y m ih =>
   intro x
   rw [iput]
   split
   · rename_i e; subst e; simp
   · rw [List.map_cons, List.mem_cons, ih, List.map_cons, List.mem_cons]
     constructor
     · rintro (h | h | h)
       · exact .inr (.inl h)
       · exact .inl h
       · exact .inr (.inr h)
     · rintro (h | h | h)
       · exact .inr (.inl h)
       · exact .inl h
       · exact .inr (.inr h)
theorem iput_nodup {m : List (κ × Int)} {k : κ} {v : Int} (hn : (m.map (·.1)).Nodup) : ((iput m k v).map (·.1)).Nodup := by
 induction m with
 | nil => simp [iput]
 | cons y m ih =>
   rw [iput]
   rw [List.map_cons, List.nodup_cons] at hn
   split
   · rename_i e
     rw [List.map_cons, List.nodup_cons]; dsimp only; rw [e]; exact hn
   · rename_i e
     rw [List.map_cons, List.nodup_cons]
     refine ⟨fun h => ?_, ih hn.2⟩
     rcases (iput_keys _).1 h with h | h
     · exact e h.symm
     · exact hn.1 h
theorem iput_len (m : List (κ × Int)) (k : κ) (v : Int) : (iput m k v).length ≤ m.length + 1 := by
 induction m with
 | nil => simp [iput]
 | cons y m ih => rw [iput]; split <;> simp <;> omega
end
end Go.Proofs.YtgigclnaicbiaaaGreatDoor
namespace Go.En
open Go.RowKit Go.Cb
theorem AFg.exact2 {P : Program} {g : Nat} {p q : PV} {x : Value} (h : AFg P g [p, q] (· = .val x)) {M : BS} {W : World} {u v : Value} (hu : Shr M W u p) (hv : Shr M W v q) :
 Calls P g #[u, v] W fun e w' => e = .returned x ∧ ∃ q os', w' = Go.Sort.grow (W.drewN q) os' := h.exact (vs := [u, v]) rfl fun i a r h1 h2 => by
 match i with
 | 0 => simp at h1 h2; subst h1 h2; exact hu
 | 1 => simp at h1 h2; subst h1 h2; exact hv
 | i + 2 => simp at h1
end Go.En
namespace Go.Proofs.YtgigclnaicbiaaaGreatDoor
open Go.RowKit Go.Cb Go.En
set_option linter.all false
set_option maxRecDepth 100000
theorem cmpOr_g (l : List Int) : AFg Tryz.prog 112 [pInts l] (· = pInt (firstNZ l)) := by
 refine AFg.of_body 18 Tryz.func112 rfl Tryz.ntmps112 (Nat.le_of_ble_eq_true rfl) ?_
 intro w0 M0 vs hl hv
 obtain ⟨v0, rfl⟩ := len1 hl
 clear hl hv
 refine aC_slen 0 rfl fun hlen => ?_
 refine nav ?_
 (refine aC_region ?_ <;> refine xL 2 q_assign ?_ <;> refine aL_end (nav ?_) <;> try dsimp only)
 (refine aC_region ?_ <;> refine xL 3 q_assign ?_ <;> refine aL_end (nav ?_) <;> try dsimp only)
 (refine aC_region ?_ <;> refine xL 6 q_move ?_ <;> refine xL 7 (q_len tSl22_LbB) ?_ <;> refine xL 8 q_move ?_ <;> refine aL_end (nav ?_) <;> try dsimp only)
 refine aC_loop (ι := { k : Nat // k ≤ l.length ∧ firstNZ l = firstNZ (l.drop k) }) (fun k => ⟨[(3, _, _), (6, _, _), (7, _, _), (8, .int .i64 k.1, pInt k.1)], []⟩) (fun k => l.length - k.1) ⟨0, by omega, rfl⟩ (fun a w H => H.weaken ⟨rfl, rfl, rfl, rfl, trivial⟩ trivial) ?_
 rintro ⟨k, hk, hp⟩
 dsimp only
 refine nav ?_
 (refine aC_region ?_ <;> refine xL 9 q_lss ?_ <;> refine aL_end (nav ?_) <;> try dsimp only)
 (first | refine cCd ?_ ?_ | refine cC ?_ ?_) <;> intro hb9
 · first
   | exact Bool.noConfusion hb9
   | (
    obtain ⟨x, hx⟩ := get_some (show k < l.length by omega)
    have e1 := map_at (f := pInt) hx
    have hs : firstNZ (l.drop k) = if x = 0 then firstNZ (l.drop (k + 1)) else x := by rw [drop_at hx, firstNZ]
    refine nav ?_
    (refine aC_region ?_ <;> refine xL 10 (q_idxN tSl22_LbB) ?_ <;> (refine yL 11 (q_ld tNa3_LbB) fun v11 hv11 => ?_; cases hv11) <;> refine xL 5 q_assign ?_ <;> refine aL_end (nav ?_) <;> try dsimp only)
    (refine aC_region ?_ <;> refine xL 12 q_move ?_ <;> refine xL 13 q_move ?_ <;> refine xL 14 q_neq ?_ <;> refine aL_end (nav ?_) <;> try dsimp only)
    (first | refine cCd ?_ ?_ | refine cC ?_ ?_) <;> intro hb14
    · first
      | exact Bool.noConfusion hb14
      | (
       refine nav ?_
       (refine aC_region ?_ <;> refine xL 15 q_move ?_ <;> refine xL 2 q_assign ?_ <;> refine aL_end (nav ?_) <;> try dsimp only)
       refine ret_shr (Tryz.results112) rfl ?_
       rw [hp, hs, if_neg hb14])
    · first
      | exact Bool.noConfusion hb14
      | (
       refine nav ?_
       (refine aC_region ?_ <;> refine xL 16 q_add ?_ <;> refine xL 8 q_move ?_ <;> refine aL_end (nav ?_) <;> try dsimp only)
       refine aN_again (
        ⟨k + 1, by omega, by rw [hp, hs, if_pos (by simpa using hb14)]⟩
        ) (by dsimp only; omega) ⟨rfl, rfl, rfl, rfl, trivial⟩ trivial))
 · first
   | exact Bool.noConfusion hb9
   | (
    refine nav ?_
    (refine aC_region ?_ <;> refine xL 17 q_move ?_ <;> refine xL 2 q_assign ?_ <;> refine aL_end (nav ?_) <;> try dsimp only)
    refine ret_shr (Tryz.results112) rfl ?_
    rw [hp, List.drop_eq_nil_of_le (by omega)]; rfl)
structure M4 where
 a : List (ByteArray × Int)
 s : List (ByteArray × Int)
 f : List (ByteArray × Int)
 q : List (Pr × Int)
def pairsOf : List ByteArray → List Pr
 | a :: b :: l => (a, b) :: pairsOf (b :: l)
 | _ => []
section
variable {κ : Type} [DecidableEq κ]
def addAll (m : List (κ × Int)) (ks : List κ) (c : Int) : List (κ × Int) := ks.foldl (fun m k => iadd m k c) m
structure MOk (m : List (κ × Int)) (b : Nat) : Prop where
 nd : (m.map (·.1)).Nodup
 len : m.length ≤ b
 bd : ∀ x ∈ m, 0 ≤ x.2 ∧ x.2 ≤ b * 1048576
theorem MOk.nil : MOk ([] : List (κ × Int)) 0 := ⟨List.nodup_nil, Nat.le_refl _, fun x h => by simp at h⟩
theorem MOk.mono {m : List (κ × Int)} {b b' : Nat} (h : MOk m b) (hb : b ≤ b') : MOk m b' := ⟨h.nd, Nat.le_trans h.len hb, fun x hx => by
 have := h.bd x hx
 have h2 : (b : Int) * 1048576 ≤ b' * 1048576 := by omega
 omega⟩
theorem MOk.get {m : List (κ × Int)} {b : Nat} (h : MOk m b) (k : κ) : 0 ≤ iget m k ∧ iget m k ≤ b * 1048576 := by
 have key : ∀ (m : List (κ × Int)), (∀ x ∈ m, 0 ≤ x.2 ∧ x.2 ≤ (b : Int) * 1048576) → 0 ≤ iget m k ∧ iget m k ≤ b * 1048576 := fun m => by
  induction m with
  | nil => intro _; rw [iget]; omega
  | cons x m ih =>
    intro h
    rw [iget]
    split
    · exact h x (by simp)
    · exact ih fun y hy => h y (by simp [hy])
 exact key m h.bd
theorem iput_mem {m : List (κ × Int)} {k : κ} {v : Int} {x : κ × Int} (h : x ∈ iput m k v) : x = (k, v) ∨ x ∈ m := by
 induction m with
 | nil => rw [iput, List.mem_singleton] at h; exact .inl h
 | cons y m ih =>
   rw [iput] at h
   split at h
   · rcases List.mem_cons.1 h with h | h
     · exact .inl h
     · exact .inr (by simp [h])
   · rcases List.mem_cons.1 h with h | h
     · exact .inr (by simp [h])
     · rcases ih h with h | h
       · exact .inl h
       · exact .inr (by simp [h])
theorem MOk.add {m : List (κ × Int)} {b : Nat} (h : MOk m b) {k : κ} {n : Int} (h0 : 0 ≤ n) (h1 : n ≤ 1048576) : MOk (iadd m k n) (b + 1) := by
 refine ⟨iput_nodup h.nd, Nat.le_trans (iput_len _ _ _) (Nat.succ_le_succ h.len), fun x hx => ?_⟩
 rcases iput_mem hx with rfl | hx
 · have := h.get k
   dsimp only
   omega
 · have := h.bd x hx
   omega
theorem MOk.addAll {n : Int} (h0 : 0 ≤ n) (h1 : n ≤ 1048576) : ∀ {ks : List κ} {b : Nat} {m : List (κ × Int)}, MOk m b → MOk (addAll m ks n) (b + ks.length)
 | [], b, m, h => h
 | k :: ks, b, m, h => by
   have := MOk.addAll h0 h1 (ks := ks) (h.add (k := k) h0 h1)
   rw [List.length_cons, show b + (ks.length + 1) = b + 1 + ks.length by omega]
   exact this
theorem iadd_keys {m : List (κ × Int)} {k : κ} {n : Int} {p : κ → Prop} (h : ∀ x ∈ m, p x.1) (hk : p k) : ∀ x ∈ iadd m k n, p x.1 := fun x hx => by
 rcases iput_mem hx with rfl | hx
 · exact hk
 · exact h x hx
theorem addAll_keys {c : Int} {p : κ → Prop} : ∀ {ks : List κ} {m : List (κ × Int)}, (∀ x ∈ m, p x.1) → (∀ k ∈ ks, p k) → ∀ x ∈ addAll m ks c, p x.1
 | [], m, h, _ => h
 | k :: ks, m, h, hk => addAll_keys (ks := ks) (iadd_keys h (hk k (by simp))) fun y hy => hk y (by simp [hy])
end
def mk1 (st : M4) (x : Var) : M4 := ⟨addAll st.a x.acts x.count, (match x.acts with | [] => st.s | s :: _ => iadd st.s s x.count), (match x.acts.getLast? with | some s => iadd st.f s x.count | none => st.f), addAll st.q (pairsOf x.acts) x.count⟩
def makeM (l : List Var) : M4 := l.foldl mk1 ⟨[], [], [], []⟩
theorem makeM_snoc {l : List Var} {k : Nat} {x : Var} (h : l[k]? = some x) : makeM (l.take (k + 1)) = mk1 (makeM (l.take k)) x := by
 unfold makeM; rw [take_snoc h, List.foldl_append]; rfl
theorem pairs_len : ∀ l : List ByteArray, (pairsOf l).length ≤ l.length
 | [] => Nat.le_refl _
 | [a] => Nat.zero_le _
 | a :: b :: l => by rw [pairsOf, List.length_cons, List.length_cons]; have := pairs_len (b :: l); omega
theorem pairs_mem : ∀ {l : List ByteArray} {p : Pr}, p ∈ pairsOf l → p.1 ∈ l ∧ p.2 ∈ l
 | [], p, h => by simp [pairsOf] at h
 | [a], p, h => by simp [pairsOf] at h
 | a :: b :: l, p, h => by
   rw [pairsOf] at h
   rcases List.mem_cons.1 h with rfl | h
   · exact ⟨by simp, by simp⟩
   · have := pairs_mem h
     exact ⟨List.mem_cons_of_mem _ this.1, List.mem_cons_of_mem _ this.2⟩
theorem name_sz {s : ByteArray} (h : isName s = true) : s.size ≤ 40 := by
 unfold isName at h
 simp only [Bool.and_eq_true, decide_eq_true_eq, List.all_eq_true] at h
 exact h.1.1.2
structure KOk (st : M4) (b : Nat) : Prop where
 a : MOk st.a b
 s : MOk st.s b
 f : MOk st.f b
 q : MOk st.q b
 k : ∀ x ∈ st.q, prOk x.1
theorem KOk.step {st : M4} {b : Nat} {x : Var} (h : KOk st b) (hx : okVar x = true) : KOk (mk1 st x) (b + 200) := by
 unfold okVar at hx
 simp only [Bool.and_eq_true, decide_eq_true_eq, List.all_eq_true] at hx
 obtain ⟨⟨⟨h1, h2⟩, h3⟩, h4⟩ := hx
 have hp := pairs_len x.acts
 refine ⟨(h.a.addAll (by omega) h4).mono (by omega), ?_, ?_, (h.q.addAll (by omega) h4).mono (by omega), addAll_keys h.k fun k hk => ?_⟩
 · unfold mk1
   dsimp only
   split
   · exact h.s.mono (by omega)
   · exact (h.s.add (by omega) h4).mono (by omega)
 · unfold mk1
   dsimp only
   split
   · exact (h.f.add (by omega) h4).mono (by omega)
   · exact h.f.mono (by omega)
 · have := pairs_mem hk
   have n1 := name_sz (h2 _ this.1)
   have n2 := name_sz (h2 _ this.2)
   exact ⟨by omega, by omega⟩
theorem KOk.all {l : List Var} (hl : ∀ x ∈ l, okVar x = true) : ∀ k, k ≤ l.length → KOk (makeM (l.take k)) (k * 200)
 | 0, _ => ⟨MOk.nil, MOk.nil, MOk.nil, MOk.nil, fun x h => by simp [makeM] at h⟩
 | k + 1, hk => by
   obtain ⟨x, hx⟩ := get_some (show k < l.length by omega)
   rw [makeM_snoc hx, Nat.add_mul]
   exact (KOk.all hl k (by omega)).step (hl x (List.mem_of_getElem? hx))
end Go.Proofs.YtgigclnaicbiaaaGreatDoor
namespace Go.En
open Go.RowKit Go.Cb
end Go.En
namespace Go.Proofs.YtgigclnaicbiaaaGreatDoor
open Go.RowKit Go.Cb Go.En
set_option linter.all false
set_option maxRecDepth 100000
end Go.Proofs.YtgigclnaicbiaaaGreatDoor
namespace Go.En
open Go.RowKit Go.Cb
theorem cPx {P : Program} {c : Ctx} {ops : Array Oper} {Q : Exit → Act → World → Prop} {rest : List Oper} {sL hP : List (Nat × Ent)} {o : Oper} {ι : Type} {p1 p2 : ι → PV} (d : Nat) (hC : CallR P c (⟨sL, hP⟩ : St) o (fun p => ∃ i, p = .tup [p1 i, p2 i])) (k : ∀ i v1 v2, vOf (p1 i) v1 → vOf (p2 i) v2 → aL P c ops Q rest ⟨put d (.tuple [v1, v2].toArray, .tup [p1 i, p2 i]) sL, hP⟩) (hsh : ∀ i, shD (.tup [p1 i, p2 i]) = true) (hw : wants ops sL o = some true := by exact rfl) (hd : o.dst = some d := by exact rfl) (hn : d < c.nt := by exact Nat.le_of_ble_eq_true rfl) : aL P c ops Q (o :: rest) (⟨sL, hP⟩ : St) :=
 call_run hw hC fun a w F w' v p' Fr H hR hx hT hlo hdw => by
  obtain ⟨i, rfl⟩ := hR
  have hS := hT.shD (hsh i)
  rw [hd]
  have hS' : Shr (mof c hP F) w' v (.tup [p1 i, p2 i]) := hS.anti fun b _ h => .inl h
  cases hS with
  | tup vs ps hl h =>
    match vs, hl, h, hS' with
    | [v1, v2], _, h, hS' => exact k i v1 v2 (h 0 v1 _ rfl rfl).vOf (h 1 v2 _ rfl rfl).vOf _ _ ⟨F, put_up H hx hn hS'⟩
set_option linter.all false
def RetH (c : Ctx) (R : Value → PV → List (Nat × Ent) → Prop) (e : Ending) (w' : World) : Prop := ∃ v p h F, e = .returned v ∧ R v p h ∧ HeapF c h F w' ∧ Shr (mof c h F) w' v p
def AFh (dd : Prop) (P : Program) (f : FuncId) (ar h : List (Nat × Ent)) (R : Value → PV → List (Nat × Ent) → Prop) : Prop :=
 ∀ (M N : BS) (w : World) (F : Nat → BS), HeapF ⟨w, M, N, 0, dd⟩ h F w → (∀ i x, lk ar i = some x → Shr (mof ⟨w, M, N, 0, dd⟩ h F) w x.1 x.2) → Calls P f (ar.map (·.2.1)).toArray w (RetH ⟨w, M, N, 0, dd⟩ R)
theorem HeapF.nt {c c' : Ctx} {h : List (Nat × Ent)} {F : Nat → BS} {w : World} (H : HeapF c h F w) (h0 : c'.w0 = c.w0) (h1 : c'.M0 = c.M0) (h2 : c'.N0 = c.N0) (h3 : c'.dr → c.dr) (hm : M0k c'.w0 c'.M0 c'.N0 c'.dr) : HeapF c' h F w := by
 obtain ⟨w0, M0, N0, nt, dr⟩ := c
 obtain ⟨w0', M0', N0', nt', dr'⟩ := c'
 simp only at h0 h1 h2 h3
 subst h0 h1 h2
 exact ⟨H.tr, H.lo, H.dj, hm, H.ext, fun h => H.dw (h3 h)⟩
def inOrder : Nat → List (Nat × Ent) → Bool
 | _, [] => true
 | i, (j, _) :: l => Nat.beq i j && inOrder (i + 1) l
theorem inOrder_lk : ∀ (l : List (Nat × Ent)) (i t : Nat) (x : Ent), inOrder i l = true → lk l t = some x → i ≤ t ∧ (l.map (·.2.1))[t - i]? = some x.1
 | [], _, _, _, _, h => by simp [lk] at h
 | (j, y) :: l, i, t, x, ho, h => by
   simp only [inOrder, Bool.and_eq_true] at ho
   obtain ⟨h1, h2⟩ := ho
   have h1 := Nat.eq_of_beq_eq_true h1
   subst h1
   simp only [lk] at h
   cases hb : Nat.beq i t
   · rw [hb] at h
     obtain ⟨h3, h4⟩ := inOrder_lk l (i + 1) t x h2 h
     have : t - i = (t - (i + 1)) + 1 := by omega
     exact ⟨by omega, by rw [this]; simpa using h4⟩
   · rw [hb] at h
     have : i = t := Nat.eq_of_beq_eq_true hb
     subst this
     cases h
     simp
theorem inOrder_lk' : ∀ (l : List (Nat × Ent)) (i t : Nat) (x : Ent), inOrder i l = true → lk l t = some x → i ≤ t ∧ (l[t - i]?).map (·.2) = some x
 | [], _, _, _, _, h => by simp [lk] at h
 | (j, y) :: l, i, t, x, ho, h => by
   simp only [inOrder, Bool.and_eq_true] at ho
   obtain ⟨h1, h2⟩ := ho
   have h1 := Nat.eq_of_beq_eq_true h1
   subst h1
   simp only [lk] at h
   cases hb : Nat.beq i t
   · rw [hb] at h
     obtain ⟨h3, h4⟩ := inOrder_lk' l (i + 1) t x h2 h
     have : t - i = (t - (i + 1)) + 1 := by omega
     exact ⟨by omega, by rw [this]; simpa using h4⟩
   · rw [hb] at h
     have : i = t := Nat.eq_of_beq_eq_true hb
     subst this
     cases h
     simp
section
variable {P : Program}
theorem AFh.of_body {dd : Prop} {f : FuncId} {fn : Func} {code : Code} {ar h : List (Nat × Ent)} {R : Value → PV → List (Nat × Ent) → Prop} (nt : Nat) (hf : P.funcs[f]? = some fn) (hb : fn.body = some code) (hnt : fn.ntmps = nt) (hn : ar.length ≤ nt) (ho : inOrder 0 ar = true)
 (H : ∀ (w0 : World) (M0 N0 : BS), aC P ⟨w0, M0, N0, nt, dd⟩ code (bodyPost P fn (RetH ⟨w0, M0, N0, nt, dd⟩ R)) ⟨ar, h⟩) : AFh dd P f ar h R := fun M N w F HF hv => by
 subst hnt
 refine calls_of_wp hf hb ?_
 refine wp_mono (H w M N _ w ⟨F, ⟨HF.nt rfl rfl rfl id HF.m0, fun t v p ht => ?_, ?_, rfl⟩⟩) fun e a w' hq => ?_
 · obtain ⟨_, h1⟩ := inOrder_lk ar 0 t (v, p) ho ht
   refine ⟨?_, hv t (v, p) ht⟩
   simp only [Nat.sub_zero] at h1
   have := lt_of_get h1
   rw [Array.getElem?_append_left (by simpa using this)]
   simpa using h1
 · simp; omega
 · have key : ∀ e w', RetH ⟨w, M, N, fn.ntmps, dd⟩ R e w' → RetH ⟨w, M, N, 0, dd⟩ R e w' := fun _ _ ⟨v', p, h', F', h3, h4, h5, h6⟩ => ⟨v', p, h', F', h3, h4, h5.nt rfl rfl rfl id h5.m0, h6⟩
   cases e with
   | ret => obtain ⟨h1, v, h2, h3⟩ := hq; exact ⟨h1, v, h2, key _ _ h3⟩
   | normal => obtain ⟨h1, v, h2, h3⟩ := hq; exact ⟨h1, v, h2, key _ _ h3⟩
   | panic ch => obtain ⟨h1, h3⟩ := hq; exact ⟨h1, key _ _ h3⟩
   | outgrown => exact key _ _ hq
   | _ => exact hq.elim
end
section
variable {P : Program} {c : Ctx} {ops : Array Oper} {Q : Exit → Act → World → Prop} {rest : List Oper} {sL hP : List (Nat × Ent)} {o : Oper}
theorem ret_h {fn : Func} {R : Value → PV → List (Nat × Ent) → Prop} {t : Nat} {v : Value} {p : PV} (h : List (Nat × Ent)) (hr : fn.results = #[.tmp t]) (ht : lk sL t = some (v, p)) (hs : Sub h hP) (hR : R v p h) : aR c (bodyPost P fn (RetH c R)) (⟨sL, hP⟩ : St) := fun a w ⟨F, H0⟩ => by
 have H : HoldsF c (⟨sL, h⟩ : St) F a w := H0.less (fun _ _ h => h) fun t x hx => hs.lk hx
 obtain ⟨h1, h2⟩ := H.sl t v p ht
 refine ⟨H.df, v, ?_, v, p, h, F, rfl, hR, H.toHeapF, h2⟩
 simp [results, hr, Array.getD_eq_getD_getElem?, h1]
theorem ret_h0 {fn : Func} {R : Value → PV → List (Nat × Ent) → Prop} (h : List (Nat × Ent)) (hr : fn.results = #[]) (hs : Sub h hP) (hR : R (.tuple #[]) (.val (.tuple #[])) h) : aR c (bodyPost P fn (RetH c R)) (⟨sL, hP⟩ : St) := fun a w ⟨F, H0⟩ => by
 have H : HoldsF c (⟨sL, h⟩ : St) F a w := H0.less (fun _ _ h => h) fun t x hx => hs.lk hx
 refine ⟨H.df, .tuple #[], ?_, .tuple #[], .val (.tuple #[]), h, F, rfl, hR, H.toHeapF, .val _⟩
 simp [results, hr]
theorem end_h0 {fn : Func} {R : Value → PV → List (Nat × Ent) → Prop} (h : List (Nat × Ent)) (hr : fn.results = #[]) (hs : Sub h hP) (hR : R (.tuple #[]) (.val (.tuple #[])) h) : aN c (bodyPost P fn (RetH c R)) (⟨sL, hP⟩ : St) := ret_h0 h hr hs hR
theorem aL_chE {dd : Prop} {f : Nat} {ar : List (Nat × Ent)} {R : Value → PV → List (Nat × Ent) → Prop} (K : List Nat) (d : Nat) (hw : wants ops sL o = some true) (hd : o.dst = some d) (hn : d < c.nt)
 (hE : ∀ a w F, HoldsF c (⟨sL, hP⟩ : St) F a w → (execOp a.eval o).run P w = .ok (.enter f (ar.map (·.2.1)).toArray) w ∧ ∀ (i : Nat) (x : Value) (q : PV), ((ar.map (·.2)).map (·.1))[i]? = some x → ((ar.map (·.2)).map (·.2))[i]? = some q → Shr (mof c hP F) w x q)
 (hA : AFh dd P f ar (minusK K hP) R) (hio : inOrder 0 ar = true) (hdd : c.dr → dd)
 (k : ∀ v p h, R v p h → aL P c ops Q rest ⟨put d (v, p) sL, h ++ onlyK K hP⟩) : aL P c ops Q (o :: rest) (⟨sL, hP⟩ : St) :=
 aL_run hw fun a w F H => by
  obtain ⟨hr, h2⟩ := hE a w F H
  have hfr := H.frame K
  have hin : ∀ b, mof ⟨w, fun b => c.M0 b ∨ ∃ l x, K.elem l = true ∧ lk hP l = some x ∧ F l b, nK K hP F, c.nt, c.dr⟩ (minusK K hP) F b → mof c hP F b := by
   rintro b ((h | ⟨l, x, _, h1, h2⟩) | ⟨l, x, h1, h2⟩)
   · exact .inl h
   · exact .inr ⟨l, x, h1, h2⟩
   · exact .inr ⟨l, x, (lk_minusK.1 h1).2, h2⟩
  have hcall := hA (fun b => c.M0 b ∨ ∃ l x, K.elem l = true ∧ lk hP l = some x ∧ F l b) (nK K hP F) w F
   ⟨hfr.tr, hfr.lo, hfr.dj, hfr.m0.up hdd, hfr.ext, fun _ => Nat.le_refl _⟩
   (fun i x hi => by
     obtain ⟨_, h3⟩ := inOrder_lk' ar 0 i x hio hi
     rw [Nat.sub_zero] at h3
     exact (h2 i x.1 x.2 (by rw [List.getElem?_map, List.getElem?_map, h3]; rfl) (by rw [List.getElem?_map, List.getElem?_map, h3]; rfl)).anti fun b _ hb => hin b hb)
  unfold Oper.wp
  rw [hr, Oper.upon_enter]
  refine hcall.mono fun e w' ⟨v, p, h, F', e1, e2, e3, e4⟩ => ?_
  subst e1
  have hch : Chg (nK K hP F) w w' := e3.ext
  have hlow : ∀ b, b < w.heap.size → mof ⟨w, fun b => c.M0 b ∨ ∃ l x, K.elem l = true ∧ lk hP l = some x ∧ F l b, nK K hP F, 0, dd⟩ h F' b → mof c hP F b := by
   rintro b hlt ((h1 | ⟨l, x, _, h1, h2⟩) | ⟨l, x, h1, h2⟩)
   · exact .inl h1
   · exact .inr ⟨l, x, h1, h2⟩
   · rcases e3.lo l x b h1 h2 with h3 | ⟨l', x', _, h3, h4⟩
     · exact absurd hlt (by simp only at h3; omega)
     · exact .inr ⟨l', x', h3, h4⟩
  have H' : HoldsF ⟨w, fun b => c.M0 b ∨ ∃ l x, K.elem l = true ∧ lk hP l = some x ∧ F l b, nK K hP F, c.nt, c.dr⟩ (⟨put d (v, p) sL, h⟩ : St) F' (a.put o.dst v) w' := by
   refine ⟨e3.nt rfl rfl rfl hdd hfr.m0, fun t u q ht => ?_, by rw [hd]; simpa [Act.put] using H.size, by rw [hd]; exact H.df⟩
   rw [hd]
   rcases lk_put ht with ⟨rfl, e⟩ | ⟨hne, e⟩
   · cases e
     refine ⟨?_, e4⟩
     simp [Act.put, H.size, hn]
   · obtain ⟨h3, h4⟩ := H.sl t u q e
     refine ⟨?_, h4.to hch (fun b _ ⟨l, x, _, h5, h6⟩ => .inr ⟨l, x, h5, h6⟩) (fun b hlt hb => hlow b hlt hb)⟩
     simpa [Act.put, Array.getElem?_setIfInBounds, hne] using h3
  obtain ⟨H2, _, _⟩ := H.unframe H'
  exact k v p h e2 _ _ ⟨_, H2⟩
theorem aL_ch {dd : Prop} {f : Nat} {ar h0 : List (Nat × Ent)} {R : Value → PV → List (Nat × Ent) → Prop} {xs : Array Operand} {ats : Array TypeId} (K : List Nat) (d : Nat) (hc : ∀ args w, (callFunc f args).run P w = .ok (.enter f args) w) (hA : AFh dd P f ar h0 R)
 (k : ∀ v p h, R v p h → aL P c ops Q rest ⟨put d (v, p) sL, h ++ onlyK K hP⟩) (hw : wants ops sL o = some true := by exact rfl) (hd : o.dst = some d := by exact rfl) (hn : d < c.nt := by exact Nat.le_of_ble_eq_true rfl)
 (ho : o.op = .call { callee := .value (.func f), args := xs, argTypes := ats } := by exact rfl) (hx : evL sL xs.toList = some (ar.map (·.2)) := by exact rfl) (hh0 : h0 = minusK K hP := by exact rfl) (hio : inOrder 0 ar = true := by exact rfl) (hdd : c.dr → dd := by first | exact id | exact fun h => h.elim | exact fun _ => trivial) : aL P c ops Q (o :: rest) (⟨sL, hP⟩ : St) := by
 subst hh0
 refine aL_chE K d hw hd hn (fun a w F H => ?_) hA hio hdd k
 obtain ⟨h1, h2⟩ := evL_spec H.rd hx
 refine ⟨?_, h2⟩
 have hargs : xs.map a.eval = (ar.map (·.2.1)).toArray := by
  rw [show ar.map (·.2.1) = (ar.map (·.2)).map (·.1) by rw [List.map_map]; rfl, ← h1, ← Array.toList_map, Array.toArray_toList]
 simp [execOp, ho, resolve, Act.eval, Deferred.ofValue, invoke, hargs, hc]
theorem aL_chF {dd : Prop} {f : Nat} {es : List Ent} {us : List Value} {h0 : List (Nat × Ent)} {ar : List (Nat × Ent)} {R : Value → PV → List (Nat × Ent) → Prop} {x : Operand} {q : PV} {xs : Array Operand} {ats : Array TypeId} (K : List Nat) (d : Nat) (hc : ∀ args w, (callFunc f args).run P w = .ok (.enter f args) w) (hA : AFh dd P f ar h0 R)
 (k : ∀ v p h, R v p h → aL P c ops Q rest ⟨put d (v, p) sL, h ++ onlyK K hP⟩) (hw : wants ops sL o = some true := by exact rfl) (hd : o.dst = some d := by exact rfl) (hn : d < c.nt := by exact Nat.le_of_ble_eq_true rfl)
 (ho : o.op = .call { callee := .value x, args := xs, argTypes := ats } := by exact rfl) (hf : ev sL x = some (.func (.func f) #[] us.toArray, q) := by exact rfl) (hx : evL sL xs.toList = some es := by exact rfl) (har : ar.map (·.2) = es ++ us.map (fun u => (u, .val u)) := by exact rfl) (hh0 : h0 = minusK K hP := by exact rfl) (hio : inOrder 0 ar = true := by exact rfl) (hdd : c.dr → dd := by first | exact id | exact fun h => h.elim | exact fun _ => trivial) : aL P c ops Q (o :: rest) (⟨sL, hP⟩ : St) := by
 subst hh0
 refine aL_chE K d hw hd hn (fun a w F H => ?_) hA hio hdd k
 obtain ⟨h1, h2⟩ := evL_spec H.rd hx
 have h3 := (H.rd.ev hf).1
 have e1 : ar.map (·.2.1) = es.map (·.1) ++ us := by
  rw [show ar.map (·.2.1) = (ar.map (·.2)).map (·.1) by rw [List.map_map]; rfl, har, List.map_append, List.map_map]
  congr 1
  exact List.map_id' us
 refine ⟨?_, fun i x q hi hq => ?_⟩
 · have : xs.map a.eval = (es.map (·.1)).toArray := by rw [← h1, ← Array.toList_map, Array.toArray_toList]
   rw [e1]
   simp [execOp, ho, resolve, h3, Deferred.ofValue, invoke, this, hc]
 · rw [har] at hi hq
   rw [List.map_append] at hi hq
   rcases Nat.lt_or_ge i es.length with hlt | hge
   · rw [List.getElem?_append_left (by simpa using hlt)] at hi hq
     exact h2 i x q hi hq
   · rw [List.getElem?_append_right (by simpa using hge)] at hi hq
     simp only [List.length_map, List.map_map, List.getElem?_map, Option.map_eq_some_iff, Function.comp] at hi hq
     obtain ⟨u, hu, rfl⟩ := hi
     obtain ⟨u', hu', rfl⟩ := hq
     rw [hu] at hu'
     cases hu'
     exact .val _
theorem zeros_holds {l e k n g cap : Nat} {h : Value} {a : Act} (hh : h = .slice (some ⟨g, 0, none⟩) n cap) (zs : List Value) (h1 : zs.all Value.oneCell' = true) :
 ∀ (m i j : Nat) (cs : List PV) (w : World) (F : Nat → BS) (hp : List (Nat × Ent)), HoldsF c ⟨sL, hp⟩ F a w → lk hp l = some (h, .own e k n cs) → i + m = zs.length → j + i + m ≤ cs.length →
  ∃ w' F' hp', (storeCells ⟨g, j, none⟩ (zs.drop i) i).run P w = .ok () w' ∧ HoldsF c ⟨sL, hp'⟩ F' a w' ∧ lk hp' l = some (h, .own e k n (setL cs (j + i) ((zs.drop i).map PV.val))) ∧ ∀ l', l' ≠ l → lk hp' l' = lk hp l'
 | 0, i, j, cs, w, F, hp, H, hl, hi, hj => by
   refine ⟨w, F, hp, ?_, H, ?_, fun _ _ => rfl⟩
   · rw [List.drop_eq_nil_of_le (by omega)]; rfl
   · rw [List.drop_eq_nil_of_le (by omega : zs.length ≤ i)]; exact hl
 | m + 1, i, j, cs, w, F, hp, H, hl, hi, hj => by
   have hi' : i < zs.length := by omega
   obtain ⟨v, hv⟩ := get_of_lt hi'
   have hv1 : v.oneCell' = true := List.all_eq_true.1 h1 v (List.mem_of_getElem? hv)
   obtain ⟨F1, H1⟩ := set_holds H hl hh (show j + i < cs.length by omega) (Shr.val v)
   obtain ⟨w', F', hp2, hr, H2, hl2, hsame⟩ := zeros_holds hh zs h1 m (i + 1) j (cs.set (j + i) (.val v)) _ F1 _ H1 (lk_put_self _ _ _) (by omega) (by simp; omega)
   refine ⟨w', F', hp2, ?_, H2, ?_, fun l' hne => by rw [hsame l' hne, lk_put_ne (Ne.symm hne)]⟩
   · obtain ⟨xs, Fs, hrow, hlen, _⟩ := (H.tr l _ _ hl).row
     subst hh
     obtain ⟨z, hz⟩ := get_of_lt (show j + i < xs.length by omega)
     have hcell := row_cell hrow hz
     have hfr := hrow.frozenAt (j + i)
     rw [List.drop_eq_getElem_cons (lt_of_get hv), show zs[i]'(lt_of_get hv) = v from (List.getElem?_eq_some_iff.1 hv).2, storeCells]
     simp only [Sem.run_bind, run_store _ _ _ _ _ hv1, add_none, hcell, hfr, Bool.false_eq_true, if_false, Result.andThen_ok]
     exact hr
   · rw [hl2, List.drop_eq_getElem_cons hi', show zs[i]'hi' = v from (List.getElem?_eq_some_iff.1 hv).2, List.map_cons, setL, Nat.add_assoc]
theorem take_setL : ∀ (ps cs : List PV) (j : Nat), (setL cs j ps).take j = cs.take j
 | [], _, _ => rfl
 | p :: ps, cs, j => by
   rw [setL]
   have h := take_setL ps (cs.set j p) (j + 1)
   have h2 := congrArg (List.take j) h
   rw [List.take_take, List.take_take, Nat.min_eq_left (Nat.le_succ j)] at h2
   rw [h2, List.take_set_of_le (Nat.le_refl j)]
theorem zeros_one {z : Value} (h : z.cells.toList.all Value.oneCell' = true) (m : Nat) : (Builtin.zeroCells z.cells m).toList.all Value.oneCell' = true := by
 rw [List.all_eq_true]
 intro v hv
 unfold Builtin.zeroCells at hv
 rw [Array.toList_map, List.mem_map] at hv
 obtain ⟨i, _, rfl⟩ := hv
 rw [getElem!_def]
 cases hc : z.cells[i % z.cells.size]? with
 | none => rfl
 | some u => exact List.all_eq_true.1 h u (by rw [← Array.getElem?_toList] at hc; exact List.mem_of_getElem? hc)
theorem aL_clear {t e kk bytes n i : Nat} {z : Value} {x : Operand} {h : Value} {q : PV} {cs : List PV} (l : Nat) (hT : ElT P t e kk bytes z) (hz0 : z.cells.toList.all Value.oneCell' = true) (hw : wants ops sL o = some true) (hd : o.dst = none)
 (ho : o.op = .call { callee := .builtin .clear, args := #[x], argTypes := #[t] }) (hx : ev sL x = some (slc h i n kk, q)) (hl : lk hP l = some (h, .own e kk n cs)) (hi : i ≤ n)
 (k : ∀ cs', cs'.length = cs.length → cs'.take (i * kk) = cs.take (i * kk) → aL P c ops Q rest ⟨sL, put l (h, .own e kk n cs') hP⟩) : aL P c ops Q (o :: rest) (⟨sL, hP⟩ : St) :=
 aL_run hw fun a w F H => by
  have hxv := (H.rd.ev hx).1
  obtain ⟨xs, Fs, hrow, hlen, _⟩ := (H.tr l _ _ hl).row
  obtain ⟨inf, hi1, hi2, hi3, hi4⟩ := hT.info
  have hback : Holds c ⟨sL, put l (h, .own e kk n cs) hP⟩ a w := ⟨F, H.less (fun _ _ h => h) fun t x hx => by
   rcases lk_put hx with ⟨rfl, rfl⟩ | ⟨hne, e1⟩
   · exact hl
   · exact e1⟩
  rcases row_form hrow with ⟨rfl, rfl, rfl⟩ | ⟨g, cap, rfl, hc1, hc2, hc3⟩
  · have hi0 : i = 0 := by omega
    subst hi0
    unfold Oper.wp execOp
    simp [ho, hxv, resolve, invoke, builtin, Builtin.clear_, slc, run_underlying hT.ht, Oper.upon, hd, Act.put]
    exact k cs rfl rfl _ _ hback
  · rcases Nat.lt_or_ge i n with hlt | hge
    · have hlen' : cs.length = n * kk := by rw [hlen, hrow.1]
      have hzs : (Builtin.zeroCells z.cells (n - i)).toList.length = (n - i) * kk := by rw [Array.length_toList, size_zeroCells, hT.hz]
      have hmul : i * kk + (n - i) * kk = n * kk := by rw [← Nat.add_mul]; congr 1; omega
      obtain ⟨w', F', hp', hr, H', hl', hsame⟩ := zeros_holds (P := P) rfl (Builtin.zeroCells z.cells (n - i)).toList (zeros_one hz0 _) _ 0 (i * kk) cs w F hP H hl (Nat.zero_add _) (by omega)
      simp only [List.drop_zero, Nat.add_zero] at hr hl'
      have hcap : cap ≠ i := by omega
      obtain ⟨m, hm⟩ : ∃ m, n - i = m + 1 := ⟨n - i - 1, by omega⟩
      simp only [slc, hcap, if_false, Option.map_some, add_none, Nat.zero_add, hm] at hxv
      rw [hm] at hr hl'
      unfold Oper.wp execOp
      simp [ho, hxv, resolve, invoke, builtin, Builtin.clear_, run_underlying hT.ht, zeroValue, typeInfo, hi1, hi2, hr, Oper.upon, hd, Act.put]
      refine k (setL cs (i * kk) ((Builtin.zeroCells z.cells (m + 1)).toList.map PV.val)) (setL_len _ _ _) (take_setL _ _ _) _ _ ⟨F', H'.less (fun _ _ h => h) fun t x hx => ?_⟩
      rcases lk_put hx with ⟨rfl, rfl⟩ | ⟨hne, e1⟩
      · exact hl'
      · show lk hp' t = _
        rw [hsame t (Ne.symm hne)]; exact e1
    · have hin : i = n := by omega
      subst hin
      by_cases hca : cap = i
      all_goals
       unfold Oper.wp execOp
       simp [ho, hxv, resolve, invoke, builtin, Builtin.clear_, slc, hca, run_underlying hT.ht, Oper.upon, hd, Act.put]
       exact k cs rfl rfl _ _ hback
theorem q_eqnil {t e k r n : Nat} {x y : Operand} {v : Value} {q : PV} {cs : List PV} {st : St} (hT : SlT P t e k = true) (ho : o.op = .binOp .eql t x y r := by exact rfl) (hx : ev st.slots x = some (v, .sl n cs) := by exact rfl) (hy : ev st.slots y = some (.slice none 0 0, q) := by exact rfl) :
 YE P st o (fun u => u = .bool false ∨ (u = .bool true ∧ n = 0)) (.val (.bool (match v with | .slice a _ _ => a.isNone | _ => false))) := fun M F a w H => by
 obtain ⟨hv, hS⟩ := H.ev hx
 have hyv := (H.ev hy).1
 cases hS with
 | emp ad cp hc ha =>
   refine ⟨.bool ad.isNone, ?_, .val _, fun N W _ _ _ => ?_⟩
   · cases ad with
     | none => exact .inr ⟨rfl, rfl⟩
     | some _ => exact .inl rfl
   · simp [execOp, ho, hv, hyv, eqGuard, Go.Lib.run_eql_slice_nil W t e ad _ _ 0 0 (SlT.und hT)]
 | sl b off n cp cs vs hn hc hcell hT' =>
   refine ⟨.bool false, .inl rfl, .val _, fun N W _ _ _ => ?_⟩
   simp [execOp, ho, hv, hyv, eqGuard, Go.Lib.run_eql_slice_nil W t e (some ⟨b, off, none⟩) _ _ 0 0 (SlT.und hT)]
theorem aL_heap {l : List Oper} (h : List (Nat × Ent)) (hs : Sub h hP) (k : aL P c ops Q l ⟨sL, h⟩) : aL P c ops Q l (⟨sL, hP⟩ : St) := fun a w ⟨F, H⟩ => k a w ⟨F, H.less (fun _ _ h => h) fun t x hx => hs.lk hx⟩
def SortI0 (P : Program) (fs : Nat) : Prop := ∀ (p : Option Addr) (cap : Nat) (w : World), Calls P fs #[.slice p 0 cap] w fun e w' => e = .returned (.tuple #[]) ∧ w' = w
theorem s_sortI0 {fs e kk d : Nat} {h : Value} {q : PV} {cs : List PV} {x : Operand} {ats : Array TypeId} (l : Nat) (hS : SortI0 P fs) (hc : ∀ args w, (callFunc fs args).run P w = .ok (.enter fs args) w)
 (k : aL P c ops Q rest ⟨put d (.tuple #[], .val (.tuple #[])) sL, hP⟩)
 (hw : wants ops sL o = some true := by exact rfl) (hd : o.dst = some d := by exact rfl) (hdn : d < c.nt := by exact Nat.le_of_ble_eq_true rfl) (ho : o.op = .call { callee := .value (.func fs), args := #[x], argTypes := ats } := by exact rfl) (hx : ev sL x = some (h, q) := by exact rfl) (hl : lk hP l = some (h, .own e kk 0 cs) := by exact rfl) : aL P c ops Q (o :: rest) (⟨sL, hP⟩ : St) :=
 aL_run hw fun a w F H => by
  have hxv := (H.rd.ev hx).1
  obtain ⟨xs, Fs, hrow, _⟩ := (H.tr l _ _ hl).row
  have hh : ∃ p cap, h = .slice p 0 cap := by
   rcases row_form hrow with ⟨h1, _, _⟩ | ⟨g, cap, h1, _⟩
   · exact ⟨_, _, h1⟩
   · exact ⟨_, _, h1⟩
  obtain ⟨p, cap, rfl⟩ := hh
  unfold Oper.wp
  have hr : (execOp a.eval o).run P w = .ok (.enter fs #[.slice p 0 cap]) w := by
   simp [execOp, ho, resolve, Act.eval, Deferred.ofValue, invoke, hc] at hxv ⊢
   simp [hxv]
  rw [hr, Oper.upon_enter]
  refine (hS p cap w).mono fun e w' ⟨e1, e2⟩ => ?_
  subst e1 e2
  rw [hd]
  exact k _ _ ⟨F, H.put hdn (.val _)⟩
end
end Go.En
namespace Go.Proofs.YtgigclnaicbiaaaGreatDoor
open Go.RowKit Go.Cb Go.En
set_option linter.all false
set_option maxRecDepth 100000
theorem setL_at {α : Type} : ∀ (ps : List PV) (a b c : List PV) (j : Nat), a.length = j → b.length = ps.length → setL (a ++ b ++ c) j ps = a ++ ps ++ c
 | [], a, b, c, j, ha, hb => by
   have : b = [] := List.eq_nil_of_length_eq_zero hb
   subst this; rfl
 | p :: ps, a, x :: b, c, j, ha, hb => by
   rw [setL]
   have h1 : (a ++ (x :: b) ++ c).set j p = (a ++ [p]) ++ b ++ c := by
    subst ha
    rw [List.append_assoc, List.set_append_right _ _ (Nat.le_refl _), Nat.sub_self]
    simp
   rw [h1, setL_at (α := α) ps (a ++ [p]) b c (j + 1) (by simp [ha]) (by simpa using hb)]
   simp
def keptF {α : Type} (p : α → Bool) (l : List α) (k : Nat) : List α := (l.take k).filter fun s => !p s
theorem keptF_yes {α : Type} {p : α → Bool} {l : List α} {k : Nat} {x : α} (hx : l[k]? = some x) (h : p x = true) : keptF p l (k + 1) = keptF p l k := by
 unfold keptF; rw [take_snoc hx, List.filter_append]; simp [h]
theorem keptF_no {α : Type} {p : α → Bool} {l : List α} {k : Nat} {x : α} (hx : l[k]? = some x) (h : p x = false) : keptF p l (k + 1) = keptF p l k ++ [x] := by
 unfold keptF; rw [take_snoc hx, List.filter_append]; simp [h]
theorem keptF_le {α : Type} (p : α → Bool) (l : List α) (k : Nat) : (keptF p l k).length ≤ k := by
 unfold keptF
 have h1 := List.length_filter_le (fun s => !p s) (l.take k)
 rw [List.length_take] at h1
 omega
def rowF {α : Type} (p : α → Bool) (l : List α) (k : Nat) : List α := keptF p l k ++ l.drop (keptF p l k).length
theorem rowF_at {α : Type} {p : α → Bool} {l : List α} {k : Nat} {x : α} (hx : l[k]? = some x) : (rowF p l k)[k]? = some x := by
 have h := keptF_le p l k
 unfold rowF
 rw [List.getElem?_append_right h, List.getElem?_drop, show (keptF p l k).length + (k - (keptF p l k).length) = k by omega]
 exact hx
theorem rowF_len {α : Type} (p : α → Bool) (l : List α) {k : Nat} (hk : k ≤ l.length) : (rowF p l k).length = l.length := by
 have h := keptF_le p l k
 unfold rowF
 rw [List.length_append, List.length_drop]; omega
theorem rowF_set {α : Type} {f : α → List PV} {m : Nat} (hf : ∀ x, (f x).length = m) {p : α → Bool} {l : List α} {k : Nat} {x : α} (hx : l[k]? = some x) (h : p x = false) :
 setL ((rowF p l k).flatMap f) ((keptF p l k).length * m) (f x) = (rowF p l (k + 1)).flatMap f := by
 have hl := keptF_le p l k
 have hlt := lt_of_get hx
 unfold rowF
 rw [keptF_no hx h, List.length_append, List.length_singleton, List.drop_eq_getElem_cons (show (keptF p l k).length < l.length by omega)]
 rw [List.flatMap_append, List.flatMap_cons, ← List.append_assoc, setL_at (α := α) _ _ _ _ _ (flat_len hf _) (by rw [hf, hf]), List.flatMap_append, List.flatMap_append]
 simp
theorem idx_nat {α : Type} {p : α → Bool} {l : List α} : (idx p l = -1 ∧ ∀ s ∈ l, p s = false) ∨ ∃ i x, idx p l = (i : Nat) ∧ l[i]? = some x ∧ p x = true ∧ ∀ j y, j < i → l[j]? = some y → p y = false := by
 unfold idx
 cases h : l.findIdx? p with
 | none => exact .inl ⟨rfl, by rw [List.findIdx?_eq_none_iff] at h; exact h⟩
 | some i =>
   rw [List.findIdx?_eq_some_iff_getElem] at h
   obtain ⟨hi, hp, hn⟩ := h
   exact .inr ⟨i, l[i], rfl, by simp, hp, fun j y hj hy => by
    have := hn j hj
    obtain ⟨hj', rfl⟩ := List.getElem?_eq_some_iff.1 hy
    simpa using this⟩
theorem keptF_all {α : Type} {p : α → Bool} {l : List α} {k : Nat} (h : ∀ j y, j < k → l[j]? = some y → p y = false) : keptF p l k = l.take k := by
 unfold keptF
 rw [List.filter_eq_self]
 intro a ha
 obtain ⟨i, hi, rfl⟩ := List.getElem_of_mem ha
 rw [List.length_take] at hi
 have := h i _ (by omega) (by rw [List.getElem?_eq_getElem (by omega : i < l.length)])
 simp [List.getElem_take, this]
theorem tAgg72_LdI : AggT Tryz.prog 72 3 = true := by kernel_rfl
theorem tEl22_LdI : ElT Tryz.prog 22 3 1 8 (.int .i64 0) := ⟨Tryz.underlying22, by kernel_rfl, rfl, by decide⟩
theorem tFl25_0_LdI : FldT Tryz.prog 25 0 0 = true := by kernel_rfl
theorem tFl25_1_LdI : FldT Tryz.prog 25 1 1 = true := by kernel_rfl
theorem tFl25_2_LdI : FldT Tryz.prog 25 2 2 = true := by kernel_rfl
theorem tFl25_3_LdI : FldT Tryz.prog 25 3 3 = true := by kernel_rfl
theorem tFl25_4_LdI : FldT Tryz.prog 25 4 4 = true := by kernel_rfl
theorem tFl72_0_LdI : FldT Tryz.prog 72 0 0 = true := by kernel_rfl
theorem tFl72_1_LdI : FldT Tryz.prog 72 1 1 = true := by kernel_rfl
theorem tFl72_2_LdI : FldT Tryz.prog 72 2 2 = true := by kernel_rfl
theorem tNa22_LdI : NoAgg Tryz.prog 22 = true := by kernel_rfl
theorem tNa23_LdI : NoAgg Tryz.prog 23 = true := by kernel_rfl
theorem tSl23_LdI : SlT Tryz.prog 23 72 3 = true := by kernel_rfl
theorem tZr72_LdI : ZeroT Tryz.prog 72 (.agg #[(.int .i64 0), (.int .i64 0), (.int .i64 0)]) := by unfold ZeroT; kernel_rfl
structure Mv where
 src : Int
 dst : Int
 sym : Int
structure Aut where
 n : Int
 syms : Int
 start : List Int
 fin : List Int
 moves : List Mv
def cMv (m : Mv) : List PV := [pInt m.src, pInt m.dst, pInt m.sym]
theorem cMv_len (m : Mv) : (cMv m).length = 3 := rfl
theorem cMv_one (L : List Mv) : (L.flatMap cMv).all En.one = true := by rw [List.all_flatMap, List.all_eq_true]; intro x _; rfl
def pMvs (l : List Mv) : PV := .sl l.length (l.flatMap cMv)
def pAut (a : Aut) : PV := .agg [pInt a.n, pInt a.syms, pInts a.start, pInts a.fin, pMvs a.moves]
def cmpI (a b : Int) : Int := if a < b then -1 else if b < a then 1 else 0
def mvCmp (a b : Mv) : Int := firstNZ [cmpI a.src b.src, cmpI a.sym b.sym, cmpI a.dst b.dst]
def ltI (a b : Int) : Bool := decide (a < b)
def mvLt (a b : Mv) : Bool := decide (mvCmp a b < 0)
def stOk (n : Int) (l : List Int) : Bool := l.all (fun x => decide (0 ≤ x) && decide (x < n)) && chainB ltI l
def mvOk (a : Aut) (m : Mv) : Bool := decide (0 ≤ m.src) && decide (m.src < a.n) && decide (0 ≤ m.dst) && decide (m.dst < a.n) && decide (-1 ≤ m.sym) && decide (m.sym < a.syms)
def autOk (a : Aut) : Bool := decide (0 ≤ a.n) && decide (a.n ≤ 2000) && decide (0 ≤ a.syms) && decide (a.syms ≤ 40) && decide (a.moves.length ≤ 20000) && stOk a.n a.start && stOk a.n a.fin && a.moves.all (mvOk a) && chainB mvLt a.moves
theorem isNaNInt_g (s : Int) : AFg Tryz.prog 122 [pInt s] (· = pBool false) := by
 refine AFg.of_body 6 Tryz.func122 rfl Tryz.ntmps122 (Nat.le_of_ble_eq_true rfl) ?_
 intro w0 M0 vs hl hv
 obtain ⟨v0, rfl⟩ := len1 hl
 obtain rfl := hv 0 _ _ rfl rfl
 clear hl hv
 refine nav ?_
 (refine aC_region ?_ <;> refine xL 2 q_assign ?_ <;> refine aL_end (nav ?_) <;> try dsimp only)
 (refine aC_region ?_ <;> refine xL 3 q_move ?_ <;> refine xL 4 q_move ?_ <;> refine xL 5 q_neq ?_ <;> refine xL 2 q_assign ?_ <;> refine aL_end (nav ?_) <;> try dsimp only)
 refine ret_shr (Tryz.results122) rfl ?_
 simp
theorem cmpInt_g (a b : Int) : AFg Tryz.prog 113 [pInt a, pInt b] (· = pInt (cmpI a b)) := by
 refine AFg.of_body 20 Tryz.func113 rfl Tryz.ntmps113 (Nat.le_of_ble_eq_true rfl) ?_
 intro w0 M0 vs hl hv
 obtain ⟨v0, v1, rfl⟩ := len2 hl
 obtain rfl := hv 0 _ _ rfl rfl
 obtain rfl := hv 1 _ _ rfl rfl
 clear hl hv
 refine nav ?_
 (refine aC_region ?_ <;> refine xL 4 q_assign ?_ <;> refine aL_end (nav ?_) <;> try dsimp only)
 (refine aC_region ?_ <;> refine xL 7 q_move ?_ <;> (refine cS 8 (cA Tryz.call122 (isNaNInt_g a)) fun v8 hv8 => ?_; cases hv8) <;> refine xL 5 q_assign ?_ <;> refine aL_end (nav ?_) <;> try dsimp only)
 (refine aC_region ?_ <;> refine xL 9 q_move ?_ <;> (refine cS 10 (cA Tryz.call122 (isNaNInt_g b)) fun v10 hv10 => ?_; cases hv10) <;> refine xL 6 q_assign ?_ <;> refine aL_end (nav ?_) <;> try dsimp only)
 (refine aC_region ?_ <;> refine xL 11 q_move ?_ <;> refine aL_end (nav ?_) <;> try dsimp only)
 refine cCf ?_
 refine nav ?_
 (refine aC_region ?_ <;> refine xL 13 q_move ?_ <;> refine aL_end (nav ?_) <;> try dsimp only)
 refine cCf ?_
 refine nav ?_
 (refine aC_region ?_ <;> refine xL 14 q_move ?_ <;> refine xL 15 q_move ?_ <;> refine xL 16 q_lss ?_ <;> refine aL_end (nav ?_) <;> try dsimp only)
 (first | refine cCd ?_ ?_ | refine cC ?_ ?_) <;> intro hb16
 · first
   | exact Bool.noConfusion hb16
   | (
    refine nav ?_
    (refine aC_region ?_ <;> refine xL 4 q_assign ?_ <;> refine aL_end (nav ?_) <;> try dsimp only)
    refine ret_shr (Tryz.results113) rfl ?_
    rw [cmpI, if_pos hb16])
 · first
   | exact Bool.noConfusion hb16
   | (
    refine nav ?_
    (refine aC_region ?_ <;> refine xL 17 q_move ?_ <;> refine xL 18 q_move ?_ <;> refine xL 19 q_gtr ?_ <;> refine aL_end (nav ?_) <;> try dsimp only)
    (first | refine cCd ?_ ?_ | refine cC ?_ ?_) <;> intro hb19
    · first
      | exact Bool.noConfusion hb19
      | (
       refine nav ?_
       (refine aC_region ?_ <;> refine xL 4 q_assign ?_ <;> refine aL_end (nav ?_) <;> try dsimp only)
       refine ret_shr (Tryz.results113) rfl ?_
       rw [cmpI, if_neg (by omega), if_pos (by omega)])
    · first
      | exact Bool.noConfusion hb19
      | (
       refine nav ?_
       (refine aC_region ?_ <;> refine xL 4 q_assign ?_ <;> refine aL_end (nav ?_) <;> try dsimp only)
       refine ret_shr (Tryz.results113) rfl ?_
       rw [cmpI, if_neg (by omega), if_neg (by omega)]))
theorem aCmpMoves_g (a b : Mv) : AFg Tryz.prog 80 [.agg (cMv a), .agg (cMv b)] (· = pInt (mvCmp a b)) := by
 refine AFg.of_body 22 Tryz.func80 rfl Tryz.ntmps80 (Nat.le_of_ble_eq_true rfl) ?_
 intro w0 M0 vs hl hv
 obtain ⟨v0, v1, rfl⟩ := len2 hl
 clear hl hv
 refine nav ?_
 (refine aC_region ?_ <;> refine s_boxa 2 3 fun h2 => ?_ <;> refine s_boxa 3 3 fun h3 => ?_ <;> refine xL 4 q_assign ?_ <;> refine aL_end (nav ?_) <;> try dsimp only)
 (refine aC_draw (fun i => ([] : List Nat).elem i) [2, 3] (by kernel_rfl) ?_ <;> refine xD 0 5 rfl (q_fldo 2 tFl72_0_LdI) ?_ <;> (refine yD 1 6 rfl (q_ldo 2 tNa3_LbB) fun v6 hv6 => ?_; cases hv6) <;> refine xD 2 7 rfl (q_fldo 3 tFl72_0_LdI) ?_ <;> (refine yD 3 8 rfl (q_ldo 3 tNa3_LbB) fun v8 hv8 => ?_; cases hv8) <;> refine xD 5 10 rfl (q_fldo 2 tFl72_2_LdI) ?_ <;> (refine yD 6 11 rfl (q_ldo 2 tNa3_LbB) fun v11 hv11 => ?_; cases hv11) <;> refine xD 7 12 rfl (q_fldo 3 tFl72_2_LdI) ?_ <;> (refine yD 8 13 rfl (q_ldo 3 tNa3_LbB) fun v13 hv13 => ?_; cases hv13) <;> refine xD 10 15 rfl (q_fldo 2 tFl72_1_LdI) ?_ <;> (refine yD 11 16 rfl (q_ldo 2 tNa3_LbB) fun v16 hv16 => ?_; cases hv16) <;> refine xD 12 17 rfl (q_fldo 3 tFl72_1_LdI) ?_ <;> (refine yD 13 18 rfl (q_ldo 3 tNa3_LbB) fun v18 hv18 => ?_; cases hv18) <;> (refine aD_one 4 (by kernel_rfl) ?_) <;> (refine aW_run rfl fun w9 M9 N9 DQ back => ?_) <;> (refine cS 9 (cA Tryz.call113 (cmpInt_g a.src b.src)) fun v9 hv9 => ?_; cases hv9) <;> refine aL_end (back _ (nrm ?_)) <;> (refine aD_one 9 (by kernel_rfl) ?_) <;> (refine aW_run rfl fun w9 M9 N9 DQ back => ?_) <;> (refine cS 14 (cA Tryz.call113 (cmpInt_g a.sym b.sym)) fun v14 hv14 => ?_; cases hv14) <;> refine aL_end (back _ (nrm ?_)) <;> (refine aD_one 14 (by kernel_rfl) ?_) <;> (refine aW_run rfl fun w9 M9 N9 DQ back => ?_) <;> (refine cS 19 (cA Tryz.call113 (cmpInt_g a.dst b.dst)) fun v19 hv19 => ?_; cases hv19) <;> refine aL_end (back _ (nrm ?_)) <;> (refine aD_one 15 (by kernel_rfl) ?_) <;> (refine aW_run rfl fun w9 M9 N9 DQ back => ?_) <;> refine s_litn (xs := [_, _, _]) 20 tEl22_LdI fun h20 ho20 => ?_ <;> refine aL_end (back _ (nrm ?_)) <;> (refine aD_one 16 (by kernel_rfl) ?_) <;> (refine aW_run rfl fun w9 M9 N9 DQ back => ?_) <;> (refine aL_ent (En.freeze (l := 20) (t := 20) rfl rfl) fun _ => ?_; refine cS 21 (cA Tryz.call112 (cmpOr_g [cmpI a.src b.src, cmpI a.sym b.sym, cmpI a.dst b.dst])) fun v21 hv21 => ?_; cases hv21) <;> refine aL_end (back _ (nrm ?_)) <;> refine xE 17 4 rfl q_assign ?_ <;> refine aD_end (by kernel_rfl) (nav ?_) <;> try dsimp only)
 exact ret_shr Tryz.results80 rfl rfl
theorem aStates_e (l : List Int) (n : Int) : AF Tryz.prog 79 [pInts l, pInt n] (· = pBool (stOk n l)) := by
 refine AF.of_body 35 Tryz.func79 rfl Tryz.ntmps79 (Nat.le_of_ble_eq_true rfl) ?_
 intro w0 M0 vs hl hv
 obtain ⟨v0, v1, rfl⟩ := len2 hl
 obtain rfl := hv 1 _ _ rfl rfl
 clear hl hv
 refine aC_slen 0 rfl fun hlen => ?_
 refine nav ?_
 (refine aC_region ?_ <;> refine xL 4 q_assign ?_ <;> refine aL_end (nav ?_) <;> try dsimp only)
 (refine aC_region ?_ <;> refine xL 7 q_move ?_ <;> refine xL 8 (q_len tSl22_LbB) ?_ <;> refine xL 9 q_move ?_ <;> refine aL_end (nav ?_) <;> try dsimp only)
 refine aC_loop (ι := { k : Nat // k ≤ l.length ∧ ∀ j x, j < k → l[j]? = some x → (0 ≤ x ∧ x < n) ∧ ∀ y, 1 ≤ j → l[j - 1]? = some y → ltI y x = true }) (fun k => ⟨[(0, _, _), (1, _, _), (7, _, _), (8, _, _), (9, .int .i64 k.1, pInt k.1)], []⟩) (fun k => l.length - k.1) ⟨0, by omega, by omega⟩ (fun a w H => H.weaken ⟨rfl, rfl, rfl, rfl, rfl, trivial⟩ trivial) ?_
 rintro ⟨k, hk, hp⟩
 dsimp only
 refine nav ?_
 (refine aC_region ?_ <;> refine xL 10 q_lss ?_ <;> refine aL_end (nav ?_) <;> try dsimp only)
 (first | refine cCd ?_ ?_ | refine cC ?_ ?_) <;> intro hb10
 · first
   | exact Bool.noConfusion hb10
   | (
    obtain ⟨x, hx⟩ := get_some (show k < l.length by omega)
    obtain ⟨y, hy⟩ := get_some (show k - 1 < l.length by omega)
    have e1 := map_at (f := pInt) hx
    have e2 : (l.map pInt)[((k : Int) - 1).toNat * 1]? = some (pInt y) := by rw [show ((k : Int) - 1).toNat * 1 = k - 1 by omega]; exact (by rw [List.getElem?_map, hy]; rfl)
    refine nav ?_
    (refine aC_region ?_ <;> refine xL 11 q_move ?_ <;> refine xL 12 (q_idxN tSl22_LbB) ?_ <;> (refine yL 13 (q_ld tNa3_LbB) fun v13 hv13 => ?_; cases hv13) <;> refine xL 5 q_assign ?_ <;> refine xL 6 q_assign ?_ <;> refine aL_end (nav ?_) <;> try dsimp only)
    (refine aC_region ?_ <;> refine xL 14 q_move ?_ <;> refine xL 15 q_lss ?_ <;> refine xL 16 q_move ?_ <;> (refine bLd 16 (fun hb16 => ?_) (fun hb16 => ?_) <;> (first | refine kL 17 ?_ | refine xL 17 q_move ?_)) <;> (first | refine kL 18 ?_ | refine xL 18 q_move ?_) <;> (first | refine kL 19 ?_ | refine xL 19 q_geq ?_) <;> refine xL 20 q_pick ?_ <;> refine xL 21 q_move ?_ <;> (first | refine kL 22 ?_ | (refine bLd 21 (fun hb21 => ?_) (fun hb21 => ?_) <;> (first | refine kL 22 ?_ | refine xL 22 q_move ?_))) <;> (first | refine kL 23 ?_ | refine xL 23 q_gtr ?_) <;> (first | refine kL 24 ?_ | refine xL 24 q_move ?_) <;> (first | refine kL 25 ?_ | (refine bLd 24 (fun hb24 => ?_) (fun hb24 => ?_) <;> (first | refine kL 25 ?_ | refine xL 25 q_move ?_))) <;> (first | refine kL 26 ?_ | refine xL 26 q_move ?_) <;> (first | refine kL 27 ?_ | refine xL 27 q_sub ?_) <;> (first | refine kL 28 ?_ | refine xL 28 (q_idx tSl22_LbB) ?_) <;> (first | refine kL 29 ?_ | (refine yL 29 (q_ld tNa3_LbB) fun v29 hv29 => ?_; cases hv29)) <;> (first | refine kL 30 ?_ | refine xL 30 q_move ?_) <;> (first | refine kL 31 ?_ | refine xL 31 q_geq ?_) <;> (first | refine kL 32 ?_ | refine xL 32 q_pick ?_) <;> refine xL 33 q_pick ?_ <;> refine aL_end (nav ?_) <;> try dsimp only) <;> (
     (first | refine cCd ?_ ?_ | refine cC ?_ ?_) <;> intro hb33
     · first
       | exact Bool.noConfusion hb33
       | (
        refine nav ?_
        (refine aC_region ?_ <;> refine xL 4 q_assign ?_ <;> refine aL_end (nav ?_) <;> try dsimp only)
        refine ret_shr (Tryz.results79) rfl ?_
        unfold stOk
        first
         | rw [all_stop hx (by simp; omega)]; rfl
         | rw [chainB_stop (by omega) hy hx (by unfold ltI; simpa using hb33), Bool.and_false])
     · first
       | exact Bool.noConfusion hb33
       | (
        refine nav ?_
        (refine aC_region ?_ <;> refine xL 34 q_add ?_ <;> refine xL 9 q_move ?_ <;> refine aL_end (nav ?_) <;> try dsimp only)
        refine aN_again (
         ⟨k + 1, by omega, fun j z hj hz => by
          by_cases e : j = k
          · subst e; rw [hx] at hz; cases hz
            refine ⟨⟨by omega, by omega⟩, fun y' h1 hy' => ?_⟩
            rw [hy] at hy'; cases hy'
            unfold ltI
            first
             | omega
             | (simp; omega)
          · exact hp j z (by omega) hz⟩
         ) (by dsimp only; omega) ⟨rfl, rfl, rfl, rfl, rfl, trivial⟩ trivial)))
 · first
   | exact Bool.noConfusion hb10
   | (
    refine nav ?_
    (refine aC_region ?_ <;> refine xL 4 q_assign ?_ <;> refine aL_end (nav ?_) <;> try dsimp only)
    refine ret_shr (Tryz.results79) rfl ?_
    have h1 : l.all (fun x => decide (0 ≤ x) && decide (x < n)) = true := by
     rw [List.all_eq_true]
     intro z hz
     obtain ⟨j, hj, rfl⟩ := List.getElem_of_mem hz
     have h2 := (hp j _ (by omega) (List.getElem?_eq_getElem hj)).1
     simp [h2.1, h2.2]
    have h2 : chainB ltI l = true := chainB_end fun j x y h1 hy hx => (hp j x (by have := lt_of_get hx; omega) hx).2 y h1 hy
    unfold stOk
    rw [h1, h2]; rfl)
theorem aut_no {a : Aut} (h : a.n < 0 ∨ 2000 < a.n ∨ a.syms < 0 ∨ 40 < a.syms ∨ 20000 < a.moves.length ∨ stOk a.n a.start = false ∨ stOk a.n a.fin = false ∨ a.moves.all (mvOk a) = false ∨ chainB mvLt a.moves = false) : autOk a = false := by
 unfold autOk
 rcases h with h | h | h | h | h | h | h | h | h
 · rw [decide_eq_false (by omega : ¬ 0 ≤ a.n)]; simp
 · rw [decide_eq_false (by omega : ¬ a.n ≤ 2000)]; simp
 · rw [decide_eq_false (by omega : ¬ 0 ≤ a.syms)]; simp
 · rw [decide_eq_false (by omega : ¬ a.syms ≤ 40)]; simp
 · rw [decide_eq_false (by omega : ¬ a.moves.length ≤ 20000)]; simp
 · rw [h]; simp
 · rw [h]; simp
 · rw [h]; simp
 · rw [h]; simp
theorem aValid_e (a : Aut) : AF Tryz.prog 24 [pAut a] (· = pBool (autOk a)) := by
 refine AF.of_body 103 Tryz.func24 rfl Tryz.ntmps24 (Nat.le_of_ble_eq_true rfl) ?_
 intro w0 M0 vs hl hv
 obtain ⟨v0, rfl⟩ := len1 hl
 clear hl hv
 refine nav ?_
 (refine aC_region ?_ <;> refine s_boxa 1 5 fun h1 => ?_ <;> refine xL 2 q_assign ?_ <;> refine aL_end (nav ?_) <;> try dsimp only)
 (refine aC_region ?_ <;> refine xL 5 (q_fldo 1 tFl25_0_LdI) ?_ <;> (refine yL 6 (q_ldo 1 tNa3_LbB) fun v6 hv6 => ?_; cases hv6) <;> refine xL 7 q_lss ?_ <;> refine xL 8 q_move ?_ <;> (refine bLd 8 (fun hb8 => ?_) (fun hb8 => ?_) <;> (first | refine kL 9 ?_ | refine xL 9 (q_fldo 1 tFl25_0_LdI) ?_)) <;> (first | refine kL 10 ?_ | (refine yL 10 (q_ldo 1 tNa3_LbB) fun v10 hv10 => ?_; cases hv10)) <;> (first | refine kL 11 ?_ | refine xL 11 q_gtr ?_) <;> refine xL 12 q_pick ?_ <;> refine xL 13 q_move ?_ <;> (first | refine kL 14 ?_ | (refine bLd 13 (fun hb13 => ?_) (fun hb13 => ?_) <;> (first | refine kL 14 ?_ | refine xL 14 (q_fldo 1 tFl25_1_LdI) ?_))) <;> (first | refine kL 15 ?_ | (refine yL 15 (q_ldo 1 tNa3_LbB) fun v15 hv15 => ?_; cases hv15)) <;> (first | refine kL 16 ?_ | refine xL 16 q_lss ?_) <;> refine xL 17 q_pick ?_ <;> refine xL 18 q_move ?_ <;> (first | refine kL 19 ?_ | (refine bLd 18 (fun hb18 => ?_) (fun hb18 => ?_) <;> (first | refine kL 19 ?_ | refine xL 19 (q_fldo 1 tFl25_1_LdI) ?_))) <;> (first | refine kL 20 ?_ | (refine yL 20 (q_ldo 1 tNa3_LbB) fun v20 hv20 => ?_; cases hv20)) <;> (first | refine kL 21 ?_ | refine xL 21 q_gtr ?_) <;> refine xL 22 q_pick ?_ <;> refine xL 23 q_move ?_ <;> (first | refine kL 24 ?_ | (refine bLd 23 (fun hb23 => ?_) (fun hb23 => ?_) <;> (first | refine kL 24 ?_ | refine xL 24 (q_fldo 1 tFl25_4_LdI) ?_))) <;> (first | refine kL 25 ?_ | (refine yL 25 (q_ldo 1 tNa23_LdI) fun v25 hv25 => ?_; cases hv25)) <;> (first | refine kL 26 ?_ | refine xL 26 (q_len tSl23_LdI) ?_) <;> (first | refine kL 27 ?_ | refine xL 27 q_gtr ?_) <;> refine xL 28 q_pick ?_ <;> refine xL 29 q_move ?_ <;> (first | refine kL 30 ?_ | (refine bLd 29 (fun hb29 => ?_) (fun hb29 => ?_) <;> (first | refine kL 30 ?_ | refine xL 30 (q_fldo 1 tFl25_2_LdI) ?_))) <;> (first | refine kL 31 ?_ | (refine yL 31 (q_ldo 1 tNa22_LdI) fun v31 hv31 => ?_; cases hv31)) <;> (first | refine kL 32 ?_ | refine xL 32 (q_fldo 1 tFl25_0_LdI) ?_) <;> (first | refine kL 33 ?_ | (refine yL 33 (q_ldo 1 tNa3_LbB) fun v33 hv33 => ?_; cases hv33)) <;> (first | refine kL 34 ?_ | (refine cS 34 (cA Tryz.call79 (aStates_e a.start a.n)) fun v34 hv34 => ?_; cases hv34)) <;> (first | refine kL 35 ?_ | refine xL 35 q_not ?_) <;> refine xL 36 q_pick ?_ <;> refine xL 37 q_move ?_ <;> (first | refine kL 38 ?_ | (refine bL 37 (fun hb37 => ?_) (fun hb37 => ?_) <;> (first | refine kL 38 ?_ | refine xL 38 (q_fldo 1 tFl25_3_LdI) ?_))) <;> (first | refine kL 39 ?_ | (refine yL 39 (q_ldo 1 tNa22_LdI) fun v39 hv39 => ?_; cases hv39)) <;> (first | refine kL 40 ?_ | refine xL 40 (q_fldo 1 tFl25_0_LdI) ?_) <;> (first | refine kL 41 ?_ | (refine yL 41 (q_ldo 1 tNa3_LbB) fun v41 hv41 => ?_; cases hv41)) <;> (first | refine kL 42 ?_ | (refine cS 42 (cA Tryz.call79 (aStates_e a.fin a.n)) fun v42 hv42 => ?_; cases hv42)) <;> (first | refine kL 43 ?_ | refine xL 43 q_not ?_) <;> refine xL 44 q_pick ?_ <;> refine aL_end (nav ?_) <;> try dsimp only) <;> (
  (first | refine cCd ?_ ?_ | refine cC ?_ ?_) <;> intro hb44
  · first
    | exact Bool.noConfusion hb44
    | (
     refine nav ?_
     (refine aC_region ?_ <;> refine xL 2 q_assign ?_ <;> refine aL_end (nav ?_) <;> try dsimp only)
     refine ret_shr (Tryz.results24) rfl ?_
     first
      | (rw [aut_no (by omega)])
      | (rw [aut_no (.inr (.inr (.inr (.inr (.inr (.inl (by simpa using hb37)))))))])
      | (rw [aut_no (.inr (.inr (.inr (.inr (.inr (.inr (.inl (by simpa using hb44))))))))]))
  · first
    | exact Bool.noConfusion hb44
    | (
     refine nav ?_
     (refine aC_region ?_ <;> refine xL 45 (q_fldo 1 tFl25_4_LdI) ?_ <;> (refine yL 46 (q_ldo 1 tNa23_LdI) fun v46 hv46 => ?_; cases hv46) <;> refine xL 47 (q_len tSl23_LdI) ?_ <;> refine xL 48 q_move ?_ <;> refine aL_end (nav ?_) <;> try dsimp only)
     refine aC_loop (ι := { k : Nat // k ≤ a.moves.length ∧ ∀ j x, j < k → a.moves[j]? = some x → mvOk a x = true ∧ ∀ y, 1 ≤ j → a.moves[j - 1]? = some y → mvLt y x = true }) (fun k => ⟨[(1, _, _), (45, _, _), (46, _, _), (47, _, _), (48, .int .i64 k.1, pInt k.1)], [(1, _, _)]⟩) (fun k => a.moves.length - k.1) ⟨0, by omega, by omega⟩ (fun a w H => H.weaken ⟨rfl, rfl, rfl, rfl, rfl, trivial⟩ ⟨rfl, trivial⟩) ?_
     rintro ⟨k, hk, hp⟩
     dsimp only
     refine nav ?_
     (refine aC_region ?_ <;> refine xL 49 q_lss ?_ <;> refine aL_end (nav ?_) <;> try dsimp only)
     (first | refine cCd ?_ ?_ | refine cC ?_ ?_) <;> intro hb49
     · first
       | exact Bool.noConfusion hb49
       | (
        obtain ⟨x, hx⟩ := get_some (show k < a.moves.length by omega)
        obtain ⟨y, hy⟩ := get_some (show k - 1 < a.moves.length by omega)
        have e1 := flat_drop cMv_len a.moves k x hx
        have e2 := flat_fit cMv_len hx
        have e3 : ((a.moves.flatMap cMv).drop (((k : Int) - 1).toNat * 3)).take 3 = cMv y := by rw [show ((k : Int) - 1).toNat * 3 = (k - 1) * 3 by omega]; exact flat_drop cMv_len a.moves (k - 1) y hy
        have e4 := flat_fit cMv_len hy
        refine nav ?_
        (refine aC_region ?_ <;> refine xL 50 q_move ?_ <;> refine xL 51 (q_idxN tSl23_LdI) ?_ <;> (refine yL 52 (q_lda tAgg72_LdI) fun v52 hv52 => ?_; cases hv52) <;> refine s_alloc [(.int .i64 0), (.int .i64 0), (.int .i64 0)] 3 4 tZr72_LdI fun h4 => ?_ <;> refine xL 3 q_assign ?_ <;> refine s_sta 4 tAgg72_LdI ?_ <;> refine aL_end (nav ?_) <;> try dsimp only)
        (refine aC_draw (fun i => ([] : List Nat).elem i) [1, 4] (by kernel_rfl) ?_ <;> refine xE 0 53 rfl (q_fldo 4 tFl72_0_LdI) ?_ <;> (refine yE 1 54 rfl (q_ldo 4 tNa3_LbB) fun v54 hv54 => ?_; cases hv54) <;> refine xE 2 55 rfl q_lss ?_ <;> refine xE 3 56 rfl q_move ?_ <;> (refine bDd 56 (fun hb56 => ?_) (fun hb56 => ?_) <;> (first | refine kD 4 57 rfl ?_ | refine xD 4 57 rfl (q_fldo 4 tFl72_0_LdI) ?_)) <;> (first | refine kD 5 58 rfl ?_ | (refine yD 5 58 rfl (q_ldo 4 tNa3_LbB) fun v58 hv58 => ?_; cases hv58)) <;> (first | refine kD 6 59 rfl ?_ | refine xD 6 59 rfl (q_fldo 1 tFl25_0_LdI) ?_) <;> (first | refine kD 7 60 rfl ?_ | (refine yD 7 60 rfl (q_ldo 1 tNa3_LbB) fun v60 hv60 => ?_; cases hv60)) <;> (first | refine kD 8 61 rfl ?_ | refine xD 8 61 rfl q_geq ?_) <;> refine xE 9 62 rfl q_pick ?_ <;> refine xE 10 63 rfl q_move ?_ <;> (first | refine kD 11 64 rfl ?_ | (refine bDd 63 (fun hb63 => ?_) (fun hb63 => ?_) <;> (first | refine kD 11 64 rfl ?_ | refine xD 11 64 rfl (q_fldo 4 tFl72_1_LdI) ?_))) <;> (first | refine kD 12 65 rfl ?_ | (refine yD 12 65 rfl (q_ldo 4 tNa3_LbB) fun v65 hv65 => ?_; cases hv65)) <;> (first | refine kD 13 66 rfl ?_ | refine xD 13 66 rfl q_lss ?_) <;> refine xE 14 67 rfl q_pick ?_ <;> refine xE 15 68 rfl q_move ?_ <;> (first | refine kD 16 69 rfl ?_ | (refine bDd 68 (fun hb68 => ?_) (fun hb68 => ?_) <;> (first | refine kD 16 69 rfl ?_ | refine xD 16 69 rfl (q_fldo 4 tFl72_1_LdI) ?_))) <;> (first | refine kD 17 70 rfl ?_ | (refine yD 17 70 rfl (q_ldo 4 tNa3_LbB) fun v70 hv70 => ?_; cases hv70)) <;> (first | refine kD 18 71 rfl ?_ | refine xD 18 71 rfl (q_fldo 1 tFl25_0_LdI) ?_) <;> (first | refine kD 19 72 rfl ?_ | (refine yD 19 72 rfl (q_ldo 1 tNa3_LbB) fun v72 hv72 => ?_; cases hv72)) <;> (first | refine kD 20 73 rfl ?_ | refine xD 20 73 rfl q_geq ?_) <;> refine xE 21 74 rfl q_pick ?_ <;> refine xE 22 75 rfl q_move ?_ <;> (first | refine kD 23 76 rfl ?_ | (refine bDd 75 (fun hb75 => ?_) (fun hb75 => ?_) <;> (first | refine kD 23 76 rfl ?_ | refine xD 23 76 rfl (q_fldo 4 tFl72_2_LdI) ?_))) <;> (first | refine kD 24 77 rfl ?_ | (refine yD 24 77 rfl (q_ldo 4 tNa3_LbB) fun v77 hv77 => ?_; cases hv77)) <;> (first | refine kD 25 78 rfl ?_ | refine xD 25 78 rfl q_lss ?_) <;> refine xE 26 79 rfl q_pick ?_ <;> refine xE 27 80 rfl q_move ?_ <;> (first | refine kD 28 81 rfl ?_ | (refine bDd 80 (fun hb80 => ?_) (fun hb80 => ?_) <;> (first | refine kD 28 81 rfl ?_ | refine xD 28 81 rfl (q_fldo 4 tFl72_2_LdI) ?_))) <;> (first | refine kD 29 82 rfl ?_ | (refine yD 29 82 rfl (q_ldo 4 tNa3_LbB) fun v82 hv82 => ?_; cases hv82)) <;> (first | refine kD 30 83 rfl ?_ | refine xD 30 83 rfl (q_fldo 1 tFl25_1_LdI) ?_) <;> (first | refine kD 31 84 rfl ?_ | (refine yD 31 84 rfl (q_ldo 1 tNa3_LbB) fun v84 hv84 => ?_; cases hv84)) <;> (first | refine kD 32 85 rfl ?_ | refine xD 32 85 rfl q_geq ?_) <;> refine xE 33 86 rfl q_pick ?_ <;> refine xE 34 87 rfl q_move ?_ <;> (first | refine kD 35 88 rfl ?_ | (refine bDd 87 (fun hb87 => ?_) (fun hb87 => ?_) <;> (first | refine kD 35 88 rfl ?_ | refine xD 35 88 rfl q_move ?_))) <;> (first | refine kD 36 89 rfl ?_ | refine xD 36 89 rfl q_gtr ?_) <;> (first | refine kD 37 90 rfl ?_ | refine xD 37 90 rfl q_move ?_) <;> (first | refine kD 38 91 rfl ?_ | (refine bDd 90 (fun hb90 => ?_) (fun hb90 => ?_) <;> (first | refine kD 38 91 rfl ?_ | refine xD 38 91 rfl (q_fldo 1 tFl25_4_LdI) ?_))) <;> (first | refine kD 39 92 rfl ?_ | (refine yD 39 92 rfl (q_ldo 1 tNa23_LdI) fun v92 hv92 => ?_; cases hv92)) <;> (first | refine kD 40 93 rfl ?_ | refine xD 40 93 rfl q_move ?_) <;> (first | refine kD 41 94 rfl ?_ | refine xD 41 94 rfl q_sub ?_) <;> (first | refine kD 42 95 rfl ?_ | refine xD 42 95 rfl (q_idx tSl23_LdI) ?_) <;> (first | refine kD 43 96 rfl ?_ | (refine yD 43 96 rfl (q_lda tAgg72_LdI) fun v96 hv96 => ?_; cases hv96)) <;> (first | refine kD 44 97 rfl ?_ | (refine yD 44 97 rfl (q_ldao 4 tAgg72_LdI) fun v97 hv97 => ?_; cases hv97)) <;> (refine aD_one 45 (by kernel_rfl) ?_) <;> (refine aW_run rfl fun w9 M9 N9 DQ back => ?_) <;> (first | refine kL 98 ?_ | (refine cS 98 (cA Tryz.call80 ((aCmpMoves_g y x).af)) fun v98 hv98 => ?_; cases hv98)) <;> refine aL_end (back _ (nrm ?_)) <;> (first | refine kD 46 99 rfl ?_ | refine xD 46 99 rfl q_geq ?_) <;> (first | refine kD 47 100 rfl ?_ | refine xD 47 100 rfl q_pick ?_) <;> refine xE 48 101 rfl q_pick ?_ <;> refine aD_end (by kernel_rfl) (nav ?_) <;> try dsimp only) <;> (
         (first | refine cCd ?_ ?_ | refine cC ?_ ?_) <;> intro hb101
         · first
           | exact Bool.noConfusion hb101
           | (
            refine nav ?_
            (refine aC_region ?_ <;> refine xL 2 q_assign ?_ <;> refine aL_end (nav ?_) <;> try dsimp only)
            refine ret_shr (Tryz.results24) rfl ?_
            first
             | rw [aut_no (.inr (.inr (.inr (.inr (.inr (.inr (.inr (.inl (all_stop hx (show mvOk a x = false by unfold mvOk; simp only [Bool.and_eq_false_iff, decide_eq_false_iff_not]; omega))))))))))]
             | rw [aut_no (.inr (.inr (.inr (.inr (.inr (.inr (.inr (.inr (chainB_stop (by omega) hy hx (show mvLt y x = false from decide_eq_false (by omega)))))))))))])
         · first
           | exact Bool.noConfusion hb101
           | (
            refine nav ?_
            (refine aC_region ?_ <;> refine xL 102 q_add ?_ <;> refine xL 48 q_move ?_ <;> refine aL_end (nav ?_) <;> try dsimp only)
            refine aN_again (
             ⟨k + 1, by omega, fun j z hj hz => by
              by_cases e : j = k
              · subst e; rw [hx] at hz; cases hz
                refine ⟨by unfold mvOk; simp only [Bool.and_eq_true, decide_eq_true_eq]; omega, fun y' h1 hy' => ?_⟩
                rw [hy] at hy'; cases hy'
                first | omega | exact decide_eq_true (by omega)
              · exact hp j z (by omega) hz⟩
             ) (by dsimp only; omega) ⟨rfl, rfl, rfl, rfl, rfl, trivial⟩ ⟨rfl, trivial⟩)))
     · first
       | exact Bool.noConfusion hb49
       | (
        refine nav ?_
        (refine aC_region ?_ <;> refine xL 2 q_assign ?_ <;> refine aL_end (nav ?_) <;> try dsimp only)
        refine ret_shr (Tryz.results24) rfl ?_
        have h7 : a.moves.all (mvOk a) = true := all_end fun j x hj => (hp j x (by have := lt_of_get hj; omega) hj).1
        have h8 : chainB mvLt a.moves = true := chainB_end fun j x y h1 hy hx => (hp j x (by have := lt_of_get hx; omega) hx).2 y h1 hy
        have h1 : stOk a.n a.start = true := by simpa using hb37
        have h2 : stOk a.n a.fin = true := by simpa using hb44
        unfold autOk
        rw [h1, h2, h7, h8, decide_eq_true (by omega : 0 ≤ a.n), decide_eq_true (by omega : a.n ≤ 2000), decide_eq_true (by omega : 0 ≤ a.syms), decide_eq_true (by omega : a.syms ≤ 40), decide_eq_true (by omega : a.moves.length ≤ 20000)]; rfl)))
theorem tFl125_2_LdJ : FldT Tryz.prog 125 2 2 = true := by kernel_rfl
theorem tNa4_LdJ : NoAgg Tryz.prog 4 = true := by kernel_rfl
theorem tNa66_LdJ : NoAgg Tryz.prog 66 = true := by kernel_rfl
theorem tNa77_LdJ : NoAgg Tryz.prog 77 = true := by kernel_rfl
theorem tSl66_LdJ : SlT Tryz.prog 66 4 1 = true := by kernel_rfl
theorem tSz3_LdJ : (Tryz.prog.info? 3).map (·.size) = some 1 := by kernel_rfl
def cI (x : Int) : List PV := [pInt x]
theorem cI_len (x : Int) : (cI x).length = 1 := rfl
theorem map_cI (l : List Int) : l.map pInt = l.flatMap cI := by
 induction l with
 | nil => rfl
 | cons x l ih => rw [List.map_cons, List.flatMap_cons, ih]; rfl
theorem share_ints (e n : Nat) (l : List Int) (hn : n = l.length) : share (.own e 1 n (l.map pInt)) = pInts l := by
 subst hn
 rw [share, shares_eq, List.map_map]; rfl
theorem rowF_setI {p : Int → Bool} {l : List Int} {k : Nat} {x : Int} (hx : l[k]? = some x) (h : p x = false) : ((rowF p l k).map pInt).set (keptF p l k).length (pInt x) = (rowF p l (k + 1)).map pInt := by
 have h1 := rowF_set (f := cI) cI_len hx h
 rw [Nat.mul_one, ← map_cI, ← map_cI] at h1
 exact h1
theorem delInt_e (f : Nat) (caps : List PV) (p : Int → Bool) (l : List Int) (hl : l.length ≤ 1000000) (hv g : Value) (hc : ∀ args w, (callFunc f args).run Tryz.prog w = .ok (.enter f args) w) (hf : ∀ s ∈ l, AF Tryz.prog f (pInt s :: caps) (· = pBool (p s))) :
 AFh False Tryz.prog 98 [(0, hv, .val hv), (1, g, .fn f caps)] [(1000, hv, .own 3 1 l.length (l.map pInt))] (fun v q h => q = .val v ∧ h = [(1000, v, .own 3 1 (l.filter fun s => !p s).length ((l.filter fun s => !p s).map pInt))]) := by
 refine AFh.of_body 42 Tryz.func98 rfl Tryz.ntmps98 (Nat.le_of_ble_eq_true rfl) rfl ?_
 intro w0 M0 N0
 have hq := share_ints 3 l.length l rfl
 refine nav ?_
 (refine aC_region ?_ <;> refine xL 4 q_assign ?_ <;> refine aL_end (nav ?_) <;> try dsimp only)
 (refine aC_region ?_ <;> refine xL 8 q_move ?_ <;> refine xL 9 q_move ?_ <;> (refine cS 10 (cB rfl Tryz.call111 (indexFuncInt_e f caps p l hc hf) ⟨⟨_, _, rfl, hq ▸ reads_own (l := 1000) rfl⟩, ⟨_, _, rfl, reads_slot (x := .tmp 9) rfl⟩, trivial⟩) fun v10 hv10 => ?_; cases hv10) <;> refine xL 5 q_assign ?_ <;> refine aL_end (nav ?_) <;> try dsimp only)
 (refine aC_region ?_ <;> refine xL 11 q_move ?_ <;> refine xL 12 q_eql ?_ <;> refine aL_end (nav ?_) <;> try dsimp only)
 (first | refine cCd ?_ ?_ | refine cC ?_ ?_) <;> intro hb12
 · first
   | exact Bool.noConfusion hb12
   | (
    refine nav ?_
    (refine aC_region ?_ <;> refine xL 13 q_move ?_ <;> refine xL 4 q_assign ?_ <;> refine aL_end (nav ?_) <;> try dsimp only)
    refine ret_h [(1000, hv, PV.own 3 1 l.length (l.map pInt))] (Tryz.results98) rfl ⟨rfl, trivial⟩ ⟨rfl, ?_⟩
    rw [List.filter_eq_self.2 fun s hs => ?_]
    rcases idx_nat (p := p) (l := l) with ⟨_, h⟩ | ⟨i0, x0, h, _⟩
    · rw [h s hs]; rfl
    · exfalso; omega)
 · first
   | exact Bool.noConfusion hb12
   | (
    obtain ⟨i0, x0, hi0, hx0, hp0, hn0⟩ := (idx_nat (p := p) (l := l)).resolve_left fun h => hb12 h.1
    have hlt0 := lt_of_get hx0
    have hk0 : keptF p l (i0 + 1) = l.take i0 := by rw [keptF_yes hx0 hp0, keptF_all hn0]
    rw [hi0]
    refine nav ?_
    (refine aC_region ?_ <;> refine xL 14 q_move ?_ <;> refine xL 15 q_add ?_ <;> refine xL 6 q_assign ?_ <;> refine aL_end (nav ?_) <;> try dsimp only)
    refine aC_loop (ι := { q : Nat × Nat × List PV // q.1 ≤ l.length ∧ q.2.1 = (keptF p l q.1).length ∧ q.2.2 = (rowF p l q.1).map pInt }) (fun k => ⟨[(0, _, _), (1, _, _), (5, .int .i64 k.1.2.1, pInt k.1.2.1), (6, .int .i64 k.1.1, pInt k.1.1)], [(1000, hv, .own 3 1 l.length k.1.2.2)]⟩) (fun k => l.length - k.1.1) ⟨(i0 + 1, i0, l.map pInt), hlt0, (by dsimp only; rw [hk0, List.length_take]; omega), (by dsimp only; unfold rowF; rw [hk0, List.length_take, Nat.min_eq_left (by omega), List.take_append_drop])⟩ (fun a w H => H.weaken ⟨rfl, rfl, rfl, rfl, trivial⟩ ⟨rfl, trivial⟩) ?_
    rintro ⟨⟨k, j, row⟩, hk, hj, hr⟩
    dsimp only
    dsimp only at hk hj hr
    have hle := keptF_le p l k
    have hjl : j ≤ l.length := by omega
    have hjl2 : (j : Int) ≤ 1000000 := by omega
    have hrl : row.length = l.length := by rw [hr, List.length_map, rowF_len p l hk]
    refine nav ?_
    (refine aC_region ?_ <;> refine xL 16 q_move ?_ <;> refine xL 17 q_move ?_ <;> refine xL 18 (q_leno 1000 tSl22_LbB) ?_ <;> refine xL 19 q_lss ?_ <;> refine aL_end (nav ?_) <;> try dsimp only)
    (first | refine cCd ?_ ?_ | refine cC ?_ ?_) <;> intro hb19
    · first
      | exact Bool.noConfusion hb19
      | (
       obtain ⟨x, hx⟩ := get_some (show k < l.length by omega)
       have e1 : row[k * 1]? = some (pInt x) := by rw [hr, Nat.mul_one, List.getElem?_map, rowF_at hx]; rfl
       have e3 : j < row.length := by rw [hrl]; have := lt_of_get hx; omega
       refine nav ?_
       (refine aC_region ?_ <;> refine xL 22 q_move ?_ <;> refine xL 23 q_move ?_ <;> refine xL 24 (q_idxoN 1000 tSl22_LbB) ?_ <;> (refine yL 25 (q_ldo 1000 tNa3_LbB) fun v25 hv25 => ?_; cases hv25) <;> refine xL 7 q_assign ?_ <;> refine aL_end (nav ?_) <;> try dsimp only)
       (refine aC_region ?_ <;> refine xL 26 q_move ?_ <;> refine xL 27 q_move ?_ <;> (refine cS 28 (callF (f := f) (ps := caps) rfl ⟨_, rfl⟩ hc rfl (hf x (List.mem_of_getElem? hx))) fun v28 hv28 => ?_; cases hv28) <;> refine xL 29 q_not ?_ <;> refine aL_end (nav ?_) <;> try dsimp only)
       (first | refine cCd ?_ ?_ | refine cC ?_ ?_) <;> intro hb29
       · first
         | exact Bool.noConfusion hb29
         | (
          refine nav ?_
          (refine aC_region ?_ <;> refine xL 30 q_move ?_ <;> refine xL 31 q_move ?_ <;> refine xL 32 q_move ?_ <;> refine xL 33 (q_idxoN 1000 tSl22_LbB) ?_ <;> refine s_st 1000 tNa3_LbB tSz3_LdJ ?_ <;> refine aL_end (nav ?_) <;> try dsimp only)
          (refine aC_region ?_ <;> refine xL 34 q_move ?_ <;> refine xL 35 q_add ?_ <;> refine xL 5 q_assign ?_ <;> refine aL_end (nav ?_) <;> try dsimp only)
          (refine aC_region ?_ <;> refine xL 20 q_move ?_ <;> refine xL 21 q_add ?_ <;> refine xL 6 q_assign ?_ <;> refine aL_end (nav ?_) <;> try dsimp only)
          first
           | (exact aN_again (
               ⟨(k + 1, j, row), lt_of_get hx, (by dsimp only; rw [keptF_yes hx (by simpa using hb29)]; exact hj), (by dsimp only; rw [hr]; unfold rowF; rw [keptF_yes hx (by simpa using hb29)])⟩
               ) (by dsimp only; omega) ⟨rfl, rfl, rfl, rfl, trivial⟩ ⟨rfl, trivial⟩)
           | (exact aN_again (
               ⟨(k + 1, j + 1, row.set (j * 1) (pInt x)), lt_of_get hx, (by show j + 1 = (keptF p l (k + 1)).length; rw [keptF_no hx (by simpa using hb29)]; simp [hj]), (by show row.set (j * 1) (pInt x) = (rowF p l (k + 1)).map pInt; rw [hr, hj, Nat.mul_one]; exact rowF_setI hx (by simpa using hb29))⟩
               ) (by dsimp only; omega) ⟨rfl, rfl, rfl, rfl, trivial⟩ ⟨rfl, trivial⟩))
       · first
         | exact Bool.noConfusion hb29
         | (
          refine nav ?_
          (refine aC_region ?_ <;> refine xL 20 q_move ?_ <;> refine xL 21 q_add ?_ <;> refine xL 6 q_assign ?_ <;> refine aL_end (nav ?_) <;> try dsimp only)
          first
           | (exact aN_again (
               ⟨(k + 1, j, row), lt_of_get hx, (by dsimp only; rw [keptF_yes hx (by simpa using hb29)]; exact hj), (by dsimp only; rw [hr]; unfold rowF; rw [keptF_yes hx (by simpa using hb29)])⟩
               ) (by dsimp only; omega) ⟨rfl, rfl, rfl, rfl, trivial⟩ ⟨rfl, trivial⟩)
           | (exact aN_again (
               ⟨(k + 1, j + 1, row.set (j * 1) (pInt x)), lt_of_get hx, (by show j + 1 = (keptF p l (k + 1)).length; rw [keptF_no hx (by simpa using hb29)]; simp [hj]), (by show row.set (j * 1) (pInt x) = (rowF p l (k + 1)).map pInt; rw [hr, hj, Nat.mul_one]; exact rowF_setI hx (by simpa using hb29))⟩
               ) (by dsimp only; omega) ⟨rfl, rfl, rfl, rfl, trivial⟩ ⟨rfl, trivial⟩)))
    · first
      | exact Bool.noConfusion hb19
      | (
       have hkl : k = l.length := by omega
       refine nav ?_
       (refine aC_region ?_ <;> refine xL 36 q_move ?_ <;> refine xL 37 q_move ?_ <;> refine xL 38 (y_slc_own (i := j) (j := l.length) 1000 tSl22_LbB rfl rfl rfl rfl rfl hjl (Nat.le_refl _)) ?_ <;> (refine aL_clear 1000 tEl22_LdI (by decide) rfl rfl rfl rfl rfl hjl ?_; intro cs2 hcs1 hcs2) <;> refine aL_end (nav ?_) <;> try dsimp only)
       (refine aC_region ?_ <;> refine xL 39 q_move ?_ <;> refine xL 40 q_move ?_ <;> refine xL 41 (y_slc_own (i := 0) (j := j) 1000 tSl22_LbB rfl rfl rfl rfl rfl (Nat.zero_le _) hjl) ?_ <;> refine xL 4 q_assign ?_ <;> refine aL_end (nav ?_) <;> try dsimp only)
       refine aR_ent (trim (l := 1000) j rfl hjl) fun _ => ?_
       refine ret_h [(1000, slc hv 0 j 1, PV.own 3 1 j (cs2.take (j * 1)))] (Tryz.results98) rfl ⟨rfl, trivial⟩ ⟨rfl, ?_⟩
       have hF : (l.filter fun s => !p s) = keptF p l k := by unfold keptF; rw [hkl, List.take_length]
       rw [hcs2, hr, hF, ← hj]
       congr 4
       unfold rowF
       rw [List.map_append, Nat.mul_one, List.take_left' (by rw [List.length_map, hj])]))
theorem cloneIntW_e (l : List Int) (hl : l.length ≤ 1000000) : AF Tryz.prog 51 [pInts l] (· = .own 3 1 l.length (l.map pInt)) := by
 refine AF.of_body 8 Tryz.func51 rfl Tryz.ntmps51 (Nat.le_of_ble_eq_true rfl) ?_
 intro w0 M0 vs hl hv
 obtain ⟨v0, rfl⟩ := len1 hl
 clear hl hv
 have f3 : (l.map pInt).length = l.length * 1 := by rw [List.length_map, Nat.mul_one]
 have f4 : (l.map pInt).all En.one = true := by rw [List.all_map, List.all_eq_true]; intro x _; rfl
 refine nav ?_
 (refine aC_region ?_ <;> refine xL 2 q_assign ?_ <;> refine aL_end (nav ?_) <;> try dsimp only)
 (refine aC_region ?_ <;> refine xL 3 q_move ?_ <;> (refine yL 4 (q_eqnil tSl22_LbB) fun v4 hv4 => ?_; rcases hv4 with rfl | ⟨rfl, hn0⟩) <;> refine aL_end (nav ?_) <;> try dsimp only) <;> (
  (first | refine cCd ?_ ?_ | refine cC ?_ ?_) <;> intro hb4
  · first
    | exact Bool.noConfusion hb4
    | (
     refine nav ?_
     (refine aC_region ?_ <;> refine xL 2 q_assign ?_ <;> refine aL_end (nav ?_) <;> try dsimp only)
     have hl0 : l = [] := List.eq_nil_of_length_eq_zero hn0
     subst hl0
     refine aR_ent (nilOwn 200 3 1 rfl) fun _ => ?_
     exact ret_own 200 (Tryz.results51) rfl rfl rfl)
  · first
    | exact Bool.noConfusion hb4
    | (
     refine nav ?_
     (refine aC_region ?_ <;> refine s_lit0 5 tEl22_LdI fun h5 ho5 => ?_ <;> refine xL 6 q_move ?_ <;> refine s_apps 5 7 tEl22_LdI (fun h7 ho7 => ?_) f3 f4 <;> refine xL 2 q_assign ?_ <;> refine aL_end (nav ?_) <;> try dsimp only)
     refine ret_own 7 (Tryz.results51) rfl rfl ?_
     rw [Nat.zero_add, List.nil_append]))
def farB (far : List Int) (n : Int) (s : Int) : Bool := match far[s.toNat]? with
 | some d => decide (d < 0) || decide (n < d)
 | none => false
def nearL (l far : List Int) (n : Int) : List Int := l.filter fun s => !farB far n s
theorem aNear1_e (far : List Int) (n s : Int) (h0 : 0 ≤ s) (h1 : s < far.length) : AF Tryz.prog 99 [pInt s, .sptr 0 [pInts far], .sptr 0 [pInt n]] (· = pBool (farB far n s)) := by
 refine AF.of_body 18 Tryz.func99 rfl Tryz.ntmps99 (Nat.le_of_ble_eq_true rfl) ?_
 intro w0 M0 vs hl hv
 obtain ⟨v0, v1, v2, rfl⟩ := len3 hl
 obtain rfl := hv 0 _ _ rfl rfl
 clear hl hv
 obtain ⟨d, hd⟩ := get_some (show s.toNat < far.length by omega)
 have e1 : (far.map pInt)[s.toNat * 1]? = some (pInt d) := by rw [Nat.mul_one, List.getElem?_map, hd]; rfl
 refine nav ?_
 (refine aC_region ?_ <;> refine xL 4 q_assign ?_ <;> refine aL_end (nav ?_) <;> try dsimp only)
 (refine aC_draw (fun i => ([] : List Nat).elem i) [] (by kernel_rfl) ?_ <;> (refine yD 0 5 rfl (q_ld tNa22_LdI) fun v5 hv5 => ?_; cases hv5) <;> refine xE 1 6 rfl q_move ?_ <;> refine xE 2 7 rfl (q_idx tSl22_LbB) ?_ <;> (refine yE 3 8 rfl (q_ld tNa3_LbB) fun v8 hv8 => ?_; cases hv8) <;> refine xE 4 9 rfl q_lss ?_ <;> refine xE 5 10 rfl q_move ?_ <;> (refine bDd 10 (fun hb10 => ?_) (fun hb10 => ?_) <;> (first | refine kD 6 11 rfl ?_ | (refine yD 6 11 rfl (q_ld tNa22_LdI) fun v11 hv11 => ?_; cases hv11))) <;> (first | refine kD 7 12 rfl ?_ | refine xD 7 12 rfl q_move ?_) <;> (first | refine kD 8 13 rfl ?_ | refine xD 8 13 rfl (q_idx tSl22_LbB) ?_) <;> (first | refine kD 9 14 rfl ?_ | (refine yD 9 14 rfl (q_ld tNa3_LbB) fun v14 hv14 => ?_; cases hv14)) <;> (first | refine kD 10 15 rfl ?_ | (refine yD 10 15 rfl (q_ld tNa3_LbB) fun v15 hv15 => ?_; cases hv15)) <;> (first | refine kD 11 16 rfl ?_ | refine xD 11 16 rfl q_gtr ?_) <;> refine xE 12 17 rfl q_pick ?_ <;> refine xE 13 4 rfl q_assign ?_ <;> refine aD_end (by kernel_rfl) (nav ?_) <;> try dsimp only) <;> (
  refine ret_shr (Tryz.results99) rfl ?_
  unfold farB
  rw [hd]
  show _ = pBool (decide (d < 0) || decide (n < d))
  first
   | (rw [decide_eq_true hb10]; rfl)
   | (rw [decide_eq_false hb10]; rfl))
theorem aNear_e (l far : List Int) (n : Int) (hl : l.length ≤ 1000000) (hs : ∀ s ∈ l, 0 ≤ s ∧ s < far.length) : AF Tryz.prog 60 [pInts l, pInts far, pInt n] (· = .own 3 1 (nearL l far n).length ((nearL l far n).map pInt)) := by
 refine AF.of_body 11 Tryz.func60 rfl Tryz.ntmps60 (Nat.le_of_ble_eq_true rfl) ?_
 intro w0 M0 vs hl hv
 obtain ⟨v0, v1, v2, rfl⟩ := len3 hl
 obtain rfl := hv 2 _ _ rfl rfl
 clear hl hv
 refine nav ?_
 (refine aC_region ?_ <;> refine s_box 4 fun h4 => ?_ <;> refine s_box 5 fun h5 => ?_ <;> refine xL 6 q_assign ?_ <;> refine aL_end (nav ?_) <;> try dsimp only)
 refine aC_ent (freezeP (l := 4) (t := 4) (j := 0) rfl Nat.one_pos rfl) fun _ => ?_
 refine aC_ent (freezeP (l := 5) (t := 5) (j := 0) rfl Nat.one_pos rfl) fun _ => ?_
 (refine aC_region ?_ <;> refine xL 7 q_move ?_ <;> refine cO 8 (cA Tryz.call51 (cloneIntW_e l hl)) fun v8 ho8 => ?_ <;> refine xL 9 q_mkfn ?_ <;> (refine aL_ent (relabel (l := 8) 1000 rfl rfl) fun _ => ?_; refine aL_heap [(1000, _, _)] ⟨rfl, trivial⟩ ?_; refine aL_ch [] 10 (Tryz.call98) (delInt_e 99 [.sptr 0 [pInts far], .sptr 0 [pInt n]] (farB far n) l hl v8 _ (Tryz.call99) (fun s hm => aNear1_e far n s (hs s hm).1 (hs s hm).2)) ?_; rintro v10 _ _ ⟨rfl, rfl⟩) <;> refine xL 6 q_assign ?_ <;> refine aL_end (nav ?_) <;> try dsimp only)
 exact ret_own 1000 (Tryz.results60) rfl rfl rfl
def movesOf (a : Aut) (s : Nat) : List Mv := a.moves.filter fun m => decide (m.src = (s : Int))
def finB (a : Aut) (s : Int) : Bool := a.fin.any fun t => decide (t = s)
def grMoves (a : Aut) : PV := .sl a.n.toNat ((List.range a.n.toNat).map fun s => pMvs (movesOf a s))
def grFin (a : Aut) : PV := .sl a.n.toNat ((List.range a.n.toNat).map fun s => pBool (finB a (s : Nat)))
def pGr (a : Aut) : PV := .sptr 0 [pInt a.syms, grMoves a, grFin a]
theorem range_at {N k : Nat} (h : k < N) (f : Nat → PV) : ((List.range N).map f)[k]? = some (f k) := by
 rw [List.getElem?_map, List.getElem?_range h]; rfl
theorem aAccepts1_e (a : Aut) (s : Int) (h0 : 0 ≤ s) (h1 : s < a.n) : AF Tryz.prog 102 [pInt s, .sptr 0 [pGr a]] (· = pBool (finB a s)) := by
 refine AF.of_body 11 Tryz.func102 rfl Tryz.ntmps102 (Nat.le_of_ble_eq_true rfl) ?_
 intro w0 M0 vs hl hv
 obtain ⟨v0, v1, rfl⟩ := len2 hl
 obtain rfl := hv 0 _ _ rfl rfl
 clear hl hv
 have e1 : ((List.range a.n.toNat).map fun s => pBool (finB a (s : Nat)))[s.toNat * 1]? = some (pBool (finB a s)) := by rw [Nat.mul_one, range_at (by omega)]; rw [show ((s.toNat : Nat) : Int) = s by omega]
 have e2 : s.toNat < a.n.toNat := by omega
 refine nav ?_
 (refine aC_region ?_ <;> refine xL 3 q_assign ?_ <;> refine aL_end (nav ?_) <;> try dsimp only)
 (refine aC_region ?_ <;> (refine yL 4 (q_ld tNa77_LdJ) fun v4 hv4 => ?_; cases hv4) <;> refine xL 5 q_nilp ?_ <;> refine xL 6 (q_fld tFl125_2_LdJ) ?_ <;> (refine yL 7 (q_ld tNa66_LdJ) fun v7 hv7 => ?_; cases hv7) <;> refine xL 8 q_move ?_ <;> refine xL 9 (q_idx tSl66_LdJ) ?_ <;> (refine yL 10 (q_ld tNa4_LdJ) fun v10 hv10 => ?_; cases hv10) <;> refine xL 3 q_assign ?_ <;> refine aL_end (nav ?_) <;> try dsimp only)
 exact ret_shr Tryz.results102 rfl rfl
theorem aAccepts_e (a : Aut) (l : List Int) (hs : ∀ s ∈ l, 0 ≤ s ∧ s < a.n) : AF Tryz.prog 62 [pGr a, pInts l] (· = pBool (l.any (finB a))) := by
 refine AF.of_body 8 Tryz.func62 rfl Tryz.ntmps62 (Nat.le_of_ble_eq_true rfl) ?_
 intro w0 M0 vs hl hv
 obtain ⟨v0, v1, rfl⟩ := len2 hl
 clear hl hv
 refine nav ?_
 (refine aC_region ?_ <;> refine s_box 2 fun h2 => ?_ <;> refine xL 4 q_assign ?_ <;> refine aL_end (nav ?_) <;> try dsimp only)
 refine aC_ent (freezeP (l := 2) (t := 2) (j := 0) rfl Nat.one_pos rfl) fun _ => ?_
 (refine aC_region ?_ <;> refine xL 5 q_move ?_ <;> refine xL 6 q_mkfn ?_ <;> (refine cS 7 (cA Tryz.call76 (containsFuncInt_e 102 [.sptr 0 [pGr a]] (finB a) l (Tryz.call102) (fun s hm => aAccepts1_e a s (hs s hm).1 (hs s hm).2))) fun v7 hv7 => ?_; cases hv7) <;> refine xL 4 q_assign ?_ <;> refine aL_end (nav ?_) <;> try dsimp only)
 exact ret_shr Tryz.results62 rfl rfl
end Go.Proofs.YtgigclnaicbiaaaGreatDoor
