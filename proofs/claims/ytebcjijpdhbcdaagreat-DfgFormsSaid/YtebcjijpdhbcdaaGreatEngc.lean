/-
  The engine: ranging over a map that is read. No program in sight.
  The engine: maps whose keys are pairs of strings. No program in sight.
  The engine: owned structs behind pointers, handed back and opened. No program in sight.
  The engine: calls that change what the caller owns. No program in sight.
  The engine: structs of plain values are compared. No program in sight.
  The engine: what an owned thing reads as, written otherwise. No program in sight.
  The engine: literals of structs. No program in sight.
  The engine: a contract's result, read otherwise. No program in sight.
-/
import Derived.Maps.RangeRun
import Derived.DeepKeys3
import Derived.Lib.SliceRun
import Derived.Laws.StructEq
import Derived.Test.YtebcjijpdhbcdaaGreatEngb
namespace Go.En
open Go.RowKit Go.Cb
open Go.ChangeMaps (setBlock)
set_option linter.all false
def itv (r : Nat) : Value := .pointer (some ⟨r, 0, none⟩)
def itP (b r clock : Nat) (es : Array MapEntry) (seen : Array Nat) : PV := .oblk (itv r) r (.mapIter (some b) clock seen clock) [(b, .map es clock)]
def itE (b r clock : Nat) (es : Array MapEntry) (seen : Array Nat) : Ent := (itv r, itP b r clock es seen)
theorem Tr.blk {M : BS} {w : World} {v u : Value} {r : Nat} {ob : Obj} {sh : List (Nat × Obj)} {F : BS} (H : Tr M w v (.oblk u r ob sh) F) : w.heap[r]? = some ob ∧ (∀ p ∈ sh, w.heap[p.1]? = some p.2 ∧ ¬ M p.1) ∧ ∀ x, F x ↔ x = r := by
  cases H with
  | shr h _ => cases h
  | oblk _ h1 h hs hF => exact ⟨h, hs, hF⟩
section
variable {P : Program} {c : Ctx} {ops : Array Oper} {Q : Exit → Act → World → Prop} {rest : List Oper} {sL hP : List (Nat × Ent)} {o : Oper}
theorem aL_range {t ks e : Nat} {x : Operand} {m : Value} {kv : List (Value × Value)} (d : Nat) (ht : P.underlying t = some (.map ks e)) (k : ∀ (b r clock : Nat) (es : Array MapEntry), kv = kvOf es → WfM es clock → aL P c ops Q rest ⟨put d (itv r, .val (itv r)) sL, put d (itE b r clock es #[]) hP⟩)
    (hw : wants ops sL o = some true := by exact rfl) (hd : o.dst = some d := by exact rfl) (hn : d < c.nt := by exact Nat.le_of_ble_eq_true rfl) (ho : o.op = .range t x := by exact rfl) (hx : ev sL x = some (m, .smap kv) := by exact rfl) (hl : lk hP d = none := by exact rfl) : aL P c ops Q (o :: rest) (⟨sL, hP⟩ : St) :=
  aL_run hw fun a w F H => by
    obtain ⟨hv, hS⟩ := H.rd.ev hx
    cases hS with
    | smap b es clock hM h hW =>
      have key : HoldsF c ⟨put d (itv w.heap.size, .val (itv w.heap.size)) sL, put d (itE b w.heap.size clock es #[]) hP⟩ (fun l' => if l' = d then (fun x => x = w.heap.size) else F l') (a.put (some d) (itv w.heap.size)) (w.alloc (.mapIter (some b) clock #[] clock)) := by
        refine H.change (fun l' => l' = d) hn ((Ext.alloc _ _).chg) (fun l' x hne hx' => ?_) (fun l' x b' hT hx' hb => ?_) (fun hm l' u q hT hx' => ?_) (fun l1 l2 _ _ _ h1 h2 hne => absurd (h1.trans h2.symm) hne) (fun hm => .val _)
        · rcases lk_put hx' with ⟨e1, _⟩ | ⟨_, e1⟩
          · exact absurd e1.symm hne
          · exact ⟨e1, by simp [hne]⟩
        · subst hT
          simp only [if_true] at hb
          exact .inr (by rw [hb]; exact Nat.le_refl _)
        · subst hT
          rw [lk_put_self] at hx'
          unfold itE itP at hx'
          cases hx'
          simp only [if_true]
          refine .oblk w.heap.size rfl ?_ (fun p hp => ?_) (fun x => Iff.rfl)
          · show (w.heap.push _)[w.heap.size]? = _
            simp
          · rw [List.mem_singleton] at hp
            subst hp
            exact ⟨(Ext.alloc w _).block h, fun hb => hM (hm b (blk_lt h) hb)⟩
      have hrun : (execOp a.eval o).run P w = .ok (.value (itv w.heap.size)) (w.alloc (.mapIter (some b) clock #[] clock)) := by
        simp [execOp, ho, hv, Instr.range, run_underlying ht, getObj, newObj, Sem.run, h, itv]
      unfold Oper.wp
      rw [hrun, Oper.upon_value, hd]
      exact k _ _ _ _ rfl hW _ _ ⟨_, key⟩
theorem aL_next {x : Operand} {q : PV} {b r clock : Nat} {es : Array MapEntry} {seen : Array Nat} (l d : Nat) (hW : WfM es clock) 
    (k0 : leftOf es seen = #[] → aL P c ops Q rest ⟨put d (.tuple [.bool false].toArray, .tup [.val (.bool false)]) sL, hP⟩)
    (k1 : ∀ e ∈ (leftOf es seen).toList, aL P c ops Q rest ⟨put d (.tuple [.bool true, e.key, e.val].toArray, .tup [.val (.bool true), .val e.key, .val e.val]) sL, put l (itE b r clock es (seen.push e.born)) hP⟩)
    (hw : wants ops sL o = some true := by exact rfl) (hd : o.dst = some d := by exact rfl) (hn : d < c.nt := by exact Nat.le_of_ble_eq_true rfl) (ho : o.op = .next x false := by exact rfl) (hx : ev sL x = some (itv r, q) := by exact rfl) (hl : lk hP l = some (itE b r clock es seen) := by exact rfl) : aL P c ops Q (o :: rest) (⟨sL, hP⟩ : St) :=
  aL_run hw fun a w F H => by
    have hv := (H.rd.ev hx).1
    obtain ⟨h, hs, hF⟩ := (H.tr l _ _ hl).blk
    obtain ⟨hb, hMb⟩ := hs (b, .map es clock) (by simp)
    dsimp only at hb hMb
    rcases run_next_at (P := P) w o.type r b clock clock seen es clock h hb (fun x hx => hW.1 x hx) (Nat.le_refl _) with ⟨h0, hr⟩ | ⟨e, he, w1, hw1, hr⟩
    · have hrun : (execOp a.eval o).run P w = .ok (.value (.tuple [.bool false].toArray)) w := by
        simp [execOp, ho, hv, itv, hr]
      unfold Oper.wp
      rw [hrun, Oper.upon_value, hd]
      refine k0 (Array.eq_empty_of_size_eq_zero h0) _ _ ⟨F, H.put hn (.tup _ _ rfl fun i x p hx hp => ?_)⟩
      match i with
      | 0 => simp at hx hp; subst hx hp; exact .val _
      | i + 1 => simp at hx
    · have hrun : (execOp a.eval o).run P w = .ok (.value (.tuple [.bool true, e.key, e.val].toArray)) (setBlock w1 r (.mapIter (some b) clock (seen.push e.born) clock)) := by
        simp [execOp, ho, hv, itv, hr]
      unfold Oper.wp
      rw [hrun, Oper.upon_value, hd]
      have hlt := blk_lt h
      have hh : w1.heap = w.heap := by rcases hw1 with rfl | rfl <;> rfl
      have hbr : b ≠ r := fun e => by subst e; exact hMb (.inr ⟨l, _, hl, (hF b).2 rfl⟩)
      have hch : Chg (fun x => x = r) w (setBlock w1 r (.mapIter (some b) clock (seen.push e.born) clock)) := by
        refine ⟨by rcases hw1 with rfl | rfl <;> rfl, by rcases hw1 with rfl | rfl <;> rfl, by rcases hw1 with rfl | rfl <;> rfl, ?_, fun i hi hne => ?_⟩
        · show _ ≤ (w1.heap.setIfInBounds r _).size
          rw [hh]; simp
        · show (w1.heap.setIfInBounds r _)[i]? = _
          rw [hh, Array.getElem?_setIfInBounds_ne (fun e => hne e.symm)]
      refine k1 e he _ _ ⟨F, H.change (fun l' => l' = l) hn (hch.wid fun x hx => .inl ⟨l, _, rfl, hl, (hF x).2 hx⟩) (fun l' x hne hx' => ?_) (fun l' x b' hT' hx' hb' => ?_) (fun hmm l' u q hT' hx' => ?_) (fun l1 l2 _ _ _ h1 h2 hne => absurd (h1.trans h2.symm) hne) (fun _ => .tup _ _ rfl fun i x p hx hp => ?_) (fun _ => ?_)⟩
      · rcases lk_put hx' with ⟨e1, _⟩ | ⟨_, e1⟩
        · exact absurd e1.symm hne
        · exact ⟨e1, rfl⟩
      · subst hT'; exact .inl ⟨l', _, rfl, hl, hb'⟩
      · subst hT'
        rw [lk_put_self] at hx'
        unfold itE itP at hx'
        cases hx'
        refine .oblk r rfl ?_ (fun p hp => ?_) hF
        · show (w1.heap.setIfInBounds r _)[r]? = _
          rw [hh]; simp [hlt]
        · rw [List.mem_singleton] at hp
          subst hp
          exact ⟨(hch.block b (blk_lt hb) hbr).trans hb, fun hm => hMb (hmm b (blk_lt hb) hm)⟩
      · match i with
        | 0 => simp at hx hp; subst hx hp; exact .val _
        | 1 => simp at hx hp; subst hx hp; exact .val _
        | 2 => simp at hx hp; subst hx hp; exact .val _
        | i + 3 => simp at hx
      · rcases hw1 with rfl | rfl
        · exact Nat.le_refl _
        · exact Nat.le_succ _
theorem q_entry {st : St} {x : Operand} {q : PV} {b r clock : Nat} {es : Array MapEntry} {seen : Array Nat} {e : MapEntry} (l : Nat) (hW : WfM es clock) (he : e ∈ es.toList) (ho : o.op = .entry x := by exact rfl) (hx : ev st.slots x = some (itv r, q) := by exact rfl) (hl : lk st.heap l = some (itE b r clock es (seen.push e.born)) := by exact rfl) : YE P st o (· = .tuple [e.key, e.val].toArray) (.tup [.val e.key, .val e.val]) := .exact fun M F a w H => by
  have hv := (H.ev hx).1
  obtain ⟨h, hs, hF⟩ := (H.tr l _ _ hl).blk
  obtain ⟨hb, hMb⟩ := hs (b, .map es clock) (by simp)
  have hr := run_entry_at (P := P) w r b clock seen es clock e h hb he hW.2
  refine ⟨.tup _ _ rfl fun i x p hx hp => ?_, by simp [execOp, ho, hv, itv, hr]⟩
  match i with
  | 0 => simp at hx hp; subst hx hp; exact .val _
  | 1 => simp at hx hp; subst hx hp; exact .val _
  | i + 2 => simp at hx
end
theorem left_all (es : Array MapEntry) : leftOf es #[] = es := by
  unfold leftOf
  exact Array.filter_eq_self.2 fun x _ => by simp
theorem left_mem {es : Array MapEntry} {seen : Array Nat} {e : MapEntry} (h : e ∈ (leftOf es seen).toList) : e ∈ es.toList := by
  unfold leftOf at h
  rw [Array.toList_filter] at h
  exact (List.mem_filter.1 h).1
theorem split_one {e : MapEntry} : ∀ {L : List MapEntry}, (L.map (·.born)).Nodup → e ∈ L → L.Perm (e :: L.filter fun x => !(x.born == e.born))
  | a :: L, hn, he => by
    rw [List.map_cons, List.nodup_cons] at hn
    rcases List.mem_cons.1 he with rfl | he
    · rw [List.filter_cons_of_neg (by simp)]
      rw [List.filter_eq_self.2 fun x hx => ?_]
      have : x.born ≠ e.born := fun h => hn.1 (List.mem_map.2 ⟨x, hx, h⟩)
      simpa using this
    · have : a.born ≠ e.born := fun h => hn.1 (List.mem_map.2 ⟨e, he, h.symm⟩)
      rw [List.filter_cons_of_pos (by simpa using this)]
      exact ((split_one hn.2 he).cons a).trans (List.Perm.swap _ _ _)
theorem left_next {es : Array MapEntry} {seen : Array Nat} {e : MapEntry} {clock : Nat} (hW : WfM es clock) (he : e ∈ (leftOf es seen).toList) : (kvOf (leftOf es seen)).Perm ((e.key, e.val) :: kvOf (leftOf es (seen.push e.born))) := by
  have h1 : ((leftOf es seen).toList.map (·.born)).Nodup := by
    unfold leftOf
    rw [Array.toList_filter]
    exact hW.2.sublist (List.filter_sublist.map _)
  have h2 := (split_one h1 he).map fun x => (x.key, x.val)
  unfold kvOf
  refine h2.trans ?_
  rw [List.map_cons]
  refine List.Perm.cons _ (List.Perm.of_eq ?_)
  congr 1
  unfold leftOf
  rw [Array.toList_filter, Array.toList_filter, List.filter_filter]
  refine List.filter_congr fun x _ => ?_
  rw [Array.contains_push]
  cases seen.contains x.born <;> simp [Bool.beq_comm]
end Go.En

namespace Go.En
open Go.RowKit Go.Cb
open Go.ChangeMaps (setBlock)
set_option linter.all false
def ArrT (P : Program) (t len : Nat) : Bool := match P.underlying t with
  | some (.array n e) => Nat.beq n len && (match P.info? e with | some i => Nat.beq i.size 1 | none => false)
  | _ => false
theorem ArrT.run {P : Program} {t len : Nat} (h : ArrT P t len = true) : ∃ e i, P.underlying t = some (.array len e) ∧ P.info? e = some i ∧ i.size = 1 := by
  unfold ArrT at h
  split at h
  · rename_i n e hu
    rw [Bool.and_eq_true] at h
    obtain ⟨h1, h2⟩ := h
    split at h2
    · rename_i i hi
      have e1 := Nat.eq_of_beq_eq_true h1
      subst e1
      exact ⟨e, i, hu, hi, Nat.eq_of_beq_eq_true h2⟩
    · cases h2
  · cases h
section
variable {P : Program} {st : St} {o : Oper}
theorem q_idxa {t len j e' k' n i : Nat} {x y : Operand} {h : Value} {kd : IntKind} {p q : PV} {cs : List PV} (l : Nat) (hT : ArrT P t len = true) (ho : o.op = .indexAddr t x y := by exact rfl) (hx : ev st.slots x = some (padd (sbase h) j, p) := by exact rfl) (hy : ev st.slots y = some (.int kd (i : Int), q) := by exact rfl) (hl : lk st.heap l = some (h, .own e' k' n cs) := by exact rfl) (hn : 0 < n := by first | omega | exact Nat.le_of_ble_eq_true rfl) (hi : i < len := by first | omega | exact Nat.le_of_ble_eq_true rfl) : YE P st o (· = padd (sbase h) (j + i)) (.val (padd (sbase h) (j + i))) :=
  .exact fun M F a w H => by
    have hv := (H.ev hx).1
    have hyv := (H.ev hy).1
    obtain ⟨g, cap, rfl, _⟩ := own_hdr (H.tr l _ _ hl) hn
    obtain ⟨e, inf, hu, hinf, hs1⟩ := ArrT.run hT
    refine ⟨.val _, ?_⟩
    simp only [sbase, padd] at hv ⊢
    simp [execOp, ho, hv, hyv, Instr.indexAt, asIntOf, run_underlying hu, Instr.sureAddr, sizeOf, typeInfo, hinf, hs1, hi, add_none]
theorem q_build2 {t : Nat} {x y : Operand} {v0 v1 : Value} {p0 p1 : PV} {z : Value} (hT : ArrT P t 2 = true) (hz : ZeroT P t z) (ho : o.op = .build t #[(0, x), (1, y)] := by exact rfl) (hx : ev st.slots x = some (v0, p0) := by exact rfl) (hy : ev st.slots y = some (v1, p1) := by exact rfl) (h0 : v0.oneCell' = true := by exact rfl) (h1 : v1.oneCell' = true := by exact rfl) (hzs : z.cells.size = 2 := by exact rfl) : YE P st o (· = .agg [v0, v1].toArray) (.agg [p0, p1]) :=
  .exact fun M F a w H => by
    obtain ⟨hv, hS0⟩ := H.ev hx
    obtain ⟨hyv, hS1⟩ := H.ev hy
    obtain ⟨e, inf, hu, hinf, hs1⟩ := ArrT.run hT
    have c0 := cells_one h0
    have c1 := cells_one h1
    obtain ⟨a0, a1, hza⟩ : ∃ a0 a1, z.cells = #[a0, a1] := by
      generalize z.cells = A at hzs
      obtain ⟨L⟩ := A
      match L, hzs with
      | [a0, a1], _ => exact ⟨a0, a1, rfl⟩
    refine ⟨.agg _ _ rfl fun i u r hu hr => ?_, ?_⟩
    · match i with
      | 0 => simp at hu hr; subst hu hr; exact hS0
      | 1 => simp at hu hr; subst hu hr; exact hS1
      | i + 2 => simp at hu
    · simp [execOp, ho, hv, hyv, Instr.build, run_underlying hu, ZeroT.run hz, sizeOf, typeInfo, hinf, hs1, Instr.fill, c0, c1, hza]
end
abbrev Pr := ByteArray × ByteArray
def pkey (k : Pr) : Value := .agg #[.string k.1, .string k.2]
theorem pkey_inj {a b : Pr} (h : pkey a = pkey b) : a = b := by
  simp [pkey] at h
  exact Prod.ext h.1 h.2
def akv (m : List (Pr × Value)) : List (Value × Value) := m.map fun x => (pkey x.1, x.2)
def prOk (k : Pr) : Prop := k.1.size ≤ 140737488355328 ∧ k.2.size ≤ 140737488355328
structure PkT (P : Program) (t ks s e : Nat) (z : Value) : Prop where
  ht : P.underlying t = some (.map ks e)
  hu : P.underlying ks = some (.array 2 s)
  hs : P.underlying s = some .string
  hk : P.keyType ks = true
  hk2 : P.keyTypeAt 2 ks = true
  hti : P.tiled 2 ks = true
  hc2 : P.cellsOf ks = 2
  hc1 : P.cellsOf s = 1
  hf : ∀ a b : ByteArray, (Value.agg #[.string a, .string b]).formed P ks = true
  hsz : ∃ n, P.types.size = n + 1
  hz : ZeroT P e z
theorem PkT.law {P : Program} {t ks s e : Nat} {z : Value} (h : PkT P t ks s e z) : WideMaps.KeyLaw P ks := deep_law (m := 2) (by decide) h.hk2 h.hti (by rw [h.hu])
theorem PkT.key {P : Program} {t ks s e : Nat} {z : Value} (h : PkT P t ks s e z) {k : Pr} (hk : prOk k) : ∃ l, keyOf P ks (pkey k) = some l := by
  obtain ⟨n, hn⟩ := h.hsz
  have hl : ∀ c : ByteArray, c.size ≤ 140737488355328 → P.keyLits (n + 1) s [.string c] = some [.string c.data.toList] := fun c hc => by
    unfold Program.keyLits
    rw [h.hs]
    dsimp only
    rw [if_pos (Nat.le_trans hc (by decide))]
  unfold keyOf
  rw [h.hu]
  dsimp only
  rw [h.hk, show (pkey k).formed P ks = true from h.hf _ _, hn]
  refine ⟨.string (keyBytes [.string k.1.data.toList, .string k.2.data.toList]), ?_⟩
  rw [if_pos (show (true && true) = true from rfl)]
  unfold Program.keyLits
  rw [h.hu]
  dsimp only [pkey, Value.cells]
  rw [h.hc2, h.hc1]
  rw [if_pos (by rfl)]
  rw [show List.range 2 = [0, 1] from rfl]
  simp only [List.mapM_cons, List.mapM_nil, Nat.zero_mul, Nat.one_mul, List.drop_zero, List.drop_succ_cons, List.take_succ_cons, List.take_zero, hl _ hk.1, hl _ hk.2]
  rfl
theorem aget_none {m : List (Pr × Value)} {k : Pr} (h : ∀ x ∈ m, x.1 ≠ k) : aget m k = none := by
  induction m with
  | nil => rfl
  | cons x m ih =>
    rw [aget, if_neg (fun e => h x (by simp) e.symm)]
    exact ih fun y hy => h y (by simp [hy])
theorem aget_some {m : List (Pr × Value)} (hn : (m.map (·.1)).Nodup) {j : Nat} {k : Pr} {v : Value} (h : m[j]? = some (k, v)) : aget m k = some v := by
  induction m generalizing j with
  | nil => simp at h
  | cons x m ih =>
    rw [List.map_cons, List.nodup_cons] at hn
    cases j with
    | zero => simp at h; subst h; rw [aget, if_pos rfl]
    | succ j =>
      rw [List.getElem?_cons_succ] at h
      rw [aget, if_neg (fun e => hn.1 (List.mem_map.2 ⟨_, List.mem_of_getElem? h, e⟩))]
      exact ih hn.2 h
theorem aput_new {m : List (Pr × Value)} {k : Pr} {v : Value} (h : aget m k = none) : aput m k v = m ++ [(k, v)] := by
  induction m with
  | nil => rfl
  | cons x m ih =>
    rw [aget] at h
    split at h
    · cases h
    · rename_i hne
      rw [aput, if_neg hne, List.cons_append, ih h]
theorem aput_at {m : List (Pr × Value)} (hn : (m.map (·.1)).Nodup) {j : Nat} {k : Pr} {u v : Value} (h : m[j]? = some (k, u)) : aput m k v = m.set j (k, v) := by
  induction m generalizing j with
  | nil => simp at h
  | cons x m ih =>
    rw [List.map_cons, List.nodup_cons] at hn
    cases j with
    | zero => simp at h; subst h; rw [aput, if_pos rfl]; rfl
    | succ j =>
      rw [List.getElem?_cons_succ] at h
      rw [aput, if_neg (fun e => hn.1 (List.mem_map.2 ⟨_, List.mem_of_getElem? h, e⟩)), List.set_cons_succ, ih hn.2 h]
theorem aput_keys {m : List (Pr × Value)} {k : Pr} {v : Value} : ∀ x, x ∈ (aput m k v).map (·.1) ↔ x = k ∨ x ∈ m.map (·.1) := by
  induction m with
  | nil => intro x; simp [aput]
  | cons y m ih =>
    intro x
    rw [aput]
    split
    · rename_i e; subst e; simp
    · rw [List.map_cons, List.mem_cons, ih, List.map_cons, List.mem_cons]
      constructor
      · rintro (h | h | h)
        · exact .inr (.inl h)
        · exact .inl h
        · exact .inr (.inr h)
      · rintro (h | h | h)
        · exact .inr (.inl h)
        · exact .inl h
        · exact .inr (.inr h)
theorem aput_nodup {m : List (Pr × Value)} {k : Pr} {v : Value} (hn : (m.map (·.1)).Nodup) : ((aput m k v).map (·.1)).Nodup := by
  induction m with
  | nil => simp [aput]
  | cons y m ih =>
    rw [aput]
    rw [List.map_cons, List.nodup_cons] at hn
    split
    · rename_i e
      rw [List.map_cons, List.nodup_cons]; dsimp only; rw [e]; exact hn
    · rename_i e
      rw [List.map_cons, List.nodup_cons]
      refine ⟨fun h => ?_, ih hn.2⟩
      rcases (aput_keys _).1 h with h | h
      · exact e h.symm
      · exact hn.1 h
theorem aget_aput {m : List (Pr × Value)} {k : Pr} {v : Value} : aget (aput m k v) k = some v := by
  induction m with
  | nil => rw [aput, aget, if_pos rfl]
  | cons y m ih =>
    rw [aput]
    split
    · rw [aget, if_pos rfl]
    · rename_i e; rw [aget, if_neg e]; exact ih
theorem aput_aput {m : List (Pr × Value)} {k : Pr} {u v : Value} : aput (aput m k u) k v = aput m k v := by
  induction m with
  | nil => show aput [(k, u)] k v = [(k, v)]; rw [aput, if_pos rfl]
  | cons y m ih =>
    rw [aput]
    split
    · rename_i e; rw [aput, if_pos rfl, aput, if_pos e]
    · rename_i e; rw [aput, if_neg e, ih, aput, if_neg e]
theorem ent_at {es : Array MapEntry} {m : List (Pr × Value)} (h : kvOf es = akv m) {j : Nat} {e : MapEntry} {k : Pr} (he : es[j]? = some e) (hk : e.key = pkey k) : m[j]? = some (k, e.val) := by
  have h1 : (kvOf es)[j]? = some (pkey k, e.val) := by
    unfold kvOf
    rw [List.getElem?_map, Array.getElem?_toList, he, ← hk]; rfl
  rw [h] at h1
  unfold akv at h1
  rw [List.getElem?_map, Option.map_eq_some_iff] at h1
  obtain ⟨⟨k', v'⟩, h2, h3⟩ := h1
  obtain ⟨h4, h5⟩ := Prod.mk.inj h3
  dsimp only at h4 h5
  rw [h2, pkey_inj h4, h5]
theorem keys_all {es : Array MapEntry} {m : List (Pr × Value)} (h : kvOf es = akv m) : ∀ e ∈ es.toList, ∃ x ∈ m, e.key = pkey x.1 := fun e he => by
  have h1 : (e.key, e.val) ∈ kvOf es := List.mem_map.2 ⟨e, he, rfl⟩
  rw [h] at h1
  obtain ⟨x, hx, hxe⟩ := List.mem_map.1 h1
  exact ⟨x, hx, (Prod.mk.inj hxe).1.symm⟩
theorem find_pk {P : Program} {t ks s e : Nat} {z : Value} (hT : PkT P t ks s e z) {es : Array MapEntry} {m : List (Pr × Value)} (h : kvOf es = akv m) (hm : ∀ x ∈ m, prOk x.1) (hn : (m.map (·.1)).Nodup) {k : Pr} (hk : prOk k) (w : World) :
    (aget m k = none ∧ (Instr.findKey ks (pkey k) es.toList).run P w = .ok none w) ∨ ∃ (j : Nat) (e0 : MapEntry), es[j]? = some e0 ∧ e0.key = pkey k ∧ aget m k = some e0.val ∧ (Instr.findKey ks (pkey k) es.toList).run P w = .ok (some (j, e0.val)) w := by
  obtain ⟨l, hl⟩ := hT.key hk
  have hall : ∀ e ∈ es.toList, ∃ l, keyOf P ks e.key = some l := fun e he => by
    obtain ⟨x, hx, hxe⟩ := keys_all h e he
    rw [hxe]; exact hT.key (hm x hx)
  rcases hT.law.find w hl es.toList hall with ⟨h1, h2⟩ | ⟨j, e0, h1, h2, h3⟩
  · refine .inl ⟨aget_none fun x hx e => ?_, h1⟩
    obtain ⟨i, hi⟩ := List.getElem?_of_mem hx
    have h4 : (kvOf es)[i]? = some (pkey x.1, x.2) := by rw [h]; unfold akv; rw [List.getElem?_map, hi]; rfl
    unfold kvOf at h4
    rw [List.getElem?_map, Option.map_eq_some_iff] at h4
    obtain ⟨e0, h5, h6⟩ := h4
    exact h2 e0 (List.mem_of_getElem? h5) (by rw [(Prod.mk.inj h6).1, e])
  · have h4 : es[j]? = some e0 := by rw [← Array.getElem?_toList]; exact h2
    exact .inr ⟨j, e0, h4, h3, aget_some hn (ent_at h h4 h3), h1⟩
section
variable {P : Program} {c : Ctx} {ops : Array Oper} {Q : Exit → Act → World → Prop} {rest : List Oper} {sL hP : List (Nat × Ent)} {o : Oper}
theorem look_pk {t ks s e : Nat} {z : Value} (hT : PkT P t ks s e z) {b clock : Nat} {es : Array MapEntry} {m : List (Pr × Value)} (h : kvOf es = akv m) (hm : ∀ x ∈ m, prOk x.1) (hn : (m.map (·.1)).Nodup) {k : Pr} (hk : prOk k) {w : World} (hb : w.heap[b]? = some (.map es clock)) : (Instr.lookup t (.map (some b)) (pkey k) false).run P w = .ok ((aget m k).getD z) w := by
  obtain ⟨l, hl⟩ := hT.key hk
  have hck := fun em => hT.law.check w em hl
  unfold Instr.lookup
  simp only [Sem.run_bind, run_underlying hT.ht, Result.andThen_ok, getObj, Sem.run, hb, hck]
  rcases find_pk hT h hm hn hk w with ⟨h1, h2⟩ | ⟨j, e0, h3, h4, h1, h2⟩
  · simp [h1, h2, hck, ZeroT.run hT.hz]
  · simp [h1, h2, hck]
theorem q_lookP {st : St} {t ks s e : Nat} {z u : Value} {x y : Operand} {mv : Value} {m : List (Pr × Value)} {k : Pr} {p q : PV} (l : Nat) (hT : PkT P t ks s e z) (hm : ∀ x ∈ m, prOk x.1) (hn : (m.map (·.1)).Nodup) (hk : prOk k) (hu : (aget m k).getD z = u) (ho : o.op = .lookup t x y false := by exact rfl) (hx : ev st.slots x = some (mv, p) := by exact rfl) (hl : lk st.heap l = some (mv, .omap (akv m)) := by exact rfl) (hy : ev st.slots y = some (pkey k, q) := by exact rfl) : YE P st o (· = u) (.val u) := .exact fun M F a w H => by
  subst hu
  have hv := (H.ev hx).1
  have hkv := (H.ev hy).1
  obtain ⟨b, es, clock, rfl, he, h, _⟩ := (H.tr l _ _ hl).map
  exact ⟨.val _, by simp [execOp, ho, hv, hkv, look_pk hT he.symm hm hn hk h]⟩
theorem q_lookPB {st : St} {t ks s e b clock : Nat} {es : Array MapEntry} {z u : Value} {x y : Operand} {m : List (Pr × Value)} {k : Pr} {p q : PV} (l : Nat) (hT : PkT P t ks s e z) (he : kvOf es = akv m) (hm : ∀ x ∈ m, prOk x.1) (hn : (m.map (·.1)).Nodup) (hk : prOk k) (hu : (aget m k).getD z = u) (ho : o.op = .lookup t x y false := by exact rfl) (hx : ev st.slots x = some (.map (some b), p) := by exact rfl) (hl : lk st.heap l = some (.map (some b), .oblk (.map (some b)) b (.map es clock) []) := by exact rfl) (hy : ev st.slots y = some (pkey k, q) := by exact rfl) : YE P st o (· = u) (.val u) := .exact fun M F a w H => by
  subst hu
  have hv := (H.ev hx).1
  have hkv := (H.ev hy).1
  obtain ⟨h, _, _⟩ := (H.tr l _ _ hl).blk
  exact ⟨.val _, by simp [execOp, ho, hv, hkv, look_pk hT he hm hn hk h]⟩
theorem modify_same {es : Array MapEntry} {j : Nat} {e0 : MapEntry} {f : MapEntry → MapEntry} (h : es[j]? = some e0) (hf : f e0 = e0) : es.modify j f = es := by
  apply Array.ext'
  rw [Array.toList_modify]
  rw [← Array.getElem?_toList] at h
  have key : ∀ (l : List MapEntry) (j : Nat), l[j]? = some e0 → l.modify j f = l := fun l => by
    induction l with
    | nil => intro j h; simp
    | cons a l ih =>
      intro j h
      cases j with
      | zero => simp at h; subst h; simp [hf]
      | succ j => rw [List.getElem?_cons_succ] at h; rw [List.modify_succ_cons, ih j h]
  exact key _ _ h
theorem kv_setval {es : Array MapEntry} {m : List (Pr × Value)} {j : Nat} {e0 : MapEntry} {k : Pr} {v : Value} (he : kvOf es = akv m) (hn : (m.map (·.1)).Nodup) (h : es[j]? = some e0) (hk : e0.key = pkey k) : kvOf (es.modify j fun e => { e with val := v }) = akv (aput m k v) := by
  rw [aput_at hn (ent_at he h hk)]
  have h1 : kvOf (es.modify j fun e => { e with val := v }) = (kvOf es).set j (pkey k, v) := by
    unfold kvOf
    rw [Array.toList_modify]
    rw [← Array.getElem?_toList] at h
    have key : ∀ (l : List MapEntry) (j : Nat), l[j]? = some e0 → (l.modify j fun e => { e with val := v }).map (fun x => (x.key, x.val)) = (l.map fun x => (x.key, x.val)).set j (pkey k, v) := fun l => by
      induction l with
      | nil => intro j h; simp at h
      | cons a l ih =>
        intro j h
        cases j with
        | zero => simp at h; subst h; simp [hk]
        | succ j => rw [List.getElem?_cons_succ] at h; rw [List.modify_succ_cons, List.map_cons, ih j h, List.map_cons, List.set_cons_succ]
    exact key _ _ h
  rw [h1, he]
  unfold akv
  rw [List.map_set]
theorem find_born {es : Array MapEntry} {j : Nat} {e0 : MapEntry} (hn : (es.toList.map (·.born)).Nodup) (h : es[j]? = some e0) : es.findIdx? (fun e => (e.born : Int) == (e0.born : Int)) = some j := by
  rw [← Array.getElem?_toList] at h
  obtain ⟨L⟩ := es
  rw [List.findIdx?_toArray]
  have key : ∀ (l : List MapEntry) (j : Nat), (l.map (·.born)).Nodup → l[j]? = some e0 → l.findIdx? (fun e => (e.born : Int) == (e0.born : Int)) = some j := fun l => by
    induction l with
    | nil => intro j _ h; simp at h
    | cons a l ih =>
      intro j hn h
      rw [List.map_cons, List.nodup_cons] at hn
      cases j with
      | zero => simp at h; subst h; simp [List.findIdx?_cons]
      | succ j =>
        rw [List.getElem?_cons_succ] at h
        have hne : a.born ≠ e0.born := fun e => hn.1 (List.mem_map.2 ⟨e0, List.mem_of_getElem? h, e.symm⟩)
        have hf : ((a.born : Int) == (e0.born : Int)) = false := beq_eq_false_iff_ne.2 fun e => hne (by exact_mod_cast e)
        rw [List.findIdx?_cons, hf]
        simp [ih j hn.2 h]
  exact key _ _ hn h
theorem aL_mentryP {t ks s e : Nat} {z : Value} {x y : Operand} {mv : Value} {m : List (Pr × Value)} {k : Pr} {p q : PV} (l d : Nat) (hT : PkT P t ks s e z) (hm : ∀ x ∈ m, prOk x.1) (hn : (m.map (·.1)).Nodup) (hk : prOk k)
    (kk : ∀ (b clock born : Nat) (es : Array MapEntry), mv = .map (some b) → WfM es clock → kvOf es = akv (aput m k ((aget m k).getD z)) → (∃ (j : Nat) (e0 : MapEntry), es[j]? = some e0 ∧ e0.key = pkey k ∧ e0.born = born) → aL P c ops Q rest ⟨put d (.tuple [(aget m k).getD z, .int .i64 born].toArray, .tup [.val ((aget m k).getD z), .val (.int .i64 born)]) sL, put l (mv, .oblk mv b (.map es clock) []) hP⟩)
    (hw : wants ops sL o = some true := by exact rfl) (hd : o.dst = some d := by exact rfl) (hdn : d < c.nt := by exact Nat.le_of_ble_eq_true rfl) (ho : o.op = .mapEntry t x y := by exact rfl) (hx : ev sL x = some (mv, p) := by exact rfl) (hl : lk hP l = some (mv, .omap (akv m)) := by exact rfl) (hy : ev sL y = some (pkey k, q) := by exact rfl) : aL P c ops Q (o :: rest) (⟨sL, hP⟩ : St) :=
  aL_run hw fun a w F H => by
    have hxv := (H.rd.ev hx).1
    have hyv := (H.rd.ev hy).1
    obtain ⟨b, es, clock, rfl, he, hb, hFb, hWf⟩ := (H.tr l _ _ hl).mapW
    obtain ⟨lt', hlt'⟩ := hT.key hk
    have hck := hT.law.check w false hlt'
    have hst := hT.law.stays w hlt'
    have hblt := blk_lt hb
    have main : ∀ (es' : Array MapEntry) (clock' born : Nat), WfM es' clock' → kvOf es' = akv (aput m k ((aget m k).getD z)) → (∃ (j : Nat) (e0 : MapEntry), es'[j]? = some e0 ∧ e0.key = pkey k ∧ e0.born = born) → wpList P ops Q rest (a.put (some d) (.tuple [(aget m k).getD z, .int .i64 born].toArray)) { w with heap := w.heap.setIfInBounds b (.map es' clock') } := fun es' clock' born hW' he' hj => by
      have hch : Chg (fun x => x = b) w { w with heap := w.heap.setIfInBounds b (.map es' clock') } := ⟨rfl, rfl, rfl, by simp, fun i hi hne => by
        rw [Array.getElem?_setIfInBounds_ne (fun e => hne e.symm)]⟩
      refine kk b clock' born es' rfl hW' he' hj _ _ ⟨F, H.change (fun l' => l' = l) hdn (hch.wid fun x hx => .inl ⟨l, _, rfl, hl, (hFb x).2 hx⟩) (fun l' x hne hx' => ?_) (fun l' x b' hT' hx' hb' => ?_) (fun hmm l' u q hT' hx' => ?_) (fun l1 l2 _ _ _ h1 h2 hne => absurd (h1.trans h2.symm) hne) (fun _ => .tup _ _ rfl fun i x p hx hp => ?_)⟩
      · rcases lk_put hx' with ⟨e1, _⟩ | ⟨_, e1⟩
        · exact absurd e1.symm hne
        · exact ⟨e1, rfl⟩
      · subst hT'; exact .inl ⟨l', _, rfl, hl, hb'⟩
      · subst hT'
        rw [lk_put_self] at hx'
        cases hx'
        exact .oblk b rfl (by simp [hblt]) (fun p hp => by simp at hp) hFb
      · match i with
        | 0 => simp at hx hp; subst hx hp; exact .val _
        | 1 => simp at hx hp; subst hx hp; exact .val _
        | i + 2 => simp at hx
    rcases find_pk hT he.symm hm hn hk w with ⟨h1, h2⟩ | ⟨j, e0, h3, h4, h1, h2⟩
    · have hrun : (execOp a.eval o).run P w = .ok (.value (.tuple [(aget m k).getD z, .int .i64 clock].toArray)) { w with heap := w.heap.setIfInBounds b (.map (es.push { key := pkey k, val := z, born := clock }) (clock + 1)) } := by
        simp [execOp, ho, hxv, hyv, Instr.mapEntry, run_underlying hT.ht, getObj, setObj, Sem.run, hb, hck, h1, h2, ZeroT.run hT.hz, goInt]
      unfold Oper.wp
      rw [hrun, Oper.upon_value, hd]
      refine main _ _ _ (wf_push hWf) ?_ ⟨es.size, { key := pkey k, val := z, born := clock }, by simp, rfl, rfl⟩
      rw [h1, Option.getD_none, aput_new h1]
      unfold akv at he ⊢
      rw [List.map_append, he]
      simp [kvOf]
    · have hmod : es.modify j (fun e => { e with key := pkey k }) = es := modify_same h3 (by rw [← h4])
      have hrun : (execOp a.eval o).run P w = .ok (.value (.tuple [(aget m k).getD z, .int .i64 e0.born].toArray)) { w with heap := w.heap.setIfInBounds b (.map es clock) } := by
        simp [execOp, ho, hxv, hyv, Instr.mapEntry, run_underlying hT.ht, getObj, setObj, Sem.run, hb, hck, h1, h2, h3, h4, hst, hmod, goInt]
      unfold Oper.wp
      rw [hrun, Oper.upon_value, hd]
      refine main _ _ _ hWf ?_ ⟨j, e0, h3, h4, rfl⟩
      have h5 := ent_at he.symm h3 h4
      obtain ⟨hj5, hje⟩ := List.getElem?_eq_some_iff.1 h5
      rw [h1, Option.getD_some, aput_at hn h5, ← hje, List.set_getElem_self, he]
theorem aL_estoreP {t b clock born : Nat} {es : Array MapEntry} {x y u : Operand} {m : List (Pr × Value)} {k : Pr} {v : Value} {p q r : PV} (l : Nat) (hW : WfM es clock) (he : kvOf es = akv m) (hn : (m.map (·.1)).Nodup) (hj : ∃ (j : Nat) (e0 : MapEntry), es[j]? = some e0 ∧ e0.key = pkey k ∧ e0.born = born)
    (kk : aL P c ops Q rest ⟨sL, put l (.map (some b), .omap (akv (aput m k v))) hP⟩)
    (hw : wants ops sL o = some true := by exact rfl) (hd : o.dst = none := by exact rfl) (ho : o.op = .entryStore t x y u := by exact rfl) (hx : ev sL x = some (.map (some b), p) := by exact rfl) (hl : lk hP l = some (.map (some b), .oblk (.map (some b)) b (.map es clock) []) := by exact rfl) (hy : ev sL y = some (.int .i64 born, q) := by exact rfl) (hu : ev sL u = some (v, r) := by exact rfl) : aL P c ops Q (o :: rest) (⟨sL, hP⟩ : St) :=
  aL_run hw fun a w F H => by
    have hxv := (H.rd.ev hx).1
    have hyv := (H.rd.ev hy).1
    have huv := (H.rd.ev hu).1
    obtain ⟨hb, _, hFb⟩ := (H.tr l _ _ hl).blk
    have hblt := blk_lt hb
    obtain ⟨j, e0, h3, h4, rfl⟩ := hj
    have hfi := find_born hW.2 h3
    have hkv := kv_setval (v := v) he hn h3 h4
    have hch : Chg (fun x => x = b) w { w with heap := w.heap.setIfInBounds b (.map (es.modify j fun e => { e with val := v }) clock) } := ⟨rfl, rfl, rfl, by simp, fun i hi hne => by
      rw [Array.getElem?_setIfInBounds_ne (fun e => hne e.symm)]⟩
    have key : HoldsF c ⟨sL, put l (.map (some b), .omap (akv (aput m k v))) hP⟩ F a { w with heap := w.heap.setIfInBounds b (.map (es.modify j fun e => { e with val := v }) clock) } := by
      refine H.change0 (fun l' => l' = l) (hch.wid fun x hx => .inl ⟨l, _, rfl, hl, (hFb x).2 hx⟩) (fun l' x hne hx' => ?_) (fun l' x b' hT' hx' hb' => ?_) (fun hmm l' u q hT' hx' => ?_) (fun l1 l2 _ _ _ h1 h2 hne => absurd (h1.trans h2.symm) hne)
      · rcases lk_put hx' with ⟨e1, _⟩ | ⟨_, e1⟩
        · exact absurd e1.symm hne
        · exact ⟨e1, rfl⟩
      · subst hT'; exact .inl ⟨l', _, rfl, hl, hb'⟩
      · subst hT'
        rw [lk_put_self] at hx'
        cases hx'
        rw [← hkv]
        exact .omap b _ clock (by simp [hblt]) hFb (wf_modify _ (fun _ => rfl) hW)
    unfold Oper.wp execOp
    simp [ho, hxv, hyv, huv, Instr.entryStore, getObj, setObj, Sem.run, hb, hfi, asInt, asIntOf, Oper.upon, hd, Act.put]
    exact kk _ _ ⟨F, key⟩
end
end Go.En

namespace Go.En
open Go.RowKit Go.Cb
set_option linter.all false
section
variable {P : Program} {c : Ctx} {ops : Array Oper} {Q : Exit → Act → World → Prop} {rest : List Oper} {sL hP : List (Nat × Ent)} {o : Oper}
theorem ret_obox {fn : Func} {R : PV → Prop} {t e k : Nat} {h : Value} {q : PV} {cs : List PV} (l : Nat) (hr : fn.results = #[.tmp t]) (ht : lk sL t = some (padd (sbase h) 0, q)) (hl : lk hP l = some (h, .own e k 1 cs)) (hR : R (.obox e k cs)) (hN : ∀ b, ¬ c.N0 b := by intro _ h; exact h) : aR c (bodyPost P fn (RetAF c R)) (⟨sL, hP⟩ : St) := fun a w ⟨F, H⟩ => by
  obtain ⟨h1, h2⟩ := H.sl t _ q ht
  have hT := H.tr l _ _ hl
  obtain ⟨g, cap, rfl, _⟩ := own_hdr hT Nat.one_pos
  refine ⟨H.df, padd (sbase (.slice (some ⟨g, 0, none⟩) 1 cap)) 0, ?_, _, .obox e k cs, F l, rfl, hR, H.ext.ext (fun b _ => hN b), (Tr.obox g cap hT).anti fun b _ hb => ?_, fun b hb => (H.lo l _ b hl hb).resolve_right (hN b), H.dw⟩
  · simp [results, hr, Array.getD_eq_getD_getElem?, h1]
  · rcases hb with hb | hb
    · exact .inl hb
    · exact .inr ⟨l, _, hl, hb⟩
theorem openBox {l e k : Nat} {v : Value} {cs : List PV} (hl : lk hP l = some (v, .obox e k cs)) : EntE (⟨sL, hP⟩ : St) (fun h : { h : Value // v = padd (sbase h) 0 } => ⟨sL, put l (h.1, .own e k 1 cs) hP⟩) := fun c a w ⟨F, H⟩ => by
  have hT := H.tr l _ _ hl
  cases hT with
  | shr h _ => cases h
  | obox g cap h =>
    refine ⟨⟨.slice (some ⟨g, 0, none⟩) 1 cap, rfl⟩, F, ?_⟩
    refine H.retell (fun x => x = l) (fun x y hnT hx => ?_) (fun x y b hTx hx hb' => ?_) (fun hmm x u q hTx hx => ?_) (fun x1 x2 y1 y2 b h1 h2 hne' => absurd (h1.trans h2.symm) hne')
    · have n1 : x ≠ l := hnT
      rw [lk_put_ne (Ne.symm n1)] at hx
      exact ⟨hx, rfl⟩
    · subst hTx; exact ⟨x, _, rfl, hl, hb'⟩
    · subst hTx
      rw [lk_put_self] at hx
      cases hx
      exact h.anti hmm
end
end Go.En

namespace Go.En
open Go.RowKit Go.Cb
set_option linter.all false
def RetH (c : Ctx) (R : Value → PV → List (Nat × Ent) → Prop) (e : Ending) (w' : World) : Prop := ∃ v p h F, e = .returned v ∧ R v p h ∧ HeapF c h F w' ∧ Shr (mof c h F) w' v p
def AFh (dd : Prop) (P : Program) (f : FuncId) (ar h : List (Nat × Ent)) (R : Value → PV → List (Nat × Ent) → Prop) : Prop :=
  ∀ (M N : BS) (w : World) (F : Nat → BS), HeapF ⟨w, M, N, 0, dd⟩ h F w → (∀ i x, lk ar i = some x → Shr (mof ⟨w, M, N, 0, dd⟩ h F) w x.1 x.2) → Calls P f (ar.map (·.2.1)).toArray w (RetH ⟨w, M, N, 0, dd⟩ R)
theorem HeapF.nt {c c' : Ctx} {h : List (Nat × Ent)} {F : Nat → BS} {w : World} (H : HeapF c h F w) (h0 : c'.w0 = c.w0) (h1 : c'.M0 = c.M0) (h2 : c'.N0 = c.N0) (h3 : c'.dr → c.dr) : HeapF c' h F w := by
  obtain ⟨w0, M0, N0, nt, dr⟩ := c
  obtain ⟨w0', M0', N0', nt', dr'⟩ := c'
  simp only at h0 h1 h2 h3
  subst h0 h1 h2
  exact ⟨H.tr, H.lo, H.dj, H.m0, H.ext, fun h => H.dw (h3 h)⟩
def inOrder : Nat → List (Nat × Ent) → Bool
  | _, [] => true
  | i, (j, _) :: l => Nat.beq i j && inOrder (i + 1) l
theorem inOrder_lk : ∀ (l : List (Nat × Ent)) (i t : Nat) (x : Ent), inOrder i l = true → lk l t = some x → i ≤ t ∧ (l.map (·.2.1))[t - i]? = some x.1
  | [], _, _, _, _, h => by simp [lk] at h
  | (j, y) :: l, i, t, x, ho, h => by
    simp only [inOrder, Bool.and_eq_true] at ho
    obtain ⟨h1, h2⟩ := ho
    have h1 := Nat.eq_of_beq_eq_true h1
    subst h1
    simp only [lk] at h
    cases hb : Nat.beq i t
    · rw [hb] at h
      obtain ⟨h3, h4⟩ := inOrder_lk l (i + 1) t x h2 h
      have : t - i = (t - (i + 1)) + 1 := by omega
      exact ⟨by omega, by rw [this]; simpa using h4⟩
    · rw [hb] at h
      have : i = t := Nat.eq_of_beq_eq_true hb
      subst this
      cases h
      simp
theorem inOrder_lk' : ∀ (l : List (Nat × Ent)) (i t : Nat) (x : Ent), inOrder i l = true → lk l t = some x → i ≤ t ∧ (l[t - i]?).map (·.2) = some x
  | [], _, _, _, _, h => by simp [lk] at h
  | (j, y) :: l, i, t, x, ho, h => by
    simp only [inOrder, Bool.and_eq_true] at ho
    obtain ⟨h1, h2⟩ := ho
    have h1 := Nat.eq_of_beq_eq_true h1
    subst h1
    simp only [lk] at h
    cases hb : Nat.beq i t
    · rw [hb] at h
      obtain ⟨h3, h4⟩ := inOrder_lk' l (i + 1) t x h2 h
      have : t - i = (t - (i + 1)) + 1 := by omega
      exact ⟨by omega, by rw [this]; simpa using h4⟩
    · rw [hb] at h
      have : i = t := Nat.eq_of_beq_eq_true hb
      subst this
      cases h
      simp
section
variable {P : Program}
theorem AFh.of_body {dd : Prop} {f : FuncId} {fn : Func} {code : Code} {ar h : List (Nat × Ent)} {R : Value → PV → List (Nat × Ent) → Prop} (nt : Nat) (hf : P.funcs[f]? = some fn) (hb : fn.body = some code) (hnt : fn.ntmps = nt) (hn : ar.length ≤ nt) (ho : inOrder 0 ar = true)
    (H : ∀ (w0 : World) (M0 N0 : BS), aC P ⟨w0, M0, N0, nt, dd⟩ code (bodyPost P fn (RetH ⟨w0, M0, N0, nt, dd⟩ R)) ⟨ar, h⟩) : AFh dd P f ar h R := fun M N w F HF hv => by
  subst hnt
  refine calls_of_wp hf hb ?_
  refine wp_mono (H w M N _ w ⟨F, ⟨HF.nt rfl rfl rfl id, fun t v p ht => ?_, ?_, rfl⟩⟩) fun e a w' hq => ?_
  · obtain ⟨_, h1⟩ := inOrder_lk ar 0 t (v, p) ho ht
    refine ⟨?_, hv t (v, p) ht⟩
    simp only [Nat.sub_zero] at h1
    have := lt_of_get h1
    rw [Array.getElem?_append_left (by simpa using this)]
    simpa using h1
  · simp; omega
  · have key : ∀ e w', RetH ⟨w, M, N, fn.ntmps, dd⟩ R e w' → RetH ⟨w, M, N, 0, dd⟩ R e w' := fun _ _ ⟨v', p, h', F', h3, h4, h5, h6⟩ => ⟨v', p, h', F', h3, h4, h5.nt rfl rfl rfl id, h6⟩
    cases e with
    | ret => obtain ⟨h1, v, h2, h3⟩ := hq; exact ⟨h1, v, h2, key _ _ h3⟩
    | normal => obtain ⟨h1, v, h2, h3⟩ := hq; exact ⟨h1, v, h2, key _ _ h3⟩
    | panic ch => obtain ⟨h1, h3⟩ := hq; exact ⟨h1, key _ _ h3⟩
    | outgrown => exact key _ _ hq
    | _ => exact hq.elim
end
section
variable {P : Program} {c : Ctx} {ops : Array Oper} {Q : Exit → Act → World → Prop} {rest : List Oper} {sL hP : List (Nat × Ent)} {o : Oper}
theorem ret_h {fn : Func} {R : Value → PV → List (Nat × Ent) → Prop} {t : Nat} {v : Value} {p : PV} (h : List (Nat × Ent)) (hr : fn.results = #[.tmp t]) (ht : lk sL t = some (v, p)) (hs : Sub h hP) (hR : R v p h) : aR c (bodyPost P fn (RetH c R)) (⟨sL, hP⟩ : St) := fun a w ⟨F, H0⟩ => by
  have H : HoldsF c (⟨sL, h⟩ : St) F a w := H0.less (fun _ _ h => h) fun t x hx => hs.lk hx
  obtain ⟨h1, h2⟩ := H.sl t v p ht
  refine ⟨H.df, v, ?_, v, p, h, F, rfl, hR, H.toHeapF, h2⟩
  simp [results, hr, Array.getD_eq_getD_getElem?, h1]
theorem ret_h0 {fn : Func} {R : Value → PV → List (Nat × Ent) → Prop} (h : List (Nat × Ent)) (hr : fn.results = #[]) (hs : Sub h hP) (hR : R (.tuple #[]) (.val (.tuple #[])) h) : aR c (bodyPost P fn (RetH c R)) (⟨sL, hP⟩ : St) := fun a w ⟨F, H0⟩ => by
  have H : HoldsF c (⟨sL, h⟩ : St) F a w := H0.less (fun _ _ h => h) fun t x hx => hs.lk hx
  refine ⟨H.df, .tuple #[], ?_, .tuple #[], .val (.tuple #[]), h, F, rfl, hR, H.toHeapF, .val _⟩
  simp [results, hr]
theorem end_h0 {fn : Func} {R : Value → PV → List (Nat × Ent) → Prop} (h : List (Nat × Ent)) (hr : fn.results = #[]) (hs : Sub h hP) (hR : R (.tuple #[]) (.val (.tuple #[])) h) : aN c (bodyPost P fn (RetH c R)) (⟨sL, hP⟩ : St) := ret_h0 h hr hs hR
theorem aL_chE {dd : Prop} {f : Nat} {ar : List (Nat × Ent)} {R : Value → PV → List (Nat × Ent) → Prop} (K : List Nat) (d : Nat) (hw : wants ops sL o = some true) (hd : o.dst = some d) (hn : d < c.nt)
    (hE : ∀ a w F, HoldsF c (⟨sL, hP⟩ : St) F a w → (execOp a.eval o).run P w = .ok (.enter f (ar.map (·.2.1)).toArray) w ∧ ∀ (i : Nat) (x : Value) (q : PV), ((ar.map (·.2)).map (·.1))[i]? = some x → ((ar.map (·.2)).map (·.2))[i]? = some q → Shr (mof c hP F) w x q)
    (hA : AFh dd P f ar (minusK K hP) R) (hio : inOrder 0 ar = true) (hdd : c.dr → dd)
    (k : ∀ v p h, R v p h → aL P c ops Q rest ⟨put d (v, p) sL, h ++ onlyK K hP⟩) : aL P c ops Q (o :: rest) (⟨sL, hP⟩ : St) :=
  aL_run hw fun a w F H => by
    obtain ⟨hr, h2⟩ := hE a w F H
    have hfr := H.frame K
    have hin : ∀ b, mof ⟨w, fun b => c.M0 b ∨ ∃ l x, K.elem l = true ∧ lk hP l = some x ∧ F l b, nK K hP F, c.nt, c.dr⟩ (minusK K hP) F b → mof c hP F b := by
      rintro b ((h | ⟨l, x, _, h1, h2⟩) | ⟨l, x, h1, h2⟩)
      · exact .inl h
      · exact .inr ⟨l, x, h1, h2⟩
      · exact .inr ⟨l, x, (lk_minusK.1 h1).2, h2⟩
    have hcall := hA (fun b => c.M0 b ∨ ∃ l x, K.elem l = true ∧ lk hP l = some x ∧ F l b) (nK K hP F) w F
      ⟨hfr.tr, hfr.lo, hfr.dj, hfr.m0, hfr.ext, fun _ => Nat.le_refl _⟩
      (fun i x hi => by
        obtain ⟨_, h3⟩ := inOrder_lk' ar 0 i x hio hi
        rw [Nat.sub_zero] at h3
        exact (h2 i x.1 x.2 (by rw [List.getElem?_map, List.getElem?_map, h3]; rfl) (by rw [List.getElem?_map, List.getElem?_map, h3]; rfl)).anti fun b _ hb => hin b hb)
    unfold Oper.wp
    rw [hr, Oper.upon_enter]
    refine hcall.mono fun e w' ⟨v, p, h, F', e1, e2, e3, e4⟩ => ?_
    subst e1
    have hch : Chg (nK K hP F) w w' := e3.ext
    have hlow : ∀ b, b < w.heap.size → mof ⟨w, fun b => c.M0 b ∨ ∃ l x, K.elem l = true ∧ lk hP l = some x ∧ F l b, nK K hP F, 0, dd⟩ h F' b → mof c hP F b := by
      rintro b hlt ((h1 | ⟨l, x, _, h1, h2⟩) | ⟨l, x, h1, h2⟩)
      · exact .inl h1
      · exact .inr ⟨l, x, h1, h2⟩
      · rcases e3.lo l x b h1 h2 with h3 | ⟨l', x', _, h3, h4⟩
        · exact absurd hlt (by simp only at h3; omega)
        · exact .inr ⟨l', x', h3, h4⟩
    have H' : HoldsF ⟨w, fun b => c.M0 b ∨ ∃ l x, K.elem l = true ∧ lk hP l = some x ∧ F l b, nK K hP F, c.nt, c.dr⟩ (⟨put d (v, p) sL, h⟩ : St) F' (a.put o.dst v) w' := by
      refine ⟨e3.nt rfl rfl rfl hdd, fun t u q ht => ?_, by rw [hd]; simpa [Act.put] using H.size, by rw [hd]; exact H.df⟩
      rw [hd]
      rcases lk_put ht with ⟨rfl, e⟩ | ⟨hne, e⟩
      · cases e
        refine ⟨?_, e4⟩
        simp [Act.put, H.size, hn]
      · obtain ⟨h3, h4⟩ := H.sl t u q e
        refine ⟨?_, h4.to hch (fun b _ ⟨l, x, _, h5, h6⟩ => .inr ⟨l, x, h5, h6⟩) (fun b hlt hb => hlow b hlt hb)⟩
        simpa [Act.put, Array.getElem?_setIfInBounds, hne] using h3
    obtain ⟨H2, _, _⟩ := H.unframe H'
    exact k v p h e2 _ _ ⟨_, H2⟩
theorem aL_ch {dd : Prop} {f : Nat} {ar h0 : List (Nat × Ent)} {R : Value → PV → List (Nat × Ent) → Prop} {xs : Array Operand} {ats : Array TypeId} (K : List Nat) (d : Nat) (hc : ∀ args w, (callFunc f args).run P w = .ok (.enter f args) w) (hA : AFh dd P f ar h0 R)
    (k : ∀ v p h, R v p h → aL P c ops Q rest ⟨put d (v, p) sL, h ++ onlyK K hP⟩) (hw : wants ops sL o = some true := by exact rfl) (hd : o.dst = some d := by exact rfl) (hn : d < c.nt := by exact Nat.le_of_ble_eq_true rfl)
    (ho : o.op = .call { callee := .value (.func f), args := xs, argTypes := ats } := by exact rfl) (hx : evL sL xs.toList = some (ar.map (·.2)) := by exact rfl) (hh0 : h0 = minusK K hP := by exact rfl) (hio : inOrder 0 ar = true := by exact rfl) (hdd : c.dr → dd := by first | exact id | exact fun h => h.elim | exact fun _ => trivial) : aL P c ops Q (o :: rest) (⟨sL, hP⟩ : St) := by
  subst hh0
  refine aL_chE K d hw hd hn (fun a w F H => ?_) hA hio hdd k
  obtain ⟨h1, h2⟩ := evL_spec H.rd hx
  refine ⟨?_, h2⟩
  have hargs : xs.map a.eval = (ar.map (·.2.1)).toArray := by
    rw [show ar.map (·.2.1) = (ar.map (·.2)).map (·.1) by rw [List.map_map]; rfl, ← h1, ← Array.toList_map, Array.toArray_toList]
  simp [execOp, ho, resolve, Act.eval, Deferred.ofValue, invoke, hargs, hc]
theorem aL_chF {dd : Prop} {f : Nat} {es : List Ent} {us : List Value} {h0 : List (Nat × Ent)} {ar : List (Nat × Ent)} {R : Value → PV → List (Nat × Ent) → Prop} {x : Operand} {q : PV} {xs : Array Operand} {ats : Array TypeId} (K : List Nat) (d : Nat) (hc : ∀ args w, (callFunc f args).run P w = .ok (.enter f args) w) (hA : AFh dd P f ar h0 R)
    (k : ∀ v p h, R v p h → aL P c ops Q rest ⟨put d (v, p) sL, h ++ onlyK K hP⟩) (hw : wants ops sL o = some true := by exact rfl) (hd : o.dst = some d := by exact rfl) (hn : d < c.nt := by exact Nat.le_of_ble_eq_true rfl)
    (ho : o.op = .call { callee := .value x, args := xs, argTypes := ats } := by exact rfl) (hf : ev sL x = some (.func (.func f) #[] us.toArray, q) := by exact rfl) (hx : evL sL xs.toList = some es := by exact rfl) (har : ar.map (·.2) = es ++ us.map (fun u => (u, .val u)) := by exact rfl) (hh0 : h0 = minusK K hP := by exact rfl) (hio : inOrder 0 ar = true := by exact rfl) (hdd : c.dr → dd := by first | exact id | exact fun h => h.elim | exact fun _ => trivial) : aL P c ops Q (o :: rest) (⟨sL, hP⟩ : St) := by
  subst hh0
  refine aL_chE K d hw hd hn (fun a w F H => ?_) hA hio hdd k
  obtain ⟨h1, h2⟩ := evL_spec H.rd hx
  have h3 := (H.rd.ev hf).1
  have e1 : ar.map (·.2.1) = es.map (·.1) ++ us := by
    rw [show ar.map (·.2.1) = (ar.map (·.2)).map (·.1) by rw [List.map_map]; rfl, har, List.map_append, List.map_map]
    congr 1
    exact List.map_id' us
  refine ⟨?_, fun i x q hi hq => ?_⟩
  · have : xs.map a.eval = (es.map (·.1)).toArray := by rw [← h1, ← Array.toList_map, Array.toArray_toList]
    rw [e1]
    simp [execOp, ho, resolve, h3, Deferred.ofValue, invoke, this, hc]
  · rw [har] at hi hq
    rw [List.map_append] at hi hq
    rcases Nat.lt_or_ge i es.length with hlt | hge
    · rw [List.getElem?_append_left (by simpa using hlt)] at hi hq
      exact h2 i x q hi hq
    · rw [List.getElem?_append_right (by simpa using hge)] at hi hq
      simp only [List.length_map, List.map_map, List.getElem?_map, Option.map_eq_some_iff, Function.comp] at hi hq
      obtain ⟨u, hu, rfl⟩ := hi
      obtain ⟨u', hu', rfl⟩ := hq
      rw [hu] at hu'
      cases hu'
      exact .val _
theorem zeros_holds {l e k n g cap : Nat} {h : Value} {a : Act} (hh : h = .slice (some ⟨g, 0, none⟩) n cap) (zs : List Value) (h1 : zs.all Value.oneCell' = true) :
    ∀ (m i j : Nat) (cs : List PV) (w : World) (F : Nat → BS) (hp : List (Nat × Ent)), HoldsF c ⟨sL, hp⟩ F a w → lk hp l = some (h, .own e k n cs) → i + m = zs.length → j + i + m ≤ cs.length →
      ∃ w' F' hp', (storeCells ⟨g, j, none⟩ (zs.drop i) i).run P w = .ok () w' ∧ HoldsF c ⟨sL, hp'⟩ F' a w' ∧ lk hp' l = some (h, .own e k n (setL cs (j + i) ((zs.drop i).map PV.val))) ∧ ∀ l', l' ≠ l → lk hp' l' = lk hp l'
  | 0, i, j, cs, w, F, hp, H, hl, hi, hj => by
    refine ⟨w, F, hp, ?_, H, ?_, fun _ _ => rfl⟩
    · rw [List.drop_eq_nil_of_le (by omega)]; rfl
    · rw [List.drop_eq_nil_of_le (by omega : zs.length ≤ i)]; exact hl
  | m + 1, i, j, cs, w, F, hp, H, hl, hi, hj => by
    have hi' : i < zs.length := by omega
    obtain ⟨v, hv⟩ := get_of_lt hi'
    have hv1 : v.oneCell' = true := List.all_eq_true.1 h1 v (List.mem_of_getElem? hv)
    obtain ⟨F1, H1⟩ := set_holds H hl hh (show j + i < cs.length by omega) (Shr.val v)
    obtain ⟨w', F', hp2, hr, H2, hl2, hsame⟩ := zeros_holds hh zs h1 m (i + 1) j (cs.set (j + i) (.val v)) _ F1 _ H1 (lk_put_self _ _ _) (by omega) (by simp; omega)
    refine ⟨w', F', hp2, ?_, H2, ?_, fun l' hne => by rw [hsame l' hne, lk_put_ne (Ne.symm hne)]⟩
    · obtain ⟨xs, Fs, hrow, hlen, _⟩ := (H.tr l _ _ hl).row
      subst hh
      obtain ⟨z, hz⟩ := get_of_lt (show j + i < xs.length by omega)
      have hcell := row_cell hrow hz
      have hfr := hrow.frozenAt (j + i)
      rw [List.drop_eq_getElem_cons (lt_of_get hv), show zs[i]'(lt_of_get hv) = v from (List.getElem?_eq_some_iff.1 hv).2, storeCells]
      simp only [Sem.run_bind, run_store _ _ _ _ _ hv1, add_none, hcell, hfr, Bool.false_eq_true, if_false, Result.andThen_ok]
      exact hr
    · rw [hl2, List.drop_eq_getElem_cons hi', show zs[i]'hi' = v from (List.getElem?_eq_some_iff.1 hv).2, List.map_cons, setL, Nat.add_assoc]
theorem take_setL : ∀ (ps cs : List PV) (j : Nat), (setL cs j ps).take j = cs.take j
  | [], _, _ => rfl
  | p :: ps, cs, j => by
    rw [setL]
    have h := take_setL ps (cs.set j p) (j + 1)
    have h2 := congrArg (List.take j) h
    rw [List.take_take, List.take_take, Nat.min_eq_left (Nat.le_succ j)] at h2
    rw [h2, List.take_set_of_le (Nat.le_refl j)]
theorem zeros_one {z : Value} (h : z.cells.toList.all Value.oneCell' = true) (m : Nat) : (Builtin.zeroCells z.cells m).toList.all Value.oneCell' = true := by
  rw [List.all_eq_true]
  intro v hv
  unfold Builtin.zeroCells at hv
  rw [Array.toList_map, List.mem_map] at hv
  obtain ⟨i, _, rfl⟩ := hv
  rw [getElem!_def]
  cases hc : z.cells[i % z.cells.size]? with
  | none => rfl
  | some u => exact List.all_eq_true.1 h u (by rw [← Array.getElem?_toList] at hc; exact List.mem_of_getElem? hc)
theorem aL_clear {t e kk bytes n i : Nat} {z : Value} {x : Operand} {h : Value} {q : PV} {cs : List PV} (l : Nat) (hT : ElT P t e kk bytes z) (hz0 : z.cells.toList.all Value.oneCell' = true) (hw : wants ops sL o = some true) (hd : o.dst = none)
    (ho : o.op = .call { callee := .builtin .clear, args := #[x], argTypes := #[t] }) (hx : ev sL x = some (slc h i n kk, q)) (hl : lk hP l = some (h, .own e kk n cs)) (hi : i ≤ n)
    (k : ∀ cs', cs'.length = cs.length → cs'.take (i * kk) = cs.take (i * kk) → aL P c ops Q rest ⟨sL, put l (h, .own e kk n cs') hP⟩) : aL P c ops Q (o :: rest) (⟨sL, hP⟩ : St) :=
  aL_run hw fun a w F H => by
    have hxv := (H.rd.ev hx).1
    obtain ⟨xs, Fs, hrow, hlen, _⟩ := (H.tr l _ _ hl).row
    obtain ⟨inf, hi1, hi2, hi3, hi4⟩ := hT.info
    have hback : Holds c ⟨sL, put l (h, .own e kk n cs) hP⟩ a w := ⟨F, H.less (fun _ _ h => h) fun t x hx => by
      rcases lk_put hx with ⟨rfl, rfl⟩ | ⟨hne, e1⟩
      · exact hl
      · exact e1⟩
    rcases row_form hrow with ⟨rfl, rfl, rfl⟩ | ⟨g, cap, rfl, hc1, hc2, hc3⟩
    · have hi0 : i = 0 := by omega
      subst hi0
      unfold Oper.wp execOp
      simp [ho, hxv, resolve, invoke, builtin, Builtin.clear_, slc, run_underlying hT.ht, Oper.upon, hd, Act.put]
      exact k cs rfl rfl _ _ hback
    · rcases Nat.lt_or_ge i n with hlt | hge
      · have hlen' : cs.length = n * kk := by rw [hlen, hrow.1]
        have hzs : (Builtin.zeroCells z.cells (n - i)).toList.length = (n - i) * kk := by rw [Array.length_toList, size_zeroCells, hT.hz]
        have hmul : i * kk + (n - i) * kk = n * kk := by rw [← Nat.add_mul]; congr 1; omega
        obtain ⟨w', F', hp', hr, H', hl', hsame⟩ := zeros_holds (P := P) rfl (Builtin.zeroCells z.cells (n - i)).toList (zeros_one hz0 _) _ 0 (i * kk) cs w F hP H hl (Nat.zero_add _) (by omega)
        simp only [List.drop_zero, Nat.add_zero] at hr hl'
        have hcap : cap ≠ i := by omega
        obtain ⟨m, hm⟩ : ∃ m, n - i = m + 1 := ⟨n - i - 1, by omega⟩
        simp only [slc, hcap, if_false, Option.map_some, add_none, Nat.zero_add, hm] at hxv
        rw [hm] at hr hl' 
        unfold Oper.wp execOp
        simp [ho, hxv, resolve, invoke, builtin, Builtin.clear_, run_underlying hT.ht, zeroValue, typeInfo, hi1, hi2, hr, Oper.upon, hd, Act.put]
        refine k (setL cs (i * kk) ((Builtin.zeroCells z.cells (m + 1)).toList.map PV.val)) (setL_len _ _ _) (take_setL _ _ _) _ _ ⟨F', H'.less (fun _ _ h => h) fun t x hx => ?_⟩
        rcases lk_put hx with ⟨rfl, rfl⟩ | ⟨hne, e1⟩
        · exact hl'
        · show lk hp' t = _
          rw [hsame t (Ne.symm hne)]; exact e1
      · have hin : i = n := by omega
        subst hin
        by_cases hca : cap = i
        all_goals
          unfold Oper.wp execOp
          simp [ho, hxv, resolve, invoke, builtin, Builtin.clear_, slc, hca, run_underlying hT.ht, Oper.upon, hd, Act.put]
          exact k cs rfl rfl _ _ hback
theorem q_eqnil {t e k r n : Nat} {x y : Operand} {v : Value} {q : PV} {cs : List PV} {st : St} (hT : SlT P t e k = true) (ho : o.op = .binOp .eql t x y r := by exact rfl) (hx : ev st.slots x = some (v, .sl n cs) := by exact rfl) (hy : ev st.slots y = some (.slice none 0 0, q) := by exact rfl) :
    YE P st o (fun u => u = .bool false ∨ (u = .bool true ∧ n = 0)) (.val (.bool (match v with | .slice a _ _ => a.isNone | _ => false))) := fun M F a w H => by
  obtain ⟨hv, hS⟩ := H.ev hx
  have hyv := (H.ev hy).1
  cases hS with
  | emp ad cp hc ha =>
    refine ⟨.bool ad.isNone, ?_, .val _, fun N W _ _ _ => ?_⟩
    · cases ad with
      | none => exact .inr ⟨rfl, rfl⟩
      | some _ => exact .inl rfl
    · simp [execOp, ho, hv, hyv, eqGuard, Go.Lib.run_eql_slice_nil W t e ad _ _ 0 0 (SlT.und hT)]
  | sl b off n cp cs vs hn hc hcell hT' =>
    refine ⟨.bool false, .inl rfl, .val _, fun N W _ _ _ => ?_⟩
    simp [execOp, ho, hv, hyv, eqGuard, Go.Lib.run_eql_slice_nil W t e (some ⟨b, off, none⟩) _ _ 0 0 (SlT.und hT)]
theorem aL_heap {l : List Oper} (h : List (Nat × Ent)) (hs : Sub h hP) (k : aL P c ops Q l ⟨sL, h⟩) : aL P c ops Q l (⟨sL, hP⟩ : St) := fun a w ⟨F, H⟩ => k a w ⟨F, H.less (fun _ _ h => h) fun t x hx => hs.lk hx⟩
def SortI0 (P : Program) (fs : Nat) : Prop := ∀ (p : Option Addr) (cap : Nat) (w : World), Calls P fs #[.slice p 0 cap] w fun e w' => e = .returned (.tuple #[]) ∧ w' = w
theorem s_sortI0 {fs e kk d : Nat} {h : Value} {q : PV} {cs : List PV} {x : Operand} {ats : Array TypeId} (l : Nat) (hS : SortI0 P fs) (hc : ∀ args w, (callFunc fs args).run P w = .ok (.enter fs args) w)
    (k : aL P c ops Q rest ⟨put d (.tuple #[], .val (.tuple #[])) sL, hP⟩)
    (hw : wants ops sL o = some true := by exact rfl) (hd : o.dst = some d := by exact rfl) (hdn : d < c.nt := by exact Nat.le_of_ble_eq_true rfl) (ho : o.op = .call { callee := .value (.func fs), args := #[x], argTypes := ats } := by exact rfl) (hx : ev sL x = some (h, q) := by exact rfl) (hl : lk hP l = some (h, .own e kk 0 cs) := by exact rfl) : aL P c ops Q (o :: rest) (⟨sL, hP⟩ : St) :=
  aL_run hw fun a w F H => by
    have hxv := (H.rd.ev hx).1
    obtain ⟨xs, Fs, hrow, _⟩ := (H.tr l _ _ hl).row
    have hh : ∃ p cap, h = .slice p 0 cap := by
      rcases row_form hrow with ⟨h1, _, _⟩ | ⟨g, cap, h1, _⟩
      · exact ⟨_, _, h1⟩
      · exact ⟨_, _, h1⟩
    obtain ⟨p, cap, rfl⟩ := hh
    unfold Oper.wp
    have hr : (execOp a.eval o).run P w = .ok (.enter fs #[.slice p 0 cap]) w := by
      simp [execOp, ho, resolve, Act.eval, Deferred.ofValue, invoke, hc] at hxv ⊢
      simp [hxv]
    rw [hr, Oper.upon_enter]
    refine (hS p cap w).mono fun e w' ⟨e1, e2⟩ => ?_
    subst e1 e2
    rw [hd]
    exact k _ _ ⟨F, H.put hdn (.val _)⟩
end
end Go.En

namespace Go.En
open Go.RowKit Go.Cb
set_option linter.all false
section
variable {P : Program} {st : St} {o : Oper}
theorem agg_plain {M : BS} {w : World} {v : Value} {us : List Value} (h : Shr M w v (.agg (us.map PV.val))) : v = .agg us.toArray := by
  generalize hp : PV.agg (us.map PV.val) = p at h
  cases h with
  | agg vs ps hl hT =>
    cases hp
    congr 2
    apply List.ext_getElem?
    intro i
    rw [List.length_map] at hl
    rcases Nat.lt_or_ge i us.length with hi | hi
    · obtain ⟨u, hu⟩ := get_of_lt hi
      obtain ⟨x, hx⟩ := get_of_len hu hl.symm
      have h1 := hT i x (.val u) hx (by rw [List.getElem?_map, hu]; rfl)
      have h2 : x = u := h1.vOf
      rw [hx, hu, h2]
    · rw [List.getElem?_eq_none hi, List.getElem?_eq_none (by omega)]
  | _ => cases hp
theorem q_eqS {t r : Nat} {x y : Operand} {v v' : Value} {us us' : List Value} {b : Bool} (ht : P.underlying t = some (.struct (P.fieldsOf t))) (hp : P.stoodInHeld t = false) (hg : P.eqGuardType P.depth t = false)
    (hE : ∀ w, (Op.eqFields 9999 us.toArray us'.toArray (P.fieldsOf t).toList).run P w = .ok b w) (hx : ev st.slots x = some (v, .agg (us.map PV.val))) (hy : ev st.slots y = some (v', .agg (us'.map PV.val))) (ho : o.op = .binOp .eql t x y r := by exact rfl) : YE P st o (· = .bool b) (.val (.bool b)) :=
  .exact fun M F a w H => ⟨.val _, by
    obtain ⟨h1, h2⟩ := H.ev hx
    obtain ⟨h3, h4⟩ := H.ev hy
    have e1 := agg_plain h2
    have e2 := agg_plain h4
    subst e1 e2
    have hr : (Op.equalIn 10000 t (.agg us.toArray) (.agg us'.toArray)).run P w = .ok b w := by rw [run_equalIn_struct w 9999 t _ _ ht hp]; exact hE w
    simp [execOp, ho, h1, h3, run_eqGuard_agg w .eql t x y us.toArray us'.toArray hg, run_eql_struct, hr]⟩
theorem q_neS {t r : Nat} {x y : Operand} {v v' : Value} {us us' : List Value} {b : Bool} (ht : P.underlying t = some (.struct (P.fieldsOf t))) (hp : P.stoodInHeld t = false) (hg : P.eqGuardType P.depth t = false)
    (hE : ∀ w, (Op.eqFields 9999 us.toArray us'.toArray (P.fieldsOf t).toList).run P w = .ok b w) (hx : ev st.slots x = some (v, .agg (us.map PV.val))) (hy : ev st.slots y = some (v', .agg (us'.map PV.val))) (ho : o.op = .binOp .neq t x y r := by exact rfl) : YE P st o (· = .bool (!b)) (.val (.bool (!b))) :=
  .exact fun M F a w H => ⟨.val _, by
    obtain ⟨h1, h2⟩ := H.ev hx
    obtain ⟨h3, h4⟩ := H.ev hy
    have e1 := agg_plain h2
    have e2 := agg_plain h4
    subst e1 e2
    have hr : (Op.equalIn 10000 t (.agg us.toArray) (.agg us'.toArray)).run P w = .ok b w := by rw [run_equalIn_struct w 9999 t _ _ ht hp]; exact hE w
    simp [execOp, ho, h1, h3, run_eqGuard_agg w .neq t x y us.toArray us'.toArray hg, run_neq_struct, hr]⟩
end
end Go.En

namespace Go.En
open Go.RowKit Go.Cb
set_option linter.all false
theorem recast {sL hP : List (Nat × Ent)} {l : Nat} {h : Value} {p p' : PV} (hl : lk hP l = some (h, p)) (e : p = p') : EntE (⟨sL, hP⟩ : St) (fun _ : Unit => ⟨sL, put l (h, p') hP⟩) := fun c a w ⟨F, H⟩ => by
  subst e
  refine ⟨(), F, H.less (fun t x h => h) fun t x ht => ?_⟩
  rcases lk_put ht with ⟨rfl, e1⟩ | ⟨_, h1⟩
  · rw [hl, e1]
  · exact h1
theorem reslot {sL hP : List (Nat × Ent)} {t : Nat} {v : Value} {p p' : PV} (hl : lk sL t = some (v, p)) (e : p = p') : EntE (⟨sL, hP⟩ : St) (fun _ : Unit => ⟨put t (v, p') sL, hP⟩) := fun c a w ⟨F, H⟩ => by
  subst e
  refine ⟨(), F, H.less (fun s x ht => ?_) (fun t x h => h)⟩
  rcases lk_put ht with ⟨rfl, e1⟩ | ⟨_, h1⟩
  · rw [hl, e1]
  · exact h1
theorem nilSlD {sL hP : List (Nat × Ent)} {t : Nat} {q : PV} (ht : lk sL t = some (.slice none 0 0, q)) : EntE (⟨sL, hP⟩ : St) (fun _ : Unit => ⟨put t (.slice none 0 0, .sl 0 []) sL, hP⟩) := fun c a w ⟨F, H⟩ => by
  refine ⟨(), F, H.toHeapF, fun s u r hs => ?_, H.size, H.df⟩
  rcases lk_put hs with ⟨rfl, e1⟩ | ⟨_, hs'⟩
  · cases e1
    exact ⟨(H.sl t _ _ ht).1, .emp none 0 (by unfold maxLen; omega) (fun _ => rfl)⟩
  · exact H.sl s u r hs'
end Go.En

namespace Go.En
open Go.RowKit Go.Cb
set_option linter.all false
section
variable {P : Program} {c : Ctx} {ops : Array Oper} {Q : Exit → Act → World → Prop} {rest : List Oper} {sL hP : List (Nat × Ent)} {o : Oper}
theorem fold_off : ∀ (l : List Value) (j off : Nat) (cells : Array Value), (l.zipIdx j).foldl (fun cs x => cs.setIfInBounds (off + x.2) x.1) cells = (l.zipIdx (off + j)).foldl (fun cs x => cs.setIfInBounds (0 + x.2) x.1) cells
  | [], j, off, cells => rfl
  | x :: l, j, off, cells => by
    simp only [List.zipIdx_cons, List.foldl_cons]
    rw [fold_off l (j + 1) off, Nat.zero_add, Nat.add_assoc]
theorem fold_mid : ∀ (l : List Value) (i : Nat) (cells : Array Value), i + l.length ≤ cells.size → (l.zipIdx i).foldl (fun cs x => cs.setIfInBounds (0 + x.2) x.1) cells = (cells.toList.take i ++ l ++ cells.toList.drop (i + l.length)).toArray
  | [], i, cells, h => by
    simp only [List.zipIdx_nil, List.foldl_nil, List.append_nil, List.length_nil, Nat.add_zero, List.take_append_drop, Array.toArray_toList]
  | x :: l, i, cells, h => by
    simp only [List.zipIdx_cons, List.foldl_cons]
    simp only [List.length_cons] at h
    rw [fold_mid l (i + 1) _ (by simp; omega)]
    congr 1
    rw [Nat.zero_add, Array.toList_setIfInBounds, List.take_succ_eq_append_getElem (by simp; omega)]
    simp only [List.getElem_set_self, List.length_cons]
    rw [List.take_set_of_le (by omega), List.drop_set_of_lt (by omega), show i + 1 + l.length = i + (l.length + 1) by omega]
    simp
theorem fill_k (kk : Nat) : ∀ (vs : List (List Value)) (i : Nat) (cells : Array Value), cells.size = (i + vs.length) * kk → (∀ v ∈ vs, v.length = kk) → Instr.fill (fun i => some (i * kk, kk)) cells (((vs.map fun v => Value.agg v.toArray).zipIdx i).map fun x => (x.2, x.1)) = some (cells.toList.take (i * kk) ++ vs.flatten).toArray
  | [], i, cells, h, _ => by
    simp only [List.map_nil, List.zipIdx_nil, Instr.fill, List.flatten_nil, List.append_nil]
    simp only [List.length_nil, Nat.add_zero] at h
    rw [List.take_of_length_le (by simp; omega)]
  | v :: vs, i, cells, h, h1 => by
    have hv := h1 v (by simp)
    have hcs : (Value.agg v.toArray).cells = v.toArray := rfl
    have hle : (i + 1) * kk ≤ cells.size := by rw [h]; exact Nat.mul_le_mul_right _ (by simp)
    rw [Nat.succ_mul] at hle
    have hc : ¬ ((Value.agg v.toArray).cells.size ≠ kk || decide (i * kk + (Value.agg v.toArray).cells.size > cells.size)) = true := by rw [hcs]; simp; omega
    simp only [List.map_cons, List.zipIdx_cons, Instr.fill, hc, if_false]
    rw [hcs, ← Array.foldl_toList, Array.toList_zipIdx, fold_off, fold_mid _ _ _ (by simp; omega)]
    have := fill_k kk vs (i + 1) (cells.toList.take (i * kk + 0) ++ v ++ cells.toList.drop (i * kk + 0 + v.length)).toArray (by
      simp only [List.size_toArray, List.length_append, List.length_take, List.length_drop, Array.length_toList]
      rw [Nat.min_eq_left (by omega)]
      rw [List.length_cons] at h
      rw [h, show i + 1 + vs.length = i + (vs.length + 1) by omega] at *
      omega) (fun u hu => h1 u (by simp [hu]))
    simp only [Array.toArray_toList] at this ⊢
    rw [this]
    congr 2
    rw [List.flatten_cons, ← List.append_assoc]
    congr 1
    rw [List.take_append_of_le_length (by simp; rw [Nat.succ_mul, Nat.min_eq_left (by omega)]; omega)]
    rw [List.take_of_length_le (by simp; rw [Nat.succ_mul, Nat.min_eq_left (by omega)]; omega)]
    simp
theorem s_lita {t e kk bytes m : Nat} {z : Value} {xs : List Operand} {parts : Array (Nat × Operand)} {es : List Ent} {cs : List (List PV)} (d : Nat) (hT : ElT P t e kk bytes z)
    (k : ∀ h : Value, h.oneCell' = true → aL P c ops Q rest ⟨put d (h, .val h) sL, put d (h, .own e kk m cs.flatten) hP⟩) (hw : wants ops sL o = some true := by exact rfl) (hd : o.dst = some d := by exact rfl) (hn : d < c.nt := by exact Nat.le_of_ble_eq_true rfl) (ho : o.op = .buildSlice t m parts := by exact rfl) (hpt : parts = ((xs.zipIdx).map fun x => (x.2, x.1)).toArray := by exact rfl) (hx : evL sL xs = some es := by exact rfl)
    (hcs : es.map (·.2) = cs.map PV.agg := by exact rfl) (hck : ∀ q ∈ cs, q.length = kk := by simp) (hm : es.length = m := by exact rfl) (hm0 : 0 < m := by decide) (hm1 : m ≤ 1000 := by decide) (hk0 : kk ≤ 1000 := by decide) (hl : lk hP d = none := by exact rfl) : aL P c ops Q (o :: rest) (⟨sL, hP⟩ : St) :=
  aL_run hw fun a w F H => by
    obtain ⟨i, hi1, hi2, hi3, hi4⟩ := hT.info
    obtain ⟨he, hS⟩ := evL_spec H.rd hx
    have hkp := hT.hk
    have key : ∀ (es : List Ent) (cs : List (List PV)), es.map (·.2) = cs.map PV.agg → (∀ q ∈ cs, q.length = kk) → (∀ (i : Nat) (x : Value) (q : PV), (es.map (·.1))[i]? = some x → (es.map (·.2))[i]? = some q → Shr (mof c hP F) w x q) → ∃ us : List (List Value), es.map (·.1) = us.map (fun v => Value.agg v.toArray) ∧ us.length = es.length ∧ (∀ u ∈ us, u.length = kk) ∧ us.flatten.length = cs.flatten.length ∧ ∀ (i : Nat) (x : Value) (q : PV), us.flatten[i]? = some x → cs.flatten[i]? = some q → Shr (mof c hP F) w x q := fun es => by
      induction es with
      | nil =>
        intro cs h1 _ _
        cases cs with
        | nil => exact ⟨[], rfl, rfl, by simp, rfl, by simp⟩
        | cons q cs => simp at h1
      | cons e0 es ih =>
        intro cs h1 h2 h3
        cases cs with
        | nil => simp at h1
        | cons q cs =>
          simp only [List.map_cons, List.cons.injEq] at h1
          obtain ⟨us, g1, g2, g3, g4, g5⟩ := ih cs h1.2 (fun u hu => h2 u (List.mem_cons_of_mem _ hu)) (fun i x q hx hq => h3 (i + 1) x q (by simpa using hx) (by simpa using hq))
          have h4 := h3 0 e0.1 e0.2 rfl rfl
          rw [h1.1] at h4
          generalize hv0 : e0.1 = v0 at h4
          have hqk := h2 q (List.mem_cons_self ..)
          cases h4 with
          | agg vs ps hvl hTT =>
            refine ⟨vs :: us, by rw [List.map_cons, List.map_cons, hv0, g1], by simp [g2], fun u hu => ?_, by rw [List.flatten_cons, List.flatten_cons, List.length_append, List.length_append, g4, hvl], fun i x r hx hr => ?_⟩
            · rcases List.mem_cons.1 hu with rfl | hu
              · omega
              · exact g3 u hu
            · rw [List.flatten_cons] at hx hr
              rcases Nat.lt_or_ge i vs.length with hi | hi
              · rw [List.getElem?_append_left hi] at hx
                rw [List.getElem?_append_left (by omega)] at hr
                exact hTT i x r hx hr
              · rw [List.getElem?_append_right hi] at hx
                rw [List.getElem?_append_right (by omega)] at hr
                refine g5 (i - vs.length) x r hx ?_
                rw [hvl]; exact hr
    obtain ⟨us, u1, u2, u3, u4, u5⟩ := key es cs hcs hck hS
    have hfl : us.flatten.length = m * kk := by
      have : ∀ us : List (List Value), (∀ u ∈ us, u.length = kk) → us.flatten.length = us.length * kk := fun us => by
        induction us with
        | nil => intro _; simp
        | cons u us ih =>
          intro h
          rw [List.flatten_cons, List.length_append, h u (List.mem_cons_self ..), ih fun v hv => h v (List.mem_cons_of_mem _ hv), List.length_cons, Nat.succ_mul]; omega
      rw [this us u3, u2, hm]
    have hmk : m * kk ≤ 1000000 := Nat.le_trans (Nat.mul_le_mul hm1 hk0) (by decide)
    have hmk0 : 0 < m * kk := Nat.mul_pos hm0 hkp
    obtain ⟨F', H'⟩ := alloc_holds (e := e) (k := kk) (n := m) (cap := m) (cur := us.flatten.toArray) (v := .slice (some ⟨w.heap.size, 0, none⟩) m m) H hl hn (vs := us.flatten) (ps := cs.flatten) u4 u5 (by first | omega | exact hfl | (rw [hfl]) | (rw [Nat.mul_comm]; exact hfl)) (Nat.le_refl _) (by unfold maxLen; omega) (by simp; rw [← List.length_flatten, hfl]) (List.take_of_length_le (by simp; rw [← List.length_flatten, hfl]; omega))
    have hf := fill_k kk us 0 ((Array.range (m * i.size)).map (z.cells[· % z.cells.size]!)) (by simp [hi3, u2, hm]) u3
    have hpe : (parts.map fun (i, x) => (i, a.eval x)).toList = ((us.map fun v => Value.agg v.toArray).zipIdx 0).map fun x => (x.2, x.1) := by
      rw [hpt, ← u1, ← he]
      simp [List.zipIdx_map]
    have hr := run_buildSlice (P := P) w t e m (parts.map fun (i, x) => (i, a.eval x)) us.flatten.toArray i z hT.ht hi1 hi2 (by rw [hi3]; omega) (by rw [hi3]; omega) (by rw [hpe, hi3]; rw [hi3] at hf; simpa using hf)
    unfold Oper.wp execOp
    simp only [ho, Sem.run_bind, hr, Result.andThen_ok, Sem.run_pure, Oper.upon, hd]
    exact k (.slice (some ⟨w.heap.size, 0, none⟩) m m) rfl _ _ ⟨F', H'⟩
end
end Go.En

namespace Go.En
open Go.RowKit Go.Cb
set_option linter.all false
def Rr (p p' : PV) : Prop := ∀ (M : BS) (w : World) (v : Value), Shr M w v p → Shr M w v p'
theorem Rr.rfl' (p : PV) : Rr p p := fun _ _ _ h => h
theorem Rr.nil : Rr (.val (.slice none 0 0)) (.sl 0 []) := fun M w v h => by
  cases h with
  | val => exact .emp none 0 (by unfold maxLen; omega) (fun _ => rfl)
theorem Rr.agg {ps ps' : List PV} (hl : ps.length = ps'.length) (h : ∀ (i : Nat) (p p' : PV), ps[i]? = some p → ps'[i]? = some p' → Rr p p') : Rr (.agg ps) (.agg ps') := fun M w v hv => by
  cases hv with
  | agg vs ps hvl hT =>
    refine .agg vs ps' (by omega) fun i x q hx hq => ?_
    obtain ⟨p, hp⟩ := get_of_len hq hl.symm
    exact h i p q hp hq M w x (hT i x p hx hp)
theorem Rr.tup {ps ps' : List PV} (hl : ps.length = ps'.length) (h : ∀ (i : Nat) (p p' : PV), ps[i]? = some p → ps'[i]? = some p' → Rr p p') : Rr (.tup ps) (.tup ps') := fun M w v hv => by
  cases hv with
  | tup vs ps hvl hT =>
    refine .tup vs ps' (by omega) fun i x q hx hq => ?_
    obtain ⟨p, hp⟩ := get_of_len hq hl.symm
    exact h i p q hp hq M w x (hT i x p hx hp)
theorem Rr.tup2 {p p' q : PV} (h : Rr p p') : Rr (.tup [p, q]) (.tup [p', q]) := Rr.tup rfl fun i a b ha hb => by
  match i with
  | 0 => cases ha; cases hb; exact h
  | 1 => cases ha; cases hb; exact Rr.rfl' _
  | i + 2 => simp at ha
theorem AF.reread {P : Program} {f : Nat} {ps : List PV} {p p' : PV} (h : AF P f ps (· = p)) (hs : shD p = true) (hr : Rr p p') : AF P f ps (· = p') := fun M w vs hM hl hv =>
  (h M w vs hM hl hv).mono fun e w' ⟨v, q, F, h1, h2, h3, h4, h5, h6⟩ => by
    subst h2
    refine ⟨v, p', fun _ => False, h1, rfl, h3, .shr (hr _ _ _ ((h4.shD hs).anti fun b _ hb => ?_)) (fun _ h => h), fun b hb => hb.elim, h6⟩
    rcases hb with hb | hb
    · exact .inl hb
    · exact hb.elim
end Go.En
