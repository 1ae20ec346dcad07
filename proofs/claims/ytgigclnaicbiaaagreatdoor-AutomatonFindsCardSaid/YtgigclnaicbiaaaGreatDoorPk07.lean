/-
  The engine, last part: arguments of whatever shape, as they came in, read as plain data; and the frame of a law's row. No program in sight.
  The engine: a struct of five fields read as an argument. No program in sight.
  How the arguments of the laws read; what is handed back, as one automaton and one number; the law on Minimal and Complement (layer 7).
  The law AutomatonFinds: Shortest, Equivalent, and Included return what the reference does, whatever the automata.
-/
import Derived.WalkKit
import Derived.ProofKit
import Derived.OpenShut
import Derived.ShutString
import Derived.ChangeOld
import Derived.Below
import Derived.Carry
import Derived.Deep.Slices
import Derived.Test.YtgigclnaicbiaaaGreatDoorPk02
import Derived.Test.YtgigclnaicbiaaaGreatDoorPk05
import Derived.Test.YtgigclnaicbiaaaGreatDoorPk06
import Derived.Test.YtgigclnaicbiaaaGreatDoorPk04
namespace Go.En
open Go.RowKit Go.Cb Go.WideShapes Go.ChangeShapes Go.ChangeAt Go.Deep
set_option linter.all false
theorem weightsAll_mem {H : Type} (P : Program) (e : TypeId) {d : DataW H} {n : Nat} : ∀ {l : List (DataW H)}, d ∈ l → n ∈ d.weights P e → n ∈ DataW.weightsAll P e l
 | x :: l, h, hn => by
   rw [DataW.weightsAll, List.mem_append]
   rcases List.mem_cons.1 h with rfl | h
   · exact .inl hn
   · exact .inr (weightsAll_mem P e h hn)
theorem weightsEach_mem {H : Type} (P : Program) {d : DataW H} {t : TypeId} {n : Nat} : ∀ {ts : List TypeId} {l : List (DataW H)} (i : Nat), ts[i]? = some t → l[i]? = some d → n ∈ d.weights P t → n ∈ DataW.weightsEach P ts l
 | t' :: ts, x :: l, 0, h1, h2, hn => by
   simp at h1 h2
   subst h1 h2
   rw [DataW.weightsEach, List.mem_append]
   exact .inl hn
 | t' :: ts, x :: l, i + 1, h1, h2, hn => by
   rw [DataW.weightsEach, List.mem_append]
   exact .inr (weightsEach_mem P i (by simpa using h1) (by simpa using h2) hn)
structure Dec (P : Program) (t : TypeId) (k : Nat) {α : Type} (enc : α → List PV) (fit : α → Prop) : Prop where
 size : P.cellsOf t = k
 len : ∀ a, (enc a).length = k
 dec : ∀ {H : Type} (e : TypeId × Value → H) (w : World) (spare : Nat → Bool) (held : Bool) (fuel : Nat) (cs : List Value) (x : DataW H × List MemPlace), DataW.trod e P w 0 spare held fuel t cs = some x → (∀ n ∈ x.1.weights P t, n ≤ reachBytes) →
  ∃ a, fit a ∧ cs.length = k ∧ ∀ (i : Nat) (v : Value) (p : PV), cs[i]? = some v → (enc a)[i]? = some p → Shr (fun _ => False) w v p
section
variable {P : Program} {t : TypeId}
theorem one_at {v u : Value} {p q : PV} {w : World} (h : Shr (fun _ => False) w v p) (i : Nat) (h1 : [v][i]? = some u) (h2 : [p][i]? = some q) : Shr (fun _ => False) w u q := by
 cases i with
 | zero => simp at h1 h2; subst h1 h2; exact h
 | succ i => simp at h1
theorem dec_int (ht : P.underlying t = some (.int .i64)) (hs : P.cellsOf t = 1) : Dec P t 1 (fun n : Int => [pInt n]) (fun n => -9223372036854775808 ≤ n ∧ n ≤ 9223372036854775807) where
 size := hs
 len := fun _ => rfl
 dec := fun e w spare held fuel cs x h => by
  intro hwt
  obtain ⟨n, rfl, _, hw⟩ := DataW.trod_int ht h
  refine ⟨n, ?_, rfl, fun i v p h1 h2 => one_at (.val _) i h1 h2⟩
  simpa [Lit.wf, IntKind.min, IntKind.max, IntKind.signed, IntKind.bits] using hw
theorem dec_slice {α : Type} {e k : Nat} {enc : α → List PV} {fit : α → Prop} (ht : P.underlying t = some (.slice e)) (hs : P.cellsOf t = 1) (hk : 0 < k) (hby : 0 < P.bytesOf e) (D : Dec P e k enc fit) :
 Dec P t 1 (fun l : List α => [PV.sl l.length (l.flatMap enc)]) (fun l => l.length ≤ 140737488355328 ∧ ∀ x ∈ l, fit x) where
 size := hs
 len := fun _ => rfl
 dec := fun en w spare held fuel cs x h => by
  intro hwt
  rcases open_slice ht h with ⟨rfl, _⟩ | ⟨a, len, cap, m, n, Dt, Pl, rfl, _, hl, hm, hmm, rfl, hx⟩
  · exact ⟨[], ⟨by simp, by simp⟩, rfl, fun i v p h1 h2 => one_at (.emp none 0 (by unfold maxLen; omega) (fun _ => rfl)) i h1 h2⟩
  · rcases Nat.eq_zero_or_pos len with h0 | h0
    · subst h0
      exact ⟨[], ⟨by simp, by simp⟩, rfl, fun i v p h1 h2 => one_at (.emp (some a) cap hm (fun h => by cases h)) i h1 h2⟩
    have hlm : len ≤ m := by rw [hmm]; split <;> omega
    simp only [DataW.weights, ht] at hwt
    have hlen : len ≤ reachBytes := by
     have := hwt _ (List.mem_cons_self ..)
     simp only [List.length_map, List.length_range] at this
     exact Nat.le_trans (Nat.le_trans (Nat.le_add_right len _) (Nat.le_mul_of_pos_right _ hby)) this
    have hwi : ∀ i, i < len → ∀ n ∈ (Dt i).weights P e, n ≤ reachBytes := fun i hi n hn => hwt n (List.mem_cons_of_mem _ (List.mem_append.2 (.inl (weightsAll_mem P e (List.mem_map.2 ⟨i, by simpa using hi, rfl⟩) hn))))
    have key : ∀ i : Nat, ∃ (y : α × (Nat → Value)), i < len → fit y.1 ∧ ∀ (j : Nat) (p : PV), (enc y.1)[j]? = some p → w.cell? ((a.add (i * k)).add j) = some (y.2 j) ∧ Shr (fun _ => False) w (y.2 j) p := fun i => by
     obtain ⟨cs0, h10, h20⟩ := hx 0 (by omega)
     obtain ⟨y0, _⟩ := D.dec en w spare held n cs0 _ h20 (hwi 0 h0)
     by_cases hi : i < len
     · obtain ⟨cs', h1, h2⟩ := hx i (by omega)
       rw [D.size] at h1
       obtain ⟨_, hlen, hcell⟩ := World.cells?_some h1
       obtain ⟨y, hy, _, hS⟩ := D.dec en w spare held n cs' _ h2 (hwi i hi)
       refine ⟨(y, fun j => (cs'[j]?).getD undef), fun _ => ⟨hy, fun j p hp => ?_⟩⟩
       have hj : j < k := by rw [← D.len y]; exact lt_of_get hp
       obtain ⟨u, hu⟩ := get_of_lt (show j < cs'.length by omega)
       have := hcell j hj
       simp only [hu, Option.getD_some]
       exact ⟨by rw [this, hu], hS j u p hu hp⟩
     · exact ⟨(y0, fun _ => undef), fun h => absurd h hi⟩
    obtain ⟨Y, hY⟩ := Classical.skolem.1 key
    have hspot : ∃ b off, a = ⟨b, off, none⟩ := by
     obtain ⟨hf, hc⟩ := hY 0 h0
     obtain ⟨p, hp⟩ := get_of_lt (show 0 < (enc (Y 0).1).length by rw [D.len]; exact hk)
     have := (hc 0 p hp).1
     obtain ⟨b, off, spot⟩ := a
     have hspot : spot = none := by simpa [Addr.add] using World.cell?_spot this
     subst hspot
     exact ⟨b, off, rfl⟩
    obtain ⟨b, off, rfl⟩ := hspot
    have hflen : ((List.range len).map fun i => (Y i).1).length = len := by simp
    refine ⟨(List.range len).map fun i => (Y i).1, ⟨by rw [hflen]; unfold reachBytes at hlen; omega, fun x hx => ?_⟩, rfl, fun i v p h1 h2 => one_at ?_ i h1 h2⟩
    · obtain ⟨i, hi, rfl⟩ := List.mem_map.1 hx
      exact (hY i (by simpa using hi)).1
    · rw [hflen]
      have hat : ∀ (c : Nat) (p : PV), (((List.range len).map fun i => (Y i).1).flatMap enc)[c]? = some p → c / k < len ∧ (enc (Y (c / k)).1)[c % k]? = some p := fun c p hp => by
       have hc : c < len * k := by have := lt_of_get hp; rw [flat_len D.len, hflen] at this; exact this
       have hq : c / k < len := Nat.div_lt_of_lt_mul (by rw [Nat.mul_comm]; exact hc)
       have hget : ((List.range len).map fun i => (Y i).1)[c / k]? = some (Y (c / k)).1 := by simp [hq]
       have := flat_at D.len hget (Nat.mod_lt c hk)
       rw [Nat.mul_comm, Nat.div_add_mod] at this
       exact ⟨hq, by rw [← this]; exact hp⟩
      refine .sl b off len cap _ (fun c => (Y (c / k)).2 (c % k)) hl hm (fun c hc => ⟨?_, fun h => h⟩) (fun c p hp => ?_)
      · obtain ⟨p, hp⟩ := get_of_lt hc
        obtain ⟨hq, hp'⟩ := hat c p hp
        have := ((hY (c / k) hq).2 (c % k) p hp').1
        rw [add_none, add_none, Nat.add_assoc, Nat.mul_comm, Nat.div_add_mod] at this
        exact this
      · obtain ⟨hq, hp'⟩ := hat c p hp
        exact ((hY (c / k) hq).2 (c % k) p hp').2
theorem dec_field {H : Type} {α : Type} {e k o : Nat} {enc : α → List PV} {fit : α → Prop} (D : Dec P e k enc fit) {en : TypeId × Value → H} {w : World} {spare : Nat → Bool} {held : Bool} {n : Nat} {cs : List Value} {y : DataW H × List MemPlace}
 (h : DataW.trod en P w 0 spare held n e ((cs.drop o).take (P.cellsOf e)) = some y) (hwt : ∀ n ∈ y.1.weights P e, n ≤ reachBytes) : ∃ a, fit a ∧ ∀ (i : Nat) (v : Value) (p : PV), cs[o + i]? = some v → (enc a)[i]? = some p → Shr (fun _ => False) w v p := by
 obtain ⟨a, h1, _, h3⟩ := D.dec en w spare held n _ y h hwt
 refine ⟨a, h1, fun i v p hv hp => h3 i v p ?_ hp⟩
 have hi : i < k := by rw [← D.len a]; exact lt_of_get hp
 rw [D.size, List.getElem?_take_of_lt hi, List.getElem?_drop]; exact hv
theorem dec_map {α β : Type} {k : Nat} {enc : α → List PV} {enc' : β → List PV} {fit : α → Prop} {fit' : β → Prop} (g : α → β) (D : Dec P t k enc fit) (hl : ∀ b, (enc' b).length = k) (he : ∀ a, enc' (g a) = enc a) (h : ∀ a, fit a → fit' (g a)) : Dec P t k enc' fit' :=
 ⟨D.size, hl, fun e w s hd f cs x hx hy => let ⟨a, h1, h2, h3⟩ := D.dec e w s hd f cs x hx hy; ⟨g a, h a h1, h2, by rw [he]; exact h3⟩⟩
theorem split_at {cs : List Value} {A B : List PV} {k : Nat} {w : World} (hA : A.length = k) (h1 : ∀ (i : Nat) (v : Value) (p : PV), cs[i]? = some v → A[i]? = some p → Shr (fun _ => False) w v p)
 (h2 : ∀ (i : Nat) (v : Value) (p : PV), cs[k + i]? = some v → B[i]? = some p → Shr (fun _ => False) w v p) (i : Nat) (v : Value) (p : PV) (hv : cs[i]? = some v) (hp : (A ++ B)[i]? = some p) : Shr (fun _ => False) w v p := by
 rcases Nat.lt_or_ge i k with h | h
 · rw [List.getElem?_append_left (by omega)] at hp; exact h1 i v p hv hp
 · rw [List.getElem?_append_right (by omega)] at hp
   exact h2 (i - k) v p (by rw [Nat.add_sub_cancel' h]; exact hv) (by rw [← hA]; exact hp)
theorem dec_struct3 {α β γ : Type} {f0 f1 f2 : Field} {k0 k1 k2 : Nat} {enc0 : α → List PV} {enc1 : β → List PV} {enc2 : γ → List PV} {fit0 : α → Prop} {fit1 : β → Prop} {fit2 : γ → Prop} (ht : P.underlying t = some (.struct #[f0, f1, f2])) (hs : P.cellsOf t = k0 + k1 + k2)
 (D0 : Dec P f0.type k0 enc0 fit0) (D1 : Dec P f1.type k1 enc1 fit1) (D2 : Dec P f2.type k2 enc2 fit2) (ho0 : f0.offset = 0) (ho1 : f1.offset = k0) (ho2 : f2.offset = k0 + k1) :
 Dec P t (k0 + k1 + k2) (fun x : α × β × γ => enc0 x.1 ++ (enc1 x.2.1 ++ enc2 x.2.2)) (fun x => fit0 x.1 ∧ fit1 x.2.1 ∧ fit2 x.2.2) where
 size := hs
 len := fun x => by rw [List.length_append, List.length_append, D0.len, D1.len, D2.len]; omega
 dec := fun e w spare held fuel cs x h => by
  intro hwt
  obtain ⟨xs, n, _, rfl, hlen, hxl, hf⟩ := DataW.trod_struct ht h
  simp only [DataW.weights, ht] at hwt
  have g0 := hf 0 f0 rfl
  have g1 := hf 1 f1 rfl
  have g2 := hf 2 f2 rfl
  match xs, hxl with
  | [y0, y1, y2], _ =>
  rw [ho0] at g0
  rw [ho1] at g1
  rw [ho2] at g2
  obtain ⟨a, ha, A⟩ := dec_field D0 g0 (fun n hn => hwt n (weightsEach_mem P 0 (by simp) (by simp) hn))
  obtain ⟨b, hb, B⟩ := dec_field D1 g1 (fun n hn => hwt n (weightsEach_mem P 1 (by simp) (by simp) hn))
  obtain ⟨c, hc, C⟩ := dec_field D2 g2 (fun n hn => hwt n (weightsEach_mem P 2 (by simp) (by simp) hn))
  refine ⟨(a, b, c), ⟨ha, hb, hc⟩, by rw [hlen, hs], split_at (D0.len a) (fun i v p hv hp => A i v p (by rw [Nat.zero_add]; exact hv) hp) fun i v p hv hp => ?_⟩
  exact split_at (cs := cs.drop k0) (D1.len b) (fun i v p hv hp => B i v p (by rw [List.getElem?_drop] at hv; exact hv) hp) (fun i v p hv hp => C i v p (by rw [List.getElem?_drop, ← Nat.add_assoc] at hv; exact hv) hp) i v p (by rw [List.getElem?_drop]; exact hv) hp
section
variable {H : Type} {en : TypeId × Value → H} {w : World} {spare : Nat → Bool} {held : Bool} {r : Reach} {base : Nat} {v : Value} {d : DataW H} {ps : List MemPlace}
theorem argA {α : Type} {k : Nat} {enc : α → List PV} {fit : α → Prop} (D : Dec P t k enc fit) (hT : StrT P t = true) (hv : Value.okWide P w r base t v) (h : DataW.Trod en P w 0 spare held t v d ps) (hwt : ∀ n ∈ d.weights P t, n ≤ reachBytes) : ∃ a, fit a ∧ Shr (fun _ => False) w v (.agg (enc a)) := by
 obtain ⟨fuel, hf⟩ := h
 have : ∃ fs, P.underlying t = some (.struct fs) := by
  unfold StrT at hT
  split at hT
  · rename_i fs hfs; exact ⟨fs, hfs⟩
  · cases hT
 obtain ⟨fs, hfs⟩ := this
 obtain ⟨cs, rfl, hsz⟩ := okWide_struct hfs hv
 obtain ⟨a, h1, h2, h3⟩ := D.dec en w spare held fuel _ _ hf hwt
 refine ⟨a, h1, ?_⟩
 have := Shr.agg (M := fun _ => False) (w := w) cs.toList (enc a) (by rw [D.len a]; exact h2) h3
 simpa using this
end
theorem trodAll_back {H : Type} {enc : TypeId × Value → H} {P : Program} (hl : laidOutB P = true) {W W' : World} (hb : Below W.heap.size W W') : ∀ {ts : List TypeId} {vs : List Value} {ds : List (DataW H)} {ps : List MemPlace}, (ts.all fun t => P.readableRec t && decide (t < P.types.size)) = true →
 DataW.TrodAll enc P W 0 (fun _ => true) true ts vs ds ps → DataW.TrodAll enc P W' 0 (fun b => decide (b < W.heap.size)) true ts vs ds ps
 | [], [], [], ps, _, h => h
 | t :: ts, v :: vs, d :: ds, ps, ht, ⟨p, q, h1, h2, h3⟩ => by
   rw [List.all_cons, Bool.and_eq_true, Bool.and_eq_true] at ht
   refine ⟨p, q, Below.trod hl ht.1.1 (of_decide_eq_true ht.1.2) h1 hb ?_, trodAll_back hl hb ht.2 h2, h3⟩
   obtain ⟨m, hm⟩ := h1
   exact DataW.trod_lt m _ _ _ hm
theorem AF.law {P : Program} {f : FuncId} {ps : List PV} (hA : AF P f ps (· = .val (.bool true))) {W : World} {vs : List Value} (hl : vs.length = ps.length) (hv : ∀ (i : Nat) (v : Value) (p : PV), vs[i]? = some v → ps[i]? = some p → Shr (fun _ => False) W v p) (hT : TabW W (fun _ => False) (fun _ => False)) :
 Calls P f vs.toArray W fun e w' => e = .returned (.bool true) ∧ Below W.heap.size W w' :=
 (hA (fun _ => False) W vs ⟨fun _ h => h.elim, fun _ => hT⟩ hl hv).mono fun e w' ⟨v, p, F, h1, h2, h3, h4, _⟩ => by
   subst h2
   have := (h4.sh rfl).vOf
   subst this
   exact ⟨h1, h3⟩
end
open Go.RowKit Go.Cb Go.ChangeShapes Go.WideShapes Go.ChangeAt
section
variable {P : Program} {t : TypeId}
theorem dec_struct5 {α β γ δ ε : Type} {f0 f1 f2 f3 f4 : Field} {k0 k1 k2 k3 k4 : Nat} {enc0 : α → List PV} {enc1 : β → List PV} {enc2 : γ → List PV} {enc3 : δ → List PV} {enc4 : ε → List PV} {fit0 : α → Prop} {fit1 : β → Prop} {fit2 : γ → Prop} {fit3 : δ → Prop} {fit4 : ε → Prop} (ht : P.underlying t = some (.struct #[f0, f1, f2, f3, f4])) (hs : P.cellsOf t = k0 + k1 + k2 + k3 + k4)
 (D0 : Dec P f0.type k0 enc0 fit0) (D1 : Dec P f1.type k1 enc1 fit1) (D2 : Dec P f2.type k2 enc2 fit2) (D3 : Dec P f3.type k3 enc3 fit3) (D4 : Dec P f4.type k4 enc4 fit4) (ho0 : f0.offset = 0) (ho1 : f1.offset = k0) (ho2 : f2.offset = k0 + k1) (ho3 : f3.offset = k0 + k1 + k2) (ho4 : f4.offset = k0 + k1 + k2 + k3) :
 Dec P t (k0 + k1 + k2 + k3 + k4) (fun x : α × β × γ × δ × ε => enc0 x.1 ++ (enc1 x.2.1 ++ (enc2 x.2.2.1 ++ (enc3 x.2.2.2.1 ++ enc4 x.2.2.2.2)))) (fun x => fit0 x.1 ∧ fit1 x.2.1 ∧ fit2 x.2.2.1 ∧ fit3 x.2.2.2.1 ∧ fit4 x.2.2.2.2) where
 size := hs
 len := fun x => by rw [List.length_append, List.length_append, List.length_append, List.length_append, D0.len, D1.len, D2.len, D3.len, D4.len]; omega
 dec := fun e w spare held fuel cs x h => by
  intro hwt
  obtain ⟨xs, n, _, rfl, hlen, hxl, hf⟩ := DataW.trod_struct ht h
  simp only [DataW.weights, ht] at hwt
  have g0 := hf 0 f0 rfl
  have g1 := hf 1 f1 rfl
  have g2 := hf 2 f2 rfl
  have g3 := hf 3 f3 rfl
  have g4 := hf 4 f4 rfl
  match xs, hxl with
  | [y0, y1, y2, y3, y4], _ =>
  rw [ho0] at g0
  rw [ho1] at g1
  rw [ho2] at g2
  rw [ho3] at g3
  rw [ho4] at g4
  obtain ⟨a, ha, A⟩ := dec_field D0 g0 (fun n hn => hwt n (weightsEach_mem P 0 (by simp) (by simp) hn))
  obtain ⟨b, hb, B⟩ := dec_field D1 g1 (fun n hn => hwt n (weightsEach_mem P 1 (by simp) (by simp) hn))
  obtain ⟨c, hc, C⟩ := dec_field D2 g2 (fun n hn => hwt n (weightsEach_mem P 2 (by simp) (by simp) hn))
  obtain ⟨d, hd, D⟩ := dec_field D3 g3 (fun n hn => hwt n (weightsEach_mem P 3 (by simp) (by simp) hn))
  obtain ⟨e', he, E⟩ := dec_field D4 g4 (fun n hn => hwt n (weightsEach_mem P 4 (by simp) (by simp) hn))
  refine ⟨(a, b, c, d, e'), ⟨ha, hb, hc, hd, he⟩, by rw [hlen, hs], split_at (D0.len a) (fun i v p hv hp => A i v p (by rw [Nat.zero_add]; exact hv) hp) fun i v p hv hp => ?_⟩
  refine split_at (cs := cs.drop k0) (D1.len b) (fun i v p hv hp => B i v p (by rw [List.getElem?_drop] at hv; exact hv) hp) (fun i v p hv hp => ?_) i v p (by rw [List.getElem?_drop]; exact hv) hp
  refine split_at (cs := cs.drop (k0 + k1)) (D2.len c) (fun i v p hv hp => C i v p (by rw [List.getElem?_drop] at hv; exact hv) hp) (fun i v p hv hp => ?_) i v p (by rw [List.getElem?_drop] at hv ⊢; rw [Nat.add_assoc]; exact hv) hp
  exact split_at (cs := cs.drop (k0 + k1 + k2)) (D3.len d) (fun i v p hv hp => D i v p (by rw [List.getElem?_drop] at hv; exact hv) hp) (fun i v p hv hp => E i v p (by rw [List.getElem?_drop, ← Nat.add_assoc] at hv; exact hv) hp) i v p (by rw [List.getElem?_drop] at hv ⊢; rw [Nat.add_assoc]; exact hv) hp
end
end Go.En
namespace Go.Proofs.YtgigclnaicbiaaaGreatDoor
open Go.RowKit Go.Cb Go.En Go.ChangeShapes Go.WideShapes Go.ChangeAt
set_option linter.all false
set_option maxRecDepth 100000
def fitI (n : Int) : Prop := -9223372036854775808 ≤ n ∧ n ≤ 9223372036854775807
def fitL (l : List Int) : Prop := l.length ≤ 140737488355328 ∧ ∀ n ∈ l, fitI n
def fitM (m : Mv) : Prop := fitI m.src ∧ fitI m.dst ∧ fitI m.sym
def fitMs (l : List Mv) : Prop := l.length ≤ 140737488355328 ∧ ∀ m ∈ l, fitM m
def fitA (a : Aut) : Prop := fitI a.n ∧ fitI a.syms ∧ fitL a.start ∧ fitL a.fin ∧ fitMs a.moves
theorem dInt : Dec Tryz.prog 3 1 (fun n : Int => [pInt n]) fitI := dec_int Tryz.underlying3 (by kernel_rfl)
theorem dInts : Dec Tryz.prog 22 1 (fun l => [pInts l]) fitL :=
 dec_map id (dec_slice Tryz.underlying22 (by kernel_rfl) (by decide) (Nat.le_of_ble_eq_true (by kernel_rfl)) dInt) (fun _ => rfl) (fun l => by show [PV.sl l.length (l.map pInt)] = _; rw [flat_one]) (fun _ h => h)
theorem dMv : Dec Tryz.prog 72 3 cMv fitM :=
 dec_map (fun x : Int × Int × Int => (⟨x.1, x.2.1, x.2.2⟩ : Mv)) (dec_struct3 Tryz.underlying72 (by kernel_rfl) dInt dInt dInt rfl rfl rfl) (fun _ => rfl) (fun _ => rfl) (fun _ h => h)
theorem dMvs : Dec Tryz.prog 23 1 (fun l => [pMvs l]) fitMs :=
 dec_map id (dec_slice Tryz.underlying23 (by kernel_rfl) (by decide) (Nat.le_of_ble_eq_true (by kernel_rfl)) dMv) (fun _ => rfl) (fun _ => rfl) (fun _ h => h)
theorem dAut : Dec Tryz.prog 25 5 cAut fitA :=
 dec_map (fun x : Int × Int × List Int × List Int × List Mv => (⟨x.1, x.2.1, x.2.2.1, x.2.2.2.1, x.2.2.2.2⟩ : Aut)) (dec_struct5 Tryz.underlying25 (by kernel_rfl) dInt dInt dInts dInts dMvs rfl rfl rfl rfl rfl) (fun _ => rfl) (fun _ => rfl) (fun _ h => h)
theorem great_ml {a : Aut} (h : greatA a = false) : a.moves.length ≤ 400 := by
 unfold greatA at h
 simp only [Bool.or_eq_false_iff, decide_eq_false_iff_not] at h
 omega
theorem great_two {a b : Aut} (h : ([a, b].any greatA) = false) : greatA a = false ∧ greatA b = false := by simpa using h
open Go.RowKit Go.Cb Go.En
theorem tEl75_LgM : ElT Tryz.prog 75 25 5 88 (.agg #[(.int .i64 0), (.int .i64 0), (.slice none 0 0), (.slice none 0 0), (.slice none 0 0)]) := ⟨Tryz.underlying75, by kernel_rfl, rfl, by decide⟩
theorem sEqualInt_self (l : List Int) : AF Tryz.prog 32 [pInts l, pInts l] (· = pBool true) := (sEqualInt_e l l).mono fun p hp => by rw [hp, decide_eq_true rfl]
set_option maxHeartbeats 4000000 in
theorem autFinds_c (a b : Aut) (w u v : List Int) (e g i : Int) (s t : Bool) (c1 : AF Tryz.prog 30 [pAut a] (· = .tup [pInts w, pInt e])) (c2 : a.moves.length ≤ 1000000 → AF Tryz.prog 31 [pAut a] (· = .tup [pInts w, pInt e]))
 (c3 : AF Tryz.prog 33 [pAut a, pAut b] (· = .tup [pBool s, pInts u, pInt g])) (c4 : a.moves.length ≤ 1000000 → b.moves.length ≤ 1000000 → AF Tryz.prog 34 [pAut a, pAut b] (· = .tup [pBool s, pInts u, pInt g]))
 (c5 : AF Tryz.prog 35 [pAut a, pAut b] (· = .tup [pBool t, pInts v, pInt i])) (c6 : a.moves.length ≤ 1000000 → b.moves.length ≤ 1000000 → AF Tryz.prog 36 [pAut a, pAut b] (· = .tup [pBool t, pInts v, pInt i])) : AF Tryz.prog 7 [pAut a, pAut b] (· = pBool true) := by
 refine AF.of_body 102 Tryz.func7 rfl Tryz.ntmps7 (Nat.le_of_ble_eq_true rfl) ?_
 intro w0 M0 vs hl hv
 obtain ⟨v0, v1, rfl⟩ := len2 hl
 clear hl hv
 refine nav ?_
 (refine aC_region ?_ <;> refine s_boxa 2 5 fun h2 => ?_ <;> refine s_boxa 3 5 fun h3 => ?_ <;> refine xL 4 q_assign ?_ <;> refine aL_end (nav ?_) <;> try dsimp only)
 (refine aC_region ?_ <;> (refine cS 21 (cA Tryz.call13 (awake07_e)) fun v21 hv21 => ?_; cases hv21) <;> refine xL 22 q_not ?_ <;> refine aL_end (nav ?_) <;> try dsimp only)
 (first | refine cCd ?_ ?_ | refine cC ?_ ?_) <;> intro hb22
 · first
   | exact Bool.noConfusion hb22
   | (
    refine nav ?_
    (refine aC_region ?_ <;> refine xL 4 q_assign ?_ <;> refine aL_end (nav ?_) <;> try dsimp only)
    exfalso; simp at hb22)
 · first
   | exact Bool.noConfusion hb22
   | (
    refine nav ?_
    (refine aC_region ?_ <;> (refine yL 23 (q_ldao 2 tAgg25_LdS) fun v23 hv23 => ?_; cases hv23) <;> (refine yL 24 (q_ldao 3 tAgg25_LdS) fun v24 hv24 => ?_; cases hv24) <;> (refine s_lita (kk := 5) (xs := [_, _]) (cs := [[_, _, _, _, _], [_, _, _, _, _]]) 25 tEl75_LgM fun h25 ho25 => ?_; refine aL_ent (En.freeze (l := 25) (t := 25) rfl rfl) fun _ => ?_; refine aL_ent (reslot (t := 25) (p' := .sl [a, b].length ([a, b].flatMap cAut)) rfl rfl) fun _ => ?_) <;> (refine cS 26 (cA Tryz.call14 (great07_e [a, b])) fun v26 hv26 => ?_; cases hv26) <;> refine aL_end (nav ?_) <;> try dsimp only)
    (first | refine cCd ?_ ?_ | refine cC ?_ ?_) <;> intro hb26
    · first
      | exact Bool.noConfusion hb26
      | (
       refine nav ?_
       (refine aC_region ?_ <;> refine xL 4 q_assign ?_ <;> refine aL_end (nav ?_) <;> try dsimp only)
       exact ret_shr (Tryz.results7) rfl rfl)
    · first
      | exact Bool.noConfusion hb26
      | (
       have hmla := great_ml (great_two hb26).1
       have hmlb := great_ml (great_two hb26).2
       refine nav ?_
       (refine aC_region ?_ <;> (refine yL 28 (q_ldao 2 tAgg25_LdS) fun v28 hv28 => ?_; cases hv28) <;> (refine cP 29 (cA Tryz.call30 (c1)) fun va29 vb29 hva29 hvb29 => ?_; cases hvb29) <;> refine xL 27 q_move ?_ <;> refine xL 30 q_extract ?_ <;> refine xL 31 q_extract ?_ <;> refine xL 5 q_assign ?_ <;> refine xL 6 q_assign ?_ <;> refine aL_end (nav ?_) <;> try dsimp only)
       (refine aC_region ?_ <;> (refine yL 33 (q_ldao 2 tAgg25_LdS) fun v33 hv33 => ?_; cases hv33) <;> (refine cP 34 (cA Tryz.call31 ((c2 (by omega)))) fun va34 vb34 hva34 hvb34 => ?_; cases hvb34) <;> refine xL 32 q_move ?_ <;> refine xL 35 q_extract ?_ <;> refine xL 36 q_extract ?_ <;> refine xL 7 q_assign ?_ <;> refine xL 8 q_assign ?_ <;> refine aL_end (nav ?_) <;> try dsimp only)
       (refine aC_region ?_ <;> refine xL 37 q_move ?_ <;> refine xL 38 q_move ?_ <;> refine xL 39 q_neq ?_ <;> refine xL 40 q_move ?_ <;> (refine bLd 40 (fun hb40 => ?_) (fun hb40 => ?_) <;> (first | refine kL 41 ?_ | refine xL 41 q_move ?_)) <;> (first | refine kL 42 ?_ | refine xL 42 q_move ?_) <;> (first | refine kL 43 ?_ | (refine cS 43 (cA Tryz.call32 (sEqualInt_self w)) fun v43 hv43 => ?_; cases hv43)) <;> (first | refine kL 44 ?_ | refine xL 44 q_not ?_) <;> refine xL 45 q_pick ?_ <;> refine aL_end (nav ?_) <;> try dsimp only) <;> (
        (first | refine cCd ?_ ?_ | refine cC ?_ ?_) <;> intro hb45
        · first
          | exact Bool.noConfusion hb45
          | (
           refine nav ?_
           (refine aC_region ?_ <;> refine xL 4 q_assign ?_ <;> refine aL_end (nav ?_) <;> try dsimp only)
           first | exact absurd rfl hb40 | (exfalso; simp at hb45; done) | (exfalso; simp at hb44; done) | (exfalso; simp at hb39; done))
        · first
          | exact Bool.noConfusion hb45
          | (
           refine nav ?_
           (refine aC_region ?_ <;> (refine yL 47 (q_ldao 2 tAgg25_LdS) fun v47 hv47 => ?_; cases hv47) <;> (refine yL 48 (q_ldao 3 tAgg25_LdS) fun v48 hv48 => ?_; cases hv48) <;> (refine cPx3 49 (cA Tryz.call33 c3) fun va49 vb49 vc49 hva49 hvb49 hvc49 => ?_; cases hva49; cases hvc49) <;> refine xL 46 q_move ?_ <;> refine xL 50 q_extract ?_ <;> refine xL 51 q_extract ?_ <;> refine xL 52 q_extract ?_ <;> refine xL 9 q_assign ?_ <;> refine xL 10 q_assign ?_ <;> refine xL 11 q_assign ?_ <;> refine aL_end (nav ?_) <;> try dsimp only)
           (refine aC_region ?_ <;> (refine yL 54 (q_ldao 2 tAgg25_LdS) fun v54 hv54 => ?_; cases hv54) <;> (refine yL 55 (q_ldao 3 tAgg25_LdS) fun v55 hv55 => ?_; cases hv55) <;> (refine cPx3 56 (cA Tryz.call34 (c4 (by omega) (by omega))) fun va56 vb56 vc56 hva56 hvb56 hvc56 => ?_; cases hva56; cases hvc56) <;> refine xL 53 q_move ?_ <;> refine xL 57 q_extract ?_ <;> refine xL 58 q_extract ?_ <;> refine xL 59 q_extract ?_ <;> refine xL 12 q_assign ?_ <;> refine xL 13 q_assign ?_ <;> refine xL 14 q_assign ?_ <;> refine aL_end (nav ?_) <;> try dsimp only)
           (refine aC_region ?_ <;> (refine yL 61 (q_ldao 2 tAgg25_LdS) fun v61 hv61 => ?_; cases hv61) <;> (refine yL 62 (q_ldao 3 tAgg25_LdS) fun v62 hv62 => ?_; cases hv62) <;> (refine cPx3 63 (cA Tryz.call35 c5) fun va63 vb63 vc63 hva63 hvb63 hvc63 => ?_; cases hva63; cases hvc63) <;> refine xL 60 q_move ?_ <;> refine xL 64 q_extract ?_ <;> refine xL 65 q_extract ?_ <;> refine xL 66 q_extract ?_ <;> refine xL 15 q_assign ?_ <;> refine xL 16 q_assign ?_ <;> refine xL 17 q_assign ?_ <;> refine aL_end (nav ?_) <;> try dsimp only)
           (refine aC_region ?_ <;> (refine yL 68 (q_ldao 2 tAgg25_LdS) fun v68 hv68 => ?_; cases hv68) <;> (refine yL 69 (q_ldao 3 tAgg25_LdS) fun v69 hv69 => ?_; cases hv69) <;> (refine cPx3 70 (cA Tryz.call36 (c6 (by omega) (by omega))) fun va70 vb70 vc70 hva70 hvb70 hvc70 => ?_; cases hva70; cases hvc70) <;> refine xL 67 q_move ?_ <;> refine xL 71 q_extract ?_ <;> refine xL 72 q_extract ?_ <;> refine xL 73 q_extract ?_ <;> refine xL 18 q_assign ?_ <;> refine xL 19 q_assign ?_ <;> refine xL 20 q_assign ?_ <;> refine aL_end (nav ?_) <;> try dsimp only)
           (refine aC_region ?_ <;> refine xL 74 q_move ?_ <;> refine xL 75 q_move ?_ <;> refine xL 76 (q_beql Tryz.underlying4) ?_ <;> refine xL 77 q_move ?_ <;> (refine bLd 77 (fun hb77 => ?_) (fun hb77 => ?_) <;> (first | refine kL 78 ?_ | refine xL 78 q_move ?_)) <;> (first | refine kL 79 ?_ | refine xL 79 q_move ?_) <;> (first | refine kL 80 ?_ | (refine cS 80 (cA Tryz.call32 (sEqualInt_self u)) fun v80 hv80 => ?_; cases hv80)) <;> refine xL 81 q_pick ?_ <;> refine xL 82 q_move ?_ <;> (first | refine kL 83 ?_ | refine xL 83 q_move ?_) <;> (first | refine kL 84 ?_ | refine xL 84 q_move ?_) <;> (first | refine kL 85 ?_ | refine xL 85 q_eqlT ?_) <;> refine xL 86 q_pick ?_ <;> refine xL 87 q_move ?_ <;> (first | refine kL 88 ?_ | refine xL 88 q_move ?_) <;> (first | refine kL 89 ?_ | refine xL 89 q_move ?_) <;> (first | refine kL 90 ?_ | refine xL 90 (q_beql Tryz.underlying4) ?_) <;> refine xL 91 q_pick ?_ <;> refine xL 92 q_move ?_ <;> (first | refine kL 93 ?_ | (refine bLd 92 (fun hb92 => ?_) (fun hb92 => ?_) <;> (first | refine kL 93 ?_ | refine xL 93 q_move ?_))) <;> (first | refine kL 94 ?_ | refine xL 94 q_move ?_) <;> (first | refine kL 95 ?_ | (refine cS 95 (cA Tryz.call32 (sEqualInt_self v)) fun v95 hv95 => ?_; cases hv95)) <;> refine xL 96 q_pick ?_ <;> refine xL 97 q_move ?_ <;> (first | refine kL 98 ?_ | refine xL 98 q_move ?_) <;> (first | refine kL 99 ?_ | refine xL 99 q_move ?_) <;> (first | refine kL 100 ?_ | refine xL 100 q_eqlT ?_) <;> refine xL 101 q_pick ?_ <;> refine xL 4 q_assign ?_ <;> refine aL_end (nav ?_) <;> try dsimp only) <;> (
            first | exact ret_shr (Tryz.results7) rfl rfl | (exfalso; simp at hb77; done) | (exfalso; simp at hb92; done) | (exfalso; simp at hb82; done) | (exfalso; simp at hb91; done))))))
theorem autFinds_e (a b : Aut) (_ : fitA a) (_ : fitA b) : AF Tryz.prog 7 [pAut a, pAut b] (· = pBool true) :=
 autFinds_c a b _ _ _ _ _ _ _ _ (aShortest_e a) (fun h => r07Shortest_e a h) (aEquivalent_e a b) (fun h h' => r07Equivalent_e a b h h') (aIncluded_e a b) (fun h h' => r07Included_e a b h h')
end Go.Proofs.YtgigclnaicbiaaaGreatDoor
