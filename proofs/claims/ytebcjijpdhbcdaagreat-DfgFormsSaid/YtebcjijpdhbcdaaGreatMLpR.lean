/-
  Plain laws: sums of counters. No program in sight.
-/
import Derived.Test.YtebcjijpdhbcdaaGreatLn
namespace Go.Proofs.YtebcjijpdhbcdaaGreat
open Go.RowKit Go.Cb Go.En
set_option linter.all false

section
variable {κ : Type} [DecidableEq κ]
def addsK (m ps : List (κ × Int)) : List (κ × Int) := ps.foldl (fun m p => iadd m p.1 p.2) m
def sumK (s : κ) (ps : List (κ × Int)) : Int := (ps.map fun x => if s = x.1 then x.2 else 0).sum
theorem sumK_cons (s : κ) (x : κ × Int) (ps : List (κ × Int)) : sumK s (x :: ps) = (if s = x.1 then x.2 else 0) + sumK s ps := by unfold sumK; rw [List.map_cons, List.sum_cons]
theorem iget_addsK (s : κ) : ∀ (ps m : List (κ × Int)), iget (addsK m ps) s = iget m s + sumK s ps
  | [], m => by unfold addsK sumK; simp
  | p :: ps, m => by
    show iget (addsK (iadd m p.1 p.2) ps) s = _
    rw [iget_addsK s ps, iget_iadd, sumK_cons]; omega
theorem sumK_none {s : κ} : ∀ {ps : List (κ × Int)}, (∀ x ∈ ps, x.1 ≠ s) → sumK s ps = 0
  | [], _ => rfl
  | x :: ps, h => by
    rw [sumK_cons, if_neg (fun e => h x (List.mem_cons_self ..) e.symm), sumK_none fun y hy => h y (List.mem_cons_of_mem _ hy)]; rfl
theorem sumK_nd {s : κ} : ∀ {ps : List (κ × Int)}, (ps.map (·.1)).Nodup → sumK s ps = iget ps s
  | [], _ => rfl
  | x :: ps, h => by
    have h' := List.nodup_cons.1 h
    rw [sumK_cons, iget]
    by_cases e : s = x.1
    · rw [if_pos e, if_pos e, sumK_none fun y hy e2 => h'.1 (List.mem_map.2 ⟨y, hy, e2.trans e⟩)]; omega
    · rw [if_neg e, if_neg e, sumK_nd h'.2]; omega
theorem addsK_nd : ∀ {ps m : List (κ × Int)}, (m.map (·.1)).Nodup → ((addsK m ps).map (·.1)).Nodup
  | [], _, h => h
  | p :: ps, _, h => addsK_nd (ps := ps) (iput_nodup h)
theorem addsK_len : ∀ (ps m : List (κ × Int)), (addsK m ps).length ≤ m.length + ps.length
  | [], m => Nat.le_refl _
  | p :: ps, m => by
    have h1 := addsK_len ps (iadd m p.1 p.2)
    have h2 := iput_len m p.1 (iget m p.1 + p.2)
    rw [List.length_cons]
    exact Nat.le_trans h1 (by unfold iadd; omega)
theorem PosI.addsK : ∀ {ps m : List (κ × Int)}, PosI m → PosI ps → PosI (addsK m ps)
  | [], _, h, _ => h
  | p :: ps, _, h, hp => PosI.addsK (ps := ps) (h.add (hp p (List.mem_cons_self ..))) fun x hx => hp x (List.mem_cons_of_mem _ hx)
end
def addG (st : M4) (g : Dfg) : M4 := ⟨addsK st.a (g.acts.map unC), addsK st.s (g.starts.map unC), addsK st.f (g.ends.map unC), addsK st.q (g.follows.map unF)⟩
structure LOk {κ : Type} (m : List (κ × Int)) (b : Int) : Prop where
  nd : (m.map (·.1)).Nodup
  lo : ∀ x ∈ m, 1 ≤ x.2
  hi : ∀ x ∈ m, x.2 ≤ b
section
variable {κ : Type} [DecidableEq κ]
theorem LOk.get {m : List (κ × Int)} {b : Int} (h : LOk m b) (hb : 0 ≤ b) (k : κ) : 0 ≤ iget m k ∧ iget m k ≤ b := by
  by_cases hk : k ∈ m.map (·.1)
  · obtain ⟨x, hx, rfl⟩ := List.mem_map.1 hk
    rw [iget_mem h.nd hx]
    have := h.lo x hx
    have := h.hi x hx
    omega
  · rw [iget_none fun x hx e => hk (List.mem_map.2 ⟨x, hx, e⟩)]; omega
theorem LOk.add {m ps : List (κ × Int)} {b c : Int} (hm : LOk m b) (hp : LOk ps c) (hb : 0 ≤ b) (hc : 0 ≤ c) : LOk (addsK m ps) (b + c) := by
  refine ⟨addsK_nd hm.nd, PosI.addsK hm.lo hp.lo, fun x hx => ?_⟩
  rw [← iget_mem (addsK_nd hm.nd) hx, iget_addsK, sumK_nd hp.nd]
  have h1 := hm.get hb x.1
  have h2 := hp.get hc x.1
  omega
theorem LOk.take {m : List (κ × Int)} {b : Int} (h : LOk m b) (k : Nat) : LOk (m.take k) b := ⟨h.nd.sublist ((List.take_sublist k m).map _), fun x hx => h.lo x (List.mem_of_mem_take hx), fun x hx => h.hi x (List.mem_of_mem_take hx)⟩
theorem LOk.mono {m : List (κ × Int)} {b c : Int} (h : LOk m b) (hb : b ≤ c) : LOk m c := ⟨h.nd, h.lo, fun x hx => Int.le_trans (h.hi x hx) hb⟩
end
structure GLk (g : Dfg) : Prop where
  a : LOk (g.acts.map unC) 4503599627370496
  s : LOk (g.starts.map unC) 4503599627370496
  f : LOk (g.ends.map unC) 4503599627370496
  q : LOk (g.follows.map unF) 4503599627370496
  nm : ∀ c ∈ g.acts, isName c.name = true
  sn : ∀ c ∈ g.starts, isName c.name = true
  en : ∀ c ∈ g.ends, isName c.name = true
  qn : ∀ f ∈ g.follows, isName f.src = true ∧ isName f.dst = true
theorem glk_of {g : Dfg} (h : dfgOk g = true) : GLk g := by
  have hG := gok_of h
  unfold dfgOk alphaB at h
  simp only [Bool.and_eq_true, List.all_eq_true] at h
  obtain ⟨⟨⟨⟨⟨⟨⟨⟨⟨g1, g2⟩, g3⟩, g4⟩, g5⟩, g6⟩, g7⟩, g8⟩, g9⟩, g10⟩ := h
  have ct : ∀ n, countedB n = true → 1 ≤ n ∧ n ≤ 4503599627370496 := fun n hn => by
    unfold countedB at hn
    simp only [Bool.and_eq_true, decide_eq_true_eq] at hn
    exact hn
  have nd : ∀ {L : List Cnt}, chainB strLt (cnames L) = true → ((L.map unC).map (·.1)).Nodup := fun {L} hL => by
    rw [List.map_map]
    have h1 := chain_pw hL
    refine List.Pairwise.imp (fun {a b} hab e => ?_) (show List.Pairwise (fun a b => strLt a b = true) (L.map ((·.1) ∘ unC)) from h1)
    rw [e, strLt_irrefl] at hab; cases hab
  have ok : ∀ {L : List Cnt}, chainB strLt (cnames L) = true → (∀ c ∈ L, countedB c.n = true) → LOk (L.map unC) 4503599627370496 := fun hL hc => ⟨nd hL, fun x hx => by
    obtain ⟨c, hcm, rfl⟩ := List.mem_map.1 hx
    exact (ct _ (hc c hcm)).1, fun x hx => by
    obtain ⟨c, hcm, rfl⟩ := List.mem_map.1 hx
    exact (ct _ (hc c hcm)).2⟩
  have fl : ∀ f ∈ g.follows, countedB f.n = true := fun f hf => by
    have := g9 f hf
    unfold flwOk at this
    simp only [Bool.and_eq_true] at this
    exact this.1.1
  have nm : ∀ s, hasStr (cnames g.acts) s = true → isName s = true := fun s hs => by
    unfold hasStr at hs
    obtain ⟨x, hx, he⟩ := List.any_eq_true.1 hs
    rw [← strEq_iff.1 he]; exact g2 x hx
  refine ⟨ok hG.asc g6, ok hG.stA g7, ok hG.enA g8, ⟨?_, fun x hx => ?_, fun x hx => ?_⟩, fun c hc => g2 _ (List.mem_map.2 ⟨c, hc, rfl⟩), fun c hc => nm _ (hG.st c hc), fun c hc => nm _ (hG.en c hc), fun f hf => ⟨nm _ (hG.fl f hf).1, nm _ (hG.fl f hf).2⟩⟩
  · rw [List.map_map]
    refine List.pairwise_map.2 ((flw_pw hG.flA).imp fun {a b} hab e => ?_)
    have e1 : a.src = b.src := congrArg Prod.fst e
    have e2 : a.dst = b.dst := congrArg Prod.snd e
    rw [flwCmp_zero.2 ⟨e1, e2⟩] at hab
    omega
  · obtain ⟨c, hcm, rfl⟩ := List.mem_map.1 hx
    exact (ct _ (fl c hcm)).1
  · obtain ⟨c, hcm, rfl⟩ := List.mem_map.1 hx
    exact (ct _ (fl c hcm)).2
end Go.Proofs.YtebcjijpdhbcdaaGreat
