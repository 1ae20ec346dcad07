/-
  Walks: dfg.Sum.
-/
import Derived.Test.YtebcjijpdhbcdaaGreatMLeK
import Derived.Test.YtebcjijpdhbcdaaGreatLn
namespace Go.Proofs.YtebcjijpdhbcdaaGreat
open Go.RowKit Go.Cb Go.En
set_option linter.all false
set_option maxRecDepth 100000



structure SOk (st : M4) (b : Int) (n : Nat) : Prop where
  a : LOk st.a b
  s : LOk st.s b
  f : LOk st.f b
  q : LOk st.q b
  la : st.a.length ≤ n
  ls : st.s.length ≤ n
  lf : st.f.length ≤ n
  lq : st.q.length ≤ n
  pk : ∀ x ∈ st.q, prOk x.1
theorem glens {g : Dfg} (h : dfgOk g = true) : g.acts.length ≤ 40 ∧ g.starts.length ≤ 40 ∧ g.ends.length ≤ 40 ∧ g.follows.length ≤ 1600 := by
  have hG := gok_of h
  have h40 := hG.n40
  have h1 := cnt_few hG hG.st hG.stA
  have h2 := cnt_few hG hG.en hG.enA
  have h3 := hG.flen
  omega
theorem prOk_of {g : Dfg} (h : dfgOk g = true) {f : Flw} (hf : f ∈ g.follows) : prOk (f.src, f.dst) := by
  have h1 := (glk_of h).qn f hf
  have n1 := name_sz h1.1
  have n2 := name_sz h1.2
  exact ⟨by show f.src.size ≤ _; omega, by show f.dst.size ≤ _; omega⟩
theorem addsK_keys {κ : Type} [DecidableEq κ] {p : κ → Prop} : ∀ {ps m : List (κ × Int)}, (∀ x ∈ m, p x.1) → (∀ x ∈ ps, p x.1) → ∀ x ∈ addsK m ps, p x.1
  | [], _, h, _ => h
  | y :: ps, _, h, hp => addsK_keys (ps := ps) (iadd_keys h (hp y (List.mem_cons_self ..))) fun x hx => hp x (List.mem_cons_of_mem _ hx)
theorem unF_pr {g : Dfg} (h : dfgOk g = true) : ∀ x ∈ g.follows.map unF, prOk x.1 := fun x hx => by
  obtain ⟨f, hf, rfl⟩ := List.mem_map.1 hx
  exact prOk_of h hf
theorem SOk.add {st : M4} {b : Int} {n : Nat} {g : Dfg} (h : SOk st b n) (hb : 0 ≤ b) (hg : dfgOk g = true) : SOk (addG st g) (b + 4503599627370496) (n + 1600) := by
  have hl := glens hg
  have hk := glk_of hg
  have e1 := addsK_len (g.acts.map unC) st.a
  have e2 := addsK_len (g.starts.map unC) st.s
  have e3 := addsK_len (g.ends.map unC) st.f
  have e4 := addsK_len (g.follows.map unF) st.q
  rw [List.length_map] at e1 e2 e3 e4
  have i1 := h.la
  have i2 := h.ls
  have i3 := h.lf
  have i4 := h.lq
  exact ⟨h.a.add hk.a hb (by decide), h.s.add hk.s hb (by decide), h.f.add hk.f hb (by decide), h.q.add hk.q hb (by decide), by show (addsK _ _).length ≤ _; omega, by show (addsK _ _).length ≤ _; omega, by show (addsK _ _).length ≤ _; omega, by show (addsK _ _).length ≤ _; omega, addsK_keys h.pk (unF_pr hg)⟩
end Go.Proofs.YtebcjijpdhbcdaaGreat
