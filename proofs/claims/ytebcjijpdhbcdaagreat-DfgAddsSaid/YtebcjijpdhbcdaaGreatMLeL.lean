/-
  Walks: dfg.Sum.
-/
import Derived.Test.YtebcjijpdhbcdaaGreatMLeK
import Derived.Test.YtebcjijpdhbcdaaGreatLn
namespace Go.Proofs.YtebcjijpdhbcdaaGreat
open Go.RowKit Go.Cb Go.En
set_option linter.all false
set_option maxRecDepth 100000



def cDg (g : Dfg) : List PV := [pCnts g.acts, pCnts g.starts, pCnts g.ends, pFlws g.follows]
theorem cDg_len (g : Dfg) : (cDg g).length = 4 := rfl
def RSum (a b : Dfg) (p : PV) : Prop :=
  ((dfgOk a && dfgOk b) = false ∧ p = .tup [zeroD, pInt 1]) ∨ (dfgOk a = true ∧ dfgOk b = true ∧ 40 < (sumM a b).a.length ∧ p = .tup [zeroD, pInt 5]) ∨ (dfgOk a = true ∧ dfgOk b = true ∧ (sumM a b).a.length ≤ 40 ∧ ∃ g, SameG g (sumM a b) ∧ ((dfgOk g = false ∧ p = .tup [zeroD, pInt 6]) ∨ (dfgOk g = true ∧ p = .tup [pDfg g, pInt 0])))
structure SOk (st : M4) (b : Int) (n : Nat) : Prop where
  a : LOk st.a b
  s : LOk st.s b
  f : LOk st.f b
  q : LOk st.q b
  la : st.a.length ≤ n
  ls : st.s.length ≤ n
  lf : st.f.length ≤ n
  lq : st.q.length ≤ n
  pk : ∀ x ∈ st.q, prOk x.1
theorem sok_nil : SOk m40 0 0 := by
  refine ⟨⟨List.nodup_nil, ?_, ?_⟩, ⟨List.nodup_nil, ?_, ?_⟩, ⟨List.nodup_nil, ?_, ?_⟩, ⟨List.nodup_nil, ?_, ?_⟩, Nat.le_refl _, Nat.le_refl _, Nat.le_refl _, Nat.le_refl _, ?_⟩ <;> (intro x hx; simp [m40] at hx)
theorem glens {g : Dfg} (h : dfgOk g = true) : g.acts.length ≤ 40 ∧ g.starts.length ≤ 40 ∧ g.ends.length ≤ 40 ∧ g.follows.length ≤ 1600 := by
  have hG := gok_of h
  have h40 := hG.n40
  have h1 := cnt_few hG hG.st hG.stA
  have h2 := cnt_few hG hG.en hG.enA
  have h3 := hG.flen
  omega
theorem prOk_of {g : Dfg} (h : dfgOk g = true) {f : Flw} (hf : f ∈ g.follows) : prOk (f.src, f.dst) := by
  have h1 := (glk_of h).qn f hf
  have n1 := name_sz h1.1
  have n2 := name_sz h1.2
  exact ⟨by show f.src.size ≤ _; omega, by show f.dst.size ≤ _; omega⟩
theorem addsK_keys {κ : Type} [DecidableEq κ] {p : κ → Prop} : ∀ {ps m : List (κ × Int)}, (∀ x ∈ m, p x.1) → (∀ x ∈ ps, p x.1) → ∀ x ∈ addsK m ps, p x.1
  | [], _, h, _ => h
  | y :: ps, _, h, hp => addsK_keys (ps := ps) (iadd_keys h (hp y (List.mem_cons_self ..))) fun x hx => hp x (List.mem_cons_of_mem _ hx)
theorem unF_pr {g : Dfg} (h : dfgOk g = true) : ∀ x ∈ g.follows.map unF, prOk x.1 := fun x hx => by
  obtain ⟨f, hf, rfl⟩ := List.mem_map.1 hx
  exact prOk_of h hf
theorem SOk.add {st : M4} {b : Int} {n : Nat} {g : Dfg} (h : SOk st b n) (hb : 0 ≤ b) (hg : dfgOk g = true) : SOk (addG st g) (b + 4503599627370496) (n + 1600) := by
  have hl := glens hg
  have hk := glk_of hg
  have e1 := addsK_len (g.acts.map unC) st.a
  have e2 := addsK_len (g.starts.map unC) st.s
  have e3 := addsK_len (g.ends.map unC) st.f
  have e4 := addsK_len (g.follows.map unF) st.q
  rw [List.length_map] at e1 e2 e3 e4
  have i1 := h.la
  have i2 := h.ls
  have i3 := h.lf
  have i4 := h.lq
  exact ⟨h.a.add hk.a hb (by decide), h.s.add hk.s hb (by decide), h.f.add hk.f hb (by decide), h.q.add hk.q hb (by decide), by show (addsK _ _).length ≤ _; omega, by show (addsK _ _).length ≤ _; omega, by show (addsK _ _).length ≤ _; omega, by show (addsK _ _).length ≤ _; omega, addsK_keys h.pk (unF_pr hg)⟩
def stG (gs : List Dfg) (k : Nat) : M4 := (gs.take k).foldl addG m40
theorem stG_step {gs : List Dfg} {k : Nat} {g : Dfg} (h : gs[k]? = some g) : stG gs (k + 1) = addG (stG gs k) g := by unfold stG; rw [take_snoc h, List.foldl_append]; rfl
theorem stG_ok {gs : List Dfg} (hg : ∀ g ∈ gs, dfgOk g = true) : ∀ k, k ≤ gs.length → SOk (stG gs k) (k * 4503599627370496) (k * 1600)
  | 0, _ => sok_nil
  | k + 1, hk => by
    obtain ⟨g, hgk⟩ := get_some (show k < gs.length by omega)
    rw [stG_step hgk]
    have h1 := (stG_ok hg k (by omega)).add (by omega) (hg g (List.mem_of_getElem? hgk))
    have e1 : ((k + 1 : Nat) : Int) * 4503599627370496 = (k : Int) * 4503599627370496 + 4503599627370496 := by omega
    have e2 : (k + 1) * 1600 = k * 1600 + 1600 := by omega
    rw [e1, e2]; exact h1
theorem addsC_step {m : List (ByteArray × Int)} {L : List Cnt} {k : Nat} {x : Cnt} (h : L[k]? = some x) : addsK m ((L.take (k + 1)).map unC) = iput (addsK m ((L.take k).map unC)) x.name (iget (addsK m ((L.take k).map unC)) x.name + x.n) := by
  rw [take_snoc h, List.map_append, show List.map unC [x] = [unC x] from rfl, addsK_snoc]; rfl
theorem addsF_step {m : List (Pr × Int)} {L : List Flw} {k : Nat} {x : Flw} (h : L[k]? = some x) : addsK m ((L.take (k + 1)).map unF) = iput (addsK m ((L.take k).map unF)) (x.src, x.dst) (iget (addsK m ((L.take k).map unF)) (x.src, x.dst) + x.n) := by
  rw [take_snoc h, List.map_append, show List.map unF [x] = [unF x] from rfl, addsK_snoc]; rfl
theorem getC_new {m : List (ByteArray × Int)} {L : List Cnt} {b : Int} (hm : LOk m b) (hb : 0 ≤ b) (hp : ((L.map unC).map (·.1)).Nodup) {k : Nat} {x : Cnt} (hx : L[k]? = some x) : 0 ≤ iget (addsK m ((L.take k).map unC)) x.name ∧ iget (addsK m ((L.take k).map unC)) x.name ≤ b := by
  rw [List.map_take]
  exact get_new hm hb hp (x := unC x) (by rw [List.getElem?_map, hx]; rfl)
theorem getF_new {m : List (Pr × Int)} {L : List Flw} {b : Int} (hm : LOk m b) (hb : 0 ≤ b) (hp : ((L.map unF).map (·.1)).Nodup) {k : Nat} {x : Flw} (hx : L[k]? = some x) : 0 ≤ iget (addsK m ((L.take k).map unF)) (x.src, x.dst) ∧ iget (addsK m ((L.take k).map unF)) (x.src, x.dst) ≤ b := by
  rw [List.map_take]
  exact get_new hm hb hp (x := unF x) (by rw [List.getElem?_map, hx]; rfl)
theorem sum_fit {st : M4} {b : Int} {n : Nat} {g : Dfg} (h : SOk st b n) (hb : b ≤ 9223372036854775807) (hn : n ≤ 1000000) (hk : ∀ x ∈ st.a, x.1.size ≤ 40) (hks : ∀ x ∈ st.s, x.1.size ≤ 40) (hkf : ∀ x ∈ st.f, x.1.size ≤ 40) (hkq : ∀ x ∈ st.q, x.1.1.size ≤ 40 ∧ x.1.2.size ≤ 40) (hg : SameG g st) : fitD g ∧ g.acts.length ≤ 1000000 ∧ g.starts.length ≤ 1000000 ∧ g.ends.length ≤ 1000000 ∧ g.follows.length ≤ 1000000 := by
  obtain ⟨hA, hS, hF, hQ⟩ := hg
  have i1 := h.la
  have i2 := h.ls
  have i3 := h.lf
  have i4 := h.lq
  have j1 := hA.1.length_eq
  have j2 := hS.1.length_eq
  have j3 := hF.1.length_eq
  have j4 := hQ.1.length_eq
  rw [List.length_map] at j1 j2 j3 j4
  have ct : ∀ {m : List (ByteArray × Int)} {L : List Cnt}, LOk m b → (∀ x ∈ m, x.1.size ≤ 40) → SameC L m → m.length ≤ n → fitCnt L := fun {m L} hm hk hL hl => ⟨by have := hL.1.length_eq; rw [List.length_map] at this; omega, fun c hc => by
    have h1 := sameC_mem hL hc
    have h2 := hm.lo _ h1
    have h3 := hm.hi _ h1
    have h4 := hk _ h1
    dsimp only at h2 h3 h4
    omega⟩
  refine ⟨⟨ct h.a hk hA i1, ct h.s hks hS i2, ct h.f hkf hF i3, ⟨by omega, fun c hc => ?_⟩⟩, by omega, by omega, by omega, by omega⟩
  have h1 := sameF_mem hQ hc
  have h2 := h.q.lo _ h1
  have h3 := h.q.hi _ h1
  have h4 := hkq _ h1
  dsimp only at h2 h3 h4
  omega
theorem unC_sz {L : List Cnt} (h : ∀ c ∈ L, isName c.name = true) : ∀ x ∈ L.map unC, x.1.size ≤ 40 := fun x hx => by
  obtain ⟨c, hc, rfl⟩ := List.mem_map.1 hx
  exact name_sz (h c hc)
theorem sumM_sz {a b : Dfg} (ha : dfgOk a = true) (hb : dfgOk b = true) : (∀ x ∈ (sumM a b).a, x.1.size ≤ 40) ∧ (∀ x ∈ (sumM a b).s, x.1.size ≤ 40) ∧ (∀ x ∈ (sumM a b).f, x.1.size ≤ 40) ∧ (∀ x ∈ (sumM a b).q, x.1.1.size ≤ 40 ∧ x.1.2.size ≤ 40) := by
  have ka := glk_of ha
  have kb := glk_of hb
  have nil : ∀ {κ : Type} {p : κ × Int → Prop}, ∀ x ∈ ([] : List (κ × Int)), p x := fun x hx => by simp at hx
  have fq : ∀ {g : Dfg}, GLk g → ∀ x ∈ g.follows.map unF, x.1.1.size ≤ 40 ∧ x.1.2.size ≤ 40 := fun k x hx => by
    obtain ⟨f, hf, rfl⟩ := List.mem_map.1 hx
    have := k.qn f hf
    exact ⟨name_sz this.1, name_sz this.2⟩
  exact ⟨addsK_keys (p := fun s : ByteArray => s.size ≤ 40) (addsK_keys (p := fun s : ByteArray => s.size ≤ 40) nil (unC_sz ka.nm)) (unC_sz kb.nm), addsK_keys (p := fun s : ByteArray => s.size ≤ 40) (addsK_keys (p := fun s : ByteArray => s.size ≤ 40) nil (unC_sz ka.sn)) (unC_sz kb.sn), addsK_keys (p := fun s : ByteArray => s.size ≤ 40) (addsK_keys (p := fun s : ByteArray => s.size ≤ 40) nil (unC_sz ka.en)) (unC_sz kb.en), addsK_keys (p := fun s : Pr => s.1.size ≤ 40 ∧ s.2.size ≤ 40) (addsK_keys (p := fun s : Pr => s.1.size ≤ 40 ∧ s.2.size ≤ 40) nil (fq ka)) (fq kb)⟩
end Go.Proofs.YtebcjijpdhbcdaaGreat
