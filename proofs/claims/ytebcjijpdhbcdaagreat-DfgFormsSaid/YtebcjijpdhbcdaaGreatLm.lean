/-
  Walks: the law's bounds (layer 17).
  Walks: awake (layer 17).
-/
import Derived.Test.YtebcjijpdhbcdaaGreatLl
import Derived.Test.YtebcjijpdhbcdaaGreatLa
import Derived.Test.YtebcjijpdhbcdaaGreatLj
import Derived.Test.YtebcjijpdhbcdaaGreatEngc
namespace Go.Proofs.YtebcjijpdhbcdaaGreat
open Go.RowKit Go.Cb Go.En
set_option linter.all false
set_option maxRecDepth 100000

theorem tEl103_LeA : ElT Tryz.prog 103 25 1 24 (.slice none 0 0) := ⟨Tryz.underlying103, by kernel_rfl, rfl, by decide⟩
theorem tFl28_0_LeA : FldT Tryz.prog 28 0 0 = true := by kernel_rfl
theorem tFl28_1_LeA : FldT Tryz.prog 28 1 1 = true := by kernel_rfl
theorem tFl28_2_LeA : FldT Tryz.prog 28 2 2 = true := by kernel_rfl
theorem tFl28_3_LeA : FldT Tryz.prog 28 3 3 = true := by kernel_rfl
theorem tFl44_0_LeA : FldT Tryz.prog 44 0 0 = true := by kernel_rfl
theorem tFl47_0_LeA : FldT Tryz.prog 47 0 0 = true := by kernel_rfl
theorem tFl47_1_LeA : FldT Tryz.prog 47 1 1 = true := by kernel_rfl
theorem tNa25_LeA : NoAgg Tryz.prog 25 = true := by kernel_rfl
theorem tNa26_LeA : NoAgg Tryz.prog 26 = true := by kernel_rfl
theorem tNa9_LeA : NoAgg Tryz.prog 9 = true := by kernel_rfl
theorem tSl103_LeA : SlT Tryz.prog 103 25 1 = true := by kernel_rfl
theorem tSl25_LeA : SlT Tryz.prog 25 44 2 = true := by kernel_rfl
theorem tSl26_LeA : SlT Tryz.prog 26 47 3 = true := by kernel_rfl
def longB (s : ByteArray) : Bool := decide ((100 : Int) < (s.size : Int))
def greatC (l : List Cnt) : Bool := (decide ((8 : Int) < (l.length : Int)) && decide ((l.length : Int) ≤ 40)) || decide ((60 : Int) < (l.length : Int)) || l.any fun c => longB c.name
def greatB (g : Dfg) : Bool := greatC g.acts || greatC g.starts || greatC g.ends || decide ((80 : Int) < (g.follows.length : Int)) || g.follows.any fun f => longB f.src || longB f.dst
theorem greatC_t {l : List Cnt} (h : ((8 : Int) < (l.length : Int) ∧ (l.length : Int) ≤ 40) ∨ (60 : Int) < (l.length : Int) ∨ (l.any fun c => longB c.name) = true) : greatC l = true := by
  unfold greatC
  rcases h with h | h | h
  · rw [decide_eq_true h.1, decide_eq_true h.2]; rfl
  · rw [decide_eq_true h]; simp
  · rw [h]; simp
theorem greatC_f {l : List Cnt} (h1 : ¬ ((8 : Int) < (l.length : Int) ∧ (l.length : Int) ≤ 40)) (h2 : ¬ (60 : Int) < (l.length : Int)) (h3 : (l.any fun c => longB c.name) = false) : greatC l = false := by
  unfold greatC
  rw [decide_eq_false h2, h3]
  by_cases h : (8 : Int) < (l.length : Int)
  · rw [decide_eq_false (fun h4 => h1 ⟨h, h4⟩)]; simp
  · rw [decide_eq_false h]; simp
theorem great_in {g : Dfg} {x : List Cnt} {k : Nat} (hx : [g.acts, g.starts, g.ends][k]? = some x) (h : greatC x = true) : greatB g = true := by
  unfold greatB
  match k, hx with
  | 0, hx => cases hx; rw [h]; rfl
  | 1, hx => cases hx; rw [h]; simp
  | 2, hx => cases hx; rw [h]; simp
  | k + 3, hx => simp at hx
theorem long17_e (s : ByteArray) : AF Tryz.prog 36 [pStr s] (· = pBool (longB s)) := by
  refine AF.of_body 6 Tryz.func36 rfl Tryz.ntmps36 (Nat.le_of_ble_eq_true rfl) ?_
  intro w0 M0 vs hl hv
  obtain ⟨v0, rfl⟩ := len1 hl
  obtain rfl := hv 0 _ _ rfl rfl
  clear hl hv
  refine nav ?_
  (refine aC_region ?_
    <;> refine xL 2 q_assign ?_
    <;> refine aL_end (nav ?_) <;> try dsimp only)
  (refine aC_region ?_
    <;> refine xL 3 q_move ?_
    <;> refine xL 4 (q_slen Tryz.underlying9) ?_
    <;> refine xL 5 q_gtr ?_
    <;> refine xL 2 q_assign ?_
    <;> refine aL_end (nav ?_) <;> try dsimp only)
  exact ret_shr Tryz.results36 rfl rfl
theorem great171_e (c : Cnt) : AF Tryz.prog 61 [.agg (cCnt c)] (· = pBool (longB c.name)) := by
  refine AF.of_body 6 Tryz.func61 rfl Tryz.ntmps61 (Nat.le_of_ble_eq_true rfl) ?_
  intro w0 M0 vs hl hv
  obtain ⟨v0, rfl⟩ := len1 hl
  clear hl hv
  refine nav ?_
  (refine aC_region ?_
    <;> refine s_boxa 1 2 fun h1 => ?_
    <;> refine xL 2 q_assign ?_
    <;> refine aL_end (nav ?_) <;> try dsimp only)
  (refine aC_region ?_
    <;> refine xL 3 (q_fldo 1 tFl44_0_LeA) ?_
    <;> (refine yL 4 (q_ldo 1 tNa9_LeA) fun v4 hv4 => ?_; cases hv4)
    <;> (refine cS 5 (cA Tryz.call36 (long17_e c.name)) fun v5 hv5 => ?_; cases hv5)
    <;> refine xL 2 q_assign ?_
    <;> refine aL_end (nav ?_) <;> try dsimp only)
  exact ret_shr Tryz.results61 rfl rfl
theorem great172_e (c : Flw) : AF Tryz.prog 63 [.agg (cFlw c)] (· = pBool (longB c.src || longB c.dst)) := by
  refine AF.of_body 11 Tryz.func63 rfl Tryz.ntmps63 (Nat.le_of_ble_eq_true rfl) ?_
  intro w0 M0 vs hl hv
  obtain ⟨v0, rfl⟩ := len1 hl
  clear hl hv
  refine nav ?_
  (refine aC_region ?_
    <;> refine s_boxa 1 3 fun h1 => ?_
    <;> refine xL 2 q_assign ?_
    <;> refine aL_end (nav ?_) <;> try dsimp only)
  (refine aC_region ?_
    <;> refine xL 3 (q_fldo 1 tFl47_0_LeA) ?_
    <;> (refine yL 4 (q_ldo 1 tNa9_LeA) fun v4 hv4 => ?_; cases hv4)
    <;> (refine cS 5 (cA Tryz.call36 (long17_e c.src)) fun v5 hv5 => ?_; cases hv5)
    <;> refine xL 6 q_move ?_
    <;> (refine bLd 6 (fun hb6 => ?_) (fun hb6 => ?_) <;> (first | refine kL 7 ?_ | refine xL 7 (q_fldo 1 tFl47_1_LeA) ?_))
    <;> (first | refine kL 8 ?_ | (refine yL 8 (q_ldo 1 tNa9_LeA) fun v8 hv8 => ?_; cases hv8))
    <;> (first | refine kL 9 ?_ | (refine cS 9 (cA Tryz.call36 (long17_e c.dst)) fun v9 hv9 => ?_; cases hv9))
    <;> refine xL 10 q_pick ?_
    <;> refine xL 2 q_assign ?_
    <;> refine aL_end (nav ?_) <;> try dsimp only) <;> (
   refine ret_shr (Tryz.results63) rfl ?_
   show pBool _ = pBool _
   first
     | (rw [show longB c.src = true from decide_eq_true (by omega)]; rfl)
     | (rw [show longB c.src = false from decide_eq_false (by omega)]; rfl))
theorem great17_e (g : Dfg) : AF Tryz.prog 17 [pDfg g] (· = pBool (greatB g)) := by
  refine AF.of_body 44 Tryz.func17 rfl Tryz.ntmps17 (Nat.le_of_ble_eq_true rfl) ?_
  intro w0 M0 vs hl hv
  obtain ⟨v0, rfl⟩ := len1 hl
  clear hl hv
  refine nav ?_
  (refine aC_region ?_
    <;> refine s_boxa 1 4 fun h1 => ?_
    <;> refine xL 2 q_assign ?_
    <;> refine aL_end (nav ?_) <;> try dsimp only)
  (refine aC_region ?_
    <;> refine xL 5 (q_fldo 1 tFl28_0_LeA) ?_
    <;> (refine yL 6 (q_ldo 1 tNa25_LeA) fun v6 hv6 => ?_; cases hv6)
    <;> refine xL 7 (q_fldo 1 tFl28_1_LeA) ?_
    <;> (refine yL 8 (q_ldo 1 tNa25_LeA) fun v8 hv8 => ?_; cases hv8)
    <;> refine xL 9 (q_fldo 1 tFl28_2_LeA) ?_
    <;> (refine yL 10 (q_ldo 1 tNa25_LeA) fun v10 hv10 => ?_; cases hv10)
    <;> refine s_litn (xs := [_, _, _]) 11 tEl103_LeA fun h11 ho11 => ?_
    <;> refine xL 12 (q_leno 11 tSl103_LeA) ?_
    <;> refine xL 13 q_move ?_
    <;> refine aL_end (nav ?_) <;> try dsimp only)
  refine aC_ent (En.freeze (l := 11) (t := 11) rfl rfl) fun _ => ?_
  refine aC_loop (ι := { k : Nat // k ≤ 3 ∧ ∀ j x, j < k → [g.acts, g.starts, g.ends][j]? = some x → greatC x = false }) (fun k => ⟨[(1, _, _), (11, _, _), (12, _, _), (13, .int .i64 k.1, pInt k.1)], [(1, _, _)]⟩) (fun k => 3 - k.1) ⟨0, by omega, by omega⟩ (fun a w H => H.weaken ⟨rfl, rfl, rfl, rfl, trivial⟩ ⟨rfl, trivial⟩) ?_
  rintro ⟨k, hk, hp⟩
  dsimp only
  refine nav ?_
  (refine aC_region ?_
    <;> refine xL 14 q_lss ?_
    <;> refine aL_end (nav ?_) <;> try dsimp only)
  first | refine cCd (fun hb14 => ?_) (fun hb14 => ?_) | refine cC (fun hb14 => ?_) (fun hb14 => ?_)
  · first
    | exact Bool.noConfusion hb14
    | (
     obtain ⟨x, hx⟩ := get_some (l := [g.acts, g.starts, g.ends]) (i := k) (by show k < 3; omega)
     have e1 : ([pCnts g.acts, pCnts g.starts, pCnts g.ends] : List PV)[k * 1]? = some (pCnts x) := map_at (f := pCnts) hx
     refine nav ?_
     (refine aC_region ?_
       <;> refine xL 15 (q_idxN tSl103_LeA) ?_
       <;> (refine yL 16 (q_ld tNa25_LeA) fun v16 hv16 => ?_; cases hv16)
       <;> refine xL 4 q_assign ?_
       <;> refine aL_end (nav ?_) <;> try dsimp only)
     (refine aC_region ?_
       <;> refine xL 17 q_move ?_
       <;> refine xL 18 (q_len tSl25_LeA) ?_
       <;> refine xL 19 q_gtr ?_
       <;> refine xL 20 q_move ?_
       <;> (refine bLd 20 (fun hb20 => ?_) (fun hb20 => ?_) <;> (first | refine kL 21 ?_ | refine xL 21 q_move ?_))
       <;> (first | refine kL 22 ?_ | refine xL 22 (q_len tSl25_LeA) ?_)
       <;> (first | refine kL 23 ?_ | refine xL 23 q_leq ?_)
       <;> refine xL 24 q_pick ?_
       <;> refine xL 25 q_move ?_
       <;> (first | refine xL 26 q_move ?_ | (refine bLd 25 (fun hb25 => ?_) (fun hb25 => ?_) <;> (first | refine kL 26 ?_ | refine xL 26 q_move ?_)))
       <;> (first | refine kL 27 ?_ | refine xL 27 (q_len tSl25_LeA) ?_)
       <;> (first | refine kL 28 ?_ | refine xL 28 q_gtr ?_)
       <;> refine xL 29 q_pick ?_
       <;> refine xL 30 q_move ?_
       <;> (first | refine kL 31 ?_ | (refine bLd 30 (fun hb30 => ?_) (fun hb30 => ?_) <;> (first | refine kL 31 ?_ | refine xL 31 q_move ?_)))
       <;> (first | refine kL 32 ?_ | (refine cS 32 (cA Tryz.call56 (containsFuncCount_e 61 [] (fun c => longB c.name) x (Tryz.call61) (fun c _ => great171_e c))) fun v32 hv32 => ?_; cases hv32))
       <;> refine xL 33 q_pick ?_
       <;> refine aL_end (nav ?_) <;> try dsimp only) <;> (
      first | refine cCd (fun hb33 => ?_) (fun hb33 => ?_) | refine cC (fun hb33 => ?_) (fun hb33 => ?_)
      · first
        | exact Bool.noConfusion hb33
        | (
         refine nav ?_
         (refine aC_region ?_
           <;> refine xL 2 q_assign ?_
           <;> refine aL_end (nav ?_) <;> try dsimp only)
         refine ret_shr (Tryz.results17) rfl ?_
         rw [great_in hx (greatC_t (by first | (left; omega) | (right; left; omega) | (right; right; assumption)))])
      · first
        | exact Bool.noConfusion hb33
        | (
         refine nav ?_
         (refine aC_region ?_
           <;> refine xL 34 q_add ?_
           <;> refine xL 13 q_move ?_
           <;> refine aL_end (nav ?_) <;> try dsimp only)
         refine aN_again (
           ⟨k + 1, by omega, fun j z hj hz => by
             by_cases e : j = k
             · subst e; rw [hx] at hz; cases hz
               exact greatC_f (by omega) (by omega) (by assumption)
             · exact hp j z (by omega) hz⟩
           ) (by dsimp only; omega) ⟨rfl, rfl, rfl, rfl, trivial⟩ ⟨rfl, trivial⟩)))
  · first
    | exact Bool.noConfusion hb14
    | (
     refine nav ?_
     (refine aC_region ?_
       <;> refine xL 35 (q_fldo 1 tFl28_3_LeA) ?_
       <;> (refine yL 36 (q_ldo 1 tNa26_LeA) fun v36 hv36 => ?_; cases hv36)
       <;> refine xL 37 (q_len tSl26_LeA) ?_
       <;> refine xL 38 q_gtr ?_
       <;> refine xL 39 q_move ?_
       <;> (refine bLd 39 (fun hb39 => ?_) (fun hb39 => ?_) <;> (first | refine kL 40 ?_ | refine xL 40 (q_fldo 1 tFl28_3_LeA) ?_))
       <;> (first | refine kL 41 ?_ | (refine yL 41 (q_ldo 1 tNa26_LeA) fun v41 hv41 => ?_; cases hv41))
       <;> (first | refine kL 42 ?_ | (refine cS 42 (cA Tryz.call62 (containsFuncFollow_e 63 [] (fun f => longB f.src || longB f.dst) g.follows (Tryz.call63) (fun f _ => great172_e f))) fun v42 hv42 => ?_; cases hv42))
       <;> refine xL 43 q_pick ?_
       <;> refine xL 2 q_assign ?_
       <;> refine aL_end (nav ?_) <;> try dsimp only) <;> (
      refine ret_shr (Tryz.results17) rfl ?_
      have h0 := hp 0 g.acts (by omega) rfl
      have h1 := hp 1 g.starts (by omega) rfl
      have h2 := hp 2 g.ends (by omega) rfl
      unfold greatB
      rw [h0, h1, h2]
      first
        | (rw [decide_eq_true hb39]; rfl)
        | (rw [decide_eq_false hb39]; rfl)))
end Go.Proofs.YtebcjijpdhbcdaaGreat

namespace Go.Proofs.YtebcjijpdhbcdaaGreat
open Go.RowKit Go.Cb Go.En
set_option linter.all false
set_option maxRecDepth 100000

theorem tAgg28_LeB : AggT Tryz.prog 28 4 = true := by kernel_rfl
theorem tAgg47_LeB : AggT Tryz.prog 47 3 = true := by kernel_rfl
theorem tEl22_LeB : ElT Tryz.prog 22 60 2 32 (.agg #[(.slice none 0 0), (.int .i64 0)]) := ⟨Tryz.underlying22, by kernel_rfl, rfl, by decide⟩
theorem tEl36_LeB : ElT Tryz.prog 36 51 1 24 (.slice none 0 0) := ⟨Tryz.underlying36, by kernel_rfl, rfl, by decide⟩
theorem tEl51_LeB : ElT Tryz.prog 51 9 1 16 (.string ByteArray.empty) := ⟨Tryz.underlying51, by kernel_rfl, rfl, by decide⟩
theorem tFl28_3_LeB : FldT Tryz.prog 28 3 3 = true := by kernel_rfl
theorem tNa26_LeB : NoAgg Tryz.prog 26 = true := by kernel_rfl
theorem tSl26_LeB : SlT Tryz.prog 26 47 3 = true := by kernel_rfl
theorem tSt47_LeB : stInfo Tryz.prog 47 = some ((.agg #[(.string ByteArray.empty), (.string ByteArray.empty), (.int .i64 0)]), ([0, 1, 2] : List Nat).map fun o => (o, 1)) := by kernel_rfl
theorem tSt60_LeB : stInfo Tryz.prog 60 = some ((.agg #[(.slice none 0 0), (.int .i64 0)]), ([0, 1] : List Nat).map fun o => (o, 1)) := by kernel_rfl
theorem tZr28_LeB : ZeroT Tryz.prog 28 (.agg #[(.slice none 0 0), (.slice none 0 0), (.slice none 0 0), (.slice none 0 0)]) := by unfold ZeroT; kernel_rfl

def ex17A : ByteArray := ⟨#[97]⟩
def ex17B : ByteArray := ⟨#[98]⟩
def ex17C : ByteArray := ⟨#[99]⟩
def ex17L : List Var := [⟨[ex17A, ex17B], 2⟩, ⟨[ex17A, ex17C, ex17B], 1⟩]
def ex17G : Dfg := ⟨[⟨ex17A, 3⟩, ⟨ex17B, 3⟩, ⟨ex17C, 1⟩], [⟨ex17A, 3⟩], [⟨ex17B, 3⟩], [⟨ex17A, ex17B, 2⟩, ⟨ex17A, ex17C, 1⟩, ⟨ex17C, ex17B, 1⟩]⟩
def ex17T : Dfg := ⟨[⟨ex17A, 3⟩, ⟨ex17B, 3⟩, ⟨ex17C, 1⟩], [⟨ex17A, 3⟩], [⟨ex17B, 3⟩], [⟨ex17A, ex17B, 2⟩]⟩
theorem ex17_valid : validVars ex17L = true := by kernel_rfl
theorem ex17_gok : dfgOk ex17G = true := by kernel_rfl
theorem ex17_tok : dfgOk ex17T = true := by kernel_rfl
theorem ex17_thr : thrG 2 ex17G = ex17T := by kernel_rfl
theorem ex17_same : SameG ex17G (makeM ex17L) := by
  have h1 : ex17G.acts = (makeM ex17L).a.map mkC := by kernel_rfl
  have h2 : ex17G.starts = (makeM ex17L).s.map mkC := by kernel_rfl
  have h3 : ex17G.ends = (makeM ex17L).f.map mkC := by kernel_rfl
  have h4 : ex17G.follows = (makeM ex17L).q.map mkF := by kernel_rfl
  have c1 : chainB (fun a b : Cnt => strLt a.name b.name) ex17G.acts = true := by kernel_rfl
  have c4 : chainB flwLt ex17G.follows = true := by kernel_rfl
  refine ⟨⟨h1 ▸ .refl _, ?_⟩, ⟨h2 ▸ .refl _, by simp [ex17G]⟩, ⟨h3 ▸ .refl _, by simp [ex17G]⟩, ⟨h4 ▸ .refl _, flw_pw c4⟩⟩
  exact nodup_of_chain c1 (fun a _ => strLt_irrefl _) (fun a _ b _ c _ h1 h2 => strLt_trans h1 h2)
def ex17AG : Aut := ⟨4, 3, [0], [2], [⟨0, 1, 0⟩, ⟨1, 2, 1⟩, ⟨1, 3, 2⟩, ⟨3, 2, 1⟩]⟩
def ex17AT : Aut := ⟨4, 3, [0], [2], [⟨0, 1, 0⟩, ⟨1, 2, 1⟩]⟩
theorem ex17_ag : autG ex17G = ex17AG := by kernel_rfl
theorem ex17_at : autG ex17T = ex17AT := by kernel_rfl
theorem ex17_fg : farL ex17AG = [2, 1, 0, 1] := by kernel_rfl
theorem ex17_ft : farL ex17AT = [2, 1, 0, -1] := by kernel_rfl
theorem ex17_bg : bigI ex17AG [2, 1, 0, 1] 3 = false := by kernel_rfl
theorem ex17_bt : bigI ex17AT [2, 1, 0, -1] 3 = false := by kernel_rfl
theorem ex17_wg : sumI ex17AG [2, 1, 0, 1] 3 4 = [[0, 1], [0, 2, 1]] := by kernel_rfl
theorem ex17_wt : sumI ex17AT [2, 1, 0, -1] 3 4 = [[0, 1]] := by kernel_rfl
def ex17W : List (List ByteArray) := [[ex17A, ex17B], [ex17A, ex17C, ex17B]]
def ex17V : List (List ByteArray) := [[ex17A, ex17B]]
theorem ex17_sw : sameAll ex17W ex17W = true := by kernel_rfl
theorem ex17_sv : sameAll ex17V ex17V = true := by kernel_rfl
theorem ex17_nw : namesWs (cnames ex17G.acts) [[0, 1], [0, 2, 1]] = ex17W := by kernel_rfl
theorem ex17_nv : namesWs (cnames ex17T.acts) [[0, 1]] = ex17V := by kernel_rfl
theorem ex17_fitV : fitV ex17L := ⟨by decide, fun x hx => by
    simp [ex17L] at hx
    rcases hx with rfl | rfl
    · exact ⟨⟨by decide, fun s hs => by simp at hs; rcases hs with rfl | rfl <;> decide⟩, by decide, by decide⟩
    · exact ⟨⟨by decide, fun s hs => by simp at hs; rcases hs with rfl | rfl | rfl <;> decide⟩, by decide, by decide⟩⟩
theorem ex17_fitc (l : List Cnt) (hl : l.length ≤ 3) (h : ∀ c ∈ l, c.name.size ≤ 1 ∧ 0 ≤ c.n ∧ c.n ≤ 3) : fitCnt l := ⟨by omega, fun c hc => by have := h c hc; omega⟩
theorem ex17_fitf (l : List Flw) (hl : l.length ≤ 3) (h : ∀ c ∈ l, c.src.size ≤ 1 ∧ c.dst.size ≤ 1 ∧ 0 ≤ c.n ∧ c.n ≤ 3) : fitFlw l := ⟨by omega, fun c hc => by have := h c hc; omega⟩
theorem ex17_fit (fs : List Flw) (hl : fs.length ≤ 3) (h : ∀ c ∈ fs, c.src.size ≤ 1 ∧ c.dst.size ≤ 1 ∧ 0 ≤ c.n ∧ c.n ≤ 3) : fitD ⟨ex17G.acts, ex17G.starts, ex17G.ends, fs⟩ :=
  ⟨ex17_fitc ex17G.acts (by decide) (by decide), ex17_fitc ex17G.starts (by decide) (by decide), ex17_fitc ex17G.ends (by decide) (by decide), ex17_fitf _ hl h⟩
theorem ex17_fitG : fitD ex17G := ex17_fit ex17G.follows (by decide) (by decide)
theorem ex17_fitT : fitD ex17T := ex17_fit ex17T.follows (by decide) (by decide)
theorem ex17_make : AF Tryz.prog 13 [pVars ex17L] (· = .tup [pDfg ex17G, pInt 0]) := (dMake_e ex17L ex17_fitV).mono fun p hp => by
  rcases hp with ⟨h, _⟩ | ⟨_, h, _⟩ | ⟨_, _, g, h1, h2⟩
  · rw [ex17_valid] at h; cases h
  · have : (makeM ex17L).a.length = 3 := by kernel_rfl
    omega
  · rw [h2, sameG_unique h1 ex17_same]
theorem ex17_words : AF Tryz.prog 18 [pDfg ex17G, pInt 3] (· = .tup [pStrss ex17W, pInt 0]) := (dWords_e ex17G 3 ex17_fitG (by decide) (by decide) (by decide) (by decide)).mono fun p hp => by
  rcases hp with ⟨h, _⟩ | ⟨_, h, _⟩ | ⟨_, _, _, h, _⟩ | ⟨_, _, _, _, h⟩
  · rw [ex17_gok] at h; cases h
  · omega
  · rw [bigI_eq, ex17_ag, ex17_fg, show (3 : Int).toNat = 3 from rfl, ex17_bg] at h; cases h
  · rw [h, sumI_eq, ex17_ag, ex17_fg, show (3 : Int).toNat = 3 from rfl, ex17_wg, ex17_nw]
theorem ex17_wordsT : AF Tryz.prog 18 [pDfg ex17T, pInt 3] (· = .tup [pStrss ex17V, pInt 0]) := (dWords_e ex17T 3 ex17_fitT (by decide) (by decide) (by decide) (by decide)).mono fun p hp => by
  rcases hp with ⟨h, _⟩ | ⟨_, h, _⟩ | ⟨_, _, _, h, _⟩ | ⟨_, _, _, _, h⟩
  · rw [ex17_tok] at h; cases h
  · omega
  · rw [bigI_eq, ex17_at, ex17_ft, show (3 : Int).toNat = 3 from rfl, ex17_bt] at h; cases h
  · rw [h, sumI_eq, ex17_at, ex17_ft, show (3 : Int).toNat = 3 from rfl, ex17_wt, ex17_nv]
theorem ex17_thrE : AF Tryz.prog 22 [pDfg ex17G, pInt 2] (· = .tup [pDfg ex17T, pInt 0]) := (dThr_e 2 ex17G ex17_fitG (by decide) (by decide) (by decide) (by decide)).mono fun p hp => by
  rcases hp with ⟨h, _⟩ | ⟨_, h, _⟩ | ⟨_, _, h⟩
  · rw [ex17_gok] at h; cases h
  · rw [show countedB 2 = true by decide] at h; cases h
  · rw [h, ex17_thr]
set_option maxHeartbeats 2000000 in
theorem awake17_e : AF Tryz.prog 11 [] (· = pBool true) := by
  refine AF.of_body 74 Tryz.func11 rfl Tryz.ntmps11 (Nat.le_of_ble_eq_true rfl) ?_
  intro w0 M0 vs hl hv
  obtain rfl := List.eq_nil_of_length_eq_zero hl
  clear hl hv
  refine nav ?_
  (refine aC_region ?_
    <;> refine xL 0 q_assign ?_
    <;> refine aL_end (nav ?_) <;> try dsimp only)
  (refine aC_region ?_
    <;> (refine s_litn (xs := [_, _]) 10 tEl51_LeB fun h10 ho10 => ?_; refine aL_ent (En.freeze (l := 10) (t := 10) rfl rfl) fun _ => ?_; refine aL_ent (reslot (t := 10) (p' := pStrs [ex17A, ex17B]) rfl rfl) fun _ => ?_)
    <;> refine xL 11 (q_build tSt60_LeB) ?_
    <;> (refine s_litn (xs := [_, _, _]) 12 tEl51_LeB fun h12 ho12 => ?_; refine aL_ent (En.freeze (l := 12) (t := 12) rfl rfl) fun _ => ?_; refine aL_ent (reslot (t := 12) (p' := pStrs [ex17A, ex17C, ex17B]) rfl rfl) fun _ => ?_)
    <;> refine xL 13 (q_build tSt60_LeB) ?_
    <;> (refine s_lita (kk := 2) (xs := [_, _]) (cs := [[_, _], [_, _]]) 14 tEl22_LeB fun h14 ho14 => ?_; refine aL_ent (En.freeze (l := 14) (t := 14) rfl rfl) fun _ => ?_; refine aL_ent (reslot (t := 14) (p' := pVars ex17L) rfl rfl) fun _ => ?_)
    <;> (refine cP 15 (cA Tryz.call13 (ex17_make)) fun va15 vb15 hva15 hvb15 => ?_; cases hvb15)
    <;> refine xL 9 q_move ?_
    <;> refine xL 16 q_extract ?_
    <;> refine xL 17 q_extract ?_
    <;> refine s_alloc [(.slice none 0 0), (.slice none 0 0), (.slice none 0 0), (.slice none 0 0)] 4 1 tZr28_LeB fun h1 => ?_
    <;> refine s_sta 1 tAgg28_LeB ?_
    <;> refine xL 2 q_assign ?_
    <;> refine aL_end (nav ?_) <;> try dsimp only)
  (refine aC_region ?_
    <;> (refine yL 19 (q_ldao 1 tAgg28_LeB) fun v19 hv19 => ?_; cases hv19)
    <;> (refine cP 20 (cA Tryz.call18 (ex17_words)) fun va20 vb20 hva20 hvb20 => ?_; cases hvb20)
    <;> refine xL 18 q_move ?_
    <;> refine xL 21 q_extract ?_
    <;> refine xL 22 q_extract ?_
    <;> refine xL 3 q_assign ?_
    <;> refine xL 4 q_assign ?_
    <;> refine aL_end (nav ?_) <;> try dsimp only)
  (refine aC_region ?_
    <;> (refine yL 24 (q_ldao 1 tAgg28_LeB) fun v24 hv24 => ?_; cases hv24)
    <;> (refine cP 25 (cA Tryz.call22 (ex17_thrE)) fun va25 vb25 hva25 hvb25 => ?_; cases hvb25)
    <;> refine xL 23 q_move ?_
    <;> refine xL 26 q_extract ?_
    <;> refine xL 27 q_extract ?_
    <;> refine s_alloc [(.slice none 0 0), (.slice none 0 0), (.slice none 0 0), (.slice none 0 0)] 4 5 tZr28_LeB fun h5 => ?_
    <;> refine s_sta 5 tAgg28_LeB ?_
    <;> refine xL 6 q_assign ?_
    <;> refine aL_end (nav ?_) <;> try dsimp only)
  (refine aC_region ?_
    <;> (refine yL 29 (q_ldao 5 tAgg28_LeB) fun v29 hv29 => ?_; cases hv29)
    <;> (refine cP 30 (cA Tryz.call18 (ex17_wordsT)) fun va30 vb30 hva30 hvb30 => ?_; cases hvb30)
    <;> refine xL 28 q_move ?_
    <;> refine xL 31 q_extract ?_
    <;> refine xL 32 q_extract ?_
    <;> refine xL 7 q_assign ?_
    <;> refine xL 8 q_assign ?_
    <;> refine aL_end (nav ?_) <;> try dsimp only)
  (refine aC_region ?_
    <;> refine xL 33 q_move ?_
    <;> refine xL 34 q_eql ?_
    <;> refine xL 35 q_move ?_
    <;> refine xL 36 (q_fldo 1 tFl28_3_LeB) ?_
    <;> (refine yL 37 (q_ldo 1 tNa26_LeB) fun v37 hv37 => ?_; cases hv37)
    <;> refine xL 38 (q_len tSl26_LeB) ?_
    <;> refine xL 39 q_eql ?_
    <;> refine xL 40 q_pick ?_
    <;> refine xL 41 q_move ?_
    <;> refine xL 42 (q_fldo 1 tFl28_3_LeB) ?_
    <;> (refine yL 43 (q_ldo 1 tNa26_LeB) fun v43 hv43 => ?_; cases hv43)
    <;> refine xL 44 (q_idxN tSl26_LeB) ?_
    <;> (refine yL 45 (q_lda tAgg47_LeB) fun v45 hv45 => ?_; cases hv45)
    <;> refine xL 46 (q_build tSt47_LeB) ?_
    <;> (refine xL 47 (q_eqS (us := [Value.string ex17A, .string ex17C, .int .i64 1]) (us' := [Value.string ex17A, .string ex17C, .int .i64 1]) uFlw hFlw gFlw (eqFlw_run ⟨ex17A, ex17C, 1⟩ ⟨ex17A, ex17C, 1⟩) rfl rfl) ?_; rw [show flwEq (⟨ex17A, ex17C, 1⟩ : Flw) ⟨ex17A, ex17C, 1⟩ = true from by kernel_rfl])
    <;> refine xL 48 q_pick ?_
    <;> refine xL 49 q_move ?_
    <;> refine xL 50 q_move ?_
    <;> refine xL 51 q_eql ?_
    <;> refine xL 52 q_pick ?_
    <;> refine xL 53 q_move ?_
    <;> refine xL 54 q_move ?_
    <;> (refine s_litn (xs := [_, _]) 55 tEl51_LeB fun h55 ho55 => ?_; refine aL_ent (En.freeze (l := 55) (t := 55) rfl rfl) fun _ => ?_; refine aL_ent (reslot (t := 55) (p' := pStrs [ex17A, ex17B]) rfl rfl) fun _ => ?_)
    <;> (refine s_litn (xs := [_, _, _]) 56 tEl51_LeB fun h56 ho56 => ?_; refine aL_ent (En.freeze (l := 56) (t := 56) rfl rfl) fun _ => ?_; refine aL_ent (reslot (t := 56) (p' := pStrs [ex17A, ex17C, ex17B]) rfl rfl) fun _ => ?_)
    <;> (refine s_litn (xs := [_, _]) 57 tEl36_LeB fun h57 ho57 => ?_; refine aL_ent (En.freeze (l := 57) (t := 57) rfl rfl) fun _ => ?_; refine aL_ent (reslot (t := 57) (p' := pStrss ex17W) rfl rfl) fun _ => ?_)
    <;> (refine cS 58 (cA Tryz.call20 ((rSameAll_e ex17W ex17W).mono (R' := (· = pBool true)) fun p hp => by rw [hp, ex17_sw])) fun v58 hv58 => ?_; cases hv58)
    <;> refine xL 59 q_pick ?_
    <;> refine xL 60 q_move ?_
    <;> refine xL 61 q_move ?_
    <;> refine xL 62 q_eql ?_
    <;> refine xL 63 q_pick ?_
    <;> refine xL 64 q_move ?_
    <;> refine xL 65 q_move ?_
    <;> refine xL 66 q_eql ?_
    <;> refine xL 67 q_pick ?_
    <;> refine xL 68 q_move ?_
    <;> refine xL 69 q_move ?_
    <;> (refine s_litn (xs := [_, _]) 70 tEl51_LeB fun h70 ho70 => ?_; refine aL_ent (En.freeze (l := 70) (t := 70) rfl rfl) fun _ => ?_; refine aL_ent (reslot (t := 70) (p' := pStrs [ex17A, ex17B]) rfl rfl) fun _ => ?_)
    <;> (refine s_lit1 (kk := 1) 71 tEl36_LeB fun h71 ho71 => ?_; refine aL_ent (En.freeze (l := 71) (t := 71) rfl rfl) fun _ => ?_; refine aL_ent (reslot (t := 71) (p' := pStrss ex17V) rfl rfl) fun _ => ?_)
    <;> (refine cS 72 (cA Tryz.call20 ((rSameAll_e ex17V ex17V).mono (R' := (· = pBool true)) fun p hp => by rw [hp, ex17_sv])) fun v72 hv72 => ?_; cases hv72)
    <;> refine xL 73 q_pick ?_
    <;> refine xL 0 q_assign ?_
    <;> refine aL_end (nav ?_) <;> try dsimp only) <;> (
   exact ret_shr Tryz.results11 rfl rfl)
end Go.Proofs.YtebcjijpdhbcdaaGreat
