/-
  'casebooklaw17.DfgAccepts' returns true for every list of variants, and changes nothing that was handed to it.
-/
import Derived.Test.YtebcjijpdhbcdaaGreatRows
import Derived.Test.YtebcjijpdhbcdaaGreatLn
import Derived.Test.YtebcjijpdhbcdaaGreatMLeR
import Derived.Test.YtebcjijpdhbcdaaGreatMLpU
namespace Go.Proofs.YtebcjijpdhbcdaaGreat
open Go.RowKit Go.Cb Go.En Go.ChangeShapes Go.WideShapes Go.ChangeAt
set_option linter.all false
set_option maxRecDepth 100000

section
variable {P : Program} {c : Ctx} {ops : Array Oper} {Q : Exit → Act → World → Prop} {rest : List Oper} {st : St} {sL hP : List (Nat × Ent)} {o : Oper} {Z : Nat → Bool} {K : List Nat} {fuel : Nat} {listed : Array Bool}
theorem aW_callP {i d : Nat} {p1 p2 : PV} (ho : ops[i]? = some o) (hC : CallR P c (⟨sL, hP⟩ : St) o (· = .tup [p1, p2])) (k : ∀ v1 v2, vOf p1 v1 → vOf p2 v2 → aD P c ops Q Z K fuel (listed.setIfInBounds i true) ⟨put d (.tuple [v1, v2].toArray, .tup [p1, p2]) sL, hP⟩) (hsh : shD (.tup [p1, p2]) = true := by exact rfl) (hw : wants ops sL o = some true := by exact rfl) (hd : o.dst = some d := by exact rfl) (hn : d < c.nt := by exact Nat.le_of_ble_eq_true rfl) : aW P c ops Q Z K fuel listed (⟨sL, hP⟩ : St) i := fun a w F H C hC' => by
  refine wpOp_of_list (Q' := fun _ a' w' => (Z i = true ∨ C w') ∧ Go.En.wpAnyS P .any ops Q C Z fuel (listed.setIfInBounds i true) a' w') ho (fun a' w' hq => hq) ?_
  have h1 := wanted_of H.rd hw
  unfold wpList
  rw [h1, if_pos rfl]
  refine .inl ?_
  obtain ⟨f, args, hr, hcall⟩ := hC a w F H
  unfold Oper.wp
  rw [hr, Oper.upon_enter]
  refine hcall.mono fun e w' ⟨v, q, Fr, e1, e2, e3, e4, e5, e6⟩ => ?_
  subst e1
  rw [show q = .tup [p1, p2] from e2] at e4
  have hS := e4.shD hsh
  have hS' : Shr (mof c hP F) w' v (.tup [p1, p2]) := hS.anti fun b _ h => .inl h
  have hch : Chg (nK K hP F) w w' := e3.chg
  cases hS with
  | tup vs ps hl h =>
    match vs, hl, h, hS' with
    | [v1, v2], _, h, hS' =>
      have H2 : HoldsF c ⟨put d (.tuple [v1, v2].toArray, .tup [p1, p2]) sL, hP⟩ F (a.put (some d) (.tuple [v1, v2].toArray)) w' := put_up H e3 hn hS'
      simp only [Oper.upon, hd]
      exact ⟨.inr (hC' w' hch), k v1 v2 (h 0 v1 p1 rfl rfl).vOf (h 1 v2 p2 rfl rfl).vOf _ w' F H2 C fun W hW => hC' W (hch.tr hW fun b hb => .inl hb)⟩
end
theorem tAgg28_LeS : AggT Tryz.prog 28 4 = true := by kernel_rfl
theorem tAgg44_LeS : AggT Tryz.prog 44 2 = true := by kernel_rfl
theorem tAgg60_LeS : AggT Tryz.prog 60 2 = true := by kernel_rfl
theorem tAgg66_LeS : AggT Tryz.prog 66 5 = true := by kernel_rfl
theorem tEl51_LeS : ElT Tryz.prog 51 9 1 16 (.string ByteArray.empty) := ⟨Tryz.underlying51, by kernel_rfl, rfl, by decide⟩
theorem tEl63_LeS : ElT Tryz.prog 63 3 1 8 (.int .i64 0) := ⟨Tryz.underlying63, by kernel_rfl, rfl, by decide⟩
theorem tFl28_0_LeS : FldT Tryz.prog 28 0 0 = true := by kernel_rfl
theorem tFl44_0_LeS : FldT Tryz.prog 44 0 0 = true := by kernel_rfl
theorem tFl60_0_LeS : FldT Tryz.prog 60 0 0 = true := by kernel_rfl
theorem tNa25_LeS : NoAgg Tryz.prog 25 = true := by kernel_rfl
theorem tNa51_LeS : NoAgg Tryz.prog 51 = true := by kernel_rfl
theorem tNa9_LeS : NoAgg Tryz.prog 9 = true := by kernel_rfl
theorem tSl22_LeS : SlT Tryz.prog 22 60 2 = true := by kernel_rfl
theorem tSl25_LeS : SlT Tryz.prog 25 44 2 = true := by kernel_rfl
theorem tSl51_LeS : SlT Tryz.prog 51 9 1 = true := by kernel_rfl
theorem tSl63_LeS : SlT Tryz.prog 63 3 1 = true := by kernel_rfl
theorem tZr28_LeS : ZeroT Tryz.prog 28 (.agg #[(.slice none 0 0), (.slice none 0 0), (.slice none 0 0), (.slice none 0 0)]) := by unfold ZeroT; kernel_rfl
theorem tZr44_LeS : ZeroT Tryz.prog 44 (.agg #[(.string ByteArray.empty), (.int .i64 0)]) := by unfold ZeroT; kernel_rfl
theorem tZr60_LeS : ZeroT Tryz.prog 60 (.agg #[(.slice none 0 0), (.int .i64 0)]) := by unfold ZeroT; kernel_rfl
theorem tZr66_LeS : ZeroT Tryz.prog 66 (.agg #[(.int .i64 0), (.int .i64 0), (.slice none 0 0), (.slice none 0 0), (.slice none 0 0)]) := by unfold ZeroT; kernel_rfl

theorem ixW_step {acts w : List ByteArray} {k : Nat} {s : ByteArray} (h : w[k]? = some s) : ixW acts (w.take (k + 1)) = ixW acts (w.take k) ++ [((ixN acts s : Nat) : Int)] := by unfold ixW; rw [take_snoc h, List.map_append]; rfl
theorem runL_eq (a : Aut) (w : List Int) : runL a w = w.foldl (fun S c => nextL a c S) (closL a a.start) := rfl
theorem rel_pair {g : Dfg} {st : M4} {x : Var} (hok : dfgOk g = true) (hg : SameG g st) (hL : Left st x) {k : Nat} {r s : ByteArray} (hr : x.acts[k]? = some r) (hs : x.acts[k + 1]? = some s) : ∃ N : Int, (N = 1 ∨ N = 3) ∧ AF Tryz.prog 34 [pDfg g, pStr r, pStr s] (· = .tup [pInt N, pInt 0]) := by
  obtain ⟨q1, q2, q3, q4, q5⟩ := dfg_fit hok
  have h1 := dRelation_e g r s q1 q2 q3 q4
  have h2 := acts_has hg.1 (hL.a r (List.mem_of_getElem? hr))
  have h3 := acts_has hg.1 (hL.a s (List.mem_of_getElem? hs))
  have h4 : anyF g.follows r s = true := pair_has hg hL hr hs
  have h5 : relR g r s = (relV true (anyF g.follows s r), 0) := by
    unfold relR
    rw [if_neg (by rw [hok]; decide), if_neg (by rw [h2, h3]; decide), h4]
  rw [h5] at h1
  cases h6 : anyF g.follows s r with
  | false => exact ⟨1, .inl rfl, h1.mono fun p hp => by rw [hp, h6]; rfl⟩
  | true => exact ⟨3, .inr rfl, h1.mono fun p hp => by rw [hp, h6]; rfl⟩
set_option maxHeartbeats 4000000 in
theorem dfgAccepts_e (l : List Var) (hf : fitV l) : AF Tryz.prog 9 [pVars l] (· = pBool true) := by
  obtain ⟨g, e, hm⟩ := made_ex l
  have hA := made_af (dMake_e l hf) hm
  refine AF.of_body 117 Tryz.func9 rfl Tryz.ntmps9 (Nat.le_of_ble_eq_true rfl) ?_
  intro w0 M0 vs hl hv
  obtain ⟨v0, rfl⟩ := len1 hl
  clear hl hv
  refine aC_slen 0 rfl fun hlen => ?_
  refine nav ?_
  (refine aC_region ?_
    <;> refine xL 2 q_assign ?_
    <;> refine aL_end (nav ?_) <;> try dsimp only)
  (refine aC_region ?_
    <;> (refine cS 19 (cA Tryz.call11 (awake17_e)) fun v19 hv19 => ?_; cases hv19)
    <;> refine xL 20 q_not ?_
    <;> refine aL_end (nav ?_) <;> try dsimp only)
  refine cCf ?_
  refine nav ?_
  (refine aC_region ?_
    <;> refine xL 21 q_move ?_
    <;> (refine cS 22 (cA Tryz.call12 (many17_e l)) fun v22 hv22 => ?_; cases hv22)
    <;> refine aL_end (nav ?_) <;> try dsimp only)
  first | refine cCd (fun hb22 => ?_) (fun hb22 => ?_) | refine cC (fun hb22 => ?_) (fun hb22 => ?_)
  · first
    | exact Bool.noConfusion hb22
    | (
     refine nav ?_
     (refine aC_region ?_
       <;> refine xL 2 q_assign ?_
       <;> refine aL_end (nav ?_) <;> try dsimp only)
     exact ret_shr Tryz.results9 rfl rfl)
  · first
    | exact Bool.noConfusion hb22
    | (
     refine nav ?_
     (refine aC_region ?_
       <;> refine xL 24 q_move ?_
       <;> (refine cP 25 (cA Tryz.call13 (hA)) fun va25 vb25 hva25 hvb25 => ?_; cases hvb25)
       <;> refine xL 23 q_move ?_
       <;> refine xL 26 q_extract ?_
       <;> refine xL 27 q_extract ?_
       <;> refine s_alloc [(.slice none 0 0), (.slice none 0 0), (.slice none 0 0), (.slice none 0 0)] 4 3 tZr28_LeS fun h3 => ?_
       <;> refine s_sta 3 tAgg28_LeS ?_
       <;> refine xL 4 q_assign ?_
       <;> refine aL_end (nav ?_) <;> try dsimp only)
     (refine aC_region ?_
       <;> refine xL 28 q_move ?_
       <;> refine xL 29 q_neq ?_
       <;> refine aL_end (nav ?_) <;> try dsimp only)
     first | refine cCd (fun hb29 => ?_) (fun hb29 => ?_) | refine cC (fun hb29 => ?_) (fun hb29 => ?_)
     · first
       | exact Bool.noConfusion hb29
       | (
        refine nav ?_
        (refine aC_region ?_
          <;> refine xL 2 q_assign ?_
          <;> refine aL_end (nav ?_) <;> try dsimp only)
        exact ret_shr Tryz.results9 rfl rfl)
     · first
       | exact Bool.noConfusion hb29
       | (
        obtain rfl : e = 0 := by simpa using hb29
        obtain ⟨hok, hvv, hsg⟩ := made_gok hm
        have hG := gok_of hok
        have h40 := hG.n40
        obtain ⟨q1, q2, q3, q4, q5⟩ := dfg_fit hok
        have hAu := dAuto_ok (dAuto_e g q1 q2 q3 q4 q5) hok
        have hokA := autG_ok hG
        refine nav ?_
        (refine aC_region ?_
          <;> (refine yL 31 (q_ldao 3 tAgg28_LeS) fun v31 hv31 => ?_; cases hv31)
          <;> (refine cP 32 (cA Tryz.call32 (hAu)) fun va32 vb32 hva32 hvb32 => ?_; cases hvb32)
          <;> refine xL 30 q_move ?_
          <;> refine xL 33 q_extract ?_
          <;> refine xL 34 q_extract ?_
          <;> refine s_alloc [(.int .i64 0), (.int .i64 0), (.slice none 0 0), (.slice none 0 0), (.slice none 0 0)] 5 5 tZr66_LeS fun h5 => ?_
          <;> refine s_sta 5 tAgg66_LeS ?_
          <;> refine xL 6 q_assign ?_
          <;> refine aL_end (nav ?_) <;> try dsimp only)
        (refine aC_region ?_
          <;> refine xL 35 q_move ?_
          <;> refine xL 36 q_neq ?_
          <;> refine xL 37 q_move ?_
          <;> refine xL 38 (q_fldo 3 tFl28_0_LeS) ?_
          <;> (refine yL 39 (q_ldo 3 tNa25_LeS) fun v39 hv39 => ?_; cases hv39)
          <;> refine xL 40 (q_len tSl25_LeS) ?_
          <;> refine xL 41 q_gtr ?_
          <;> refine xL 42 q_pick ?_
          <;> refine aL_end (nav ?_) <;> try dsimp only) <;> (
         first | refine cCd (fun hb42 => ?_) (fun hb42 => ?_) | refine cC (fun hb42 => ?_) (fun hb42 => ?_)
         · exfalso; first | omega | (simp at hb42; omega)
         · refine nav ?_
           (refine aC_region ?_
             <;> refine xL 7 q_assign ?_
             <;> refine aL_end (nav ?_) <;> try dsimp only)
           refine aC_ent (nilOwn 200 9 1 rfl) fun _ => ?_
           (refine aC_region ?_
             <;> refine xL 43 (q_fldo 3 tFl28_0_LeS) ?_
             <;> (refine yL 44 (q_ldo 3 tNa25_LeS) fun v44 hv44 => ?_; cases hv44)
             <;> refine xL 45 (q_len tSl25_LeS) ?_
             <;> refine xL 46 q_move ?_
             <;> refine aL_end (nav ?_) <;> try dsimp only)
           refine aC_loop (ι := { q : Nat × Value // q.1 ≤ g.acts.length ∧ q.2.oneCell' = true }) (fun k => ⟨[(0, _, _), (3, _, _), (5, _, _), (44, _, _), (45, _, _), (7, k.1.2, .val k.1.2), (46, .int .i64 k.1.1, pInt k.1.1)], [(3, _, _), (5, _, _), (200, k.1.2, .own 9 1 (cnames (g.acts.take k.1.1)).length ((cnames (g.acts.take k.1.1)).map pStr))]⟩) (fun k => g.acts.length - k.1.1) ⟨(0, .slice none 0 0), Nat.zero_le _, rfl⟩ (fun a w H => H.weaken ⟨rfl, rfl, rfl, rfl, rfl, rfl, rfl, trivial⟩ ⟨rfl, rfl, rfl, trivial⟩) ?_
           rintro ⟨⟨k, hv⟩, hk, hvo⟩
           dsimp only
           dsimp only at hk hvo
           have hcl : (cnames (g.acts.take k)).length ≤ 40 := by unfold cnames; rw [List.length_map, List.length_take]; omega
           refine nav ?_
           (refine aC_region ?_
             <;> refine xL 47 q_lss ?_
             <;> refine aL_end (nav ?_) <;> try dsimp only)
           first | refine cCd (fun hb47 => ?_) (fun hb47 => ?_) | refine cC (fun hb47 => ?_) (fun hb47 => ?_)
           · first
             | exact Bool.noConfusion hb47
             | (
              obtain ⟨c, hc⟩ := get_some (show k < g.acts.length by omega)
              have e1 := flat_drop cCnt_len g.acts k c hc
              have e2 := flat_fit cCnt_len hc
              refine nav ?_
              (refine aC_region ?_
                <;> refine xL 48 (q_idxN tSl25_LeS) ?_
                <;> (refine yL 49 (q_lda tAgg44_LeS) fun v49 hv49 => ?_; cases hv49)
                <;> refine s_alloc [(.string ByteArray.empty), (.int .i64 0)] 2 9 tZr44_LeS fun h9 => ?_
                <;> refine s_sta 9 tAgg44_LeS ?_
                <;> refine aL_end (nav ?_) <;> try dsimp only)
              (refine aC_region ?_
                <;> refine xL 50 q_move ?_
                <;> refine xL 51 (q_fldo 9 tFl44_0_LeS) ?_
                <;> (refine yL 52 (q_ldo 9 tNa9_LeS) fun v52 hv52 => ?_; cases hv52)
                <;> refine s_lit1 (kk := 1) 53 tEl51_LeS fun h53 ho53 => ?_
                <;> (refine s_app 200 53 54 tEl51_LeS fun h54 ho54 => ?_; refine aL_ent (relabel (l := 54) 200 rfl rfl) fun _ => ?_; refine aL_ent (recast (l := 200) (p' := .own 9 1 (cnames (g.acts.take (k + 1))).length ((cnames (g.acts.take (k + 1))).map pStr)) rfl (by rw [cnames_take hc]; exact snoc_strs _ _ _)) fun _ => ?_)
                <;> refine xL 7 q_assign ?_
                <;> refine aL_end (nav ?_) <;> try dsimp only)
              (refine aC_region ?_
                <;> refine xL 55 q_add ?_
                <;> refine xL 46 q_move ?_
                <;> refine aL_end (nav ?_) <;> try dsimp only)
              refine aN_again (
                ⟨(k + 1, h54), lt_of_get hc, ho54⟩
                ) (by dsimp only; omega) ⟨rfl, rfl, rfl, rfl, rfl, rfl, rfl, trivial⟩ ⟨rfl, rfl, rfl, trivial⟩)
           · first
             | exact Bool.noConfusion hb47
             | (
              obtain rfl : k = g.acts.length := by omega
              rw [List.take_length]
              refine aC_ent (En.freeze (l := 200) (t := 7) rfl rfl) fun _ => ?_
              rw [share_strs]
              refine aC_ent (reslot (t := 7) (p' := pStrs (cnames g.acts)) rfl rfl) fun _ => ?_
              refine nav ?_
              (refine aC_region ?_
                <;> refine xL 56 q_move ?_
                <;> refine xL 57 (q_len tSl22_LeS) ?_
                <;> refine xL 58 q_move ?_
                <;> refine aL_end (nav ?_) <;> try dsimp only)
              refine aC_loop (ι := { k : Nat // k ≤ l.length }) (fun k => ⟨[(3, _, _), (5, _, _), (7, _, _), (56, _, _), (57, _, _), (58, .int .i64 k.1, pInt k.1)], [(3, _, _), (5, _, _)]⟩) (fun k => l.length - k.1) ⟨0, Nat.zero_le _⟩ (fun a w H => H.weaken ⟨rfl, rfl, rfl, rfl, rfl, rfl, trivial⟩ ⟨rfl, rfl, trivial⟩) ?_
              rintro ⟨i, hi⟩
              dsimp only
              refine nav ?_
              (refine aC_region ?_
                <;> refine xL 59 q_lss ?_
                <;> refine aL_end (nav ?_) <;> try dsimp only)
              first | refine cCd (fun hb59 => ?_) (fun hb59 => ?_) | refine cC (fun hb59 => ?_) (fun hb59 => ?_)
              · first
                | exact Bool.noConfusion hb59
                | (
                 obtain ⟨x, hx⟩ := get_some (show i < l.length by omega)
                 have e3 := flat_drop cVar_len l i x hx
                 have e4 := flat_fit cVar_len hx
                 have hxm := List.mem_of_getElem? hx
                 have hL := makeM_left hxm
                 have hxo := okVars hvv x hxm
                 have hx200 : x.acts.length ≤ 200 := by unfold okVar at hxo; simp only [Bool.and_eq_true, decide_eq_true_eq] at hxo; exact hxo.1.1.1
                 have hin : ∀ s ∈ x.acts, hasStr (cnames g.acts) s = true := fun s hs => acts_has hsg.1 (hL.a s hs)
                 refine nav ?_
                 (refine aC_region ?_
                   <;> refine xL 60 (q_idxN tSl22_LeS) ?_
                   <;> (refine yL 61 (q_lda tAgg60_LeS) fun v61 hv61 => ?_; cases hv61)
                   <;> refine s_alloc [(.slice none 0 0), (.int .i64 0)] 2 11 tZr60_LeS fun h11 => ?_
                   <;> refine s_sta 11 tAgg60_LeS ?_
                   <;> refine aL_end (nav ?_) <;> try dsimp only)
                 (refine aC_region ?_
                   <;> refine xL 12 q_assign ?_
                   <;> refine aL_end (nav ?_) <;> try dsimp only)
                 refine aC_ent (nilOwn 201 3 1 rfl) fun _ => ?_
                 (refine aC_region ?_
                   <;> refine xL 62 (q_fldo 11 tFl60_0_LeS) ?_
                   <;> (refine yL 63 (q_ldo 11 tNa51_LeS) fun v63 hv63 => ?_; cases hv63)
                   <;> refine xL 64 (q_len tSl51_LeS) ?_
                   <;> refine xL 65 q_move ?_
                   <;> refine aL_end (nav ?_) <;> try dsimp only)
                 refine aC_loop (ι := { q : Nat × Value // q.1 ≤ x.acts.length ∧ q.2.oneCell' = true }) (fun k => ⟨[(3, _, _), (5, _, _), (7, _, _), (11, _, _), (56, _, _), (57, _, _), (58, _, _), (63, _, _), (64, _, _), (12, k.1.2, .val k.1.2), (65, .int .i64 k.1.1, pInt k.1.1)], [(3, _, _), (5, _, _), (11, _, _), (201, k.1.2, .own 3 1 (ixW (cnames g.acts) (x.acts.take k.1.1)).length ((ixW (cnames g.acts) (x.acts.take k.1.1)).map pInt))]⟩) (fun k => x.acts.length - k.1.1) ⟨(0, .slice none 0 0), Nat.zero_le _, rfl⟩ (fun a w H => H.weaken ⟨rfl, rfl, rfl, rfl, rfl, rfl, rfl, rfl, rfl, rfl, rfl, trivial⟩ ⟨rfl, rfl, rfl, rfl, trivial⟩) ?_
                 rintro ⟨⟨j, hw⟩, hj, hwo⟩
                 dsimp only
                 dsimp only at hj hwo
                 have hil : (ixW (cnames g.acts) (x.acts.take j)).length ≤ 200 := by unfold ixW; rw [List.length_map, List.length_take]; omega
                 refine nav ?_
                 (refine aC_region ?_
                   <;> refine xL 66 q_lss ?_
                   <;> refine aL_end (nav ?_) <;> try dsimp only)
                 first | refine cCd (fun hb66 => ?_) (fun hb66 => ?_) | refine cC (fun hb66 => ?_) (fun hb66 => ?_)
                 · first
                   | exact Bool.noConfusion hb66
                   | (
                    obtain ⟨s, hs⟩ := get_some (show j < x.acts.length by omega)
                    have e5 := map_at (f := pStr) hs
                    have hsi := hin s (List.mem_of_getElem? hs)
                    have hixs := (ixN_of hsi).2
                    have hms : ∀ q : Nat, q + 1 ≤ x.acts.length → x.acts.length - (q + 1) < x.acts.length - q := fun q hq => by omega
                    refine nav ?_
                    (refine aC_region ?_
                      <;> refine xL 67 q_move ?_
                      <;> refine xL 68 (q_idxN tSl51_LeS) ?_
                      <;> (refine yL 69 (q_ld tNa9_LeS) fun v69 hv69 => ?_; cases hv69)
                      <;> refine xL 13 q_assign ?_
                      <;> refine xL 14 q_assign ?_
                      <;> refine aL_end (nav ?_) <;> try dsimp only)
                    (refine aC_region ?_
                      <;> refine xL 70 q_move ?_
                      <;> refine xL 71 q_move ?_
                      <;> refine xL 72 q_move ?_
                      <;> (refine cS 73 (cA Tryz.call33 (sIndexN_e (cnames g.acts) s hsi)) fun v73 hv73 => ?_; cases hv73)
                      <;> refine s_lit1 (kk := 1) 74 tEl63_LeS fun h74 ho74 => ?_
                      <;> (refine s_app 201 74 75 tEl63_LeS fun h75 ho75 => ?_; refine aL_ent (relabel (l := 75) 201 rfl rfl) fun _ => ?_; refine aL_ent (recast (l := 201) (p' := .own 3 1 (ixW (cnames g.acts) (x.acts.take (j + 1))).length ((ixW (cnames g.acts) (x.acts.take (j + 1))).map pInt)) rfl (by rw [ixW_step hs]; exact own_snoc _ _ _)) fun _ => ?_)
                      <;> refine xL 12 q_assign ?_
                      <;> refine aL_end (nav ?_) <;> try dsimp only)
                    (refine aC_region ?_
                      <;> refine xL 76 q_move ?_
                      <;> refine xL 77 q_gtr ?_
                      <;> refine aL_end (nav ?_) <;> try dsimp only)
                    first | refine cCd (fun hb77 => ?_) (fun hb77 => ?_) | refine cC (fun hb77 => ?_) (fun hb77 => ?_)
                    · first
                      | exact Bool.noConfusion hb77
                      | (
                       obtain ⟨j', rfl⟩ : ∃ j', j = j' + 1 := ⟨j - 1, by omega⟩
                       obtain ⟨r, hr⟩ := get_some (show j' < x.acts.length by omega)
                       have e6 : (x.acts.map pStr)[(((j' + 1 : Nat) : Int) - 1).toNat * 1]? = some (pStr r) := by rw [show (((j' + 1 : Nat) : Int) - 1).toNat = j' by omega]; exact map_at (f := pStr) hr
                       obtain ⟨N, hN, hrel⟩ := rel_pair hok hsg hL hr hs
                       refine nav ?_
                       (refine aC_draw (fun i => ([] : List Nat).elem i) [3, 11] (by kernel_rfl) ?_
                         <;> (refine yD 0 79 rfl (q_ldao 3 tAgg28_LeS) fun v79 hv79 => ?_; cases hv79)
                         <;> refine xD 1 80 rfl (q_fldo 11 tFl60_0_LeS) ?_
                         <;> (refine yD 2 81 rfl (q_ldo 11 tNa51_LeS) fun v81 hv81 => ?_; cases hv81)
                         <;> refine xD 3 82 rfl q_move ?_
                         <;> refine xD 4 83 rfl q_sub ?_
                         <;> refine xD 5 84 rfl (q_idx tSl51_LeS) ?_
                         <;> (refine yD 6 85 rfl (q_ld tNa9_LeS) fun v85 hv85 => ?_; cases hv85)
                         <;> refine xE 7 86 rfl q_move ?_
                         <;> (refine aD_one 8 (by kernel_rfl) ?_)
                         <;> (refine aW_callP (d := 87) rfl (cA Tryz.call34 hrel) fun v87a v87b hv87a hv87b => ?_; cases hv87a; cases hv87b)
                         <;> refine xE 9 78 rfl q_move ?_
                         <;> refine xD 10 88 rfl q_extract ?_
                         <;> refine xD 11 89 rfl q_extract ?_
                         <;> refine xE 12 15 rfl q_assign ?_
                         <;> refine xE 13 16 rfl q_assign ?_
                         <;> refine aD_end (by kernel_rfl) (nav ?_)
                         <;> try dsimp only)
                       (refine aC_region ?_
                         <;> refine xL 90 q_move ?_
                         <;> refine xL 91 q_neq ?_
                         <;> refine xL 92 q_move ?_
                         <;> refine xL 93 q_move ?_
                         <;> refine xL 94 q_neq ?_
                         <;> refine xL 95 q_move ?_
                         <;> (refine bLd 95 (fun hb95 => ?_) (fun hb95 => ?_) <;> (first | refine kL 96 ?_ | refine xL 96 q_move ?_))
                         <;> (first | refine kL 97 ?_ | refine xL 97 q_neq ?_)
                         <;> refine xL 98 q_pick ?_
                         <;> refine xL 99 q_pick ?_
                         <;> refine aL_end (nav ?_) <;> try dsimp only) <;> (
                        first | refine cCd (fun hb99 => ?_) (fun hb99 => ?_) | refine cC (fun hb99 => ?_) (fun hb99 => ?_)
                        · exfalso; first | omega | (simp at hb99; done) | (simp at hb99; omega) | (simp_all; done) | (simp_all; omega)
                        · refine nav ?_
                          (refine aC_region ?_
                            <;> refine xL 100 q_add ?_
                            <;> refine xL 65 q_move ?_
                            <;> refine aL_end (nav ?_) <;> try dsimp only)
                          first
                            | (exact aN_again (
                                ⟨(j' + 1 + 1, h75), lt_of_get hs, ho75⟩
                                ) (hms _ (lt_of_get hs)) ⟨rfl, rfl, rfl, rfl, rfl, rfl, rfl, rfl, rfl, rfl, rfl, trivial⟩ ⟨rfl, rfl, rfl, rfl, trivial⟩)
                            | (exact aN_again (
                                ⟨(j + 1, h75), lt_of_get hs, ho75⟩
                                ) (hms _ (lt_of_get hs)) ⟨rfl, rfl, rfl, rfl, rfl, rfl, rfl, rfl, rfl, rfl, rfl, trivial⟩ ⟨rfl, rfl, rfl, rfl, trivial⟩)))
                    · first
                      | exact Bool.noConfusion hb77
                      | (
                       refine nav ?_
                       (refine aC_region ?_
                         <;> refine xL 100 q_add ?_
                         <;> refine xL 65 q_move ?_
                         <;> refine aL_end (nav ?_) <;> try dsimp only)
                       first
                         | (exact aN_again (
                             ⟨(j' + 1 + 1, h75), lt_of_get hs, ho75⟩
                             ) (hms _ (lt_of_get hs)) ⟨rfl, rfl, rfl, rfl, rfl, rfl, rfl, rfl, rfl, rfl, rfl, trivial⟩ ⟨rfl, rfl, rfl, rfl, trivial⟩)
                         | (exact aN_again (
                             ⟨(j + 1, h75), lt_of_get hs, ho75⟩
                             ) (hms _ (lt_of_get hs)) ⟨rfl, rfl, rfl, rfl, rfl, rfl, rfl, rfl, rfl, rfl, rfl, trivial⟩ ⟨rfl, rfl, rfl, rfl, trivial⟩)))
                 · first
                   | exact Bool.noConfusion hb66
                   | (
                    obtain rfl : j = x.acts.length := by omega
                    rw [List.take_length]
                    refine aC_ent (En.freeze (l := 201) (t := 12) rfl rfl) fun _ => ?_
                    rw [share_ints _ _ _ rfl]
                    have hwl : (ixW (cnames g.acts) x.acts).length = x.acts.length := by unfold ixW; rw [List.length_map]
                    have hacc := aAcceptsW_ok (autG g) (ixW (cnames g.acts) x.acts) hokA (by omega) (fun c hc => by
                      unfold ixW at hc
                      obtain ⟨s, hs, rfl⟩ := List.mem_map.1 hc
                      have := hG.ix (hin s hs)
                      show _ ∧ _ < ((g.acts.length : Nat) : Int)
                      omega)
                    rw [runL_eq, accepts_law hG hsg hL] at hacc
                    refine nav ?_
                    (refine aC_region ?_
                      <;> (refine yL 102 (q_ldao 5 tAgg66_LeS) fun v102 hv102 => ?_; cases hv102)
                      <;> refine xL 103 q_move ?_
                      <;> (refine cP 104 (cA Tryz.call35 (hacc)) fun va104 vb104 hva104 hvb104 => ?_; cases hva104; cases hvb104)
                      <;> refine xL 101 q_move ?_
                      <;> refine xL 105 q_extract ?_
                      <;> refine xL 106 q_extract ?_
                      <;> refine xL 17 q_assign ?_
                      <;> refine xL 18 q_assign ?_
                      <;> refine aL_end (nav ?_) <;> try dsimp only)
                    (refine aC_region ?_
                      <;> refine xL 107 q_move ?_
                      <;> refine xL 108 q_neq ?_
                      <;> refine xL 109 q_move ?_
                      <;> refine xL 110 q_move ?_
                      <;> refine xL 111 q_move ?_
                      <;> refine xL 112 (q_len tSl63_LeS) ?_
                      <;> refine xL 113 q_gtr ?_
                      <;> refine xL 114 (q_bneq Tryz.underlying4) ?_
                      <;> refine xL 115 q_pick ?_
                      <;> refine aL_end (nav ?_) <;> try dsimp only) <;> (
                     first | refine cCd (fun hb115 => ?_) (fun hb115 => ?_) | refine cC (fun hb115 => ?_) (fun hb115 => ?_)
                     · exfalso; first | (simp [hwl] at hb115; done) | (simp [hwl] at hb115; omega) | (rw [hwl] at hb115; simp at hb115)
                     · refine nav ?_
                       (refine aC_region ?_
                         <;> refine xL 116 q_add ?_
                         <;> refine xL 58 q_move ?_
                         <;> refine aL_end (nav ?_) <;> try dsimp only)
                       refine aN_again (
                         ⟨i + 1, lt_of_get hx⟩
                         ) (by dsimp only; omega) ⟨rfl, rfl, rfl, rfl, rfl, rfl, trivial⟩ ⟨rfl, rfl, trivial⟩)))
              · first
                | exact Bool.noConfusion hb59
                | (
                 refine nav ?_
                 (refine aC_region ?_
                   <;> refine xL 2 q_assign ?_
                   <;> refine aL_end (nav ?_) <;> try dsimp only)
                 exact ret_shr Tryz.results9 rfl rfl)))))
theorem own : ownKnob Tryz.prog.godebug = none := by kernel_rfl
theorem laidOut : laidOutB Tryz.prog = true := by kernel_rfl
theorem lifted (os : Os) (started : os.Started) (H : Type) (enc : TypeId × Value → H) :
    ReturnsInHanded {} Tryz.checked os 9 .any (Rows.dfgAcceptsSpec.pre6 enc Tryz.prog Tryz.f9 Rows.dfgAcceptsRow.domain false) (Rows.dfgAcceptsSpec.post enc Tryz.prog Tryz.f9 false true false false) := by
  refine returnsInHanded_of_change_sized (C := Tryz.checked) own started (by kernel_rfl) Tryz.func9
    (ChangeSpec.witness6 (enc := enc) (C := Tryz.checked) false ⟨#[], #[(.slice none 0 0)], []⟩ 8 (by kernel_rfl) (by kernel_rfl) (by kernel_rfl) (by kernel_rfl)) ?_
  intro W base args ds gs before hval0 hW hcnd hsz _
  have hval : ∀ (j : Nat) t v, Tryz.f9.params[j]? = some t → args[j]? = some v → Value.okWide Tryz.prog W .any base t v := hval0
  have hW' := hW
  obtain ⟨p, q, hA0, hV, rfl, hfz, hnd⟩ := hW
  have hA : DataW.TrodAll enc Tryz.prog W 0 (fun _ => true) true Tryz.f9.params.toList args.toList ds p := hA0
  have hsz' : ∀ n ∈ DataW.weightsEach Tryz.prog (Tryz.f9.params.toList ++ Rows.dfgAcceptsSpec.plain.varTypes Tryz.prog) (ds ++ gs), n ≤ reachBytes := fun n hn => by
    have := List.all_eq_true.1 hsz n hn
    exact of_decide_eq_true this
  have hK := hA
  rw [Tryz.params9] at hA hval hsz'
  obtain ⟨v0, vs0, d0, ds0, p0, q0, hargs, rfl, rfl, h0, r0⟩ := trodAll_cons hA
  obtain ⟨rfl, rfl, rfl⟩ := trodAll_nil r0
  obtain rfl : args = #[v0] := by cases args; simp_all
  obtain ⟨rfl, rfl⟩ := trodVars_none hV
  obtain ⟨xl, hxl, s0⟩ := arg1 dVars (by kernel_rfl) (hval 0 _ v0 rfl rfl) h0 (fun n hn => hsz' n (weightsEach_mem _ 0 rfl rfl hn))
  refine ((dfgAccepts_e xl hxl).law (vs := [v0]) rfl (fun i v p hv hp => ?_)).mono fun e W' ⟨he, bel⟩ => ?_
  · match i with
    | 0 => simp at hv hp; subst hv hp; exact s0
    | i + 1 => simp at hv
  subst he
  exact ⟨_, rfl, _, _, _, [], _, [], hW', trodAll_mk1 (shut_bool Tryz.underlying4 _), trodAll_back laidOut bel (by kernel_rfl) hK, rfl, bel.frame _, fun h => by cases h⟩

theorem over : Rows.dfgAcceptsRow.holds Tryz.pinned (OpenSpec.ofChange Rows.dfgAcceptsSpec) :=
  OpenClaim.holds_of_wide 9 Tryz.f9 rfl rfl rfl rfl rfl rfl rfl ⟨rfl, rfl, rfl, rfl, rfl⟩ rfl rfl rfl rfl rfl (by kernel_rfl) Tryz.func9 (by kernel_rfl)
    (of_decide_eq_true (by kernel_rfl)) (by unfold Func.isWrapper; first | (rw [if_pos (by decide +kernel)]; kernel_rfl) | (rw [if_neg (by decide +kernel)]; exact ⟨rfl, rfl⟩))
    (fun os started H enc _ => lifted os started H enc)

theorem dfgAccepts_holds : Rows.DfgAcceptsSaid := over
end Go.Proofs.YtebcjijpdhbcdaaGreat
