/-
  'casebooklaw36.CutGets' returns true for every graph, and changes nothing that was handed to it.
-/
import Derived.Test.YtoanjgpdepaciaaGreatRows
import Derived.Test.YtoanjgpdepaciaaGreatMLbY
import Derived.Test.YtoanjgpdepaciaaGreatMLbLa
namespace Go.Proofs.YtoanjgpdepaciaaGreat
open Go.RowKit Go.Cb Go.En Go.ChangeShapes Go.WideShapes Go.ChangeAt
set_option linter.all false
set_option maxRecDepth 100000

theorem tAgg25_LbZ : AggT Tryz.prog 25 4 = true := by kernel_rfl
theorem tAgg28_LbZ : AggT Tryz.prog 28 2 = true := by kernel_rfl
theorem tEl42_LbZ : ElT Tryz.prog 42 35 1 8 .nilFunc := ⟨Tryz.underlying42, by kernel_rfl, rfl, by decide⟩
theorem tFl28_0_LbZ : FldT Tryz.prog 28 0 0 = true := by kernel_rfl
theorem tFl28_1_LbZ : FldT Tryz.prog 28 1 1 = true := by kernel_rfl
theorem tNa26_LbZ : NoAgg Tryz.prog 26 = true := by kernel_rfl
theorem tNa35_LbZ : NoAgg Tryz.prog 35 = true := by kernel_rfl
theorem tNa3_LbZ : NoAgg Tryz.prog 3 = true := by kernel_rfl
theorem tSl26_LbZ : SlT Tryz.prog 26 36 1 = true := by kernel_rfl
theorem tSl42_LbZ : SlT Tryz.prog 42 35 1 = true := by kernel_rfl
theorem tZr28_LbZ : ZeroT Tryz.prog 28 (.agg #[(.int .i64 0), (.slice none 0 0)]) := by unfold ZeroT; kernel_rfl

def AllQ (l : List ByteArray) (n : Nat) (E : Nat → Nat → Bool) (S F : Nat → Bool) : Nat → Option Cut → Prop
  | 4, o => FindQ (CutQ l n E S F) o
  | k, o => CutQ l n E S F k o
theorem allQ_lt {l : List ByteArray} {n : Nat} {E : Nat → Nat → Bool} {S F : Nat → Bool} {o : Option Cut} : ∀ {k : Nat}, k < 4 → AllQ l n E S F k o → CutQ l n E S F k o
  | 0, _, h => h
  | 1, _, h => h
  | 2, _, h => h
  | 3, _, h => h
  | k + 4, h, _ => absurd h (by omega)
set_option maxHeartbeats 2000000 in
theorem cutGets_good (g : Dfg) (hf : fitD g) (hd : dfgOk g = true) : AF Tryz.prog 5 [pDfg g] (· = pBool true) := by
  refine AF.of_body 82 Tryz.func5 rfl Tryz.ntmps5 (Nat.le_of_ble_eq_true rfl) ?_
  intro w0 M0 vs hl hv
  obtain ⟨v0, rfl⟩ := len1 hl
  clear hl hv
  refine nav ?_
  (refine aC_region ?_
    <;> refine s_boxa 1 4 fun h1 => ?_
    <;> refine xL 2 q_assign ?_
    <;> refine aL_end (nav ?_) <;> try dsimp only)
  (refine aC_region ?_
    <;> (refine cS 10 (cA Tryz.call7 (awake_e)) fun v10 hv10 => ?_; cases hv10)
    <;> refine xL 11 q_not ?_
    <;> refine xL 12 q_move ?_
    <;> (refine yL 13 (q_ldao 1 tAgg25_LbZ) fun v13 hv13 => ?_; cases hv13)
    <;> (refine cS 14 (cA Tryz.call8 (plain36_e g)) fun v14 hv14 => ?_; cases hv14)
    <;> refine xL 15 q_not ?_
    <;> refine xL 16 q_pick ?_
    <;> refine aL_end (nav ?_) <;> try dsimp only) <;> (
   first | refine cCd (fun hb16 => ?_) (fun hb16 => ?_) | refine cC (fun hb16 => ?_) (fun hb16 => ?_)
   · first
     | exact Bool.noConfusion hb16
     | (
      refine nav ?_
      (refine aC_region ?_
        <;> (refine cS 17 (cA Tryz.call7 (awake_e)) fun v17 hv17 => ?_; cases hv17)
        <;> refine xL 2 q_assign ?_
        <;> refine aL_end (nav ?_) <;> try dsimp only)
      exact ret_shr Tryz.results5 rfl rfl)
   · first
     | exact Bool.noConfusion hb16
     | (
      have hpl := plainB_lens (g := g) (by simpa using hb16)
      have hbg := cBegin_e g hf (by omega) (by omega) (by omega)
      unfold RBegin at hbg
      rw [hd, if_pos rfl] at hbg
      have hna : (cnames g.acts).length = g.acts.length := by simp [cnames]
      have hv := rOf_e g hd (by omega) (by omega) (by omega)
      have hG := cut_goods g (cnames g.acts) g.acts.length _ _ _ hbg hna (by omega)
      have hFd := cFind_good g (cnames g.acts) g.acts.length _ _ _ hbg hna (by omega)
      generalize hE : edgeF (cnames g.acts) g.follows = E at hbg hv hG hFd
      generalize hS : markF (cnames g.acts) g.starts = S at hbg hv hG hFd
      generalize hF : markF (cnames g.acts) g.ends = F at hbg hv hG hFd
      generalize hl : cnames g.acts = l at hbg hna hv hG hFd
      generalize hn : g.acts.length = n at hbg hna hv hG hFd hpl
      have hfs : ∀ k : Nat, k < 5 → ∃ f, [PV.fn 12 [], PV.fn 13 [], PV.fn 20 [], PV.fn 21 [], PV.fn 22 []][k * 1]? = some (.fn f []) ∧ (∀ args w, (callFunc f args).run Tryz.prog w = .ok (.enter f args) w) ∧ (AF Tryz.prog f [pDfg g] fun p => ∃ i : { o // AllQ l n E S F k o }, p = .tup [cutO1 i.1, cutO2 i.1]) := fun k hk => by
        match k, hk with
        | 0, _ => exact ⟨_, rfl, Tryz.call12, hG.1⟩
        | 1, _ => exact ⟨_, rfl, Tryz.call13, hG.2.1⟩
        | 2, _ => exact ⟨_, rfl, Tryz.call20, hG.2.2.1⟩
        | 3, _ => exact ⟨_, rfl, Tryz.call21, hG.2.2.2⟩
        | 4, _ => exact ⟨_, rfl, Tryz.call22, hFd.mono fun p ⟨o, h1, h2⟩ => ⟨⟨o, h1⟩, h2⟩⟩
      refine nav ?_
      (refine aC_region ?_
        <;> (refine yL 18 (q_ldao 1 tAgg25_LbZ) fun v18 hv18 => ?_; cases hv18)
        <;> (refine cS 19 (cA Tryz.call19 ((r17Valid_e g hf (by omega)).mono (R' := (· = pBool true)) fun p hp => by rw [hp, hd])) fun v19 hv19 => ?_; cases hv19)
        <;> refine xL 3 q_assign ?_
        <;> refine aL_end (nav ?_) <;> try dsimp only)
      (refine aC_region ?_
        <;> (refine aL_litn (xs := [_, _, _, _, _]) 20 tEl42_LbZ rfl rfl (Nat.le_of_ble_eq_true rfl) rfl rfl rfl rfl rfl (by decide) (by decide) rfl ?_; intro h20 ho20; refine aL_ent (En.freeze (l := 20) (t := 20) rfl rfl) fun _ => ?_)
        <;> refine xL 21 (q_len tSl42_LbZ) ?_
        <;> refine xL 22 q_move ?_
        <;> refine aL_end (nav ?_) <;> try dsimp only)
      refine aC_loop (ι := { x : Nat // x ≤ 5 }) (fun k => ⟨[(1, _, _), (3, _, _), (20, _, _), (21, _, _), (22, .int .i64 k.1, pInt k.1)], [(1, _, _)]⟩) (fun k => 5 - k.1) ⟨0, Nat.zero_le _⟩ (fun a w H => H.weaken ⟨rfl, rfl, rfl, rfl, rfl, trivial⟩ ⟨rfl, trivial⟩) ?_
      rintro ⟨k, hk⟩
      dsimp only
      refine nav ?_
      (refine aC_region ?_
        <;> refine xL 23 q_lss ?_
        <;> refine aL_end (nav ?_) <;> try dsimp only)
      first | refine cCd (fun hb23 => ?_) (fun hb23 => ?_) | refine cC (fun hb23 => ?_) (fun hb23 => ?_)
      · first
        | exact Bool.noConfusion hb23
        | (
         have hk5 : k < 5 := by omega
         obtain ⟨f, e1, hfc, hfa⟩ := hfs k hk5
         have hget : k ≠ 4 → AF Tryz.prog 24 [pDfg g, pInt (1 + (k : Int))] (fun p => ∃ i : { o // RefQ l n E S F k o }, p = .tup [cutO1 i.1, refO2 i.1]) := fun hk4 => by
           have h := rGet36_e g l n E S F (1 + (k : Int)) (by omega) hv hna (by omega)
           rw [show (1 + (k : Int)).toNat - 1 = k by omega] at h
           exact h
         refine nav ?_
         (refine aC_region ?_
           <;> refine xL 24 q_move ?_
           <;> refine xL 25 (q_idxN tSl42_LbZ) ?_
           <;> (refine yL 26 (q_ld tNa35_LbZ) fun v26 hv26 => ?_; cases hv26)
           <;> refine xL 4 q_assign ?_
           <;> refine xL 5 q_assign ?_
           <;> refine aL_end (nav ?_) <;> try dsimp only)
         (refine aC_region ?_
           <;> refine xL 28 q_move ?_
           <;> (refine yL 29 (q_ldao 1 tAgg25_LbZ) fun v29 hv29 => ?_; cases hv29)
           <;> (refine cPx 30 (callF (f := f) (ps := []) rfl ⟨_, rfl⟩ hfc rfl hfa) (fun i va30 vb30 hva30 hvb30 => ?_) (fun i => cutO_sh i.1); rcases i with ⟨_ | cc, hq⟩ <;> (dsimp only [cutO1, cutO2] at hva30 hvb30 ⊢; cases hvb30))
           <;> refine xL 27 q_move ?_
           <;> refine xL 31 q_extract ?_
           <;> refine xL 32 q_extract ?_
           <;> refine s_alloc [(.int .i64 0), (.slice none 0 0)] 2 6 tZr28_LbZ fun h6 => ?_
           <;> refine s_sta 6 tAgg28_LbZ ?_
           <;> refine xL 7 q_assign ?_
           <;> refine aL_end (nav ?_) <;> try dsimp only) <;> (
          (refine aC_region ?_
            <;> refine xL 33 q_move ?_
            <;> refine xL 34 q_not ?_
            <;> refine aL_end (nav ?_) <;> try dsimp only)
          first | refine cCd (fun hb34 => ?_) (fun hb34 => ?_) | refine cC (fun hb34 => ?_) (fun hb34 => ?_)
          · first
            | exact Bool.noConfusion hb34
            | (
             refine nav ?_
             (refine aC_region ?_
               <;> (first | (refine xL 35 (q_fld tFl28_0_LbZ) ?_; trace "pk 9") | (refine xL 35 (q_fldo 1 tFl28_0_LbZ) ?_; trace "pk 10") | (refine xL 35 (q_fldo 6 tFl28_0_LbZ) ?_; trace "pk 11") | (refine xL 35 (q_fldo 8 tFl28_0_LbZ) ?_; trace "pk 12"))
               <;> (first | (refine yL 36 (q_ld tNa3_LbZ) fun v36 hv36 => ?_; cases hv36; trace "pk 13") | (refine yL 36 (q_ldo 1 tNa3_LbZ) fun v36 hv36 => ?_; cases hv36; trace "pk 14") | (refine yL 36 (q_ldo 6 tNa3_LbZ) fun v36 hv36 => ?_; cases hv36; trace "pk 15") | (refine yL 36 (q_ldo 8 tNa3_LbZ) fun v36 hv36 => ?_; cases hv36; trace "pk 16"))
               <;> refine xL 37 q_neq ?_
               <;> refine xL 38 q_move ?_
               <;> (first | (refine kL 39 ?_; trace "pk 22") | (refine xL 39 (q_fld tFl28_1_LbZ) ?_; trace "pk 23") | (refine xL 39 (q_fldo 1 tFl28_1_LbZ) ?_; trace "pk 24") | (refine xL 39 (q_fldo 6 tFl28_1_LbZ) ?_; trace "pk 25") | (refine xL 39 (q_fldo 8 tFl28_1_LbZ) ?_; trace "pk 26") | ((refine bLd 38 (fun hb38 => ?_) (fun hb38 => ?_); trace "pk 27") <;> (first | (refine kL 39 ?_; trace "pk 17") | (refine xL 39 (q_fld tFl28_1_LbZ) ?_; trace "pk 18") | (refine xL 39 (q_fldo 1 tFl28_1_LbZ) ?_; trace "pk 19") | (refine xL 39 (q_fldo 6 tFl28_1_LbZ) ?_; trace "pk 20") | (refine xL 39 (q_fldo 8 tFl28_1_LbZ) ?_; trace "pk 21"))) | ((refine bL 38 (fun hb38 => ?_) (fun hb38 => ?_); trace "pk 28") <;> (first | (refine kL 39 ?_; trace "pk 17") | (refine xL 39 (q_fld tFl28_1_LbZ) ?_; trace "pk 18") | (refine xL 39 (q_fldo 1 tFl28_1_LbZ) ?_; trace "pk 19") | (refine xL 39 (q_fldo 6 tFl28_1_LbZ) ?_; trace "pk 20") | (refine xL 39 (q_fldo 8 tFl28_1_LbZ) ?_; trace "pk 21"))))
               <;> (first | (refine kL 40 ?_; trace "pk 34") | (refine yL 40 (q_ld tNa26_LbZ) fun v40 hv40 => ?_; cases hv40; trace "pk 35") | (refine yL 40 (q_ldo 1 tNa26_LbZ) fun v40 hv40 => ?_; cases hv40; trace "pk 36") | (refine yL 40 (q_ldo 6 tNa26_LbZ) fun v40 hv40 => ?_; cases hv40; trace "pk 37") | (refine yL 40 (q_ldo 8 tNa26_LbZ) fun v40 hv40 => ?_; cases hv40; trace "pk 38") | ((refine bLd 38 (fun hb38 => ?_) (fun hb38 => ?_); trace "pk 39") <;> (first | (refine kL 40 ?_; trace "pk 29") | (refine yL 40 (q_ld tNa26_LbZ) fun v40 hv40 => ?_; cases hv40; trace "pk 30") | (refine yL 40 (q_ldo 1 tNa26_LbZ) fun v40 hv40 => ?_; cases hv40; trace "pk 31") | (refine yL 40 (q_ldo 6 tNa26_LbZ) fun v40 hv40 => ?_; cases hv40; trace "pk 32") | (refine yL 40 (q_ldo 8 tNa26_LbZ) fun v40 hv40 => ?_; cases hv40; trace "pk 33"))) | ((refine bL 38 (fun hb38 => ?_) (fun hb38 => ?_); trace "pk 40") <;> (first | (refine kL 40 ?_; trace "pk 29") | (refine yL 40 (q_ld tNa26_LbZ) fun v40 hv40 => ?_; cases hv40; trace "pk 30") | (refine yL 40 (q_ldo 1 tNa26_LbZ) fun v40 hv40 => ?_; cases hv40; trace "pk 31") | (refine yL 40 (q_ldo 6 tNa26_LbZ) fun v40 hv40 => ?_; cases hv40; trace "pk 32") | (refine yL 40 (q_ldo 8 tNa26_LbZ) fun v40 hv40 => ?_; cases hv40; trace "pk 33"))))
               <;> (first | (refine kL 41 ?_; trace "pk 46") | (refine xL 41 (q_len tSl26_LbZ) ?_; trace "pk 47") | (refine xL 41 (q_leno 1 tSl26_LbZ) ?_; trace "pk 48") | (refine xL 41 (q_leno 6 tSl26_LbZ) ?_; trace "pk 49") | (refine xL 41 (q_leno 8 tSl26_LbZ) ?_; trace "pk 50") | ((refine bLd 38 (fun hb38 => ?_) (fun hb38 => ?_); trace "pk 51") <;> (first | (refine kL 41 ?_; trace "pk 41") | (refine xL 41 (q_len tSl26_LbZ) ?_; trace "pk 42") | (refine xL 41 (q_leno 1 tSl26_LbZ) ?_; trace "pk 43") | (refine xL 41 (q_leno 6 tSl26_LbZ) ?_; trace "pk 44") | (refine xL 41 (q_leno 8 tSl26_LbZ) ?_; trace "pk 45"))) | ((refine bL 38 (fun hb38 => ?_) (fun hb38 => ?_); trace "pk 52") <;> (first | (refine kL 41 ?_; trace "pk 41") | (refine xL 41 (q_len tSl26_LbZ) ?_; trace "pk 42") | (refine xL 41 (q_leno 1 tSl26_LbZ) ?_; trace "pk 43") | (refine xL 41 (q_leno 6 tSl26_LbZ) ?_; trace "pk 44") | (refine xL 41 (q_leno 8 tSl26_LbZ) ?_; trace "pk 45"))))
               <;> (first | (refine kL 42 ?_; trace "pk 55") | (refine xL 42 q_neq ?_; trace "pk 56") | ((refine bLd 38 (fun hb38 => ?_) (fun hb38 => ?_); trace "pk 57") <;> (first | (refine kL 42 ?_; trace "pk 53") | (refine xL 42 q_neq ?_; trace "pk 54"))) | ((refine bL 38 (fun hb38 => ?_) (fun hb38 => ?_); trace "pk 58") <;> (first | (refine kL 42 ?_; trace "pk 53") | (refine xL 42 q_neq ?_; trace "pk 54"))))
               <;> (first | (refine xL 43 q_pick ?_; trace "pk 59") | (refine bLd 38 (fun hb38 => ?_) (fun hb38 => ?_) <;> refine xL 43 q_pick ?_; trace "pk 60") | (refine bL 38 (fun hb38 => ?_) (fun hb38 => ?_) <;> refine xL 43 q_pick ?_; trace "pk 61"))
               <;> refine xL 44 q_move ?_
               <;> (first | (refine kL 45 ?_; trace "pk 64") | (refine xL 45 q_move ?_; trace "pk 65") | ((refine bLd 44 (fun hb44 => ?_) (fun hb44 => ?_); trace "pk 66") <;> (first | (refine kL 45 ?_; trace "pk 62") | (refine xL 45 q_move ?_; trace "pk 63"))) | ((refine bL 44 (fun hb44 => ?_) (fun hb44 => ?_); trace "pk 67") <;> (first | (refine kL 45 ?_; trace "pk 62") | (refine xL 45 q_move ?_; trace "pk 63"))))
               <;> (first | (refine kL 46 ?_; trace "pk 70") | (refine xL 46 q_neq ?_; trace "pk 71") | ((refine bLd 44 (fun hb44 => ?_) (fun hb44 => ?_); trace "pk 72") <;> (first | (refine kL 46 ?_; trace "pk 68") | (refine xL 46 q_neq ?_; trace "pk 69"))) | ((refine bL 44 (fun hb44 => ?_) (fun hb44 => ?_); trace "pk 73") <;> (first | (refine kL 46 ?_; trace "pk 68") | (refine xL 46 q_neq ?_; trace "pk 69"))))
               <;> (first | (refine xL 47 q_pick ?_; trace "pk 74") | (refine bLd 44 (fun hb44 => ?_) (fun hb44 => ?_) <;> refine xL 47 q_pick ?_; trace "pk 75") | (refine bL 44 (fun hb44 => ?_) (fun hb44 => ?_) <;> refine xL 47 q_pick ?_; trace "pk 76"))
               <;> refine aL_end (nav ?_) <;> try dsimp only) <;> (
              first | refine cCd (fun hb47 => ?_) (fun hb47 => ?_) | refine cC (fun hb47 => ?_) (fun hb47 => ?_)
              · first
                | exact Bool.noConfusion hb47
                | (
                 refine nav ?_
                 (refine aC_region ?_
                   <;> refine xL 2 q_assign ?_
                   <;> refine aL_end (nav ?_) <;> try dsimp only)
                 exact ret_shr Tryz.results5 rfl rfl)
              · first
                | exact Bool.noConfusion hb47
                | (
                 refine nav ?_
                 (refine aC_region ?_
                   <;> refine xL 81 q_add ?_
                   <;> refine xL 22 q_move ?_
                   <;> refine aL_end (nav ?_) <;> try dsimp only)
                 refine aN_again (
                   ⟨k + 1, by omega⟩
                   ) (by dsimp only; omega) ⟨rfl, rfl, rfl, rfl, rfl, trivial⟩ ⟨rfl, trivial⟩)))
          · first
            | exact Bool.noConfusion hb34
            | (
             refine nav ?_
             (refine aC_region ?_
               <;> refine s_alloc [(.int .i64 0), (.slice none 0 0)] 2 8 tZr28_LbZ fun h8 => ?_
               <;> refine aL_end (nav ?_) <;> try dsimp only)
             (refine aC_region ?_
               <;> refine xL 9 q_assign ?_
               <;> refine aL_end (nav ?_) <;> try dsimp only)
             (refine aC_region ?_
               <;> refine xL 48 q_move ?_
               <;> refine xL 49 q_eql ?_
               <;> refine aL_end (nav ?_) <;> try dsimp only)
             first | refine cCd (fun hb49 => ?_) (fun hb49 => ?_) | refine cC (fun hb49 => ?_) (fun hb49 => ?_)
             · first
               | exact Bool.noConfusion hb49
               | (
                have hk4 : k = 4 := by omega
                refine nav ?_
                (refine aC_region ?_
                  <;> (refine yL 51 (q_ldao 1 tAgg25_LbZ) fun v51 hv51 => ?_; cases hv51)
                  <;> (refine cPx 52 (cA Tryz.call23 (rFind36_e g l n E S F hv hna (by omega))) (fun i va52 vb52 hva52 hvb52 => ?_) (fun i => refO_sh i.1); obtain ⟨o', hq'⟩ := i; have he := find_law (fun k o o' h h1 h2 => gets_law k h h1 h2) hq' (by have h := hq; rw [hk4] at h; exact h); subst he; dsimp only [cutO1, refO2, Option.isSome] at hva52 hvb52 ⊢; cases hvb52)
                  <;> refine xL 50 q_move ?_
                  <;> refine xL 53 q_extract ?_
                  <;> refine xL 54 q_extract ?_
                  <;> refine s_sta 8 tAgg28_LbZ ?_
                  <;> refine xL 9 q_assign ?_
                  <;> refine aL_end (nav ?_) <;> try dsimp only)
                (refine aC_region ?_
                  <;> refine xL 62 q_move ?_
                  <;> refine xL 63 q_not ?_
                  <;> refine xL 64 q_move ?_
                  <;> (first | refine kL 65 ?_ | refine xL 65 q_move ?_)
                  <;> (first | refine kL 66 ?_ | refine xL 66 q_neq ?_)
                  <;> refine xL 67 q_pick ?_
                  <;> refine xL 68 q_move ?_
                  <;> refine xL 69 q_move ?_
                  <;> refine xL 70 q_move ?_
                  <;> (first | refine kL 71 ?_ | refine xL 71 q_move ?_)
                  <;> (first | refine kL 72 ?_ | refine xL 72 q_neq ?_)
                  <;> refine xL 73 q_pick ?_
                  <;> refine xL 74 q_pick ?_
                  <;> refine xL 75 q_move ?_
                  <;> (refine yL 76 (q_ldao 6 tAgg28_LbZ) fun v76 hv76 => ?_; cases hv76)
                  <;> (refine yL 77 (q_ldao 8 tAgg28_LbZ) fun v77 hv77 => ?_; cases hv77)
                  <;> (first | (refine cS 78 (cA Tryz.call25 (rSame36_c cc)) fun v78 hv78 => ?_; cases hv78) | (refine cS 78 (cA Tryz.call25 rSame36_0) fun v78 hv78 => ?_; cases hv78))
                  <;> refine xL 79 q_not ?_
                  <;> refine xL 80 q_pick ?_
                  <;> refine aL_end (nav ?_) <;> try dsimp only) <;> (
                 first | refine cCd (fun hb80 => ?_) (fun hb80 => ?_) | refine cC (fun hb80 => ?_) (fun hb80 => ?_)
                 · first
                   | exact Bool.noConfusion hb80
                   | (
                    refine nav ?_
                    (refine aC_region ?_
                      <;> refine xL 2 q_assign ?_
                      <;> refine aL_end (nav ?_) <;> try dsimp only)
                    exact ret_shr Tryz.results5 rfl rfl)
                 · first
                   | exact Bool.noConfusion hb80
                   | (
                    refine nav ?_
                    (refine aC_region ?_
                      <;> refine xL 81 q_add ?_
                      <;> refine xL 22 q_move ?_
                      <;> refine aL_end (nav ?_) <;> try dsimp only)
                    refine aN_again (
                      ⟨k + 1, by omega⟩
                      ) (by dsimp only; omega) ⟨rfl, rfl, rfl, rfl, rfl, trivial⟩ ⟨rfl, trivial⟩)))
             · first
               | exact Bool.noConfusion hb49
               | (
                refine nav ?_
                (refine aC_region ?_
                  <;> (refine yL 56 (q_ldao 1 tAgg25_LbZ) fun v56 hv56 => ?_; cases hv56)
                  <;> refine xL 57 q_move ?_
                  <;> refine xL 58 q_add ?_
                  <;> (refine cPx 59 (cA Tryz.call24 (hget (by omega))) (fun i va59 vb59 hva59 hvb59 => ?_) (fun i => refO_sh i.1); obtain ⟨o', hq'⟩ := i; have he := gets_law k (by omega) hq' (allQ_lt (by omega) hq); subst he; dsimp only [cutO1, refO2, Option.isSome] at hva59 hvb59 ⊢; cases hvb59)
                  <;> refine xL 55 q_move ?_
                  <;> refine xL 60 q_extract ?_
                  <;> refine xL 61 q_extract ?_
                  <;> refine s_sta 8 tAgg28_LbZ ?_
                  <;> refine xL 9 q_assign ?_
                  <;> refine aL_end (nav ?_) <;> try dsimp only)
                (refine aC_region ?_
                  <;> refine xL 62 q_move ?_
                  <;> refine xL 63 q_not ?_
                  <;> refine xL 64 q_move ?_
                  <;> (first | refine kL 65 ?_ | refine xL 65 q_move ?_)
                  <;> (first | refine kL 66 ?_ | refine xL 66 q_neq ?_)
                  <;> refine xL 67 q_pick ?_
                  <;> refine xL 68 q_move ?_
                  <;> refine xL 69 q_move ?_
                  <;> refine xL 70 q_move ?_
                  <;> (first | refine kL 71 ?_ | refine xL 71 q_move ?_)
                  <;> (first | refine kL 72 ?_ | refine xL 72 q_neq ?_)
                  <;> refine xL 73 q_pick ?_
                  <;> refine xL 74 q_pick ?_
                  <;> refine xL 75 q_move ?_
                  <;> (refine yL 76 (q_ldao 6 tAgg28_LbZ) fun v76 hv76 => ?_; cases hv76)
                  <;> (refine yL 77 (q_ldao 8 tAgg28_LbZ) fun v77 hv77 => ?_; cases hv77)
                  <;> (first | (refine cS 78 (cA Tryz.call25 (rSame36_c cc)) fun v78 hv78 => ?_; cases hv78) | (refine cS 78 (cA Tryz.call25 rSame36_0) fun v78 hv78 => ?_; cases hv78))
                  <;> refine xL 79 q_not ?_
                  <;> refine xL 80 q_pick ?_
                  <;> refine aL_end (nav ?_) <;> try dsimp only) <;> (
                 first | refine cCd (fun hb80 => ?_) (fun hb80 => ?_) | refine cC (fun hb80 => ?_) (fun hb80 => ?_)
                 · first
                   | exact Bool.noConfusion hb80
                   | (
                    refine nav ?_
                    (refine aC_region ?_
                      <;> refine xL 2 q_assign ?_
                      <;> refine aL_end (nav ?_) <;> try dsimp only)
                    exact ret_shr Tryz.results5 rfl rfl)
                 · first
                   | exact Bool.noConfusion hb80
                   | (
                    refine nav ?_
                    (refine aC_region ?_
                      <;> refine xL 81 q_add ?_
                      <;> refine xL 22 q_move ?_
                      <;> refine aL_end (nav ?_) <;> try dsimp only)
                    refine aN_again (
                      ⟨k + 1, by omega⟩
                      ) (by dsimp only; omega) ⟨rfl, rfl, rfl, rfl, rfl, trivial⟩ ⟨rfl, trivial⟩))))))
      · first
        | exact Bool.noConfusion hb23
        | (
         refine nav ?_
         (refine aC_region ?_
           <;> refine xL 2 q_assign ?_
           <;> refine aL_end (nav ?_) <;> try dsimp only)
         exact ret_shr Tryz.results5 rfl rfl)))
theorem cutGets_bad (g : Dfg) (hf : fitD g) (hd : dfgOk g = false) : AF Tryz.prog 5 [pDfg g] (· = pBool true) := by
  refine AF.of_body 82 Tryz.func5 rfl Tryz.ntmps5 (Nat.le_of_ble_eq_true rfl) ?_
  intro w0 M0 vs hl hv
  obtain ⟨v0, rfl⟩ := len1 hl
  clear hl hv
  refine nav ?_
  (refine aC_region ?_
    <;> refine s_boxa 1 4 fun h1 => ?_
    <;> refine xL 2 q_assign ?_
    <;> refine aL_end (nav ?_) <;> try dsimp only)
  (refine aC_region ?_
    <;> (refine cS 10 (cA Tryz.call7 (awake_e)) fun v10 hv10 => ?_; cases hv10)
    <;> refine xL 11 q_not ?_
    <;> refine xL 12 q_move ?_
    <;> (refine yL 13 (q_ldao 1 tAgg25_LbZ) fun v13 hv13 => ?_; cases hv13)
    <;> (refine cS 14 (cA Tryz.call8 (plain36_e g)) fun v14 hv14 => ?_; cases hv14)
    <;> refine xL 15 q_not ?_
    <;> refine xL 16 q_pick ?_
    <;> refine aL_end (nav ?_) <;> try dsimp only) <;> (
   first | refine cCd (fun hb16 => ?_) (fun hb16 => ?_) | refine cC (fun hb16 => ?_) (fun hb16 => ?_)
   · first
     | exact Bool.noConfusion hb16
     | (
      refine nav ?_
      (refine aC_region ?_
        <;> (refine cS 17 (cA Tryz.call7 (awake_e)) fun v17 hv17 => ?_; cases hv17)
        <;> refine xL 2 q_assign ?_
        <;> refine aL_end (nav ?_) <;> try dsimp only)
      exact ret_shr Tryz.results5 rfl rfl)
   · first
     | exact Bool.noConfusion hb16
     | (
      have hpl := plainB_lens (g := g) (by simpa using hb16)
      have hbg := cBegin_e g hf (by omega) (by omega) (by omega)
      unfold RBegin at hbg
      rw [hd, if_neg (by decide)] at hbg
      have hfs : ∀ k : Nat, k < 5 → ∃ f, [PV.fn 12 [], PV.fn 13 [], PV.fn 20 [], PV.fn 21 [], PV.fn 22 []][k * 1]? = some (.fn f []) ∧ (∀ args w, (callFunc f args).run Tryz.prog w = .ok (.enter f args) w) ∧ (AF Tryz.prog f [pDfg g] (· = .tup [.agg [pInt 0, .val (.slice none 0 0)], pInt 1])) := fun k hk => by
        match k, hk with
        | 0, _ => exact ⟨_, rfl, Tryz.call12, cXor_bad g hbg⟩
        | 1, _ => exact ⟨_, rfl, Tryz.call13, cSeq_bad g hbg⟩
        | 2, _ => exact ⟨_, rfl, Tryz.call20, cAnd_bad g hbg⟩
        | 3, _ => exact ⟨_, rfl, Tryz.call21, cLoop_bad g hbg⟩
        | 4, _ => exact ⟨_, rfl, Tryz.call22, cFind_bad g hbg⟩
      refine nav ?_
      (refine aC_region ?_
        <;> (refine yL 18 (q_ldao 1 tAgg25_LbZ) fun v18 hv18 => ?_; cases hv18)
        <;> (refine cS 19 (cA Tryz.call19 ((r17Valid_e g hf (by omega)).mono (R' := (· = pBool false)) fun p hp => by rw [hp, hd])) fun v19 hv19 => ?_; cases hv19)
        <;> refine xL 3 q_assign ?_
        <;> refine aL_end (nav ?_) <;> try dsimp only)
      (refine aC_region ?_
        <;> (refine aL_litn (xs := [_, _, _, _, _]) 20 tEl42_LbZ rfl rfl (Nat.le_of_ble_eq_true rfl) rfl rfl rfl rfl rfl (by decide) (by decide) rfl ?_; intro h20 ho20; refine aL_ent (En.freeze (l := 20) (t := 20) rfl rfl) fun _ => ?_)
        <;> refine xL 21 (q_len tSl42_LbZ) ?_
        <;> refine xL 22 q_move ?_
        <;> refine aL_end (nav ?_) <;> try dsimp only)
      refine aC_loop (ι := { x : Nat // x ≤ 5 }) (fun k => ⟨[(1, _, _), (3, _, _), (20, _, _), (21, _, _), (22, .int .i64 k.1, pInt k.1)], [(1, _, _)]⟩) (fun k => 5 - k.1) ⟨0, Nat.zero_le _⟩ (fun a w H => H.weaken ⟨rfl, rfl, rfl, rfl, rfl, trivial⟩ ⟨rfl, trivial⟩) ?_
      rintro ⟨k, hk⟩
      dsimp only
      refine nav ?_
      (refine aC_region ?_
        <;> refine xL 23 q_lss ?_
        <;> refine aL_end (nav ?_) <;> try dsimp only)
      first | refine cCd (fun hb23 => ?_) (fun hb23 => ?_) | refine cC (fun hb23 => ?_) (fun hb23 => ?_)
      · first
        | exact Bool.noConfusion hb23
        | (
         have hk5 : k < 5 := by omega
         obtain ⟨f, e1, hfc, hfa⟩ := hfs k hk5
         refine nav ?_
         (refine aC_region ?_
           <;> refine xL 24 q_move ?_
           <;> refine xL 25 (q_idxN tSl42_LbZ) ?_
           <;> (refine yL 26 (q_ld tNa35_LbZ) fun v26 hv26 => ?_; cases hv26)
           <;> refine xL 4 q_assign ?_
           <;> refine xL 5 q_assign ?_
           <;> refine aL_end (nav ?_) <;> try dsimp only)
         (refine aC_region ?_
           <;> refine xL 28 q_move ?_
           <;> (refine yL 29 (q_ldao 1 tAgg25_LbZ) fun v29 hv29 => ?_; cases hv29)
           <;> (refine cP 30 (callF (f := f) (ps := []) rfl ⟨_, rfl⟩ hfc rfl hfa) fun va30 vb30 hva30 hvb30 => ?_; cases hvb30)
           <;> refine xL 27 q_move ?_
           <;> refine xL 31 q_extract ?_
           <;> refine xL 32 q_extract ?_
           <;> refine s_alloc [(.int .i64 0), (.slice none 0 0)] 2 6 tZr28_LbZ fun h6 => ?_
           <;> refine s_sta 6 tAgg28_LbZ ?_
           <;> refine xL 7 q_assign ?_
           <;> refine aL_end (nav ?_) <;> try dsimp only)
         (refine aC_region ?_
           <;> refine xL 33 q_move ?_
           <;> refine xL 34 q_not ?_
           <;> refine aL_end (nav ?_) <;> try dsimp only)
         first | refine cCd (fun hb34 => ?_) (fun hb34 => ?_) | refine cC (fun hb34 => ?_) (fun hb34 => ?_)
         · refine nav ?_
           (refine aC_region ?_
             <;> refine xL 35 (q_fldo 6 tFl28_0_LbZ) ?_
             <;> (refine yL 36 (q_ldo 6 tNa3_LbZ) fun v36 hv36 => ?_; cases hv36)
             <;> refine xL 37 q_neq ?_
             <;> refine xL 38 q_move ?_
             <;> refine xL 39 (q_fldo 6 tFl28_1_LbZ) ?_
             <;> (refine yL 40 (q_ldo 6 tNa26_LbZ) fun v40 hv40 => ?_; cases hv40)
             <;> (refine aL_ent (nilOwn 200 36 1 rfl) fun _ => ?_; refine aL_ent (En.freeze (l := 200) (t := 40) rfl rfl) fun _ => ?_; refine xL 41 (q_len tSl26_LbZ) ?_)
             <;> refine xL 42 q_neq ?_
             <;> refine xL 43 q_pick ?_
             <;> refine xL 44 q_move ?_
             <;> refine xL 45 q_move ?_
             <;> refine xL 46 q_neq ?_
             <;> refine xL 47 q_pick ?_
             <;> refine aL_end (nav ?_) <;> try dsimp only) <;> (
            first | refine cCd (fun hb47 => ?_) (fun hb47 => ?_) | refine cC (fun hb47 => ?_) (fun hb47 => ?_)
            · exact absurd rfl hb47
            · refine nav ?_
              (refine aC_region ?_
                <;> refine xL 81 q_add ?_
                <;> refine xL 22 q_move ?_
                <;> refine aL_end (nav ?_) <;> try dsimp only)
              refine aN_again (
                ⟨k + 1, by omega⟩
                ) (by dsimp only; omega) ⟨rfl, rfl, rfl, rfl, rfl, trivial⟩ ⟨rfl, trivial⟩)
         · exact absurd hb34 (by decide))
      · first
        | exact Bool.noConfusion hb23
        | (
         refine nav ?_
         (refine aC_region ?_
           <;> refine xL 2 q_assign ?_
           <;> refine aL_end (nav ?_) <;> try dsimp only)
         exact ret_shr Tryz.results5 rfl rfl)))
theorem cutGets_e (g : Dfg) (hf : fitD g) : AF Tryz.prog 5 [pDfg g] (· = pBool true) := by
  cases hd : dfgOk g with
  | true => exact cutGets_good g hf hd
  | false => exact cutGets_bad g hf hd
theorem own : ownKnob Tryz.prog.godebug = none := by kernel_rfl
theorem laidOut : laidOutB Tryz.prog = true := by kernel_rfl
theorem lifted (os : Os) (started : os.Started) (H : Type) (enc : TypeId × Value → H) :
    ReturnsInHanded {} Tryz.checked os 5 .any (Rows.cutGetsSpec.pre6 enc Tryz.prog Tryz.f5 Rows.cutGetsRow.domain false) (Rows.cutGetsSpec.post enc Tryz.prog Tryz.f5 false true false false) := by
  refine returnsInHanded_of_change_sized (C := Tryz.checked) own started (by kernel_rfl) Tryz.func5
    (ChangeSpec.witness6 (enc := enc) (C := Tryz.checked) false ⟨#[], #[(.agg #[(.slice none 0 0), (.slice none 0 0), (.slice none 0 0), (.slice none 0 0)])], []⟩ 8 (by kernel_rfl) (by kernel_rfl) (by kernel_rfl) (by kernel_rfl)) ?_
  intro W base args ds gs before hval0 hW hcnd hsz _
  have hval : ∀ (j : Nat) t v, Tryz.f5.params[j]? = some t → args[j]? = some v → Value.okWide Tryz.prog W .any base t v := hval0
  have hW' := hW
  obtain ⟨p, q, hA0, hV, rfl, hfz, hnd⟩ := hW
  have hA : DataW.TrodAll enc Tryz.prog W 0 (fun _ => true) true Tryz.f5.params.toList args.toList ds p := hA0
  have hsz' : ∀ n ∈ DataW.weightsEach Tryz.prog (Tryz.f5.params.toList ++ Rows.cutGetsSpec.plain.varTypes Tryz.prog) (ds ++ gs), n ≤ reachBytes := fun n hn => by
    have := List.all_eq_true.1 hsz n hn
    exact of_decide_eq_true this
  have hK := hA
  rw [Tryz.params5] at hA hval hsz'
  obtain ⟨v0, vs0, d0, ds0, p0, q0, hargs, rfl, rfl, h0, r0⟩ := trodAll_cons hA
  obtain ⟨rfl, rfl, rfl⟩ := trodAll_nil r0
  obtain rfl : args = #[v0] := by cases args; simp_all
  obtain ⟨rfl, rfl⟩ := trodVars_none hV
  obtain ⟨xg, hxg, s0⟩ := argA dDfg (by kernel_rfl) (hval 0 _ v0 rfl rfl) h0 (fun n hn => hsz' n (weightsEach_mem _ 0 rfl rfl hn))
  refine ((cutGets_e xg hxg).law (vs := [v0]) rfl (fun i v p hv hp => ?_)).mono fun e W' ⟨he, bel⟩ => ?_
  · match i with
    | 0 => simp at hv hp; subst hv hp; exact s0
    | i + 1 => simp at hv
  subst he
  exact ⟨_, rfl, _, _, _, [], _, [], hW', trodAll_mk1 (shut_bool Tryz.underlying4 _), trodAll_back laidOut bel (by kernel_rfl) hK, rfl, bel.frame _, fun h => by cases h⟩

theorem over : Rows.cutGetsRow.holds Tryz.pinned (OpenSpec.ofChange Rows.cutGetsSpec) :=
  OpenClaim.holds_of_wide 5 Tryz.f5 rfl rfl rfl rfl rfl rfl rfl ⟨rfl, rfl, rfl, rfl, rfl⟩ rfl rfl rfl rfl rfl (by kernel_rfl) Tryz.func5 (by kernel_rfl)
    (of_decide_eq_true (by kernel_rfl)) (by unfold Func.isWrapper; first | (rw [if_pos (by decide +kernel)]; kernel_rfl) | (rw [if_neg (by decide +kernel)]; exact ⟨rfl, rfl⟩))
    (fun os started H enc _ => lifted os started H enc)

theorem cutGets_holds : Rows.CutGetsSaid := over
end Go.Proofs.YtoanjgpdepaciaaGreat
