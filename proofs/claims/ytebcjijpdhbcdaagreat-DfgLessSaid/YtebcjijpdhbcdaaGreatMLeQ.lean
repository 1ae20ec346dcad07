/-
  'casebooklaw17.DfgLess' returns true for every graph and all numbers, and changes nothing that was handed to it.
-/
import Derived.Test.YtebcjijpdhbcdaaGreatRows
import Derived.Test.YtebcjijpdhbcdaaGreatLn
import Derived.Test.YtebcjijpdhbcdaaGreatMLeP
import Derived.Test.YtebcjijpdhbcdaaGreatMLpT
namespace Go.En
open Go.RowKit Go.Cb
theorem dec_u16 {P : Program} {t : TypeId} (ht : P.underlying t = some (.int .u16)) (hs : P.cellsOf t = 1) : Dec P t 1 (fun n : Int => [PV.val (.int .u16 n)]) (fun n => 0 ≤ n ∧ n ≤ 65535) where
  size := hs
  len := fun _ => rfl
  dec := fun e w spare held fuel cs x h => by
    intro hwt
    obtain ⟨n, rfl, _, hw⟩ := DataW.trod_int ht h
    refine ⟨n, ?_, rfl, fun i v p h1 h2 => one_at (.val _) i h1 h2⟩
    simpa [Lit.wf, IntKind.min, IntKind.max, IntKind.signed, IntKind.bits] using hw
theorem dec_u8 {P : Program} {t : TypeId} (ht : P.underlying t = some (.int .u8)) (hs : P.cellsOf t = 1) : Dec P t 1 (fun n : Int => [PV.val (.int .u8 n)]) (fun n => 0 ≤ n ∧ n ≤ 255) where
  size := hs
  len := fun _ => rfl
  dec := fun e w spare held fuel cs x h => by
    intro hwt
    obtain ⟨n, rfl, _, hw⟩ := DataW.trod_int ht h
    refine ⟨n, ?_, rfl, fun i v p h1 h2 => one_at (.val _) i h1 h2⟩
    simpa [Lit.wf, IntKind.min, IntKind.max, IntKind.signed, IntKind.bits] using hw
end Go.En
namespace Go.Proofs.YtebcjijpdhbcdaaGreat
open Go.RowKit Go.Cb Go.En Go.ChangeShapes Go.WideShapes Go.ChangeAt
set_option linter.all false
set_option maxRecDepth 100000

theorem tAgg28_LeQ : AggT Tryz.prog 28 4 = true := by kernel_rfl
theorem tNa36_LeQ : NoAgg Tryz.prog 36 = true := by kernel_rfl
theorem tSz36_LeQ : (Tryz.prog.info? 36).map (·.size) = some 1 := by kernel_rfl
theorem tZr28_LeQ : ZeroT Tryz.prog 28 (.agg #[(.slice none 0 0), (.slice none 0 0), (.slice none 0 0), (.slice none 0 0)]) := by unfold ZeroT; kernel_rfl
theorem tZr36_LeQ : ZeroT Tryz.prog 36 (.slice none 0 0) := by unfold ZeroT; kernel_rfl

theorem dU16 : Dec Tryz.prog 48 1 (fun n : Int => [PV.val (.int .u16 n)]) (fun n => 0 ≤ n ∧ n ≤ 65535) := dec_u16 Tryz.underlying48 (by kernel_rfl)
theorem dU8 : Dec Tryz.prog 5 1 (fun n : Int => [PV.val (.int .u8 n)]) (fun n => 0 ≤ n ∧ n ≤ 255) := dec_u8 Tryz.underlying5 (by kernel_rfl)
theorem great_lens2 {g : Dfg} (h : ¬ greatB g = true) : g.acts.length ≤ 60 ∧ g.starts.length ≤ 60 ∧ g.ends.length ≤ 60 ∧ g.follows.length ≤ 80 := by
  have h' : greatB g = false := by simpa using h
  unfold greatB greatC at h'
  simp only [Bool.or_eq_false_iff, decide_eq_false_iff_not] at h'
  omega
def DWs (g : Dfg) (n : Nat) (W : List (List ByteArray)) (e : Int) : Prop := (bigP (autG g) n ∧ W = [] ∧ e = 5) ∨ (¬ bigP (autG g) n ∧ W = namesWs (cnames g.acts) (sumP (autG g) n (n + 1)) ∧ e = 0)
theorem dws_ex (g : Dfg) (n : Nat) : ∃ W e, DWs g n W e := by
  by_cases h : bigP (autG g) n
  · exact ⟨_, _, .inl ⟨h, rfl, rfl⟩⟩
  · exact ⟨_, _, .inr ⟨h, rfl, rfl⟩⟩
theorem dws_af {g : Dfg} {n : Nat} {W : List (List ByteArray)} {e : Int} (hok : dfgOk g = true) (hn : n ≤ 200) (h : DWs g n W e) : AF Tryz.prog 18 [pDfg g, pInt n] (· = .tup [pStrss W, pInt e]) := by
  obtain ⟨q1, q2, q3, q4, q5⟩ := dfg_fit hok
  refine (dWords_e g n q1 q2 q3 q4 q5).mono fun p hp => ?_
  rcases hp with ⟨h1, _⟩ | ⟨_, h1, _⟩ | ⟨_, _, _, h1, h2⟩ | ⟨_, _, _, h1, h2⟩
  · rw [hok] at h1; cases h1
  · omega
  · rw [Int.toNat_natCast] at h1
    rcases h with ⟨_, rfl, rfl⟩ | ⟨h3, _⟩
    · exact h2
    · exact absurd h1 h3
  · rw [Int.toNat_natCast] at h1
    rcases h with ⟨h3, _⟩ | ⟨_, rfl, rfl⟩
    · exact absurd h3 h1
    · rw [h2, Int.toNat_natCast]
theorem thrE {g : Dfg} {n : Int} (hok : dfgOk g = true) (hn : countedB n = true) : AF Tryz.prog 22 [pDfg g, pInt n] (· = .tup [pDfg (thrG n g), pInt 0]) := by
  obtain ⟨q1, q2, q3, q4, q5⟩ := dfg_fit hok
  refine (dThr_e n g q1 q2 q3 q4 q5).mono fun p hp => ?_
  rcases hp with ⟨h1, _⟩ | ⟨_, h1, _⟩ | ⟨_, _, h1⟩
  · rw [hok] at h1; cases h1
  · rw [hn] at h1; cases h1
  · exact h1
theorem less_law {g : Dfg} {n m : Int} {k : Nat} {X Y : List (List ByteArray)} {e f : Int} (hok : dfgOk g = true) (h : n ≤ m) (hX : DWs (thrG n g) k X e) (hY : DWs (thrG m g) k Y f) (he : e = 0) : f = 0 ∧ (Y.any fun w => !inWs X w) = false := by
  rcases hX with ⟨_, _, h1⟩ | ⟨h1, rfl, _⟩
  · omega
  · have hw := (thr_le (g := g) h).words (aok_of (autG_ok (gok_of (thr_ok m hok)))) (aok_of (autG_ok (gok_of (thr_ok n hok)))) k h1
    rcases hY with ⟨h2, _⟩ | ⟨h2, rfl, hf⟩
    · exact absurd h2 hw.1
    · refine ⟨hf, ?_⟩
      rw [List.any_eq_false]
      intro w hwm
      obtain ⟨v, hv, rfl⟩ := List.mem_map.1 hwm
      have h3 : namesW (cnames (thrG m g).acts) v ∈ namesWs (cnames (thrG n g).acts) (sumP (autG (thrG n g)) k (k + 1)) := List.mem_map.2 ⟨v, hw.2 v hv, rfl⟩
      rw [show inWs _ _ = true from List.any_eq_true.2 ⟨_, h3, eqW_self _⟩]; simp
set_option maxHeartbeats 4000000 in
theorem dfgLess_e (g : Dfg) (n m k : Int) (hf : fitD g) (hn : 0 ≤ n ∧ n ≤ 65535) (hm : 0 ≤ m ∧ m ≤ 65535) (hk : 0 ≤ k ∧ k ≤ 255) : AF Tryz.prog 6 [pDfg g, .val (.int .u16 n), .val (.int .u16 m), .val (.int .u8 k)] (· = pBool true) := by
  obtain ⟨K, hK⟩ : ∃ K : Nat, k.tmod 5 = (K : Int) := ⟨(k.tmod 5).toNat, by have := Int.tmod_nonneg 5 hk.1; omega⟩
  have hK5 : K < 5 := by have := Int.tmod_lt_of_pos k (show (0 : Int) < 5 by decide); omega
  refine AF.of_body 116 Tryz.func6 rfl Tryz.ntmps6 (Nat.le_of_ble_eq_true rfl) ?_
  intro w0 M0 vs hl hv
  obtain ⟨v0, v1, v2, v3, rfl⟩ := len4 hl
  obtain rfl := hv 1 _ _ rfl rfl
  obtain rfl := hv 2 _ _ rfl rfl
  obtain rfl := hv 3 _ _ rfl rfl
  clear hl hv
  refine nav ?_
  (refine aC_region ?_
    <;> refine s_boxa 4 4 fun h4 => ?_
    <;> refine xL 8 q_assign ?_
    <;> refine aL_end (nav ?_) <;> try dsimp only)
  (refine aC_region ?_
    <;> (refine cS 20 (cA Tryz.call11 (awake17_e)) fun v20 hv20 => ?_; cases hv20)
    <;> refine xL 21 q_not ?_
    <;> refine aL_end (nav ?_) <;> try dsimp only)
  refine cCf ?_
  refine nav ?_
  (refine aC_region ?_
    <;> (refine yL 22 (q_ldao 4 tAgg28_LeQ) fun v22 hv22 => ?_; cases hv22)
    <;> (refine cS 23 (cA Tryz.call17 (great17_e g)) fun v23 hv23 => ?_; cases hv23)
    <;> refine xL 24 q_move ?_
    <;> (refine bL 24 (fun hb24 => ?_) (fun hb24 => ?_) <;> (first | refine kL 25 ?_ | (refine yL 25 (q_ldao 4 tAgg28_LeQ) fun v25 hv25 => ?_; cases hv25)))
    <;> (first | refine kL 26 ?_ | (have hgl := great_lens2 (g := g) (by simpa using hb24); refine cS 26 (cA Tryz.call16 (dValid_e g hf (by omega) (by omega) (by omega))) fun v26 hv26 => ?_; cases hv26))
    <;> (first | refine kL 27 ?_ | refine xL 27 q_not ?_)
    <;> refine xL 28 q_pick ?_
    <;> refine aL_end (nav ?_) <;> try dsimp only) <;> (
   first | refine cCd (fun hb28 => ?_) (fun hb28 => ?_) | refine cC (fun hb28 => ?_) (fun hb28 => ?_)
   · first
     | exact Bool.noConfusion hb28
     | (
      refine nav ?_
      (refine aC_region ?_
        <;> refine xL 8 q_assign ?_
        <;> refine aL_end (nav ?_) <;> try dsimp only)
      exact ret_shr Tryz.results6 rfl rfl)
   · first
     | exact Bool.noConfusion hb28
     | (
      have hok : dfgOk g = true := by cases h1 : dfgOk g <;> simp_all
      have hT1 := thrE hok (show countedB 1 = true by decide)
      rw [thr_one hok] at hT1
      have c1 : countedB (1 + n) = true := by unfold countedB; rw [decide_eq_true (by omega), decide_eq_true (by omega)]; rfl
      have c2 : countedB (1 + n + m) = true := by unfold countedB; rw [decide_eq_true (by omega), decide_eq_true (by omega)]; rfl
      have hT2 := thrE hok c1
      have hT3 := thrE hok c2
      have hT4 := thrE (thr_ok (1 + n) hok) c2
      rw [thr_thr (show 1 + n ≤ 1 + n + m by omega)] at hT4
      obtain ⟨X, e, hX⟩ := dws_ex (thrG (1 + n) g) K
      obtain ⟨Y, f, hY⟩ := dws_ex (thrG (1 + n + m) g) K
      have hWX := dws_af (thr_ok (1 + n) hok) (by omega) hX
      have hWY := dws_af (thr_ok (1 + n + m) hok) (by omega) hY
      have hfl := (dfg_fit hok).2.2.2.2
      have hfl3 := (dfg_fit (thr_ok (1 + n + m) hok)).2.2.2.2
      have hlaw := less_law hok (show 1 + n ≤ 1 + n + m by omega) hX hY
      have he5 : e = 0 ∨ e = 5 := by
        rcases hX with ⟨_, _, h⟩ | ⟨_, _, h⟩
        · exact .inr h
        · exact .inl h
      refine nav ?_
      (refine aC_region ?_
        <;> (refine yL 30 (q_ldao 4 tAgg28_LeQ) fun v30 hv30 => ?_; cases hv30)
        <;> (refine cP 31 (cA Tryz.call22 (hT1)) fun va31 vb31 hva31 hvb31 => ?_; cases hvb31)
        <;> refine xL 29 q_move ?_
        <;> refine xL 32 q_extract ?_
        <;> refine xL 33 q_extract ?_
        <;> refine s_alloc [(.slice none 0 0), (.slice none 0 0), (.slice none 0 0), (.slice none 0 0)] 4 9 tZr28_LeQ fun h9 => ?_
        <;> refine s_sta 9 tAgg28_LeQ ?_
        <;> refine xL 10 q_assign ?_
        <;> refine aL_end (nav ?_) <;> try dsimp only)
      (refine aC_region ?_
        <;> (refine yL 35 (q_ldao 4 tAgg28_LeQ) fun v35 hv35 => ?_; cases hv35)
        <;> refine xL 36 q_move ?_
        <;> refine xL 37 (q_conv Tryz.underlying48 Tryz.underlying3) ?_
        <;> refine xL 38 q_add ?_
        <;> (refine cP 39 (cA Tryz.call22 (hT2)) fun va39 vb39 hva39 hvb39 => ?_; cases hvb39)
        <;> refine xL 34 q_move ?_
        <;> refine xL 40 q_extract ?_
        <;> refine xL 41 q_extract ?_
        <;> refine s_alloc [(.slice none 0 0), (.slice none 0 0), (.slice none 0 0), (.slice none 0 0)] 4 11 tZr28_LeQ fun h11 => ?_
        <;> refine s_sta 11 tAgg28_LeQ ?_
        <;> refine xL 12 q_assign ?_
        <;> refine aL_end (nav ?_) <;> try dsimp only)
      (refine aC_region ?_
        <;> (refine yL 43 (q_ldao 4 tAgg28_LeQ) fun v43 hv43 => ?_; cases hv43)
        <;> refine xL 44 q_move ?_
        <;> refine xL 45 (q_conv Tryz.underlying48 Tryz.underlying3) ?_
        <;> refine xL 46 q_add ?_
        <;> refine xL 47 q_move ?_
        <;> refine xL 48 (q_conv Tryz.underlying48 Tryz.underlying3) ?_
        <;> refine xL 49 q_add ?_
        <;> (refine cP 50 (cA Tryz.call22 (hT3)) fun va50 vb50 hva50 hvb50 => ?_; cases hvb50)
        <;> refine xL 42 q_move ?_
        <;> refine xL 51 q_extract ?_
        <;> refine xL 52 q_extract ?_
        <;> refine s_alloc [(.slice none 0 0), (.slice none 0 0), (.slice none 0 0), (.slice none 0 0)] 4 13 tZr28_LeQ fun h13 => ?_
        <;> refine s_sta 13 tAgg28_LeQ ?_
        <;> refine xL 14 q_assign ?_
        <;> refine aL_end (nav ?_) <;> try dsimp only)
      (refine aC_region ?_
        <;> refine xL 53 q_move ?_
        <;> refine xL 54 q_neq ?_
        <;> refine xL 55 q_move ?_
        <;> refine xL 56 q_move ?_
        <;> refine xL 57 q_neq ?_
        <;> refine xL 58 q_pick ?_
        <;> refine xL 59 q_move ?_
        <;> refine xL 60 q_move ?_
        <;> refine xL 61 q_neq ?_
        <;> refine xL 62 q_pick ?_
        <;> refine xL 63 q_move ?_
        <;> (refine yL 64 (q_ldao 9 tAgg28_LeQ) fun v64 hv64 => ?_; cases hv64)
        <;> (refine yL 65 (q_ldao 4 tAgg28_LeQ) fun v65 hv65 => ?_; cases hv65)
        <;> (refine cS 66 (cA Tryz.call15 ((r17Same_e g g (by omega) (by omega)).mono (R' := (· = pBool true)) fun p hp => by rw [hp, dfgEq_self])) fun v66 hv66 => ?_; cases hv66)
        <;> refine xL 67 q_not ?_
        <;> refine xL 68 q_pick ?_
        <;> refine aL_end (nav ?_) <;> try dsimp only) <;> (
       refine cCf ?_
       refine nav ?_
       (refine aC_region ?_
         <;> (refine yL 70 (q_ldao 11 tAgg28_LeQ) fun v70 hv70 => ?_; cases hv70)
         <;> refine xL 71 q_move ?_
         <;> refine xL 72 (q_conv Tryz.underlying48 Tryz.underlying3) ?_
         <;> refine xL 73 q_add ?_
         <;> refine xL 74 q_move ?_
         <;> refine xL 75 (q_conv Tryz.underlying48 Tryz.underlying3) ?_
         <;> refine xL 76 q_add ?_
         <;> (refine cP 77 (cA Tryz.call22 (hT4)) fun va77 vb77 hva77 hvb77 => ?_; cases hvb77)
         <;> refine xL 69 q_move ?_
         <;> refine xL 78 q_extract ?_
         <;> refine xL 79 q_extract ?_
         <;> refine s_alloc [(.slice none 0 0), (.slice none 0 0), (.slice none 0 0), (.slice none 0 0)] 4 15 tZr28_LeQ fun h15 => ?_
         <;> refine s_sta 15 tAgg28_LeQ ?_
         <;> refine xL 16 q_assign ?_
         <;> refine aL_end (nav ?_) <;> try dsimp only)
       (refine aC_region ?_
         <;> refine xL 80 q_move ?_
         <;> refine xL 81 q_neq ?_
         <;> refine xL 82 q_move ?_
         <;> (refine yL 83 (q_ldao 15 tAgg28_LeQ) fun v83 hv83 => ?_; cases hv83)
         <;> (refine yL 84 (q_ldao 13 tAgg28_LeQ) fun v84 hv84 => ?_; cases hv84)
         <;> (refine cS 85 (cA Tryz.call15 ((r17Same_e (thrG (1 + n + m) g) (thrG (1 + n + m) g) (by omega) (by omega)).mono (R' := (· = pBool true)) fun p hp => by rw [hp, dfgEq_self])) fun v85 hv85 => ?_; cases hv85)
         <;> refine xL 86 q_not ?_
         <;> refine xL 87 q_pick ?_
         <;> refine aL_end (nav ?_) <;> try dsimp only) <;> (
        refine cCf ?_
        refine nav ?_
        (refine aC_region ?_
          <;> (refine yL 89 (q_ldao 11 tAgg28_LeQ) fun v89 hv89 => ?_; cases hv89)
          <;> refine xL 90 q_move ?_
          <;> (refine xL 91 q_rem ?_; rw [hK])
          <;> refine xL 92 (q_conv Tryz.underlying5 Tryz.underlying3) ?_
          <;> (refine cP 93 (cA Tryz.call18 (hWX)) fun va93 vb93 hva93 hvb93 => ?_; cases hvb93)
          <;> refine xL 88 q_move ?_
          <;> refine xL 94 q_extract ?_
          <;> refine xL 95 q_extract ?_
          <;> refine s_alloc [(.slice none 0 0)] 1 17 tZr36_LeQ fun h17 => ?_
          <;> refine s_st 17 tNa36_LeQ tSz36_LeQ ?_
          <;> refine xL 16 q_assign ?_
          <;> refine aL_end (nav ?_) <;> try dsimp only)
        (refine aC_region ?_
          <;> (refine yL 97 (q_ldao 13 tAgg28_LeQ) fun v97 hv97 => ?_; cases hv97)
          <;> refine xL 98 q_move ?_
          <;> (refine xL 99 q_rem ?_; rw [hK])
          <;> refine xL 100 (q_conv Tryz.underlying5 Tryz.underlying3) ?_
          <;> (refine cP 101 (cA Tryz.call18 (hWY)) fun va101 vb101 hva101 hvb101 => ?_; cases hvb101)
          <;> refine xL 96 q_move ?_
          <;> refine xL 102 q_extract ?_
          <;> refine xL 103 q_extract ?_
          <;> refine xL 18 q_assign ?_
          <;> refine xL 19 q_assign ?_
          <;> refine aL_end (nav ?_) <;> try dsimp only)
        (refine aC_region ?_
          <;> refine xL 104 q_move ?_
          <;> refine xL 105 q_neq ?_
          <;> refine aL_end (nav ?_) <;> try dsimp only)
        first | refine cCd (fun hb105 => ?_) (fun hb105 => ?_) | refine cC (fun hb105 => ?_) (fun hb105 => ?_)
        · first
          | exact Bool.noConfusion hb105
          | (
           refine nav ?_
           (refine aC_region ?_
             <;> refine xL 106 q_move ?_
             <;> refine xL 107 q_eql ?_
             <;> refine xL 8 q_assign ?_
             <;> refine aL_end (nav ?_) <;> try dsimp only)
           refine ret_shr (Tryz.results6) rfl ?_
           have h0 : e = 5 := by rcases he5 with h | h; exact absurd h (by simpa using hb105); exact h
           rw [h0]; rfl)
        · first
          | exact Bool.noConfusion hb105
          | (
           have he0 : e = 0 := by simpa using hb105
           have hl := hlaw he0
           refine nav ?_
           refine aC_ent (freezeP (l := 17) (t := 17) (j := 0) rfl Nat.one_pos rfl) fun _ => ?_
           (refine aC_region ?_
             <;> refine xL 108 q_move ?_
             <;> refine xL 109 q_eql ?_
             <;> refine xL 110 q_move ?_
             <;> (refine bLd 110 (fun hb110 => ?_) (fun hb110 => ?_) <;> (first | refine kL 111 ?_ | refine xL 111 q_move ?_))
             <;> (first | refine kL 112 ?_ | refine xL 112 q_mkfn ?_)
             <;> (first | refine kL 113 ?_ | (refine cS 113 (cA Tryz.call23 (containsFuncStrs_e 24 [.sptr 0 [pStrss X]] (fun w => !inWs X w) Y (Tryz.call24) (fun w _ => dfgLess1_e w X))) fun v113 hv113 => ?_; cases hv113; rw [hl.2]))
             <;> (first | refine kL 114 ?_ | refine xL 114 q_not ?_)
             <;> refine xL 115 q_pick ?_
             <;> refine xL 8 q_assign ?_
             <;> refine aL_end (nav ?_) <;> try dsimp only) <;> (
            first
              | exact ret_shr (Tryz.results6) rfl rfl
              | exact absurd hl.1 (by simpa using hb110)
              | (refine ret_shr (Tryz.results6) rfl ?_; simp_all)))))))
theorem own : ownKnob Tryz.prog.godebug = none := by kernel_rfl
theorem laidOut : laidOutB Tryz.prog = true := by kernel_rfl
theorem lifted (os : Os) (started : os.Started) (H : Type) (enc : TypeId × Value → H) :
    ReturnsInHanded {} Tryz.checked os 6 .any (Rows.dfgLessSpec.pre6 enc Tryz.prog Tryz.f6 Rows.dfgLessRow.domain false) (Rows.dfgLessSpec.post enc Tryz.prog Tryz.f6 false true false false) := by
  refine returnsInHanded_of_change_sized (C := Tryz.checked) own started (by kernel_rfl) Tryz.func6
    (ChangeSpec.witness6 (enc := enc) (C := Tryz.checked) false ⟨#[], #[(.agg #[(.slice none 0 0), (.slice none 0 0), (.slice none 0 0), (.slice none 0 0)]), (.int .u16 0), (.int .u16 0), (.int .u8 0)], []⟩ 8 (by kernel_rfl) (by kernel_rfl) (by kernel_rfl) (by kernel_rfl)) ?_
  intro W base args ds gs before hval0 hW hcnd hsz _
  have hval : ∀ (j : Nat) t v, Tryz.f6.params[j]? = some t → args[j]? = some v → Value.okWide Tryz.prog W .any base t v := hval0
  have hW' := hW
  obtain ⟨p, q, hA0, hV, rfl, hfz, hnd⟩ := hW
  have hA : DataW.TrodAll enc Tryz.prog W 0 (fun _ => true) true Tryz.f6.params.toList args.toList ds p := hA0
  have hsz' : ∀ n ∈ DataW.weightsEach Tryz.prog (Tryz.f6.params.toList ++ Rows.dfgLessSpec.plain.varTypes Tryz.prog) (ds ++ gs), n ≤ reachBytes := fun n hn => by
    have := List.all_eq_true.1 hsz n hn
    exact of_decide_eq_true this
  have hK := hA
  rw [Tryz.params6] at hA hval hsz'
  obtain ⟨v0, vs0, d0, ds0, p0, q0, hargs, rfl, rfl, h0, r0⟩ := trodAll_cons hA
  obtain ⟨v1, vs1, d1, ds1, p1, q1, rfl, rfl, rfl, h1, r1⟩ := trodAll_cons r0
  obtain ⟨v2, vs2, d2, ds2, p2, q2, rfl, rfl, rfl, h2, r2⟩ := trodAll_cons r1
  obtain ⟨v3, vs3, d3, ds3, p3, q3, rfl, rfl, rfl, h3, r3⟩ := trodAll_cons r2
  obtain ⟨rfl, rfl, rfl⟩ := trodAll_nil r3
  obtain rfl : args = #[v0, v1, v2, v3] := by cases args; simp_all
  obtain ⟨rfl, rfl⟩ := trodVars_none hV
  obtain ⟨xg, hxg, s0⟩ := argA dDfg (by kernel_rfl) (hval 0 _ v0 rfl rfl) h0 (fun n hn => hsz' n (weightsEach_mem _ 0 rfl rfl hn))
  obtain ⟨xn, hxn, s1⟩ := arg1 dU16 (by kernel_rfl) (hval 1 _ v1 rfl rfl) h1 (fun n hn => hsz' n (weightsEach_mem _ 1 rfl rfl hn))
  obtain ⟨xm, hxm, s2⟩ := arg1 dU16 (by kernel_rfl) (hval 2 _ v2 rfl rfl) h2 (fun n hn => hsz' n (weightsEach_mem _ 2 rfl rfl hn))
  obtain ⟨xk, hxk, s3⟩ := arg1 dU8 (by kernel_rfl) (hval 3 _ v3 rfl rfl) h3 (fun n hn => hsz' n (weightsEach_mem _ 3 rfl rfl hn))
  refine ((dfgLess_e xg xn xm xk hxg hxn hxm hxk).law (vs := [v0, v1, v2, v3]) rfl (fun i v p hv hp => ?_)).mono fun e W' ⟨he, bel⟩ => ?_
  · match i with
    | 0 => simp at hv hp; subst hv hp; exact s0
    | 1 => simp at hv hp; subst hv hp; exact s1
    | 2 => simp at hv hp; subst hv hp; exact s2
    | 3 => simp at hv hp; subst hv hp; exact s3
    | i + 4 => simp at hv
  subst he
  exact ⟨_, rfl, _, _, _, [], _, [], hW', trodAll_mk1 (shut_bool Tryz.underlying4 _), trodAll_back laidOut bel (by kernel_rfl) hK, rfl, bel.frame _, fun h => by cases h⟩

theorem over : Rows.dfgLessRow.holds Tryz.pinned (OpenSpec.ofChange Rows.dfgLessSpec) :=
  OpenClaim.holds_of_wide 6 Tryz.f6 rfl rfl rfl rfl rfl rfl rfl ⟨rfl, rfl, rfl, rfl, rfl⟩ rfl rfl rfl rfl rfl (by kernel_rfl) Tryz.func6 (by kernel_rfl)
    (of_decide_eq_true (by kernel_rfl)) (by unfold Func.isWrapper; first | (rw [if_pos (by decide +kernel)]; kernel_rfl) | (rw [if_neg (by decide +kernel)]; exact ⟨rfl, rfl⟩))
    (fun os started H enc _ => lifted os started H enc)

theorem dfgLess_holds : Rows.DfgLessSaid := over
end Go.Proofs.YtebcjijpdhbcdaaGreat
