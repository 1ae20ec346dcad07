/-
  Walks of the reference: together.
-/
import Derived.Test.YtoanjgpdepaciaaGreatMLbS
import Derived.Test.YtoanjgpdepaciaaGreatLd
namespace Go.Proofs.YtoanjgpdepaciaaGreat
open Go.RowKit Go.Cb Go.En
set_option linter.all false
set_option maxRecDepth 100000

theorem tFl86_1_LbT : FldT Tryz.prog 86 1 1 = true := by kernel_rfl
theorem tFl86_2_LbT : FldT Tryz.prog 86 2 2 = true := by kernel_rfl
theorem tNa4_LbT : NoAgg Tryz.prog 4 = true := by kernel_rfl
theorem tNa77_LbT : NoAgg Tryz.prog 77 = true := by kernel_rfl
theorem tNa78_LbT : NoAgg Tryz.prog 78 = true := by kernel_rfl
theorem tSl77_LbT : SlT Tryz.prog 77 78 1 = true := by kernel_rfl
theorem tSl78_LbT : SlT Tryz.prog 78 4 1 = true := by kernel_rfl

def togB (E R : Nat → Nat → Bool) (kind : Int) (a b : Nat) : Bool := if kind = 2 then R a b == R b a else if kind = 3 then !E a b || !E b a else E a b || E b a
theorem rTogether_e (l : List ByteArray) (n : Nat) (E R : Nat → Nat → Bool) (S F : Nat → Bool) (kind : Int) (a b : Nat) (ha : a < n) (hb : b < n) : AF Tryz.prog 113 [.agg (cView l n E R S F), pInt kind, pInt a, pInt b] (· = pBool (togB E R kind a b)) := by
  have ea := vec_at1 (fun i => pBools n (E i)) ha
  have eb := vec_at1 (fun i => pBools n (E i)) hb
  have eab := vec_at1 (fun j => pBool (E a j)) hb
  have eba := vec_at1 (fun j => pBool (E b j)) ha
  have ra := vec_at1 (fun i => pBools n (R i)) ha
  have rb := vec_at1 (fun i => pBools n (R i)) hb
  have rab := vec_at1 (fun j => pBool (R a j)) hb
  have rba := vec_at1 (fun j => pBool (R b j)) ha
  refine AF.of_body 69 Tryz.func113 rfl Tryz.ntmps113 (Nat.le_of_ble_eq_true rfl) ?_
  intro w0 M0 vs hl hv
  obtain ⟨v0, v1, v2, v3, rfl⟩ := len4 hl
  obtain rfl := hv 1 _ _ rfl rfl
  obtain rfl := hv 2 _ _ rfl rfl
  obtain rfl := hv 3 _ _ rfl rfl
  clear hl hv
  refine nav ?_
  (refine aC_region ?_
    <;> refine s_boxa 4 5 fun h4 => ?_
    <;> refine xL 8 q_assign ?_
    <;> refine aL_end (nav ?_) <;> try dsimp only)
  (refine aC_region ?_
    <;> refine xL 9 q_move ?_
    <;> refine aL_end (nav ?_) <;> try dsimp only)
  (refine aC_region ?_
    <;> refine xL 11 q_eql ?_
    <;> refine xL 10 q_assign ?_
    <;> refine aL_end (nav ?_) <;> try dsimp only)
  first | refine cCd (fun hb10 => ?_) (fun hb10 => ?_) | refine cC (fun hb10 => ?_) (fun hb10 => ?_)
  · first
    | exact Bool.noConfusion hb10
    | (
     refine nav ?_
     (refine aC_draw (fun i => ([] : List Nat).elem i) [4] (by kernel_rfl) ?_
       <;> refine xD 0 12 rfl (q_fldo 4 tFl86_2_LbT) ?_
       <;> (refine yD 1 13 rfl (q_ldo 4 tNa77_LbT) fun v13 hv13 => ?_; cases hv13)
       <;> refine xD 2 14 rfl q_move ?_
       <;> refine xD 3 15 rfl (q_idxN tSl77_LbT) ?_
       <;> (refine yD 4 16 rfl (q_ld tNa78_LbT) fun v16 hv16 => ?_; cases hv16)
       <;> refine xD 5 17 rfl q_move ?_
       <;> refine xD 6 18 rfl (q_idxN tSl78_LbT) ?_
       <;> (refine yD 7 19 rfl (q_ld tNa4_LbT) fun v19 hv19 => ?_; cases hv19)
       <;> refine xD 8 20 rfl (q_fldo 4 tFl86_2_LbT) ?_
       <;> (refine yD 9 21 rfl (q_ldo 4 tNa77_LbT) fun v21 hv21 => ?_; cases hv21)
       <;> refine xD 10 22 rfl q_move ?_
       <;> refine xD 11 23 rfl (q_idxN tSl77_LbT) ?_
       <;> (refine yD 12 24 rfl (q_ld tNa78_LbT) fun v24 hv24 => ?_; cases hv24)
       <;> refine xE 13 25 rfl q_move ?_
       <;> refine xE 14 26 rfl (q_idxN tSl78_LbT) ?_
       <;> (refine yE 15 27 rfl (q_ld tNa4_LbT) fun v27 hv27 => ?_; cases hv27)
       <;> refine xE 16 28 rfl (q_beql Tryz.underlying4) ?_
       <;> refine xE 17 8 rfl q_assign ?_
       <;> refine aD_end (by kernel_rfl) (nav ?_)
       <;> try dsimp only)
     refine ret_shr (Tryz.results113) rfl ?_
     show pBool _ = pBool _
     unfold togB
     rw [if_pos hb10]
     try (cases R a b <;> cases R b a <;> rfl))
  · first
    | exact Bool.noConfusion hb10
    | (
     refine nav ?_
     (refine aC_region ?_
       <;> refine xL 30 q_eql ?_
       <;> refine xL 29 q_assign ?_
       <;> refine aL_end (nav ?_) <;> try dsimp only)
     first | refine cCd (fun hb29 => ?_) (fun hb29 => ?_) | refine cC (fun hb29 => ?_) (fun hb29 => ?_)
     · first
       | exact Bool.noConfusion hb29
       | (
        refine nav ?_
        (refine aC_region ?_
          <;> refine xL 31 (q_fldo 4 tFl86_1_LbT) ?_
          <;> (refine yL 32 (q_ldo 4 tNa77_LbT) fun v32 hv32 => ?_; cases hv32)
          <;> refine xL 33 q_move ?_
          <;> refine xL 34 (q_idxN tSl77_LbT) ?_
          <;> (refine yL 35 (q_ld tNa78_LbT) fun v35 hv35 => ?_; cases hv35)
          <;> refine xL 36 q_move ?_
          <;> refine xL 37 (q_idxN tSl78_LbT) ?_
          <;> (refine yL 38 (q_ld tNa4_LbT) fun v38 hv38 => ?_; cases hv38)
          <;> refine xL 39 q_not ?_
          <;> refine xL 40 q_move ?_
          <;> (refine bL 40 (fun hb40 => ?_) (fun hb40 => ?_) <;> (first | refine kL 41 ?_ | refine xL 41 (q_fldo 4 tFl86_1_LbT) ?_))
          <;> (first | refine kL 42 ?_ | (refine yL 42 (q_ldo 4 tNa77_LbT) fun v42 hv42 => ?_; cases hv42))
          <;> (first | refine kL 43 ?_ | refine xL 43 q_move ?_)
          <;> (first | refine kL 44 ?_ | refine xL 44 (q_idxN tSl77_LbT) ?_)
          <;> (first | refine kL 45 ?_ | (refine yL 45 (q_ld tNa78_LbT) fun v45 hv45 => ?_; cases hv45))
          <;> (first | refine kL 46 ?_ | refine xL 46 q_move ?_)
          <;> (first | refine kL 47 ?_ | refine xL 47 (q_idxN tSl78_LbT) ?_)
          <;> (first | refine kL 48 ?_ | (refine yL 48 (q_ld tNa4_LbT) fun v48 hv48 => ?_; cases hv48))
          <;> (first | refine kL 49 ?_ | refine xL 49 q_not ?_)
          <;> refine xL 50 q_pick ?_
          <;> refine xL 8 q_assign ?_
          <;> refine aL_end (nav ?_) <;> try dsimp only) <;> (
         refine ret_shr (Tryz.results113) rfl ?_
         show pBool _ = pBool _
         unfold togB
         rw [if_neg hb10, if_pos hb29]
         try simp [*]))
     · first
       | exact Bool.noConfusion hb29
       | (
        refine nav ?_
        (refine aC_region ?_
          <;> refine xL 51 (q_fldo 4 tFl86_1_LbT) ?_
          <;> (refine yL 52 (q_ldo 4 tNa77_LbT) fun v52 hv52 => ?_; cases hv52)
          <;> refine xL 53 q_move ?_
          <;> refine xL 54 (q_idxN tSl77_LbT) ?_
          <;> (refine yL 55 (q_ld tNa78_LbT) fun v55 hv55 => ?_; cases hv55)
          <;> refine xL 56 q_move ?_
          <;> refine xL 57 (q_idxN tSl78_LbT) ?_
          <;> (refine yL 58 (q_ld tNa4_LbT) fun v58 hv58 => ?_; cases hv58)
          <;> refine xL 59 q_move ?_
          <;> (refine bL 59 (fun hb59 => ?_) (fun hb59 => ?_) <;> (first | refine kL 60 ?_ | refine xL 60 (q_fldo 4 tFl86_1_LbT) ?_))
          <;> (first | refine kL 61 ?_ | (refine yL 61 (q_ldo 4 tNa77_LbT) fun v61 hv61 => ?_; cases hv61))
          <;> (first | refine kL 62 ?_ | refine xL 62 q_move ?_)
          <;> (first | refine kL 63 ?_ | refine xL 63 (q_idxN tSl77_LbT) ?_)
          <;> (first | refine kL 64 ?_ | (refine yL 64 (q_ld tNa78_LbT) fun v64 hv64 => ?_; cases hv64))
          <;> (first | refine kL 65 ?_ | refine xL 65 q_move ?_)
          <;> (first | refine kL 66 ?_ | refine xL 66 (q_idxN tSl78_LbT) ?_)
          <;> (first | refine kL 67 ?_ | (refine yL 67 (q_ld tNa4_LbT) fun v67 hv67 => ?_; cases hv67))
          <;> refine xL 68 q_pick ?_
          <;> refine xL 8 q_assign ?_
          <;> refine aL_end (nav ?_) <;> try dsimp only) <;> (
         refine ret_shr (Tryz.results113) rfl ?_
         show pBool _ = pBool _
         unfold togB
         rw [if_neg hb10, if_neg hb29]
         try simp [*])))
end Go.Proofs.YtoanjgpdepaciaaGreat
