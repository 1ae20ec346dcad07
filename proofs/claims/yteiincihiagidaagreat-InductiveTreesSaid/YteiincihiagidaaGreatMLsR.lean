/-
  'casebooklaw37.InductiveTrees' returns true for every tree, and changes nothing that was handed to it.
-/
import Derived.Test.YteiincihiagidaaGreatRows
import Derived.Test.YteiincihiagidaaGreatPf11
namespace Go.Proofs.YteiincihiagidaaGreat
open Go.RowKit Go.Cb Go.En Go.ChangeShapes Go.WideShapes Go.ChangeAt
set_option linter.all false
set_option maxRecDepth 100000
theorem own:ownKnob Tryz.prog.godebug=none:=by kernel_rfl
theorem Zqi:laidOutB Tryz.prog=true:=by kernel_rfl
theorem ZrL (os:Os) (started:os.Started) (H:Type) (enc:TypeId×Value→H):
 ReturnsInHanded {} Tryz.checked os 3 .any (Rows.inductiveTreesSpec.pre6 enc Tryz.prog Tryz.f3 Rows.inductiveTreesRow.domain false) (Rows.inductiveTreesSpec.post enc Tryz.prog Tryz.f3 false true false false):=by
 refine returnsInHanded_of_change_sized (C:=Tryz.checked) own started (by kernel_rfl) Tryz.func3
  (ChangeSpec.witness6 (enc:=enc) (C:=Tryz.checked) false ⟨#[],#[(.agg #[(.int .i64 0),(.string ByteArray.empty),(.slice none 0 0)])],[]⟩ 8 (by kernel_rfl) (by kernel_rfl) (by kernel_rfl) (by kernel_rfl)) ?_
 intro W base args ds gs before hval0 hW hcnd hsz _
 have hval:∀(j:Nat) t v,Tryz.f3.params[j]? =some t→args[j]? =some v→Value.okWide Tryz.prog W .any base t v:=hval0
 have hW':=hW
 obtain ⟨p,q,hA0,hV,rfl,hfz,hnd⟩:=hW
 have hA:DataW.TrodAll enc Tryz.prog W 0 (fun _=>true) true Tryz.f3.params.toList args.toList ds p:=hA0
 have hsz':∀n∈DataW.weightsEach Tryz.prog (Tryz.f3.params.toList++Rows.inductiveTreesSpec.plain.varTypes Tryz.prog) (ds++gs),n≤reachBytes:=fun n hn=>by
  have:=List.all_eq_true.1 hsz n hn
  exact of_decide_eq_true this
 have hK:=hA
 rw [Tryz.params3] at hA hval hsz'
 obtain ⟨v0,vs0,d0,ds0,p0,q0,hargs,rfl,rfl,h0,r0⟩:=trodAll_cons hA
 obtain ⟨rfl,rfl,rfl⟩:=trodAll_nil r0
 obtain rfl:args= #[v0]:=by cases args;simp_all
 obtain ⟨rfl,rfl⟩:=trodVars_none hV
 obtain ⟨xt,hxt,s0⟩:=Zsp Zsg (by kernel_rfl) (hval 0 _ v0 rfl rfl) h0 (fun n hn=>hsz' n (JK _ 0 rfl rfl hn))
 refine ((Zgx xt hxt).law (vs:=[v0]) rfl (fun i v p hv hp=>?_) (by intro g h;cases h)).mono fun e W' ⟨he,bel⟩=>?_
 · match i with
   |0=>simp at hv hp;subst hv hp;exact s0
   |i+1=>simp at hv
 subst he
 exact ⟨_,rfl,_,_,_,[],_,[],hW',trodAll_mk1 (shut_bool Tryz.underlying4 _),D9 Zqi bel (by kernel_rfl) hK,rfl,bel.frame _,fun h=>by cases h⟩
theorem Zsv:Rows.inductiveTreesRow.holds Tryz.pinned (OpenSpec.ofChange Rows.inductiveTreesSpec):=
 OpenClaim.holds_of_wide 3 Tryz.f3 rfl rfl rfl rfl rfl rfl rfl ⟨rfl,rfl,rfl,rfl,rfl⟩ rfl rfl rfl rfl rfl (by kernel_rfl) Tryz.func3 (by kernel_rfl)
  (of_decide_eq_true (by kernel_rfl)) (by unfold Func.isWrapper;first|(rw [if_pos (by decide+kernel)];kernel_rfl)|(rw [if_neg (by decide+kernel)];exact ⟨rfl,rfl⟩))
  (fun os started H enc _=>ZrL os started H enc)
theorem inductiveTrees_holds:Rows.InductiveTreesSaid:=Zsv
end Go.Proofs.YteiincihiagidaaGreat
