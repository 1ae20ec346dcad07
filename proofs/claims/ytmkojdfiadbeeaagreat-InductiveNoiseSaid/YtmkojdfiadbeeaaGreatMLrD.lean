/-
  'casebooklaw37.InductiveNoise' returns true for all variants and shares, and changes nothing that was handed to it.
-/
import Derived.Test.YtmkojdfiadbeeaaGreatRows
import Derived.Test.YtmkojdfiadbeeaaGreatPn12
namespace Go.Proofs.YtmkojdfiadbeeaaGreat
open Go.RowKit Go.Cb Go.En Go.ChangeShapes Go.WideShapes Go.ChangeAt
set_option linter.all false
set_option maxRecDepth 100000
theorem own:ownKnob Tryz.prog.godebug=none:=by kernel_rfl
theorem Zrt:laidOutB Tryz.prog=true:=by kernel_rfl
theorem ZsV (os:Os) (started:os.Started) (H:Type) (enc:TypeId×Value→H):
 ReturnsInHanded {} Tryz.checked os 6 .any (Rows.inductiveNoiseSpec.pre6 enc Tryz.prog Tryz.f6 Rows.inductiveNoiseRow.domain false) (Rows.inductiveNoiseSpec.post enc Tryz.prog Tryz.f6 false true false false):=by
 refine returnsInHanded_of_change_sized (C:=Tryz.checked) own started (by kernel_rfl) Tryz.func6
  (ChangeSpec.witness6 (enc:=enc) (C:=Tryz.checked) false ⟨#[],#[(.slice none 0 0),(.agg #[(.int .i64 0),(.int .i64 0)])],[]⟩ 8 (by kernel_rfl) (by kernel_rfl) (by kernel_rfl) (by kernel_rfl)) ?_
 intro W base args ds gs before hval0 hW hcnd hsz _
 have hval:∀(j:Nat) t v,Tryz.f6.params[j]? =some t→args[j]? =some v→Value.okWide Tryz.prog W .any base t v:=hval0
 have hW':=hW
 obtain ⟨p,q,hA0,hV,rfl,hfz,hnd⟩:=hW
 have hA:DataW.TrodAll enc Tryz.prog W 0 (fun _=>true) true Tryz.f6.params.toList args.toList ds p:=hA0
 have hsz':∀n∈DataW.weightsEach Tryz.prog (Tryz.f6.params.toList++Rows.inductiveNoiseSpec.plain.varTypes Tryz.prog) (ds++gs),n≤reachBytes:=fun n hn=>by
  have:=List.all_eq_true.1 hsz n hn
  exact of_decide_eq_true this
 have hK:=hA
 rw [Tryz.params6] at hA hval hsz'
 obtain ⟨v0,vs0,d0,ds0,p0,q0,hargs,rfl,rfl,h0,r0⟩:=trodAll_cons hA
 obtain ⟨v1,vs1,d1,ds1,p1,q1,rfl,rfl,rfl,h1,r1⟩:=trodAll_cons r0
 obtain ⟨rfl,rfl,rfl⟩:=trodAll_nil r1
 obtain rfl:args= #[v0,v1]:=by cases args;simp_all
 obtain ⟨rfl,rfl⟩:=trodVars_none hV
 obtain ⟨xl,hxl,s0⟩:=ZtB Ztu (by kernel_rfl) (hval 0 _ v0 rfl rfl) h0 (fun n hn=>hsz' n (J9 _ 0 rfl rfl hn))
 obtain ⟨xs,hxs,s1⟩:=ZtC dFr (by kernel_rfl) (hval 1 _ v1 rfl rfl) h1 (fun n hn=>hsz' n (J9 _ 1 rfl rfl hn))
 refine ((Zig xl xs hxl hxs).law (vs:=[v0,v1]) rfl (fun i v p hv hp=>?_) (by intro g h;cases h)).mono fun e W' ⟨he,bel⟩=>?_
 · match i with
   |0=>simp at hv hp;subst hv hp;exact s0
   |1=>simp at hv hp;subst hv hp;exact s1
   |i+2=>simp at hv
 subst he
 exact ⟨_,rfl,_,_,_,[],_,[],hW',trodAll_mk1 (shut_bool Tryz.underlying4 _),HZ Zrt bel (by kernel_rfl) hK,rfl,bel.frame _,fun h=>by cases h⟩
theorem ZtJ:Rows.inductiveNoiseRow.holds Tryz.pinned (OpenSpec.ofChange Rows.inductiveNoiseSpec):=
 OpenClaim.holds_of_wide 6 Tryz.f6 rfl rfl rfl rfl rfl rfl rfl ⟨rfl,rfl,rfl,rfl,rfl⟩ rfl rfl rfl rfl rfl (by kernel_rfl) Tryz.func6 (by kernel_rfl)
  (of_decide_eq_true (by kernel_rfl)) (by unfold Func.isWrapper;first|(rw [if_pos (by decide+kernel)];kernel_rfl)|(rw [if_neg (by decide+kernel)];exact ⟨rfl,rfl⟩))
  (fun os started H enc _=>ZsV os started H enc)
theorem inductiveNoise_holds:Rows.InductiveNoiseSaid:=ZtJ
end Go.Proofs.YtmkojdfiadbeeaaGreat
