/-
  'casebooklaw23.ConvertTrees' returns true for every tree, and changes nothing that was handed to it.
-/
import Derived.Test.YtpiemogpblmiiaaGreatDoorCards
import Derived.Test.YtpiemogpblmiiaaGreatDoorTie
import Derived.LaidMore
import Derived.LaidHandle
import Derived.Lib.LaidTab
import Derived.Handed
import Derived.Test.YtpiemogpblmiiaaGreatDoorPa09
namespace Go.Proofs.YtpiemogpblmiiaaGreatDoor
open Go.RowKit Go.Cb Go.En Go.ChangeShapes Go.WideShapes Go.ChangeAt
set_option linter.all false
set_option maxRecDepth 100000
theorem own:ownKnob Tryz.prog.godebug=none:=by kernel_rfl
theorem ZaR:laidOutB Tryz.prog=true:=by kernel_rfl
theorem Ziw:Tryz.prog.globalNamed "internal/strconv.uint64pow10"=some 3:=by kernel_rfl
theorem ZiG:∃t e,(Tryz.prog.globals[3]?).map (·.type)=some t∧Tryz.prog.underlying t=some (.array 20 e)∧Tryz.prog.underlying e=some (.int .u64)∧Tryz.prog.cellsOf e=1∧Tryz.prog.cellsOf t=20:=by
 refine ⟨((Tryz.prog.globals[3]?).map (·.type)).getD 0,(match Tryz.prog.underlying (((Tryz.prog.globals[3]?).map (·.type)).getD 0) with|some (.array _ e)=>e|_=>0),?_,?_,?_,?_,?_⟩<;>kernel_rfl
theorem Zix {W:World} (h:laidMetH Tryz.prog Rows.convertTreesRow.laid W):Lib.TabIs Tryz.prog W "internal/strconv.uint64pow10" .u64 Lib.pow10Tab:=by
 rw [MakeChecks.laidMetH_plain _ _ _ (by kernel_rfl)] at h
 obtain ⟨t,e,h1,h2,h3,h4,h5⟩:=ZiG
 obtain ⟨ps,⟨_,_,_,_,_,_,_,_,_,_,⟨_,_,_,_,_,_,_,_,_,_,⟨g,t',cs,f,p,q,hg,ht,hv,hd,_,_⟩,_⟩,_⟩,_,_⟩:=h
 obtain rfl:=Option.some.inj (Ziw.symm.trans hg)
 obtain rfl:=Option.some.inj (h1.symm.trans ht)
 unfold Lib.TabIs
 rw [hv,←Lib.cells_of_tab (zs:=Lib.pow10Tab) h2 h3 h4 h5 hd]
theorem Zew (os:Os) (args:Array Value):laidMetH Tryz.prog Rows.convertTreesRow.laid ((World.doorLaid Tryz.prog 400 os).forCall (fun _ _=>0) ⟨#[],args,[]⟩).memory:=by
 rw [MakeChecks.laidMetH_plain _ _ _ (by kernel_rfl)]
 exact laidMet_of_run' 8 (by kernel_rfl) (by kernel_rfl)
theorem lifted (os:Os) (started:os.Started) (H:Type) (enc:TypeId×Value→H):
 ReturnsInHanded {} Tryz.checked os 3 .any (fun w args=>(Rows.convertTreesSpec.pre enc Tryz.prog Tryz.f3 Rows.convertTreesRow.domain false w args∧laidMetH Tryz.prog Rows.convertTreesRow.laid w)∧sizedMet enc Tryz.prog Tryz.f3 (OpenSpec.ofChange Rows.convertTreesSpec) false w args) (Rows.convertTreesSpec.post enc Tryz.prog Tryz.f3 false true false false):=by
 refine returnsInHanded_of_change_and (C:=Tryz.checked) (X:=fun w _=>laidMetH Tryz.prog Rows.convertTreesRow.laid w) (fun _ _ _ hh h=>h.of_heap hh) own started (by kernel_rfl) Tryz.func3
  (ChangeSpec.witness_shaped (enc:=enc) (C:=Tryz.checked) (os:=os) (X:=fun w _=>laidMetH Tryz.prog Rows.convertTreesRow.laid w) false (World.doorLaid Tryz.prog 400 os) #[(.agg #[(.int .i64 0),(.string ByteArray.empty),(.slice none 0 0)])] 8 rfl (World.shaped_of_RefB (by kernel_rfl) (by kernel_rfl)) (by kernel_rfl) (by kernel_rfl) (by kernel_rfl) (Zew os _)) ?_
 intro W base args ds gs before hval0 hW hcnd hsz hL _
 have hval:∀(j:Nat) t v,Tryz.f3.params[j]? =some t→args[j]? =some v→Value.okWide Tryz.prog W .any base t v:=hval0
 have hW':=hW
 obtain ⟨p,q,hA0,hV,rfl,hfz,hnd⟩:=hW
 have hA:DataW.TrodAll enc Tryz.prog W 0 (fun _=>true) true Tryz.f3.params.toList args.toList ds p:=hA0
 have hsz':∀n∈DataW.weightsEach Tryz.prog (Tryz.f3.params.toList++Rows.convertTreesSpec.plain.varTypes Tryz.prog) (ds++gs),n≤reachBytes:=fun n hn=>by
  have:=List.all_eq_true.1 hsz n hn
  exact of_decide_eq_true this
 have hK:=hA
 rw [Tryz.params3] at hA hval hsz'
 obtain ⟨v0,vs0,d0,ds0,p0,q0,hargs,rfl,rfl,h0,r0⟩:=trodAll_cons hA
 obtain ⟨rfl,rfl,rfl⟩:=trodAll_nil r0
 obtain rfl:args= #[v0]:=by cases args;simp_all
 obtain ⟨rfl,rfl⟩:=trodVars_none hV
 obtain ⟨xt,hxt,s0⟩:=ZiF Ziv (by kernel_rfl) (hval 0 _ v0 rfl rfl) h0 (fun n hn=>hsz' n (Kb _ 0 rfl rfl hn))
 refine ((Zcj xt hxt).law (vs:=[v0]) rfl (fun i v p hv hp=>?_) (Ze3 Ziw rfl (Zix hL))).mono fun e W' ⟨he,bel⟩=>?_
 · match i with
   |0=>simp at hv hp;subst hv hp;exact s0
   |i+1=>simp at hv
 subst he
 exact ⟨_,rfl,_,_,_,[],_,[],hW',trodAll_mk1 (shut_bool Tryz.underlying4 _),SD ZaR bel (by kernel_rfl) hK,rfl,bel.frame _,fun h=>by cases h⟩
theorem jIn:Tryz.prog.inPlace 3=Rows.convertTreesRow.inPlace:=by kernel_rfl
theorem jUn:Tryz.prog.unfollowed 3=Rows.convertTreesRow.unfollowed:=by kernel_rfl
theorem jRe:Tryz.prog.recurses 3=Rows.convertTreesRow.recurses:=by kernel_rfl
theorem jVn:Tryz.prog.varsNamed 3=Rows.convertTreesRow.named:=by kernel_rfl
theorem jMr:mapsRowed Tryz.prog=true:=by kernel_rfl
theorem jMe:Tryz.prog.mayEnter=true:=by kernel_rfl
theorem jLf:Tryz.prog.liftsFinal=Rows.convertTreesRow.lifted:=by kernel_rfl
theorem jMk:Tryz.prog.make=some Rows.convertTreesRow.make:=by kernel_rfl
theorem Zgn:joinedFacts Tryz.prog 3 Tryz.f3 Rows.convertTreesSpec Rows.convertTreesRow=true:=by
 unfold joinedFacts
 rw [ZaR,jMr,jIn,jUn,jRe,jVn,jMe,jLf,jMk]
 kernel_rfl
theorem ZiH:Rows.ConvertTreesSaid:=
 OpenClaim.holds_of_wide 3 Tryz.f3 rfl rfl rfl rfl rfl rfl rfl ⟨rfl,rfl,rfl,rfl,rfl⟩ rfl rfl rfl rfl rfl (by kernel_rfl) Tryz.func3 Zgn
  (of_decide_eq_true (by kernel_rfl)) (by unfold Func.isWrapper;first|(rw [if_pos (by decide+kernel)];kernel_rfl)|(rw [if_neg (by decide+kernel)];exact ⟨rfl,rfl⟩))
  (fun os started H enc _=>lifted os started H enc)
theorem plain (f:FuncId) (fn:Func) (hf:Tryz.pinned.checked.prog.funcNamed "casebook/casebooklaw23.ConvertTrees"=some f) (hfn:Tryz.pinned.checked.prog.funcs[f]? =some fn):
 true=Tryz.pinned.checked.prog.looks []∧∀(j:Nat) t,fn.params[j]? =some t→Tryz.pinned.checked.prog.wantsStandIn t=false:=by
 obtain rfl:f=3:=Option.some.inj ((show Tryz.prog.funcNamed "casebook/casebooklaw23.ConvertTrees"=some 3 by kernel_rfl).symm.trans hf) |>.symm
 obtain rfl:fn=Tryz.f3:=(Option.some.inj (Tryz.func3.symm.trans hfn)).symm
 refine ⟨by kernel_rfl,fun j t ht=>?_⟩
 have hall:Tryz.f3.params.all (fun t=> !Tryz.prog.wantsStandIn t)=true:=by kernel_rfl
 have:=Array.all_eq_true'.1 hall t (Array.mem_of_getElem? ht)
 have h2:Tryz.prog.wantsStandIn t=false:=by simpa using this
 exact h2
theorem convertTrees_holds:Rows.ConvertTreesCardSaid:=
 Claim7.holds_tied_plain_at .later [] _ _ _ _ ZiH (fun _ h=>by cases h) (by kernel_rfl) (fun _ h=>by cases h) convertTrees_row_tie rfl ⟨rfl,rfl⟩ (by kernel_rfl) rfl plain (by kernel_rfl)
end Go.Proofs.YtpiemogpblmiiaaGreatDoor
