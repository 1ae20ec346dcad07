/-
  Walks of functions and plain laws of the chapter, as the claim needs them.
-/
import Derived.DeepKeys3
import Derived.Lib.AppendIntMem
import Derived.Lib.OthersKept
import Derived.Laws.BytesArg
import Derived.Test.YtmkojdfiadbeeaaGreatPf03
import Derived.Test.YtmkojdfiadbeeaaGreatPf01
namespace Go.En
open Go.RowKit Go.Cb
set_option linter.all false
section
variable {P:Program} {st:St} {o:Oper}
end
section
variable {P:Program} {st:St} {o:Oper} {x y:Operand} {q q':PV} {t t':TypeId}
end
section
variable {P:Program} {st:St} {o:Oper}
theorem SD {x y:Operand} {q q':PV} {t t':TypeId} {k:IntKind} {a:Int} (ho:o.op= .binOp .eql t x y t':=by exact rfl) (hx:ev st.slots x=some (.int k a,q):=by exact rfl) (hy:ev st.slots y=some (.int k a,q'):=by exact rfl):YE P st o (· = .bool true) (.val (.bool true)):=by
 have h:=ZU (P:=P) ho hx hy
 rwa [Uy rfl] at h
end
section
variable {P:Program} {c:Ctx} {ops:Array Oper} {Q:Exit→Act→World→Prop} {rest:List Oper} {sL hP:List (Nat×Ent)} {o:Oper}
end
section
variable {P:Program} {ops:Array Oper} {Q:Exit→Act→World→Prop} {md:Region.Mode} {C:World→Prop} {Z:Nat→Bool}
def TF (md:Region.Mode) (ops:Array Oper):Nat→Nat→Nat→Bool
 |0,_,_=>false
 | n+1,z,i=>match ops[z]? with
   |some oz=>oz.after.any fun e=>Region.binds md e&&(e.on==i||TF md ops n e.on i)
   |none=>false
def Re (md:Region.Mode) (ops:Array Oper) (Z:Nat→Bool) (i:Nat):Bool:=(List.range ops.size).all fun z=> !Z z||TF md ops ops.size z i
def Rf (md:Region.Mode) (ops:Array Oper) (listed:Array Bool):Bool:=(List.range ops.size).all fun k=> !(listed.getD k false)||(match ops[k]? with
 |some o=>o.after.all fun e=> !Region.binds md e||listed.getD e.on false
 |none=>true)
def ClosedL (md:Region.Mode) (ops:Array Oper) (listed:Array Bool):Prop:=∀(k:Nat) (o:Oper),ops[k]? =some o→listed.getD k false=true→∀e∈o.after,Region.binds md e=true→listed.getD e.on false=true
theorem EQ {listed:Array Bool} (h:Rf md ops listed=true):ClosedL md ops listed:=fun k o ho hk e he hb=>by
 have hks:k<ops.size:=by
  rcases Xv k ops.size with h'|h'
  · exact h'
  · rw [Vd h'] at ho;cases ho
 have:=Xj.1 h k (XV.2 hks)
 rw [hk,ho] at this
 simp only [Bool.not_true,V9] at this
 have:=(Array.all_eq_true'.1 this) e he
 rw [hb] at this
 simpa using this
theorem ClosedL.reach {listed:Array Bool} (h:ClosedL md ops listed) {i:Nat}:∀(n z:Nat),listed.getD z false=true→TF md ops n z i=true→listed.getD i false=true
 |0,_,_,hr=>by simp [TF] at hr
 | n +1,z,hz,hr=>by
   rw [TF] at hr;split at hr
   · rename_i oz ho;obtain ⟨e,he,hb⟩:=Array.any_eq_true'.1 hr;simp only [Xe,X9,beq_iff_eq] at hb;have h1:=h z oz ho hz e he hb.1;rcases hb.2 with h2|h2
     · rw [←h2];exact h1
     · exact ClosedL.reach h n e.on h1 h2
   · cases hr
theorem ClosedL.ready {listed:Array Bool} (h:ClosedL md ops listed) {i j n:Nat} (hj:j∈Region.ready md ops listed) (hr:TF md ops n j i=true):listed.getD i false=true:=by
 obtain ⟨_,oj,hoj,hall⟩:=mem_ready.1 hj
 cases n with
 |zero=>simp [TF] at hr
 | succ n=>
   rw [TF,hoj] at hr;obtain ⟨e,he,hb⟩:=Array.any_eq_true'.1 hr;simp only [Xe,X9,beq_iff_eq] at hb;have h1:=hall e he hb.1;rcases hb.2 with h2|h2
   · rw [←h2];exact h1
   · exact h.reach n e.on h1 h2
theorem ClosedL.set {listed:Array Bool} (h:ClosedL md ops listed) {j:Nat} (hj:j∈Region.ready md ops listed):ClosedL md ops (listed.setIfInBounds j true):=fun k o ho hk e he hb=>by
 obtain ⟨_,oj,hoj,hall⟩:=mem_ready.1 hj
 by_cases hkj:k=j
 · subst hkj;rw [hoj] at ho;cases ho;exact getD_set_true (hall e he hb)
 · rw [getD_set_ne false (Ne.symm hkj)] at hk;exact getD_set_true (h k o ho hk e he hb)
theorem Hf {i:Nat} {oi:Oper} {v:Value} (hi:ops[i]? =some oi) (hz:Re md ops Z i=true)
 (hsel:∀(j:Nat) (o:Oper) cs b,ops[j]? =some o→o.op≠ .select cs b):
 ∀ (fuel:Nat) (listed:Array Bool) (a:Act) (w:World),ClosedL md ops listed→
  (∀j oj,ops[j]? =some oj→j≠i→listed.getD j true=false→(∀e∈oj.after,Region.binds md e=true→e.on≠i)→oi.apart ops oj=true)→
  i∈Region.ready md ops listed→YieldsC P ops C oi v a→C w→
  KY P md ops Q C Z fuel (listed.setIfInBounds i true) (a.put oi.dst v) w→KY P md ops Q C Z (fuel+1) listed a w:=by
 intro fuel
 induction fuel with
 | zero=>
   intro listed a w _ _ hr hy hC H;refine ⟨fun h=>(by rw [h] at hr;cases hr),fun j hj=>?_⟩;by_cases hji:j=i
   · subst hji;exact YieldsIf.wpOp hi hy.ifS hC ⟨.inr hC,H⟩
   · have:=ready_mono hj hji;rw [H.1] at this
     cases this
 | succ fuel ih=>
   intro listed a w hcl hfree hr hy hC H;refine ⟨fun h=>(by rw [h] at hr;cases hr),fun j hj=>?_⟩;by_cases hji:j=i
   · subst hji;exact YieldsIf.wpOp hi hy.ifS hC ⟨.inr hC,H⟩
   · have h1:=H.2 j (ready_mono hj hji);obtain ⟨hjun,oj,hoj,hall⟩:=mem_ready.1 hj;have hnot:∀e∈oj.after,Region.binds md e=true→e.on≠i:=fun e he hb heq=>by
      have h1:=hall e he hb;have h0:=(mem_ready.1 hr).1;rw [heq] at h1;rcases Xv i listed.size with h'|h'
      · simp [h'] at h0 h1;rw [h0] at h1;cases h1
      · simp [Vd h'] at h1
     have hjz:Z j=false:=by
      cases hZ:Z j
      · rfl
      · exfalso;have hjs:j<ops.size:=by
         rcases Xv j ops.size with h'|h'
         · exact h'
         · rw [Vd h'] at hoj;cases hoj
        have:=Xj.1 hz j (XV.2 hjs);rw [hZ] at this;simp only [Bool.not_true,V9] at this;have h0:=(mem_ready.1 hr).1;have h1:=hcl.ready hj this;rcases Xv i listed.size with h'|h'
        · simp [h'] at h0 h1;rw [h0] at h1;cases h1
        · simp [Vd h'] at h1
     have h2:=wpOp_putIf hoj (hfree j oj hoj hji hjun hnot) (fun cs b=>hsel i oi cs b hi) (fun cs b=>hsel j oj cs b hoj) (fun c a w h=>h) hy.ifS h1;have hfree':∀k ok,ops[k]? =some ok→k≠i→(listed.setIfInBounds j true).getD k true=false→
      (∀e∈ok.after,Region.binds md e=true→e.on≠i)→oi.apart ops ok=true:=fun k ok hk hki hun hno=>by
      refine hfree k ok hk hki ?_ hno;by_cases hjk:j=k
      · subst hjk;exact hjun
      · rw [getD_set_ne true hjk] at hun;exact hun
     refine wpOp_mono (fun a' w' h3=>?_) h2;obtain ⟨hy',hor,hK⟩:=h3;have hC':C w':=by
      rcases hor with h|h
      · rw [hjz] at h;cases h
      · exact h
     refine ⟨.inr hC',ih (listed.setIfInBounds j true) a' w' (hcl.set hj) hfree' (ready_mono hr (Ne.symm hji)) hy' hC' ?_⟩;rw [Array.setIfInBounds_comm _ _ hji];exact hK
end
section
variable {P:Program} {c:Ctx} {ops:Array Oper} {Q:Exit→Act→World→Prop} {Z:Nat→Bool} {K:List Nat} {fuel:Nat} {listed:Array Bool} {sL hP:List (Nat×Ent)} {o:Oper}
theorem Zi5 {V:Value→Prop} {p:PV} (i d:Nat) (ho:ops[i]? =some o) (hck:(Region.noSelect ops&&(Region.ready .any ops listed).contains i&&Region.free .any ops listed i&&Re .any ops Z i&&Rf .any ops listed)=true) (hw:ZV ops sL o=some true) (hd:o.dst=some d) (hn:d<c.nt) (hy:YE P ⟨sL,KV K hP⟩ o V p)
 (k:∀v,V v→aD P c ops Q Z K fuel (listed.setIfInBounds i true) ⟨put d (v,p) sL,hP⟩):aD P c ops Q Z K (fuel+1) listed (⟨sL,hP⟩:St):=fun a w F H C hC=>by
 simp only [Xe] at hck
 obtain ⟨⟨⟨⟨hs,hr⟩,hf⟩,hz⟩,hcl⟩:=hck
 obtain ⟨v,hV,hS,hrun⟩:=hy _ F a w (H.rdK K)
 refine Gw hC _ _ _ _ ?_
 refine Hf ho hz (Region.noSelect_spec hs) _ listed a w (EQ hcl) (Region.free_spec ho hf) (by simpa using hr) (v:=v) (.inl ⟨JK H.rd hw,fun W hW=>?_⟩) (Chg.rfl' _ _) ?_
 · exact hrun _ W hW (fun b ⟨l,x,_,h1,h2⟩=> .inr ⟨l,x,h1,h2⟩) (fun l x b hl hFb ⟨l',x',h1,h2,h3⟩=>by
    obtain ⟨h4,h5⟩:=Lv.1 hl;exact H.dj l l' _ _ b (fun e=>by rw [e,h1] at h4;cases h4) h5 h2 hFb h3)
 · rw [hd];exact k v hV _ w F (H.put hn hS) _ (fun W h=>h)
theorem Zku {v:Value} {p:PV} (i d:Nat) (ho:ops[i]? =some o) (hck:(Region.noSelect ops&&(Region.ready .any ops listed).contains i&&Region.free .any ops listed i&&Re .any ops Z i&&Rf .any ops listed)=true) (hw:ZV ops sL o=some true) (hd:o.dst=some d) (hn:d<c.nt) (hy:YE P ⟨sL,KV K hP⟩ o (· =v) p)
 (k:aD P c ops Q Z K fuel (listed.setIfInBounds i true) ⟨put d (v,p) sL,hP⟩):aD P c ops Q Z K (fuel+1) listed (⟨sL,hP⟩:St):=Zi5 i d ho hck hw hd hn hy fun u hu=>by cases hu;exact k
theorem xDT {v:Value} {p:PV} (i:Nat) (d:Nat) (ho:ops[i]? =some o) (hy:YE P ⟨sL,KV K hP⟩ o (· =v) p) (k:aD P c ops Q Z K fuel (listed.setIfInBounds i true) ⟨put d (v,p) sL,hP⟩) (hck:(Region.noSelect ops&&(Region.ready .any ops listed).contains i&&Region.free .any ops listed i&&Re .any ops Z i&&Rf .any ops listed)=true:=by kernel_rfl) (hw:ZV ops sL o=some true:=by exact rfl) (hd:o.dst=some d:=by exact rfl) (hn:d<c.nt:=by exact Xa rfl):aD P c ops Q Z K (fuel+1) listed (⟨sL,hP⟩:St):=
 Zku i d ho hck hw hd hn hy k
theorem yDT {V:Value→Prop} {p:PV} (i:Nat) (d:Nat) (ho:ops[i]? =some o) (hy:YE P ⟨sL,KV K hP⟩ o V p) (k:∀v,V v→aD P c ops Q Z K fuel (listed.setIfInBounds i true) ⟨put d (v,p) sL,hP⟩) (hck:(Region.noSelect ops&&(Region.ready .any ops listed).contains i&&Region.free .any ops listed i&&Re .any ops Z i&&Rf .any ops listed)=true:=by kernel_rfl) (hw:ZV ops sL o=some true:=by exact rfl) (hd:o.dst=some d:=by exact rfl) (hn:d<c.nt:=by exact Xa rfl):aD P c ops Q Z K (fuel+1) listed (⟨sL,hP⟩:St):=
 Zi5 i d ho hck hw hd hn hy k
end
def aDZ (P:Program) (c:Ctx) (ops:Array Oper) (Q:Exit→Act→World→Prop) (Z:Nat→Bool) (fuel:Nat) (listed:Array Bool) (st:St):Prop:=
 ∀a w F,HoldsF c st F a w→∀C:World→Prop,KY P .any ops Q C Z fuel listed a w
section
variable {P:Program} {c:Ctx} {ops:Array Oper} {Q:Exit→Act→World→Prop} {Z:Nat→Bool} {K:List Nat} {fuel:Nat} {listed:Array Bool} {sL hP:List (Nat×Ent)} {o:Oper}
theorem C9 {i:Nat} (ho:ops[i]? =some o) (hZ:Z i=true) (h:∀DQ:Exit→Act→World→Prop,(∀st':St,aDZ P c ops Q Z fuel (listed.setIfInBounds i true) st'→aN c DQ st')→aL P c ops DQ [o] (⟨sL,hP⟩:St)):aW P c ops Q Z K fuel listed (⟨sL,hP⟩:St) i:=fun a w F H C hC=>by
 refine Jn (Q':=fun _ a' w'=>(Z i=true∨C w')∧KY P .any ops Q C Z fuel (listed.setIfInBounds i true) a' w') ho (fun a' w' hq=>hq) ?_
 exact h _ (fun st' hN a' w' ⟨F',H'⟩=>⟨.inl hZ,hN a' w' F' H' C⟩) a w ⟨F,H⟩
theorem Zb5 (i:Nat) (hr:Region.ready .any ops listed=[i]) (ho:ops[i]? =some o) (hZ:Z i=true) (h:∀DQ:Exit→Act→World→Prop,(∀st':St,aDZ P c ops Q Z fuel (listed.setIfInBounds i true) st'→aN c DQ st')→aL P c ops DQ [o] (⟨sL,hP⟩:St)):aDZ P c ops Q Z (fuel+1) listed (⟨sL,hP⟩:St):=fun a w F H C=>
 ⟨(fun hn=>by rw [hr] at hn;cases hn),fun j hj=>by
   rw [hr] at hj;obtain rfl:j=i:=by simpa using hj
   refine Jn (Q':=fun _ a' w'=>(Z j=true∨C w')∧KY P .any ops Q C Z fuel (listed.setIfInBounds j true) a' w') ho (fun a' w' hq=>hq) ?_;exact h _ (fun st' hN a' w' ⟨F',H'⟩=>⟨.inl hZ,hN a' w' F' H' C⟩) a w ⟨F,H⟩⟩
theorem Zb6 (hr:Region.ready .any ops listed=[]) (h:aN c Q (⟨sL,hP⟩:St)):aDZ P c ops Q Z fuel listed (⟨sL,hP⟩:St):=fun a w F H C=>by
 cases fuel with
 |zero=>exact ⟨hr,h a w ⟨F,H⟩⟩
 |succ n=>exact ⟨fun _=>h a w ⟨F,H⟩,fun i hi=>by rw [hr] at hi;cases hi⟩
end
section
variable {P:Program} {st:St} {o:Oper} {x y:Operand} {q q':PV} {t t':TypeId}
end
section
variable {P:Program} {c:Ctx} {sL hP:List (Nat×Ent)}
end
section
variable {P:Program} {c:Ctx} {ops:Array Oper} {Q:Exit→Act→World→Prop} {Z:Nat→Bool} {K:List Nat} {fuel:Nat} {listed:Array Bool} {sL hP:List (Nat×Ent)} {o:Oper}
end
structure PiT (P:Program) (t ks s e:Nat) (z:Value):Prop where
 ht:P.underlying t=some (.map ks e)
 hu:P.underlying ks=some (.array 2 s)
 hs:P.underlying s=some (.int .i64)
 hk:P.keyType ks=true
 hk2:P.keyTypeAt 2 ks=true
 hti:P.tiled 2 ks=true
 hc2:P.cellsOf ks=2
 hc1:P.cellsOf s=1
 hf:∀a b:Int,(Value.agg #[.int .i64 a, .int .i64 b]).formed P ks=true
 hsz:∃n,P.types.size=n+1
 hz:ZeroT P e z
theorem PiT.law {P:Program} {t ks s e:Nat} {z:Value} (h:PiT P t ks s e z):WideMaps.KeyLaw P ks:=deep_law (m:=2) dC h.hk2 h.hti (by rw [h.hu])
section
variable {P:Program} {c:Ctx} {ops:Array Oper} {Q:Exit→Act→World→Prop} {rest:List Oper} {sL hP:List (Nat×Ent)} {o:Oper}
end
section
variable {P:Program} {sL hP:List (Nat×Ent)} {o:Oper}
end
theorem cPx {P:Program} {c:Ctx} {ops:Array Oper} {Q:Exit→Act→World→Prop} {rest:List Oper} {sL hP:List (Nat×Ent)} {o:Oper} {ι:Type} {p1 p2:ι→PV} (d:Nat) (hC:J6 P c (⟨sL,hP⟩:St) o (fun p=>∃i,p= .tup [p1 i,p2 i])) (k:∀i v1 v2,vOf (p1 i) v1→vOf (p2 i) v2→aL P c ops Q rest ⟨put d (.tuple [v1,v2].toArray, .tup [p1 i,p2 i]) sL,hP⟩) (hsh:∀i,shD (.tup [p1 i,p2 i])=true) (hw:ZV ops sL o=some true:=by exact rfl) (hd:o.dst=some d:=by exact rfl) (hn:d<c.nt:=by exact Xa rfl):aL P c ops Q (o::rest) (⟨sL,hP⟩:St):=
 J8 hw hC fun a w F w' v p' Fr H hR hx hT hlo hdw=>by
  obtain ⟨i,rfl⟩:=hR;have hS:=hT.shD (hsh i);rw [hd];have hS':Shr (mof c hP F) w' v (.tup [p1 i,p2 i]):=hS.anti fun b _ h=> .inl h
  cases hS with
  | tup vs ps hl h=>
    match vs,hl,h,hS' with
    |[v1,v2],_,h,hS'=>exact k i v1 v2 (h 0 v1 _ rfl rfl).vOf (h 1 v2 _ rfl rfl).vOf _ _ ⟨F,Sz H hx hn hS'⟩
theorem cDx {P:Program} {c:Ctx} {ops:Array Oper} {Q:Exit→Act→World→Prop} {rest:List Oper} {sL hP:List (Nat×Ent)} {o:Oper} {ι:Type} {p:ι→PV} (d:Nat) (hC:J6 P c (⟨sL,hP⟩:St) o (fun q=>∃i,q=p i)) (k:∀i v,vOf (p i) v→aL P c ops Q rest ⟨put d (v,p i) sL,hP⟩) (hsh:∀i,shD (p i)=true) (hw:ZV ops sL o=some true:=by exact rfl) (hd:o.dst=some d:=by exact rfl) (hn:d<c.nt:=by exact Xa rfl):aL P c ops Q (o::rest) (⟨sL,hP⟩:St):=
 J8 hw hC fun a w F w' v p' Fr H hR hx hT hlo hdw=>by
  obtain ⟨i,rfl⟩:=hR;have hS:=hT.shD (hsh i);rw [hd];exact k i v hS.vOf _ _ ⟨F,Sz H hx hn (hS.anti fun b _ h=> .inl h)⟩
section
variable {P:Program} {c:Ctx} {sL hP:List (Nat×Ent)}
end
theorem ZkM {P:Program} {c:Ctx} {ops:Array Oper} {Q:Exit→Act→World→Prop} {rest:List Oper} {sL hP:List (Nat×Ent)} {o:Oper} {p1 p2 p3:PV} (d:Nat) (hC:J6 P c (⟨sL,hP⟩:St) o (· = .tup [p1,p2,p3])) (k:∀v1 v2 v3,vOf p1 v1→vOf p2 v2→vOf p3 v3→aL P c ops Q rest ⟨put d (.tuple [v1,v2,v3].toArray, .tup [p1,p2,p3]) sL,hP⟩) (hsh:shD (.tup [p1,p2,p3])=true:=by exact rfl) (hw:ZV ops sL o=some true:=by exact rfl) (hd:o.dst=some d:=by exact rfl) (hn:d<c.nt:=by exact Xa rfl):aL P c ops Q (o::rest) (⟨sL,hP⟩:St):=
 J8 hw hC fun a w F w' v p' Fr H hR hx hT hlo hdw=>by
  subst hR;have hS:=hT.shD hsh;rw [hd];have hS':Shr (mof c hP F) w' v (.tup [p1,p2,p3]):=hS.anti fun b _ h=> .inl h
  cases hS with
  | tup vs ps hl h=>
    match vs,hl,h,hS' with
    |[v1,v2,v3],_,h,hS'=>exact k v1 v2 v3 (h 0 v1 _ rfl rfl).vOf (h 1 v2 _ rfl rfl).vOf (h 2 v3 _ rfl rfl).vOf _ _ ⟨F,Sz H hx hn hS'⟩
open Go.RowKit Go.Cb Go.Proofs Go.Sort
section
variable {P:Program} {c:Ctx} {ops:Array Oper} {Q:Exit→Act→World→Prop} {rest:List Oper} {sL hP:List (Nat×Ent)} {o:Oper}
end
section
variable {P:Program} {sL hP:List (Nat×Ent)} {o:Oper}
end
section
variable {P:Program} {st:St} {o:Oper} {x y:Operand} {t t':TypeId} {q q':PV}
theorem KH {a b c:Int} (ho:o.op= .binOp .add t x y t':=by exact rfl) (hx:ev st.slots x=some (.int .i64 a,q):=by exact rfl) (hy:ev st.slots y=some (.int .i64 b,q'):=by exact rfl) (hc:a+b=c:=by omega) (h1: -9223372036854775808≤c:=by omega) (h2:c≤9223372036854775807:=by omega):YE P st o (· = .int .i64 c) (.val (.int .i64 c)):=by
 subst hc;exact ZiX ho hx hy h1 h2
theorem WK {a b c:Int} (ho:o.op= .binOp .sub t x y t':=by exact rfl) (hx:ev st.slots x=some (.int .i64 a,q):=by exact rfl) (hy:ev st.slots y=some (.int .i64 b,q'):=by exact rfl) (hc:a-b=c:=by omega) (h1: -9223372036854775808≤c:=by omega) (h2:c≤9223372036854775807:=by omega):YE P st o (· = .int .i64 c) (.val (.int .i64 c)):=by
 subst hc;exact ZiY ho hx hy h1 h2
theorem ER {a b c:Int} (ho:o.op= .binOp .mul t x y t':=by exact rfl) (hx:ev st.slots x=some (.int .i64 a,q):=by exact rfl) (hy:ev st.slots y=some (.int .i64 b,q'):=by exact rfl) (hc:a*b=c:=by omega) (h1: -9223372036854775808≤c:=by omega) (h2:c≤9223372036854775807:=by omega):YE P st o (· = .int .i64 c) (.val (.int .i64 c)):=by
 subst hc;exact Zkp ho hx hy h1 h2
theorem ES {a c:Int} (ho:o.op= .move x:=by exact rfl) (hx:ev st.slots x=some (.int .i64 a,q):=by exact rfl) (hc:a=c:=by omega):YE P st o (· = .int .i64 c) (.val (.int .i64 c)):=by
 subst hc;exact y1 hx (fun _ _ _=> .val _) fun ρ w h=>by simp [execOp,ho,h]
theorem Zb7 {a:Nat} {s d:TypeId} {ds:TypeDesc} (hs:P.underlying s=some ds) (hd:P.underlying d=some (.int .u64)) (ha:a≤9223372036854775807) (ho:o.op= .convert s d x:=by exact rfl) (hx:ev st.slots x=some (.int .i64 (a:Int),q):=by exact rfl):YE P st o (· = .int .u64 (a:Int)) (.val (.int .u64 (a:Int))):=
 Ze5 hs hd ho hx (IntWalk.u64_in _ oM)
theorem Zb8 {a:Nat} {s d:TypeId} {ds:TypeDesc} (hs:P.underlying s=some ds) (hd:P.underlying d=some (.int .i64)) (ha:a≤9223372036854775807) (ho:o.op= .convert s d x:=by exact rfl) (hx:ev st.slots x=some (.int .u64 (a:Int),q):=by exact rfl):YE P st o (· = .int .i64 (a:Int)) (.val (.int .i64 (a:Int))):=
 Ze5 hs hd ho hx (IntWalk.i64_in _ oM)
theorem Oj {a:Nat} {b:Int} {kb:IntKind} (hb:b=1) (ho:o.op= .binOp .shr t x y t':=by exact rfl) (hx:ev st.slots x=some (.int .u64 (a:Int),q):=by exact rfl) (hy:ev st.slots y=some (.int kb b,q'):=by exact rfl):YE P st o (· = .int .u64 ((a / 2:Nat):Int)) (.val (.int .u64 ((a / 2:Nat):Int))):=
 y2 hx hy fun ρ w h3 h4=>by
  subst hb;have e:(a:Int).fdiv 2=((a / 2:Nat):Int):=by
   rw [Int.fdiv_eq_ediv_of_nonneg _ dC];rfl
  simp [execOp,ho,h3,h4,eqGuard,binOp,Op.shift];exact e
end
end Go.En
namespace Go.Proofs.YtmkojdfiadbeeaaGreat
open Go.RowKit Go.Cb Go.En Tryz
set_option linter.all false
set_option maxRecDepth 100000
theorem ZC:AggT prog 51 3=true:=by kernel_rfl
theorem ZR:SlT prog 49 51 3=true:=by kernel_rfl
theorem Da (l:List Nd):(Z6 l).length=l.length*3:=by rw [Y3];exact Yr Tb l
theorem Zb9:∀(ps:List PV) (a b c:List PV) (j:Nat),a.length=j→b.length=ps.length→J3 (a++b++c) j ps=a++ps++c
 | [],a,b,c,j,ha,hb=>by
   have:b=[]:=Xw hb;subst this;rfl
 | p ::ps,a,x::b,c,j,ha,hb=>by
   rw [J3];have h1:(a++(x::b)++c).set j p=(a++[p])++b++c:=by
    subst ha;rw [XM,Vk _ _ (Xc _),X6];simp
   rw [h1,Zb9 ps (a++[p]) b c (j+1) (by simp [ha]) (by simpa using hb)];simp
theorem ET (L:List Nd) (k:Nat) (x:Nd) (h:k<L.length):J3 (Z6 L) (k*3) (cN x)=Z6 (L.set k x):=by
 rw [Y3,Y3]
 have e:L=L.take k++[L[k]]++L.drop (k+1):=by
  rw [XM,List.singleton_append,List.getElem_cons_drop,VH]
 have e2:L.set k x=L.take k++[x]++L.drop (k+1):=by
  rw [List.set_eq_take_append_cons_drop,UB h,XM];rfl
 rw [e2]
 conv=>lhs;rw [e]
 simp only [Va,Un]
 exact Zb9 (cN x) _ _ _ _ (by rw [Yr Tb,XF,X' (Nat.le_of_lt h)]) rfl
theorem T6 {L:List Nd} {i j:Nat} {x y:Nd} (hx:L[i]? =some x) (hy:L[j]? =some y):J3 (J3 (Z6 L) (i*3) (cN y)) (j*3) (cN x)=Z6 (swp L i j):=by
 rw [ET L i y (Zj hx),ET _ j x (by rw [Xh];exact Zj hy),ZfO hx hy]
def Y8 (hv:Value) (l:List Nd):List (Nat×Ent):=[(1000,hv, .own 51 3 l.length (Z6 l))]
theorem Db (l:List Nd) (hl:l.length≤1000000) (a b n:Nat) (h1:a+n≤b) (h2:b+n≤l.length) (hv:Value) (fv:Value) (f:Nat):AFh False prog 290 [(0,hv, .val hv),(1, .int .i64 (a:Int),Zf a),(2, .int .i64 (b:Int),Zf b),(3, .int .i64 (n:Int),Zf n),(4,fv, .fn f [])] (Y8 hv l) (fun v q h=>∃l',(∀k,l'[k]? =l[srI a b n k]?)∧Sw a (b+n) l l'∧h=Y8 hv l'):=by
 unfold Y8
 refine AFh.of_body 38 func290 rfl ntmps290 (Xa rfl) rfl ?_
 intro w0 M0 N0
 refine Zd ?_
 (refine xL 10 Zb ?_<;>refine Zc ?_)
 refine Zy (ι:={q:Nat×List Nd//q.1≤n∧(∀k,q.2[k]? =l[srI a b q.1 k]?)∧Sw a (b+n) l q.2}) (fun k=>⟨[(0,_,_),(1,_,_),(2,_,_),(3,_,_),(10, .int .i64 k.1.1,Zf k.1.1)],[(1000,hv, .own 51 3 l.length (Z6 k.1.2))]⟩) (fun k=>n-k.1.1) ⟨(0,l),Xn _,fun k=>by rw [ZhW], .refl _⟩ (fun a w H=>H.weaken ⟨rfl,rfl,rfl,rfl,rfl,trivial⟩ ⟨rfl,trivial⟩) ?_
 rintro ⟨⟨i,L⟩,hi,hL,hS⟩
 dsimp only
 dsimp only at hi hL hS;have hLl:=hS.len
 refine Zd ?_
 (refine xL 11 Za (xL 12 Za (xL 13 ZI ?_))<;>refine Zc ?_)
 refine cX ?_ ?_<;>intro hb13
 · first|exact bN hb13|(
 have hin:i<n:=oM;obtain ⟨x,hx⟩:=Zm (show a+i<L.length by omega);obtain ⟨y,hy⟩:=Zm (show b+i<L.length by omega);have e1:=Z9 hx;have e2:=Yu hx;have e3:=Z9 hy;have e4:=Yu hy;have hsw:=T6 hx hy;have e5:(J3 (Z6 L) ((a+i)*3) (cN y)).length=(Z6 L).length:=Lp _ _ _;refine nav ?_;(refine ZM (fun i=>([]:List Nat).elem i) [] kR ?_<;>refine xD 0 16 rfl Za ?_<;>refine xD 1 17 rfl Za ?_<;>refine xD 2 18 rfl Za ?_<;>refine xD 3 19 rfl ((KH (c:=((a+i:Nat):Int)))) ?_<;>refine xD 4 20 rfl Za ?_<;>refine xD 5 21 rfl Za ?_<;>refine xD 6 22 rfl Za ?_<;>refine xD 7 23 rfl ((KH (c:=((b+i:Nat):Int)))) ?_<;>refine xD 8 24 rfl Za ?_<;>refine xD 9 25 rfl Za ?_<;>refine xD 10 26 rfl Za ?_<;>refine xD 11 27 rfl ((KH (c:=((b+i:Nat):Int)))) ?_<;>refine xD 14 30 rfl Za ?_<;>refine xD 15 31 rfl Za ?_<;>refine xD 16 32 rfl Za ?_<;>refine xD 17 33 rfl ((KH (c:=((a+i:Nat):Int)))) ?_<;>(refine YU 12 18 kR ?_ ?_;rotate_right;(focus ((refine Zg rfl fun w9 M9 N9 DQ back=>?_)<;>refine xL 34 (Zq 1000 ZR) ?_<;>refine Ze (back _ (nrm ?_))<;>(refine YU 12 19 kR ?_ ?_;rotate_right;(focus ((refine Zg rfl fun w9 M9 N9 DQ back=>?_)<;>(refine yL 35 (Zu 1000 ZC) fun v35 h=>?_;cases h)<;>refine Ze (back _ (nrm ?_))<;>(refine Zk 12 kR ?_)<;>(refine Zg rfl fun w9 M9 N9 DQ back=>?_)<;>refine xL 28 (Zq 1000 ZR) ?_<;>refine Ze (back _ (nrm ?_))<;>(refine Zk 13 kR ?_)<;>(refine Zg rfl fun w9 M9 N9 DQ back=>?_)<;>(refine yL 29 (Zu 1000 ZC) fun v29 h=>?_;cases h)<;>refine Ze (back _ (nrm ?_))<;>refine xE 20 36 rfl (Zq 1000 ZR) ?_<;>(refine Zk 21 kR ?_)<;>(refine Zg rfl fun w9 M9 N9 DQ back=>?_)<;>refine Zw 1000 ZC ?_<;>refine Ze (back _ (nrm ?_))<;>refine xE 22 37 rfl (Zq 1000 ZR) ?_<;>(refine Zk 23 kR ?_)<;>(refine Zg rfl fun w9 M9 N9 DQ back=>?_)<;>refine Zw 1000 ZC ?_<;>refine Ze (back _ (nrm ?_))));rotate_right;(focus ((refine Zg rfl fun w9 M9 N9 DQ back=>?_)<;>refine xL 28 (Zq 1000 ZR) ?_<;>refine Ze (back _ (nrm ?_))<;>(refine YU 13 19 kR ?_ ?_;rotate_right;(focus ((refine Zg rfl fun w9 M9 N9 DQ back=>?_)<;>(refine yL 35 (Zu 1000 ZC) fun v35 h=>?_;cases h)<;>refine Ze (back _ (nrm ?_))<;>(refine Zk 13 kR ?_)<;>(refine Zg rfl fun w9 M9 N9 DQ back=>?_)<;>(refine yL 29 (Zu 1000 ZC) fun v29 h=>?_;cases h)<;>refine Ze (back _ (nrm ?_))<;>refine xE 20 36 rfl (Zq 1000 ZR) ?_<;>(refine Zk 21 kR ?_)<;>(refine Zg rfl fun w9 M9 N9 DQ back=>?_)<;>refine Zw 1000 ZC ?_<;>refine Ze (back _ (nrm ?_))<;>refine xE 22 37 rfl (Zq 1000 ZR) ?_<;>(refine Zk 23 kR ?_)<;>(refine Zg rfl fun w9 M9 N9 DQ back=>?_)<;>refine Zw 1000 ZC ?_<;>refine Ze (back _ (nrm ?_))));rotate_right;(focus ((refine Zg rfl fun w9 M9 N9 DQ back=>?_)<;>(refine yL 29 (Zu 1000 ZC) fun v29 h=>?_;cases h)<;>refine Ze (back _ (nrm ?_))<;>(refine Zk 19 kR ?_)<;>(refine Zg rfl fun w9 M9 N9 DQ back=>?_)<;>(refine yL 35 (Zu 1000 ZC) fun v35 h=>?_;cases h)<;>refine Ze (back _ (nrm ?_))<;>refine xE 20 36 rfl (Zq 1000 ZR) ?_<;>(refine Zk 21 kR ?_)<;>(refine Zg rfl fun w9 M9 N9 DQ back=>?_)<;>refine Zw 1000 ZC ?_<;>refine Ze (back _ (nrm ?_))<;>refine xE 22 37 rfl (Zq 1000 ZR) ?_<;>(refine Zk 23 kR ?_)<;>(refine Zg rfl fun w9 M9 N9 DQ back=>?_)<;>refine Zw 1000 ZC ?_<;>refine Ze (back _ (nrm ?_))))))))));rotate_right;(focus ((refine Zg rfl fun w9 M9 N9 DQ back=>?_)<;>refine xL 28 (Zq 1000 ZR) ?_<;>refine Ze (back _ (nrm ?_))<;>(refine YU 13 18 kR ?_ ?_;rotate_right;(focus ((refine Zg rfl fun w9 M9 N9 DQ back=>?_)<;>refine xL 34 (Zq 1000 ZR) ?_<;>refine Ze (back _ (nrm ?_))<;>(refine YU 13 19 kR ?_ ?_;rotate_right;(focus ((refine Zg rfl fun w9 M9 N9 DQ back=>?_)<;>(refine yL 35 (Zu 1000 ZC) fun v35 h=>?_;cases h)<;>refine Ze (back _ (nrm ?_))<;>(refine Zk 13 kR ?_)<;>(refine Zg rfl fun w9 M9 N9 DQ back=>?_)<;>(refine yL 29 (Zu 1000 ZC) fun v29 h=>?_;cases h)<;>refine Ze (back _ (nrm ?_))<;>refine xE 20 36 rfl (Zq 1000 ZR) ?_<;>(refine Zk 21 kR ?_)<;>(refine Zg rfl fun w9 M9 N9 DQ back=>?_)<;>refine Zw 1000 ZC ?_<;>refine Ze (back _ (nrm ?_))<;>refine xE 22 37 rfl (Zq 1000 ZR) ?_<;>(refine Zk 23 kR ?_)<;>(refine Zg rfl fun w9 M9 N9 DQ back=>?_)<;>refine Zw 1000 ZC ?_<;>refine Ze (back _ (nrm ?_))));rotate_right;(focus ((refine Zg rfl fun w9 M9 N9 DQ back=>?_)<;>(refine yL 29 (Zu 1000 ZC) fun v29 h=>?_;cases h)<;>refine Ze (back _ (nrm ?_))<;>(refine Zk 19 kR ?_)<;>(refine Zg rfl fun w9 M9 N9 DQ back=>?_)<;>(refine yL 35 (Zu 1000 ZC) fun v35 h=>?_;cases h)<;>refine Ze (back _ (nrm ?_))<;>refine xE 20 36 rfl (Zq 1000 ZR) ?_<;>(refine Zk 21 kR ?_)<;>(refine Zg rfl fun w9 M9 N9 DQ back=>?_)<;>refine Zw 1000 ZC ?_<;>refine Ze (back _ (nrm ?_))<;>refine xE 22 37 rfl (Zq 1000 ZR) ?_<;>(refine Zk 23 kR ?_)<;>(refine Zg rfl fun w9 M9 N9 DQ back=>?_)<;>refine Zw 1000 ZC ?_<;>refine Ze (back _ (nrm ?_)))))));rotate_right;(focus ((refine Zg rfl fun w9 M9 N9 DQ back=>?_)<;>(refine yL 29 (Zu 1000 ZC) fun v29 h=>?_;cases h)<;>refine Ze (back _ (nrm ?_))<;>(refine Zk 18 kR ?_)<;>(refine Zg rfl fun w9 M9 N9 DQ back=>?_)<;>refine xL 34 (Zq 1000 ZR) ?_<;>refine Ze (back _ (nrm ?_))<;>(refine Zk 19 kR ?_)<;>(refine Zg rfl fun w9 M9 N9 DQ back=>?_)<;>(refine yL 35 (Zu 1000 ZC) fun v35 h=>?_;cases h)<;>refine Ze (back _ (nrm ?_))<;>refine xE 20 36 rfl (Zq 1000 ZR) ?_<;>(refine Zk 21 kR ?_)<;>(refine Zg rfl fun w9 M9 N9 DQ back=>?_)<;>refine Zw 1000 ZC ?_<;>refine Ze (back _ (nrm ?_))<;>refine xE 22 37 rfl (Zq 1000 ZR) ?_<;>(refine Zk 23 kR ?_)<;>(refine Zg rfl fun w9 M9 N9 DQ back=>?_)<;>refine Zw 1000 ZC ?_<;>refine Ze (back _ (nrm ?_))))))))<;>refine Ym kR (nav ?_)<;>try dsimp only)<;>(
 (refine Zo ?_<;>refine xL 14 Za (xL 15 ZH (xL 10 Zb ?_))<;>refine Zc ?_)
 rw [hsw];refine Zh (
  ⟨(i+1,swp L (a+i) (b+i)),hin,ZhV hin h1 oM hL, .step _ _ hS oM oM oM oM h2⟩
  ) (by dsimp only;omega) ⟨rfl,rfl,rfl,rfl,rfl,trivial⟩ ⟨rfl,trivial⟩))
 · first|exact bN hb13|(
 refine nav ?_;have hin:i=n:=oM;subst hin;refine Tc [(1000,hv, .own 51 3 l.length (Z6 L))] (results290) ⟨rfl,trivial⟩ ⟨L,hL,hS,?_⟩;rw [hLl])
theorem ZdE (l :List Nd) (hl:l.length≤1000000) (a m b:Nat) (h1:a<m) (h2:m<b) (h3:b≤l.length) (hv:Value) (fv:Value) (f:Nat):AFh False prog 288 [(0,hv, .val hv),(1, .int .i64 (a:Int),Zf a),(2, .int .i64 (m:Int),Zf m),(3, .int .i64 (b:Int),Zf b),(4,fv, .fn f [])] (Y8 hv l) (fun v q h=>∃l',(∀k,l'[k]? =l[Td a m b k]?)∧Sw a b l l'∧h=Y8 hv l'):=by
 unfold Y8
 refine AFh.of_body 58 func288 rfl ntmps288 (Xa rfl) rfl ?_
 intro w0 M0 N0
 refine Zd ?_
 (refine xL 12 Za (xL 13 Za ?_)<;>refine xL 14 ((WK (c:=((m-a:Nat):Int)))) ?_<;>refine xL 10 Zb ?_<;>refine Zi ?_)
 (refine xL 15 Za (xL 16 Za ?_)<;>refine xL 17 ((WK (c:=((b-m:Nat):Int)))) ?_<;>refine xL 11 Zb ?_<;>refine Zc ?_)
 refine Zy (ι:={q:Nat×Nat×List Nd//0<q.1∧0<q.2.1∧q.1≤m-a∧q.2.1≤b-m∧(∀k,q.2.2[Td (m-q.1) m (m+q.2.1) k]? =l[Td a m b k]?)∧Sw a b l q.2.2}) (fun k=>⟨[(0,_,_),(1,_,_),(2,_,_),(3,_,_),(4,_,_),(10, .int .i64 k.1.1,Zf k.1.1),(11, .int .i64 k.1.2.1,Zf k.1.2.1)],[(1000,hv, .own 51 3 l.length (Z6 k.1.2.2))]⟩) (fun k=>k.1.1+k.1.2.1) ⟨(m-a,b-m,l),by dsimp only;omega,by dsimp only;omega,Xc _,Xc _,fun k=>by dsimp only;rw [show m-(m-a)=a by omega,show m+(b-m)=b by omega], .refl _⟩ (fun a w H=>H.weaken ⟨rfl,rfl,rfl,rfl,rfl,rfl,rfl,trivial⟩ ⟨rfl,trivial⟩) ?_
 rintro ⟨⟨i,j,L⟩,hi0,hj0,hi,hj,hL,hS⟩
 dsimp only
 dsimp only at hi0 hj0 hi hj hL hS;have hLl:=hS.len
 refine Zd ?_
 (refine xL 18 Za (xL 19 Za (xL 20 Wg ?_))<;>refine Zc ?_)
 refine cX ?_ ?_<;>intro hb20
 · first | exact bN hb20|(
 refine Zd ?_;(refine xL 21 Za (xL 22 Za (xL 23 YV ?_))<;>refine Zc ?_)
 refine cX ?_ ?_<;>intro hb23
 · first | exact bN hb23|(
 refine Zd ?_;(refine xL 24 Za (xL 25 Za (xL 26 Za ?_))<;>refine xL 27 ((WK (c:=((m-i:Nat):Int)))) ?_<;>refine xL 28 Za (xL 29 Za (xL 30 Za ?_))<;>(refine KP (Y8 hv L) ⟨by rw [←hLl];rfl,trivial⟩ ?_;refine LD [] 31 (call290) (Db L oM (m-i) m j oM oM hv fv f) (fun v31 p31 h31 hR31=>?_);obtain ⟨L2,hL2,hS2,rfl⟩:=hR31;have hL2l:=hS2.len.trans hLl;dsimp only [Y8];rw [hL2l])<;>refine Zi ?_)
 (refine xL 32 Za (xL 33 Za ?_)<;>refine xL 34 ((WK (c:=((i-j:Nat):Int)))) ?_<;>refine xL 10 Zb ?_<;>refine Zc ?_)
 first
  | (exact Zh (
      ⟨(i-j,j,L2),by dsimp only;omega,hj0,by dsimp only;omega,hj,fun k=>by
        dsimp only;rw [hL2,show m-(i-j)=m-i+j by omega,ZfU oM oM];exact hL k,hS.trans (hS2.mono oM oM oM)⟩
      ) (by dsimp only;omega) ⟨rfl,rfl,rfl,rfl,rfl,rfl,rfl,trivial⟩ ⟨rfl,trivial⟩)
  | (exact Zh (
      ⟨(i,j-i,L2),hi0,by dsimp only;omega,hi,by dsimp only;omega,fun k=>by
        dsimp only;rw [hL2,show m+(j-i)=m+j-i by omega,ZfV oM oM];exact hL k,hS.trans (hS2.mono oM oM oM)⟩
      ) (by dsimp only;omega) ⟨rfl,rfl,rfl,rfl,rfl,rfl,rfl,trivial⟩ ⟨rfl,trivial⟩))
 · first | exact bN hb23|(
 refine Zd ?_;(refine xL 35 Za (xL 36 Za (xL 37 Za ?_))<;>refine xL 38 ((WK (c:=((m-i:Nat):Int)))) ?_<;>refine xL 39 Za (xL 40 Za ?_)<;>refine xL 41 ((KH (c:=((m+j:Nat):Int)))) ?_<;>refine xL 42 Za ?_<;>refine xL 43 ((WK (c:=((m+j-i:Nat):Int)))) ?_<;>refine xL 44 Za (xL 45 Za ?_)<;>(refine KP (Y8 hv L) ⟨by rw [←hLl];rfl,trivial⟩ ?_;refine LD [] 46 (call290) (Db L oM (m-i) (m+j-i) i oM oM hv fv f) (fun v46 p46 h46 hR46=>?_);obtain ⟨L2,hL2,hS2,rfl⟩:=hR46;have hL2l:=hS2.len.trans hLl;dsimp only [Y8];rw [hL2l])<;>refine Zi ?_)
 (refine xL 47 Za (xL 48 Za ?_)<;>refine xL 49 ((WK (c:=((j-i:Nat):Int)))) ?_<;>refine xL 11 Zb ?_<;>refine Zc ?_)
 first
  | (exact Zh (
      ⟨(i-j,j,L2),by dsimp only;omega,hj0,by dsimp only;omega,hj,fun k=>by
        dsimp only;rw [hL2,show m-(i-j)=m-i+j by omega,ZfU oM oM];exact hL k,hS.trans (hS2.mono oM oM oM)⟩
      ) (by dsimp only;omega) ⟨rfl,rfl,rfl,rfl,rfl,rfl,rfl,trivial⟩ ⟨rfl,trivial⟩)
  | (exact Zh (
      ⟨(i,j-i,L2),hi0,by dsimp only;omega,hi,by dsimp only;omega,fun k=>by
        dsimp only;rw [hL2,show m+(j-i)=m+j-i by omega,ZfV oM oM];exact hL k,hS.trans (hS2.mono oM oM oM)⟩
      ) (by dsimp only;omega) ⟨rfl,rfl,rfl,rfl,rfl,rfl,rfl,trivial⟩ ⟨rfl,trivial⟩)))
 · first|exact bN hb20|(
 have hij:j=i:=oM;subst hij;refine Zd ?_;(refine xL 50 Za (xL 51 Za (xL 52 Za ?_))<;>refine xL 53 ((WK (c:=((m-j:Nat):Int)))) ?_<;>refine xL 54 Za (xL 55 Za (xL 56 Za ?_))<;>(refine KP (Y8 hv L) ⟨by rw [←hLl];rfl,trivial⟩ ?_;refine LD [] 57 (call290) (Db L oM (m-j) m j oM oM hv fv f) (fun v57 p57 h57 hR57=>?_);obtain ⟨L2,hL2,hS2,rfl⟩:=hR57;have hL2l:=hS2.len.trans hLl;dsimp only [Y8])<;>refine Zc ?_)
 refine Tc (Y8 hv L2) (results288) ⟨rfl,trivial⟩ ⟨L2,fun k=>?_,hS.trans (hS2.mono oM oM oM),rfl⟩;rw [hL2,ZjD oM];exact hL k)
theorem TG {a b:Nat} {l L:List Nd} (h:Sw a b l L) {x:Nd} (hx:x∈L):x∈l:=h.perm.mem_iff.1 hx
theorem JS {x y:Nd} (h:¬Wd x y<0):leT y x:=ZbO.1 h
theorem ZfY (f:Nat) (hc:∀args w,(callFunc f args).run prog w= .ok (.enter f args) w) (l:List Nd) (hl:l.length≤1000000) (hf:∀x∈l,∀y∈l,AF prog f [pTr x,pTr y] (· =Zf (Wd x y))) (a b:Nat) (h1:a≤b) (h2:b≤l.length) (hv:Value) (fv:Value):AFh False prog 282 [(0,hv, .val hv),(1, .int .i64 (a:Int),Zf a),(2, .int .i64 (b:Int),Zf b),(3,fv, .fn f [])] (Y8 hv l) (fun v q h=>∃l',Sw a b l l'∧SrtS leT a b l'∧h=Y8 hv l'):=by
 unfold Y8
 refine AFh.of_body 53 func282 rfl ntmps282 (Xa rfl) rfl ?_
 intro w0 M0 N0
 refine Zd ?_
 (refine xL 10 Za ?_<;>refine xL 11 ((KH (c:=((a+1:Nat):Int)))) ?_<;>refine xL 8 Zb ?_<;>refine Zc ?_)
 refine Zy (ι:={q:Nat×List Nd//a+1≤q.1∧(q.1≤b∨b≤a+1)∧Sw a b l q.2∧SrtS leT a q.1 q.2}) (fun k=>⟨[(0,_,_),(1,_,_),(2,_,_),(3,_,_),(8, .int .i64 k.1.1,Zf k.1.1)],[(1000,hv, .own 51 3 l.length (Z6 k.1.2))]⟩) (fun k=>b-k.1.1) ⟨(a+1,l),Xc _,by dsimp only;omega, .refl _, .small leT _ (Xc _)⟩ (fun a w H=>H.weaken ⟨rfl,rfl,rfl,rfl,rfl,trivial⟩ ⟨rfl,trivial⟩) ?_
 rintro ⟨⟨i,L0⟩,hi1,hi2,hS0,hO0⟩
 dsimp only
 dsimp only at hi1 hi2 hS0 hO0
 refine Zd ?_
 (refine xL 12 Za (xL 13 Za (xL 14 ZI ?_))<;>refine Zc ?_)
 refine cX ?_ ?_<;>intro hb14
 · first | exact bN hb14|(
 refine Zd ?_;(refine xL 17 Za (xL 9 Zb ?_)<;>refine Zc ?_)
 refine Zy (ι:={q:Nat×List Nd//a≤q.1∧q.1≤i∧Sw a b l q.2∧ZfQ leT a i q.1 q.2}) (fun k=>⟨[(0,_,_),(1,_,_),(2,_,_),(3,_,_),(8,_,_),(9, .int .i64 k.1.1,Zf k.1.1)],[(1000,hv, .own 51 3 l.length (Z6 k.1.2))]⟩) (fun k=>k.1.1) ⟨(i,L0),by dsimp only;omega,Xc _,hS0,Zdz leT hO0⟩ (fun a w H=>H.weaken ⟨rfl,rfl,rfl,rfl,rfl,rfl,trivial⟩ ⟨rfl,trivial⟩) ?_;rintro ⟨⟨j,L⟩,hj1,hj2,hS,hI⟩;dsimp only;dsimp only at hj1 hj2 hS hI;have hLl:=hS.len;refine nav ?_;(refine ZM (fun i=>([]:List Nat).elem i) [1000] kR ?_<;>refine xD 0 18 rfl Za ?_<;>refine xE 1 19 rfl Za ?_<;>refine xE 2 20 rfl YV ?_<;>refine xE 3 21 rfl Za ?_<;>(refine bDd 21 (fun hb21=>?_) (fun hb21=>?_)<;>(first|refine kD 4 22 rfl ?_|refine xD 4 22 rfl Za ?_))<;>(first|refine kD 5 23 rfl ?_|(obtain ⟨k,rfl⟩:∃k,j=k+1:=⟨j-1,oM⟩;obtain ⟨x,hx⟩:=Zm (show k+1<L.length by omega);obtain ⟨y,hy⟩:=Zm (show k<L.length by omega);have e1:=Z9 hx;have e2:=Yu hx;have e3:=Z9 hy;have e4:=Yu hy;have hsw:=T6 hx hy;have e5:(J3 (Z6 L) ((k+1)*3) (cN y)).length=(Z6 L).length:=Lp _ _ _;refine xD 5 23 rfl Za ?_))<;>(first|refine kD 6 24 rfl ?_|refine xD 6 24 rfl Za ?_)<;>(first|refine kD 7 25 rfl ?_|refine xD 7 25 rfl (Zq 1000 ZR) ?_)<;>(first|refine kD 8 26 rfl ?_|(refine yD 8 26 rfl (Zu 1000 ZC) fun v26 h=>?_;cases h))<;>(first|refine kD 9 27 rfl ?_|refine xD 9 27 rfl Za ?_)<;>(first|refine kD 10 28 rfl ?_|refine xD 10 28 rfl Za ?_)<;>(first|refine kD 11 29 rfl ?_|refine xD 11 29 rfl ((WK (c:=((k:Nat):Int)))) ?_)<;>(first|refine kD 12 30 rfl ?_|refine xD 12 30 rfl (Zq 1000 ZR) ?_)<;>(first|refine kD 13 31 rfl ?_|(refine yD 13 31 rfl (Zu 1000 ZC) fun v31 h=>?_;cases h))<;>(refine Zk 14 kR ?_)<;>(first|(refine YH (d:=32) rfl (J7 (f:=f) (ps:=[]) rfl ⟨_,rfl⟩ hc rfl (hf x (TG hS (Xb hx)) y (TG hS (Xb hy)))) fun v32 h=>?_;cases h)|(refine Zg rfl fun w9 M9 N9 DQ back=>?_;refine kL 32 ?_;refine Ze (back _ (nrm ?_))))<;>(first|refine kD 15 33 rfl ?_|refine xD 15 33 rfl ZI ?_)<;>refine xE 16 34 rfl Zt ?_<;>refine Ym kR (nav ?_)<;>try dsimp only)<;>(
 refine cX ?_ ?_<;>intro hb34
 · first|exact bN hb34|(
 refine nav ?_;(refine ZM (fun i=>([]:List Nat).elem i) [] kR ?_<;>refine xD 0 37 rfl Za ?_<;>refine xD 1 38 rfl Za ?_<;>refine xD 2 39 rfl Za ?_<;>refine xD 3 40 rfl Za ?_<;>refine xD 4 41 rfl ((WK (c:=((k:Nat):Int)))) ?_<;>refine xD 5 42 rfl Za ?_<;>refine xD 6 43 rfl Za ?_<;>refine xD 7 44 rfl ((WK (c:=((k:Nat):Int)))) ?_<;>refine xD 10 47 rfl Za ?_<;>refine xD 11 48 rfl Za ?_<;>(refine YU 8 12 kR ?_ ?_;rotate_right;(focus ((refine Zg rfl fun w9 M9 N9 DQ back=>?_)<;>refine xL 49 (Zq 1000 ZR) ?_<;>refine Ze (back _ (nrm ?_))<;>(refine YU 8 13 kR ?_ ?_;rotate_right;(focus ((refine Zg rfl fun w9 M9 N9 DQ back=>?_)<;>(refine yL 50 (Zu 1000 ZC) fun v50 h=>?_;cases h)<;>refine Ze (back _ (nrm ?_))<;>(refine Zk 8 kR ?_)<;>(refine Zg rfl fun w9 M9 N9 DQ back=>?_)<;>refine xL 45 (Zq 1000 ZR) ?_<;>refine Ze (back _ (nrm ?_))<;>(refine Zk 9 kR ?_)<;>(refine Zg rfl fun w9 M9 N9 DQ back=>?_)<;>(refine yL 46 (Zu 1000 ZC) fun v46 h=>?_;cases h)<;>refine Ze (back _ (nrm ?_))<;>refine xE 14 51 rfl (Zq 1000 ZR) ?_<;>(refine Zk 15 kR ?_)<;>(refine Zg rfl fun w9 M9 N9 DQ back=>?_)<;>refine Zw 1000 ZC ?_<;>refine Ze (back _ (nrm ?_))<;>refine xE 16 52 rfl (Zq 1000 ZR) ?_<;>(refine Zk 17 kR ?_)<;>(refine Zg rfl fun w9 M9 N9 DQ back=>?_)<;>refine Zw 1000 ZC ?_<;>refine Ze (back _ (nrm ?_))));rotate_right;(focus ((refine Zg rfl fun w9 M9 N9 DQ back=>?_)<;>refine xL 45 (Zq 1000 ZR) ?_<;>refine Ze (back _ (nrm ?_))<;>(refine YU 9 13 kR ?_ ?_;rotate_right;(focus ((refine Zg rfl fun w9 M9 N9 DQ back=>?_)<;>(refine yL 50 (Zu 1000 ZC) fun v50 h=>?_;cases h)<;>refine Ze (back _ (nrm ?_))<;>(refine Zk 9 kR ?_)<;>(refine Zg rfl fun w9 M9 N9 DQ back=>?_)<;>(refine yL 46 (Zu 1000 ZC) fun v46 h=>?_;cases h)<;>refine Ze (back _ (nrm ?_))<;>refine xE 14 51 rfl (Zq 1000 ZR) ?_<;>(refine Zk 15 kR ?_)<;>(refine Zg rfl fun w9 M9 N9 DQ back=>?_)<;>refine Zw 1000 ZC ?_<;>refine Ze (back _ (nrm ?_))<;>refine xE 16 52 rfl (Zq 1000 ZR) ?_<;>(refine Zk 17 kR ?_)<;>(refine Zg rfl fun w9 M9 N9 DQ back=>?_)<;>refine Zw 1000 ZC ?_<;>refine Ze (back _ (nrm ?_))));rotate_right;(focus ((refine Zg rfl fun w9 M9 N9 DQ back=>?_)<;>(refine yL 46 (Zu 1000 ZC) fun v46 h=>?_;cases h)<;>refine Ze (back _ (nrm ?_))<;>(refine Zk 13 kR ?_)<;>(refine Zg rfl fun w9 M9 N9 DQ back=>?_)<;>(refine yL 50 (Zu 1000 ZC) fun v50 h=>?_;cases h)<;>refine Ze (back _ (nrm ?_))<;>refine xE 14 51 rfl (Zq 1000 ZR) ?_<;>(refine Zk 15 kR ?_)<;>(refine Zg rfl fun w9 M9 N9 DQ back=>?_)<;>refine Zw 1000 ZC ?_<;>refine Ze (back _ (nrm ?_))<;>refine xE 16 52 rfl (Zq 1000 ZR) ?_<;>(refine Zk 17 kR ?_)<;>(refine Zg rfl fun w9 M9 N9 DQ back=>?_)<;>refine Zw 1000 ZC ?_<;>refine Ze (back _ (nrm ?_))))))))));rotate_right;(focus ((refine Zg rfl fun w9 M9 N9 DQ back=>?_)<;>refine xL 45 (Zq 1000 ZR) ?_<;>refine Ze (back _ (nrm ?_))<;>(refine YU 9 12 kR ?_ ?_;rotate_right;(focus ((refine Zg rfl fun w9 M9 N9 DQ back=>?_)<;>refine xL 49 (Zq 1000 ZR) ?_<;>refine Ze (back _ (nrm ?_))<;>(refine YU 9 13 kR ?_ ?_;rotate_right;(focus ((refine Zg rfl fun w9 M9 N9 DQ back=>?_)<;>(refine yL 50 (Zu 1000 ZC) fun v50 h=>?_;cases h)<;>refine Ze (back _ (nrm ?_))<;>(refine Zk 9 kR ?_)<;>(refine Zg rfl fun w9 M9 N9 DQ back=>?_)<;>(refine yL 46 (Zu 1000 ZC) fun v46 h=>?_;cases h)<;>refine Ze (back _ (nrm ?_))<;>refine xE 14 51 rfl (Zq 1000 ZR) ?_<;>(refine Zk 15 kR ?_)<;>(refine Zg rfl fun w9 M9 N9 DQ back=>?_)<;>refine Zw 1000 ZC ?_<;>refine Ze (back _ (nrm ?_))<;>refine xE 16 52 rfl (Zq 1000 ZR) ?_<;>(refine Zk 17 kR ?_)<;>(refine Zg rfl fun w9 M9 N9 DQ back=>?_)<;>refine Zw 1000 ZC ?_<;>refine Ze (back _ (nrm ?_))));rotate_right;(focus ((refine Zg rfl fun w9 M9 N9 DQ back=>?_)<;>(refine yL 46 (Zu 1000 ZC) fun v46 h=>?_;cases h)<;>refine Ze (back _ (nrm ?_))<;>(refine Zk 13 kR ?_)<;>(refine Zg rfl fun w9 M9 N9 DQ back=>?_)<;>(refine yL 50 (Zu 1000 ZC) fun v50 h=>?_;cases h)<;>refine Ze (back _ (nrm ?_))<;>refine xE 14 51 rfl (Zq 1000 ZR) ?_<;>(refine Zk 15 kR ?_)<;>(refine Zg rfl fun w9 M9 N9 DQ back=>?_)<;>refine Zw 1000 ZC ?_<;>refine Ze (back _ (nrm ?_))<;>refine xE 16 52 rfl (Zq 1000 ZR) ?_<;>(refine Zk 17 kR ?_)<;>(refine Zg rfl fun w9 M9 N9 DQ back=>?_)<;>refine Zw 1000 ZC ?_<;>refine Ze (back _ (nrm ?_)))))));rotate_right;(focus ((refine Zg rfl fun w9 M9 N9 DQ back=>?_)<;>(refine yL 46 (Zu 1000 ZC) fun v46 h=>?_;cases h)<;>refine Ze (back _ (nrm ?_))<;>(refine Zk 12 kR ?_)<;>(refine Zg rfl fun w9 M9 N9 DQ back=>?_)<;>refine xL 49 (Zq 1000 ZR) ?_<;>refine Ze (back _ (nrm ?_))<;>(refine Zk 13 kR ?_)<;>(refine Zg rfl fun w9 M9 N9 DQ back=>?_)<;>(refine yL 50 (Zu 1000 ZC) fun v50 h=>?_;cases h)<;>refine Ze (back _ (nrm ?_))<;>refine xE 14 51 rfl (Zq 1000 ZR) ?_<;>(refine Zk 15 kR ?_)<;>(refine Zg rfl fun w9 M9 N9 DQ back=>?_)<;>refine Zw 1000 ZC ?_<;>refine Ze (back _ (nrm ?_))<;>refine xE 16 52 rfl (Zq 1000 ZR) ?_<;>(refine Zk 17 kR ?_)<;>(refine Zg rfl fun w9 M9 N9 DQ back=>?_)<;>refine Zw 1000 ZC ?_<;>refine Ze (back _ (nrm ?_))))))))<;>refine Ym kR (nav ?_)<;>try dsimp only)<;>(
 (refine Zo ?_<;>refine xL 35 Za ?_<;>refine xL 36 ((WK (c:=((k:Nat):Int)))) ?_<;>refine xL 9 Zb ?_<;>refine Zc ?_)
 rw [hsw];refine Zh (
  ⟨(k,swp L (k+1) k),by dsimp only;omega,by dsimp only;omega, .step _ _ hS oM oM oM oM h2,ZfR leT hI oM oM oM hx hy (by unfold leT;omega)⟩
  ) (by dsimp only;omega) ⟨rfl,rfl,rfl,rfl,rfl,rfl,trivial⟩ ⟨rfl,trivial⟩))
 · first |exact bN hb34|(
 refine Zd ?_;(refine xL 15 Za (xL 16 ZH (xL 8 Zb ?_))<;>refine Zc ?_)
 first
  | (exact Zh (
      ⟨(i+1,L),by dsimp only;omega,by dsimp only;omega,hS,Zb4 leT K0 (fun _ _ _=>Ku) hI oM oM (show i<L.length by omega) (.inr ⟨k,y,x,rfl,hy,hx,JS oM⟩)⟩
      ) (by dsimp only;omega) ⟨rfl,rfl,rfl,rfl,rfl,trivial⟩ ⟨rfl,trivial⟩)
  | (exact Zh (
      ⟨(i+1,L),by dsimp only;omega,by dsimp only;omega,hS,Zb4 leT K0 (fun _ _ _=>Ku) hI oM oM (show i<L.length by omega) (.inl oM)⟩
      ) (by dsimp only;omega) ⟨rfl,rfl,rfl,rfl,rfl,trivial⟩ ⟨rfl,trivial⟩))))
 · first|exact bN hb14|(
 refine nav ?_;refine Tc [(1000,hv, .own 51 3 l.length (Z6 L0))] (results282) ⟨rfl,trivial⟩ ⟨L0,hS0,hO0.sub _ (Xc _) oM,by rw [hS0.len]⟩)
theorem Zz:AggT prog 51 3=true:=by kernel_rfl
theorem ZL:SlT prog 49 51 3=true:=by kernel_rfl
theorem Ol {a s m:Nat} {l:List Nd} (h1:a≤s) (h2:s≤m) (h:¬(a<s∧s<m)) (g1:SrtS leT a s l) (g2:SrtS leT s m l):SrtS leT a m l:=by
 rcases Xv a s with h3|h3
 · have:s=m:=oM;subst this;exact g1
 · have:s=a:=oM;subst this;exact g2
theorem ZfZ {s m e k:Nat} (h1:s≤m) (h2:m≤e) (h:¬(s<m∧m<e)):Td s m e k=k:=by
 unfold Td
 split
 · rfl
 · split<;>omega
def BsT (m b i j:Nat) (x:Nd) (l:List Nd):Prop:=m≤i∧i≤j∧j≤b∧(∀q y,m≤q→q<i→l[q]? =some y→leT y x)∧(∀q y,j≤q→q<b→l[q]? =some y→leT x y)
theorem ζa (m b:Nat) (x:Nd) (l:List Nd) (h:m≤b):BsT m b m b x l:=⟨Xc _,h,Xc _,fun q y h1 h2=>oM,fun q y h1 h2=>oM⟩
theorem Zca {m b i j c:Nat} {x y:Nd} {l:List Nd} (h:BsT m b i j x l) (hs:SrtS leT m b l) (h1:i≤c) (h2:c<j) (hy:l[c]? =some y) (hle:leT y x):BsT m b (c+1) j x l:=by
 obtain ⟨e1,e2,e3,e4,e5⟩:=h
 refine ⟨oM,oM,e3,fun q z k1 k2 hz=>?_,e5⟩
 exact Ku (hs.eqv leT K0 k1 (show q≤c by omega) oM hz hy) hle
theorem Om {m b i j c:Nat} {x y:Nd} {l:List Nd} (h:BsT m b i j x l) (hs:SrtS leT m b l) (h1:i≤c) (h2:c<j) (hy:l[c]? =some y) (hle:leT x y):BsT m b i c x l:=by
 obtain ⟨e1,e2,e3,e4,e5⟩:=h
 refine ⟨e1,oM,oM,e4,fun q z k1 k2 hz=>?_⟩
 exact Ku hle (hs.eqv leT K0 (show m≤c by omega) k1 k2 hy hz)
set_option maxHeartbeats 4000000 in
theorem Zf0 (f : Nat) (hc:∀args w,(callFunc f args).run prog w= .ok (.enter f args) w) (hv:Value) (fv:Value):∀(n:Nat) (l:List Nd) (hl:l.length≤1000000) (hf:∀x∈l,∀y∈l,AF prog f [pTr x,pTr y] (· =Zf (Wd x y))) (a m b:Nat) (hn:b-a≤n) (h1:a<m) (h2:m<b) (h3:b≤l.length) (s1:SrtS leT a m l) (s2:SrtS leT m b l),AFh False prog 283 [(0,hv, .val hv),(1, .int .i64 (a:Int),Zf a),(2, .int .i64 (m:Int),Zf m),(3, .int .i64 (b:Int),Zf b),(4,fv, .fn f [])] (Y8 hv l) (fun v q h=>∃l',Sw a b l l'∧SrtS leT a b l'∧h=Y8 hv l'):=fun n=>by
 induction n with
 |zero=>intro l hl hf a m b hn h1 h2;omega
 |succ n ih=>?_
 intro l hl hf a m b hn h1 h2 h3 s1 s2
 unfold Y8
 obtain ⟨xa,hxa⟩:=Zm (show a<l.length by omega)
 obtain ⟨xm,hxm⟩:=Zm (show m<l.length by omega)
 have ea:=Z9 hxa
 have ea2:=Yu hxa
 have em:=Z9 hxm
 have em2:=Yu hxm
 refine AFh.of_body 220 func283 rfl ntmps283 (Xa rfl) rfl ?_
 intro w0 M0 N0
 refine Zd ?_
 (refine xL 25 Za (xL 26 Za (xL 27 KD (xL 28 ZU ?_)))<;>refine Zc ?_)
 refine cX ?_ ?_<;>intro hb28
 · first | exact bN hb28|(
 refine Zd ?_;(refine xL 29 Za (xL 10 Zb ?_)<;>refine Zi ?_)
 (refine xL 30 Za (xL 11 Zb ?_)<;>refine Zc ?_)
 refine Zy (ι:={q:Nat×Nat//BsT m b q.1 q.2 xa l}) (fun k=>⟨[(0,_,_),(1,_,_),(2,_,_),(3,_,_),(4,_,_),(10, .int .i64 k.1.1,Zf k.1.1),(11, .int .i64 k.1.2,Zf k.1.2)],[(1000,hv, .own 51 3 l.length (Z6 l))]⟩) (fun k=>k.1.2-k.1.1) ⟨(m,b),ζa m b xa l oM⟩ (fun a w H=>H.weaken ⟨rfl,rfl,rfl,rfl,rfl,rfl,rfl,trivial⟩ ⟨rfl,trivial⟩) ?_;rintro ⟨⟨i,j⟩,hB⟩;dsimp only;dsimp only at hB;have hB1:=hB.1;have hB2:=hB.2.1;have hB3:=hB.2.2.1;refine Zd ?_;(refine xL 31 Za (xL 32 Za (xL 33 ZI ?_))<;>refine Zc ?_)
 refine cX ?_ ?_<;>intro hb33
 · first | exact bN hb33|(
 refine Zd ?_;(refine xL 34 Za (xL 35 Za ?_)<;>refine xL 36 ((KH (c:=((i+j:Nat):Int)))) ?_<;>refine xL 37 ((Zb7 (a:=i+j) rfl rfl oM)) ?_<;>refine xL 38 ((Oj (a:=i+j) rfl)) ?_<;>refine xL 39 ((Zb8 (a:=(i+j) / 2) rfl rfl oM)) ?_<;>refine xL 12 Zb ?_<;>refine Zc ?_)
 obtain ⟨y,hy⟩:=Zm (show (i+j) / 2<l.length by omega);have e3:=Z9 hy;have e4:=Yu hy;(refine ZM (fun i=>([]:List Nat).elem i) [1000] kR ?_<;>refine xD 0 40 rfl Za ?_<;>refine xD 1 41 rfl Za ?_<;>refine xD 2 42 rfl Za ?_<;>refine xD 3 43 rfl (Zq 1000 ZL) ?_<;>(refine yD 4 44 rfl (Zu 1000 Zz) fun v44 h=>?_;cases h)<;>refine xD 5 45 rfl Za ?_<;>refine xE 6 46 rfl Za ?_<;>refine xE 7 47 rfl (Zq 1000 ZL) ?_<;>(refine yE 8 48 rfl (Zu 1000 Zz) fun v48 h=>?_;cases h)<;>(refine Zk 9 kR ?_)<;>(refine YH (d:=49) rfl (J7 (f:=f) (ps:=[]) rfl ⟨_,rfl⟩ hc rfl (hf y (Xb hy) xa (Xb hxa))) fun v49 h=>?_;cases h)<;>refine xE 10 50 rfl ZI ?_<;>refine Ym kR (nav ?_)<;>try dsimp only)
 refine cX ?_ ?_<;>intro hb50
 · first |exact bN hb50|(
 refine Zd ?_;(refine xL 51 Za (xL 52 ZH (xL 10 Zb ?_))<;>refine Zc ?_)
 first
  | (exact Zh (
      ⟨((i+j) / 2+1,j),Zca hB s2 oM oM hy (by unfold leT;omega)⟩
      ) (by dsimp only;omega) ⟨rfl,rfl,rfl,rfl,rfl,rfl,rfl,trivial⟩ ⟨rfl,trivial⟩)
  | (exact Zh (
      ⟨(i,(i+j) / 2),Om hB s2 oM oM hy (JS oM)⟩
      ) (by dsimp only;omega) ⟨rfl,rfl,rfl,rfl,rfl,rfl,rfl,trivial⟩ ⟨rfl,trivial⟩))
 · first |exact bN hb50|(
 refine Zd ?_;(refine xL 53 Za (xL 11 Zb ?_)<;>refine Zc ?_)
 first
  | (exact Zh (
      ⟨((i+j) / 2+1,j),Zca hB s2 oM oM hy (by unfold leT;omega)⟩
      ) (by dsimp only;omega) ⟨rfl,rfl,rfl,rfl,rfl,rfl,rfl,trivial⟩ ⟨rfl,trivial⟩)
  | (exact Zh (
      ⟨(i,(i+j) / 2),Om hB s2 oM oM hy (JS oM)⟩
      ) (by dsimp only;omega) ⟨rfl,rfl,rfl,rfl,rfl,rfl,rfl,trivial⟩ ⟨rfl,trivial⟩)))
 · first |exact bN hb33|(
 have hij:j=i:=oM;subst hij;have hM:Mov leT a b a j l:=ZdB leT (by rw [show a+1=m by omega];exact s2) oM (fun q x y h4 h5 hx hy=>by
  rw [hxa] at hx;cases hx;exact hB.2.2.2.1 q y oM h5 hy) (fun q x y h4 h5 hx hy=>by
  rw [hxa] at hx;cases hx;exact hB.2.2.2.2 q y h4 h5 hy)
 refine Zd ?_;(refine xL 54 Za (xL 13 Zb ?_)<;>refine Zc ?_)
 refine Zy (ι:={q:Nat×List Nd//a≤q.1∧q.1+1≤j∧Sw a b l q.2∧Mov leT a b q.1 j q.2}) (fun k=>⟨[(0,_,_),(1,_,_),(2,_,_),(3,_,_),(4,_,_),(10,_,_),(13, .int .i64 k.1.1,Zf k.1.1)],[(1000,hv, .own 51 3 l.length (Z6 k.1.2))]⟩) (fun k=>j-k.1.1) ⟨(a,l),by dsimp only;omega,by dsimp only;omega, .refl _,hM⟩ (fun a w H=>H.weaken ⟨rfl,rfl,rfl,rfl,rfl,rfl,rfl,trivial⟩ ⟨rfl,trivial⟩) ?_;rintro ⟨⟨k,L⟩,hk1,hk2,hS,hM2⟩;dsimp only;dsimp only at hk1 hk2 hS hM2;have hLl:=hS.len;refine Zd ?_;(refine xL 55 Za (xL 56 Za ?_)<;>refine xL 57 ((WK (c:=((j-1:Nat):Int)))) ?_<;>refine xL 58 ZI ?_<;>refine Zc ?_)
 refine cX ?_ ?_<;>intro hb58
 · first|exact bN hb58|(
 have hkj:k+1<j:=oM;obtain ⟨x,hx⟩:=Zm (show k<L.length by omega);obtain ⟨y,hy⟩:=Zm (show k+1<L.length by omega);have e1:=Z9 hx;have e2:=Yu hx;have e3:=Z9 hy;have e4:=Yu hy;have hsw:=T6 hx hy;have e5:(J3 (Z6 L) (k*3) (cN y)).length=(Z6 L).length:=Lp _ _ _;refine nav ?_;(refine ZM (fun i=>([]:List Nat).elem i) [] kR ?_<;>refine xD 0 61 rfl Za ?_<;>refine xD 1 62 rfl Za ?_<;>refine xD 2 63 rfl Za ?_<;>refine xD 3 64 rfl Za ?_<;>refine xD 4 65 rfl ((KH (c:=((k+1:Nat):Int)))) ?_<;>refine xD 5 66 rfl Za ?_<;>refine xD 6 67 rfl Za ?_<;>refine xD 7 68 rfl ((KH (c:=((k+1:Nat):Int)))) ?_<;>refine xD 10 71 rfl Za ?_<;>refine xD 11 72 rfl Za ?_<;>(refine YU 8 12 kR ?_ ?_;rotate_right;(focus ((refine Zg rfl fun w9 M9 N9 DQ back=>?_)<;>refine xL 73 (Zq 1000 ZL) ?_<;>refine Ze (back _ (nrm ?_))<;>(refine YU 8 13 kR ?_ ?_;rotate_right;(focus ((refine Zg rfl fun w9 M9 N9 DQ back=>?_)<;>(refine yL 74 (Zu 1000 Zz) fun v74 h=>?_;cases h)<;>refine Ze (back _ (nrm ?_))<;>(refine Zk 8 kR ?_)<;>(refine Zg rfl fun w9 M9 N9 DQ back=>?_)<;>refine xL 69 (Zq 1000 ZL) ?_<;>refine Ze (back _ (nrm ?_))<;>(refine Zk 9 kR ?_)<;>(refine Zg rfl fun w9 M9 N9 DQ back=>?_)<;>(refine yL 70 (Zu 1000 Zz) fun v70 h=>?_;cases h)<;>refine Ze (back _ (nrm ?_))<;>refine xE 14 75 rfl (Zq 1000 ZL) ?_<;>(refine Zk 15 kR ?_)<;>(refine Zg rfl fun w9 M9 N9 DQ back=>?_)<;>refine Zw 1000 Zz ?_<;>refine Ze (back _ (nrm ?_))<;>refine xE 16 76 rfl (Zq 1000 ZL) ?_<;>(refine Zk 17 kR ?_)<;>(refine Zg rfl fun w9 M9 N9 DQ back=>?_)<;>refine Zw 1000 Zz ?_<;>refine Ze (back _ (nrm ?_))));rotate_right;(focus ((refine Zg rfl fun w9 M9 N9 DQ back=>?_)<;>refine xL 69 (Zq 1000 ZL) ?_<;>refine Ze (back _ (nrm ?_))<;>(refine YU 9 13 kR ?_ ?_;rotate_right;(focus ((refine Zg rfl fun w9 M9 N9 DQ back=>?_)<;>(refine yL 74 (Zu 1000 Zz) fun v74 h=>?_;cases h)<;>refine Ze (back _ (nrm ?_))<;>(refine Zk 9 kR ?_)<;>(refine Zg rfl fun w9 M9 N9 DQ back=>?_)<;>(refine yL 70 (Zu 1000 Zz) fun v70 h=>?_;cases h)<;>refine Ze (back _ (nrm ?_))<;>refine xE 14 75 rfl (Zq 1000 ZL) ?_<;>(refine Zk 15 kR ?_)<;>(refine Zg rfl fun w9 M9 N9 DQ back=>?_)<;>refine Zw 1000 Zz ?_<;>refine Ze (back _ (nrm ?_))<;>refine xE 16 76 rfl (Zq 1000 ZL) ?_<;>(refine Zk 17 kR ?_)<;>(refine Zg rfl fun w9 M9 N9 DQ back=>?_)<;>refine Zw 1000 Zz ?_<;>refine Ze (back _ (nrm ?_))));rotate_right;(focus ((refine Zg rfl fun w9 M9 N9 DQ back=>?_)<;>(refine yL 70 (Zu 1000 Zz) fun v70 h=>?_;cases h)<;>refine Ze (back _ (nrm ?_))<;>(refine Zk 13 kR ?_)<;>(refine Zg rfl fun w9 M9 N9 DQ back=>?_)<;>(refine yL 74 (Zu 1000 Zz) fun v74 h=>?_;cases h)<;>refine Ze (back _ (nrm ?_))<;>refine xE 14 75 rfl (Zq 1000 ZL) ?_<;>(refine Zk 15 kR ?_)<;>(refine Zg rfl fun w9 M9 N9 DQ back=>?_)<;>refine Zw 1000 Zz ?_<;>refine Ze (back _ (nrm ?_))<;>refine xE 16 76 rfl (Zq 1000 ZL) ?_<;>(refine Zk 17 kR ?_)<;>(refine Zg rfl fun w9 M9 N9 DQ back=>?_)<;>refine Zw 1000 Zz ?_<;>refine Ze (back _ (nrm ?_))))))))));rotate_right;(focus ((refine Zg rfl fun w9 M9 N9 DQ back=>?_)<;>refine xL 69 (Zq 1000 ZL) ?_<;>refine Ze (back _ (nrm ?_))<;>(refine YU 9 12 kR ?_ ?_;rotate_right;(focus ((refine Zg rfl fun w9 M9 N9 DQ back=>?_)<;>refine xL 73 (Zq 1000 ZL) ?_<;>refine Ze (back _ (nrm ?_))<;>(refine YU 9 13 kR ?_ ?_;rotate_right;(focus ((refine Zg rfl fun w9 M9 N9 DQ back=>?_)<;>(refine yL 74 (Zu 1000 Zz) fun v74 h=>?_;cases h)<;>refine Ze (back _ (nrm ?_))<;>(refine Zk 9 kR ?_)<;>(refine Zg rfl fun w9 M9 N9 DQ back=>?_)<;>(refine yL 70 (Zu 1000 Zz) fun v70 h=>?_;cases h)<;>refine Ze (back _ (nrm ?_))<;>refine xE 14 75 rfl (Zq 1000 ZL) ?_<;>(refine Zk 15 kR ?_)<;>(refine Zg rfl fun w9 M9 N9 DQ back=>?_)<;>refine Zw 1000 Zz ?_<;>refine Ze (back _ (nrm ?_))<;>refine xE 16 76 rfl (Zq 1000 ZL) ?_<;>(refine Zk 17 kR ?_)<;>(refine Zg rfl fun w9 M9 N9 DQ back=>?_)<;>refine Zw 1000 Zz ?_<;>refine Ze (back _ (nrm ?_))));rotate_right;(focus ((refine Zg rfl fun w9 M9 N9 DQ back=>?_)<;>(refine yL 70 (Zu 1000 Zz) fun v70 h=>?_;cases h)<;>refine Ze (back _ (nrm ?_))<;>(refine Zk 13 kR ?_)<;>(refine Zg rfl fun w9 M9 N9 DQ back=>?_)<;>(refine yL 74 (Zu 1000 Zz) fun v74 h=>?_;cases h)<;>refine Ze (back _ (nrm ?_))<;>refine xE 14 75 rfl (Zq 1000 ZL) ?_<;>(refine Zk 15 kR ?_)<;>(refine Zg rfl fun w9 M9 N9 DQ back=>?_)<;>refine Zw 1000 Zz ?_<;>refine Ze (back _ (nrm ?_))<;>refine xE 16 76 rfl (Zq 1000 ZL) ?_<;>(refine Zk 17 kR ?_)<;>(refine Zg rfl fun w9 M9 N9 DQ back=>?_)<;>refine Zw 1000 Zz ?_<;>refine Ze (back _ (nrm ?_)))))));rotate_right;(focus ((refine Zg rfl fun w9 M9 N9 DQ back=>?_)<;>(refine yL 70 (Zu 1000 Zz) fun v70 h=>?_;cases h)<;>refine Ze (back _ (nrm ?_))<;>(refine Zk 12 kR ?_)<;>(refine Zg rfl fun w9 M9 N9 DQ back=>?_)<;>refine xL 73 (Zq 1000 ZL) ?_<;>refine Ze (back _ (nrm ?_))<;>(refine Zk 13 kR ?_)<;>(refine Zg rfl fun w9 M9 N9 DQ back=>?_)<;>(refine yL 74 (Zu 1000 Zz) fun v74 h=>?_;cases h)<;>refine Ze (back _ (nrm ?_))<;>refine xE 14 75 rfl (Zq 1000 ZL) ?_<;>(refine Zk 15 kR ?_)<;>(refine Zg rfl fun w9 M9 N9 DQ back=>?_)<;>refine Zw 1000 Zz ?_<;>refine Ze (back _ (nrm ?_))<;>refine xE 16 76 rfl (Zq 1000 ZL) ?_<;>(refine Zk 17 kR ?_)<;>(refine Zg rfl fun w9 M9 N9 DQ back=>?_)<;>refine Zw 1000 Zz ?_<;>refine Ze (back _ (nrm ?_))))))))<;>refine Ym kR (nav ?_)<;>try dsimp only)<;>(
 (refine Zo ?_<;>refine xL 59 Za (xL 60 ZH (xL 13 Zb ?_))<;>refine Zc ?_)
 rw [hsw];refine Zh (
  ⟨(k+1,swp L k (k+1)),by dsimp only;omega,by dsimp only;omega, .step _ _ hS oM oM oM oM h3,ZdA leT hM2 oM oM hB3 oM⟩
  ) (by dsimp only;omega) ⟨rfl,rfl,rfl,rfl,rfl,rfl,rfl,trivial⟩ ⟨rfl,trivial⟩))
 · first|exact bN hb58|(
 refine nav ?_;refine ZaL (Y8 hv L) (results283) ⟨by rw [←hLl];rfl,trivial⟩ ⟨L,hS,He leT hM2 oM,rfl⟩)))
 · first | exact bN hb28|(
 refine Zd ?_;(refine xL 77 Za (xL 78 Za (xL 79 KD (xL 80 ZU ?_)))<;>refine Zc ?_)
 refine cX ?_ ?_<;>intro hb80
 · first | exact bN hb80|(
 refine Zd ?_;(refine xL 81 Za (xL 14 Zb ?_)<;>refine Zi ?_)
 (refine xL 82 Za (xL 15 Zb ?_)<;>refine Zc ?_)
 refine Zy (ι:={q:Nat×Nat//BsT a m q.1 q.2 xm l}) (fun k=>⟨[(0,_,_),(1,_,_),(2,_,_),(3,_,_),(4,_,_),(14, .int .i64 k.1.1,Zf k.1.1),(15, .int .i64 k.1.2,Zf k.1.2)],[(1000,hv, .own 51 3 l.length (Z6 l))]⟩) (fun k=>k.1.2-k.1.1) ⟨(a,m),ζa a m xm l oM⟩ (fun a w H=>H.weaken ⟨rfl,rfl,rfl,rfl,rfl,rfl,rfl,trivial⟩ ⟨rfl,trivial⟩) ?_;rintro ⟨⟨i,j⟩,hB⟩;dsimp only;dsimp only at hB;have hB1:=hB.1;have hB2:=hB.2.1;have hB3:=hB.2.2.1;refine Zd ?_;(refine xL 83 Za (xL 84 Za (xL 85 ZI ?_))<;>refine Zc ?_)
 refine cX ?_ ?_<;>intro hb85
 · first | exact bN hb85|(
 refine Zd ?_;(refine xL 86 Za (xL 87 Za ?_)<;>refine xL 88 ((KH (c:=((i+j:Nat):Int)))) ?_<;>refine xL 89 ((Zb7 (a:=i+j) rfl rfl oM)) ?_<;>refine xL 90 ((Oj (a:=i+j) rfl)) ?_<;>refine xL 91 ((Zb8 (a:=(i+j) / 2) rfl rfl oM)) ?_<;>refine xL 16 Zb ?_<;>refine Zc ?_)
 obtain ⟨y,hy⟩:=Zm (show (i+j) / 2<l.length by omega);have e3:=Z9 hy;have e4:=Yu hy;(refine ZM (fun i=>([]:List Nat).elem i) [1000] kR ?_<;>refine xD 0 92 rfl Za ?_<;>refine xD 1 93 rfl Za ?_<;>refine xD 2 94 rfl Za ?_<;>refine xD 3 95 rfl (Zq 1000 ZL) ?_<;>(refine yD 4 96 rfl (Zu 1000 Zz) fun v96 h=>?_;cases h)<;>refine xD 5 97 rfl Za ?_<;>refine xE 6 98 rfl Za ?_<;>refine xE 7 99 rfl (Zq 1000 ZL) ?_<;>(refine yE 8 100 rfl (Zu 1000 Zz) fun v100 h=>?_;cases h)<;>(refine Zk 9 kR ?_)<;>(refine YH (d:=101) rfl (J7 (f:=f) (ps:=[]) rfl ⟨_,rfl⟩ hc rfl (hf xm (Xb hxm) y (Xb hy))) fun v101 h=>?_;cases h)<;>refine xE 10 102 rfl ZI ?_<;>refine xE 11 103 rfl Yd ?_<;>refine Ym kR (nav ?_)<;>try dsimp only)
 refine cX ?_ ?_<;>intro hb103
 · first |exact bN hb103|(
 refine Zd ?_;(refine xL 104 Za (xL 105 ZH (xL 14 Zb ?_))<;>refine Zc ?_)
 first
  | (exact Zh (
      ⟨((i+j) / 2+1,j),Zca hB s1 oM oM hy (JS (by simpa using hb103))⟩
      ) (by dsimp only;omega) ⟨rfl,rfl,rfl,rfl,rfl,rfl,rfl,trivial⟩ ⟨rfl,trivial⟩)
  | (exact Zh (
      ⟨(i,(i+j) / 2),Om hB s1 oM oM hy (by unfold leT;simp at hb103;omega)⟩
      ) (by dsimp only;omega) ⟨rfl,rfl,rfl,rfl,rfl,rfl,rfl,trivial⟩ ⟨rfl,trivial⟩))
 · first |exact bN hb103|(
 refine Zd ?_;(refine xL 106 Za (xL 15 Zb ?_)<;>refine Zc ?_)
 first
  | (exact Zh (
      ⟨((i+j) / 2+1,j),Zca hB s1 oM oM hy (JS (by simpa using hb103))⟩
      ) (by dsimp only;omega) ⟨rfl,rfl,rfl,rfl,rfl,rfl,rfl,trivial⟩ ⟨rfl,trivial⟩)
  | (exact Zh (
      ⟨(i,(i+j) / 2),Om hB s1 oM oM hy (by unfold leT;simp at hb103;omega)⟩
      ) (by dsimp only;omega) ⟨rfl,rfl,rfl,rfl,rfl,rfl,rfl,trivial⟩ ⟨rfl,trivial⟩)))
 · first |exact bN hb85|(
 have hij:j=i:=oM;subst hij;have hbm:b=m+1:=oM;subst hbm;have hM:Mov leT a (m+1) m j l:=ZfT leT s1 oM (fun q x y h4 h5 hx hy=>by
  rw [hxm] at hx;cases hx;exact hB.2.2.2.1 q y h4 h5 hy) (fun q x y h4 h5 hx hy=>by
  rw [hxm] at hx;cases hx;exact hB.2.2.2.2 q y h4 h5 hy)
 refine Zd ?_;(refine xL 107 Za (xL 17 Zb ?_)<;>refine Zc ?_)
 refine Zy (ι:={q:Nat×List Nd//j≤q.1∧q.1<m+1∧Sw a (m+1) l q.2∧Mov leT a (m+1) q.1 j q.2}) (fun k=>⟨[(0,_,_),(1,_,_),(2,_,_),(3,_,_),(4,_,_),(14,_,_),(17, .int .i64 k.1.1,Zf k.1.1)],[(1000,hv, .own 51 3 l.length (Z6 k.1.2))]⟩) (fun k=>k.1.1) ⟨(m,l),by dsimp only;omega,by dsimp only;omega, .refl _,hM⟩ (fun a w H=>H.weaken ⟨rfl,rfl,rfl,rfl,rfl,rfl,rfl,trivial⟩ ⟨rfl,trivial⟩) ?_;rintro ⟨⟨k,L⟩,hk1,hk2,hS,hM2⟩;dsimp only;dsimp only at hk1 hk2 hS hM2;have hLl:=hS.len;refine Zd ?_;(refine xL 108 Za (xL 109 Za (xL 110 YV ?_))<;>refine Zc ?_)
 refine cX ?_ ?_<;>intro hb110
 · first|exact bN hb110|(
 obtain ⟨k',rfl⟩:∃k',k=k'+1:=⟨k-1,oM⟩;obtain ⟨x,hx⟩:=Zm (show k'+1<L.length by omega);obtain ⟨y,hy⟩:=Zm (show k'<L.length by omega);have e1:=Z9 hx;have e2:=Yu hx;have e3:=Z9 hy;have e4:=Yu hy;have hsw:=T6 hx hy;have e5:(J3 (Z6 L) ((k'+1)*3) (cN y)).length=(Z6 L).length:=Lp _ _ _;refine nav ?_;(refine ZM (fun i=>([]:List Nat).elem i) [] kR ?_<;>refine xD 0 113 rfl Za ?_<;>refine xD 1 114 rfl Za ?_<;>refine xD 2 115 rfl Za ?_<;>refine xD 3 116 rfl Za ?_<;>refine xD 4 117 rfl ((WK (c:=((k':Nat):Int)))) ?_<;>refine xD 5 118 rfl Za ?_<;>refine xD 6 119 rfl Za ?_<;>refine xD 7 120 rfl ((WK (c:=((k':Nat):Int)))) ?_<;>refine xD 10 123 rfl Za ?_<;>refine xD 11 124 rfl Za ?_<;>(refine YU 8 12 kR ?_ ?_;rotate_right;(focus ((refine Zg rfl fun w9 M9 N9 DQ back=>?_)<;>refine xL 125 (Zq 1000 ZL) ?_<;>refine Ze (back _ (nrm ?_))<;>(refine YU 8 13 kR ?_ ?_;rotate_right;(focus ((refine Zg rfl fun w9 M9 N9 DQ back=>?_)<;>(refine yL 126 (Zu 1000 Zz) fun v126 h=>?_;cases h)<;>refine Ze (back _ (nrm ?_))<;>(refine Zk 8 kR ?_)<;>(refine Zg rfl fun w9 M9 N9 DQ back=>?_)<;>refine xL 121 (Zq 1000 ZL) ?_<;>refine Ze (back _ (nrm ?_))<;>(refine Zk 9 kR ?_)<;>(refine Zg rfl fun w9 M9 N9 DQ back=>?_)<;>(refine yL 122 (Zu 1000 Zz) fun v122 h=>?_;cases h)<;>refine Ze (back _ (nrm ?_))<;>refine xE 14 127 rfl (Zq 1000 ZL) ?_<;>(refine Zk 15 kR ?_)<;>(refine Zg rfl fun w9 M9 N9 DQ back=>?_)<;>refine Zw 1000 Zz ?_<;>refine Ze (back _ (nrm ?_))<;>refine xE 16 128 rfl (Zq 1000 ZL) ?_<;>(refine Zk 17 kR ?_)<;>(refine Zg rfl fun w9 M9 N9 DQ back=>?_)<;>refine Zw 1000 Zz ?_<;>refine Ze (back _ (nrm ?_))));rotate_right;(focus ((refine Zg rfl fun w9 M9 N9 DQ back=>?_)<;>refine xL 121 (Zq 1000 ZL) ?_<;>refine Ze (back _ (nrm ?_))<;>(refine YU 9 13 kR ?_ ?_;rotate_right;(focus ((refine Zg rfl fun w9 M9 N9 DQ back=>?_)<;>(refine yL 126 (Zu 1000 Zz) fun v126 h=>?_;cases h)<;>refine Ze (back _ (nrm ?_))<;>(refine Zk 9 kR ?_)<;>(refine Zg rfl fun w9 M9 N9 DQ back=>?_)<;>(refine yL 122 (Zu 1000 Zz) fun v122 h=>?_;cases h)<;>refine Ze (back _ (nrm ?_))<;>refine xE 14 127 rfl (Zq 1000 ZL) ?_<;>(refine Zk 15 kR ?_)<;>(refine Zg rfl fun w9 M9 N9 DQ back=>?_)<;>refine Zw 1000 Zz ?_<;>refine Ze (back _ (nrm ?_))<;>refine xE 16 128 rfl (Zq 1000 ZL) ?_<;>(refine Zk 17 kR ?_)<;>(refine Zg rfl fun w9 M9 N9 DQ back=>?_)<;>refine Zw 1000 Zz ?_<;>refine Ze (back _ (nrm ?_))));rotate_right;(focus ((refine Zg rfl fun w9 M9 N9 DQ back=>?_)<;>(refine yL 122 (Zu 1000 Zz) fun v122 h=>?_;cases h)<;>refine Ze (back _ (nrm ?_))<;>(refine Zk 13 kR ?_)<;>(refine Zg rfl fun w9 M9 N9 DQ back=>?_)<;>(refine yL 126 (Zu 1000 Zz) fun v126 h=>?_;cases h)<;>refine Ze (back _ (nrm ?_))<;>refine xE 14 127 rfl (Zq 1000 ZL) ?_<;>(refine Zk 15 kR ?_)<;>(refine Zg rfl fun w9 M9 N9 DQ back=>?_)<;>refine Zw 1000 Zz ?_<;>refine Ze (back _ (nrm ?_))<;>refine xE 16 128 rfl (Zq 1000 ZL) ?_<;>(refine Zk 17 kR ?_)<;>(refine Zg rfl fun w9 M9 N9 DQ back=>?_)<;>refine Zw 1000 Zz ?_<;>refine Ze (back _ (nrm ?_))))))))));rotate_right;(focus ((refine Zg rfl fun w9 M9 N9 DQ back=>?_)<;>refine xL 121 (Zq 1000 ZL) ?_<;>refine Ze (back _ (nrm ?_))<;>(refine YU 9 12 kR ?_ ?_;rotate_right;(focus ((refine Zg rfl fun w9 M9 N9 DQ back=>?_)<;>refine xL 125 (Zq 1000 ZL) ?_<;>refine Ze (back _ (nrm ?_))<;>(refine YU 9 13 kR ?_ ?_;rotate_right;(focus ((refine Zg rfl fun w9 M9 N9 DQ back=>?_)<;>(refine yL 126 (Zu 1000 Zz) fun v126 h=>?_;cases h)<;>refine Ze (back _ (nrm ?_))<;>(refine Zk 9 kR ?_)<;>(refine Zg rfl fun w9 M9 N9 DQ back=>?_)<;>(refine yL 122 (Zu 1000 Zz) fun v122 h=>?_;cases h)<;>refine Ze (back _ (nrm ?_))<;>refine xE 14 127 rfl (Zq 1000 ZL) ?_<;>(refine Zk 15 kR ?_)<;>(refine Zg rfl fun w9 M9 N9 DQ back=>?_)<;>refine Zw 1000 Zz ?_<;>refine Ze (back _ (nrm ?_))<;>refine xE 16 128 rfl (Zq 1000 ZL) ?_<;>(refine Zk 17 kR ?_)<;>(refine Zg rfl fun w9 M9 N9 DQ back=>?_)<;>refine Zw 1000 Zz ?_<;>refine Ze (back _ (nrm ?_))));rotate_right;(focus ((refine Zg rfl fun w9 M9 N9 DQ back=>?_)<;>(refine yL 122 (Zu 1000 Zz) fun v122 h=>?_;cases h)<;>refine Ze (back _ (nrm ?_))<;>(refine Zk 13 kR ?_)<;>(refine Zg rfl fun w9 M9 N9 DQ back=>?_)<;>(refine yL 126 (Zu 1000 Zz) fun v126 h=>?_;cases h)<;>refine Ze (back _ (nrm ?_))<;>refine xE 14 127 rfl (Zq 1000 ZL) ?_<;>(refine Zk 15 kR ?_)<;>(refine Zg rfl fun w9 M9 N9 DQ back=>?_)<;>refine Zw 1000 Zz ?_<;>refine Ze (back _ (nrm ?_))<;>refine xE 16 128 rfl (Zq 1000 ZL) ?_<;>(refine Zk 17 kR ?_)<;>(refine Zg rfl fun w9 M9 N9 DQ back=>?_)<;>refine Zw 1000 Zz ?_<;>refine Ze (back _ (nrm ?_)))))));rotate_right;(focus ((refine Zg rfl fun w9 M9 N9 DQ back=>?_)<;>(refine yL 122 (Zu 1000 Zz) fun v122 h=>?_;cases h)<;>refine Ze (back _ (nrm ?_))<;>(refine Zk 12 kR ?_)<;>(refine Zg rfl fun w9 M9 N9 DQ back=>?_)<;>refine xL 125 (Zq 1000 ZL) ?_<;>refine Ze (back _ (nrm ?_))<;>(refine Zk 13 kR ?_)<;>(refine Zg rfl fun w9 M9 N9 DQ back=>?_)<;>(refine yL 126 (Zu 1000 Zz) fun v126 h=>?_;cases h)<;>refine Ze (back _ (nrm ?_))<;>refine xE 14 127 rfl (Zq 1000 ZL) ?_<;>(refine Zk 15 kR ?_)<;>(refine Zg rfl fun w9 M9 N9 DQ back=>?_)<;>refine Zw 1000 Zz ?_<;>refine Ze (back _ (nrm ?_))<;>refine xE 16 128 rfl (Zq 1000 ZL) ?_<;>(refine Zk 17 kR ?_)<;>(refine Zg rfl fun w9 M9 N9 DQ back=>?_)<;>refine Zw 1000 Zz ?_<;>refine Ze (back _ (nrm ?_))))))))<;>refine Ym kR (nav ?_)<;>try dsimp only)<;>(
 (refine Zo ?_<;>refine xL 111 Za ?_<;>refine xL 112 ((WK (c:=((k':Nat):Int)))) ?_<;>refine xL 17 Zb ?_<;>refine Zc ?_)
 rw [hsw];refine Zh (
  ⟨(k',swp L (k'+1) k'),by dsimp only;omega,by dsimp only;omega, .step _ _ hS oM oM oM oM h3,ZfS leT hM2 oM oM oM oM⟩
  ) (by dsimp only;omega) ⟨rfl,rfl,rfl,rfl,rfl,rfl,rfl,trivial⟩ ⟨rfl,trivial⟩))
 · first|exact bN hb110|(
 have hkj:k=j:=oM;subst hkj;refine nav ?_;refine ZaL (Y8 hv L) (results283) ⟨by rw [←hLl];rfl,trivial⟩ ⟨L,hS,EP leT hM2,rfl⟩)))
 · first | exact bN hb80|(
 have hlo:=ZfX h1 h2;have hmid:(a+b) / 2<b:=oM;refine Zd ?_;(refine xL 129 Za (xL 130 Za ?_)<;>refine xL 131 ((KH (c:=((a+b:Nat):Int)))) ?_<;>refine xL 132 ((Zb7 (a:=a+b) rfl rfl oM)) ?_<;>refine xL 133 ((Oj (a:=a+b) rfl)) ?_<;>refine xL 134 ((Zb8 (a:=(a+b) / 2) rfl rfl oM)) ?_<;>refine xL 18 Zb ?_<;>refine Zi ?_)
 (refine xL 135 Za (xL 136 Za ?_)<;>refine xL 137 ((KH (c:=(((a+b) / 2+m:Nat):Int)))) ?_<;>refine xL 19 Zb ?_<;>refine Zi ?_)
 (refine xL 20 Zb (xL 21 Zb ?_)<;>refine Zi ?_)
 (refine xL 138 Za (xL 139 Za (xL 140 YV ?_))<;>refine Zc ?_)
 refine Js (fun _:Unit=>⟨[(0,hv, .val hv),(1, .int .i64 (a:Int),Zf a),(2, .int .i64 (m:Int),Zf m),(3, .int .i64 (b:Int),Zf b),(4,fv, .fn f []),(18, .int .i64 (((a+b) / 2:Nat):Int),Zf (((a+b) / 2:Nat):Int)),(19, .int .i64 (((a+b) / 2+m:Nat):Int),Zf (((a+b) / 2+m:Nat):Int)),(20, .int .i64 (loM a m b:Int),Zf (loM a m b)),(21, .int .i64 (hiM a m b:Int),Zf (hiM a m b))],Y8 hv l⟩) ?_ ?_
 · refine cX ?_ ?_<;>intro hb140
   · first|exact bN hb140|(
 refine Zd ?_;(refine xL 141 Za (xL 142 Za ?_)<;>(refine xL 143 ((WK (c:=((loM a m b:Nat):Int)) (hc:=by unfold loM;rw [UB oM];omega))) ?_)<;>refine xL 20 Zb ?_<;>refine Zi ?_)
 ((refine xL 144 ((ES (c:=((hiM a m b:Nat):Int)) (hc:=by unfold hiM;rw [UB oM]))) ?_)<;>refine xL 21 Zb ?_<;>refine Zc ?_)
 exact YM () ⟨rfl,rfl,rfl,rfl,rfl,rfl,rfl,rfl,rfl,trivial⟩ ⟨rfl,trivial⟩)
   · first|exact bN hb140|(
 refine Zd ?_;((refine xL 145 ((ES (c:=((loM a m b:Nat):Int)) (hc:=by unfold loM;rw [UA oM]))) ?_)<;>refine xL 20 Zb ?_<;>refine Zi ?_)
 ((refine xL 146 ((ES (c:=((hiM a m b:Nat):Int)) (hc:=by unfold hiM;rw [UA oM]))) ?_)<;>refine xL 21 Zb ?_<;>refine Zc ?_)
 exact YM () ⟨rfl,rfl,rfl,rfl,rfl,rfl,rfl,rfl,rfl,trivial⟩ ⟨rfl,trivial⟩)
 · intro _;unfold Y8;refine Zd ?_;(refine xL 147 Za ?_<;>refine xL 148 ((WK (c:=(((a+b) / 2+m-1:Nat):Int)))) ?_<;>refine xL 22 Zb ?_<;>refine Zc ?_)
   refine Zy (ι:={q:Nat×Nat//Thr leT (loM a m b) (hiM a m b) ((a+b) / 2+m-1) q.1 q.2 l}) (fun k=>⟨[(0,_,_),(1,_,_),(2,_,_),(3,_,_),(4,_,_),(18,_,_),(19,_,_),(22,_,_),(20, .int .i64 k.1.1,Zf k.1.1),(21, .int .i64 k.1.2,Zf k.1.2)],[(1000,hv, .own 51 3 l.length (Z6 l))]⟩) (fun k=>k.1.2-k.1.1) ⟨(loM a m b,hiM a m b),ZdC leT l hlo.2.1⟩ (fun a w H=>H.weaken ⟨rfl,rfl,rfl,rfl,rfl,rfl,rfl,rfl,rfl,rfl,trivial⟩ ⟨rfl,trivial⟩) ?_;rintro ⟨⟨i,j⟩,hT⟩;dsimp only;dsimp only at hT;have hB1:=hT.1;have hB2:=hT.2.1;have hB3:=hT.2.2.1;refine Zd ?_;(refine xL 149 Za (xL 150 Za (xL 151 ZI ?_))<;>refine Zc ?_)
   refine cX ?_ ?_<;>intro hb151
   · first | exact bN hb151|(
 refine Zd ?_;(refine xL 152 Za (xL 153 Za ?_)<;>refine xL 154 ((KH (c:=((i+j:Nat):Int)))) ?_<;>refine xL 155 ((Zb7 (a:=i+j) rfl rfl oM)) ?_<;>refine xL 156 ((Oj (a:=i+j) rfl)) ?_<;>refine xL 157 ((Zb8 (a:=(i+j) / 2) rfl rfl oM)) ?_<;>refine xL 23 Zb ?_<;>refine Zc ?_)
 obtain ⟨x,hx⟩:=Zm (show (i+j) / 2<l.length by omega);have e1:=Z9 hx;have e2:=Yu hx;obtain ⟨y,hy⟩:=Zm (show (a+b) / 2+m-1-(i+j) / 2<l.length by omega);have e3:=Z9 hy;have e4:=Yu hy;(refine ZM (fun i=>([]:List Nat).elem i) [1000] kR ?_<;>refine xD 0 158 rfl Za ?_<;>refine xD 1 159 rfl Za ?_<;>refine xD 2 160 rfl Za ?_<;>refine xD 3 161 rfl Za ?_<;>refine xD 4 162 rfl ((WK (c:=(((a+b) / 2+m-1-(i+j) / 2:Nat):Int)))) ?_<;>refine xD 5 163 rfl (Zq 1000 ZL) ?_<;>(refine yD 6 164 rfl (Zu 1000 Zz) fun v164 h=>?_;cases h)<;>refine xD 7 165 rfl Za ?_<;>refine xE 8 166 rfl Za ?_<;>refine xE 9 167 rfl (Zq 1000 ZL) ?_<;>(refine yE 10 168 rfl (Zu 1000 Zz) fun v168 h=>?_;cases h)<;>(refine Zk 11 kR ?_)<;>(refine YH (d:=169) rfl (J7 (f:=f) (ps:=[]) rfl ⟨_,rfl⟩ hc rfl (hf y (Xb hy) x (Xb hx))) fun v169 h=>?_;cases h)<;>refine xE 12 170 rfl ZI ?_<;>refine xE 13 171 rfl Yd ?_<;>refine Ym kR (nav ?_)<;>try dsimp only)
 refine cX ?_ ?_<;>intro hb171
 · first |exact bN hb171|(
 refine Zd ?_;(refine xL 172 Za (xL 173 ZH (xL 20 Zb ?_))<;>refine Zc ?_)
 first
  | (exact Zh (
      ⟨((i+j) / 2+1,j),ZfW K0 (fun _ _ _=>Ku) hT s1 s2 oM oM hlo.1 hlo.2.2.1 hlo.2.2.2.1 hlo.2.2.2.2.1 h3 hx hy (JS (by simpa using hb171))⟩
      ) (by dsimp only;omega) ⟨rfl,rfl,rfl,rfl,rfl,rfl,rfl,rfl,rfl,rfl,trivial⟩ ⟨rfl,trivial⟩)
  | (exact Zh (
      ⟨(i,(i+j) / 2),C8 K0 (fun _ _ _=>Ku) hT s1 s2 oM oM hlo.1 hlo.2.2.1 hlo.2.2.2.1 hlo.2.2.2.2.1 h3 hx hy (by unfold leT;simp at hb171;omega)⟩
      ) (by dsimp only;omega) ⟨rfl,rfl,rfl,rfl,rfl,rfl,rfl,rfl,rfl,rfl,trivial⟩ ⟨rfl,trivial⟩))
 · first |exact bN hb171|(
 refine Zd ?_;(refine xL 174 Za (xL 21 Zb ?_)<;>refine Zc ?_)
 first
  | (exact Zh (
      ⟨((i+j) / 2+1,j),ZfW K0 (fun _ _ _=>Ku) hT s1 s2 oM oM hlo.1 hlo.2.2.1 hlo.2.2.2.1 hlo.2.2.2.2.1 h3 hx hy (JS (by simpa using hb171))⟩
      ) (by dsimp only;omega) ⟨rfl,rfl,rfl,rfl,rfl,rfl,rfl,rfl,rfl,rfl,trivial⟩ ⟨rfl,trivial⟩)
  | (exact Zh (
      ⟨(i,(i+j) / 2),C8 K0 (fun _ _ _=>Ku) hT s1 s2 oM oM hlo.1 hlo.2.2.1 hlo.2.2.2.1 hlo.2.2.2.2.1 h3 hx hy (by unfold leT;simp at hb171;omega)⟩
      ) (by dsimp only;omega) ⟨rfl,rfl,rfl,rfl,rfl,rfl,rfl,rfl,rfl,rfl,trivial⟩ ⟨rfl,trivial⟩)))
   · first | exact bN hb151|(
 have hij:j=i:=oM;subst hij;have hj1:j≤(a+b) / 2:=oM;have hj2:j≤m:=oM;refine Zd ?_;(refine xL 175 Za (xL 176 Za ?_)<;>refine xL 177 ((WK (c:=(((a+b) / 2+m-j:Nat):Int)))) ?_<;>refine xL 24 Zb ?_<;>refine Zi ?_)
 (refine xL 178 Za (xL 179 Za (xL 180 ZI (xL 181 Za ?_)))<;>(refine bLd 181 (fun hb181=>?_) (fun hb181=>?_)<;>(first|refine kL 182 ?_|refine xL 182 Za ?_))<;>(first|refine kL 183 ?_|refine xL 183 Za ?_)<;>(first|refine kL 184 ?_|refine xL 184 ZI ?_)<;>refine xL 185 Zt ?_<;>refine Zc ?_)<;>(
 refine Js (fun L1:{L1:List Nd//(∀k,L1[k]? =l[Td j m ((a+b) / 2+m-j) k]?)∧Sw a b l L1}=>⟨[(0,hv, .val hv),(1, .int .i64 (a:Int),Zf a),(2, .int .i64 (m:Int),Zf m),(3, .int .i64 (b:Int),Zf b),(4,fv, .fn f []),(18, .int .i64 (((a+b) / 2:Nat):Int),Zf (((a+b) / 2:Nat):Int)),(20, .int .i64 (j:Int),Zf j),(24, .int .i64 (((a+b) / 2+m-j:Nat):Int),Zf (((a+b) / 2+m-j:Nat):Int))],Y8 hv L1.1⟩) ?_ ?_
 · refine cX ?_ ?_<;>intro hb185
   · first|exact bN hb185|(
 refine Zd ?_;(refine xL 186 Za (xL 187 Za (xL 188 Za (xL 189 Za (xL 190 Za ?_))))<;>(refine KP (Y8 hv l) ⟨rfl,trivial⟩ ?_;refine LD [] 191 (call288) (ZdE l hl j m ((a+b) / 2+m-j) oM oM oM hv fv f) (fun v191 p191 h191 hR191=>?_);obtain ⟨L1,hL1,hS1,rfl⟩:=hR191;have hL1l:=hS1.len;dsimp only [Y8])<;>refine Zc ?_)
 first
 |exact YM ⟨L1,hL1,hS1.mono oM oM h3⟩ ⟨rfl,rfl,rfl,rfl,rfl,rfl,rfl,rfl,trivial⟩ ⟨rfl,trivial⟩
 |exact YM ⟨l,fun k=>by rw [ZfZ oM oM oM], .refl _⟩ ⟨rfl,rfl,rfl,rfl,rfl,rfl,rfl,rfl,trivial⟩ ⟨rfl,trivial⟩)
   · first|exact bN hb185|(
 refine nav ?_
 first
 |exact YM ⟨L1,hL1,hS1.mono oM oM h3⟩ ⟨rfl,rfl,rfl,rfl,rfl,rfl,rfl,rfl,trivial⟩ ⟨rfl,trivial⟩
 |exact YM ⟨l,fun k=>by rw [ZfZ oM oM oM], .refl _⟩ ⟨rfl,rfl,rfl,rfl,rfl,rfl,rfl,rfl,trivial⟩ ⟨rfl,trivial⟩)
 · rintro ⟨L1,hL1,hS1⟩;dsimp only;have hL1l:=hS1.len;obtain ⟨g1,g2,g3,g4,g5,g6,g7,g8,g9⟩:=ZdD K0 (fun _ _ _=>Ku) h1 h2 h3 s1 s2 hT hL1;have hf1:∀x∈L1,∀y∈L1,AF prog f [pTr x,pTr y] (· =Zf (Wd x y)):=fun x hx y hy=>hf x (TG hS1 hx) y (TG hS1 hy);unfold Y8;refine Zd ?_;(refine xL 192 Za (xL 193 Za (xL 194 ZI (xL 195 Za ?_)))<;>(refine bLd 195 (fun hb195=>?_) (fun hb195=>?_)<;>(first|refine kL 196 ?_|refine xL 196 Za ?_))<;>(first|refine kL 197 ?_|refine xL 197 Za ?_)<;>(first|refine kL 198 ?_|refine xL 198 ZI ?_)<;>refine xL 199 Zt ?_<;>refine Zc ?_)<;>(
 refine Js (fun L2:{L2:List Nd//Sw a ((a+b) / 2) L1 L2∧SrtS leT a ((a+b) / 2) L2}=>⟨[(0,hv, .val hv),(1, .int .i64 (a:Int),Zf a),(2, .int .i64 (m:Int),Zf m),(3, .int .i64 (b:Int),Zf b),(4,fv, .fn f []),(18, .int .i64 (((a+b) / 2:Nat):Int),Zf (((a+b) / 2:Nat):Int)),(20, .int .i64 (j:Int),Zf j),(24, .int .i64 (((a+b) / 2+m-j:Nat):Int),Zf (((a+b) / 2+m-j:Nat):Int))],Y8 hv L2.1⟩) ?_ ?_
 · refine cX ?_ ?_<;>intro hb199
   · first|exact bN hb199|(
 refine Zd ?_;(refine xL 200 Za (xL 201 Za (xL 202 Za (xL 203 Za (xL 204 Za ?_))))<;>(refine KP (Y8 hv L1) ⟨rfl,trivial⟩ ?_;refine LD [] 205 (call283) (ih L1 oM hf1 a j ((a+b) / 2) oM oM oM oM g1 g2) (fun v205 p205 h205 hR205=>?_);obtain ⟨L2,hS2,hO2,rfl⟩:=hR205;have hL2l:=hS2.len;dsimp only [Y8])<;>refine Zc ?_)
 first
 |exact YM ⟨L2,hS2,hO2⟩ ⟨rfl,rfl,rfl,rfl,rfl,rfl,rfl,rfl,trivial⟩ ⟨rfl,trivial⟩
 |exact YM ⟨L1, .refl _,Ol g5 g6 oM g1 g2⟩ ⟨rfl,rfl,rfl,rfl,rfl,rfl,rfl,rfl,trivial⟩ ⟨rfl,trivial⟩)
   · first|exact bN hb199|(
 refine nav ?_
 first
 |exact YM ⟨L2,hS2,hO2⟩ ⟨rfl,rfl,rfl,rfl,rfl,rfl,rfl,rfl,trivial⟩ ⟨rfl,trivial⟩
 |exact YM ⟨L1, .refl _,Ol g5 g6 oM g1 g2⟩ ⟨rfl,rfl,rfl,rfl,rfl,rfl,rfl,rfl,trivial⟩ ⟨rfl,trivial⟩)
 · rintro ⟨L2,hS2,hO2⟩;dsimp only;have hL2l:=hS2.len;have hf2:∀x∈L2,∀y∈L2,AF prog f [pTr x,pTr y] (· =Zf (Wd x y)):=fun x hx y hy=>hf1 x (TG hS2 hx) y (TG hS2 hy);have g3':SrtS leT ((a+b) / 2) ((a+b) / 2+m-j) L2:=g3.ext leT fun k k1 k2=>hS2.out (.inr k1);have g4':SrtS leT ((a+b) / 2+m-j) b L2:=g4.ext leT fun k k1 k2=>hS2.out (.inr oM);unfold Y8;refine Zd ?_;(refine xL 206 Za (xL 207 Za (xL 208 ZI (xL 209 Za ?_)))<;>(refine bLd 209 (fun hb209=>?_) (fun hb209=>?_)<;>(first|refine kL 210 ?_|refine xL 210 Za ?_))<;>(first|refine kL 211 ?_|refine xL 211 Za ?_)<;>(first|refine kL 212 ?_|refine xL 212 ZI ?_)<;>refine xL 213 Zt ?_<;>refine Zc ?_)<;>(
 refine cX ?_ ?_<;>intro hb213
 · first|exact bN hb213|(
 refine Zd ?_;(refine xL 214 Za (xL 215 Za (xL 216 Za (xL 217 Za (xL 218 Za ?_))))<;>(refine KP (Y8 hv L2) ⟨rfl,trivial⟩ ?_;refine LD [] 219 (call283) (ih L2 oM hf2 ((a+b) / 2) ((a+b) / 2+m-j) b oM oM oM oM g3' g4') (fun v219 p219 h219 hR219=>?_);obtain ⟨L3,hS3,hO3,rfl⟩:=hR219;have hL3l:=hS3.len;dsimp only [Y8])<;>refine Zc ?_)
 first
 |exact Tc (Y8 hv L3) (results283) ⟨rfl,trivial⟩ ⟨L3,hS1.trans ((hS2.mono (Xc _) oM oM).trans (hS3.mono oM (Xc _) oM)),Te oM oM oM g9 hS2 hS3 hO2 hO3,rfl⟩
 |exact Tc (Y8 hv L2) (results283) ⟨rfl,trivial⟩ ⟨L2,hS1.trans (hS2.mono (Xc _) oM oM),Te oM oM oM g9 hS2 (.refl _) hO2 (Ol g7 g8 oM g3' g4'),rfl⟩)
 · first|exact bN hb213|(
 refine nav ?_
 first
 |exact Tc (Y8 hv L3) (results283) ⟨rfl,trivial⟩ ⟨L3,hS1.trans ((hS2.mono (Xc _) oM oM).trans (hS3.mono oM (Xc _) oM)),Te oM oM oM g9 hS2 hS3 hO2 hO3,rfl⟩
 |exact Tc (Y8 hv L2) (results283) ⟨rfl,trivial⟩ ⟨L2,hS1.trans (hS2.mono (Xc _) oM oM),Te oM oM oM g9 hS2 (.refl _) hO2 (Ol g7 g8 oM g3' g4'),rfl⟩)))))))
end Go.Proofs.YtmkojdfiadbeeaaGreat
namespace Go.En
open Go.RowKit Go.Cb
set_option linter.all false
section
variable {P:Program} {c:Ctx} {sL hP:List (Nat×Ent)}
end
section
variable {P:Program} {c:Ctx} {sL hP:List (Nat×Ent)}
end
section
variable {P:Program} {st:St} {o:Oper}
theorem R5 {t e k e' k' n a:Nat} {x y:Operand} {h:Value} {p q:PV} {cs:List PV} {kd:IntKind} {i:Int} (l:Nat) (hT:SlT P t e k=true) (ho:o.op= .indexAddr t x y) (hx:ev st.slots x=some (slc h a n k,p)) (hy:ev st.slots y=some (.int kd i,q)) (hl:lk st.heap l=some (h, .own e' k' n cs)) (h0:0≤i) (h1:(a:Int)+i<n) {m:Nat} (hm:m=(a+i.toNat)*k):
 YE P st o (· =padd (sbase h) m) (.val (padd (sbase h) m)):=
 .exact fun M F w' w H=>by
  subst hm;have hv:=(H.ev hx).1;have hi:=(H.ev hy).1;obtain ⟨g,cap,rfl,hc,_⟩:=KL (H.tr l _ _ hl) oM;refine ⟨.val _,?_⟩;have hca:cap≠a:=oM;simp only [slc,hca,if_false,Option.map_some,YR,Xx] at hv;simp [execOp,ho,hv,hi,G4 hT h0 (show i<((n-a:Nat):Int) by omega),sbase,padd,XW]
theorem ZdF {t e k e' k' n a:Nat} {x:Operand} {h:Value} {p:PV} {cs:List PV} (l:Nat) (hT:SlT P t e k=true) (ho:o.op= .call {callee:= .builtin .len,args:= #[x],argTypes:= #[t]}) (hx:ev st.slots x=some (slc h a n k,p)) (hl:lk st.heap l=some (h, .own e' k' n cs)) {m:Nat} (hm:m=n-a):YE P st o (· = .int .i64 m) (.val (.int .i64 m)):=
 .exact fun M F w' w H=>by
  subst hm;have hv:=(H.ev hx).1;obtain ⟨xs,Fs,hrow,hlen,_⟩:=(H.tr l _ _ hl).row;rcases YQ hrow with ⟨rfl,rfl,_⟩|⟨g,cap,rfl,h1,h2,h3⟩
  · exact ⟨.val _,by simp [execOp,ho,hv,resolve,invoke,builtin,Builtin.len_,run_underlying (SlT.und hT),goInt,slc]⟩
  · exact ⟨.val _,by simp [execOp,ho,hv,resolve,invoke,builtin,Builtin.len_,run_underlying (SlT.und hT),goInt,slc]⟩
end
end Go.En
namespace Go.Proofs.YtmkojdfiadbeeaaGreat
open Go.RowKit Go.Cb Go.En Tryz
set_option linter.all false
set_option maxRecDepth 100000
theorem JU:AggT prog 51 3=true:=by kernel_rfl
theorem ZdG:ElT prog 49 51 3 48 (.agg #[(.int .i64 0),(.string ByteArray.empty),(.slice none 0 0)]):=⟨underlying49,by kernel_rfl,rfl,dC⟩
theorem WE:SlT prog 49 51 3=true:=by kernel_rfl
def ζb (w n:Nat) (l:List Nd):Prop:=∀c,SrtS leT (c*w) (min (c*w+w) n) l
theorem Rh {w n a:Nat} {l:List Nd} (ha:∃c,a=c*w) (hn:n<a+w) (h:∀c,c*w+w≤a→SrtS leT (c*w) (c*w+w) l) (hs:SrtS leT a n l):ζb w n l:=fun c=>by
 obtain ⟨c0,rfl⟩:=ha
 rcases Vz c c0 with h1|h1|h1
 · have:(c+1)*w≤c0*w:=X7 w h1;rw [X2] at this;exact (h c this).sub leT (Xc _) (Nat.min_le_left _ _)
 · subst h1;rw [Uo oM];exact hs
 · have:(c0+1)*w≤c*w:=X7 w h1;rw [X2] at this;exact SrtS.small leT l (by have:=Nat.min_le_right (c*w+w) n;omega)
theorem ZhX {w n a:Nat} {l:List Nd} (h:ζb w n l) (ha:∃c,a=c*(w*2)) (hn:a+w*2≤n):SrtS leT a (a+w) l∧SrtS leT (a+w) (a+w*2) l:=by
 obtain ⟨c,rfl⟩:=ha
 have e1:c*2*w=c*(w*2):=by rw [Nat.mul_assoc,Vl 2 w]
 have h1:=h (c*2)
 have h2:=h (c*2+1)
 rw [X2] at h2
 rw [e1] at h1 h2
 rw [X' oM] at h1 h2
 exact ⟨h1,by rw [show c*(w*2)+w*2=c*(w*2)+w+w by omega];exact h2⟩
theorem Zf1 {w n a:Nat} {l:List Nd} (h:ζb w n l) (ha:∃c,a=c*(w*2)) (hn:n<a+w*2) (hw:0<w):SrtS leT a (min (a+w) n) l∧SrtS leT (a+w) n l:=by
 obtain ⟨c,rfl⟩:=ha
 have e1:c*2*w=c*(w*2):=by rw [Nat.mul_assoc,Vl 2 w]
 have h1:=h (c*2)
 have h2:=h (c*2+1)
 rw [X2] at h2
 rw [e1] at h1 h2
 exact ⟨h1,by rw [Uo oM] at h2;exact h2⟩
theorem ZhY {w n:Nat} {l:List Nd} (h:ζb w n l) (hw:n≤w):SrtS leT 0 n l:=by
 have:=h 0
 rw [Ve,Xx,Uo hw] at this;exact this
theorem ZhZ {l:List Nd} (h:SrtS leT 0 l.length l):AscT l:=by
 rw [AscT,XT]
 intro i j hi hj hij
 exact h i j _ _ (Xn _) hij hj (Xp hi) (Xp hj)
set_option maxHeartbeats 4000000 in
theorem ZdH (f : Nat) (hc:∀args w,(callFunc f args).run prog w= .ok (.enter f args) w) (hv:Value) (fv:Value) (l:List Nd) (hl:l.length≤1000000) (hf:∀x∈l,∀y∈l,AF prog f [pTr x,pTr y] (· =Zf (Wd x y))):AFh False prog 265 [(0,hv, .val hv),(1, .int .i64 (l.length:Int),Zf l.length),(2,fv, .fn f [])] (Y8 hv l) (fun v q h=>h=Y8 hv (EI l)):=by
 have hfp:∀{L:List Nd},Sw 0 l.length l L→∀x∈L,∀y∈L,AF prog f [pTr x,pTr y] (· =Zf (Wd x y)):=fun hS x hx y hy=>hf x (TG hS hx) y (TG hS hy)
 have hn:l.length≤l.length:=Xc _
 unfold Y8
 refine AFh.of_body 63 func265 rfl ntmps265 (Xa rfl) rfl ?_
 intro w0 M0 N0
 refine Zd ?_
 (refine xL 6 Zb ?_<;>refine Zi ?_)
 (refine xL 10 Za (xL 7 Zb (xL 8 Zb ?_))<;>refine Zc ?_)
 refine Zy (ι:={q:Nat×List Nd//(∃c,q.1=c*20)∧q.1≤l.length∧Sw 0 l.length l q.2∧∀c,c*20+20≤q.1→SrtS leT (c*20) (c*20+20) q.2}) (fun k=>⟨[(0,_,_),(1,_,_),(2,_,_),(6,_,_),(7, .int .i64 k.1.1,Zf k.1.1),(8, .int .i64 ((k.1.1+20:Nat):Int),Zf ((k.1.1+20:Nat):Int))],[(1000,hv, .own 51 3 l.length (Z6 k.1.2))]⟩) (fun k=>l.length-k.1.1) ⟨(0,l),⟨0,rfl⟩,Xn _, .refl _,fun c h=>by dsimp only at h;omega⟩ (fun a w H=>H.weaken ⟨rfl,rfl,rfl,rfl,rfl,rfl,trivial⟩ ⟨rfl,trivial⟩) ?_
 rintro ⟨⟨a,L⟩,ha,han,hS,hO⟩
 dsimp only
 dsimp only at ha han hS hO;have hLl:=hS.len
 refine Zd ?_
 (refine xL 11 Za (xL 12 Za (xL 13 Tq ?_))<;>refine Zc ?_)
 refine cX ?_ ?_<;>intro hb13
 · first |exact bN hb13|(
 refine Zd ?_;(refine xL 14 Za (xL 15 Za (xL 16 Za (xL 17 Za ?_)))<;>(refine KP (Y8 hv L) ⟨by rw [←hLl];rfl,trivial⟩ ?_;refine LD [] 18 (call282) (ZfY f hc L oM (hfp hS) a (a+20) oM oM hv fv) (fun v18 p18 h18 hR18=>?_);obtain ⟨L2,hS2,hO2,rfl⟩:=hR18;have hL2l:=hS2.len;dsimp only [Y8];rw [hL2l,hLl])<;>refine Zi ?_)
 (refine xL 19 Za (xL 7 Zb ?_)<;>refine Zi ?_)
 (refine xL 20 Za (xL 21 Za ?_)<;>refine xL 22 ((KH (c:=((a+20+20:Nat):Int)))) ?_<;>refine xL 8 Zb ?_<;>refine Zc ?_)
 refine Zh (
  ⟨(a +20,L2),by obtain ⟨c,hc'⟩:=ha;exact ⟨c+1,by dsimp only;omega⟩,by dsimp only;omega,hS.trans (hS2.mono (Xn _) oM oM),fun c h=>by
    dsimp only at h ⊢;obtain ⟨c0,hc0⟩:=ha;rcases Xv c c0 with h1|h1
    · exact (hO c oM).ext leT fun k k1 k2=>hS2.out (.inl oM)
    · have:c=c0:=oM;subst this;rw [←hc0];exact hO2⟩
  ) (by dsimp only;omega) ⟨rfl,rfl,rfl,rfl,rfl,rfl,trivial⟩ ⟨rfl,trivial⟩)
 · first | exact bN hb13|(
 have hna:l.length<a+20:=oM;refine Zd ?_;(refine xL 23 Za (xL 24 Za (xL 25 Za (xL 26 Za ?_)))<;>(refine KP (Y8 hv L) ⟨by rw [←hLl];rfl,trivial⟩ ?_;refine LD [] 27 (call282) (ZfY f hc L oM (hfp hS) a l.length oM oM hv fv) (fun v27 p27 h27 hR27=>?_);obtain ⟨L1,hS1,hO1,rfl⟩:=hR27;have hL1l:=hS1.len;dsimp only [Y8];rw [hL1l,hLl];have hS1':Sw 0 l.length l L1:=hS.trans (hS1.mono (Xn _) (Xc _) oM);have hB1:ζb 20 l.length L1:=Rh ha hna (fun c h=>(hO c h).ext leT fun k k1 k2=>hS1.out (.inl oM)) hO1)<;>refine Zc ?_)
 refine Zy (ι:={q:Nat×List Nd//1≤q.1∧q.1≤2000000∧Sw 0 l.length l q.2∧ζb q.1 l.length q.2}) (fun k=>⟨[(0,_,_),(1,_,_),(2,_,_),(6, .int .i64 k.1.1,Zf k.1.1)],[(1000,hv, .own 51 3 l.length (Z6 k.1.2))]⟩) (fun k=>l.length-k.1.1) ⟨(20,L1),by dsimp only;omega,by dsimp only;omega,hS1',hB1⟩ (fun a w H=>H.weaken ⟨rfl,rfl,rfl,rfl,trivial⟩ ⟨rfl,trivial⟩) ?_;rintro ⟨⟨w,L⟩,hw1,hw2,hS,hB⟩;dsimp only;dsimp only at hw1 hw2 hS hB;have hLl:=hS.len;refine Zd ?_;(refine xL 28 Za (xL 29 Za (xL 30 ZI ?_))<;>refine Zc ?_)
 refine cX ?_ ?_<;>intro hb30
 · first | exact bN hb30|(
 refine Zd ?_;(refine xL 31 Za ?_<;>refine xL 32 ((ER (c:=((w*2:Nat):Int)))) ?_<;>refine xL 7 Zb (xL 8 Zb ?_)<;>refine Zc ?_)
 refine Zy (ι:={q:Nat×List Nd//(∃c,q.1=c*(w*2))∧q.1≤l.length∧Sw 0 l.length l q.2∧(∀c,c*(w*2)+w*2≤q.1→SrtS leT (c*(w*2)) (c*(w*2)+w*2) q.2)∧∀k,q.1≤k→q.2[k]? =L[k]? }) (fun k=>⟨[(0,_,_),(1,_,_),(2,_,_),(6,_,_),(7, .int .i64 k.1.1,Zf k.1.1),(8, .int .i64 ((w*2+k.1.1:Nat):Int),Zf ((w*2+k.1.1:Nat):Int))],[(1000,hv, .own 51 3 l.length (Z6 k.1.2))]⟩) (fun k=>l.length-k.1.1) ⟨(0,L),⟨0,(Ve _).symm⟩,Xn _,hS,fun c h=>by dsimp only at h;omega,fun _ _=>rfl⟩ (fun a w H=>H.weaken ⟨rfl,rfl,rfl,rfl,rfl,rfl,trivial⟩ ⟨rfl,trivial⟩) ?_;rintro ⟨⟨a,K⟩,ha,han,hSK,hO,hU⟩;dsimp only;dsimp only at ha han hSK hO hU;have hKl:=hSK.len;refine Zd ?_;(refine xL 33 Za (xL 34 Za (xL 35 Tq ?_))<;>refine Zc ?_)
 refine cX ?_ ?_<;>intro hb35
 · first |exact bN hb35|(
 have hab:a+w*2≤l.length:=oM;have hb2:=ZhX hB ha hab;have g1:SrtS leT a (a+w) K:=hb2.1.ext leT fun k k1 k2=>hU k k1;(have g2:SrtS leT (a+w) (w*2+a) K:=by rw [Nat.add_comm (w*2) a];exact hb2.2.ext leT fun k k1 k2=>hU k oM);refine Zd ?_;(refine xL 36 Za (xL 37 Za (xL 38 Za (xL 39 Za ?_)))<;>refine xL 40 ((KH (c:=((a+w:Nat):Int)))) ?_<;>refine xL 41 Za (xL 42 Za ?_)<;>(refine KP (Y8 hv K) ⟨by rw [←hKl];rfl,trivial⟩ ?_;refine LD [] 43 (call283) (Zf0 f hc hv fv _ K oM (hfp hSK) a (a+w) (w*2+a) (Xc _) oM oM oM g1 g2) (fun v43 p43 h43 hR43=>?_);obtain ⟨K2,hS2,hO2,rfl⟩:=hR43;have hK2l:=hS2.len;dsimp only [Y8];rw [hK2l,hKl])<;>refine Zi ?_)
 (refine xL 44 Za (xL 7 Zb ?_)<;>refine Zi ?_)
 (refine xL 45 Za (xL 46 Za ?_)<;>refine xL 47 ((ER (c:=((w*2:Nat):Int)))) ?_<;>refine xL 48 ((KH (c:=((w*2+(w*2+a):Nat):Int)))) ?_<;>refine xL 8 Zb ?_<;>refine Zc ?_)
 refine Zh (
  ⟨(w *2+a,K2),by obtain ⟨c,hc'⟩:=ha;exact ⟨c+1,by dsimp only;rw [X2];omega⟩,by dsimp only;omega,hSK.trans (hS2.mono (Xn _) oM oM),fun c h=>by
    dsimp only at h ⊢;obtain ⟨c0,hc0⟩:=ha;rcases Vz c c0 with h1|h1|h1
    · have:(c+1)*(w*2)≤c0*(w*2):=X7 _ h1;rw [X2] at this;exact (hO c oM).ext leT fun k k1 k2=>hS2.out (.inl oM)
    · subst h1;rw [←hc0,Nat.add_comm a (w*2)];exact hO2
    · have:(c0+1)*(w*2)≤c*(w*2):=X7 _ h1;rw [X2] at this;omega,fun k hk=>by dsimp only at hk ⊢;rw [hS2.out (.inr hk)];exact hU k oM⟩
  ) (by dsimp only;omega) ⟨rfl,rfl,rfl,rfl,rfl,rfl,trivial⟩ ⟨rfl,trivial⟩)
 · first | exact bN hb35|(
 have hna:l.length<a+w*2:=oM;have hb3:=Zf1 hB ha hna hw1;have g1:SrtS leT a (min (a+w) l.length) K:=hb3.1.ext leT fun k k1 k2=>hU k k1;have g2:SrtS leT (a+w) l.length K:=hb3.2.ext leT fun k k1 k2=>hU k oM;refine Zd ?_;(refine xL 49 Za (xL 50 Za ?_)<;>refine xL 51 ((KH (c:=((a+w:Nat):Int)))) ?_<;>refine xL 9 Zb ?_<;>refine Zi ?_)
 (refine xL 52 Za (xL 53 Za (xL 54 ZI ?_))<;>refine Zc ?_)
 refine cX ?_ ?_<;>intro hb54
 · first |exact bN hb54|(
 rw [X' oM] at g1;refine Zd ?_;(refine xL 55 Za (xL 56 Za (xL 57 Za (xL 58 Za (xL 59 Za ?_))))<;>(refine KP (Y8 hv K) ⟨by rw [←hKl];rfl,trivial⟩ ?_;refine LD [] 60 (call283) (Zf0 f hc hv fv _ K oM (hfp hSK) a (a+w) l.length (Xc _) oM oM oM g1 g2) (fun v60 p60 h60 hR60=>?_);obtain ⟨K2,hS2,hO2,rfl⟩:=hR60;have hK2l:=hS2.len;dsimp only [Y8];rw [hK2l,hKl])<;>refine Zi ?_)
 (refine xL 61 Za ?_<;>refine xL 62 ((ER (c:=((w*2:Nat):Int)))) ?_<;>refine xL 6 Zb ?_<;>refine Zc ?_)
 first
  | (exact Zh (
      ⟨(w*2,K),by dsimp only;omega,by dsimp only;omega,hSK,Rh ha hna hO g1⟩
      ) (by dsimp only;omega) ⟨rfl,rfl,rfl,rfl,trivial⟩ ⟨rfl,trivial⟩)
  | (exact Zh (
      ⟨(w*2,K2),by dsimp only;omega,by dsimp only;omega,hSK.trans (hS2.mono (Xn _) oM oM),show ζb (w*2) l.length K2 from Rh ha hna (fun c h=>(hO c h).ext leT fun k k1 k2=>hS2.out (.inl oM)) hO2⟩
      ) (by dsimp only;omega) ⟨rfl,rfl,rfl,rfl,trivial⟩ ⟨rfl,trivial⟩))
 · first |exact bN hb54|(
 rw [Uo oM] at g1;refine Zd ?_;(refine xL 61 Za ?_<;>refine xL 62 ((ER (c:=((w*2:Nat):Int)))) ?_<;>refine xL 6 Zb ?_<;>refine Zc ?_)
 first
  | (exact Zh (
      ⟨(w*2,K),by dsimp only;omega,by dsimp only;omega,hSK,Rh ha hna hO g1⟩
      ) (by dsimp only;omega) ⟨rfl,rfl,rfl,rfl,trivial⟩ ⟨rfl,trivial⟩)
  | (exact Zh (
      ⟨(w*2,K2),by dsimp only;omega,by dsimp only;omega,hSK.trans (hS2.mono (Xn _) oM oM),show ζb (w*2) l.length K2 from Rh ha hna (fun c h=>(hO c h).ext leT fun k k1 k2=>hS2.out (.inl oM)) hO2⟩
      ) (by dsimp only;omega) ⟨rfl,rfl,rfl,rfl,trivial⟩ ⟨rfl,trivial⟩))))
 · first|exact bN hb30|(
 refine nav ?_;have hso:=ZhY hB oM;rw [←hLl] at hso;refine Tc [(1000,hv, .own 51 3 l.length (Z6 L))] (results265) ⟨rfl,trivial⟩ ?_;rw [←ZhK (ZhZ hso) hS.perm];rw [hLl]))
theorem ZdI (f:Nat) (hc:∀args w,(callFunc f args).run prog w= .ok (.enter f args) w) (hv:Value) (fv:Value) (l:List Nd) (hl:l.length≤1000000) (hf:∀x∈l,∀y∈l,AF prog f [pTr x,pTr y] (· =Zf (Wd x y))):AFh False prog 225 [(0,hv, .val hv),(1,fv, .fn f [])] (Y8 hv l) (fun v q h=>h=Y8 hv (EI l)):=by
 unfold Y8
 refine AFh.of_body 9 func225 rfl ntmps225 (Xa rfl) rfl ?_
 intro w0 M0 N0
 refine Zd ?_
 (refine xL 4 Za (xL 5 Za (xL 6 (Y7 1000 WE) (xL 7 Za ?_)))<;>(refine KP (Y8 hv l) ⟨rfl,trivial⟩ ?_;refine LD [] 8 (call265) (ZdH f hc hv fv l hl hf) (fun v8 p8 h8 hR8=>?_);subst hR8;dsimp only [Y8])<;>refine Zc ?_)
 exact Tc (Y8 hv (EI l)) (results225) ⟨rfl,trivial⟩ rfl
theorem Zh0 {l:List Nd} (h:1≤l.length):J' (l.take 1)=l.take 1:=by
 cases l with
 |nil=>simp at h
 |cons x l=>rfl
theorem ζc {l:List Nd} (hs:AscT l) {p:Nat} {x y:Nd} (hy:l[p]? =some y) (hx:l[p+1]? =some x) (he:GX x y=true):J' (l.take (p+1+1))=J' (l.take (p+1)):=by
 have e:=WN.1 he
 subst e
 refine CW (GU _ (hs.sublist (Up _ _))) (GU _ (hs.sublist (Up _ _))) fun z=>?_
 rw [Jy,Jy,ZW hx,Xz,XB]
 exact ⟨fun h=>h.elim id fun h=>by subst h;rw [ZW hy];exact List.mem_append_right _ (XB.2 rfl), .inl⟩
theorem Zcb {l:List Nd} (hs:AscT l) {i j:Nat} {x y:Nd} (hij:i<j) (hx:l[i]? =some x) (hy:l[j]? =some y):leT x y:=by
 obtain ⟨h1,rfl⟩:=Xl.1 hx
 obtain ⟨h2,rfl⟩:=Xl.1 hy
 exact XT.1 hs i j h1 h2 hij
theorem Zcc {l:List Nd} (hs:AscT l) {p:Nat} {x y:Nd} (hy:l[p]? =some y) (hx:l[p+1]? =some x) (he:GX x y=false):J' (l.take (p+1+1))=J' (l.take (p+1))++[x]:=by
 have hyx:Wd y x<0:=OZ (Zcb hs oM hy hx) fun e=>by rw [WN.2 e.symm] at he;cases he
 refine CW (GU _ (hs.sublist (Up _ _))) ?_ fun z=>?_
 · refine List.pairwise_append.2 ⟨GU _ (hs.sublist (Up _ _)),Ui ..,fun z hz w hw=>?_⟩;rw [XB.1 hw];rw [Jy] at hz;obtain ⟨i,hi⟩:=XP hz;have hi':=Zj hi;rw [XF] at hi';rw [XZ oM] at hi;by_cases e:i=p
   · subst e;rw [hi] at hy;cases hy;exact hyx
   · have h:=Zcb hs (show i<p by omega) hi hy;by_cases e2:z=y
     · subst e2;exact hyx
     · have:=OZ h e2;have t1:=TC z y;have t2:=TC y x;have:=ZbM z y x oM oM;omega
 · rw [Xz,Jy,XB,ZW hx,Jy,Xz,XB]
theorem Dc {α β:Type} {f:α→List β} {m:Nat} (hf:∀x,(f x).length=m):∀(L:List α) (k:Nat),(L.flatMap f).take (k*m)=(L.take k).flatMap f
 |[],k=>sM
 |x::L,0=>sM
 | x::L,k+1=>by
   rw [List.take_succ_cons,Xo,Xo,←Dc hf L k,List.take_append,Xy (by rw [hf,XW];omega),hf,show (k+1)*m-m=k*m by rw [XW];omega]
theorem Zf2 {hv:Value} (h:hv.oneCell'=true) (i j k:Nat):(slc hv i j k).oneCell'=true:=by
 unfold slc;split
 · rfl
 · exact h
set_option maxHeartbeats 2000000 in
theorem EU (f : Nat) (hc:∀args w,(callFunc f args).run prog w= .ok (.enter f args) w) (fv:Value) (l:List Nd) (hl:l.length≤1000000) (hs:AscT l) (hf:∀x∈l,∀y∈l,AF prog f [pTr x,pTr y] (· =ZB (GX x y))) (hv:Value) (hvo:hv.oneCell'=true):AFh False prog 227 [(0,hv, .val hv),(1,fv, .fn f [])] [(1000,hv, .own 51 3 l.length (Z6 l))] (fun v q h=>v.oneCell'=true∧q= .val v∧h=[(1000,v, .own 51 3 (J' l).length (Z6 (J' l)))]):=by
 refine AFh.of_body 66 func227 rfl ntmps227 (Xa rfl) rfl ?_
 intro w0 M0 N0
 refine Zd ?_
 (refine xL 4 Zb ?_<;>refine Zi ?_)
 (refine xL 8 Za (xL 9 (Y7 1000 WE) (xL 10 ZI ?_))<;>refine Zc ?_)
 refine cX ?_ ?_<;>intro hb10
 · first|exact bN hb10|(
 refine Zd ?_;(refine xL 11 Za (xL 4 Zb ?_)<;>refine Zc ?_)
 refine ZfF [(1000,hv,PV.own 51 3 l.length (Z6 l))] (results227) rfl ⟨rfl,trivial⟩ ⟨hvo,rfl,?_⟩;have hm:J' l=l:=by
  match l,hl,hb10 with
  |[],_,_=>rfl
  |[_],_,_=>rfl
  |_::_::_,_,h=>simp at h;omega
 rw [hm])
 · first | exact bN hb10|(
 refine Zd ?_;(refine xL 5 Zb ?_<;>refine Zc ?_)
 refine Zy (ι:={k:Nat//1≤k∧k≤l.length∧J' (l.take k)=l.take k}) (fun k=>⟨[(0,_,_),(1,_,_),(5, .int .i64 k.1,Zf k.1)],[(1000,_,_)]⟩) (fun k=>l.length-k.1) ⟨1,Xc _,oM,Zh0 oM⟩ (fun a w H=>H.weaken ⟨rfl,rfl,rfl,trivial⟩ ⟨rfl,trivial⟩) ?_;rintro ⟨k1,hk1,hk,hmk⟩;dsimp only;obtain ⟨k,rfl⟩:∃k,k1=k+1:=⟨k1-1,oM⟩;refine Zd ?_;(refine xL 12 Za (xL 13 Za (xL 14 (Y7 1000 WE) (xL 15 ZI ?_)))<;>refine Zc ?_)
 refine cX ?_ ?_<;>intro hb15
 · first | exact bN hb15|(
 obtain ⟨x,hx⟩:=Zm (show k+1<l.length by omega);obtain ⟨y,hy⟩:=Zm (show k<l.length by omega);have e1:=Z9 hx;have e2:=Yu hx;have e3:=Z9 hy;have e4:=Yu hy;have hlt:k+1<l.length:=Zj hx;refine nav ?_;(refine ZM (fun i=>([]:List Nat).elem i) [1000] kR ?_<;>refine xD 0 18 rfl Za ?_<;>refine xD 1 19 rfl Za ?_<;>refine xD 2 20 rfl Za ?_<;>refine xD 3 21 rfl (Zq 1000 WE) ?_<;>(refine yD 4 22 rfl (Zu 1000 JU) fun v22 h=>?_;cases h)<;>refine xD 5 23 rfl Za ?_<;>refine xE 6 24 rfl Za ?_<;>refine xE 7 25 rfl ((WK (c:=((k:Nat):Int)))) ?_<;>refine xE 8 26 rfl (Zq 1000 WE) ?_<;>(refine yE 9 27 rfl (Zu 1000 JU) fun v27 h=>?_;cases h)<;>(refine Zk 10 kR ?_)<;>(refine YH (d:=28) rfl (J7 (f:=f) (ps:=[]) rfl ⟨_,rfl⟩ hc rfl (hf x (Xb hx) y (Xb hy))) fun v28 h=>?_;cases h)<;>refine Ym kR (nav ?_)<;>try dsimp only)
 refine cX ?_ ?_<;>intro hb28
 · first | exact bN hb28|(
 have hsm:=ζc hs hy hx (by unfold GX;simpa using hb28);(have hl1:(J' (l.take (k+1+1))).length=k+1:=by rw [hsm,hmk,XF];omega);refine Zd ?_;(refine xL 29 Za (xL 30 Za ?_)<;>refine xL 31 (RB (i:=k+1) (j:=l.length) 1000 WE rfl rfl rfl rfl rfl (Nat.le_of_lt hlt) (Xc _)) ?_<;>refine xL 6 Zb ?_<;>refine Zi ?_)
 (refine xL 7 Zb ?_<;>refine Zc ?_)
 refine Zy (ι:={q:Nat×Nat×List Nd//1≤q.1∧k+1+q.1≤l.length∧q.2.1=(J' (l.take (k+1+q.1))).length∧q.2.2.length=l.length∧q.2.2.take q.2.1=J' (l.take (k+1+q.1))∧q.2.1≤k+q.1∧∀i,k+q.1≤i→q.2.2[i]? =l[i]? }) (fun k=>⟨[(0,_,_),(1,_,_),(6,_,_),(5, .int .i64 k.1.2.1,Zf k.1.2.1),(7, .int .i64 k.1.1,Zf k.1.1)],[(1000,hv, .own 51 3 l.length (Z6 k.1.2.2))]⟩) (fun k=>l.length-k.1.1) ⟨(1,k+1,l),Xc _,by dsimp only;omega,hl1.symm,rfl,by dsimp only;rw [hsm,hmk],Xc _,fun i _=>rfl⟩ (fun a w H=>H.weaken ⟨rfl,rfl,rfl,rfl,rfl,trivial⟩ ⟨rfl,trivial⟩) ?_;rintro ⟨⟨j,K,L⟩,hj1,hj,hK,hLl,hLt,hKj,hLr⟩;dsimp only;dsimp only at hj1 hj hK hLl hLt hKj hLr;obtain ⟨j',rfl⟩:∃j',j=j'+1:=⟨j-1,oM⟩;have hK2:(K:Int)≤1000000:=oM;rw [show k+1+(j'+1)=k+1+j'+1 from rfl] at hK hLt;refine Zd ?_;(refine xL 32 Za (xL 33 Za ?_)<;>refine xL 34 ((ZdF (a:=k+1) (m:=l.length-(k+1)) 1000 WE rfl rfl rfl rfl)) ?_<;>refine xL 35 ZI ?_<;>refine Zc ?_)
 refine cX ?_ ?_<;>intro hb35
 · first | exact bN hb35|(
 obtain ⟨u,hu⟩:=Zm (show k+1+(j'+1)<l.length by omega);obtain ⟨v,hv2⟩:=Zm (show k+1+j'<l.length by omega);(have hu':L[k+1+(j'+1)]? =some u:=by rw [hLr _ oM];exact hu);(have hv':L[k+1+j']? =some v:=by rw [hLr _ oM];exact hv2);have g1:=Z9 hu';have g2:=Yu hu';have g3:=Z9 hv';have g4:=Yu hv';have g5:K<L.length:=oM;(have g6:K*3+3≤(Z6 L).length:=by rw [Da];omega);refine nav ?_;(refine ZM (fun i=>([]:List Nat).elem i) [1000] kR ?_<;>refine xD 0 38 rfl Za ?_<;>refine xD 1 39 rfl Za ?_<;>refine xD 2 40 rfl Za ?_<;>refine xD 3 41 rfl ((R5 (a:=k+1) (m:=(k+1+(j'+1))*3) 1000 WE rfl rfl rfl rfl oM oM oM)) ?_<;>(refine yD 4 42 rfl (Zu 1000 JU) fun v42 h=>?_;cases h)<;>refine xD 5 43 rfl Za ?_<;>refine xE 6 44 rfl Za ?_<;>refine xE 7 45 rfl ((WK (c:=((j':Nat):Int)))) ?_<;>refine xE 8 46 rfl ((R5 (a:=k+1) (m:=(k+1+j')*3) 1000 WE rfl rfl rfl rfl oM oM oM)) ?_<;>(refine yE 9 47 rfl (Zu 1000 JU) fun v47 h=>?_;cases h)<;>(refine Zk 10 kR ?_)<;>(refine YH (d:=48) rfl (J7 (f:=f) (ps:=[]) rfl ⟨_,rfl⟩ hc rfl (hf u (Xb hu) v (Xb hv2))) fun v48 h=>?_;cases h)<;>refine xE 11 49 rfl Yd ?_<;>refine Ym kR (nav ?_)<;>try dsimp only)
 refine cX ?_ ?_<;>intro hb49
 · first |exact bN hb49|(
 have hnw2:=Zcc hs hv2 hu (by simpa using hb49);have hset:=ET L K u g5;(have hlen2:K+1=(J' (l.take (k+1+j'+1+1))).length:=by rw [hnw2,Xf,XA,hK]);have htk2:(L.set K u).take (K+1)=J' (l.take (k+1+j'+1+1)):=by
  rw [hnw2,←hLt,List.take_set,ZW (Xp g5),Vk _ _ (by rw [XF];omega),XF,X' oM,X6];rfl
 refine Zd ?_;(refine xL 50 Za (xL 51 Za (xL 52 Za (xL 53 Za ?_)))<;>refine xL 54 ((R5 (a:=k+1) (m:=(k+1+(j'+1))*3) 1000 WE rfl rfl rfl rfl oM oM oM)) ?_<;>(refine yL 55 (Zu 1000 JU) fun v55 h=>?_;cases h)<;>refine xL 56 (Zq 1000 WE) ?_<;>refine Zw 1000 JU ?_<;>refine Zi ?_)
 (refine xL 57 Za (xL 58 ZH (xL 5 Zb ?_))<;>refine Zi ?_)
 (refine xL 36 Za (xL 37 ZH (xL 7 Zb ?_))<;>refine Zc ?_)
 try rw [hset]
 first
  | (exact Zh (
      ⟨(j'+1+1,K+1,L.set K u),by dsimp only;omega,by dsimp only;omega,hlen2,by dsimp only;rw [Xh];exact hLl,htk2,by dsimp only;omega,fun i hi=>by dsimp only at hi ⊢;rw [X0 oM];exact hLr i oM⟩
      ) (by dsimp only;omega) ⟨rfl,rfl,rfl,rfl,rfl,trivial⟩ ⟨rfl,trivial⟩)
  | (exact Zh (
      ⟨(j'+1+1,K,L),by dsimp only;omega,by dsimp only;omega,hK.trans (by rw [show k+1+(j'+1+1)=k+1+j'+1+1 by omega,hsm2]),hLl,hLt.trans (by rw [show k+1+(j'+1+1)=k+1+j'+1+1 by omega,hsm2]),by dsimp only;omega,fun i hi=>hLr i (by dsimp only at hi;omega)⟩
      ) (by dsimp only;omega) ⟨rfl,rfl,rfl,rfl,rfl,trivial⟩ ⟨rfl,trivial⟩))
 · first |exact bN hb49|(
 have hsm2:=ζc hs hv2 hu (by simpa using hb49);refine Zd ?_;(refine xL 36 Za (xL 37 ZH (xL 7 Zb ?_))<;>refine Zc ?_)
 try rw [hset]
 first
  | (exact Zh (
      ⟨(j'+1+1,K+1,L.set K u),by dsimp only;omega,by dsimp only;omega,hlen2,by dsimp only;rw [Xh];exact hLl,htk2,by dsimp only;omega,fun i hi=>by dsimp only at hi ⊢;rw [X0 oM];exact hLr i oM⟩
      ) (by dsimp only;omega) ⟨rfl,rfl,rfl,rfl,rfl,trivial⟩ ⟨rfl,trivial⟩)
  | (exact Zh (
      ⟨(j'+1+1,K,L),by dsimp only;omega,by dsimp only;omega,hK.trans (by rw [show k+1+(j'+1+1)=k+1+j'+1+1 by omega,hsm2]),hLl,hLt.trans (by rw [show k+1+(j'+1+1)=k+1+j'+1+1 by omega,hsm2]),by dsimp only;omega,fun i hi=>hLr i (by dsimp only at hi;omega)⟩
      ) (by dsimp only;omega) ⟨rfl,rfl,rfl,rfl,rfl,trivial⟩ ⟨rfl,trivial⟩)))
 · first|exact bN hb35|(
 have hall:l.take (k+1+j'+1)=l:=Xy oM;rw [hall] at hK hLt;have hKl:K≤l.length:=oM;refine Zd ?_;(refine xL 59 Za (xL 60 Za ?_)<;>refine xL 61 (RB (i:=K) (j:=l.length) 1000 WE rfl rfl rfl rfl rfl hKl (Xc _)) ?_<;>(refine ZfG 1000 ZdG dC rfl rfl rfl rfl rfl hKl ?_;intro cs2 hcs1 hcs2)<;>refine Zi ?_)
 (refine xL 62 Za (xL 63 Za ?_)<;>refine xL 64 (RB (i:=0) (j:=K) 1000 WE rfl rfl rfl rfl rfl (Xn _) hKl) ?_<;>refine xL 4 Zb ?_<;>refine Zc ?_)
 refine YP (ZkL (l:=1000) K rfl hKl) fun _=>?_;refine ZfF [(1000,slc hv 0 K 3,PV.own 51 3 K (cs2.take (K*3)))] (results227) rfl ⟨rfl,trivial⟩ ⟨Zf2 hvo _ _ _,rfl,?_⟩;rw [hcs2,←hLt,Y3,Dc Tb,←Y3];rw [show (L.take K).length=K by rw [XF];omega]))
 · first|exact bN hb28|(
 have hnw:=Zcc hs hy hx (by unfold GX;simpa using hb28);rw [hmk,←ZW hx] at hnw;refine Zd ?_;(refine xL 16 Za (xL 17 ZH (xL 5 Zb ?_))<;>refine Zc ?_)
 refine Zh (
  ⟨k+1+1,oM,oM,hnw⟩
  ) (by dsimp only;omega) ⟨rfl,rfl,rfl,trivial⟩ ⟨rfl,trivial⟩))
 · first|exact bN hb15|(
 refine Zd ?_;(refine xL 65 Za (xL 4 Zb ?_)<;>refine Zc ?_)
 refine ZfF [(1000,hv,PV.own 51 3 l.length (Z6 l))] (results227) rfl ⟨rfl,trivial⟩ ⟨hvo,rfl,?_⟩;rw [Xy (show l.length≤k+1 by omega)] at hmk;rw [hmk]))
theorem K8:AggT prog 51 3=true:=by kernel_rfl
theorem R6:ElT prog 49 51 3 48 (.agg #[(.int .i64 0),(.string ByteArray.empty),(.slice none 0 0)]):=⟨underlying49,by kernel_rfl,rfl,dC⟩
theorem PM:FldT prog 51 0 0=true:=by kernel_rfl
theorem ζd:FldT prog 51 2 2=true:=by kernel_rfl
theorem ζe:NoAgg prog 3=true:=by kernel_rfl
theorem ZdJ:NoAgg prog 49=true:=by kernel_rfl
theorem T7:SlT prog 49 51 3=true:=by kernel_rfl
theorem HM:K6 prog 51=some ((.agg #[(.int .i64 0),(.string ByteArray.empty),(.slice none 0 0)]),([0,1,2]:List Nat).map fun o=>(o,1)):=by kernel_rfl
theorem HN:ZeroT prog 51 (.agg #[(.int .i64 0),(.string ByteArray.empty),(.slice none 0 0)]):=by unfold ZeroT;kernel_rfl
theorem SE (t:Nd):szT t=1+szL t.l:=by cases t;rw [szT];rfl
theorem ζf {l m:List Nd} (h:l.Perm m):szL l=szL m:=by
 induction h with
 |nil=>rfl
 |cons x _ ih=>rw [szL,szL,ih]
 |swap x y l=>simp only [szL];omega
 |trans _ _ h1 h2=>exact h1.trans h2
theorem Zcd:∀l:List Nd,szL (J' l)≤szL l
 |[]=>Xc _
 |[x]=>Xc _
 | x::y::m=>by
   have:=Zcd (y::m);rw [J'];split
   · rw [szL];omega
   · rw [szL,szL];omega
theorem EW (op:Int) (l:List Nd):szL (Wj op l)≤szL l:=by
 induction l with
 |nil=>exact Xc _
 | cons x l ih=>
   unfold Wj at ih ⊢;rw [Xo,GR,szL];have:szL (if x.op=op then x.l else if x.op≠2∨op=4 then [x] else [])≤szT x:=by
    split
    · rw [SE];omega
    · split
      · simp [szL]
      · simp [szL]
   omega
theorem T8 (l:List Nd):l.length≤szL l:=by
 induction l with
 |nil=>exact Xc _
 |cons x l ih=>have:=ZbP x;rw [szL,Xg];omega
theorem Zce (op:Int) (p:List Nd):szL (LA op p)≤szL p:=by
 unfold LA
 split
 · exact Xc _
 · split
   · exact XG (Zcd _) (Nat.le_of_eq (ζf (JQ p)))
   · exact Nat.le_of_eq (ζf (JQ p))
theorem ZjE (op:Int):∀p:List Nd,szT (Ha op p)≤1+szL p
 |[]=>by rw [Ha];exact Xc _
 |[x]=>by rw [Ha,szL];omega
 |x::y::l=>by rw [Ha,szT];exact Xc _
theorem Zcf (op:Int) (l:List Nd):szT (Ra op l)≤1+szL l:=by
 unfold Ra
 have h1:=ZjE op (LA op (Wj op l))
 have h2:=Zce op (Wj op l)
 have h3:=EW op l
 omega
theorem Zh1 (f s:Nd):szT (KO f s).1+szT (KO f s).2≤szT f+szT s:=by
 unfold KO
 split
 · split
   · rename_i a b r hl;have h1:=Zcf 4 [b,s];have h2:=SE f;rw [hl] at h2;simp only [szL] at h1 h2 ⊢;omega
   · exact Xc _
 · exact Xc _
theorem ZjF (l:List Nd):szT (Zjw l)≤1+szL l:=by
 match l with
 |[]=>exact VI 1 _
 |[x]=>exact VI 1 _
 | f::s::r=>
   have h:=Zh1 f s;rw [Zjw,CX];split
   · exact VI 1 _
   · rw [szT];simp only [szL];omega
theorem ZjG (o:Int) (a:ByteArray) (l:List Nd):szT (Hb o a l)≤1+szL l:=by
 unfold Hb
 split
 · rw [szT,szL];omega
 · split
   · exact ZjF l
   · exact Zcf o l
theorem SF:∀t:Nd,szT (Yg t)≤szT t:=Nd.ind fun o a l ih=>by
 rw [Yg,szT]
 have h1:=ZjG o a (Kl l)
 have h2:szL (Kl l)≤szL l:=by
  clear h1;induction l with
  |nil=>exact Xc _
  | cons x l ih2=>
    rw [Kl,szL,szL];have h3:=ih x (XQ ..);have h4:=ih2 fun y hy=>ih y (XS _ hy);omega
 omega
theorem ZdK {s:ByteArray} (h:isName s=true):s.size≤40:=by
 rcases Xv 40 s.size with h1|h1
 · rw [L6 (.inr h1)] at h;cases h
 · exact h1
theorem ζg {t:Nd} (h:rightT t=true):t.act.size≤40:=by
 unfold rightT at h
 split at h
 · simp only [Xe] at h;exact ZdK h.2
 · split at h
   · simp only [Xe,Ux] at h;rw [h.2];decide
   · split at h
     · simp only [Xe,Ux] at h;rw [h.2];decide
     · split at h
       · simp only [Xe,Ux] at h;rw [h.2];decide
       · cases h
theorem T9:∀t:Nd,okT t=true→szT t≤1000000→FitT t:=Nd.ind fun o a l ih hok hs=>by
 obtain ⟨h1,h2⟩:=Jw.1 hok
 have h3:=SE (.mk o a l)
 have h4:=T8 l
 have h5:=ζg h1
 have h6:=RR h1
 simp only [Nd.l,Nd.act,Nd.op] at h3 h5 h6 h2
 refine .mk _ (by show l.length≤_;omega) (by show a.size≤_;omega) (by show _≤o;omega) (by show o≤_;omega) fun x hx=>?_
 have h7:=S8 (show x∈l from hx)
 exact ih x hx (h2 x hx) oM
theorem Dd {t:Nd} (h:okT t=true):okT (Yg t)=true:=(Zjy t h).ok
theorem T' {t:Nd} (h:okT t=true) (hs:szT t≤1000000):FitT (Yg t):=T9 _ (Dd h) (XG (SF t) hs)
theorem Zf3 (op:Int) {l:List Nd} {k:Nat} {x:Nd} (h:l[k]? =some x):Wj op (l.take (k+1))=Wj op (l.take k)++(if x.op=op then x.l else if x.op≠2∨op=4 then [x] else []):=by
 unfold Wj
 rw [ZW h,Va,Un]
theorem Zf4 {op:Int} {l:List Nd} {y:Nd} (h:y∈Wj op l):∃x∈l,y=x∨y∈x.l:=by
 unfold Wj at h
 obtain ⟨x,hx,hy⟩:=Uj.1 h
 split at hy
 · exact ⟨x,hx, .inr hy⟩
 · split at hy
   · exact ⟨x,hx, .inl (XB.1 hy)⟩
   · cases hy
theorem Zh2 {op:Int} {l:List Nd} (h:∀x∈l,FitT x):∀y∈Wj op l,FitT y:=fun y hy=>by
 obtain ⟨x,hx,h1|h1⟩:=Zf4 hy
 · rw [h1];exact h x hx
 · exact (h x hx).p y h1
theorem Ri (op:Int) (l:List Nd) (k:Nat):(Wj op (l.take k)).length≤szL l:=by
 have h1:=T8 (Wj op (l.take k))
 have h2:=EW op (l.take k)
 have h3:szL (l.take k)≤szL l:=by
  conv=>rhs;rw [←VH k l]
  rw [GR];omega
 omega
theorem EX (l:List Nd):(Z6 l).all En.one=true:=by
 rw [Y3,Xj]
 intro p hp
 obtain ⟨x,_,hx⟩:=Uj.1 hp
 rcases Xi.1 hx with h|hx
 · subst h;rfl
 · rcases Xi.1 hx with h|hx
   · subst h;rfl
   · rcases Xi.1 hx with h|hx
     · subst h;rfl
     · cases hx
theorem HO (l:List Nd) (x:Nd):Z6 l++cN x=Z6 (l++[x]):=by
 rw [Y3,Y3,Va,Un]
theorem Zf5 (l m:List Nd):Z6 l++Z6 m=Z6 (l++m):=by
 rw [Y3,Y3,Y3,Va]
theorem ZaN:Rr (.agg [.val (.int .i64 2), .val (.string ByteArray.empty), .val (.slice none 0 0)]) (pTr D'):=Rr.agg rfl fun i a b ha hb=>by
 match i with
 |0=>cases ha;cases hb;exact Rr.rfl' _
 |1=>cases ha;cases hb;exact Rr.rfl' _
 |2=>cases ha;cases hb;exact Rr.nil
 |i+3=>simp at ha
theorem GC (e n:Nat) (l:List Nd) (hn:n=l.length):share (.own e 3 n (Z6 l))=Y4 l:=by
 subst hn
 rw [share,Z7,Y3,Uq]
 unfold Y4
 rw [Y3];rfl
def sS (op:Int) (p:List Nd):List Nd:=if op=3 then p else EI p
theorem ZjH (op:Int) (p:List Nd):(sS op p).length=p.length:=by
 unfold sS;split
 · rfl
 · exact (JQ p).length_eq
theorem ZjI {op:Int} {p:List Nd} (h:op≠4):sS op p=LA op p:=by
 unfold sS LA
 by_cases h3:op=3
 · rw [UB h3,UB h3]
 · rw [UA h3,UA h3,UA h]
theorem Zf6 {op:Int} {p:List Nd} {x:Nd}:x∈sS op p→x∈p:=by
 unfold sS;split
 · exact id
 · exact (JQ p).mem_iff.1
set_option maxHeartbeats 4000000 in
theorem On (op : Int) (l:List Nd) (h1: -9223372036854775808≤op) (h2:op≤9223372036854775807) (hF:∀x∈l,FitT x) (hn:szL l≤1000000):AF prog 183 [Zf op,Y4 l] (· =pTr (Ra op l)):=by
 have hll:l.length≤1000000:=XG (T8 l) hn
 refine AF.of_body 57 func183 rfl ntmps183 (Xa rfl) ?_
 intro w0 M0 vs hl hv
 obtain ⟨v0,v1,rfl⟩:=W7 hl
 obtain rfl:=hv 0 _ _ rfl rfl
 clear hl hv
 refine Zd ?_
 (refine ZA [(.int .i64 0),(.string ByteArray.empty),(.slice none 0 0)] 3 4 HN fun h4=>?_<;>refine Zi ?_)
 (refine xL 5 Zb ?_<;>refine Zc ?_)
 refine ZE (W3 1000 51 3 rfl) fun _=>?_
 (refine Zo ?_<;>refine xL 8 Za (xL 9 (ZF T7) (xL 10 Za ?_))<;>refine Zc ?_)
 refine Zy (ι:={q:Nat×Value//q.1≤l.length∧q.2.oneCell'=true}) (fun k=>⟨[(0,_,_),(4,_,_),(8,_,_),(9,_,_),(5,k.1.2, .val k.1.2),(10, .int .i64 k.1.1,Zf k.1.1)],[(4,_,_),(1000,k.1.2, .own 51 3 (Wj op (l.take k.1.1)).length (Z6 (Wj op (l.take k.1.1))))]⟩) (fun k=>l.length-k.1.1) ⟨(0, .slice none 0 0),Xn _,rfl⟩ (fun a w H=>H.weaken ⟨rfl,rfl,rfl,rfl,rfl,rfl,trivial⟩ ⟨rfl,rfl,trivial⟩) ?_
 rintro ⟨⟨k,hO⟩,hk,hOo⟩
 dsimp only
 dsimp only at hk hOo
 have hpl:=Ri op l k
 have hpl2:=Ri op l (k+1)
 refine Zd ?_
 (refine xL 11 ZI ?_<;>refine Zc ?_)
 refine cX ?_ ?_<;>intro hb11
 · first | exact bN hb11|(
 obtain ⟨x,hx⟩:=Zm (show k<l.length by omega);have e1:((Z6 l).drop (k*3)).take 3=[Zf x.op,ZD x.act,Y4 x.l]:=Z9 hx;have e2:=Yu hx;have hsn:=Zf3 op hx;have hxf:=hF x (Xb hx);have f1:(Z6 x.l).length=x.l.length*3:=Da _;have f2:=EX x.l;refine Zd ?_;(refine xL 12 (Zv T7) ?_<;>(refine yL 13 (Wl K8) fun v13 h=>?_;cases h)<;>refine ZA [(.int .i64 0),(.string ByteArray.empty),(.slice none 0 0)] 3 7 HN fun h7=>?_<;>refine Zw 7 K8 ?_<;>refine Zi ?_)
 (refine xL 15 (Zn 7 PM) ?_<;>(refine yL 16 (Zr 7 ζe) fun v16 h=>?_;cases h)<;>refine xL 17 Za (xL 18 ZU (xL 14 Zb ?_))<;>refine Zc ?_)
 refine cX ?_ ?_<;>intro hb14
 · first |exact bN hb14|(
 rw [UB hb14] at hsn;(have hsl:(Wj op (l.take (k+1))).length=(Wj op (l.take k)).length+x.l.length:=by rw [hsn,Xf]);refine Zd ?_;(refine xL 19 Za (xL 20 (Zn 7 ζd) ?_)<;>(refine yL 21 (Zr 7 ZdJ) fun v21 h=>?_;cases h)<;>(refine O4 1000 22 R6 (fun h22 ho22=>?_) f1 f2;refine ZJ (Z5 (l:=22) 1000 rfl rfl) fun _=>?_;refine ZJ (KG (l:=1000) (p':= .own 51 3 (Wj op (l.take (k+1))).length (Z6 (Wj op (l.take (k+1))))) rfl (by rw [Zf5,←hsn,hsl])) fun _=>?_)<;>refine xL 5 Zb ?_<;>refine Zi ?_)
 (refine xL 35 ZH (xL 10 Za ?_)<;>refine Zc ?_)
 first
  | (exact Zh (
      ⟨(k+1,h22),Zj hx,ho22⟩
      ) (by dsimp only;omega) ⟨rfl,rfl,rfl,rfl,rfl,rfl,trivial⟩ ⟨rfl,rfl,trivial⟩)
  | (exact Zh (
      ⟨(k+1,h34),Zj hx,ho34⟩
      ) (by dsimp only;omega) ⟨rfl,rfl,rfl,rfl,rfl,rfl,trivial⟩ ⟨rfl,rfl,trivial⟩)
  | (exact Zh (
      ⟨(k+1,hO),Zj hx,hOo⟩
      ) (by dsimp only;omega) ⟨rfl,rfl,rfl,rfl,rfl,rfl,trivial⟩ ⟨rfl,rfl,trivial⟩))
 · first | exact bN hb14|(
 rw [UA hb14] at hsn;refine Zd ?_;(refine xL 24 (Zn 7 PM) ?_<;>(refine yL 25 (Zr 7 ζe) fun v25 h=>?_;cases h)<;>refine xL 26 Wg (xL 27 Za ?_)<;>(refine bLd 27 (fun hb27=>?_) (fun hb27=>?_)<;>(first|refine kL 28 ?_|refine xL 28 Za ?_))<;>(first|refine kL 29 ?_|refine xL 29 ZU ?_)<;>refine xL 30 Zt (xL 23 Zb ?_)<;>refine Zc ?_)<;>(
 refine cX ?_ ?_<;>intro hb23
 · first |exact bN hb23|(
 rw [UB oM] at hsn;(have hsl:(Wj op (l.take (k+1))).length=(Wj op (l.take k)).length+1:=by rw [hsn,Xf];rfl);refine Zd ?_;(refine xL 31 Za ?_<;>(refine yL 32 (Zu 7 K8) fun v32 h=>?_;cases h)<;>refine Ju 33 R6 fun h33 ho33=>?_<;>(refine Kd 1000 33 34 R6 fun h34 ho34=>?_;refine ZJ (Z5 (l:=34) 1000 rfl rfl) fun _=>?_;refine ZJ (KG (l:=1000) (p':= .own 51 3 (Wj op (l.take (k+1))).length (Z6 (Wj op (l.take (k+1))))) rfl (Eq.trans (congrArg (PV.own 51 3 _) (show _=Z6 (Wj op (l.take k))++cN x from rfl)) (by rw [HO,←hsn,hsl]))) fun _=>?_)<;>refine xL 5 Zb ?_<;>refine Zi ?_)
 (refine xL 35 ZH (xL 10 Za ?_)<;>refine Zc ?_)
 first
  | (exact Zh (
      ⟨(k+1,h22),Zj hx,ho22⟩
      ) (by dsimp only;omega) ⟨rfl,rfl,rfl,rfl,rfl,rfl,trivial⟩ ⟨rfl,rfl,trivial⟩)
  | (exact Zh (
      ⟨(k+1,h34),Zj hx,ho34⟩
      ) (by dsimp only;omega) ⟨rfl,rfl,rfl,rfl,rfl,rfl,trivial⟩ ⟨rfl,rfl,trivial⟩)
  | (exact Zh (
      ⟨(k+1,hO),Zj hx,hOo⟩
      ) (by dsimp only;omega) ⟨rfl,rfl,rfl,rfl,rfl,rfl,trivial⟩ ⟨rfl,rfl,trivial⟩))
 · first |exact bN hb23|(
 rw [UA oM,Xu] at hsn;refine ZE (KG (l:=1000) (p':= .own 51 3 (Wj op (l.take (k+1))).length (Z6 (Wj op (l.take (k+1))))) rfl (by rw [hsn])) fun _=>?_;refine Zd ?_;(refine xL 35 ZH (xL 10 Za ?_)<;>refine Zc ?_)
 first
  | (exact Zh (
      ⟨(k+1,h22),Zj hx,ho22⟩
      ) (by dsimp only;omega) ⟨rfl,rfl,rfl,rfl,rfl,rfl,trivial⟩ ⟨rfl,rfl,trivial⟩)
  | (exact Zh (
      ⟨(k+1,h34),Zj hx,ho34⟩
      ) (by dsimp only;omega) ⟨rfl,rfl,rfl,rfl,rfl,rfl,trivial⟩ ⟨rfl,rfl,trivial⟩)
  | (exact Zh (
      ⟨(k+1,hO),Zj hx,hOo⟩
      ) (by dsimp only;omega) ⟨rfl,rfl,rfl,rfl,rfl,rfl,trivial⟩ ⟨rfl,rfl,trivial⟩)))))
 · first | exact bN hb11|(
 rw [Xy (show l.length≤k by omega)];rw [Xy (show l.length≤k by omega)] at hpl;have hFp:=Zh2 (op:=op) hF;refine Zd ?_;(refine xL 36 Za (xL 37 Wg ?_)<;>refine Zc ?_)
 refine Js (fun h4:Value=>⟨[(0, .int .i64 op,Zf op),(4,padd (sbase h4) 0, .val (padd (sbase h4) 0)),(5,hO, .val hO)],[(1000,hO, .own 51 3 (sS op (Wj op l)).length (Z6 (sS op (Wj op l)))),(4,h4, .own 51 3 1 [.val (.int .i64 0), .val (.string ByteArray.empty), .val (.slice none 0 0)])]⟩) ?_ ?_
 · refine cX ?_ ?_<;>intro hb37
   · first|exact bN hb37|(
 refine Zd ?_;(refine xL 38 Za ?_<;>(refine KP [(1000,hO,PV.own 51 3 (Wj op l).length (Z6 (Wj op l))),(4,_,_)] ⟨rfl,rfl,trivial⟩ ?_;refine LD [4] 39 (call225) (ZdI 226 (call226) hO (.func (.func 226) #[] #[]) (Wj op l) oM (fun x hx y hy=>ZjC x y (hFp x hx) (hFp y hy))) (fun v39 p39 h39 hR39=>?_);subst hR39;dsimp only [Y8];refine ZJ (KG (l:=1000) (p':= .own 51 3 (sS op (Wj op l)).length (Z6 (sS op (Wj op l)))) rfl (by unfold sS;rw [UA hb37])) fun _=>?_)<;>refine Zc ?_)
 exact YM _ ⟨rfl,rfl,rfl,trivial⟩ ⟨rfl,rfl,trivial⟩)
   · first|exact bN hb37|(
 refine ZE (KG (l:=1000) (p':= .own 51 3 (sS op (Wj op l)).length (Z6 (sS op (Wj op l)))) rfl (by unfold sS;rw [UB oM])) fun _=>?_;refine nav ?_;exact YM _ ⟨rfl,rfl,rfl,trivial⟩ ⟨rfl,rfl,trivial⟩)
 · rintro h4;have hsl:=ZjH op (Wj op l);refine Zd ?_;(refine xL 40 Za (xL 41 ZU ?_)<;>refine Zc ?_)
   refine Js (fun q:Value×{h:Value//h.oneCell'=true}=>⟨[(0, .int .i64 op,Zf op),(4,padd (sbase q.1) 0, .val (padd (sbase q.1) 0)),(5,q.2.1, .val q.2.1)],[(1000,q.2.1, .own 51 3 (LA op (Wj op l)).length (Z6 (LA op (Wj op l)))),(4,q.1, .own 51 3 1 [.val (.int .i64 0), .val (.string ByteArray.empty), .val (.slice none 0 0)])]⟩) ?_ ?_
   · refine cX ?_ ?_<;>intro hb41
     · first|exact bN hb41|(
 (have hasc:AscT (sS op (Wj op l)):=by unfold sS;rw [UA oM];exact S9 _);(have hord:J' (sS op (Wj op l))=LA op (Wj op l):=by unfold sS LA;rw [UA oM,UA oM,UB oM]);refine Zd ?_;(refine xL 42 Za ?_<;>(refine KP [(1000,hO,PV.own 51 3 (sS op (Wj op l)).length (Z6 (sS op (Wj op l)))),(4,_,_)] ⟨rfl,rfl,trivial⟩ ?_;refine LD [4] 43 (call227) (EU 228 (call228) (.func (.func 228) #[] #[]) (sS op (Wj op l)) oM hasc (fun x hx y hy=>ZhT x y (hFp x (Zf6 hx)) (hFp y (Zf6 hy))) hO hOo) ?_;rintro v43 _ _ ⟨hv43,rfl,rfl⟩;refine ZJ (KG (l:=1000) (p':= .own 51 3 (LA op (Wj op l)).length (Z6 (LA op (Wj op l)))) rfl (by rw [hord])) fun _=>?_)<;>refine xL 5 Zb ?_<;>refine Zc ?_)
 first
 |exact YM (h4,⟨v43,hv43⟩) ⟨rfl,rfl,rfl,trivial⟩ ⟨rfl,rfl,trivial⟩
 |exact YM (h4,⟨hO,hOo⟩) ⟨rfl,rfl,rfl,trivial⟩ ⟨rfl,rfl,trivial⟩)
     · first|exact bN hb41|(
 refine ZE (KG (l:=1000) (p':= .own 51 3 (LA op (Wj op l)).length (Z6 (LA op (Wj op l)))) rfl (by rw [ZjI oM])) fun _=>?_;refine nav ?_
 first
 |exact YM (h4,⟨v43,hv43⟩) ⟨rfl,rfl,rfl,trivial⟩ ⟨rfl,rfl,trivial⟩
 |exact YM (h4,⟨hO,hOo⟩) ⟨rfl,rfl,rfl,trivial⟩ ⟨rfl,rfl,trivial⟩)
   · rintro ⟨h4,hP,hPo⟩;dsimp only;have hol:(LA op (Wj op l)).length≤1000000:=XG (T8 _) (XG (Zce _ _) (XG (EW _ _) hn));unfold Ra;generalize LA op (Wj op l)=p at hol ⊢;refine Zd ?_;(refine xL 44 Za (xL 45 (Y7 1000 T7) ?_)<;>refine Zi ?_)
     (refine xL 47 ZU (xL 46 Zb ?_)<;>refine Zc ?_)
     refine cX ?_ ?_<;>intro hb46
     · first|exact bN hb46|(
 obtain rfl:p=[]:=Xw oM;refine Zd ?_;(refine xL 48 (ZO HM) ?_<;>(refine ZJ (TE (t:=48) (p':=pTr D') rfl ZaN) fun _=>?_;refine Zw 4 K8 ?_)<;>refine Zc ?_)
 exact YK (k:=3) 4 kR (results183) rfl rfl (Xa rfl) dC rfl rfl)
     · first |exact bN hb46|(
 refine Zd ?_;(refine xL 50 ZU (xL 49 Zb ?_)<;>refine Zc ?_)
 refine cX ?_ ?_<;>intro hb49
 · first|exact bN hb49|(
 obtain ⟨x,rfl⟩:∃x,p=[x]:=by
  match p,hb49 with
  |[],h=>simp at h
  |[x],_=>exact ⟨x,rfl⟩
  |_::_::_,h=>simp at h;omega
 have e1:((Z6 [x]).drop (0*3)).take 3=cN x:=Z9 (k:=0) rfl;have e2:0*3+3≤(Z6 [x]).length:=Yu (k:=0) (x:=x) rfl;refine Zd ?_;(refine xL 51 Za (xL 52 (Zq 1000 T7) ?_)<;>(refine yL 53 (Zu 1000 K8) fun v53 h=>?_;cases h)<;>refine Zw 4 K8 ?_<;>refine Zc ?_)
 exact YK (k:=3) 4 kR (results183) rfl rfl (Xa rfl) dC rfl rfl)
 · first|exact bN hb49|(
 refine nav ?_;refine ZE (En.freeze (l:=1000) (t:=5) rfl rfl) fun _=>?_;rw [GC _ _ _ rfl];(refine Zo ?_<;>refine xL 54 Za (xL 55 Za (xL 56 (ZO HM) ?_))<;>refine Zw 4 K8 ?_<;>refine Zc ?_)
 refine YK (k:=3) 4 kR (results183) rfl rfl (Xa rfl) dC rfl ?_;match p,hb46,hb49 with
 |[],h,_=>simp at h
 |[x],_,h=>simp at h
 |x::y::r,_,_=>rfl)))
theorem ZG:AggT prog 51 3=true:=by kernel_rfl
theorem GD:ElT prog 49 51 3 48 (.agg #[(.int .i64 0),(.string ByteArray.empty),(.slice none 0 0)]):=⟨underlying49,by kernel_rfl,rfl,dC⟩
theorem Wi:FldT prog 51 0 0=true:=by kernel_rfl
theorem PN:FldT prog 51 1 1=true:=by kernel_rfl
theorem Gc:FldT prog 51 2 2=true:=by kernel_rfl
theorem KI:NoAgg prog 3=true:=by kernel_rfl
theorem LH:NoAgg prog 49=true:=by kernel_rfl
theorem ζh:NoAgg prog 9=true:=by kernel_rfl
theorem Kv:SlT prog 49 51 3=true:=by kernel_rfl
theorem Je:K6 prog 51=some ((.agg #[(.int .i64 0),(.string ByteArray.empty),(.slice none 0 0)]),([0,1,2]:List Nat).map fun o=>(o,1)):=by kernel_rfl
theorem WO:ZeroT prog 51 (.agg #[(.int .i64 0),(.string ByteArray.empty),(.slice none 0 0)]):=by unfold ZeroT;kernel_rfl
theorem Oo (x y:Nd):PV.sl 2 ([x,y].flatMap cN)=Y4 [x,y]:=by
 unfold Y4
 rw [Y3];rfl
theorem Zcg (o:Int) (a:ByteArray):Rr (.agg [Zf o,ZD a, .val (.slice none 0 0)]) (pTr (.mk o a [])):=Rr.agg rfl fun i x b ha hb=>by
 match i with
 |0=>cases ha;cases hb;exact Rr.rfl' _
 |1=>cases ha;cases hb;exact Rr.rfl' _
 |2=>cases ha;cases hb;exact Rr.nil
 |i+3=>simp at ha
theorem Zf7 {l:List Nd} {k:Nat} {x:Nd} (h:l[k]? =some x):(Kl l)[k]? =some (Yg x):=by
 rw [Oh,Xm,h];rfl
theorem Zf8 (l:List Nd):(Kl l).length=l.length:=by rw [Oh,Xd]
theorem Rj {t:Nd} (h:rightT t=true) (h6:t.op=6):∃x y,t.l=[x,y]:=by
 unfold rightT at h
 rw [h6] at h
 simp at h
 match t.l,h.1 with
 |[x,y],_=>exact ⟨x,y,rfl⟩
theorem Sa {x y:Nd}:szL [x,y]=szT x+szT y:=by simp only [szL];omega
set_option maxHeartbeats 4000000 in
theorem ZdL : ∀ t : Nd,okT t=true→szT t≤1000000→AF prog 123 [pTr t] (· =pTr (Yg t)):=Nd.ind fun o a l ih hok hs=>by
 have e0:pTr (.mk o a l)= .agg [Zf o,ZD a,Y4 l]:=rfl
 rw [e0]
 obtain ⟨hr,hp⟩:=Jw.1 hok
 have hf:=T9 _ hok hs
 have hsz:=SE (.mk o a l)
 have hlz:=T8 l
 have hops:=RR hr
 simp only [Nd.l,Nd.op] at hp hsz hops
 have hnl:=Zf8 l
 have hnz:szL (Kl l)≤szL l:=by
  have:=SF (.mk o a l);clear this e0 hr hf hsz hlz hnl;clear ih hok hs;induction l with
  |nil=>exact Xc _
  | cons x l ih2=>
    have h3:=SF x;have h4:=ih2 (fun y hy=>hp y (XS _ hy));rw [Kl,szL,szL];omega
 have hnf:∀y∈Kl l,FitT y:=fun y hy=>by
  rw [Oh] at hy;obtain ⟨x,hx,rfl⟩:=Xr.1 hy;have:=S8 hx;exact T' (hp x hx) oM
 refine AF.of_body 70 func123 rfl ntmps123 (Xa rfl) ?_
 intro w0 M0 vs hl hv
 obtain ⟨v0,rfl⟩:=YG hl
 clear hl hv
 refine Zd ?_
 (refine Yi 1 3 fun h1=>?_<;>refine ZA [(.int .i64 0),(.string ByteArray.empty),(.slice none 0 0)] 3 2 WO fun h2=>?_<;>refine Zi ?_)
 (refine xL 3 Zb ?_<;>refine Zc ?_)
 refine ZE (W3 200 51 3 rfl) fun _=>?_
 (refine Zo ?_<;>refine xL 8 (Zn 1 Gc) ?_<;>(refine yL 9 (Zr 1 LH) fun v9 h=>?_;cases h)<;>refine xL 10 (ZF Kv) (xL 11 Za ?_)<;>refine Zc ?_)
 refine Zy (ι:={q:Nat×Value//q.1≤l.length∧q.2.oneCell'=true}) (fun k=>⟨[(1,_,_),(2,_,_),(9,_,_),(10,_,_),(3,k.1.2, .val k.1.2),(11, .int .i64 k.1.1,Zf k.1.1)],[(1,_,_),(2,_,_),(200,k.1.2, .own 51 3 ((Kl l).take k.1.1).length (Z6 ((Kl l).take k.1.1)))]⟩) (fun k=>l.length-k.1.1) ⟨(0, .slice none 0 0),Xn _,rfl⟩ (fun a w H=>H.weaken ⟨rfl,rfl,rfl,rfl,rfl,rfl,trivial⟩ ⟨rfl,rfl,rfl,trivial⟩) ?_
 rintro ⟨⟨k,hO⟩,hk,hOo⟩
 dsimp only
 dsimp only at hk hOo
 refine Zd ?_
 (refine xL 12 ZI ?_<;>refine Zc ?_)
 refine cX ?_ ?_<;>intro hb12
 · first|exact bN hb12|(
 obtain ⟨x,hx⟩:=Zm (show k<l.length by omega);have e1:((Z6 l).drop (k*3)).take 3=[Zf x.op,ZD x.act,Y4 x.l]:=Z9 hx;have e2:=Yu hx;have hxm:=Xb hx;have hxs:=S8 hxm;have hsn:=ZW (Zf7 hx);(have hsl:((Kl l).take (k+1)).length=((Kl l).take k).length+1:=by rw [hsn,Xf];rfl);(have hsl2:((Kl l).take k).length≤1000000:=by rw [XF];omega);refine Zd ?_;(refine xL 13 (Zv Kv) ?_<;>(refine yL 14 (Wl ZG) fun v14 h=>?_;cases h)<;>refine ZA [(.int .i64 0),(.string ByteArray.empty),(.slice none 0 0)] 3 5 WO fun h5=>?_<;>refine Zw 5 ZG ?_<;>refine Zi ?_)
 (refine xL 15 Za ?_<;>(refine yL 16 (Zu 5 ZG) fun v16 h=>?_;cases h)<;>(refine cD 17 (cA call123 (ih x hxm (hp x hxm) oM)) fun v17 hv17=>?_;clear hv17)<;>refine Ju 18 GD fun h18 ho18=>?_<;>(refine Kd 200 18 19 GD fun h19 ho19=>?_;refine ZJ (Z5 (l:=19) 200 rfl rfl) fun _=>?_;refine ZJ (KG (l:=200) (p':= .own 51 3 ((Kl l).take (k+1)).length (Z6 ((Kl l).take (k+1)))) rfl (Eq.trans (congrArg (PV.own 51 3 _) (show _=Z6 ((Kl l).take k)++cN (Yg x) from rfl)) (by rw [HO,←hsn,hsl]))) fun _=>?_)<;>refine xL 3 Zb ?_<;>refine Zi ?_)
 (refine xL 20 ZH (xL 11 Za ?_)<;>refine Zc ?_)
 refine Zh (
  ⟨(k+1,h19),Zj hx,ho19⟩
  ) (by dsimp only;omega) ⟨rfl,rfl,rfl,rfl,rfl,rfl,trivial⟩ ⟨rfl,rfl,rfl,trivial⟩)
 · first | exact bN hb12|(
 rw [Xy (show (Kl l).length≤k by omega)];refine Zd ?_;(refine xL 21 (Zn 1 Wi) ?_<;>(refine yL 22 (Zr 1 KI) fun v22 h=>?_;cases h)<;>refine Zi ?_)
 (refine xL 24 ZU (xL 23 Zb ?_)<;>refine Zc ?_)
 refine cX ?_ ?_<;>intro hb23
 · first | exact bN hb23|(
 refine nav ?_;refine cX ?_ ?_<;>intro hb23
 · first|exact bN hb23|(
 refine Zd ?_;(refine xL 26 (Zn 1 Wi) ?_<;>(refine yL 27 (Zr 1 KI) fun v27 h=>?_;cases h)<;>refine xL 28 (Zn 1 PN) ?_<;>(refine yL 29 (Zr 1 ζh) fun v29 h=>?_;cases h)<;>refine xL 30 (ZO Je) ?_<;>(refine ZJ (TE (t:=30) (p':=pTr (.mk o a [])) rfl (Zcg o a)) fun _=>?_;refine Zw 2 ZG ?_)<;>refine Zc ?_)
 refine YK (k:=3) 2 kR (results123) rfl rfl (Xa rfl) dC rfl ?_;rw [Yg,Hb,UB oM];rfl)
 · first | exact bN hb23|(
 refine Zd ?_;(refine xL 32 ZU (xL 31 Zb ?_)<;>refine Zc ?_)
 refine cX ?_ ?_<;>intro hb31
 · first | exact bN hb31|(
 obtain ⟨f0,s0,hl2⟩:=Rj hr (show o=6 from by omega);obtain rfl:l=[f0,s0]:=hl2;have ho6:o=6:=oM;(have hres:Yg (.mk o a [f0,s0])=CX (KO (Yg f0) (Yg s0)):=by rw [Yg,Hb,UA oM,UB ho6];rfl);have hF1:=Dd (hp f0 sM);have hS1:=Dd (hp s0 sM);have hFz:=SF f0;have hSz:=SF s0;have hfF:=hnf (Yg f0) (by simp [Kl]);have hfS:=hnf (Yg s0) (by simp [Kl]);rw [Sa] at hsz;have e3:((Z6 (Kl [f0,s0])).drop (0*3)).take 3=[Zf (Yg f0).op,ZD (Yg f0).act,Y4 (Yg f0).l]:=Z9 (k:=0) rfl;have e4:0*3+3≤(Z6 (Kl [f0,s0])).length:=Yu (k:=0) (x:=Yg f0) rfl;have e5:((Z6 (Kl [f0,s0])).drop (1*3)).take 3=[Zf (Yg s0).op,ZD (Yg s0).act,Y4 (Yg s0).l]:=Z9 (k:=1) rfl;have e6:1*3+3≤(Z6 (Kl [f0,s0])).length:=Yu (k:=1) (x:=Yg s0) rfl;refine nav ?_;refine Js (fun q:Value×Value×Value=>⟨[(2,padd (sbase q.1) 0, .val (padd (sbase q.1) 0)),(6,padd (sbase q.2.1) 0, .val (padd (sbase q.2.1) 0)),(7,padd (sbase q.2.2) 0, .val (padd (sbase q.2.2) 0))],[(2,q.1, .own 51 3 1 [.val (.int .i64 0), .val (.string ByteArray.empty), .val (.slice none 0 0)]),(6,q.2.1, .own 51 3 1 [Zf (Yg f0).op,ZD (Yg f0).act,Y4 (Yg f0).l]),(7,q.2.2, .own 51 3 1 [Zf (Yg s0).op,ZD (Yg s0).act,Y4 (Yg s0).l])]⟩) ?_ ?_
 · (refine ZM (fun i=>([]:List Nat).elem i) [200] kR ?_<;>refine xD 0 33 rfl Za ?_<;>refine xD 1 34 rfl (Zq 200 Kv) ?_<;>(refine yD 2 35 rfl (Zu 200 ZG) fun v35 h=>?_;cases h)<;>refine xD 3 36 rfl Za ?_<;>refine xD 4 37 rfl (Zq 200 Kv) ?_<;>(refine yD 5 38 rfl (Zu 200 ZG) fun v38 h=>?_;cases h)<;>(refine YU 6 7 kR ?_ ?_;rotate_right;(focus ((refine Zg rfl fun w9 M9 N9 DQ back=>?_)<;>refine ZA [(.int .i64 0),(.string ByteArray.empty),(.slice none 0 0)] 3 7 WO fun h7=>?_<;>refine Ze (back _ (nrm ?_))<;>(refine Zk 6 kR ?_)<;>(refine Zg rfl fun w9 M9 N9 DQ back=>?_)<;>refine ZA [(.int .i64 0),(.string ByteArray.empty),(.slice none 0 0)] 3 6 WO fun h6=>?_<;>refine Ze (back _ (nrm ?_))<;>(refine Zk 8 kR ?_)<;>(refine Zg rfl fun w9 M9 N9 DQ back=>?_)<;>refine Zw 6 ZG ?_<;>refine Ze (back _ (nrm ?_))<;>(refine Zk 9 kR ?_)<;>(refine Zg rfl fun w9 M9 N9 DQ back=>?_)<;>refine Zw 7 ZG ?_<;>refine Ze (back _ (nrm ?_))));rotate_right;(focus ((refine Zg rfl fun w9 M9 N9 DQ back=>?_)<;>refine ZA [(.int .i64 0),(.string ByteArray.empty),(.slice none 0 0)] 3 6 WO fun h6=>?_<;>refine Ze (back _ (nrm ?_))<;>(refine Zk 7 kR ?_)<;>(refine Zg rfl fun w9 M9 N9 DQ back=>?_)<;>refine ZA [(.int .i64 0),(.string ByteArray.empty),(.slice none 0 0)] 3 7 WO fun h7=>?_<;>refine Ze (back _ (nrm ?_))<;>(refine Zk 8 kR ?_)<;>(refine Zg rfl fun w9 M9 N9 DQ back=>?_)<;>refine Zw 6 ZG ?_<;>refine Ze (back _ (nrm ?_))<;>(refine Zk 9 kR ?_)<;>(refine Zg rfl fun w9 M9 N9 DQ back=>?_)<;>refine Zw 7 ZG ?_<;>refine Ze (back _ (nrm ?_)))))<;>refine Ym kR (nav ?_)<;>try dsimp only)<;>(
 exact YM (_,_,_) ⟨rfl,rfl,rfl,trivial⟩ ⟨rfl,rfl,rfl,trivial⟩)
 · rintro ⟨h2,h6,h7⟩;dsimp only;clear e3 e4 e5 e6;generalize Yg f0=F at hres hF1 hFz hfF ⊢;generalize Yg s0=S at hres hS1 hSz hfS ⊢;refine Zd ?_;(refine xL 39 (Zn 6 Wi) ?_<;>(refine yL 40 (Zr 6 KI) fun v40 h=>?_;cases h)<;>refine xL 41 ZU ?_<;>refine Zc ?_)
   refine Js (fun _:Unit=>⟨[(2,padd (sbase h2) 0, .val (padd (sbase h2) 0)),(6,padd (sbase h6) 0, .val (padd (sbase h6) 0)),(7,padd (sbase h7) 0, .val (padd (sbase h7) 0))],[(2,h2, .own 51 3 1 [.val (.int .i64 0), .val (.string ByteArray.empty), .val (.slice none 0 0)]),(6,h6, .own 51 3 1 (cN (KO F S).1)),(7,h7, .own 51 3 1 (cN (KO F S).2))]⟩) ?_ ?_
   · refine cX ?_ ?_<;>intro hb41
     · first|exact bN hb41|(
 obtain ⟨A,B,hAB⟩:=Rj (Jw.1 hF1).1 hb41;(have hlop:KO F S=(A,Ra 4 [B,S]):=by unfold KO;rw [UB hb41,hAB]);have hfA:=hfF.p A (by rw [hAB];simp);have hfB:=hfF.p B (by rw [hAB];simp);have hFe:=SE F;rw [hAB,Sa] at hFe;rw [hAB];have e3:((Z6 [A,B]).drop (0*3)).take 3=[Zf A.op,ZD A.act,Y4 A.l]:=Z9 (k:=0) rfl;have e4:0*3+3≤(Z6 [A,B]).length:=Yu (k:=0) (x:=A) rfl;have e5:((Z6 [A,B]).drop (1*3)).take 3=[Zf B.op,ZD B.act,Y4 B.l]:=Z9 (k:=1) rfl;have e6:1*3+3≤(Z6 [A,B]).length:=Yu (k:=1) (x:=B) rfl;have hj:=On 4 [B,S] dC dC (fun x hx=>by simp only [Xi,List.not_mem_nil,or_false] at hx;rcases hx with h|h<;>rw [h]<;>assumption) (by rw [Sa];omega);refine nav ?_;(refine ZM (fun i=>([11,12]:List Nat).elem i) [6,7] kR ?_<;>refine xDT 0 42 rfl (Zn 6 Gc) ?_<;>(refine yDT 1 43 rfl (Zr 6 LH) fun v43 h=>?_;cases h)<;>refine xDT 2 44 rfl (Zv Kv) ?_<;>(refine yDT 3 45 rfl (Wl ZG) fun v45 h=>?_;cases h)<;>refine xDT 4 46 rfl (Zn 6 Gc) ?_<;>(refine yDT 5 47 rfl (Zr 6 LH) fun v47 h=>?_;cases h)<;>refine xDT 6 48 rfl (Zv Kv) ?_<;>(refine yDT 7 49 rfl (Wl ZG) fun v49 h=>?_;cases h)<;>(refine yE 8 50 rfl (Zu 7 ZG) fun v50 h=>?_;cases h)<;>(refine Zk 9 kR ?_)<;>(refine Zg rfl fun w9 M9 N9 DQ back=>?_)<;>(refine JR (kk:=3) (xs:=[_,_]) (cs:=[[_,_,_],[_,_,_]]) 51 GD fun h51 ho51=>?_;refine ZJ (En.freeze (l:=51) (t:=51) rfl rfl) fun _=>?_;refine ZJ (JA (t:=51) (p':=Y4 [B,S]) rfl (Eq.trans (show _=PV.sl 2 ([B,S].flatMap cN) from rfl) (Oo B S))) fun _=>?_)<;>refine Ze (back _ (nrm ?_))<;>(refine Zk 10 kR ?_)<;>(refine YH (d:=52) rfl (cA (call183) hj) fun v52 h=>?_;cases h)<;>(refine Zk 11 kR ?_)<;>(refine C9 rfl rfl fun DQ back=>?_)<;>refine Zw 6 ZG ?_<;>refine Ze (back _ ?_)<;>(refine Zb5 12 kR rfl rfl fun DQ back=>?_)<;>refine Zw 7 ZG ?_<;>refine Ze (back _ ?_)<;>refine Zb6 kR (nav ?_)<;>try dsimp only)
 refine Yh (KG (l:=6) (p':= .own 51 3 1 (cN (KO F S).1)) rfl (by rw [hlop];rfl)) fun _=>?_;refine Yh (KG (l:=7) (p':= .own 51 3 1 (cN (KO F S).2)) rfl (by rw [hlop];rfl)) fun _=>?_;exact YM () ⟨rfl,rfl,rfl,trivial⟩ ⟨rfl,rfl,rfl,trivial⟩)
     · first|exact bN hb41|(
 (have hlop:KO F S=(F,S):=by unfold KO;rw [UA hb41]);refine ZE (KG (l:=6) (p':= .own 51 3 1 (cN (KO F S).1)) rfl (by rw [hlop];rfl)) fun _=>?_;refine ZE (KG (l:=7) (p':= .own 51 3 1 (cN (KO F S).2)) rfl (by rw [hlop];rfl)) fun _=>?_;refine nav ?_;exact YM () ⟨rfl,rfl,rfl,trivial⟩ ⟨rfl,rfl,rfl,trivial⟩)
   · rintro _;unfold CX at hres;generalize (KO F S).1=X at hres ⊢;generalize (KO F S).2=Y at hres ⊢;have ec:∀t:Nd,cN t=[Zf t.op,ZD t.act,Y4 t.l]:=fun _=>rfl;rw [ec,ec];refine Zd ?_;(refine xL 53 (Zn 6 Wi) ?_<;>(refine yL 54 (Zr 6 KI) fun v54 h=>?_;cases h)<;>refine xL 55 ZU (xL 56 Za ?_)<;>(refine bLd 56 (fun hb56=>?_) (fun hb56=>?_)<;>(first|refine kL 57 ?_|refine xL 57 (Zn 7 Wi) ?_))<;>(first|refine kL 58 ?_|(refine yL 58 (Zr 7 KI) fun v58 h=>?_;cases h))<;>(first|refine kL 59 ?_|refine xL 59 ZU ?_)<;>refine xL 60 Zt ?_<;>refine Zc ?_)<;>(
 refine cX ?_ ?_<;>intro hb60
 · first|exact bN hb60|(
 rw [UB oM] at hres;refine Zd ?_;(refine xL 61 (ZO Je) ?_<;>(refine ZJ (TE (t:=61) (p':=pTr D') rfl ZaN) fun _=>?_;refine Zw 2 ZG ?_)<;>refine Zc ?_)
 refine YK (k:=3) 2 kR (results123) rfl rfl (Xa rfl) dC rfl ?_;rw [hres];rfl)
 · first|exact bN hb60|(
 rw [UA oM] at hres;refine Zd ?_;((refine yL 62 (Zu 6 ZG) fun v62 h=>?_;cases h)<;>(refine yL 63 (Zu 7 ZG) fun v63 h=>?_;cases h)<;>(refine JR (kk:=3) (xs:=[_,_]) (cs:=[[_,_,_],[_,_,_]]) 64 GD fun h64 ho64=>?_;refine ZJ (En.freeze (l:=64) (t:=64) rfl rfl) fun _=>?_;refine ZJ (JA (t:=64) (p':=Y4 [X,Y]) rfl (Eq.trans (show _=PV.sl 2 ([X,Y].flatMap cN) from rfl) (Oo X Y))) fun _=>?_)<;>refine xL 65 (ZO Je) ?_<;>refine Zw 2 ZG ?_<;>refine Zc ?_)
 refine YK (k:=3) 2 kR (results123) rfl rfl (Xa rfl) dC rfl ?_;rw [hres];rfl)))
 · first|exact bN hb31|(
 refine nav ?_;refine ZE (En.freeze (l:=200) (t:=3) rfl rfl) fun _=>?_;rw [GC _ _ _ rfl];(refine Zo ?_<;>refine xL 66 (Zn 1 Wi) ?_<;>(refine yL 67 (Zr 1 KI) fun v67 h=>?_;cases h)<;>refine xL 68 Za ?_<;>(refine cD 69 (cA call183 (On o (Kl l) oM oM hnf oM)) fun v69 hv69=>?_;clear hv69)<;>refine Zw 2 ZG ?_<;>refine Zc ?_)
 refine YK (k:=3) 2 kR (results123) rfl rfl (Xa rfl) dC rfl ?_;rw [Yg,Hb,UA oM,UA oM];rfl)))
 · first | exact bN hb23|(
 refine Zd ?_;(refine xL 25 ZU (xL 23 Zb ?_)<;>refine Zc ?_)
 refine cX ?_ ?_<;>intro hb23
 · first|exact bN hb23|(
 refine Zd ?_;(refine xL 26 (Zn 1 Wi) ?_<;>(refine yL 27 (Zr 1 KI) fun v27 h=>?_;cases h)<;>refine xL 28 (Zn 1 PN) ?_<;>(refine yL 29 (Zr 1 ζh) fun v29 h=>?_;cases h)<;>refine xL 30 (ZO Je) ?_<;>(refine ZJ (TE (t:=30) (p':=pTr (.mk o a [])) rfl (Zcg o a)) fun _=>?_;refine Zw 2 ZG ?_)<;>refine Zc ?_)
 refine YK (k:=3) 2 kR (results123) rfl rfl (Xa rfl) dC rfl ?_;rw [Yg,Hb,UB oM];rfl)
 · first | exact bN hb23|(
 refine Zd ?_;(refine xL 32 ZU (xL 31 Zb ?_)<;>refine Zc ?_)
 refine cX ?_ ?_<;>intro hb31
 · first | exact bN hb31|(
 obtain ⟨f0,s0,hl2⟩:=Rj hr (show o=6 from by omega);obtain rfl:l=[f0,s0]:=hl2;have ho6:o=6:=oM;(have hres:Yg (.mk o a [f0,s0])=CX (KO (Yg f0) (Yg s0)):=by rw [Yg,Hb,UA oM,UB ho6];rfl);have hF1:=Dd (hp f0 sM);have hS1:=Dd (hp s0 sM);have hFz:=SF f0;have hSz:=SF s0;have hfF:=hnf (Yg f0) (by simp [Kl]);have hfS:=hnf (Yg s0) (by simp [Kl]);rw [Sa] at hsz;have e3:((Z6 (Kl [f0,s0])).drop (0*3)).take 3=[Zf (Yg f0).op,ZD (Yg f0).act,Y4 (Yg f0).l]:=Z9 (k:=0) rfl;have e4:0*3+3≤(Z6 (Kl [f0,s0])).length:=Yu (k:=0) (x:=Yg f0) rfl;have e5:((Z6 (Kl [f0,s0])).drop (1*3)).take 3=[Zf (Yg s0).op,ZD (Yg s0).act,Y4 (Yg s0).l]:=Z9 (k:=1) rfl;have e6:1*3+3≤(Z6 (Kl [f0,s0])).length:=Yu (k:=1) (x:=Yg s0) rfl;refine nav ?_;refine Js (fun q:Value×Value×Value=>⟨[(2,padd (sbase q.1) 0, .val (padd (sbase q.1) 0)),(6,padd (sbase q.2.1) 0, .val (padd (sbase q.2.1) 0)),(7,padd (sbase q.2.2) 0, .val (padd (sbase q.2.2) 0))],[(2,q.1, .own 51 3 1 [.val (.int .i64 0), .val (.string ByteArray.empty), .val (.slice none 0 0)]),(6,q.2.1, .own 51 3 1 [Zf (Yg f0).op,ZD (Yg f0).act,Y4 (Yg f0).l]),(7,q.2.2, .own 51 3 1 [Zf (Yg s0).op,ZD (Yg s0).act,Y4 (Yg s0).l])]⟩) ?_ ?_
 · (refine ZM (fun i=>([]:List Nat).elem i) [200] kR ?_<;>refine xD 0 33 rfl Za ?_<;>refine xD 1 34 rfl (Zq 200 Kv) ?_<;>(refine yD 2 35 rfl (Zu 200 ZG) fun v35 h=>?_;cases h)<;>refine xD 3 36 rfl Za ?_<;>refine xD 4 37 rfl (Zq 200 Kv) ?_<;>(refine yD 5 38 rfl (Zu 200 ZG) fun v38 h=>?_;cases h)<;>(refine YU 6 7 kR ?_ ?_;rotate_right;(focus ((refine Zg rfl fun w9 M9 N9 DQ back=>?_)<;>refine ZA [(.int .i64 0),(.string ByteArray.empty),(.slice none 0 0)] 3 7 WO fun h7=>?_<;>refine Ze (back _ (nrm ?_))<;>(refine Zk 6 kR ?_)<;>(refine Zg rfl fun w9 M9 N9 DQ back=>?_)<;>refine ZA [(.int .i64 0),(.string ByteArray.empty),(.slice none 0 0)] 3 6 WO fun h6=>?_<;>refine Ze (back _ (nrm ?_))<;>(refine Zk 8 kR ?_)<;>(refine Zg rfl fun w9 M9 N9 DQ back=>?_)<;>refine Zw 6 ZG ?_<;>refine Ze (back _ (nrm ?_))<;>(refine Zk 9 kR ?_)<;>(refine Zg rfl fun w9 M9 N9 DQ back=>?_)<;>refine Zw 7 ZG ?_<;>refine Ze (back _ (nrm ?_))));rotate_right;(focus ((refine Zg rfl fun w9 M9 N9 DQ back=>?_)<;>refine ZA [(.int .i64 0),(.string ByteArray.empty),(.slice none 0 0)] 3 6 WO fun h6=>?_<;>refine Ze (back _ (nrm ?_))<;>(refine Zk 7 kR ?_)<;>(refine Zg rfl fun w9 M9 N9 DQ back=>?_)<;>refine ZA [(.int .i64 0),(.string ByteArray.empty),(.slice none 0 0)] 3 7 WO fun h7=>?_<;>refine Ze (back _ (nrm ?_))<;>(refine Zk 8 kR ?_)<;>(refine Zg rfl fun w9 M9 N9 DQ back=>?_)<;>refine Zw 6 ZG ?_<;>refine Ze (back _ (nrm ?_))<;>(refine Zk 9 kR ?_)<;>(refine Zg rfl fun w9 M9 N9 DQ back=>?_)<;>refine Zw 7 ZG ?_<;>refine Ze (back _ (nrm ?_)))))<;>refine Ym kR (nav ?_)<;>try dsimp only)<;>(
 exact YM (_,_,_) ⟨rfl,rfl,rfl,trivial⟩ ⟨rfl,rfl,rfl,trivial⟩)
 · rintro ⟨h2,h6,h7⟩;dsimp only;clear e3 e4 e5 e6;generalize Yg f0=F at hres hF1 hFz hfF ⊢;generalize Yg s0=S at hres hS1 hSz hfS ⊢;refine Zd ?_;(refine xL 39 (Zn 6 Wi) ?_<;>(refine yL 40 (Zr 6 KI) fun v40 h=>?_;cases h)<;>refine xL 41 ZU ?_<;>refine Zc ?_)
   refine Js (fun _:Unit=>⟨[(2,padd (sbase h2) 0, .val (padd (sbase h2) 0)),(6,padd (sbase h6) 0, .val (padd (sbase h6) 0)),(7,padd (sbase h7) 0, .val (padd (sbase h7) 0))],[(2,h2, .own 51 3 1 [.val (.int .i64 0), .val (.string ByteArray.empty), .val (.slice none 0 0)]),(6,h6, .own 51 3 1 (cN (KO F S).1)),(7,h7, .own 51 3 1 (cN (KO F S).2))]⟩) ?_ ?_
   · refine cX ?_ ?_<;>intro hb41
     · first|exact bN hb41|(
 obtain ⟨A,B,hAB⟩:=Rj (Jw.1 hF1).1 hb41;(have hlop:KO F S=(A,Ra 4 [B,S]):=by unfold KO;rw [UB hb41,hAB]);have hfA:=hfF.p A (by rw [hAB];simp);have hfB:=hfF.p B (by rw [hAB];simp);have hFe:=SE F;rw [hAB,Sa] at hFe;rw [hAB];have e3:((Z6 [A,B]).drop (0*3)).take 3=[Zf A.op,ZD A.act,Y4 A.l]:=Z9 (k:=0) rfl;have e4:0*3+3≤(Z6 [A,B]).length:=Yu (k:=0) (x:=A) rfl;have e5:((Z6 [A,B]).drop (1*3)).take 3=[Zf B.op,ZD B.act,Y4 B.l]:=Z9 (k:=1) rfl;have e6:1*3+3≤(Z6 [A,B]).length:=Yu (k:=1) (x:=B) rfl;have hj:=On 4 [B,S] dC dC (fun x hx=>by simp only [Xi,List.not_mem_nil,or_false] at hx;rcases hx with h|h<;>rw [h]<;>assumption) (by rw [Sa];omega);refine nav ?_;(refine ZM (fun i=>([11,12]:List Nat).elem i) [6,7] kR ?_<;>refine xDT 0 42 rfl (Zn 6 Gc) ?_<;>(refine yDT 1 43 rfl (Zr 6 LH) fun v43 h=>?_;cases h)<;>refine xDT 2 44 rfl (Zv Kv) ?_<;>(refine yDT 3 45 rfl (Wl ZG) fun v45 h=>?_;cases h)<;>refine xDT 4 46 rfl (Zn 6 Gc) ?_<;>(refine yDT 5 47 rfl (Zr 6 LH) fun v47 h=>?_;cases h)<;>refine xDT 6 48 rfl (Zv Kv) ?_<;>(refine yDT 7 49 rfl (Wl ZG) fun v49 h=>?_;cases h)<;>(refine yE 8 50 rfl (Zu 7 ZG) fun v50 h=>?_;cases h)<;>(refine Zk 9 kR ?_)<;>(refine Zg rfl fun w9 M9 N9 DQ back=>?_)<;>(refine JR (kk:=3) (xs:=[_,_]) (cs:=[[_,_,_],[_,_,_]]) 51 GD fun h51 ho51=>?_;refine ZJ (En.freeze (l:=51) (t:=51) rfl rfl) fun _=>?_;refine ZJ (JA (t:=51) (p':=Y4 [B,S]) rfl (Eq.trans (show _=PV.sl 2 ([B,S].flatMap cN) from rfl) (Oo B S))) fun _=>?_)<;>refine Ze (back _ (nrm ?_))<;>(refine Zk 10 kR ?_)<;>(refine YH (d:=52) rfl (cA (call183) hj) fun v52 h=>?_;cases h)<;>(refine Zk 11 kR ?_)<;>(refine C9 rfl rfl fun DQ back=>?_)<;>refine Zw 6 ZG ?_<;>refine Ze (back _ ?_)<;>(refine Zb5 12 kR rfl rfl fun DQ back=>?_)<;>refine Zw 7 ZG ?_<;>refine Ze (back _ ?_)<;>refine Zb6 kR (nav ?_)<;>try dsimp only)
 refine Yh (KG (l:=6) (p':= .own 51 3 1 (cN (KO F S).1)) rfl (by rw [hlop];rfl)) fun _=>?_;refine Yh (KG (l:=7) (p':= .own 51 3 1 (cN (KO F S).2)) rfl (by rw [hlop];rfl)) fun _=>?_;exact YM () ⟨rfl,rfl,rfl,trivial⟩ ⟨rfl,rfl,rfl,trivial⟩)
     · first|exact bN hb41|(
 (have hlop:KO F S=(F,S):=by unfold KO;rw [UA hb41]);refine ZE (KG (l:=6) (p':= .own 51 3 1 (cN (KO F S).1)) rfl (by rw [hlop];rfl)) fun _=>?_;refine ZE (KG (l:=7) (p':= .own 51 3 1 (cN (KO F S).2)) rfl (by rw [hlop];rfl)) fun _=>?_;refine nav ?_;exact YM () ⟨rfl,rfl,rfl,trivial⟩ ⟨rfl,rfl,rfl,trivial⟩)
   · rintro _;unfold CX at hres;generalize (KO F S).1=X at hres ⊢;generalize (KO F S).2=Y at hres ⊢;have ec:∀t:Nd,cN t=[Zf t.op,ZD t.act,Y4 t.l]:=fun _=>rfl;rw [ec,ec];refine Zd ?_;(refine xL 53 (Zn 6 Wi) ?_<;>(refine yL 54 (Zr 6 KI) fun v54 h=>?_;cases h)<;>refine xL 55 ZU (xL 56 Za ?_)<;>(refine bLd 56 (fun hb56=>?_) (fun hb56=>?_)<;>(first|refine kL 57 ?_|refine xL 57 (Zn 7 Wi) ?_))<;>(first|refine kL 58 ?_|(refine yL 58 (Zr 7 KI) fun v58 h=>?_;cases h))<;>(first|refine kL 59 ?_|refine xL 59 ZU ?_)<;>refine xL 60 Zt ?_<;>refine Zc ?_)<;>(
 refine cX ?_ ?_<;>intro hb60
 · first|exact bN hb60|(
 rw [UB oM] at hres;refine Zd ?_;(refine xL 61 (ZO Je) ?_<;>(refine ZJ (TE (t:=61) (p':=pTr D') rfl ZaN) fun _=>?_;refine Zw 2 ZG ?_)<;>refine Zc ?_)
 refine YK (k:=3) 2 kR (results123) rfl rfl (Xa rfl) dC rfl ?_;rw [hres];rfl)
 · first|exact bN hb60|(
 rw [UA oM] at hres;refine Zd ?_;((refine yL 62 (Zu 6 ZG) fun v62 h=>?_;cases h)<;>(refine yL 63 (Zu 7 ZG) fun v63 h=>?_;cases h)<;>(refine JR (kk:=3) (xs:=[_,_]) (cs:=[[_,_,_],[_,_,_]]) 64 GD fun h64 ho64=>?_;refine ZJ (En.freeze (l:=64) (t:=64) rfl rfl) fun _=>?_;refine ZJ (JA (t:=64) (p':=Y4 [X,Y]) rfl (Eq.trans (show _=PV.sl 2 ([X,Y].flatMap cN) from rfl) (Oo X Y))) fun _=>?_)<;>refine xL 65 (ZO Je) ?_<;>refine Zw 2 ZG ?_<;>refine Zc ?_)
 refine YK (k:=3) 2 kR (results123) rfl rfl (Xa rfl) dC rfl ?_;rw [hres];rfl)))
 · first|exact bN hb31|(
 refine nav ?_;refine ZE (En.freeze (l:=200) (t:=3) rfl rfl) fun _=>?_;rw [GC _ _ _ rfl];(refine Zo ?_<;>refine xL 66 (Zn 1 Wi) ?_<;>(refine yL 67 (Zr 1 KI) fun v67 h=>?_;cases h)<;>refine xL 68 Za ?_<;>(refine cD 69 (cA call183 (On o (Kl l) oM oM hnf oM)) fun v69 hv69=>?_;clear hv69)<;>refine Zw 2 ZG ?_<;>refine Zc ?_)
 refine YK (k:=3) 2 kR (results123) rfl rfl (Xa rfl) dC rfl ?_;rw [Yg,Hb,UA oM,UA oM];rfl))))
def TH (t:Nd):PV×Int:=if Jx t=true then (if Jx (Yg t)=true then (pTr (Yg t),0) else (Jd,5)) else (Jd,1)
theorem ZaO (t:Nd) (hf:FitT t):AF prog 80 [pTr t] (· = .tup [(TH t).1,Zf (TH t).2]):=by
 refine AF.of_body 16 func80 rfl ntmps80 (Xa rfl) ?_
 intro w0 M0 vs hl hv
 obtain ⟨v0,rfl⟩:=YG hl
 clear hl hv
 have e0:pTr t= .agg [Zf t.op,ZD t.act,Y4 t.l]:=rfl
 rw [e0]
 refine Zd ?_
 (refine Yi 1 3 fun h1=>?_<;>refine ZA [(.int .i64 0),(.string ByteArray.empty),(.slice none 0 0)] 3 2 WO fun h2=>?_<;>refine xL 3 Zb ?_<;>refine Zi ?_)
 ((refine yL 5 (Zu 1 ZG) fun v5 h=>?_;cases h)<;>(refine cS 6 (cA call79 (Rc t hf)) fun v6 h=>?_;cases h)<;>refine xL 7 Yd ?_<;>refine Zc ?_)
 refine cX ?_ ?_<;>intro hb7
 · first|exact bN hb7|(
 refine Zd ?_;(refine xL 8 (ZO Je) ?_<;>refine Zw 2 ZG ?_<;>refine xL 3 Zb ?_<;>refine Zc ?_)
 refine Yn (k:=3) 2 kR (results80) rfl rfl rfl (Xa rfl) dC rfl ?_;rw [show TH t=(Jd,1) by unfold TH;rw [UA (by simpa using hb7)]];rfl)
 · first|exact bN hb7|(
 (have hv:Jx t=true:=by simpa using hb7);have hsz:=ZaD hv;have hok:=ZaC hv;have hfn:=T' hok oM;refine Zd ?_;((refine yL 9 (Zu 1 ZG) fun v9 h=>?_;cases h)<;>(refine cD 10 (cA call123 (ZdL t hok oM)) fun v10 hv10=>?_;clear hv10)<;>refine ZA [(.int .i64 0),(.string ByteArray.empty),(.slice none 0 0)] 3 4 WO fun h4=>?_<;>refine Zw 4 ZG ?_<;>refine Zc ?_)
 have e1:cN (Yg t)=[Zf (Yg t).op,ZD (Yg t).act,Y4 (Yg t).l]:=rfl;(refine Zo ?_<;>(refine yL 11 (Zu 4 ZG) fun v11 h=>?_;cases h)<;>(refine cS 12 (cA call79 (Rc (Yg t) hfn)) fun v12 h=>?_;cases h)<;>refine xL 13 Yd ?_<;>refine Zc ?_)
 refine cX ?_ ?_<;>intro hb13
 · first|exact bN hb13|(
 refine Zd ?_;(refine xL 14 (ZO Je) ?_<;>refine Zw 2 ZG ?_<;>refine xL 3 Zb ?_<;>refine Zc ?_)
 refine Yn (k:=3) 2 kR (results80) rfl rfl rfl (Xa rfl) dC rfl ?_;rw [show TH t=(Jd,5) by unfold TH;rw [UB hv,UA (by simpa using hb13)]];rfl)
 · first|exact bN hb13|(
 refine Zd ?_;((refine yL 15 (Zu 4 ZG) fun v15 h=>?_;cases h)<;>refine Zw 2 ZG ?_<;>refine xL 3 Zb ?_<;>refine Zc ?_)
 refine Yn (k:=3) 2 kR (results80) rfl rfl rfl (Xa rfl) dC rfl ?_;rw [show TH t=(pTr (Yg t),0) by unfold TH;rw [UB hv,UB (by simpa using hb13)]];rfl))
theorem De {α β:Type} {f:α→List β} {m:Nat} (hf:∀x,(f x).length=m):∀(L:List α) (k:Nat),(L.flatMap f).drop (k*m)=(L.drop k).flatMap f
 |[],k=>sM
 |x::L,0=>sM
 | x::L,k+1=>by
   rw [List.drop_succ_cons,Xo,←De hf L k,List.drop_append,List.drop_of_length_le (by rw [hf,XW];omega),hf,show (k+1)*m-m=k*m by rw [XW];omega,VO]
theorem Zf9 {m:List Nd} {k:Nat} (hk:k≤m.length):PV.sl (m.length-k) (((Z6 m).drop (k*3)).take ((m.length-k)*3))=Y4 (m.drop k):=by
 unfold Y4
 rw [Y3,De Tb,Xy (by rw [Yr Tb,Ub];omega),←Y3,Ub]
end Go.Proofs.YtmkojdfiadbeeaaGreat
