/-
  Walks of functions and plain laws of the chapter, as the claim needs them.
-/
import Derived.Lib.AppendIntMem
import Derived.Lib.OthersKept
import Derived.Laws.BytesArg
import Derived.Test.YtmkojdfiadbeeaaGreatPe03
import Derived.Test.YtmkojdfiadbeeaaGreatPe01
set_option linter.all false
set_option maxRecDepth 100000
set_option maxHeartbeats 8000000
namespace Go.En
open Go.RowKit Go.Cb
section
variable {P:Program} {c:Ctx} {ops:Array Oper} {Q:Exit->Act->World->Prop} {rest:List Oper} {sL hP:List (Nat×Ent)} {o:Oper}
end
section
variable {P:Program} {ops:Array Oper} {Q:Exit->Act->World->Prop} {md:Region.Mode} {C:World->Prop} {Z:Nat->Bool}
def Of (md:Region.Mode) (ops:Array Oper):Nat->Nat->Nat->Bool
 |0,_,_=>false
 | n+1,z,i=>match ops[z]? with
   |some oz=>oz.after.any fun e=>Region.binds md e&&(e.on==i||Of md ops n e.on i)
   |none=>false
def Hl (md:Region.Mode) (ops:Array Oper) (Z:Nat->Bool) (i:Nat):Bool:=(List.range ops.size).all fun z=> !Z z||Of md ops ops.size z i
def Hm (md:Region.Mode) (ops:Array Oper) (listed:Array Bool):Bool:=(List.range ops.size).all fun k=> !(listed.getD k false)||(match ops[k]? with
 |some o=>o.after.all fun e=> !Region.binds md e||listed.getD e.on false
 |none=>true)
def ClosedL (md:Region.Mode) (ops:Array Oper) (listed:Array Bool):Prop:=∀(k:Nat) (o:Oper),ops[k]? =some o->listed.getD k false=true->∀e∈o.after,Region.binds md e=true->listed.getD e.on false=true
theorem ZcS {listed:Array Bool} (h:Hm md ops listed=true):ClosedL md ops listed:=fun k o ho hk e he hb=>by
 have hks:k<ops.size:=by
  rcases XL k ops.size with h'|h'
  . exact h'
  . rw [VA h'] at ho;cases ho
 have:=Xj.1 h k (XQ.2 hks)
 rw [hk,ho] at this
 simp only [Bool.not_true,Ui] at this
 have:=(Array.all_eq_true'.1 this) e he
 rw [hb] at this
 simpa using this
theorem ClosedL.reach {listed:Array Bool} (h:ClosedL md ops listed) {i:Nat}:∀(n z:Nat),listed.getD z false=true->Of md ops n z i=true->listed.getD i false=true
 |0,_,_,hr=>by simp [Of] at hr
 | n +1,z,hz,hr=>by
   rw [Of] at hr;split at hr
   . rename_i oz ho;obtain ⟨e,he,hb⟩:=Array.any_eq_true'.1 hr;simp only [Xe,Ve,beq_iff_eq] at hb;have h1:=h z oz ho hz e he hb.1;rcases hb.2 with h2|h2
     . rw [<-h2];exact h1
     . exact ClosedL.reach h n e.on h1 h2
   . cases hr
theorem ClosedL.ready {listed:Array Bool} (h:ClosedL md ops listed) {i j n:Nat} (hj:j∈Region.ready md ops listed) (hr:Of md ops n j i=true):listed.getD i false=true:=by
 obtain ⟨_,oj,hoj,hall⟩:=mem_ready.1 hj
 cases n with
 |zero=>simp [Of] at hr
 | succ n=>
   rw [Of,hoj] at hr;obtain ⟨e,he,hb⟩:=Array.any_eq_true'.1 hr;simp only [Xe,Ve,beq_iff_eq] at hb;have h1:=hall e he hb.1;rcases hb.2 with h2|h2
   . rw [<-h2];exact h1
   . exact h.reach n e.on h1 h2
theorem ClosedL.set {listed:Array Bool} (h:ClosedL md ops listed) {j:Nat} (hj:j∈Region.ready md ops listed):ClosedL md ops (listed.setIfInBounds j true):=fun k o ho hk e he hb=>by
 obtain ⟨_,oj,hoj,hall⟩:=mem_ready.1 hj
 by_cases hkj:k=j
 . subst hkj;rw [hoj] at ho;cases ho;exact getD_set_true (hall e he hb)
 . rw [getD_set_ne false (Ne.symm hkj)] at hk;exact getD_set_true (h k o ho hk e he hb)
theorem Zba {i:Nat} {oi:Oper} {v:Value} (hi:ops[i]? =some oi) (hz:Hl md ops Z i=true)
 (hsel:∀(j:Nat) (o:Oper) cs b,ops[j]? =some o->o.op≠ .select cs b):
 ∀ (fuel:Nat) (listed:Array Bool) (a:Act) (w:World),ClosedL md ops listed->
  (∀j oj,ops[j]? =some oj->j≠i->listed.getD j true=false->(∀e∈oj.after,Region.binds md e=true->e.on≠i)->oi.apart ops oj=true)->
  i∈Region.ready md ops listed->YieldsC P ops C oi v a->C w->
  wpAnyS P md ops Q C Z fuel (listed.setIfInBounds i true) (a.put oi.dst v) w->wpAnyS P md ops Q C Z (fuel+1) listed a w:=by
 intro fuel
 induction fuel with
 | zero=>
   intro listed a w _ _ hr hy hC H;refine ⟨fun h=>(by rw [h] at hr;cases hr),fun j hj=>?_⟩;by_cases hji:j=i
   . subst hji;exact YieldsIf.wpOp hi hy.ifS hC ⟨.inr hC,H⟩
   . have:=ready_mono hj hji;rw [H.1] at this
     cases this
 | succ fuel ih=>
   intro listed a w hcl hfree hr hy hC H;refine ⟨fun h=>(by rw [h] at hr;cases hr),fun j hj=>?_⟩;by_cases hji:j=i
   . subst hji;exact YieldsIf.wpOp hi hy.ifS hC ⟨.inr hC,H⟩
   . have h1:=H.2 j (ready_mono hj hji);obtain ⟨hjun,oj,hoj,hall⟩:=mem_ready.1 hj;have hnot:∀e∈oj.after,Region.binds md e=true->e.on≠i:=fun e he hb heq=>by
      have h1:=hall e he hb;have h0:=(mem_ready.1 hr).1;rw [heq] at h1;rcases XL i listed.size with h'|h'
      . simp [h'] at h0 h1;rw [h0] at h1;cases h1
      . simp [VA h'] at h1
     have hjz:Z j=false:=by
      cases hZ:Z j
      . rfl
      . exfalso;have hjs:j<ops.size:=by
         rcases XL j ops.size with h'|h'
         . exact h'
         . rw [VA h'] at hoj;cases hoj
        have:=Xj.1 hz j (XQ.2 hjs);rw [hZ] at this;simp only [Bool.not_true,Ui] at this;have h0:=(mem_ready.1 hr).1;have h1:=hcl.ready hj this;rcases XL i listed.size with h'|h'
        . simp [h'] at h0 h1;rw [h0] at h1;cases h1
        . simp [VA h'] at h1
     have h2:=wpOp_putIf hoj (hfree j oj hoj hji hjun hnot) (fun cs b=>hsel i oi cs b hi) (fun cs b=>hsel j oj cs b hoj) (fun c a w h=>h) hy.ifS h1;have hfree':∀k ok,ops[k]? =some ok->k≠i->(listed.setIfInBounds j true).getD k true=false->
      (∀e∈ok.after,Region.binds md e=true->e.on≠i)->oi.apart ops ok=true:=fun k ok hk hki hun hno=>by
      refine hfree k ok hk hki ?_ hno;by_cases hjk:j=k
      . subst hjk;exact hjun
      . rw [getD_set_ne true hjk] at hun;exact hun
     refine wpOp_mono (fun a' w' h3=>?_) h2;obtain ⟨hy',hor,hK⟩:=h3;have hC':C w':=by
      rcases hor with h|h
      . rw [hjz] at h;cases h
      . exact h
     refine ⟨.inr hC',ih (listed.setIfInBounds j true) a' w' (hcl.set hj) hfree' (ready_mono hr (Ne.symm hji)) hy' hC' ?_⟩;rw [Array.setIfInBounds_comm _ _ hji];exact hK
end
section
variable {P:Program} {c:Ctx} {ops:Array Oper} {Q:Exit->Act->World->Prop} {Z:Nat->Bool} {K:List Nat} {fuel:Nat} {listed:Array Bool} {sL hP:List (Nat×Ent)} {o:Oper}
theorem Zqq {V:Value->Prop} {p:PV} (i d:Nat) (ho:ops[i]? =some o) (hck:(Region.noSelect ops&&(Region.ready .any ops listed).contains i&&Region.free .any ops listed i&&Hl .any ops Z i&&Hm .any ops listed)=true) (hw:Yf ops sL o=some true) (hd:o.dst=some d) (hn:d<c.nt) (hy:YE P ⟨sL,Gb K hP⟩ o V p)
 (k:∀v,V v->aD P c ops Q Z K fuel (listed.setIfInBounds i true) ⟨put d (v,p) sL,hP⟩):aD P c ops Q Z K (fuel+1) listed (⟨sL,hP⟩:St):=fun a w F H C hC=>by
 simp only [Xe] at hck
 obtain ⟨⟨⟨⟨hs,hr⟩,hf⟩,hz⟩,hcl⟩:=hck
 obtain ⟨v,hV,hS,hrun⟩:=hy _ F a w (H.rdK K)
 refine T5 hC _ _ _ _ ?_
 refine Zba ho hz (Region.noSelect_spec hs) _ listed a w (ZcS hcl) (Region.free_spec ho hf) (by simpa using hr) (v:=v) (.inl ⟨Lg H.rd hw,fun W hW=>?_⟩) (Chg.rfl' _ _) ?_
 . exact hrun _ W hW (fun b ⟨l,x,_,h1,h2⟩=> .inr ⟨l,x,h1,h2⟩) (fun l x b hl hFb ⟨l',x',h1,h2,h3⟩=>by
    obtain ⟨h4,h5⟩:=RE.1 hl;exact H.dj l l' _ _ b (fun e=>by rw [e,h1] at h4;cases h4) h5 h2 hFb h3)
 . rw [hd];exact k v hV _ w F (H.put hn hS) _ (fun W h=>h)
theorem ZrR {v:Value} {p:PV} (i d:Nat) (ho:ops[i]? =some o) (hck:(Region.noSelect ops&&(Region.ready .any ops listed).contains i&&Region.free .any ops listed i&&Hl .any ops Z i&&Hm .any ops listed)=true) (hw:Yf ops sL o=some true) (hd:o.dst=some d) (hn:d<c.nt) (hy:YE P ⟨sL,Gb K hP⟩ o (· =v) p)
 (k:aD P c ops Q Z K fuel (listed.setIfInBounds i true) ⟨put d (v,p) sL,hP⟩):aD P c ops Q Z K (fuel+1) listed (⟨sL,hP⟩:St):=Zqq i d ho hck hw hd hn hy fun u hu=>by cases hu;exact k
theorem xDT {v:Value} {p:PV} (i:Nat) (d:Nat) (ho:ops[i]? =some o) (hy:YE P ⟨sL,Gb K hP⟩ o (· =v) p) (k:aD P c ops Q Z K fuel (listed.setIfInBounds i true) ⟨put d (v,p) sL,hP⟩) (hck:(Region.noSelect ops&&(Region.ready .any ops listed).contains i&&Region.free .any ops listed i&&Hl .any ops Z i&&Hm .any ops listed)=true:=by kernel_rfl) (hw:Yf ops sL o=some true:=by exact rfl) (hd:o.dst=some d:=by exact rfl) (hn:d<c.nt:=by exact Xa rfl):aD P c ops Q Z K (fuel+1) listed (⟨sL,hP⟩:St):=
 ZrR i d ho hck hw hd hn hy k
theorem yDT {V:Value->Prop} {p:PV} (i:Nat) (d:Nat) (ho:ops[i]? =some o) (hy:YE P ⟨sL,Gb K hP⟩ o V p) (k:∀v,V v->aD P c ops Q Z K fuel (listed.setIfInBounds i true) ⟨put d (v,p) sL,hP⟩) (hck:(Region.noSelect ops&&(Region.ready .any ops listed).contains i&&Region.free .any ops listed i&&Hl .any ops Z i&&Hm .any ops listed)=true:=by kernel_rfl) (hw:Yf ops sL o=some true:=by exact rfl) (hd:o.dst=some d:=by exact rfl) (hn:d<c.nt:=by exact Xa rfl):aD P c ops Q Z K (fuel+1) listed (⟨sL,hP⟩:St):=
 Zqq i d ho hck hw hd hn hy k
end
def aDZ (P:Program) (c:Ctx) (ops:Array Oper) (Q:Exit->Act->World->Prop) (Z:Nat->Bool) (fuel:Nat) (listed:Array Bool) (st:St):Prop:=
 ∀a w F,HoldsF c st F a w->∀C:World->Prop,wpAnyS P .any ops Q C Z fuel listed a w
section
variable {P:Program} {c:Ctx} {ops:Array Oper} {Q:Exit->Act->World->Prop} {Z:Nat->Bool} {K:List Nat} {fuel:Nat} {listed:Array Bool} {sL hP:List (Nat×Ent)} {o:Oper}
theorem Zem {i:Nat} (ho:ops[i]? =some o) (hZ:Z i=true) (h:∀DQ:Exit->Act->World->Prop,(∀st':St,aDZ P c ops Q Z fuel (listed.setIfInBounds i true) st'->aN c DQ st')->aL P c ops DQ [o] (⟨sL,hP⟩:St)):aW P c ops Q Z K fuel listed (⟨sL,hP⟩:St) i:=fun a w F H C hC=>by
 refine Gx (Q':=fun _ a' w'=>(Z i=true\/C w')/\wpAnyS P .any ops Q C Z fuel (listed.setIfInBounds i true) a' w') ho (fun a' w' hq=>hq) ?_
 exact h _ (fun st' hN a' w' ⟨F',H'⟩=>⟨.inl hZ,hN a' w' F' H' C⟩) a w ⟨F,H⟩
theorem ZhS (i:Nat) (hr:Region.ready .any ops listed=[i]) (ho:ops[i]? =some o) (hZ:Z i=true) (h:∀DQ:Exit->Act->World->Prop,(∀st':St,aDZ P c ops Q Z fuel (listed.setIfInBounds i true) st'->aN c DQ st')->aL P c ops DQ [o] (⟨sL,hP⟩:St)):aDZ P c ops Q Z (fuel+1) listed (⟨sL,hP⟩:St):=fun a w F H C=>
 ⟨(fun hn=>by rw [hr] at hn;cases hn),fun j hj=>by
   rw [hr] at hj;obtain rfl:j=i:=by simpa using hj
   refine Gx (Q':=fun _ a' w'=>(Z j=true\/C w')/\wpAnyS P .any ops Q C Z fuel (listed.setIfInBounds j true) a' w') ho (fun a' w' hq=>hq) ?_;exact h _ (fun st' hN a' w' ⟨F',H'⟩=>⟨.inl hZ,hN a' w' F' H' C⟩) a w ⟨F,H⟩⟩
theorem ZhT (hr:Region.ready .any ops listed=[]) (h:aN c Q (⟨sL,hP⟩:St)):aDZ P c ops Q Z fuel listed (⟨sL,hP⟩:St):=fun a w F H C=>by
 cases fuel with
 |zero=>exact ⟨hr,h a w ⟨F,H⟩⟩
 |succ n=>exact ⟨fun _=>h a w ⟨F,H⟩,fun i hi=>by rw [hr] at hi;cases hi⟩
end
section
variable {P:Program} {st:St} {o:Oper} {x y:Operand} {q q':PV} {t t':TypeId}
end
section
variable {P:Program} {c:Ctx} {sL hP:List (Nat×Ent)}
end
section
variable {P:Program} {c:Ctx} {ops:Array Oper} {Q:Exit->Act->World->Prop} {Z:Nat->Bool} {K:List Nat} {fuel:Nat} {listed:Array Bool} {sL hP:List (Nat×Ent)} {o:Oper}
end
structure PiT (P:Program) (t ks s e:Nat) (z:Value):Prop where
 ht:P.underlying t=some (.map ks e)
 hu:P.underlying ks=some (.array 2 s)
 hs:P.underlying s=some (.int .i64)
 hk:P.keyType ks=true
 hk2:P.keyTypeAt 2 ks=true
 hti:P.tiled 2 ks=true
 hc2:P.cellsOf ks=2
 hc1:P.cellsOf s=1
 hf:∀a b:Int,(Value.agg #[.int .i64 a, .int .i64 b]).formed P ks=true
 hsz:∃n,P.types.size=n+1
 hz:ZeroT P e z
theorem PiT.law {P:Program} {t ks s e:Nat} {z:Value} (h:PiT P t ks s e z):WideMaps.KeyLaw P ks:=deep_law (m:=2) dC h.hk2 h.hti (by rw [h.hu])
section
variable {P:Program} {c:Ctx} {ops:Array Oper} {Q:Exit->Act->World->Prop} {rest:List Oper} {sL hP:List (Nat×Ent)} {o:Oper}
end
section
variable {P:Program} {sL hP:List (Nat×Ent)} {o:Oper}
end
theorem cPx {P:Program} {c:Ctx} {ops:Array Oper} {Q:Exit->Act->World->Prop} {rest:List Oper} {sL hP:List (Nat×Ent)} {o:Oper} {ι:Type} {p1 p2:ι->PV} (d:Nat) (hC:LB P c (⟨sL,hP⟩:St) o (fun p=>∃i,p= .tup [p1 i,p2 i])) (k:∀i v1 v2,vOf (p1 i) v1->vOf (p2 i) v2->aL P c ops Q rest ⟨put d (.tuple [v1,v2].toArray, .tup [p1 i,p2 i]) sL,hP⟩) (hsh:∀i,shD (.tup [p1 i,p2 i])=true) (hw:Yf ops sL o=some true:=by exact rfl) (hd:o.dst=some d:=by exact rfl) (hn:d<c.nt:=by exact Xa rfl):aL P c ops Q (o::rest) (⟨sL,hP⟩:St):=
 Ss hw hC fun a w F w' v p' Fr H hR hx hT hlo hdw=>by
  obtain ⟨i,rfl⟩:=hR;have hS:=hT.shD (hsh i);rw [hd];have hS':Shr (mof c hP F) w' v (.tup [p1 i,p2 i]):=hS.anti fun b _ h=> .inl h
  cases hS with
  | tup vs ps hl h=>
    match vs,hl,h,hS' with
    |[v1,v2],_,h,hS'=>exact k i v1 v2 (h 0 v1 _ rfl rfl).vOf (h 1 v2 _ rfl rfl).vOf _ _ ⟨F,Du H hx hn hS'⟩
theorem cDx {P:Program} {c:Ctx} {ops:Array Oper} {Q:Exit->Act->World->Prop} {rest:List Oper} {sL hP:List (Nat×Ent)} {o:Oper} {ι:Type} {p:ι->PV} (d:Nat) (hC:LB P c (⟨sL,hP⟩:St) o (fun q=>∃i,q=p i)) (k:∀i v,vOf (p i) v->aL P c ops Q rest ⟨put d (v,p i) sL,hP⟩) (hsh:∀i,shD (p i)=true) (hw:Yf ops sL o=some true:=by exact rfl) (hd:o.dst=some d:=by exact rfl) (hn:d<c.nt:=by exact Xa rfl):aL P c ops Q (o::rest) (⟨sL,hP⟩:St):=
 Ss hw hC fun a w F w' v p' Fr H hR hx hT hlo hdw=>by
  obtain ⟨i,rfl⟩:=hR;have hS:=hT.shD (hsh i);rw [hd];exact k i v hS.vOf _ _ ⟨F,Du H hx hn (hS.anti fun b _ h=> .inl h)⟩
section
variable {P:Program} {c:Ctx} {sL hP:List (Nat×Ent)}
end
open Go.RowKit Go.Cb Go.Proofs Go.Sort
section
variable {P:Program} {c:Ctx} {ops:Array Oper} {Q:Exit->Act->World->Prop} {rest:List Oper} {sL hP:List (Nat×Ent)} {o:Oper}
end
section
variable {P:Program} {sL hP:List (Nat×Ent)} {o:Oper}
end
section
variable {P:Program} {st:St} {o:Oper} {x y:Operand} {t t':TypeId} {q q':PV}
theorem Gk {a b c:Int} (ho:o.op= .binOp .add t x y t':=by exact rfl) (hx:ev st.slots x=some (.int .i64 a,q):=by exact rfl) (hy:ev st.slots y=some (.int .i64 b,q'):=by exact rfl) (hc:a+b=c:=by omega) (h1: -9223372036854775808<=c:=by omega) (h2:c<=9223372036854775807:=by omega):YE P st o (· = .int .i64 c) (.val (.int .i64 c)):=by
 subst hc;exact Zqj ho hx hy h1 h2
theorem Jc {a b c:Int} (ho:o.op= .binOp .sub t x y t':=by exact rfl) (hx:ev st.slots x=some (.int .i64 a,q):=by exact rfl) (hy:ev st.slots y=some (.int .i64 b,q'):=by exact rfl) (hc:a-b=c:=by omega) (h1: -9223372036854775808<=c:=by omega) (h2:c<=9223372036854775807:=by omega):YE P st o (· = .int .i64 c) (.val (.int .i64 c)):=by
 subst hc;exact Zqk ho hx hy h1 h2
theorem ZcT {a b c:Int} (ho:o.op= .binOp .mul t x y t':=by exact rfl) (hx:ev st.slots x=some (.int .i64 a,q):=by exact rfl) (hy:ev st.slots y=some (.int .i64 b,q'):=by exact rfl) (hc:a*b=c:=by omega) (h1: -9223372036854775808<=c:=by omega) (h2:c<=9223372036854775807:=by omega):YE P st o (· = .int .i64 c) (.val (.int .i64 c)):=by
 subst hc;exact ZrL ho hx hy h1 h2
theorem ZcU {a c:Int} (ho:o.op= .move x:=by exact rfl) (hx:ev st.slots x=some (.int .i64 a,q):=by exact rfl) (hc:a=c:=by omega):YE P st o (· = .int .i64 c) (.val (.int .i64 c)):=by
 subst hc;exact y1 hx (fun _ _ _=> .val _) fun ρ w h=>by simp [execOp,ho,h]
theorem ZhU {a:Nat} {s d:TypeId} {ds:TypeDesc} (hs:P.underlying s=some ds) (hd:P.underlying d=some (.int .u64)) (ha:a<=9223372036854775807) (ho:o.op= .convert s d x:=by exact rfl) (hx:ev st.slots x=some (.int .i64 (a:Int),q):=by exact rfl):YE P st o (· = .int .u64 (a:Int)) (.val (.int .u64 (a:Int))):=
 Zlx hs hd ho hx (IntWalk.u64_in _ oM)
theorem ZhV {a:Nat} {s d:TypeId} {ds:TypeDesc} (hs:P.underlying s=some ds) (hd:P.underlying d=some (.int .i64)) (ha:a<=9223372036854775807) (ho:o.op= .convert s d x:=by exact rfl) (hx:ev st.slots x=some (.int .u64 (a:Int),q):=by exact rfl):YE P st o (· = .int .i64 (a:Int)) (.val (.int .i64 (a:Int))):=
 Zlx hs hd ho hx (IntWalk.i64_in _ oM)
theorem CQ {a:Nat} {b:Int} {kb:IntKind} (hb:b=1) (ho:o.op= .binOp .shr t x y t':=by exact rfl) (hx:ev st.slots x=some (.int .u64 (a:Int),q):=by exact rfl) (hy:ev st.slots y=some (.int kb b,q'):=by exact rfl):YE P st o (· = .int .u64 ((a / 2:Nat):Int)) (.val (.int .u64 ((a / 2:Nat):Int))):=
 y2 hx hy fun ρ w h3 h4=>by
  subst hb;have e:(a:Int).fdiv 2=((a / 2:Nat):Int):=by
   rw [Int.fdiv_eq_ediv_of_nonneg _ dC];rfl
  simp [execOp,ho,h3,h4,eqGuard,binOp,Op.shift];exact e
end
end Go.En
namespace Go.Proofs.YtmkojdfiadbeeaaGreat
open Go.RowKit Go.Cb Go.En Tryz
theorem ZL:AggT prog 51 3=true:=kR
theorem Yg:SlT prog 49 51 3=true:=kR
theorem TK (l:List Nd):(Z9 l).length=l.length*3:=by rw [W2];exact Ya Ru l
theorem ZhW:∀(ps:List PV) (a b c:List PV) (j:Nat),a.length=j->b.length=ps.length->TB (a++b++c) j ps=a++ps++c
 | [],a,b,c,j,ha,hb=>by
   have:b=[]:=Xv hb;subst this;rfl
 | p ::ps,a,x::b,c,j,ha,hb=>by
   rw [TB];have h1:(a++(x::b)++c).set j p=(a++[p])++b++c:=by
    subst ha;rw [XH,Vr _ _ (Xd _),Vl];simp
   rw [h1,ZhW ps (a++[p]) b c (j+1) (by simp [ha]) (by simpa using hb)];simp
theorem ZcV (L:List Nd) (k:Nat) (x:Nd) (h:k<L.length):TB (Z9 L) (k*3) (cN x)=Z9 (L.set k x):=by
 rw [W2,W2]
 have e:L=L.take k++[L[k]]++L.drop (k+1):=by
  rw [XH,List.singleton_append,List.getElem_cons_drop,Vy]
 have e2:L.set k x=L.take k++[x]++L.drop (k+1):=by
  rw [List.set_eq_take_append_cons_drop,Qc h,XH];rfl
 rw [e2]
 conv=>lhs;rw [e]
 simp only [XY,UC]
 exact ZhW (cN x) _ _ _ _ (by rw [Ya Ru,XE,Vf (Nat.le_of_lt h)]) rfl
theorem OU {L:List Nd} {i j:Nat} {x y:Nd} (hx:L[i]? =some x) (hy:L[j]? =some y):TB (TB (Z9 L) (i*3) (cN y)) (j*3) (cN x)=Z9 (swp L i j):=by
 rw [ZcV L i y (Zd hx),ZcV _ j x (by rw [Xn];exact Zd hy),Zmn hx hy]
def Kt (hv:Value) (l:List Nd):List (Nat×Ent):=[(1000,hv, .own 51 3 l.length (Z9 l))]
theorem ζN (l:List Nd) (hl:l.length<=1000000) (a b n:Nat) (h1:a+n<=b) (h2:b+n<=l.length) (hv:Value) (fv:Value) (f:Nat):AFh False prog 290 [(0,hv, .val hv),(1, .int .i64 (a:Int),Zb a),(2, .int .i64 (b:Int),Zb b),(3, .int .i64 (n:Int),Zb n),(4,fv, .fn f [])] (Kt hv l) (fun v q h=>∃l',(∀k,l'[k]? =l[srI a b n k]?)/\Sw a (b+n) l l'/\h=Kt hv l'):=by
 unfold Kt
 refine AFh.of_body 38 func290 rfl ntmps290 (Xa rfl) rfl ?_
 intro w0 M0 N0
 refine ZD ?_
 refine Yq (ι:={q:Nat×List Nd//q.1<=n/\(∀k,q.2[k]? =l[srI a b q.1 k]?)/\Sw a (b+n) l q.2}) (fun k=>⟨[(0,_,_),(1,_,_),(2,_,_),(3,_,_),(10, .int .i64 k.1.1,Zb k.1.1)],[(1000,hv, .own 51 3 l.length (Z9 k.1.2))]⟩) (fun k=>n-k.1.1) ⟨(0,l),Xg _,fun k=>by rw [Zo4], .refl _⟩ ?_
 rintro ⟨⟨i,L⟩,hi,hL,hS⟩
 dsimp only
 dsimp only at hi hL hS;have hLl:=hS.len
 refine WJ ?_;refine ZE ?_ ?_<;>intro hb13
 . (
 have hin:i<n:=oM;obtain ⟨x,hx⟩:=gS L (a+i);obtain ⟨y,hy⟩:=gS L (b+i);have e1:=Ye hx;have e2:=YH hx;have e3:=Ye hy;have e4:=YH hy;have hsw:=OU hx hy;have e5:(TB (Z9 L) ((a+i)*3) (cN y)).length=(Z9 L).length:=Rz _ _ _;refine nav ?_;(refine YJ [] [] ?_<;>refine xD 0 rfl Za ?_<;>refine xD 1 rfl Za ?_<;>refine xD 2 rfl Za ?_<;>refine xD 3 rfl ((Gk (c:=((a+i:Nat):Int)))) ?_<;>refine xD 4 rfl Za ?_<;>refine xD 5 rfl Za ?_<;>refine xD 6 rfl Za ?_<;>refine xD 7 rfl ((Gk (c:=((b+i:Nat):Int)))) ?_<;>refine xD 8 rfl Za ?_<;>refine xD 9 rfl Za ?_<;>refine xD 10 rfl Za ?_<;>refine xD 11 rfl ((Gk (c:=((b+i:Nat):Int)))) ?_<;>refine xD 14 rfl Za ?_<;>refine xD 15 rfl Za ?_<;>refine xD 16 rfl Za ?_<;>refine xD 17 rfl ((Gk (c:=((a+i:Nat):Int)))) ?_<;>(refine WI 12 18 kR ?_ ?_;rotate_right;(focus ((refine aWr fun bk=>?_)<;>refine xM (Zj 1000 Yg) ?_<;>refine bE bk ?_<;>(refine WI 12 19 kR ?_ ?_;rotate_right;(focus ((refine aWr fun bk=>?_)<;>refine yU (Zn 1000 ZL) fun v35=>?_<;>refine bE bk ?_<;>(refine aDr 12 fun bk=>?_)<;>refine xM (Zj 1000 Yg) ?_<;>refine bE bk ?_<;>(refine aDr 13 fun bk=>?_)<;>refine yU (Zn 1000 ZL) fun v29=>?_<;>refine bE bk ?_<;>refine xE 20 rfl (Zj 1000 Yg) ?_<;>(refine aDr 21 fun bk=>?_)<;>refine Zp 1000 ZL ?_<;>refine bE bk ?_<;>refine xE 22 rfl (Zj 1000 Yg) ?_<;>(refine aDr 23 fun bk=>?_)<;>refine Zp 1000 ZL ?_<;>refine bE bk ?_));rotate_right;(focus ((refine aWr fun bk=>?_)<;>refine xM (Zj 1000 Yg) ?_<;>refine bE bk ?_<;>(refine WI 13 19 kR ?_ ?_;rotate_right;(focus ((refine aWr fun bk=>?_)<;>refine yU (Zn 1000 ZL) fun v35=>?_<;>refine bE bk ?_<;>(refine aDr 13 fun bk=>?_)<;>refine yU (Zn 1000 ZL) fun v29=>?_<;>refine bE bk ?_<;>refine xE 20 rfl (Zj 1000 Yg) ?_<;>(refine aDr 21 fun bk=>?_)<;>refine Zp 1000 ZL ?_<;>refine bE bk ?_<;>refine xE 22 rfl (Zj 1000 Yg) ?_<;>(refine aDr 23 fun bk=>?_)<;>refine Zp 1000 ZL ?_<;>refine bE bk ?_));rotate_right;(focus ((refine aWr fun bk=>?_)<;>refine yU (Zn 1000 ZL) fun v29=>?_<;>refine bE bk ?_<;>(refine aDr 19 fun bk=>?_)<;>refine yU (Zn 1000 ZL) fun v35=>?_<;>refine bE bk ?_<;>refine xE 20 rfl (Zj 1000 Yg) ?_<;>(refine aDr 21 fun bk=>?_)<;>refine Zp 1000 ZL ?_<;>refine bE bk ?_<;>refine xE 22 rfl (Zj 1000 Yg) ?_<;>(refine aDr 23 fun bk=>?_)<;>refine Zp 1000 ZL ?_<;>refine bE bk ?_))))))));rotate_right;(focus ((refine aWr fun bk=>?_)<;>refine xM (Zj 1000 Yg) ?_<;>refine bE bk ?_<;>(refine WI 13 18 kR ?_ ?_;rotate_right;(focus ((refine aWr fun bk=>?_)<;>refine xM (Zj 1000 Yg) ?_<;>refine bE bk ?_<;>(refine WI 13 19 kR ?_ ?_;rotate_right;(focus ((refine aWr fun bk=>?_)<;>refine yU (Zn 1000 ZL) fun v35=>?_<;>refine bE bk ?_<;>(refine aDr 13 fun bk=>?_)<;>refine yU (Zn 1000 ZL) fun v29=>?_<;>refine bE bk ?_<;>refine xE 20 rfl (Zj 1000 Yg) ?_<;>(refine aDr 21 fun bk=>?_)<;>refine Zp 1000 ZL ?_<;>refine bE bk ?_<;>refine xE 22 rfl (Zj 1000 Yg) ?_<;>(refine aDr 23 fun bk=>?_)<;>refine Zp 1000 ZL ?_<;>refine bE bk ?_));rotate_right;(focus ((refine aWr fun bk=>?_)<;>refine yU (Zn 1000 ZL) fun v29=>?_<;>refine bE bk ?_<;>(refine aDr 19 fun bk=>?_)<;>refine yU (Zn 1000 ZL) fun v35=>?_<;>refine bE bk ?_<;>refine xE 20 rfl (Zj 1000 Yg) ?_<;>(refine aDr 21 fun bk=>?_)<;>refine Zp 1000 ZL ?_<;>refine bE bk ?_<;>refine xE 22 rfl (Zj 1000 Yg) ?_<;>(refine aDr 23 fun bk=>?_)<;>refine Zp 1000 ZL ?_<;>refine bE bk ?_)))));rotate_right;(focus ((refine aWr fun bk=>?_)<;>refine yU (Zn 1000 ZL) fun v29=>?_<;>refine bE bk ?_<;>(refine aDr 18 fun bk=>?_)<;>refine xM (Zj 1000 Yg) ?_<;>refine bE bk ?_<;>(refine aDr 19 fun bk=>?_)<;>refine yU (Zn 1000 ZL) fun v35=>?_<;>refine bE bk ?_<;>refine xE 20 rfl (Zj 1000 Yg) ?_<;>(refine aDr 21 fun bk=>?_)<;>refine Zp 1000 ZL ?_<;>refine bE bk ?_<;>refine xE 22 rfl (Zj 1000 Yg) ?_<;>(refine aDr 23 fun bk=>?_)<;>refine Zp 1000 ZL ?_<;>refine bE bk ?_))))))<;>refine WE ?_)<;>(
 refine GP ?_;rw [hsw];refine Yr (
  ⟨(i+1,swp L (a+i) (b+i)),hin,Zo3 hin h1 oM hL, .step _ _ hS oM oM oM oM h2⟩
  )))
 . (
 refine nav ?_;have hin:i=n:=oM;subst hin;refine Pq [(1000,hv, .own 51 3 l.length (Z9 L))] (results290) sB ⟨L,hL,hS,?_⟩;rw [hLl])
theorem ZjH (l :List Nd) (hl:l.length<=1000000) (a m b:Nat) (h1:a<m) (h2:m<b) (h3:b<=l.length) (hv:Value) (fv:Value) (f:Nat):AFh False prog 288 [(0,hv, .val hv),(1, .int .i64 (a:Int),Zb a),(2, .int .i64 (m:Int),Zb m),(3, .int .i64 (b:Int),Zb b),(4,fv, .fn f [])] (Kt hv l) (fun v q h=>∃l',(∀k,l'[k]? =l[Pt a m b k]?)/\Sw a b l l'/\h=Kt hv l'):=by
 unfold Kt
 refine AFh.of_body 58 func288 rfl ntmps288 (Xa rfl) rfl ?_
 intro w0 M0 N0
 refine KL ?_;refine xM ((Jc (c:=((m-a:Nat):Int)))) ?_;refine ZX ?_;refine ZO ?_;refine xM ((Jc (c:=((b-m:Nat):Int)))) ?_;refine ZP ?_
 refine Yq (ι:={q:Nat×Nat×List Nd//0<q.1/\0<q.2.1/\q.1<=m-a/\q.2.1<=b-m/\(∀k,q.2.2[Pt (m-q.1) m (m+q.2.1) k]? =l[Pt a m b k]?)/\Sw a b l q.2.2}) (fun k=>⟨[(0,_,_),(1,_,_),(2,_,_),(3,_,_),(4,_,_),(10, .int .i64 k.1.1,Zb k.1.1),(11, .int .i64 k.1.2.1,Zb k.1.2.1)],[(1000,hv, .own 51 3 l.length (Z9 k.1.2.2))]⟩) (fun k=>k.1.1+k.1.2.1) ⟨(m-a,b-m,l),by dsimp only;omega,by dsimp only;omega,Xd _,Xd _,fun k=>by dsimp only;rw [show m-(m-a)=a by omega,show m+(b-m)=b by omega], .refl _⟩ ?_
 rintro ⟨⟨i,j,L⟩,hi0,hj0,hi,hj,hL,hS⟩
 dsimp only
 dsimp only at hi0 hj0 hi hj hL hS;have hLl:=hS.len
 refine WJ ?_;refine ZE ?_ ?_<;>intro hb20
 . (
 refine WJ ?_;refine ZE ?_ ?_<;>intro hb23
 . (
 refine WJ ?_;refine xM ((Jc (c:=((m-i:Nat):Int)))) ?_;refine Y1 ?_;(refine GA (Kt hv L) ⟨by rw [<-hLl];rfl,trivial⟩ ?_;refine RN [] 31 (call290) (ζN L oM (m-i) m j oM oM hv fv f) (fun v31 p31 h31 hR31=>?_);obtain ⟨L2,hL2,hS2,rfl⟩:=hR31;have hL2l:=hS2.len.trans hLl;dsimp only [Kt];rw [hL2l]);refine Ym ?_;refine ZO ?_;refine xM ((Jc (c:=((i-j:Nat):Int)))) ?_;refine ZP ?_
 first
  | (exact Yr (
      ⟨(i-j,j,L2),by dsimp only;omega,hj0,by dsimp only;omega,hj,fun k=>by
        dsimp only;rw [hL2,show m-(i-j)=m-i+j by omega,Zmt oM oM];exact hL k,hS.trans (hS2.mono oM oM oM)⟩
      ))
  | (exact Yr (
      ⟨(i,j-i,L2),hi0,by dsimp only;omega,hi,by dsimp only;omega,fun k=>by
        dsimp only;rw [hL2,show m+(j-i)=m+j-i by omega,Zmu oM oM];exact hL k,hS.trans (hS2.mono oM oM oM)⟩
      )))
 . (
 refine WJ ?_;refine xM ((Jc (c:=((m-i:Nat):Int)))) ?_;refine ZO ?_;refine xM ((Gk (c:=((m+j:Nat):Int)))) ?_;refine ZN ?_;refine xM ((Jc (c:=((m+j-i:Nat):Int)))) ?_;refine ZO ?_;(refine GA (Kt hv L) ⟨by rw [<-hLl];rfl,trivial⟩ ?_;refine RN [] 46 (call290) (ζN L oM (m-i) (m+j-i) i oM oM hv fv f) (fun v46 p46 h46 hR46=>?_);obtain ⟨L2,hL2,hS2,rfl⟩:=hR46;have hL2l:=hS2.len.trans hLl;dsimp only [Kt];rw [hL2l]);refine Ym ?_;refine ZO ?_;refine xM ((Jc (c:=((j-i:Nat):Int)))) ?_;refine ZP ?_
 first
  | (exact Yr (
      ⟨(i-j,j,L2),by dsimp only;omega,hj0,by dsimp only;omega,hj,fun k=>by
        dsimp only;rw [hL2,show m-(i-j)=m-i+j by omega,Zmt oM oM];exact hL k,hS.trans (hS2.mono oM oM oM)⟩
      ))
  | (exact Yr (
      ⟨(i,j-i,L2),hi0,by dsimp only;omega,hi,by dsimp only;omega,fun k=>by
        dsimp only;rw [hL2,show m+(j-i)=m+j-i by omega,Zmu oM oM];exact hL k,hS.trans (hS2.mono oM oM oM)⟩
      ))))
 . (
 have hij:j=i:=oM;subst hij;refine WJ ?_;refine xM ((Jc (c:=((m-j:Nat):Int)))) ?_;refine Y1 ?_;(refine GA (Kt hv L) ⟨by rw [<-hLl];rfl,trivial⟩ ?_;refine RN [] 57 (call290) (ζN L oM (m-j) m j oM oM hv fv f) (fun v57 p57 h57 hR57=>?_);obtain ⟨L2,hL2,hS2,rfl⟩:=hR57;have hL2l:=hS2.len.trans hLl;dsimp only [Kt]);refine Zw ?_;refine Pq (Kt hv L2) (results288) sB ⟨L2,fun k=>?_,hS.trans (hS2.mono oM oM oM),rfl⟩;rw [hL2,ZqZ oM];exact hL k)
theorem Og {a b:Nat} {l L:List Nd} (h:Sw a b l L) {x:Nd} (hx:x∈L):x∈l:=h.perm.mem_iff.1 hx
theorem Tg {x y:Nd} (h:¬WF x y<0):leT y x:=ZcH.1 h
theorem Zmx (f:Nat) (hc:∀args w,(callFunc f args).run prog w= .ok (.enter f args) w) (l:List Nd) (hl:l.length<=1000000) (hf:∀x∈l,∀y∈l,AF prog f [pTr x,pTr y] (· =Zb (WF x y))) (a b:Nat) (h1:a<=b) (h2:b<=l.length) (hv:Value) (fv:Value):AFh False prog 282 [(0,hv, .val hv),(1, .int .i64 (a:Int),Zb a),(2, .int .i64 (b:Int),Zb b),(3,fv, .fn f [])] (Kt hv l) (fun v q h=>∃l',Sw a b l l'/\SrtS leT a b l'/\h=Kt hv l'):=by
 unfold Kt
 refine AFh.of_body 53 func282 rfl ntmps282 (Xa rfl) rfl ?_
 intro w0 M0 N0
 refine Wp ?_;refine xM ((Gk (c:=((a+1:Nat):Int)))) ?_;refine ZP ?_
 refine Yq (ι:={q:Nat×List Nd//a+1<=q.1/\(q.1<=b\/b<=a+1)/\Sw a b l q.2/\SrtS leT a q.1 q.2}) (fun k=>⟨[(0,_,_),(1,_,_),(2,_,_),(3,_,_),(8, .int .i64 k.1.1,Zb k.1.1)],[(1000,hv, .own 51 3 l.length (Z9 k.1.2))]⟩) (fun k=>b-k.1.1) ⟨(a+1,l),Xd _,by dsimp only;omega, .refl _, .small leT _ (Xd _)⟩ ?_
 rintro ⟨⟨i,L0⟩,hi1,hi2,hS0,hO0⟩
 dsimp only
 dsimp only at hi1 hi2 hS0 hO0
 refine WJ ?_;refine ZE ?_ ?_<;>intro hb14
 . (
 refine ZU ?_;refine Yq (ι:={q:Nat×List Nd//a<=q.1/\q.1<=i/\Sw a b l q.2/\Zmp leT a i q.1 q.2}) (fun k=>⟨[(0,_,_),(1,_,_),(2,_,_),(3,_,_),(8,_,_),(9, .int .i64 k.1.1,Zb k.1.1)],[(1000,hv, .own 51 3 l.length (Z9 k.1.2))]⟩) (fun k=>k.1.1) ⟨(i,L0),by dsimp only;omega,Xd _,hS0,ZjC leT hO0⟩ ?_;rintro ⟨⟨j,L⟩,hj1,hj2,hS,hI⟩;dsimp only;dsimp only at hj1 hj2 hS hI;have hLl:=hS.len;refine nav ?_;(refine YJ [] [1000] ?_<;>refine xD 0 rfl Za ?_<;>refine xE 1 rfl Za ?_<;>refine xE 2 rfl Jw ?_<;>refine xE 3 rfl Za ?_<;>(refine bDd 21 (fun hb21=>?_) (fun hb21=>?_)<;>(first|refine kD 4 ?_|refine xD 4 rfl Za ?_))<;>(first|refine kD 5 ?_|(obtain ⟨k,rfl⟩:∃k,j=k+1:=⟨j-1,oM⟩;obtain ⟨x,hx⟩:=gS L (k+1);obtain ⟨y,hy⟩:=gS L k;have e1:=Ye hx;have e2:=YH hx;have e3:=Ye hy;have e4:=YH hy;have hsw:=OU hx hy;have e5:(TB (Z9 L) ((k+1)*3) (cN y)).length=(Z9 L).length:=Rz _ _ _;refine xD 5 rfl Za ?_))<;>(first|refine kD 6 ?_|refine xD 6 rfl Za ?_)<;>(first|refine kD 7 ?_|refine xD 7 rfl (Zj 1000 Yg) ?_)<;>(first|refine kD 8 ?_|(refine yD 8 rfl (Zn 1000 ZL) fun v26 h=>?_;cases h))<;>(first|refine kD 9 ?_|refine xD 9 rfl Za ?_)<;>(first|refine kD 10 ?_|refine xD 10 rfl Za ?_)<;>(first|refine kD 11 ?_|refine xD 11 rfl ((Jc (c:=((k:Nat):Int)))) ?_)<;>(first|refine kD 12 ?_|refine xD 12 rfl (Zj 1000 Yg) ?_)<;>(first|refine kD 13 ?_|(refine yD 13 rfl (Zn 1000 ZL) fun v31 h=>?_;cases h))<;>(refine ZY 14 kR ?_)<;>(first|(refine Yo (d:=32) rfl (TC (f:=f) (ps:=[]) rfl ⟨_,rfl⟩ hc rfl (hf x (Og hS (Xb hx)) y (Og hS (Xb hy)))) fun v32 h=>?_;cases h)|(refine aWr fun bk=>?_;refine kL ?_;refine bE bk ?_))<;>(first|refine kD 15 ?_|refine xD 15 rfl Yj ?_)<;>refine xE 16 rfl YY ?_<;>refine WE ?_)<;>(
 refine cX ?_ ?_<;>intro hb34
 . first|exact bN hb34|(
 refine nav ?_;(refine YJ [] [] ?_<;>refine xD 0 rfl Za ?_<;>refine xD 1 rfl Za ?_<;>refine xD 2 rfl Za ?_<;>refine xD 3 rfl Za ?_<;>refine xD 4 rfl ((Jc (c:=((k:Nat):Int)))) ?_<;>refine xD 5 rfl Za ?_<;>refine xD 6 rfl Za ?_<;>refine xD 7 rfl ((Jc (c:=((k:Nat):Int)))) ?_<;>refine xD 10 rfl Za ?_<;>refine xD 11 rfl Za ?_<;>(refine WI 8 12 kR ?_ ?_;rotate_right;(focus ((refine aWr fun bk=>?_)<;>refine xM (Zj 1000 Yg) ?_<;>refine bE bk ?_<;>(refine WI 8 13 kR ?_ ?_;rotate_right;(focus ((refine aWr fun bk=>?_)<;>refine yU (Zn 1000 ZL) fun v50=>?_<;>refine bE bk ?_<;>(refine aDr 8 fun bk=>?_)<;>refine xM (Zj 1000 Yg) ?_<;>refine bE bk ?_<;>(refine aDr 9 fun bk=>?_)<;>refine yU (Zn 1000 ZL) fun v46=>?_<;>refine bE bk ?_<;>refine xE 14 rfl (Zj 1000 Yg) ?_<;>(refine aDr 15 fun bk=>?_)<;>refine Zp 1000 ZL ?_<;>refine bE bk ?_<;>refine xE 16 rfl (Zj 1000 Yg) ?_<;>(refine aDr 17 fun bk=>?_)<;>refine Zp 1000 ZL ?_<;>refine bE bk ?_));rotate_right;(focus ((refine aWr fun bk=>?_)<;>refine xM (Zj 1000 Yg) ?_<;>refine bE bk ?_<;>(refine WI 9 13 kR ?_ ?_;rotate_right;(focus ((refine aWr fun bk=>?_)<;>refine yU (Zn 1000 ZL) fun v50=>?_<;>refine bE bk ?_<;>(refine aDr 9 fun bk=>?_)<;>refine yU (Zn 1000 ZL) fun v46=>?_<;>refine bE bk ?_<;>refine xE 14 rfl (Zj 1000 Yg) ?_<;>(refine aDr 15 fun bk=>?_)<;>refine Zp 1000 ZL ?_<;>refine bE bk ?_<;>refine xE 16 rfl (Zj 1000 Yg) ?_<;>(refine aDr 17 fun bk=>?_)<;>refine Zp 1000 ZL ?_<;>refine bE bk ?_));rotate_right;(focus ((refine aWr fun bk=>?_)<;>refine yU (Zn 1000 ZL) fun v46=>?_<;>refine bE bk ?_<;>(refine aDr 13 fun bk=>?_)<;>refine yU (Zn 1000 ZL) fun v50=>?_<;>refine bE bk ?_<;>refine xE 14 rfl (Zj 1000 Yg) ?_<;>(refine aDr 15 fun bk=>?_)<;>refine Zp 1000 ZL ?_<;>refine bE bk ?_<;>refine xE 16 rfl (Zj 1000 Yg) ?_<;>(refine aDr 17 fun bk=>?_)<;>refine Zp 1000 ZL ?_<;>refine bE bk ?_))))))));rotate_right;(focus ((refine aWr fun bk=>?_)<;>refine xM (Zj 1000 Yg) ?_<;>refine bE bk ?_<;>(refine WI 9 12 kR ?_ ?_;rotate_right;(focus ((refine aWr fun bk=>?_)<;>refine xM (Zj 1000 Yg) ?_<;>refine bE bk ?_<;>(refine WI 9 13 kR ?_ ?_;rotate_right;(focus ((refine aWr fun bk=>?_)<;>refine yU (Zn 1000 ZL) fun v50=>?_<;>refine bE bk ?_<;>(refine aDr 9 fun bk=>?_)<;>refine yU (Zn 1000 ZL) fun v46=>?_<;>refine bE bk ?_<;>refine xE 14 rfl (Zj 1000 Yg) ?_<;>(refine aDr 15 fun bk=>?_)<;>refine Zp 1000 ZL ?_<;>refine bE bk ?_<;>refine xE 16 rfl (Zj 1000 Yg) ?_<;>(refine aDr 17 fun bk=>?_)<;>refine Zp 1000 ZL ?_<;>refine bE bk ?_));rotate_right;(focus ((refine aWr fun bk=>?_)<;>refine yU (Zn 1000 ZL) fun v46=>?_<;>refine bE bk ?_<;>(refine aDr 13 fun bk=>?_)<;>refine yU (Zn 1000 ZL) fun v50=>?_<;>refine bE bk ?_<;>refine xE 14 rfl (Zj 1000 Yg) ?_<;>(refine aDr 15 fun bk=>?_)<;>refine Zp 1000 ZL ?_<;>refine bE bk ?_<;>refine xE 16 rfl (Zj 1000 Yg) ?_<;>(refine aDr 17 fun bk=>?_)<;>refine Zp 1000 ZL ?_<;>refine bE bk ?_)))));rotate_right;(focus ((refine aWr fun bk=>?_)<;>refine yU (Zn 1000 ZL) fun v46=>?_<;>refine bE bk ?_<;>(refine aDr 12 fun bk=>?_)<;>refine xM (Zj 1000 Yg) ?_<;>refine bE bk ?_<;>(refine aDr 13 fun bk=>?_)<;>refine yU (Zn 1000 ZL) fun v50=>?_<;>refine bE bk ?_<;>refine xE 14 rfl (Zj 1000 Yg) ?_<;>(refine aDr 15 fun bk=>?_)<;>refine Zp 1000 ZL ?_<;>refine bE bk ?_<;>refine xE 16 rfl (Zj 1000 Yg) ?_<;>(refine aDr 17 fun bk=>?_)<;>refine Zp 1000 ZL ?_<;>refine bE bk ?_))))))<;>refine WE ?_)<;>(
 refine LN ?_;refine xM ((Jc (c:=((k:Nat):Int)))) ?_;refine ZP ?_;rw [hsw];refine Yr (
  ⟨(k,swp L (k+1) k),by dsimp only;omega,by dsimp only;omega, .step _ _ hS oM oM oM oM h2,Zmq leT hI oM oM oM hx hy (by unfold leT;omega)⟩
  )))
 . (
 refine Y2 ?_
 first
  | (exact Yr (
      ⟨(i+1,L),by dsimp only;omega,by dsimp only;omega,hS,ZhR leT GU (fun _ _ _=>J1) hI oM oM (show i<L.length by omega) (.inr ⟨k,y,x,rfl,hy,hx,Tg oM⟩)⟩
      ))
  | (exact Yr (
      ⟨(i+1,L),by dsimp only;omega,by dsimp only;omega,hS,ZhR leT GU (fun _ _ _=>J1) hI oM oM (show i<L.length by omega) (.inl oM)⟩
      )))))
 . (
 refine nav ?_;refine Pq [(1000,hv, .own 51 3 l.length (Z9 L0))] (results282) sB ⟨L0,hS0,hO0.sub _ (Xd _) oM,by rw [hS0.len]⟩)
theorem ZG:AggT prog 51 3=true:=kR
theorem Z7:SlT prog 49 51 3=true:=kR
theorem CR {a s m:Nat} {l:List Nd} (h1:a<=s) (h2:s<=m) (h:¬(a<s/\s<m)) (g1:SrtS leT a s l) (g2:SrtS leT s m l):SrtS leT a m l:=by
 rcases XL a s with h3|h3
 . have:s=m:=oM;subst this;exact g1
 . have:s=a:=oM;subst this;exact g2
theorem Zmy {s m e k:Nat} (h1:s<=m) (h2:m<=e) (h:¬(s<m/\m<e)):Pt s m e k=k:=by
 unfold Pt
 split
 . rfl
 . split<;>omega
def BsT (m b i j:Nat) (x:Nd) (l:List Nd):Prop:=m<=i/\i<=j/\j<=b/\(∀q y,m<=q->q<i->l[q]? =some y->leT y x)/\(∀q y,j<=q->q<b->l[q]? =some y->leT x y)
theorem Zen (m b:Nat) (x:Nd) (l:List Nd) (h:m<=b):BsT m b m b x l:=⟨Xd _,h,Xd _,fun q y h1 h2=>oM,fun q y h1 h2=>oM⟩
theorem ZhX {m b i j c:Nat} {x y:Nd} {l:List Nd} (h:BsT m b i j x l) (hs:SrtS leT m b l) (h1:i<=c) (h2:c<j) (hy:l[c]? =some y) (hle:leT y x):BsT m b (c+1) j x l:=by
 obtain ⟨e1,e2,e3,e4,e5⟩:=h
 refine ⟨oM,oM,e3,fun q z k1 k2 hz=>?_,e5⟩
 exact J1 (hs.eqv leT GU k1 (show q<=c by omega) oM hz hy) hle
theorem CS {m b i j c:Nat} {x y:Nd} {l:List Nd} (h:BsT m b i j x l) (hs:SrtS leT m b l) (h1:i<=c) (h2:c<j) (hy:l[c]? =some y) (hle:leT x y):BsT m b i c x l:=by
 obtain ⟨e1,e2,e3,e4,e5⟩:=h
 refine ⟨e1,oM,oM,e4,fun q z k1 k2 hz=>?_⟩
 exact J1 hle (hs.eqv leT GU (show m<=c by omega) k1 k2 hy hz)
theorem Zmz (f : Nat) (hc:∀args w,(callFunc f args).run prog w= .ok (.enter f args) w) (hv:Value) (fv:Value):∀(n:Nat) (l:List Nd) (hl:l.length<=1000000) (hf:∀x∈l,∀y∈l,AF prog f [pTr x,pTr y] (· =Zb (WF x y))) (a m b:Nat) (hn:b-a<=n) (h1:a<m) (h2:m<b) (h3:b<=l.length) (s1:SrtS leT a m l) (s2:SrtS leT m b l),AFh False prog 283 [(0,hv, .val hv),(1, .int .i64 (a:Int),Zb a),(2, .int .i64 (m:Int),Zb m),(3, .int .i64 (b:Int),Zb b),(4,fv, .fn f [])] (Kt hv l) (fun v q h=>∃l',Sw a b l l'/\SrtS leT a b l'/\h=Kt hv l'):=fun n=>by
 induction n with
 |zero=>intro l hl hf a m b hn h1 h2;omega
 |succ n ih=>?_
 intro l hl hf a m b hn h1 h2 h3 s1 s2
 unfold Kt
 obtain ⟨xa,hxa⟩:=gS l a
 obtain ⟨xm,hxm⟩:=gS l m
 have ea:=Ye hxa
 have ea2:=YH hxa
 have em:=Ye hxm
 have em2:=YH hxm
 refine AFh.of_body 220 func283 rfl ntmps283 (Xa rfl) rfl ?_
 intro w0 M0 N0
 refine Zi ?_;refine LZ ?_;refine ZE ?_ ?_<;>intro hb28
 . (
 refine Jx ?_;refine KI ?_;refine Yq (ι:={q:Nat×Nat//BsT m b q.1 q.2 xa l}) (fun k=>⟨[(0,_,_),(1,_,_),(2,_,_),(3,_,_),(4,_,_),(10, .int .i64 k.1.1,Zb k.1.1),(11, .int .i64 k.1.2,Zb k.1.2)],[(1000,hv, .own 51 3 l.length (Z9 l))]⟩) (fun k=>k.1.2-k.1.1) ⟨(m,b),Zen m b xa l oM⟩ ?_;rintro ⟨⟨i,j⟩,hB⟩;dsimp only;dsimp only at hB;have hB1:=hB.1;have hB2:=hB.2.1;have hB3:=hB.2.2.1;refine WJ ?_;refine ZE ?_ ?_<;>intro hb33
 . (
 refine KL ?_;refine xM ((Gk (c:=((i+j:Nat):Int)))) ?_;refine xM ((ZhU (a:=i+j) rfl rfl oM)) ?_;refine xM ((CQ (a:=i+j) rfl)) ?_;refine xM ((ZhV (a:=(i+j) / 2) rfl rfl oM)) ?_;refine ZP ?_;obtain ⟨y,hy⟩:=gS l ((i+j) / 2);have e3:=Ye hy;have e4:=YH hy;refine YJ [] [1000] ?_<;>refine xD 0 rfl Za ?_<;>refine xD 1 rfl Za ?_<;>refine xD 2 rfl Za ?_<;>refine xD 3 rfl (Zj 1000 Z7) ?_<;>(refine yD 4 rfl (Zn 1000 ZG) fun v44 h=>?_;cases h)<;>refine xD 5 rfl Za ?_<;>refine xE 6 rfl Za ?_<;>refine xE 7 rfl (Zj 1000 Z7) ?_<;>(refine yE 8 rfl (Zn 1000 ZG) fun v48 h=>?_;cases h)<;>(refine ZY 9 kR ?_)<;>(refine Yo (d:=49) rfl (TC (f:=f) (ps:=[]) rfl ⟨_,rfl⟩ hc rfl (hf y (Xb hy) xa (Xb hxa))) fun v49 h=>?_;cases h)<;>refine xE 10 rfl Yj ?_<;>refine WE ?_;refine cX ?_ ?_<;>intro hb50
 . (
 refine Y2 ?_
 first
  | (exact Yr (
      ⟨((i+j) / 2+1,j),ZhX hB s2 oM oM hy (by unfold leT;omega)⟩
      ))
  | (exact Yr (
      ⟨(i,(i+j) / 2),CS hB s2 oM oM hy (Tg oM)⟩
      )))
 . (
 refine ZU ?_
 first
  | (exact Yr (
      ⟨((i+j) / 2+1,j),ZhX hB s2 oM oM hy (by unfold leT;omega)⟩
      ))
  | (exact Yr (
      ⟨(i,(i+j) / 2),CS hB s2 oM oM hy (Tg oM)⟩
      ))))
 . (
 have hij:j=i:=oM;subst hij;have hM:Mov leT a b a j l:=ZjE leT (by rw [show a+1=m by omega];exact s2) oM (fun q x y h4 h5 hx hy=>by
  rw [hxa] at hx;cases hx;exact hB.2.2.2.1 q y oM h5 hy) (fun q x y h4 h5 hx hy=>by
  rw [hxa] at hx;cases hx;exact hB.2.2.2.2 q y h4 h5 hy)
 refine ZU ?_;refine Yq (ι:={q:Nat×List Nd//a<=q.1/\q.1+1<=j/\Sw a b l q.2/\Mov leT a b q.1 j q.2}) (fun k=>⟨[(0,_,_),(1,_,_),(2,_,_),(3,_,_),(4,_,_),(10,_,_),(13, .int .i64 k.1.1,Zb k.1.1)],[(1000,hv, .own 51 3 l.length (Z9 k.1.2))]⟩) (fun k=>j-k.1.1) ⟨(a,l),by dsimp only;omega,by dsimp only;omega, .refl _,hM⟩ ?_;rintro ⟨⟨k,L⟩,hk1,hk2,hS,hM2⟩;dsimp only;dsimp only at hk1 hk2 hS hM2;have hLl:=hS.len;refine KL ?_;refine xM ((Jc (c:=((j-1:Nat):Int)))) ?_;refine Wl ?_ ?_<;>intro hb58
 . (
 have hkj:k+1<j:=oM;obtain ⟨x,hx⟩:=gS L k;obtain ⟨y,hy⟩:=gS L (k+1);have e1:=Ye hx;have e2:=YH hx;have e3:=Ye hy;have e4:=YH hy;have hsw:=OU hx hy;have e5:(TB (Z9 L) (k*3) (cN y)).length=(Z9 L).length:=Rz _ _ _;refine nav ?_;(refine YJ [] [] ?_<;>refine xD 0 rfl Za ?_<;>refine xD 1 rfl Za ?_<;>refine xD 2 rfl Za ?_<;>refine xD 3 rfl Za ?_<;>refine xD 4 rfl ((Gk (c:=((k+1:Nat):Int)))) ?_<;>refine xD 5 rfl Za ?_<;>refine xD 6 rfl Za ?_<;>refine xD 7 rfl ((Gk (c:=((k+1:Nat):Int)))) ?_<;>refine xD 10 rfl Za ?_<;>refine xD 11 rfl Za ?_<;>(refine WI 8 12 kR ?_ ?_;rotate_right;(focus ((refine aWr fun bk=>?_)<;>refine xM (Zj 1000 Z7) ?_<;>refine bE bk ?_<;>(refine WI 8 13 kR ?_ ?_;rotate_right;(focus ((refine aWr fun bk=>?_)<;>refine yU (Zn 1000 ZG) fun v74=>?_<;>refine bE bk ?_<;>(refine aDr 8 fun bk=>?_)<;>refine xM (Zj 1000 Z7) ?_<;>refine bE bk ?_<;>(refine aDr 9 fun bk=>?_)<;>refine yU (Zn 1000 ZG) fun v70=>?_<;>refine bE bk ?_<;>refine xE 14 rfl (Zj 1000 Z7) ?_<;>(refine aDr 15 fun bk=>?_)<;>refine Zp 1000 ZG ?_<;>refine bE bk ?_<;>refine xE 16 rfl (Zj 1000 Z7) ?_<;>(refine aDr 17 fun bk=>?_)<;>refine Zp 1000 ZG ?_<;>refine bE bk ?_));rotate_right;(focus ((refine aWr fun bk=>?_)<;>refine xM (Zj 1000 Z7) ?_<;>refine bE bk ?_<;>(refine WI 9 13 kR ?_ ?_;rotate_right;(focus ((refine aWr fun bk=>?_)<;>refine yU (Zn 1000 ZG) fun v74=>?_<;>refine bE bk ?_<;>(refine aDr 9 fun bk=>?_)<;>refine yU (Zn 1000 ZG) fun v70=>?_<;>refine bE bk ?_<;>refine xE 14 rfl (Zj 1000 Z7) ?_<;>(refine aDr 15 fun bk=>?_)<;>refine Zp 1000 ZG ?_<;>refine bE bk ?_<;>refine xE 16 rfl (Zj 1000 Z7) ?_<;>(refine aDr 17 fun bk=>?_)<;>refine Zp 1000 ZG ?_<;>refine bE bk ?_));rotate_right;(focus ((refine aWr fun bk=>?_)<;>refine yU (Zn 1000 ZG) fun v70=>?_<;>refine bE bk ?_<;>(refine aDr 13 fun bk=>?_)<;>refine yU (Zn 1000 ZG) fun v74=>?_<;>refine bE bk ?_<;>refine xE 14 rfl (Zj 1000 Z7) ?_<;>(refine aDr 15 fun bk=>?_)<;>refine Zp 1000 ZG ?_<;>refine bE bk ?_<;>refine xE 16 rfl (Zj 1000 Z7) ?_<;>(refine aDr 17 fun bk=>?_)<;>refine Zp 1000 ZG ?_<;>refine bE bk ?_))))))));rotate_right;(focus ((refine aWr fun bk=>?_)<;>refine xM (Zj 1000 Z7) ?_<;>refine bE bk ?_<;>(refine WI 9 12 kR ?_ ?_;rotate_right;(focus ((refine aWr fun bk=>?_)<;>refine xM (Zj 1000 Z7) ?_<;>refine bE bk ?_<;>(refine WI 9 13 kR ?_ ?_;rotate_right;(focus ((refine aWr fun bk=>?_)<;>refine yU (Zn 1000 ZG) fun v74=>?_<;>refine bE bk ?_<;>(refine aDr 9 fun bk=>?_)<;>refine yU (Zn 1000 ZG) fun v70=>?_<;>refine bE bk ?_<;>refine xE 14 rfl (Zj 1000 Z7) ?_<;>(refine aDr 15 fun bk=>?_)<;>refine Zp 1000 ZG ?_<;>refine bE bk ?_<;>refine xE 16 rfl (Zj 1000 Z7) ?_<;>(refine aDr 17 fun bk=>?_)<;>refine Zp 1000 ZG ?_<;>refine bE bk ?_));rotate_right;(focus ((refine aWr fun bk=>?_)<;>refine yU (Zn 1000 ZG) fun v70=>?_<;>refine bE bk ?_<;>(refine aDr 13 fun bk=>?_)<;>refine yU (Zn 1000 ZG) fun v74=>?_<;>refine bE bk ?_<;>refine xE 14 rfl (Zj 1000 Z7) ?_<;>(refine aDr 15 fun bk=>?_)<;>refine Zp 1000 ZG ?_<;>refine bE bk ?_<;>refine xE 16 rfl (Zj 1000 Z7) ?_<;>(refine aDr 17 fun bk=>?_)<;>refine Zp 1000 ZG ?_<;>refine bE bk ?_)))));rotate_right;(focus ((refine aWr fun bk=>?_)<;>refine yU (Zn 1000 ZG) fun v70=>?_<;>refine bE bk ?_<;>(refine aDr 12 fun bk=>?_)<;>refine xM (Zj 1000 Z7) ?_<;>refine bE bk ?_<;>(refine aDr 13 fun bk=>?_)<;>refine yU (Zn 1000 ZG) fun v74=>?_<;>refine bE bk ?_<;>refine xE 14 rfl (Zj 1000 Z7) ?_<;>(refine aDr 15 fun bk=>?_)<;>refine Zp 1000 ZG ?_<;>refine bE bk ?_<;>refine xE 16 rfl (Zj 1000 Z7) ?_<;>(refine aDr 17 fun bk=>?_)<;>refine Zp 1000 ZG ?_<;>refine bE bk ?_))))))<;>refine WE ?_)<;>(
 refine GP ?_;rw [hsw];refine Yr (
  ⟨(k+1,swp L k (k+1)),by dsimp only;omega,by dsimp only;omega, .step _ _ hS oM oM oM oM h3,ZjD leT hM2 oM oM hB3 oM⟩
  )))
 . (
 refine nav ?_;refine Zgq (Kt hv L) (results283) ⟨by rw [<-hLl];rfl,trivial⟩ ⟨L,hS,Za9 leT hM2 oM,rfl⟩)))
 . (
 refine Zi ?_;refine LZ ?_;refine ZE ?_ ?_<;>intro hb80
 . (
 refine Jx ?_;refine KI ?_;refine Yq (ι:={q:Nat×Nat//BsT a m q.1 q.2 xm l}) (fun k=>⟨[(0,_,_),(1,_,_),(2,_,_),(3,_,_),(4,_,_),(14, .int .i64 k.1.1,Zb k.1.1),(15, .int .i64 k.1.2,Zb k.1.2)],[(1000,hv, .own 51 3 l.length (Z9 l))]⟩) (fun k=>k.1.2-k.1.1) ⟨(a,m),Zen a m xm l oM⟩ ?_;rintro ⟨⟨i,j⟩,hB⟩;dsimp only;dsimp only at hB;have hB1:=hB.1;have hB2:=hB.2.1;have hB3:=hB.2.2.1;refine WJ ?_;refine ZE ?_ ?_<;>intro hb85
 . (
 refine KL ?_;refine xM ((Gk (c:=((i+j:Nat):Int)))) ?_;refine xM ((ZhU (a:=i+j) rfl rfl oM)) ?_;refine xM ((CQ (a:=i+j) rfl)) ?_;refine xM ((ZhV (a:=(i+j) / 2) rfl rfl oM)) ?_;refine ZP ?_;obtain ⟨y,hy⟩:=gS l ((i+j) / 2);have e3:=Ye hy;have e4:=YH hy;refine YJ [] [1000] ?_<;>refine xD 0 rfl Za ?_<;>refine xD 1 rfl Za ?_<;>refine xD 2 rfl Za ?_<;>refine xD 3 rfl (Zj 1000 Z7) ?_<;>(refine yD 4 rfl (Zn 1000 ZG) fun v96 h=>?_;cases h)<;>refine xD 5 rfl Za ?_<;>refine xE 6 rfl Za ?_<;>refine xE 7 rfl (Zj 1000 Z7) ?_<;>(refine yE 8 rfl (Zn 1000 ZG) fun v100 h=>?_;cases h)<;>(refine ZY 9 kR ?_)<;>(refine Yo (d:=101) rfl (TC (f:=f) (ps:=[]) rfl ⟨_,rfl⟩ hc rfl (hf xm (Xb hxm) y (Xb hy))) fun v101 h=>?_;cases h)<;>refine xE 10 rfl Yj ?_<;>refine xE 11 rfl LK ?_<;>refine WE ?_;refine cX ?_ ?_<;>intro hb103
 . (
 refine Y2 ?_
 first
  | (exact Yr (
      ⟨((i+j) / 2+1,j),ZhX hB s1 oM oM hy (Tg (by simpa using hb103))⟩
      ))
  | (exact Yr (
      ⟨(i,(i+j) / 2),CS hB s1 oM oM hy (by unfold leT;simp at hb103;omega)⟩
      )))
 . (
 refine ZU ?_
 first
  | (exact Yr (
      ⟨((i+j) / 2+1,j),ZhX hB s1 oM oM hy (Tg (by simpa using hb103))⟩
      ))
  | (exact Yr (
      ⟨(i,(i+j) / 2),CS hB s1 oM oM hy (by unfold leT;simp at hb103;omega)⟩
      ))))
 . (
 have hij:j=i:=oM;subst hij;have hbm:b=m+1:=oM;subst hbm;have hM:Mov leT a (m+1) m j l:=Zms leT s1 oM (fun q x y h4 h5 hx hy=>by
  rw [hxm] at hx;cases hx;exact hB.2.2.2.1 q y h4 h5 hy) (fun q x y h4 h5 hx hy=>by
  rw [hxm] at hx;cases hx;exact hB.2.2.2.2 q y h4 h5 hy)
 refine ZU ?_;refine Yq (ι:={q:Nat×List Nd//j<=q.1/\q.1<m+1/\Sw a (m+1) l q.2/\Mov leT a (m+1) q.1 j q.2}) (fun k=>⟨[(0,_,_),(1,_,_),(2,_,_),(3,_,_),(4,_,_),(14,_,_),(17, .int .i64 k.1.1,Zb k.1.1)],[(1000,hv, .own 51 3 l.length (Z9 k.1.2))]⟩) (fun k=>k.1.1) ⟨(m,l),by dsimp only;omega,by dsimp only;omega, .refl _,hM⟩ ?_;rintro ⟨⟨k,L⟩,hk1,hk2,hS,hM2⟩;dsimp only;dsimp only at hk1 hk2 hS hM2;have hLl:=hS.len;refine WJ ?_;refine ZE ?_ ?_<;>intro hb110
 . (
 obtain ⟨k',rfl⟩:∃k',k=k'+1:=⟨k-1,oM⟩;obtain ⟨x,hx⟩:=gS L (k'+1);obtain ⟨y,hy⟩:=gS L (k');have e1:=Ye hx;have e2:=YH hx;have e3:=Ye hy;have e4:=YH hy;have hsw:=OU hx hy;have e5:(TB (Z9 L) ((k'+1)*3) (cN y)).length=(Z9 L).length:=Rz _ _ _;refine nav ?_;(refine YJ [] [] ?_<;>refine xD 0 rfl Za ?_<;>refine xD 1 rfl Za ?_<;>refine xD 2 rfl Za ?_<;>refine xD 3 rfl Za ?_<;>refine xD 4 rfl ((Jc (c:=((k':Nat):Int)))) ?_<;>refine xD 5 rfl Za ?_<;>refine xD 6 rfl Za ?_<;>refine xD 7 rfl ((Jc (c:=((k':Nat):Int)))) ?_<;>refine xD 10 rfl Za ?_<;>refine xD 11 rfl Za ?_<;>(refine WI 8 12 kR ?_ ?_;rotate_right;(focus ((refine aWr fun bk=>?_)<;>refine xM (Zj 1000 Z7) ?_<;>refine bE bk ?_<;>(refine WI 8 13 kR ?_ ?_;rotate_right;(focus ((refine aWr fun bk=>?_)<;>refine yU (Zn 1000 ZG) fun v126=>?_<;>refine bE bk ?_<;>(refine aDr 8 fun bk=>?_)<;>refine xM (Zj 1000 Z7) ?_<;>refine bE bk ?_<;>(refine aDr 9 fun bk=>?_)<;>refine yU (Zn 1000 ZG) fun v122=>?_<;>refine bE bk ?_<;>refine xE 14 rfl (Zj 1000 Z7) ?_<;>(refine aDr 15 fun bk=>?_)<;>refine Zp 1000 ZG ?_<;>refine bE bk ?_<;>refine xE 16 rfl (Zj 1000 Z7) ?_<;>(refine aDr 17 fun bk=>?_)<;>refine Zp 1000 ZG ?_<;>refine bE bk ?_));rotate_right;(focus ((refine aWr fun bk=>?_)<;>refine xM (Zj 1000 Z7) ?_<;>refine bE bk ?_<;>(refine WI 9 13 kR ?_ ?_;rotate_right;(focus ((refine aWr fun bk=>?_)<;>refine yU (Zn 1000 ZG) fun v126=>?_<;>refine bE bk ?_<;>(refine aDr 9 fun bk=>?_)<;>refine yU (Zn 1000 ZG) fun v122=>?_<;>refine bE bk ?_<;>refine xE 14 rfl (Zj 1000 Z7) ?_<;>(refine aDr 15 fun bk=>?_)<;>refine Zp 1000 ZG ?_<;>refine bE bk ?_<;>refine xE 16 rfl (Zj 1000 Z7) ?_<;>(refine aDr 17 fun bk=>?_)<;>refine Zp 1000 ZG ?_<;>refine bE bk ?_));rotate_right;(focus ((refine aWr fun bk=>?_)<;>refine yU (Zn 1000 ZG) fun v122=>?_<;>refine bE bk ?_<;>(refine aDr 13 fun bk=>?_)<;>refine yU (Zn 1000 ZG) fun v126=>?_<;>refine bE bk ?_<;>refine xE 14 rfl (Zj 1000 Z7) ?_<;>(refine aDr 15 fun bk=>?_)<;>refine Zp 1000 ZG ?_<;>refine bE bk ?_<;>refine xE 16 rfl (Zj 1000 Z7) ?_<;>(refine aDr 17 fun bk=>?_)<;>refine Zp 1000 ZG ?_<;>refine bE bk ?_))))))));rotate_right;(focus ((refine aWr fun bk=>?_)<;>refine xM (Zj 1000 Z7) ?_<;>refine bE bk ?_<;>(refine WI 9 12 kR ?_ ?_;rotate_right;(focus ((refine aWr fun bk=>?_)<;>refine xM (Zj 1000 Z7) ?_<;>refine bE bk ?_<;>(refine WI 9 13 kR ?_ ?_;rotate_right;(focus ((refine aWr fun bk=>?_)<;>refine yU (Zn 1000 ZG) fun v126=>?_<;>refine bE bk ?_<;>(refine aDr 9 fun bk=>?_)<;>refine yU (Zn 1000 ZG) fun v122=>?_<;>refine bE bk ?_<;>refine xE 14 rfl (Zj 1000 Z7) ?_<;>(refine aDr 15 fun bk=>?_)<;>refine Zp 1000 ZG ?_<;>refine bE bk ?_<;>refine xE 16 rfl (Zj 1000 Z7) ?_<;>(refine aDr 17 fun bk=>?_)<;>refine Zp 1000 ZG ?_<;>refine bE bk ?_));rotate_right;(focus ((refine aWr fun bk=>?_)<;>refine yU (Zn 1000 ZG) fun v122=>?_<;>refine bE bk ?_<;>(refine aDr 13 fun bk=>?_)<;>refine yU (Zn 1000 ZG) fun v126=>?_<;>refine bE bk ?_<;>refine xE 14 rfl (Zj 1000 Z7) ?_<;>(refine aDr 15 fun bk=>?_)<;>refine Zp 1000 ZG ?_<;>refine bE bk ?_<;>refine xE 16 rfl (Zj 1000 Z7) ?_<;>(refine aDr 17 fun bk=>?_)<;>refine Zp 1000 ZG ?_<;>refine bE bk ?_)))));rotate_right;(focus ((refine aWr fun bk=>?_)<;>refine yU (Zn 1000 ZG) fun v122=>?_<;>refine bE bk ?_<;>(refine aDr 12 fun bk=>?_)<;>refine xM (Zj 1000 Z7) ?_<;>refine bE bk ?_<;>(refine aDr 13 fun bk=>?_)<;>refine yU (Zn 1000 ZG) fun v126=>?_<;>refine bE bk ?_<;>refine xE 14 rfl (Zj 1000 Z7) ?_<;>(refine aDr 15 fun bk=>?_)<;>refine Zp 1000 ZG ?_<;>refine bE bk ?_<;>refine xE 16 rfl (Zj 1000 Z7) ?_<;>(refine aDr 17 fun bk=>?_)<;>refine Zp 1000 ZG ?_<;>refine bE bk ?_))))))<;>refine WE ?_)<;>(
 refine LN ?_;refine xM ((Jc (c:=((k':Nat):Int)))) ?_;refine ZP ?_;rw [hsw];refine Yr (
  ⟨(k',swp L (k'+1) k'),by dsimp only;omega,by dsimp only;omega, .step _ _ hS oM oM oM oM h3,Zmr leT hM2 oM oM oM oM⟩
  )))
 . (
 have hkj:k=j:=oM;subst hkj;refine nav ?_;refine Zgq (Kt hv L) (results283) ⟨by rw [<-hLl];rfl,trivial⟩ ⟨L,hS,ZcQ leT hM2,rfl⟩)))
 . (
 have hlo:=Zmw h1 h2;have hmid:(a+b) / 2<b:=oM;refine KL ?_;refine xM ((Gk (c:=((a+b:Nat):Int)))) ?_;refine xM ((ZhU (a:=a+b) rfl rfl oM)) ?_;refine xM ((CQ (a:=a+b) rfl)) ?_;refine xM ((ZhV (a:=(a+b) / 2) rfl rfl oM)) ?_;refine ZX ?_;refine ZO ?_;refine xM ((Gk (c:=(((a+b) / 2+m:Nat):Int)))) ?_;refine ZX ?_;refine J9 ?_;refine E9 ?_;refine Ja (fun _:Unit=>⟨[(0,hv, .val hv),(1, .int .i64 (a:Int),Zb a),(2, .int .i64 (m:Int),Zb m),(3, .int .i64 (b:Int),Zb b),(4,fv, .fn f []),(18, .int .i64 (((a+b) / 2:Nat):Int),Zb (((a+b) / 2:Nat):Int)),(19, .int .i64 (((a+b) / 2+m:Nat):Int),Zb (((a+b) / 2+m:Nat):Int)),(20, .int .i64 (loM a m b:Int),Zb (loM a m b)),(21, .int .i64 (hiM a m b:Int),Zb (hiM a m b))],Kt hv l⟩) ?_ ?_
 . refine cX ?_ ?_<;>intro hb140
   . (
 refine KL ?_;refine xM ((Jc (c:=((loM a m b:Nat):Int)) (hc:=by unfold loM;rw [Qc oM];omega))) ?_;refine ZX ?_;refine xM ((ZcU (c:=((hiM a m b:Nat):Int)) (hc:=by unfold hiM;rw [Qc oM]))) ?_;refine ZP ?_;exact YF () sB sB)
   . (
 refine Zi ?_;refine xM ((ZcU (c:=((loM a m b:Nat):Int)) (hc:=by unfold loM;rw [Qb oM]))) ?_;refine ZX ?_;refine xM ((ZcU (c:=((hiM a m b:Nat):Int)) (hc:=by unfold hiM;rw [Qb oM]))) ?_;refine ZP ?_;exact YF () sB sB)
 . intro _;unfold Kt;refine Wp ?_;refine xM ((Jc (c:=(((a+b) / 2+m-1:Nat):Int)))) ?_;refine ZP ?_;refine Yq (ι:={q:Nat×Nat//Thr leT (loM a m b) (hiM a m b) ((a+b) / 2+m-1) q.1 q.2 l}) (fun k=>⟨[(0,_,_),(1,_,_),(2,_,_),(3,_,_),(4,_,_),(18,_,_),(19,_,_),(22,_,_),(20, .int .i64 k.1.1,Zb k.1.1),(21, .int .i64 k.1.2,Zb k.1.2)],[(1000,hv, .own 51 3 l.length (Z9 l))]⟩) (fun k=>k.1.2-k.1.1) ⟨(loM a m b,hiM a m b),ZjF leT l hlo.2.1⟩ ?_;rintro ⟨⟨i,j⟩,hT⟩;dsimp only;dsimp only at hT;have hB1:=hT.1;have hB2:=hT.2.1;have hB3:=hT.2.2.1;refine WJ ?_;refine ZE ?_ ?_<;>intro hb151
   . (
 refine KL ?_;refine xM ((Gk (c:=((i+j:Nat):Int)))) ?_;refine xM ((ZhU (a:=i+j) rfl rfl oM)) ?_;refine xM ((CQ (a:=i+j) rfl)) ?_;refine xM ((ZhV (a:=(i+j) / 2) rfl rfl oM)) ?_;refine ZP ?_;obtain ⟨x,hx⟩:=gS l ((i+j) / 2);have e1:=Ye hx;have e2:=YH hx;obtain ⟨y,hy⟩:=get_some (show (a+b) / 2+m-1-(i+j) / 2<l.length by omega);have e3:=Ye hy;have e4:=YH hy;refine YJ [] [1000] ?_<;>refine xD 0 rfl Za ?_<;>refine xD 1 rfl Za ?_<;>refine xD 2 rfl Za ?_<;>refine xD 3 rfl Za ?_<;>refine xD 4 rfl ((Jc (c:=(((a+b) / 2+m-1-(i+j) / 2:Nat):Int)))) ?_<;>refine xD 5 rfl (Zj 1000 Z7) ?_<;>(refine yD 6 rfl (Zn 1000 ZG) fun v164 h=>?_;cases h)<;>refine xD 7 rfl Za ?_<;>refine xE 8 rfl Za ?_<;>refine xE 9 rfl (Zj 1000 Z7) ?_<;>(refine yE 10 rfl (Zn 1000 ZG) fun v168 h=>?_;cases h)<;>(refine ZY 11 kR ?_)<;>(refine Yo (d:=169) rfl (TC (f:=f) (ps:=[]) rfl ⟨_,rfl⟩ hc rfl (hf y (Xb hy) x (Xb hx))) fun v169 h=>?_;cases h)<;>refine xE 12 rfl Yj ?_<;>refine xE 13 rfl LK ?_<;>refine WE ?_;refine cX ?_ ?_<;>intro hb171
 . (
 refine Y2 ?_
 first
  | (exact Yr (
      ⟨((i+j) / 2+1,j),Zmv GU (fun _ _ _=>J1) hT s1 s2 oM oM hlo.1 hlo.2.2.1 hlo.2.2.2.1 hlo.2.2.2.2.1 h3 hx hy (Tg (by simpa using hb171))⟩
      ))
  | (exact Yr (
      ⟨(i,(i+j) / 2),Zel GU (fun _ _ _=>J1) hT s1 s2 oM oM hlo.1 hlo.2.2.1 hlo.2.2.2.1 hlo.2.2.2.2.1 h3 hx hy (by unfold leT;simp at hb171;omega)⟩
      )))
 . (
 refine ZU ?_
 first
  | (exact Yr (
      ⟨((i+j) / 2+1,j),Zmv GU (fun _ _ _=>J1) hT s1 s2 oM oM hlo.1 hlo.2.2.1 hlo.2.2.2.1 hlo.2.2.2.2.1 h3 hx hy (Tg (by simpa using hb171))⟩
      ))
  | (exact Yr (
      ⟨(i,(i+j) / 2),Zel GU (fun _ _ _=>J1) hT s1 s2 oM oM hlo.1 hlo.2.2.1 hlo.2.2.2.1 hlo.2.2.2.2.1 h3 hx hy (by unfold leT;simp at hb171;omega)⟩
      ))))
   . (
 have hij:j=i:=oM;subst hij;have hj1:j<=(a+b) / 2:=oM;have hj2:j<=m:=oM;refine KL ?_;refine xM ((Jc (c:=(((a+b) / 2+m-j:Nat):Int)))) ?_;refine ZX ?_;(refine LZ ?_<;>(refine bLd 181 (fun hb181=>?_) (fun hb181=>?_)<;>refine kZ ?_)<;>refine kZ ?_<;>refine kZ ?_<;>refine ZN ?_<;>refine Zw ?_)<;>(
 refine Ja (fun L1:{L1:List Nd//(∀k,L1[k]? =l[Pt j m ((a+b) / 2+m-j) k]?)/\Sw a b l L1}=>⟨[(0,hv, .val hv),(1, .int .i64 (a:Int),Zb a),(2, .int .i64 (m:Int),Zb m),(3, .int .i64 (b:Int),Zb b),(4,fv, .fn f []),(18, .int .i64 (((a+b) / 2:Nat):Int),Zb (((a+b) / 2:Nat):Int)),(20, .int .i64 (j:Int),Zb j),(24, .int .i64 (((a+b) / 2+m-j:Nat):Int),Zb (((a+b) / 2+m-j:Nat):Int))],Kt hv L1.1⟩) ?_ ?_
 . refine cX ?_ ?_<;>intro hb185
   . first|exact bN hb185|(
 refine Zi ?_;refine ζg ?_;(refine GA (Kt hv l) sB ?_;refine RN [] 191 (call288) (ZjH l hl j m ((a+b) / 2+m-j) oM oM oM hv fv f) (fun v191 p191 h191 hR191=>?_);obtain ⟨L1,hL1,hS1,rfl⟩:=hR191;have hL1l:=hS1.len;dsimp only [Kt]);refine Zw ?_
 first
 |exact YF ⟨L1,hL1,hS1.mono oM oM h3⟩ sB sB
 |exact YF ⟨l,fun k=>by rw [Zmy oM oM oM], .refl _⟩ sB sB)
   . (
 refine nav ?_
 first
 |exact YF ⟨L1,hL1,hS1.mono oM oM h3⟩ sB sB
 |exact YF ⟨l,fun k=>by rw [Zmy oM oM oM], .refl _⟩ sB sB)
 . rintro ⟨L1,hL1,hS1⟩;dsimp only;have hL1l:=hS1.len;obtain ⟨g1,g2,g3,g4,g5,g6,g7,g8,g9⟩:=ZjG GU (fun _ _ _=>J1) h1 h2 h3 s1 s2 hT hL1;have hf1:∀x∈L1,∀y∈L1,AF prog f [pTr x,pTr y] (· =Zb (WF x y)):=fun x hx y hy=>hf x (Og hS1 hx) y (Og hS1 hy);unfold Kt;refine Zi ?_;(refine LZ ?_<;>(refine bLd 195 (fun hb195=>?_) (fun hb195=>?_)<;>refine kZ ?_)<;>refine kZ ?_<;>refine kZ ?_<;>refine ZN ?_<;>refine Zw ?_)<;>(
 refine Ja (fun L2:{L2:List Nd//Sw a ((a+b) / 2) L1 L2/\SrtS leT a ((a+b) / 2) L2}=>⟨[(0,hv, .val hv),(1, .int .i64 (a:Int),Zb a),(2, .int .i64 (m:Int),Zb m),(3, .int .i64 (b:Int),Zb b),(4,fv, .fn f []),(18, .int .i64 (((a+b) / 2:Nat):Int),Zb (((a+b) / 2:Nat):Int)),(20, .int .i64 (j:Int),Zb j),(24, .int .i64 (((a+b) / 2+m-j:Nat):Int),Zb (((a+b) / 2+m-j:Nat):Int))],Kt hv L2.1⟩) ?_ ?_
 . refine cX ?_ ?_<;>intro hb199
   . first|exact bN hb199|(
 refine Zi ?_;refine ζg ?_;(refine GA (Kt hv L1) sB ?_;refine RN [] 205 (call283) (ih L1 oM hf1 a j ((a+b) / 2) oM oM oM oM g1 g2) (fun v205 p205 h205 hR205=>?_);obtain ⟨L2,hS2,hO2,rfl⟩:=hR205;have hL2l:=hS2.len;dsimp only [Kt]);refine Zw ?_
 first
 |exact YF ⟨L2,hS2,hO2⟩ sB sB
 |exact YF ⟨L1, .refl _,CR g5 g6 oM g1 g2⟩ sB sB)
   . (
 refine nav ?_
 first
 |exact YF ⟨L2,hS2,hO2⟩ sB sB
 |exact YF ⟨L1, .refl _,CR g5 g6 oM g1 g2⟩ sB sB)
 . rintro ⟨L2,hS2,hO2⟩;dsimp only;have hL2l:=hS2.len;have hf2:∀x∈L2,∀y∈L2,AF prog f [pTr x,pTr y] (· =Zb (WF x y)):=fun x hx y hy=>hf1 x (Og hS2 hx) y (Og hS2 hy);have g3':SrtS leT ((a+b) / 2) ((a+b) / 2+m-j) L2:=g3.ext leT fun k k1 k2=>hS2.out (.inr k1);have g4':SrtS leT ((a+b) / 2+m-j) b L2:=g4.ext leT fun k k1 k2=>hS2.out (.inr oM);unfold Kt;refine Zi ?_;(refine LZ ?_<;>(refine bLd 209 (fun hb209=>?_) (fun hb209=>?_)<;>refine kZ ?_)<;>refine kZ ?_<;>refine kZ ?_<;>refine ZN ?_<;>refine Zw ?_)<;>(
 refine cX ?_ ?_<;>intro hb213
 . first|exact bN hb213|(
 refine Zi ?_;refine ζg ?_;(refine GA (Kt hv L2) sB ?_;refine RN [] 219 (call283) (ih L2 oM hf2 ((a+b) / 2) ((a+b) / 2+m-j) b oM oM oM oM g3' g4') (fun v219 p219 h219 hR219=>?_);obtain ⟨L3,hS3,hO3,rfl⟩:=hR219;have hL3l:=hS3.len;dsimp only [Kt]);refine Zw ?_
 first
 |exact Pq (Kt hv L3) (results283) sB ⟨L3,hS1.trans ((hS2.mono (Xd _) oM oM).trans (hS3.mono oM (Xd _) oM)),Pu oM oM oM g9 hS2 hS3 hO2 hO3,rfl⟩
 |exact Pq (Kt hv L2) (results283) sB ⟨L2,hS1.trans (hS2.mono (Xd _) oM oM),Pu oM oM oM g9 hS2 (.refl _) hO2 (CR g7 g8 oM g3' g4'),rfl⟩)
 . (
 refine nav ?_
 first
 |exact Pq (Kt hv L3) (results283) sB ⟨L3,hS1.trans ((hS2.mono (Xd _) oM oM).trans (hS3.mono oM (Xd _) oM)),Pu oM oM oM g9 hS2 hS3 hO2 hO3,rfl⟩
 |exact Pq (Kt hv L2) (results283) sB ⟨L2,hS1.trans (hS2.mono (Xd _) oM oM),Pu oM oM oM g9 hS2 (.refl _) hO2 (CR g7 g8 oM g3' g4'),rfl⟩)))))))
end Go.Proofs.YtmkojdfiadbeeaaGreat
namespace Go.En
open Go.RowKit Go.Cb
section
variable {P:Program} {c:Ctx} {sL hP:List (Nat×Ent)}
end
section
variable {P:Program} {c:Ctx} {sL hP:List (Nat×Ent)}
end
section
variable {P:Program} {st:St} {o:Oper}
theorem Ep {t e k e' k' n a:Nat} {x y:Operand} {h:Value} {p q:PV} {cs:List PV} {kd:IntKind} {i:Int} (l:Nat) (hT:SlT P t e k=true) (ho:o.op= .indexAddr t x y) (hx:ev st.slots x=some (slc h a n k,p)) (hy:ev st.slots y=some (.int kd i,q)) (hl:lk st.heap l=some (h, .own e' k' n cs)) (h0:0<=i) (h1:(a:Int)+i<n) {m:Nat} (hm:m=(a+i.toNat)*k):
 YE P st o (· =padd (sbase h) m) (.val (padd (sbase h) m)):=
 .exact fun M F w' w H=>by
  subst hm;have hv:=(H.ev hx).1;have hi:=(H.ev hy).1;obtain ⟨g,cap,rfl,hc,_⟩:=Gy (H.tr l _ _ hl) oM;refine ⟨.val _,?_⟩;have hca:cap≠a:=oM;simp only [slc,hca,if_false,VV,Kg,XA] at hv;simp [execOp,ho,hv,hi,S3 hT h0 (show i<((n-a:Nat):Int) by omega),sbase,padd,X3]
theorem ZjI {t e k e' k' n a:Nat} {x:Operand} {h:Value} {p:PV} {cs:List PV} (l:Nat) (hT:SlT P t e k=true) (ho:o.op= .call {callee:= .builtin .len,args:= #[x],argTypes:= #[t]}) (hx:ev st.slots x=some (slc h a n k,p)) (hl:lk st.heap l=some (h, .own e' k' n cs)) {m:Nat} (hm:m=n-a):YE P st o (· = .int .i64 m) (.val (.int .i64 m)):=
 .exact fun M F w' w H=>by
  subst hm;have hv:=(H.ev hx).1;obtain ⟨xs,Fs,hrow,hlen,_⟩:=(H.tr l _ _ hl).row;rcases Kq hrow with ⟨rfl,rfl,_⟩|⟨g,cap,rfl,h1,h2,h3⟩
  . exact ⟨.val _,by simp [execOp,ho,hv,resolve,invoke,builtin,Builtin.len_,run_underlying (SlT.und hT),goInt,slc]⟩
  . exact ⟨.val _,by simp [execOp,ho,hv,resolve,invoke,builtin,Builtin.len_,run_underlying (SlT.und hT),goInt,slc]⟩
end
end Go.En
namespace Go.Proofs.YtmkojdfiadbeeaaGreat
open Go.RowKit Go.Cb Go.En Tryz
theorem Ti:AggT prog 51 3=true:=kR
theorem ZjJ:ElT prog 49 51 3 48 (.agg #[(.int .i64 0),(.string ByteArray.empty),(.slice none 0 0)]):=⟨underlying49,by kernel_rfl,rfl,dC⟩
theorem K0:SlT prog 49 51 3=true:=kR
def Zeo (w n:Nat) (l:List Nd):Prop:=∀c,SrtS leT (c*w) (min (c*w+w) n) l
theorem Hn {w n a:Nat} {l:List Nd} (ha:∃c,a=c*w) (hn:n<a+w) (h:∀c,c*w+w<=a->SrtS leT (c*w) (c*w+w) l) (hs:SrtS leT a n l):Zeo w n l:=fun c=>by
 obtain ⟨c0,rfl⟩:=ha
 rcases Vz c c0 with h1|h1|h1
 . have:(c+1)*w<=c0*w:=Vs w h1;rw [Vn] at this;exact (h c this).sub leT (Xd _) (Nat.min_le_left _ _)
 . subst h1;rw [UW oM];exact hs
 . have:(c0+1)*w<=c*w:=Vs w h1;rw [Vn] at this;exact SrtS.small leT l (by have:=Nat.min_le_right (c*w+w) n;omega)
theorem Zo5 {w n a:Nat} {l:List Nd} (h:Zeo w n l) (ha:∃c,a=c*(w*2)) (hn:a+w*2<=n):SrtS leT a (a+w) l/\SrtS leT (a+w) (a+w*2) l:=by
 obtain ⟨c,rfl⟩:=ha
 have e1:c*2*w=c*(w*2):=by rw [Nat.mul_assoc,VF 2 w]
 have h1:=h (c*2)
 have h2:=h (c*2+1)
 rw [Vn] at h2
 rw [e1] at h1 h2
 rw [Vf oM] at h1 h2
 exact ⟨h1,by rw [show c*(w*2)+w*2=c*(w*2)+w+w by omega];exact h2⟩
theorem ZmA {w n a:Nat} {l:List Nd} (h:Zeo w n l) (ha:∃c,a=c*(w*2)) (hn:n<a+w*2) (hw:0<w):SrtS leT a (min (a+w) n) l/\SrtS leT (a+w) n l:=by
 obtain ⟨c,rfl⟩:=ha
 have e1:c*2*w=c*(w*2):=by rw [Nat.mul_assoc,VF 2 w]
 have h1:=h (c*2)
 have h2:=h (c*2+1)
 rw [Vn] at h2
 rw [e1] at h1 h2
 exact ⟨h1,by rw [UW oM] at h2;exact h2⟩
theorem Zo6 {w n:Nat} {l:List Nd} (h:Zeo w n l) (hw:n<=w):SrtS leT 0 n l:=by
 have:=h 0
 rw [X8,XA,UW hw] at this;exact this
theorem Zo7 {l:List Nd} (h:SrtS leT 0 l.length l):AscT l:=by
 rw [AscT,XV]
 intro i j hi hj hij
 exact h i j _ _ (Xg _) hij hj (Xq hi) (Xq hj)
theorem ZjK (f : Nat) (hc:∀args w,(callFunc f args).run prog w= .ok (.enter f args) w) (hv:Value) (fv:Value) (l:List Nd) (hl:l.length<=1000000) (hf:∀x∈l,∀y∈l,AF prog f [pTr x,pTr y] (· =Zb (WF x y))):AFh False prog 265 [(0,hv, .val hv),(1, .int .i64 (l.length:Int),Zb l.length),(2,fv, .fn f [])] (Kt hv l) (fun v q h=>h=Kt hv (Za8 l)):=by
 have hfp:∀{L:List Nd},Sw 0 l.length l L->∀x∈L,∀y∈L,AF prog f [pTr x,pTr y] (· =Zb (WF x y)):=fun hS x hx y hy=>hf x (Og hS hx) y (Og hS hy)
 have hn:l.length<=l.length:=Xd _
 unfold Kt
 refine AFh.of_body 63 func265 rfl ntmps265 (Xa rfl) rfl ?_
 intro w0 M0 N0
 refine YG ?_;refine E9 ?_
 refine Yq (ι:={q:Nat×List Nd//(∃c,q.1=c*20)/\q.1<=l.length/\Sw 0 l.length l q.2/\∀c,c*20+20<=q.1->SrtS leT (c*20) (c*20+20) q.2}) (fun k=>⟨[(0,_,_),(1,_,_),(2,_,_),(6,_,_),(7, .int .i64 k.1.1,Zb k.1.1),(8, .int .i64 ((k.1.1+20:Nat):Int),Zb ((k.1.1+20:Nat):Int))],[(1000,hv, .own 51 3 l.length (Z9 k.1.2))]⟩) (fun k=>l.length-k.1.1) ⟨(0,l),⟨0,rfl⟩,Xg _, .refl _,fun c h=>by dsimp only at h;omega⟩ ?_
 rintro ⟨⟨a,L⟩,ha,han,hS,hO⟩
 dsimp only
 dsimp only at ha han hS hO;have hLl:=hS.len
 refine WJ ?_;refine ZE ?_ ?_<;>intro hb13
 . (
 refine Zi ?_;refine LZ ?_;(refine GA (Kt hv L) ⟨by rw [<-hLl];rfl,trivial⟩ ?_;refine RN [] 18 (call282) (Zmx f hc L oM (hfp hS) a (a+20) oM oM hv fv) (fun v18 p18 h18 hR18=>?_);obtain ⟨L2,hS2,hO2,rfl⟩:=hR18;have hL2l:=hS2.len;dsimp only [Kt];rw [hL2l,hLl]);refine Ym ?_;refine J9 ?_;refine ZO ?_;refine xM ((Gk (c:=((a+20+20:Nat):Int)))) ?_;refine ZP ?_;refine Yr (
  ⟨(a +20,L2),by obtain ⟨c,hc'⟩:=ha;exact ⟨c+1,by dsimp only;omega⟩,by dsimp only;omega,hS.trans (hS2.mono (Xg _) oM oM),fun c h=>by
    dsimp only at h ⊢;obtain ⟨c0,hc0⟩:=ha;rcases XL c c0 with h1|h1
    . exact (hO c oM).ext leT fun k k1 k2=>hS2.out (.inl oM)
    . have:c=c0:=oM;subst this;rw [<-hc0];exact hO2⟩
  ))
 . (
 have hna:l.length<a+20:=oM;refine Zi ?_;refine LZ ?_;(refine GA (Kt hv L) ⟨by rw [<-hLl];rfl,trivial⟩ ?_;refine RN [] 27 (call282) (Zmx f hc L oM (hfp hS) a l.length oM oM hv fv) (fun v27 p27 h27 hR27=>?_);obtain ⟨L1,hS1,hO1,rfl⟩:=hR27;have hL1l:=hS1.len;dsimp only [Kt];rw [hL1l,hLl];have hS1':Sw 0 l.length l L1:=hS.trans (hS1.mono (Xg _) (Xd _) oM);have hB1:Zeo 20 l.length L1:=Hn ha hna (fun c h=>(hO c h).ext leT fun k k1 k2=>hS1.out (.inl oM)) hO1);refine Zw ?_;refine Yq (ι:={q:Nat×List Nd//1<=q.1/\q.1<=2000000/\Sw 0 l.length l q.2/\Zeo q.1 l.length q.2}) (fun k=>⟨[(0,_,_),(1,_,_),(2,_,_),(6, .int .i64 k.1.1,Zb k.1.1)],[(1000,hv, .own 51 3 l.length (Z9 k.1.2))]⟩) (fun k=>l.length-k.1.1) ⟨(20,L1),by dsimp only;omega,by dsimp only;omega,hS1',hB1⟩ ?_;rintro ⟨⟨w,L⟩,hw1,hw2,hS,hB⟩;dsimp only;dsimp only at hw1 hw2 hS hB;have hLl:=hS.len;refine WJ ?_;refine ZE ?_ ?_<;>intro hb30
 . (
 refine Wp ?_;refine xM ((ZcT (c:=((w*2:Nat):Int)))) ?_;refine KI ?_;refine Yq (ι:={q:Nat×List Nd//(∃c,q.1=c*(w*2))/\q.1<=l.length/\Sw 0 l.length l q.2/\(∀c,c*(w*2)+w*2<=q.1->SrtS leT (c*(w*2)) (c*(w*2)+w*2) q.2)/\∀k,q.1<=k->q.2[k]? =L[k]? }) (fun k=>⟨[(0,_,_),(1,_,_),(2,_,_),(6,_,_),(7, .int .i64 k.1.1,Zb k.1.1),(8, .int .i64 ((w*2+k.1.1:Nat):Int),Zb ((w*2+k.1.1:Nat):Int))],[(1000,hv, .own 51 3 l.length (Z9 k.1.2))]⟩) (fun k=>l.length-k.1.1) ⟨(0,L),⟨0,(X8 _).symm⟩,Xg _,hS,fun c h=>by dsimp only at h;omega,fun _ _=>rfl⟩ ?_;rintro ⟨⟨a,K⟩,ha,han,hSK,hO,hU⟩;dsimp only;dsimp only at ha han hSK hO hU;have hKl:=hSK.len;refine WJ ?_;refine ZE ?_ ?_<;>intro hb35
 . (
 have hab:a+w*2<=l.length:=oM;have hb2:=Zo5 hB ha hab;have g1:SrtS leT a (a+w) K:=hb2.1.ext leT fun k k1 k2=>hU k k1;(have g2:SrtS leT (a+w) (w*2+a) K:=by rw [Nat.add_comm (w*2) a];exact hb2.2.ext leT fun k k1 k2=>hU k oM);refine Zi ?_;refine LZ ?_;refine xM ((Gk (c:=((a+w:Nat):Int)))) ?_;refine ZO ?_;(refine GA (Kt hv K) ⟨by rw [<-hKl];rfl,trivial⟩ ?_;refine RN [] 43 (call283) (Zmz f hc hv fv _ K oM (hfp hSK) a (a+w) (w*2+a) (Xd _) oM oM oM g1 g2) (fun v43 p43 h43 hR43=>?_);obtain ⟨K2,hS2,hO2,rfl⟩:=hR43;have hK2l:=hS2.len;dsimp only [Kt];rw [hK2l,hKl]);refine Ym ?_;refine J9 ?_;refine ZO ?_;refine xM ((ZcT (c:=((w*2:Nat):Int)))) ?_;refine xM ((Gk (c:=((w*2+(w*2+a):Nat):Int)))) ?_;refine ZP ?_;refine Yr (
  ⟨(w *2+a,K2),by obtain ⟨c,hc'⟩:=ha;exact ⟨c+1,by dsimp only;rw [Vn];omega⟩,by dsimp only;omega,hSK.trans (hS2.mono (Xg _) oM oM),fun c h=>by
    dsimp only at h ⊢;obtain ⟨c0,hc0⟩:=ha;rcases Vz c c0 with h1|h1|h1
    . have:(c+1)*(w*2)<=c0*(w*2):=Vs _ h1;rw [Vn] at this;exact (hO c oM).ext leT fun k k1 k2=>hS2.out (.inl oM)
    . subst h1;rw [<-hc0,Nat.add_comm a (w*2)];exact hO2
    . have:(c0+1)*(w*2)<=c*(w*2):=Vs _ h1;rw [Vn] at this;omega,fun k hk=>by dsimp only at hk ⊢;rw [hS2.out (.inr hk)];exact hU k oM⟩
  ))
 . (
 have hna:l.length<a+w*2:=oM;have hb3:=ZmA hB ha hna hw1;have g1:SrtS leT a (min (a+w) l.length) K:=hb3.1.ext leT fun k k1 k2=>hU k k1;have g2:SrtS leT (a+w) l.length K:=hb3.2.ext leT fun k k1 k2=>hU k oM;refine KL ?_;refine xM ((Gk (c:=((a+w:Nat):Int)))) ?_;refine ZX ?_;refine Y1 ?_;refine ZE ?_ ?_<;>intro hb54
 . (
 rw [Vf oM] at g1;refine Zi ?_;refine ζg ?_;(refine GA (Kt hv K) ⟨by rw [<-hKl];rfl,trivial⟩ ?_;refine RN [] 60 (call283) (Zmz f hc hv fv _ K oM (hfp hSK) a (a+w) l.length (Xd _) oM oM oM g1 g2) (fun v60 p60 h60 hR60=>?_);obtain ⟨K2,hS2,hO2,rfl⟩:=hR60;have hK2l:=hS2.len;dsimp only [Kt];rw [hK2l,hKl]);refine Ym ?_;refine ZN ?_;refine xM ((ZcT (c:=((w*2:Nat):Int)))) ?_;refine ZP ?_
 first
  | (exact Yr (
      ⟨(w*2,K),by dsimp only;omega,by dsimp only;omega,hSK,Hn ha hna hO g1⟩
      ))
  | (exact Yr (
      ⟨(w*2,K2),by dsimp only;omega,by dsimp only;omega,hSK.trans (hS2.mono (Xg _) oM oM),show Zeo (w*2) l.length K2 from Hn ha hna (fun c h=>(hO c h).ext leT fun k k1 k2=>hS2.out (.inl oM)) hO2⟩
      )))
 . (
 rw [UW oM] at g1;refine Wp ?_;refine xM ((ZcT (c:=((w*2:Nat):Int)))) ?_;refine ZP ?_
 first
  | (exact Yr (
      ⟨(w*2,K),by dsimp only;omega,by dsimp only;omega,hSK,Hn ha hna hO g1⟩
      ))
  | (exact Yr (
      ⟨(w*2,K2),by dsimp only;omega,by dsimp only;omega,hSK.trans (hS2.mono (Xg _) oM oM),show Zeo (w*2) l.length K2 from Hn ha hna (fun c h=>(hO c h).ext leT fun k k1 k2=>hS2.out (.inl oM)) hO2⟩
      )))))
 . (
 refine nav ?_;have hso:=Zo6 hB oM;rw [<-hLl] at hso;refine Pq [(1000,hv, .own 51 3 l.length (Z9 L))] (results265) sB ?_;rw [<-ZoN (Zo7 hso) hS.perm];rw [hLl]))
theorem ZjL (f:Nat) (hc:∀args w,(callFunc f args).run prog w= .ok (.enter f args) w) (hv:Value) (fv:Value) (l:List Nd) (hl:l.length<=1000000) (hf:∀x∈l,∀y∈l,AF prog f [pTr x,pTr y] (· =Zb (WF x y))):AFh False prog 225 [(0,hv, .val hv),(1,fv, .fn f [])] (Kt hv l) (fun v q h=>h=Kt hv (Za8 l)):=by
 unfold Kt
 refine AFh.of_body 9 func225 rfl ntmps225 (Xa rfl) rfl ?_
 intro w0 M0 N0
 refine Zi ?_
 refine xL 4 Za (xL 5 Za (xL 6 (WB 1000 K0) (xL 7 Za ?_)));refine GA (Kt hv l) sB ?_;refine RN [] 8 (call265) (ZjK f hc hv fv l hl hf) (fun v8 p8 h8 hR8=>?_);subst hR8;dsimp only [Kt];refine Zw ?_
 exact Pq (Kt hv (Za8 l)) (results225) sB rfl
theorem Zo8 {l:List Nd} (h:1<=l.length):Tf (l.take 1)=l.take 1:=by
 cases l with
 |nil=>simp at h
 |cons x l=>rfl
theorem Zep {l:List Nd} (hs:AscT l) {p:Nat} {x y:Nd} (hy:l[p]? =some y) (hx:l[p+1]? =some x) (he:SD x y=true):Tf (l.take (p+1+1))=Tf (l.take (p+1)):=by
 have e:=Jf.1 he
 subst e
 refine ζA (TG _ (hs.sublist (UX _ _))) (TG _ (hs.sublist (UX _ _))) fun z=>?_
 rw [GV,GV,Z2 hx,XB,XC]
 exact ⟨fun h=>h.elim id fun h=>by subst h;rw [Z2 hy];exact List.mem_append_right _ (XC.2 rfl), .inl⟩
theorem ZhY {l:List Nd} (hs:AscT l) {i j:Nat} {x y:Nd} (hij:i<j) (hx:l[i]? =some x) (hy:l[j]? =some y):leT x y:=by
 obtain ⟨h1,rfl⟩:=Xk.1 hx
 obtain ⟨h2,rfl⟩:=Xk.1 hy
 exact XV.1 hs i j h1 h2 hij
theorem ZhZ {l:List Nd} (hs:AscT l) {p:Nat} {x y:Nd} (hy:l[p]? =some y) (hx:l[p+1]? =some x) (he:SD x y=false):Tf (l.take (p+1+1))=Tf (l.take (p+1))++[x]:=by
 have hyx:WF y x<0:=Hf (ZhY hs oM hy hx) fun e=>by rw [Jf.2 e.symm] at he;cases he
 refine ζA (TG _ (hs.sublist (UX _ _))) ?_ fun z=>?_
 . refine UD.2 ⟨TG _ (hs.sublist (UX _ _)),V8 ..,fun z hz w hw=>?_⟩;rw [XC.1 hw];rw [GV] at hz;obtain ⟨i,hi⟩:=XM hz;have hi':=Zd hi;rw [XE] at hi';rw [X1 oM] at hi;by_cases e:i=p
   . subst e;rw [hi] at hy;cases hy;exact hyx
   . have h:=ZhY hs (show i<p by omega) hi hy;by_cases e2:z=y
     . subst e2;exact hyx
     . have:=Hf h e2;have t1:=SA z y;have t2:=SA y x;have:=ZcG z y x oM oM;omega
 . rw [XB,GV,XC,Z2 hx,GV,XB,XC]
theorem Dz {α β:Type} {f:α->List β} {m:Nat} (hf:∀x,(f x).length=m):∀(L:List α) (k:Nat),(L.flatMap f).take (k*m)=(L.take k).flatMap f
 |[],k=>sM
 |x::L,0=>sM
 | x::L,k+1=>by
   rw [UB,Xr,Xr,<-Dz hf L k,List.take_append,Xt (by rw [hf,X3];omega),hf,show (k+1)*m-m=k*m by rw [X3];omega]
theorem ZmB {hv:Value} (h:hv.oneCell'=true) (i j k:Nat):(slc hv i j k).oneCell'=true:=by
 unfold slc;split
 . rfl
 . exact h
theorem ZcW (f : Nat) (hc:∀args w,(callFunc f args).run prog w= .ok (.enter f args) w) (fv:Value) (l:List Nd) (hl:l.length<=1000000) (hs:AscT l) (hf:∀x∈l,∀y∈l,AF prog f [pTr x,pTr y] (· =Zr (SD x y))) (hv:Value) (hvo:hv.oneCell'=true):AFh False prog 227 [(0,hv, .val hv),(1,fv, .fn f [])] [(1000,hv, .own 51 3 l.length (Z9 l))] (fun v q h=>v.oneCell'=true/\q= .val v/\h=[(1000,v, .own 51 3 (Tf l).length (Z9 (Tf l)))]):=by
 refine AFh.of_body 66 func227 rfl ntmps227 (Xa rfl) rfl ?_
 intro w0 M0 N0
 refine YG ?_
 refine xL 8 Za (xL 9 (WB 1000 K0) (xL 10 Yj ?_));refine ZE ?_ ?_<;>intro hb10
 . (
 refine ZU ?_;refine Zmf [(1000,hv,PV.own 51 3 l.length (Z9 l))] (results227) rfl sB ⟨hvo,rfl,?_⟩;have hm:Tf l=l:=by
  match l,hl,hb10 with
  |[],_,_=>rfl
  |[_],_,_=>rfl
  |_::_::_,_,h=>simp at h;omega
 rw [hm])
 . (
 refine ZD ?_;refine Yq (ι:={k:Nat//1<=k/\k<=l.length/\Tf (l.take k)=l.take k}) (fun k=>⟨[(0,_,_),(1,_,_),(5, .int .i64 k.1,Zb k.1)],[(1000,_,_)]⟩) (fun k=>l.length-k.1) ⟨1,Xd _,oM,Zo8 oM⟩ ?_;rintro ⟨k1,hk1,hk,hmk⟩;dsimp only;obtain ⟨k,rfl⟩:∃k,k1=k+1:=⟨k1-1,oM⟩;refine Zi ?_;refine xL 12 Za (xL 13 Za (xL 14 (WB 1000 K0) (xL 15 Yj ?_)));refine ZE ?_ ?_<;>intro hb15
 . (
 obtain ⟨x,hx⟩:=gS l (k+1);obtain ⟨y,hy⟩:=gS l k;have e1:=Ye hx;have e2:=YH hx;have e3:=Ye hy;have e4:=YH hy;have hlt:k+1<l.length:=Zd hx;refine nav ?_;refine YJ [] [1000] ?_<;>refine xD 0 rfl Za ?_<;>refine xD 1 rfl Za ?_<;>refine xD 2 rfl Za ?_<;>refine xD 3 rfl (Zj 1000 K0) ?_<;>(refine yD 4 rfl (Zn 1000 Ti) fun v22 h=>?_;cases h)<;>refine xD 5 rfl Za ?_<;>refine xE 6 rfl Za ?_<;>refine xE 7 rfl ((Jc (c:=((k:Nat):Int)))) ?_<;>refine xE 8 rfl (Zj 1000 K0) ?_<;>(refine yE 9 rfl (Zn 1000 Ti) fun v27 h=>?_;cases h)<;>(refine ZY 10 kR ?_)<;>(refine Yo (d:=28) rfl (TC (f:=f) (ps:=[]) rfl ⟨_,rfl⟩ hc rfl (hf x (Xb hx) y (Xb hy))) fun v28 h=>?_;cases h)<;>refine WE ?_;refine cX ?_ ?_<;>intro hb28
 . (
 have hsm:=Zep hs hy hx (by unfold SD;simpa using hb28);(have hl1:(Tf (l.take (k+1+1))).length=k+1:=by rw [hsm,hmk,XE];omega);refine KL ?_;refine xM (H6 (i:=k+1) (j:=l.length) 1000 K0 rfl rfl rfl rfl rfl (Nat.le_of_lt hlt) (Xd _)) ?_;refine KA ?_;refine Yq (ι:={q:Nat×Nat×List Nd//1<=q.1/\k+1+q.1<=l.length/\q.2.1=(Tf (l.take (k+1+q.1))).length/\q.2.2.length=l.length/\q.2.2.take q.2.1=Tf (l.take (k+1+q.1))/\q.2.1<=k+q.1/\∀i,k+q.1<=i->q.2.2[i]? =l[i]? }) (fun k=>⟨[(0,_,_),(1,_,_),(6,_,_),(5, .int .i64 k.1.2.1,Zb k.1.2.1),(7, .int .i64 k.1.1,Zb k.1.1)],[(1000,hv, .own 51 3 l.length (Z9 k.1.2.2))]⟩) (fun k=>l.length-k.1.1) ⟨(1,k+1,l),Xd _,by dsimp only;omega,hl1.symm,rfl,by dsimp only;rw [hsm,hmk],Xd _,fun i _=>rfl⟩ ?_;rintro ⟨⟨j,K,L⟩,hj1,hj,hK,hLl,hLt,hKj,hLr⟩;dsimp only;dsimp only at hj1 hj hK hLl hLt hKj hLr;obtain ⟨j',rfl⟩:∃j',j=j'+1:=⟨j-1,oM⟩;have hK2:(K:Int)<=1000000:=oM;rw [show k+1+(j'+1)=k+1+j'+1 from rfl] at hK hLt;refine KL ?_;refine xM ((ZjI (a:=k+1) (m:=l.length-(k+1)) 1000 K0 rfl rfl rfl rfl)) ?_;refine Wl ?_ ?_<;>intro hb35
 . (
 obtain ⟨u,hu⟩:=gS l (k+1+(j'+1));obtain ⟨v,hv2⟩:=gS l (k+1+j');(have hu':L[k+1+(j'+1)]? =some u:=by rw [hLr _ oM];exact hu);(have hv':L[k+1+j']? =some v:=by rw [hLr _ oM];exact hv2);have g1:=Ye hu';have g2:=YH hu';have g3:=Ye hv';have g4:=YH hv';have g5:K<L.length:=oM;(have g6:K*3+3<=(Z9 L).length:=by rw [TK];omega);refine nav ?_;refine YJ [] [1000] ?_<;>refine xD 0 rfl Za ?_<;>refine xD 1 rfl Za ?_<;>refine xD 2 rfl Za ?_<;>refine xD 3 rfl ((Ep (a:=k+1) (m:=(k+1+(j'+1))*3) 1000 K0 rfl rfl rfl rfl oM oM oM)) ?_<;>(refine yD 4 rfl (Zn 1000 Ti) fun v42 h=>?_;cases h)<;>refine xD 5 rfl Za ?_<;>refine xE 6 rfl Za ?_<;>refine xE 7 rfl ((Jc (c:=((j':Nat):Int)))) ?_<;>refine xE 8 rfl ((Ep (a:=k+1) (m:=(k+1+j')*3) 1000 K0 rfl rfl rfl rfl oM oM oM)) ?_<;>(refine yE 9 rfl (Zn 1000 Ti) fun v47 h=>?_;cases h)<;>(refine ZY 10 kR ?_)<;>(refine Yo (d:=48) rfl (TC (f:=f) (ps:=[]) rfl ⟨_,rfl⟩ hc rfl (hf u (Xb hu) v (Xb hv2))) fun v48 h=>?_;cases h)<;>refine xE 11 rfl LK ?_<;>refine WE ?_;refine cX ?_ ?_<;>intro hb49
 . (
 have hnw2:=ZhZ hs hv2 hu (by simpa using hb49);have hset:=ZcV L K u g5;(have hlen2:K+1=(Tf (l.take (k+1+j'+1+1))).length:=by rw [hnw2,Xf,XD,hK]);have htk2:(L.set K u).take (K+1)=Tf (l.take (k+1+j'+1+1)):=by
  rw [hnw2,<-hLt,List.take_set,Z2 (Xq g5),Vr _ _ (by rw [XE];omega),XE,Vf oM,Vl];rfl
 refine Zi ?_;refine LZ ?_;refine xM ((Ep (a:=k+1) (m:=(k+1+(j'+1))*3) 1000 K0 rfl rfl rfl rfl oM oM oM)) ?_;refine yU (Zn 1000 Ti) fun v55=>?_;refine xM (Zj 1000 K0) ?_;refine Zp 1000 Ti ?_;refine Ym ?_;refine Y1 ?_;refine Ym ?_;refine E9 ?_;try rw [hset]
 first
  | (exact Yr (
      ⟨(j'+1+1,K+1,L.set K u),by dsimp only;omega,by dsimp only;omega,hlen2,by dsimp only;rw [Xn];exact hLl,htk2,by dsimp only;omega,fun i hi=>by dsimp only at hi ⊢;rw [X9 oM];exact hLr i oM⟩
      ))
  | (exact Yr (
      ⟨(j'+1+1,K,L),by dsimp only;omega,by dsimp only;omega,hK.trans (by rw [show k+1+(j'+1+1)=k+1+j'+1+1 by omega,hsm2]),hLl,hLt.trans (by rw [show k+1+(j'+1+1)=k+1+j'+1+1 by omega,hsm2]),by dsimp only;omega,fun i hi=>hLr i (by dsimp only at hi;omega)⟩
      )))
 . (
 have hsm2:=Zep hs hv2 hu (by simpa using hb49);refine Y2 ?_;try rw [hset]
 first
  | (exact Yr (
      ⟨(j'+1+1,K+1,L.set K u),by dsimp only;omega,by dsimp only;omega,hlen2,by dsimp only;rw [Xn];exact hLl,htk2,by dsimp only;omega,fun i hi=>by dsimp only at hi ⊢;rw [X9 oM];exact hLr i oM⟩
      ))
  | (exact Yr (
      ⟨(j'+1+1,K,L),by dsimp only;omega,by dsimp only;omega,hK.trans (by rw [show k+1+(j'+1+1)=k+1+j'+1+1 by omega,hsm2]),hLl,hLt.trans (by rw [show k+1+(j'+1+1)=k+1+j'+1+1 by omega,hsm2]),by dsimp only;omega,fun i hi=>hLr i (by dsimp only at hi;omega)⟩
      ))))
 . (
 have hall:l.take (k+1+j'+1)=l:=Xt oM;rw [hall] at hK hLt;have hKl:K<=l.length:=oM;refine KL ?_;refine xM (H6 (i:=K) (j:=l.length) 1000 K0 rfl rfl rfl rfl rfl hKl (Xd _)) ?_;refine Zmg 1000 ZjJ dC rfl rfl rfl rfl rfl hKl ?_;intro cs2 hcs1 hcs2;refine Ym ?_;refine ZO ?_;refine xM (H6 (i:=0) (j:=K) 1000 K0 rfl rfl rfl rfl rfl (Xg _) hKl) ?_;refine ZP ?_;refine YO (Zsf (l:=1000) K rfl hKl) fun _=>?_;refine Zmf [(1000,slc hv 0 K 3,PV.own 51 3 K (cs2.take (K*3)))] (results227) rfl sB ⟨ZmB hvo _ _ _,rfl,?_⟩;rw [hcs2,<-hLt,W2,Dz Ru,<-W2];rw [show (L.take K).length=K by rw [XE];omega]))
 . (
 have hnw:=ZhZ hs hy hx (by unfold SD;simpa using hb28);rw [hmk,<-Z2 hx] at hnw;refine Y2 ?_;refine Yr (
  ⟨k+1+1,oM,oM,hnw⟩
  )))
 . (
 refine ZU ?_;refine Zmf [(1000,hv,PV.own 51 3 l.length (Z9 l))] (results227) rfl sB ⟨hvo,rfl,?_⟩;rw [Xt (show l.length<=k+1 by omega)] at hmk;rw [hmk]))
theorem G8:AggT prog 51 3=true:=kR
theorem Er:ElT prog 49 51 3 48 (.agg #[(.int .i64 0),(.string ByteArray.empty),(.slice none 0 0)]):=⟨underlying49,by kernel_rfl,rfl,dC⟩
theorem Cf:FldT prog 51 0 0=true:=kR
theorem Zeq:FldT prog 51 2 2=true:=kR
theorem Zer:NoAgg prog 3=true:=kR
theorem ZjM:NoAgg prog 49=true:=kR
theorem OV:SlT prog 49 51 3=true:=kR
theorem ZbH:Ge prog 51=some ((.agg #[(.int .i64 0),(.string ByteArray.empty),(.slice none 0 0)]),([0,1,2]:List Nat).map fun o=>(o,1)):=kR
theorem ZbI:ZeroT prog 51 (.agg #[(.int .i64 0),(.string ByteArray.empty),(.slice none 0 0)]):=by unfold ZeroT;kernel_rfl
theorem SE (t:Nd):szT t=1+szL t.l:=by cases t;rw [szT];rfl
theorem Zes {l m:List Nd} (h:l.Perm m):szL l=szL m:=by
 induction h with
 |nil=>rfl
 |cons x _ ih=>rw [szL,szL,ih]
 |swap x y l=>simp only [szL];omega
 |trans _ _ h1 h2=>exact h1.trans h2
theorem Zh0:∀l:List Nd,szL (Tf l)<=szL l
 |[]=>Xd _
 |[x]=>Xd _
 | x::y::m=>by
   have:=Zh0 (y::m);rw [Tf];split
   . rw [szL];omega
   . rw [szL,szL];omega
theorem ZcX (op:Int) (l:List Nd):szL (Kr op l)<=szL l:=by
 induction l with
 |nil=>exact Xd _
 | cons x l ih=>
   unfold Kr at ih ⊢;rw [Xr,G4,szL];have:szL (if x.op=op then x.l else if x.op≠2\/op=4 then [x] else [])<=szT x:=by
    split
    . rw [SE];omega
    . split
      . simp [szL]
      . simp [szL]
   omega
theorem GB (l:List Nd):l.length<=szL l:=by
 induction l with
 |nil=>exact Xd _
 |cons x l ih=>have:=ZhD x;rw [szL,Xi];omega
theorem Zh1 (op:Int) (p:List Nd):szL (Rt op p)<=szL p:=by
 unfold Rt
 split
 . exact Xd _
 . split
   . exact XK (Zh0 _) (Nat.le_of_eq (Zes (Lh p)))
   . exact Nat.le_of_eq (Zes (Lh p))
theorem Zq0 (op:Int):∀p:List Nd,szT (Ef op p)<=1+szL p
 |[]=>by rw [Ef];exact Xd _
 |[x]=>by rw [Ef,szL];omega
 |x::y::l=>by rw [Ef,szT];exact Xd _
theorem Zh2 (op:Int) (l:List Nd):szT (RI op l)<=1+szL l:=by
 unfold RI
 have h1:=Zq0 op (Rt op (Kr op l))
 have h2:=Zh1 op (Kr op l)
 have h3:=ZcX op l
 omega
theorem Zo9 (f s:Nd):szT (Gh f s).1+szT (Gh f s).2<=szT f+szT s:=by
 unfold Gh
 split
 . split
   . rename_i a b r hl;have h1:=Zh2 4 [b,s];have h2:=SE f;rw [hl] at h2;simp only [szL] at h1 h2 ⊢;omega
   . exact Xd _
 . exact Xd _
theorem Zq1 (l:List Nd):szT (ZoP l)<=1+szL l:=by
 match l with
 |[]=>exact V9 1 _
 |[x]=>exact V9 1 _
 | f::s::r=>
   have h:=Zo9 f s;rw [ZoP,ζB];split
   . exact V9 1 _
   . rw [szT];simp only [szL];omega
theorem Zq2 (o:Int) (a:BA) (l:List Nd):szT (ζC o a l)<=1+szL l:=by
 unfold ζC
 split
 . rw [szT,szL];omega
 . split
   . exact Zq1 l
   . exact Zh2 o l
theorem Oh:∀t:Nd,szT (Yt t)<=szT t:=Nd.ind fun o a l ih=>by
 rw [Yt,szT]
 have h1:=Zq2 o a (Kd l)
 have h2:szL (Kd l)<=szL l:=by
  clear h1;induction l with
  |nil=>exact Xd _
  | cons x l ih2=>
    rw [Kd,szL,szL];have h3:=ih x (Xu ..);have h4:=ih2 fun y hy=>ih y (Xs _ hy);omega
 omega
theorem ZjN {s:BA} (h:isName s=true):s.size<=40:=by
 rcases XL 40 s.size with h1|h1
 . rw [Pk (.inr h1)] at h;cases h
 . exact h1
theorem Zet {t:Nd} (h:rightT t=true):t.act.size<=40:=by
 unfold rightT at h
 split at h
 . simp only [Xe] at h;exact ZjN h.2
 . split at h
   . simp only [Xe,U9] at h;rw [h.2];decide
   . split at h
     . simp only [Xe,U9] at h;rw [h.2];decide
     . split at h
       . simp only [Xe,U9] at h;rw [h.2];decide
       . cases h
theorem OW:∀t:Nd,okT t=true->szT t<=1000000->FitT t:=Nd.ind fun o a l ih hok hs=>by
 obtain ⟨h1,h2⟩:=JU.1 hok
 have h3:=SE (.mk o a l)
 have h4:=GB l
 have h5:=Zet h1
 have h6:=RJ h1
 simp only [Nd.l,Nd.act,Nd.op] at h3 h5 h6 h2
 refine .mk _ (by show l.length<=_;omega) (by show a.size<=_;omega) (by show _<=o;omega) (by show o<=_;omega) fun x hx=>?_
 have h7:=Po (show x∈l from hx)
 exact ih x hx (h2 x hx) oM
theorem Es {t:Nd} (h:okT t=true):okT (Yt t)=true:=(Zl2 t h).ok
theorem T9 {t:Nd} (h:okT t=true) (hs:szT t<=1000000):FitT (Yt t):=OW _ (Es h) (XK (Oh t) hs)
theorem ZmC (op:Int) {l:List Nd} {k:Nat} {x:Nd} (h:l[k]? =some x):Kr op (l.take (k+1))=Kr op (l.take k)++(if x.op=op then x.l else if x.op≠2\/op=4 then [x] else []):=by
 unfold Kr
 rw [Z2 h,XY,UC]
theorem ZmD {op:Int} {l:List Nd} {y:Nd} (h:y∈Kr op l):∃x∈l,y=x\/y∈x.l:=by
 unfold Kr at h
 obtain ⟨x,hx,hy⟩:=Um.1 h
 split at hy
 . exact ⟨x,hx, .inr hy⟩
 . split at hy
   . exact ⟨x,hx, .inl (XC.1 hy)⟩
   . cases hy
theorem Zpa {op:Int} {l:List Nd} (h:∀x∈l,FitT x):∀y∈Kr op l,FitT y:=fun y hy=>by
 obtain ⟨x,hx,h1|h1⟩:=ZmD hy
 . rw [h1];exact h x hx
 . exact (h x hx).p y h1
theorem Ho (op:Int) (l:List Nd) (k:Nat):(Kr op (l.take k)).length<=szL l:=by
 have h1:=GB (Kr op (l.take k))
 have h2:=ZcX op (l.take k)
 have h3:szL (l.take k)<=szL l:=by
  conv=>rhs;rw [<-Vy k l]
  rw [G4];omega
 omega
theorem T' (l:List Nd):(Z9 l).all En.one=true:=by
 rw [W2,Xj]
 intro p hp
 obtain ⟨x,_,hx⟩:=Um.1 hp
 rcases Xh.1 hx with h|hx
 . subst h;rfl
 . rcases Xh.1 hx with h|hx
   . subst h;rfl
   . rcases Xh.1 hx with h|hx
     . subst h;rfl
     . cases hx
theorem Lj (l:List Nd) (x:Nd):Z9 l++cN x=Z9 (l++[x]):=by
 rw [W2,W2,XY,UC]
theorem ζO (l m:List Nd):Z9 l++Z9 m=Z9 (l++m):=by
 rw [W2,W2,W2,XY]
theorem Et:Rr (.agg [.val (.int .i64 2), .val (.string ByteArray.empty), .val (.slice none 0 0)]) (pTr Hg):=Rr.agg rfl fun i a b ha hb=>by
 match i with
 |0=>cases ha;cases hb;exact Rr.rfl' _
 |1=>cases ha;cases hb;exact Rr.rfl' _
 |2=>cases ha;cases hb;exact Rr.nil
 |i+3=>simp at ha
theorem JC (e n:Nat) (l:List Nd) (hn:n=l.length):share (.own e 3 n (Z9 l))=YN l:=by
 subst hn
 rw [share,YI,W2,Up]
 unfold YN
 rw [W2];rfl
def sS (op:Int) (p:List Nd):List Nd:=if op=3 then p else Za8 p
theorem Zq3 (op:Int) (p:List Nd):(sS op p).length=p.length:=by
 unfold sS;split
 . rfl
 . exact (Lh p).length_eq
theorem Zq4 {op:Int} {p:List Nd} (h:op≠4):sS op p=Rt op p:=by
 unfold sS Rt
 by_cases h3:op=3
 . rw [Qc h3,Qc h3]
 . rw [Qb h3,Qb h3,Qb h]
theorem ZmE {op:Int} {p:List Nd} {x:Nd}:x∈sS op p->x∈p:=by
 unfold sS;split
 . exact id
 . exact (Lh p).mem_iff.1
theorem CU (op : Int) (l:List Nd) (h1: -9223372036854775808<=op) (h2:op<=9223372036854775807) (hF:∀x∈l,FitT x) (hn:szL l<=1000000):AF prog 183 [Zb op,YN l] (· =pTr (RI op l)):=by
 have hll:l.length<=1000000:=XK (GB l) hn
 refine AF.b2 57 func183 rfl ntmps183 (Xa rfl) ?_
 rintro w0 M0 _ v1 rfl-
 refine Zi ?_
 refine Zt zT 3 4 ZbI fun h4=>?_;refine Ym ?_;refine ZP ?_
 refine Zq (YS 1000 51 3 rfl) fun _=>?_
 refine Zo ?_;refine xL 8 Za (xL 9 (Zs OV) (xL 10 Za ?_));refine Zw ?_
 refine Yq (ι:={q:Nat×Value//q.1<=l.length/\q.2.oneCell'=true}) (fun k=>⟨[(0,_,_),(4,_,_),(8,_,_),(9,_,_),(5,k.1.2, .val k.1.2),(10, .int .i64 k.1.1,Zb k.1.1)],[(4,_,_),(1000,k.1.2, .own 51 3 (Kr op (l.take k.1.1)).length (Z9 (Kr op (l.take k.1.1))))]⟩) (fun k=>l.length-k.1.1) ⟨(0, .slice none 0 0),Xg _,rfl⟩ ?_
 rintro ⟨⟨k,hO⟩,hk,hOo⟩
 dsimp only
 dsimp only at hk hOo
 have hpl:=Ho op l k
 have hpl2:=Ho op l (k+1)
 refine Yy ?_ ?_<;>intro hb11
 . (
 obtain ⟨x,hx⟩:=gS l k;have e1:((Z9 l).drop (k*3)).take 3=[Zb x.op,Zv x.act,YN x.l]:=Ye hx;have e2:=YH hx;have hsn:=ZmC op hx;have hxf:=hF x (Xb hx);have f1:(Z9 x.l).length=x.l.length*3:=TK _;have f2:=T' x.l;refine Zi ?_;refine xM (Ze OV) ?_;refine yU (Wn G8) fun v13=>?_;refine Zt zT 3 7 ZbI fun h7=>?_;refine Zp 7 G8 ?_;refine Ym ?_;refine xM (Zc 7 Cf) ?_;refine yV (Zh 7 Zer) ?_;refine Y1 ?_;refine ZE ?_ ?_<;>intro hb14
 . (
 rw [Qc hb14] at hsn;(have hsl:(Kr op (l.take (k+1))).length=(Kr op (l.take k)).length+x.l.length:=by rw [hsn,Xf]);refine Zi ?_;refine xL 19 Za (xL 20 (Zc 7 Zeq) ?_);refine yU (Zh 7 ZjM) fun v21=>?_;refine W5 1000 22 Er (fun h22 ho22=>?_) f1 f2;refine Zz (ZM (l:=22) 1000 rfl rfl) fun _=>?_;refine Zz (Wv (l:=1000) (p':= .own 51 3 (Kr op (l.take (k+1))).length (Z9 (Kr op (l.take (k+1))))) rfl (by rw [ζO,<-hsn,hsl])) fun _=>?_;refine JS ?_
 first
  | (exact Yr (
      ⟨(k+1,h22),Zd hx,ho22⟩
      ))
  | (exact Yr (
      ⟨(k+1,h34),Zd hx,ho34⟩
      ))
  | (exact Yr (
      ⟨(k+1,hO),Zd hx,hOo⟩
      )))
 . (
 rw [Qb hb14] at hsn;refine Zi ?_;(refine xM (Zc 7 Cf) ?_<;>refine yV (Zh 7 Zer) ?_<;>refine ZO ?_<;>(refine bLd 27 (fun hb27=>?_) (fun hb27=>?_)<;>refine kZ ?_)<;>refine kZ ?_<;>refine ZO ?_<;>refine Zw ?_)<;>(
 refine cX ?_ ?_<;>intro hb23
 . (
 rw [Qc oM] at hsn;(have hsl:(Kr op (l.take (k+1))).length=(Kr op (l.take k)).length+1:=by rw [hsn,Xf];rfl);refine Wp ?_;refine yU (Zn 7 G8) fun v32=>?_;refine WH 33 Er fun h33 ho33=>?_;refine Wc 1000 33 34 Er fun h34 ho34=>?_;refine Zz (ZM (l:=34) 1000 rfl rfl) fun _=>?_;refine Zz (Wv (l:=1000) (p':= .own 51 3 (Kr op (l.take (k+1))).length (Z9 (Kr op (l.take (k+1))))) rfl (Eq.trans (congrArg (PV.own 51 3 _) (show _=Z9 (Kr op (l.take k))++cN x from rfl)) (by rw [Lj,<-hsn,hsl]))) fun _=>?_;refine JS ?_
 first
  | (exact Yr (
      ⟨(k+1,h22),Zd hx,ho22⟩
      ))
  | (exact Yr (
      ⟨(k+1,h34),Zd hx,ho34⟩
      ))
  | (exact Yr (
      ⟨(k+1,hO),Zd hx,hOo⟩
      )))
 . first |exact bN hb23|(
 rw [Qb oM,Xo] at hsn;refine Zq (Wv (l:=1000) (p':= .own 51 3 (Kr op (l.take (k+1))).length (Z9 (Kr op (l.take (k+1))))) rfl (by rw [hsn])) fun _=>?_;refine ZU ?_
 first
  | (exact Yr (
      ⟨(k+1,h22),Zd hx,ho22⟩
      ))
  | (exact Yr (
      ⟨(k+1,h34),Zd hx,ho34⟩
      ))
  | (exact Yr (
      ⟨(k+1,hO),Zd hx,hOo⟩
      ))))))
 . (
 rw [Xt (show l.length<=k by omega)];rw [Xt (show l.length<=k by omega)] at hpl;have hFp:=Zpa (op:=op) hF;refine ZU ?_;refine Ja (fun h4:Value=>⟨[(0, .int .i64 op,Zb op),(4,padd (sbase h4) 0, .val (padd (sbase h4) 0)),(5,hO, .val hO)],[(1000,hO, .own 51 3 (sS op (Kr op l)).length (Z9 (sS op (Kr op l)))),(4,h4, .own 51 3 1 [.val (.int .i64 0), .val (.string ByteArray.empty), .val (.slice none 0 0)])]⟩) ?_ ?_
 . refine cX ?_ ?_<;>intro hb37
   . (
 refine Wp ?_;refine GA [(1000,hO,PV.own 51 3 (Kr op l).length (Z9 (Kr op l))),(4,_,_)] sB ?_;refine RN [4] 39 (call225) (ZjL 226 (call226) hO (.func (.func 226) #[] #[]) (Kr op l) oM (fun x hx y hy=>ZqY x y (hFp x hx) (hFp y hy))) (fun v39 p39 h39 hR39=>?_);subst hR39;dsimp only [Kt];refine Zz (Wv (l:=1000) (p':= .own 51 3 (sS op (Kr op l)).length (Z9 (sS op (Kr op l)))) rfl (by unfold sS;rw [Qb hb37])) fun _=>?_;refine Zw ?_;exact YF _ sB sB)
   . (
 refine Zq (Wv (l:=1000) (p':= .own 51 3 (sS op (Kr op l)).length (Z9 (sS op (Kr op l)))) rfl (by unfold sS;rw [Qc oM])) fun _=>?_;refine nav ?_;exact YF _ sB sB)
 . rintro h4;have hsl:=Zq3 op (Kr op l);refine ZU ?_;refine Ja (fun q:Value×{h:Value//h.oneCell'=true}=>⟨[(0, .int .i64 op,Zb op),(4,padd (sbase q.1) 0, .val (padd (sbase q.1) 0)),(5,q.2.1, .val q.2.1)],[(1000,q.2.1, .own 51 3 (Rt op (Kr op l)).length (Z9 (Rt op (Kr op l)))),(4,q.1, .own 51 3 1 [.val (.int .i64 0), .val (.string ByteArray.empty), .val (.slice none 0 0)])]⟩) ?_ ?_
   . refine cX ?_ ?_<;>intro hb41
     . (
 (have hasc:AscT (sS op (Kr op l)):=by unfold sS;rw [Qb oM];exact Oc _);(have hord:Tf (sS op (Kr op l))=Rt op (Kr op l):=by unfold sS Rt;rw [Qb oM,Qb oM,Qc oM]);refine Wp ?_;refine GA [(1000,hO,PV.own 51 3 (sS op (Kr op l)).length (Z9 (sS op (Kr op l)))),(4,_,_)] sB ?_;refine RN [4] 43 (call227) (ZcW 228 (call228) (.func (.func 228) #[] #[]) (sS op (Kr op l)) oM hasc (fun x hx y hy=>Zo1 x y (hFp x (ZmE hx)) (hFp y (ZmE hy))) hO hOo) ?_;rintro v43 _ _ ⟨hv43,rfl,rfl⟩;refine Zz (Wv (l:=1000) (p':= .own 51 3 (Rt op (Kr op l)).length (Z9 (Rt op (Kr op l)))) rfl (by rw [hord])) fun _=>?_;refine ZP ?_
 first
 |exact YF (h4,⟨v43,hv43⟩) sB sB
 |exact YF (h4,⟨hO,hOo⟩) sB sB)
     . (
 refine Zq (Wv (l:=1000) (p':= .own 51 3 (Rt op (Kr op l)).length (Z9 (Rt op (Kr op l)))) rfl (by rw [Zq4 oM])) fun _=>?_;refine nav ?_
 first
 |exact YF (h4,⟨v43,hv43⟩) sB sB
 |exact YF (h4,⟨hO,hOo⟩) sB sB)
   . rintro ⟨h4,hP,hPo⟩;dsimp only;have hol:(Rt op (Kr op l)).length<=1000000:=XK (GB _) (XK (Zh1 _ _) (XK (ZcX _ _) hn));unfold RI;generalize Rt op (Kr op l)=p at hol ⊢;refine Zi ?_;refine xL 44 Za (xL 45 (WB 1000 OV) ?_);refine Ym ?_;refine WZ ?_ ?_<;>intro hb46
     . (
 obtain rfl:p=[]:=Xv oM;refine Zi ?_;refine xM (ZC ZbH) ?_;refine Zz (Hk (t:=48) (p':=pTr Hg) rfl Et) fun _=>?_;refine Zp 4 G8 ?_;refine Zw ?_;exact YQ (k:=3) 4 kR (results183) rfl rfl (Xa rfl) dC rfl rfl)
     . (
 refine Kj ?_ ?_<;>intro hb49
 . (
 obtain ⟨x,rfl⟩:∃x,p=[x]:=by
  match p,hb49 with
  |[],h=>simp at h
  |[x],_=>exact ⟨x,rfl⟩
  |_::_::_,h=>simp at h;omega
 have e1:((Z9 [x]).drop (0*3)).take 3=cN x:=Ye (k:=0) rfl;have e2:0*3+3<=(Z9 [x]).length:=YH (k:=0) (x:=x) rfl;refine Zi ?_;refine xL 51 Za (xL 52 (Zj 1000 OV) ?_);refine yU (Zn 1000 G8) fun v53=>?_;refine Zp 4 G8 ?_;refine Zw ?_;exact YQ (k:=3) 4 kR (results183) rfl rfl (Xa rfl) dC rfl rfl)
 . (
 refine nav ?_;refine Zq (En.freeze (l:=1000) (t:=5) rfl rfl) fun _=>?_;rw [JC _ _ _ rfl];refine Zo ?_;refine xL 54 Za (xL 55 Za (xL 56 (ZC ZbH) ?_));refine Zp 4 G8 ?_;refine Zw ?_;refine YQ (k:=3) 4 kR (results183) rfl rfl (Xa rfl) dC rfl ?_;match p,hb46,hb49 with
 |[],h,_=>simp at h
 |[x],_,h=>simp at h
 |x::y::r,_,_=>rfl)))
theorem ZR:AggT prog 51 3=true:=kR
theorem Si:ElT prog 49 51 3 48 (.agg #[(.int .i64 0),(.string ByteArray.empty),(.slice none 0 0)]):=⟨underlying49,by kernel_rfl,rfl,dC⟩
theorem KD:FldT prog 51 0 0=true:=kR
theorem Cg:FldT prog 51 1 1=true:=kR
theorem TL:FldT prog 51 2 2=true:=kR
theorem Gl:NoAgg prog 3=true:=kR
theorem RQ:NoAgg prog 49=true:=kR
theorem Zeu:NoAgg prog 9=true:=kR
theorem J2:SlT prog 49 51 3=true:=kR
theorem Lk:Ge prog 51=some ((.agg #[(.int .i64 0),(.string ByteArray.empty),(.slice none 0 0)]),([0,1,2]:List Nat).map fun o=>(o,1)):=kR
theorem Jg:ZeroT prog 51 (.agg #[(.int .i64 0),(.string ByteArray.empty),(.slice none 0 0)]):=by unfold ZeroT;kernel_rfl
theorem OX (x y:Nd):PV.sl 2 ([x,y].flatMap cN)=YN [x,y]:=by
 unfold YN
 rw [W2];rfl
theorem ZcY (o:Int) (a:BA):Rr (.agg [Zb o,Zv a, .val (.slice none 0 0)]) (pTr (.mk o a [])):=Rr.agg rfl fun i x b ha hb=>by
 match i with
 |0=>cases ha;cases hb;exact Rr.rfl' _
 |1=>cases ha;cases hb;exact Rr.rfl' _
 |2=>cases ha;cases hb;exact Rr.nil
 |i+3=>simp at ha
theorem Zev {l:List Nd} {k:Nat} {x:Nd} (h:l[k]? =some x):(Kd l)[k]? =some (Yt x):=by
 rw [S8,Xl,h];rfl
theorem Zew (l:List Nd):(Kd l).length=l.length:=by rw [S8,Xc]
theorem RR {t:Nd} (h:rightT t=true) (h6:t.op=6):∃x y,t.l=[x,y]:=by
 unfold rightT at h
 rw [h6] at h
 simp at h
 match t.l,h.1 with
 |[x,y],_=>exact ⟨x,y,rfl⟩
theorem Sa {x y:Nd}:szL [x,y]=szT x+szT y:=by simp only [szL];omega
theorem ZjO : ∀ t : Nd,okT t=true->szT t<=1000000->AF prog 123 [pTr t] (· =pTr (Yt t)):=Nd.ind fun o a l ih hok hs=>by
 have e0:pTr (.mk o a l)= .agg [Zb o,Zv a,YN l]:=rfl
 rw [e0]
 obtain ⟨hr,hp⟩:=JU.1 hok
 have hf:=OW _ hok hs
 have hsz:=SE (.mk o a l)
 have hlz:=GB l
 have hops:=RJ hr
 simp only [Nd.l,Nd.op] at hp hsz hops
 have hnl:=Zew l
 have hnz:szL (Kd l)<=szL l:=by
  have:=Oh (.mk o a l);clear this e0 hr hf hsz hlz hnl;clear ih hok hs;induction l with
  |nil=>exact Xd _
  | cons x l ih2=>
    have h3:=Oh x;have h4:=ih2 (fun y hy=>hp y (Xs _ hy));rw [Kd,szL,szL];omega
 have hnf:∀y∈Kd l,FitT y:=fun y hy=>by
  rw [S8] at hy;obtain ⟨x,hx,rfl⟩:=Xp.1 hy;have:=Po hx;exact T9 (hp x hx) oM
 refine AF.b1 70 func123 rfl ntmps123 (Xa rfl) fun w0 M0 v0 _=>?_
 refine Zi ?_
 refine Yi 1 3 fun h1=>?_;refine Zt zT 3 2 Jg fun h2=>?_;refine Ym ?_;refine ZP ?_
 refine Zq (YS 200 51 3 rfl) fun _=>?_
 refine Zo ?_;refine xM (Zc 1 TL) ?_;refine yU (Zh 1 RQ) fun v9=>?_;refine xL 10 (Zs J2) (xL 11 Za ?_);refine Zw ?_
 refine Yq (ι:={q:Nat×Value//q.1<=l.length/\q.2.oneCell'=true}) (fun k=>⟨[(1,_,_),(2,_,_),(9,_,_),(10,_,_),(3,k.1.2, .val k.1.2),(11, .int .i64 k.1.1,Zb k.1.1)],[(1,_,_),(2,_,_),(200,k.1.2, .own 51 3 ((Kd l).take k.1.1).length (Z9 ((Kd l).take k.1.1)))]⟩) (fun k=>l.length-k.1.1) ⟨(0, .slice none 0 0),Xg _,rfl⟩ ?_
 rintro ⟨⟨k,hO⟩,hk,hOo⟩
 dsimp only
 dsimp only at hk hOo
 refine Yy ?_ ?_<;>intro hb12
 . (
 obtain ⟨x,hx⟩:=gS l k;have e1:((Z9 l).drop (k*3)).take 3=[Zb x.op,Zv x.act,YN x.l]:=Ye hx;have e2:=YH hx;have hxm:=Xb hx;have hxs:=Po hxm;have hsn:=Z2 (Zev hx);(have hsl:((Kd l).take (k+1)).length=((Kd l).take k).length+1:=by rw [hsn,Xf];rfl);(have hsl2:((Kd l).take k).length<=1000000:=by rw [XE];omega);refine Zi ?_;refine xM (Ze J2) ?_;refine yU (Wn ZR) fun v14=>?_;refine Zt zT 3 5 Jg fun h5=>?_;refine Zp 5 ZR ?_;refine Ym ?_;refine ZN ?_;refine yU (Zn 5 ZR) fun v16=>?_;refine cD (cA call123 (ih x hxm (hp x hxm) oM)) fun v17 hv17=>?_;clear hv17;refine WH 18 Si fun h18 ho18=>?_;refine Wc 200 18 19 Si fun h19 ho19=>?_;refine Zz (ZM (l:=19) 200 rfl rfl) fun _=>?_;refine Zz (Wv (l:=200) (p':= .own 51 3 ((Kd l).take (k+1)).length (Z9 ((Kd l).take (k+1)))) rfl (Eq.trans (congrArg (PV.own 51 3 _) (show _=Z9 ((Kd l).take k)++cN (Yt x) from rfl)) (by rw [Lj,<-hsn,hsl]))) fun _=>?_;refine JS ?_;refine Yr (
  ⟨(k+1,h19),Zd hx,ho19⟩
  ))
 . (
 rw [Xt (show (Kd l).length<=k by omega)];refine Zi ?_;refine xM (Zc 1 KD) ?_;refine yV (Zh 1 Gl) ?_;refine Ym ?_;refine WZ ?_ ?_<;>intro hb23
 . (
 refine nav ?_;refine cX ?_ ?_<;>intro hb23
 . (
 refine Zi ?_;refine xM (Zc 1 KD) ?_;refine yV (Zh 1 Gl) ?_;refine xM (Zc 1 Cg) ?_;refine yV (Zh 1 Zeu) ?_;refine xM (ZC Lk) ?_;refine Zz (Hk (t:=30) (p':=pTr (.mk o a [])) rfl (ZcY o a)) fun _=>?_;refine Zp 2 ZR ?_;refine Zw ?_;refine YQ (k:=3) 2 kR (results123) rfl rfl (Xa rfl) dC rfl ?_;rw [Yt,ζC,Qc oM];rfl)
 . (
 refine Kj ?_ ?_<;>intro hb31
 . (
 obtain ⟨f0,s0,hl2⟩:=RR hr (show o=6 from by omega);obtain rfl:l=[f0,s0]:=hl2;have ho6:o=6:=oM;(have hres:Yt (.mk o a [f0,s0])=ζB (Gh (Yt f0) (Yt s0)):=by rw [Yt,ζC,Qb oM,Qc ho6];rfl);have hF1:=Es (hp f0 sM);have hS1:=Es (hp s0 sM);have hFz:=Oh f0;have hSz:=Oh s0;have hfF:=hnf (Yt f0) (by simp [Kd]);have hfS:=hnf (Yt s0) (by simp [Kd]);rw [Sa] at hsz;have e3:((Z9 (Kd [f0,s0])).drop (0*3)).take 3=[Zb (Yt f0).op,Zv (Yt f0).act,YN (Yt f0).l]:=Ye (k:=0) rfl;have e4:0*3+3<=(Z9 (Kd [f0,s0])).length:=YH (k:=0) (x:=Yt f0) rfl;have e5:((Z9 (Kd [f0,s0])).drop (1*3)).take 3=[Zb (Yt s0).op,Zv (Yt s0).act,YN (Yt s0).l]:=Ye (k:=1) rfl;have e6:1*3+3<=(Z9 (Kd [f0,s0])).length:=YH (k:=1) (x:=Yt s0) rfl;refine nav ?_;refine Ja (fun q:Value×Value×Value=>⟨[(2,padd (sbase q.1) 0, .val (padd (sbase q.1) 0)),(6,padd (sbase q.2.1) 0, .val (padd (sbase q.2.1) 0)),(7,padd (sbase q.2.2) 0, .val (padd (sbase q.2.2) 0))],[(2,q.1, .own 51 3 1 [.val (.int .i64 0), .val (.string ByteArray.empty), .val (.slice none 0 0)]),(6,q.2.1, .own 51 3 1 [Zb (Yt f0).op,Zv (Yt f0).act,YN (Yt f0).l]),(7,q.2.2, .own 51 3 1 [Zb (Yt s0).op,Zv (Yt s0).act,YN (Yt s0).l])]⟩) ?_ ?_
 . (refine YJ [] [200] ?_<;>refine xD 0 rfl Za ?_<;>refine xD 1 rfl (Zj 200 J2) ?_<;>(refine yD 2 rfl (Zn 200 ZR) fun v35 h=>?_;cases h)<;>refine xD 3 rfl Za ?_<;>refine xD 4 rfl (Zj 200 J2) ?_<;>(refine yD 5 rfl (Zn 200 ZR) fun v38 h=>?_;cases h)<;>(refine WI 6 7 kR ?_ ?_;rotate_right;(focus ((refine aWr fun bk=>?_)<;>refine Zt zT 3 7 Jg fun h7=>?_<;>refine bE bk ?_<;>(refine aDr 6 fun bk=>?_)<;>refine Zt zT 3 6 Jg fun h6=>?_<;>refine bE bk ?_<;>(refine aDr 8 fun bk=>?_)<;>refine Zp 6 ZR ?_<;>refine bE bk ?_<;>(refine aDr 9 fun bk=>?_)<;>refine Zp 7 ZR ?_<;>refine bE bk ?_));rotate_right;(focus ((refine aWr fun bk=>?_)<;>refine Zt zT 3 6 Jg fun h6=>?_<;>refine bE bk ?_<;>(refine aDr 7 fun bk=>?_)<;>refine Zt zT 3 7 Jg fun h7=>?_<;>refine bE bk ?_<;>(refine aDr 8 fun bk=>?_)<;>refine Zp 6 ZR ?_<;>refine bE bk ?_<;>(refine aDr 9 fun bk=>?_)<;>refine Zp 7 ZR ?_<;>refine bE bk ?_)))<;>refine WE ?_)<;>(
 exact YF (_,_,_) ⟨rfl,rfl,rfl,trivial⟩ ⟨rfl,rfl,rfl,trivial⟩)
 . rintro ⟨h2,h6,h7⟩;dsimp only;clear e3 e4 e5 e6;generalize Yt f0=F at hres hF1 hFz hfF ⊢;generalize Yt s0=S at hres hS1 hSz hfS ⊢;refine Zi ?_;refine xM (Zc 6 KD) ?_;refine yV (Zh 6 Gl) ?_;refine ZP ?_;refine Ja (fun _:Unit=>⟨[(2,padd (sbase h2) 0, .val (padd (sbase h2) 0)),(6,padd (sbase h6) 0, .val (padd (sbase h6) 0)),(7,padd (sbase h7) 0, .val (padd (sbase h7) 0))],[(2,h2, .own 51 3 1 [.val (.int .i64 0), .val (.string ByteArray.empty), .val (.slice none 0 0)]),(6,h6, .own 51 3 1 (cN (Gh F S).1)),(7,h7, .own 51 3 1 (cN (Gh F S).2))]⟩) ?_ ?_
   . refine cX ?_ ?_<;>intro hb41
     . (
 obtain ⟨A,B,hAB⟩:=RR (JU.1 hF1).1 hb41;(have hlop:Gh F S=(A,RI 4 [B,S]):=by unfold Gh;rw [Qc hb41,hAB]);have hfA:=hfF.p A (by rw [hAB];simp);have hfB:=hfF.p B (by rw [hAB];simp);have hFe:=SE F;rw [hAB,Sa] at hFe;rw [hAB];have e3:((Z9 [A,B]).drop (0*3)).take 3=[Zb A.op,Zv A.act,YN A.l]:=Ye (k:=0) rfl;have e4:0*3+3<=(Z9 [A,B]).length:=YH (k:=0) (x:=A) rfl;have e5:((Z9 [A,B]).drop (1*3)).take 3=[Zb B.op,Zv B.act,YN B.l]:=Ye (k:=1) rfl;have e6:1*3+3<=(Z9 [A,B]).length:=YH (k:=1) (x:=B) rfl;have hj:=CU 4 [B,S] dC dC (fun x hx=>by simp only [Xh,UY,or_false] at hx;rcases hx with h|h<;>rw [h]<;>assumption) (by rw [Sa];omega);refine nav ?_;(refine YJ [11,12] [6,7] ?_<;>refine xDT 0 42 rfl (Zc 6 TL) ?_<;>(refine yDT 1 43 rfl (Zh 6 RQ) fun v43 h=>?_;cases h)<;>refine xDT 2 44 rfl (Ze J2) ?_<;>(refine yDT 3 45 rfl (Wn ZR) fun v45 h=>?_;cases h)<;>refine xDT 4 46 rfl (Zc 6 TL) ?_<;>(refine yDT 5 47 rfl (Zh 6 RQ) fun v47 h=>?_;cases h)<;>refine xDT 6 48 rfl (Ze J2) ?_<;>(refine yDT 7 49 rfl (Wn ZR) fun v49 h=>?_;cases h)<;>(refine yE 8 rfl (Zn 7 ZR) fun v50 h=>?_;cases h)<;>(refine aDr 9 fun bk=>?_)<;>(refine J' (kk:=3) (xs:=[_,_]) (cs:=[[_,_,_],[_,_,_]]) 51 Si fun h51 ho51=>?_;refine Zz (En.freeze (l:=51) (t:=51) rfl rfl) fun _=>?_;refine Zz (Ke (t:=51) (p':=YN [B,S]) rfl (Eq.trans (show _=PV.sl 2 ([B,S].flatMap cN) from rfl) (OX B S))) fun _=>?_)<;>refine bE bk ?_<;>(refine ZY 10 kR ?_)<;>(refine Yo (d:=52) rfl (cA (call183) hj) fun v52 h=>?_;cases h)<;>(refine ZY 11 kR ?_)<;>(refine Zem rfl rfl fun DQ bk=>?_)<;>refine Zp 6 ZR ?_<;>refine WA (bk _ ?_)<;>(refine ZhS 12 kR rfl rfl fun DQ bk=>?_)<;>refine Zp 7 ZR ?_<;>refine WA (bk _ ?_)<;>refine ZhT kR (nav ?_)<;>try dsimp only)
 refine ZK (Wv (l:=6) (p':= .own 51 3 1 (cN (Gh F S).1)) rfl (by rw [hlop];rfl)) fun _=>?_;refine ZK (Wv (l:=7) (p':= .own 51 3 1 (cN (Gh F S).2)) rfl (by rw [hlop];rfl)) fun _=>?_;exact YF () sB sB)
     . (
 (have hlop:Gh F S=(F,S):=by unfold Gh;rw [Qb hb41]);refine Zq (Wv (l:=6) (p':= .own 51 3 1 (cN (Gh F S).1)) rfl (by rw [hlop];rfl)) fun _=>?_;refine Zq (Wv (l:=7) (p':= .own 51 3 1 (cN (Gh F S).2)) rfl (by rw [hlop];rfl)) fun _=>?_;refine nav ?_;exact YF () sB sB)
   . rintro _;unfold ζB at hres;generalize (Gh F S).1=X at hres ⊢;generalize (Gh F S).2=Y at hres ⊢;have ec:∀t:Nd,cN t=[Zb t.op,Zv t.act,YN t.l]:=fun _=>rfl;rw [ec,ec];refine Zi ?_;(refine xM (Zc 6 KD) ?_<;>refine yV (Zh 6 Gl) ?_<;>refine ZO ?_<;>(refine bLd 56 (fun hb56=>?_) (fun hb56=>?_)<;>(first|refine kL ?_|refine xM (Zc 7 KD) ?_))<;>(first|refine kL ?_|refine yV (Zh 7 Gl) ?_)<;>refine kZ ?_<;>refine ZN ?_<;>refine Zw ?_)<;>(
 refine cX ?_ ?_<;>intro hb60
 . first|exact bN hb60|(
 rw [Qc oM] at hres;refine Zi ?_;refine xM (ZC Lk) ?_;refine Zz (Hk (t:=61) (p':=pTr Hg) rfl Et) fun _=>?_;refine Zp 2 ZR ?_;refine Zw ?_;refine YQ (k:=3) 2 kR (results123) rfl rfl (Xa rfl) dC rfl ?_;rw [hres];rfl)
 . (
 rw [Qb oM] at hres;refine Zi ?_;refine yU (Zn 6 ZR) fun v62=>?_;refine yU (Zn 7 ZR) fun v63=>?_;refine J' (kk:=3) (xs:=[_,_]) (cs:=[[_,_,_],[_,_,_]]) 64 Si fun h64 ho64=>?_;refine Zz (En.freeze (l:=64) (t:=64) rfl rfl) fun _=>?_;refine Zz (Ke (t:=64) (p':=YN [X,Y]) rfl (Eq.trans (show _=PV.sl 2 ([X,Y].flatMap cN) from rfl) (OX X Y))) fun _=>?_;refine xM (ZC Lk) ?_;refine Zp 2 ZR ?_;refine Zw ?_;refine YQ (k:=3) 2 kR (results123) rfl rfl (Xa rfl) dC rfl ?_;rw [hres];rfl)))
 . (
 refine nav ?_;refine Zq (En.freeze (l:=200) (t:=3) rfl rfl) fun _=>?_;rw [JC _ _ _ rfl];refine Zo ?_;refine xM (Zc 1 KD) ?_;refine yV (Zh 1 Gl) ?_;refine ZN ?_;refine cD (cA call183 (CU o (Kd l) oM oM hnf oM)) fun v69 hv69=>?_;clear hv69;refine Zp 2 ZR ?_;refine Zw ?_;refine YQ (k:=3) 2 kR (results123) rfl rfl (Xa rfl) dC rfl ?_;rw [Yt,ζC,Qb oM,Qb oM];rfl)))
 . (
 refine Kj ?_ ?_<;>intro hb23
 . (
 refine Zi ?_;refine xM (Zc 1 KD) ?_;refine yV (Zh 1 Gl) ?_;refine xM (Zc 1 Cg) ?_;refine yV (Zh 1 Zeu) ?_;refine xM (ZC Lk) ?_;refine Zz (Hk (t:=30) (p':=pTr (.mk o a [])) rfl (ZcY o a)) fun _=>?_;refine Zp 2 ZR ?_;refine Zw ?_;refine YQ (k:=3) 2 kR (results123) rfl rfl (Xa rfl) dC rfl ?_;rw [Yt,ζC,Qc oM];rfl)
 . (
 refine Kj ?_ ?_<;>intro hb31
 . (
 obtain ⟨f0,s0,hl2⟩:=RR hr (show o=6 from by omega);obtain rfl:l=[f0,s0]:=hl2;have ho6:o=6:=oM;(have hres:Yt (.mk o a [f0,s0])=ζB (Gh (Yt f0) (Yt s0)):=by rw [Yt,ζC,Qb oM,Qc ho6];rfl);have hF1:=Es (hp f0 sM);have hS1:=Es (hp s0 sM);have hFz:=Oh f0;have hSz:=Oh s0;have hfF:=hnf (Yt f0) (by simp [Kd]);have hfS:=hnf (Yt s0) (by simp [Kd]);rw [Sa] at hsz;have e3:((Z9 (Kd [f0,s0])).drop (0*3)).take 3=[Zb (Yt f0).op,Zv (Yt f0).act,YN (Yt f0).l]:=Ye (k:=0) rfl;have e4:0*3+3<=(Z9 (Kd [f0,s0])).length:=YH (k:=0) (x:=Yt f0) rfl;have e5:((Z9 (Kd [f0,s0])).drop (1*3)).take 3=[Zb (Yt s0).op,Zv (Yt s0).act,YN (Yt s0).l]:=Ye (k:=1) rfl;have e6:1*3+3<=(Z9 (Kd [f0,s0])).length:=YH (k:=1) (x:=Yt s0) rfl;refine nav ?_;refine Ja (fun q:Value×Value×Value=>⟨[(2,padd (sbase q.1) 0, .val (padd (sbase q.1) 0)),(6,padd (sbase q.2.1) 0, .val (padd (sbase q.2.1) 0)),(7,padd (sbase q.2.2) 0, .val (padd (sbase q.2.2) 0))],[(2,q.1, .own 51 3 1 [.val (.int .i64 0), .val (.string ByteArray.empty), .val (.slice none 0 0)]),(6,q.2.1, .own 51 3 1 [Zb (Yt f0).op,Zv (Yt f0).act,YN (Yt f0).l]),(7,q.2.2, .own 51 3 1 [Zb (Yt s0).op,Zv (Yt s0).act,YN (Yt s0).l])]⟩) ?_ ?_
 . (refine YJ [] [200] ?_<;>refine xD 0 rfl Za ?_<;>refine xD 1 rfl (Zj 200 J2) ?_<;>(refine yD 2 rfl (Zn 200 ZR) fun v35 h=>?_;cases h)<;>refine xD 3 rfl Za ?_<;>refine xD 4 rfl (Zj 200 J2) ?_<;>(refine yD 5 rfl (Zn 200 ZR) fun v38 h=>?_;cases h)<;>(refine WI 6 7 kR ?_ ?_;rotate_right;(focus ((refine aWr fun bk=>?_)<;>refine Zt zT 3 7 Jg fun h7=>?_<;>refine bE bk ?_<;>(refine aDr 6 fun bk=>?_)<;>refine Zt zT 3 6 Jg fun h6=>?_<;>refine bE bk ?_<;>(refine aDr 8 fun bk=>?_)<;>refine Zp 6 ZR ?_<;>refine bE bk ?_<;>(refine aDr 9 fun bk=>?_)<;>refine Zp 7 ZR ?_<;>refine bE bk ?_));rotate_right;(focus ((refine aWr fun bk=>?_)<;>refine Zt zT 3 6 Jg fun h6=>?_<;>refine bE bk ?_<;>(refine aDr 7 fun bk=>?_)<;>refine Zt zT 3 7 Jg fun h7=>?_<;>refine bE bk ?_<;>(refine aDr 8 fun bk=>?_)<;>refine Zp 6 ZR ?_<;>refine bE bk ?_<;>(refine aDr 9 fun bk=>?_)<;>refine Zp 7 ZR ?_<;>refine bE bk ?_)))<;>refine WE ?_)<;>(
 exact YF (_,_,_) ⟨rfl,rfl,rfl,trivial⟩ ⟨rfl,rfl,rfl,trivial⟩)
 . rintro ⟨h2,h6,h7⟩;dsimp only;clear e3 e4 e5 e6;generalize Yt f0=F at hres hF1 hFz hfF ⊢;generalize Yt s0=S at hres hS1 hSz hfS ⊢;refine Zi ?_;refine xM (Zc 6 KD) ?_;refine yV (Zh 6 Gl) ?_;refine ZP ?_;refine Ja (fun _:Unit=>⟨[(2,padd (sbase h2) 0, .val (padd (sbase h2) 0)),(6,padd (sbase h6) 0, .val (padd (sbase h6) 0)),(7,padd (sbase h7) 0, .val (padd (sbase h7) 0))],[(2,h2, .own 51 3 1 [.val (.int .i64 0), .val (.string ByteArray.empty), .val (.slice none 0 0)]),(6,h6, .own 51 3 1 (cN (Gh F S).1)),(7,h7, .own 51 3 1 (cN (Gh F S).2))]⟩) ?_ ?_
   . refine cX ?_ ?_<;>intro hb41
     . (
 obtain ⟨A,B,hAB⟩:=RR (JU.1 hF1).1 hb41;(have hlop:Gh F S=(A,RI 4 [B,S]):=by unfold Gh;rw [Qc hb41,hAB]);have hfA:=hfF.p A (by rw [hAB];simp);have hfB:=hfF.p B (by rw [hAB];simp);have hFe:=SE F;rw [hAB,Sa] at hFe;rw [hAB];have e3:((Z9 [A,B]).drop (0*3)).take 3=[Zb A.op,Zv A.act,YN A.l]:=Ye (k:=0) rfl;have e4:0*3+3<=(Z9 [A,B]).length:=YH (k:=0) (x:=A) rfl;have e5:((Z9 [A,B]).drop (1*3)).take 3=[Zb B.op,Zv B.act,YN B.l]:=Ye (k:=1) rfl;have e6:1*3+3<=(Z9 [A,B]).length:=YH (k:=1) (x:=B) rfl;have hj:=CU 4 [B,S] dC dC (fun x hx=>by simp only [Xh,UY,or_false] at hx;rcases hx with h|h<;>rw [h]<;>assumption) (by rw [Sa];omega);refine nav ?_;(refine YJ [11,12] [6,7] ?_<;>refine xDT 0 42 rfl (Zc 6 TL) ?_<;>(refine yDT 1 43 rfl (Zh 6 RQ) fun v43 h=>?_;cases h)<;>refine xDT 2 44 rfl (Ze J2) ?_<;>(refine yDT 3 45 rfl (Wn ZR) fun v45 h=>?_;cases h)<;>refine xDT 4 46 rfl (Zc 6 TL) ?_<;>(refine yDT 5 47 rfl (Zh 6 RQ) fun v47 h=>?_;cases h)<;>refine xDT 6 48 rfl (Ze J2) ?_<;>(refine yDT 7 49 rfl (Wn ZR) fun v49 h=>?_;cases h)<;>(refine yE 8 rfl (Zn 7 ZR) fun v50 h=>?_;cases h)<;>(refine aDr 9 fun bk=>?_)<;>(refine J' (kk:=3) (xs:=[_,_]) (cs:=[[_,_,_],[_,_,_]]) 51 Si fun h51 ho51=>?_;refine Zz (En.freeze (l:=51) (t:=51) rfl rfl) fun _=>?_;refine Zz (Ke (t:=51) (p':=YN [B,S]) rfl (Eq.trans (show _=PV.sl 2 ([B,S].flatMap cN) from rfl) (OX B S))) fun _=>?_)<;>refine bE bk ?_<;>(refine ZY 10 kR ?_)<;>(refine Yo (d:=52) rfl (cA (call183) hj) fun v52 h=>?_;cases h)<;>(refine ZY 11 kR ?_)<;>(refine Zem rfl rfl fun DQ bk=>?_)<;>refine Zp 6 ZR ?_<;>refine WA (bk _ ?_)<;>(refine ZhS 12 kR rfl rfl fun DQ bk=>?_)<;>refine Zp 7 ZR ?_<;>refine WA (bk _ ?_)<;>refine ZhT kR (nav ?_)<;>try dsimp only)
 refine ZK (Wv (l:=6) (p':= .own 51 3 1 (cN (Gh F S).1)) rfl (by rw [hlop];rfl)) fun _=>?_;refine ZK (Wv (l:=7) (p':= .own 51 3 1 (cN (Gh F S).2)) rfl (by rw [hlop];rfl)) fun _=>?_;exact YF () sB sB)
     . (
 (have hlop:Gh F S=(F,S):=by unfold Gh;rw [Qb hb41]);refine Zq (Wv (l:=6) (p':= .own 51 3 1 (cN (Gh F S).1)) rfl (by rw [hlop];rfl)) fun _=>?_;refine Zq (Wv (l:=7) (p':= .own 51 3 1 (cN (Gh F S).2)) rfl (by rw [hlop];rfl)) fun _=>?_;refine nav ?_;exact YF () sB sB)
   . rintro _;unfold ζB at hres;generalize (Gh F S).1=X at hres ⊢;generalize (Gh F S).2=Y at hres ⊢;have ec:∀t:Nd,cN t=[Zb t.op,Zv t.act,YN t.l]:=fun _=>rfl;rw [ec,ec];refine Zi ?_;(refine xM (Zc 6 KD) ?_<;>refine yV (Zh 6 Gl) ?_<;>refine ZO ?_<;>(refine bLd 56 (fun hb56=>?_) (fun hb56=>?_)<;>(first|refine kL ?_|refine xM (Zc 7 KD) ?_))<;>(first|refine kL ?_|refine yV (Zh 7 Gl) ?_)<;>refine kZ ?_<;>refine ZN ?_<;>refine Zw ?_)<;>(
 refine cX ?_ ?_<;>intro hb60
 . first|exact bN hb60|(
 rw [Qc oM] at hres;refine Zi ?_;refine xM (ZC Lk) ?_;refine Zz (Hk (t:=61) (p':=pTr Hg) rfl Et) fun _=>?_;refine Zp 2 ZR ?_;refine Zw ?_;refine YQ (k:=3) 2 kR (results123) rfl rfl (Xa rfl) dC rfl ?_;rw [hres];rfl)
 . (
 rw [Qb oM] at hres;refine Zi ?_;refine yU (Zn 6 ZR) fun v62=>?_;refine yU (Zn 7 ZR) fun v63=>?_;refine J' (kk:=3) (xs:=[_,_]) (cs:=[[_,_,_],[_,_,_]]) 64 Si fun h64 ho64=>?_;refine Zz (En.freeze (l:=64) (t:=64) rfl rfl) fun _=>?_;refine Zz (Ke (t:=64) (p':=YN [X,Y]) rfl (Eq.trans (show _=PV.sl 2 ([X,Y].flatMap cN) from rfl) (OX X Y))) fun _=>?_;refine xM (ZC Lk) ?_;refine Zp 2 ZR ?_;refine Zw ?_;refine YQ (k:=3) 2 kR (results123) rfl rfl (Xa rfl) dC rfl ?_;rw [hres];rfl)))
 . (
 refine nav ?_;refine Zq (En.freeze (l:=200) (t:=3) rfl rfl) fun _=>?_;rw [JC _ _ _ rfl];refine Zo ?_;refine xM (Zc 1 KD) ?_;refine yV (Zh 1 Gl) ?_;refine ZN ?_;refine cD (cA call183 (CU o (Kd l) oM oM hnf oM)) fun v69 hv69=>?_;clear hv69;refine Zp 2 ZR ?_;refine Zw ?_;refine YQ (k:=3) 2 kR (results123) rfl rfl (Xa rfl) dC rfl ?_;rw [Yt,ζC,Qb oM,Qb oM];rfl))))
def TM (t:Nd):PV×Int:=if Gc t=true then (if Gc (Yt t)=true then (pTr (Yt t),0) else (GO,5)) else (GO,1)
theorem Zgs (t:Nd) (hf:FitT t):AF prog 80 [pTr t] (· = .tup [(TM t).1,Zb (TM t).2]):=by
 refine AF.b1 16 func80 rfl ntmps80 (Xa rfl) fun w0 M0 v0 _=>?_
 have e0:pTr t= .agg [Zb t.op,Zv t.act,YN t.l]:=rfl
 rw [e0]
 refine Zi ?_
 refine Yi 1 3 fun h1=>?_;refine Zt zT 3 2 Jg fun h2=>?_;refine ZX ?_
 refine yU (Zn 1 ZR) fun v5=>?_;refine cV (cA call79 (Hj t hf)) ?_;refine Wl ?_ ?_<;>intro hb7
 . (
 refine Zi ?_;refine xM (ZC Lk) ?_;refine Zp 2 ZR ?_;refine ZP ?_;refine Yb (k:=3) 2 kR (results80) rfl rfl rfl (Xa rfl) dC rfl ?_;rw [show TM t=(GO,1) by unfold TM;rw [Qb (by simpa using hb7)]];rfl)
 . (
 (have hv:Gc t=true:=by simpa using hb7);have hsz:=ζy hv;have hok:=ζx hv;have hfn:=T9 hok oM;refine Zi ?_;refine yU (Zn 1 ZR) fun v9=>?_;refine cD (cA call123 (ZjO t hok oM)) fun v10 hv10=>?_;clear hv10;refine Zt zT 3 4 Jg fun h4=>?_;refine Zp 4 ZR ?_;refine Zw ?_;have e1:cN (Yt t)=[Zb (Yt t).op,Zv (Yt t).act,YN (Yt t).l]:=rfl;refine Zo ?_;refine yU (Zn 4 ZR) fun v11=>?_;refine cV (cA call79 (Hj (Yt t) hfn)) ?_;refine Wl ?_ ?_<;>intro hb13
 . (
 refine Zi ?_;refine xM (ZC Lk) ?_;refine Zp 2 ZR ?_;refine ZP ?_;refine Yb (k:=3) 2 kR (results80) rfl rfl rfl (Xa rfl) dC rfl ?_;rw [show TM t=(GO,5) by unfold TM;rw [Qc hv,Qb (by simpa using hb13)]];rfl)
 . (
 refine Zi ?_;refine yU (Zn 4 ZR) fun v15=>?_;refine Zp 2 ZR ?_;refine ZP ?_;refine Yb (k:=3) 2 kR (results80) rfl rfl rfl (Xa rfl) dC rfl ?_;rw [show TM t=(pTr (Yt t),0) by unfold TM;rw [Qc hv,Qc (by simpa using hb13)]];rfl))
theorem Tj:AggT prog 51 3=true:=kR
theorem Ku:ElT prog 49 51 3 48 (.agg #[(.int .i64 0),(.string ByteArray.empty),(.slice none 0 0)]):=⟨underlying49,by kernel_rfl,rfl,dC⟩
theorem Zex:FldT prog 51 0 0=true:=kR
theorem Zey:FldT prog 51 2 2=true:=kR
theorem ZmF:NoAgg prog 3=true:=kR
theorem ZjP:NoAgg prog 49=true:=kR
theorem J3:SlT prog 49 51 3=true:=kR
theorem Zgt (x:Nd):∀(m:List Nd) (k:Nat),k<=m.length->(∀j y,j<k->m[j]? =some y->WF y x<0)->(∀y,m[k]? =some y->¬WF y x<0)->Ob x m=m.take k++[x]++m.drop k
 | [],k,hk,_,_=>by
   have:k=0:=by simpa using hk
   subst this;rfl
 | y::m,0,_,_,h2=>by
   rw [Ob,Qb (h2 y rfl)];rfl
 | y::m,k+1,hk,h1,h2=>by
   rw [Ob,Qc (h1 0 y oM rfl),Zgt x m k (by simpa using hk) (fun j z hj hz=>h1 (j+1) z oM (by simpa using hz)) (fun z hz=>h2 z (by simpa using hz))];rfl
theorem Zgu (x:Nd):∀(m:List Nd) (k:Nat),k<=m.length->(∀j y,j<k->m[j]? =some y->WF y x<0)->(∀y,m[k]? =some y->¬WF y x<0/\¬WF y x=0)->SB x m=m.take k++[x]++m.drop k
 | [],k,hk,_,_=>by
   have:k=0:=by simpa using hk
   subst this;rfl
 | y::m,0,_,_,h2=>by
   rw [SB,Qb (h2 y rfl).1,Qb (h2 y rfl).2];rfl
 | y::m,k+1,hk,h1,h2=>by
   rw [SB,Qc (h1 0 y oM rfl),Zgu x m k (by simpa using hk) (fun j z hj hz=>h1 (j+1) z oM (by simpa using hz)) (fun z hz=>h2 z (by simpa using hz))];rfl
theorem Zez (x:Nd):∀(m:List Nd) (k:Nat) (y:Nd),(∀j y,j<k->m[j]? =some y->WF y x<0)->m[k]? =some y->WF y x=0->SB x m=m
 |[],k,y,_,h,_=>by simp at h
 | z::m,0,y,_,h,h2=>by
   cases h;rw [SB,Qb oM,Qc h2]
 | z::m,k+1,y,h1,h,h2=>by
   rw [SB,Qc (h1 0 z oM rfl),Zez x m k y (fun j z hj hz=>h1 (j+1) z oM (by simpa using hz)) (by simpa using h) h2]
theorem ζP {m:List Nd} {k:Nat} (hk:k<=m.length):PV.sl (k-0) (((Z9 m).drop (0*3)).take ((k-0)*3))=YN (m.take k):=by
 unfold YN
 rw [Vx,X8,Vc,W2,Dz Ru,<-W2,XE,Vf hk]
theorem ζQ {α β:Type} {f:α->List β} {m:Nat} (hf:∀x,(f x).length=m):∀(L:List α) (k:Nat),(L.flatMap f).drop (k*m)=(L.drop k).flatMap f
 |[],k=>sM
 |x::L,0=>sM
 | x::L,k+1=>by
   rw [List.drop_succ_cons,Xr,<-ζQ hf L k,List.drop_append,List.drop_of_length_le (by rw [hf,X3];omega),hf,show (k+1)*m-m=k*m by rw [X3];omega,XX]
theorem ζR {m:List Nd} {k:Nat} (hk:k<=m.length):PV.sl (m.length-k) (((Z9 m).drop (k*3)).take ((m.length-k)*3))=YN (m.drop k):=by
 unfold YN
 rw [W2,ζQ Ru,Xt (by rw [Ya Ru,Vu];omega),<-W2,Vu]
theorem ζS (m:List Nd) (x:Nd) (b:Bool) (hm:∀y∈m,FitT y) (hx:FitT x) (hl:m.length<=1000000):AF prog 239 [YN m,pTr x,Zr b] (· =YN (if b=true then SB x m else Ob x m)):=by
 have ex:pTr x= .agg [Zb x.op,Zv x.act,YN x.l]:=rfl
 rw [ex]
 have hcl:(Z9 m).length=m.length*3:=TK m
 refine AF.b3 54 func239 rfl ntmps239 (Xa rfl) ?_
 rintro w0 M0 v0 v1 _- -rfl
 refine Zi ?_
 refine Yi 4 3 fun h4=>?_;refine KA ?_
 refine Yq (ι:={k:Nat//k<=m.length/\∀j y,j<k->m[j]? =some y->WF y x<0}) (fun k=>⟨[(0,_,_),(2,_,_),(4,_,_),(7, .int .i64 k.1,Zb k.1)],[(4,_,_)]⟩) (fun k=>m.length-k.1) ⟨0,Xg _,fun j y h=>oM⟩ ?_
 rintro ⟨k,hk,hlt⟩
 dsimp only
 refine nav ?_
 (refine YJ [] [4] ?_<;>refine xD 0 rfl Za ?_<;>refine xE 1 rfl Za ?_<;>refine xE 2 rfl (Zs J3) ?_<;>refine xE 3 rfl Yj ?_<;>refine xE 4 rfl Za ?_<;>(refine bDd 13 (fun hb13=>?_) (fun hb13=>?_)<;>(first|refine kD 5 ?_|(obtain ⟨y,hy⟩:=gS m k;have e1:=Ye hy;have e2:=YH hy;refine xD 5 rfl Za ?_)))<;>(first|refine kD 6 ?_|refine xD 6 rfl Za ?_)<;>(first|refine kD 7 ?_|refine xD 7 rfl (Ze J3) ?_)<;>(first|refine kD 8 ?_|(refine yD 8 rfl (Wn Tj) fun v17 h=>?_;cases h))<;>(first|refine kD 9 ?_|(refine yD 9 rfl (Zn 4 Tj) fun v18 h=>?_;cases h))<;>(refine ZY 10 kR ?_)<;>(first|(refine Yo (d:=19) rfl (cA (call274) (ZbG y x (hm y (Xb hy)) hx)) fun v19 h=>?_;cases h)|(refine aWr fun bk=>?_;refine kL ?_;refine bE bk ?_))<;>(first|refine kD 11 ?_|refine xD 11 rfl Yj ?_)<;>refine xE 12 rfl YY ?_<;>refine WE ?_)<;>(
 refine cX ?_ ?_<;>intro hb21
 . first|exact bN hb21|(
 refine Y2 ?_;refine Yr (
  ⟨k+1,Zd hy,fun j z h1 h2=>by
   by_cases e:j=k
   . subst e;rw [hy] at h2;cases h2;omega
   . exact hlt j z oM h2⟩
  ))
 . (
 refine nav ?_;have hge:∀y,m[k]? =some y->¬WF y x<0:=by
  first
  |exact fun z h=>by rw [hy] at h;cases h;omega
  |exact fun z h=>by have:=Zd h;omega
 have f1:(Z9 (m.take k)).length=(m.take k).length*3:=TK _;have f2:=T' (m.take k);have f3:(Z9 (m.drop k)).length=(m.drop k).length*3:=TK _;have f4:=T' (m.drop k);(have hkl:(m.take k).length=k:=by rw [XE];omega);have hdl:(m.drop k).length=m.length-k:=Vu;(refine YJ [] [4] ?_<;>refine xE 0 rfl Za ?_<;>refine xE 1 rfl Za ?_<;>(refine bD 25 (fun hb25=>?_) (fun hb25=>?_)<;>(first|refine kD 2 ?_|refine xD 2 rfl Za ?_))<;>(first|refine kD 3 ?_|refine xD 3 rfl Za ?_)<;>(first|refine kD 4 ?_|refine xD 4 rfl (Zs J3) ?_)<;>(first|refine kD 5 ?_|refine xD 5 rfl Yj ?_)<;>refine xE 6 rfl YY ?_<;>refine xE 7 rfl Za ?_<;>(first|refine kD 8 ?_|(refine bDd 31 (fun hb31=>?_) (fun hb31=>?_)<;>(first|refine kD 8 ?_|(obtain ⟨y,hy⟩:=gS m k;have e1:=Ye hy;have e2:=YH hy;refine xD 8 rfl Za ?_))))<;>(first|refine kD 9 ?_|refine xD 9 rfl Za ?_)<;>(first|refine kD 10 ?_|refine xD 10 rfl (Ze J3) ?_)<;>(first|refine kD 11 ?_|(refine yD 11 rfl (Wn Tj) fun v35 h=>?_;cases h))<;>(first|refine kD 12 ?_|(refine yD 12 rfl (Zn 4 Tj) fun v36 h=>?_;cases h))<;>(refine ZY 13 kR ?_)<;>(first|(refine Yo (d:=37) rfl (cA (call274) (ZbG y x (hm y (Xb hy)) hx)) fun v37 h=>?_;cases h)|(refine aWr fun bk=>?_;refine kL ?_;refine bE bk ?_))<;>(first|refine kD 14 ?_|refine xD 14 rfl Ky ?_)<;>refine xE 15 rfl YY ?_<;>refine WE ?_)<;>(
 refine Ja (fun _:{u:Unit//(if b=true then SB x m else Ob x m)=m.take k++[x]++m.drop k}=>⟨[(0,v0,YN m),(4,padd (sbase h4) 0, .val (padd (sbase h4) 0)),(7, .int .i64 (k:Nat),Zb (k:Nat))],[(4,h4, .own 51 3 1 [Zb x.op,Zv x.act,YN x.l])]⟩) ?_ ?_
 . refine cX ?_ ?_<;>intro hb39
   . first|exact bN hb39|(
 refine ZU ?_;refine Zg (results239) rfl ?_;rw [Qc (by assumption),Zez x m k y hlt hy (by assumption)])
   . (
 refine nav ?_;have hres:(if b=true then SB x m else Ob x m)=m.take k++[x]++m.drop k:=by
  first
  |(rw [Qc hb25];exact Zgu x m k hk hlt fun z h=>⟨hge z h,by rw [hy] at h;cases h;exact hb39⟩)
  |(rw [Qc hb25];exact Zgu x m k hk hlt fun z h=>by have:=Zd h;omega)
  |(rw [Qb (by simpa using hb25)];exact Zgt x m k hk hlt hge)
  |(rw [Qb (by rw [hb25];decide)];exact Zgt x m k hk hlt hge)
 exact YF ⟨(),hres⟩ sB sB)
 . rintro ⟨_,hres⟩;refine nav ?_;refine Ja (fun h:Value=>⟨[(0,v0,YN m),(7, .int .i64 (k:Nat),Zb (k:Nat)),(8,h, .val h)],[(48,h, .own 51 3 (m.take k++[x]).length (Z9 (m.take k++[x])))]⟩) ?_ ?_
   . (refine YJ [] [4] ?_<;>refine xD 1 rfl Za ?_<;>refine xD 2 rfl Za ?_<;>refine xD 3 rfl (Wd (i:=0) (j:=k) J3 rfl rfl rfl rfl (Xg _) hk hcl) ?_<;>(refine yD 5 rfl (Zn 4 Tj) fun v46 h=>?_;cases h)<;>(refine WI 0 6 kR ?_ ?_;rotate_right;(focus ((refine aWr fun bk=>?_)<;>refine WH 47 Ku fun h47 ho47=>?_<;>refine bE bk ?_<;>(refine aDr 0 fun bk=>?_)<;>refine TX 41 Ku fun h41 ho41=>?_<;>refine bE bk ?_<;>(refine aDr 4 fun bk=>?_)<;>(refine Zz (Ke (t:=44) (p':=YN (m.take k)) rfl (ζP hk)) fun _=>?_;refine W5 41 45 Ku (fun h45 ho45=>?_) f1 f2)<;>refine bE bk ?_<;>(refine aDr 7 fun bk=>?_)<;>(refine Wc 45 47 48 Ku fun h48 ho48=>?_;refine Zz (Wv (l:=48) (p':= .own 51 3 (m.take k++[x]).length (Z9 (m.take k++[x]))) rfl (Eq.trans (show _=PV.own 51 3 (0+(m.take k).length+1) ([]++Z9 (m.take k)++cN x) from rfl) (by rw [XX,Lj,Xf,XA];rfl))) fun _=>?_)<;>refine bE bk ?_<;>refine xE 8 rfl ZJ ?_));rotate_right;(focus ((refine aWr fun bk=>?_)<;>refine TX 41 Ku fun h41 ho41=>?_<;>refine bE bk ?_<;>(refine WI 4 6 kR ?_ ?_;rotate_right;(focus ((refine aWr fun bk=>?_)<;>refine WH 47 Ku fun h47 ho47=>?_<;>refine bE bk ?_<;>(refine aDr 4 fun bk=>?_)<;>(refine Zz (Ke (t:=44) (p':=YN (m.take k)) rfl (ζP hk)) fun _=>?_;refine W5 41 45 Ku (fun h45 ho45=>?_) f1 f2)<;>refine bE bk ?_<;>(refine aDr 7 fun bk=>?_)<;>(refine Wc 45 47 48 Ku fun h48 ho48=>?_;refine Zz (Wv (l:=48) (p':= .own 51 3 (m.take k++[x]).length (Z9 (m.take k++[x]))) rfl (Eq.trans (show _=PV.own 51 3 (0+(m.take k).length+1) ([]++Z9 (m.take k)++cN x) from rfl) (by rw [XX,Lj,Xf,XA];rfl))) fun _=>?_)<;>refine bE bk ?_<;>refine xE 8 rfl ZJ ?_));rotate_right;(focus ((refine aWr fun bk=>?_)<;>(refine Zz (Ke (t:=44) (p':=YN (m.take k)) rfl (ζP hk)) fun _=>?_;refine W5 41 45 Ku (fun h45 ho45=>?_) f1 f2)<;>refine bE bk ?_<;>(refine aDr 6 fun bk=>?_)<;>refine WH 47 Ku fun h47 ho47=>?_<;>refine bE bk ?_<;>(refine aDr 7 fun bk=>?_)<;>(refine Wc 45 47 48 Ku fun h48 ho48=>?_;refine Zz (Wv (l:=48) (p':= .own 51 3 (m.take k++[x]).length (Z9 (m.take k++[x]))) rfl (Eq.trans (show _=PV.own 51 3 (0+(m.take k).length+1) ([]++Z9 (m.take k)++cN x) from rfl) (by rw [XX,Lj,Xf,XA];rfl))) fun _=>?_)<;>refine bE bk ?_<;>refine xE 8 rfl ZJ ?_))))))<;>refine WE ?_)<;>(
 exact YF h48 sB sB)
   . rintro h48;(have hxl:(m.take k++[x]).length=k+1:=by rw [Xf,hkl];rfl);refine WJ ?_;refine xM (Wd (i:=k) (j:=m.length) J3 rfl rfl rfl rfl hk (Xd _) hcl) ?_;refine Zz (Ke (t:=52) (p':=YN (m.drop k)) rfl (ζR hk)) fun _=>?_;refine W5 48 53 Ku (fun h53 ho53=>?_) f3 f4;refine ZP ?_;refine YO (En.freeze (l:=53) (t:=6) rfl rfl) fun _=>?_;refine Zg (results239) rfl ?_;rw [hres,ζO,<-Xf,JC _ _ _ rfl])))
theorem ZmG (op:Int) {l:List Nd} {k:Nat} {x:Nd} (h:l[k]? =some x):G5 op (l.take (k+1))=G5 op (l.take k)++(if x.op=op then x.l else [x]):=by
 unfold G5
 rw [Z2 h,XY,UC]
theorem ZcZ (op:Int) (l:List Nd):szL (G5 op l)<=szL l:=by
 induction l with
 |nil=>exact Xd _
 | cons x l ih=>
   unfold G5 at ih ⊢;rw [Xr,G4,szL];have:szL (if x.op=op then x.l else [x])<=szT x:=by
    split
    . rw [SE];omega
    . simp [szL]
   omega
theorem Hp (op:Int) (l:List Nd) (k:Nat):(G5 op (l.take k)).length<=szL l:=by
 have h1:=GB (G5 op (l.take k))
 have h2:=ZcZ op (l.take k)
 have h3:szL (l.take k)<=szL l:=by
  conv=>rhs;rw [<-Vy k l]
  rw [G4];omega
 omega
theorem Zh3 {op:Int} {l:List Nd} (h:∀x∈l,FitT x):∀y∈G5 op l,FitT y:=fun y hy=>by
 unfold G5 at hy
 obtain ⟨x,hx,h1⟩:=Um.1 hy
 split at h1
 . exact (h x hx).p y h1
 . rw [XC.1 h1];exact h x hx
theorem ZeA (l:List Nd) (op:Int) (hn:szL l<=1000000):AF prog 238 [YN l,Zb op] (· =YN (G5 op l)):=by
 have hll:l.length<=1000000:=XK (GB l) hn
 refine AF.b2 35 func238 rfl ntmps238 (Xa rfl) ?_
 rintro w0 M0 v0 _-rfl
 refine JR ?_
 refine Zq (YS 200 51 3 rfl) fun _=>?_
 refine Zo ?_;refine ZP ?_
 refine Yq (ι:={q:Nat×Value//q.1<=l.length/\q.2.oneCell'=true}) (fun k=>⟨[(0,_,_),(1,_,_),(5,k.1.2, .val k.1.2),(6, .int .i64 k.1.1,Zb k.1.1)],[(200,k.1.2, .own 51 3 (G5 op (l.take k.1.1)).length (Z9 (G5 op (l.take k.1.1))))]⟩) (fun k=>l.length-k.1.1) ⟨(0, .slice none 0 0),Xg _,rfl⟩ ?_
 rintro ⟨⟨k,hO⟩,hk,hOo⟩
 dsimp only
 dsimp only at hk hOo
 have hpl:=Hp op l k
 have hpl2:=Hp op l (k+1)
 refine Zi ?_
 refine xL 7 Za (xL 8 Za (xL 9 (Zs J3) (xL 10 Yj ?_)));refine ZE ?_ ?_<;>intro hb10
 . (
 obtain ⟨x,hx⟩:=gS l k;have e1:((Z9 l).drop (k*3)).take 3=[Zb x.op,Zv x.act,YN x.l]:=Ye hx;have e2:=YH hx;have hsn:=ZmG op hx;have f1:(Z9 x.l).length=x.l.length*3:=TK _;have f2:=T' x.l;(have g0:(Z9 l)[k*3+0]? =some (Zb x.op):=by rw [show k*3+0=k*3+0 from rfl,<-Vp,<-X1 (show 0<3 by decide),e1];rfl);(have g2:(Z9 l)[k*3+2]? =some (YN x.l):=by rw [<-Vp,<-X1 (show 2<3 by decide),e1];rfl);refine Zi ?_;refine xL 13 Za (xL 14 Za (xL 15 (Ze J3) (xL 16 (Yn Zex) ?_)));refine yV (Zu ZmF) ?_;refine WZ ?_ ?_<;>intro hb19
 . (
 rw [Qc hb19] at hsn;(have hsl:(G5 op (l.take (k+1))).length=(G5 op (l.take k)).length+x.l.length:=by rw [hsn,Xf]);refine Zi ?_;refine xL 20 Za (xL 21 Za (xL 22 Za (xL 23 (Ze J3) (xL 24 (Yn Zey) ?_))));refine yU (Zu ZjP) fun v25=>?_;refine W5 200 26 Ku (fun h26 ho26=>?_) f1 f2;refine Zz (ZM (l:=26) 200 rfl rfl) fun _=>?_;refine Zz (Wv (l:=200) (p':= .own 51 3 (G5 op (l.take (k+1))).length (Z9 (G5 op (l.take (k+1))))) rfl (by rw [ζO,<-hsn,hsl])) fun _=>?_;refine K5 ?_
 first
  | (exact Yr (
      ⟨(k+1,h26),Zd hx,ho26⟩
      ))
  | (exact Yr (
      ⟨(k+1,h33),Zd hx,ho33⟩
      )))
 . (
 rw [Qb hb19] at hsn;(have hsl:(G5 op (l.take (k+1))).length=(G5 op (l.take k)).length+1:=by rw [hsn,Xf];rfl);refine Zi ?_;refine xL 27 Za (xL 28 Za (xL 29 Za (xL 30 (Ze J3) ?_)));refine yU (Wn Tj) fun v31=>?_;refine WH 32 Ku fun h32 ho32=>?_;refine Wc 200 32 33 Ku fun h33 ho33=>?_;refine Zz (ZM (l:=33) 200 rfl rfl) fun _=>?_;refine Zz (Wv (l:=200) (p':= .own 51 3 (G5 op (l.take (k+1))).length (Z9 (G5 op (l.take (k+1))))) rfl (Eq.trans (congrArg (PV.own 51 3 _) (show _=Z9 (G5 op (l.take k))++cN x from rfl)) (by rw [Lj,<-hsn,hsl]))) fun _=>?_;refine K5 ?_
 first
  | (exact Yr (
      ⟨(k+1,h26),Zd hx,ho26⟩
      ))
  | (exact Yr (
      ⟨(k+1,h33),Zd hx,ho33⟩
      ))))
 . (
 rw [Xt (show l.length<=k by omega)];refine nav ?_;refine Zq (En.freeze (l:=200) (t:=5) rfl rfl) fun _=>?_;refine Gf ?_;refine Zg (results238) rfl ?_;rw [JC _ _ _ rfl])
end Go.Proofs.YtmkojdfiadbeeaaGreat
