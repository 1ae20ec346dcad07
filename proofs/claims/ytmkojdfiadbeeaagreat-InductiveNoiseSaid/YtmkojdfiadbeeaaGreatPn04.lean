/-
  Walks and laws.
-/
import Derived.Lib.AppendIntMem
import Derived.Lib.OthersKept
import Derived.Laws.BytesArg
import Derived.Test.YtmkojdfiadbeeaaGreatPn03
import Derived.Test.YtmkojdfiadbeeaaGreatPn01
set_option linter.all false
set_option maxRecDepth 100000
set_option maxHeartbeats 0
namespace Go.En
open Go.RowKit Go.Cb
variable {P:Program} {c:Ctx} {ops:Array Oper} {Q:Exit->Act->World->Prop} {rest:List Oper} {sL hP:List (Nat×Ent)} {o:Oper}
section
variable {P:Program} {ops:Array Oper} {Q:Exit->Act->World->Prop} {md:Region.Mode} {C:World->Prop} {Z:Nat->Bool}
def OE (md:Region.Mode) (ops:Array Oper):Nat->Nat->Nat->Bool
 |0,_,_=>false
 | n+1,z,i=>match ops[z]? with
   |some oz=>oz.after.any fun e=>Region.binds md e&&(e.on==i||OE md ops n e.on i)
   |none=>false
def HS (md:Region.Mode) (ops:Array Oper) (Z:Nat->Bool) (i:Nat):Bool:=(List.range ops.size).all fun z=> !Z z||OE md ops ops.size z i
def HT (md:Region.Mode) (ops:Array Oper) (listed:Array Bool):Bool:=(List.range ops.size).all fun k=> !(listed.getD k false)||(match ops[k]? with
 |some o=>o.after.all fun e=> !Region.binds md e||listed.getD e.on false
 |none=>true)
def ClosedL (md:Region.Mode) (ops:Array Oper) (listed:Array Bool):Prop:=∀(k:Nat) (o:Oper),ops[k]? =some o->listed.getD k false=true->∀e∈o.after,Region.binds md e=true->listed.getD e.on false=true
def Zdo {listed:Array Bool} (h:HT md ops listed=true):ClosedL md ops listed:=fun k o ho hk e he hb=>by
 have hks:k<ops.size:=by
  rcases XL k ops.size with h'|h'
  . exact h'
  rw [VD h'] at ho;cases ho
 have:=Xj.1 h k (XT.2 hks)
 rw [hk,ho] at this
 simp only [Bool.not_true,Un] at this
 have:=(Array.all_eq_true'.1 this) e he
 rw [hb] at this
 simpa using this
def ClosedL.reach {listed:Array Bool} (h:ClosedL md ops listed) {i:Nat}:∀(n z:Nat),listed.getD z false=true->OE md ops n z i=true->listed.getD i false=true
 |0,_,_,hr=>by simp [OE] at hr
 | n +1,z,hz,hr=>by
   rw [OE] at hr;split at hr
   . rename_i oz ho;obtain ⟨e,he,hb⟩:=Array.any_eq_true'.1 hr;simp only [Xf,Vj,beq_iff_eq] at hb;have h1:=h z oz ho hz e he hb.1;rcases hb.2 with h2|h2
     . rw [<-h2];exact h1
     exact ClosedL.reach h n e.on h1 h2
   cases hr
def ClosedL.ready {listed:Array Bool} (h:ClosedL md ops listed) {i j n:Nat} (hj:j∈Region.ready md ops listed) (hr:OE md ops n j i=true):listed.getD i false=true:=by
 obtain ⟨_,oj,hoj,hall⟩:=mem_ready.1 hj
 cases n with
 |zero=>simp [OE] at hr
 | succ n=>
   rw [OE,hoj] at hr;obtain ⟨e,he,hb⟩:=Array.any_eq_true'.1 hr;simp only [Xf,Vj,beq_iff_eq] at hb;have h1:=hall e he hb.1;rcases hb.2 with h2|h2
   . rw [<-h2];exact h1
   exact h.reach n e.on h1 h2
def ClosedL.set {listed:Array Bool} (h:ClosedL md ops listed) {j:Nat} (hj:j∈Region.ready md ops listed):ClosedL md ops (listed.setIfInBounds j true):=fun k o ho hk e he hb=>by
 obtain ⟨_,oj,hoj,hall⟩:=mem_ready.1 hj
 by_cases hkj:k=j
 . subst hkj;rw [hoj] at ho;cases ho;exact getD_set_true (hall e he hb)
 rw [getD_set_ne false (Ne.symm hkj)] at hk;exact getD_set_true (h k o ho hk e he hb)
def ZbB {i:Nat} {oi:Oper} {v:Value} (hi:ops[i]? =some oi) (hz:HS md ops Z i=true)
 (hsel:∀(j:Nat) (o:Oper) cs b,ops[j]? =some o->o.op≠ .select cs b):
 ∀ (fuel:Nat) (listed:Array Bool) (a:Act) (w:World),ClosedL md ops listed->
  (∀j oj,ops[j]? =some oj->j≠i->listed.getD j true=false->(∀e∈oj.after,Region.binds md e=true->e.on≠i)->oi.apart ops oj=true)->
  i∈Region.ready md ops listed->YieldsC P ops C oi v a->C w->
  wpAnyS P md ops Q C Z fuel (listed.setIfInBounds i true) (a.put oi.dst v) w->wpAnyS P md ops Q C Z (fuel+1) listed a w:=by
 intro fuel
 induction fuel with
 | zero=>
   intro listed a w _ _ hr hy hC H;refine ⟨fun h=>(by rw [h] at hr;cases hr),fun j hj=>?_⟩;by_cases hji:j=i
   . subst hji;exact YieldsIf.wpOp hi hy.ifS hC ⟨.inr hC,H⟩
   have:=ready_mono hj hji;rw [H.1] at this
   cases this
 | succ fuel ih=>
   intro listed a w hcl hfree hr hy hC H;refine ⟨fun h=>(by rw [h] at hr;cases hr),fun j hj=>?_⟩;by_cases hji:j=i
   . subst hji;exact YieldsIf.wpOp hi hy.ifS hC ⟨.inr hC,H⟩
   have h1:=H.2 j (ready_mono hj hji);obtain ⟨hjun,oj,hoj,hall⟩:=mem_ready.1 hj;have hnot:∀e∈oj.after,Region.binds md e=true->e.on≠i:=fun e he hb heq=>by
    have h1:=hall e he hb;have h0:=(mem_ready.1 hr).1;rw [heq] at h1;rcases XL i listed.size with h'|h'
    . simp [h'] at h0 h1;rw [h0] at h1;cases h1
    simp [VD h'] at h1
   have hjz:Z j=false:=by
    cases hZ:Z j
    . rfl
    exfalso;have hjs:j<ops.size:=by
     rcases XL j ops.size with h'|h'
     . exact h'
     rw [VD h'] at hoj;cases hoj
    have:=Xj.1 hz j (XT.2 hjs);rw [hZ] at this;simp only [Bool.not_true,Un] at this;have h0:=(mem_ready.1 hr).1;have h1:=hcl.ready hj this;rcases XL i listed.size with h'|h'
    . simp [h'] at h0 h1;rw [h0] at h1;cases h1
    simp [VD h'] at h1
   have h2:=wpOp_putIf hoj (hfree j oj hoj hji hjun hnot) (fun cs b=>hsel i oi cs b hi) (fun cs b=>hsel j oj cs b hoj) (fun c a w h=>h) hy.ifS h1;have hfree':∀k ok,ops[k]? =some ok->k≠i->(listed.setIfInBounds j true).getD k true=false->
    (∀e∈ok.after,Region.binds md e=true->e.on≠i)->oi.apart ops ok=true:=fun k ok hk hki hun hno=>by
    refine hfree k ok hk hki ?_ hno;by_cases hjk:j=k
    . subst hjk;exact hjun
    rw [getD_set_ne true hjk] at hun;exact hun
   refine wpOp_mono (fun a' w' h3=>?_) h2;obtain ⟨hy',hor,hK⟩:=h3;have hC':C w':=by
    rcases hor with h|h
    . rw [hjz] at h;cases h
    exact h
   refine ⟨.inr hC',ih (listed.setIfInBounds j true) a' w' (hcl.set hj) hfree' (ready_mono hr (Ne.symm hji)) hy' hC' ?_⟩;rw [Array.setIfInBounds_comm _ _ hji];exact hK
end
section
variable {P:Program} {c:Ctx} {ops:Array Oper} {Q:Exit->Act->World->Prop} {Z:Nat->Bool} {K:List Nat} {fuel:Nat} {listed:Array Bool} {sL hP:List (Nat×Ent)} {o:Oper}
def ZrB {V:Value->Prop} {p:PV} (i d:Nat) (ho:ops[i]? =some o) (hck:(Region.noSelect ops&&(Region.ready .any ops listed).contains i&&Region.free .any ops listed i&&HS .any ops Z i&&HT .any ops listed)=true) (hw:Yb ops sL o=some true) (hd:o.dst=some d) (hn:d<c.nt) (hy:YE P ⟨sL,J7 K hP⟩ o V p)
 (k:∀v,V v->aD P c ops Q Z K fuel (listed.setIfInBounds i true) ⟨put d (v,p) sL,hP⟩):aD P c ops Q Z K (fuel+1) listed (⟨sL,hP⟩:St):=fun a w F H C hC=>by
 simp only [Xf] at hck
 obtain ⟨⟨⟨⟨hs,hr⟩,hf⟩,hz⟩,hcl⟩:=hck
 obtain ⟨v,hV,hS,hrun⟩:=hy _ F a w (H.rdK K)
 refine Sf hC _ _ _ _ ?_
 refine ZbB ho hz (Region.noSelect_spec hs) _ listed a w (Zdo hcl) (Region.free_spec ho hf) (by simpa using hr) (v:=v) (.inl ⟨LA H.rd hw,fun W hW=>?_⟩) (Chg.rfl' _ _) ?_
 . exact hrun _ W hW (fun b ⟨l,x,_,h1,h2⟩=> .inr ⟨l,x,h1,h2⟩) (fun l x b hl hFb ⟨l',x',h1,h2,h3⟩=>by
    obtain ⟨h4,h5⟩:=RY.1 hl;exact H.dj l l' _ _ b (fun e=>by rw [e,h1] at h4;cases h4) h5 h2 hFb h3)
 rw [hd];exact k v hV _ w F (H.put hn hS) _ (fun W h=>h)
def Ztd {v:Value} {p:PV} (i d:Nat) (ho:ops[i]? =some o) (hck:(Region.noSelect ops&&(Region.ready .any ops listed).contains i&&Region.free .any ops listed i&&HS .any ops Z i&&HT .any ops listed)=true) (hw:Yb ops sL o=some true) (hd:o.dst=some d) (hn:d<c.nt) (hy:YE P ⟨sL,J7 K hP⟩ o (· =v) p)
 (k:aD P c ops Q Z K fuel (listed.setIfInBounds i true) ⟨put d (v,p) sL,hP⟩):aD P c ops Q Z K (fuel+1) listed (⟨sL,hP⟩:St):=ZrB i d ho hck hw hd hn hy fun u hu=>by cases hu;exact k
def xDT {v:Value} {p:PV} (i:Nat) (d:Nat) (ho:ops[i]? =some o) (hy:YE P ⟨sL,J7 K hP⟩ o (· =v) p) (k:aD P c ops Q Z K fuel (listed.setIfInBounds i true) ⟨put d (v,p) sL,hP⟩) (hck:(Region.noSelect ops&&(Region.ready .any ops listed).contains i&&Region.free .any ops listed i&&HS .any ops Z i&&HT .any ops listed)=true:=by kernel_rfl) (hw:Yb ops sL o=some true:=by exact rfl) (hd:o.dst=some d:=by exact rfl) (hn:d<c.nt:=by exact Xa rfl):aD P c ops Q Z K (fuel+1) listed (⟨sL,hP⟩:St):=
 Ztd i d ho hck hw hd hn hy k
def yDT {V:Value->Prop} {p:PV} (i:Nat) (d:Nat) (ho:ops[i]? =some o) (hy:YE P ⟨sL,J7 K hP⟩ o V p) (k:∀v,V v->aD P c ops Q Z K fuel (listed.setIfInBounds i true) ⟨put d (v,p) sL,hP⟩) (hck:(Region.noSelect ops&&(Region.ready .any ops listed).contains i&&Region.free .any ops listed i&&HS .any ops Z i&&HT .any ops listed)=true:=by kernel_rfl) (hw:Yb ops sL o=some true:=by exact rfl) (hd:o.dst=some d:=by exact rfl) (hn:d<c.nt:=by exact Xa rfl):aD P c ops Q Z K (fuel+1) listed (⟨sL,hP⟩:St):=
 ZrB i d ho hck hw hd hn hy k
end
def aDZ (P:Program) (c:Ctx) (ops:Array Oper) (Q:Exit->Act->World->Prop) (Z:Nat->Bool) (fuel:Nat) (listed:Array Bool) (st:St):Prop:=
 ∀a w F,HoldsF c st F a w->∀C:World->Prop,wpAnyS P .any ops Q C Z fuel listed a w
section
variable {P:Program} {c:Ctx} {ops:Array Oper} {Q:Exit->Act->World->Prop} {Z:Nat->Bool} {K:List Nat} {fuel:Nat} {listed:Array Bool} {sL hP:List (Nat×Ent)} {o:Oper}
def ZeW {i:Nat} (ho:ops[i]? =some o) (hZ:Z i=true) (h:∀DQ:Exit->Act->World->Prop,(∀st':St,aDZ P c ops Q Z fuel (listed.setIfInBounds i true) st'->aN c DQ st')->aL P c ops DQ [o] (⟨sL,hP⟩:St)):aW P c ops Q Z K fuel listed (⟨sL,hP⟩:St) i:=fun a w F H C hC=>by
 refine GL (Q':=fun _ a' w'=>(Z i=true\/C w')/\wpAnyS P .any ops Q C Z fuel (listed.setIfInBounds i true) a' w') ho (fun a' w' hq=>hq) ?_
 exact h _ (fun st' hN a' w' ⟨F',H'⟩=>⟨.inl hZ,hN a' w' F' H' C⟩) a w ⟨F,H⟩
def ZiJ (i:Nat) (hr:Region.ready .any ops listed=[i]) (ho:ops[i]? =some o) (hZ:Z i=true) (h:∀DQ:Exit->Act->World->Prop,(∀st':St,aDZ P c ops Q Z fuel (listed.setIfInBounds i true) st'->aN c DQ st')->aL P c ops DQ [o] (⟨sL,hP⟩:St)):aDZ P c ops Q Z (fuel+1) listed (⟨sL,hP⟩:St):=fun a w F H C=>
 ⟨(fun hn=>by rw [hr] at hn;cases hn),fun j hj=>by
   rw [hr] at hj;obtain rfl:j=i:=by simpa using hj
   refine GL (Q':=fun _ a' w'=>(Z j=true\/C w')/\wpAnyS P .any ops Q C Z fuel (listed.setIfInBounds j true) a' w') ho (fun a' w' hq=>hq) ?_;exact h _ (fun st' hN a' w' ⟨F',H'⟩=>⟨.inl hZ,hN a' w' F' H' C⟩) a w ⟨F,H⟩⟩
def ZiK (hr:Region.ready .any ops listed=[]) (h:aN c Q (⟨sL,hP⟩:St)):aDZ P c ops Q Z fuel listed (⟨sL,hP⟩:St):=fun a w F H C=>by
 cases fuel with
 |zero=>exact ⟨hr,h a w ⟨F,H⟩⟩
 |succ n=>exact ⟨fun _=>h a w ⟨F,H⟩,fun i hi=>by rw [hr] at hi;cases hi⟩
end
section
variable {P:Program} {st:St} {o:Oper} {x y:Operand} {q q':PV} {t t':TypeId}
def ZrC {a b:Int} (c:Int) (hc:a.tdiv b=c) (h0: -9223372036854775808<=c) (h1:c<=9223372036854775807) (ho:o.op= .binOp .quo t x y t':=by exact rfl) (hx:ev st.slots x=some (.int .i64 a,q):=by exact rfl) (hy:ev st.slots y=some (.int .i64 b,q'):=by exact rfl) (hb:b≠0:=by first|decide|omega):YE P st o (· = .int .i64 c) (.val (.int .i64 c)):=
 y2 hx hy fun ρ w h3 h4=>by
  have hw:IntKind.i64.wrap c=c:=IntWalk.i64_in _ ⟨h0,h1⟩;simp [execOp,ho,h3,h4,eqGuard,binOp,Op.intDiv,hb,hc,hw]
end
section
variable {P:Program} {c:Ctx} {sL hP:List (Nat×Ent)}
end
section
variable {P:Program} {c:Ctx} {ops:Array Oper} {Q:Exit->Act->World->Prop} {Z:Nat->Bool} {K:List Nat} {fuel:Nat} {listed:Array Bool} {sL hP:List (Nat×Ent)} {o:Oper}
end
structure PiT (P:Program) (t ks s e:Nat) (z:Value):Prop where
 ht:P.underlying t=some (.map ks e)
 hu:P.underlying ks=some (.array 2 s)
 hs:P.underlying s=some (.int .i64)
 hk:P.keyType ks=true
 hk2:P.keyTypeAt 2 ks=true
 hti:P.tiled 2 ks=true
 hc2:P.cellsOf ks=2
 hc1:P.cellsOf s=1
 hf:∀a b:Int,(Value.agg #[.int .i64 a, .int .i64 b]).formed P ks=true
 hsz:∃n,P.types.size=n+1
 hz:ZeroT P e z
def PiT.law {P:Program} {t ks s e:Nat} {z:Value} (h:PiT P t ks s e z):WideMaps.KeyLaw P ks:=deep_law (m:=2) dC h.hk2 h.hti (by rw [h.hu])
section
variable {P:Program} {sL hP:List (Nat×Ent)} {o:Oper}
end
def cPx {ι:Type} {p1 p2:ι->PV} (d:Nat) (hC:LV P c (⟨sL,hP⟩:St) o (fun p=>∃i,p= .tup [p1 i,p2 i])) (k:∀i v1 v2,vOf (p1 i) v1->vOf (p2 i) v2->aL P c ops Q rest ⟨put d (.tuple [v1,v2].toArray, .tup [p1 i,p2 i]) sL,hP⟩) (hsh:∀i,shD (.tup [p1 i,p2 i])=true) (hw:Yb ops sL o=some true:=by exact rfl) (hd:o.dst=some d:=by exact rfl) (hn:d<c.nt:=by exact Xa rfl):aL P c ops Q (o::rest) (⟨sL,hP⟩:St):=
 SF hw hC fun a w F w' v p' Fr H hR hx hT hlo hdw=>by
  obtain ⟨i,rfl⟩:=hR;have hS:=hT.shD (hsh i);rw [hd];have hS':Shr (mof c hP F) w' v (.tup [p1 i,p2 i]):=hS.anti fun b _ h=> .inl h
  cases hS with
  | tup vs ps hl h=>
    match vs,hl,h,hS' with
    |[v1,v2],_,h,hS'=>exact k i v1 v2 (h 0 v1 _ rfl rfl).vOf (h 1 v2 _ rfl rfl).vOf _ _ ⟨F,D2 H hx hn hS'⟩
def cDx {ι:Type} {p:ι->PV} (d:Nat) (hC:LV P c (⟨sL,hP⟩:St) o (fun q=>∃i,q=p i)) (k:∀i v,vOf (p i) v->aL P c ops Q rest ⟨put d (v,p i) sL,hP⟩) (hsh:∀i,shD (p i)=true) (hw:Yb ops sL o=some true:=by exact rfl) (hd:o.dst=some d:=by exact rfl) (hn:d<c.nt:=by exact Xa rfl):aL P c ops Q (o::rest) (⟨sL,hP⟩:St):=
 SF hw hC fun a w F w' v p' Fr H hR hx hT hlo hdw=>by
  obtain ⟨i,rfl⟩:=hR;have hS:=hT.shD (hsh i);rw [hd];exact k i v hS.vOf _ _ ⟨F,D2 H hx hn (hS.anti fun b _ h=> .inl h)⟩
section
variable {P:Program} {c:Ctx} {sL hP:List (Nat×Ent)}
end
open Go.RowKit Go.Cb Go.Proofs Go.Sort
section
variable {P:Program} {sL hP:List (Nat×Ent)} {o:Oper}
end
section
variable {P:Program} {st:St} {o:Oper} {x y:Operand} {t t':TypeId} {q q':PV}
def Gy {a b c:Int} (ho:o.op= .binOp .add t x y t':=by exact rfl) (hx:ev st.slots x=some (.int .i64 a,q):=by exact rfl) (hy:ev st.slots y=some (.int .i64 b,q'):=by exact rfl) (hc:a+b=c:=by omega) (h1: -9223372036854775808<=c:=by omega) (h2:c<=9223372036854775807:=by omega):YE P st o (· = .int .i64 c) (.val (.int .i64 c)):=by
 subst hc;exact Zru ho hx hy h1 h2
def Jj {a b c:Int} (ho:o.op= .binOp .sub t x y t':=by exact rfl) (hx:ev st.slots x=some (.int .i64 a,q):=by exact rfl) (hy:ev st.slots y=some (.int .i64 b,q'):=by exact rfl) (hc:a-b=c:=by omega) (h1: -9223372036854775808<=c:=by omega) (h2:c<=9223372036854775807:=by omega):YE P st o (· = .int .i64 c) (.val (.int .i64 c)):=by
 subst hc;exact Zrv ho hx hy h1 h2
def Zdp {a b c:Int} (ho:o.op= .binOp .mul t x y t':=by exact rfl) (hx:ev st.slots x=some (.int .i64 a,q):=by exact rfl) (hy:ev st.slots y=some (.int .i64 b,q'):=by exact rfl) (hc:a*b=c:=by omega) (h1: -9223372036854775808<=c:=by omega) (h2:c<=9223372036854775807:=by omega):YE P st o (· = .int .i64 c) (.val (.int .i64 c)):=by
 subst hc;exact Zrw ho hx hy h1 h2
def Zdq {a c:Int} (ho:o.op= .move x:=by exact rfl) (hx:ev st.slots x=some (.int .i64 a,q):=by exact rfl) (hc:a=c:=by omega):YE P st o (· = .int .i64 c) (.val (.int .i64 c)):=by
 subst hc;exact y1 hx (fun _ _ _=> .val _) fun ρ w h=>by simp [execOp,ho,h]
def ZiL {a:Nat} {s d:TypeId} {ds:TypeDesc} (hs:P.underlying s=some ds) (hd:P.underlying d=some (.int .u64)) (ha:a<=9223372036854775807) (ho:o.op= .convert s d x:=by exact rfl) (hx:ev st.slots x=some (.int .i64 (a:Int),q):=by exact rfl):YE P st o (· = .int .u64 (a:Int)) (.val (.int .u64 (a:Int))):=
 Zmw hs hd ho hx (IntWalk.u64_in _ oM)
def ZiM {a:Nat} {s d:TypeId} {ds:TypeDesc} (hs:P.underlying s=some ds) (hd:P.underlying d=some (.int .i64)) (ha:a<=9223372036854775807) (ho:o.op= .convert s d x:=by exact rfl) (hx:ev st.slots x=some (.int .u64 (a:Int),q):=by exact rfl):YE P st o (· = .int .i64 (a:Int)) (.val (.int .i64 (a:Int))):=
 Zmw hs hd ho hx (IntWalk.i64_in _ oM)
def ζi {a:Nat} {b:Int} {kb:IntKind} (hb:b=1) (ho:o.op= .binOp .shr t x y t':=by exact rfl) (hx:ev st.slots x=some (.int .u64 (a:Int),q):=by exact rfl) (hy:ev st.slots y=some (.int kb b,q'):=by exact rfl):YE P st o (· = .int .u64 ((a / 2:Nat):Int)) (.val (.int .u64 ((a / 2:Nat):Int))):=
 y2 hx hy fun ρ w h3 h4=>by
  subst hb;have e:(a:Int).fdiv 2=((a / 2:Nat):Int):=by
   rw [Int.fdiv_eq_ediv_of_nonneg _ dC];rfl
  simp [execOp,ho,h3,h4,eqGuard,binOp,Op.shift];exact e
end
end Go.En
namespace Go.Proofs.YtmkojdfiadbeeaaGreat
open Go.RowKit Go.Cb Go.En Tryz
def ZL:AggT prog 51 3=true:=kR
def Ye:SlT prog 49 51 3=true:=kR
def TU (l:List Nd):(Z9 l).length=l.length*3:=by rw [W5];exact Z1 RL l
def ZiN:∀(ps:List PV) (a b c:List PV) (j:Nat),a.length=j->b.length=ps.length->G7 (a++b++c) j ps=a++ps++c
 | [],a,b,c,j,ha,hb=>by
   have:b=[]:=Xv hb;subst this;rfl
 | p ::ps,a,x::b,c,j,ha,hb=>by
   rw [G7];have h1:(a++(x::b)++c).set j p=(a++[p])++b++c:=by
    subst ha;rw [XG,Vr _ _ (Xd _),Vg];simp
   rw [h1,ZiN ps (a++[p]) b c (j+1) (by simp [ha]) (by simpa using hb)];simp
def Zdr (L:List Nd) (k:Nat) (x:Nd) (h:k<L.length):G7 (Z9 L) (k*3) (cN x)=Z9 (L.set k x):=by
 rw [W5,W5]
 have e:L=L.take k++[L[k]]++L.drop (k+1):=by
  rw [XG,List.singleton_append,List.getElem_cons_drop,Vw]
 have e2:L.set k x=L.take k++[x]++L.drop (k+1):=by
  rw [List.set_eq_take_append_cons_drop,Qd h,XG];rfl
 rw [e2]
 conv=>lhs;rw [e]
 simp only [XR,Ud]
 exact ZiN (cN x) _ _ _ _ (by rw [Z1 RL,XA,Vb (Nat.le_of_lt h)]) rfl
def Dg {L:List Nd} {i j:Nat} {x y:Nd} (hx:L[i]? =some x) (hy:L[j]? =some y):G7 (G7 (Z9 L) (i*3) (cN y)) (j*3) (cN x)=Z9 (swp L i j):=by
 rw [Zdr L i y (Zd hx),Zdr _ j x (by rw [Xm];exact Zd hy),Znl hx hy]
def Kz (hv:Value) (l:List Nd):List (Nat×Ent):=[(1000,hv, .own 51 3 l.length (Z9 l))]
def Zaf (l:List Nd) (hl:l.length<=1000000) (a b n:Nat) (h1:a+n<=b) (h2:b+n<=l.length) (hv:Value) (fv:Value) (f:Nat):AFh False prog 290 [(0,hv, .val hv),(1, .int .i64 (a:Int),Zb a),(2, .int .i64 (b:Int),Zb b),(3, .int .i64 (n:Int),Zb n),(4,fv, .fn f [])] (Kz hv l) (fun v q h=>∃l',(∀k,l'[k]? =l[srI a b n k]?)/\Sw a (b+n) l l'/\h=Kz hv l'):=by
 unfold Kz
 refine AFh.of_body 38 func290 rfl ntmps290 (Xa rfl) rfl ?_
 intro w0 M0 N0
 refine ZF ?_
 refine Yl (ι:={q:Nat×List Nd//q.1<=n/\(∀k,q.2[k]? =l[srI a b q.1 k]?)/\Sw a (b+n) l q.2}) (fun k=>⟨[(0,_,_),(1,_,_),(2,_,_),(3,_,_),(10, .int .i64 k.1.1,Zb k.1.1)],[(1000,hv, .own 51 3 l.length (Z9 k.1.2))]⟩) (fun k=>n-k.1.1) ⟨(0,l),Xg _,fun k=>by rw [Zqb], .refl _⟩ ?_
 rintro ⟨⟨i,L⟩,hi,hL,hS⟩
 dsimp only
 dsimp only at hi hL hS;have hLl:=hS.len
 refine WL ?_;refine ZC ?_ ?_<;>intro hb13
 . (
 have hin:i<n:=oM;obtain ⟨x,hx⟩:=gS L (a+i);obtain ⟨y,hy⟩:=gS L (b+i);have e1:=Yd hx;have e2:=YF hx;have e3:=Yd hy;have e4:=YF hy;have hsw:=Dg hx hy;have e5:(G7 (Z9 L) ((a+i)*3) (cN y)).length=(Z9 L).length:=RR _ _ _;refine nav ?_;(refine Yx [] [] ?_<;>refine gDx 0 ?_<;>refine gDx 1 ?_<;>refine gDx 2 ?_<;>refine xD 3 rfl ((Gy (c:=((a+i:Nat):Int)))) ?_<;>refine gDx 4 ?_<;>refine gDx 5 ?_<;>refine gDx 6 ?_<;>refine xD 7 rfl ((Gy (c:=((b+i:Nat):Int)))) ?_<;>refine gDx 8 ?_<;>refine gDx 9 ?_<;>refine gDx 10 ?_<;>refine xD 11 rfl ((Gy (c:=((b+i:Nat):Int)))) ?_<;>refine gDx 14 ?_<;>refine gDx 15 ?_<;>refine gDx 16 ?_<;>refine xD 17 rfl ((Gy (c:=((a+i:Nat):Int)))) ?_<;>(refine WJ 12 18 kR ?_ ?_;rotate_right;(focus ((refine aWr fun bk=>?_)<;>refine xM (Zk 1000 Ye) ?_<;>refine bE bk ?_<;>(refine WJ 12 19 kR ?_ ?_;rotate_right;(focus ((refine aWr fun bk=>?_)<;>refine yU (Zm 1000 ZL) fun v35=>?_<;>refine bE bk ?_<;>(refine aDr 12 fun bk=>?_)<;>refine xM (Zk 1000 Ye) ?_<;>refine bE bk ?_<;>(refine aDr 13 fun bk=>?_)<;>refine yU (Zm 1000 ZL) fun v29=>?_<;>refine bE bk ?_<;>refine xE 20 rfl (Zk 1000 Ye) ?_<;>(refine aDr 21 fun bk=>?_)<;>refine Zn 1000 ZL ?_<;>refine bE bk ?_<;>refine xE 22 rfl (Zk 1000 Ye) ?_<;>(refine aDr 23 fun bk=>?_)<;>refine Zn 1000 ZL ?_<;>refine bE bk ?_));rotate_right;(focus ((refine aWr fun bk=>?_)<;>refine xM (Zk 1000 Ye) ?_<;>refine bE bk ?_<;>(refine WJ 13 19 kR ?_ ?_;rotate_right;(focus ((refine aWr fun bk=>?_)<;>refine yU (Zm 1000 ZL) fun v35=>?_<;>refine bE bk ?_<;>(refine aDr 13 fun bk=>?_)<;>refine yU (Zm 1000 ZL) fun v29=>?_<;>refine bE bk ?_<;>refine xE 20 rfl (Zk 1000 Ye) ?_<;>(refine aDr 21 fun bk=>?_)<;>refine Zn 1000 ZL ?_<;>refine bE bk ?_<;>refine xE 22 rfl (Zk 1000 Ye) ?_<;>(refine aDr 23 fun bk=>?_)<;>refine Zn 1000 ZL ?_<;>refine bE bk ?_));rotate_right;(focus ((refine aWr fun bk=>?_)<;>refine yU (Zm 1000 ZL) fun v29=>?_<;>refine bE bk ?_<;>(refine aDr 19 fun bk=>?_)<;>refine yU (Zm 1000 ZL) fun v35=>?_<;>refine bE bk ?_<;>refine xE 20 rfl (Zk 1000 Ye) ?_<;>(refine aDr 21 fun bk=>?_)<;>refine Zn 1000 ZL ?_<;>refine bE bk ?_<;>refine xE 22 rfl (Zk 1000 Ye) ?_<;>(refine aDr 23 fun bk=>?_)<;>refine Zn 1000 ZL ?_<;>refine bE bk ?_))))))));rotate_right;(focus ((refine aWr fun bk=>?_)<;>refine xM (Zk 1000 Ye) ?_<;>refine bE bk ?_<;>(refine WJ 13 18 kR ?_ ?_;rotate_right;(focus ((refine aWr fun bk=>?_)<;>refine xM (Zk 1000 Ye) ?_<;>refine bE bk ?_<;>(refine WJ 13 19 kR ?_ ?_;rotate_right;(focus ((refine aWr fun bk=>?_)<;>refine yU (Zm 1000 ZL) fun v35=>?_<;>refine bE bk ?_<;>(refine aDr 13 fun bk=>?_)<;>refine yU (Zm 1000 ZL) fun v29=>?_<;>refine bE bk ?_<;>refine xE 20 rfl (Zk 1000 Ye) ?_<;>(refine aDr 21 fun bk=>?_)<;>refine Zn 1000 ZL ?_<;>refine bE bk ?_<;>refine xE 22 rfl (Zk 1000 Ye) ?_<;>(refine aDr 23 fun bk=>?_)<;>refine Zn 1000 ZL ?_<;>refine bE bk ?_));rotate_right;(focus ((refine aWr fun bk=>?_)<;>refine yU (Zm 1000 ZL) fun v29=>?_<;>refine bE bk ?_<;>(refine aDr 19 fun bk=>?_)<;>refine yU (Zm 1000 ZL) fun v35=>?_<;>refine bE bk ?_<;>refine xE 20 rfl (Zk 1000 Ye) ?_<;>(refine aDr 21 fun bk=>?_)<;>refine Zn 1000 ZL ?_<;>refine bE bk ?_<;>refine xE 22 rfl (Zk 1000 Ye) ?_<;>(refine aDr 23 fun bk=>?_)<;>refine Zn 1000 ZL ?_<;>refine bE bk ?_)))));rotate_right;(focus ((refine aWr fun bk=>?_)<;>refine yU (Zm 1000 ZL) fun v29=>?_<;>refine bE bk ?_<;>(refine aDr 18 fun bk=>?_)<;>refine xM (Zk 1000 Ye) ?_<;>refine bE bk ?_<;>(refine aDr 19 fun bk=>?_)<;>refine yU (Zm 1000 ZL) fun v35=>?_<;>refine bE bk ?_<;>refine xE 20 rfl (Zk 1000 Ye) ?_<;>(refine aDr 21 fun bk=>?_)<;>refine Zn 1000 ZL ?_<;>refine bE bk ?_<;>refine xE 22 rfl (Zk 1000 Ye) ?_<;>(refine aDr 23 fun bk=>?_)<;>refine Zn 1000 ZL ?_<;>refine bE bk ?_))))))<;>refine Wo ?_)<;>(
 refine G8 ?_;rw [hsw];refine Yk (
  ⟨(i+1,swp L (a+i) (b+i)),hin,Zqa hin h1 oM hL, .step _ _ hS oM oM oM oM h2⟩
  )))
 refine nav ?_;have hin:i=n:=oM;subst hin;refine PN [(1000,hv, .own 51 3 l.length (Z9 L))] results290 sB ⟨L,hL,hS,?_⟩;rw [hLl]
def ZkD (l :List Nd) (hl:l.length<=1000000) (a m b:Nat) (h1:a<m) (h2:m<b) (h3:b<=l.length) (hv:Value) (fv:Value) (f:Nat):AFh False prog 288 [(0,hv, .val hv),(1, .int .i64 (a:Int),Zb a),(2, .int .i64 (m:Int),Zb m),(3, .int .i64 (b:Int),Zb b),(4,fv, .fn f [])] (Kz hv l) (fun v q h=>∃l',(∀k,l'[k]? =l[PP a m b k]?)/\Sw a b l l'/\h=Kz hv l'):=by
 unfold Kz
 refine AFh.of_body 58 func288 rfl ntmps288 (Xa rfl) rfl ?_
 intro w0 M0 N0
 refine Kt ?_;refine xM ((Jj (c:=((m-a:Nat):Int)))) ?_;refine ZW ?_;refine YW ?_;refine xM ((Jj (c:=((b-m:Nat):Int)))) ?_;refine ZD ?_
 refine Yl (ι:={q:Nat×Nat×List Nd//0<q.1/\0<q.2.1/\q.1<=m-a/\q.2.1<=b-m/\(∀k,q.2.2[PP (m-q.1) m (m+q.2.1) k]? =l[PP a m b k]?)/\Sw a b l q.2.2}) (fun k=>⟨[(0,_,_),(1,_,_),(2,_,_),(3,_,_),(4,_,_),(10, .int .i64 k.1.1,Zb k.1.1),(11, .int .i64 k.1.2.1,Zb k.1.2.1)],[(1000,hv, .own 51 3 l.length (Z9 k.1.2.2))]⟩) (fun k=>k.1.1+k.1.2.1) ⟨(m-a,b-m,l),by dsimp only;omega,by dsimp only;omega,Xd _,Xd _,fun k=>by dsimp only;rw [show m-(m-a)=a by omega,show m+(b-m)=b by omega], .refl _⟩ ?_
 rintro ⟨⟨i,j,L⟩,hi0,hj0,hi,hj,hL,hS⟩
 dsimp only
 dsimp only at hi0 hj0 hi hj hL hS;have hLl:=hS.len
 refine WL ?_;refine ZC ?_ ?_<;>intro hb20
 . (
 refine WL ?_;refine ZC ?_ ?_<;>intro hb23
 . (
 refine WL ?_;refine xM ((Jj (c:=((m-i:Nat):Int)))) ?_;refine Y8 ?_;(refine Gn (Kz hv L) ⟨by rw [<-hLl];rfl,trivial⟩ ?_;refine Rs [] 31 call290 (Zaf L oM (m-i) m j oM oM hv fv f) (fun v31 p31 h31 hR31=>?_);obtain ⟨L2,hL2,hS2,rfl⟩:=hR31;have hL2l:=hS2.len.trans hLl;dsimp only [Kz];rw [hL2l]);refine D6 ?_;refine xM ((Jj (c:=((i-j:Nat):Int)))) ?_;refine ZD ?_
 first
  | (exact Yk (
      ⟨(i-j,j,L2),by dsimp only;omega,hj0,by dsimp only;omega,hj,fun k=>by
        dsimp only;rw [hL2,show m-(i-j)=m-i+j by omega,Znr oM oM];exact hL k,hS.trans (hS2.mono oM oM oM)⟩
      ))
  | (exact Yk (
      ⟨(i,j-i,L2),hi0,by dsimp only;omega,hi,by dsimp only;omega,fun k=>by
        dsimp only;rw [hL2,show m+(j-i)=m+j-i by omega,Zns oM oM];exact hL k,hS.trans (hS2.mono oM oM oM)⟩
      )))
 refine WL ?_;refine xM ((Jj (c:=((m-i:Nat):Int)))) ?_;refine YW ?_;refine xM ((Gy (c:=((m+j:Nat):Int)))) ?_;refine YU ?_;refine xM ((Jj (c:=((m+j-i:Nat):Int)))) ?_;refine YW ?_;(refine Gn (Kz hv L) ⟨by rw [<-hLl];rfl,trivial⟩ ?_;refine Rs [] 46 call290 (Zaf L oM (m-i) (m+j-i) i oM oM hv fv f) (fun v46 p46 h46 hR46=>?_);obtain ⟨L2,hL2,hS2,rfl⟩:=hR46;have hL2l:=hS2.len.trans hLl;dsimp only [Kz];rw [hL2l]);refine D6 ?_;refine xM ((Jj (c:=((j-i:Nat):Int)))) ?_;refine ZD ?_
 first
  | (exact Yk (
      ⟨(i-j,j,L2),by dsimp only;omega,hj0,by dsimp only;omega,hj,fun k=>by
        dsimp only;rw [hL2,show m-(i-j)=m-i+j by omega,Znr oM oM];exact hL k,hS.trans (hS2.mono oM oM oM)⟩
      ))
  | (exact Yk (
      ⟨(i,j-i,L2),hi0,by dsimp only;omega,hi,by dsimp only;omega,fun k=>by
        dsimp only;rw [hL2,show m+(j-i)=m+j-i by omega,Zns oM oM];exact hL k,hS.trans (hS2.mono oM oM oM)⟩
      )))
 have hij:j=i:=oM;subst hij;refine WL ?_;refine xM ((Jj (c:=((m-j:Nat):Int)))) ?_;refine Y8 ?_;(refine Gn (Kz hv L) ⟨by rw [<-hLl];rfl,trivial⟩ ?_;refine Rs [] 57 call290 (Zaf L oM (m-j) m j oM oM hv fv f) (fun v57 p57 h57 hR57=>?_);obtain ⟨L2,hL2,hS2,rfl⟩:=hR57;have hL2l:=hS2.len.trans hLl;dsimp only [Kz]);refine ZZ ?_;refine PN (Kz hv L2) results288 sB ⟨L2,fun k=>?_,hS.trans (hS2.mono oM oM oM),rfl⟩;rw [hL2,Zsd oM];exact hL k
def OF {a b:Nat} {l L:List Nd} (h:Sw a b l L) {x:Nd} (hx:x∈L):x∈l:=h.perm.mem_iff.1 hx
def Tx {x y:Nd} (h:¬WG x y<0):leT y x:=Zdd.1 h
def Znv (f:Nat) (hc:∀args w,(callFunc f args).run prog w= .ok (.enter f args) w) (l:List Nd) (hl:l.length<=1000000) (hf:∀x∈l,∀y∈l,AF prog f [pTr x,pTr y] (· =Zb (WG x y))) (a b:Nat) (h1:a<=b) (h2:b<=l.length) (hv:Value) (fv:Value):AFh False prog 282 [(0,hv, .val hv),(1, .int .i64 (a:Int),Zb a),(2, .int .i64 (b:Int),Zb b),(3,fv, .fn f [])] (Kz hv l) (fun v q h=>∃l',Sw a b l l'/\SrtS leT a b l'/\h=Kz hv l'):=by
 unfold Kz
 refine AFh.of_body 53 func282 rfl ntmps282 (Xa rfl) rfl ?_
 intro w0 M0 N0
 refine Wp ?_;refine xM ((Gy (c:=((a+1:Nat):Int)))) ?_;refine ZD ?_
 refine Yl (ι:={q:Nat×List Nd//a+1<=q.1/\(q.1<=b\/b<=a+1)/\Sw a b l q.2/\SrtS leT a q.1 q.2}) (fun k=>⟨[(0,_,_),(1,_,_),(2,_,_),(3,_,_),(8, .int .i64 k.1.1,Zb k.1.1)],[(1000,hv, .own 51 3 l.length (Z9 k.1.2))]⟩) (fun k=>b-k.1.1) ⟨(a+1,l),Xd _,by dsimp only;omega, .refl _, .small leT _ (Xd _)⟩ ?_
 rintro ⟨⟨i,L0⟩,hi1,hi2,hS0,hO0⟩
 dsimp only
 dsimp only at hi1 hi2 hS0 hO0
 refine WL ?_;refine ZC ?_ ?_<;>intro hb14
 . (
 refine ZP ?_;refine Yl (ι:={q:Nat×List Nd//a<=q.1/\q.1<=i/\Sw a b l q.2/\Znn leT a i q.1 q.2}) (fun k=>⟨[(0,_,_),(1,_,_),(2,_,_),(3,_,_),(8,_,_),(9, .int .i64 k.1.1,Zb k.1.1)],[(1000,hv, .own 51 3 l.length (Z9 k.1.2))]⟩) (fun k=>k.1.1) ⟨(i,L0),by dsimp only;omega,Xd _,hS0,Zky leT hO0⟩ ?_;rintro ⟨⟨j,L⟩,hj1,hj2,hS,hI⟩;dsimp only;dsimp only at hj1 hj2 hS hI;have hLl:=hS.len;refine nav ?_;(refine Yx [] [1000] ?_<;>refine gDx 0 ?_<;>refine gEx 1 ?_<;>refine gEx 2 ?_<;>refine gEx 3 ?_<;>(refine bDd 21 (fun hb21=>?_) (fun hb21=>?_)<;>(first|refine kD 4 ?_|refine gDx 4 ?_))<;>(first|refine kD 5 ?_|(obtain ⟨k,rfl⟩:∃k,j=k+1:=⟨j-1,oM⟩;obtain ⟨x,hx⟩:=gS L (k+1);obtain ⟨y,hy⟩:=gS L k;have e1:=Yd hx;have e2:=YF hx;have e3:=Yd hy;have e4:=YF hy;have hsw:=Dg hx hy;have e5:(G7 (Z9 L) ((k+1)*3) (cN y)).length=(Z9 L).length:=RR _ _ _;refine gDx 5 ?_))<;>(first|refine kD 6 ?_|refine gDx 6 ?_)<;>(first|refine kD 7 ?_|refine xD 7 rfl (Zk 1000 Ye) ?_)<;>(first|refine kD 8 ?_|(refine yD 8 rfl (Zm 1000 ZL) fun v26 h=>?_;cases h))<;>(first|refine kD 9 ?_|refine gDx 9 ?_)<;>(first|refine kD 10 ?_|refine gDx 10 ?_)<;>(first|refine kD 11 ?_|refine xD 11 rfl ((Jj (c:=((k:Nat):Int)))) ?_)<;>(first|refine kD 12 ?_|refine xD 12 rfl (Zk 1000 Ye) ?_)<;>(first|refine kD 13 ?_|(refine yD 13 rfl (Zm 1000 ZL) fun v31 h=>?_;cases h))<;>(refine ZY 14 kR ?_)<;>(first|(refine Ym (d:=32) rfl (LW (f:=f) (ps:=[]) rfl ⟨_,rfl⟩ hc rfl (hf x (OF hS (Xb hx)) y (OF hS (Xb hy)))) fun v32 h=>?_;cases h)|(refine aWr fun bk=>?_;refine kL ?_;refine bE bk ?_))<;>(first|refine kD 15 ?_|refine gDx 15 ?_)<;>refine gEx 16 ?_<;>refine Wo ?_)<;>(
 refine cX ?_ ?_<;>intro hb34
 . first|exact bN hb34|(
 refine nav ?_;(refine Yx [] [] ?_<;>refine gDx 0 ?_<;>refine gDx 1 ?_<;>refine gDx 2 ?_<;>refine gDx 3 ?_<;>refine xD 4 rfl ((Jj (c:=((k:Nat):Int)))) ?_<;>refine gDx 5 ?_<;>refine gDx 6 ?_<;>refine xD 7 rfl ((Jj (c:=((k:Nat):Int)))) ?_<;>refine gDx 10 ?_<;>refine gDx 11 ?_<;>(refine WJ 8 12 kR ?_ ?_;rotate_right;(focus ((refine aWr fun bk=>?_)<;>refine xM (Zk 1000 Ye) ?_<;>refine bE bk ?_<;>(refine WJ 8 13 kR ?_ ?_;rotate_right;(focus ((refine aWr fun bk=>?_)<;>refine yU (Zm 1000 ZL) fun v50=>?_<;>refine bE bk ?_<;>(refine aDr 8 fun bk=>?_)<;>refine xM (Zk 1000 Ye) ?_<;>refine bE bk ?_<;>(refine aDr 9 fun bk=>?_)<;>refine yU (Zm 1000 ZL) fun v46=>?_<;>refine bE bk ?_<;>refine xE 14 rfl (Zk 1000 Ye) ?_<;>(refine aDr 15 fun bk=>?_)<;>refine Zn 1000 ZL ?_<;>refine bE bk ?_<;>refine xE 16 rfl (Zk 1000 Ye) ?_<;>(refine aDr 17 fun bk=>?_)<;>refine Zn 1000 ZL ?_<;>refine bE bk ?_));rotate_right;(focus ((refine aWr fun bk=>?_)<;>refine xM (Zk 1000 Ye) ?_<;>refine bE bk ?_<;>(refine WJ 9 13 kR ?_ ?_;rotate_right;(focus ((refine aWr fun bk=>?_)<;>refine yU (Zm 1000 ZL) fun v50=>?_<;>refine bE bk ?_<;>(refine aDr 9 fun bk=>?_)<;>refine yU (Zm 1000 ZL) fun v46=>?_<;>refine bE bk ?_<;>refine xE 14 rfl (Zk 1000 Ye) ?_<;>(refine aDr 15 fun bk=>?_)<;>refine Zn 1000 ZL ?_<;>refine bE bk ?_<;>refine xE 16 rfl (Zk 1000 Ye) ?_<;>(refine aDr 17 fun bk=>?_)<;>refine Zn 1000 ZL ?_<;>refine bE bk ?_));rotate_right;(focus ((refine aWr fun bk=>?_)<;>refine yU (Zm 1000 ZL) fun v46=>?_<;>refine bE bk ?_<;>(refine aDr 13 fun bk=>?_)<;>refine yU (Zm 1000 ZL) fun v50=>?_<;>refine bE bk ?_<;>refine xE 14 rfl (Zk 1000 Ye) ?_<;>(refine aDr 15 fun bk=>?_)<;>refine Zn 1000 ZL ?_<;>refine bE bk ?_<;>refine xE 16 rfl (Zk 1000 Ye) ?_<;>(refine aDr 17 fun bk=>?_)<;>refine Zn 1000 ZL ?_<;>refine bE bk ?_))))))));rotate_right;(focus ((refine aWr fun bk=>?_)<;>refine xM (Zk 1000 Ye) ?_<;>refine bE bk ?_<;>(refine WJ 9 12 kR ?_ ?_;rotate_right;(focus ((refine aWr fun bk=>?_)<;>refine xM (Zk 1000 Ye) ?_<;>refine bE bk ?_<;>(refine WJ 9 13 kR ?_ ?_;rotate_right;(focus ((refine aWr fun bk=>?_)<;>refine yU (Zm 1000 ZL) fun v50=>?_<;>refine bE bk ?_<;>(refine aDr 9 fun bk=>?_)<;>refine yU (Zm 1000 ZL) fun v46=>?_<;>refine bE bk ?_<;>refine xE 14 rfl (Zk 1000 Ye) ?_<;>(refine aDr 15 fun bk=>?_)<;>refine Zn 1000 ZL ?_<;>refine bE bk ?_<;>refine xE 16 rfl (Zk 1000 Ye) ?_<;>(refine aDr 17 fun bk=>?_)<;>refine Zn 1000 ZL ?_<;>refine bE bk ?_));rotate_right;(focus ((refine aWr fun bk=>?_)<;>refine yU (Zm 1000 ZL) fun v46=>?_<;>refine bE bk ?_<;>(refine aDr 13 fun bk=>?_)<;>refine yU (Zm 1000 ZL) fun v50=>?_<;>refine bE bk ?_<;>refine xE 14 rfl (Zk 1000 Ye) ?_<;>(refine aDr 15 fun bk=>?_)<;>refine Zn 1000 ZL ?_<;>refine bE bk ?_<;>refine xE 16 rfl (Zk 1000 Ye) ?_<;>(refine aDr 17 fun bk=>?_)<;>refine Zn 1000 ZL ?_<;>refine bE bk ?_)))));rotate_right;(focus ((refine aWr fun bk=>?_)<;>refine yU (Zm 1000 ZL) fun v46=>?_<;>refine bE bk ?_<;>(refine aDr 12 fun bk=>?_)<;>refine xM (Zk 1000 Ye) ?_<;>refine bE bk ?_<;>(refine aDr 13 fun bk=>?_)<;>refine yU (Zm 1000 ZL) fun v50=>?_<;>refine bE bk ?_<;>refine xE 14 rfl (Zk 1000 Ye) ?_<;>(refine aDr 15 fun bk=>?_)<;>refine Zn 1000 ZL ?_<;>refine bE bk ?_<;>refine xE 16 rfl (Zk 1000 Ye) ?_<;>(refine aDr 17 fun bk=>?_)<;>refine Zn 1000 ZL ?_<;>refine bE bk ?_))))))<;>refine Wo ?_)<;>(
 refine J2 ?_;refine xM ((Jj (c:=((k:Nat):Int)))) ?_;refine ZD ?_;rw [hsw];refine Yk (
  ⟨(k,swp L (k+1) k),by dsimp only;omega,by dsimp only;omega, .step _ _ hS oM oM oM oM h2,Zno leT hI oM oM oM hx hy (by unfold leT;omega)⟩
  )))
 refine YQ ?_
 first
  | (exact Yk (
      ⟨(i+1,L),by dsimp only;omega,by dsimp only;omega,hS,ZiI leT Ld (fun _ _ _=>Gc) hI oM oM (show i<L.length by omega) (.inr ⟨k,y,x,rfl,hy,hx,Tx oM⟩)⟩
      ))
  | (exact Yk (
      ⟨(i+1,L),by dsimp only;omega,by dsimp only;omega,hS,ZiI leT Ld (fun _ _ _=>Gc) hI oM oM (show i<L.length by omega) (.inl oM)⟩
      ))))
 refine nav ?_;refine PN [(1000,hv, .own 51 3 l.length (Z9 L0))] results282 sB ⟨L0,hS0,hO0.sub _ (Xd _) oM,by rw [hS0.len]⟩
def ZH:AggT prog 51 3=true:=kR
def Z7:SlT prog 49 51 3=true:=kR
def ζj {a s m:Nat} {l:List Nd} (h1:a<=s) (h2:s<=m) (h:¬(a<s/\s<m)) (g1:SrtS leT a s l) (g2:SrtS leT s m l):SrtS leT a m l:=by
 rcases XL a s with h3|h3
 . have:s=m:=oM;subst this;exact g1
 have:s=a:=oM;subst this;exact g2
def Znw {s m e k:Nat} (h1:s<=m) (h2:m<=e) (h:¬(s<m/\m<e)):PP s m e k=k:=by
 unfold PP
 split
 . rfl
 split<;>omega
def BsT (m b i j:Nat) (x:Nd) (l:List Nd):Prop:=m<=i/\i<=j/\j<=b/\(∀q y,m<=q->q<i->l[q]? =some y->leT y x)/\(∀q y,j<=q->q<b->l[q]? =some y->leT x y)
def ZeX (m b:Nat) (x:Nd) (l:List Nd) (h:m<=b):BsT m b m b x l:=⟨Xd _,h,Xd _,fun q y h1 h2=>oM,fun q y h1 h2=>oM⟩
def ZiO {m b i j c:Nat} {x y:Nd} {l:List Nd} (h:BsT m b i j x l) (hs:SrtS leT m b l) (h1:i<=c) (h2:c<j) (hy:l[c]? =some y) (hle:leT y x):BsT m b (c+1) j x l:=by
 obtain ⟨e1,e2,e3,e4,e5⟩:=h
 refine ⟨oM,oM,e3,fun q z k1 k2 hz=>?_,e5⟩
 exact Gc (hs.eqv leT Ld k1 (show q<=c by omega) oM hz hy) hle
def ζk {m b i j c:Nat} {x y:Nd} {l:List Nd} (h:BsT m b i j x l) (hs:SrtS leT m b l) (h1:i<=c) (h2:c<j) (hy:l[c]? =some y) (hle:leT x y):BsT m b i c x l:=by
 obtain ⟨e1,e2,e3,e4,e5⟩:=h
 refine ⟨e1,oM,oM,e4,fun q z k1 k2 hz=>?_⟩
 exact Gc hle (hs.eqv leT Ld (show m<=c by omega) k1 k2 hy hz)
def Znx (f : Nat) (hc:∀args w,(callFunc f args).run prog w= .ok (.enter f args) w) (hv:Value) (fv:Value):∀(n:Nat) (l:List Nd) (hl:l.length<=1000000) (hf:∀x∈l,∀y∈l,AF prog f [pTr x,pTr y] (· =Zb (WG x y))) (a m b:Nat) (hn:b-a<=n) (h1:a<m) (h2:m<b) (h3:b<=l.length) (s1:SrtS leT a m l) (s2:SrtS leT m b l),AFh False prog 283 [(0,hv, .val hv),(1, .int .i64 (a:Int),Zb a),(2, .int .i64 (m:Int),Zb m),(3, .int .i64 (b:Int),Zb b),(4,fv, .fn f [])] (Kz hv l) (fun v q h=>∃l',Sw a b l l'/\SrtS leT a b l'/\h=Kz hv l'):=fun n=>by
 induction n with
 |zero=>intro l hl hf a m b hn h1 h2;omega
 |succ n ih=>?_
 intro l hl hf a m b hn h1 h2 h3 s1 s2
 unfold Kz
 obtain ⟨xa,hxa⟩:=gS l a
 obtain ⟨xm,hxm⟩:=gS l m
 have ea:=Yd hxa
 have ea2:=YF hxa
 have em:=Yd hxm
 have em2:=YF hxm
 refine AFh.of_body 220 func283 rfl ntmps283 (Xa rfl) rfl ?_
 intro w0 M0 N0
 refine Zi ?_;refine LB ?_;refine ZC ?_ ?_<;>intro hb28
 . (
 refine Jh ?_;refine W2 ?_;refine Yl (ι:={q:Nat×Nat//BsT m b q.1 q.2 xa l}) (fun k=>⟨[(0,_,_),(1,_,_),(2,_,_),(3,_,_),(4,_,_),(10, .int .i64 k.1.1,Zb k.1.1),(11, .int .i64 k.1.2,Zb k.1.2)],[(1000,hv, .own 51 3 l.length (Z9 l))]⟩) (fun k=>k.1.2-k.1.1) ⟨(m,b),ZeX m b xa l oM⟩ ?_;rintro ⟨⟨i,j⟩,hB⟩;dsimp only;dsimp only at hB;have hB1:=hB.1;have hB2:=hB.2.1;have hB3:=hB.2.2.1;refine WL ?_;refine ZC ?_ ?_<;>intro hb33
 . (
 refine Kt ?_;refine xM ((Gy (c:=((i+j:Nat):Int)))) ?_;refine xM ((ZiL (a:=i+j) rfl rfl oM)) ?_;refine xM ((ζi (a:=i+j) rfl)) ?_;refine xM ((ZiM (a:=(i+j) / 2) rfl rfl oM)) ?_;refine ZD ?_;obtain ⟨y,hy⟩:=gS l ((i+j) / 2);have e3:=Yd hy;have e4:=YF hy;refine Yx [] [1000] ?_<;>refine gDx 0 ?_<;>refine gDx 1 ?_<;>refine gDx 2 ?_<;>refine xD 3 rfl (Zk 1000 Z7) ?_<;>(refine yD 4 rfl (Zm 1000 ZH) fun v44 h=>?_;cases h)<;>refine gDx 5 ?_<;>refine gEx 6 ?_<;>refine xE 7 rfl (Zk 1000 Z7) ?_<;>(refine yE 8 rfl (Zm 1000 ZH) fun v48 h=>?_;cases h)<;>(refine ZY 9 kR ?_)<;>(refine Ym (d:=49) rfl (LW (f:=f) (ps:=[]) rfl ⟨_,rfl⟩ hc rfl (hf y (Xb hy) xa (Xb hxa))) fun v49 h=>?_;cases h)<;>refine gEx 10 ?_<;>refine Wo ?_;refine cX ?_ ?_<;>intro hb50
 . (
 refine YQ ?_
 first
  | (exact Yk (
      ⟨((i+j) / 2+1,j),ZiO hB s2 oM oM hy (by unfold leT;omega)⟩
      ))
  | (exact Yk (
      ⟨(i,(i+j) / 2),ζk hB s2 oM oM hy (Tx oM)⟩
      )))
 refine ZP ?_
 first
  | (exact Yk (
      ⟨((i+j) / 2+1,j),ZiO hB s2 oM oM hy (by unfold leT;omega)⟩
      ))
  | (exact Yk (
      ⟨(i,(i+j) / 2),ζk hB s2 oM oM hy (Tx oM)⟩
      )))
 have hij:j=i:=oM;subst hij;have hM:Mov leT a b a j l:=ZkA leT (by rw [show a+1=m by omega];exact s2) oM (fun q x y h4 h5 hx hy=>by
  rw [hxa] at hx;cases hx;exact hB.2.2.2.1 q y oM h5 hy) (fun q x y h4 h5 hx hy=>by
  rw [hxa] at hx;cases hx;exact hB.2.2.2.2 q y h4 h5 hy)
 refine ZP ?_;refine Yl (ι:={q:Nat×List Nd//a<=q.1/\q.1+1<=j/\Sw a b l q.2/\Mov leT a b q.1 j q.2}) (fun k=>⟨[(0,_,_),(1,_,_),(2,_,_),(3,_,_),(4,_,_),(10,_,_),(13, .int .i64 k.1.1,Zb k.1.1)],[(1000,hv, .own 51 3 l.length (Z9 k.1.2))]⟩) (fun k=>j-k.1.1) ⟨(a,l),by dsimp only;omega,by dsimp only;omega, .refl _,hM⟩ ?_;rintro ⟨⟨k,L⟩,hk1,hk2,hS,hM2⟩;dsimp only;dsimp only at hk1 hk2 hS hM2;have hLl:=hS.len;refine Kt ?_;refine xM ((Jj (c:=((j-1:Nat):Int)))) ?_;refine Wg ?_ ?_<;>intro hb58
 . (
 have hkj:k+1<j:=oM;obtain ⟨x,hx⟩:=gS L k;obtain ⟨y,hy⟩:=gS L (k+1);have e1:=Yd hx;have e2:=YF hx;have e3:=Yd hy;have e4:=YF hy;have hsw:=Dg hx hy;have e5:(G7 (Z9 L) (k*3) (cN y)).length=(Z9 L).length:=RR _ _ _;refine nav ?_;(refine Yx [] [] ?_<;>refine gDx 0 ?_<;>refine gDx 1 ?_<;>refine gDx 2 ?_<;>refine gDx 3 ?_<;>refine xD 4 rfl ((Gy (c:=((k+1:Nat):Int)))) ?_<;>refine gDx 5 ?_<;>refine gDx 6 ?_<;>refine xD 7 rfl ((Gy (c:=((k+1:Nat):Int)))) ?_<;>refine gDx 10 ?_<;>refine gDx 11 ?_<;>(refine WJ 8 12 kR ?_ ?_;rotate_right;(focus ((refine aWr fun bk=>?_)<;>refine xM (Zk 1000 Z7) ?_<;>refine bE bk ?_<;>(refine WJ 8 13 kR ?_ ?_;rotate_right;(focus ((refine aWr fun bk=>?_)<;>refine yU (Zm 1000 ZH) fun v74=>?_<;>refine bE bk ?_<;>(refine aDr 8 fun bk=>?_)<;>refine xM (Zk 1000 Z7) ?_<;>refine bE bk ?_<;>(refine aDr 9 fun bk=>?_)<;>refine yU (Zm 1000 ZH) fun v70=>?_<;>refine bE bk ?_<;>refine xE 14 rfl (Zk 1000 Z7) ?_<;>(refine aDr 15 fun bk=>?_)<;>refine Zn 1000 ZH ?_<;>refine bE bk ?_<;>refine xE 16 rfl (Zk 1000 Z7) ?_<;>(refine aDr 17 fun bk=>?_)<;>refine Zn 1000 ZH ?_<;>refine bE bk ?_));rotate_right;(focus ((refine aWr fun bk=>?_)<;>refine xM (Zk 1000 Z7) ?_<;>refine bE bk ?_<;>(refine WJ 9 13 kR ?_ ?_;rotate_right;(focus ((refine aWr fun bk=>?_)<;>refine yU (Zm 1000 ZH) fun v74=>?_<;>refine bE bk ?_<;>(refine aDr 9 fun bk=>?_)<;>refine yU (Zm 1000 ZH) fun v70=>?_<;>refine bE bk ?_<;>refine xE 14 rfl (Zk 1000 Z7) ?_<;>(refine aDr 15 fun bk=>?_)<;>refine Zn 1000 ZH ?_<;>refine bE bk ?_<;>refine xE 16 rfl (Zk 1000 Z7) ?_<;>(refine aDr 17 fun bk=>?_)<;>refine Zn 1000 ZH ?_<;>refine bE bk ?_));rotate_right;(focus ((refine aWr fun bk=>?_)<;>refine yU (Zm 1000 ZH) fun v70=>?_<;>refine bE bk ?_<;>(refine aDr 13 fun bk=>?_)<;>refine yU (Zm 1000 ZH) fun v74=>?_<;>refine bE bk ?_<;>refine xE 14 rfl (Zk 1000 Z7) ?_<;>(refine aDr 15 fun bk=>?_)<;>refine Zn 1000 ZH ?_<;>refine bE bk ?_<;>refine xE 16 rfl (Zk 1000 Z7) ?_<;>(refine aDr 17 fun bk=>?_)<;>refine Zn 1000 ZH ?_<;>refine bE bk ?_))))))));rotate_right;(focus ((refine aWr fun bk=>?_)<;>refine xM (Zk 1000 Z7) ?_<;>refine bE bk ?_<;>(refine WJ 9 12 kR ?_ ?_;rotate_right;(focus ((refine aWr fun bk=>?_)<;>refine xM (Zk 1000 Z7) ?_<;>refine bE bk ?_<;>(refine WJ 9 13 kR ?_ ?_;rotate_right;(focus ((refine aWr fun bk=>?_)<;>refine yU (Zm 1000 ZH) fun v74=>?_<;>refine bE bk ?_<;>(refine aDr 9 fun bk=>?_)<;>refine yU (Zm 1000 ZH) fun v70=>?_<;>refine bE bk ?_<;>refine xE 14 rfl (Zk 1000 Z7) ?_<;>(refine aDr 15 fun bk=>?_)<;>refine Zn 1000 ZH ?_<;>refine bE bk ?_<;>refine xE 16 rfl (Zk 1000 Z7) ?_<;>(refine aDr 17 fun bk=>?_)<;>refine Zn 1000 ZH ?_<;>refine bE bk ?_));rotate_right;(focus ((refine aWr fun bk=>?_)<;>refine yU (Zm 1000 ZH) fun v70=>?_<;>refine bE bk ?_<;>(refine aDr 13 fun bk=>?_)<;>refine yU (Zm 1000 ZH) fun v74=>?_<;>refine bE bk ?_<;>refine xE 14 rfl (Zk 1000 Z7) ?_<;>(refine aDr 15 fun bk=>?_)<;>refine Zn 1000 ZH ?_<;>refine bE bk ?_<;>refine xE 16 rfl (Zk 1000 Z7) ?_<;>(refine aDr 17 fun bk=>?_)<;>refine Zn 1000 ZH ?_<;>refine bE bk ?_)))));rotate_right;(focus ((refine aWr fun bk=>?_)<;>refine yU (Zm 1000 ZH) fun v70=>?_<;>refine bE bk ?_<;>(refine aDr 12 fun bk=>?_)<;>refine xM (Zk 1000 Z7) ?_<;>refine bE bk ?_<;>(refine aDr 13 fun bk=>?_)<;>refine yU (Zm 1000 ZH) fun v74=>?_<;>refine bE bk ?_<;>refine xE 14 rfl (Zk 1000 Z7) ?_<;>(refine aDr 15 fun bk=>?_)<;>refine Zn 1000 ZH ?_<;>refine bE bk ?_<;>refine xE 16 rfl (Zk 1000 Z7) ?_<;>(refine aDr 17 fun bk=>?_)<;>refine Zn 1000 ZH ?_<;>refine bE bk ?_))))))<;>refine Wo ?_)<;>(
 refine G8 ?_;rw [hsw];refine Yk (
  ⟨(k+1,swp L k (k+1)),by dsimp only;omega,by dsimp only;omega, .step _ _ hS oM oM oM oM h3,Zkz leT hM2 oM oM hB3 oM⟩
  )))
 refine nav ?_;refine Zg8 (Kz hv L) results283 ⟨by rw [<-hLl];rfl,trivial⟩ ⟨L,hS,ZbA leT hM2 oM,rfl⟩)
 refine Zi ?_;refine LB ?_;refine ZC ?_ ?_<;>intro hb80
 . (
 refine Jh ?_;refine W2 ?_;refine Yl (ι:={q:Nat×Nat//BsT a m q.1 q.2 xm l}) (fun k=>⟨[(0,_,_),(1,_,_),(2,_,_),(3,_,_),(4,_,_),(14, .int .i64 k.1.1,Zb k.1.1),(15, .int .i64 k.1.2,Zb k.1.2)],[(1000,hv, .own 51 3 l.length (Z9 l))]⟩) (fun k=>k.1.2-k.1.1) ⟨(a,m),ZeX a m xm l oM⟩ ?_;rintro ⟨⟨i,j⟩,hB⟩;dsimp only;dsimp only at hB;have hB1:=hB.1;have hB2:=hB.2.1;have hB3:=hB.2.2.1;refine WL ?_;refine ZC ?_ ?_<;>intro hb85
 . (
 refine Kt ?_;refine xM ((Gy (c:=((i+j:Nat):Int)))) ?_;refine xM ((ZiL (a:=i+j) rfl rfl oM)) ?_;refine xM ((ζi (a:=i+j) rfl)) ?_;refine xM ((ZiM (a:=(i+j) / 2) rfl rfl oM)) ?_;refine ZD ?_;obtain ⟨y,hy⟩:=gS l ((i+j) / 2);have e3:=Yd hy;have e4:=YF hy;refine Yx [] [1000] ?_<;>refine gDx 0 ?_<;>refine gDx 1 ?_<;>refine gDx 2 ?_<;>refine xD 3 rfl (Zk 1000 Z7) ?_<;>(refine yD 4 rfl (Zm 1000 ZH) fun v96 h=>?_;cases h)<;>refine gDx 5 ?_<;>refine gEx 6 ?_<;>refine xE 7 rfl (Zk 1000 Z7) ?_<;>(refine yE 8 rfl (Zm 1000 ZH) fun v100 h=>?_;cases h)<;>(refine ZY 9 kR ?_)<;>(refine Ym (d:=101) rfl (LW (f:=f) (ps:=[]) rfl ⟨_,rfl⟩ hc rfl (hf xm (Xb hxm) y (Xb hy))) fun v101 h=>?_;cases h)<;>refine gEx 10 ?_<;>refine gEx 11 ?_<;>refine Wo ?_;refine cX ?_ ?_<;>intro hb103
 . (
 refine YQ ?_
 first
  | (exact Yk (
      ⟨((i+j) / 2+1,j),ZiO hB s1 oM oM hy (Tx (by simpa using hb103))⟩
      ))
  | (exact Yk (
      ⟨(i,(i+j) / 2),ζk hB s1 oM oM hy (by unfold leT;simp at hb103;omega)⟩
      )))
 refine ZP ?_
 first
  | (exact Yk (
      ⟨((i+j) / 2+1,j),ZiO hB s1 oM oM hy (Tx (by simpa using hb103))⟩
      ))
  | (exact Yk (
      ⟨(i,(i+j) / 2),ζk hB s1 oM oM hy (by unfold leT;simp at hb103;omega)⟩
      )))
 have hij:j=i:=oM;subst hij;have hbm:b=m+1:=oM;subst hbm;have hM:Mov leT a (m+1) m j l:=Znq leT s1 oM (fun q x y h4 h5 hx hy=>by
  rw [hxm] at hx;cases hx;exact hB.2.2.2.1 q y h4 h5 hy) (fun q x y h4 h5 hx hy=>by
  rw [hxm] at hx;cases hx;exact hB.2.2.2.2 q y h4 h5 hy)
 refine ZP ?_;refine Yl (ι:={q:Nat×List Nd//j<=q.1/\q.1<m+1/\Sw a (m+1) l q.2/\Mov leT a (m+1) q.1 j q.2}) (fun k=>⟨[(0,_,_),(1,_,_),(2,_,_),(3,_,_),(4,_,_),(14,_,_),(17, .int .i64 k.1.1,Zb k.1.1)],[(1000,hv, .own 51 3 l.length (Z9 k.1.2))]⟩) (fun k=>k.1.1) ⟨(m,l),by dsimp only;omega,by dsimp only;omega, .refl _,hM⟩ ?_;rintro ⟨⟨k,L⟩,hk1,hk2,hS,hM2⟩;dsimp only;dsimp only at hk1 hk2 hS hM2;have hLl:=hS.len;refine WL ?_;refine ZC ?_ ?_<;>intro hb110
 . (
 obtain ⟨k',rfl⟩:∃k',k=k'+1:=⟨k-1,oM⟩;obtain ⟨x,hx⟩:=gS L (k'+1);obtain ⟨y,hy⟩:=gS L k';have e1:=Yd hx;have e2:=YF hx;have e3:=Yd hy;have e4:=YF hy;have hsw:=Dg hx hy;have e5:(G7 (Z9 L) ((k'+1)*3) (cN y)).length=(Z9 L).length:=RR _ _ _;refine nav ?_;(refine Yx [] [] ?_<;>refine gDx 0 ?_<;>refine gDx 1 ?_<;>refine gDx 2 ?_<;>refine gDx 3 ?_<;>refine xD 4 rfl ((Jj (c:=((k':Nat):Int)))) ?_<;>refine gDx 5 ?_<;>refine gDx 6 ?_<;>refine xD 7 rfl ((Jj (c:=((k':Nat):Int)))) ?_<;>refine gDx 10 ?_<;>refine gDx 11 ?_<;>(refine WJ 8 12 kR ?_ ?_;rotate_right;(focus ((refine aWr fun bk=>?_)<;>refine xM (Zk 1000 Z7) ?_<;>refine bE bk ?_<;>(refine WJ 8 13 kR ?_ ?_;rotate_right;(focus ((refine aWr fun bk=>?_)<;>refine yU (Zm 1000 ZH) fun v126=>?_<;>refine bE bk ?_<;>(refine aDr 8 fun bk=>?_)<;>refine xM (Zk 1000 Z7) ?_<;>refine bE bk ?_<;>(refine aDr 9 fun bk=>?_)<;>refine yU (Zm 1000 ZH) fun v122=>?_<;>refine bE bk ?_<;>refine xE 14 rfl (Zk 1000 Z7) ?_<;>(refine aDr 15 fun bk=>?_)<;>refine Zn 1000 ZH ?_<;>refine bE bk ?_<;>refine xE 16 rfl (Zk 1000 Z7) ?_<;>(refine aDr 17 fun bk=>?_)<;>refine Zn 1000 ZH ?_<;>refine bE bk ?_));rotate_right;(focus ((refine aWr fun bk=>?_)<;>refine xM (Zk 1000 Z7) ?_<;>refine bE bk ?_<;>(refine WJ 9 13 kR ?_ ?_;rotate_right;(focus ((refine aWr fun bk=>?_)<;>refine yU (Zm 1000 ZH) fun v126=>?_<;>refine bE bk ?_<;>(refine aDr 9 fun bk=>?_)<;>refine yU (Zm 1000 ZH) fun v122=>?_<;>refine bE bk ?_<;>refine xE 14 rfl (Zk 1000 Z7) ?_<;>(refine aDr 15 fun bk=>?_)<;>refine Zn 1000 ZH ?_<;>refine bE bk ?_<;>refine xE 16 rfl (Zk 1000 Z7) ?_<;>(refine aDr 17 fun bk=>?_)<;>refine Zn 1000 ZH ?_<;>refine bE bk ?_));rotate_right;(focus ((refine aWr fun bk=>?_)<;>refine yU (Zm 1000 ZH) fun v122=>?_<;>refine bE bk ?_<;>(refine aDr 13 fun bk=>?_)<;>refine yU (Zm 1000 ZH) fun v126=>?_<;>refine bE bk ?_<;>refine xE 14 rfl (Zk 1000 Z7) ?_<;>(refine aDr 15 fun bk=>?_)<;>refine Zn 1000 ZH ?_<;>refine bE bk ?_<;>refine xE 16 rfl (Zk 1000 Z7) ?_<;>(refine aDr 17 fun bk=>?_)<;>refine Zn 1000 ZH ?_<;>refine bE bk ?_))))))));rotate_right;(focus ((refine aWr fun bk=>?_)<;>refine xM (Zk 1000 Z7) ?_<;>refine bE bk ?_<;>(refine WJ 9 12 kR ?_ ?_;rotate_right;(focus ((refine aWr fun bk=>?_)<;>refine xM (Zk 1000 Z7) ?_<;>refine bE bk ?_<;>(refine WJ 9 13 kR ?_ ?_;rotate_right;(focus ((refine aWr fun bk=>?_)<;>refine yU (Zm 1000 ZH) fun v126=>?_<;>refine bE bk ?_<;>(refine aDr 9 fun bk=>?_)<;>refine yU (Zm 1000 ZH) fun v122=>?_<;>refine bE bk ?_<;>refine xE 14 rfl (Zk 1000 Z7) ?_<;>(refine aDr 15 fun bk=>?_)<;>refine Zn 1000 ZH ?_<;>refine bE bk ?_<;>refine xE 16 rfl (Zk 1000 Z7) ?_<;>(refine aDr 17 fun bk=>?_)<;>refine Zn 1000 ZH ?_<;>refine bE bk ?_));rotate_right;(focus ((refine aWr fun bk=>?_)<;>refine yU (Zm 1000 ZH) fun v122=>?_<;>refine bE bk ?_<;>(refine aDr 13 fun bk=>?_)<;>refine yU (Zm 1000 ZH) fun v126=>?_<;>refine bE bk ?_<;>refine xE 14 rfl (Zk 1000 Z7) ?_<;>(refine aDr 15 fun bk=>?_)<;>refine Zn 1000 ZH ?_<;>refine bE bk ?_<;>refine xE 16 rfl (Zk 1000 Z7) ?_<;>(refine aDr 17 fun bk=>?_)<;>refine Zn 1000 ZH ?_<;>refine bE bk ?_)))));rotate_right;(focus ((refine aWr fun bk=>?_)<;>refine yU (Zm 1000 ZH) fun v122=>?_<;>refine bE bk ?_<;>(refine aDr 12 fun bk=>?_)<;>refine xM (Zk 1000 Z7) ?_<;>refine bE bk ?_<;>(refine aDr 13 fun bk=>?_)<;>refine yU (Zm 1000 ZH) fun v126=>?_<;>refine bE bk ?_<;>refine xE 14 rfl (Zk 1000 Z7) ?_<;>(refine aDr 15 fun bk=>?_)<;>refine Zn 1000 ZH ?_<;>refine bE bk ?_<;>refine xE 16 rfl (Zk 1000 Z7) ?_<;>(refine aDr 17 fun bk=>?_)<;>refine Zn 1000 ZH ?_<;>refine bE bk ?_))))))<;>refine Wo ?_)<;>(
 refine J2 ?_;refine xM ((Jj (c:=((k':Nat):Int)))) ?_;refine ZD ?_;rw [hsw];refine Yk (
  ⟨(k',swp L (k'+1) k'),by dsimp only;omega,by dsimp only;omega, .step _ _ hS oM oM oM oM h3,Znp leT hM2 oM oM oM oM⟩
  )))
 have hkj:k=j:=oM;subst hkj;refine nav ?_;refine Zg8 (Kz hv L) results283 ⟨by rw [<-hLl];rfl,trivial⟩ ⟨L,hS,Zdm leT hM2,rfl⟩)
 have hlo:=Znu h1 h2;have hmid:(a+b) / 2<b:=oM;refine Kt ?_;refine xM ((Gy (c:=((a+b:Nat):Int)))) ?_;refine xM ((ZiL (a:=a+b) rfl rfl oM)) ?_;refine xM ((ζi (a:=a+b) rfl)) ?_;refine xM ((ZiM (a:=(a+b) / 2) rfl rfl oM)) ?_;refine ZW ?_;refine YW ?_;refine xM ((Gy (c:=(((a+b) / 2+m:Nat):Int)))) ?_;refine ZW ?_;refine JF ?_;refine Zip ?_;refine Ja (fun _:Unit=>⟨[(0,hv, .val hv),(1, .int .i64 (a:Int),Zb a),(2, .int .i64 (m:Int),Zb m),(3, .int .i64 (b:Int),Zb b),(4,fv, .fn f []),(18, .int .i64 (((a+b) / 2:Nat):Int),Zb (((a+b) / 2:Nat):Int)),(19, .int .i64 (((a+b) / 2+m:Nat):Int),Zb (((a+b) / 2+m:Nat):Int)),(20, .int .i64 (loM a m b:Int),Zb (loM a m b)),(21, .int .i64 (hiM a m b:Int),Zb (hiM a m b))],Kz hv l⟩) ?_ ?_
 . refine cX ?_ ?_<;>intro hb140
   . (
 refine Kt ?_;refine xM ((Jj (c:=((loM a m b:Nat):Int)) (hc:=by unfold loM;rw [Qd oM];omega))) ?_;refine ZW ?_;refine xM ((Zdq (c:=((hiM a m b:Nat):Int)) (hc:=by unfold hiM;rw [Qd oM]))) ?_;refine ZD ?_;exact Yo () sB sB)
   . (
 refine Zi ?_;refine xM ((Zdq (c:=((loM a m b:Nat):Int)) (hc:=by unfold loM;rw [Qc oM]))) ?_;refine ZW ?_;refine xM ((Zdq (c:=((hiM a m b:Nat):Int)) (hc:=by unfold hiM;rw [Qc oM]))) ?_;refine ZD ?_;exact Yo () sB sB)
 . intro _;unfold Kz;refine Wp ?_;refine xM ((Jj (c:=(((a+b) / 2+m-1:Nat):Int)))) ?_;refine ZD ?_;refine Yl (ι:={q:Nat×Nat//Thr leT (loM a m b) (hiM a m b) ((a+b) / 2+m-1) q.1 q.2 l}) (fun k=>⟨[(0,_,_),(1,_,_),(2,_,_),(3,_,_),(4,_,_),(18,_,_),(19,_,_),(22,_,_),(20, .int .i64 k.1.1,Zb k.1.1),(21, .int .i64 k.1.2,Zb k.1.2)],[(1000,hv, .own 51 3 l.length (Z9 l))]⟩) (fun k=>k.1.2-k.1.1) ⟨(loM a m b,hiM a m b),ZkB leT l hlo.2.1⟩ ?_;rintro ⟨⟨i,j⟩,hT⟩;dsimp only;dsimp only at hT;have hB1:=hT.1;have hB2:=hT.2.1;have hB3:=hT.2.2.1;refine WL ?_;refine ZC ?_ ?_<;>intro hb151
   . (
 refine Kt ?_;refine xM ((Gy (c:=((i+j:Nat):Int)))) ?_;refine xM ((ZiL (a:=i+j) rfl rfl oM)) ?_;refine xM ((ζi (a:=i+j) rfl)) ?_;refine xM ((ZiM (a:=(i+j) / 2) rfl rfl oM)) ?_;refine ZD ?_;obtain ⟨x,hx⟩:=gS l ((i+j) / 2);have e1:=Yd hx;have e2:=YF hx;obtain ⟨y,hy⟩:=get_some (show (a+b) / 2+m-1-(i+j) / 2<l.length by omega);have e3:=Yd hy;have e4:=YF hy;refine Yx [] [1000] ?_<;>refine gDx 0 ?_<;>refine gDx 1 ?_<;>refine gDx 2 ?_<;>refine gDx 3 ?_<;>refine xD 4 rfl ((Jj (c:=(((a+b) / 2+m-1-(i+j) / 2:Nat):Int)))) ?_<;>refine xD 5 rfl (Zk 1000 Z7) ?_<;>(refine yD 6 rfl (Zm 1000 ZH) fun v164 h=>?_;cases h)<;>refine gDx 7 ?_<;>refine gEx 8 ?_<;>refine xE 9 rfl (Zk 1000 Z7) ?_<;>(refine yE 10 rfl (Zm 1000 ZH) fun v168 h=>?_;cases h)<;>(refine ZY 11 kR ?_)<;>(refine Ym (d:=169) rfl (LW (f:=f) (ps:=[]) rfl ⟨_,rfl⟩ hc rfl (hf y (Xb hy) x (Xb hx))) fun v169 h=>?_;cases h)<;>refine gEx 12 ?_<;>refine gEx 13 ?_<;>refine Wo ?_;refine cX ?_ ?_<;>intro hb171
 . (
 refine YQ ?_
 first
  | (exact Yk (
      ⟨((i+j) / 2+1,j),Znt Ld (fun _ _ _=>Gc) hT s1 s2 oM oM hlo.1 hlo.2.2.1 hlo.2.2.2.1 hlo.2.2.2.2.1 h3 hx hy (Tx (by simpa using hb171))⟩
      ))
  | (exact Yk (
      ⟨(i,(i+j) / 2),ZeV Ld (fun _ _ _=>Gc) hT s1 s2 oM oM hlo.1 hlo.2.2.1 hlo.2.2.2.1 hlo.2.2.2.2.1 h3 hx hy (by unfold leT;simp at hb171;omega)⟩
      )))
 refine ZP ?_
 first
  | (exact Yk (
      ⟨((i+j) / 2+1,j),Znt Ld (fun _ _ _=>Gc) hT s1 s2 oM oM hlo.1 hlo.2.2.1 hlo.2.2.2.1 hlo.2.2.2.2.1 h3 hx hy (Tx (by simpa using hb171))⟩
      ))
  | (exact Yk (
      ⟨(i,(i+j) / 2),ZeV Ld (fun _ _ _=>Gc) hT s1 s2 oM oM hlo.1 hlo.2.2.1 hlo.2.2.2.1 hlo.2.2.2.2.1 h3 hx hy (by unfold leT;simp at hb171;omega)⟩
      )))
   . (
 have hij:j=i:=oM;subst hij;have hj1:j<=(a+b) / 2:=oM;have hj2:j<=m:=oM;refine Kt ?_;refine xM ((Jj (c:=(((a+b) / 2+m-j:Nat):Int)))) ?_;refine ZW ?_;(refine LB ?_<;>(refine bLd 181 (fun hb181=>?_) (fun hb181=>?_)<;>refine kZ ?_)<;>refine RG ?_)<;>(
 refine Ja (fun L1:{L1:List Nd//(∀k,L1[k]? =l[PP j m ((a+b) / 2+m-j) k]?)/\Sw a b l L1}=>⟨[(0,hv, .val hv),(1, .int .i64 (a:Int),Zb a),(2, .int .i64 (m:Int),Zb m),(3, .int .i64 (b:Int),Zb b),(4,fv, .fn f []),(18, .int .i64 (((a+b) / 2:Nat):Int),Zb (((a+b) / 2:Nat):Int)),(20, .int .i64 (j:Int),Zb j),(24, .int .i64 (((a+b) / 2+m-j:Nat):Int),Zb (((a+b) / 2+m-j:Nat):Int))],Kz hv L1.1⟩) ?_ ?_
 . refine cX ?_ ?_<;>intro hb185
   . first|exact bN hb185|(
 refine Zi ?_;refine ZbT ?_;(refine Gn (Kz hv l) sB ?_;refine Rs [] 191 call288 (ZkD l hl j m ((a+b) / 2+m-j) oM oM oM hv fv f) (fun v191 p191 h191 hR191=>?_);obtain ⟨L1,hL1,hS1,rfl⟩:=hR191;have hL1l:=hS1.len;dsimp only [Kz]);refine ZZ ?_
 first
 |exact Yo ⟨L1,hL1,hS1.mono oM oM h3⟩ sB sB
 |exact Yo ⟨l,fun k=>by rw [Znw oM oM oM], .refl _⟩ sB sB)
   . (
 refine nav ?_
 first
 |exact Yo ⟨L1,hL1,hS1.mono oM oM h3⟩ sB sB
 |exact Yo ⟨l,fun k=>by rw [Znw oM oM oM], .refl _⟩ sB sB)
 . rintro ⟨L1,hL1,hS1⟩;dsimp only;have hL1l:=hS1.len;obtain ⟨g1,g2,g3,g4,g5,g6,g7,g8,g9⟩:=ZkC Ld (fun _ _ _=>Gc) h1 h2 h3 s1 s2 hT hL1;have hf1:∀x∈L1,∀y∈L1,AF prog f [pTr x,pTr y] (· =Zb (WG x y)):=fun x hx y hy=>hf x (OF hS1 hx) y (OF hS1 hy);unfold Kz;refine Zi ?_;(refine LB ?_<;>(refine bLd 195 (fun hb195=>?_) (fun hb195=>?_)<;>refine kZ ?_)<;>refine RG ?_)<;>(
 refine Ja (fun L2:{L2:List Nd//Sw a ((a+b) / 2) L1 L2/\SrtS leT a ((a+b) / 2) L2}=>⟨[(0,hv, .val hv),(1, .int .i64 (a:Int),Zb a),(2, .int .i64 (m:Int),Zb m),(3, .int .i64 (b:Int),Zb b),(4,fv, .fn f []),(18, .int .i64 (((a+b) / 2:Nat):Int),Zb (((a+b) / 2:Nat):Int)),(20, .int .i64 (j:Int),Zb j),(24, .int .i64 (((a+b) / 2+m-j:Nat):Int),Zb (((a+b) / 2+m-j:Nat):Int))],Kz hv L2.1⟩) ?_ ?_
 . refine cX ?_ ?_<;>intro hb199
   . first|exact bN hb199|(
 refine Zi ?_;refine ZbT ?_;(refine Gn (Kz hv L1) sB ?_;refine Rs [] 205 call283 (ih L1 oM hf1 a j ((a+b) / 2) oM oM oM oM g1 g2) (fun v205 p205 h205 hR205=>?_);obtain ⟨L2,hS2,hO2,rfl⟩:=hR205;have hL2l:=hS2.len;dsimp only [Kz]);refine ZZ ?_
 first
 |exact Yo ⟨L2,hS2,hO2⟩ sB sB
 |exact Yo ⟨L1, .refl _,ζj g5 g6 oM g1 g2⟩ sB sB)
   . (
 refine nav ?_
 first
 |exact Yo ⟨L2,hS2,hO2⟩ sB sB
 |exact Yo ⟨L1, .refl _,ζj g5 g6 oM g1 g2⟩ sB sB)
 . rintro ⟨L2,hS2,hO2⟩;dsimp only;have hL2l:=hS2.len;have hf2:∀x∈L2,∀y∈L2,AF prog f [pTr x,pTr y] (· =Zb (WG x y)):=fun x hx y hy=>hf1 x (OF hS2 hx) y (OF hS2 hy);have g3':SrtS leT ((a+b) / 2) ((a+b) / 2+m-j) L2:=g3.ext leT fun k k1 k2=>hS2.out (.inr k1);have g4':SrtS leT ((a+b) / 2+m-j) b L2:=g4.ext leT fun k k1 k2=>hS2.out (.inr oM);unfold Kz;refine Zi ?_;(refine LB ?_<;>(refine bLd 209 (fun hb209=>?_) (fun hb209=>?_)<;>refine kZ ?_)<;>refine RG ?_)<;>(
 refine cX ?_ ?_<;>intro hb213
 . first|exact bN hb213|(
 refine Zi ?_;refine ZbT ?_;(refine Gn (Kz hv L2) sB ?_;refine Rs [] 219 call283 (ih L2 oM hf2 ((a+b) / 2) ((a+b) / 2+m-j) b oM oM oM oM g3' g4') (fun v219 p219 h219 hR219=>?_);obtain ⟨L3,hS3,hO3,rfl⟩:=hR219;have hL3l:=hS3.len;dsimp only [Kz]);refine ZZ ?_
 first
 |exact PN (Kz hv L3) results283 sB ⟨L3,hS1.trans ((hS2.mono (Xd _) oM oM).trans (hS3.mono oM (Xd _) oM)),PQ oM oM oM g9 hS2 hS3 hO2 hO3,rfl⟩
 |exact PN (Kz hv L2) results283 sB ⟨L2,hS1.trans (hS2.mono (Xd _) oM oM),PQ oM oM oM g9 hS2 (.refl _) hO2 (ζj g7 g8 oM g3' g4'),rfl⟩)
 refine nav ?_
 first
 |exact PN (Kz hv L3) results283 sB ⟨L3,hS1.trans ((hS2.mono (Xd _) oM oM).trans (hS3.mono oM (Xd _) oM)),PQ oM oM oM g9 hS2 hS3 hO2 hO3,rfl⟩
 |exact PN (Kz hv L2) results283 sB ⟨L2,hS1.trans (hS2.mono (Xd _) oM oM),PQ oM oM oM g9 hS2 (.refl _) hO2 (ζj g7 g8 oM g3' g4'),rfl⟩))))
end Go.Proofs.YtmkojdfiadbeeaaGreat
namespace Go.En
open Go.RowKit Go.Cb
section
variable {P:Program} {c:Ctx} {sL hP:List (Nat×Ent)}
end
section
variable {P:Program} {c:Ctx} {sL hP:List (Nat×Ent)}
end
section
variable {P:Program} {st:St} {o:Oper}
def ER {t e k e' k' n a:Nat} {x y:Operand} {h:Value} {p q:PV} {cs:List PV} {kd:IntKind} {i:Int} (l:Nat) (hT:SlT P t e k=true) (ho:o.op= .indexAddr t x y) (hx:ev st.slots x=some (slc h a n k,p)) (hy:ev st.slots y=some (.int kd i,q)) (hl:lk st.heap l=some (h, .own e' k' n cs)) (h0:0<=i) (h1:(a:Int)+i<n) {m:Nat} (hm:m=(a+i.toNat)*k):
 YE P st o (· =padd (sbase h) m) (.val (padd (sbase h) m)):=
 .exact fun M F w' w H=>by
  subst hm;have hv:=(H.ev hx).1;have hi:=(H.ev hy).1;obtain ⟨g,cap,rfl,hc,_⟩:=GM (H.tr l _ _ hl) oM;refine ⟨.val _,?_⟩;have hca:cap≠a:=oM;simp only [slc,hca,if_false,VY,Kk,XC] at hv;simp [execOp,ho,hv,hi,Ri hT h0 (show i<((n-a:Nat):Int) by omega),sbase,padd,X3]
def ZkE {t e k e' k' n a:Nat} {x:Operand} {h:Value} {p:PV} {cs:List PV} (l:Nat) (hT:SlT P t e k=true) (ho:o.op= .call {callee:= .builtin .len,args:= #[x],argTypes:= #[t]}) (hx:ev st.slots x=some (slc h a n k,p)) (hl:lk st.heap l=some (h, .own e' k' n cs)) {m:Nat} (hm:m=n-a):YE P st o (· = .int .i64 m) (.val (.int .i64 m)):=
 .exact fun M F w' w H=>by
  subst hm;have hv:=(H.ev hx).1;obtain ⟨xs,Fs,hrow,hlen,_⟩:=(H.tr l _ _ hl).row;rcases Kv hrow with ⟨rfl,rfl,_⟩|⟨g,cap,rfl,h1,h2,h3⟩
  . exact ⟨.val _,by simp [execOp,ho,hv,resolve,invoke,builtin,Builtin.len_,run_underlying (SlT.und hT),goInt,slc]⟩
  exact ⟨.val _,by simp [execOp,ho,hv,resolve,invoke,builtin,Builtin.len_,run_underlying (SlT.und hT),goInt,slc]⟩
end
end Go.En
namespace Go.Proofs.YtmkojdfiadbeeaaGreat
open Go.RowKit Go.Cb Go.En Tryz
def Ty:AggT prog 51 3=true:=kR
def ZkF:ElT prog 49 51 3 48 (.agg #[(.int .i64 0),(.string ByteArray.empty),(.slice none 0 0)]):=⟨underlying49,by kernel_rfl,rfl,dC⟩
def K7:SlT prog 49 51 3=true:=kR
def ZeY (w n:Nat) (l:List Nd):Prop:=∀c,SrtS leT (c*w) (min (c*w+w) n) l
def HU {w n a:Nat} {l:List Nd} (ha:∃c,a=c*w) (hn:n<a+w) (h:∀c,c*w+w<=a->SrtS leT (c*w) (c*w+w) l) (hs:SrtS leT a n l):ZeY w n l:=fun c=>by
 obtain ⟨c0,rfl⟩:=ha
 rcases VB c c0 with h1|h1|h1
 . have:(c+1)*w<=c0*w:=Vx w h1;rw [Vt] at this;exact (h c this).sub leT (Xd _) (Nat.min_le_left _ _)
 . subst h1;rw [UX oM];exact hs
 have:(c0+1)*w<=c*w:=Vx w h1;rw [Vt] at this;exact SrtS.small leT l (by have:=Nat.min_le_right (c*w+w) n;omega)
def Zqc {w n a:Nat} {l:List Nd} (h:ZeY w n l) (ha:∃c,a=c*(w*2)) (hn:a+w*2<=n):SrtS leT a (a+w) l/\SrtS leT (a+w) (a+w*2) l:=by
 obtain ⟨c,rfl⟩:=ha
 have e1:c*2*w=c*(w*2):=by rw [Nat.mul_assoc,VH 2 w]
 have h1:=h (c*2)
 have h2:=h (c*2+1)
 rw [Vt] at h2
 rw [e1] at h1 h2
 rw [Vb oM] at h1 h2
 exact ⟨h1,by rw [show c*(w*2)+w*2=c*(w*2)+w+w by omega];exact h2⟩
def Zny {w n a:Nat} {l:List Nd} (h:ZeY w n l) (ha:∃c,a=c*(w*2)) (hn:n<a+w*2) (hw:0<w):SrtS leT a (min (a+w) n) l/\SrtS leT (a+w) n l:=by
 obtain ⟨c,rfl⟩:=ha
 have e1:c*2*w=c*(w*2):=by rw [Nat.mul_assoc,VH 2 w]
 have h1:=h (c*2)
 have h2:=h (c*2+1)
 rw [Vt] at h2
 rw [e1] at h1 h2
 exact ⟨h1,by rw [UX oM] at h2;exact h2⟩
def Zqd {w n:Nat} {l:List Nd} (h:ZeY w n l) (hw:n<=w):SrtS leT 0 n l:=by
 have:=h 0
 rw [X8,XC,UX hw] at this;exact this
def Zqe {l:List Nd} (h:SrtS leT 0 l.length l):AscT l:=by
 rw [AscT,XW]
 intro i j hi hj hij
 exact h i j _ _ (Xg _) hij hj (Xr hi) (Xr hj)
def ZkG (f : Nat) (hc:∀args w,(callFunc f args).run prog w= .ok (.enter f args) w) (hv:Value) (fv:Value) (l:List Nd) (hl:l.length<=1000000) (hf:∀x∈l,∀y∈l,AF prog f [pTr x,pTr y] (· =Zb (WG x y))):AFh False prog 265 [(0,hv, .val hv),(1, .int .i64 (l.length:Int),Zb l.length),(2,fv, .fn f [])] (Kz hv l) (fun v q h=>h=Kz hv (Zbz l)):=by
 have hfp:∀{L:List Nd},Sw 0 l.length l L->∀x∈L,∀y∈L,AF prog f [pTr x,pTr y] (· =Zb (WG x y)):=fun hS x hx y hy=>hf x (OF hS hx) y (OF hS hy)
 have hn:l.length<=l.length:=Xd _
 unfold Kz
 refine AFh.of_body 63 func265 rfl ntmps265 (Xa rfl) rfl ?_
 intro w0 M0 N0
 refine WK ?_;refine Zip ?_
 refine Yl (ι:={q:Nat×List Nd//(∃c,q.1=c*20)/\q.1<=l.length/\Sw 0 l.length l q.2/\∀c,c*20+20<=q.1->SrtS leT (c*20) (c*20+20) q.2}) (fun k=>⟨[(0,_,_),(1,_,_),(2,_,_),(6,_,_),(7, .int .i64 k.1.1,Zb k.1.1),(8, .int .i64 ((k.1.1+20:Nat):Int),Zb ((k.1.1+20:Nat):Int))],[(1000,hv, .own 51 3 l.length (Z9 k.1.2))]⟩) (fun k=>l.length-k.1.1) ⟨(0,l),⟨0,rfl⟩,Xg _, .refl _,fun c h=>by dsimp only at h;omega⟩ ?_
 rintro ⟨⟨a,L⟩,ha,han,hS,hO⟩
 dsimp only
 dsimp only at ha han hS hO;have hLl:=hS.len
 refine WL ?_;refine ZC ?_ ?_<;>intro hb13
 . (
 refine Zi ?_;refine LB ?_;(refine Gn (Kz hv L) ⟨by rw [<-hLl];rfl,trivial⟩ ?_;refine Rs [] 18 call282 (Znv f hc L oM (hfp hS) a (a+20) oM oM hv fv) (fun v18 p18 h18 hR18=>?_);obtain ⟨L2,hS2,hO2,rfl⟩:=hR18;have hL2l:=hS2.len;dsimp only [Kz];rw [hL2l,hLl]);refine YT ?_;refine JF ?_;refine YW ?_;refine xM ((Gy (c:=((a+20+20:Nat):Int)))) ?_;refine ZD ?_;refine Yk (
  ⟨(a +20,L2),by obtain ⟨c,hc'⟩:=ha;exact ⟨c+1,by dsimp only;omega⟩,by dsimp only;omega,hS.trans (hS2.mono (Xg _) oM oM),fun c h=>by
    dsimp only at h ⊢;obtain ⟨c0,hc0⟩:=ha;rcases XL c c0 with h1|h1
    . exact (hO c oM).ext leT fun k k1 k2=>hS2.out (.inl oM)
    . have:c=c0:=oM;subst this;rw [<-hc0];exact hO2⟩
  ))
 have hna:l.length<a+20:=oM;refine Zi ?_;refine LB ?_;(refine Gn (Kz hv L) ⟨by rw [<-hLl];rfl,trivial⟩ ?_;refine Rs [] 27 call282 (Znv f hc L oM (hfp hS) a l.length oM oM hv fv) (fun v27 p27 h27 hR27=>?_);obtain ⟨L1,hS1,hO1,rfl⟩:=hR27;have hL1l:=hS1.len;dsimp only [Kz];rw [hL1l,hLl];have hS1':Sw 0 l.length l L1:=hS.trans (hS1.mono (Xg _) (Xd _) oM);have hB1:ZeY 20 l.length L1:=HU ha hna (fun c h=>(hO c h).ext leT fun k k1 k2=>hS1.out (.inl oM)) hO1);refine ZZ ?_;refine Yl (ι:={q:Nat×List Nd//1<=q.1/\q.1<=2000000/\Sw 0 l.length l q.2/\ZeY q.1 l.length q.2}) (fun k=>⟨[(0,_,_),(1,_,_),(2,_,_),(6, .int .i64 k.1.1,Zb k.1.1)],[(1000,hv, .own 51 3 l.length (Z9 k.1.2))]⟩) (fun k=>l.length-k.1.1) ⟨(20,L1),by dsimp only;omega,by dsimp only;omega,hS1',hB1⟩ ?_;rintro ⟨⟨w,L⟩,hw1,hw2,hS,hB⟩;dsimp only;dsimp only at hw1 hw2 hS hB;have hLl:=hS.len;refine WL ?_;refine ZC ?_ ?_<;>intro hb30
 . (
 refine Wp ?_;refine xM ((Zdp (c:=((w*2:Nat):Int)))) ?_;refine W2 ?_;refine Yl (ι:={q:Nat×List Nd//(∃c,q.1=c*(w*2))/\q.1<=l.length/\Sw 0 l.length l q.2/\(∀c,c*(w*2)+w*2<=q.1->SrtS leT (c*(w*2)) (c*(w*2)+w*2) q.2)/\∀k,q.1<=k->q.2[k]? =L[k]? }) (fun k=>⟨[(0,_,_),(1,_,_),(2,_,_),(6,_,_),(7, .int .i64 k.1.1,Zb k.1.1),(8, .int .i64 ((w*2+k.1.1:Nat):Int),Zb ((w*2+k.1.1:Nat):Int))],[(1000,hv, .own 51 3 l.length (Z9 k.1.2))]⟩) (fun k=>l.length-k.1.1) ⟨(0,L),⟨0,(X8 _).symm⟩,Xg _,hS,fun c h=>by dsimp only at h;omega,fun _ _=>rfl⟩ ?_;rintro ⟨⟨a,K⟩,ha,han,hSK,hO,hU⟩;dsimp only;dsimp only at ha han hSK hO hU;have hKl:=hSK.len;refine WL ?_;refine ZC ?_ ?_<;>intro hb35
 . (
 have hab:a+w*2<=l.length:=oM;have hb2:=Zqc hB ha hab;have g1:SrtS leT a (a+w) K:=hb2.1.ext leT fun k k1 k2=>hU k k1;(have g2:SrtS leT (a+w) (w*2+a) K:=by rw [Nat.add_comm (w*2) a];exact hb2.2.ext leT fun k k1 k2=>hU k oM);refine Zi ?_;refine LB ?_;refine xM ((Gy (c:=((a+w:Nat):Int)))) ?_;refine YW ?_;(refine Gn (Kz hv K) ⟨by rw [<-hKl];rfl,trivial⟩ ?_;refine Rs [] 43 call283 (Znx f hc hv fv _ K oM (hfp hSK) a (a+w) (w*2+a) (Xd _) oM oM oM g1 g2) (fun v43 p43 h43 hR43=>?_);obtain ⟨K2,hS2,hO2,rfl⟩:=hR43;have hK2l:=hS2.len;dsimp only [Kz];rw [hK2l,hKl]);refine YT ?_;refine JF ?_;refine YW ?_;refine xM ((Zdp (c:=((w*2:Nat):Int)))) ?_;refine xM ((Gy (c:=((w*2+(w*2+a):Nat):Int)))) ?_;refine ZD ?_;refine Yk (
  ⟨(w *2+a,K2),by obtain ⟨c,hc'⟩:=ha;exact ⟨c+1,by dsimp only;rw [Vt];omega⟩,by dsimp only;omega,hSK.trans (hS2.mono (Xg _) oM oM),fun c h=>by
    dsimp only at h ⊢;obtain ⟨c0,hc0⟩:=ha;rcases VB c c0 with h1|h1|h1
    . have:(c+1)*(w*2)<=c0*(w*2):=Vx _ h1;rw [Vt] at this;exact (hO c oM).ext leT fun k k1 k2=>hS2.out (.inl oM)
    . subst h1;rw [<-hc0,Nat.add_comm a (w*2)];exact hO2
    . have:(c0+1)*(w*2)<=c*(w*2):=Vx _ h1;rw [Vt] at this;omega,fun k hk=>by dsimp only at hk ⊢;rw [hS2.out (.inr hk)];exact hU k oM⟩
  ))
 have hna:l.length<a+w*2:=oM;have hb3:=Zny hB ha hna hw1;have g1:SrtS leT a (min (a+w) l.length) K:=hb3.1.ext leT fun k k1 k2=>hU k k1;have g2:SrtS leT (a+w) l.length K:=hb3.2.ext leT fun k k1 k2=>hU k oM;refine Kt ?_;refine xM ((Gy (c:=((a+w:Nat):Int)))) ?_;refine D5 ?_;refine ZC ?_ ?_<;>intro hb54
 . (
 rw [Vb oM] at g1;refine Zi ?_;refine ZbT ?_;(refine Gn (Kz hv K) ⟨by rw [<-hKl];rfl,trivial⟩ ?_;refine Rs [] 60 call283 (Znx f hc hv fv _ K oM (hfp hSK) a (a+w) l.length (Xd _) oM oM oM g1 g2) (fun v60 p60 h60 hR60=>?_);obtain ⟨K2,hS2,hO2,rfl⟩:=hR60;have hK2l:=hS2.len;dsimp only [Kz];rw [hK2l,hKl]);refine YT ?_;refine YU ?_;refine xM ((Zdp (c:=((w*2:Nat):Int)))) ?_;refine ZD ?_
 first
  | (exact Yk (
      ⟨(w*2,K),by dsimp only;omega,by dsimp only;omega,hSK,HU ha hna hO g1⟩
      ))
  | (exact Yk (
      ⟨(w*2,K2),by dsimp only;omega,by dsimp only;omega,hSK.trans (hS2.mono (Xg _) oM oM),show ZeY (w*2) l.length K2 from HU ha hna (fun c h=>(hO c h).ext leT fun k k1 k2=>hS2.out (.inl oM)) hO2⟩
      )))
 rw [UX oM] at g1;refine Wp ?_;refine xM ((Zdp (c:=((w*2:Nat):Int)))) ?_;refine ZD ?_
 first
  | (exact Yk (
      ⟨(w*2,K),by dsimp only;omega,by dsimp only;omega,hSK,HU ha hna hO g1⟩
      ))
  | (exact Yk (
      ⟨(w*2,K2),by dsimp only;omega,by dsimp only;omega,hSK.trans (hS2.mono (Xg _) oM oM),show ZeY (w*2) l.length K2 from HU ha hna (fun c h=>(hO c h).ext leT fun k k1 k2=>hS2.out (.inl oM)) hO2⟩
      )))
 refine nav ?_;have hso:=Zqd hB oM;rw [<-hLl] at hso;refine PN [(1000,hv, .own 51 3 l.length (Z9 L))] results265 sB ?_;rw [<-ZpU (Zqe hso) hS.perm];rw [hLl]
def ZkH (f:Nat) (hc:∀args w,(callFunc f args).run prog w= .ok (.enter f args) w) (hv:Value) (fv:Value) (l:List Nd) (hl:l.length<=1000000) (hf:∀x∈l,∀y∈l,AF prog f [pTr x,pTr y] (· =Zb (WG x y))):AFh False prog 225 [(0,hv, .val hv),(1,fv, .fn f [])] (Kz hv l) (fun v q h=>h=Kz hv (Zbz l)):=by
 unfold Kz
 refine AFh.of_body 9 func225 rfl ntmps225 (Xa rfl) rfl ?_
 intro w0 M0 N0
 refine Zi ?_
 refine xL 4 Za (xL 5 Za (xL 6 (Wu 1000 K7) (xL 7 Za ?_)));refine Gn (Kz hv l) sB ?_;refine Rs [] 8 call265 (ZkG f hc hv fv l hl hf) (fun v8 p8 h8 hR8=>?_);subst hR8;dsimp only [Kz];refine ZZ ?_
 exact PN (Kz hv (Zbz l)) results225 sB rfl
def Zqf {l:List Nd} (h:1<=l.length):Tw (l.take 1)=l.take 1:=by
 cases l with
 |nil=>simp at h
 |cons x l=>rfl
def ZeZ {l:List Nd} (hs:AscT l) {p:Nat} {x y:Nd} (hy:l[p]? =some y) (hx:l[p+1]? =some x) (he:SP x y=true):Tw (l.take (p+1+1))=Tw (l.take (p+1)):=by
 have e:=Jm.1 he
 subst e
 refine ζ3 (TR _ (hs.sublist (UY _ _))) (TR _ (hs.sublist (UY _ _))) fun z=>?_
 rw [Le,Le,ZR hx,XD,XE]
 exact ⟨fun h=>h.elim id fun h=>by subst h;rw [ZR hy];exact List.mem_append_right _ (XE.2 rfl), .inl⟩
def ZiP {l:List Nd} (hs:AscT l) {i j:Nat} {x y:Nd} (hij:i<j) (hx:l[i]? =some x) (hy:l[j]? =some y):leT x y:=by
 obtain ⟨h1,rfl⟩:=Xk.1 hx
 obtain ⟨h2,rfl⟩:=Xk.1 hy
 exact XW.1 hs i j h1 h2 hij
def ZiQ {l:List Nd} (hs:AscT l) {p:Nat} {x y:Nd} (hy:l[p]? =some y) (hx:l[p+1]? =some x) (he:SP x y=false):Tw (l.take (p+1+1))=Tw (l.take (p+1))++[x]:=by
 have hyx:WG y x<0:=HL (ZiP hs oM hy hx) fun e=>by rw [Jm.2 e.symm] at he;cases he
 refine ζ3 (TR _ (hs.sublist (UY _ _))) ?_ fun z=>?_
 . refine UG.2 ⟨TR _ (hs.sublist (UY _ _)),Ua ..,fun z hz w hw=>?_⟩;rw [XE.1 hw];rw [Le] at hz;obtain ⟨i,hi⟩:=XM hz;have hi':=Zd hi;rw [XA] at hi';rw [X1 oM] at hi;by_cases e:i=p
   . subst e;rw [hi] at hy;cases hy;exact hyx
   have h:=ZiP hs (show i<p by omega) hi hy;by_cases e2:z=y
   . subst e2;exact hyx
   have:=HL h e2;have t1:=SL z y;have t2:=SL y x;have:=Zdc z y x oM oM;omega
 rw [XD,Le,XE,ZR hx,Le,XD,XE]
def D' {α β:Type} {f:α->List β} {m:Nat} (hf:∀x,(f x).length=m):∀(L:List α) (k:Nat),(L.flatMap f).take (k*m)=(L.take k).flatMap f
 |[],k=>sM
 |x::L,0=>sM
 | x::L,k+1=>by
   rw [UF,Xq,Xq,<-D' hf L k,List.take_append,Xs (by rw [hf,X3];omega),hf,show (k+1)*m-m=k*m by rw [X3];omega]
def Znz {hv:Value} (h:hv.oneCell'=true) (i j k:Nat):(slc hv i j k).oneCell'=true:=by
 unfold slc;split
 . rfl
 exact h
def Zds (f : Nat) (hc:∀args w,(callFunc f args).run prog w= .ok (.enter f args) w) (fv:Value) (l:List Nd) (hl:l.length<=1000000) (hs:AscT l) (hf:∀x∈l,∀y∈l,AF prog f [pTr x,pTr y] (· =Zr (SP x y))) (hv:Value) (hvo:hv.oneCell'=true):AFh False prog 227 [(0,hv, .val hv),(1,fv, .fn f [])] [(1000,hv, .own 51 3 l.length (Z9 l))] (fun v q h=>v.oneCell'=true/\q= .val v/\h=[(1000,v, .own 51 3 (Tw l).length (Z9 (Tw l)))]):=by
 refine AFh.of_body 66 func227 rfl ntmps227 (Xa rfl) rfl ?_
 intro w0 M0 N0
 refine WK ?_
 refine xL 8 Za (xL 9 (Wu 1000 K7) (xL 10 Yn ?_));refine ZC ?_ ?_<;>intro hb10
 . (
 refine ZP ?_;refine ZeP [(1000,hv,PV.own 51 3 l.length (Z9 l))] results227 rfl sB ⟨hvo,rfl,?_⟩;have hm:Tw l=l:=by
  match l,hl,hb10 with
  |[],_,_=>rfl
  |[_],_,_=>rfl
  |_::_::_,_,h=>simp at h;omega
 rw [hm])
 refine ZF ?_;refine Yl (ι:={k:Nat//1<=k/\k<=l.length/\Tw (l.take k)=l.take k}) (fun k=>⟨[(0,_,_),(1,_,_),(5, .int .i64 k.1,Zb k.1)],[(1000,_,_)]⟩) (fun k=>l.length-k.1) ⟨1,Xd _,oM,Zqf oM⟩ ?_;rintro ⟨k1,hk1,hk,hmk⟩;dsimp only;obtain ⟨k,rfl⟩:∃k,k1=k+1:=⟨k1-1,oM⟩;refine Zi ?_;refine xL 12 Za (xL 13 Za (xL 14 (Wu 1000 K7) (xL 15 Yn ?_)));refine ZC ?_ ?_<;>intro hb15
 . (
 obtain ⟨x,hx⟩:=gS l (k+1);obtain ⟨y,hy⟩:=gS l k;have e1:=Yd hx;have e2:=YF hx;have e3:=Yd hy;have e4:=YF hy;have hlt:k+1<l.length:=Zd hx;refine nav ?_;refine Yx [] [1000] ?_<;>refine gDx 0 ?_<;>refine gDx 1 ?_<;>refine gDx 2 ?_<;>refine xD 3 rfl (Zk 1000 K7) ?_<;>(refine yD 4 rfl (Zm 1000 Ty) fun v22 h=>?_;cases h)<;>refine gDx 5 ?_<;>refine gEx 6 ?_<;>refine xE 7 rfl ((Jj (c:=((k:Nat):Int)))) ?_<;>refine xE 8 rfl (Zk 1000 K7) ?_<;>(refine yE 9 rfl (Zm 1000 Ty) fun v27 h=>?_;cases h)<;>(refine ZY 10 kR ?_)<;>(refine Ym (d:=28) rfl (LW (f:=f) (ps:=[]) rfl ⟨_,rfl⟩ hc rfl (hf x (Xb hx) y (Xb hy))) fun v28 h=>?_;cases h)<;>refine Wo ?_;refine cX ?_ ?_<;>intro hb28
 . (
 have hsm:=ZeZ hs hy hx (by unfold SP;simpa using hb28);(have hl1:(Tw (l.take (k+1+1))).length=k+1:=by rw [hsm,hmk,XA];omega);refine Kt ?_;refine xM (RU (i:=k+1) (j:=l.length) 1000 K7 rfl rfl rfl rfl rfl (Nat.le_of_lt hlt) (Xd _)) ?_;refine KG ?_;refine Yl (ι:={q:Nat×Nat×List Nd//1<=q.1/\k+1+q.1<=l.length/\q.2.1=(Tw (l.take (k+1+q.1))).length/\q.2.2.length=l.length/\q.2.2.take q.2.1=Tw (l.take (k+1+q.1))/\q.2.1<=k+q.1/\∀i,k+q.1<=i->q.2.2[i]? =l[i]? }) (fun k=>⟨[(0,_,_),(1,_,_),(6,_,_),(5, .int .i64 k.1.2.1,Zb k.1.2.1),(7, .int .i64 k.1.1,Zb k.1.1)],[(1000,hv, .own 51 3 l.length (Z9 k.1.2.2))]⟩) (fun k=>l.length-k.1.1) ⟨(1,k+1,l),Xd _,by dsimp only;omega,hl1.symm,rfl,by dsimp only;rw [hsm,hmk],Xd _,fun i _=>rfl⟩ ?_;rintro ⟨⟨j,K,L⟩,hj1,hj,hK,hLl,hLt,hKj,hLr⟩;dsimp only;dsimp only at hj1 hj hK hLl hLt hKj hLr;obtain ⟨j',rfl⟩:∃j',j=j'+1:=⟨j-1,oM⟩;have hK2:(K:Int)<=1000000:=oM;rw [show k+1+(j'+1)=k+1+j'+1 from rfl] at hK hLt;refine Kt ?_;refine xM ((ZkE (a:=k+1) (m:=l.length-(k+1)) 1000 K7 rfl rfl rfl rfl)) ?_;refine Wg ?_ ?_<;>intro hb35
 . (
 obtain ⟨u,hu⟩:=gS l (k+1+(j'+1));obtain ⟨v,hv2⟩:=gS l (k+1+j');(have hu':L[k+1+(j'+1)]? =some u:=by rw [hLr _ oM];exact hu);(have hv':L[k+1+j']? =some v:=by rw [hLr _ oM];exact hv2);have g1:=Yd hu';have g2:=YF hu';have g3:=Yd hv';have g4:=YF hv';have g5:K<L.length:=oM;(have g6:K*3+3<=(Z9 L).length:=by rw [TU];omega);refine nav ?_;refine Yx [] [1000] ?_<;>refine gDx 0 ?_<;>refine gDx 1 ?_<;>refine gDx 2 ?_<;>refine xD 3 rfl ((ER (a:=k+1) (m:=(k+1+(j'+1))*3) 1000 K7 rfl rfl rfl rfl oM oM oM)) ?_<;>(refine yD 4 rfl (Zm 1000 Ty) fun v42 h=>?_;cases h)<;>refine gDx 5 ?_<;>refine gEx 6 ?_<;>refine xE 7 rfl ((Jj (c:=((j':Nat):Int)))) ?_<;>refine xE 8 rfl ((ER (a:=k+1) (m:=(k+1+j')*3) 1000 K7 rfl rfl rfl rfl oM oM oM)) ?_<;>(refine yE 9 rfl (Zm 1000 Ty) fun v47 h=>?_;cases h)<;>(refine ZY 10 kR ?_)<;>(refine Ym (d:=48) rfl (LW (f:=f) (ps:=[]) rfl ⟨_,rfl⟩ hc rfl (hf u (Xb hu) v (Xb hv2))) fun v48 h=>?_;cases h)<;>refine gEx 11 ?_<;>refine Wo ?_;refine cX ?_ ?_<;>intro hb49
 . (
 have hnw2:=ZiQ hs hv2 hu (by simpa using hb49);have hset:=Zdr L K u g5;(have hlen2:K+1=(Tw (l.take (k+1+j'+1+1))).length:=by rw [hnw2,Xe,Xz,hK]);have htk2:(L.set K u).take (K+1)=Tw (l.take (k+1+j'+1+1)):=by
  rw [hnw2,<-hLt,List.take_set,ZR (Xr g5),Vr _ _ (by rw [XA];omega),XA,Vb oM,Vg];rfl
 refine Zi ?_;refine LB ?_;refine xM ((ER (a:=k+1) (m:=(k+1+(j'+1))*3) 1000 K7 rfl rfl rfl rfl oM oM oM)) ?_;refine yU (Zm 1000 Ty) fun v55=>?_;refine xM (Zk 1000 K7) ?_;refine Zn 1000 Ty ?_;refine YT ?_;refine Y8 ?_;refine D7 ?_;try rw [hset]
 first
  | (exact Yk (
      ⟨(j'+1+1,K+1,L.set K u),by dsimp only;omega,by dsimp only;omega,hlen2,by dsimp only;rw [Xm];exact hLl,htk2,by dsimp only;omega,fun i hi=>by dsimp only at hi ⊢;rw [X9 oM];exact hLr i oM⟩
      ))
  | (exact Yk (
      ⟨(j'+1+1,K,L),by dsimp only;omega,by dsimp only;omega,hK.trans (by rw [show k+1+(j'+1+1)=k+1+j'+1+1 by omega,hsm2]),hLl,hLt.trans (by rw [show k+1+(j'+1+1)=k+1+j'+1+1 by omega,hsm2]),by dsimp only;omega,fun i hi=>hLr i (by dsimp only at hi;omega)⟩
      )))
 have hsm2:=ZeZ hs hv2 hu (by simpa using hb49);refine YQ ?_;try rw [hset]
 first
  | (exact Yk (
      ⟨(j'+1+1,K+1,L.set K u),by dsimp only;omega,by dsimp only;omega,hlen2,by dsimp only;rw [Xm];exact hLl,htk2,by dsimp only;omega,fun i hi=>by dsimp only at hi ⊢;rw [X9 oM];exact hLr i oM⟩
      ))
  | (exact Yk (
      ⟨(j'+1+1,K,L),by dsimp only;omega,by dsimp only;omega,hK.trans (by rw [show k+1+(j'+1+1)=k+1+j'+1+1 by omega,hsm2]),hLl,hLt.trans (by rw [show k+1+(j'+1+1)=k+1+j'+1+1 by omega,hsm2]),by dsimp only;omega,fun i hi=>hLr i (by dsimp only at hi;omega)⟩
      )))
 have hall:l.take (k+1+j'+1)=l:=Xs oM;rw [hall] at hK hLt;have hKl:K<=l.length:=oM;refine Kt ?_;refine xM (RU (i:=K) (j:=l.length) 1000 K7 rfl rfl rfl rfl rfl hKl (Xd _)) ?_;refine ZeQ 1000 ZkF dC rfl rfl rfl rfl rfl hKl ?_;intro cs2 hcs1 hcs2;refine D6 ?_;refine xM (RU (i:=0) (j:=K) 1000 K7 rfl rfl rfl rfl rfl (Xg _) hKl) ?_;refine ZD ?_;refine YK (Zta (l:=1000) K rfl hKl) fun _=>?_;refine ZeP [(1000,slc hv 0 K 3,PV.own 51 3 K (cs2.take (K*3)))] results227 rfl sB ⟨Znz hvo _ _ _,rfl,?_⟩;rw [hcs2,<-hLt,W5,D' RL,<-W5];rw [show (L.take K).length=K by rw [XA];omega])
 have hnw:=ZiQ hs hy hx (by unfold SP;simpa using hb28);rw [hmk,<-ZR hx] at hnw;refine YQ ?_;refine Yk (
  ⟨k+1+1,oM,oM,hnw⟩
  ))
 refine ZP ?_;refine ZeP [(1000,hv,PV.own 51 3 l.length (Z9 l))] results227 rfl sB ⟨hvo,rfl,?_⟩;rw [Xs (show l.length<=k+1 by omega)] at hmk;rw [hmk]
def Lq:AggT prog 51 3=true:=kR
def ES:ElT prog 49 51 3 48 (.agg #[(.int .i64 0),(.string ByteArray.empty),(.slice none 0 0)]):=⟨underlying49,by kernel_rfl,rfl,dC⟩
def CG:FldT prog 51 0 0=true:=kR
def Ze0:FldT prog 51 2 2=true:=kR
def Ze1:NoAgg prog 3=true:=kR
def ZkI:NoAgg prog 49=true:=kR
def Dh:SlT prog 49 51 3=true:=kR
def Zcb:Gk prog 51=some ((.agg #[(.int .i64 0),(.string ByteArray.empty),(.slice none 0 0)]),([0,1,2]:List Nat).map fun o=>(o,1)):=kR
def Zcc:ZeroT prog 51 (.agg #[(.int .i64 0),(.string ByteArray.empty),(.slice none 0 0)]):=by unfold ZeroT;kernel_rfl
def SQ (t:Nd):szT t=1+szL t.l:=by cases t;rw [szT];rfl
def Ze2 {l m:List Nd} (h:l.Perm m):szL l=szL m:=by
 induction h with
 |nil=>rfl
 |cons x _ ih=>rw [szL,szL,ih]
 |swap x y l=>simp only [szL];omega
 |trans _ _ h1 h2=>exact h1.trans h2
def ZiR:∀l:List Nd,szL (Tw l)<=szL l
 |[]=>Xd _
 |[x]=>Xd _
 | x::y::m=>by
   have:=ZiR (y::m);rw [Tw];split
   . rw [szL];omega
   rw [szL,szL];omega
def Zdt (op:Int) (l:List Nd):szL (Kw op l)<=szL l:=by
 induction l with
 |nil=>exact Xd _
 | cons x l ih=>
   unfold Kw at ih ⊢;rw [Xq,Ln,szL];have:szL (if x.op=op then x.l else if x.op≠2\/op=4 then [x] else [])<=szT x:=by
    split
    . rw [SQ];omega
    split
    . simp [szL]
    simp [szL]
   omega
def GP (l:List Nd):l.length<=szL l:=by
 induction l with
 |nil=>exact Xd _
 |cons x l ih=>have:=Ziu x;rw [szL,Xh];omega
def ZiS (op:Int) (p:List Nd):szL (RI op p)<=szL p:=by
 unfold RI
 split
 . exact Xd _
 split
 . exact XI (ZiR _) (Nat.le_of_eq (Ze2 (LC p)))
 exact Nat.le_of_eq (Ze2 (LC p))
def Zse (op:Int):∀p:List Nd,szT (EJ op p)<=1+szL p
 |[]=>by rw [EJ];exact Xd _
 |[x]=>by rw [EJ,szL];omega
 |x::y::l=>by rw [EJ,szT];exact Xd _
def ZiT (op:Int) (l:List Nd):szT (R5 op l)<=1+szL l:=by
 unfold R5
 have h1:=Zse op (RI op (Kw op l))
 have h2:=ZiS op (Kw op l)
 have h3:=Zdt op l
 omega
def Zqg (f s:Nd):szT (Gv f s).1+szT (Gv f s).2<=szT f+szT s:=by
 unfold Gv
 split
 . split
   . rename_i a b r hl;have h1:=ZiT 4 [b,s];have h2:=SQ f;rw [hl] at h2;simp only [szL] at h1 h2 ⊢;omega
   exact Xd _
 exact Xd _
def Zsf (l:List Nd):szT (ZpW l)<=1+szL l:=by
 match l with
 |[]=>exact Ub 1 _
 |[x]=>exact Ub 1 _
 | f::s::r=>
   have h:=Zqg f s;rw [ZpW,ζ4];split
   . exact Ub 1 _
   rw [szT];simp only [szL];omega
def Zsg (o:Int) (a:BA) (l:List Nd):szT (ζ5 o a l)<=1+szL l:=by
 unfold ζ5
 split
 . rw [szT,szL];omega
 split
 . exact Zsf l
 exact ZiT o l
def OG:∀t:Nd,szT (Yt t)<=szT t:=Nd.ind fun o a l ih=>by
 rw [Yt,szT]
 have h1:=Zsg o a (Kh l)
 have h2:szL (Kh l)<=szL l:=by
  clear h1;induction l with
  |nil=>exact Xd _
  | cons x l ih2=>
    rw [Kh,szL,szL];have h3:=ih x (Xu ..);have h4:=ih2 fun y hy=>ih y (Xt _ hy);omega
 omega
def ZkJ {s:BA} (h:isName s=true):s.size<=40:=by
 rcases XL 40 s.size with h1|h1
 . rw [PI (.inr h1)] at h;cases h
 exact h1
def Ze3 {t:Nd} (h:rightT t=true):t.act.size<=40:=by
 unfold rightT at h
 split at h
 . simp only [Xf] at h;exact ZkJ h.2
 split at h
 . simp only [Xf,U'] at h;rw [h.2];decide
 split at h
 . simp only [Xf,U'] at h;rw [h.2];decide
 split at h
 . simp only [Xf,U'] at h;rw [h.2];decide
 cases h
def Di:∀t:Nd,okT t=true->szT t<=1000000->FitT t:=Nd.ind fun o a l ih hok hs=>by
 obtain ⟨h1,h2⟩:=J3.1 hok
 have h3:=SQ (.mk o a l)
 have h4:=GP l
 have h5:=Ze3 h1
 have h6:=R6 h1
 simp only [Nd.l,Nd.act,Nd.op] at h3 h5 h6 h2
 refine .mk _ (by show l.length<=_;omega) (by show a.size<=_;omega) (by show _<=o;omega) (by show o<=_;omega) fun x hx=>?_
 have h7:=PM (show x∈l from hx)
 exact ih x hx (h2 x hx) oM
def ET {t:Nd} (h:okT t=true):okT (Yt t)=true:=(Zm2 t h).ok
def Sk {t:Nd} (h:okT t=true) (hs:szT t<=1000000):FitT (Yt t):=Di _ (ET h) (XI (OG t) hs)
def ZnA (op:Int) {l:List Nd} {k:Nat} {x:Nd} (h:l[k]? =some x):Kw op (l.take (k+1))=Kw op (l.take k)++(if x.op=op then x.l else if x.op≠2\/op=4 then [x] else []):=by
 unfold Kw
 rw [ZR h,XR,Ud]
def ZnB {op:Int} {l:List Nd} {y:Nd} (h:y∈Kw op l):∃x∈l,y=x\/y∈x.l:=by
 unfold Kw at h
 obtain ⟨x,hx,hy⟩:=Us.1 h
 split at hy
 . exact ⟨x,hx, .inr hy⟩
 split at hy
 . exact ⟨x,hx, .inl (XE.1 hy)⟩
 cases hy
def Zqh {op:Int} {l:List Nd} (h:∀x∈l,FitT x):∀y∈Kw op l,FitT y:=fun y hy=>by
 obtain ⟨x,hx,h1|h1⟩:=ZnB hy
 . rw [h1];exact h x hx
 exact (h x hx).p y h1
def HV (op:Int) (l:List Nd) (k:Nat):(Kw op (l.take k)).length<=szL l:=by
 have h1:=GP (Kw op (l.take k))
 have h2:=Zdt op (l.take k)
 have h3:szL (l.take k)<=szL l:=by
  conv=>rhs;rw [<-Vw k l]
  rw [Ln];omega
 omega
def Sl (l:List Nd):(Z9 l).all En.one=true:=by
 rw [W5,Xj]
 intro p hp
 obtain ⟨x,_,hx⟩:=Us.1 hp
 rcases Xi.1 hx with h|hx
 . subst h;rfl
 rcases Xi.1 hx with h|hx
 . subst h;rfl
 rcases Xi.1 hx with h|hx
 . subst h;rfl
 cases hx
def LF (l:List Nd) (x:Nd):Z9 l++cN x=Z9 (l++[x]):=by
 rw [W5,W5,XR,Ud]
def Zag (l m:List Nd):Z9 l++Z9 m=Z9 (l++m):=by
 rw [W5,W5,W5,XR]
def EU:Rr (.agg [.val (.int .i64 2), .val (.string ByteArray.empty), .val (.slice none 0 0)]) (pTr HM):=Rr.agg rfl fun i a b ha hb=>by
 match i with
 |0=>cases ha;cases hb;exact Rr.rfl' _
 |1=>cases ha;cases hb;exact Rr.rfl' _
 |2=>cases ha;cases hb;exact Rr.nil
 |i+3=>simp at ha
def JK (e n:Nat) (l:List Nd) (hn:n=l.length):share (.own e 3 n (Z9 l))=YJ l:=by
 subst hn
 rw [share,YG,W5,Uv]
 unfold YJ
 rw [W5];rfl
def sS (op:Int) (p:List Nd):List Nd:=if op=3 then p else Zbz p
def Zsh (op:Int) (p:List Nd):(sS op p).length=p.length:=by
 unfold sS;split
 . rfl
 exact (LC p).length_eq
def Zsi {op:Int} {p:List Nd} (h:op≠4):sS op p=RI op p:=by
 unfold sS RI
 by_cases h3:op=3
 . rw [Qd h3,Qd h3]
 rw [Qc h3,Qc h3,Qc h]
def ZnC {op:Int} {p:List Nd} {x:Nd}:x∈sS op p->x∈p:=by
 unfold sS;split
 . exact id
 exact (LC p).mem_iff.1
def ζl (op : Int) (l:List Nd) (h1: -9223372036854775808<=op) (h2:op<=9223372036854775807) (hF:∀x∈l,FitT x) (hn:szL l<=1000000):AF prog 183 [Zb op,YJ l] (· =pTr (R5 op l)):=by
 have hll:l.length<=1000000:=XI (GP l) hn
 refine AF.b2 57 func183 rfl ntmps183 (Xa rfl) ?_
 rintro w0 M0 _ v1 rfl-
 refine Zi ?_
 refine Zt zT 3 4 Zcc fun h4=>?_;refine YT ?_;refine ZD ?_
 refine Zs (YO 1000 51 3 rfl) fun _=>?_
 refine Zp ?_;refine xL 8 Za (xL 9 (Zu Dh) (xL 10 Za ?_));refine ZZ ?_
 refine Yl (ι:={q:Nat×Value//q.1<=l.length/\q.2.oneCell'=true}) (fun k=>⟨[(0,_,_),(4,_,_),(8,_,_),(9,_,_),(5,k.1.2, .val k.1.2),(10, .int .i64 k.1.1,Zb k.1.1)],[(4,_,_),(1000,k.1.2, .own 51 3 (Kw op (l.take k.1.1)).length (Z9 (Kw op (l.take k.1.1))))]⟩) (fun k=>l.length-k.1.1) ⟨(0, .slice none 0 0),Xg _,rfl⟩ ?_
 rintro ⟨⟨k,hO⟩,hk,hOo⟩
 dsimp only
 dsimp only at hk hOo
 have hpl:=HV op l k
 have hpl2:=HV op l (k+1)
 refine Ys ?_ ?_<;>intro hb11
 . (
 obtain ⟨x,hx⟩:=gS l k;have e1:((Z9 l).drop (k*3)).take 3=[Zb x.op,Zx x.act,YJ x.l]:=Yd hx;have e2:=YF hx;have hsn:=ZnA op hx;have hxf:=hF x (Xb hx);have f1:(Z9 x.l).length=x.l.length*3:=TU _;have f2:=Sl x.l;refine Zi ?_;refine xM (Ze Dh) ?_;refine yU (We Lq) fun v13=>?_;refine Zt zT 3 7 Zcc fun h7=>?_;refine Zn 7 Lq ?_;refine YT ?_;refine xM (Zc 7 CG) ?_;refine yV (Zf 7 Ze1) ?_;refine Y8 ?_;refine ZC ?_ ?_<;>intro hb14
 . (
 rw [Qd hb14] at hsn;(have hsl:(Kw op (l.take (k+1))).length=(Kw op (l.take k)).length+x.l.length:=by rw [hsn,Xe]);refine Zi ?_;refine xL 19 Za (xL 20 (Zc 7 Ze0) ?_);refine yU (Zf 7 ZkI) fun v21=>?_;refine Ka 1000 22 ES (fun h22 ho22=>?_) f1 f2;refine Zz (ZK (l:=22) 1000 rfl rfl) fun _=>?_;refine Zz (Wm (l:=1000) (p':= .own 51 3 (Kw op (l.take (k+1))).length (Z9 (Kw op (l.take (k+1))))) rfl (by rw [Zag,<-hsn,hsl])) fun _=>?_;refine J1 ?_
 first
  | (exact Yk (
      ⟨(k+1,h22),Zd hx,ho22⟩
      ))
  | (exact Yk (
      ⟨(k+1,h34),Zd hx,ho34⟩
      ))
  | (exact Yk (
      ⟨(k+1,hO),Zd hx,hOo⟩
      )))
 rw [Qc hb14] at hsn;refine Zi ?_;(refine xM (Zc 7 CG) ?_<;>refine yV (Zf 7 Ze1) ?_<;>refine YW ?_<;>(refine bLd 27 (fun hb27=>?_) (fun hb27=>?_)<;>refine kZ ?_)<;>refine KR ?_)<;>(
 refine cX ?_ ?_<;>intro hb23
 . (
 rw [Qd oM] at hsn;(have hsl:(Kw op (l.take (k+1))).length=(Kw op (l.take k)).length+1:=by rw [hsn,Xe];rfl);refine Wp ?_;refine yU (Zm 7 Lq) fun v32=>?_;refine Wy 33 ES fun h33 ho33=>?_;refine Y7 1000 33 34 ES fun h34 ho34=>?_;refine Zz (ZK (l:=34) 1000 rfl rfl) fun _=>?_;refine Zz (Wm (l:=1000) (p':= .own 51 3 (Kw op (l.take (k+1))).length (Z9 (Kw op (l.take (k+1))))) rfl (Eq.trans (congrArg (PV.own 51 3 _) (show _=Z9 (Kw op (l.take k))++cN x from rfl)) (by rw [LF,<-hsn,hsl]))) fun _=>?_;refine J1 ?_
 first
  | (exact Yk (
      ⟨(k+1,h22),Zd hx,ho22⟩
      ))
  | (exact Yk (
      ⟨(k+1,h34),Zd hx,ho34⟩
      ))
  | (exact Yk (
      ⟨(k+1,hO),Zd hx,hOo⟩
      )))
 . first |exact bN hb23|(
 rw [Qc oM,Xo] at hsn;refine Zs (Wm (l:=1000) (p':= .own 51 3 (Kw op (l.take (k+1))).length (Z9 (Kw op (l.take (k+1))))) rfl (by rw [hsn])) fun _=>?_;refine ZP ?_
 first
  | (exact Yk (
      ⟨(k+1,h22),Zd hx,ho22⟩
      ))
  | (exact Yk (
      ⟨(k+1,h34),Zd hx,ho34⟩
      ))
  | (exact Yk (
      ⟨(k+1,hO),Zd hx,hOo⟩
      )))))
 rw [Xs (show l.length<=k by omega)];rw [Xs (show l.length<=k by omega)] at hpl;have hFp:=Zqh (op:=op) hF;refine ZP ?_;refine Ja (fun h4:Value=>⟨[(0, .int .i64 op,Zb op),(4,padd (sbase h4) 0, .val (padd (sbase h4) 0)),(5,hO, .val hO)],[(1000,hO, .own 51 3 (sS op (Kw op l)).length (Z9 (sS op (Kw op l)))),(4,h4, .own 51 3 1 [.val (.int .i64 0), .val (.string ByteArray.empty), .val (.slice none 0 0)])]⟩) ?_ ?_
 . refine cX ?_ ?_<;>intro hb37
   . (
 refine Wp ?_;refine Gn [(1000,hO,PV.own 51 3 (Kw op l).length (Z9 (Kw op l))),(4,_,_)] sB ?_;refine Rs [4] 39 call225 (ZkH 226 call226 hO (.func (.func 226) #[] #[]) (Kw op l) oM (fun x hx y hy=>Zsc x y (hFp x hx) (hFp y hy))) (fun v39 p39 h39 hR39=>?_);subst hR39;dsimp only [Kz];refine Zz (Wm (l:=1000) (p':= .own 51 3 (sS op (Kw op l)).length (Z9 (sS op (Kw op l)))) rfl (by unfold sS;rw [Qc hb37])) fun _=>?_;refine ZZ ?_;exact Yo _ sB sB)
   . (
 refine Zs (Wm (l:=1000) (p':= .own 51 3 (sS op (Kw op l)).length (Z9 (sS op (Kw op l)))) rfl (by unfold sS;rw [Qd oM])) fun _=>?_;refine nav ?_;exact Yo _ sB sB)
 . rintro h4;have hsl:=Zsh op (Kw op l);refine ZP ?_;refine Ja (fun q:Value×{h:Value//h.oneCell'=true}=>⟨[(0, .int .i64 op,Zb op),(4,padd (sbase q.1) 0, .val (padd (sbase q.1) 0)),(5,q.2.1, .val q.2.1)],[(1000,q.2.1, .own 51 3 (RI op (Kw op l)).length (Z9 (RI op (Kw op l)))),(4,q.1, .own 51 3 1 [.val (.int .i64 0), .val (.string ByteArray.empty), .val (.slice none 0 0)])]⟩) ?_ ?_
   . refine cX ?_ ?_<;>intro hb41
     . (
 (have hasc:AscT (sS op (Kw op l)):=by unfold sS;rw [Qc oM];exact OA _);(have hord:Tw (sS op (Kw op l))=RI op (Kw op l):=by unfold sS RI;rw [Qc oM,Qc oM,Qd oM]);refine Wp ?_;refine Gn [(1000,hO,PV.own 51 3 (sS op (Kw op l)).length (Z9 (sS op (Kw op l)))),(4,_,_)] sB ?_;refine Rs [4] 43 call227 (Zds 228 call228 (.func (.func 228) #[] #[]) (sS op (Kw op l)) oM hasc (fun x hx y hy=>Zp8 x y (hFp x (ZnC hx)) (hFp y (ZnC hy))) hO hOo) ?_;rintro v43 _ _ ⟨hv43,rfl,rfl⟩;refine Zz (Wm (l:=1000) (p':= .own 51 3 (RI op (Kw op l)).length (Z9 (RI op (Kw op l)))) rfl (by rw [hord])) fun _=>?_;refine ZD ?_
 first
 |exact Yo (h4,⟨v43,hv43⟩) sB sB
 |exact Yo (h4,⟨hO,hOo⟩) sB sB)
     . (
 refine Zs (Wm (l:=1000) (p':= .own 51 3 (RI op (Kw op l)).length (Z9 (RI op (Kw op l)))) rfl (by rw [Zsi oM])) fun _=>?_;refine nav ?_
 first
 |exact Yo (h4,⟨v43,hv43⟩) sB sB
 |exact Yo (h4,⟨hO,hOo⟩) sB sB)
   . rintro ⟨h4,hP,hPo⟩;dsimp only;have hol:(RI op (Kw op l)).length<=1000000:=XI (GP _) (XI (ZiS _ _) (XI (Zdt _ _) hn));unfold R5;generalize RI op (Kw op l)=p at hol ⊢;refine Zi ?_;refine xL 44 Za (xL 45 (Wu 1000 Dh) ?_);refine YT ?_;refine Wv ?_ ?_<;>intro hb46
     . (
 obtain rfl:p=[]:=Xv oM;refine Zi ?_;refine xM (ZA Zcb) ?_;refine Zz (HR (t:=48) (p':=pTr HM) rfl EU) fun _=>?_;refine Zn 4 Lq ?_;refine ZZ ?_;exact Yp (k:=3) 4 results183 rfl)
     . (
 refine W8 ?_ ?_<;>intro hb49
 . (
 obtain ⟨x,rfl⟩:∃x,p=[x]:=by
  match p,hb49 with
  |[],h=>simp at h
  |[x],_=>exact ⟨x,rfl⟩
  |_::_::_,h=>simp at h;omega
 have e1:((Z9 [x]).drop (0*3)).take 3=cN x:=Yd (k:=0) rfl;have e2:0*3+3<=(Z9 [x]).length:=YF (k:=0) (x:=x) rfl;refine Zi ?_;refine xL 51 Za (xL 52 (Zk 1000 Dh) ?_);refine yU (Zm 1000 Lq) fun v53=>?_;refine Zn 4 Lq ?_;refine ZZ ?_;exact Yp (k:=3) 4 results183 rfl)
 refine nav ?_;refine Zs (En.freeze (l:=1000) (t:=5) rfl rfl) fun _=>?_;rw [JK _ _ _ rfl];refine Zp ?_;refine xL 54 Za (xL 55 Za (xL 56 (ZA Zcb) ?_));refine Zn 4 Lq ?_;refine ZZ ?_;refine Yp (k:=3) 4 results183 ?_;match p,hb46,hb49 with
 |[],h,_=>simp at h
 |[x],_,h=>simp at h
 |x::y::r,_,_=>rfl)
def ZQ:AggT prog 51 3=true:=kR
def Su:ElT prog 49 51 3 48 (.agg #[(.int .i64 0),(.string ByteArray.empty),(.slice none 0 0)]):=⟨underlying49,by kernel_rfl,rfl,dC⟩
def KJ:FldT prog 51 0 0=true:=kR
def CH:FldT prog 51 1 1=true:=kR
def TV:FldT prog 51 2 2=true:=kR
def Gz:NoAgg prog 3=true:=kR
def Pb:NoAgg prog 49=true:=kR
def Ze4:NoAgg prog 9=true:=kR
def Gd:SlT prog 49 51 3=true:=kR
def LG:Gk prog 51=some ((.agg #[(.int .i64 0),(.string ByteArray.empty),(.slice none 0 0)]),([0,1,2]:List Nat).map fun o=>(o,1)):=kR
def Jn:ZeroT prog 51 (.agg #[(.int .i64 0),(.string ByteArray.empty),(.slice none 0 0)]):=by unfold ZeroT;kernel_rfl
def Dj (x y:Nd):PV.sl 2 ([x,y].flatMap cN)=YJ [x,y]:=by
 unfold YJ
 rw [W5];rfl
def Zdu (o:Int) (a:BA):Rr (.agg [Zb o,Zx a, .val (.slice none 0 0)]) (pTr (.mk o a [])):=Rr.agg rfl fun i x b ha hb=>by
 match i with
 |0=>cases ha;cases hb;exact Rr.rfl' _
 |1=>cases ha;cases hb;exact Rr.rfl' _
 |2=>cases ha;cases hb;exact Rr.nil
 |i+3=>simp at ha
def Ze5 {l:List Nd} {k:Nat} {x:Nd} (h:l[k]? =some x):(Kh l)[k]? =some (Yt x):=by
 rw [Rn,Xl,h];rfl
def Ze6 (l:List Nd):(Kh l).length=l.length:=by rw [Rn,Xc]
def Pd {t:Nd} (h:rightT t=true) (h6:t.op=6):∃x y,t.l=[x,y]:=by
 unfold rightT at h
 rw [h6] at h
 simp at h
 match t.l,h.1 with
 |[x,y],_=>exact ⟨x,y,rfl⟩
def Sm {x y:Nd}:szL [x,y]=szT x+szT y:=by simp only [szL];omega
def ZkK : ∀ t : Nd,okT t=true->szT t<=1000000->AF prog 123 [pTr t] (· =pTr (Yt t)):=Nd.ind fun o a l ih hok hs=>by
 have e0:pTr (.mk o a l)= .agg [Zb o,Zx a,YJ l]:=rfl
 rw [e0]
 obtain ⟨hr,hp⟩:=J3.1 hok
 have hf:=Di _ hok hs
 have hsz:=SQ (.mk o a l)
 have hlz:=GP l
 have hops:=R6 hr
 simp only [Nd.l,Nd.op] at hp hsz hops
 have hnl:=Ze6 l
 have hnz:szL (Kh l)<=szL l:=by
  have:=OG (.mk o a l);clear this e0 hr hf hsz hlz hnl;clear ih hok hs;induction l with
  |nil=>exact Xd _
  | cons x l ih2=>
    have h3:=OG x;have h4:=ih2 (fun y hy=>hp y (Xt _ hy));rw [Kh,szL,szL];omega
 have hnf:∀y∈Kh l,FitT y:=fun y hy=>by
  rw [Rn] at hy;obtain ⟨x,hx,rfl⟩:=Xp.1 hy;have:=PM hx;exact Sk (hp x hx) oM
 refine AF.b1 70 func123 rfl ntmps123 (Xa rfl) fun w0 M0 v0 _=>?_
 refine Zi ?_
 refine Z4 1 3 fun h1=>?_;refine Zt zT 3 2 Jn fun h2=>?_;refine YT ?_;refine ZD ?_
 refine Zs (YO 200 51 3 rfl) fun _=>?_
 refine Zp ?_;refine xM (Zc 1 TV) ?_;refine yU (Zf 1 Pb) fun v9=>?_;refine xL 10 (Zu Gd) (xL 11 Za ?_);refine ZZ ?_
 refine Yl (ι:={q:Nat×Value//q.1<=l.length/\q.2.oneCell'=true}) (fun k=>⟨[(1,_,_),(2,_,_),(9,_,_),(10,_,_),(3,k.1.2, .val k.1.2),(11, .int .i64 k.1.1,Zb k.1.1)],[(1,_,_),(2,_,_),(200,k.1.2, .own 51 3 ((Kh l).take k.1.1).length (Z9 ((Kh l).take k.1.1)))]⟩) (fun k=>l.length-k.1.1) ⟨(0, .slice none 0 0),Xg _,rfl⟩ ?_
 rintro ⟨⟨k,hO⟩,hk,hOo⟩
 dsimp only
 dsimp only at hk hOo
 refine Ys ?_ ?_<;>intro hb12
 . (
 obtain ⟨x,hx⟩:=gS l k;have e1:((Z9 l).drop (k*3)).take 3=[Zb x.op,Zx x.act,YJ x.l]:=Yd hx;have e2:=YF hx;have hxm:=Xb hx;have hxs:=PM hxm;have hsn:=ZR (Ze5 hx);(have hsl:((Kh l).take (k+1)).length=((Kh l).take k).length+1:=by rw [hsn,Xe];rfl);(have hsl2:((Kh l).take k).length<=1000000:=by rw [XA];omega);refine Zi ?_;refine xM (Ze Gd) ?_;refine yU (We ZQ) fun v14=>?_;refine Zt zT 3 5 Jn fun h5=>?_;refine Zn 5 ZQ ?_;refine YT ?_;refine YU ?_;refine yU (Zm 5 ZQ) fun v16=>?_;refine cD (cA call123 (ih x hxm (hp x hxm) oM)) fun v17 hv17=>?_;clear hv17;refine Wy 18 Su fun h18 ho18=>?_;refine Y7 200 18 19 Su fun h19 ho19=>?_;refine Zz (ZK (l:=19) 200 rfl rfl) fun _=>?_;refine Zz (Wm (l:=200) (p':= .own 51 3 ((Kh l).take (k+1)).length (Z9 ((Kh l).take (k+1)))) rfl (Eq.trans (congrArg (PV.own 51 3 _) (show _=Z9 ((Kh l).take k)++cN (Yt x) from rfl)) (by rw [LF,<-hsn,hsl]))) fun _=>?_;refine J1 ?_;refine Yk (
  ⟨(k+1,h19),Zd hx,ho19⟩
  ))
 rw [Xs (show (Kh l).length<=k by omega)];refine Zi ?_;refine xM (Zc 1 KJ) ?_;refine yV (Zf 1 Gz) ?_;refine YT ?_;refine Wv ?_ ?_<;>intro hb23
 . (
 refine nav ?_;refine cX ?_ ?_<;>intro hb23
 . (
 refine Zi ?_;refine xM (Zc 1 KJ) ?_;refine yV (Zf 1 Gz) ?_;refine xM (Zc 1 CH) ?_;refine yV (Zf 1 Ze4) ?_;refine xM (ZA LG) ?_;refine Zz (HR (t:=30) (p':=pTr (.mk o a [])) rfl (Zdu o a)) fun _=>?_;refine Zn 2 ZQ ?_;refine ZZ ?_;refine Yp (k:=3) 2 results123 ?_;rw [Yt,ζ5,Qd oM];rfl)
 refine W8 ?_ ?_<;>intro hb31
 . (
 obtain ⟨f0,s0,hl2⟩:=Pd hr (show o=6 from by omega);obtain rfl:l=[f0,s0]:=hl2;have ho6:o=6:=oM;(have hres:Yt (.mk o a [f0,s0])=ζ4 (Gv (Yt f0) (Yt s0)):=by rw [Yt,ζ5,Qc oM,Qd ho6];rfl);have hF1:=ET (hp f0 sM);have hS1:=ET (hp s0 sM);have hFz:=OG f0;have hSz:=OG s0;have hfF:=hnf (Yt f0) (by simp [Kh]);have hfS:=hnf (Yt s0) (by simp [Kh]);rw [Sm] at hsz;have e3:((Z9 (Kh [f0,s0])).drop (0*3)).take 3=[Zb (Yt f0).op,Zx (Yt f0).act,YJ (Yt f0).l]:=Yd (k:=0) rfl;have e4:0*3+3<=(Z9 (Kh [f0,s0])).length:=YF (k:=0) (x:=Yt f0) rfl;have e5:((Z9 (Kh [f0,s0])).drop (1*3)).take 3=[Zb (Yt s0).op,Zx (Yt s0).act,YJ (Yt s0).l]:=Yd (k:=1) rfl;have e6:1*3+3<=(Z9 (Kh [f0,s0])).length:=YF (k:=1) (x:=Yt s0) rfl;refine nav ?_;refine Ja (fun q:Value×Value×Value=>⟨[(2,padd (sbase q.1) 0, .val (padd (sbase q.1) 0)),(6,padd (sbase q.2.1) 0, .val (padd (sbase q.2.1) 0)),(7,padd (sbase q.2.2) 0, .val (padd (sbase q.2.2) 0))],[(2,q.1, .own 51 3 1 [.val (.int .i64 0), .val (.string ByteArray.empty), .val (.slice none 0 0)]),(6,q.2.1, .own 51 3 1 [Zb (Yt f0).op,Zx (Yt f0).act,YJ (Yt f0).l]),(7,q.2.2, .own 51 3 1 [Zb (Yt s0).op,Zx (Yt s0).act,YJ (Yt s0).l])]⟩) ?_ ?_
 . (refine Yx [] [200] ?_<;>refine gDx 0 ?_<;>refine xD 1 rfl (Zk 200 Gd) ?_<;>(refine yD 2 rfl (Zm 200 ZQ) fun v35 h=>?_;cases h)<;>refine gDx 3 ?_<;>refine xD 4 rfl (Zk 200 Gd) ?_<;>(refine yD 5 rfl (Zm 200 ZQ) fun v38 h=>?_;cases h)<;>(refine WJ 6 7 kR ?_ ?_;rotate_right;(focus ((refine aWr fun bk=>?_)<;>refine Zt zT 3 7 Jn fun h7=>?_<;>refine bE bk ?_<;>(refine aDr 6 fun bk=>?_)<;>refine Zt zT 3 6 Jn fun h6=>?_<;>refine bE bk ?_<;>(refine aDr 8 fun bk=>?_)<;>refine Zn 6 ZQ ?_<;>refine bE bk ?_<;>(refine aDr 9 fun bk=>?_)<;>refine Zn 7 ZQ ?_<;>refine bE bk ?_));rotate_right;(focus ((refine aWr fun bk=>?_)<;>refine Zt zT 3 6 Jn fun h6=>?_<;>refine bE bk ?_<;>(refine aDr 7 fun bk=>?_)<;>refine Zt zT 3 7 Jn fun h7=>?_<;>refine bE bk ?_<;>(refine aDr 8 fun bk=>?_)<;>refine Zn 6 ZQ ?_<;>refine bE bk ?_<;>(refine aDr 9 fun bk=>?_)<;>refine Zn 7 ZQ ?_<;>refine bE bk ?_)))<;>refine Wo ?_)<;>(
 exact Yo (_,_,_) ⟨rfl,rfl,rfl,trivial⟩ ⟨rfl,rfl,rfl,trivial⟩)
 . rintro ⟨h2,h6,h7⟩;dsimp only;clear e3 e4 e5 e6;generalize Yt f0=F at hres hF1 hFz hfF ⊢;generalize Yt s0=S at hres hS1 hSz hfS ⊢;refine Zi ?_;refine xM (Zc 6 KJ) ?_;refine yV (Zf 6 Gz) ?_;refine ZD ?_;refine Ja (fun _:Unit=>⟨[(2,padd (sbase h2) 0, .val (padd (sbase h2) 0)),(6,padd (sbase h6) 0, .val (padd (sbase h6) 0)),(7,padd (sbase h7) 0, .val (padd (sbase h7) 0))],[(2,h2, .own 51 3 1 [.val (.int .i64 0), .val (.string ByteArray.empty), .val (.slice none 0 0)]),(6,h6, .own 51 3 1 (cN (Gv F S).1)),(7,h7, .own 51 3 1 (cN (Gv F S).2))]⟩) ?_ ?_
   . refine cX ?_ ?_<;>intro hb41
     . (
 obtain ⟨A,B,hAB⟩:=Pd (J3.1 hF1).1 hb41;(have hlop:Gv F S=(A,R5 4 [B,S]):=by unfold Gv;rw [Qd hb41,hAB]);have hfA:=hfF.p A (by rw [hAB];simp);have hfB:=hfF.p B (by rw [hAB];simp);have hFe:=SQ F;rw [hAB,Sm] at hFe;rw [hAB];have e3:((Z9 [A,B]).drop (0*3)).take 3=[Zb A.op,Zx A.act,YJ A.l]:=Yd (k:=0) rfl;have e4:0*3+3<=(Z9 [A,B]).length:=YF (k:=0) (x:=A) rfl;have e5:((Z9 [A,B]).drop (1*3)).take 3=[Zb B.op,Zx B.act,YJ B.l]:=Yd (k:=1) rfl;have e6:1*3+3<=(Z9 [A,B]).length:=YF (k:=1) (x:=B) rfl;have hj:=ζl 4 [B,S] dC dC (fun x hx=>by simp only [Xi,UZ,or_false] at hx;rcases hx with h|h<;>rw [h]<;>assumption) (by rw [Sm];omega);refine nav ?_;(refine Yx [11,12] [6,7] ?_<;>refine xDT 0 42 rfl (Zc 6 TV) ?_<;>(refine yDT 1 43 rfl (Zf 6 Pb) fun v43 h=>?_;cases h)<;>refine xDT 2 44 rfl (Ze Gd) ?_<;>(refine yDT 3 45 rfl (We ZQ) fun v45 h=>?_;cases h)<;>refine xDT 4 46 rfl (Zc 6 TV) ?_<;>(refine yDT 5 47 rfl (Zf 6 Pb) fun v47 h=>?_;cases h)<;>refine xDT 6 48 rfl (Ze Gd) ?_<;>(refine yDT 7 49 rfl (We ZQ) fun v49 h=>?_;cases h)<;>(refine yE 8 rfl (Zm 7 ZQ) fun v50 h=>?_;cases h)<;>(refine aDr 9 fun bk=>?_)<;>(refine J5 (kk:=3) (xs:=[_,_]) (cs:=[[_,_,_],[_,_,_]]) 51 Su fun h51 ho51=>?_;refine Zz (En.freeze (l:=51) (t:=51) rfl rfl) fun _=>?_;refine Zz (Ki (t:=51) (p':=YJ [B,S]) rfl (Eq.trans (show _=PV.sl 2 ([B,S].flatMap cN) from rfl) (Dj B S))) fun _=>?_)<;>refine bE bk ?_<;>(refine ZY 10 kR ?_)<;>(refine Ym (d:=52) rfl (cA call183 hj) fun v52 h=>?_;cases h)<;>(refine ZY 11 kR ?_)<;>(refine ZeW rfl rfl fun DQ bk=>?_)<;>refine Zn 6 ZQ ?_<;>refine WC (bk _ ?_)<;>(refine ZiJ 12 kR rfl rfl fun DQ bk=>?_)<;>refine Zn 7 ZQ ?_<;>refine WC (bk _ ?_)<;>refine ZiK kR (nav ?_)<;>try dsimp only)
 refine ZJ (Wm (l:=6) (p':= .own 51 3 1 (cN (Gv F S).1)) rfl (by rw [hlop];rfl)) fun _=>?_;refine ZJ (Wm (l:=7) (p':= .own 51 3 1 (cN (Gv F S).2)) rfl (by rw [hlop];rfl)) fun _=>?_;exact Yo () sB sB)
     . (
 (have hlop:Gv F S=(F,S):=by unfold Gv;rw [Qc hb41]);refine Zs (Wm (l:=6) (p':= .own 51 3 1 (cN (Gv F S).1)) rfl (by rw [hlop];rfl)) fun _=>?_;refine Zs (Wm (l:=7) (p':= .own 51 3 1 (cN (Gv F S).2)) rfl (by rw [hlop];rfl)) fun _=>?_;refine nav ?_;exact Yo () sB sB)
   . rintro _;unfold ζ4 at hres;generalize (Gv F S).1=X at hres ⊢;generalize (Gv F S).2=Y at hres ⊢;have ec:∀t:Nd,cN t=[Zb t.op,Zx t.act,YJ t.l]:=fun _=>rfl;rw [ec,ec];refine Zi ?_;(refine xM (Zc 6 KJ) ?_<;>refine yV (Zf 6 Gz) ?_<;>refine YW ?_<;>(refine bLd 56 (fun hb56=>?_) (fun hb56=>?_)<;>(first|refine kL ?_|refine xM (Zc 7 KJ) ?_))<;>(first|refine kL ?_|refine yV (Zf 7 Gz) ?_)<;>refine WF ?_)<;>(
 refine cX ?_ ?_<;>intro hb60
 . first|exact bN hb60|(
 rw [Qd oM] at hres;refine Zi ?_;refine xM (ZA LG) ?_;refine Zz (HR (t:=61) (p':=pTr HM) rfl EU) fun _=>?_;refine Zn 2 ZQ ?_;refine ZZ ?_;refine Yp (k:=3) 2 results123 ?_;rw [hres];rfl)
 rw [Qc oM] at hres;refine Zi ?_;refine yU (Zm 6 ZQ) fun v62=>?_;refine yU (Zm 7 ZQ) fun v63=>?_;refine J5 (kk:=3) (xs:=[_,_]) (cs:=[[_,_,_],[_,_,_]]) 64 Su fun h64 ho64=>?_;refine Zz (En.freeze (l:=64) (t:=64) rfl rfl) fun _=>?_;refine Zz (Ki (t:=64) (p':=YJ [X,Y]) rfl (Eq.trans (show _=PV.sl 2 ([X,Y].flatMap cN) from rfl) (Dj X Y))) fun _=>?_;refine xM (ZA LG) ?_;refine Zn 2 ZQ ?_;refine ZZ ?_;refine Yp (k:=3) 2 results123 ?_;rw [hres];rfl))
 refine nav ?_;refine Zs (En.freeze (l:=200) (t:=3) rfl rfl) fun _=>?_;rw [JK _ _ _ rfl];refine Zp ?_;refine xM (Zc 1 KJ) ?_;refine yV (Zf 1 Gz) ?_;refine YU ?_;refine cD (cA call183 (ζl o (Kh l) oM oM hnf oM)) fun v69 hv69=>?_;clear hv69;refine Zn 2 ZQ ?_;refine ZZ ?_;refine Yp (k:=3) 2 results123 ?_;rw [Yt,ζ5,Qc oM,Qc oM];rfl)
 refine W8 ?_ ?_<;>intro hb23
 . (
 refine Zi ?_;refine xM (Zc 1 KJ) ?_;refine yV (Zf 1 Gz) ?_;refine xM (Zc 1 CH) ?_;refine yV (Zf 1 Ze4) ?_;refine xM (ZA LG) ?_;refine Zz (HR (t:=30) (p':=pTr (.mk o a [])) rfl (Zdu o a)) fun _=>?_;refine Zn 2 ZQ ?_;refine ZZ ?_;refine Yp (k:=3) 2 results123 ?_;rw [Yt,ζ5,Qd oM];rfl)
 refine W8 ?_ ?_<;>intro hb31
 . (
 obtain ⟨f0,s0,hl2⟩:=Pd hr (show o=6 from by omega);obtain rfl:l=[f0,s0]:=hl2;have ho6:o=6:=oM;(have hres:Yt (.mk o a [f0,s0])=ζ4 (Gv (Yt f0) (Yt s0)):=by rw [Yt,ζ5,Qc oM,Qd ho6];rfl);have hF1:=ET (hp f0 sM);have hS1:=ET (hp s0 sM);have hFz:=OG f0;have hSz:=OG s0;have hfF:=hnf (Yt f0) (by simp [Kh]);have hfS:=hnf (Yt s0) (by simp [Kh]);rw [Sm] at hsz;have e3:((Z9 (Kh [f0,s0])).drop (0*3)).take 3=[Zb (Yt f0).op,Zx (Yt f0).act,YJ (Yt f0).l]:=Yd (k:=0) rfl;have e4:0*3+3<=(Z9 (Kh [f0,s0])).length:=YF (k:=0) (x:=Yt f0) rfl;have e5:((Z9 (Kh [f0,s0])).drop (1*3)).take 3=[Zb (Yt s0).op,Zx (Yt s0).act,YJ (Yt s0).l]:=Yd (k:=1) rfl;have e6:1*3+3<=(Z9 (Kh [f0,s0])).length:=YF (k:=1) (x:=Yt s0) rfl;refine nav ?_;refine Ja (fun q:Value×Value×Value=>⟨[(2,padd (sbase q.1) 0, .val (padd (sbase q.1) 0)),(6,padd (sbase q.2.1) 0, .val (padd (sbase q.2.1) 0)),(7,padd (sbase q.2.2) 0, .val (padd (sbase q.2.2) 0))],[(2,q.1, .own 51 3 1 [.val (.int .i64 0), .val (.string ByteArray.empty), .val (.slice none 0 0)]),(6,q.2.1, .own 51 3 1 [Zb (Yt f0).op,Zx (Yt f0).act,YJ (Yt f0).l]),(7,q.2.2, .own 51 3 1 [Zb (Yt s0).op,Zx (Yt s0).act,YJ (Yt s0).l])]⟩) ?_ ?_
 . (refine Yx [] [200] ?_<;>refine gDx 0 ?_<;>refine xD 1 rfl (Zk 200 Gd) ?_<;>(refine yD 2 rfl (Zm 200 ZQ) fun v35 h=>?_;cases h)<;>refine gDx 3 ?_<;>refine xD 4 rfl (Zk 200 Gd) ?_<;>(refine yD 5 rfl (Zm 200 ZQ) fun v38 h=>?_;cases h)<;>(refine WJ 6 7 kR ?_ ?_;rotate_right;(focus ((refine aWr fun bk=>?_)<;>refine Zt zT 3 7 Jn fun h7=>?_<;>refine bE bk ?_<;>(refine aDr 6 fun bk=>?_)<;>refine Zt zT 3 6 Jn fun h6=>?_<;>refine bE bk ?_<;>(refine aDr 8 fun bk=>?_)<;>refine Zn 6 ZQ ?_<;>refine bE bk ?_<;>(refine aDr 9 fun bk=>?_)<;>refine Zn 7 ZQ ?_<;>refine bE bk ?_));rotate_right;(focus ((refine aWr fun bk=>?_)<;>refine Zt zT 3 6 Jn fun h6=>?_<;>refine bE bk ?_<;>(refine aDr 7 fun bk=>?_)<;>refine Zt zT 3 7 Jn fun h7=>?_<;>refine bE bk ?_<;>(refine aDr 8 fun bk=>?_)<;>refine Zn 6 ZQ ?_<;>refine bE bk ?_<;>(refine aDr 9 fun bk=>?_)<;>refine Zn 7 ZQ ?_<;>refine bE bk ?_)))<;>refine Wo ?_)<;>(
 exact Yo (_,_,_) ⟨rfl,rfl,rfl,trivial⟩ ⟨rfl,rfl,rfl,trivial⟩)
 . rintro ⟨h2,h6,h7⟩;dsimp only;clear e3 e4 e5 e6;generalize Yt f0=F at hres hF1 hFz hfF ⊢;generalize Yt s0=S at hres hS1 hSz hfS ⊢;refine Zi ?_;refine xM (Zc 6 KJ) ?_;refine yV (Zf 6 Gz) ?_;refine ZD ?_;refine Ja (fun _:Unit=>⟨[(2,padd (sbase h2) 0, .val (padd (sbase h2) 0)),(6,padd (sbase h6) 0, .val (padd (sbase h6) 0)),(7,padd (sbase h7) 0, .val (padd (sbase h7) 0))],[(2,h2, .own 51 3 1 [.val (.int .i64 0), .val (.string ByteArray.empty), .val (.slice none 0 0)]),(6,h6, .own 51 3 1 (cN (Gv F S).1)),(7,h7, .own 51 3 1 (cN (Gv F S).2))]⟩) ?_ ?_
   . refine cX ?_ ?_<;>intro hb41
     . (
 obtain ⟨A,B,hAB⟩:=Pd (J3.1 hF1).1 hb41;(have hlop:Gv F S=(A,R5 4 [B,S]):=by unfold Gv;rw [Qd hb41,hAB]);have hfA:=hfF.p A (by rw [hAB];simp);have hfB:=hfF.p B (by rw [hAB];simp);have hFe:=SQ F;rw [hAB,Sm] at hFe;rw [hAB];have e3:((Z9 [A,B]).drop (0*3)).take 3=[Zb A.op,Zx A.act,YJ A.l]:=Yd (k:=0) rfl;have e4:0*3+3<=(Z9 [A,B]).length:=YF (k:=0) (x:=A) rfl;have e5:((Z9 [A,B]).drop (1*3)).take 3=[Zb B.op,Zx B.act,YJ B.l]:=Yd (k:=1) rfl;have e6:1*3+3<=(Z9 [A,B]).length:=YF (k:=1) (x:=B) rfl;have hj:=ζl 4 [B,S] dC dC (fun x hx=>by simp only [Xi,UZ,or_false] at hx;rcases hx with h|h<;>rw [h]<;>assumption) (by rw [Sm];omega);refine nav ?_;(refine Yx [11,12] [6,7] ?_<;>refine xDT 0 42 rfl (Zc 6 TV) ?_<;>(refine yDT 1 43 rfl (Zf 6 Pb) fun v43 h=>?_;cases h)<;>refine xDT 2 44 rfl (Ze Gd) ?_<;>(refine yDT 3 45 rfl (We ZQ) fun v45 h=>?_;cases h)<;>refine xDT 4 46 rfl (Zc 6 TV) ?_<;>(refine yDT 5 47 rfl (Zf 6 Pb) fun v47 h=>?_;cases h)<;>refine xDT 6 48 rfl (Ze Gd) ?_<;>(refine yDT 7 49 rfl (We ZQ) fun v49 h=>?_;cases h)<;>(refine yE 8 rfl (Zm 7 ZQ) fun v50 h=>?_;cases h)<;>(refine aDr 9 fun bk=>?_)<;>(refine J5 (kk:=3) (xs:=[_,_]) (cs:=[[_,_,_],[_,_,_]]) 51 Su fun h51 ho51=>?_;refine Zz (En.freeze (l:=51) (t:=51) rfl rfl) fun _=>?_;refine Zz (Ki (t:=51) (p':=YJ [B,S]) rfl (Eq.trans (show _=PV.sl 2 ([B,S].flatMap cN) from rfl) (Dj B S))) fun _=>?_)<;>refine bE bk ?_<;>(refine ZY 10 kR ?_)<;>(refine Ym (d:=52) rfl (cA call183 hj) fun v52 h=>?_;cases h)<;>(refine ZY 11 kR ?_)<;>(refine ZeW rfl rfl fun DQ bk=>?_)<;>refine Zn 6 ZQ ?_<;>refine WC (bk _ ?_)<;>(refine ZiJ 12 kR rfl rfl fun DQ bk=>?_)<;>refine Zn 7 ZQ ?_<;>refine WC (bk _ ?_)<;>refine ZiK kR (nav ?_)<;>try dsimp only)
 refine ZJ (Wm (l:=6) (p':= .own 51 3 1 (cN (Gv F S).1)) rfl (by rw [hlop];rfl)) fun _=>?_;refine ZJ (Wm (l:=7) (p':= .own 51 3 1 (cN (Gv F S).2)) rfl (by rw [hlop];rfl)) fun _=>?_;exact Yo () sB sB)
     . (
 (have hlop:Gv F S=(F,S):=by unfold Gv;rw [Qc hb41]);refine Zs (Wm (l:=6) (p':= .own 51 3 1 (cN (Gv F S).1)) rfl (by rw [hlop];rfl)) fun _=>?_;refine Zs (Wm (l:=7) (p':= .own 51 3 1 (cN (Gv F S).2)) rfl (by rw [hlop];rfl)) fun _=>?_;refine nav ?_;exact Yo () sB sB)
   . rintro _;unfold ζ4 at hres;generalize (Gv F S).1=X at hres ⊢;generalize (Gv F S).2=Y at hres ⊢;have ec:∀t:Nd,cN t=[Zb t.op,Zx t.act,YJ t.l]:=fun _=>rfl;rw [ec,ec];refine Zi ?_;(refine xM (Zc 6 KJ) ?_<;>refine yV (Zf 6 Gz) ?_<;>refine YW ?_<;>(refine bLd 56 (fun hb56=>?_) (fun hb56=>?_)<;>(first|refine kL ?_|refine xM (Zc 7 KJ) ?_))<;>(first|refine kL ?_|refine yV (Zf 7 Gz) ?_)<;>refine WF ?_)<;>(
 refine cX ?_ ?_<;>intro hb60
 . first|exact bN hb60|(
 rw [Qd oM] at hres;refine Zi ?_;refine xM (ZA LG) ?_;refine Zz (HR (t:=61) (p':=pTr HM) rfl EU) fun _=>?_;refine Zn 2 ZQ ?_;refine ZZ ?_;refine Yp (k:=3) 2 results123 ?_;rw [hres];rfl)
 rw [Qc oM] at hres;refine Zi ?_;refine yU (Zm 6 ZQ) fun v62=>?_;refine yU (Zm 7 ZQ) fun v63=>?_;refine J5 (kk:=3) (xs:=[_,_]) (cs:=[[_,_,_],[_,_,_]]) 64 Su fun h64 ho64=>?_;refine Zz (En.freeze (l:=64) (t:=64) rfl rfl) fun _=>?_;refine Zz (Ki (t:=64) (p':=YJ [X,Y]) rfl (Eq.trans (show _=PV.sl 2 ([X,Y].flatMap cN) from rfl) (Dj X Y))) fun _=>?_;refine xM (ZA LG) ?_;refine Zn 2 ZQ ?_;refine ZZ ?_;refine Yp (k:=3) 2 results123 ?_;rw [hres];rfl))
 refine nav ?_;refine Zs (En.freeze (l:=200) (t:=3) rfl rfl) fun _=>?_;rw [JK _ _ _ rfl];refine Zp ?_;refine xM (Zc 1 KJ) ?_;refine yV (Zf 1 Gz) ?_;refine YU ?_;refine cD (cA call183 (ζl o (Kh l) oM oM hnf oM)) fun v69 hv69=>?_;clear hv69;refine Zn 2 ZQ ?_;refine ZZ ?_;refine Yp (k:=3) 2 results123 ?_;rw [Yt,ζ5,Qc oM,Qc oM];rfl
def TW (t:Nd):PV×Int:=if Gp t=true then (if Gp (Yt t)=true then (pTr (Yt t),0) else (JA,5)) else (JA,1)
def Zha (t:Nd) (hf:FitT t):AF prog 80 [pTr t] (· = .tup [(TW t).1,Zb (TW t).2]):=by
 refine AF.b1 16 func80 rfl ntmps80 (Xa rfl) fun w0 M0 v0 _=>?_
 have e0:pTr t= .agg [Zb t.op,Zx t.act,YJ t.l]:=rfl
 rw [e0]
 refine Zi ?_
 refine Z4 1 3 fun h1=>?_;refine Zt zT 3 2 Jn fun h2=>?_;refine ZW ?_
 refine yU (Zm 1 ZQ) fun v5=>?_;refine cV (cA call79 (HQ t hf)) ?_;refine Wg ?_ ?_<;>intro hb7
 . (
 refine Zi ?_;refine xM (ZA LG) ?_;refine Zn 2 ZQ ?_;refine ZD ?_;refine ZN (k:=3) 2 results80 ?_;rw [show TW t=(JA,1) by unfold TW;rw [Qc (by simpa using hb7)]];rfl)
 (have hv:Gp t=true:=by simpa using hb7);have hsz:=ζ1 hv;have hok:=ζ0 hv;have hfn:=Sk hok oM;refine Zi ?_;refine yU (Zm 1 ZQ) fun v9=>?_;refine cD (cA call123 (ZkK t hok oM)) fun v10 hv10=>?_;clear hv10;refine Zt zT 3 4 Jn fun h4=>?_;refine Zn 4 ZQ ?_;refine ZZ ?_;have e1:cN (Yt t)=[Zb (Yt t).op,Zx (Yt t).act,YJ (Yt t).l]:=rfl;refine Zp ?_;refine yU (Zm 4 ZQ) fun v11=>?_;refine cV (cA call79 (HQ (Yt t) hfn)) ?_;refine Wg ?_ ?_<;>intro hb13
 . (
 refine Zi ?_;refine xM (ZA LG) ?_;refine Zn 2 ZQ ?_;refine ZD ?_;refine ZN (k:=3) 2 results80 ?_;rw [show TW t=(JA,5) by unfold TW;rw [Qd hv,Qc (by simpa using hb13)]];rfl)
 refine Zi ?_;refine yU (Zm 4 ZQ) fun v15=>?_;refine Zn 2 ZQ ?_;refine ZD ?_;refine ZN (k:=3) 2 results80 ?_;rw [show TW t=(pTr (Yt t),0) by unfold TW;rw [Qd hv,Qd (by simpa using hb13)]];rfl
def Tz:AggT prog 51 3=true:=kR
def KA:ElT prog 49 51 3 48 (.agg #[(.int .i64 0),(.string ByteArray.empty),(.slice none 0 0)]):=⟨underlying49,by kernel_rfl,rfl,dC⟩
def Ze7:FldT prog 51 0 0=true:=kR
def Ze8:FldT prog 51 2 2=true:=kR
def ZnD:NoAgg prog 3=true:=kR
def ZkL:NoAgg prog 49=true:=kR
def Ge:SlT prog 49 51 3=true:=kR
def Zhb (x:Nd):∀(m:List Nd) (k:Nat),k<=m.length->(∀j y,j<k->m[j]? =some y->WG y x<0)->(∀y,m[k]? =some y->¬WG y x<0)->Oz x m=m.take k++[x]++m.drop k
 | [],k,hk,_,_=>by
   have:k=0:=by simpa using hk
   subst this;rfl
 | y::m,0,_,_,h2=>by
   rw [Oz,Qc (h2 y rfl)];rfl
 | y::m,k+1,hk,h1,h2=>by
   rw [Oz,Qd (h1 0 y oM rfl),Zhb x m k (by simpa using hk) (fun j z hj hz=>h1 (j+1) z oM (by simpa using hz)) (fun z hz=>h2 z (by simpa using hz))];rfl
def Zhc (x:Nd):∀(m:List Nd) (k:Nat),k<=m.length->(∀j y,j<k->m[j]? =some y->WG y x<0)->(∀y,m[k]? =some y->¬WG y x<0/\¬WG y x=0)->SN x m=m.take k++[x]++m.drop k
 | [],k,hk,_,_=>by
   have:k=0:=by simpa using hk
   subst this;rfl
 | y::m,0,_,_,h2=>by
   rw [SN,Qc (h2 y rfl).1,Qc (h2 y rfl).2];rfl
 | y::m,k+1,hk,h1,h2=>by
   rw [SN,Qd (h1 0 y oM rfl),Zhc x m k (by simpa using hk) (fun j z hj hz=>h1 (j+1) z oM (by simpa using hz)) (fun z hz=>h2 z (by simpa using hz))];rfl
def Ze9 (x:Nd):∀(m:List Nd) (k:Nat) (y:Nd),(∀j y,j<k->m[j]? =some y->WG y x<0)->m[k]? =some y->WG y x=0->SN x m=m
 |[],k,y,_,h,_=>by simp at h
 | z::m,0,y,_,h,h2=>by
   cases h;rw [SN,Qc oM,Qd h2]
 | z::m,k+1,y,h1,h,h2=>by
   rw [SN,Qd (h1 0 z oM rfl),Ze9 x m k y (fun j z hj hz=>h1 (j+1) z oM (by simpa using hz)) (by simpa using h) h2]
def Zah {m:List Nd} {k:Nat} (hk:k<=m.length):PV.sl (k-0) (((Z9 m).drop (0*3)).take ((k-0)*3))=YJ (m.take k):=by
 unfold YJ
 rw [VA,X8,Vf,W5,D' RL,<-W5,XA,Vb hk]
def Zai {α β:Type} {f:α->List β} {m:Nat} (hf:∀x,(f x).length=m):∀(L:List α) (k:Nat),(L.flatMap f).drop (k*m)=(L.drop k).flatMap f
 |[],k=>sM
 |x::L,0=>sM
 | x::L,k+1=>by
   rw [List.drop_succ_cons,Xq,<-Zai hf L k,List.drop_append,List.drop_of_length_le (by rw [hf,X3];omega),hf,show (k+1)*m-m=k*m by rw [X3];omega,XY]
def Zaj {m:List Nd} {k:Nat} (hk:k<=m.length):PV.sl (m.length-k) (((Z9 m).drop (k*3)).take ((m.length-k)*3))=YJ (m.drop k):=by
 unfold YJ
 rw [W5,Zai RL,Xs (by rw [Z1 RL,Vu];omega),<-W5,Vu]
def Zak (m:List Nd) (x:Nd) (b:Bool) (hm:∀y∈m,FitT y) (hx:FitT x) (hl:m.length<=1000000):AF prog 239 [YJ m,pTr x,Zr b] (· =YJ (if b=true then SN x m else Oz x m)):=by
 have ex:pTr x= .agg [Zb x.op,Zx x.act,YJ x.l]:=rfl
 rw [ex]
 have hcl:(Z9 m).length=m.length*3:=TU m
 refine AF.b3 54 func239 rfl ntmps239 (Xa rfl) ?_
 rintro w0 M0 v0 v1 _- -rfl
 refine Zi ?_
 refine Z4 4 3 fun h4=>?_;refine KG ?_
 refine Yl (ι:={k:Nat//k<=m.length/\∀j y,j<k->m[j]? =some y->WG y x<0}) (fun k=>⟨[(0,_,_),(2,_,_),(4,_,_),(7, .int .i64 k.1,Zb k.1)],[(4,_,_)]⟩) (fun k=>m.length-k.1) ⟨0,Xg _,fun j y h=>oM⟩ ?_
 rintro ⟨k,hk,hlt⟩
 dsimp only
 refine nav ?_
 (refine Yx [] [4] ?_<;>refine gDx 0 ?_<;>refine gEx 1 ?_<;>refine xE 2 rfl (Zu Ge) ?_<;>refine gEx 3 ?_<;>refine gEx 4 ?_<;>(refine bDd 13 (fun hb13=>?_) (fun hb13=>?_)<;>(first|refine kD 5 ?_|(obtain ⟨y,hy⟩:=gS m k;have e1:=Yd hy;have e2:=YF hy;refine gDx 5 ?_)))<;>(first|refine kD 6 ?_|refine gDx 6 ?_)<;>(first|refine kD 7 ?_|refine xD 7 rfl (Ze Ge) ?_)<;>(first|refine kD 8 ?_|(refine yD 8 rfl (We Tz) fun v17 h=>?_;cases h))<;>(first|refine kD 9 ?_|(refine yD 9 rfl (Zm 4 Tz) fun v18 h=>?_;cases h))<;>(refine ZY 10 kR ?_)<;>(first|(refine Ym (d:=19) rfl (cA call274 (Zca y x (hm y (Xb hy)) hx)) fun v19 h=>?_;cases h)|(refine aWr fun bk=>?_;refine kL ?_;refine bE bk ?_))<;>(first|refine kD 11 ?_|refine gDx 11 ?_)<;>refine gEx 12 ?_<;>refine Wo ?_)<;>(
 refine cX ?_ ?_<;>intro hb21
 . first|exact bN hb21|(
 refine YQ ?_;refine Yk (
  ⟨k+1,Zd hy,fun j z h1 h2=>by
   by_cases e:j=k
   . subst e;rw [hy] at h2;cases h2;omega
   . exact hlt j z oM h2⟩
  ))
 refine nav ?_;have hge:∀y,m[k]? =some y->¬WG y x<0:=by
  first
  |exact fun z h=>by rw [hy] at h;cases h;omega
  |exact fun z h=>by have:=Zd h;omega
 have f1:(Z9 (m.take k)).length=(m.take k).length*3:=TU _;have f2:=Sl (m.take k);have f3:(Z9 (m.drop k)).length=(m.drop k).length*3:=TU _;have f4:=Sl (m.drop k);(have hkl:(m.take k).length=k:=by rw [XA];omega);have hdl:(m.drop k).length=m.length-k:=Vu;(refine Yx [] [4] ?_<;>refine gEx 0 ?_<;>refine gEx 1 ?_<;>(refine bD 25 (fun hb25=>?_) (fun hb25=>?_)<;>(first|refine kD 2 ?_|refine gDx 2 ?_))<;>(first|refine kD 3 ?_|refine gDx 3 ?_)<;>(first|refine kD 4 ?_|refine xD 4 rfl (Zu Ge) ?_)<;>(first|refine kD 5 ?_|refine gDx 5 ?_)<;>refine gEx 6 ?_<;>refine gEx 7 ?_<;>(first|refine kD 8 ?_|(refine bDd 31 (fun hb31=>?_) (fun hb31=>?_)<;>(first|refine kD 8 ?_|(obtain ⟨y,hy⟩:=gS m k;have e1:=Yd hy;have e2:=YF hy;refine gDx 8 ?_))))<;>(first|refine kD 9 ?_|refine gDx 9 ?_)<;>(first|refine kD 10 ?_|refine xD 10 rfl (Ze Ge) ?_)<;>(first|refine kD 11 ?_|(refine yD 11 rfl (We Tz) fun v35 h=>?_;cases h))<;>(first|refine kD 12 ?_|(refine yD 12 rfl (Zm 4 Tz) fun v36 h=>?_;cases h))<;>(refine ZY 13 kR ?_)<;>(first|(refine Ym (d:=37) rfl (cA call274 (Zca y x (hm y (Xb hy)) hx)) fun v37 h=>?_;cases h)|(refine aWr fun bk=>?_;refine kL ?_;refine bE bk ?_))<;>(first|refine kD 14 ?_|refine gDx 14 ?_)<;>refine gEx 15 ?_<;>refine Wo ?_)<;>(
 refine Ja (fun _:{u:Unit//(if b=true then SN x m else Oz x m)=m.take k++[x]++m.drop k}=>⟨[(0,v0,YJ m),(4,padd (sbase h4) 0, .val (padd (sbase h4) 0)),(7, .int .i64 (k:Nat),Zb (k:Nat))],[(4,h4, .own 51 3 1 [Zb x.op,Zx x.act,YJ x.l])]⟩) ?_ ?_
 . refine cX ?_ ?_<;>intro hb39
   . first|exact bN hb39|(
 refine ZP ?_;refine Zg results239 rfl ?_;rw [Qd (by assumption),Ze9 x m k y hlt hy (by assumption)])
   . (
 refine nav ?_;have hres:(if b=true then SN x m else Oz x m)=m.take k++[x]++m.drop k:=by
  first
  |(rw [Qd hb25];exact Zhc x m k hk hlt fun z h=>⟨hge z h,by rw [hy] at h;cases h;exact hb39⟩)
  |(rw [Qd hb25];exact Zhc x m k hk hlt fun z h=>by have:=Zd h;omega)
  |(rw [Qc (by simpa using hb25)];exact Zhb x m k hk hlt hge)
  |(rw [Qc (by rw [hb25];decide)];exact Zhb x m k hk hlt hge)
 exact Yo ⟨(),hres⟩ sB sB)
 . rintro ⟨_,hres⟩;refine nav ?_;refine Ja (fun h:Value=>⟨[(0,v0,YJ m),(7, .int .i64 (k:Nat),Zb (k:Nat)),(8,h, .val h)],[(48,h, .own 51 3 (m.take k++[x]).length (Z9 (m.take k++[x])))]⟩) ?_ ?_
   . (refine Yx [] [4] ?_<;>refine gDx 1 ?_<;>refine gDx 2 ?_<;>refine xD 3 rfl (Wd (i:=0) (j:=k) Ge rfl rfl rfl rfl (Xg _) hk hcl) ?_<;>(refine yD 5 rfl (Zm 4 Tz) fun v46 h=>?_;cases h)<;>(refine WJ 0 6 kR ?_ ?_;rotate_right;(focus ((refine aWr fun bk=>?_)<;>refine Wy 47 KA fun h47 ho47=>?_<;>refine bE bk ?_<;>(refine aDr 0 fun bk=>?_)<;>refine T7 41 KA fun h41 ho41=>?_<;>refine bE bk ?_<;>(refine aDr 4 fun bk=>?_)<;>(refine Zz (Ki (t:=44) (p':=YJ (m.take k)) rfl (Zah hk)) fun _=>?_;refine Ka 41 45 KA (fun h45 ho45=>?_) f1 f2)<;>refine bE bk ?_<;>(refine aDr 7 fun bk=>?_)<;>(refine Y7 45 47 48 KA fun h48 ho48=>?_;refine Zz (Wm (l:=48) (p':= .own 51 3 (m.take k++[x]).length (Z9 (m.take k++[x]))) rfl (Eq.trans (show _=PV.own 51 3 (0+(m.take k).length+1) ([]++Z9 (m.take k)++cN x) from rfl) (by rw [XY,LF,Xe,XC];rfl))) fun _=>?_)<;>refine bE bk ?_<;>refine gEx 8 ?_));rotate_right;(focus ((refine aWr fun bk=>?_)<;>refine T7 41 KA fun h41 ho41=>?_<;>refine bE bk ?_<;>(refine WJ 4 6 kR ?_ ?_;rotate_right;(focus ((refine aWr fun bk=>?_)<;>refine Wy 47 KA fun h47 ho47=>?_<;>refine bE bk ?_<;>(refine aDr 4 fun bk=>?_)<;>(refine Zz (Ki (t:=44) (p':=YJ (m.take k)) rfl (Zah hk)) fun _=>?_;refine Ka 41 45 KA (fun h45 ho45=>?_) f1 f2)<;>refine bE bk ?_<;>(refine aDr 7 fun bk=>?_)<;>(refine Y7 45 47 48 KA fun h48 ho48=>?_;refine Zz (Wm (l:=48) (p':= .own 51 3 (m.take k++[x]).length (Z9 (m.take k++[x]))) rfl (Eq.trans (show _=PV.own 51 3 (0+(m.take k).length+1) ([]++Z9 (m.take k)++cN x) from rfl) (by rw [XY,LF,Xe,XC];rfl))) fun _=>?_)<;>refine bE bk ?_<;>refine gEx 8 ?_));rotate_right;(focus ((refine aWr fun bk=>?_)<;>(refine Zz (Ki (t:=44) (p':=YJ (m.take k)) rfl (Zah hk)) fun _=>?_;refine Ka 41 45 KA (fun h45 ho45=>?_) f1 f2)<;>refine bE bk ?_<;>(refine aDr 6 fun bk=>?_)<;>refine Wy 47 KA fun h47 ho47=>?_<;>refine bE bk ?_<;>(refine aDr 7 fun bk=>?_)<;>(refine Y7 45 47 48 KA fun h48 ho48=>?_;refine Zz (Wm (l:=48) (p':= .own 51 3 (m.take k++[x]).length (Z9 (m.take k++[x]))) rfl (Eq.trans (show _=PV.own 51 3 (0+(m.take k).length+1) ([]++Z9 (m.take k)++cN x) from rfl) (by rw [XY,LF,Xe,XC];rfl))) fun _=>?_)<;>refine bE bk ?_<;>refine gEx 8 ?_))))))<;>refine Wo ?_)<;>(
 exact Yo h48 sB sB)
   rintro h48;(have hxl:(m.take k++[x]).length=k+1:=by rw [Xe,hkl];rfl);refine WL ?_;refine xM (Wd (i:=k) (j:=m.length) Ge rfl rfl rfl rfl hk (Xd _) hcl) ?_;refine Zz (Ki (t:=52) (p':=YJ (m.drop k)) rfl (Zaj hk)) fun _=>?_;refine Ka 48 53 KA (fun h53 ho53=>?_) f3 f4;refine ZD ?_;refine YK (En.freeze (l:=53) (t:=6) rfl rfl) fun _=>?_;refine Zg results239 rfl ?_;rw [hres,Zag,<-Xe,JK _ _ _ rfl]))
def ZnE (op:Int) {l:List Nd} {k:Nat} {x:Nd} (h:l[k]? =some x):Lo op (l.take (k+1))=Lo op (l.take k)++(if x.op=op then x.l else [x]):=by
 unfold Lo
 rw [ZR h,XR,Ud]
def Zdv (op:Int) (l:List Nd):szL (Lo op l)<=szL l:=by
 induction l with
 |nil=>exact Xd _
 | cons x l ih=>
   unfold Lo at ih ⊢;rw [Xq,Ln,szL];have:szL (if x.op=op then x.l else [x])<=szT x:=by
    split
    . rw [SQ];omega
    simp [szL]
   omega
def HW (op:Int) (l:List Nd) (k:Nat):(Lo op (l.take k)).length<=szL l:=by
 have h1:=GP (Lo op (l.take k))
 have h2:=Zdv op (l.take k)
 have h3:szL (l.take k)<=szL l:=by
  conv=>rhs;rw [<-Vw k l]
  rw [Ln];omega
 omega
def ZiU {op:Int} {l:List Nd} (h:∀x∈l,FitT x):∀y∈Lo op l,FitT y:=fun y hy=>by
 unfold Lo at hy
 obtain ⟨x,hx,h1⟩:=Us.1 hy
 split at h1
 . exact (h x hx).p y h1
 rw [XE.1 h1];exact h x hx
def Zfa (l:List Nd) (op:Int) (hn:szL l<=1000000):AF prog 238 [YJ l,Zb op] (· =YJ (Lo op l)):=by
 have hll:l.length<=1000000:=XI (GP l) hn
 refine AF.b2 35 func238 rfl ntmps238 (Xa rfl) ?_
 rintro w0 M0 v0 _-rfl
 refine Jx ?_
 refine Zs (YO 200 51 3 rfl) fun _=>?_
 refine Zp ?_;refine ZD ?_
 refine Yl (ι:={q:Nat×Value//q.1<=l.length/\q.2.oneCell'=true}) (fun k=>⟨[(0,_,_),(1,_,_),(5,k.1.2, .val k.1.2),(6, .int .i64 k.1.1,Zb k.1.1)],[(200,k.1.2, .own 51 3 (Lo op (l.take k.1.1)).length (Z9 (Lo op (l.take k.1.1))))]⟩) (fun k=>l.length-k.1.1) ⟨(0, .slice none 0 0),Xg _,rfl⟩ ?_
 rintro ⟨⟨k,hO⟩,hk,hOo⟩
 dsimp only
 dsimp only at hk hOo
 have hpl:=HW op l k
 have hpl2:=HW op l (k+1)
 refine Zi ?_
 refine xL 7 Za (xL 8 Za (xL 9 (Zu Ge) (xL 10 Yn ?_)));refine ZC ?_ ?_<;>intro hb10
 . (
 obtain ⟨x,hx⟩:=gS l k;have e1:((Z9 l).drop (k*3)).take 3=[Zb x.op,Zx x.act,YJ x.l]:=Yd hx;have e2:=YF hx;have hsn:=ZnE op hx;have f1:(Z9 x.l).length=x.l.length*3:=TU _;have f2:=Sl x.l;(have g0:(Z9 l)[k*3+0]? =some (Zb x.op):=by rw [show k*3+0=k*3+0 from rfl,<-Vn,<-X1 (show 0<3 by decide),e1];rfl);(have g2:(Z9 l)[k*3+2]? =some (YJ x.l):=by rw [<-Vn,<-X1 (show 2<3 by decide),e1];rfl);refine Zi ?_;refine xL 13 Za (xL 14 Za (xL 15 (Ze Ge) (xL 16 (Yg Ze7) ?_)));refine yV (Zw ZnD) ?_;refine Wv ?_ ?_<;>intro hb19
 . (
 rw [Qd hb19] at hsn;(have hsl:(Lo op (l.take (k+1))).length=(Lo op (l.take k)).length+x.l.length:=by rw [hsn,Xe]);refine Zi ?_;refine xL 20 Za (xL 21 Za (xL 22 Za (xL 23 (Ze Ge) (xL 24 (Yg Ze8) ?_))));refine yU (Zw ZkL) fun v25=>?_;refine Ka 200 26 KA (fun h26 ho26=>?_) f1 f2;refine Zz (ZK (l:=26) 200 rfl rfl) fun _=>?_;refine Zz (Wm (l:=200) (p':= .own 51 3 (Lo op (l.take (k+1))).length (Z9 (Lo op (l.take (k+1))))) rfl (by rw [Zag,<-hsn,hsl])) fun _=>?_;refine KQ ?_
 first
  | (exact Yk (
      ⟨(k+1,h26),Zd hx,ho26⟩
      ))
  | (exact Yk (
      ⟨(k+1,h33),Zd hx,ho33⟩
      )))
 rw [Qc hb19] at hsn;(have hsl:(Lo op (l.take (k+1))).length=(Lo op (l.take k)).length+1:=by rw [hsn,Xe];rfl);refine Zi ?_;refine xL 27 Za (xL 28 Za (xL 29 Za (xL 30 (Ze Ge) ?_)));refine yU (We Tz) fun v31=>?_;refine Wy 32 KA fun h32 ho32=>?_;refine Y7 200 32 33 KA fun h33 ho33=>?_;refine Zz (ZK (l:=33) 200 rfl rfl) fun _=>?_;refine Zz (Wm (l:=200) (p':= .own 51 3 (Lo op (l.take (k+1))).length (Z9 (Lo op (l.take (k+1))))) rfl (Eq.trans (congrArg (PV.own 51 3 _) (show _=Z9 (Lo op (l.take k))++cN x from rfl)) (by rw [LF,<-hsn,hsl]))) fun _=>?_;refine KQ ?_
 first
  | (exact Yk (
      ⟨(k+1,h26),Zd hx,ho26⟩
      ))
  | (exact Yk (
      ⟨(k+1,h33),Zd hx,ho33⟩
      )))
 rw [Xs (show l.length<=k by omega)];refine nav ?_;refine Zs (En.freeze (l:=200) (t:=5) rfl rfl) fun _=>?_;refine Gt ?_;refine Zg results238 rfl ?_;rw [JK _ _ _ rfl]
