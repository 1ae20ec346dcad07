/-
  Walks of functions and plain laws of the chapter, as the claim needs them.
-/
import Derived.KernelRfl
import Derived.Test.YtpiemogpblmiiaaGreatDoorProg
import Derived.Maps.Own
import Derived.Maps.OwnOps
import Derived.Maps.OwnSet
import Derived.StringKeys
import Derived.Test.YtpiemogpblmiiaaGreatDoorPa01
namespace Go.En
open Go.RowKit Go.Cb
set_option linter.all false
section
variable {P:Program} {c:Ctx} {sL hP:List (Nat×Ent)} {o:Oper}
theorem Ct {t k j:Nat} {x:Operand} {v:Value} {cs ps:List PV} (hT:AggT P t k=true) (ho:o.op= .load t x) (hx:ev sL x=some (v, .sptr j cs)) (hp:j+k≤cs.length) (hps:(cs.drop j).take k=ps):YE P (⟨sL,hP⟩:St) o (fun _=>True) (.agg ps):=hps▸ZaV hT ho hx hp
theorem Cu {t k j e k' n:Nat} {x:Operand} {h:Value} {q:PV} {cs ps:List PV} (l:Nat) (hT:AggT P t k=true) (ho:o.op= .load t x) (hx:ev sL x=some (padd (sbase h) j,q)) (hl:lk hP l=some (h, .own e k' n cs)) (hp:j+k≤cs.length) (hk:0<k) (hps:(cs.drop j).take k=ps) (hsh:ps.all isSh=true):YE P (⟨sL,hP⟩:St) o (fun _=>True) (.agg ps):=by
 subst hps;exact ZaW l hT ho hx hl hp hsh hk
theorem ZgR {f:Nat} {caps:Array Operand} {es:List Ent} (ho:o.op= .makeFunc (.func f) #[] caps) (hx:evL sL caps.toList=some es):YE P (⟨sL,hP⟩:St) o (· = .func (.func f) #[] (es.map (·.1)).toArray) (.fn f (es.map (·.2))):=
 .exact fun M F a w H=>by
  obtain ⟨h1,h2⟩:=KJ H hx;refine ⟨.fn f _ _ (by rw [Xe,Xe]) h2,?_⟩;have:caps.map a.eval=(es.map (·.1)).toArray:=by rw [←h1,←X7,X6]
  simp [execOp,ho,Instr.makeFunc,this]
end
theorem Jr {P:Program} {c:Ctx} {sL hP:List (Nat×Ent)} {Q:Exit→Act→World→Prop} {x:Code} {n:Nat} {v:Value} {cs:List PV} (t:Nat) (ht:lk sL t=some (v, .sl n cs)) (k:n≤9223372036854775807→aC P c x Q (⟨sL,hP⟩:St)):aC P c x Q (⟨sL,hP⟩:St):=fun a w H=>by
 obtain ⟨F,H'⟩:=id H
 have h1:=(H'.sl t _ _ ht).2
 have:n≤9223372036854775807:=by
  cases h1 with
  |emp=>omega
  |sl b off n c cs vs hn hc=>unfold maxLen at hc;omega
 exact k this a w H
abbrev Zc (n:Int):PV:= .val (.int .i64 n)
abbrev ZZ (s:ByteArray):PV:= .val (.string s)
abbrev ZV (b:Bool):PV:= .val (.bool b)
def pInts (l:List Int):PV:= .sl l.length (l.map Zc)
theorem Y2 {α β:Type} {f:α→β} {l:List α} {i:Nat} {x:α} (h:l[i]? =some x):(l.map f)[i*1]? =some (f x):=by rw [XF,Xo,h];rfl
theorem WR {α β:Type} {f:α→List β} {k:Nat} (hf:∀x,(f x).length=k):∀l:List α,(l.flatMap f).length=l.length*k
 |[]=>sM
 |x::l=>by rw [Xp,Xg,hf,WR hf l,Xc,XY];omega
theorem Z' {α β:Type} {f:α→List β} {k:Nat} (hf:∀x,(f x).length=k):∀(l:List α) (i:Nat) (x:α),l[i]? =some x→((l.flatMap f).drop (i*k)).take k=f x
 |[],i,x,h=>by simp at h
 | y::l,0,x,h=>by
   simp at h;subst h;rw [Vr,Vs,Xp,List.take_append_of_le_length (by rw [hf];exact Xb _),Xs (by rw [hf];exact Xb _)]
 | y::l,i+1,x,h=>by
   rw [Xp,XY,Nat.one_mul,Nat.add_comm,←Xy,List.drop_append_of_le_length (by rw [hf];exact Xb _),show (f y).drop k=[] from List.drop_of_length_le (by rw [hf];exact Xb _),VH];exact Z' hf l i x (by simpa using h)
theorem R8 {α β:Type} {f:α→List β} {k:Nat} (hf:∀x,(f x).length=k) {l:List α} {i:Nat} {x:α} (h:l[i]? =some x) {j:Nat} (hj:j<k):(l.flatMap f)[i*k+j]? =(f x)[j]? :=by
 rw [←Z' hf l i x h,X5 hj,XT]
theorem Yp {α β:Type} {f:α→List β} {k:Nat} (hf:∀x,(f x).length=k) {l:List α} {i:Nat} {x:α} (h:l[i]? =some x):i*k+k≤(l.flatMap f).length:=by
 rw [WR hf]
 have:=Zg h
 have h1:(i+1)*k≤l.length*k:=Ve k this
 rw [XY,Nat.one_mul] at h1
 exact h1
theorem Kl {α:Type} {l:List α} (h:l.length=1):∃a,l=[a]:=by
 match l,h with
 |[a],_=>exact ⟨a,rfl⟩
theorem KG {α:Type} {l:List α} (h:l.length=2):∃a b,l=[a,b]:=by
 match l,h with
 |[a,b],_=>exact ⟨a,b,rfl⟩
theorem OM {α:Type} {l:List α} (h:l.length=3):∃a b d,l=[a,b,d]:=by
 match l,h with
 |[a,b,d],_=>exact ⟨a,b,d,rfl⟩
theorem ZiA {α:Type} {l:List α} (h:l.length=4):∃a b d e,l=[a,b,d,e]:=by
 match l,h with
 |[a,b,d,e],_=>exact ⟨a,b,d,e,rfl⟩
structure MpT (P:Program) (t ks e:Nat) (kd:TypeDesc) (z:Value):Prop where
 ht:P.underlying t=some (.map ks e)
 hk:P.underlying ks=some kd
 hkd:kd= .string∨∃k,kd= .int k
 hz:ZeroT P e z
section
variable {P:Program} {c:Ctx} {ops:Array Oper} {Q:Exit→Act→World→Prop} {rest:List Oper} {sL hP:List (Nat×Ent)} {o:Oper}
def bits:Value→Bool
 | .string _| .int _ _| .bool _=>true
 |_=>false
end
section
variable {P:Program} {ops:Array Oper} {Q:Exit→Act→World→Prop} {md:Region.Mode} {C:World→Prop} {Z:Nat→Bool}
def KH (P:Program) (md:Region.Mode) (ops:Array Oper) (Q:Exit→Act→World→Prop) (C:World→Prop) (Z:Nat→Bool):Nat→Array Bool→Act→World→Prop
 |0,listed,a,w=>Region.ready md ops listed=[]∧Q .normal a w
 | fuel+1,listed,a,w=>
   (Region.ready md ops listed=[]→Q .normal a w)∧
   ∀i∈Region.ready md ops listed,wpOp P ops (O0 Q) i (fun a' w'=>(Z i=true∨C w')∧KH P md ops Q C Z fuel (listed.setIfInBounds i true) a' w') a w
theorem Pw:∀(fuel:Nat) (listed:Array Bool) (a:Act) (w:World),KH P md ops Q C Z fuel listed a w→wpAny P md ops Q fuel listed a w
 |0,_,_,_,h=>h
 |fuel+1,_,_,_,h=>⟨h.1,fun i hi=>Co (wpOp_mono (fun a' w' h'=>Pw fuel _ a' w' h'.2) (h.2 i hi))⟩
def Tx (md:Region.Mode) (ops:Array Oper) (Z:Nat→Bool) (i:Nat):Bool:=(List.range ops.size).all fun z=> !Z z||HI md ops z i
theorem TV {i:Nat} {oi:Oper} {v:Value} (hi:ops[i]? =some oi) (hz:Tx md ops Z i=true)
 (hsel:∀(j:Nat) (o:Oper) cs b,ops[j]? =some o→o.op≠ .select cs b):
 ∀ (fuel:Nat) (listed:Array Bool) (a:Act) (w:World),
  (∀j oj,ops[j]? =some oj→j≠i→listed.getD j true=false→(∀e∈oj.after,Region.binds md e=true→e.on≠i)→oi.apart ops oj=true)→
  i∈Region.ready md ops listed→YieldsC P ops C oi v a→C w→
  KH P md ops Q C Z fuel (listed.setIfInBounds i true) (a.put oi.dst v) w→KH P md ops Q C Z (fuel+1) listed a w:=by
 intro fuel
 induction fuel with
 | zero=>
   intro listed a w _ hr hy hC H;refine ⟨fun h=>(by rw [h] at hr;cases hr),fun j hj=>?_⟩;by_cases hji:j=i
   · subst hji;exact YieldsIf.wpOp hi hy.ifS hC ⟨.inr hC,H⟩
   · have:=ready_mono hj hji;rw [H.1] at this
     cases this
 | succ fuel ih=>
   intro listed a w hfree hr hy hC H;refine ⟨fun h=>(by rw [h] at hr;cases hr),fun j hj=>?_⟩;by_cases hji:j=i
   · subst hji;exact YieldsIf.wpOp hi hy.ifS hC ⟨.inr hC,H⟩
   · have h1:=H.2 j (ready_mono hj hji);obtain ⟨hjun,oj,hoj,hall⟩:=mem_ready.1 hj;have hnot:∀e∈oj.after,Region.binds md e=true→e.on≠i:=fun e he hb heq=>by
      have h1:=hall e he hb;have h0:=(mem_ready.1 hr).1;rw [heq] at h1;rcases Xm i listed.size with h'|h'
      · simp [h'] at h0 h1;rw [h0] at h1;cases h1
      · simp [XX h'] at h1
     have hjz:Z j=false:=by
      cases hZ:Z j
      · rfl
      · exfalso;have hjs:j<ops.size:=by
         rcases Xm j ops.size with h'|h'
         · exact h'
         · rw [XX h'] at hoj;cases hoj
        have:=Xj.1 hz j (Vf.2 hjs);rw [hZ] at this;simp only [Vv,Bool.false_or] at this;unfold HI at this;rw [hoj] at this;obtain ⟨e,he,hb⟩:=Array.any_eq_true'.1 this;simp only [Xf,beq_iff_eq] at hb;exact hnot e he hb.1 hb.2
     have h2:=wpOp_putIf hoj (hfree j oj hoj hji hjun hnot) (fun cs b=>hsel i oi cs b hi) (fun cs b=>hsel j oj cs b hoj) (fun c a w h=>h) hy.ifS h1;have hfree':∀k ok,ops[k]? =some ok→k≠i→(listed.setIfInBounds j true).getD k true=false→
      (∀e∈ok.after,Region.binds md e=true→e.on≠i)→oi.apart ops ok=true:=fun k ok hk hki hun hno=>by
      refine hfree k ok hk hki ?_ hno;by_cases hjk:j=k
      · subst hjk;exact hjun
      · rw [getD_set_ne true hjk] at hun;exact hun
     refine wpOp_mono (fun a' w' h3=>?_) h2;obtain ⟨hy',hor,hK⟩:=h3;have hC':C w':=by
      rcases hor with h|h
      · rw [hjz] at h;cases h
      · exact h
     refine ⟨.inr hC',ih (listed.setIfInBounds j true) a' w' hfree' (ready_mono hr (Ne.symm hji)) hy' hC' ?_⟩;rw [Uh _ _ hji];exact hK
end
def YM (K:List Nat):List (Nat×Ent)→List (Nat×Ent)
 |[]=>[]
 |(k,x)::l=>cond (K.elem k) ((k,x)::YM K l) (YM K l)
def Wr (K:List Nat):List (Nat×Ent)→List (Nat×Ent)
 |[]=>[]
 |(k,x)::l=>cond (K.elem k) (Wr K l) ((k,x)::Wr K l)
theorem J4 {K:List Nat} {t:Nat}:∀{l:List (Nat×Ent)} {x:Ent},lk (YM K l) t=some x↔K.elem t=true∧lk l t=some x
 |[],x=>by simp [YM,lk]
 | (k, y)::l,x=>by
   unfold YM
   cases hk:K.elem k
   · simp only [cond_false,lk];rw [J4]
     cases hb:Nat.beq k t
     · simp
     · have:k=t:=XE hb;subst this;rw [hk];simp
   · simp only [cond_true,lk]
     cases hb:Nat.beq k t
     · simp only [cond_false];exact J4
     · have:k=t:=XE hb;subst this;rw [hk];simp
theorem WS {K:List Nat} {t:Nat}:∀{l:List (Nat×Ent)} {x:Ent},lk (Wr K l) t=some x↔K.elem t=false∧lk l t=some x
 |[],x=>by simp [Wr,lk]
 | (k, y)::l,x=>by
   unfold Wr
   cases hk:K.elem k
   · simp only [cond_false,lk]
     cases hb:Nat.beq k t
     · simp only [cond_false];exact WS
     · have:k=t:=XE hb;subst this;rw [hk];simp
   · simp only [cond_true,lk];rw [WS]
     cases hb:Nat.beq k t
     · simp
     · have:k=t:=XE hb;subst this;rw [hk];simp
theorem Za4 {l m:List (Nat×Ent)} {t:Nat}:lk (l++m) t=match lk l t with|some x=>some x|none=>lk m t:=by
 induction l with
 |nil=>rfl
 | cons y l ih=>
   obtain ⟨k,y⟩:=y;simp only [Vm,lk]
   cases Nat.beq k t
   · simp only [cond_false];exact ih
   · rfl
def nK (K:List Nat) (h:List (Nat×Ent)) (F:Nat→BS):BS:=fun b=>∃l x,K.elem l=false∧lk h l=some x∧F l b
def aD (P:Program) (c:Ctx) (ops:Array Oper) (Q:Exit→Act→World→Prop) (Z:Nat→Bool) (K:List Nat) (fuel:Nat) (listed:Array Bool) (st:St):Prop:=
 ∀a w F,HoldsF c st F a w→∀C:World→Prop,(∀W,Chg (nK K st.heap F) w W→C W)→KH P .any ops Q C Z fuel listed a w
section
variable {P:Program} {c:Ctx} {ops:Array Oper} {Q:Exit→Act→World→Prop} {Z:Nat→Bool} {K:List Nat} {fuel:Nat} {listed:Array Bool} {sL hP:List (Nat×Ent)} {o:Oper}
theorem JK {C C':World→Prop} (h:∀w,C' w→C w):∀(fuel:Nat) (listed:Array Bool) (a:Act) (w:World),KH P .any ops Q C' Z fuel listed a w→KH P .any ops Q C Z fuel listed a w
 |0,_,_,_,H=>H
 |fuel+1,_,_,_,H=>⟨H.1,fun i hi=>wpOp_mono (fun a' w' h'=>⟨h'.1.imp id (h w'),JK h fuel _ a' w' h'.2⟩) (H.2 i hi)⟩
theorem ZS {id:Nat} {l:List Oper} (Z:Nat→Bool) (K:List Nat) (hm:P.follows .mixedOrders=true) (h:aD P c l.toArray Q Z K l.length (Array.replicate l.length false) (⟨sL,hP⟩:St)):aC P c (.region id l.toArray true) Q (⟨sL,hP⟩:St):=fun a w ⟨F,H⟩=>by
 refine wp_region_any hm (Pw (C:=fun _=>True) (Z:=Z) _ _ _ _ ?_)
 have:=h a w.drew F (H.up (Ext.drew w)) (fun _=>True) (fun _ _=>trivial)
 simpa using this
theorem Yu (hr:Region.ready .any ops listed=[]) (h:aN c Q (⟨sL,hP⟩:St)):aD P c ops Q Z K fuel listed (⟨sL,hP⟩:St):=fun a w F H C hC=>by
 cases fuel with
 |zero=>exact ⟨hr,h a w ⟨F,H⟩⟩
 |succ n=>exact ⟨fun _=>h a w ⟨F,H⟩,fun i hi=>by rw [hr] at hi;cases hi⟩
theorem HoldsF.rdK {F:Nat→BS} {a:Act} {w:World} (H:HoldsF c (⟨sL,hP⟩:St) F a w) (K:List Nat):RdF (mof c hP F) ⟨sL,YM K hP⟩ F a w:=⟨fun l v p h=>H.tr l v p (J4.1 h).2,H.sl⟩
theorem Zia {V:Value→Prop} {p:PV} (i d:Nat) (ho:ops[i]? =some o) (hck:(Region.noSelect ops&&(Region.ready .any ops listed).contains i&&Region.free .any ops listed i&&Tx .any ops Z i)=true) (hw:Z7 ops sL o=some true) (hd:o.dst=some d) (hn:d<c.nt) (hy:YE P ⟨sL,YM K hP⟩ o V p)
 (k:∀v,V v→aD P c ops Q Z K fuel (listed.setIfInBounds i true) ⟨put d (v,p) sL,hP⟩):aD P c ops Q Z K (fuel+1) listed (⟨sL,hP⟩:St):=fun a w F H C hC=>by
 simp only [Xf] at hck
 obtain ⟨⟨⟨hs,hr⟩,hf⟩,hz⟩:=hck
 obtain ⟨v,hV,hS,hrun⟩:=hy _ F a w (H.rdK K)
 refine JK hC _ _ _ _ ?_
 refine TV ho hz (Region.noSelect_spec hs) _ listed a w (Region.free_spec ho hf) (by simpa using hr) (v:=v) (.inl ⟨Kw H.rd hw,fun W hW=>?_⟩) (Chg.rfl' _ _) ?_
 · exact hrun _ W hW (fun b ⟨l,x,_,h1,h2⟩=> .inr ⟨l,x,h1,h2⟩) (fun l x b hl hFb ⟨l',x',h1,h2,h3⟩=>by
    obtain ⟨h4,h5⟩:=J4.1 hl;exact H.dj l l' _ _ b (fun e=>by rw [e,h1] at h4;cases h4) h5 h2 hFb h3)
 · rw [hd];exact k v hV _ w F (H.put hn hS) _ (fun W h=>h)
theorem ZiB {v:Value} {p:PV} (i d:Nat) (ho:ops[i]? =some o) (hck:(Region.noSelect ops&&(Region.ready .any ops listed).contains i&&Region.free .any ops listed i&&Tx .any ops Z i)=true) (hw:Z7 ops sL o=some true) (hd:o.dst=some d) (hn:d<c.nt) (hy:YE P ⟨sL,YM K hP⟩ o (· =v) p)
 (k:aD P c ops Q Z K fuel (listed.setIfInBounds i true) ⟨put d (v,p) sL,hP⟩):aD P c ops Q Z K (fuel+1) listed (⟨sL,hP⟩:St):=Zia i d ho hck hw hd hn hy fun u hu=>by cases hu;exact k
theorem Zgr {V:Value→Prop} {p:PV} (i d:Nat) (ho:ops[i]? =some o) (hr:Region.ready .any ops listed=[i]) (hw:Z7 ops sL o=some true) (hd:o.dst=some d) (hn:d<c.nt) (hy:YE P (⟨sL,hP⟩:St) o V p)
 (k:∀v,V v→aD P c ops Q Z K fuel (listed.setIfInBounds i true) ⟨put d (v,p) sL,hP⟩):aD P c ops Q Z K (fuel+1) listed (⟨sL,hP⟩:St):=fun a w F H C hC=>by
 obtain ⟨v,hV,hS,hrun⟩:=hy _ F a w H.rd
 have h1:YieldsC P ops (fun W=>W=w) o v a:= .inl ⟨Kw H.rd hw,fun W hW=>by
  subst hW;exact hrun (fun _=>False) W (Chg.rfl' _ _) (fun _ h=>h.elim) (fun _ _ _ _ _ h=>h)⟩
 refine ⟨fun hn=>(by rw [hr] at hn;cases hn),fun j hj=>?_⟩
 rw [hr] at hj
 obtain rfl:j=i:=by simpa using hj
 refine YieldsIf.wpOp ho h1.ifS rfl ⟨.inr (hC w (Chg.rfl' _ _)),?_⟩
 rw [hd]
 exact k v hV _ w F (H.put hn hS) C hC
theorem Zib {v:Value} {p:PV} (i d:Nat) (ho:ops[i]? =some o) (hr:Region.ready .any ops listed=[i]) (hw:Z7 ops sL o=some true) (hd:o.dst=some d) (hn:d<c.nt) (hy:YE P (⟨sL,hP⟩:St) o (· =v) p)
 (k:aD P c ops Q Z K fuel (listed.setIfInBounds i true) ⟨put d (v,p) sL,hP⟩):aD P c ops Q Z K (fuel+1) listed (⟨sL,hP⟩:St):=Zgr i d ho hr hw hd hn hy fun u hu=>by cases hu;exact k
theorem ZeJ (i d:Nat) (ho:ops[i]? =some o) (hck:(Region.noSelect ops&&(Region.ready .any ops listed).contains i&&Region.free .any ops listed i&&Tx .any ops Z i)=true) (hw:Z7 ops sL o=some false) (hd:o.dst=some d) (hn:d<c.nt)
 (k:aD P c ops Q Z K fuel (listed.setIfInBounds i true) ⟨put d (undef, .val undef) sL,hP⟩):aD P c ops Q Z K (fuel+1) listed (⟨sL,hP⟩:St):=fun a w F H C hC=>by
 simp only [Xf] at hck
 obtain ⟨⟨⟨hs,hr⟩,hf⟩,hz⟩:=hck
 refine JK hC _ _ _ _ ?_
 refine TV ho hz (Region.noSelect_spec hs) _ listed a w (Region.free_spec ho hf) (by simpa using hr) (v:=undef) (.inr ⟨Kw H.rd hw,rfl⟩) (Chg.rfl' _ _) ?_
 rw [hd]
 exact k _ w F (H.put hn (.val _)) _ (fun W h=>h)
theorem HQ (t:Nat) {b:Bool} {q:PV} (hx:lk sL t=some (.bool b,q)) (ht:b=true→aD P c ops Q Z K fuel listed ⟨put t (.bool true, .val (.bool true)) sL,hP⟩) (hf:b=false→aD P c ops Q Z K fuel listed ⟨put t (.bool false, .val (.bool false)) sL,hP⟩):aD P c ops Q Z K fuel listed (⟨sL,hP⟩:St):=fun a w F H C hC=>by
 have key:HoldsF c ⟨put t (.bool b, .val (.bool b)) sL,hP⟩ F a w:=⟨H.toHeapF,fun s u r hs=>by
  rcases YS hs with ⟨rfl,e⟩|⟨_,e⟩
  · cases e;exact ⟨(H.sl _ _ _ hx).1, .val _⟩
  · exact H.sl s u r e,H.size,H.df⟩
 cases b
 · exact hf rfl a w F key C hC
 · exact ht rfl a w F key C hC
theorem HoldsF.frame {F:Nat→BS} {a:Act} {w:World} (H:HoldsF c (⟨sL,hP⟩:St) F a w) (K:List Nat):
 HoldsF ⟨w,fun b=>c.M0 b∨∃l x,K.elem l=true∧lk hP l=some x∧F l b,nK K hP F,c.nt,c.dr,c.df⟩ ⟨sL,Wr K hP⟩ F a w:=by
 have hm:∀b,mof ⟨w,fun b=>c.M0 b∨∃l x,K.elem l=true∧lk hP l=some x∧F l b,nK K hP F,c.nt,c.dr,c.df⟩ (Wr K hP) F b→mof c hP F b:=by
  rintro b ((h|⟨l,x,_,h1,h2⟩)|⟨l,x,h1,h2⟩)
  · exact .inl h
  · exact .inr ⟨l,x,h1,h2⟩
  · exact .inr ⟨l,x,(WS.1 h1).2,h2⟩
 refine ⟨⟨fun l v p h=>(H.tr l v p (WS.1 h).2).anti fun b _=>hm b,fun l x b h hb=> .inr ⟨l,x,(WS.1 h).1,(WS.1 h).2,hb⟩,fun l l' x x' b hne h h'=>H.dj l l' x x' b hne (WS.1 h).2 (WS.1 h').2,?_,Chg.rfl' _ _,fun _=>Xb _⟩,fun t v p h=>⟨(H.sl t v p h).1,(H.sl t v p h).2.anti fun b _=>hm b⟩,H.size,H.df⟩
 refine ⟨?_,fun hn g hg=>?_,fun hn g hg=>?_⟩
 rotate_left
 · obtain ⟨h1,h2,_⟩:=H.mok.tb hn g hg;refine ⟨h1,?_,?_⟩
   · rintro (h|⟨l,x,_,h3,h4⟩)
     · exact h2 (.inl h)
     · exact h2 (.inr ⟨l,x,h3,h4⟩)
   · rintro ⟨l,x,_,h3,h4⟩;exact h2 (.inr ⟨l,x,h3,h4⟩)
 · obtain ⟨h1,h2,_⟩:=H.mok.er hn g hg;refine ⟨h1,?_,?_⟩
   · rintro (h|⟨l,x,_,h3,h4⟩)
     · exact h2 (.inl h)
     · exact h2 (.inr ⟨l,x,h3,h4⟩)
   · rintro ⟨l,x,_,h3,h4⟩;exact h2 (.inr ⟨l,x,h3,h4⟩)
 rintro b (h|⟨l,x,hK,h1,h2⟩)
 · exact ⟨Nat.lt_of_lt_of_le (H.m0.m b h).1 H.ext.size,fun ⟨l,x,_,h1,h2⟩=>H.apart h h1 h2⟩
 · exact ⟨(H.tr l _ _ h1).lt b h2,fun ⟨l',x',hK',h3,h4⟩=>H.dj l l' _ _ b (fun e=>by rw [e,hK'] at hK;cases hK) h1 h3 h2 h4⟩
theorem HoldsF.unframe {F F':Nat→BS} {a a':Act} {w w':World} {st':St} (H:HoldsF c (⟨sL,hP⟩:St) F a w)
 (H':HoldsF ⟨w,fun b=>c.M0 b∨∃l x,K.elem l=true∧lk hP l=some x∧F l b,nK K hP F,c.nt,c.dr,c.df⟩ st' F' a' w'):
 HoldsF c ⟨st'.slots,st'.heap++YM K hP⟩ (fun l=>match lk st'.heap l with|some _=>F' l|none=>F l) a' w'∧Chg (nK K hP F) w w'∧
  (∀b,nK K (st'.heap++YM K hP) (fun l=>match lk st'.heap l with|some _=>F' l|none=>F l) b→nK K hP F b∨w.heap.size≤b):=by
 have hlook:∀l x,lk (st'.heap++YM K hP) l=some x→(lk st'.heap l=some x)∨(lk st'.heap l=none∧K.elem l=true∧lk hP l=some x):=fun l x h=>by
  rw [Za4] at h
  cases h1:lk st'.heap l with
  |some y=>rw [h1] at h;cases h;exact .inl rfl
  |none=>rw [h1] at h;exact .inr ⟨rfl,J4.1 h⟩
 have hmm:∀b,mof c (st'.heap++YM K hP) (fun l=>match lk st'.heap l with|some _=>F' l|none=>F l) b→mof ⟨w,fun b=>c.M0 b∨∃l x,K.elem l=true∧lk hP l=some x∧F l b,nK K hP F,c.nt,c.dr,c.df⟩ st'.heap F' b:=by
  rintro b (h|⟨l,x,h1,h2⟩)
  · exact .inl (.inl h)
  · rcases hlook l x h1 with h3|⟨h3,h4,h5⟩
    · simp only [h3] at h2;exact .inr ⟨l,x,h3,h2⟩
    · simp only [h3] at h2;exact .inl (.inr ⟨l,x,h4,h5,h2⟩)
 have hch:Chg (nK K hP F) w w':=H'.ext
 have hKN:∀l x b,K.elem l=true→lk hP l=some x→F l b→¬nK K hP F b:=fun l x b hK hl hb ⟨l',x',hK',h3,h4⟩=>H.dj l l' _ _ b (fun e=>by rw [e,hK'] at hK;cases hK) hl h3 hb h4
 have hapart:∀l x l' x' b,K.elem l=true→lk hP l=some x→F l b→lk st'.heap l'=some x'→¬F' l' b:=fun l x l' x' b hK hl hb hl' hb'=>by
  exact H'.apart (.inr ⟨l,x,hK,hl,hb⟩) hl' hb'
 refine ⟨⟨⟨fun l v p h=>?_,fun l x b h hb=>?_,fun l l' x x' b hne h h' hb hb'=>?_,H.m0,?_,fun h=>XG (H.dw h) (H'.dw h)⟩,fun t v p h=>⟨(H'.sl t v p h).1,(H'.sl t v p h).2.anti fun b _=>hmm b⟩,H'.size,H'.df⟩,hch,?_⟩
 · rcases hlook l _ h with h1|⟨h1,h2,h3⟩
   · simp only [h1];exact (H'.tr l v p h1).anti fun b _=>hmm b
   · simp only [h1];refine (H.tr l v p h3).to hch (fun b hlt hb=>?_) (fun b _ ⟨l',x',_,h4,h5⟩=> .inr ⟨l',x',h4,h5⟩) (fun b hb=>hKN l _ b h2 h3 hb);rcases hmm b hb with (h|⟨l',x',_,h4,h5⟩)|⟨l',x',h4,h5⟩
     · exact .inl h
     · exact .inr ⟨l',x',h4,h5⟩
     · rcases H'.lo l' x' b h4 h5 with h6|⟨l2,x2,_,h7,h8⟩
       · exact Uq hlt (by simp only at h6;omega)
       · exact .inr ⟨l2,x2,h7,h8⟩
 · rcases hlook l _ h with h1|⟨h1,h2,h3⟩
   · simp only [h1] at hb;rcases H'.lo l x b h1 hb with h4|⟨l2,x2,_,h7,h8⟩
     · exact .inl (XG H.ext.size h4)
     · exact H.lo l2 x2 b h7 h8
   · simp only [h1] at hb;exact H.lo l x b h3 hb
 · rcases hlook l _ h with h1|⟨h1,h2,h3⟩
   · rcases hlook l' _ h' with k1|⟨k1,k2,k3⟩
     · simp only [h1] at hb;simp only [k1] at hb';exact H'.dj l l' x x' b hne h1 k1 hb hb'
     · simp only [h1] at hb;simp only [k1] at hb';exact hapart l' _ l _ b k2 k3 hb' h1 hb
   · rcases hlook l' _ h' with k1|⟨k1,k2,k3⟩
     · simp only [h1] at hb;simp only [k1] at hb';exact hapart l _ l' _ b h2 h3 hb k1 hb'
     · simp only [h1] at hb;simp only [k1] at hb';exact H.dj l l' x x' b hne h3 k3 hb hb'
 · exact H.ext.tr hch fun b ⟨l,x,_,h1,h2⟩=>(H.lo l x b h1 h2).symm
 · rintro b ⟨l,x,hK,h1,h2⟩;rcases hlook l _ h1 with h3|⟨h3,h4,h5⟩
   · simp only [h3] at h2;rcases H'.lo l x b h3 h2 with h4|h4
     · exact .inr h4
     · exact .inl h4
   · rw [hK] at h4;cases h4
def aW (P:Program) (c:Ctx) (ops:Array Oper) (Q:Exit→Act→World→Prop) (Z:Nat→Bool) (K:List Nat) (fuel:Nat) (listed:Array Bool) (st:St) (i:Nat):Prop:=
 ∀a w F,HoldsF c st F a w→∀C:World→Prop,(∀W,Chg (nK K st.heap F) w W→C W)→wpOp P ops (O0 Q) i (fun a' w'=>(Z i=true∨C w')∧KH P .any ops Q C Z fuel (listed.setIfInBounds i true) a' w') a w
theorem Zl (i:Nat) (hr:Region.ready .any ops listed=[i]) (h:aW P c ops Q Z K fuel listed (⟨sL,hP⟩:St) i):aD P c ops Q Z K (fuel+1) listed (⟨sL,hP⟩:St):=fun a w F H C hC=>
 ⟨(fun hn=>by rw [hr] at hn;cases hn),fun j hj=>by
   rw [hr] at hj;obtain rfl:j=i:=by simpa using hj
   exact h a w F H C hC⟩
theorem YD (i j:Nat) (hr:Region.ready .any ops listed=[i,j]) (h:aW P c ops Q Z K fuel listed (⟨sL,hP⟩:St) i) (h':aW P c ops Q Z K fuel listed (⟨sL,hP⟩:St) j):aD P c ops Q Z K (fuel+1) listed (⟨sL,hP⟩:St):=fun a w F H C hC=>
 ⟨(fun hn=>by rw [hr] at hn;cases hn),fun m hm=>by
   rw [hr] at hm;rcases (by simpa using hm:m=i∨m=j) with rfl|rfl
   · exact h a w F H C hC
   · exact h' a w F H C hC⟩
theorem Zj {i:Nat} (ho:ops[i]? =some o)
 (h:∀(w':World) (M' N':BS) (DQ:Exit→Act→World→Prop),(∀st':St,aD P c ops Q Z K fuel (listed.setIfInBounds i true) ⟨st'.slots,st'.heap++YM K hP⟩→aN ⟨w',M',N',c.nt,c.dr,c.df⟩ DQ st')→aL P ⟨w',M',N',c.nt,c.dr,c.df⟩ ops DQ [o] ⟨sL,Wr K hP⟩):aW P c ops Q Z K fuel listed (⟨sL,hP⟩:St) i:=fun a w F H C hC=>by
 refine KY (Q':=fun _ a' w'=>(Z i=true∨C w')∧KH P .any ops Q C Z fuel (listed.setIfInBounds i true) a' w') ho (fun a' w' hq=>hq) ?_
 refine h w _ _ _ (fun st' hD a' w' ⟨F',H'⟩=>?_) a w ⟨F,H.frame K⟩
 obtain ⟨H2,hch,hnk⟩:=H.unframe H'
 refine ⟨.inr (hC w' hch),hD a' w' _ H2 C fun W hW=>hC W (hch.tr hW hnk)⟩
theorem WX {i:Nat} (ho:ops[i]? =some o) (hZ:Z i=true) (hr:Region.ready .any ops (listed.setIfInBounds i true)=[]) (h:∀DQ:Exit→Act→World→Prop,(∀st':St,aN c Q st'→aN c DQ st')→aL P c ops DQ [o] (⟨sL,hP⟩:St)):aW P c ops Q Z K fuel listed (⟨sL,hP⟩:St) i:=fun a w F H C hC=>by
 refine KY (Q':=fun _ a' w'=>(Z i=true∨C w')∧KH P .any ops Q C Z fuel (listed.setIfInBounds i true) a' w') ho (fun a' w' hq=>hq) ?_
 refine h _ (fun st' hN a' w' H'=>⟨.inl hZ,?_⟩) a w ⟨F,H⟩
 cases fuel with
 |zero=>exact ⟨hr,hN a' w' H'⟩
 |succ n=>exact ⟨fun _=>hN a' w' H',fun i hi=>by rw [hr] at hi;cases hi⟩
end
section
variable {P:Program} {c:Ctx} {ops:Array Oper} {Q:Exit→Act→World→Prop} {rest:List Oper} {sL hP:List (Nat×Ent)} {o:Oper}
theorem Z0 {l:Nat} {x:Ent} (l':Nat) (hl:lk hP l=some x) (hl':lk (del l hP) l'=none):Lo (⟨sL,hP⟩:St) (fun _:Unit=>⟨sL,put l' x (del l hP)⟩):=fun c a w ⟨F,H⟩=>by
 refine ⟨(),fun t=>if t=l' then F l else F t,?_⟩
 obtain ⟨v,p⟩:=x
 have aux:∀t y,(t=l∨t=l')→lk (put l' (v,p) (del l hP)) t=some y→t=l'∧y=(v,p):=fun t y ht hy=>by
  rcases YS hy with ⟨e1,e2⟩|⟨n1,e2⟩
  · exact ⟨e1.symm,e2.symm⟩
  · rcases ht with h|h
    · exact Uq h.symm (YY e2).1
    · exact Uq h.symm n1
 refine H.retell (fun t=>t=l∨t=l') (fun t y hnT hy=>?_) (fun t y b hT hy hb=>?_) (fun hm t u q hT hy=>?_) (fun t1 t2 y1 y2 b h1 h2 hne hy1 hy2=>Uq ((aux t1 y1 h1 hy1).1.trans (aux t2 y2 h2 hy2).1.symm) hne)
 · have n2:t≠l':=fun e=>hnT (.inr e);rw [YR (Ne.symm n2)] at hy;exact ⟨(YY hy).2,by simp [n2]⟩
 · obtain ⟨rfl,_⟩:=aux t y hT hy;simp only [if_true] at hb;exact ⟨l,_, .inl rfl,hl,hb⟩
 · obtain ⟨rfl,e⟩:=aux t _ hT hy
   cases e;simp only [if_true];exact (H.tr l v p hl).anti hm
theorem SR {l e k:Nat} {h:Value} {p q:PV} (hl:lk hP l=some (h, .own e k 1 [p])) (hq:share p=q):Reads (⟨sL,hP⟩:St) (padd (sbase h) 0) (.sptr 0 [q]):=by
 have:=Za1 (sL:=sL) (j:=0) hl VI
 simpa [WW,hq] using this
theorem Za5 {f l1 e1 k1:Nat} {h1:Value} {p1 q1:PV} (hl1:lk hP l1=some (h1, .own e1 k1 1 [p1])) (hq1:share p1=q1):
 Reads (⟨sL,hP⟩:St) (.func (.func f) #[] [padd (sbase h1) 0].toArray) (.fn f [.sptr 0 [q1]]):=
 HO rfl fun i v p hv hp=>by
  match i with
  |0=>simp at hv hp;subst hv hp;exact SR hl1 hq1
  |i+1=>simp at hv
theorem Za6 {f l1 e1 k1 l2 e2 k2:Nat} {h1 h2:Value} {p1 q1 p2 q2:PV} (hl1:lk hP l1=some (h1, .own e1 k1 1 [p1])) (hq1:share p1=q1) (hl2:lk hP l2=some (h2, .own e2 k2 1 [p2])) (hq2:share p2=q2):
 Reads (⟨sL,hP⟩:St) (.func (.func f) #[] [padd (sbase h1) 0,padd (sbase h2) 0].toArray) (.fn f [.sptr 0 [q1], .sptr 0 [q2]]):=
 HO rfl fun i v p hv hp=>by
  match i with
  |0=>simp at hv hp;subst hv hp;exact SR hl1 hq1
  |1=>simp at hv hp;subst hv hp;exact SR hl2 hq2
  |i+2=>simp at hv
theorem Kj {ι:Type} {x y:Code} (S:ι→St) (h:aC P c x (Exit.then (fun a w=>∃i,Holds c (S i) a w) Q) (⟨sL,hP⟩:St)) (k:∀i,aC P c y Q (S i)):aC P c x (Exit.then (y.wp P Q) Q) (⟨sL,hP⟩:St):=fun a w H=>
 wp_mono (h a w H) fun e a' w' hq=>by
  cases e with
  |normal=>obtain ⟨i,hi⟩:=hq;exact k i a' w' hi
  |_=>exact hq
theorem SS {l l' j e k n:Nat} {h:Value} {cs:List PV} {p:PV} (hl:lk hP l=some (h, .own e k n cs)) (hp:cs[j]? =some p) (hl':lk hP l'=none) (hok:Gs p=true):
 Lo (⟨sL,hP⟩:St) (fun v:{v:Value//v.oneCell'=true}=>⟨sL,put l' (v.1,p) (put l (h, .own e k n (cs.set j (.val v.1))) hP)⟩):=fun c a w H=>by
 obtain ⟨v,F,H'⟩:=focus hl hp hl' c a w H
 exact ⟨⟨v,(H'.tr l' v p (YH _ _ _)).cellOne hok⟩,F,H'⟩
end
theorem nav {A B:Prop} (h:B) (e:B→A:=by intro h;(repeat (first|with_reducible refine DK ?_|with_reducible refine TP ?_|with_reducible refine R5 ?_|with_reducible refine TQ ?_|with_reducible refine R2 ?_|with_reducible refine R4 ?_|with_reducible refine R6 ?_|with_reducible refine TR ?_|with_reducible refine TS rfl ?_|with_reducible refine DL ?_|with_reducible refine R7 ?_|with_reducible refine TU ?_));exact h):A:=e h
theorem Zf {A B:Prop} (h:B) (e:B→A:=by intro h;(repeat (first|with_reducible refine DK ?_|with_reducible refine TP ?_|with_reducible refine R5 ?_|with_reducible refine TQ ?_|with_reducible refine R2 ?_|with_reducible refine R4 ?_|with_reducible refine R6 ?_|with_reducible refine TR ?_|with_reducible refine TS rfl ?_|with_reducible refine DL ?_|with_reducible refine R7 ?_|with_reducible refine TU ?_));refine Zm ?_;exact h):A:=e h
theorem Zn {A B:Prop} (h:B) (e:B→A:=by intro h;refine Zh ?_;(repeat (first|with_reducible refine DK ?_|with_reducible refine TP ?_|with_reducible refine R5 ?_|with_reducible refine TQ ?_|with_reducible refine R2 ?_|with_reducible refine R4 ?_|with_reducible refine R6 ?_|with_reducible refine TR ?_|with_reducible refine TS rfl ?_|with_reducible refine DL ?_|with_reducible refine R7 ?_|with_reducible refine TU ?_));(try dsimp only);refine Zm ?_;exact h):A:=e h
theorem Ze {A B:Prop} (h:B) (e:B→A:=by intro h;refine Zh ?_;(repeat (first|with_reducible refine DK ?_|with_reducible refine TP ?_|with_reducible refine R5 ?_|with_reducible refine TQ ?_|with_reducible refine R2 ?_|with_reducible refine R4 ?_|with_reducible refine R6 ?_|with_reducible refine TR ?_|with_reducible refine TS rfl ?_|with_reducible refine DL ?_|with_reducible refine R7 ?_|with_reducible refine TU ?_));(try dsimp only);exact h):A:=e h
section
variable {P:Program} {c:Ctx} {ops:Array Oper} {Q:Exit→Act→World→Prop} {rest:List Oper} {st:St} {sL hP:List (Nat×Ent)} {o:Oper} {x y:Operand} {t t':TypeId} {q q':PV} {Z:Nat→Bool} {K:List Nat} {fuel:Nat} {listed:Array Bool}
theorem xL {v:Value} {p:PV} (d:Nat) (hy:YE P (⟨sL,hP⟩:St) o (· =v) p) (k:aL P c ops Q rest ⟨put d (v,p) sL,hP⟩) (hw:Z7 ops sL o=some true:=by exact rfl) (hd:o.dst=some d:=by exact rfl) (hn:d<c.nt:=by exact Xa rfl):aL P c ops Q (o::rest) (⟨sL,hP⟩:St):=
 Ziz d hw hd hn hy k
theorem yL {V:Value→Prop} {p:PV} (d:Nat) (hy:YE P (⟨sL,hP⟩:St) o V p) (k:∀v,V v→aL P c ops Q rest ⟨put d (v,p) sL,hP⟩) (hw:Z7 ops sL o=some true:=by exact rfl) (hd:o.dst=some d:=by exact rfl) (hn:d<c.nt:=by exact Xa rfl):aL P c ops Q (o::rest) (⟨sL,hP⟩:St):=
 Zh4 d hw hd hn hy k
theorem kL (d:Nat) (k:aL P c ops Q rest ⟨put d (undef, .val undef) sL,hP⟩) (hw:Z7 ops sL o=some false:=by exact rfl) (hd:o.dst=some d:=by exact rfl) (hn:d<c.nt:=by exact Xa rfl):aL P c ops Q (o::rest) (⟨sL,hP⟩:St):=
 Zey d hw hd hn k
theorem bL {l:List Oper} {b:Bool} {q:PV} (t:Nat) (ht:b=true→aL P c ops Q l ⟨put t (.bool true, .val (.bool true)) sL,hP⟩) (hf:b=false→aL P c ops Q l ⟨put t (.bool false, .val (.bool false)) sL,hP⟩) (hx:lk sL t=some (.bool b,q):=by exact rfl):aL P c ops Q l (⟨sL,hP⟩:St):=
 HJ t hx ht hf
theorem xD {v:Value} {p:PV} (i:Nat) (d:Nat) (ho:ops[i]? =some o) (hy:YE P ⟨sL,YM K hP⟩ o (· =v) p) (k:aD P c ops Q Z K fuel (listed.setIfInBounds i true) ⟨put d (v,p) sL,hP⟩) (hck:(Region.noSelect ops&&(Region.ready .any ops listed).contains i&&Region.free .any ops listed i&&Tx .any ops Z i)=true:=by kernel_rfl) (hw:Z7 ops sL o=some true:=by exact rfl) (hd:o.dst=some d:=by exact rfl) (hn:d<c.nt:=by exact Xa rfl):aD P c ops Q Z K (fuel+1) listed (⟨sL,hP⟩:St):=
 ZiB i d ho hck hw hd hn hy k
theorem yD {V:Value→Prop} {p:PV} (i:Nat) (d:Nat) (ho:ops[i]? =some o) (hy:YE P ⟨sL,YM K hP⟩ o V p) (k:∀v,V v→aD P c ops Q Z K fuel (listed.setIfInBounds i true) ⟨put d (v,p) sL,hP⟩) (hck:(Region.noSelect ops&&(Region.ready .any ops listed).contains i&&Region.free .any ops listed i&&Tx .any ops Z i)=true:=by kernel_rfl) (hw:Z7 ops sL o=some true:=by exact rfl) (hd:o.dst=some d:=by exact rfl) (hn:d<c.nt:=by exact Xa rfl):aD P c ops Q Z K (fuel+1) listed (⟨sL,hP⟩:St):=
 Zia i d ho hck hw hd hn hy k
theorem kD (i:Nat) (d:Nat) (ho:ops[i]? =some o) (k:aD P c ops Q Z K fuel (listed.setIfInBounds i true) ⟨put d (undef, .val undef) sL,hP⟩) (hck:(Region.noSelect ops&&(Region.ready .any ops listed).contains i&&Region.free .any ops listed i&&Tx .any ops Z i)=true:=by kernel_rfl) (hw:Z7 ops sL o=some false:=by exact rfl) (hd:o.dst=some d:=by exact rfl) (hn:d<c.nt:=by exact Xa rfl):aD P c ops Q Z K (fuel+1) listed (⟨sL,hP⟩:St):=
 ZeJ i d ho hck hw hd hn k
theorem xE {v:Value} {p:PV} (i:Nat) (d:Nat) (ho:ops[i]? =some o) (hy:YE P (⟨sL,hP⟩:St) o (· =v) p) (k:aD P c ops Q Z K fuel (listed.setIfInBounds i true) ⟨put d (v,p) sL,hP⟩) (hr:Region.ready .any ops listed=[i]:=by kernel_rfl) (hw:Z7 ops sL o=some true:=by exact rfl) (hd:o.dst=some d:=by exact rfl) (hn:d<c.nt:=by exact Xa rfl):aD P c ops Q Z K (fuel+1) listed (⟨sL,hP⟩:St):=
 Zib i d ho hr hw hd hn hy k
theorem yE {V:Value→Prop} {p:PV} (i:Nat) (d:Nat) (ho:ops[i]? =some o) (hy:YE P (⟨sL,hP⟩:St) o V p) (k:∀v,V v→aD P c ops Q Z K fuel (listed.setIfInBounds i true) ⟨put d (v,p) sL,hP⟩) (hr:Region.ready .any ops listed=[i]:=by kernel_rfl) (hw:Z7 ops sL o=some true:=by exact rfl) (hd:o.dst=some d:=by exact rfl) (hn:d<c.nt:=by exact Xa rfl):aD P c ops Q Z K (fuel+1) listed (⟨sL,hP⟩:St):=
 Zgr i d ho hr hw hd hn hy k
theorem bD {b:Bool} {q:PV} (t:Nat) (ht:b=true→aD P c ops Q Z K fuel listed ⟨put t (.bool true, .val (.bool true)) sL,hP⟩) (hf:b=false→aD P c ops Q Z K fuel listed ⟨put t (.bool false, .val (.bool false)) sL,hP⟩) (hx:lk sL t=some (.bool b,q):=by exact rfl):aD P c ops Q Z K fuel listed (⟨sL,hP⟩:St):=
 HQ t hx ht hf
theorem Za {P:Program} {st:St} {o:Oper} {x:Operand} {v:Value} {p:PV} (ho:o.op= .move x:=by exact rfl) (hx:ev st.slots x=some (v,p):=by exact rfl):YE P st o (· =v) p:=
 ZgG ho hx
theorem Zb {P:Program} {st:St} {o:Oper} {x:Operand} {v:Value} {p:PV} (ho:o.op= .assign x:=by exact rfl) (hx:ev st.slots x=some (v,p):=by exact rfl):YE P st o (· =v) p:=
 Zck ho hx
theorem Zu {P:Program} {st:St} {o:Oper} {c x y:Operand} {b:Bool} {q:PV} {v:Value} {p:PV} (ho:o.op= .pick c x y:=by exact rfl) (hc:ev st.slots c=some (.bool b,q):=by exact rfl) (hx:ev st.slots (if b then x else y)=some (v,p):=by exact rfl):YE P st o (· =v) p:=
 ZgH ho hc hx
theorem Ym {P:Program} {st:St} {o:Oper} {x:Operand} {t:TypeId} {b:Bool} {q:PV} (ho:o.op= .unOp .not t x:=by exact rfl) (hx:ev st.slots x=some (.bool b,q):=by exact rfl):YE P st o (· = .bool (!b)) (.val (.bool (!b))):=
 ZhV ho hx
theorem ZR {k:IntKind} {a b:Int} (ho:o.op= .binOp .lss t x y t':=by exact rfl) (hx:ev st.slots x=some (.int k a,q):=by exact rfl) (hy:ev st.slots y=some (.int k b,q'):=by exact rfl):YE P st o (· = .bool (decide (a<b))) (.val (.bool (decide (a<b)))):=
 ZhW ho hx hy
theorem J5 {k:IntKind} {a b:Int} (ho:o.op= .binOp .leq t x y t':=by exact rfl) (hx:ev st.slots x=some (.int k a,q):=by exact rfl) (hy:ev st.slots y=some (.int k b,q'):=by exact rfl):YE P st o (· = .bool (decide (a≤b))) (.val (.bool (decide (a≤b)))):=
 ZhX ho hx hy
theorem Wy {k:IntKind} {a b:Int} (ho:o.op= .binOp .gtr t x y t':=by exact rfl) (hx:ev st.slots x=some (.int k a,q):=by exact rfl) (hy:ev st.slots y=some (.int k b,q'):=by exact rfl):YE P st o (· = .bool (decide (b<a))) (.val (.bool (decide (b<a)))):=
 ZhY ho hx hy
theorem WE {k:IntKind} {a b:Int} (ho:o.op= .binOp .geq t x y t':=by exact rfl) (hx:ev st.slots x=some (.int k a,q):=by exact rfl) (hy:ev st.slots y=some (.int k b,q'):=by exact rfl):YE P st o (· = .bool (decide (b≤a))) (.val (.bool (decide (b≤a)))):=
 ZhZ ho hx hy
theorem ZQ {k:IntKind} {a b:Int} (ho:o.op= .binOp .eql t x y t':=by exact rfl) (hx:ev st.slots x=some (.int k a,q):=by exact rfl) (hy:ev st.slots y=some (.int k b,q'):=by exact rfl):YE P st o (· = .bool (decide (a=b))) (.val (.bool (decide (a=b)))):=
 Zh0 ho hx hy
theorem YN {k:IntKind} {a b:Int} (ho:o.op= .binOp .neq t x y t':=by exact rfl) (hx:ev st.slots x=some (.int k a,q):=by exact rfl) (hy:ev st.slots y=some (.int k b,q'):=by exact rfl):YE P st o (· = .bool (decide (a≠b))) (.val (.bool (decide (a≠b)))):=
 Zh1 ho hx hy
theorem WY {a b:ByteArray} (ho:o.op= .binOp .eql t x y t':=by exact rfl) (hx:ev st.slots x=some (.string a,q):=by exact rfl) (hy:ev st.slots y=some (.string b,q'):=by exact rfl):YE P st o (· = .bool (a.toList==b.toList)) (.val (.bool (a.toList==b.toList))):=
 ZgI ho hx hy
theorem Lv {a b:ByteArray} (ho:o.op= .binOp .neq t x y t':=by exact rfl) (hx:ev st.slots x=some (.string a,q):=by exact rfl) (hy:ev st.slots y=some (.string b,q'):=by exact rfl):YE P st o (· = .bool (!(a.toList==b.toList))) (.val (.bool (!(a.toList==b.toList)))):=
 ZgJ ho hx hy
theorem ZO {a b:Int} (ho:o.op= .binOp .add t x y t':=by exact rfl) (hx:ev st.slots x=some (.int .i64 a,q):=by exact rfl) (hy:ev st.slots y=some (.int .i64 b,q'):=by exact rfl) (h1: -9223372036854775808≤a+b:=by first|omega|exact Xa rfl|(simp only [Xc,Xk,Xe,Xi,Xg,XA,Xu,Xp,XB];omega)) (h2:a+b≤9223372036854775807:=by first|omega|exact Xa rfl|(simp only [Xc,Xk,Xe,Xi,Xg,XA,Xu,Xp,XB];omega)):YE P st o (· = .int .i64 (a+b)) (.val (.int .i64 (a+b))):=
 Zgo ho hx hy h1 h2
theorem Gf {a b:Int} (ho:o.op= .binOp .sub t x y t':=by exact rfl) (hx:ev st.slots x=some (.int .i64 a,q):=by exact rfl) (hy:ev st.slots y=some (.int .i64 b,q'):=by exact rfl) (h1: -9223372036854775808≤a-b:=by first|omega|exact Xa rfl|(simp only [Xc,Xk,Xe,Xi,Xg,XA,Xu,Xp,XB];omega)) (h2:a-b≤9223372036854775807:=by first|omega|exact Xa rfl|(simp only [Xc,Xk,Xe,Xi,Xg,XA,Xu,Xp,XB];omega)):YE P st o (· = .int .i64 (a-b)) (.val (.int .i64 (a-b))):=
 Zgp ho hx hy h1 h2
theorem ZgS {a b:Bool} (hu:P.underlying t=some .bool) (ho:o.op= .binOp .eql t x y t':=by exact rfl) (hx:ev st.slots x=some (.bool a,q):=by exact rfl) (hy:ev st.slots y=some (.bool b,q'):=by exact rfl):YE P st o (· = .bool (a==b)) (.val (.bool (a==b))):=
 ZgK hu ho hx hy
theorem Zcq {a b:Bool} (hu:P.underlying t=some .bool) (ho:o.op= .binOp .neq t x y t':=by exact rfl) (hx:ev st.slots x=some (.bool a,q):=by exact rfl) (hy:ev st.slots y=some (.bool b,q'):=by exact rfl):YE P st o (· = .bool (!(a==b))) (.val (.bool (!(a==b)))):=
 ZgL hu ho hx hy
theorem Ws {s:ByteArray} {i:Int} {c:UInt8} {k:IntKind} (hu:P.underlying t=some .string) (ho:o.op= .index t x y:=by exact rfl) (hx:ev st.slots x=some (.string s,q):=by exact rfl) (hy:ev st.slots y=some (.int k i,q'):=by exact rfl) (hi:0≤i:=by first|omega|exact Xa rfl|(simp only [Xc,Xk,Xe,Xi,Xg,XA,Xu,Xp,XB];omega)) (hc:s.data[i.toNat]? =some c:=by assumption):YE P st o (· = .int .u8 c.toNat) (.val (.int .u8 c.toNat)):=
 Zex hu ho hx hy hi hc
theorem Wn {P:Program} {st:St} {o:Oper} {x:Operand} {t:TypeId} {s:ByteArray} {q:PV} (ht:P.underlying t=some .string) (ho:o.op= .call {callee:= .builtin .len,args:= #[x],argTypes:= #[t]}:=by exact rfl) (hx:ev st.slots x=some (.string s,q):=by exact rfl):YE P st o (· = .int .i64 s.size) (.val (.int .i64 s.size)):=
 ZgM ht ho hx
theorem ZK {P:Program} {st:St} {o:Oper} {x:Operand} {i:Nat} {vs:List Value} {ps:List PV} {v:Value} {p:PV} (ho:o.op= .extract x i:=by exact rfl) (hx:ev st.slots x=some (.tuple vs.toArray, .tup ps):=by exact rfl) (hv:vs[i]? =some v:=by exact rfl) (hp:ps[i]? =some p:=by exact rfl):YE P st o (· =v) p:=
 ZaS ho hx hv hp
theorem Jv {s f fo j:Nat} {x:Operand} {v:Value} {cs:List PV} (hT:FldT P s f fo=true) (ho:o.op= .fieldAddr s x f:=by exact rfl) (hx:ev st.slots x=some (v, .sptr j cs):=by exact rfl):YE P st o (· =padd v fo) (.sptr (j+fo) cs):=
 ZaT hT ho hx
theorem Zd {s f fo j e k n:Nat} {x:Operand} {h:Value} {p:PV} {cs:List PV} (l:Nat) (hT:FldT P s f fo=true) (ho:o.op= .fieldAddr s x f:=by exact rfl) (hx:ev st.slots x=some (padd (sbase h) j,p):=by exact rfl) (hl:lk st.heap l=some (h, .own e k n cs):=by exact rfl) (hn:0<n:=by first|omega|exact Xa rfl|(simp only [Xc,Xk,Xe,Xi,Xg,XA,Xu,Xp,XB];omega)):YE P st o (· =padd (sbase h) (j+fo)) (.val (padd (sbase h) (j+fo))):=
 ZaU l hT ho hx hl hn
theorem ZP {t e k n:Nat} {x y:Operand} {v:Value} {cs:List PV} {q:PV} {kd:IntKind} {i:Nat} (hT:SlT P t e k=true) (ho:o.op= .indexAddr t x y:=by exact rfl) (hx:ev st.slots x=some (v, .sl n cs):=by exact rfl) (hy:ev st.slots y=some (.int kd (i:Int),q):=by exact rfl) (h1:i<n:=by first|omega|exact Xa rfl|(simp only [Xc,Xk,Xe,Xi,Xg,XA,Xu,Xp,XB];omega)):YE P st o (· =padd (sbase v) (i*k)) (.sptr (i*k) cs):=
 Cp hT ho hx hy h1
theorem Zt {t e k e' k' n:Nat} {x y:Operand} {h:Value} {p q:PV} {cs:List PV} {kd:IntKind} {i:Nat} (l:Nat) (hT:SlT P t e k=true) (ho:o.op= .indexAddr t x y:=by exact rfl) (hx:ev st.slots x=some (h,p):=by exact rfl) (hy:ev st.slots y=some (.int kd (i:Int),q):=by exact rfl) (hl:lk st.heap l=some (h, .own e' k' n cs):=by exact rfl) (h1:i<n:=by first|omega|exact Xa rfl|(simp only [Xc,Xk,Xe,Xi,Xg,XA,Xu,Xp,XB];omega)):YE P st o (· =padd (sbase h) (i*k)) (.val (padd (sbase h) (i*k))):=
 Cq l hT ho hx hy hl h1
theorem Zgs {t e k n:Nat} {x y:Operand} {v:Value} {cs:List PV} {q:PV} {kd:IntKind} {i:Int} (hT:SlT P t e k=true) (ho:o.op= .indexAddr t x y:=by exact rfl) (hx:ev st.slots x=some (v, .sl n cs):=by exact rfl) (hy:ev st.slots y=some (.int kd i,q):=by exact rfl) (h0:0≤i:=by first|omega|exact Xa rfl|(simp only [Xc,Xk,Xe,Xi,Xg,XA,Xu,Xp,XB];omega)) (h1:i<n:=by first|omega|exact Xa rfl|(simp only [Xc,Xk,Xe,Xi,Xg,XA,Xu,Xp,XB];omega)):YE P st o (· =padd (sbase v) (i.toNat*k)) (.sptr (i.toNat*k) cs):=
 O1 hT ho hx hy h0 h1
theorem ZgT {t e k e' k' n:Nat} {x y:Operand} {h:Value} {p q:PV} {cs:List PV} {kd:IntKind} {i:Int} (l:Nat) (hT:SlT P t e k=true) (ho:o.op= .indexAddr t x y:=by exact rfl) (hx:ev st.slots x=some (h,p):=by exact rfl) (hy:ev st.slots y=some (.int kd i,q):=by exact rfl) (hl:lk st.heap l=some (h, .own e' k' n cs):=by exact rfl) (h0:0≤i:=by first|omega|exact Xa rfl|(simp only [Xc,Xk,Xe,Xi,Xg,XA,Xu,Xp,XB];omega)) (h1:i<n:=by first|omega|exact Xa rfl|(simp only [Xc,Xk,Xe,Xi,Xg,XA,Xu,Xp,XB];omega)):YE P st o (· =padd (sbase h) (i.toNat*k)) (.val (padd (sbase h) (i.toNat*k))):=
 O2 l hT ho hx hy hl h0 h1
theorem Yy {t j:Nat} {x:Operand} {v:Value} {cs:List PV} {p:PV} (hT:NoAgg P t=true) (ho:o.op= .load t x:=by exact rfl) (hx:ev st.slots x=some (v, .sptr j cs):=by exact rfl) (hp:cs[j]? =some p:=by first|exact rfl|assumption):YE P st o (vOf p) p:=
 Zcm hT ho hx hp
theorem Zi {t j e k n:Nat} {x:Operand} {h:Value} {q:PV} {cs:List PV} {p:PV} (l:Nat) (hT:NoAgg P t=true) (ho:o.op= .load t x:=by exact rfl) (hx:ev st.slots x=some (padd (sbase h) j,q):=by exact rfl) (hl:lk st.heap l=some (h, .own e k n cs):=by exact rfl) (hp:cs[j]? =some p:=by first|exact rfl|assumption) (hsh:isSh p=true:=by exact rfl):YE P st o (vOf p) p:=
 Zcn l hT ho hx hl hp hsh
theorem Yz {t k j:Nat} {x:Operand} {v:Value} {cs ps:List PV} (hT:AggT P t k=true) (ho:o.op= .load t x:=by exact rfl) (hx:ev sL x=some (v, .sptr j cs):=by exact rfl) (hp:j+k≤cs.length:=by first|omega|exact Xa rfl|(simp only [Xc,Xk,Xe,Xi,Xg,XA,Xu,Xp,XB];omega)) (hps:(cs.drop j).take k=ps:=by first|assumption|exact rfl):YE P (⟨sL,hP⟩:St) o (fun _=>True) (.agg ps):=
 Ct hT ho hx hp hps
theorem Zq {t k j e k' n:Nat} {x:Operand} {h:Value} {q:PV} {cs ps:List PV} (l:Nat) (hT:AggT P t k=true) (ho:o.op= .load t x:=by exact rfl) (hx:ev sL x=some (padd (sbase h) j,q):=by exact rfl) (hl:lk hP l=some (h, .own e k' n cs):=by exact rfl) (hp:j+k≤cs.length:=by first|omega|exact Xa rfl|(simp only [Xc,Xk,Xe,Xi,Xg,XA,Xu,Xp,XB];omega)) (hk:0<k:=by decide) (hps:(cs.drop j).take k=ps:=by first|assumption|exact rfl) (hsh:ps.all isSh=true:=by first|exact rfl|decide):YE P (⟨sL,hP⟩:St) o (fun _=>True) (.agg ps):=
 Cu l hT ho hx hl hp hk hps hsh
theorem Z1 {t e k n:Nat} {x:Operand} {v:Value} {cs:List PV} (hT:SlT P t e k=true) (ho:o.op= .call {callee:= .builtin .len,args:= #[x],argTypes:= #[t]}:=by exact rfl) (hx:ev st.slots x=some (v, .sl n cs):=by exact rfl):YE P st o (· = .int .i64 n) (.val (.int .i64 n)):=
 ZaX hT ho hx
theorem YV {t e k e' k' n:Nat} {x:Operand} {h:Value} {p:PV} {cs:List PV} (l:Nat) (hT:SlT P t e k=true) (ho:o.op= .call {callee:= .builtin .len,args:= #[x],argTypes:= #[t]}:=by exact rfl) (hx:ev st.slots x=some (h,p):=by exact rfl) (hl:lk st.heap l=some (h, .own e' k' n cs):=by exact rfl):YE P st o (· = .int .i64 n) (.val (.int .i64 n)):=
 ZaY l hT ho hx hl
theorem Z3 {t:Nat} {parts:Array (Nat×Operand)} {z:Value} {offs:List Nat} {zs:List Value} {es:List (Nat×Ent)} (hT:Y9 P t=some (z,offs.map fun o=>(o,1))) (hzs:z.cells=zs.toArray:=by exact rfl) (ho:o.op= .build t parts:=by exact rfl) (hx:evP sL parts.toList=some es:=by exact rfl) (h1:es.all (fun x=>one x.2.2)=true:=by first|exact rfl|(simp only [XH,XU,VJ,Xf];(repeat (first|refine ⟨?_,?_⟩|rfl|assumption)))) (hin:es.all (fun x=>decide (x.1<offs.length)&&decide (offs.getD x.1 0<zs.length))=true:=by exact rfl):YE P (⟨sL,hP⟩:St) o (· = .agg (RQ offs zs (es.map fun x=>(x.1,x.2.1))).toArray) (.agg (RQ offs (zs.map .val) (es.map fun x=>(x.1,x.2.2)))):=
 ZeF hT hzs ho hx h1 hin
theorem Ty {f:Nat} {caps:Array Operand} {es:List Ent} (ho:o.op= .makeFunc (.func f) #[] caps:=by exact rfl) (hx:evL sL caps.toList=some es:=by exact rfl):YE P (⟨sL,hP⟩:St) o (· = .func (.func f) #[] (es.map (·.1)).toArray) (.fn f (es.map (·.2))):=
 ZgR ho hx
theorem ζB {t:TypeId} {x:Operand} {v:Value} {p:PV} (d:Nat) (k:∀h:Value,aL P c ops Q rest ⟨put d (padd (sbase h) 0, .val (padd (sbase h) 0)) sL,put d (h, .own t 1 1 [p]) hP⟩) (hw:Z7 ops sL o=some true:=by exact rfl) (hd:o.dst=some d:=by exact rfl) (hn:d<c.nt:=by exact Xa rfl) (ho:o.op= .box t x:=by exact rfl) (hx:ev sL x=some (v,p):=by exact rfl) (h1:one p=true:=by first|exact rfl|assumption) (hl:lk hP d=none:=by exact rfl):aL P c ops Q (o::rest) (⟨sL,hP⟩:St):=
 Zez d hw hd hn ho hx h1 hl k
theorem Yv {t:TypeId} {x:Operand} {v:Value} {ps:List PV} (d:Nat) (m:Nat) (k:∀h:Value,aL P c ops Q rest ⟨put d (padd (sbase h) 0, .val (padd (sbase h) 0)) sL,put d (h, .own t m 1 ps) hP⟩) (hw:Z7 ops sL o=some true:=by exact rfl) (hd:o.dst=some d:=by exact rfl) (hn:d<c.nt:=by exact Xa rfl) (ho:o.op= .box t x:=by exact rfl) (hx:ev sL x=some (v, .agg ps):=by exact rfl) (hm:ps.length=m:=by exact rfl) (hl:lk hP d=none:=by exact rfl):aL P c ops Q (o::rest) (⟨sL,hP⟩:St):=
 ZeA d m hw hd hn ho hx hm hl k
theorem ZA {t:TypeId} {z:Value} (zs:List Value) (m:Nat) (d:Nat) (hz:ZeroT P t z) (k:∀h:Value,aL P c ops Q rest ⟨put d (padd (sbase h) 0, .val (padd (sbase h) 0)) sL,put d (h, .own t m 1 (zs.map .val)) hP⟩) (hw:Z7 ops sL o=some true:=by exact rfl) (hd:o.dst=some d:=by exact rfl) (hn:d<c.nt:=by exact Xa rfl) (ho:o.op= .alloc t:=by exact rfl) (hzs:z.cells=zs.toArray:=by exact rfl) (hm:zs.length=m:=by exact rfl) (hl:lk hP d=none:=by exact rfl):aL P c ops Q (o::rest) (⟨sL,hP⟩:St):=
 Zco zs m d hw hd hn ho hz hzs hm hl k
theorem JE {t e bytes:Nat} {z:Value} {x y:Operand} {n:Nat} {q q':PV} (d:Nat) (hT:ElT P t e 1 bytes z) (k:∀h:Value,h.oneCell'=true→aL P c ops Q rest ⟨put d (h, .val h) sL,put d (h, .own e 1 n (List.replicate n (.val z))) hP⟩) (hw:Z7 ops sL o=some true:=by exact rfl) (hd:o.dst=some d:=by exact rfl) (hn:d<c.nt:=by exact Xa rfl) (ho:o.op= .makeSlice t x y:=by exact rfl) (hx:ev sL x=some (.int .i64 n,q):=by exact rfl) (hy:ev sL y=some (.int .i64 n,q'):=by exact rfl) (hl:lk hP d=none:=by exact rfl) (hb:bytes*n≤281474976710656:=by first|omega|exact Xa rfl|(simp only [Xc,Xk,Xe,Xi,Xg,XA,Xu,Xp,XB];omega)) (hn2:n≤9223372036854775807:=by first|omega|exact Xa rfl|(simp only [Xc,Xk,Xe,Xi,Xg,XA,Xu,Xp,XB];omega)) (hz1:z.oneCell'=true:=by exact rfl):aL P c ops Q (o::rest) (⟨sL,hP⟩:St):=
 ZeB d hT hw hd hn ho hx hy hl hb hn2 hz1 k
theorem ZgU {t e kk bytes:Nat} {z:Value} (d:Nat) (hT:ElT P t e kk bytes z) (k:∀h:Value,h.oneCell'=true→aL P c ops Q rest ⟨put d (h, .val h) sL,put d (h, .own e kk 0 []) hP⟩) (hw:Z7 ops sL o=some true:=by exact rfl) (hd:o.dst=some d:=by exact rfl) (hn:d<c.nt:=by exact Xa rfl) (ho:o.op= .buildSlice t 0 #[]:=by exact rfl) (hl:lk hP d=none:=by exact rfl):aL P c ops Q (o::rest) (⟨sL,hP⟩:St):=
 ZeC d hT hw hd hn ho hl k
theorem Ye {t e kk bytes:Nat} {z:Value} {x:Operand} {v:Value} {p:PV} (d:Nat) (hT:ElT P t e 1 bytes z) (k:∀h:Value,h.oneCell'=true→aL P c ops Q rest ⟨put d (h, .val h) sL,put d (h, .own e 1 1 [p]) hP⟩) (hw:Z7 ops sL o=some true:=by exact rfl) (hd:o.dst=some d:=by exact rfl) (hn:d<c.nt:=by exact Xa rfl) (ho:o.op= .buildSlice t 1 #[(0,x)]:=by exact rfl) (hx:ev sL x=some (v,p):=by exact rfl) (h10:one p=true:=by first|exact rfl|assumption) (hl:lk hP d=none:=by exact rfl):aL P c ops Q (o::rest) (⟨sL,hP⟩:St):=
 ZeD (kk:=1) d hT hw hd hn ho hx h10 hl k
theorem K1 {t e kk bytes:Nat} {z:Value} {x:Operand} {v:Value} {ps:List PV} (d:Nat) (hT:ElT P t e kk bytes z) (k:∀h:Value,h.oneCell'=true→aL P c ops Q rest ⟨put d (h, .val h) sL,put d (h, .own e kk 1 ps) hP⟩) (hw:Z7 ops sL o=some true:=by exact rfl) (hd:o.dst=some d:=by exact rfl) (hn:d<c.nt:=by exact Xa rfl) (ho:o.op= .buildSlice t 1 #[(0,x)]:=by exact rfl) (hx:ev sL x=some (v, .agg ps):=by exact rfl) (hps:ps.length=kk:=by exact rfl) (hkb:kk≤1000:=by decide) (hl:lk hP d=none:=by exact rfl):aL P c ops Q (o::rest) (⟨sL,hP⟩:St):=
 Zcp d hT hw hd hn ho hx hps hkb hl k
theorem Px {t e bytes m:Nat} {z:Value} {xs:List Operand} {parts:Array (Nat×Operand)} {es:List Ent} (d:Nat) (hT:ElT P t e 1 bytes z) (k:∀h:Value,h.oneCell'=true→aL P c ops Q rest ⟨put d (h, .val h) sL,put d (h, .own e 1 m (es.map (·.2))) hP⟩) (hw:Z7 ops sL o=some true:=by exact rfl) (hd:o.dst=some d:=by exact rfl) (hn:d<c.nt:=by exact Xa rfl) (ho:o.op= .buildSlice t m parts:=by exact rfl) (hpt:parts=((xs.zipIdx).map fun x=>(x.2,x.1)).toArray:=by exact rfl) (hx:evL sL xs=some es:=by exact rfl) (h1:es.all (fun x=>one x.2)=true:=by exact rfl) (hm:es.length=m:=by exact rfl) (hm0:0<m:=by decide) (hm1:m≤1000:=by decide) (hl:lk hP d=none:=by exact rfl):aL P c ops Q (o::rest) (⟨sL,hP⟩:St):=
 ZeE d hT hw hd hn ho hpt hx h1 hm hm0 hm1 hl k
theorem Y3 {t j e kk n:Nat} {x y:Operand} {h v:Value} {q p:PV} {cs:List PV} (l:Nat) (hT:NoAgg P t=true) (hsz:(P.info? t).map (·.size)=some 1) (k:aL P c ops Q rest ⟨sL,put l (h, .own e kk n (cs.set j p)) hP⟩) (hw:Z7 ops sL o=some true:=by exact rfl) (hd:o.dst=none:=by exact rfl) (ho:o.op= .store t x y:=by exact rfl) (hx:ev sL x=some (padd (sbase h) j,q):=by exact rfl) (hy:ev sL y=some (v,p):=by exact rfl) (h1:one p=true:=by first|exact rfl|assumption) (hl:lk hP l=some (h, .own e kk n cs):=by exact rfl) (hj:j<cs.length:=by first|omega|exact Xa rfl|(simp only [Xc,Xk,Xe,Xi,Xg,XA,Xu,Xp,XB];omega)):aL P c ops Q (o::rest) (⟨sL,hP⟩:St):=
 ZgN l hw hd hT hsz ho hx hy h1 hl hj k
theorem Zv {t j e kk n m:Nat} {x y:Operand} {h V:Value} {q:PV} {ps cs:List PV} (l:Nat) (hT:AggT P t m=true) (k:aL P c ops Q rest ⟨sL,put l (h, .own e kk n (Kx cs j ps)) hP⟩) (hw:Z7 ops sL o=some true:=by exact rfl) (hd:o.dst=none:=by exact rfl) (ho:o.op= .store t x y:=by exact rfl) (hx:ev sL x=some (padd (sbase h) j,q):=by exact rfl) (hy:ev sL y=some (V, .agg ps):=by exact rfl) (hm:ps.length=m:=by exact rfl) (h1:ps.all one=true:=by first|exact rfl|(simp only [XH,XU,VJ,Xf];(repeat (first|refine ⟨?_,?_⟩|rfl|assumption)))) (hl:lk hP l=some (h, .own e kk n cs):=by exact rfl) (hj:j+m≤cs.length:=by first|omega|exact Xa rfl|(simp only [Xc,Xk,Xe,Xi,Xg,XA,Xu,Xp,XB];omega)) (hm0:0<m:=by decide):aL P c ops Q (o::rest) (⟨sL,hP⟩:St):=
 ZgO l hw hd hT ho hx hy hm h1 hl hj hm0 k
theorem Kk {t ty e kk bytes n m:Nat} {z:Value} {x y:Operand} {h h2:Value} {q q2:PV} {cs cs2:List PV} (l:Nat) (l2:Nat) (d:Nat) (hT:ElT P t e kk bytes z) (k:∀h':Value,h'.oneCell'=true→aL P c ops Q rest ⟨put d (h', .val h') sL,put d (h', .own e kk (n+m) (cs++cs2)) (del l2 (del l hP))⟩) (hw:Z7 ops sL o=some true:=by exact rfl) (hd:o.dst=some d:=by exact rfl) (hn:d<c.nt:=by exact Xa rfl) (hty:o.type=ty:=by exact rfl) (ho:o.op= .call {callee:= .builtin .append,args:= #[x,y],argTypes:= #[t,t]}:=by exact rfl) (hx:ev sL x=some (h,q):=by exact rfl) (hy:ev sL y=some (h2,q2):=by exact rfl) (hll:Nat.beq l l2=false:=by exact rfl) (hl:lk hP l=some (h, .own e kk n cs):=by exact rfl) (hl2:lk hP l2=some (h2, .own e kk m cs2):=by exact rfl) (hdl:lk (del l2 (del l hP)) d=none:=by exact rfl) (hm:0<m:=by decide) (hok:cs2.all Gs=true:=by first|exact rfl|(simp only [XH,XU,VJ,Xf];(repeat (first|refine ⟨?_,?_⟩|rfl|assumption)))) (hlen:n+m≤9223372036854775807:=by first|omega|exact Xa rfl|(simp only [Xc,Xk,Xe,Xi,Xg,XA,Xu,Xp,XB];omega)) (hb:(n+m)*bytes≤140737488355328:=by first|omega|exact Xa rfl|(simp only [Xc,Xk,Xe,Xi,Xg,XA,Xu,Xp,XB];omega)) (hdr:¬c.dr:=by exact id):aL P c ops Q (o::rest) (⟨sL,hP⟩:St):=
 ZaZ l l2 d hT hw hd hn hty ho hx hy hll hl hl2 hdl hm hok hlen hb hdr k
theorem bLd {l:List Oper} (t:Nat) {p:Prop} {_:Decidable p} {q:PV} (ht:p→aL P c ops Q l ⟨put t (.bool true, .val (.bool true)) sL,hP⟩) (hf:¬p→aL P c ops Q l ⟨put t (.bool false, .val (.bool false)) sL,hP⟩) (hx:lk sL t=some (.bool (decide p),q):=by exact rfl):aL P c ops Q l (⟨sL,hP⟩:St):=
 HJ t hx (fun h=>ht (Ur h)) (fun h=>hf (of_decide_eq_false h))
theorem bDd (t:Nat) {p:Prop} {_:Decidable p} {q:PV} (ht:p→aD P c ops Q Z K fuel listed ⟨put t (.bool true, .val (.bool true)) sL,hP⟩) (hf:¬p→aD P c ops Q Z K fuel listed ⟨put t (.bool false, .val (.bool false)) sL,hP⟩) (hx:lk sL t=some (.bool (decide p),q):=by exact rfl):aD P c ops Q Z K fuel listed (⟨sL,hP⟩:St):=
 HQ t hx (fun h=>ht (Ur h)) (fun h=>hf (of_decide_eq_false h))
theorem cC {x:Operand} {t e:Code} {b:Bool} {q:PV} (ht:b=true→aC P c t Q (⟨sL,hP⟩:St)) (hf:b=false→aC P c e Q (⟨sL,hP⟩:St)) (hx:ev sL x=some (.bool b,q):=by exact rfl):aC P c (.cond x t e) Q (⟨sL,hP⟩:St):=R3 hx ht hf
theorem cCd {x:Operand} {t e:Code} {p:Prop} {_:Decidable p} {q:PV} (ht:p→aC P c t Q (⟨sL,hP⟩:St)) (hf:¬p→aC P c e Q (⟨sL,hP⟩:St)) (hx:ev sL x=some (.bool (decide p),q):=by exact rfl):aC P c (.cond x t e) Q (⟨sL,hP⟩:St):=R3 hx (fun h=>ht (Ur h)) (fun h=>hf (of_decide_eq_false h))
theorem cX {A B C:Prop} (h1:B) (h2:C) (e:B→C→A:=by intro h1 h2;first|exact cCd h1 h2|exact cC h1 h2):A:=e h1 h2
theorem cCt {x:Operand} {t e:Code} {q:PV} (ht:aC P c t Q (⟨sL,hP⟩:St)) (hx:ev sL x=some (.bool true,q):=by exact rfl):aC P c (.cond x t e) Q (⟨sL,hP⟩:St):=R3 hx (fun _=>ht) (fun h=>Bool.noConfusion h)
theorem cCf {x:Operand} {t e:Code} {q:PV} (hf:aC P c e Q (⟨sL,hP⟩:St)) (hx:ev sL x=some (.bool false,q):=by exact rfl):aC P c (.cond x t e) Q (⟨sL,hP⟩:St):=R3 hx (fun h=>Bool.noConfusion h) (fun _=>hf)
theorem cA {dd:Prop} {f:Nat} {xs:Array Operand} {ats:Array TypeId} {es:List Ent} {ps:List PV} {R:PV→Prop} (hc:∀args w,(callFunc f args).run P w= .ok (.enter f args) w) (hA:AFd dd P f ps R) (ho:o.op= .call {callee:= .value (.func f),args:=xs,argTypes:=ats}:=by exact rfl) (hx:evL sL xs.toList=some es:=by exact rfl) (hps:es.map (·.2)=ps:=by exact rfl) (hdd:c.dr→dd:=by first|exact id|exact fun h=>h.elim|exact fun _=>trivial):J3 P c (⟨sL,hP⟩:St) o R:=
 Zh6 ho hc hx (hps▸hA) hdd
theorem cS {p:PV} (d:Nat) (hC:J3 P c (⟨sL,hP⟩:St) o (· =p)) (k:∀v,vOf p v→aL P c ops Q rest ⟨put d (v,p) sL,hP⟩) (hsh:isSh p=true:=by exact rfl) (hw:Z7 ops sL o=some true:=by exact rfl) (hd:o.dst=some d:=by exact rfl) (hn:d<c.nt:=by exact Xa rfl):aL P c ops Q (o::rest) (⟨sL,hP⟩:St):=
 Zh8 d hw hd hn hC fun p' hp=>by subst hp;exact ⟨hsh,k⟩
theorem cO {p:PV} (d:Nat) (hC:J3 P c (⟨sL,hP⟩:St) o (· =p)) (k:∀v,v.oneCell'=true→aL P c ops Q rest ⟨put d (v, .val v) sL,put d (v,p) hP⟩) (hok:Gs p=true:=by exact rfl) (hl:lk hP d=none:=by exact rfl) (hw:Z7 ops sL o=some true:=by exact rfl) (hd:o.dst=some d:=by exact rfl) (hn:d<c.nt:=by exact Xa rfl):aL P c ops Q (o::rest) (⟨sL,hP⟩:St):=
 Zh9 d hw hd hn hl hC fun p' hp=>by subst hp;exact ⟨hok,k⟩
end
mutual
def shD:PV→Bool
 | .val _=>true
 | .sl _ _=>true
 | .sptr _ _=>true
 | .smap _=>true
 | .smapS _ _=>true
 | .own _ _ _ _=>false
 | .omap _=>false
 | .obox _ _ _=>false
 | .agg ps=>Za7 ps
 | .tup ps=>Za7 ps
 | .fn _ _=>true
 | .oblk _ _ _ _=>false
def Za7:List PV→Bool
 |[]=>true
 |p::l=>shD p&&Za7 l
end
theorem Py:∀l:List PV,Za7 l=l.all shD
 |[]=>by simp [Za7]
 |p::l=>by simp [Za7,Py l]
theorem Tr.shD {M:BS} {w:World} {v:Value} {p:PV} {F:BS} (h:Tr M w v p F):En.shD p=true→Shr M w v p:=by
 induction h with
 |shr h _=>exact fun _=>h
 |own=>intro h;rw [En.shD] at h;cases h
 |omap=>intro h;rw [En.shD] at h;cases h
 |oblk=>intro h;rw [En.shD] at h;cases h
 |obox=>intro h;rw [En.shD] at h;cases h
 | @agg ps F vs Fs hl h hd hF ih=>
   intro hs;rw [En.shD,Py] at hs;exact .agg vs ps hl fun i v p hv hp=>ih i v p hv hp (Xj.1 hs p (Xd hp))
 | @tup ps F vs Fs hl h hd hF ih=>
   intro hs;rw [En.shD,Py] at hs;exact .tup vs ps hl fun i v p hv hp=>ih i v p hv hp (Xj.1 hs p (Xd hp))
section
variable {P:Program} {c:Ctx} {ops:Array Oper} {Q:Exit→Act→World→Prop} {rest:List Oper} {st:St} {sL hP:List (Nat×Ent)} {o:Oper} {Z:Nat→Bool} {K:List Nat} {fuel:Nat} {listed:Array Bool}
theorem ZC {x:Operand} {h:Value} {q:PV} {j e k n:Nat} {cs:List PV} (l:Nat) (ho:o.op= .nilCheck x:=by exact rfl) (hx:ev st.slots x=some (padd (sbase h) j,q):=by exact rfl) (hl:lk st.heap l=some (h, .own e k n cs):=by exact rfl) (hn:0<n:=by first|omega|decide):YE P st o (· =padd (sbase h) j) (.val (padd (sbase h) j)):=
 .exact fun M F a w H=>by
  have hv:=(H.ev hx).1;obtain ⟨g,cap,rfl,_⟩:=Jq (H.tr l _ _ hl) hn;refine ⟨.val _,?_⟩;simp only [sbase,padd] at hv ⊢;simp [execOp,ho,hv]
theorem TW {l t j e k n:Nat} {h:Value} {cs:List PV} {q:PV} (hl:lk hP l=some (h, .own e k n cs)) (hn:0<n) (ht:lk sL t=some (padd (sbase h) j,q)):Lo (⟨sL,hP⟩:St) (fun _:Unit=>⟨put t (padd (sbase h) j, .sptr j (WW cs)) sL,del l hP⟩):=fun c a w ⟨F,H⟩=>by
 refine ⟨(),F,?_⟩
 have hm:∀b,mof c (del l hP) F b→mof c hP F b:=by
  rintro b (h|⟨l',x,h1,h2⟩)
  · exact .inl h
  · exact .inr ⟨l',x,(YY h1).2,h2⟩
 have H1:HoldsF c ⟨sL,del l hP⟩ F a w:=H.less (fun _ _ h=>h) (fun _ _ h=>(YY h).2)
 refine ⟨H1.toHeapF,fun s u r hs=>?_,H.size,H.df⟩
 rcases YS hs with ⟨rfl,e1⟩|⟨_,hs'⟩
 · cases e1;refine ⟨(H.sl t _ _ ht).1,?_⟩;obtain ⟨g,cap,rfl,_⟩:=Jq (H.tr l _ _ hl) hn;have h2:=(H.tr l _ _ hl).share (M':=mof c (del l hP) F) (fun b _ h=>hm b h) fun b hb hmb=>by
    rcases hmb with h1|⟨l',x,h1,h2⟩
    · exact H.apart h1 hl hb
    · exact H.dj l l' _ _ b (YY h1).1 hl (YY h1).2 hb h2
   rw [share] at h2;generalize WW cs=cs' at h2 ⊢
   cases h2 with
   |emp=>omega
   |sl _ _ _ _ _ vs _ _ hcell hT=>exact .sptr g 0 j cs' vs hcell hT
 · exact H1.sl s u r hs'
theorem cB {dd:Prop} {f:Nat} {xs:Array Operand} {ats:Array TypeId} {ps:List PV} {R:PV→Prop} (ho:o.op= .call {callee:= .value (.func f),args:=xs,argTypes:=ats}) (hc:∀args w,(callFunc f args).run P w= .ok (.enter f args) w) (hA:AFd dd P f ps R) (hx:ZeI (⟨sL,hP⟩:St) xs.toList ps) (hR:∀p,R p→nosh p=true:=by rintro p rfl;exact rfl) (hdd:c.dr→dd:=by first|exact id|exact fun h=>h.elim|exact fun _=>trivial):J3 P c (⟨sL,hP⟩:St) o R:=Zh7 ho hc hx hA hR hdd
theorem Gg {i d:Nat} {p:PV} (ho:ops[i]? =some o) (hC:J3 P c (⟨sL,hP⟩:St) o (· =p)) (k:∀v,vOf p v→aD P c ops Q Z K fuel (listed.setIfInBounds i true) ⟨put d (v,p) sL,hP⟩) (hsh:shD p=true:=by exact rfl) (hw:Z7 ops sL o=some true:=by exact rfl) (hd:o.dst=some d:=by exact rfl) (hn:d<c.nt:=by exact Xa rfl):aW P c ops Q Z K fuel listed (⟨sL,hP⟩:St) i:=fun a w F H C hC'=>by
 refine KY (Q':=fun _ a' w'=>(Z i=true∨C w')∧KH P .any ops Q C Z fuel (listed.setIfInBounds i true) a' w') ho (fun a' w' hq=>hq) ?_
 have h1:=Kw H.rd hw
 unfold wpList
 rw [h1,Up rfl]
 refine .inl ?_
 obtain ⟨f,args,hr,hcall⟩:=hC a w F H
 unfold Oper.wp
 rw [hr,Oper.upon_enter]
 refine hcall.mono fun e w' ⟨v,q,Fr,e1,e2,e3,e4,e5,e6⟩=>?_
 subst e1
 rw [show q=p from e2] at e4
 have hS:=e4.shD hsh
 have H2:HoldsF c ⟨put d (v,p) sL,hP⟩ F (a.put (some d) v) w':=SP H e3 hn (hS.anti fun b _ h=> .inl h)
 simp only [Oper.upon,hd]
 have hch:Chg (nK K hP F) w w':=e3.chg
 exact ⟨.inr (hC' w' hch),k v hS.vOf _ w' F H2 C fun W hW=>hC' W (hch.tr hW fun b hb=> .inl hb)⟩
theorem cD {p:PV} (d:Nat) (hC:J3 P c (⟨sL,hP⟩:St) o (· =p)) (k:∀v,vOf p v→aL P c ops Q rest ⟨put d (v,p) sL,hP⟩) (hsh:shD p=true:=by exact rfl) (hw:Z7 ops sL o=some true:=by exact rfl) (hd:o.dst=some d:=by exact rfl) (hn:d<c.nt:=by exact Xa rfl):aL P c ops Q (o::rest) (⟨sL,hP⟩:St):=
 Gz hw hC fun a w F w' v p' Fr H hR hx hT hlo hdw=>by
  rw [show p'=p from hR] at hT;have hS:=hT.shD hsh;rw [hd];exact k v hS.vOf _ _ ⟨F,SP H hx hn (hS.anti fun b _ h=> .inl h)⟩
theorem cP {p1 p2:PV} (d:Nat) (hC:J3 P c (⟨sL,hP⟩:St) o (· = .tup [p1,p2])) (k:∀v1 v2,vOf p1 v1→vOf p2 v2→aL P c ops Q rest ⟨put d (.tuple [v1,v2].toArray, .tup [p1,p2]) sL,hP⟩) (hsh:shD (.tup [p1,p2])=true:=by exact rfl) (hw:Z7 ops sL o=some true:=by exact rfl) (hd:o.dst=some d:=by exact rfl) (hn:d<c.nt:=by exact Xa rfl):aL P c ops Q (o::rest) (⟨sL,hP⟩:St):=
 Gz hw hC fun a w F w' v p' Fr H hR hx hT hlo hdw=>by
  rw [show p'= .tup [p1,p2] from hR] at hT;have hS:=hT.shD hsh;rw [hd];have hS':Shr (mof c hP F) w' v (.tup [p1,p2]):=hS.anti fun b _ h=> .inl h
  cases hS with
  | tup vs ps hl h=>
    match vs,hl,h,hS' with
    |[v1,v2],_,h,hS'=>exact k v1 v2 (h 0 v1 p1 rfl rfl).vOf (h 1 v2 p2 rfl rfl).vOf _ _ ⟨F,SP H hx hn hS'⟩
theorem Zcr (i j k:Nat) (hr:Region.ready .any ops listed=[i,j,k]) (h:aW P c ops Q Z K fuel listed (⟨sL,hP⟩:St) i) (h':aW P c ops Q Z K fuel listed (⟨sL,hP⟩:St) j) (h'':aW P c ops Q Z K fuel listed (⟨sL,hP⟩:St) k):aD P c ops Q Z K (fuel+1) listed (⟨sL,hP⟩:St):=fun a w F H C hC=>
 ⟨(fun hn=>by rw [hr] at hn;cases hn),fun m hm=>by
   rw [hr] at hm;rcases (by simpa using hm:m=i∨m=j∨m=k) with rfl|rfl|rfl
   · exact h a w F H C hC
   · exact h' a w F H C hC
   · exact h'' a w F H C hC⟩
theorem ZW {ι:Type} {S:ι→St} (i:ι) (hs:Sub (S i).slots sL) (hh:Sub (S i).heap hP):aN c (Exit.then (fun a w=>∃i,Holds c (S i) a w) Q) (⟨sL,hP⟩:St):=ZgP i hs hh
end
theorem ZiC (a b:Nat):Nat.beq a b=(a==b):=by
 cases h:Nat.beq a b
 · exact (beq_eq_false_iff_ne.2 (fun e=>by rw [e] at h;simp at h)).symm
 · exact (beq_iff_eq.2 (XE h)).symm
theorem nrm {A B:Prop} (h:B) (e:B→A:=by intro h;(try simp only [Wr,YM,put,del,ZiC,List.elem,Vm,VH,Nat.reduceBEq,cond_true,cond_false]);exact h):A:=e h
section
variable {P:Program} {c:Ctx} {sL hP:List (Nat×Ent)}
theorem Lw {F:Nat→BS} {a:Act} {w:World} (H:HoldsF c (⟨sL,hP⟩:St) F a w) {t ty k l e k' n:Nat} {h:Value} {q:PV} {cs:List PV} (hT:AggT P ty k=true) (ht:lk sL t=some (padd (sbase h) 0,q)) (hl:lk hP l=some (h, .own e k' n cs)) (hp:k≤cs.length) (hk:0<k) (hsh:(cs.take k).all isSh=true):
 ∃V A,(asAddr (a.tmps.getD t undef)).run P w= .ok A w∧(loadVar ty A).run P w= .ok V w∧Shr (mof c hP F) w V (.agg (cs.take k)):=by
 have hv:=(H.sl t _ _ ht).1
 obtain ⟨xs,Fs,hrow,hlen,hTr,hd,hb,hF'⟩:=(H.tr l _ _ hl).row
 rcases YZ hrow with ⟨_,_,rfl⟩|⟨g,cap,rfl,h1,h2,h3⟩
 · simp at hlen;rw [hlen] at hp;simp at hp;omega
 refine ⟨.agg (xs.take k).toArray,⟨g,0,none⟩,?_,?_, .agg _ _ (by simp;omega) (fun i u p hu hp'=>?_)⟩
 · simp only [sbase,padd,Xv] at hv;simp [XR,hv,asAddr]
 · have hcl:∀i u,(xs.take k)[i]? =some u→w.cell? ((⟨g,0,none⟩:Addr).add i)=some u:=fun i u hu=>by
    (have hi:i<k:=by have:=Zg hu;simp at this;omega);rw [X5 hi] at hu;rw [Y0,Xv];exact WK hrow hu
   have:=run_loadCells_list (P:=P) (w:=w) ⟨g,0,none⟩ _ hcl;rw [show (xs.take k).length=k by simp;omega] at this;simp [loadVar,AggT.run hT,AggT.size hT,this]
 · have hi:i<k:=by have:=Zg hu;simp at this;omega
   have hps:=Xj.1 hsh p (Xd hp');rw [X5 hi] at hp' hu;exact (hTr _ u p hu hp').sh hps
theorem WL {fn:Func} {R:PV→Prop} {t ty k e k' n:Nat} {h:Value} {q:PV} {cs:List PV} (l:Nat) (hT:AggT P ty k=true) (hr:fn.results= #[.cell t ty]) (ht:lk sL t=some (padd (sbase h) 0,q)) (hl:lk hP l=some (h, .own e k' n cs)) (hp:k≤cs.length) (hk:0<k) (hsh:(cs.take k).all isSh=true) (hR:R (.agg (cs.take k))) (hN:∀b,¬c.N0 b:=by intro _ h;exact h) (hdf:c.df=[]:=by exact rfl):aR c (bodyPost P fn (JI c R)) (⟨sL,hP⟩:St):=fun a w ⟨F,H⟩=>by
 obtain ⟨V,A,h0,h1,h2⟩:=Lw H hT ht hl hp hk hsh
 refine ⟨H.df.trans hdf,V,?_,V,_,fun _=>False,rfl,hR,H.ext.ext (fun b _=>hN b), .shr (h2.anti fun b _ hb=>?_) (fun _ h=>h),fun _ h=>h.elim,H.dw⟩
 · simp only [results,hr];simp at h0;simp [h0,h1]
 · rcases hb with hb|hb
   · exact .inl hb
   · exact hb.elim
theorem Wo {fn:Func} {R:PV→Prop} {t ty s k e k' n:Nat} {h u:Value} {q p:PV} {cs:List PV} (l:Nat) (hT:AggT P ty k=true) (hr:fn.results= #[.cell t ty, .tmp s]) (ht:lk sL t=some (padd (sbase h) 0,q)) (hl:lk hP l=some (h, .own e k' n cs)) (hs:lk sL s=some (u,p)) (hp:k≤cs.length) (hk:0<k) (hsh:(cs.take k).all isSh=true) (hR:R (.tup [.agg (cs.take k),p])) (hN:∀b,¬c.N0 b:=by intro _ h;exact h) (hdf:c.df=[]:=by exact rfl):aR c (bodyPost P fn (JI c R)) (⟨sL,hP⟩:St):=fun a w ⟨F,H⟩=>by
 obtain ⟨V,A,h0,h1,h2⟩:=Lw H hT ht hl hp hk hsh
 obtain ⟨h3,h4⟩:=H.sl s _ _ hs
 have hM:∀b,b<w.heap.size→(c.M0 b∨False)→mof c hP F b:=fun b _ hb=>by
  rcases hb with hb|hb
  · exact .inl hb
  · exact hb.elim
 refine ⟨H.df.trans hdf, .tuple #[V,u],?_, .tuple #[V,u],_,fun _=>False,rfl,hR,H.ext.ext (fun b _=>hN b), .shr (.tup [V,u] _ rfl fun i v q' hv hq'=>?_) (fun _ h=>h),fun _ h=>h.elim,H.dw⟩
 · simp only [results,hr];simp at h0;simp [h0,h1,XR,h3]
 · match i with
   |0=>simp at hv hq';subst hv hq';exact h2.anti hM
   |1=>simp at hv hq';subst hv hq';exact h4.anti hM
   |i+2=>simp at hv
end
end Go.En
namespace Go.Proofs.YtpiemogpblmiiaaGreatDoor
open Go.RowKit Go.Cb Go.En Tryz
set_option linter.all false
set_option maxRecDepth 100000
abbrev pU8 (n:Int):PV:= .val (.int .u8 n)
theorem J6 {a b:Bool} (h:a=true↔b=true):ZV a=ZV b:=by rw [Vg.2 h]
theorem Za8 {s:ByteArray} {i:Nat} {x:UInt8} (h:s.data[i]? =some x):i<s.size:=by
 rcases Xm i s.size with h1|h1
 · exact h1
 · rw [XX h1] at h;cases h
theorem R9 {s:ByteArray} {i:Nat} (h:i<s.size):∃y,s.data[i]? =some y:=⟨s.data[i]'h,Array.getElem?_eq_getElem h⟩
theorem GY {s:ByteArray} (h:s.size<1∨40<s.size):Ki s=false:=by
 unfold Ki
 rcases h with h|h
 · rw [Un (show ¬1≤s.size by omega)];simp
 · rw [Un (show ¬s.size≤40 by omega)];simp
theorem Pz {s:ByteArray} {y:UInt8} (h0:s.data[0]? =some y) (h:KN y.toNat=false):Ki s=false:=by
 unfold Ki;rw [h0,VV,h];simp
theorem PC {s:ByteArray} {k:Nat} {y:UInt8} (hy:s.data[k]? =some y) (h:Ge y.toNat=false):Ki s=false:=by
 unfold Ki
 rw [Bool.and_eq_false_iff];right
 rw [List.all_eq_false]
 exact ⟨y,Array.mem_toList_iff.2 (Array.mem_of_getElem? hy),by rw [h];simp⟩
theorem Ry {s:ByteArray} {y:UInt8} (h1:1≤s.size) (h2:s.size≤40) (h0:s.data[0]? =some y) (hl:KN y.toNat=true) (h:∀j z,j<s.size→s.data[j]? =some z→Ge z.toNat=true):Ki s=true:=by
 unfold Ki
 rw [h0,VV,hl,Um h1,Um h2]
 simp only [Bool.and_self,VK,Xj]
 intro x hx
 obtain ⟨i,hi⟩:=Array.getElem?_of_mem (Array.mem_toList_iff.1 hx)
 exact h i x (Za8 hi) hi
theorem HR (c:Int):AF prog 119 [pU8 c] (· =ZV (KN c)):=by
 refine AF.of_body 17 func119 rfl ntmps119 (Xa rfl) ?_
 intro w0 M0 vs hl hv
 obtain ⟨v0,rfl⟩:=Kl hl
 obtain rfl:=hv 0 _ _ rfl rfl
 clear hl hv
 refine Zf ?_
 (refine xL 2 Zb ?_;refine Zn ?_)
 (refine xL 3 Za (xL 4 WE (xL 5 Za ?_))<;>(refine bLd 5 (fun hb5=>?_) (fun hb5=>?_)<;>(first|refine kL 6 ?_|refine xL 6 Za ?_))<;>(first|refine kL 7 ?_|refine xL 7 J5 ?_)<;>refine xL 8 Zu (xL 9 Za ?_)<;>(first|refine xL 10 Za ?_|(refine bLd 9 (fun hb9=>?_) (fun hb9=>?_)<;>(first|refine kL 10 ?_|refine xL 10 Za ?_)))<;>(first|refine kL 11 ?_|refine xL 11 WE ?_)<;>(first|refine kL 12 ?_|refine xL 12 Za ?_)<;>(first|refine kL 13 ?_|(refine bLd 12 (fun hb12=>?_) (fun hb12=>?_)<;>(first|refine kL 13 ?_|refine xL 13 Za ?_)))<;>(first|refine kL 14 ?_|refine xL 14 J5 ?_)<;>(first|refine kL 15 ?_|refine xL 15 Zu ?_)<;>refine xL 16 Zu (xL 2 Zb ?_)<;>refine Ze ?_)<;>(
 refine Zx (results119) rfl (J6 ?_);simp only [KN,XO,Xf,Ul,true_iff,false_iff,Vl]<;>omega)
theorem ZgV (c:Int):AF prog 120 [pU8 c] (· =ZV (Ge c)):=by
 refine AF.of_body 25 func120 rfl ntmps120 (Xa rfl) ?_
 intro w0 M0 vs hl hv
 obtain ⟨v0,rfl⟩:=Kl hl
 obtain rfl:=hv 0 _ _ rfl rfl
 clear hl hv
 refine Zf ?_
 (refine xL 2 Zb ?_;refine Zn ?_)
 (refine xL 3 Za ?_<;>(refine cS 4 (cA call119 (HR c)) fun v4 h=>?_;cases h)<;>refine xL 5 Za ?_<;>(refine bL 5 (fun hb5=>?_) (fun hb5=>?_)<;>(first|refine kL 6 ?_|refine xL 6 Za ?_))<;>(first|refine kL 7 ?_|refine xL 7 WE ?_)<;>(first|refine kL 8 ?_|refine xL 8 Za ?_)<;>(first|refine kL 9 ?_|(refine bLd 8 (fun hb8=>?_) (fun hb8=>?_)<;>(first|refine kL 9 ?_|refine xL 9 Za ?_)))<;>(first|refine kL 10 ?_|refine xL 10 J5 ?_)<;>(first|refine kL 11 ?_|refine xL 11 Zu ?_)<;>refine xL 12 Zu (xL 13 Za ?_)<;>(first|refine kL 14 ?_|refine xL 14 Za ?_|(refine bLd 13 (fun hb13=>?_) (fun hb13=>?_)<;>(first|refine kL 14 ?_|refine xL 14 Za ?_)))<;>(first|refine kL 15 ?_|refine xL 15 ZQ ?_)<;>refine xL 16 Zu (xL 17 Za ?_)<;>(first|refine kL 18 ?_|(refine bLd 17 (fun hb17=>?_) (fun hb17=>?_)<;>(first|refine kL 18 ?_|refine xL 18 Za ?_)))<;>(first|refine kL 19 ?_|refine xL 19 ZQ ?_)<;>refine xL 20 Zu (xL 21 Za ?_)<;>(first|refine kL 22 ?_|(refine bLd 21 (fun hb21=>?_) (fun hb21=>?_)<;>(first|refine kL 22 ?_|refine xL 22 Za ?_)))<;>(first|refine kL 23 ?_|refine xL 23 ZQ ?_)<;>refine xL 24 Zu (xL 2 Zb ?_)<;>refine Ze ?_)<;>(
 refine Zx (results120) rfl (J6 ?_);simp only [Ge,XO,Xf,Ul,true_iff,false_iff,Vl,beq_iff_eq]<;>simp_all<;>omega)
theorem HS (s :ByteArray) (hs:s.size≤9223372036854775807):AF prog 64 [ZZ s] (· =ZV (Ki s)):=by
 refine AF.of_body 29 func64 rfl ntmps64 (Xa rfl) ?_
 intro w0 M0 vs hl hv
 obtain ⟨v0,rfl⟩:=Kl hl
 obtain rfl:=hv 0 _ _ rfl rfl
 clear hl hv
 refine Zf ?_
 (refine xL 2 Zb ?_;refine Zn ?_)
 (refine xL 4 Za (xL 5 (Wn underlying9) (xL 6 ZR (xL 7 Za ?_)))<;>(refine bLd 7 (fun hb7=>?_) (fun hb7=>?_)<;>(first|refine kL 8 ?_|refine xL 8 Za ?_))<;>(first|refine kL 9 ?_|refine xL 9 (Wn underlying9) ?_)<;>(first|refine kL 10 ?_|refine xL 10 Wy ?_)<;>refine xL 11 Zu (xL 12 Za ?_)<;>(first|refine kL 13 ?_|(refine bLd 12 (fun hb12=>?_) (fun hb12=>?_)<;>(first|refine kL 13 ?_|refine xL 13 Za ?_)))<;>(first|refine kL 14 ?_|(refine (R9 (i:=0) (s:=s) oM).elim fun y0 hy0=>?_;refine xL 14 (Ws underlying9) ?_))<;>(first|refine kL 15 ?_|(refine cS 15 (cA call119 (HR y0.toNat)) fun v15 h=>?_;cases h))<;>(first|refine kL 16 ?_|refine xL 16 Ym ?_)<;>refine xL 17 Zu ?_<;>refine Ze ?_)<;>(
 refine cX ?_ ?_<;>intro hb17
 · first|exact bN hb17|(
 refine Zf ?_;(refine xL 2 Zb ?_;refine Ze ?_)
 refine Zx (results64) rfl ?_
 first|rw [GY oM]|rw [Pz hy0 (by simpa using hb17)])
 · first | exact bN hb17|(
 refine Zf ?_;(refine xL 18 Za (xL 19 (Wn underlying9) (xL 20 Za ?_));refine Ze ?_)
 refine ZE (ι:={k:Nat//k≤s.size∧∀j y,j<k→s.data[j]? =some y→Ge y.toNat=true}) (fun k=>⟨[(0,_,_),(19,_,_),(20, .int .i64 k.1,Zc k.1)],[]⟩) (fun k=>s.size-k.1) ⟨0,oM,oM⟩ (fun a w H=>H.weaken ⟨rfl,rfl,rfl,trivial⟩ trivial) ?_;rintro ⟨k,hk,hp⟩;dsimp only;refine Zf ?_;(refine xL 21 ZR ?_;refine Ze ?_)
 refine cX ?_ ?_<;>intro hb21
 · first |exact bN hb21|(
 have hlt:k<s.size:=oM;obtain ⟨y,hy⟩:=R9 (s:=s) (i:=k) oM;refine Zf ?_;(refine xL 22 Za (xL 3 Zb ?_);refine Zn ?_)
 (refine xL 23 Za (xL 24 Za (xL 25 (Ws underlying9) ?_));refine cS 26 (cA call120 (ZgV y.toNat)) fun v26 hv26=>?_;cases hv26;refine xL 27 Ym ?_;refine Ze ?_)
 refine cX ?_ ?_<;>intro hb27
 · first|exact bN hb27|(
 refine Zf ?_;(refine xL 2 Zb ?_;refine Ze ?_)
 refine Zx (results64) rfl ?_;rw [PC hy (by simpa using hb27)])
 · first|exact bN hb27|(
 refine Zf ?_;(refine xL 28 ZO (xL 20 Za ?_);refine Ze ?_)
 refine Zk (
  ⟨k+1,oM,fun j z hj hz=>by
   by_cases e:j=k
   · subst e;rw [hy] at hz;cases hz;simpa using hb27
   · exact hp j z oM hz⟩
  ) (by dsimp only;omega) ⟨rfl,rfl,rfl,trivial⟩ trivial))
 · first|exact bN hb21|(
 refine Zf ?_;(refine xL 2 Zb ?_;refine Ze ?_)
 refine Zx (results64) rfl ?_;rw [Ry oM oM hy0 (by simpa using hb17) (fun j z hj hz=>hp j z oM hz)])))
theorem HT {α:Type} {p:α→Bool} {l:List α} {k:Nat} {x:α} (hx:l[k]? =some x) (h:p x=false):l.all p=false:=List.all_eq_false.2 ⟨x,Xd hx,by rw [h];simp⟩
theorem ζC {α:Type} {p:α→Bool} {l:List α} (h:∀(j:Nat) x,l[j]? =some x→p x=true):l.all p=true:=Xj.2 fun x hx=>by
 obtain ⟨j,hj⟩:=X8 hx
 exact h j x hj
theorem O5 (c:Int):AF prog 132 [pU8 c] (· =ZV (KN c)):=by
 refine AF.of_body 17 func132 rfl ntmps132 (Xa rfl) ?_
 intro w0 M0 vs hl hv
 obtain ⟨v0,rfl⟩:=Kl hl
 obtain rfl:=hv 0 _ _ rfl rfl
 clear hl hv
 refine Zf ?_
 (refine xL 2 Zb ?_;refine Zn ?_)
 (refine xL 3 Za (xL 4 WE (xL 5 Za ?_))<;>(refine bLd 5 (fun hb5=>?_) (fun hb5=>?_)<;>(first|refine kL 6 ?_|refine xL 6 Za ?_))<;>(first|refine kL 7 ?_|refine xL 7 J5 ?_)<;>refine xL 8 Zu (xL 9 Za ?_)<;>(first|refine xL 10 Za ?_|(refine bLd 9 (fun hb9=>?_) (fun hb9=>?_)<;>(first|refine kL 10 ?_|refine xL 10 Za ?_)))<;>(first|refine kL 11 ?_|refine xL 11 WE ?_)<;>(first|refine kL 12 ?_|refine xL 12 Za ?_)<;>(first|refine kL 13 ?_|(refine bLd 12 (fun hb12=>?_) (fun hb12=>?_)<;>(first|refine kL 13 ?_|refine xL 13 Za ?_)))<;>(first|refine kL 14 ?_|refine xL 14 J5 ?_)<;>(first|refine kL 15 ?_|refine xL 15 Zu ?_)<;>refine xL 16 Zu (xL 2 Zb ?_)<;>refine Ze ?_)<;>(
 refine Zx (results132) rfl (J6 ?_);simp only [KN,XO,Xf,Ul,true_iff,false_iff,Vl]<;>omega)
theorem O6 (s : ByteArray) (hs:s.size≤9223372036854775807):AF prog 82 [ZZ s] (· =ZV (Ki s)):=by
 refine AF.of_body 52 func82 rfl ntmps82 (Xa rfl) ?_
 intro w0 M0 vs hl hv
 obtain ⟨v0,rfl⟩:=Kl hl
 obtain rfl:=hv 0 _ _ rfl rfl
 clear hl hv
 refine Zf ?_
 (refine xL 2 Zb ?_;refine Zn ?_)
 (refine xL 5 Za (xL 6 (Wn underlying9) (xL 7 ZR (xL 8 Za ?_)))<;>(refine bLd 8 (fun hb8=>?_) (fun hb8=>?_)<;>(first|refine kL 9 ?_|refine xL 9 Za ?_))<;>(first|refine kL 10 ?_|refine xL 10 (Wn underlying9) ?_)<;>(first|refine kL 11 ?_|refine xL 11 Wy ?_)<;>refine xL 12 Zu (xL 13 Za ?_)<;>(first|refine kL 14 ?_|(refine bLd 13 (fun hb13=>?_) (fun hb13=>?_)<;>(first|refine kL 14 ?_|refine xL 14 Za ?_)))<;>(first|refine kL 15 ?_|(refine (R9 (i:=0) (s:=s) oM).elim fun y0 hy0=>?_;refine xL 15 (Ws underlying9) ?_))<;>(first|refine kL 16 ?_|(refine cS 16 (cA call132 (O5 y0.toNat)) fun v16 h=>?_;cases h))<;>(first|refine kL 17 ?_|refine xL 17 Ym ?_)<;>refine xL 18 Zu ?_<;>refine Ze ?_)<;>(
 refine cX ?_ ?_<;>intro hb18
 · first|exact bN hb18|(
 refine Zf ?_;(refine xL 2 Zb ?_;refine Ze ?_)
 refine Zx (results82) rfl ?_
 first|rw [GY oM]|rw [Pz hy0 (by simpa using hb18)])
 · first | exact bN hb18|(
 refine Zf ?_;(refine xL 3 Zb ?_;refine Ze ?_)
 have h0:∀(j:Nat) z,j<1→s.data[j]? =some z→Ge z.toNat=true:=fun j z hj hz=>by
  obtain rfl:j=0:=oM;rw [hy0] at hz;cases hz;unfold Ge;rw [show KN y0.toNat=true by simpa using hb18];rfl
 refine ZE (ι:={k:Nat//1≤k∧k≤s.size∧∀j y,j<k→s.data[j]? =some y→Ge y.toNat=true}) (fun k=>⟨[(0,_,_),(3, .int .i64 k.1,Zc k.1)],[]⟩) (fun k=>s.size-k.1) ⟨1,oM,oM,h0⟩ (fun a w H=>H.weaken ⟨rfl,rfl,trivial⟩ trivial) ?_;rintro ⟨k,hk1,hk,hp⟩;dsimp only;refine Zf ?_;(refine xL 19 Za (xL 20 Za (xL 21 (Wn underlying9) (xL 22 ZR ?_)));refine Ze ?_)
 refine cX ?_ ?_<;>intro hb22
 · first | exact bN hb22|(
 have hlt:k<s.size:=oM;obtain ⟨y,hy⟩:=R9 (s:=s) (i:=k) oM;refine Zf ?_;(refine xL 25 Za (xL 26 Za (xL 27 (Ws underlying9) (xL 4 Zb ?_)));refine Zn ?_)
 (refine xL 28 Za ?_<;>(refine cS 29 (cA call132 (O5 y.toNat)) fun v29 h=>?_;cases h)<;>refine xL 30 Ym (xL 31 Za ?_)<;>(refine bL 31 (fun hb31=>?_) (fun hb31=>?_)<;>(first|refine kL 32 ?_|refine xL 32 Za ?_))<;>(first|refine kL 33 ?_|refine xL 33 WE ?_)<;>(first|refine kL 34 ?_|refine xL 34 Za ?_)<;>(first|refine kL 35 ?_|(refine bLd 34 (fun hb34=>?_) (fun hb34=>?_)<;>(first|refine kL 35 ?_|refine xL 35 Za ?_)))<;>(first|refine kL 36 ?_|refine xL 36 J5 ?_)<;>(first|refine kL 37 ?_|refine xL 37 Zu ?_)<;>(first|refine kL 38 ?_|refine xL 38 Ym ?_)<;>refine xL 39 Zu (xL 40 Za ?_)<;>(first|refine kL 41 ?_|refine xL 41 Za ?_|(refine bL 40 (fun hb40=>?_) (fun hb40=>?_)<;>(first|refine kL 41 ?_|refine xL 41 Za ?_)))<;>(first|refine kL 42 ?_|refine xL 42 YN ?_)<;>refine xL 43 Zu (xL 44 Za ?_)<;>(first|refine kL 45 ?_|(refine bLd 44 (fun hb44=>?_) (fun hb44=>?_)<;>(first|refine kL 45 ?_|refine xL 45 Za ?_)))<;>(first|refine kL 46 ?_|refine xL 46 YN ?_)<;>refine xL 47 Zu (xL 48 Za ?_)<;>(first|refine kL 49 ?_|(refine bLd 48 (fun hb48=>?_) (fun hb48=>?_)<;>(first|refine kL 49 ?_|refine xL 49 Za ?_)))<;>(first|refine kL 50 ?_|refine xL 50 YN ?_)<;>refine xL 51 Zu ?_<;>refine Ze ?_)<;>(
 refine cX ?_ ?_<;>intro hb51
 · first|exact bN hb51|(
 refine Zf ?_;(refine xL 2 Zb ?_;refine Ze ?_)
 refine Zx (results82) rfl ?_;rw [PC hy];rw [Bool.eq_false_iff];intro hpb;simp only [Ge,XO,Xf,Ul,beq_iff_eq] at hpb;simp_all
 try omega)
 · first |exact bN hb51|(
 refine Zf ?_;(refine xL 23 Za (xL 24 ZO (xL 3 Zb ?_));refine Ze ?_)
 refine Zk (
  ⟨k +1,oM,oM,fun j z hj hz=>by
   by_cases e:j=k
   · subst e;rw [hy] at hz;cases hz;simp only [Ge,XO,Xf,Ul,beq_iff_eq];simp_all
     try omega
   · exact hp j z oM hz⟩
  ) (by dsimp only;omega) ⟨rfl,rfl,trivial⟩ trivial)))
 · first|exact bN hb22|(
 refine Zf ?_;(refine xL 2 Zb ?_;refine Ze ?_)
 refine Zx (results82) rfl ?_;rw [Ry oM oM hy0 (by simpa using hb18) (fun j z hj hz=>hp j z oM hz)])))
end Go.Proofs.YtpiemogpblmiiaaGreatDoor
namespace Go.Cb
open Go.RowKit
set_option linter.all false
open Go.RowKit Go.WideMaps
structure MapT (P:Program) (t ks e:Nat):Prop where
 ht:P.underlying t=some (.map ks e)
 hk:P.underlying ks=some .string
 he:P.underlying e=some (.int .i64)
 hz:∀w,(zeroValue e).run P w= .ok (.int .i64 0) w
theorem Jd {a b:ByteArray}:Rx a b=true↔a=b:=by
 unfold Rx
 rw [beq_iff_eq,ByteArray.toList_eq,ByteArray.toList_eq]
 exact ⟨fun h=>WideShapes.bytes_inj h,fun h=>by rw [h]⟩
theorem O7:∀l:List UInt8,Op.bytesLess l l=false
 |[]=>rfl
 |a::l=>by simp [Op.bytesLess,O7 l,UInt8.lt_irrefl]
theorem HU:∀a b c:List UInt8,Op.bytesLess a b=true→Op.bytesLess b c=true→Op.bytesLess a c=true
 |_,_,[],_,h=>by cases h':(‹List UInt8›:List UInt8)<;>simp_all [Op.bytesLess]
 |_,[],_::_,h,_=>by simp [Op.bytesLess] at h
 |[],_::_,_::_,_,_=>rfl
 | x ::a,y::b,z::c,h1,h2=>by
   simp only [Op.bytesLess,XO,Xf,Ul,beq_iff_eq] at h1 h2 ⊢;rcases h1 with h1|⟨rfl,h1⟩
   · rcases h2 with h2|⟨rfl,h2⟩
     · exact .inl (UInt8.lt_trans h1 h2)
     · exact .inl h1
   · rcases h2 with h2|⟨rfl,h2⟩
     · exact .inl h2
     · exact .inr ⟨rfl,HU a b c h1 h2⟩
theorem HV:∀a b:List UInt8,Op.bytesLess a b=false→Op.bytesLess b a=false→a=b
 |[],[],_,_=>rfl
 |[],_::_,h,_=>by simp [Op.bytesLess] at h
 |_::_,[],_,h=>by simp [Op.bytesLess] at h
 | x::a,y::b,h1,h2=>by
   simp only [Op.bytesLess,Vh,decide_eq_false_iff_not] at h1 h2;have hxy:x=y:=UInt8.le_antisymm (UInt8.not_lt.1 h2.1) (UInt8.not_lt.1 h1.1);subst hxy;simp only [beq_self_eq_true,VK] at h1 h2;rw [HV a b h1.2 h2.2]
theorem GZ (a:ByteArray):Jc a a=false:=O7 _
theorem Rz {a b c:ByteArray} (h:Jc a b=true) (k:Jc b c=true):Jc a c=true:=HU _ _ _ h k
theorem HW {a b:ByteArray} (h:Jc a b=false) (k:Jc b a=false):a=b:=by
 have:=HV _ _ h k
 rw [ByteArray.toList_eq,ByteArray.toList_eq] at this
 exact WideShapes.bytes_inj this
def Nodup (r:List Var):Prop:=r.Pairwise fun x y=>x.acts≠y.acts
end Go.Cb
namespace Go.Proofs.YtpiemogpblmiiaaGreatDoor
open Go.RowKit Go.Cb Go.En Tryz
set_option linter.all false
theorem Cv (x y:ByteArray):Wi x y= -1∨Wi x y=0∨Wi x y=1:=by
 have:=Za2 x y;omega
theorem G0 (x y:ByteArray):(Jc x y=true∧Jc y x=false∧x≠y∧Wi x y= -1∧Wi y x=1)∨(x=y∧Wi x y=0∧Wi y x=0)∨(Jc y x=true∧Jc x y=false∧x≠y∧Wi x y=1∧Wi y x= -1):=by
 have hno:∀{a b:ByteArray},Jc a b=true→Jc b a=false∧a≠b:=fun {a b} h=>by
  have h1:=GZ a;have h2:=GZ b;refine ⟨?_,fun e=>by subst e;rw [h] at h1;cases h1⟩
  cases h3:Jc b a with
  |false=>rfl
  |true=>rw [Rz h h3] at h1;cases h1
 have heq:∀a:ByteArray,Rx a a=true:=fun a=>Jd.2 rfl
 have hne:∀{a b:ByteArray},a≠b→Rx a b=false:=fun {a b} h=>by
  cases h1:Rx a b with
  |false=>rfl
  |true=>exact Uq (Jd.1 h1) h
 unfold Wi
 cases h:Jc x y with
 | true=>
   obtain ⟨h1,h2⟩:=hno h;refine .inl ⟨rfl,h1,h2,sM,?_⟩;rw [h1,hne (Ne.symm h2)];rfl
 | false=>
   cases h':Jc y x with
   | true=>
     obtain ⟨h1,h2⟩:=hno h';refine .inr (.inr ⟨rfl,rfl,Ne.symm h2,?_,sM⟩);rw [hne (Ne.symm h2)];rfl
   | false=>
     have e:=HW h h';subst e;refine .inr (.inl ⟨rfl,?_,?_⟩)<;>simp [heq]
theorem HX (x y:ByteArray):Wi y x= -Wi x y:=by
 rcases G0 x y with ⟨_,_,_,h1,h2⟩|⟨_,h1,h2⟩|⟨_,_,_,h1,h2⟩<;>omega
theorem G1 (x y:ByteArray):Wi x y=0↔x=y:=by
 rcases G0 x y with ⟨_,_,h0,h1,h2⟩|⟨h0,h1,h2⟩|⟨_,_,h0,h1,h2⟩
 · exact ⟨fun h=>oM,fun h=>Uq h h0⟩
 · exact ⟨fun _=>h0,fun _=>h1⟩
 · exact ⟨fun h=>oM,fun h=>Uq h h0⟩
theorem SU {x y:ByteArray}:Wi x y= -1↔Jc x y=true:=by
 rcases G0 x y with ⟨h0,_,_,h1,h2⟩|⟨h0,h1,h2⟩|⟨_,h0,_,h1,h2⟩
 · exact ⟨fun _=>h0,fun _=>h1⟩
 · subst h0;rw [GZ];exact ⟨fun h=>oM,fun h=>by cases h⟩
 · rw [h0];exact ⟨fun h=>oM,fun h=>by cases h⟩
theorem Cw (x y z:ByteArray) (h:Wi x y= -1) (h':Wi y z= -1):Wi x z= -1:=SU.2 (Rz (SU.1 h) (SU.1 h'))
inductive Nd where
 |mk (op:Int) (act:ByteArray) (l:List Nd)
section
def Nd.op:Nd→Int
 | .mk o _ _=>o
def Nd.act:Nd→ByteArray
 | .mk _ a _=>a
def Nd.l:Nd→List Nd
 | .mk _ _ l=>l
theorem Nd.ind {P:Nd→Prop} (h:∀o a l,(∀x∈l,P x)→P (.mk o a l)):∀t,P t:=fun t=>
 Nd.rec (motive_1:=P) (motive_2:=fun l=>∀x∈l,P x) (fun o a l ih=>h o a l ih) (fun _ hx=>by cases hx) (fun x l hx hl y hy=>by
  rcases Xn.1 hy with rfl|hy
  · exact hx
  · exact hl y hy) t
def K3 (a b:Int):Int:=if a<b then-1 else if b<a then 1 else 0
def or3 (a b c:Int):Int:=if a≠0 then a else if b≠0 then b else c
mutual
def Wd:Nd→Nd→Int
 | .mk o a l, .mk o' a' l'=>or3 (K3 o o') (Wi a a') (W6 l l')
def W6:List Nd→List Nd→Int
 |[],[]=>0
 |[],_::_=> -1
 |_::_,[]=>1
 |x::l,y::m=>if Wd x y≠0 then Wd x y else W6 l m
end
theorem Za9 (a b:Int):K3 a b= -1∨K3 a b=0∨K3 a b=1:=by unfold K3;split<;>(try split)<;>omega
theorem Cx (a b:Int):K3 b a= -K3 a b:=by unfold K3;split<;>(try split)<;>(try split)<;>omega
theorem Tz (a b:Int):K3 a b=0↔a=b:=by unfold K3;split<;>(try split)<;>omega
theorem Zcs (a b c:Int) (h:K3 a b= -1) (h':K3 b c= -1):K3 a c= -1:=by
 unfold K3 at*
 split at h
 · split at h'
   · rw [Up oM]
   · split at h'<;>omega
 · split at h<;>omega
theorem ZeK {a b c:Int} (ha:a= -1∨a=0∨a=1) (hb:b= -1∨b=0∨b=1) (hc:c= -1∨c=0∨c=1):or3 a b c= -1∨or3 a b c=0∨or3 a b c=1:=by unfold or3;split<;>(try split)<;>omega
theorem ZeL (a b c:Int):or3 (-a) (-b) (-c)= -or3 a b c:=by unfold or3;split<;>split<;>(try split)<;>(try split)<;>omega
theorem Zct {a b c:Int}:or3 a b c=0↔a=0∧b=0∧c=0:=by unfold or3;split<;>(try split)<;>omega
theorem ZgW {a b c:Int}:or3 a b c= -1↔a= -1∨(a=0∧(b= -1∨(b=0∧c= -1))):=by unfold or3;split<;>(try split)<;>omega
theorem HY:∀(l:List Nd),(∀x∈l,∀y,Wd x y= -1∨Wd x y=0∨Wd x y=1)→∀m,W6 l m= -1∨W6 l m=0∨W6 l m=1
 |[],_,m=>by cases m<;>simp [W6]
 | x ::l,h,m=>by
   cases m with
   |nil=>simp [W6]
   | cons y m=>
     rw [W6];split
     · exact h x (XD ..) y
     · exact HY l (fun y hy=>h y (XI _ hy)) m
theorem O8:∀(l:List Nd),(∀x∈l,∀y,Wd y x= -Wd x y)→∀m,W6 m l= -W6 l m
 |[],_,m=>by cases m<;>simp [W6]
 | x ::l,h,m=>by
   cases m with
   |nil=>simp [W6]
   | cons y m=>
     rw [W6,W6,h x (XD ..) y];have ih:=O8 l (fun y hy=>h y (XI _ hy)) m;by_cases h0:Wd x y=0
     · rw [Uo oM,Uo oM];exact ih
     · rw [Up oM,Up h0]
theorem O9:∀(l:List Nd),(∀x∈l,∀y,Wd x y=0↔x=y)→∀m,W6 l m=0↔l=m
 |[],_,m=>by cases m<;>simp [W6]
 | x :: l,h,m=>by
   cases m with
   |nil=>simp [W6]
   | cons y m=>
     rw [W6];have h1:=h x (XD ..) y;have ih:=O9 l (fun y hy=>h y (XI _ hy)) m;by_cases h0:Wd x y=0
     · rw [Uo oM,ih,h1.1 h0];simp
     · rw [Up h0];exact ⟨fun h=>Uq h h0,fun h=>Uq (h1.2 (List.cons.inj h).1) h0⟩
theorem Ly:∀(x y:Nd),Wd x y= -1∨Wd x y=0∨Wd x y=1:=Nd.ind fun o a l ih y=>by
 obtain ⟨o',a',l'⟩:=y
 rw [Wd]
 exact ZeK (Za9 _ _) (Cv _ _) (HY l ih _)
theorem O':∀(x y:Nd),Wd y x= -Wd x y:=Nd.ind fun o a l ih y=>by
 obtain ⟨o',a',l'⟩:=y
 rw [Wd,Wd,Cx,HX,O8 l ih,ZeL]
theorem Ky:∀(x y:Nd),Wd x y=0↔x=y:=Nd.ind fun o a l ih y=>by
 obtain ⟨o',a',l'⟩:=y
 rw [Wd,Zct,Tz,G1,O9 l ih]
 exact ⟨fun ⟨h1,h2,h3⟩=>by rw [h1,h2,h3],fun h=>by injection h with h1 h2 h3;exact ⟨h1,h2,h3⟩⟩
theorem ζD :∀(l:List Nd),(∀x∈l,∀y z,Wd x y= -1→Wd y z= -1→Wd x z= -1)→∀m n,W6 l m= -1→W6 m n= -1→W6 l n= -1
 | [],_,m,n,h1,h2=>by
   cases m with
   |nil=>rw [W6] at h1;omega
   | cons y m=>
     cases n with
     |nil=>rw [W6] at h2;omega
     |cons z n=>rw [W6]
 | x :: l, h,m,n,h1,h2=>by
   cases m with
   |nil=>rw [W6] at h1;omega
   | cons y m=>
     cases n with
     |nil=>rw [W6] at h2;omega
     | cons z n=>
       rw [W6] at h1 h2 ⊢;have ih:=ζD l (fun y hy=>h y (XI _ hy)) m n;by_cases h0:Wd x y=0
       · have e:=(Ky x y).1 h0;subst e;rw [Uo oM] at h1;by_cases h3:Wd x z=0
         · rw [Uo oM] at h2 ⊢;exact ih h1 h2
         · rw [Up h3] at h2 ⊢;exact h2
       · rw [Up h0] at h1;by_cases h3:Wd y z=0
         · have e:=(Ky y z).1 h3;subst e;rw [Up oM];exact h1
         · rw [Up h3] at h2;have:=h x (XD ..) y z h1 h2;rw [Up oM];exact this
theorem ζE:∀(x y z:Nd),Wd x y= -1→Wd y z= -1→Wd x z= -1:=Nd.ind fun o a l ih y z h1 h2=>by
 obtain ⟨o',a',l'⟩:=y
 obtain ⟨o2,a2,l2⟩:=z
 rw [Wd,ZgW] at h1 h2 ⊢
 rcases h1 with h1|⟨e1,h1⟩
 · rcases h2 with h2|⟨e2,_⟩
   · exact .inl (Zcs _ _ _ h1 h2)
   · rw [←(Tz _ _).1 e2];exact .inl h1
 · rw [(Tz _ _).1 e1];rcases h2 with h2|⟨e2,h2⟩
   · exact .inl h2
   · refine .inr ⟨e2,?_⟩;rcases h1 with h1|⟨e1,h1⟩
     · rcases h2 with h2|⟨e2,_⟩
       · exact .inl (Cw _ _ _ h1 h2)
       · rw [←(G1 _ _).1 e2];exact .inl h1
     · rw [(G1 _ _).1 e1];rcases h2 with h2|⟨e2,h2⟩
       · exact .inl h2
       · exact .inr ⟨e2,ζD l ih _ _ h1 h2⟩
def leT (x y:Nd):Prop:=Wd x y≠1
theorem KL (x:Nd):leT x x:=by
 have:=(Ky x x).2 rfl
 unfold leT;omega
theorem HZ {x y:Nd} (h:leT x y) (h':leT y x):x=y:=by
 unfold leT at*
 have:=O' x y
 have:=Ly x y
 exact (Ky x y).1 oM
theorem ζF {x y:Nd}:leT x y↔Wd x y= -1∨x=y:=by
 unfold leT
 have:=Ly x y
 rw [←Ky x y];omega
theorem Kd {x y z:Nd} (h:leT x y) (h':leT y z):leT x z:=by
 rw [ζF] at*
 rcases h with h|rfl
 · rcases h' with h'|rfl
   · exact .inl (ζE x y z h h')
   · exact .inl h
 · exact h'
theorem ζG {x y:Nd}:¬Wd x y<0↔leT y x:=by
 unfold leT
 have:=O' x y
 have:=Ly x y
 omega
end
section
mutual
def szT:Nd→Nat
 | .mk _ _ l=>1+szL l
def szL:List Nd→Nat
 |[]=>0
 |x::l=>szT x+szL l
end
mutual
def dpT:Nd→Nat
 | .mk _ _ l=>1+dpL l
def dpL:List Nd→Nat
 |[]=>0
 |x::l=>max (dpT x) (dpL l)
end
theorem G2 (l m:List Nd):szL (l++m)=szL l+szL m:=by
 induction l with
 |nil=>simp [szL]
 |cons x l ih=>rw [Vm,szL,szL,ih,Vk]
theorem PD {l:List Nd} {k:Nat} {x:Nd} (h:l[k]? =some x):szL (l.take (k+1))=szL (l.take k)+szT x:=by
 rw [List.take_add_one,h,G2];simp [szL]
theorem DN (t:Nd):1≤szT t:=by cases t;rw [szT];omega
theorem Pa {l:List Nd} {x:Nd} (h:x∈l):szT x≤szL l:=by
 induction l with
 |nil=>cases h
 | cons y l ih=>
   rw [szL];rcases Xn.1 h with rfl|h
   · omega
   · have:=ih h;omega
theorem ZeM {l:List Nd} {x:Nd} (h:x∈l):dpT x≤dpL l:=by
 induction l with
 |nil=>cases h
 | cons y l ih=>
   rw [dpL];rcases Xn.1 h with rfl|h
   · omega
   · have:=ih h;omega
theorem ZgX {l:List Nd} {n:Nat}:dpL l≤n↔∀x∈l,dpT x≤n:=by
 induction l with
 |nil=>simp [dpL]
 |cons y l ih=>rw [dpL,Nat.max_le,ih];simp
def rightT (t:Nd):Bool:=
 if t.op=1 then t.l.isEmpty&&Ki t.act else if t.op=2 then t.l.isEmpty&&decide (t.act=ByteArray.empty) else if t.op=3∨t.op=4∨t.op=5 then !t.l.isEmpty&&decide (t.act=ByteArray.empty)
 else if t.op=6 then decide (t.l.length=2)&&decide (t.act=ByteArray.empty) else false
mutual
def okT:Nd→Bool
 | .mk o a l=>rightT (.mk o a l)&&okL l
def okL:List Nd→Bool
 |[]=>true
 |x::l=>okT x&&okL l
end
theorem ZeN {l:List Nd}:okL l=true↔∀x∈l,okT x=true:=by
 induction l with
 |nil=>simp [okL]
 |cons x l ih=>rw [okL,Xf,ih];simp
theorem Kz {t:Nd}:okT t=true↔rightT t=true∧∀x∈t.l,okT x=true:=by
 obtain ⟨o,a,l⟩:=t
 rw [okT,Xf,ZeN];rfl
def Je (t:Nd) (most:Int) (d:Int):Bool:=okT t&&decide ((szT t:Int)≤most)&&decide (d+dpT t≤61)
theorem Zcu {t:Nd} {most d:Int} (h:most<1∨60<d∨rightT t=false):Je t most d=false:=by
 cases hm:Je t most d with
 |false=>rfl
 | true=>
   exfalso;unfold Je at hm;simp only [Xf,Ul] at hm;obtain ⟨⟨h1,h2⟩,h3⟩:=hm;have h4:=DN t;have h5:1≤dpT t:=by cases t;rw [dpT];omega
   rcases h with h|h|h
   · omega
   · omega
   · rw [(Kz.1 h1).1] at h;cases h
theorem H3 {t:Nd} {most d:Int} {k:Nat} {x:Nd} (hx:t.l[k]? =some x) (h:Je x (most-(1+szL (t.l.take k))) (d+1)=false):Je t most d=false:=by
 cases hm:Je t most d with
 |false=>rfl
 | true=>
   exfalso;unfold Je at hm h;simp only [Xf,Ul] at hm;obtain ⟨⟨h1,h2⟩,h3⟩:=hm;have hmem:=Xd hx;have e1:=(Kz.1 h1).2 x hmem;have e2:szL t.l=szL (t.l.take k)+szL (t.l.drop k):=by rw [←G2,Vw]
   have e3:szT x≤szL (t.l.drop k):=Pa (Xd (show (t.l.drop k)[0]? =some x by rw [XT];exact hx));have e4:szT t=1+szL t.l:=by cases t;rw [szT];rfl
   have e5:dpT t=1+dpL t.l:=by cases t;rw [dpT];rfl
   have e6:=ZeM hmem;rw [e1,Um oM,Um oM] at h
   cases h
theorem ζH {t:Nd} {most d:Int} (hr:rightT t=true) (h1:1≤most) (h2:d≤60) (h:∀k x,t.l[k]? =some x→Je x (most-(1+szL (t.l.take k))) (d+1)=true):Je t most d=true:=by
 have e4:szT t=1+szL t.l:=by cases t;rw [szT];rfl
 have e5:dpT t=1+dpL t.l:=by cases t;rw [dpT];rfl
 unfold Je at h ⊢
 have key:∀k x,t.l[k]? =some x→okT x=true∧(szT x:Int)≤most-(1+szL (t.l.take k))∧d+1+dpT x≤61:=fun k x hx=>by
  have:=h k x hx;simp only [Xf,Ul] at this;exact ⟨this.1.1,this.1.2,this.2⟩
 simp only [Xf,Ul]
 refine ⟨⟨Kz.2 ⟨hr,fun x hx=>?_⟩,?_⟩,?_⟩
 · obtain ⟨k,hk⟩:=X8 hx;exact (key k x hk).1
 · rw [e4];rcases hn:t.l.length with _|n
   · have:t.l=[]:=XK hn;rw [this];simp [szL];omega
   · obtain ⟨x,hx⟩:∃x,t.l[n]? =some x:=⟨_,Xx oM⟩;have e1:=(key n x hx).2.1;have e2:=PD hx;rw [Xs (show t.l.length≤n+1 by omega)] at e2;omega
 · rw [e5];have:dpL t.l≤(60-d).toNat:=ZgX.2 fun x hx=>by
    obtain ⟨k,hk⟩:=X8 hx;have:=(key k x hk).2.2;omega
   omega
def Jf (t:Nd):Bool:=Je t 400 1
theorem TA {t:Nd} (h:Jf t=true):okT t=true:=by unfold Jf Je at h;simp only [Xf] at h;exact h.1.1
theorem SV {t:Nd} (h:Jf t=true):szT t≤400:=by unfold Jf Je at h;simp only [Xf,Ul] at h;omega
def H4 (x:Nd):List Nd→List Nd
 |[]=>[x]
 |y::l=>if Wd y x<0 then y::H4 x l else x::y::l
def DO (l:List Nd):List Nd:=l.foldl (fun m x=>H4 x m) []
def Jw:List Nd→List Nd
 |[]=>[]
 | x::l=>match l with
   |[]=>[x]
   |y::m=>if Wd x y=0 then Jw (y::m) else x::Jw (y::m)
abbrev AscT (l:List Nd):Prop:=l.Pairwise fun x y=>leT x y
abbrev StrT' (l:List Nd):Prop:=l.Pairwise fun x y=>Wd x y<0
theorem Zgt {x y:Nd} (h:Wd x y<0):leT x y:=by unfold leT;omega
theorem Zic {x y:Nd} (h:Wd x y<0):x≠y:=fun e=>by have:=(Ky x y).2 e;omega
theorem PE {x y:Nd} (h:leT x y) (h':x≠y):Wd x y<0:=by
 rcases ζF.1 h with h|h
 · omega
 · exact Uq h h'
theorem SX (x:Nd):∀l,(H4 x l).Perm (x::l)
 |[]=>List.Perm.refl _
 | y::l=>by
   rw [H4];split
   · exact ((SX x l).cons y).trans (List.Perm.swap ..)
   · exact List.Perm.refl _
theorem H5 (x:Nd):∀l,AscT l→AscT (H4 x l)
 |[],_=>VE ..
 | y ::l,h=>by
   rw [H4];obtain ⟨h1,h2⟩:=XQ.1 h;split
   · rename_i hl;refine XQ.2 ⟨fun z hz=>?_,H5 x l h2⟩;rcases Xn.1 ((SX x l).mem_iff.1 hz) with rfl|hz
     · exact Zgt hl
     · exact h1 z hz
   · rename_i hl;have hxy:leT x y:=ζG.1 hl;refine XQ.2 ⟨fun z hz=>?_,h⟩;rcases Xn.1 hz with rfl|hz
     · exact hxy
     · exact Kd hxy (h1 z hz)
theorem H6 (l:List Nd):∀m,AscT m→AscT (l.foldl (fun m x=>H4 x m) m)∧(l.foldl (fun m x=>H4 x m) m).Perm (m++l):=by
 induction l with
 |nil=>intro m h;exact ⟨h,sM⟩
 | cons x l ih=>
   intro m h;rw [Vt];obtain ⟨h1,h2⟩:=ih _ (H5 x m h);refine ⟨h1,h2.trans ?_⟩;exact ((SX x m).append_right l).trans (by
    rw [Vm];exact (List.perm_middle (l₁:=m) (a:=x) (l₂:=l)).symm)
theorem TX (l:List Nd):AscT (DO l):=(H6 l [] List.Pairwise.nil).1
theorem Jg (l:List Nd):(DO l).Perm l:=by
 have:=(H6 l [] List.Pairwise.nil).2
 rwa [VH] at this
theorem H7 {l m:List Nd} (hl:AscT l) (hm:AscT m) (h:l.Perm m):l=m:=by
 exact List.Perm.eq_of_pairwise (fun a b _ _ h1 h2=>HZ h1 h2) hl hm h
theorem ZeO {l m:List Nd} (hm:AscT m) (h:m.Perm l):m=DO l:=H7 hm (TX l) (h.trans (Jg l).symm)
theorem ζI {l:List Nd} (h:StrT' l):AscT l:=h.imp fun h=>Zgt h
theorem Da {l:List Nd} (h:StrT' l):l.Nodup:=h.imp fun h=>Zic h
theorem H8 {l m:List Nd} (hl:StrT' l) (hm:StrT' m) (h:∀z,z∈l↔z∈m):l=m:=
 H7 (ζI hl) (ζI hm) ((List.perm_ext_iff_of_nodup (Da hl) (Da hm)).2 h)
theorem K4:∀(l:List Nd) z,z∈Jw l↔z∈l
 |[],z=>by simp [Jw]
 |[x],z=>by simp [Jw]
 | x ::y::m,z=>by
   rw [Jw];split
   · rename_i h;rw [K4 (y::m),(Ky x y).1 h];simp
   · rw [Xn,K4 (y::m)];simp
theorem J7:∀(l:List Nd),AscT l→StrT' (Jw l)
 |[],_=>List.Pairwise.nil
 |[x],_=>VE ..
 | x ::y::m,h=>by
   rw [Jw];obtain ⟨h1,h2⟩:=XQ.1 h;split
   · exact J7 (y::m) h2
   · rename_i hn;refine XQ.2 ⟨fun z hz=>?_,J7 (y::m) h2⟩;have hz':=(K4 (y::m) z).1 hz;have hxz:=h1 z hz';refine PE hxz fun e=>hn ?_;subst e;have hyx:leT y x:=by
      rcases Xn.1 hz' with h|h
      · rw [h];exact KL y
      · exact (XQ.1 h2).1 _ h
     exact (Ky x y).2 (HZ (h1 y (XD ..)) hyx)
end
section
def TB:Nd:= .mk 2 ByteArray.empty []
def Wk (op:Int) (l:List Nd):List Nd:=l.flatMap fun x=>if x.op=op then x.l else if x.op≠2∨op=4 then [x] else []
def ON (op:Int):List Nd→Nd
 |[]=>TB
 |[x]=>x
 |x::y::l=> .mk op ByteArray.empty (x::y::l)
def GA (op:Int) (p:List Nd):List Nd:=if op=3 then p else if op=4 then Jw (DO p) else DO p
def TY (op:Int) (l:List Nd):Nd:=ON op (GA op (Wk op l))
def KA (f s:Nd):Nd×Nd:=if f.op=6 then match f.l with
 |a::b::_=>(a,TY 4 [b,s])
 |_=>(f,s) else (f,s)
def H9 (p:Nd×Nd):Nd:=if p.1.op=2∧p.2.op=2 then TB else .mk 6 ByteArray.empty [p.1,p.2]
def ZgY:List Nd→Nd
 |f::s::_=>H9 (KA f s)
 |_=>TB
def OO (o:Int) (a:ByteArray) (l:List Nd):Nd:=if o=1∨o=2 then .mk o a [] else if o=6 then ZgY l else TY o l
mutual
def Yw:Nd→Nd
 | .mk o a l=>OO o a (WZ l)
def WZ:List Nd→List Nd
 |[]=>[]
 |x::l=>Yw x::WZ l
end
theorem Pb (l:List Nd):WZ l=l.map Yw:=by
 induction l with
 |nil=>rfl
 |cons x l ih=>rw [WZ,ih];rfl
structure NfN (t:Nd):Prop where
 rt:rightT t=true
 two:t.op≠6→∀x∈t.l,2≤t.l.length∧x.op≠t.op
 ns:t.op=3∨t.op=5→∀x∈t.l,x.op≠2
 xo:t.op=4→StrT' t.l
 an:t.op=5→AscT t.l
 lp:t.op=6→∃a b,t.l=[a,b]∧a.op≠6∧¬(a.op=2∧b.op=2)
inductive NF:Nd→Prop
 |mk (t:Nd) (h:NfN t) (hp:∀x∈t.l,NF x):NF t
theorem NF.n {t:Nd}:NF t→NfN t
 | .mk _ h _=>h
theorem NF.p {t:Nd}:NF t→∀x∈t.l,NF x
 | .mk _ _ h=>h
theorem NF.ok {t:Nd}:NF t→okT t=true
 | .mk _ h hp=>Kz.2 ⟨h.rt,fun x hx=>NF.ok (hp x hx)⟩
theorem GB {t:Nd} (h:rightT t=true):t.op=1∨t.op=2∨t.op=3∨t.op=4∨t.op=5∨t.op=6:=by
 unfold rightT at h
 by_cases h1:t.op=1
 · exact .inl h1
 · by_cases h2:t.op=2
   · exact .inr (.inl h2)
   · by_cases h3:t.op=3∨t.op=4∨t.op=5
     · omega
     · by_cases h4:t.op=6
       · omega
       · rw [Uo h1,Uo h2,Uo h3,Uo h4] at h;cases h
theorem Zba:rightT TB=true:=by unfold rightT TB;simp [Nd.op,Nd.l,Nd.act]
theorem ζJ {t:Nd} (hr:rightT t=true) (hl:t.l=[]) (ho:t.op=1∨t.op=2):NF t:=
 .mk t ⟨hr,fun _ x hx=>by (rw [hl] at hx;cases hx),fun h=>oM,fun h=>oM,fun h=>oM,fun h=>oM⟩ fun x hx=>by rw [hl] at hx;cases hx
theorem Zcv:NF TB:=ζJ Zba rfl (.inr rfl)
theorem ZeP {op:Int} {l:List Nd} (hl:∀x∈l,NF x) (ho:op=3∨op=4∨op=5) {y:Nd} (hy:y∈Wk op l):NF y∧y.op≠op∧(op≠4→y.op≠2):=by
 unfold Wk at hy
 obtain ⟨x,hx,hy⟩:=V8.1 hy
 by_cases h1:x.op=op
 · rw [Up h1] at hy;have hn:=(hl x hx).n;refine ⟨(hl x hx).p y hy,?_,fun h4=>hn.ns oM y hy⟩;rw [←h1];exact (hn.two oM y hy).2
 · rw [Uo h1] at hy;split at hy
   · rename_i h2;rw [Xr] at hy;subst hy;exact ⟨hl _ hx,h1,fun h4=>oM⟩
   · cases hy
theorem ZeQ {op:Int} {p:List Nd} {y:Nd}:y∈GA op p↔y∈p:=by
 unfold GA
 split
 · exact Iff.rfl
 · split
   · rw [K4,(Jg p).mem_iff]
   · rw [(Jg p).mem_iff]
theorem ZgZ {op:Int} (ho:op=3∨op=4∨op=5) {p:List Nd} (hp:∀y∈p,NF y∧y.op≠op∧(op≠4→y.op≠2)) (h4:op=4→StrT' p) (h5:op=5→AscT p):NF (ON op p):=by
 match p,hp,h4,h5 with
 |[],_,_,_=>exact Zcv
 |[x],hp,_,_=>exact (hp x (XD ..)).1
 | x::y::l,hp,h4,h5=>
   refine .mk _ ⟨?_,fun _ z hz=>⟨by simp [ON,Nd.l],(hp z hz).2.1⟩,fun h z hz=>(hp z hz).2.2 (by simp only [ON,Nd.op] at h;omega),fun h=>h4 h,fun h=>h5 h,fun h=>?_⟩ fun z hz=>(hp z hz).1
   · rcases ho with rfl|rfl|rfl<;>simp [rightT,ON,Nd.op,Nd.l,Nd.act]
   · simp only [ON,Nd.op] at h;omega
theorem ζK {op:Int} (ho:op=3∨op=4∨op=5) {l:List Nd} (hl:∀x∈l,NF x):NF (TY op l):=by
 refine ZgZ ho (fun y hy=>ZeP hl ho (ZeQ.1 hy)) (fun h=>?_) (fun h=>?_)
 · subst h;unfold GA;rw [Uo dC,Up rfl];exact J7 _ (TX _)
 · subst h;unfold GA;rw [Uo dC,Uo dC];exact TX _
theorem ZeR {p:Nd×Nd} (h1:NF p.1) (h2:NF p.2) (h6:p.1.op≠6):NF (H9 p):=by
 unfold H9
 split
 · exact Zcv
 · rename_i h;refine .mk _ ⟨by simp [rightT,Nd.op,Nd.l,Nd.act],fun h=>Uq rfl h,fun h=>?_,fun h=>?_,fun h=>?_,fun _=>⟨_,_,rfl,h6,h⟩⟩ fun x hx=>?_
   · simp [Nd.op] at h
   · simp [Nd.op] at h
   · simp [Nd.op] at h
   · rcases Xn.1 hx with rfl|hx
     · exact h1
     · rcases Xn.1 hx with rfl|hx
       · exact h2
       · cases hx
theorem ZeS {f s:Nd} (hf:NF f) (hs:NF s):NF (KA f s).1∧NF (KA f s).2∧(KA f s).1.op≠6:=by
 unfold KA
 by_cases h:f.op=6
 · rw [Up h];obtain ⟨a,b,hl,ha,_⟩:=hf.n.lp h;rw [hl];have hp:=hf.p;rw [hl] at hp;have hb:=hp b sM;refine ⟨hp a sM,ζK oM fun x hx=>?_,ha⟩;rcases Xn.1 hx with rfl|hx
   · exact hb
   · rw [Xr] at hx;subst hx;exact hs
 · rw [Uo h];exact ⟨hf,hs,h⟩
theorem Zg0:∀(t:Nd),okT t=true→NF (Yw t):=Nd.ind fun o a l ih hok=>by
 obtain ⟨hr,hp⟩:=Kz.1 hok
 simp only [Nd.l] at hp
 have hl:∀x∈WZ l,NF x:=fun x hx=>by
  rw [Pb] at hx;obtain ⟨y,hy,rfl⟩:=Xq.1 hx;exact ih y hy (hp y hy)
 rw [Yw]
 unfold OO
 split
 · rename_i h;refine ζJ ?_ rfl h;unfold rightT at hr ⊢;rcases h with rfl|rfl
   · simp [Nd.op,Nd.l,Nd.act] at hr ⊢;exact hr.2
   · simp [Nd.op,Nd.l,Nd.act] at hr ⊢;exact hr.2
 · split
   · rename_i h1 h;subst h;have hlen:l.length=2:=by
      unfold rightT at hr;simp [Nd.op,Nd.l,Nd.act] at hr;exact Ur hr.1
     obtain ⟨x,y,rfl⟩:∃x y,l=[x,y]:=by
      match l,hlen with
      |[x,y],_=>exact ⟨x,y,rfl⟩
     rw [WZ,WZ,WZ] at hl ⊢;obtain ⟨g1,g2,g3⟩:=ZeS (hl (Yw x) sM) (hl (Yw y) sM);exact ZeR g1 g2 g3
   · rename_i h1 h2;exact ζK (by have:=GB hr;simp only [Nd.op] at this;omega) hl
end
set_option maxRecDepth 100000
theorem Zo:NoAgg prog 3=true:=by kernel_rfl
theorem Zs:SlT prog 46 3 1=true:=by kernel_rfl
structure Cnt where
 name:ByteArray
 n:Int
structure Flw where
 src:ByteArray
 dst:ByteArray
 n:Int
structure Dfg where
 acts:List Cnt
 starts:List Cnt
 ends:List Cnt
 follows:List Flw
def pInts (l:List Int):PV:= .sl l.length (l.map Zc)
theorem Lz (f:Nat) (caps:List PV) (p:Int→Bool) (l:List (Int)) (hc:∀args w,(callFunc f args).run prog w= .ok (.enter f args) w) (hf:∀s∈l,AF prog f (Zc s::caps) (· =ZV (p s))):AF prog 166 [pInts l, .fn f caps] (· =Zc (idx p l)):=by
 refine AF.of_body 19 func166 rfl ntmps166 (Xa rfl) ?_
 intro w0 M0 vs hl hv
 obtain ⟨v0,v1,rfl⟩:=KG hl
 clear hl hv
 refine Jr 0 rfl fun hlen=>?_
 refine Zf ?_
 (refine xL 4 Zb ?_;refine Zn ?_)
 (refine xL 6 Za (xL 7 (Z1 Zs) (xL 8 Za ?_));refine Ze ?_)
 refine ZE (ι:={k:Nat//k≤l.length∧∀i y,i<k→l[i]? =some y→p y=false}) (fun k=>⟨[(0,_,_),(1,_,_),(7,_,_),(8, .int .i64 k.1,Zc k.1)],[]⟩) (fun k=>l.length-k.1) ⟨0,oM,oM⟩ (fun a w H=>H.weaken ⟨rfl,rfl,rfl,rfl,trivial⟩ trivial) ?_
 rintro ⟨k,hk,hp⟩
 dsimp only
 refine Zf ?_
 (refine xL 9 ZR ?_;refine Ze ?_)
 refine cX ?_ ?_<;>intro hb9
 · first |exact bN hb9|(
 obtain ⟨x,hx⟩:=Zw (show k<l.length by omega);have e1:=Y2 (f:=Zc) hx;refine Zf ?_;(refine xL 10 Za (xL 5 Zb ?_);refine Zn ?_)
 (refine xL 11 Za (xL 12 Za (xL 13 Za (xL 14 (ZP Zs) ?_)));refine yL 15 (Yy Zo) fun v15 hv15=>?_;cases hv15;refine cS 16 (Jb (f:=f) (ps:=caps) rfl ⟨_,rfl⟩ hc rfl (hf x (Xd hx))) fun v16 hv16=>?_;cases hv16;refine Ze ?_)
 refine cX ?_ ?_<;>intro hb16
 · first|exact bN hb16|(
 refine Zf ?_;(refine xL 17 Za (xL 4 Zb ?_);refine Ze ?_)
 refine Zx (results166) rfl ?_;rw [TM hp hx hb16])
 · first|exact bN hb16|(
 refine Zf ?_;(refine xL 18 ZO (xL 8 Za ?_);refine Ze ?_)
 refine Zk (
  ⟨k+1,oM,fun i y hi hy=>by
   by_cases e:i=k
   · subst e;rw [hx] at hy;cases hy;exact hb16
   · exact hp i y oM hy⟩
  ) (by dsimp only;omega) ⟨rfl,rfl,rfl,rfl,trivial⟩ trivial))
 · first|exact bN hb9|(
 refine Zf ?_;(refine xL 4 Zb ?_;refine Ze ?_)
 refine Zx (results166) rfl ?_;rw [TN fun i y hi hy=>hp i y oM hy])
theorem TZ (f:Nat) (caps:List PV) (p:Int→Bool) (l:List (Int)) (hc:∀args w,(callFunc f args).run prog w= .ok (.enter f args) w) (hf:∀s∈l,AF prog f (Zc s::caps) (· =ZV (p s))):AF prog 134 [pInts l, .fn f caps] (· =ZV (l.any p)):=by
 refine AF.of_body 9 func134 rfl ntmps134 (Xa rfl) ?_
 intro w0 M0 vs hl hv
 obtain ⟨v0,v1,rfl⟩:=KG hl
 clear hl hv
 refine Zf ?_
 (refine xL 4 Zb ?_;refine Zn ?_)
 (refine xL 5 Za (xL 6 Za ?_);refine cS 7 (cA call166 (Lz f caps p l hc hf)) fun v7 hv7=>?_;cases hv7;refine xL 8 WE (xL 4 Zb ?_);refine Ze ?_)
 refine Zx (results134) rfl ?_
 rw [R1]
end Go.Proofs.YtpiemogpblmiiaaGreatDoor
