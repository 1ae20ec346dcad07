/-
  Walks of functions and plain laws of the chapter, as the claim needs them.
-/
import Derived.KernelRfl
import Derived.Test.YtmkojdfiadbeeaaGreatProg
import Derived.Maps.Own
import Derived.Maps.OwnOps
import Derived.Maps.OwnSet
import Derived.StringKeys
import Derived.Test.YtmkojdfiadbeeaaGreatPf01
namespace Go.En
open Go.RowKit Go.Cb
set_option linter.all false
section
variable {P:Program} {c:Ctx} {sL hP:List (Nat×Ent)} {o:Oper}
theorem Zan {t k j:Nat} {x:Operand} {v:Value} {cs ps:List PV} (hT:AggT P t k=true) (ho:o.op= .load t x) (hx:ev sL x=some (v, .sptr j cs)) (hp:j+k≤cs.length) (hps:(cs.drop j).take k=ps):YE P (⟨sL,hP⟩:St) o (fun _=>True) (.agg ps):=hps▸ZcX hT ho hx hp
theorem Zao {t k j e k' n:Nat} {x:Operand} {h:Value} {q:PV} {cs ps:List PV} (l:Nat) (hT:AggT P t k=true) (ho:o.op= .load t x) (hx:ev sL x=some (padd (sbase h) j,q)) (hl:lk hP l=some (h, .own e k' n cs)) (hp:j+k≤cs.length) (hk:0<k) (hps:(cs.drop j).take k=ps) (hsh:ps.all isSh=true):YE P (⟨sL,hP⟩:St) o (fun _=>True) (.agg ps):=by
 subst hps;exact ZcY l hT ho hx hl hp hsh hk
theorem RH {t j:Nat} {x:Operand} {v:Value} {cs:List PV} {p:PV} (i:Nat) (hT:NoAgg P t=true) (ho:o.op= .load t x) (hx:ev sL x=some (v, .sptr j cs)) (hj:j=i) (hp:cs[i]? =some p):YE P (⟨sL,hP⟩:St) o (vOf p) p:=by
 subst hj;exact Cl hT ho hx hp
theorem Wk {t j e k n:Nat} {x:Operand} {h:Value} {q:PV} {cs:List PV} {p:PV} (l i:Nat) (hT:NoAgg P t=true) (ho:o.op= .load t x) (hx:ev sL x=some (padd (sbase h) j,q)) (hl:lk hP l=some (h, .own e k n cs)) (hj:j=i) (hp:cs[i]? =some p) (hsh:isSh p=true):YE P (⟨sL,hP⟩:St) o (vOf p) p:=by
 subst hj;exact Cm l hT ho hx hl hp hsh
theorem Zjn {f:Nat} {caps:Array Operand} {es:List Ent} (ho:o.op= .makeFunc (.func f) #[] caps) (hx:evL sL caps.toList=some es):YE P (⟨sL,hP⟩:St) o (· = .func (.func f) #[] (es.map (·.1)).toArray) (.fn f (es.map (·.2))):=
 .exact fun M F a w H=>by
  obtain ⟨h1,h2⟩:=GM H hx;refine ⟨.fn f _ _ (by rw [Xd,Xd]) h2,?_⟩;have:caps.map a.eval=(es.map (·.1)).toArray:=by rw [←h1,←VD,Vw]
  simp [execOp,ho,Instr.makeFunc,this]
end
theorem Y2 {P:Program} {c:Ctx} {sL hP:List (Nat×Ent)} {Q:Exit→Act→World→Prop} {x:Code} {n:Nat} {v:Value} {cs:List PV} (t:Nat) (ht:lk sL t=some (v, .sl n cs)) (k:n≤9223372036854775807→aC P c x Q (⟨sL,hP⟩:St)):aC P c x Q (⟨sL,hP⟩:St):=fun a w H=>by
 obtain ⟨F,H'⟩:=id H
 have h1:=(H'.sl t _ _ ht).2
 have:n≤9223372036854775807:=by
  cases h1 with
  |emp=>omega
  |sl b off n c cs vs hn hc=>unfold maxLen at hc;omega
 exact k this a w H
abbrev Zf (n:Int):PV:= .val (.int .i64 n)
abbrev ZD (s:ByteArray):PV:= .val (.string s)
abbrev ZB (b:Bool):PV:= .val (.bool b)
def ZT (l:List ByteArray):PV:= .sl l.length (l.map ZD)
def Gj (l:List (List ByteArray)):PV:= .sl l.length (l.map ZT)
def pInts (l:List Int):PV:= .sl l.length (l.map Zf)
def Wn (x:Var):List PV:=[ZT x.acts,Zf x.count]
def Z4 (l:List Var):PV:= .sl l.length (l.flatMap Wn)
def Zap (l:List (List Var)):PV:= .sl l.length (l.map Z4)
def EG (x:Cut):PV:= .agg [Zf x.kind,Gj x.parts]
theorem Yq {α β:Type} {f:α→β} {l:List α} {i:Nat} {x:α} (h:l[i]? =some x):(l.map f)[i*1]? =some (f x):=by rw [XO,Xm,h];rfl
theorem Yr {α β:Type} {f:α→List β} {k:Nat} (hf:∀x,(f x).length=k):∀l:List α,(l.flatMap f).length=l.length*k
 |[]=>sM
 |x::l=>by rw [Xo,Xf,hf,Yr hf l,Xg,XW];omega
theorem Yz {α β:Type} {f:α→List β} {k:Nat} (hf:∀x,(f x).length=k):∀(l:List α) (i:Nat) (x:α),l[i]? =some x→((l.flatMap f).drop (i*k)).take k=f x
 |[],i,x,h=>by simp at h
 | y::l,0,x,h=>by
   simp at h;subst h;rw [Ve,Vg,Xo,List.take_append_of_le_length (by rw [hf];exact Xc _),Xy (by rw [hf];exact Xc _)]
 | y::l,i+1,x,h=>by
   rw [Xo,XW,Nat.one_mul,Nat.add_comm,←List.drop_drop,List.drop_append_of_le_length (by rw [hf];exact Xc _),show (f y).drop k=[] from List.drop_of_length_le (by rw [hf];exact Xc _),VO];exact Yz hf l i x (by simpa using h)
theorem WU {α β:Type} {f:α→List β} {k:Nat} (hf:∀x,(f x).length=k) {l:List α} {i:Nat} {x:α} (h:l[i]? =some x) {j:Nat} (hj:j<k):(l.flatMap f)[i*k+j]? =(f x)[j]? :=by
 rw [←Yz hf l i x h,XZ hj,Vu]
theorem YT {α β:Type} {f:α→List β} {k:Nat} (hf:∀x,(f x).length=k) {l:List α} {i:Nat} {x:α} (h:l[i]? =some x):i*k+k≤(l.flatMap f).length:=by
 rw [Yr hf]
 have:=Zj h
 have h1:(i+1)*k≤l.length*k:=X7 k this
 rw [XW,Nat.one_mul] at h1
 exact h1
theorem Ys (x:Var):(Wn x).length=2:=rfl
theorem YG {α:Type} {l:List α} (h:l.length=1):∃a,l=[a]:=by
 match l,h with
 |[a],_=>exact ⟨a,rfl⟩
theorem W7 {α:Type} {l:List α} (h:l.length=2):∃a b,l=[a,b]:=by
 match l,h with
 |[a,b],_=>exact ⟨a,b,rfl⟩
theorem RI {α:Type} {l:List α} (h:l.length=3):∃a b d,l=[a,b,d]:=by
 match l,h with
 |[a,b,d],_=>exact ⟨a,b,d,rfl⟩
theorem ZkI {α:Type} {l:List α} (h:l.length=4):∃a b d e,l=[a,b,d,e]:=by
 match l,h with
 |[a,b,d,e],_=>exact ⟨a,b,d,e,rfl⟩
def keq:Value→Value→Bool
 | .string a, .string b=>a==b
 | .int k a, .int k' b=>decide (k=k')&&a==b
 | .bool a, .bool b=>a==b
 |_,_=>false
theorem Zaq {a b:ByteArray}:(a==b)=true↔a=b:=by
 obtain ⟨a⟩:=a
 obtain ⟨b⟩:=b
 rw [show ((⟨a⟩:ByteArray)==⟨b⟩)=(a==b) from rfl]
 simp
theorem Zhy {a b:Value} (h:keq a b=true):keq b a=true:=by
 cases a<;>cases b<;>simp_all [keq,Zaq]
def kok (kd:TypeDesc) (k:Value) (kv:List (Value×Value)):Prop:=∀x∈kv,Instr.sameNow kd k x.1=some (keq k x.1)
def Wc:List (Value×Value)→Value→Option Value
 |[],_=>none
 |x::l,k=>if keq k x.1 then some x.2 else Wc l k
def Lr:List (Value×Value)→Value→Value→List (Value×Value)
 |[],k,v=>[(k,v)]
 |x::l,k,v=>if keq k x.1 then (k,v)::l else x::Lr l k v
def Lu:List (Value×Value)→Value→Option Nat
 |[],_=>none
 |x::l,k=>if keq k x.1 then some 0 else (Lu l k).map (· +1)
theorem S1 {kd:TypeDesc} {k:Value}:∀(l:List MapEntry) (i:Nat),kok kd k (l.map fun x=>(x.key,x.val))→
 Instr.findNow kd k l i=some (match Lu (l.map fun x=>(x.key,x.val)) k,Wc (l.map fun x=>(x.key,x.val)) k with|some j,some v=>some (i+j,v)|_,_=>none)∧((Lu (l.map fun x=>(x.key,x.val)) k).isSome=(Wc (l.map fun x=>(x.key,x.val)) k).isSome)
 |[],i,_=>⟨rfl,rfl⟩
 | e :: l,i,h=>by
   have h0:=h (e.key,e.val) sM;obtain ⟨h1,h2⟩:=S1 l (i+1) (fun x hx=>h x (by simp at hx ⊢;exact .inr hx));simp only at h0;simp only [Instr.findNow,h0,Xk,Lu,Wc]
   cases hk:keq k e.key
   · simp only [Vo,if_false];rw [h1]
     cases hm:Lu (l.map fun x=>(x.key,x.val)) k with
     | none=>
       rw [hm] at h2
       cases hg:Wc (l.map fun x=>(x.key,x.val)) k with
       |none=>simp
       |some v=>rw [hg] at h2;simp at h2
     | some j=>
       rw [hm] at h2
       cases hg:Wc (l.map fun x=>(x.key,x.val)) k with
       |none=>rw [hg] at h2;simp at h2
       |some v=>simp;omega
   · simp
structure MpT (P:Program) (t ks e:Nat) (kd:TypeDesc) (z:Value):Prop where
 ht:P.underlying t=some (.map ks e)
 hk:P.underlying ks=some kd
 hkd:kd= .string∨∃k,kd= .int k
 hz:ZeroT P e z
section
variable {P:Program} {c:Ctx} {ops:Array Oper} {Q:Exit→Act→World→Prop} {rest:List Oper} {sL hP:List (Nat×Ent)} {o:Oper}
theorem LY {ks:Nat} {kd:TypeDesc} (hk:P.underlying ks=some kd) (hkd:kd= .string∨∃k,kd= .int k) (b:Bool) (v:Value) (w:World):(Instr.checkKey b 10000 ks v).run P w= .ok () w:=by
 rw [show (10000:Nat)=9999+1 from rfl,Instr.checkKey]
 rcases hkd with rfl|⟨k,rfl⟩<;>simp [run_underlying hk]
theorem J9 {ks:Nat} {kd:TypeDesc} (hk:P.underlying ks=some kd) {k:Value} {es:Array MapEntry} (h:kok kd k (kvOf es)) (w:World):(Instr.findKey ks k es.toList).run P w= .ok (match Lu (kvOf es) k,Wc (kvOf es) k with|some j,some v=>some (j,v)|_,_=>none) w:=by
 obtain ⟨h1,_⟩:=S1 es.toList 0 h
 unfold Instr.findKey
 simp only [Sem.run_bind,run_underlying hk,Result.andThen_ok,h1,Xx]
 rfl
theorem ZbG (kv:List (Value×Value)) (k:Value):(Lu kv k).isSome=(Wc kv k).isSome:=by
 induction kv with
 |nil=>rfl
 | cons x l ih=>
   simp only [Lu,Wc];split
   · rfl
   · simpa using ih
theorem LZ {t ks e:Nat} {kd:TypeDesc} {z:Value} (hT:MpT P t ks e kd z) {b clock:Nat} {es:Array MapEntry} {k:Value} (hb:Bool) {w:World} (h:w.heap[b]? =some (.map es clock)) (hk:kok kd k (kvOf es)):
 (Instr.lookup t (.map (some b)) k hb).run P w= .ok (if hb then .tuple #[(Wc (kvOf es) k).getD z, .bool (Wc (kvOf es) k).isSome] else (Wc (kvOf es) k).getD z) w:=by
 have hm:=ZbG (kvOf es) k
 unfold Instr.lookup
 simp only [Sem.run_bind,run_underlying hT.ht,Result.andThen_ok,getObj,Sem.run,h,LY hT.hk hT.hkd,J9 hT.hk hk]
 cases h1:Lu (kvOf es) k with
 | none=>
   rw [h1] at hm
   cases h2:Wc (kvOf es) k with
   |none=>cases hb<;>simp [J9 hT.hk hk,h1,h2,ZeroT.run hT.hz]
   |some v=>rw [h2] at hm;simp at hm
 | some j=>
   rw [h1] at hm
   cases h2:Wc (kvOf es) k with
   |none=>rw [h2] at hm;simp at hm
   |some v=>cases hb<;>simp [J9 hT.hk hk,h1,h2]
theorem Zfb {t ks e:Nat} {kd:TypeDesc} {z:Value} {x y:Operand} {m k:Value} {kv:List (Value×Value)} {q:PV} (hT:MpT P t ks e kd z) (ho:o.op= .lookup t x y false) (hx:ev sL x=some (m, .smap kv)) (hy:ev sL y=some (k,q)) (hk:kok kd k kv):
 YE P (⟨sL,hP⟩:St) o (· =(Wc kv k).getD z) (.val ((Wc kv k).getD z)):= .exact fun M F a w H=>by
 obtain ⟨hv,hs⟩:=H.ev hx
 have hkv:=(H.ev hy).1
 cases hs with
 |smap b es clock hM h=>exact ⟨.val _,by simp [execOp,ho,hv,hkv,LZ hT false h hk]⟩
theorem Zc6 {t ks e:Nat} {kd:TypeDesc} {z:Value} {x y:Operand} {m k:Value} {kv:List (Value×Value)} {q:PV} (hT:MpT P t ks e kd z) (ho:o.op= .lookup t x y true) (hx:ev sL x=some (m, .smap kv)) (hy:ev sL y=some (k,q)) (hk:kok kd k kv):
 YE P (⟨sL,hP⟩:St) o (· = .tuple [(Wc kv k).getD z, .bool (Wc kv k).isSome].toArray) (.tup [.val ((Wc kv k).getD z), .val (.bool (Wc kv k).isSome)]):= .exact fun M F a w H=>by
 obtain ⟨hv,hs⟩:=H.ev hx
 have hkv:=(H.ev hy).1
 cases hs with
 | smap b es clock hM h=>
   refine ⟨.tup _ _ rfl fun i x p hx hp=>?_,by simp [execOp,ho,hv,hkv,LZ hT true h hk]⟩;match i with
   |0=>simp at hx hp;subst hx hp;exact .val _
   |1=>simp at hx hp;subst hx hp;exact .val _
   |i+2=>simp at hx
theorem Zc7 {t ks e:Nat} {kd:TypeDesc} {z u:Value} {x y:Operand} {m k:Value} {kv:List (Value×Value)} {q:PV} (hT:MpT P t ks e kd z) (ho:o.op= .lookup t x y false) (hx:ev sL x=some (m, .smap kv)) (hy:ev sL y=some (k,q)) (hk:kok kd k kv) (hu:(Wc kv k).getD z=u):
 YE P (⟨sL,hP⟩:St) o (· =u) (.val u):=hu▸Zfb hT ho hx hy hk
theorem Tr.map {M:BS} {w:World} {m:Value} {kv:List (Value×Value)} {F:BS} (h:Tr M w m (.omap kv) F):∃b es clock,m= .map (some b)∧kv=kvOf es∧w.heap[b]? =some (.map es clock)∧∀x,F x↔x=b:=by
 cases h with
 |shr h _=>cases h
 |omap b es clock h hF=>exact ⟨b,es,clock,rfl,rfl,h,hF⟩
theorem Zfc {t ks e:Nat} {kd:TypeDesc} {z:Value} {x y:Operand} {m k:Value} {kv:List (Value×Value)} {p q:PV} (l:Nat) (hT:MpT P t ks e kd z) (ho:o.op= .lookup t x y false) (hx:ev sL x=some (m,p)) (hl:lk hP l=some (m, .omap kv)) (hy:ev sL y=some (k,q)) (hk:kok kd k kv):
 YE P (⟨sL,hP⟩:St) o (· =(Wc kv k).getD z) (.val ((Wc kv k).getD z)):= .exact fun M F a w H=>by
 have hv:=(H.ev hx).1
 have hkv:=(H.ev hy).1
 obtain ⟨b,es,clock,rfl,rfl,h,_⟩:=(H.tr l _ _ hl).map
 exact ⟨.val _,by simp [execOp,ho,hv,hkv,LZ hT false h hk]⟩
theorem Zc8 {t ks e:Nat} {kd:TypeDesc} {z:Value} {x y:Operand} {m k:Value} {kv:List (Value×Value)} {p q:PV} (l:Nat) (hT:MpT P t ks e kd z) (ho:o.op= .lookup t x y true) (hx:ev sL x=some (m,p)) (hl:lk hP l=some (m, .omap kv)) (hy:ev sL y=some (k,q)) (hk:kok kd k kv):
 YE P (⟨sL,hP⟩:St) o (· = .tuple [(Wc kv k).getD z, .bool (Wc kv k).isSome].toArray) (.tup [.val ((Wc kv k).getD z), .val (.bool (Wc kv k).isSome)]):= .exact fun M F a w H=>by
 have hv:=(H.ev hx).1
 have hkv:=(H.ev hy).1
 obtain ⟨b,es,clock,rfl,rfl,h,_⟩:=(H.tr l _ _ hl).map
 refine ⟨.tup _ _ rfl fun i x p hx hp=>?_,by simp [execOp,ho,hv,hkv,LZ hT true h hk]⟩
 match i with
 |0=>simp at hx hp;subst hx hp;exact .val _
 |1=>simp at hx hp;subst hx hp;exact .val _
 |i+2=>simp at hx
theorem Zc9 {t ks e:Nat} {kd:TypeDesc} {z u:Value} {x y:Operand} {m k:Value} {kv:List (Value×Value)} {p q:PV} (l:Nat) (hT:MpT P t ks e kd z) (ho:o.op= .lookup t x y false) (hx:ev sL x=some (m,p)) (hl:lk hP l=some (m, .omap kv)) (hy:ev sL y=some (k,q)) (hk:kok kd k kv) (hu:(Wc kv k).getD z=u):
 YE P (⟨sL,hP⟩:St) o (· =u) (.val u):=hu▸Zfc l hT ho hx hl hy hk
theorem Tr.mapW {M:BS} {w:World} {m:Value} {kv:List (Value×Value)} {F:BS} (h:Tr M w m (.omap kv) F):∃b es clock,m= .map (some b)∧kv=kvOf es∧w.heap[b]? =some (.map es clock)∧(∀x,F x↔x=b)∧WfM es clock:=by
 cases h with
 |shr h _=>cases h
 |omap b es clock h hF hW=>exact ⟨b,es,clock,rfl,rfl,h,hF,hW⟩
theorem ZbH {es:Array MapEntry} {clock:Nat} {k v:Value} (h:WfM es clock):WfM (es.push {key:=k,val:=v,born:=clock}) (clock+1):=by
 refine ⟨fun x hx=>?_,?_⟩
 · rw [Array.toList_push,Xz,XB] at hx;rcases hx with hx|rfl
   · have:=h.1 x hx;omega
   · exact Nat.lt_succ_self _
 · rw [Array.toList_push,X1,VF];refine ⟨h.2,sM,fun a ha b hb=>?_⟩;rw [Xk,Vi,XB] at hb;obtain ⟨x,hx,rfl⟩:=Xr.1 ha;have:=h.1 x hx;dsimp only at hb;omega
theorem Hu {es:Array MapEntry} {clock j:Nat} (f:MapEntry→MapEntry) (hf:∀e,(f e).born=e.born) (h:WfM es clock):WfM (es.modify j f) clock:=by
 have e:(es.modify j f).toList.map (·.born)=es.toList.map (·.born):=by
  rw [Ue];have:∀(l:List MapEntry) (j:Nat),(l.modify j f).map (·.born)=l.map (·.born):=fun l=>by
   induction l with
   |nil=>intro j;simp
   | cons a l ih=>intro j;cases j with
     |zero=>simp [hf]
     |succ j=>rw [Uf,Xk,Xk,ih]
  exact this _ _
 refine ⟨fun x hx=>?_,e▸h.2⟩
 have h1:x.born∈es.toList.map (·.born):=e▸Xr.2 ⟨x,hx,rfl⟩
 obtain ⟨y,hy,hxy⟩:=Xr.1 h1
 have:=h.1 y hy
 omega
theorem S2 (es:Array MapEntry):(kvOf es).length=es.size:=by simp [kvOf]
theorem Zfd {t ks e:Nat} {x:Operand} {m:Value} {kv:List (Value×Value)} (ht:P.underlying t=some (.map ks e)) (ho:o.op= .call {callee:= .builtin .len,args:= #[x],argTypes:= #[t]}) (hx:ev sL x=some (m, .smap kv)):YE P (⟨sL,hP⟩:St) o (· = .int .i64 kv.length) (.val (.int .i64 kv.length)):= .exact fun M F a w H=>by
 obtain ⟨hv,hs⟩:=H.ev hx
 cases hs with
 |smap b es clock hM h=>exact ⟨.val _,by simp [execOp,ho,hv,resolve,invoke,builtin,Builtin.len_,run_underlying ht,getObj,Sem.run,h,goInt,S2]⟩
theorem Zfe {t ks e:Nat} {x:Operand} {m:Value} {kv:List (Value×Value)} {p:PV} (l:Nat) (ht:P.underlying t=some (.map ks e)) (ho:o.op= .call {callee:= .builtin .len,args:= #[x],argTypes:= #[t]}) (hx:ev sL x=some (m,p)) (hl:lk hP l=some (m, .omap kv)):YE P (⟨sL,hP⟩:St) o (· = .int .i64 kv.length) (.val (.int .i64 kv.length)):= .exact fun M F a w H=>by
 have hv:=(H.ev hx).1
 obtain ⟨b,es,clock,rfl,rfl,h,_⟩:=(H.tr l _ _ hl).map
 exact ⟨.val _,by simp [execOp,ho,hv,resolve,invoke,builtin,Builtin.len_,run_underlying ht,getObj,Sem.run,h,goInt,S2]⟩
theorem Zff {t:Nat} (d:Nat) (hw:ZV ops sL o=some true) (hd:o.dst=some d) (hn:d<c.nt) (ho:o.op= .makeMap t none) (hl:lk hP d=none)
 (k:∀m:Value,m.oneCell'=true→aL P c ops Q rest ⟨put d (m, .val m) sL,put d (m, .omap []) hP⟩):aL P c ops Q (o::rest) (⟨sL,hP⟩:St):=
 YJ hw fun a w F H=>by
  have key:HoldsF c ⟨put d (.map (some w.heap.size), .val (.map (some w.heap.size))) sL,put d (.map (some w.heap.size), .omap []) hP⟩ (fun l'=>if l'=d then (fun b=>b=w.heap.size) else F l') (a.put (some d) (.map (some w.heap.size))) (w.alloc (.map #[] 0)):=by
   refine H.change (fun l'=>l'=d) hn ((Ext.alloc _ _).chg) (fun l' x hne hx'=>?_) (fun l' x b hT hx' hb=>?_) (fun hm l' u q hT hx'=>?_) (fun l1 l2 _ _ _ h1 h2 hne=>UC (h1.trans h2.symm) hne) (fun hm=> .val _)
   · rcases Z2 hx' with ⟨e1,_⟩|⟨_,e1⟩
     · exact UC e1.symm hne
     · exact ⟨e1,by simp [hne]⟩
   · subst hT;simp only [if_true] at hb;exact .inr (by rw [hb];exact Xc _)
   · subst hT;rw [ZK] at hx'
     cases hx';simp only [if_true];refine .omap w.heap.size #[] 0 ?_ (fun x=>Iff.rfl) ⟨sM,sM⟩;show (w.heap.push _)[w.heap.size]? =_;simp
  unfold Oper.wp execOp;simp [ho,Instr.makeMap,newObj,Sem.run,hd,Oper.upon];exact k _ rfl _ _ ⟨_,key⟩
theorem Zda {es:Array MapEntry} {k v:Value}:∀{j:Nat},Lu (kvOf es) k=some j→kvOf (es.modify j fun e=>{e with key:=k,val:=v})=Lr (kvOf es) k v:=by
 have key:∀(l:List MapEntry) (j:Nat),Lu (l.map fun x=>(x.key,x.val)) k=some j→(l.modify j fun e=>{e with key:=k,val:=v}).map (fun x=>(x.key,x.val))=Lr (l.map fun x=>(x.key,x.val)) k v:=by
  intro l;induction l with
  |nil=>intro j h;simp [Lu] at h
  | cons e l ih=>
    intro j h;simp only [Xk,Lu] at h;simp only [Xk,Lr];split at h
    · rename_i hk
      cases h;simp [hk]
    · rename_i hk;rw [XN] at h;obtain ⟨j',h1,rfl⟩:=h;rw [UA hk,Uf,Xk,ih j' h1]
 intro j h
 unfold kvOf at h ⊢
 rw [Ue]
 exact key _ j h
theorem Zhz {es:Array MapEntry} {k v:Value} {clock:Nat} (h:Lu (kvOf es) k=none):kvOf (es.push {key:=k,val:=v,born:=clock})=Lr (kvOf es) k v:=by
 have key:∀kv:List (Value×Value),Lu kv k=none→kv++[(k,v)]=Lr kv k v:=by
  intro kv;induction kv with
  |nil=>intro _;rfl
  | cons x l ih=>
    intro h;simp only [Lu] at h;split at h
    · cases h
    · rename_i hk;rw [Option.map_eq_none_iff] at h;rw [Lr,UA hk,XX,ih h]
 rw [←key _ h]
 simp [kvOf]
def bits:Value→Bool
 | .string _| .int _ _| .bool _=>true
 |_=>false
theorem Zdb {a b:Value} (hb:bits a=true) (h:keq b a=true):Instr.sameBits 10000 a b=true:=by
 have h:=Zhy h
 cases a<;>cases b<;>simp_all [keq,bits,Instr.sameBits]
theorem ZhA {t ks e:Nat} {kd:TypeDesc} {z:Value} {x y u:Operand} {m k v:Value} {kv:List (Value×Value)} {p q r:PV} (l:Nat) (hw:ZV ops sL o=some true) (hd:o.dst=none) (hT:MpT P t ks e kd z) (ho:o.op= .mapUpdate t x y u) (hx:ev sL x=some (m,p)) (hl:lk hP l=some (m, .omap kv)) (hy:ev sL y=some (k,q)) (hu:ev sL u=some (v,r)) (hk:kok kd k kv) (hbits:bits k=true)
 (kk:aL P c ops Q rest ⟨sL,put l (m, .omap (Lr kv k v)) hP⟩):aL P c ops Q (o::rest) (⟨sL,hP⟩:St):=
 YJ hw fun a w F H=>by
  have hxv:=(H.rd.ev hx).1;have hyv:=(H.rd.ev hy).1;have huv:=(H.rd.ev hu).1;obtain ⟨b,es,clock,rfl,rfl,hb,hFb,hWf⟩:=(H.tr l _ _ hl).mapW;have hm:=ZbG (kvOf es) k;have main:∀(es':Array MapEntry) (clock':Nat),WfM es' clock'→kvOf es'=Lr (kvOf es) k v→Holds c ⟨sL,put l (.map (some b), .omap (Lr (kvOf es) k v)) hP⟩ a {w with heap:=w.heap.setIfInBounds b (.map es' clock')}:=fun es' clock' hW' he=>by
   have hlt:=Wr hb;have hch:Chg (fun x=>x=b) w {w with heap:=w.heap.setIfInBounds b (.map es' clock')}:=⟨rfl,rfl,rfl,sM,fun i hi hne=>by
    rw [Ug (fun e=>hne e.symm)]⟩
   refine ⟨F,H.change0 (fun l'=>l'=l) (hch.wid fun x hx=> .inl ⟨l,_,rfl,hl,(hFb x).2 hx⟩) (fun l' x hne hx'=>?_) (fun l' x b' hT' hx' hb'=>?_) (fun hmm l' u q hT' hx'=>?_) (fun l1 l2 _ _ _ h1 h2 hne=>UC (h1.trans h2.symm) hne)⟩
   · rcases Z2 hx' with ⟨e1,_⟩|⟨_,e1⟩
     · exact UC e1.symm hne
     · exact ⟨e1,rfl⟩
   · subst hT';exact .inl ⟨l',_,rfl,hl,hb'⟩
   · subst hT';rw [ZK] at hx'
     cases hx';rw [←he];exact .omap b es' clock' (by simp [hlt]) hFb hW'
  unfold Oper.wp execOp
  cases h1:Lu (kvOf es) k with
  | none=>
    rw [h1] at hm
    cases h2:Wc (kvOf es) k with
    |some v=>rw [h2] at hm;simp at hm
    | none=>
      simp [ho,hxv,hyv,huv,Instr.mapUpdate,run_underlying hT.ht,getObj,setObj,Sem.run,hb,LY hT.hk hT.hkd,J9 hT.hk hk,h1,h2,Oper.upon,hd,Act.put];exact kk _ _ (main _ _ (ZbH hWf) (Zhz h1))
  | some j =>
    rw [h1] at hm
    cases h2:Wc (kvOf es) k with
    |none=>rw [h2] at hm;simp at hm
    | some v0=>
      have hj:∃e0,es[j]? =some e0∧keq k e0.key=true:=by
       have key:∀(l:List MapEntry) (j:Nat),Lu (l.map fun x=>(x.key,x.val)) k=some j→∃e0,l[j]? =some e0∧keq k e0.key=true:=by
        intro l;induction l with
        |nil=>intro j h;simp [Lu] at h
        | cons e l ih=>
          intro j h;simp only [Xk,Lu] at h;split at h
          · rename_i hk;cases h;exact ⟨e,rfl,hk⟩
          · rw [XN] at h;obtain ⟨j',h1,rfl⟩:=h;obtain ⟨e0,h3,h4⟩:=ih j' h1;exact ⟨e0,by simpa using h3,h4⟩
       obtain ⟨e0,h3,h4⟩:=key es.toList j h1;exact ⟨e0,by simpa using h3,h4⟩
      obtain ⟨e0,h3,h4⟩:=hj;have hb0:bits e0.key=true:=by
       cases k<;>simp [bits] at hbits<;>(generalize e0.key=y at h4 ⊢;cases y<;>simp_all [keq,bits])
      have hsb:=Zdb hb0 h4;simp [ho,hxv,hyv,huv,Instr.mapUpdate,run_underlying hT.ht,getObj,setObj,Sem.run,hb,LY hT.hk hT.hkd,J9 hT.hk hk,h1,h2,h3,Instr.keyThatStays,hsb,Oper.upon,hd,Act.put];exact kk _ _ (main _ _ (Hu _ (fun _=>rfl) hWf) (Zda h1))
end
def skv (es:List (ByteArray×Value)):List (Value×Value):=es.map fun x=>(.string x.1,x.2)
def ikv (es:List (Int×Value)):List (Value×Value):=es.map fun x=>(.int .i64 x.1,x.2)
theorem S3 (kd:TypeDesc) (k:Value):kok kd k []:=fun x h=>by simp at h
theorem G6 (s:ByteArray) (es:List (ByteArray×Value)):kok .string (.string s) (skv es):=fun x h=>by
 simp [skv] at h
 obtain ⟨a,b,_,rfl⟩:=h
 rfl
theorem S4 (n:Int) (es:List (Int×Value)):kok (.int .i64) (.int .i64 n) (ikv es):=fun x h=>by
 simp [ikv] at h
 obtain ⟨a,b,_,rfl⟩:=h
 simp [Instr.sameNow,keq]
def Y6 {κ:Type} [DecidableEq κ]:List (κ×Value)→κ→Option Value
 |[],_=>none
 |x::l,k=>if k=x.1 then some x.2 else Y6 l k
def WH {κ:Type} [DecidableEq κ]:List (κ×Value)→κ→Value→List (κ×Value)
 |[],k,v=>[(k,v)]
 |x::l,k,v=>if k=x.1 then (k,v)::l else x::WH l k v
theorem Jr (es:List (ByteArray×Value)) (s:ByteArray):Wc (skv es) (.string s)=Y6 es s:=by
 induction es with
 |nil=>rfl
 | cons x l ih=>
   simp only [skv,Xk,Wc,Y6,keq,Zaq];rw [show List.map (fun x:ByteArray×Value=>(Value.string x.1,x.2)) l=skv l from rfl,ih]
theorem Ty (es:List (ByteArray×Value)) (s:ByteArray) (v:Value):Lr (skv es) (.string s) v=skv (WH es s v):=by
 induction es with
 |nil=>rfl
 | cons x l ih=>
   simp only [skv,Xk,Lr,WH,keq,Zaq];rw [show List.map (fun x:ByteArray×Value=>(Value.string x.1,x.2)) l=skv l from rfl,ih];by_cases h:s=x.1
   · rw [UB h,UB h];rfl
   · rw [UA h,UA h];rfl
theorem Zfg (es:List (Int×Value)) (s:Int):Wc (ikv es) (.int .i64 s)=Y6 es s:=by
 induction es with
 |nil=>rfl
 | cons x l ih=>
   simp only [ikv,Xk,Wc,Y6,keq];rw [show List.map (fun x:Int×Value=>(Value.int .i64 x.1,x.2)) l=ikv l from rfl,ih];simp
theorem Zfh (es:List (Int×Value)) (s:Int) (v:Value):Lr (ikv es) (.int .i64 s) v=ikv (WH es s v):=by
 induction es with
 |nil=>rfl
 | cons x l ih=>
   simp only [ikv,Xk,Lr,WH,keq];rw [show List.map (fun x:Int×Value=>(Value.int .i64 x.1,x.2)) l=ikv l from rfl,ih];by_cases h:s=x.1
   · rw [UB h,UB (by simp [h])];rfl
   · rw [UA h,UA (by simp [h])];rfl
section
variable {P:Program} {ops:Array Oper} {Q:Exit→Act→World→Prop} {md:Region.Mode} {C:World→Prop} {Z:Nat→Bool}
def KY (P:Program) (md:Region.Mode) (ops:Array Oper) (Q:Exit→Act→World→Prop) (C:World→Prop) (Z:Nat→Bool):Nat→Array Bool→Act→World→Prop
 |0,listed,a,w=>Region.ready md ops listed=[]∧Q .normal a w
 | fuel+1,listed,a,w=>
   (Region.ready md ops listed=[]→Q .normal a w)∧
   ∀i∈Region.ready md ops listed,wpOp P ops (Hl Q) i (fun a' w'=>(Z i=true∨C w')∧KY P md ops Q C Z fuel (listed.setIfInBounds i true) a' w') a w
theorem OD:∀(fuel:Nat) (listed:Array Bool) (a:Act) (w:World),KY P md ops Q C Z fuel listed a w→wpAny P md ops Q fuel listed a w
 |0,_,_,_,h=>h
 |fuel+1,_,_,_,h=>⟨h.1,fun i hi=>Zae (wpOp_mono (fun a' w' h'=>OD fuel _ a' w' h'.2) (h.2 i hi))⟩
def SA (md:Region.Mode) (ops:Array Oper) (Z:Nat→Bool) (i:Nat):Bool:=(List.range ops.size).all fun z=> !Z z||Ck md ops z i
theorem S5 {i:Nat} {oi:Oper} {v:Value} (hi:ops[i]? =some oi) (hz:SA md ops Z i=true)
 (hsel:∀(j:Nat) (o:Oper) cs b,ops[j]? =some o→o.op≠ .select cs b):
 ∀ (fuel:Nat) (listed:Array Bool) (a:Act) (w:World),
  (∀j oj,ops[j]? =some oj→j≠i→listed.getD j true=false→(∀e∈oj.after,Region.binds md e=true→e.on≠i)→oi.apart ops oj=true)→
  i∈Region.ready md ops listed→YieldsC P ops C oi v a→C w→
  KY P md ops Q C Z fuel (listed.setIfInBounds i true) (a.put oi.dst v) w→KY P md ops Q C Z (fuel+1) listed a w:=by
 intro fuel
 induction fuel with
 | zero=>
   intro listed a w _ hr hy hC H;refine ⟨fun h=>(by rw [h] at hr;cases hr),fun j hj=>?_⟩;by_cases hji:j=i
   · subst hji;exact YieldsIf.wpOp hi hy.ifS hC ⟨.inr hC,H⟩
   · have:=ready_mono hj hji;rw [H.1] at this
     cases this
 | succ fuel ih=>
   intro listed a w hfree hr hy hC H;refine ⟨fun h=>(by rw [h] at hr;cases hr),fun j hj=>?_⟩;by_cases hji:j=i
   · subst hji;exact YieldsIf.wpOp hi hy.ifS hC ⟨.inr hC,H⟩
   · have h1:=H.2 j (ready_mono hj hji);obtain ⟨hjun,oj,hoj,hall⟩:=mem_ready.1 hj;have hnot:∀e∈oj.after,Region.binds md e=true→e.on≠i:=fun e he hb heq=>by
      have h1:=hall e he hb;have h0:=(mem_ready.1 hr).1;rw [heq] at h1;rcases Xv i listed.size with h'|h'
      · simp [h'] at h0 h1;rw [h0] at h1;cases h1
      · simp [Vd h'] at h1
     have hjz:Z j=false:=by
      cases hZ:Z j
      · rfl
      · exfalso;have hjs:j<ops.size:=by
         rcases Xv j ops.size with h'|h'
         · exact h'
         · rw [Vd h'] at hoj;cases hoj
        have:=Xj.1 hz j (XV.2 hjs);rw [hZ] at this;simp only [Bool.not_true,V9] at this;unfold Ck at this;rw [hoj] at this;obtain ⟨e,he,hb⟩:=Array.any_eq_true'.1 this;simp only [Xe,beq_iff_eq] at hb;exact hnot e he hb.1 hb.2
     have h2:=wpOp_putIf hoj (hfree j oj hoj hji hjun hnot) (fun cs b=>hsel i oi cs b hi) (fun cs b=>hsel j oj cs b hoj) (fun c a w h=>h) hy.ifS h1;have hfree':∀k ok,ops[k]? =some ok→k≠i→(listed.setIfInBounds j true).getD k true=false→
      (∀e∈ok.after,Region.binds md e=true→e.on≠i)→oi.apart ops ok=true:=fun k ok hk hki hun hno=>by
      refine hfree k ok hk hki ?_ hno;by_cases hjk:j=k
      · subst hjk;exact hjun
      · rw [getD_set_ne true hjk] at hun;exact hun
     refine wpOp_mono (fun a' w' h3=>?_) h2;obtain ⟨hy',hor,hK⟩:=h3;have hC':C w':=by
      rcases hor with h|h
      · rw [hjz] at h;cases h
      · exact h
     refine ⟨.inr hC',ih (listed.setIfInBounds j true) a' w' hfree' (ready_mono hr (Ne.symm hji)) hy' hC' ?_⟩;rw [Array.setIfInBounds_comm _ _ hji];exact hK
end
def KV (K:List Nat):List (Nat×Ent)→List (Nat×Ent)
 |[]=>[]
 |(k,x)::l=>cond (K.elem k) ((k,x)::KV K l) (KV K l)
def Gk (K:List Nat):List (Nat×Ent)→List (Nat×Ent)
 |[]=>[]
 |(k,x)::l=>cond (K.elem k) (Gk K l) ((k,x)::Gk K l)
theorem Lv {K:List Nat} {t:Nat}:∀{l:List (Nat×Ent)} {x:Ent},lk (KV K l) t=some x↔K.elem t=true∧lk l t=some x
 |[],x=>by simp [KV,lk]
 | (k, y)::l,x=>by
   unfold KV
   cases hk:K.elem k
   · simp only [cond_false,lk];rw [Lv]
     cases hb:Nat.beq k t
     · simp
     · have:k=t:=XJ hb;subst this;rw [hk];simp
   · simp only [cond_true,lk]
     cases hb:Nat.beq k t
     · simp only [cond_false];exact Lv
     · have:k=t:=XJ hb;subst this;rw [hk];simp
theorem KM {K:List Nat} {t:Nat}:∀{l:List (Nat×Ent)} {x:Ent},lk (Gk K l) t=some x↔K.elem t=false∧lk l t=some x
 |[],x=>by simp [Gk,lk]
 | (k, y)::l,x=>by
   unfold Gk
   cases hk:K.elem k
   · simp only [cond_false,lk]
     cases hb:Nat.beq k t
     · simp only [cond_false];exact KM
     · have:k=t:=XJ hb;subst this;rw [hk];simp
   · simp only [cond_true,lk];rw [KM]
     cases hb:Nat.beq k t
     · simp
     · have:k=t:=XJ hb;subst this;rw [hk];simp
theorem Zdc {l m:List (Nat×Ent)} {t:Nat}:lk (l++m) t=match lk l t with|some x=>some x|none=>lk m t:=by
 induction l with
 |nil=>rfl
 | cons y l ih=>
   obtain ⟨k,y⟩:=y;simp only [XX,lk]
   cases Nat.beq k t
   · simp only [cond_false];exact ih
   · rfl
def nK (K:List Nat) (h:List (Nat×Ent)) (F:Nat→BS):BS:=fun b=>∃l x,K.elem l=false∧lk h l=some x∧F l b
def aD (P:Program) (c:Ctx) (ops:Array Oper) (Q:Exit→Act→World→Prop) (Z:Nat→Bool) (K:List Nat) (fuel:Nat) (listed:Array Bool) (st:St):Prop:=
 ∀a w F,HoldsF c st F a w→∀C:World→Prop,(∀W,Chg (nK K st.heap F) w W→C W)→KY P .any ops Q C Z fuel listed a w
section
variable {P:Program} {c:Ctx} {ops:Array Oper} {Q:Exit→Act→World→Prop} {Z:Nat→Bool} {K:List Nat} {fuel:Nat} {listed:Array Bool} {sL hP:List (Nat×Ent)} {o:Oper}
theorem Gw {C C':World→Prop} (h:∀w,C' w→C w):∀(fuel:Nat) (listed:Array Bool) (a:Act) (w:World),KY P .any ops Q C' Z fuel listed a w→KY P .any ops Q C Z fuel listed a w
 |0,_,_,_,H=>H
 |fuel+1,_,_,_,H=>⟨H.1,fun i hi=>wpOp_mono (fun a' w' h'=>⟨h'.1.imp id (h w'),Gw h fuel _ a' w' h'.2⟩) (H.2 i hi)⟩
theorem ZM {id:Nat} {l:List Oper} (Z:Nat→Bool) (K:List Nat) (hm:P.follows .mixedOrders=true) (h:aD P c l.toArray Q Z K l.length (Array.replicate l.length false) (⟨sL,hP⟩:St)):aC P c (.region id l.toArray true) Q (⟨sL,hP⟩:St):=fun a w ⟨F,H⟩=>by
 refine wp_region_any hm (OD (C:=fun _=>True) (Z:=Z) _ _ _ _ ?_)
 have:=h a w.drew F (H.up (Ext.drew w)) (fun _=>True) (fun _ _=>trivial)
 simpa using this
theorem Ym (hr:Region.ready .any ops listed=[]) (h:aN c Q (⟨sL,hP⟩:St)):aD P c ops Q Z K fuel listed (⟨sL,hP⟩:St):=fun a w F H C hC=>by
 cases fuel with
 |zero=>exact ⟨hr,h a w ⟨F,H⟩⟩
 |succ n=>exact ⟨fun _=>h a w ⟨F,H⟩,fun i hi=>by rw [hr] at hi;cases hi⟩
theorem HoldsF.rdK {F:Nat→BS} {a:Act} {w:World} (H:HoldsF c (⟨sL,hP⟩:St) F a w) (K:List Nat):RdF (mof c hP F) ⟨sL,KV K hP⟩ F a w:=⟨fun l v p h=>H.tr l v p (Lv.1 h).2,H.sl⟩
theorem D7 {V:Value→Prop} {p:PV} (i d:Nat) (ho:ops[i]? =some o) (hck:(Region.noSelect ops&&(Region.ready .any ops listed).contains i&&Region.free .any ops listed i&&SA .any ops Z i)=true) (hw:ZV ops sL o=some true) (hd:o.dst=some d) (hn:d<c.nt) (hy:YE P ⟨sL,KV K hP⟩ o V p)
 (k:∀v,V v→aD P c ops Q Z K fuel (listed.setIfInBounds i true) ⟨put d (v,p) sL,hP⟩):aD P c ops Q Z K (fuel+1) listed (⟨sL,hP⟩:St):=fun a w F H C hC=>by
 simp only [Xe] at hck
 obtain ⟨⟨⟨hs,hr⟩,hf⟩,hz⟩:=hck
 obtain ⟨v,hV,hS,hrun⟩:=hy _ F a w (H.rdK K)
 refine Gw hC _ _ _ _ ?_
 refine S5 ho hz (Region.noSelect_spec hs) _ listed a w (Region.free_spec ho hf) (by simpa using hr) (v:=v) (.inl ⟨JK H.rd hw,fun W hW=>?_⟩) (Chg.rfl' _ _) ?_
 · exact hrun _ W hW (fun b ⟨l,x,_,h1,h2⟩=> .inr ⟨l,x,h1,h2⟩) (fun l x b hl hFb ⟨l',x',h1,h2,h3⟩=>by
    obtain ⟨h4,h5⟩:=Lv.1 hl;exact H.dj l l' _ _ b (fun e=>by rw [e,h1] at h4;cases h4) h5 h2 hFb h3)
 · rw [hd];exact k v hV _ w F (H.put hn hS) _ (fun W h=>h)
theorem ZkJ {v:Value} {p:PV} (i d:Nat) (ho:ops[i]? =some o) (hck:(Region.noSelect ops&&(Region.ready .any ops listed).contains i&&Region.free .any ops listed i&&SA .any ops Z i)=true) (hw:ZV ops sL o=some true) (hd:o.dst=some d) (hn:d<c.nt) (hy:YE P ⟨sL,KV K hP⟩ o (· =v) p)
 (k:aD P c ops Q Z K fuel (listed.setIfInBounds i true) ⟨put d (v,p) sL,hP⟩):aD P c ops Q Z K (fuel+1) listed (⟨sL,hP⟩:St):=D7 i d ho hck hw hd hn hy fun u hu=>by cases hu;exact k
theorem Zi0 {V:Value→Prop} {p:PV} (i d:Nat) (ho:ops[i]? =some o) (hr:Region.ready .any ops listed=[i]) (hw:ZV ops sL o=some true) (hd:o.dst=some d) (hn:d<c.nt) (hy:YE P (⟨sL,hP⟩:St) o V p)
 (k:∀v,V v→aD P c ops Q Z K fuel (listed.setIfInBounds i true) ⟨put d (v,p) sL,hP⟩):aD P c ops Q Z K (fuel+1) listed (⟨sL,hP⟩:St):=fun a w F H C hC=>by
 obtain ⟨v,hV,hS,hrun⟩:=hy _ F a w H.rd
 have h1:YieldsC P ops (fun W=>W=w) o v a:= .inl ⟨JK H.rd hw,fun W hW=>by
  subst hW;exact hrun (fun _=>False) W (Chg.rfl' _ _) (fun _ h=>h.elim) (fun _ _ _ _ _ h=>h)⟩
 refine ⟨fun hn=>(by rw [hr] at hn;cases hn),fun j hj=>?_⟩
 rw [hr] at hj
 obtain rfl:j=i:=by simpa using hj
 refine YieldsIf.wpOp ho h1.ifS rfl ⟨.inr (hC w (Chg.rfl' _ _)),?_⟩
 rw [hd]
 exact k v hV _ w F (H.put hn hS) C hC
theorem Zkr {v:Value} {p:PV} (i d:Nat) (ho:ops[i]? =some o) (hr:Region.ready .any ops listed=[i]) (hw:ZV ops sL o=some true) (hd:o.dst=some d) (hn:d<c.nt) (hy:YE P (⟨sL,hP⟩:St) o (· =v) p)
 (k:aD P c ops Q Z K fuel (listed.setIfInBounds i true) ⟨put d (v,p) sL,hP⟩):aD P c ops Q Z K (fuel+1) listed (⟨sL,hP⟩:St):=Zi0 i d ho hr hw hd hn hy fun u hu=>by cases hu;exact k
theorem ZhB (i d:Nat) (ho:ops[i]? =some o) (hck:(Region.noSelect ops&&(Region.ready .any ops listed).contains i&&Region.free .any ops listed i&&SA .any ops Z i)=true) (hw:ZV ops sL o=some false) (hd:o.dst=some d) (hn:d<c.nt)
 (k:aD P c ops Q Z K fuel (listed.setIfInBounds i true) ⟨put d (undef, .val undef) sL,hP⟩):aD P c ops Q Z K (fuel+1) listed (⟨sL,hP⟩:St):=fun a w F H C hC=>by
 simp only [Xe] at hck
 obtain ⟨⟨⟨hs,hr⟩,hf⟩,hz⟩:=hck
 refine Gw hC _ _ _ _ ?_
 refine S5 ho hz (Region.noSelect_spec hs) _ listed a w (Region.free_spec ho hf) (by simpa using hr) (v:=undef) (.inr ⟨JK H.rd hw,rfl⟩) (Chg.rfl' _ _) ?_
 rw [hd]
 exact k _ w F (H.put hn (.val _)) _ (fun W h=>h)
theorem Cx (t:Nat) {b:Bool} {q:PV} (hx:lk sL t=some (.bool b,q)) (ht:b=true→aD P c ops Q Z K fuel listed ⟨put t (.bool true, .val (.bool true)) sL,hP⟩) (hf:b=false→aD P c ops Q Z K fuel listed ⟨put t (.bool false, .val (.bool false)) sL,hP⟩):aD P c ops Q Z K fuel listed (⟨sL,hP⟩:St):=fun a w F H C hC=>by
 have key:HoldsF c ⟨put t (.bool b, .val (.bool b)) sL,hP⟩ F a w:=⟨H.toHeapF,fun s u r hs=>by
  rcases Z2 hs with ⟨rfl,e⟩|⟨_,e⟩
  · cases e;exact ⟨(H.sl _ _ _ hx).1, .val _⟩
  · exact H.sl s u r e,H.size,H.df⟩
 cases b
 · exact hf rfl a w F key C hC
 · exact ht rfl a w F key C hC
theorem HoldsF.frame {F:Nat→BS} {a:Act} {w:World} (H:HoldsF c (⟨sL,hP⟩:St) F a w) (K:List Nat):
 HoldsF ⟨w,fun b=>c.M0 b∨∃l x,K.elem l=true∧lk hP l=some x∧F l b,nK K hP F,c.nt,c.dr,c.df⟩ ⟨sL,Gk K hP⟩ F a w:=by
 have hm:∀b,mof ⟨w,fun b=>c.M0 b∨∃l x,K.elem l=true∧lk hP l=some x∧F l b,nK K hP F,c.nt,c.dr,c.df⟩ (Gk K hP) F b→mof c hP F b:=by
  rintro b ((h|⟨l,x,_,h1,h2⟩)|⟨l,x,h1,h2⟩)
  · exact .inl h
  · exact .inr ⟨l,x,h1,h2⟩
  · exact .inr ⟨l,x,(KM.1 h1).2,h2⟩
 refine ⟨⟨fun l v p h=>(H.tr l v p (KM.1 h).2).anti fun b _=>hm b,fun l x b h hb=> .inr ⟨l,x,(KM.1 h).1,(KM.1 h).2,hb⟩,fun l l' x x' b hne h h'=>H.dj l l' x x' b hne (KM.1 h).2 (KM.1 h').2,?_,Chg.rfl' _ _,fun _=>Xc _⟩,fun t v p h=>⟨(H.sl t v p h).1,(H.sl t v p h).2.anti fun b _=>hm b⟩,H.size,H.df⟩
 refine ⟨?_,fun hn g hg=>?_,fun hn g hg=>?_⟩
 rotate_left
 · obtain ⟨h1,h2,_⟩:=H.mok.tb hn g hg;refine ⟨h1,?_,?_⟩
   · rintro (h|⟨l,x,_,h3,h4⟩)
     · exact h2 (.inl h)
     · exact h2 (.inr ⟨l,x,h3,h4⟩)
   · rintro ⟨l,x,_,h3,h4⟩;exact h2 (.inr ⟨l,x,h3,h4⟩)
 · obtain ⟨h1,h2,_⟩:=H.mok.er hn g hg;refine ⟨h1,?_,?_⟩
   · rintro (h|⟨l,x,_,h3,h4⟩)
     · exact h2 (.inl h)
     · exact h2 (.inr ⟨l,x,h3,h4⟩)
   · rintro ⟨l,x,_,h3,h4⟩;exact h2 (.inr ⟨l,x,h3,h4⟩)
 rintro b (h|⟨l,x,hK,h1,h2⟩)
 · exact ⟨Nat.lt_of_lt_of_le (H.m0.m b h).1 H.ext.size,fun ⟨l,x,_,h1,h2⟩=>H.apart h h1 h2⟩
 · exact ⟨(H.tr l _ _ h1).lt b h2,fun ⟨l',x',hK',h3,h4⟩=>H.dj l l' _ _ b (fun e=>by rw [e,hK'] at hK;cases hK) h1 h3 h2 h4⟩
theorem HoldsF.unframe {F F':Nat→BS} {a a':Act} {w w':World} {st':St} (H:HoldsF c (⟨sL,hP⟩:St) F a w)
 (H':HoldsF ⟨w,fun b=>c.M0 b∨∃l x,K.elem l=true∧lk hP l=some x∧F l b,nK K hP F,c.nt,c.dr,c.df⟩ st' F' a' w'):
 HoldsF c ⟨st'.slots,st'.heap++KV K hP⟩ (fun l=>match lk st'.heap l with|some _=>F' l|none=>F l) a' w'∧Chg (nK K hP F) w w'∧
  (∀b,nK K (st'.heap++KV K hP) (fun l=>match lk st'.heap l with|some _=>F' l|none=>F l) b→nK K hP F b∨w.heap.size≤b):=by
 have hlook:∀l x,lk (st'.heap++KV K hP) l=some x→(lk st'.heap l=some x)∨(lk st'.heap l=none∧K.elem l=true∧lk hP l=some x):=fun l x h=>by
  rw [Zdc] at h
  cases h1:lk st'.heap l with
  |some y=>rw [h1] at h;cases h;exact .inl rfl
  |none=>rw [h1] at h;exact .inr ⟨rfl,Lv.1 h⟩
 have hmm:∀b,mof c (st'.heap++KV K hP) (fun l=>match lk st'.heap l with|some _=>F' l|none=>F l) b→mof ⟨w,fun b=>c.M0 b∨∃l x,K.elem l=true∧lk hP l=some x∧F l b,nK K hP F,c.nt,c.dr,c.df⟩ st'.heap F' b:=by
  rintro b (h|⟨l,x,h1,h2⟩)
  · exact .inl (.inl h)
  · rcases hlook l x h1 with h3|⟨h3,h4,h5⟩
    · simp only [h3] at h2;exact .inr ⟨l,x,h3,h2⟩
    · simp only [h3] at h2;exact .inl (.inr ⟨l,x,h4,h5,h2⟩)
 have hch:Chg (nK K hP F) w w':=H'.ext
 have hKN:∀l x b,K.elem l=true→lk hP l=some x→F l b→¬nK K hP F b:=fun l x b hK hl hb ⟨l',x',hK',h3,h4⟩=>H.dj l l' _ _ b (fun e=>by rw [e,hK'] at hK;cases hK) hl h3 hb h4
 have hapart:∀l x l' x' b,K.elem l=true→lk hP l=some x→F l b→lk st'.heap l'=some x'→¬F' l' b:=fun l x l' x' b hK hl hb hl' hb'=>by
  exact H'.apart (.inr ⟨l,x,hK,hl,hb⟩) hl' hb'
 refine ⟨⟨⟨fun l v p h=>?_,fun l x b h hb=>?_,fun l l' x x' b hne h h' hb hb'=>?_,H.m0,?_,fun h=>XG (H.dw h) (H'.dw h)⟩,fun t v p h=>⟨(H'.sl t v p h).1,(H'.sl t v p h).2.anti fun b _=>hmm b⟩,H'.size,H'.df⟩,hch,?_⟩
 · rcases hlook l _ h with h1|⟨h1,h2,h3⟩
   · simp only [h1];exact (H'.tr l v p h1).anti fun b _=>hmm b
   · simp only [h1];refine (H.tr l v p h3).to hch (fun b hlt hb=>?_) (fun b _ ⟨l',x',_,h4,h5⟩=> .inr ⟨l',x',h4,h5⟩) (fun b hb=>hKN l _ b h2 h3 hb);rcases hmm b hb with (h|⟨l',x',_,h4,h5⟩)|⟨l',x',h4,h5⟩
     · exact .inl h
     · exact .inr ⟨l',x',h4,h5⟩
     · rcases H'.lo l' x' b h4 h5 with h6|⟨l2,x2,_,h7,h8⟩
       · exact UC hlt (by simp only at h6;omega)
       · exact .inr ⟨l2,x2,h7,h8⟩
 · rcases hlook l _ h with h1|⟨h1,h2,h3⟩
   · simp only [h1] at hb;rcases H'.lo l x b h1 hb with h4|⟨l2,x2,_,h7,h8⟩
     · exact .inl (XG H.ext.size h4)
     · exact H.lo l2 x2 b h7 h8
   · simp only [h1] at hb;exact H.lo l x b h3 hb
 · rcases hlook l _ h with h1|⟨h1,h2,h3⟩
   · rcases hlook l' _ h' with k1|⟨k1,k2,k3⟩
     · simp only [h1] at hb;simp only [k1] at hb';exact H'.dj l l' x x' b hne h1 k1 hb hb'
     · simp only [h1] at hb;simp only [k1] at hb';exact hapart l' _ l _ b k2 k3 hb' h1 hb
   · rcases hlook l' _ h' with k1|⟨k1,k2,k3⟩
     · simp only [h1] at hb;simp only [k1] at hb';exact hapart l _ l' _ b h2 h3 hb k1 hb'
     · simp only [h1] at hb;simp only [k1] at hb';exact H.dj l l' x x' b hne h3 k3 hb hb'
 · exact H.ext.tr hch fun b ⟨l,x,_,h1,h2⟩=>(H.lo l x b h1 h2).symm
 · rintro b ⟨l,x,hK,h1,h2⟩;rcases hlook l _ h1 with h3|⟨h3,h4,h5⟩
   · simp only [h3] at h2;rcases H'.lo l x b h3 h2 with h4|h4
     · exact .inr h4
     · exact .inl h4
   · rw [hK] at h4;cases h4
def aW (P:Program) (c:Ctx) (ops:Array Oper) (Q:Exit→Act→World→Prop) (Z:Nat→Bool) (K:List Nat) (fuel:Nat) (listed:Array Bool) (st:St) (i:Nat):Prop:=
 ∀a w F,HoldsF c st F a w→∀C:World→Prop,(∀W,Chg (nK K st.heap F) w W→C W)→wpOp P ops (Hl Q) i (fun a' w'=>(Z i=true∨C w')∧KY P .any ops Q C Z fuel (listed.setIfInBounds i true) a' w') a w
theorem Zk (i:Nat) (hr:Region.ready .any ops listed=[i]) (h:aW P c ops Q Z K fuel listed (⟨sL,hP⟩:St) i):aD P c ops Q Z K (fuel+1) listed (⟨sL,hP⟩:St):=fun a w F H C hC=>
 ⟨(fun hn=>by rw [hr] at hn;cases hn),fun j hj=>by
   rw [hr] at hj;obtain rfl:j=i:=by simpa using hj
   exact h a w F H C hC⟩
theorem YU (i j:Nat) (hr:Region.ready .any ops listed=[i,j]) (h:aW P c ops Q Z K fuel listed (⟨sL,hP⟩:St) i) (h':aW P c ops Q Z K fuel listed (⟨sL,hP⟩:St) j):aD P c ops Q Z K (fuel+1) listed (⟨sL,hP⟩:St):=fun a w F H C hC=>
 ⟨(fun hn=>by rw [hr] at hn;cases hn),fun m hm=>by
   rw [hr] at hm;rcases (by simpa using hm:m=i∨m=j) with rfl|rfl
   · exact h a w F H C hC
   · exact h' a w F H C hC⟩
theorem Zg {i:Nat} (ho:ops[i]? =some o)
 (h:∀(w':World) (M' N':BS) (DQ:Exit→Act→World→Prop),(∀st':St,aD P c ops Q Z K fuel (listed.setIfInBounds i true) ⟨st'.slots,st'.heap++KV K hP⟩→aN ⟨w',M',N',c.nt,c.dr,c.df⟩ DQ st')→aL P ⟨w',M',N',c.nt,c.dr,c.df⟩ ops DQ [o] ⟨sL,Gk K hP⟩):aW P c ops Q Z K fuel listed (⟨sL,hP⟩:St) i:=fun a w F H C hC=>by
 refine Jn (Q':=fun _ a' w'=>(Z i=true∨C w')∧KY P .any ops Q C Z fuel (listed.setIfInBounds i true) a' w') ho (fun a' w' hq=>hq) ?_
 refine h w _ _ _ (fun st' hD a' w' ⟨F',H'⟩=>?_) a w ⟨F,H.frame K⟩
 obtain ⟨H2,hch,hnk⟩:=H.unframe H'
 refine ⟨.inr (hC w' hch),hD a' w' _ H2 C fun W hW=>hC W (hch.tr hW hnk)⟩
theorem W8 {i:Nat} (ho:ops[i]? =some o) (hZ:Z i=true) (hr:Region.ready .any ops (listed.setIfInBounds i true)=[]) (h:∀DQ:Exit→Act→World→Prop,(∀st':St,aN c Q st'→aN c DQ st')→aL P c ops DQ [o] (⟨sL,hP⟩:St)):aW P c ops Q Z K fuel listed (⟨sL,hP⟩:St) i:=fun a w F H C hC=>by
 refine Jn (Q':=fun _ a' w'=>(Z i=true∨C w')∧KY P .any ops Q C Z fuel (listed.setIfInBounds i true) a' w') ho (fun a' w' hq=>hq) ?_
 refine h _ (fun st' hN a' w' H'=>⟨.inl hZ,?_⟩) a w ⟨F,H⟩
 cases fuel with
 |zero=>exact ⟨hr,hN a' w' H'⟩
 |succ n=>exact ⟨fun _=>hN a' w' H',fun i hi=>by rw [hr] at hi;cases hi⟩
end
section
variable {P:Program} {c:Ctx} {ops:Array Oper} {Q:Exit→Act→World→Prop} {rest:List Oper} {sL hP:List (Nat×Ent)} {o:Oper}
theorem Z5 {l:Nat} {x:Ent} (l':Nat) (hl:lk hP l=some x) (hl':lk (del l hP) l'=none):J4 (⟨sL,hP⟩:St) (fun _:Unit=>⟨sL,put l' x (del l hP)⟩):=fun c a w ⟨F,H⟩=>by
 refine ⟨(),fun t=>if t=l' then F l else F t,?_⟩
 obtain ⟨v,p⟩:=x
 have aux:∀t y,(t=l∨t=l')→lk (put l' (v,p) (del l hP)) t=some y→t=l'∧y=(v,p):=fun t y ht hy=>by
  rcases Z2 hy with ⟨e1,e2⟩|⟨n1,e2⟩
  · exact ⟨e1.symm,e2.symm⟩
  · rcases ht with h|h
    · exact UC h.symm (Yx e2).1
    · exact UC h.symm n1
 refine H.retell (fun t=>t=l∨t=l') (fun t y hnT hy=>?_) (fun t y b hT hy hb=>?_) (fun hm t u q hT hy=>?_) (fun t1 t2 y1 y2 b h1 h2 hne hy1 hy2=>UC ((aux t1 y1 h1 hy1).1.trans (aux t2 y2 h2 hy2).1.symm) hne)
 · have n2:t≠l':=fun e=>hnT (.inr e);rw [Z0 (Ne.symm n2)] at hy;exact ⟨(Yx hy).2,by simp [n2]⟩
 · obtain ⟨rfl,_⟩:=aux t y hT hy;simp only [if_true] at hb;exact ⟨l,_, .inl rfl,hl,hb⟩
 · obtain ⟨rfl,e⟩:=aux t _ hT hy
   cases e;simp only [if_true];exact (H.tr l v p hl).anti hm
def ZbI (p p':PV):Prop:=p'=p∨(p= .val (.slice none 0 0)∧∃e k,p'= .own e k 0 [])
theorem S6 {l e k n:Nat} {h:Value} {cs:List PV} (cs':List PV) (hl:lk hP l=some (h, .own e k n cs)) (hlen:cs'.length=cs.length) (hc:∀(i:Nat) (p p':PV),cs[i]? =some p→cs'[i]? =some p'→ZbI p p'):J4 (⟨sL,hP⟩:St) (fun _:Unit=>⟨sL,put l (h, .own e k n cs') hP⟩):=fun c a w ⟨F,H⟩=>by
 refine ⟨(),F,?_⟩
 have hTr:=H.tr l _ _ hl
 obtain ⟨xs,Fs,hrow,hxl,hT,hd,hb,hF⟩:=hTr.row
 refine H.retell (fun t=>t=l) (fun t y hnT hy=>?_) (fun t y b hT' hy hb'=>?_) (fun hm t u q hT' hy=>?_) (fun t1 t2 _ _ _ h1 h2 hne=>UC (h1.trans h2.symm) hne)
 · have n2:t≠l:=hnT;rw [Z0 (Ne.symm n2)] at hy;exact ⟨hy,rfl⟩
 · subst hT';exact ⟨t,_,rfl,hl,hb'⟩
 · subst hT';rw [ZK] at hy
   cases hy;refine .own xs Fs hrow oM (fun i x p' hx hp'=>?_) (fun i j b hi hj=>hd i j b oM oM) (fun i b hi=>hb i b oM) (fun b=>by rw [hF b,hlen]);obtain ⟨p,hp⟩:=Yl hp' hlen;have hTi:=(hT i x p hx hp).anti hm;rcases hc i p p' hp hp' with rfl|⟨rfl,e',k',rfl⟩
   · exact hTi
   · have hFi:∀b,¬Fs i b:=by
      cases hTi with
      |shr _ hF=>exact hF
     have hx0:x= .slice none 0 0:=(hTi.sh rfl).vOf;subst hx0;exact .own [] (fun _ _=>False) (World.ownsRow_nil _ _ _ _) rfl sM sM sM (fun b=>by simp [Value.ownBlock];exact hFi b)
theorem Zdd (X:List PV) (a:PV) (e k:Nat):∀(i:Nat) (p p':PV),(X++[a, .val (.slice none 0 0)])[i]? =some p→(X++[a, .own e k 0 []])[i]? =some p'→ZbI p p':=fun i p p' h1 h2=>by
 rcases Xv i X.length with hi|hi
 · rw [X5 hi] at h1 h2;rw [h1] at h2;cases h2;exact .inl rfl
 · rw [Vh hi] at h1 h2;match h:i-X.length,h1,h2 with
   |0,h1,h2=>simp at h1 h2;exact .inl (h2.symm.trans h1)
   |1,h1,h2=>simp at h1 h2;exact .inr ⟨h1.symm,e,k,h2.symm⟩
   |j+2,h1,h2=>simp at h1
theorem OE (zs:List Value) (hz:0<zs.length) (n:Nat):(madeCells zs.toArray (n*zs.length)).toList=(List.replicate n zs).flatten:=by
 apply VG
 intro j
 have hl:(List.replicate n zs).flatten.length=n*zs.length:=sM
 by_cases hj:j<n*zs.length
 · have hmod:j % zs.length<zs.length:=Nat.mod_lt _ hz;have hdiv:j / zs.length<n:=by rw [Uh hz];exact hj
   have h1:(madeCells zs.toArray (n*zs.length)).toList[j]? =some (zs[j % zs.length]'hmod):=by
    simp [madeCells,hj,hmod]
   rw [h1];have h2:=WU (f:=fun _:Nat=>zs) (k:=zs.length) (fun _=>rfl) (l:=List.range n) (i:=j / zs.length) (x:=j / zs.length) (by simp [hdiv]) (j:=j % zs.length) hmod;rw [show j / zs.length*zs.length+j % zs.length=j from by rw [Vl];exact VP _ _] at h2;rw [show (List.replicate n zs).flatten=(List.range n).flatMap (fun _=>zs) by
    rw [List.flatMap_def,List.map_const',V3],h2]
   simp [hmod]
 · rw [Vb (by simp [madeCells];omega),Vb oM]
theorem Zfi {t e kk bytes:Nat} {z:Value} {x y:Operand} {n:Nat} {q q':PV} (zs:List Value) (d:Nat) (hT:ElT P t e kk bytes z) (hzs:z.cells=zs.toArray) (hw:ZV ops sL o=some true) (hd:o.dst=some d) (hn:d<c.nt) (ho:o.op= .makeSlice t x y) (hx:ev sL x=some (.int .i64 n,q)) (hy:ev sL y=some (.int .i64 n,q')) (hl:lk hP d=none)
 (hb:bytes*n≤281474976710656) (hn2:n≤9223372036854775807)
 (k:∀h:Value,h.oneCell'=true→aL P c ops Q rest ⟨put d (h, .val h) sL,put d (h, .own e kk n ((List.replicate n (zs.map PV.val)).flatten)) hP⟩):aL P c ops Q (o::rest) (⟨sL,hP⟩:St):=
 YJ hw fun a w F H=>by
  obtain ⟨i,hi1,hi2,hi3,hi4⟩:=hT.info;have hzl:zs.length=kk:=by have:=hT.hz;rw [hzs] at this;simpa using this
  have hk0:=hT.hk;have hbn:((i.bytes:Nat):Int)*(n:Int)≤281474976710656:=by rw [hi4,←Int.natCast_mul];omega
  have hr:=run_make (P:=P) w t e i z hT.ht hi1 hi2 .i64 .i64 (n:Int) (n:Int) oM oM hbn oM;rw [hi3,hzs,XL] at hr;have hmc:=OE zs oM n;rw [hzl] at hmc;obtain ⟨F',H'⟩:=Wx (e:=e) (k:=kk) (n:=n) (cap:=n) (cur:=madeCells zs.toArray (n*kk)) (v:= .slice (some ⟨w.heap.size,0,none⟩) n n) H hl hn (vs:=(List.replicate n zs).flatten) (ps:=(List.replicate n (zs.map PV.val)).flatten) sM (fun j u p hu hp=>by
   have:(List.replicate n (zs.map PV.val)).flatten=((List.replicate n zs).flatten).map PV.val:=by simp [List.map_flatten]
   rw [this,Xm,hu] at hp;simp at hp;subst hp;exact .val _) (by simp [hzl]) (Xc _) (by unfold maxLen;omega) (by rw [size_madeCells]) (by rw [hmc];exact Xy (by simp [hzl]))
  unfold Oper.wp execOp;simp only [ho,(H.rd.ev hx).1,(H.rd.ev hy).1,Sem.run_bind,hr,Result.andThen_ok];simp only [Sem.run_pure,Oper.upon,hd];exact k _ rfl _ _ ⟨F',H'⟩
theorem Hv {l e k:Nat} {h:Value} {p q:PV} (hl:lk hP l=some (h, .own e k 1 [p])) (hq:share p=q):Sr (⟨sL,hP⟩:St) (padd (sbase h) 0) (.sptr 0 [q]):=by
 have:=Hq (sL:=sL) (j:=0) hl X8
 simpa [Yt,hq] using this
theorem Zde {f l1 e1 k1 l2 e2 k2:Nat} {h1 h2:Value} {p1 q1 p2 q2:PV} (hl1:lk hP l1=some (h1, .own e1 k1 1 [p1])) (hq1:share p1=q1) (hl2:lk hP l2=some (h2, .own e2 k2 1 [p2])) (hq2:share p2=q2):
 Sr (⟨sL,hP⟩:St) (.func (.func f) #[] [padd (sbase h1) 0,padd (sbase h2) 0].toArray) (.fn f [.sptr 0 [q1], .sptr 0 [q2]]):=
 Ze8 rfl fun i v p hv hp=>by
  match i with
  |0=>simp at hv hp;subst hv hp;exact Hv hl1 hq1
  |1=>simp at hv hp;subst hv hp;exact Hv hl2 hq2
  |i+2=>simp at hv
theorem Js {ι:Type} {x y:Code} (S:ι→St) (h:aC P c x (Exit.then (fun a w=>∃i,Holds c (S i) a w) Q) (⟨sL,hP⟩:St)) (k:∀i,aC P c y Q (S i)):aC P c x (Exit.then (y.wp P Q) Q) (⟨sL,hP⟩:St):=fun a w H=>
 wp_mono (h a w H) fun e a' w' hq=>by
  cases e with
  |normal=>obtain ⟨i,hi⟩:=hq;exact k i a' w' hi
  |_=>exact hq
theorem K4 {t j e kk n:Nat} {x y:Operand} {h v:Value} {q p:PV} {cs:List PV} (l i:Nat) (hw:ZV ops sL o=some true) (hd:o.dst=none) (hT:NoAgg P t=true) (hsz:(P.info? t).map (·.size)=some 1) (ho:o.op= .store t x y)
 (hx:ev sL x=some (padd (sbase h) j,q)) (hy:ev sL y=some (v,p)) (h1:one p=true) (hl:lk hP l=some (h, .own e kk n cs)) (hji:j=i) (hj:i<cs.length)
 (k:aL P c ops Q rest ⟨sL,put l (h, .own e kk n (cs.set i p)) hP⟩):aL P c ops Q (o::rest) (⟨sL,hP⟩:St):=by
 subst hji
 exact Zah l hw hd hT hsz ho hx hy h1 hl hj k
theorem Gl {l l' j e k n:Nat} {h:Value} {cs:List PV} {p:PV} (hl:lk hP l=some (h, .own e k n cs)) (hp:cs[j]? =some p) (hl':lk hP l'=none) (hok:JL p=true):
 J4 (⟨sL,hP⟩:St) (fun v:{v:Value//v.oneCell'=true}=>⟨sL,put l' (v.1,p) (put l (h, .own e k n (cs.set j (.val v.1))) hP)⟩):=fun c a w H=>by
 obtain ⟨v,F,H'⟩:=focus hl hp hl' c a w H
 exact ⟨⟨v,(H'.tr l' v p (ZK _ _ _)).cellOne hok⟩,F,H'⟩
end
theorem nav {A B:Prop} (h:B) (e:B→A:=by intro h;(repeat (first|with_reducible refine EC ?_|with_reducible refine SS ?_|with_reducible refine Ob ?_|with_reducible refine SU ?_|with_reducible refine P' ?_|with_reducible refine Oa ?_|with_reducible refine Oc ?_|with_reducible refine SV ?_|with_reducible refine SX rfl ?_|with_reducible refine ED ?_|with_reducible refine Od ?_|with_reducible refine SY ?_));exact h):A:=e h
theorem Zd {A B:Prop} (h:B) (e:B→A:=by intro h;(repeat (first|with_reducible refine EC ?_|with_reducible refine SS ?_|with_reducible refine Ob ?_|with_reducible refine SU ?_|with_reducible refine P' ?_|with_reducible refine Oa ?_|with_reducible refine Oc ?_|with_reducible refine SV ?_|with_reducible refine SX rfl ?_|with_reducible refine ED ?_|with_reducible refine Od ?_|with_reducible refine SY ?_));refine Zo ?_;exact h):A:=e h
theorem Zi {A B:Prop} (h:B) (e:B→A:=by intro h;refine Ze ?_;(repeat (first|with_reducible refine EC ?_|with_reducible refine SS ?_|with_reducible refine Ob ?_|with_reducible refine SU ?_|with_reducible refine P' ?_|with_reducible refine Oa ?_|with_reducible refine Oc ?_|with_reducible refine SV ?_|with_reducible refine SX rfl ?_|with_reducible refine ED ?_|with_reducible refine Od ?_|with_reducible refine SY ?_));(try dsimp only);refine Zo ?_;exact h):A:=e h
theorem Zc {A B:Prop} (h:B) (e:B→A:=by intro h;refine Ze ?_;(repeat (first|with_reducible refine EC ?_|with_reducible refine SS ?_|with_reducible refine Ob ?_|with_reducible refine SU ?_|with_reducible refine P' ?_|with_reducible refine Oa ?_|with_reducible refine Oc ?_|with_reducible refine SV ?_|with_reducible refine SX rfl ?_|with_reducible refine ED ?_|with_reducible refine Od ?_|with_reducible refine SY ?_));(try dsimp only);exact h):A:=e h
section
variable {P:Program} {c:Ctx} {ops:Array Oper} {Q:Exit→Act→World→Prop} {rest:List Oper} {st:St} {sL hP:List (Nat×Ent)} {o:Oper} {x y:Operand} {t t':TypeId} {q q':PV} {Z:Nat→Bool} {K:List Nat} {fuel:Nat} {listed:Array Bool}
theorem xL {v:Value} {p:PV} (d:Nat) (hy:YE P (⟨sL,hP⟩:St) o (· =v) p) (k:aL P c ops Q rest ⟨put d (v,p) sL,hP⟩) (hw:ZV ops sL o=some true:=by exact rfl) (hd:o.dst=some d:=by exact rfl) (hn:d<c.nt:=by exact Xa rfl):aL P c ops Q (o::rest) (⟨sL,hP⟩:St):=
 ZkH d hw hd hn hy k
theorem yL {V:Value→Prop} {p:PV} (d:Nat) (hy:YE P (⟨sL,hP⟩:St) o V p) (k:∀v,V v→aL P c ops Q rest ⟨put d (v,p) sL,hP⟩) (hw:ZV ops sL o=some true:=by exact rfl) (hd:o.dst=some d:=by exact rfl) (hn:d<c.nt:=by exact Xa rfl):aL P c ops Q (o::rest) (⟨sL,hP⟩:St):=
 Oy d hw hd hn hy k
theorem kL (d:Nat) (k:aL P c ops Q rest ⟨put d (undef, .val undef) sL,hP⟩) (hw:ZV ops sL o=some false:=by exact rfl) (hd:o.dst=some d:=by exact rfl) (hn:d<c.nt:=by exact Xa rfl):aL P c ops Q (o::rest) (⟨sL,hP⟩:St):=
 Zho d hw hd hn k
theorem bL {l:List Oper} {b:Bool} {q:PV} (t:Nat) (ht:b=true→aL P c ops Q l ⟨put t (.bool true, .val (.bool true)) sL,hP⟩) (hf:b=false→aL P c ops Q l ⟨put t (.bool false, .val (.bool false)) sL,hP⟩) (hx:lk sL t=some (.bool b,q):=by exact rfl):aL P c ops Q l (⟨sL,hP⟩:St):=
 Cn t hx ht hf
theorem xD {v:Value} {p:PV} (i:Nat) (d:Nat) (ho:ops[i]? =some o) (hy:YE P ⟨sL,KV K hP⟩ o (· =v) p) (k:aD P c ops Q Z K fuel (listed.setIfInBounds i true) ⟨put d (v,p) sL,hP⟩) (hck:(Region.noSelect ops&&(Region.ready .any ops listed).contains i&&Region.free .any ops listed i&&SA .any ops Z i)=true:=by kernel_rfl) (hw:ZV ops sL o=some true:=by exact rfl) (hd:o.dst=some d:=by exact rfl) (hn:d<c.nt:=by exact Xa rfl):aD P c ops Q Z K (fuel+1) listed (⟨sL,hP⟩:St):=
 ZkJ i d ho hck hw hd hn hy k
theorem yD {V:Value→Prop} {p:PV} (i:Nat) (d:Nat) (ho:ops[i]? =some o) (hy:YE P ⟨sL,KV K hP⟩ o V p) (k:∀v,V v→aD P c ops Q Z K fuel (listed.setIfInBounds i true) ⟨put d (v,p) sL,hP⟩) (hck:(Region.noSelect ops&&(Region.ready .any ops listed).contains i&&Region.free .any ops listed i&&SA .any ops Z i)=true:=by kernel_rfl) (hw:ZV ops sL o=some true:=by exact rfl) (hd:o.dst=some d:=by exact rfl) (hn:d<c.nt:=by exact Xa rfl):aD P c ops Q Z K (fuel+1) listed (⟨sL,hP⟩:St):=
 D7 i d ho hck hw hd hn hy k
theorem kD (i:Nat) (d:Nat) (ho:ops[i]? =some o) (k:aD P c ops Q Z K fuel (listed.setIfInBounds i true) ⟨put d (undef, .val undef) sL,hP⟩) (hck:(Region.noSelect ops&&(Region.ready .any ops listed).contains i&&Region.free .any ops listed i&&SA .any ops Z i)=true:=by kernel_rfl) (hw:ZV ops sL o=some false:=by exact rfl) (hd:o.dst=some d:=by exact rfl) (hn:d<c.nt:=by exact Xa rfl):aD P c ops Q Z K (fuel+1) listed (⟨sL,hP⟩:St):=
 ZhB i d ho hck hw hd hn k
theorem xE {v:Value} {p:PV} (i:Nat) (d:Nat) (ho:ops[i]? =some o) (hy:YE P (⟨sL,hP⟩:St) o (· =v) p) (k:aD P c ops Q Z K fuel (listed.setIfInBounds i true) ⟨put d (v,p) sL,hP⟩) (hr:Region.ready .any ops listed=[i]:=by kernel_rfl) (hw:ZV ops sL o=some true:=by exact rfl) (hd:o.dst=some d:=by exact rfl) (hn:d<c.nt:=by exact Xa rfl):aD P c ops Q Z K (fuel+1) listed (⟨sL,hP⟩:St):=
 Zkr i d ho hr hw hd hn hy k
theorem yE {V:Value→Prop} {p:PV} (i:Nat) (d:Nat) (ho:ops[i]? =some o) (hy:YE P (⟨sL,hP⟩:St) o V p) (k:∀v,V v→aD P c ops Q Z K fuel (listed.setIfInBounds i true) ⟨put d (v,p) sL,hP⟩) (hr:Region.ready .any ops listed=[i]:=by kernel_rfl) (hw:ZV ops sL o=some true:=by exact rfl) (hd:o.dst=some d:=by exact rfl) (hn:d<c.nt:=by exact Xa rfl):aD P c ops Q Z K (fuel+1) listed (⟨sL,hP⟩:St):=
 Zi0 i d ho hr hw hd hn hy k
theorem bD {b:Bool} {q:PV} (t:Nat) (ht:b=true→aD P c ops Q Z K fuel listed ⟨put t (.bool true, .val (.bool true)) sL,hP⟩) (hf:b=false→aD P c ops Q Z K fuel listed ⟨put t (.bool false, .val (.bool false)) sL,hP⟩) (hx:lk sL t=some (.bool b,q):=by exact rfl):aD P c ops Q Z K fuel listed (⟨sL,hP⟩:St):=
 Cx t hx ht hf
theorem Za {P:Program} {st:St} {o:Oper} {x:Operand} {v:Value} {p:PV} (ho:o.op= .move x:=by exact rfl) (hx:ev st.slots x=some (v,p):=by exact rfl):YE P st o (· =v) p:=
 Zjc ho hx
theorem Zb {P:Program} {st:St} {o:Oper} {x:Operand} {v:Value} {p:PV} (ho:o.op= .assign x:=by exact rfl) (hx:ev st.slots x=some (v,p):=by exact rfl):YE P st o (· =v) p:=
 Ze4 ho hx
theorem Zt {P:Program} {st:St} {o:Oper} {c x y:Operand} {b:Bool} {q:PV} {v:Value} {p:PV} (ho:o.op= .pick c x y:=by exact rfl) (hc:ev st.slots c=some (.bool b,q):=by exact rfl) (hx:ev st.slots (if b then x else y)=some (v,p):=by exact rfl):YE P st o (· =v) p:=
 Zjd ho hc hx
theorem Yd {P:Program} {st:St} {o:Oper} {x:Operand} {t:TypeId} {b:Bool} {q:PV} (ho:o.op= .unOp .not t x:=by exact rfl) (hx:ev st.slots x=some (.bool b,q):=by exact rfl):YE P st o (· = .bool (!b)) (.val (.bool (!b))):=
 Zki ho hx
theorem ZI {k:IntKind} {a b:Int} (ho:o.op= .binOp .lss t x y t':=by exact rfl) (hx:ev st.slots x=some (.int k a,q):=by exact rfl) (hy:ev st.slots y=some (.int k b,q'):=by exact rfl):YE P st o (· = .bool (decide (a<b))) (.val (.bool (decide (a<b)))):=
 Zkj ho hx hy
theorem Tq {k:IntKind} {a b:Int} (ho:o.op= .binOp .leq t x y t':=by exact rfl) (hx:ev st.slots x=some (.int k a,q):=by exact rfl) (hy:ev st.slots y=some (.int k b,q'):=by exact rfl):YE P st o (· = .bool (decide (a≤b))) (.val (.bool (decide (a≤b)))):=
 Zkk ho hx hy
theorem YV {k:IntKind} {a b:Int} (ho:o.op= .binOp .gtr t x y t':=by exact rfl) (hx:ev st.slots x=some (.int k a,q):=by exact rfl) (hy:ev st.slots y=some (.int k b,q'):=by exact rfl):YE P st o (· = .bool (decide (b<a))) (.val (.bool (decide (b<a)))):=
 Zkl ho hx hy
theorem Kj {k:IntKind} {a b:Int} (ho:o.op= .binOp .geq t x y t':=by exact rfl) (hx:ev st.slots x=some (.int k a,q):=by exact rfl) (hy:ev st.slots y=some (.int k b,q'):=by exact rfl):YE P st o (· = .bool (decide (b≤a))) (.val (.bool (decide (b≤a)))):=
 Zkm ho hx hy
theorem ZU {k:IntKind} {a b:Int} (ho:o.op= .binOp .eql t x y t':=by exact rfl) (hx:ev st.slots x=some (.int k a,q):=by exact rfl) (hy:ev st.slots y=some (.int k b,q'):=by exact rfl):YE P st o (· = .bool (decide (a=b))) (.val (.bool (decide (a=b)))):=
 Zkn ho hx hy
theorem Wg {k:IntKind} {a b:Int} (ho:o.op= .binOp .neq t x y t':=by exact rfl) (hx:ev st.slots x=some (.int k a,q):=by exact rfl) (hy:ev st.slots y=some (.int k b,q'):=by exact rfl):YE P st o (· = .bool (decide (a≠b))) (.val (.bool (decide (a≠b)))):=
 Zko ho hx hy
theorem KC {a b:ByteArray} (ho:o.op= .binOp .eql t x y t':=by exact rfl) (hx:ev st.slots x=some (.string a,q):=by exact rfl) (hy:ev st.slots y=some (.string b,q'):=by exact rfl):YE P st o (· = .bool (a.toList==b.toList)) (.val (.bool (a.toList==b.toList))):=
 Zje ho hx hy
theorem Zar {a b:ByteArray} (ho:o.op= .binOp .neq t x y t':=by exact rfl) (hx:ev st.slots x=some (.string a,q):=by exact rfl) (hy:ev st.slots y=some (.string b,q'):=by exact rfl):YE P st o (· = .bool (!(a.toList==b.toList))) (.val (.bool (!(a.toList==b.toList)))):=
 Zjf ho hx hy
theorem Zas {a b:ByteArray} (ho:o.op= .binOp .lss t x y t':=by exact rfl) (hx:ev st.slots x=some (.string a,q):=by exact rfl) (hy:ev st.slots y=some (.string b,q'):=by exact rfl):YE P st o (· = .bool (Op.bytesLess a.toList b.toList)) (.val (.bool (Op.bytesLess a.toList b.toList))):=
 Zjg ho hx hy
theorem EH {a b:ByteArray} (ho:o.op= .binOp .geq t x y t':=by exact rfl) (hx:ev st.slots x=some (.string a,q):=by exact rfl) (hy:ev st.slots y=some (.string b,q'):=by exact rfl):YE P st o (· = .bool (!Op.bytesLess a.toList b.toList)) (.val (.bool (!Op.bytesLess a.toList b.toList))):=
 Zjh ho hx hy
theorem Zat {a b:ByteArray} (ho:o.op= .binOp .gtr t x y t':=by exact rfl) (hx:ev st.slots x=some (.string a,q):=by exact rfl) (hy:ev st.slots y=some (.string b,q'):=by exact rfl):YE P st o (· = .bool (!(Op.bytesLess a.toList b.toList||a.toList==b.toList))) (.val (.bool (!(Op.bytesLess a.toList b.toList||a.toList==b.toList)))):=
 Zji ho hx hy
theorem ZH {a b:Int} (ho:o.op= .binOp .add t x y t':=by exact rfl) (hx:ev st.slots x=some (.int .i64 a,q):=by exact rfl) (hy:ev st.slots y=some (.int .i64 b,q'):=by exact rfl) (h1: -9223372036854775808≤a+b:=by first|omega|exact Xa rfl|(simp only [Xg,Xq,Xd,Xh,Xf,XC,XA,Xo,XD];omega)) (h2:a+b≤9223372036854775807:=by first|omega|exact Xa rfl|(simp only [Xg,Xq,Xd,Xh,Xf,XC,XA,Xo,XD];omega)):YE P st o (· = .int .i64 (a+b)) (.val (.int .i64 (a+b))):=
 ZiX ho hx hy h1 h2
theorem KD {a b:Int} (ho:o.op= .binOp .sub t x y t':=by exact rfl) (hx:ev st.slots x=some (.int .i64 a,q):=by exact rfl) (hy:ev st.slots y=some (.int .i64 b,q'):=by exact rfl) (h1: -9223372036854775808≤a-b:=by first|omega|exact Xa rfl|(simp only [Xg,Xq,Xd,Xh,Xf,XC,XA,Xo,XD];omega)) (h2:a-b≤9223372036854775807:=by first|omega|exact Xa rfl|(simp only [Xg,Xq,Xd,Xh,Xf,XC,XA,Xo,XD];omega)):YE P st o (· = .int .i64 (a-b)) (.val (.int .i64 (a-b))):=
 ZiY ho hx hy h1 h2
theorem Zjo {a b:Bool} (hu:P.underlying t=some .bool) (ho:o.op= .binOp .eql t x y t':=by exact rfl) (hx:ev st.slots x=some (.bool a,q):=by exact rfl) (hy:ev st.slots y=some (.bool b,q'):=by exact rfl):YE P st o (· = .bool (a==b)) (.val (.bool (a==b))):=
 Zjj hu ho hx hy
theorem Zjp {a b:Bool} (hu:P.underlying t=some .bool) (ho:o.op= .binOp .neq t x y t':=by exact rfl) (hx:ev st.slots x=some (.bool a,q):=by exact rfl) (hy:ev st.slots y=some (.bool b,q'):=by exact rfl):YE P st o (· = .bool (!(a==b))) (.val (.bool (!(a==b)))):=
 Zjk hu ho hx hy
theorem Oe {s:ByteArray} {i:Int} {c:UInt8} {k:IntKind} (hu:P.underlying t=some .string) (ho:o.op= .index t x y:=by exact rfl) (hx:ev st.slots x=some (.string s,q):=by exact rfl) (hy:ev st.slots y=some (.int k i,q'):=by exact rfl) (hi:0≤i:=by first|omega|exact Xa rfl|(simp only [Xg,Xq,Xd,Xh,Xf,XC,XA,Xo,XD];omega)) (hc:s.data[i.toNat]? =some c:=by assumption):YE P st o (· = .int .u8 c.toNat) (.val (.int .u8 c.toNat)):=
 Zhn hu ho hx hy hi hc
theorem Tz {P:Program} {st:St} {o:Oper} {x:Operand} {t:TypeId} {s:ByteArray} {q:PV} (ht:P.underlying t=some .string) (ho:o.op= .call {callee:= .builtin .len,args:= #[x],argTypes:= #[t]}:=by exact rfl) (hx:ev st.slots x=some (.string s,q):=by exact rfl):YE P st o (· = .int .i64 s.size) (.val (.int .i64 s.size)):=
 Zjl ht ho hx
theorem Zp {P:Program} {st:St} {o:Oper} {x:Operand} {i:Nat} {vs:List Value} {ps:List PV} {v:Value} {p:PV} (ho:o.op= .extract x i:=by exact rfl) (hx:ev st.slots x=some (.tuple vs.toArray, .tup ps):=by exact rfl) (hv:vs[i]? =some v:=by exact rfl) (hp:ps[i]? =some p:=by exact rfl):YE P st o (· =v) p:=
 ZcU ho hx hv hp
theorem YN {s f fo j:Nat} {x:Operand} {v:Value} {cs:List PV} (hT:FldT P s f fo=true) (ho:o.op= .fieldAddr s x f:=by exact rfl) (hx:ev st.slots x=some (v, .sptr j cs):=by exact rfl):YE P st o (· =padd v fo) (.sptr (j+fo) cs):=
 ZcV hT ho hx
theorem Zn {s f fo j e k n:Nat} {x:Operand} {h:Value} {p:PV} {cs:List PV} (l:Nat) (hT:FldT P s f fo=true) (ho:o.op= .fieldAddr s x f:=by exact rfl) (hx:ev st.slots x=some (padd (sbase h) j,p):=by exact rfl) (hl:lk st.heap l=some (h, .own e k n cs):=by exact rfl) (hn:0<n:=by first|omega|exact Xa rfl|(simp only [Xg,Xq,Xd,Xh,Xf,XC,XA,Xo,XD];omega)):YE P st o (· =padd (sbase h) (j+fo)) (.val (padd (sbase h) (j+fo))):=
 ZcW l hT ho hx hl hn
theorem Zv {t e k n:Nat} {x y:Operand} {v:Value} {cs:List PV} {q:PV} {kd:IntKind} {i:Nat} (hT:SlT P t e k=true) (ho:o.op= .indexAddr t x y:=by exact rfl) (hx:ev st.slots x=some (v, .sl n cs):=by exact rfl) (hy:ev st.slots y=some (.int kd (i:Int),q):=by exact rfl) (h1:i<n:=by first|omega|exact Xa rfl|(simp only [Xg,Xq,Xd,Xh,Xf,XC,XA,Xo,XD];omega)):YE P st o (· =padd (sbase v) (i*k)) (.sptr (i*k) cs):=
 Zaf hT ho hx hy h1
theorem Zq {t e k e' k' n:Nat} {x y:Operand} {h:Value} {p q:PV} {cs:List PV} {kd:IntKind} {i:Nat} (l:Nat) (hT:SlT P t e k=true) (ho:o.op= .indexAddr t x y:=by exact rfl) (hx:ev st.slots x=some (h,p):=by exact rfl) (hy:ev st.slots y=some (.int kd (i:Int),q):=by exact rfl) (hl:lk st.heap l=some (h, .own e' k' n cs):=by exact rfl) (h1:i<n:=by first|omega|exact Xa rfl|(simp only [Xg,Xq,Xd,Xh,Xf,XC,XA,Xo,XD];omega)):YE P st o (· =padd (sbase h) (i*k)) (.val (padd (sbase h) (i*k))):=
 Zag l hT ho hx hy hl h1
theorem Ts {t e k n:Nat} {x y:Operand} {v:Value} {cs:List PV} {q:PV} {kd:IntKind} {i:Int} (hT:SlT P t e k=true) (ho:o.op= .indexAddr t x y:=by exact rfl) (hx:ev st.slots x=some (v, .sl n cs):=by exact rfl) (hy:ev st.slots y=some (.int kd i,q):=by exact rfl) (h0:0≤i:=by first|omega|exact Xa rfl|(simp only [Xg,Xq,Xd,Xh,Xf,XC,XA,Xo,XD];omega)) (h1:i<n:=by first|omega|exact Xa rfl|(simp only [Xg,Xq,Xd,Xh,Xf,XC,XA,Xo,XD];omega)):YE P st o (· =padd (sbase v) (i.toNat*k)) (.sptr (i.toNat*k) cs):=
 Hm hT ho hx hy h0 h1
theorem OF {t e k e' k' n:Nat} {x y:Operand} {h:Value} {p q:PV} {cs:List PV} {kd:IntKind} {i:Int} (l:Nat) (hT:SlT P t e k=true) (ho:o.op= .indexAddr t x y:=by exact rfl) (hx:ev st.slots x=some (h,p):=by exact rfl) (hy:ev st.slots y=some (.int kd i,q):=by exact rfl) (hl:lk st.heap l=some (h, .own e' k' n cs):=by exact rfl) (h0:0≤i:=by first|omega|exact Xa rfl|(simp only [Xg,Xq,Xd,Xh,Xf,XC,XA,Xo,XD];omega)) (h1:i<n:=by first|omega|exact Xa rfl|(simp only [Xg,Xq,Xd,Xh,Xf,XC,XA,Xo,XD];omega)):YE P st o (· =padd (sbase h) (i.toNat*k)) (.val (padd (sbase h) (i.toNat*k))):=
 Hn l hT ho hx hy hl h0 h1
theorem ZN {t j:Nat} {x:Operand} {v:Value} {cs:List PV} {p:PV} (hT:NoAgg P t=true) (ho:o.op= .load t x:=by exact rfl) (hx:ev st.slots x=some (v, .sptr j cs):=by exact rfl) (hp:cs[j]? =some p:=by first|exact rfl|assumption):YE P st o (vOf p) p:=
 Cl hT ho hx hp
theorem Zr {t j e k n:Nat} {x:Operand} {h:Value} {q:PV} {cs:List PV} {p:PV} (l:Nat) (hT:NoAgg P t=true) (ho:o.op= .load t x:=by exact rfl) (hx:ev st.slots x=some (padd (sbase h) j,q):=by exact rfl) (hl:lk st.heap l=some (h, .own e k n cs):=by exact rfl) (hp:cs[j]? =some p:=by first|exact rfl|assumption) (hsh:isSh p=true:=by exact rfl):YE P st o (vOf p) p:=
 Cm l hT ho hx hl hp hsh
theorem Wl {t k j:Nat} {x:Operand} {v:Value} {cs ps:List PV} (hT:AggT P t k=true) (ho:o.op= .load t x:=by exact rfl) (hx:ev sL x=some (v, .sptr j cs):=by exact rfl) (hp:j+k≤cs.length:=by first|omega|exact Xa rfl|(simp only [Xg,Xq,Xd,Xh,Xf,XC,XA,Xo,XD];omega)) (hps:(cs.drop j).take k=ps:=by first|assumption|exact rfl):YE P (⟨sL,hP⟩:St) o (fun _=>True) (.agg ps):=
 Zan hT ho hx hp hps
theorem Zu {t k j e k' n:Nat} {x:Operand} {h:Value} {q:PV} {cs ps:List PV} (l:Nat) (hT:AggT P t k=true) (ho:o.op= .load t x:=by exact rfl) (hx:ev sL x=some (padd (sbase h) j,q):=by exact rfl) (hl:lk hP l=some (h, .own e k' n cs):=by exact rfl) (hp:j+k≤cs.length:=by first|omega|exact Xa rfl|(simp only [Xg,Xq,Xd,Xh,Xf,XC,XA,Xo,XD];omega)) (hk:0<k:=by decide) (hps:(cs.drop j).take k=ps:=by first|assumption|exact rfl) (hsh:ps.all isSh=true:=by first|exact rfl|decide):YE P (⟨sL,hP⟩:St) o (fun _=>True) (.agg ps):=
 Zao l hT ho hx hl hp hk hps hsh
theorem ZF {t e k n:Nat} {x:Operand} {v:Value} {cs:List PV} (hT:SlT P t e k=true) (ho:o.op= .call {callee:= .builtin .len,args:= #[x],argTypes:= #[t]}:=by exact rfl) (hx:ev st.slots x=some (v, .sl n cs):=by exact rfl):YE P st o (· = .int .i64 n) (.val (.int .i64 n)):=
 ZcZ hT ho hx
theorem Y7 {t e k e' k' n:Nat} {x:Operand} {h:Value} {p:PV} {cs:List PV} (l:Nat) (hT:SlT P t e k=true) (ho:o.op= .call {callee:= .builtin .len,args:= #[x],argTypes:= #[t]}:=by exact rfl) (hx:ev st.slots x=some (h,p):=by exact rfl) (hl:lk st.heap l=some (h, .own e' k' n cs):=by exact rfl):YE P st o (· = .int .i64 n) (.val (.int .i64 n)):=
 Zc0 l hT ho hx hl
theorem Zjq {t ks e:Nat} {x:Operand} {m:Value} {kv:List (Value×Value)} (ht:P.underlying t=some (.map ks e)) (ho:o.op= .call {callee:= .builtin .len,args:= #[x],argTypes:= #[t]}:=by exact rfl) (hx:ev sL x=some (m, .smap kv):=by exact rfl):YE P (⟨sL,hP⟩:St) o (· = .int .i64 kv.length) (.val (.int .i64 kv.length)):=
 Zfd ht ho hx
theorem ZhC {t ks e:Nat} {x:Operand} {m:Value} {kv:List (Value×Value)} {p:PV} (l:Nat) (ht:P.underlying t=some (.map ks e)) (ho:o.op= .call {callee:= .builtin .len,args:= #[x],argTypes:= #[t]}:=by exact rfl) (hx:ev sL x=some (m,p):=by exact rfl) (hl:lk hP l=some (m, .omap kv):=by exact rfl):YE P (⟨sL,hP⟩:St) o (· = .int .i64 kv.length) (.val (.int .i64 kv.length)):=
 Zfe l ht ho hx hl
theorem ZO {t:Nat} {parts:Array (Nat×Operand)} {z:Value} {offs:List Nat} {zs:List Value} {es:List (Nat×Ent)} (hT:K6 P t=some (z,offs.map fun o=>(o,1))) (hzs:z.cells=zs.toArray:=by exact rfl) (ho:o.op= .build t parts:=by exact rfl) (hx:evP sL parts.toList=some es:=by exact rfl) (h1:es.all (fun x=>one x.2.2)=true:=by first|exact rfl|(simp only [V',List.all_nil,Ua,Xe];(repeat (first|refine ⟨?_,?_⟩|rfl|assumption)))) (hin:es.all (fun x=>decide (x.1<offs.length)&&decide (offs.getD x.1 0<zs.length))=true:=by exact rfl):YE P (⟨sL,hP⟩:St) o (· = .agg (Sx offs zs (es.map fun x=>(x.1,x.2.1))).toArray) (.agg (Sx offs (zs.map .val) (es.map fun x=>(x.1,x.2.2)))):=
 Zhu hT hzs ho hx h1 hin
theorem Lj {f:Nat} {caps:Array Operand} {es:List Ent} (ho:o.op= .makeFunc (.func f) #[] caps:=by exact rfl) (hx:evL sL caps.toList=some es:=by exact rfl):YE P (⟨sL,hP⟩:St) o (· = .func (.func f) #[] (es.map (·.1)).toArray) (.fn f (es.map (·.2))):=
 Zjn ho hx
theorem Kk {t ks e:Nat} {kd:TypeDesc} {z u:Value} {x y:Operand} {m k:Value} {kv:List (Value×Value)} {q:PV} (hT:MpT P t ks e kd z) (ho:o.op= .lookup t x y false:=by exact rfl) (hx:ev sL x=some (m, .smap kv):=by exact rfl) (hy:ev sL y=some (k,q):=by exact rfl) (hk:kok kd k kv:=by first|exact G6 _ _|exact S4 _ _|exact S3 _ _|assumption) (hu:(Wc kv k).getD z=u:=by assumption):YE P (⟨sL,hP⟩:St) o (· =u) (.val u):=
 Zc7 hT ho hx hy hk hu
theorem ZhD {t ks e:Nat} {kd:TypeDesc} {z:Value} {x y:Operand} {m k:Value} {kv:List (Value×Value)} {q:PV} (hT:MpT P t ks e kd z) (ho:o.op= .lookup t x y true:=by exact rfl) (hx:ev sL x=some (m, .smap kv):=by exact rfl) (hy:ev sL y=some (k,q):=by exact rfl) (hk:kok kd k kv:=by first|exact G6 _ _|exact S4 _ _|exact S3 _ _|assumption):YE P (⟨sL,hP⟩:St) o (· = .tuple [(Wc kv k).getD z, .bool (Wc kv k).isSome].toArray) (.tup [.val ((Wc kv k).getD z), .val (.bool (Wc kv k).isSome)]):=
 Zc6 hT ho hx hy hk
theorem Cy {t ks e:Nat} {kd:TypeDesc} {z:Value} {x y:Operand} {m k:Value} {kv:List (Value×Value)} {p q:PV} (l:Nat) (hT:MpT P t ks e kd z) (ho:o.op= .lookup t x y true:=by exact rfl) (hx:ev sL x=some (m,p):=by exact rfl) (hl:lk hP l=some (m, .omap kv):=by exact rfl) (hy:ev sL y=some (k,q):=by exact rfl) (hk:kok kd k kv:=by first|exact G6 _ _|exact S4 _ _|exact S3 _ _|assumption):YE P (⟨sL,hP⟩:St) o (· = .tuple [(Wc kv k).getD z, .bool (Wc kv k).isSome].toArray) (.tup [.val ((Wc kv k).getD z), .val (.bool (Wc kv k).isSome)]):=
 Zc8 l hT ho hx hl hy hk
theorem TA {t ks e:Nat} {kd:TypeDesc} {z u:Value} {x y:Operand} {m k:Value} {kv:List (Value×Value)} {p q:PV} (l:Nat) (hT:MpT P t ks e kd z) (ho:o.op= .lookup t x y false:=by exact rfl) (hx:ev sL x=some (m,p):=by exact rfl) (hl:lk hP l=some (m, .omap kv):=by exact rfl) (hy:ev sL y=some (k,q):=by exact rfl) (hk:kok kd k kv:=by first|exact G6 _ _|exact S4 _ _|exact S3 _ _|assumption) (hu:(Wc kv k).getD z=u:=by assumption):YE P (⟨sL,hP⟩:St) o (· =u) (.val u):=
 Zc9 l hT ho hx hl hy hk hu
theorem Zfj {t:TypeId} {x:Operand} {v:Value} {p:PV} (d:Nat) (k:∀h:Value,aL P c ops Q rest ⟨put d (padd (sbase h) 0, .val (padd (sbase h) 0)) sL,put d (h, .own t 1 1 [p]) hP⟩) (hw:ZV ops sL o=some true:=by exact rfl) (hd:o.dst=some d:=by exact rfl) (hn:d<c.nt:=by exact Xa rfl) (ho:o.op= .box t x:=by exact rfl) (hx:ev sL x=some (v,p):=by exact rfl) (h1:one p=true:=by first|exact rfl|assumption) (hl:lk hP d=none:=by exact rfl):aL P c ops Q (o::rest) (⟨sL,hP⟩:St):=
 Zhp d hw hd hn ho hx h1 hl k
theorem Yi {t:TypeId} {x:Operand} {v:Value} {ps:List PV} (d:Nat) (m:Nat) (k:∀h:Value,aL P c ops Q rest ⟨put d (padd (sbase h) 0, .val (padd (sbase h) 0)) sL,put d (h, .own t m 1 ps) hP⟩) (hw:ZV ops sL o=some true:=by exact rfl) (hd:o.dst=some d:=by exact rfl) (hn:d<c.nt:=by exact Xa rfl) (ho:o.op= .box t x:=by exact rfl) (hx:ev sL x=some (v, .agg ps):=by exact rfl) (hm:ps.length=m:=by exact rfl) (hl:lk hP d=none:=by exact rfl):aL P c ops Q (o::rest) (⟨sL,hP⟩:St):=
 Zhq d m hw hd hn ho hx hm hl k
theorem ZA {t:TypeId} {z:Value} (zs:List Value) (m:Nat) (d:Nat) (hz:ZeroT P t z) (k:∀h:Value,aL P c ops Q rest ⟨put d (padd (sbase h) 0, .val (padd (sbase h) 0)) sL,put d (h, .own t m 1 (zs.map .val)) hP⟩) (hw:ZV ops sL o=some true:=by exact rfl) (hd:o.dst=some d:=by exact rfl) (hn:d<c.nt:=by exact Xa rfl) (ho:o.op= .alloc t:=by exact rfl) (hzs:z.cells=zs.toArray:=by exact rfl) (hm:zs.length=m:=by exact rfl) (hl:lk hP d=none:=by exact rfl):aL P c ops Q (o::rest) (⟨sL,hP⟩:St):=
 Ze6 zs m d hw hd hn ho hz hzs hm hl k
theorem Jt {t e bytes:Nat} {z:Value} {x y:Operand} {n:Nat} {q q':PV} (d:Nat) (hT:ElT P t e 1 bytes z) (k:∀h:Value,h.oneCell'=true→aL P c ops Q rest ⟨put d (h, .val h) sL,put d (h, .own e 1 n (List.replicate n (.val z))) hP⟩) (hw:ZV ops sL o=some true:=by exact rfl) (hd:o.dst=some d:=by exact rfl) (hn:d<c.nt:=by exact Xa rfl) (ho:o.op= .makeSlice t x y:=by exact rfl) (hx:ev sL x=some (.int .i64 n,q):=by exact rfl) (hy:ev sL y=some (.int .i64 n,q'):=by exact rfl) (hl:lk hP d=none:=by exact rfl) (hb:bytes*n≤281474976710656:=by first|omega|exact Xa rfl|(simp only [Xg,Xq,Xd,Xh,Xf,XC,XA,Xo,XD];omega)) (hn2:n≤9223372036854775807:=by first|omega|exact Xa rfl|(simp only [Xg,Xq,Xd,Xh,Xf,XC,XA,Xo,XD];omega)) (hz1:z.oneCell'=true:=by exact rfl):aL P c ops Q (o::rest) (⟨sL,hP⟩:St):=
 Zhr d hT hw hd hn ho hx hy hl hb hn2 hz1 k
theorem ZhE {t e kk bytes:Nat} {z:Value} {x y:Operand} {n:Nat} {q q':PV} (zs:List Value) (d:Nat) (hT:ElT P t e kk bytes z) (k:∀h:Value,h.oneCell'=true→aL P c ops Q rest ⟨put d (h, .val h) sL,put d (h, .own e kk n ((List.replicate n (zs.map PV.val)).flatten)) hP⟩) (hzs:z.cells=zs.toArray:=by exact rfl) (hw:ZV ops sL o=some true:=by exact rfl) (hd:o.dst=some d:=by exact rfl) (hn:d<c.nt:=by exact Xa rfl) (ho:o.op= .makeSlice t x y:=by exact rfl) (hx:ev sL x=some (.int .i64 n,q):=by exact rfl) (hy:ev sL y=some (.int .i64 n,q'):=by exact rfl) (hl:lk hP d=none:=by exact rfl) (hb:bytes*n≤281474976710656:=by first|omega|exact Xa rfl|(simp only [Xg,Xq,Xd,Xh,Xf,XC,XA,Xo,XD];omega)) (hn2:n≤9223372036854775807:=by first|omega|exact Xa rfl|(simp only [Xg,Xq,Xd,Xh,Xf,XC,XA,Xo,XD];omega)):aL P c ops Q (o::rest) (⟨sL,hP⟩:St):=
 Zfi zs d hT hzs hw hd hn ho hx hy hl hb hn2 k
theorem Zjr {t e kk bytes:Nat} {z:Value} (d:Nat) (hT:ElT P t e kk bytes z) (k:∀h:Value,h.oneCell'=true→aL P c ops Q rest ⟨put d (h, .val h) sL,put d (h, .own e kk 0 []) hP⟩) (hw:ZV ops sL o=some true:=by exact rfl) (hd:o.dst=some d:=by exact rfl) (hn:d<c.nt:=by exact Xa rfl) (ho:o.op= .buildSlice t 0 #[]:=by exact rfl) (hl:lk hP d=none:=by exact rfl):aL P c ops Q (o::rest) (⟨sL,hP⟩:St):=
 Zhs d hT hw hd hn ho hl k
theorem W4 {t e kk bytes:Nat} {z:Value} {x:Operand} {v:Value} {p:PV} (d:Nat) (hT:ElT P t e 1 bytes z) (k:∀h:Value,h.oneCell'=true→aL P c ops Q rest ⟨put d (h, .val h) sL,put d (h, .own e 1 1 [p]) hP⟩) (hw:ZV ops sL o=some true:=by exact rfl) (hd:o.dst=some d:=by exact rfl) (hn:d<c.nt:=by exact Xa rfl) (ho:o.op= .buildSlice t 1 #[(0,x)]:=by exact rfl) (hx:ev sL x=some (v,p):=by exact rfl) (h10:one p=true:=by first|exact rfl|assumption) (hl:lk hP d=none:=by exact rfl):aL P c ops Q (o::rest) (⟨sL,hP⟩:St):=
 Zht (kk:=1) d hT hw hd hn ho hx h10 hl k
theorem Ju {t e kk bytes:Nat} {z:Value} {x:Operand} {v:Value} {ps:List PV} (d:Nat) (hT:ElT P t e kk bytes z) (k:∀h:Value,h.oneCell'=true→aL P c ops Q rest ⟨put d (h, .val h) sL,put d (h, .own e kk 1 ps) hP⟩) (hw:ZV ops sL o=some true:=by exact rfl) (hd:o.dst=some d:=by exact rfl) (hn:d<c.nt:=by exact Xa rfl) (ho:o.op= .buildSlice t 1 #[(0,x)]:=by exact rfl) (hx:ev sL x=some (v, .agg ps):=by exact rfl) (hps:ps.length=kk:=by exact rfl) (hkb:kk≤1000:=by decide) (hl:lk hP d=none:=by exact rfl):aL P c ops Q (o::rest) (⟨sL,hP⟩:St):=
 Ze7 d hT hw hd hn ho hx hps hkb hl k
theorem L4 {t e bytes m:Nat} {z:Value} {xs:List Operand} {parts:Array (Nat×Operand)} {es:List Ent} (d:Nat) (hT:ElT P t e 1 bytes z) (k:∀h:Value,h.oneCell'=true→aL P c ops Q rest ⟨put d (h, .val h) sL,put d (h, .own e 1 m (es.map (·.2))) hP⟩) (hw:ZV ops sL o=some true:=by exact rfl) (hd:o.dst=some d:=by exact rfl) (hn:d<c.nt:=by exact Xa rfl) (ho:o.op= .buildSlice t m parts:=by exact rfl) (hpt:parts=((xs.zipIdx).map fun x=>(x.2,x.1)).toArray:=by exact rfl) (hx:evL sL xs=some es:=by exact rfl) (h1:es.all (fun x=>one x.2)=true:=by exact rfl) (hm:es.length=m:=by exact rfl) (hm0:0<m:=by decide) (hm1:m≤1000:=by decide) (hl:lk hP d=none:=by exact rfl):aL P c ops Q (o::rest) (⟨sL,hP⟩:St):=
 ZbE d hT hw hd hn ho hpt hx h1 hm hm0 hm1 hl k
theorem P5 {t j e kk n:Nat} {x y:Operand} {h v:Value} {q p:PV} {cs:List PV} (l:Nat) (hT:NoAgg P t=true) (hsz:(P.info? t).map (·.size)=some 1) (k:aL P c ops Q rest ⟨sL,put l (h, .own e kk n (cs.set j p)) hP⟩) (hw:ZV ops sL o=some true:=by exact rfl) (hd:o.dst=none:=by exact rfl) (ho:o.op= .store t x y:=by exact rfl) (hx:ev sL x=some (padd (sbase h) j,q):=by exact rfl) (hy:ev sL y=some (v,p):=by exact rfl) (h1:one p=true:=by first|exact rfl|assumption) (hl:lk hP l=some (h, .own e kk n cs):=by exact rfl) (hj:j<cs.length:=by first|omega|exact Xa rfl|(simp only [Xg,Xq,Xd,Xh,Xf,XC,XA,Xo,XD];omega)):aL P c ops Q (o::rest) (⟨sL,hP⟩:St):=
 Zah l hw hd hT hsz ho hx hy h1 hl hj k
theorem Zks {t j e kk n:Nat} {x y:Operand} {h v:Value} {q p:PV} {cs:List PV} (l:Nat) (i:Nat) (hT:NoAgg P t=true) (hsz:(P.info? t).map (·.size)=some 1) (k:aL P c ops Q rest ⟨sL,put l (h, .own e kk n (cs.set i p)) hP⟩) (hw:ZV ops sL o=some true:=by exact rfl) (hd:o.dst=none:=by exact rfl) (ho:o.op= .store t x y:=by exact rfl) (hx:ev sL x=some (padd (sbase h) j,q):=by exact rfl) (hy:ev sL y=some (v,p):=by exact rfl) (h1:one p=true:=by first|exact rfl|assumption) (hl:lk hP l=some (h, .own e kk n cs):=by exact rfl) (hji:j=i:=by first|omega|exact Xa rfl|(simp only [Xg,Xq,Xd,Xh,Xf,XC,XA,Xo,XD];omega)) (hj:i<cs.length:=by first|omega|exact Xa rfl|(simp only [Xg,Xq,Xd,Xh,Xf,XC,XA,Xo,XD];omega)):aL P c ops Q (o::rest) (⟨sL,hP⟩:St):=
 K4 l i hw hd hT hsz ho hx hy h1 hl hji hj k
theorem Zw {t j e kk n m:Nat} {x y:Operand} {h V:Value} {q:PV} {ps cs:List PV} (l:Nat) (hT:AggT P t m=true) (k:aL P c ops Q rest ⟨sL,put l (h, .own e kk n (J3 cs j ps)) hP⟩) (hw:ZV ops sL o=some true:=by exact rfl) (hd:o.dst=none:=by exact rfl) (ho:o.op= .store t x y:=by exact rfl) (hx:ev sL x=some (padd (sbase h) j,q):=by exact rfl) (hy:ev sL y=some (V, .agg ps):=by exact rfl) (hm:ps.length=m:=by exact rfl) (h1:ps.all one=true:=by first|exact rfl|(simp only [V',List.all_nil,Ua,Xe];(repeat (first|refine ⟨?_,?_⟩|rfl|assumption)))) (hl:lk hP l=some (h, .own e kk n cs):=by exact rfl) (hj:j+m≤cs.length:=by first|omega|exact Xa rfl|(simp only [Xg,Xq,Xd,Xh,Xf,XC,XA,Xo,XD];omega)) (hm0:0<m:=by decide):aL P c ops Q (o::rest) (⟨sL,hP⟩:St):=
 Zjm l hw hd hT ho hx hy hm h1 hl hj hm0 k
theorem G7 {t:Nat} (d:Nat) (k:∀m:Value,m.oneCell'=true→aL P c ops Q rest ⟨put d (m, .val m) sL,put d (m, .omap []) hP⟩) (hw:ZV ops sL o=some true:=by exact rfl) (hd:o.dst=some d:=by exact rfl) (hn:d<c.nt:=by exact Xa rfl) (ho:o.op= .makeMap t none:=by exact rfl) (hl:lk hP d=none:=by exact rfl):aL P c ops Q (o::rest) (⟨sL,hP⟩:St):=
 Zff d hw hd hn ho hl k
theorem L5 {t ks e:Nat} {kd:TypeDesc} {z:Value} {x y u:Operand} {m k v:Value} {kv:List (Value×Value)} {p q r:PV} (l:Nat) (hT:MpT P t ks e kd z) (kk:aL P c ops Q rest ⟨sL,put l (m, .omap (Lr kv k v)) hP⟩) (hw:ZV ops sL o=some true:=by exact rfl) (hd:o.dst=none:=by exact rfl) (ho:o.op= .mapUpdate t x y u:=by exact rfl) (hx:ev sL x=some (m,p):=by exact rfl) (hl:lk hP l=some (m, .omap kv):=by exact rfl) (hy:ev sL y=some (k,q):=by exact rfl) (hu:ev sL u=some (v,r):=by exact rfl) (hk:kok kd k kv:=by first|exact G6 _ _|exact S4 _ _|exact S3 _ _|assumption) (hbits:bits k=true:=by exact rfl):aL P c ops Q (o::rest) (⟨sL,hP⟩:St):=
 ZhA l hw hd hT ho hx hl hy hu hk hbits kk
theorem Kd {t ty e kk bytes n m:Nat} {z:Value} {x y:Operand} {h h2:Value} {q q2:PV} {cs cs2:List PV} (l:Nat) (l2:Nat) (d:Nat) (hT:ElT P t e kk bytes z) (k:∀h':Value,h'.oneCell'=true→aL P c ops Q rest ⟨put d (h', .val h') sL,put d (h', .own e kk (n+m) (cs++cs2)) (del l2 (del l hP))⟩) (hw:ZV ops sL o=some true:=by exact rfl) (hd:o.dst=some d:=by exact rfl) (hn:d<c.nt:=by exact Xa rfl) (hty:o.type=ty:=by exact rfl) (ho:o.op= .call {callee:= .builtin .append,args:= #[x,y],argTypes:= #[t,t]}:=by exact rfl) (hx:ev sL x=some (h,q):=by exact rfl) (hy:ev sL y=some (h2,q2):=by exact rfl) (hll:Nat.beq l l2=false:=by exact rfl) (hl:lk hP l=some (h, .own e kk n cs):=by exact rfl) (hl2:lk hP l2=some (h2, .own e kk m cs2):=by exact rfl) (hdl:lk (del l2 (del l hP)) d=none:=by exact rfl) (hm:0<m:=by decide) (hok:cs2.all JL=true:=by first|exact rfl|(simp only [V',List.all_nil,Ua,Xe];(repeat (first|refine ⟨?_,?_⟩|rfl|assumption)))) (hlen:n+m≤9223372036854775807:=by first|omega|exact Xa rfl|(simp only [Xg,Xq,Xd,Xh,Xf,XC,XA,Xo,XD];omega)) (hb:(n+m)*bytes≤140737488355328:=by first|omega|exact Xa rfl|(simp only [Xg,Xq,Xd,Xh,Xf,XC,XA,Xo,XD];omega)) (hdr:¬c.dr:=by exact id):aL P c ops Q (o::rest) (⟨sL,hP⟩:St):=
 Zc1 l l2 d hT hw hd hn hty ho hx hy hll hl hl2 hdl hm hok hlen hb hdr k
theorem bLd {l:List Oper} (t:Nat) {p:Prop} {_:Decidable p} {q:PV} (ht:p→aL P c ops Q l ⟨put t (.bool true, .val (.bool true)) sL,hP⟩) (hf:¬p→aL P c ops Q l ⟨put t (.bool false, .val (.bool false)) sL,hP⟩) (hx:lk sL t=some (.bool (decide p),q):=by exact rfl):aL P c ops Q l (⟨sL,hP⟩:St):=
 Cn t hx (fun h=>ht (UD h)) (fun h=>hf (UE h))
theorem bDd (t:Nat) {p:Prop} {_:Decidable p} {q:PV} (ht:p→aD P c ops Q Z K fuel listed ⟨put t (.bool true, .val (.bool true)) sL,hP⟩) (hf:¬p→aD P c ops Q Z K fuel listed ⟨put t (.bool false, .val (.bool false)) sL,hP⟩) (hx:lk sL t=some (.bool (decide p),q):=by exact rfl):aD P c ops Q Z K fuel listed (⟨sL,hP⟩:St):=
 Cx t hx (fun h=>ht (UD h)) (fun h=>hf (UE h))
theorem cC {x:Operand} {t e:Code} {b:Bool} {q:PV} (ht:b=true→aC P c t Q (⟨sL,hP⟩:St)) (hf:b=false→aC P c e Q (⟨sL,hP⟩:St)) (hx:ev sL x=some (.bool b,q):=by exact rfl):aC P c (.cond x t e) Q (⟨sL,hP⟩:St):=ZZ hx ht hf
theorem cCd {x:Operand} {t e:Code} {p:Prop} {_:Decidable p} {q:PV} (ht:p→aC P c t Q (⟨sL,hP⟩:St)) (hf:¬p→aC P c e Q (⟨sL,hP⟩:St)) (hx:ev sL x=some (.bool (decide p),q):=by exact rfl):aC P c (.cond x t e) Q (⟨sL,hP⟩:St):=ZZ hx (fun h=>ht (UD h)) (fun h=>hf (UE h))
theorem cX {A B C:Prop} (h1:B) (h2:C) (e:B→C→A:=by intro h1 h2;first|exact cCd h1 h2|exact cC h1 h2):A:=e h1 h2
theorem cCf {x:Operand} {t e:Code} {q:PV} (hf:aC P c e Q (⟨sL,hP⟩:St)) (hx:ev sL x=some (.bool false,q):=by exact rfl):aC P c (.cond x t e) Q (⟨sL,hP⟩:St):=ZZ hx (fun h=>Bool.noConfusion h) (fun _=>hf)
theorem cA {dd:Prop} {f:Nat} {xs:Array Operand} {ats:Array TypeId} {es:List Ent} {ps:List PV} {R:PV→Prop} (hc:∀args w,(callFunc f args).run P w= .ok (.enter f args) w) (hA:AFd dd P f ps R) (ho:o.op= .call {callee:= .value (.func f),args:=xs,argTypes:=ats}:=by exact rfl) (hx:evL sL xs.toList=some es:=by exact rfl) (hps:es.map (·.2)=ps:=by exact rfl) (hdd:c.dr→dd:=by first|exact id|exact fun h=>h.elim|exact fun _=>trivial):J6 P c (⟨sL,hP⟩:St) o R:=
 SZ ho hc hx (hps▸hA) hdd
theorem cS {p:PV} (d:Nat) (hC:J6 P c (⟨sL,hP⟩:St) o (· =p)) (k:∀v,vOf p v→aL P c ops Q rest ⟨put d (v,p) sL,hP⟩) (hsh:isSh p=true:=by exact rfl) (hw:ZV ops sL o=some true:=by exact rfl) (hd:o.dst=some d:=by exact rfl) (hn:d<c.nt:=by exact Xa rfl):aL P c ops Q (o::rest) (⟨sL,hP⟩:St):=
 Oz d hw hd hn hC fun p' hp=>by subst hp;exact ⟨hsh,k⟩
theorem cO {p:PV} (d:Nat) (hC:J6 P c (⟨sL,hP⟩:St) o (· =p)) (k:∀v,v.oneCell'=true→aL P c ops Q rest ⟨put d (v, .val v) sL,put d (v,p) hP⟩) (hok:JL p=true:=by exact rfl) (hl:lk hP d=none:=by exact rfl) (hw:ZV ops sL o=some true:=by exact rfl) (hd:o.dst=some d:=by exact rfl) (hn:d<c.nt:=by exact Xa rfl):aL P c ops Q (o::rest) (⟨sL,hP⟩:St):=
 GN d hw hd hn hl hC fun p' hp=>by subst hp;exact ⟨hok,k⟩
end
mutual
def shD:PV→Bool
 | .val _=>true
 | .sl _ _=>true
 | .sptr _ _=>true
 | .smap _=>true
 | .own _ _ _ _=>false
 | .omap _=>false
 | .obox _ _ _=>false
 | .agg ps=>Zdf ps
 | .tup ps=>Zdf ps
 | .fn _ _=>true
 | .oblk _ _ _ _=>false
def Zdf:List PV→Bool
 |[]=>true
 |p::l=>shD p&&Zdf l
end
theorem OG:∀l:List PV,Zdf l=l.all shD
 |[]=>by simp [Zdf]
 |p::l=>by simp [Zdf,OG l]
theorem Tr.shD {M:BS} {w:World} {v:Value} {p:PV} {F:BS} (h:Tr M w v p F):En.shD p=true→Shr M w v p:=by
 induction h with
 |shr h _=>exact fun _=>h
 |own=>intro h;rw [En.shD] at h;cases h
 |omap=>intro h;rw [En.shD] at h;cases h
 |oblk=>intro h;rw [En.shD] at h;cases h
 |obox=>intro h;rw [En.shD] at h;cases h
 | @agg ps F vs Fs hl h hd hF ih=>
   intro hs;rw [En.shD,OG] at hs;exact .agg vs ps hl fun i v p hv hp=>ih i v p hv hp (Xj.1 hs p (Xb hp))
 | @tup ps F vs Fs hl h hd hF ih=>
   intro hs;rw [En.shD,OG] at hs;exact .tup vs ps hl fun i v p hv hp=>ih i v p hv hp (Xj.1 hs p (Xb hp))
section
variable {P:Program} {c:Ctx} {ops:Array Oper} {Q:Exit→Act→World→Prop} {rest:List Oper} {st:St} {sL hP:List (Nat×Ent)} {o:Oper} {Z:Nat→Bool} {K:List Nat} {fuel:Nat} {listed:Array Bool}
theorem Tr.fam {M:BS} {w:World} {Hs:List Value} {ps:List PV} {F:BS} (h:Tr M w (.agg Hs.toArray) (.agg ps) F):∃Fs:Nat→BS,Hs.length=ps.length∧(∀(i:Nat) (v:Value) (p:PV),Hs[i]? =some v→ps[i]? =some p→Tr M w v p (Fs i))∧
 (∀i j b,i<ps.length→j<ps.length→i≠j→Fs i b→¬Fs j b)∧(∀b,F b↔∃i,i<ps.length∧Fs i b):=by
 generalize hv:Value.agg Hs.toArray=v at h
 generalize hq:PV.agg ps=q at h
 cases h with
 | shr h hF=>
   cases h with
   | agg vs ps' hl h=>
     cases hq;(have:vs=Hs:=by injection hv with hv;simpa using hv.symm);subst this;exact ⟨fun _ _=>False,hl,fun i v p h1 h2=> .shr (h i v p h1 h2) (fun _ h=>h),fun _ _ _ _ _ _ h=>h.elim,fun b=>⟨fun h=>(hF b h).elim,fun ⟨_,_,h⟩=>h.elim⟩⟩
   |_=>cases hq
 | agg vs Fs hl h hd hF=>
   cases hq;have:vs=Hs:=by injection hv with hv;simpa using hv.symm
   subst this;exact ⟨Fs,hl,h,hd,hF⟩
 |_=>cases hq
theorem Zfk {l e n:Nat} {h:Value} {cs:List PV} (l':Nat) (hl:lk hP l=some (h, .own e 1 n cs)) (hl':lk hP l'=none):
 J4 (⟨sL,hP⟩:St) (fun Hs:{Hs:List Value//Hs.length=cs.length}=>⟨sL,put l' (.agg Hs.1.toArray, .agg cs) (put l (h, .own e 1 n (Hs.1.map .val)) hP)⟩):=fun c a w ⟨F,H⟩=>by
 have hne:l'≠l:=fun e=>by subst e;rw [hl] at hl';cases hl'
 have hTr:=H.tr l _ _ hl
 obtain ⟨xs,Fs,hrow,hlen,hT,hd,hb,hF⟩:=hTr.row
 refine ⟨⟨xs,hlen.symm⟩,fun x=>if x=l' then (fun b=>∃i,i<cs.length∧Fs i b) else if x=l then (fun b=>h.ownBlock=some b) else F x,?_⟩
 refine H.retell (fun x=>x=l∨x=l') (fun x y hnT hx=>?_) (fun x y b hTx hx hb'=>?_) (fun hmm x u q hTx hx=>?_) (fun x1 x2 y1 y2 b h1 h2 hne' hx1 hx2 hb1 hb2=>?_)
 · have n1:x≠l:=fun e=>hnT (.inl e);have n2:x≠l':=fun e=>hnT (.inr e);rw [Z0 (Ne.symm n2),Z0 (Ne.symm n1)] at hx;exact ⟨hx,by simp [n1,n2]⟩
 · refine ⟨l,_, .inl rfl,hl,?_⟩;rcases hTx with rfl|rfl
   · simp only [Ne.symm hne,if_false,if_true] at hb';exact (hF b).2 (.inl hb')
   · simp only [if_true] at hb';obtain ⟨i,hi,h1⟩:=hb';exact (hF b).2 (.inr ⟨i,hi,h1⟩)
 · rcases hTx with rfl|rfl
   · rw [Z0 hne,ZK] at hx
     cases hx;simp only [Ne.symm hne,if_false,if_true];refine .own xs (fun _ _=>False) hrow sM (fun i x q hx9 hq=>?_) (fun _ _ _ _ _ _ h=>h.elim) (fun _ _ _ h=>h.elim) (fun b=>⟨fun h=> .inl h,fun h=>h.elim id fun ⟨_,_,h⟩=>h.elim⟩);rw [Xm,hx9] at hq
     cases hq;exact .shr (.val _) (fun _ h=>h)
   · rw [ZK] at hx
     cases hx;simp only [if_true];exact .agg xs Fs hlen.symm (fun i v p h1 h2=>(hT i v p h1 h2).anti hmm) hd (fun b=>Iff.rfl)
 · rcases h1 with rfl|rfl
   · rcases h2 with rfl|rfl
     · exact hne' rfl
     · simp only [Ne.symm hne,if_false,if_true] at hb1 hb2;obtain ⟨i,hi,h3⟩:=hb2;exact hb i b hi h3 hb1
   · rcases h2 with rfl|rfl
     · simp only [Ne.symm hne,if_false,if_true] at hb1 hb2;obtain ⟨i,hi,h3⟩:=hb1;exact hb i b hi h3 hb2
     · exact hne' rfl
theorem Zfl {l l' e k n:Nat} {h:Value} {cs0 cs:List PV} {Hs:List Value} (hl:lk hP l=some (h, .own e k n cs0)) (hl':lk hP l'=some (.agg Hs.toArray, .agg cs)) (hcs:cs0=Hs.map .val) (hne0:Nat.beq l l'=false):
 J4 (⟨sL,hP⟩:St) (fun _:Unit=>⟨sL,put l (h, .own e k n cs) (del l' hP)⟩):=fun c a w ⟨F,H⟩=>by
 have hne:l≠l':=fun e=>by subst e;simp at hne0
 have hTr:=H.tr l _ _ hl
 have hTr':=H.tr l' _ _ hl'
 obtain ⟨xs,Fs,hrow,hlen,hT,hd,hb,hF⟩:=hTr.row
 obtain ⟨Gs,hlen',hT',hd',hF'⟩:=hTr'.fam
 have hx:xs=Hs:=by
  apply VG;intro i;rcases Xv i xs.length with hi|hi
  · obtain ⟨x,hx⟩:=Yf hi;obtain ⟨p,hp⟩:=Yl hx hlen.symm;have h1:=hp;rw [hcs,Xm,XN] at h1;obtain ⟨y,hy,rfl⟩:=h1;have:x=y:=((hT i x _ hx hp).sh rfl).vOf;rw [hx,hy,this]
  · rw [Vb hi,Vb (by rw [←hlen,hcs,Xd] at hi;exact hi)]
 subst hx
 refine ⟨(),fun x=>if x=l then (fun b=>F l b∨F l' b) else F x,?_⟩
 refine H.retell (fun x=>x=l∨x=l') (fun x y hnT hx=>?_) (fun x y b hTx hx hb'=>?_) (fun hmm x u q hTx hx=>?_) (fun x1 x2 y1 y2 b h1 h2 hne' hx1 hx2 hb1 hb2=>?_)
 · have n1:x≠l:=fun e=>hnT (.inl e);rw [Z0 (Ne.symm n1)] at hx;exact ⟨(Yx hx).2,by simp [n1]⟩
 · rcases Z2 hx with ⟨rfl,_⟩|⟨n1,hx2⟩
   · simp only [if_true] at hb';rcases hb' with h1|h1
     · exact ⟨l,_, .inl rfl,hl,h1⟩
     · exact ⟨l',_, .inr rfl,hl',h1⟩
   · rcases hTx with e1|e1
     · exact UC e1.symm n1
     · exact UC e1.symm (Yx hx2).1
 · rcases Z2 hx with ⟨rfl,e1⟩|⟨n1,hx2⟩
   · cases e1;simp only [if_true];refine .own xs Gs hrow hlen'.symm (fun i v p h1 h2=>(hT' i v p h1 h2).anti hmm) hd' (fun i b hi h1 h2=>?_) (fun b=>?_)
     · exact H.dj l l' _ _ b hne hl hl' ((hF b).2 (.inl h2)) ((hF' b).2 ⟨i,hi,h1⟩)
     · have hnone:∀i,i<cs0.length→∀b,F l b→Fs i b→h.ownBlock=some b∨∃i,i<cs.length∧Gs i b:=fun i hi b _ hFs=>by
        obtain ⟨p,hp⟩:=Yf hi;obtain ⟨x,hx9⟩:=Yl hp hlen;have h3:=hT i x p hx9 hp;rw [hcs,Xm,XN] at hp;obtain ⟨y,_,rfl⟩:=hp
        cases h3 with
        |shr _ hn=>exact (hn b hFs).elim
       constructor
       · rintro (h1|h1)
         · rcases (hF b).1 h1 with h2|⟨i,hi,h2⟩
           · exact .inl h2
           · exact hnone i hi b h1 h2
         · exact .inr ((hF' b).1 h1)
       · rintro (h1|h1)
         · exact .inl ((hF b).2 (.inl h1))
         · exact .inr ((hF' b).2 h1)
   · rcases hTx with e1|e1
     · exact UC e1.symm n1
     · exact UC e1.symm (Yx hx2).1
 · have key:∀x y,(x=l∨x=l')→lk (put l (h,PV.own e k n cs) (del l' hP)) x=some y→x=l:=fun x y h3 h4=>by
    rcases h3 with h3|h3
    · exact h3
    · rcases Z2 h4 with ⟨e1,_⟩|⟨_,e1⟩
      · exact e1.symm
      · exact UC h3.symm (Yx e1).1
   exact hne' ((key _ _ h1 hx1).trans (key _ _ h2 hx2).symm)
theorem ZbJ {l i:Nat} {Hs:List Value} {ps:List PV} {v:Value} {p:PV} (l':Nat) (hl:lk hP l=some (.agg Hs.toArray, .agg ps)) (hv:Hs[i]? =some v) (hp:ps[i]? =some p) (hl':lk hP l'=none):
 J4 (⟨sL,hP⟩:St) (fun _:Unit=>⟨sL,put l' (v,p) (put l (.agg Hs.toArray, .agg (ps.set i (.val v))) hP)⟩):=fun c a w ⟨F,H⟩=>by
 have hne:l'≠l:=fun e=>by subst e;rw [hl] at hl';cases hl'
 have hTr:=H.tr l _ _ hl
 obtain ⟨Fs,hlen,hT,hd,hF⟩:=hTr.fam
 have hj:=Zj hp
 refine ⟨(),fun x=>if x=l' then Fs i else if x=l then (fun b=>∃j,j<ps.length∧j≠i∧Fs j b) else F x,?_⟩
 refine H.retell (fun x=>x=l∨x=l') (fun x y hnT hx=>?_) (fun x y b hTx hx hb'=>?_) (fun hmm x u q hTx hx=>?_) (fun x1 x2 y1 y2 b h1 h2 hne' hx1 hx2 hb1 hb2=>?_)
 · have n1:x≠l:=fun e=>hnT (.inl e);have n2:x≠l':=fun e=>hnT (.inr e);rw [Z0 (Ne.symm n2),Z0 (Ne.symm n1)] at hx;exact ⟨hx,by simp [n1,n2]⟩
 · refine ⟨l,_, .inl rfl,hl,?_⟩;rcases hTx with rfl|rfl
   · simp only [Ne.symm hne,if_false,if_true] at hb';obtain ⟨j,hj',_,h1⟩:=hb';exact (hF b).2 ⟨j,hj',h1⟩
   · simp only [if_true] at hb';exact (hF b).2 ⟨i,hj,hb'⟩
 · rcases hTx with rfl|rfl
   · rw [Z0 hne,ZK] at hx
     cases hx;simp only [Ne.symm hne,if_false,if_true];refine .agg Hs (fun j b=>if j=i then False else Fs j b) (by simpa using hlen) (fun j x q hx9 hq=>?_) (fun j j' b hi hi' hne' h1 h2=>?_) (fun b=>?_)
     · by_cases hij:j=i
       · subst hij;rw [Xs hj] at hq
         cases hq;rw [hv] at hx9;cases hx9;exact .shr (.val _) (fun b h=>by simp at h)
       · rw [X0 (Ne.symm hij)] at hq;simp only [hij,if_false];exact (hT j x q hx9 hq).anti hmm
     · simp only [Xh] at hi hi';split at h1
       · exact h1
       · split at h2
         · exact h2
         · exact hd j j' b hi hi' hne' h1 h2
     · simp only [Xh];constructor
       · rintro ⟨j,hj',hij,h1⟩;exact ⟨j,hj',by simp [hij,h1]⟩
       · rintro ⟨j,hj',h1⟩;split at h1
         · exact h1.elim
         · exact ⟨j,hj',by assumption,h1⟩
   · rw [ZK] at hx
     cases hx;simp only [if_true];exact (hT i _ _ hv hp).anti hmm
 · rcases h1 with rfl|rfl
   · rcases h2 with rfl|rfl
     · exact hne' rfl
     · simp only [Ne.symm hne,if_false,if_true] at hb1 hb2;obtain ⟨j,hj',hij,h3⟩:=hb1;exact hd j i b hj' hj hij h3 hb2
   · rcases h2 with rfl|rfl
     · simp only [Ne.symm hne,if_false,if_true] at hb1 hb2;obtain ⟨j,hj',hij,h3⟩:=hb2;exact hd j i b hj' hj hij h3 hb1
     · exact hne' rfl
theorem ZbK {l l' i:Nat} {Hs:List Value} {ps:List PV} {v:Value} {p:PV} (hl:lk hP l=some (.agg Hs.toArray, .agg ps)) (hv:Hs[i]? =some v) (hp:ps[i]? =some (.val v)) (hl':lk hP l'=some (v,p)) (hne0:Nat.beq l l'=false):
 J4 (⟨sL,hP⟩:St) (fun _:Unit=>⟨sL,put l (.agg Hs.toArray, .agg (ps.set i p)) (del l' hP)⟩):=fun c a w ⟨F,H⟩=>by
 have hne:l≠l':=fun e=>by subst e;simp at hne0
 have hTr:=H.tr l _ _ hl
 have hTr':=H.tr l' _ _ hl'
 obtain ⟨Fs,hlen,hT,hd,hF⟩:=hTr.fam
 have hj:=Zj hp
 have hFi:∀j b,j<ps.length→Fs j b→F l b:=fun j b hi hb'=>(hF b).2 ⟨j,hi,hb'⟩
 refine ⟨(),fun x=>if x=l then (fun b=>∃j,j<ps.length∧(if j=i then F l' b else Fs j b)) else F x,?_⟩
 refine H.retell (fun x=>x=l∨x=l') (fun x y hnT hx=>?_) (fun x y b hTx hx hb'=>?_) (fun hmm x u q hTx hx=>?_) (fun x1 x2 y1 y2 b h1 h2 hne' hx1 hx2 hb1 hb2=>?_)
 · have n1:x≠l:=fun e=>hnT (.inl e);rw [Z0 (Ne.symm n1)] at hx;exact ⟨(Yx hx).2,by simp [n1]⟩
 · rcases Z2 hx with ⟨rfl,_⟩|⟨n1,hx2⟩
   · simp only [if_true] at hb';obtain ⟨j,hj',h1⟩:=hb';split at h1
     · exact ⟨l',_, .inr rfl,hl',h1⟩
     · exact ⟨l,_, .inl rfl,hl,hFi j b hj' h1⟩
   · rcases hTx with e1|e1
     · exact UC e1.symm n1
     · exact UC e1.symm (Yx hx2).1
 · rcases Z2 hx with ⟨rfl,e1⟩|⟨n1,hx2⟩
   · cases e1;simp only [if_true];refine .agg Hs (fun j b=>if j=i then F l' b else Fs j b) (by simpa using hlen) (fun j x q hx9 hq=>?_) (fun j j' b hi hi' hne' h1 h2=>?_) (fun b=>by simp only [Xh])
     · by_cases hij:j=i
       · subst hij;rw [Xs hj] at hq
         cases hq;rw [hv] at hx9;cases hx9;simp only [if_true];exact hTr'.anti hmm
       · rw [X0 (Ne.symm hij)] at hq;simp only [hij,if_false];exact (hT j x q hx9 hq).anti hmm
     · simp only [Xh] at hi hi';split at h1
       · split at h2
         · omega
         · exact H.dj l l' _ _ b hne hl hl' (hFi j' b hi' h2) h1
       · split at h2
         · exact H.dj l l' _ _ b hne hl hl' (hFi j b hi h1) h2
         · exact hd j j' b hi hi' hne' h1 h2
   · rcases hTx with e1|e1
     · exact UC e1.symm n1
     · exact UC e1.symm (Yx hx2).1
 · have key:∀x y,(x=l∨x=l')→lk (put l (Value.agg Hs.toArray,PV.agg (ps.set i p)) (del l' hP)) x=some y→x=l:=fun x y h3 h4=>by
    rcases h3 with h3|h3
    · exact h3
    · rcases Z2 h4 with ⟨e1,_⟩|⟨_,e1⟩
      · exact e1.symm
      · exact UC h3.symm (Yx e1).1
   exact hne' ((key _ _ h1 hx1).trans (key _ _ h2 hx2).symm)
theorem Zfm {M:BS} {w:World} {Hs:List Value} {ps:List PV} {F:BS} {i:Nat} {v:Value} {p:PV} (h:Tr M w (.agg Hs.toArray) (.agg ps) F) (hv:Hs[i]? =some v) (hp:ps[i]? =some p):∃G,Tr M w v p G∧∀b,G b→F b:=by
 obtain ⟨Fs,hlen,hT,hd,hF⟩:=h.fam
 exact ⟨Fs i,hT i v p hv hp,fun b hb=>(hF b).2 ⟨i,Zj hp,hb⟩⟩
theorem OH {t e k e' k' n i:Nat} {x y:Operand} {h:Value} {p q:PV} {Hs:List Value} {ps cs:List PV} {kd:IntKind} {j:Nat} (l:Nat) (hT:SlT P t e k=true) (ho:o.op= .indexAddr t x y:=by exact rfl) (hx:ev st.slots x=some (h,p):=by exact rfl) (hy:ev st.slots y=some (.int kd (j:Int),q):=by exact rfl) (hl:lk st.heap l=some (.agg Hs.toArray, .agg ps):=by exact rfl) (hH:Hs[i]? =some h:=by assumption) (hps:ps[i]? =some (.own e' k' n cs):=by assumption) (h1:j<n:=by first|omega|assumption):
 YE P st o (· =padd (sbase h) (j*k)) (.val (padd (sbase h) (j*k))):=
 .exact fun M F a w H=>by
  have hv:=(H.ev hx).1;have hi:=(H.ev hy).1;obtain ⟨G,hG,_⟩:=Zfm (H.tr l _ _ hl) hH hps;obtain ⟨g,cap,rfl,_⟩:=KL hG oM;refine ⟨.val _,?_⟩;have:=G4 (P:=P) hT (b:=g) (off:=0) (n:=n) (c:=cap) (kd:=kd) (i:=(j:Int)) oM oM w;simp [execOp,ho,hv,hi,this,sbase,padd]
theorem Zfn {t e k n i j:Nat} {x:Operand} {h:Value} {q:PV} {Hs:List Value} {ps cs:List PV} {p:PV} (l:Nat) (hT:NoAgg P t=true) (ho:o.op= .load t x:=by exact rfl) (hx:ev st.slots x=some (padd (sbase h) j,q):=by exact rfl) (hl:lk st.heap l=some (.agg Hs.toArray, .agg ps):=by exact rfl) (hH:Hs[i]? =some h:=by assumption) (hps:ps[i]? =some (.own e k n cs):=by assumption) (hp:cs[j]? =some p:=by assumption) (hsh:isSh p=true:=by exact rfl):
 YE P st o (vOf p) p:=fun M F a w H=>by
 have hv:=(H.ev hx).1
 obtain ⟨G,hG,hGF⟩:=Zfm (H.tr l _ _ hl) hH hps
 obtain ⟨xs,Fs,hrow,hlen,hTr,hd,hb,hF'⟩:=hG.row
 have hj:=Zj hp
 rcases YQ hrow with ⟨_,_,rfl⟩|⟨g,cap,rfl,h1,h2,h3⟩
 · simp at hlen;rw [hlen] at hj;simp at hj
 obtain ⟨y,hy⟩:=Yl hp hlen
 have hS:=(hTr j y p hy hp).sh hsh
 refine ⟨y,hS.vOf,hS,fun N W hch hN hF=>?_⟩
 have:=LU hch (hF l _ g hl (hGF g ((hF' g).2 (.inl rfl)))) (WS hrow hy)
 simp only [sbase,padd,Xx] at hv
 simp [execOp,ho,hv,Instr.loadAt,Instr.sureAddr,loadVar,NoAgg.run hT,load,Sem.run,this]
theorem Y0 {x:Operand} {v:Value} {j:Nat} {cs:List PV} (ho:o.op= .nilCheck x:=by exact rfl) (hx:ev st.slots x=some (v, .sptr j cs):=by exact rfl):YE P st o (· =v) (.sptr j cs):=
 .exact fun M F a w H=>by
  obtain ⟨hv,hs⟩:=H.ev hx
  cases hs with
  |sptr b off j cs vs hcell hT'=>exact ⟨.sptr b off j cs vs hcell hT',by simp [execOp,ho,hv]⟩
theorem Lk {x:Operand} {h:Value} {q:PV} {j e k n:Nat} {cs:List PV} (l:Nat) (ho:o.op= .nilCheck x:=by exact rfl) (hx:ev st.slots x=some (padd (sbase h) j,q):=by exact rfl) (hl:lk st.heap l=some (h, .own e k n cs):=by exact rfl) (hn:0<n:=by first|omega|decide):YE P st o (· =padd (sbase h) j) (.val (padd (sbase h) j)):=
 .exact fun M F a w H=>by
  have hv:=(H.ev hx).1;obtain ⟨g,cap,rfl,_⟩:=KL (H.tr l _ _ hl) hn;refine ⟨.val _,?_⟩;simp only [sbase,padd] at hv ⊢;simp [execOp,ho,hv]
theorem G8 {l t j e k n:Nat} {h:Value} {cs:List PV} {q:PV} (hl:lk hP l=some (h, .own e k n cs)) (hn:0<n) (ht:lk sL t=some (padd (sbase h) j,q)):J4 (⟨sL,hP⟩:St) (fun _:Unit=>⟨put t (padd (sbase h) j, .sptr j (Yt cs)) sL,del l hP⟩):=fun c a w ⟨F,H⟩=>by
 refine ⟨(),F,?_⟩
 have hm:∀b,mof c (del l hP) F b→mof c hP F b:=by
  rintro b (h|⟨l',x,h1,h2⟩)
  · exact .inl h
  · exact .inr ⟨l',x,(Yx h1).2,h2⟩
 have H1:HoldsF c ⟨sL,del l hP⟩ F a w:=H.less (fun _ _ h=>h) (fun _ _ h=>(Yx h).2)
 refine ⟨H1.toHeapF,fun s u r hs=>?_,H.size,H.df⟩
 rcases Z2 hs with ⟨rfl,e1⟩|⟨_,hs'⟩
 · cases e1;refine ⟨(H.sl t _ _ ht).1,?_⟩;obtain ⟨g,cap,rfl,_⟩:=KL (H.tr l _ _ hl) hn;have h2:=(H.tr l _ _ hl).share (M':=mof c (del l hP) F) (fun b _ h=>hm b h) fun b hb hmb=>by
    rcases hmb with h1|⟨l',x,h1,h2⟩
    · exact H.apart h1 hl hb
    · exact H.dj l l' _ _ b (Yx h1).1 hl (Yx h1).2 hb h2
   rw [share] at h2;generalize Yt cs=cs' at h2 ⊢
   cases h2 with
   |emp=>omega
   |sl _ _ _ _ _ vs _ _ hcell hT=>exact .sptr g 0 j cs' vs hcell hT
 · exact H1.sl s u r hs'
theorem OI {l e k n g cap b off nn cc:Nat} {h:Value} {y:Operand} {cs2:List PV} {a:Act} (hh:h= .slice (some ⟨g,0,none⟩) n cap) (hy:ev sL y=some (.slice (some ⟨b,off,none⟩) nn cc, .sl nn cs2)) (hone:cs2.all one=true) (vs:List Value) (hvl:vs.length=cs2.length):
 ∀ (m i:Nat) (cs:List PV) (w:World) (F:Nat→BS) (hp:List (Nat×Ent)),HoldsF c ⟨sL,hp⟩ F a w→lk hp l=some (h, .own e k n cs)→i+m=cs2.length→i+m≤cs.length→(∀(j:Nat) (v:Value),vs[j]? =some v→w.cell? ⟨b,off+j,none⟩=some v)→
  ∃w' F' hp',(storeCells ⟨g,0,none⟩ (vs.drop i) i).run P w= .ok () w'∧HoldsF c ⟨sL,hp'⟩ F' a w'∧lk hp' l=some (h, .own e k n (J3 cs i (cs2.drop i)))∧∀l',l'≠l→lk hp' l'=lk hp l'
 | 0,i,cs,w,F,hp,H,hl,hi,hj,hcl=>by
   refine ⟨w,F,hp,?_,H,?_,fun _ _=>rfl⟩
   · rw [XH oM];rfl
   · rw [XH (by omega:cs2.length≤i)];exact hl
 | m + 1,i,cs,w,F,hp,H,hl,hi,hj,hcl=>by
   obtain ⟨_,hS⟩:=H.rd.ev hy;have hi':i<cs2.length:=oM;obtain ⟨p,hp'⟩:=Yf hi';obtain ⟨v,hv⟩:=Yl hp' hvl.symm;have hTr:=H.tr l _ _ hl;obtain ⟨xs,Fs,hrow,hlen,_,_,_,hFF⟩:=hTr.row;have hgM:mof c hp F g:= .inr ⟨l,_,hl,(hFF g).2 (.inl (by subst hh;rfl))⟩;have hSv:Shr (mof c hp F) w v p∧b≠g:=by
    generalize hu:Value.slice (some ⟨b,off,none⟩) nn cc=u at hS
    cases hS with
    |emp=>simp at hi'
    | sl b' off' n' c' cs' vs' hn hc hcell hT=>
      cases hu;have h1:=(hcell i hi').1;rw [hcl i v hv] at h1
      cases h1;exact ⟨hT i p hp',fun e=>(hcell i hi').2 (e▸hgM)⟩
   have h1:one p=true:=Xj.1 hone p (Xb hp');obtain ⟨F1,H1⟩:=T1 H hl hh (show i<cs.length by omega) hSv.1;obtain ⟨w',F',hp2,hr,H2,hl2,hsame⟩:=OI hh hy hone vs hvl m (i+1) (cs.set i p) _ F1 _ H1 (ZK _ _ _) oM (by simp;omega) (fun j u hu=>LU (Chg.setCell w ⟨g,i,none⟩ v) hSv.2 (hcl j u hu));refine ⟨w',F',hp2,?_,H2,?_,fun l' hne=>by rw [hsame l' hne,Z0 (Ne.symm hne)]⟩
   · subst hh;obtain ⟨z,hz⟩:=Yf (show i<xs.length by omega);have hcell:=WS hrow hz;have hfr:=hrow.frozenAt i;rw [X4 (Zj hv),show vs[i]'(Zj hv)=v from (Xl.1 hv).2,storeCells];simp only [Sem.run_bind,run_store _ _ _ _ _ (hSv.1.one h1),YR,Xx,hcell,hfr,Vo,if_false,Result.andThen_ok];exact hr
   · rw [hl2,X4 hi',show cs2[i]'hi'=p from (Xl.1 hp').2,J3]
theorem Cz:∀(ps pre suf:List PV),suf.length=ps.length→J3 (pre++suf) pre.length ps=pre++ps
 | [],pre,suf,h=>by
   have:suf=[]:=Xw h;subst this;rfl
 |p::ps,pre,[],h=>by simp at h
 | p::ps,pre,q::suf,h=>by
   rw [J3];have h1:(pre++q::suf).set pre.length p=(pre++[p])++suf:=sM;rw [h1,show pre.length+1=(pre++[p]).length by simp,Cz ps (pre++[p]) suf (by simpa using h)];simp
theorem ld0 (P:Program) (a:Addr) (w:World):(loadCells a 0).run P w= .ok #[] w:=run_loadCells_list (P:=P) (w:=w) a [] (fun j v h=>by simp at h)
theorem Zjs {t e e' n:Nat} {x y:Operand} {h v:Value} {q:PV} {cs cs2:List PV} (l d:Nat) (hT:SlT P t e 1=true) (k:aL P c ops Q rest ⟨put d (.int .i64 n, .val (.int .i64 n)) sL,put l (h, .own e' 1 n cs2) hP⟩)
 (hlen:cs2.length=n) (hone:cs2.all one=true) (hw:ZV ops sL o=some true:=by exact rfl) (hd:o.dst=some d:=by exact rfl) (hn:d<c.nt:=by exact Xa rfl) (ho:o.op= .call {callee:= .builtin .copy,args:= #[x,y],argTypes:= #[t,t]}:=by exact rfl)
 (hx:ev sL x=some (h,q):=by exact rfl) (hy:ev sL y=some (v, .sl n cs2):=by exact rfl) (hl:lk hP l=some (h, .own e' 1 n cs):=by exact rfl):aL P c ops Q (o::rest) (⟨sL,hP⟩:St):=
 YJ hw fun a w F H=>by
  have hxv:=(H.rd.ev hx).1;obtain ⟨hyv,hS⟩:=H.rd.ev hy;have hTr:=H.tr l _ _ hl;obtain ⟨xs,Fs,hrow,hlen1,_⟩:=hTr.row;have hcsl:cs.length=n:=by rw [hlen1,hrow.1,XO]
  have fin:∀F' hp' w',HoldsF c ⟨sL,hp'⟩ F' a w'→lk hp' l=some (h, .own e' 1 n cs2)→(∀l',l'≠l→lk hp' l'=lk hP l')→Holds c ⟨put d (.int .i64 n, .val (.int .i64 n)) sL,put l (h, .own e' 1 n cs2) hP⟩ (a.put (some d) (.int .i64 n)) w':=fun F' hp' w' H' hl' hsame=>by
   have H2:HoldsF c ⟨sL,put l (h, .own e' 1 n cs2) hP⟩ F' a w':=H'.less (fun _ _ h=>h) fun t x hx=>?_
   · exact ⟨F',H2.put hn (.val _)⟩
   rcases Z2 hx with ⟨rfl,rfl⟩|⟨hne,e1⟩
   · exact hl'
   · show lk hp' t=_;rw [hsame t (Ne.symm hne)];exact e1
  rcases YQ hrow with ⟨rfl,rfl,rfl⟩|⟨g,cap,rfl,h1,h2,h3⟩
  · have hc2:cs2=[]:=Xw hlen;subst hc2;have hc:cs=[]:=Xw hcsl;subst hc;have hrun:(execOp a.eval o).run P w= .ok (.value (.int .i64 0)) w:=by
     have hfc:∀s,(Builtin.firstCells s 0 v).run P w= .ok #[] w∧(Builtin.lenOf v).run P w= .ok 0 w:=fun s=>by
      cases hS with
      |emp a' c'=>cases a'<;>simp [Builtin.firstCells,Builtin.lenOf,ld0]
      |sl b off n' c' cs' vs'=>simp [Builtin.firstCells,Builtin.lenOf,ld0]
     simp [execOp,ho,hxv,hyv,resolve,invoke,builtin,Builtin.copy_,run_underlying (SlT.und hT),SlT.size hT,(hfc _).1,(hfc 0).2,goInt]
    unfold Oper.wp;rw [hrun];simp only [Oper.upon,hd];exact k _ _ (fin F hP w H hl (fun _ _=>rfl))
  · rcases VQ n with h0|h0
    · subst h0;have hc2:cs2=[]:=Xw hlen;subst hc2;have hc:cs=[]:=Xw hcsl;subst hc;have hrun:(execOp a.eval o).run P w= .ok (.value (.int .i64 0)) w:=by
       have hfc:∀s,(Builtin.firstCells s 0 v).run P w= .ok #[] w∧(Builtin.lenOf v).run P w= .ok 0 w:=fun s=>by
        cases hS with
        |emp a' c'=>cases a'<;>simp [Builtin.firstCells,Builtin.lenOf,ld0]
        |sl b off n' c' cs' vs'=>simp [Builtin.firstCells,Builtin.lenOf,ld0]
       simp [execOp,ho,hxv,hyv,resolve,invoke,builtin,Builtin.copy_,run_underlying (SlT.und hT),SlT.size hT,(hfc _).1,(hfc 0).2,goInt,storeCells]
      unfold Oper.wp;rw [hrun];simp only [Oper.upon,hd];exact k _ _ (fin F hP w H hl (fun _ _=>rfl))
    · generalize hvv:v=v0 at hS
      cases hS with
      |emp=>omega
      | sl b off n' cc cs' vs hn' hc' hcell hT'=>
        subst hvv;have hcl:∀(j:Nat) (u:Value),((List.range n).map vs)[j]? =some u→w.cell? ⟨b,off+j,none⟩=some u:=fun j u hu=>by
         (have hj:j<n:=by have:=Zj hu;simpa using this);simp [hj] at hu;subst hu;exact (hcell j oM).1
        have hld:=run_loadCells_list (P:=P) (w:=w) ⟨b,off,none⟩ ((List.range n).map vs) (fun j u hu=>by rw [YR];exact hcl j u hu);rw [Xd,V3] at hld;obtain ⟨w',F',hp',hr,H',hl',hsame⟩:=OI (P:=P) (c:=c) (a:=a) rfl hy hone ((List.range n).map vs) (by simp [hlen]) n 0 cs w F hP H hl oM oM hcl;have hset:J3 cs 0 cs2=cs2:=by
         have:=Cz cs2 [] cs oM;simpa using this
        rw [Vg,hset] at hl';rw [Vg] at hr;have hrun:(execOp a.eval o).run P w= .ok (.value (.int .i64 n)) w':=by
         simp [execOp,ho,hxv,hyv,resolve,invoke,builtin,Builtin.copy_,Builtin.lenOf,Builtin.firstCells,run_underlying (SlT.und hT),SlT.size hT,hld,hr,goInt]
        unfold Oper.wp;rw [hrun];simp only [Oper.upon,hd];exact k _ _ (fin F' hp' w' H' hl' hsame)
theorem CB {α:Type}:∀h:List (Nat×α),∃m,∀t,m≤t→lk h t=none
 |[]=>⟨0,fun _ _=>rfl⟩
 | (k,x)::h=>by
   obtain ⟨m,hm⟩:=CB h;refine ⟨m+k+1,fun t ht=>?_⟩;have:Nat.beq k t=false:=by
    cases h3:Nat.beq k t
    · rfl
    · have:=XJ h3;omega
   simp only [lk,this,cond_false];exact hm t oM
theorem ZhF {l:List Oper} {st':St} (h:aL P c ops Q l st') (hsub:∀F a w,HoldsF c (⟨sL,hP⟩:St) F a w→HoldsF c st' F a w):aL P c ops Q l (⟨sL,hP⟩:St):=fun a w ⟨F,H⟩=>h a w ⟨F,hsub F a w H⟩
theorem Zi1 {t j e kk n i:Nat} {x y:Operand} {h v:Value} {q p:PV} {Hs:List Value} {ps cs:List PV} (l:Nat) (hT:NoAgg P t=true) (hsz:(P.info? t).map (·.size)=some 1) (k:aL P c ops Q rest ⟨sL,put l (.agg Hs.toArray, .agg (ps.set i (.own e kk n (cs.set j p)))) hP⟩)
 (hw:ZV ops sL o=some true:=by exact rfl) (hd:o.dst=none:=by exact rfl) (ho:o.op= .store t x y:=by exact rfl) (hx:ev sL x=some (padd (sbase h) j,q):=by exact rfl) (hy:ev sL y=some (v,p):=by exact rfl) (h1:one p=true:=by first|exact rfl|assumption)
 (hl:lk hP l=some (.agg Hs.toArray, .agg ps):=by exact rfl) (hH:Hs[i]? =some h:=by assumption) (hps:ps[i]? =some (.own e kk n cs):=by assumption) (hj:j<cs.length:=by first|omega|assumption):aL P c ops Q (o::rest) (⟨sL,hP⟩:St):=by
 obtain ⟨m,hm⟩:=CB hP
 have hne:l≠m:=fun e=>by have:=hm m (Xc m);rw [←e,hl] at this;cases this
 have hb:Nat.beq l m=false:=by
  cases h3:Nat.beq l m
  · rfl
  · exact UC (XJ h3) hne
 refine ZJ (ZbJ m hl hH hps (hm m (Xc m))) fun _=>?_
 refine Zah m hw hd hT hsz ho hx hy h1 (ZK _ _ _) hj ?_
 have hi:=Zj hps
 refine ZJ (ZbK (l:=l) (l':=m) (i:=i) (v:=h) (ps:=ps.set i (.val h)) (by rw [Z0 (Ne.symm hne),Z0 (Ne.symm hne),ZK]) hH (by rw [Xs hi]) (ZK _ _ _) hb) fun _=>?_
 rw [XK]
 refine ZhF k fun F a w H=>H.less (fun _ _ h=>h) fun s z hz=>?_
 rcases Z2 hz with ⟨rfl,rfl⟩|⟨hn,hz⟩
 · exact ZK _ _ _
 · have hsm:m≠s:=fun e=>by have:=hm m (Xc m);rw [e,hz] at this;cases this
   show lk (put l _ (del m (put m _ (put m _ (put l _ hP))))) s=some z;rw [Z0 hn,Lo hsm,Z0 hsm,Z0 hsm,Z0 hn];exact hz
theorem cB {dd:Prop} {f:Nat} {xs:Array Operand} {ats:Array TypeId} {ps:List PV} {R:PV→Prop} (ho:o.op= .call {callee:= .value (.func f),args:=xs,argTypes:=ats}) (hc:∀args w,(callFunc f args).run P w= .ok (.enter f args) w) (hA:AFd dd P f ps R) (hx:Zhx (⟨sL,hP⟩:St) xs.toList ps) (hR:∀p,R p→nosh p=true:=by rintro p rfl;exact rfl) (hdd:c.dr→dd:=by first|exact id|exact fun h=>h.elim|exact fun _=>trivial):J6 P c (⟨sL,hP⟩:St) o R:=Ze9 ho hc hx hA hR hdd
theorem YH {i d:Nat} {p:PV} (ho:ops[i]? =some o) (hC:J6 P c (⟨sL,hP⟩:St) o (· =p)) (k:∀v,vOf p v→aD P c ops Q Z K fuel (listed.setIfInBounds i true) ⟨put d (v,p) sL,hP⟩) (hsh:shD p=true:=by exact rfl) (hw:ZV ops sL o=some true:=by exact rfl) (hd:o.dst=some d:=by exact rfl) (hn:d<c.nt:=by exact Xa rfl):aW P c ops Q Z K fuel listed (⟨sL,hP⟩:St) i:=fun a w F H C hC'=>by
 refine Jn (Q':=fun _ a' w'=>(Z i=true∨C w')∧KY P .any ops Q C Z fuel (listed.setIfInBounds i true) a' w') ho (fun a' w' hq=>hq) ?_
 have h1:=JK H.rd hw
 unfold wpList
 rw [h1,UB rfl]
 refine .inl ?_
 obtain ⟨f,args,hr,hcall⟩:=hC a w F H
 unfold Oper.wp
 rw [hr,Oper.upon_enter]
 refine hcall.mono fun e w' ⟨v,q,Fr,e1,e2,e3,e4,e5,e6⟩=>?_
 subst e1
 rw [show q=p from e2] at e4
 have hS:=e4.shD hsh
 have H2:HoldsF c ⟨put d (v,p) sL,hP⟩ F (a.put (some d) v) w':=Sz H e3 hn (hS.anti fun b _ h=> .inl h)
 simp only [Oper.upon,hd]
 have hch:Chg (nK K hP F) w w':=e3.chg
 exact ⟨.inr (hC' w' hch),k v hS.vOf _ w' F H2 C fun W hW=>hC' W (hch.tr hW fun b hb=> .inl hb)⟩
theorem cD {p:PV} (d:Nat) (hC:J6 P c (⟨sL,hP⟩:St) o (· =p)) (k:∀v,vOf p v→aL P c ops Q rest ⟨put d (v,p) sL,hP⟩) (hsh:shD p=true:=by exact rfl) (hw:ZV ops sL o=some true:=by exact rfl) (hd:o.dst=some d:=by exact rfl) (hn:d<c.nt:=by exact Xa rfl):aL P c ops Q (o::rest) (⟨sL,hP⟩:St):=
 J8 hw hC fun a w F w' v p' Fr H hR hx hT hlo hdw=>by
  rw [show p'=p from hR] at hT;have hS:=hT.shD hsh;rw [hd];exact k v hS.vOf _ _ ⟨F,Sz H hx hn (hS.anti fun b _ h=> .inl h)⟩
theorem cP {p1 p2:PV} (d:Nat) (hC:J6 P c (⟨sL,hP⟩:St) o (· = .tup [p1,p2])) (k:∀v1 v2,vOf p1 v1→vOf p2 v2→aL P c ops Q rest ⟨put d (.tuple [v1,v2].toArray, .tup [p1,p2]) sL,hP⟩) (hsh:shD (.tup [p1,p2])=true:=by exact rfl) (hw:ZV ops sL o=some true:=by exact rfl) (hd:o.dst=some d:=by exact rfl) (hn:d<c.nt:=by exact Xa rfl):aL P c ops Q (o::rest) (⟨sL,hP⟩:St):=
 J8 hw hC fun a w F w' v p' Fr H hR hx hT hlo hdw=>by
  rw [show p'= .tup [p1,p2] from hR] at hT;have hS:=hT.shD hsh;rw [hd];have hS':Shr (mof c hP F) w' v (.tup [p1,p2]):=hS.anti fun b _ h=> .inl h
  cases hS with
  | tup vs ps hl h=>
    match vs,hl,h,hS' with
    |[v1,v2],_,h,hS'=>exact k v1 v2 (h 0 v1 p1 rfl rfl).vOf (h 1 v2 p2 rfl rfl).vOf _ _ ⟨F,Sz H hx hn hS'⟩
theorem Zfo (i j k:Nat) (hr:Region.ready .any ops listed=[i,j,k]) (h:aW P c ops Q Z K fuel listed (⟨sL,hP⟩:St) i) (h':aW P c ops Q Z K fuel listed (⟨sL,hP⟩:St) j) (h'':aW P c ops Q Z K fuel listed (⟨sL,hP⟩:St) k):aD P c ops Q Z K (fuel+1) listed (⟨sL,hP⟩:St):=fun a w F H C hC=>
 ⟨(fun hn=>by rw [hr] at hn;cases hn),fun m hm=>by
   rw [hr] at hm;rcases (by simpa using hm:m=i∨m=j∨m=k) with rfl|rfl|rfl
   · exact h a w F H C hC
   · exact h' a w F H C hC
   · exact h'' a w F H C hC⟩
theorem YM {ι:Type} {S:ι→St} (i:ι) (hs:Sub (S i).slots sL) (hh:Sub (S i).heap hP):aN c (Exit.then (fun a w=>∃i,Holds c (S i) a w) Q) (⟨sL,hP⟩:St):=RD i hs hh
end
theorem ZkK (a b:Nat):Nat.beq a b=(a==b):=by
 cases h:Nat.beq a b
 · exact (beq_eq_false_iff_ne.2 (fun e=>by rw [e] at h;simp at h)).symm
 · exact (beq_iff_eq.2 (XJ h)).symm
theorem nrm {A B:Prop} (h:B) (e:B→A:=by intro h;(try simp only [Gk,KV,put,del,ZkK,List.elem,XX,VO,Nat.reduceBEq,cond_true,cond_false]);exact h):A:=e h
section
variable {P:Program} {c:Ctx} {sL hP:List (Nat×Ent)}
theorem OJ {F:Nat→BS} {a:Act} {w:World} (H:HoldsF c (⟨sL,hP⟩:St) F a w) {t ty k l e k' n:Nat} {h:Value} {q:PV} {cs:List PV} (hT:AggT P ty k=true) (ht:lk sL t=some (padd (sbase h) 0,q)) (hl:lk hP l=some (h, .own e k' n cs)) (hp:k≤cs.length) (hk:0<k) (hsh:(cs.take k).all isSh=true):
 ∃V A,(asAddr (a.tmps.getD t undef)).run P w= .ok A w∧(loadVar ty A).run P w= .ok V w∧Shr (mof c hP F) w V (.agg (cs.take k)):=by
 have hv:=(H.sl t _ _ ht).1
 obtain ⟨xs,Fs,hrow,hlen,hTr,hd,hb,hF'⟩:=(H.tr l _ _ hl).row
 rcases YQ hrow with ⟨_,_,rfl⟩|⟨g,cap,rfl,h1,h2,h3⟩
 · simp at hlen;rw [hlen] at hp;simp at hp;omega
 refine ⟨.agg (xs.take k).toArray,⟨g,0,none⟩,?_,?_, .agg _ _ (by simp;omega) (fun i u p hu hp'=>?_)⟩
 · simp only [sbase,padd,Xx] at hv;simp [X3,hv,asAddr]
 · have hcl:∀i u,(xs.take k)[i]? =some u→w.cell? ((⟨g,0,none⟩:Addr).add i)=some u:=fun i u hu=>by
    (have hi:i<k:=by have:=Zj hu;simp at this;omega);rw [XZ hi] at hu;rw [YR,Xx];exact WS hrow hu
   have:=run_loadCells_list (P:=P) (w:=w) ⟨g,0,none⟩ _ hcl;rw [show (xs.take k).length=k by simp;omega] at this;simp [loadVar,AggT.run hT,AggT.size hT,this]
 · have hi:i<k:=by have:=Zj hu;simp at this;omega
   have hps:=Xj.1 hsh p (Xb hp');rw [XZ hi] at hp' hu;exact (hTr _ u p hu hp').sh hps
theorem YK {fn:Func} {R:PV→Prop} {t ty k e k' n:Nat} {h:Value} {q:PV} {cs:List PV} (l:Nat) (hT:AggT P ty k=true) (hr:fn.results= #[.cell t ty]) (ht:lk sL t=some (padd (sbase h) 0,q)) (hl:lk hP l=some (h, .own e k' n cs)) (hp:k≤cs.length) (hk:0<k) (hsh:(cs.take k).all isSh=true) (hR:R (.agg (cs.take k))) (hN:∀b,¬c.N0 b:=by intro _ h;exact h) (hdf:c.df=[]:=by exact rfl):aR c (bodyPost P fn (Gn c R)) (⟨sL,hP⟩:St):=fun a w ⟨F,H⟩=>by
 obtain ⟨V,A,h0,h1,h2⟩:=OJ H hT ht hl hp hk hsh
 refine ⟨H.df.trans hdf,V,?_,V,_,fun _=>False,rfl,hR,H.ext.ext (fun b _=>hN b), .shr (h2.anti fun b _ hb=>?_) (fun _ h=>h),fun _ h=>h.elim,H.dw⟩
 · simp only [results,hr];simp at h0;simp [h0,h1]
 · rcases hb with hb|hb
   · exact .inl hb
   · exact hb.elim
theorem Yn {fn:Func} {R:PV→Prop} {t ty s k e k' n:Nat} {h u:Value} {q p:PV} {cs:List PV} (l:Nat) (hT:AggT P ty k=true) (hr:fn.results= #[.cell t ty, .tmp s]) (ht:lk sL t=some (padd (sbase h) 0,q)) (hl:lk hP l=some (h, .own e k' n cs)) (hs:lk sL s=some (u,p)) (hp:k≤cs.length) (hk:0<k) (hsh:(cs.take k).all isSh=true) (hR:R (.tup [.agg (cs.take k),p])) (hN:∀b,¬c.N0 b:=by intro _ h;exact h) (hdf:c.df=[]:=by exact rfl):aR c (bodyPost P fn (Gn c R)) (⟨sL,hP⟩:St):=fun a w ⟨F,H⟩=>by
 obtain ⟨V,A,h0,h1,h2⟩:=OJ H hT ht hl hp hk hsh
 obtain ⟨h3,h4⟩:=H.sl s _ _ hs
 have hM:∀b,b<w.heap.size→(c.M0 b∨False)→mof c hP F b:=fun b _ hb=>by
  rcases hb with hb|hb
  · exact .inl hb
  · exact hb.elim
 refine ⟨H.df.trans hdf, .tuple #[V,u],?_, .tuple #[V,u],_,fun _=>False,rfl,hR,H.ext.ext (fun b _=>hN b), .shr (.tup [V,u] _ rfl fun i v q' hv hq'=>?_) (fun _ h=>h),fun _ h=>h.elim,H.dw⟩
 · simp only [results,hr];simp at h0;simp [h0,h1,X3,h3]
 · match i with
   |0=>simp at hv hq';subst hv hq';exact h2.anti hM
   |1=>simp at hv hq';subst hv hq';exact h4.anti hM
   |i+2=>simp at hv
end
end Go.En
namespace Go.Proofs.YtmkojdfiadbeeaaGreat
open Go.RowKit Go.Cb Go.En Tryz
set_option linter.all false
set_option maxRecDepth 100000
theorem ZP:NoAgg prog 9=true:=by kernel_rfl
theorem Zx:SlT prog 26 9 1=true:=by kernel_rfl
abbrev pU8 (n:Int):PV:= .val (.int .u8 n)
theorem Lw {a b:Bool} (h:a=true↔b=true):ZB a=ZB b:=by rw [Vy.2 h]
theorem Zdg {s:ByteArray} {i:Nat} {x:UInt8} (h:s.data[i]? =some x):i<s.size:=by
 rcases Xv i s.size with h1|h1
 · exact h1
 · rw [Vd h1] at h;cases h
theorem Of {s:ByteArray} {i:Nat} (h:i<s.size):∃y,s.data[i]? =some y:=⟨s.data[i]'h,Array.getElem?_eq_getElem h⟩
theorem L6 {s:ByteArray} (h:s.size<1∨40<s.size):isName s=false:=by
 unfold isName
 rcases h with h|h
 · rw [Uz (show ¬1≤s.size by omega)];simp
 · rw [Uz (show ¬s.size≤40 by omega)];simp
theorem OK {s:ByteArray} {y:UInt8} (h0:s.data[0]? =some y) (h:Gv y.toNat=false):isName s=false:=by
 unfold isName;rw [h0,VZ,h];simp
theorem OL {s:ByteArray} {k:Nat} {y:UInt8} (hy:s.data[k]? =some y) (h:Tx y.toNat=false):isName s=false:=by
 unfold isName
 rw [Bool.and_eq_false_iff];right
 rw [VE]
 exact ⟨y,Array.mem_toList_iff.2 (Array.mem_of_getElem? hy),by rw [h];simp⟩
theorem PG {s:ByteArray} {y:UInt8} (h1:1≤s.size) (h2:s.size≤40) (h0:s.data[0]? =some y) (hl:Gv y.toNat=true) (h:∀j z,j<s.size→s.data[j]? =some z→Tx z.toNat=true):isName s=true:=by
 unfold isName
 rw [h0,VZ,hl,Uy h1,Uy h2]
 simp only [Bool.and_self,Bool.true_and,Xj]
 intro x hx
 obtain ⟨i,hi⟩:=Array.getElem?_of_mem (Array.mem_toList_iff.1 hx)
 exact h i x (Zdg hi) hi
theorem CC (c:Int):AF prog 135 [pU8 c] (· =ZB (Gv c)):=by
 refine AF.of_body 17 func135 rfl ntmps135 (Xa rfl) ?_
 intro w0 M0 vs hl hv
 obtain ⟨v0,rfl⟩:=YG hl
 obtain rfl:=hv 0 _ _ rfl rfl
 clear hl hv
 refine Zd ?_
 (refine xL 2 Zb ?_<;>refine Zi ?_)
 (refine xL 3 Za (xL 4 Kj (xL 5 Za ?_))<;>(refine bLd 5 (fun hb5=>?_) (fun hb5=>?_)<;>(first|refine kL 6 ?_|refine xL 6 Za ?_))<;>(first|refine kL 7 ?_|refine xL 7 Tq ?_)<;>refine xL 8 Zt (xL 9 Za ?_)<;>(first|refine xL 10 Za ?_|(refine bLd 9 (fun hb9=>?_) (fun hb9=>?_)<;>(first|refine kL 10 ?_|refine xL 10 Za ?_)))<;>(first|refine kL 11 ?_|refine xL 11 Kj ?_)<;>(first|refine kL 12 ?_|refine xL 12 Za ?_)<;>(first|refine kL 13 ?_|(refine bLd 12 (fun hb12=>?_) (fun hb12=>?_)<;>(first|refine kL 13 ?_|refine xL 13 Za ?_)))<;>(first|refine kL 14 ?_|refine xL 14 Tq ?_)<;>(first|refine kL 15 ?_|refine xL 15 Zt ?_)<;>refine xL 16 Zt (xL 2 Zb ?_)<;>refine Zc ?_)<;>(
 refine Zl (results135) rfl (Lw ?_);simp only [Gv,X9,Xe,Ux,true_iff,false_iff,Vo]<;>omega)
theorem Zjt (c:Int):AF prog 136 [pU8 c] (· =ZB (Tx c)):=by
 refine AF.of_body 25 func136 rfl ntmps136 (Xa rfl) ?_
 intro w0 M0 vs hl hv
 obtain ⟨v0,rfl⟩:=YG hl
 obtain rfl:=hv 0 _ _ rfl rfl
 clear hl hv
 refine Zd ?_
 (refine xL 2 Zb ?_<;>refine Zi ?_)
 (refine xL 3 Za ?_<;>(refine cS 4 (cA call135 (CC c)) fun v4 h=>?_;cases h)<;>refine xL 5 Za ?_<;>(refine bL 5 (fun hb5=>?_) (fun hb5=>?_)<;>(first|refine kL 6 ?_|refine xL 6 Za ?_))<;>(first|refine kL 7 ?_|refine xL 7 Kj ?_)<;>(first|refine kL 8 ?_|refine xL 8 Za ?_)<;>(first|refine kL 9 ?_|(refine bLd 8 (fun hb8=>?_) (fun hb8=>?_)<;>(first|refine kL 9 ?_|refine xL 9 Za ?_)))<;>(first|refine kL 10 ?_|refine xL 10 Tq ?_)<;>(first|refine kL 11 ?_|refine xL 11 Zt ?_)<;>refine xL 12 Zt (xL 13 Za ?_)<;>(first|refine kL 14 ?_|refine xL 14 Za ?_|(refine bLd 13 (fun hb13=>?_) (fun hb13=>?_)<;>(first|refine kL 14 ?_|refine xL 14 Za ?_)))<;>(first|refine kL 15 ?_|refine xL 15 ZU ?_)<;>refine xL 16 Zt (xL 17 Za ?_)<;>(first|refine kL 18 ?_|(refine bLd 17 (fun hb17=>?_) (fun hb17=>?_)<;>(first|refine kL 18 ?_|refine xL 18 Za ?_)))<;>(first|refine kL 19 ?_|refine xL 19 ZU ?_)<;>refine xL 20 Zt (xL 21 Za ?_)<;>(first|refine kL 22 ?_|(refine bLd 21 (fun hb21=>?_) (fun hb21=>?_)<;>(first|refine kL 22 ?_|refine xL 22 Za ?_)))<;>(first|refine kL 23 ?_|refine xL 23 ZU ?_)<;>refine xL 24 Zt (xL 2 Zb ?_)<;>refine Zc ?_)<;>(
 refine Zl (results136) rfl (Lw ?_);simp only [Tx,X9,Xe,Ux,true_iff,false_iff,Vo,beq_iff_eq]<;>simp_all<;>omega)
theorem S7 (s :ByteArray) (hs:s.size≤9223372036854775807):AF prog 98 [ZD s] (· =ZB (isName s)):=by
 refine AF.of_body 29 func98 rfl ntmps98 (Xa rfl) ?_
 intro w0 M0 vs hl hv
 obtain ⟨v0,rfl⟩:=YG hl
 obtain rfl:=hv 0 _ _ rfl rfl
 clear hl hv
 refine Zd ?_
 (refine xL 2 Zb ?_<;>refine Zi ?_)
 (refine xL 4 Za (xL 5 (Tz underlying9) (xL 6 ZI (xL 7 Za ?_)))<;>(refine bLd 7 (fun hb7=>?_) (fun hb7=>?_)<;>(first|refine kL 8 ?_|refine xL 8 Za ?_))<;>(first|refine kL 9 ?_|refine xL 9 (Tz underlying9) ?_)<;>(first|refine kL 10 ?_|refine xL 10 YV ?_)<;>refine xL 11 Zt (xL 12 Za ?_)<;>(first|refine kL 13 ?_|(refine bLd 12 (fun hb12=>?_) (fun hb12=>?_)<;>(first|refine kL 13 ?_|refine xL 13 Za ?_)))<;>(first|refine kL 14 ?_|(refine (Of (i:=0) (s:=s) oM).elim fun y0 hy0=>?_;refine xL 14 (Oe underlying9) ?_))<;>(first|refine kL 15 ?_|(refine cS 15 (cA call135 (CC y0.toNat)) fun v15 h=>?_;cases h))<;>(first|refine kL 16 ?_|refine xL 16 Yd ?_)<;>refine xL 17 Zt ?_<;>refine Zc ?_)<;>(
 refine cX ?_ ?_<;>intro hb17
 · first|exact bN hb17|(
 refine Zd ?_;(refine xL 2 Zb ?_<;>refine Zc ?_)
 refine Zl (results98) rfl ?_
 first|rw [L6 oM]|rw [OK hy0 (by simpa using hb17)])
 · first | exact bN hb17|(
 refine Zd ?_;(refine xL 18 Za (xL 19 (Tz underlying9) (xL 20 Za ?_))<;>refine Zc ?_)
 refine Zy (ι:={k:Nat//k≤s.size∧∀j y,j<k→s.data[j]? =some y→Tx y.toNat=true}) (fun k=>⟨[(0,_,_),(19,_,_),(20, .int .i64 k.1,Zf k.1)],[]⟩) (fun k=>s.size-k.1) ⟨0,oM,oM⟩ (fun a w H=>H.weaken ⟨rfl,rfl,rfl,trivial⟩ trivial) ?_;rintro ⟨k,hk,hp⟩;dsimp only;refine Zd ?_;(refine xL 21 ZI ?_<;>refine Zc ?_)
 refine cX ?_ ?_<;>intro hb21
 · first |exact bN hb21|(
 have hlt:k<s.size:=oM;obtain ⟨y,hy⟩:=Of (s:=s) (i:=k) oM;refine Zd ?_;(refine xL 22 Za (xL 3 Zb ?_)<;>refine Zi ?_)
 (refine xL 23 Za (xL 24 Za (xL 25 (Oe underlying9) ?_))<;>(refine cS 26 (cA call136 (Zjt y.toNat)) fun v26 h=>?_;cases h)<;>refine xL 27 Yd ?_<;>refine Zc ?_)
 refine cX ?_ ?_<;>intro hb27
 · first|exact bN hb27|(
 refine Zd ?_;(refine xL 2 Zb ?_<;>refine Zc ?_)
 refine Zl (results98) rfl ?_;rw [OL hy (by simpa using hb27)])
 · first|exact bN hb27|(
 refine Zd ?_;(refine xL 28 ZH (xL 20 Za ?_)<;>refine Zc ?_)
 refine Zh (
  ⟨k+1,oM,fun j z hj hz=>by
   by_cases e:j=k
   · subst e;rw [hy] at hz;cases hz;simpa using hb27
   · exact hp j z oM hz⟩
  ) (by dsimp only;omega) ⟨rfl,rfl,rfl,trivial⟩ trivial))
 · first|exact bN hb21|(
 refine Zd ?_;(refine xL 2 Zb ?_<;>refine Zc ?_)
 refine Zl (results98) rfl ?_;rw [PG oM oM hy0 (by simpa using hb17) (fun j z hj hz=>hp j z oM hz)])))
theorem Ly {α:Type} {p:α→Bool} {l:List α} {k:Nat} {x:α} (hx:l[k]? =some x) (h:p x=false):l.all p=false:=VE.2 ⟨x,Xb hx,by rw [h];simp⟩
theorem Og {α:Type} {p:α→Bool} {l:List α} (h:∀(j:Nat) x,l[j]? =some x→p x=true):l.all p=true:=Xj.2 fun x hx=>by
 obtain ⟨j,hj⟩:=XP hx
 exact h j x hj
def WJ (l:List ByteArray):Bool:=decide (l.length≤40)&&l.all isName&&chainB strLt l
theorem Zau {l:List ByteArray} (h:40<l.length):WJ l=false:=by unfold WJ;rw [Uz (show ¬l.length≤40 by omega)];simp
theorem Zav {l:List ByteArray} {k:Nat} {x:ByteArray} (hx:l[k]? =some x) (h:isName x=false):WJ l=false:=by unfold WJ;rw [Ly hx h];simp
theorem CE {l:List ByteArray} {k:Nat} {x y:ByteArray} (hk:1≤k) (hy:l[k-1]? =some y) (hx:l[k]? =some x) (h:strLt y x=false):WJ l=false:=by unfold WJ;rw [G5 hk hy hx h];simp
theorem OM (l : List ByteArray) (hf:∀s∈l,s.size≤140737488355328):AF prog 86 [ZT l] (· =ZB (WJ l)):=by
 refine AF.of_body 32 func86 rfl ntmps86 (Xa rfl) ?_
 intro w0 M0 vs hl hv
 obtain ⟨v0,rfl⟩:=YG hl
 clear hl hv
 refine Y2 0 rfl fun hlen=>?_
 refine Zd ?_
 (refine xL 2 Zb ?_<;>refine Zi ?_)
 (refine xL 5 Za (xL 6 (ZF Zx) (xL 7 YV ?_))<;>refine Zc ?_)
 refine cX ?_ ?_<;>intro hb7
 · first|exact bN hb7|(
 refine Zd ?_;(refine xL 2 Zb ?_<;>refine Zc ?_)
 refine Zl (results86) rfl ?_;rw [Zau oM])
 · first | exact bN hb7|(
 refine Zd ?_;(refine xL 8 Za (xL 9 (ZF Zx) (xL 10 Za ?_))<;>refine Zc ?_)
 refine Zy (ι:={k:Nat//k≤l.length∧∀j x,j<k→l[j]? =some x→isName x=true∧∀y,1≤j→l[j-1]? =some y→strLt y x=true}) (fun k=>⟨[(0,_,_),(8,_,_),(9,_,_),(10, .int .i64 k.1,Zf k.1)],[]⟩) (fun k=>l.length-k.1) ⟨0,oM,oM⟩ (fun a w H=>H.weaken ⟨rfl,rfl,rfl,rfl,trivial⟩ trivial) ?_;rintro ⟨k,hk,hp⟩;dsimp only;refine Zd ?_;(refine xL 11 ZI ?_<;>refine Zc ?_)
 refine cX ?_ ?_<;>intro hb11
 · first | exact bN hb11|(
 have hlt:k<l.length:=oM;obtain ⟨x,hx⟩:=Zm hlt;obtain ⟨y,hy⟩:=Zm (show k-1<l.length by omega);have e1:=Yq (f:=ZD) hx;(have e2:(l.map ZD)[((k:Int)-1).toNat*1]? =some (ZD y):=by rw [show ((k:Int)-1).toNat*1=k-1 by omega];exact (by rw [Xm,hy];rfl));have hxs:=hf x (Xb hx);refine Zd ?_;(refine xL 12 Za (xL 13 (Zv Zx) ?_)<;>(refine yL 14 (ZN ZP) fun v14 h=>?_;cases h)<;>refine xL 3 Zb (xL 4 Zb ?_)<;>refine Zi ?_)
 (refine xL 15 Za ?_<;>(refine cS 16 (cA call98 (S7 x oM)) fun v16 h=>?_;cases h)<;>refine xL 17 Yd (xL 18 Za ?_)<;>(refine bL 18 (fun hb18=>?_) (fun hb18=>?_)<;>(first|refine kL 19 ?_|refine xL 19 Za ?_))<;>(first|refine kL 20 ?_|refine xL 20 YV ?_)<;>(first|refine kL 21 ?_|refine xL 21 Za ?_)<;>(first|refine kL 22 ?_|(refine bLd 21 (fun hb21=>?_) (fun hb21=>?_)<;>(first|refine kL 22 ?_|refine xL 22 Za ?_)))<;>(first|refine kL 23 ?_|refine xL 23 Za ?_)<;>(first|refine kL 24 ?_|refine xL 24 KD ?_)<;>(first|refine kL 25 ?_|refine xL 25 (Ts Zx) ?_)<;>(first|refine kL 26 ?_|(refine yL 26 (ZN ZP) fun v26 h=>?_;cases h))<;>(first|refine kL 27 ?_|refine xL 27 Za ?_)<;>(first|refine kL 28 ?_|refine xL 28 EH ?_)<;>(first|refine kL 29 ?_|refine xL 29 Zt ?_)<;>refine xL 30 Zt ?_<;>refine Zc ?_)<;>(
 refine cX ?_ ?_<;>intro hb30
 · first|exact bN hb30|(
 refine Zd ?_;(refine xL 2 Zb ?_<;>refine Zc ?_)
 refine Zl (results86) rfl ?_
 first|rw [Zav hx (by simpa using hb18)]|rw [CE oM hy hx (by simpa [strLt] using hb30)])
 · first |exact bN hb30|(
 refine Zd ?_;(refine xL 31 ZH (xL 10 Za ?_)<;>refine Zc ?_)
 refine Zh (
  ⟨k +1,oM,fun j z hj hz=>by
   by_cases e:j=k
   · subst e;rw [hx] at hz;cases hz;refine ⟨by simpa using hb18,fun y' h1 hy'=>?_⟩;rw [hy] at hy';cases hy'
     first|omega|simpa [strLt] using hb30
   · exact hp j z oM hz⟩
  ) (by dsimp only;omega) ⟨rfl,rfl,rfl,rfl,trivial⟩ trivial)))
 · first|exact bN hb11|(
 refine Zd ?_;(refine xL 2 Zb ?_<;>refine Zc ?_)
 refine Zl (results86) rfl ?_;have h1:l.all isName=true:=Og fun j x hj=>(hp j x (by have:=Zj hj;omega) hj).1;have h2:chainB strLt l=true:=GP fun j x y h1 hy hx=>(hp j x (by have:=Zj hx;omega) hx).2 y h1 hy;unfold WJ;rw [h1,h2,Uy (show l.length≤40 by omega)];rfl))
theorem Hw (c:Int):AF prog 194 [pU8 c] (· =ZB (Gv c)):=by
 refine AF.of_body 17 func194 rfl ntmps194 (Xa rfl) ?_
 intro w0 M0 vs hl hv
 obtain ⟨v0,rfl⟩:=YG hl
 obtain rfl:=hv 0 _ _ rfl rfl
 clear hl hv
 refine Zd ?_
 (refine xL 2 Zb ?_<;>refine Zi ?_)
 (refine xL 3 Za (xL 4 Kj (xL 5 Za ?_))<;>(refine bLd 5 (fun hb5=>?_) (fun hb5=>?_)<;>(first|refine kL 6 ?_|refine xL 6 Za ?_))<;>(first|refine kL 7 ?_|refine xL 7 Tq ?_)<;>refine xL 8 Zt (xL 9 Za ?_)<;>(first|refine xL 10 Za ?_|(refine bLd 9 (fun hb9=>?_) (fun hb9=>?_)<;>(first|refine kL 10 ?_|refine xL 10 Za ?_)))<;>(first|refine kL 11 ?_|refine xL 11 Kj ?_)<;>(first|refine kL 12 ?_|refine xL 12 Za ?_)<;>(first|refine kL 13 ?_|(refine bLd 12 (fun hb12=>?_) (fun hb12=>?_)<;>(first|refine kL 13 ?_|refine xL 13 Za ?_)))<;>(first|refine kL 14 ?_|refine xL 14 Tq ?_)<;>(first|refine kL 15 ?_|refine xL 15 Zt ?_)<;>refine xL 16 Zt (xL 2 Zb ?_)<;>refine Zc ?_)<;>(
 refine Zl (results194) rfl (Lw ?_);simp only [Gv,X9,Xe,Ux,true_iff,false_iff,Vo]<;>omega)
theorem Hx (s : ByteArray) (hs:s.size≤9223372036854775807):AF prog 132 [ZD s] (· =ZB (isName s)):=by
 refine AF.of_body 52 func132 rfl ntmps132 (Xa rfl) ?_
 intro w0 M0 vs hl hv
 obtain ⟨v0,rfl⟩:=YG hl
 obtain rfl:=hv 0 _ _ rfl rfl
 clear hl hv
 refine Zd ?_
 (refine xL 2 Zb ?_<;>refine Zi ?_)
 (refine xL 5 Za (xL 6 (Tz underlying9) (xL 7 ZI (xL 8 Za ?_)))<;>(refine bLd 8 (fun hb8=>?_) (fun hb8=>?_)<;>(first|refine kL 9 ?_|refine xL 9 Za ?_))<;>(first|refine kL 10 ?_|refine xL 10 (Tz underlying9) ?_)<;>(first|refine kL 11 ?_|refine xL 11 YV ?_)<;>refine xL 12 Zt (xL 13 Za ?_)<;>(first|refine kL 14 ?_|(refine bLd 13 (fun hb13=>?_) (fun hb13=>?_)<;>(first|refine kL 14 ?_|refine xL 14 Za ?_)))<;>(first|refine kL 15 ?_|(refine (Of (i:=0) (s:=s) oM).elim fun y0 hy0=>?_;refine xL 15 (Oe underlying9) ?_))<;>(first|refine kL 16 ?_|(refine cS 16 (cA call194 (Hw y0.toNat)) fun v16 h=>?_;cases h))<;>(first|refine kL 17 ?_|refine xL 17 Yd ?_)<;>refine xL 18 Zt ?_<;>refine Zc ?_)<;>(
 refine cX ?_ ?_<;>intro hb18
 · first|exact bN hb18|(
 refine Zd ?_;(refine xL 2 Zb ?_<;>refine Zc ?_)
 refine Zl (results132) rfl ?_
 first|rw [L6 oM]|rw [OK hy0 (by simpa using hb18)])
 · first | exact bN hb18|(
 refine Zd ?_;(refine xL 3 Zb ?_<;>refine Zc ?_)
 have h0:∀(j:Nat) z,j<1→s.data[j]? =some z→Tx z.toNat=true:=fun j z hj hz=>by
  obtain rfl:j=0:=oM;rw [hy0] at hz;cases hz;unfold Tx;rw [show Gv y0.toNat=true by simpa using hb18];rfl
 refine Zy (ι:={k:Nat//1≤k∧k≤s.size∧∀j y,j<k→s.data[j]? =some y→Tx y.toNat=true}) (fun k=>⟨[(0,_,_),(3, .int .i64 k.1,Zf k.1)],[]⟩) (fun k=>s.size-k.1) ⟨1,oM,oM,h0⟩ (fun a w H=>H.weaken ⟨rfl,rfl,trivial⟩ trivial) ?_;rintro ⟨k,hk1,hk,hp⟩;dsimp only;refine Zd ?_;(refine xL 19 Za (xL 20 Za (xL 21 (Tz underlying9) (xL 22 ZI ?_)))<;>refine Zc ?_)
 refine cX ?_ ?_<;>intro hb22
 · first | exact bN hb22|(
 have hlt:k<s.size:=oM;obtain ⟨y,hy⟩:=Of (s:=s) (i:=k) oM;refine Zd ?_;(refine xL 25 Za (xL 26 Za (xL 27 (Oe underlying9) (xL 4 Zb ?_)))<;>refine Zi ?_)
 (refine xL 28 Za ?_<;>(refine cS 29 (cA call194 (Hw y.toNat)) fun v29 h=>?_;cases h)<;>refine xL 30 Yd (xL 31 Za ?_)<;>(refine bL 31 (fun hb31=>?_) (fun hb31=>?_)<;>(first|refine kL 32 ?_|refine xL 32 Za ?_))<;>(first|refine kL 33 ?_|refine xL 33 Kj ?_)<;>(first|refine kL 34 ?_|refine xL 34 Za ?_)<;>(first|refine kL 35 ?_|(refine bLd 34 (fun hb34=>?_) (fun hb34=>?_)<;>(first|refine kL 35 ?_|refine xL 35 Za ?_)))<;>(first|refine kL 36 ?_|refine xL 36 Tq ?_)<;>(first|refine kL 37 ?_|refine xL 37 Zt ?_)<;>(first|refine kL 38 ?_|refine xL 38 Yd ?_)<;>refine xL 39 Zt (xL 40 Za ?_)<;>(first|refine kL 41 ?_|refine xL 41 Za ?_|(refine bL 40 (fun hb40=>?_) (fun hb40=>?_)<;>(first|refine kL 41 ?_|refine xL 41 Za ?_)))<;>(first|refine kL 42 ?_|refine xL 42 Wg ?_)<;>refine xL 43 Zt (xL 44 Za ?_)<;>(first|refine kL 45 ?_|(refine bLd 44 (fun hb44=>?_) (fun hb44=>?_)<;>(first|refine kL 45 ?_|refine xL 45 Za ?_)))<;>(first|refine kL 46 ?_|refine xL 46 Wg ?_)<;>refine xL 47 Zt (xL 48 Za ?_)<;>(first|refine kL 49 ?_|(refine bLd 48 (fun hb48=>?_) (fun hb48=>?_)<;>(first|refine kL 49 ?_|refine xL 49 Za ?_)))<;>(first|refine kL 50 ?_|refine xL 50 Wg ?_)<;>refine xL 51 Zt ?_<;>refine Zc ?_)<;>(
 refine cX ?_ ?_<;>intro hb51
 · first|exact bN hb51|(
 refine Zd ?_;(refine xL 2 Zb ?_<;>refine Zc ?_)
 refine Zl (results132) rfl ?_;rw [OL hy];rw [Bool.eq_false_iff];intro hpb;simp only [Tx,X9,Xe,Ux,beq_iff_eq] at hpb;simp_all
 try omega)
 · first |exact bN hb51|(
 refine Zd ?_;(refine xL 23 Za (xL 24 ZH (xL 3 Zb ?_))<;>refine Zc ?_)
 refine Zh (
  ⟨k +1,oM,oM,fun j z hj hz=>by
   by_cases e:j=k
   · subst e;rw [hy] at hz;cases hz;simp only [Tx,X9,Xe,Ux,beq_iff_eq];simp_all
     try omega
   · exact hp j z oM hz⟩
  ) (by dsimp only;omega) ⟨rfl,rfl,trivial⟩ trivial)))
 · first|exact bN hb22|(
 refine Zd ?_;(refine xL 2 Zb ?_<;>refine Zc ?_)
 refine Zl (results132) rfl ?_;rw [PG oM oM hy0 (by simpa using hb18) (fun j z hj hz=>hp j z oM hz)])))
theorem CF (l:List ByteArray) (hf:∀s∈l,s.size≤140737488355328):AF prog 88 [ZT l] (· =ZB (l.all isName)):=by
 refine AF.of_body 16 func88 rfl ntmps88 (Xa rfl) ?_
 intro w0 M0 vs hl hv
 obtain ⟨v0,rfl⟩:=YG hl
 clear hl hv
 refine Y2 0 rfl fun hlen=>?_
 refine Zd ?_
 (refine xL 2 Zb ?_<;>refine Zi ?_)
 (refine xL 3 Zb ?_<;>refine Zc ?_)
 refine Zy (ι:={k:Nat//k≤l.length∧∀j x,j<k→l[j]? =some x→isName x=true}) (fun k=>⟨[(0,_,_),(3, .int .i64 k.1,Zf k.1)],[]⟩) (fun k=>l.length-k.1) ⟨0,oM,oM⟩ (fun a w H=>H.weaken ⟨rfl,rfl,trivial⟩ trivial) ?_
 rintro ⟨k,hk,hp⟩
 dsimp only
 refine Zd ?_
 (refine xL 4 Za (xL 5 Za (xL 6 (ZF Zx) (xL 7 ZI ?_)))<;>refine Zc ?_)
 refine cX ?_ ?_<;>intro hb7
 · first |exact bN hb7|(
 obtain ⟨x,hx⟩:=Zm (show k<l.length by omega);have e1:=Yq (f:=ZD) hx;have hxs:=hf x (Xb hx);refine Zd ?_;(refine xL 10 Za (xL 11 Za (xL 12 (Zv Zx) ?_))<;>(refine yL 13 (ZN ZP) fun v13 h=>?_;cases h)<;>(refine cS 14 (cA call132 (Hx x oM)) fun v14 h=>?_;cases h)<;>refine xL 15 Yd ?_<;>refine Zc ?_)
 refine cX ?_ ?_<;>intro hb15
 · first|exact bN hb15|(
 refine Zd ?_;(refine xL 2 Zb ?_<;>refine Zc ?_)
 refine Zl (results88) rfl ?_;rw [Ly hx (by simpa using hb15)])
 · first|exact bN hb15|(
 refine Zd ?_;(refine xL 8 Za (xL 9 ZH (xL 3 Zb ?_))<;>refine Zc ?_)
 refine Zh (
  ⟨k+1,oM,fun j z hj hz=>by
   by_cases e:j=k
   · subst e;rw [hx] at hz;cases hz;simpa using hb15
   · exact hp j z oM hz⟩
  ) (by dsimp only;omega) ⟨rfl,rfl,trivial⟩ trivial))
 · first|exact bN hb7|(
 refine Zd ?_;(refine xL 2 Zb ?_<;>refine Zc ?_)
 refine Zl (results88) rfl ?_;rw [Og fun j x hj=>hp j x (by have:=Zj hj;omega) hj])
theorem Zaw (l:List ByteArray):AF prog 92 [ZT l] (· =ZB (chainB strLt l)):=by
 refine AF.of_body 20 func92 rfl ntmps92 (Xa rfl) ?_
 intro w0 M0 vs hl hv
 obtain ⟨v0,rfl⟩:=YG hl
 clear hl hv
 refine Y2 0 rfl fun hlen=>?_
 refine Zd ?_
 (refine xL 2 Zb ?_<;>refine Zi ?_)
 (refine xL 3 Zb ?_<;>refine Zc ?_)
 refine Zy (ι:={k:Nat//1≤k∧(k≤l.length∨k=1)∧∀j x y,1≤j→j<k→l[j-1]? =some y→l[j]? =some x→strLt y x=true}) (fun k=>⟨[(0,_,_),(3, .int .i64 k.1,Zf k.1)],[]⟩) (fun k=>l.length-k.1) ⟨1,oM,oM,oM⟩ (fun a w H=>H.weaken ⟨rfl,rfl,trivial⟩ trivial) ?_
 rintro ⟨k,hk1,hk,hp⟩
 dsimp only
 refine Zd ?_
 (refine xL 4 Za (xL 5 Za (xL 6 (ZF Zx) (xL 7 ZI ?_)))<;>refine Zc ?_)
 refine cX ?_ ?_<;>intro hb7
 · first |exact bN hb7|(
 obtain ⟨x,hx⟩:=Zm (show k<l.length by omega);obtain ⟨y,hy⟩:=Zm (show k-1<l.length by omega);have e1:=Yq (f:=ZD) hx;(have e2:(l.map ZD)[((k:Int)-1).toNat*1]? =some (ZD y):=by rw [show ((k:Int)-1).toNat*1=k-1 by omega];exact (by rw [Xm,hy];rfl));refine nav ?_;(refine ZM (fun i=>([]:List Nat).elem i) [] kR ?_<;>refine xD 0 10 rfl Za ?_<;>refine xD 1 11 rfl Za ?_<;>refine xD 2 12 rfl KD ?_<;>refine xD 3 13 rfl (Ts Zx) ?_<;>(refine yD 4 14 rfl (ZN ZP) fun v14 h=>?_;cases h)<;>refine xD 5 15 rfl Za ?_<;>refine xE 6 16 rfl Za ?_<;>refine xE 7 17 rfl (Zv Zx) ?_<;>(refine yE 8 18 rfl (ZN ZP) fun v18 h=>?_;cases h)<;>refine xE 9 19 rfl EH ?_<;>refine Ym kR (nav ?_)<;>try dsimp only)
 refine cX ?_ ?_<;>intro hb19
 · first|exact bN hb19|(
 refine Zd ?_;(refine xL 2 Zb ?_<;>refine Zc ?_)
 refine Zl (results92) rfl ?_;rw [G5 hk1 hy hx (by simpa [strLt] using hb19)])
 · first|exact bN hb19|(
 refine Zd ?_;(refine xL 8 Za (xL 9 ZH (xL 3 Zb ?_))<;>refine Zc ?_)
 refine Zh (
  ⟨k+1,oM,oM,fun j x' y' h1 hj hy' hx'=>by
   by_cases e:j=k
   · subst e;rw [hx] at hx';cases hx';rw [hy] at hy';cases hy';simpa [strLt] using hb19
   · exact hp j x' y' h1 oM hy' hx'⟩
  ) (by dsimp only;omega) ⟨rfl,rfl,trivial⟩ trivial))
 · first|exact bN hb7|(
 refine Zd ?_;(refine xL 2 Zb ?_<;>refine Zc ?_)
 refine Zl (results92) rfl ?_;rw [GP fun j x y h1 hy hx=>hp j x y h1 (by have:=Zj hx;omega) hy hx])
theorem CG (l:List ByteArray) (hf:∀s∈l,s.size≤140737488355328):AF prog 33 [ZT l] (· =ZB (WJ l)):=by
 refine AF.of_body 14 func33 rfl ntmps33 (Xa rfl) ?_
 intro w0 M0 vs hl hv
 obtain ⟨v0,rfl⟩:=YG hl
 clear hl hv
 refine Zd ?_
 (refine xL 2 Zb ?_<;>refine Zi ?_)
 (refine xL 3 Za (xL 4 (ZF Zx) (xL 5 Tq (xL 6 Za ?_)))<;>(refine bLd 6 (fun hb6=>?_) (fun hb6=>?_)<;>(first|refine kL 7 ?_|refine xL 7 Za ?_))<;>(first|refine kL 8 ?_|(refine cS 8 (cA call88 (CF l hf)) fun v8 h=>?_;cases h))<;>refine xL 9 Zt (xL 10 Za ?_)<;>(first|refine kL 11 ?_|(refine bL 10 (fun hb10=>?_) (fun hb10=>?_)<;>(first|refine kL 11 ?_|refine xL 11 Za ?_)))<;>(first|refine kL 12 ?_|(refine cS 12 (cA call92 (Zaw l)) fun v12 h=>?_;cases h))<;>refine xL 13 Zt (xL 2 Zb ?_)<;>refine Zc ?_)<;>(
 refine Zl (results33) rfl ?_;show ZB _=ZB _;unfold WJ
 first|rw [Uy (show l.length≤40 by omega)]|rw [Uz (show ¬l.length≤40 by omega)]
 first|(rw [hb10];simp)|simp)
theorem ON (a b:ByteArray):Ka a b=Ka b a:=by unfold Ka;rw [Vy];simp only [beq_iff_eq];exact eq_comm
theorem PH (l:List ByteArray) (s:ByteArray):AF prog 116 [ZT l,ZD s] (· =Zf (idx (fun x=>Ka x s) l)):=by
 refine AF.of_body 19 func116 rfl ntmps116 (Xa rfl) ?_
 intro w0 M0 vs hl hv
 obtain ⟨v0,v1,rfl⟩:=W7 hl
 obtain rfl:=hv 1 _ _ rfl rfl
 clear hl hv
 refine Y2 0 rfl fun hlen=>?_
 refine Zd ?_
 (refine xL 4 Zb ?_<;>refine Zi ?_)
 (refine xL 6 Za (xL 7 (ZF Zx) (xL 8 Za ?_))<;>refine Zc ?_)
 refine Zy (ι:={k:Nat//k≤l.length∧∀i y,i<k→l[i]? =some y→Ka y s=false}) (fun k=>⟨[(0,_,_),(1,_,_),(7,_,_),(8, .int .i64 k.1,Zf k.1)],[]⟩) (fun k=>l.length-k.1) ⟨0,oM,oM⟩ (fun a w H=>H.weaken ⟨rfl,rfl,rfl,rfl,trivial⟩ trivial) ?_
 rintro ⟨k,hk,hp⟩
 dsimp only
 refine Zd ?_
 (refine xL 9 ZI ?_<;>refine Zc ?_)
 refine cX ?_ ?_<;>intro hb9
 · first |exact bN hb9|(
 obtain ⟨x,hx⟩:=Zm (show k<l.length by omega);have e1:=Yq (f:=ZD) hx;refine Zd ?_;(refine xL 10 Za (xL 5 Zb ?_)<;>refine Zi ?_)
 (refine xL 11 Za (xL 12 Za (xL 13 Za (xL 14 (Zv Zx) ?_)))<;>(refine yL 15 (ZN ZP) fun v15 h=>?_;cases h)<;>refine xL 16 KC ?_<;>refine Zc ?_)
 refine cX ?_ ?_<;>intro hb16
 · first|exact bN hb16|(
 (replace hb16:Ka x s=true:=by rw [ON];exact hb16);refine Zd ?_;(refine xL 17 Za (xL 4 Zb ?_)<;>refine Zc ?_)
 refine Zl (results116) rfl ?_;rw [Lm hp hx hb16])
 · first|exact bN hb16|(
 (replace hb16:Ka x s=false:=by rw [ON];exact hb16);refine Zd ?_;(refine xL 18 ZH (xL 8 Za ?_)<;>refine Zc ?_)
 refine Zh (
  ⟨k+1,oM,fun i y hi hy=>by
   by_cases e:i=k
   · subst e;rw [hx] at hy;cases hy;exact hb16
   · exact hp i y oM hy⟩
  ) (by dsimp only;omega) ⟨rfl,rfl,rfl,rfl,trivial⟩ trivial))
 · first|exact bN hb9|(
 refine Zd ?_;(refine xL 4 Zb ?_<;>refine Zc ?_)
 refine Zl (results116) rfl ?_;rw [Ln fun i y hi hy=>hp i y oM hy])
theorem GQ (l:List ByteArray) (s:ByteArray):AF prog 73 [ZT l,ZD s] (· =ZB (hasStr l s)):=by
 refine AF.of_body 9 func73 rfl ntmps73 (Xa rfl) ?_
 intro w0 M0 vs hl hv
 obtain ⟨v0,v1,rfl⟩:=W7 hl
 obtain rfl:=hv 1 _ _ rfl rfl
 clear hl hv
 refine Zd ?_
 (refine xL 4 Zb ?_<;>refine Zi ?_)
 (refine xL 5 Za (xL 6 Za ?_)<;>(refine cS 7 (cA call116 (PH l s)) fun v7 h=>?_;cases h)<;>refine xL 8 Kj (xL 4 Zb ?_)<;>refine Zc ?_)
 refine Zl (results73) rfl ?_
 unfold hasStr
 rw [T0]
theorem CH {l m:List ByteArray} {k:Nat} {x y:ByteArray} (hx:l[k]? =some x) (hy:m[k]? =some y):cmpStrs (l.drop k) (m.drop k)=if ZS x y=0 then cmpStrs (l.drop (k+1)) (m.drop (k+1)) else ZS x y:=by rw [Ws hx,Ws hy,cmpStrs]
theorem RJ {a b:ByteArray} (h:strLt a b=true):ZS a b= -1:=by unfold ZS;rw [UB h]
theorem RL {a b:ByteArray} (h:(!(strLt a b||Ka a b))=true):ZS a b=1:=by
 simp only [Bool.not_eq_true',Bool.or_eq_false_iff] at h
 unfold ZS;rw [UA (by rw [h.1];simp),UA (by rw [h.2];simp)]
theorem RN {a b:ByteArray} (h1:strLt a b=false) (h:(!(strLt a b||Ka a b))=false):ZS a b=0:=by
 rw [h1,V9,Bool.not_eq_false'] at h
 unfold ZS;rw [UA (by rw [h1];simp),UB h]
theorem T3 {l m:List ByteArray} {k:Nat} (h:¬(k<l.length∧k<m.length)) (hk:k≤l.length) (hk':k≤m.length):cmpStrs (l.drop k) (m.drop k)=if l.length<m.length then-1 else if m.length<l.length then 1 else 0:=by
 by_cases h1:l.length=k
 · rw [XH (show l.length≤k by omega)];by_cases h2:m.length=k
   · rw [XH (show m.length≤k by omega),UA oM,UA oM];rfl
   · obtain ⟨y,hy⟩:=Zm (show k<m.length by omega);rw [Ws hy,UB oM];rfl
 · have h2:m.length=k:=oM;rw [XH (show m.length≤k by omega)];obtain ⟨x,hx⟩:=Zm (show k<l.length by omega);rw [Ws hx,UA oM,UB oM];rfl
theorem Zax (l m:List ByteArray):AF prog 89 [ZT l,ZT m] (· =Zf (cmpStrs l m)):=by
 refine AF.of_body 46 func89 rfl ntmps89 (Xa rfl) ?_
 intro w0 M0 vs hl hv
 obtain ⟨v0,v1,rfl⟩:=W7 hl
 clear hl hv
 refine Y2 0 rfl fun hlen=>?_
 refine Y2 1 rfl fun hlem=>?_
 refine Zd ?_
 (refine xL 4 Zb ?_<;>refine Zi ?_)
 (refine xL 5 Zb ?_<;>refine Zc ?_)
 refine Zy (ι:={k:Nat//k≤l.length∧k≤m.length∧cmpStrs l m=cmpStrs (l.drop k) (m.drop k)}) (fun k=>⟨[(0,_,_),(1,_,_),(5, .int .i64 k.1,Zf k.1)],[]⟩) (fun k=>l.length-k.1) ⟨0,oM,oM,rfl⟩ (fun a w H=>H.weaken ⟨rfl,rfl,rfl,trivial⟩ trivial) ?_
 rintro ⟨k,hk,hk',hp⟩
 dsimp only
 refine Zd ?_
 (refine xL 6 Za (xL 7 Za (xL 8 (ZF Zx) (xL 9 ZI (xL 10 Za ?_))))<;>(refine bLd 10 (fun hb10=>?_) (fun hb10=>?_)<;>(first|refine kL 11 ?_|refine xL 11 Za ?_))<;>(first|refine kL 12 ?_|refine xL 12 Za ?_)<;>(first|refine kL 13 ?_|refine xL 13 (ZF Zx) ?_)<;>(first|refine kL 14 ?_|refine xL 14 ZI ?_)<;>refine xL 15 Zt ?_<;>refine Zc ?_)<;>(
 refine cX ?_ ?_<;>intro hb15
 · first | exact bN hb15|(
 obtain ⟨x,hx⟩:=Zm (show k<l.length by omega);obtain ⟨y,hy⟩:=Zm (show k<m.length by omega);have e1:=Yq (f:=ZD) hx;have e2:=Yq (f:=ZD) hy;have hs:=CH hx hy;refine nav ?_;(refine ZM (fun i=>([]:List Nat).elem i) [] kR ?_<;>refine xD 0 18 rfl Za ?_<;>refine xD 1 19 rfl Za ?_<;>refine xD 2 20 rfl (Zv Zx) ?_<;>(refine yD 3 21 rfl (ZN ZP) fun v21 h=>?_;cases h)<;>refine xD 4 22 rfl Za ?_<;>refine xE 5 23 rfl Za ?_<;>refine xE 6 24 rfl (Zv Zx) ?_<;>(refine yE 7 25 rfl (ZN ZP) fun v25 h=>?_;cases h)<;>refine xE 8 26 rfl Zas ?_<;>refine Ym kR (nav ?_)<;>try dsimp only)
 refine cX ?_ ?_<;>intro hb26
 · first|exact bN hb26|(
 refine Zd ?_;(refine xL 4 Zb ?_<;>refine Zc ?_)
 refine Zl (results89) rfl ?_;rw [hp,hs,RJ hb26];rfl)
 · first |exact bN hb26|(
 refine nav ?_;(refine ZM (fun i=>([]:List Nat).elem i) [] kR ?_<;>refine xD 0 27 rfl Za ?_<;>refine xD 1 28 rfl Za ?_<;>refine xD 2 29 rfl (Zv Zx) ?_<;>(refine yD 3 30 rfl (ZN ZP) fun v30 h=>?_;cases h)<;>refine xD 4 31 rfl Za ?_<;>refine xE 5 32 rfl Za ?_<;>refine xE 6 33 rfl (Zv Zx) ?_<;>(refine yE 7 34 rfl (ZN ZP) fun v34 h=>?_;cases h)<;>refine xE 8 35 rfl Zat ?_<;>refine Ym kR (nav ?_)<;>try dsimp only)
 refine cX ?_ ?_<;>intro hb35
 · first|exact bN hb35|(
 refine Zd ?_;(refine xL 4 Zb ?_<;>refine Zc ?_)
 refine Zl (results89) rfl ?_;rw [hp,hs,RL hb35];rfl)
 · first|exact bN hb35|(
 refine Zd ?_;(refine xL 16 Za (xL 17 ZH (xL 5 Zb ?_))<;>refine Zc ?_)
 refine Zh (
  ⟨k+1,oM,oM,by rw [hp,hs,RN hb26 hb35];rfl⟩
  ) (by dsimp only;omega) ⟨rfl,rfl,rfl,trivial⟩ trivial)))
 · first | exact bN hb15|(
 refine Zd ?_;(refine xL 36 Za (xL 37 (ZF Zx) (xL 38 Za (xL 39 (ZF Zx) (xL 40 ZI ?_))))<;>refine Zc ?_)
 refine cX ?_ ?_<;>intro hb40
 · first|exact bN hb40|(
 refine Zd ?_;(refine xL 4 Zb ?_<;>refine Zc ?_)
 refine Zl (results89) rfl ?_;rw [hp,T3 oM hk hk',UB oM])
 · first|exact bN hb40|(
 refine Zd ?_;(refine xL 41 Za (xL 42 (ZF Zx) (xL 43 Za (xL 44 (ZF Zx) (xL 45 YV ?_))))<;>refine Zc ?_)
 refine cX ?_ ?_<;>intro hb45
 · first|exact bN hb45|(
 refine Zd ?_;(refine xL 4 Zb ?_<;>refine Zc ?_)
 refine Zl (results89) rfl ?_;rw [hp,T3 oM hk hk',UA oM,UB oM])
 · first|exact bN hb45|(
 refine Zd ?_;(refine xL 4 Zb ?_<;>refine Zc ?_)
 refine Zl (results89) rfl ?_;rw [hp,T3 oM hk hk',UA oM,UA oM]))))
theorem OO (s:ByteArray):AF prog 198 [ZD s] (· =ZB false):=by
 refine AF.of_body 6 func198 rfl ntmps198 (Xa rfl) ?_
 intro w0 M0 vs hl hv
 obtain ⟨v0,rfl⟩:=YG hl
 obtain rfl:=hv 0 _ _ rfl rfl
 clear hl hv
 refine Zd ?_
 (refine xL 2 Zb ?_<;>refine Zi ?_)
 (refine xL 3 Za (xL 4 Za (xL 5 Zar (xL 2 Zb ?_)))<;>refine Zc ?_)
 refine Zl (results198) rfl ?_
 simp
theorem TB (a b:ByteArray):AF prog 137 [ZD a,ZD b] (· =Zf (ZS a b)):=by
 refine AF.of_body 20 func137 rfl ntmps137 (Xa rfl) ?_
 intro w0 M0 vs hl hv
 obtain ⟨v0,v1,rfl⟩:=W7 hl
 obtain rfl:=hv 0 _ _ rfl rfl
 obtain rfl:=hv 1 _ _ rfl rfl
 clear hl hv
 refine Zd ?_
 (refine xL 4 Zb ?_<;>refine Zi ?_)
 (refine xL 7 Za ?_<;>(refine cS 8 (cA call198 (OO a)) fun v8 h=>?_;cases h)<;>refine xL 5 Zb ?_<;>refine Zi ?_)
 (refine xL 9 Za ?_<;>(refine cS 10 (cA call198 (OO b)) fun v10 h=>?_;cases h)<;>refine xL 6 Zb ?_<;>refine Zi ?_)
 (refine xL 11 Za ?_<;>refine Zc ?_)
 refine cCf ?_
 refine Zd ?_
 (refine xL 13 Za ?_<;>refine Zc ?_)
 refine cCf ?_
 refine Zd ?_
 (refine xL 14 Za (xL 15 Za (xL 16 Zas ?_))<;>refine Zc ?_)
 refine cX ?_ ?_<;>intro hb16
 · first|exact bN hb16|(
 refine Zd ?_;(refine xL 4 Zb ?_<;>refine Zc ?_)
 refine Zl (results137) rfl ?_;rw [RJ hb16])
 · first|exact bN hb16|(
 refine Zd ?_;(refine xL 17 Za (xL 18 Za (xL 19 Zat ?_))<;>refine Zc ?_)
 refine cX ?_ ?_<;>intro hb19
 · first|exact bN hb19|(
 refine Zd ?_;(refine xL 4 Zb ?_<;>refine Zc ?_)
 refine Zl (results137) rfl ?_;rw [RL hb19])
 · first|exact bN hb19|(
 refine Zd ?_;(refine xL 4 Zb ?_<;>refine Zc ?_)
 refine Zl (results137) rfl ?_;rw [RN hb16 hb19]))
theorem D8 (l m:List ByteArray):AF prog 99 [ZT l,ZT m] (· =Zf (cmpStrs l m)):=by
 refine AF.of_body 36 func99 rfl ntmps99 (Xa rfl) ?_
 intro w0 M0 vs hl hv
 obtain ⟨v0,v1,rfl⟩:=W7 hl
 clear hl hv
 refine Y2 0 rfl fun hlen=>?_
 refine Y2 1 rfl fun hlem=>?_
 refine Zd ?_
 (refine xL 4 Zb ?_<;>refine Zi ?_)
 (refine xL 9 Za (xL 10 (ZF Zx) (xL 11 Za ?_))<;>refine Zc ?_)
 refine Zy (ι:={k:Nat//k≤l.length∧k≤m.length∧cmpStrs l m=cmpStrs (l.drop k) (m.drop k)}) (fun k=>⟨[(0,_,_),(1,_,_),(9,_,_),(10,_,_),(11, .int .i64 k.1,Zf k.1)],[]⟩) (fun k=>l.length-k.1) ⟨0,oM,oM,rfl⟩ (fun a w H=>H.weaken ⟨rfl,rfl,rfl,rfl,rfl,trivial⟩ trivial) ?_
 rintro ⟨k,hk,hk',hp⟩
 dsimp only
 refine Zd ?_
 (refine xL 12 ZI ?_<;>refine Zc ?_)
 refine cX ?_ ?_<;>intro hb12
 · first | exact bN hb12|(
 obtain ⟨x,hx⟩:=Zm (show k<l.length by omega);have e1:=Yq (f:=ZD) hx;refine Zd ?_;(refine xL 13 Za (xL 14 (Zv Zx) ?_)<;>(refine yL 15 (ZN ZP) fun v15 h=>?_;cases h)<;>refine xL 5 Zb (xL 6 Zb ?_)<;>refine Zi ?_)
 (refine xL 16 Za (xL 17 Za (xL 18 (ZF Zx) (xL 19 Kj ?_)))<;>refine Zc ?_)
 refine cX ?_ ?_<;>intro hb19
 · first|exact bN hb19|(
 refine Zd ?_;(refine xL 4 Zb ?_<;>refine Zc ?_)
 refine Zl (results99) rfl ?_;rw [hp,T3 oM hk hk',UA oM,UB oM])
 · first |exact bN hb19|(
 refine nav ?_;obtain ⟨y,hy⟩:=Zm (show k<m.length by omega);have e2:=Yq (f:=ZD) hy;have hs:=CH hx hy;(refine Zo ?_<;>refine xL 20 Za (xL 21 Za (xL 22 (Zv Zx) ?_))<;>(refine yL 23 (ZN ZP) fun v23 h=>?_;cases h)<;>refine xL 7 Zb ?_<;>refine Zi ?_)
 (refine xL 24 Za (xL 25 Za ?_)<;>(refine cS 26 (cA call137 (TB x y)) fun v26 h=>?_;cases h)<;>refine xL 8 Zb ?_<;>refine Zi ?_)
 (refine xL 27 Za (xL 28 Wg ?_)<;>refine Zc ?_)
 refine cX ?_ ?_<;>intro hb28
 · first|exact bN hb28|(
 refine Zd ?_;(refine xL 29 Za (xL 4 Zb ?_)<;>refine Zc ?_)
 refine Zl (results99) rfl ?_;rw [hp,hs,UA hb28])
 · first|exact bN hb28|(
 refine Zd ?_;(refine xL 30 ZH (xL 11 Za ?_)<;>refine Zc ?_)
 refine Zh (
  ⟨k+1,oM,oM,by rw [hp,hs,UB (by simpa using hb28)]⟩
  ) (by dsimp only;omega) ⟨rfl,rfl,rfl,rfl,rfl,trivial⟩ trivial)))
 · first|exact bN hb12|(
 refine Zd ?_;(refine xL 31 Za (xL 32 (ZF Zx) (xL 33 Za (xL 34 (ZF Zx) (xL 35 ZI ?_))))<;>refine Zc ?_)
 refine cX ?_ ?_<;>intro hb35
 · first|exact bN hb35|(
 refine Zd ?_;(refine xL 4 Zb ?_<;>refine Zc ?_)
 refine Zl (results99) rfl ?_;rw [hp,T3 oM hk hk',UB oM])
 · first|exact bN hb35|(
 refine Zd ?_;(refine xL 4 Zb ?_<;>refine Zc ?_)
 refine Zl (results99) rfl ?_;rw [hp,T3 oM hk hk',UA oM,UA oM]))
theorem D9 (l m:List ByteArray):AF prog 42 [ZT l,ZT m] (· =Zf (cmpStrs l m)):=by
 refine AF.of_body 8 func42 rfl ntmps42 (Xa rfl) ?_
 intro w0 M0 vs hl hv
 obtain ⟨v0,v1,rfl⟩:=W7 hl
 clear hl hv
 refine Zd ?_
 (refine xL 4 Zb ?_<;>refine Zi ?_)
 (refine xL 5 Za (xL 6 Za ?_)<;>(refine cS 7 (cA call99 (D8 l m)) fun v7 h=>?_;cases h)<;>refine xL 4 Zb ?_<;>refine Zc ?_)
 exact Zl results42 rfl rfl
end Go.Proofs.YtmkojdfiadbeeaaGreat
namespace Go.Cb
open Go.RowKit
set_option linter.all false
open Go.RowKit Go.WideMaps
structure MapT (P:Program) (t ks e:Nat):Prop where
 ht:P.underlying t=some (.map ks e)
 hk:P.underlying ks=some .string
 he:P.underlying e=some (.int .i64)
 hz:∀w,(zeroValue e).run P w= .ok (.int .i64 0) w
theorem WL {a b:ByteArray}:Ka a b=true↔a=b:=by
 unfold Ka
 rw [beq_iff_eq,ByteArray.toList_eq,ByteArray.toList_eq]
 exact ⟨fun h=>WideShapes.bytes_inj h,fun h=>by rw [h]⟩
def Gx (parts:List (List ByteArray)):ByteArray→Option Int:=fun s=>(parts.findIdx? fun p=>hasStr p s).map fun (i:Nat)=>(i:Int)
theorem OP (parts:List (List ByteArray)) (s:ByteArray):(Gx parts s).isSome=hasStr parts.flatten s:=by
 unfold Gx
 rw [Option.isSome_map,List.findIdx?_isSome]
 unfold hasStr
 induction parts with
 |nil=>rfl
 |cons p ps ih=>rw [List.any_cons,XR,List.any_append,ih]
theorem Zay (parts:List (List ByteArray)) (s:ByteArray):partOf parts s=(Gx parts s).getD (-1):=by
 unfold Gx partOf idx
 cases parts.findIdx? fun p=>hasStr p s<;>rfl
theorem Tt (parts:List (List ByteArray)) (s:ByteArray):(Gx parts s).isSome=decide (0≤partOf parts s):=by
 unfold Gx partOf idx
 cases h:parts.findIdx? fun p=>hasStr p s<;>simp
theorem OQ:∀(p seen:List ByteArray),LV seen p=true↔∀k s,p[k]? =some s→hasStr (seen++p.take k) s=false
 |[],seen=>by simp [LV]
 | x ::p,seen=>by
   rw [LV,Xe,OQ p (seen++[x])];constructor
   · rintro ⟨h1,h2⟩ k s hk
     cases k with
     |zero=>simp at hk;subst hk;simpa using h1
     |succ k=>have:=h2 k s (by simpa using hk);simpa using this
   · intro h;refine ⟨by simpa using h 0 x rfl,fun k s hk=>?_⟩;have:=h (k+1) s (by simpa using hk);simpa using this
def OS (seen p:List ByteArray) (k:Nat) (s:ByteArray):Prop:=hasStr (seen++p.take k) s=false∧isName s=true∧∀y,1≤k→p[k-1]? =some y→strLt y s=true
theorem CI (p seen:List ByteArray):(RE p&&LV seen p)=true↔p≠[]∧∀k s,p[k]? =some s→OS seen p k s:=by
 unfold RE
 simp only [Xe,OQ]
 constructor
 · rintro ⟨⟨⟨h1,h2⟩,h3⟩,h4⟩;refine ⟨by intro h;subst h;simp at h1,fun k s hs=>⟨h4 k s hs,Xj.1 h2 s (Xb hs),fun y hk hy=>?_⟩⟩;exact (KB _ _).1 h3 (k-1) y s hy (by rw [Nat.sub_add_cancel hk];exact hs)
 · rintro ⟨h1,h2⟩;refine ⟨⟨⟨by cases p with|nil=>exact UC rfl h1|cons=>rfl,?_⟩,?_⟩,fun k s hs=>(h2 k s hs).1⟩
   · rw [Xj];intro s hs;obtain ⟨i,hi,rfl⟩:=VM hs;exact (h2 i _ (Xp hi)).2.1
   · exact GP fun j x y h1 hy hx=>(h2 j x hx).2.2 y h1 hy
theorem OT {p seen:List ByteArray} {k:Nat} {s:ByteArray} (hs:p[k]? =some s) (h:¬OS seen p k s):(RE p&&LV seen p)=false:=by
 cases hc:(RE p&&LV seen p)
 · rfl
 · exact UC (((CI p seen).1 hc).2 k s hs) h
theorem Hy:∀l:List UInt8,Op.bytesLess l l=false
 |[]=>rfl
 |a::l=>by simp [Op.bytesLess,Hy l,UInt8.lt_irrefl]
theorem CJ:∀a b c:List UInt8,Op.bytesLess a b=true→Op.bytesLess b c=true→Op.bytesLess a c=true
 |_,_,[],_,h=>by cases h':(‹List UInt8›:List UInt8)<;>simp_all [Op.bytesLess]
 |_,[],_::_,h,_=>by simp [Op.bytesLess] at h
 |[],_::_,_::_,_,_=>rfl
 | x ::a,y::b,z::c,h1,h2=>by
   simp only [Op.bytesLess,X9,Xe,Ux,beq_iff_eq] at h1 h2 ⊢;rcases h1 with h1|⟨rfl,h1⟩
   · rcases h2 with h2|⟨rfl,h2⟩
     · exact .inl (UInt8.lt_trans h1 h2)
     · exact .inl h1
   · rcases h2 with h2|⟨rfl,h2⟩
     · exact .inl h2
     · exact .inr ⟨rfl,CJ a b c h1 h2⟩
theorem CK:∀a b:List UInt8,Op.bytesLess a b=false→Op.bytesLess b a=false→a=b
 |[],[],_,_=>rfl
 |[],_::_,h,_=>by simp [Op.bytesLess] at h
 |_::_,[],_,h=>by simp [Op.bytesLess] at h
 | x::a,y::b,h1,h2=>by
   simp only [Op.bytesLess,Bool.or_eq_false_iff,decide_eq_false_iff_not] at h1 h2;have hxy:x=y:=UInt8.le_antisymm (UInt8.not_lt.1 h2.1) (UInt8.not_lt.1 h1.1);subst hxy;simp only [beq_self_eq_true,Bool.true_and] at h1 h2;rw [CK a b h1.2 h2.2]
theorem Wt (a:ByteArray):strLt a a=false:=Hy _
theorem Wy {a b c:ByteArray} (h:strLt a b=true) (k:strLt b c=true):strLt a c=true:=CJ _ _ _ h k
theorem KE {a b:ByteArray} (h:strLt a b=false) (k:strLt b a=false):a=b:=by
 have:=CK _ _ h k
 rw [ByteArray.toList_eq,ByteArray.toList_eq] at this
 exact WideShapes.bytes_inj this
theorem Wz {a b:ByteArray}:ZS a b=0↔a=b:=by
 unfold ZS
 constructor
 · intro h;split at h
   · omega
   · split at h
     · rename_i h2;exact WL.1 h2
     · omega
 · rintro rfl;rw [Wt,WL.2 rfl];rfl
theorem JO {a b:ByteArray}:ZS a b<0↔strLt a b=true:=by
 unfold ZS
 constructor
 · intro h;split at h
   · assumption
   · split at h<;>omega
 · intro h;rw [h,UB rfl];decide
theorem WV:∀{l m:List ByteArray},cmpStrs l m=0↔l=m
 |[],[]=>by simp [cmpStrs]
 |[],_::_=>by simp [cmpStrs]
 |_::_,[]=>by simp [cmpStrs]
 | a ::l,b::m=>by
   rw [cmpStrs];split
   · rename_i h;rw [WV,Wz.1 h];simp
   · rename_i h;constructor
     · intro h';exact UC h' h
     · intro h';cases h';exact UC (Wz.2 rfl) h
def ltW (l m:List ByteArray):Bool:=decide (cmpStrs l m<0)
theorem OU {a b:ByteArray} {l m:List ByteArray}:ltW (a::l) (b::m)=true↔strLt a b=true∨(a=b∧ltW l m=true):=by
 unfold ltW
 rw [cmpStrs]
 split
 · rename_i h;have:=Wz.1 h;subst this;simp [Wt]
 · rename_i h;rw [Ux,JO];constructor
   · exact .inl
   · rintro (h1|⟨rfl,_⟩)
     · exact h1
     · exact UC (Wz.2 rfl) h
theorem L8 (l:List ByteArray):ltW l l=false:=by unfold ltW;rw [WV.2 rfl];rfl
theorem GB:∀{a b c:List ByteArray},ltW a b=true→ltW b c=true→ltW a c=true
 |_,b,[],_,h=>by cases b<;>simp [ltW,cmpStrs] at h
 |a,[],_::_,h,_=>by cases a<;>simp [ltW,cmpStrs] at h
 |[],_::_,_::_,_,_=>by simp [ltW,cmpStrs]
 | x ::a,y::b,z::c,h1,h2=>by
   rw [OU] at h1 h2 ⊢;rcases h1 with h1|⟨rfl,h1⟩
   · rcases h2 with h2|⟨rfl,h2⟩
     · exact .inl (Wy h1 h2)
     · exact .inl h1
   · rcases h2 with h2|⟨rfl,h2⟩
     · exact .inl h2
     · exact .inr ⟨rfl,GB h1 h2⟩
theorem Lz:∀{a b:List ByteArray},ltW a b=false→ltW b a=false→a=b
 |[],[],_,_=>rfl
 |[],_::_,h,_=>by simp [ltW,cmpStrs] at h
 |_::_,[],_,h=>by simp [ltW,cmpStrs] at h
 | x::a,y::b,h1,h2=>by
   have g1:¬(strLt x y=true∨(x=y∧ltW a b=true)):=fun h=>by rw [OU.2 h] at h1;cases h1
   have g2:¬(strLt y x=true∨(y=x∧ltW b a=true)):=fun h=>by rw [OU.2 h] at h2;cases h2
   have hxy:x=y:=KE (by cases h:strLt x y with|false=>rfl|true=>exact UC (.inl h) g1) (by cases h:strLt y x with|false=>rfl|true=>exact UC (.inl h) g2);subst hxy;rw [Lz (a:=a) (b:=b) (by cases h:ltW a b with|false=>rfl|true=>exact UC (.inr ⟨rfl,h⟩) g1) (by cases h:ltW b a with|false=>rfl|true=>exact UC (.inr ⟨rfl,h⟩) g2)]
def bump:List Var→List ByteArray→Int→List Var
 |[],w,n=>[⟨w,n⟩]
 |x::r,w,n=>if x.acts=w then ⟨x.acts,x.count+n⟩::r else x::bump r w n
def Asc (r:List Var):Prop:=r.Pairwise fun x y=>ltW x.acts y.acts=true
theorem OV {w:List ByteArray} {n:Int}:∀{r:List Var} {x:Var},x∈KW r w n→x.acts=w∨x∈r
 |[],x,h=>by simp [KW] at h;exact .inl (by rw [h])
 | y :: r,x,h=>by
   rw [KW] at h;split at h
   · rcases Xi.1 h with rfl|h
     · exact .inr sM
     · exact (OV h).imp id fun h=>by simp [h]
   · split at h
     · rcases Xi.1 h with rfl|h
       · exact .inl rfl
       · exact .inr (by simp [h])
     · rcases Xi.1 h with rfl|h
       · exact .inl rfl
       · exact .inr h
theorem OW {w:List ByteArray} {n:Int}:∀{r:List Var},Asc r→Asc (KW r w n)
 |[],_=>by simp [KW,Asc]
 | x :: r, h=>by
   have hx:=XE.1 h;rw [KW];split
   · rename_i hc;refine XE.2 ⟨fun y hy=>?_,OW hx.2⟩;rcases OV hy with h1|h1
     · rw [h1];simpa [ltW] using hc
     · exact hx.1 y h1
   · split
     · rename_i hc;have hw:x.acts=w:=WV.1 hc;refine XE.2 ⟨fun y hy=>?_,hx.2⟩;show ltW w y.acts=true;rw [←hw];exact hx.1 y hy
     · rename_i h1 h2;have hlt:ltW w x.acts=true:=by
        cases h3:ltW w x.acts with
        |true=>rfl
        | false=>
          (have h4:ltW x.acts w=false:=by simpa [ltW] using h1);exact UC (WV.2 (Lz h4 h3)) h2
       refine XE.2 ⟨fun y hy=>?_,h⟩;rcases Xi.1 hy with rfl|hy
       · exact hlt
       · exact GB hlt (hx.1 y hy)
def Nodup (r:List Var):Prop:=r.Pairwise fun x y=>x.acts≠y.acts
theorem Asc.nodup {r:List Var} (h:Asc r):Nodup r:=h.imp fun {x y} h e=>by rw [e,L8] at h;cases h
theorem Nodup.perm {r s:List Var} (h:Nodup r) (p:r.Perm s):Nodup s:=(p.pairwise_iff (fun {x y} h=>Ne.symm h)).1 h
theorem RO {w:List ByteArray} {n:Int}:∀{r:List Var},(∀x∈r,x.acts≠w)→bump r w n=r++[⟨w,n⟩]
 |[],_=>rfl
 |x::r,h=>by rw [bump,UA (h x sM),RO fun y hy=>h y (by simp [hy])];rfl
theorem Zdh {w:List ByteArray} {n:Int} {r s:List Var} (hn:Nodup r) (p:r.Perm s):(bump r w n).Perm (bump s w n):=by
 induction p with
 |nil=>exact .refl _
 | cons x p ih=>
   have h:=XE.1 hn;simp only [bump];split
   · exact p.cons _
   · exact (ih h.2).cons _
 | swap x y l=>
   have h:=XE.1 hn;have hxy:y.acts≠x.acts:=h.1 x sM;simp only [bump];by_cases h1:y.acts=w
   · have h2:x.acts≠w:=fun e=>hxy (h1.trans e.symm);rw [UB h1,UA h2,UB h1];exact .swap ..
   · by_cases h2:x.acts=w
     · rw [UA h1,UB h2,UB h2];exact .swap ..
     · rw [UA h1,UA h2,UA h2,UA h1];exact .swap ..
 |trans p q ih1 ih2=>exact (ih1 hn).trans (ih2 (hn.perm p))
theorem CL {w:List ByteArray} {n:Int}:∀{r:List Var},Asc r→(KW r w n).Perm (bump r w n)
 |[],_=> .refl _
 | x :: r, h=>by
   have hx:=XE.1 h;rw [KW,bump];split
   · rename_i hc;(have hne:x.acts≠w:=fun e=>by rw [WV.2 e] at hc;omega);rw [UA hne];exact (CL hx.2).cons _
   · split
     · rename_i hc;have hw:x.acts=w:=WV.1 hc;rw [UB hw,hw]
     · rename_i h1 h2;have hne:x.acts≠w:=fun e=>h2 (WV.2 e);have hlt:ltW w x.acts=true:=by
        cases h3:ltW w x.acts with
        |true=>rfl
        | false=>
          (have h4:ltW x.acts w=false:=by simpa [ltW] using h1);exact UC (WV.2 (Lz h4 h3)) h2
       rw [UA hne,RO fun y hy e=>by
        have h5:=GB hlt (hx.1 y hy);rw [e,L8] at h5;cases h5]
       have:=(List.perm_append_comm (l₁:=[(⟨w,n⟩:Var)]) (l₂:=x::r));simpa using this
theorem OX:∀{r s:List Var},Asc r→Asc s→r.Perm s→r=s
 |[],s,_,_,p=>(List.nil_perm.1 p).symm
 |x::r,[],_,_,p=>UC p.length_eq sM
 | x :: r,y::s,hr,hs,p=>by
   have h1:=XE.1 hr;have h2:=XE.1 hs;have hxy:x=y:=by
    have hx:x∈y::s:=p.mem_iff.1 sM;have hy:y∈x::r:=p.mem_iff.2 sM;rcases Xi.1 hx with e|hx
    · exact e
    · rcases Xi.1 hy with e|hy
      · exact e.symm
      · have a:=h2.1 x hx;have b:=h1.1 y hy;have:=GB a b;rw [L8] at this;cases this
   subst hxy;rw [OX h1.2 h2.2 (List.Perm.cons_inv p)]
theorem CM {r s t:List Var} (h1:Asc s) (h2:r.Perm s) (h3:Asc t) (h4:t.Perm r):t=s:=OX h3 h1 (h4.trans h2)
theorem Zdi {w:List ByteArray} {n:Int} {r s:List Var} (h1:Asc s) (h2:r.Perm s):(bump r w n).Perm (KW s w n):=
 (Zdh ((h1.nodup).perm h2.symm) h2).trans (CL h1).symm
end Go.Cb
namespace Go.Proofs.YtmkojdfiadbeeaaGreat
open Go.RowKit Go.Cb Go.En Tryz
set_option linter.all false
theorem Zaz (x y:ByteArray):ZS x y= -1∨ZS x y=0∨ZS x y=1:=by
 have:=Zc3 x y;omega
theorem L9 (x y:ByteArray):(strLt x y=true∧strLt y x=false∧x≠y∧ZS x y= -1∧ZS y x=1)∨(x=y∧ZS x y=0∧ZS y x=0)∨(strLt y x=true∧strLt x y=false∧x≠y∧ZS x y=1∧ZS y x= -1):=by
 have hno:∀{a b:ByteArray},strLt a b=true→strLt b a=false∧a≠b:=fun {a b} h=>by
  have h1:=Wt a;have h2:=Wt b;refine ⟨?_,fun e=>by subst e;rw [h] at h1;cases h1⟩
  cases h3:strLt b a with
  |false=>rfl
  |true=>rw [Wy h h3] at h1;cases h1
 have heq:∀a:ByteArray,Ka a a=true:=fun a=>WL.2 rfl
 have hne:∀{a b:ByteArray},a≠b→Ka a b=false:=fun {a b} h=>by
  cases h1:Ka a b with
  |false=>rfl
  |true=>exact UC (WL.1 h1) h
 unfold ZS
 cases h:strLt x y with
 | true=>
   obtain ⟨h1,h2⟩:=hno h;refine .inl ⟨rfl,h1,h2,sM,?_⟩;rw [h1,hne (Ne.symm h2)];rfl
 | false=>
   cases h':strLt y x with
   | true=>
     obtain ⟨h1,h2⟩:=hno h';refine .inr (.inr ⟨rfl,rfl,Ne.symm h2,?_,sM⟩);rw [hne (Ne.symm h2)];rfl
   | false=>
     have e:=KE h h';subst e;refine .inr (.inl ⟨rfl,?_,?_⟩)<;>simp [heq]
theorem CN (x y:ByteArray):ZS y x= -ZS x y:=by
 rcases L9 x y with ⟨_,_,_,h1,h2⟩|⟨_,h1,h2⟩|⟨_,_,_,h1,h2⟩<;>omega
theorem Ta (x y:ByteArray):ZS x y=0↔x=y:=by
 rcases L9 x y with ⟨_,_,h0,h1,h2⟩|⟨h0,h1,h2⟩|⟨_,_,h0,h1,h2⟩
 · exact ⟨fun h=>oM,fun h=>UC h h0⟩
 · exact ⟨fun _=>h0,fun _=>h1⟩
 · exact ⟨fun h=>oM,fun h=>UC h h0⟩
theorem RP {x y:ByteArray}:ZS x y= -1↔strLt x y=true:=by
 rcases L9 x y with ⟨h0,_,_,h1,h2⟩|⟨h0,h1,h2⟩|⟨_,h0,_,h1,h2⟩
 · exact ⟨fun _=>h0,fun _=>h1⟩
 · subst h0;rw [Wt];exact ⟨fun h=>oM,fun h=>by cases h⟩
 · rw [h0];exact ⟨fun h=>oM,fun h=>by cases h⟩
theorem ZaA (x y z:ByteArray) (h:ZS x y= -1) (h':ZS y z= -1):ZS x z= -1:=RP.2 (Wy (RP.1 h) (RP.1 h'))
inductive Nd where
 |mk (op:Int) (act:ByteArray) (l:List Nd)
section
def Nd.op:Nd→Int
 | .mk o _ _=>o
def Nd.act:Nd→ByteArray
 | .mk _ a _=>a
def Nd.l:Nd→List Nd
 | .mk _ _ l=>l
theorem Nd.ind {P:Nd→Prop} (h:∀o a l,(∀x∈l,P x)→P (.mk o a l)):∀t,P t:=fun t=>
 Nd.rec (motive_1:=P) (motive_2:=fun l=>∀x∈l,P x) (fun o a l ih=>h o a l ih) (fun _ hx=>by cases hx) (fun x l hx hl y hy=>by
  rcases Xi.1 hy with rfl|hy
  · exact hx
  · exact hl y hy) t
def Jv (a b:Int):Int:=if a<b then-1 else if b<a then 1 else 0
def or3 (a b c:Int):Int:=if a≠0 then a else if b≠0 then b else c
mutual
def Wd:Nd→Nd→Int
 | .mk o a l, .mk o' a' l'=>or3 (Jv o o') (ZS a a') (Kp l l')
def Kp:List Nd→List Nd→Int
 |[],[]=>0
 |[],_::_=> -1
 |_::_,[]=>1
 |x::l,y::m=>if Wd x y≠0 then Wd x y else Kp l m
end
theorem Zdj (a b:Int):Jv a b= -1∨Jv a b=0∨Jv a b=1:=by unfold Jv;split<;>(try split)<;>omega
theorem ZaB (a b:Int):Jv b a= -Jv a b:=by unfold Jv;split<;>(try split)<;>(try split)<;>omega
theorem SB (a b:Int):Jv a b=0↔a=b:=by unfold Jv;split<;>(try split)<;>omega
theorem Zfp (a b c:Int) (h:Jv a b= -1) (h':Jv b c= -1):Jv a c= -1:=by
 unfold Jv at*
 split at h
 · split at h'
   · rw [UB oM]
   · split at h'<;>omega
 · split at h<;>omega
theorem ZhG {a b c:Int} (ha:a= -1∨a=0∨a=1) (hb:b= -1∨b=0∨b=1) (hc:c= -1∨c=0∨c=1):or3 a b c= -1∨or3 a b c=0∨or3 a b c=1:=by unfold or3;split<;>(try split)<;>omega
theorem ZhH (a b c:Int):or3 (-a) (-b) (-c)= -or3 a b c:=by unfold or3;split<;>split<;>(try split)<;>(try split)<;>omega
theorem Zfq {a b c:Int}:or3 a b c=0↔a=0∧b=0∧c=0:=by unfold or3;split<;>(try split)<;>omega
theorem Zju {a b c:Int}:or3 a b c= -1↔a= -1∨(a=0∧(b= -1∨(b=0∧c= -1))):=by unfold or3;split<;>(try split)<;>omega
theorem CO:∀(l:List Nd),(∀x∈l,∀y,Wd x y= -1∨Wd x y=0∨Wd x y=1)→∀m,Kp l m= -1∨Kp l m=0∨Kp l m=1
 |[],_,m=>by cases m<;>simp [Kp]
 | x ::l,h,m=>by
   cases m with
   |nil=>simp [Kp]
   | cons y m=>
     rw [Kp];split
     · exact h x (XQ ..) y
     · exact CO l (fun y hy=>h y (XS _ hy)) m
theorem Hz:∀(l:List Nd),(∀x∈l,∀y,Wd y x= -Wd x y)→∀m,Kp m l= -Kp l m
 |[],_,m=>by cases m<;>simp [Kp]
 | x ::l,h,m=>by
   cases m with
   |nil=>simp [Kp]
   | cons y m=>
     rw [Kp,Kp,h x (XQ ..) y];have ih:=Hz l (fun y hy=>h y (XS _ hy)) m;by_cases h0:Wd x y=0
     · rw [UA oM,UA oM];exact ih
     · rw [UB oM,UB h0]
theorem HA:∀(l:List Nd),(∀x∈l,∀y,Wd x y=0↔x=y)→∀m,Kp l m=0↔l=m
 |[],_,m=>by cases m<;>simp [Kp]
 | x :: l,h,m=>by
   cases m with
   |nil=>simp [Kp]
   | cons y m=>
     rw [Kp];have h1:=h x (XQ ..) y;have ih:=HA l (fun y hy=>h y (XS _ hy)) m;by_cases h0:Wd x y=0
     · rw [UA oM,ih,h1.1 h0];simp
     · rw [UB h0];exact ⟨fun h=>UC h h0,fun h=>UC (h1.2 (List.cons.inj h).1) h0⟩
theorem TC:∀(x y:Nd),Wd x y= -1∨Wd x y=0∨Wd x y=1:=Nd.ind fun o a l ih y=>by
 obtain ⟨o',a',l'⟩:=y
 rw [Wd]
 exact ZhG (Zdj _ _) (Zaz _ _) (CO l ih _)
theorem HB:∀(x y:Nd),Wd y x= -Wd x y:=Nd.ind fun o a l ih y=>by
 obtain ⟨o',a',l'⟩:=y
 rw [Wd,Wd,ZaB,CN,Hz l ih,ZhH]
theorem KN:∀(x y:Nd),Wd x y=0↔x=y:=Nd.ind fun o a l ih y=>by
 obtain ⟨o',a',l'⟩:=y
 rw [Wd,Zfq,SB,Ta,HA l ih]
 exact ⟨fun ⟨h1,h2,h3⟩=>by rw [h1,h2,h3],fun h=>by injection h with h1 h2 h3;exact ⟨h1,h2,h3⟩⟩
theorem ZbL :∀(l:List Nd),(∀x∈l,∀y z,Wd x y= -1→Wd y z= -1→Wd x z= -1)→∀m n,Kp l m= -1→Kp m n= -1→Kp l n= -1
 | [],_,m,n,h1,h2=>by
   cases m with
   |nil=>rw [Kp] at h1;omega
   | cons y m=>
     cases n with
     |nil=>rw [Kp] at h2;omega
     |cons z n=>rw [Kp]
 | x :: l, h,m,n,h1,h2=>by
   cases m with
   |nil=>rw [Kp] at h1;omega
   | cons y m=>
     cases n with
     |nil=>rw [Kp] at h2;omega
     | cons z n=>
       rw [Kp] at h1 h2 ⊢;have ih:=ZbL l (fun y hy=>h y (XS _ hy)) m n;by_cases h0:Wd x y=0
       · have e:=(KN x y).1 h0;subst e;rw [UA oM] at h1;by_cases h3:Wd x z=0
         · rw [UA oM] at h2 ⊢;exact ih h1 h2
         · rw [UB h3] at h2 ⊢;exact h2
       · rw [UB h0] at h1;by_cases h3:Wd y z=0
         · have e:=(KN y z).1 h3;subst e;rw [UB oM];exact h1
         · rw [UB h3] at h2;have:=h x (XQ ..) y z h1 h2;rw [UB oM];exact this
theorem ZbM:∀(x y z:Nd),Wd x y= -1→Wd y z= -1→Wd x z= -1:=Nd.ind fun o a l ih y z h1 h2=>by
 obtain ⟨o',a',l'⟩:=y
 obtain ⟨o2,a2,l2⟩:=z
 rw [Wd,Zju] at h1 h2 ⊢
 rcases h1 with h1|⟨e1,h1⟩
 · rcases h2 with h2|⟨e2,_⟩
   · exact .inl (Zfp _ _ _ h1 h2)
   · rw [←(SB _ _).1 e2];exact .inl h1
 · rw [(SB _ _).1 e1];rcases h2 with h2|⟨e2,h2⟩
   · exact .inl h2
   · refine .inr ⟨e2,?_⟩;rcases h1 with h1|⟨e1,h1⟩
     · rcases h2 with h2|⟨e2,_⟩
       · exact .inl (ZaA _ _ _ h1 h2)
       · rw [←(Ta _ _).1 e2];exact .inl h1
     · rw [(Ta _ _).1 e1];rcases h2 with h2|⟨e2,h2⟩
       · exact .inl h2
       · exact .inr ⟨e2,ZbL l ih _ _ h1 h2⟩
def leT (x y:Nd):Prop:=Wd x y≠1
theorem K0 (x:Nd):leT x x:=by
 have:=(KN x x).2 rfl
 unfold leT;omega
theorem CP {x y:Nd} (h:leT x y) (h':leT y x):x=y:=by
 unfold leT at*
 have:=HB x y
 have:=TC x y
 exact (KN x y).1 oM
theorem ZbN {x y:Nd}:leT x y↔Wd x y= -1∨x=y:=by
 unfold leT
 have:=TC x y
 rw [←KN x y];omega
theorem Ku {x y z:Nd} (h:leT x y) (h':leT y z):leT x z:=by
 rw [ZbN] at*
 rcases h with h|rfl
 · rcases h' with h'|rfl
   · exact .inl (ZbM x y z h h')
   · exact .inl h
 · exact h'
theorem ZbO {x y:Nd}:¬Wd x y<0↔leT y x:=by
 unfold leT
 have:=HB x y
 have:=TC x y
 omega
end
section
mutual
def szT:Nd→Nat
 | .mk _ _ l=>1+szL l
def szL:List Nd→Nat
 |[]=>0
 |x::l=>szT x+szL l
end
mutual
def dpT:Nd→Nat
 | .mk _ _ l=>1+dpL l
def dpL:List Nd→Nat
 |[]=>0
 |x::l=>max (dpT x) (dpL l)
end
theorem GR (l m:List Nd):szL (l++m)=szL l+szL m:=by
 induction l with
 |nil=>simp [szL]
 |cons x l ih=>rw [XX,szL,szL,ih,Vf]
theorem OY {l:List Nd} {k:Nat} {x:Nd} (h:l[k]? =some x):szL (l.take (k+1))=szL (l.take k)+szT x:=by
 rw [List.take_add_one,h,GR];simp [szL]
theorem ZbP (t:Nd):1≤szT t:=by cases t;rw [szT];omega
theorem S8 {l:List Nd} {x:Nd} (h:x∈l):szT x≤szL l:=by
 induction l with
 |nil=>cases h
 | cons y l ih=>
   rw [szL];rcases Xi.1 h with rfl|h
   · omega
   · have:=ih h;omega
theorem ZhI {l:List Nd} {x:Nd} (h:x∈l):dpT x≤dpL l:=by
 induction l with
 |nil=>cases h
 | cons y l ih=>
   rw [dpL];rcases Xi.1 h with rfl|h
   · omega
   · have:=ih h;omega
theorem Zjv {l:List Nd} {n:Nat}:dpL l≤n↔∀x∈l,dpT x≤n:=by
 induction l with
 |nil=>simp [dpL]
 |cons y l ih=>rw [dpL,Nat.max_le,ih];simp
def rightT (t:Nd):Bool:=
 if t.op=1 then t.l.isEmpty&&isName t.act else if t.op=2 then t.l.isEmpty&&decide (t.act=ByteArray.empty) else if t.op=3∨t.op=4∨t.op=5 then !t.l.isEmpty&&decide (t.act=ByteArray.empty)
 else if t.op=6 then decide (t.l.length=2)&&decide (t.act=ByteArray.empty) else false
mutual
def okT:Nd→Bool
 | .mk o a l=>rightT (.mk o a l)&&okL l
def okL:List Nd→Bool
 |[]=>true
 |x::l=>okT x&&okL l
end
theorem ZhJ {l:List Nd}:okL l=true↔∀x∈l,okT x=true:=by
 induction l with
 |nil=>simp [okL]
 |cons x l ih=>rw [okL,Xe,ih];simp
theorem Jw {t:Nd}:okT t=true↔rightT t=true∧∀x∈t.l,okT x=true:=by
 obtain ⟨o,a,l⟩:=t
 rw [okT,Xe,ZhJ];rfl
def JP (t:Nd) (most:Int) (d:Int):Bool:=okT t&&decide ((szT t:Int)≤most)&&decide (d+dpT t≤61)
theorem Zfr {t:Nd} {most d:Int} (h:most<1∨60<d∨rightT t=false):JP t most d=false:=by
 cases hm:JP t most d with
 |false=>rfl
 | true=>
   exfalso;unfold JP at hm;simp only [Xe,Ux] at hm;obtain ⟨⟨h1,h2⟩,h3⟩:=hm;have h4:=ZbP t;have h5:1≤dpT t:=by cases t;rw [dpT];omega
   rcases h with h|h|h
   · omega
   · omega
   · rw [(Jw.1 h1).1] at h;cases h
theorem CQ {t:Nd} {most d:Int} {k:Nat} {x:Nd} (hx:t.l[k]? =some x) (h:JP x (most-(1+szL (t.l.take k))) (d+1)=false):JP t most d=false:=by
 cases hm:JP t most d with
 |false=>rfl
 | true=>
   exfalso;unfold JP at hm h;simp only [Xe,Ux] at hm;obtain ⟨⟨h1,h2⟩,h3⟩:=hm;have hmem:=Xb hx;have e1:=(Jw.1 h1).2 x hmem;have e2:szL t.l=szL (t.l.take k)+szL (t.l.drop k):=by rw [←GR,VH]
   have e3:szT x≤szL (t.l.drop k):=S8 (Xb (show (t.l.drop k)[0]? =some x by rw [Vu];exact hx));have e4:szT t=1+szL t.l:=by cases t;rw [szT];rfl
   have e5:dpT t=1+dpL t.l:=by cases t;rw [dpT];rfl
   have e6:=ZhI hmem;rw [e1,Uy oM,Uy oM] at h
   cases h
theorem ZbQ {t:Nd} {most d:Int} (hr:rightT t=true) (h1:1≤most) (h2:d≤60) (h:∀k x,t.l[k]? =some x→JP x (most-(1+szL (t.l.take k))) (d+1)=true):JP t most d=true:=by
 have e4:szT t=1+szL t.l:=by cases t;rw [szT];rfl
 have e5:dpT t=1+dpL t.l:=by cases t;rw [dpT];rfl
 unfold JP at h ⊢
 have key:∀k x,t.l[k]? =some x→okT x=true∧(szT x:Int)≤most-(1+szL (t.l.take k))∧d+1+dpT x≤61:=fun k x hx=>by
  have:=h k x hx;simp only [Xe,Ux] at this;exact ⟨this.1.1,this.1.2,this.2⟩
 simp only [Xe,Ux]
 refine ⟨⟨Jw.2 ⟨hr,fun x hx=>?_⟩,?_⟩,?_⟩
 · obtain ⟨k,hk⟩:=XP hx;exact (key k x hk).1
 · rw [e4];rcases hn:t.l.length with _|n
   · have:t.l=[]:=Xw hn;rw [this];simp [szL];omega
   · obtain ⟨x,hx⟩:∃x,t.l[n]? =some x:=⟨_,Xp oM⟩;have e1:=(key n x hx).2.1;have e2:=OY hx;rw [Xy (show t.l.length≤n+1 by omega)] at e2;omega
 · rw [e5];have:dpL t.l≤(60-d).toNat:=Zjv.2 fun x hx=>by
    obtain ⟨k,hk⟩:=XP hx;have:=(key k x hk).2.2;omega
   omega
def Jx (t:Nd):Bool:=JP t 400 1
theorem ZaC {t:Nd} (h:Jx t=true):okT t=true:=by unfold Jx JP at h;simp only [Xe] at h;exact h.1.1
theorem ZaD {t:Nd} (h:Jx t=true):szT t≤400:=by unfold Jx JP at h;simp only [Xe,Ux] at h;omega
def CR (x:Nd):List Nd→List Nd
 |[]=>[x]
 |y::l=>if Wd y x<0 then y::CR x l else x::y::l
def EI (l:List Nd):List Nd:=l.foldl (fun m x=>CR x m) []
def J':List Nd→List Nd
 |[]=>[]
 | x::l=>match l with
   |[]=>[x]
   |y::m=>if Wd x y=0 then J' (y::m) else x::J' (y::m)
abbrev AscT (l:List Nd):Prop:=l.Pairwise fun x y=>leT x y
abbrev StrT' (l:List Nd):Prop:=l.Pairwise fun x y=>Wd x y<0
theorem Zi2 {x y:Nd} (h:Wd x y<0):leT x y:=by unfold leT;omega
theorem Zkt {x y:Nd} (h:Wd x y<0):x≠y:=fun e=>by have:=(KN x y).2 e;omega
theorem OZ {x y:Nd} (h:leT x y) (h':x≠y):Wd x y<0:=by
 rcases ZbN.1 h with h|h
 · omega
 · exact UC h h'
theorem RQ (x:Nd):∀l,(CR x l).Perm (x::l)
 |[]=>List.Perm.refl _
 | y::l=>by
   rw [CR];split
   · exact ((RQ x l).cons y).trans (List.Perm.swap ..)
   · exact List.Perm.refl _
theorem CS (x:Nd):∀l,AscT l→AscT (CR x l)
 |[],_=>Ui ..
 | y ::l,h=>by
   rw [CR];obtain ⟨h1,h2⟩:=XE.1 h;split
   · rename_i hl;refine XE.2 ⟨fun z hz=>?_,CS x l h2⟩;rcases Xi.1 ((RQ x l).mem_iff.1 hz) with rfl|hz
     · exact Zi2 hl
     · exact h1 z hz
   · rename_i hl;have hxy:leT x y:=ZbO.1 hl;refine XE.2 ⟨fun z hz=>?_,h⟩;rcases Xi.1 hz with rfl|hz
     · exact hxy
     · exact Ku hxy (h1 z hz)
theorem CU (l:List Nd):∀m,AscT m→AscT (l.foldl (fun m x=>CR x m) m)∧(l.foldl (fun m x=>CR x m) m).Perm (m++l):=by
 induction l with
 |nil=>intro m h;exact ⟨h,sM⟩
 | cons x l ih=>
   intro m h;rw [List.foldl_cons];obtain ⟨h1,h2⟩:=ih _ (CS x m h);refine ⟨h1,h2.trans ?_⟩;exact ((RQ x m).append_right l).trans (by
    rw [XX];exact (List.perm_middle (l₁:=m) (a:=x) (l₂:=l)).symm)
theorem S9 (l:List Nd):AscT (EI l):=(CU l [] List.Pairwise.nil).1
theorem JQ (l:List Nd):(EI l).Perm l:=by
 have:=(CU l [] List.Pairwise.nil).2
 rwa [VO] at this
theorem CV {l m:List Nd} (hl:AscT l) (hm:AscT m) (h:l.Perm m):l=m:=by
 exact List.Perm.eq_of_pairwise (fun a b _ _ h1 h2=>CP h1 h2) hl hm h
theorem ZhK {l m:List Nd} (hm:AscT m) (h:m.Perm l):m=EI l:=CV hm (S9 l) (h.trans (JQ l).symm)
theorem ZbR {l:List Nd} (h:StrT' l):AscT l:=h.imp fun h=>Zi2 h
theorem HE {l:List Nd} (h:StrT' l):l.Nodup:=h.imp fun h=>Zkt h
theorem CW {l m:List Nd} (hl:StrT' l) (hm:StrT' m) (h:∀z,z∈l↔z∈m):l=m:=
 CV (ZbR hl) (ZbR hm) ((List.perm_ext_iff_of_nodup (HE hl) (HE hm)).2 h)
theorem Jy:∀(l:List Nd) z,z∈J' l↔z∈l
 |[],z=>by simp [J']
 |[x],z=>by simp [J']
 | x ::y::m,z=>by
   rw [J'];split
   · rename_i h;rw [Jy (y::m),(KN x y).1 h];simp
   · rw [Xi,Jy (y::m)];simp
theorem GU:∀(l:List Nd),AscT l→StrT' (J' l)
 |[],_=>List.Pairwise.nil
 |[x],_=>Ui ..
 | x ::y::m,h=>by
   rw [J'];obtain ⟨h1,h2⟩:=XE.1 h;split
   · exact GU (y::m) h2
   · rename_i hn;refine XE.2 ⟨fun z hz=>?_,GU (y::m) h2⟩;have hz':=(Jy (y::m) z).1 hz;have hxz:=h1 z hz';refine OZ hxz fun e=>hn ?_;subst e;have hyx:leT y x:=by
      rcases Xi.1 hz' with h|h
      · rw [h];exact K0 y
      · exact (XE.1 h2).1 _ h
     exact (KN x y).2 (CP (h1 y (XQ ..)) hyx)
end
section
def D':Nd:= .mk 2 ByteArray.empty []
def Wj (op:Int) (l:List Nd):List Nd:=l.flatMap fun x=>if x.op=op then x.l else if x.op≠2∨op=4 then [x] else []
def Ha (op:Int):List Nd→Nd
 |[]=>D'
 |[x]=>x
 |x::y::l=> .mk op ByteArray.empty (x::y::l)
def LA (op:Int) (p:List Nd):List Nd:=if op=3 then p else if op=4 then J' (EI p) else EI p
def Ra (op:Int) (l:List Nd):Nd:=Ha op (LA op (Wj op l))
def KO (f s:Nd):Nd×Nd:=if f.op=6 then match f.l with
 |a::b::_=>(a,Ra 4 [b,s])
 |_=>(f,s) else (f,s)
def CX (p:Nd×Nd):Nd:=if p.1.op=2∧p.2.op=2 then D' else .mk 6 ByteArray.empty [p.1,p.2]
def Zjw:List Nd→Nd
 |f::s::_=>CX (KO f s)
 |_=>D'
def Hb (o:Int) (a:ByteArray) (l:List Nd):Nd:=if o=1∨o=2 then .mk o a [] else if o=6 then Zjw l else Ra o l
mutual
def Yg:Nd→Nd
 | .mk o a l=>Hb o a (Kl l)
def Kl:List Nd→List Nd
 |[]=>[]
 |x::l=>Yg x::Kl l
end
theorem Oh (l:List Nd):Kl l=l.map Yg:=by
 induction l with
 |nil=>rfl
 |cons x l ih=>rw [Kl,ih];rfl
structure NfN (t:Nd):Prop where
 rt:rightT t=true
 two:t.op≠6→∀x∈t.l,2≤t.l.length∧x.op≠t.op
 ns:t.op=3∨t.op=5→∀x∈t.l,x.op≠2
 xo:t.op=4→StrT' t.l
 an:t.op=5→AscT t.l
 lp:t.op=6→∃a b,t.l=[a,b]∧a.op≠6∧¬(a.op=2∧b.op=2)
inductive NF:Nd→Prop
 |mk (t:Nd) (h:NfN t) (hp:∀x∈t.l,NF x):NF t
theorem NF.n {t:Nd}:NF t→NfN t
 | .mk _ h _=>h
theorem NF.p {t:Nd}:NF t→∀x∈t.l,NF x
 | .mk _ _ h=>h
theorem NF.ok {t:Nd}:NF t→okT t=true
 | .mk _ h hp=>Jw.2 ⟨h.rt,fun x hx=>NF.ok (hp x hx)⟩
theorem RR {t:Nd} (h:rightT t=true):t.op=1∨t.op=2∨t.op=3∨t.op=4∨t.op=5∨t.op=6:=by
 unfold rightT at h
 by_cases h1:t.op=1
 · exact .inl h1
 · by_cases h2:t.op=2
   · exact .inr (.inl h2)
   · by_cases h3:t.op=3∨t.op=4∨t.op=5
     · omega
     · by_cases h4:t.op=6
       · omega
       · rw [UA h1,UA h2,UA h3,UA h4] at h;cases h
theorem Zdk:rightT D'=true:=by unfold rightT D';simp [Nd.op,Nd.l,Nd.act]
theorem ZbS {t:Nd} (hr:rightT t=true) (hl:t.l=[]) (ho:t.op=1∨t.op=2):NF t:=
 .mk t ⟨hr,fun _ x hx=>by (rw [hl] at hx;cases hx),fun h=>oM,fun h=>oM,fun h=>oM,fun h=>oM⟩ fun x hx=>by rw [hl] at hx;cases hx
theorem Zfs:NF D':=ZbS Zdk rfl (.inr rfl)
theorem ZhL {op:Int} {l:List Nd} (hl:∀x∈l,NF x) (ho:op=3∨op=4∨op=5) {y:Nd} (hy:y∈Wj op l):NF y∧y.op≠op∧(op≠4→y.op≠2):=by
 unfold Wj at hy
 obtain ⟨x,hx,hy⟩:=Uj.1 hy
 by_cases h1:x.op=op
 · rw [UB h1] at hy;have hn:=(hl x hx).n;refine ⟨(hl x hx).p y hy,?_,fun h4=>hn.ns oM y hy⟩;rw [←h1];exact (hn.two oM y hy).2
 · rw [UA h1] at hy;split at hy
   · rename_i h2;rw [XB] at hy;subst hy;exact ⟨hl _ hx,h1,fun h4=>oM⟩
   · cases hy
theorem ZhM {op:Int} {p:List Nd} {y:Nd}:y∈LA op p↔y∈p:=by
 unfold LA
 split
 · exact Iff.rfl
 · split
   · rw [Jy,(JQ p).mem_iff]
   · rw [(JQ p).mem_iff]
theorem Zjx {op:Int} (ho:op=3∨op=4∨op=5) {p:List Nd} (hp:∀y∈p,NF y∧y.op≠op∧(op≠4→y.op≠2)) (h4:op=4→StrT' p) (h5:op=5→AscT p):NF (Ha op p):=by
 match p,hp,h4,h5 with
 |[],_,_,_=>exact Zfs
 |[x],hp,_,_=>exact (hp x (XQ ..)).1
 | x::y::l,hp,h4,h5=>
   refine .mk _ ⟨?_,fun _ z hz=>⟨by simp [Ha,Nd.l],(hp z hz).2.1⟩,fun h z hz=>(hp z hz).2.2 (by simp only [Ha,Nd.op] at h;omega),fun h=>h4 h,fun h=>h5 h,fun h=>?_⟩ fun z hz=>(hp z hz).1
   · rcases ho with rfl|rfl|rfl<;>simp [rightT,Ha,Nd.op,Nd.l,Nd.act]
   · simp only [Ha,Nd.op] at h;omega
theorem ZbT {op:Int} (ho:op=3∨op=4∨op=5) {l:List Nd} (hl:∀x∈l,NF x):NF (Ra op l):=by
 refine Zjx ho (fun y hy=>ZhL hl ho (ZhM.1 hy)) (fun h=>?_) (fun h=>?_)
 · subst h;unfold LA;rw [UA dC,UB rfl];exact GU _ (S9 _)
 · subst h;unfold LA;rw [UA dC,UA dC];exact S9 _
theorem ZhN {p:Nd×Nd} (h1:NF p.1) (h2:NF p.2) (h6:p.1.op≠6):NF (CX p):=by
 unfold CX
 split
 · exact Zfs
 · rename_i h;refine .mk _ ⟨by simp [rightT,Nd.op,Nd.l,Nd.act],fun h=>UC rfl h,fun h=>?_,fun h=>?_,fun h=>?_,fun _=>⟨_,_,rfl,h6,h⟩⟩ fun x hx=>?_
   · simp [Nd.op] at h
   · simp [Nd.op] at h
   · simp [Nd.op] at h
   · rcases Xi.1 hx with rfl|hx
     · exact h1
     · rcases Xi.1 hx with rfl|hx
       · exact h2
       · cases hx
theorem ZhO {f s:Nd} (hf:NF f) (hs:NF s):NF (KO f s).1∧NF (KO f s).2∧(KO f s).1.op≠6:=by
 unfold KO
 by_cases h:f.op=6
 · rw [UB h];obtain ⟨a,b,hl,ha,_⟩:=hf.n.lp h;rw [hl];have hp:=hf.p;rw [hl] at hp;have hb:=hp b sM;refine ⟨hp a sM,ZbT oM fun x hx=>?_,ha⟩;rcases Xi.1 hx with rfl|hx
   · exact hb
   · rw [XB] at hx;subst hx;exact hs
 · rw [UA h];exact ⟨hf,hs,h⟩
theorem Zjy:∀(t:Nd),okT t=true→NF (Yg t):=Nd.ind fun o a l ih hok=>by
 obtain ⟨hr,hp⟩:=Jw.1 hok
 simp only [Nd.l] at hp
 have hl:∀x∈Kl l,NF x:=fun x hx=>by
  rw [Oh] at hx;obtain ⟨y,hy,rfl⟩:=Xr.1 hx;exact ih y hy (hp y hy)
 rw [Yg]
 unfold Hb
 split
 · rename_i h;refine ZbS ?_ rfl h;unfold rightT at hr ⊢;rcases h with rfl|rfl
   · simp [Nd.op,Nd.l,Nd.act] at hr ⊢;exact hr.2
   · simp [Nd.op,Nd.l,Nd.act] at hr ⊢;exact hr.2
 · split
   · rename_i h1 h;subst h;have hlen:l.length=2:=by
      unfold rightT at hr;simp [Nd.op,Nd.l,Nd.act] at hr;exact UD hr.1
     obtain ⟨x,y,rfl⟩:∃x y,l=[x,y]:=by
      match l,hlen with
      |[x,y],_=>exact ⟨x,y,rfl⟩
     rw [Kl,Kl,Kl] at hl ⊢;obtain ⟨g1,g2,g3⟩:=ZhO (hl (Yg x) sM) (hl (Yg y) sM);exact ZhN g1 g2 g3
   · rename_i h1 h2;exact ZbT (by have:=RR hr;simp only [Nd.op] at this;omega) hl
end
end Go.Proofs.YtmkojdfiadbeeaaGreat
