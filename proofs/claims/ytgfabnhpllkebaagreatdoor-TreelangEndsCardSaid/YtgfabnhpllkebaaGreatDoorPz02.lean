/-
  Walks of functions and plain laws of the chapter, as the claim needs them.
-/
import Derived.KernelRfl
import Derived.Test.YtgfabnhpllkebaaGreatDoorProg
import Derived.Maps.Own
import Derived.Maps.OwnOps
import Derived.Maps.OwnSet
import Derived.StringKeys
import Derived.Test.YtgfabnhpllkebaaGreatDoorPz01
namespace Go.En
open Go.RowKit Go.Cb
set_option linter.all false
section
variable {P:Program} {c:Ctx} {sL hP:List (Nat×Ent)} {o:Oper}
theorem Zcd {t k j:Nat} {x:Operand} {v:Value} {cs ps:List PV} (hT:AggT P t k=true) (ho:o.op= .load t x) (hx:ev sL x=some (v, .sptr j cs)) (hp:j+k≤cs.length) (hps:(cs.drop j).take k=ps):YE P (⟨sL,hP⟩:St) o (fun _=>True) (.agg ps):=hps▸Zeu hT ho hx hp
theorem Zce {t k j e k' n:Nat} {x:Operand} {h:Value} {q:PV} {cs ps:List PV} (l:Nat) (hT:AggT P t k=true) (ho:o.op= .load t x) (hx:ev sL x=some (padd (sbase h) j,q)) (hl:lk hP l=some (h, .own e k' n cs)) (hp:j+k≤cs.length) (hk:0<k) (hps:(cs.drop j).take k=ps) (hsh:ps.all isSh=true):YE P (⟨sL,hP⟩:St) o (fun _=>True) (.agg ps):=by
 subst hps;exact Zev l hT ho hx hl hp hsh hk
theorem ZlI {f:Nat} {caps:Array Operand} {es:List Ent} (ho:o.op= .makeFunc (.func f) #[] caps) (hx:evL sL caps.toList=some es):YE P (⟨sL,hP⟩:St) o (· = .func (.func f) #[] (es.map (·.1)).toArray) (.fn f (es.map (·.2))):=
 .exact fun M F a w H=>by
  obtain ⟨h1,h2⟩:=JE H hx;refine ⟨.fn f _ _ (by rw [Xd,Xd]) h2,?_⟩;have:caps.map a.eval=(es.map (·.1)).toArray:=by rw [←h1,←VD,Vv]
  simp [execOp,ho,Instr.makeFunc,this]
end
theorem WY {P:Program} {c:Ctx} {sL hP:List (Nat×Ent)} {Q:Exit→Act→World→Prop} {x:Code} {n:Nat} {v:Value} {cs:List PV} (t:Nat) (ht:lk sL t=some (v, .sl n cs)) (k:n≤9223372036854775807→aC P c x Q (⟨sL,hP⟩:St)):aC P c x Q (⟨sL,hP⟩:St):=fun a w H=>by
 obtain ⟨F,H'⟩:=id H
 have h1:=(H'.sl t _ _ ht).2
 have:n≤9223372036854775807:=by
  cases h1 with
  |emp=>omega
  |sl b off n c cs vs hn hc=>unfold maxLen at hc;omega
 exact k this a w H
abbrev pInt (n:Int):PV:= .val (.int .i64 n)
abbrev Z' (s:ByteArray):PV:= .val (.string s)
abbrev ZM (b:Bool):PV:= .val (.bool b)
def Yj (l:List ByteArray):PV:= .sl l.length (l.map Z')
def RX (l:List (List ByteArray)):PV:= .sl l.length (l.map Yj)
def pInts (l:List Int):PV:= .sl l.length (l.map pInt)
theorem Ym {α β:Type} {f:α→β} {l:List α} {i:Nat} {x:α} (h:l[i]? =some x):(l.map f)[i*1]? =some (f x):=by rw [Xw,Xm,h];rfl
theorem flat_len {α β:Type} {f:α→List β} {k:Nat} (hf:∀x,(f x).length=k):∀l:List α,(l.flatMap f).length=l.length*k
 |[]=>sM
 |x::l=>by rw [Xu,Xb,hf,flat_len hf l,Xk,VF];omega
theorem Yc {α β:Type} {f:α→List β} {k:Nat} (hf:∀x,(f x).length=k):∀(l:List α) (i:Nat) (x:α),l[i]? =some x→((l.flatMap f).drop (i*k)).take k=f x
 |[],i,x,h=>by simp at h
 | y::l,0,x,h=>by
   simp at h;subst h;rw [VB,VX,Xu,Uv (by rw [hf];exact Xj _),Xo (by rw [hf];exact Xj _)]
 | y::l,i+1,x,h=>by
   rw [Xu,VF,Nat.one_mul,Nat.add_comm,←List.drop_drop,List.drop_append_of_le_length (by rw [hf];exact Xj _),show (f y).drop k=[] from List.drop_of_length_le (by rw [hf];exact Xj _),Vp];exact Yc hf l i x (by simpa using h)
theorem LI {α β:Type} {f:α→List β} {k:Nat} (hf:∀x,(f x).length=k) {l:List α} {i:Nat} {x:α} (h:l[i]? =some x) {j:Nat} (hj:j<k):(l.flatMap f)[i*k+j]? =(f x)[j]? :=by
 rw [←Yc hf l i x h,X1 hj,Vo]
theorem Yz {α β:Type} {f:α→List β} {k:Nat} (hf:∀x,(f x).length=k) {l:List α} {i:Nat} {x:α} (h:l[i]? =some x):i*k+k≤(l.flatMap f).length:=by
 rw [flat_len hf]
 have:=Zf h
 have h1:(i+1)*k≤l.length*k:=Vw k this
 rw [VF,Nat.one_mul] at h1
 exact h1
theorem WL {α:Type} {l:List α} (h:l.length=1):∃a,l=[a]:=by
 match l,h with
 |[a],_=>exact ⟨a,rfl⟩
theorem WO {α:Type} {l:List α} (h:l.length=2):∃a b,l=[a,b]:=by
 match l,h with
 |[a,b],_=>exact ⟨a,b,rfl⟩
theorem Sg {α:Type} {l:List α} (h:l.length=3):∃a b d,l=[a,b,d]:=by
 match l,h with
 |[a,b,d],_=>exact ⟨a,b,d,rfl⟩
def keq:Value→Value→Bool
 | .string a, .string b=>a==b
 | .int k a, .int k' b=>decide (k=k')&&a==b
 | .bool a, .bool b=>a==b
 |_,_=>false
theorem Zcf {a b:ByteArray}:(a==b)=true↔a=b:=by
 obtain ⟨a⟩:=a
 obtain ⟨b⟩:=b
 rw [show ((⟨a⟩:ByteArray)==⟨b⟩)=(a==b) from rfl]
 simp
theorem Zjj {a b:Value} (h:keq a b=true):keq b a=true:=by
 cases a<;>cases b<;>simp_all [keq,Zcf]
def kok (kd:TypeDesc) (k:Value) (kv:List (Value×Value)):Prop:=∀x∈kv,Instr.sameNow kd k x.1=some (keq k x.1)
def WZ:List (Value×Value)→Value→Option Value
 |[],_=>none
 |x::l,k=>if keq k x.1 then some x.2 else WZ l k
def K5:List (Value×Value)→Value→Value→List (Value×Value)
 |[],k,v=>[(k,v)]
 |x::l,k,v=>if keq k x.1 then (k,v)::l else x::K5 l k v
def JX:List (Value×Value)→Value→Option Nat
 |[],_=>none
 |x::l,k=>if keq k x.1 then some 0 else (JX l k).map (· +1)
theorem S0 {kd:TypeDesc} {k:Value}:∀(l:List MapEntry) (i:Nat),kok kd k (l.map fun x=>(x.key,x.val))→
 Instr.findNow kd k l i=some (match JX (l.map fun x=>(x.key,x.val)) k,WZ (l.map fun x=>(x.key,x.val)) k with|some j,some v=>some (i+j,v)|_,_=>none)∧((JX (l.map fun x=>(x.key,x.val)) k).isSome=(WZ (l.map fun x=>(x.key,x.val)) k).isSome)
 |[],i,_=>⟨rfl,rfl⟩
 | e :: l,i,h=>by
   have h0:=h (e.key,e.val) sM;obtain ⟨h1,h2⟩:=S0 l (i+1) (fun x hx=>h x (by simp at hx ⊢;exact .inr hx));simp only at h0;simp only [Instr.findNow,h0,Xp,JX,WZ]
   cases hk:keq k e.key
   · simp only [VO,if_false];rw [h1]
     cases hm:JX (l.map fun x=>(x.key,x.val)) k with
     | none=>
       rw [hm] at h2
       cases hg:WZ (l.map fun x=>(x.key,x.val)) k with
       |none=>simp
       |some v=>rw [hg] at h2;simp at h2
     | some j=>
       rw [hm] at h2
       cases hg:WZ (l.map fun x=>(x.key,x.val)) k with
       |none=>rw [hg] at h2;simp at h2
       |some v=>simp;omega
   · simp
structure MpT (P:Program) (t ks e:Nat) (kd:TypeDesc) (z:Value):Prop where
 ht:P.underlying t=some (.map ks e)
 hk:P.underlying ks=some kd
 hkd:kd= .string∨∃k,kd= .int k
 hz:ZeroT P e z
section
variable {P:Program} {c:Ctx} {ops:Array Oper} {Q:Exit→Act→World→Prop} {rest:List Oper} {sL hP:List (Nat×Ent)} {o:Oper}
theorem K6 {ks:Nat} {kd:TypeDesc} (hk:P.underlying ks=some kd) (hkd:kd= .string∨∃k,kd= .int k) (b:Bool) (v:Value) (w:World):(Instr.checkKey b 10000 ks v).run P w= .ok () w:=by
 rw [show (10000:Nat)=9999+1 from rfl,Instr.checkKey]
 rcases hkd with rfl|⟨k,rfl⟩<;>simp [run_underlying hk]
theorem Kj {ks:Nat} {kd:TypeDesc} (hk:P.underlying ks=some kd) {k:Value} {es:Array MapEntry} (h:kok kd k (kvOf es)) (w:World):(Instr.findKey ks k es.toList).run P w= .ok (match JX (kvOf es) k,WZ (kvOf es) k with|some j,some v=>some (j,v)|_,_=>none) w:=by
 obtain ⟨h1,_⟩:=S0 es.toList 0 h
 unfold Instr.findKey
 simp only [Sem.run_bind,run_underlying hk,Result.andThen_ok,h1,Xv]
 rfl
theorem CO (kv:List (Value×Value)) (k:Value):(JX kv k).isSome=(WZ kv k).isSome:=by
 induction kv with
 |nil=>rfl
 | cons x l ih=>
   simp only [JX,WZ];split
   · rfl
   · simpa using ih
theorem O2 {t ks e:Nat} {kd:TypeDesc} {z:Value} (hT:MpT P t ks e kd z) {b clock:Nat} {es:Array MapEntry} {k:Value} (hb:Bool) {w:World} (h:w.heap[b]? =some (.map es clock)) (hk:kok kd k (kvOf es)):
 (Instr.lookup t (.map (some b)) k hb).run P w= .ok (if hb then .tuple #[(WZ (kvOf es) k).getD z, .bool (WZ (kvOf es) k).isSome] else (WZ (kvOf es) k).getD z) w:=by
 have hm:=CO (kvOf es) k
 unfold Instr.lookup
 simp only [Sem.run_bind,run_underlying hT.ht,Result.andThen_ok,getObj,Sem.run,h,K6 hT.hk hT.hkd,Kj hT.hk hk]
 cases h1:JX (kvOf es) k with
 | none=>
   rw [h1] at hm
   cases h2:WZ (kvOf es) k with
   |none=>cases hb<;>simp [Kj hT.hk hk,h1,h2,ZeroT.run hT.hz]
   |some v=>rw [h2] at hm;simp at hm
 | some j=>
   rw [h1] at hm
   cases h2:WZ (kvOf es) k with
   |none=>rw [h2] at hm;simp at hm
   |some v=>cases hb<;>simp [Kj hT.hk hk,h1,h2]
theorem Tr.map {M:BS} {w:World} {m:Value} {kv:List (Value×Value)} {F:BS} (h:Tr M w m (.omap kv) F):∃b es clock,m= .map (some b)∧kv=kvOf es∧w.heap[b]? =some (.map es clock)∧∀x,F x↔x=b:=by
 cases h with
 |shr h _=>cases h
 |omap b es clock h hF=>exact ⟨b,es,clock,rfl,rfl,h,hF⟩
theorem Zgl {t ks e:Nat} {kd:TypeDesc} {z:Value} {x y:Operand} {m k:Value} {kv:List (Value×Value)} {p q:PV} (l:Nat) (hT:MpT P t ks e kd z) (ho:o.op= .lookup t x y false) (hx:ev sL x=some (m,p)) (hl:lk hP l=some (m, .omap kv)) (hy:ev sL y=some (k,q)) (hk:kok kd k kv):
 YE P (⟨sL,hP⟩:St) o (· =(WZ kv k).getD z) (.val ((WZ kv k).getD z)):= .exact fun M F a w H=>by
 have hv:=(H.ev hx).1
 have hkv:=(H.ev hy).1
 obtain ⟨b,es,clock,rfl,rfl,h,_⟩:=(H.tr l _ _ hl).map
 exact ⟨.val _,by simp [execOp,ho,hv,hkv,O2 hT false h hk]⟩
theorem ZeB {t ks e:Nat} {kd:TypeDesc} {z:Value} {x y:Operand} {m k:Value} {kv:List (Value×Value)} {p q:PV} (l:Nat) (hT:MpT P t ks e kd z) (ho:o.op= .lookup t x y true) (hx:ev sL x=some (m,p)) (hl:lk hP l=some (m, .omap kv)) (hy:ev sL y=some (k,q)) (hk:kok kd k kv):
 YE P (⟨sL,hP⟩:St) o (· = .tuple [(WZ kv k).getD z, .bool (WZ kv k).isSome].toArray) (.tup [.val ((WZ kv k).getD z), .val (.bool (WZ kv k).isSome)]):= .exact fun M F a w H=>by
 have hv:=(H.ev hx).1
 have hkv:=(H.ev hy).1
 obtain ⟨b,es,clock,rfl,rfl,h,_⟩:=(H.tr l _ _ hl).map
 refine ⟨.tup _ _ rfl fun i x p hx hp=>?_,by simp [execOp,ho,hv,hkv,O2 hT true h hk]⟩
 match i with
 |0=>simp at hx hp;subst hx hp;exact .val _
 |1=>simp at hx hp;subst hx hp;exact .val _
 |i+2=>simp at hx
theorem ZeC {t ks e:Nat} {kd:TypeDesc} {z u:Value} {x y:Operand} {m k:Value} {kv:List (Value×Value)} {p q:PV} (l:Nat) (hT:MpT P t ks e kd z) (ho:o.op= .lookup t x y false) (hx:ev sL x=some (m,p)) (hl:lk hP l=some (m, .omap kv)) (hy:ev sL y=some (k,q)) (hk:kok kd k kv) (hu:(WZ kv k).getD z=u):
 YE P (⟨sL,hP⟩:St) o (· =u) (.val u):=hu▸Zgl l hT ho hx hl hy hk
theorem Tr.mapW {M:BS} {w:World} {m:Value} {kv:List (Value×Value)} {F:BS} (h:Tr M w m (.omap kv) F):∃b es clock,m= .map (some b)∧kv=kvOf es∧w.heap[b]? =some (.map es clock)∧(∀x,F x↔x=b)∧WfM es clock:=by
 cases h with
 |shr h _=>cases h
 |omap b es clock h hF hW=>exact ⟨b,es,clock,rfl,rfl,h,hF,hW⟩
theorem OD {es:Array MapEntry} {clock:Nat} {k v:Value} (h:WfM es clock):WfM (es.push {key:=k,val:=v,born:=clock}) (clock+1):=by
 refine ⟨fun x hx=>?_,?_⟩
 · rw [Array.toList_push,Xh,Xl] at hx;rcases hx with hx|rfl
   · have:=h.1 x hx;omega
   · exact Nat.lt_succ_self _
 · rw [Array.toList_push,Xr,Vx];refine ⟨h.2,sM,fun a ha b hb=>?_⟩;rw [Xp,Vg,Xl] at hb;obtain ⟨x,hx,rfl⟩:=Xg.1 ha;have:=h.1 x hx;dsimp only at hb;omega
theorem Ee {es:Array MapEntry} {clock j:Nat} (f:MapEntry→MapEntry) (hf:∀e,(f e).born=e.born) (h:WfM es clock):WfM (es.modify j f) clock:=by
 have e:(es.modify j f).toList.map (·.born)=es.toList.map (·.born):=by
  rw [Array.toList_modify];have:∀(l:List MapEntry) (j:Nat),(l.modify j f).map (·.born)=l.map (·.born):=fun l=>by
   induction l with
   |nil=>intro j;simp
   | cons a l ih=>intro j;cases j with
     |zero=>simp [hf]
     |succ j=>rw [List.modify_succ_cons,Xp,Xp,ih]
  exact this _ _
 refine ⟨fun x hx=>?_,e▸h.2⟩
 have h1:x.born∈es.toList.map (·.born):=e▸Xg.2 ⟨x,hx,rfl⟩
 obtain ⟨y,hy,hxy⟩:=Xg.1 h1
 have:=h.1 y hy
 omega
theorem O3 (es:Array MapEntry):(kvOf es).length=es.size:=by simp [kvOf]
theorem Zgm {t ks e:Nat} {x:Operand} {m:Value} {kv:List (Value×Value)} {p:PV} (l:Nat) (ht:P.underlying t=some (.map ks e)) (ho:o.op= .call {callee:= .builtin .len,args:= #[x],argTypes:= #[t]}) (hx:ev sL x=some (m,p)) (hl:lk hP l=some (m, .omap kv)):YE P (⟨sL,hP⟩:St) o (· = .int .i64 kv.length) (.val (.int .i64 kv.length)):= .exact fun M F a w H=>by
 have hv:=(H.ev hx).1
 obtain ⟨b,es,clock,rfl,rfl,h,_⟩:=(H.tr l _ _ hl).map
 exact ⟨.val _,by simp [execOp,ho,hv,resolve,invoke,builtin,Builtin.len_,run_underlying ht,getObj,Sem.run,h,goInt,O3]⟩
theorem Zgn {t:Nat} (d:Nat) (hw:ZT ops sL o=some true) (hd:o.dst=some d) (hn:d<c.nt) (ho:o.op= .makeMap t none) (hl:lk hP d=none)
 (k:∀m:Value,m.oneCell'=true→aL P c ops Q rest ⟨put d (m, .val m) sL,put d (m, .omap []) hP⟩):aL P c ops Q (o::rest) (⟨sL,hP⟩:St):=
 Yy hw fun a w F H=>by
  have key:HoldsF c ⟨put d (.map (some w.heap.size), .val (.map (some w.heap.size))) sL,put d (.map (some w.heap.size), .omap []) hP⟩ (fun l'=>if l'=d then (fun b=>b=w.heap.size) else F l') (a.put (some d) (.map (some w.heap.size))) (w.alloc (.map #[] 0)):=by
   refine H.change (fun l'=>l'=d) hn ((Ext.alloc _ _).chg) (fun l' x hne hx'=>?_) (fun l' x b hT hx' hb=>?_) (fun hm l' u q hT hx'=>?_) (fun l1 l2 _ _ _ h1 h2 hne=>UU (h1.trans h2.symm) hne) (fun hm=> .val _)
   · rcases Ya hx' with ⟨e1,_⟩|⟨_,e1⟩
     · exact UU e1.symm hne
     · exact ⟨e1,by simp [hne]⟩
   · subst hT;simp only [if_true] at hb;exact .inr (by rw [hb];exact Xj _)
   · subst hT;rw [ZW] at hx'
     cases hx';simp only [if_true];refine .omap w.heap.size #[] 0 ?_ (fun x=>Iff.rfl) ⟨sM,sM⟩;show (w.heap.push _)[w.heap.size]? =_;simp
  unfold Oper.wp execOp;simp [ho,Instr.makeMap,newObj,Sem.run,hd,Oper.upon];exact k _ rfl _ _ ⟨_,key⟩
theorem Ef {es:Array MapEntry} {k v:Value}:∀{j:Nat},JX (kvOf es) k=some j→kvOf (es.modify j fun e=>{e with key:=k,val:=v})=K5 (kvOf es) k v:=by
 have key:∀(l:List MapEntry) (j:Nat),JX (l.map fun x=>(x.key,x.val)) k=some j→(l.modify j fun e=>{e with key:=k,val:=v}).map (fun x=>(x.key,x.val))=K5 (l.map fun x=>(x.key,x.val)) k v:=by
  intro l;induction l with
  |nil=>intro j h;simp [JX] at h
  | cons e l ih=>
    intro j h;simp only [Xp,JX] at h;simp only [Xp,K5];split at h
    · rename_i hk
      cases h;simp [hk]
    · rename_i hk;rw [XA] at h;obtain ⟨j',h1,rfl⟩:=h;rw [US hk,List.modify_succ_cons,Xp,ih j' h1]
 intro j h
 unfold kvOf at h ⊢
 rw [Array.toList_modify]
 exact key _ j h
theorem Zdq {es:Array MapEntry} {k v:Value} {clock:Nat} (h:JX (kvOf es) k=none):kvOf (es.push {key:=k,val:=v,born:=clock})=K5 (kvOf es) k v:=by
 have key:∀kv:List (Value×Value),JX kv k=none→kv++[(k,v)]=K5 kv k v:=by
  intro kv;induction kv with
  |nil=>intro _;rfl
  | cons x l ih=>
    intro h;simp only [JX] at h;split at h
    · cases h
    · rename_i hk;rw [Option.map_eq_none_iff] at h;rw [K5,US hk,XW,ih h]
 rw [←key _ h]
 simp [kvOf]
def bits:Value→Bool
 | .string _| .int _ _| .bool _=>true
 |_=>false
theorem Eg {a b:Value} (hb:bits a=true) (h:keq b a=true):Instr.sameBits 10000 a b=true:=by
 have h:=Zjj h
 cases a<;>cases b<;>simp_all [keq,bits,Instr.sameBits]
theorem Zjk {t ks e:Nat} {kd:TypeDesc} {z:Value} {x y u:Operand} {m k v:Value} {kv:List (Value×Value)} {p q r:PV} (l:Nat) (hw:ZT ops sL o=some true) (hd:o.dst=none) (hT:MpT P t ks e kd z) (ho:o.op= .mapUpdate t x y u) (hx:ev sL x=some (m,p)) (hl:lk hP l=some (m, .omap kv)) (hy:ev sL y=some (k,q)) (hu:ev sL u=some (v,r)) (hk:kok kd k kv) (hbits:bits k=true)
 (kk:aL P c ops Q rest ⟨sL,put l (m, .omap (K5 kv k v)) hP⟩):aL P c ops Q (o::rest) (⟨sL,hP⟩:St):=
 Yy hw fun a w F H=>by
  have hxv:=(H.rd.ev hx).1;have hyv:=(H.rd.ev hy).1;have huv:=(H.rd.ev hu).1;obtain ⟨b,es,clock,rfl,rfl,hb,hFb,hWf⟩:=(H.tr l _ _ hl).mapW;have hm:=CO (kvOf es) k;have main:∀(es':Array MapEntry) (clock':Nat),WfM es' clock'→kvOf es'=K5 (kvOf es) k v→Holds c ⟨sL,put l (.map (some b), .omap (K5 (kvOf es) k v)) hP⟩ a {w with heap:=w.heap.setIfInBounds b (.map es' clock')}:=fun es' clock' hW' he=>by
   have hlt:=Yu hb;have hch:Chg (fun x=>x=b) w {w with heap:=w.heap.setIfInBounds b (.map es' clock')}:=⟨rfl,rfl,rfl,sM,fun i hi hne=>by
    rw [Uw (fun e=>hne e.symm)]⟩
   refine ⟨F,H.change0 (fun l'=>l'=l) (hch.wid fun x hx=> .inl ⟨l,_,rfl,hl,(hFb x).2 hx⟩) (fun l' x hne hx'=>?_) (fun l' x b' hT' hx' hb'=>?_) (fun hmm l' u q hT' hx'=>?_) (fun l1 l2 _ _ _ h1 h2 hne=>UU (h1.trans h2.symm) hne)⟩
   · rcases Ya hx' with ⟨e1,_⟩|⟨_,e1⟩
     · exact UU e1.symm hne
     · exact ⟨e1,rfl⟩
   · subst hT';exact .inl ⟨l',_,rfl,hl,hb'⟩
   · subst hT';rw [ZW] at hx'
     cases hx';rw [←he];exact .omap b es' clock' (by simp [hlt]) hFb hW'
  unfold Oper.wp execOp
  cases h1:JX (kvOf es) k with
  | none=>
    rw [h1] at hm
    cases h2:WZ (kvOf es) k with
    |some v=>rw [h2] at hm;simp at hm
    | none=>
      simp [ho,hxv,hyv,huv,Instr.mapUpdate,run_underlying hT.ht,getObj,setObj,Sem.run,hb,K6 hT.hk hT.hkd,Kj hT.hk hk,h1,h2,Oper.upon,hd,Act.put];exact kk _ _ (main _ _ (OD hWf) (Zdq h1))
  | some j =>
    rw [h1] at hm
    cases h2:WZ (kvOf es) k with
    |none=>rw [h2] at hm;simp at hm
    | some v0=>
      have hj:∃e0,es[j]? =some e0∧keq k e0.key=true:=by
       have key:∀(l:List MapEntry) (j:Nat),JX (l.map fun x=>(x.key,x.val)) k=some j→∃e0,l[j]? =some e0∧keq k e0.key=true:=by
        intro l;induction l with
        |nil=>intro j h;simp [JX] at h
        | cons e l ih=>
          intro j h;simp only [Xp,JX] at h;split at h
          · rename_i hk;cases h;exact ⟨e,rfl,hk⟩
          · rw [XA] at h;obtain ⟨j',h1,rfl⟩:=h;obtain ⟨e0,h3,h4⟩:=ih j' h1;exact ⟨e0,by simpa using h3,h4⟩
       obtain ⟨e0,h3,h4⟩:=key es.toList j h1;exact ⟨e0,by simpa using h3,h4⟩
      obtain ⟨e0,h3,h4⟩:=hj;have hb0:bits e0.key=true:=by
       cases k<;>simp [bits] at hbits<;>(generalize e0.key=y at h4 ⊢;cases y<;>simp_all [keq,bits])
      have hsb:=Eg hb0 h4;simp [ho,hxv,hyv,huv,Instr.mapUpdate,run_underlying hT.ht,getObj,setObj,Sem.run,hb,K6 hT.hk hT.hkd,Kj hT.hk hk,h1,h2,h3,Instr.keyThatStays,hsb,Oper.upon,hd,Act.put];exact kk _ _ (main _ _ (Ee _ (fun _=>rfl) hWf) (Ef h1))
end
def skv (es:List (ByteArray×Value)):List (Value×Value):=es.map fun x=>(.string x.1,x.2)
def ikv (es:List (Int×Value)):List (Value×Value):=es.map fun x=>(.int .i64 x.1,x.2)
theorem OE (kd:TypeDesc) (k:Value):kok kd k []:=fun x h=>by simp at h
theorem S1 (s:ByteArray) (es:List (ByteArray×Value)):kok .string (.string s) (skv es):=fun x h=>by
 simp [skv] at h
 obtain ⟨a,b,_,rfl⟩:=h
 rfl
theorem S2 (n:Int) (es:List (Int×Value)):kok (.int .i64) (.int .i64 n) (ikv es):=fun x h=>by
 simp [ikv] at h
 obtain ⟨a,b,_,rfl⟩:=h
 simp [Instr.sameNow,keq]
def JF {κ:Type} [DecidableEq κ]:List (κ×Value)→κ→Option Value
 |[],_=>none
 |x::l,k=>if k=x.1 then some x.2 else JF l k
def O4 {κ:Type} [DecidableEq κ]:List (κ×Value)→κ→Value→List (κ×Value)
 |[],k,v=>[(k,v)]
 |x::l,k,v=>if k=x.1 then (k,v)::l else x::O4 l k v
theorem Zgo (es:List (ByteArray×Value)) (s:ByteArray):WZ (skv es) (.string s)=JF es s:=by
 induction es with
 |nil=>rfl
 | cons x l ih=>
   simp only [skv,Xp,WZ,JF,keq,Zcf];rw [show List.map (fun x:ByteArray×Value=>(Value.string x.1,x.2)) l=skv l from rfl,ih]
theorem ζ4 (es:List (ByteArray×Value)) (s:ByteArray) (v:Value):K5 (skv es) (.string s) v=skv (O4 es s v):=by
 induction es with
 |nil=>rfl
 | cons x l ih=>
   simp only [skv,Xp,K5,O4,keq,Zcf];rw [show List.map (fun x:ByteArray×Value=>(Value.string x.1,x.2)) l=skv l from rfl,ih];by_cases h:s=x.1
   · rw [UT h,UT h];rfl
   · rw [US h,US h];rfl
theorem ζ5 (es:List (Int×Value)) (s:Int):WZ (ikv es) (.int .i64 s)=JF es s:=by
 induction es with
 |nil=>rfl
 | cons x l ih=>
   simp only [ikv,Xp,WZ,JF,keq];rw [show List.map (fun x:Int×Value=>(Value.int .i64 x.1,x.2)) l=ikv l from rfl,ih];simp
theorem ζ6 (es:List (Int×Value)) (s:Int) (v:Value):K5 (ikv es) (.int .i64 s) v=ikv (O4 es s v):=by
 induction es with
 |nil=>rfl
 | cons x l ih=>
   simp only [ikv,Xp,K5,O4,keq];rw [show List.map (fun x:Int×Value=>(Value.int .i64 x.1,x.2)) l=ikv l from rfl,ih];by_cases h:s=x.1
   · rw [UT h,UT (by simp [h])];rfl
   · rw [US h,US (by simp [h])];rfl
section
variable {P:Program} {ops:Array Oper} {Q:Exit→Act→World→Prop} {md:Region.Mode} {C:World→Prop} {Z:Nat→Bool}
def KD (P:Program) (md:Region.Mode) (ops:Array Oper) (Q:Exit→Act→World→Prop) (C:World→Prop) (Z:Nat→Bool):Nat→Array Bool→Act→World→Prop
 |0,listed,a,w=>Region.ready md ops listed=[]∧Q .normal a w
 | fuel+1,listed,a,w=>
   (Region.ready md ops listed=[]→Q .normal a w)∧
   ∀i∈Region.ready md ops listed,wpOp P ops (H9 Q) i (fun a' w'=>(Z i=true∨C w')∧KD P md ops Q C Z fuel (listed.setIfInBounds i true) a' w') a w
theorem O5:∀(fuel:Nat) (listed:Array Bool) (a:Act) (w:World),KD P md ops Q C Z fuel listed a w→wpAny P md ops Q fuel listed a w
 |0,_,_,_,h=>h
 |fuel+1,_,_,_,h=>⟨h.1,fun i hi=>Zb8 (wpOp_mono (fun a' w' h'=>O5 fuel _ a' w' h'.2) (h.2 i hi))⟩
def Ss (md:Region.Mode) (ops:Array Oper) (Z:Nat→Bool) (i:Nat):Bool:=(List.range ops.size).all fun z=> !Z z||ζW md ops z i
theorem S3 {i:Nat} {oi:Oper} {v:Value} (hi:ops[i]? =some oi) (hz:Ss md ops Z i=true)
 (hsel:∀(j:Nat) (o:Oper) cs b,ops[j]? =some o→o.op≠ .select cs b):
 ∀ (fuel:Nat) (listed:Array Bool) (a:Act) (w:World),
  (∀j oj,ops[j]? =some oj→j≠i→listed.getD j true=false→(∀e∈oj.after,Region.binds md e=true→e.on≠i)→oi.apart ops oj=true)→
  i∈Region.ready md ops listed→YieldsC P ops C oi v a→C w→
  KD P md ops Q C Z fuel (listed.setIfInBounds i true) (a.put oi.dst v) w→KD P md ops Q C Z (fuel+1) listed a w:=by
 intro fuel
 induction fuel with
 | zero=>
   intro listed a w _ hr hy hC H;refine ⟨fun h=>(by rw [h] at hr;cases hr),fun j hj=>?_⟩;by_cases hji:j=i
   · subst hji;exact YieldsIf.wpOp hi hy.ifS hC ⟨.inr hC,H⟩
   · have:=ready_mono hj hji;rw [H.1] at this
     cases this
 | succ fuel ih=>
   intro listed a w hfree hr hy hC H;refine ⟨fun h=>(by rw [h] at hr;cases hr),fun j hj=>?_⟩;by_cases hji:j=i
   · subst hji;exact YieldsIf.wpOp hi hy.ifS hC ⟨.inr hC,H⟩
   · have h1:=H.2 j (ready_mono hj hji);obtain ⟨hjun,oj,hoj,hall⟩:=mem_ready.1 hj;have hnot:∀e∈oj.after,Region.binds md e=true→e.on≠i:=fun e he hb heq=>by
      have h1:=hall e he hb;have h0:=(mem_ready.1 hr).1;rw [heq] at h1;rcases XF i listed.size with h'|h'
      · simp [h'] at h0 h1;rw [h0] at h1;cases h1
      · simp [Vj h'] at h1
     have hjz:Z j=false:=by
      cases hZ:Z j
      · rfl
      · exfalso;have hjs:j<ops.size:=by
         rcases XF j ops.size with h'|h'
         · exact h'
         · rw [Vj h'] at hoj;cases hoj
        have:=XB.1 hz j (Vi.2 hjs);rw [hZ] at this;simp only [Bool.not_true,Bool.false_or] at this;unfold ζW at this;rw [hoj] at this;obtain ⟨e,he,hb⟩:=Array.any_eq_true'.1 this;simp only [Xe,beq_iff_eq] at hb;exact hnot e he hb.1 hb.2
     have h2:=wpOp_putIf hoj (hfree j oj hoj hji hjun hnot) (fun cs b=>hsel i oi cs b hi) (fun cs b=>hsel j oj cs b hoj) (fun c a w h=>h) hy.ifS h1;have hfree':∀k ok,ops[k]? =some ok→k≠i→(listed.setIfInBounds j true).getD k true=false→
      (∀e∈ok.after,Region.binds md e=true→e.on≠i)→oi.apart ops ok=true:=fun k ok hk hki hun hno=>by
      refine hfree k ok hk hki ?_ hno;by_cases hjk:j=k
      · subst hjk;exact hjun
      · rw [getD_set_ne true hjk] at hun;exact hun
     refine wpOp_mono (fun a' w' h3=>?_) h2;obtain ⟨hy',hor,hK⟩:=h3;have hC':C w':=by
      rcases hor with h|h
      · rw [hjz] at h;cases h
      · exact h
     refine ⟨.inr hC',ih (listed.setIfInBounds j true) a' w' hfree' (ready_mono hr (Ne.symm hji)) hy' hC' ?_⟩;rw [Array.setIfInBounds_comm _ _ hji];exact hK
end
def Kk (K:List Nat):List (Nat×Ent)→List (Nat×Ent)
 |[]=>[]
 |(k,x)::l=>cond (K.elem k) ((k,x)::Kk K l) (Kk K l)
def Jl (K:List Nat):List (Nat×Ent)→List (Nat×Ent)
 |[]=>[]
 |(k,x)::l=>cond (K.elem k) (Jl K l) ((k,x)::Jl K l)
theorem G5 {K:List Nat} {t:Nat}:∀{l:List (Nat×Ent)} {x:Ent},lk (Kk K l) t=some x↔K.elem t=true∧lk l t=some x
 |[],x=>by simp [Kk,lk]
 | (k, y)::l,x=>by
   unfold Kk
   cases hk:K.elem k
   · simp only [cond_false,lk];rw [G5]
     cases hb:Nat.beq k t
     · simp
     · have:k=t:=XG hb;subst this;rw [hk];simp
   · simp only [cond_true,lk]
     cases hb:Nat.beq k t
     · simp only [cond_false];exact G5
     · have:k=t:=XG hb;subst this;rw [hk];simp
theorem Kx {K:List Nat} {t:Nat}:∀{l:List (Nat×Ent)} {x:Ent},lk (Jl K l) t=some x↔K.elem t=false∧lk l t=some x
 |[],x=>by simp [Jl,lk]
 | (k, y)::l,x=>by
   unfold Jl
   cases hk:K.elem k
   · simp only [cond_false,lk]
     cases hb:Nat.beq k t
     · simp only [cond_false];exact Kx
     · have:k=t:=XG hb;subst this;rw [hk];simp
   · simp only [cond_true,lk];rw [Kx]
     cases hb:Nat.beq k t
     · simp
     · have:k=t:=XG hb;subst this;rw [hk];simp
theorem ZeD {l m:List (Nat×Ent)} {t:Nat}:lk (l++m) t=match lk l t with|some x=>some x|none=>lk m t:=by
 induction l with
 |nil=>rfl
 | cons y l ih=>
   obtain ⟨k,y⟩:=y;simp only [XW,lk]
   cases Nat.beq k t
   · simp only [cond_false];exact ih
   · rfl
def nK (K:List Nat) (h:List (Nat×Ent)) (F:Nat→BS):BS:=fun b=>∃l x,K.elem l=false∧lk h l=some x∧F l b
def aD (P:Program) (c:Ctx) (ops:Array Oper) (Q:Exit→Act→World→Prop) (Z:Nat→Bool) (K:List Nat) (fuel:Nat) (listed:Array Bool) (st:St):Prop:=
 ∀a w F,HoldsF c st F a w→∀C:World→Prop,(∀W,Chg (nK K st.heap F) w W→C W)→KD P .any ops Q C Z fuel listed a w
section
variable {P:Program} {c:Ctx} {ops:Array Oper} {Q:Exit→Act→World→Prop} {Z:Nat→Bool} {K:List Nat} {fuel:Nat} {listed:Array Bool} {sL hP:List (Nat×Ent)} {o:Oper}
theorem JY {C C':World→Prop} (h:∀w,C' w→C w):∀(fuel:Nat) (listed:Array Bool) (a:Act) (w:World),KD P .any ops Q C' Z fuel listed a w→KD P .any ops Q C Z fuel listed a w
 |0,_,_,_,H=>H
 |fuel+1,_,_,_,H=>⟨H.1,fun i hi=>wpOp_mono (fun a' w' h'=>⟨h'.1.imp id (h w'),JY h fuel _ a' w' h'.2⟩) (H.2 i hi)⟩
theorem Z5 {id:Nat} {l:List Oper} (Z:Nat→Bool) (K:List Nat) (hm:P.follows .mixedOrders=true) (h:aD P c l.toArray Q Z K l.length (Array.replicate l.length false) (⟨sL,hP⟩:St)):aC P c (.region id l.toArray true) Q (⟨sL,hP⟩:St):=fun a w ⟨F,H⟩=>by
 refine wp_region_any hm (O5 (C:=fun _=>True) (Z:=Z) _ _ _ _ ?_)
 have:=h a w.drew F (H.up (Ext.drew w)) (fun _=>True) (fun _ _=>trivial)
 simpa using this
theorem YC (hr:Region.ready .any ops listed=[]) (h:aN c Q (⟨sL,hP⟩:St)):aD P c ops Q Z K fuel listed (⟨sL,hP⟩:St):=fun a w F H C hC=>by
 cases fuel with
 |zero=>exact ⟨hr,h a w ⟨F,H⟩⟩
 |succ n=>exact ⟨fun _=>h a w ⟨F,H⟩,fun i hi=>by rw [hr] at hi;cases hi⟩
theorem HoldsF.rdK {F:Nat→BS} {a:Act} {w:World} (H:HoldsF c (⟨sL,hP⟩:St) F a w) (K:List Nat):RdF (mof c hP F) ⟨sL,Kk K hP⟩ F a w:=⟨fun l v p h=>H.tr l v p (G5.1 h).2,H.sl⟩
theorem ZmK {V:Value→Prop} {p:PV} (i d:Nat) (ho:ops[i]? =some o) (hck:(Region.noSelect ops&&(Region.ready .any ops listed).contains i&&Region.free .any ops listed i&&Ss .any ops Z i)=true) (hw:ZT ops sL o=some true) (hd:o.dst=some d) (hn:d<c.nt) (hy:YE P ⟨sL,Kk K hP⟩ o V p)
 (k:∀v,V v→aD P c ops Q Z K fuel (listed.setIfInBounds i true) ⟨put d (v,p) sL,hP⟩):aD P c ops Q Z K (fuel+1) listed (⟨sL,hP⟩:St):=fun a w F H C hC=>by
 simp only [Xe] at hck
 obtain ⟨⟨⟨hs,hr⟩,hf⟩,hz⟩:=hck
 obtain ⟨v,hV,hS,hrun⟩:=hy _ F a w (H.rdK K)
 refine JY hC _ _ _ _ ?_
 refine S3 ho hz (Region.noSelect_spec hs) _ listed a w (Region.free_spec ho hf) (by simpa using hr) (v:=v) (.inl ⟨Jk H.rd hw,fun W hW=>?_⟩) (Chg.rfl' _ _) ?_
 · exact hrun _ W hW (fun b ⟨l,x,_,h1,h2⟩=> .inr ⟨l,x,h1,h2⟩) (fun l x b hl hFb ⟨l',x',h1,h2,h3⟩=>by
    obtain ⟨h4,h5⟩:=G5.1 hl;exact H.dj l l' _ _ b (fun e=>by rw [e,h1] at h4;cases h4) h5 h2 hFb h3)
 · rw [hd];exact k v hV _ w F (H.put hn hS) _ (fun W h=>h)
theorem Znc {v:Value} {p:PV} (i d:Nat) (ho:ops[i]? =some o) (hck:(Region.noSelect ops&&(Region.ready .any ops listed).contains i&&Region.free .any ops listed i&&Ss .any ops Z i)=true) (hw:ZT ops sL o=some true) (hd:o.dst=some d) (hn:d<c.nt) (hy:YE P ⟨sL,Kk K hP⟩ o (· =v) p)
 (k:aD P c ops Q Z K fuel (listed.setIfInBounds i true) ⟨put d (v,p) sL,hP⟩):aD P c ops Q Z K (fuel+1) listed (⟨sL,hP⟩:St):=ZmK i d ho hck hw hd hn hy fun u hu=>by cases hu;exact k
theorem Zld {V:Value→Prop} {p:PV} (i d:Nat) (ho:ops[i]? =some o) (hr:Region.ready .any ops listed=[i]) (hw:ZT ops sL o=some true) (hd:o.dst=some d) (hn:d<c.nt) (hy:YE P (⟨sL,hP⟩:St) o V p)
 (k:∀v,V v→aD P c ops Q Z K fuel (listed.setIfInBounds i true) ⟨put d (v,p) sL,hP⟩):aD P c ops Q Z K (fuel+1) listed (⟨sL,hP⟩:St):=fun a w F H C hC=>by
 obtain ⟨v,hV,hS,hrun⟩:=hy _ F a w H.rd
 have h1:YieldsC P ops (fun W=>W=w) o v a:= .inl ⟨Jk H.rd hw,fun W hW=>by
  subst hW;exact hrun (fun _=>False) W (Chg.rfl' _ _) (fun _ h=>h.elim) (fun _ _ _ _ _ h=>h)⟩
 refine ⟨fun hn=>(by rw [hr] at hn;cases hn),fun j hj=>?_⟩
 rw [hr] at hj
 obtain rfl:j=i:=by simpa using hj
 refine YieldsIf.wpOp ho h1.ifS rfl ⟨.inr (hC w (Chg.rfl' _ _)),?_⟩
 rw [hd]
 exact k v hV _ w F (H.put hn hS) C hC
theorem ZmL {v:Value} {p:PV} (i d:Nat) (ho:ops[i]? =some o) (hr:Region.ready .any ops listed=[i]) (hw:ZT ops sL o=some true) (hd:o.dst=some d) (hn:d<c.nt) (hy:YE P (⟨sL,hP⟩:St) o (· =v) p)
 (k:aD P c ops Q Z K fuel (listed.setIfInBounds i true) ⟨put d (v,p) sL,hP⟩):aD P c ops Q Z K (fuel+1) listed (⟨sL,hP⟩:St):=Zld i d ho hr hw hd hn hy fun u hu=>by cases hu;exact k
theorem Zjl (i d:Nat) (ho:ops[i]? =some o) (hck:(Region.noSelect ops&&(Region.ready .any ops listed).contains i&&Region.free .any ops listed i&&Ss .any ops Z i)=true) (hw:ZT ops sL o=some false) (hd:o.dst=some d) (hn:d<c.nt)
 (k:aD P c ops Q Z K fuel (listed.setIfInBounds i true) ⟨put d (undef, .val undef) sL,hP⟩):aD P c ops Q Z K (fuel+1) listed (⟨sL,hP⟩:St):=fun a w F H C hC=>by
 simp only [Xe] at hck
 obtain ⟨⟨⟨hs,hr⟩,hf⟩,hz⟩:=hck
 refine JY hC _ _ _ _ ?_
 refine S3 ho hz (Region.noSelect_spec hs) _ listed a w (Region.free_spec ho hf) (by simpa using hr) (v:=undef) (.inr ⟨Jk H.rd hw,rfl⟩) (Chg.rfl' _ _) ?_
 rw [hd]
 exact k _ w F (H.put hn (.val _)) _ (fun W h=>h)
theorem Zgp (t:Nat) {b:Bool} {q:PV} (hx:lk sL t=some (.bool b,q)) (ht:b=true→aD P c ops Q Z K fuel listed ⟨put t (.bool true, .val (.bool true)) sL,hP⟩) (hf:b=false→aD P c ops Q Z K fuel listed ⟨put t (.bool false, .val (.bool false)) sL,hP⟩):aD P c ops Q Z K fuel listed (⟨sL,hP⟩:St):=fun a w F H C hC=>by
 have key:HoldsF c ⟨put t (.bool b, .val (.bool b)) sL,hP⟩ F a w:=⟨H.toHeapF,fun s u r hs=>by
  rcases Ya hs with ⟨rfl,e⟩|⟨_,e⟩
  · cases e;exact ⟨(H.sl _ _ _ hx).1, .val _⟩
  · exact H.sl s u r e,H.size,H.df⟩
 cases b
 · exact hf rfl a w F key C hC
 · exact ht rfl a w F key C hC
theorem HoldsF.frame {F:Nat→BS} {a:Act} {w:World} (H:HoldsF c (⟨sL,hP⟩:St) F a w) (K:List Nat):
 HoldsF ⟨w,fun b=>c.M0 b∨∃l x,K.elem l=true∧lk hP l=some x∧F l b,nK K hP F,c.nt,c.dr,c.df⟩ ⟨sL,Jl K hP⟩ F a w:=by
 have hm:∀b,mof ⟨w,fun b=>c.M0 b∨∃l x,K.elem l=true∧lk hP l=some x∧F l b,nK K hP F,c.nt,c.dr,c.df⟩ (Jl K hP) F b→mof c hP F b:=by
  rintro b ((h|⟨l,x,_,h1,h2⟩)|⟨l,x,h1,h2⟩)
  · exact .inl h
  · exact .inr ⟨l,x,h1,h2⟩
  · exact .inr ⟨l,x,(Kx.1 h1).2,h2⟩
 refine ⟨⟨fun l v p h=>(H.tr l v p (Kx.1 h).2).anti fun b _=>hm b,fun l x b h hb=> .inr ⟨l,x,(Kx.1 h).1,(Kx.1 h).2,hb⟩,fun l l' x x' b hne h h'=>H.dj l l' x x' b hne (Kx.1 h).2 (Kx.1 h').2,?_,Chg.rfl' _ _,fun _=>Xj _⟩,fun t v p h=>⟨(H.sl t v p h).1,(H.sl t v p h).2.anti fun b _=>hm b⟩,H.size,H.df⟩
 refine ⟨?_,fun hn g hg=>?_,fun hn g hg=>?_⟩
 rotate_left
 · obtain ⟨h1,h2,_⟩:=H.mok.tb hn g hg;refine ⟨h1,?_,?_⟩
   · rintro (h|⟨l,x,_,h3,h4⟩)
     · exact h2 (.inl h)
     · exact h2 (.inr ⟨l,x,h3,h4⟩)
   · rintro ⟨l,x,_,h3,h4⟩;exact h2 (.inr ⟨l,x,h3,h4⟩)
 · obtain ⟨h1,h2,_⟩:=H.mok.er hn g hg;refine ⟨h1,?_,?_⟩
   · rintro (h|⟨l,x,_,h3,h4⟩)
     · exact h2 (.inl h)
     · exact h2 (.inr ⟨l,x,h3,h4⟩)
   · rintro ⟨l,x,_,h3,h4⟩;exact h2 (.inr ⟨l,x,h3,h4⟩)
 rintro b (h|⟨l,x,hK,h1,h2⟩)
 · exact ⟨Ur (H.m0.m b h).1 H.ext.size,fun ⟨l,x,_,h1,h2⟩=>H.apart h h1 h2⟩
 · exact ⟨(H.tr l _ _ h1).lt b h2,fun ⟨l',x',hK',h3,h4⟩=>H.dj l l' _ _ b (fun e=>by rw [e,hK'] at hK;cases hK) h1 h3 h2 h4⟩
theorem HoldsF.unframe {F F':Nat→BS} {a a':Act} {w w':World} {st':St} (H:HoldsF c (⟨sL,hP⟩:St) F a w)
 (H':HoldsF ⟨w,fun b=>c.M0 b∨∃l x,K.elem l=true∧lk hP l=some x∧F l b,nK K hP F,c.nt,c.dr,c.df⟩ st' F' a' w'):
 HoldsF c ⟨st'.slots,st'.heap++Kk K hP⟩ (fun l=>match lk st'.heap l with|some _=>F' l|none=>F l) a' w'∧Chg (nK K hP F) w w'∧
  (∀b,nK K (st'.heap++Kk K hP) (fun l=>match lk st'.heap l with|some _=>F' l|none=>F l) b→nK K hP F b∨w.heap.size≤b):=by
 have hlook:∀l x,lk (st'.heap++Kk K hP) l=some x→(lk st'.heap l=some x)∨(lk st'.heap l=none∧K.elem l=true∧lk hP l=some x):=fun l x h=>by
  rw [ZeD] at h
  cases h1:lk st'.heap l with
  |some y=>rw [h1] at h;cases h;exact .inl rfl
  |none=>rw [h1] at h;exact .inr ⟨rfl,G5.1 h⟩
 have hmm:∀b,mof c (st'.heap++Kk K hP) (fun l=>match lk st'.heap l with|some _=>F' l|none=>F l) b→mof ⟨w,fun b=>c.M0 b∨∃l x,K.elem l=true∧lk hP l=some x∧F l b,nK K hP F,c.nt,c.dr,c.df⟩ st'.heap F' b:=by
  rintro b (h|⟨l,x,h1,h2⟩)
  · exact .inl (.inl h)
  · rcases hlook l x h1 with h3|⟨h3,h4,h5⟩
    · simp only [h3] at h2;exact .inr ⟨l,x,h3,h2⟩
    · simp only [h3] at h2;exact .inl (.inr ⟨l,x,h4,h5,h2⟩)
 have hch:Chg (nK K hP F) w w':=H'.ext
 have hKN:∀l x b,K.elem l=true→lk hP l=some x→F l b→¬nK K hP F b:=fun l x b hK hl hb ⟨l',x',hK',h3,h4⟩=>H.dj l l' _ _ b (fun e=>by rw [e,hK'] at hK;cases hK) hl h3 hb h4
 have hapart:∀l x l' x' b,K.elem l=true→lk hP l=some x→F l b→lk st'.heap l'=some x'→¬F' l' b:=fun l x l' x' b hK hl hb hl' hb'=>by
  exact H'.apart (.inr ⟨l,x,hK,hl,hb⟩) hl' hb'
 refine ⟨⟨⟨fun l v p h=>?_,fun l x b h hb=>?_,fun l l' x x' b hne h h' hb hb'=>?_,H.m0,?_,fun h=>X6 (H.dw h) (H'.dw h)⟩,fun t v p h=>⟨(H'.sl t v p h).1,(H'.sl t v p h).2.anti fun b _=>hmm b⟩,H'.size,H'.df⟩,hch,?_⟩
 · rcases hlook l _ h with h1|⟨h1,h2,h3⟩
   · simp only [h1];exact (H'.tr l v p h1).anti fun b _=>hmm b
   · simp only [h1];refine (H.tr l v p h3).to hch (fun b hlt hb=>?_) (fun b _ ⟨l',x',_,h4,h5⟩=> .inr ⟨l',x',h4,h5⟩) (fun b hb=>hKN l _ b h2 h3 hb);rcases hmm b hb with (h|⟨l',x',_,h4,h5⟩)|⟨l',x',h4,h5⟩
     · exact .inl h
     · exact .inr ⟨l',x',h4,h5⟩
     · rcases H'.lo l' x' b h4 h5 with h6|⟨l2,x2,_,h7,h8⟩
       · exact UU hlt (by simp only at h6;omega)
       · exact .inr ⟨l2,x2,h7,h8⟩
 · rcases hlook l _ h with h1|⟨h1,h2,h3⟩
   · simp only [h1] at hb;rcases H'.lo l x b h1 hb with h4|⟨l2,x2,_,h7,h8⟩
     · exact .inl (X6 H.ext.size h4)
     · exact H.lo l2 x2 b h7 h8
   · simp only [h1] at hb;exact H.lo l x b h3 hb
 · rcases hlook l _ h with h1|⟨h1,h2,h3⟩
   · rcases hlook l' _ h' with k1|⟨k1,k2,k3⟩
     · simp only [h1] at hb;simp only [k1] at hb';exact H'.dj l l' x x' b hne h1 k1 hb hb'
     · simp only [h1] at hb;simp only [k1] at hb';exact hapart l' _ l _ b k2 k3 hb' h1 hb
   · rcases hlook l' _ h' with k1|⟨k1,k2,k3⟩
     · simp only [h1] at hb;simp only [k1] at hb';exact hapart l _ l' _ b h2 h3 hb k1 hb'
     · simp only [h1] at hb;simp only [k1] at hb';exact H.dj l l' x x' b hne h3 k3 hb hb'
 · exact H.ext.tr hch fun b ⟨l,x,_,h1,h2⟩=>(H.lo l x b h1 h2).symm
 · rintro b ⟨l,x,hK,h1,h2⟩;rcases hlook l _ h1 with h3|⟨h3,h4,h5⟩
   · simp only [h3] at h2;rcases H'.lo l x b h3 h2 with h4|h4
     · exact .inr h4
     · exact .inl h4
   · rw [hK] at h4;cases h4
def aW (P:Program) (c:Ctx) (ops:Array Oper) (Q:Exit→Act→World→Prop) (Z:Nat→Bool) (K:List Nat) (fuel:Nat) (listed:Array Bool) (st:St) (i:Nat):Prop:=
 ∀a w F,HoldsF c st F a w→∀C:World→Prop,(∀W,Chg (nK K st.heap F) w W→C W)→wpOp P ops (H9 Q) i (fun a' w'=>(Z i=true∨C w')∧KD P .any ops Q C Z fuel (listed.setIfInBounds i true) a' w') a w
theorem Zq (i:Nat) (hr:Region.ready .any ops listed=[i]) (h:aW P c ops Q Z K fuel listed (⟨sL,hP⟩:St) i):aD P c ops Q Z K (fuel+1) listed (⟨sL,hP⟩:St):=fun a w F H C hC=>
 ⟨(fun hn=>by rw [hr] at hn;cases hn),fun j hj=>by
   rw [hr] at hj;obtain rfl:j=i:=by simpa using hj
   exact h a w F H C hC⟩
theorem Y5 (i j:Nat) (hr:Region.ready .any ops listed=[i,j]) (h:aW P c ops Q Z K fuel listed (⟨sL,hP⟩:St) i) (h':aW P c ops Q Z K fuel listed (⟨sL,hP⟩:St) j):aD P c ops Q Z K (fuel+1) listed (⟨sL,hP⟩:St):=fun a w F H C hC=>
 ⟨(fun hn=>by rw [hr] at hn;cases hn),fun m hm=>by
   rw [hr] at hm;rcases (by simpa using hm:m=i∨m=j) with rfl|rfl
   · exact h a w F H C hC
   · exact h' a w F H C hC⟩
theorem Zj {i:Nat} (ho:ops[i]? =some o)
 (h:∀(w':World) (M' N':BS) (DQ:Exit→Act→World→Prop),(∀st':St,aD P c ops Q Z K fuel (listed.setIfInBounds i true) ⟨st'.slots,st'.heap++Kk K hP⟩→aN ⟨w',M',N',c.nt,c.dr,c.df⟩ DQ st')→aL P ⟨w',M',N',c.nt,c.dr,c.df⟩ ops DQ [o] ⟨sL,Jl K hP⟩):aW P c ops Q Z K fuel listed (⟨sL,hP⟩:St) i:=fun a w F H C hC=>by
 refine K2 (Q':=fun _ a' w'=>(Z i=true∨C w')∧KD P .any ops Q C Z fuel (listed.setIfInBounds i true) a' w') ho (fun a' w' hq=>hq) ?_
 refine h w _ _ _ (fun st' hD a' w' ⟨F',H'⟩=>?_) a w ⟨F,H.frame K⟩
 obtain ⟨H2,hch,hnk⟩:=H.unframe H'
 refine ⟨.inr (hC w' hch),hD a' w' _ H2 C fun W hW=>hC W (hch.tr hW hnk)⟩
theorem CP {i:Nat} (ho:ops[i]? =some o) (hZ:Z i=true) (hr:Region.ready .any ops (listed.setIfInBounds i true)=[]) (h:∀DQ:Exit→Act→World→Prop,(∀st':St,aN c Q st'→aN c DQ st')→aL P c ops DQ [o] (⟨sL,hP⟩:St)):aW P c ops Q Z K fuel listed (⟨sL,hP⟩:St) i:=fun a w F H C hC=>by
 refine K2 (Q':=fun _ a' w'=>(Z i=true∨C w')∧KD P .any ops Q C Z fuel (listed.setIfInBounds i true) a' w') ho (fun a' w' hq=>hq) ?_
 refine h _ (fun st' hN a' w' H'=>⟨.inl hZ,?_⟩) a w ⟨F,H⟩
 cases fuel with
 |zero=>exact ⟨hr,hN a' w' H'⟩
 |succ n=>exact ⟨fun _=>hN a' w' H',fun i hi=>by rw [hr] at hi;cases hi⟩
end
section
variable {P:Program} {c:Ctx} {ops:Array Oper} {Q:Exit→Act→World→Prop} {rest:List Oper} {sL hP:List (Nat×Ent)} {o:Oper}
theorem Zy {l:Nat} {x:Ent} (l':Nat) (hl:lk hP l=some x) (hl':lk (del l hP) l'=none):Tg (⟨sL,hP⟩:St) (fun _:Unit=>⟨sL,put l' x (del l hP)⟩):=fun c a w ⟨F,H⟩=>by
 refine ⟨(),fun t=>if t=l' then F l else F t,?_⟩
 obtain ⟨v,p⟩:=x
 have aux:∀t y,(t=l∨t=l')→lk (put l' (v,p) (del l hP)) t=some y→t=l'∧y=(v,p):=fun t y ht hy=>by
  rcases Ya hy with ⟨e1,e2⟩|⟨n1,e2⟩
  · exact ⟨e1.symm,e2.symm⟩
  · rcases ht with h|h
    · exact UU h.symm (YQ e2).1
    · exact UU h.symm n1
 refine H.retell (fun t=>t=l∨t=l') (fun t y hnT hy=>?_) (fun t y b hT hy hb=>?_) (fun hm t u q hT hy=>?_) (fun t1 t2 y1 y2 b h1 h2 hne hy1 hy2=>UU ((aux t1 y1 h1 hy1).1.trans (aux t2 y2 h2 hy2).1.symm) hne)
 · have n2:t≠l':=fun e=>hnT (.inr e);rw [YV (Ne.symm n2)] at hy;exact ⟨(YQ hy).2,by simp [n2]⟩
 · obtain ⟨rfl,_⟩:=aux t y hT hy;simp only [if_true] at hb;exact ⟨l,_, .inl rfl,hl,hb⟩
 · obtain ⟨rfl,e⟩:=aux t _ hT hy
   cases e;simp only [if_true];exact (H.tr l v p hl).anti hm
def Zle (p p':PV):Prop:=p'=p∨(p= .val (.slice none 0 0)∧∃e k,p'= .own e k 0 [])
theorem G6 {l e k n:Nat} {h:Value} {cs:List PV} (cs':List PV) (hl:lk hP l=some (h, .own e k n cs)) (hlen:cs'.length=cs.length) (hc:∀(i:Nat) (p p':PV),cs[i]? =some p→cs'[i]? =some p'→Zle p p'):Tg (⟨sL,hP⟩:St) (fun _:Unit=>⟨sL,put l (h, .own e k n cs') hP⟩):=fun c a w ⟨F,H⟩=>by
 refine ⟨(),F,?_⟩
 have hTr:=H.tr l _ _ hl
 obtain ⟨xs,Fs,hrow,hxl,hT,hd,hb,hF⟩:=hTr.row
 refine H.retell (fun t=>t=l) (fun t y hnT hy=>?_) (fun t y b hT' hy hb'=>?_) (fun hm t u q hT' hy=>?_) (fun t1 t2 _ _ _ h1 h2 hne=>UU (h1.trans h2.symm) hne)
 · have n2:t≠l:=hnT;rw [YV (Ne.symm n2)] at hy;exact ⟨hy,rfl⟩
 · subst hT';exact ⟨t,_,rfl,hl,hb'⟩
 · subst hT';rw [ZW] at hy
   cases hy;refine .own xs Fs hrow oM (fun i x p' hx hp'=>?_) (fun i j b hi hj=>hd i j b oM oM) (fun i b hi=>hb i b oM) (fun b=>by rw [hF b,hlen]);obtain ⟨p,hp⟩:=Yh hp' hlen;have hTi:=(hT i x p hx hp).anti hm;rcases hc i p p' hp hp' with rfl|⟨rfl,e',k',rfl⟩
   · exact hTi
   · have hFi:∀b,¬Fs i b:=by
      cases hTi with
      |shr _ hF=>exact hF
     have hx0:x= .slice none 0 0:=(hTi.sh rfl).vOf;subst hx0;exact .own [] (fun _ _=>False) (World.ownsRow_nil _ _ _ _) rfl sM sM sM (fun b=>by simp [Value.ownBlock];exact hFi b)
theorem CQ {ι:Type} {x y:Code} (S:ι→St) (h:aC P c x (Exit.then (fun a w=>∃i,Holds c (S i) a w) Q) (⟨sL,hP⟩:St)) (k:∀i,aC P c y Q (S i)):aC P c x (Exit.then (y.wp P Q) Q) (⟨sL,hP⟩:St):=fun a w H=>
 wp_mono (h a w H) fun e a' w' hq=>by
  cases e with
  |normal=>obtain ⟨i,hi⟩:=hq;exact k i a' w' hi
  |_=>exact hq
theorem GR {l l' j e k n:Nat} {h:Value} {cs:List PV} {p:PV} (hl:lk hP l=some (h, .own e k n cs)) (hp:cs[j]? =some p) (hl':lk hP l'=none) (hok:GQ p=true):
 Tg (⟨sL,hP⟩:St) (fun v:{v:Value//v.oneCell'=true}=>⟨sL,put l' (v.1,p) (put l (h, .own e k n (cs.set j (.val v.1))) hP)⟩):=fun c a w H=>by
 obtain ⟨v,F,H'⟩:=focus hl hp hl' c a w H
 exact ⟨⟨v,(H'.tr l' v p (ZW _ _ _)).cellOne hok⟩,F,H'⟩
end
theorem nav {A B:Prop} (h:B) (e:B→A:=by intro h;(repeat (first|with_reducible refine CM ?_|with_reducible refine SS ?_|with_reducible refine OA ?_|with_reducible refine SU ?_|with_reducible refine Ox ?_|with_reducible refine Oz ?_|with_reducible refine OB ?_|with_reducible refine SV ?_|with_reducible refine SX rfl ?_|with_reducible refine CN ?_|with_reducible refine OC ?_|with_reducible refine SY ?_));exact h):A:=e h
theorem Ze {A B:Prop} (h:B) (e:B→A:=by intro h;(repeat (first|with_reducible refine CM ?_|with_reducible refine SS ?_|with_reducible refine OA ?_|with_reducible refine SU ?_|with_reducible refine Ox ?_|with_reducible refine Oz ?_|with_reducible refine OB ?_|with_reducible refine SV ?_|with_reducible refine SX rfl ?_|with_reducible refine CN ?_|with_reducible refine OC ?_|with_reducible refine SY ?_));refine Zt ?_;exact h):A:=e h
theorem Zg {A B:Prop} (h:B) (e:B→A:=by intro h;refine Zh ?_;(repeat (first|with_reducible refine CM ?_|with_reducible refine SS ?_|with_reducible refine OA ?_|with_reducible refine SU ?_|with_reducible refine Ox ?_|with_reducible refine Oz ?_|with_reducible refine OB ?_|with_reducible refine SV ?_|with_reducible refine SX rfl ?_|with_reducible refine CN ?_|with_reducible refine OC ?_|with_reducible refine SY ?_));(try dsimp only);refine Zt ?_;exact h):A:=e h
theorem Zc {A B:Prop} (h:B) (e:B→A:=by intro h;refine Zh ?_;(repeat (first|with_reducible refine CM ?_|with_reducible refine SS ?_|with_reducible refine OA ?_|with_reducible refine SU ?_|with_reducible refine Ox ?_|with_reducible refine Oz ?_|with_reducible refine OB ?_|with_reducible refine SV ?_|with_reducible refine SX rfl ?_|with_reducible refine CN ?_|with_reducible refine OC ?_|with_reducible refine SY ?_));(try dsimp only);exact h):A:=e h
section
variable {P:Program} {c:Ctx} {ops:Array Oper} {Q:Exit→Act→World→Prop} {rest:List Oper} {st:St} {sL hP:List (Nat×Ent)} {o:Oper} {x y:Operand} {t t':TypeId} {q q':PV} {Z:Nat→Bool} {K:List Nat} {fuel:Nat} {listed:Array Bool}
theorem xL {v:Value} {p:PV} (d:Nat) (hy:YE P (⟨sL,hP⟩:St) o (· =v) p) (k:aL P c ops Q rest ⟨put d (v,p) sL,hP⟩) (hw:ZT ops sL o=some true:=by exact rfl) (hd:o.dst=some d:=by exact rfl) (hn:d<c.nt:=by exact Xa rfl):aL P c ops Q (o::rest) (⟨sL,hP⟩:St):=
 Znb d hw hd hn hy k
theorem yL {V:Value→Prop} {p:PV} (d:Nat) (hy:YE P (⟨sL,hP⟩:St) o V p) (k:∀v,V v→aL P c ops Q rest ⟨put d (v,p) sL,hP⟩) (hw:ZT ops sL o=some true:=by exact rfl) (hd:o.dst=some d:=by exact rfl) (hn:d<c.nt:=by exact Xa rfl):aL P c ops Q (o::rest) (⟨sL,hP⟩:St):=
 ZmE d hw hd hn hy k
theorem kL (d:Nat) (k:aL P c ops Q rest ⟨put d (undef, .val undef) sL,hP⟩) (hw:ZT ops sL o=some false:=by exact rfl) (hd:o.dst=some d:=by exact rfl) (hn:d<c.nt:=by exact Xa rfl):aL P c ops Q (o::rest) (⟨sL,hP⟩:St):=
 Zi8 d hw hd hn k
theorem bL {l:List Oper} {b:Bool} {q:PV} (t:Nat) (ht:b=true→aL P c ops Q l ⟨put t (.bool true, .val (.bool true)) sL,hP⟩) (hf:b=false→aL P c ops Q l ⟨put t (.bool false, .val (.bool false)) sL,hP⟩) (hx:lk sL t=some (.bool b,q):=by exact rfl):aL P c ops Q l (⟨sL,hP⟩:St):=
 ζX t hx ht hf
theorem xD {v:Value} {p:PV} (i:Nat) (d:Nat) (ho:ops[i]? =some o) (hy:YE P ⟨sL,Kk K hP⟩ o (· =v) p) (k:aD P c ops Q Z K fuel (listed.setIfInBounds i true) ⟨put d (v,p) sL,hP⟩) (hck:(Region.noSelect ops&&(Region.ready .any ops listed).contains i&&Region.free .any ops listed i&&Ss .any ops Z i)=true:=by kernel_rfl) (hw:ZT ops sL o=some true:=by exact rfl) (hd:o.dst=some d:=by exact rfl) (hn:d<c.nt:=by exact Xa rfl):aD P c ops Q Z K (fuel+1) listed (⟨sL,hP⟩:St):=
 Znc i d ho hck hw hd hn hy k
theorem yD {V:Value→Prop} {p:PV} (i:Nat) (d:Nat) (ho:ops[i]? =some o) (hy:YE P ⟨sL,Kk K hP⟩ o V p) (k:∀v,V v→aD P c ops Q Z K fuel (listed.setIfInBounds i true) ⟨put d (v,p) sL,hP⟩) (hck:(Region.noSelect ops&&(Region.ready .any ops listed).contains i&&Region.free .any ops listed i&&Ss .any ops Z i)=true:=by kernel_rfl) (hw:ZT ops sL o=some true:=by exact rfl) (hd:o.dst=some d:=by exact rfl) (hn:d<c.nt:=by exact Xa rfl):aD P c ops Q Z K (fuel+1) listed (⟨sL,hP⟩:St):=
 ZmK i d ho hck hw hd hn hy k
theorem kD (i:Nat) (d:Nat) (ho:ops[i]? =some o) (k:aD P c ops Q Z K fuel (listed.setIfInBounds i true) ⟨put d (undef, .val undef) sL,hP⟩) (hck:(Region.noSelect ops&&(Region.ready .any ops listed).contains i&&Region.free .any ops listed i&&Ss .any ops Z i)=true:=by kernel_rfl) (hw:ZT ops sL o=some false:=by exact rfl) (hd:o.dst=some d:=by exact rfl) (hn:d<c.nt:=by exact Xa rfl):aD P c ops Q Z K (fuel+1) listed (⟨sL,hP⟩:St):=
 Zjl i d ho hck hw hd hn k
theorem xE {v:Value} {p:PV} (i:Nat) (d:Nat) (ho:ops[i]? =some o) (hy:YE P (⟨sL,hP⟩:St) o (· =v) p) (k:aD P c ops Q Z K fuel (listed.setIfInBounds i true) ⟨put d (v,p) sL,hP⟩) (hr:Region.ready .any ops listed=[i]:=by kernel_rfl) (hw:ZT ops sL o=some true:=by exact rfl) (hd:o.dst=some d:=by exact rfl) (hn:d<c.nt:=by exact Xa rfl):aD P c ops Q Z K (fuel+1) listed (⟨sL,hP⟩:St):=
 ZmL i d ho hr hw hd hn hy k
theorem yE {V:Value→Prop} {p:PV} (i:Nat) (d:Nat) (ho:ops[i]? =some o) (hy:YE P (⟨sL,hP⟩:St) o V p) (k:∀v,V v→aD P c ops Q Z K fuel (listed.setIfInBounds i true) ⟨put d (v,p) sL,hP⟩) (hr:Region.ready .any ops listed=[i]:=by kernel_rfl) (hw:ZT ops sL o=some true:=by exact rfl) (hd:o.dst=some d:=by exact rfl) (hn:d<c.nt:=by exact Xa rfl):aD P c ops Q Z K (fuel+1) listed (⟨sL,hP⟩:St):=
 Zld i d ho hr hw hd hn hy k
theorem Zb {P:Program} {st:St} {o:Oper} {x:Operand} {v:Value} {p:PV} (ho:o.op= .move x:=by exact rfl) (hx:ev st.slots x=some (v,p):=by exact rfl):YE P st o (· =v) p:=
 Zlw ho hx
theorem Za {P:Program} {st:St} {o:Oper} {x:Operand} {v:Value} {p:PV} (ho:o.op= .assign x:=by exact rfl) (hx:ev st.slots x=some (v,p):=by exact rfl):YE P st o (· =v) p:=
 Zgf ho hx
theorem Zz {P:Program} {st:St} {o:Oper} {c x y:Operand} {b:Bool} {q:PV} {v:Value} {p:PV} (ho:o.op= .pick c x y:=by exact rfl) (hc:ev st.slots c=some (.bool b,q):=by exact rfl) (hx:ev st.slots (if b then x else y)=some (v,p):=by exact rfl):YE P st o (· =v) p:=
 Zlx ho hc hx
theorem Yg {P:Program} {st:St} {o:Oper} {x:Operand} {t:TypeId} {b:Bool} {q:PV} (ho:o.op= .unOp .not t x:=by exact rfl) (hx:ev st.slots x=some (.bool b,q):=by exact rfl):YE P st o (· = .bool (!b)) (.val (.bool (!b))):=
 Zmu ho hx
theorem ZQ {k:IntKind} {a b:Int} (ho:o.op= .binOp .lss t x y t':=by exact rfl) (hx:ev st.slots x=some (.int k a,q):=by exact rfl) (hy:ev st.slots y=some (.int k b,q'):=by exact rfl):YE P st o (· = .bool (decide (a<b))) (.val (.bool (decide (a<b)))):=
 Zmv ho hx hy
theorem O6 {k:IntKind} {a b:Int} (ho:o.op= .binOp .leq t x y t':=by exact rfl) (hx:ev st.slots x=some (.int k a,q):=by exact rfl) (hy:ev st.slots y=some (.int k b,q'):=by exact rfl):YE P st o (· = .bool (decide (a≤b))) (.val (.bool (decide (a≤b)))):=
 Zmw ho hx hy
theorem YP {k:IntKind} {a b:Int} (ho:o.op= .binOp .gtr t x y t':=by exact rfl) (hx:ev st.slots x=some (.int k a,q):=by exact rfl) (hy:ev st.slots y=some (.int k b,q'):=by exact rfl):YE P st o (· = .bool (decide (b<a))) (.val (.bool (decide (b<a)))):=
 Zmx ho hx hy
theorem WK {k:IntKind} {a b:Int} (ho:o.op= .binOp .geq t x y t':=by exact rfl) (hx:ev st.slots x=some (.int k a,q):=by exact rfl) (hy:ev st.slots y=some (.int k b,q'):=by exact rfl):YE P st o (· = .bool (decide (b≤a))) (.val (.bool (decide (b≤a)))):=
 Zmy ho hx hy
theorem Z3 {k:IntKind} {a b:Int} (ho:o.op= .binOp .eql t x y t':=by exact rfl) (hx:ev st.slots x=some (.int k a,q):=by exact rfl) (hy:ev st.slots y=some (.int k b,q'):=by exact rfl):YE P st o (· = .bool (decide (a=b))) (.val (.bool (decide (a=b)))):=
 Zmz ho hx hy
theorem YH {k:IntKind} {a b:Int} (ho:o.op= .binOp .neq t x y t':=by exact rfl) (hx:ev st.slots x=some (.int k a,q):=by exact rfl) (hy:ev st.slots y=some (.int k b,q'):=by exact rfl):YE P st o (· = .bool (decide (a≠b))) (.val (.bool (decide (a≠b)))):=
 ZmA ho hx hy
theorem Kl {a b:ByteArray} (ho:o.op= .binOp .eql t x y t':=by exact rfl) (hx:ev st.slots x=some (.string a,q):=by exact rfl) (hy:ev st.slots y=some (.string b,q'):=by exact rfl):YE P st o (· = .bool (a.toList==b.toList)) (.val (.bool (a.toList==b.toList))):=
 Zly ho hx hy
theorem ZlJ {a b:ByteArray} (ho:o.op= .binOp .neq t x y t':=by exact rfl) (hx:ev st.slots x=some (.string a,q):=by exact rfl) (hy:ev st.slots y=some (.string b,q'):=by exact rfl):YE P st o (· = .bool (!(a.toList==b.toList))) (.val (.bool (!(a.toList==b.toList)))):=
 Zlz ho hx hy
theorem ZlK {a b:ByteArray} (ho:o.op= .binOp .lss t x y t':=by exact rfl) (hx:ev st.slots x=some (.string a,q):=by exact rfl) (hy:ev st.slots y=some (.string b,q'):=by exact rfl):YE P st o (· = .bool (Op.bytesLess a.toList b.toList)) (.val (.bool (Op.bytesLess a.toList b.toList))):=
 ZlA ho hx hy
theorem Zgq {a b:ByteArray} (ho:o.op= .binOp .gtr t x y t':=by exact rfl) (hx:ev st.slots x=some (.string a,q):=by exact rfl) (hy:ev st.slots y=some (.string b,q'):=by exact rfl):YE P st o (· = .bool (!(Op.bytesLess a.toList b.toList||a.toList==b.toList))) (.val (.bool (!(Op.bytesLess a.toList b.toList||a.toList==b.toList)))):=
 ZlB ho hx hy
theorem ZH {a b:Int} (ho:o.op= .binOp .add t x y t':=by exact rfl) (hx:ev st.slots x=some (.int .i64 a,q):=by exact rfl) (hy:ev st.slots y=some (.int .i64 b,q'):=by exact rfl) (h1: -9223372036854775808≤a+b:=by first|omega|exact Xa rfl|(simp only [Xk,XC,Xd,Xt,Xb,XJ,Xs,Xu,XK];omega)) (h2:a+b≤9223372036854775807:=by first|omega|exact Xa rfl|(simp only [Xk,XC,Xd,Xt,Xb,XJ,Xs,Xu,XK];omega)):YE P st o (· = .int .i64 (a+b)) (.val (.int .i64 (a+b))):=
 ZmB ho hx hy h1 h2
theorem Tp {a b:Int} (ho:o.op= .binOp .sub t x y t':=by exact rfl) (hx:ev st.slots x=some (.int .i64 a,q):=by exact rfl) (hy:ev st.slots y=some (.int .i64 b,q'):=by exact rfl) (h1: -9223372036854775808≤a-b:=by first|omega|exact Xa rfl|(simp only [Xk,XC,Xd,Xt,Xb,XJ,Xs,Xu,XK];omega)) (h2:a-b≤9223372036854775807:=by first|omega|exact Xa rfl|(simp only [Xk,XC,Xd,Xt,Xb,XJ,Xs,Xu,XK];omega)):YE P st o (· = .int .i64 (a-b)) (.val (.int .i64 (a-b))):=
 Zlb ho hx hy h1 h2
theorem Sl {a b:Int} (ho:o.op= .binOp .mul t x y t':=by exact rfl) (hx:ev st.slots x=some (.int .i64 a,q):=by exact rfl) (hy:ev st.slots y=some (.int .i64 b,q'):=by exact rfl) (h1: -9223372036854775808≤a*b:=by first|omega|exact Xa rfl|(simp only [Xk,XC,Xd,Xt,Xb,XJ,Xs,Xu,XK];omega)) (h2:a*b≤9223372036854775807:=by first|omega|exact Xa rfl|(simp only [Xk,XC,Xd,Xt,Xb,XJ,Xs,Xu,XK];omega)):YE P st o (· = .int .i64 (a*b)) (.val (.int .i64 (a*b))):=
 ZmC ho hx hy h1 h2
theorem Zgr {a b:Bool} (hu:P.underlying t=some .bool) (ho:o.op= .binOp .eql t x y t':=by exact rfl) (hx:ev st.slots x=some (.bool a,q):=by exact rfl) (hy:ev st.slots y=some (.bool b,q'):=by exact rfl):YE P st o (· = .bool (a==b)) (.val (.bool (a==b))):=
 Zgg hu ho hx hy
theorem ZlL {a b:Bool} (hu:P.underlying t=some .bool) (ho:o.op= .binOp .neq t x y t':=by exact rfl) (hx:ev st.slots x=some (.bool a,q):=by exact rfl) (hy:ev st.slots y=some (.bool b,q'):=by exact rfl):YE P st o (· = .bool (!(a==b))) (.val (.bool (!(a==b)))):=
 ZlC hu ho hx hy
theorem OF {s:ByteArray} {i:Int} {c:UInt8} {k:IntKind} (hu:P.underlying t=some .string) (ho:o.op= .index t x y:=by exact rfl) (hx:ev st.slots x=some (.string s,q):=by exact rfl) (hy:ev st.slots y=some (.int k i,q'):=by exact rfl) (hi:0≤i:=by first|omega|exact Xa rfl|(simp only [Xk,XC,Xd,Xt,Xb,XJ,Xs,Xu,XK];omega)) (hc:s.data[i.toNat]? =some c:=by assumption):YE P st o (· = .int .u8 c.toNat) (.val (.int .u8 c.toNat)):=
 Zi7 hu ho hx hy hi hc
theorem Su {P:Program} {st:St} {o:Oper} {x:Operand} {t:TypeId} {s:ByteArray} {q:PV} (ht:P.underlying t=some .string) (ho:o.op= .call {callee:= .builtin .len,args:= #[x],argTypes:= #[t]}:=by exact rfl) (hx:ev st.slots x=some (.string s,q):=by exact rfl):YE P st o (· = .int .i64 s.size) (.val (.int .i64 s.size)):=
 ZlD ht ho hx
theorem Zi {P:Program} {st:St} {o:Oper} {x:Operand} {i:Nat} {vs:List Value} {ps:List PV} {v:Value} {p:PV} (ho:o.op= .extract x i:=by exact rfl) (hx:ev st.slots x=some (.tuple vs.toArray, .tup ps):=by exact rfl) (hv:vs[i]? =some v:=by exact rfl) (hp:ps[i]? =some p:=by exact rfl):YE P st o (· =v) p:=
 Zer ho hx hv hp
theorem Tq {s f fo j:Nat} {x:Operand} {v:Value} {cs:List PV} (hT:FldT P s f fo=true) (ho:o.op= .fieldAddr s x f:=by exact rfl) (hx:ev st.slots x=some (v, .sptr j cs):=by exact rfl):YE P st o (· =padd v fo) (.sptr (j+fo) cs):=
 Zes hT ho hx
theorem Zd {s f fo j e k n:Nat} {x:Operand} {h:Value} {p:PV} {cs:List PV} (l:Nat) (hT:FldT P s f fo=true) (ho:o.op= .fieldAddr s x f:=by exact rfl) (hx:ev st.slots x=some (padd (sbase h) j,p):=by exact rfl) (hl:lk st.heap l=some (h, .own e k n cs):=by exact rfl) (hn:0<n:=by first|omega|exact Xa rfl|(simp only [Xk,XC,Xd,Xt,Xb,XJ,Xs,Xu,XK];omega)):YE P st o (· =padd (sbase h) (j+fo)) (.val (padd (sbase h) (j+fo))):=
 Zet l hT ho hx hl hn
theorem ZF {t e k n:Nat} {x y:Operand} {v:Value} {cs:List PV} {q:PV} {kd:IntKind} {i:Nat} (hT:SlT P t e k=true) (ho:o.op= .indexAddr t x y:=by exact rfl) (hx:ev st.slots x=some (v, .sl n cs):=by exact rfl) (hy:ev st.slots y=some (.int kd (i:Int),q):=by exact rfl) (h1:i<n:=by first|omega|exact Xa rfl|(simp only [Xk,XC,Xd,Xt,Xb,XJ,Xs,Xu,XK];omega)):YE P st o (· =padd (sbase v) (i*k)) (.sptr (i*k) cs):=
 Zb9 hT ho hx hy h1
theorem YL {t e k e' k' n:Nat} {x y:Operand} {h:Value} {p q:PV} {cs:List PV} {kd:IntKind} {i:Nat} (l:Nat) (hT:SlT P t e k=true) (ho:o.op= .indexAddr t x y:=by exact rfl) (hx:ev st.slots x=some (h,p):=by exact rfl) (hy:ev st.slots y=some (.int kd (i:Int),q):=by exact rfl) (hl:lk st.heap l=some (h, .own e' k' n cs):=by exact rfl) (h1:i<n:=by first|omega|exact Xa rfl|(simp only [Xk,XC,Xd,Xt,Xb,XJ,Xs,Xu,XK];omega)):YE P st o (· =padd (sbase h) (i*k)) (.val (padd (sbase h) (i*k))):=
 Zca l hT ho hx hy hl h1
theorem O7 {t e k n:Nat} {x y:Operand} {v:Value} {cs:List PV} {q:PV} {kd:IntKind} {i:Int} (hT:SlT P t e k=true) (ho:o.op= .indexAddr t x y:=by exact rfl) (hx:ev st.slots x=some (v, .sl n cs):=by exact rfl) (hy:ev st.slots y=some (.int kd i,q):=by exact rfl) (h0:0≤i:=by first|omega|exact Xa rfl|(simp only [Xk,XC,Xd,Xt,Xb,XJ,Xs,Xu,XK];omega)) (h1:i<n:=by first|omega|exact Xa rfl|(simp only [Xk,XC,Xd,Xt,Xb,XJ,Xs,Xu,XK];omega)):YE P st o (· =padd (sbase v) (i.toNat*k)) (.sptr (i.toNat*k) cs):=
 Ea hT ho hx hy h0 h1
theorem K7 {t e k e' k' n:Nat} {x y:Operand} {h:Value} {p q:PV} {cs:List PV} {kd:IntKind} {i:Int} (l:Nat) (hT:SlT P t e k=true) (ho:o.op= .indexAddr t x y:=by exact rfl) (hx:ev st.slots x=some (h,p):=by exact rfl) (hy:ev st.slots y=some (.int kd i,q):=by exact rfl) (hl:lk st.heap l=some (h, .own e' k' n cs):=by exact rfl) (h0:0≤i:=by first|omega|exact Xa rfl|(simp only [Xk,XC,Xd,Xt,Xb,XJ,Xs,Xu,XK];omega)) (h1:i<n:=by first|omega|exact Xa rfl|(simp only [Xk,XC,Xd,Xt,Xb,XJ,Xs,Xu,XK];omega)):YE P st o (· =padd (sbase h) (i.toNat*k)) (.val (padd (sbase h) (i.toNat*k))):=
 Eb l hT ho hx hy hl h0 h1
theorem Yo {t j:Nat} {x:Operand} {v:Value} {cs:List PV} {p:PV} (hT:NoAgg P t=true) (ho:o.op= .load t x:=by exact rfl) (hx:ev st.slots x=some (v, .sptr j cs):=by exact rfl) (hp:cs[j]? =some p:=by first|exact rfl|assumption):YE P st o (vOf p) p:=
 Zgh hT ho hx hp
theorem Zk {t j e k n:Nat} {x:Operand} {h:Value} {q:PV} {cs:List PV} {p:PV} (l:Nat) (hT:NoAgg P t=true) (ho:o.op= .load t x:=by exact rfl) (hx:ev st.slots x=some (padd (sbase h) j,q):=by exact rfl) (hl:lk st.heap l=some (h, .own e k n cs):=by exact rfl) (hp:cs[j]? =some p:=by first|exact rfl|assumption) (hsh:isSh p=true:=by exact rfl):YE P st o (vOf p) p:=
 Zgi l hT ho hx hl hp hsh
theorem YI {t k j:Nat} {x:Operand} {v:Value} {cs ps:List PV} (hT:AggT P t k=true) (ho:o.op= .load t x:=by exact rfl) (hx:ev sL x=some (v, .sptr j cs):=by exact rfl) (hp:j+k≤cs.length:=by first|omega|exact Xa rfl|(simp only [Xk,XC,Xd,Xt,Xb,XJ,Xs,Xu,XK];omega)) (hps:(cs.drop j).take k=ps:=by first|assumption|exact rfl):YE P (⟨sL,hP⟩:St) o (fun _=>True) (.agg ps):=
 Zcd hT ho hx hp hps
theorem Zs {t k j e k' n:Nat} {x:Operand} {h:Value} {q:PV} {cs ps:List PV} (l:Nat) (hT:AggT P t k=true) (ho:o.op= .load t x:=by exact rfl) (hx:ev sL x=some (padd (sbase h) j,q):=by exact rfl) (hl:lk hP l=some (h, .own e k' n cs):=by exact rfl) (hp:j+k≤cs.length:=by first|omega|exact Xa rfl|(simp only [Xk,XC,Xd,Xt,Xb,XJ,Xs,Xu,XK];omega)) (hk:0<k:=by decide) (hps:(cs.drop j).take k=ps:=by first|assumption|exact rfl) (hsh:ps.all isSh=true:=by first|exact rfl|decide):YE P (⟨sL,hP⟩:St) o (fun _=>True) (.agg ps):=
 Zce l hT ho hx hl hp hk hps hsh
theorem ZR {t e k n:Nat} {x:Operand} {v:Value} {cs:List PV} (hT:SlT P t e k=true) (ho:o.op= .call {callee:= .builtin .len,args:= #[x],argTypes:= #[t]}:=by exact rfl) (hx:ev st.slots x=some (v, .sl n cs):=by exact rfl):YE P st o (· = .int .i64 n) (.val (.int .i64 n)):=
 Zew hT ho hx
theorem YN {t e k e' k' n:Nat} {x:Operand} {h:Value} {p:PV} {cs:List PV} (l:Nat) (hT:SlT P t e k=true) (ho:o.op= .call {callee:= .builtin .len,args:= #[x],argTypes:= #[t]}:=by exact rfl) (hx:ev st.slots x=some (h,p):=by exact rfl) (hl:lk st.heap l=some (h, .own e' k' n cs):=by exact rfl):YE P st o (· = .int .i64 n) (.val (.int .i64 n)):=
 Zex l hT ho hx hl
theorem OG {t ks e:Nat} {x:Operand} {m:Value} {kv:List (Value×Value)} {p:PV} (l:Nat) (ht:P.underlying t=some (.map ks e)) (ho:o.op= .call {callee:= .builtin .len,args:= #[x],argTypes:= #[t]}:=by exact rfl) (hx:ev sL x=some (m,p):=by exact rfl) (hl:lk hP l=some (m, .omap kv):=by exact rfl):YE P (⟨sL,hP⟩:St) o (· = .int .i64 kv.length) (.val (.int .i64 kv.length)):=
 Zgm l ht ho hx hl
theorem ZL {t:Nat} {parts:Array (Nat×Operand)} {z:Value} {offs:List Nat} {zs:List Value} {es:List (Nat×Ent)} (hT:Ke P t=some (z,offs.map fun o=>(o,1))) (hzs:z.cells=zs.toArray:=by exact rfl) (ho:o.op= .build t parts:=by exact rfl) (hx:evP sL parts.toList=some es:=by exact rfl) (h1:es.all (fun x=>one x.2.2)=true:=by first|exact rfl|(simp only [XD,XH,XE,Xe];(repeat (first|refine ⟨?_,?_⟩|rfl|assumption)))) (hin:es.all (fun x=>decide (x.1<offs.length)&&decide (offs.getD x.1 0<zs.length))=true:=by exact rfl):YE P (⟨sL,hP⟩:St) o (· = .agg (Oo offs zs (es.map fun x=>(x.1,x.2.1))).toArray) (.agg (Oo offs (zs.map .val) (es.map fun x=>(x.1,x.2.2)))):=
 Zjf hT hzs ho hx h1 hin
theorem Zcg {f:Nat} {caps:Array Operand} {es:List Ent} (ho:o.op= .makeFunc (.func f) #[] caps:=by exact rfl) (hx:evL sL caps.toList=some es:=by exact rfl):YE P (⟨sL,hP⟩:St) o (· = .func (.func f) #[] (es.map (·.1)).toArray) (.fn f (es.map (·.2))):=
 ZlI ho hx
theorem ζ7 {t ks e:Nat} {kd:TypeDesc} {z:Value} {x y:Operand} {m k:Value} {kv:List (Value×Value)} {p q:PV} (l:Nat) (hT:MpT P t ks e kd z) (ho:o.op= .lookup t x y true:=by exact rfl) (hx:ev sL x=some (m,p):=by exact rfl) (hl:lk hP l=some (m, .omap kv):=by exact rfl) (hy:ev sL y=some (k,q):=by exact rfl) (hk:kok kd k kv:=by first|exact S1 _ _|exact S2 _ _|exact OE _ _|assumption):YE P (⟨sL,hP⟩:St) o (· = .tuple [(WZ kv k).getD z, .bool (WZ kv k).isSome].toArray) (.tup [.val ((WZ kv k).getD z), .val (.bool (WZ kv k).isSome)]):=
 ZeB l hT ho hx hl hy hk
theorem Zgs {t ks e:Nat} {kd:TypeDesc} {z u:Value} {x y:Operand} {m k:Value} {kv:List (Value×Value)} {p q:PV} (l:Nat) (hT:MpT P t ks e kd z) (ho:o.op= .lookup t x y false:=by exact rfl) (hx:ev sL x=some (m,p):=by exact rfl) (hl:lk hP l=some (m, .omap kv):=by exact rfl) (hy:ev sL y=some (k,q):=by exact rfl) (hk:kok kd k kv:=by first|exact S1 _ _|exact S2 _ _|exact OE _ _|assumption) (hu:(WZ kv k).getD z=u:=by assumption):YE P (⟨sL,hP⟩:St) o (· =u) (.val u):=
 ZeC l hT ho hx hl hy hk hu
theorem Zgt {t:TypeId} {x:Operand} {v:Value} {p:PV} (d:Nat) (k:∀h:Value,aL P c ops Q rest ⟨put d (padd (sbase h) 0, .val (padd (sbase h) 0)) sL,put d (h, .own t 1 1 [p]) hP⟩) (hw:ZT ops sL o=some true:=by exact rfl) (hd:o.dst=some d:=by exact rfl) (hn:d<c.nt:=by exact Xa rfl) (ho:o.op= .box t x:=by exact rfl) (hx:ev sL x=some (v,p):=by exact rfl) (h1:one p=true:=by first|exact rfl|assumption) (hl:lk hP d=none:=by exact rfl):aL P c ops Q (o::rest) (⟨sL,hP⟩:St):=
 Zi9 d hw hd hn ho hx h1 hl k
theorem ZG {t:TypeId} {x:Operand} {v:Value} {ps:List PV} (d:Nat) (m:Nat) (k:∀h:Value,aL P c ops Q rest ⟨put d (padd (sbase h) 0, .val (padd (sbase h) 0)) sL,put d (h, .own t m 1 ps) hP⟩) (hw:ZT ops sL o=some true:=by exact rfl) (hd:o.dst=some d:=by exact rfl) (hn:d<c.nt:=by exact Xa rfl) (ho:o.op= .box t x:=by exact rfl) (hx:ev sL x=some (v, .agg ps):=by exact rfl) (hm:ps.length=m:=by exact rfl) (hl:lk hP d=none:=by exact rfl):aL P c ops Q (o::rest) (⟨sL,hP⟩:St):=
 Zja d m hw hd hn ho hx hm hl k
theorem Zw {t:TypeId} {z:Value} (zs:List Value) (m:Nat) (d:Nat) (hz:ZeroT P t z) (k:∀h:Value,aL P c ops Q rest ⟨put d (padd (sbase h) 0, .val (padd (sbase h) 0)) sL,put d (h, .own t m 1 (zs.map .val)) hP⟩) (hw:ZT ops sL o=some true:=by exact rfl) (hd:o.dst=some d:=by exact rfl) (hn:d<c.nt:=by exact Xa rfl) (ho:o.op= .alloc t:=by exact rfl) (hzs:z.cells=zs.toArray:=by exact rfl) (hm:zs.length=m:=by exact rfl) (hl:lk hP d=none:=by exact rfl):aL P c ops Q (o::rest) (⟨sL,hP⟩:St):=
 Zgj zs m d hw hd hn ho hz hzs hm hl k
theorem LJ {t e bytes:Nat} {z:Value} {x y:Operand} {n:Nat} {q q':PV} (d:Nat) (hT:ElT P t e 1 bytes z) (k:∀h:Value,h.oneCell'=true→aL P c ops Q rest ⟨put d (h, .val h) sL,put d (h, .own e 1 n (List.replicate n (.val z))) hP⟩) (hw:ZT ops sL o=some true:=by exact rfl) (hd:o.dst=some d:=by exact rfl) (hn:d<c.nt:=by exact Xa rfl) (ho:o.op= .makeSlice t x y:=by exact rfl) (hx:ev sL x=some (.int .i64 n,q):=by exact rfl) (hy:ev sL y=some (.int .i64 n,q'):=by exact rfl) (hl:lk hP d=none:=by exact rfl) (hb:bytes*n≤281474976710656:=by first|omega|exact Xa rfl|(simp only [Xk,XC,Xd,Xt,Xb,XJ,Xs,Xu,XK];omega)) (hn2:n≤9223372036854775807:=by first|omega|exact Xa rfl|(simp only [Xk,XC,Xd,Xt,Xb,XJ,Xs,Xu,XK];omega)) (hz1:z.oneCell'=true:=by exact rfl):aL P c ops Q (o::rest) (⟨sL,hP⟩:St):=
 Zjb d hT hw hd hn ho hx hy hl hb hn2 hz1 k
theorem Zch {t e kk bytes:Nat} {z:Value} (d:Nat) (hT:ElT P t e kk bytes z) (k:∀h:Value,h.oneCell'=true→aL P c ops Q rest ⟨put d (h, .val h) sL,put d (h, .own e kk 0 []) hP⟩) (hw:ZT ops sL o=some true:=by exact rfl) (hd:o.dst=some d:=by exact rfl) (hn:d<c.nt:=by exact Xa rfl) (ho:o.op= .buildSlice t 0 #[]:=by exact rfl) (hl:lk hP d=none:=by exact rfl):aL P c ops Q (o::rest) (⟨sL,hP⟩:St):=
 Zjc d hT hw hd hn ho hl k
theorem ZJ {t e kk bytes:Nat} {z:Value} {x:Operand} {v:Value} {p:PV} (d:Nat) (hT:ElT P t e 1 bytes z) (k:∀h:Value,h.oneCell'=true→aL P c ops Q rest ⟨put d (h, .val h) sL,put d (h, .own e 1 1 [p]) hP⟩) (hw:ZT ops sL o=some true:=by exact rfl) (hd:o.dst=some d:=by exact rfl) (hn:d<c.nt:=by exact Xa rfl) (ho:o.op= .buildSlice t 1 #[(0,x)]:=by exact rfl) (hx:ev sL x=some (v,p):=by exact rfl) (h10:one p=true:=by first|exact rfl|assumption) (hl:lk hP d=none:=by exact rfl):aL P c ops Q (o::rest) (⟨sL,hP⟩:St):=
 Zjd (kk:=1) d hT hw hd hn ho hx h10 hl k
theorem YM {t e kk bytes:Nat} {z:Value} {x:Operand} {v:Value} {ps:List PV} (d:Nat) (hT:ElT P t e kk bytes z) (k:∀h:Value,h.oneCell'=true→aL P c ops Q rest ⟨put d (h, .val h) sL,put d (h, .own e kk 1 ps) hP⟩) (hw:ZT ops sL o=some true:=by exact rfl) (hd:o.dst=some d:=by exact rfl) (hn:d<c.nt:=by exact Xa rfl) (ho:o.op= .buildSlice t 1 #[(0,x)]:=by exact rfl) (hx:ev sL x=some (v, .agg ps):=by exact rfl) (hps:ps.length=kk:=by exact rfl) (hkb:kk≤1000:=by decide) (hl:lk hP d=none:=by exact rfl):aL P c ops Q (o::rest) (⟨sL,hP⟩:St):=
 Zgk d hT hw hd hn ho hx hps hkb hl k
theorem CR {t e bytes m:Nat} {z:Value} {xs:List Operand} {parts:Array (Nat×Operand)} {es:List Ent} (d:Nat) (hT:ElT P t e 1 bytes z) (k:∀h:Value,h.oneCell'=true→aL P c ops Q rest ⟨put d (h, .val h) sL,put d (h, .own e 1 m (es.map (·.2))) hP⟩) (hw:ZT ops sL o=some true:=by exact rfl) (hd:o.dst=some d:=by exact rfl) (hn:d<c.nt:=by exact Xa rfl) (ho:o.op= .buildSlice t m parts:=by exact rfl) (hpt:parts=((xs.zipIdx).map fun x=>(x.2,x.1)).toArray:=by exact rfl) (hx:evL sL xs=some es:=by exact rfl) (h1:es.all (fun x=>one x.2)=true:=by exact rfl) (hm:es.length=m:=by exact rfl) (hm0:0<m:=by decide) (hm1:m≤1000:=by decide) (hl:lk hP d=none:=by exact rfl):aL P c ops Q (o::rest) (⟨sL,hP⟩:St):=
 Zje d hT hw hd hn ho hpt hx h1 hm hm0 hm1 hl k
theorem YZ {t j e kk n:Nat} {x y:Operand} {h v:Value} {q p:PV} {cs:List PV} (l:Nat) (hT:NoAgg P t=true) (hsz:(P.info? t).map (·.size)=some 1) (k:aL P c ops Q rest ⟨sL,put l (h, .own e kk n (cs.set j p)) hP⟩) (hw:ZT ops sL o=some true:=by exact rfl) (hd:o.dst=none:=by exact rfl) (ho:o.op= .store t x y:=by exact rfl) (hx:ev sL x=some (padd (sbase h) j,q):=by exact rfl) (hy:ev sL y=some (v,p):=by exact rfl) (h1:one p=true:=by first|exact rfl|assumption) (hl:lk hP l=some (h, .own e kk n cs):=by exact rfl) (hj:j<cs.length:=by first|omega|exact Xa rfl|(simp only [Xk,XC,Xd,Xt,Xb,XJ,Xs,Xu,XK];omega)):aL P c ops Q (o::rest) (⟨sL,hP⟩:St):=
 ZlE l hw hd hT hsz ho hx hy h1 hl hj k
theorem ZA {t j e kk n m:Nat} {x y:Operand} {h V:Value} {q:PV} {ps cs:List PV} (l:Nat) (hT:AggT P t m=true) (k:aL P c ops Q rest ⟨sL,put l (h, .own e kk n (Tn cs j ps)) hP⟩) (hw:ZT ops sL o=some true:=by exact rfl) (hd:o.dst=none:=by exact rfl) (ho:o.op= .store t x y:=by exact rfl) (hx:ev sL x=some (padd (sbase h) j,q):=by exact rfl) (hy:ev sL y=some (V, .agg ps):=by exact rfl) (hm:ps.length=m:=by exact rfl) (h1:ps.all one=true:=by first|exact rfl|(simp only [XD,XH,XE,Xe];(repeat (first|refine ⟨?_,?_⟩|rfl|assumption)))) (hl:lk hP l=some (h, .own e kk n cs):=by exact rfl) (hj:j+m≤cs.length:=by first|omega|exact Xa rfl|(simp only [Xk,XC,Xd,Xt,Xb,XJ,Xs,Xu,XK];omega)) (hm0:0<m:=by decide):aL P c ops Q (o::rest) (⟨sL,hP⟩:St):=
 ZlF l hw hd hT ho hx hy hm h1 hl hj hm0 k
theorem JZ {t:Nat} (d:Nat) (k:∀m:Value,m.oneCell'=true→aL P c ops Q rest ⟨put d (m, .val m) sL,put d (m, .omap []) hP⟩) (hw:ZT ops sL o=some true:=by exact rfl) (hd:o.dst=some d:=by exact rfl) (hn:d<c.nt:=by exact Xa rfl) (ho:o.op= .makeMap t none:=by exact rfl) (hl:lk hP d=none:=by exact rfl):aL P c ops Q (o::rest) (⟨sL,hP⟩:St):=
 Zgn d hw hd hn ho hl k
theorem GU {t ks e:Nat} {kd:TypeDesc} {z:Value} {x y u:Operand} {m k v:Value} {kv:List (Value×Value)} {p q r:PV} (l:Nat) (hT:MpT P t ks e kd z) (kk:aL P c ops Q rest ⟨sL,put l (m, .omap (K5 kv k v)) hP⟩) (hw:ZT ops sL o=some true:=by exact rfl) (hd:o.dst=none:=by exact rfl) (ho:o.op= .mapUpdate t x y u:=by exact rfl) (hx:ev sL x=some (m,p):=by exact rfl) (hl:lk hP l=some (m, .omap kv):=by exact rfl) (hy:ev sL y=some (k,q):=by exact rfl) (hu:ev sL u=some (v,r):=by exact rfl) (hk:kok kd k kv:=by first|exact S1 _ _|exact S2 _ _|exact OE _ _|assumption) (hbits:bits k=true:=by exact rfl):aL P c ops Q (o::rest) (⟨sL,hP⟩:St):=
 Zjk l hw hd hT ho hx hl hy hu hk hbits kk
theorem ZU {t ty e kk bytes n m:Nat} {z:Value} {x y:Operand} {h h2:Value} {q q2:PV} {cs cs2:List PV} (l:Nat) (l2:Nat) (d:Nat) (hT:ElT P t e kk bytes z) (k:∀h':Value,h'.oneCell'=true→aL P c ops Q rest ⟨put d (h', .val h') sL,put d (h', .own e kk (n+m) (cs++cs2)) (del l2 (del l hP))⟩) (hw:ZT ops sL o=some true:=by exact rfl) (hd:o.dst=some d:=by exact rfl) (hn:d<c.nt:=by exact Xa rfl) (hty:o.type=ty:=by exact rfl) (ho:o.op= .call {callee:= .builtin .append,args:= #[x,y],argTypes:= #[t,t]}:=by exact rfl) (hx:ev sL x=some (h,q):=by exact rfl) (hy:ev sL y=some (h2,q2):=by exact rfl) (hll:Nat.beq l l2=false:=by exact rfl) (hl:lk hP l=some (h, .own e kk n cs):=by exact rfl) (hl2:lk hP l2=some (h2, .own e kk m cs2):=by exact rfl) (hdl:lk (del l2 (del l hP)) d=none:=by exact rfl) (hm:0<m:=by decide) (hok:cs2.all GQ=true:=by first|exact rfl|(simp only [XD,XH,XE,Xe];(repeat (first|refine ⟨?_,?_⟩|rfl|assumption)))) (hlen:n+m≤9223372036854775807:=by first|omega|exact Xa rfl|(simp only [Xk,XC,Xd,Xt,Xb,XJ,Xs,Xu,XK];omega)) (hb:(n+m)*bytes≤140737488355328:=by first|omega|exact Xa rfl|(simp only [Xk,XC,Xd,Xt,Xb,XJ,Xs,Xu,XK];omega)) (hdr:¬c.dr:=by exact id):aL P c ops Q (o::rest) (⟨sL,hP⟩:St):=
 Zey l l2 d hT hw hd hn hty ho hx hy hll hl hl2 hdl hm hok hlen hb hdr k
theorem bLd {l:List Oper} (t:Nat) {p:Prop} {_:Decidable p} {q:PV} (ht:p→aL P c ops Q l ⟨put t (.bool true, .val (.bool true)) sL,hP⟩) (hf:¬p→aL P c ops Q l ⟨put t (.bool false, .val (.bool false)) sL,hP⟩) (hx:lk sL t=some (.bool (decide p),q):=by exact rfl):aL P c ops Q l (⟨sL,hP⟩:St):=
 ζX t hx (fun h=>ht (UV h)) (fun h=>hf (UW h))
theorem bDd (t:Nat) {p:Prop} {_:Decidable p} {q:PV} (ht:p→aD P c ops Q Z K fuel listed ⟨put t (.bool true, .val (.bool true)) sL,hP⟩) (hf:¬p→aD P c ops Q Z K fuel listed ⟨put t (.bool false, .val (.bool false)) sL,hP⟩) (hx:lk sL t=some (.bool (decide p),q):=by exact rfl):aD P c ops Q Z K fuel listed (⟨sL,hP⟩:St):=
 Zgp t hx (fun h=>ht (UV h)) (fun h=>hf (UW h))
theorem cC {x:Operand} {t e:Code} {b:Bool} {q:PV} (ht:b=true→aC P c t Q (⟨sL,hP⟩:St)) (hf:b=false→aC P c e Q (⟨sL,hP⟩:St)) (hx:ev sL x=some (.bool b,q):=by exact rfl):aC P c (.cond x t e) Q (⟨sL,hP⟩:St):=Oy hx ht hf
theorem cCd {x:Operand} {t e:Code} {p:Prop} {_:Decidable p} {q:PV} (ht:p→aC P c t Q (⟨sL,hP⟩:St)) (hf:¬p→aC P c e Q (⟨sL,hP⟩:St)) (hx:ev sL x=some (.bool (decide p),q):=by exact rfl):aC P c (.cond x t e) Q (⟨sL,hP⟩:St):=Oy hx (fun h=>ht (UV h)) (fun h=>hf (UW h))
theorem cX {A B C:Prop} (h1:B) (h2:C) (e:B→C→A:=by intro h1 h2;first|exact cCd h1 h2|exact cC h1 h2):A:=e h1 h2
theorem cCt {x:Operand} {t e:Code} {q:PV} (ht:aC P c t Q (⟨sL,hP⟩:St)) (hx:ev sL x=some (.bool true,q):=by exact rfl):aC P c (.cond x t e) Q (⟨sL,hP⟩:St):=Oy hx (fun _=>ht) (fun h=>Bool.noConfusion h)
theorem cCf {x:Operand} {t e:Code} {q:PV} (hf:aC P c e Q (⟨sL,hP⟩:St)) (hx:ev sL x=some (.bool false,q):=by exact rfl):aC P c (.cond x t e) Q (⟨sL,hP⟩:St):=Oy hx (fun h=>Bool.noConfusion h) (fun _=>hf)
theorem cA {dd:Prop} {f:Nat} {xs:Array Operand} {ats:Array TypeId} {es:List Ent} {ps:List PV} {R:PV→Prop} (hc:∀args w,(callFunc f args).run P w= .ok (.enter f args) w) (hA:AFd dd P f ps R) (ho:o.op= .call {callee:= .value (.func f),args:=xs,argTypes:=ats}:=by exact rfl) (hx:evL sL xs.toList=some es:=by exact rfl) (hps:es.map (·.2)=ps:=by exact rfl) (hdd:c.dr→dd:=by first|exact id|exact fun h=>h.elim|exact fun _=>trivial):Gf P c (⟨sL,hP⟩:St) o R:=
 ZmG ho hc hx (hps▸hA) hdd
theorem cS {p:PV} (d:Nat) (hC:Gf P c (⟨sL,hP⟩:St) o (· =p)) (k:∀v,vOf p v→aL P c ops Q rest ⟨put d (v,p) sL,hP⟩) (hsh:isSh p=true:=by exact rfl) (hw:ZT ops sL o=some true:=by exact rfl) (hd:o.dst=some d:=by exact rfl) (hn:d<c.nt:=by exact Xa rfl):aL P c ops Q (o::rest) (⟨sL,hP⟩:St):=
 ZmI d hw hd hn hC fun p' hp=>by subst hp;exact ⟨hsh,k⟩
theorem cO {p:PV} (d:Nat) (hC:Gf P c (⟨sL,hP⟩:St) o (· =p)) (k:∀v,v.oneCell'=true→aL P c ops Q rest ⟨put d (v, .val v) sL,put d (v,p) hP⟩) (hok:GQ p=true:=by exact rfl) (hl:lk hP d=none:=by exact rfl) (hw:ZT ops sL o=some true:=by exact rfl) (hd:o.dst=some d:=by exact rfl) (hn:d<c.nt:=by exact Xa rfl):aL P c ops Q (o::rest) (⟨sL,hP⟩:St):=
 ZmJ d hw hd hn hl hC fun p' hp=>by subst hp;exact ⟨hok,k⟩
end
mutual
def shD:PV→Bool
 | .val _=>true
 | .sl _ _=>true
 | .sptr _ _=>true
 | .smap _=>true
 | .own _ _ _ _=>false
 | .omap _=>false
 | .obox _ _ _=>false
 | .agg ps=>ZeE ps
 | .tup ps=>ZeE ps
 | .fn _ _=>true
 | .oblk _ _ _ _=>false
def ZeE:List PV→Bool
 |[]=>true
 |p::l=>shD p&&ZeE l
end
theorem O8:∀l:List PV,ZeE l=l.all shD
 |[]=>by simp [ZeE]
 |p::l=>by simp [ZeE,O8 l]
theorem Tr.shD {M:BS} {w:World} {v:Value} {p:PV} {F:BS} (h:Tr M w v p F):En.shD p=true→Shr M w v p:=by
 induction h with
 |shr h _=>exact fun _=>h
 |own=>intro h;rw [En.shD] at h;cases h
 |omap=>intro h;rw [En.shD] at h;cases h
 |oblk=>intro h;rw [En.shD] at h;cases h
 |obox=>intro h;rw [En.shD] at h;cases h
 | @agg ps F vs Fs hl h hd hF ih=>
   intro hs;rw [En.shD,O8] at hs;exact .agg vs ps hl fun i v p hv hp=>ih i v p hv hp (XB.1 hs p (Xc hp))
 | @tup ps F vs Fs hl h hd hF ih=>
   intro hs;rw [En.shD,O8] at hs;exact .tup vs ps hl fun i v p hv hp=>ih i v p hv hp (XB.1 hs p (Xc hp))
section
variable {P:Program} {c:Ctx} {ops:Array Oper} {Q:Exit→Act→World→Prop} {rest:List Oper} {st:St} {sL hP:List (Nat×Ent)} {o:Oper} {Z:Nat→Bool} {K:List Nat} {fuel:Nat} {listed:Array Bool}
theorem Sv {x:Operand} {v:Value} {j:Nat} {cs:List PV} (ho:o.op= .nilCheck x:=by exact rfl) (hx:ev st.slots x=some (v, .sptr j cs):=by exact rfl):YE P st o (· =v) (.sptr j cs):=
 .exact fun M F a w H=>by
  obtain ⟨hv,hs⟩:=H.ev hx
  cases hs with
  |sptr b off j cs vs hcell hT'=>exact ⟨.sptr b off j cs vs hcell hT',by simp [execOp,ho,hv]⟩
theorem Zci {x:Operand} {h:Value} {q:PV} {j e k n:Nat} {cs:List PV} (l:Nat) (ho:o.op= .nilCheck x:=by exact rfl) (hx:ev st.slots x=some (padd (sbase h) j,q):=by exact rfl) (hl:lk st.heap l=some (h, .own e k n cs):=by exact rfl) (hn:0<n:=by first|omega|decide):YE P st o (· =padd (sbase h) j) (.val (padd (sbase h) j)):=
 .exact fun M F a w H=>by
  have hv:=(H.ev hx).1;obtain ⟨g,cap,rfl,_⟩:=K3 (H.tr l _ _ hl) hn;refine ⟨.val _,?_⟩;simp only [sbase,padd] at hv ⊢;simp [execOp,ho,hv]
theorem OH {l t j e k n:Nat} {h:Value} {cs:List PV} {q:PV} (hl:lk hP l=some (h, .own e k n cs)) (hn:0<n) (ht:lk sL t=some (padd (sbase h) j,q)):Tg (⟨sL,hP⟩:St) (fun _:Unit=>⟨put t (padd (sbase h) j, .sptr j (Jj cs)) sL,del l hP⟩):=fun c a w ⟨F,H⟩=>by
 refine ⟨(),F,?_⟩
 have hm:∀b,mof c (del l hP) F b→mof c hP F b:=by
  rintro b (h|⟨l',x,h1,h2⟩)
  · exact .inl h
  · exact .inr ⟨l',x,(YQ h1).2,h2⟩
 have H1:HoldsF c ⟨sL,del l hP⟩ F a w:=H.less (fun _ _ h=>h) (fun _ _ h=>(YQ h).2)
 refine ⟨H1.toHeapF,fun s u r hs=>?_,H.size,H.df⟩
 rcases Ya hs with ⟨rfl,e1⟩|⟨_,hs'⟩
 · cases e1;refine ⟨(H.sl t _ _ ht).1,?_⟩;obtain ⟨g,cap,rfl,_⟩:=K3 (H.tr l _ _ hl) hn;have h2:=(H.tr l _ _ hl).share (M':=mof c (del l hP) F) (fun b _ h=>hm b h) fun b hb hmb=>by
    rcases hmb with h1|⟨l',x,h1,h2⟩
    · exact H.apart h1 hl hb
    · exact H.dj l l' _ _ b (YQ h1).1 hl (YQ h1).2 hb h2
   rw [share] at h2;generalize Jj cs=cs' at h2 ⊢
   cases h2 with
   |emp=>omega
   |sl _ _ _ _ _ vs _ _ hcell hT=>exact .sptr g 0 j cs' vs hcell hT
 · exact H1.sl s u r hs'
theorem cB {dd:Prop} {f:Nat} {xs:Array Operand} {ats:Array TypeId} {ps:List PV} {R:PV→Prop} (ho:o.op= .call {callee:= .value (.func f),args:=xs,argTypes:=ats}) (hc:∀args w,(callFunc f args).run P w= .ok (.enter f args) w) (hA:AFd dd P f ps R) (hx:Zji (⟨sL,hP⟩:St) xs.toList ps) (hR:∀p,R p→nosh p=true:=by rintro p rfl;exact rfl) (hdd:c.dr→dd:=by first|exact id|exact fun h=>h.elim|exact fun _=>trivial):Gf P c (⟨sL,hP⟩:St) o R:=ZmH ho hc hx hA hR hdd
theorem WE {i d:Nat} {p:PV} (ho:ops[i]? =some o) (hC:Gf P c (⟨sL,hP⟩:St) o (· =p)) (k:∀v,vOf p v→aD P c ops Q Z K fuel (listed.setIfInBounds i true) ⟨put d (v,p) sL,hP⟩) (hsh:shD p=true:=by exact rfl) (hw:ZT ops sL o=some true:=by exact rfl) (hd:o.dst=some d:=by exact rfl) (hn:d<c.nt:=by exact Xa rfl):aW P c ops Q Z K fuel listed (⟨sL,hP⟩:St) i:=fun a w F H C hC'=>by
 refine K2 (Q':=fun _ a' w'=>(Z i=true∨C w')∧KD P .any ops Q C Z fuel (listed.setIfInBounds i true) a' w') ho (fun a' w' hq=>hq) ?_
 have h1:=Jk H.rd hw
 unfold wpList
 rw [h1,UT rfl]
 refine .inl ?_
 obtain ⟨f,args,hr,hcall⟩:=hC a w F H
 unfold Oper.wp
 rw [hr,Oper.upon_enter]
 refine hcall.mono fun e w' ⟨v,q,Fr,e1,e2,e3,e4,e5,e6⟩=>?_
 subst e1
 rw [show q=p from e2] at e4
 have hS:=e4.shD hsh
 have H2:HoldsF c ⟨put d (v,p) sL,hP⟩ F (a.put (some d) v) w':=RV H e3 hn (hS.anti fun b _ h=> .inl h)
 simp only [Oper.upon,hd]
 have hch:Chg (nK K hP F) w w':=e3.chg
 exact ⟨.inr (hC' w' hch),k v hS.vOf _ w' F H2 C fun W hW=>hC' W (hch.tr hW fun b hb=> .inl hb)⟩
theorem cP {p1 p2:PV} (d:Nat) (hC:Gf P c (⟨sL,hP⟩:St) o (· = .tup [p1,p2])) (k:∀v1 v2,vOf p1 v1→vOf p2 v2→aL P c ops Q rest ⟨put d (.tuple [v1,v2].toArray, .tup [p1,p2]) sL,hP⟩) (hsh:shD (.tup [p1,p2])=true:=by exact rfl) (hw:ZT ops sL o=some true:=by exact rfl) (hd:o.dst=some d:=by exact rfl) (hn:d<c.nt:=by exact Xa rfl):aL P c ops Q (o::rest) (⟨sL,hP⟩:St):=
 G4 hw hC fun a w F w' v p' Fr H hR hx hT hlo hdw=>by
  rw [show p'= .tup [p1,p2] from hR] at hT;have hS:=hT.shD hsh;rw [hd];have hS':Shr (mof c hP F) w' v (.tup [p1,p2]):=hS.anti fun b _ h=> .inl h
  cases hS with
  | tup vs ps hl h=>
    match vs,hl,h,hS' with
    |[v1,v2],_,h,hS'=>exact k v1 v2 (h 0 v1 p1 rfl rfl).vOf (h 1 v2 p2 rfl rfl).vOf _ _ ⟨F,RV H hx hn hS'⟩
theorem G7 (i j k:Nat) (hr:Region.ready .any ops listed=[i,j,k]) (h:aW P c ops Q Z K fuel listed (⟨sL,hP⟩:St) i) (h':aW P c ops Q Z K fuel listed (⟨sL,hP⟩:St) j) (h'':aW P c ops Q Z K fuel listed (⟨sL,hP⟩:St) k):aD P c ops Q Z K (fuel+1) listed (⟨sL,hP⟩:St):=fun a w F H C hC=>
 ⟨(fun hn=>by rw [hr] at hn;cases hn),fun m hm=>by
   rw [hr] at hm;rcases (by simpa using hm:m=i∨m=j∨m=k) with rfl|rfl|rfl
   · exact h a w F H C hC
   · exact h' a w F H C hC
   · exact h'' a w F H C hC⟩
theorem K8 {ι:Type} {S:ι→St} (i:ι) (hs:Sub (S i).slots sL) (hh:Sub (S i).heap hP):aN c (Exit.then (fun a w=>∃i,Holds c (S i) a w) Q) (⟨sL,hP⟩:St):=ZlH i hs hh
end
theorem Znd (a b:Nat):Nat.beq a b=(a==b):=by
 cases h:Nat.beq a b
 · exact (beq_eq_false_iff_ne.2 (fun e=>by rw [e] at h;simp at h)).symm
 · exact (beq_iff_eq.2 (XG h)).symm
theorem nrm {A B:Prop} (h:B) (e:B→A:=by intro h;(try simp only [Jl,Kk,put,del,Znd,List.elem,XW,Vp,Nat.reduceBEq,cond_true,cond_false]);exact h):A:=e h
section
variable {P:Program} {c:Ctx} {sL hP:List (Nat×Ent)}
theorem G8 {F:Nat→BS} {a:Act} {w:World} (H:HoldsF c (⟨sL,hP⟩:St) F a w) {t ty k l e k' n:Nat} {h:Value} {q:PV} {cs:List PV} (hT:AggT P ty k=true) (ht:lk sL t=some (padd (sbase h) 0,q)) (hl:lk hP l=some (h, .own e k' n cs)) (hp:k≤cs.length) (hk:0<k) (hsh:(cs.take k).all isSh=true):
 ∃V A,(asAddr (a.tmps.getD t undef)).run P w= .ok A w∧(loadVar ty A).run P w= .ok V w∧Shr (mof c hP F) w V (.agg (cs.take k)):=by
 have hv:=(H.sl t _ _ ht).1
 obtain ⟨xs,Fs,hrow,hlen,hTr,hd,hb,hF'⟩:=(H.tr l _ _ hl).row
 rcases YG hrow with ⟨_,_,rfl⟩|⟨g,cap,rfl,h1,h2,h3⟩
 · simp at hlen;rw [hlen] at hp;simp at hp;omega
 refine ⟨.agg (xs.take k).toArray,⟨g,0,none⟩,?_,?_, .agg _ _ (by simp;omega) (fun i u p hu hp'=>?_)⟩
 · simp only [sbase,padd,Xv] at hv;simp [X0,hv,asAddr]
 · have hcl:∀i u,(xs.take k)[i]? =some u→w.cell? ((⟨g,0,none⟩:Addr).add i)=some u:=fun i u hu=>by
    (have hi:i<k:=by have:=Zf hu;simp at this;omega);rw [X1 hi] at hu;rw [Y4,Xv];exact Wq hrow hu
   have:=run_loadCells_list (P:=P) (w:=w) ⟨g,0,none⟩ _ hcl;rw [show (xs.take k).length=k by simp;omega] at this;simp [loadVar,AggT.run hT,AggT.size hT,this]
 · have hi:i<k:=by have:=Zf hu;simp at this;omega
   have hps:=XB.1 hsh p (Xc hp');rw [X1 hi] at hp' hu;exact (hTr _ u p hu hp').sh hps
theorem JG {fn:Func} {R:PV→Prop} {t ty k e k' n:Nat} {h:Value} {q:PV} {cs:List PV} (l:Nat) (hT:AggT P ty k=true) (hr:fn.results= #[.cell t ty]) (ht:lk sL t=some (padd (sbase h) 0,q)) (hl:lk hP l=some (h, .own e k' n cs)) (hp:k≤cs.length) (hk:0<k) (hsh:(cs.take k).all isSh=true) (hR:R (.agg (cs.take k))) (hN:∀b,¬c.N0 b:=by intro _ h;exact h) (hdf:c.df=[]:=by exact rfl):aR c (bodyPost P fn (GI c R)) (⟨sL,hP⟩:St):=fun a w ⟨F,H⟩=>by
 obtain ⟨V,A,h0,h1,h2⟩:=G8 H hT ht hl hp hk hsh
 refine ⟨H.df.trans hdf,V,?_,V,_,fun _=>False,rfl,hR,H.ext.ext (fun b _=>hN b), .shr (h2.anti fun b _ hb=>?_) (fun _ h=>h),fun _ h=>h.elim,H.dw⟩
 · simp only [results,hr];simp at h0;simp [h0,h1]
 · rcases hb with hb|hb
   · exact .inl hb
   · exact hb.elim
theorem Ys {fn:Func} {R:PV→Prop} {t ty s k e k' n:Nat} {h u:Value} {q p:PV} {cs:List PV} (l:Nat) (hT:AggT P ty k=true) (hr:fn.results= #[.cell t ty, .tmp s]) (ht:lk sL t=some (padd (sbase h) 0,q)) (hl:lk hP l=some (h, .own e k' n cs)) (hs:lk sL s=some (u,p)) (hp:k≤cs.length) (hk:0<k) (hsh:(cs.take k).all isSh=true) (hR:R (.tup [.agg (cs.take k),p])) (hN:∀b,¬c.N0 b:=by intro _ h;exact h) (hdf:c.df=[]:=by exact rfl):aR c (bodyPost P fn (GI c R)) (⟨sL,hP⟩:St):=fun a w ⟨F,H⟩=>by
 obtain ⟨V,A,h0,h1,h2⟩:=G8 H hT ht hl hp hk hsh
 obtain ⟨h3,h4⟩:=H.sl s _ _ hs
 have hM:∀b,b<w.heap.size→(c.M0 b∨False)→mof c hP F b:=fun b _ hb=>by
  rcases hb with hb|hb
  · exact .inl hb
  · exact hb.elim
 refine ⟨H.df.trans hdf, .tuple #[V,u],?_, .tuple #[V,u],_,fun _=>False,rfl,hR,H.ext.ext (fun b _=>hN b), .shr (.tup [V,u] _ rfl fun i v q' hv hq'=>?_) (fun _ h=>h),fun _ h=>h.elim,H.dw⟩
 · simp only [results,hr];simp at h0;simp [h0,h1,X0,h3]
 · match i with
   |0=>simp at hv hq';subst hv hq';exact h2.anti hM
   |1=>simp at hv hq';subst hv hq';exact h4.anti hM
   |i+2=>simp at hv
end
end Go.En
namespace Go.Proofs.YtgfabnhpllkebaaGreatDoor
open Go.RowKit Go.Cb Go.En Tryz
set_option linter.all false
set_option maxRecDepth 100000
theorem Eh:NoAgg prog 27=true:=by kernel_rfl
theorem G9:NoAgg prog 9=true:=by kernel_rfl
theorem Y':SlT prog 27 9 1=true:=by kernel_rfl
theorem G':SlT prog 71 27 1=true:=by kernel_rfl
abbrev pU8 (n:Int):PV:= .val (.int .u8 n)
theorem S4 {a b:Bool} (h:a=true↔b=true):ZM a=ZM b:=by rw [VY.2 h]
theorem ZeF {s:ByteArray} {i:Nat} {x:UInt8} (h:s.data[i]? =some x):i<s.size:=by
 rcases XF i s.size with h1|h1
 · exact h1
 · rw [Vj h1] at h;cases h
theorem OI {s:ByteArray} {i:Nat} (h:i<s.size):∃y,s.data[i]? =some y:=⟨s.data[i]'h,Array.getElem?_eq_getElem h⟩
theorem LK {s:ByteArray} (h:s.size<1∨40<s.size):KC s=false:=by
 unfold KC
 rcases h with h|h
 · rw [UR (show ¬1≤s.size by omega)];simp
 · rw [UR (show ¬s.size≤40 by omega)];simp
theorem O9 {s:ByteArray} {y:UInt8} (h0:s.data[0]? =some y) (h:JC y.toNat=false):KC s=false:=by
 unfold KC;rw [h0,V9,h];simp
theorem O' {s:ByteArray} {k:Nat} {y:UInt8} (hy:s.data[k]? =some y) (h:Tc y.toNat=false):KC s=false:=by
 unfold KC
 rw [Bool.and_eq_false_iff];right
 rw [List.all_eq_false]
 exact ⟨y,Array.mem_toList_iff.2 (Array.mem_of_getElem? hy),by rw [h];simp⟩
theorem PX {s:ByteArray} {y:UInt8} (h1:1≤s.size) (h2:s.size≤40) (h0:s.data[0]? =some y) (hl:JC y.toNat=true) (h:∀j z,j<s.size→s.data[j]? =some z→Tc z.toNat=true):KC s=true:=by
 unfold KC
 rw [h0,V9,hl,UQ h1,UQ h2]
 simp only [Bool.and_self,Bool.true_and,XB]
 intro x hx
 obtain ⟨i,hi⟩:=Array.getElem?_of_mem (Array.mem_toList_iff.1 hx)
 exact h i x (ZeF hi) hi
theorem ζ8 (c:Int):AF prog 149 [pU8 c] (· =ZM (JC c)):=by
 refine AF.of_body 17 func149 rfl ntmps149 (Xa rfl) ?_
 intro w0 M0 vs hl hv
 obtain ⟨v0,rfl⟩:=WL hl
 obtain rfl:=hv 0 _ _ rfl rfl
 clear hl hv
 refine Ze ?_
 (refine xL 2 Za ?_<;>refine Zg ?_)
 (refine xL 3 Zb (xL 4 WK (xL 5 Zb ?_))<;>(refine bLd 5 (fun hb5=>?_) (fun hb5=>?_)<;>(first|refine kL 6 ?_|refine xL 6 Zb ?_))<;>(first|refine kL 7 ?_|refine xL 7 O6 ?_)<;>refine xL 8 Zz (xL 9 Zb ?_)<;>(first|refine xL 10 Zb ?_|(refine bLd 9 (fun hb9=>?_) (fun hb9=>?_)<;>(first|refine kL 10 ?_|refine xL 10 Zb ?_)))<;>(first|refine kL 11 ?_|refine xL 11 WK ?_)<;>(first|refine kL 12 ?_|refine xL 12 Zb ?_)<;>(first|refine kL 13 ?_|(refine bLd 12 (fun hb12=>?_) (fun hb12=>?_)<;>(first|refine kL 13 ?_|refine xL 13 Zb ?_)))<;>(first|refine kL 14 ?_|refine xL 14 O6 ?_)<;>(first|refine kL 15 ?_|refine xL 15 Zz ?_)<;>refine xL 16 Zz (xL 2 Za ?_)<;>refine Zc ?_)<;>(
 refine Zv (results149) rfl (S4 ?_);simp only [JC,X3,Xe,UP,true_iff,false_iff,VO]<;>omega)
theorem ZlM (c:Int):AF prog 150 [pU8 c] (· =ZM (Tc c)):=by
 refine AF.of_body 25 func150 rfl ntmps150 (Xa rfl) ?_
 intro w0 M0 vs hl hv
 obtain ⟨v0,rfl⟩:=WL hl
 obtain rfl:=hv 0 _ _ rfl rfl
 clear hl hv
 refine Ze ?_
 (refine xL 2 Za ?_<;>refine Zg ?_)
 (refine xL 3 Zb ?_<;>(refine cS 4 (cA call149 (ζ8 c)) fun v4 h=>?_;cases h)<;>refine xL 5 Zb ?_<;>(refine bL 5 (fun hb5=>?_) (fun hb5=>?_)<;>(first|refine kL 6 ?_|refine xL 6 Zb ?_))<;>(first|refine kL 7 ?_|refine xL 7 WK ?_)<;>(first|refine kL 8 ?_|refine xL 8 Zb ?_)<;>(first|refine kL 9 ?_|(refine bLd 8 (fun hb8=>?_) (fun hb8=>?_)<;>(first|refine kL 9 ?_|refine xL 9 Zb ?_)))<;>(first|refine kL 10 ?_|refine xL 10 O6 ?_)<;>(first|refine kL 11 ?_|refine xL 11 Zz ?_)<;>refine xL 12 Zz (xL 13 Zb ?_)<;>(first|refine kL 14 ?_|refine xL 14 Zb ?_|(refine bLd 13 (fun hb13=>?_) (fun hb13=>?_)<;>(first|refine kL 14 ?_|refine xL 14 Zb ?_)))<;>(first|refine kL 15 ?_|refine xL 15 Z3 ?_)<;>refine xL 16 Zz (xL 17 Zb ?_)<;>(first|refine kL 18 ?_|(refine bLd 17 (fun hb17=>?_) (fun hb17=>?_)<;>(first|refine kL 18 ?_|refine xL 18 Zb ?_)))<;>(first|refine kL 19 ?_|refine xL 19 Z3 ?_)<;>refine xL 20 Zz (xL 21 Zb ?_)<;>(first|refine kL 22 ?_|(refine bLd 21 (fun hb21=>?_) (fun hb21=>?_)<;>(first|refine kL 22 ?_|refine xL 22 Zb ?_)))<;>(first|refine kL 23 ?_|refine xL 23 Z3 ?_)<;>refine xL 24 Zz (xL 2 Za ?_)<;>refine Zc ?_)<;>(
 refine Zv (results150) rfl (S4 ?_);simp only [Tc,X3,Xe,UP,true_iff,false_iff,VO,beq_iff_eq]<;>simp_all<;>omega)
theorem Zgu (s:ByteArray) (hs:s.size≤9223372036854775807):AF prog 103 [Z' s] (· =ZM (KC s)):=by
 refine AF.of_body 29 func103 rfl ntmps103 (Xa rfl) ?_
 intro w0 M0 vs hl hv
 obtain ⟨v0,rfl⟩:=WL hl
 obtain rfl:=hv 0 _ _ rfl rfl
 clear hl hv
 refine Ze ?_
 (refine xL 2 Za ?_<;>refine Zg ?_)
 (refine xL 4 Zb (xL 5 (Su underlying9) (xL 6 ZQ (xL 7 Zb ?_)))<;>(refine bLd 7 (fun hb7=>?_) (fun hb7=>?_)<;>(first|refine kL 8 ?_|refine xL 8 Zb ?_))<;>(first|refine kL 9 ?_|refine xL 9 (Su underlying9) ?_)<;>(first|refine kL 10 ?_|refine xL 10 YP ?_)<;>refine xL 11 Zz (xL 12 Zb ?_)<;>(first|refine kL 13 ?_|(refine bLd 12 (fun hb12=>?_) (fun hb12=>?_)<;>(first|refine kL 13 ?_|refine xL 13 Zb ?_)))<;>(first|refine kL 14 ?_|(refine (OI (i:=0) (s:=s) oM).elim fun y0 hy0=>?_;refine xL 14 (OF underlying9) ?_))<;>(first|refine kL 15 ?_|(refine cS 15 (cA call149 (ζ8 y0.toNat)) fun v15 h=>?_;cases h))<;>(first|refine kL 16 ?_|refine xL 16 Yg ?_)<;>refine xL 17 Zz ?_<;>refine Zc ?_)<;>(
 refine cX ?_ ?_<;>intro hb17
 · first|exact bN hb17|(
 refine Ze ?_;(refine xL 2 Za ?_<;>refine Zc ?_)
 refine Zv (results103) rfl ?_
 first|rw [LK oM]|rw [O9 hy0 (by simpa using hb17)])
 · first | exact bN hb17|(
 refine Ze ?_;(refine xL 18 Zb (xL 19 (Su underlying9) (xL 20 Zb ?_))<;>refine Zc ?_)
 refine ZD (ι:={k:Nat//k≤s.size∧∀j y,j<k→s.data[j]? =some y→Tc y.toNat=true}) (fun k=>⟨[(0,_,_),(19,_,_),(20, .int .i64 k.1,pInt k.1)],[]⟩) (fun k=>s.size-k.1) ⟨0,oM,oM⟩ (fun a w H=>H.weaken ⟨rfl,rfl,rfl,trivial⟩ trivial) ?_;rintro ⟨k,hk,hp⟩;dsimp only;refine Ze ?_;(refine xL 21 ZQ ?_<;>refine Zc ?_)
 refine cX ?_ ?_<;>intro hb21
 · first |exact bN hb21|(
 have hlt:k<s.size:=oM;obtain ⟨y,hy⟩:=OI (s:=s) (i:=k) oM;refine Ze ?_;(refine xL 22 Zb (xL 3 Za ?_)<;>refine Zg ?_)
 (refine xL 23 Zb (xL 24 Zb (xL 25 (OF underlying9) ?_))<;>(refine cS 26 (cA call150 (ZlM y.toNat)) fun v26 h=>?_;cases h)<;>refine xL 27 Yg ?_<;>refine Zc ?_)
 refine cX ?_ ?_<;>intro hb27
 · first|exact bN hb27|(
 refine Ze ?_;(refine xL 2 Za ?_<;>refine Zc ?_)
 refine Zv (results103) rfl ?_;rw [O' hy (by simpa using hb27)])
 · first|exact bN hb27|(
 refine Ze ?_;(refine xL 28 ZH (xL 20 Zb ?_)<;>refine Zc ?_)
 refine Zn (
  ⟨k+1,oM,fun j z hj hz=>by
   by_cases e:j=k
   · subst e;rw [hy] at hz;cases hz;simpa using hb27
   · exact hp j z oM hz⟩
  ) (by dsimp only;omega) ⟨rfl,rfl,rfl,trivial⟩ trivial))
 · first|exact bN hb21|(
 refine Ze ?_;(refine xL 2 Za ?_<;>refine Zc ?_)
 refine Zv (results103) rfl ?_;rw [PX oM oM hy0 (by simpa using hb17) (fun j z hj hz=>hp j z oM hz)])))
theorem ζ9 {α:Type} {p:α→Bool} {l:List α} {k:Nat} {x:α} (hx:l[k]? =some x) (h:p x=false):l.all p=false:=List.all_eq_false.2 ⟨x,Xc hx,by rw [h];simp⟩
theorem Zjm {α:Type} {p:α→Bool} {l:List α} (h:∀(j:Nat) x,l[j]? =some x→p x=true):l.all p=true:=XB.2 fun x hx=>by
 obtain ⟨j,hj⟩:=X4 hx
 exact h j x hj
theorem Ei (c:Int):AF prog 203 [pU8 c] (· =ZM (JC c)):=by
 refine AF.of_body 17 func203 rfl ntmps203 (Xa rfl) ?_
 intro w0 M0 vs hl hv
 obtain ⟨v0,rfl⟩:=WL hl
 obtain rfl:=hv 0 _ _ rfl rfl
 clear hl hv
 refine Ze ?_
 (refine xL 2 Za ?_<;>refine Zg ?_)
 (refine xL 3 Zb (xL 4 WK (xL 5 Zb ?_))<;>(refine bLd 5 (fun hb5=>?_) (fun hb5=>?_)<;>(first|refine kL 6 ?_|refine xL 6 Zb ?_))<;>(first|refine kL 7 ?_|refine xL 7 O6 ?_)<;>refine xL 8 Zz (xL 9 Zb ?_)<;>(first|refine xL 10 Zb ?_|(refine bLd 9 (fun hb9=>?_) (fun hb9=>?_)<;>(first|refine kL 10 ?_|refine xL 10 Zb ?_)))<;>(first|refine kL 11 ?_|refine xL 11 WK ?_)<;>(first|refine kL 12 ?_|refine xL 12 Zb ?_)<;>(first|refine kL 13 ?_|(refine bLd 12 (fun hb12=>?_) (fun hb12=>?_)<;>(first|refine kL 13 ?_|refine xL 13 Zb ?_)))<;>(first|refine kL 14 ?_|refine xL 14 O6 ?_)<;>(first|refine kL 15 ?_|refine xL 15 Zz ?_)<;>refine xL 16 Zz (xL 2 Za ?_)<;>refine Zc ?_)<;>(
 refine Zv (results203) rfl (S4 ?_);simp only [JC,X3,Xe,UP,true_iff,false_iff,VO]<;>omega)
theorem ZeG (s : ByteArray) (hs:s.size≤9223372036854775807):AF prog 151 [Z' s] (· =ZM (KC s)):=by
 refine AF.of_body 52 func151 rfl ntmps151 (Xa rfl) ?_
 intro w0 M0 vs hl hv
 obtain ⟨v0,rfl⟩:=WL hl
 obtain rfl:=hv 0 _ _ rfl rfl
 clear hl hv
 refine Ze ?_
 (refine xL 2 Za ?_<;>refine Zg ?_)
 (refine xL 5 Zb (xL 6 (Su underlying9) (xL 7 ZQ (xL 8 Zb ?_)))<;>(refine bLd 8 (fun hb8=>?_) (fun hb8=>?_)<;>(first|refine kL 9 ?_|refine xL 9 Zb ?_))<;>(first|refine kL 10 ?_|refine xL 10 (Su underlying9) ?_)<;>(first|refine kL 11 ?_|refine xL 11 YP ?_)<;>refine xL 12 Zz (xL 13 Zb ?_)<;>(first|refine kL 14 ?_|(refine bLd 13 (fun hb13=>?_) (fun hb13=>?_)<;>(first|refine kL 14 ?_|refine xL 14 Zb ?_)))<;>(first|refine kL 15 ?_|(refine (OI (i:=0) (s:=s) oM).elim fun y0 hy0=>?_;refine xL 15 (OF underlying9) ?_))<;>(first|refine kL 16 ?_|(refine cS 16 (cA call203 (Ei y0.toNat)) fun v16 h=>?_;cases h))<;>(first|refine kL 17 ?_|refine xL 17 Yg ?_)<;>refine xL 18 Zz ?_<;>refine Zc ?_)<;>(
 refine cX ?_ ?_<;>intro hb18
 · first|exact bN hb18|(
 refine Ze ?_;(refine xL 2 Za ?_<;>refine Zc ?_)
 refine Zv (results151) rfl ?_
 first|rw [LK oM]|rw [O9 hy0 (by simpa using hb18)])
 · first | exact bN hb18|(
 refine Ze ?_;(refine xL 3 Za ?_<;>refine Zc ?_)
 have h0:∀(j:Nat) z,j<1→s.data[j]? =some z→Tc z.toNat=true:=fun j z hj hz=>by
  obtain rfl:j=0:=oM;rw [hy0] at hz;cases hz;unfold Tc;rw [show JC y0.toNat=true by simpa using hb18];rfl
 refine ZD (ι:={k:Nat//1≤k∧k≤s.size∧∀j y,j<k→s.data[j]? =some y→Tc y.toNat=true}) (fun k=>⟨[(0,_,_),(3, .int .i64 k.1,pInt k.1)],[]⟩) (fun k=>s.size-k.1) ⟨1,oM,oM,h0⟩ (fun a w H=>H.weaken ⟨rfl,rfl,trivial⟩ trivial) ?_;rintro ⟨k,hk1,hk,hp⟩;dsimp only;refine Ze ?_;(refine xL 19 Zb (xL 20 Zb (xL 21 (Su underlying9) (xL 22 ZQ ?_)))<;>refine Zc ?_)
 refine cX ?_ ?_<;>intro hb22
 · first | exact bN hb22|(
 have hlt:k<s.size:=oM;obtain ⟨y,hy⟩:=OI (s:=s) (i:=k) oM;refine Ze ?_;(refine xL 25 Zb (xL 26 Zb (xL 27 (OF underlying9) (xL 4 Za ?_)))<;>refine Zg ?_)
 (refine xL 28 Zb ?_<;>(refine cS 29 (cA call203 (Ei y.toNat)) fun v29 h=>?_;cases h)<;>refine xL 30 Yg (xL 31 Zb ?_)<;>(refine bL 31 (fun hb31=>?_) (fun hb31=>?_)<;>(first|refine kL 32 ?_|refine xL 32 Zb ?_))<;>(first|refine kL 33 ?_|refine xL 33 WK ?_)<;>(first|refine kL 34 ?_|refine xL 34 Zb ?_)<;>(first|refine kL 35 ?_|(refine bLd 34 (fun hb34=>?_) (fun hb34=>?_)<;>(first|refine kL 35 ?_|refine xL 35 Zb ?_)))<;>(first|refine kL 36 ?_|refine xL 36 O6 ?_)<;>(first|refine kL 37 ?_|refine xL 37 Zz ?_)<;>(first|refine kL 38 ?_|refine xL 38 Yg ?_)<;>refine xL 39 Zz (xL 40 Zb ?_)<;>(first|refine kL 41 ?_|refine xL 41 Zb ?_|(refine bL 40 (fun hb40=>?_) (fun hb40=>?_)<;>(first|refine kL 41 ?_|refine xL 41 Zb ?_)))<;>(first|refine kL 42 ?_|refine xL 42 YH ?_)<;>refine xL 43 Zz (xL 44 Zb ?_)<;>(first|refine kL 45 ?_|(refine bLd 44 (fun hb44=>?_) (fun hb44=>?_)<;>(first|refine kL 45 ?_|refine xL 45 Zb ?_)))<;>(first|refine kL 46 ?_|refine xL 46 YH ?_)<;>refine xL 47 Zz (xL 48 Zb ?_)<;>(first|refine kL 49 ?_|(refine bLd 48 (fun hb48=>?_) (fun hb48=>?_)<;>(first|refine kL 49 ?_|refine xL 49 Zb ?_)))<;>(first|refine kL 50 ?_|refine xL 50 YH ?_)<;>refine xL 51 Zz ?_<;>refine Zc ?_)<;>(
 refine cX ?_ ?_<;>intro hb51
 · first|exact bN hb51|(
 refine Ze ?_;(refine xL 2 Za ?_<;>refine Zc ?_)
 refine Zv (results151) rfl ?_;rw [O' hy];rw [Ux];intro hpb;simp only [Tc,X3,Xe,UP,beq_iff_eq] at hpb;simp_all
 try omega)
 · first |exact bN hb51|(
 refine Ze ?_;(refine xL 23 Zb (xL 24 ZH (xL 3 Za ?_))<;>refine Zc ?_)
 refine Zn (
  ⟨k +1,oM,oM,fun j z hj hz=>by
   by_cases e:j=k
   · subst e;rw [hy] at hz;cases hz;simp only [Tc,X3,Xe,UP,beq_iff_eq];simp_all
     try omega
   · exact hp j z oM hz⟩
  ) (by dsimp only;omega) ⟨rfl,rfl,trivial⟩ trivial)))
 · first|exact bN hb22|(
 refine Ze ?_;(refine xL 2 Za ?_<;>refine Zc ?_)
 refine Zv (results151) rfl ?_;rw [PX oM oM hy0 (by simpa using hb18) (fun j z hj hz=>hp j z oM hz)])))
theorem Zgv (l:List ByteArray) (s:ByteArray):AF prog 22 [Yj l,Z' s] (· =pInt (idx (fun x=>KR x s) l)):=by
 refine AF.of_body 19 func22 rfl ntmps22 (Xa rfl) ?_
 intro w0 M0 vs hl hv
 obtain ⟨v0,v1,rfl⟩:=WO hl
 obtain rfl:=hv 1 _ _ rfl rfl
 clear hl hv
 refine WY 0 rfl fun hlen=>?_
 refine Ze ?_
 (refine xL 4 Za ?_<;>refine Zg ?_)
 (refine xL 5 Za ?_<;>refine Zc ?_)
 refine ZD (ι:={k:Nat//k≤l.length∧∀i y,i<k→l[i]? =some y→KR y s=false}) (fun k=>⟨[(0,_,_),(1,_,_),(5, .int .i64 k.1,pInt k.1)],[]⟩) (fun k=>l.length-k.1) ⟨0,oM,oM⟩ (fun a w H=>H.weaken ⟨rfl,rfl,rfl,trivial⟩ trivial) ?_
 rintro ⟨k,hk,hp⟩
 dsimp only
 refine Ze ?_
 (refine xL 6 Zb (xL 7 Zb (xL 8 (ZR Y') (xL 9 ZQ ?_)))<;>refine Zc ?_)
 refine cX ?_ ?_<;>intro hb9
 · first |exact bN hb9|(
 obtain ⟨x,hx⟩:=Zp (show k<l.length by omega);have e1:=Ym (f:=Z') hx;refine Ze ?_;(refine xL 12 Zb (xL 13 Zb (xL 14 (ZF Y') ?_))<;>(refine yL 15 (Yo G9) fun v15 h=>?_;cases h)<;>refine xL 16 Zb (xL 17 Kl ?_)<;>refine Zc ?_)
 refine cX ?_ ?_<;>intro hb17
 · first|exact bN hb17|(
 refine Ze ?_;(refine xL 18 Zb (xL 4 Za ?_)<;>refine Zc ?_)
 refine Zv (results22) rfl ?_;rw [Tj hp hx hb17])
 · first|exact bN hb17|(
 refine Ze ?_;(refine xL 10 Zb (xL 11 ZH (xL 5 Za ?_))<;>refine Zc ?_)
 refine Zn (
  ⟨k+1,oM,fun i y hi hy=>by
   by_cases e:i=k
   · subst e;rw [hx] at hy;cases hy;exact hb17
   · exact hp i y oM hy⟩
  ) (by dsimp only;omega) ⟨rfl,rfl,rfl,trivial⟩ trivial))
 · first|exact bN hb9|(
 refine Ze ?_;(refine xL 4 Za ?_<;>refine Zc ?_)
 refine Zv (results22) rfl ?_;rw [Tl fun i y hi hy=>hp i y oM hy])
theorem Da (a b:ByteArray):KR a b=KR b a:=by unfold KR;rw [VY];simp only [beq_iff_eq];exact eq_comm
theorem Zaa (l:List ByteArray) (s:ByteArray):AF prog 86 [Yj l,Z' s] (· =pInt (idx (fun x=>KR x s) l)):=by
 refine AF.of_body 19 func86 rfl ntmps86 (Xa rfl) ?_
 intro w0 M0 vs hl hv
 obtain ⟨v0,v1,rfl⟩:=WO hl
 obtain rfl:=hv 1 _ _ rfl rfl
 clear hl hv
 refine WY 0 rfl fun hlen=>?_
 refine Ze ?_
 (refine xL 4 Za ?_<;>refine Zg ?_)
 (refine xL 6 Zb (xL 7 (ZR Y') (xL 8 Zb ?_))<;>refine Zc ?_)
 refine ZD (ι:={k:Nat//k≤l.length∧∀i y,i<k→l[i]? =some y→KR y s=false}) (fun k=>⟨[(0,_,_),(1,_,_),(7,_,_),(8, .int .i64 k.1,pInt k.1)],[]⟩) (fun k=>l.length-k.1) ⟨0,oM,oM⟩ (fun a w H=>H.weaken ⟨rfl,rfl,rfl,rfl,trivial⟩ trivial) ?_
 rintro ⟨k,hk,hp⟩
 dsimp only
 refine Ze ?_
 (refine xL 9 ZQ ?_<;>refine Zc ?_)
 refine cX ?_ ?_<;>intro hb9
 · first |exact bN hb9|(
 obtain ⟨x,hx⟩:=Zp (show k<l.length by omega);have e1:=Ym (f:=Z') hx;refine Ze ?_;(refine xL 10 Zb (xL 5 Za ?_)<;>refine Zg ?_)
 (refine xL 11 Zb (xL 12 Zb (xL 13 Zb (xL 14 (ZF Y') ?_)))<;>(refine yL 15 (Yo G9) fun v15 h=>?_;cases h)<;>refine xL 16 Kl ?_<;>refine Zc ?_)
 refine cX ?_ ?_<;>intro hb16
 · first|exact bN hb16|(
 (replace hb16:KR x s=true:=by rw [Da];exact hb16);refine Ze ?_;(refine xL 17 Zb (xL 4 Za ?_)<;>refine Zc ?_)
 refine Zv (results86) rfl ?_;rw [Tj hp hx hb16])
 · first|exact bN hb16|(
 (replace hb16:KR x s=false:=by rw [Da];exact hb16);refine Ze ?_;(refine xL 18 ZH (xL 8 Zb ?_)<;>refine Zc ?_)
 refine Zn (
  ⟨k+1,oM,fun i y hi hy=>by
   by_cases e:i=k
   · subst e;rw [hx] at hy;cases hy;exact hb16
   · exact hp i y oM hy⟩
  ) (by dsimp only;omega) ⟨rfl,rfl,rfl,rfl,trivial⟩ trivial))
 · first|exact bN hb9|(
 refine Ze ?_;(refine xL 4 Za ?_<;>refine Zc ?_)
 refine Zv (results86) rfl ?_;rw [Tl fun i y hi hy=>hp i y oM hy])
theorem Zgw {l m:List ByteArray} {k:Nat} {x y:ByteArray} (hx:l[k]? =some x) (hy:m[k]? =some y):K4 (l.drop k) (m.drop k)=if Gh x y=0 then K4 (l.drop (k+1)) (m.drop (k+1)) else Gh x y:=by rw [SZ hx,SZ hy,K4]
theorem ZeH {a b:ByteArray} (h:Yn a b=true):Gh a b= -1:=by unfold Gh;rw [UT h]
theorem ZeI {a b:ByteArray} (h:(!(Yn a b||KR a b))=true):Gh a b=1:=by
 simp only [Uy,Ud] at h
 unfold Gh;rw [US (by rw [h.1];simp),US (by rw [h.2];simp)]
theorem ZeJ {a b:ByteArray} (h1:Yn a b=false) (h:(!(Yn a b||KR a b))=false):Gh a b=0:=by
 rw [h1,Bool.false_or,Bool.not_eq_false'] at h
 unfold Gh;rw [US (by rw [h1];simp),UT h]
theorem CU {l m:List ByteArray} {k:Nat} (h:¬(k<l.length∧k<m.length)) (hk:k≤l.length) (hk':k≤m.length):K4 (l.drop k) (m.drop k)=if l.length<m.length then-1 else if m.length<l.length then 1 else 0:=by
 by_cases h1:l.length=k
 · rw [Vu (show l.length≤k by omega)];by_cases h2:m.length=k
   · rw [Vu (show m.length≤k by omega),US oM,US oM];rfl
   · obtain ⟨y,hy⟩:=Zp (show k<m.length by omega);rw [SZ hy,UT oM];rfl
 · have h2:m.length=k:=oM;rw [Vu (show m.length≤k by omega)];obtain ⟨x,hx⟩:=Zp (show k<l.length by omega);rw [SZ hx,US oM,UT oM];rfl
theorem Zcj (l m:List ByteArray):AF prog 141 [Yj l,Yj m] (· =pInt (K4 l m)):=by
 refine AF.of_body 46 func141 rfl ntmps141 (Xa rfl) ?_
 intro w0 M0 vs hl hv
 obtain ⟨v0,v1,rfl⟩:=WO hl
 clear hl hv
 refine WY 0 rfl fun hlen=>?_
 refine WY 1 rfl fun hlem=>?_
 refine Ze ?_
 (refine xL 4 Za ?_<;>refine Zg ?_)
 (refine xL 5 Za ?_<;>refine Zc ?_)
 refine ZD (ι:={k:Nat//k≤l.length∧k≤m.length∧K4 l m=K4 (l.drop k) (m.drop k)}) (fun k=>⟨[(0,_,_),(1,_,_),(5, .int .i64 k.1,pInt k.1)],[]⟩) (fun k=>l.length-k.1) ⟨0,oM,oM,rfl⟩ (fun a w H=>H.weaken ⟨rfl,rfl,rfl,trivial⟩ trivial) ?_
 rintro ⟨k,hk,hk',hp⟩
 dsimp only
 refine Ze ?_
 (refine xL 6 Zb (xL 7 Zb (xL 8 (ZR Y') (xL 9 ZQ (xL 10 Zb ?_))))<;>(refine bLd 10 (fun hb10=>?_) (fun hb10=>?_)<;>(first|refine kL 11 ?_|refine xL 11 Zb ?_))<;>(first|refine kL 12 ?_|refine xL 12 Zb ?_)<;>(first|refine kL 13 ?_|refine xL 13 (ZR Y') ?_)<;>(first|refine kL 14 ?_|refine xL 14 ZQ ?_)<;>refine xL 15 Zz ?_<;>refine Zc ?_)<;>(
 refine cX ?_ ?_<;>intro hb15
 · first | exact bN hb15|(
 obtain ⟨x,hx⟩:=Zp (show k<l.length by omega);obtain ⟨y,hy⟩:=Zp (show k<m.length by omega);have e1:=Ym (f:=Z') hx;have e2:=Ym (f:=Z') hy;have hs:=Zgw hx hy;refine nav ?_;(refine Z5 (fun i=>([]:List Nat).elem i) [] kR ?_<;>refine xD 0 18 rfl Zb ?_<;>refine xD 1 19 rfl Zb ?_<;>refine xD 2 20 rfl (ZF Y') ?_<;>(refine yD 3 21 rfl (Yo G9) fun v21 h=>?_;cases h)<;>refine xD 4 22 rfl Zb ?_<;>refine xE 5 23 rfl Zb ?_<;>refine xE 6 24 rfl (ZF Y') ?_<;>(refine yE 7 25 rfl (Yo G9) fun v25 h=>?_;cases h)<;>refine xE 8 26 rfl ZlK ?_<;>refine YC kR (nav ?_)<;>try dsimp only)
 refine cX ?_ ?_<;>intro hb26
 · first|exact bN hb26|(
 refine Ze ?_;(refine xL 4 Za ?_<;>refine Zc ?_)
 refine Zv (results141) rfl ?_;rw [hp,hs,ZeH hb26];rfl)
 · first |exact bN hb26|(
 refine nav ?_;(refine Z5 (fun i=>([]:List Nat).elem i) [] kR ?_<;>refine xD 0 27 rfl Zb ?_<;>refine xD 1 28 rfl Zb ?_<;>refine xD 2 29 rfl (ZF Y') ?_<;>(refine yD 3 30 rfl (Yo G9) fun v30 h=>?_;cases h)<;>refine xD 4 31 rfl Zb ?_<;>refine xE 5 32 rfl Zb ?_<;>refine xE 6 33 rfl (ZF Y') ?_<;>(refine yE 7 34 rfl (Yo G9) fun v34 h=>?_;cases h)<;>refine xE 8 35 rfl Zgq ?_<;>refine YC kR (nav ?_)<;>try dsimp only)
 refine cX ?_ ?_<;>intro hb35
 · first|exact bN hb35|(
 refine Ze ?_;(refine xL 4 Za ?_<;>refine Zc ?_)
 refine Zv (results141) rfl ?_;rw [hp,hs,ZeI hb35];rfl)
 · first|exact bN hb35|(
 refine Ze ?_;(refine xL 16 Zb (xL 17 ZH (xL 5 Za ?_))<;>refine Zc ?_)
 refine Zn (
  ⟨k+1,oM,oM,by rw [hp,hs,ZeJ hb26 hb35];rfl⟩
  ) (by dsimp only;omega) ⟨rfl,rfl,rfl,trivial⟩ trivial)))
 · first | exact bN hb15|(
 refine Ze ?_;(refine xL 36 Zb (xL 37 (ZR Y') (xL 38 Zb (xL 39 (ZR Y') (xL 40 ZQ ?_))))<;>refine Zc ?_)
 refine cX ?_ ?_<;>intro hb40
 · first|exact bN hb40|(
 refine Ze ?_;(refine xL 4 Za ?_<;>refine Zc ?_)
 refine Zv (results141) rfl ?_;rw [hp,CU oM hk hk',UT oM])
 · first|exact bN hb40|(
 refine Ze ?_;(refine xL 41 Zb (xL 42 (ZR Y') (xL 43 Zb (xL 44 (ZR Y') (xL 45 YP ?_))))<;>refine Zc ?_)
 refine cX ?_ ?_<;>intro hb45
 · first|exact bN hb45|(
 refine Ze ?_;(refine xL 4 Za ?_<;>refine Zc ?_)
 refine Zv (results141) rfl ?_;rw [hp,CU oM hk hk',US oM,UT oM])
 · first|exact bN hb45|(
 refine Ze ?_;(refine xL 4 Za ?_<;>refine Zc ?_)
 refine Zv (results141) rfl ?_;rw [hp,CU oM hk hk',US oM,US oM]))))
theorem Zjn (l m:List ByteArray):AF prog 92 [Yj l,Yj m] (· =ZM (decide (K4 l m=0))):=by
 refine AF.of_body 9 func92 rfl ntmps92 (Xa rfl) ?_
 intro w0 M0 vs hl hv
 obtain ⟨v0,v1,rfl⟩:=WO hl
 clear hl hv
 refine Ze ?_
 (refine xL 4 Za ?_<;>refine Zg ?_)
 (refine xL 5 Zb (xL 6 Zb ?_)<;>(refine cS 7 (cA call141 (Zcj l m)) fun v7 h=>?_;cases h)<;>refine xL 8 Z3 (xL 4 Za ?_)<;>refine Zc ?_)
 exact Zv results92 rfl rfl
theorem Ej {α β:Type} {r:α→β→Bool}:∀{l:List α} {m:List β} {k:Nat} {x:α} {y:β},l[k]? =some x→m[k]? =some y→r x y=false→O1 r l m=false
 |a::l,b::m,0,x,y,hx,hy,h=>by simp at hx hy;subst hx hy;rw [O1,h];rfl
 |a::l,b::m,k+1,x,y,hx,hy,h=>by rw [O1,Ej (l:=l) (m:=m) (k:=k) (by simpa using hx) (by simpa using hy) h];simp
 |[],_,k,x,y,hx,_,_=>by simp at hx
 |_::_,[],k,x,y,_,hy,_=>by simp at hy
theorem Zab {α β:Type} {r:α→β→Bool}:∀{l:List α} {m:List β},l.length=m.length→(∀(k:Nat) x y,l[k]? =some x→m[k]? =some y→r x y=true)→O1 r l m=true
 |[],[],_,_=>rfl
 |a::l,b::m,hl,h=>by rw [O1,h 0 a b rfl rfl,Zab (l:=l) (m:=m) (by simpa using hl) (fun k x y hx hy=>h (k+1) x y (by simpa using hx) (by simpa using hy))];rfl
 |[],_::_,hl,_=>by simp at hl
 |_::_,[],hl,_=>by simp at hl
def S5 (l m:List (List ByteArray)):Bool:=O1 (fun a b=>decide (K4 a b=0)) l m
theorem Zck (l m:List (List ByteArray)):AF prog 44 [RX l,RX m] (· =ZM (S5 l m)):=by
 refine AF.of_body 27 func44 rfl ntmps44 (Xa rfl) ?_
 intro w0 M0 vs hl hv
 obtain ⟨v0,v1,rfl⟩:=WO hl
 clear hl hv
 refine WY 0 rfl fun hlen=>?_
 refine WY 1 rfl fun hlem=>?_
 refine Ze ?_
 (refine xL 4 Za ?_<;>refine Zg ?_)
 (refine xL 6 Zb (xL 7 (ZR G') (xL 8 Zb (xL 9 (ZR G') (xL 10 YH ?_))))<;>refine Zc ?_)
 refine cX ?_ ?_<;>intro hb10
 · first|exact bN hb10|(
 refine Ze ?_;(refine xL 4 Za ?_<;>refine Zc ?_)
 refine Zv (results44) rfl ?_;rw [show S5 l m=false from Ux.2 fun h=>by have:=ζ3 h;omega])
 · first | exact bN hb10|(
 refine Ze ?_;(refine xL 5 Za ?_<;>refine Zc ?_)
 refine ZD (ι:={k:Nat//k≤l.length∧∀j x y,j<k→l[j]? =some x→m[j]? =some y→decide (K4 x y=0)=true}) (fun k=>⟨[(0,_,_),(1,_,_),(5, .int .i64 k.1,pInt k.1)],[]⟩) (fun k=>l.length-k.1) ⟨0,oM,oM⟩ (fun a w H=>H.weaken ⟨rfl,rfl,rfl,trivial⟩ trivial) ?_;rintro ⟨k,hk,hp⟩;dsimp only;refine Ze ?_;(refine xL 11 Zb (xL 12 Zb (xL 13 (ZR G') (xL 14 ZQ ?_)))<;>refine Zc ?_)
 refine cX ?_ ?_<;>intro hb14
 · first |exact bN hb14|(
 obtain ⟨x,hx⟩:=Zp (show k<l.length by omega);obtain ⟨y,hy⟩:=Zp (show k<m.length by omega);have e1:=Ym (f:=Yj) hx;have e2:=Ym (f:=Yj) hy;refine nav ?_;(refine Z5 (fun i=>([]:List Nat).elem i) [] kR ?_<;>refine xD 0 17 rfl Zb ?_<;>refine xD 1 18 rfl Zb ?_<;>refine xD 2 19 rfl (ZF G') ?_<;>(refine yD 3 20 rfl (Yo Eh) fun v20 h=>?_;cases h)<;>refine xD 4 21 rfl Zb ?_<;>refine xE 5 22 rfl Zb ?_<;>refine xE 6 23 rfl (ZF G') ?_<;>(refine yE 7 24 rfl (Yo Eh) fun v24 h=>?_;cases h)<;>(refine Zq 8 kR ?_)<;>(refine Zj rfl fun w9 M9 N9 DQ back=>?_)<;>(refine cS 25 (cA call92 (Zjn x y)) fun v25 h=>?_;cases h)<;>refine Zh (back _ (nrm ?_))<;>refine xE 9 26 rfl Yg ?_<;>refine YC kR (nav ?_)<;>try dsimp only)
 refine cX ?_ ?_<;>intro hb26
 · first|exact bN hb26|(
 refine Ze ?_;(refine xL 4 Za ?_<;>refine Zc ?_)
 refine Zv (results44) rfl ?_;rw [show S5 l m=false from Ej hx hy (by simpa using hb26)])
 · first|exact bN hb26|(
 refine Ze ?_;(refine xL 15 Zb (xL 16 ZH (xL 5 Za ?_))<;>refine Zc ?_)
 refine Zn (
  ⟨k+1,oM,fun j a b hj ha hb=>by
   by_cases e:j=k
   · subst e;rw [hx] at ha;cases ha;rw [hy] at hb;cases hb;simpa using hb26
   · exact hp j a b oM ha hb⟩
  ) (by dsimp only;omega) ⟨rfl,rfl,rfl,trivial⟩ trivial))
 · first|exact bN hb14|(
 refine Ze ?_;(refine xL 4 Za ?_<;>refine Zc ?_)
 refine Zv (results44) rfl ?_;rw [show S5 l m=true from Zab oM fun j x y hx hy=>hp j x y (by have:=Zf hx;omega) hx hy]))
end Go.Proofs.YtgfabnhpllkebaaGreatDoor
namespace Go.Cb
open Go.RowKit
set_option linter.all false
open Go.RowKit Go.WideMaps
structure MapT (P:Program) (t ks e:Nat):Prop where
 ht:P.underlying t=some (.map ks e)
 hk:P.underlying ks=some .string
 he:P.underlying e=some (.int .i64)
 hz:∀w,(zeroValue e).run P w= .ok (.int .i64 0) w
theorem Ek {a b:ByteArray}:KR a b=true↔a=b:=by
 unfold KR
 rw [beq_iff_eq,ByteArray.toList_eq,ByteArray.toList_eq]
 exact ⟨fun h=>WideShapes.bytes_inj h,fun h=>by rw [h]⟩
theorem El:∀l:List UInt8,Op.bytesLess l l=false
 |[]=>rfl
 |a::l=>by simp [Op.bytesLess,El l,UInt8.lt_irrefl]
theorem Zac:∀a b c:List UInt8,Op.bytesLess a b=true→Op.bytesLess b c=true→Op.bytesLess a c=true
 |_,_,[],_,h=>by cases h':(‹List UInt8›:List UInt8)<;>simp_all [Op.bytesLess]
 |_,[],_::_,h,_=>by simp [Op.bytesLess] at h
 |[],_::_,_::_,_,_=>rfl
 | x ::a,y::b,z::c,h1,h2=>by
   simp only [Op.bytesLess,X3,Xe,UP,beq_iff_eq] at h1 h2 ⊢;rcases h1 with h1|⟨rfl,h1⟩
   · rcases h2 with h2|⟨rfl,h2⟩
     · exact .inl (UInt8.lt_trans h1 h2)
     · exact .inl h1
   · rcases h2 with h2|⟨rfl,h2⟩
     · exact .inl h2
     · exact .inr ⟨rfl,Zac a b c h1 h2⟩
theorem Zad:∀a b:List UInt8,Op.bytesLess a b=false→Op.bytesLess b a=false→a=b
 |[],[],_,_=>rfl
 |[],_::_,h,_=>by simp [Op.bytesLess] at h
 |_::_,[],_,h=>by simp [Op.bytesLess] at h
 | x::a,y::b,h1,h2=>by
   simp only [Op.bytesLess,Ud,decide_eq_false_iff_not] at h1 h2;have hxy:x=y:=UInt8.le_antisymm (UInt8.not_lt.1 h2.1) (UInt8.not_lt.1 h1.1);subst hxy;simp only [beq_self_eq_true,Bool.true_and] at h1 h2;rw [Zad a b h1.2 h2.2]
theorem K9 (a:ByteArray):Yn a a=false:=El _
theorem KS {a b c:ByteArray} (h:Yn a b=true) (k:Yn b c=true):Yn a c=true:=Zac _ _ _ h k
theorem Ts {a b:ByteArray} (h:Yn a b=false) (k:Yn b a=false):a=b:=by
 have:=Zad _ _ h k
 rw [ByteArray.toList_eq,ByteArray.toList_eq] at this
 exact WideShapes.bytes_inj this
def Nodup (r:List Var):Prop:=r.Pairwise fun x y=>x.acts≠y.acts
end Go.Cb
namespace Go.Proofs.YtgfabnhpllkebaaGreatDoor
open Go.RowKit Go.Cb Go.En Tryz
set_option linter.all false
inductive Nd where
 |mk (op:Int) (act:ByteArray) (l:List Nd)
section
def Nd.op:Nd→Int
 | .mk o _ _=>o
def Nd.act:Nd→ByteArray
 | .mk _ a _=>a
def Nd.l:Nd→List Nd
 | .mk _ _ l=>l
theorem Nd.ind {P:Nd→Prop} (h:∀o a l,(∀x∈l,P x)→P (.mk o a l)):∀t,P t:=fun t=>
 Nd.rec (motive_1:=P) (motive_2:=fun l=>∀x∈l,P x) (fun o a l ih=>h o a l ih) (fun _ hx=>by cases hx) (fun x l hx hl y hy=>by
  rcases Xq.1 hy with rfl|hy
  · exact hx
  · exact hl y hy) t
def ZmM (a b:Int):Int:=if a<b then-1 else if b<a then 1 else 0
def or3 (a b c:Int):Int:=if a≠0 then a else if b≠0 then b else c
mutual
def Zjo:Nd→Nd→Int
 | .mk o a l, .mk o' a' l'=>or3 (ZmM o o') (Gh a a') (ZmN l l')
def ZmN:List Nd→List Nd→Int
 |[],[]=>0
 |[],_::_=> -1
 |_::_,[]=>1
 |x::l,y::m=>if Zjo x y≠0 then Zjo x y else ZmN l m
end
def leT (x y:Nd):Prop:=Zjo x y≠1
end
section
mutual
def szT:Nd→Nat
 | .mk _ _ l=>1+szL l
def szL:List Nd→Nat
 |[]=>0
 |x::l=>szT x+szL l
end
mutual
def dpT:Nd→Nat
 | .mk _ _ l=>1+dpL l
def dpL:List Nd→Nat
 |[]=>0
 |x::l=>max (dpT x) (dpL l)
end
theorem Db (l m:List Nd):szL (l++m)=szL l+szL m:=by
 induction l with
 |nil=>simp [szL]
 |cons x l ih=>rw [XW,szL,szL,ih,XV]
theorem Dc {l:List Nd} {k:Nat} {x:Nd} (h:l[k]? =some x):szL (l.take (k+1))=szL (l.take k)+szT x:=by
 rw [List.take_add_one,h,Db];simp [szL]
theorem Zdr (t:Nd):1≤szT t:=by cases t;rw [szT];omega
theorem KJ {l:List Nd} {x:Nd} (h:x∈l):szT x≤szL l:=by
 induction l with
 |nil=>cases h
 | cons y l ih=>
   rw [szL];rcases Xq.1 h with rfl|h
   · omega
   · have:=ih h;omega
theorem Zjp {l:List Nd} {x:Nd} (h:x∈l):dpT x≤dpL l:=by
 induction l with
 |nil=>cases h
 | cons y l ih=>
   rw [dpL];rcases Xq.1 h with rfl|h
   · omega
   · have:=ih h;omega
theorem ZlN {l:List Nd} {n:Nat}:dpL l≤n↔∀x∈l,dpT x≤n:=by
 induction l with
 |nil=>simp [dpL]
 |cons y l ih=>rw [dpL,Nat.max_le,ih];simp
def rightT (t:Nd):Bool:=
 if t.op=1 then t.l.isEmpty&&KC t.act else if t.op=2 then t.l.isEmpty&&decide (t.act=ByteArray.empty) else if t.op=3∨t.op=4∨t.op=5 then !t.l.isEmpty&&decide (t.act=ByteArray.empty)
 else if t.op=6 then decide (t.l.length=2)&&decide (t.act=ByteArray.empty) else false
mutual
def okT:Nd→Bool
 | .mk o a l=>rightT (.mk o a l)&&okL l
def okL:List Nd→Bool
 |[]=>true
 |x::l=>okT x&&okL l
end
theorem Zjq {l:List Nd}:okL l=true↔∀x∈l,okT x=true:=by
 induction l with
 |nil=>simp [okL]
 |cons x l ih=>rw [okL,Xe,ih];simp
theorem Wx {t:Nd}:okT t=true↔rightT t=true∧∀x∈t.l,okT x=true:=by
 obtain ⟨o,a,l⟩:=t
 rw [okT,Xe,Zjq];rfl
def Jm (t:Nd) (most:Int) (d:Int):Bool:=okT t&&decide ((szT t:Int)≤most)&&decide (d+dpT t≤61)
theorem Zgx {t:Nd} {most d:Int} (h:most<1∨60<d∨rightT t=false):Jm t most d=false:=by
 cases hm:Jm t most d with
 |false=>rfl
 | true=>
   exfalso;unfold Jm at hm;simp only [Xe,UP] at hm;obtain ⟨⟨h1,h2⟩,h3⟩:=hm;have h4:=Zdr t;have h5:1≤dpT t:=by cases t;rw [dpT];omega
   rcases h with h|h|h
   · omega
   · omega
   · rw [(Wx.1 h1).1] at h;cases h
theorem Zae {t:Nd} {most d:Int} {k:Nat} {x:Nd} (hx:t.l[k]? =some x) (h:Jm x (most-(1+szL (t.l.take k))) (d+1)=false):Jm t most d=false:=by
 cases hm:Jm t most d with
 |false=>rfl
 | true=>
   exfalso;unfold Jm at hm h;simp only [Xe,UP] at hm;obtain ⟨⟨h1,h2⟩,h3⟩:=hm;have hmem:=Xc hx;have e1:=(Wx.1 h1).2 x hmem;have e2:szL t.l=szL (t.l.take k)+szL (t.l.drop k):=by rw [←Db,Vy]
   have e3:szT x≤szL (t.l.drop k):=KJ (Xc (show (t.l.drop k)[0]? =some x by rw [Vo];exact hx));have e4:szT t=1+szL t.l:=by cases t;rw [szT];rfl
   have e5:dpT t=1+dpL t.l:=by cases t;rw [dpT];rfl
   have e6:=Zjp hmem;rw [e1,UQ oM,UQ oM] at h
   cases h
theorem Zds {t:Nd} {most d:Int} (hr:rightT t=true) (h1:1≤most) (h2:d≤60) (h:∀k x,t.l[k]? =some x→Jm x (most-(1+szL (t.l.take k))) (d+1)=true):Jm t most d=true:=by
 have e4:szT t=1+szL t.l:=by cases t;rw [szT];rfl
 have e5:dpT t=1+dpL t.l:=by cases t;rw [dpT];rfl
 unfold Jm at h ⊢
 have key:∀k x,t.l[k]? =some x→okT x=true∧(szT x:Int)≤most-(1+szL (t.l.take k))∧d+1+dpT x≤61:=fun k x hx=>by
  have:=h k x hx;simp only [Xe,UP] at this;exact ⟨this.1.1,this.1.2,this.2⟩
 simp only [Xe,UP]
 refine ⟨⟨Wx.2 ⟨hr,fun x hx=>?_⟩,?_⟩,?_⟩
 · obtain ⟨k,hk⟩:=X4 hx;exact (key k x hk).1
 · rw [e4];rcases hn:t.l.length with _|n
   · have:t.l=[]:=XO hn;rw [this];simp [szL];omega
   · obtain ⟨x,hx⟩:∃x,t.l[n]? =some x:=⟨_,XX oM⟩;have e1:=(key n x hx).2.1;have e2:=Dc hx;rw [Xo (show t.l.length≤n+1 by omega)] at e2;omega
 · rw [e5];have:dpL t.l≤(60-d).toNat:=ZlN.2 fun x hx=>by
    obtain ⟨k,hk⟩:=X4 hx;have:=(key k x hk).2.2;omega
   omega
def Y3 (t:Nd):Bool:=Jm t 400 1
theorem K' {t:Nd} (h:Y3 t=true):okT t=true:=by unfold Y3 Jm at h;simp only [Xe] at h;exact h.1.1
theorem GV {t:Nd} (h:Y3 t=true):szT t≤400:=by unfold Y3 Jm at h;simp only [Xe,UP] at h;omega
abbrev AscT (l:List Nd):Prop:=l.Pairwise fun x y=>leT x y
abbrev StrT' (l:List Nd):Prop:=l.Pairwise fun x y=>Zjo x y<0
end
section
def ZmO:Nd:= .mk 2 ByteArray.empty []
structure NfN (t:Nd):Prop where
 rt:rightT t=true
 two:t.op≠6→∀x∈t.l,2≤t.l.length∧x.op≠t.op
 ns:t.op=3∨t.op=5→∀x∈t.l,x.op≠2
 xo:t.op=4→StrT' t.l
 an:t.op=5→AscT t.l
 lp:t.op=6→∃a b,t.l=[a,b]∧a.op≠6∧¬(a.op=2∧b.op=2)
inductive NF:Nd→Prop
 |mk (t:Nd) (h:NfN t) (hp:∀x∈t.l,NF x):NF t
theorem RY {t:Nd} (h:rightT t=true):t.op=1∨t.op=2∨t.op=3∨t.op=4∨t.op=5∨t.op=6:=by
 unfold rightT at h
 by_cases h1:t.op=1
 · exact .inl h1
 · by_cases h2:t.op=2
   · exact .inr (.inl h2)
   · by_cases h3:t.op=3∨t.op=4∨t.op=5
     · omega
     · by_cases h4:t.op=6
       · omega
       · rw [US h1,US h2,US h3,US h4] at h;cases h
end
set_option maxRecDepth 100000
theorem Zo:NoAgg prog 3=true:=by kernel_rfl
theorem Zu:SlT prog 36 3 1=true:=by kernel_rfl
structure Cnt where
 name:ByteArray
 n:Int
structure Flw where
 src:ByteArray
 dst:ByteArray
 n:Int
structure Dfg where
 acts:List Cnt
 starts:List Cnt
 ends:List Cnt
 follows:List Flw
def pInts (l:List Int):PV:= .sl l.length (l.map pInt)
def Dd (l:List (List Int)):PV:= .sl l.length (l.map pInts)
theorem Tt (f:Nat) (caps:List PV) (p:Int→Bool) (l:List (Int)) (hc:∀args w,(callFunc f args).run prog w= .ok (.enter f args) w) (hf:∀s∈l,AF prog f (pInt s::caps) (· =ZM (p s))):AF prog 154 [pInts l, .fn f caps] (· =pInt (idx p l)):=by
 refine AF.of_body 19 func154 rfl ntmps154 (Xa rfl) ?_
 intro w0 M0 vs hl hv
 obtain ⟨v0,v1,rfl⟩:=WO hl
 clear hl hv
 refine WY 0 rfl fun hlen=>?_
 refine Ze ?_
 (refine xL 4 Za ?_<;>refine Zg ?_)
 (refine xL 6 Zb (xL 7 (ZR Zu) (xL 8 Zb ?_))<;>refine Zc ?_)
 refine ZD (ι:={k:Nat//k≤l.length∧∀i y,i<k→l[i]? =some y→p y=false}) (fun k=>⟨[(0,_,_),(1,_,_),(7,_,_),(8, .int .i64 k.1,pInt k.1)],[]⟩) (fun k=>l.length-k.1) ⟨0,oM,oM⟩ (fun a w H=>H.weaken ⟨rfl,rfl,rfl,rfl,trivial⟩ trivial) ?_
 rintro ⟨k,hk,hp⟩
 dsimp only
 refine Ze ?_
 (refine xL 9 ZQ ?_<;>refine Zc ?_)
 refine cX ?_ ?_<;>intro hb9
 · first |exact bN hb9|(
 obtain ⟨x,hx⟩:=Zp (show k<l.length by omega);have e1:=Ym (f:=pInt) hx;refine Ze ?_;(refine xL 10 Zb (xL 5 Za ?_)<;>refine Zg ?_)
 (refine xL 11 Zb (xL 12 Zb (xL 13 Zb (xL 14 (ZF Zu) ?_)))<;>(refine yL 15 (Yo Zo) fun v15 h=>?_;cases h)<;>(refine cS 16 (Gg (f:=f) (ps:=caps) rfl ⟨_,rfl⟩ hc rfl (hf x (Xc hx))) fun v16 h=>?_;cases h)<;>refine Zc ?_)
 refine cX ?_ ?_<;>intro hb16
 · first|exact bN hb16|(
 refine Ze ?_;(refine xL 17 Zb (xL 4 Za ?_)<;>refine Zc ?_)
 refine Zv (results154) rfl ?_;rw [Tj hp hx hb16])
 · first|exact bN hb16|(
 refine Ze ?_;(refine xL 18 ZH (xL 8 Zb ?_)<;>refine Zc ?_)
 refine Zn (
  ⟨k+1,oM,fun i y hi hy=>by
   by_cases e:i=k
   · subst e;rw [hx] at hy;cases hy;exact hb16
   · exact hp i y oM hy⟩
  ) (by dsimp only;omega) ⟨rfl,rfl,rfl,rfl,trivial⟩ trivial))
 · first|exact bN hb9|(
 refine Ze ?_;(refine xL 4 Za ?_<;>refine Zc ?_)
 refine Zv (results154) rfl ?_;rw [Tl fun i y hi hy=>hp i y oM hy])
theorem S6 (f:Nat) (caps:List PV) (p:Int→Bool) (l:List (Int)) (hc:∀args w,(callFunc f args).run prog w= .ok (.enter f args) w) (hf:∀s∈l,AF prog f (pInt s::caps) (· =ZM (p s))):AF prog 108 [pInts l, .fn f caps] (· =ZM (l.any p)):=by
 refine AF.of_body 9 func108 rfl ntmps108 (Xa rfl) ?_
 intro w0 M0 vs hl hv
 obtain ⟨v0,v1,rfl⟩:=WO hl
 clear hl hv
 refine Ze ?_
 (refine xL 4 Za ?_<;>refine Zg ?_)
 (refine xL 5 Zb (xL 6 Zb ?_)<;>(refine cS 7 (cA call154 (Tt f caps p l hc hf)) fun v7 h=>?_;cases h)<;>refine xL 8 WK (xL 4 Za ?_)<;>refine Zc ?_)
 refine Zv (results108) rfl ?_
 rw [Zi6]
end Go.Proofs.YtgfabnhpllkebaaGreatDoor
