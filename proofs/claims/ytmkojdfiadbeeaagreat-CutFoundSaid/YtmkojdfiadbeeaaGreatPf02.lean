/-
  Walks of functions and plain laws of the chapter, as the claim needs them.
-/
import Derived.KernelRfl
import Derived.Test.YtmkojdfiadbeeaaGreatProg
import Derived.Test.YtmkojdfiadbeeaaGreatPf01
namespace Go.En
open Go.RowKit Go.Cb
set_option linter.all false
section
variable {P:Program} {c:Ctx} {sL hP:List (Nat×Ent)} {o:Oper}
theorem E4 {t k j:Nat} {x:Operand} {v:Value} {cs ps:List PV} (hT:AggT P t k=true) (ho:o.op= .load t x) (hx:ev sL x=some (v, .sptr j cs)) (hp:j+k≤cs.length) (hps:(cs.drop j).take k=ps):YE P (⟨sL,hP⟩:St) o (fun _=>True) (.agg ps):=hps▸Zae hT ho hx hp
theorem RU {t k j e k' n:Nat} {x:Operand} {h:Value} {q:PV} {cs ps:List PV} (l:Nat) (hT:AggT P t k=true) (ho:o.op= .load t x) (hx:ev sL x=some (ZH (Zs h) j,q)) (hl:lk hP l=some (h, .own e k' n cs)) (hp:j+k≤cs.length) (hk:0<k) (hps:(cs.drop j).take k=ps) (hsh:ps.all KM=true):YE P (⟨sL,hP⟩:St) o (fun _=>True) (.agg ps):=by
 subst hps;exact Zaf l hT ho hx hl hp hsh hk
theorem Sb {t j:Nat} {x:Operand} {v:Value} {cs:List PV} {p:PV} (i:Nat) (hT:NoAgg P t=true) (ho:o.op= .load t x) (hx:ev sL x=some (v, .sptr j cs)) (hj:j=i) (hp:cs[i]? =some p):YE P (⟨sL,hP⟩:St) o (vOf p) p:=by
 subst hj;exact Hk hT ho hx hp
theorem Y8 {t j e k n:Nat} {x:Operand} {h:Value} {q:PV} {cs:List PV} {p:PV} (l i:Nat) (hT:NoAgg P t=true) (ho:o.op= .load t x) (hx:ev sL x=some (ZH (Zs h) j,q)) (hl:lk hP l=some (h, .own e k n cs)) (hj:j=i) (hp:cs[i]? =some p) (hsh:KM p=true):YE P (⟨sL,hP⟩:St) o (vOf p) p:=by
 subst hj;exact Hl l hT ho hx hl hp hsh
theorem ZeU {f:Nat} {caps:Array Operand} {es:List Ent} (ho:o.op= .makeFunc (.func f) #[] caps) (hx:evL sL caps.toList=some es):YE P (⟨sL,hP⟩:St) o (· = .func (.func f) #[] (es.map (·.1)).toArray) (.fn f (es.map (·.2))):=
 .exact fun M F a w H=>by
  obtain ⟨h1,h2⟩:=Gk H hx;refine ⟨.fn f _ _ (by rw [Xc,Xc]) h2,?_⟩;have:caps.map a.eval=(es.map (·.1)).toArray:=by rw [←h1,←VG,VU]
  simp [execOp,ho,Instr.makeFunc,this]
end
theorem Y0 {P:Program} {c:Ctx} {sL hP:List (Nat×Ent)} {Q:Exit→Act→World→Prop} {x:Code} {n:Nat} {v:Value} {cs:List PV} (t:Nat) (ht:lk sL t=some (v, .sl n cs)) (k:n≤9223372036854775807→aC P c x Q (⟨sL,hP⟩:St)):aC P c x Q (⟨sL,hP⟩:St):=fun a w H=>by
 obtain ⟨F,H'⟩:=id H
 have h1:=(H'.sl t _ _ ht).2
 have:n≤9223372036854775807:=by
  cases h1 with
  |emp=>omega
  |sl b off n c cs vs hn hc=>unfold maxLen at hc;omega
 exact k this a w H
abbrev Zg (n:Int):PV:= .val (.int .i64 n)
abbrev ZS (s:ByteArray):PV:= .val (.string s)
abbrev Zo (b:Bool):PV:= .val (.bool b)
def ZQ (l:List ByteArray):PV:= .sl l.length (l.map ZS)
def Kx (l:List (List ByteArray)):PV:= .sl l.length (l.map ZQ)
def pInts (l:List Int):PV:= .sl l.length (l.map Zg)
def Wd (x:Var):List PV:=[ZQ x.acts,Zg x.count]
def Wi (l:List Var):PV:= .sl l.length (l.flatMap Wd)
def E5 (l:List (List Var)):PV:= .sl l.length (l.map Wi)
def RV (x:Cut):PV:= .agg [Zg x.kind,Kx x.parts]
theorem Yn {α β:Type} {f:α→β} {l:List α} {i:Nat} {x:α} (h:l[i]? =some x):(l.map f)[i*1]? =some (f x):=by rw [XL,Xl,h];rfl
theorem YC {α β:Type} {f:α→List β} {k:Nat} (hf:∀x,(f x).length=k):∀l:List α,(l.flatMap f).length=l.length*k
 |[]=>sM
 |x::l=>by rw [Xq,Xe,hf,YC hf l,Xi,Vf];omega
theorem Yp {α β:Type} {f:α→List β} {k:Nat} (hf:∀x,(f x).length=k):∀(l:List α) (i:Nat) (x:α),l[i]? =some x→((l.flatMap f).drop (i*k)).take k=f x
 |[],i,x,h=>by simp at h
 | y::l,0,x,h=>by
   simp at h;subst h;rw [Vr,Va,Xq,List.take_append_of_le_length (by rw [hf];exact Xg _),XV (by rw [hf];exact Xg _)]
 | y::l,i+1,x,h=>by
   rw [Xq,Vf,Nat.one_mul,Nat.add_comm,←List.drop_drop,List.drop_append_of_le_length (by rw [hf];exact Xg _),show (f y).drop k=[] from List.drop_of_length_le (by rw [hf];exact Xg _),Ve];exact Yp hf l i x (by simpa using h)
theorem Wm {α β:Type} {f:α→List β} {k:Nat} (hf:∀x,(f x).length=k) {l:List α} {i:Nat} {x:α} (h:l[i]? =some x) {j:Nat} (hj:j<k):(l.flatMap f)[i*k+j]? =(f x)[j]? :=by
 rw [←Yp hf l i x h,X6 hj,VE]
theorem YI {α β:Type} {f:α→List β} {k:Nat} (hf:∀x,(f x).length=k) {l:List α} {i:Nat} {x:α} (h:l[i]? =some x):i*k+k≤(l.flatMap f).length:=by
 rw [YC hf]
 have:=Ze h
 have h1:(i+1)*k≤l.length*k:=Vw k this
 rw [Vf,Nat.one_mul] at h1
 exact h1
theorem Z1 (x:Var):(Wd x).length=2:=rfl
theorem WO {α:Type} {l:List α} (h:l.length=1):∃a,l=[a]:=by
 match l,h with
 |[a],_=>exact ⟨a,rfl⟩
theorem WT {α:Type} {l:List α} (h:l.length=2):∃a b,l=[a,b]:=by
 match l,h with
 |[a,b],_=>exact ⟨a,b,rfl⟩
theorem RX {α:Type} {l:List α} (h:l.length=3):∃a b d,l=[a,b,d]:=by
 match l,h with
 |[a,b,d],_=>exact ⟨a,b,d,rfl⟩
theorem ZfY {α:Type} {l:List α} (h:l.length=4):∃a b d e,l=[a,b,d,e]:=by
 match l,h with
 |[a,b,d,e],_=>exact ⟨a,b,d,e,rfl⟩
def keq:Value→Value→Bool
 | .string a, .string b=>a==b
 | .int k a, .int k' b=>decide (k=k')&&a==b
 | .bool a, .bool b=>a==b
 |_,_=>false
theorem E6 {a b:ByteArray}:(a==b)=true↔a=b:=by
 obtain ⟨a⟩:=a
 obtain ⟨b⟩:=b
 rw [show ((⟨a⟩:ByteArray)==⟨b⟩)=(a==b) from rfl]
 simp
theorem ZdK {a b:Value} (h:keq a b=true):keq b a=true:=by
 cases a<;>cases b<;>simp_all [keq,E6]
def kok (kd:TypeDesc) (k:Value) (kv:List (Value×Value)):Prop:=∀x∈kv,Instr.sameNow kd k x.1=some (keq k x.1)
def YP:List (Value×Value)→Value→Option Value
 |[],_=>none
 |x::l,k=>if keq k x.1 then some x.2 else YP l k
def GN:List (Value×Value)→Value→Value→List (Value×Value)
 |[],k,v=>[(k,v)]
 |x::l,k,v=>if keq k x.1 then (k,v)::l else x::GN l k v
def Gm:List (Value×Value)→Value→Option Nat
 |[],_=>none
 |x::l,k=>if keq k x.1 then some 0 else (Gm l k).map (· +1)
theorem TI {kd:TypeDesc} {k:Value}:∀(l:List MapEntry) (i:Nat),kok kd k (l.map fun x=>(x.key,x.val))→
 Instr.findNow kd k l i=some (match Gm (l.map fun x=>(x.key,x.val)) k,YP (l.map fun x=>(x.key,x.val)) k with|some j,some v=>some (i+j,v)|_,_=>none)∧((Gm (l.map fun x=>(x.key,x.val)) k).isSome=(YP (l.map fun x=>(x.key,x.val)) k).isSome)
 |[],i,_=>⟨rfl,rfl⟩
 | e :: l,i,h=>by
   have h0:=h (e.key,e.val) sM;obtain ⟨h1,h2⟩:=TI l (i+1) (fun x hx=>h x (by simp at hx ⊢;exact .inr hx));simp only at h0;simp only [Instr.findNow,h0,Xk,Gm,YP]
   cases hk:keq k e.key
   · simp only [Vu,if_false];rw [h1]
     cases hm:Gm (l.map fun x=>(x.key,x.val)) k with
     | none=>
       rw [hm] at h2
       cases hg:YP (l.map fun x=>(x.key,x.val)) k with
       |none=>simp
       |some v=>rw [hg] at h2;simp at h2
     | some j=>
       rw [hm] at h2
       cases hg:YP (l.map fun x=>(x.key,x.val)) k with
       |none=>rw [hg] at h2;simp at h2
       |some v=>simp;omega
   · simp
structure MpT (P:Program) (t ks e:Nat) (kd:TypeDesc) (z:Value):Prop where
 ht:P.underlying t=some (.map ks e)
 hk:P.underlying ks=some kd
 hkd:kd= .string∨∃k,kd= .int k
 hz:ZeroT P e z
section
variable {P:Program} {c:Ctx} {ops:Array Oper} {Q:Exit→Act→World→Prop} {rest:List Oper} {sL hP:List (Nat×Ent)} {o:Oper}
theorem GO {ks:Nat} {kd:TypeDesc} (hk:P.underlying ks=some kd) (hkd:kd= .string∨∃k,kd= .int k) (b:Bool) (v:Value) (w:World):(Instr.checkKey b 10000 ks v).run P w= .ok () w:=by
 rw [show (10000:Nat)=9999+1 from rfl,Instr.checkKey]
 rcases hkd with rfl|⟨k,rfl⟩<;>simp [run_underlying hk]
theorem Jd {ks:Nat} {kd:TypeDesc} (hk:P.underlying ks=some kd) {k:Value} {es:Array MapEntry} (h:kok kd k (kvOf es)) (w:World):(Instr.findKey ks k es.toList).run P w= .ok (match Gm (kvOf es) k,YP (kvOf es) k with|some j,some v=>some (j,v)|_,_=>none) w:=by
 obtain ⟨h1,_⟩:=TI es.toList 0 h
 unfold Instr.findKey
 simp only [Sem.run_bind,run_underlying hk,Result.andThen_ok,h1,Xy]
 rfl
theorem ζa (kv:List (Value×Value)) (k:Value):(Gm kv k).isSome=(YP kv k).isSome:=by
 induction kv with
 |nil=>rfl
 | cons x l ih=>
   simp only [Gm,YP];split
   · rfl
   · simpa using ih
theorem GP {t ks e:Nat} {kd:TypeDesc} {z:Value} (hT:MpT P t ks e kd z) {b clock:Nat} {es:Array MapEntry} {k:Value} (hb:Bool) {w:World} (h:w.heap[b]? =some (.map es clock)) (hk:kok kd k (kvOf es)):
 (Instr.lookup t (.map (some b)) k hb).run P w= .ok (if hb then .tuple #[(YP (kvOf es) k).getD z, .bool (YP (kvOf es) k).isSome] else (YP (kvOf es) k).getD z) w:=by
 have hm:=ζa (kvOf es) k
 unfold Instr.lookup
 simp only [Sem.run_bind,run_underlying hT.ht,Result.andThen_ok,getObj,Sem.run,h,GO hT.hk hT.hkd,Jd hT.hk hk]
 cases h1:Gm (kvOf es) k with
 | none=>
   rw [h1] at hm
   cases h2:YP (kvOf es) k with
   |none=>cases hb<;>simp [Jd hT.hk hk,h1,h2,ZeroT.run hT.hz]
   |some v=>rw [h2] at hm;simp at hm
 | some j=>
   rw [h1] at hm
   cases h2:YP (kvOf es) k with
   |none=>rw [h2] at hm;simp at hm
   |some v=>cases hb<;>simp [Jd hT.hk hk,h1,h2]
theorem Zb5 {t ks e:Nat} {kd:TypeDesc} {z:Value} {x y:Operand} {m k:Value} {kv:List (Value×Value)} {q:PV} (hT:MpT P t ks e kd z) (ho:o.op= .lookup t x y false) (hx:ev sL x=some (m, .smap kv)) (hy:ev sL y=some (k,q)) (hk:kok kd k kv):
 YE P (⟨sL,hP⟩:St) o (· =(YP kv k).getD z) (.val ((YP kv k).getD z)):= .exact fun M F a w H=>by
 obtain ⟨hv,hs⟩:=H.ev hx
 have hkv:=(H.ev hy).1
 cases hs with
 |smap b es clock hM h=>exact ⟨.val _,by simp [execOp,ho,hv,hkv,GP hT false h hk]⟩
theorem Zal {t ks e:Nat} {kd:TypeDesc} {z:Value} {x y:Operand} {m k:Value} {kv:List (Value×Value)} {q:PV} (hT:MpT P t ks e kd z) (ho:o.op= .lookup t x y true) (hx:ev sL x=some (m, .smap kv)) (hy:ev sL y=some (k,q)) (hk:kok kd k kv):
 YE P (⟨sL,hP⟩:St) o (· = .tuple [(YP kv k).getD z, .bool (YP kv k).isSome].toArray) (.tup [.val ((YP kv k).getD z), .val (.bool (YP kv k).isSome)]):= .exact fun M F a w H=>by
 obtain ⟨hv,hs⟩:=H.ev hx
 have hkv:=(H.ev hy).1
 cases hs with
 | smap b es clock hM h=>
   refine ⟨.tup _ _ rfl fun i x p hx hp=>?_,by simp [execOp,ho,hv,hkv,GP hT true h hk]⟩;match i with
   |0=>simp at hx hp;subst hx hp;exact .val _
   |1=>simp at hx hp;subst hx hp;exact .val _
   |i+2=>simp at hx
theorem Zam {t ks e:Nat} {kd:TypeDesc} {z u:Value} {x y:Operand} {m k:Value} {kv:List (Value×Value)} {q:PV} (hT:MpT P t ks e kd z) (ho:o.op= .lookup t x y false) (hx:ev sL x=some (m, .smap kv)) (hy:ev sL y=some (k,q)) (hk:kok kd k kv) (hu:(YP kv k).getD z=u):
 YE P (⟨sL,hP⟩:St) o (· =u) (.val u):=hu▸Zb5 hT ho hx hy hk
theorem Tr.map {M:BS} {w:World} {m:Value} {kv:List (Value×Value)} {F:BS} (h:Tr M w m (.omap kv) F):∃b es clock,m= .map (some b)∧kv=kvOf es∧w.heap[b]? =some (.map es clock)∧∀x,F x↔x=b:=by
 cases h with
 |shr h _=>cases h
 |omap b es clock h hF=>exact ⟨b,es,clock,rfl,rfl,h,hF⟩
theorem Zb6 {t ks e:Nat} {kd:TypeDesc} {z:Value} {x y:Operand} {m k:Value} {kv:List (Value×Value)} {p q:PV} (l:Nat) (hT:MpT P t ks e kd z) (ho:o.op= .lookup t x y false) (hx:ev sL x=some (m,p)) (hl:lk hP l=some (m, .omap kv)) (hy:ev sL y=some (k,q)) (hk:kok kd k kv):
 YE P (⟨sL,hP⟩:St) o (· =(YP kv k).getD z) (.val ((YP kv k).getD z)):= .exact fun M F a w H=>by
 have hv:=(H.ev hx).1
 have hkv:=(H.ev hy).1
 obtain ⟨b,es,clock,rfl,rfl,h,_⟩:=(H.tr l _ _ hl).map
 exact ⟨.val _,by simp [execOp,ho,hv,hkv,GP hT false h hk]⟩
theorem Zan {t ks e:Nat} {kd:TypeDesc} {z:Value} {x y:Operand} {m k:Value} {kv:List (Value×Value)} {p q:PV} (l:Nat) (hT:MpT P t ks e kd z) (ho:o.op= .lookup t x y true) (hx:ev sL x=some (m,p)) (hl:lk hP l=some (m, .omap kv)) (hy:ev sL y=some (k,q)) (hk:kok kd k kv):
 YE P (⟨sL,hP⟩:St) o (· = .tuple [(YP kv k).getD z, .bool (YP kv k).isSome].toArray) (.tup [.val ((YP kv k).getD z), .val (.bool (YP kv k).isSome)]):= .exact fun M F a w H=>by
 have hv:=(H.ev hx).1
 have hkv:=(H.ev hy).1
 obtain ⟨b,es,clock,rfl,rfl,h,_⟩:=(H.tr l _ _ hl).map
 refine ⟨.tup _ _ rfl fun i x p hx hp=>?_,by simp [execOp,ho,hv,hkv,GP hT true h hk]⟩
 match i with
 |0=>simp at hx hp;subst hx hp;exact .val _
 |1=>simp at hx hp;subst hx hp;exact .val _
 |i+2=>simp at hx
theorem Zao {t ks e:Nat} {kd:TypeDesc} {z u:Value} {x y:Operand} {m k:Value} {kv:List (Value×Value)} {p q:PV} (l:Nat) (hT:MpT P t ks e kd z) (ho:o.op= .lookup t x y false) (hx:ev sL x=some (m,p)) (hl:lk hP l=some (m, .omap kv)) (hy:ev sL y=some (k,q)) (hk:kok kd k kv) (hu:(YP kv k).getD z=u):
 YE P (⟨sL,hP⟩:St) o (· =u) (.val u):=hu▸Zb6 l hT ho hx hl hy hk
theorem Tr.mapW {M:BS} {w:World} {m:Value} {kv:List (Value×Value)} {F:BS} (h:Tr M w m (.omap kv) F):∃b es clock,m= .map (some b)∧kv=kvOf es∧w.heap[b]? =some (.map es clock)∧(∀x,F x↔x=b)∧WfM es clock:=by
 cases h with
 |shr h _=>cases h
 |omap b es clock h hF hW=>exact ⟨b,es,clock,rfl,rfl,h,hF,hW⟩
theorem ζb {es:Array MapEntry} {clock:Nat} {k v:Value} (h:WfM es clock):WfM (es.push {key:=k,val:=v,born:=clock}) (clock+1):=by
 refine ⟨fun x hx=>?_,?_⟩
 · rw [Array.toList_push,Xv,XR] at hx;rcases hx with hx|rfl
   · have:=h.1 x hx;omega
   · exact Nat.lt_succ_self _
 · rw [Array.toList_push,X1,Vg];refine ⟨h.2,sM,fun a ha b hb=>?_⟩;rw [Xk,Vn,XR] at hb;obtain ⟨x,hx,rfl⟩:=Xm.1 ha;have:=h.1 x hx;dsimp only at hb;omega
theorem OF {es:Array MapEntry} {clock j:Nat} (f:MapEntry→MapEntry) (hf:∀e,(f e).born=e.born) (h:WfM es clock):WfM (es.modify j f) clock:=by
 have e:(es.modify j f).toList.map (·.born)=es.toList.map (·.born):=by
  rw [Ud];have:∀(l:List MapEntry) (j:Nat),(l.modify j f).map (·.born)=l.map (·.born):=fun l=>by
   induction l with
   |nil=>intro j;simp
   | cons a l ih=>intro j;cases j with
     |zero=>simp [hf]
     |succ j=>rw [Ue,Xk,Xk,ih]
  exact this _ _
 refine ⟨fun x hx=>?_,e▸h.2⟩
 have h1:x.born∈es.toList.map (·.born):=e▸Xm.2 ⟨x,hx,rfl⟩
 obtain ⟨y,hy,hxy⟩:=Xm.1 h1
 have:=h.1 y hy
 omega
theorem RY (es:Array MapEntry):(kvOf es).length=es.size:=by simp [kvOf]
theorem Zb7 {t ks e:Nat} {x:Operand} {m:Value} {kv:List (Value×Value)} {p:PV} (l:Nat) (ht:P.underlying t=some (.map ks e)) (ho:o.op= .call {callee:= .builtin .len,args:= #[x],argTypes:= #[t]}) (hx:ev sL x=some (m,p)) (hl:lk hP l=some (m, .omap kv)):YE P (⟨sL,hP⟩:St) o (· = .int .i64 kv.length) (.val (.int .i64 kv.length)):= .exact fun M F a w H=>by
 have hv:=(H.ev hx).1
 obtain ⟨b,es,clock,rfl,rfl,h,_⟩:=(H.tr l _ _ hl).map
 exact ⟨.val _,by simp [execOp,ho,hv,resolve,invoke,builtin,Builtin.len_,run_underlying ht,getObj,Sem.run,h,goInt,RY]⟩
theorem Zb8 {t:Nat} (d:Nat) (hw:ZK ops sL o=some true) (hd:o.dst=some d) (hn:d<c.nt) (ho:o.op= .makeMap t none) (hl:lk hP d=none)
 (k:∀m:Value,m.oneCell'=true→aL P c ops Q rest ⟨put d (m, .val m) sL,put d (m, .omap []) hP⟩):aL P c ops Q (o::rest) (⟨sL,hP⟩:St):=
 YH hw fun a w F H=>by
  have key:HoldsF c ⟨put d (.map (some w.heap.size), .val (.map (some w.heap.size))) sL,put d (.map (some w.heap.size), .omap []) hP⟩ (fun l'=>if l'=d then (fun b=>b=w.heap.size) else F l') (a.put (some d) (.map (some w.heap.size))) (w.alloc (.map #[] 0)):=by
   refine H.change (fun l'=>l'=d) hn ((Ext.alloc _ _).chg) (fun l' x hne hx'=>?_) (fun l' x b hT hx' hb=>?_) (fun hm l' u q hT hx'=>?_) (fun l1 l2 _ _ _ h1 h2 hne=>UB (h1.trans h2.symm) hne) (fun hm=> .val _)
   · rcases Z0 hx' with ⟨e1,_⟩|⟨_,e1⟩
     · exact UB e1.symm hne
     · exact ⟨e1,by simp [hne]⟩
   · subst hT;simp only [if_true] at hb;exact .inr (by rw [hb];exact Xg _)
   · subst hT;rw [ZD] at hx'
     cases hx';simp only [if_true];refine .omap w.heap.size #[] 0 ?_ (fun x=>Iff.rfl) ⟨sM,sM⟩;show (w.heap.push _)[w.heap.size]? =_;simp
  unfold Oper.wp execOp;simp [ho,Instr.makeMap,newObj,Sem.run,hd,Oper.upon];exact k _ rfl _ _ ⟨_,key⟩
theorem Zap {es:Array MapEntry} {k v:Value}:∀{j:Nat},Gm (kvOf es) k=some j→kvOf (es.modify j fun e=>{e with key:=k,val:=v})=GN (kvOf es) k v:=by
 have key:∀(l:List MapEntry) (j:Nat),Gm (l.map fun x=>(x.key,x.val)) k=some j→(l.modify j fun e=>{e with key:=k,val:=v}).map (fun x=>(x.key,x.val))=GN (l.map fun x=>(x.key,x.val)) k v:=by
  intro l;induction l with
  |nil=>intro j h;simp [Gm] at h
  | cons e l ih=>
    intro j h;simp only [Xk,Gm] at h;simp only [Xk,GN];split at h
    · rename_i hk
      cases h;simp [hk]
    · rename_i hk;rw [XQ] at h;obtain ⟨j',h1,rfl⟩:=h;rw [Uz hk,Ue,Xk,ih j' h1]
 intro j h
 unfold kvOf at h ⊢
 rw [Ud]
 exact key _ j h
theorem ZdL {es:Array MapEntry} {k v:Value} {clock:Nat} (h:Gm (kvOf es) k=none):kvOf (es.push {key:=k,val:=v,born:=clock})=GN (kvOf es) k v:=by
 have key:∀kv:List (Value×Value),Gm kv k=none→kv++[(k,v)]=GN kv k v:=by
  intro kv;induction kv with
  |nil=>intro _;rfl
  | cons x l ih=>
    intro h;simp only [Gm] at h;split at h
    · cases h
    · rename_i hk;rw [Option.map_eq_none_iff] at h;rw [GN,Uz hk,X2,ih h]
 rw [←key _ h]
 simp [kvOf]
def bits:Value→Bool
 | .string _| .int _ _| .bool _=>true
 |_=>false
theorem Zaq {a b:Value} (hb:bits a=true) (h:keq b a=true):Instr.sameBits 10000 a b=true:=by
 have h:=ZdK h
 cases a<;>cases b<;>simp_all [keq,bits,Instr.sameBits]
theorem ZdM {t ks e:Nat} {kd:TypeDesc} {z:Value} {x y u:Operand} {m k v:Value} {kv:List (Value×Value)} {p q r:PV} (l:Nat) (hw:ZK ops sL o=some true) (hd:o.dst=none) (hT:MpT P t ks e kd z) (ho:o.op= .mapUpdate t x y u) (hx:ev sL x=some (m,p)) (hl:lk hP l=some (m, .omap kv)) (hy:ev sL y=some (k,q)) (hu:ev sL u=some (v,r)) (hk:kok kd k kv) (hbits:bits k=true)
 (kk:aL P c ops Q rest ⟨sL,put l (m, .omap (GN kv k v)) hP⟩):aL P c ops Q (o::rest) (⟨sL,hP⟩:St):=
 YH hw fun a w F H=>by
  have hxv:=(H.rd.ev hx).1;have hyv:=(H.rd.ev hy).1;have huv:=(H.rd.ev hu).1;obtain ⟨b,es,clock,rfl,rfl,hb,hFb,hWf⟩:=(H.tr l _ _ hl).mapW;have hm:=ζa (kvOf es) k;have main:∀(es':Array MapEntry) (clock':Nat),WfM es' clock'→kvOf es'=GN (kvOf es) k v→Holds c ⟨sL,put l (.map (some b), .omap (GN (kvOf es) k v)) hP⟩ a {w with heap:=w.heap.setIfInBounds b (.map es' clock')}:=fun es' clock' hW' he=>by
   have hlt:=Wo hb;have hch:Chg (fun x=>x=b) w {w with heap:=w.heap.setIfInBounds b (.map es' clock')}:=⟨rfl,rfl,rfl,sM,fun i hi hne=>by
    rw [Uf (fun e=>hne e.symm)]⟩
   refine ⟨F,H.change0 (fun l'=>l'=l) (hch.wid fun x hx=> .inl ⟨l,_,rfl,hl,(hFb x).2 hx⟩) (fun l' x hne hx'=>?_) (fun l' x b' hT' hx' hb'=>?_) (fun hmm l' u q hT' hx'=>?_) (fun l1 l2 _ _ _ h1 h2 hne=>UB (h1.trans h2.symm) hne)⟩
   · rcases Z0 hx' with ⟨e1,_⟩|⟨_,e1⟩
     · exact UB e1.symm hne
     · exact ⟨e1,rfl⟩
   · subst hT';exact .inl ⟨l',_,rfl,hl,hb'⟩
   · subst hT';rw [ZD] at hx'
     cases hx';rw [←he];exact .omap b es' clock' (by simp [hlt]) hFb hW'
  unfold Oper.wp execOp
  cases h1:Gm (kvOf es) k with
  | none=>
    rw [h1] at hm
    cases h2:YP (kvOf es) k with
    |some v=>rw [h2] at hm;simp at hm
    | none=>
      simp [ho,hxv,hyv,huv,Instr.mapUpdate,run_underlying hT.ht,getObj,setObj,Sem.run,hb,GO hT.hk hT.hkd,Jd hT.hk hk,h1,h2,Oper.upon,hd,Act.put];exact kk _ _ (main _ _ (ζb hWf) (ZdL h1))
  | some j =>
    rw [h1] at hm
    cases h2:YP (kvOf es) k with
    |none=>rw [h2] at hm;simp at hm
    | some v0=>
      have hj:∃e0,es[j]? =some e0∧keq k e0.key=true:=by
       have key:∀(l:List MapEntry) (j:Nat),Gm (l.map fun x=>(x.key,x.val)) k=some j→∃e0,l[j]? =some e0∧keq k e0.key=true:=by
        intro l;induction l with
        |nil=>intro j h;simp [Gm] at h
        | cons e l ih=>
          intro j h;simp only [Xk,Gm] at h;split at h
          · rename_i hk;cases h;exact ⟨e,rfl,hk⟩
          · rw [XQ] at h;obtain ⟨j',h1,rfl⟩:=h;obtain ⟨e0,h3,h4⟩:=ih j' h1;exact ⟨e0,by simpa using h3,h4⟩
       obtain ⟨e0,h3,h4⟩:=key es.toList j h1;exact ⟨e0,by simpa using h3,h4⟩
      obtain ⟨e0,h3,h4⟩:=hj;have hb0:bits e0.key=true:=by
       cases k<;>simp [bits] at hbits<;>(generalize e0.key=y at h4 ⊢;cases y<;>simp_all [keq,bits])
      have hsb:=Zaq hb0 h4;simp [ho,hxv,hyv,huv,Instr.mapUpdate,run_underlying hT.ht,getObj,setObj,Sem.run,hb,GO hT.hk hT.hkd,Jd hT.hk hk,h1,h2,h3,Instr.keyThatStays,hsb,Oper.upon,hd,Act.put];exact kk _ _ (main _ _ (OF _ (fun _=>rfl) hWf) (Zap h1))
end
def skv (es:List (ByteArray×Value)):List (Value×Value):=es.map fun x=>(.string x.1,x.2)
def ikv (es:List (Int×Value)):List (Value×Value):=es.map fun x=>(.int .i64 x.1,x.2)
theorem TJ (kd:TypeDesc) (k:Value):kok kd k []:=fun x h=>by simp at h
theorem J5 (s:ByteArray) (es:List (ByteArray×Value)):kok .string (.string s) (skv es):=fun x h=>by
 simp [skv] at h
 obtain ⟨a,b,_,rfl⟩:=h
 rfl
theorem TK (n:Int) (es:List (Int×Value)):kok (.int .i64) (.int .i64 n) (ikv es):=fun x h=>by
 simp [ikv] at h
 obtain ⟨a,b,_,rfl⟩:=h
 simp [Instr.sameNow,keq]
def YT {κ:Type} [DecidableEq κ]:List (κ×Value)→κ→Option Value
 |[],_=>none
 |x::l,k=>if k=x.1 then some x.2 else YT l k
def Wr {κ:Type} [DecidableEq κ]:List (κ×Value)→κ→Value→List (κ×Value)
 |[],k,v=>[(k,v)]
 |x::l,k,v=>if k=x.1 then (k,v)::l else x::Wr l k v
theorem W4 (es:List (ByteArray×Value)) (s:ByteArray):YP (skv es) (.string s)=YT es s:=by
 induction es with
 |nil=>rfl
 | cons x l ih=>
   simp only [skv,Xk,YP,YT,keq,E6];rw [show List.map (fun x:ByteArray×Value=>(Value.string x.1,x.2)) l=skv l from rfl,ih]
theorem TL (es:List (ByteArray×Value)) (s:ByteArray) (v:Value):GN (skv es) (.string s) v=skv (Wr es s v):=by
 induction es with
 |nil=>rfl
 | cons x l ih=>
   simp only [skv,Xk,GN,Wr,keq,E6];rw [show List.map (fun x:ByteArray×Value=>(Value.string x.1,x.2)) l=skv l from rfl,ih];by_cases h:s=x.1
   · rw [UA h,UA h];rfl
   · rw [Uz h,Uz h];rfl
theorem Zb9 (es:List (Int×Value)) (s:Int):YP (ikv es) (.int .i64 s)=YT es s:=by
 induction es with
 |nil=>rfl
 | cons x l ih=>
   simp only [ikv,Xk,YP,YT,keq];rw [show List.map (fun x:Int×Value=>(Value.int .i64 x.1,x.2)) l=ikv l from rfl,ih];simp
theorem Zca (es:List (Int×Value)) (s:Int) (v:Value):GN (ikv es) (.int .i64 s) v=ikv (Wr es s v):=by
 induction es with
 |nil=>rfl
 | cons x l ih=>
   simp only [ikv,Xk,GN,Wr,keq];rw [show List.map (fun x:Int×Value=>(Value.int .i64 x.1,x.2)) l=ikv l from rfl,ih];by_cases h:s=x.1
   · rw [UA h,UA (by simp [h])];rfl
   · rw [Uz h,Uz (by simp [h])];rfl
section
variable {P:Program} {ops:Array Oper} {Q:Exit→Act→World→Prop} {md:Region.Mode} {C:World→Prop} {Z:Nat→Bool}
def JN (P:Program) (md:Region.Mode) (ops:Array Oper) (Q:Exit→Act→World→Prop) (C:World→Prop) (Z:Nat→Bool):Nat→Array Bool→Act→World→Prop
 |0,listed,a,w=>Region.ready md ops listed=[]∧Q .normal a w
 | fuel+1,listed,a,w=>
   (Region.ready md ops listed=[]→Q .normal a w)∧
   ∀i∈Region.ready md ops listed,wpOp P ops (Ov Q) i (fun a' w'=>(Z i=true∨C w')∧JN P md ops Q C Z fuel (listed.setIfInBounds i true) a' w') a w
theorem RZ:∀(fuel:Nat) (listed:Array Bool) (a:Act) (w:World),JN P md ops Q C Z fuel listed a w→wpAny P md ops Q fuel listed a w
 |0,_,_,_,h=>h
 |fuel+1,_,_,_,h=>⟨h.1,fun i hi=>EW (wpOp_mono (fun a' w' h'=>RZ fuel _ a' w' h'.2) (h.2 i hi))⟩
def Tl (md:Region.Mode) (ops:Array Oper) (Z:Nat→Bool) (i:Nat):Bool:=(List.range ops.size).all fun z=> !Z z||Hj md ops z i
theorem TM {i:Nat} {oi:Oper} {v:Value} (hi:ops[i]? =some oi) (hz:Tl md ops Z i=true)
 (hsel:∀(j:Nat) (o:Oper) cs b,ops[j]? =some o→o.op≠ .select cs b):
 ∀ (fuel:Nat) (listed:Array Bool) (a:Act) (w:World),
  (∀j oj,ops[j]? =some oj→j≠i→listed.getD j true=false→(∀e∈oj.after,Region.binds md e=true→e.on≠i)→oi.apart ops oj=true)→
  i∈Region.ready md ops listed→YieldsC P ops C oi v a→C w→
  JN P md ops Q C Z fuel (listed.setIfInBounds i true) (a.put oi.dst v) w→JN P md ops Q C Z (fuel+1) listed a w:=by
 intro fuel
 induction fuel with
 | zero=>
   intro listed a w _ hr hy hC H;refine ⟨fun h=>(by rw [h] at hr;cases hr),fun j hj=>?_⟩;by_cases hji:j=i
   · subst hji;exact YieldsIf.wpOp hi hy.ifS hC ⟨.inr hC,H⟩
   · have:=ready_mono hj hji;rw [H.1] at this
     cases this
 | succ fuel ih=>
   intro listed a w hfree hr hy hC H;refine ⟨fun h=>(by rw [h] at hr;cases hr),fun j hj=>?_⟩;by_cases hji:j=i
   · subst hji;exact YieldsIf.wpOp hi hy.ifS hC ⟨.inr hC,H⟩
   · have h1:=H.2 j (ready_mono hj hji);obtain ⟨hjun,oj,hoj,hall⟩:=mem_ready.1 hj;have hnot:∀e∈oj.after,Region.binds md e=true→e.on≠i:=fun e he hb heq=>by
      have h1:=hall e he hb;have h0:=(mem_ready.1 hr).1;rw [heq] at h1;rcases XY i listed.size with h'|h'
      · simp [h'] at h0 h1;rw [h0] at h1;cases h1
      · simp [VB h'] at h1
     have hjz:Z j=false:=by
      cases hZ:Z j
      · rfl
      · exfalso;have hjs:j<ops.size:=by
         rcases XY j ops.size with h'|h'
         · exact h'
         · rw [VB h'] at hoj;cases hoj
        have:=Xf.1 hz j (XJ.2 hjs);rw [hZ] at this;simp only [Bool.not_true,Bool.false_or] at this;unfold Hj at this;rw [hoj] at this;obtain ⟨e,he,hb⟩:=Array.any_eq_true'.1 this;simp only [Xd,beq_iff_eq] at hb;exact hnot e he hb.1 hb.2
     have h2:=wpOp_putIf hoj (hfree j oj hoj hji hjun hnot) (fun cs b=>hsel i oi cs b hi) (fun cs b=>hsel j oj cs b hoj) (fun c a w h=>h) hy.ifS h1;have hfree':∀k ok,ops[k]? =some ok→k≠i→(listed.setIfInBounds j true).getD k true=false→
      (∀e∈ok.after,Region.binds md e=true→e.on≠i)→oi.apart ops ok=true:=fun k ok hk hki hun hno=>by
      refine hfree k ok hk hki ?_ hno;by_cases hjk:j=k
      · subst hjk;exact hjun
      · rw [getD_set_ne true hjk] at hun;exact hun
     refine wpOp_mono (fun a' w' h3=>?_) h2;obtain ⟨hy',hor,hK⟩:=h3;have hC':C w':=by
      rcases hor with h|h
      · rw [hjz] at h;cases h
      · exact h
     refine ⟨.inr hC',ih (listed.setIfInBounds j true) a' w' hfree' (ready_mono hr (Ne.symm hji)) hy' hC' ?_⟩;rw [Array.setIfInBounds_comm _ _ hji];exact hK
end
def KV (K:List Nat):List (Nat×Ent)→List (Nat×Ent)
 |[]=>[]
 |(k,x)::l=>cond (K.elem k) ((k,x)::KV K l) (KV K l)
def Ji (K:List Nat):List (Nat×Ent)→List (Nat×Ent)
 |[]=>[]
 |(k,x)::l=>cond (K.elem k) (Ji K l) ((k,x)::Ji K l)
theorem Lk {K:List Nat} {t:Nat}:∀{l:List (Nat×Ent)} {x:Ent},lk (KV K l) t=some x↔K.elem t=true∧lk l t=some x
 |[],x=>by simp [KV,lk]
 | (k, y)::l,x=>by
   unfold KV
   cases hk:K.elem k
   · simp only [cond_false,lk];rw [Lk]
     cases hb:Nat.beq k t
     · simp
     · have:k=t:=XH hb;subst this;rw [hk];simp
   · simp only [cond_true,lk]
     cases hb:Nat.beq k t
     · simp only [cond_false];exact Lk
     · have:k=t:=XH hb;subst this;rw [hk];simp
theorem Kc {K:List Nat} {t:Nat}:∀{l:List (Nat×Ent)} {x:Ent},lk (Ji K l) t=some x↔K.elem t=false∧lk l t=some x
 |[],x=>by simp [Ji,lk]
 | (k, y)::l,x=>by
   unfold Ji
   cases hk:K.elem k
   · simp only [cond_false,lk]
     cases hb:Nat.beq k t
     · simp only [cond_false];exact Kc
     · have:k=t:=XH hb;subst this;rw [hk];simp
   · simp only [cond_true,lk];rw [Kc]
     cases hb:Nat.beq k t
     · simp
     · have:k=t:=XH hb;subst this;rw [hk];simp
theorem Zar {l m:List (Nat×Ent)} {t:Nat}:lk (l++m) t=match lk l t with|some x=>some x|none=>lk m t:=by
 induction l with
 |nil=>rfl
 | cons y l ih=>
   obtain ⟨k,y⟩:=y;simp only [X2,lk]
   cases Nat.beq k t
   · simp only [cond_false];exact ih
   · rfl
def nK (K:List Nat) (h:List (Nat×Ent)) (F:Nat→BS):BS:=fun b=>∃l x,K.elem l=false∧lk h l=some x∧F l b
def aD (P:Program) (c:Ctx) (ops:Array Oper) (Q:Exit→Act→World→Prop) (Z:Nat→Bool) (K:List Nat) (fuel:Nat) (listed:Array Bool) (st:St):Prop:=
 ∀a w F,HoldsF c st F a w→∀C:World→Prop,(∀W,Chg (nK K st.heap F) w W→C W)→JN P .any ops Q C Z fuel listed a w
section
variable {P:Program} {c:Ctx} {ops:Array Oper} {Q:Exit→Act→World→Prop} {Z:Nat→Bool} {K:List Nat} {fuel:Nat} {listed:Array Bool} {sL hP:List (Nat×Ent)} {o:Oper}
theorem GQ {C C':World→Prop} (h:∀w,C' w→C w):∀(fuel:Nat) (listed:Array Bool) (a:Act) (w:World),JN P .any ops Q C' Z fuel listed a w→JN P .any ops Q C Z fuel listed a w
 |0,_,_,_,H=>H
 |fuel+1,_,_,_,H=>⟨H.1,fun i hi=>wpOp_mono (fun a' w' h'=>⟨h'.1.imp id (h w'),GQ h fuel _ a' w' h'.2⟩) (H.2 i hi)⟩
theorem ZR {id:Nat} {l:List Oper} (Z:Nat→Bool) (K:List Nat) (hm:P.follows .mixedOrders=true) (h:aD P c l.toArray Q Z K l.length (Array.replicate l.length false) (⟨sL,hP⟩:St)):aC P c (.region id l.toArray true) Q (⟨sL,hP⟩:St):=fun a w ⟨F,H⟩=>by
 refine wp_region_any hm (RZ (C:=fun _=>True) (Z:=Z) _ _ _ _ ?_)
 have:=h a w.drew F (H.up (Ext.drew w)) (fun _=>True) (fun _ _=>trivial)
 simpa using this
theorem YU (hr:Region.ready .any ops listed=[]) (h:aN c Q (⟨sL,hP⟩:St)):aD P c ops Q Z K fuel listed (⟨sL,hP⟩:St):=fun a w F H C hC=>by
 cases fuel with
 |zero=>exact ⟨hr,h a w ⟨F,H⟩⟩
 |succ n=>exact ⟨fun _=>h a w ⟨F,H⟩,fun i hi=>by rw [hr] at hi;cases hi⟩
theorem HoldsF.rdK {F:Nat→BS} {a:Act} {w:World} (H:HoldsF c (⟨sL,hP⟩:St) F a w) (K:List Nat):RdF (mof c hP F) ⟨sL,KV K hP⟩ F a w:=⟨fun l v p h=>H.tr l v p (Lk.1 h).2,H.sl⟩
theorem Oi {V:Value→Prop} {p:PV} (i d:Nat) (ho:ops[i]? =some o) (hck:(Region.noSelect ops&&(Region.ready .any ops listed).contains i&&Region.free .any ops listed i&&Tl .any ops Z i)=true) (hw:ZK ops sL o=some true) (hd:o.dst=some d) (hn:d<c.nt) (hy:YE P ⟨sL,KV K hP⟩ o V p)
 (k:∀v,V v→aD P c ops Q Z K fuel (listed.setIfInBounds i true) ⟨put d (v,p) sL,hP⟩):aD P c ops Q Z K (fuel+1) listed (⟨sL,hP⟩:St):=fun a w F H C hC=>by
 simp only [Xd] at hck
 obtain ⟨⟨⟨hs,hr⟩,hf⟩,hz⟩:=hck
 obtain ⟨v,hV,hS,hrun⟩:=hy _ F a w (H.rdK K)
 refine GQ hC _ _ _ _ ?_
 refine TM ho hz (Region.noSelect_spec hs) _ listed a w (Region.free_spec ho hf) (by simpa using hr) (v:=v) (.inl ⟨Ju H.rd hw,fun W hW=>?_⟩) (Chg.rfl' _ _) ?_
 · exact hrun _ W hW (fun b ⟨l,x,_,h1,h2⟩=> .inr ⟨l,x,h1,h2⟩) (fun l x b hl hFb ⟨l',x',h1,h2,h3⟩=>by
    obtain ⟨h4,h5⟩:=Lk.1 hl;exact H.dj l l' _ _ b (fun e=>by rw [e,h1] at h4;cases h4) h5 h2 hFb h3)
 · rw [hd];exact k v hV _ w F (H.put hn hS) _ (fun W h=>h)
theorem ZfZ {v:Value} {p:PV} (i d:Nat) (ho:ops[i]? =some o) (hck:(Region.noSelect ops&&(Region.ready .any ops listed).contains i&&Region.free .any ops listed i&&Tl .any ops Z i)=true) (hw:ZK ops sL o=some true) (hd:o.dst=some d) (hn:d<c.nt) (hy:YE P ⟨sL,KV K hP⟩ o (· =v) p)
 (k:aD P c ops Q Z K fuel (listed.setIfInBounds i true) ⟨put d (v,p) sL,hP⟩):aD P c ops Q Z K (fuel+1) listed (⟨sL,hP⟩:St):=Oi i d ho hck hw hd hn hy fun u hu=>by cases hu;exact k
theorem ZeB {V:Value→Prop} {p:PV} (i d:Nat) (ho:ops[i]? =some o) (hr:Region.ready .any ops listed=[i]) (hw:ZK ops sL o=some true) (hd:o.dst=some d) (hn:d<c.nt) (hy:YE P (⟨sL,hP⟩:St) o V p)
 (k:∀v,V v→aD P c ops Q Z K fuel (listed.setIfInBounds i true) ⟨put d (v,p) sL,hP⟩):aD P c ops Q Z K (fuel+1) listed (⟨sL,hP⟩:St):=fun a w F H C hC=>by
 obtain ⟨v,hV,hS,hrun⟩:=hy _ F a w H.rd
 have h1:YieldsC P ops (fun W=>W=w) o v a:= .inl ⟨Ju H.rd hw,fun W hW=>by
  subst hW;exact hrun (fun _=>False) W (Chg.rfl' _ _) (fun _ h=>h.elim) (fun _ _ _ _ _ h=>h)⟩
 refine ⟨fun hn=>(by rw [hr] at hn;cases hn),fun j hj=>?_⟩
 rw [hr] at hj
 obtain rfl:j=i:=by simpa using hj
 refine YieldsIf.wpOp ho h1.ifS rfl ⟨.inr (hC w (Chg.rfl' _ _)),?_⟩
 rw [hd]
 exact k v hV _ w F (H.put hn hS) C hC
theorem ZfE {v:Value} {p:PV} (i d:Nat) (ho:ops[i]? =some o) (hr:Region.ready .any ops listed=[i]) (hw:ZK ops sL o=some true) (hd:o.dst=some d) (hn:d<c.nt) (hy:YE P (⟨sL,hP⟩:St) o (· =v) p)
 (k:aD P c ops Q Z K fuel (listed.setIfInBounds i true) ⟨put d (v,p) sL,hP⟩):aD P c ops Q Z K (fuel+1) listed (⟨sL,hP⟩:St):=ZeB i d ho hr hw hd hn hy fun u hu=>by cases hu;exact k
theorem ZdN (i d:Nat) (ho:ops[i]? =some o) (hck:(Region.noSelect ops&&(Region.ready .any ops listed).contains i&&Region.free .any ops listed i&&Tl .any ops Z i)=true) (hw:ZK ops sL o=some false) (hd:o.dst=some d) (hn:d<c.nt)
 (k:aD P c ops Q Z K fuel (listed.setIfInBounds i true) ⟨put d (undef, .val undef) sL,hP⟩):aD P c ops Q Z K (fuel+1) listed (⟨sL,hP⟩:St):=fun a w F H C hC=>by
 simp only [Xd] at hck
 obtain ⟨⟨⟨hs,hr⟩,hf⟩,hz⟩:=hck
 refine GQ hC _ _ _ _ ?_
 refine TM ho hz (Region.noSelect_spec hs) _ listed a w (Region.free_spec ho hf) (by simpa using hr) (v:=undef) (.inr ⟨Ju H.rd hw,rfl⟩) (Chg.rfl' _ _) ?_
 rw [hd]
 exact k _ w F (H.put hn (.val _)) _ (fun W h=>h)
theorem Hy (t:Nat) {b:Bool} {q:PV} (hx:lk sL t=some (.bool b,q)) (ht:b=true→aD P c ops Q Z K fuel listed ⟨put t (.bool true, .val (.bool true)) sL,hP⟩) (hf:b=false→aD P c ops Q Z K fuel listed ⟨put t (.bool false, .val (.bool false)) sL,hP⟩):aD P c ops Q Z K fuel listed (⟨sL,hP⟩:St):=fun a w F H C hC=>by
 have key:HoldsF c ⟨put t (.bool b, .val (.bool b)) sL,hP⟩ F a w:=⟨H.toHeapF,fun s u r hs=>by
  rcases Z0 hs with ⟨rfl,e⟩|⟨_,e⟩
  · cases e;exact ⟨(H.sl _ _ _ hx).1, .val _⟩
  · exact H.sl s u r e,H.size,H.df⟩
 cases b
 · exact hf rfl a w F key C hC
 · exact ht rfl a w F key C hC
theorem HoldsF.frame {F:Nat→BS} {a:Act} {w:World} (H:HoldsF c (⟨sL,hP⟩:St) F a w) (K:List Nat):
 HoldsF ⟨w,fun b=>c.M0 b∨∃l x,K.elem l=true∧lk hP l=some x∧F l b,nK K hP F,c.nt,c.dr,c.df⟩ ⟨sL,Ji K hP⟩ F a w:=by
 have hm:∀b,mof ⟨w,fun b=>c.M0 b∨∃l x,K.elem l=true∧lk hP l=some x∧F l b,nK K hP F,c.nt,c.dr,c.df⟩ (Ji K hP) F b→mof c hP F b:=by
  rintro b ((h|⟨l,x,_,h1,h2⟩)|⟨l,x,h1,h2⟩)
  · exact .inl h
  · exact .inr ⟨l,x,h1,h2⟩
  · exact .inr ⟨l,x,(Kc.1 h1).2,h2⟩
 refine ⟨⟨fun l v p h=>(H.tr l v p (Kc.1 h).2).anti fun b _=>hm b,fun l x b h hb=> .inr ⟨l,x,(Kc.1 h).1,(Kc.1 h).2,hb⟩,fun l l' x x' b hne h h'=>H.dj l l' x x' b hne (Kc.1 h).2 (Kc.1 h').2,?_,Chg.rfl' _ _,fun _=>Xg _⟩,fun t v p h=>⟨(H.sl t v p h).1,(H.sl t v p h).2.anti fun b _=>hm b⟩,H.size,H.df⟩
 refine ⟨?_,fun hn g hg=>?_,fun hn g hg=>?_⟩
 rotate_left
 · obtain ⟨h1,h2,_⟩:=H.mok.tb hn g hg;refine ⟨h1,?_,?_⟩
   · rintro (h|⟨l,x,_,h3,h4⟩)
     · exact h2 (.inl h)
     · exact h2 (.inr ⟨l,x,h3,h4⟩)
   · rintro ⟨l,x,_,h3,h4⟩;exact h2 (.inr ⟨l,x,h3,h4⟩)
 · obtain ⟨h1,h2,_⟩:=H.mok.er hn g hg;refine ⟨h1,?_,?_⟩
   · rintro (h|⟨l,x,_,h3,h4⟩)
     · exact h2 (.inl h)
     · exact h2 (.inr ⟨l,x,h3,h4⟩)
   · rintro ⟨l,x,_,h3,h4⟩;exact h2 (.inr ⟨l,x,h3,h4⟩)
 rintro b (h|⟨l,x,hK,h1,h2⟩)
 · exact ⟨Nat.lt_of_lt_of_le (H.m0.m b h).1 H.ext.size,fun ⟨l,x,_,h1,h2⟩=>H.apart h h1 h2⟩
 · exact ⟨(H.tr l _ _ h1).lt b h2,fun ⟨l',x',hK',h3,h4⟩=>H.dj l l' _ _ b (fun e=>by rw [e,hK'] at hK;cases hK) h1 h3 h2 h4⟩
theorem HoldsF.unframe {F F':Nat→BS} {a a':Act} {w w':World} {st':St} (H:HoldsF c (⟨sL,hP⟩:St) F a w)
 (H':HoldsF ⟨w,fun b=>c.M0 b∨∃l x,K.elem l=true∧lk hP l=some x∧F l b,nK K hP F,c.nt,c.dr,c.df⟩ st' F' a' w'):
 HoldsF c ⟨st'.slots,st'.heap++KV K hP⟩ (fun l=>match lk st'.heap l with|some _=>F' l|none=>F l) a' w'∧Chg (nK K hP F) w w'∧
  (∀b,nK K (st'.heap++KV K hP) (fun l=>match lk st'.heap l with|some _=>F' l|none=>F l) b→nK K hP F b∨w.heap.size≤b):=by
 have hlook:∀l x,lk (st'.heap++KV K hP) l=some x→(lk st'.heap l=some x)∨(lk st'.heap l=none∧K.elem l=true∧lk hP l=some x):=fun l x h=>by
  rw [Zar] at h
  cases h1:lk st'.heap l with
  |some y=>rw [h1] at h;cases h;exact .inl rfl
  |none=>rw [h1] at h;exact .inr ⟨rfl,Lk.1 h⟩
 have hmm:∀b,mof c (st'.heap++KV K hP) (fun l=>match lk st'.heap l with|some _=>F' l|none=>F l) b→mof ⟨w,fun b=>c.M0 b∨∃l x,K.elem l=true∧lk hP l=some x∧F l b,nK K hP F,c.nt,c.dr,c.df⟩ st'.heap F' b:=by
  rintro b (h|⟨l,x,h1,h2⟩)
  · exact .inl (.inl h)
  · rcases hlook l x h1 with h3|⟨h3,h4,h5⟩
    · simp only [h3] at h2;exact .inr ⟨l,x,h3,h2⟩
    · simp only [h3] at h2;exact .inl (.inr ⟨l,x,h4,h5,h2⟩)
 have hch:Chg (nK K hP F) w w':=H'.ext
 have hKN:∀l x b,K.elem l=true→lk hP l=some x→F l b→¬nK K hP F b:=fun l x b hK hl hb ⟨l',x',hK',h3,h4⟩=>H.dj l l' _ _ b (fun e=>by rw [e,hK'] at hK;cases hK) hl h3 hb h4
 have hapart:∀l x l' x' b,K.elem l=true→lk hP l=some x→F l b→lk st'.heap l'=some x'→¬F' l' b:=fun l x l' x' b hK hl hb hl' hb'=>by
  exact H'.apart (.inr ⟨l,x,hK,hl,hb⟩) hl' hb'
 refine ⟨⟨⟨fun l v p h=>?_,fun l x b h hb=>?_,fun l l' x x' b hne h h' hb hb'=>?_,H.m0,?_,fun h=>XP (H.dw h) (H'.dw h)⟩,fun t v p h=>⟨(H'.sl t v p h).1,(H'.sl t v p h).2.anti fun b _=>hmm b⟩,H'.size,H'.df⟩,hch,?_⟩
 · rcases hlook l _ h with h1|⟨h1,h2,h3⟩
   · simp only [h1];exact (H'.tr l v p h1).anti fun b _=>hmm b
   · simp only [h1];refine (H.tr l v p h3).to hch (fun b hlt hb=>?_) (fun b _ ⟨l',x',_,h4,h5⟩=> .inr ⟨l',x',h4,h5⟩) (fun b hb=>hKN l _ b h2 h3 hb);rcases hmm b hb with (h|⟨l',x',_,h4,h5⟩)|⟨l',x',h4,h5⟩
     · exact .inl h
     · exact .inr ⟨l',x',h4,h5⟩
     · rcases H'.lo l' x' b h4 h5 with h6|⟨l2,x2,_,h7,h8⟩
       · exact UB hlt (by simp only at h6;omega)
       · exact .inr ⟨l2,x2,h7,h8⟩
 · rcases hlook l _ h with h1|⟨h1,h2,h3⟩
   · simp only [h1] at hb;rcases H'.lo l x b h1 hb with h4|⟨l2,x2,_,h7,h8⟩
     · exact .inl (XP H.ext.size h4)
     · exact H.lo l2 x2 b h7 h8
   · simp only [h1] at hb;exact H.lo l x b h3 hb
 · rcases hlook l _ h with h1|⟨h1,h2,h3⟩
   · rcases hlook l' _ h' with k1|⟨k1,k2,k3⟩
     · simp only [h1] at hb;simp only [k1] at hb';exact H'.dj l l' x x' b hne h1 k1 hb hb'
     · simp only [h1] at hb;simp only [k1] at hb';exact hapart l' _ l _ b k2 k3 hb' h1 hb
   · rcases hlook l' _ h' with k1|⟨k1,k2,k3⟩
     · simp only [h1] at hb;simp only [k1] at hb';exact hapart l _ l' _ b h2 h3 hb k1 hb'
     · simp only [h1] at hb;simp only [k1] at hb';exact H.dj l l' x x' b hne h3 k3 hb hb'
 · exact H.ext.tr hch fun b ⟨l,x,_,h1,h2⟩=>(H.lo l x b h1 h2).symm
 · rintro b ⟨l,x,hK,h1,h2⟩;rcases hlook l _ h1 with h3|⟨h3,h4,h5⟩
   · simp only [h3] at h2;rcases H'.lo l x b h3 h2 with h4|h4
     · exact .inr h4
     · exact .inl h4
   · rw [hK] at h4;cases h4
def aW (P:Program) (c:Ctx) (ops:Array Oper) (Q:Exit→Act→World→Prop) (Z:Nat→Bool) (K:List Nat) (fuel:Nat) (listed:Array Bool) (st:St) (i:Nat):Prop:=
 ∀a w F,HoldsF c st F a w→∀C:World→Prop,(∀W,Chg (nK K st.heap F) w W→C W)→wpOp P ops (Ov Q) i (fun a' w'=>(Z i=true∨C w')∧JN P .any ops Q C Z fuel (listed.setIfInBounds i true) a' w') a w
theorem Zy (i:Nat) (hr:Region.ready .any ops listed=[i]) (h:aW P c ops Q Z K fuel listed (⟨sL,hP⟩:St) i):aD P c ops Q Z K (fuel+1) listed (⟨sL,hP⟩:St):=fun a w F H C hC=>
 ⟨(fun hn=>by rw [hr] at hn;cases hn),fun j hj=>by
   rw [hr] at hj;obtain rfl:j=i:=by simpa using hj
   exact h a w F H C hC⟩
theorem Tm (i j:Nat) (hr:Region.ready .any ops listed=[i,j]) (h:aW P c ops Q Z K fuel listed (⟨sL,hP⟩:St) i) (h':aW P c ops Q Z K fuel listed (⟨sL,hP⟩:St) j):aD P c ops Q Z K (fuel+1) listed (⟨sL,hP⟩:St):=fun a w F H C hC=>
 ⟨(fun hn=>by rw [hr] at hn;cases hn),fun m hm=>by
   rw [hr] at hm;rcases (by simpa using hm:m=i∨m=j) with rfl|rfl
   · exact h a w F H C hC
   · exact h' a w F H C hC⟩
theorem ZA {i:Nat} (ho:ops[i]? =some o)
 (h:∀(w':World) (M' N':BS) (DQ:Exit→Act→World→Prop),(∀st':St,aD P c ops Q Z K fuel (listed.setIfInBounds i true) ⟨st'.slots,st'.heap++KV K hP⟩→aN ⟨w',M',N',c.nt,c.dr,c.df⟩ DQ st')→aL P ⟨w',M',N',c.nt,c.dr,c.df⟩ ops DQ [o] ⟨sL,Ji K hP⟩):aW P c ops Q Z K fuel listed (⟨sL,hP⟩:St) i:=fun a w F H C hC=>by
 refine GD (Q':=fun _ a' w'=>(Z i=true∨C w')∧JN P .any ops Q C Z fuel (listed.setIfInBounds i true) a' w') ho (fun a' w' hq=>hq) ?_
 refine h w _ _ _ (fun st' hD a' w' ⟨F',H'⟩=>?_) a w ⟨F,H.frame K⟩
 obtain ⟨H2,hch,hnk⟩:=H.unframe H'
 refine ⟨.inr (hC w' hch),hD a' w' _ H2 C fun W hW=>hC W (hch.tr hW hnk)⟩
theorem WP {i:Nat} (ho:ops[i]? =some o) (hZ:Z i=true) (hr:Region.ready .any ops (listed.setIfInBounds i true)=[]) (h:∀DQ:Exit→Act→World→Prop,(∀st':St,aN c Q st'→aN c DQ st')→aL P c ops DQ [o] (⟨sL,hP⟩:St)):aW P c ops Q Z K fuel listed (⟨sL,hP⟩:St) i:=fun a w F H C hC=>by
 refine GD (Q':=fun _ a' w'=>(Z i=true∨C w')∧JN P .any ops Q C Z fuel (listed.setIfInBounds i true) a' w') ho (fun a' w' hq=>hq) ?_
 refine h _ (fun st' hN a' w' H'=>⟨.inl hZ,?_⟩) a w ⟨F,H⟩
 cases fuel with
 |zero=>exact ⟨hr,hN a' w' H'⟩
 |succ n=>exact ⟨fun _=>hN a' w' H',fun i hi=>by rw [hr] at hi;cases hi⟩
end
section
variable {P:Program} {c:Ctx} {ops:Array Oper} {Q:Exit→Act→World→Prop} {rest:List Oper} {sL hP:List (Nat×Ent)} {o:Oper}
theorem Yb {l:Nat} {x:Ent} (l':Nat) (hl:lk hP l=some x) (hl':lk (del l hP) l'=none):Ge (⟨sL,hP⟩:St) (fun _:Unit=>⟨sL,put l' x (del l hP)⟩):=fun c a w ⟨F,H⟩=>by
 refine ⟨(),fun t=>if t=l' then F l else F t,?_⟩
 obtain ⟨v,p⟩:=x
 have aux:∀t y,(t=l∨t=l')→lk (put l' (v,p) (del l hP)) t=some y→t=l'∧y=(v,p):=fun t y ht hy=>by
  rcases Z0 hy with ⟨e1,e2⟩|⟨n1,e2⟩
  · exact ⟨e1.symm,e2.symm⟩
  · rcases ht with h|h
    · exact UB h.symm (Ym e2).1
    · exact UB h.symm n1
 refine H.retell (fun t=>t=l∨t=l') (fun t y hnT hy=>?_) (fun t y b hT hy hb=>?_) (fun hm t u q hT hy=>?_) (fun t1 t2 y1 y2 b h1 h2 hne hy1 hy2=>UB ((aux t1 y1 h1 hy1).1.trans (aux t2 y2 h2 hy2).1.symm) hne)
 · have n2:t≠l':=fun e=>hnT (.inr e);rw [ZU (Ne.symm n2)] at hy;exact ⟨(Ym hy).2,by simp [n2]⟩
 · obtain ⟨rfl,_⟩:=aux t y hT hy;simp only [if_true] at hb;exact ⟨l,_, .inl rfl,hl,hb⟩
 · obtain ⟨rfl,e⟩:=aux t _ hT hy
   cases e;simp only [if_true];exact (H.tr l v p hl).anti hm
def ζc (p p':PV):Prop:=p'=p∨(p= .val (.slice none 0 0)∧∃e k,p'= .own e k 0 [])
theorem TN {l e k n:Nat} {h:Value} {cs:List PV} (cs':List PV) (hl:lk hP l=some (h, .own e k n cs)) (hlen:cs'.length=cs.length) (hc:∀(i:Nat) (p p':PV),cs[i]? =some p→cs'[i]? =some p'→ζc p p'):Ge (⟨sL,hP⟩:St) (fun _:Unit=>⟨sL,put l (h, .own e k n cs') hP⟩):=fun c a w ⟨F,H⟩=>by
 refine ⟨(),F,?_⟩
 have hTr:=H.tr l _ _ hl
 obtain ⟨xs,Fs,hrow,hxl,hT,hd,hb,hF⟩:=hTr.row
 refine H.retell (fun t=>t=l) (fun t y hnT hy=>?_) (fun t y b hT' hy hb'=>?_) (fun hm t u q hT' hy=>?_) (fun t1 t2 _ _ _ h1 h2 hne=>UB (h1.trans h2.symm) hne)
 · have n2:t≠l:=hnT;rw [ZU (Ne.symm n2)] at hy;exact ⟨hy,rfl⟩
 · subst hT';exact ⟨t,_,rfl,hl,hb'⟩
 · subst hT';rw [ZD] at hy
   cases hy;refine .own xs Fs hrow oM (fun i x p' hx hp'=>?_) (fun i j b hi hj=>hd i j b oM oM) (fun i b hi=>hb i b oM) (fun b=>by rw [hF b,hlen]);obtain ⟨p,hp⟩:=Yh hp' hlen;have hTi:=(hT i x p hx hp).anti hm;rcases hc i p p' hp hp' with rfl|⟨rfl,e',k',rfl⟩
   · exact hTi
   · have hFi:∀b,¬Fs i b:=by
      cases hTi with
      |shr _ hF=>exact hF
     have hx0:x= .slice none 0 0:=(hTi.sh rfl).vOf;subst hx0;exact .own [] (fun _ _=>False) (World.ownsRow_nil _ _ _ _) rfl sM sM sM (fun b=>by simp [Value.ownBlock];exact hFi b)
theorem Zas (X:List PV) (a:PV) (e k:Nat):∀(i:Nat) (p p':PV),(X++[a, .val (.slice none 0 0)])[i]? =some p→(X++[a, .own e k 0 []])[i]? =some p'→ζc p p':=fun i p p' h1 h2=>by
 rcases XY i X.length with hi|hi
 · rw [X7 hi] at h1 h2;rw [h1] at h2;cases h2;exact .inl rfl
 · rw [Vb hi] at h1 h2;match h:i-X.length,h1,h2 with
   |0,h1,h2=>simp at h1 h2;exact .inl (h2.symm.trans h1)
   |1,h1,h2=>simp at h1 h2;exact .inr ⟨h1.symm,e,k,h2.symm⟩
   |j+2,h1,h2=>simp at h1
theorem R1 (zs:List Value) (hz:0<zs.length) (n:Nat):(madeCells zs.toArray (n*zs.length)).toList=(List.replicate n zs).flatten:=by
 apply VI
 intro j
 have hl:(List.replicate n zs).flatten.length=n*zs.length:=sM
 by_cases hj:j<n*zs.length
 · have hmod:j % zs.length<zs.length:=Nat.mod_lt _ hz;have hdiv:j / zs.length<n:=by rw [Ug hz];exact hj
   have h1:(madeCells zs.toArray (n*zs.length)).toList[j]? =some (zs[j % zs.length]'hmod):=by
    simp [madeCells,hj,hmod]
   rw [h1];have h2:=Wm (f:=fun _:Nat=>zs) (k:=zs.length) (fun _=>rfl) (l:=List.range n) (i:=j / zs.length) (x:=j / zs.length) (by simp [hdiv]) (j:=j % zs.length) hmod;rw [show j / zs.length*zs.length+j % zs.length=j from by rw [VJ];exact VV _ _] at h2;rw [show (List.replicate n zs).flatten=(List.range n).flatMap (fun _=>zs) by
    rw [List.flatMap_def,List.map_const',VF],h2]
   simp [hmod]
 · rw [X8 (by simp [madeCells];omega),X8 oM]
theorem Zcb {t e kk bytes:Nat} {z:Value} {x y:Operand} {n:Nat} {q q':PV} (zs:List Value) (d:Nat) (hT:ElT P t e kk bytes z) (hzs:z.cells=zs.toArray) (hw:ZK ops sL o=some true) (hd:o.dst=some d) (hn:d<c.nt) (ho:o.op= .makeSlice t x y) (hx:ev sL x=some (.int .i64 n,q)) (hy:ev sL y=some (.int .i64 n,q')) (hl:lk hP d=none)
 (hb:bytes*n≤281474976710656) (hn2:n≤9223372036854775807)
 (k:∀h:Value,h.oneCell'=true→aL P c ops Q rest ⟨put d (h, .val h) sL,put d (h, .own e kk n ((List.replicate n (zs.map PV.val)).flatten)) hP⟩):aL P c ops Q (o::rest) (⟨sL,hP⟩:St):=
 YH hw fun a w F H=>by
  obtain ⟨i,hi1,hi2,hi3,hi4⟩:=hT.info;have hzl:zs.length=kk:=by have:=hT.hz;rw [hzs] at this;simpa using this
  have hk0:=hT.hk;have hbn:((i.bytes:Nat):Int)*(n:Int)≤281474976710656:=by rw [hi4,←Int.natCast_mul];omega
  have hr:=run_make (P:=P) w t e i z hT.ht hi1 hi2 .i64 .i64 (n:Int) (n:Int) oM oM hbn oM;rw [hi3,hzs,Xt] at hr;have hmc:=R1 zs oM n;rw [hzl] at hmc;obtain ⟨F',H'⟩:=Wq (e:=e) (k:=kk) (n:=n) (cap:=n) (cur:=madeCells zs.toArray (n*kk)) (v:= .slice (some ⟨w.heap.size,0,none⟩) n n) H hl hn (vs:=(List.replicate n zs).flatten) (ps:=(List.replicate n (zs.map PV.val)).flatten) sM (fun j u p hu hp=>by
   have:(List.replicate n (zs.map PV.val)).flatten=((List.replicate n zs).flatten).map PV.val:=by simp [List.map_flatten]
   rw [this,Xl,hu] at hp;simp at hp;subst hp;exact .val _) (by simp [hzl]) (Xg _) (by unfold maxLen;omega) (by rw [size_madeCells]) (by rw [hmc];exact XV (by simp [hzl]))
  unfold Oper.wp execOp;simp only [ho,(H.rd.ev hx).1,(H.rd.ev hy).1,Sem.run_bind,hr,Result.andThen_ok];simp only [Sem.run_pure,Oper.upon,hd];exact k _ rfl _ _ ⟨F',H'⟩
theorem OG {l e k:Nat} {h:Value} {p q:PV} (hl:lk hP l=some (h, .own e k 1 [p])) (hq:share p=q):Td (⟨sL,hP⟩:St) (ZH (Zs h) 0) (.sptr 0 [q]):=by
 have:=OB (sL:=sL) (j:=0) hl X3
 simpa [Yf,hq] using this
theorem Zat {f l1 e1 k1 l2 e2 k2:Nat} {h1 h2:Value} {p1 q1 p2 q2:PV} (hl1:lk hP l1=some (h1, .own e1 k1 1 [p1])) (hq1:share p1=q1) (hl2:lk hP l2=some (h2, .own e2 k2 1 [p2])) (hq2:share p2=q2):
 Td (⟨sL,hP⟩:St) (.func (.func f) #[] [ZH (Zs h1) 0,ZH (Zs h2) 0].toArray) (.fn f [.sptr 0 [q1], .sptr 0 [q2]]):=
 Zb2 rfl fun i v p hv hp=>by
  match i with
  |0=>simp at hv hp;subst hv hp;exact OG hl1 hq1
  |1=>simp at hv hp;subst hv hp;exact OG hl2 hq2
  |i+2=>simp at hv
theorem R2 {ι:Type} {x y:Code} (S:ι→St) (h:aC P c x (Exit.then (fun a w=>∃i,Holds c (S i) a w) Q) (⟨sL,hP⟩:St)) (k:∀i,aC P c y Q (S i)):aC P c x (Exit.then (y.wp P Q) Q) (⟨sL,hP⟩:St):=fun a w H=>
 wp_mono (h a w H) fun e a' w' hq=>by
  cases e with
  |normal=>obtain ⟨i,hi⟩:=hq;exact k i a' w' hi
  |_=>exact hq
theorem Kr {t j e kk n:Nat} {x y:Operand} {h v:Value} {q p:PV} {cs:List PV} (l i:Nat) (hw:ZK ops sL o=some true) (hd:o.dst=none) (hT:NoAgg P t=true) (hsz:(P.info? t).map (·.size)=some 1) (ho:o.op= .store t x y)
 (hx:ev sL x=some (ZH (Zs h) j,q)) (hy:ev sL y=some (v,p)) (h1:one p=true) (hl:lk hP l=some (h, .own e kk n cs)) (hji:j=i) (hj:i<cs.length)
 (k:aL P c ops Q rest ⟨sL,put l (h, .own e kk n (cs.set i p)) hP⟩):aL P c ops Q (o::rest) (⟨sL,hP⟩:St):=by
 subst hji
 exact EZ l hw hd hT hsz ho hx hy h1 hl hj k
theorem Jj {l l' j e k n:Nat} {h:Value} {cs:List PV} {p:PV} (hl:lk hP l=some (h, .own e k n cs)) (hp:cs[j]? =some p) (hl':lk hP l'=none) (hok:W2 p=true):
 Ge (⟨sL,hP⟩:St) (fun v:{v:Value//v.oneCell'=true}=>⟨sL,put l' (v.1,p) (put l (h, .own e k n (cs.set j (.val v.1))) hP)⟩):=fun c a w H=>by
 obtain ⟨v,F,H'⟩:=focus hl hp hl' c a w H
 exact ⟨⟨v,(H'.tr l' v p (ZD _ _ _)).cellOne hok⟩,F,H'⟩
end
theorem nav {A B:Prop} (h:B) (e:B→A:=by intro h;(repeat (first|with_reducible refine Dx ?_|with_reducible refine TA ?_|with_reducible refine RD ?_|with_reducible refine TB ?_|with_reducible refine RA ?_|with_reducible refine RB ?_|with_reducible refine RE ?_|with_reducible refine TC ?_|with_reducible refine TD rfl ?_|with_reducible refine Dy ?_|with_reducible refine RF ?_|with_reducible refine TE ?_));exact h):A:=e h
theorem Zd {A B:Prop} (h:B) (e:B→A:=by intro h;(repeat (first|with_reducible refine Dx ?_|with_reducible refine TA ?_|with_reducible refine RD ?_|with_reducible refine TB ?_|with_reducible refine RA ?_|with_reducible refine RB ?_|with_reducible refine RE ?_|with_reducible refine TC ?_|with_reducible refine TD rfl ?_|with_reducible refine Dy ?_|with_reducible refine RF ?_|with_reducible refine TE ?_));refine Zk ?_;exact h):A:=e h
theorem Zh {A B:Prop} (h:B) (e:B→A:=by intro h;refine Zr ?_;(repeat (first|with_reducible refine Dx ?_|with_reducible refine TA ?_|with_reducible refine RD ?_|with_reducible refine TB ?_|with_reducible refine RA ?_|with_reducible refine RB ?_|with_reducible refine RE ?_|with_reducible refine TC ?_|with_reducible refine TD rfl ?_|with_reducible refine Dy ?_|with_reducible refine RF ?_|with_reducible refine TE ?_));(try dsimp only);refine Zk ?_;exact h):A:=e h
theorem Zc {A B:Prop} (h:B) (e:B→A:=by intro h;refine Zr ?_;(repeat (first|with_reducible refine Dx ?_|with_reducible refine TA ?_|with_reducible refine RD ?_|with_reducible refine TB ?_|with_reducible refine RA ?_|with_reducible refine RB ?_|with_reducible refine RE ?_|with_reducible refine TC ?_|with_reducible refine TD rfl ?_|with_reducible refine Dy ?_|with_reducible refine RF ?_|with_reducible refine TE ?_));(try dsimp only);exact h):A:=e h
section
variable {P:Program} {c:Ctx} {ops:Array Oper} {Q:Exit→Act→World→Prop} {rest:List Oper} {st:St} {sL hP:List (Nat×Ent)} {o:Oper} {x y:Operand} {t t':TypeId} {q q':PV} {Z:Nat→Bool} {K:List Nat} {fuel:Nat} {listed:Array Bool}
theorem xL {v:Value} {p:PV} (d:Nat) (hy:YE P (⟨sL,hP⟩:St) o (· =v) p) (k:aL P c ops Q rest ⟨put d (v,p) sL,hP⟩) (hw:ZK ops sL o=some true:=by exact rfl) (hd:o.dst=some d:=by exact rfl) (hn:d<c.nt:=by exact Xa rfl):aL P c ops Q (o::rest) (⟨sL,hP⟩:St):=
 ZfX d hw hd hn hy k
theorem yL {V:Value→Prop} {p:PV} (d:Nat) (hy:YE P (⟨sL,hP⟩:St) o V p) (k:∀v,V v→aL P c ops Q rest ⟨put d (v,p) sL,hP⟩) (hw:ZK ops sL o=some true:=by exact rfl) (hd:o.dst=some d:=by exact rfl) (hn:d<c.nt:=by exact Xa rfl):aL P c ops Q (o::rest) (⟨sL,hP⟩:St):=
 Rq d hw hd hn hy k
theorem kL (d:Nat) (k:aL P c ops Q rest ⟨put d (undef, .val undef) sL,hP⟩) (hw:ZK ops sL o=some false:=by exact rfl) (hd:o.dst=some d:=by exact rfl) (hn:d<c.nt:=by exact Xa rfl):aL P c ops Q (o::rest) (⟨sL,hP⟩:St):=
 ZdB d hw hd hn k
theorem bL {l:List Oper} {b:Bool} {q:PV} (t:Nat) (ht:b=true→aL P c ops Q l ⟨put t (.bool true, .val (.bool true)) sL,hP⟩) (hf:b=false→aL P c ops Q l ⟨put t (.bool false, .val (.bool false)) sL,hP⟩) (hx:lk sL t=some (.bool b,q):=by exact rfl):aL P c ops Q l (⟨sL,hP⟩:St):=
 Hm t hx ht hf
theorem xD {v:Value} {p:PV} (i:Nat) (d:Nat) (ho:ops[i]? =some o) (hy:YE P ⟨sL,KV K hP⟩ o (· =v) p) (k:aD P c ops Q Z K fuel (listed.setIfInBounds i true) ⟨put d (v,p) sL,hP⟩) (hck:(Region.noSelect ops&&(Region.ready .any ops listed).contains i&&Region.free .any ops listed i&&Tl .any ops Z i)=true:=by kernel_rfl) (hw:ZK ops sL o=some true:=by exact rfl) (hd:o.dst=some d:=by exact rfl) (hn:d<c.nt:=by exact Xa rfl):aD P c ops Q Z K (fuel+1) listed (⟨sL,hP⟩:St):=
 ZfZ i d ho hck hw hd hn hy k
theorem yD {V:Value→Prop} {p:PV} (i:Nat) (d:Nat) (ho:ops[i]? =some o) (hy:YE P ⟨sL,KV K hP⟩ o V p) (k:∀v,V v→aD P c ops Q Z K fuel (listed.setIfInBounds i true) ⟨put d (v,p) sL,hP⟩) (hck:(Region.noSelect ops&&(Region.ready .any ops listed).contains i&&Region.free .any ops listed i&&Tl .any ops Z i)=true:=by kernel_rfl) (hw:ZK ops sL o=some true:=by exact rfl) (hd:o.dst=some d:=by exact rfl) (hn:d<c.nt:=by exact Xa rfl):aD P c ops Q Z K (fuel+1) listed (⟨sL,hP⟩:St):=
 Oi i d ho hck hw hd hn hy k
theorem kD (i:Nat) (d:Nat) (ho:ops[i]? =some o) (k:aD P c ops Q Z K fuel (listed.setIfInBounds i true) ⟨put d (undef, .val undef) sL,hP⟩) (hck:(Region.noSelect ops&&(Region.ready .any ops listed).contains i&&Region.free .any ops listed i&&Tl .any ops Z i)=true:=by kernel_rfl) (hw:ZK ops sL o=some false:=by exact rfl) (hd:o.dst=some d:=by exact rfl) (hn:d<c.nt:=by exact Xa rfl):aD P c ops Q Z K (fuel+1) listed (⟨sL,hP⟩:St):=
 ZdN i d ho hck hw hd hn k
theorem xE {v:Value} {p:PV} (i:Nat) (d:Nat) (ho:ops[i]? =some o) (hy:YE P (⟨sL,hP⟩:St) o (· =v) p) (k:aD P c ops Q Z K fuel (listed.setIfInBounds i true) ⟨put d (v,p) sL,hP⟩) (hr:Region.ready .any ops listed=[i]:=by kernel_rfl) (hw:ZK ops sL o=some true:=by exact rfl) (hd:o.dst=some d:=by exact rfl) (hn:d<c.nt:=by exact Xa rfl):aD P c ops Q Z K (fuel+1) listed (⟨sL,hP⟩:St):=
 ZfE i d ho hr hw hd hn hy k
theorem yE {V:Value→Prop} {p:PV} (i:Nat) (d:Nat) (ho:ops[i]? =some o) (hy:YE P (⟨sL,hP⟩:St) o V p) (k:∀v,V v→aD P c ops Q Z K fuel (listed.setIfInBounds i true) ⟨put d (v,p) sL,hP⟩) (hr:Region.ready .any ops listed=[i]:=by kernel_rfl) (hw:ZK ops sL o=some true:=by exact rfl) (hd:o.dst=some d:=by exact rfl) (hn:d<c.nt:=by exact Xa rfl):aD P c ops Q Z K (fuel+1) listed (⟨sL,hP⟩:St):=
 ZeB i d ho hr hw hd hn hy k
theorem bD {b:Bool} {q:PV} (t:Nat) (ht:b=true→aD P c ops Q Z K fuel listed ⟨put t (.bool true, .val (.bool true)) sL,hP⟩) (hf:b=false→aD P c ops Q Z K fuel listed ⟨put t (.bool false, .val (.bool false)) sL,hP⟩) (hx:lk sL t=some (.bool b,q):=by exact rfl):aD P c ops Q Z K fuel listed (⟨sL,hP⟩:St):=
 Hy t hx ht hf
theorem Za {P:Program} {st:St} {o:Oper} {x:Operand} {v:Value} {p:PV} (ho:o.op= .move x:=by exact rfl) (hx:ev st.slots x=some (v,p):=by exact rfl):YE P st o (· =v) p:=
 ZeK ho hx
theorem Zb {P:Program} {st:St} {o:Oper} {x:Operand} {v:Value} {p:PV} (ho:o.op= .assign x:=by exact rfl) (hx:ev st.slots x=some (v,p):=by exact rfl):YE P st o (· =v) p:=
 Zb0 ho hx
theorem Zv {P:Program} {st:St} {o:Oper} {c x y:Operand} {b:Bool} {q:PV} {v:Value} {p:PV} (ho:o.op= .pick c x y:=by exact rfl) (hc:ev st.slots c=some (.bool b,q):=by exact rfl) (hx:ev st.slots (if b then x else y)=some (v,p):=by exact rfl):YE P st o (· =v) p:=
 ZeL ho hc hx
theorem Yj {P:Program} {st:St} {o:Oper} {x:Operand} {t:TypeId} {b:Bool} {q:PV} (ho:o.op= .unOp .not t x:=by exact rfl) (hx:ev st.slots x=some (.bool b,q):=by exact rfl):YE P st o (· = .bool (!b)) (.val (.bool (!b))):=
 Zfs ho hx
theorem ZfF {P:Program} {st:St} {o:Oper} {x:Operand} {t:TypeId} {a:Int} {q:PV} (ho:o.op= .unOp .neg t x:=by exact rfl) (hx:ev st.slots x=some (.int .i64 a,q):=by exact rfl) (h1: -9223372036854775807≤a:=by first|omega|exact Xa rfl|(simp only [Xi,Xr,Xc,Xj,Xe,Xw,Xo,Xq,Xz];omega)) (h2:a≤9223372036854775807:=by first|omega|exact Xa rfl|(simp only [Xi,Xr,Xc,Xj,Xe,Xw,Xo,Xq,Xz];omega)):YE P st o (· = .int .i64 (-a)) (.val (.int .i64 (-a))):=
 Zft ho hx h1 h2
theorem ZN {k:IntKind} {a b:Int} (ho:o.op= .binOp .lss t x y t':=by exact rfl) (hx:ev st.slots x=some (.int k a,q):=by exact rfl) (hy:ev st.slots y=some (.int k b,q'):=by exact rfl):YE P st o (· = .bool (decide (a<b))) (.val (.bool (decide (a<b)))):=
 Zfu ho hx hy
theorem OH {k:IntKind} {a b:Int} (ho:o.op= .binOp .leq t x y t':=by exact rfl) (hx:ev st.slots x=some (.int k a,q):=by exact rfl) (hy:ev st.slots y=some (.int k b,q'):=by exact rfl):YE P st o (· = .bool (decide (a≤b))) (.val (.bool (decide (a≤b)))):=
 Zfv ho hx hy
theorem Kj {k:IntKind} {a b:Int} (ho:o.op= .binOp .gtr t x y t':=by exact rfl) (hx:ev st.slots x=some (.int k a,q):=by exact rfl) (hy:ev st.slots y=some (.int k b,q'):=by exact rfl):YE P st o (· = .bool (decide (b<a))) (.val (.bool (decide (b<a)))):=
 Zfw ho hx hy
theorem J6 {k:IntKind} {a b:Int} (ho:o.op= .binOp .geq t x y t':=by exact rfl) (hx:ev st.slots x=some (.int k a,q):=by exact rfl) (hy:ev st.slots y=some (.int k b,q'):=by exact rfl):YE P st o (· = .bool (decide (b≤a))) (.val (.bool (decide (b≤a)))):=
 Zfx ho hx hy
theorem YY {k:IntKind} {a b:Int} (ho:o.op= .binOp .eql t x y t':=by exact rfl) (hx:ev st.slots x=some (.int k a,q):=by exact rfl) (hy:ev st.slots y=some (.int k b,q'):=by exact rfl):YE P st o (· = .bool (decide (a=b))) (.val (.bool (decide (a=b)))):=
 Zfy ho hx hy
theorem Y9 {k:IntKind} {a b:Int} (ho:o.op= .binOp .neq t x y t':=by exact rfl) (hx:ev st.slots x=some (.int k a,q):=by exact rfl) (hy:ev st.slots y=some (.int k b,q'):=by exact rfl):YE P st o (· = .bool (decide (a≠b))) (.val (.bool (decide (a≠b)))):=
 Zfz ho hx hy
theorem ZeV {a b:ByteArray} (ho:o.op= .binOp .eql t x y t':=by exact rfl) (hx:ev st.slots x=some (.string a,q):=by exact rfl) (hy:ev st.slots y=some (.string b,q'):=by exact rfl):YE P st o (· = .bool (a.toList==b.toList)) (.val (.bool (a.toList==b.toList))):=
 ZeM ho hx hy
theorem Zcc {a b:ByteArray} (ho:o.op= .binOp .neq t x y t':=by exact rfl) (hx:ev st.slots x=some (.string a,q):=by exact rfl) (hy:ev st.slots y=some (.string b,q'):=by exact rfl):YE P st o (· = .bool (!(a.toList==b.toList))) (.val (.bool (!(a.toList==b.toList)))):=
 ZeN ho hx hy
theorem E7 {a b:ByteArray} (ho:o.op= .binOp .lss t x y t':=by exact rfl) (hx:ev st.slots x=some (.string a,q):=by exact rfl) (hy:ev st.slots y=some (.string b,q'):=by exact rfl):YE P st o (· = .bool (Op.bytesLess a.toList b.toList)) (.val (.bool (Op.bytesLess a.toList b.toList))):=
 ZeO ho hx hy
theorem E8 {a b:ByteArray} (ho:o.op= .binOp .geq t x y t':=by exact rfl) (hx:ev st.slots x=some (.string a,q):=by exact rfl) (hy:ev st.slots y=some (.string b,q'):=by exact rfl):YE P st o (· = .bool (!Op.bytesLess a.toList b.toList)) (.val (.bool (!Op.bytesLess a.toList b.toList))):=
 ZeP ho hx hy
theorem E9 {a b:ByteArray} (ho:o.op= .binOp .gtr t x y t':=by exact rfl) (hx:ev st.slots x=some (.string a,q):=by exact rfl) (hy:ev st.slots y=some (.string b,q'):=by exact rfl):YE P st o (· = .bool (!(Op.bytesLess a.toList b.toList||a.toList==b.toList))) (.val (.bool (!(Op.bytesLess a.toList b.toList||a.toList==b.toList)))):=
 ZeQ ho hx hy
theorem ZB {a b:Int} (ho:o.op= .binOp .add t x y t':=by exact rfl) (hx:ev st.slots x=some (.int .i64 a,q):=by exact rfl) (hy:ev st.slots y=some (.int .i64 b,q'):=by exact rfl) (h1: -9223372036854775808≤a+b:=by first|omega|exact Xa rfl|(simp only [Xi,Xr,Xc,Xj,Xe,Xw,Xo,Xq,Xz];omega)) (h2:a+b≤9223372036854775807:=by first|omega|exact Xa rfl|(simp only [Xi,Xr,Xc,Xj,Xe,Xw,Xo,Xq,Xz];omega)):YE P st o (· = .int .i64 (a+b)) (.val (.int .i64 (a+b))):=
 ZfA ho hx hy h1 h2
theorem KW {a b:Int} (ho:o.op= .binOp .sub t x y t':=by exact rfl) (hx:ev st.slots x=some (.int .i64 a,q):=by exact rfl) (hy:ev st.slots y=some (.int .i64 b,q'):=by exact rfl) (h1: -9223372036854775808≤a-b:=by first|omega|exact Xa rfl|(simp only [Xi,Xr,Xc,Xj,Xe,Xw,Xo,Xq,Xz];omega)) (h2:a-b≤9223372036854775807:=by first|omega|exact Xa rfl|(simp only [Xi,Xr,Xc,Xj,Xe,Xw,Xo,Xq,Xz];omega)):YE P st o (· = .int .i64 (a-b)) (.val (.int .i64 (a-b))):=
 ZfB ho hx hy h1 h2
theorem Zcd {a b:Int} (ho:o.op= .binOp .mul t x y t':=by exact rfl) (hx:ev st.slots x=some (.int .i64 a,q):=by exact rfl) (hy:ev st.slots y=some (.int .i64 b,q'):=by exact rfl) (h1: -9223372036854775808≤a*b:=by first|omega|exact Xa rfl|(simp only [Xi,Xr,Xc,Xj,Xe,Xw,Xo,Xq,Xz];omega)) (h2:a*b≤9223372036854775807:=by first|omega|exact Xa rfl|(simp only [Xi,Xr,Xc,Xj,Xe,Xw,Xo,Xq,Xz];omega)):YE P st o (· = .int .i64 (a*b)) (.val (.int .i64 (a*b))):=
 ZfC ho hx hy h1 h2
theorem ZeW {a b:Bool} (hu:P.underlying t=some .bool) (ho:o.op= .binOp .eql t x y t':=by exact rfl) (hx:ev st.slots x=some (.bool a,q):=by exact rfl) (hy:ev st.slots y=some (.bool b,q'):=by exact rfl):YE P st o (· = .bool (a==b)) (.val (.bool (a==b))):=
 ZeR hu ho hx hy
theorem ζd {s:ByteArray} {i:Int} {c:UInt8} {k:IntKind} (hu:P.underlying t=some .string) (ho:o.op= .index t x y:=by exact rfl) (hx:ev st.slots x=some (.string s,q):=by exact rfl) (hy:ev st.slots y=some (.int k i,q'):=by exact rfl) (hi:0≤i:=by first|omega|exact Xa rfl|(simp only [Xi,Xr,Xc,Xj,Xe,Xw,Xo,Xq,Xz];omega)) (hc:s.data[i.toNat]? =some c:=by assumption):YE P st o (· = .int .u8 c.toNat) (.val (.int .u8 c.toNat)):=
 ZdA hu ho hx hy hi hc
theorem DF {P:Program} {st:St} {o:Oper} {x:Operand} {t:TypeId} {s:ByteArray} {q:PV} (ht:P.underlying t=some .string) (ho:o.op= .call {callee:= .builtin .len,args:= #[x],argTypes:= #[t]}:=by exact rfl) (hx:ev st.slots x=some (.string s,q):=by exact rfl):YE P st o (· = .int .i64 s.size) (.val (.int .i64 s.size)):=
 ZeS ht ho hx
theorem Zl {P:Program} {st:St} {o:Oper} {x:Operand} {i:Nat} {vs:List Value} {ps:List PV} {v:Value} {p:PV} (ho:o.op= .extract x i:=by exact rfl) (hx:ev st.slots x=some (.tuple vs.toArray, .tup ps):=by exact rfl) (hv:vs[i]? =some v:=by exact rfl) (hp:ps[i]? =some p:=by exact rfl):YE P st o (· =v) p:=
 Zab ho hx hv hp
theorem Ye {s f fo j:Nat} {x:Operand} {v:Value} {cs:List PV} (hT:FldT P s f fo=true) (ho:o.op= .fieldAddr s x f:=by exact rfl) (hx:ev st.slots x=some (v, .sptr j cs):=by exact rfl):YE P st o (· =ZH v fo) (.sptr (j+fo) cs):=
 Zac hT ho hx
theorem Zm {s f fo j e k n:Nat} {x:Operand} {h:Value} {p:PV} {cs:List PV} (l:Nat) (hT:FldT P s f fo=true) (ho:o.op= .fieldAddr s x f:=by exact rfl) (hx:ev st.slots x=some (ZH (Zs h) j,p):=by exact rfl) (hl:lk st.heap l=some (h, .own e k n cs):=by exact rfl) (hn:0<n:=by first|omega|exact Xa rfl|(simp only [Xi,Xr,Xc,Xj,Xe,Xw,Xo,Xq,Xz];omega)):YE P st o (· =ZH (Zs h) (j+fo)) (.val (ZH (Zs h) (j+fo))):=
 Zad l hT ho hx hl hn
theorem Zn {t e k n:Nat} {x y:Operand} {v:Value} {cs:List PV} {q:PV} {kd:IntKind} {i:Nat} (hT:SlT P t e k=true) (ho:o.op= .indexAddr t x y:=by exact rfl) (hx:ev st.slots x=some (v, .sl n cs):=by exact rfl) (hy:ev st.slots y=some (.int kd (i:Int),q):=by exact rfl) (h1:i<n:=by first|omega|exact Xa rfl|(simp only [Xi,Xr,Xc,Xj,Xe,Xw,Xo,Xq,Xz];omega)):YE P st o (· =ZH (Zs v) (i*k)) (.sptr (i*k) cs):=
 EX hT ho hx hy h1
theorem Z4 {t e k e' k' n:Nat} {x y:Operand} {h:Value} {p q:PV} {cs:List PV} {kd:IntKind} {i:Nat} (l:Nat) (hT:SlT P t e k=true) (ho:o.op= .indexAddr t x y:=by exact rfl) (hx:ev st.slots x=some (h,p):=by exact rfl) (hy:ev st.slots y=some (.int kd (i:Int),q):=by exact rfl) (hl:lk st.heap l=some (h, .own e' k' n cs):=by exact rfl) (h1:i<n:=by first|omega|exact Xa rfl|(simp only [Xi,Xr,Xc,Xj,Xe,Xw,Xo,Xq,Xz];omega)):YE P st o (· =ZH (Zs h) (i*k)) (.val (ZH (Zs h) (i*k))):=
 EY l hT ho hx hy hl h1
theorem Tf {t e k n:Nat} {x y:Operand} {v:Value} {cs:List PV} {q:PV} {kd:IntKind} {i:Int} (hT:SlT P t e k=true) (ho:o.op= .indexAddr t x y:=by exact rfl) (hx:ev st.slots x=some (v, .sl n cs):=by exact rfl) (hy:ev st.slots y=some (.int kd i,q):=by exact rfl) (h0:0≤i:=by first|omega|exact Xa rfl|(simp only [Xi,Xr,Xc,Xj,Xe,Xw,Xo,Xq,Xz];omega)) (h1:i<n:=by first|omega|exact Xa rfl|(simp only [Xi,Xr,Xc,Xj,Xe,Xw,Xo,Xq,Xz];omega)):YE P st o (· =ZH (Zs v) (i.toNat*k)) (.sptr (i.toNat*k) cs):=
 Ow hT ho hx hy h0 h1
theorem R3 {t e k e' k' n:Nat} {x y:Operand} {h:Value} {p q:PV} {cs:List PV} {kd:IntKind} {i:Int} (l:Nat) (hT:SlT P t e k=true) (ho:o.op= .indexAddr t x y:=by exact rfl) (hx:ev st.slots x=some (h,p):=by exact rfl) (hy:ev st.slots y=some (.int kd i,q):=by exact rfl) (hl:lk st.heap l=some (h, .own e' k' n cs):=by exact rfl) (h0:0≤i:=by first|omega|exact Xa rfl|(simp only [Xi,Xr,Xc,Xj,Xe,Xw,Xo,Xq,Xz];omega)) (h1:i<n:=by first|omega|exact Xa rfl|(simp only [Xi,Xr,Xc,Xj,Xe,Xw,Xo,Xq,Xz];omega)):YE P st o (· =ZH (Zs h) (i.toNat*k)) (.val (ZH (Zs h) (i.toNat*k))):=
 Ox l hT ho hx hy hl h0 h1
theorem Zt {t j:Nat} {x:Operand} {v:Value} {cs:List PV} {p:PV} (hT:NoAgg P t=true) (ho:o.op= .load t x:=by exact rfl) (hx:ev st.slots x=some (v, .sptr j cs):=by exact rfl) (hp:cs[j]? =some p:=by first|exact rfl|assumption):YE P st o (vOf p) p:=
 Hk hT ho hx hp
theorem Zp {t j e k n:Nat} {x:Operand} {h:Value} {q:PV} {cs:List PV} {p:PV} (l:Nat) (hT:NoAgg P t=true) (ho:o.op= .load t x:=by exact rfl) (hx:ev st.slots x=some (ZH (Zs h) j,q):=by exact rfl) (hl:lk st.heap l=some (h, .own e k n cs):=by exact rfl) (hp:cs[j]? =some p:=by first|exact rfl|assumption) (hsh:KM p=true:=by exact rfl):YE P st o (vOf p) p:=
 Hl l hT ho hx hl hp hsh
theorem Jm {t k j:Nat} {x:Operand} {v:Value} {cs ps:List PV} (hT:AggT P t k=true) (ho:o.op= .load t x:=by exact rfl) (hx:ev sL x=some (v, .sptr j cs):=by exact rfl) (hp:j+k≤cs.length:=by first|omega|exact Xa rfl|(simp only [Xi,Xr,Xc,Xj,Xe,Xw,Xo,Xq,Xz];omega)) (hps:(cs.drop j).take k=ps:=by first|assumption|exact rfl):YE P (⟨sL,hP⟩:St) o (fun _=>True) (.agg ps):=
 E4 hT ho hx hp hps
theorem YG {t k j e k' n:Nat} {x:Operand} {h:Value} {q:PV} {cs ps:List PV} (l:Nat) (hT:AggT P t k=true) (ho:o.op= .load t x:=by exact rfl) (hx:ev sL x=some (ZH (Zs h) j,q):=by exact rfl) (hl:lk hP l=some (h, .own e k' n cs):=by exact rfl) (hp:j+k≤cs.length:=by first|omega|exact Xa rfl|(simp only [Xi,Xr,Xc,Xj,Xe,Xw,Xo,Xq,Xz];omega)) (hk:0<k:=by decide) (hps:(cs.drop j).take k=ps:=by first|assumption|exact rfl) (hsh:ps.all KM=true:=by first|exact rfl|decide):YE P (⟨sL,hP⟩:St) o (fun _=>True) (.agg ps):=
 RU l hT ho hx hl hp hk hps hsh
theorem ZF {t e k n:Nat} {x:Operand} {v:Value} {cs:List PV} (hT:SlT P t e k=true) (ho:o.op= .call {callee:= .builtin .len,args:= #[x],argTypes:= #[t]}:=by exact rfl) (hx:ev st.slots x=some (v, .sl n cs):=by exact rfl):YE P st o (· = .int .i64 n) (.val (.int .i64 n)):=
 Zag hT ho hx
theorem Wj {t e k e' k' n:Nat} {x:Operand} {h:Value} {p:PV} {cs:List PV} (l:Nat) (hT:SlT P t e k=true) (ho:o.op= .call {callee:= .builtin .len,args:= #[x],argTypes:= #[t]}:=by exact rfl) (hx:ev st.slots x=some (h,p):=by exact rfl) (hl:lk st.heap l=some (h, .own e' k' n cs):=by exact rfl):YE P st o (· = .int .i64 n) (.val (.int .i64 n)):=
 Zah l hT ho hx hl
theorem ζe {t ks e:Nat} {x:Operand} {m:Value} {kv:List (Value×Value)} {p:PV} (l:Nat) (ht:P.underlying t=some (.map ks e)) (ho:o.op= .call {callee:= .builtin .len,args:= #[x],argTypes:= #[t]}:=by exact rfl) (hx:ev sL x=some (m,p):=by exact rfl) (hl:lk hP l=some (m, .omap kv):=by exact rfl):YE P (⟨sL,hP⟩:St) o (· = .int .i64 kv.length) (.val (.int .i64 kv.length)):=
 Zb7 l ht ho hx hl
theorem Yt {t:Nat} {parts:Array (Nat×Operand)} {z:Value} {offs:List Nat} {zs:List Value} {es:List (Nat×Ent)} (hT:KY P t=some (z,offs.map fun o=>(o,1))) (hzs:z.cells=zs.toArray:=by exact rfl) (ho:o.op= .build t parts:=by exact rfl) (hx:evP sL parts.toList=some es:=by exact rfl) (h1:es.all (fun x=>one x.2.2)=true:=by first|exact rfl|(simp only [V7,List.all_nil,V8,Xd];(repeat (first|refine ⟨?_,?_⟩|rfl|assumption)))) (hin:es.all (fun x=>decide (x.1<offs.length)&&decide (offs.getD x.1 0<zs.length))=true:=by exact rfl):YE P (⟨sL,hP⟩:St) o (· = .agg (Tj offs zs (es.map fun x=>(x.1,x.2.1))).toArray) (.agg (Tj offs (zs.map .val) (es.map fun x=>(x.1,x.2.2)))):=
 ZdG hT hzs ho hx h1 hin
theorem JO {f:Nat} {caps:Array Operand} {es:List Ent} (ho:o.op= .makeFunc (.func f) #[] caps:=by exact rfl) (hx:evL sL caps.toList=some es:=by exact rfl):YE P (⟨sL,hP⟩:St) o (· = .func (.func f) #[] (es.map (·.1)).toArray) (.fn f (es.map (·.2))):=
 ZeU ho hx
theorem WQ {t ks e:Nat} {kd:TypeDesc} {z u:Value} {x y:Operand} {m k:Value} {kv:List (Value×Value)} {q:PV} (hT:MpT P t ks e kd z) (ho:o.op= .lookup t x y false:=by exact rfl) (hx:ev sL x=some (m, .smap kv):=by exact rfl) (hy:ev sL y=some (k,q):=by exact rfl) (hk:kok kd k kv:=by first|exact J5 _ _|exact TK _ _|exact TJ _ _|assumption) (hu:(YP kv k).getD z=u:=by assumption):YE P (⟨sL,hP⟩:St) o (· =u) (.val u):=
 Zam hT ho hx hy hk hu
theorem ZdO {t ks e:Nat} {kd:TypeDesc} {z:Value} {x y:Operand} {m k:Value} {kv:List (Value×Value)} {q:PV} (hT:MpT P t ks e kd z) (ho:o.op= .lookup t x y true:=by exact rfl) (hx:ev sL x=some (m, .smap kv):=by exact rfl) (hy:ev sL y=some (k,q):=by exact rfl) (hk:kok kd k kv:=by first|exact J5 _ _|exact TK _ _|exact TJ _ _|assumption):YE P (⟨sL,hP⟩:St) o (· = .tuple [(YP kv k).getD z, .bool (YP kv k).isSome].toArray) (.tup [.val ((YP kv k).getD z), .val (.bool (YP kv k).isSome)]):=
 Zal hT ho hx hy hk
theorem R4 {t ks e:Nat} {kd:TypeDesc} {z:Value} {x y:Operand} {m k:Value} {kv:List (Value×Value)} {p q:PV} (l:Nat) (hT:MpT P t ks e kd z) (ho:o.op= .lookup t x y true:=by exact rfl) (hx:ev sL x=some (m,p):=by exact rfl) (hl:lk hP l=some (m, .omap kv):=by exact rfl) (hy:ev sL y=some (k,q):=by exact rfl) (hk:kok kd k kv:=by first|exact J5 _ _|exact TK _ _|exact TJ _ _|assumption):YE P (⟨sL,hP⟩:St) o (· = .tuple [(YP kv k).getD z, .bool (YP kv k).isSome].toArray) (.tup [.val ((YP kv k).getD z), .val (.bool (YP kv k).isSome)]):=
 Zan l hT ho hx hl hy hk
theorem Ll {t ks e:Nat} {kd:TypeDesc} {z u:Value} {x y:Operand} {m k:Value} {kv:List (Value×Value)} {p q:PV} (l:Nat) (hT:MpT P t ks e kd z) (ho:o.op= .lookup t x y false:=by exact rfl) (hx:ev sL x=some (m,p):=by exact rfl) (hl:lk hP l=some (m, .omap kv):=by exact rfl) (hy:ev sL y=some (k,q):=by exact rfl) (hk:kok kd k kv:=by first|exact J5 _ _|exact TK _ _|exact TJ _ _|assumption) (hu:(YP kv k).getD z=u:=by assumption):YE P (⟨sL,hP⟩:St) o (· =u) (.val u):=
 Zao l hT ho hx hl hy hk hu
theorem Zce {t:TypeId} {x:Operand} {v:Value} {p:PV} (d:Nat) (k:∀h:Value,aL P c ops Q rest ⟨put d (ZH (Zs h) 0, .val (ZH (Zs h) 0)) sL,put d (h, .own t 1 1 [p]) hP⟩) (hw:ZK ops sL o=some true:=by exact rfl) (hd:o.dst=some d:=by exact rfl) (hn:d<c.nt:=by exact Xa rfl) (ho:o.op= .box t x:=by exact rfl) (hx:ev sL x=some (v,p):=by exact rfl) (h1:one p=true:=by first|exact rfl|assumption) (hl:lk hP d=none:=by exact rfl):aL P c ops Q (o::rest) (⟨sL,hP⟩:St):=
 ZdC d hw hd hn ho hx h1 hl k
theorem Yr {t:TypeId} {x:Operand} {v:Value} {ps:List PV} (d:Nat) (m:Nat) (k:∀h:Value,aL P c ops Q rest ⟨put d (ZH (Zs h) 0, .val (ZH (Zs h) 0)) sL,put d (h, .own t m 1 ps) hP⟩) (hw:ZK ops sL o=some true:=by exact rfl) (hd:o.dst=some d:=by exact rfl) (hn:d<c.nt:=by exact Xa rfl) (ho:o.op= .box t x:=by exact rfl) (hx:ev sL x=some (v, .agg ps):=by exact rfl) (hm:ps.length=m:=by exact rfl) (hl:lk hP d=none:=by exact rfl):aL P c ops Q (o::rest) (⟨sL,hP⟩:St):=
 ZdD d m hw hd hn ho hx hm hl k
theorem ZV {t:TypeId} {z:Value} (zs:List Value) (m:Nat) (d:Nat) (hz:ZeroT P t z) (k:∀h:Value,aL P c ops Q rest ⟨put d (ZH (Zs h) 0, .val (ZH (Zs h) 0)) sL,put d (h, .own t m 1 (zs.map .val)) hP⟩) (hw:ZK ops sL o=some true:=by exact rfl) (hd:o.dst=some d:=by exact rfl) (hn:d<c.nt:=by exact Xa rfl) (ho:o.op= .alloc t:=by exact rfl) (hzs:z.cells=zs.toArray:=by exact rfl) (hm:zs.length=m:=by exact rfl) (hl:lk hP d=none:=by exact rfl):aL P c ops Q (o::rest) (⟨sL,hP⟩:St):=
 Zb1 zs m d hw hd hn ho hz hzs hm hl k
theorem Ky {t e bytes:Nat} {z:Value} {x y:Operand} {n:Nat} {q q':PV} (d:Nat) (hT:ElT P t e 1 bytes z) (k:∀h:Value,h.oneCell'=true→aL P c ops Q rest ⟨put d (h, .val h) sL,put d (h, .own e 1 n (List.replicate n (.val z))) hP⟩) (hw:ZK ops sL o=some true:=by exact rfl) (hd:o.dst=some d:=by exact rfl) (hn:d<c.nt:=by exact Xa rfl) (ho:o.op= .makeSlice t x y:=by exact rfl) (hx:ev sL x=some (.int .i64 n,q):=by exact rfl) (hy:ev sL y=some (.int .i64 n,q'):=by exact rfl) (hl:lk hP d=none:=by exact rfl) (hb:bytes*n≤281474976710656:=by first|omega|exact Xa rfl|(simp only [Xi,Xr,Xc,Xj,Xe,Xw,Xo,Xq,Xz];omega)) (hn2:n≤9223372036854775807:=by first|omega|exact Xa rfl|(simp only [Xi,Xr,Xc,Xj,Xe,Xw,Xo,Xq,Xz];omega)) (hz1:z.oneCell'=true:=by exact rfl):aL P c ops Q (o::rest) (⟨sL,hP⟩:St):=
 ZdE d hT hw hd hn ho hx hy hl hb hn2 hz1 k
theorem ZdP {t e kk bytes:Nat} {z:Value} {x y:Operand} {n:Nat} {q q':PV} (zs:List Value) (d:Nat) (hT:ElT P t e kk bytes z) (k:∀h:Value,h.oneCell'=true→aL P c ops Q rest ⟨put d (h, .val h) sL,put d (h, .own e kk n ((List.replicate n (zs.map PV.val)).flatten)) hP⟩) (hzs:z.cells=zs.toArray:=by exact rfl) (hw:ZK ops sL o=some true:=by exact rfl) (hd:o.dst=some d:=by exact rfl) (hn:d<c.nt:=by exact Xa rfl) (ho:o.op= .makeSlice t x y:=by exact rfl) (hx:ev sL x=some (.int .i64 n,q):=by exact rfl) (hy:ev sL y=some (.int .i64 n,q'):=by exact rfl) (hl:lk hP d=none:=by exact rfl) (hb:bytes*n≤281474976710656:=by first|omega|exact Xa rfl|(simp only [Xi,Xr,Xc,Xj,Xe,Xw,Xo,Xq,Xz];omega)) (hn2:n≤9223372036854775807:=by first|omega|exact Xa rfl|(simp only [Xi,Xr,Xc,Xj,Xe,Xw,Xo,Xq,Xz];omega)):aL P c ops Q (o::rest) (⟨sL,hP⟩:St):=
 Zcb zs d hT hzs hw hd hn ho hx hy hl hb hn2 k
theorem ZeX {t e kk bytes:Nat} {z:Value} (d:Nat) (hT:ElT P t e kk bytes z) (k:∀h:Value,h.oneCell'=true→aL P c ops Q rest ⟨put d (h, .val h) sL,put d (h, .own e kk 0 []) hP⟩) (hw:ZK ops sL o=some true:=by exact rfl) (hd:o.dst=some d:=by exact rfl) (hn:d<c.nt:=by exact Xa rfl) (ho:o.op= .buildSlice t 0 #[]:=by exact rfl) (hl:lk hP d=none:=by exact rfl):aL P c ops Q (o::rest) (⟨sL,hP⟩:St):=
 ZdF d hT hw hd hn ho hl k
theorem WF {t e kk bytes:Nat} {z:Value} {x:Operand} {v:Value} {p:PV} (d:Nat) (hT:ElT P t e 1 bytes z) (k:∀h:Value,h.oneCell'=true→aL P c ops Q rest ⟨put d (h, .val h) sL,put d (h, .own e 1 1 [p]) hP⟩) (hw:ZK ops sL o=some true:=by exact rfl) (hd:o.dst=some d:=by exact rfl) (hn:d<c.nt:=by exact Xa rfl) (ho:o.op= .buildSlice t 1 #[(0,x)]:=by exact rfl) (hx:ev sL x=some (v,p):=by exact rfl) (h10:one p=true:=by first|exact rfl|assumption) (hl:lk hP d=none:=by exact rfl):aL P c ops Q (o::rest) (⟨sL,hP⟩:St):=
 Rz (kk:=1) d hT hw hd hn ho hx h10 hl k
theorem LQ {t e kk bytes:Nat} {z:Value} {x:Operand} {v:Value} {ps:List PV} (d:Nat) (hT:ElT P t e kk bytes z) (k:∀h:Value,h.oneCell'=true→aL P c ops Q rest ⟨put d (h, .val h) sL,put d (h, .own e kk 1 ps) hP⟩) (hw:ZK ops sL o=some true:=by exact rfl) (hd:o.dst=some d:=by exact rfl) (hn:d<c.nt:=by exact Xa rfl) (ho:o.op= .buildSlice t 1 #[(0,x)]:=by exact rfl) (hx:ev sL x=some (v, .agg ps):=by exact rfl) (hps:ps.length=kk:=by exact rfl) (hkb:kk≤1000:=by decide) (hl:lk hP d=none:=by exact rfl):aL P c ops Q (o::rest) (⟨sL,hP⟩:St):=
 Ty d hT hw hd hn ho hx hps hkb hl k
theorem E' {t e bytes m:Nat} {z:Value} {xs:List Operand} {parts:Array (Nat×Operand)} {es:List Ent} (d:Nat) (hT:ElT P t e 1 bytes z) (k:∀h:Value,h.oneCell'=true→aL P c ops Q rest ⟨put d (h, .val h) sL,put d (h, .own e 1 m (es.map (·.2))) hP⟩) (hw:ZK ops sL o=some true:=by exact rfl) (hd:o.dst=some d:=by exact rfl) (hn:d<c.nt:=by exact Xa rfl) (ho:o.op= .buildSlice t m parts:=by exact rfl) (hpt:parts=((xs.zipIdx).map fun x=>(x.2,x.1)).toArray:=by exact rfl) (hx:evL sL xs=some es:=by exact rfl) (h1:es.all (fun x=>one x.2)=true:=by exact rfl) (hm:es.length=m:=by exact rfl) (hm0:0<m:=by decide) (hm1:m≤1000:=by decide) (hl:lk hP d=none:=by exact rfl):aL P c ops Q (o::rest) (⟨sL,hP⟩:St):=
 Tz d hT hw hd hn ho hpt hx h1 hm hm0 hm1 hl k
theorem Rs {t j e kk n:Nat} {x y:Operand} {h v:Value} {q p:PV} {cs:List PV} (l:Nat) (hT:NoAgg P t=true) (hsz:(P.info? t).map (·.size)=some 1) (k:aL P c ops Q rest ⟨sL,put l (h, .own e kk n (cs.set j p)) hP⟩) (hw:ZK ops sL o=some true:=by exact rfl) (hd:o.dst=none:=by exact rfl) (ho:o.op= .store t x y:=by exact rfl) (hx:ev sL x=some (ZH (Zs h) j,q):=by exact rfl) (hy:ev sL y=some (v,p):=by exact rfl) (h1:one p=true:=by first|exact rfl|assumption) (hl:lk hP l=some (h, .own e kk n cs):=by exact rfl) (hj:j<cs.length:=by first|omega|exact Xa rfl|(simp only [Xi,Xr,Xc,Xj,Xe,Xw,Xo,Xq,Xz];omega)):aL P c ops Q (o::rest) (⟨sL,hP⟩:St):=
 EZ l hw hd hT hsz ho hx hy h1 hl hj k
theorem ZfG {t j e kk n:Nat} {x y:Operand} {h v:Value} {q p:PV} {cs:List PV} (l:Nat) (i:Nat) (hT:NoAgg P t=true) (hsz:(P.info? t).map (·.size)=some 1) (k:aL P c ops Q rest ⟨sL,put l (h, .own e kk n (cs.set i p)) hP⟩) (hw:ZK ops sL o=some true:=by exact rfl) (hd:o.dst=none:=by exact rfl) (ho:o.op= .store t x y:=by exact rfl) (hx:ev sL x=some (ZH (Zs h) j,q):=by exact rfl) (hy:ev sL y=some (v,p):=by exact rfl) (h1:one p=true:=by first|exact rfl|assumption) (hl:lk hP l=some (h, .own e kk n cs):=by exact rfl) (hji:j=i:=by first|omega|exact Xa rfl|(simp only [Xi,Xr,Xc,Xj,Xe,Xw,Xo,Xq,Xz];omega)) (hj:i<cs.length:=by first|omega|exact Xa rfl|(simp only [Xi,Xr,Xc,Xj,Xe,Xw,Xo,Xq,Xz];omega)):aL P c ops Q (o::rest) (⟨sL,hP⟩:St):=
 Kr l i hw hd hT hsz ho hx hy h1 hl hji hj k
theorem YN {t j e kk n m:Nat} {x y:Operand} {h V:Value} {q:PV} {ps cs:List PV} (l:Nat) (hT:AggT P t m=true) (k:aL P c ops Q rest ⟨sL,put l (h, .own e kk n (Jo cs j ps)) hP⟩) (hw:ZK ops sL o=some true:=by exact rfl) (hd:o.dst=none:=by exact rfl) (ho:o.op= .store t x y:=by exact rfl) (hx:ev sL x=some (ZH (Zs h) j,q):=by exact rfl) (hy:ev sL y=some (V, .agg ps):=by exact rfl) (hm:ps.length=m:=by exact rfl) (h1:ps.all one=true:=by first|exact rfl|(simp only [V7,List.all_nil,V8,Xd];(repeat (first|refine ⟨?_,?_⟩|rfl|assumption)))) (hl:lk hP l=some (h, .own e kk n cs):=by exact rfl) (hj:j+m≤cs.length:=by first|omega|exact Xa rfl|(simp only [Xi,Xr,Xc,Xj,Xe,Xw,Xo,Xq,Xz];omega)) (hm0:0<m:=by decide):aL P c ops Q (o::rest) (⟨sL,hP⟩:St):=
 ZeT l hw hd hT ho hx hy hm h1 hl hj hm0 k
theorem GR {t:Nat} (d:Nat) (k:∀m:Value,m.oneCell'=true→aL P c ops Q rest ⟨put d (m, .val m) sL,put d (m, .omap []) hP⟩) (hw:ZK ops sL o=some true:=by exact rfl) (hd:o.dst=some d:=by exact rfl) (hn:d<c.nt:=by exact Xa rfl) (ho:o.op= .makeMap t none:=by exact rfl) (hl:lk hP d=none:=by exact rfl):aL P c ops Q (o::rest) (⟨sL,hP⟩:St):=
 Zb8 d hw hd hn ho hl k
theorem Lm {t ks e:Nat} {kd:TypeDesc} {z:Value} {x y u:Operand} {m k v:Value} {kv:List (Value×Value)} {p q r:PV} (l:Nat) (hT:MpT P t ks e kd z) (kk:aL P c ops Q rest ⟨sL,put l (m, .omap (GN kv k v)) hP⟩) (hw:ZK ops sL o=some true:=by exact rfl) (hd:o.dst=none:=by exact rfl) (ho:o.op= .mapUpdate t x y u:=by exact rfl) (hx:ev sL x=some (m,p):=by exact rfl) (hl:lk hP l=some (m, .omap kv):=by exact rfl) (hy:ev sL y=some (k,q):=by exact rfl) (hu:ev sL u=some (v,r):=by exact rfl) (hk:kok kd k kv:=by first|exact J5 _ _|exact TK _ _|exact TJ _ _|assumption) (hbits:bits k=true:=by exact rfl):aL P c ops Q (o::rest) (⟨sL,hP⟩:St):=
 ZdM l hw hd hT ho hx hl hy hu hk hbits kk
theorem Km {t ty e kk bytes n m:Nat} {z:Value} {x y:Operand} {h h2:Value} {q q2:PV} {cs cs2:List PV} (l:Nat) (l2:Nat) (d:Nat) (hT:ElT P t e kk bytes z) (k:∀h':Value,h'.oneCell'=true→aL P c ops Q rest ⟨put d (h', .val h') sL,put d (h', .own e kk (n+m) (cs++cs2)) (del l2 (del l hP))⟩) (hw:ZK ops sL o=some true:=by exact rfl) (hd:o.dst=some d:=by exact rfl) (hn:d<c.nt:=by exact Xa rfl) (hty:o.type=ty:=by exact rfl) (ho:o.op= .call {callee:= .builtin .append,args:= #[x,y],argTypes:= #[t,t]}:=by exact rfl) (hx:ev sL x=some (h,q):=by exact rfl) (hy:ev sL y=some (h2,q2):=by exact rfl) (hll:Nat.beq l l2=false:=by exact rfl) (hl:lk hP l=some (h, .own e kk n cs):=by exact rfl) (hl2:lk hP l2=some (h2, .own e kk m cs2):=by exact rfl) (hdl:lk (del l2 (del l hP)) d=none:=by exact rfl) (hm:0<m:=by decide) (hok:cs2.all W2=true:=by first|exact rfl|(simp only [V7,List.all_nil,V8,Xd];(repeat (first|refine ⟨?_,?_⟩|rfl|assumption)))) (hlen:n+m≤9223372036854775807:=by first|omega|exact Xa rfl|(simp only [Xi,Xr,Xc,Xj,Xe,Xw,Xo,Xq,Xz];omega)) (hb:(n+m)*bytes≤140737488355328:=by first|omega|exact Xa rfl|(simp only [Xi,Xr,Xc,Xj,Xe,Xw,Xo,Xq,Xz];omega)) (hdr:¬c.dr:=by exact id):aL P c ops Q (o::rest) (⟨sL,hP⟩:St):=
 Zai l l2 d hT hw hd hn hty ho hx hy hll hl hl2 hdl hm hok hlen hb hdr k
theorem bLd {l:List Oper} (t:Nat) {p:Prop} {_:Decidable p} {q:PV} (ht:p→aL P c ops Q l ⟨put t (.bool true, .val (.bool true)) sL,hP⟩) (hf:¬p→aL P c ops Q l ⟨put t (.bool false, .val (.bool false)) sL,hP⟩) (hx:lk sL t=some (.bool (decide p),q):=by exact rfl):aL P c ops Q l (⟨sL,hP⟩:St):=
 Hm t hx (fun h=>ht (UC h)) (fun h=>hf (UD h))
theorem bDd (t:Nat) {p:Prop} {_:Decidable p} {q:PV} (ht:p→aD P c ops Q Z K fuel listed ⟨put t (.bool true, .val (.bool true)) sL,hP⟩) (hf:¬p→aD P c ops Q Z K fuel listed ⟨put t (.bool false, .val (.bool false)) sL,hP⟩) (hx:lk sL t=some (.bool (decide p),q):=by exact rfl):aD P c ops Q Z K fuel listed (⟨sL,hP⟩:St):=
 Hy t hx (fun h=>ht (UC h)) (fun h=>hf (UD h))
theorem cC {x:Operand} {t e:Code} {b:Bool} {q:PV} (ht:b=true→aC P c t Q (⟨sL,hP⟩:St)) (hf:b=false→aC P c e Q (⟨sL,hP⟩:St)) (hx:ev sL x=some (.bool b,q):=by exact rfl):aC P c (.cond x t e) Q (⟨sL,hP⟩:St):=ZM hx ht hf
theorem cCd {x:Operand} {t e:Code} {p:Prop} {_:Decidable p} {q:PV} (ht:p→aC P c t Q (⟨sL,hP⟩:St)) (hf:¬p→aC P c e Q (⟨sL,hP⟩:St)) (hx:ev sL x=some (.bool (decide p),q):=by exact rfl):aC P c (.cond x t e) Q (⟨sL,hP⟩:St):=ZM hx (fun h=>ht (UC h)) (fun h=>hf (UD h))
theorem cX {A B C:Prop} (h1:B) (h2:C) (e:B→C→A:=by intro h1 h2;first|exact cCd h1 h2|exact cC h1 h2):A:=e h1 h2
theorem cCt {x:Operand} {t e:Code} {q:PV} (ht:aC P c t Q (⟨sL,hP⟩:St)) (hx:ev sL x=some (.bool true,q):=by exact rfl):aC P c (.cond x t e) Q (⟨sL,hP⟩:St):=ZM hx (fun _=>ht) (fun h=>Bool.noConfusion h)
theorem cCf {x:Operand} {t e:Code} {q:PV} (hf:aC P c e Q (⟨sL,hP⟩:St)) (hx:ev sL x=some (.bool false,q):=by exact rfl):aC P c (.cond x t e) Q (⟨sL,hP⟩:St):=ZM hx (fun h=>Bool.noConfusion h) (fun _=>hf)
theorem Zf0 {vs:List Value} (h:vs.length=6):∃x y z u v w,vs=[x,y,z,u,v,w]:=by
 match vs,h with
 |[x,y,z,u,v,w],_=>exact ⟨x,y,z,u,v,w,rfl⟩
theorem cA {dd:Prop} {f:Nat} {xs:Array Operand} {ats:Array TypeId} {es:List Ent} {ps:List PV} {R:PV→Prop} (hc:∀args w,(callFunc f args).run P w= .ok (.enter f args) w) (hA:AFd dd P f ps R) (ho:o.op= .call {callee:= .value (.func f),args:=xs,argTypes:=ats}:=by exact rfl) (hx:evL sL xs.toList=some es:=by exact rfl) (hps:es.map (·.2)=ps:=by exact rfl) (hdd:c.dr→dd:=by first|exact id|exact fun h=>h.elim|exact fun _=>trivial):Jl P c (⟨sL,hP⟩:St) o R:=
 JJ ho hc hx (hps▸hA) hdd
theorem cS {p:PV} (d:Nat) (hC:Jl P c (⟨sL,hP⟩:St) o (· =p)) (k:∀v,vOf p v→aL P c ops Q rest ⟨put d (v,p) sL,hP⟩) (hsh:KM p=true:=by exact rfl) (hw:ZK ops sL o=some true:=by exact rfl) (hd:o.dst=some d:=by exact rfl) (hn:d<c.nt:=by exact Xa rfl):aL P c ops Q (o::rest) (⟨sL,hP⟩:St):=
 TF d hw hd hn hC fun p' hp=>by subst hp;exact ⟨hsh,k⟩
theorem cO {p:PV} (d:Nat) (hC:Jl P c (⟨sL,hP⟩:St) o (· =p)) (k:∀v,v.oneCell'=true→aL P c ops Q rest ⟨put d (v, .val v) sL,put d (v,p) hP⟩) (hok:W2 p=true:=by exact rfl) (hl:lk hP d=none:=by exact rfl) (hw:ZK ops sL o=some true:=by exact rfl) (hd:o.dst=some d:=by exact rfl) (hn:d<c.nt:=by exact Xa rfl):aL P c ops Q (o::rest) (⟨sL,hP⟩:St):=
 JK d hw hd hn hl hC fun p' hp=>by subst hp;exact ⟨hok,k⟩
theorem cT {p1 p2:PV} (d l1 l2:Nat) (hC:Jl P c (⟨sL,hP⟩:St) o (· = .tup [p1,p2])) (k:∀v1 v2,vOf p1 v1→vOf p2 v2→v1.oneCell'=true→v2.oneCell'=true→aL P c ops Q rest ⟨put d (.tuple [v1,v2].toArray, .tup [qq p1 v1,qq p2 v2]) sL,GG l1 v1 p1 (GG l2 v2 p2 hP)⟩) (hok1:W2 p1=true:=by exact rfl) (hok2:W2 p2=true:=by exact rfl) (hl1:lk hP l1=none:=by exact rfl) (hl2:lk hP l2=none:=by exact rfl) (hll:Nat.beq l1 l2=false:=by exact rfl) (hw:ZK ops sL o=some true:=by exact rfl) (hd:o.dst=some d:=by exact rfl) (hn:d<c.nt:=by exact Xa rfl):aL P c ops Q (o::rest) (⟨sL,hP⟩:St):=
 TG d l1 l2 hw hd hn hl1 hl2 hll hC fun p' hp=>⟨p1,p2,hp,hok1,hok2,k⟩
end
mutual
def shD:PV→Bool
 | .val _=>true
 | .sl _ _=>true
 | .sptr _ _=>true
 | .smap _=>true
 | .own _ _ _ _=>false
 | .omap _=>false
 | .obox _ _ _=>false
 | .agg ps=>Zau ps
 | .tup ps=>Zau ps
 | .fn _ _=>true
 | .oblk _ _ _ _=>false
def Zau:List PV→Bool
 |[]=>true
 |p::l=>shD p&&Zau l
end
theorem R5:∀l:List PV,Zau l=l.all shD
 |[]=>by simp [Zau]
 |p::l=>by simp [Zau,R5 l]
theorem Tr.shD {M:BS} {w:World} {v:Value} {p:PV} {F:BS} (h:Tr M w v p F):En.shD p=true→Shr M w v p:=by
 induction h with
 |shr h _=>exact fun _=>h
 |own=>intro h;rw [En.shD] at h;cases h
 |omap=>intro h;rw [En.shD] at h;cases h
 |oblk=>intro h;rw [En.shD] at h;cases h
 |obox=>intro h;rw [En.shD] at h;cases h
 | @agg ps F vs Fs hl h hd hF ih=>
   intro hs;rw [En.shD,R5] at hs;exact .agg vs ps hl fun i v p hv hp=>ih i v p hv hp (Xf.1 hs p (Xb hp))
 | @tup ps F vs Fs hl h hd hF ih=>
   intro hs;rw [En.shD,R5] at hs;exact .tup vs ps hl fun i v p hv hp=>ih i v p hv hp (Xf.1 hs p (Xb hp))
section
variable {P:Program} {c:Ctx} {ops:Array Oper} {Q:Exit→Act→World→Prop} {rest:List Oper} {st:St} {sL hP:List (Nat×Ent)} {o:Oper} {Z:Nat→Bool} {K:List Nat} {fuel:Nat} {listed:Array Bool}
theorem Tr.fam {M:BS} {w:World} {Hs:List Value} {ps:List PV} {F:BS} (h:Tr M w (.agg Hs.toArray) (.agg ps) F):∃Fs:Nat→BS,Hs.length=ps.length∧(∀(i:Nat) (v:Value) (p:PV),Hs[i]? =some v→ps[i]? =some p→Tr M w v p (Fs i))∧
 (∀i j b,i<ps.length→j<ps.length→i≠j→Fs i b→¬Fs j b)∧(∀b,F b↔∃i,i<ps.length∧Fs i b):=by
 generalize hv:Value.agg Hs.toArray=v at h
 generalize hq:PV.agg ps=q at h
 cases h with
 | shr h hF=>
   cases h with
   | agg vs ps' hl h=>
     cases hq;(have:vs=Hs:=by injection hv with hv;simpa using hv.symm);subst this;exact ⟨fun _ _=>False,hl,fun i v p h1 h2=> .shr (h i v p h1 h2) (fun _ h=>h),fun _ _ _ _ _ _ h=>h.elim,fun b=>⟨fun h=>(hF b h).elim,fun ⟨_,_,h⟩=>h.elim⟩⟩
   |_=>cases hq
 | agg vs Fs hl h hd hF=>
   cases hq;have:vs=Hs:=by injection hv with hv;simpa using hv.symm
   subst this;exact ⟨Fs,hl,h,hd,hF⟩
 |_=>cases hq
theorem Zcf {l e n:Nat} {h:Value} {cs:List PV} (l':Nat) (hl:lk hP l=some (h, .own e 1 n cs)) (hl':lk hP l'=none):
 Ge (⟨sL,hP⟩:St) (fun Hs:{Hs:List Value//Hs.length=cs.length}=>⟨sL,put l' (.agg Hs.1.toArray, .agg cs) (put l (h, .own e 1 n (Hs.1.map .val)) hP)⟩):=fun c a w ⟨F,H⟩=>by
 have hne:l'≠l:=fun e=>by subst e;rw [hl] at hl';cases hl'
 have hTr:=H.tr l _ _ hl
 obtain ⟨xs,Fs,hrow,hlen,hT,hd,hb,hF⟩:=hTr.row
 refine ⟨⟨xs,hlen.symm⟩,fun x=>if x=l' then (fun b=>∃i,i<cs.length∧Fs i b) else if x=l then (fun b=>h.ownBlock=some b) else F x,?_⟩
 refine H.retell (fun x=>x=l∨x=l') (fun x y hnT hx=>?_) (fun x y b hTx hx hb'=>?_) (fun hmm x u q hTx hx=>?_) (fun x1 x2 y1 y2 b h1 h2 hne' hx1 hx2 hb1 hb2=>?_)
 · have n1:x≠l:=fun e=>hnT (.inl e);have n2:x≠l':=fun e=>hnT (.inr e);rw [ZU (Ne.symm n2),ZU (Ne.symm n1)] at hx;exact ⟨hx,by simp [n1,n2]⟩
 · refine ⟨l,_, .inl rfl,hl,?_⟩;rcases hTx with rfl|rfl
   · simp only [Ne.symm hne,if_false,if_true] at hb';exact (hF b).2 (.inl hb')
   · simp only [if_true] at hb';obtain ⟨i,hi,h1⟩:=hb';exact (hF b).2 (.inr ⟨i,hi,h1⟩)
 · rcases hTx with rfl|rfl
   · rw [ZU hne,ZD] at hx
     cases hx;simp only [Ne.symm hne,if_false,if_true];refine .own xs (fun _ _=>False) hrow sM (fun i x q hx9 hq=>?_) (fun _ _ _ _ _ _ h=>h.elim) (fun _ _ _ h=>h.elim) (fun b=>⟨fun h=> .inl h,fun h=>h.elim id fun ⟨_,_,h⟩=>h.elim⟩);rw [Xl,hx9] at hq
     cases hq;exact .shr (.val _) (fun _ h=>h)
   · rw [ZD] at hx
     cases hx;simp only [if_true];exact .agg xs Fs hlen.symm (fun i v p h1 h2=>(hT i v p h1 h2).anti hmm) hd (fun b=>Iff.rfl)
 · rcases h1 with rfl|rfl
   · rcases h2 with rfl|rfl
     · exact hne' rfl
     · simp only [Ne.symm hne,if_false,if_true] at hb1 hb2;obtain ⟨i,hi,h3⟩:=hb2;exact hb i b hi h3 hb1
   · rcases h2 with rfl|rfl
     · simp only [Ne.symm hne,if_false,if_true] at hb1 hb2;obtain ⟨i,hi,h3⟩:=hb1;exact hb i b hi h3 hb2
     · exact hne' rfl
theorem Zcg {l l' e k n:Nat} {h:Value} {cs0 cs:List PV} {Hs:List Value} (hl:lk hP l=some (h, .own e k n cs0)) (hl':lk hP l'=some (.agg Hs.toArray, .agg cs)) (hcs:cs0=Hs.map .val) (hne0:Nat.beq l l'=false):
 Ge (⟨sL,hP⟩:St) (fun _:Unit=>⟨sL,put l (h, .own e k n cs) (del l' hP)⟩):=fun c a w ⟨F,H⟩=>by
 have hne:l≠l':=fun e=>by subst e;simp at hne0
 have hTr:=H.tr l _ _ hl
 have hTr':=H.tr l' _ _ hl'
 obtain ⟨xs,Fs,hrow,hlen,hT,hd,hb,hF⟩:=hTr.row
 obtain ⟨Gs,hlen',hT',hd',hF'⟩:=hTr'.fam
 have hx:xs=Hs:=by
  apply VI;intro i;rcases XY i xs.length with hi|hi
  · obtain ⟨x,hx⟩:=Z6 hi;obtain ⟨p,hp⟩:=Yh hx hlen.symm;have h1:=hp;rw [hcs,Xl,XQ] at h1;obtain ⟨y,hy,rfl⟩:=h1;have:x=y:=((hT i x _ hx hp).sh rfl).vOf;rw [hx,hy,this]
  · rw [X8 hi,X8 (by rw [←hlen,hcs,Xc] at hi;exact hi)]
 subst hx
 refine ⟨(),fun x=>if x=l then (fun b=>F l b∨F l' b) else F x,?_⟩
 refine H.retell (fun x=>x=l∨x=l') (fun x y hnT hx=>?_) (fun x y b hTx hx hb'=>?_) (fun hmm x u q hTx hx=>?_) (fun x1 x2 y1 y2 b h1 h2 hne' hx1 hx2 hb1 hb2=>?_)
 · have n1:x≠l:=fun e=>hnT (.inl e);rw [ZU (Ne.symm n1)] at hx;exact ⟨(Ym hx).2,by simp [n1]⟩
 · rcases Z0 hx with ⟨rfl,_⟩|⟨n1,hx2⟩
   · simp only [if_true] at hb';rcases hb' with h1|h1
     · exact ⟨l,_, .inl rfl,hl,h1⟩
     · exact ⟨l',_, .inr rfl,hl',h1⟩
   · rcases hTx with e1|e1
     · exact UB e1.symm n1
     · exact UB e1.symm (Ym hx2).1
 · rcases Z0 hx with ⟨rfl,e1⟩|⟨n1,hx2⟩
   · cases e1;simp only [if_true];refine .own xs Gs hrow hlen'.symm (fun i v p h1 h2=>(hT' i v p h1 h2).anti hmm) hd' (fun i b hi h1 h2=>?_) (fun b=>?_)
     · exact H.dj l l' _ _ b hne hl hl' ((hF b).2 (.inl h2)) ((hF' b).2 ⟨i,hi,h1⟩)
     · have hnone:∀i,i<cs0.length→∀b,F l b→Fs i b→h.ownBlock=some b∨∃i,i<cs.length∧Gs i b:=fun i hi b _ hFs=>by
        obtain ⟨p,hp⟩:=Z6 hi;obtain ⟨x,hx9⟩:=Yh hp hlen;have h3:=hT i x p hx9 hp;rw [hcs,Xl,XQ] at hp;obtain ⟨y,_,rfl⟩:=hp
        cases h3 with
        |shr _ hn=>exact (hn b hFs).elim
       constructor
       · rintro (h1|h1)
         · rcases (hF b).1 h1 with h2|⟨i,hi,h2⟩
           · exact .inl h2
           · exact hnone i hi b h1 h2
         · exact .inr ((hF' b).1 h1)
       · rintro (h1|h1)
         · exact .inl ((hF b).2 (.inl h1))
         · exact .inr ((hF' b).2 h1)
   · rcases hTx with e1|e1
     · exact UB e1.symm n1
     · exact UB e1.symm (Ym hx2).1
 · have key:∀x y,(x=l∨x=l')→lk (put l (h,PV.own e k n cs) (del l' hP)) x=some y→x=l:=fun x y h3 h4=>by
    rcases h3 with h3|h3
    · exact h3
    · rcases Z0 h4 with ⟨e1,_⟩|⟨_,e1⟩
      · exact e1.symm
      · exact UB h3.symm (Ym e1).1
   exact hne' ((key _ _ h1 hx1).trans (key _ _ h2 hx2).symm)
theorem ζf {l i:Nat} {Hs:List Value} {ps:List PV} {v:Value} {p:PV} (l':Nat) (hl:lk hP l=some (.agg Hs.toArray, .agg ps)) (hv:Hs[i]? =some v) (hp:ps[i]? =some p) (hl':lk hP l'=none):
 Ge (⟨sL,hP⟩:St) (fun _:Unit=>⟨sL,put l' (v,p) (put l (.agg Hs.toArray, .agg (ps.set i (.val v))) hP)⟩):=fun c a w ⟨F,H⟩=>by
 have hne:l'≠l:=fun e=>by subst e;rw [hl] at hl';cases hl'
 have hTr:=H.tr l _ _ hl
 obtain ⟨Fs,hlen,hT,hd,hF⟩:=hTr.fam
 have hj:=Ze hp
 refine ⟨(),fun x=>if x=l' then Fs i else if x=l then (fun b=>∃j,j<ps.length∧j≠i∧Fs j b) else F x,?_⟩
 refine H.retell (fun x=>x=l∨x=l') (fun x y hnT hx=>?_) (fun x y b hTx hx hb'=>?_) (fun hmm x u q hTx hx=>?_) (fun x1 x2 y1 y2 b h1 h2 hne' hx1 hx2 hb1 hb2=>?_)
 · have n1:x≠l:=fun e=>hnT (.inl e);have n2:x≠l':=fun e=>hnT (.inr e);rw [ZU (Ne.symm n2),ZU (Ne.symm n1)] at hx;exact ⟨hx,by simp [n1,n2]⟩
 · refine ⟨l,_, .inl rfl,hl,?_⟩;rcases hTx with rfl|rfl
   · simp only [Ne.symm hne,if_false,if_true] at hb';obtain ⟨j,hj',_,h1⟩:=hb';exact (hF b).2 ⟨j,hj',h1⟩
   · simp only [if_true] at hb';exact (hF b).2 ⟨i,hj,hb'⟩
 · rcases hTx with rfl|rfl
   · rw [ZU hne,ZD] at hx
     cases hx;simp only [Ne.symm hne,if_false,if_true];refine .agg Hs (fun j b=>if j=i then False else Fs j b) (by simpa using hlen) (fun j x q hx9 hq=>?_) (fun j j' b hi hi' hne' h1 h2=>?_) (fun b=>?_)
     · by_cases hij:j=i
       · subst hij;rw [Xp hj] at hq
         cases hq;rw [hv] at hx9;cases hx9;exact .shr (.val _) (fun b h=>by simp at h)
       · rw [X0 (Ne.symm hij)] at hq;simp only [hij,if_false];exact (hT j x q hx9 hq).anti hmm
     · simp only [Xj] at hi hi';split at h1
       · exact h1
       · split at h2
         · exact h2
         · exact hd j j' b hi hi' hne' h1 h2
     · simp only [Xj];constructor
       · rintro ⟨j,hj',hij,h1⟩;exact ⟨j,hj',by simp [hij,h1]⟩
       · rintro ⟨j,hj',h1⟩;split at h1
         · exact h1.elim
         · exact ⟨j,hj',by assumption,h1⟩
   · rw [ZD] at hx
     cases hx;simp only [if_true];exact (hT i _ _ hv hp).anti hmm
 · rcases h1 with rfl|rfl
   · rcases h2 with rfl|rfl
     · exact hne' rfl
     · simp only [Ne.symm hne,if_false,if_true] at hb1 hb2;obtain ⟨j,hj',hij,h3⟩:=hb1;exact hd j i b hj' hj hij h3 hb2
   · rcases h2 with rfl|rfl
     · simp only [Ne.symm hne,if_false,if_true] at hb1 hb2;obtain ⟨j,hj',hij,h3⟩:=hb2;exact hd j i b hj' hj hij h3 hb1
     · exact hne' rfl
theorem ζg {l l' i:Nat} {Hs:List Value} {ps:List PV} {v:Value} {p:PV} (hl:lk hP l=some (.agg Hs.toArray, .agg ps)) (hv:Hs[i]? =some v) (hp:ps[i]? =some (.val v)) (hl':lk hP l'=some (v,p)) (hne0:Nat.beq l l'=false):
 Ge (⟨sL,hP⟩:St) (fun _:Unit=>⟨sL,put l (.agg Hs.toArray, .agg (ps.set i p)) (del l' hP)⟩):=fun c a w ⟨F,H⟩=>by
 have hne:l≠l':=fun e=>by subst e;simp at hne0
 have hTr:=H.tr l _ _ hl
 have hTr':=H.tr l' _ _ hl'
 obtain ⟨Fs,hlen,hT,hd,hF⟩:=hTr.fam
 have hj:=Ze hp
 have hFi:∀j b,j<ps.length→Fs j b→F l b:=fun j b hi hb'=>(hF b).2 ⟨j,hi,hb'⟩
 refine ⟨(),fun x=>if x=l then (fun b=>∃j,j<ps.length∧(if j=i then F l' b else Fs j b)) else F x,?_⟩
 refine H.retell (fun x=>x=l∨x=l') (fun x y hnT hx=>?_) (fun x y b hTx hx hb'=>?_) (fun hmm x u q hTx hx=>?_) (fun x1 x2 y1 y2 b h1 h2 hne' hx1 hx2 hb1 hb2=>?_)
 · have n1:x≠l:=fun e=>hnT (.inl e);rw [ZU (Ne.symm n1)] at hx;exact ⟨(Ym hx).2,by simp [n1]⟩
 · rcases Z0 hx with ⟨rfl,_⟩|⟨n1,hx2⟩
   · simp only [if_true] at hb';obtain ⟨j,hj',h1⟩:=hb';split at h1
     · exact ⟨l',_, .inr rfl,hl',h1⟩
     · exact ⟨l,_, .inl rfl,hl,hFi j b hj' h1⟩
   · rcases hTx with e1|e1
     · exact UB e1.symm n1
     · exact UB e1.symm (Ym hx2).1
 · rcases Z0 hx with ⟨rfl,e1⟩|⟨n1,hx2⟩
   · cases e1;simp only [if_true];refine .agg Hs (fun j b=>if j=i then F l' b else Fs j b) (by simpa using hlen) (fun j x q hx9 hq=>?_) (fun j j' b hi hi' hne' h1 h2=>?_) (fun b=>by simp only [Xj])
     · by_cases hij:j=i
       · subst hij;rw [Xp hj] at hq
         cases hq;rw [hv] at hx9;cases hx9;simp only [if_true];exact hTr'.anti hmm
       · rw [X0 (Ne.symm hij)] at hq;simp only [hij,if_false];exact (hT j x q hx9 hq).anti hmm
     · simp only [Xj] at hi hi';split at h1
       · split at h2
         · omega
         · exact H.dj l l' _ _ b hne hl hl' (hFi j' b hi' h2) h1
       · split at h2
         · exact H.dj l l' _ _ b hne hl hl' (hFi j b hi h1) h2
         · exact hd j j' b hi hi' hne' h1 h2
   · rcases hTx with e1|e1
     · exact UB e1.symm n1
     · exact UB e1.symm (Ym hx2).1
 · have key:∀x y,(x=l∨x=l')→lk (put l (Value.agg Hs.toArray,PV.agg (ps.set i p)) (del l' hP)) x=some y→x=l:=fun x y h3 h4=>by
    rcases h3 with h3|h3
    · exact h3
    · rcases Z0 h4 with ⟨e1,_⟩|⟨_,e1⟩
      · exact e1.symm
      · exact UB h3.symm (Ym e1).1
   exact hne' ((key _ _ h1 hx1).trans (key _ _ h2 hx2).symm)
theorem Zch {M:BS} {w:World} {Hs:List Value} {ps:List PV} {F:BS} {i:Nat} {v:Value} {p:PV} (h:Tr M w (.agg Hs.toArray) (.agg ps) F) (hv:Hs[i]? =some v) (hp:ps[i]? =some p):∃G,Tr M w v p G∧∀b,G b→F b:=by
 obtain ⟨Fs,hlen,hT,hd,hF⟩:=h.fam
 exact ⟨Fs i,hT i v p hv hp,fun b hb=>(hF b).2 ⟨i,Ze hp,hb⟩⟩
theorem R6 {t e k e' k' n i:Nat} {x y:Operand} {h:Value} {p q:PV} {Hs:List Value} {ps cs:List PV} {kd:IntKind} {j:Nat} (l:Nat) (hT:SlT P t e k=true) (ho:o.op= .indexAddr t x y:=by exact rfl) (hx:ev st.slots x=some (h,p):=by exact rfl) (hy:ev st.slots y=some (.int kd (j:Int),q):=by exact rfl) (hl:lk st.heap l=some (.agg Hs.toArray, .agg ps):=by exact rfl) (hH:Hs[i]? =some h:=by assumption) (hps:ps[i]? =some (.own e' k' n cs):=by assumption) (h1:j<n:=by first|omega|assumption):
 YE P st o (· =ZH (Zs h) (j*k)) (.val (ZH (Zs h) (j*k))):=
 .exact fun M F a w H=>by
  have hv:=(H.ev hx).1;have hi:=(H.ev hy).1;obtain ⟨G,hG,_⟩:=Zch (H.tr l _ _ hl) hH hps;obtain ⟨g,cap,rfl,_⟩:=Kq hG oM;refine ⟨.val _,?_⟩;have:=Lh (P:=P) hT (b:=g) (off:=0) (n:=n) (c:=cap) (kd:=kd) (i:=(j:Int)) oM oM w;simp [execOp,ho,hv,hi,this,Zs,ZH]
theorem Zci {t e k n i j:Nat} {x:Operand} {h:Value} {q:PV} {Hs:List Value} {ps cs:List PV} {p:PV} (l:Nat) (hT:NoAgg P t=true) (ho:o.op= .load t x:=by exact rfl) (hx:ev st.slots x=some (ZH (Zs h) j,q):=by exact rfl) (hl:lk st.heap l=some (.agg Hs.toArray, .agg ps):=by exact rfl) (hH:Hs[i]? =some h:=by assumption) (hps:ps[i]? =some (.own e k n cs):=by assumption) (hp:cs[j]? =some p:=by assumption) (hsh:KM p=true:=by exact rfl):
 YE P st o (vOf p) p:=fun M F a w H=>by
 have hv:=(H.ev hx).1
 obtain ⟨G,hG,hGF⟩:=Zch (H.tr l _ _ hl) hH hps
 obtain ⟨xs,Fs,hrow,hlen,hTr,hd,hb,hF'⟩:=hG.row
 have hj:=Ze hp
 rcases Y2 hrow with ⟨_,_,rfl⟩|⟨g,cap,rfl,h1,h2,h3⟩
 · simp at hlen;rw [hlen] at hj;simp at hj
 obtain ⟨y,hy⟩:=Yh hp hlen
 have hS:=(hTr j y p hy hp).sh hsh
 refine ⟨y,hS.vOf,hS,fun N W hch hN hF=>?_⟩
 have:=GF hch (hF l _ g hl (hGF g ((hF' g).2 (.inl rfl)))) (WC hrow hy)
 simp only [Zs,ZH,Xy] at hv
 simp [execOp,ho,hv,Instr.loadAt,Instr.sureAddr,loadVar,NoAgg.run hT,load,Sem.run,this]
theorem Yc {x:Operand} {v:Value} {j:Nat} {cs:List PV} (ho:o.op= .nilCheck x:=by exact rfl) (hx:ev st.slots x=some (v, .sptr j cs):=by exact rfl):YE P st o (· =v) (.sptr j cs):=
 .exact fun M F a w H=>by
  obtain ⟨hv,hs⟩:=H.ev hx
  cases hs with
  |sptr b off j cs vs hcell hT'=>exact ⟨.sptr b off j cs vs hcell hT',by simp [execOp,ho,hv]⟩
theorem Gf {x:Operand} {h:Value} {q:PV} {j e k n:Nat} {cs:List PV} (l:Nat) (ho:o.op= .nilCheck x:=by exact rfl) (hx:ev st.slots x=some (ZH (Zs h) j,q):=by exact rfl) (hl:lk st.heap l=some (h, .own e k n cs):=by exact rfl) (hn:0<n:=by first|omega|decide):YE P st o (· =ZH (Zs h) j) (.val (ZH (Zs h) j)):=
 .exact fun M F a w H=>by
  have hv:=(H.ev hx).1;obtain ⟨g,cap,rfl,_⟩:=Kq (H.tr l _ _ hl) hn;refine ⟨.val _,?_⟩;simp only [Zs,ZH] at hv ⊢;simp [execOp,ho,hv]
theorem K' {l t j e k n:Nat} {h:Value} {cs:List PV} {q:PV} (hl:lk hP l=some (h, .own e k n cs)) (hn:0<n) (ht:lk sL t=some (ZH (Zs h) j,q)):Ge (⟨sL,hP⟩:St) (fun _:Unit=>⟨put t (ZH (Zs h) j, .sptr j (Yf cs)) sL,del l hP⟩):=fun c a w ⟨F,H⟩=>by
 refine ⟨(),F,?_⟩
 have hm:∀b,mof c (del l hP) F b→mof c hP F b:=by
  rintro b (h|⟨l',x,h1,h2⟩)
  · exact .inl h
  · exact .inr ⟨l',x,(Ym h1).2,h2⟩
 have H1:HoldsF c ⟨sL,del l hP⟩ F a w:=H.less (fun _ _ h=>h) (fun _ _ h=>(Ym h).2)
 refine ⟨H1.toHeapF,fun s u r hs=>?_,H.size,H.df⟩
 rcases Z0 hs with ⟨rfl,e1⟩|⟨_,hs'⟩
 · cases e1;refine ⟨(H.sl t _ _ ht).1,?_⟩;obtain ⟨g,cap,rfl,_⟩:=Kq (H.tr l _ _ hl) hn;have h2:=(H.tr l _ _ hl).share (M':=mof c (del l hP) F) (fun b _ h=>hm b h) fun b hb hmb=>by
    rcases hmb with h1|⟨l',x,h1,h2⟩
    · exact H.apart h1 hl hb
    · exact H.dj l l' _ _ b (Ym h1).1 hl (Ym h1).2 hb h2
   rw [share] at h2;generalize Yf cs=cs' at h2 ⊢
   cases h2 with
   |emp=>omega
   |sl _ _ _ _ _ vs _ _ hcell hT=>exact .sptr g 0 j cs' vs hcell hT
 · exact H1.sl s u r hs'
theorem R7 {l e k n g cap b off nn cc:Nat} {h:Value} {y:Operand} {cs2:List PV} {a:Act} (hh:h= .slice (some ⟨g,0,none⟩) n cap) (hy:ev sL y=some (.slice (some ⟨b,off,none⟩) nn cc, .sl nn cs2)) (hone:cs2.all one=true) (vs:List Value) (hvl:vs.length=cs2.length):
 ∀ (m i:Nat) (cs:List PV) (w:World) (F:Nat→BS) (hp:List (Nat×Ent)),HoldsF c ⟨sL,hp⟩ F a w→lk hp l=some (h, .own e k n cs)→i+m=cs2.length→i+m≤cs.length→(∀(j:Nat) (v:Value),vs[j]? =some v→w.cell? ⟨b,off+j,none⟩=some v)→
  ∃w' F' hp',(storeCells ⟨g,0,none⟩ (vs.drop i) i).run P w= .ok () w'∧HoldsF c ⟨sL,hp'⟩ F' a w'∧lk hp' l=some (h, .own e k n (Jo cs i (cs2.drop i)))∧∀l',l'≠l→lk hp' l'=lk hp l'
 | 0,i,cs,w,F,hp,H,hl,hi,hj,hcl=>by
   refine ⟨w,F,hp,?_,H,?_,fun _ _=>rfl⟩
   · rw [XI oM];rfl
   · rw [XI (by omega:cs2.length≤i)];exact hl
 | m + 1,i,cs,w,F,hp,H,hl,hi,hj,hcl=>by
   obtain ⟨_,hS⟩:=H.rd.ev hy;have hi':i<cs2.length:=oM;obtain ⟨p,hp'⟩:=Z6 hi';obtain ⟨v,hv⟩:=Yh hp' hvl.symm;have hTr:=H.tr l _ _ hl;obtain ⟨xs,Fs,hrow,hlen,_,_,_,hFF⟩:=hTr.row;have hgM:mof c hp F g:= .inr ⟨l,_,hl,(hFF g).2 (.inl (by subst hh;rfl))⟩;have hSv:Shr (mof c hp F) w v p∧b≠g:=by
    generalize hu:Value.slice (some ⟨b,off,none⟩) nn cc=u at hS
    cases hS with
    |emp=>simp at hi'
    | sl b' off' n' c' cs' vs' hn hc hcell hT=>
      cases hu;have h1:=(hcell i hi').1;rw [hcl i v hv] at h1
      cases h1;exact ⟨hT i p hp',fun e=>(hcell i hi').2 (e▸hgM)⟩
   have h1:one p=true:=Xf.1 hone p (Xb hp');obtain ⟨F1,H1⟩:=LM H hl hh (show i<cs.length by omega) hSv.1;obtain ⟨w',F',hp2,hr,H2,hl2,hsame⟩:=R7 hh hy hone vs hvl m (i+1) (cs.set i p) _ F1 _ H1 (ZD _ _ _) oM (by simp;omega) (fun j u hu=>GF (Chg.setCell w ⟨g,i,none⟩ v) hSv.2 (hcl j u hu));refine ⟨w',F',hp2,?_,H2,?_,fun l' hne=>by rw [hsame l' hne,ZU (Ne.symm hne)]⟩
   · subst hh;obtain ⟨z,hz⟩:=Z6 (show i<xs.length by omega);have hcell:=WC hrow hz;have hfr:=hrow.frozenAt i;rw [Vm (Ze hv),show vs[i]'(Ze hv)=v from (Xh.1 hv).2,storeCells];simp only [Sem.run_bind,run_store _ _ _ _ _ (hSv.1.one h1),Y3,Xy,hcell,hfr,Vu,if_false,Result.andThen_ok];exact hr
   · rw [hl2,Vm hi',show cs2[i]'hi'=p from (Xh.1 hp').2,Jo]
theorem Hz:∀(ps pre suf:List PV),suf.length=ps.length→Jo (pre++suf) pre.length ps=pre++ps
 | [],pre,suf,h=>by
   have:suf=[]:=XC h;subst this;rfl
 |p::ps,pre,[],h=>by simp at h
 | p::ps,pre,q::suf,h=>by
   rw [Jo];have h1:(pre++q::suf).set pre.length p=(pre++[p])++suf:=sM;rw [h1,show pre.length+1=(pre++[p]).length by simp,Hz ps (pre++[p]) suf (by simpa using h)];simp
theorem ld0 (P:Program) (a:Addr) (w:World):(loadCells a 0).run P w= .ok #[] w:=run_loadCells_list (P:=P) (w:=w) a [] (fun j v h=>by simp at h)
theorem ZeY {t e e' n:Nat} {x y:Operand} {h v:Value} {q:PV} {cs cs2:List PV} (l d:Nat) (hT:SlT P t e 1=true) (k:aL P c ops Q rest ⟨put d (.int .i64 n, .val (.int .i64 n)) sL,put l (h, .own e' 1 n cs2) hP⟩)
 (hlen:cs2.length=n) (hone:cs2.all one=true) (hw:ZK ops sL o=some true:=by exact rfl) (hd:o.dst=some d:=by exact rfl) (hn:d<c.nt:=by exact Xa rfl) (ho:o.op= .call {callee:= .builtin .copy,args:= #[x,y],argTypes:= #[t,t]}:=by exact rfl)
 (hx:ev sL x=some (h,q):=by exact rfl) (hy:ev sL y=some (v, .sl n cs2):=by exact rfl) (hl:lk hP l=some (h, .own e' 1 n cs):=by exact rfl):aL P c ops Q (o::rest) (⟨sL,hP⟩:St):=
 YH hw fun a w F H=>by
  have hxv:=(H.rd.ev hx).1;obtain ⟨hyv,hS⟩:=H.rd.ev hy;have hTr:=H.tr l _ _ hl;obtain ⟨xs,Fs,hrow,hlen1,_⟩:=hTr.row;have hcsl:cs.length=n:=by rw [hlen1,hrow.1,XL]
  have fin:∀F' hp' w',HoldsF c ⟨sL,hp'⟩ F' a w'→lk hp' l=some (h, .own e' 1 n cs2)→(∀l',l'≠l→lk hp' l'=lk hP l')→Holds c ⟨put d (.int .i64 n, .val (.int .i64 n)) sL,put l (h, .own e' 1 n cs2) hP⟩ (a.put (some d) (.int .i64 n)) w':=fun F' hp' w' H' hl' hsame=>by
   have H2:HoldsF c ⟨sL,put l (h, .own e' 1 n cs2) hP⟩ F' a w':=H'.less (fun _ _ h=>h) fun t x hx=>?_
   · exact ⟨F',H2.put hn (.val _)⟩
   rcases Z0 hx with ⟨rfl,rfl⟩|⟨hne,e1⟩
   · exact hl'
   · show lk hp' t=_;rw [hsame t (Ne.symm hne)];exact e1
  rcases Y2 hrow with ⟨rfl,rfl,rfl⟩|⟨g,cap,rfl,h1,h2,h3⟩
  · have hc2:cs2=[]:=XC hlen;subst hc2;have hc:cs=[]:=XC hcsl;subst hc;have hrun:(execOp a.eval o).run P w= .ok (.value (.int .i64 0)) w:=by
     have hfc:∀s,(Builtin.firstCells s 0 v).run P w= .ok #[] w∧(Builtin.lenOf v).run P w= .ok 0 w:=fun s=>by
      cases hS with
      |emp a' c'=>cases a'<;>simp [Builtin.firstCells,Builtin.lenOf,ld0]
      |sl b off n' c' cs' vs'=>simp [Builtin.firstCells,Builtin.lenOf,ld0]
     simp [execOp,ho,hxv,hyv,resolve,invoke,builtin,Builtin.copy_,run_underlying (SlT.und hT),SlT.size hT,(hfc _).1,(hfc 0).2,goInt]
    unfold Oper.wp;rw [hrun];simp only [Oper.upon,hd];exact k _ _ (fin F hP w H hl (fun _ _=>rfl))
  · rcases Vx n with h0|h0
    · subst h0;have hc2:cs2=[]:=XC hlen;subst hc2;have hc:cs=[]:=XC hcsl;subst hc;have hrun:(execOp a.eval o).run P w= .ok (.value (.int .i64 0)) w:=by
       have hfc:∀s,(Builtin.firstCells s 0 v).run P w= .ok #[] w∧(Builtin.lenOf v).run P w= .ok 0 w:=fun s=>by
        cases hS with
        |emp a' c'=>cases a'<;>simp [Builtin.firstCells,Builtin.lenOf,ld0]
        |sl b off n' c' cs' vs'=>simp [Builtin.firstCells,Builtin.lenOf,ld0]
       simp [execOp,ho,hxv,hyv,resolve,invoke,builtin,Builtin.copy_,run_underlying (SlT.und hT),SlT.size hT,(hfc _).1,(hfc 0).2,goInt,storeCells]
      unfold Oper.wp;rw [hrun];simp only [Oper.upon,hd];exact k _ _ (fin F hP w H hl (fun _ _=>rfl))
    · generalize hvv:v=v0 at hS
      cases hS with
      |emp=>omega
      | sl b off n' cc cs' vs hn' hc' hcell hT'=>
        subst hvv;have hcl:∀(j:Nat) (u:Value),((List.range n).map vs)[j]? =some u→w.cell? ⟨b,off+j,none⟩=some u:=fun j u hu=>by
         (have hj:j<n:=by have:=Ze hu;simpa using this);simp [hj] at hu;subst hu;exact (hcell j oM).1
        have hld:=run_loadCells_list (P:=P) (w:=w) ⟨b,off,none⟩ ((List.range n).map vs) (fun j u hu=>by rw [Y3];exact hcl j u hu);rw [Xc,VF] at hld;obtain ⟨w',F',hp',hr,H',hl',hsame⟩:=R7 (P:=P) (c:=c) (a:=a) rfl hy hone ((List.range n).map vs) (by simp [hlen]) n 0 cs w F hP H hl oM oM hcl;have hset:Jo cs 0 cs2=cs2:=by
         have:=Hz cs2 [] cs oM;simpa using this
        rw [Va,hset] at hl';rw [Va] at hr;have hrun:(execOp a.eval o).run P w= .ok (.value (.int .i64 n)) w':=by
         simp [execOp,ho,hxv,hyv,resolve,invoke,builtin,Builtin.copy_,Builtin.lenOf,Builtin.firstCells,run_underlying (SlT.und hT),SlT.size hT,hld,hr,goInt]
        unfold Oper.wp;rw [hrun];simp only [Oper.upon,hd];exact k _ _ (fin F' hp' w' H' hl' hsame)
theorem HA {α:Type}:∀h:List (Nat×α),∃m,∀t,m≤t→lk h t=none
 |[]=>⟨0,fun _ _=>rfl⟩
 | (k,x)::h=>by
   obtain ⟨m,hm⟩:=HA h;refine ⟨m+k+1,fun t ht=>?_⟩;have:Nat.beq k t=false:=by
    cases h3:Nat.beq k t
    · rfl
    · have:=XH h3;omega
   simp only [lk,this,cond_false];exact hm t oM
theorem ZdQ {l:List Oper} {st':St} (h:aL P c ops Q l st') (hsub:∀F a w,HoldsF c (⟨sL,hP⟩:St) F a w→HoldsF c st' F a w):aL P c ops Q l (⟨sL,hP⟩:St):=fun a w ⟨F,H⟩=>h a w ⟨F,hsub F a w H⟩
theorem ZeC {t j e kk n i:Nat} {x y:Operand} {h v:Value} {q p:PV} {Hs:List Value} {ps cs:List PV} (l:Nat) (hT:NoAgg P t=true) (hsz:(P.info? t).map (·.size)=some 1) (k:aL P c ops Q rest ⟨sL,put l (.agg Hs.toArray, .agg (ps.set i (.own e kk n (cs.set j p)))) hP⟩)
 (hw:ZK ops sL o=some true:=by exact rfl) (hd:o.dst=none:=by exact rfl) (ho:o.op= .store t x y:=by exact rfl) (hx:ev sL x=some (ZH (Zs h) j,q):=by exact rfl) (hy:ev sL y=some (v,p):=by exact rfl) (h1:one p=true:=by first|exact rfl|assumption)
 (hl:lk hP l=some (.agg Hs.toArray, .agg ps):=by exact rfl) (hH:Hs[i]? =some h:=by assumption) (hps:ps[i]? =some (.own e kk n cs):=by assumption) (hj:j<cs.length:=by first|omega|assumption):aL P c ops Q (o::rest) (⟨sL,hP⟩:St):=by
 obtain ⟨m,hm⟩:=HA hP
 have hne:l≠m:=fun e=>by have:=hm m (Xg m);rw [←e,hl] at this;cases this
 have hb:Nat.beq l m=false:=by
  cases h3:Nat.beq l m
  · rfl
  · exact UB (XH h3) hne
 refine Yg (ζf m hl hH hps (hm m (Xg m))) fun _=>?_
 refine EZ m hw hd hT hsz ho hx hy h1 (ZD _ _ _) hj ?_
 have hi:=Ze hps
 refine Yg (ζg (l:=l) (l':=m) (i:=i) (v:=h) (ps:=ps.set i (.val h)) (by rw [ZU (Ne.symm hne),ZU (Ne.symm hne),ZD]) hH (by rw [Xp hi]) (ZD _ _ _) hb) fun _=>?_
 rw [XK]
 refine ZdQ k fun F a w H=>H.less (fun _ _ h=>h) fun s z hz=>?_
 rcases Z0 hz with ⟨rfl,rfl⟩|⟨hn,hz⟩
 · exact ZD _ _ _
 · have hsm:m≠s:=fun e=>by have:=hm m (Xg m);rw [e,hz] at this;cases this
   show lk (put l _ (del m (put m _ (put m _ (put l _ hP))))) s=some z;rw [ZU hn,Gj hsm,ZU hsm,ZU hsm,ZU hn];exact hz
theorem cB {dd:Prop} {f:Nat} {xs:Array Operand} {ats:Array TypeId} {ps:List PV} {R:PV→Prop} (ho:o.op= .call {callee:= .value (.func f),args:=xs,argTypes:=ats}) (hc:∀args w,(callFunc f args).run P w= .ok (.enter f args) w) (hA:AFd dd P f ps R) (hx:ZdJ (⟨sL,hP⟩:St) xs.toList ps) (hR:∀p,R p→nosh p=true:=by rintro p rfl;exact rfl) (hdd:c.dr→dd:=by first|exact id|exact fun h=>h.elim|exact fun _=>trivial):Jl P c (⟨sL,hP⟩:St) o R:=Zb3 ho hc hx hA hR hdd
theorem LR {i d:Nat} {p:PV} (ho:ops[i]? =some o) (hC:Jl P c (⟨sL,hP⟩:St) o (· =p)) (k:∀v,vOf p v→aD P c ops Q Z K fuel (listed.setIfInBounds i true) ⟨put d (v,p) sL,hP⟩) (hsh:shD p=true:=by exact rfl) (hw:ZK ops sL o=some true:=by exact rfl) (hd:o.dst=some d:=by exact rfl) (hn:d<c.nt:=by exact Xa rfl):aW P c ops Q Z K fuel listed (⟨sL,hP⟩:St) i:=fun a w F H C hC'=>by
 refine GD (Q':=fun _ a' w'=>(Z i=true∨C w')∧JN P .any ops Q C Z fuel (listed.setIfInBounds i true) a' w') ho (fun a' w' hq=>hq) ?_
 have h1:=Ju H.rd hw
 unfold wpList
 rw [h1,UA rfl]
 refine .inl ?_
 obtain ⟨f,args,hr,hcall⟩:=hC a w F H
 unfold Oper.wp
 rw [hr,Oper.upon_enter]
 refine hcall.mono fun e w' ⟨v,q,Fr,e1,e2,e3,e4,e5,e6⟩=>?_
 subst e1
 rw [show q=p from e2] at e4
 have hS:=e4.shD hsh
 have H2:HoldsF c ⟨put d (v,p) sL,hP⟩ F (a.put (some d) v) w':=RP H e3 hn (hS.anti fun b _ h=> .inl h)
 simp only [Oper.upon,hd]
 have hch:Chg (nK K hP F) w w':=e3.chg
 exact ⟨.inr (hC' w' hch),k v hS.vOf _ w' F H2 C fun W hW=>hC' W (hch.tr hW fun b hb=> .inl hb)⟩
theorem cP {p1 p2:PV} (d:Nat) (hC:Jl P c (⟨sL,hP⟩:St) o (· = .tup [p1,p2])) (k:∀v1 v2,vOf p1 v1→vOf p2 v2→aL P c ops Q rest ⟨put d (.tuple [v1,v2].toArray, .tup [p1,p2]) sL,hP⟩) (hsh:shD (.tup [p1,p2])=true:=by exact rfl) (hw:ZK ops sL o=some true:=by exact rfl) (hd:o.dst=some d:=by exact rfl) (hn:d<c.nt:=by exact Xa rfl):aL P c ops Q (o::rest) (⟨sL,hP⟩:St):=
 Gl hw hC fun a w F w' v p' Fr H hR hx hT hlo hdw=>by
  rw [show p'= .tup [p1,p2] from hR] at hT;have hS:=hT.shD hsh;rw [hd];have hS':Shr (mof c hP F) w' v (.tup [p1,p2]):=hS.anti fun b _ h=> .inl h
  cases hS with
  | tup vs ps hl h=>
    match vs,hl,h,hS' with
    |[v1,v2],_,h,hS'=>exact k v1 v2 (h 0 v1 p1 rfl rfl).vOf (h 1 v2 p2 rfl rfl).vOf _ _ ⟨F,RP H hx hn hS'⟩
theorem Zcj (i j k:Nat) (hr:Region.ready .any ops listed=[i,j,k]) (h:aW P c ops Q Z K fuel listed (⟨sL,hP⟩:St) i) (h':aW P c ops Q Z K fuel listed (⟨sL,hP⟩:St) j) (h'':aW P c ops Q Z K fuel listed (⟨sL,hP⟩:St) k):aD P c ops Q Z K (fuel+1) listed (⟨sL,hP⟩:St):=fun a w F H C hC=>
 ⟨(fun hn=>by rw [hr] at hn;cases hn),fun m hm=>by
   rw [hr] at hm;rcases (by simpa using hm:m=i∨m=j∨m=k) with rfl|rfl|rfl
   · exact h a w F H C hC
   · exact h' a w F H C hC
   · exact h'' a w F H C hC⟩
theorem DG {ι:Type} {S:ι→St} (i:ι) (hs:Sub (S i).slots sL) (hh:Sub (S i).heap hP):aN c (Exit.then (fun a w=>∃i,Holds c (S i) a w) Q) (⟨sL,hP⟩:St):=T' i hs hh
end
theorem Zf1 (a b:Nat):Nat.beq a b=(a==b):=by
 cases h:Nat.beq a b
 · exact (beq_eq_false_iff_ne.2 (fun e=>by rw [e] at h;simp at h)).symm
 · exact (beq_iff_eq.2 (XH h)).symm
theorem nrm {A B:Prop} (h:B) (e:B→A:=by intro h;(try simp only [Ji,KV,put,del,Zf1,List.elem,X2,Ve,Nat.reduceBEq,cond_true,cond_false]);exact h):A:=e h
section
variable {P:Program} {c:Ctx} {sL hP:List (Nat×Ent)}
theorem HB {F:Nat→BS} {a:Act} {w:World} (H:HoldsF c (⟨sL,hP⟩:St) F a w) {t ty k l e k' n:Nat} {h:Value} {q:PV} {cs:List PV} (hT:AggT P ty k=true) (ht:lk sL t=some (ZH (Zs h) 0,q)) (hl:lk hP l=some (h, .own e k' n cs)) (hp:k≤cs.length) (hk:0<k) (hsh:(cs.take k).all KM=true):
 ∃V A,(asAddr (a.tmps.getD t undef)).run P w= .ok A w∧(loadVar ty A).run P w= .ok V w∧Shr (mof c hP F) w V (.agg (cs.take k)):=by
 have hv:=(H.sl t _ _ ht).1
 obtain ⟨xs,Fs,hrow,hlen,hTr,hd,hb,hF'⟩:=(H.tr l _ _ hl).row
 rcases Y2 hrow with ⟨_,_,rfl⟩|⟨g,cap,rfl,h1,h2,h3⟩
 · simp at hlen;rw [hlen] at hp;simp at hp;omega
 refine ⟨.agg (xs.take k).toArray,⟨g,0,none⟩,?_,?_, .agg _ _ (by simp;omega) (fun i u p hu hp'=>?_)⟩
 · simp only [Zs,ZH,Xy] at hv;simp [Vk,hv,asAddr]
 · have hcl:∀i u,(xs.take k)[i]? =some u→w.cell? ((⟨g,0,none⟩:Addr).add i)=some u:=fun i u hu=>by
    (have hi:i<k:=by have:=Ze hu;simp at this;omega);rw [X6 hi] at hu;rw [Y3,Xy];exact WC hrow hu
   have:=run_loadCells_list (P:=P) (w:=w) ⟨g,0,none⟩ _ hcl;rw [show (xs.take k).length=k by simp;omega] at this;simp [loadVar,AggT.run hT,AggT.size hT,this]
 · have hi:i<k:=by have:=Ze hu;simp at this;omega
   have hps:=Xf.1 hsh p (Xb hp');rw [X6 hi] at hp' hu;exact (hTr _ u p hu hp').sh hps
theorem Zck {fn:Func} {R:PV→Prop} {t ty k e k' n:Nat} {h:Value} {q:PV} {cs:List PV} (l:Nat) (hT:AggT P ty k=true) (hr:fn.results= #[.cell t ty]) (ht:lk sL t=some (ZH (Zs h) 0,q)) (hl:lk hP l=some (h, .own e k' n cs)) (hp:k≤cs.length) (hk:0<k) (hsh:(cs.take k).all KM=true) (hR:R (.agg (cs.take k))) (hN:∀b,¬c.N0 b:=by intro _ h;exact h) (hdf:c.df=[]:=by exact rfl):aR c (bodyPost P fn (JI c R)) (⟨sL,hP⟩:St):=fun a w ⟨F,H⟩=>by
 obtain ⟨V,A,h0,h1,h2⟩:=HB H hT ht hl hp hk hsh
 refine ⟨H.df.trans hdf,V,?_,V,_,fun _=>False,rfl,hR,H.ext.ext (fun b _=>hN b), .shr (h2.anti fun b _ hb=>?_) (fun _ h=>h),fun _ h=>h.elim,H.dw⟩
 · simp only [results,hr];simp at h0;simp [h0,h1]
 · rcases hb with hb|hb
   · exact .inl hb
   · exact hb.elim
theorem Kz {fn:Func} {R:PV→Prop} {t ty s k e k' n:Nat} {h u:Value} {q p:PV} {cs:List PV} (l:Nat) (hT:AggT P ty k=true) (hr:fn.results= #[.cell t ty, .tmp s]) (ht:lk sL t=some (ZH (Zs h) 0,q)) (hl:lk hP l=some (h, .own e k' n cs)) (hs:lk sL s=some (u,p)) (hp:k≤cs.length) (hk:0<k) (hsh:(cs.take k).all KM=true) (hR:R (.tup [.agg (cs.take k),p])) (hN:∀b,¬c.N0 b:=by intro _ h;exact h) (hdf:c.df=[]:=by exact rfl):aR c (bodyPost P fn (JI c R)) (⟨sL,hP⟩:St):=fun a w ⟨F,H⟩=>by
 obtain ⟨V,A,h0,h1,h2⟩:=HB H hT ht hl hp hk hsh
 obtain ⟨h3,h4⟩:=H.sl s _ _ hs
 have hM:∀b,b<w.heap.size→(c.M0 b∨False)→mof c hP F b:=fun b _ hb=>by
  rcases hb with hb|hb
  · exact .inl hb
  · exact hb.elim
 refine ⟨H.df.trans hdf, .tuple #[V,u],?_, .tuple #[V,u],_,fun _=>False,rfl,hR,H.ext.ext (fun b _=>hN b), .shr (.tup [V,u] _ rfl fun i v q' hv hq'=>?_) (fun _ h=>h),fun _ h=>h.elim,H.dw⟩
 · simp only [results,hr];simp at h0;simp [h0,h1,Vk,h3]
 · match i with
   |0=>simp at hv hq';subst hv hq';exact h2.anti hM
   |1=>simp at hv hq';subst hv hq';exact h4.anti hM
   |i+2=>simp at hv
end
end Go.En
namespace Go.Proofs.YtmkojdfiadbeeaaGreat
open Go.RowKit Go.Cb Go.En Tryz
set_option linter.all false
set_option maxRecDepth 100000
theorem ZJ:NoAgg prog 9=true:=by kernel_rfl
theorem Zu:SlT prog 26 9 1=true:=by kernel_rfl
abbrev pU8 (n:Int):PV:= .val (.int .u8 n)
theorem TO {a b:Bool} (h:a=true↔b=true):Zo a=Zo b:=by rw [VK.2 h]
theorem Zav {s:ByteArray} {i:Nat} {x:UInt8} (h:s.data[i]? =some x):i<s.size:=by
 rcases XY i s.size with h1|h1
 · exact h1
 · rw [VB h1] at h;cases h
theorem ζh {s:ByteArray} {i:Nat} (h:i<s.size):∃y,s.data[i]? =some y:=⟨s.data[i]'h,Array.getElem?_eq_getElem h⟩
theorem DI {s:ByteArray} (h:s.size<1∨40<s.size):isName s=false:=by
 unfold isName
 rcases h with h|h
 · rw [Uy (show ¬1≤s.size by omega)];simp
 · rw [Uy (show ¬s.size≤40 by omega)];simp
theorem Ca {s:ByteArray} {y:UInt8} (h0:s.data[0]? =some y) (h:LO y.toNat=false):isName s=false:=by
 unfold isName;rw [h0,V3,h];simp
theorem Cc {s:ByteArray} {k:Nat} {y:UInt8} (hy:s.data[k]? =some y) (h:OD y.toNat=false):isName s=false:=by
 unfold isName
 rw [Bool.and_eq_false_iff];right
 rw [VH]
 exact ⟨y,Array.mem_toList_iff.2 (Array.mem_of_getElem? hy),by rw [h];simp⟩
theorem HE {s:ByteArray} {y:UInt8} (h1:1≤s.size) (h2:s.size≤40) (h0:s.data[0]? =some y) (hl:LO y.toNat=true) (h:∀j z,j<s.size→s.data[j]? =some z→OD z.toNat=true):isName s=true:=by
 unfold isName
 rw [h0,V3,hl,Ux h1,Ux h2]
 simp only [Bool.and_self,V9,Xf]
 intro x hx
 obtain ⟨i,hi⟩:=Array.getElem?_of_mem (Array.mem_toList_iff.1 hx)
 exact h i x (Zav hi) hi
theorem HG (c:Int):AF prog 135 [pU8 c] (· =Zo (LO c)):=by
 refine AF.of_body 17 func135 rfl ntmps135 (Xa rfl) ?_
 intro w0 M0 vs hl hv
 obtain ⟨v0,rfl⟩:=WO hl
 obtain rfl:=hv 0 _ _ rfl rfl
 clear hl hv
 refine Zd ?_
 (refine xL 2 Zb ?_<;>refine Zh ?_)
 (refine xL 3 Za (xL 4 J6 (xL 5 Za ?_))<;>(refine bLd 5 (fun hb5=>?_) (fun hb5=>?_)<;>(first|refine kL 6 ?_|refine xL 6 Za ?_))<;>(first|refine kL 7 ?_|refine xL 7 OH ?_)<;>refine xL 8 Zv (xL 9 Za ?_)<;>(first|refine xL 10 Za ?_|(refine bLd 9 (fun hb9=>?_) (fun hb9=>?_)<;>(first|refine kL 10 ?_|refine xL 10 Za ?_)))<;>(first|refine kL 11 ?_|refine xL 11 J6 ?_)<;>(first|refine kL 12 ?_|refine xL 12 Za ?_)<;>(first|refine kL 13 ?_|(refine bLd 12 (fun hb12=>?_) (fun hb12=>?_)<;>(first|refine kL 13 ?_|refine xL 13 Za ?_)))<;>(first|refine kL 14 ?_|refine xL 14 OH ?_)<;>(first|refine kL 15 ?_|refine xL 15 Zv ?_)<;>refine xL 16 Zv (xL 2 Zb ?_)<;>refine Zc ?_)<;>(
 refine Zi (results135) rfl (TO ?_);simp only [LO,X9,Xd,Uw,true_iff,false_iff,Vu]<;>omega)
theorem ZeZ (c:Int):AF prog 136 [pU8 c] (· =Zo (OD c)):=by
 refine AF.of_body 25 func136 rfl ntmps136 (Xa rfl) ?_
 intro w0 M0 vs hl hv
 obtain ⟨v0,rfl⟩:=WO hl
 obtain rfl:=hv 0 _ _ rfl rfl
 clear hl hv
 refine Zd ?_
 (refine xL 2 Zb ?_<;>refine Zh ?_)
 (refine xL 3 Za ?_<;>(refine cS 4 (cA call135 (HG c)) fun v4 h=>?_;cases h)<;>refine xL 5 Za ?_<;>(refine bL 5 (fun hb5=>?_) (fun hb5=>?_)<;>(first|refine kL 6 ?_|refine xL 6 Za ?_))<;>(first|refine kL 7 ?_|refine xL 7 J6 ?_)<;>(first|refine kL 8 ?_|refine xL 8 Za ?_)<;>(first|refine kL 9 ?_|(refine bLd 8 (fun hb8=>?_) (fun hb8=>?_)<;>(first|refine kL 9 ?_|refine xL 9 Za ?_)))<;>(first|refine kL 10 ?_|refine xL 10 OH ?_)<;>(first|refine kL 11 ?_|refine xL 11 Zv ?_)<;>refine xL 12 Zv (xL 13 Za ?_)<;>(first|refine kL 14 ?_|refine xL 14 Za ?_|(refine bLd 13 (fun hb13=>?_) (fun hb13=>?_)<;>(first|refine kL 14 ?_|refine xL 14 Za ?_)))<;>(first|refine kL 15 ?_|refine xL 15 YY ?_)<;>refine xL 16 Zv (xL 17 Za ?_)<;>(first|refine kL 18 ?_|(refine bLd 17 (fun hb17=>?_) (fun hb17=>?_)<;>(first|refine kL 18 ?_|refine xL 18 Za ?_)))<;>(first|refine kL 19 ?_|refine xL 19 YY ?_)<;>refine xL 20 Zv (xL 21 Za ?_)<;>(first|refine kL 22 ?_|(refine bLd 21 (fun hb21=>?_) (fun hb21=>?_)<;>(first|refine kL 22 ?_|refine xL 22 Za ?_)))<;>(first|refine kL 23 ?_|refine xL 23 YY ?_)<;>refine xL 24 Zv (xL 2 Zb ?_)<;>refine Zc ?_)<;>(
 refine Zi (results136) rfl (TO ?_);simp only [OD,X9,Xd,Uw,true_iff,false_iff,Vu,beq_iff_eq]<;>simp_all<;>omega)
theorem R8 (s :ByteArray) (hs:s.size≤9223372036854775807):AF prog 98 [ZS s] (· =Zo (isName s)):=by
 refine AF.of_body 29 func98 rfl ntmps98 (Xa rfl) ?_
 intro w0 M0 vs hl hv
 obtain ⟨v0,rfl⟩:=WO hl
 obtain rfl:=hv 0 _ _ rfl rfl
 clear hl hv
 refine Zd ?_
 (refine xL 2 Zb ?_<;>refine Zh ?_)
 (refine xL 4 Za (xL 5 (DF underlying9) (xL 6 ZN (xL 7 Za ?_)))<;>(refine bLd 7 (fun hb7=>?_) (fun hb7=>?_)<;>(first|refine kL 8 ?_|refine xL 8 Za ?_))<;>(first|refine kL 9 ?_|refine xL 9 (DF underlying9) ?_)<;>(first|refine kL 10 ?_|refine xL 10 Kj ?_)<;>refine xL 11 Zv (xL 12 Za ?_)<;>(first|refine kL 13 ?_|(refine bLd 12 (fun hb12=>?_) (fun hb12=>?_)<;>(first|refine kL 13 ?_|refine xL 13 Za ?_)))<;>(first|refine kL 14 ?_|(refine (ζh (i:=0) (s:=s) oM).elim fun y0 hy0=>?_;refine xL 14 (ζd underlying9) ?_))<;>(first|refine kL 15 ?_|(refine cS 15 (cA call135 (HG y0.toNat)) fun v15 h=>?_;cases h))<;>(first|refine kL 16 ?_|refine xL 16 Yj ?_)<;>refine xL 17 Zv ?_<;>refine Zc ?_)<;>(
 refine cX ?_ ?_<;>intro hb17
 · first|exact bN hb17|(
 refine Zd ?_;(refine xL 2 Zb ?_<;>refine Zc ?_)
 refine Zi (results98) rfl ?_
 first|rw [DI oM]|rw [Ca hy0 (by simpa using hb17)])
 · first | exact bN hb17|(
 refine Zd ?_;(refine xL 18 Za (xL 19 (DF underlying9) (xL 20 Za ?_))<;>refine Zc ?_)
 refine Zw (ι:={k:Nat//k≤s.size∧∀j y,j<k→s.data[j]? =some y→OD y.toNat=true}) (fun k=>⟨[(0,_,_),(19,_,_),(20, .int .i64 k.1,Zg k.1)],[]⟩) (fun k=>s.size-k.1) ⟨0,oM,oM⟩ (fun a w H=>H.weaken ⟨rfl,rfl,rfl,trivial⟩ trivial) ?_;rintro ⟨k,hk,hp⟩;dsimp only;refine Zd ?_;(refine xL 21 ZN ?_<;>refine Zc ?_)
 refine cX ?_ ?_<;>intro hb21
 · first |exact bN hb21|(
 have hlt:k<s.size:=oM;obtain ⟨y,hy⟩:=ζh (s:=s) (i:=k) oM;refine Zd ?_;(refine xL 22 Za (xL 3 Zb ?_)<;>refine Zh ?_)
 (refine xL 23 Za (xL 24 Za (xL 25 (ζd underlying9) ?_))<;>(refine cS 26 (cA call136 (ZeZ y.toNat)) fun v26 h=>?_;cases h)<;>refine xL 27 Yj ?_<;>refine Zc ?_)
 refine cX ?_ ?_<;>intro hb27
 · first|exact bN hb27|(
 refine Zd ?_;(refine xL 2 Zb ?_<;>refine Zc ?_)
 refine Zi (results98) rfl ?_;rw [Cc hy (by simpa using hb27)])
 · first|exact bN hb27|(
 refine Zd ?_;(refine xL 28 ZB (xL 20 Za ?_)<;>refine Zc ?_)
 refine Zf (
  ⟨k+1,oM,fun j z hj hz=>by
   by_cases e:j=k
   · subst e;rw [hy] at hz;cases hz;simpa using hb27
   · exact hp j z oM hz⟩
  ) (by dsimp only;omega) ⟨rfl,rfl,rfl,trivial⟩ trivial))
 · first|exact bN hb21|(
 refine Zd ?_;(refine xL 2 Zb ?_<;>refine Zc ?_)
 refine Zi (results98) rfl ?_;rw [HE oM oM hy0 (by simpa using hb17) (fun j z hj hz=>hp j z oM hz)])))
theorem Ln {α:Type} {p:α→Bool} {l:List α} {k:Nat} {x:α} (hx:l[k]? =some x) (h:p x=false):l.all p=false:=VH.2 ⟨x,Xb hx,by rw [h];simp⟩
theorem DJ {α:Type} {p:α→Bool} {l:List α} (h:∀(j:Nat) x,l[j]? =some x→p x=true):l.all p=true:=Xf.2 fun x hx=>by
 obtain ⟨j,hj⟩:=XF hx
 exact h j x hj
def WG (l:List ByteArray):Bool:=decide (l.length≤40)&&l.all isName&&chainB strLt l
theorem Cd {l:List ByteArray} (h:40<l.length):WG l=false:=by unfold WG;rw [Uy (show ¬l.length≤40 by omega)];simp
theorem Ce {l:List ByteArray} {k:Nat} {x:ByteArray} (hx:l[k]? =some x) (h:isName x=false):WG l=false:=by unfold WG;rw [Ln hx h];simp
theorem HH {l:List ByteArray} {k:Nat} {x y:ByteArray} (hk:1≤k) (hy:l[k-1]? =some y) (hx:l[k]? =some x) (h:strLt y x=false):WG l=false:=by unfold WG;rw [Lj hk hy hx h];simp
theorem Cf (l : List ByteArray) (hf:∀s∈l,s.size≤140737488355328):AF prog 86 [ZQ l] (· =Zo (WG l)):=by
 refine AF.of_body 32 func86 rfl ntmps86 (Xa rfl) ?_
 intro w0 M0 vs hl hv
 obtain ⟨v0,rfl⟩:=WO hl
 clear hl hv
 refine Y0 0 rfl fun hlen=>?_
 refine Zd ?_
 (refine xL 2 Zb ?_<;>refine Zh ?_)
 (refine xL 5 Za (xL 6 (ZF Zu) (xL 7 Kj ?_))<;>refine Zc ?_)
 refine cX ?_ ?_<;>intro hb7
 · first|exact bN hb7|(
 refine Zd ?_;(refine xL 2 Zb ?_<;>refine Zc ?_)
 refine Zi (results86) rfl ?_;rw [Cd oM])
 · first | exact bN hb7|(
 refine Zd ?_;(refine xL 8 Za (xL 9 (ZF Zu) (xL 10 Za ?_))<;>refine Zc ?_)
 refine Zw (ι:={k:Nat//k≤l.length∧∀j x,j<k→l[j]? =some x→isName x=true∧∀y,1≤j→l[j-1]? =some y→strLt y x=true}) (fun k=>⟨[(0,_,_),(8,_,_),(9,_,_),(10, .int .i64 k.1,Zg k.1)],[]⟩) (fun k=>l.length-k.1) ⟨0,oM,oM⟩ (fun a w H=>H.weaken ⟨rfl,rfl,rfl,rfl,trivial⟩ trivial) ?_;rintro ⟨k,hk,hp⟩;dsimp only;refine Zd ?_;(refine xL 11 ZN ?_<;>refine Zc ?_)
 refine cX ?_ ?_<;>intro hb11
 · first | exact bN hb11|(
 have hlt:k<l.length:=oM;obtain ⟨x,hx⟩:=Zj hlt;obtain ⟨y,hy⟩:=Zj (show k-1<l.length by omega);have e1:=Yn (f:=ZS) hx;(have e2:(l.map ZS)[((k:Int)-1).toNat*1]? =some (ZS y):=by rw [show ((k:Int)-1).toNat*1=k-1 by omega];exact (by rw [Xl,hy];rfl));have hxs:=hf x (Xb hx);refine Zd ?_;(refine xL 12 Za (xL 13 (Zn Zu) ?_)<;>(refine yL 14 (Zt ZJ) fun v14 h=>?_;cases h)<;>refine xL 3 Zb (xL 4 Zb ?_)<;>refine Zh ?_)
 (refine xL 15 Za ?_<;>(refine cS 16 (cA call98 (R8 x oM)) fun v16 h=>?_;cases h)<;>refine xL 17 Yj (xL 18 Za ?_)<;>(refine bL 18 (fun hb18=>?_) (fun hb18=>?_)<;>(first|refine kL 19 ?_|refine xL 19 Za ?_))<;>(first|refine kL 20 ?_|refine xL 20 Kj ?_)<;>(first|refine kL 21 ?_|refine xL 21 Za ?_)<;>(first|refine kL 22 ?_|(refine bLd 21 (fun hb21=>?_) (fun hb21=>?_)<;>(first|refine kL 22 ?_|refine xL 22 Za ?_)))<;>(first|refine kL 23 ?_|refine xL 23 Za ?_)<;>(first|refine kL 24 ?_|refine xL 24 KW ?_)<;>(first|refine kL 25 ?_|refine xL 25 (Tf Zu) ?_)<;>(first|refine kL 26 ?_|(refine yL 26 (Zt ZJ) fun v26 h=>?_;cases h))<;>(first|refine kL 27 ?_|refine xL 27 Za ?_)<;>(first|refine kL 28 ?_|refine xL 28 E8 ?_)<;>(first|refine kL 29 ?_|refine xL 29 Zv ?_)<;>refine xL 30 Zv ?_<;>refine Zc ?_)<;>(
 refine cX ?_ ?_<;>intro hb30
 · first|exact bN hb30|(
 refine Zd ?_;(refine xL 2 Zb ?_<;>refine Zc ?_)
 refine Zi (results86) rfl ?_
 first|rw [Ce hx (by simpa using hb18)]|rw [HH oM hy hx (by simpa [strLt] using hb30)])
 · first |exact bN hb30|(
 refine Zd ?_;(refine xL 31 ZB (xL 10 Za ?_)<;>refine Zc ?_)
 refine Zf (
  ⟨k +1,oM,fun j z hj hz=>by
   by_cases e:j=k
   · subst e;rw [hx] at hz;cases hz;refine ⟨by simpa using hb18,fun y' h1 hy'=>?_⟩;rw [hy] at hy';cases hy'
     first|omega|simpa [strLt] using hb30
   · exact hp j z oM hz⟩
  ) (by dsimp only;omega) ⟨rfl,rfl,rfl,rfl,trivial⟩ trivial)))
 · first|exact bN hb11|(
 refine Zd ?_;(refine xL 2 Zb ?_<;>refine Zc ?_)
 refine Zi (results86) rfl ?_;have h1:l.all isName=true:=DJ fun j x hj=>(hp j x (by have:=Ze hj;omega) hj).1;have h2:chainB strLt l=true:=GI fun j x y h1 hy hx=>(hp j x (by have:=Ze hx;omega) hx).2 y h1 hy;unfold WG;rw [h1,h2,Ux (show l.length≤40 by omega)];rfl))
theorem R9 (a b:ByteArray):WA a b=WA b a:=by unfold WA;rw [VK];simp only [beq_iff_eq];exact eq_comm
theorem SY (l:List ByteArray) (s:ByteArray):AF prog 116 [ZQ l,ZS s] (· =Zg (idx (fun x=>WA x s) l)):=by
 refine AF.of_body 19 func116 rfl ntmps116 (Xa rfl) ?_
 intro w0 M0 vs hl hv
 obtain ⟨v0,v1,rfl⟩:=WT hl
 obtain rfl:=hv 1 _ _ rfl rfl
 clear hl hv
 refine Y0 0 rfl fun hlen=>?_
 refine Zd ?_
 (refine xL 4 Zb ?_<;>refine Zh ?_)
 (refine xL 6 Za (xL 7 (ZF Zu) (xL 8 Za ?_))<;>refine Zc ?_)
 refine Zw (ι:={k:Nat//k≤l.length∧∀i y,i<k→l[i]? =some y→WA y s=false}) (fun k=>⟨[(0,_,_),(1,_,_),(7,_,_),(8, .int .i64 k.1,Zg k.1)],[]⟩) (fun k=>l.length-k.1) ⟨0,oM,oM⟩ (fun a w H=>H.weaken ⟨rfl,rfl,rfl,rfl,trivial⟩ trivial) ?_
 rintro ⟨k,hk,hp⟩
 dsimp only
 refine Zd ?_
 (refine xL 9 ZN ?_<;>refine Zc ?_)
 refine cX ?_ ?_<;>intro hb9
 · first |exact bN hb9|(
 obtain ⟨x,hx⟩:=Zj (show k<l.length by omega);have e1:=Yn (f:=ZS) hx;refine Zd ?_;(refine xL 10 Za (xL 5 Zb ?_)<;>refine Zh ?_)
 (refine xL 11 Za (xL 12 Za (xL 13 Za (xL 14 (Zn Zu) ?_)))<;>(refine yL 15 (Zt ZJ) fun v15 h=>?_;cases h)<;>refine xL 16 ZeV ?_<;>refine Zc ?_)
 refine cX ?_ ?_<;>intro hb16
 · first|exact bN hb16|(
 (replace hb16:WA x s=true:=by rw [R9];exact hb16);refine Zd ?_;(refine xL 17 Za (xL 4 Zb ?_)<;>refine Zc ?_)
 refine Zi (results116) rfl ?_;rw [JH hp hx hb16])
 · first|exact bN hb16|(
 (replace hb16:WA x s=false:=by rw [R9];exact hb16);refine Zd ?_;(refine xL 18 ZB (xL 8 Za ?_)<;>refine Zc ?_)
 refine Zf (
  ⟨k+1,oM,fun i y hi hy=>by
   by_cases e:i=k
   · subst e;rw [hx] at hy;cases hy;exact hb16
   · exact hp i y oM hy⟩
  ) (by dsimp only;omega) ⟨rfl,rfl,rfl,rfl,trivial⟩ trivial))
 · first|exact bN hb9|(
 refine Zd ?_;(refine xL 4 Zb ?_<;>refine Zc ?_)
 refine Zi (results116) rfl ?_;rw [Gi fun i y hi hy=>hp i y oM hy])
theorem KQ (l:List ByteArray) (s:ByteArray):AF prog 73 [ZQ l,ZS s] (· =Zo (hasStr l s)):=by
 refine AF.of_body 9 func73 rfl ntmps73 (Xa rfl) ?_
 intro w0 M0 vs hl hv
 obtain ⟨v0,v1,rfl⟩:=WT hl
 obtain rfl:=hv 1 _ _ rfl rfl
 clear hl hv
 refine Zd ?_
 (refine xL 4 Zb ?_<;>refine Zh ?_)
 (refine xL 5 Za (xL 6 Za ?_)<;>(refine cS 7 (cA call116 (SY l s)) fun v7 h=>?_;cases h)<;>refine xL 8 J6 (xL 4 Zb ?_)<;>refine Zc ?_)
 refine Zi (results73) rfl ?_
 unfold hasStr
 rw [GC]
theorem HI {l m:List ByteArray} {k:Nat} {x y:ByteArray} (hx:l[k]? =some x) (hy:m[k]? =some y):cmpStrs (l.drop k) (m.drop k)=if Ya x y=0 then cmpStrs (l.drop (k+1)) (m.drop (k+1)) else Ya x y:=by rw [YZ hx,YZ hy,cmpStrs]
theorem Sc {a b:ByteArray} (h:strLt a b=true):Ya a b= -1:=by unfold Ya;rw [UA h]
theorem Sd {a b:ByteArray} (h:(!(strLt a b||WA a b))=true):Ya a b=1:=by
 simp only [Vy,Bool.or_eq_false_iff] at h
 unfold Ya;rw [Uz (by rw [h.1];simp),Uz (by rw [h.2];simp)]
theorem Se {a b:ByteArray} (h1:strLt a b=false) (h:(!(strLt a b||WA a b))=false):Ya a b=0:=by
 rw [h1,Bool.false_or,Bool.not_eq_false'] at h
 unfold Ya;rw [Uz (by rw [h1];simp),UA h]
theorem LS {l m:List ByteArray} {k:Nat} (h:¬(k<l.length∧k<m.length)) (hk:k≤l.length) (hk':k≤m.length):cmpStrs (l.drop k) (m.drop k)=if l.length<m.length then-1 else if m.length<l.length then 1 else 0:=by
 by_cases h1:l.length=k
 · rw [XI (show l.length≤k by omega)];by_cases h2:m.length=k
   · rw [XI (show m.length≤k by omega),Uz oM,Uz oM];rfl
   · obtain ⟨y,hy⟩:=Zj (show k<m.length by omega);rw [YZ hy,UA oM];rfl
 · have h2:m.length=k:=oM;rw [XI (show m.length≤k by omega)];obtain ⟨x,hx⟩:=Zj (show k<l.length by omega);rw [YZ hx,Uz oM,UA oM];rfl
theorem Cg (l m:List ByteArray):AF prog 89 [ZQ l,ZQ m] (· =Zg (cmpStrs l m)):=by
 refine AF.of_body 46 func89 rfl ntmps89 (Xa rfl) ?_
 intro w0 M0 vs hl hv
 obtain ⟨v0,v1,rfl⟩:=WT hl
 clear hl hv
 refine Y0 0 rfl fun hlen=>?_
 refine Y0 1 rfl fun hlem=>?_
 refine Zd ?_
 (refine xL 4 Zb ?_<;>refine Zh ?_)
 (refine xL 5 Zb ?_<;>refine Zc ?_)
 refine Zw (ι:={k:Nat//k≤l.length∧k≤m.length∧cmpStrs l m=cmpStrs (l.drop k) (m.drop k)}) (fun k=>⟨[(0,_,_),(1,_,_),(5, .int .i64 k.1,Zg k.1)],[]⟩) (fun k=>l.length-k.1) ⟨0,oM,oM,rfl⟩ (fun a w H=>H.weaken ⟨rfl,rfl,rfl,trivial⟩ trivial) ?_
 rintro ⟨k,hk,hk',hp⟩
 dsimp only
 refine Zd ?_
 (refine xL 6 Za (xL 7 Za (xL 8 (ZF Zu) (xL 9 ZN (xL 10 Za ?_))))<;>(refine bLd 10 (fun hb10=>?_) (fun hb10=>?_)<;>(first|refine kL 11 ?_|refine xL 11 Za ?_))<;>(first|refine kL 12 ?_|refine xL 12 Za ?_)<;>(first|refine kL 13 ?_|refine xL 13 (ZF Zu) ?_)<;>(first|refine kL 14 ?_|refine xL 14 ZN ?_)<;>refine xL 15 Zv ?_<;>refine Zc ?_)<;>(
 refine cX ?_ ?_<;>intro hb15
 · first | exact bN hb15|(
 obtain ⟨x,hx⟩:=Zj (show k<l.length by omega);obtain ⟨y,hy⟩:=Zj (show k<m.length by omega);have e1:=Yn (f:=ZS) hx;have e2:=Yn (f:=ZS) hy;have hs:=HI hx hy;refine nav ?_;(refine ZR (fun i=>([]:List Nat).elem i) [] kR ?_<;>refine xD 0 18 rfl Za ?_<;>refine xD 1 19 rfl Za ?_<;>refine xD 2 20 rfl (Zn Zu) ?_<;>(refine yD 3 21 rfl (Zt ZJ) fun v21 h=>?_;cases h)<;>refine xD 4 22 rfl Za ?_<;>refine xE 5 23 rfl Za ?_<;>refine xE 6 24 rfl (Zn Zu) ?_<;>(refine yE 7 25 rfl (Zt ZJ) fun v25 h=>?_;cases h)<;>refine xE 8 26 rfl E7 ?_<;>refine YU kR (nav ?_)<;>try dsimp only)
 refine cX ?_ ?_<;>intro hb26
 · first|exact bN hb26|(
 refine Zd ?_;(refine xL 4 Zb ?_<;>refine Zc ?_)
 refine Zi (results89) rfl ?_;rw [hp,hs,Sc hb26];rfl)
 · first |exact bN hb26|(
 refine nav ?_;(refine ZR (fun i=>([]:List Nat).elem i) [] kR ?_<;>refine xD 0 27 rfl Za ?_<;>refine xD 1 28 rfl Za ?_<;>refine xD 2 29 rfl (Zn Zu) ?_<;>(refine yD 3 30 rfl (Zt ZJ) fun v30 h=>?_;cases h)<;>refine xD 4 31 rfl Za ?_<;>refine xE 5 32 rfl Za ?_<;>refine xE 6 33 rfl (Zn Zu) ?_<;>(refine yE 7 34 rfl (Zt ZJ) fun v34 h=>?_;cases h)<;>refine xE 8 35 rfl E9 ?_<;>refine YU kR (nav ?_)<;>try dsimp only)
 refine cX ?_ ?_<;>intro hb35
 · first|exact bN hb35|(
 refine Zd ?_;(refine xL 4 Zb ?_<;>refine Zc ?_)
 refine Zi (results89) rfl ?_;rw [hp,hs,Sd hb35];rfl)
 · first|exact bN hb35|(
 refine Zd ?_;(refine xL 16 Za (xL 17 ZB (xL 5 Zb ?_))<;>refine Zc ?_)
 refine Zf (
  ⟨k+1,oM,oM,by rw [hp,hs,Se hb26 hb35];rfl⟩
  ) (by dsimp only;omega) ⟨rfl,rfl,rfl,trivial⟩ trivial)))
 · first | exact bN hb15|(
 refine Zd ?_;(refine xL 36 Za (xL 37 (ZF Zu) (xL 38 Za (xL 39 (ZF Zu) (xL 40 ZN ?_))))<;>refine Zc ?_)
 refine cX ?_ ?_<;>intro hb40
 · first|exact bN hb40|(
 refine Zd ?_;(refine xL 4 Zb ?_<;>refine Zc ?_)
 refine Zi (results89) rfl ?_;rw [hp,LS oM hk hk',UA oM])
 · first|exact bN hb40|(
 refine Zd ?_;(refine xL 41 Za (xL 42 (ZF Zu) (xL 43 Za (xL 44 (ZF Zu) (xL 45 Kj ?_))))<;>refine Zc ?_)
 refine cX ?_ ?_<;>intro hb45
 · first|exact bN hb45|(
 refine Zd ?_;(refine xL 4 Zb ?_<;>refine Zc ?_)
 refine Zi (results89) rfl ?_;rw [hp,LS oM hk hk',Uz oM,UA oM])
 · first|exact bN hb45|(
 refine Zd ?_;(refine xL 4 Zb ?_<;>refine Zc ?_)
 refine Zi (results89) rfl ?_;rw [hp,LS oM hk hk',Uz oM,Uz oM]))))
theorem ZdR (l m:List ByteArray):AF prog 96 [ZQ l,ZQ m] (· =Zo (decide (cmpStrs l m=0))):=by
 refine AF.of_body 9 func96 rfl ntmps96 (Xa rfl) ?_
 intro w0 M0 vs hl hv
 obtain ⟨v0,v1,rfl⟩:=WT hl
 clear hl hv
 refine Zd ?_
 (refine xL 4 Zb ?_<;>refine Zh ?_)
 (refine xL 5 Za (xL 6 Za ?_)<;>(refine cS 7 (cA call89 (Cg l m)) fun v7 h=>?_;cases h)<;>refine xL 8 YY (xL 4 Zb ?_)<;>refine Zc ?_)
 exact Zi results96 rfl rfl
theorem Pa (s:ByteArray):AF prog 198 [ZS s] (· =Zo false):=by
 refine AF.of_body 6 func198 rfl ntmps198 (Xa rfl) ?_
 intro w0 M0 vs hl hv
 obtain ⟨v0,rfl⟩:=WO hl
 obtain rfl:=hv 0 _ _ rfl rfl
 clear hl hv
 refine Zd ?_
 (refine xL 2 Zb ?_<;>refine Zh ?_)
 (refine xL 3 Za (xL 4 Za (xL 5 Zcc (xL 2 Zb ?_)))<;>refine Zc ?_)
 refine Zi (results198) rfl ?_
 simp
theorem Lo (a b:ByteArray):AF prog 137 [ZS a,ZS b] (· =Zg (Ya a b)):=by
 refine AF.of_body 20 func137 rfl ntmps137 (Xa rfl) ?_
 intro w0 M0 vs hl hv
 obtain ⟨v0,v1,rfl⟩:=WT hl
 obtain rfl:=hv 0 _ _ rfl rfl
 obtain rfl:=hv 1 _ _ rfl rfl
 clear hl hv
 refine Zd ?_
 (refine xL 4 Zb ?_<;>refine Zh ?_)
 (refine xL 7 Za ?_<;>(refine cS 8 (cA call198 (Pa a)) fun v8 h=>?_;cases h)<;>refine xL 5 Zb ?_<;>refine Zh ?_)
 (refine xL 9 Za ?_<;>(refine cS 10 (cA call198 (Pa b)) fun v10 h=>?_;cases h)<;>refine xL 6 Zb ?_<;>refine Zh ?_)
 (refine xL 11 Za ?_<;>refine Zc ?_)
 refine cCf ?_
 refine Zd ?_
 (refine xL 13 Za ?_<;>refine Zc ?_)
 refine cCf ?_
 refine Zd ?_
 (refine xL 14 Za (xL 15 Za (xL 16 E7 ?_))<;>refine Zc ?_)
 refine cX ?_ ?_<;>intro hb16
 · first|exact bN hb16|(
 refine Zd ?_;(refine xL 4 Zb ?_<;>refine Zc ?_)
 refine Zi (results137) rfl ?_;rw [Sc hb16])
 · first|exact bN hb16|(
 refine Zd ?_;(refine xL 17 Za (xL 18 Za (xL 19 E9 ?_))<;>refine Zc ?_)
 refine cX ?_ ?_<;>intro hb19
 · first|exact bN hb19|(
 refine Zd ?_;(refine xL 4 Zb ?_<;>refine Zc ?_)
 refine Zi (results137) rfl ?_;rw [Sd hb19])
 · first|exact bN hb19|(
 refine Zd ?_;(refine xL 4 Zb ?_<;>refine Zc ?_)
 refine Zi (results137) rfl ?_;rw [Se hb16 hb19]))
theorem Oj (l m:List ByteArray):AF prog 99 [ZQ l,ZQ m] (· =Zg (cmpStrs l m)):=by
 refine AF.of_body 36 func99 rfl ntmps99 (Xa rfl) ?_
 intro w0 M0 vs hl hv
 obtain ⟨v0,v1,rfl⟩:=WT hl
 clear hl hv
 refine Y0 0 rfl fun hlen=>?_
 refine Y0 1 rfl fun hlem=>?_
 refine Zd ?_
 (refine xL 4 Zb ?_<;>refine Zh ?_)
 (refine xL 9 Za (xL 10 (ZF Zu) (xL 11 Za ?_))<;>refine Zc ?_)
 refine Zw (ι:={k:Nat//k≤l.length∧k≤m.length∧cmpStrs l m=cmpStrs (l.drop k) (m.drop k)}) (fun k=>⟨[(0,_,_),(1,_,_),(9,_,_),(10,_,_),(11, .int .i64 k.1,Zg k.1)],[]⟩) (fun k=>l.length-k.1) ⟨0,oM,oM,rfl⟩ (fun a w H=>H.weaken ⟨rfl,rfl,rfl,rfl,rfl,trivial⟩ trivial) ?_
 rintro ⟨k,hk,hk',hp⟩
 dsimp only
 refine Zd ?_
 (refine xL 12 ZN ?_<;>refine Zc ?_)
 refine cX ?_ ?_<;>intro hb12
 · first | exact bN hb12|(
 obtain ⟨x,hx⟩:=Zj (show k<l.length by omega);have e1:=Yn (f:=ZS) hx;refine Zd ?_;(refine xL 13 Za (xL 14 (Zn Zu) ?_)<;>(refine yL 15 (Zt ZJ) fun v15 h=>?_;cases h)<;>refine xL 5 Zb (xL 6 Zb ?_)<;>refine Zh ?_)
 (refine xL 16 Za (xL 17 Za (xL 18 (ZF Zu) (xL 19 J6 ?_)))<;>refine Zc ?_)
 refine cX ?_ ?_<;>intro hb19
 · first|exact bN hb19|(
 refine Zd ?_;(refine xL 4 Zb ?_<;>refine Zc ?_)
 refine Zi (results99) rfl ?_;rw [hp,LS oM hk hk',Uz oM,UA oM])
 · first |exact bN hb19|(
 refine nav ?_;obtain ⟨y,hy⟩:=Zj (show k<m.length by omega);have e2:=Yn (f:=ZS) hy;have hs:=HI hx hy;(refine Zk ?_<;>refine xL 20 Za (xL 21 Za (xL 22 (Zn Zu) ?_))<;>(refine yL 23 (Zt ZJ) fun v23 h=>?_;cases h)<;>refine xL 7 Zb ?_<;>refine Zh ?_)
 (refine xL 24 Za (xL 25 Za ?_)<;>(refine cS 26 (cA call137 (Lo x y)) fun v26 h=>?_;cases h)<;>refine xL 8 Zb ?_<;>refine Zh ?_)
 (refine xL 27 Za (xL 28 Y9 ?_)<;>refine Zc ?_)
 refine cX ?_ ?_<;>intro hb28
 · first|exact bN hb28|(
 refine Zd ?_;(refine xL 29 Za (xL 4 Zb ?_)<;>refine Zc ?_)
 refine Zi (results99) rfl ?_;rw [hp,hs,Uz hb28])
 · first|exact bN hb28|(
 refine Zd ?_;(refine xL 30 ZB (xL 11 Za ?_)<;>refine Zc ?_)
 refine Zf (
  ⟨k+1,oM,oM,by rw [hp,hs,UA (by simpa using hb28)]⟩
  ) (by dsimp only;omega) ⟨rfl,rfl,rfl,rfl,rfl,trivial⟩ trivial)))
 · first|exact bN hb12|(
 refine Zd ?_;(refine xL 31 Za (xL 32 (ZF Zu) (xL 33 Za (xL 34 (ZF Zu) (xL 35 ZN ?_))))<;>refine Zc ?_)
 refine cX ?_ ?_<;>intro hb35
 · first|exact bN hb35|(
 refine Zd ?_;(refine xL 4 Zb ?_<;>refine Zc ?_)
 refine Zi (results99) rfl ?_;rw [hp,LS oM hk hk',UA oM])
 · first|exact bN hb35|(
 refine Zd ?_;(refine xL 4 Zb ?_<;>refine Zc ?_)
 refine Zi (results99) rfl ?_;rw [hp,LS oM hk hk',Uz oM,Uz oM]))
theorem Ol (l m:List ByteArray):AF prog 42 [ZQ l,ZQ m] (· =Zg (cmpStrs l m)):=by
 refine AF.of_body 8 func42 rfl ntmps42 (Xa rfl) ?_
 intro w0 M0 vs hl hv
 obtain ⟨v0,v1,rfl⟩:=WT hl
 clear hl hv
 refine Zd ?_
 (refine xL 4 Zb ?_<;>refine Zh ?_)
 (refine xL 5 Za (xL 6 Za ?_)<;>(refine cS 7 (cA call99 (Oj l m)) fun v7 h=>?_;cases h)<;>refine xL 4 Zb ?_<;>refine Zc ?_)
 exact Zi results42 rfl rfl
theorem Ws:AggT prog 169 2=true:=by kernel_rfl
theorem YJ:AggT prog 28 2=true:=by kernel_rfl
theorem Zx:NoAgg prog 3=true:=by kernel_rfl
theorem Gn:NoAgg prog 90=true:=by kernel_rfl
theorem Z2:SlT prog 22 28 2=true:=by kernel_rfl
theorem WH:SlT prog 31 169 2=true:=by kernel_rfl
theorem WI:SlT prog 88 90 1=true:=by kernel_rfl
theorem ZE:SlT prog 90 3 1=true:=by kernel_rfl
structure Cnt where
 name:ByteArray
 n:Int
structure Flw where
 src:ByteArray
 dst:ByteArray
 n:Int
structure Dfg where
 acts:List Cnt
 starts:List Cnt
 ends:List Cnt
 follows:List Flw
def Sf (x:Cnt):List PV:=[ZS x.name,Zg x.n]
def Sg (x:Flw):List PV:=[ZS x.src,ZS x.dst,Zg x.n]
theorem W5 (x:Cnt):(Sf x).length=2:=rfl
theorem JP (x:Flw):(Sg x).length=3:=rfl
def KX (l:List Cnt):PV:= .sl l.length (l.flatMap Sf)
def ζi (l:List Flw):PV:= .sl l.length (l.flatMap Sg)
def WS (g:Dfg):PV:= .agg [KX g.acts,KX g.starts,KX g.ends,ζi g.follows]
def pInts (l:List Int):PV:= .sl l.length (l.map Zg)
def Si (l:List (List Int)):PV:= .sl l.length (l.map pInts)
theorem Pb (f:Nat) (caps:List PV) (p:ByteArray→Bool) (l:List (ByteArray)) (hc:∀args w,(callFunc f args).run prog w= .ok (.enter f args) w) (hf:∀s∈l,AF prog f (ZS s::caps) (· =Zo (p s))):AF prog 84 [ZQ l, .fn f caps] (· =Zg (idx p l)):=by
 refine AF.of_body 19 func84 rfl ntmps84 (Xa rfl) ?_
 intro w0 M0 vs hl hv
 obtain ⟨v0,v1,rfl⟩:=WT hl
 clear hl hv
 refine Y0 0 rfl fun hlen=>?_
 refine Zd ?_
 (refine xL 4 Zb ?_<;>refine Zh ?_)
 (refine xL 6 Za (xL 7 (ZF Zu) (xL 8 Za ?_))<;>refine Zc ?_)
 refine Zw (ι:={k:Nat//k≤l.length∧∀i y,i<k→l[i]? =some y→p y=false}) (fun k=>⟨[(0,_,_),(1,_,_),(7,_,_),(8, .int .i64 k.1,Zg k.1)],[]⟩) (fun k=>l.length-k.1) ⟨0,oM,oM⟩ (fun a w H=>H.weaken ⟨rfl,rfl,rfl,rfl,trivial⟩ trivial) ?_
 rintro ⟨k,hk,hp⟩
 dsimp only
 refine Zd ?_
 (refine xL 9 ZN ?_<;>refine Zc ?_)
 refine cX ?_ ?_<;>intro hb9
 · first |exact bN hb9|(
 obtain ⟨x,hx⟩:=Zj (show k<l.length by omega);have e1:=Yn (f:=ZS) hx;refine Zd ?_;(refine xL 10 Za (xL 5 Zb ?_)<;>refine Zh ?_)
 (refine xL 11 Za (xL 12 Za (xL 13 Za (xL 14 (Zn Zu) ?_)))<;>(refine yL 15 (Zt ZJ) fun v15 h=>?_;cases h)<;>(refine cS 16 (Li (f:=f) (ps:=caps) rfl ⟨_,rfl⟩ hc rfl (hf x (Xb hx))) fun v16 h=>?_;cases h)<;>refine Zc ?_)
 refine cX ?_ ?_<;>intro hb16
 · first|exact bN hb16|(
 refine Zd ?_;(refine xL 17 Za (xL 4 Zb ?_)<;>refine Zc ?_)
 refine Zi (results84) rfl ?_;rw [JH hp hx hb16])
 · first|exact bN hb16|(
 refine Zd ?_;(refine xL 18 ZB (xL 8 Za ?_)<;>refine Zc ?_)
 refine Zf (
  ⟨k+1,oM,fun i y hi hy=>by
   by_cases e:i=k
   · subst e;rw [hx] at hy;cases hy;exact hb16
   · exact hp i y oM hy⟩
  ) (by dsimp only;omega) ⟨rfl,rfl,rfl,rfl,trivial⟩ trivial))
 · first|exact bN hb9|(
 refine Zd ?_;(refine xL 4 Zb ?_<;>refine Zc ?_)
 refine Zi (results84) rfl ?_;rw [Gi fun i y hi hy=>hp i y oM hy])
theorem W0 (f:Nat) (caps:List PV) (p:ByteArray→Bool) (l:List (ByteArray)) (hc:∀args w,(callFunc f args).run prog w= .ok (.enter f args) w) (hf:∀s∈l,AF prog f (ZS s::caps) (· =Zo (p s))):AF prog 27 [ZQ l, .fn f caps] (· =Zo (l.any p)):=by
 refine AF.of_body 9 func27 rfl ntmps27 (Xa rfl) ?_
 intro w0 M0 vs hl hv
 obtain ⟨v0,v1,rfl⟩:=WT hl
 clear hl hv
 refine Zd ?_
 (refine xL 4 Zb ?_<;>refine Zh ?_)
 (refine xL 5 Za (xL 6 Za ?_)<;>(refine cS 7 (cA call84 (Pb f caps p l hc hf)) fun v7 h=>?_;cases h)<;>refine xL 8 J6 (xL 4 Zb ?_)<;>refine Zc ?_)
 refine Zi (results27) rfl ?_
 rw [GC]
theorem Pd (f:Nat) (caps:List PV) (p:Int→Bool) (l:List (Int)) (hc:∀args w,(callFunc f args).run prog w= .ok (.enter f args) w) (hf:∀s∈l,AF prog f (Zg s::caps) (· =Zo (p s))):AF prog 158 [pInts l, .fn f caps] (· =Zg (idx p l)):=by
 refine AF.of_body 19 func158 rfl ntmps158 (Xa rfl) ?_
 intro w0 M0 vs hl hv
 obtain ⟨v0,v1,rfl⟩:=WT hl
 clear hl hv
 refine Y0 0 rfl fun hlen=>?_
 refine Zd ?_
 (refine xL 4 Zb ?_<;>refine Zh ?_)
 (refine xL 6 Za (xL 7 (ZF ZE) (xL 8 Za ?_))<;>refine Zc ?_)
 refine Zw (ι:={k:Nat//k≤l.length∧∀i y,i<k→l[i]? =some y→p y=false}) (fun k=>⟨[(0,_,_),(1,_,_),(7,_,_),(8, .int .i64 k.1,Zg k.1)],[]⟩) (fun k=>l.length-k.1) ⟨0,oM,oM⟩ (fun a w H=>H.weaken ⟨rfl,rfl,rfl,rfl,trivial⟩ trivial) ?_
 rintro ⟨k,hk,hp⟩
 dsimp only
 refine Zd ?_
 (refine xL 9 ZN ?_<;>refine Zc ?_)
 refine cX ?_ ?_<;>intro hb9
 · first |exact bN hb9|(
 obtain ⟨x,hx⟩:=Zj (show k<l.length by omega);have e1:=Yn (f:=Zg) hx;refine Zd ?_;(refine xL 10 Za (xL 5 Zb ?_)<;>refine Zh ?_)
 (refine xL 11 Za (xL 12 Za (xL 13 Za (xL 14 (Zn ZE) ?_)))<;>(refine yL 15 (Zt Zx) fun v15 h=>?_;cases h)<;>(refine cS 16 (Li (f:=f) (ps:=caps) rfl ⟨_,rfl⟩ hc rfl (hf x (Xb hx))) fun v16 h=>?_;cases h)<;>refine Zc ?_)
 refine cX ?_ ?_<;>intro hb16
 · first|exact bN hb16|(
 refine Zd ?_;(refine xL 17 Za (xL 4 Zb ?_)<;>refine Zc ?_)
 refine Zi (results158) rfl ?_;rw [JH hp hx hb16])
 · first|exact bN hb16|(
 refine Zd ?_;(refine xL 18 ZB (xL 8 Za ?_)<;>refine Zc ?_)
 refine Zf (
  ⟨k+1,oM,fun i y hi hy=>by
   by_cases e:i=k
   · subst e;rw [hx] at hy;cases hy;exact hb16
   · exact hp i y oM hy⟩
  ) (by dsimp only;omega) ⟨rfl,rfl,rfl,rfl,trivial⟩ trivial))
 · first|exact bN hb9|(
 refine Zd ?_;(refine xL 4 Zb ?_<;>refine Zc ?_)
 refine Zi (results158) rfl ?_;rw [Gi fun i y hi hy=>hp i y oM hy])
theorem TP (f:Nat) (caps:List PV) (p:Int→Bool) (l:List (Int)) (hc:∀args w,(callFunc f args).run prog w= .ok (.enter f args) w) (hf:∀s∈l,AF prog f (Zg s::caps) (· =Zo (p s))):AF prog 108 [pInts l, .fn f caps] (· =Zo (l.any p)):=by
 refine AF.of_body 9 func108 rfl ntmps108 (Xa rfl) ?_
 intro w0 M0 vs hl hv
 obtain ⟨v0,v1,rfl⟩:=WT hl
 clear hl hv
 refine Zd ?_
 (refine xL 4 Zb ?_<;>refine Zh ?_)
 (refine xL 5 Za (xL 6 Za ?_)<;>(refine cS 7 (cA call158 (Pd f caps p l hc hf)) fun v7 h=>?_;cases h)<;>refine xL 8 J6 (xL 4 Zb ?_)<;>refine Zc ?_)
 refine Zi (results108) rfl ?_
 rw [GC]
theorem Rt (f:Nat) (caps:List PV) (p:List Int→Bool) (l:List (List Int)) (hc:∀args w,(callFunc f args).run prog w= .ok (.enter f args) w) (hf:∀s∈l,AF prog f (pInts s::caps) (· =Zo (p s))):AF prog 58 [Si l, .fn f caps] (· =Zg (idx p l)):=by
 refine AF.of_body 19 func58 rfl ntmps58 (Xa rfl) ?_
 intro w0 M0 vs hl hv
 obtain ⟨v0,v1,rfl⟩:=WT hl
 clear hl hv
 refine Y0 0 rfl fun hlen=>?_
 refine Zd ?_
 (refine xL 4 Zb ?_<;>refine Zh ?_)
 (refine xL 6 Za (xL 7 (ZF WI) (xL 8 Za ?_))<;>refine Zc ?_)
 refine Zw (ι:={k:Nat//k≤l.length∧∀i y,i<k→l[i]? =some y→p y=false}) (fun k=>⟨[(0,_,_),(1,_,_),(7,_,_),(8, .int .i64 k.1,Zg k.1)],[]⟩) (fun k=>l.length-k.1) ⟨0,oM,oM⟩ (fun a w H=>H.weaken ⟨rfl,rfl,rfl,rfl,trivial⟩ trivial) ?_
 rintro ⟨k,hk,hp⟩
 dsimp only
 refine Zd ?_
 (refine xL 9 ZN ?_<;>refine Zc ?_)
 refine cX ?_ ?_<;>intro hb9
 · first |exact bN hb9|(
 obtain ⟨x,hx⟩:=Zj (show k<l.length by omega);have e1:=Yn (f:=pInts) hx;refine Zd ?_;(refine xL 10 Za (xL 5 Zb ?_)<;>refine Zh ?_)
 (refine xL 11 Za (xL 12 Za (xL 13 Za (xL 14 (Zn WI) ?_)))<;>(refine yL 15 (Zt Gn) fun v15 h=>?_;cases h)<;>(refine cS 16 (Li (f:=f) (ps:=caps) rfl ⟨_,rfl⟩ hc rfl (hf x (Xb hx))) fun v16 h=>?_;cases h)<;>refine Zc ?_)
 refine cX ?_ ?_<;>intro hb16
 · first|exact bN hb16|(
 refine Zd ?_;(refine xL 17 Za (xL 4 Zb ?_)<;>refine Zc ?_)
 refine Zi (results58) rfl ?_;rw [JH hp hx hb16])
 · first|exact bN hb16|(
 refine Zd ?_;(refine xL 18 ZB (xL 8 Za ?_)<;>refine Zc ?_)
 refine Zf (
  ⟨k+1,oM,fun i y hi hy=>by
   by_cases e:i=k
   · subst e;rw [hx] at hy;cases hy;exact hb16
   · exact hp i y oM hy⟩
  ) (by dsimp only;omega) ⟨rfl,rfl,rfl,rfl,trivial⟩ trivial))
 · first|exact bN hb9|(
 refine Zd ?_;(refine xL 4 Zb ?_<;>refine Zc ?_)
 refine Zi (results58) rfl ?_;rw [Gi fun i y hi hy=>hp i y oM hy])
theorem Lp (f:Nat) (caps:List PV) (p:Var→Bool) (l:List (Var)) (hc:∀args w,(callFunc f args).run prog w= .ok (.enter f args) w) (hf:∀s∈l,AF prog f (.agg (Wd s)::caps) (· =Zo (p s))):AF prog 43 [Wi l, .fn f caps] (· =Zg (idx p l)):=by
 refine AF.of_body 19 func43 rfl ntmps43 (Xa rfl) ?_
 intro w0 M0 vs hl hv
 obtain ⟨v0,v1,rfl⟩:=WT hl
 clear hl hv
 refine Y0 0 rfl fun hlen=>?_
 refine Zd ?_
 (refine xL 4 Zb ?_<;>refine Zh ?_)
 (refine xL 6 Za (xL 7 (ZF Z2) (xL 8 Za ?_))<;>refine Zc ?_)
 refine Zw (ι:={k:Nat//k≤l.length∧∀i y,i<k→l[i]? =some y→p y=false}) (fun k=>⟨[(0,_,_),(1,_,_),(7,_,_),(8, .int .i64 k.1,Zg k.1)],[]⟩) (fun k=>l.length-k.1) ⟨0,oM,oM⟩ (fun a w H=>H.weaken ⟨rfl,rfl,rfl,rfl,trivial⟩ trivial) ?_
 rintro ⟨k,hk,hp⟩
 dsimp only
 refine Zd ?_
 (refine xL 9 ZN ?_<;>refine Zc ?_)
 refine cX ?_ ?_<;>intro hb9
 · first |exact bN hb9|(
 obtain ⟨x,hx⟩:=Zj (show k<l.length by omega);have e1:=Yp Z1 l k x hx;have e2:=YI Z1 hx;refine Zd ?_;(refine xL 10 Za (xL 5 Zb ?_)<;>refine Zh ?_)
 (refine xL 11 Za (xL 12 Za (xL 13 Za (xL 14 (Zn Z2) ?_)))<;>(refine yL 15 (Jm YJ) fun v15 h=>?_;cases h)<;>(refine cS 16 (Li (f:=f) (ps:=caps) rfl ⟨_,rfl⟩ hc rfl (hf x (Xb hx))) fun v16 h=>?_;cases h)<;>refine Zc ?_)
 refine cX ?_ ?_<;>intro hb16
 · first|exact bN hb16|(
 refine Zd ?_;(refine xL 17 Za (xL 4 Zb ?_)<;>refine Zc ?_)
 refine Zi (results43) rfl ?_;rw [JH hp hx hb16])
 · first|exact bN hb16|(
 refine Zd ?_;(refine xL 18 ZB (xL 8 Za ?_)<;>refine Zc ?_)
 refine Zf (
  ⟨k+1,oM,fun i y hi hy=>by
   by_cases e:i=k
   · subst e;rw [hx] at hy;cases hy;exact hb16
   · exact hp i y oM hy⟩
  ) (by dsimp only;omega) ⟨rfl,rfl,rfl,rfl,trivial⟩ trivial))
 · first|exact bN hb9|(
 refine Zd ?_;(refine xL 4 Zb ?_<;>refine Zc ?_)
 refine Zi (results43) rfl ?_;rw [Gi fun i y hi hy=>hp i y oM hy])
theorem J7 (f:Nat) (caps:List PV) (p:Var→Bool) (l:List (Var)) (hc:∀args w,(callFunc f args).run prog w= .ok (.enter f args) w) (hf:∀s∈l,AF prog f (.agg (Wd s)::caps) (· =Zo (p s))):AF prog 38 [Wi l, .fn f caps] (· =Zo (l.any p)):=by
 refine AF.of_body 9 func38 rfl ntmps38 (Xa rfl) ?_
 intro w0 M0 vs hl hv
 obtain ⟨v0,v1,rfl⟩:=WT hl
 clear hl hv
 refine Zd ?_
 (refine xL 4 Zb ?_<;>refine Zh ?_)
 (refine xL 5 Za (xL 6 Za ?_)<;>(refine cS 7 (cA call43 (Lp f caps p l hc hf)) fun v7 h=>?_;cases h)<;>refine xL 8 J6 (xL 4 Zb ?_)<;>refine Zc ?_)
 refine Zi (results38) rfl ?_
 rw [GC]
theorem Sj (f:Nat) (caps:List PV) (p:Cnt→Bool) (l:List (Cnt)) (hc:∀args w,(callFunc f args).run prog w= .ok (.enter f args) w) (hf:∀s∈l,AF prog f (.agg (Sf s)::caps) (· =Zo (p s))):AF prog 208 [KX l, .fn f caps] (· =Zg (idx p l)):=by
 refine AF.of_body 19 func208 rfl ntmps208 (Xa rfl) ?_
 intro w0 M0 vs hl hv
 obtain ⟨v0,v1,rfl⟩:=WT hl
 clear hl hv
 refine Y0 0 rfl fun hlen=>?_
 refine Zd ?_
 (refine xL 4 Zb ?_<;>refine Zh ?_)
 (refine xL 6 Za (xL 7 (ZF WH) (xL 8 Za ?_))<;>refine Zc ?_)
 refine Zw (ι:={k:Nat//k≤l.length∧∀i y,i<k→l[i]? =some y→p y=false}) (fun k=>⟨[(0,_,_),(1,_,_),(7,_,_),(8, .int .i64 k.1,Zg k.1)],[]⟩) (fun k=>l.length-k.1) ⟨0,oM,oM⟩ (fun a w H=>H.weaken ⟨rfl,rfl,rfl,rfl,trivial⟩ trivial) ?_
 rintro ⟨k,hk,hp⟩
 dsimp only
 refine Zd ?_
 (refine xL 9 ZN ?_<;>refine Zc ?_)
 refine cX ?_ ?_<;>intro hb9
 · first |exact bN hb9|(
 obtain ⟨x,hx⟩:=Zj (show k<l.length by omega);have e1:=Yp W5 l k x hx;have e2:=YI W5 hx;refine Zd ?_;(refine xL 10 Za (xL 5 Zb ?_)<;>refine Zh ?_)
 (refine xL 11 Za (xL 12 Za (xL 13 Za (xL 14 (Zn WH) ?_)))<;>(refine yL 15 (Jm Ws) fun v15 h=>?_;cases h)<;>(refine cS 16 (Li (f:=f) (ps:=caps) rfl ⟨_,rfl⟩ hc rfl (hf x (Xb hx))) fun v16 h=>?_;cases h)<;>refine Zc ?_)
 refine cX ?_ ?_<;>intro hb16
 · first|exact bN hb16|(
 refine Zd ?_;(refine xL 17 Za (xL 4 Zb ?_)<;>refine Zc ?_)
 refine Zi (results208) rfl ?_;rw [JH hp hx hb16])
 · first|exact bN hb16|(
 refine Zd ?_;(refine xL 18 ZB (xL 8 Za ?_)<;>refine Zc ?_)
 refine Zf (
  ⟨k+1,oM,fun i y hi hy=>by
   by_cases e:i=k
   · subst e;rw [hx] at hy;cases hy;exact hb16
   · exact hp i y oM hy⟩
  ) (by dsimp only;omega) ⟨rfl,rfl,rfl,rfl,trivial⟩ trivial))
 · first|exact bN hb9|(
 refine Zd ?_;(refine xL 4 Zb ?_<;>refine Zc ?_)
 refine Zi (results208) rfl ?_;rw [Gi fun i y hi hy=>hp i y oM hy])
theorem Tc (f:Nat) (caps:List PV) (p:Cnt→Bool) (l:List (Cnt)) (hc:∀args w,(callFunc f args).run prog w= .ok (.enter f args) w) (hf:∀s∈l,AF prog f (.agg (Sf s)::caps) (· =Zo (p s))):AF prog 144 [KX l, .fn f caps] (· =Zo (l.any p)):=by
 refine AF.of_body 9 func144 rfl ntmps144 (Xa rfl) ?_
 intro w0 M0 vs hl hv
 obtain ⟨v0,v1,rfl⟩:=WT hl
 clear hl hv
 refine Zd ?_
 (refine xL 4 Zb ?_<;>refine Zh ?_)
 (refine xL 5 Za (xL 6 Za ?_)<;>(refine cS 7 (cA call208 (Sj f caps p l hc hf)) fun v7 h=>?_;cases h)<;>refine xL 8 J6 (xL 4 Zb ?_)<;>refine Zc ?_)
 refine Zi (results144) rfl ?_
 rw [GC]
theorem Yd:FldT prog 28 0 0=true:=by kernel_rfl
theorem YO:FldT prog 28 1 1=true:=by kernel_rfl
theorem ZL:NoAgg prog 26=true:=by kernel_rfl
theorem Gp:ZeroT prog 28 (.agg #[(.slice none 0 0),(.int .i64 0)]):=by unfold ZeroT;kernel_rfl
def DK (l:List ByteArray):Prop:=l.length≤140737488355328∧∀s∈l,s.size≤140737488355328
def Ru (l:List Var):Prop:=l.length≤140737488355328∧∀x∈l,DK x.acts∧-9223372036854775808≤x.count∧x.count≤9223372036854775807
theorem HJ {α β:Type} (f:α→β) (l:List α):l.map f=l.flatMap fun x=>[f x]:=by
 induction l with
 |nil=>rfl
 |cons x l ih=>rw [Xk,ih];rfl
theorem Ch (s:ByteArray) (hs:s.size≤9223372036854775807):AF prog 97 [ZS s] (· =Zo (!isName s)):=by
 refine AF.of_body 6 func97 rfl ntmps97 (Xa rfl) ?_
 intro w0 M0 vs hl hv
 obtain ⟨v0,rfl⟩:=WO hl
 obtain rfl:=hv 0 _ _ rfl rfl
 clear hl hv
 refine Zd ?_
 (refine xL 2 Zb ?_<;>refine Zh ?_)
 (refine xL 3 Za ?_<;>(refine cS 4 (cA call98 (R8 s hs)) fun v4 h=>?_;cases h)<;>refine xL 5 Yj (xL 2 Zb ?_)<;>refine Zc ?_)
 exact Zi results97 rfl rfl
theorem Zaw (l:List ByteArray) (hf:DK l):AF prog 41 [ZQ l] (· =Zo (l.all isName)):=by
 refine AF.of_body 6 func41 rfl ntmps41 (Xa rfl) ?_
 intro w0 M0 vs hl hv
 obtain ⟨v0,rfl⟩:=WO hl
 clear hl hv
 refine Zd ?_
 (refine xL 2 Zb ?_<;>refine Zh ?_)
 (refine xL 3 Za ?_<;>(refine cS 4 (cA call27 (W0 97 [] (fun s=> !isName s) l (call97) (fun s hs=>Ch s (by have:=hf.2 s hs;omega)))) fun v4 h=>?_;cases h)<;>refine xL 5 Yj (xL 2 Zb ?_)<;>refine Zc ?_)
 refine Zi (results41) rfl (TO ?_)
 simp
theorem TQ {x:Var} (h:200<x.acts.length∨x.acts.all isName=false∨x.count<1∨1048576<x.count):YQ x=false:=by
 unfold YQ
 rcases h with h|h|h|h
 · rw [Uy (show ¬x.acts.length≤200 by omega)];simp
 · rw [h];simp
 · rw [Uy (show ¬1≤x.count by omega)];simp
 · rw [Uy (show ¬x.count≤1048576 by omega)];simp
theorem Zax {x:Var} (h1:x.acts.length≤200) (h2:x.acts.all isName=true) (h3:1≤x.count) (h4:x.count≤1048576):YQ x=true:=by
 unfold YQ;rw [Ux h1,h2,Ux h3,Ux h4];rfl
theorem GU {l:List Var} {k:Nat} {x:Var} (h:l[k]? =some x) (ho:YQ x=false):KP l k=false:=by
 unfold KP;rw [h];simp [ho]
theorem Ci {l:List Var} {k:Nat} {x y:Var} (h:l[k]? =some x) (hy:l[k-1]? =some y) (hk:0<k) (hc:0≤cmpStrs y.acts x.acts):KP l k=false:=by
 rw [GH h hy hk,Uy (show ¬cmpStrs y.acts x.acts<0 by omega)];simp
theorem HK {l:List Var} {k:Nat} {x y:Var} (h:l[k]? =some x) (hy:l[k-1]? =some y) (ho:YQ x=true) (hc:0<k→cmpStrs y.acts x.acts<0):KP l k=true:=by
 rcases Vx k with h0|h0
 · subst h0;rw [Ht h];exact ho
 · rw [GH h hy h0,ho,Ux (hc h0)];rfl
theorem Ks (l : List Var) (hf:Ru l):AF prog 9 [Wi l] (· =Zo (validVars l)):=by
 refine AF.of_body 52 func9 rfl ntmps9 (Xa rfl) ?_
 intro w0 M0 vs hl hv
 obtain ⟨v0,rfl⟩:=WO hl
 clear hl hv
 refine Y0 0 rfl fun hlen=>?_
 refine Zd ?_
 (refine xL 2 Zb ?_<;>refine Zh ?_)
 (refine xL 5 Za (xL 6 (ZF Z2) (xL 7 Kj ?_))<;>refine Zc ?_)
 refine cX ?_ ?_<;>intro hb7
 · first|exact bN hb7|(
 refine Zd ?_;(refine xL 2 Zb ?_<;>refine Zc ?_)
 refine Zi (results9) rfl ?_;rw [show validVars l=false by unfold validVars;rw [Uy (show ¬l.length≤300 by omega)];simp])
 · first | exact bN hb7|(
 refine Zd ?_;(refine xL 8 Za (xL 9 (ZF Z2) (xL 10 Za ?_))<;>refine Zc ?_)
 refine Zw (ι:={k:Nat//k≤l.length∧∀j,j<k→KP l j=true}) (fun k=>⟨[(0,_,_),(8,_,_),(9,_,_),(10, .int .i64 k.1,Zg k.1)],[]⟩) (fun k=>l.length-k.1) ⟨0,oM,oM⟩ (fun a w H=>H.weaken ⟨rfl,rfl,rfl,rfl,trivial⟩ trivial) ?_;rintro ⟨k,hk,hp⟩;dsimp only;refine Zd ?_;(refine xL 11 ZN ?_<;>refine Zc ?_)
 refine cX ?_ ?_<;>intro hb11
 · first | exact bN hb11|(
 have hlt:k<l.length:=oM;obtain ⟨x,hx⟩:=Zj hlt;obtain ⟨y,hy⟩:=Zj (show k-1<l.length by omega);have e1:=Yp Z1 l k x hx;have e2:=YI Z1 hx;(have e3:(l.flatMap Wd)[((k:Int)-1).toNat*2+0]? =some (ZQ y.acts):=by rw [show ((k:Int)-1).toNat*2+0=(k-1)*2+0 by omega];exact Wm Z1 hy dC);have hfx:=hf.2 x (Xb hx);have hxl:=hfx.1.1;refine Zd ?_;(refine xL 12 Za (xL 13 (Zn Z2) ?_)<;>(refine yL 14 (Jm YJ) fun v14 h=>?_;cases h)<;>refine ZV [(.slice none 0 0),(.int .i64 0)] 2 4 Gp fun h4=>?_<;>refine xL 3 Zb ?_<;>refine YN 4 YJ ?_<;>refine Zc ?_)
 (refine ZR (fun i=>([]:List Nat).elem i) [4] kR ?_<;>refine xE 0 15 rfl (Zm 4 Yd) ?_<;>(refine yE 1 16 rfl (Zp 4 ZL) fun v16 h=>?_;cases h)<;>refine xE 2 17 rfl (ZF Zu) ?_<;>refine xE 3 18 rfl Kj ?_<;>refine xE 4 19 rfl Za ?_<;>(refine bDd 19 (fun hb19=>?_) (fun hb19=>?_)<;>(first|refine kD 5 20 rfl ?_|refine xD 5 20 rfl (Zm 4 Yd) ?_))<;>(first|refine kD 6 21 rfl ?_|(refine yD 6 21 rfl (Zp 4 ZL) fun v21 h=>?_;cases h))<;>(refine Zy 7 kR ?_)<;>(refine ZA rfl fun w9 M9 N9 DQ back=>?_)<;>(first|refine kL 22 ?_|(refine cS 22 (cA call41 (Zaw x.acts hfx.1)) fun v22 h=>?_;cases h))<;>refine Zr (back _ (nrm ?_))<;>(first|refine kD 8 23 rfl ?_|refine xD 8 23 rfl Yj ?_)<;>refine xE 9 24 rfl Zv ?_<;>refine xE 10 25 rfl Za ?_<;>(first|refine kD 11 26 rfl ?_|(refine bD 25 (fun hb25=>?_) (fun hb25=>?_)<;>(first|refine kD 11 26 rfl ?_|refine xD 11 26 rfl (Zm 4 YO) ?_)))<;>(first|refine kD 12 27 rfl ?_|(refine yD 12 27 rfl (Zp 4 Zx) fun v27 h=>?_;cases h))<;>(first|refine kD 13 28 rfl ?_|refine xD 13 28 rfl ZN ?_)<;>refine xE 14 29 rfl Zv ?_<;>refine xE 15 30 rfl Za ?_<;>(first|refine kD 16 31 rfl ?_|(refine bDd 30 (fun hb30=>?_) (fun hb30=>?_)<;>(first|refine kD 16 31 rfl ?_|refine xD 16 31 rfl (Zm 4 YO) ?_)))<;>(first|refine kD 17 32 rfl ?_|(refine yD 17 32 rfl (Zp 4 Zx) fun v32 h=>?_;cases h))<;>(first|refine kD 18 33 rfl ?_|refine xD 18 33 rfl Kj ?_)<;>refine xE 19 34 rfl Zv ?_<;>refine xE 20 35 rfl Za ?_<;>(first|refine kD 21 36 rfl ?_|(refine bDd 35 (fun hb35=>?_) (fun hb35=>?_)<;>(first|refine kD 21 36 rfl ?_|refine xD 21 36 rfl Za ?_)))<;>(first|refine kD 22 37 rfl ?_|refine xD 22 37 rfl Kj ?_)<;>(first|refine kD 23 38 rfl ?_|refine xD 23 38 rfl Za ?_)<;>(first|refine kD 24 39 rfl ?_|(refine bDd 38 (fun hb38=>?_) (fun hb38=>?_)<;>(first|refine kD 24 39 rfl ?_|refine xD 24 39 rfl Za ?_)))<;>(first|refine kD 25 40 rfl ?_|refine xD 25 40 rfl Za ?_)<;>(first|refine kD 26 41 rfl ?_|refine xD 26 41 rfl KW ?_)<;>(first|refine kD 27 42 rfl ?_|refine xD 27 42 rfl (Tf Z2) ?_)<;>(first|refine kD 28 43 rfl ?_|refine xD 28 43 rfl (Ye Yd) ?_)<;>(first|refine kD 29 44 rfl ?_|(refine yD 29 44 rfl (Zt ZL) fun v44 h=>?_;cases h))<;>(first|refine kD 30 45 rfl ?_|refine xD 30 45 rfl (Zm 4 Yd) ?_)<;>(first|refine kD 31 46 rfl ?_|(refine yD 31 46 rfl (Zp 4 ZL) fun v46 h=>?_;cases h))<;>(refine Zy 32 kR ?_)<;>(refine ZA rfl fun w9 M9 N9 DQ back=>?_)<;>(first|refine kL 47 ?_|(refine cS 47 (cA call42 (Ol y.acts x.acts)) fun v47 h=>?_;cases h))<;>refine Zr (back _ (nrm ?_))<;>(first|refine kD 33 48 rfl ?_|refine xD 33 48 rfl J6 ?_)<;>(first|refine kD 34 49 rfl ?_|refine xD 34 49 rfl Zv ?_)<;>refine xE 35 50 rfl Zv ?_<;>refine YU kR (nav ?_)<;>try dsimp only)<;>(
 refine cX ?_ ?_<;>intro hb50
 · first|exact bN hb50|(
 refine Zd ?_;(refine xL 2 Zb ?_<;>refine Zc ?_)
 refine Zi (results9) rfl ?_;rw [RQ hlt]
 first
  |exact GU hx (TQ (.inl oM))
  |exact GU hx (TQ (.inr (.inl (by simpa using hb25))))
  |exact GU hx (TQ (.inr (.inr (.inl oM))))
  |exact GU hx (TQ (.inr (.inr (.inr oM))))
  |exact Ci hx hy oM oM)
 · first |exact bN hb50|(
 refine Zd ?_;(refine xL 51 ZB (xL 10 Za ?_)<;>refine Zc ?_)
 refine Zf (
  ⟨k +1,oM,fun j hj=>by
   by_cases e:j=k
   · subst e;exact HK hx hy (Zax oM (by simpa using hb25) oM oM) oM
   · exact hp j oM⟩
  ) (by dsimp only;omega) ⟨rfl,rfl,rfl,rfl,trivial⟩ trivial)))
 · first|exact bN hb11|(
 refine Zd ?_;(refine xL 2 Zb ?_<;>refine Zc ?_)
 refine Zi (results9) rfl ?_;rw [Te oM (fun j hj=>hp j oM)]))
theorem G9 (l m:List Var) (hf:Ru l) (hg:Ru m):AF prog 37 [Wi l,Wi m] (· =Zo (We l m)):=by
 refine AF.of_body 42 func37 rfl ntmps37 (Xa rfl) ?_
 intro w0 M0 vs hl hv
 obtain ⟨v0,v1,rfl⟩:=WT hl
 clear hl hv
 refine Y0 0 rfl fun hlen=>?_
 refine Y0 1 rfl fun hlem=>?_
 refine Zd ?_
 (refine xL 4 Zb ?_<;>refine Zh ?_)
 (refine xL 6 Za (xL 7 (ZF Z2) (xL 8 Za (xL 9 (ZF Z2) (xL 10 Y9 ?_))))<;>refine Zc ?_)
 refine cX ?_ ?_<;>intro hb10
 · first|exact bN hb10|(
 refine Zd ?_;(refine xL 4 Zb ?_<;>refine Zc ?_)
 refine Zi (results37) rfl ?_;rw [show We l m=false from Bool.eq_false_iff.2 fun h=>by have:=TH h;omega])
 · first | exact bN hb10|(
 refine Zd ?_;(refine xL 5 Zb ?_<;>refine Zc ?_)
 refine Zw (ι:={k:Nat//k≤l.length∧We l m=We (l.drop k) (m.drop k)}) (fun k=>⟨[(0,_,_),(1,_,_),(5, .int .i64 k.1,Zg k.1)],[]⟩) (fun k=>l.length-k.1) ⟨0,oM,rfl⟩ (fun a w H=>H.weaken ⟨rfl,rfl,rfl,trivial⟩ trivial) ?_;rintro ⟨k,hk,hp⟩;dsimp only;refine Zd ?_;(refine xL 11 Za (xL 12 Za (xL 13 (ZF Z2) (xL 14 ZN ?_)))<;>refine Zc ?_)
 refine cX ?_ ?_<;>intro hb14
 · first | exact bN hb14|(
 obtain ⟨x,hx⟩:=Zj (show k<l.length by omega);obtain ⟨y,hy⟩:=Zj (show k<m.length by omega);have e1:(l.flatMap Wd)[k*2+0]? =some (ZQ x.acts):=Wm Z1 hx dC;have e2:(m.flatMap Wd)[k*2+0]? =some (ZQ y.acts):=Wm Z1 hy dC;have e3:(l.flatMap Wd)[k*2+1]? =some (Zg x.count):=Wm Z1 hx dC;have e4:(m.flatMap Wd)[k*2+1]? =some (Zg y.count):=Wm Z1 hy dC;have hs:=Oh hx hy;refine nav ?_;(refine ZR (fun i=>([]:List Nat).elem i) [] kR ?_<;>refine xD 0 17 rfl Za ?_<;>refine xD 1 18 rfl Za ?_<;>refine xD 2 19 rfl (Zn Z2) ?_<;>refine xD 3 20 rfl (Ye YO) ?_<;>(refine yD 4 21 rfl (Zt Zx) fun v21 h=>?_;cases h)<;>refine xD 5 22 rfl Za ?_<;>refine xE 6 23 rfl Za ?_<;>refine xE 7 24 rfl (Zn Z2) ?_<;>refine xE 8 25 rfl (Ye YO) ?_<;>(refine yE 9 26 rfl (Zt Zx) fun v26 h=>?_;cases h)<;>refine xE 10 27 rfl Y9 ?_<;>refine xE 11 28 rfl Za ?_<;>(refine bDd 28 (fun hb28=>?_) (fun hb28=>?_)<;>(first|refine kD 12 29 rfl ?_|refine xD 12 29 rfl Za ?_))<;>(first|refine kD 13 30 rfl ?_|refine xD 13 30 rfl Za ?_)<;>(first|refine kD 14 31 rfl ?_|refine xD 14 31 rfl (Zn Z2) ?_)<;>(first|refine kD 15 32 rfl ?_|refine xD 15 32 rfl (Ye Yd) ?_)<;>(first|refine kD 16 33 rfl ?_|(refine yD 16 33 rfl (Zt ZL) fun v33 h=>?_;cases h))<;>(first|refine kD 17 34 rfl ?_|refine xD 17 34 rfl Za ?_)<;>(first|refine kD 18 35 rfl ?_|refine xD 18 35 rfl Za ?_)<;>(first|refine kD 19 36 rfl ?_|refine xD 19 36 rfl (Zn Z2) ?_)<;>(first|refine kD 20 37 rfl ?_|refine xD 20 37 rfl (Ye Yd) ?_)<;>(first|refine kD 21 38 rfl ?_|(refine yD 21 38 rfl (Zt ZL) fun v38 h=>?_;cases h))<;>(refine Zy 22 kR ?_)<;>(refine ZA rfl fun w9 M9 N9 DQ back=>?_)<;>(first|refine kL 39 ?_|(refine cS 39 (cA call96 (ZdR x.acts y.acts)) fun v39 h=>?_;cases h))<;>refine Zr (back _ (nrm ?_))<;>(first|refine kD 23 40 rfl ?_|refine xD 23 40 rfl Yj ?_)<;>refine xE 24 41 rfl Zv ?_<;>refine YU kR (nav ?_)<;>try dsimp only)<;>(
 refine cX ?_ ?_<;>intro hb41
 · first|exact bN hb41|(
 refine Zd ?_;(refine xL 4 Zb ?_<;>refine Zc ?_)
 refine Zi (results37) rfl ?_;rw [hp,hs];unfold RG
 first
  |(rw [show (x.count==y.count)=false by simpa using hb28];rfl)
  |(rw [show decide (cmpStrs x.acts y.acts=0)=false by simpa using hb41];simp))
 · first|exact bN hb41|(
 refine Zd ?_;(refine xL 15 Za (xL 16 ZB (xL 5 Zb ?_))<;>refine Zc ?_)
 refine Zf (
  ⟨k+1,oM,by
   rw [hp,hs];unfold RG;rw [show (x.count==y.count)=true by simpa using hb28,show decide (cmpStrs x.acts y.acts=0)=true by simpa using hb41];rfl⟩
  ) (by dsimp only;omega) ⟨rfl,rfl,rfl,trivial⟩ trivial)))
 · first|exact bN hb14|(
 refine Zd ?_;(refine xL 4 Zb ?_<;>refine Zc ?_)
 refine Zi (results37) rfl ?_;rw [hp,XI oM,XI oM];rfl))
def DL (s:ByteArray):Bool:=decide ((60:Int)<(s.size:Int))
def TR (x:Var):Bool:=decide ((15:Int)<(x.acts.length:Int))||x.acts.any DL
def TS (l:List Var):Bool:=decide ((l.length:Int)≤12)&& !l.any TR
theorem Rv (s:ByteArray):AF prog 40 [ZS s] (· =Zo (DL s)):=by
 refine AF.of_body 6 func40 rfl ntmps40 (Xa rfl) ?_
 intro w0 M0 vs hl hv
 obtain ⟨v0,rfl⟩:=WO hl
 obtain rfl:=hv 0 _ _ rfl rfl
 clear hl hv
 refine Zd ?_
 (refine xL 2 Zb ?_<;>refine Zh ?_)
 (refine xL 3 Za (xL 4 (DF underlying9) (xL 5 Kj (xL 2 Zb ?_)))<;>refine Zc ?_)
 exact Zi results40 rfl rfl
theorem Pe (x:Var):AF prog 39 [.agg (Wd x)] (· =Zo (TR x)):=by
 refine AF.of_body 12 func39 rfl ntmps39 (Xa rfl) ?_
 intro w0 M0 vs hl hv
 obtain ⟨v0,rfl⟩:=WO hl
 clear hl hv
 refine Zd ?_
 (refine Yr 1 2 fun h1=>?_<;>refine xL 2 Zb ?_<;>refine Zh ?_)
 (refine xL 3 (Zm 1 Yd) ?_<;>(refine yL 4 (Zp 1 ZL) fun v4 h=>?_;cases h)<;>refine xL 5 (ZF Zu) (xL 6 Kj (xL 7 Za ?_))<;>(refine bLd 7 (fun hb7=>?_) (fun hb7=>?_)<;>(first|refine kL 8 ?_|refine xL 8 (Zm 1 Yd) ?_))<;>(first|refine kL 9 ?_|(refine yL 9 (Zp 1 ZL) fun v9 h=>?_;cases h))<;>(first|refine kL 10 ?_|(refine cS 10 (cA call27 (W0 40 [] DL x.acts (call40) (fun s _=>Rv s))) fun v10 h=>?_;cases h))<;>refine xL 11 Zv (xL 2 Zb ?_)<;>refine Zc ?_)<;>(
 refine Zi (results39) rfl ?_;show Zo _=Zo _;unfold TR
 first|rw [Ux hb7]|rw [Uy hb7]
 simp)
theorem Om (l:List Var):AF prog 8 [Wi l] (· =Zo (TS l)):=by
 refine AF.of_body 11 func8 rfl ntmps8 (Xa rfl) ?_
 intro w0 M0 vs hl hv
 obtain ⟨v0,rfl⟩:=WO hl
 clear hl hv
 refine Zd ?_
 (refine xL 2 Zb ?_<;>refine Zh ?_)
 (refine xL 3 Za (xL 4 (ZF Z2) (xL 5 OH (xL 6 Za ?_)))<;>(refine bLd 6 (fun hb6=>?_) (fun hb6=>?_)<;>(first|refine kL 7 ?_|refine xL 7 Za ?_))<;>(first|refine kL 8 ?_|(refine cS 8 (cA call38 (J7 39 [] TR l (call39) (fun x _=>Pe x))) fun v8 h=>?_;cases h))<;>(first|refine kL 9 ?_|refine xL 9 Yj ?_)<;>refine xL 10 Zv (xL 2 Zb ?_)<;>refine Zc ?_)<;>(
 refine Zi (results8) rfl ?_;show Zo _=Zo _;unfold TS
 first|rw [Ux hb6]|rw [Uy hb6]
 simp)
end Go.Proofs.YtmkojdfiadbeeaaGreat
