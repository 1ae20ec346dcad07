/-
  Walks of functions and plain laws of the chapter, as the claim needs them.
-/
import Derived.KernelRfl
import Derived.Test.YteiincihiagidaaGreatProg
import Derived.Test.YteiincihiagidaaGreatPf01
set_option linter.all false
set_option maxRecDepth 100000
set_option maxHeartbeats 8000000
namespace Go.En
open Go.RowKit Go.Cb
section
variable {P:Program} {c:Ctx} {sL hP:List (Nat×Ent)} {o:Oper}
theorem ZeT {t k j:Nat} {x:Operand} {v:Value} {cs ps:List PV} (hT:AggT P t k=true) (ho:o.op= .load t x) (hx:ev sL x=some (v, .sptr j cs)) (hp:j+k≤cs.length) (hps:(cs.drop j).take k=ps):YE P (⟨sL,hP⟩:St) o (fun _=>True) (.agg ps):=hps▸Zh9 hT ho hx hp
theorem ZeU {t k j e k' n:Nat} {x:Operand} {h:Value} {q:PV} {cs ps:List PV} (l:Nat) (hT:AggT P t k=true) (ho:o.op= .load t x) (hx:ev sL x=some (ZD (Zr h) j,q)) (hl:lk hP l=some (h, .own e k' n cs)) (hp:j+k≤cs.length) (hk:0<k) (hps:(cs.drop j).take k=ps) (hsh:ps.all GU=true):YE P (⟨sL,hP⟩:St) o (fun _=>True) (.agg ps):=by
 subst hps;exact Zia l hT ho hx hl hp hsh hk
theorem HC {t j:Nat} {x:Operand} {v:Value} {cs:List PV} {p:PV} (i:Nat) (hT:NoAgg P t=true) (ho:o.op= .load t x) (hx:ev sL x=some (v, .sptr j cs)) (hj:j=i) (hp:cs[i]? =some p):YE P (⟨sL,hP⟩:St) o (vOf p) p:=by
 subst hj;exact Zcu hT ho hx hp
theorem Jl {t j e k n:Nat} {x:Operand} {h:Value} {q:PV} {cs:List PV} {p:PV} (l i:Nat) (hT:NoAgg P t=true) (ho:o.op= .load t x) (hx:ev sL x=some (ZD (Zr h) j,q)) (hl:lk hP l=some (h, .own e k n cs)) (hj:j=i) (hp:cs[i]? =some p) (hsh:GU p=true):YE P (⟨sL,hP⟩:St) o (vOf p) p:=by
 subst hj;exact Zcv l hT ho hx hl hp hsh
theorem ZqG {f:Nat} {caps:Array Operand} {es:List Ent} (ho:o.op= .makeFunc (.func f) #[] caps) (hx:evL sL caps.toList=some es):YE P (⟨sL,hP⟩:St) o (· = .func (.func f) #[] (es.map (·.1)).toArray) (.fn f (es.map (·.2))):=
 .exact fun M F a w H=>by
  obtain ⟨h1,h2⟩:=TA H hx;refine ⟨.fn f _ _ (by rw [Xb,Xb]) h2,?_⟩;have:caps.map a.eval=(es.map (·.1)).toArray:=by rw [←h1,←VT,VL]
  simp [execOp,ho,Instr.makeFunc,this]
end
theorem WE {P:Program} {c:Ctx} {sL hP:List (Nat×Ent)} {Q:Exit→Act→World→Prop} {x:Code} {n:Nat} {v:Value} {cs:List PV} (t:Nat) (ht:lk sL t=some (v, .sl n cs)) (k:n≤9223372036854775807→aC P c x Q (⟨sL,hP⟩:St)):aC P c x Q (⟨sL,hP⟩:St):=fun a w H=>by
 obtain ⟨F,H'⟩:=id H
 have h1:=(H'.sl t _ _ ht).2
 have:n≤9223372036854775807:=by
  cases h1 with
  |emp=>omega
  |sl b off n c cs vs hn hc=>unfold maxLen at hc;omega
 exact k this a w H
abbrev Zc (n:Int):PV:= .val (.int .i64 n)
abbrev Zt (s:BA):PV:= .val (.string s)
abbrev Zv (b:Bool):PV:= .val (.bool b)
def Zs (l:List BA):PV:= .sl l.length (l.map Zt)
def WF (l:List (List BA)):PV:= .sl l.length (l.map Zs)
def pInts (l:List Int):PV:= .sl l.length (l.map Zc)
def WM (x:Var):List PV:=[Zs x.acts,Zc x.count]
def Yx (l:List Var):PV:= .sl l.length (l.flatMap WM)
def ZeV (l:List (List Var)):PV:= .sl l.length (l.map Yx)
def ZbE (x:Cut):PV:= .agg [Zc x.kind,WF x.parts]
theorem Z8 {α β:Type} {f:α→β} {l:List α} {i:Nat} {x:α} (h:l[i]? =some x):(l.map f)[i*1]? =some (f x):=by rw [Xy,Xo,h];rfl
theorem Yr {α β:Type} {f:α→List β} {k:Nat} (hf:∀x,(f x).length=k):∀l:List α,(l.flatMap f).length=l.length*k
 |[]=>sM
 |x::l=>by rw [Xv,Xf,hf,Yr hf l,Xl,X1];omega
theorem Yu {α β:Type} {f:α→List β} {k:Nat} (hf:∀x,(f x).length=k):∀(l:List α) (i:Nat) (x:α),l[i]? =some x→((l.flatMap f).drop (i*k)).take k=f x
 |[],i,x,h=>by simp at h
 | y::l,0,x,h=>by
   simp at h;subst h;rw [X8,Vk,Xv,List.take_append_of_le_length (by rw [hf];exact Xe _),Xq (by rw [hf];exact Xe _)]
 | y::l,i+1,x,h=>by
   rw [Xv,X1,Nat.one_mul,Nat.add_comm,←List.drop_drop,U4 (by rw [hf];exact Xe _),show (f y).drop k=[] from List.drop_of_length_le (by rw [hf];exact Xe _),XQ];exact Yu hf l i x (by simpa using h)
theorem K6 {α β:Type} {f:α→List β} {k:Nat} (hf:∀x,(f x).length=k) {l:List α} {i:Nat} {x:α} (h:l[i]? =some x) {j:Nat} (hj:j<k):(l.flatMap f)[i*k+j]? =(f x)[j]? :=by
 rw [←Yu hf l i x h,X9 hj,VJ]
theorem Y9 {α β:Type} {f:α→List β} {k:Nat} (hf:∀x,(f x).length=k) {l:List α} {i:Nat} {x:α} (h:l[i]? =some x):i*k+k≤(l.flatMap f).length:=by
 rw [Yr hf]
 have:=Zd h
 have h1:(i+1)*k≤l.length*k:=Vn k this
 rw [X1,Nat.one_mul] at h1
 exact h1
theorem Yy (x:Var):(WM x).length=2:=rfl
theorem Zij {α:Type} {l:List α} (h:l.length=1):∃a,l=[a]:=by
 match l,h with
 |[a],_=>exact ⟨a,rfl⟩
theorem HE {α:Type} {l:List α} (h:l.length=2):∃a b,l=[a,b]:=by
 match l,h with
 |[a,b],_=>exact ⟨a,b,rfl⟩
theorem ZrW {α:Type} {l:List α} (h:l.length=3):∃a b d,l=[a,b,d]:=by
 match l,h with
 |[a,b,d],_=>exact ⟨a,b,d,rfl⟩
theorem Zsk {α:Type} {l:List α} (h:l.length=4):∃a b d e,l=[a,b,d,e]:=by
 match l,h with
 |[a,b,d,e],_=>exact ⟨a,b,d,e,rfl⟩
def keq:Value→Value→Bool
 | .string a, .string b=>a==b
 | .int k a, .int k' b=>decide (k=k')&&a==b
 | .bool a, .bool b=>a==b
 |_,_=>false
theorem ZbF {a b:BA}:(a==b)=true↔a=b:=by
 obtain ⟨a⟩:=a
 obtain ⟨b⟩:=b
 rw [show ((⟨a⟩:BA)==⟨b⟩)=(a==b) from rfl]
 simp
theorem Zoi {a b:Value} (h:keq a b=true):keq b a=true:=by
 cases a<;>cases b<;>simp_all [keq,ZbF]
def kok (kd:TypeDesc) (k:Value) (kv:List (Value×Value)):Prop:=∀x∈kv,Instr.sameNow kd k x.1=some (keq k x.1)
def Ka:List (Value×Value)→Value→Option Value
 |[],_=>none
 |x::l,k=>if keq k x.1 then some x.2 else Ka l k
def TO:List (Value×Value)→Value→Value→List (Value×Value)
 |[],k,v=>[(k,v)]
 |x::l,k,v=>if keq k x.1 then (k,v)::l else x::TO l k v
def S9:List (Value×Value)→Value→Option Nat
 |[],_=>none
 |x::l,k=>if keq k x.1 then some 0 else (S9 l k).map (· +1)
theorem Dz {kd:TypeDesc} {k:Value}:∀(l:List MapEntry) (i:Nat),kok kd k (l.map fun x=>(x.key,x.val))→
 Instr.findNow kd k l i=some (match S9 (l.map fun x=>(x.key,x.val)) k,Ka (l.map fun x=>(x.key,x.val)) k with|some j,some v=>some (i+j,v)|_,_=>none)∧((S9 (l.map fun x=>(x.key,x.val)) k).isSome=(Ka (l.map fun x=>(x.key,x.val)) k).isSome)
 |[],i,_=>⟨rfl,rfl⟩
 | e :: l,i,h=>by
   have h0:=h (e.key,e.val) sM;obtain ⟨h1,h2⟩:=Dz l (i+1) (fun x hx=>h x (by simp at hx ⊢;exact .inr hx));simp only at h0;simp only [Instr.findNow,h0,Xj,S9,Ka]
   cases hk:keq k e.key
   · simp only [VK,if_false];rw [h1]
     cases hm:S9 (l.map fun x=>(x.key,x.val)) k with
     | none=>
       rw [hm] at h2
       cases hg:Ka (l.map fun x=>(x.key,x.val)) k with
       |none=>simp
       |some v=>rw [hg] at h2;simp at h2
     | some j=>
       rw [hm] at h2
       cases hg:Ka (l.map fun x=>(x.key,x.val)) k with
       |none=>rw [hg] at h2;simp at h2
       |some v=>simp;omega
   · simp
structure MpT (P:Program) (t ks e:Nat) (kd:TypeDesc) (z:Value):Prop where
 ht:P.underlying t=some (.map ks e)
 hk:P.underlying ks=some kd
 hkd:kd= .string∨∃k,kd= .int k
 hz:ZeroT P e z
section
variable {P:Program} {c:Ctx} {ops:Array Oper} {Q:Exit→Act→World→Prop} {rest:List Oper} {sL hP:List (Nat×Ent)} {o:Oper}
theorem RG {ks:Nat} {kd:TypeDesc} (hk:P.underlying ks=some kd) (hkd:kd= .string∨∃k,kd= .int k) (b:Bool) (v:Value) (w:World):(Instr.checkKey b 10000 ks v).run P w= .ok () w:=by
 rw [show (10000:Nat)=9999+1 from rfl,Instr.checkKey]
 rcases hkd with rfl|⟨k,rfl⟩<;>simp [run_underlying hk]
theorem TB {ks:Nat} {kd:TypeDesc} (hk:P.underlying ks=some kd) {k:Value} {es:Array MapEntry} (h:kok kd k (kvOf es)) (w:World):(Instr.findKey ks k es.toList).run P w= .ok (match S9 (kvOf es) k,Ka (kvOf es) k with|some j,some v=>some (j,v)|_,_=>none) w:=by
 obtain ⟨h1,_⟩:=Dz es.toList 0 h
 unfold Instr.findKey
 simp only [Sem.run_bind,run_underlying hk,Result.andThen_ok,h1,XE]
 rfl
theorem ZgC (kv:List (Value×Value)) (k:Value):(S9 kv k).isSome=(Ka kv k).isSome:=by
 induction kv with
 |nil=>rfl
 | cons x l ih=>
   simp only [S9,Ka];split
   · rfl
   · simpa using ih
theorem RH {t ks e:Nat} {kd:TypeDesc} {z:Value} (hT:MpT P t ks e kd z) {b clock:Nat} {es:Array MapEntry} {k:Value} (hb:Bool) {w:World} (h:w.heap[b]? =some (.map es clock)) (hk:kok kd k (kvOf es)):
 (Instr.lookup t (.map (some b)) k hb).run P w= .ok (if hb then .tuple #[(Ka (kvOf es) k).getD z, .bool (Ka (kvOf es) k).isSome] else (Ka (kvOf es) k).getD z) w:=by
 have hm:=ZgC (kvOf es) k
 unfold Instr.lookup
 simp only [Sem.run_bind,run_underlying hT.ht,Result.andThen_ok,getObj,Sem.run,h,RG hT.hk hT.hkd,TB hT.hk hk]
 cases h1:S9 (kvOf es) k with
 | none=>
   rw [h1] at hm
   cases h2:Ka (kvOf es) k with
   |none=>cases hb<;>simp [TB hT.hk hk,h1,h2,ZeroT.run hT.hz]
   |some v=>rw [h2] at hm;simp at hm
 | some j=>
   rw [h1] at hm
   cases h2:Ka (kvOf es) k with
   |none=>rw [h2] at hm;simp at hm
   |some v=>cases hb<;>simp [TB hT.hk hk,h1,h2]
theorem ZkY {t ks e:Nat} {kd:TypeDesc} {z:Value} {x y:Operand} {m k:Value} {kv:List (Value×Value)} {q:PV} (hT:MpT P t ks e kd z) (ho:o.op= .lookup t x y false) (hx:ev sL x=some (m, .smap kv)) (hy:ev sL y=some (k,q)) (hk:kok kd k kv):
 YE P (⟨sL,hP⟩:St) o (· =(Ka kv k).getD z) (.val ((Ka kv k).getD z)):= .exact fun M F a w H=>by
 obtain ⟨hv,hs⟩:=H.ev hx
 have hkv:=(H.ev hy).1
 cases hs with
 |smap b es clock hM h=>exact ⟨.val _,by simp [execOp,ho,hv,hkv,RH hT false h hk]⟩
theorem Zik {t ks e:Nat} {kd:TypeDesc} {z:Value} {x y:Operand} {m k:Value} {kv:List (Value×Value)} {q:PV} (hT:MpT P t ks e kd z) (ho:o.op= .lookup t x y true) (hx:ev sL x=some (m, .smap kv)) (hy:ev sL y=some (k,q)) (hk:kok kd k kv):
 YE P (⟨sL,hP⟩:St) o (· = .tuple [(Ka kv k).getD z, .bool (Ka kv k).isSome].toArray) (.tup [.val ((Ka kv k).getD z), .val (.bool (Ka kv k).isSome)]):= .exact fun M F a w H=>by
 obtain ⟨hv,hs⟩:=H.ev hx
 have hkv:=(H.ev hy).1
 cases hs with
 | smap b es clock hM h=>
   refine ⟨.tup _ _ rfl fun i x p hx hp=>?_,by simp [execOp,ho,hv,hkv,RH hT true h hk]⟩;match i with
   |0=>simp at hx hp;subst hx hp;exact .val _
   |1=>simp at hx hp;subst hx hp;exact .val _
   |i+2=>simp at hx
theorem Zil {t ks e:Nat} {kd:TypeDesc} {z u:Value} {x y:Operand} {m k:Value} {kv:List (Value×Value)} {q:PV} (hT:MpT P t ks e kd z) (ho:o.op= .lookup t x y false) (hx:ev sL x=some (m, .smap kv)) (hy:ev sL y=some (k,q)) (hk:kok kd k kv) (hu:(Ka kv k).getD z=u):
 YE P (⟨sL,hP⟩:St) o (· =u) (.val u):=hu▸ZkY hT ho hx hy hk
theorem Tr.map {M:BS} {w:World} {m:Value} {kv:List (Value×Value)} {F:BS} (h:Tr M w m (.omap kv) F):∃b es clock,m= .map (some b)∧kv=kvOf es∧w.heap[b]? =some (.map es clock)∧∀x,F x↔x=b:=by
 cases h with
 |shr h _=>cases h
 |omap b es clock h hF=>exact ⟨b,es,clock,rfl,rfl,h,hF⟩
theorem ZkZ {t ks e:Nat} {kd:TypeDesc} {z:Value} {x y:Operand} {m k:Value} {kv:List (Value×Value)} {p q:PV} (l:Nat) (hT:MpT P t ks e kd z) (ho:o.op= .lookup t x y false) (hx:ev sL x=some (m,p)) (hl:lk hP l=some (m, .omap kv)) (hy:ev sL y=some (k,q)) (hk:kok kd k kv):
 YE P (⟨sL,hP⟩:St) o (· =(Ka kv k).getD z) (.val ((Ka kv k).getD z)):= .exact fun M F a w H=>by
 have hv:=(H.ev hx).1
 have hkv:=(H.ev hy).1
 obtain ⟨b,es,clock,rfl,rfl,h,_⟩:=(H.tr l _ _ hl).map
 exact ⟨.val _,by simp [execOp,ho,hv,hkv,RH hT false h hk]⟩
theorem Zim {t ks e:Nat} {kd:TypeDesc} {z:Value} {x y:Operand} {m k:Value} {kv:List (Value×Value)} {p q:PV} (l:Nat) (hT:MpT P t ks e kd z) (ho:o.op= .lookup t x y true) (hx:ev sL x=some (m,p)) (hl:lk hP l=some (m, .omap kv)) (hy:ev sL y=some (k,q)) (hk:kok kd k kv):
 YE P (⟨sL,hP⟩:St) o (· = .tuple [(Ka kv k).getD z, .bool (Ka kv k).isSome].toArray) (.tup [.val ((Ka kv k).getD z), .val (.bool (Ka kv k).isSome)]):= .exact fun M F a w H=>by
 have hv:=(H.ev hx).1
 have hkv:=(H.ev hy).1
 obtain ⟨b,es,clock,rfl,rfl,h,_⟩:=(H.tr l _ _ hl).map
 refine ⟨.tup _ _ rfl fun i x p hx hp=>?_,by simp [execOp,ho,hv,hkv,RH hT true h hk]⟩
 match i with
 |0=>simp at hx hp;subst hx hp;exact .val _
 |1=>simp at hx hp;subst hx hp;exact .val _
 |i+2=>simp at hx
theorem Zin {t ks e:Nat} {kd:TypeDesc} {z u:Value} {x y:Operand} {m k:Value} {kv:List (Value×Value)} {p q:PV} (l:Nat) (hT:MpT P t ks e kd z) (ho:o.op= .lookup t x y false) (hx:ev sL x=some (m,p)) (hl:lk hP l=some (m, .omap kv)) (hy:ev sL y=some (k,q)) (hk:kok kd k kv) (hu:(Ka kv k).getD z=u):
 YE P (⟨sL,hP⟩:St) o (· =u) (.val u):=hu▸ZkZ l hT ho hx hl hy hk
theorem Tr.mapW {M:BS} {w:World} {m:Value} {kv:List (Value×Value)} {F:BS} (h:Tr M w m (.omap kv) F):∃b es clock,m= .map (some b)∧kv=kvOf es∧w.heap[b]? =some (.map es clock)∧(∀x,F x↔x=b)∧WfM es clock:=by
 cases h with
 |shr h _=>cases h
 |omap b es clock h hF hW=>exact ⟨b,es,clock,rfl,rfl,h,hF,hW⟩
theorem ZgD {es:Array MapEntry} {clock:Nat} {k v:Value} (h:WfM es clock):WfM (es.push {key:=k,val:=v,born:=clock}) (clock+1):=by
 refine ⟨fun x hx=>?_,?_⟩
 · rw [Array.toList_push,Xd,Xn] at hx;rcases hx with hx|rfl
   · have:=h.1 x hx;omega
   · exact UL _
 · rw [Array.toList_push,XC,VB];refine ⟨h.2,sM,fun a ha b hb=>?_⟩;rw [Xj,Vl,Xn] at hb;obtain ⟨x,hx,rfl⟩:=Xh.1 ha;have:=h.1 x hx;dsimp only at hb;omega
theorem Zar {es:Array MapEntry} {clock j:Nat} (f:MapEntry→MapEntry) (hf:∀e,(f e).born=e.born) (h:WfM es clock):WfM (es.modify j f) clock:=by
 have e:(es.modify j f).toList.map (·.born)=es.toList.map (·.born):=by
  rw [UM];have:∀(l:List MapEntry) (j:Nat),(l.modify j f).map (·.born)=l.map (·.born):=fun l=>by
   induction l with
   |nil=>intro j;simp
   | cons a l ih=>intro j;cases j with
     |zero=>simp [hf]
     |succ j=>rw [UN,Xj,Xj,ih]
  exact this _ _
 refine ⟨fun x hx=>?_,e▸h.2⟩
 have h1:x.born∈es.toList.map (·.born):=e▸Xh.2 ⟨x,hx,rfl⟩
 obtain ⟨y,hy,hxy⟩:=Xh.1 h1
 have:=h.1 y hy
 omega
theorem Ra (es:Array MapEntry):(kvOf es).length=es.size:=by simp [kvOf]
theorem Zk0 {t ks e:Nat} {x:Operand} {m:Value} {kv:List (Value×Value)} (ht:P.underlying t=some (.map ks e)) (ho:o.op= .call {callee:= .builtin .len,args:= #[x],argTypes:= #[t]}) (hx:ev sL x=some (m, .smap kv)):YE P (⟨sL,hP⟩:St) o (· = .int .i64 kv.length) (.val (.int .i64 kv.length)):= .exact fun M F a w H=>by
 obtain ⟨hv,hs⟩:=H.ev hx
 cases hs with
 |smap b es clock hM h=>exact ⟨.val _,by simp [execOp,ho,hv,resolve,invoke,builtin,Builtin.len_,run_underlying ht,getObj,Sem.run,h,goInt,Ra]⟩
theorem Zk1 {t ks e:Nat} {x:Operand} {m:Value} {kv:List (Value×Value)} {p:PV} (l:Nat) (ht:P.underlying t=some (.map ks e)) (ho:o.op= .call {callee:= .builtin .len,args:= #[x],argTypes:= #[t]}) (hx:ev sL x=some (m,p)) (hl:lk hP l=some (m, .omap kv)):YE P (⟨sL,hP⟩:St) o (· = .int .i64 kv.length) (.val (.int .i64 kv.length)):= .exact fun M F a w H=>by
 have hv:=(H.ev hx).1
 obtain ⟨b,es,clock,rfl,rfl,h,_⟩:=(H.tr l _ _ hl).map
 exact ⟨.val _,by simp [execOp,ho,hv,resolve,invoke,builtin,Builtin.len_,run_underlying ht,getObj,Sem.run,h,goInt,Ra]⟩
theorem Zk2 {t:Nat} (d:Nat) (hw:ZP ops sL o=some true) (hd:o.dst=some d) (hn:d<c.nt) (ho:o.op= .makeMap t none) (hl:lk hP d=none)
 (k:∀m:Value,m.oneCell'=true→aL P c ops Q rest ⟨put d (m, .val m) sL,put d (m, .omap []) hP⟩):aL P c ops Q (o::rest) (⟨sL,hP⟩:St):=
 Y4 hw fun a w F H=>by
  have key:HoldsF c ⟨put d (.map (some w.heap.size), .val (.map (some w.heap.size))) sL,put d (.map (some w.heap.size), .omap []) hP⟩ (fun l'=>if l'=d then (fun b=>b=w.heap.size) else F l') (a.put (some d) (.map (some w.heap.size))) (w.alloc (.map #[] 0)):=by
   refine H.change (fun l'=>l'=d) hn ((Ext.alloc _ _).chg) (fun l' x hne hx'=>?_) (fun l' x b hT hx' hb=>?_) (fun hm l' u q hT hx'=>?_) (fun l1 l2 _ _ _ h1 h2 hne=>Qc (h1.trans h2.symm) hne) (fun hm=> .val _)
   · rcases ZZ hx' with ⟨e1,_⟩|⟨_,e1⟩
     · exact Qc e1.symm hne
     · exact ⟨e1,by simp [hne]⟩
   · subst hT;simp only [if_true] at hb;exact .inr (by rw [hb];exact Xe _)
   · subst hT;rw [ZJ] at hx'
     cases hx';simp only [if_true];refine .omap w.heap.size #[] 0 ?_ (fun x=>Iff.rfl) ⟨sM,sM⟩;show (w.heap.push _)[w.heap.size]? =_;simp
  unfold Oper.wp execOp;simp [ho,Instr.makeMap,newObj,Sem.run,hd,Oper.upon];exact k _ rfl _ _ ⟨_,key⟩
theorem Zio {es:Array MapEntry} {k v:Value}:∀{j:Nat},S9 (kvOf es) k=some j→kvOf (es.modify j fun e=>{e with key:=k,val:=v})=TO (kvOf es) k v:=by
 have key:∀(l:List MapEntry) (j:Nat),S9 (l.map fun x=>(x.key,x.val)) k=some j→(l.modify j fun e=>{e with key:=k,val:=v}).map (fun x=>(x.key,x.val))=TO (l.map fun x=>(x.key,x.val)) k v:=by
  intro l;induction l with
  |nil=>intro j h;simp [S9] at h
  | cons e l ih=>
    intro j h;simp only [Xj,S9] at h;simp only [Xj,TO];split at h
    · rename_i hk
      cases h;simp [hk]
    · rename_i hk;rw [XP] at h;obtain ⟨j',h1,rfl⟩:=h;rw [Qa hk,UN,Xj,ih j' h1]
 intro j h
 unfold kvOf at h ⊢
 rw [UM]
 exact key _ j h
theorem Zoj {es:Array MapEntry} {k v:Value} {clock:Nat} (h:S9 (kvOf es) k=none):kvOf (es.push {key:=k,val:=v,born:=clock})=TO (kvOf es) k v:=by
 have key:∀kv:List (Value×Value),S9 kv k=none→kv++[(k,v)]=TO kv k v:=by
  intro kv;induction kv with
  |nil=>intro _;rfl
  | cons x l ih=>
    intro h;simp only [S9] at h;split at h
    · cases h
    · rename_i hk;rw [Option.map_eq_none_iff] at h;rw [TO,Qa hk,XV,ih h]
 rw [←key _ h]
 simp [kvOf]
def bits:Value→Bool
 | .string _| .int _ _| .bool _=>true
 |_=>false
theorem Zip {a b:Value} (hb:bits a=true) (h:keq b a=true):Instr.sameBits 10000 a b=true:=by
 have h:=Zoi h
 cases a<;>cases b<;>simp_all [keq,bits,Instr.sameBits]
theorem Zok {t ks e:Nat} {kd:TypeDesc} {z:Value} {x y u:Operand} {m k v:Value} {kv:List (Value×Value)} {p q r:PV} (l:Nat) (hw:ZP ops sL o=some true) (hd:o.dst=none) (hT:MpT P t ks e kd z) (ho:o.op= .mapUpdate t x y u) (hx:ev sL x=some (m,p)) (hl:lk hP l=some (m, .omap kv)) (hy:ev sL y=some (k,q)) (hu:ev sL u=some (v,r)) (hk:kok kd k kv) (hbits:bits k=true)
 (kk:aL P c ops Q rest ⟨sL,put l (m, .omap (TO kv k v)) hP⟩):aL P c ops Q (o::rest) (⟨sL,hP⟩:St):=
 Y4 hw fun a w F H=>by
  have hxv:=(H.rd.ev hx).1;have hyv:=(H.rd.ev hy).1;have huv:=(H.rd.ev hu).1;obtain ⟨b,es,clock,rfl,rfl,hb,hFb,hWf⟩:=(H.tr l _ _ hl).mapW;have hm:=ZgC (kvOf es) k;have main:∀(es':Array MapEntry) (clock':Nat),WfM es' clock'→kvOf es'=TO (kvOf es) k v→Holds c ⟨sL,put l (.map (some b), .omap (TO (kvOf es) k v)) hP⟩ a {w with heap:=w.heap.setIfInBounds b (.map es' clock')}:=fun es' clock' hW' he=>by
   have hlt:=Y8 hb;have hch:Chg (fun x=>x=b) w {w with heap:=w.heap.setIfInBounds b (.map es' clock')}:=⟨rfl,rfl,rfl,sM,fun i hi hne=>by
    rw [UO (fun e=>hne e.symm)]⟩
   refine ⟨F,H.change0 (fun l'=>l'=l) (hch.wid fun x hx=> .inl ⟨l,_,rfl,hl,(hFb x).2 hx⟩) (fun l' x hne hx'=>?_) (fun l' x b' hT' hx' hb'=>?_) (fun hmm l' u q hT' hx'=>?_) (fun l1 l2 _ _ _ h1 h2 hne=>Qc (h1.trans h2.symm) hne)⟩
   · rcases ZZ hx' with ⟨e1,_⟩|⟨_,e1⟩
     · exact Qc e1.symm hne
     · exact ⟨e1,rfl⟩
   · subst hT';exact .inl ⟨l',_,rfl,hl,hb'⟩
   · subst hT';rw [ZJ] at hx'
     cases hx';rw [←he];exact .omap b es' clock' (by simp [hlt]) hFb hW'
  unfold Oper.wp execOp
  cases h1:S9 (kvOf es) k with
  | none=>
    rw [h1] at hm
    cases h2:Ka (kvOf es) k with
    |some v=>rw [h2] at hm;simp at hm
    | none=>
      simp [ho,hxv,hyv,huv,Instr.mapUpdate,run_underlying hT.ht,getObj,setObj,Sem.run,hb,RG hT.hk hT.hkd,TB hT.hk hk,h1,h2,Oper.upon,hd,Act.put];exact kk _ _ (main _ _ (ZgD hWf) (Zoj h1))
  | some j =>
    rw [h1] at hm
    cases h2:Ka (kvOf es) k with
    |none=>rw [h2] at hm;simp at hm
    | some v0=>
      have hj:∃e0,es[j]? =some e0∧keq k e0.key=true:=by
       have key:∀(l:List MapEntry) (j:Nat),S9 (l.map fun x=>(x.key,x.val)) k=some j→∃e0,l[j]? =some e0∧keq k e0.key=true:=by
        intro l;induction l with
        |nil=>intro j h;simp [S9] at h
        | cons e l ih=>
          intro j h;simp only [Xj,S9] at h;split at h
          · rename_i hk;cases h;exact ⟨e,rfl,hk⟩
          · rw [XP] at h;obtain ⟨j',h1,rfl⟩:=h;obtain ⟨e0,h3,h4⟩:=ih j' h1;exact ⟨e0,by simpa using h3,h4⟩
       obtain ⟨e0,h3,h4⟩:=key es.toList j h1;exact ⟨e0,by simpa using h3,h4⟩
      obtain ⟨e0,h3,h4⟩:=hj;have hb0:bits e0.key=true:=by
       cases k<;>simp [bits] at hbits<;>(generalize e0.key=y at h4 ⊢;cases y<;>simp_all [keq,bits])
      have hsb:=Zip hb0 h4;simp [ho,hxv,hyv,huv,Instr.mapUpdate,run_underlying hT.ht,getObj,setObj,Sem.run,hb,RG hT.hk hT.hkd,TB hT.hk hk,h1,h2,h3,Instr.keyThatStays,hsb,Oper.upon,hd,Act.put];exact kk _ _ (main _ _ (Zar _ (fun _=>rfl) hWf) (Zio h1))
end
def skv (es:List (BA×Value)):List (Value×Value):=es.map fun x=>(.string x.1,x.2)
def ikv (es:List (Int×Value)):List (Value×Value):=es.map fun x=>(.int .i64 x.1,x.2)
theorem DC (kd:TypeDesc) (k:Value):kok kd k []:=fun x h=>by simp at h
theorem SL (s:BA) (es:List (BA×Value)):kok .string (.string s) (skv es):=fun x h=>by
 simp [skv] at h
 obtain ⟨a,b,_,rfl⟩:=h
 rfl
theorem DD (n:Int) (es:List (Int×Value)):kok (.int .i64) (.int .i64 n) (ikv es):=fun x h=>by
 simp [ikv] at h
 obtain ⟨a,b,_,rfl⟩:=h
 simp [Instr.sameNow,keq]
def WX {κ:Type} [DecidableEq κ]:List (κ×Value)→κ→Option Value
 |[],_=>none
 |x::l,k=>if k=x.1 then some x.2 else WX l k
def KS {κ:Type} [DecidableEq κ]:List (κ×Value)→κ→Value→List (κ×Value)
 |[],k,v=>[(k,v)]
 |x::l,k,v=>if k=x.1 then (k,v)::l else x::KS l k v
theorem Lv (es:List (BA×Value)) (s:BA):Ka (skv es) (.string s)=WX es s:=by
 induction es with
 |nil=>rfl
 | cons x l ih=>
   simp only [skv,Xj,Ka,WX,keq,ZbF];rw [show List.map (fun x:BA×Value=>(Value.string x.1,x.2)) l=skv l from rfl,ih]
theorem Ps (es:List (BA×Value)) (s:BA) (v:Value):TO (skv es) (.string s) v=skv (KS es s v):=by
 induction es with
 |nil=>rfl
 | cons x l ih=>
   simp only [skv,Xj,TO,KS,keq,ZbF];rw [show List.map (fun x:BA×Value=>(Value.string x.1,x.2)) l=skv l from rfl,ih];by_cases h:s=x.1
   · rw [Qb h,Qb h];rfl
   · rw [Qa h,Qa h];rfl
theorem Zk3 (es:List (Int×Value)) (s:Int):Ka (ikv es) (.int .i64 s)=WX es s:=by
 induction es with
 |nil=>rfl
 | cons x l ih=>
   simp only [ikv,Xj,Ka,WX,keq];rw [show List.map (fun x:Int×Value=>(Value.int .i64 x.1,x.2)) l=ikv l from rfl,ih];simp
theorem Zk4 (es:List (Int×Value)) (s:Int) (v:Value):TO (ikv es) (.int .i64 s) v=ikv (KS es s v):=by
 induction es with
 |nil=>rfl
 | cons x l ih=>
   simp only [ikv,Xj,TO,KS,keq];rw [show List.map (fun x:Int×Value=>(Value.int .i64 x.1,x.2)) l=ikv l from rfl,ih];by_cases h:s=x.1
   · rw [Qb h,Qb (by simp [h])];rfl
   · rw [Qa h,Qa (by simp [h])];rfl
section
variable {P:Program} {ops:Array Oper} {Q:Exit→Act→World→Prop} {md:Region.Mode} {C:World→Prop} {Z:Nat→Bool}
def GB (P:Program) (md:Region.Mode) (ops:Array Oper) (Q:Exit→Act→World→Prop) (C:World→Prop) (Z:Nat→Bool):Nat→Array Bool→Act→World→Prop
 |0,listed,a,w=>Region.ready md ops listed=[]∧Q .normal a w
 | fuel+1,listed,a,w=>
   (Region.ready md ops listed=[]→Q .normal a w)∧
   ∀i∈Region.ready md ops listed,wpOp P ops (Zak Q) i (fun a' w'=>(Z i=true∨C w')∧GB P md ops Q C Z fuel (listed.setIfInBounds i true) a' w') a w
theorem Cn:∀(fuel:Nat) (listed:Array Bool) (a:Act) (w:World),GB P md ops Q C Z fuel listed a w→wpAny P md ops Q fuel listed a w
 |0,_,_,_,h=>h
 |fuel+1,_,_,_,h=>⟨h.1,fun i hi=>ZeK (wpOp_mono (fun a' w' h'=>Cn fuel _ a' w' h'.2) (h.2 i hi))⟩
def Pt (md:Region.Mode) (ops:Array Oper) (Z:Nat→Bool) (i:Nat):Bool:=(List.range ops.size).all fun z=> !Z z||Zct md ops z i
theorem DF {i:Nat} {oi:Oper} {v:Value} (hi:ops[i]? =some oi) (hz:Pt md ops Z i=true)
 (hsel:∀(j:Nat) (o:Oper) cs b,ops[j]? =some o→o.op≠ .select cs b):
 ∀ (fuel:Nat) (listed:Array Bool) (a:Act) (w:World),
  (∀j oj,ops[j]? =some oj→j≠i→listed.getD j true=false→(∀e∈oj.after,Region.binds md e=true→e.on≠i)→oi.apart ops oj=true)→
  i∈Region.ready md ops listed→YieldsC P ops C oi v a→C w→
  GB P md ops Q C Z fuel (listed.setIfInBounds i true) (a.put oi.dst v) w→GB P md ops Q C Z (fuel+1) listed a w:=by
 intro fuel
 induction fuel with
 | zero=>
   intro listed a w _ hr hy hC H;refine ⟨fun h=>(by rw [h] at hr;cases hr),fun j hj=>?_⟩;by_cases hji:j=i
   · subst hji;exact YieldsIf.wpOp hi hy.ifS hC ⟨.inr hC,H⟩
   · have:=ready_mono hj hji;rw [H.1] at this
     cases this
 | succ fuel ih=>
   intro listed a w hfree hr hy hC H;refine ⟨fun h=>(by rw [h] at hr;cases hr),fun j hj=>?_⟩;by_cases hji:j=i
   · subst hji;exact YieldsIf.wpOp hi hy.ifS hC ⟨.inr hC,H⟩
   · have h1:=H.2 j (ready_mono hj hji);obtain ⟨hjun,oj,hoj,hall⟩:=mem_ready.1 hj;have hnot:∀e∈oj.after,Region.binds md e=true→e.on≠i:=fun e he hb heq=>by
      have h1:=hall e he hb;have h0:=(mem_ready.1 hr).1;rw [heq] at h1;rcases XD i listed.size with h'|h'
      · simp [h'] at h0 h1;rw [h0] at h1;cases h1
      · simp [Vv h'] at h1
     have hjz:Z j=false:=by
      cases hZ:Z j
      · rfl
      · exfalso;have hjs:j<ops.size:=by
         rcases XD j ops.size with h'|h'
         · exact h'
         · rw [Vv h'] at hoj;cases hoj
        have:=Xm.1 hz j (Va.2 hjs);rw [hZ] at this;simp only [Bool.not_true,V'] at this;unfold Zct at this;rw [hoj] at this;obtain ⟨e,he,hb⟩:=Array.any_eq_true'.1 this;simp only [Xi,beq_iff_eq] at hb;exact hnot e he hb.1 hb.2
     have h2:=wpOp_putIf hoj (hfree j oj hoj hji hjun hnot) (fun cs b=>hsel i oi cs b hi) (fun cs b=>hsel j oj cs b hoj) (fun c a w h=>h) hy.ifS h1;have hfree':∀k ok,ops[k]? =some ok→k≠i→(listed.setIfInBounds j true).getD k true=false→
      (∀e∈ok.after,Region.binds md e=true→e.on≠i)→oi.apart ops ok=true:=fun k ok hk hki hun hno=>by
      refine hfree k ok hk hki ?_ hno;by_cases hjk:j=k
      · subst hjk;exact hjun
      · rw [getD_set_ne true hjk] at hun;exact hun
     refine wpOp_mono (fun a' w' h3=>?_) h2;obtain ⟨hy',hor,hK⟩:=h3;have hC':C w':=by
      rcases hor with h|h
      · rw [hjz] at h;cases h
      · exact h
     refine ⟨.inr hC',ih (listed.setIfInBounds j true) a' w' hfree' (ready_mono hr (Ne.symm hji)) hy' hC' ?_⟩;rw [Array.setIfInBounds_comm _ _ hji];exact hK
end
def Jt (K:List Nat):List (Nat×Ent)→List (Nat×Ent)
 |[]=>[]
 |(k,x)::l=>cond (K.elem k) ((k,x)::Jt K l) (Jt K l)
def GV (K:List Nat):List (Nat×Ent)→List (Nat×Ent)
 |[]=>[]
 |(k,x)::l=>cond (K.elem k) (GV K l) ((k,x)::GV K l)
theorem Rb {K:List Nat} {t:Nat}:∀{l:List (Nat×Ent)} {x:Ent},lk (Jt K l) t=some x↔K.elem t=true∧lk l t=some x
 |[],x=>by simp [Jt,lk]
 | (k, y)::l,x=>by
   unfold Jt
   cases hk:K.elem k
   · simp only [cond_false,lk];rw [Rb]
     cases hb:Nat.beq k t
     · simp
     · have:k=t:=XK hb;subst this;rw [hk];simp
   · simp only [cond_true,lk]
     cases hb:Nat.beq k t
     · simp only [cond_false];exact Rb
     · have:k=t:=XK hb;subst this;rw [hk];simp
theorem Gf {K:List Nat} {t:Nat}:∀{l:List (Nat×Ent)} {x:Ent},lk (GV K l) t=some x↔K.elem t=false∧lk l t=some x
 |[],x=>by simp [GV,lk]
 | (k, y)::l,x=>by
   unfold GV
   cases hk:K.elem k
   · simp only [cond_false,lk]
     cases hb:Nat.beq k t
     · simp only [cond_false];exact Gf
     · have:k=t:=XK hb;subst this;rw [hk];simp
   · simp only [cond_true,lk];rw [Gf]
     cases hb:Nat.beq k t
     · simp
     · have:k=t:=XK hb;subst this;rw [hk];simp
theorem Ziq {l m:List (Nat×Ent)} {t:Nat}:lk (l++m) t=match lk l t with|some x=>some x|none=>lk m t:=by
 induction l with
 |nil=>rfl
 | cons y l ih=>
   obtain ⟨k,y⟩:=y;simp only [XV,lk]
   cases Nat.beq k t
   · simp only [cond_false];exact ih
   · rfl
def nK (K:List Nat) (h:List (Nat×Ent)) (F:Nat→BS):BS:=fun b=>∃l x,K.elem l=false∧lk h l=some x∧F l b
def aD (P:Program) (c:Ctx) (ops:Array Oper) (Q:Exit→Act→World→Prop) (Z:Nat→Bool) (K:List Nat) (fuel:Nat) (listed:Array Bool) (st:St):Prop:=
 ∀a w F,HoldsF c st F a w→∀C:World→Prop,(∀W,Chg (nK K st.heap F) w W→C W)→GB P .any ops Q C Z fuel listed a w
section
variable {P:Program} {c:Ctx} {ops:Array Oper} {Q:Exit→Act→World→Prop} {Z:Nat→Bool} {K:List Nat} {fuel:Nat} {listed:Array Bool} {sL hP:List (Nat×Ent)} {o:Oper}
theorem TY {C C':World→Prop} (h:∀w,C' w→C w):∀(fuel:Nat) (listed:Array Bool) (a:Act) (w:World),GB P .any ops Q C' Z fuel listed a w→GB P .any ops Q C Z fuel listed a w
 |0,_,_,_,H=>H
 |fuel+1,_,_,_,H=>⟨H.1,fun i hi=>wpOp_mono (fun a' w' h'=>⟨h'.1.imp id (h w'),TY h fuel _ a' w' h'.2⟩) (H.2 i hi)⟩
theorem Zol {id:Nat} {l:List Oper} (Z:Nat→Bool) (K:List Nat) (hm:P.follows .mixedOrders=true) (h:aD P c l.toArray Q Z K l.length (Array.replicate l.length false) (⟨sL,hP⟩:St)):aC P c (.region id l.toArray true) Q (⟨sL,hP⟩:St):=fun a w ⟨F,H⟩=>by
 refine wp_region_any hm (Cn (C:=fun _=>True) (Z:=Z) _ _ _ _ ?_)
 have:=h a w.drew F (H.up (Ext.drew w)) (fun _=>True) (fun _ _=>trivial)
 simpa using this
theorem ZqH (hr:Region.ready .any ops listed=[]) (h:aN c Q (⟨sL,hP⟩:St)):aD P c ops Q Z K fuel listed (⟨sL,hP⟩:St):=fun a w F H C hC=>by
 cases fuel with
 |zero=>exact ⟨hr,h a w ⟨F,H⟩⟩
 |succ n=>exact ⟨fun _=>h a w ⟨F,H⟩,fun i hi=>by rw [hr] at hi;cases hi⟩
theorem HoldsF.rdK {F:Nat→BS} {a:Act} {w:World} (H:HoldsF c (⟨sL,hP⟩:St) F a w) (K:List Nat):RdF (mof c hP F) ⟨sL,Jt K hP⟩ F a w:=⟨fun l v p h=>H.tr l v p (Rb.1 h).2,H.sl⟩
theorem ZcG {V:Value→Prop} {p:PV} (i d:Nat) (ho:ops[i]? =some o) (hck:(Region.noSelect ops&&(Region.ready .any ops listed).contains i&&Region.free .any ops listed i&&Pt .any ops Z i)=true) (hw:ZP ops sL o=some true) (hd:o.dst=some d) (hn:d<c.nt) (hy:YE P ⟨sL,Jt K hP⟩ o V p)
 (k:∀v,V v→aD P c ops Q Z K fuel (listed.setIfInBounds i true) ⟨put d (v,p) sL,hP⟩):aD P c ops Q Z K (fuel+1) listed (⟨sL,hP⟩:St):=fun a w F H C hC=>by
 simp only [Xi] at hck
 obtain ⟨⟨⟨hs,hr⟩,hf⟩,hz⟩:=hck
 obtain ⟨v,hV,hS,hrun⟩:=hy _ F a w (H.rdK K)
 refine TY hC _ _ _ _ ?_
 refine DF ho hz (Region.noSelect_spec hs) _ listed a w (Region.free_spec ho hf) (by simpa using hr) (v:=v) (.inl ⟨LZ H.rd hw,fun W hW=>?_⟩) (Chg.rfl' _ _) ?_
 · exact hrun _ W hW (fun b ⟨l,x,_,h1,h2⟩=> .inr ⟨l,x,h1,h2⟩) (fun l x b hl hFb ⟨l',x',h1,h2,h3⟩=>by
    obtain ⟨h4,h5⟩:=Rb.1 hl;exact H.dj l l' _ _ b (fun e=>by rw [e,h1] at h4;cases h4) h5 h2 hFb h3)
 · rw [hd];exact k v hV _ w F (H.put hn hS) _ (fun W h=>h)
theorem Zsl {v:Value} {p:PV} (i d:Nat) (ho:ops[i]? =some o) (hck:(Region.noSelect ops&&(Region.ready .any ops listed).contains i&&Region.free .any ops listed i&&Pt .any ops Z i)=true) (hw:ZP ops sL o=some true) (hd:o.dst=some d) (hn:d<c.nt) (hy:YE P ⟨sL,Jt K hP⟩ o (· =v) p)
 (k:aD P c ops Q Z K fuel (listed.setIfInBounds i true) ⟨put d (v,p) sL,hP⟩):aD P c ops Q Z K (fuel+1) listed (⟨sL,hP⟩:St):=ZcG i d ho hck hw hd hn hy fun u hu=>by cases hu;exact k
theorem Zql {V:Value→Prop} {p:PV} (i d:Nat) (ho:ops[i]? =some o) (hr:Region.ready .any ops listed=[i]) (hw:ZP ops sL o=some true) (hd:o.dst=some d) (hn:d<c.nt) (hy:YE P (⟨sL,hP⟩:St) o V p)
 (k:∀v,V v→aD P c ops Q Z K fuel (listed.setIfInBounds i true) ⟨put d (v,p) sL,hP⟩):aD P c ops Q Z K (fuel+1) listed (⟨sL,hP⟩:St):=fun a w F H C hC=>by
 obtain ⟨v,hV,hS,hrun⟩:=hy _ F a w H.rd
 have h1:YieldsC P ops (fun W=>W=w) o v a:= .inl ⟨LZ H.rd hw,fun W hW=>by
  subst hW;exact hrun (fun _=>False) W (Chg.rfl' _ _) (fun _ h=>h.elim) (fun _ _ _ _ _ h=>h)⟩
 refine ⟨fun hn=>(by rw [hr] at hn;cases hn),fun j hj=>?_⟩
 rw [hr] at hj
 obtain rfl:j=i:=by simpa using hj
 refine YieldsIf.wpOp ho h1.ifS rfl ⟨.inr (hC w (Chg.rfl' _ _)),?_⟩
 rw [hd]
 exact k v hV _ w F (H.put hn hS) C hC
theorem ZrX {v:Value} {p:PV} (i d:Nat) (ho:ops[i]? =some o) (hr:Region.ready .any ops listed=[i]) (hw:ZP ops sL o=some true) (hd:o.dst=some d) (hn:d<c.nt) (hy:YE P (⟨sL,hP⟩:St) o (· =v) p)
 (k:aD P c ops Q Z K fuel (listed.setIfInBounds i true) ⟨put d (v,p) sL,hP⟩):aD P c ops Q Z K (fuel+1) listed (⟨sL,hP⟩:St):=Zql i d ho hr hw hd hn hy fun u hu=>by cases hu;exact k
theorem Zom (i d:Nat) (ho:ops[i]? =some o) (hck:(Region.noSelect ops&&(Region.ready .any ops listed).contains i&&Region.free .any ops listed i&&Pt .any ops Z i)=true) (hw:ZP ops sL o=some false) (hd:o.dst=some d) (hn:d<c.nt)
 (k:aD P c ops Q Z K fuel (listed.setIfInBounds i true) ⟨put d (undef, .val undef) sL,hP⟩):aD P c ops Q Z K (fuel+1) listed (⟨sL,hP⟩:St):=fun a w F H C hC=>by
 simp only [Xi] at hck
 obtain ⟨⟨⟨hs,hr⟩,hf⟩,hz⟩:=hck
 refine TY hC _ _ _ _ ?_
 refine DF ho hz (Region.noSelect_spec hs) _ listed a w (Region.free_spec ho hf) (by simpa using hr) (v:=undef) (.inr ⟨LZ H.rd hw,rfl⟩) (Chg.rfl' _ _) ?_
 rw [hd]
 exact k _ w F (H.put hn (.val _)) _ (fun W h=>h)
theorem ZcH (t:Nat) {b:Bool} {q:PV} (hx:lk sL t=some (.bool b,q)) (ht:b=true→aD P c ops Q Z K fuel listed ⟨put t (.bool true, .val (.bool true)) sL,hP⟩) (hf:b=false→aD P c ops Q Z K fuel listed ⟨put t (.bool false, .val (.bool false)) sL,hP⟩):aD P c ops Q Z K fuel listed (⟨sL,hP⟩:St):=fun a w F H C hC=>by
 have key:HoldsF c ⟨put t (.bool b, .val (.bool b)) sL,hP⟩ F a w:=⟨H.toHeapF,fun s u r hs=>by
  rcases ZZ hs with ⟨rfl,e⟩|⟨_,e⟩
  · cases e;exact ⟨(H.sl _ _ _ hx).1, .val _⟩
  · exact H.sl s u r e,H.size,H.df⟩
 cases b
 · exact hf rfl a w F key C hC
 · exact ht rfl a w F key C hC
theorem HoldsF.frame {F:Nat→BS} {a:Act} {w:World} (H:HoldsF c (⟨sL,hP⟩:St) F a w) (K:List Nat):
 HoldsF ⟨w,fun b=>c.M0 b∨∃l x,K.elem l=true∧lk hP l=some x∧F l b,nK K hP F,c.nt,c.dr,c.df⟩ ⟨sL,GV K hP⟩ F a w:=by
 have hm:∀b,mof ⟨w,fun b=>c.M0 b∨∃l x,K.elem l=true∧lk hP l=some x∧F l b,nK K hP F,c.nt,c.dr,c.df⟩ (GV K hP) F b→mof c hP F b:=by
  rintro b ((h|⟨l,x,_,h1,h2⟩)|⟨l,x,h1,h2⟩)
  · exact .inl h
  · exact .inr ⟨l,x,h1,h2⟩
  · exact .inr ⟨l,x,(Gf.1 h1).2,h2⟩
 refine ⟨⟨fun l v p h=>(H.tr l v p (Gf.1 h).2).anti fun b _=>hm b,fun l x b h hb=> .inr ⟨l,x,(Gf.1 h).1,(Gf.1 h).2,hb⟩,fun l l' x x' b hne h h'=>H.dj l l' x x' b hne (Gf.1 h).2 (Gf.1 h').2,?_,Chg.rfl' _ _,fun _=>Xe _⟩,fun t v p h=>⟨(H.sl t v p h).1,(H.sl t v p h).2.anti fun b _=>hm b⟩,H.size,H.df⟩
 refine ⟨?_,fun hn g hg=>?_,fun hn g hg=>?_⟩
 rotate_left
 · obtain ⟨h1,h2,_⟩:=H.mok.tb hn g hg;refine ⟨h1,?_,?_⟩
   · rintro (h|⟨l,x,_,h3,h4⟩)
     · exact h2 (.inl h)
     · exact h2 (.inr ⟨l,x,h3,h4⟩)
   · rintro ⟨l,x,_,h3,h4⟩;exact h2 (.inr ⟨l,x,h3,h4⟩)
 · obtain ⟨h1,h2,_⟩:=H.mok.er hn g hg;refine ⟨h1,?_,?_⟩
   · rintro (h|⟨l,x,_,h3,h4⟩)
     · exact h2 (.inl h)
     · exact h2 (.inr ⟨l,x,h3,h4⟩)
   · rintro ⟨l,x,_,h3,h4⟩;exact h2 (.inr ⟨l,x,h3,h4⟩)
 rintro b (h|⟨l,x,hK,h1,h2⟩)
 · exact ⟨VY (H.m0.m b h).1 H.ext.size,fun ⟨l,x,_,h1,h2⟩=>H.apart h h1 h2⟩
 · exact ⟨(H.tr l _ _ h1).lt b h2,fun ⟨l',x',hK',h3,h4⟩=>H.dj l l' _ _ b (fun e=>by rw [e,hK'] at hK;cases hK) h1 h3 h2 h4⟩
theorem HoldsF.unframe {F F':Nat→BS} {a a':Act} {w w':World} {st':St} (H:HoldsF c (⟨sL,hP⟩:St) F a w)
 (H':HoldsF ⟨w,fun b=>c.M0 b∨∃l x,K.elem l=true∧lk hP l=some x∧F l b,nK K hP F,c.nt,c.dr,c.df⟩ st' F' a' w'):
 HoldsF c ⟨st'.slots,st'.heap++Jt K hP⟩ (fun l=>match lk st'.heap l with|some _=>F' l|none=>F l) a' w'∧Chg (nK K hP F) w w'∧
  (∀b,nK K (st'.heap++Jt K hP) (fun l=>match lk st'.heap l with|some _=>F' l|none=>F l) b→nK K hP F b∨w.heap.size≤b):=by
 have hlook:∀l x,lk (st'.heap++Jt K hP) l=some x→(lk st'.heap l=some x)∨(lk st'.heap l=none∧K.elem l=true∧lk hP l=some x):=fun l x h=>by
  rw [Ziq] at h
  cases h1:lk st'.heap l with
  |some y=>rw [h1] at h;cases h;exact .inl rfl
  |none=>rw [h1] at h;exact .inr ⟨rfl,Rb.1 h⟩
 have hmm:∀b,mof c (st'.heap++Jt K hP) (fun l=>match lk st'.heap l with|some _=>F' l|none=>F l) b→mof ⟨w,fun b=>c.M0 b∨∃l x,K.elem l=true∧lk hP l=some x∧F l b,nK K hP F,c.nt,c.dr,c.df⟩ st'.heap F' b:=by
  rintro b (h|⟨l,x,h1,h2⟩)
  · exact .inl (.inl h)
  · rcases hlook l x h1 with h3|⟨h3,h4,h5⟩
    · simp only [h3] at h2;exact .inr ⟨l,x,h3,h2⟩
    · simp only [h3] at h2;exact .inl (.inr ⟨l,x,h4,h5,h2⟩)
 have hch:Chg (nK K hP F) w w':=H'.ext
 have hKN:∀l x b,K.elem l=true→lk hP l=some x→F l b→¬nK K hP F b:=fun l x b hK hl hb ⟨l',x',hK',h3,h4⟩=>H.dj l l' _ _ b (fun e=>by rw [e,hK'] at hK;cases hK) hl h3 hb h4
 have hapart:∀l x l' x' b,K.elem l=true→lk hP l=some x→F l b→lk st'.heap l'=some x'→¬F' l' b:=fun l x l' x' b hK hl hb hl' hb'=>by
  exact H'.apart (.inr ⟨l,x,hK,hl,hb⟩) hl' hb'
 refine ⟨⟨⟨fun l v p h=>?_,fun l x b h hb=>?_,fun l l' x x' b hne h h' hb hb'=>?_,H.m0,?_,fun h=>XJ (H.dw h) (H'.dw h)⟩,fun t v p h=>⟨(H'.sl t v p h).1,(H'.sl t v p h).2.anti fun b _=>hmm b⟩,H'.size,H'.df⟩,hch,?_⟩
 · rcases hlook l _ h with h1|⟨h1,h2,h3⟩
   · simp only [h1];exact (H'.tr l v p h1).anti fun b _=>hmm b
   · simp only [h1];refine (H.tr l v p h3).to hch (fun b hlt hb=>?_) (fun b _ ⟨l',x',_,h4,h5⟩=> .inr ⟨l',x',h4,h5⟩) (fun b hb=>hKN l _ b h2 h3 hb);rcases hmm b hb with (h|⟨l',x',_,h4,h5⟩)|⟨l',x',h4,h5⟩
     · exact .inl h
     · exact .inr ⟨l',x',h4,h5⟩
     · rcases H'.lo l' x' b h4 h5 with h6|⟨l2,x2,_,h7,h8⟩
       · exact Qc hlt (by simp only at h6;omega)
       · exact .inr ⟨l2,x2,h7,h8⟩
 · rcases hlook l _ h with h1|⟨h1,h2,h3⟩
   · simp only [h1] at hb;rcases H'.lo l x b h1 hb with h4|⟨l2,x2,_,h7,h8⟩
     · exact .inl (XJ H.ext.size h4)
     · exact H.lo l2 x2 b h7 h8
   · simp only [h1] at hb;exact H.lo l x b h3 hb
 · rcases hlook l _ h with h1|⟨h1,h2,h3⟩
   · rcases hlook l' _ h' with k1|⟨k1,k2,k3⟩
     · simp only [h1] at hb;simp only [k1] at hb';exact H'.dj l l' x x' b hne h1 k1 hb hb'
     · simp only [h1] at hb;simp only [k1] at hb';exact hapart l' _ l _ b k2 k3 hb' h1 hb
   · rcases hlook l' _ h' with k1|⟨k1,k2,k3⟩
     · simp only [h1] at hb;simp only [k1] at hb';exact hapart l _ l' _ b h2 h3 hb k1 hb'
     · simp only [h1] at hb;simp only [k1] at hb';exact H.dj l l' x x' b hne h3 k3 hb hb'
 · exact H.ext.tr hch fun b ⟨l,x,_,h1,h2⟩=>(H.lo l x b h1 h2).symm
 · rintro b ⟨l,x,hK,h1,h2⟩;rcases hlook l _ h1 with h3|⟨h3,h4,h5⟩
   · simp only [h3] at h2;rcases H'.lo l x b h3 h2 with h4|h4
     · exact .inr h4
     · exact .inl h4
   · rw [hK] at h4;cases h4
def aW (P:Program) (c:Ctx) (ops:Array Oper) (Q:Exit→Act→World→Prop) (Z:Nat→Bool) (K:List Nat) (fuel:Nat) (listed:Array Bool) (st:St) (i:Nat):Prop:=
 ∀a w F,HoldsF c st F a w→∀C:World→Prop,(∀W,Chg (nK K st.heap F) w W→C W)→wpOp P ops (Zak Q) i (fun a' w'=>(Z i=true∨C w')∧GB P .any ops Q C Z fuel (listed.setIfInBounds i true) a' w') a w
theorem Z6 (i:Nat) (hr:Region.ready .any ops listed=[i]) (h:aW P c ops Q Z K fuel listed (⟨sL,hP⟩:St) i):aD P c ops Q Z K (fuel+1) listed (⟨sL,hP⟩:St):=fun a w F H C hC=>
 ⟨(fun hn=>by rw [hr] at hn;cases hn),fun j hj=>by
   rw [hr] at hj;obtain rfl:j=i:=by simpa using hj
   exact h a w F H C hC⟩
theorem Wm (i j:Nat) (hr:Region.ready .any ops listed=[i,j]) (h:aW P c ops Q Z K fuel listed (⟨sL,hP⟩:St) i) (h':aW P c ops Q Z K fuel listed (⟨sL,hP⟩:St) j):aD P c ops Q Z K (fuel+1) listed (⟨sL,hP⟩:St):=fun a w F H C hC=>
 ⟨(fun hn=>by rw [hr] at hn;cases hn),fun m hm=>by
   rw [hr] at hm;rcases (by simpa using hm:m=i∨m=j) with rfl|rfl
   · exact h a w F H C hC
   · exact h' a w F H C hC⟩
theorem Zk5 {i:Nat} (ho:ops[i]? =some o)
 (h:∀(w':World) (M' N':BS) (DQ:Exit→Act→World→Prop),(∀st':St,aD P c ops Q Z K fuel (listed.setIfInBounds i true) ⟨st'.slots,st'.heap++Jt K hP⟩→aN ⟨w',M',N',c.nt,c.dr,c.df⟩ DQ st')→aL P ⟨w',M',N',c.nt,c.dr,c.df⟩ ops DQ [o] ⟨sL,GV K hP⟩):aW P c ops Q Z K fuel listed (⟨sL,hP⟩:St) i:=fun a w F H C hC=>by
 refine Lr (Q':=fun _ a' w'=>(Z i=true∨C w')∧GB P .any ops Q C Z fuel (listed.setIfInBounds i true) a' w') ho (fun a' w' hq=>hq) ?_
 refine h w _ _ _ (fun st' hD a' w' ⟨F',H'⟩=>?_) a w ⟨F,H.frame K⟩
 obtain ⟨H2,hch,hnk⟩:=H.unframe H'
 refine ⟨.inr (hC w' hch),hD a' w' _ H2 C fun W hW=>hC W (hch.tr hW hnk)⟩
theorem Kj {i:Nat} (ho:ops[i]? =some o) (hZ:Z i=true) (hr:Region.ready .any ops (listed.setIfInBounds i true)=[]) (h:∀DQ:Exit→Act→World→Prop,(∀st':St,aN c Q st'→aN c DQ st')→aL P c ops DQ [o] (⟨sL,hP⟩:St)):aW P c ops Q Z K fuel listed (⟨sL,hP⟩:St) i:=fun a w F H C hC=>by
 refine Lr (Q':=fun _ a' w'=>(Z i=true∨C w')∧GB P .any ops Q C Z fuel (listed.setIfInBounds i true) a' w') ho (fun a' w' hq=>hq) ?_
 refine h _ (fun st' hN a' w' H'=>⟨.inl hZ,?_⟩) a w ⟨F,H⟩
 cases fuel with
 |zero=>exact ⟨hr,hN a' w' H'⟩
 |succ n=>exact ⟨fun _=>hN a' w' H',fun i hi=>by rw [hr] at hi;cases hi⟩
end
section
variable {P:Program} {c:Ctx} {ops:Array Oper} {Q:Exit→Act→World→Prop} {rest:List Oper} {sL hP:List (Nat×Ent)} {o:Oper}
theorem Zz {l:Nat} {x:Ent} (l':Nat) (hl:lk hP l=some x) (hl':lk (del l hP) l'=none):J1 (⟨sL,hP⟩:St) (fun _:Unit=>⟨sL,put l' x (del l hP)⟩):=fun c a w ⟨F,H⟩=>by
 refine ⟨(),fun t=>if t=l' then F l else F t,?_⟩
 obtain ⟨v,p⟩:=x
 have aux:∀t y,(t=l∨t=l')→lk (put l' (v,p) (del l hP)) t=some y→t=l'∧y=(v,p):=fun t y ht hy=>by
  rcases ZZ hy with ⟨e1,e2⟩|⟨n1,e2⟩
  · exact ⟨e1.symm,e2.symm⟩
  · rcases ht with h|h
    · exact Qc h.symm (YC e2).1
    · exact Qc h.symm n1
 refine H.retell (fun t=>t=l∨t=l') (fun t y hnT hy=>?_) (fun t y b hT hy hb=>?_) (fun hm t u q hT hy=>?_) (fun t1 t2 y1 y2 b h1 h2 hne hy1 hy2=>Qc ((aux t1 y1 h1 hy1).1.trans (aux t2 y2 h2 hy2).1.symm) hne)
 · have n2:t≠l':=fun e=>hnT (.inr e);rw [ZY (Ne.symm n2)] at hy;exact ⟨(YC hy).2,by simp [n2]⟩
 · obtain ⟨rfl,_⟩:=aux t y hT hy;simp only [if_true] at hb;exact ⟨l,_, .inl rfl,hl,hb⟩
 · obtain ⟨rfl,e⟩:=aux t _ hT hy
   cases e;simp only [if_true];exact (H.tr l v p hl).anti hm
def ZgE (p p':PV):Prop:=p'=p∨(p= .val (.slice none 0 0)∧∃e k,p'= .own e k 0 [])
theorem DG {l e k n:Nat} {h:Value} {cs:List PV} (cs':List PV) (hl:lk hP l=some (h, .own e k n cs)) (hlen:cs'.length=cs.length) (hc:∀(i:Nat) (p p':PV),cs[i]? =some p→cs'[i]? =some p'→ZgE p p'):J1 (⟨sL,hP⟩:St) (fun _:Unit=>⟨sL,put l (h, .own e k n cs') hP⟩):=fun c a w ⟨F,H⟩=>by
 refine ⟨(),F,?_⟩
 have hTr:=H.tr l _ _ hl
 obtain ⟨xs,Fs,hrow,hxl,hT,hd,hb,hF⟩:=hTr.row
 refine H.retell (fun t=>t=l) (fun t y hnT hy=>?_) (fun t y b hT' hy hb'=>?_) (fun hm t u q hT' hy=>?_) (fun t1 t2 _ _ _ h1 h2 hne=>Qc (h1.trans h2.symm) hne)
 · have n2:t≠l:=hnT;rw [ZY (Ne.symm n2)] at hy;exact ⟨hy,rfl⟩
 · subst hT';exact ⟨t,_,rfl,hl,hb'⟩
 · subst hT';rw [ZJ] at hy
   cases hy;refine .own xs Fs hrow oM (fun i x p' hx hp'=>?_) (fun i j b hi hj=>hd i j b oM oM) (fun i b hi=>hb i b oM) (fun b=>by rw [hF b,hlen]);obtain ⟨p,hp⟩:=YB hp' hlen;have hTi:=(hT i x p hx hp).anti hm;rcases hc i p p' hp hp' with rfl|⟨rfl,e',k',rfl⟩
   · exact hTi
   · have hFi:∀b,¬Fs i b:=by
      cases hTi with
      |shr _ hF=>exact hF
     have hx0:x= .slice none 0 0:=(hTi.sh rfl).vOf;subst hx0;exact .own [] (fun _ _=>False) (World.ownsRow_nil _ _ _ _) rfl sM sM sM (fun b=>by simp [Value.ownBlock];exact hFi b)
theorem Zir (X:List PV) (a:PV) (e k:Nat):∀(i:Nat) (p p':PV),(X++[a, .val (.slice none 0 0)])[i]? =some p→(X++[a, .own e k 0 []])[i]? =some p'→ZgE p p':=fun i p p' h1 h2=>by
 rcases XD i X.length with hi|hi
 · rw [X0 hi] at h1 h2;rw [h1] at h2;cases h2;exact .inl rfl
 · rw [X' hi] at h1 h2;match h:i-X.length,h1,h2 with
   |0,h1,h2=>simp at h1 h2;exact .inl (h2.symm.trans h1)
   |1,h1,h2=>simp at h1 h2;exact .inr ⟨h1.symm,e,k,h2.symm⟩
   |j+2,h1,h2=>simp at h1
theorem Co (zs:List Value) (hz:0<zs.length) (n:Nat):(madeCells zs.toArray (n*zs.length)).toList=(List.replicate n zs).flatten:=by
 apply Ua
 intro j
 have hl:(List.replicate n zs).flatten.length=n*zs.length:=sM
 by_cases hj:j<n*zs.length
 · have hmod:j % zs.length<zs.length:=Nat.mod_lt _ hz;have hdiv:j / zs.length<n:=by rw [UP hz];exact hj
   have h1:(madeCells zs.toArray (n*zs.length)).toList[j]? =some (zs[j % zs.length]'hmod):=by
    simp [madeCells,hj,hmod]
   rw [h1];have h2:=K6 (f:=fun _:Nat=>zs) (k:=zs.length) (fun _=>rfl) (l:=List.range n) (i:=j / zs.length) (x:=j / zs.length) (by simp [hdiv]) (j:=j % zs.length) hmod;rw [show j / zs.length*zs.length+j % zs.length=j from by rw [VC];exact Un _ _] at h2;rw [show (List.replicate n zs).flatten=(List.range n).flatMap (fun _=>zs) by
    rw [List.flatMap_def,List.map_const',UI],h2]
   simp [hmod]
 · rw [Vo (by simp [madeCells];omega),Vo oM]
theorem Zk6 {t e kk bytes:Nat} {z:Value} {x y:Operand} {n:Nat} {q q':PV} (zs:List Value) (d:Nat) (hT:ElT P t e kk bytes z) (hzs:z.cells=zs.toArray) (hw:ZP ops sL o=some true) (hd:o.dst=some d) (hn:d<c.nt) (ho:o.op= .makeSlice t x y) (hx:ev sL x=some (.int .i64 n,q)) (hy:ev sL y=some (.int .i64 n,q')) (hl:lk hP d=none)
 (hb:bytes*n≤281474976710656) (hn2:n≤9223372036854775807)
 (k:∀h:Value,h.oneCell'=true→aL P c ops Q rest ⟨put d (h, .val h) sL,put d (h, .own e kk n ((List.replicate n (zs.map PV.val)).flatten)) hP⟩):aL P c ops Q (o::rest) (⟨sL,hP⟩:St):=
 Y4 hw fun a w F H=>by
  obtain ⟨i,hi1,hi2,hi3,hi4⟩:=hT.info;have hzl:zs.length=kk:=by have:=hT.hz;rw [hzs] at this;simpa using this
  have hk0:=hT.hk;have hbn:((i.bytes:Nat):Int)*(n:Int)≤281474976710656:=by rw [hi4,←Int.natCast_mul];omega
  have hr:=run_make (P:=P) w t e i z hT.ht hi1 hi2 .i64 .i64 (n:Int) (n:Int) oM oM hbn oM;rw [hi3,hzs,XY] at hr;have hmc:=Co zs oM n;rw [hzl] at hmc;obtain ⟨F',H'⟩:=Kd (e:=e) (k:=kk) (n:=n) (cap:=n) (cur:=madeCells zs.toArray (n*kk)) (v:= .slice (some ⟨w.heap.size,0,none⟩) n n) H hl hn (vs:=(List.replicate n zs).flatten) (ps:=(List.replicate n (zs.map PV.val)).flatten) sM (fun j u p hu hp=>by
   have:(List.replicate n (zs.map PV.val)).flatten=((List.replicate n zs).flatten).map PV.val:=by simp [List.map_flatten]
   rw [this,Xo,hu] at hp;simp at hp;subst hp;exact .val _) (by simp [hzl]) (Xe _) (by unfold maxLen;omega) (by rw [size_madeCells]) (by rw [hmc];exact Xq (by simp [hzl]))
  unfold Oper.wp execOp;simp only [ho,(H.rd.ev hx).1,(H.rd.ev hy).1,Sem.run_bind,hr,Result.andThen_ok];simp only [Sem.run_pure,Oper.upon,hd];exact k _ rfl _ _ ⟨F',H'⟩
theorem Zas {l e k:Nat} {h:Value} {p q:PV} (hl:lk hP l=some (h, .own e k 1 [p])) (hq:share p=q):OI (⟨sL,hP⟩:St) (ZD (Zr h) 0) (.sptr 0 [q]):=by
 have:=Zao (sL:=sL) (j:=0) hl Vs
 simpa [YV,hq] using this
theorem Zis {f l1 e1 k1 l2 e2 k2:Nat} {h1 h2:Value} {p1 q1 p2 q2:PV} (hl1:lk hP l1=some (h1, .own e1 k1 1 [p1])) (hq1:share p1=q1) (hl2:lk hP l2=some (h2, .own e2 k2 1 [p2])) (hq2:share p2=q2):
 OI (⟨sL,hP⟩:St) (.func (.func f) #[] [ZD (Zr h1) 0,ZD (Zr h2) 0].toArray) (.fn f [.sptr 0 [q1], .sptr 0 [q2]]):=
 ZkV rfl fun i v p hv hp=>by
  match i with
  |0=>simp at hv hp;subst hv hp;exact Zas hl1 hq1
  |1=>simp at hv hp;subst hv hp;exact Zas hl2 hq2
  |i+2=>simp at hv
theorem KI {ι:Type} {x y:Code} (S:ι→St) (h:aC P c x (Exit.then (fun a w=>∃i,Holds c (S i) a w) Q) (⟨sL,hP⟩:St)) (k:∀i,aC P c y Q (S i)):aC P c x (Exit.then (y.wp P Q) Q) (⟨sL,hP⟩:St):=fun a w H=>
 wp_mono (h a w H) fun e a' w' hq=>by
  cases e with
  |normal=>obtain ⟨i,hi⟩:=hq;exact k i a' w' hi
  |_=>exact hq
theorem TZ {t j e kk n:Nat} {x y:Operand} {h v:Value} {q p:PV} {cs:List PV} (l i:Nat) (hw:ZP ops sL o=some true) (hd:o.dst=none) (hT:NoAgg P t=true) (hsz:(P.info? t).map (·.size)=some 1) (ho:o.op= .store t x y)
 (hx:ev sL x=some (ZD (Zr h) j,q)) (hy:ev sL y=some (v,p)) (h1:one p=true) (hl:lk hP l=some (h, .own e kk n cs)) (hji:j=i) (hj:i<cs.length)
 (k:aL P c ops Q rest ⟨sL,put l (h, .own e kk n (cs.set i p)) hP⟩):aL P c ops Q (o::rest) (⟨sL,hP⟩:St):=by
 subst hji
 exact ZeN l hw hd hT hsz ho hx hy h1 hl hj k
theorem S2 {l l' j e k n:Nat} {h:Value} {cs:List PV} {p:PV} (hl:lk hP l=some (h, .own e k n cs)) (hp:cs[j]? =some p) (hl':lk hP l'=none) (hok:L4 p=true):
 J1 (⟨sL,hP⟩:St) (fun v:{v:Value//v.oneCell'=true}=>⟨sL,put l' (v.1,p) (put l (h, .own e k n (cs.set j (.val v.1))) hP)⟩):=fun c a w H=>by
 obtain ⟨v,F,H'⟩:=focus hl hp hl' c a w H
 exact ⟨⟨v,(H'.tr l' v p (ZJ _ _ _)).cellOne hok⟩,F,H'⟩
end
theorem nav {A B:Prop} (h:B) (e:B→A:=by intro h;(repeat (first|with_reducible refine Cg ?_|with_reducible refine Pi ?_|with_reducible refine Dr ?_|with_reducible refine Pj ?_|with_reducible refine Dp ?_|with_reducible refine Dq ?_|with_reducible refine Dt ?_|with_reducible refine Pk ?_|with_reducible refine Pl rfl ?_|with_reducible refine Ch ?_|with_reducible refine Du ?_|with_reducible refine Pm ?_));exact h):A:=e h
theorem Zh {A B:Prop} (h:B) (e:B→A:=by intro h;(repeat (first|with_reducible refine Cg ?_|with_reducible refine Pi ?_|with_reducible refine Dr ?_|with_reducible refine Pj ?_|with_reducible refine Dp ?_|with_reducible refine Dq ?_|with_reducible refine Dt ?_|with_reducible refine Pk ?_|with_reducible refine Pl rfl ?_|with_reducible refine Ch ?_|with_reducible refine Du ?_|with_reducible refine Pm ?_));refine Zi ?_;exact h):A:=e h
theorem Yc {A B:Prop} (h:B) (e:B→A:=by intro h;refine Ww ?_;(repeat (first|with_reducible refine Cg ?_|with_reducible refine Pi ?_|with_reducible refine Dr ?_|with_reducible refine Pj ?_|with_reducible refine Dp ?_|with_reducible refine Dq ?_|with_reducible refine Dt ?_|with_reducible refine Pk ?_|with_reducible refine Pl rfl ?_|with_reducible refine Ch ?_|with_reducible refine Du ?_|with_reducible refine Pm ?_));(try dsimp only);refine Zi ?_;exact h):A:=e h
theorem ZF {A B:Prop} (h:B) (e:B→A:=by intro h;refine Ww ?_;(repeat (first|with_reducible refine Cg ?_|with_reducible refine Pi ?_|with_reducible refine Dr ?_|with_reducible refine Pj ?_|with_reducible refine Dp ?_|with_reducible refine Dq ?_|with_reducible refine Dt ?_|with_reducible refine Pk ?_|with_reducible refine Pl rfl ?_|with_reducible refine Ch ?_|with_reducible refine Du ?_|with_reducible refine Pm ?_));(try dsimp only);exact h):A:=e h
section
variable {P:Program} {c:Ctx} {ops:Array Oper} {Q:Exit→Act→World→Prop} {rest:List Oper} {st:St} {sL hP:List (Nat×Ent)} {o:Oper} {x y:Operand} {t t':TypeId} {q q':PV} {Z:Nat→Bool} {K:List Nat} {fuel:Nat} {listed:Array Bool}
theorem xL {v:Value} {p:PV} (d:Nat) (hy:YE P (⟨sL,hP⟩:St) o (· =v) p) (k:aL P c ops Q rest ⟨put d (v,p) sL,hP⟩) (hw:ZP ops sL o=some true:=by exact rfl) (hd:o.dst=some d:=by exact rfl) (hn:d<c.nt:=by exact Xa rfl):aL P c ops Q (o::rest) (⟨sL,hP⟩:St):=
 Zsj d hw hd hn hy k
theorem yL {V:Value→Prop} {p:PV} (d:Nat) (hy:YE P (⟨sL,hP⟩:St) o V p) (k:∀v,V v→aL P c ops Q rest ⟨put d (v,p) sL,hP⟩) (hw:ZP ops sL o=some true:=by exact rfl) (hd:o.dst=some d:=by exact rfl) (hn:d<c.nt:=by exact Xa rfl):aL P c ops Q (o::rest) (⟨sL,hP⟩:St):=
 ζ2 d hw hd hn hy k
theorem kL {d:Nat} (k:aL P c ops Q rest ⟨put d (undef, .val undef) sL,hP⟩) (hw:ZP ops sL o=some false:=by exact rfl) (hd:o.dst=some d:=by exact rfl) (hn:d<c.nt:=by exact Xa rfl):aL P c ops Q (o::rest) (⟨sL,hP⟩:St):=
 Zn8 d hw hd hn k
theorem bL {l:List Oper} {b:Bool} {q:PV} (t:Nat) (ht:b=true→aL P c ops Q l ⟨put t (.bool true, .val (.bool true)) sL,hP⟩) (hf:b=false→aL P c ops Q l ⟨put t (.bool false, .val (.bool false)) sL,hP⟩) (hx:lk sL t=some (.bool b,q):=by exact rfl):aL P c ops Q l (⟨sL,hP⟩:St):=
 Zcw t hx ht hf
theorem xD {v:Value} {p:PV} (i:Nat) {d:Nat} (ho:ops[i]? =some o) (hy:YE P ⟨sL,Jt K hP⟩ o (· =v) p) (k:aD P c ops Q Z K fuel (listed.setIfInBounds i true) ⟨put d (v,p) sL,hP⟩) (hck:(Region.noSelect ops&&(Region.ready .any ops listed).contains i&&Region.free .any ops listed i&&Pt .any ops Z i)=true:=by kernel_rfl) (hw:ZP ops sL o=some true:=by exact rfl) (hd:o.dst=some d:=by exact rfl) (hn:d<c.nt:=by exact Xa rfl):aD P c ops Q Z K (fuel+1) listed (⟨sL,hP⟩:St):=
 Zsl i d ho hck hw hd hn hy k
theorem gDx {v:Value} {p:PV} (i:Nat) {d:Nat} (k:aD P c ops Q Z K fuel (listed.setIfInBounds i true) ⟨put d (v,p) sL,hP⟩) (ho:ops[i]? =some o:=by exact rfl) (hy:YE P ⟨sL,Jt K hP⟩ o (· =v) p:=by first|exact Za|exact Wv|exact Wq|exact Gg|exact Eu|exact SN|exact Pa|exact DJ|exact DI|exact Rc|exact ZcI|exact Zat|exact ZbG|exact ZeX|exact ZeW|exact q_neg|exact GW) (hck:(Region.noSelect ops&&(Region.ready .any ops listed).contains i&&Region.free .any ops listed i&&Pt .any ops Z i)=true:=by kernel_rfl) (hw:ZP ops sL o=some true:=by exact rfl) (hd:o.dst=some d:=by exact rfl) (hn:d<c.nt:=by exact Xa rfl):aD P c ops Q Z K (fuel+1) listed (⟨sL,hP⟩:St):=xD i ho hy k hck hw hd hn
theorem yD {V:Value→Prop} {p:PV} (i:Nat) {d:Nat} (ho:ops[i]? =some o) (hy:YE P ⟨sL,Jt K hP⟩ o V p) (k:∀v,V v→aD P c ops Q Z K fuel (listed.setIfInBounds i true) ⟨put d (v,p) sL,hP⟩) (hck:(Region.noSelect ops&&(Region.ready .any ops listed).contains i&&Region.free .any ops listed i&&Pt .any ops Z i)=true:=by kernel_rfl) (hw:ZP ops sL o=some true:=by exact rfl) (hd:o.dst=some d:=by exact rfl) (hn:d<c.nt:=by exact Xa rfl):aD P c ops Q Z K (fuel+1) listed (⟨sL,hP⟩:St):=
 ZcG i d ho hck hw hd hn hy k
theorem kD (i:Nat) {d:Nat} (k:aD P c ops Q Z K fuel (listed.setIfInBounds i true) ⟨put d (undef, .val undef) sL,hP⟩) (ho:ops[i]? =some o:=by exact rfl) (hck:(Region.noSelect ops&&(Region.ready .any ops listed).contains i&&Region.free .any ops listed i&&Pt .any ops Z i)=true:=by kernel_rfl) (hw:ZP ops sL o=some false:=by exact rfl) (hd:o.dst=some d:=by exact rfl) (hn:d<c.nt:=by exact Xa rfl):aD P c ops Q Z K (fuel+1) listed (⟨sL,hP⟩:St):=
 Zom i d ho hck hw hd hn k
theorem xE {v:Value} {p:PV} (i:Nat) {d:Nat} (ho:ops[i]? =some o) (hy:YE P (⟨sL,hP⟩:St) o (· =v) p) (k:aD P c ops Q Z K fuel (listed.setIfInBounds i true) ⟨put d (v,p) sL,hP⟩) (hr:Region.ready .any ops listed=[i]:=by kernel_rfl) (hw:ZP ops sL o=some true:=by exact rfl) (hd:o.dst=some d:=by exact rfl) (hn:d<c.nt:=by exact Xa rfl):aD P c ops Q Z K (fuel+1) listed (⟨sL,hP⟩:St):=
 ZrX i d ho hr hw hd hn hy k
theorem gEx {v:Value} {p:PV} (i:Nat) {d:Nat} (k:aD P c ops Q Z K fuel (listed.setIfInBounds i true) ⟨put d (v,p) sL,hP⟩) (ho:ops[i]? =some o:=by exact rfl) (hy:YE P (⟨sL,hP⟩:St) o (· =v) p:=by first|exact Za|exact Wv|exact Wq|exact Gg|exact Eu|exact SN|exact Pa|exact DJ|exact DI|exact Rc|exact ZcI|exact Zat|exact ZbG|exact ZeX|exact ZeW|exact q_neg|exact GW) (hr:Region.ready .any ops listed=[i]:=by kernel_rfl) (hw:ZP ops sL o=some true:=by exact rfl) (hd:o.dst=some d:=by exact rfl) (hn:d<c.nt:=by exact Xa rfl):aD P c ops Q Z K (fuel+1) listed (⟨sL,hP⟩:St):=xE i ho hy k hr hw hd hn
theorem yE {V:Value→Prop} {p:PV} (i:Nat) {d:Nat} (ho:ops[i]? =some o) (hy:YE P (⟨sL,hP⟩:St) o V p) (k:∀v,V v→aD P c ops Q Z K fuel (listed.setIfInBounds i true) ⟨put d (v,p) sL,hP⟩) (hr:Region.ready .any ops listed=[i]:=by kernel_rfl) (hw:ZP ops sL o=some true:=by exact rfl) (hd:o.dst=some d:=by exact rfl) (hn:d<c.nt:=by exact Xa rfl):aD P c ops Q Z K (fuel+1) listed (⟨sL,hP⟩:St):=
 Zql i d ho hr hw hd hn hy k
theorem bD {b:Bool} {q:PV} (t:Nat) (ht:b=true→aD P c ops Q Z K fuel listed ⟨put t (.bool true, .val (.bool true)) sL,hP⟩) (hf:b=false→aD P c ops Q Z K fuel listed ⟨put t (.bool false, .val (.bool false)) sL,hP⟩) (hx:lk sL t=some (.bool b,q):=by exact rfl):aD P c ops Q Z K fuel listed (⟨sL,hP⟩:St):=
 ZcH t hx ht hf
theorem Za {P:Program} {st:St} {o:Oper} {x:Operand} {v:Value} {p:PV} (ho:o.op= .move x:=by exact rfl) (hx:ev st.slots x=some (v,p):=by exact rfl):YE P st o (· =v) p:=
 Zqx ho hx
theorem Wv {P:Program} {st:St} {o:Oper} {x:Operand} {v:Value} {p:PV} (ho:o.op= .assign x:=by exact rfl) (hx:ev st.slots x=some (v,p):=by exact rfl):YE P st o (· =v) p:=
 ZkQ ho hx
theorem GW {P:Program} {st:St} {o:Oper} {c x y:Operand} {b:Bool} {q:PV} {v:Value} {p:PV} (ho:o.op= .pick c x y:=by exact rfl) (hc:ev st.slots c=some (.bool b,q):=by exact rfl) (hx:ev st.slots (if b then x else y)=some (v,p):=by exact rfl):YE P st o (· =v) p:=
 Zqy ho hc hx
theorem DI {P:Program} {st:St} {o:Oper} {x:Operand} {t:TypeId} {b:Bool} {q:PV} (ho:o.op= .unOp .not t x:=by exact rfl) (hx:ev st.slots x=some (.bool b,q):=by exact rfl):YE P st o (· = .bool (!b)) (.val (.bool (!b))):=
 ZrM ho hx
theorem Wq {k:IntKind} {a b:Int} (ho:o.op= .binOp .lss t x y t':=by exact rfl) (hx:ev st.slots x=some (.int k a,q):=by exact rfl) (hy:ev st.slots y=some (.int k b,q'):=by exact rfl):YE P st o (· = .bool (decide (a<b))) (.val (.bool (decide (a<b)))):=
 ZrN ho hx hy
theorem Zat {k:IntKind} {a b:Int} (ho:o.op= .binOp .leq t x y t':=by exact rfl) (hx:ev st.slots x=some (.int k a,q):=by exact rfl) (hy:ev st.slots y=some (.int k b,q'):=by exact rfl):YE P st o (· = .bool (decide (a≤b))) (.val (.bool (decide (a≤b)))):=
 ZrO ho hx hy
theorem Rc {k:IntKind} {a b:Int} (ho:o.op= .binOp .gtr t x y t':=by exact rfl) (hx:ev st.slots x=some (.int k a,q):=by exact rfl) (hy:ev st.slots y=some (.int k b,q'):=by exact rfl):YE P st o (· = .bool (decide (b<a))) (.val (.bool (decide (b<a)))):=
 ZrP ho hx hy
theorem ZcI {k:IntKind} {a b:Int} (ho:o.op= .binOp .geq t x y t':=by exact rfl) (hx:ev st.slots x=some (.int k a,q):=by exact rfl) (hy:ev st.slots y=some (.int k b,q'):=by exact rfl):YE P st o (· = .bool (decide (b≤a))) (.val (.bool (decide (b≤a)))):=
 ZrQ ho hx hy
theorem SN {k:IntKind} {a b:Int} (ho:o.op= .binOp .eql t x y t':=by exact rfl) (hx:ev st.slots x=some (.int k a,q):=by exact rfl) (hy:ev st.slots y=some (.int k b,q'):=by exact rfl):YE P st o (· = .bool (decide (a=b))) (.val (.bool (decide (a=b)))):=
 ZrR ho hx hy
theorem Pa {k:IntKind} {a b:Int} (ho:o.op= .binOp .neq t x y t':=by exact rfl) (hx:ev st.slots x=some (.int k a,q):=by exact rfl) (hy:ev st.slots y=some (.int k b,q'):=by exact rfl):YE P st o (· = .bool (decide (a≠b))) (.val (.bool (decide (a≠b)))):=
 ZrS ho hx hy
theorem ZbG {a b:BA} (ho:o.op= .binOp .eql t x y t':=by exact rfl) (hx:ev st.slots x=some (.string a,q):=by exact rfl) (hy:ev st.slots y=some (.string b,q'):=by exact rfl):YE P st o (· = .bool (a.toList==b.toList)) (.val (.bool (a.toList==b.toList))):=
 Zqz ho hx hy
theorem ZeW {a b:BA} (ho:o.op= .binOp .neq t x y t':=by exact rfl) (hx:ev st.slots x=some (.string a,q):=by exact rfl) (hy:ev st.slots y=some (.string b,q'):=by exact rfl):YE P st o (· = .bool (!(a.toList==b.toList))) (.val (.bool (!(a.toList==b.toList)))):=
 ZqA ho hx hy
theorem ZeX {a b:BA} (ho:o.op= .binOp .lss t x y t':=by exact rfl) (hx:ev st.slots x=some (.string a,q):=by exact rfl) (hy:ev st.slots y=some (.string b,q'):=by exact rfl):YE P st o (· = .bool (Op.bytesLess a.toList b.toList)) (.val (.bool (Op.bytesLess a.toList b.toList))):=
 ZqB ho hx hy
theorem ZeY {a b:BA} (ho:o.op= .binOp .geq t x y t':=by exact rfl) (hx:ev st.slots x=some (.string a,q):=by exact rfl) (hy:ev st.slots y=some (.string b,q'):=by exact rfl):YE P st o (· = .bool (!Op.bytesLess a.toList b.toList)) (.val (.bool (!Op.bytesLess a.toList b.toList))):=
 ZqC ho hx hy
theorem ZeZ {a b:BA} (ho:o.op= .binOp .gtr t x y t':=by exact rfl) (hx:ev st.slots x=some (.string a,q):=by exact rfl) (hy:ev st.slots y=some (.string b,q'):=by exact rfl):YE P st o (· = .bool (!(Op.bytesLess a.toList b.toList||a.toList==b.toList))) (.val (.bool (!(Op.bytesLess a.toList b.toList||a.toList==b.toList)))):=
 ZqD ho hx hy
theorem Eu {a b:Int} (ho:o.op= .binOp .add t x y t':=by exact rfl) (hx:ev st.slots x=some (.int .i64 a,q):=by exact rfl) (hy:ev st.slots y=some (.int .i64 b,q'):=by exact rfl) (h1: -9223372036854775808≤a+b:=by exact Tx) (h2:a+b≤9223372036854775807:=by exact Tx):YE P st o (· = .int .i64 (a+b)) (.val (.int .i64 (a+b))):=
 Zqj ho hx hy h1 h2
theorem DJ {a b:Int} (ho:o.op= .binOp .sub t x y t':=by exact rfl) (hx:ev st.slots x=some (.int .i64 a,q):=by exact rfl) (hy:ev st.slots y=some (.int .i64 b,q'):=by exact rfl) (h1: -9223372036854775808≤a-b:=by exact Tx) (h2:a-b≤9223372036854775807:=by exact Tx):YE P st o (· = .int .i64 (a-b)) (.val (.int .i64 (a-b))):=
 Zqk ho hx hy h1 h2
theorem Zk7 {a b:Bool} (hu:P.underlying t=some .bool) (ho:o.op= .binOp .eql t x y t':=by exact rfl) (hx:ev st.slots x=some (.bool a,q):=by exact rfl) (hy:ev st.slots y=some (.bool b,q'):=by exact rfl):YE P st o (· = .bool (a==b)) (.val (.bool (a==b))):=
 ZkR hu ho hx hy
theorem EY {s:BA} {i:Int} {c:UInt8} {k:IntKind} (hu:P.underlying t=some .string) (ho:o.op= .index t x y:=by exact rfl) (hx:ev st.slots x=some (.string s,q):=by exact rfl) (hy:ev st.slots y=some (.int k i,q'):=by exact rfl) (hi:0≤i:=by exact Tx) (hc:s.data[i.toNat]? =some c:=by assumption):YE P st o (· = .int .u8 c.toNat) (.val (.int .u8 c.toNat)):=
 Zn7 hu ho hx hy hi hc
theorem Pu {P:Program} {st:St} {o:Oper} {x:Operand} {t:TypeId} {s:BA} {q:PV} (ht:P.underlying t=some .string) (ho:o.op= .call {callee:= .builtin .len,args:= #[x],argTypes:= #[t]}:=by exact rfl) (hx:ev st.slots x=some (.string s,q):=by exact rfl):YE P st o (· = .int .i64 s.size) (.val (.int .i64 s.size)):=
 ZqE ht ho hx
theorem Gg {P:Program} {st:St} {o:Oper} {x:Operand} {i:Nat} {vs:List Value} {ps:List PV} {v:Value} {p:PV} (ho:o.op= .extract x i:=by exact rfl) (hx:ev st.slots x=some (.tuple vs.toArray, .tup ps):=by exact rfl) (hv:vs[i]? =some v:=by exact rfl) (hp:ps[i]? =some p:=by exact rfl):YE P st o (· =v) p:=
 Zh6 ho hx hv hp
theorem YP {s f fo j:Nat} {x:Operand} {v:Value} {cs:List PV} (hT:FldT P s f fo=true) (ho:o.op= .fieldAddr s x f:=by exact rfl) (hx:ev st.slots x=some (v, .sptr j cs):=by exact rfl):YE P st o (· =ZD v fo) (.sptr (j+fo) cs):=
 Zh7 hT ho hx
theorem Zb {s f fo j e k n:Nat} {x:Operand} {h:Value} {p:PV} {cs:List PV} (l:Nat) (hT:FldT P s f fo=true) (ho:o.op= .fieldAddr s x f:=by exact rfl) (hx:ev st.slots x=some (ZD (Zr h) j,p):=by exact rfl) (hl:lk st.heap l=some (h, .own e k n cs):=by exact rfl) (hn:0<n:=by exact Tx):YE P st o (· =ZD (Zr h) (j+fo)) (.val (ZD (Zr h) (j+fo))):=
 Zh8 l hT ho hx hl hn
theorem Zg {t e k n:Nat} {x y:Operand} {v:Value} {cs:List PV} {q:PV} {kd:IntKind} {i:Nat} (hT:SlT P t e k=true) (ho:o.op= .indexAddr t x y:=by exact rfl) (hx:ev st.slots x=some (v, .sl n cs):=by exact rfl) (hy:ev st.slots y=some (.int kd (i:Int),q):=by exact rfl) (h1:i<n:=by exact Tx):YE P st o (· =ZD (Zr v) (i*k)) (.sptr (i*k) cs):=
 ZeL hT ho hx hy h1
theorem Zo {t e k e' k' n:Nat} {x y:Operand} {h:Value} {p q:PV} {cs:List PV} {kd:IntKind} {i:Nat} (l:Nat) (hT:SlT P t e k=true) (ho:o.op= .indexAddr t x y:=by exact rfl) (hx:ev st.slots x=some (h,p):=by exact rfl) (hy:ev st.slots y=some (.int kd (i:Int),q):=by exact rfl) (hl:lk st.heap l=some (h, .own e' k' n cs):=by exact rfl) (h1:i<n:=by exact Tx):YE P st o (· =ZD (Zr h) (i*k)) (.val (ZD (Zr h) (i*k))):=
 ZeM l hT ho hx hy hl h1
theorem OJ {t e k n:Nat} {x y:Operand} {v:Value} {cs:List PV} {q:PV} {kd:IntKind} {i:Int} (hT:SlT P t e k=true) (ho:o.op= .indexAddr t x y:=by exact rfl) (hx:ev st.slots x=some (v, .sl n cs):=by exact rfl) (hy:ev st.slots y=some (.int kd i,q):=by exact rfl) (h0:0≤i:=by exact Tx) (h1:i<n:=by exact Tx):YE P st o (· =ZD (Zr v) (i.toNat*k)) (.sptr (i.toNat*k) cs):=
 Zal hT ho hx hy h0 h1
theorem Ze0 {t e k e' k' n:Nat} {x y:Operand} {h:Value} {p q:PV} {cs:List PV} {kd:IntKind} {i:Int} (l:Nat) (hT:SlT P t e k=true) (ho:o.op= .indexAddr t x y:=by exact rfl) (hx:ev st.slots x=some (h,p):=by exact rfl) (hy:ev st.slots y=some (.int kd i,q):=by exact rfl) (hl:lk st.heap l=some (h, .own e' k' n cs):=by exact rfl) (h0:0≤i:=by exact Tx) (h1:i<n:=by exact Tx):YE P st o (· =ZD (Zr h) (i.toNat*k)) (.val (ZD (Zr h) (i.toNat*k))):=
 Zam l hT ho hx hy hl h0 h1
theorem ZG {t j:Nat} {x:Operand} {v:Value} {cs:List PV} {p:PV} (hT:NoAgg P t=true) (ho:o.op= .load t x:=by exact rfl) (hx:ev st.slots x=some (v, .sptr j cs):=by exact rfl) (hp:cs[j]? =some p:=by first|exact rfl|assumption):YE P st o (vOf p) p:=
 Zcu hT ho hx hp
theorem Ze {t j e k n:Nat} {x:Operand} {h:Value} {q:PV} {cs:List PV} {p:PV} (l:Nat) (hT:NoAgg P t=true) (ho:o.op= .load t x:=by exact rfl) (hx:ev st.slots x=some (ZD (Zr h) j,q):=by exact rfl) (hl:lk st.heap l=some (h, .own e k n cs):=by exact rfl) (hp:cs[j]? =some p:=by first|exact rfl|assumption) (hsh:GU p=true:=by exact rfl):YE P st o (vOf p) p:=
 Zcv l hT ho hx hl hp hsh
theorem YD {t k j:Nat} {x:Operand} {v:Value} {cs ps:List PV} (hT:AggT P t k=true) (ho:o.op= .load t x:=by exact rfl) (hx:ev sL x=some (v, .sptr j cs):=by exact rfl) (hp:j+k≤cs.length:=by exact Tx) (hps:(cs.drop j).take k=ps:=by first|assumption|exact rfl):YE P (⟨sL,hP⟩:St) o (fun _=>True) (.agg ps):=
 ZeT hT ho hx hp hps
theorem Zj {t k j e k' n:Nat} {x:Operand} {h:Value} {q:PV} {cs ps:List PV} (l:Nat) (hT:AggT P t k=true) (ho:o.op= .load t x:=by exact rfl) (hx:ev sL x=some (ZD (Zr h) j,q):=by exact rfl) (hl:lk hP l=some (h, .own e k' n cs):=by exact rfl) (hp:j+k≤cs.length:=by exact Tx) (hk:0<k:=by decide) (hps:(cs.drop j).take k=ps:=by first|assumption|exact rfl) (hsh:ps.all GU=true:=by first|exact rfl|decide):YE P (⟨sL,hP⟩:St) o (fun _=>True) (.agg ps):=
 ZeU l hT ho hx hl hp hk hps hsh
theorem Zy {t e k n:Nat} {x:Operand} {v:Value} {cs:List PV} (hT:SlT P t e k=true) (ho:o.op= .call {callee:= .builtin .len,args:= #[x],argTypes:= #[t]}:=by exact rfl) (hx:ev st.slots x=some (v, .sl n cs):=by exact rfl):YE P st o (· = .int .i64 n) (.val (.int .i64 n)):=
 Zib hT ho hx
theorem WQ {t e k e' k' n:Nat} {x:Operand} {h:Value} {p:PV} {cs:List PV} (l:Nat) (hT:SlT P t e k=true) (ho:o.op= .call {callee:= .builtin .len,args:= #[x],argTypes:= #[t]}:=by exact rfl) (hx:ev st.slots x=some (h,p):=by exact rfl) (hl:lk st.heap l=some (h, .own e' k' n cs):=by exact rfl):YE P st o (· = .int .i64 n) (.val (.int .i64 n)):=
 Zic l hT ho hx hl
theorem ZqI {t ks e:Nat} {x:Operand} {m:Value} {kv:List (Value×Value)} (ht:P.underlying t=some (.map ks e)) (ho:o.op= .call {callee:= .builtin .len,args:= #[x],argTypes:= #[t]}:=by exact rfl) (hx:ev sL x=some (m, .smap kv):=by exact rfl):YE P (⟨sL,hP⟩:St) o (· = .int .i64 kv.length) (.val (.int .i64 kv.length)):=
 Zk0 ht ho hx
theorem ZgF {t ks e:Nat} {x:Operand} {m:Value} {kv:List (Value×Value)} {p:PV} (l:Nat) (ht:P.underlying t=some (.map ks e)) (ho:o.op= .call {callee:= .builtin .len,args:= #[x],argTypes:= #[t]}:=by exact rfl) (hx:ev sL x=some (m,p):=by exact rfl) (hl:lk hP l=some (m, .omap kv):=by exact rfl):YE P (⟨sL,hP⟩:St) o (· = .int .i64 kv.length) (.val (.int .i64 kv.length)):=
 Zk1 l ht ho hx hl
theorem ZX {t:Nat} {parts:Array (Nat×Operand)} {z:Value} {offs:List Nat} {zs:List Value} {es:List (Nat×Ent)} (hT:J2 P t=some (z,offs.map fun o=>(o,1))) (hzs:z.cells=zs.toArray:=by exact rfl) (ho:o.op= .build t parts:=by exact rfl) (hx:evP sL parts.toList=some es:=by exact rfl) (h1:es.all (fun x=>one x.2.2)=true:=by first|exact rfl|(simp only [VU,List.all_nil,VV,Xi];(repeat (first|refine ⟨?_,?_⟩|rfl|assumption)))) (hin:es.all (fun x=>decide (x.1<offs.length)&&decide (offs.getD x.1 0<zs.length))=true:=by exact rfl):YE P (⟨sL,hP⟩:St) o (· = .agg (OT offs zs (es.map fun x=>(x.1,x.2.1))).toArray) (.agg (OT offs (zs.map .val) (es.map fun x=>(x.1,x.2.2)))):=
 Zoe hT hzs ho hx h1 hin
theorem TP {f:Nat} {caps:Array Operand} {es:List Ent} (ho:o.op= .makeFunc (.func f) #[] caps:=by exact rfl) (hx:evL sL caps.toList=some es:=by exact rfl):YE P (⟨sL,hP⟩:St) o (· = .func (.func f) #[] (es.map (·.1)).toArray) (.fn f (es.map (·.2))):=
 ZqG ho hx
theorem Lw {t ks e:Nat} {kd:TypeDesc} {z u:Value} {x y:Operand} {m k:Value} {kv:List (Value×Value)} {q:PV} (hT:MpT P t ks e kd z) (ho:o.op= .lookup t x y false:=by exact rfl) (hx:ev sL x=some (m, .smap kv):=by exact rfl) (hy:ev sL y=some (k,q):=by exact rfl) (hk:kok kd k kv:=by first|exact SL _ _|exact DD _ _|exact DC _ _|assumption) (hu:(Ka kv k).getD z=u:=by assumption):YE P (⟨sL,hP⟩:St) o (· =u) (.val u):=
 Zil hT ho hx hy hk hu
theorem Zon {t ks e:Nat} {kd:TypeDesc} {z:Value} {x y:Operand} {m k:Value} {kv:List (Value×Value)} {q:PV} (hT:MpT P t ks e kd z) (ho:o.op= .lookup t x y true:=by exact rfl) (hx:ev sL x=some (m, .smap kv):=by exact rfl) (hy:ev sL y=some (k,q):=by exact rfl) (hk:kok kd k kv:=by first|exact SL _ _|exact DD _ _|exact DC _ _|assumption):YE P (⟨sL,hP⟩:St) o (· = .tuple [(Ka kv k).getD z, .bool (Ka kv k).isSome].toArray) (.tup [.val ((Ka kv k).getD z), .val (.bool (Ka kv k).isSome)]):=
 Zik hT ho hx hy hk
theorem ZcJ {t ks e:Nat} {kd:TypeDesc} {z:Value} {x y:Operand} {m k:Value} {kv:List (Value×Value)} {p q:PV} (l:Nat) (hT:MpT P t ks e kd z) (ho:o.op= .lookup t x y true:=by exact rfl) (hx:ev sL x=some (m,p):=by exact rfl) (hl:lk hP l=some (m, .omap kv):=by exact rfl) (hy:ev sL y=some (k,q):=by exact rfl) (hk:kok kd k kv:=by first|exact SL _ _|exact DD _ _|exact DC _ _|assumption):YE P (⟨sL,hP⟩:St) o (· = .tuple [(Ka kv k).getD z, .bool (Ka kv k).isSome].toArray) (.tup [.val ((Ka kv k).getD z), .val (.bool (Ka kv k).isSome)]):=
 Zim l hT ho hx hl hy hk
theorem Pv {t ks e:Nat} {kd:TypeDesc} {z u:Value} {x y:Operand} {m k:Value} {kv:List (Value×Value)} {p q:PV} (l:Nat) (hT:MpT P t ks e kd z) (ho:o.op= .lookup t x y false:=by exact rfl) (hx:ev sL x=some (m,p):=by exact rfl) (hl:lk hP l=some (m, .omap kv):=by exact rfl) (hy:ev sL y=some (k,q):=by exact rfl) (hk:kok kd k kv:=by first|exact SL _ _|exact DD _ _|exact DC _ _|assumption) (hu:(Ka kv k).getD z=u:=by assumption):YE P (⟨sL,hP⟩:St) o (· =u) (.val u):=
 Zin l hT ho hx hl hy hk hu
theorem Zk8 {t:TypeId} {x:Operand} {v:Value} {p:PV} (d:Nat) (k:∀h:Value,aL P c ops Q rest ⟨put d (ZD (Zr h) 0, .val (ZD (Zr h) 0)) sL,put d (h, .own t 1 1 [p]) hP⟩) (hw:ZP ops sL o=some true:=by exact rfl) (hd:o.dst=some d:=by exact rfl) (hn:d<c.nt:=by exact Xa rfl) (ho:o.op= .box t x:=by exact rfl) (hx:ev sL x=some (v,p):=by exact rfl) (h1:one p=true:=by first|exact rfl|assumption) (hl:lk hP d=none:=by exact rfl):aL P c ops Q (o::rest) (⟨sL,hP⟩:St):=
 Zn9 d hw hd hn ho hx h1 hl k
theorem ZV {t:TypeId} {x:Operand} {v:Value} {ps:List PV} (d:Nat) (m:Nat) (k:∀h:Value,aL P c ops Q rest ⟨put d (ZD (Zr h) 0, .val (ZD (Zr h) 0)) sL,put d (h, .own t m 1 ps) hP⟩) (hw:ZP ops sL o=some true:=by exact rfl) (hd:o.dst=some d:=by exact rfl) (hn:d<c.nt:=by exact Xa rfl) (ho:o.op= .box t x:=by exact rfl) (hx:ev sL x=some (v, .agg ps):=by exact rfl) (hm:ps.length=m:=by exact rfl) (hl:lk hP d=none:=by exact rfl):aL P c ops Q (o::rest) (⟨sL,hP⟩:St):=
 Zoa d m hw hd hn ho hx hm hl k
theorem Zx {t:TypeId} {z:Value} (zs:List Value) (m:Nat) (d:Nat) (hz:ZeroT P t z) (k:∀h:Value,aL P c ops Q rest ⟨put d (ZD (Zr h) 0, .val (ZD (Zr h) 0)) sL,put d (h, .own t m 1 (zs.map .val)) hP⟩) (hw:ZP ops sL o=some true:=by exact rfl) (hd:o.dst=some d:=by exact rfl) (hn:d<c.nt:=by exact Xa rfl) (ho:o.op= .alloc t:=by exact rfl) (hzs:z.cells=zs.toArray:=by exact rfl) (hm:zs.length=m:=by exact rfl) (hl:lk hP d=none:=by exact rfl):aL P c ops Q (o::rest) (⟨sL,hP⟩:St):=
 ZkT zs m d hw hd hn ho hz hzs hm hl k
theorem GY {t e bytes:Nat} {z:Value} {x y:Operand} {n:Nat} {q q':PV} (d:Nat) (hT:ElT P t e 1 bytes z) (k:∀h:Value,h.oneCell'=true→aL P c ops Q rest ⟨put d (h, .val h) sL,put d (h, .own e 1 n (List.replicate n (.val z))) hP⟩) (hw:ZP ops sL o=some true:=by exact rfl) (hd:o.dst=some d:=by exact rfl) (hn:d<c.nt:=by exact Xa rfl) (ho:o.op= .makeSlice t x y:=by exact rfl) (hx:ev sL x=some (.int .i64 n,q):=by exact rfl) (hy:ev sL y=some (.int .i64 n,q'):=by exact rfl) (hl:lk hP d=none:=by exact rfl) (hb:bytes*n≤281474976710656:=by exact Tx) (hn2:n≤9223372036854775807:=by exact Tx) (hz1:z.oneCell'=true:=by exact rfl):aL P c ops Q (o::rest) (⟨sL,hP⟩:St):=
 Zob d hT hw hd hn ho hx hy hl hb hn2 hz1 k
theorem Zoo {t e kk bytes:Nat} {z:Value} {x y:Operand} {n:Nat} {q q':PV} (zs:List Value) (d:Nat) (hT:ElT P t e kk bytes z) (k:∀h:Value,h.oneCell'=true→aL P c ops Q rest ⟨put d (h, .val h) sL,put d (h, .own e kk n ((List.replicate n (zs.map PV.val)).flatten)) hP⟩) (hzs:z.cells=zs.toArray:=by exact rfl) (hw:ZP ops sL o=some true:=by exact rfl) (hd:o.dst=some d:=by exact rfl) (hn:d<c.nt:=by exact Xa rfl) (ho:o.op= .makeSlice t x y:=by exact rfl) (hx:ev sL x=some (.int .i64 n,q):=by exact rfl) (hy:ev sL y=some (.int .i64 n,q'):=by exact rfl) (hl:lk hP d=none:=by exact rfl) (hb:bytes*n≤281474976710656:=by exact Tx) (hn2:n≤9223372036854775807:=by exact Tx):aL P c ops Q (o::rest) (⟨sL,hP⟩:St):=
 Zk6 zs d hT hzs hw hd hn ho hx hy hl hb hn2 k
theorem HG {t e kk bytes:Nat} {z:Value} (d:Nat) (hT:ElT P t e kk bytes z) (k:∀h:Value,h.oneCell'=true→aL P c ops Q rest ⟨put d (h, .val h) sL,put d (h, .own e kk 0 []) hP⟩) (hw:ZP ops sL o=some true:=by exact rfl) (hd:o.dst=some d:=by exact rfl) (hn:d<c.nt:=by exact Xa rfl) (ho:o.op= .buildSlice t 0 #[]:=by exact rfl) (hl:lk hP d=none:=by exact rfl):aL P c ops Q (o::rest) (⟨sL,hP⟩:St):=
 Zoc d hT hw hd hn ho hl k
theorem Wx {t e kk bytes:Nat} {z:Value} {x:Operand} {v:Value} {p:PV} (d:Nat) (hT:ElT P t e 1 bytes z) (k:∀h:Value,h.oneCell'=true→aL P c ops Q rest ⟨put d (h, .val h) sL,put d (h, .own e 1 1 [p]) hP⟩) (hw:ZP ops sL o=some true:=by exact rfl) (hd:o.dst=some d:=by exact rfl) (hn:d<c.nt:=by exact Xa rfl) (ho:o.op= .buildSlice t 1 #[(0,x)]:=by exact rfl) (hx:ev sL x=some (v,p):=by exact rfl) (h10:one p=true:=by first|exact rfl|assumption) (hl:lk hP d=none:=by exact rfl):aL P c ops Q (o::rest) (⟨sL,hP⟩:St):=
 Zod (kk:=1) d hT hw hd hn ho hx h10 hl k
theorem JW {t e kk bytes:Nat} {z:Value} {x:Operand} {v:Value} {ps:List PV} (d:Nat) (hT:ElT P t e kk bytes z) (k:∀h:Value,h.oneCell'=true→aL P c ops Q rest ⟨put d (h, .val h) sL,put d (h, .own e kk 1 ps) hP⟩) (hw:ZP ops sL o=some true:=by exact rfl) (hd:o.dst=some d:=by exact rfl) (hn:d<c.nt:=by exact Xa rfl) (ho:o.op= .buildSlice t 1 #[(0,x)]:=by exact rfl) (hx:ev sL x=some (v, .agg ps):=by exact rfl) (hps:ps.length=kk:=by exact rfl) (hkb:kk≤1000:=by decide) (hl:lk hP d=none:=by exact rfl):aL P c ops Q (o::rest) (⟨sL,hP⟩:St):=
 ZkU d hT hw hd hn ho hx hps hkb hl k
theorem Ly {t e bytes m:Nat} {z:Value} {xs:List Operand} {parts:Array (Nat×Operand)} {es:List Ent} (d:Nat) (hT:ElT P t e 1 bytes z) (k:∀h:Value,h.oneCell'=true→aL P c ops Q rest ⟨put d (h, .val h) sL,put d (h, .own e 1 m (es.map (·.2))) hP⟩) (hw:ZP ops sL o=some true:=by exact rfl) (hd:o.dst=some d:=by exact rfl) (hn:d<c.nt:=by exact Xa rfl) (ho:o.op= .buildSlice t m parts:=by exact rfl) (hpt:parts=((xs.zipIdx).map fun x=>(x.2,x.1)).toArray:=by exact rfl) (hx:evL sL xs=some es:=by exact rfl) (h1:es.all (fun x=>one x.2)=true:=by exact rfl) (hm:es.length=m:=by exact rfl) (hm0:0<m:=by decide) (hm1:m≤1000:=by decide) (hl:lk hP d=none:=by exact rfl):aL P c ops Q (o::rest) (⟨sL,hP⟩:St):=
 Zgz d hT hw hd hn ho hpt hx h1 hm hm0 hm1 hl k
theorem GC {t j e kk n:Nat} {x y:Operand} {h v:Value} {q p:PV} {cs:List PV} (l:Nat) (hT:NoAgg P t=true) (hsz:(P.info? t).map (·.size)=some 1) (k:aL P c ops Q rest ⟨sL,put l (h, .own e kk n (cs.set j p)) hP⟩) (hw:ZP ops sL o=some true:=by exact rfl) (hd:o.dst=none:=by exact rfl) (ho:o.op= .store t x y:=by exact rfl) (hx:ev sL x=some (ZD (Zr h) j,q):=by exact rfl) (hy:ev sL y=some (v,p):=by exact rfl) (h1:one p=true:=by first|exact rfl|assumption) (hl:lk hP l=some (h, .own e kk n cs):=by exact rfl) (hj:j<cs.length:=by exact Tx):aL P c ops Q (o::rest) (⟨sL,hP⟩:St):=
 ZeN l hw hd hT hsz ho hx hy h1 hl hj k
theorem Zk9 {t j e kk n:Nat} {x y:Operand} {h v:Value} {q p:PV} {cs:List PV} (l:Nat) (i:Nat) (hT:NoAgg P t=true) (hsz:(P.info? t).map (·.size)=some 1) (k:aL P c ops Q rest ⟨sL,put l (h, .own e kk n (cs.set i p)) hP⟩) (hw:ZP ops sL o=some true:=by exact rfl) (hd:o.dst=none:=by exact rfl) (ho:o.op= .store t x y:=by exact rfl) (hx:ev sL x=some (ZD (Zr h) j,q):=by exact rfl) (hy:ev sL y=some (v,p):=by exact rfl) (h1:one p=true:=by first|exact rfl|assumption) (hl:lk hP l=some (h, .own e kk n cs):=by exact rfl) (hji:j=i:=by exact Tx) (hj:i<cs.length:=by exact Tx):aL P c ops Q (o::rest) (⟨sL,hP⟩:St):=
 TZ l i hw hd hT hsz ho hx hy h1 hl hji hj k
theorem Zu {t j e kk n m:Nat} {x y:Operand} {h V:Value} {q:PV} {ps cs:List PV} (l:Nat) (hT:AggT P t m=true) (k:aL P c ops Q rest ⟨sL,put l (h, .own e kk n (Tz cs j ps)) hP⟩) (hw:ZP ops sL o=some true:=by exact rfl) (hd:o.dst=none:=by exact rfl) (ho:o.op= .store t x y:=by exact rfl) (hx:ev sL x=some (ZD (Zr h) j,q):=by exact rfl) (hy:ev sL y=some (V, .agg ps):=by exact rfl) (hm:ps.length=m:=by exact rfl) (h1:ps.all one=true:=by first|exact rfl|(simp only [VU,List.all_nil,VV,Xi];(repeat (first|refine ⟨?_,?_⟩|rfl|assumption)))) (hl:lk hP l=some (h, .own e kk n cs):=by exact rfl) (hj:j+m≤cs.length:=by exact Tx) (hm0:0<m:=by decide):aL P c ops Q (o::rest) (⟨sL,hP⟩:St):=
 ZqF l hw hd hT ho hx hy hm h1 hl hj hm0 k
theorem JX {t:Nat} (d:Nat) (k:∀m:Value,m.oneCell'=true→aL P c ops Q rest ⟨put d (m, .val m) sL,put d (m, .omap []) hP⟩) (hw:ZP ops sL o=some true:=by exact rfl) (hd:o.dst=some d:=by exact rfl) (hn:d<c.nt:=by exact Xa rfl) (ho:o.op= .makeMap t none:=by exact rfl) (hl:lk hP d=none:=by exact rfl):aL P c ops Q (o::rest) (⟨sL,hP⟩:St):=
 Zk2 d hw hd hn ho hl k
theorem L9 {t ks e:Nat} {kd:TypeDesc} {z:Value} {x y u:Operand} {m k v:Value} {kv:List (Value×Value)} {p q r:PV} (l:Nat) (hT:MpT P t ks e kd z) (kk:aL P c ops Q rest ⟨sL,put l (m, .omap (TO kv k v)) hP⟩) (hw:ZP ops sL o=some true:=by exact rfl) (hd:o.dst=none:=by exact rfl) (ho:o.op= .mapUpdate t x y u:=by exact rfl) (hx:ev sL x=some (m,p):=by exact rfl) (hl:lk hP l=some (m, .omap kv):=by exact rfl) (hy:ev sL y=some (k,q):=by exact rfl) (hu:ev sL u=some (v,r):=by exact rfl) (hk:kok kd k kv:=by first|exact SL _ _|exact DD _ _|exact DC _ _|assumption) (hbits:bits k=true:=by exact rfl):aL P c ops Q (o::rest) (⟨sL,hP⟩:St):=
 Zok l hw hd hT ho hx hl hy hu hk hbits kk
theorem WN {t ty e kk bytes n m:Nat} {z:Value} {x y:Operand} {h h2:Value} {q q2:PV} {cs cs2:List PV} (l:Nat) (l2:Nat) (d:Nat) (hT:ElT P t e kk bytes z) (k:∀h':Value,h'.oneCell'=true→aL P c ops Q rest ⟨put d (h', .val h') sL,put d (h', .own e kk (n+m) (cs++cs2)) (del l2 (del l hP))⟩) (hw:ZP ops sL o=some true:=by exact rfl) (hd:o.dst=some d:=by exact rfl) (hn:d<c.nt:=by exact Xa rfl) (hty:o.type=ty:=by exact rfl) (ho:o.op= .call {callee:= .builtin .append,args:= #[x,y],argTypes:= #[t,t]}:=by exact rfl) (hx:ev sL x=some (h,q):=by exact rfl) (hy:ev sL y=some (h2,q2):=by exact rfl) (hll:Nat.beq l l2=false:=by exact rfl) (hl:lk hP l=some (h, .own e kk n cs):=by exact rfl) (hl2:lk hP l2=some (h2, .own e kk m cs2):=by exact rfl) (hdl:lk (del l2 (del l hP)) d=none:=by exact rfl) (hm:0<m:=by decide) (hok:cs2.all L4=true:=by first|exact rfl|(simp only [VU,List.all_nil,VV,Xi];(repeat (first|refine ⟨?_,?_⟩|rfl|assumption)))) (hlen:n+m≤9223372036854775807:=by exact Tx) (hb:(n+m)*bytes≤140737488355328:=by exact Tx) (hdr:¬c.dr:=by exact id):aL P c ops Q (o::rest) (⟨sL,hP⟩:St):=
 Zid l l2 d hT hw hd hn hty ho hx hy hll hl hl2 hdl hm hok hlen hb hdr k
theorem bLd {l:List Oper} (t:Nat) {p:Prop} {_:Decidable p} {q:PV} (ht:p→aL P c ops Q l ⟨put t (.bool true, .val (.bool true)) sL,hP⟩) (hf:¬p→aL P c ops Q l ⟨put t (.bool false, .val (.bool false)) sL,hP⟩) (hx:lk sL t=some (.bool (decide p),q):=by exact rfl):aL P c ops Q l (⟨sL,hP⟩:St):=
 Zcw t hx (fun h=>ht (Qd h)) (fun h=>hf (Qe h))
theorem bDd (t:Nat) {p:Prop} {_:Decidable p} {q:PV} (ht:p→aD P c ops Q Z K fuel listed ⟨put t (.bool true, .val (.bool true)) sL,hP⟩) (hf:¬p→aD P c ops Q Z K fuel listed ⟨put t (.bool false, .val (.bool false)) sL,hP⟩) (hx:lk sL t=some (.bool (decide p),q):=by exact rfl):aD P c ops Q Z K fuel listed (⟨sL,hP⟩:St):=
 ZcH t hx (fun h=>ht (Qd h)) (fun h=>hf (Qe h))
theorem cC {x:Operand} {t e:Code} {b:Bool} {q:PV} (ht:b=true→aC P c t Q (⟨sL,hP⟩:St)) (hf:b=false→aC P c e Q (⟨sL,hP⟩:St)) (hx:ev sL x=some (.bool b,q):=by exact rfl):aC P c (.cond x t e) Q (⟨sL,hP⟩:St):=Yb hx ht hf
theorem cCd {x:Operand} {t e:Code} {p:Prop} {_:Decidable p} {q:PV} (ht:p→aC P c t Q (⟨sL,hP⟩:St)) (hf:¬p→aC P c e Q (⟨sL,hP⟩:St)) (hx:ev sL x=some (.bool (decide p),q):=by exact rfl):aC P c (.cond x t e) Q (⟨sL,hP⟩:St):=Yb hx (fun h=>ht (Qd h)) (fun h=>hf (Qe h))
theorem cX {A B C:Prop} (h1:B) (h2:C) (e:B→C→A:=by intro h1 h2;first|exact cCd h1 h2|exact cC h1 h2):A:=e h1 h2
theorem cCf {x:Operand} {t e:Code} {q:PV} (hf:aC P c e Q (⟨sL,hP⟩:St)) (hx:ev sL x=some (.bool false,q):=by exact rfl):aC P c (.cond x t e) Q (⟨sL,hP⟩:St):=Yb hx (fun h=>Bool.noConfusion h) (fun _=>hf)
theorem cA {dd:Prop} {f:Nat} {xs:Array Operand} {ats:Array TypeId} {es:List Ent} {ps:List PV} {R:PV→Prop} (hc:∀args w,(callFunc f args).run P w= .ok (.enter f args) w) (hA:AFd dd P f ps R) (ho:o.op= .call {callee:= .value (.func f),args:=xs,argTypes:=ats}:=by exact rfl) (hx:evL sL xs.toList=some es:=by exact rfl) (hps:es.map (·.2)=ps:=by exact rfl) (hdd:c.dr→dd:=by first|exact id|exact fun h=>h.elim|exact fun _=>trivial):LU P c (⟨sL,hP⟩:St) o R:=
 Dv ho hc hx (hps▸hA) hdd
theorem cS {p:PV} (d:Nat) (hC:LU P c (⟨sL,hP⟩:St) o (· =p)) (k:∀v,vOf p v→aL P c ops Q rest ⟨put d (v,p) sL,hP⟩) (hsh:GU p=true:=by exact rfl) (hw:ZP ops sL o=some true:=by exact rfl) (hd:o.dst=some d:=by exact rfl) (hn:d<c.nt:=by exact Xa rfl):aL P c ops Q (o::rest) (⟨sL,hP⟩:St):=
 Ci d hw hd hn hC fun p' hp=>by subst hp;exact ⟨hsh,k⟩
theorem cO {p:PV} (d:Nat) (hC:LU P c (⟨sL,hP⟩:St) o (· =p)) (k:∀v,v.oneCell'=true→aL P c ops Q rest ⟨put d (v, .val v) sL,put d (v,p) hP⟩) (hok:L4 p=true:=by exact rfl) (hl:lk hP d=none:=by exact rfl) (hw:ZP ops sL o=some true:=by exact rfl) (hd:o.dst=some d:=by exact rfl) (hn:d<c.nt:=by exact Xa rfl):aL P c ops Q (o::rest) (⟨sL,hP⟩:St):=
 Sj d hw hd hn hl hC fun p' hp=>by subst hp;exact ⟨hok,k⟩
end
theorem yV {P:Program} {c:Ctx} {ops:Array Oper} {Q:Exit→Act→World→Prop} {rest:List Oper} {sL hP:List (Nat×Ent)} {o:Oper} {v:Value} {d:Nat} (hy:YE P (⟨sL,hP⟩:St) o (vOf (.val v)) (.val v)) (k:aL P c ops Q rest ⟨put d (v, .val v) sL,hP⟩) (hw:ZP ops sL o=some true:=by exact rfl) (hd:o.dst=some d:=by exact rfl) (hn:d<c.nt:=by exact Xa rfl):aL P c ops Q (o::rest) (⟨sL,hP⟩:St):=yL d hy (fun u hu=>by cases hu;exact k) hw hd hn
theorem cV {P:Program} {c:Ctx} {ops:Array Oper} {Q:Exit→Act→World→Prop} {rest:List Oper} {sL hP:List (Nat×Ent)} {o:Oper} {v:Value} {d:Nat} (hC:LU P c (⟨sL,hP⟩:St) o (· = .val v)) (k:aL P c ops Q rest ⟨put d (v, .val v) sL,hP⟩) (hw:ZP ops sL o=some true:=by exact rfl) (hd:o.dst=some d:=by exact rfl) (hn:d<c.nt:=by exact Xa rfl):aL P c ops Q (o::rest) (⟨sL,hP⟩:St):=cS d hC (fun u hu=>by cases hu;exact k) rfl hw hd hn
theorem xK {P:Program} {c:Ctx} {ops:Array Oper} {Q:Exit→Act→World→Prop} {rest:List Oper} {sL hP:List (Nat×Ent)} {o:Oper} {v:Value} {p:PV} (d:Nat) (hy:YE P (⟨sL,hP⟩:St) o (· =v) p) (hw:ZP ops sL o=some true:=by exact rfl) (hd:o.dst=some d:=by exact rfl) (hn:d<c.nt:=by exact Nat.le_of_ble_eq_true rfl):aL P c ops Q rest ⟨put d (v,p) sL,hP⟩→aL P c ops Q (o::rest) (⟨sL,hP⟩:St):=fun k=>xL d hy k hw hd hn
theorem xM {P:Program} {c:Ctx} {ops:Array Oper} {Q:Exit→Act→World→Prop} {rest:List Oper} {sL hP:List (Nat×Ent)} {o:Oper} {v:Value} {p:PV} {d:Nat} (hy:YE P (⟨sL,hP⟩:St) o (· =v) p) (k:aL P c ops Q rest ⟨put d (v,p) sL,hP⟩) (hw:ZP ops sL o=some true:=by exact rfl) (hd:o.dst=some d:=by exact rfl) (hn:d<c.nt:=by exact Nat.le_of_ble_eq_true rfl):aL P c ops Q (o::rest) (⟨sL,hP⟩:St):=xL d hy k hw hd hn
theorem kK {P:Program} {c:Ctx} {ops:Array Oper} {Q:Exit→Act→World→Prop} {rest:List Oper} {sL hP:List (Nat×Ent)} {o:Oper} {d:Nat} (hw:ZP ops sL o=some false:=by exact rfl) (hd:o.dst=some d:=by exact rfl) (hn:d<c.nt:=by exact Nat.le_of_ble_eq_true rfl):aL P c ops Q rest ⟨put d (undef, .val undef) sL,hP⟩→aL P c ops Q (o::rest) (⟨sL,hP⟩:St):=fun k=>kL k hw hd hn
theorem rT {A B C:Prop} (e:C→A:=by first|exact xK _ Za|exact xK _ Wv|exact xK _ Wq|exact xK _ Gg|exact xK _ Eu|exact xK _ SN|exact xK _ Pa|exact xK _ DJ|exact xK _ DI|exact xK _ Rc|exact xK _ ZcI|exact xK _ Zat|exact xK _ ZbG|exact xK _ ZeX|exact xK _ ZeW|exact xK _ q_neg|exact xK _ GW) (g:B→C):B→A:=fun h=>e (g h)
theorem Yv {A B:Prop} (h:B) (e:B→A:=by exact rT (g:=id)):A:=e h
theorem YW {A B:Prop} (h:B) (e:B→A:=by exact rT (g:=rT (g:=id))):A:=e h
theorem Y' {A B:Prop} (h:B) (e:B→A:=by exact rT (g:=rT (g:=rT (g:=id)))):A:=e h
theorem OK {A B:Prop} (h:B) (e:B→A:=by exact rT (g:=rT (g:=rT (g:=rT (g:=id))))):A:=e h
theorem JY {A B:Prop} (h:B) (e:B→A:=by exact rT (g:=rT (g:=rT (g:=rT (g:=rT (g:=id)))))):A:=e h
theorem Kz {P:Program} {c:Ctx} {ops:Array Oper} {Q:Exit→Act→World→Prop} {Z:Nat→Bool} {K:List Nat} {fuel:Nat} {listed:Array Bool} {sL hP:List (Nat×Ent)} {B:Prop} (h:B) (e:B→aN c Q (⟨sL,hP⟩:St):=by intro h;(repeat (first|with_reducible refine Cg ?_|with_reducible refine Pi ?_|with_reducible refine Dr ?_|with_reducible refine Pj ?_|with_reducible refine Dp ?_|with_reducible refine Dq ?_|with_reducible refine Dt ?_|with_reducible refine Pk ?_|with_reducible refine Pl rfl ?_|with_reducible refine Ch ?_|with_reducible refine Du ?_|with_reducible refine Pm ?_));(try dsimp only);exact h) (hr:Region.ready .any ops listed=[]:=by kernel_rfl):aD P c ops Q Z K fuel listed (⟨sL,hP⟩:St):=ZqH hr (e h)
theorem kZ {A B:Prop} (h:B) (e:B→A:=by first|exact kK|exact rT (g:=id)):A:=e h
theorem Lz {A B C:Prop} (e:C→A:=by exact fun h=>ZF h) (g:B→C):B→A:=fun h=>e (g h)
theorem GD {A B C:Prop} (e:C→A:=by exact fun h=>Yc h) (g:B→C):B→A:=fun h=>e (g h)
theorem SO {A B C:Prop} (e:C→A:=by exact fun h=>Zh h) (g:B→C):B→A:=fun h=>e (g h)
theorem OV {A B C:Prop} (e:C→A:=by exact fun h=>Zi h) (g:B→C):B→A:=fun h=>e (g h)
theorem tkZ {A B C:Prop} (e:C→A:=by exact fun h=>kZ h) (g:B→C):B→A:=fun h=>e (g h)
theorem ZB {A B:Prop} (h:B) (e:B→A:=by exact rT (g:=Lz (g:=id))):A:=e h
theorem YJ {A B:Prop} (h:B) (e:B→A:=by exact rT (g:=rT (g:=Lz (g:=id)))):A:=e h
theorem ZQ {A B:Prop} (h:B) (e:B→A:=by exact rT (g:=GD (g:=id))):A:=e h
theorem ZI {A B:Prop} (h:B) (e:B→A:=by exact SO (g:=rT (g:=Lz (g:=id)))):A:=e h
theorem ZE {A B:Prop} (h:B) (e:B→A:=by exact SO (g:=rT (g:=rT (g:=Lz (g:=id))))):A:=e h
theorem ZR {A B C:Prop} (h1:B) (h2:C) (e:B∧C→A:=by exact Lz (g:=fun h=>cX h.1 h.2)):A:=e ⟨h1,h2⟩
theorem YK {A B:Prop} (h:B) (e:B→A:=by exact SO (g:=rT (g:=GD (g:=id)))):A:=e h
theorem Ys {A B C:Prop} (h1:B) (h2:C) (e:B∧C→A:=by exact SO (g:=rT (g:=Lz (g:=fun h=>cX h.1 h.2)))):A:=e ⟨h1,h2⟩
theorem DK {A B:Prop} (h:B) (e:B→A:=by exact rT (g:=rT (g:=rT (g:=Lz (g:=id))))):A:=e h
theorem Wn {A B:Prop} (h:B) (e:B→A:=by exact SO (g:=rT (g:=rT (g:=id)))):A:=e h
theorem YX {A B C:Prop} (h1:B) (h2:C) (e:B∧C→A:=by exact rT (g:=Lz (g:=fun h=>cX h.1 h.2))):A:=e ⟨h1,h2⟩
theorem Y5 {A B:Prop} (h:B) (e:B→A:=by exact SO (g:=rT (g:=rT (g:=rT (g:=Lz (g:=id)))))):A:=e h
theorem Wa {A B C:Prop} (h1:B) (h2:C) (e:B∧C→A:=by exact SO (g:=rT (g:=rT (g:=Lz (g:=fun h=>cX h.1 h.2))))):A:=e ⟨h1,h2⟩
theorem Wh {A B:Prop} (h:B) (e:B→A:=by exact SO (g:=rT (g:=id))):A:=e h
theorem GF {A B:Prop} (h:B) (e:B→A:=by exact GD (g:=rT (g:=rT (g:=Lz (g:=id))))):A:=e h
theorem Wy {A B:Prop} (h:B) (e:B→A:=by exact rT (g:=GD (g:=rT (g:=rT (g:=Lz (g:=id)))))):A:=e h
theorem KJ {A B:Prop} (h:B) (e:B→A:=by exact OV (g:=rT (g:=rT (g:=Lz (g:=id))))):A:=e h
theorem Jm {A B:Prop} (h:B) (e:B→A:=by exact SO (g:=rT (g:=rT (g:=GD (g:=id))))):A:=e h
theorem Jn {A B:Prop} (h:B) (e:B→A:=by exact rT (g:=rT (g:=GD (g:=id)))):A:=e h
theorem Jy {A B:Prop} (h:B) (e:B→A:=by exact SO (g:=rT (g:=rT (g:=rT (g:=id))))):A:=e h
theorem GG {A B C:Prop} (h1:B) (h2:C) (e:B∧C→A:=by exact GD (g:=rT (g:=rT (g:=Lz (g:=fun h=>cX h.1 h.2))))):A:=e ⟨h1,h2⟩
theorem LA {A B:Prop} (h:B) (e:B→A:=by exact rT (g:=GD (g:=rT (g:=id)))):A:=e h
theorem GH {A B:Prop} (h:B) (e:B→A:=by exact OV (g:=rT (g:=id))):A:=e h
theorem Ta {A B:Prop} (h:B) (e:B→A:=by exact rT (g:=GD (g:=rT (g:=Lz (g:=id))))):A:=e h
theorem Sk {A B:Prop} (h:B) (e:B→A:=by exact SO (g:=rT (g:=GD (g:=rT (g:=rT (g:=id)))))):A:=e h
theorem Pw {A B:Prop} (h:B) (e:B→A:=by exact SO (g:=rT (g:=GD (g:=rT (g:=id))))):A:=e h
theorem Px {A B:Prop} (h:B) (e:B→A:=by exact SO (g:=rT (g:=GD (g:=rT (g:=GD (g:=id)))))):A:=e h
theorem Py {A B:Prop} (h:B) (e:B→A:=by exact rT (g:=GD (g:=rT (g:=rT (g:=rT (g:=Lz (g:=id))))))):A:=e h
theorem OW {A B:Prop} (h:B) (e:B→A:=by exact GD (g:=rT (g:=rT (g:=id)))):A:=e h
theorem OX {A B:Prop} (h:B) (e:B→A:=by exact GD (g:=rT (g:=id))):A:=e h
theorem OY {A B:Prop} (h:B) (e:B→A:=by exact OV (g:=rT (g:=rT (g:=rT (g:=Lz (g:=id)))))):A:=e h
theorem OZ {A B:Prop} (h:B) (e:B→A:=by exact SO (g:=rT (g:=rT (g:=rT (g:=rT (g:=id)))))):A:=e h
theorem GI {A B:Prop} (h:B) (e:B→A:=by exact tkZ (g:=rT (g:=rT (g:=id)))):A:=e h
theorem Wz {A B:Prop} (h:B) (e:B→A:=by exact tkZ (g:=rT (g:=Lz (g:=id)))):A:=e h
theorem KL {A B:Prop} (h:B) (e:B→A:=by exact tkZ (g:=rT (g:=rT (g:=Lz (g:=id))))):A:=e h
theorem Jz {A B:Prop} (h:B) (e:B→A:=by exact tkZ (g:=tkZ (g:=id))):A:=e h
theorem sB {P:Prop} (e:P:=by repeat (first|exact trivial|refine ⟨rfl,?_⟩)):P:=e
theorem yU {P:Program} {c:Ctx} {ops:Array Oper} {Q:Exit→Act→World→Prop} {rest:List Oper} {sL hP:List (Nat×Ent)} {o:Oper} {p:PV} {V:Value→Prop} {d:Nat} (hy:YE P (⟨sL,hP⟩:St) o V p) (k:∀v,aL P c ops Q rest ⟨put d (v,p) sL,hP⟩) (hw:ZP ops sL o=some true:=by exact rfl) (hd:o.dst=some d:=by exact rfl) (hn:d<c.nt:=by exact Xa rfl):aL P c ops Q (o::rest) (⟨sL,hP⟩:St):=yL d hy (fun u _=>k u) hw hd hn
theorem cU {P:Program} {c:Ctx} {ops:Array Oper} {Q:Exit→Act→World→Prop} {rest:List Oper} {sL hP:List (Nat×Ent)} {o:Oper} {p:PV} {d:Nat} (hC:LU P c (⟨sL,hP⟩:St) o (· =p)) (k:∀v,aL P c ops Q rest ⟨put d (v,p) sL,hP⟩) (hsh:GU p=true:=by exact rfl) (hw:ZP ops sL o=some true:=by exact rfl) (hd:o.dst=some d:=by exact rfl) (hn:d<c.nt:=by exact Xa rfl):aL P c ops Q (o::rest) (⟨sL,hP⟩:St):=cS d hC (fun u _=>k u) hsh hw hd hn
theorem Yd {P:Program} {c:Ctx} {Q:Exit→Act→World→Prop} {sL hP:List (Nat×Ent)} {ι:Type} {x:Code} (I:ι→St) (μ:ι→Nat) (i0:ι) (round:∀i,aC P c x (Exit.then (ZgA c I μ i) Q) (I i)) (hs:Sub (I i0).slots sL:=by exact sB) (hh:Sub (I i0).heap hP:=by exact sB):aC P c (.loop x) Q (⟨sL,hP⟩:St):=Y7 I μ i0 (fun a w H=>H.weaken hs hh) round
theorem Yh {c:Ctx} {Q:Exit→Act→World→Prop} {sL hP:List (Nat×Ent)} {ι:Type} {I:ι→St} {μ:ι→Nat} {i:ι} (j:ι) (hμ:μ j<μ i:=by dsimp only;omega) (hs:Sub (I j).slots sL:=by exact sB) (hh:Sub (I j).heap hP:=by exact sB):aN c (Exit.then (ZgA c I μ i) Q) (⟨sL,hP⟩:St):=Zm j hμ hs hh
theorem gS {α:Type} (l:List α) (k:Nat) (h:k<l.length:=by omega):∃x,l[k]? =some x:=Go.Cb.get_some h
theorem We {P:Program} {c:Ctx} {Q:Exit→Act→World→Prop} {sL hP:List (Nat×Ent)} {id:Nat} {l:List Oper} (Zl K:List Nat) (h:aD P c l.toArray Q (fun i=>Zl.elem i) K l.length (Array.replicate l.length false) (⟨sL,hP⟩:St)) (hm:P.follows .mixedOrders=true:=by kernel_rfl):aC P c (.region id l.toArray true) Q (⟨sL,hP⟩:St):=Zol (fun i=>Zl.elem i) K hm h
abbrev zT:List Value:=[(.int .i64 0),(.string ByteArray.empty),(.slice none 0 0)]
theorem AF.b1 {P:Program} {f:FuncId} {fn:Func} {code:Code} {p0:PV} {R:PV→Prop} (nt:Nat) (hf:P.funcs[f]? =some fn) (hb:fn.body=some code) (hnt:fn.ntmps=nt) (hn:[p0].length≤nt) (h:∀(w0:World) (M0:BS) (v0:Value),vOf p0 v0→aC P ⟨w0,M0,fun _=>False,nt,False,[]⟩ code (bodyPost P fn (Gy ⟨w0,M0,fun _=>False,nt,False,[]⟩ R)) ⟨K1 0 [v0] [p0],[]⟩):AF P f [p0] R:=AF.of_body nt hf hb hnt hn fun w0 M0 vs hl hv=>by
 obtain ⟨v0,rfl⟩:=Zij hl
 exact h w0 M0 v0 (hv 0 _ _ rfl rfl)
theorem AF.b2 {P:Program} {f:FuncId} {fn:Func} {code:Code} {p0 p1:PV} {R:PV→Prop} (nt:Nat) (hf:P.funcs[f]? =some fn) (hb:fn.body=some code) (hnt:fn.ntmps=nt) (hn:[p0,p1].length≤nt) (h:∀(w0:World) (M0:BS) (v0 v1:Value),vOf p0 v0→vOf p1 v1→aC P ⟨w0,M0,fun _=>False,nt,False,[]⟩ code (bodyPost P fn (Gy ⟨w0,M0,fun _=>False,nt,False,[]⟩ R)) ⟨K1 0 [v0,v1] [p0,p1],[]⟩):AF P f [p0,p1] R:=AF.of_body nt hf hb hnt hn fun w0 M0 vs hl hv=>by
 obtain ⟨v0,v1,rfl⟩:=HE hl
 exact h w0 M0 v0 v1 (hv 0 _ _ rfl rfl) (hv 1 _ _ rfl rfl)
theorem AF.b3 {P:Program} {f:FuncId} {fn:Func} {code:Code} {p0 p1 p2:PV} {R:PV→Prop} (nt:Nat) (hf:P.funcs[f]? =some fn) (hb:fn.body=some code) (hnt:fn.ntmps=nt) (hn:[p0,p1,p2].length≤nt) (h:∀(w0:World) (M0:BS) (v0 v1 v2:Value),vOf p0 v0→vOf p1 v1→vOf p2 v2→aC P ⟨w0,M0,fun _=>False,nt,False,[]⟩ code (bodyPost P fn (Gy ⟨w0,M0,fun _=>False,nt,False,[]⟩ R)) ⟨K1 0 [v0,v1,v2] [p0,p1,p2],[]⟩):AF P f [p0,p1,p2] R:=AF.of_body nt hf hb hnt hn fun w0 M0 vs hl hv=>by
 obtain ⟨v0,v1,v2,rfl⟩:=ZrW hl
 exact h w0 M0 v0 v1 v2 (hv 0 _ _ rfl rfl) (hv 1 _ _ rfl rfl) (hv 2 _ _ rfl rfl)
theorem AF.b4 {P:Program} {f:FuncId} {fn:Func} {code:Code} {p0 p1 p2 p3:PV} {R:PV→Prop} (nt:Nat) (hf:P.funcs[f]? =some fn) (hb:fn.body=some code) (hnt:fn.ntmps=nt) (hn:[p0,p1,p2,p3].length≤nt) (h:∀(w0:World) (M0:BS) (v0 v1 v2 v3:Value),vOf p0 v0→vOf p1 v1→vOf p2 v2→vOf p3 v3→aC P ⟨w0,M0,fun _=>False,nt,False,[]⟩ code (bodyPost P fn (Gy ⟨w0,M0,fun _=>False,nt,False,[]⟩ R)) ⟨K1 0 [v0,v1,v2,v3] [p0,p1,p2,p3],[]⟩):AF P f [p0,p1,p2,p3] R:=AF.of_body nt hf hb hnt hn fun w0 M0 vs hl hv=>by
 obtain ⟨v0,v1,v2,v3,rfl⟩:=Zsk hl
 exact h w0 M0 v0 v1 v2 v3 (hv 0 _ _ rfl rfl) (hv 1 _ _ rfl rfl) (hv 2 _ _ rfl rfl) (hv 3 _ _ rfl rfl)
mutual
def shD:PV→Bool
 | .val _=>true
 | .sl _ _=>true
 | .sptr _ _=>true
 | .smap _=>true
 | .smapS _ _=>true
 | .own _ _ _ _=>false
 | .omap _=>false
 | .obox _ _ _=>false
 | .agg ps=>EQ ps
 | .tup ps=>EQ ps
 | .fn _ _=>true
 | .oblk _ _ _ _=>false
def EQ:List PV→Bool
 |[]=>true
 |p::l=>shD p&&EQ l
end
theorem Pz:∀l:List PV,EQ l=l.all shD
 |[]=>by simp [EQ]
 |p::l=>by simp [EQ,Pz l]
theorem Tr.shD {M:BS} {w:World} {v:Value} {p:PV} {F:BS} (h:Tr M w v p F):En.shD p=true→Shr M w v p:=by
 induction h with
 |shr h _=>exact fun _=>h
 |own=>intro h;rw [En.shD] at h;cases h
 |omap=>intro h;rw [En.shD] at h;cases h
 |oblk=>intro h;rw [En.shD] at h;cases h
 |obox=>intro h;rw [En.shD] at h;cases h
 | @agg ps F vs Fs hl h hd hF ih=>
   intro hs;rw [En.shD,Pz] at hs;exact .agg vs ps hl fun i v p hv hp=>ih i v p hv hp (Xm.1 hs p (Xc hp))
 | @tup ps F vs Fs hl h hd hF ih=>
   intro hs;rw [En.shD,Pz] at hs;exact .tup vs ps hl fun i v p hv hp=>ih i v p hv hp (Xm.1 hs p (Xc hp))
section
variable {P:Program} {c:Ctx} {ops:Array Oper} {Q:Exit→Act→World→Prop} {rest:List Oper} {st:St} {sL hP:List (Nat×Ent)} {o:Oper} {Z:Nat→Bool} {K:List Nat} {fuel:Nat} {listed:Array Bool}
theorem Tr.fam {M:BS} {w:World} {Hs:List Value} {ps:List PV} {F:BS} (h:Tr M w (.agg Hs.toArray) (.agg ps) F):∃Fs:Nat→BS,Hs.length=ps.length∧(∀(i:Nat) (v:Value) (p:PV),Hs[i]? =some v→ps[i]? =some p→Tr M w v p (Fs i))∧
 (∀i j b,i<ps.length→j<ps.length→i≠j→Fs i b→¬Fs j b)∧(∀b,F b↔∃i,i<ps.length∧Fs i b):=by
 generalize hv:Value.agg Hs.toArray=v at h
 generalize hq:PV.agg ps=q at h
 cases h with
 | shr h hF=>
   cases h with
   | agg vs ps' hl h=>
     cases hq;(have:vs=Hs:=by injection hv with hv;simpa using hv.symm);subst this;exact ⟨fun _ _=>False,hl,fun i v p h1 h2=> .shr (h i v p h1 h2) (fun _ h=>h),fun _ _ _ _ _ _ h=>h.elim,fun b=>⟨fun h=>(hF b h).elim,fun ⟨_,_,h⟩=>h.elim⟩⟩
   |_=>cases hq
 | agg vs Fs hl h hd hF=>
   cases hq;have:vs=Hs:=by injection hv with hv;simpa using hv.symm
   subst this;exact ⟨Fs,hl,h,hd,hF⟩
 |_=>cases hq
theorem Zla {l e n:Nat} {h:Value} {cs:List PV} (l':Nat) (hl:lk hP l=some (h, .own e 1 n cs)) (hl':lk hP l'=none):
 J1 (⟨sL,hP⟩:St) (fun Hs:{Hs:List Value//Hs.length=cs.length}=>⟨sL,put l' (.agg Hs.1.toArray, .agg cs) (put l (h, .own e 1 n (Hs.1.map .val)) hP)⟩):=fun c a w ⟨F,H⟩=>by
 have hne:l'≠l:=fun e=>by subst e;rw [hl] at hl';cases hl'
 have hTr:=H.tr l _ _ hl
 obtain ⟨xs,Fs,hrow,hlen,hT,hd,hb,hF⟩:=hTr.row
 refine ⟨⟨xs,hlen.symm⟩,fun x=>if x=l' then (fun b=>∃i,i<cs.length∧Fs i b) else if x=l then (fun b=>h.ownBlock=some b) else F x,?_⟩
 refine H.retell (fun x=>x=l∨x=l') (fun x y hnT hx=>?_) (fun x y b hTx hx hb'=>?_) (fun hmm x u q hTx hx=>?_) (fun x1 x2 y1 y2 b h1 h2 hne' hx1 hx2 hb1 hb2=>?_)
 · have n1:x≠l:=fun e=>hnT (.inl e);have n2:x≠l':=fun e=>hnT (.inr e);rw [ZY (Ne.symm n2),ZY (Ne.symm n1)] at hx;exact ⟨hx,by simp [n1,n2]⟩
 · refine ⟨l,_, .inl rfl,hl,?_⟩;rcases hTx with rfl|rfl
   · simp only [Ne.symm hne,if_false,if_true] at hb';exact (hF b).2 (.inl hb')
   · simp only [if_true] at hb';obtain ⟨i,hi,h1⟩:=hb';exact (hF b).2 (.inr ⟨i,hi,h1⟩)
 · rcases hTx with rfl|rfl
   · rw [ZY hne,ZJ] at hx
     cases hx;simp only [Ne.symm hne,if_false,if_true];refine .own xs (fun _ _=>False) hrow sM (fun i x q hx9 hq=>?_) (fun _ _ _ _ _ _ h=>h.elim) (fun _ _ _ h=>h.elim) (fun b=>⟨fun h=> .inl h,fun h=>h.elim id fun ⟨_,_,h⟩=>h.elim⟩);rw [Xo,hx9] at hq
     cases hq;exact .shr (.val _) (fun _ h=>h)
   · rw [ZJ] at hx
     cases hx;simp only [if_true];exact .agg xs Fs hlen.symm (fun i v p h1 h2=>(hT i v p h1 h2).anti hmm) hd (fun b=>Iff.rfl)
 · rcases h1 with rfl|rfl
   · rcases h2 with rfl|rfl
     · exact hne' rfl
     · simp only [Ne.symm hne,if_false,if_true] at hb1 hb2;obtain ⟨i,hi,h3⟩:=hb2;exact hb i b hi h3 hb1
   · rcases h2 with rfl|rfl
     · simp only [Ne.symm hne,if_false,if_true] at hb1 hb2;obtain ⟨i,hi,h3⟩:=hb1;exact hb i b hi h3 hb2
     · exact hne' rfl
theorem Zlb {l l' e k n:Nat} {h:Value} {cs0 cs:List PV} {Hs:List Value} (hl:lk hP l=some (h, .own e k n cs0)) (hl':lk hP l'=some (.agg Hs.toArray, .agg cs)) (hcs:cs0=Hs.map .val) (hne0:Nat.beq l l'=false):
 J1 (⟨sL,hP⟩:St) (fun _:Unit=>⟨sL,put l (h, .own e k n cs) (del l' hP)⟩):=fun c a w ⟨F,H⟩=>by
 have hne:l≠l':=fun e=>by subst e;simp at hne0
 have hTr:=H.tr l _ _ hl
 have hTr':=H.tr l' _ _ hl'
 obtain ⟨xs,Fs,hrow,hlen,hT,hd,hb,hF⟩:=hTr.row
 obtain ⟨Gs,hlen',hT',hd',hF'⟩:=hTr'.fam
 have hx:xs=Hs:=by
  apply Ua;intro i;rcases XD i xs.length with hi|hi
  · obtain ⟨x,hx⟩:=Yl hi;obtain ⟨p,hp⟩:=YB hx hlen.symm;have h1:=hp;rw [hcs,Xo,XP] at h1;obtain ⟨y,hy,rfl⟩:=h1;have:x=y:=((hT i x _ hx hp).sh rfl).vOf;rw [hx,hy,this]
  · rw [Vo hi,Vo (by rw [←hlen,hcs,Xb] at hi;exact hi)]
 subst hx
 refine ⟨(),fun x=>if x=l then (fun b=>F l b∨F l' b) else F x,?_⟩
 refine H.retell (fun x=>x=l∨x=l') (fun x y hnT hx=>?_) (fun x y b hTx hx hb'=>?_) (fun hmm x u q hTx hx=>?_) (fun x1 x2 y1 y2 b h1 h2 hne' hx1 hx2 hb1 hb2=>?_)
 · have n1:x≠l:=fun e=>hnT (.inl e);rw [ZY (Ne.symm n1)] at hx;exact ⟨(YC hx).2,by simp [n1]⟩
 · rcases ZZ hx with ⟨rfl,_⟩|⟨n1,hx2⟩
   · simp only [if_true] at hb';rcases hb' with h1|h1
     · exact ⟨l,_, .inl rfl,hl,h1⟩
     · exact ⟨l',_, .inr rfl,hl',h1⟩
   · rcases hTx with e1|e1
     · exact Qc e1.symm n1
     · exact Qc e1.symm (YC hx2).1
 · rcases ZZ hx with ⟨rfl,e1⟩|⟨n1,hx2⟩
   · cases e1;simp only [if_true];refine .own xs Gs hrow hlen'.symm (fun i v p h1 h2=>(hT' i v p h1 h2).anti hmm) hd' (fun i b hi h1 h2=>?_) (fun b=>?_)
     · exact H.dj l l' _ _ b hne hl hl' ((hF b).2 (.inl h2)) ((hF' b).2 ⟨i,hi,h1⟩)
     · have hnone:∀i,i<cs0.length→∀b,F l b→Fs i b→h.ownBlock=some b∨∃i,i<cs.length∧Gs i b:=fun i hi b _ hFs=>by
        obtain ⟨p,hp⟩:=Yl hi;obtain ⟨x,hx9⟩:=YB hp hlen;have h3:=hT i x p hx9 hp;rw [hcs,Xo,XP] at hp;obtain ⟨y,_,rfl⟩:=hp
        cases h3 with
        |shr _ hn=>exact (hn b hFs).elim
       constructor
       · rintro (h1|h1)
         · rcases (hF b).1 h1 with h2|⟨i,hi,h2⟩
           · exact .inl h2
           · exact hnone i hi b h1 h2
         · exact .inr ((hF' b).1 h1)
       · rintro (h1|h1)
         · exact .inl ((hF b).2 (.inl h1))
         · exact .inr ((hF' b).2 h1)
   · rcases hTx with e1|e1
     · exact Qc e1.symm n1
     · exact Qc e1.symm (YC hx2).1
 · have key:∀x y,(x=l∨x=l')→lk (put l (h,PV.own e k n cs) (del l' hP)) x=some y→x=l:=fun x y h3 h4=>by
    rcases h3 with h3|h3
    · exact h3
    · rcases ZZ h4 with ⟨e1,_⟩|⟨_,e1⟩
      · exact e1.symm
      · exact Qc h3.symm (YC e1).1
   exact hne' ((key _ _ h1 hx1).trans (key _ _ h2 hx2).symm)
theorem ZgG {l i:Nat} {Hs:List Value} {ps:List PV} {v:Value} {p:PV} (l':Nat) (hl:lk hP l=some (.agg Hs.toArray, .agg ps)) (hv:Hs[i]? =some v) (hp:ps[i]? =some p) (hl':lk hP l'=none):
 J1 (⟨sL,hP⟩:St) (fun _:Unit=>⟨sL,put l' (v,p) (put l (.agg Hs.toArray, .agg (ps.set i (.val v))) hP)⟩):=fun c a w ⟨F,H⟩=>by
 have hne:l'≠l:=fun e=>by subst e;rw [hl] at hl';cases hl'
 have hTr:=H.tr l _ _ hl
 obtain ⟨Fs,hlen,hT,hd,hF⟩:=hTr.fam
 have hj:=Zd hp
 refine ⟨(),fun x=>if x=l' then Fs i else if x=l then (fun b=>∃j,j<ps.length∧j≠i∧Fs j b) else F x,?_⟩
 refine H.retell (fun x=>x=l∨x=l') (fun x y hnT hx=>?_) (fun x y b hTx hx hb'=>?_) (fun hmm x u q hTx hx=>?_) (fun x1 x2 y1 y2 b h1 h2 hne' hx1 hx2 hb1 hb2=>?_)
 · have n1:x≠l:=fun e=>hnT (.inl e);have n2:x≠l':=fun e=>hnT (.inr e);rw [ZY (Ne.symm n2),ZY (Ne.symm n1)] at hx;exact ⟨hx,by simp [n1,n2]⟩
 · refine ⟨l,_, .inl rfl,hl,?_⟩;rcases hTx with rfl|rfl
   · simp only [Ne.symm hne,if_false,if_true] at hb';obtain ⟨j,hj',_,h1⟩:=hb';exact (hF b).2 ⟨j,hj',h1⟩
   · simp only [if_true] at hb';exact (hF b).2 ⟨i,hj,hb'⟩
 · rcases hTx with rfl|rfl
   · rw [ZY hne,ZJ] at hx
     cases hx;simp only [Ne.symm hne,if_false,if_true];refine .agg Hs (fun j b=>if j=i then False else Fs j b) (by simpa using hlen) (fun j x q hx9 hq=>?_) (fun j j' b hi hi' hne' h1 h2=>?_) (fun b=>?_)
     · by_cases hij:j=i
       · subst hij;rw [XI hj] at hq
         cases hq;rw [hv] at hx9;cases hx9;exact .shr (.val _) (fun b h=>by simp at h)
       · rw [XZ (Ne.symm hij)] at hq;simp only [hij,if_false];exact (hT j x q hx9 hq).anti hmm
     · simp only [Xp] at hi hi';split at h1
       · exact h1
       · split at h2
         · exact h2
         · exact hd j j' b hi hi' hne' h1 h2
     · simp only [Xp];constructor
       · rintro ⟨j,hj',hij,h1⟩;exact ⟨j,hj',by simp [hij,h1]⟩
       · rintro ⟨j,hj',h1⟩;split at h1
         · exact h1.elim
         · exact ⟨j,hj',by assumption,h1⟩
   · rw [ZJ] at hx
     cases hx;simp only [if_true];exact (hT i _ _ hv hp).anti hmm
 · rcases h1 with rfl|rfl
   · rcases h2 with rfl|rfl
     · exact hne' rfl
     · simp only [Ne.symm hne,if_false,if_true] at hb1 hb2;obtain ⟨j,hj',hij,h3⟩:=hb1;exact hd j i b hj' hj hij h3 hb2
   · rcases h2 with rfl|rfl
     · simp only [Ne.symm hne,if_false,if_true] at hb1 hb2;obtain ⟨j,hj',hij,h3⟩:=hb2;exact hd j i b hj' hj hij h3 hb1
     · exact hne' rfl
theorem ZgH {l l' i:Nat} {Hs:List Value} {ps:List PV} {v:Value} {p:PV} (hl:lk hP l=some (.agg Hs.toArray, .agg ps)) (hv:Hs[i]? =some v) (hp:ps[i]? =some (.val v)) (hl':lk hP l'=some (v,p)) (hne0:Nat.beq l l'=false):
 J1 (⟨sL,hP⟩:St) (fun _:Unit=>⟨sL,put l (.agg Hs.toArray, .agg (ps.set i p)) (del l' hP)⟩):=fun c a w ⟨F,H⟩=>by
 have hne:l≠l':=fun e=>by subst e;simp at hne0
 have hTr:=H.tr l _ _ hl
 have hTr':=H.tr l' _ _ hl'
 obtain ⟨Fs,hlen,hT,hd,hF⟩:=hTr.fam
 have hj:=Zd hp
 have hFi:∀j b,j<ps.length→Fs j b→F l b:=fun j b hi hb'=>(hF b).2 ⟨j,hi,hb'⟩
 refine ⟨(),fun x=>if x=l then (fun b=>∃j,j<ps.length∧(if j=i then F l' b else Fs j b)) else F x,?_⟩
 refine H.retell (fun x=>x=l∨x=l') (fun x y hnT hx=>?_) (fun x y b hTx hx hb'=>?_) (fun hmm x u q hTx hx=>?_) (fun x1 x2 y1 y2 b h1 h2 hne' hx1 hx2 hb1 hb2=>?_)
 · have n1:x≠l:=fun e=>hnT (.inl e);rw [ZY (Ne.symm n1)] at hx;exact ⟨(YC hx).2,by simp [n1]⟩
 · rcases ZZ hx with ⟨rfl,_⟩|⟨n1,hx2⟩
   · simp only [if_true] at hb';obtain ⟨j,hj',h1⟩:=hb';split at h1
     · exact ⟨l',_, .inr rfl,hl',h1⟩
     · exact ⟨l,_, .inl rfl,hl,hFi j b hj' h1⟩
   · rcases hTx with e1|e1
     · exact Qc e1.symm n1
     · exact Qc e1.symm (YC hx2).1
 · rcases ZZ hx with ⟨rfl,e1⟩|⟨n1,hx2⟩
   · cases e1;simp only [if_true];refine .agg Hs (fun j b=>if j=i then F l' b else Fs j b) (by simpa using hlen) (fun j x q hx9 hq=>?_) (fun j j' b hi hi' hne' h1 h2=>?_) (fun b=>by simp only [Xp])
     · by_cases hij:j=i
       · subst hij;rw [XI hj] at hq
         cases hq;rw [hv] at hx9;cases hx9;simp only [if_true];exact hTr'.anti hmm
       · rw [XZ (Ne.symm hij)] at hq;simp only [hij,if_false];exact (hT j x q hx9 hq).anti hmm
     · simp only [Xp] at hi hi';split at h1
       · split at h2
         · omega
         · exact H.dj l l' _ _ b hne hl hl' (hFi j' b hi' h2) h1
       · split at h2
         · exact H.dj l l' _ _ b hne hl hl' (hFi j b hi h1) h2
         · exact hd j j' b hi hi' hne' h1 h2
   · rcases hTx with e1|e1
     · exact Qc e1.symm n1
     · exact Qc e1.symm (YC hx2).1
 · have key:∀x y,(x=l∨x=l')→lk (put l (Value.agg Hs.toArray,PV.agg (ps.set i p)) (del l' hP)) x=some y→x=l:=fun x y h3 h4=>by
    rcases h3 with h3|h3
    · exact h3
    · rcases ZZ h4 with ⟨e1,_⟩|⟨_,e1⟩
      · exact e1.symm
      · exact Qc h3.symm (YC e1).1
   exact hne' ((key _ _ h1 hx1).trans (key _ _ h2 hx2).symm)
theorem Zlc {M:BS} {w:World} {Hs:List Value} {ps:List PV} {F:BS} {i:Nat} {v:Value} {p:PV} (h:Tr M w (.agg Hs.toArray) (.agg ps) F) (hv:Hs[i]? =some v) (hp:ps[i]? =some p):∃G,Tr M w v p G∧∀b,G b→F b:=by
 obtain ⟨Fs,hlen,hT,hd,hF⟩:=h.fam
 exact ⟨Fs i,hT i v p hv hp,fun b hb=>(hF b).2 ⟨i,Zd hp,hb⟩⟩
theorem Cp {t e k e' k' n i:Nat} {x y:Operand} {h:Value} {p q:PV} {Hs:List Value} {ps cs:List PV} {kd:IntKind} {j:Nat} (l:Nat) (hT:SlT P t e k=true) (ho:o.op= .indexAddr t x y:=by exact rfl) (hx:ev st.slots x=some (h,p):=by exact rfl) (hy:ev st.slots y=some (.int kd (j:Int),q):=by exact rfl) (hl:lk st.heap l=some (.agg Hs.toArray, .agg ps):=by exact rfl) (hH:Hs[i]? =some h:=by assumption) (hps:ps[i]? =some (.own e' k' n cs):=by assumption) (h1:j<n:=by first|omega|assumption):
 YE P st o (· =ZD (Zr h) (j*k)) (.val (ZD (Zr h) (j*k))):=
 .exact fun M F a w H=>by
  have hv:=(H.ev hx).1;have hi:=(H.ev hy).1;obtain ⟨G,hG,_⟩:=Zlc (H.tr l _ _ hl) hH hps;obtain ⟨g,cap,rfl,_⟩:=JV hG oM;refine ⟨.val _,?_⟩;have:=SK (P:=P) hT (b:=g) (off:=0) (n:=n) (c:=cap) (kd:=kd) (i:=(j:Int)) oM oM w;simp [execOp,ho,hv,hi,this,Zr,ZD]
theorem Zld {t e k n i j:Nat} {x:Operand} {h:Value} {q:PV} {Hs:List Value} {ps cs:List PV} {p:PV} (l:Nat) (hT:NoAgg P t=true) (ho:o.op= .load t x:=by exact rfl) (hx:ev st.slots x=some (ZD (Zr h) j,q):=by exact rfl) (hl:lk st.heap l=some (.agg Hs.toArray, .agg ps):=by exact rfl) (hH:Hs[i]? =some h:=by assumption) (hps:ps[i]? =some (.own e k n cs):=by assumption) (hp:cs[j]? =some p:=by assumption) (hsh:GU p=true:=by exact rfl):
 YE P st o (vOf p) p:=fun M F a w H=>by
 have hv:=(H.ev hx).1
 obtain ⟨G,hG,hGF⟩:=Zlc (H.tr l _ _ hl) hH hps
 obtain ⟨xs,Fs,hrow,hlen,hTr,hd,hb,hF'⟩:=hG.row
 have hj:=Zd hp
 rcases Wu hrow with ⟨_,_,rfl⟩|⟨g,cap,rfl,h1,h2,h3⟩
 · simp at hlen;rw [hlen] at hj;simp at hj
 obtain ⟨y,hy⟩:=YB hp hlen
 have hS:=(hTr j y p hy hp).sh hsh
 refine ⟨y,hS.vOf,hS,fun N W hch hN hF=>?_⟩
 have:=Ry hch (hF l _ g hl (hGF g ((hF' g).2 (.inl rfl)))) (KG hrow hy)
 simp only [Zr,ZD,XE] at hv
 simp [execOp,ho,hv,Instr.loadAt,Instr.sureAddr,loadVar,NoAgg.run hT,load,Sem.run,this]
theorem WS {x:Operand} {v:Value} {j:Nat} {cs:List PV} (ho:o.op= .nilCheck x:=by exact rfl) (hx:ev st.slots x=some (v, .sptr j cs):=by exact rfl):YE P st o (· =v) (.sptr j cs):=
 .exact fun M F a w H=>by
  obtain ⟨hv,hs⟩:=H.ev hx
  cases hs with
  |sptr b off j cs vs hcell hT'=>exact ⟨.sptr b off j cs vs hcell hT',by simp [execOp,ho,hv]⟩
theorem S3 {x:Operand} {h:Value} {q:PV} {j e k n:Nat} {cs:List PV} (l:Nat) (ho:o.op= .nilCheck x:=by exact rfl) (hx:ev st.slots x=some (ZD (Zr h) j,q):=by exact rfl) (hl:lk st.heap l=some (h, .own e k n cs):=by exact rfl) (hn:0<n:=by first|omega|decide):YE P st o (· =ZD (Zr h) j) (.val (ZD (Zr h) j)):=
 .exact fun M F a w H=>by
  have hv:=(H.ev hx).1;obtain ⟨g,cap,rfl,_⟩:=JV (H.tr l _ _ hl) hn;refine ⟨.val _,?_⟩;simp only [Zr,ZD] at hv ⊢;simp [execOp,ho,hv]
theorem T0 {l t j e k n:Nat} {h:Value} {cs:List PV} {q:PV} (hl:lk hP l=some (h, .own e k n cs)) (hn:0<n) (ht:lk sL t=some (ZD (Zr h) j,q)):J1 (⟨sL,hP⟩:St) (fun _:Unit=>⟨put t (ZD (Zr h) j, .sptr j (YV cs)) sL,del l hP⟩):=fun c a w ⟨F,H⟩=>by
 refine ⟨(),F,?_⟩
 have hm:∀b,mof c (del l hP) F b→mof c hP F b:=by
  rintro b (h|⟨l',x,h1,h2⟩)
  · exact .inl h
  · exact .inr ⟨l',x,(YC h1).2,h2⟩
 have H1:HoldsF c ⟨sL,del l hP⟩ F a w:=H.less (fun _ _ h=>h) (fun _ _ h=>(YC h).2)
 refine ⟨H1.toHeapF,fun s u r hs=>?_,H.size,H.df⟩
 rcases ZZ hs with ⟨rfl,e1⟩|⟨_,hs'⟩
 · cases e1;refine ⟨(H.sl t _ _ ht).1,?_⟩;obtain ⟨g,cap,rfl,_⟩:=JV (H.tr l _ _ hl) hn;have h2:=(H.tr l _ _ hl).share (M':=mof c (del l hP) F) (fun b _ h=>hm b h) fun b hb hmb=>by
    rcases hmb with h1|⟨l',x,h1,h2⟩
    · exact H.apart h1 hl hb
    · exact H.dj l l' _ _ b (YC h1).1 hl (YC h1).2 hb h2
   rw [share] at h2;generalize YV cs=cs' at h2 ⊢
   cases h2 with
   |emp=>omega
   |sl _ _ _ _ _ vs _ _ hcell hT=>exact .sptr g 0 j cs' vs hcell hT
 · exact H1.sl s u r hs'
theorem Cq {l e k n g cap b off nn cc:Nat} {h:Value} {y:Operand} {cs2:List PV} {a:Act} (hh:h= .slice (some ⟨g,0,none⟩) n cap) (hy:ev sL y=some (.slice (some ⟨b,off,none⟩) nn cc, .sl nn cs2)) (hone:cs2.all one=true) (vs:List Value) (hvl:vs.length=cs2.length):
 ∀ (m i:Nat) (cs:List PV) (w:World) (F:Nat→BS) (hp:List (Nat×Ent)),HoldsF c ⟨sL,hp⟩ F a w→lk hp l=some (h, .own e k n cs)→i+m=cs2.length→i+m≤cs.length→(∀(j:Nat) (v:Value),vs[j]? =some v→w.cell? ⟨b,off+j,none⟩=some v)→
  ∃w' F' hp',(storeCells ⟨g,0,none⟩ (vs.drop i) i).run P w= .ok () w'∧HoldsF c ⟨sL,hp'⟩ F' a w'∧lk hp' l=some (h, .own e k n (Tz cs i (cs2.drop i)))∧∀l',l'≠l→lk hp' l'=lk hp l'
 | 0,i,cs,w,F,hp,H,hl,hi,hj,hcl=>by
   refine ⟨w,F,hp,?_,H,?_,fun _ _=>rfl⟩
   · rw [XU oM];rfl
   · rw [XU (by omega:cs2.length≤i)];exact hl
 | m + 1,i,cs,w,F,hp,H,hl,hi,hj,hcl=>by
   obtain ⟨_,hS⟩:=H.rd.ev hy;have hi':i<cs2.length:=oM;obtain ⟨p,hp'⟩:=Yl hi';obtain ⟨v,hv⟩:=YB hp' hvl.symm;have hTr:=H.tr l _ _ hl;obtain ⟨xs,Fs,hrow,hlen,_,_,_,hFF⟩:=hTr.row;have hgM:mof c hp F g:= .inr ⟨l,_,hl,(hFF g).2 (.inl (by subst hh;rfl))⟩;have hSv:Shr (mof c hp F) w v p∧b≠g:=by
    generalize hu:Value.slice (some ⟨b,off,none⟩) nn cc=u at hS
    cases hS with
    |emp=>simp at hi'
    | sl b' off' n' c' cs' vs' hn hc hcell hT=>
      cases hu;have h1:=(hcell i hi').1;rw [hcl i v hv] at h1
      cases h1;exact ⟨hT i p hp',fun e=>(hcell i hi').2 (e▸hgM)⟩
   have h1:one p=true:=Xm.1 hone p (Xc hp');obtain ⟨F1,H1⟩:=P9 H hl hh (show i<cs.length by omega) hSv.1;obtain ⟨w',F',hp2,hr,H2,hl2,hsame⟩:=Cq hh hy hone vs hvl m (i+1) (cs.set i p) _ F1 _ H1 (ZJ _ _ _) oM (by simp;omega) (fun j u hu=>Ry (Chg.setCell w ⟨g,i,none⟩ v) hSv.2 (hcl j u hu));refine ⟨w',F',hp2,?_,H2,?_,fun l' hne=>by rw [hsame l' hne,ZY (Ne.symm hne)]⟩
   · subst hh;obtain ⟨z,hz⟩:=Yl (show i<xs.length by omega);have hcell:=KG hrow hz;have hfr:=hrow.frozenAt i;rw [Vf (Zd hv),show vs[i]'(Zd hv)=v from (Xr.1 hv).2,storeCells];simp only [Sem.run_bind,run_store _ _ _ _ _ (hSv.1.one h1),WB,XE,hcell,hfr,VK,if_false,Result.andThen_ok];exact hr
   · rw [hl2,Vf hi',show cs2[i]'hi'=p from (Xr.1 hp').2,Tz]
theorem ZcK:∀(ps pre suf:List PV),suf.length=ps.length→Tz (pre++suf) pre.length ps=pre++ps
 | [],pre,suf,h=>by
   have:suf=[]:=XB h;subst this;rfl
 |p::ps,pre,[],h=>by simp at h
 | p::ps,pre,q::suf,h=>by
   rw [Tz];have h1:(pre++q::suf).set pre.length p=(pre++[p])++suf:=sM;rw [h1,show pre.length+1=(pre++[p]).length by simp,ZcK ps (pre++[p]) suf (by simpa using h)];simp
theorem ld0 (P:Program) (a:Addr) (w:World):(loadCells a 0).run P w= .ok #[] w:=run_loadCells_list (P:=P) (w:=w) a [] (fun j v h=>by simp at h)
theorem ZqJ {t e e' n:Nat} {x y:Operand} {h v:Value} {q:PV} {cs cs2:List PV} (l d:Nat) (hT:SlT P t e 1=true) (k:aL P c ops Q rest ⟨put d (.int .i64 n, .val (.int .i64 n)) sL,put l (h, .own e' 1 n cs2) hP⟩)
 (hlen:cs2.length=n) (hone:cs2.all one=true) (hw:ZP ops sL o=some true:=by exact rfl) (hd:o.dst=some d:=by exact rfl) (hn:d<c.nt:=by exact Xa rfl) (ho:o.op= .call {callee:= .builtin .copy,args:= #[x,y],argTypes:= #[t,t]}:=by exact rfl)
 (hx:ev sL x=some (h,q):=by exact rfl) (hy:ev sL y=some (v, .sl n cs2):=by exact rfl) (hl:lk hP l=some (h, .own e' 1 n cs):=by exact rfl):aL P c ops Q (o::rest) (⟨sL,hP⟩:St):=
 Y4 hw fun a w F H=>by
  have hxv:=(H.rd.ev hx).1;obtain ⟨hyv,hS⟩:=H.rd.ev hy;have hTr:=H.tr l _ _ hl;obtain ⟨xs,Fs,hrow,hlen1,_⟩:=hTr.row;have hcsl:cs.length=n:=by rw [hlen1,hrow.1,Xy]
  have fin:∀F' hp' w',HoldsF c ⟨sL,hp'⟩ F' a w'→lk hp' l=some (h, .own e' 1 n cs2)→(∀l',l'≠l→lk hp' l'=lk hP l')→Holds c ⟨put d (.int .i64 n, .val (.int .i64 n)) sL,put l (h, .own e' 1 n cs2) hP⟩ (a.put (some d) (.int .i64 n)) w':=fun F' hp' w' H' hl' hsame=>by
   have H2:HoldsF c ⟨sL,put l (h, .own e' 1 n cs2) hP⟩ F' a w':=H'.less (fun _ _ h=>h) fun t x hx=>?_
   · exact ⟨F',H2.put hn (.val _)⟩
   rcases ZZ hx with ⟨rfl,rfl⟩|⟨hne,e1⟩
   · exact hl'
   · show lk hp' t=_;rw [hsame t (Ne.symm hne)];exact e1
  rcases Wu hrow with ⟨rfl,rfl,rfl⟩|⟨g,cap,rfl,h1,h2,h3⟩
  · have hc2:cs2=[]:=XB hlen;subst hc2;have hc:cs=[]:=XB hcsl;subst hc;have hrun:(execOp a.eval o).run P w= .ok (.value (.int .i64 0)) w:=by
     have hfc:∀s,(Builtin.firstCells s 0 v).run P w= .ok #[] w∧(Builtin.lenOf v).run P w= .ok 0 w:=fun s=>by
      cases hS with
      |emp a' c'=>cases a'<;>simp [Builtin.firstCells,Builtin.lenOf,ld0]
      |sl b off n' c' cs' vs'=>simp [Builtin.firstCells,Builtin.lenOf,ld0]
     simp [execOp,ho,hxv,hyv,resolve,invoke,builtin,Builtin.copy_,run_underlying (SlT.und hT),SlT.size hT,(hfc _).1,(hfc 0).2,goInt]
    unfold Oper.wp;rw [hrun];simp only [Oper.upon,hd];exact k _ _ (fin F hP w H hl (fun _ _=>rfl))
  · rcases Ub n with h0|h0
    · subst h0;have hc2:cs2=[]:=XB hlen;subst hc2;have hc:cs=[]:=XB hcsl;subst hc;have hrun:(execOp a.eval o).run P w= .ok (.value (.int .i64 0)) w:=by
       have hfc:∀s,(Builtin.firstCells s 0 v).run P w= .ok #[] w∧(Builtin.lenOf v).run P w= .ok 0 w:=fun s=>by
        cases hS with
        |emp a' c'=>cases a'<;>simp [Builtin.firstCells,Builtin.lenOf,ld0]
        |sl b off n' c' cs' vs'=>simp [Builtin.firstCells,Builtin.lenOf,ld0]
       simp [execOp,ho,hxv,hyv,resolve,invoke,builtin,Builtin.copy_,run_underlying (SlT.und hT),SlT.size hT,(hfc _).1,(hfc 0).2,goInt,storeCells]
      unfold Oper.wp;rw [hrun];simp only [Oper.upon,hd];exact k _ _ (fin F hP w H hl (fun _ _=>rfl))
    · generalize hvv:v=v0 at hS
      cases hS with
      |emp=>omega
      | sl b off n' cc cs' vs hn' hc' hcell hT'=>
        subst hvv;have hcl:∀(j:Nat) (u:Value),((List.range n).map vs)[j]? =some u→w.cell? ⟨b,off+j,none⟩=some u:=fun j u hu=>by
         (have hj:j<n:=by have:=Zd hu;simpa using this);simp [hj] at hu;subst hu;exact (hcell j oM).1
        have hld:=run_loadCells_list (P:=P) (w:=w) ⟨b,off,none⟩ ((List.range n).map vs) (fun j u hu=>by rw [WB];exact hcl j u hu);rw [Xb,UI] at hld;obtain ⟨w',F',hp',hr,H',hl',hsame⟩:=Cq (P:=P) (c:=c) (a:=a) rfl hy hone ((List.range n).map vs) (by simp [hlen]) n 0 cs w F hP H hl oM oM hcl;have hset:Tz cs 0 cs2=cs2:=by
         have:=ZcK cs2 [] cs oM;simpa using this
        rw [Vk,hset] at hl';rw [Vk] at hr;have hrun:(execOp a.eval o).run P w= .ok (.value (.int .i64 n)) w':=by
         simp [execOp,ho,hxv,hyv,resolve,invoke,builtin,Builtin.copy_,Builtin.lenOf,Builtin.firstCells,run_underlying (SlT.und hT),SlT.size hT,hld,hr,goInt]
        unfold Oper.wp;rw [hrun];simp only [Oper.upon,hd];exact k _ _ (fin F' hp' w' H' hl' hsame)
theorem ZcL {α:Type}:∀h:List (Nat×α),∃m,∀t,m≤t→lk h t=none
 |[]=>⟨0,fun _ _=>rfl⟩
 | (k,x)::h=>by
   obtain ⟨m,hm⟩:=ZcL h;refine ⟨m+k+1,fun t ht=>?_⟩;have:Nat.beq k t=false:=by
    cases h3:Nat.beq k t
    · rfl
    · have:=XK h3;omega
   simp only [lk,this,cond_false];exact hm t oM
theorem Zop {l:List Oper} {st':St} (h:aL P c ops Q l st') (hsub:∀F a w,HoldsF c (⟨sL,hP⟩:St) F a w→HoldsF c st' F a w):aL P c ops Q l (⟨sL,hP⟩:St):=fun a w ⟨F,H⟩=>h a w ⟨F,hsub F a w H⟩
theorem Zqm {t j e kk n i:Nat} {x y:Operand} {h v:Value} {q p:PV} {Hs:List Value} {ps cs:List PV} (l:Nat) (hT:NoAgg P t=true) (hsz:(P.info? t).map (·.size)=some 1) (k:aL P c ops Q rest ⟨sL,put l (.agg Hs.toArray, .agg (ps.set i (.own e kk n (cs.set j p)))) hP⟩)
 (hw:ZP ops sL o=some true:=by exact rfl) (hd:o.dst=none:=by exact rfl) (ho:o.op= .store t x y:=by exact rfl) (hx:ev sL x=some (ZD (Zr h) j,q):=by exact rfl) (hy:ev sL y=some (v,p):=by exact rfl) (h1:one p=true:=by first|exact rfl|assumption)
 (hl:lk hP l=some (.agg Hs.toArray, .agg ps):=by exact rfl) (hH:Hs[i]? =some h:=by assumption) (hps:ps[i]? =some (.own e kk n cs):=by assumption) (hj:j<cs.length:=by first|omega|assumption):aL P c ops Q (o::rest) (⟨sL,hP⟩:St):=by
 obtain ⟨m,hm⟩:=ZcL hP
 have hne:l≠m:=fun e=>by have:=hm m (Xe m);rw [←e,hl] at this;cases this
 have hb:Nat.beq l m=false:=by
  cases h3:Nat.beq l m
  · rfl
  · exact Qc (XK h3) hne
 refine Zp (ZgG m hl hH hps (hm m (Xe m))) fun _=>?_
 refine ZeN m hw hd hT hsz ho hx hy h1 (ZJ _ _ _) hj ?_
 have hi:=Zd hps
 refine Zp (ZgH (l:=l) (l':=m) (i:=i) (v:=h) (ps:=ps.set i (.val h)) (by rw [ZY (Ne.symm hne),ZY (Ne.symm hne),ZJ]) hH (by rw [XI hi]) (ZJ _ _ _) hb) fun _=>?_
 rw [X2]
 refine Zop k fun F a w H=>H.less (fun _ _ h=>h) fun s z hz=>?_
 rcases ZZ hz with ⟨rfl,rfl⟩|⟨hn,hz⟩
 · exact ZJ _ _ _
 · have hsm:m≠s:=fun e=>by have:=hm m (Xe m);rw [e,hz] at this;cases this
   show lk (put l _ (del m (put m _ (put m _ (put l _ hP))))) s=some z;rw [ZY hn,S6 hsm,ZY hsm,ZY hsm,ZY hn];exact hz
theorem cB {dd:Prop} {f:Nat} {xs:Array Operand} {ats:Array TypeId} {ps:List PV} {R:PV→Prop} (ho:o.op= .call {callee:= .value (.func f),args:=xs,argTypes:=ats}) (hc:∀args w,(callFunc f args).run P w= .ok (.enter f args) w) (hA:AFd dd P f ps R) (hx:Zoh (⟨sL,hP⟩:St) xs.toList ps) (hR:∀p,R p→nosh p=true:=by rintro p rfl;exact rfl) (hdd:c.dr→dd:=by first|exact id|exact fun h=>h.elim|exact fun _=>trivial):LU P c (⟨sL,hP⟩:St) o R:=ZkW ho hc hx hA hR hdd
theorem Yz {i d:Nat} {p:PV} (ho:ops[i]? =some o) (hC:LU P c (⟨sL,hP⟩:St) o (· =p)) (k:∀v,vOf p v→aD P c ops Q Z K fuel (listed.setIfInBounds i true) ⟨put d (v,p) sL,hP⟩) (hsh:shD p=true:=by exact rfl) (hw:ZP ops sL o=some true:=by exact rfl) (hd:o.dst=some d:=by exact rfl) (hn:d<c.nt:=by exact Xa rfl):aW P c ops Q Z K fuel listed (⟨sL,hP⟩:St) i:=fun a w F H C hC'=>by
 refine Lr (Q':=fun _ a' w'=>(Z i=true∨C w')∧GB P .any ops Q C Z fuel (listed.setIfInBounds i true) a' w') ho (fun a' w' hq=>hq) ?_
 have h1:=LZ H.rd hw
 unfold wpList
 rw [h1,Qb rfl]
 refine .inl ?_
 obtain ⟨f,args,hr,hcall⟩:=hC a w F H
 unfold Oper.wp
 rw [hr,Oper.upon_enter]
 refine hcall.mono fun e w' ⟨v,q,Fr,e1,e2,e3,e4,e5,e6⟩=>?_
 subst e1
 rw [show q=p from e2] at e4
 have hS:=e4.shD hsh
 have H2:HoldsF c ⟨put d (v,p) sL,hP⟩ F (a.put (some d) v) w':=Hz H e3 hn (hS.anti fun b _ h=> .inl h)
 simp only [Oper.upon,hd]
 have hch:Chg (nK K hP F) w w':=e3.chg
 exact ⟨.inr (hC' w' hch),k v hS.vOf _ w' F H2 C fun W hW=>hC' W (hch.tr hW fun b hb=> .inl hb)⟩
theorem cD {p:PV} {d:Nat} (hC:LU P c (⟨sL,hP⟩:St) o (· =p)) (k:∀v,vOf p v→aL P c ops Q rest ⟨put d (v,p) sL,hP⟩) (hsh:shD p=true:=by exact rfl) (hw:ZP ops sL o=some true:=by exact rfl) (hd:o.dst=some d:=by exact rfl) (hn:d<c.nt:=by exact Xa rfl):aL P c ops Q (o::rest) (⟨sL,hP⟩:St):=
 Si hw hC fun a w F w' v p' Fr H hR hx hT hlo hdw=>by
  rw [show p'=p from hR] at hT;have hS:=hT.shD hsh;rw [hd];exact k v hS.vOf _ _ ⟨F,Hz H hx hn (hS.anti fun b _ h=> .inl h)⟩
theorem cP {p1 p2:PV} (d:Nat) (hC:LU P c (⟨sL,hP⟩:St) o (· = .tup [p1,p2])) (k:∀v1 v2,vOf p1 v1→vOf p2 v2→aL P c ops Q rest ⟨put d (.tuple [v1,v2].toArray, .tup [p1,p2]) sL,hP⟩) (hsh:shD (.tup [p1,p2])=true:=by exact rfl) (hw:ZP ops sL o=some true:=by exact rfl) (hd:o.dst=some d:=by exact rfl) (hn:d<c.nt:=by exact Xa rfl):aL P c ops Q (o::rest) (⟨sL,hP⟩:St):=
 Si hw hC fun a w F w' v p' Fr H hR hx hT hlo hdw=>by
  rw [show p'= .tup [p1,p2] from hR] at hT;have hS:=hT.shD hsh;rw [hd];have hS':Shr (mof c hP F) w' v (.tup [p1,p2]):=hS.anti fun b _ h=> .inl h
  cases hS with
  | tup vs ps hl h=>
    match vs,hl,h,hS' with
    |[v1,v2],_,h,hS'=>exact k v1 v2 (h 0 v1 p1 rfl rfl).vOf (h 1 v2 p2 rfl rfl).vOf _ _ ⟨F,Hz H hx hn hS'⟩
theorem Zle (i j k:Nat) (hr:Region.ready .any ops listed=[i,j,k]) (h:aW P c ops Q Z K fuel listed (⟨sL,hP⟩:St) i) (h':aW P c ops Q Z K fuel listed (⟨sL,hP⟩:St) j) (h'':aW P c ops Q Z K fuel listed (⟨sL,hP⟩:St) k):aD P c ops Q Z K (fuel+1) listed (⟨sL,hP⟩:St):=fun a w F H C hC=>
 ⟨(fun hn=>by rw [hr] at hn;cases hn),fun m hm=>by
   rw [hr] at hm;rcases (by simpa using hm:m=i∨m=j∨m=k) with rfl|rfl|rfl
   · exact h a w F H C hC
   · exact h' a w F H C hC
   · exact h'' a w F H C hC⟩
theorem ZS {ι:Type} {S:ι→St} (i:ι) (hs:Sub (S i).slots sL) (hh:Sub (S i).heap hP):aN c (Exit.then (fun a w=>∃i,Holds c (S i) a w) Q) (⟨sL,hP⟩:St):=Hy i hs hh
end
theorem Zsm (a b:Nat):Nat.beq a b=(a==b):=by
 cases h:Nat.beq a b
 · exact (beq_eq_false_iff_ne.2 (fun e=>by rw [e] at h;simp at h)).symm
 · exact (beq_iff_eq.2 (XK h)).symm
section
variable {P:Program} {c:Ctx} {sL hP:List (Nat×Ent)}
theorem ZcM {F:Nat→BS} {a:Act} {w:World} (H:HoldsF c (⟨sL,hP⟩:St) F a w) {t ty k l e k' n:Nat} {h:Value} {q:PV} {cs:List PV} (hT:AggT P ty k=true) (ht:lk sL t=some (ZD (Zr h) 0,q)) (hl:lk hP l=some (h, .own e k' n cs)) (hp:k≤cs.length) (hk:0<k) (hsh:(cs.take k).all GU=true):
 ∃V A,(asAddr (a.tmps.getD t undef)).run P w= .ok A w∧(loadVar ty A).run P w= .ok V w∧Shr (mof c hP F) w V (.agg (cs.take k)):=by
 have hv:=(H.sl t _ _ ht).1
 obtain ⟨xs,Fs,hrow,hlen,hTr,hd,hb,hF'⟩:=(H.tr l _ _ hl).row
 rcases Wu hrow with ⟨_,_,rfl⟩|⟨g,cap,rfl,h1,h2,h3⟩
 · simp at hlen;rw [hlen] at hp;simp at hp;omega
 refine ⟨.agg (xs.take k).toArray,⟨g,0,none⟩,?_,?_, .agg _ _ (by simp;omega) (fun i u p hu hp'=>?_)⟩
 · simp only [Zr,ZD,XE] at hv;simp [VI,hv,asAddr]
 · have hcl:∀i u,(xs.take k)[i]? =some u→w.cell? ((⟨g,0,none⟩:Addr).add i)=some u:=fun i u hu=>by
    (have hi:i<k:=by have:=Zd hu;simp at this;omega);rw [X9 hi] at hu;rw [WB,XE];exact KG hrow hu
   have:=run_loadCells_list (P:=P) (w:=w) ⟨g,0,none⟩ _ hcl;rw [show (xs.take k).length=k by simp;omega] at this;simp [loadVar,AggT.run hT,AggT.size hT,this]
 · have hi:i<k:=by have:=Zd hu;simp at this;omega
   have hps:=Xm.1 hsh p (Xc hp');rw [X9 hi] at hp' hu;exact (hTr _ u p hu hp').sh hps
theorem Zlf {fn:Func} {R:PV→Prop} {t ty k e k' n:Nat} {h:Value} {q:PV} {cs:List PV} (l:Nat) (hT:AggT P ty k=true) (hr:fn.results= #[.cell t ty]) (ht:lk sL t=some (ZD (Zr h) 0,q)) (hl:lk hP l=some (h, .own e k' n cs)) (hp:k≤cs.length) (hk:0<k) (hsh:(cs.take k).all GU=true) (hR:R (.agg (cs.take k))) (hN:∀b,¬c.N0 b:=by intro _ h;exact h) (hdf:c.df=[]:=by exact rfl):aR c (bodyPost P fn (Gy c R)) (⟨sL,hP⟩:St):=fun a w ⟨F,H⟩=>by
 obtain ⟨V,A,h0,h1,h2⟩:=ZcM H hT ht hl hp hk hsh
 refine ⟨H.df.trans hdf,V,?_,V,_,fun _=>False,rfl,hR,H.ext.ext (fun b _=>hN b), .shr (h2.anti fun b _ hb=>?_) (fun _ h=>h),fun _ h=>h.elim,H.dw⟩
 · simp only [results,hr];simp at h0;simp [h0,h1]
 · rcases hb with hb|hb
   · exact .inl hb
   · exact hb.elim
theorem Z4 {fn:Func} {R:PV→Prop} {t ty k e k' n:Nat} {h:Value} {q:PV} {cs:List PV} (l:Nat) (hr:fn.results= #[.cell t ty]) (hR:R (.agg (cs.take k))) (hT:AggT P ty k=true:=by exact kR) (ht:lk sL t=some (ZD (Zr h) 0,q):=by exact rfl) (hl:lk hP l=some (h, .own e k' n cs):=by exact rfl) (hp:k≤cs.length:=by exact Xa rfl) (hk:0<k:=by exact dC) (hsh:(cs.take k).all GU=true:=by exact rfl) (hN:∀b,¬c.N0 b:=by intro _ h;exact h) (hdf:c.df=[]:=by exact rfl):aR c (bodyPost P fn (Gy c R)) (⟨sL,hP⟩:St):=Zlf l hT hr ht hl hp hk hsh hR hN hdf
theorem ZqK {fn:Func} {R:PV→Prop} {t ty s k e k' n:Nat} {h u:Value} {q p:PV} {cs:List PV} (l:Nat) (hT:AggT P ty k=true) (hr:fn.results= #[.cell t ty, .tmp s]) (ht:lk sL t=some (ZD (Zr h) 0,q)) (hl:lk hP l=some (h, .own e k' n cs)) (hs:lk sL s=some (u,p)) (hp:k≤cs.length) (hk:0<k) (hsh:(cs.take k).all GU=true) (hR:R (.tup [.agg (cs.take k),p])) (hN:∀b,¬c.N0 b:=by intro _ h;exact h) (hdf:c.df=[]:=by exact rfl):aR c (bodyPost P fn (Gy c R)) (⟨sL,hP⟩:St):=fun a w ⟨F,H⟩=>by
 obtain ⟨V,A,h0,h1,h2⟩:=ZcM H hT ht hl hp hk hsh
 obtain ⟨h3,h4⟩:=H.sl s _ _ hs
 have hM:∀b,b<w.heap.size→(c.M0 b∨False)→mof c hP F b:=fun b _ hb=>by
  rcases hb with hb|hb
  · exact .inl hb
  · exact hb.elim
 refine ⟨H.df.trans hdf, .tuple #[V,u],?_, .tuple #[V,u],_,fun _=>False,rfl,hR,H.ext.ext (fun b _=>hN b), .shr (.tup [V,u] _ rfl fun i v q' hv hq'=>?_) (fun _ h=>h),fun _ h=>h.elim,H.dw⟩
 · simp only [results,hr];simp at h0;simp [h0,h1,VI,h3]
 · match i with
   |0=>simp at hv hq';subst hv hq';exact h2.anti hM
   |1=>simp at hv hq';subst hv hq';exact h4.anti hM
   |i+2=>simp at hv
theorem YG {fn:Func} {R:PV→Prop} {t ty s k e k' n:Nat} {h u:Value} {q p:PV} {cs:List PV} (l:Nat) (hr:fn.results= #[.cell t ty, .tmp s]) (hR:R (.tup [.agg (cs.take k),p])) (hT:AggT P ty k=true:=by exact kR) (ht:lk sL t=some (ZD (Zr h) 0,q):=by exact rfl) (hl:lk hP l=some (h, .own e k' n cs):=by exact rfl) (hs:lk sL s=some (u,p):=by exact rfl) (hp:k≤cs.length:=by exact Xa rfl) (hk:0<k:=by exact dC) (hsh:(cs.take k).all GU=true:=by exact rfl) (hN:∀b,¬c.N0 b:=by intro _ h;exact h) (hdf:c.df=[]:=by exact rfl):aR c (bodyPost P fn (Gy c R)) (⟨sL,hP⟩:St):=ZqK l hT hr ht hl hs hp hk hsh hR hN hdf
end
theorem aWr {P:Program} {c:Ctx} {ops:Array Oper} {Q:Exit→Act→World→Prop} {Z:Nat→Bool} {K:List Nat} {fuel:Nat} {listed:Array Bool} {sL hP:List (Nat×Ent)} {o:Oper} {i:Nat}
 (h:∀{w':World} {M' N':BS} {DQ:Exit→Act→World→Prop},(∀st':St,aD P c ops Q Z K fuel (listed.setIfInBounds i true) ⟨st'.slots,st'.heap++Jt K hP⟩→aN ⟨w',M',N',c.nt,c.dr,c.df⟩ DQ st')→aL P ⟨w',M',N',c.nt,c.dr,c.df⟩ ops DQ [o] ⟨sL,GV K hP⟩) (ho:ops[i]? =some o:=by exact rfl):aW P c ops Q Z K fuel listed (⟨sL,hP⟩:St) i:=Zk5 ho fun _ _ _ _=>h
theorem aDr {P:Program} {c:Ctx} {ops:Array Oper} {Q:Exit→Act→World→Prop} {Z:Nat→Bool} {K:List Nat} {fuel:Nat} {listed:Array Bool} {sL hP:List (Nat×Ent)} {o:Oper} (i:Nat)
 (h:∀{w':World} {M' N':BS} {DQ:Exit→Act→World→Prop},(∀st':St,aD P c ops Q Z K fuel (listed.setIfInBounds i true) ⟨st'.slots,st'.heap++Jt K hP⟩→aN ⟨w',M',N',c.nt,c.dr,c.df⟩ DQ st')→aL P ⟨w',M',N',c.nt,c.dr,c.df⟩ ops DQ [o] ⟨sL,GV K hP⟩) (ho:ops[i]? =some o:=by exact rfl) (hr:Region.ready .any ops listed=[i]:=by kernel_rfl):aD P c ops Q Z K (fuel+1) listed (⟨sL,hP⟩:St):=Z6 i hr (Zk5 ho fun _ _ _ _=>h)
theorem bE {P:Program} {c:Ctx} {ops:Array Oper} {Q:Exit→Act→World→Prop} {st:St} {X:St→Prop} {B:Prop} (b:∀s,X s→aN c Q s) (h:B) (e:B→X st:=by intro h;(try simp only [GV,Jt,put,del,Zsm,List.elem,XV,XQ,Nat.reduceBEq,cond_true,cond_false]);exact h):aL P c ops Q [] st:=Ww (b _ (e h))
end Go.En
namespace Go.Proofs.YteiincihiagidaaGreat
open Go.RowKit Go.Cb Go.En Tryz
theorem ZK:NoAgg prog 9=true:=kR
theorem Zn:SlT prog 39 9 1=true:=kR
abbrev pU8 (n:Int):PV:= .val (.int .u8 n)
theorem Re {a b:Bool} (h:a=true↔b=true):Zv a=Zv b:=by rw [VM.2 h]
theorem Zit {s:BA} {i:Nat} {x:UInt8} (h:s.data[i]? =some x):i<s.size:=by
 rcases XD i s.size with h1|h1
 · exact h1
 · rw [Vv h1] at h;cases h
theorem EZ {s:BA} {i:Nat} (h:i<s.size):∃y,s.data[i]? =some y:=⟨s.data[i]'h,Array.getElem?_eq_getElem h⟩
theorem RI {s:BA} (h:s.size<1∨40<s.size):isName s=false:=by
 unfold isName
 rcases h with h|h
 · rw [U' (show ¬1≤s.size by omega)];simp
 · rw [U' (show ¬s.size≤40 by omega)];simp
theorem Cr {s:BA} {y:UInt8} (h0:s.data[0]? =some y) (h:TX y.toNat=false):isName s=false:=by
 unfold isName;rw [h0,Uk,h];simp
theorem Ct {s:BA} {k:Nat} {y:UInt8} (hy:s.data[k]? =some y) (h:Po y.toNat=false):isName s=false:=by
 unfold isName
 rw [Bool.and_eq_false_iff];right
 rw [V8]
 exact ⟨y,Array.mem_toList_iff.2 (Array.mem_of_getElem? hy),by rw [h];simp⟩
theorem Ev {s:BA} {y:UInt8} (h1:1≤s.size) (h2:s.size≤40) (h0:s.data[0]? =some y) (hl:TX y.toNat=true) (h:∀j z,j<s.size→s.data[j]? =some z→Po z.toNat=true):isName s=true:=by
 unfold isName
 rw [h0,Uk,hl,U9 h1,U9 h2]
 simp only [Bool.and_self,Uo,Xm]
 intro x hx
 obtain ⟨i,hi⟩:=Array.getElem?_of_mem (Array.mem_toList_iff.1 hx)
 exact h i x (Zit hi) hi
theorem ZcN (c:Int):AF prog 137 [pU8 c] (· =Zv (TX c)):=by
 refine AF.b1 17 func137 rfl ntmps137 (Xa rfl) ?_
 rintro w0 M0 _ rfl
 refine YK ?_
 (refine Y' ?_<;>(refine bLd 5 (fun hb5=>?_) (fun hb5=>?_)<;>refine kZ ?_)<;>refine GI ?_<;>(first|refine Yv ?_|(refine bLd 9 (fun hb9=>?_) (fun hb9=>?_)<;>refine kZ ?_))<;>refine Jz ?_<;>(first|refine kL ?_|(refine bLd 12 (fun hb12=>?_) (fun hb12=>?_)<;>refine kZ ?_))<;>refine kZ ?_<;>refine KL ?_)<;>(
 refine Zf results137 rfl (Re ?_);simp only [TX,X3,Xi,U8,true_iff,false_iff,VK]<;>omega)
theorem ZqL (c:Int):AF prog 138 [pU8 c] (· =Zv (Po c)):=by
 refine AF.b1 25 func138 rfl ntmps138 (Xa rfl) ?_
 rintro w0 M0 _ rfl
 refine YK ?_
 (refine Yv ?_<;>(refine cV (cA call137 (ZcN c)) ?_)<;>refine Yv ?_<;>(refine bL 5 (fun hb5=>?_) (fun hb5=>?_)<;>refine kZ ?_)<;>refine Jz ?_<;>(first|refine kL ?_|(refine bLd 8 (fun hb8=>?_) (fun hb8=>?_)<;>refine kZ ?_))<;>refine kZ ?_<;>refine GI ?_<;>(first|refine kL ?_|refine Yv ?_|(refine bLd 13 (fun hb13=>?_) (fun hb13=>?_)<;>refine kZ ?_))<;>refine GI ?_<;>(first|refine kL ?_|(refine bLd 17 (fun hb17=>?_) (fun hb17=>?_)<;>refine kZ ?_))<;>refine GI ?_<;>(first|refine kL ?_|(refine bLd 21 (fun hb21=>?_) (fun hb21=>?_)<;>refine kZ ?_))<;>refine KL ?_)<;>(
 refine Zf results138 rfl (Re ?_);simp only [Po,X3,Xi,U8,true_iff,false_iff,VK,beq_iff_eq]<;>simp_all<;>omega)
theorem DL (s :BA) (hs:s.size≤9223372036854775807):AF prog 105 [Zt s] (· =Zv (isName s)):=by
 refine AF.b1 29 func105 rfl ntmps105 (Xa rfl) ?_
 rintro w0 M0 _ rfl
 refine YK ?_
 (refine xL 4 Za (xL 5 (Pu underlying9) (xL 6 Wq (xL 7 Za ?_)))<;>(refine bLd 7 (fun hb7=>?_) (fun hb7=>?_)<;>refine kZ ?_)<;>(first|refine kL ?_|refine xM (Pu underlying9) ?_)<;>refine GI ?_<;>(first|refine kL ?_|(refine bLd 12 (fun hb12=>?_) (fun hb12=>?_)<;>refine kZ ?_))<;>(first|refine kL ?_|(refine (EZ (i:=0) (s:=s) oM).elim fun y0 hy0=>?_;refine xM (EY underlying9) ?_))<;>(first|refine kL ?_|(refine cV (cA call137 (ZcN y0.toNat)) ?_))<;>refine Wz ?_)<;>(
 refine cX ?_ ?_<;>intro hb17
 · (
 refine ZI ?_;refine Zf results105 rfl ?_
 first|rw [RI oM]|rw [Cr hy0 (by simpa using hb17)])
 · first | exact bN hb17|(
 refine Zh ?_;refine xL 18 Za (xL 19 (Pu underlying9) (xL 20 Za ?_));refine ZF ?_;refine Y7 (ι:={k:Nat//k≤s.size∧∀j y,j<k→s.data[j]? =some y→Po y.toNat=true}) (fun k=>⟨[(0,_,_),(19,_,_),(20, .int .i64 k.1,Zc k.1)],[]⟩) (fun k=>s.size-k.1) ⟨0,oM,oM⟩ (fun a w H=>H.weaken sB trivial) ?_;rintro ⟨k,hk,hp⟩;dsimp only;refine Ys ?_ ?_<;>intro hb21
 · (
 have hlt:k<s.size:=oM;obtain ⟨y,hy⟩:=EZ (s:=s) (i:=k) oM;refine Jm ?_;refine xL 23 Za (xL 24 Za (xL 25 (EY underlying9) ?_));refine cV (cA call138 (ZqL y.toNat)) ?_;refine YX ?_ ?_<;>intro hb27
 · (
 refine ZI ?_;refine Zf results105 rfl ?_;rw [Ct hy (by simpa using hb27)])
 · (
 refine ZE ?_;refine Zm (
  ⟨k+1,oM,fun j z hj hz=>by
   by_cases e:j=k
   · subst e;rw [hy] at hz;cases hz;simpa using hb27
   · exact hp j z oM hz⟩
  ) (by dsimp only;omega) sB trivial))
 · (
 refine ZI ?_;refine Zf results105 rfl ?_;rw [Ev oM oM hy0 (by simpa using hb17) (fun j z hj hz=>hp j z oM hz)])))
theorem PC {α:Type} {p:α→Bool} {l:List α} {k:Nat} {x:α} (hx:l[k]? =some x) (h:p x=false):l.all p=false:=V8.2 ⟨x,Xc hx,by rw [h];simp⟩
theorem ZbH {α:Type} {p:α→Bool} {l:List α} (h:∀(j:Nat) x,l[j]? =some x→p x=true):l.all p=true:=Xm.2 fun x hx=>by
 obtain ⟨j,hj⟩:=XR hx
 exact h j x hj
def LB (l:List BA):Bool:=decide (l.length≤40)&&l.all isName&&chainB strLt l
theorem Ze1 {l:List BA} (h:40<l.length):LB l=false:=by unfold LB;rw [U' (show ¬l.length≤40 by omega)];simp
theorem Ze2 {l:List BA} {k:Nat} {x:BA} (hx:l[k]? =some x) (h:isName x=false):LB l=false:=by unfold LB;rw [PC hx h];simp
theorem ZcO {l:List BA} {k:Nat} {x y:BA} (hk:1≤k) (hy:l[k-1]? =some y) (hx:l[k]? =some x) (h:strLt y x=false):LB l=false:=by unfold LB;rw [Pq hk hy hx h];simp
theorem Ze3 (l :List BA) (hf:∀s∈l,s.size≤140737488355328):AF prog 201 [Zs l] (· =Zv (LB l)):=by
 refine AF.b1 32 func201 rfl ntmps201 (Xa rfl) fun w0 M0 v0 _=>?_
 refine WE 0 rfl fun hlen=>?_
 refine YK ?_
 refine xL 5 Za (xL 6 (Zy Zn) (xL 7 Rc ?_));refine ZR ?_ ?_<;>intro hb7
 · (
 refine ZI ?_;refine Zf results201 rfl ?_;rw [Ze1 oM])
 · (
 refine Zh ?_;refine xL 8 Za (xL 9 (Zy Zn) (xL 10 Za ?_));refine ZF ?_;refine Y7 (ι:={k:Nat//k≤l.length∧∀j x,j<k→l[j]? =some x→isName x=true∧∀y,1≤j→l[j-1]? =some y→strLt y x=true}) (fun k=>⟨[(0,_,_),(8,_,_),(9,_,_),(10, .int .i64 k.1,Zc k.1)],[]⟩) (fun k=>l.length-k.1) ⟨0,oM,oM⟩ (fun a w H=>H.weaken sB trivial) ?_;rintro ⟨k,hk,hp⟩;dsimp only;refine Ys ?_ ?_<;>intro hb11
 · (
 have hlt:k<l.length:=oM;obtain ⟨x,hx⟩:=get_some hlt;obtain ⟨y,hy⟩:=gS l (k-1);have e1:=Z8 (f:=Zt) hx;(have e2:(l.map Zt)[((k:Int)-1).toNat*1]? =some (Zt y):=by rw [show ((k:Int)-1).toNat*1=k-1 by omega];exact (by rw [Xo,hy];rfl));have hxs:=hf x (Xc hx);refine Zh ?_;refine xL 12 Za (xL 13 (Zg Zn) ?_);refine yV (ZG ZK) ?_;refine Jn ?_;(refine Yv ?_<;>(refine cV (cA call105 (DL x oM)) ?_)<;>refine YW ?_<;>(refine bL 18 (fun hb18=>?_) (fun hb18=>?_)<;>refine kZ ?_)<;>refine Jz ?_<;>(first|refine kL ?_|(refine bLd 21 (fun hb21=>?_) (fun hb21=>?_)<;>refine kZ ?_))<;>refine Jz ?_<;>(first|refine kL ?_|refine xM (OJ Zn) ?_)<;>(first|refine kL ?_|refine yV (ZG ZK) ?_)<;>refine kZ ?_<;>(first|refine kL ?_|refine xM ZeY ?_)<;>refine Wz ?_)<;>(
 refine cX ?_ ?_<;>intro hb30
 · first|exact bN hb30|(
 refine ZI ?_;refine Zf results201 rfl ?_
 first|rw [Ze2 hx (by simpa using hb18)]|rw [ZcO oM hy hx (by simpa [strLt] using hb30)])
 · first |exact bN hb30|(
 refine ZE ?_;refine Zm (
  ⟨k +1,oM,fun j z hj hz=>by
   by_cases e:j=k
   · subst e;rw [hx] at hz;cases hz;refine ⟨by simpa using hb18,fun y' h1 hy'=>?_⟩;rw [hy] at hy';cases hy'
     first|omega|simpa [strLt] using hb30
   · exact hp j z oM hz⟩
  ) (by dsimp only;omega) sB trivial)))
 · (
 refine ZI ?_;refine Zf results201 rfl ?_;have h1:l.all isName=true:=ZbH fun j x hj=>(hp j x (by have:=Zd hj;omega) hj).1;have h2:chainB strLt l=true:=Rz fun j x y h1 hy hx=>(hp j x (by have:=Zd hx;omega) hx).2 y h1 hy;unfold LB;rw [h1,h2,U9 (show l.length≤40 by omega)];rfl))
theorem Zau (c:Int):AF prog 135 [pU8 c] (· =Zv (TX c)):=by
 refine AF.b1 17 func135 rfl ntmps135 (Xa rfl) ?_
 rintro w0 M0 _ rfl
 refine YK ?_
 (refine Y' ?_<;>(refine bLd 5 (fun hb5=>?_) (fun hb5=>?_)<;>refine kZ ?_)<;>refine GI ?_<;>(first|refine Yv ?_|(refine bLd 9 (fun hb9=>?_) (fun hb9=>?_)<;>refine kZ ?_))<;>refine Jz ?_<;>(first|refine kL ?_|(refine bLd 12 (fun hb12=>?_) (fun hb12=>?_)<;>refine kZ ?_))<;>refine kZ ?_<;>refine KL ?_)<;>(
 refine Zf results135 rfl (Re ?_);simp only [TX,X3,Xi,U8,true_iff,false_iff,VK]<;>omega)
theorem Ziu (s : BA) (hs:s.size≤9223372036854775807):AF prog 101 [Zt s] (· =Zv (isName s)):=by
 refine AF.b1 52 func101 rfl ntmps101 (Xa rfl) ?_
 rintro w0 M0 _ rfl
 refine YK ?_
 (refine xL 5 Za (xL 6 (Pu underlying9) (xL 7 Wq (xL 8 Za ?_)))<;>(refine bLd 8 (fun hb8=>?_) (fun hb8=>?_)<;>refine kZ ?_)<;>(first|refine kL ?_|refine xM (Pu underlying9) ?_)<;>refine GI ?_<;>(first|refine kL ?_|(refine bLd 13 (fun hb13=>?_) (fun hb13=>?_)<;>refine kZ ?_))<;>(first|refine kL ?_|(refine (EZ (i:=0) (s:=s) oM).elim fun y0 hy0=>?_;refine xM (EY underlying9) ?_))<;>(first|refine kL ?_|(refine cV (cA call135 (Zau y0.toNat)) ?_))<;>refine Wz ?_)<;>(
 refine cX ?_ ?_<;>intro hb18
 · (
 refine ZI ?_;refine Zf results101 rfl ?_
 first|rw [RI oM]|rw [Cr hy0 (by simpa using hb18)])
 · first | exact bN hb18|(
 refine ZI ?_;have h0:∀(j:Nat) z,j<1→s.data[j]? =some z→Po z.toNat=true:=fun j z hj hz=>by
  obtain rfl:j=0:=oM;rw [hy0] at hz;cases hz;unfold Po;rw [show TX y0.toNat=true by simpa using hb18];rfl
 refine Y7 (ι:={k:Nat//1≤k∧k≤s.size∧∀j y,j<k→s.data[j]? =some y→Po y.toNat=true}) (fun k=>⟨[(0,_,_),(3, .int .i64 k.1,Zc k.1)],[]⟩) (fun k=>s.size-k.1) ⟨1,oM,oM,h0⟩ (fun a w H=>H.weaken sB trivial) ?_;rintro ⟨k,hk1,hk,hp⟩;dsimp only;refine Zh ?_;refine xL 19 Za (xL 20 Za (xL 21 (Pu underlying9) (xL 22 Wq ?_)));refine ZR ?_ ?_<;>intro hb22
 · (
 have hlt:k<s.size:=oM;obtain ⟨y,hy⟩:=EZ (s:=s) (i:=k) oM;refine Zh ?_;refine xL 25 Za (xL 26 Za (xL 27 (EY underlying9) (xL 4 Wv ?_)));refine Yc ?_;(refine Yv ?_<;>(refine cV (cA call135 (Zau y.toNat)) ?_)<;>refine YW ?_<;>(refine bL 31 (fun hb31=>?_) (fun hb31=>?_)<;>refine kZ ?_)<;>refine Jz ?_<;>(first|refine kL ?_|(refine bLd 34 (fun hb34=>?_) (fun hb34=>?_)<;>refine kZ ?_))<;>refine Jz ?_<;>refine GI ?_<;>(first|refine kL ?_|refine Yv ?_|(refine bL 40 (fun hb40=>?_) (fun hb40=>?_)<;>refine kZ ?_))<;>refine GI ?_<;>(first|refine kL ?_|(refine bLd 44 (fun hb44=>?_) (fun hb44=>?_)<;>refine kZ ?_))<;>refine GI ?_<;>(first|refine kL ?_|(refine bLd 48 (fun hb48=>?_) (fun hb48=>?_)<;>refine kZ ?_))<;>refine Wz ?_)<;>(
 refine cX ?_ ?_<;>intro hb51
 · first|exact bN hb51|(
 refine ZI ?_;refine Zf results101 rfl ?_;rw [Ct hy];rw [VN];intro hpb;simp only [Po,X3,Xi,U8,beq_iff_eq] at hpb;simp_all
 try omega)
 · (
 refine Y5 ?_;refine Zm (
  ⟨k +1,oM,oM,fun j z hj hz=>by
   by_cases e:j=k
   · subst e;rw [hy] at hz;cases hz;simp only [Po,X3,Xi,U8,beq_iff_eq];simp_all
     try omega
   · exact hp j z oM hz⟩
  ) (by dsimp only;omega) sB trivial)))
 · (
 refine ZI ?_;refine Zf results101 rfl ?_;rw [Ev oM oM hy0 (by simpa using hb18) (fun j z hj hz=>hp j z oM hz)])))
theorem Cu (l:List BA) (s:BA):AF prog 32 [Zs l,Zt s] (· =Zc (idx (fun x=>Kv x s) l)):=by
 refine AF.b2 19 func32 rfl ntmps32 (Xa rfl) ?_
 rintro w0 M0 v0 _-rfl
 refine WE 0 rfl fun hlen=>?_
 refine YK ?_;refine ZB ?_
 refine Y7 (ι:={k:Nat//k≤l.length∧∀i y,i<k→l[i]? =some y→Kv y s=false}) (fun k=>⟨[(0,_,_),(1,_,_),(5, .int .i64 k.1,Zc k.1)],[]⟩) (fun k=>l.length-k.1) ⟨0,oM,oM⟩ (fun a w H=>H.weaken sB trivial) ?_
 rintro ⟨k,hk,hp⟩
 dsimp only
 refine Zh ?_
 refine xL 6 Za (xL 7 Za (xL 8 (Zy Zn) (xL 9 Wq ?_)));refine ZR ?_ ?_<;>intro hb9
 · (
 obtain ⟨x,hx⟩:=gS l k;have e1:=Z8 (f:=Zt) hx;refine Zh ?_;refine xL 12 Za (xL 13 Za (xL 14 (Zg Zn) ?_));refine yV (ZG ZK) ?_;refine YJ ?_;refine cX ?_ ?_<;>intro hb17
 · (
 refine ZE ?_;refine Zf results32 rfl ?_;rw [Lp hp hx hb17])
 · (
 refine Y5 ?_;refine Zm (
  ⟨k+1,oM,fun i y hi hy=>by
   by_cases e:i=k
   · subst e;rw [hx] at hy;cases hy;exact hb17
   · exact hp i y oM hy⟩
  ) (by dsimp only;omega) sB trivial))
 · (
 refine ZI ?_;refine Zf results32 rfl ?_;rw [Lq fun i y hi hy=>hp i y oM hy])
theorem Cv (a b:BA):Kv a b=Kv b a:=by unfold Kv;rw [VM];simp only [beq_iff_eq];exact eq_comm
theorem Ew (l:List BA) (s:BA):AF prog 89 [Zs l,Zt s] (· =Zc (idx (fun x=>Kv x s) l)):=by
 refine AF.b2 19 func89 rfl ntmps89 (Xa rfl) ?_
 rintro w0 M0 v0 _-rfl
 refine WE 0 rfl fun hlen=>?_
 refine YK ?_
 refine xL 6 Za (xL 7 (Zy Zn) (xL 8 Za ?_));refine ZF ?_
 refine Y7 (ι:={k:Nat//k≤l.length∧∀i y,i<k→l[i]? =some y→Kv y s=false}) (fun k=>⟨[(0,_,_),(1,_,_),(7,_,_),(8, .int .i64 k.1,Zc k.1)],[]⟩) (fun k=>l.length-k.1) ⟨0,oM,oM⟩ (fun a w H=>H.weaken sB trivial) ?_
 rintro ⟨k,hk,hp⟩
 dsimp only
 refine Ys ?_ ?_<;>intro hb9
 · (
 obtain ⟨x,hx⟩:=gS l k;have e1:=Z8 (f:=Zt) hx;refine Jm ?_;refine xL 11 Za (xL 12 Za (xL 13 Za (xL 14 (Zg Zn) ?_)));refine yV (ZG ZK) ?_;refine YX ?_ ?_<;>intro hb16
 · (
 (replace hb16:Kv x s=true:=by rw [Cv];exact hb16);refine ZE ?_;refine Zf results89 rfl ?_;rw [Lp hp hx hb16])
 · (
 (replace hb16:Kv x s=false:=by rw [Cv];exact hb16);refine ZE ?_;refine Zm (
  ⟨k+1,oM,fun i y hi hy=>by
   by_cases e:i=k
   · subst e;rw [hx] at hy;cases hy;exact hb16
   · exact hp i y oM hy⟩
  ) (by dsimp only;omega) sB trivial))
 · (
 refine ZI ?_;refine Zf results89 rfl ?_;rw [Lq fun i y hi hy=>hp i y oM hy])
theorem LC (l:List BA) (s:BA):AF prog 48 [Zs l,Zt s] (· =Zv (hasStr l s)):=by
 refine AF.b2 9 func48 rfl ntmps48 (Xa rfl) ?_
 rintro w0 M0 v0 _-rfl
 refine Sk ?_;refine cV (cA call89 (Ew l s)) ?_;refine YJ ?_
 refine Zf results48 rfl ?_
 unfold hasStr
 rw [Lo]
theorem ZcP {l m:List BA} {k:Nat} {x y:BA} (hx:l[k]? =some x) (hy:m[k]? =some y):cmpStrs (l.drop k) (m.drop k)=if Z0 x y=0 then cmpStrs (l.drop (k+1)) (m.drop (k+1)) else Z0 x y:=by rw [Jw hx,Jw hy,cmpStrs]
theorem Zav {a b:BA} (h:strLt a b=true):Z0 a b= -1:=by unfold Z0;rw [Qb h]
theorem Zaw {a b:BA} (h:(!(strLt a b||Kv a b))=true):Z0 a b=1:=by
 simp only [UQ,Uc] at h
 unfold Z0;rw [Qa (by rw [h.1];simp),Qa (by rw [h.2];simp)]
theorem Zax {a b:BA} (h1:strLt a b=false) (h:(!(strLt a b||Kv a b))=false):Z0 a b=0:=by
 rw [h1,V',Bool.not_eq_false'] at h
 unfold Z0;rw [Qa (by rw [h1];simp),Qb h]
theorem P' {l m:List BA} {k:Nat} (h:¬(k<l.length∧k<m.length)) (hk:k≤l.length) (hk':k≤m.length):cmpStrs (l.drop k) (m.drop k)=if l.length<m.length then-1 else if m.length<l.length then 1 else 0:=by
 by_cases h1:l.length=k
 · rw [XU (show l.length≤k by omega)];by_cases h2:m.length=k
   · rw [XU (show m.length≤k by omega),Qa oM,Qa oM];rfl
   · obtain ⟨y,hy⟩:=gS m k;rw [Jw hy,Qb oM];rfl
 · have h2:m.length=k:=oM;rw [XU (show m.length≤k by omega)];obtain ⟨x,hx⟩:=gS l k;rw [Jw hx,Qa oM,Qb oM];rfl
theorem Cw (l m:List BA):AF prog 57 [Zs l,Zs m] (· =Zc (cmpStrs l m)):=by
 refine AF.b2 46 func57 rfl ntmps57 (Xa rfl) fun w0 M0 v0 v1 _ _=>?_
 refine WE 0 rfl fun hlen=>?_
 refine WE 1 rfl fun hlem=>?_
 refine YK ?_;refine ZB ?_
 refine Y7 (ι:={k:Nat//k≤l.length∧k≤m.length∧cmpStrs l m=cmpStrs (l.drop k) (m.drop k)}) (fun k=>⟨[(0,_,_),(1,_,_),(5, .int .i64 k.1,Zc k.1)],[]⟩) (fun k=>l.length-k.1) ⟨0,oM,oM,rfl⟩ (fun a w H=>H.weaken sB trivial) ?_
 rintro ⟨k,hk,hk',hp⟩
 dsimp only
 refine Zh ?_
 (refine xL 6 Za (xL 7 Za (xL 8 (Zy Zn) (xL 9 Wq (xL 10 Za ?_))))<;>(refine bLd 10 (fun hb10=>?_) (fun hb10=>?_)<;>refine kZ ?_)<;>refine kZ ?_<;>(first|refine kL ?_|refine xM (Zy Zn) ?_)<;>refine Wz ?_)<;>(
 refine cX ?_ ?_<;>intro hb15
 · first | exact bN hb15|(
 obtain ⟨x,hx⟩:=gS l k;obtain ⟨y,hy⟩:=gS m k;have e1:=Z8 (f:=Zt) hx;have e2:=Z8 (f:=Zt) hy;have hs:=ZcP hx hy;refine nav ?_;refine We [] [] ?_<;>refine gDx 0 ?_<;>refine gDx 1 ?_<;>refine xD 2 rfl (Zg Zn) ?_<;>(refine yD 3 rfl (ZG ZK) fun v21 h=>?_;cases h)<;>refine gDx 4 ?_<;>refine gEx 5 ?_<;>refine xE 6 rfl (Zg Zn) ?_<;>(refine yE 7 rfl (ZG ZK) fun v25 h=>?_;cases h)<;>refine gEx 8 ?_<;>refine Kz ?_;refine cX ?_ ?_<;>intro hb26
 · (
 refine ZI ?_;refine Zf results57 rfl ?_;rw [hp,hs,Zav hb26];rfl)
 · (
 refine nav ?_;refine We [] [] ?_<;>refine gDx 0 ?_<;>refine gDx 1 ?_<;>refine xD 2 rfl (Zg Zn) ?_<;>(refine yD 3 rfl (ZG ZK) fun v30 h=>?_;cases h)<;>refine gDx 4 ?_<;>refine gEx 5 ?_<;>refine xE 6 rfl (Zg Zn) ?_<;>(refine yE 7 rfl (ZG ZK) fun v34 h=>?_;cases h)<;>refine xE 8 rfl ZeZ ?_<;>refine Kz ?_;refine cX ?_ ?_<;>intro hb35
 · (
 refine ZI ?_;refine Zf results57 rfl ?_;rw [hp,hs,Zaw hb35];rfl)
 · (
 refine Y5 ?_;refine Zm (
  ⟨k+1,oM,oM,by rw [hp,hs,Zax hb26 hb35];rfl⟩
  ) (by dsimp only;omega) sB trivial)))
 · (
 refine Zh ?_;refine xL 36 Za (xL 37 (Zy Zn) (xL 38 Za (xL 39 (Zy Zn) (xL 40 Wq ?_))));refine ZR ?_ ?_<;>intro hb40
 · (
 refine ZI ?_;refine Zf results57 rfl ?_;rw [hp,P' oM hk hk',Qb oM])
 · (
 refine Zh ?_;refine xL 41 Za (xL 42 (Zy Zn) (xL 43 Za (xL 44 (Zy Zn) (xL 45 Rc ?_))));refine ZR ?_ ?_<;>intro hb45
 · (
 refine ZI ?_;refine Zf results57 rfl ?_;rw [hp,P' oM hk hk',Qa oM,Qb oM])
 · (
 refine ZI ?_;refine Zf results57 rfl ?_;rw [hp,P' oM hk hk',Qa oM,Qa oM]))))
theorem ZgI (l m:List BA):AF prog 29 [Zs l,Zs m] (· =Zv (decide (cmpStrs l m=0))):=by
 refine AF.b2 9 func29 rfl ntmps29 (Xa rfl) fun w0 M0 v0 v1 _ _=>?_
 refine Sk ?_;refine cV (cA call57 (Cw l m)) ?_;refine YJ ?_
 exact Zf results29 rfl rfl
theorem Cx (s:BA):AFg prog 100 [Zt s] (· =Zv false):=by
 refine AFg.of_body 6 func100 rfl ntmps100 (Xa rfl) ?_
 intro w0 M0 vs hl hv
 obtain ⟨v0,rfl⟩:=Zij hl
 obtain rfl:=hv 0 _ _ rfl rfl
 clear hl hv
 refine YK ?_;refine OK ?_;refine ZF ?_
 refine Zf results100 rfl ?_
 simp
theorem G7 (a b:BA):AFg prog 53 [Zt a,Zt b] (· =Zc (Z0 a b)):=by
 refine AFg.of_body 20 func53 rfl ntmps53 (Xa rfl) ?_
 intro w0 M0 vs hl hv
 obtain ⟨v0,v1,rfl⟩:=HE hl
 obtain rfl:=hv 0 _ _ rfl rfl
 obtain rfl:=hv 1 _ _ rfl rfl
 clear hl hv
 refine Pw ?_;refine cV (cA call100 (Cx a)) ?_;refine LA ?_;refine cV (cA call100 (Cx b)) ?_;refine Ta ?_
 refine cCf ?_
 refine ZI ?_
 refine cCf ?_
 refine Jy ?_;refine ZR ?_ ?_<;>intro hb16
 · (
 refine ZI ?_;refine Zf results53 rfl ?_;rw [Zav hb16])
 · (
 refine Zh ?_;refine xL 17 Za (xL 18 Za (xL 19 ZeZ ?_));refine ZR ?_ ?_<;>intro hb19
 · (
 refine ZI ?_;refine Zf results53 rfl ?_;rw [Zaw hb19])
 · (
 refine ZI ?_;refine Zf results53 rfl ?_;rw [Zax hb16 hb19]))
theorem OL (l m:List BA):AFg prog 26 [Zs l,Zs m] (· =Zc (cmpStrs l m)):=by
 refine AFg.of_body 36 func26 rfl ntmps26 (Xa rfl) ?_
 intro w0 M0 vs hl hv
 obtain ⟨v0,v1,rfl⟩:=HE hl
 clear hl hv
 refine WE 0 rfl fun hlen=>?_
 refine WE 1 rfl fun hlem=>?_
 refine YK ?_
 refine xL 9 Za (xL 10 (Zy Zn) (xL 11 Za ?_));refine ZF ?_
 refine Y7 (ι:={k:Nat//k≤l.length∧k≤m.length∧cmpStrs l m=cmpStrs (l.drop k) (m.drop k)}) (fun k=>⟨[(0,_,_),(1,_,_),(9,_,_),(10,_,_),(11, .int .i64 k.1,Zc k.1)],[]⟩) (fun k=>l.length-k.1) ⟨0,oM,oM,rfl⟩ (fun a w H=>H.weaken sB trivial) ?_
 rintro ⟨k,hk,hk',hp⟩
 dsimp only
 refine Ys ?_ ?_<;>intro hb12
 · (
 obtain ⟨x,hx⟩:=gS l k;have e1:=Z8 (f:=Zt) hx;refine Zh ?_;refine xL 13 Za (xL 14 (Zg Zn) ?_);refine yV (ZG ZK) ?_;refine Jn ?_;refine xL 16 Za (xL 17 Za (xL 18 (Zy Zn) (xL 19 ZcI ?_)));refine ZR ?_ ?_<;>intro hb19
 · (
 refine ZI ?_;refine Zf results26 rfl ?_;rw [hp,P' oM hk hk',Qa oM,Qb oM])
 · (
 refine nav ?_;obtain ⟨y,hy⟩:=gS m k;have e2:=Z8 (f:=Zt) hy;have hs:=ZcP hx hy;refine Zi ?_;refine xL 20 Za (xL 21 Za (xL 22 (Zg Zn) ?_));refine yV (ZG ZK) ?_;refine ZQ ?_;refine YW ?_;refine cV (cA call53 (G7 x y)) ?_;refine Wy ?_;refine cX ?_ ?_<;>intro hb28
 · (
 refine ZE ?_;refine Zf results26 rfl ?_;rw [hp,hs,Qa hb28])
 · (
 refine ZE ?_;refine Zm (
  ⟨k+1,oM,oM,by rw [hp,hs,Qb (by simpa using hb28)]⟩
  ) (by dsimp only;omega) sB trivial)))
 · (
 refine Zh ?_;refine xL 31 Za (xL 32 (Zy Zn) (xL 33 Za (xL 34 (Zy Zn) (xL 35 Wq ?_))));refine ZR ?_ ?_<;>intro hb35
 · (
 refine ZI ?_;refine Zf results26 rfl ?_;rw [hp,P' oM hk hk',Qb oM])
 · (
 refine ZI ?_;refine Zf results26 rfl ?_;rw [hp,P' oM hk hk',Qa oM,Qa oM]))
theorem OM (l m:List BA):AFg prog 61 [Zs l,Zs m] (· =Zc (cmpStrs l m)):=by
 refine AFg.of_body 8 func61 rfl ntmps61 (Xa rfl) ?_
 intro w0 M0 vs hl hv
 obtain ⟨v0,v1,rfl⟩:=HE hl
 clear hl hv
 refine Sk ?_;refine cV (cA call26 (OL l m)) ?_;refine ZB ?_
 exact Zf results61 rfl rfl
theorem Ke:AggT prog 108 2=true:=kR
theorem GZ:AggT prog 41 2=true:=kR
theorem Sl:NoAgg prog 198=true:=kR
theorem ZM:NoAgg prog 3=true:=kR
theorem KM:SlT prog 196 198 1=true:=kR
theorem Ye:SlT prog 198 3 1=true:=kR
theorem Yi:SlT prog 30 41 2=true:=kR
theorem KA:SlT prog 97 108 2=true:=kR
structure Cnt where
 name:BA
 n:Int
structure Flw where
 src:BA
 dst:BA
 n:Int
structure Dfg where
 acts:List Cnt
 starts:List Cnt
 ends:List Cnt
 follows:List Flw
def HH (x:Cnt):List PV:=[Zt x.name,Zc x.n]
def HI (x:Flw):List PV:=[Zt x.src,Zt x.dst,Zc x.n]
theorem Jo (x:Cnt):(HH x).length=2:=rfl
theorem Sm (x:Flw):(HI x).length=3:=rfl
def LX (l:List Cnt):PV:= .sl l.length (l.flatMap HH)
def ZgJ (l:List Flw):PV:= .sl l.length (l.flatMap HI)
def GJ (g:Dfg):PV:= .agg [LX g.acts,LX g.starts,LX g.ends,ZgJ g.follows]
def pInts (l:List Int):PV:= .sl l.length (l.map Zc)
def HJ (l:List (List Int)):PV:= .sl l.length (l.map pInts)
theorem Cy (f:Nat) (caps:List PV) (p:BA→Bool) (l:List (BA)) (hc:∀args w,(callFunc f args).run prog w= .ok (.enter f args) w) (hf:∀s∈l,AF prog f (Zt s::caps) (· =Zv (p s))):AF prog 88 [Zs l, .fn f caps] (· =Zc (idx p l)):=by
 refine AF.b2 19 func88 rfl ntmps88 (Xa rfl) fun w0 M0 v0 v1 _ _=>?_
 refine WE 0 rfl fun hlen=>?_
 refine YK ?_
 refine xL 6 Za (xL 7 (Zy Zn) (xL 8 Za ?_));refine ZF ?_
 refine Y7 (ι:={k:Nat//k≤l.length∧∀i y,i<k→l[i]? =some y→p y=false}) (fun k=>⟨[(0,_,_),(1,_,_),(7,_,_),(8, .int .i64 k.1,Zc k.1)],[]⟩) (fun k=>l.length-k.1) ⟨0,oM,oM⟩ (fun a w H=>H.weaken sB trivial) ?_
 rintro ⟨k,hk,hp⟩
 dsimp only
 refine Ys ?_ ?_<;>intro hb9
 · (
 obtain ⟨x,hx⟩:=gS l k;have e1:=Z8 (f:=Zt) hx;refine Jm ?_;refine xL 11 Za (xL 12 Za (xL 13 Za (xL 14 (Zg Zn) ?_)));refine yV (ZG ZK) ?_;refine cV (LV (f:=f) (ps:=caps) rfl ⟨_,rfl⟩ hc rfl (hf x (Xc hx))) ?_;refine ZR ?_ ?_<;>intro hb16
 · (
 refine ZE ?_;refine Zf results88 rfl ?_;rw [Lp hp hx hb16])
 · (
 refine ZE ?_;refine Zm (
  ⟨k+1,oM,fun i y hi hy=>by
   by_cases e:i=k
   · subst e;rw [hx] at hy;cases hy;exact hb16
   · exact hp i y oM hy⟩
  ) (by dsimp only;omega) sB trivial))
 · (
 refine ZI ?_;refine Zf results88 rfl ?_;rw [Lq fun i y hi hy=>hp i y oM hy])
theorem LD (f:Nat) (caps:List PV) (p:BA→Bool) (l:List (BA)) (hc:∀args w,(callFunc f args).run prog w= .ok (.enter f args) w) (hf:∀s∈l,AF prog f (Zt s::caps) (· =Zv (p s))):AF prog 46 [Zs l, .fn f caps] (· =Zv (l.any p)):=by
 refine AF.b2 9 func46 rfl ntmps46 (Xa rfl) fun w0 M0 v0 v1 _ _=>?_
 refine Sk ?_;refine cV (cA call88 (Cy f caps p l hc hf)) ?_;refine YJ ?_
 refine Zf results46 rfl ?_
 rw [Lo]
theorem Cz (f:Nat) (caps:List PV) (p:Int→Bool) (l:List (Int)) (hc:∀args w,(callFunc f args).run prog w= .ok (.enter f args) w) (hf:∀s∈l,AF prog f (Zc s::caps) (· =Zv (p s))):AF prog 215 [pInts l, .fn f caps] (· =Zc (idx p l)):=by
 refine AF.b2 19 func215 rfl ntmps215 (Xa rfl) fun w0 M0 v0 v1 _ _=>?_
 refine WE 0 rfl fun hlen=>?_
 refine YK ?_
 refine xL 6 Za (xL 7 (Zy Ye) (xL 8 Za ?_));refine ZF ?_
 refine Y7 (ι:={k:Nat//k≤l.length∧∀i y,i<k→l[i]? =some y→p y=false}) (fun k=>⟨[(0,_,_),(1,_,_),(7,_,_),(8, .int .i64 k.1,Zc k.1)],[]⟩) (fun k=>l.length-k.1) ⟨0,oM,oM⟩ (fun a w H=>H.weaken sB trivial) ?_
 rintro ⟨k,hk,hp⟩
 dsimp only
 refine Ys ?_ ?_<;>intro hb9
 · (
 obtain ⟨x,hx⟩:=gS l k;have e1:=Z8 (f:=Zc) hx;refine Jm ?_;refine xL 11 Za (xL 12 Za (xL 13 Za (xL 14 (Zg Ye) ?_)));refine yV (ZG ZM) ?_;refine cV (LV (f:=f) (ps:=caps) rfl ⟨_,rfl⟩ hc rfl (hf x (Xc hx))) ?_;refine ZR ?_ ?_<;>intro hb16
 · (
 refine ZE ?_;refine Zf results215 rfl ?_;rw [Lp hp hx hb16])
 · (
 refine ZE ?_;refine Zm (
  ⟨k+1,oM,fun i y hi hy=>by
   by_cases e:i=k
   · subst e;rw [hx] at hy;cases hy;exact hb16
   · exact hp i y oM hy⟩
  ) (by dsimp only;omega) sB trivial))
 · (
 refine ZI ?_;refine Zf results215 rfl ?_;rw [Lq fun i y hi hy=>hp i y oM hy])
theorem DN (f:Nat) (caps:List PV) (p:Int→Bool) (l:List (Int)) (hc:∀args w,(callFunc f args).run prog w= .ok (.enter f args) w) (hf:∀s∈l,AF prog f (Zc s::caps) (· =Zv (p s))):AF prog 181 [pInts l, .fn f caps] (· =Zv (l.any p)):=by
 refine AF.b2 9 func181 rfl ntmps181 (Xa rfl) fun w0 M0 v0 v1 _ _=>?_
 refine Sk ?_;refine cV (cA call215 (Cz f caps p l hc hf)) ?_;refine YJ ?_
 refine Zf results181 rfl ?_
 rw [Lo]
theorem ER (f:Nat) (caps:List PV) (p:List Int→Bool) (l:List (List Int)) (hc:∀args w,(callFunc f args).run prog w= .ok (.enter f args) w) (hf:∀s∈l,AF prog f (pInts s::caps) (· =Zv (p s))):AF prog 155 [HJ l, .fn f caps] (· =Zc (idx p l)):=by
 refine AF.b2 19 func155 rfl ntmps155 (Xa rfl) fun w0 M0 v0 v1 _ _=>?_
 refine WE 0 rfl fun hlen=>?_
 refine YK ?_
 refine xL 6 Za (xL 7 (Zy KM) (xL 8 Za ?_));refine ZF ?_
 refine Y7 (ι:={k:Nat//k≤l.length∧∀i y,i<k→l[i]? =some y→p y=false}) (fun k=>⟨[(0,_,_),(1,_,_),(7,_,_),(8, .int .i64 k.1,Zc k.1)],[]⟩) (fun k=>l.length-k.1) ⟨0,oM,oM⟩ (fun a w H=>H.weaken sB trivial) ?_
 rintro ⟨k,hk,hp⟩
 dsimp only
 refine Ys ?_ ?_<;>intro hb9
 · (
 obtain ⟨x,hx⟩:=gS l k;have e1:=Z8 (f:=pInts) hx;refine Jm ?_;refine xL 11 Za (xL 12 Za (xL 13 Za (xL 14 (Zg KM) ?_)));refine yU (ZG Sl) fun v15=>?_;refine cV (LV (f:=f) (ps:=caps) rfl ⟨_,rfl⟩ hc rfl (hf x (Xc hx))) ?_;refine ZR ?_ ?_<;>intro hb16
 · (
 refine ZE ?_;refine Zf results155 rfl ?_;rw [Lp hp hx hb16])
 · (
 refine ZE ?_;refine Zm (
  ⟨k+1,oM,fun i y hi hy=>by
   by_cases e:i=k
   · subst e;rw [hx] at hy;cases hy;exact hb16
   · exact hp i y oM hy⟩
  ) (by dsimp only;omega) sB trivial))
 · (
 refine ZI ?_;refine Zf results155 rfl ?_;rw [Lq fun i y hi hy=>hp i y oM hy])
theorem CB (f:Nat) (caps:List PV) (p:Var→Bool) (l:List (Var)) (hc:∀args w,(callFunc f args).run prog w= .ok (.enter f args) w) (hf:∀s∈l,AF prog f (.agg (WM s)::caps) (· =Zv (p s))):AF prog 162 [Yx l, .fn f caps] (· =Zc (idx p l)):=by
 refine AF.b2 19 func162 rfl ntmps162 (Xa rfl) fun w0 M0 v0 v1 _ _=>?_
 refine WE 0 rfl fun hlen=>?_
 refine YK ?_
 refine xL 6 Za (xL 7 (Zy Yi) (xL 8 Za ?_));refine ZF ?_
 refine Y7 (ι:={k:Nat//k≤l.length∧∀i y,i<k→l[i]? =some y→p y=false}) (fun k=>⟨[(0,_,_),(1,_,_),(7,_,_),(8, .int .i64 k.1,Zc k.1)],[]⟩) (fun k=>l.length-k.1) ⟨0,oM,oM⟩ (fun a w H=>H.weaken sB trivial) ?_
 rintro ⟨k,hk,hp⟩
 dsimp only
 refine Ys ?_ ?_<;>intro hb9
 · (
 obtain ⟨x,hx⟩:=gS l k;have e1:=Yu Yy l k x hx;have e2:=Y9 Yy hx;refine Jm ?_;refine xL 11 Za (xL 12 Za (xL 13 Za (xL 14 (Zg Yi) ?_)));refine yU (YD GZ) fun v15=>?_;refine cV (LV (f:=f) (ps:=caps) rfl ⟨_,rfl⟩ hc rfl (hf x (Xc hx))) ?_;refine ZR ?_ ?_<;>intro hb16
 · (
 refine ZE ?_;refine Zf results162 rfl ?_;rw [Lp hp hx hb16])
 · (
 refine ZE ?_;refine Zm (
  ⟨k+1,oM,fun i y hi hy=>by
   by_cases e:i=k
   · subst e;rw [hx] at hy;cases hy;exact hb16
   · exact hp i y oM hy⟩
  ) (by dsimp only;omega) sB trivial))
 · (
 refine ZI ?_;refine Zf results162 rfl ?_;rw [Lq fun i y hi hy=>hp i y oM hy])
theorem DO (f:Nat) (caps:List PV) (p:Var→Bool) (l:List (Var)) (hc:∀args w,(callFunc f args).run prog w= .ok (.enter f args) w) (hf:∀s∈l,AF prog f (.agg (WM s)::caps) (· =Zv (p s))):AF prog 117 [Yx l, .fn f caps] (· =Zv (l.any p)):=by
 refine AF.b2 9 func117 rfl ntmps117 (Xa rfl) fun w0 M0 v0 v1 _ _=>?_
 refine Sk ?_;refine cV (cA call162 (CB f caps p l hc hf)) ?_;refine YJ ?_
 refine Zf results117 rfl ?_
 rw [Lo]
theorem HK (f:Nat) (caps:List PV) (p:Cnt→Bool) (l:List (Cnt)) (hc:∀args w,(callFunc f args).run prog w= .ok (.enter f args) w) (hf:∀s∈l,AF prog f (.agg (HH s)::caps) (· =Zv (p s))):AF prog 240 [LX l, .fn f caps] (· =Zc (idx p l)):=by
 refine AF.b2 19 func240 rfl ntmps240 (Xa rfl) fun w0 M0 v0 v1 _ _=>?_
 refine WE 0 rfl fun hlen=>?_
 refine YK ?_
 refine xL 6 Za (xL 7 (Zy KA) (xL 8 Za ?_));refine ZF ?_
 refine Y7 (ι:={k:Nat//k≤l.length∧∀i y,i<k→l[i]? =some y→p y=false}) (fun k=>⟨[(0,_,_),(1,_,_),(7,_,_),(8, .int .i64 k.1,Zc k.1)],[]⟩) (fun k=>l.length-k.1) ⟨0,oM,oM⟩ (fun a w H=>H.weaken sB trivial) ?_
 rintro ⟨k,hk,hp⟩
 dsimp only
 refine Ys ?_ ?_<;>intro hb9
 · (
 obtain ⟨x,hx⟩:=gS l k;have e1:=Yu Jo l k x hx;have e2:=Y9 Jo hx;refine Jm ?_;refine xL 11 Za (xL 12 Za (xL 13 Za (xL 14 (Zg KA) ?_)));refine yU (YD Ke) fun v15=>?_;refine cV (LV (f:=f) (ps:=caps) rfl ⟨_,rfl⟩ hc rfl (hf x (Xc hx))) ?_;refine ZR ?_ ?_<;>intro hb16
 · (
 refine ZE ?_;refine Zf results240 rfl ?_;rw [Lp hp hx hb16])
 · (
 refine ZE ?_;refine Zm (
  ⟨k+1,oM,fun i y hi hy=>by
   by_cases e:i=k
   · subst e;rw [hx] at hy;cases hy;exact hb16
   · exact hp i y oM hy⟩
  ) (by dsimp only;omega) sB trivial))
 · (
 refine ZI ?_;refine Zf results240 rfl ?_;rw [Lq fun i y hi hy=>hp i y oM hy])
theorem OG (f:Nat) (caps:List PV) (p:Cnt→Bool) (l:List (Cnt)) (hc:∀args w,(callFunc f args).run prog w= .ok (.enter f args) w) (hf:∀s∈l,AF prog f (.agg (HH s)::caps) (· =Zv (p s))):AF prog 203 [LX l, .fn f caps] (· =Zv (l.any p)):=by
 refine AF.b2 9 func203 rfl ntmps203 (Xa rfl) fun w0 M0 v0 v1 _ _=>?_
 refine Sk ?_;refine cV (cA call240 (HK f caps p l hc hf)) ?_;refine YJ ?_
 refine Zf results203 rfl ?_
 rw [Lo]
theorem YL:FldT prog 41 0 0=true:=kR
theorem K7:FldT prog 41 1 1=true:=kR
theorem ZN:NoAgg prog 39=true:=kR
theorem HL:ZeroT prog 41 (.agg #[(.slice none 0 0),(.int .i64 0)]):=by unfold ZeroT;kernel_rfl
def ZqM (l:List BA):Prop:=l.length≤140737488355328∧∀s∈l,s.size≤140737488355328
def ζ5 (l:List Var):Prop:=l.length≤140737488355328∧∀x∈l,ZqM x.acts∧-9223372036854775808≤x.count∧x.count≤9223372036854775807
theorem Ze4 (s:BA) (hs:s.size≤9223372036854775807):AF prog 104 [Zt s] (· =Zv (!isName s)):=by
 refine AF.b1 6 func104 rfl ntmps104 (Xa rfl) ?_
 rintro w0 M0 _ rfl
 refine Pw ?_;refine cV (cA call105 (DL s hs)) ?_;refine YJ ?_
 exact Zf results104 rfl rfl
theorem Ziv (l:List BA) (hf:ZqM l):AF prog 60 [Zs l] (· =Zv (l.all isName)):=by
 refine AF.b1 6 func60 rfl ntmps60 (Xa rfl) fun w0 M0 v0 _=>?_
 refine Pw ?_;refine cV (cA call46 (LD 104 [] (fun s=> !isName s) l (call104) (fun s hs=>Ze4 s (by have:=hf.2 s hs;omega)))) ?_;refine YJ ?_
 refine Zf results60 rfl (Re ?_)
 simp
theorem DR {x:Var} (h:200<x.acts.length∨x.acts.all isName=false∨x.count<1∨1048576<x.count):K4 x=false:=by
 unfold K4
 rcases h with h|h|h|h
 · rw [U' (show ¬x.acts.length≤200 by omega)];simp
 · rw [h];simp
 · rw [U' (show ¬1≤x.count by omega)];simp
 · rw [U' (show ¬x.count≤1048576 by omega)];simp
theorem Ziw {x:Var} (h1:x.acts.length≤200) (h2:x.acts.all isName=true) (h3:1≤x.count) (h4:x.count≤1048576):K4 x=true:=by
 unfold K4;rw [U9 h1,h2,U9 h3,U9 h4];rfl
theorem RJ {l:List Var} {k:Nat} {x:Var} (h:l[k]? =some x) (ho:K4 x=false):L8 l k=false:=by
 unfold L8;rw [h];simp [ho]
theorem Ze5 {l:List Var} {k:Nat} {x y:Var} (h:l[k]? =some x) (hy:l[k-1]? =some y) (hk:0<k) (hc:0≤cmpStrs y.acts x.acts):L8 l k=false:=by
 rw [Cj h hy hk,U' (show ¬cmpStrs y.acts x.acts<0 by omega)];simp
theorem ZcQ {l:List Var} {k:Nat} {x y:Var} (h:l[k]? =some x) (hy:l[k-1]? =some y) (ho:K4 x=true) (hc:0<k→cmpStrs y.acts x.acts<0):L8 l k=true:=by
 rcases Ub k with h0|h0
 · subst h0;rw [ZcB h];exact ho
 · rw [Cj h hy h0,ho,U9 (hc h0)];rfl
theorem GQ (l : List Var) (hf:ζ5 l):AF prog 34 [Yx l] (· =Zv (validVars l)):=by
 refine AF.b1 52 func34 rfl ntmps34 (Xa rfl) fun w0 M0 v0 _=>?_
 refine WE 0 rfl fun hlen=>?_
 refine YK ?_
 refine xL 5 Za (xL 6 (Zy Yi) (xL 7 Rc ?_));refine ZR ?_ ?_<;>intro hb7
 · (
 refine ZI ?_;refine Zf results34 rfl ?_;rw [show validVars l=false by unfold validVars;rw [U' (show ¬l.length≤300 by omega)];simp])
 · (
 refine Zh ?_;refine xL 8 Za (xL 9 (Zy Yi) (xL 10 Za ?_));refine ZF ?_;refine Y7 (ι:={k:Nat//k≤l.length∧∀j,j<k→L8 l j=true}) (fun k=>⟨[(0,_,_),(8,_,_),(9,_,_),(10, .int .i64 k.1,Zc k.1)],[]⟩) (fun k=>l.length-k.1) ⟨0,oM,oM⟩ (fun a w H=>H.weaken sB trivial) ?_;rintro ⟨k,hk,hp⟩;dsimp only;refine Ys ?_ ?_<;>intro hb11
 · (
 have hlt:k<l.length:=oM;obtain ⟨x,hx⟩:=get_some hlt;obtain ⟨y,hy⟩:=gS l (k-1);have e1:=Yu Yy l k x hx;have e2:=Y9 Yy hx;(have e3:(l.flatMap WM)[((k:Int)-1).toNat*2+0]? =some (Zs y.acts):=by rw [show ((k:Int)-1).toNat*2+0=(k-1)*2+0 by omega];exact K6 Yy hy dC);have hfx:=hf.2 x (Xc hx);have hxl:=hfx.1.1;refine Zh ?_;refine xL 12 Za (xL 13 (Zg Yi) ?_);refine yU (YD GZ) fun v14=>?_;refine Zx [(.slice none 0 0),(.int .i64 0)] 2 4 HL fun h4=>?_;refine Yv ?_;refine Zu 4 GZ ?_;refine ZF ?_;(refine We [] [4] ?_<;>refine xE 0 rfl (Zb 4 YL) ?_<;>(refine yE 1 rfl (Ze 4 ZN) fun v16 h=>?_;cases h)<;>refine xE 2 rfl (Zy Zn) ?_<;>refine gEx 3 ?_<;>refine gEx 4 ?_<;>(refine bDd 19 (fun hb19=>?_) (fun hb19=>?_)<;>(first|refine kD 5 ?_|refine xD 5 rfl (Zb 4 YL) ?_))<;>(first|refine kD 6 ?_|(refine yD 6 rfl (Ze 4 ZN) fun v21 h=>?_;cases h))<;>(refine aDr 7 fun bk=>?_)<;>(first|refine kL ?_|(refine cV (cA call60 (Ziv x.acts hfx.1)) ?_))<;>refine bE bk ?_<;>(first|refine kD 8 ?_|refine gDx 8 ?_)<;>refine gEx 9 ?_<;>refine gEx 10 ?_<;>(first|refine kD 11 ?_|(refine bD 25 (fun hb25=>?_) (fun hb25=>?_)<;>(first|refine kD 11 ?_|refine xD 11 rfl (Zb 4 K7) ?_)))<;>(first|refine kD 12 ?_|(refine yD 12 rfl (Ze 4 ZM) fun v27 h=>?_;cases h))<;>(first|refine kD 13 ?_|refine gDx 13 ?_)<;>refine gEx 14 ?_<;>refine gEx 15 ?_<;>(first|refine kD 16 ?_|(refine bDd 30 (fun hb30=>?_) (fun hb30=>?_)<;>(first|refine kD 16 ?_|refine xD 16 rfl (Zb 4 K7) ?_)))<;>(first|refine kD 17 ?_|(refine yD 17 rfl (Ze 4 ZM) fun v32 h=>?_;cases h))<;>(first|refine kD 18 ?_|refine gDx 18 ?_)<;>refine gEx 19 ?_<;>refine gEx 20 ?_<;>(first|refine kD 21 ?_|(refine bDd 35 (fun hb35=>?_) (fun hb35=>?_)<;>(first|refine kD 21 ?_|refine gDx 21 ?_)))<;>(first|refine kD 22 ?_|refine gDx 22 ?_)<;>(first|refine kD 23 ?_|refine gDx 23 ?_)<;>(first|refine kD 24 ?_|(refine bDd 38 (fun hb38=>?_) (fun hb38=>?_)<;>(first|refine kD 24 ?_|refine gDx 24 ?_)))<;>(first|refine kD 25 ?_|refine gDx 25 ?_)<;>(first|refine kD 26 ?_|refine gDx 26 ?_)<;>(first|refine kD 27 ?_|refine xD 27 rfl (OJ Yi) ?_)<;>(first|refine kD 28 ?_|refine xD 28 rfl (YP YL) ?_)<;>(first|refine kD 29 ?_|(refine yD 29 rfl (ZG ZN) fun v44 h=>?_;cases h))<;>(first|refine kD 30 ?_|refine xD 30 rfl (Zb 4 YL) ?_)<;>(first|refine kD 31 ?_|(refine yD 31 rfl (Ze 4 ZN) fun v46 h=>?_;cases h))<;>(refine aDr 32 fun bk=>?_)<;>(first|refine kL ?_|(refine cV (cA call61 (OM y.acts x.acts)) ?_))<;>refine bE bk ?_<;>(first|refine kD 33 ?_|refine gDx 33 ?_)<;>(first|refine kD 34 ?_|refine gDx 34 ?_)<;>refine gEx 35 ?_<;>refine Kz ?_)<;>(
 refine cX ?_ ?_<;>intro hb50
 · first|exact bN hb50|(
 refine ZI ?_;refine Zf results34 rfl ?_;rw [Ck hlt]
 first
  |exact RJ hx (DR (.inl oM))
  |exact RJ hx (DR (.inr (.inl (by simpa using hb25))))
  |exact RJ hx (DR (.inr (.inr (.inl oM))))
  |exact RJ hx (DR (.inr (.inr (.inr oM))))
  |exact Ze5 hx hy oM oM)
 · first |exact bN hb50|(
 refine ZE ?_;refine Zm (
  ⟨k +1,oM,fun j hj=>by
   by_cases e:j=k
   · subst e;exact ZcQ hx hy (Ziw oM (by simpa using hb25) oM oM) oM
   · exact hp j oM⟩
  ) (by dsimp only;omega) sB trivial)))
 · (
 refine ZI ?_;refine Zf results34 rfl ?_;rw [ζ3 oM (fun j hj=>hp j oM)]))
theorem ES (l m:List Var) (hf:ζ5 l) (hg:ζ5 m):AF prog 9 [Yx l,Yx m] (· =Zv (K5 l m)):=by
 refine AF.b2 42 func9 rfl ntmps9 (Xa rfl) fun w0 M0 v0 v1 _ _=>?_
 refine WE 0 rfl fun hlen=>?_
 refine WE 1 rfl fun hlem=>?_
 refine YK ?_
 refine xL 6 Za (xL 7 (Zy Yi) (xL 8 Za (xL 9 (Zy Yi) (xL 10 Pa ?_))));refine ZR ?_ ?_<;>intro hb10
 · (
 refine ZI ?_;refine Zf results9 rfl ?_;rw [show K5 l m=false from VN.2 fun h=>by have:=Dy h;omega])
 · (
 refine ZI ?_;refine Y7 (ι:={k:Nat//k≤l.length∧K5 l m=K5 (l.drop k) (m.drop k)}) (fun k=>⟨[(0,_,_),(1,_,_),(5, .int .i64 k.1,Zc k.1)],[]⟩) (fun k=>l.length-k.1) ⟨0,oM,rfl⟩ (fun a w H=>H.weaken sB trivial) ?_;rintro ⟨k,hk,hp⟩;dsimp only;refine Zh ?_;refine xL 11 Za (xL 12 Za (xL 13 (Zy Yi) (xL 14 Wq ?_)));refine ZR ?_ ?_<;>intro hb14
 · (
 obtain ⟨x,hx⟩:=gS l k;obtain ⟨y,hy⟩:=gS m k;have e1:(l.flatMap WM)[k*2+0]? =some (Zs x.acts):=K6 Yy hx dC;have e2:(m.flatMap WM)[k*2+0]? =some (Zs y.acts):=K6 Yy hy dC;have e3:(l.flatMap WM)[k*2+1]? =some (Zc x.count):=K6 Yy hx dC;have e4:(m.flatMap WM)[k*2+1]? =some (Zc y.count):=K6 Yy hy dC;have hs:=ζ4 hx hy;refine nav ?_;(refine We [] [] ?_<;>refine gDx 0 ?_<;>refine gDx 1 ?_<;>refine xD 2 rfl (Zg Yi) ?_<;>refine xD 3 rfl (YP K7) ?_<;>(refine yD 4 rfl (ZG ZM) fun v21 h=>?_;cases h)<;>refine gDx 5 ?_<;>refine gEx 6 ?_<;>refine xE 7 rfl (Zg Yi) ?_<;>refine xE 8 rfl (YP K7) ?_<;>(refine yE 9 rfl (ZG ZM) fun v26 h=>?_;cases h)<;>refine gEx 10 ?_<;>refine gEx 11 ?_<;>(refine bDd 28 (fun hb28=>?_) (fun hb28=>?_)<;>(first|refine kD 12 ?_|refine gDx 12 ?_))<;>(first|refine kD 13 ?_|refine gDx 13 ?_)<;>(first|refine kD 14 ?_|refine xD 14 rfl (Zg Yi) ?_)<;>(first|refine kD 15 ?_|refine xD 15 rfl (YP YL) ?_)<;>(first|refine kD 16 ?_|(refine yD 16 rfl (ZG ZN) fun v33 h=>?_;cases h))<;>(first|refine kD 17 ?_|refine gDx 17 ?_)<;>(first|refine kD 18 ?_|refine gDx 18 ?_)<;>(first|refine kD 19 ?_|refine xD 19 rfl (Zg Yi) ?_)<;>(first|refine kD 20 ?_|refine xD 20 rfl (YP YL) ?_)<;>(first|refine kD 21 ?_|(refine yD 21 rfl (ZG ZN) fun v38 h=>?_;cases h))<;>(refine aDr 22 fun bk=>?_)<;>(first|refine kL ?_|(refine cV (cA call29 (ZgI x.acts y.acts)) ?_))<;>refine bE bk ?_<;>(first|refine kD 23 ?_|refine gDx 23 ?_)<;>refine gEx 24 ?_<;>refine Kz ?_)<;>(
 refine cX ?_ ?_<;>intro hb41
 · (
 refine ZI ?_;refine Zf results9 rfl ?_;rw [hp,hs];unfold Dx
 first
  |(rw [show (x.count==y.count)=false by simpa using hb28];rfl)
  |(rw [show decide (cmpStrs x.acts y.acts=0)=false by simpa using hb41];simp))
 · first|exact bN hb41|(
 refine Y5 ?_;refine Zm (
  ⟨k+1,oM,by
   rw [hp,hs];unfold Dx;rw [show (x.count==y.count)=true by simpa using hb28,show decide (cmpStrs x.acts y.acts=0)=true by simpa using hb41];rfl⟩
  ) (by dsimp only;omega) sB trivial)))
 · (
 refine ZI ?_;refine Zf results9 rfl ?_;rw [hp,XU oM,XU oM];rfl))
theorem G8:AggT prog 189 3=true:=kR
theorem WY:ElT prog 198 3 1 8 (.int .i64 0):=⟨underlying198,by kernel_rfl,rfl,dC⟩
theorem Ze6:ElT prog 250 97 1 24 (.slice none 0 0):=⟨underlying250,by kernel_rfl,rfl,dC⟩
theorem ZW:ElT prog 39 9 1 16 (.string ByteArray.empty):=⟨underlying39,by kernel_rfl,rfl,dC⟩
theorem LF:FldT prog 100 0 0=true:=kR
theorem RL:FldT prog 100 1 1=true:=kR
theorem RN:FldT prog 100 2 2=true:=kR
theorem Gh:FldT prog 100 3 3=true:=kR
theorem JA:FldT prog 108 0 0=true:=kR
theorem ZbI:FldT prog 108 1 1=true:=kR
theorem Gi:FldT prog 189 0 0=true:=kR
theorem Gj:FldT prog 189 1 1=true:=kR
theorem ZbJ:FldT prog 189 2 2=true:=kR
theorem KV:NoAgg prog 97=true:=kR
theorem T':NoAgg prog 98=true:=kR
theorem CC:SlT prog 250 97 1=true:=kR
theorem Rf:SlT prog 98 189 3=true:=kR
theorem Sn:ZeroT prog 108 (.agg #[(.string ByteArray.empty),(.int .i64 0)]):=by unfold ZeroT;kernel_rfl
theorem CE:ZeroT prog 189 (.agg #[(.string ByteArray.empty),(.string ByteArray.empty),(.int .i64 0)]):=by unfold ZeroT;kernel_rfl
def cnames (l:List Cnt):List BA:=l.map (·.name)
def Kl (n:Int):Bool:=decide (1≤n)&&decide (n≤4503599627370496)
def CF (l all:List BA):Bool:=chainB strLt l&&l.all (hasStr all)
def KN (a b:Flw):Int:=if Z0 a.src b.src=0 then Z0 a.dst b.dst else Z0 a.src b.src
def Rh (acts:List BA) (f:Flw):Bool:=Kl f.n&&hasStr acts f.src&&hasStr acts f.dst
def flwLt (a b:Flw):Bool:=decide (KN a b<0)
def TV (g:Dfg):Bool:=LB (cnames g.acts)&&CF (cnames g.starts) (cnames g.acts)&&CF (cnames g.ends) (cnames g.acts)&&g.acts.all (fun c=>Kl c.n)&&g.starts.all (fun c=>Kl c.n)&&g.ends.all (fun c=>Kl c.n)&&g.follows.all (Rh (cnames g.acts))&&chainB flwLt g.follows
def Ze7 (l:List Cnt):Prop:=l.length≤140737488355328∧∀c∈l,c.name.size≤140737488355328∧-9223372036854775808≤c.n∧c.n≤9223372036854775807
def ZqN (l:List Flw):Prop:=l.length≤140737488355328∧∀c∈l,c.src.size≤140737488355328∧c.dst.size≤140737488355328∧-9223372036854775808≤c.n∧c.n≤9223372036854775807
def ZqO (g:Dfg):Prop:=Ze7 g.acts∧Ze7 g.starts∧Ze7 g.ends∧ZqN g.follows
theorem Wb (e n:Nat) (l:List BA):share (.own e 1 n (l.map Zt))= .sl n (l.map Zt):=by
 rw [share,Z7,Xt];rfl
theorem PD {l:List Cnt} {k:Nat} {x:Cnt} (h:l[k]? =some x):cnames (l.take (k+1))=cnames (l.take k)++[x.name]:=by
 unfold cnames;rw [Zw h,XC];rfl
theorem CG (l:List Cnt) (hl0:l.length≤1000000):AF prog 200 [LX l] (· =Zs (cnames l)):=by
 refine AF.b1 19 func200 rfl ntmps200 (Xa rfl) fun w0 M0 v0 _=>?_
 refine Px ?_
 refine xL 6 Za (xL 7 (Zy KA) (xL 8 Za ?_));refine ZF ?_
 refine Zq (Wr 200 9 1 rfl) fun _=>?_
 refine Yd (ι:={x:Nat×Value//x.1≤l.length}) (fun k=>⟨[(6,_,_),(7,_,_),(3,k.1.2, .val k.1.2),(8, .int .i64 k.1.1,Zc k.1.1)],[(200,k.1.2, .own 9 1 k.1.1 ((cnames (l.take k.1.1)).map Zt))]⟩) (fun k=>l.length-k.1.1) ⟨(0, .slice none 0 0),oM⟩ ?_
 rintro ⟨⟨k,h3⟩,hk⟩
 dsimp only
 dsimp only at hk
 refine Ys ?_ ?_<;>intro hb9
 · (
 obtain ⟨x,hx⟩:=gS l k;have e1:=Yu Jo l k x hx;have e2:=Y9 Jo hx;(have e3:((cnames (l.take k)).map Zt).length=k:=by simp [cnames];omega);refine Zh ?_;refine xM (Zg KA) ?_;refine yU (YD Ke) fun v11=>?_;refine Zx [(.string ByteArray.empty),(.int .i64 0)] 2 5 Sn fun h5=>?_;refine Zu 5 Ke ?_;refine Yc ?_;refine xL 12 Za (xL 13 (Zb 5 JA) ?_);refine yV (Ze 5 ZK) ?_;refine Wx (kk:=1) 15 ZW fun h15 ho15=>?_;refine WN 200 15 16 ZW fun h16 ho16=>?_;refine Wy ?_;refine Yq (Zz (l:=16) 200 rfl rfl) fun _=>?_;rw [show (cnames (l.take k)).map Zt++[Zt x.name]=(cnames (l.take (k+1))).map Zt by rw [PD hx,XC];rfl];refine Yh (
  ⟨(k+1,h16),by show k+1≤l.length;omega⟩
  ))
 · (
 refine ZE ?_;refine Z5 (En.freeze (l:=200) (t:=2) rfl rfl) fun _=>?_;refine Zf results200 rfl ?_;obtain rfl:k=l.length:=oM;rw [XH,Wb];unfold Zs cnames;rw [Xb])
theorem CH (l all:List BA):AF prog 202 [Zs l,Zs all] (· =Zv (CF l all)):=by
 refine AF.b2 32 func202 rfl ntmps202 (Xa rfl) fun w0 M0 v0 v1 _ _=>?_
 refine WE 0 rfl fun hlen=>?_
 refine YK ?_
 refine xL 7 Za (xL 8 (Zy Zn) (xL 9 Za ?_));refine ZF ?_
 refine Y7 (ι:={k:Nat//k≤l.length∧∀j x,j<k→l[j]? =some x→hasStr all x=true∧∀y,1≤j→l[j-1]? =some y→strLt y x=true}) (fun k=>⟨[(0,_,_),(1,_,_),(7,_,_),(8,_,_),(9, .int .i64 k.1,Zc k.1)],[]⟩) (fun k=>l.length-k.1) ⟨0,oM,oM⟩ (fun a w H=>H.weaken sB trivial) ?_
 rintro ⟨k,hk,hp⟩
 dsimp only
 refine Ys ?_ ?_<;>intro hb10
 · (
 obtain ⟨x,hx⟩:=gS l k;obtain ⟨y,hy⟩:=gS l (k-1);have e1:=Z8 (f:=Zt) hx;(have e2:(l.map Zt)[((k:Int)-1).toNat*1]? =some (Zt y):=by rw [show ((k:Int)-1).toNat*1=k-1 by omega];exact (by rw [Xo,hy];rfl));refine Zh ?_;refine xL 11 Za (xL 12 (Zg Zn) ?_);refine yV (ZG ZK) ?_;refine Jn ?_;(refine Y' ?_<;>(refine bLd 16 (fun hb16=>?_) (fun hb16=>?_)<;>refine kZ ?_)<;>refine Jz ?_<;>(first|refine kL ?_|refine xM (OJ Zn) ?_)<;>(first|refine kL ?_|refine yV (ZG ZK) ?_)<;>refine kZ ?_<;>(first|refine kL ?_|refine xM ZeY ?_)<;>refine YW ?_<;>(first|refine Yv ?_|(refine bL 25 (fun hb25=>?_) (fun hb25=>?_)<;>refine kZ ?_))<;>refine kZ ?_<;>(first|refine kL ?_|(refine cV (cA call48 (LC all x)) ?_))<;>refine Wz ?_)<;>(
 refine cX ?_ ?_<;>intro hb30
 · (
 refine ZI ?_;refine Zf results202 rfl ?_;unfold CF
 first
  |rw [Pq oM hy hx (by simpa [strLt] using hb25)];rfl
  |rw [PC hx (by simpa using hb30)];simp)
 · first |exact bN hb30|(
 refine ZE ?_;refine Zm (
  ⟨k +1,oM,fun j z hj hz=>by
   by_cases e:j=k
   · subst e;rw [hx] at hz;cases hz;refine ⟨by simpa using hb30,fun y' h1 hy'=>?_⟩;rw [hy] at hy';cases hy'
     first|omega|simpa [strLt] using hb25
   · exact hp j z oM hz⟩
  ) (by dsimp only;omega) sB trivial)))
 · (
 refine ZI ?_;refine Zf results202 rfl ?_;have h1:l.all (hasStr all)=true:=ZbH fun j x hj=>(hp j x (by have:=Zd hj;omega) hj).1;have h2:chainB strLt l=true:=Rz fun j x y h1 hy hx=>(hp j x (by have:=Zd hx;omega) hx).2 y h1 hy;unfold CF;rw [h1,h2];rfl)
def Kp:List Int→Int
 |[]=>0
 |x::l=>if x=0 then Kp l else x
theorem Zoq (l:List Int):AF prog 176 [pInts l] (· =Zc (Kp l)):=by
 refine AF.b1 18 func176 rfl ntmps176 (Xa rfl) fun w0 M0 v0 _=>?_
 refine WE 0 rfl fun hlen=>?_
 refine Px ?_
 refine xL 6 Za (xL 7 (Zy Ye) (xL 8 Za ?_));refine ZF ?_
 refine Y7 (ι:={k:Nat//k≤l.length∧Kp l=Kp (l.drop k)}) (fun k=>⟨[(3,_,_),(6,_,_),(7,_,_),(8, .int .i64 k.1,Zc k.1)],[]⟩) (fun k=>l.length-k.1) ⟨0,oM,rfl⟩ (fun a w H=>H.weaken sB trivial) ?_
 rintro ⟨k,hk,hp⟩
 dsimp only
 refine Ys ?_ ?_<;>intro hb9
 · (
 obtain ⟨x,hx⟩:=gS l k;have e1:=Z8 (f:=Zc) hx;(have hs:Kp (l.drop k)=if x=0 then Kp (l.drop (k+1)) else x:=by rw [Jw hx,Kp]);refine Zh ?_;refine xM (Zg Ye) ?_;refine yV (ZG ZM) ?_;refine ZQ ?_;refine Y' ?_;refine ZR ?_ ?_<;>intro hb14
 · (
 refine ZE ?_;refine Zf results176 rfl ?_;rw [hp,hs,Qa hb14])
 · (
 refine ZE ?_;refine Zm (
  ⟨k+1,oM,by rw [hp,hs,Qb (by simpa using hb14)]⟩
  ) (by dsimp only;omega) sB trivial))
 · (
 refine ZE ?_;refine Zf results176 rfl ?_;rw [hp,XU oM];rfl)
theorem Ze8 (a b:Flw):AF prog 142 [.agg (HI a), .agg (HI b)] (· =Zc (KN a b)):=by
 refine AF.b2 17 func142 rfl ntmps142 (Xa rfl) fun w0 M0 v0 v1 _ _=>?_
 refine Zh ?_
 refine ZV 2 3 fun h2=>?_;refine ZV 3 3 fun h3=>?_;refine ZB ?_
 refine We [] [2,3] ?_<;>refine xD 0 rfl (Zb 2 Gi) ?_<;>(refine yD 1 rfl (Ze 2 ZK) fun v6 h=>?_;cases h)<;>refine xD 2 rfl (Zb 3 Gi) ?_<;>(refine yD 3 rfl (Ze 3 ZK) fun v8 h=>?_;cases h)<;>refine xD 5 rfl (Zb 2 Gj) ?_<;>(refine yD 6 rfl (Ze 2 ZK) fun v11 h=>?_;cases h)<;>refine xD 7 rfl (Zb 3 Gj) ?_<;>(refine yD 8 rfl (Ze 3 ZK) fun v13 h=>?_;cases h)<;>(refine aDr 4 fun bk=>?_)<;>(refine cV (cA call53 (G7 a.src b.src)) ?_)<;>refine bE bk ?_<;>(refine aDr 9 fun bk=>?_)<;>(refine cV (cA call53 (G7 a.dst b.dst)) ?_)<;>refine bE bk ?_<;>(refine aDr 10 fun bk=>?_)<;>refine Ly (xs:=[_,_]) 15 WY fun h15 ho15=>?_<;>refine bE bk ?_<;>(refine aDr 11 fun bk=>?_)<;>(refine Zp (En.freeze (l:=15) (t:=15) rfl rfl) fun _=>?_;refine cV (cA call176 (Zoq [Z0 a.src b.src,Z0 a.dst b.dst])) ?_)<;>refine bE bk ?_<;>refine gEx 12 ?_<;>refine Kz ?_
 refine Zf results142 rfl ?_
 unfold KN Kp Kp Kp
 by_cases h:Z0 a.src b.src=0
 · rw [Qb h,Qb h];split<;>simp_all
 · rw [Qa h,Qa h]
theorem CI (n:Int):AF prog 205 [Zc n] (· =Zv (Kl n)):=by
 refine AF.b1 9 func205 rfl ntmps205 (Xa rfl) ?_
 rintro w0 M0 _ rfl
 refine YK ?_
 (refine Y' ?_<;>(refine bLd 5 (fun hb5=>?_) (fun hb5=>?_)<;>refine kZ ?_)<;>refine KL ?_)<;>(
 refine Zf results205 rfl (Re ?_);simp only [Kl,Xi,U8,true_iff,false_iff,VK]<;>omega)
theorem Zix (c:Cnt):AF prog 204 [.agg (HH c)] (· =Zv (!Kl c.n)):=by
 refine AF.b1 7 func204 rfl ntmps204 (Xa rfl) fun w0 M0 v0 _=>?_
 refine Zh ?_
 refine ZV 1 2 fun h1=>?_;refine ZQ ?_
 refine xM (Zb 1 ZbI) ?_;refine yV (Ze 1 ZM) ?_;refine cV (cA call205 (CI c.n)) ?_;refine YJ ?_
 exact Zf results204 rfl rfl
theorem S4 {g:Dfg} (h:LB (cnames g.acts)=false∨CF (cnames g.starts) (cnames g.acts)=false∨CF (cnames g.ends) (cnames g.acts)=false∨g.acts.all (fun c=>Kl c.n)=false∨g.starts.all (fun c=>Kl c.n)=false∨g.ends.all (fun c=>Kl c.n)=false∨g.follows.all (Rh (cnames g.acts))=false∨chainB flwLt g.follows=false):TV g=false:=by
 unfold TV
 rcases h with h|h|h|h|h|h|h|h<;>rw [h]<;>simp
theorem ZgK {α:Type} {p:α→Bool} {l:List α}:(l.any fun c=> !p c)= !l.all p:=by
 induction l with
 |nil=>rfl
 |cons x l ih=>rw [Ud,VU,ih,Bool.not_and]
theorem Zlg (g : Dfg) (hf:ZqO g) (ha:g.acts.length≤1000000) (hs:g.starts.length≤1000000) (he:g.ends.length≤1000000):AF prog 177 [GJ g] (· =Zv (TV g)):=by
 refine AF.b1 87 func177 rfl ntmps177 (Xa rfl) fun w0 M0 v0 _=>?_
 refine Zh ?_
 refine ZV 1 4 fun h1=>?_;refine ZQ ?_
 refine xM (Zb 1 LF) ?_;refine yU (Ze 1 KV) fun v9=>?_;refine cU (cA call200 (CG g.acts ha)) fun v10=>?_;refine ZQ ?_
 (refine Yv ?_ <;> (refine cV (cA call201 (Ze3 (cnames g.acts) (fun s hs=>by obtain ⟨c,hc,rfl⟩:=Xh.1 hs;exact (hf.1.2 c hc).1))) ?_)<;>refine YW ?_<;>(refine bL 14 (fun hb14=>?_) (fun hb14=>?_)<;>(first|refine kL ?_|refine xM (Zb 1 RL) ?_))<;>(first|refine kL ?_|refine yU (Ze 1 KV) fun v16=>?_)<;>(first|refine kL ?_|(refine cU (cA call200 (CG g.starts hs)) fun v17=>?_))<;>refine kZ ?_<;>(first|refine kL ?_|(refine cV (cA call202 (CH (cnames g.starts) (cnames g.acts))) ?_))<;>refine GI ?_<;>(first|refine kL ?_|(refine bL 22 (fun hb22=>?_) (fun hb22=>?_)<;>(first|refine kL ?_|refine xM (Zb 1 RN) ?_)))<;>(first|refine kL ?_|refine yU (Ze 1 KV) fun v24=>?_)<;>(first|refine kL ?_|(refine cU (cA call200 (CG g.ends he)) fun v25=>?_))<;>refine kZ ?_<;>(first|refine kL ?_|(refine cV (cA call202 (CH (cnames g.ends) (cnames g.acts))) ?_))<;>refine Wz ?_)<;>(
 refine cX ?_ ?_<;>intro hb29
 · (
 refine ZI ?_;refine Zf results177 rfl ?_
 first
  |rw [S4 (.inl (by simpa using hb14))]
  |rw [S4 (.inr (.inl (by simpa using hb22)))]
  |rw [S4 (.inr (.inr (.inl (by simpa using hb29))))])
 · first | exact bN hb29|(
 refine Zh ?_;refine xM (Zb 1 LF) ?_;refine yU (Ze 1 KV) fun v31=>?_;refine xM (Zb 1 RL) ?_;refine yU (Ze 1 KV) fun v33=>?_;refine xM (Zb 1 RN) ?_;refine yU (Ze 1 KV) fun v35=>?_;refine Ly (xs:=[_,_,_]) 36 Ze6 fun h36 ho36=>?_;refine xL 37 (WQ 36 CC) (xL 38 Za ?_);refine ZF ?_;(have h1:LB (cnames g.acts)=true:=by simpa using hb14);(have h2:CF (cnames g.starts) (cnames g.acts)=true:=by simpa using hb22);(have h3:CF (cnames g.ends) (cnames g.acts)=true:=by simpa using hb29);refine Yd (ι:={k:Nat//k≤3∧∀j x,j<k→[g.acts,g.starts,g.ends][j]? =some x→x.all (fun c=>Kl c.n)=true}) (fun k=>⟨[(1,_,_),(3,_,_),(36,_,_),(37,_,_),(38, .int .i64 k.1,Zc k.1)],[(1,_,_),(36,_,_)]⟩) (fun k=>3-k.1) ⟨0,oM,oM⟩ ?_;rintro ⟨k,hk,hp⟩;dsimp only;refine Ys ?_ ?_<;>intro hb39
 · (
 obtain ⟨x,hx⟩:=get_some (l:=[g.acts,g.starts,g.ends]) (i:=k) (by show k<3;omega);have e1:([LX g.acts,LX g.starts,LX g.ends]:List PV)[k*1]? =some (LX x):=Z8 (f:=LX) hx;refine Zh ?_;refine xM (Zo 36 CC) ?_;refine yU (Ze 36 KV) fun v41=>?_;refine LA ?_;refine cV (cA call203 (OG 204 [] (fun c=> !Kl c.n) x (call204) (fun c _=>Zix c))) ?_;refine ZR ?_ ?_<;>intro hb43
 · (
 refine ZI ?_;refine Zf results177 rfl ?_;rw [ZgK,UQ] at hb43;match k,hk,hx with
 |0,_,hx=>cases hx;rw [S4 (.inr (.inr (.inr (.inl hb43))))]
 |1,_,hx=>cases hx;rw [S4 (.inr (.inr (.inr (.inr (.inl hb43)))))]
 |2,_,hx=>cases hx;rw [S4 (.inr (.inr (.inr (.inr (.inr (.inl hb43))))))]
 |k+3,hk,hx=>omega)
 · (
 refine ZE ?_;refine Yh (
  ⟨k+1,oM,fun j z hj hz=>by
   by_cases e:j=k
   · subst e;rw [hx] at hz;cases hz;rw [ZgK] at hb43;simpa using hb43
   · exact hp j z oM hz⟩
  )))
 · (
 refine Zh ?_;refine xM (Zb 1 Gh) ?_;refine yU (Ze 1 T') fun v46=>?_;refine xL 47 (Zy Rf) (xL 48 Za ?_);refine ZF ?_;obtain rfl:k=3:=oM;have h4:=hp 0 g.acts oM rfl;have h5:=hp 1 g.starts oM rfl;have h6:=hp 2 g.ends oM rfl;clear hp;refine Yd (ι:={k:Nat//k≤g.follows.length∧∀j x,j<k→g.follows[j]? =some x→Rh (cnames g.acts) x=true∧∀y,1≤j→g.follows[j-1]? =some y→flwLt y x=true}) (fun k=>⟨[(1,_,_),(3,_,_),(46,_,_),(47,_,_),(48, .int .i64 k.1,Zc k.1)],[(1,_,_)]⟩) (fun k=>g.follows.length-k.1) ⟨0,oM,oM⟩ ?_;rintro ⟨k,hk,hp⟩;dsimp only;refine Ys ?_ ?_<;>intro hb49
 · (
 obtain ⟨x,hx⟩:=gS g.follows k;obtain ⟨y,hy⟩:=gS g.follows (k-1);have e1:=Yu Sm g.follows k x hx;have e2:=Y9 Sm hx;(have e3:((g.follows.flatMap HI).drop (((k:Int)-1).toNat*3)).take 3=HI y:=by rw [show ((k:Int)-1).toNat*3=(k-1)*3 by omega];exact Yu Sm g.follows (k-1) y hy);have e4:=Y9 Sm hy;have hlf:=hf.2.2.2.1;refine Zh ?_;refine xL 50 Za (xL 51 (Zg Rf) ?_);refine yU (YD G8) fun v52=>?_;refine Zx [(.string ByteArray.empty),(.string ByteArray.empty),(.int .i64 0)] 3 7 CE fun h7=>?_;refine Yv ?_;refine Zu 7 G8 ?_;refine ZF ?_;(refine We [] [1,7] ?_<;>refine xE 0 rfl (Zb 7 ZbJ) ?_<;>(refine yE 1 rfl (Ze 7 ZM) fun v54 h=>?_;cases h)<;>(refine aDr 2 fun bk=>?_)<;>(refine cV (cA call205 (CI x.n)) ?_)<;>refine bE bk ?_<;>refine gEx 3 ?_<;>refine gEx 4 ?_<;>(refine bD 57 (fun hb57=>?_) (fun hb57=>?_)<;>(first|refine kD 5 ?_|refine gDx 5 ?_))<;>(first|refine kD 6 ?_|refine gDx 6 ?_)<;>(first|refine kD 7 ?_|refine gDx 7 ?_)<;>(first|refine kD 8 ?_|(refine bDd 60 (fun hb60=>?_) (fun hb60=>?_)<;>(first|refine kD 8 ?_|refine xD 8 rfl (Zb 1 Gh) ?_)))<;>(first|refine kD 9 ?_|(refine yD 9 rfl (Ze 1 T') fun v62 h=>?_;cases h))<;>(first|refine kD 10 ?_|refine gDx 10 ?_)<;>(first|refine kD 11 ?_|refine gDx 11 ?_)<;>(first|refine kD 12 ?_|refine xD 12 rfl (OJ Rf) ?_)<;>(first|refine kD 13 ?_|(refine yD 13 rfl (YD G8) fun v66 h=>?_;cases h))<;>(first|refine kD 14 ?_|(refine yD 14 rfl (Zj 7 G8) fun v67 h=>?_;cases h))<;>(refine aDr 15 fun bk=>?_)<;>(first|refine kL ?_|(refine cV (cA call142 (Ze8 y x)) ?_))<;>refine bE bk ?_<;>(first|refine kD 16 ?_|refine gDx 16 ?_)<;>(first|refine kD 17 ?_|refine gDx 17 ?_)<;>refine gEx 18 ?_<;>refine gEx 19 ?_<;>(first|refine kD 20 ?_|refine gDx 20 ?_|(refine bDd 72 (fun hb72=>?_) (fun hb72=>?_)<;>(first|refine kD 20 ?_|refine gDx 20 ?_)))<;>(first|refine kD 21 ?_|refine xD 21 rfl (Zb 7 Gi) ?_)<;>(first|refine kD 22 ?_|(refine yD 22 rfl (Ze 7 ZK) fun v75 h=>?_;cases h))<;>(refine aDr 23 fun bk=>?_)<;>(first|refine kL ?_|(refine cV (cA call48 (LC (cnames g.acts) x.src)) ?_))<;>refine bE bk ?_<;>(first|refine kD 24 ?_|refine gDx 24 ?_)<;>refine gEx 25 ?_<;>refine gEx 26 ?_<;>(first|refine kD 27 ?_|(refine bD 79 (fun hb79=>?_) (fun hb79=>?_)<;>(first|refine kD 27 ?_|refine gDx 27 ?_)))<;>(first|refine kD 28 ?_|refine xD 28 rfl (Zb 7 Gj) ?_)<;>(first|refine kD 29 ?_|(refine yD 29 rfl (Ze 7 ZK) fun v82 h=>?_;cases h))<;>(refine aDr 30 fun bk=>?_)<;>(first|refine kL ?_|(refine cV (cA call48 (LC (cnames g.acts) x.dst)) ?_))<;>refine bE bk ?_<;>(first|refine kD 31 ?_|refine gDx 31 ?_)<;>refine gEx 32 ?_<;>refine Kz ?_)<;>(
 refine cX ?_ ?_<;>intro hb85
 · (
 refine ZI ?_;refine Zf results177 rfl ?_
 first
  |rw [S4 (.inr (.inr (.inr (.inr (.inr (.inr (.inl (PC hx (show Rh (cnames g.acts) x=false by unfold Rh;rw [show Kl x.n=false by simpa using hb57];rfl)))))))))]
  |rw [S4 (.inr (.inr (.inr (.inr (.inr (.inr (.inr (Pq oM hy hx (show flwLt y x=false from U' oM)))))))))]
  |rw [S4 (.inr (.inr (.inr (.inr (.inr (.inr (.inl (PC hx (show Rh (cnames g.acts) x=false by unfold Rh;rw [show hasStr (cnames g.acts) x.src=false by simpa using hb79];simp)))))))))]
  |rw [S4 (.inr (.inr (.inr (.inr (.inr (.inr (.inl (PC hx (show Rh (cnames g.acts) x=false by unfold Rh;rw [show hasStr (cnames g.acts) x.dst=false by simpa using hb85];simp)))))))))])
 · first |exact bN hb85|(
 refine ZE ?_;refine Yh (
  ⟨k +1,oM,fun j z hj hz=>by
   by_cases e:j=k
   · subst e;rw [hx] at hz;cases hz;refine ⟨by unfold Rh;rw [show Kl x.n=true by simpa using hb57,show hasStr (cnames g.acts) x.src=true by simpa using hb79,show hasStr (cnames g.acts) x.dst=true by simpa using hb85];rfl,fun y' h1 hy'=>?_⟩;rw [hy] at hy';cases hy'
     first|omega|exact U9 oM
   · exact hp j z oM hz⟩
  ))))
 · (
 refine ZI ?_;refine Zf results177 rfl ?_;have h7:g.follows.all (Rh (cnames g.acts))=true:=ZbH fun j x hj=>(hp j x (by have:=Zd hj;omega) hj).1;have h8:chainB flwLt g.follows=true:=Rz fun j x y h1 hy hx=>(hp j x (by have:=Zd hx;omega) hx).2 y h1 hy;unfold TV;rw [h1,h2,h3,h4,h5,h6,h7,h8];rfl))))
end Go.Proofs.YteiincihiagidaaGreat
namespace Go.Cb
open Go.RowKit
end Go.Cb
