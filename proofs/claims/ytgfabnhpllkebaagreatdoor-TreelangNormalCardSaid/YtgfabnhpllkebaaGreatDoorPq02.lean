/-
  The engine, eleventh part: more readers; how plain data read. No program in sight.
  The engine, twelfth part: maps. No program in sight.
  The engine, thirteenth part: a region that draws its order. No program in sight.
  The engine, fourteenth part: labels renamed; nil in cells; make of structs. No program in sight.
  The engine's rules in short forms. No program in sight.
  The engine: rows of owned rows as a family; nil checks; pointers that are shared from now on; three writers at once. No program in sight.
  The engine: results that lie in cells. No program in sight.
  Walks: names, alphabets; searching lists of strings (package name, the reference's layer 2, package slices).
  Owned slices, more: a middle part, a store, make. No program in sight.
  Maps from strings to numbers, read as functions. No program in sight.
  Plain functions, more: the parts of a cut as a map. No program in sight.
  Plain laws: words in order; variants counted by first occurrence, then sorted, are those added in order. No program in sight.
  Plain: process trees: their order, valid ones, normal forms. No program in sight.
  Walks: slices.IndexFunc, slices.ContainsFunc, at the element types of the program.
  Walks: lists of variants: which are valid, which are the same; what is small enough for the laws of the cut chapter.
-/
import Derived.KernelRfl
import Derived.Test.YtgfabnhpllkebaaGreatDoorProg
import Derived.Maps.Own
import Derived.Maps.OwnOps
import Derived.Maps.OwnSet
import Derived.StringKeys
import Derived.Test.YtgfabnhpllkebaaGreatDoorPq01
namespace Go.En
open Go.RowKit Go.Cb
set_option linter.all false
section
variable {P:Program} {c:Ctx} {sL hP:List (Nat×Ent)} {o:Oper}
theorem Zr9 {t k j:Nat} {x:Operand} {v:Value} {cs ps:List PV} (hT:AggT P t k=true) (ho:o.op= .load t x) (hx:ev sL x=some (v, .sptr j cs)) (hp:j+k≤cs.length) (hps:(cs.drop j).take k=ps):YE P (⟨sL,hP⟩:St) o (fun _=>True) (.agg ps):=hps▸ZuM hT ho hx hp
theorem Zsa {t k j e k' n:Nat} {x:Operand} {h:Value} {q:PV} {cs ps:List PV} (l:Nat) (hT:AggT P t k=true) (ho:o.op= .load t x) (hx:ev sL x=some (padd (sbase h) j,q)) (hl:lk hP l=some (h, .own e k' n cs)) (hp:j+k≤cs.length) (hk:0<k) (hps:(cs.drop j).take k=ps) (hsh:ps.all isSh=true):YE P (⟨sL,hP⟩:St) o (fun _=>True) (.agg ps):=by
 subst hps;exact ZuN l hT ho hx hl hp hsh hk
theorem ZCG {f:Nat} {caps:Array Operand} {es:List Ent} (ho:o.op= .makeFunc (.func f) #[] caps) (hx:evL sL caps.toList=some es):YE P (⟨sL,hP⟩:St) o (· = .func (.func f) #[] (es.map (·.1)).toArray) (.fn f (es.map (·.2))):=
 .exact fun M F a w H=>by
  obtain ⟨h1,h2⟩:=ZdV H hx;refine ⟨.fn f _ _ (by rw [Xf,Xf]) h2,?_⟩;have:caps.map a.eval=(es.map (·.1)).toArray:=by rw [←h1,←VH,Vz]
  simp [execOp,ho,Instr.makeFunc,this]
end
theorem Zb9 {P:Program} {c:Ctx} {sL hP:List (Nat×Ent)} {Q:Exit→Act→World→Prop} {x:Code} {n:Nat} {v:Value} {cs:List PV} (t:Nat) (ht:lk sL t=some (v, .sl n cs)) (k:n≤9223372036854775807→aC P c x Q (⟨sL,hP⟩:St)):aC P c x Q (⟨sL,hP⟩:St):=fun a w H=>by
 obtain ⟨F,H'⟩:=id H
 have h1:=(H'.sl t _ _ ht).2
 have:n≤9223372036854775807:=by
  cases h1 with
  |emp=>omega
  |sl b off n c cs vs hn hc=>unfold maxLen at hc;omega
 exact k this a w H
abbrev pInt (n:Int):PV:= .val (.int .i64 n)
abbrev Zab (s:ByteArray):PV:= .val (.string s)
abbrev ζV (b:Bool):PV:= .val (.bool b)
def ZaY (l:List ByteArray):PV:= .sl l.length (l.map Zab)
def Zi9 (l:List (List ByteArray)):PV:= .sl l.length (l.map ZaY)
def pInts (l:List Int):PV:= .sl l.length (l.map pInt)
theorem Zas {α β:Type} {f:α→β} {l:List α} {i:Nat} {x:α} (h:l[i]? =some x):(l.map f)[i*1]? =some (f x):=by rw [Xx,Xm,h];rfl
theorem flat_len {α β:Type} {f:α→List β} {k:Nat} (hf:∀x,(f x).length=k):∀l:List α,(l.flatMap f).length=l.length*k
 |[]=>by simp
 |x::l=>by rw [Xr,Xc,hf,flat_len hf l,Xj,X9];omega
theorem Zaq {α β:Type} {f:α→List β} {k:Nat} (hf:∀x,(f x).length=k):∀(l:List α) (i:Nat) (x:α),l[i]? =some x→((l.flatMap f).drop (i*k)).take k=f x
 |[],i,x,h=>by simp at h
 | y::l,0,x,h=>by
   simp at h;subst h;rw [X4,VQ,Xr,Ut (by rw [hf];exact Xd _),Xo (by rw [hf];exact Xd _)]
 | y::l,i+1,x,h=>by
   rw [Xr,X9,Nat.one_mul,Nat.add_comm,←List.drop_drop,List.drop_append_of_le_length (by rw [hf];exact Xd _),show (f y).drop k=[] from List.drop_of_length_le (by rw [hf];exact Xd _),Vy];exact Zaq hf l i x (by simpa using h)
theorem ZfW {α β:Type} {f:α→List β} {k:Nat} (hf:∀x,(f x).length=k) {l:List α} {i:Nat} {x:α} (h:l[i]? =some x) {j:Nat} (hj:j<k):(l.flatMap f)[i*k+j]? =(f x)[j]? :=by
 rw [←Zaq hf l i x h,XZ hj,Vv]
theorem ZaP {α β:Type} {f:α→List β} {k:Nat} (hf:∀x,(f x).length=k) {l:List α} {i:Nat} {x:α} (h:l[i]? =some x):i*k+k≤(l.flatMap f).length:=by
 rw [flat_len hf]
 have:=ζg h
 have h1:(i+1)*k≤l.length*k:=X' k this
 rw [X9,Nat.one_mul] at h1
 exact h1
theorem Zco {α:Type} {l:List α} (h:l.length=1):∃a,l=[a]:=by
 match l,h with
 |[a],_=>exact ⟨a,rfl⟩
theorem Zbl {α:Type} {l:List α} (h:l.length=2):∃a b,l=[a,b]:=by
 match l,h with
 |[a,b],_=>exact ⟨a,b,rfl⟩
theorem ZgF {α:Type} {l:List α} (h:l.length=3):∃a b d,l=[a,b,d]:=by
 match l,h with
 |[a,b,d],_=>exact ⟨a,b,d,rfl⟩
def keq:Value→Value→Bool
 | .string a, .string b=>a==b
 | .int k a, .int k' b=>decide (k=k')&&a==b
 | .bool a, .bool b=>a==b
 |_,_=>false
theorem Zsb {a b:ByteArray}:(a==b)=true↔a=b:=by
 obtain ⟨a⟩:=a
 obtain ⟨b⟩:=b
 rw [show ((⟨a⟩:ByteArray)==⟨b⟩)=(a==b) from rfl]
 simp
theorem Zz6 {a b:Value} (h:keq a b=true):keq b a=true:=by
 cases a<;>cases b<;>simp_all [keq,Zsb]
def kok (kd:TypeDesc) (k:Value) (kv:List (Value×Value)):Prop:=∀x∈kv,Instr.sameNow kd k x.1=some (keq k x.1)
def Zca:List (Value×Value)→Value→Option Value
 |[],_=>none
 |x::l,k=>if keq k x.1 then some x.2 else Zca l k
def Zdn:List (Value×Value)→Value→Value→List (Value×Value)
 |[],k,v=>[(k,v)]
 |x::l,k,v=>if keq k x.1 then (k,v)::l else x::Zdn l k v
def Zec:List (Value×Value)→Value→Option Nat
 |[],_=>none
 |x::l,k=>if keq k x.1 then some 0 else (Zec l k).map (· +1)
theorem Zih {kd:TypeDesc} {k:Value}:∀(l:List MapEntry) (i:Nat),kok kd k (l.map fun x=>(x.key,x.val))→
 Instr.findNow kd k l i=some (match Zec (l.map fun x=>(x.key,x.val)) k,Zca (l.map fun x=>(x.key,x.val)) k with|some j,some v=>some (i+j,v)|_,_=>none)∧((Zec (l.map fun x=>(x.key,x.val)) k).isSome=(Zca (l.map fun x=>(x.key,x.val)) k).isSome)
 |[],i,_=>⟨rfl,rfl⟩
 | e :: l,i,h=>by
   have h0:=h (e.key,e.val) (by simp);obtain ⟨h1,h2⟩:=Zih l (i+1) (fun x hx=>h x (by simp at hx ⊢;exact .inr hx));simp only at h0;simp only [Instr.findNow,h0,Xq,Zec,Zca]
   cases hk:keq k e.key
   · simp only [V3,if_false];rw [h1]
     cases hm:Zec (l.map fun x=>(x.key,x.val)) k with
     | none=>
       rw [hm] at h2
       cases hg:Zca (l.map fun x=>(x.key,x.val)) k with
       |none=>simp
       |some v=>rw [hg] at h2;simp at h2
     | some j=>
       rw [hm] at h2
       cases hg:Zca (l.map fun x=>(x.key,x.val)) k with
       |none=>rw [hg] at h2;simp at h2
       |some v=>simp;omega
   · simp
structure MpT (P:Program) (t ks e:Nat) (kd:TypeDesc) (z:Value):Prop where
 ht:P.underlying t=some (.map ks e)
 hk:P.underlying ks=some kd
 hkd:kd= .string∨∃k,kd= .int k
 hz:ZeroT P e z
section
variable {P:Program} {c:Ctx} {ops:Array Oper} {Q:Exit→Act→World→Prop} {rest:List Oper} {sL hP:List (Nat×Ent)} {o:Oper}
theorem Zdo {ks:Nat} {kd:TypeDesc} (hk:P.underlying ks=some kd) (hkd:kd= .string∨∃k,kd= .int k) (b:Bool) (v:Value) (w:World):(Instr.checkKey b 10000 ks v).run P w= .ok () w:=by
 rw [show (10000:Nat)=9999+1 from rfl,Instr.checkKey]
 rcases hkd with rfl|⟨k,rfl⟩<;>simp [run_underlying hk]
theorem Zcu {ks:Nat} {kd:TypeDesc} (hk:P.underlying ks=some kd) {k:Value} {es:Array MapEntry} (h:kok kd k (kvOf es)) (w:World):(Instr.findKey ks k es.toList).run P w= .ok (match Zec (kvOf es) k,Zca (kvOf es) k with|some j,some v=>some (j,v)|_,_=>none) w:=by
 obtain ⟨h1,_⟩:=Zih es.toList 0 h
 unfold Instr.findKey
 simp only [Sem.run_bind,run_underlying hk,Result.andThen_ok,h1,Xw]
 rfl
theorem Zoi (kv:List (Value×Value)) (k:Value):(Zec kv k).isSome=(Zca kv k).isSome:=by
 induction kv with
 |nil=>rfl
 | cons x l ih=>
   simp only [Zec,Zca];split
   · rfl
   · simpa using ih
theorem ZkX {t ks e:Nat} {kd:TypeDesc} {z:Value} (hT:MpT P t ks e kd z) {b clock:Nat} {es:Array MapEntry} {k:Value} (hb:Bool) {w:World} (h:w.heap[b]? =some (.map es clock)) (hk:kok kd k (kvOf es)):
 (Instr.lookup t (.map (some b)) k hb).run P w= .ok (if hb then .tuple #[(Zca (kvOf es) k).getD z, .bool (Zca (kvOf es) k).isSome] else (Zca (kvOf es) k).getD z) w:=by
 have hm:=Zoi (kvOf es) k
 unfold Instr.lookup
 simp only [Sem.run_bind,run_underlying hT.ht,Result.andThen_ok,getObj,Sem.run,h,Zdo hT.hk hT.hkd,Zcu hT.hk hk]
 cases h1:Zec (kvOf es) k with
 | none=>
   rw [h1] at hm
   cases h2:Zca (kvOf es) k with
   |none=>cases hb<;>simp [Zcu hT.hk hk,h1,h2,ZeroT.run hT.hz]
   |some v=>rw [h2] at hm;simp at hm
 | some j=>
   rw [h1] at hm
   cases h2:Zca (kvOf es) k with
   |none=>rw [h2] at hm;simp at hm
   |some v=>cases hb<;>simp [Zcu hT.hk hk,h1,h2]
theorem Tr.map {M:BS} {w:World} {m:Value} {kv:List (Value×Value)} {F:BS} (h:Tr M w m (.omap kv) F):∃b es clock,m= .map (some b)∧kv=kvOf es∧w.heap[b]? =some (.map es clock)∧∀x,F x↔x=b:=by
 cases h with
 |shr h _=>cases h
 |omap b es clock h hF=>exact ⟨b,es,clock,rfl,rfl,h,hF⟩
theorem ZwK {t ks e:Nat} {kd:TypeDesc} {z:Value} {x y:Operand} {m k:Value} {kv:List (Value×Value)} {p q:PV} (l:Nat) (hT:MpT P t ks e kd z) (ho:o.op= .lookup t x y false) (hx:ev sL x=some (m,p)) (hl:lk hP l=some (m, .omap kv)) (hy:ev sL y=some (k,q)) (hk:kok kd k kv):
 YE P (⟨sL,hP⟩:St) o (· =(Zca kv k).getD z) (.val ((Zca kv k).getD z)):= .exact fun M F a w H=>by
 have hv:=(H.ev hx).1
 have hkv:=(H.ev hy).1
 obtain ⟨b,es,clock,rfl,rfl,h,_⟩:=(H.tr l _ _ hl).map
 exact ⟨.val _,by simp [execOp,ho,hv,hkv,ZkX hT false h hk]⟩
theorem ZuT {t ks e:Nat} {kd:TypeDesc} {z:Value} {x y:Operand} {m k:Value} {kv:List (Value×Value)} {p q:PV} (l:Nat) (hT:MpT P t ks e kd z) (ho:o.op= .lookup t x y true) (hx:ev sL x=some (m,p)) (hl:lk hP l=some (m, .omap kv)) (hy:ev sL y=some (k,q)) (hk:kok kd k kv):
 YE P (⟨sL,hP⟩:St) o (· = .tuple [(Zca kv k).getD z, .bool (Zca kv k).isSome].toArray) (.tup [.val ((Zca kv k).getD z), .val (.bool (Zca kv k).isSome)]):= .exact fun M F a w H=>by
 have hv:=(H.ev hx).1
 have hkv:=(H.ev hy).1
 obtain ⟨b,es,clock,rfl,rfl,h,_⟩:=(H.tr l _ _ hl).map
 refine ⟨.tup _ _ rfl fun i x p hx hp=>?_,by simp [execOp,ho,hv,hkv,ZkX hT true h hk]⟩
 match i with
 |0=>simp at hx hp;subst hx hp;exact .val _
 |1=>simp at hx hp;subst hx hp;exact .val _
 |i+2=>simp at hx
theorem ZuU {t ks e:Nat} {kd:TypeDesc} {z u:Value} {x y:Operand} {m k:Value} {kv:List (Value×Value)} {p q:PV} (l:Nat) (hT:MpT P t ks e kd z) (ho:o.op= .lookup t x y false) (hx:ev sL x=some (m,p)) (hl:lk hP l=some (m, .omap kv)) (hy:ev sL y=some (k,q)) (hk:kok kd k kv) (hu:(Zca kv k).getD z=u):
 YE P (⟨sL,hP⟩:St) o (· =u) (.val u):=hu▸ZwK l hT ho hx hl hy hk
theorem Tr.mapW {M:BS} {w:World} {m:Value} {kv:List (Value×Value)} {F:BS} (h:Tr M w m (.omap kv) F):∃b es clock,m= .map (some b)∧kv=kvOf es∧w.heap[b]? =some (.map es clock)∧(∀x,F x↔x=b)∧WfM es clock:=by
 cases h with
 |shr h _=>cases h
 |omap b es clock h hF hW=>exact ⟨b,es,clock,rfl,rfl,h,hF,hW⟩
theorem Zkz {es:Array MapEntry} {clock:Nat} {k v:Value} (h:WfM es clock):WfM (es.push {key:=k,val:=v,born:=clock}) (clock+1):=by
 refine ⟨fun x hx=>?_,?_⟩
 · rw [Array.toList_push,Xs,Xi] at hx;rcases hx with hx|rfl
   · have:=h.1 x hx;omega
   · exact Nat.lt_succ_self _
 · rw [Array.toList_push,Xy,VB];refine ⟨h.2,by simp,fun a ha b hb=>?_⟩;rw [Xq,X8,Xi] at hb;obtain ⟨x,hx,rfl⟩:=Xh.1 ha;have:=h.1 x hx;dsimp only at hb;omega
theorem ZmT {es:Array MapEntry} {clock j:Nat} (f:MapEntry→MapEntry) (hf:∀e,(f e).born=e.born) (h:WfM es clock):WfM (es.modify j f) clock:=by
 have e:(es.modify j f).toList.map (·.born)=es.toList.map (·.born):=by
  rw [Array.toList_modify];have:∀(l:List MapEntry) (j:Nat),(l.modify j f).map (·.born)=l.map (·.born):=fun l=>by
   induction l with
   |nil=>intro j;simp
   | cons a l ih=>intro j;cases j with
     |zero=>simp [hf]
     |succ j=>rw [List.modify_succ_cons,Xq,Xq,ih]
  exact this _ _
 refine ⟨fun x hx=>?_,e▸h.2⟩
 have h1:x.born∈es.toList.map (·.born):=e▸Xh.2 ⟨x,hx,rfl⟩
 obtain ⟨y,hy,hxy⟩:=Xh.1 h1
 have:=h.1 y hy
 omega
theorem ZkY (es:Array MapEntry):(kvOf es).length=es.size:=by simp [kvOf]
theorem ZwL {t ks e:Nat} {x:Operand} {m:Value} {kv:List (Value×Value)} {p:PV} (l:Nat) (ht:P.underlying t=some (.map ks e)) (ho:o.op= .call {callee:= .builtin .len,args:= #[x],argTypes:= #[t]}) (hx:ev sL x=some (m,p)) (hl:lk hP l=some (m, .omap kv)):YE P (⟨sL,hP⟩:St) o (· = .int .i64 kv.length) (.val (.int .i64 kv.length)):= .exact fun M F a w H=>by
 have hv:=(H.ev hx).1
 obtain ⟨b,es,clock,rfl,rfl,h,_⟩:=(H.tr l _ _ hl).map
 exact ⟨.val _,by simp [execOp,ho,hv,resolve,invoke,builtin,Builtin.len_,run_underlying ht,getObj,Sem.run,h,goInt,ZkY]⟩
theorem ZwM {t:Nat} (d:Nat) (hw:ζZ ops sL o=some true) (hd:o.dst=some d) (hn:d<c.nt) (ho:o.op= .makeMap t none) (hl:lk hP d=none)
 (k:∀m:Value,m.oneCell'=true→aL P c ops Q rest ⟨put d (m, .val m) sL,put d (m, .omap []) hP⟩):aL P c ops Q (o::rest) (⟨sL,hP⟩:St):=
 ZaG hw fun a w F H=>by
  have key:HoldsF c ⟨put d (.map (some w.heap.size), .val (.map (some w.heap.size))) sL,put d (.map (some w.heap.size), .omap []) hP⟩ (fun l'=>if l'=d then (fun b=>b=w.heap.size) else F l') (a.put (some d) (.map (some w.heap.size))) (w.alloc (.map #[] 0)):=by
   refine H.change (fun l'=>l'=d) hn ((Ext.alloc _ _).chg) (fun l' x hne hx'=>?_) (fun l' x b hT hx' hb=>?_) (fun hm l' u q hT hx'=>?_) (fun l1 l2 _ _ _ h1 h2 hne=>absurd (h1.trans h2.symm) hne) (fun hm=> .val _)
   · rcases Zak hx' with ⟨e1,_⟩|⟨_,e1⟩
     · exact absurd e1.symm hne
     · exact ⟨e1,by simp [hne]⟩
   · subst hT;simp only [if_true] at hb;exact .inr (by rw [hb];exact Xd _)
   · subst hT;rw [ζ9] at hx'
     cases hx';simp only [if_true];refine .omap w.heap.size #[] 0 ?_ (fun x=>Iff.rfl) ⟨by simp,by simp⟩;show (w.heap.push _)[w.heap.size]? =_;simp
  unfold Oper.wp execOp;simp [ho,Instr.makeMap,newObj,Sem.run,hd,Oper.upon];exact k _ rfl _ _ ⟨_,key⟩
theorem ZmU {es:Array MapEntry} {k v:Value}:∀{j:Nat},Zec (kvOf es) k=some j→kvOf (es.modify j fun e=>{e with key:=k,val:=v})=Zdn (kvOf es) k v:=by
 have key:∀(l:List MapEntry) (j:Nat),Zec (l.map fun x=>(x.key,x.val)) k=some j→(l.modify j fun e=>{e with key:=k,val:=v}).map (fun x=>(x.key,x.val))=Zdn (l.map fun x=>(x.key,x.val)) k v:=by
  intro l;induction l with
  |nil=>intro j h;simp [Zec] at h
  | cons e l ih=>
    intro j h;simp only [Xq,Zec] at h;simp only [Xq,Zdn];split at h
    · rename_i hk
      cases h;simp [hk]
    · rename_i hk;rw [XC] at h;obtain ⟨j',h1,rfl⟩:=h;rw [if_neg hk,List.modify_succ_cons,Xq,ih j' h1]
 intro j h
 unfold kvOf at h ⊢
 rw [Array.toList_modify]
 exact key _ j h
theorem ZtB {es:Array MapEntry} {k v:Value} {clock:Nat} (h:Zec (kvOf es) k=none):kvOf (es.push {key:=k,val:=v,born:=clock})=Zdn (kvOf es) k v:=by
 have key:∀kv:List (Value×Value),Zec kv k=none→kv++[(k,v)]=Zdn kv k v:=by
  intro kv;induction kv with
  |nil=>intro _;rfl
  | cons x l ih=>
    intro h;simp only [Zec] at h;split at h
    · cases h
    · rename_i hk;rw [Option.map_eq_none_iff] at h;rw [Zdn,if_neg hk,X1,ih h]
 rw [←key _ h]
 simp [kvOf]
def bits:Value→Bool
 | .string _| .int _ _| .bool _=>true
 |_=>false
theorem ZmV {a b:Value} (hb:bits a=true) (h:keq b a=true):Instr.sameBits 10000 a b=true:=by
 have h:=Zz6 h
 cases a<;>cases b<;>simp_all [keq,bits,Instr.sameBits]
theorem Zz7 {t ks e:Nat} {kd:TypeDesc} {z:Value} {x y u:Operand} {m k v:Value} {kv:List (Value×Value)} {p q r:PV} (l:Nat) (hw:ζZ ops sL o=some true) (hd:o.dst=none) (hT:MpT P t ks e kd z) (ho:o.op= .mapUpdate t x y u) (hx:ev sL x=some (m,p)) (hl:lk hP l=some (m, .omap kv)) (hy:ev sL y=some (k,q)) (hu:ev sL u=some (v,r)) (hk:kok kd k kv) (hbits:bits k=true)
 (kk:aL P c ops Q rest ⟨sL,put l (m, .omap (Zdn kv k v)) hP⟩):aL P c ops Q (o::rest) (⟨sL,hP⟩:St):=
 ZaG hw fun a w F H=>by
  have hxv:=(H.rd.ev hx).1;have hyv:=(H.rd.ev hy).1;have huv:=(H.rd.ev hu).1;obtain ⟨b,es,clock,rfl,rfl,hb,hFb,hWf⟩:=(H.tr l _ _ hl).mapW;have hm:=Zoi (kvOf es) k;have main:∀(es':Array MapEntry) (clock':Nat),WfM es' clock'→kvOf es'=Zdn (kvOf es) k v→Holds c ⟨sL,put l (.map (some b), .omap (Zdn (kvOf es) k v)) hP⟩ a {w with heap:=w.heap.setIfInBounds b (.map es' clock')}:=fun es' clock' hW' he=>by
   have hlt:=Za8 hb;have hch:Chg (fun x=>x=b) w {w with heap:=w.heap.setIfInBounds b (.map es' clock')}:=⟨rfl,rfl,rfl,by simp,fun i hi hne=>by
    rw [Uu (fun e=>hne e.symm)]⟩
   refine ⟨F,H.change0 (fun l'=>l'=l) (hch.wid fun x hx=> .inl ⟨l,_,rfl,hl,(hFb x).2 hx⟩) (fun l' x hne hx'=>?_) (fun l' x b' hT' hx' hb'=>?_) (fun hmm l' u q hT' hx'=>?_) (fun l1 l2 _ _ _ h1 h2 hne=>absurd (h1.trans h2.symm) hne)⟩
   · rcases Zak hx' with ⟨e1,_⟩|⟨_,e1⟩
     · exact absurd e1.symm hne
     · exact ⟨e1,rfl⟩
   · subst hT';exact .inl ⟨l',_,rfl,hl,hb'⟩
   · subst hT';rw [ζ9] at hx'
     cases hx';rw [←he];exact .omap b es' clock' (by simp [hlt]) hFb hW'
  unfold Oper.wp execOp
  cases h1:Zec (kvOf es) k with
  | none=>
    rw [h1] at hm
    cases h2:Zca (kvOf es) k with
    |some v=>rw [h2] at hm;simp at hm
    | none=>
      simp [ho,hxv,hyv,huv,Instr.mapUpdate,run_underlying hT.ht,getObj,setObj,Sem.run,hb,Zdo hT.hk hT.hkd,Zcu hT.hk hk,h1,h2,Oper.upon,hd,Act.put];exact kk _ _ (main _ _ (Zkz hWf) (ZtB h1))
  | some j =>
    rw [h1] at hm
    cases h2:Zca (kvOf es) k with
    |none=>rw [h2] at hm;simp at hm
    | some v0=>
      have hj:∃e0,es[j]? =some e0∧keq k e0.key=true:=by
       have key:∀(l:List MapEntry) (j:Nat),Zec (l.map fun x=>(x.key,x.val)) k=some j→∃e0,l[j]? =some e0∧keq k e0.key=true:=by
        intro l;induction l with
        |nil=>intro j h;simp [Zec] at h
        | cons e l ih=>
          intro j h;simp only [Xq,Zec] at h;split at h
          · rename_i hk;cases h;exact ⟨e,rfl,hk⟩
          · rw [XC] at h;obtain ⟨j',h1,rfl⟩:=h;obtain ⟨e0,h3,h4⟩:=ih j' h1;exact ⟨e0,by simpa using h3,h4⟩
       obtain ⟨e0,h3,h4⟩:=key es.toList j h1;exact ⟨e0,by simpa using h3,h4⟩
      obtain ⟨e0,h3,h4⟩:=hj;have hb0:bits e0.key=true:=by
       cases k<;>simp [bits] at hbits<;>(generalize e0.key=y at h4 ⊢;cases y<;>simp_all [keq,bits])
      have hsb:=ZmV hb0 h4;simp [ho,hxv,hyv,huv,Instr.mapUpdate,run_underlying hT.ht,getObj,setObj,Sem.run,hb,Zdo hT.hk hT.hkd,Zcu hT.hk hk,h1,h2,h3,Instr.keyThatStays,hsb,Oper.upon,hd,Act.put];exact kk _ _ (main _ _ (ZmT _ (fun _=>rfl) hWf) (ZmU h1))
end
def skv (es:List (ByteArray×Value)):List (Value×Value):=es.map fun x=>(.string x.1,x.2)
def ikv (es:List (Int×Value)):List (Value×Value):=es.map fun x=>(.int .i64 x.1,x.2)
theorem ZkA (kd:TypeDesc) (k:Value):kok kd k []:=fun x h=>by simp at h
theorem Zii (s:ByteArray) (es:List (ByteArray×Value)):kok .string (.string s) (skv es):=fun x h=>by
 simp [skv] at h
 obtain ⟨a,b,_,rfl⟩:=h
 rfl
theorem Zij (n:Int) (es:List (Int×Value)):kok (.int .i64) (.int .i64 n) (ikv es):=fun x h=>by
 simp [ikv] at h
 obtain ⟨a,b,_,rfl⟩:=h
 simp [Instr.sameNow,keq]
def ZdW {κ:Type} [DecidableEq κ]:List (κ×Value)→κ→Option Value
 |[],_=>none
 |x::l,k=>if k=x.1 then some x.2 else ZdW l k
def ZkZ {κ:Type} [DecidableEq κ]:List (κ×Value)→κ→Value→List (κ×Value)
 |[],k,v=>[(k,v)]
 |x::l,k,v=>if k=x.1 then (k,v)::l else x::ZkZ l k v
theorem ZwN (es:List (ByteArray×Value)) (s:ByteArray):Zca (skv es) (.string s)=ZdW es s:=by
 induction es with
 |nil=>rfl
 | cons x l ih=>
   simp only [skv,Xq,Zca,ZdW,keq,Zsb];rw [show List.map (fun x:ByteArray×Value=>(Value.string x.1,x.2)) l=skv l from rfl,ih]
theorem ZpI (es:List (ByteArray×Value)) (s:ByteArray) (v:Value):Zdn (skv es) (.string s) v=skv (ZkZ es s v):=by
 induction es with
 |nil=>rfl
 | cons x l ih=>
   simp only [skv,Xq,Zdn,ZkZ,keq,Zsb];rw [show List.map (fun x:ByteArray×Value=>(Value.string x.1,x.2)) l=skv l from rfl,ih];by_cases h:s=x.1
   · rw [if_pos h,if_pos h];rfl
   · rw [if_neg h,if_neg h];rfl
theorem ZpJ (es:List (Int×Value)) (s:Int):Zca (ikv es) (.int .i64 s)=ZdW es s:=by
 induction es with
 |nil=>rfl
 | cons x l ih=>
   simp only [ikv,Xq,Zca,ZdW,keq];rw [show List.map (fun x:Int×Value=>(Value.int .i64 x.1,x.2)) l=ikv l from rfl,ih];simp
theorem ZpK (es:List (Int×Value)) (s:Int) (v:Value):Zdn (ikv es) (.int .i64 s) v=ikv (ZkZ es s v):=by
 induction es with
 |nil=>rfl
 | cons x l ih=>
   simp only [ikv,Xq,Zdn,ZkZ,keq];rw [show List.map (fun x:Int×Value=>(Value.int .i64 x.1,x.2)) l=ikv l from rfl,ih];by_cases h:s=x.1
   · rw [if_pos h,if_pos (by simp [h])];rfl
   · rw [if_neg h,if_neg (by simp [h])];rfl
section
variable {P:Program} {ops:Array Oper} {Q:Exit→Act→World→Prop} {md:Region.Mode} {C:World→Prop} {Z:Nat→Bool}
def ZcZ (P:Program) (md:Region.Mode) (ops:Array Oper) (Q:Exit→Act→World→Prop) (C:World→Prop) (Z:Nat→Bool):Nat→Array Bool→Act→World→Prop
 |0,listed,a,w=>Region.ready md ops listed=[]∧Q .normal a w
 | fuel+1,listed,a,w=>
   (Region.ready md ops listed=[]→Q .normal a w)∧
   ∀i∈Region.ready md ops listed,wpOp P ops (ZmO Q) i (fun a' w'=>(Z i=true∨C w')∧ZcZ P md ops Q C Z fuel (listed.setIfInBounds i true) a' w') a w
theorem Zk0:∀(fuel:Nat) (listed:Array Bool) (a:Act) (w:World),ZcZ P md ops Q C Z fuel listed a w→wpAny P md ops Q fuel listed a w
 |0,_,_,_,h=>h
 |fuel+1,_,_,_,h=>⟨h.1,fun i hi=>Zr3 (wpOp_mono (fun a' w' h'=>Zk0 fuel _ a' w' h'.2) (h.2 i hi))⟩
def ZhT (md:Region.Mode) (ops:Array Oper) (Z:Nat→Bool) (i:Nat):Bool:=(List.range ops.size).all fun z=> !Z z||Zpw md ops z i
theorem Zik {i:Nat} {oi:Oper} {v:Value} (hi:ops[i]? =some oi) (hz:ZhT md ops Z i=true)
 (hsel:∀(j:Nat) (o:Oper) cs b,ops[j]? =some o→o.op≠ .select cs b):
 ∀ (fuel:Nat) (listed:Array Bool) (a:Act) (w:World),
  (∀j oj,ops[j]? =some oj→j≠i→listed.getD j true=false→(∀e∈oj.after,Region.binds md e=true→e.on≠i)→oi.apart ops oj=true)→
  i∈Region.ready md ops listed→YieldsC P ops C oi v a→C w→
  ZcZ P md ops Q C Z fuel (listed.setIfInBounds i true) (a.put oi.dst v) w→ZcZ P md ops Q C Z (fuel+1) listed a w:=by
 intro fuel
 induction fuel with
 | zero=>
   intro listed a w _ hr hy hC H;refine ⟨fun h=>(by rw [h] at hr;cases hr),fun j hj=>?_⟩;by_cases hji:j=i
   · subst hji;exact YieldsIf.wpOp hi hy.ifS hC ⟨.inr hC,H⟩
   · have:=ready_mono hj hji;rw [H.1] at this
     cases this
 | succ fuel ih=>
   intro listed a w hfree hr hy hC H;refine ⟨fun h=>(by rw [h] at hr;cases hr),fun j hj=>?_⟩;by_cases hji:j=i
   · subst hji;exact YieldsIf.wpOp hi hy.ifS hC ⟨.inr hC,H⟩
   · have h1:=H.2 j (ready_mono hj hji);obtain ⟨hjun,oj,hoj,hall⟩:=mem_ready.1 hj;have hnot:∀e∈oj.after,Region.binds md e=true→e.on≠i:=fun e he hb heq=>by
      have h1:=hall e he hb;have h0:=(mem_ready.1 hr).1;rw [heq] at h1;rcases Xv i listed.size with h'|h'
      · simp [h'] at h0 h1;rw [h0] at h1;cases h1
      · simp [Vi h'] at h1
     have hjz:Z j=false:=by
      cases hZ:Z j
      · rfl
      · exfalso;have hjs:j<ops.size:=by
         rcases Xv j ops.size with h'|h'
         · exact h'
         · rw [Vi h'] at hoj;cases hoj
        have:=XD.1 hz j (Vd.2 hjs);rw [hZ] at this;simp only [Bool.not_true,Bool.false_or] at this;unfold Zpw at this;rw [hoj] at this;obtain ⟨e,he,hb⟩:=Array.any_eq_true'.1 this;simp only [Xg,beq_iff_eq] at hb;exact hnot e he hb.1 hb.2
     have h2:=wpOp_putIf hoj (hfree j oj hoj hji hjun hnot) (fun cs b=>hsel i oi cs b hi) (fun cs b=>hsel j oj cs b hoj) (fun c a w h=>h) hy.ifS h1;have hfree':∀k ok,ops[k]? =some ok→k≠i→(listed.setIfInBounds j true).getD k true=false→
      (∀e∈ok.after,Region.binds md e=true→e.on≠i)→oi.apart ops ok=true:=fun k ok hk hki hun hno=>by
      refine hfree k ok hk hki ?_ hno;by_cases hjk:j=k
      · subst hjk;exact hjun
      · rw [getD_set_ne true hjk] at hun;exact hun
     refine wpOp_mono (fun a' w' h3=>?_) h2;obtain ⟨hy',hor,hK⟩:=h3;have hC':C w':=by
      rcases hor with h|h
      · rw [hjz] at h;cases h
      · exact h
     refine ⟨.inr hC',ih (listed.setIfInBounds j true) a' w' hfree' (ready_mono hr (Ne.symm hji)) hy' hC' ?_⟩;rw [Array.setIfInBounds_comm _ _ hji];exact hK
end
def Zcv (K:List Nat):List (Nat×Ent)→List (Nat×Ent)
 |[]=>[]
 |(k,x)::l=>cond (K.elem k) ((k,x)::Zcv K l) (Zcv K l)
def ZdF (K:List Nat):List (Nat×Ent)→List (Nat×Ent)
 |[]=>[]
 |(k,x)::l=>cond (K.elem k) (ZdF K l) ((k,x)::ZdF K l)
theorem Zfl {K:List Nat} {t:Nat}:∀{l:List (Nat×Ent)} {x:Ent},lk (Zcv K l) t=some x↔K.elem t=true∧lk l t=some x
 |[],x=>by simp [Zcv,lk]
 | (k, y)::l,x=>by
   unfold Zcv
   cases hk:K.elem k
   · simp only [cond_false,lk];rw [Zfl]
     cases hb:Nat.beq k t
     · simp
     · have:k=t:=XP hb;subst this;rw [hk];simp
   · simp only [cond_true,lk]
     cases hb:Nat.beq k t
     · simp only [cond_false];exact Zfl
     · have:k=t:=XP hb;subst this;rw [hk];simp
theorem ZcQ {K:List Nat} {t:Nat}:∀{l:List (Nat×Ent)} {x:Ent},lk (ZdF K l) t=some x↔K.elem t=false∧lk l t=some x
 |[],x=>by simp [ZdF,lk]
 | (k, y)::l,x=>by
   unfold ZdF
   cases hk:K.elem k
   · simp only [cond_false,lk]
     cases hb:Nat.beq k t
     · simp only [cond_false];exact ZcQ
     · have:k=t:=XP hb;subst this;rw [hk];simp
   · simp only [cond_true,lk];rw [ZcQ]
     cases hb:Nat.beq k t
     · simp
     · have:k=t:=XP hb;subst this;rw [hk];simp
theorem ZuV {l m:List (Nat×Ent)} {t:Nat}:lk (l++m) t=match lk l t with|some x=>some x|none=>lk m t:=by
 induction l with
 |nil=>rfl
 | cons y l ih=>
   obtain ⟨k,y⟩:=y;simp only [X1,lk]
   cases Nat.beq k t
   · simp only [cond_false];exact ih
   · rfl
def nK (K:List Nat) (h:List (Nat×Ent)) (F:Nat→BS):BS:=fun b=>∃l x,K.elem l=false∧lk h l=some x∧F l b
def aD (P:Program) (c:Ctx) (ops:Array Oper) (Q:Exit→Act→World→Prop) (Z:Nat→Bool) (K:List Nat) (fuel:Nat) (listed:Array Bool) (st:St):Prop:=
 ∀a w F,HoldsF c st F a w→∀C:World→Prop,(∀W,Chg (nK K st.heap F) w W→C W)→ZcZ P .any ops Q C Z fuel listed a w
section
variable {P:Program} {c:Ctx} {ops:Array Oper} {Q:Exit→Act→World→Prop} {Z:Nat→Bool} {K:List Nat} {fuel:Nat} {listed:Array Bool} {sL hP:List (Nat×Ent)} {o:Oper}
theorem Zed {C C':World→Prop} (h:∀w,C' w→C w):∀(fuel:Nat) (listed:Array Bool) (a:Act) (w:World),ZcZ P .any ops Q C' Z fuel listed a w→ZcZ P .any ops Q C Z fuel listed a w
 |0,_,_,_,H=>H
 |fuel+1,_,_,_,H=>⟨H.1,fun i hi=>wpOp_mono (fun a' w' h'=>⟨h'.1.imp id (h w'),Zed h fuel _ a' w' h'.2⟩) (H.2 i hi)⟩
theorem ζY {id:Nat} {l:List Oper} (Z:Nat→Bool) (K:List Nat) (hm:P.follows .mixedOrders=true) (h:aD P c l.toArray Q Z K l.length (Array.replicate l.length false) (⟨sL,hP⟩:St)):aC P c (.region id l.toArray true) Q (⟨sL,hP⟩:St):=fun a w ⟨F,H⟩=>by
 refine wp_region_any hm (Zk0 (C:=fun _=>True) (Z:=Z) _ _ _ _ ?_)
 have:=h a w.drew F (H.up (Ext.drew w)) (fun _=>True) (fun _ _=>trivial)
 simpa using this
theorem Zam (hr:Region.ready .any ops listed=[]) (h:aN c Q (⟨sL,hP⟩:St)):aD P c ops Q Z K fuel listed (⟨sL,hP⟩:St):=fun a w F H C hC=>by
 cases fuel with
 |zero=>exact ⟨hr,h a w ⟨F,H⟩⟩
 |succ n=>exact ⟨fun _=>h a w ⟨F,H⟩,fun i hi=>by rw [hr] at hi;cases hi⟩
theorem HoldsF.rdK {F:Nat→BS} {a:Act} {w:World} (H:HoldsF c (⟨sL,hP⟩:St) F a w) (K:List Nat):RdF (mof c hP F) ⟨sL,Zcv K hP⟩ F a w:=⟨fun l v p h=>H.tr l v p (Zfl.1 h).2,H.sl⟩
theorem ZDZ {V:Value→Prop} {p:PV} (i d:Nat) (ho:ops[i]? =some o) (hck:(Region.noSelect ops&&(Region.ready .any ops listed).contains i&&Region.free .any ops listed i&&ZhT .any ops Z i)=true) (hw:ζZ ops sL o=some true) (hd:o.dst=some d) (hn:d<c.nt) (hy:YE P ⟨sL,Zcv K hP⟩ o V p)
 (k:∀v,V v→aD P c ops Q Z K fuel (listed.setIfInBounds i true) ⟨put d (v,p) sL,hP⟩):aD P c ops Q Z K (fuel+1) listed (⟨sL,hP⟩:St):=fun a w F H C hC=>by
 simp only [Xg] at hck
 obtain ⟨⟨⟨hs,hr⟩,hf⟩,hz⟩:=hck
 obtain ⟨v,hV,hS,hrun⟩:=hy _ F a w (H.rdK K)
 refine Zed hC _ _ _ _ ?_
 refine Zik ho hz (Region.noSelect_spec hs) _ listed a w (Region.free_spec ho hf) (by simpa using hr) (v:=v) (.inl ⟨ZdE H.rd hw,fun W hW=>?_⟩) (Chg.rfl' _ _) ?_
 · exact hrun _ W hW (fun b ⟨l,x,_,h1,h2⟩=> .inr ⟨l,x,h1,h2⟩) (fun l x b hl hFb ⟨l',x',h1,h2,h3⟩=>by
    obtain ⟨h4,h5⟩:=Zfl.1 hl;exact H.dj l l' _ _ b (fun e=>by rw [e,h1] at h4;cases h4) h5 h2 hFb h3)
 · rw [hd];exact k v hV _ w F (H.put hn hS) _ (fun W h=>h)
theorem ZEp {v:Value} {p:PV} (i d:Nat) (ho:ops[i]? =some o) (hck:(Region.noSelect ops&&(Region.ready .any ops listed).contains i&&Region.free .any ops listed i&&ZhT .any ops Z i)=true) (hw:ζZ ops sL o=some true) (hd:o.dst=some d) (hn:d<c.nt) (hy:YE P ⟨sL,Zcv K hP⟩ o (· =v) p)
 (k:aD P c ops Q Z K fuel (listed.setIfInBounds i true) ⟨put d (v,p) sL,hP⟩):aD P c ops Q Z K (fuel+1) listed (⟨sL,hP⟩:St):=ZDZ i d ho hck hw hd hn hy fun u hu=>by cases hu;exact k
theorem ZCa {V:Value→Prop} {p:PV} (i d:Nat) (ho:ops[i]? =some o) (hr:Region.ready .any ops listed=[i]) (hw:ζZ ops sL o=some true) (hd:o.dst=some d) (hn:d<c.nt) (hy:YE P (⟨sL,hP⟩:St) o V p)
 (k:∀v,V v→aD P c ops Q Z K fuel (listed.setIfInBounds i true) ⟨put d (v,p) sL,hP⟩):aD P c ops Q Z K (fuel+1) listed (⟨sL,hP⟩:St):=fun a w F H C hC=>by
 obtain ⟨v,hV,hS,hrun⟩:=hy _ F a w H.rd
 have h1:YieldsC P ops (fun W=>W=w) o v a:= .inl ⟨ZdE H.rd hw,fun W hW=>by
  subst hW;exact hrun (fun _=>False) W (Chg.rfl' _ _) (fun _ h=>h.elim) (fun _ _ _ _ _ h=>h)⟩
 refine ⟨fun hn=>(by rw [hr] at hn;cases hn),fun j hj=>?_⟩
 rw [hr] at hj
 obtain rfl:j=i:=by simpa using hj
 refine YieldsIf.wpOp ho h1.ifS rfl ⟨.inr (hC w (Chg.rfl' _ _)),?_⟩
 rw [hd]
 exact k v hV _ w F (H.put hn hS) C hC
theorem ZD0 {v:Value} {p:PV} (i d:Nat) (ho:ops[i]? =some o) (hr:Region.ready .any ops listed=[i]) (hw:ζZ ops sL o=some true) (hd:o.dst=some d) (hn:d<c.nt) (hy:YE P (⟨sL,hP⟩:St) o (· =v) p)
 (k:aD P c ops Q Z K fuel (listed.setIfInBounds i true) ⟨put d (v,p) sL,hP⟩):aD P c ops Q Z K (fuel+1) listed (⟨sL,hP⟩:St):=ZCa i d ho hr hw hd hn hy fun u hu=>by cases hu;exact k
theorem Zz8 (i d:Nat) (ho:ops[i]? =some o) (hck:(Region.noSelect ops&&(Region.ready .any ops listed).contains i&&Region.free .any ops listed i&&ZhT .any ops Z i)=true) (hw:ζZ ops sL o=some false) (hd:o.dst=some d) (hn:d<c.nt)
 (k:aD P c ops Q Z K fuel (listed.setIfInBounds i true) ⟨put d (undef, .val undef) sL,hP⟩):aD P c ops Q Z K (fuel+1) listed (⟨sL,hP⟩:St):=fun a w F H C hC=>by
 simp only [Xg] at hck
 obtain ⟨⟨⟨hs,hr⟩,hf⟩,hz⟩:=hck
 refine Zed hC _ _ _ _ ?_
 refine Zik ho hz (Region.noSelect_spec hs) _ listed a w (Region.free_spec ho hf) (by simpa using hr) (v:=undef) (.inr ⟨ZdE H.rd hw,rfl⟩) (Chg.rfl' _ _) ?_
 rw [hd]
 exact k _ w F (H.put hn (.val _)) _ (fun W h=>h)
theorem ZwO (t:Nat) {b:Bool} {q:PV} (hx:lk sL t=some (.bool b,q)) (ht:b=true→aD P c ops Q Z K fuel listed ⟨put t (.bool true, .val (.bool true)) sL,hP⟩) (hf:b=false→aD P c ops Q Z K fuel listed ⟨put t (.bool false, .val (.bool false)) sL,hP⟩):aD P c ops Q Z K fuel listed (⟨sL,hP⟩:St):=fun a w F H C hC=>by
 have key:HoldsF c ⟨put t (.bool b, .val (.bool b)) sL,hP⟩ F a w:=⟨H.toHeapF,fun s u r hs=>by
  rcases Zak hs with ⟨rfl,e⟩|⟨_,e⟩
  · cases e;exact ⟨(H.sl _ _ _ hx).1, .val _⟩
  · exact H.sl s u r e,H.size,H.df⟩
 cases b
 · exact hf rfl a w F key C hC
 · exact ht rfl a w F key C hC
theorem HoldsF.frame {F:Nat→BS} {a:Act} {w:World} (H:HoldsF c (⟨sL,hP⟩:St) F a w) (K:List Nat):
 HoldsF ⟨w,fun b=>c.M0 b∨∃l x,K.elem l=true∧lk hP l=some x∧F l b,nK K hP F,c.nt,c.dr,c.df⟩ ⟨sL,ZdF K hP⟩ F a w:=by
 have hm:∀b,mof ⟨w,fun b=>c.M0 b∨∃l x,K.elem l=true∧lk hP l=some x∧F l b,nK K hP F,c.nt,c.dr,c.df⟩ (ZdF K hP) F b→mof c hP F b:=by
  rintro b ((h|⟨l,x,_,h1,h2⟩)|⟨l,x,h1,h2⟩)
  · exact .inl h
  · exact .inr ⟨l,x,h1,h2⟩
  · exact .inr ⟨l,x,(ZcQ.1 h1).2,h2⟩
 refine ⟨⟨fun l v p h=>(H.tr l v p (ZcQ.1 h).2).anti fun b _=>hm b,fun l x b h hb=> .inr ⟨l,x,(ZcQ.1 h).1,(ZcQ.1 h).2,hb⟩,fun l l' x x' b hne h h'=>H.dj l l' x x' b hne (ZcQ.1 h).2 (ZcQ.1 h').2,?_,Chg.rfl' _ _,fun _=>Xd _⟩,fun t v p h=>⟨(H.sl t v p h).1,(H.sl t v p h).2.anti fun b _=>hm b⟩,H.size,H.df⟩
 refine ⟨?_,fun hn g hg=>?_,fun hn g hg=>?_⟩
 rotate_left
 · obtain ⟨h1,h2,_⟩:=H.mok.tb hn g hg;refine ⟨h1,?_,?_⟩
   · rintro (h|⟨l,x,_,h3,h4⟩)
     · exact h2 (.inl h)
     · exact h2 (.inr ⟨l,x,h3,h4⟩)
   · rintro ⟨l,x,_,h3,h4⟩;exact h2 (.inr ⟨l,x,h3,h4⟩)
 · obtain ⟨h1,h2,_⟩:=H.mok.er hn g hg;refine ⟨h1,?_,?_⟩
   · rintro (h|⟨l,x,_,h3,h4⟩)
     · exact h2 (.inl h)
     · exact h2 (.inr ⟨l,x,h3,h4⟩)
   · rintro ⟨l,x,_,h3,h4⟩;exact h2 (.inr ⟨l,x,h3,h4⟩)
 rintro b (h|⟨l,x,hK,h1,h2⟩)
 · exact ⟨Nat.lt_of_lt_of_le (H.m0.m b h).1 H.ext.size,fun ⟨l,x,_,h1,h2⟩=>H.apart h h1 h2⟩
 · exact ⟨(H.tr l _ _ h1).lt b h2,fun ⟨l',x',hK',h3,h4⟩=>H.dj l l' _ _ b (fun e=>by rw [e,hK'] at hK;cases hK) h1 h3 h2 h4⟩
theorem HoldsF.unframe {F F':Nat→BS} {a a':Act} {w w':World} {st':St} (H:HoldsF c (⟨sL,hP⟩:St) F a w)
 (H':HoldsF ⟨w,fun b=>c.M0 b∨∃l x,K.elem l=true∧lk hP l=some x∧F l b,nK K hP F,c.nt,c.dr,c.df⟩ st' F' a' w'):
 HoldsF c ⟨st'.slots,st'.heap++Zcv K hP⟩ (fun l=>match lk st'.heap l with|some _=>F' l|none=>F l) a' w'∧Chg (nK K hP F) w w'∧
  (∀b,nK K (st'.heap++Zcv K hP) (fun l=>match lk st'.heap l with|some _=>F' l|none=>F l) b→nK K hP F b∨w.heap.size≤b):=by
 have hlook:∀l x,lk (st'.heap++Zcv K hP) l=some x→(lk st'.heap l=some x)∨(lk st'.heap l=none∧K.elem l=true∧lk hP l=some x):=fun l x h=>by
  rw [ZuV] at h
  cases h1:lk st'.heap l with
  |some y=>rw [h1] at h;cases h;exact .inl rfl
  |none=>rw [h1] at h;exact .inr ⟨rfl,Zfl.1 h⟩
 have hmm:∀b,mof c (st'.heap++Zcv K hP) (fun l=>match lk st'.heap l with|some _=>F' l|none=>F l) b→mof ⟨w,fun b=>c.M0 b∨∃l x,K.elem l=true∧lk hP l=some x∧F l b,nK K hP F,c.nt,c.dr,c.df⟩ st'.heap F' b:=by
  rintro b (h|⟨l,x,h1,h2⟩)
  · exact .inl (.inl h)
  · rcases hlook l x h1 with h3|⟨h3,h4,h5⟩
    · simp only [h3] at h2;exact .inr ⟨l,x,h3,h2⟩
    · simp only [h3] at h2;exact .inl (.inr ⟨l,x,h4,h5,h2⟩)
 have hch:Chg (nK K hP F) w w':=H'.ext
 have hKN:∀l x b,K.elem l=true→lk hP l=some x→F l b→¬nK K hP F b:=fun l x b hK hl hb ⟨l',x',hK',h3,h4⟩=>H.dj l l' _ _ b (fun e=>by rw [e,hK'] at hK;cases hK) hl h3 hb h4
 have hapart:∀l x l' x' b,K.elem l=true→lk hP l=some x→F l b→lk st'.heap l'=some x'→¬F' l' b:=fun l x l' x' b hK hl hb hl' hb'=>by
  exact H'.apart (.inr ⟨l,x,hK,hl,hb⟩) hl' hb'
 refine ⟨⟨⟨fun l v p h=>?_,fun l x b h hb=>?_,fun l l' x x' b hne h h' hb hb'=>?_,H.m0,?_,fun h=>XV (H.dw h) (H'.dw h)⟩,fun t v p h=>⟨(H'.sl t v p h).1,(H'.sl t v p h).2.anti fun b _=>hmm b⟩,H'.size,H'.df⟩,hch,?_⟩
 · rcases hlook l _ h with h1|⟨h1,h2,h3⟩
   · simp only [h1];exact (H'.tr l v p h1).anti fun b _=>hmm b
   · simp only [h1];refine (H.tr l v p h3).to hch (fun b hlt hb=>?_) (fun b _ ⟨l',x',_,h4,h5⟩=> .inr ⟨l',x',h4,h5⟩) (fun b hb=>hKN l _ b h2 h3 hb);rcases hmm b hb with (h|⟨l',x',_,h4,h5⟩)|⟨l',x',h4,h5⟩
     · exact .inl h
     · exact .inr ⟨l',x',h4,h5⟩
     · rcases H'.lo l' x' b h4 h5 with h6|⟨l2,x2,_,h7,h8⟩
       · exact absurd hlt (by simp only at h6;omega)
       · exact .inr ⟨l2,x2,h7,h8⟩
 · rcases hlook l _ h with h1|⟨h1,h2,h3⟩
   · simp only [h1] at hb;rcases H'.lo l x b h1 hb with h4|⟨l2,x2,_,h7,h8⟩
     · exact .inl (XV H.ext.size h4)
     · exact H.lo l2 x2 b h7 h8
   · simp only [h1] at hb;exact H.lo l x b h3 hb
 · rcases hlook l _ h with h1|⟨h1,h2,h3⟩
   · rcases hlook l' _ h' with k1|⟨k1,k2,k3⟩
     · simp only [h1] at hb;simp only [k1] at hb';exact H'.dj l l' x x' b hne h1 k1 hb hb'
     · simp only [h1] at hb;simp only [k1] at hb';exact hapart l' _ l _ b k2 k3 hb' h1 hb
   · rcases hlook l' _ h' with k1|⟨k1,k2,k3⟩
     · simp only [h1] at hb;simp only [k1] at hb';exact hapart l _ l' _ b h2 h3 hb k1 hb'
     · simp only [h1] at hb;simp only [k1] at hb';exact H.dj l l' x x' b hne h3 k3 hb hb'
 · exact H.ext.tr hch fun b ⟨l,x,_,h1,h2⟩=>(H.lo l x b h1 h2).symm
 · rintro b ⟨l,x,hK,h1,h2⟩;rcases hlook l _ h1 with h3|⟨h3,h4,h5⟩
   · simp only [h3] at h2;rcases H'.lo l x b h3 h2 with h4|h4
     · exact .inr h4
     · exact .inl h4
   · rw [hK] at h4;cases h4
def aW (P:Program) (c:Ctx) (ops:Array Oper) (Q:Exit→Act→World→Prop) (Z:Nat→Bool) (K:List Nat) (fuel:Nat) (listed:Array Bool) (st:St) (i:Nat):Prop:=
 ∀a w F,HoldsF c st F a w→∀C:World→Prop,(∀W,Chg (nK K st.heap F) w W→C W)→wpOp P ops (ZmO Q) i (fun a' w'=>(Z i=true∨C w')∧ZcZ P .any ops Q C Z fuel (listed.setIfInBounds i true) a' w') a w
theorem ζi (i:Nat) (hr:Region.ready .any ops listed=[i]) (h:aW P c ops Q Z K fuel listed (⟨sL,hP⟩:St) i):aD P c ops Q Z K (fuel+1) listed (⟨sL,hP⟩:St):=fun a w F H C hC=>
 ⟨(fun hn=>by rw [hr] at hn;cases hn),fun j hj=>by
   rw [hr] at hj;obtain rfl:j=i:=by simpa using hj
   exact h a w F H C hC⟩
theorem Zad (i j:Nat) (hr:Region.ready .any ops listed=[i,j]) (h:aW P c ops Q Z K fuel listed (⟨sL,hP⟩:St) i) (h':aW P c ops Q Z K fuel listed (⟨sL,hP⟩:St) j):aD P c ops Q Z K (fuel+1) listed (⟨sL,hP⟩:St):=fun a w F H C hC=>
 ⟨(fun hn=>by rw [hr] at hn;cases hn),fun m hm=>by
   rw [hr] at hm;rcases (by simpa using hm:m=i∨m=j) with rfl|rfl
   · exact h a w F H C hC
   · exact h' a w F H C hC⟩
theorem ζf {i:Nat} (ho:ops[i]? =some o)
 (h:∀(w':World) (M' N':BS) (DQ:Exit→Act→World→Prop),(∀st':St,aD P c ops Q Z K fuel (listed.setIfInBounds i true) ⟨st'.slots,st'.heap++Zcv K hP⟩→aN ⟨w',M',N',c.nt,c.dr,c.df⟩ DQ st')→aL P ⟨w',M',N',c.nt,c.dr,c.df⟩ ops DQ [o] ⟨sL,ZdF K hP⟩):aW P c ops Q Z K fuel listed (⟨sL,hP⟩:St) i:=fun a w F H C hC=>by
 refine Zdj (Q':=fun _ a' w'=>(Z i=true∨C w')∧ZcZ P .any ops Q C Z fuel (listed.setIfInBounds i true) a' w') ho (fun a' w' hq=>hq) ?_
 refine h w _ _ _ (fun st' hD a' w' ⟨F',H'⟩=>?_) a w ⟨F,H.frame K⟩
 obtain ⟨H2,hch,hnk⟩:=H.unframe H'
 refine ⟨.inr (hC w' hch),hD a' w' _ H2 C fun W hW=>hC W (hch.tr hW hnk)⟩
theorem Zil {i:Nat} (ho:ops[i]? =some o) (hZ:Z i=true) (hr:Region.ready .any ops (listed.setIfInBounds i true)=[]) (h:∀DQ:Exit→Act→World→Prop,(∀st':St,aN c Q st'→aN c DQ st')→aL P c ops DQ [o] (⟨sL,hP⟩:St)):aW P c ops Q Z K fuel listed (⟨sL,hP⟩:St) i:=fun a w F H C hC=>by
 refine Zdj (Q':=fun _ a' w'=>(Z i=true∨C w')∧ZcZ P .any ops Q C Z fuel (listed.setIfInBounds i true) a' w') ho (fun a' w' hq=>hq) ?_
 refine h _ (fun st' hN a' w' H'=>⟨.inl hZ,?_⟩) a w ⟨F,H⟩
 cases fuel with
 |zero=>exact ⟨hr,hN a' w' H'⟩
 |succ n=>exact ⟨fun _=>hN a' w' H',fun i hi=>by rw [hr] at hi;cases hi⟩
end
section
variable {P:Program} {c:Ctx} {ops:Array Oper} {Q:Exit→Act→World→Prop} {rest:List Oper} {sL hP:List (Nat×Ent)} {o:Oper}
theorem ζF {l:Nat} {x:Ent} (l':Nat) (hl:lk hP l=some x) (hl':lk (del l hP) l'=none):Zgx (⟨sL,hP⟩:St) (fun _:Unit=>⟨sL,put l' x (del l hP)⟩):=fun c a w ⟨F,H⟩=>by
 refine ⟨(),fun t=>if t=l' then F l else F t,?_⟩
 obtain ⟨v,p⟩:=x
 have aux:∀t y,(t=l∨t=l')→lk (put l' (v,p) (del l hP)) t=some y→t=l'∧y=(v,p):=fun t y ht hy=>by
  rcases Zak hy with ⟨e1,e2⟩|⟨n1,e2⟩
  · exact ⟨e1.symm,e2.symm⟩
  · rcases ht with h|h
    · exact absurd h.symm (Za1 e2).1
    · exact absurd h.symm n1
 refine H.retell (fun t=>t=l∨t=l') (fun t y hnT hy=>?_) (fun t y b hT hy hb=>?_) (fun hm t u q hT hy=>?_) (fun t1 t2 y1 y2 b h1 h2 hne hy1 hy2=>absurd ((aux t1 y1 h1 hy1).1.trans (aux t2 y2 h2 hy2).1.symm) hne)
 · have n2:t≠l':=fun e=>hnT (.inr e);rw [Zbu (Ne.symm n2)] at hy;exact ⟨(Za1 hy).2,by simp [n2]⟩
 · obtain ⟨rfl,_⟩:=aux t y hT hy;simp only [if_true] at hb;exact ⟨l,_, .inl rfl,hl,hb⟩
 · obtain ⟨rfl,e⟩:=aux t _ hT hy
   cases e;simp only [if_true];exact (H.tr l v p hl).anti hm
def ZCb (p p':PV):Prop:=p'=p∨(p= .val (.slice none 0 0)∧∃e k,p'= .own e k 0 [])
theorem Zey {l e k n:Nat} {h:Value} {cs:List PV} (cs':List PV) (hl:lk hP l=some (h, .own e k n cs)) (hlen:cs'.length=cs.length) (hc:∀(i:Nat) (p p':PV),cs[i]? =some p→cs'[i]? =some p'→ZCb p p'):Zgx (⟨sL,hP⟩:St) (fun _:Unit=>⟨sL,put l (h, .own e k n cs') hP⟩):=fun c a w ⟨F,H⟩=>by
 refine ⟨(),F,?_⟩
 have hTr:=H.tr l _ _ hl
 obtain ⟨xs,Fs,hrow,hxl,hT,hd,hb,hF⟩:=hTr.row
 refine H.retell (fun t=>t=l) (fun t y hnT hy=>?_) (fun t y b hT' hy hb'=>?_) (fun hm t u q hT' hy=>?_) (fun t1 t2 _ _ _ h1 h2 hne=>absurd (h1.trans h2.symm) hne)
 · have n2:t≠l:=hnT;rw [Zbu (Ne.symm n2)] at hy;exact ⟨hy,rfl⟩
 · subst hT';exact ⟨t,_,rfl,hl,hb'⟩
 · subst hT';rw [ζ9] at hy
   cases hy;refine .own xs Fs hrow (by omega) (fun i x p' hx hp'=>?_) (fun i j b hi hj=>hd i j b (by omega) (by omega)) (fun i b hi=>hb i b (by omega)) (fun b=>by rw [hF b,hlen]);obtain ⟨p,hp⟩:=Zar hp' hlen;have hTi:=(hT i x p hx hp).anti hm;rcases hc i p p' hp hp' with rfl|⟨rfl,e',k',rfl⟩
   · exact hTi
   · have hFi:∀b,¬Fs i b:=by
      cases hTi with
      |shr _ hF=>exact hF
     have hx0:x= .slice none 0 0:=(hTi.sh rfl).vOf;subst hx0;exact .own [] (fun _ _=>False) (World.ownsRow_nil _ _ _ _) rfl (by simp) (by simp) (by simp) (fun b=>by simp [Value.ownBlock];exact hFi b)
theorem Zd8 {ι:Type} {x y:Code} (S:ι→St) (h:aC P c x (Exit.then (fun a w=>∃i,Holds c (S i) a w) Q) (⟨sL,hP⟩:St)) (k:∀i,aC P c y Q (S i)):aC P c x (Exit.then (y.wp P Q) Q) (⟨sL,hP⟩:St):=fun a w H=>
 wp_mono (h a w H) fun e a' w' hq=>by
  cases e with
  |normal=>obtain ⟨i,hi⟩:=hq;exact k i a' w' hi
  |_=>exact hq
theorem Zez {l l' j e k n:Nat} {h:Value} {cs:List PV} {p:PV} (hl:lk hP l=some (h, .own e k n cs)) (hp:cs[j]? =some p) (hl':lk hP l'=none) (hok:Ze9 p=true):
 Zgx (⟨sL,hP⟩:St) (fun v:{v:Value//v.oneCell'=true}=>⟨sL,put l' (v.1,p) (put l (h, .own e k n (cs.set j (.val v.1))) hP)⟩):=fun c a w H=>by
 obtain ⟨v,F,H'⟩:=focus hl hp hl' c a w H
 exact ⟨⟨v,(H'.tr l' v p (ζ9 _ _ _)).cellOne hok⟩,F,H'⟩
end
theorem nav {A B:Prop} (h:B) (e:B→A:=by intro h;(repeat (first|with_reducible refine ZwI ?_|with_reducible refine ZpC ?_|with_reducible refine Zty ?_|with_reducible refine ZpD ?_|with_reducible refine Ztw ?_|with_reducible refine Ztx ?_|with_reducible refine Ztz ?_|with_reducible refine ZpE ?_|with_reducible refine ZpF rfl ?_|with_reducible refine ZwJ ?_|with_reducible refine ZtA ?_|with_reducible refine ZpG ?_));exact h):A:=e h
theorem ζd {A B:Prop} (h:B) (e:B→A:=by intro h;refine ζe ?_;(repeat (first|with_reducible refine ZwI ?_|with_reducible refine ZpC ?_|with_reducible refine Zty ?_|with_reducible refine ZpD ?_|with_reducible refine Ztw ?_|with_reducible refine Ztx ?_|with_reducible refine Ztz ?_|with_reducible refine ZpE ?_|with_reducible refine ZpF rfl ?_|with_reducible refine ZwJ ?_|with_reducible refine ZtA ?_|with_reducible refine ZpG ?_));(try dsimp only);exact h):A:=e h
section
variable {P:Program} {c:Ctx} {ops:Array Oper} {Q:Exit→Act→World→Prop} {rest:List Oper} {st:St} {sL hP:List (Nat×Ent)} {o:Oper} {x y:Operand} {t t':TypeId} {q q':PV} {Z:Nat→Bool} {K:List Nat} {fuel:Nat} {listed:Array Bool}
theorem xL {v:Value} {p:PV} (d:Nat) (hy:YE P (⟨sL,hP⟩:St) o (· =v) p) (k:aL P c ops Q rest ⟨put d (v,p) sL,hP⟩) (hw:ζZ ops sL o=some true:=by exact rfl) (hd:o.dst=some d:=by exact rfl) (hn:d<c.nt:=by exact Xa rfl):aL P c ops Q (o::rest) (⟨sL,hP⟩:St):=
 ZEo d hw hd hn hy k
theorem yL {V:Value→Prop} {p:PV} (d:Nat) (hy:YE P (⟨sL,hP⟩:St) o V p) (k:∀v,V v→aL P c ops Q rest ⟨put d (v,p) sL,hP⟩) (hw:ζZ ops sL o=some true:=by exact rfl) (hd:o.dst=some d:=by exact rfl) (hn:d<c.nt:=by exact Xa rfl):aL P c ops Q (o::rest) (⟨sL,hP⟩:St):=
 ZDT d hw hd hn hy k
theorem kL (d:Nat) (k:aL P c ops Q rest ⟨put d (undef, .val undef) sL,hP⟩) (hw:ζZ ops sL o=some false:=by exact rfl) (hd:o.dst=some d:=by exact rfl) (hn:d<c.nt:=by exact Xa rfl):aL P c ops Q (o::rest) (⟨sL,hP⟩:St):=
 ZzV d hw hd hn k
theorem bL {l:List Oper} {b:Bool} {q:PV} (t:Nat) (ht:b=true→aL P c ops Q l ⟨put t (.bool true, .val (.bool true)) sL,hP⟩) (hf:b=false→aL P c ops Q l ⟨put t (.bool false, .val (.bool false)) sL,hP⟩) (hx:lk sL t=some (.bool b,q):=by exact rfl):aL P c ops Q l (⟨sL,hP⟩:St):=
 Zpx t hx ht hf
theorem xD {v:Value} {p:PV} (i:Nat) (d:Nat) (ho:ops[i]? =some o) (hy:YE P ⟨sL,Zcv K hP⟩ o (· =v) p) (k:aD P c ops Q Z K fuel (listed.setIfInBounds i true) ⟨put d (v,p) sL,hP⟩) (hck:(Region.noSelect ops&&(Region.ready .any ops listed).contains i&&Region.free .any ops listed i&&ZhT .any ops Z i)=true:=by kernel_rfl) (hw:ζZ ops sL o=some true:=by exact rfl) (hd:o.dst=some d:=by exact rfl) (hn:d<c.nt:=by exact Xa rfl):aD P c ops Q Z K (fuel+1) listed (⟨sL,hP⟩:St):=
 ZEp i d ho hck hw hd hn hy k
theorem yD {V:Value→Prop} {p:PV} (i:Nat) (d:Nat) (ho:ops[i]? =some o) (hy:YE P ⟨sL,Zcv K hP⟩ o V p) (k:∀v,V v→aD P c ops Q Z K fuel (listed.setIfInBounds i true) ⟨put d (v,p) sL,hP⟩) (hck:(Region.noSelect ops&&(Region.ready .any ops listed).contains i&&Region.free .any ops listed i&&ZhT .any ops Z i)=true:=by kernel_rfl) (hw:ζZ ops sL o=some true:=by exact rfl) (hd:o.dst=some d:=by exact rfl) (hn:d<c.nt:=by exact Xa rfl):aD P c ops Q Z K (fuel+1) listed (⟨sL,hP⟩:St):=
 ZDZ i d ho hck hw hd hn hy k
theorem kD (i:Nat) (d:Nat) (ho:ops[i]? =some o) (k:aD P c ops Q Z K fuel (listed.setIfInBounds i true) ⟨put d (undef, .val undef) sL,hP⟩) (hck:(Region.noSelect ops&&(Region.ready .any ops listed).contains i&&Region.free .any ops listed i&&ZhT .any ops Z i)=true:=by kernel_rfl) (hw:ζZ ops sL o=some false:=by exact rfl) (hd:o.dst=some d:=by exact rfl) (hn:d<c.nt:=by exact Xa rfl):aD P c ops Q Z K (fuel+1) listed (⟨sL,hP⟩:St):=
 Zz8 i d ho hck hw hd hn k
theorem xE {v:Value} {p:PV} (i:Nat) (d:Nat) (ho:ops[i]? =some o) (hy:YE P (⟨sL,hP⟩:St) o (· =v) p) (k:aD P c ops Q Z K fuel (listed.setIfInBounds i true) ⟨put d (v,p) sL,hP⟩) (hr:Region.ready .any ops listed=[i]:=by kernel_rfl) (hw:ζZ ops sL o=some true:=by exact rfl) (hd:o.dst=some d:=by exact rfl) (hn:d<c.nt:=by exact Xa rfl):aD P c ops Q Z K (fuel+1) listed (⟨sL,hP⟩:St):=
 ZD0 i d ho hr hw hd hn hy k
theorem yE {V:Value→Prop} {p:PV} (i:Nat) (d:Nat) (ho:ops[i]? =some o) (hy:YE P (⟨sL,hP⟩:St) o V p) (k:∀v,V v→aD P c ops Q Z K fuel (listed.setIfInBounds i true) ⟨put d (v,p) sL,hP⟩) (hr:Region.ready .any ops listed=[i]:=by kernel_rfl) (hw:ζZ ops sL o=some true:=by exact rfl) (hd:o.dst=some d:=by exact rfl) (hn:d<c.nt:=by exact Xa rfl):aD P c ops Q Z K (fuel+1) listed (⟨sL,hP⟩:St):=
 ZCa i d ho hr hw hd hn hy k
theorem ζb {P:Program} {st:St} {o:Oper} {x:Operand} {v:Value} {p:PV} (ho:o.op= .move x:=by exact rfl) (hx:ev st.slots x=some (v,p):=by exact rfl):YE P st o (· =v) p:=
 ZCt ho hx
theorem ζc {P:Program} {st:St} {o:Oper} {x:Operand} {v:Value} {p:PV} (ho:o.op= .assign x:=by exact rfl) (hx:ev st.slots x=some (v,p):=by exact rfl):YE P st o (· =v) p:=
 ZwD ho hx
theorem ζJ {P:Program} {st:St} {o:Oper} {c x y:Operand} {b:Bool} {q:PV} {v:Value} {p:PV} (ho:o.op= .pick c x y:=by exact rfl) (hc:ev st.slots c=some (.bool b,q):=by exact rfl) (hx:ev st.slots (if b then x else y)=some (v,p):=by exact rfl):YE P st o (· =v) p:=
 ZCu ho hc hx
theorem Zav {P:Program} {st:St} {o:Oper} {x:Operand} {t:TypeId} {b:Bool} {q:PV} (ho:o.op= .unOp .not t x:=by exact rfl) (hx:ev st.slots x=some (.bool b,q):=by exact rfl):YE P st o (· = .bool (!b)) (.val (.bool (!b))):=
 ZDL ho hx
theorem ζK {k:IntKind} {a b:Int} (ho:o.op= .binOp .lss t x y t':=by exact rfl) (hx:ev st.slots x=some (.int k a,q):=by exact rfl) (hy:ev st.slots y=some (.int k b,q'):=by exact rfl):YE P st o (· = .bool (decide (a<b))) (.val (.bool (decide (a<b)))):=
 ZDM ho hx hy
theorem ZpL {k:IntKind} {a b:Int} (ho:o.op= .binOp .leq t x y t':=by exact rfl) (hx:ev st.slots x=some (.int k a,q):=by exact rfl) (hy:ev st.slots y=some (.int k b,q'):=by exact rfl):YE P st o (· = .bool (decide (a≤b))) (.val (.bool (decide (a≤b)))):=
 ZDN ho hx hy
theorem ZaF {k:IntKind} {a b:Int} (ho:o.op= .binOp .gtr t x y t':=by exact rfl) (hx:ev st.slots x=some (.int k a,q):=by exact rfl) (hy:ev st.slots y=some (.int k b,q'):=by exact rfl):YE P st o (· = .bool (decide (b<a))) (.val (.bool (decide (b<a)))):=
 ZDO ho hx hy
theorem ZcX {k:IntKind} {a b:Int} (ho:o.op= .binOp .geq t x y t':=by exact rfl) (hx:ev st.slots x=some (.int k a,q):=by exact rfl) (hy:ev st.slots y=some (.int k b,q'):=by exact rfl):YE P st o (· = .bool (decide (b≤a))) (.val (.bool (decide (b≤a)))):=
 ZDP ho hx hy
theorem ζ6 {k:IntKind} {a b:Int} (ho:o.op= .binOp .eql t x y t':=by exact rfl) (hx:ev st.slots x=some (.int k a,q):=by exact rfl) (hy:ev st.slots y=some (.int k b,q'):=by exact rfl):YE P st o (· = .bool (decide (a=b))) (.val (.bool (decide (a=b)))):=
 ZDQ ho hx hy
theorem Zaz {k:IntKind} {a b:Int} (ho:o.op= .binOp .neq t x y t':=by exact rfl) (hx:ev st.slots x=some (.int k a,q):=by exact rfl) (hy:ev st.slots y=some (.int k b,q'):=by exact rfl):YE P st o (· = .bool (decide (a≠b))) (.val (.bool (decide (a≠b)))):=
 ZDR ho hx hy
theorem ZfX {a b:ByteArray} (ho:o.op= .binOp .eql t x y t':=by exact rfl) (hx:ev st.slots x=some (.string a,q):=by exact rfl) (hy:ev st.slots y=some (.string b,q'):=by exact rfl):YE P st o (· = .bool (a.toList==b.toList)) (.val (.bool (a.toList==b.toList))):=
 ZCv ho hx hy
theorem ZCH {a b:ByteArray} (ho:o.op= .binOp .neq t x y t':=by exact rfl) (hx:ev st.slots x=some (.string a,q):=by exact rfl) (hy:ev st.slots y=some (.string b,q'):=by exact rfl):YE P st o (· = .bool (!(a.toList==b.toList))) (.val (.bool (!(a.toList==b.toList)))):=
 ZCw ho hx hy
theorem ZCI {a b:ByteArray} (ho:o.op= .binOp .lss t x y t':=by exact rfl) (hx:ev st.slots x=some (.string a,q):=by exact rfl) (hy:ev st.slots y=some (.string b,q'):=by exact rfl):YE P st o (· = .bool (Op.bytesLess a.toList b.toList)) (.val (.bool (Op.bytesLess a.toList b.toList))):=
 ZCx ho hx hy
theorem ZCJ {a b:ByteArray} (ho:o.op= .binOp .gtr t x y t':=by exact rfl) (hx:ev st.slots x=some (.string a,q):=by exact rfl) (hy:ev st.slots y=some (.string b,q'):=by exact rfl):YE P st o (· = .bool (!(Op.bytesLess a.toList b.toList||a.toList==b.toList))) (.val (.bool (!(Op.bytesLess a.toList b.toList||a.toList==b.toList)))):=
 ZCy ho hx hy
theorem ζG {a b:Int} (ho:o.op= .binOp .add t x y t':=by exact rfl) (hx:ev st.slots x=some (.int .i64 a,q):=by exact rfl) (hy:ev st.slots y=some (.int .i64 b,q'):=by exact rfl) (h1: -9223372036854775808≤a+b:=by first|omega|exact Xa rfl|(simp only [Xj,Xz,Xf,Xp,Xc,XJ,Xt,Xr,XL];omega)) (h2:a+b≤9223372036854775807:=by first|omega|exact Xa rfl|(simp only [Xj,Xz,Xf,Xp,Xc,XJ,Xt,Xr,XL];omega)):YE P st o (· = .int .i64 (a+b)) (.val (.int .i64 (a+b))):=
 ZB6 ho hx hy h1 h2
theorem ZeX {a b:Int} (ho:o.op= .binOp .sub t x y t':=by exact rfl) (hx:ev st.slots x=some (.int .i64 a,q):=by exact rfl) (hy:ev st.slots y=some (.int .i64 b,q'):=by exact rfl) (h1: -9223372036854775808≤a-b:=by first|omega|exact Xa rfl|(simp only [Xj,Xz,Xf,Xp,Xc,XJ,Xt,Xr,XL];omega)) (h2:a-b≤9223372036854775807:=by first|omega|exact Xa rfl|(simp only [Xj,Xz,Xf,Xp,Xc,XJ,Xt,Xr,XL];omega)):YE P st o (· = .int .i64 (a-b)) (.val (.int .i64 (a-b))):=
 ZB7 ho hx hy h1 h2
theorem ZgG {a b:Int} (ho:o.op= .binOp .mul t x y t':=by exact rfl) (hx:ev st.slots x=some (.int .i64 a,q):=by exact rfl) (hy:ev st.slots y=some (.int .i64 b,q'):=by exact rfl) (h1: -9223372036854775808≤a*b:=by first|omega|exact Xa rfl|(simp only [Xj,Xz,Xf,Xp,Xc,XJ,Xt,Xr,XL];omega)) (h2:a*b≤9223372036854775807:=by first|omega|exact Xa rfl|(simp only [Xj,Xz,Xf,Xp,Xc,XJ,Xt,Xr,XL];omega)):YE P st o (· = .int .i64 (a*b)) (.val (.int .i64 (a*b))):=
 ZB8 ho hx hy h1 h2
theorem ZCK {a b:Bool} (hu:P.underlying t=some .bool) (ho:o.op= .binOp .eql t x y t':=by exact rfl) (hx:ev st.slots x=some (.bool a,q):=by exact rfl) (hy:ev st.slots y=some (.bool b,q'):=by exact rfl):YE P st o (· = .bool (a==b)) (.val (.bool (a==b))):=
 ZCz hu ho hx hy
theorem ZCL {a b:Bool} (hu:P.underlying t=some .bool) (ho:o.op= .binOp .neq t x y t':=by exact rfl) (hx:ev st.slots x=some (.bool a,q):=by exact rfl) (hy:ev st.slots y=some (.bool b,q'):=by exact rfl):YE P st o (· = .bool (!(a==b))) (.val (.bool (!(a==b)))):=
 ZCA hu ho hx hy
theorem ZtC {s:ByteArray} {i:Int} {c:UInt8} {k:IntKind} (hu:P.underlying t=some .string) (ho:o.op= .index t x y:=by exact rfl) (hx:ev st.slots x=some (.string s,q):=by exact rfl) (hy:ev st.slots y=some (.int k i,q'):=by exact rfl) (hi:0≤i:=by first|omega|exact Xa rfl|(simp only [Xj,Xz,Xf,Xp,Xc,XJ,Xt,Xr,XL];omega)) (hc:s.data[i.toNat]? =some c:=by assumption):YE P st o (· = .int .u8 c.toNat) (.val (.int .u8 c.toNat)):=
 ZzU hu ho hx hy hi hc
theorem ZCM {P:Program} {st:St} {o:Oper} {x:Operand} {s d:TypeId} {k k':IntKind} {a:Int} {q:PV} {ds:TypeDesc} (hs:P.underlying s=some ds) (hd:P.underlying d=some (.int k')) (ho:o.op= .convert s d x:=by exact rfl) (hx:ev st.slots x=some (.int k a,q):=by exact rfl) (hw:k'.wrap a=a:=by (exact IntWalk.i64_in _ (by first|omega|exact Xa rfl|(simp only [Xj,Xz,Xf,Xp,Xc,XJ,Xt,Xr,XL];omega)))):YE P st o (· = .int k' a) (.val (.int k' a)):=
 Zr4 hs hd ho hx hw
theorem Zoj {P:Program} {st:St} {o:Oper} {x:Operand} {t:TypeId} {s:ByteArray} {q:PV} (ht:P.underlying t=some .string) (ho:o.op= .call {callee:= .builtin .len,args:= #[x],argTypes:= #[t]}:=by exact rfl) (hx:ev st.slots x=some (.string s,q):=by exact rfl):YE P st o (· = .int .i64 s.size) (.val (.int .i64 s.size)):=
 ZCB ht ho hx
theorem ζl {P:Program} {st:St} {o:Oper} {x:Operand} {i:Nat} {vs:List Value} {ps:List PV} {v:Value} {p:PV} (ho:o.op= .extract x i:=by exact rfl) (hx:ev st.slots x=some (.tuple vs.toArray, .tup ps):=by exact rfl) (hv:vs[i]? =some v:=by exact rfl) (hp:ps[i]? =some p:=by exact rfl):YE P st o (· =v) p:=
 ZuJ ho hx hv hp
theorem Zim {s f fo j:Nat} {x:Operand} {v:Value} {cs:List PV} (hT:FldT P s f fo=true) (ho:o.op= .fieldAddr s x f:=by exact rfl) (hx:ev st.slots x=some (v, .sptr j cs):=by exact rfl):YE P st o (· =padd v fo) (.sptr (j+fo) cs):=
 ZuK hT ho hx
theorem ζh {s f fo j e k n:Nat} {x:Operand} {h:Value} {p:PV} {cs:List PV} (l:Nat) (hT:FldT P s f fo=true) (ho:o.op= .fieldAddr s x f:=by exact rfl) (hx:ev st.slots x=some (padd (sbase h) j,p):=by exact rfl) (hl:lk st.heap l=some (h, .own e k n cs):=by exact rfl) (hn:0<n:=by first|omega|exact Xa rfl|(simp only [Xj,Xz,Xf,Xp,Xc,XJ,Xt,Xr,XL];omega)):YE P st o (· =padd (sbase h) (j+fo)) (.val (padd (sbase h) (j+fo))):=
 ZuL l hT ho hx hl hn
theorem ζI {t e k n:Nat} {x y:Operand} {v:Value} {cs:List PV} {q:PV} {kd:IntKind} {i:Nat} (hT:SlT P t e k=true) (ho:o.op= .indexAddr t x y:=by exact rfl) (hx:ev st.slots x=some (v, .sl n cs):=by exact rfl) (hy:ev st.slots y=some (.int kd (i:Int),q):=by exact rfl) (h1:i<n:=by first|omega|exact Xa rfl|(simp only [Xj,Xz,Xf,Xp,Xc,XJ,Xt,Xr,XL];omega)):YE P st o (· =padd (sbase v) (i*k)) (.sptr (i*k) cs):=
 Zr5 hT ho hx hy h1
theorem ζv {t e k e' k' n:Nat} {x y:Operand} {h:Value} {p q:PV} {cs:List PV} {kd:IntKind} {i:Nat} (l:Nat) (hT:SlT P t e k=true) (ho:o.op= .indexAddr t x y:=by exact rfl) (hx:ev st.slots x=some (h,p):=by exact rfl) (hy:ev st.slots y=some (.int kd (i:Int),q):=by exact rfl) (hl:lk st.heap l=some (h, .own e' k' n cs):=by exact rfl) (h1:i<n:=by first|omega|exact Xa rfl|(simp only [Xj,Xz,Xf,Xp,Xc,XJ,Xt,Xr,XL];omega)):YE P st o (· =padd (sbase h) (i*k)) (.val (padd (sbase h) (i*k))):=
 Zr6 l hT ho hx hy hl h1
theorem Zk1 {t e k n:Nat} {x y:Operand} {v:Value} {cs:List PV} {q:PV} {kd:IntKind} {i:Int} (hT:SlT P t e k=true) (ho:o.op= .indexAddr t x y:=by exact rfl) (hx:ev st.slots x=some (v, .sl n cs):=by exact rfl) (hy:ev st.slots y=some (.int kd i,q):=by exact rfl) (h0:0≤i:=by first|omega|exact Xa rfl|(simp only [Xj,Xz,Xf,Xp,Xc,XJ,Xt,Xr,XL];omega)) (h1:i<n:=by first|omega|exact Xa rfl|(simp only [Xj,Xz,Xf,Xp,Xc,XJ,Xt,Xr,XL];omega)):YE P st o (· =padd (sbase v) (i.toNat*k)) (.sptr (i.toNat*k) cs):=
 ZmP hT ho hx hy h0 h1
theorem Zdp {t e k e' k' n:Nat} {x y:Operand} {h:Value} {p q:PV} {cs:List PV} {kd:IntKind} {i:Int} (l:Nat) (hT:SlT P t e k=true) (ho:o.op= .indexAddr t x y:=by exact rfl) (hx:ev st.slots x=some (h,p):=by exact rfl) (hy:ev st.slots y=some (.int kd i,q):=by exact rfl) (hl:lk st.heap l=some (h, .own e' k' n cs):=by exact rfl) (h0:0≤i:=by first|omega|exact Xa rfl|(simp only [Xj,Xz,Xf,Xp,Xc,XJ,Xt,Xr,XL];omega)) (h1:i<n:=by first|omega|exact Xa rfl|(simp only [Xj,Xz,Xf,Xp,Xc,XJ,Xt,Xr,XL];omega)):YE P st o (· =padd (sbase h) (i.toNat*k)) (.val (padd (sbase h) (i.toNat*k))):=
 ZmQ l hT ho hx hy hl h0 h1
theorem ZaE {t j:Nat} {x:Operand} {v:Value} {cs:List PV} {p:PV} (hT:NoAgg P t=true) (ho:o.op= .load t x:=by exact rfl) (hx:ev st.slots x=some (v, .sptr j cs):=by exact rfl) (hp:cs[j]? =some p:=by first|exact rfl|assumption):YE P st o (vOf p) p:=
 ZwE hT ho hx hp
theorem ζq {t j e k n:Nat} {x:Operand} {h:Value} {q:PV} {cs:List PV} {p:PV} (l:Nat) (hT:NoAgg P t=true) (ho:o.op= .load t x:=by exact rfl) (hx:ev st.slots x=some (padd (sbase h) j,q):=by exact rfl) (hl:lk st.heap l=some (h, .own e k n cs):=by exact rfl) (hp:cs[j]? =some p:=by first|exact rfl|assumption) (hsh:isSh p=true:=by exact rfl):YE P st o (vOf p) p:=
 ZwF l hT ho hx hl hp hsh
theorem ZaQ {t k j:Nat} {x:Operand} {v:Value} {cs ps:List PV} (hT:AggT P t k=true) (ho:o.op= .load t x:=by exact rfl) (hx:ev sL x=some (v, .sptr j cs):=by exact rfl) (hp:j+k≤cs.length:=by first|omega|exact Xa rfl|(simp only [Xj,Xz,Xf,Xp,Xc,XJ,Xt,Xr,XL];omega)) (hps:(cs.drop j).take k=ps:=by first|assumption|exact rfl):YE P (⟨sL,hP⟩:St) o (fun _=>True) (.agg ps):=
 Zr9 hT ho hx hp hps
theorem ζk {t k j e k' n:Nat} {x:Operand} {h:Value} {q:PV} {cs ps:List PV} (l:Nat) (hT:AggT P t k=true) (ho:o.op= .load t x:=by exact rfl) (hx:ev sL x=some (padd (sbase h) j,q):=by exact rfl) (hl:lk hP l=some (h, .own e k' n cs):=by exact rfl) (hp:j+k≤cs.length:=by first|omega|exact Xa rfl|(simp only [Xj,Xz,Xf,Xp,Xc,XJ,Xt,Xr,XL];omega)) (hk:0<k:=by decide) (hps:(cs.drop j).take k=ps:=by first|assumption|exact rfl) (hsh:ps.all isSh=true:=by first|exact rfl|decide):YE P (⟨sL,hP⟩:St) o (fun _=>True) (.agg ps):=
 Zsa l hT ho hx hl hp hk hps hsh
theorem ζU {t e k n:Nat} {x:Operand} {v:Value} {cs:List PV} (hT:SlT P t e k=true) (ho:o.op= .call {callee:= .builtin .len,args:= #[x],argTypes:= #[t]}:=by exact rfl) (hx:ev st.slots x=some (v, .sl n cs):=by exact rfl):YE P st o (· = .int .i64 n) (.val (.int .i64 n)):=
 ZuO hT ho hx
theorem ZaH {t e k e' k' n:Nat} {x:Operand} {h:Value} {p:PV} {cs:List PV} (l:Nat) (hT:SlT P t e k=true) (ho:o.op= .call {callee:= .builtin .len,args:= #[x],argTypes:= #[t]}:=by exact rfl) (hx:ev st.slots x=some (h,p):=by exact rfl) (hl:lk st.heap l=some (h, .own e' k' n cs):=by exact rfl):YE P st o (· = .int .i64 n) (.val (.int .i64 n)):=
 ZuP l hT ho hx hl
theorem ZkB {t ks e:Nat} {x:Operand} {m:Value} {kv:List (Value×Value)} {p:PV} (l:Nat) (ht:P.underlying t=some (.map ks e)) (ho:o.op= .call {callee:= .builtin .len,args:= #[x],argTypes:= #[t]}:=by exact rfl) (hx:ev sL x=some (m,p):=by exact rfl) (hl:lk hP l=some (m, .omap kv):=by exact rfl):YE P (⟨sL,hP⟩:St) o (· = .int .i64 kv.length) (.val (.int .i64 kv.length)):=
 ZwL l ht ho hx hl
theorem ζB {t:Nat} {parts:Array (Nat×Operand)} {z:Value} {offs:List Nat} {zs:List Value} {es:List (Nat×Ent)} (hT:ZbX P t=some (z,offs.map fun o=>(o,1))) (hzs:z.cells=zs.toArray:=by exact rfl) (ho:o.op= .build t parts:=by exact rfl) (hx:evP sL parts.toList=some es:=by exact rfl) (h1:es.all (fun x=>one x.2.2)=true:=by first|exact rfl|(simp only [XF,XG,XH,Xg];(repeat (first|refine ⟨?_,?_⟩|rfl|assumption)))) (hin:es.all (fun x=>decide (x.1<offs.length)&&decide (offs.getD x.1 0<zs.length))=true:=by exact rfl):YE P (⟨sL,hP⟩:St) o (· = .agg (Zko offs zs (es.map fun x=>(x.1,x.2.1))).toArray) (.agg (Zko offs (zs.map .val) (es.map fun x=>(x.1,x.2.2)))):=
 Zz2 hT hzs ho hx h1 hin
theorem Zsc {f:Nat} {caps:Array Operand} {es:List Ent} (ho:o.op= .makeFunc (.func f) #[] caps:=by exact rfl) (hx:evL sL caps.toList=some es:=by exact rfl):YE P (⟨sL,hP⟩:St) o (· = .func (.func f) #[] (es.map (·.1)).toArray) (.fn f (es.map (·.2))):=
 ZCG ho hx
theorem ZpM {t ks e:Nat} {kd:TypeDesc} {z:Value} {x y:Operand} {m k:Value} {kv:List (Value×Value)} {p q:PV} (l:Nat) (hT:MpT P t ks e kd z) (ho:o.op= .lookup t x y true:=by exact rfl) (hx:ev sL x=some (m,p):=by exact rfl) (hl:lk hP l=some (m, .omap kv):=by exact rfl) (hy:ev sL y=some (k,q):=by exact rfl) (hk:kok kd k kv:=by first|exact Zii _ _|exact Zij _ _|exact ZkA _ _|assumption):YE P (⟨sL,hP⟩:St) o (· = .tuple [(Zca kv k).getD z, .bool (Zca kv k).isSome].toArray) (.tup [.val ((Zca kv k).getD z), .val (.bool (Zca kv k).isSome)]):=
 ZuT l hT ho hx hl hy hk
theorem ZwP {t ks e:Nat} {kd:TypeDesc} {z u:Value} {x y:Operand} {m k:Value} {kv:List (Value×Value)} {p q:PV} (l:Nat) (hT:MpT P t ks e kd z) (ho:o.op= .lookup t x y false:=by exact rfl) (hx:ev sL x=some (m,p):=by exact rfl) (hl:lk hP l=some (m, .omap kv):=by exact rfl) (hy:ev sL y=some (k,q):=by exact rfl) (hk:kok kd k kv:=by first|exact Zii _ _|exact Zij _ _|exact ZkA _ _|assumption) (hu:(Zca kv k).getD z=u:=by assumption):YE P (⟨sL,hP⟩:St) o (· =u) (.val u):=
 ZuU l hT ho hx hl hy hk hu
theorem ZwQ {t:TypeId} {x:Operand} {v:Value} {p:PV} (d:Nat) (k:∀h:Value,aL P c ops Q rest ⟨put d (padd (sbase h) 0, .val (padd (sbase h) 0)) sL,put d (h, .own t 1 1 [p]) hP⟩) (hw:ζZ ops sL o=some true:=by exact rfl) (hd:o.dst=some d:=by exact rfl) (hn:d<c.nt:=by exact Xa rfl) (ho:o.op= .box t x:=by exact rfl) (hx:ev sL x=some (v,p):=by exact rfl) (h1:one p=true:=by first|exact rfl|assumption) (hl:lk hP d=none:=by exact rfl):aL P c ops Q (o::rest) (⟨sL,hP⟩:St):=
 ZzW d hw hd hn ho hx h1 hl k
theorem ζH {t:TypeId} {x:Operand} {v:Value} {ps:List PV} (d:Nat) (m:Nat) (k:∀h:Value,aL P c ops Q rest ⟨put d (padd (sbase h) 0, .val (padd (sbase h) 0)) sL,put d (h, .own t m 1 ps) hP⟩) (hw:ζZ ops sL o=some true:=by exact rfl) (hd:o.dst=some d:=by exact rfl) (hn:d<c.nt:=by exact Xa rfl) (ho:o.op= .box t x:=by exact rfl) (hx:ev sL x=some (v, .agg ps):=by exact rfl) (hm:ps.length=m:=by exact rfl) (hl:lk hP d=none:=by exact rfl):aL P c ops Q (o::rest) (⟨sL,hP⟩:St):=
 ZzX d m hw hd hn ho hx hm hl k
theorem ζs {t:TypeId} {z:Value} (zs:List Value) (m:Nat) (d:Nat) (hz:ZeroT P t z) (k:∀h:Value,aL P c ops Q rest ⟨put d (padd (sbase h) 0, .val (padd (sbase h) 0)) sL,put d (h, .own t m 1 (zs.map .val)) hP⟩) (hw:ζZ ops sL o=some true:=by exact rfl) (hd:o.dst=some d:=by exact rfl) (hn:d<c.nt:=by exact Xa rfl) (ho:o.op= .alloc t:=by exact rfl) (hzs:z.cells=zs.toArray:=by exact rfl) (hm:zs.length=m:=by exact rfl) (hl:lk hP d=none:=by exact rfl):aL P c ops Q (o::rest) (⟨sL,hP⟩:St):=
 ZwG zs m d hw hd hn ho hz hzs hm hl k
theorem ZfY {t e bytes:Nat} {z:Value} {x y:Operand} {n:Nat} {q q':PV} (d:Nat) (hT:ElT P t e 1 bytes z) (k:∀h:Value,h.oneCell'=true→aL P c ops Q rest ⟨put d (h, .val h) sL,put d (h, .own e 1 n (List.replicate n (.val z))) hP⟩) (hw:ζZ ops sL o=some true:=by exact rfl) (hd:o.dst=some d:=by exact rfl) (hn:d<c.nt:=by exact Xa rfl) (ho:o.op= .makeSlice t x y:=by exact rfl) (hx:ev sL x=some (.int .i64 n,q):=by exact rfl) (hy:ev sL y=some (.int .i64 n,q'):=by exact rfl) (hl:lk hP d=none:=by exact rfl) (hb:bytes*n≤281474976710656:=by first|omega|exact Xa rfl|(simp only [Xj,Xz,Xf,Xp,Xc,XJ,Xt,Xr,XL];omega)) (hn2:n≤9223372036854775807:=by first|omega|exact Xa rfl|(simp only [Xj,Xz,Xf,Xp,Xc,XJ,Xt,Xr,XL];omega)) (hz1:z.oneCell'=true:=by exact rfl):aL P c ops Q (o::rest) (⟨sL,hP⟩:St):=
 ZzY d hT hw hd hn ho hx hy hl hb hn2 hz1 k
theorem ZwR {t e kk bytes:Nat} {z:Value} (d:Nat) (hT:ElT P t e kk bytes z) (k:∀h:Value,h.oneCell'=true→aL P c ops Q rest ⟨put d (h, .val h) sL,put d (h, .own e kk 0 []) hP⟩) (hw:ζZ ops sL o=some true:=by exact rfl) (hd:o.dst=some d:=by exact rfl) (hn:d<c.nt:=by exact Xa rfl) (ho:o.op= .buildSlice t 0 #[]:=by exact rfl) (hl:lk hP d=none:=by exact rfl):aL P c ops Q (o::rest) (⟨sL,hP⟩:St):=
 ZzZ d hT hw hd hn ho hl k
theorem ζP {t e kk bytes:Nat} {z:Value} {x:Operand} {v:Value} {p:PV} (d:Nat) (hT:ElT P t e 1 bytes z) (k:∀h:Value,h.oneCell'=true→aL P c ops Q rest ⟨put d (h, .val h) sL,put d (h, .own e 1 1 [p]) hP⟩) (hw:ζZ ops sL o=some true:=by exact rfl) (hd:o.dst=some d:=by exact rfl) (hn:d<c.nt:=by exact Xa rfl) (ho:o.op= .buildSlice t 1 #[(0,x)]:=by exact rfl) (hx:ev sL x=some (v,p):=by exact rfl) (h10:one p=true:=by first|exact rfl|assumption) (hl:lk hP d=none:=by exact rfl):aL P c ops Q (o::rest) (⟨sL,hP⟩:St):=
 Zz0 (kk:=1) d hT hw hd hn ho hx h10 hl k
theorem Zaw {t e kk bytes:Nat} {z:Value} {x:Operand} {v:Value} {ps:List PV} (d:Nat) (hT:ElT P t e kk bytes z) (k:∀h:Value,h.oneCell'=true→aL P c ops Q rest ⟨put d (h, .val h) sL,put d (h, .own e kk 1 ps) hP⟩) (hw:ζZ ops sL o=some true:=by exact rfl) (hd:o.dst=some d:=by exact rfl) (hn:d<c.nt:=by exact Xa rfl) (ho:o.op= .buildSlice t 1 #[(0,x)]:=by exact rfl) (hx:ev sL x=some (v, .agg ps):=by exact rfl) (hps:ps.length=kk:=by exact rfl) (hkb:kk≤1000:=by decide) (hl:lk hP d=none:=by exact rfl):aL P c ops Q (o::rest) (⟨sL,hP⟩:St):=
 ZwH d hT hw hd hn ho hx hps hkb hl k
theorem Zja {t e bytes m:Nat} {z:Value} {xs:List Operand} {parts:Array (Nat×Operand)} {es:List Ent} (d:Nat) (hT:ElT P t e 1 bytes z) (k:∀h:Value,h.oneCell'=true→aL P c ops Q rest ⟨put d (h, .val h) sL,put d (h, .own e 1 m (es.map (·.2))) hP⟩) (hw:ζZ ops sL o=some true:=by exact rfl) (hd:o.dst=some d:=by exact rfl) (hn:d<c.nt:=by exact Xa rfl) (ho:o.op= .buildSlice t m parts:=by exact rfl) (hpt:parts=((xs.zipIdx).map fun x=>(x.2,x.1)).toArray:=by exact rfl) (hx:evL sL xs=some es:=by exact rfl) (h1:es.all (fun x=>one x.2)=true:=by exact rfl) (hm:es.length=m:=by exact rfl) (hm0:0<m:=by decide) (hm1:m≤1000:=by decide) (hl:lk hP d=none:=by exact rfl):aL P c ops Q (o::rest) (⟨sL,hP⟩:St):=
 Zz1 d hT hw hd hn ho hpt hx h1 hm hm0 hm1 hl k
theorem ZbQ {t j e kk n:Nat} {x y:Operand} {h v:Value} {q p:PV} {cs:List PV} (l:Nat) (hT:NoAgg P t=true) (hsz:(P.info? t).map (·.size)=some 1) (k:aL P c ops Q rest ⟨sL,put l (h, .own e kk n (cs.set j p)) hP⟩) (hw:ζZ ops sL o=some true:=by exact rfl) (hd:o.dst=none:=by exact rfl) (ho:o.op= .store t x y:=by exact rfl) (hx:ev sL x=some (padd (sbase h) j,q):=by exact rfl) (hy:ev sL y=some (v,p):=by exact rfl) (h1:one p=true:=by first|exact rfl|assumption) (hl:lk hP l=some (h, .own e kk n cs):=by exact rfl) (hj:j<cs.length:=by first|omega|exact Xa rfl|(simp only [Xj,Xz,Xf,Xp,Xc,XJ,Xt,Xr,XL];omega)):aL P c ops Q (o::rest) (⟨sL,hP⟩:St):=
 ZCC l hw hd hT hsz ho hx hy h1 hl hj k
theorem ζt {t j e kk n m:Nat} {x y:Operand} {h V:Value} {q:PV} {ps cs:List PV} (l:Nat) (hT:AggT P t m=true) (k:aL P c ops Q rest ⟨sL,put l (h, .own e kk n (ZdU cs j ps)) hP⟩) (hw:ζZ ops sL o=some true:=by exact rfl) (hd:o.dst=none:=by exact rfl) (ho:o.op= .store t x y:=by exact rfl) (hx:ev sL x=some (padd (sbase h) j,q):=by exact rfl) (hy:ev sL y=some (V, .agg ps):=by exact rfl) (hm:ps.length=m:=by exact rfl) (h1:ps.all one=true:=by first|exact rfl|(simp only [XF,XG,XH,Xg];(repeat (first|refine ⟨?_,?_⟩|rfl|assumption)))) (hl:lk hP l=some (h, .own e kk n cs):=by exact rfl) (hj:j+m≤cs.length:=by first|omega|exact Xa rfl|(simp only [Xj,Xz,Xf,Xp,Xc,XJ,Xt,Xr,XL];omega)) (hm0:0<m:=by decide):aL P c ops Q (o::rest) (⟨sL,hP⟩:St):=
 ZCD l hw hd hT ho hx hy hm h1 hl hj hm0 k
theorem ZfZ {t:Nat} (d:Nat) (k:∀m:Value,m.oneCell'=true→aL P c ops Q rest ⟨put d (m, .val m) sL,put d (m, .omap []) hP⟩) (hw:ζZ ops sL o=some true:=by exact rfl) (hd:o.dst=some d:=by exact rfl) (hn:d<c.nt:=by exact Xa rfl) (ho:o.op= .makeMap t none:=by exact rfl) (hl:lk hP d=none:=by exact rfl):aL P c ops Q (o::rest) (⟨sL,hP⟩:St):=
 ZwM d hw hd hn ho hl k
theorem ZhU {t ks e:Nat} {kd:TypeDesc} {z:Value} {x y u:Operand} {m k v:Value} {kv:List (Value×Value)} {p q r:PV} (l:Nat) (hT:MpT P t ks e kd z) (kk:aL P c ops Q rest ⟨sL,put l (m, .omap (Zdn kv k v)) hP⟩) (hw:ζZ ops sL o=some true:=by exact rfl) (hd:o.dst=none:=by exact rfl) (ho:o.op= .mapUpdate t x y u:=by exact rfl) (hx:ev sL x=some (m,p):=by exact rfl) (hl:lk hP l=some (m, .omap kv):=by exact rfl) (hy:ev sL y=some (k,q):=by exact rfl) (hu:ev sL u=some (v,r):=by exact rfl) (hk:kok kd k kv:=by first|exact Zii _ _|exact Zij _ _|exact ZkA _ _|assumption) (hbits:bits k=true:=by exact rfl):aL P c ops Q (o::rest) (⟨sL,hP⟩:St):=
 Zz7 l hw hd hT ho hx hl hy hu hk hbits kk
theorem ζ0 {t ty e kk bytes n m:Nat} {z:Value} {x y:Operand} {h h2:Value} {q q2:PV} {cs cs2:List PV} (l:Nat) (l2:Nat) (d:Nat) (hT:ElT P t e kk bytes z) (k:∀h':Value,h'.oneCell'=true→aL P c ops Q rest ⟨put d (h', .val h') sL,put d (h', .own e kk (n+m) (cs++cs2)) (del l2 (del l hP))⟩) (hw:ζZ ops sL o=some true:=by exact rfl) (hd:o.dst=some d:=by exact rfl) (hn:d<c.nt:=by exact Xa rfl) (hty:o.type=ty:=by exact rfl) (ho:o.op= .call {callee:= .builtin .append,args:= #[x,y],argTypes:= #[t,t]}:=by exact rfl) (hx:ev sL x=some (h,q):=by exact rfl) (hy:ev sL y=some (h2,q2):=by exact rfl) (hll:Nat.beq l l2=false:=by exact rfl) (hl:lk hP l=some (h, .own e kk n cs):=by exact rfl) (hl2:lk hP l2=some (h2, .own e kk m cs2):=by exact rfl) (hdl:lk (del l2 (del l hP)) d=none:=by exact rfl) (hm:0<m:=by decide) (hok:cs2.all Ze9=true:=by first|exact rfl|(simp only [XF,XG,XH,Xg];(repeat (first|refine ⟨?_,?_⟩|rfl|assumption)))) (hlen:n+m≤9223372036854775807:=by first|omega|exact Xa rfl|(simp only [Xj,Xz,Xf,Xp,Xc,XJ,Xt,Xr,XL];omega)) (hb:(n+m)*bytes≤140737488355328:=by first|omega|exact Xa rfl|(simp only [Xj,Xz,Xf,Xp,Xc,XJ,Xt,Xr,XL];omega)) (hdr:¬c.dr:=by exact id):aL P c ops Q (o::rest) (⟨sL,hP⟩:St):=
 ZuQ l l2 d hT hw hd hn hty ho hx hy hll hl hl2 hdl hm hok hlen hb hdr k
theorem bLd {l:List Oper} (t:Nat) {p:Prop} {_:Decidable p} {q:PV} (ht:p→aL P c ops Q l ⟨put t (.bool true, .val (.bool true)) sL,hP⟩) (hf:¬p→aL P c ops Q l ⟨put t (.bool false, .val (.bool false)) sL,hP⟩) (hx:lk sL t=some (.bool (decide p),q):=by exact rfl):aL P c ops Q l (⟨sL,hP⟩:St):=
 Zpx t hx (fun h=>ht (of_decide_eq_true h)) (fun h=>hf (of_decide_eq_false h))
theorem bDd (t:Nat) {p:Prop} {_:Decidable p} {q:PV} (ht:p→aD P c ops Q Z K fuel listed ⟨put t (.bool true, .val (.bool true)) sL,hP⟩) (hf:¬p→aD P c ops Q Z K fuel listed ⟨put t (.bool false, .val (.bool false)) sL,hP⟩) (hx:lk sL t=some (.bool (decide p),q):=by exact rfl):aD P c ops Q Z K fuel listed (⟨sL,hP⟩:St):=
 ZwO t hx (fun h=>ht (of_decide_eq_true h)) (fun h=>hf (of_decide_eq_false h))
theorem cC {x:Operand} {t e:Code} {b:Bool} {q:PV} (ht:b=true→aC P c t Q (⟨sL,hP⟩:St)) (hf:b=false→aC P c e Q (⟨sL,hP⟩:St)) (hx:ev sL x=some (.bool b,q):=by exact rfl):aC P c (.cond x t e) Q (⟨sL,hP⟩:St):=Zky hx ht hf
theorem cCd {x:Operand} {t e:Code} {p:Prop} {_:Decidable p} {q:PV} (ht:p→aC P c t Q (⟨sL,hP⟩:St)) (hf:¬p→aC P c e Q (⟨sL,hP⟩:St)) (hx:ev sL x=some (.bool (decide p),q):=by exact rfl):aC P c (.cond x t e) Q (⟨sL,hP⟩:St):=Zky hx (fun h=>ht (of_decide_eq_true h)) (fun h=>hf (of_decide_eq_false h))
theorem cCt {x:Operand} {t e:Code} {q:PV} (ht:aC P c t Q (⟨sL,hP⟩:St)) (hx:ev sL x=some (.bool true,q):=by exact rfl):aC P c (.cond x t e) Q (⟨sL,hP⟩:St):=Zky hx (fun _=>ht) (fun h=>Bool.noConfusion h)
theorem cCf {x:Operand} {t e:Code} {q:PV} (hf:aC P c e Q (⟨sL,hP⟩:St)) (hx:ev sL x=some (.bool false,q):=by exact rfl):aC P c (.cond x t e) Q (⟨sL,hP⟩:St):=Zky hx (fun h=>Bool.noConfusion h) (fun _=>hf)
theorem cA {dd:Prop} {f:Nat} {xs:Array Operand} {ats:Array TypeId} {es:List Ent} {ps:List PV} {R:PV→Prop} (hc:∀args w,(callFunc f args).run P w= .ok (.enter f args) w) (hA:AFd dd P f ps R) (ho:o.op= .call {callee:= .value (.func f),args:=xs,argTypes:=ats}:=by exact rfl) (hx:evL sL xs.toList=some es:=by exact rfl) (hps:es.map (·.2)=ps:=by exact rfl) (hdd:c.dr→dd:=by first|exact id|exact fun h=>h.elim|exact fun _=>trivial):Zew P c (⟨sL,hP⟩:St) o R:=
 ZDV ho hc hx (hps▸hA) hdd
theorem cS {p:PV} (d:Nat) (hC:Zew P c (⟨sL,hP⟩:St) o (· =p)) (k:∀v,vOf p v→aL P c ops Q rest ⟨put d (v,p) sL,hP⟩) (hsh:isSh p=true:=by exact rfl) (hw:ζZ ops sL o=some true:=by exact rfl) (hd:o.dst=some d:=by exact rfl) (hn:d<c.nt:=by exact Xa rfl):aL P c ops Q (o::rest) (⟨sL,hP⟩:St):=
 ZDX d hw hd hn hC fun p' hp=>by subst hp;exact ⟨hsh,k⟩
theorem cO {p:PV} (d:Nat) (hC:Zew P c (⟨sL,hP⟩:St) o (· =p)) (k:∀v,v.oneCell'=true→aL P c ops Q rest ⟨put d (v, .val v) sL,put d (v,p) hP⟩) (hok:Ze9 p=true:=by exact rfl) (hl:lk hP d=none:=by exact rfl) (hw:ζZ ops sL o=some true:=by exact rfl) (hd:o.dst=some d:=by exact rfl) (hn:d<c.nt:=by exact Xa rfl):aL P c ops Q (o::rest) (⟨sL,hP⟩:St):=
 ZDY d hw hd hn hl hC fun p' hp=>by subst hp;exact ⟨hok,k⟩
end
mutual
def shD:PV→Bool
 | .val _=>true
 | .sl _ _=>true
 | .sptr _ _=>true
 | .smap _=>true
 | .own _ _ _ _=>false
 | .omap _=>false
 | .obox _ _ _=>false
 | .agg ps=>ZuW ps
 | .tup ps=>ZuW ps
 | .fn _ _=>true
 | .oblk _ _ _ _=>false
def ZuW:List PV→Bool
 |[]=>true
 |p::l=>shD p&&ZuW l
end
theorem Zk2:∀l:List PV,ZuW l=l.all shD
 |[]=>by simp [ZuW]
 |p::l=>by simp [ZuW,Zk2 l]
theorem Tr.shD {M:BS} {w:World} {v:Value} {p:PV} {F:BS} (h:Tr M w v p F):En.shD p=true→Shr M w v p:=by
 induction h with
 |shr h _=>exact fun _=>h
 |own=>intro h;rw [En.shD] at h;cases h
 |omap=>intro h;rw [En.shD] at h;cases h
 |oblk=>intro h;rw [En.shD] at h;cases h
 |obox=>intro h;rw [En.shD] at h;cases h
 | @agg ps F vs Fs hl h hd hF ih=>
   intro hs;rw [En.shD,Zk2] at hs;exact .agg vs ps hl fun i v p hv hp=>ih i v p hv hp (XD.1 hs p (Xb hp))
 | @tup ps F vs Fs hl h hd hF ih=>
   intro hs;rw [En.shD,Zk2] at hs;exact .tup vs ps hl fun i v p hv hp=>ih i v p hv hp (XD.1 hs p (Xb hp))
section
variable {P:Program} {c:Ctx} {ops:Array Oper} {Q:Exit→Act→World→Prop} {rest:List Oper} {st:St} {sL hP:List (Nat×Ent)} {o:Oper} {Z:Nat→Bool} {K:List Nat} {fuel:Nat} {listed:Array Bool}
theorem ZhV {x:Operand} {v:Value} {j:Nat} {cs:List PV} (ho:o.op= .nilCheck x:=by exact rfl) (hx:ev st.slots x=some (v, .sptr j cs):=by exact rfl):YE P st o (· =v) (.sptr j cs):=
 .exact fun M F a w H=>by
  obtain ⟨hv,hs⟩:=H.ev hx
  cases hs with
  |sptr b off j cs vs hcell hT'=>exact ⟨.sptr b off j cs vs hcell hT',by simp [execOp,ho,hv]⟩
theorem Zsd {x:Operand} {h:Value} {q:PV} {j e k n:Nat} {cs:List PV} (l:Nat) (ho:o.op= .nilCheck x:=by exact rfl) (hx:ev st.slots x=some (padd (sbase h) j,q):=by exact rfl) (hl:lk st.heap l=some (h, .own e k n cs):=by exact rfl) (hn:0<n:=by first|omega|decide):YE P st o (· =padd (sbase h) j) (.val (padd (sbase h) j)):=
 .exact fun M F a w H=>by
  have hv:=(H.ev hx).1;obtain ⟨g,cap,rfl,_⟩:=Zdk (H.tr l _ _ hl) hn;refine ⟨.val _,?_⟩;simp only [sbase,padd] at hv ⊢;simp [execOp,ho,hv]
theorem ZkC {l t j e k n:Nat} {h:Value} {cs:List PV} {q:PV} (hl:lk hP l=some (h, .own e k n cs)) (hn:0<n) (ht:lk sL t=some (padd (sbase h) j,q)):Zgx (⟨sL,hP⟩:St) (fun _:Unit=>⟨put t (padd (sbase h) j, .sptr j (ZdD cs)) sL,del l hP⟩):=fun c a w ⟨F,H⟩=>by
 refine ⟨(),F,?_⟩
 have hm:∀b,mof c (del l hP) F b→mof c hP F b:=by
  rintro b (h|⟨l',x,h1,h2⟩)
  · exact .inl h
  · exact .inr ⟨l',x,(Za1 h1).2,h2⟩
 have H1:HoldsF c ⟨sL,del l hP⟩ F a w:=H.less (fun _ _ h=>h) (fun _ _ h=>(Za1 h).2)
 refine ⟨H1.toHeapF,fun s u r hs=>?_,H.size,H.df⟩
 rcases Zak hs with ⟨rfl,e1⟩|⟨_,hs'⟩
 · cases e1;refine ⟨(H.sl t _ _ ht).1,?_⟩;obtain ⟨g,cap,rfl,_⟩:=Zdk (H.tr l _ _ hl) hn;have h2:=(H.tr l _ _ hl).share (M':=mof c (del l hP) F) (fun b _ h=>hm b h) fun b hb hmb=>by
    rcases hmb with h1|⟨l',x,h1,h2⟩
    · exact H.apart h1 hl hb
    · exact H.dj l l' _ _ b (Za1 h1).1 hl (Za1 h1).2 hb h2
   rw [share] at h2;generalize ZdD cs=cs' at h2 ⊢
   cases h2 with
   |emp=>omega
   |sl _ _ _ _ _ vs _ _ hcell hT=>exact .sptr g 0 j cs' vs hcell hT
 · exact H1.sl s u r hs'
theorem cB {dd:Prop} {f:Nat} {xs:Array Operand} {ats:Array TypeId} {ps:List PV} {R:PV→Prop} (ho:o.op= .call {callee:= .value (.func f),args:=xs,argTypes:=ats}) (hc:∀args w,(callFunc f args).run P w= .ok (.enter f args) w) (hA:AFd dd P f ps R) (hx:Zz5 (⟨sL,hP⟩:St) xs.toList ps) (hR:∀p,R p→nosh p=true:=by rintro p rfl;exact rfl) (hdd:c.dr→dd:=by first|exact id|exact fun h=>h.elim|exact fun _=>trivial):Zew P c (⟨sL,hP⟩:St) o R:=ZDW ho hc hx hA hR hdd
theorem ZaM {i d:Nat} {p:PV} (ho:ops[i]? =some o) (hC:Zew P c (⟨sL,hP⟩:St) o (· =p)) (k:∀v,vOf p v→aD P c ops Q Z K fuel (listed.setIfInBounds i true) ⟨put d (v,p) sL,hP⟩) (hsh:shD p=true:=by exact rfl) (hw:ζZ ops sL o=some true:=by exact rfl) (hd:o.dst=some d:=by exact rfl) (hn:d<c.nt:=by exact Xa rfl):aW P c ops Q Z K fuel listed (⟨sL,hP⟩:St) i:=fun a w F H C hC'=>by
 refine Zdj (Q':=fun _ a' w'=>(Z i=true∨C w')∧ZcZ P .any ops Q C Z fuel (listed.setIfInBounds i true) a' w') ho (fun a' w' hq=>hq) ?_
 have h1:=ZdE H.rd hw
 unfold wpList
 rw [h1,if_pos rfl]
 refine .inl ?_
 obtain ⟨f,args,hr,hcall⟩:=hC a w F H
 unfold Oper.wp
 rw [hr,Oper.upon_enter]
 refine hcall.mono fun e w' ⟨v,q,Fr,e1,e2,e3,e4,e5,e6⟩=>?_
 subst e1
 rw [show q=p from e2] at e4
 have hS:=e4.shD hsh
 have H2:HoldsF c ⟨put d (v,p) sL,hP⟩ F (a.put (some d) v) w':=Zi8 H e3 hn (hS.anti fun b _ h=> .inl h)
 simp only [Oper.upon,hd]
 have hch:Chg (nK K hP F) w w':=e3.chg
 exact ⟨.inr (hC' w' hch),k v hS.vOf _ w' F H2 C fun W hW=>hC' W (hch.tr hW fun b hb=> .inl hb)⟩
theorem cD {p:PV} (d:Nat) (hC:Zew P c (⟨sL,hP⟩:St) o (· =p)) (k:∀v,vOf p v→aL P c ops Q rest ⟨put d (v,p) sL,hP⟩) (hsh:shD p=true:=by exact rfl) (hw:ζZ ops sL o=some true:=by exact rfl) (hd:o.dst=some d:=by exact rfl) (hn:d<c.nt:=by exact Xa rfl):aL P c ops Q (o::rest) (⟨sL,hP⟩:St):=
 Zfk hw hC fun a w F w' v p' Fr H hR hx hT hlo hdw=>by
  rw [show p'=p from hR] at hT;have hS:=hT.shD hsh;rw [hd];exact k v hS.vOf _ _ ⟨F,Zi8 H hx hn (hS.anti fun b _ h=> .inl h)⟩
theorem cP {p1 p2:PV} (d:Nat) (hC:Zew P c (⟨sL,hP⟩:St) o (· = .tup [p1,p2])) (k:∀v1 v2,vOf p1 v1→vOf p2 v2→aL P c ops Q rest ⟨put d (.tuple [v1,v2].toArray, .tup [p1,p2]) sL,hP⟩) (hsh:shD (.tup [p1,p2])=true:=by exact rfl) (hw:ζZ ops sL o=some true:=by exact rfl) (hd:o.dst=some d:=by exact rfl) (hn:d<c.nt:=by exact Xa rfl):aL P c ops Q (o::rest) (⟨sL,hP⟩:St):=
 Zfk hw hC fun a w F w' v p' Fr H hR hx hT hlo hdw=>by
  rw [show p'= .tup [p1,p2] from hR] at hT;have hS:=hT.shD hsh;rw [hd];have hS':Shr (mof c hP F) w' v (.tup [p1,p2]):=hS.anti fun b _ h=> .inl h
  cases hS with
  | tup vs ps hl h=>
    match vs,hl,h,hS' with
    |[v1,v2],_,h,hS'=>exact k v1 v2 (h 0 v1 p1 rfl rfl).vOf (h 1 v2 p2 rfl rfl).vOf _ _ ⟨F,Zi8 H hx hn hS'⟩
theorem Zfm (i j k:Nat) (hr:Region.ready .any ops listed=[i,j,k]) (h:aW P c ops Q Z K fuel listed (⟨sL,hP⟩:St) i) (h':aW P c ops Q Z K fuel listed (⟨sL,hP⟩:St) j) (h'':aW P c ops Q Z K fuel listed (⟨sL,hP⟩:St) k):aD P c ops Q Z K (fuel+1) listed (⟨sL,hP⟩:St):=fun a w F H C hC=>
 ⟨(fun hn=>by rw [hr] at hn;cases hn),fun m hm=>by
   rw [hr] at hm;rcases (by simpa using hm:m=i∨m=j∨m=k) with rfl|rfl|rfl
   · exact h a w F H C hC
   · exact h' a w F H C hC
   · exact h'' a w F H C hC⟩
theorem ZaA {ι:Type} {S:ι→St} (i:ι) (hs:Sub (S i).slots sL) (hh:Sub (S i).heap hP):aN c (Exit.then (fun a w=>∃i,Holds c (S i) a w) Q) (⟨sL,hP⟩:St):=ZCF i hs hh
end
theorem ZEq (a b:Nat):Nat.beq a b=(a==b):=by
 cases h:Nat.beq a b
 · exact (beq_eq_false_iff_ne.2 (fun e=>by rw [e] at h;simp at h)).symm
 · exact (beq_iff_eq.2 (XP h)).symm
theorem nrm {A B:Prop} (h:B) (e:B→A:=by intro h;(try simp only [ZdF,Zcv,put,del,ZEq,List.elem,X1,Vy,Nat.reduceBEq,cond_true,cond_false]);exact h):A:=e h
section
variable {P:Program} {c:Ctx} {sL hP:List (Nat×Ent)}
theorem Zfn {F:Nat→BS} {a:Act} {w:World} (H:HoldsF c (⟨sL,hP⟩:St) F a w) {t ty k l e k' n:Nat} {h:Value} {q:PV} {cs:List PV} (hT:AggT P ty k=true) (ht:lk sL t=some (padd (sbase h) 0,q)) (hl:lk hP l=some (h, .own e k' n cs)) (hp:k≤cs.length) (hk:0<k) (hsh:(cs.take k).all isSh=true):
 ∃V A,(asAddr (a.tmps.getD t undef)).run P w= .ok A w∧(loadVar ty A).run P w= .ok V w∧Shr (mof c hP F) w V (.agg (cs.take k)):=by
 have hv:=(H.sl t _ _ ht).1
 obtain ⟨xs,Fs,hrow,hlen,hTr,hd,hb,hF'⟩:=(H.tr l _ _ hl).row
 rcases ZaX hrow with ⟨_,_,rfl⟩|⟨g,cap,rfl,h1,h2,h3⟩
 · simp at hlen;rw [hlen] at hp;simp at hp;omega
 refine ⟨.agg (xs.take k).toArray,⟨g,0,none⟩,?_,?_, .agg _ _ (by simp;omega) (fun i u p hu hp'=>?_)⟩
 · simp only [sbase,padd,Xw] at hv;simp [XY,hv,asAddr]
 · have hcl:∀i u,(xs.take k)[i]? =some u→w.cell? ((⟨g,0,none⟩:Addr).add i)=some u:=fun i u hu=>by
    (have hi:i<k:=by have:=ζg hu;simp at this;omega);rw [XZ hi] at hu;rw [Za9,Xw];exact ZbM hrow hu
   have:=run_loadCells_list (P:=P) (w:=w) ⟨g,0,none⟩ _ hcl;rw [show (xs.take k).length=k by simp;omega] at this;simp [loadVar,AggT.run hT,AggT.size hT,this]
 · have hi:i<k:=by have:=ζg hu;simp at this;omega
   have hps:=XD.1 hsh p (Xb hp');rw [XZ hi] at hp' hu;exact (hTr _ u p hu hp').sh hps
theorem ZbA {fn:Func} {R:PV→Prop} {t ty k e k' n:Nat} {h:Value} {q:PV} {cs:List PV} (l:Nat) (hT:AggT P ty k=true) (hr:fn.results= #[.cell t ty]) (ht:lk sL t=some (padd (sbase h) 0,q)) (hl:lk hP l=some (h, .own e k' n cs)) (hp:k≤cs.length) (hk:0<k) (hsh:(cs.take k).all isSh=true) (hR:R (.agg (cs.take k))) (hN:∀b,¬c.N0 b:=by intro _ h;exact h) (hdf:c.df=[]:=by exact rfl):aR c (bodyPost P fn (Zfj c R)) (⟨sL,hP⟩:St):=fun a w ⟨F,H⟩=>by
 obtain ⟨V,A,h0,h1,h2⟩:=Zfn H hT ht hl hp hk hsh
 refine ⟨H.df.trans hdf,V,?_,V,_,fun _=>False,rfl,hR,H.ext.ext (fun b _=>hN b), .shr (h2.anti fun b _ hb=>?_) (fun _ h=>h),fun _ h=>h.elim,H.dw⟩
 · simp only [results,hr];simp at h0;simp [h0,h1]
 · rcases hb with hb|hb
   · exact .inl hb
   · exact hb.elim
theorem Zaf {fn:Func} {R:PV→Prop} {t ty s k e k' n:Nat} {h u:Value} {q p:PV} {cs:List PV} (l:Nat) (hT:AggT P ty k=true) (hr:fn.results= #[.cell t ty, .tmp s]) (ht:lk sL t=some (padd (sbase h) 0,q)) (hl:lk hP l=some (h, .own e k' n cs)) (hs:lk sL s=some (u,p)) (hp:k≤cs.length) (hk:0<k) (hsh:(cs.take k).all isSh=true) (hR:R (.tup [.agg (cs.take k),p])) (hN:∀b,¬c.N0 b:=by intro _ h;exact h) (hdf:c.df=[]:=by exact rfl):aR c (bodyPost P fn (Zfj c R)) (⟨sL,hP⟩:St):=fun a w ⟨F,H⟩=>by
 obtain ⟨V,A,h0,h1,h2⟩:=Zfn H hT ht hl hp hk hsh
 obtain ⟨h3,h4⟩:=H.sl s _ _ hs
 have hM:∀b,b<w.heap.size→(c.M0 b∨False)→mof c hP F b:=fun b _ hb=>by
  rcases hb with hb|hb
  · exact .inl hb
  · exact hb.elim
 refine ⟨H.df.trans hdf, .tuple #[V,u],?_, .tuple #[V,u],_,fun _=>False,rfl,hR,H.ext.ext (fun b _=>hN b), .shr (.tup [V,u] _ rfl fun i v q' hv hq'=>?_) (fun _ h=>h),fun _ h=>h.elim,H.dw⟩
 · simp only [results,hr];simp at h0;simp [h0,h1,XY,h3]
 · match i with
   |0=>simp at hv hq';subst hv hq';exact h2.anti hM
   |1=>simp at hv hq';subst hv hq';exact h4.anti hM
   |i+2=>simp at hv
end
end Go.En
namespace Go.Proofs.YtgfabnhpllkebaaGreatDoor
open Go.RowKit Go.Cb Go.En
set_option linter.all false
set_option maxRecDepth 100000
theorem ZmW:NoAgg Tryz.prog 27=true:=by kernel_rfl
theorem ZgH:NoAgg Tryz.prog 9=true:=by kernel_rfl
theorem ZbH:SlT Tryz.prog 27 9 1=true:=by kernel_rfl
theorem Zfo:SlT Tryz.prog 71 27 1=true:=by kernel_rfl
abbrev pU8 (n:Int):PV:= .val (.int .u8 n)
theorem ZpN {a b:Bool} (h:a=true↔b=true):ζV a=ζV b:=by rw [VI.2 h]
theorem ZuX {s:ByteArray} {i:Nat} {x:UInt8} (h:s.data[i]? =some x):i<s.size:=by
 rcases Xv i s.size with h1|h1
 · exact h1
 · rw [Vi h1] at h;cases h
theorem ZtD {s:ByteArray} {i:Nat} (h:i<s.size):∃y,s.data[i]? =some y:=⟨s.data[i]'h,Array.getElem?_eq_getElem h⟩
theorem Zin {s:ByteArray} (h:s.size<1∨40<s.size):ZcY s=false:=by
 unfold ZcY
 rcases h with h|h
 · rw [decide_eq_false (show ¬1≤s.size by omega)];simp
 · rw [decide_eq_false (show ¬s.size≤40 by omega)];simp
theorem Zse {s:ByteArray} {y:UInt8} (h0:s.data[0]? =some y) (h:ZfV y.toNat=false):ZcY s=false:=by
 unfold ZcY;rw [h0,Up,h];simp
theorem Zsf {s:ByteArray} {k:Nat} {y:UInt8} (hy:s.data[k]? =some y) (h:ZkU y.toNat=false):ZcY s=false:=by
 unfold ZcY
 rw [Bool.and_eq_false_iff];right
 rw [List.all_eq_false]
 exact ⟨y,Array.mem_toList_iff.2 (Array.mem_of_getElem? hy),by rw [h];simp⟩
theorem ZpO {s:ByteArray} {y:UInt8} (h1:1≤s.size) (h2:s.size≤40) (h0:s.data[0]? =some y) (hl:ZfV y.toNat=true) (h:∀j z,j<s.size→s.data[j]? =some z→ZkU z.toNat=true):ZcY s=true:=by
 unfold ZcY
 rw [h0,Up,hl,decide_eq_true h1,decide_eq_true h2]
 simp only [Bool.and_self,Bool.true_and,XD]
 intro x hx
 obtain ⟨i,hi⟩:=Array.getElem?_of_mem (Array.mem_toList_iff.1 hx)
 exact h i x (ZuX hi) hi
theorem ZpP (c:Int):AF Tryz.prog 149 [pU8 c] (· =ζV (ZfV c)):=by
 refine AF.of_body 17 Tryz.func149 rfl Tryz.ntmps149 (Xa rfl) ?_
 intro w0 M0 vs hl hv
 obtain ⟨v0,rfl⟩:=Zco hl
 obtain rfl:=hv 0 _ _ rfl rfl
 clear hl hv
 refine nav ?_
 (refine ζa ?_<;>refine xL 2 ζc ?_<;>refine ζd ?_)
 (refine ζa ?_<;>refine xL 3 ζb (xL 4 ZcX (xL 5 ζb ?_))<;>(refine bLd 5 (fun hb5=>?_) (fun hb5=>?_)<;>(first|refine kL 6 ?_|refine xL 6 ζb ?_))<;>(first|refine kL 7 ?_|refine xL 7 ZpL ?_)<;>refine xL 8 ζJ (xL 9 ζb ?_)<;>(first|refine xL 10 ζb ?_|(refine bLd 9 (fun hb9=>?_) (fun hb9=>?_)<;>(first|refine kL 10 ?_|refine xL 10 ζb ?_)))<;>(first|refine kL 11 ?_|refine xL 11 ZcX ?_)<;>(first|refine kL 12 ?_|refine xL 12 ζb ?_)<;>(first|refine kL 13 ?_|(refine bLd 12 (fun hb12=>?_) (fun hb12=>?_)<;>(first|refine kL 13 ?_|refine xL 13 ζb ?_)))<;>(first|refine kL 14 ?_|refine xL 14 ZpL ?_)<;>(first|refine kL 15 ?_|refine xL 15 ζJ ?_)<;>refine xL 16 ζJ (xL 2 ζc ?_)<;>refine ζd ?_)<;>(
  refine ζx (Tryz.results149) rfl (ZpN ?_);simp only [ZfV,Vp,Xg,decide_eq_true_eq,true_iff,false_iff,V3]<;>omega)
theorem ZCN (c:Int):AF Tryz.prog 150 [pU8 c] (· =ζV (ZkU c)):=by
 refine AF.of_body 25 Tryz.func150 rfl Tryz.ntmps150 (Xa rfl) ?_
 intro w0 M0 vs hl hv
 obtain ⟨v0,rfl⟩:=Zco hl
 obtain rfl:=hv 0 _ _ rfl rfl
 clear hl hv
 refine nav ?_
 (refine ζa ?_<;>refine xL 2 ζc ?_<;>refine ζd ?_)
 (refine ζa ?_<;>refine xL 3 ζb ?_<;>(refine cS 4 (cA Tryz.call149 (ZpP c)) fun v4 h=>?_;cases h)<;>refine xL 5 ζb ?_<;>(refine bL 5 (fun hb5=>?_) (fun hb5=>?_)<;>(first|refine kL 6 ?_|refine xL 6 ζb ?_))<;>(first|refine kL 7 ?_|refine xL 7 ZcX ?_)<;>(first|refine kL 8 ?_|refine xL 8 ζb ?_)<;>(first|refine kL 9 ?_|(refine bLd 8 (fun hb8=>?_) (fun hb8=>?_)<;>(first|refine kL 9 ?_|refine xL 9 ζb ?_)))<;>(first|refine kL 10 ?_|refine xL 10 ZpL ?_)<;>(first|refine kL 11 ?_|refine xL 11 ζJ ?_)<;>refine xL 12 ζJ (xL 13 ζb ?_)<;>(first|refine kL 14 ?_|refine xL 14 ζb ?_|(refine bLd 13 (fun hb13=>?_) (fun hb13=>?_)<;>(first|refine kL 14 ?_|refine xL 14 ζb ?_)))<;>(first|refine kL 15 ?_|refine xL 15 ζ6 ?_)<;>refine xL 16 ζJ (xL 17 ζb ?_)<;>(first|refine kL 18 ?_|(refine bLd 17 (fun hb17=>?_) (fun hb17=>?_)<;>(first|refine kL 18 ?_|refine xL 18 ζb ?_)))<;>(first|refine kL 19 ?_|refine xL 19 ζ6 ?_)<;>refine xL 20 ζJ (xL 21 ζb ?_)<;>(first|refine kL 22 ?_|(refine bLd 21 (fun hb21=>?_) (fun hb21=>?_)<;>(first|refine kL 22 ?_|refine xL 22 ζb ?_)))<;>(first|refine kL 23 ?_|refine xL 23 ζ6 ?_)<;>refine xL 24 ζJ (xL 2 ζc ?_)<;>refine ζd ?_)<;>(
  refine ζx (Tryz.results150) rfl (ZpN ?_);simp only [ZkU,Vp,Xg,decide_eq_true_eq,true_iff,false_iff,V3,beq_iff_eq]<;>simp_all<;>omega)
theorem ZwS (s:ByteArray) (hs:s.size≤9223372036854775807):AF Tryz.prog 103 [Zab s] (· =ζV (ZcY s)):=by
 refine AF.of_body 29 Tryz.func103 rfl Tryz.ntmps103 (Xa rfl) ?_
 intro w0 M0 vs hl hv
 obtain ⟨v0,rfl⟩:=Zco hl
 obtain rfl:=hv 0 _ _ rfl rfl
 clear hl hv
 refine nav ?_
 (refine ζa ?_<;>refine xL 2 ζc ?_<;>refine ζd ?_)
 (refine ζa ?_<;>refine xL 4 ζb (xL 5 (Zoj Tryz.underlying9) (xL 6 ζK (xL 7 ζb ?_)))<;>(refine bLd 7 (fun hb7=>?_) (fun hb7=>?_)<;>(first|refine kL 8 ?_|refine xL 8 ζb ?_))<;>(first|refine kL 9 ?_|refine xL 9 (Zoj Tryz.underlying9) ?_)<;>(first|refine kL 10 ?_|refine xL 10 ZaF ?_)<;>refine xL 11 ζJ (xL 12 ζb ?_)<;>(first|refine kL 13 ?_|(refine bLd 12 (fun hb12=>?_) (fun hb12=>?_)<;>(first|refine kL 13 ?_|refine xL 13 ζb ?_)))<;>(first|refine kL 14 ?_|(refine (ZtD (i:=0) (s:=s) (by omega)).elim fun y0 hy0=>?_;refine xL 14 (ZtC Tryz.underlying9) ?_))<;>(first|refine kL 15 ?_|(refine cS 15 (cA Tryz.call149 (ZpP y0.toNat)) fun v15 h=>?_;cases h))<;>(first|refine kL 16 ?_|refine xL 16 Zav ?_)<;>refine xL 17 ζJ ?_<;>refine ζd ?_)<;>(
  (first|refine cCd ?_ ?_|refine cC ?_ ?_)<;>intro hb17
  · first
    |exact bN hb17
    | (
     refine nav ?_;(refine ζa ?_<;>refine xL 2 ζc ?_<;>refine ζd ?_)
     refine ζx (Tryz.results103) rfl ?_
     first|rw [Zin (by omega)]|rw [Zse hy0 (by simpa using hb17)])
  · first
    |exact bN hb17
    | (
     refine nav ?_;(refine ζa ?_<;>refine xL 18 ζb (xL 19 (Zoj Tryz.underlying9) (xL 20 ζb ?_))<;>refine ζd ?_)
     refine ζy (ι:={k:Nat//k≤s.size∧∀j y,j<k→s.data[j]? =some y→ZkU y.toNat=true}) (fun k=>⟨[(0,_,_),(19,_,_),(20, .int .i64 k.1,pInt k.1)],[]⟩) (fun k=>s.size-k.1) ⟨0,by omega,by omega⟩ (fun a w H=>H.weaken ⟨rfl,rfl,rfl,trivial⟩ trivial) ?_;rintro ⟨k,hk,hp⟩;dsimp only;refine nav ?_;(refine ζa ?_<;>refine xL 21 ζK ?_<;>refine ζd ?_)
     (first|refine cCd ?_ ?_|refine cC ?_ ?_)<;>intro hb21
     · first
       |exact bN hb21
       | (
        (have hlt:k<s.size:=by omega);obtain ⟨y,hy⟩:=ZtD (s:=s) (i:=k) (by omega);refine nav ?_;(refine ζa ?_<;>refine xL 22 ζb (xL 3 ζc ?_)<;>refine ζd ?_)
        (refine ζa ?_<;>refine xL 23 ζb (xL 24 ζb (xL 25 (ZtC Tryz.underlying9) ?_))<;>(refine cS 26 (cA Tryz.call150 (ZCN y.toNat)) fun v26 h=>?_;cases h)<;>refine xL 27 Zav ?_<;>refine ζd ?_)
        (first|refine cCd ?_ ?_|refine cC ?_ ?_)<;>intro hb27
        · first
          |exact bN hb27
          | (
           refine nav ?_;(refine ζa ?_<;>refine xL 2 ζc ?_<;>refine ζd ?_)
           refine ζx (Tryz.results103) rfl ?_;rw [Zsf hy (by simpa using hb27)])
        · first
          |exact bN hb27
          | (
           refine nav ?_;(refine ζa ?_<;>refine xL 28 ζG (xL 20 ζb ?_)<;>refine ζd ?_)
           refine ζj (
            ⟨k+1,by omega,fun j z hj hz=>by
             by_cases e:j=k
             · subst e;rw [hy] at hz;cases hz;simpa using hb27
             · exact hp j z (by omega) hz⟩
            ) (by dsimp only;omega) ⟨rfl,rfl,rfl,trivial⟩ trivial))
     · first
       |exact bN hb21
       | (
        refine nav ?_;(refine ζa ?_<;>refine xL 2 ζc ?_<;>refine ζd ?_)
        refine ζx (Tryz.results103) rfl ?_;rw [ZpO (by omega) (by omega) hy0 (by simpa using hb17) (fun j z hj hz=>hp j z (by omega) hz)])))
theorem ZpQ {α:Type} {p:α→Bool} {l:List α} {k:Nat} {x:α} (hx:l[k]? =some x) (h:p x=false):l.all p=false:=List.all_eq_false.2 ⟨x,Xb hx,by rw [h];simp⟩
theorem Zz9 {α:Type} {p:α→Bool} {l:List α} (h:∀(j:Nat) x,l[j]? =some x→p x=true):l.all p=true:=XD.2 fun x hx=>by
 obtain ⟨j,hj⟩:=Ve hx
 exact h j x hj
theorem Zk3 (a b:ByteArray):Zc1 a b=Zc1 b a:=by unfold Zc1;rw [VI];simp only [beq_iff_eq];exact eq_comm
theorem ZpR (l:List ByteArray) (s:ByteArray):AF Tryz.prog 86 [ZaY l,Zab s] (· =pInt (idx (fun x=>Zc1 x s) l)):=by
 refine AF.of_body 19 Tryz.func86 rfl Tryz.ntmps86 (Xa rfl) ?_
 intro w0 M0 vs hl hv
 obtain ⟨v0,v1,rfl⟩:=Zbl hl
 obtain rfl:=hv 1 _ _ rfl rfl
 clear hl hv
 refine Zb9 0 rfl fun hlen=>?_
 refine nav ?_
 (refine ζa ?_<;>refine xL 4 ζc ?_<;>refine ζd ?_)
 (refine ζa ?_<;>refine xL 6 ζb (xL 7 (ζU ZbH) (xL 8 ζb ?_))<;>refine ζd ?_)
 refine ζy (ι:={k:Nat//k≤l.length∧∀i y,i<k→l[i]? =some y→Zc1 y s=false}) (fun k=>⟨[(0,_,_),(1,_,_),(7,_,_),(8, .int .i64 k.1,pInt k.1)],[]⟩) (fun k=>l.length-k.1) ⟨0,by omega,by omega⟩ (fun a w H=>H.weaken ⟨rfl,rfl,rfl,rfl,trivial⟩ trivial) ?_
 rintro ⟨k,hk,hp⟩
 dsimp only
 refine nav ?_
 (refine ζa ?_<;>refine xL 9 ζK ?_<;>refine ζd ?_)
 (first|refine cCd ?_ ?_|refine cC ?_ ?_)<;>intro hb9
 · first
   |exact bN hb9
   | (
    obtain ⟨x,hx⟩:=ζm (show k<l.length by omega);have e1:=Zas (f:=Zab) hx;refine nav ?_;(refine ζa ?_<;>refine xL 10 ζb (xL 5 ζc ?_)<;>refine ζd ?_)
    (refine ζa ?_<;>refine xL 11 ζb (xL 12 ζb (xL 13 ζb (xL 14 (ζI ZbH) ?_)))<;>(refine yL 15 (ZaE ZgH) fun v15 h=>?_;cases h)<;>refine xL 16 ZfX ?_<;>refine ζd ?_)
    (first|refine cCd ?_ ?_|refine cC ?_ ?_)<;>intro hb16
    · first
      |exact bN hb16
      | (
       (replace hb16:Zc1 x s=true:=by rw [Zk3];exact hb16);refine nav ?_;(refine ζa ?_<;>refine xL 17 ζb (xL 4 ζc ?_)<;>refine ζd ?_)
       refine ζx (Tryz.results86) rfl ?_;rw [ZgC hp hx hb16])
    · first
      |exact bN hb16
      | (
       (replace hb16:Zc1 x s=false:=by rw [Zk3];exact hb16);refine nav ?_;(refine ζa ?_<;>refine xL 18 ζG (xL 8 ζb ?_)<;>refine ζd ?_)
       refine ζj (
        ⟨k+1,by omega,fun i y hi hy=>by
         by_cases e:i=k
         · subst e;rw [hx] at hy;cases hy;exact hb16
         · exact hp i y (by omega) hy⟩
        ) (by dsimp only;omega) ⟨rfl,rfl,rfl,rfl,trivial⟩ trivial))
 · first
   |exact bN hb9
   | (
    refine nav ?_;(refine ζa ?_<;>refine xL 4 ζc ?_<;>refine ζd ?_)
    refine ζx (Tryz.results86) rfl ?_;rw [Zif fun i y hi hy=>hp i y (by omega) hy])
theorem ZwT {l m:List ByteArray} {k:Nat} {x y:ByteArray} (hx:l[k]? =some x) (hy:m[k]? =some y):Zdm (l.drop k) (m.drop k)=if Zay x y=0 then Zdm (l.drop (k+1)) (m.drop (k+1)) else Zay x y:=by rw [Zig hx,Zig hy,Zdm]
theorem ZuY {a b:ByteArray} (h:Zb6 a b=true):Zay a b= -1:=by unfold Zay;rw [if_pos h]
theorem ZuZ {a b:ByteArray} (h:(!(Zb6 a b||Zc1 a b))=true):Zay a b=1:=by
 simp only [Bool.not_eq_true',Ue] at h
 unfold Zay;rw [if_neg (by rw [h.1];simp),if_neg (by rw [h.2];simp)]
theorem Zu0 {a b:ByteArray} (h1:Zb6 a b=false) (h:(!(Zb6 a b||Zc1 a b))=false):Zay a b=0:=by
 rw [h1,Bool.false_or,Bool.not_eq_false'] at h
 unfold Zay;rw [if_neg (by rw [h1];simp),if_pos h]
theorem Zok {l m:List ByteArray} {k:Nat} (h:¬(k<l.length∧k<m.length)) (hk:k≤l.length) (hk':k≤m.length):Zdm (l.drop k) (m.drop k)=if l.length<m.length then-1 else if m.length<l.length then 1 else 0:=by
 by_cases h1:l.length=k
 · rw [X0 (show l.length≤k by omega)];by_cases h2:m.length=k
   · rw [X0 (show m.length≤k by omega),if_neg (by omega),if_neg (by omega)];rfl
   · obtain ⟨y,hy⟩:=ζm (show k<m.length by omega);rw [Zig hy,if_pos (by omega)];rfl
 · have h2:m.length=k:=by omega
   rw [X0 (show m.length≤k by omega)];obtain ⟨x,hx⟩:=ζm (show k<l.length by omega);rw [Zig hx,if_neg (by omega),if_pos (by omega)];rfl
theorem Zsg (l m:List ByteArray):AF Tryz.prog 141 [ZaY l,ZaY m] (· =pInt (Zdm l m)):=by
 refine AF.of_body 46 Tryz.func141 rfl Tryz.ntmps141 (Xa rfl) ?_
 intro w0 M0 vs hl hv
 obtain ⟨v0,v1,rfl⟩:=Zbl hl
 clear hl hv
 refine Zb9 0 rfl fun hlen=>?_
 refine Zb9 1 rfl fun hlem=>?_
 refine nav ?_
 (refine ζa ?_<;>refine xL 4 ζc ?_<;>refine ζd ?_)
 (refine ζa ?_<;>refine xL 5 ζc ?_<;>refine ζd ?_)
 refine ζy (ι:={k:Nat//k≤l.length∧k≤m.length∧Zdm l m=Zdm (l.drop k) (m.drop k)}) (fun k=>⟨[(0,_,_),(1,_,_),(5, .int .i64 k.1,pInt k.1)],[]⟩) (fun k=>l.length-k.1) ⟨0,by omega,by omega,rfl⟩ (fun a w H=>H.weaken ⟨rfl,rfl,rfl,trivial⟩ trivial) ?_
 rintro ⟨k,hk,hk',hp⟩
 dsimp only
 refine nav ?_
 (refine ζa ?_<;>refine xL 6 ζb (xL 7 ζb (xL 8 (ζU ZbH) (xL 9 ζK (xL 10 ζb ?_))))<;>(refine bLd 10 (fun hb10=>?_) (fun hb10=>?_)<;>(first|refine kL 11 ?_|refine xL 11 ζb ?_))<;>(first|refine kL 12 ?_|refine xL 12 ζb ?_)<;>(first|refine kL 13 ?_|refine xL 13 (ζU ZbH) ?_)<;>(first|refine kL 14 ?_|refine xL 14 ζK ?_)<;>refine xL 15 ζJ ?_<;>refine ζd ?_)<;>(
  (first|refine cCd ?_ ?_|refine cC ?_ ?_)<;>intro hb15
  · first
    |exact bN hb15
    | (
     obtain ⟨x,hx⟩:=ζm (show k<l.length by omega);obtain ⟨y,hy⟩:=ζm (show k<m.length by omega);have e1:=Zas (f:=Zab) hx;have e2:=Zas (f:=Zab) hy;have hs:=ZwT hx hy;refine nav ?_;(refine ζY (fun i=>([]:List Nat).elem i) [] kR ?_<;>refine xD 0 18 rfl ζb ?_<;>refine xD 1 19 rfl ζb ?_<;>refine xD 2 20 rfl (ζI ZbH) ?_<;>(refine yD 3 21 rfl (ZaE ZgH) fun v21 h=>?_;cases h)<;>refine xD 4 22 rfl ζb ?_<;>refine xE 5 23 rfl ζb ?_<;>refine xE 6 24 rfl (ζI ZbH) ?_<;>(refine yE 7 25 rfl (ZaE ZgH) fun v25 h=>?_;cases h)<;>refine xE 8 26 rfl ZCI ?_<;>refine Zam kR (nav ?_)<;>try dsimp only)
     (first|refine cCd ?_ ?_|refine cC ?_ ?_)<;>intro hb26
     · first
       |exact bN hb26
       | (
        refine nav ?_;(refine ζa ?_<;>refine xL 4 ζc ?_<;>refine ζd ?_)
        refine ζx (Tryz.results141) rfl ?_;rw [hp,hs,ZuY hb26];rfl)
     · first
       |exact bN hb26
       | (
        refine nav ?_;(refine ζY (fun i=>([]:List Nat).elem i) [] kR ?_<;>refine xD 0 27 rfl ζb ?_<;>refine xD 1 28 rfl ζb ?_<;>refine xD 2 29 rfl (ζI ZbH) ?_<;>(refine yD 3 30 rfl (ZaE ZgH) fun v30 h=>?_;cases h)<;>refine xD 4 31 rfl ζb ?_<;>refine xE 5 32 rfl ζb ?_<;>refine xE 6 33 rfl (ζI ZbH) ?_<;>(refine yE 7 34 rfl (ZaE ZgH) fun v34 h=>?_;cases h)<;>refine xE 8 35 rfl ZCJ ?_<;>refine Zam kR (nav ?_)<;>try dsimp only)
        (first|refine cCd ?_ ?_|refine cC ?_ ?_)<;>intro hb35
        · first
          |exact bN hb35
          | (
           refine nav ?_;(refine ζa ?_<;>refine xL 4 ζc ?_<;>refine ζd ?_)
           refine ζx (Tryz.results141) rfl ?_;rw [hp,hs,ZuZ hb35];rfl)
        · first
          |exact bN hb35
          | (
           refine nav ?_;(refine ζa ?_<;>refine xL 16 ζb (xL 17 ζG (xL 5 ζc ?_))<;>refine ζd ?_)
           refine ζj (
            ⟨k+1,by omega,by omega,by rw [hp,hs,Zu0 hb26 hb35];rfl⟩
            ) (by dsimp only;omega) ⟨rfl,rfl,rfl,trivial⟩ trivial)))
  · first
    |exact bN hb15
    | (
     refine nav ?_;(refine ζa ?_<;>refine xL 36 ζb (xL 37 (ζU ZbH) (xL 38 ζb (xL 39 (ζU ZbH) (xL 40 ζK ?_))))<;>refine ζd ?_)
     (first|refine cCd ?_ ?_|refine cC ?_ ?_)<;>intro hb40
     · first
       |exact bN hb40
       | (
        refine nav ?_;(refine ζa ?_<;>refine xL 4 ζc ?_<;>refine ζd ?_)
        refine ζx (Tryz.results141) rfl ?_;rw [hp,Zok (by omega) hk hk',if_pos (by omega)])
     · first
       |exact bN hb40
       | (
        refine nav ?_;(refine ζa ?_<;>refine xL 41 ζb (xL 42 (ζU ZbH) (xL 43 ζb (xL 44 (ζU ZbH) (xL 45 ZaF ?_))))<;>refine ζd ?_)
        (first|refine cCd ?_ ?_|refine cC ?_ ?_)<;>intro hb45
        · first
          |exact bN hb45
          | (
           refine nav ?_;(refine ζa ?_<;>refine xL 4 ζc ?_<;>refine ζd ?_)
           refine ζx (Tryz.results141) rfl ?_;rw [hp,Zok (by omega) hk hk',if_neg (by omega),if_pos (by omega)])
        · first
          |exact bN hb45
          | (
           refine nav ?_;(refine ζa ?_<;>refine xL 4 ζc ?_<;>refine ζd ?_)
           refine ζx (Tryz.results141) rfl ?_;rw [hp,Zok (by omega) hk hk',if_neg (by omega),if_neg (by omega)]))))
theorem ZAa (l m:List ByteArray):AF Tryz.prog 92 [ZaY l,ZaY m] (· =ζV (decide (Zdm l m=0))):=by
 refine AF.of_body 9 Tryz.func92 rfl Tryz.ntmps92 (Xa rfl) ?_
 intro w0 M0 vs hl hv
 obtain ⟨v0,v1,rfl⟩:=Zbl hl
 clear hl hv
 refine nav ?_
 (refine ζa ?_<;>refine xL 4 ζc ?_<;>refine ζd ?_)
 (refine ζa ?_<;>refine xL 5 ζb (xL 6 ζb ?_)<;>(refine cS 7 (cA Tryz.call141 (Zsg l m)) fun v7 h=>?_;cases h)<;>refine xL 8 ζ6 (xL 4 ζc ?_)<;>refine ζd ?_)
 exact ζx Tryz.results92 rfl rfl
theorem ZmX {α β:Type} {r:α→β→Bool}:∀{l:List α} {m:List β} {k:Nat} {x:α} {y:β},l[k]? =some x→m[k]? =some y→r x y=false→ZkW r l m=false
 |a::l,b::m,0,x,y,hx,hy,h=>by simp at hx hy;subst hx hy;rw [ZkW,h];rfl
 |a::l,b::m,k+1,x,y,hx,hy,h=>by rw [ZkW,ZmX (l:=l) (m:=m) (k:=k) (by simpa using hx) (by simpa using hy) h];simp
 |[],_,k,x,y,hx,_,_=>by simp at hx
 |_::_,[],k,x,y,_,hy,_=>by simp at hy
theorem ZpS {α β:Type} {r:α→β→Bool}:∀{l:List α} {m:List β},l.length=m.length→(∀(k:Nat) x y,l[k]? =some x→m[k]? =some y→r x y=true)→ZkW r l m=true
 |[],[],_,_=>rfl
 |a::l,b::m,hl,h=>by rw [ZkW,h 0 a b rfl rfl,ZpS (l:=l) (m:=m) (by simpa using hl) (fun k x y hx hy=>h (k+1) x y (by simpa using hx) (by simpa using hy))];rfl
 |[],_::_,hl,_=>by simp at hl
 |_::_,[],hl,_=>by simp at hl
def Zio (l m:List (List ByteArray)):Bool:=ZkW (fun a b=>decide (Zdm a b=0)) l m
theorem Zsh (l m:List (List ByteArray)):AF Tryz.prog 44 [Zi9 l,Zi9 m] (· =ζV (Zio l m)):=by
 refine AF.of_body 27 Tryz.func44 rfl Tryz.ntmps44 (Xa rfl) ?_
 intro w0 M0 vs hl hv
 obtain ⟨v0,v1,rfl⟩:=Zbl hl
 clear hl hv
 refine Zb9 0 rfl fun hlen=>?_
 refine Zb9 1 rfl fun hlem=>?_
 refine nav ?_
 (refine ζa ?_<;>refine xL 4 ζc ?_<;>refine ζd ?_)
 (refine ζa ?_<;>refine xL 6 ζb (xL 7 (ζU Zfo) (xL 8 ζb (xL 9 (ζU Zfo) (xL 10 Zaz ?_))))<;>refine ζd ?_)
 (first|refine cCd ?_ ?_|refine cC ?_ ?_)<;>intro hb10
 · first
   |exact bN hb10
   | (
    refine nav ?_;(refine ζa ?_<;>refine xL 4 ζc ?_<;>refine ζd ?_)
    refine ζx (Tryz.results44) rfl ?_;rw [show Zio l m=false from Bool.eq_false_iff.2 fun h=>by have:=ZpH h;omega])
 · first
   |exact bN hb10
   | (
    refine nav ?_;(refine ζa ?_<;>refine xL 5 ζc ?_<;>refine ζd ?_)
    refine ζy (ι:={k:Nat//k≤l.length∧∀j x y,j<k→l[j]? =some x→m[j]? =some y→decide (Zdm x y=0)=true}) (fun k=>⟨[(0,_,_),(1,_,_),(5, .int .i64 k.1,pInt k.1)],[]⟩) (fun k=>l.length-k.1) ⟨0,by omega,by omega⟩ (fun a w H=>H.weaken ⟨rfl,rfl,rfl,trivial⟩ trivial) ?_;rintro ⟨k,hk,hp⟩;dsimp only;refine nav ?_;(refine ζa ?_<;>refine xL 11 ζb (xL 12 ζb (xL 13 (ζU Zfo) (xL 14 ζK ?_)))<;>refine ζd ?_)
    (first|refine cCd ?_ ?_|refine cC ?_ ?_)<;>intro hb14
    · first
      |exact bN hb14
      | (
       obtain ⟨x,hx⟩:=ζm (show k<l.length by omega);obtain ⟨y,hy⟩:=ζm (show k<m.length by omega);have e1:=Zas (f:=ZaY) hx;have e2:=Zas (f:=ZaY) hy;refine nav ?_;(refine ζY (fun i=>([]:List Nat).elem i) [] kR ?_<;>refine xD 0 17 rfl ζb ?_<;>refine xD 1 18 rfl ζb ?_<;>refine xD 2 19 rfl (ζI Zfo) ?_<;>(refine yD 3 20 rfl (ZaE ZmW) fun v20 h=>?_;cases h)<;>refine xD 4 21 rfl ζb ?_<;>refine xE 5 22 rfl ζb ?_<;>refine xE 6 23 rfl (ζI Zfo) ?_<;>(refine yE 7 24 rfl (ZaE ZmW) fun v24 h=>?_;cases h)<;>(refine ζi 8 kR ?_)<;>(refine ζf rfl fun w9 M9 N9 DQ back=>?_)<;>(refine cS 25 (cA Tryz.call92 (ZAa x y)) fun v25 h=>?_;cases h)<;>refine ζe (back _ (nrm ?_))<;>refine xE 9 26 rfl Zav ?_<;>refine Zam kR (nav ?_)<;>try dsimp only)
       (first|refine cCd ?_ ?_|refine cC ?_ ?_)<;>intro hb26
       · first
         |exact bN hb26
         | (
          refine nav ?_;(refine ζa ?_<;>refine xL 4 ζc ?_<;>refine ζd ?_)
          refine ζx (Tryz.results44) rfl ?_;rw [show Zio l m=false from ZmX hx hy (by simpa using hb26)])
       · first
         |exact bN hb26
         | (
          refine nav ?_;(refine ζa ?_<;>refine xL 15 ζb (xL 16 ζG (xL 5 ζc ?_))<;>refine ζd ?_)
          refine ζj (
           ⟨k+1,by omega,fun j a b hj ha hb=>by
            by_cases e:j=k
            · subst e;rw [hx] at ha;cases ha;rw [hy] at hb;cases hb;simpa using hb26
            · exact hp j a b (by omega) ha hb⟩
           ) (by dsimp only;omega) ⟨rfl,rfl,rfl,trivial⟩ trivial))
    · first
      |exact bN hb14
      | (
       refine nav ?_;(refine ζa ?_<;>refine xL 4 ζc ?_<;>refine ζd ?_)
       refine ζx (Tryz.results44) rfl ?_;rw [show Zio l m=true from ZpS (by omega) fun j x y hx hy=>hp j x y (by have:=ζg hx;omega) hx hy]))
end Go.Proofs.YtgfabnhpllkebaaGreatDoor
namespace Go.Cb
open Go.RowKit
set_option linter.all false
open Go.RowKit Go.WideMaps
structure MapT (P:Program) (t ks e:Nat):Prop where
 ht:P.underlying t=some (.map ks e)
 hk:P.underlying ks=some .string
 he:P.underlying e=some (.int .i64)
 hz:∀w,(zeroValue e).run P w= .ok (.int .i64 0) w
theorem Zfp {a b:ByteArray}:Zc1 a b=true↔a=b:=by
 unfold Zc1
 rw [beq_iff_eq,ByteArray.toList_eq,ByteArray.toList_eq]
 exact ⟨fun h=>WideShapes.bytes_inj h,fun h=>by rw [h]⟩
theorem ZmY:∀l:List UInt8,Op.bytesLess l l=false
 |[]=>rfl
 |a::l=>by simp [Op.bytesLess,ZmY l,UInt8.lt_irrefl]
theorem ZpT:∀a b c:List UInt8,Op.bytesLess a b=true→Op.bytesLess b c=true→Op.bytesLess a c=true
 |_,_,[],_,h=>by cases h':(‹List UInt8›:List UInt8)<;>simp_all [Op.bytesLess]
 |_,[],_::_,h,_=>by simp [Op.bytesLess] at h
 |[],_::_,_::_,_,_=>rfl
 | x ::a,y::b,z::c,h1,h2=>by
   simp only [Op.bytesLess,Vp,Xg,decide_eq_true_eq,beq_iff_eq] at h1 h2 ⊢;rcases h1 with h1|⟨rfl,h1⟩
   · rcases h2 with h2|⟨rfl,h2⟩
     · exact .inl (UInt8.lt_trans h1 h2)
     · exact .inl h1
   · rcases h2 with h2|⟨rfl,h2⟩
     · exact .inl h2
     · exact .inr ⟨rfl,ZpT a b c h1 h2⟩
theorem ZpU:∀a b:List UInt8,Op.bytesLess a b=false→Op.bytesLess b a=false→a=b
 |[],[],_,_=>rfl
 |[],_::_,h,_=>by simp [Op.bytesLess] at h
 |_::_,[],_,h=>by simp [Op.bytesLess] at h
 | x::a,y::b,h1,h2=>by
   simp only [Op.bytesLess,Ue,decide_eq_false_iff_not] at h1 h2;have hxy:x=y:=UInt8.le_antisymm (UInt8.not_lt.1 h2.1) (UInt8.not_lt.1 h1.1);subst hxy;simp only [beq_self_eq_true,Bool.true_and] at h1 h2;rw [ZpU a b h1.2 h2.2]
theorem Zdq (a:ByteArray):Zb6 a a=false:=ZmY _
theorem ZgI {a b c:ByteArray} (h:Zb6 a b=true) (k:Zb6 b c=true):Zb6 a c=true:=ZpT _ _ _ h k
theorem ZpV {a b:ByteArray} (h:Zb6 a b=false) (k:Zb6 b a=false):a=b:=by
 have:=ZpU _ _ h k
 rw [ByteArray.toList_eq,ByteArray.toList_eq] at this
 exact WideShapes.bytes_inj this
def Nodup (r:List Var):Prop:=r.Pairwise fun x y=>x.acts≠y.acts
end Go.Cb
namespace Go.Proofs.YtgfabnhpllkebaaGreatDoor
open Go.RowKit Go.Cb Go.En
set_option linter.all false
theorem Zsi (x y:ByteArray):Zay x y= -1∨Zay x y=0∨Zay x y=1:=by
 have:=ZuS x y;omega
theorem Zf0 (x y:ByteArray):(Zb6 x y=true∧Zb6 y x=false∧x≠y∧Zay x y= -1∧Zay y x=1)∨(x=y∧Zay x y=0∧Zay y x=0)∨(Zb6 y x=true∧Zb6 x y=false∧x≠y∧Zay x y=1∧Zay y x= -1):=by
 have hno:∀{a b:ByteArray},Zb6 a b=true→Zb6 b a=false∧a≠b:=fun {a b} h=>by
  have h1:=Zdq a;have h2:=Zdq b;refine ⟨?_,fun e=>by subst e;rw [h] at h1;cases h1⟩
  cases h3:Zb6 b a with
  |false=>rfl
  |true=>rw [ZgI h h3] at h1;cases h1
 have heq:∀a:ByteArray,Zc1 a a=true:=fun a=>Zfp.2 rfl
 have hne:∀{a b:ByteArray},a≠b→Zc1 a b=false:=fun {a b} h=>by
  cases h1:Zc1 a b with
  |false=>rfl
  |true=>exact absurd (Zfp.1 h1) h
 unfold Zay
 cases h:Zb6 x y with
 | true=>
   obtain ⟨h1,h2⟩:=hno h;refine .inl ⟨rfl,h1,h2,by simp,?_⟩;rw [h1,hne (Ne.symm h2)];rfl
 | false=>
   cases h':Zb6 y x with
   | true=>
     obtain ⟨h1,h2⟩:=hno h';refine .inr (.inr ⟨rfl,rfl,Ne.symm h2,?_,by simp⟩);rw [hne (Ne.symm h2)];rfl
   | false=>
     have e:=ZpV h h';subst e;refine .inr (.inl ⟨rfl,?_,?_⟩)<;>simp [heq]
theorem ZpW (x y:ByteArray):Zay y x= -Zay x y:=by
 rcases Zf0 x y with ⟨_,_,_,h1,h2⟩|⟨_,h1,h2⟩|⟨_,_,_,h1,h2⟩<;>omega
theorem Zf1 (x y:ByteArray):Zay x y=0↔x=y:=by
 rcases Zf0 x y with ⟨_,_,h0,h1,h2⟩|⟨h0,h1,h2⟩|⟨_,_,h0,h1,h2⟩
 · exact ⟨fun h=>by omega,fun h=>absurd h h0⟩
 · exact ⟨fun _=>h0,fun _=>h1⟩
 · exact ⟨fun h=>by omega,fun h=>absurd h h0⟩
theorem Zjb {x y:ByteArray}:Zay x y= -1↔Zb6 x y=true:=by
 rcases Zf0 x y with ⟨h0,_,_,h1,h2⟩|⟨h0,h1,h2⟩|⟨_,h0,_,h1,h2⟩
 · exact ⟨fun _=>h0,fun _=>h1⟩
 · subst h0;rw [Zdq];exact ⟨fun h=>by omega,fun h=>by cases h⟩
 · rw [h0];exact ⟨fun h=>by omega,fun h=>by cases h⟩
theorem Zsj (x y z:ByteArray) (h:Zay x y= -1) (h':Zay y z= -1):Zay x z= -1:=Zjb.2 (ZgI (Zjb.1 h) (Zjb.1 h'))
inductive Nd where
 |mk (op:Int) (act:ByteArray) (l:List Nd)
section
def Nd.op:Nd→Int
 | .mk o _ _=>o
def Nd.act:Nd→ByteArray
 | .mk _ a _=>a
def Nd.l:Nd→List Nd
 | .mk _ _ l=>l
theorem Nd.ind {P:Nd→Prop} (h:∀o a l,(∀x∈l,P x)→P (.mk o a l)):∀t,P t:=fun t=>
 Nd.rec (motive_1:=P) (motive_2:=fun l=>∀x∈l,P x) (fun o a l ih=>h o a l ih) (fun _ hx=>by cases hx) (fun x l hx hl y hy=>by
  rcases Xl.1 hy with rfl|hy
  · exact hx
  · exact hl y hy) t
def Zdr (a b:Int):Int:=if a<b then-1 else if b<a then 1 else 0
def or3 (a b c:Int):Int:=if a≠0 then a else if b≠0 then b else c
mutual
def Za7:Nd→Nd→Int
 | .mk o a l, .mk o' a' l'=>or3 (Zdr o o') (Zay a a') (Zcf l l')
def Zcf:List Nd→List Nd→Int
 |[],[]=>0
 |[],_::_=> -1
 |_::_,[]=>1
 |x::l,y::m=>if Za7 x y≠0 then Za7 x y else Zcf l m
end
theorem Zu1 (a b:Int):Zdr a b= -1∨Zdr a b=0∨Zdr a b=1:=by unfold Zdr;split<;>(try split)<;>omega
theorem Zsk (a b:Int):Zdr b a= -Zdr a b:=by unfold Zdr;split<;>(try split)<;>(try split)<;>omega
theorem ZhW (a b:Int):Zdr a b=0↔a=b:=by unfold Zdr;split<;>(try split)<;>omega
theorem ZwU (a b c:Int) (h:Zdr a b= -1) (h':Zdr b c= -1):Zdr a c= -1:=by
 unfold Zdr at*
 split at h
 · split at h'
   · rw [if_pos (by omega)]
   · split at h'<;>omega
 · split at h<;>omega
theorem ZAb {a b c:Int} (ha:a= -1∨a=0∨a=1) (hb:b= -1∨b=0∨b=1) (hc:c= -1∨c=0∨c=1):or3 a b c= -1∨or3 a b c=0∨or3 a b c=1:=by unfold or3;split<;>(try split)<;>omega
theorem ZAc (a b c:Int):or3 (-a) (-b) (-c)= -or3 a b c:=by unfold or3;split<;>split<;>(try split)<;>(try split)<;>omega
theorem ZwV {a b c:Int}:or3 a b c=0↔a=0∧b=0∧c=0:=by unfold or3;split<;>(try split)<;>omega
theorem ZCO {a b c:Int}:or3 a b c= -1↔a= -1∨(a=0∧(b= -1∨(b=0∧c= -1))):=by unfold or3;split<;>(try split)<;>omega
theorem ZpX:∀(l:List Nd),(∀x∈l,∀y,Za7 x y= -1∨Za7 x y=0∨Za7 x y=1)→∀m,Zcf l m= -1∨Zcf l m=0∨Zcf l m=1
 |[],_,m=>by cases m<;>simp [Zcf]
 | x ::l,h,m=>by
   cases m with
   |nil=>simp [Zcf]
   | cons y m=>
     rw [Zcf];split
     · exact h x (Xk ..) y
     · exact ZpX l (fun y hy=>h y (Xn _ hy)) m
theorem ZmZ:∀(l:List Nd),(∀x∈l,∀y,Za7 y x= -Za7 x y)→∀m,Zcf m l= -Zcf l m
 |[],_,m=>by cases m<;>simp [Zcf]
 | x ::l,h,m=>by
   cases m with
   |nil=>simp [Zcf]
   | cons y m=>
     rw [Zcf,Zcf,h x (Xk ..) y];have ih:=ZmZ l (fun y hy=>h y (Xn _ hy)) m;by_cases h0:Za7 x y=0
     · rw [if_neg (by omega),if_neg (by omega)];exact ih
     · rw [if_pos (by omega),if_pos h0]
theorem Zm0:∀(l:List Nd),(∀x∈l,∀y,Za7 x y=0↔x=y)→∀m,Zcf l m=0↔l=m
 |[],_,m=>by cases m<;>simp [Zcf]
 | x :: l,h,m=>by
   cases m with
   |nil=>simp [Zcf]
   | cons y m=>
     rw [Zcf];have h1:=h x (Xk ..) y;have ih:=Zm0 l (fun y hy=>h y (Xn _ hy)) m;by_cases h0:Za7 x y=0
     · rw [if_neg (by omega),ih,h1.1 h0];simp
     · rw [if_pos h0];exact ⟨fun h=>absurd h h0,fun h=>absurd (h1.2 (List.cons.inj h).1) h0⟩
theorem ZgJ:∀(x y:Nd),Za7 x y= -1∨Za7 x y=0∨Za7 x y=1:=Nd.ind fun o a l ih y=>by
 obtain ⟨o',a',l'⟩:=y
 rw [Za7]
 exact ZAb (Zu1 _ _) (Zsi _ _) (ZpX l ih _)
theorem Zm1:∀(x y:Nd),Za7 y x= -Za7 x y:=Nd.ind fun o a l ih y=>by
 obtain ⟨o',a',l'⟩:=y
 rw [Za7,Za7,Zsk,ZpW,ZmZ l ih,ZAc]
theorem ZcR:∀(x y:Nd),Za7 x y=0↔x=y:=Nd.ind fun o a l ih y=>by
 obtain ⟨o',a',l'⟩:=y
 rw [Za7,ZwV,ZhW,Zf1,Zm0 l ih]
 exact ⟨fun ⟨h1,h2,h3⟩=>by rw [h1,h2,h3],fun h=>by injection h with h1 h2 h3;exact ⟨h1,h2,h3⟩⟩
theorem ZtE :∀(l:List Nd),(∀x∈l,∀y z,Za7 x y= -1→Za7 y z= -1→Za7 x z= -1)→∀m n,Zcf l m= -1→Zcf m n= -1→Zcf l n= -1
 | [],_,m,n,h1,h2=>by
   cases m with
   |nil=>rw [Zcf] at h1;omega
   | cons y m=>
     cases n with
     |nil=>rw [Zcf] at h2;omega
     |cons z n=>rw [Zcf]
 | x :: l, h,m,n,h1,h2=>by
   cases m with
   |nil=>rw [Zcf] at h1;omega
   | cons y m=>
     cases n with
     |nil=>rw [Zcf] at h2;omega
     | cons z n=>
       rw [Zcf] at h1 h2 ⊢;have ih:=ZtE l (fun y hy=>h y (Xn _ hy)) m n;by_cases h0:Za7 x y=0
       · have e:=(ZcR x y).1 h0;subst e;rw [if_neg (by omega)] at h1;by_cases h3:Za7 x z=0
         · rw [if_neg (by omega)] at h2 ⊢;exact ih h1 h2
         · rw [if_pos h3] at h2 ⊢;exact h2
       · rw [if_pos h0] at h1;by_cases h3:Za7 y z=0
         · have e:=(ZcR y z).1 h3;subst e;rw [if_pos (by omega)];exact h1
         · rw [if_pos h3] at h2;have:=h x (Xk ..) y z h1 h2;rw [if_pos (by omega)];exact this
theorem ZtF:∀(x y z:Nd),Za7 x y= -1→Za7 y z= -1→Za7 x z= -1:=Nd.ind fun o a l ih y z h1 h2=>by
 obtain ⟨o',a',l'⟩:=y
 obtain ⟨o2,a2,l2⟩:=z
 rw [Za7,ZCO] at h1 h2 ⊢
 rcases h1 with h1|⟨e1,h1⟩
 · rcases h2 with h2|⟨e2,_⟩
   · exact .inl (ZwU _ _ _ h1 h2)
   · rw [←(ZhW _ _).1 e2];exact .inl h1
 · rw [(ZhW _ _).1 e1];rcases h2 with h2|⟨e2,h2⟩
   · exact .inl h2
   · refine .inr ⟨e2,?_⟩;rcases h1 with h1|⟨e1,h1⟩
     · rcases h2 with h2|⟨e2,_⟩
       · exact .inl (Zsj _ _ _ h1 h2)
       · rw [←(Zf1 _ _).1 e2];exact .inl h1
     · rw [(Zf1 _ _).1 e1];rcases h2 with h2|⟨e2,h2⟩
       · exact .inl h2
       · exact .inr ⟨e2,ZtE l ih _ _ h1 h2⟩
def leT (x y:Nd):Prop:=Za7 x y≠1
theorem Zc2 (x:Nd):leT x x:=by
 have:=(ZcR x x).2 rfl
 unfold leT;omega
theorem ZpY {x y:Nd} (h:leT x y) (h':leT y x):x=y:=by
 unfold leT at*
 have:=Zm1 x y
 have:=ZgJ x y
 exact (ZcR x y).1 (by omega)
theorem ZtG {x y:Nd}:leT x y↔Za7 x y= -1∨x=y:=by
 unfold leT
 have:=ZgJ x y
 rw [←ZcR x y];omega
theorem Zck {x y z:Nd} (h:leT x y) (h':leT y z):leT x z:=by
 rw [ZtG] at*
 rcases h with h|rfl
 · rcases h' with h'|rfl
   · exact .inl (ZtF x y z h h')
   · exact .inl h
 · exact h'
theorem ZtH {x y:Nd}:¬Za7 x y<0↔leT y x:=by
 unfold leT
 have:=Zm1 x y
 have:=ZgJ x y
 omega
end
section
mutual
def szT:Nd→Nat
 | .mk _ _ l=>1+szL l
def szL:List Nd→Nat
 |[]=>0
 |x::l=>szT x+szL l
end
mutual
def dpT:Nd→Nat
 | .mk _ _ l=>1+dpL l
def dpL:List Nd→Nat
 |[]=>0
 |x::l=>max (dpT x) (dpL l)
end
theorem Zf2 (l m:List Nd):szL (l++m)=szL l+szL m:=by
 induction l with
 |nil=>simp [szL]
 |cons x l ih=>rw [X1,szL,szL,ih,XX]
theorem ZpZ {l:List Nd} {k:Nat} {x:Nd} (h:l[k]? =some x):szL (l.take (k+1))=szL (l.take k)+szT x:=by
 rw [List.take_add_one,h,Zf2];simp [szL]
theorem ZtI (t:Nd):1≤szT t:=by cases t;rw [szT];omega
theorem ZdT {l:List Nd} {x:Nd} (h:x∈l):szT x≤szL l:=by
 induction l with
 |nil=>cases h
 | cons y l ih=>
   rw [szL];rcases Xl.1 h with rfl|h
   · omega
   · have:=ih h;omega
theorem ZAd {l:List Nd} {x:Nd} (h:x∈l):dpT x≤dpL l:=by
 induction l with
 |nil=>cases h
 | cons y l ih=>
   rw [dpL];rcases Xl.1 h with rfl|h
   · omega
   · have:=ih h;omega
theorem ZCP {l:List Nd} {n:Nat}:dpL l≤n↔∀x∈l,dpT x≤n:=by
 induction l with
 |nil=>simp [dpL]
 |cons y l ih=>rw [dpL,Nat.max_le,ih];simp
def rightT (t:Nd):Bool:=
 if t.op=1 then t.l.isEmpty&&ZcY t.act else if t.op=2 then t.l.isEmpty&&decide (t.act=ByteArray.empty) else if t.op=3∨t.op=4∨t.op=5 then !t.l.isEmpty&&decide (t.act=ByteArray.empty)
 else if t.op=6 then decide (t.l.length=2)&&decide (t.act=ByteArray.empty) else false
mutual
def okT:Nd→Bool
 | .mk o a l=>rightT (.mk o a l)&&okL l
def okL:List Nd→Bool
 |[]=>true
 |x::l=>okT x&&okL l
end
theorem ZAe {l:List Nd}:okL l=true↔∀x∈l,okT x=true:=by
 induction l with
 |nil=>simp [okL]
 |cons x l ih=>rw [okL,Xg,ih];simp
theorem Zbf {t:Nd}:okT t=true↔rightT t=true∧∀x∈t.l,okT x=true:=by
 obtain ⟨o,a,l⟩:=t
 rw [okT,Xg,ZAe];rfl
def Zf3 (t:Nd) (most:Int) (d:Int):Bool:=okT t&&decide ((szT t:Int)≤most)&&decide (d+dpT t≤61)
theorem ZCQ {t:Nd} {most d:Int} (h:most<1∨60<d∨rightT t=false):Zf3 t most d=false:=by
 cases hm:Zf3 t most d with
 |false=>rfl
 | true=>
   exfalso;unfold Zf3 at hm;simp only [Xg,decide_eq_true_eq] at hm;obtain ⟨⟨h1,h2⟩,h3⟩:=hm;have h4:=ZtI t;have h5:1≤dpT t:=by cases t;rw [dpT];omega
   rcases h with h|h|h
   · omega
   · omega
   · rw [(Zbf.1 h1).1] at h;cases h
theorem ZwW {t:Nd} {most d:Int} {k:Nat} {x:Nd} (hx:t.l[k]? =some x) (h:Zf3 x (most-(1+szL (t.l.take k))) (d+1)=false):Zf3 t most d=false:=by
 cases hm:Zf3 t most d with
 |false=>rfl
 | true=>
   exfalso;unfold Zf3 at hm h;simp only [Xg,decide_eq_true_eq] at hm;obtain ⟨⟨h1,h2⟩,h3⟩:=hm;have hmem:=Xb hx;have e1:=(Zbf.1 h1).2 x hmem;have e2:szL t.l=szL (t.l.take k)+szL (t.l.drop k):=by rw [←Zf2,Vq]
   have e3:szT x≤szL (t.l.drop k):=ZdT (Xb (show (t.l.drop k)[0]? =some x by rw [Vv];exact hx));have e4:szT t=1+szL t.l:=by cases t;rw [szT];rfl
   have e5:dpT t=1+dpL t.l:=by cases t;rw [dpT];rfl
   have e6:=ZAd hmem;rw [e1,decide_eq_true (by omega),decide_eq_true (by omega)] at h
   cases h
theorem ZAf {t:Nd} {most d:Int} (hr:rightT t=true) (h1:1≤most) (h2:d≤60) (h:∀k x,t.l[k]? =some x→Zf3 x (most-(1+szL (t.l.take k))) (d+1)=true):Zf3 t most d=true:=by
 have e4:szT t=1+szL t.l:=by cases t;rw [szT];rfl
 have e5:dpT t=1+dpL t.l:=by cases t;rw [dpT];rfl
 unfold Zf3 at h ⊢
 have key:∀k x,t.l[k]? =some x→okT x=true∧(szT x:Int)≤most-(1+szL (t.l.take k))∧d+1+dpT x≤61:=fun k x hx=>by
  have:=h k x hx;simp only [Xg,decide_eq_true_eq] at this;exact ⟨this.1.1,this.1.2,this.2⟩
 simp only [Xg,decide_eq_true_eq]
 refine ⟨⟨Zbf.2 ⟨hr,fun x hx=>?_⟩,?_⟩,?_⟩
 · obtain ⟨k,hk⟩:=Ve hx;exact (key k x hk).1
 · rw [e4];rcases hn:t.l.length with _|n
   · have:t.l=[]:=XO hn;rw [this];simp [szL];omega
   · obtain ⟨x,hx⟩:∃x,t.l[n]? =some x:=⟨_,XM (by omega)⟩;have e1:=(key n x hx).2.1;have e2:=ZpZ hx;rw [Xo (show t.l.length≤n+1 by omega)] at e2;omega
 · rw [e5];have:dpL t.l≤(60-d).toNat:=ZCP.2 fun x hx=>by
    obtain ⟨k,hk⟩:=Ve hx;have:=(key k x hk).2.2;omega
   omega
def Zbv (t:Nd):Bool:=Zf3 t 400 1
theorem ZdG {t:Nd} (h:Zbv t=true):okT t=true:=by unfold Zbv Zf3 at h;simp only [Xg] at h;exact h.1.1
theorem ZhX {t:Nd} (h:Zbv t=true):szT t≤400:=by unfold Zbv Zf3 at h;simp only [Xg,decide_eq_true_eq] at h;omega
def Zp0 (x:Nd):List Nd→List Nd
 |[]=>[x]
 |y::l=>if Za7 y x<0 then y::Zp0 x l else x::y::l
def Zol (l:List Nd):List Nd:=l.foldl (fun m x=>Zp0 x m) []
def ZdX:List Nd→List Nd
 |[]=>[]
 | x::l=>match l with
   |[]=>[x]
   |y::m=>if Za7 x y=0 then ZdX (y::m) else x::ZdX (y::m)
abbrev AscT (l:List Nd):Prop:=l.Pairwise fun x y=>leT x y
abbrev StrT' (l:List Nd):Prop:=l.Pairwise fun x y=>Za7 x y<0
theorem ZCc {x y:Nd} (h:Za7 x y<0):leT x y:=by unfold leT;omega
theorem ZD1 {x y:Nd} (h:Za7 x y<0):x≠y:=fun e=>by have:=(ZcR x y).2 e;omega
theorem Zk4 {x y:Nd} (h:leT x y) (h':x≠y):Za7 x y<0:=by
 rcases ZtG.1 h with h|h
 · omega
 · exact absurd h h'
theorem Zjc (x:Nd):∀l,(Zp0 x l).Perm (x::l)
 |[]=>List.Perm.refl _
 | y::l=>by
   rw [Zp0];split
   · exact ((Zjc x l).cons y).trans (List.Perm.swap ..)
   · exact List.Perm.refl _
theorem Zp1 (x:Nd):∀l,AscT l→AscT (Zp0 x l)
 |[],_=>VC ..
 | y ::l,h=>by
   rw [Zp0];obtain ⟨h1,h2⟩:=XK.1 h;split
   · rename_i hl;refine XK.2 ⟨fun z hz=>?_,Zp1 x l h2⟩;rcases Xl.1 ((Zjc x l).mem_iff.1 hz) with rfl|hz
     · exact ZCc hl
     · exact h1 z hz
   · rename_i hl;have hxy:leT x y:=ZtH.1 hl;refine XK.2 ⟨fun z hz=>?_,h⟩;rcases Xl.1 hz with rfl|hz
     · exact hxy
     · exact Zck hxy (h1 z hz)
theorem Zp2 (l:List Nd):∀m,AscT m→AscT (l.foldl (fun m x=>Zp0 x m) m)∧(l.foldl (fun m x=>Zp0 x m) m).Perm (m++l):=by
 induction l with
 |nil=>intro m h;exact ⟨h,by simp⟩
 | cons x l ih=>
   intro m h;rw [Vw];obtain ⟨h1,h2⟩:=ih _ (Zp1 x m h);refine ⟨h1,h2.trans ?_⟩;exact ((Zjc x m).append_right l).trans (by
    rw [X1];exact (List.perm_middle (l₁:=m) (a:=x) (l₂:=l)).symm)
theorem Zip (l:List Nd):AscT (Zol l):=(Zp2 l [] List.Pairwise.nil).1
theorem Zdc (l:List Nd):(Zol l).Perm l:=by
 have:=(Zp2 l [] List.Pairwise.nil).2
 rwa [Vy] at this
theorem Zp3 {l m:List Nd} (hl:AscT l) (hm:AscT m) (h:l.Perm m):l=m:=by
 exact List.Perm.eq_of_pairwise (fun a b _ _ h1 h2=>ZpY h1 h2) hl hm h
theorem ZAg {l m:List Nd} (hm:AscT m) (h:m.Perm l):m=Zol l:=Zp3 hm (Zip l) (h.trans (Zdc l).symm)
theorem ZtJ {l:List Nd} (h:StrT' l):AscT l:=h.imp fun h=>ZCc h
theorem Zm2 {l:List Nd} (h:StrT' l):l.Nodup:=h.imp fun h=>ZD1 h
theorem Zp4 {l m:List Nd} (hl:StrT' l) (hm:StrT' m) (h:∀z,z∈l↔z∈m):l=m:=
 Zp3 (ZtJ hl) (ZtJ hm) ((UK (Zm2 hl) (Zm2 hm)).2 h)
theorem Zds:∀(l:List Nd) z,z∈ZdX l↔z∈l
 |[],z=>by simp [ZdX]
 |[x],z=>by simp [ZdX]
 | x ::y::m,z=>by
   rw [ZdX];split
   · rename_i h;rw [Zds (y::m),(ZcR x y).1 h];simp
   · rw [Xl,Zds (y::m)];simp
theorem ZeA:∀(l:List Nd),AscT l→StrT' (ZdX l)
 |[],_=>List.Pairwise.nil
 |[x],_=>VC ..
 | x ::y::m,h=>by
   rw [ZdX];obtain ⟨h1,h2⟩:=XK.1 h;split
   · exact ZeA (y::m) h2
   · rename_i hn;refine XK.2 ⟨fun z hz=>?_,ZeA (y::m) h2⟩;have hz':=(Zds (y::m) z).1 hz;have hxz:=h1 z hz';refine Zk4 hxz fun e=>hn ?_;subst e;have hyx:leT y x:=by
      rcases Xl.1 hz' with h|h
      · rw [h];exact Zc2 y
      · exact (XK.1 h2).1 _ h
     exact (ZcR x y).2 (ZpY (h1 y (Xk ..)) hyx)
end
section
def Zkp:Nd:= .mk 2 ByteArray.empty []
def ZaR (op:Int) (l:List Nd):List Nd:=l.flatMap fun x=>if x.op=op then x.l else if x.op≠2∨op=4 then [x] else []
def Zgy (op:Int):List Nd→Nd
 |[]=>Zkp
 |[x]=>x
 |x::y::l=> .mk op ByteArray.empty (x::y::l)
def Zfa (op:Int) (p:List Nd):List Nd:=if op=3 then p else if op=4 then ZdX (Zol p) else Zol p
def Zfq (op:Int) (l:List Nd):Nd:=Zgy op (Zfa op (ZaR op l))
def Zcs (f s:Nd):Nd×Nd:=if f.op=6 then match f.l with
 |a::b::_=>(a,Zfq 4 [b,s])
 |_=>(f,s) else (f,s)
def Zkq (p:Nd×Nd):Nd:=if p.1.op=2∧p.2.op=2 then Zkp else .mk 6 ByteArray.empty [p.1,p.2]
def Zu2:List Nd→Nd
 |f::s::_=>Zkq (Zcs f s)
 |_=>Zkp
def Zkr (o:Int) (a:ByteArray) (l:List Nd):Nd:=if o=1∨o=2 then .mk o a [] else if o=6 then Zu2 l else Zfq o l
mutual
def Zal:Nd→Nd
 | .mk o a l=>Zkr o a (ZbN l)
def ZbN:List Nd→List Nd
 |[]=>[]
 |x::l=>Zal x::ZbN l
end
theorem Zf4 (l:List Nd):ZbN l=l.map Zal:=by
 induction l with
 |nil=>rfl
 |cons x l ih=>rw [ZbN,ih];rfl
structure NfN (t:Nd):Prop where
 rt:rightT t=true
 two:t.op≠6→∀x∈t.l,2≤t.l.length∧x.op≠t.op
 ns:t.op=3∨t.op=5→∀x∈t.l,x.op≠2
 xo:t.op=4→StrT' t.l
 an:t.op=5→AscT t.l
 lp:t.op=6→∃a b,t.l=[a,b]∧a.op≠6∧¬(a.op=2∧b.op=2)
inductive NF:Nd→Prop
 |mk (t:Nd) (h:NfN t) (hp:∀x∈t.l,NF x):NF t
theorem NF.n {t:Nd}:NF t→NfN t
 | .mk _ h _=>h
theorem NF.p {t:Nd}:NF t→∀x∈t.l,NF x
 | .mk _ _ h=>h
theorem NF.ok {t:Nd}:NF t→okT t=true
 | .mk _ h hp=>Zbf.2 ⟨h.rt,fun x hx=>NF.ok (hp x hx)⟩
theorem ZdH {t:Nd} (h:rightT t=true):t.op=1∨t.op=2∨t.op=3∨t.op=4∨t.op=5∨t.op=6:=by
 unfold rightT at h
 by_cases h1:t.op=1
 · exact .inl h1
 · by_cases h2:t.op=2
   · exact .inr (.inl h2)
   · by_cases h3:t.op=3∨t.op=4∨t.op=5
     · omega
     · by_cases h4:t.op=6
       · omega
       · rw [if_neg h1,if_neg h2,if_neg h3,if_neg h4] at h;cases h
theorem Zu3:rightT Zkp=true:=by unfold rightT Zkp;simp [Nd.op,Nd.l,Nd.act]
theorem ZtK {t:Nd} (hr:rightT t=true) (hl:t.l=[]) (ho:t.op=1∨t.op=2):NF t:=
 .mk t ⟨hr,fun _ x hx=>by (rw [hl] at hx;cases hx),fun h=>by omega,fun h=>by omega,fun h=>by omega,fun h=>by omega⟩ fun x hx=>by rw [hl] at hx;cases hx
theorem ZwX:NF Zkp:=ZtK Zu3 rfl (.inr rfl)
theorem ZAh {op:Int} {l:List Nd} (hl:∀x∈l,NF x) (ho:op=3∨op=4∨op=5) {y:Nd} (hy:y∈ZaR op l):NF y∧y.op≠op∧(op≠4→y.op≠2):=by
 unfold ZaR at hy
 obtain ⟨x,hx,hy⟩:=XR.1 hy
 by_cases h1:x.op=op
 · rw [if_pos h1] at hy;have hn:=(hl x hx).n;refine ⟨(hl x hx).p y hy,?_,fun h4=>hn.ns (by omega) y hy⟩;rw [←h1];exact (hn.two (by omega) y hy).2
 · rw [if_neg h1] at hy;split at hy
   · rename_i h2;rw [Xi] at hy;subst hy;exact ⟨hl _ hx,h1,fun h4=>by omega⟩
   · cases hy
theorem Zhg {op:Int} {p:List Nd} {y:Nd}:y∈Zfa op p↔y∈p:=by
 unfold Zfa
 split
 · exact Iff.rfl
 · split
   · rw [Zds,(Zdc p).mem_iff]
   · rw [(Zdc p).mem_iff]
theorem ZCR {op:Int} (ho:op=3∨op=4∨op=5) {p:List Nd} (hp:∀y∈p,NF y∧y.op≠op∧(op≠4→y.op≠2)) (h4:op=4→StrT' p) (h5:op=5→AscT p):NF (Zgy op p):=by
 match p,hp,h4,h5 with
 |[],_,_,_=>exact ZwX
 |[x],hp,_,_=>exact (hp x (Xk ..)).1
 | x::y::l,hp,h4,h5=>
   refine .mk _ ⟨?_,fun _ z hz=>⟨by simp [Zgy,Nd.l],(hp z hz).2.1⟩,fun h z hz=>(hp z hz).2.2 (by simp only [Zgy,Nd.op] at h;omega),fun h=>h4 h,fun h=>h5 h,fun h=>?_⟩ fun z hz=>(hp z hz).1
   · rcases ho with rfl|rfl|rfl<;>simp [rightT,Zgy,Nd.op,Nd.l,Nd.act]
   · simp only [Zgy,Nd.op] at h;omega
theorem Zom {op:Int} (ho:op=3∨op=4∨op=5) {l:List Nd} (hl:∀x∈l,NF x):NF (Zfq op l):=by
 refine ZCR ho (fun y hy=>ZAh hl ho (Zhg.1 hy)) (fun h=>?_) (fun h=>?_)
 · subst h;unfold Zfa;rw [if_neg (by decide),if_pos rfl];exact ZeA _ (Zip _)
 · subst h;unfold Zfa;rw [if_neg (by decide),if_neg (by decide)];exact Zip _
theorem ZAi {p:Nd×Nd} (h1:NF p.1) (h2:NF p.2) (h6:p.1.op≠6):NF (Zkq p):=by
 unfold Zkq
 split
 · exact ZwX
 · rename_i h;refine .mk _ ⟨by simp [rightT,Nd.op,Nd.l,Nd.act],fun h=>absurd rfl h,fun h=>?_,fun h=>?_,fun h=>?_,fun _=>⟨_,_,rfl,h6,h⟩⟩ fun x hx=>?_
   · simp [Nd.op] at h
   · simp [Nd.op] at h
   · simp [Nd.op] at h
   · rcases Xl.1 hx with rfl|hx
     · exact h1
     · rcases Xl.1 hx with rfl|hx
       · exact h2
       · cases hx
theorem ZAj {f s:Nd} (hf:NF f) (hs:NF s):NF (Zcs f s).1∧NF (Zcs f s).2∧(Zcs f s).1.op≠6:=by
 unfold Zcs
 by_cases h:f.op=6
 · rw [if_pos h];obtain ⟨a,b,hl,ha,_⟩:=hf.n.lp h;rw [hl];have hp:=hf.p;rw [hl] at hp;have hb:=hp b (by simp);refine ⟨hp a (by simp),Zom (by omega) fun x hx=>?_,ha⟩;rcases Xl.1 hx with rfl|hx
   · exact hb
   · rw [Xi] at hx;subst hx;exact hs
 · rw [if_neg h];exact ⟨hf,hs,h⟩
theorem Zsl:∀(t:Nd),okT t=true→NF (Zal t):=Nd.ind fun o a l ih hok=>by
 obtain ⟨hr,hp⟩:=Zbf.1 hok
 simp only [Nd.l] at hp
 have hl:∀x∈ZbN l,NF x:=fun x hx=>by
  rw [Zf4] at hx;obtain ⟨y,hy,rfl⟩:=Xh.1 hx;exact ih y hy (hp y hy)
 rw [Zal]
 unfold Zkr
 split
 · rename_i h;refine ZtK ?_ rfl h;unfold rightT at hr ⊢;rcases h with rfl|rfl
   · simp [Nd.op,Nd.l,Nd.act] at hr ⊢;exact hr.2
   · simp [Nd.op,Nd.l,Nd.act] at hr ⊢;exact hr.2
 · split
   · rename_i h1 h;subst h;have hlen:l.length=2:=by
      unfold rightT at hr;simp [Nd.op,Nd.l,Nd.act] at hr;exact of_decide_eq_true hr.1
     obtain ⟨x,y,rfl⟩:∃x y,l=[x,y]:=by
      match l,hlen with
      |[x,y],_=>exact ⟨x,y,rfl⟩
     rw [ZbN,ZbN,ZbN] at hl ⊢;obtain ⟨g1,g2,g3⟩:=ZAj (hl (Zal x) (by simp)) (hl (Zal y) (by simp));exact ZAi g1 g2 g3
   · rename_i h1 h2;exact Zom (by have:=ZdH hr;simp only [Nd.op] at this;omega) hl
end
set_option maxRecDepth 100000
theorem ζp:NoAgg Tryz.prog 3=true:=by kernel_rfl
theorem ζu:SlT Tryz.prog 36 3 1=true:=by kernel_rfl
structure Cnt where
 name:ByteArray
 n:Int
structure Flw where
 src:ByteArray
 dst:ByteArray
 n:Int
structure Dfg where
 acts:List Cnt
 starts:List Cnt
 ends:List Cnt
 follows:List Flw
def pInts (l:List Int):PV:= .sl l.length (l.map pInt)
def Zk5 (l:List (List Int)):PV:= .sl l.length (l.map pInts)
theorem ZgK (f:Nat) (caps:List PV) (p:Int→Bool) (l:List (Int)) (hc:∀args w,(callFunc f args).run Tryz.prog w= .ok (.enter f args) w) (hf:∀s∈l,AF Tryz.prog f (pInt s::caps) (· =ζV (p s))):AF Tryz.prog 154 [pInts l, .fn f caps] (· =pInt (idx p l)):=by
 refine AF.of_body 19 Tryz.func154 rfl Tryz.ntmps154 (Xa rfl) ?_
 intro w0 M0 vs hl hv
 obtain ⟨v0,v1,rfl⟩:=Zbl hl
 clear hl hv
 refine Zb9 0 rfl fun hlen=>?_
 refine nav ?_
 (refine ζa ?_<;>refine xL 4 ζc ?_<;>refine ζd ?_)
 (refine ζa ?_<;>refine xL 6 ζb (xL 7 (ζU ζu) (xL 8 ζb ?_))<;>refine ζd ?_)
 refine ζy (ι:={k:Nat//k≤l.length∧∀i y,i<k→l[i]? =some y→p y=false}) (fun k=>⟨[(0,_,_),(1,_,_),(7,_,_),(8, .int .i64 k.1,pInt k.1)],[]⟩) (fun k=>l.length-k.1) ⟨0,by omega,by omega⟩ (fun a w H=>H.weaken ⟨rfl,rfl,rfl,rfl,trivial⟩ trivial) ?_
 rintro ⟨k,hk,hp⟩
 dsimp only
 refine nav ?_
 (refine ζa ?_<;>refine xL 9 ζK ?_<;>refine ζd ?_)
 (first|refine cCd ?_ ?_|refine cC ?_ ?_)<;>intro hb9
 · first
   |exact bN hb9
   | (
    obtain ⟨x,hx⟩:=ζm (show k<l.length by omega);have e1:=Zas (f:=pInt) hx;refine nav ?_;(refine ζa ?_<;>refine xL 10 ζb (xL 5 ζc ?_)<;>refine ζd ?_)
    (refine ζa ?_<;>refine xL 11 ζb (xL 12 ζb (xL 13 ζb (xL 14 (ζI ζu) ?_)))<;>(refine yL 15 (ZaE ζp) fun v15 h=>?_;cases h)<;>(refine cS 16 (Zb5 (f:=f) (ps:=caps) rfl ⟨_,rfl⟩ hc rfl (hf x (Xb hx))) fun v16 h=>?_;cases h)<;>refine ζd ?_)
    (first|refine cCd ?_ ?_|refine cC ?_ ?_)<;>intro hb16
    · first
      |exact bN hb16
      | (
       refine nav ?_;(refine ζa ?_<;>refine xL 17 ζb (xL 4 ζc ?_)<;>refine ζd ?_)
       refine ζx (Tryz.results154) rfl ?_;rw [ZgC hp hx hb16])
    · first
      |exact bN hb16
      | (
       refine nav ?_;(refine ζa ?_<;>refine xL 18 ζG (xL 8 ζb ?_)<;>refine ζd ?_)
       refine ζj (
        ⟨k+1,by omega,fun i y hi hy=>by
         by_cases e:i=k
         · subst e;rw [hx] at hy;cases hy;exact hb16
         · exact hp i y (by omega) hy⟩
        ) (by dsimp only;omega) ⟨rfl,rfl,rfl,rfl,trivial⟩ trivial))
 · first
   |exact bN hb9
   | (
    refine nav ?_;(refine ζa ?_<;>refine xL 4 ζc ?_<;>refine ζd ?_)
    refine ζx (Tryz.results154) rfl ?_;rw [Zif fun i y hi hy=>hp i y (by omega) hy])
theorem Ziq (f:Nat) (caps:List PV) (p:Int→Bool) (l:List (Int)) (hc:∀args w,(callFunc f args).run Tryz.prog w= .ok (.enter f args) w) (hf:∀s∈l,AF Tryz.prog f (pInt s::caps) (· =ζV (p s))):AF Tryz.prog 108 [pInts l, .fn f caps] (· =ζV (l.any p)):=by
 refine AF.of_body 9 Tryz.func108 rfl Tryz.ntmps108 (Xa rfl) ?_
 intro w0 M0 vs hl hv
 obtain ⟨v0,v1,rfl⟩:=Zbl hl
 clear hl hv
 refine nav ?_
 (refine ζa ?_<;>refine xL 4 ζc ?_<;>refine ζd ?_)
 (refine ζa ?_<;>refine xL 5 ζb (xL 6 ζb ?_)<;>(refine cS 7 (cA Tryz.call154 (ZgK f caps p l hc hf)) fun v7 h=>?_;cases h)<;>refine xL 8 ZcX (xL 4 ζc ?_)<;>refine ζd ?_)
 refine ζx (Tryz.results108) rfl ?_
 rw [Ztt]
end Go.Proofs.YtgfabnhpllkebaaGreatDoor
