/-
  The engine, eleventh part: more readers; how plain data read. No program in sight.
  The engine, twelfth part: maps. No program in sight.
  The engine, thirteenth part: a region that draws its order. No program in sight.
  The engine, fourteenth part: labels renamed; nil in cells; make of structs. No program in sight.
  The engine, fifteenth part: a row is sorted by the library. No program in sight.
  The engine's rules in short forms. No program in sight.
  The engine: rows of owned rows as a family; nil checks; pointers that are shared from now on; three writers at once. No program in sight.
  The engine: results that lie in cells. No program in sight.
  The engine: a row is cut short; new rows of zeros by append. No program in sight.
  The engine: a row of numbers is sorted by the library. No program in sight.
  The engine: rows are sorted by the library, compared by functions that were walked. No program in sight.
  The engine: a call that hands back one of a family of pairs. No program in sight.
  Plain laws: numbering things in the order in which they are met. No program in sight.
  Owned slices, more: a middle part, a store, make. No program in sight.
  Maps from strings to numbers, read as functions. No program in sight.
  Plain functions, more: the parts of a cut as a map. No program in sight.
  Plain laws: words in order; variants counted by first occurrence, then sorted, are those added in order. No program in sight.
-/
import Derived.Shelf.SlSortCmp.InsertionK
import Derived.KernelRfl
import Derived.Shelf.SlSortCmp.Kit1
import Derived.Maps.Own
import Derived.Maps.OwnOps
import Derived.Maps.OwnSet
import Derived.StringKeys
import Derived.Test.YtgfabnhpllkebaaGreatDoorPk01
namespace Go.En
open Go.RowKit Go.Cb
set_option linter.all false
section
variable {P:Program} {c:Ctx} {sL hP:List (Nat×Ent)} {o:Oper}
theorem Zrq {t k j:Nat} {x:Operand} {v:Value} {cs ps:List PV} (hT:AggT P t k=true) (ho:o.op= .load t x) (hx:ev sL x=some (v, .sptr j cs)) (hp:j+k≤cs.length) (hps:(cs.drop j).take k=ps):YE P (⟨sL,hP⟩:St) o (fun _=>True) (.agg ps):=hps▸ZsT hT ho hx hp
theorem Zrr {t k j e k' n:Nat} {x:Operand} {h:Value} {q:PV} {cs ps:List PV} (l:Nat) (hT:AggT P t k=true) (ho:o.op= .load t x) (hx:ev sL x=some (padd (sbase h) j,q)) (hl:lk hP l=some (h, .own e k' n cs)) (hp:j+k≤cs.length) (hk:0<k) (hps:(cs.drop j).take k=ps) (hsh:ps.all isSh=true):YE P (⟨sL,hP⟩:St) o (fun _=>True) (.agg ps):=by
 subst hps;exact ZsU l hT ho hx hl hp hsh hk
theorem ZCm {f:Nat} {caps:Array Operand} {es:List Ent} (ho:o.op= .makeFunc (.func f) #[] caps) (hx:evL sL caps.toList=some es):YE P (⟨sL,hP⟩:St) o (· = .func (.func f) #[] (es.map (·.1)).toArray) (.fn f (es.map (·.2))):=
 .exact fun M F a w H=>by
  obtain ⟨h1,h2⟩:=Zb6 H hx;refine ⟨.fn f _ _ (by rw [Xh,Xh]) h2,?_⟩;have:caps.map a.eval=(es.map (·.1)).toArray:=by rw [←h1,←Vr,Vq]
  simp [execOp,ho,Instr.makeFunc,this]
end
theorem Zc0 {P:Program} {c:Ctx} {sL hP:List (Nat×Ent)} {Q:Exit→Act→World→Prop} {x:Code} {n:Nat} {v:Value} {cs:List PV} (t:Nat) (ht:lk sL t=some (v, .sl n cs)) (k:n≤9223372036854775807→aC P c x Q (⟨sL,hP⟩:St)):aC P c x Q (⟨sL,hP⟩:St):=fun a w H=>by
 obtain ⟨F,H'⟩:=id H
 have h1:=(H'.sl t _ _ ht).2
 have:n≤9223372036854775807:=by
  cases h1 with
  |emp=>omega
  |sl b off n c cs vs hn hc=>unfold maxLen at hc;omega
 exact k this a w H
abbrev pInt (n:Int):PV:= .val (.int .i64 n)
abbrev Za3 (s:ByteArray):PV:= .val (.string s)
abbrev ζ7 (b:Bool):PV:= .val (.bool b)
def Zid (l:List ByteArray):PV:= .sl l.length (l.map Za3)
def pInts (l:List Int):PV:= .sl l.length (l.map pInt)
theorem Zbd {α β:Type} {f:α→β} {l:List α} {i:Nat} {x:α} (h:l[i]? =some x):(l.map f)[i*1]? =some (f x):=by rw [XJ,Xl,h];rfl
theorem flat_len {α β:Type} {f:α→List β} {k:Nat} (hf:∀x,(f x).length=k):∀l:List α,(l.flatMap f).length=l.length*k
 |[]=>by simp
 |x::l=>by rw [Xv,Xd,hf,flat_len hf l,Xc,Vi];omega
theorem Zad {α β:Type} {f:α→List β} {k:Nat} (hf:∀x,(f x).length=k):∀(l:List α) (i:Nat) (x:α),l[i]? =some x→((l.flatMap f).drop (i*k)).take k=f x
 |[],i,x,h=>by simp at h
 | y::l,0,x,h=>by
   simp at h;subst h;rw [Vu,Vv,Xv,UA (by rw [hf];exact Xb _),Xn (by rw [hf];exact Xb _)]
 | y::l,i+1,x,h=>by
   rw [Xv,Vi,Nat.one_mul,Nat.add_comm,←XM,List.drop_append_of_le_length (by rw [hf];exact Xb _),show (f y).drop k=[] from List.drop_of_length_le (by rw [hf];exact Xb _),Vf];exact Zad hf l i x (by simpa using h)
theorem Zn0 {α β:Type} {f:α→List β} {k:Nat} (hf:∀x,(f x).length=k) {l:List α} {i:Nat} {x:α} (h:l[i]? =some x) {j:Nat} (hj:j<k):(l.flatMap f)[i*k+j]? =(f x)[j]? :=by
 rw [←Zad hf l i x h,XW hj,Vm]
theorem ZaE {α β:Type} {f:α→List β} {k:Nat} (hf:∀x,(f x).length=k) {l:List α} {i:Nat} {x:α} (h:l[i]? =some x):i*k+k≤(l.flatMap f).length:=by
 rw [flat_len hf]
 have:=ζi h
 have h1:(i+1)*k≤l.length*k:=Va k this
 rw [Vi,Nat.one_mul] at h1
 exact h1
theorem ZcP {α:Type} {l:List α} (h:l.length=1):∃a,l=[a]:=by
 match l,h with
 |[a],_=>exact ⟨a,rfl⟩
theorem ZdW {α:Type} {l:List α} (h:l.length=2):∃a b,l=[a,b]:=by
 match l,h with
 |[a,b],_=>exact ⟨a,b,rfl⟩
theorem ZCn {α:Type} {l:List α} (h:l.length=3):∃a b d,l=[a,b,d]:=by
 match l,h with
 |[a,b,d],_=>exact ⟨a,b,d,rfl⟩
def keq:Value→Value→Bool
 | .string a, .string b=>a==b
 | .int k a, .int k' b=>decide (k=k')&&a==b
 | .bool a, .bool b=>a==b
 |_,_=>false
theorem Zs5 {a b:ByteArray}:(a==b)=true↔a=b:=by
 obtain ⟨a⟩:=a
 obtain ⟨b⟩:=b
 rw [show ((⟨a⟩:ByteArray)==⟨b⟩)=(a==b) from rfl]
 simp
theorem ZzZ {a b:Value} (h:keq a b=true):keq b a=true:=by
 cases a<;>cases b<;>simp_all [keq,Zs5]
def kok (kd:TypeDesc) (k:Value) (kv:List (Value×Value)):Prop:=∀x∈kv,Instr.sameNow kd k x.1=some (keq k x.1)
def ZdZ:List (Value×Value)→Value→Option Value
 |[],_=>none
 |x::l,k=>if keq k x.1 then some x.2 else ZdZ l k
def ZfT:List (Value×Value)→Value→Value→List (Value×Value)
 |[],k,v=>[(k,v)]
 |x::l,k,v=>if keq k x.1 then (k,v)::l else x::ZfT l k v
def ZhC:List (Value×Value)→Value→Option Nat
 |[],_=>none
 |x::l,k=>if keq k x.1 then some 0 else (ZhC l k).map (· +1)
theorem Zg3 {kd:TypeDesc} {k:Value}:∀(l:List MapEntry) (i:Nat),kok kd k (l.map fun x=>(x.key,x.val))→
 Instr.findNow kd k l i=some (match ZhC (l.map fun x=>(x.key,x.val)) k,ZdZ (l.map fun x=>(x.key,x.val)) k with|some j,some v=>some (i+j,v)|_,_=>none)∧((ZhC (l.map fun x=>(x.key,x.val)) k).isSome=(ZdZ (l.map fun x=>(x.key,x.val)) k).isSome)
 |[],i,_=>⟨rfl,rfl⟩
 | e :: l,i,h=>by
   have h0:=h (e.key,e.val) (by simp);obtain ⟨h1,h2⟩:=Zg3 l (i+1) (fun x hx=>h x (by simp at hx ⊢;exact .inr hx));simp only at h0;simp only [Instr.findNow,h0,Xu,ZhC,ZdZ]
   cases hk:keq k e.key
   · simp only [VA,if_false];rw [h1]
     cases hm:ZhC (l.map fun x=>(x.key,x.val)) k with
     | none=>
       rw [hm] at h2
       cases hg:ZdZ (l.map fun x=>(x.key,x.val)) k with
       |none=>simp
       |some v=>rw [hg] at h2;simp at h2
     | some j=>
       rw [hm] at h2
       cases hg:ZdZ (l.map fun x=>(x.key,x.val)) k with
       |none=>rw [hg] at h2;simp at h2
       |some v=>simp;omega
   · simp
structure MpT (P:Program) (t ks e:Nat) (kd:TypeDesc) (z:Value):Prop where
 ht:P.underlying t=some (.map ks e)
 hk:P.underlying ks=some kd
 hkd:kd= .string∨∃k,kd= .int k
 hz:ZeroT P e z
section
variable {P:Program} {c:Ctx} {ops:Array Oper} {Q:Exit→Act→World→Prop} {rest:List Oper} {sL hP:List (Nat×Ent)} {o:Oper}
theorem Zct {ks:Nat} {kd:TypeDesc} (hk:P.underlying ks=some kd) (hkd:kd= .string∨∃k,kd= .int k) (b:Bool) (v:Value) (w:World):(Instr.checkKey b 10000 ks v).run P w= .ok () w:=by
 rw [show (10000:Nat)=9999+1 from rfl,Instr.checkKey]
 rcases hkd with rfl|⟨k,rfl⟩<;>simp [run_underlying hk]
theorem ZbR {ks:Nat} {kd:TypeDesc} (hk:P.underlying ks=some kd) {k:Value} {es:Array MapEntry} (h:kok kd k (kvOf es)) (w:World):(Instr.findKey ks k es.toList).run P w= .ok (match ZhC (kvOf es) k,ZdZ (kvOf es) k with|some j,some v=>some (j,v)|_,_=>none) w:=by
 obtain ⟨h1,_⟩:=Zg3 es.toList 0 h
 unfold Instr.findKey
 simp only [Sem.run_bind,run_underlying hk,Result.andThen_ok,h1,Xx]
 rfl
theorem Zn1 (kv:List (Value×Value)) (k:Value):(ZhC kv k).isSome=(ZdZ kv k).isSome:=by
 induction kv with
 |nil=>rfl
 | cons x l ih=>
   simp only [ZhC,ZdZ];split
   · rfl
   · simpa using ih
theorem ZjG {t ks e:Nat} {kd:TypeDesc} {z:Value} (hT:MpT P t ks e kd z) {b clock:Nat} {es:Array MapEntry} {k:Value} (hb:Bool) {w:World} (h:w.heap[b]? =some (.map es clock)) (hk:kok kd k (kvOf es)):
 (Instr.lookup t (.map (some b)) k hb).run P w= .ok (if hb then .tuple #[(ZdZ (kvOf es) k).getD z, .bool (ZdZ (kvOf es) k).isSome] else (ZdZ (kvOf es) k).getD z) w:=by
 have hm:=Zn1 (kvOf es) k
 unfold Instr.lookup
 simp only [Sem.run_bind,run_underlying hT.ht,Result.andThen_ok,getObj,Sem.run,h,Zct hT.hk hT.hkd,ZbR hT.hk hk]
 cases h1:ZhC (kvOf es) k with
 | none=>
   rw [h1] at hm
   cases h2:ZdZ (kvOf es) k with
   |none=>cases hb<;>simp [ZbR hT.hk hk,h1,h2,ZeroT.run hT.hz]
   |some v=>rw [h2] at hm;simp at hm
 | some j=>
   rw [h1] at hm
   cases h2:ZdZ (kvOf es) k with
   |none=>rw [h2] at hm;simp at hm
   |some v=>cases hb<;>simp [ZbR hT.hk hk,h1,h2]
theorem Tr.map {M:BS} {w:World} {m:Value} {kv:List (Value×Value)} {F:BS} (h:Tr M w m (.omap kv) F):∃b es clock,m= .map (some b)∧kv=kvOf es∧w.heap[b]? =some (.map es clock)∧∀x,F x↔x=b:=by
 cases h with
 |shr h _=>cases h
 |omap b es clock h hF=>exact ⟨b,es,clock,rfl,rfl,h,hF⟩
theorem ZwC {t ks e:Nat} {kd:TypeDesc} {z:Value} {x y:Operand} {m k:Value} {kv:List (Value×Value)} {p q:PV} (l:Nat) (hT:MpT P t ks e kd z) (ho:o.op= .lookup t x y false) (hx:ev sL x=some (m,p)) (hl:lk hP l=some (m, .omap kv)) (hy:ev sL y=some (k,q)) (hk:kok kd k kv):
 YE P (⟨sL,hP⟩:St) o (· =(ZdZ kv k).getD z) (.val ((ZdZ kv k).getD z)):= .exact fun M F a w H=>by
 have hv:=(H.ev hx).1
 have hkv:=(H.ev hy).1
 obtain ⟨b,es,clock,rfl,rfl,h,_⟩:=(H.tr l _ _ hl).map
 exact ⟨.val _,by simp [execOp,ho,hv,hkv,ZjG hT false h hk]⟩
theorem Zs6 {t ks e:Nat} {kd:TypeDesc} {z:Value} {x y:Operand} {m k:Value} {kv:List (Value×Value)} {p q:PV} (l:Nat) (hT:MpT P t ks e kd z) (ho:o.op= .lookup t x y true) (hx:ev sL x=some (m,p)) (hl:lk hP l=some (m, .omap kv)) (hy:ev sL y=some (k,q)) (hk:kok kd k kv):
 YE P (⟨sL,hP⟩:St) o (· = .tuple [(ZdZ kv k).getD z, .bool (ZdZ kv k).isSome].toArray) (.tup [.val ((ZdZ kv k).getD z), .val (.bool (ZdZ kv k).isSome)]):= .exact fun M F a w H=>by
 have hv:=(H.ev hx).1
 have hkv:=(H.ev hy).1
 obtain ⟨b,es,clock,rfl,rfl,h,_⟩:=(H.tr l _ _ hl).map
 refine ⟨.tup _ _ rfl fun i x p hx hp=>?_,by simp [execOp,ho,hv,hkv,ZjG hT true h hk]⟩
 match i with
 |0=>simp at hx hp;subst hx hp;exact .val _
 |1=>simp at hx hp;subst hx hp;exact .val _
 |i+2=>simp at hx
theorem Zs7 {t ks e:Nat} {kd:TypeDesc} {z u:Value} {x y:Operand} {m k:Value} {kv:List (Value×Value)} {p q:PV} (l:Nat) (hT:MpT P t ks e kd z) (ho:o.op= .lookup t x y false) (hx:ev sL x=some (m,p)) (hl:lk hP l=some (m, .omap kv)) (hy:ev sL y=some (k,q)) (hk:kok kd k kv) (hu:(ZdZ kv k).getD z=u):
 YE P (⟨sL,hP⟩:St) o (· =u) (.val u):=hu▸ZwC l hT ho hx hl hy hk
theorem Tr.mapW {M:BS} {w:World} {m:Value} {kv:List (Value×Value)} {F:BS} (h:Tr M w m (.omap kv) F):∃b es clock,m= .map (some b)∧kv=kvOf es∧w.heap[b]? =some (.map es clock)∧(∀x,F x↔x=b)∧WfM es clock:=by
 cases h with
 |shr h _=>cases h
 |omap b es clock h hF hW=>exact ⟨b,es,clock,rfl,rfl,h,hF,hW⟩
theorem Zs8 {es:Array MapEntry} {clock:Nat} {k v:Value} (h:WfM es clock):WfM (es.push {key:=k,val:=v,born:=clock}) (clock+1):=by
 refine ⟨fun x hx=>?_,?_⟩
 · rw [Array.toList_push,Xp,Xi] at hx;rcases hx with hx|rfl
   · have:=h.1 x hx;omega
   · exact Um _
 · rw [Array.toList_push,XC,VC];refine ⟨h.2,by simp,fun a ha b hb=>?_⟩;rw [Xu,XY,Xi] at hb;obtain ⟨x,hx,rfl⟩:=Xo.1 ha;have:=h.1 x hx;dsimp only at hb;omega
theorem Zl7 {es:Array MapEntry} {clock j:Nat} (f:MapEntry→MapEntry) (hf:∀e,(f e).born=e.born) (h:WfM es clock):WfM (es.modify j f) clock:=by
 have e:(es.modify j f).toList.map (·.born)=es.toList.map (·.born):=by
  rw [Array.toList_modify];have:∀(l:List MapEntry) (j:Nat),(l.modify j f).map (·.born)=l.map (·.born):=fun l=>by
   induction l with
   |nil=>intro j;simp
   | cons a l ih=>intro j;cases j with
     |zero=>simp [hf]
     |succ j=>rw [List.modify_succ_cons,Xu,Xu,ih]
  exact this _ _
 refine ⟨fun x hx=>?_,e▸h.2⟩
 have h1:x.born∈es.toList.map (·.born):=e▸Xo.2 ⟨x,hx,rfl⟩
 obtain ⟨y,hy,hxy⟩:=Xo.1 h1
 have:=h.1 y hy
 omega
theorem ZkH (es:Array MapEntry):(kvOf es).length=es.size:=by simp [kvOf]
theorem ZwD {t ks e:Nat} {x:Operand} {m:Value} {kv:List (Value×Value)} {p:PV} (l:Nat) (ht:P.underlying t=some (.map ks e)) (ho:o.op= .call {callee:= .builtin .len,args:= #[x],argTypes:= #[t]}) (hx:ev sL x=some (m,p)) (hl:lk hP l=some (m, .omap kv)):YE P (⟨sL,hP⟩:St) o (· = .int .i64 kv.length) (.val (.int .i64 kv.length)):= .exact fun M F a w H=>by
 have hv:=(H.ev hx).1
 obtain ⟨b,es,clock,rfl,rfl,h,_⟩:=(H.tr l _ _ hl).map
 exact ⟨.val _,by simp [execOp,ho,hv,resolve,invoke,builtin,Builtin.len_,run_underlying ht,getObj,Sem.run,h,goInt,ZkH]⟩
theorem ZwE {t:Nat} (d:Nat) (hw:ζ2 ops sL o=some true) (hd:o.dst=some d) (hn:d<c.nt) (ho:o.op= .makeMap t none) (hl:lk hP d=none)
 (k:∀m:Value,m.oneCell'=true→aL P c ops Q rest ⟨put d (m, .val m) sL,put d (m, .omap []) hP⟩):aL P c ops Q (o::rest) (⟨sL,hP⟩:St):=
 Zav hw fun a w F H=>by
  have key:HoldsF c ⟨put d (.map (some w.heap.size), .val (.map (some w.heap.size))) sL,put d (.map (some w.heap.size), .omap []) hP⟩ (fun l'=>if l'=d then (fun b=>b=w.heap.size) else F l') (a.put (some d) (.map (some w.heap.size))) (w.alloc (.map #[] 0)):=by
   refine H.change (fun l'=>l'=d) hn ((Ext.alloc _ _).chg) (fun l' x hne hx'=>?_) (fun l' x b hT hx' hb=>?_) (fun hm l' u q hT hx'=>?_) (fun l1 l2 _ _ _ h1 h2 hne=>absurd (h1.trans h2.symm) hne) (fun hm=> .val _)
   · rcases Zag hx' with ⟨e1,_⟩|⟨_,e1⟩
     · exact absurd e1.symm hne
     · exact ⟨e1,by simp [hne]⟩
   · subst hT;simp only [if_true] at hb;exact .inr (by rw [hb];exact Xb _)
   · subst hT;rw [ζ8] at hx'
     cases hx';simp only [if_true];refine .omap w.heap.size #[] 0 ?_ (fun x=>Iff.rfl) ⟨by simp,by simp⟩;show (w.heap.push _)[w.heap.size]? =_;simp
  unfold Oper.wp execOp;simp [ho,Instr.makeMap,newObj,Sem.run,hd,Oper.upon];exact k _ rfl _ _ ⟨_,key⟩
theorem Zl8 {es:Array MapEntry} {k v:Value}:∀{j:Nat},ZhC (kvOf es) k=some j→kvOf (es.modify j fun e=>{e with key:=k,val:=v})=ZfT (kvOf es) k v:=by
 have key:∀(l:List MapEntry) (j:Nat),ZhC (l.map fun x=>(x.key,x.val)) k=some j→(l.modify j fun e=>{e with key:=k,val:=v}).map (fun x=>(x.key,x.val))=ZfT (l.map fun x=>(x.key,x.val)) k v:=by
  intro l;induction l with
  |nil=>intro j h;simp [ZhC] at h
  | cons e l ih=>
    intro j h;simp only [Xu,ZhC] at h;simp only [Xu,ZfT];split at h
    · rename_i hk
      cases h;simp [hk]
    · rename_i hk;rw [XH] at h;obtain ⟨j',h1,rfl⟩:=h;rw [if_neg hk,List.modify_succ_cons,Xu,ih j' h1]
 intro j h
 unfold kvOf at h ⊢
 rw [Array.toList_modify]
 exact key _ j h
theorem Zs9 {es:Array MapEntry} {k v:Value} {clock:Nat} (h:ZhC (kvOf es) k=none):kvOf (es.push {key:=k,val:=v,born:=clock})=ZfT (kvOf es) k v:=by
 have key:∀kv:List (Value×Value),ZhC kv k=none→kv++[(k,v)]=ZfT kv k v:=by
  intro kv;induction kv with
  |nil=>intro _;rfl
  | cons x l ih=>
    intro h;simp only [ZhC] at h;split at h
    · cases h
    · rename_i hk;rw [Option.map_eq_none_iff] at h;rw [ZfT,if_neg hk,Vj,ih h]
 rw [←key _ h]
 simp [kvOf]
def bits:Value→Bool
 | .string _| .int _ _| .bool _=>true
 |_=>false
theorem Zl9 {a b:Value} (hb:bits a=true) (h:keq b a=true):Instr.sameBits 10000 a b=true:=by
 have h:=ZzZ h
 cases a<;>cases b<;>simp_all [keq,bits,Instr.sameBits]
theorem Zz0 {t ks e:Nat} {kd:TypeDesc} {z:Value} {x y u:Operand} {m k v:Value} {kv:List (Value×Value)} {p q r:PV} (l:Nat) (hw:ζ2 ops sL o=some true) (hd:o.dst=none) (hT:MpT P t ks e kd z) (ho:o.op= .mapUpdate t x y u) (hx:ev sL x=some (m,p)) (hl:lk hP l=some (m, .omap kv)) (hy:ev sL y=some (k,q)) (hu:ev sL u=some (v,r)) (hk:kok kd k kv) (hbits:bits k=true)
 (kk:aL P c ops Q rest ⟨sL,put l (m, .omap (ZfT kv k v)) hP⟩):aL P c ops Q (o::rest) (⟨sL,hP⟩:St):=
 Zav hw fun a w F H=>by
  have hxv:=(H.rd.ev hx).1;have hyv:=(H.rd.ev hy).1;have huv:=(H.rd.ev hu).1;obtain ⟨b,es,clock,rfl,rfl,hb,hFb,hWf⟩:=(H.tr l _ _ hl).mapW;have hm:=Zn1 (kvOf es) k;have main:∀(es':Array MapEntry) (clock':Nat),WfM es' clock'→kvOf es'=ZfT (kvOf es) k v→Holds c ⟨sL,put l (.map (some b), .omap (ZfT (kvOf es) k v)) hP⟩ a {w with heap:=w.heap.setIfInBounds b (.map es' clock')}:=fun es' clock' hW' he=>by
   have hlt:=ZbE hb;have hch:Chg (fun x=>x=b) w {w with heap:=w.heap.setIfInBounds b (.map es' clock')}:=⟨rfl,rfl,rfl,by simp,fun i hi hne=>by
    rw [UB (fun e=>hne e.symm)]⟩
   refine ⟨F,H.change0 (fun l'=>l'=l) (hch.wid fun x hx=> .inl ⟨l,_,rfl,hl,(hFb x).2 hx⟩) (fun l' x hne hx'=>?_) (fun l' x b' hT' hx' hb'=>?_) (fun hmm l' u q hT' hx'=>?_) (fun l1 l2 _ _ _ h1 h2 hne=>absurd (h1.trans h2.symm) hne)⟩
   · rcases Zag hx' with ⟨e1,_⟩|⟨_,e1⟩
     · exact absurd e1.symm hne
     · exact ⟨e1,rfl⟩
   · subst hT';exact .inl ⟨l',_,rfl,hl,hb'⟩
   · subst hT';rw [ζ8] at hx'
     cases hx';rw [←he];exact .omap b es' clock' (by simp [hlt]) hFb hW'
  unfold Oper.wp execOp
  cases h1:ZhC (kvOf es) k with
  | none=>
    rw [h1] at hm
    cases h2:ZdZ (kvOf es) k with
    |some v=>rw [h2] at hm;simp at hm
    | none=>
      simp [ho,hxv,hyv,huv,Instr.mapUpdate,run_underlying hT.ht,getObj,setObj,Sem.run,hb,Zct hT.hk hT.hkd,ZbR hT.hk hk,h1,h2,Oper.upon,hd,Act.put];exact kk _ _ (main _ _ (Zs8 hWf) (Zs9 h1))
  | some j =>
    rw [h1] at hm
    cases h2:ZdZ (kvOf es) k with
    |none=>rw [h2] at hm;simp at hm
    | some v0=>
      have hj:∃e0,es[j]? =some e0∧keq k e0.key=true:=by
       have key:∀(l:List MapEntry) (j:Nat),ZhC (l.map fun x=>(x.key,x.val)) k=some j→∃e0,l[j]? =some e0∧keq k e0.key=true:=by
        intro l;induction l with
        |nil=>intro j h;simp [ZhC] at h
        | cons e l ih=>
          intro j h;simp only [Xu,ZhC] at h;split at h
          · rename_i hk;cases h;exact ⟨e,rfl,hk⟩
          · rw [XH] at h;obtain ⟨j',h1,rfl⟩:=h;obtain ⟨e0,h3,h4⟩:=ih j' h1;exact ⟨e0,by simpa using h3,h4⟩
       obtain ⟨e0,h3,h4⟩:=key es.toList j h1;exact ⟨e0,by simpa using h3,h4⟩
      obtain ⟨e0,h3,h4⟩:=hj;have hb0:bits e0.key=true:=by
       cases k<;>simp [bits] at hbits<;>(generalize e0.key=y at h4 ⊢;cases y<;>simp_all [keq,bits])
      have hsb:=Zl9 hb0 h4;simp [ho,hxv,hyv,huv,Instr.mapUpdate,run_underlying hT.ht,getObj,setObj,Sem.run,hb,Zct hT.hk hT.hkd,ZbR hT.hk hk,h1,h2,h3,Instr.keyThatStays,hsb,Oper.upon,hd,Act.put];exact kk _ _ (main _ _ (Zl7 _ (fun _=>rfl) hWf) (Zl8 h1))
end
def skv (es:List (ByteArray×Value)):List (Value×Value):=es.map fun x=>(.string x.1,x.2)
def ikv (es:List (Int×Value)):List (Value×Value):=es.map fun x=>(.int .i64 x.1,x.2)
theorem ZkI (kd:TypeDesc) (k:Value):kok kd k []:=fun x h=>by simp at h
theorem Zie (s:ByteArray) (es:List (ByteArray×Value)):kok .string (.string s) (skv es):=fun x h=>by
 simp [skv] at h
 obtain ⟨a,b,_,rfl⟩:=h
 rfl
theorem Zif (n:Int) (es:List (Int×Value)):kok (.int .i64) (.int .i64 n) (ikv es):=fun x h=>by
 simp [ikv] at h
 obtain ⟨a,b,_,rfl⟩:=h
 simp [Instr.sameNow,keq]
def ZwF {κ:Type} [DecidableEq κ]:List (κ×Value)→κ→Option Value
 |[],_=>none
 |x::l,k=>if k=x.1 then some x.2 else ZwF l k
def Zta {κ:Type} [DecidableEq κ]:List (κ×Value)→κ→Value→List (κ×Value)
 |[],k,v=>[(k,v)]
 |x::l,k,v=>if k=x.1 then (k,v)::l else x::Zta l k v
theorem ZwG (es:List (ByteArray×Value)) (s:ByteArray):ZdZ (skv es) (.string s)=ZwF es s:=by
 induction es with
 |nil=>rfl
 | cons x l ih=>
   simp only [skv,Xu,ZdZ,ZwF,keq,Zs5];rw [show List.map (fun x:ByteArray×Value=>(Value.string x.1,x.2)) l=skv l from rfl,ih]
theorem ZpC (es:List (ByteArray×Value)) (s:ByteArray) (v:Value):ZfT (skv es) (.string s) v=skv (Zta es s v):=by
 induction es with
 |nil=>rfl
 | cons x l ih=>
   simp only [skv,Xu,ZfT,Zta,keq,Zs5];rw [show List.map (fun x:ByteArray×Value=>(Value.string x.1,x.2)) l=skv l from rfl,ih];by_cases h:s=x.1
   · rw [if_pos h,if_pos h];rfl
   · rw [if_neg h,if_neg h];rfl
theorem ZpD (es:List (Int×Value)) (s:Int):ZdZ (ikv es) (.int .i64 s)=ZwF es s:=by
 induction es with
 |nil=>rfl
 | cons x l ih=>
   simp only [ikv,Xu,ZdZ,ZwF,keq];rw [show List.map (fun x:Int×Value=>(Value.int .i64 x.1,x.2)) l=ikv l from rfl,ih];simp
theorem ZpE (es:List (Int×Value)) (s:Int) (v:Value):ZfT (ikv es) (.int .i64 s) v=ikv (Zta es s v):=by
 induction es with
 |nil=>rfl
 | cons x l ih=>
   simp only [ikv,Xu,ZfT,Zta,keq];rw [show List.map (fun x:Int×Value=>(Value.int .i64 x.1,x.2)) l=ikv l from rfl,ih];by_cases h:s=x.1
   · rw [if_pos h,if_pos (by simp [h])];rfl
   · rw [if_neg h,if_neg (by simp [h])];rfl
section
variable {P:Program} {ops:Array Oper} {Q:Exit→Act→World→Prop} {md:Region.Mode} {C:World→Prop} {Z:Nat→Bool}
def ZcO (P:Program) (md:Region.Mode) (ops:Array Oper) (Q:Exit→Act→World→Prop) (C:World→Prop) (Z:Nat→Bool):Nat→Array Bool→Act→World→Prop
 |0,listed,a,w=>Region.ready md ops listed=[]∧Q .normal a w
 | fuel+1,listed,a,w=>
   (Region.ready md ops listed=[]→Q .normal a w)∧
   ∀i∈Region.ready md ops listed,wpOp P ops (Zrl Q) i (fun a' w'=>(Z i=true∨C w')∧ZcO P md ops Q C Z fuel (listed.setIfInBounds i true) a' w') a w
theorem ZjH:∀(fuel:Nat) (listed:Array Bool) (a:Act) (w:World),ZcO P md ops Q C Z fuel listed a w→wpAny P md ops Q fuel listed a w
 |0,_,_,_,h=>h
 |fuel+1,_,_,_,h=>⟨h.1,fun i hi=>Zrm (wpOp_mono (fun a' w' h'=>ZjH fuel _ a' w' h'.2) (h.2 i hi))⟩
def Zig (md:Region.Mode) (ops:Array Oper) (Z:Nat→Bool) (i:Nat):Bool:=(List.range ops.size).all fun z=> !Z z||Zps md ops z i
theorem Zg4 {i:Nat} {oi:Oper} {v:Value} (hi:ops[i]? =some oi) (hz:Zig md ops Z i=true)
 (hsel:∀(j:Nat) (o:Oper) cs b,ops[j]? =some o→o.op≠ .select cs b):
 ∀ (fuel:Nat) (listed:Array Bool) (a:Act) (w:World),
  (∀j oj,ops[j]? =some oj→j≠i→listed.getD j true=false→(∀e∈oj.after,Region.binds md e=true→e.on≠i)→oi.apart ops oj=true)→
  i∈Region.ready md ops listed→YieldsC P ops C oi v a→C w→
  ZcO P md ops Q C Z fuel (listed.setIfInBounds i true) (a.put oi.dst v) w→ZcO P md ops Q C Z (fuel+1) listed a w:=by
 intro fuel
 induction fuel with
 | zero=>
   intro listed a w _ hr hy hC H;refine ⟨fun h=>(by rw [h] at hr;cases hr),fun j hj=>?_⟩;by_cases hji:j=i
   · subst hji;exact YieldsIf.wpOp hi hy.ifS hC ⟨.inr hC,H⟩
   · have:=ready_mono hj hji;rw [H.1] at this
     cases this
 | succ fuel ih=>
   intro listed a w hfree hr hy hC H;refine ⟨fun h=>(by rw [h] at hr;cases hr),fun j hj=>?_⟩;by_cases hji:j=i
   · subst hji;exact YieldsIf.wpOp hi hy.ifS hC ⟨.inr hC,H⟩
   · have h1:=H.2 j (ready_mono hj hji);obtain ⟨hjun,oj,hoj,hall⟩:=mem_ready.1 hj;have hnot:∀e∈oj.after,Region.binds md e=true→e.on≠i:=fun e he hb heq=>by
      have h1:=hall e he hb;have h0:=(mem_ready.1 hr).1;rw [heq] at h1;rcases Xq i listed.size with h'|h'
      · simp [h'] at h0 h1;rw [h0] at h1;cases h1
      · simp [XZ h'] at h1
     have hjz:Z j=false:=by
      cases hZ:Z j
      · rfl
      · exfalso;have hjs:j<ops.size:=by
         rcases Xq j ops.size with h'|h'
         · exact h'
         · rw [XZ h'] at hoj;cases hoj
        have:=Xy.1 hz j (Vk.2 hjs);rw [hZ] at this;simp only [Bool.not_true,Bool.false_or] at this;unfold Zps at this;rw [hoj] at this;obtain ⟨e,he,hb⟩:=Array.any_eq_true'.1 this;simp only [Xe,beq_iff_eq] at hb;exact hnot e he hb.1 hb.2
     have h2:=wpOp_putIf hoj (hfree j oj hoj hji hjun hnot) (fun cs b=>hsel i oi cs b hi) (fun cs b=>hsel j oj cs b hoj) (fun c a w h=>h) hy.ifS h1;have hfree':∀k ok,ops[k]? =some ok→k≠i→(listed.setIfInBounds j true).getD k true=false→
      (∀e∈ok.after,Region.binds md e=true→e.on≠i)→oi.apart ops ok=true:=fun k ok hk hki hun hno=>by
      refine hfree k ok hk hki ?_ hno;by_cases hjk:j=k
      · subst hjk;exact hjun
      · rw [getD_set_ne true hjk] at hun;exact hun
     refine wpOp_mono (fun a' w' h3=>?_) h2;obtain ⟨hy',hor,hK⟩:=h3;have hC':C w':=by
      rcases hor with h|h
      · rw [hjz] at h;cases h
      · exact h
     refine ⟨.inr hC',ih (listed.setIfInBounds j true) a' w' hfree' (ready_mono hr (Ne.symm hji)) hy' hC' ?_⟩;rw [UC _ _ hji];exact hK
end
def ZaP (K:List Nat):List (Nat×Ent)→List (Nat×Ent)
 |[]=>[]
 |(k,x)::l=>cond (K.elem k) ((k,x)::ZaP K l) (ZaP K l)
def Zbv (K:List Nat):List (Nat×Ent)→List (Nat×Ent)
 |[]=>[]
 |(k,x)::l=>cond (K.elem k) (Zbv K l) ((k,x)::Zbv K l)
theorem Zd0 {K:List Nat} {t:Nat}:∀{l:List (Nat×Ent)} {x:Ent},lk (ZaP K l) t=some x↔K.elem t=true∧lk l t=some x
 |[],x=>by simp [ZaP,lk]
 | (k, y)::l,x=>by
   unfold ZaP
   cases hk:K.elem k
   · simp only [cond_false,lk];rw [Zd0]
     cases hb:Nat.beq k t
     · simp
     · have:k=t:=XR hb;subst this;rw [hk];simp
   · simp only [cond_true,lk]
     cases hb:Nat.beq k t
     · simp only [cond_false];exact Zd0
     · have:k=t:=XR hb;subst this;rw [hk];simp
theorem ZbA {K:List Nat} {t:Nat}:∀{l:List (Nat×Ent)} {x:Ent},lk (Zbv K l) t=some x↔K.elem t=false∧lk l t=some x
 |[],x=>by simp [Zbv,lk]
 | (k, y)::l,x=>by
   unfold Zbv
   cases hk:K.elem k
   · simp only [cond_false,lk]
     cases hb:Nat.beq k t
     · simp only [cond_false];exact ZbA
     · have:k=t:=XR hb;subst this;rw [hk];simp
   · simp only [cond_true,lk];rw [ZbA]
     cases hb:Nat.beq k t
     · simp
     · have:k=t:=XR hb;subst this;rw [hk];simp
theorem Ztb {l m:List (Nat×Ent)} {t:Nat}:lk (l++m) t=match lk l t with|some x=>some x|none=>lk m t:=by
 induction l with
 |nil=>rfl
 | cons y l ih=>
   obtain ⟨k,y⟩:=y;simp only [Vj,lk]
   cases Nat.beq k t
   · simp only [cond_false];exact ih
   · rfl
def nK (K:List Nat) (h:List (Nat×Ent)) (F:Nat→BS):BS:=fun b=>∃l x,K.elem l=false∧lk h l=some x∧F l b
def aD (P:Program) (c:Ctx) (ops:Array Oper) (Q:Exit→Act→World→Prop) (Z:Nat→Bool) (K:List Nat) (fuel:Nat) (listed:Array Bool) (st:St):Prop:=
 ∀a w F,HoldsF c st F a w→∀C:World→Prop,(∀W,Chg (nK K st.heap F) w W→C W)→ZcO P .any ops Q C Z fuel listed a w
section
variable {P:Program} {c:Ctx} {ops:Array Oper} {Q:Exit→Act→World→Prop} {Z:Nat→Bool} {K:List Nat} {fuel:Nat} {listed:Array Bool} {sL hP:List (Nat×Ent)} {o:Oper}
theorem Zdb {C C':World→Prop} (h:∀w,C' w→C w):∀(fuel:Nat) (listed:Array Bool) (a:Act) (w:World),ZcO P .any ops Q C' Z fuel listed a w→ZcO P .any ops Q C Z fuel listed a w
 |0,_,_,_,H=>H
 |fuel+1,_,_,_,H=>⟨H.1,fun i hi=>wpOp_mono (fun a' w' h'=>⟨h'.1.imp id (h w'),Zdb h fuel _ a' w' h'.2⟩) (H.2 i hi)⟩
theorem ζV {id:Nat} {l:List Oper} (Z:Nat→Bool) (K:List Nat) (hm:P.follows .mixedOrders=true) (h:aD P c l.toArray Q Z K l.length (Array.replicate l.length false) (⟨sL,hP⟩:St)):aC P c (.region id l.toArray true) Q (⟨sL,hP⟩:St):=fun a w ⟨F,H⟩=>by
 refine wp_region_any hm (ZjH (C:=fun _=>True) (Z:=Z) _ _ _ _ ?_)
 have:=h a w.drew F (H.up (Ext.drew w)) (fun _=>True) (fun _ _=>trivial)
 simpa using this
theorem Zae (hr:Region.ready .any ops listed=[]) (h:aN c Q (⟨sL,hP⟩:St)):aD P c ops Q Z K fuel listed (⟨sL,hP⟩:St):=fun a w F H C hC=>by
 cases fuel with
 |zero=>exact ⟨hr,h a w ⟨F,H⟩⟩
 |succ n=>exact ⟨fun _=>h a w ⟨F,H⟩,fun i hi=>by rw [hr] at hi;cases hi⟩
theorem HoldsF.rdK {F:Nat→BS} {a:Act} {w:World} (H:HoldsF c (⟨sL,hP⟩:St) F a w) (K:List Nat):RdF (mof c hP F) ⟨sL,ZaP K hP⟩ F a w:=⟨fun l v p h=>H.tr l v p (Zd0.1 h).2,H.sl⟩
theorem ZEi {V:Value→Prop} {p:PV} (i d:Nat) (ho:ops[i]? =some o) (hck:(Region.noSelect ops&&(Region.ready .any ops listed).contains i&&Region.free .any ops listed i&&Zig .any ops Z i)=true) (hw:ζ2 ops sL o=some true) (hd:o.dst=some d) (hn:d<c.nt) (hy:YE P ⟨sL,ZaP K hP⟩ o V p)
 (k:∀v,V v→aD P c ops Q Z K fuel (listed.setIfInBounds i true) ⟨put d (v,p) sL,hP⟩):aD P c ops Q Z K (fuel+1) listed (⟨sL,hP⟩:St):=fun a w F H C hC=>by
 simp only [Xe] at hck
 obtain ⟨⟨⟨hs,hr⟩,hf⟩,hz⟩:=hck
 obtain ⟨v,hV,hS,hrun⟩:=hy _ F a w (H.rdK K)
 refine Zdb hC _ _ _ _ ?_
 refine Zg4 ho hz (Region.noSelect_spec hs) _ listed a w (Region.free_spec ho hf) (by simpa using hr) (v:=v) (.inl ⟨Zb5 H.rd hw,fun W hW=>?_⟩) (Chg.rfl' _ _) ?_
 · exact hrun _ W hW (fun b ⟨l,x,_,h1,h2⟩=> .inr ⟨l,x,h1,h2⟩) (fun l x b hl hFb ⟨l',x',h1,h2,h3⟩=>by
    obtain ⟨h4,h5⟩:=Zd0.1 hl;exact H.dj l l' _ _ b (fun e=>by rw [e,h1] at h4;cases h4) h5 h2 hFb h3)
 · rw [hd];exact k v hV _ w F (H.put hn hS) _ (fun W h=>h)
theorem ZEu {v:Value} {p:PV} (i d:Nat) (ho:ops[i]? =some o) (hck:(Region.noSelect ops&&(Region.ready .any ops listed).contains i&&Region.free .any ops listed i&&Zig .any ops Z i)=true) (hw:ζ2 ops sL o=some true) (hd:o.dst=some d) (hn:d<c.nt) (hy:YE P ⟨sL,ZaP K hP⟩ o (· =v) p)
 (k:aD P c ops Q Z K fuel (listed.setIfInBounds i true) ⟨put d (v,p) sL,hP⟩):aD P c ops Q Z K (fuel+1) listed (⟨sL,hP⟩:St):=ZEi i d ho hck hw hd hn hy fun u hu=>by cases hu;exact k
theorem ZCo {V:Value→Prop} {p:PV} (i d:Nat) (ho:ops[i]? =some o) (hr:Region.ready .any ops listed=[i]) (hw:ζ2 ops sL o=some true) (hd:o.dst=some d) (hn:d<c.nt) (hy:YE P (⟨sL,hP⟩:St) o V p)
 (k:∀v,V v→aD P c ops Q Z K fuel (listed.setIfInBounds i true) ⟨put d (v,p) sL,hP⟩):aD P c ops Q Z K (fuel+1) listed (⟨sL,hP⟩:St):=fun a w F H C hC=>by
 obtain ⟨v,hV,hS,hrun⟩:=hy _ F a w H.rd
 have h1:YieldsC P ops (fun W=>W=w) o v a:= .inl ⟨Zb5 H.rd hw,fun W hW=>by
  subst hW;exact hrun (fun _=>False) W (Chg.rfl' _ _) (fun _ h=>h.elim) (fun _ _ _ _ _ h=>h)⟩
 refine ⟨fun hn=>(by rw [hr] at hn;cases hn),fun j hj=>?_⟩
 rw [hr] at hj
 obtain rfl:j=i:=by simpa using hj
 refine YieldsIf.wpOp ho h1.ifS rfl ⟨.inr (hC w (Chg.rfl' _ _)),?_⟩
 rw [hd]
 exact k v hV _ w F (H.put hn hS) C hC
theorem ZDM {v:Value} {p:PV} (i d:Nat) (ho:ops[i]? =some o) (hr:Region.ready .any ops listed=[i]) (hw:ζ2 ops sL o=some true) (hd:o.dst=some d) (hn:d<c.nt) (hy:YE P (⟨sL,hP⟩:St) o (· =v) p)
 (k:aD P c ops Q Z K fuel (listed.setIfInBounds i true) ⟨put d (v,p) sL,hP⟩):aD P c ops Q Z K (fuel+1) listed (⟨sL,hP⟩:St):=ZCo i d ho hr hw hd hn hy fun u hu=>by cases hu;exact k
theorem Zz1 (i d:Nat) (ho:ops[i]? =some o) (hck:(Region.noSelect ops&&(Region.ready .any ops listed).contains i&&Region.free .any ops listed i&&Zig .any ops Z i)=true) (hw:ζ2 ops sL o=some false) (hd:o.dst=some d) (hn:d<c.nt)
 (k:aD P c ops Q Z K fuel (listed.setIfInBounds i true) ⟨put d (undef, .val undef) sL,hP⟩):aD P c ops Q Z K (fuel+1) listed (⟨sL,hP⟩:St):=fun a w F H C hC=>by
 simp only [Xe] at hck
 obtain ⟨⟨⟨hs,hr⟩,hf⟩,hz⟩:=hck
 refine Zdb hC _ _ _ _ ?_
 refine Zg4 ho hz (Region.noSelect_spec hs) _ listed a w (Region.free_spec ho hf) (by simpa using hr) (v:=undef) (.inr ⟨Zb5 H.rd hw,rfl⟩) (Chg.rfl' _ _) ?_
 rw [hd]
 exact k _ w F (H.put hn (.val _)) _ (fun W h=>h)
theorem ZwH (t:Nat) {b:Bool} {q:PV} (hx:lk sL t=some (.bool b,q)) (ht:b=true→aD P c ops Q Z K fuel listed ⟨put t (.bool true, .val (.bool true)) sL,hP⟩) (hf:b=false→aD P c ops Q Z K fuel listed ⟨put t (.bool false, .val (.bool false)) sL,hP⟩):aD P c ops Q Z K fuel listed (⟨sL,hP⟩:St):=fun a w F H C hC=>by
 have key:HoldsF c ⟨put t (.bool b, .val (.bool b)) sL,hP⟩ F a w:=⟨H.toHeapF,fun s u r hs=>by
  rcases Zag hs with ⟨rfl,e⟩|⟨_,e⟩
  · cases e;exact ⟨(H.sl _ _ _ hx).1, .val _⟩
  · exact H.sl s u r e,H.size,H.df⟩
 cases b
 · exact hf rfl a w F key C hC
 · exact ht rfl a w F key C hC
theorem HoldsF.frame {F:Nat→BS} {a:Act} {w:World} (H:HoldsF c (⟨sL,hP⟩:St) F a w) (K:List Nat):
 HoldsF ⟨w,fun b=>c.M0 b∨∃l x,K.elem l=true∧lk hP l=some x∧F l b,nK K hP F,c.nt,c.dr,c.df⟩ ⟨sL,Zbv K hP⟩ F a w:=by
 have hm:∀b,mof ⟨w,fun b=>c.M0 b∨∃l x,K.elem l=true∧lk hP l=some x∧F l b,nK K hP F,c.nt,c.dr,c.df⟩ (Zbv K hP) F b→mof c hP F b:=by
  rintro b ((h|⟨l,x,_,h1,h2⟩)|⟨l,x,h1,h2⟩)
  · exact .inl h
  · exact .inr ⟨l,x,h1,h2⟩
  · exact .inr ⟨l,x,(ZbA.1 h1).2,h2⟩
 refine ⟨⟨fun l v p h=>(H.tr l v p (ZbA.1 h).2).anti fun b _=>hm b,fun l x b h hb=> .inr ⟨l,x,(ZbA.1 h).1,(ZbA.1 h).2,hb⟩,fun l l' x x' b hne h h'=>H.dj l l' x x' b hne (ZbA.1 h).2 (ZbA.1 h').2,?_,Chg.rfl' _ _,fun _=>Xb _⟩,fun t v p h=>⟨(H.sl t v p h).1,(H.sl t v p h).2.anti fun b _=>hm b⟩,H.size,H.df⟩
 refine ⟨?_,fun hn g hg=>?_,fun hn g hg=>?_⟩
 rotate_left
 · obtain ⟨h1,h2,_⟩:=H.mok.tb hn g hg;refine ⟨h1,?_,?_⟩
   · rintro (h|⟨l,x,_,h3,h4⟩)
     · exact h2 (.inl h)
     · exact h2 (.inr ⟨l,x,h3,h4⟩)
   · rintro ⟨l,x,_,h3,h4⟩;exact h2 (.inr ⟨l,x,h3,h4⟩)
 · obtain ⟨h1,h2,_⟩:=H.mok.er hn g hg;refine ⟨h1,?_,?_⟩
   · rintro (h|⟨l,x,_,h3,h4⟩)
     · exact h2 (.inl h)
     · exact h2 (.inr ⟨l,x,h3,h4⟩)
   · rintro ⟨l,x,_,h3,h4⟩;exact h2 (.inr ⟨l,x,h3,h4⟩)
 rintro b (h|⟨l,x,hK,h1,h2⟩)
 · exact ⟨Nat.lt_of_lt_of_le (H.m0.m b h).1 H.ext.size,fun ⟨l,x,_,h1,h2⟩=>H.apart h h1 h2⟩
 · exact ⟨(H.tr l _ _ h1).lt b h2,fun ⟨l',x',hK',h3,h4⟩=>H.dj l l' _ _ b (fun e=>by rw [e,hK'] at hK;cases hK) h1 h3 h2 h4⟩
theorem HoldsF.unframe {F F':Nat→BS} {a a':Act} {w w':World} {st':St} (H:HoldsF c (⟨sL,hP⟩:St) F a w)
 (H':HoldsF ⟨w,fun b=>c.M0 b∨∃l x,K.elem l=true∧lk hP l=some x∧F l b,nK K hP F,c.nt,c.dr,c.df⟩ st' F' a' w'):
 HoldsF c ⟨st'.slots,st'.heap++ZaP K hP⟩ (fun l=>match lk st'.heap l with|some _=>F' l|none=>F l) a' w'∧Chg (nK K hP F) w w'∧
  (∀b,nK K (st'.heap++ZaP K hP) (fun l=>match lk st'.heap l with|some _=>F' l|none=>F l) b→nK K hP F b∨w.heap.size≤b):=by
 have hlook:∀l x,lk (st'.heap++ZaP K hP) l=some x→(lk st'.heap l=some x)∨(lk st'.heap l=none∧K.elem l=true∧lk hP l=some x):=fun l x h=>by
  rw [Ztb] at h
  cases h1:lk st'.heap l with
  |some y=>rw [h1] at h;cases h;exact .inl rfl
  |none=>rw [h1] at h;exact .inr ⟨rfl,Zd0.1 h⟩
 have hmm:∀b,mof c (st'.heap++ZaP K hP) (fun l=>match lk st'.heap l with|some _=>F' l|none=>F l) b→mof ⟨w,fun b=>c.M0 b∨∃l x,K.elem l=true∧lk hP l=some x∧F l b,nK K hP F,c.nt,c.dr,c.df⟩ st'.heap F' b:=by
  rintro b (h|⟨l,x,h1,h2⟩)
  · exact .inl (.inl h)
  · rcases hlook l x h1 with h3|⟨h3,h4,h5⟩
    · simp only [h3] at h2;exact .inr ⟨l,x,h3,h2⟩
    · simp only [h3] at h2;exact .inl (.inr ⟨l,x,h4,h5,h2⟩)
 have hch:Chg (nK K hP F) w w':=H'.ext
 have hKN:∀l x b,K.elem l=true→lk hP l=some x→F l b→¬nK K hP F b:=fun l x b hK hl hb ⟨l',x',hK',h3,h4⟩=>H.dj l l' _ _ b (fun e=>by rw [e,hK'] at hK;cases hK) hl h3 hb h4
 have hapart:∀l x l' x' b,K.elem l=true→lk hP l=some x→F l b→lk st'.heap l'=some x'→¬F' l' b:=fun l x l' x' b hK hl hb hl' hb'=>by
  exact H'.apart (.inr ⟨l,x,hK,hl,hb⟩) hl' hb'
 refine ⟨⟨⟨fun l v p h=>?_,fun l x b h hb=>?_,fun l l' x x' b hne h h' hb hb'=>?_,H.m0,?_,fun h=>XU (H.dw h) (H'.dw h)⟩,fun t v p h=>⟨(H'.sl t v p h).1,(H'.sl t v p h).2.anti fun b _=>hmm b⟩,H'.size,H'.df⟩,hch,?_⟩
 · rcases hlook l _ h with h1|⟨h1,h2,h3⟩
   · simp only [h1];exact (H'.tr l v p h1).anti fun b _=>hmm b
   · simp only [h1];refine (H.tr l v p h3).to hch (fun b hlt hb=>?_) (fun b _ ⟨l',x',_,h4,h5⟩=> .inr ⟨l',x',h4,h5⟩) (fun b hb=>hKN l _ b h2 h3 hb);rcases hmm b hb with (h|⟨l',x',_,h4,h5⟩)|⟨l',x',h4,h5⟩
     · exact .inl h
     · exact .inr ⟨l',x',h4,h5⟩
     · rcases H'.lo l' x' b h4 h5 with h6|⟨l2,x2,_,h7,h8⟩
       · exact absurd hlt (by simp only at h6;omega)
       · exact .inr ⟨l2,x2,h7,h8⟩
 · rcases hlook l _ h with h1|⟨h1,h2,h3⟩
   · simp only [h1] at hb;rcases H'.lo l x b h1 hb with h4|⟨l2,x2,_,h7,h8⟩
     · exact .inl (XU H.ext.size h4)
     · exact H.lo l2 x2 b h7 h8
   · simp only [h1] at hb;exact H.lo l x b h3 hb
 · rcases hlook l _ h with h1|⟨h1,h2,h3⟩
   · rcases hlook l' _ h' with k1|⟨k1,k2,k3⟩
     · simp only [h1] at hb;simp only [k1] at hb';exact H'.dj l l' x x' b hne h1 k1 hb hb'
     · simp only [h1] at hb;simp only [k1] at hb';exact hapart l' _ l _ b k2 k3 hb' h1 hb
   · rcases hlook l' _ h' with k1|⟨k1,k2,k3⟩
     · simp only [h1] at hb;simp only [k1] at hb';exact hapart l _ l' _ b h2 h3 hb k1 hb'
     · simp only [h1] at hb;simp only [k1] at hb';exact H.dj l l' x x' b hne h3 k3 hb hb'
 · exact H.ext.tr hch fun b ⟨l,x,_,h1,h2⟩=>(H.lo l x b h1 h2).symm
 · rintro b ⟨l,x,hK,h1,h2⟩;rcases hlook l _ h1 with h3|⟨h3,h4,h5⟩
   · simp only [h3] at h2;rcases H'.lo l x b h3 h2 with h4|h4
     · exact .inr h4
     · exact .inl h4
   · rw [hK] at h4;cases h4
def aW (P:Program) (c:Ctx) (ops:Array Oper) (Q:Exit→Act→World→Prop) (Z:Nat→Bool) (K:List Nat) (fuel:Nat) (listed:Array Bool) (st:St) (i:Nat):Prop:=
 ∀a w F,HoldsF c st F a w→∀C:World→Prop,(∀W,Chg (nK K st.heap F) w W→C W)→wpOp P ops (Zrl Q) i (fun a' w'=>(Z i=true∨C w')∧ZcO P .any ops Q C Z fuel (listed.setIfInBounds i true) a' w') a w
theorem ζj (i:Nat) (hr:Region.ready .any ops listed=[i]) (h:aW P c ops Q Z K fuel listed (⟨sL,hP⟩:St) i):aD P c ops Q Z K (fuel+1) listed (⟨sL,hP⟩:St):=fun a w F H C hC=>
 ⟨(fun hn=>by rw [hr] at hn;cases hn),fun j hj=>by
   rw [hr] at hj;obtain rfl:j=i:=by simpa using hj
   exact h a w F H C hC⟩
theorem Zat (i j:Nat) (hr:Region.ready .any ops listed=[i,j]) (h:aW P c ops Q Z K fuel listed (⟨sL,hP⟩:St) i) (h':aW P c ops Q Z K fuel listed (⟨sL,hP⟩:St) j):aD P c ops Q Z K (fuel+1) listed (⟨sL,hP⟩:St):=fun a w F H C hC=>
 ⟨(fun hn=>by rw [hr] at hn;cases hn),fun m hm=>by
   rw [hr] at hm;rcases (by simpa using hm:m=i∨m=j) with rfl|rfl
   · exact h a w F H C hC
   · exact h' a w F H C hC⟩
theorem ζg {i:Nat} (ho:ops[i]? =some o)
 (h:∀(w':World) (M' N':BS) (DQ:Exit→Act→World→Prop),(∀st':St,aD P c ops Q Z K fuel (listed.setIfInBounds i true) ⟨st'.slots,st'.heap++ZaP K hP⟩→aN ⟨w',M',N',c.nt,c.dr,c.df⟩ DQ st')→aL P ⟨w',M',N',c.nt,c.dr,c.df⟩ ops DQ [o] ⟨sL,Zbv K hP⟩):aW P c ops Q Z K fuel listed (⟨sL,hP⟩:St) i:=fun a w F H C hC=>by
 refine Zcp (Q':=fun _ a' w'=>(Z i=true∨C w')∧ZcO P .any ops Q C Z fuel (listed.setIfInBounds i true) a' w') ho (fun a' w' hq=>hq) ?_
 refine h w _ _ _ (fun st' hD a' w' ⟨F',H'⟩=>?_) a w ⟨F,H.frame K⟩
 obtain ⟨H2,hch,hnk⟩:=H.unframe H'
 refine ⟨.inr (hC w' hch),hD a' w' _ H2 C fun W hW=>hC W (hch.tr hW hnk)⟩
theorem ZkJ {i:Nat} (ho:ops[i]? =some o) (hZ:Z i=true) (hr:Region.ready .any ops (listed.setIfInBounds i true)=[]) (h:∀DQ:Exit→Act→World→Prop,(∀st':St,aN c Q st'→aN c DQ st')→aL P c ops DQ [o] (⟨sL,hP⟩:St)):aW P c ops Q Z K fuel listed (⟨sL,hP⟩:St) i:=fun a w F H C hC=>by
 refine Zcp (Q':=fun _ a' w'=>(Z i=true∨C w')∧ZcO P .any ops Q C Z fuel (listed.setIfInBounds i true) a' w') ho (fun a' w' hq=>hq) ?_
 refine h _ (fun st' hN a' w' H'=>⟨.inl hZ,?_⟩) a w ⟨F,H⟩
 cases fuel with
 |zero=>exact ⟨hr,hN a' w' H'⟩
 |succ n=>exact ⟨fun _=>hN a' w' H',fun i hi=>by rw [hr] at hi;cases hi⟩
end
section
variable {P:Program} {c:Ctx} {ops:Array Oper} {Q:Exit→Act→World→Prop} {rest:List Oper} {sL hP:List (Nat×Ent)} {o:Oper}
theorem ζJ {l:Nat} {x:Ent} (l':Nat) (hl:lk hP l=some x) (hl':lk (del l hP) l'=none):ZlY (⟨sL,hP⟩:St) (fun _:Unit=>⟨sL,put l' x (del l hP)⟩):=fun c a w ⟨F,H⟩=>by
 refine ⟨(),fun t=>if t=l' then F l else F t,?_⟩
 obtain ⟨v,p⟩:=x
 have aux:∀t y,(t=l∨t=l')→lk (put l' (v,p) (del l hP)) t=some y→t=l'∧y=(v,p):=fun t y ht hy=>by
  rcases Zag hy with ⟨e1,e2⟩|⟨n1,e2⟩
  · exact ⟨e1.symm,e2.symm⟩
  · rcases ht with h|h
    · exact absurd h.symm (ZaH e2).1
    · exact absurd h.symm n1
 refine H.retell (fun t=>t=l∨t=l') (fun t y hnT hy=>?_) (fun t y b hT hy hb=>?_) (fun hm t u q hT hy=>?_) (fun t1 t2 y1 y2 b h1 h2 hne hy1 hy2=>absurd ((aux t1 y1 h1 hy1).1.trans (aux t2 y2 h2 hy2).1.symm) hne)
 · have n2:t≠l':=fun e=>hnT (.inr e);rw [Za5 (Ne.symm n2)] at hy;exact ⟨(ZaH hy).2,by simp [n2]⟩
 · obtain ⟨rfl,_⟩:=aux t y hT hy;simp only [if_true] at hb;exact ⟨l,_, .inl rfl,hl,hb⟩
 · obtain ⟨rfl,e⟩:=aux t _ hT hy
   cases e;simp only [if_true];exact (H.tr l v p hl).anti hm
def ZCp (p p':PV):Prop:=p'=p∨(p= .val (.slice none 0 0)∧∃e k,p'= .own e k 0 [])
theorem ZfU {l e k n:Nat} {h:Value} {cs:List PV} (cs':List PV) (hl:lk hP l=some (h, .own e k n cs)) (hlen:cs'.length=cs.length) (hc:∀(i:Nat) (p p':PV),cs[i]? =some p→cs'[i]? =some p'→ZCp p p'):ZlY (⟨sL,hP⟩:St) (fun _:Unit=>⟨sL,put l (h, .own e k n cs') hP⟩):=fun c a w ⟨F,H⟩=>by
 refine ⟨(),F,?_⟩
 have hTr:=H.tr l _ _ hl
 obtain ⟨xs,Fs,hrow,hxl,hT,hd,hb,hF⟩:=hTr.row
 refine H.retell (fun t=>t=l) (fun t y hnT hy=>?_) (fun t y b hT' hy hb'=>?_) (fun hm t u q hT' hy=>?_) (fun t1 t2 _ _ _ h1 h2 hne=>absurd (h1.trans h2.symm) hne)
 · have n2:t≠l:=hnT;rw [Za5 (Ne.symm n2)] at hy;exact ⟨hy,rfl⟩
 · subst hT';exact ⟨t,_,rfl,hl,hb'⟩
 · subst hT';rw [ζ8] at hy
   cases hy;refine .own xs Fs hrow (by omega) (fun i x p' hx hp'=>?_) (fun i j b hi hj=>hd i j b (by omega) (by omega)) (fun i b hi=>hb i b (by omega)) (fun b=>by rw [hF b,hlen]);obtain ⟨p,hp⟩:=Zai hp' hlen;have hTi:=(hT i x p hx hp).anti hm;rcases hc i p p' hp hp' with rfl|⟨rfl,e',k',rfl⟩
   · exact hTi
   · have hFi:∀b,¬Fs i b:=by
      cases hTi with
      |shr _ hF=>exact hF
     have hx0:x= .slice none 0 0:=(hTi.sh rfl).vOf;subst hx0;exact .own [] (fun _ _=>False) (World.ownsRow_nil _ _ _ _) rfl (by simp) (by simp) (by simp) (fun b=>by simp [Value.ownBlock];exact hFi b)
theorem Zeu {ι:Type} {x y:Code} (S:ι→St) (h:aC P c x (Exit.then (fun a w=>∃i,Holds c (S i) a w) Q) (⟨sL,hP⟩:St)) (k:∀i,aC P c y Q (S i)):aC P c x (Exit.then (y.wp P Q) Q) (⟨sL,hP⟩:St):=fun a w H=>
 wp_mono (h a w H) fun e a' w' hq=>by
  cases e with
  |normal=>obtain ⟨i,hi⟩:=hq;exact k i a' w' hi
  |_=>exact hq
theorem ZfV {l l' j e k n:Nat} {h:Value} {cs:List PV} {p:PV} (hl:lk hP l=some (h, .own e k n cs)) (hp:cs[j]? =some p) (hl':lk hP l'=none) (hok:Zfx p=true):
 ZlY (⟨sL,hP⟩:St) (fun v:{v:Value//v.oneCell'=true}=>⟨sL,put l' (v.1,p) (put l (h, .own e k n (cs.set j (.val v.1))) hP)⟩):=fun c a w H=>by
 obtain ⟨v,F,H'⟩:=focus hl hp hl' c a w H
 exact ⟨⟨v,(H'.tr l' v p (ζ8 _ _ _)).cellOne hok⟩,F,H'⟩
end
open Go.RowKit Go.Cb Go.Proofs Go.Sort
def ZCq (P:Program) (fs g k:Nat):Prop:=∀{α:Type} [Inhabited α] (enc:α→List Value),(∀x,(enc x).length=k)→(∀x,∀v∈enc x,v.oneCell'=true)→∀(cf:α→α→Int),SWO (ltOf cf)→∀(blk cap:Nat) (d:Array α) (w:World),
 CmpLays P g #[] enc k cf blk 0 d.size w→HoldsK enc k w blk 0 d→blk<w.heap.size→d.size<4611686018427387904→
 Calls P fs #[.slice (some ⟨blk,0,none⟩) d.size cap, .func (.func g) #[] #[]] w fun e w'=>e= .returned (.tuple #[])∧∃d' n os,PermIn 0 d.size d d'∧SortedIn (ltOf cf) 0 d.size d'∧w'=sortWorldK enc k w blk 0 n d' os
theorem Zy0 {α:Type} [Inhabited α] (enc:α→List Value) (k:Nat) (w:World) (blk m:Nat) (d:Array α) (os:Array Obj):Chg (fun b=>b=blk) w (sortWorldK enc k w blk 0 m d os):=by
 refine ⟨rfl,rfl,rfl,?_,fun i hi hne=>?_⟩
 · simp [sortWorldK,grow,putRowK,putRow,mapBlock,ahead]
 · have:(sortWorldK enc k w blk 0 m d os).heap=(w.heap.modify blk (onCells (putCells id 0 (flatK enc k d))))++os:=rfl;rw [this,Vh (by simpa using hi),VT,if_neg (fun e=>hne e.symm)]
theorem ZCr {α:Type} [Inhabited α] (enc:α→List Value) (k:Nat) (w:World) (blk m:Nat) (d:Array α) (os:Array Obj) {cur:Array Value} {e:TypeId} (h:w.heap[blk]? =some (.cells cur e (0,0))):
 (sortWorldK enc k w blk 0 m d os).heap[blk]? =some (.cells (putCells id 0 (flatK enc k d) cur) e (0,0)):=by
 have hlt:=ZbE h
 have:(sortWorldK enc k w blk 0 m d os).heap=(w.heap.modify blk (onCells (putCells id 0 (flatK enc k d))))++os:=rfl
 rw [this,Vh (by simpa using hlt),VT,if_pos rfl,h]
 rfl
theorem ZwI (f cur:Array Value) (h:f.size≤cur.size):(putCells id 0 f cur).toList.take f.size=f.toList:=by
 apply Vb
 intro j
 by_cases hj:j<f.size
 · rw [XW hj];have hjc:j<cur.size:=by omega
   simp [putCells,hj,hjc]
 · rw [XI (by simp;omega),XI (by simp;omega)]
section
variable {P:Program} {c:Ctx} {ops:Array Oper} {Q:Exit→Act→World→Prop} {rest:List Oper} {sL hP:List (Nat×Ent)} {o:Oper}
theorem Ztc {β:Type} {fs g k e d l:Nat} {f:β→List PV} {cmp:β→β→Int} {rows:List β} {h:Value} {q q':PV} {x y:Operand} {ats:Array TypeId} (hS:ZCq P fs g k) (hf:∀x,(f x).length=k) (hk:0<k) (hsh:∀x,(f x).all (fun p=>isSh p&&one p)=true)
 (hirr:∀a,¬cmp a a<0) (htr:∀a b c,cmp a b<0→cmp b c<0→cmp a c<0) (hnt:∀a b c,¬cmp a b<0→¬cmp b c<0→¬cmp a c<0)
 (hcmp:∀(x y:β) (M:BS) (W:World) (u v:Value),x∈rows→y∈rows→Shr M W u (.agg (f x))→Shr M W v (.agg (f y))→Calls P g #[u,v] W fun e w'=>e= .returned (.int .i64 (cmp x y))∧∃q os',w'=grow (W.drewN q) os')
 (hn:0<rows.length) (hn2:rows.length<4611686018427387904)
 (hw:ζ2 ops sL o=some true) (hd:o.dst=some d) (hdn:d<c.nt) (ho:o.op= .call {callee:= .value (.func fs),args:= #[x,y],argTypes:=ats}) (hc:∀args w,(callFunc fs args).run P w= .ok (.enter fs args) w) (hx:ev sL x=some (h,q)) (hy:ev sL y=some (.func (.func g) #[] #[],q')) (hl:lk hP l=some (h, .own e k rows.length (rows.flatMap f)))
 (kk:∀rows':List β,rows'.Perm rows→(∀(i j:Nat) (a b:β),i<j→rows'[i]? =some a→rows'[j]? =some b→¬cmp b a<0)→aL P c ops Q rest ⟨put d (.tuple #[], .val (.tuple #[])) sL,put l (h, .own e k rows.length (rows'.flatMap f)) hP⟩):aL P c ops Q (o::rest) (⟨sL,hP⟩:St):=
 Zav hw fun a w F H=>by
  have hxv:=(H.rd.ev hx).1;have hyv:=(H.rd.ev hy).1;have hTr:=H.tr l _ _ hl;obtain ⟨xs,Fs,hrow,hlen,hT,hdj,hb,hF⟩:=hTr.row;obtain ⟨blk,cap,hh,hc1,hc2,hc3⟩:=Zds hTr hn;have hfl:=flat_len hf rows;have hblkF:F l blk:=(hF blk).2 (.inl (by rw [hh];rfl));have hblkM:mof c hP F blk:= .inr ⟨l,_,hl,hblkF⟩;haveI:Inhabited (Fin rows.length):=⟨⟨0,hn⟩⟩
  let enc:Fin rows.length→List Value:=fun i=>(xs.drop (i.1*k)).take k;have hxl:xs.length=rows.length*k:=by omega
  have henc:∀i:Fin rows.length,(enc i).length=k:=fun i=>by
   have h1:(i.1+1)*k≤rows.length*k:=Va k i.2;rw [Vi,Nat.one_mul] at h1;simp [enc];omega
  have hget:∀(i:Fin rows.length) (j:Nat),j<k→(enc i)[j]? =xs[i.1*k+j]? :=fun i j hj=>by
   simp only [enc];rw [XW hj,Vm]
  have hrd:∀(i:Fin rows.length) (j:Nat) (v:Value) (p:PV),(enc i)[j]? =some v→(f rows[i.1])[j]? =some p→Shr (mof c hP F) w v p∧isSh p=true∧one p=true:=fun i j v p hv hp=>by
   have hj:j<k:=by rw [←hf];exact ζi hp
   rw [hget i j hj] at hv;have hp2:(rows.flatMap f)[i.1*k+j]? =some p:=by rw [Zn0 hf (XE i.2) hj];exact hp
   have:=Xy.1 (hsh rows[i.1]) p (Xg hp);rw [Xe] at this;exact ⟨(hT _ v p hv hp2).sh this.1,this.1,this.2⟩
  have hone:∀(i:Fin rows.length),∀v∈enc i,v.oneCell'=true:=fun i v hv=>by
   obtain ⟨j,hj,rfl⟩:=V4 hv;have hjk:j<k:=by rw [←henc i];exact hj
   obtain ⟨p,hp⟩:=Zaj (show j<(f rows[i.1]).length by rw [hf];exact hjk);obtain ⟨h1,_,h3⟩:=hrd i j _ p (XE hj) hp;exact h1.one h3
  let cf:Fin rows.length→Fin rows.length→Int:=fun i j=>cmp rows[i.1] rows[j.1];have hO:SWO (ltOf cf):=⟨fun i=>decide_eq_false (hirr _),fun i j m h1 h2=>decide_eq_true (htr _ _ _ (of_decide_eq_true h1) (of_decide_eq_true h2)),fun i j m h1 h2=>decide_eq_false (hnt _ _ _ (of_decide_eq_false h1) (of_decide_eq_false h2))⟩;let ds:Array (Fin rows.length):=Array.ofFn id;have hds:ds.size=rows.length:=by simp [ds]
  have hdg:∀j (hj:j<rows.length),ds[j]! =⟨j,hj⟩:=fun j hj=>by simp [ds,hj]
  have hagg:∀(i:Fin rows.length) (W:World),Chg (fun b=>b=blk) w W→Shr (mof c hP F) W (.agg (enc i).toArray) (.agg (f rows[i.1])):=fun i W hW=>by
   refine .agg _ _ (by rw [henc,hf]) fun j v p hv hp=>?_;exact (hrd i j v p hv hp).1.to hW (fun b _ hb=>by rw [hb];exact hblkM) (fun _ _ h=>h)
  have hcl:CmpLays P g #[] enc k cf blk 0 ds.size w:=fun m os dk _ i j=>by
   have hW:=Zy0 enc k w blk m dk os;exact hcmp rows[i.1] rows[j.1] _ _ _ _ (List.getElem_mem _) (List.getElem_mem _) (hagg i _ hW) (hagg j _ hW)
  have hHold:HoldsK enc k w blk 0 ds:=fun t ht=>by
   rw [size_flatK,hds] at ht;have hdiv:t / k<rows.length:=by rw [Nat.div_lt_iff_lt_mul hk];exact ht
   have hmod:t % k<k:=Nat.mod_lt _ hk;have he:t / k*k+t % k=t:=by rw [VL];exact Nat.div_add_mod _ _
   rw [get_flatK _ _ _ _ (by rw [hds];exact ht),hdg _ hdiv];have hg2:=hget ⟨t / k,hdiv⟩ (t % k) hmod;simp only at hg2;rw [he] at hg2;obtain ⟨v,hv⟩:=Zaj (show t<xs.length by omega);rw [hv] at hg2;have hrow':=hrow;rw [hh] at hrow';refine ⟨?_,by rw [Xx];exact hrow'.frozenAt t⟩;rw [Xx,Zbu hrow' hv];have:(enc ⟨t / k,hdiv⟩)[t % k]! =v:=by
    rw [getElem!_def,hg2]
   rw [id,this]
  have hcall:=hS enc henc hone cf hO blk cap ds w hcl hHold hc3 (by rw [hds];exact hn2);rw [hds] at hcall;unfold Oper.wp;have hrun:(execOp a.eval o).run P w= .ok (.enter fs #[h, .func (.func g) #[] #[]]) w:=by
   have hev:a.eval (.func fs)= .func (.func fs) #[] #[]:=rfl;simp [execOp,ho,resolve,Deferred.ofValue,hev,invoke,hxv,hyv,hc]
  rw [hrun,Oper.upon_enter,hh];refine hcall.mono fun e' w' ⟨he',d',m,os,hperm,hsorted,hw'⟩=>?_;subst he';have hd's:d'.size=rows.length:=by rw [hperm.1,hds]
  have hpl:d'.toList.Perm ds.toList:=by
   have h2:=hperm.2.2;have e1:(ds.extract 0 rows.length).toList=ds.toList:=by
    rw [Un];simp only [List.extract_eq_take_drop,Vv,Vg];exact Xn (by rw [X3,hds];exact Xb _)
   have e2:(d'.extract 0 rows.length).toList=d'.toList:=by
    rw [Un];simp only [List.extract_eq_take_drop,Vv,Vg];exact Xn (by rw [X3,hd's];exact Xb _)
   rw [e1,e2] at h2;exact h2
  let rows':List β:=d'.toList.map fun i=>rows[i.1];have hr's:rows'.length=rows.length:=by simp [rows',hd's]
  have hdl:ds.toList.map (fun i:Fin rows.length=>rows[i.1])=rows:=by
   apply List.ext_getElem
   · simp [ds]
   · intro j h1 h2;simp [ds]
  have hrp:rows'.Perm rows:=by
   have:=hpl.map fun i:Fin rows.length=>rows[i.1];rw [hdl] at this;exact this
  have hat:∀j (hj:j<rows.length),∃i:Fin rows.length,d'[j]! =i∧rows'[j]? =some rows[i.1]:=fun j hj=>by
   have hj':j<d'.size:=by omega
   refine ⟨d'[j],by simp [hj'],?_⟩;simp [rows',hj']
  rw [hd];refine kk rows' hrp (fun i j x y hij hx' hy'=>?_) _ _ ⟨fun l'=>if l'=l then (fun b=>b=blk) else F l',?_⟩
  · (have hjl:j<rows.length:=by have:=ζi hy';omega);obtain ⟨i1,h1,h2⟩:=hat i (by omega);obtain ⟨j1,h3,h4⟩:=hat j hjl;rw [h2] at hx';cases hx';rw [h4] at hy';cases hy';have h5:=hsorted i j (Xf _) hij hjl;rw [h1,h3] at h5;simpa [ltOf,cf] using h5
  · have hch0:=Zy0 enc k w blk m d' os;rw [←hw'] at hch0;refine H.change (fun l'=>l'=l) hdn (hch0.wid fun b hb'=> .inl ⟨l,_,rfl,hl,by rw [hb'];exact hblkF⟩) (fun l' z hne hz=>?_) (fun l' z b hT' hz hb'=>?_) (fun hmm l' u p hT' hz=>?_) (fun l1 l2 _ _ _ h1 h2 hne=>absurd (h1.trans h2.symm) hne) (fun _=> .val _) (fun _=>by rw [hw'];exact VU _ _)
    · rcases Zag hz with ⟨e1,_⟩|⟨_,e1⟩
      · exact absurd e1.symm hne
      · exact ⟨e1,by simp [hne]⟩
    · subst hT';simp only [if_true] at hb';exact .inl ⟨l',_,rfl,hl,by rw [hb'];exact hblkF⟩
    · subst hT';rw [ζ8] at hz
      cases hz;simp only [if_true];rcases hrow.2 with ⟨e1,_⟩|⟨g',cap',cur,e1,_,e3,e4,e5,e6,e7⟩
      · rw [hh] at e1;cases e1
      · rw [hh] at e1
        cases e1;(have hfs:(flatK enc k d').size=rows.length*k:=by rw [size_flatK,hd's]);refine .own (flatK enc k d').toList (fun _ _=>False) ⟨by rw [X3,hfs], .inr ⟨blk,cap,putCells id 0 (flatK enc k d') cur,hh,Xf _,by rw [hw'];exact ZCr enc k w blk m d' os e3,e4,e5,by simp [putCells];exact e6,?_⟩⟩ ((flat_len hf rows').trans ((congrArg (· *k) hr's).trans ((X3 (xs:=flatK enc k d')).trans hfs).symm)) (fun t v p hv hp=>?_) (fun _ _ _ _ _ _ h=>h.elim) (fun _ _ _ h=>h.elim) (fun b=>by rw [hh];simp [Value.ownBlock,eq_comm])
        · rw [←hfs];exact ZwI _ _ (by rw [hfs,e6];exact Va k e4)
        · (have ht:t<rows.length*k:=by have:=ζi hv;rw [X3,hfs] at this;exact this);(have hdiv:t / k<rows.length:=by rw [Nat.div_lt_iff_lt_mul hk];exact ht);have hmod:t % k<k:=Nat.mod_lt _ hk;(have he:t / k*k+t % k=t:=by rw [VL];exact Nat.div_add_mod _ _);obtain ⟨i1,h1,h2⟩:=hat (t / k) hdiv;have hp2:=Zn0 hf h2 hmod;rw [he,hp] at hp2;have hv2:v=(enc i1)[t % k]! :=by
           have h3:=get_flatK enc k d' t (by rw [hd's];exact ht);rw [h1] at h3;rw [←h3,getElem!_def,←Array.getElem?_toList,hv]
          (have hlt:t % k<(enc i1).length:=by rw [henc];exact hmod);have hv3:(enc i1)[t % k]? =some v:=by
           rw [hv2,getElem!_def,XE hlt]
          exact .shr ((hrd i1 (t % k) v p hv3 hp2.symm).1.to (hch0.wid (N:=fun b=>b=blk) fun b hb'=> .inl hb') (fun b _ hb'=>by rw [hb'];exact hblkM) hmm) (fun _ h=>h)
end
theorem nav {A B:Prop} (h:B) (e:B→A:=by intro h;(repeat (first|with_reducible refine ZyY ?_|with_reducible refine Zpx ?_|with_reducible refine Zs1 ?_|with_reducible refine Zpy ?_|with_reducible refine ZsZ ?_|with_reducible refine Zs0 ?_|with_reducible refine Zs2 ?_|with_reducible refine Zpz ?_|with_reducible refine ZpA rfl ?_|with_reducible refine ZyZ ?_|with_reducible refine Zs3 ?_|with_reducible refine ZpB ?_));exact h):A:=e h
theorem ζd {A B:Prop} (h:B) (e:B→A:=by intro h;refine ζf ?_;(repeat (first|with_reducible refine ZyY ?_|with_reducible refine Zpx ?_|with_reducible refine Zs1 ?_|with_reducible refine Zpy ?_|with_reducible refine ZsZ ?_|with_reducible refine Zs0 ?_|with_reducible refine Zs2 ?_|with_reducible refine Zpz ?_|with_reducible refine ZpA rfl ?_|with_reducible refine ZyZ ?_|with_reducible refine Zs3 ?_|with_reducible refine ZpB ?_));(try dsimp only);exact h):A:=e h
section
variable {P:Program} {c:Ctx} {ops:Array Oper} {Q:Exit→Act→World→Prop} {rest:List Oper} {st:St} {sL hP:List (Nat×Ent)} {o:Oper} {x y:Operand} {t t':TypeId} {q q':PV} {Z:Nat→Bool} {K:List Nat} {fuel:Nat} {listed:Array Bool}
theorem xL {v:Value} {p:PV} (d:Nat) (hy:YE P (⟨sL,hP⟩:St) o (· =v) p) (k:aL P c ops Q rest ⟨put d (v,p) sL,hP⟩) (hw:ζ2 ops sL o=some true:=by exact rfl) (hd:o.dst=some d:=by exact rfl) (hn:d<c.nt:=by exact Xa rfl):aL P c ops Q (o::rest) (⟨sL,hP⟩:St):=
 ZEt d hw hd hn hy k
theorem yL {V:Value→Prop} {p:PV} (d:Nat) (hy:YE P (⟨sL,hP⟩:St) o V p) (k:∀v,V v→aL P c ops Q rest ⟨put d (v,p) sL,hP⟩) (hw:ζ2 ops sL o=some true:=by exact rfl) (hd:o.dst=some d:=by exact rfl) (hn:d<c.nt:=by exact Xa rfl):aL P c ops Q (o::rest) (⟨sL,hP⟩:St):=
 ZEg d hw hd hn hy k
theorem kL (d:Nat) (k:aL P c ops Q rest ⟨put d (undef, .val undef) sL,hP⟩) (hw:ζ2 ops sL o=some false:=by exact rfl) (hd:o.dst=some d:=by exact rfl) (hn:d<c.nt:=by exact Xa rfl):aL P c ops Q (o::rest) (⟨sL,hP⟩:St):=
 ZzO d hw hd hn k
theorem bL {l:List Oper} {b:Bool} {q:PV} (t:Nat) (ht:b=true→aL P c ops Q l ⟨put t (.bool true, .val (.bool true)) sL,hP⟩) (hf:b=false→aL P c ops Q l ⟨put t (.bool false, .val (.bool false)) sL,hP⟩) (hx:lk sL t=some (.bool b,q):=by exact rfl):aL P c ops Q l (⟨sL,hP⟩:St):=
 Zpt t hx ht hf
theorem xD {v:Value} {p:PV} (i:Nat) (d:Nat) (ho:ops[i]? =some o) (hy:YE P ⟨sL,ZaP K hP⟩ o (· =v) p) (k:aD P c ops Q Z K fuel (listed.setIfInBounds i true) ⟨put d (v,p) sL,hP⟩) (hck:(Region.noSelect ops&&(Region.ready .any ops listed).contains i&&Region.free .any ops listed i&&Zig .any ops Z i)=true:=by kernel_rfl) (hw:ζ2 ops sL o=some true:=by exact rfl) (hd:o.dst=some d:=by exact rfl) (hn:d<c.nt:=by exact Xa rfl):aD P c ops Q Z K (fuel+1) listed (⟨sL,hP⟩:St):=
 ZEu i d ho hck hw hd hn hy k
theorem yD {V:Value→Prop} {p:PV} (i:Nat) (d:Nat) (ho:ops[i]? =some o) (hy:YE P ⟨sL,ZaP K hP⟩ o V p) (k:∀v,V v→aD P c ops Q Z K fuel (listed.setIfInBounds i true) ⟨put d (v,p) sL,hP⟩) (hck:(Region.noSelect ops&&(Region.ready .any ops listed).contains i&&Region.free .any ops listed i&&Zig .any ops Z i)=true:=by kernel_rfl) (hw:ζ2 ops sL o=some true:=by exact rfl) (hd:o.dst=some d:=by exact rfl) (hn:d<c.nt:=by exact Xa rfl):aD P c ops Q Z K (fuel+1) listed (⟨sL,hP⟩:St):=
 ZEi i d ho hck hw hd hn hy k
theorem kD (i:Nat) (d:Nat) (ho:ops[i]? =some o) (k:aD P c ops Q Z K fuel (listed.setIfInBounds i true) ⟨put d (undef, .val undef) sL,hP⟩) (hck:(Region.noSelect ops&&(Region.ready .any ops listed).contains i&&Region.free .any ops listed i&&Zig .any ops Z i)=true:=by kernel_rfl) (hw:ζ2 ops sL o=some false:=by exact rfl) (hd:o.dst=some d:=by exact rfl) (hn:d<c.nt:=by exact Xa rfl):aD P c ops Q Z K (fuel+1) listed (⟨sL,hP⟩:St):=
 Zz1 i d ho hck hw hd hn k
theorem xE {v:Value} {p:PV} (i:Nat) (d:Nat) (ho:ops[i]? =some o) (hy:YE P (⟨sL,hP⟩:St) o (· =v) p) (k:aD P c ops Q Z K fuel (listed.setIfInBounds i true) ⟨put d (v,p) sL,hP⟩) (hr:Region.ready .any ops listed=[i]:=by kernel_rfl) (hw:ζ2 ops sL o=some true:=by exact rfl) (hd:o.dst=some d:=by exact rfl) (hn:d<c.nt:=by exact Xa rfl):aD P c ops Q Z K (fuel+1) listed (⟨sL,hP⟩:St):=
 ZDM i d ho hr hw hd hn hy k
theorem yE {V:Value→Prop} {p:PV} (i:Nat) (d:Nat) (ho:ops[i]? =some o) (hy:YE P (⟨sL,hP⟩:St) o V p) (k:∀v,V v→aD P c ops Q Z K fuel (listed.setIfInBounds i true) ⟨put d (v,p) sL,hP⟩) (hr:Region.ready .any ops listed=[i]:=by kernel_rfl) (hw:ζ2 ops sL o=some true:=by exact rfl) (hd:o.dst=some d:=by exact rfl) (hn:d<c.nt:=by exact Xa rfl):aD P c ops Q Z K (fuel+1) listed (⟨sL,hP⟩:St):=
 ZCo i d ho hr hw hd hn hy k
theorem ζb {P:Program} {st:St} {o:Oper} {x:Operand} {v:Value} {p:PV} (ho:o.op= .move x:=by exact rfl) (hx:ev st.slots x=some (v,p):=by exact rfl):YE P st o (· =v) p:=
 ZCa ho hx
theorem ζc {P:Program} {st:St} {o:Oper} {x:Operand} {v:Value} {p:PV} (ho:o.op= .assign x:=by exact rfl) (hx:ev st.slots x=some (v,p):=by exact rfl):YE P st o (· =v) p:=
 Zwx ho hx
theorem ζv {P:Program} {st:St} {o:Oper} {c x y:Operand} {b:Bool} {q:PV} {v:Value} {p:PV} (ho:o.op= .pick c x y:=by exact rfl) (hc:ev st.slots c=some (.bool b,q):=by exact rfl) (hx:ev st.slots (if b then x else y)=some (v,p):=by exact rfl):YE P st o (· =v) p:=
 ZCb ho hc hx
theorem Zaw {P:Program} {st:St} {o:Oper} {x:Operand} {t:TypeId} {b:Bool} {q:PV} (ho:o.op= .unOp .not t x:=by exact rfl) (hx:ev st.slots x=some (.bool b,q):=by exact rfl):YE P st o (· = .bool (!b)) (.val (.bool (!b))):=
 ZDB ho hx
theorem ζP {k:IntKind} {a b:Int} (ho:o.op= .binOp .lss t x y t':=by exact rfl) (hx:ev st.slots x=some (.int k a,q):=by exact rfl) (hy:ev st.slots y=some (.int k b,q'):=by exact rfl):YE P st o (· = .bool (decide (a<b))) (.val (.bool (decide (a<b)))):=
 ZDC ho hx hy
theorem ZgA {k:IntKind} {a b:Int} (ho:o.op= .binOp .leq t x y t':=by exact rfl) (hx:ev st.slots x=some (.int k a,q):=by exact rfl) (hy:ev st.slots y=some (.int k b,q'):=by exact rfl):YE P st o (· = .bool (decide (a≤b))) (.val (.bool (decide (a≤b)))):=
 ZDD ho hx hy
theorem ZaQ {k:IntKind} {a b:Int} (ho:o.op= .binOp .gtr t x y t':=by exact rfl) (hx:ev st.slots x=some (.int k a,q):=by exact rfl) (hy:ev st.slots y=some (.int k b,q'):=by exact rfl):YE P st o (· = .bool (decide (b<a))) (.val (.bool (decide (b<a)))):=
 ZDE ho hx hy
theorem Zcu {k:IntKind} {a b:Int} (ho:o.op= .binOp .geq t x y t':=by exact rfl) (hx:ev st.slots x=some (.int k a,q):=by exact rfl) (hy:ev st.slots y=some (.int k b,q'):=by exact rfl):YE P st o (· = .bool (decide (b≤a))) (.val (.bool (decide (b≤a)))):=
 ZDF ho hx hy
theorem ζY {k:IntKind} {a b:Int} (ho:o.op= .binOp .eql t x y t':=by exact rfl) (hx:ev st.slots x=some (.int k a,q):=by exact rfl) (hy:ev st.slots y=some (.int k b,q'):=by exact rfl):YE P st o (· = .bool (decide (a=b))) (.val (.bool (decide (a=b)))):=
 ZDG ho hx hy
theorem ZaN {k:IntKind} {a b:Int} (ho:o.op= .binOp .neq t x y t':=by exact rfl) (hx:ev st.slots x=some (.int k a,q):=by exact rfl) (hy:ev st.slots y=some (.int k b,q'):=by exact rfl):YE P st o (· = .bool (decide (a≠b))) (.val (.bool (decide (a≠b)))):=
 ZDH ho hx hy
theorem ZbI {a b:ByteArray} (ho:o.op= .binOp .eql t x y t':=by exact rfl) (hx:ev st.slots x=some (.string a,q):=by exact rfl) (hy:ev st.slots y=some (.string b,q'):=by exact rfl):YE P st o (· = .bool (a.toList==b.toList)) (.val (.bool (a.toList==b.toList))):=
 ZCf ho hx hy
theorem Zy1 {a b:ByteArray} (ho:o.op= .binOp .neq t x y t':=by exact rfl) (hx:ev st.slots x=some (.string a,q):=by exact rfl) (hy:ev st.slots y=some (.string b,q'):=by exact rfl):YE P st o (· = .bool (!(a.toList==b.toList))) (.val (.bool (!(a.toList==b.toList)))):=
 ZCg ho hx hy
theorem ζM {a b:Int} (ho:o.op= .binOp .add t x y t':=by exact rfl) (hx:ev st.slots x=some (.int .i64 a,q):=by exact rfl) (hy:ev st.slots y=some (.int .i64 b,q'):=by exact rfl) (h1: -9223372036854775808≤a+b:=by first|omega|exact Xa rfl|(simp only [Xc,Xs,Xh,Xr,Xd,XK,Xz,Xv,XL];omega)) (h2:a+b≤9223372036854775807:=by first|omega|exact Xa rfl|(simp only [Xc,Xs,Xh,Xr,Xd,XK,Xz,Xv,XL];omega)):YE P st o (· = .int .i64 (a+b)) (.val (.int .i64 (a+b))):=
 ZCc ho hx hy h1 h2
theorem ZgB {a b:Int} (ho:o.op= .binOp .sub t x y t':=by exact rfl) (hx:ev st.slots x=some (.int .i64 a,q):=by exact rfl) (hy:ev st.slots y=some (.int .i64 b,q'):=by exact rfl) (h1: -9223372036854775808≤a-b:=by first|omega|exact Xa rfl|(simp only [Xc,Xs,Xh,Xr,Xd,XK,Xz,Xv,XL];omega)) (h2:a-b≤9223372036854775807:=by first|omega|exact Xa rfl|(simp only [Xc,Xs,Xh,Xr,Xd,XK,Xz,Xv,XL];omega)):YE P st o (· = .int .i64 (a-b)) (.val (.int .i64 (a-b))):=
 ZCd ho hx hy h1 h2
theorem Zjs {a b:Int} (ho:o.op= .binOp .mul t x y t':=by exact rfl) (hx:ev st.slots x=some (.int .i64 a,q):=by exact rfl) (hy:ev st.slots y=some (.int .i64 b,q'):=by exact rfl) (h1: -9223372036854775808≤a*b:=by first|omega|exact Xa rfl|(simp only [Xc,Xs,Xh,Xr,Xd,XK,Xz,Xv,XL];omega)) (h2:a*b≤9223372036854775807:=by first|omega|exact Xa rfl|(simp only [Xc,Xs,Xh,Xr,Xd,XK,Xz,Xv,XL];omega)):YE P st o (· = .int .i64 (a*b)) (.val (.int .i64 (a*b))):=
 ZCe ho hx hy h1 h2
theorem Zbh {s:ByteArray} {i:Int} {c:UInt8} {k:IntKind} (hu:P.underlying t=some .string) (ho:o.op= .index t x y:=by exact rfl) (hx:ev st.slots x=some (.string s,q):=by exact rfl) (hy:ev st.slots y=some (.int k i,q'):=by exact rfl) (hi:0≤i:=by first|omega|exact Xa rfl|(simp only [Xc,Xs,Xh,Xr,Xd,XK,Xz,Xv,XL];omega)) (hc:s.data[i.toNat]? =some c:=by assumption):YE P st o (· = .int .u8 c.toNat) (.val (.int .u8 c.toNat)):=
 ZzN hu ho hx hy hi hc
theorem Zbe {P:Program} {st:St} {o:Oper} {x:Operand} {t:TypeId} {s:ByteArray} {q:PV} (ht:P.underlying t=some .string) (ho:o.op= .call {callee:= .builtin .len,args:= #[x],argTypes:= #[t]}:=by exact rfl) (hx:ev st.slots x=some (.string s,q):=by exact rfl):YE P st o (· = .int .i64 s.size) (.val (.int .i64 s.size)):=
 ZCh ht ho hx
theorem ζl {P:Program} {st:St} {o:Oper} {x:Operand} {i:Nat} {vs:List Value} {ps:List PV} {v:Value} {p:PV} (ho:o.op= .extract x i:=by exact rfl) (hx:ev st.slots x=some (.tuple vs.toArray, .tup ps):=by exact rfl) (hv:vs[i]? =some v:=by exact rfl) (hp:ps[i]? =some p:=by exact rfl):YE P st o (· =v) p:=
 ZsQ ho hx hv hp
theorem Zrs {s f fo j:Nat} {x:Operand} {v:Value} {cs:List PV} (hT:FldT P s f fo=true) (ho:o.op= .fieldAddr s x f:=by exact rfl) (hx:ev st.slots x=some (v, .sptr j cs):=by exact rfl):YE P st o (· =padd v fo) (.sptr (j+fo) cs):=
 ZsR hT ho hx
theorem ζe {s f fo j e k n:Nat} {x:Operand} {h:Value} {p:PV} {cs:List PV} (l:Nat) (hT:FldT P s f fo=true) (ho:o.op= .fieldAddr s x f:=by exact rfl) (hx:ev st.slots x=some (padd (sbase h) j,p):=by exact rfl) (hl:lk st.heap l=some (h, .own e k n cs):=by exact rfl) (hn:0<n:=by first|omega|exact Xa rfl|(simp only [Xc,Xs,Xh,Xr,Xd,XK,Xz,Xv,XL];omega)):YE P st o (· =padd (sbase h) (j+fo)) (.val (padd (sbase h) (j+fo))):=
 ZsS l hT ho hx hl hn
theorem ζW {t e k n:Nat} {x y:Operand} {v:Value} {cs:List PV} {q:PV} {kd:IntKind} {i:Nat} (hT:SlT P t e k=true) (ho:o.op= .indexAddr t x y:=by exact rfl) (hx:ev st.slots x=some (v, .sl n cs):=by exact rfl) (hy:ev st.slots y=some (.int kd (i:Int),q):=by exact rfl) (h1:i<n:=by first|omega|exact Xa rfl|(simp only [Xc,Xs,Xh,Xr,Xd,XK,Xz,Xv,XL];omega)):YE P st o (· =padd (sbase v) (i*k)) (.sptr (i*k) cs):=
 Zrn hT ho hx hy h1
theorem ζu {t e k e' k' n:Nat} {x y:Operand} {h:Value} {p q:PV} {cs:List PV} {kd:IntKind} {i:Nat} (l:Nat) (hT:SlT P t e k=true) (ho:o.op= .indexAddr t x y:=by exact rfl) (hx:ev st.slots x=some (h,p):=by exact rfl) (hy:ev st.slots y=some (.int kd (i:Int),q):=by exact rfl) (hl:lk st.heap l=some (h, .own e' k' n cs):=by exact rfl) (h1:i<n:=by first|omega|exact Xa rfl|(simp only [Xc,Xs,Xh,Xr,Xd,XK,Xz,Xv,XL];omega)):YE P st o (· =padd (sbase h) (i*k)) (.val (padd (sbase h) (i*k))):=
 Zro l hT ho hx hy hl h1
theorem Zn2 {t e k n:Nat} {x y:Operand} {v:Value} {cs:List PV} {q:PV} {kd:IntKind} {i:Int} (hT:SlT P t e k=true) (ho:o.op= .indexAddr t x y:=by exact rfl) (hx:ev st.slots x=some (v, .sl n cs):=by exact rfl) (hy:ev st.slots y=some (.int kd i,q):=by exact rfl) (h0:0≤i:=by first|omega|exact Xa rfl|(simp only [Xc,Xs,Xh,Xr,Xd,XK,Xz,Xv,XL];omega)) (h1:i<n:=by first|omega|exact Xa rfl|(simp only [Xc,Xs,Xh,Xr,Xd,XK,Xz,Xv,XL];omega)):YE P st o (· =padd (sbase v) (i.toNat*k)) (.sptr (i.toNat*k) cs):=
 Zl4 hT ho hx hy h0 h1
theorem Zma {t e k e' k' n:Nat} {x y:Operand} {h:Value} {p q:PV} {cs:List PV} {kd:IntKind} {i:Int} (l:Nat) (hT:SlT P t e k=true) (ho:o.op= .indexAddr t x y:=by exact rfl) (hx:ev st.slots x=some (h,p):=by exact rfl) (hy:ev st.slots y=some (.int kd i,q):=by exact rfl) (hl:lk st.heap l=some (h, .own e' k' n cs):=by exact rfl) (h0:0≤i:=by first|omega|exact Xa rfl|(simp only [Xc,Xs,Xh,Xr,Xd,XK,Xz,Xv,XL];omega)) (h1:i<n:=by first|omega|exact Xa rfl|(simp only [Xc,Xs,Xh,Xr,Xd,XK,Xz,Xv,XL];omega)):YE P st o (· =padd (sbase h) (i.toNat*k)) (.val (padd (sbase h) (i.toNat*k))):=
 Zl5 l hT ho hx hy hl h0 h1
theorem Zc6 {t j:Nat} {x:Operand} {v:Value} {cs:List PV} {p:PV} (hT:NoAgg P t=true) (ho:o.op= .load t x:=by exact rfl) (hx:ev st.slots x=some (v, .sptr j cs):=by exact rfl) (hp:cs[j]? =some p:=by first|exact rfl|assumption):YE P st o (vOf p) p:=
 Zwy hT ho hx hp
theorem ζk {t j e k n:Nat} {x:Operand} {h:Value} {q:PV} {cs:List PV} {p:PV} (l:Nat) (hT:NoAgg P t=true) (ho:o.op= .load t x:=by exact rfl) (hx:ev st.slots x=some (padd (sbase h) j,q):=by exact rfl) (hl:lk st.heap l=some (h, .own e k n cs):=by exact rfl) (hp:cs[j]? =some p:=by first|exact rfl|assumption) (hsh:isSh p=true:=by exact rfl):YE P st o (vOf p) p:=
 Zwz l hT ho hx hl hp hsh
theorem Zby {t k j:Nat} {x:Operand} {v:Value} {cs ps:List PV} (hT:AggT P t k=true) (ho:o.op= .load t x:=by exact rfl) (hx:ev sL x=some (v, .sptr j cs):=by exact rfl) (hp:j+k≤cs.length:=by first|omega|exact Xa rfl|(simp only [Xc,Xs,Xh,Xr,Xd,XK,Xz,Xv,XL];omega)) (hps:(cs.drop j).take k=ps:=by first|assumption|exact rfl):YE P (⟨sL,hP⟩:St) o (fun _=>True) (.agg ps):=
 Zrq hT ho hx hp hps
theorem ζm {t k j e k' n:Nat} {x:Operand} {h:Value} {q:PV} {cs ps:List PV} (l:Nat) (hT:AggT P t k=true) (ho:o.op= .load t x:=by exact rfl) (hx:ev sL x=some (padd (sbase h) j,q):=by exact rfl) (hl:lk hP l=some (h, .own e k' n cs):=by exact rfl) (hp:j+k≤cs.length:=by first|omega|exact Xa rfl|(simp only [Xc,Xs,Xh,Xr,Xd,XK,Xz,Xv,XL];omega)) (hk:0<k:=by decide) (hps:(cs.drop j).take k=ps:=by first|assumption|exact rfl) (hsh:ps.all isSh=true:=by first|exact rfl|decide):YE P (⟨sL,hP⟩:St) o (fun _=>True) (.agg ps):=
 Zrr l hT ho hx hl hp hk hps hsh
theorem ζ9 {t e k n:Nat} {x:Operand} {v:Value} {cs:List PV} (hT:SlT P t e k=true) (ho:o.op= .call {callee:= .builtin .len,args:= #[x],argTypes:= #[t]}:=by exact rfl) (hx:ev st.slots x=some (v, .sl n cs):=by exact rfl):YE P st o (· = .int .i64 n) (.val (.int .i64 n)):=
 ZsV hT ho hx
theorem Zbw {t e k e' k' n:Nat} {x:Operand} {h:Value} {p:PV} {cs:List PV} (l:Nat) (hT:SlT P t e k=true) (ho:o.op= .call {callee:= .builtin .len,args:= #[x],argTypes:= #[t]}:=by exact rfl) (hx:ev st.slots x=some (h,p):=by exact rfl) (hl:lk st.heap l=some (h, .own e' k' n cs):=by exact rfl):YE P st o (· = .int .i64 n) (.val (.int .i64 n)):=
 ZsW l hT ho hx hl
theorem ZkK {t ks e:Nat} {x:Operand} {m:Value} {kv:List (Value×Value)} {p:PV} (l:Nat) (ht:P.underlying t=some (.map ks e)) (ho:o.op= .call {callee:= .builtin .len,args:= #[x],argTypes:= #[t]}:=by exact rfl) (hx:ev sL x=some (m,p):=by exact rfl) (hl:lk hP l=some (m, .omap kv):=by exact rfl):YE P (⟨sL,hP⟩:St) o (· = .int .i64 kv.length) (.val (.int .i64 kv.length)):=
 ZwD l ht ho hx hl
theorem ζB {t:Nat} {parts:Array (Nat×Operand)} {z:Value} {offs:List Nat} {zs:List Value} {es:List (Nat×Ent)} (hT:ZaZ P t=some (z,offs.map fun o=>(o,1))) (hzs:z.cells=zs.toArray:=by exact rfl) (ho:o.op= .build t parts:=by exact rfl) (hx:evP sL parts.toList=some es:=by exact rfl) (h1:es.all (fun x=>one x.2.2)=true:=by first|exact rfl|(simp only [XB,XG,XD,Xe];(repeat (first|refine ⟨?_,?_⟩|rfl|assumption)))) (hin:es.all (fun x=>decide (x.1<offs.length)&&decide (offs.getD x.1 0<zs.length))=true:=by exact rfl):YE P (⟨sL,hP⟩:St) o (· = .agg (ZsI offs zs (es.map fun x=>(x.1,x.2.1))).toArray) (.agg (ZsI offs (zs.map .val) (es.map fun x=>(x.1,x.2.2)))):=
 ZzV hT hzs ho hx h1 hin
theorem Ztd {f:Nat} {caps:Array Operand} {es:List Ent} (ho:o.op= .makeFunc (.func f) #[] caps:=by exact rfl) (hx:evL sL caps.toList=some es:=by exact rfl):YE P (⟨sL,hP⟩:St) o (· = .func (.func f) #[] (es.map (·.1)).toArray) (.fn f (es.map (·.2))):=
 ZCm ho hx
theorem ZpF {t ks e:Nat} {kd:TypeDesc} {z:Value} {x y:Operand} {m k:Value} {kv:List (Value×Value)} {p q:PV} (l:Nat) (hT:MpT P t ks e kd z) (ho:o.op= .lookup t x y true:=by exact rfl) (hx:ev sL x=some (m,p):=by exact rfl) (hl:lk hP l=some (m, .omap kv):=by exact rfl) (hy:ev sL y=some (k,q):=by exact rfl) (hk:kok kd k kv:=by first|exact Zie _ _|exact Zif _ _|exact ZkI _ _|assumption):YE P (⟨sL,hP⟩:St) o (· = .tuple [(ZdZ kv k).getD z, .bool (ZdZ kv k).isSome].toArray) (.tup [.val ((ZdZ kv k).getD z), .val (.bool (ZdZ kv k).isSome)]):=
 Zs6 l hT ho hx hl hy hk
theorem ZwJ {t ks e:Nat} {kd:TypeDesc} {z u:Value} {x y:Operand} {m k:Value} {kv:List (Value×Value)} {p q:PV} (l:Nat) (hT:MpT P t ks e kd z) (ho:o.op= .lookup t x y false:=by exact rfl) (hx:ev sL x=some (m,p):=by exact rfl) (hl:lk hP l=some (m, .omap kv):=by exact rfl) (hy:ev sL y=some (k,q):=by exact rfl) (hk:kok kd k kv:=by first|exact Zie _ _|exact Zif _ _|exact ZkI _ _|assumption) (hu:(ZdZ kv k).getD z=u:=by assumption):YE P (⟨sL,hP⟩:St) o (· =u) (.val u):=
 Zs7 l hT ho hx hl hy hk hu
theorem ZDN {t:TypeId} {x:Operand} {v:Value} {p:PV} (d:Nat) (k:∀h:Value,aL P c ops Q rest ⟨put d (padd (sbase h) 0, .val (padd (sbase h) 0)) sL,put d (h, .own t 1 1 [p]) hP⟩) (hw:ζ2 ops sL o=some true:=by exact rfl) (hd:o.dst=some d:=by exact rfl) (hn:d<c.nt:=by exact Xa rfl) (ho:o.op= .box t x:=by exact rfl) (hx:ev sL x=some (v,p):=by exact rfl) (h1:one p=true:=by first|exact rfl|assumption) (hl:lk hP d=none:=by exact rfl):aL P c ops Q (o::rest) (⟨sL,hP⟩:St):=
 ZzP d hw hd hn ho hx h1 hl k
theorem ζS {t:TypeId} {x:Operand} {v:Value} {ps:List PV} (d:Nat) (m:Nat) (k:∀h:Value,aL P c ops Q rest ⟨put d (padd (sbase h) 0, .val (padd (sbase h) 0)) sL,put d (h, .own t m 1 ps) hP⟩) (hw:ζ2 ops sL o=some true:=by exact rfl) (hd:o.dst=some d:=by exact rfl) (hn:d<c.nt:=by exact Xa rfl) (ho:o.op= .box t x:=by exact rfl) (hx:ev sL x=some (v, .agg ps):=by exact rfl) (hm:ps.length=m:=by exact rfl) (hl:lk hP d=none:=by exact rfl):aL P c ops Q (o::rest) (⟨sL,hP⟩:St):=
 ZzQ d m hw hd hn ho hx hm hl k
theorem ζs {t:TypeId} {z:Value} (zs:List Value) (m:Nat) (d:Nat) (hz:ZeroT P t z) (k:∀h:Value,aL P c ops Q rest ⟨put d (padd (sbase h) 0, .val (padd (sbase h) 0)) sL,put d (h, .own t m 1 (zs.map .val)) hP⟩) (hw:ζ2 ops sL o=some true:=by exact rfl) (hd:o.dst=some d:=by exact rfl) (hn:d<c.nt:=by exact Xa rfl) (ho:o.op= .alloc t:=by exact rfl) (hzs:z.cells=zs.toArray:=by exact rfl) (hm:zs.length=m:=by exact rfl) (hl:lk hP d=none:=by exact rfl):aL P c ops Q (o::rest) (⟨sL,hP⟩:St):=
 ZwA zs m d hw hd hn ho hz hzs hm hl k
theorem Zih {t e bytes:Nat} {z:Value} {x y:Operand} {n:Nat} {q q':PV} (d:Nat) (hT:ElT P t e 1 bytes z) (k:∀h:Value,h.oneCell'=true→aL P c ops Q rest ⟨put d (h, .val h) sL,put d (h, .own e 1 n (List.replicate n (.val z))) hP⟩) (hw:ζ2 ops sL o=some true:=by exact rfl) (hd:o.dst=some d:=by exact rfl) (hn:d<c.nt:=by exact Xa rfl) (ho:o.op= .makeSlice t x y:=by exact rfl) (hx:ev sL x=some (.int .i64 n,q):=by exact rfl) (hy:ev sL y=some (.int .i64 n,q'):=by exact rfl) (hl:lk hP d=none:=by exact rfl) (hb:bytes*n≤281474976710656:=by first|omega|exact Xa rfl|(simp only [Xc,Xs,Xh,Xr,Xd,XK,Xz,Xv,XL];omega)) (hn2:n≤9223372036854775807:=by first|omega|exact Xa rfl|(simp only [Xc,Xs,Xh,Xr,Xd,XK,Xz,Xv,XL];omega)) (hz1:z.oneCell'=true:=by exact rfl):aL P c ops Q (o::rest) (⟨sL,hP⟩:St):=
 ZzR d hT hw hd hn ho hx hy hl hb hn2 hz1 k
theorem Zmb {t e kk bytes:Nat} {z:Value} (d:Nat) (hT:ElT P t e kk bytes z) (k:∀h:Value,h.oneCell'=true→aL P c ops Q rest ⟨put d (h, .val h) sL,put d (h, .own e kk 0 []) hP⟩) (hw:ζ2 ops sL o=some true:=by exact rfl) (hd:o.dst=some d:=by exact rfl) (hn:d<c.nt:=by exact Xa rfl) (ho:o.op= .buildSlice t 0 #[]:=by exact rfl) (hl:lk hP d=none:=by exact rfl):aL P c ops Q (o::rest) (⟨sL,hP⟩:St):=
 ZzS d hT hw hd hn ho hl k
theorem ζ6 {t e kk bytes:Nat} {z:Value} {x:Operand} {v:Value} {p:PV} (d:Nat) (hT:ElT P t e 1 bytes z) (k:∀h:Value,h.oneCell'=true→aL P c ops Q rest ⟨put d (h, .val h) sL,put d (h, .own e 1 1 [p]) hP⟩) (hw:ζ2 ops sL o=some true:=by exact rfl) (hd:o.dst=some d:=by exact rfl) (hn:d<c.nt:=by exact Xa rfl) (ho:o.op= .buildSlice t 1 #[(0,x)]:=by exact rfl) (hx:ev sL x=some (v,p):=by exact rfl) (h10:one p=true:=by first|exact rfl|assumption) (hl:lk hP d=none:=by exact rfl):aL P c ops Q (o::rest) (⟨sL,hP⟩:St):=
 ZzT (kk:=1) d hT hw hd hn ho hx h10 hl k
theorem Zbi {t e kk bytes:Nat} {z:Value} {x:Operand} {v:Value} {ps:List PV} (d:Nat) (hT:ElT P t e kk bytes z) (k:∀h:Value,h.oneCell'=true→aL P c ops Q rest ⟨put d (h, .val h) sL,put d (h, .own e kk 1 ps) hP⟩) (hw:ζ2 ops sL o=some true:=by exact rfl) (hd:o.dst=some d:=by exact rfl) (hn:d<c.nt:=by exact Xa rfl) (ho:o.op= .buildSlice t 1 #[(0,x)]:=by exact rfl) (hx:ev sL x=some (v, .agg ps):=by exact rfl) (hps:ps.length=kk:=by exact rfl) (hkb:kk≤1000:=by decide) (hl:lk hP d=none:=by exact rfl):aL P c ops Q (o::rest) (⟨sL,hP⟩:St):=
 ZwB d hT hw hd hn ho hx hps hkb hl k
theorem Zte {t e bytes m:Nat} {z:Value} {xs:List Operand} {parts:Array (Nat×Operand)} {es:List Ent} (d:Nat) (hT:ElT P t e 1 bytes z) (k:∀h:Value,h.oneCell'=true→aL P c ops Q rest ⟨put d (h, .val h) sL,put d (h, .own e 1 m (es.map (·.2))) hP⟩) (hw:ζ2 ops sL o=some true:=by exact rfl) (hd:o.dst=some d:=by exact rfl) (hn:d<c.nt:=by exact Xa rfl) (ho:o.op= .buildSlice t m parts:=by exact rfl) (hpt:parts=((xs.zipIdx).map fun x=>(x.2,x.1)).toArray:=by exact rfl) (hx:evL sL xs=some es:=by exact rfl) (h1:es.all (fun x=>one x.2)=true:=by exact rfl) (hm:es.length=m:=by exact rfl) (hm0:0<m:=by decide) (hm1:m≤1000:=by decide) (hl:lk hP d=none:=by exact rfl):aL P c ops Q (o::rest) (⟨sL,hP⟩:St):=
 ZzU d hT hw hd hn ho hpt hx h1 hm hm0 hm1 hl k
theorem Zb7 {t j e kk n:Nat} {x y:Operand} {h v:Value} {q p:PV} {cs:List PV} (l:Nat) (hT:NoAgg P t=true) (hsz:(P.info? t).map (·.size)=some 1) (k:aL P c ops Q rest ⟨sL,put l (h, .own e kk n (cs.set j p)) hP⟩) (hw:ζ2 ops sL o=some true:=by exact rfl) (hd:o.dst=none:=by exact rfl) (ho:o.op= .store t x y:=by exact rfl) (hx:ev sL x=some (padd (sbase h) j,q):=by exact rfl) (hy:ev sL y=some (v,p):=by exact rfl) (h1:one p=true:=by first|exact rfl|assumption) (hl:lk hP l=some (h, .own e kk n cs):=by exact rfl) (hj:j<cs.length:=by first|omega|exact Xa rfl|(simp only [Xc,Xs,Xh,Xr,Xd,XK,Xz,Xv,XL];omega)):aL P c ops Q (o::rest) (⟨sL,hP⟩:St):=
 ZCi l hw hd hT hsz ho hx hy h1 hl hj k
theorem ζt {t j e kk n m:Nat} {x y:Operand} {h V:Value} {q:PV} {ps cs:List PV} (l:Nat) (hT:AggT P t m=true) (k:aL P c ops Q rest ⟨sL,put l (h, .own e kk n (Zhu cs j ps)) hP⟩) (hw:ζ2 ops sL o=some true:=by exact rfl) (hd:o.dst=none:=by exact rfl) (ho:o.op= .store t x y:=by exact rfl) (hx:ev sL x=some (padd (sbase h) j,q):=by exact rfl) (hy:ev sL y=some (V, .agg ps):=by exact rfl) (hm:ps.length=m:=by exact rfl) (h1:ps.all one=true:=by first|exact rfl|(simp only [XB,XG,XD,Xe];(repeat (first|refine ⟨?_,?_⟩|rfl|assumption)))) (hl:lk hP l=some (h, .own e kk n cs):=by exact rfl) (hj:j+m≤cs.length:=by first|omega|exact Xa rfl|(simp only [Xc,Xs,Xh,Xr,Xd,XK,Xz,Xv,XL];omega)) (hm0:0<m:=by decide):aL P c ops Q (o::rest) (⟨sL,hP⟩:St):=
 ZCj l hw hd hT ho hx hy hm h1 hl hj hm0 k
theorem Zii {t:Nat} (d:Nat) (k:∀m:Value,m.oneCell'=true→aL P c ops Q rest ⟨put d (m, .val m) sL,put d (m, .omap []) hP⟩) (hw:ζ2 ops sL o=some true:=by exact rfl) (hd:o.dst=some d:=by exact rfl) (hn:d<c.nt:=by exact Xa rfl) (ho:o.op= .makeMap t none:=by exact rfl) (hl:lk hP d=none:=by exact rfl):aL P c ops Q (o::rest) (⟨sL,hP⟩:St):=
 ZwE d hw hd hn ho hl k
theorem ZjI {t ks e:Nat} {kd:TypeDesc} {z:Value} {x y u:Operand} {m k v:Value} {kv:List (Value×Value)} {p q r:PV} (l:Nat) (hT:MpT P t ks e kd z) (kk:aL P c ops Q rest ⟨sL,put l (m, .omap (ZfT kv k v)) hP⟩) (hw:ζ2 ops sL o=some true:=by exact rfl) (hd:o.dst=none:=by exact rfl) (ho:o.op= .mapUpdate t x y u:=by exact rfl) (hx:ev sL x=some (m,p):=by exact rfl) (hl:lk hP l=some (m, .omap kv):=by exact rfl) (hy:ev sL y=some (k,q):=by exact rfl) (hu:ev sL u=some (v,r):=by exact rfl) (hk:kok kd k kv:=by first|exact Zie _ _|exact Zif _ _|exact ZkI _ _|assumption) (hbits:bits k=true:=by exact rfl):aL P c ops Q (o::rest) (⟨sL,hP⟩:St):=
 Zz0 l hw hd hT ho hx hl hy hu hk hbits kk
theorem ZbH {t ty e kk bytes n m:Nat} {z:Value} {x y:Operand} {h h2:Value} {q q2:PV} {cs cs2:List PV} (l:Nat) (l2:Nat) (d:Nat) (hT:ElT P t e kk bytes z) (k:∀h':Value,h'.oneCell'=true→aL P c ops Q rest ⟨put d (h', .val h') sL,put d (h', .own e kk (n+m) (cs++cs2)) (del l2 (del l hP))⟩) (hw:ζ2 ops sL o=some true:=by exact rfl) (hd:o.dst=some d:=by exact rfl) (hn:d<c.nt:=by exact Xa rfl) (hty:o.type=ty:=by exact rfl) (ho:o.op= .call {callee:= .builtin .append,args:= #[x,y],argTypes:= #[t,t]}:=by exact rfl) (hx:ev sL x=some (h,q):=by exact rfl) (hy:ev sL y=some (h2,q2):=by exact rfl) (hll:Nat.beq l l2=false:=by exact rfl) (hl:lk hP l=some (h, .own e kk n cs):=by exact rfl) (hl2:lk hP l2=some (h2, .own e kk m cs2):=by exact rfl) (hdl:lk (del l2 (del l hP)) d=none:=by exact rfl) (hm:0<m:=by decide) (hok:cs2.all Zfx=true:=by first|exact rfl|(simp only [XB,XG,XD,Xe];(repeat (first|refine ⟨?_,?_⟩|rfl|assumption)))) (hlen:n+m≤9223372036854775807:=by first|omega|exact Xa rfl|(simp only [Xc,Xs,Xh,Xr,Xd,XK,Xz,Xv,XL];omega)) (hb:(n+m)*bytes≤140737488355328:=by first|omega|exact Xa rfl|(simp only [Xc,Xs,Xh,Xr,Xd,XK,Xz,Xv,XL];omega)) (hdr:¬c.dr:=by exact id):aL P c ops Q (o::rest) (⟨sL,hP⟩:St):=
 ZsY l l2 d hT hw hd hn hty ho hx hy hll hl hl2 hdl hm hok hlen hb hdr k
theorem bLd {l:List Oper} (t:Nat) {p:Prop} {_:Decidable p} {q:PV} (ht:p→aL P c ops Q l ⟨put t (.bool true, .val (.bool true)) sL,hP⟩) (hf:¬p→aL P c ops Q l ⟨put t (.bool false, .val (.bool false)) sL,hP⟩) (hx:lk sL t=some (.bool (decide p),q):=by exact rfl):aL P c ops Q l (⟨sL,hP⟩:St):=
 Zpt t hx (fun h=>ht (of_decide_eq_true h)) (fun h=>hf (of_decide_eq_false h))
theorem bDd (t:Nat) {p:Prop} {_:Decidable p} {q:PV} (ht:p→aD P c ops Q Z K fuel listed ⟨put t (.bool true, .val (.bool true)) sL,hP⟩) (hf:¬p→aD P c ops Q Z K fuel listed ⟨put t (.bool false, .val (.bool false)) sL,hP⟩) (hx:lk sL t=some (.bool (decide p),q):=by exact rfl):aD P c ops Q Z K fuel listed (⟨sL,hP⟩:St):=
 ZwH t hx (fun h=>ht (of_decide_eq_true h)) (fun h=>hf (of_decide_eq_false h))
theorem cC {x:Operand} {t e:Code} {b:Bool} {q:PV} (ht:b=true→aC P c t Q (⟨sL,hP⟩:St)) (hf:b=false→aC P c e Q (⟨sL,hP⟩:St)) (hx:ev sL x=some (.bool b,q):=by exact rfl):aC P c (.cond x t e) Q (⟨sL,hP⟩:St):=ZkG hx ht hf
theorem cCd {x:Operand} {t e:Code} {p:Prop} {_:Decidable p} {q:PV} (ht:p→aC P c t Q (⟨sL,hP⟩:St)) (hf:¬p→aC P c e Q (⟨sL,hP⟩:St)) (hx:ev sL x=some (.bool (decide p),q):=by exact rfl):aC P c (.cond x t e) Q (⟨sL,hP⟩:St):=ZkG hx (fun h=>ht (of_decide_eq_true h)) (fun h=>hf (of_decide_eq_false h))
theorem cCt {x:Operand} {t e:Code} {q:PV} (ht:aC P c t Q (⟨sL,hP⟩:St)) (hx:ev sL x=some (.bool true,q):=by exact rfl):aC P c (.cond x t e) Q (⟨sL,hP⟩:St):=ZkG hx (fun _=>ht) (fun h=>Bool.noConfusion h)
theorem cCf {x:Operand} {t e:Code} {q:PV} (hf:aC P c e Q (⟨sL,hP⟩:St)) (hx:ev sL x=some (.bool false,q):=by exact rfl):aC P c (.cond x t e) Q (⟨sL,hP⟩:St):=ZkG hx (fun h=>Bool.noConfusion h) (fun _=>hf)
theorem cA {dd:Prop} {f:Nat} {xs:Array Operand} {ats:Array TypeId} {es:List Ent} {ps:List PV} {R:PV→Prop} (hc:∀args w,(callFunc f args).run P w= .ok (.enter f args) w) (hA:AFd dd P f ps R) (ho:o.op= .call {callee:= .value (.func f),args:=xs,argTypes:=ats}:=by exact rfl) (hx:evL sL xs.toList=some es:=by exact rfl) (hps:es.map (·.2)=ps:=by exact rfl) (hdd:c.dr→dd:=by first|exact id|exact fun h=>h.elim|exact fun _=>trivial):Zgz P c (⟨sL,hP⟩:St) o R:=
 ZDJ ho hc hx (hps▸hA) hdd
theorem cS {p:PV} (d:Nat) (hC:Zgz P c (⟨sL,hP⟩:St) o (· =p)) (k:∀v,vOf p v→aL P c ops Q rest ⟨put d (v,p) sL,hP⟩) (hsh:isSh p=true:=by exact rfl) (hw:ζ2 ops sL o=some true:=by exact rfl) (hd:o.dst=some d:=by exact rfl) (hn:d<c.nt:=by exact Xa rfl):aL P c ops Q (o::rest) (⟨sL,hP⟩:St):=
 ZDK d hw hd hn hC fun p' hp=>by subst hp;exact ⟨hsh,k⟩
theorem cO {p:PV} (d:Nat) (hC:Zgz P c (⟨sL,hP⟩:St) o (· =p)) (k:∀v,v.oneCell'=true→aL P c ops Q rest ⟨put d (v, .val v) sL,put d (v,p) hP⟩) (hok:Zfx p=true:=by exact rfl) (hl:lk hP d=none:=by exact rfl) (hw:ζ2 ops sL o=some true:=by exact rfl) (hd:o.dst=some d:=by exact rfl) (hn:d<c.nt:=by exact Xa rfl):aL P c ops Q (o::rest) (⟨sL,hP⟩:St):=
 ZDL d hw hd hn hl hC fun p' hp=>by subst hp;exact ⟨hok,k⟩
end
mutual
def shD:PV→Bool
 | .val _=>true
 | .sl _ _=>true
 | .sptr _ _=>true
 | .smap _=>true
 | .own _ _ _ _=>false
 | .omap _=>false
 | .obox _ _ _=>false
 | .agg ps=>ZB4 ps
 | .tup ps=>ZB4 ps
 | .fn _ _=>true
 | .oblk _ _ _ _=>false
def ZB4:List PV→Bool
 |[]=>true
 |p::l=>shD p&&ZB4 l
end
theorem ZkL:∀l:List PV,ZB4 l=l.all shD
 |[]=>by simp [ZB4]
 |p::l=>by simp [ZB4,ZkL l]
theorem Tr.shD {M:BS} {w:World} {v:Value} {p:PV} {F:BS} (h:Tr M w v p F):En.shD p=true→Shr M w v p:=by
 induction h with
 |shr h _=>exact fun _=>h
 |own=>intro h;rw [En.shD] at h;cases h
 |omap=>intro h;rw [En.shD] at h;cases h
 |oblk=>intro h;rw [En.shD] at h;cases h
 |obox=>intro h;rw [En.shD] at h;cases h
 | @agg ps F vs Fs hl h hd hF ih=>
   intro hs;rw [En.shD,ZkL] at hs;exact .agg vs ps hl fun i v p hv hp=>ih i v p hv hp (Xy.1 hs p (Xg hp))
 | @tup ps F vs Fs hl h hd hF ih=>
   intro hs;rw [En.shD,ZkL] at hs;exact .tup vs ps hl fun i v p hv hp=>ih i v p hv hp (Xy.1 hs p (Xg hp))
section
variable {P:Program} {c:Ctx} {ops:Array Oper} {Q:Exit→Act→World→Prop} {rest:List Oper} {st:St} {sL hP:List (Nat×Ent)} {o:Oper} {Z:Nat→Bool} {K:List Nat} {fuel:Nat} {listed:Array Bool}
theorem Ztf {x:Operand} {v:Value} {j:Nat} {cs:List PV} (ho:o.op= .nilCheck x:=by exact rfl) (hx:ev st.slots x=some (v, .sptr j cs):=by exact rfl):YE P st o (· =v) (.sptr j cs):=
 .exact fun M F a w H=>by
  obtain ⟨hv,hs⟩:=H.ev hx
  cases hs with
  |sptr b off j cs vs hcell hT'=>exact ⟨.sptr b off j cs vs hcell hT',by simp [execOp,ho,hv]⟩
theorem ζQ {x:Operand} {h:Value} {q:PV} {j e k n:Nat} {cs:List PV} (l:Nat) (ho:o.op= .nilCheck x:=by exact rfl) (hx:ev st.slots x=some (padd (sbase h) j,q):=by exact rfl) (hl:lk st.heap l=some (h, .own e k n cs):=by exact rfl) (hn:0<n:=by first|omega|decide):YE P st o (· =padd (sbase h) j) (.val (padd (sbase h) j)):=
 .exact fun M F a w H=>by
  have hv:=(H.ev hx).1;obtain ⟨g,cap,rfl,_⟩:=Zds (H.tr l _ _ hl) hn;refine ⟨.val _,?_⟩;simp only [sbase,padd] at hv ⊢;simp [execOp,ho,hv]
theorem Ztg {l t j e k n:Nat} {h:Value} {cs:List PV} {q:PV} (hl:lk hP l=some (h, .own e k n cs)) (hn:0<n) (ht:lk sL t=some (padd (sbase h) j,q)):ZlY (⟨sL,hP⟩:St) (fun _:Unit=>⟨put t (padd (sbase h) j, .sptr j (Zdz cs)) sL,del l hP⟩):=fun c a w ⟨F,H⟩=>by
 refine ⟨(),F,?_⟩
 have hm:∀b,mof c (del l hP) F b→mof c hP F b:=by
  rintro b (h|⟨l',x,h1,h2⟩)
  · exact .inl h
  · exact .inr ⟨l',x,(ZaH h1).2,h2⟩
 have H1:HoldsF c ⟨sL,del l hP⟩ F a w:=H.less (fun _ _ h=>h) (fun _ _ h=>(ZaH h).2)
 refine ⟨H1.toHeapF,fun s u r hs=>?_,H.size,H.df⟩
 rcases Zag hs with ⟨rfl,e1⟩|⟨_,hs'⟩
 · cases e1;refine ⟨(H.sl t _ _ ht).1,?_⟩;obtain ⟨g,cap,rfl,_⟩:=Zds (H.tr l _ _ hl) hn;have h2:=(H.tr l _ _ hl).share (M':=mof c (del l hP) F) (fun b _ h=>hm b h) fun b hb hmb=>by
    rcases hmb with h1|⟨l',x,h1,h2⟩
    · exact H.apart h1 hl hb
    · exact H.dj l l' _ _ b (ZaH h1).1 hl (ZaH h1).2 hb h2
   rw [share] at h2;generalize Zdz cs=cs' at h2 ⊢
   cases h2 with
   |emp=>omega
   |sl _ _ _ _ _ vs _ _ hcell hT=>exact .sptr g 0 j cs' vs hcell hT
 · exact H1.sl s u r hs'
theorem Zdt {i d:Nat} {p:PV} (ho:ops[i]? =some o) (hC:Zgz P c (⟨sL,hP⟩:St) o (· =p)) (k:∀v,vOf p v→aD P c ops Q Z K fuel (listed.setIfInBounds i true) ⟨put d (v,p) sL,hP⟩) (hsh:shD p=true:=by exact rfl) (hw:ζ2 ops sL o=some true:=by exact rfl) (hd:o.dst=some d:=by exact rfl) (hn:d<c.nt:=by exact Xa rfl):aW P c ops Q Z K fuel listed (⟨sL,hP⟩:St) i:=fun a w F H C hC'=>by
 refine Zcp (Q':=fun _ a' w'=>(Z i=true∨C w')∧ZcO P .any ops Q C Z fuel (listed.setIfInBounds i true) a' w') ho (fun a' w' hq=>hq) ?_
 have h1:=Zb5 H.rd hw
 unfold wpList
 rw [h1,if_pos rfl]
 refine .inl ?_
 obtain ⟨f,args,hr,hcall⟩:=hC a w F H
 unfold Oper.wp
 rw [hr,Oper.upon_enter]
 refine hcall.mono fun e w' ⟨v,q,Fr,e1,e2,e3,e4,e5,e6⟩=>?_
 subst e1
 rw [show q=p from e2] at e4
 have hS:=e4.shD hsh
 have H2:HoldsF c ⟨put d (v,p) sL,hP⟩ F (a.put (some d) v) w':=ZjE H e3 hn (hS.anti fun b _ h=> .inl h)
 simp only [Oper.upon,hd]
 have hch:Chg (nK K hP F) w w':=e3.chg
 exact ⟨.inr (hC' w' hch),k v hS.vOf _ w' F H2 C fun W hW=>hC' W (hch.tr hW fun b hb=> .inl hb)⟩
theorem cD {p:PV} (d:Nat) (hC:Zgz P c (⟨sL,hP⟩:St) o (· =p)) (k:∀v,vOf p v→aL P c ops Q rest ⟨put d (v,p) sL,hP⟩) (hsh:shD p=true:=by exact rfl) (hw:ζ2 ops sL o=some true:=by exact rfl) (hd:o.dst=some d:=by exact rfl) (hn:d<c.nt:=by exact Xa rfl):aL P c ops Q (o::rest) (⟨sL,hP⟩:St):=
 ZeW hw hC fun a w F w' v p' Fr H hR hx hT hlo hdw=>by
  rw [show p'=p from hR] at hT;have hS:=hT.shD hsh;rw [hd];exact k v hS.vOf _ _ ⟨F,ZjE H hx hn (hS.anti fun b _ h=> .inl h)⟩
theorem cP {p1 p2:PV} (d:Nat) (hC:Zgz P c (⟨sL,hP⟩:St) o (· = .tup [p1,p2])) (k:∀v1 v2,vOf p1 v1→vOf p2 v2→aL P c ops Q rest ⟨put d (.tuple [v1,v2].toArray, .tup [p1,p2]) sL,hP⟩) (hsh:shD (.tup [p1,p2])=true:=by exact rfl) (hw:ζ2 ops sL o=some true:=by exact rfl) (hd:o.dst=some d:=by exact rfl) (hn:d<c.nt:=by exact Xa rfl):aL P c ops Q (o::rest) (⟨sL,hP⟩:St):=
 ZeW hw hC fun a w F w' v p' Fr H hR hx hT hlo hdw=>by
  rw [show p'= .tup [p1,p2] from hR] at hT;have hS:=hT.shD hsh;rw [hd];have hS':Shr (mof c hP F) w' v (.tup [p1,p2]):=hS.anti fun b _ h=> .inl h
  cases hS with
  | tup vs ps hl h=>
    match vs,hl,h,hS' with
    |[v1,v2],_,h,hS'=>exact k v1 v2 (h 0 v1 p1 rfl rfl).vOf (h 1 v2 p2 rfl rfl).vOf _ _ ⟨F,ZjE H hx hn hS'⟩
theorem ZhD (i j k:Nat) (hr:Region.ready .any ops listed=[i,j,k]) (h:aW P c ops Q Z K fuel listed (⟨sL,hP⟩:St) i) (h':aW P c ops Q Z K fuel listed (⟨sL,hP⟩:St) j) (h'':aW P c ops Q Z K fuel listed (⟨sL,hP⟩:St) k):aD P c ops Q Z K (fuel+1) listed (⟨sL,hP⟩:St):=fun a w F H C hC=>
 ⟨(fun hn=>by rw [hr] at hn;cases hn),fun m hm=>by
   rw [hr] at hm;rcases (by simpa using hm:m=i∨m=j∨m=k) with rfl|rfl|rfl
   · exact h a w F H C hC
   · exact h' a w F H C hC
   · exact h'' a w F H C hC⟩
theorem ZaL {ι:Type} {S:ι→St} (i:ι) (hs:Sub (S i).slots sL) (hh:Sub (S i).heap hP):aN c (Exit.then (fun a w=>∃i,Holds c (S i) a w) Q) (⟨sL,hP⟩:St):=ZCl i hs hh
end
theorem ZEv (a b:Nat):Nat.beq a b=(a==b):=by
 cases h:Nat.beq a b
 · exact (beq_eq_false_iff_ne.2 (fun e=>by rw [e] at h;simp at h)).symm
 · exact (beq_iff_eq.2 (XR h)).symm
theorem nrm {A B:Prop} (h:B) (e:B→A:=by intro h;(try simp only [Zbv,ZaP,put,del,ZEv,List.elem,Vj,Vf,Nat.reduceBEq,cond_true,cond_false]);exact h):A:=e h
section
variable {P:Program} {c:Ctx} {sL hP:List (Nat×Ent)}
theorem ZfW {F:Nat→BS} {a:Act} {w:World} (H:HoldsF c (⟨sL,hP⟩:St) F a w) {t ty k l e k' n:Nat} {h:Value} {q:PV} {cs:List PV} (hT:AggT P ty k=true) (ht:lk sL t=some (padd (sbase h) 0,q)) (hl:lk hP l=some (h, .own e k' n cs)) (hp:k≤cs.length) (hk:0<k) (hsh:(cs.take k).all isSh=true):
 ∃V A,(asAddr (a.tmps.getD t undef)).run P w= .ok A w∧(loadVar ty A).run P w= .ok V w∧Shr (mof c hP F) w V (.agg (cs.take k)):=by
 have hv:=(H.sl t _ _ ht).1
 obtain ⟨xs,Fs,hrow,hlen,hTr,hd,hb,hF'⟩:=(H.tr l _ _ hl).row
 rcases ZaD hrow with ⟨_,_,rfl⟩|⟨g,cap,rfl,h1,h2,h3⟩
 · simp at hlen;rw [hlen] at hp;simp at hp;omega
 refine ⟨.agg (xs.take k).toArray,⟨g,0,none⟩,?_,?_, .agg _ _ (by simp;omega) (fun i u p hu hp'=>?_)⟩
 · simp only [sbase,padd,Xx] at hv;simp [X0,hv,asAddr]
 · have hcl:∀i u,(xs.take k)[i]? =some u→w.cell? ((⟨g,0,none⟩:Addr).add i)=some u:=fun i u hu=>by
    (have hi:i<k:=by have:=ζi hu;simp at this;omega);rw [XW hi] at hu;rw [ZaY,Xx];exact Zbu hrow hu
   have:=run_loadCells_list (P:=P) (w:=w) ⟨g,0,none⟩ _ hcl;rw [show (xs.take k).length=k by simp;omega] at this;simp [loadVar,AggT.run hT,AggT.size hT,this]
 · have hi:i<k:=by have:=ζi hu;simp at this;omega
   have hps:=Xy.1 hsh p (Xg hp');rw [XW hi] at hp' hu;exact (hTr _ u p hu hp').sh hps
theorem ZbP {fn:Func} {R:PV→Prop} {t ty k e k' n:Nat} {h:Value} {q:PV} {cs:List PV} (l:Nat) (hT:AggT P ty k=true) (hr:fn.results= #[.cell t ty]) (ht:lk sL t=some (padd (sbase h) 0,q)) (hl:lk hP l=some (h, .own e k' n cs)) (hp:k≤cs.length) (hk:0<k) (hsh:(cs.take k).all isSh=true) (hR:R (.agg (cs.take k))) (hN:∀b,¬c.N0 b:=by intro _ h;exact h) (hdf:c.df=[]:=by exact rfl):aR c (bodyPost P fn (ZfD c R)) (⟨sL,hP⟩:St):=fun a w ⟨F,H⟩=>by
 obtain ⟨V,A,h0,h1,h2⟩:=ZfW H hT ht hl hp hk hsh
 refine ⟨H.df.trans hdf,V,?_,V,_,fun _=>False,rfl,hR,H.ext.ext (fun b _=>hN b), .shr (h2.anti fun b _ hb=>?_) (fun _ h=>h),fun _ h=>h.elim,H.dw⟩
 · simp only [results,hr];simp at h0;simp [h0,h1]
 · rcases hb with hb|hb
   · exact .inl hb
   · exact hb.elim
theorem ZaI {fn:Func} {R:PV→Prop} {t ty s k e k' n:Nat} {h u:Value} {q p:PV} {cs:List PV} (l:Nat) (hT:AggT P ty k=true) (hr:fn.results= #[.cell t ty, .tmp s]) (ht:lk sL t=some (padd (sbase h) 0,q)) (hl:lk hP l=some (h, .own e k' n cs)) (hs:lk sL s=some (u,p)) (hp:k≤cs.length) (hk:0<k) (hsh:(cs.take k).all isSh=true) (hR:R (.tup [.agg (cs.take k),p])) (hN:∀b,¬c.N0 b:=by intro _ h;exact h) (hdf:c.df=[]:=by exact rfl):aR c (bodyPost P fn (ZfD c R)) (⟨sL,hP⟩:St):=fun a w ⟨F,H⟩=>by
 obtain ⟨V,A,h0,h1,h2⟩:=ZfW H hT ht hl hp hk hsh
 obtain ⟨h3,h4⟩:=H.sl s _ _ hs
 have hM:∀b,b<w.heap.size→(c.M0 b∨False)→mof c hP F b:=fun b _ hb=>by
  rcases hb with hb|hb
  · exact .inl hb
  · exact hb.elim
 refine ⟨H.df.trans hdf, .tuple #[V,u],?_, .tuple #[V,u],_,fun _=>False,rfl,hR,H.ext.ext (fun b _=>hN b), .shr (.tup [V,u] _ rfl fun i v q' hv hq'=>?_) (fun _ h=>h),fun _ h=>h.elim,H.dw⟩
 · simp only [results,hr];simp at h0;simp [h0,h1,X0,h3]
 · match i with
   |0=>simp at hv hq';subst hv hq';exact h2.anti hM
   |1=>simp at hv hq';subst hv hq';exact h4.anti hM
   |i+2=>simp at hv
end
section
variable {P:Program} {c:Ctx} {ops:Array Oper} {Q:Exit→Act→World→Prop} {rest:List Oper} {st:St} {sL hP:List (Nat×Ent)} {o:Oper}
theorem Zz2 {w:World} {e k n m:Nat} {h:Value} {xs:List Value} (hrow:w.ownsRow 0 e k h n xs) (hm:m≤n):w.ownsRow 0 e k (slc h 0 m k) m (xs.take (m*k))∧(slc h 0 m k).ownBlock=h.ownBlock:=by
 rcases hrow.2 with ⟨rfl,rfl⟩|⟨g,cap,cur,rfl,hg,hh,h1,h2,h3,h4⟩
 · obtain rfl:m=0:=by omega
   refine ⟨⟨by simp, .inl ⟨by simp [slc],rfl⟩⟩,by simp [slc]⟩
 · have hs:slc (.slice (some ⟨g,0,none⟩) n cap) 0 m k= .slice (some ⟨g,0,none⟩) m cap:=by
    simp only [slc,Vu,Uc,ZaY,Vd,Vg,ite_self]
   rw [hs];refine ⟨⟨?_, .inr ⟨g,cap,cur,rfl,hg,hh,by omega,h2,h3,?_⟩⟩,rfl⟩
   · rw [Xt,hrow.1];exact XV (Va k hm)
   · rw [←h4,List.take_take,XV (Va k hm)]
theorem ZEj {l e k n:Nat} {h:Value} {cs:List PV} (m:Nat) (hl:lk hP l=some (h, .own e k n cs)) (hm:m≤n):ZlY (⟨sL,hP⟩:St) (fun _:Unit=>⟨sL,put l (slc h 0 m k, .own e k m (cs.take (m*k))) hP⟩):=fun c a w ⟨F,H⟩=>by
 have hTr:=H.tr l _ _ hl
 obtain ⟨xs,Fs,hrow,hlen,hT,hd,hb,hF⟩:=hTr.row
 obtain ⟨hrow',hown⟩:=Zz2 hrow hm
 refine ⟨(),fun x=>if x=l then (fun b=>h.ownBlock=some b∨∃i,i<(cs.take (m*k)).length∧Fs i b) else F x,?_⟩
 have hle:(cs.take (m*k)).length≤cs.length:=by rw [Xt];exact Nat.min_le_right _ _
 refine H.retell (fun x=>x=l) (fun x y hnT hx=>?_) (fun x y b hTx hx hb'=>?_) (fun hmm x u q hTx hx=>?_) (fun x1 x2 y1 y2 b h1 h2 hne'=>absurd (h1.trans h2.symm) hne')
 · have n1:x≠l:=hnT;rw [Za5 (Ne.symm n1)] at hx;exact ⟨hx,by simp [n1]⟩
 · subst hTx;simp only [if_true] at hb';refine ⟨x,_,rfl,hl,(hF b).2 ?_⟩;rcases hb' with h1|⟨i,hi,h1⟩
   · exact .inl h1
   · exact .inr ⟨i,by omega,h1⟩
 · subst hTx;rw [ζ8] at hx
   cases hx;simp only [if_true];refine .own _ Fs hrow' (by rw [Xt,Xt,hlen]) (fun i x p hx9 hp=>?_) (fun i j b hi hj=>hd i j b (by omega) (by omega)) (fun i b hi h1 h2=>hb i b (by omega) h1 (by rw [←hown];exact h2)) (fun b=>by rw [hown]);have hi:i<m*k:=by have:=ζi hx9;rw [Xt] at this;omega
   rw [XW hi] at hx9 hp;exact (hT i x p hx9 hp).anti hmm
theorem ZwK {t e k:Nat} {x:Operand} {q:PV} (hT:SlT P t e k=true) (ho:o.op= .call {callee:= .builtin .len,args:= #[x],argTypes:= #[t]}:=by exact rfl) (hx:ev st.slots x=some (.slice none 0 0,q):=by exact rfl):YE P st o (· = .int .i64 0) (.val (.int .i64 0)):=
 y1 hx (fun _ _ _=> .val _) fun ρ w h=>by
  simp [execOp,ho,h,resolve,invoke,builtin,Builtin.len_,run_underlying (SlT.und hT),goInt]
theorem Zev {t e kk bytes n m:Nat} {z:Value} {x y:Operand} {h v2:Value} {q:PV} {cs cs2:List PV} (l d:Nat) (hT:ElT P t e kk bytes z) (k:∀h':Value,h'.oneCell'=true→aL P c ops Q rest ⟨put d (h', .val h') sL,put d (h', .own e kk (n+m) (cs++cs2)) (del l hP)⟩)
 (hlen2:cs2.length=m*kk:=by first|assumption|exact rfl) (hok:cs2.all one=true:=by first|assumption|exact rfl) (hw:ζ2 ops sL o=some true:=by exact rfl) (hd:o.dst=some d:=by exact rfl) (hn:d<c.nt:=by exact Xa rfl) (ho:o.op= .call {callee:= .builtin .append,args:= #[x,y],argTypes:= #[t,t]}:=by exact rfl)
 (hx:ev sL x=some (h,q):=by exact rfl) (hy:ev sL y=some (v2, .sl m cs2):=by exact rfl) (hl:lk hP l=some (h, .own e kk n cs):=by exact rfl) (hdl:lk (del l hP) d=none:=by exact rfl) (hlen:n+m≤9223372036854775807:=by first|omega|exact Xa rfl|(simp only [Xc,Xs,Xh,Xr,Xd,XK,Xz,Xv,XL];omega)) (hb:(n+m)*bytes≤140737488355328:=by first|omega|exact Xa rfl|(simp only [Xc,Xs,Xh,Xr,Xd,XK,Xz,Xv,XL];omega)) (hdr:¬c.dr:=by exact id):aL P c ops Q (o::rest) (⟨sL,hP⟩:St):=fun a w ⟨F,H⟩=>by
 have h1:h.oneCell'=true:=(H.tr l _ _ hl).cellOne rfl
 rcases VV m with h0|h0
 · subst h0;have:cs2=[]:=XP (by rw [hlen2,Vu]);subst this;refine ZzX l d hT hw hd hn ho hx hy hl (ζq (ζJ d hl hdl) fun _=>?_) a w ⟨F,H⟩;have:=k h h1;rw [XA] at this;exact this
 · exact Zrp l d hT hw hd hn ho hx hy hl (ZzW hy h0) hlen2 hdl hok hlen hb hdr k a w ⟨F,H⟩
end
def ZCs (P:Program) (fs:Nat):Prop:=∀(blk cap:Nat) (zs:List Int) (w:World),Go.Sort.Holds (Value.int .i64) w blk 0 zs.toArray→blk<w.heap.size→zs.length<4611686018427387904→
 Calls P fs #[.slice (some ⟨blk,0,none⟩) zs.length cap] w fun e w'=>e= .returned (.tuple #[])∧∃n os,w'=grow (putRow (Value.int .i64) (Go.Sort.ahead w n) blk 0 (zs.mergeSort fun x y=>decide (x≤y)).toArray) os
section
variable {P:Program} {c:Ctx} {ops:Array Oper} {Q:Exit→Act→World→Prop} {rest:List Oper} {sL hP:List (Nat×Ent)} {o:Oper}
theorem Zmc {α:Type} [Inhabited α] (enc:α→Value) (f:Array α) (cur:Array Value) (h:f.size≤cur.size):(putCells enc 0 f cur).toList.take f.size=f.toList.map enc:=by
 apply Vb
 intro j
 by_cases hj:j<f.size
 · rw [XW hj];have hjc:j<cur.size:=by omega
   simp [putCells,hj,hjc]
 · rw [XI (by simp;omega),XI (by simp;omega)]
theorem Zz3 {fs e d:Nat} {zs:List Int} {h:Value} {q:PV} {x:Operand} {ats:Array TypeId} (l:Nat) (hS:ZCs P fs) (hc:∀args w,(callFunc fs args).run P w= .ok (.enter fs args) w)
 (kk:aL P c ops Q rest ⟨put d (.tuple #[], .val (.tuple #[])) sL,put l (h, .own e 1 zs.length ((zs.mergeSort fun x y=>decide (x≤y)).map pInt)) hP⟩)
 (hn:0<zs.length) (hn2:zs.length<4611686018427387904:=by omega) (hw:ζ2 ops sL o=some true:=by exact rfl) (hd:o.dst=some d:=by exact rfl) (hdn:d<c.nt:=by exact Xa rfl) (ho:o.op= .call {callee:= .value (.func fs),args:= #[x],argTypes:=ats}:=by exact rfl) (hx:ev sL x=some (h,q):=by exact rfl) (hl:lk hP l=some (h, .own e 1 zs.length (zs.map pInt)):=by exact rfl):aL P c ops Q (o::rest) (⟨sL,hP⟩:St):=
 Zav hw fun a w F H=>by
  have hxv:=(H.rd.ev hx).1;have hTr:=H.tr l _ _ hl;obtain ⟨xs,Fs,hrow,hlen,hT,hdj,hb,hF⟩:=hTr.row;obtain ⟨blk,cap,hh,hc1,hc2,hc3⟩:=Zds hTr hn;have hblkF:F l blk:=(hF blk).2 (.inl (by rw [hh];rfl));have hxs:∀(j:Nat) (v:Value),xs[j]? =some v→∃z,zs[j]? =some z∧v= .int .i64 z:=fun j v hv=>by
   obtain ⟨p,hp⟩:=Zai hv hlen.symm;have h1:=hp;rw [Xl,XH] at h1;obtain ⟨z,hz,rfl⟩:=h1;exact ⟨z,hz,((hT j v _ hv hp).sh rfl).vOf⟩
  have hHold:Go.Sort.Holds (Value.int .i64) w blk 0 zs.toArray:=fun j hj=>by
   simp only [VI] at hj;have hrow':=hrow;rw [hh] at hrow';obtain ⟨v,hv⟩:=Zaj (show j<xs.length by rw [←hlen,Xh];exact hj);obtain ⟨z,hz,rfl⟩:=hxs j v hv;refine ⟨?_,by rw [Xx];exact hrow'.frozenAt j⟩;rw [Xx,Zbu hrow' hv];have:zs.toArray[j]! =z:=by
    have hz':=(XF.1 hz).2;simp [hj,hz']
   rw [this]
  have hcall:=hS blk cap zs w hHold hc3 hn2;unfold Oper.wp;have hrun:(execOp a.eval o).run P w= .ok (.enter fs #[h]) w:=by
   have hev:a.eval (.func fs)= .func (.func fs) #[] #[]:=rfl;simp [execOp,ho,resolve,Deferred.ofValue,hev,invoke,hxv,hc]
  rw [hrun,Oper.upon_enter,hh];refine hcall.mono fun e' w' ⟨he',m,os,hw'⟩=>?_;subst he';have hsl:(zs.mergeSort fun x y=>decide (x≤y)).length=zs.length:=List.length_mergeSort _;generalize hsd:(zs.mergeSort fun x y=>decide (x≤y))=sd at hsl hw' kk;have hch0:Chg (fun b=>b=blk) w w':=by
   rw [hw'];refine ⟨rfl,rfl,rfl,?_,fun i hi hne=>?_⟩
   · simp [grow,putRow,mapBlock,Go.Sort.ahead]
   · have:(grow (putRow (Value.int .i64) (Go.Sort.ahead w m) blk 0 sd.toArray) os).heap=(w.heap.modify blk (onCells (putCells (Value.int .i64) 0 sd.toArray)))++os:=rfl;rw [this,Vh (by simpa using hi),VT,if_neg (fun e=>hne e.symm)]
  rw [hd];refine kk _ _ ⟨fun l'=>if l'=l then (fun b=>b=blk) else F l',?_⟩;refine H.change (fun l'=>l'=l) hdn (hch0.wid fun b hb'=> .inl ⟨l,_,rfl,hl,by rw [hb'];exact hblkF⟩) (fun l' z hne hz=>?_) (fun l' z b hT' hz hb'=>?_) (fun hmm l' u p hT' hz=>?_) (fun l1 l2 _ _ _ h1 h2 hne=>absurd (h1.trans h2.symm) hne) (fun _=> .val _) (fun _=>by rw [hw'];exact VU _ _)
  · rcases Zag hz with ⟨e1,_⟩|⟨_,e1⟩
    · exact absurd e1.symm hne
    · exact ⟨e1,by simp [hne]⟩
  · subst hT';simp only [if_true] at hb';exact .inl ⟨l',_,rfl,hl,by rw [hb'];exact hblkF⟩
  · subst hT';rw [ζ8] at hz
    cases hz;simp only [if_true];rcases hrow.2 with ⟨e1,_⟩|⟨g',cap',cur,e1,_,e3,e4,e5,e6,e7⟩
    · rw [hh] at e1;cases e1
    · rw [hh] at e1
      cases e1;have hlt:=ZbE e3;refine .own (sd.map (Value.int .i64)) (fun _ _=>False) ⟨by rw [Xh,hsl,XJ], .inr ⟨blk,cap,putCells (Value.int .i64) 0 sd.toArray cur,hh,Xf _,?_,e4,e5,by simp [putCells];omega,?_⟩⟩ (by simp) (fun t v p hv hp=>?_) (fun _ _ _ _ _ _ h=>h.elim) (fun _ _ _ h=>h.elim) (fun b=>by rw [hh];simp [Value.ownBlock,eq_comm])
      · rw [hw'];have:(grow (putRow (Value.int .i64) (Go.Sort.ahead w m) blk 0 sd.toArray) os).heap=(w.heap.modify blk (onCells (putCells (Value.int .i64) 0 sd.toArray)))++os:=rfl;rw [this,Vh (by simpa using hlt),VT,if_pos rfl,e3];rfl
      · have:=Zmc (Value.int .i64) sd.toArray cur (by simp only [VI];rw [hsl,e6];omega);simp only [VI] at this;rw [XJ,←hsl];exact this
      · rw [Xl,XH] at hv hp;obtain ⟨z,hz,rfl⟩:=hv;obtain ⟨z',hz',rfl⟩:=hp;rw [hz] at hz';cases hz';exact .shr (.val _) (fun _ h=>h)
end
theorem ZwL {w w':World} (h:Ext w w') (hd:w.drawn≤w'.drawn):∃q os',w'=Go.Sort.grow (w.drewN q) os':=by
 refine ⟨w'.drawn-w.drawn,w'.heap.extract w.heap.size w'.heap.size,?_⟩
 have hh:w'.heap=w.heap++w'.heap.extract w.heap.size w'.heap.size:=by
  apply Array.ext_getElem?;intro i;rcases Xq i w.heap.size with hi|hi
  · rw [Vh hi];exact Below.block h i hi
  · rw [Array.getElem?_append_right hi,Array.getElem?_extract];have hs:=h.size;rcases Xq i w'.heap.size with hi2|hi2
    · rw [if_pos (by simp;omega),show w.heap.size+(i-w.heap.size)=i by omega]
    · rw [XZ hi2,if_neg (by simp;omega)]
 have h1:=h.os
 have h2:=h.tape
 have h3:=h.output
 cases w' with
 | mk heap' tape' drawn' os' output'=>
   simp only at h1 h2 h3 hh hd;simp only [Go.Sort.grow,World.drewN];rw [←hh,h1,h2,h3,show w.drawn+(drawn'-w.drawn)=drawn' by omega]
theorem AFg.exact {P:Program} {g:Nat} {ps:List PV} {x:Value} (h:AFg P g ps (· = .val x)) {M:BS} {W:World} {vs:List Value} (hl:vs.length=ps.length) (hv:∀(i:Nat) (v:Value) (p:PV),vs[i]? =some v→ps[i]? =some p→Shr M W v p):
 Calls P g vs.toArray W fun e w'=>e= .returned x∧∃q os',w'=Go.Sort.grow (W.drewN q) os':=
 (h (fun _=>False) W vs (M0k.true W) hl (fun i v p h1 h2=>(hv i v p h1 h2).anti fun _ _ h=>h.elim)).mono fun e w' ⟨v,p,F,h1,h2,h3,h4,_,h6⟩=>by
   subst h2;have:=(h4.sh rfl).vOf;subst this;exact ⟨h1,ZwL h3 (h6 trivial)⟩
section
variable {P:Program} {c:Ctx} {ops:Array Oper} {Q:Exit→Act→World→Prop} {rest:List Oper} {sL hP:List (Nat×Ent)} {o:Oper}
end
theorem cPx {P:Program} {c:Ctx} {ops:Array Oper} {Q:Exit→Act→World→Prop} {rest:List Oper} {sL hP:List (Nat×Ent)} {o:Oper} {ι:Type} {p1 p2:ι→PV} (d:Nat) (hC:Zgz P c (⟨sL,hP⟩:St) o (fun p=>∃i,p= .tup [p1 i,p2 i])) (k:∀i v1 v2,vOf (p1 i) v1→vOf (p2 i) v2→aL P c ops Q rest ⟨put d (.tuple [v1,v2].toArray, .tup [p1 i,p2 i]) sL,hP⟩) (hsh:∀i,shD (.tup [p1 i,p2 i])=true) (hw:ζ2 ops sL o=some true:=by exact rfl) (hd:o.dst=some d:=by exact rfl) (hn:d<c.nt:=by exact Xa rfl):aL P c ops Q (o::rest) (⟨sL,hP⟩:St):=
 ZeW hw hC fun a w F w' v p' Fr H hR hx hT hlo hdw=>by
  obtain ⟨i,rfl⟩:=hR;have hS:=hT.shD (hsh i);rw [hd];have hS':Shr (mof c hP F) w' v (.tup [p1 i,p2 i]):=hS.anti fun b _ h=> .inl h
  cases hS with
  | tup vs ps hl h=>
    match vs,hl,h,hS' with
    |[v1,v2],_,h,hS'=>exact k i v1 v2 (h 0 v1 _ rfl rfl).vOf (h 1 v2 _ rfl rfl).vOf _ _ ⟨F,ZjE H hx hn hS'⟩
end Go.En
namespace Go.Proofs.YtgfabnhpllkebaaGreatDoor
open Go.RowKit Go.Cb Go.En
set_option linter.all false
theorem ZhE {α:Type} {l m:List α} (h:l<+:m) {i:Nat} {x:α} (hx:l[i]? =some x):m[i]? =some x:=by
 obtain ⟨r,rfl⟩:=h
 rw [X2 (ζi hx)];exact hx
section
variable {α κ:Type} [DecidableEq κ]
def posK (f:α→κ):List α→κ→Nat
 |[],_=>0
 |x::l,k=>if f x=k then 0 else posK f l k+1
theorem ZkM {f:α→κ}:∀{l:List α} {k:κ},posK f l k<l.length↔∃x∈l,f x=k
 |[],k=>by simp [posK]
 | x :: l,k=>by
   have:=ZkM (f:=f) (l:=l) (k:=k);rw [posK,Xc];split
   · rename_i h;exact ⟨fun _=>⟨x,Xk ..,h⟩,fun _=>by omega⟩
   · rename_i h;rw [Uo,this];constructor
     · rintro ⟨y,h1,h2⟩;exact ⟨y,Xj _ h1,h2⟩
     · rintro ⟨y,h1,h2⟩;rcases Xm.1 h1 with rfl|h1
       · exact absurd h2 h
       · exact ⟨y,h1,h2⟩
theorem ZpG {f:α→κ}:∀{l:List α} {k:κ} {x:α},l[posK f l k]? =some x→f x=k
 |[],k,x,h=>by simp [posK] at h
 | y ::l,k,x,h=>by
   rw [posK] at h;split at h
   · rename_i h1;simp only [VE,Option.some.injEq] at h;subst h;exact h1
   · simp only [Ud] at h;exact ZpG h
theorem ZkN {f:α→κ} {l:List α} {k:κ} (h:posK f l k<l.length):∃x,l[posK f l k]? =some x∧f x=k:=by
 obtain ⟨x,hx⟩:=ζo h
 exact ⟨x,hx,ZpG hx⟩
theorem ZhF {f:α→κ}:∀{l:List α} {k:κ} (m:List α),posK f l k<l.length→posK f (l++m) k=posK f l k
 |[],k,m,h=>by simp at h
 | x ::l,k,m,h=>by
   rw [Vj,posK,posK];rw [posK] at h;split
   · rfl
   · rename_i h1;rw [if_neg h1,Xc,Uo] at h;rw [ZhF m h]
theorem ZkO {f:α→κ}:∀{l:List α} {x:α},¬posK f l (f x)<l.length→posK f (l++[x]) (f x)=l.length
 |[],x,_=>by simp [posK]
 | y ::l,x,h=>by
   rw [posK] at h;rw [Vj,posK];split
   · rename_i h1;rw [if_pos h1,Xc] at h;omega
   · rename_i h1;rw [if_neg h1,Xc,Uo] at h;rw [ZkO h,Xc]
theorem ZhG {κ':Type} [DecidableEq κ'] {f:α→κ} {g:α→κ'}:∀{l:List α} {k:κ} {k':κ'},(∀x∈l,f x=k↔g x=k')→posK f l k=posK g l k'
 |[],_,_,_=>rfl
 | x::l,k,k',h=>by
   rw [posK,posK,ZhG fun y hy=>h y (Xj _ hy)];have h1:=h x (Xk ..);by_cases h2:f x=k
   · rw [if_pos h2,if_pos (h1.1 h2)]
   · rw [if_neg h2,if_neg fun h3=>h2 (h1.2 h3)]
theorem ZhH {f:α→κ}:∀{l:List α} {i:Nat} {x:α},(l.map f).Nodup→l[i]? =some x→posK f l (f x)=i
 |[],i,x,_,h=>by simp at h
 | y::l,0,x,_,h=>by
   simp only [VE,Option.some.injEq] at h;subst h;rw [posK,if_pos rfl]
 | y::l,i+1,x,hn,h=>by
   simp only [Ud] at h;rw [Xu,Vs] at hn;rw [posK,if_neg fun e=>hn.1 (by rw [e];exact List.mem_map_of_mem (Xg h)),ZhH hn.2 h]
def ZdC (f:α→κ):Nat→List α→List (κ×Value)
 |_,[]=>[]
 |off,x::l=>(f x, .int .i64 (off:Nat))::ZdC f (off+1) l
theorem ZkP (f:α→κ):∀(l:List α) (off:Nat) (k:κ),ZwF (ZdC f off l) k=if posK f l k<l.length then some (.int .i64 ((off+posK f l k:Nat):Int)) else none
 |[],off,k=>by simp [ZdC,ZwF,posK]
 | x :: l,off,k=>by
   rw [ZdC,ZwF,posK,ZkP f l (off+1) k];by_cases h:f x=k
   · rw [if_pos h.symm,if_pos h,if_pos (by simp)];simp
   · rw [if_neg (fun e=>h e.symm),if_neg h,Xc];by_cases h2:posK f l k<l.length
     · rw [if_pos h2,if_pos (by omega)];congr 3;omega
     · rw [if_neg h2,if_neg (by omega)]
theorem ZkQ (f:α→κ) (x:α):∀(l:List α) (off:Nat),¬posK f l (f x)<l.length→Zta (ZdC f off l) (f x) (.int .i64 ((off+l.length:Nat):Int))=ZdC f off (l++[x])
 |[],off,_=>by simp [ZdC,Zta]
 | y ::l,off,h=>by
   rw [posK] at h;split at h
   · rename_i h1;rw [Xc] at h;omega
   · rename_i h1;rw [Xc,Uo] at h;rw [ZdC,Zta,if_neg (fun e=>h1 e.symm),Vj,ZdC,←ZkQ f x l (off+1) h,Xc];congr 4;omega
theorem ZpH (f:α→κ):∀(l:List α) (off:Nat),(ZdC f off l).length=l.length
 |[],_=>rfl
 |x::l,off=>by rw [ZdC,Xc,ZpH f l,Xc]
def visit (f:α→κ) (cap:Nat) (o:List α) (x:α):Option (List α×Nat):=
 if posK f o (f x)<o.length then some (o,posK f o (f x)) else if cap≤o.length then none else some (o++[x],o.length)
theorem Zb8 {f:α→κ} {cap:Nat} {o:List α} {x:α} (h:posK f o (f x)<o.length):visit f cap o x=some (o,posK f o (f x)):=by unfold visit;rw [if_pos h]
theorem Zb9 {f:α→κ} {cap:Nat} {o:List α} {x:α} (h:¬posK f o (f x)<o.length) (hc:o.length<cap):visit f cap o x=some (o++[x],o.length):=by unfold visit;rw [if_neg h,if_neg (by omega)]
theorem ZpI {f:α→κ} {cap:Nat} {o:List α} {x:α} (h:¬posK f o (f x)<o.length) (hc:cap≤o.length):visit f cap o x=none:=by unfold visit;rw [if_neg h,if_pos hc]
end
structure Srch (α κ:Type) where
 key:α→κ
 cap:Nat
 m:Nat
 step:Nat→α→Nat→α
section
variable {α κ:Type} [DecidableEq κ] (W:Srch α κ)
def Srch.row (i:Nat) (x:α) (o:List α):Nat→Option (List α×List Nat)
 |0=>some (o,[])
 |s+1=>(Srch.row i x o s).bind fun q=>(visit W.key W.cap q.1 (W.step i x s)).map fun v=>(v.1,q.2++[v.2])
def Srch.upto (x0:α):Nat→Option (List α×List (List Nat))
 |0=>some ([x0],[])
 | i+1=>(Srch.upto x0 i).bind fun q=>match q.1[i]? with
   |none=>some q
   |some x=>(W.row i x q.1 W.m).map fun v=>(v.1,q.2++[v.2])
def Srch.all (x0:α):Option (List α×List (List Nat)):=W.upto x0 W.cap
variable {W}
theorem Srch.row_snoc {i:Nat} {x:α} {o o' o'':List α} {r:List Nat} {s n:Nat} (h:W.row i x o s=some (o',r)) (hv:visit W.key W.cap o' (W.step i x s)=some (o'',n)):W.row i x o (s+1)=some (o'',r++[n]):=by
 rw [Srch.row,h,Vn,hv];rfl
theorem Srch.row_out {i:Nat} {x:α} {o o':List α} {r:List Nat} {s:Nat} (h:W.row i x o s=some (o',r)) (hv:visit W.key W.cap o' (W.step i x s)=none):W.row i x o (s+1)=none:=by
 rw [Srch.row,h,Vn,hv];rfl
theorem Srch.row_none {i:Nat} {x:α} {o:List α} {s:Nat} (h:W.row i x o s=none):∀t,W.row i x o (s+t)=none
 |0=>h
 |t+1=>by rw [←X9,Srch.row,Srch.row_none h t];rfl
theorem Srch.upto_none {x0:α} {i:Nat} (h:W.upto x0 i=none):∀t,W.upto x0 (i+t)=none
 |0=>h
 |t+1=>by rw [←X9,Srch.upto,Srch.upto_none h t];rfl
theorem Srch.upto_stop {x0:α} {i:Nat} {q:List α×List (List Nat)} (h:W.upto x0 i=some q) (hl:q.1.length≤i):∀t,W.upto x0 (i+t)=some q
 |0=>h
 |t+1=>by rw [←X9,Srch.upto,Srch.upto_stop h hl t,Vn,XI (by omega)]
theorem Srch.upto_snoc {x0 x:α} {i:Nat} {o o':List α} {rows:List (List Nat)} {r:List Nat} (h:W.upto x0 i=some (o,rows)) (hx:o[i]? =some x) (hr:W.row i x o W.m=some (o',r)):W.upto x0 (i+1)=some (o',rows++[r]):=by
 rw [Srch.upto,h,Vn];dsimp only;rw [hx];dsimp only;rw [hr];rfl
theorem Srch.upto_out {x0 x:α} {i:Nat} {o:List α} {rows:List (List Nat)} (h:W.upto x0 i=some (o,rows)) (hx:o[i]? =some x) (hr:W.row i x o W.m=none):W.upto x0 (i+1)=none:=by
 rw [Srch.upto,h,Vn];dsimp only;rw [hx];dsimp only;rw [hr];rfl
structure Srch.Met (W:Srch α κ) (P:α→Prop) (x0:α) (o:List α):Prop where
 zero:o[0]? =some x0
 cap:o.length≤W.cap
 nd:(o.map W.key).Nodup
 p:∀x∈o,P x
theorem Srch.Met.start {P:α→Prop} {x0:α} (hc:1≤W.cap) (hP:P x0):W.Met P x0 [x0]:=⟨rfl,hc,by simp,by simpa using hP⟩
theorem Srch.Met.pos {P:α→Prop} {x0:α} {o:List α} (h:W.Met P x0 o):0<o.length:=ζi h.zero
theorem Zth {f:α→κ} {cap:Nat} {o o':List α} {x:α} {n:Nat} (h:visit f cap o x=some (o',n)):o<+:o'∧n<o'.length∧posK f o' (f x)=n:=by
 unfold visit at h
 split at h
 · rename_i h1
   cases h;exact ⟨VM _,h1,rfl⟩
 · rename_i h1;split at h
   · cases h
   · cases h;exact ⟨List.prefix_append _ _,by simp,ZkO h1⟩
theorem Srch.Met.visit {P:α→Prop} {x0 x:α} {o o':List α} {n:Nat} (h:W.Met P x0 o) (hx:P x) (hv:visit W.key W.cap o x=some (o',n)):W.Met P x0 o':=by
 unfold Go.Proofs.YtgfabnhpllkebaaGreatDoor.visit at hv
 split at hv
 · cases hv;exact h
 · rename_i h1;split at hv
   · cases hv
   · rename_i h2
     cases hv;refine ⟨?_,by rw [Xd,Xz];omega,?_,fun y hy=>?_⟩
     · rw [X2 h.pos];exact h.zero
     · rw [XC,VC];refine ⟨h.nd,by simp,fun a ha b hb e=>h1 (ZkM.2 ?_)⟩;subst e;obtain ⟨y,hy,rfl⟩:=Xo.1 ha;simp at hb;exact ⟨y,hy,hb⟩
     · rcases Xp.1 hy with hy|hy
       · exact h.p y hy
       · rw [Xi.1 hy];exact hx
theorem Srch.Met.row {P:α→Prop} {x0 x:α} {i:Nat} {o:List α} (h:W.Met P x0 o) (hx:∀s,s<W.m→P (W.step i x s)):∀{s:Nat} {o':List α} {r:List Nat},s≤W.m→W.row i x o s=some (o',r)→W.Met P x0 o'∧o<+:o'∧r.length=s∧∀(t n:Nat),r[t]? =some n→n<o'.length∧posK W.key o' (W.key (W.step i x t))=n
 | 0,o',r,_,hr=>by
   rw [Srch.row] at hr;cases hr;exact ⟨h,VM _,rfl,fun t n ht=>by simp at ht⟩
 | s + 1,o',r,hs,hr=>by
   rw [Srch.row,V5] at hr;obtain ⟨⟨o1,r1⟩,h1,h2⟩:=hr;obtain ⟨⟨o2,n⟩,h3,h4⟩:=XH.1 h2
   cases h4;dsimp only at h3 ⊢;obtain ⟨h5,h6,h7,h8⟩:=Srch.Met.row h hx (by omega) h1;obtain ⟨h9,h10,h11⟩:=Zth h3;refine ⟨h5.visit (hx s (by omega)) h3,h6.trans h9,by rw [Xd,h7];rfl,fun t n' ht=>?_⟩;rw [Up] at ht;split at ht
   · obtain ⟨h12,h13⟩:=h8 t n' ht;obtain ⟨e,rfl⟩:=h9;refine ⟨by rw [Xd];omega,?_⟩;rw [ZhF e (by rw [h13];exact h12)];exact h13
   · have h14:t=s:=by
      have:=ζi ht;simp only [Xz] at this;omega
     subst h14;rw [h7,VB] at ht;simp only [VE,Option.some.injEq] at ht;subst ht;exact ⟨h10,h11⟩
structure Srch.Ok (W:Srch α κ) (P:α→Prop) (x0:α) (o:List α) (rows:List (List Nat)):Prop extends W.Met P x0 o where
 len:∀r∈rows,r.length=W.m
 to:∀(i:Nat) (x:α) (r:List Nat) (t n:Nat),o[i]? =some x→rows[i]? =some r→r[t]? =some n→n<o.length∧posK W.key o (W.key (W.step i x t))=n
theorem Srch.ok {P:α→Prop} {x0:α} (hc:1≤W.cap) (h0:P x0) (hP:∀i x s,P x→s<W.m→P (W.step i x s)):∀{i:Nat} {o:List α} {rows:List (List Nat)},W.upto x0 i=some (o,rows)→W.Ok P x0 o rows∧(i≤o.length→rows.length=i)∧(o.length≤i→rows.length=o.length)
 | 0,o,rows,h=>by
   rw [Srch.upto] at h;cases h;exact ⟨⟨Srch.Met.start hc h0,by simp,by simp⟩,fun _=>rfl,fun h=>by simp at h⟩
 | i + 1, o,rows,h=>by
   rw [Srch.upto,V5] at h;obtain ⟨⟨o1,rows1⟩,h1,h2⟩:=h;obtain ⟨h3,h4,h4'⟩:=Srch.ok hc h0 hP h1;dsimp only at h2
   cases hx:o1[i]? with
   | none=>
     rw [hx] at h2;cases h2;have:=V6.1 hx;exact ⟨h3,fun h5=>by omega,fun _=>h4' this⟩
   | some x=>
     rw [hx] at h2;obtain ⟨⟨o2,r⟩,h5,h6⟩:=XH.1 h2
     cases h6;dsimp only;have hil:=ζi hx;have h4:=h4 (by omega);obtain ⟨h7,h8,h9,h10⟩:=h3.toMet.row (fun s hs=>hP i x s (h3.p x (Xg hx)) hs) (Xb _) h5;have hle:=h8.length_le;refine ⟨⟨h7,fun r' hr'=>?_,fun j y r' t n hj hr' ht=>?_⟩,fun _=>by rw [Xd,h4];rfl,fun _=>by rw [Xd,h4,Xz];omega⟩
     · rcases Xp.1 hr' with hr'|hr'
       · exact h3.len r' hr'
       · rw [Xi.1 hr'];exact h9
     · rw [Up] at hr';split at hr'
       · rename_i hjl;obtain ⟨z,hz⟩:=ζo (show j<o1.length by omega);have hzy:=ZhE h8 hz;rw [hzy] at hj;cases hj;obtain ⟨h12,h13⟩:=h3.to j y r' t n hz hr' ht;obtain ⟨e,rfl⟩:=h8;refine ⟨by rw [Xd];omega,?_⟩;rw [ZhF e (by rw [h13];exact h12)];exact h13
       · have hj2:j=i:=by
          have:=ζi hr';simp only [Xz] at this;omega
         subst hj2;rw [h4,VB] at hr';simp only [VE,Option.some.injEq] at hr';subst hr';have hzy:=ZhE h8 hx;rw [hzy] at hj;cases hj;exact h10 t n ht
theorem Srch.all_some {x0:α} {i:Nat} {q:List α×List (List Nat)} (h:W.upto x0 i=some q) (hl:q.1.length≤i) (hi:i≤W.cap):W.all x0=some q:=by
 have:=Srch.upto_stop h hl (W.cap-i)
 rw [show i+(W.cap-i)=W.cap by omega] at this
 exact this
theorem Srch.all_none {x0:α} {i:Nat} (h:W.upto x0 i=none) (hi:i≤W.cap):W.all x0=none:=by
 have:=Srch.upto_none h (W.cap-i)
 rw [show i+(W.cap-i)=W.cap by omega] at this
 exact this
theorem Srch.row_fails {i:Nat} {x:α} {o:List α} {s:Nat} (h:W.row i x o s=none) (hs:s≤W.m):W.row i x o W.m=none:=by
 have:=Srch.row_none h (W.m-s)
 rwa [show s+(W.m-s)=W.m by omega] at this
end
end Go.Proofs.YtgfabnhpllkebaaGreatDoor
namespace Go.Cb
open Go.RowKit
set_option linter.all false
open Go.RowKit Go.WideMaps
structure MapT (P:Program) (t ks e:Nat):Prop where
 ht:P.underlying t=some (.map ks e)
 hk:P.underlying ks=some .string
 he:P.underlying e=some (.int .i64)
 hz:∀w,(zeroValue e).run P w= .ok (.int .i64 0) w
theorem Zcv {a b:ByteArray}:ZdY a b=true↔a=b:=by
 unfold ZdY
 rw [beq_iff_eq,ByteArray.toList_eq,ByteArray.toList_eq]
 exact ⟨fun h=>WideShapes.bytes_inj h,fun h=>by rw [h]⟩
theorem Zmd:∀l:List UInt8,Op.bytesLess l l=false
 |[]=>rfl
 |a::l=>by simp [Op.bytesLess,Zmd l,UInt8.lt_irrefl]
theorem ZpJ:∀a b c:List UInt8,Op.bytesLess a b=true→Op.bytesLess b c=true→Op.bytesLess a c=true
 |_,_,[],_,h=>by cases h':(‹List UInt8›:List UInt8)<;>simp_all [Op.bytesLess]
 |_,[],_::_,h,_=>by simp [Op.bytesLess] at h
 |[],_::_,_::_,_,_=>rfl
 | x ::a,y::b,z::c,h1,h2=>by
   simp only [Op.bytesLess,XT,Xe,decide_eq_true_eq,beq_iff_eq] at h1 h2 ⊢;rcases h1 with h1|⟨rfl,h1⟩
   · rcases h2 with h2|⟨rfl,h2⟩
     · exact .inl (UInt8.lt_trans h1 h2)
     · exact .inl h1
   · rcases h2 with h2|⟨rfl,h2⟩
     · exact .inl h2
     · exact .inr ⟨rfl,ZpJ a b c h1 h2⟩
theorem ZpK:∀a b:List UInt8,Op.bytesLess a b=false→Op.bytesLess b a=false→a=b
 |[],[],_,_=>rfl
 |[],_::_,h,_=>by simp [Op.bytesLess] at h
 |_::_,[],_,h=>by simp [Op.bytesLess] at h
 | x::a,y::b,h1,h2=>by
   simp only [Op.bytesLess,Vw,decide_eq_false_iff_not] at h1 h2;have hxy:x=y:=UInt8.le_antisymm (UInt8.not_lt.1 h2.1) (UInt8.not_lt.1 h1.1);subst hxy;simp only [beq_self_eq_true,Bool.true_and] at h1 h2;rw [ZpK a b h1.2 h2.2]
theorem Zew (a:ByteArray):Zep a a=false:=Zmd _
theorem Zij {a b c:ByteArray} (h:Zep a b=true) (k:Zep b c=true):Zep a c=true:=ZpJ _ _ _ h k
theorem Zn3 {a b:ByteArray} (h:Zep a b=false) (k:Zep b a=false):a=b:=by
 have:=ZpK _ _ h k
 rw [ByteArray.toList_eq,ByteArray.toList_eq] at this
 exact WideShapes.bytes_inj this
def Nodup (r:List Var):Prop:=r.Pairwise fun x y=>x.acts≠y.acts
end Go.Cb
