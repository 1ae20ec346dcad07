/-
  Walks and laws.
-/
import Derived.KernelRfl
import Derived.Test.YtmkojdfiadbeeaaGreatProg
import Derived.Maps.Own
import Derived.Maps.OwnOps
import Derived.Maps.OwnSet
import Derived.StringKeys
import Derived.Test.YtmkojdfiadbeeaaGreatPn01
set_option linter.all false
set_option maxRecDepth 100000
set_option maxHeartbeats 0
namespace Go.En
open Go.RowKit Go.Cb
section
variable {P:Program} {c:Ctx} {sL hP:List (Nat×Ent)} {o:Oper}
def ZgM {t k j:Nat} {x:Operand} {v:Value} {cs ps:List PV} (hT:AggT P t k=true) (ho:o.op= .load t x) (hx:ev sL x=some (v, .sptr j cs)) (hp:j+k<=cs.length) (hps:(cs.drop j).take k=ps):YE P (⟨sL,hP⟩:St) o (fun _=>True) (.agg ps):=hps▸ZjY hT ho hx hp
def ZgN {t k j e k' n:Nat} {x:Operand} {h:Value} {q:PV} {cs ps:List PV} (l:Nat) (hT:AggT P t k=true) (ho:o.op= .load t x) (hx:ev sL x=some (padd (sbase h) j,q)) (hl:lk hP l=some (h, .own e k' n cs)) (hp:j+k<=cs.length) (hk:0<k) (hps:(cs.drop j).take k=ps) (hsh:ps.all isSh=true):YE P (⟨sL,hP⟩:St) o (fun _=>True) (.agg ps):=by
 subst hps;exact ZjZ l hT ho hx hl hp hsh hk
def ED {t j:Nat} {x:Operand} {v:Value} {cs:List PV} {p:PV} (i:Nat) (hT:NoAgg P t=true) (ho:o.op= .load t x) (hx:ev sL x=some (v, .sptr j cs)) (hj:j=i) (hp:cs[i]? =some p):YE P (⟨sL,hP⟩:St) o (vOf p) p:=by
 subst hj;exact Zd7 hT ho hx hp
def Jk {t j e k n:Nat} {x:Operand} {h:Value} {q:PV} {cs:List PV} {p:PV} (l i:Nat) (hT:NoAgg P t=true) (ho:o.op= .load t x) (hx:ev sL x=some (padd (sbase h) j,q)) (hl:lk hP l=some (h, .own e k n cs)) (hj:j=i) (hp:cs[i]? =some p) (hsh:isSh p=true):YE P (⟨sL,hP⟩:St) o (vOf p) p:=by
 subst hj;exact Zd8 l hT ho hx hl hp hsh
def Zr0 {f:Nat} {caps:Array Operand} {es:List Ent} (ho:o.op= .makeFunc (.func f) #[] caps) (hx:evL sL caps.toList=some es):YE P (⟨sL,hP⟩:St) o (· = .func (.func f) #[] (es.map (·.1)).toArray) (.fn f (es.map (·.2))):=
 .exact fun M F a w H=>by
  obtain ⟨h1,h2⟩:=SE H hx;refine ⟨.fn f _ _ (by rw [Xc,Xc]) h2,?_⟩;have:caps.map a.eval=(es.map (·.1)).toArray:=by rw [<-h1,<-V8,VX]
  simp [execOp,ho,Instr.makeFunc,this]
end
def Km {P:Program} {c:Ctx} {sL hP:List (Nat×Ent)} {Q:Exit->Act->World->Prop} {x:Code} {n:Nat} {v:Value} {cs:List PV} (t:Nat) (ht:lk sL t=some (v, .sl n cs)) (k:n<=9223372036854775807->aC P c x Q (⟨sL,hP⟩:St)):aC P c x Q (⟨sL,hP⟩:St):=fun a w H=>by
 obtain ⟨F,H'⟩:=id H
 have h1:=(H'.sl t _ _ ht).2
 have:n<=9223372036854775807:=by
  cases h1 with
  |emp=>omega
  |sl b off n c cs vs hn hc=>unfold maxLen at hc;omega
 exact k this a w H
abbrev Zb (n:Int):PV:= .val (.int .i64 n)
abbrev Zx (s:BA):PV:= .val (.string s)
abbrev Zr (b:Bool):PV:= .val (.bool b)
def ZX (l:List BA):PV:= .sl l.length (l.map Zx)
def L4 (l:List (List BA)):PV:= .sl l.length (l.map ZX)
def pInts (l:List Int):PV:= .sl l.length (l.map Zb)
def YL (x:Var):List PV:=[ZX x.acts,Zb x.count]
def ZV (l:List Var):PV:= .sl l.length (l.flatMap YL)
def Zc7 (l:List (List Var)):PV:= .sl l.length (l.map ZV)
def PC (x:Cut):PV:= .agg [Zb x.kind,L4 x.parts]
def Yf {α β:Type} {f:α->β} {l:List α} {i:Nat} {x:α} (h:l[i]? =some x):(l.map f)[i*1]? =some (f x):=by rw [XJ,Xl,h];rfl
def Z1 {α β:Type} {f:α->List β} {k:Nat} (hf:∀x,(f x).length=k):∀l:List α,(l.flatMap f).length=l.length*k
 |[]=>sM
 |x::l=>by rw [Xq,Xe,hf,Z1 hf l,Xh,X3];omega
def Y4 {α β:Type} {f:α->List β} {k:Nat} (hf:∀x,(f x).length=k):∀(l:List α) (i:Nat) (x:α),l[i]? =some x->((l.flatMap f).drop (i*k)).take k=f x
 |[],i,x,h=>by simp at h
 | y::l,0,x,h=>by
   simp at h;subst h;rw [X8,Vf,Xq,List.take_append_of_le_length (by rw [hf];exact Xd _),Xs (by rw [hf];exact Xd _)]
 | y::l,i+1,x,h=>by
   rw [Xq,X3,Nat.one_mul,Nat.add_comm,<-List.drop_drop,List.drop_append_of_le_length (by rw [hf];exact Xd _),show (f y).drop k=[] from List.drop_of_length_le (by rw [hf];exact Xd _),XY];exact Y4 hf l i x (by simpa using h)
def Yr {α β:Type} {f:α->List β} {k:Nat} (hf:∀x,(f x).length=k) {l:List α} {i:Nat} {x:α} (h:l[i]? =some x) {j:Nat} (hj:j<k):(l.flatMap f)[i*k+j]? =(f x)[j]? :=by
 rw [<-Y4 hf l i x h,X1 hj,Vn]
def Ww {α β:Type} {f:α->List β} {k:Nat} (hf:∀x,(f x).length=k) {l:List α} {i:Nat} {x:α} (h:l[i]? =some x):i*k+k<=(l.flatMap f).length:=by
 rw [Z1 hf]
 have:=Zd h
 have h1:(i+1)*k<=l.length*k:=Vx k this
 rw [X3,Nat.one_mul] at h1
 exact h1
def ZM (x:Var):(YL x).length=2:=rfl
def ZmF {α:Type} {l:List α} (h:l.length=1):∃a,l=[a]:=by
 match l,h with
 |[a],_=>exact ⟨a,rfl⟩
def ζH {α:Type} {l:List α} (h:l.length=2):∃a b,l=[a,b]:=by
 match l,h with
 |[a,b],_=>exact ⟨a,b,rfl⟩
def Zs6 {α:Type} {l:List α} (h:l.length=3):∃a b d,l=[a,b,d]:=by
 match l,h with
 |[a,b,d],_=>exact ⟨a,b,d,rfl⟩
def Zty {α:Type} {l:List α} (h:l.length=4):∃a b d e,l=[a,b,d,e]:=by
 match l,h with
 |[a,b,d,e],_=>exact ⟨a,b,d,e,rfl⟩
def keq:Value->Value->Bool
 | .string a, .string b=>a==b
 | .int k a, .int k' b=>decide (k=k')&&a==b
 | .bool a, .bool b=>a==b
 |_,_=>false
def ZgO {a b:BA}:(a==b)=true↔a=b:=by
 obtain ⟨a⟩:=a
 obtain ⟨b⟩:=b
 rw [show ((⟨a⟩:BA)==⟨b⟩)=(a==b) from rfl]
 simp
def ZpH {a b:Value} (h:keq a b=true):keq b a=true:=by
 cases a<;>cases b<;>simp_all [keq,ZgO]
def kok (kd:TypeDesc) (k:Value) (kv:List (Value×Value)):Prop:=∀x∈kv,Instr.sameNow kd k x.1=some (keq k x.1)
def KC:List (Value×Value)->Value->Option Value
 |[],_=>none
 |x::l,k=>if keq k x.1 then some x.2 else KC l k
def RV:List (Value×Value)->Value->Value->List (Value×Value)
 |[],k,v=>[(k,v)]
 |x::l,k,v=>if keq k x.1 then (k,v)::l else x::RV l k v
def RX:List (Value×Value)->Value->Option Nat
 |[],_=>none
 |x::l,k=>if keq k x.1 then some 0 else (RX l k).map (· +1)
def HB {kd:TypeDesc} {k:Value}:∀(l:List MapEntry) (i:Nat),kok kd k (l.map fun x=>(x.key,x.val))->
 Instr.findNow kd k l i=some (match RX (l.map fun x=>(x.key,x.val)) k,KC (l.map fun x=>(x.key,x.val)) k with|some j,some v=>some (i+j,v)|_,_=>none)/\((RX (l.map fun x=>(x.key,x.val)) k).isSome=(KC (l.map fun x=>(x.key,x.val)) k).isSome)
 |[],i,_=>⟨rfl,rfl⟩
 | e :: l,i,h=>by
   have h0:=h (e.key,e.val) sM;obtain ⟨h1,h2⟩:=HB l (i+1) (fun x hx=>h x (by simp at hx ⊢;exact .inr hx));simp only at h0;simp only [Instr.findNow,h0,Xn,RX,KC]
   cases hk:keq k e.key
   . simp only [VG,if_false];rw [h1]
     cases hm:RX (l.map fun x=>(x.key,x.val)) k with
     | none=>
       rw [hm] at h2
       cases hg:KC (l.map fun x=>(x.key,x.val)) k with
       |none=>simp
       |some v=>rw [hg] at h2;simp at h2
     | some j=>
       rw [hm] at h2
       cases hg:KC (l.map fun x=>(x.key,x.val)) k with
       |none=>rw [hg] at h2;simp at h2
       |some v=>simp;omega
   simp
structure MpT (P:Program) (t ks e:Nat) (kd:TypeDesc) (z:Value):Prop where
 ht:P.underlying t=some (.map ks e)
 hk:P.underlying ks=some kd
 hkd:kd= .string\/∃k,kd= .int k
 hz:ZeroT P e z
variable {P:Program} {c:Ctx} {ops:Array Oper} {Q:Exit->Act->World->Prop} {rest:List Oper} {sL hP:List (Nat×Ent)} {o:Oper}
def PD {ks:Nat} {kd:TypeDesc} (hk:P.underlying ks=some kd) (hkd:kd= .string\/∃k,kd= .int k) (b:Bool) (v:Value) (w:World):(Instr.checkKey b 10000 ks v).run P w= .ok () w:=by
 rw [show (10000:Nat)=9999+1 from rfl,Instr.checkKey]
 rcases hkd with rfl|⟨k,rfl⟩<;>simp [run_underlying hk]
def TP {ks:Nat} {kd:TypeDesc} (hk:P.underlying ks=some kd) {k:Value} {es:Array MapEntry} (h:kok kd k (kvOf es)) (w:World):(Instr.findKey ks k es.toList).run P w= .ok (match RX (kvOf es) k,KC (kvOf es) k with|some j,some v=>some (j,v)|_,_=>none) w:=by
 obtain ⟨h1,_⟩:=HB es.toList 0 h
 unfold Instr.findKey
 simp only [Sem.run_bind,run_underlying hk,Result.andThen_ok,h1,XC]
 rfl
def Zil (kv:List (Value×Value)) (k:Value):(RX kv k).isSome=(KC kv k).isSome:=by
 induction kv with
 |nil=>rfl
 | cons x l ih=>
   simp only [RX,KC];split
   . rfl
   simpa using ih
def PE {t ks e:Nat} {kd:TypeDesc} {z:Value} (hT:MpT P t ks e kd z) {b clock:Nat} {es:Array MapEntry} {k:Value} (hb:Bool) {w:World} (h:w.heap[b]? =some (.map es clock)) (hk:kok kd k (kvOf es)):
 (Instr.lookup t (.map (some b)) k hb).run P w= .ok (if hb then .tuple #[(KC (kvOf es) k).getD z, .bool (KC (kvOf es) k).isSome] else (KC (kvOf es) k).getD z) w:=by
 have hm:=Zil (kvOf es) k
 unfold Instr.lookup
 simp only [Sem.run_bind,run_underlying hT.ht,Result.andThen_ok,getObj,Sem.run,h,PD hT.hk hT.hkd,TP hT.hk hk]
 cases h1:RX (kvOf es) k with
 | none=>
   rw [h1] at hm
   cases h2:KC (kvOf es) k with
   |none=>cases hb<;>simp [TP hT.hk hk,h1,h2,ZeroT.run hT.hz]
   |some v=>rw [h2] at hm;simp at hm
 | some j=>
   rw [h1] at hm
   cases h2:KC (kvOf es) k with
   |none=>rw [h2] at hm;simp at hm
   |some v=>cases hb<;>simp [TP hT.hk hk,h1,h2]
def ZmG {t ks e:Nat} {kd:TypeDesc} {z:Value} {x y:Operand} {m k:Value} {kv:List (Value×Value)} {q:PV} (hT:MpT P t ks e kd z) (ho:o.op= .lookup t x y false) (hx:ev sL x=some (m, .smap kv)) (hy:ev sL y=some (k,q)) (hk:kok kd k kv):
 YE P (⟨sL,hP⟩:St) o (· =(KC kv k).getD z) (.val ((KC kv k).getD z)):= .exact fun M F a w H=>by
 obtain ⟨hv,hs⟩:=H.ev hx
 have hkv:=(H.ev hy).1
 cases hs with
 |smap b es clock hM h=>exact ⟨.val _,by simp [execOp,ho,hv,hkv,PE hT false h hk]⟩
def Zj6 {t ks e:Nat} {kd:TypeDesc} {z:Value} {x y:Operand} {m k:Value} {kv:List (Value×Value)} {q:PV} (hT:MpT P t ks e kd z) (ho:o.op= .lookup t x y true) (hx:ev sL x=some (m, .smap kv)) (hy:ev sL y=some (k,q)) (hk:kok kd k kv):
 YE P (⟨sL,hP⟩:St) o (· = .tuple [(KC kv k).getD z, .bool (KC kv k).isSome].toArray) (.tup [.val ((KC kv k).getD z), .val (.bool (KC kv k).isSome)]):= .exact fun M F a w H=>by
 obtain ⟨hv,hs⟩:=H.ev hx
 have hkv:=(H.ev hy).1
 cases hs with
 | smap b es clock hM h=>
   refine ⟨.tup _ _ rfl fun i x p hx hp=>?_,by simp [execOp,ho,hv,hkv,PE hT true h hk]⟩;match i with
   |0=>simp at hx hp;subst hx hp;exact .val _
   |1=>simp at hx hp;subst hx hp;exact .val _
   |i+2=>simp at hx
def Zj7 {t ks e:Nat} {kd:TypeDesc} {z u:Value} {x y:Operand} {m k:Value} {kv:List (Value×Value)} {q:PV} (hT:MpT P t ks e kd z) (ho:o.op= .lookup t x y false) (hx:ev sL x=some (m, .smap kv)) (hy:ev sL y=some (k,q)) (hk:kok kd k kv) (hu:(KC kv k).getD z=u):
 YE P (⟨sL,hP⟩:St) o (· =u) (.val u):=hu▸ZmG hT ho hx hy hk
def Tr.map {M:BS} {w:World} {m:Value} {kv:List (Value×Value)} {F:BS} (h:Tr M w m (.omap kv) F):∃b es clock,m= .map (some b)/\kv=kvOf es/\w.heap[b]? =some (.map es clock)/\∀x,F x↔x=b:=by
 cases h with
 |shr h _=>cases h
 |omap b es clock h hF=>exact ⟨b,es,clock,rfl,rfl,h,hF⟩
def ZmH {t ks e:Nat} {kd:TypeDesc} {z:Value} {x y:Operand} {m k:Value} {kv:List (Value×Value)} {p q:PV} (l:Nat) (hT:MpT P t ks e kd z) (ho:o.op= .lookup t x y false) (hx:ev sL x=some (m,p)) (hl:lk hP l=some (m, .omap kv)) (hy:ev sL y=some (k,q)) (hk:kok kd k kv):
 YE P (⟨sL,hP⟩:St) o (· =(KC kv k).getD z) (.val ((KC kv k).getD z)):= .exact fun M F a w H=>by
 have hv:=(H.ev hx).1
 have hkv:=(H.ev hy).1
 obtain ⟨b,es,clock,rfl,rfl,h,_⟩:=(H.tr l _ _ hl).map
 exact ⟨.val _,by simp [execOp,ho,hv,hkv,PE hT false h hk]⟩
def Zj8 {t ks e:Nat} {kd:TypeDesc} {z:Value} {x y:Operand} {m k:Value} {kv:List (Value×Value)} {p q:PV} (l:Nat) (hT:MpT P t ks e kd z) (ho:o.op= .lookup t x y true) (hx:ev sL x=some (m,p)) (hl:lk hP l=some (m, .omap kv)) (hy:ev sL y=some (k,q)) (hk:kok kd k kv):
 YE P (⟨sL,hP⟩:St) o (· = .tuple [(KC kv k).getD z, .bool (KC kv k).isSome].toArray) (.tup [.val ((KC kv k).getD z), .val (.bool (KC kv k).isSome)]):= .exact fun M F a w H=>by
 have hv:=(H.ev hx).1
 have hkv:=(H.ev hy).1
 obtain ⟨b,es,clock,rfl,rfl,h,_⟩:=(H.tr l _ _ hl).map
 refine ⟨.tup _ _ rfl fun i x p hx hp=>?_,by simp [execOp,ho,hv,hkv,PE hT true h hk]⟩
 match i with
 |0=>simp at hx hp;subst hx hp;exact .val _
 |1=>simp at hx hp;subst hx hp;exact .val _
 |i+2=>simp at hx
def Zj9 {t ks e:Nat} {kd:TypeDesc} {z u:Value} {x y:Operand} {m k:Value} {kv:List (Value×Value)} {p q:PV} (l:Nat) (hT:MpT P t ks e kd z) (ho:o.op= .lookup t x y false) (hx:ev sL x=some (m,p)) (hl:lk hP l=some (m, .omap kv)) (hy:ev sL y=some (k,q)) (hk:kok kd k kv) (hu:(KC kv k).getD z=u):
 YE P (⟨sL,hP⟩:St) o (· =u) (.val u):=hu▸ZmH l hT ho hx hl hy hk
def Tr.mapW {M:BS} {w:World} {m:Value} {kv:List (Value×Value)} {F:BS} (h:Tr M w m (.omap kv) F):∃b es clock,m= .map (some b)/\kv=kvOf es/\w.heap[b]? =some (.map es clock)/\(∀x,F x↔x=b)/\WfM es clock:=by
 cases h with
 |shr h _=>cases h
 |omap b es clock h hF hW=>exact ⟨b,es,clock,rfl,rfl,h,hF,hW⟩
def Zim {es:Array MapEntry} {clock:Nat} {k v:Value} (h:WfM es clock):WfM (es.push {key:=k,val:=v,born:=clock}) (clock+1):=by
 refine ⟨fun x hx=>?_,?_⟩
 . rw [Array.toList_push,XD,XE] at hx;rcases hx with hx|rfl
   . have:=h.1 x hx;omega
   exact UN _
 rw [Array.toList_push,XX,X6];refine ⟨h.2,sM,fun a ha b hb=>?_⟩;rw [Xn,Vz,XE] at hb;obtain ⟨x,hx,rfl⟩:=Xp.1 ha;have:=h.1 x hx;dsimp only at hb;omega
def ZbQ {es:Array MapEntry} {clock j:Nat} (f:MapEntry->MapEntry) (hf:∀e,(f e).born=e.born) (h:WfM es clock):WfM (es.modify j f) clock:=by
 have e:(es.modify j f).toList.map (·.born)=es.toList.map (·.born):=by
  rw [UO];have:∀(l:List MapEntry) (j:Nat),(l.modify j f).map (·.born)=l.map (·.born):=fun l=>by
   induction l with
   |nil=>intro j;simp
   | cons a l ih=>intro j;cases j with
     |zero=>simp [hf]
     |succ j=>rw [UP,Xn,Xn,ih]
  exact this _ _
 refine ⟨fun x hx=>?_,e▸h.2⟩
 have h1:x.born∈es.toList.map (·.born):=e▸Xp.2 ⟨x,hx,rfl⟩
 obtain ⟨y,hy,hxy⟩:=Xp.1 h1
 have:=h.1 y hy
 omega
def HE (es:Array MapEntry):(kvOf es).length=es.size:=by simp [kvOf]
def ZmI {t ks e:Nat} {x:Operand} {m:Value} {kv:List (Value×Value)} (ht:P.underlying t=some (.map ks e)) (ho:o.op= .call {callee:= .builtin .len,args:= #[x],argTypes:= #[t]}) (hx:ev sL x=some (m, .smap kv)):YE P (⟨sL,hP⟩:St) o (· = .int .i64 kv.length) (.val (.int .i64 kv.length)):= .exact fun M F a w H=>by
 obtain ⟨hv,hs⟩:=H.ev hx
 cases hs with
 |smap b es clock hM h=>exact ⟨.val _,by simp [execOp,ho,hv,resolve,invoke,builtin,Builtin.len_,run_underlying ht,getObj,Sem.run,h,goInt,HE]⟩
def ZmJ {t ks e:Nat} {x:Operand} {m:Value} {kv:List (Value×Value)} {p:PV} (l:Nat) (ht:P.underlying t=some (.map ks e)) (ho:o.op= .call {callee:= .builtin .len,args:= #[x],argTypes:= #[t]}) (hx:ev sL x=some (m,p)) (hl:lk hP l=some (m, .omap kv)):YE P (⟨sL,hP⟩:St) o (· = .int .i64 kv.length) (.val (.int .i64 kv.length)):= .exact fun M F a w H=>by
 have hv:=(H.ev hx).1
 obtain ⟨b,es,clock,rfl,rfl,h,_⟩:=(H.tr l _ _ hl).map
 exact ⟨.val _,by simp [execOp,ho,hv,resolve,invoke,builtin,Builtin.len_,run_underlying ht,getObj,Sem.run,h,goInt,HE]⟩
def ZmK {t:Nat} (d:Nat) (hw:Yb ops sL o=some true) (hd:o.dst=some d) (hn:d<c.nt) (ho:o.op= .makeMap t none) (hl:lk hP d=none)
 (k:∀m:Value,m.oneCell'=true->aL P c ops Q rest ⟨put d (m, .val m) sL,put d (m, .omap []) hP⟩):aL P c ops Q (o::rest) (⟨sL,hP⟩:St):=
 W1 hw fun a w F H=>by
  have key:HoldsF c ⟨put d (.map (some w.heap.size), .val (.map (some w.heap.size))) sL,put d (.map (some w.heap.size), .omap []) hP⟩ (fun l'=>if l'=d then (fun b=>b=w.heap.size) else F l') (a.put (some d) (.map (some w.heap.size))) (w.alloc (.map #[] 0)):=by
   refine H.change (fun l'=>l'=d) hn ((Ext.alloc _ _).chg) (fun l' x hne hx'=>?_) (fun l' x b hT hx' hb=>?_) (fun hm l' u q hT hx'=>?_) (fun l1 l2 _ _ _ h1 h2 hne=>Qe (h1.trans h2.symm) hne) (fun hm=> .val _)
   . rcases YC hx' with ⟨e1,_⟩|⟨_,e1⟩
     . exact Qe e1.symm hne
     exact ⟨e1,by simp [hne]⟩
   . subst hT;simp only [if_true] at hb;exact .inr (by rw [hb];exact Xd _)
   subst hT;rw [Z3] at hx'
   cases hx';simp only [if_true];refine .omap w.heap.size #[] 0 ?_ (fun x=>Iff.rfl) ⟨sM,sM⟩;show (w.heap.push _)[w.heap.size]? =_;simp
  unfold Oper.wp execOp;simp [ho,Instr.makeMap,newObj,Sem.run,hd,Oper.upon];exact k _ rfl _ _ ⟨_,key⟩
def Zka {es:Array MapEntry} {k v:Value}:∀{j:Nat},RX (kvOf es) k=some j->kvOf (es.modify j fun e=>{e with key:=k,val:=v})=RV (kvOf es) k v:=by
 have key:∀(l:List MapEntry) (j:Nat),RX (l.map fun x=>(x.key,x.val)) k=some j->(l.modify j fun e=>{e with key:=k,val:=v}).map (fun x=>(x.key,x.val))=RV (l.map fun x=>(x.key,x.val)) k v:=by
  intro l;induction l with
  |nil=>intro j h;simp [RX] at h
  | cons e l ih=>
    intro j h;simp only [Xn,RX] at h;simp only [Xn,RV];split at h
    . rename_i hk
      cases h;simp [hk]
    rename_i hk;rw [XU] at h;obtain ⟨j',h1,rfl⟩:=h;rw [Qc hk,UP,Xn,ih j' h1]
 intro j h
 unfold kvOf at h ⊢
 rw [UO]
 exact key _ j h
def ZpI {es:Array MapEntry} {k v:Value} {clock:Nat} (h:RX (kvOf es) k=none):kvOf (es.push {key:=k,val:=v,born:=clock})=RV (kvOf es) k v:=by
 have key:∀kv:List (Value×Value),RX kv k=none->kv++[(k,v)]=RV kv k v:=by
  intro kv;induction kv with
  |nil=>intro _;rfl
  | cons x l ih=>
    intro h;simp only [RX] at h;split at h
    . cases h
    rename_i hk;rw [Option.map_eq_none_iff] at h;rw [RV,Qc hk,Vh,ih h]
 rw [<-key _ h]
 simp [kvOf]
def bits:Value->Bool
 | .string _| .int _ _| .bool _=>true
 |_=>false
def Zkb {a b:Value} (hb:bits a=true) (h:keq b a=true):Instr.sameBits 10000 a b=true:=by
 have h:=ZpH h
 cases a<;>cases b<;>simp_all [keq,bits,Instr.sameBits]
def ZpJ {t ks e:Nat} {kd:TypeDesc} {z:Value} {x y u:Operand} {m k v:Value} {kv:List (Value×Value)} {p q r:PV} (l:Nat) (hw:Yb ops sL o=some true) (hd:o.dst=none) (hT:MpT P t ks e kd z) (ho:o.op= .mapUpdate t x y u) (hx:ev sL x=some (m,p)) (hl:lk hP l=some (m, .omap kv)) (hy:ev sL y=some (k,q)) (hu:ev sL u=some (v,r)) (hk:kok kd k kv) (hbits:bits k=true)
 (kk:aL P c ops Q rest ⟨sL,put l (m, .omap (RV kv k v)) hP⟩):aL P c ops Q (o::rest) (⟨sL,hP⟩:St):=
 W1 hw fun a w F H=>by
  have hxv:=(H.rd.ev hx).1;have hyv:=(H.rd.ev hy).1;have huv:=(H.rd.ev hu).1;obtain ⟨b,es,clock,rfl,rfl,hb,hFb,hWf⟩:=(H.tr l _ _ hl).mapW;have hm:=Zil (kvOf es) k;have main:∀(es':Array MapEntry) (clock':Nat),WfM es' clock'->kvOf es'=RV (kvOf es) k v->Holds c ⟨sL,put l (.map (some b), .omap (RV (kvOf es) k v)) hP⟩ a {w with heap:=w.heap.setIfInBounds b (.map es' clock')}:=fun es' clock' hW' he=>by
   have hlt:=KV hb;have hch:Chg (fun x=>x=b) w {w with heap:=w.heap.setIfInBounds b (.map es' clock')}:=⟨rfl,rfl,rfl,sM,fun i hi hne=>by
    rw [UQ (fun e=>hne e.symm)]⟩
   refine ⟨F,H.change0 (fun l'=>l'=l) (hch.wid fun x hx=> .inl ⟨l,_,rfl,hl,(hFb x).2 hx⟩) (fun l' x hne hx'=>?_) (fun l' x b' hT' hx' hb'=>?_) (fun hmm l' u q hT' hx'=>?_) (fun l1 l2 _ _ _ h1 h2 hne=>Qe (h1.trans h2.symm) hne)⟩
   . rcases YC hx' with ⟨e1,_⟩|⟨_,e1⟩
     . exact Qe e1.symm hne
     exact ⟨e1,rfl⟩
   . subst hT';exact .inl ⟨l',_,rfl,hl,hb'⟩
   subst hT';rw [Z3] at hx'
   cases hx';rw [<-he];exact .omap b es' clock' (by simp [hlt]) hFb hW'
  unfold Oper.wp execOp
  cases h1:RX (kvOf es) k with
  | none=>
    rw [h1] at hm
    cases h2:KC (kvOf es) k with
    |some v=>rw [h2] at hm;simp at hm
    | none=>
      simp [ho,hxv,hyv,huv,Instr.mapUpdate,run_underlying hT.ht,getObj,setObj,Sem.run,hb,PD hT.hk hT.hkd,TP hT.hk hk,h1,h2,Oper.upon,hd,Act.put];exact kk _ _ (main _ _ (Zim hWf) (ZpI h1))
  | some j =>
    rw [h1] at hm
    cases h2:KC (kvOf es) k with
    |none=>rw [h2] at hm;simp at hm
    | some v0=>
      have hj:∃e0,es[j]? =some e0/\keq k e0.key=true:=by
       have key:∀(l:List MapEntry) (j:Nat),RX (l.map fun x=>(x.key,x.val)) k=some j->∃e0,l[j]? =some e0/\keq k e0.key=true:=by
        intro l;induction l with
        |nil=>intro j h;simp [RX] at h
        | cons e l ih=>
          intro j h;simp only [Xn,RX] at h;split at h
          . rename_i hk;cases h;exact ⟨e,rfl,hk⟩
          rw [XU] at h;obtain ⟨j',h1,rfl⟩:=h;obtain ⟨e0,h3,h4⟩:=ih j' h1;exact ⟨e0,by simpa using h3,h4⟩
       obtain ⟨e0,h3,h4⟩:=key es.toList j h1;exact ⟨e0,by simpa using h3,h4⟩
      obtain ⟨e0,h3,h4⟩:=hj;have hb0:bits e0.key=true:=by
       cases k<;>simp [bits] at hbits<;>(generalize e0.key=y at h4 ⊢;cases y<;>simp_all [keq,bits])
      have hsb:=Zkb hb0 h4;simp [ho,hxv,hyv,huv,Instr.mapUpdate,run_underlying hT.ht,getObj,setObj,Sem.run,hb,PD hT.hk hT.hkd,TP hT.hk hk,h1,h2,h3,Instr.keyThatStays,hsb,Oper.upon,hd,Act.put];exact kk _ _ (main _ _ (ZbQ _ (fun _=>rfl) hWf) (Zka h1))
def skv (es:List (BA×Value)):List (Value×Value):=es.map fun x=>(.string x.1,x.2)
def ikv (es:List (Int×Value)):List (Value×Value):=es.map fun x=>(.int .i64 x.1,x.2)
def HG (kd:TypeDesc) (k:Value):kok kd k []:=fun x h=>by simp at h
def Rk (s:BA) (es:List (BA×Value)):kok .string (.string s) (skv es):=fun x h=>by
 simp [skv] at h
 obtain ⟨a,b,_,rfl⟩:=h
 rfl
def HH (n:Int) (es:List (Int×Value)):kok (.int .i64) (.int .i64 n) (ikv es):=fun x h=>by
 simp [ikv] at h
 obtain ⟨a,b,_,rfl⟩:=h
 simp [Instr.sameNow,keq]
def Kx {κ:Type} [DecidableEq κ]:List (κ×Value)->κ->Option Value
 |[],_=>none
 |x::l,k=>if k=x.1 then some x.2 else Kx l k
def Je {κ:Type} [DecidableEq κ]:List (κ×Value)->κ->Value->List (κ×Value)
 |[],k,v=>[(k,v)]
 |x::l,k,v=>if k=x.1 then (k,v)::l else x::Je l k v
def L5 (es:List (BA×Value)) (s:BA):KC (skv es) (.string s)=Kx es s:=by
 induction es with
 |nil=>rfl
 | cons x l ih=>
   simp only [skv,Xn,KC,Kx,keq,ZgO];rw [show List.map (fun x:BA×Value=>(Value.string x.1,x.2)) l=skv l from rfl,ih]
def Oq (es:List (BA×Value)) (s:BA) (v:Value):RV (skv es) (.string s) v=skv (Je es s v):=by
 induction es with
 |nil=>rfl
 | cons x l ih=>
   simp only [skv,Xn,RV,Je,keq,ZgO];rw [show List.map (fun x:BA×Value=>(Value.string x.1,x.2)) l=skv l from rfl,ih];by_cases h:s=x.1
   . rw [Qd h,Qd h];rfl
   rw [Qc h,Qc h];rfl
def ZmL (es:List (Int×Value)) (s:Int):KC (ikv es) (.int .i64 s)=Kx es s:=by
 induction es with
 |nil=>rfl
 | cons x l ih=>
   simp only [ikv,Xn,KC,Kx,keq];rw [show List.map (fun x:Int×Value=>(Value.int .i64 x.1,x.2)) l=ikv l from rfl,ih];simp
def ZmM (es:List (Int×Value)) (s:Int) (v:Value):RV (ikv es) (.int .i64 s) v=ikv (Je es s v):=by
 induction es with
 |nil=>rfl
 | cons x l ih=>
   simp only [ikv,Xn,RV,Je,keq];rw [show List.map (fun x:Int×Value=>(Value.int .i64 x.1,x.2)) l=ikv l from rfl,ih];by_cases h:s=x.1
   . rw [Qd h,Qd (by simp [h])];rfl
   rw [Qc h,Qc (by simp [h])];rfl
section
variable {P:Program} {ops:Array Oper} {Q:Exit->Act->World->Prop} {md:Region.Mode} {C:World->Prop} {Z:Nat->Bool}
def wpAnyS (P:Program) (md:Region.Mode) (ops:Array Oper) (Q:Exit->Act->World->Prop) (C:World->Prop) (Z:Nat->Bool):Nat->Array Bool->Act->World->Prop
 |0,listed,a,w=>Region.ready md ops listed=[]/\Q .normal a w
 | fuel+1,listed,a,w=>
   (Region.ready md ops listed=[]->Q .normal a w)/\
   ∀i∈Region.ready md ops listed,wpOp P ops (ZbJ Q) i (fun a' w'=>(Z i=true\/C w')/\wpAnyS P md ops Q C Z fuel (listed.setIfInBounds i true) a' w') a w
def ζI:∀(fuel:Nat) (listed:Array Bool) (a:Act) (w:World),wpAnyS P md ops Q C Z fuel listed a w->wpAny P md ops Q fuel listed a w
 |0,_,_,_,h=>h
 |fuel+1,_,_,_,h=>⟨h.1,fun i hi=>ZgF (wpOp_mono (fun a' w' h'=>ζI fuel _ a' w' h'.2) (h.2 i hi))⟩
def Ot (md:Region.Mode) (ops:Array Oper) (Z:Nat->Bool) (i:Nat):Bool:=(List.range ops.size).all fun z=> !Z z||Zd6 md ops z i
def HI {i:Nat} {oi:Oper} {v:Value} (hi:ops[i]? =some oi) (hz:Ot md ops Z i=true)
 (hsel:∀(j:Nat) (o:Oper) cs b,ops[j]? =some o->o.op≠ .select cs b):
 ∀ (fuel:Nat) (listed:Array Bool) (a:Act) (w:World),
  (∀j oj,ops[j]? =some oj->j≠i->listed.getD j true=false->(∀e∈oj.after,Region.binds md e=true->e.on≠i)->oi.apart ops oj=true)->
  i∈Region.ready md ops listed->YieldsC P ops C oi v a->C w->
  wpAnyS P md ops Q C Z fuel (listed.setIfInBounds i true) (a.put oi.dst v) w->wpAnyS P md ops Q C Z (fuel+1) listed a w:=by
 intro fuel
 induction fuel with
 | zero=>
   intro listed a w _ hr hy hC H;refine ⟨fun h=>(by rw [h] at hr;cases hr),fun j hj=>?_⟩;by_cases hji:j=i
   . subst hji;exact YieldsIf.wpOp hi hy.ifS hC ⟨.inr hC,H⟩
   have:=ready_mono hj hji;rw [H.1] at this
   cases this
 | succ fuel ih=>
   intro listed a w hfree hr hy hC H;refine ⟨fun h=>(by rw [h] at hr;cases hr),fun j hj=>?_⟩;by_cases hji:j=i
   . subst hji;exact YieldsIf.wpOp hi hy.ifS hC ⟨.inr hC,H⟩
   have h1:=H.2 j (ready_mono hj hji);obtain ⟨hjun,oj,hoj,hall⟩:=mem_ready.1 hj;have hnot:∀e∈oj.after,Region.binds md e=true->e.on≠i:=fun e he hb heq=>by
    have h1:=hall e he hb;have h0:=(mem_ready.1 hr).1;rw [heq] at h1;rcases XL i listed.size with h'|h'
    . simp [h'] at h0 h1;rw [h0] at h1;cases h1
    simp [VD h'] at h1
   have hjz:Z j=false:=by
    cases hZ:Z j
    . rfl
    exfalso;have hjs:j<ops.size:=by
     rcases XL j ops.size with h'|h'
     . exact h'
     rw [VD h'] at hoj;cases hoj
    have:=Xj.1 hz j (XT.2 hjs);rw [hZ] at this;simp only [Bool.not_true,Un] at this;unfold Zd6 at this;rw [hoj] at this;obtain ⟨e,he,hb⟩:=Array.any_eq_true'.1 this;simp only [Xf,beq_iff_eq] at hb;exact hnot e he hb.1 hb.2
   have h2:=wpOp_putIf hoj (hfree j oj hoj hji hjun hnot) (fun cs b=>hsel i oi cs b hi) (fun cs b=>hsel j oj cs b hoj) (fun c a w h=>h) hy.ifS h1;have hfree':∀k ok,ops[k]? =some ok->k≠i->(listed.setIfInBounds j true).getD k true=false->
    (∀e∈ok.after,Region.binds md e=true->e.on≠i)->oi.apart ops ok=true:=fun k ok hk hki hun hno=>by
    refine hfree k ok hk hki ?_ hno;by_cases hjk:j=k
    . subst hjk;exact hjun
    rw [getD_set_ne true hjk] at hun;exact hun
   refine wpOp_mono (fun a' w' h3=>?_) h2;obtain ⟨hy',hor,hK⟩:=h3;have hC':C w':=by
    rcases hor with h|h
    . rw [hjz] at h;cases h
    exact h
   refine ⟨.inr hC',ih (listed.setIfInBounds j true) a' w' hfree' (ready_mono hr (Ne.symm hji)) hy' hC' ?_⟩;rw [Array.setIfInBounds_comm _ _ hji];exact hK
end
def J7 (K:List Nat):List (Nat×Ent)->List (Nat×Ent)
 |[]=>[]
 |(k,x)::l=>cond (K.elem k) ((k,x)::J7 K l) (J7 K l)
def L6 (K:List Nat):List (Nat×Ent)->List (Nat×Ent)
 |[]=>[]
 |(k,x)::l=>cond (K.elem k) (L6 K l) ((k,x)::L6 K l)
def RY {K:List Nat} {t:Nat}:∀{l:List (Nat×Ent)} {x:Ent},lk (J7 K l) t=some x↔K.elem t=true/\lk l t=some x
 |[],x=>by simp [J7,lk]
 | (k, y)::l,x=>by
   unfold J7
   cases hk:K.elem k
   . simp only [cond_false,lk];rw [RY]
     cases hb:Nat.beq k t
     . simp
     have:k=t:=X0 hb;subst this;rw [hk];simp
   simp only [cond_true,lk]
   cases hb:Nat.beq k t
   . simp only [cond_false];exact RY
   have:k=t:=X0 hb;subst this;rw [hk];simp
def GN {K:List Nat} {t:Nat}:∀{l:List (Nat×Ent)} {x:Ent},lk (L6 K l) t=some x↔K.elem t=false/\lk l t=some x
 |[],x=>by simp [L6,lk]
 | (k, y)::l,x=>by
   unfold L6
   cases hk:K.elem k
   . simp only [cond_false,lk]
     cases hb:Nat.beq k t
     . simp only [cond_false];exact GN
     have:k=t:=X0 hb;subst this;rw [hk];simp
   simp only [cond_true,lk];rw [GN]
   cases hb:Nat.beq k t
   . simp
   have:k=t:=X0 hb;subst this;rw [hk];simp
def Zkc {l m:List (Nat×Ent)} {t:Nat}:lk (l++m) t=match lk l t with|some x=>some x|none=>lk m t:=by
 induction l with
 |nil=>rfl
 | cons y l ih=>
   obtain ⟨k,y⟩:=y;simp only [Vh,lk]
   cases Nat.beq k t
   . simp only [cond_false];exact ih
   rfl
def nK (K:List Nat) (h:List (Nat×Ent)) (F:Nat->BS):BS:=fun b=>∃l x,K.elem l=false/\lk h l=some x/\F l b
def aD (P:Program) (c:Ctx) (ops:Array Oper) (Q:Exit->Act->World->Prop) (Z:Nat->Bool) (K:List Nat) (fuel:Nat) (listed:Array Bool) (st:St):Prop:=
 ∀a w F,HoldsF c st F a w->∀C:World->Prop,(∀W,Chg (nK K st.heap F) w W->C W)->wpAnyS P .any ops Q C Z fuel listed a w
section
variable {P:Program} {c:Ctx} {ops:Array Oper} {Q:Exit->Act->World->Prop} {Z:Nat->Bool} {K:List Nat} {fuel:Nat} {listed:Array Bool} {sL hP:List (Nat×Ent)} {o:Oper}
def Sf {C C':World->Prop} (h:∀w,C' w->C w):∀(fuel:Nat) (listed:Array Bool) (a:Act) (w:World),wpAnyS P .any ops Q C' Z fuel listed a w->wpAnyS P .any ops Q C Z fuel listed a w
 |0,_,_,_,H=>H
 |fuel+1,_,_,_,H=>⟨H.1,fun i hi=>wpOp_mono (fun a' w' h'=>⟨h'.1.imp id (h w'),Sf h fuel _ a' w' h'.2⟩) (H.2 i hi)⟩
def ZpK {id:Nat} {l:List Oper} (Z:Nat->Bool) (K:List Nat) (hm:P.follows .mixedOrders=true) (h:aD P c l.toArray Q Z K l.length (Array.replicate l.length false) (⟨sL,hP⟩:St)):aC P c (.region id l.toArray true) Q (⟨sL,hP⟩:St):=fun a w ⟨F,H⟩=>by
 refine wp_region_any hm (ζI (C:=fun _=>True) (Z:=Z) _ _ _ _ ?_)
 have:=h a w.drew F (H.up (Ext.drew w)) (fun _=>True) (fun _ _=>trivial)
 simpa using this
def Zr1 (hr:Region.ready .any ops listed=[]) (h:aN c Q (⟨sL,hP⟩:St)):aD P c ops Q Z K fuel listed (⟨sL,hP⟩:St):=fun a w F H C hC=>by
 cases fuel with
 |zero=>exact ⟨hr,h a w ⟨F,H⟩⟩
 |succ n=>exact ⟨fun _=>h a w ⟨F,H⟩,fun i hi=>by rw [hr] at hi;cases hi⟩
def HoldsF.rdK {F:Nat->BS} {a:Act} {w:World} (H:HoldsF c (⟨sL,hP⟩:St) F a w) (K:List Nat):RdF (mof c hP F) ⟨sL,J7 K hP⟩ F a w:=⟨fun l v p h=>H.tr l v p (RY.1 h).2,H.sl⟩
def Zei {V:Value->Prop} {p:PV} (i d:Nat) (ho:ops[i]? =some o) (hck:(Region.noSelect ops&&(Region.ready .any ops listed).contains i&&Region.free .any ops listed i&&Ot .any ops Z i)=true) (hw:Yb ops sL o=some true) (hd:o.dst=some d) (hn:d<c.nt) (hy:YE P ⟨sL,J7 K hP⟩ o V p)
 (k:∀v,V v->aD P c ops Q Z K fuel (listed.setIfInBounds i true) ⟨put d (v,p) sL,hP⟩):aD P c ops Q Z K (fuel+1) listed (⟨sL,hP⟩:St):=fun a w F H C hC=>by
 simp only [Xf] at hck
 obtain ⟨⟨⟨hs,hr⟩,hf⟩,hz⟩:=hck
 obtain ⟨v,hV,hS,hrun⟩:=hy _ F a w (H.rdK K)
 refine Sf hC _ _ _ _ ?_
 refine HI ho hz (Region.noSelect_spec hs) _ listed a w (Region.free_spec ho hf) (by simpa using hr) (v:=v) (.inl ⟨LA H.rd hw,fun W hW=>?_⟩) (Chg.rfl' _ _) ?_
 . exact hrun _ W hW (fun b ⟨l,x,_,h1,h2⟩=> .inr ⟨l,x,h1,h2⟩) (fun l x b hl hFb ⟨l',x',h1,h2,h3⟩=>by
    obtain ⟨h4,h5⟩:=RY.1 hl;exact H.dj l l' _ _ b (fun e=>by rw [e,h1] at h4;cases h4) h5 h2 hFb h3)
 rw [hd];exact k v hV _ w F (H.put hn hS) _ (fun W h=>h)
def Ztz {v:Value} {p:PV} (i d:Nat) (ho:ops[i]? =some o) (hck:(Region.noSelect ops&&(Region.ready .any ops listed).contains i&&Region.free .any ops listed i&&Ot .any ops Z i)=true) (hw:Yb ops sL o=some true) (hd:o.dst=some d) (hn:d<c.nt) (hy:YE P ⟨sL,J7 K hP⟩ o (· =v) p)
 (k:aD P c ops Q Z K fuel (listed.setIfInBounds i true) ⟨put d (v,p) sL,hP⟩):aD P c ops Q Z K (fuel+1) listed (⟨sL,hP⟩:St):=Zei i d ho hck hw hd hn hy fun u hu=>by cases hu;exact k
def Zrx {V:Value->Prop} {p:PV} (i d:Nat) (ho:ops[i]? =some o) (hr:Region.ready .any ops listed=[i]) (hw:Yb ops sL o=some true) (hd:o.dst=some d) (hn:d<c.nt) (hy:YE P (⟨sL,hP⟩:St) o V p)
 (k:∀v,V v->aD P c ops Q Z K fuel (listed.setIfInBounds i true) ⟨put d (v,p) sL,hP⟩):aD P c ops Q Z K (fuel+1) listed (⟨sL,hP⟩:St):=fun a w F H C hC=>by
 obtain ⟨v,hV,hS,hrun⟩:=hy _ F a w H.rd
 have h1:YieldsC P ops (fun W=>W=w) o v a:= .inl ⟨LA H.rd hw,fun W hW=>by
  subst hW;exact hrun (fun _=>False) W (Chg.rfl' _ _) (fun _ h=>h.elim) (fun _ _ _ _ _ h=>h)⟩
 refine ⟨fun hn=>(by rw [hr] at hn;cases hn),fun j hj=>?_⟩
 rw [hr] at hj
 obtain rfl:j=i:=by simpa using hj
 refine YieldsIf.wpOp ho h1.ifS rfl ⟨.inr (hC w (Chg.rfl' _ _)),?_⟩
 rw [hd]
 exact k v hV _ w F (H.put hn hS) C hC
def Zs7 {v:Value} {p:PV} (i d:Nat) (ho:ops[i]? =some o) (hr:Region.ready .any ops listed=[i]) (hw:Yb ops sL o=some true) (hd:o.dst=some d) (hn:d<c.nt) (hy:YE P (⟨sL,hP⟩:St) o (· =v) p)
 (k:aD P c ops Q Z K fuel (listed.setIfInBounds i true) ⟨put d (v,p) sL,hP⟩):aD P c ops Q Z K (fuel+1) listed (⟨sL,hP⟩:St):=Zrx i d ho hr hw hd hn hy fun u hu=>by cases hu;exact k
def ZpL (i d:Nat) (ho:ops[i]? =some o) (hck:(Region.noSelect ops&&(Region.ready .any ops listed).contains i&&Region.free .any ops listed i&&Ot .any ops Z i)=true) (hw:Yb ops sL o=some false) (hd:o.dst=some d) (hn:d<c.nt)
 (k:aD P c ops Q Z K fuel (listed.setIfInBounds i true) ⟨put d (undef, .val undef) sL,hP⟩):aD P c ops Q Z K (fuel+1) listed (⟨sL,hP⟩:St):=fun a w F H C hC=>by
 simp only [Xf] at hck
 obtain ⟨⟨⟨hs,hr⟩,hf⟩,hz⟩:=hck
 refine Sf hC _ _ _ _ ?_
 refine HI ho hz (Region.noSelect_spec hs) _ listed a w (Region.free_spec ho hf) (by simpa using hr) (v:=undef) (.inr ⟨LA H.rd hw,rfl⟩) (Chg.rfl' _ _) ?_
 rw [hd]
 exact k _ w F (H.put hn (.val _)) _ (fun W h=>h)
def Zej (t:Nat) {b:Bool} {q:PV} (hx:lk sL t=some (.bool b,q)) (ht:b=true->aD P c ops Q Z K fuel listed ⟨put t (.bool true, .val (.bool true)) sL,hP⟩) (hf:b=false->aD P c ops Q Z K fuel listed ⟨put t (.bool false, .val (.bool false)) sL,hP⟩):aD P c ops Q Z K fuel listed (⟨sL,hP⟩:St):=fun a w F H C hC=>by
 have key:HoldsF c ⟨put t (.bool b, .val (.bool b)) sL,hP⟩ F a w:=⟨H.toHeapF,fun s u r hs=>by
  rcases YC hs with ⟨rfl,e⟩|⟨_,e⟩
  . cases e;exact ⟨(H.sl _ _ _ hx).1, .val _⟩
  . exact H.sl s u r e,H.size,H.df⟩
 cases b
 . exact hf rfl a w F key C hC
 exact ht rfl a w F key C hC
def HoldsF.frame {F:Nat->BS} {a:Act} {w:World} (H:HoldsF c (⟨sL,hP⟩:St) F a w) (K:List Nat):
 HoldsF ⟨w,fun b=>c.M0 b\/∃l x,K.elem l=true/\lk hP l=some x/\F l b,nK K hP F,c.nt,c.dr,c.df⟩ ⟨sL,L6 K hP⟩ F a w:=by
 have hm:∀b,mof ⟨w,fun b=>c.M0 b\/∃l x,K.elem l=true/\lk hP l=some x/\F l b,nK K hP F,c.nt,c.dr,c.df⟩ (L6 K hP) F b->mof c hP F b:=by
  rintro b ((h|⟨l,x,_,h1,h2⟩)|⟨l,x,h1,h2⟩)
  . exact .inl h
  . exact .inr ⟨l,x,h1,h2⟩
  exact .inr ⟨l,x,(GN.1 h1).2,h2⟩
 refine ⟨⟨fun l v p h=>(H.tr l v p (GN.1 h).2).anti fun b _=>hm b,fun l x b h hb=> .inr ⟨l,x,(GN.1 h).1,(GN.1 h).2,hb⟩,fun l l' x x' b hne h h'=>H.dj l l' x x' b hne (GN.1 h).2 (GN.1 h').2,?_,Chg.rfl' _ _,fun _=>Xd _⟩,fun t v p h=>⟨(H.sl t v p h).1,(H.sl t v p h).2.anti fun b _=>hm b⟩,H.size,H.df⟩
 refine ⟨?_,fun hn g hg=>?_,fun hn g hg=>?_⟩
 rotate_left
 . obtain ⟨h1,h2,_⟩:=H.mok.tb hn g hg;refine ⟨h1,?_,?_⟩
   . rintro (h|⟨l,x,_,h3,h4⟩)
     . exact h2 (.inl h)
     exact h2 (.inr ⟨l,x,h3,h4⟩)
   rintro ⟨l,x,_,h3,h4⟩;exact h2 (.inr ⟨l,x,h3,h4⟩)
 . obtain ⟨h1,h2,_⟩:=H.mok.er hn g hg;refine ⟨h1,?_,?_⟩
   . rintro (h|⟨l,x,_,h3,h4⟩)
     . exact h2 (.inl h)
     exact h2 (.inr ⟨l,x,h3,h4⟩)
   rintro ⟨l,x,_,h3,h4⟩;exact h2 (.inr ⟨l,x,h3,h4⟩)
 rintro b (h|⟨l,x,hK,h1,h2⟩)
 . exact ⟨Nat.lt_of_lt_of_le (H.m0.m b h).1 H.ext.size,fun ⟨l,x,_,h1,h2⟩=>H.apart h h1 h2⟩
 exact ⟨(H.tr l _ _ h1).lt b h2,fun ⟨l',x',hK',h3,h4⟩=>H.dj l l' _ _ b (fun e=>by rw [e,hK'] at hK;cases hK) h1 h3 h2 h4⟩
def HoldsF.unframe {F F':Nat->BS} {a a':Act} {w w':World} {st':St} (H:HoldsF c (⟨sL,hP⟩:St) F a w)
 (H':HoldsF ⟨w,fun b=>c.M0 b\/∃l x,K.elem l=true/\lk hP l=some x/\F l b,nK K hP F,c.nt,c.dr,c.df⟩ st' F' a' w'):
 HoldsF c ⟨st'.slots,st'.heap++J7 K hP⟩ (fun l=>match lk st'.heap l with|some _=>F' l|none=>F l) a' w'/\Chg (nK K hP F) w w'/\
  (∀b,nK K (st'.heap++J7 K hP) (fun l=>match lk st'.heap l with|some _=>F' l|none=>F l) b->nK K hP F b\/w.heap.size<=b):=by
 have hlook:∀l x,lk (st'.heap++J7 K hP) l=some x->(lk st'.heap l=some x)\/(lk st'.heap l=none/\K.elem l=true/\lk hP l=some x):=fun l x h=>by
  rw [Zkc] at h
  cases h1:lk st'.heap l with
  |some y=>rw [h1] at h;cases h;exact .inl rfl
  |none=>rw [h1] at h;exact .inr ⟨rfl,RY.1 h⟩
 have hmm:∀b,mof c (st'.heap++J7 K hP) (fun l=>match lk st'.heap l with|some _=>F' l|none=>F l) b->mof ⟨w,fun b=>c.M0 b\/∃l x,K.elem l=true/\lk hP l=some x/\F l b,nK K hP F,c.nt,c.dr,c.df⟩ st'.heap F' b:=by
  rintro b (h|⟨l,x,h1,h2⟩)
  . exact .inl (.inl h)
  rcases hlook l x h1 with h3|⟨h3,h4,h5⟩
  . simp only [h3] at h2;exact .inr ⟨l,x,h3,h2⟩
  simp only [h3] at h2;exact .inl (.inr ⟨l,x,h4,h5,h2⟩)
 have hch:Chg (nK K hP F) w w':=H'.ext
 have hKN:∀l x b,K.elem l=true->lk hP l=some x->F l b->¬nK K hP F b:=fun l x b hK hl hb ⟨l',x',hK',h3,h4⟩=>H.dj l l' _ _ b (fun e=>by rw [e,hK'] at hK;cases hK) hl h3 hb h4
 have hapart:∀l x l' x' b,K.elem l=true->lk hP l=some x->F l b->lk st'.heap l'=some x'->¬F' l' b:=fun l x l' x' b hK hl hb hl' hb'=>by
  exact H'.apart (.inr ⟨l,x,hK,hl,hb⟩) hl' hb'
 refine ⟨⟨⟨fun l v p h=>?_,fun l x b h hb=>?_,fun l l' x x' b hne h h' hb hb'=>?_,H.m0,?_,fun h=>XI (H.dw h) (H'.dw h)⟩,fun t v p h=>⟨(H'.sl t v p h).1,(H'.sl t v p h).2.anti fun b _=>hmm b⟩,H'.size,H'.df⟩,hch,?_⟩
 . rcases hlook l _ h with h1|⟨h1,h2,h3⟩
   . simp only [h1];exact (H'.tr l v p h1).anti fun b _=>hmm b
   simp only [h1];refine (H.tr l v p h3).to hch (fun b hlt hb=>?_) (fun b _ ⟨l',x',_,h4,h5⟩=> .inr ⟨l',x',h4,h5⟩) (fun b hb=>hKN l _ b h2 h3 hb);rcases hmm b hb with (h|⟨l',x',_,h4,h5⟩)|⟨l',x',h4,h5⟩
   . exact .inl h
   . exact .inr ⟨l',x',h4,h5⟩
   rcases H'.lo l' x' b h4 h5 with h6|⟨l2,x2,_,h7,h8⟩
   . exact Qe hlt (by simp only at h6;omega)
   exact .inr ⟨l2,x2,h7,h8⟩
 . rcases hlook l _ h with h1|⟨h1,h2,h3⟩
   . simp only [h1] at hb;rcases H'.lo l x b h1 hb with h4|⟨l2,x2,_,h7,h8⟩
     . exact .inl (XI H.ext.size h4)
     exact H.lo l2 x2 b h7 h8
   simp only [h1] at hb;exact H.lo l x b h3 hb
 . rcases hlook l _ h with h1|⟨h1,h2,h3⟩
   . rcases hlook l' _ h' with k1|⟨k1,k2,k3⟩
     . simp only [h1] at hb;simp only [k1] at hb';exact H'.dj l l' x x' b hne h1 k1 hb hb'
     simp only [h1] at hb;simp only [k1] at hb';exact hapart l' _ l _ b k2 k3 hb' h1 hb
   rcases hlook l' _ h' with k1|⟨k1,k2,k3⟩
   . simp only [h1] at hb;simp only [k1] at hb';exact hapart l _ l' _ b h2 h3 hb k1 hb'
   simp only [h1] at hb;simp only [k1] at hb';exact H.dj l l' x x' b hne h3 k3 hb hb'
 . exact H.ext.tr hch fun b ⟨l,x,_,h1,h2⟩=>(H.lo l x b h1 h2).symm
 rintro b ⟨l,x,hK,h1,h2⟩;rcases hlook l _ h1 with h3|⟨h3,h4,h5⟩
 . simp only [h3] at h2;rcases H'.lo l x b h3 h2 with h4|h4
   . exact .inr h4
   exact .inl h4
 rw [hK] at h4;cases h4
def aW (P:Program) (c:Ctx) (ops:Array Oper) (Q:Exit->Act->World->Prop) (Z:Nat->Bool) (K:List Nat) (fuel:Nat) (listed:Array Bool) (st:St) (i:Nat):Prop:=
 ∀a w F,HoldsF c st F a w->∀C:World->Prop,(∀W,Chg (nK K st.heap F) w W->C W)->wpOp P ops (ZbJ Q) i (fun a' w'=>(Z i=true\/C w')/\wpAnyS P .any ops Q C Z fuel (listed.setIfInBounds i true) a' w') a w
def ZY (i:Nat) (hr:Region.ready .any ops listed=[i]) (h:aW P c ops Q Z K fuel listed (⟨sL,hP⟩:St) i):aD P c ops Q Z K (fuel+1) listed (⟨sL,hP⟩:St):=fun a w F H C hC=>
 ⟨(fun hn=>by rw [hr] at hn;cases hn),fun j hj=>by
   rw [hr] at hj;obtain rfl:j=i:=by simpa using hj
   exact h a w F H C hC⟩
def WJ (i j:Nat) (hr:Region.ready .any ops listed=[i,j]) (h:aW P c ops Q Z K fuel listed (⟨sL,hP⟩:St) i) (h':aW P c ops Q Z K fuel listed (⟨sL,hP⟩:St) j):aD P c ops Q Z K (fuel+1) listed (⟨sL,hP⟩:St):=fun a w F H C hC=>
 ⟨(fun hn=>by rw [hr] at hn;cases hn),fun m hm=>by
   rw [hr] at hm;rcases (by simpa using hm:m=i\/m=j) with rfl|rfl
   . exact h a w F H C hC
   . exact h' a w F H C hC⟩
def ZmN {i:Nat} (ho:ops[i]? =some o)
 (h:∀(w':World) (M' N':BS) (DQ:Exit->Act->World->Prop),(∀st':St,aD P c ops Q Z K fuel (listed.setIfInBounds i true) ⟨st'.slots,st'.heap++J7 K hP⟩->aN ⟨w',M',N',c.nt,c.dr,c.df⟩ DQ st')->aL P ⟨w',M',N',c.nt,c.dr,c.df⟩ ops DQ [o] ⟨sL,L6 K hP⟩):aW P c ops Q Z K fuel listed (⟨sL,hP⟩:St) i:=fun a w F H C hC=>by
 refine GL (Q':=fun _ a' w'=>(Z i=true\/C w')/\wpAnyS P .any ops Q C Z fuel (listed.setIfInBounds i true) a' w') ho (fun a' w' hq=>hq) ?_
 refine h w _ _ _ (fun st' hD a' w' ⟨F',H'⟩=>?_) a w ⟨F,H.frame K⟩
 obtain ⟨H2,hch,hnk⟩:=H.unframe H'
 refine ⟨.inr (hC w' hch),hD a' w' _ H2 C fun W hW=>hC W (hch.tr hW hnk)⟩
def Wx {i:Nat} (ho:ops[i]? =some o) (hZ:Z i=true) (hr:Region.ready .any ops (listed.setIfInBounds i true)=[]) (h:∀DQ:Exit->Act->World->Prop,(∀st':St,aN c Q st'->aN c DQ st')->aL P c ops DQ [o] (⟨sL,hP⟩:St)):aW P c ops Q Z K fuel listed (⟨sL,hP⟩:St) i:=fun a w F H C hC=>by
 refine GL (Q':=fun _ a' w'=>(Z i=true\/C w')/\wpAnyS P .any ops Q C Z fuel (listed.setIfInBounds i true) a' w') ho (fun a' w' hq=>hq) ?_
 refine h _ (fun st' hN a' w' H'=>⟨.inl hZ,?_⟩) a w ⟨F,H⟩
 cases fuel with
 |zero=>exact ⟨hr,hN a' w' H'⟩
 |succ n=>exact ⟨fun _=>hN a' w' H',fun i hi=>by rw [hr] at hi;cases hi⟩
end
def ZK {l:Nat} {x:Ent} (l':Nat) (hl:lk hP l=some x) (hl':lk (del l hP) l'=none):Tn (⟨sL,hP⟩:St) (fun _:Unit=>⟨sL,put l' x (del l hP)⟩):=fun c a w ⟨F,H⟩=>by
 refine ⟨(),fun t=>if t=l' then F l else F t,?_⟩
 obtain ⟨v,p⟩:=x
 have aux:∀t y,(t=l\/t=l')->lk (put l' (v,p) (del l hP)) t=some y->t=l'/\y=(v,p):=fun t y ht hy=>by
  rcases YC hy with ⟨e1,e2⟩|⟨n1,e2⟩
  . exact ⟨e1.symm,e2.symm⟩
  rcases ht with h|h
  . exact Qe h.symm (Wt e2).1
  exact Qe h.symm n1
 refine H.retell (fun t=>t=l\/t=l') (fun t y hnT hy=>?_) (fun t y b hT hy hb=>?_) (fun hm t u q hT hy=>?_) (fun t1 t2 y1 y2 b h1 h2 hne hy1 hy2=>Qe ((aux t1 y1 h1 hy1).1.trans (aux t2 y2 h2 hy2).1.symm) hne)
 . have n2:t≠l':=fun e=>hnT (.inr e);rw [Yy (Ne.symm n2)] at hy;exact ⟨(Wt hy).2,by simp [n2]⟩
 . obtain ⟨rfl,_⟩:=aux t y hT hy;simp only [if_true] at hb;exact ⟨l,_, .inl rfl,hl,hb⟩
 obtain ⟨rfl,e⟩:=aux t _ hT hy
 cases e;simp only [if_true];exact (H.tr l v p hl).anti hm
def Zin (p p':PV):Prop:=p'=p\/(p= .val (.slice none 0 0)/\∃e k,p'= .own e k 0 [])
def TQ {l e k n:Nat} {h:Value} {cs:List PV} (cs':List PV) (hl:lk hP l=some (h, .own e k n cs)) (hlen:cs'.length=cs.length) (hc:∀(i:Nat) (p p':PV),cs[i]? =some p->cs'[i]? =some p'->Zin p p'):Tn (⟨sL,hP⟩:St) (fun _:Unit=>⟨sL,put l (h, .own e k n cs') hP⟩):=fun c a w ⟨F,H⟩=>by
 refine ⟨(),F,?_⟩
 have hTr:=H.tr l _ _ hl
 obtain ⟨xs,Fs,hrow,hxl,hT,hd,hb,hF⟩:=hTr.row
 refine H.retell (fun t=>t=l) (fun t y hnT hy=>?_) (fun t y b hT' hy hb'=>?_) (fun hm t u q hT' hy=>?_) (fun t1 t2 _ _ _ h1 h2 hne=>Qe (h1.trans h2.symm) hne)
 . have n2:t≠l:=hnT;rw [Yy (Ne.symm n2)] at hy;exact ⟨hy,rfl⟩
 . subst hT';exact ⟨t,_,rfl,hl,hb'⟩
 subst hT';rw [Z3] at hy
 cases hy;refine .own xs Fs hrow oM (fun i x p' hx hp'=>?_) (fun i j b hi hj=>hd i j b oM oM) (fun i b hi=>hb i b oM) (fun b=>by rw [hF b,hlen]);obtain ⟨p,hp⟩:=Wc hp' hlen;have hTi:=(hT i x p hx hp).anti hm;rcases hc i p p' hp hp' with rfl|⟨rfl,e',k',rfl⟩
 . exact hTi
 have hFi:∀b,¬Fs i b:=by
  cases hTi with
  |shr _ hF=>exact hF
 have hx0:x= .slice none 0 0:=(hTi.sh rfl).vOf;subst hx0;exact .own [] (fun _ _=>False) (World.ownsRow_nil _ _ _ _) rfl sM sM sM (fun b=>by simp [Value.ownBlock];exact hFi b)
def Da (X:List PV) (a:PV) (e k:Nat):∀(i:Nat) (p p':PV),(X++[a, .val (.slice none 0 0)])[i]? =some p->(X++[a, .own e k 0 []])[i]? =some p'->Zin p p':=fun i p p' h1 h2=>by
 rcases XL i X.length with hi|hi
 . rw [Vo hi] at h1 h2;rw [h1] at h2;cases h2;exact .inl rfl
 rw [Vp hi] at h1 h2;match h:i-X.length,h1,h2 with
 |0,h1,h2=>simp at h1 h2;exact .inl (h2.symm.trans h1)
 |1,h1,h2=>simp at h1 h2;exact .inr ⟨h1.symm,e,k,h2.symm⟩
 |j+2,h1,h2=>simp at h1
def ζJ (zs:List Value) (hz:0<zs.length) (n:Nat):(madeCells zs.toArray (n*zs.length)).toList=(List.replicate n zs).flatten:=by
 apply VT
 intro j
 have hl:(List.replicate n zs).flatten.length=n*zs.length:=sM
 by_cases hj:j<n*zs.length
 . have hmod:j % zs.length<zs.length:=V0 _ hz;have hdiv:j / zs.length<n:=by rw [UR hz];exact hj
   have h1:(madeCells zs.toArray (n*zs.length)).toList[j]? =some (zs[j % zs.length]'hmod):=by
    simp [madeCells,hj,hmod]
   rw [h1];have h2:=Yr (f:=fun _:Nat=>zs) (k:=zs.length) (fun _=>rfl) (l:=List.range n) (i:=j / zs.length) (x:=j / zs.length) (by simp [hdiv]) (j:=j % zs.length) hmod;rw [show j / zs.length*zs.length+j % zs.length=j from by rw [VH];exact Uo _ _] at h2;rw [show (List.replicate n zs).flatten=(List.range n).flatMap (fun _=>zs) by
    rw [List.flatMap_def,List.map_const',VP],h2]
   simp [hmod]
 rw [X' (by simp [madeCells];omega),X' oM]
def ZmO {t e kk bytes:Nat} {z:Value} {x y:Operand} {n:Nat} {q q':PV} (zs:List Value) (d:Nat) (hT:ElT P t e kk bytes z) (hzs:z.cells=zs.toArray) (hw:Yb ops sL o=some true) (hd:o.dst=some d) (hn:d<c.nt) (ho:o.op= .makeSlice t x y) (hx:ev sL x=some (.int .i64 n,q)) (hy:ev sL y=some (.int .i64 n,q')) (hl:lk hP d=none)
 (hb:bytes*n<=281474976710656) (hn2:n<=9223372036854775807)
 (k:∀h:Value,h.oneCell'=true->aL P c ops Q rest ⟨put d (h, .val h) sL,put d (h, .own e kk n ((List.replicate n (zs.map PV.val)).flatten)) hP⟩):aL P c ops Q (o::rest) (⟨sL,hP⟩:St):=
 W1 hw fun a w F H=>by
  obtain ⟨i,hi1,hi2,hi3,hi4⟩:=hT.info;have hzl:zs.length=kk:=by have:=hT.hz;rw [hzs] at this;simpa using this
  have hk0:=hT.hk;have hbn:((i.bytes:Nat):Int)*(n:Int)<=281474976710656:=by rw [hi4,<-Int.natCast_mul];omega
  have hr:=run_make (P:=P) w t e i z hT.ht hi1 hi2 .i64 .i64 (n:Int) (n:Int) oM oM hbn oM;rw [hi3,hzs,XH] at hr;have hmc:=ζJ zs oM n;rw [hzl] at hmc;obtain ⟨F',H'⟩:=K0 (e:=e) (k:=kk) (n:=n) (cap:=n) (cur:=madeCells zs.toArray (n*kk)) (v:= .slice (some ⟨w.heap.size,0,none⟩) n n) H hl hn (vs:=(List.replicate n zs).flatten) (ps:=(List.replicate n (zs.map PV.val)).flatten) sM (fun j u p hu hp=>by
   have:(List.replicate n (zs.map PV.val)).flatten=((List.replicate n zs).flatten).map PV.val:=by simp [List.map_flatten]
   rw [this,Xl,hu] at hp;simp at hp;subst hp;exact .val _) (by simp [hzl]) (Xd _) (by unfold maxLen;omega) (by rw [size_madeCells]) (by rw [hmc];exact Xs (by simp [hzl]))
  unfold Oper.wp execOp;simp only [ho,(H.rd.ev hx).1,(H.rd.ev hy).1,Sem.run_bind,hr,Result.andThen_ok];simp only [Sem.run_pure,Oper.upon,hd];exact k _ rfl _ _ ⟨F',H'⟩
def ZbR {l e k:Nat} {h:Value} {p q:PV} (hl:lk hP l=some (h, .own e k 1 [p])) (hq:share p=q):Om (⟨sL,hP⟩:St) (padd (sbase h) 0) (.sptr 0 [q]):=by
 have:=ZbN (sL:=sL) (j:=0) hl Vi
 simpa [Wi,hq] using this
def Zkd {f l1 e1 k1 l2 e2 k2:Nat} {h1 h2:Value} {p1 q1 p2 q2:PV} (hl1:lk hP l1=some (h1, .own e1 k1 1 [p1])) (hq1:share p1=q1) (hl2:lk hP l2=some (h2, .own e2 k2 1 [p2])) (hq2:share p2=q2):
 Om (⟨sL,hP⟩:St) (.func (.func f) #[] [padd (sbase h1) 0,padd (sbase h2) 0].toArray) (.fn f [.sptr 0 [q1], .sptr 0 [q2]]):=
 Zmz rfl fun i v p hv hp=>by
  match i with
  |0=>simp at hv hp;subst hv hp;exact ZbR hl1 hq1
  |1=>simp at hv hp;subst hv hp;exact ZbR hl2 hq2
  |i+2=>simp at hv
def Ja {ι:Type} {x y:Code} (S:ι->St) (h:aC P c x (Exit.then (fun a w=>∃i,Holds c (S i) a w) Q) (⟨sL,hP⟩:St)) (k:∀i,aC P c y Q (S i)):aC P c x (Exit.then (y.wp P Q) Q) (⟨sL,hP⟩:St):=fun a w H=>
 wp_mono (h a w H) fun e a' w' hq=>by
  cases e with
  |normal=>obtain ⟨i,hi⟩:=hq;exact k i a' w' hi
  |_=>exact hq
def L8 {t j e kk n:Nat} {x y:Operand} {h v:Value} {q p:PV} {cs:List PV} (l i:Nat) (hw:Yb ops sL o=some true) (hd:o.dst=none) (hT:NoAgg P t=true) (hsz:(P.info? t).map (·.size)=some 1) (ho:o.op= .store t x y)
 (hx:ev sL x=some (padd (sbase h) j,q)) (hy:ev sL y=some (v,p)) (h1:one p=true) (hl:lk hP l=some (h, .own e kk n cs)) (hji:j=i) (hj:i<cs.length)
 (k:aL P c ops Q rest ⟨sL,put l (h, .own e kk n (cs.set i p)) hP⟩):aL P c ops Q (o::rest) (⟨sL,hP⟩:St):=by
 subst hji
 exact ZgI l hw hd hT hsz ho hx hy h1 hl hj k
def T6 {l l' j e k n:Nat} {h:Value} {cs:List PV} {p:PV} (hl:lk hP l=some (h, .own e k n cs)) (hp:cs[j]? =some p) (hl':lk hP l'=none) (hok:Tm p=true):
 Tn (⟨sL,hP⟩:St) (fun v:{v:Value//v.oneCell'=true}=>⟨sL,put l' (v.1,p) (put l (h, .own e k n (cs.set j (.val v.1))) hP)⟩):=fun c a w H=>by
 obtain ⟨v,F,H'⟩:=focus hl hp hl' c a w H
 exact ⟨⟨v,(H'.tr l' v p (Z3 _ _ _)).cellOne hok⟩,F,H'⟩
def nav {A B:Prop} (h:B) (e:B->A:=by intro h;(repeat (first|with_reducible refine ζB ?_|with_reducible refine Og ?_|with_reducible refine Hw ?_|with_reducible refine Oh ?_|with_reducible refine Hu ?_|with_reducible refine Hv ?_|with_reducible refine Hx ?_|with_reducible refine Oi ?_|with_reducible refine Oj rfl ?_|with_reducible refine ζC ?_|with_reducible refine Hy ?_|with_reducible refine Ol ?_));exact h):A:=e h
def Zi {A B:Prop} (h:B) (e:B->A:=by intro h;(repeat (first|with_reducible refine ζB ?_|with_reducible refine Og ?_|with_reducible refine Hw ?_|with_reducible refine Oh ?_|with_reducible refine Hu ?_|with_reducible refine Hv ?_|with_reducible refine Hx ?_|with_reducible refine Oi ?_|with_reducible refine Oj rfl ?_|with_reducible refine ζC ?_|with_reducible refine Hy ?_|with_reducible refine Ol ?_));refine Zp ?_;exact h):A:=e h
def YT {A B:Prop} (h:B) (e:B->A:=by intro h;refine WC ?_;(repeat (first|with_reducible refine ζB ?_|with_reducible refine Og ?_|with_reducible refine Hw ?_|with_reducible refine Oh ?_|with_reducible refine Hu ?_|with_reducible refine Hv ?_|with_reducible refine Hx ?_|with_reducible refine Oi ?_|with_reducible refine Oj rfl ?_|with_reducible refine ζC ?_|with_reducible refine Hy ?_|with_reducible refine Ol ?_));(try dsimp only);refine Zp ?_;exact h):A:=e h
def ZZ {A B:Prop} (h:B) (e:B->A:=by intro h;refine WC ?_;(repeat (first|with_reducible refine ζB ?_|with_reducible refine Og ?_|with_reducible refine Hw ?_|with_reducible refine Oh ?_|with_reducible refine Hu ?_|with_reducible refine Hv ?_|with_reducible refine Hx ?_|with_reducible refine Oi ?_|with_reducible refine Oj rfl ?_|with_reducible refine ζC ?_|with_reducible refine Hy ?_|with_reducible refine Ol ?_));(try dsimp only);exact h):A:=e h
section
variable {P:Program} {c:Ctx} {ops:Array Oper} {Q:Exit->Act->World->Prop} {rest:List Oper} {st:St} {sL hP:List (Nat×Ent)} {o:Oper} {x y:Operand} {t t':TypeId} {q q':PV} {Z:Nat->Bool} {K:List Nat} {fuel:Nat} {listed:Array Bool}
def xL {v:Value} {p:PV} (d:Nat) (hy:YE P (⟨sL,hP⟩:St) o (· =v) p) (k:aL P c ops Q rest ⟨put d (v,p) sL,hP⟩) (hw:Yb ops sL o=some true:=by exact rfl) (hd:o.dst=some d:=by exact rfl) (hn:d<c.nt:=by exact Xa rfl):aL P c ops Q (o::rest) (⟨sL,hP⟩:St):=
 Ztx d hw hd hn hy k
def yL {V:Value->Prop} {p:PV} (d:Nat) (hy:YE P (⟨sL,hP⟩:St) o V p) (k:∀v,V v->aL P c ops Q rest ⟨put d (v,p) sL,hP⟩) (hw:Yb ops sL o=some true:=by exact rfl) (hd:o.dst=some d:=by exact rfl) (hn:d<c.nt:=by exact Xa rfl):aL P c ops Q (o::rest) (⟨sL,hP⟩:St):=
 Zbu d hw hd hn hy k
def kL {d:Nat} (k:aL P c ops Q rest ⟨put d (undef, .val undef) sL,hP⟩) (hw:Yb ops sL o=some false:=by exact rfl) (hd:o.dst=some d:=by exact rfl) (hn:d<c.nt:=by exact Xa rfl):aL P c ops Q (o::rest) (⟨sL,hP⟩:St):=
 Zpx d hw hd hn k
def bL {l:List Oper} {b:Bool} {q:PV} (t:Nat) (ht:b=true->aL P c ops Q l ⟨put t (.bool true, .val (.bool true)) sL,hP⟩) (hf:b=false->aL P c ops Q l ⟨put t (.bool false, .val (.bool false)) sL,hP⟩) (hx:lk sL t=some (.bool b,q):=by exact rfl):aL P c ops Q l (⟨sL,hP⟩:St):=
 Zd9 t hx ht hf
def xD {v:Value} {p:PV} (i:Nat) {d:Nat} (ho:ops[i]? =some o) (hy:YE P ⟨sL,J7 K hP⟩ o (· =v) p) (k:aD P c ops Q Z K fuel (listed.setIfInBounds i true) ⟨put d (v,p) sL,hP⟩) (hck:(Region.noSelect ops&&(Region.ready .any ops listed).contains i&&Region.free .any ops listed i&&Ot .any ops Z i)=true:=by kernel_rfl) (hw:Yb ops sL o=some true:=by exact rfl) (hd:o.dst=some d:=by exact rfl) (hn:d<c.nt:=by exact Xa rfl):aD P c ops Q Z K (fuel+1) listed (⟨sL,hP⟩:St):=
 Ztz i d ho hck hw hd hn hy k
def gDx {v:Value} {p:PV} (i:Nat) {d:Nat} (k:aD P c ops Q Z K fuel (listed.setIfInBounds i true) ⟨put d (v,p) sL,hP⟩) (ho:ops[i]? =some o:=by exact rfl) (hy:YE P ⟨sL,J7 K hP⟩ o (· =v) p:=by first|exact Za|exact Wj|exact Yn|exact GO|exact Zio|exact Jb|exact T'|exact DV|exact HJ|exact G3|exact Zek|exact ZmQ|exact Zc8|exact ZgQ|exact ZgP|exact ZmP|exact RE) (hck:(Region.noSelect ops&&(Region.ready .any ops listed).contains i&&Region.free .any ops listed i&&Ot .any ops Z i)=true:=by kernel_rfl) (hw:Yb ops sL o=some true:=by exact rfl) (hd:o.dst=some d:=by exact rfl) (hn:d<c.nt:=by exact Xa rfl):aD P c ops Q Z K (fuel+1) listed (⟨sL,hP⟩:St):=xD i ho hy k hck hw hd hn
def yD {V:Value->Prop} {p:PV} (i:Nat) {d:Nat} (ho:ops[i]? =some o) (hy:YE P ⟨sL,J7 K hP⟩ o V p) (k:∀v,V v->aD P c ops Q Z K fuel (listed.setIfInBounds i true) ⟨put d (v,p) sL,hP⟩) (hck:(Region.noSelect ops&&(Region.ready .any ops listed).contains i&&Region.free .any ops listed i&&Ot .any ops Z i)=true:=by kernel_rfl) (hw:Yb ops sL o=some true:=by exact rfl) (hd:o.dst=some d:=by exact rfl) (hn:d<c.nt:=by exact Xa rfl):aD P c ops Q Z K (fuel+1) listed (⟨sL,hP⟩:St):=
 Zei i d ho hck hw hd hn hy k
def kD (i:Nat) {d:Nat} (k:aD P c ops Q Z K fuel (listed.setIfInBounds i true) ⟨put d (undef, .val undef) sL,hP⟩) (ho:ops[i]? =some o:=by exact rfl) (hck:(Region.noSelect ops&&(Region.ready .any ops listed).contains i&&Region.free .any ops listed i&&Ot .any ops Z i)=true:=by kernel_rfl) (hw:Yb ops sL o=some false:=by exact rfl) (hd:o.dst=some d:=by exact rfl) (hn:d<c.nt:=by exact Xa rfl):aD P c ops Q Z K (fuel+1) listed (⟨sL,hP⟩:St):=
 ZpL i d ho hck hw hd hn k
def xE {v:Value} {p:PV} (i:Nat) {d:Nat} (ho:ops[i]? =some o) (hy:YE P (⟨sL,hP⟩:St) o (· =v) p) (k:aD P c ops Q Z K fuel (listed.setIfInBounds i true) ⟨put d (v,p) sL,hP⟩) (hr:Region.ready .any ops listed=[i]:=by kernel_rfl) (hw:Yb ops sL o=some true:=by exact rfl) (hd:o.dst=some d:=by exact rfl) (hn:d<c.nt:=by exact Xa rfl):aD P c ops Q Z K (fuel+1) listed (⟨sL,hP⟩:St):=
 Zs7 i d ho hr hw hd hn hy k
def gEx {v:Value} {p:PV} (i:Nat) {d:Nat} (k:aD P c ops Q Z K fuel (listed.setIfInBounds i true) ⟨put d (v,p) sL,hP⟩) (ho:ops[i]? =some o:=by exact rfl) (hy:YE P (⟨sL,hP⟩:St) o (· =v) p:=by first|exact Za|exact Wj|exact Yn|exact GO|exact Zio|exact Jb|exact T'|exact DV|exact HJ|exact G3|exact Zek|exact ZmQ|exact Zc8|exact ZgQ|exact ZgP|exact ZmP|exact RE) (hr:Region.ready .any ops listed=[i]:=by kernel_rfl) (hw:Yb ops sL o=some true:=by exact rfl) (hd:o.dst=some d:=by exact rfl) (hn:d<c.nt:=by exact Xa rfl):aD P c ops Q Z K (fuel+1) listed (⟨sL,hP⟩:St):=xE i ho hy k hr hw hd hn
def yE {V:Value->Prop} {p:PV} (i:Nat) {d:Nat} (ho:ops[i]? =some o) (hy:YE P (⟨sL,hP⟩:St) o V p) (k:∀v,V v->aD P c ops Q Z K fuel (listed.setIfInBounds i true) ⟨put d (v,p) sL,hP⟩) (hr:Region.ready .any ops listed=[i]:=by kernel_rfl) (hw:Yb ops sL o=some true:=by exact rfl) (hd:o.dst=some d:=by exact rfl) (hn:d<c.nt:=by exact Xa rfl):aD P c ops Q Z K (fuel+1) listed (⟨sL,hP⟩:St):=
 Zrx i d ho hr hw hd hn hy k
def bD {b:Bool} {q:PV} (t:Nat) (ht:b=true->aD P c ops Q Z K fuel listed ⟨put t (.bool true, .val (.bool true)) sL,hP⟩) (hf:b=false->aD P c ops Q Z K fuel listed ⟨put t (.bool false, .val (.bool false)) sL,hP⟩) (hx:lk sL t=some (.bool b,q):=by exact rfl):aD P c ops Q Z K fuel listed (⟨sL,hP⟩:St):=
 Zej t hx ht hf
def Za {P:Program} {st:St} {o:Oper} {x:Operand} {v:Value} {p:PV} (ho:o.op= .move x:=by exact rfl) (hx:ev st.slots x=some (v,p):=by exact rfl):YE P st o (· =v) p:=
 ZrQ ho hx
def Wj {P:Program} {st:St} {o:Oper} {x:Operand} {v:Value} {p:PV} (ho:o.op= .assign x:=by exact rfl) (hx:ev st.slots x=some (v,p):=by exact rfl):YE P st o (· =v) p:=
 Zmv ho hx
def RE {P:Program} {st:St} {o:Oper} {c x y:Operand} {b:Bool} {q:PV} {v:Value} {p:PV} (ho:o.op= .pick c x y:=by exact rfl) (hc:ev st.slots c=some (.bool b,q):=by exact rfl) (hx:ev st.slots (if b then x else y)=some (v,p):=by exact rfl):YE P st o (· =v) p:=
 ZrR ho hc hx
def HJ {P:Program} {st:St} {o:Oper} {x:Operand} {t:TypeId} {b:Bool} {q:PV} (ho:o.op= .unOp .not t x:=by exact rfl) (hx:ev st.slots x=some (.bool b,q):=by exact rfl):YE P st o (· = .bool (!b)) (.val (.bool (!b))):=
 ZsW ho hx
def ZmP {P:Program} {st:St} {o:Oper} {x:Operand} {t:TypeId} {a:Int} {q:PV} (ho:o.op= .unOp .neg t x:=by exact rfl) (hx:ev st.slots x=some (.int .i64 a,q):=by exact rfl) (h1: -9223372036854775807<=a:=by exact Ll) (h2:a<=9223372036854775807:=by exact Ll):YE P st o (· = .int .i64 (-a)) (.val (.int .i64 (-a))):=
 ZsX ho hx h1 h2
def Yn {k:IntKind} {a b:Int} (ho:o.op= .binOp .lss t x y t':=by exact rfl) (hx:ev st.slots x=some (.int k a,q):=by exact rfl) (hy:ev st.slots y=some (.int k b,q'):=by exact rfl):YE P st o (· = .bool (decide (a<b))) (.val (.bool (decide (a<b)))):=
 ZsY ho hx hy
def ZmQ {k:IntKind} {a b:Int} (ho:o.op= .binOp .leq t x y t':=by exact rfl) (hx:ev st.slots x=some (.int k a,q):=by exact rfl) (hy:ev st.slots y=some (.int k b,q'):=by exact rfl):YE P st o (· = .bool (decide (a<=b))) (.val (.bool (decide (a<=b)))):=
 ZsZ ho hx hy
def G3 {k:IntKind} {a b:Int} (ho:o.op= .binOp .gtr t x y t':=by exact rfl) (hx:ev st.slots x=some (.int k a,q):=by exact rfl) (hy:ev st.slots y=some (.int k b,q'):=by exact rfl):YE P st o (· = .bool (decide (b<a))) (.val (.bool (decide (b<a)))):=
 Zs0 ho hx hy
def Zek {k:IntKind} {a b:Int} (ho:o.op= .binOp .geq t x y t':=by exact rfl) (hx:ev st.slots x=some (.int k a,q):=by exact rfl) (hy:ev st.slots y=some (.int k b,q'):=by exact rfl):YE P st o (· = .bool (decide (b<=a))) (.val (.bool (decide (b<=a)))):=
 Zs1 ho hx hy
def Jb {k:IntKind} {a b:Int} (ho:o.op= .binOp .eql t x y t':=by exact rfl) (hx:ev st.slots x=some (.int k a,q):=by exact rfl) (hy:ev st.slots y=some (.int k b,q'):=by exact rfl):YE P st o (· = .bool (decide (a=b))) (.val (.bool (decide (a=b)))):=
 Zs2 ho hx hy
def T' {k:IntKind} {a b:Int} (ho:o.op= .binOp .neq t x y t':=by exact rfl) (hx:ev st.slots x=some (.int k a,q):=by exact rfl) (hy:ev st.slots y=some (.int k b,q'):=by exact rfl):YE P st o (· = .bool (decide (a≠b))) (.val (.bool (decide (a≠b)))):=
 Zs3 ho hx hy
def Zc8 {a b:BA} (ho:o.op= .binOp .eql t x y t':=by exact rfl) (hx:ev st.slots x=some (.string a,q):=by exact rfl) (hy:ev st.slots y=some (.string b,q'):=by exact rfl):YE P st o (· = .bool (a.toList==b.toList)) (.val (.bool (a.toList==b.toList))):=
 ZrS ho hx hy
def ZgP {a b:BA} (ho:o.op= .binOp .neq t x y t':=by exact rfl) (hx:ev st.slots x=some (.string a,q):=by exact rfl) (hy:ev st.slots y=some (.string b,q'):=by exact rfl):YE P st o (· = .bool (!(a.toList==b.toList))) (.val (.bool (!(a.toList==b.toList)))):=
 ZrT ho hx hy
def ZgQ {a b:BA} (ho:o.op= .binOp .lss t x y t':=by exact rfl) (hx:ev st.slots x=some (.string a,q):=by exact rfl) (hy:ev st.slots y=some (.string b,q'):=by exact rfl):YE P st o (· = .bool (Op.bytesLess a.toList b.toList)) (.val (.bool (Op.bytesLess a.toList b.toList))):=
 ZrU ho hx hy
def Zc9 {a b:BA} (ho:o.op= .binOp .geq t x y t':=by exact rfl) (hx:ev st.slots x=some (.string a,q):=by exact rfl) (hy:ev st.slots y=some (.string b,q'):=by exact rfl):YE P st o (· = .bool (!Op.bytesLess a.toList b.toList)) (.val (.bool (!Op.bytesLess a.toList b.toList))):=
 ZrV ho hx hy
def ZgR {a b:BA} (ho:o.op= .binOp .gtr t x y t':=by exact rfl) (hx:ev st.slots x=some (.string a,q):=by exact rfl) (hy:ev st.slots y=some (.string b,q'):=by exact rfl):YE P st o (· = .bool (!(Op.bytesLess a.toList b.toList||a.toList==b.toList))) (.val (.bool (!(Op.bytesLess a.toList b.toList||a.toList==b.toList)))):=
 ZrW ho hx hy
def Zio {a b:Int} (ho:o.op= .binOp .add t x y t':=by exact rfl) (hx:ev st.slots x=some (.int .i64 a,q):=by exact rfl) (hy:ev st.slots y=some (.int .i64 b,q'):=by exact rfl) (h1: -9223372036854775808<=a+b:=by exact Ll) (h2:a+b<=9223372036854775807:=by exact Ll):YE P st o (· = .int .i64 (a+b)) (.val (.int .i64 (a+b))):=
 Zru ho hx hy h1 h2
def DV {a b:Int} (ho:o.op= .binOp .sub t x y t':=by exact rfl) (hx:ev st.slots x=some (.int .i64 a,q):=by exact rfl) (hy:ev st.slots y=some (.int .i64 b,q'):=by exact rfl) (h1: -9223372036854775808<=a-b:=by exact Ll) (h2:a-b<=9223372036854775807:=by exact Ll):YE P st o (· = .int .i64 (a-b)) (.val (.int .i64 (a-b))):=
 Zrv ho hx hy h1 h2
def ZbS {a b:Int} (ho:o.op= .binOp .mul t x y t':=by exact rfl) (hx:ev st.slots x=some (.int .i64 a,q):=by exact rfl) (hy:ev st.slots y=some (.int .i64 b,q'):=by exact rfl) (h1: -9223372036854775808<=a*b:=by exact Ll) (h2:a*b<=9223372036854775807:=by exact Ll):YE P st o (· = .int .i64 (a*b)) (.val (.int .i64 (a*b))):=
 Zrw ho hx hy h1 h2
def ZmR {a b:Bool} (hu:P.underlying t=some .bool) (ho:o.op= .binOp .eql t x y t':=by exact rfl) (hx:ev st.slots x=some (.bool a,q):=by exact rfl) (hy:ev st.slots y=some (.bool b,q'):=by exact rfl):YE P st o (· = .bool (a==b)) (.val (.bool (a==b))):=
 ZrX hu ho hx hy
def ζf {s:BA} {i:Int} {c:UInt8} {k:IntKind} (hu:P.underlying t=some .string) (ho:o.op= .index t x y:=by exact rfl) (hx:ev st.slots x=some (.string s,q):=by exact rfl) (hy:ev st.slots y=some (.int k i,q'):=by exact rfl) (hi:0<=i:=by exact Ll) (hc:s.data[i.toNat]? =some c:=by assumption):YE P st o (· = .int .u8 c.toNat) (.val (.int .u8 c.toNat)):=
 Zpw hu ho hx hy hi hc
def Ou {P:Program} {st:St} {o:Oper} {x:Operand} {t:TypeId} {s:BA} {q:PV} (ht:P.underlying t=some .string) (ho:o.op= .call {callee:= .builtin .len,args:= #[x],argTypes:= #[t]}:=by exact rfl) (hx:ev st.slots x=some (.string s,q):=by exact rfl):YE P st o (· = .int .i64 s.size) (.val (.int .i64 s.size)):=
 ZrY ht ho hx
def GO {P:Program} {st:St} {o:Oper} {x:Operand} {i:Nat} {vs:List Value} {ps:List PV} {v:Value} {p:PV} (ho:o.op= .extract x i:=by exact rfl) (hx:ev st.slots x=some (.tuple vs.toArray, .tup ps):=by exact rfl) (hv:vs[i]? =some v:=by exact rfl) (hp:ps[i]? =some p:=by exact rfl):YE P st o (· =v) p:=
 ZjV ho hx hv hp
def Yg {s f fo j:Nat} {x:Operand} {v:Value} {cs:List PV} (hT:FldT P s f fo=true) (ho:o.op= .fieldAddr s x f:=by exact rfl) (hx:ev st.slots x=some (v, .sptr j cs):=by exact rfl):YE P st o (· =padd v fo) (.sptr (j+fo) cs):=
 ZjW hT ho hx
def Zc {s f fo j e k n:Nat} {x:Operand} {h:Value} {p:PV} {cs:List PV} (l:Nat) (hT:FldT P s f fo=true) (ho:o.op= .fieldAddr s x f:=by exact rfl) (hx:ev st.slots x=some (padd (sbase h) j,p):=by exact rfl) (hl:lk st.heap l=some (h, .own e k n cs):=by exact rfl) (hn:0<n:=by exact Ll):YE P st o (· =padd (sbase h) (j+fo)) (.val (padd (sbase h) (j+fo))):=
 ZjX l hT ho hx hl hn
def Ze {t e k n:Nat} {x y:Operand} {v:Value} {cs:List PV} {q:PV} {kd:IntKind} {i:Nat} (hT:SlT P t e k=true) (ho:o.op= .indexAddr t x y:=by exact rfl) (hx:ev st.slots x=some (v, .sl n cs):=by exact rfl) (hy:ev st.slots y=some (.int kd (i:Int),q):=by exact rfl) (h1:i<n:=by exact Ll):YE P st o (· =padd (sbase v) (i*k)) (.sptr (i*k) cs):=
 ZgG hT ho hx hy h1
def Zk {t e k e' k' n:Nat} {x y:Operand} {h:Value} {p q:PV} {cs:List PV} {kd:IntKind} {i:Nat} (l:Nat) (hT:SlT P t e k=true) (ho:o.op= .indexAddr t x y:=by exact rfl) (hx:ev st.slots x=some (h,p):=by exact rfl) (hy:ev st.slots y=some (.int kd (i:Int),q):=by exact rfl) (hl:lk st.heap l=some (h, .own e' k' n cs):=by exact rfl) (h1:i<n:=by exact Ll):YE P st o (· =padd (sbase h) (i*k)) (.val (padd (sbase h) (i*k))):=
 ZgH l hT ho hx hy hl h1
def Sa {t e k n:Nat} {x y:Operand} {v:Value} {cs:List PV} {q:PV} {kd:IntKind} {i:Int} (hT:SlT P t e k=true) (ho:o.op= .indexAddr t x y:=by exact rfl) (hx:ev st.slots x=some (v, .sl n cs):=by exact rfl) (hy:ev st.slots y=some (.int kd i,q):=by exact rfl) (h0:0<=i:=by exact Ll) (h1:i<n:=by exact Ll):YE P st o (· =padd (sbase v) (i.toNat*k)) (.sptr (i.toNat*k) cs):=
 ZbK hT ho hx hy h0 h1
def Ov {t e k e' k' n:Nat} {x y:Operand} {h:Value} {p q:PV} {cs:List PV} {kd:IntKind} {i:Int} (l:Nat) (hT:SlT P t e k=true) (ho:o.op= .indexAddr t x y:=by exact rfl) (hx:ev st.slots x=some (h,p):=by exact rfl) (hy:ev st.slots y=some (.int kd i,q):=by exact rfl) (hl:lk st.heap l=some (h, .own e' k' n cs):=by exact rfl) (h0:0<=i:=by exact Ll) (h1:i<n:=by exact Ll):YE P st o (· =padd (sbase h) (i.toNat*k)) (.val (padd (sbase h) (i.toNat*k))):=
 ZbL l hT ho hx hy hl h0 h1
def Zw {t j:Nat} {x:Operand} {v:Value} {cs:List PV} {p:PV} (hT:NoAgg P t=true) (ho:o.op= .load t x:=by exact rfl) (hx:ev st.slots x=some (v, .sptr j cs):=by exact rfl) (hp:cs[j]? =some p:=by first|exact rfl|assumption):YE P st o (vOf p) p:=
 Zd7 hT ho hx hp
def Zf {t j e k n:Nat} {x:Operand} {h:Value} {q:PV} {cs:List PV} {p:PV} (l:Nat) (hT:NoAgg P t=true) (ho:o.op= .load t x:=by exact rfl) (hx:ev st.slots x=some (padd (sbase h) j,q):=by exact rfl) (hl:lk st.heap l=some (h, .own e k n cs):=by exact rfl) (hp:cs[j]? =some p:=by first|exact rfl|assumption) (hsh:isSh p=true:=by exact rfl):YE P st o (vOf p) p:=
 Zd8 l hT ho hx hl hp hsh
def EE {t j e k n:Nat} {x:Operand} {h:Value} {q:PV} {cs:List PV} {p:PV} (l:Nat) (i:Nat) (hT:NoAgg P t=true) (ho:o.op= .load t x:=by exact rfl) (hx:ev sL x=some (padd (sbase h) j,q):=by exact rfl) (hl:lk hP l=some (h, .own e k n cs):=by exact rfl) (hj:j=i:=by exact Ll) (hp:cs[i]? =some p:=by first|exact rfl|assumption) (hsh:isSh p=true:=by exact rfl):YE P (⟨sL,hP⟩:St) o (vOf p) p:=
 Jk l i hT ho hx hl hj hp hsh
def We {t k j:Nat} {x:Operand} {v:Value} {cs ps:List PV} (hT:AggT P t k=true) (ho:o.op= .load t x:=by exact rfl) (hx:ev sL x=some (v, .sptr j cs):=by exact rfl) (hp:j+k<=cs.length:=by exact Ll) (hps:(cs.drop j).take k=ps:=by first|assumption|exact rfl):YE P (⟨sL,hP⟩:St) o (fun _=>True) (.agg ps):=
 ZgM hT ho hx hp hps
def Zm {t k j e k' n:Nat} {x:Operand} {h:Value} {q:PV} {cs ps:List PV} (l:Nat) (hT:AggT P t k=true) (ho:o.op= .load t x:=by exact rfl) (hx:ev sL x=some (padd (sbase h) j,q):=by exact rfl) (hl:lk hP l=some (h, .own e k' n cs):=by exact rfl) (hp:j+k<=cs.length:=by exact Ll) (hk:0<k:=by decide) (hps:(cs.drop j).take k=ps:=by first|assumption|exact rfl) (hsh:ps.all isSh=true:=by first|exact rfl|decide):YE P (⟨sL,hP⟩:St) o (fun _=>True) (.agg ps):=
 ZgN l hT ho hx hl hp hk hps hsh
def Zu {t e k n:Nat} {x:Operand} {v:Value} {cs:List PV} (hT:SlT P t e k=true) (ho:o.op= .call {callee:= .builtin .len,args:= #[x],argTypes:= #[t]}:=by exact rfl) (hx:ev st.slots x=some (v, .sl n cs):=by exact rfl):YE P st o (· = .int .i64 n) (.val (.int .i64 n)):=
 Zj0 hT ho hx
def Wu {t e k e' k' n:Nat} {x:Operand} {h:Value} {p:PV} {cs:List PV} (l:Nat) (hT:SlT P t e k=true) (ho:o.op= .call {callee:= .builtin .len,args:= #[x],argTypes:= #[t]}:=by exact rfl) (hx:ev st.slots x=some (h,p):=by exact rfl) (hl:lk st.heap l=some (h, .own e' k' n cs):=by exact rfl):YE P st o (· = .int .i64 n) (.val (.int .i64 n)):=
 Zj1 l hT ho hx hl
def Zr2 {t ks e:Nat} {x:Operand} {m:Value} {kv:List (Value×Value)} (ht:P.underlying t=some (.map ks e)) (ho:o.op= .call {callee:= .builtin .len,args:= #[x],argTypes:= #[t]}:=by exact rfl) (hx:ev sL x=some (m, .smap kv):=by exact rfl):YE P (⟨sL,hP⟩:St) o (· = .int .i64 kv.length) (.val (.int .i64 kv.length)):=
 ZmI ht ho hx
def ZpM {t ks e:Nat} {x:Operand} {m:Value} {kv:List (Value×Value)} {p:PV} (l:Nat) (ht:P.underlying t=some (.map ks e)) (ho:o.op= .call {callee:= .builtin .len,args:= #[x],argTypes:= #[t]}:=by exact rfl) (hx:ev sL x=some (m,p):=by exact rfl) (hl:lk hP l=some (m, .omap kv):=by exact rfl):YE P (⟨sL,hP⟩:St) o (· = .int .i64 kv.length) (.val (.int .i64 kv.length)):=
 ZmJ l ht ho hx hl
def ZA {t:Nat} {parts:Array (Nat×Operand)} {z:Value} {offs:List Nat} {zs:List Value} {es:List (Nat×Ent)} (hT:Gk P t=some (z,offs.map fun o=>(o,1))) (hzs:z.cells=zs.toArray:=by exact rfl) (ho:o.op= .build t parts:=by exact rfl) (hx:evP sL parts.toList=some es:=by exact rfl) (h1:es.all (fun x=>one x.2.2)=true:=by first|exact rfl|(simp only [UC,List.all_nil,Up,Xf];(repeat (first|refine ⟨?_,?_⟩|rfl|assumption)))) (hin:es.all (fun x=>decide (x.1<offs.length)&&decide (offs.getD x.1 0<zs.length))=true:=by exact rfl):YE P (⟨sL,hP⟩:St) o (· = .agg (RS offs zs (es.map fun x=>(x.1,x.2.1))).toArray) (.agg (RS offs (zs.map .val) (es.map fun x=>(x.1,x.2.2)))):=
 ZpD hT hzs ho hx h1 hin
def SI {f:Nat} {caps:Array Operand} {es:List Ent} (ho:o.op= .makeFunc (.func f) #[] caps:=by exact rfl) (hx:evL sL caps.toList=some es:=by exact rfl):YE P (⟨sL,hP⟩:St) o (· = .func (.func f) #[] (es.map (·.1)).toArray) (.fn f (es.map (·.2))):=
 Zr0 ho hx
def L9 {t ks e:Nat} {kd:TypeDesc} {z u:Value} {x y:Operand} {m k:Value} {kv:List (Value×Value)} {q:PV} (hT:MpT P t ks e kd z) (ho:o.op= .lookup t x y false:=by exact rfl) (hx:ev sL x=some (m, .smap kv):=by exact rfl) (hy:ev sL y=some (k,q):=by exact rfl) (hk:kok kd k kv:=by first|exact Rk _ _|exact HH _ _|exact HG _ _|assumption) (hu:(KC kv k).getD z=u:=by assumption):YE P (⟨sL,hP⟩:St) o (· =u) (.val u):=
 Zj7 hT ho hx hy hk hu
def ZpN {t ks e:Nat} {kd:TypeDesc} {z:Value} {x y:Operand} {m k:Value} {kv:List (Value×Value)} {q:PV} (hT:MpT P t ks e kd z) (ho:o.op= .lookup t x y true:=by exact rfl) (hx:ev sL x=some (m, .smap kv):=by exact rfl) (hy:ev sL y=some (k,q):=by exact rfl) (hk:kok kd k kv:=by first|exact Rk _ _|exact HH _ _|exact HG _ _|assumption):YE P (⟨sL,hP⟩:St) o (· = .tuple [(KC kv k).getD z, .bool (KC kv k).isSome].toArray) (.tup [.val ((KC kv k).getD z), .val (.bool (KC kv k).isSome)]):=
 Zj6 hT ho hx hy hk
def Zel {t ks e:Nat} {kd:TypeDesc} {z:Value} {x y:Operand} {m k:Value} {kv:List (Value×Value)} {p q:PV} (l:Nat) (hT:MpT P t ks e kd z) (ho:o.op= .lookup t x y true:=by exact rfl) (hx:ev sL x=some (m,p):=by exact rfl) (hl:lk hP l=some (m, .omap kv):=by exact rfl) (hy:ev sL y=some (k,q):=by exact rfl) (hk:kok kd k kv:=by first|exact Rk _ _|exact HH _ _|exact HG _ _|assumption):YE P (⟨sL,hP⟩:St) o (· = .tuple [(KC kv k).getD z, .bool (KC kv k).isSome].toArray) (.tup [.val ((KC kv k).getD z), .val (.bool (KC kv k).isSome)]):=
 Zj8 l hT ho hx hl hy hk
def Ow {t ks e:Nat} {kd:TypeDesc} {z u:Value} {x y:Operand} {m k:Value} {kv:List (Value×Value)} {p q:PV} (l:Nat) (hT:MpT P t ks e kd z) (ho:o.op= .lookup t x y false:=by exact rfl) (hx:ev sL x=some (m,p):=by exact rfl) (hl:lk hP l=some (m, .omap kv):=by exact rfl) (hy:ev sL y=some (k,q):=by exact rfl) (hk:kok kd k kv:=by first|exact Rk _ _|exact HH _ _|exact HG _ _|assumption) (hu:(KC kv k).getD z=u:=by assumption):YE P (⟨sL,hP⟩:St) o (· =u) (.val u):=
 Zj9 l hT ho hx hl hy hk hu
def ZmS {t:TypeId} {x:Operand} {v:Value} {p:PV} (d:Nat) (k:∀h:Value,aL P c ops Q rest ⟨put d (padd (sbase h) 0, .val (padd (sbase h) 0)) sL,put d (h, .own t 1 1 [p]) hP⟩) (hw:Yb ops sL o=some true:=by exact rfl) (hd:o.dst=some d:=by exact rfl) (hn:d<c.nt:=by exact Xa rfl) (ho:o.op= .box t x:=by exact rfl) (hx:ev sL x=some (v,p):=by exact rfl) (h1:one p=true:=by first|exact rfl|assumption) (hl:lk hP d=none:=by exact rfl):aL P c ops Q (o::rest) (⟨sL,hP⟩:St):=
 Zpy d hw hd hn ho hx h1 hl k
def Z4 {t:TypeId} {x:Operand} {v:Value} {ps:List PV} (d:Nat) (m:Nat) (k:∀h:Value,aL P c ops Q rest ⟨put d (padd (sbase h) 0, .val (padd (sbase h) 0)) sL,put d (h, .own t m 1 ps) hP⟩) (hw:Yb ops sL o=some true:=by exact rfl) (hd:o.dst=some d:=by exact rfl) (hn:d<c.nt:=by exact Xa rfl) (ho:o.op= .box t x:=by exact rfl) (hx:ev sL x=some (v, .agg ps):=by exact rfl) (hm:ps.length=m:=by exact rfl) (hl:lk hP d=none:=by exact rfl):aL P c ops Q (o::rest) (⟨sL,hP⟩:St):=
 Zpz d m hw hd hn ho hx hm hl k
def Zt {t:TypeId} {z:Value} (zs:List Value) (m:Nat) (d:Nat) (hz:ZeroT P t z) (k:∀h:Value,aL P c ops Q rest ⟨put d (padd (sbase h) 0, .val (padd (sbase h) 0)) sL,put d (h, .own t m 1 (zs.map .val)) hP⟩) (hw:Yb ops sL o=some true:=by exact rfl) (hd:o.dst=some d:=by exact rfl) (hn:d<c.nt:=by exact Xa rfl) (ho:o.op= .alloc t:=by exact rfl) (hzs:z.cells=zs.toArray:=by exact rfl) (hm:zs.length=m:=by exact rfl) (hl:lk hP d=none:=by exact rfl):aL P c ops Q (o::rest) (⟨sL,hP⟩:St):=
 Zmx zs m d hw hd hn ho hz hzs hm hl k
def KF {t e bytes:Nat} {z:Value} {x y:Operand} {n:Nat} {q q':PV} (d:Nat) (hT:ElT P t e 1 bytes z) (k:∀h:Value,h.oneCell'=true->aL P c ops Q rest ⟨put d (h, .val h) sL,put d (h, .own e 1 n (List.replicate n (.val z))) hP⟩) (hw:Yb ops sL o=some true:=by exact rfl) (hd:o.dst=some d:=by exact rfl) (hn:d<c.nt:=by exact Xa rfl) (ho:o.op= .makeSlice t x y:=by exact rfl) (hx:ev sL x=some (.int .i64 n,q):=by exact rfl) (hy:ev sL y=some (.int .i64 n,q'):=by exact rfl) (hl:lk hP d=none:=by exact rfl) (hb:bytes*n<=281474976710656:=by exact Ll) (hn2:n<=9223372036854775807:=by exact Ll) (hz1:z.oneCell'=true:=by exact rfl):aL P c ops Q (o::rest) (⟨sL,hP⟩:St):=
 ZpA d hT hw hd hn ho hx hy hl hb hn2 hz1 k
def ZpO {t e kk bytes:Nat} {z:Value} {x y:Operand} {n:Nat} {q q':PV} (zs:List Value) (d:Nat) (hT:ElT P t e kk bytes z) (k:∀h:Value,h.oneCell'=true->aL P c ops Q rest ⟨put d (h, .val h) sL,put d (h, .own e kk n ((List.replicate n (zs.map PV.val)).flatten)) hP⟩) (hzs:z.cells=zs.toArray:=by exact rfl) (hw:Yb ops sL o=some true:=by exact rfl) (hd:o.dst=some d:=by exact rfl) (hn:d<c.nt:=by exact Xa rfl) (ho:o.op= .makeSlice t x y:=by exact rfl) (hx:ev sL x=some (.int .i64 n,q):=by exact rfl) (hy:ev sL y=some (.int .i64 n,q'):=by exact rfl) (hl:lk hP d=none:=by exact rfl) (hb:bytes*n<=281474976710656:=by exact Ll) (hn2:n<=9223372036854775807:=by exact Ll):aL P c ops Q (o::rest) (⟨sL,hP⟩:St):=
 ZmO zs d hT hzs hw hd hn ho hx hy hl hb hn2 k
def T7 {t e kk bytes:Nat} {z:Value} (d:Nat) (hT:ElT P t e kk bytes z) (k:∀h:Value,h.oneCell'=true->aL P c ops Q rest ⟨put d (h, .val h) sL,put d (h, .own e kk 0 []) hP⟩) (hw:Yb ops sL o=some true:=by exact rfl) (hd:o.dst=some d:=by exact rfl) (hn:d<c.nt:=by exact Xa rfl) (ho:o.op= .buildSlice t 0 #[]:=by exact rfl) (hl:lk hP d=none:=by exact rfl):aL P c ops Q (o::rest) (⟨sL,hP⟩:St):=
 ZpB d hT hw hd hn ho hl k
def WE {t e kk bytes:Nat} {z:Value} {x:Operand} {v:Value} {p:PV} (d:Nat) (hT:ElT P t e 1 bytes z) (k:∀h:Value,h.oneCell'=true->aL P c ops Q rest ⟨put d (h, .val h) sL,put d (h, .own e 1 1 [p]) hP⟩) (hw:Yb ops sL o=some true:=by exact rfl) (hd:o.dst=some d:=by exact rfl) (hn:d<c.nt:=by exact Xa rfl) (ho:o.op= .buildSlice t 1 #[(0,x)]:=by exact rfl) (hx:ev sL x=some (v,p):=by exact rfl) (h10:one p=true:=by first|exact rfl|assumption) (hl:lk hP d=none:=by exact rfl):aL P c ops Q (o::rest) (⟨sL,hP⟩:St):=
 ZpC (kk:=1) d hT hw hd hn ho hx h10 hl k
def Wy {t e kk bytes:Nat} {z:Value} {x:Operand} {v:Value} {ps:List PV} (d:Nat) (hT:ElT P t e kk bytes z) (k:∀h:Value,h.oneCell'=true->aL P c ops Q rest ⟨put d (h, .val h) sL,put d (h, .own e kk 1 ps) hP⟩) (hw:Yb ops sL o=some true:=by exact rfl) (hd:o.dst=some d:=by exact rfl) (hn:d<c.nt:=by exact Xa rfl) (ho:o.op= .buildSlice t 1 #[(0,x)]:=by exact rfl) (hx:ev sL x=some (v, .agg ps):=by exact rfl) (hps:ps.length=kk:=by exact rfl) (hkb:kk<=1000:=by decide) (hl:lk hP d=none:=by exact rfl):aL P c ops Q (o::rest) (⟨sL,hP⟩:St):=
 Zmy d hT hw hd hn ho hx hps hkb hl k
def PF {t e bytes m:Nat} {z:Value} {xs:List Operand} {parts:Array (Nat×Operand)} {es:List Ent} (d:Nat) (hT:ElT P t e 1 bytes z) (k:∀h:Value,h.oneCell'=true->aL P c ops Q rest ⟨put d (h, .val h) sL,put d (h, .own e 1 m (es.map (·.2))) hP⟩) (hw:Yb ops sL o=some true:=by exact rfl) (hd:o.dst=some d:=by exact rfl) (hn:d<c.nt:=by exact Xa rfl) (ho:o.op= .buildSlice t m parts:=by exact rfl) (hpt:parts=((xs.zipIdx).map fun x=>(x.2,x.1)).toArray:=by exact rfl) (hx:evL sL xs=some es:=by exact rfl) (h1:es.all (fun x=>one x.2)=true:=by exact rfl) (hm:es.length=m:=by exact rfl) (hm0:0<m:=by decide) (hm1:m<=1000:=by decide) (hl:lk hP d=none:=by exact rfl):aL P c ops Q (o::rest) (⟨sL,hP⟩:St):=
 Zii d hT hw hd hn ho hpt hx h1 hm hm0 hm1 hl k
def JY {t j e kk n:Nat} {x y:Operand} {h v:Value} {q p:PV} {cs:List PV} (l:Nat) (hT:NoAgg P t=true) (hsz:(P.info? t).map (·.size)=some 1) (k:aL P c ops Q rest ⟨sL,put l (h, .own e kk n (cs.set j p)) hP⟩) (hw:Yb ops sL o=some true:=by exact rfl) (hd:o.dst=none:=by exact rfl) (ho:o.op= .store t x y:=by exact rfl) (hx:ev sL x=some (padd (sbase h) j,q):=by exact rfl) (hy:ev sL y=some (v,p):=by exact rfl) (h1:one p=true:=by first|exact rfl|assumption) (hl:lk hP l=some (h, .own e kk n cs):=by exact rfl) (hj:j<cs.length:=by exact Ll):aL P c ops Q (o::rest) (⟨sL,hP⟩:St):=
 ZgI l hw hd hT hsz ho hx hy h1 hl hj k
def Zs8 {t j e kk n:Nat} {x y:Operand} {h v:Value} {q p:PV} {cs:List PV} (l:Nat) (i:Nat) (hT:NoAgg P t=true) (hsz:(P.info? t).map (·.size)=some 1) (k:aL P c ops Q rest ⟨sL,put l (h, .own e kk n (cs.set i p)) hP⟩) (hw:Yb ops sL o=some true:=by exact rfl) (hd:o.dst=none:=by exact rfl) (ho:o.op= .store t x y:=by exact rfl) (hx:ev sL x=some (padd (sbase h) j,q):=by exact rfl) (hy:ev sL y=some (v,p):=by exact rfl) (h1:one p=true:=by first|exact rfl|assumption) (hl:lk hP l=some (h, .own e kk n cs):=by exact rfl) (hji:j=i:=by exact Ll) (hj:i<cs.length:=by exact Ll):aL P c ops Q (o::rest) (⟨sL,hP⟩:St):=
 L8 l i hw hd hT hsz ho hx hy h1 hl hji hj k
def Zn {t j e kk n m:Nat} {x y:Operand} {h V:Value} {q:PV} {ps cs:List PV} (l:Nat) (hT:AggT P t m=true) (k:aL P c ops Q rest ⟨sL,put l (h, .own e kk n (G7 cs j ps)) hP⟩) (hw:Yb ops sL o=some true:=by exact rfl) (hd:o.dst=none:=by exact rfl) (ho:o.op= .store t x y:=by exact rfl) (hx:ev sL x=some (padd (sbase h) j,q):=by exact rfl) (hy:ev sL y=some (V, .agg ps):=by exact rfl) (hm:ps.length=m:=by exact rfl) (h1:ps.all one=true:=by first|exact rfl|(simp only [UC,List.all_nil,Up,Xf];(repeat (first|refine ⟨?_,?_⟩|rfl|assumption)))) (hl:lk hP l=some (h, .own e kk n cs):=by exact rfl) (hj:j+m<=cs.length:=by exact Ll) (hm0:0<m:=by decide):aL P c ops Q (o::rest) (⟨sL,hP⟩:St):=
 ZrZ l hw hd hT ho hx hy hm h1 hl hj hm0 k
def Rl {t:Nat} (d:Nat) (k:∀m:Value,m.oneCell'=true->aL P c ops Q rest ⟨put d (m, .val m) sL,put d (m, .omap []) hP⟩) (hw:Yb ops sL o=some true:=by exact rfl) (hd:o.dst=some d:=by exact rfl) (hn:d<c.nt:=by exact Xa rfl) (ho:o.op= .makeMap t none:=by exact rfl) (hl:lk hP d=none:=by exact rfl):aL P c ops Q (o::rest) (⟨sL,hP⟩:St):=
 ZmK d hw hd hn ho hl k
def PG {t ks e:Nat} {kd:TypeDesc} {z:Value} {x y u:Operand} {m k v:Value} {kv:List (Value×Value)} {p q r:PV} (l:Nat) (hT:MpT P t ks e kd z) (kk:aL P c ops Q rest ⟨sL,put l (m, .omap (RV kv k v)) hP⟩) (hw:Yb ops sL o=some true:=by exact rfl) (hd:o.dst=none:=by exact rfl) (ho:o.op= .mapUpdate t x y u:=by exact rfl) (hx:ev sL x=some (m,p):=by exact rfl) (hl:lk hP l=some (m, .omap kv):=by exact rfl) (hy:ev sL y=some (k,q):=by exact rfl) (hu:ev sL u=some (v,r):=by exact rfl) (hk:kok kd k kv:=by first|exact Rk _ _|exact HH _ _|exact HG _ _|assumption) (hbits:bits k=true:=by exact rfl):aL P c ops Q (o::rest) (⟨sL,hP⟩:St):=
 ZpJ l hw hd hT ho hx hl hy hu hk hbits kk
def Y7 {t ty e kk bytes n m:Nat} {z:Value} {x y:Operand} {h h2:Value} {q q2:PV} {cs cs2:List PV} (l:Nat) (l2:Nat) (d:Nat) (hT:ElT P t e kk bytes z) (k:∀h':Value,h'.oneCell'=true->aL P c ops Q rest ⟨put d (h', .val h') sL,put d (h', .own e kk (n+m) (cs++cs2)) (del l2 (del l hP))⟩) (hw:Yb ops sL o=some true:=by exact rfl) (hd:o.dst=some d:=by exact rfl) (hn:d<c.nt:=by exact Xa rfl) (hty:o.type=ty:=by exact rfl) (ho:o.op= .call {callee:= .builtin .append,args:= #[x,y],argTypes:= #[t,t]}:=by exact rfl) (hx:ev sL x=some (h,q):=by exact rfl) (hy:ev sL y=some (h2,q2):=by exact rfl) (hll:Nat.beq l l2=false:=by exact rfl) (hl:lk hP l=some (h, .own e kk n cs):=by exact rfl) (hl2:lk hP l2=some (h2, .own e kk m cs2):=by exact rfl) (hdl:lk (del l2 (del l hP)) d=none:=by exact rfl) (hm:0<m:=by decide) (hok:cs2.all Tm=true:=by first|exact rfl|(simp only [UC,List.all_nil,Up,Xf];(repeat (first|refine ⟨?_,?_⟩|rfl|assumption)))) (hlen:n+m<=9223372036854775807:=by exact Ll) (hb:(n+m)*bytes<=140737488355328:=by exact Ll) (hdr:¬c.dr:=by exact id):aL P c ops Q (o::rest) (⟨sL,hP⟩:St):=
 Zj2 l l2 d hT hw hd hn hty ho hx hy hll hl hl2 hdl hm hok hlen hb hdr k
def bLd {l:List Oper} (t:Nat) {p:Prop} {_:Decidable p} {q:PV} (ht:p->aL P c ops Q l ⟨put t (.bool true, .val (.bool true)) sL,hP⟩) (hf:¬p->aL P c ops Q l ⟨put t (.bool false, .val (.bool false)) sL,hP⟩) (hx:lk sL t=some (.bool (decide p),q):=by exact rfl):aL P c ops Q l (⟨sL,hP⟩:St):=
 Zd9 t hx (fun h=>ht (Qf h)) (fun h=>hf (Qg h))
def bDd (t:Nat) {p:Prop} {_:Decidable p} {q:PV} (ht:p->aD P c ops Q Z K fuel listed ⟨put t (.bool true, .val (.bool true)) sL,hP⟩) (hf:¬p->aD P c ops Q Z K fuel listed ⟨put t (.bool false, .val (.bool false)) sL,hP⟩) (hx:lk sL t=some (.bool (decide p),q):=by exact rfl):aD P c ops Q Z K fuel listed (⟨sL,hP⟩:St):=
 Zej t hx (fun h=>ht (Qf h)) (fun h=>hf (Qg h))
def cC {x:Operand} {t e:Code} {b:Bool} {q:PV} (ht:b=true->aC P c t Q (⟨sL,hP⟩:St)) (hf:b=false->aC P c e Q (⟨sL,hP⟩:St)) (hx:ev sL x=some (.bool b,q):=by exact rfl):aC P c (.cond x t e) Q (⟨sL,hP⟩:St):=Yq hx ht hf
def cCd {x:Operand} {t e:Code} {p:Prop} {_:Decidable p} {q:PV} (ht:p->aC P c t Q (⟨sL,hP⟩:St)) (hf:¬p->aC P c e Q (⟨sL,hP⟩:St)) (hx:ev sL x=some (.bool (decide p),q):=by exact rfl):aC P c (.cond x t e) Q (⟨sL,hP⟩:St):=Yq hx (fun h=>ht (Qf h)) (fun h=>hf (Qg h))
def cX {A B C:Prop} (h1:B) (h2:C) (e:B->C->A:=by intro h1 h2;first|exact cCd h1 h2|exact cC h1 h2):A:=e h1 h2
def cCt {x:Operand} {t e:Code} {q:PV} (ht:aC P c t Q (⟨sL,hP⟩:St)) (hx:ev sL x=some (.bool true,q):=by exact rfl):aC P c (.cond x t e) Q (⟨sL,hP⟩:St):=Yq hx (fun _=>ht) (fun h=>Bool.noConfusion h)
def cCf {x:Operand} {t e:Code} {q:PV} (hf:aC P c e Q (⟨sL,hP⟩:St)) (hx:ev sL x=some (.bool false,q):=by exact rfl):aC P c (.cond x t e) Q (⟨sL,hP⟩:St):=Yq hx (fun h=>Bool.noConfusion h) (fun _=>hf)
def cA {dd:Prop} {f:Nat} {xs:Array Operand} {ats:Array TypeId} {es:List Ent} {ps:List PV} {R:PV->Prop} (hc:∀args w,(callFunc f args).run P w= .ok (.enter f args) w) (hA:AFd dd P f ps R) (ho:o.op= .call {callee:= .value (.func f),args:=xs,argTypes:=ats}:=by exact rfl) (hx:evL sL xs.toList=some es:=by exact rfl) (hps:es.map (·.2)=ps:=by exact rfl) (hdd:c.dr->dd:=by first|exact id|exact fun h=>h.elim|exact fun _=>trivial):LV P c (⟨sL,hP⟩:St) o R:=
 Hz ho hc hx (hps▸hA) hdd
def cS {p:PV} (d:Nat) (hC:LV P c (⟨sL,hP⟩:St) o (· =p)) (k:∀v,vOf p v->aL P c ops Q rest ⟨put d (v,p) sL,hP⟩) (hsh:isSh p=true:=by exact rfl) (hw:Yb ops sL o=some true:=by exact rfl) (hd:o.dst=some d:=by exact rfl) (hn:d<c.nt:=by exact Xa rfl):aL P c ops Q (o::rest) (⟨sL,hP⟩:St):=
 On d hw hd hn hC fun p' hp=>by subst hp;exact ⟨hsh,k⟩
def cO {p:PV} (d:Nat) (hC:LV P c (⟨sL,hP⟩:St) o (· =p)) (k:∀v,v.oneCell'=true->aL P c ops Q rest ⟨put d (v, .val v) sL,put d (v,p) hP⟩) (hok:Tm p=true:=by exact rfl) (hl:lk hP d=none:=by exact rfl) (hw:Yb ops sL o=some true:=by exact rfl) (hd:o.dst=some d:=by exact rfl) (hn:d<c.nt:=by exact Xa rfl):aL P c ops Q (o::rest) (⟨sL,hP⟩:St):=
 LX d hw hd hn hl hC fun p' hp=>by subst hp;exact ⟨hok,k⟩
end
def yV {v:Value} {d:Nat} (hy:YE P (⟨sL,hP⟩:St) o (vOf (.val v)) (.val v)) (k:aL P c ops Q rest ⟨put d (v, .val v) sL,hP⟩) (hw:Yb ops sL o=some true:=by exact rfl) (hd:o.dst=some d:=by exact rfl) (hn:d<c.nt:=by exact Xa rfl):aL P c ops Q (o::rest) (⟨sL,hP⟩:St):=yL d hy (fun u hu=>by cases hu;exact k) hw hd hn
def cV {v:Value} {d:Nat} (hC:LV P c (⟨sL,hP⟩:St) o (· = .val v)) (k:aL P c ops Q rest ⟨put d (v, .val v) sL,hP⟩) (hw:Yb ops sL o=some true:=by exact rfl) (hd:o.dst=some d:=by exact rfl) (hn:d<c.nt:=by exact Xa rfl):aL P c ops Q (o::rest) (⟨sL,hP⟩:St):=cS d hC (fun u hu=>by cases hu;exact k) rfl hw hd hn
def xK {v:Value} {p:PV} (d:Nat) (hy:YE P (⟨sL,hP⟩:St) o (· =v) p) (hw:Yb ops sL o=some true:=by exact rfl) (hd:o.dst=some d:=by exact rfl) (hn:d<c.nt:=by exact Nat.le_of_ble_eq_true rfl):aL P c ops Q rest ⟨put d (v,p) sL,hP⟩->aL P c ops Q (o::rest) (⟨sL,hP⟩:St):=fun k=>xL d hy k hw hd hn
def xM {v:Value} {p:PV} {d:Nat} (hy:YE P (⟨sL,hP⟩:St) o (· =v) p) (k:aL P c ops Q rest ⟨put d (v,p) sL,hP⟩) (hw:Yb ops sL o=some true:=by exact rfl) (hd:o.dst=some d:=by exact rfl) (hn:d<c.nt:=by exact Nat.le_of_ble_eq_true rfl):aL P c ops Q (o::rest) (⟨sL,hP⟩:St):=xL d hy k hw hd hn
def kK {d:Nat} (hw:Yb ops sL o=some false:=by exact rfl) (hd:o.dst=some d:=by exact rfl) (hn:d<c.nt:=by exact Nat.le_of_ble_eq_true rfl):aL P c ops Q rest ⟨put d (undef, .val undef) sL,hP⟩->aL P c ops Q (o::rest) (⟨sL,hP⟩:St):=fun k=>kL k hw hd hn
def rT {A B C:Prop} (e:C->A:=by first|exact xK _ Za|exact xK _ Wj|exact xK _ Yn|exact xK _ GO|exact xK _ Zio|exact xK _ Jb|exact xK _ T'|exact xK _ DV|exact xK _ HJ|exact xK _ G3|exact xK _ Zek|exact xK _ ZmQ|exact xK _ Zc8|exact xK _ ZgQ|exact xK _ ZgP|exact xK _ ZmP|exact xK _ RE) (g:B->C):B->A:=fun h=>e (g h)
def YU {A B:Prop} (h:B) (e:B->A:=by exact rT (g:=id)):A:=e h
def YW {A B:Prop} (h:B) (e:B->A:=by exact rT (g:=rT (g:=id))):A:=e h
def Y8 {A B:Prop} (h:B) (e:B->A:=by exact rT (g:=rT (g:=rT (g:=id)))):A:=e h
def LB {A B:Prop} (h:B) (e:B->A:=by exact rT (g:=rT (g:=rT (g:=rT (g:=id))))):A:=e h
def ZbT {A B:Prop} (h:B) (e:B->A:=by exact rT (g:=rT (g:=rT (g:=rT (g:=rT (g:=id)))))):A:=e h
def Wo {P:Program} {c:Ctx} {ops:Array Oper} {Q:Exit->Act->World->Prop} {Z:Nat->Bool} {K:List Nat} {fuel:Nat} {listed:Array Bool} {sL hP:List (Nat×Ent)} {B:Prop} (h:B) (e:B->aN c Q (⟨sL,hP⟩:St):=by intro h;(repeat (first|with_reducible refine ζB ?_|with_reducible refine Og ?_|with_reducible refine Hw ?_|with_reducible refine Oh ?_|with_reducible refine Hu ?_|with_reducible refine Hv ?_|with_reducible refine Hx ?_|with_reducible refine Oi ?_|with_reducible refine Oj rfl ?_|with_reducible refine ζC ?_|with_reducible refine Hy ?_|with_reducible refine Ol ?_));(try dsimp only);exact h) (hr:Region.ready .any ops listed=[]:=by kernel_rfl):aD P c ops Q Z K fuel listed (⟨sL,hP⟩:St):=Zr1 hr (e h)
def kZ {A B:Prop} (h:B) (e:B->A:=by first|exact kK|exact rT (g:=id)):A:=e h
def G4 {A B C:Prop} (e:C->A:=by exact fun h=>ZZ h) (g:B->C):B->A:=fun h=>e (g h)
def Gl {A B C:Prop} (e:C->A:=by exact fun h=>YT h) (g:B->C):B->A:=fun h=>e (g h)
def Rm {A B C:Prop} (e:C->A:=by exact fun h=>Zi h) (g:B->C):B->A:=fun h=>e (g h)
def D3 {A B C:Prop} (e:C->A:=by exact fun h=>Zp h) (g:B->C):B->A:=fun h=>e (g h)
def tkZ {A B C:Prop} (e:C->A:=by exact fun h=>kZ h) (g:B->C):B->A:=fun h=>e (g h)
def ZD {A B:Prop} (h:B) (e:B->A:=by exact rT (g:=G4 (g:=id))):A:=e h
def ZW {A B:Prop} (h:B) (e:B->A:=by exact rT (g:=Gl (g:=id))):A:=e h
def W2 {A B:Prop} (h:B) (e:B->A:=by exact rT (g:=rT (g:=G4 (g:=id)))):A:=e h
def ZF {A B:Prop} (h:B) (e:B->A:=by exact Rm (g:=rT (g:=G4 (g:=id)))):A:=e h
def ZC {A B C:Prop} (h1:B) (h2:C) (e:B/\C->A:=by exact G4 (g:=fun h=>cX h.1 h.2)):A:=e ⟨h1,h2⟩
def ZP {A B:Prop} (h:B) (e:B->A:=by exact Rm (g:=rT (g:=rT (g:=G4 (g:=id))))):A:=e h
def Zip {A B:Prop} (h:B) (e:B->A:=by exact rT (g:=rT (g:=rT (g:=G4 (g:=id))))):A:=e h
def WK {A B:Prop} (h:B) (e:B->A:=by exact Rm (g:=rT (g:=Gl (g:=id)))):A:=e h
def YQ {A B:Prop} (h:B) (e:B->A:=by exact Rm (g:=rT (g:=rT (g:=rT (g:=G4 (g:=id)))))):A:=e h
def Ys {A B C:Prop} (h1:B) (h2:C) (e:B/\C->A:=by exact Rm (g:=rT (g:=G4 (g:=fun h=>cX h.1 h.2)))):A:=e ⟨h1,h2⟩
def Kt {A B:Prop} (h:B) (e:B->A:=by exact Rm (g:=rT (g:=rT (g:=id)))):A:=e h
def Wg {A B C:Prop} (h1:B) (h2:C) (e:B/\C->A:=by exact rT (g:=G4 (g:=fun h=>cX h.1 h.2))):A:=e ⟨h1,h2⟩
def Wp {A B:Prop} (h:B) (e:B->A:=by exact Rm (g:=rT (g:=id))):A:=e h
def Wv {A B C:Prop} (h1:B) (h2:C) (e:B/\C->A:=by exact rT (g:=rT (g:=G4 (g:=fun h=>cX h.1 h.2)))):A:=e ⟨h1,h2⟩
def WL {A B:Prop} (h:B) (e:B->A:=by exact Rm (g:=rT (g:=rT (g:=rT (g:=id))))):A:=e h
def W8 {A B C:Prop} (h1:B) (h2:C) (e:B/\C->A:=by exact Rm (g:=rT (g:=rT (g:=G4 (g:=fun h=>cX h.1 h.2))))):A:=e ⟨h1,h2⟩
def KG {A B:Prop} (h:B) (e:B->A:=by exact rT (g:=Gl (g:=rT (g:=G4 (g:=id))))):A:=e h
def KQ {A B:Prop} (h:B) (e:B->A:=by exact rT (g:=Gl (g:=rT (g:=rT (g:=rT (g:=G4 (g:=id))))))):A:=e h
def Jh {A B:Prop} (h:B) (e:B->A:=by exact Rm (g:=rT (g:=rT (g:=Gl (g:=id))))):A:=e h
def Jx {A B:Prop} (h:B) (e:B->A:=by exact Rm (g:=rT (g:=Gl (g:=rT (g:=G4 (g:=id)))))):A:=e h
def JF {A B:Prop} (h:B) (e:B->A:=by exact rT (g:=rT (g:=Gl (g:=id)))):A:=e h
def JG {A B:Prop} (h:B) (e:B->A:=by exact rT (g:=Gl (g:=rT (g:=id)))):A:=e h
def J1 {A B:Prop} (h:B) (e:B->A:=by exact rT (g:=Gl (g:=rT (g:=rT (g:=G4 (g:=id)))))):A:=e h
def Gt {A B:Prop} (h:B) (e:B->A:=by exact D3 (g:=rT (g:=rT (g:=G4 (g:=id))))):A:=e h
def G8 {A B:Prop} (h:B) (e:B->A:=by exact D3 (g:=rT (g:=rT (g:=rT (g:=G4 (g:=id)))))):A:=e h
def J2 {A B:Prop} (h:B) (e:B->A:=by exact D3 (g:=rT (g:=id))):A:=e h
def Ts {A B:Prop} (h:B) (e:B->A:=by exact rT (g:=rT (g:=rT (g:=rT (g:=rT (g:=Gl (g:=id))))))):A:=e h
def RF {A B:Prop} (h:B) (e:B->A:=by exact Rm (g:=rT (g:=Gl (g:=rT (g:=rT (g:=id)))))):A:=e h
def PH {A B:Prop} (h:B) (e:B->A:=by exact Rm (g:=rT (g:=Gl (g:=rT (g:=id))))):A:=e h
def Ox {A B:Prop} (h:B) (e:B->A:=by exact Gl (g:=rT (g:=rT (g:=G4 (g:=id))))):A:=e h
def D4 {A B:Prop} (h:B) (e:B->A:=by exact Rm (g:=rT (g:=Gl (g:=rT (g:=Gl (g:=id)))))):A:=e h
def D5 {A B:Prop} (h:B) (e:B->A:=by exact rT (g:=Gl (g:=rT (g:=rT (g:=rT (g:=id)))))):A:=e h
def D6 {A B:Prop} (h:B) (e:B->A:=by exact Gl (g:=rT (g:=rT (g:=id)))):A:=e h
def D7 {A B:Prop} (h:B) (e:B->A:=by exact Gl (g:=rT (g:=rT (g:=rT (g:=G4 (g:=id)))))):A:=e h
def Kg {A B:Prop} (h:B) (e:B->A:=by exact tkZ (g:=rT (g:=rT (g:=id)))):A:=e h
def Ky {A B:Prop} (h:B) (e:B->A:=by exact tkZ (g:=tkZ (g:=id))):A:=e h
def WF {A B:Prop} (h:B) (e:B->A:=by exact tkZ (g:=rT (g:=G4 (g:=id)))):A:=e h
def KR {A B:Prop} (h:B) (e:B->A:=by exact tkZ (g:=rT (g:=rT (g:=G4 (g:=id))))):A:=e h
def RG {A B:Prop} (h:B) (e:B->A:=by exact tkZ (g:=tkZ (g:=rT (g:=G4 (g:=id))))):A:=e h
def sB {P:Prop} (e:P:=by repeat (first|exact trivial|refine ⟨rfl,?_⟩)):P:=e
def yU {p:PV} {V:Value->Prop} {d:Nat} (hy:YE P (⟨sL,hP⟩:St) o V p) (k:∀v,aL P c ops Q rest ⟨put d (v,p) sL,hP⟩) (hw:Yb ops sL o=some true:=by exact rfl) (hd:o.dst=some d:=by exact rfl) (hn:d<c.nt:=by exact Xa rfl):aL P c ops Q (o::rest) (⟨sL,hP⟩:St):=yL d hy (fun u _=>k u) hw hd hn
def cU {p:PV} {d:Nat} (hC:LV P c (⟨sL,hP⟩:St) o (· =p)) (k:∀v,aL P c ops Q rest ⟨put d (v,p) sL,hP⟩) (hsh:isSh p=true:=by exact rfl) (hw:Yb ops sL o=some true:=by exact rfl) (hd:o.dst=some d:=by exact rfl) (hn:d<c.nt:=by exact Xa rfl):aL P c ops Q (o::rest) (⟨sL,hP⟩:St):=cS d hC (fun u _=>k u) hsh hw hd hn
def Yl {P:Program} {c:Ctx} {Q:Exit->Act->World->Prop} {sL hP:List (Nat×Ent)} {ι:Type} {x:Code} (I:ι->St) (μ:ι->Nat) (i0:ι) (round:∀i,aC P c x (Exit.then (Zij c I μ i) Q) (I i)) (hs:Sub (I i0).slots sL:=by exact sB) (hh:Sub (I i0).heap hP:=by exact sB):aC P c (.loop x) Q (⟨sL,hP⟩:St):=Y0 I μ i0 (fun a w H=>H.weaken hs hh) round
def Yk {c:Ctx} {Q:Exit->Act->World->Prop} {sL hP:List (Nat×Ent)} {ι:Type} {I:ι->St} {μ:ι->Nat} {i:ι} (j:ι) (hμ:μ j<μ i:=by dsimp only;omega) (hs:Sub (I j).slots sL:=by exact sB) (hh:Sub (I j).heap hP:=by exact sB):aN c (Exit.then (Zij c I μ i) Q) (⟨sL,hP⟩:St):=Zh j hμ hs hh
def gS {α:Type} (l:List α) (k:Nat) (h:k<l.length:=by omega):∃x,l[k]? =some x:=Go.Cb.get_some h
def Yx {P:Program} {c:Ctx} {Q:Exit->Act->World->Prop} {sL hP:List (Nat×Ent)} {id:Nat} {l:List Oper} (Zl K:List Nat) (h:aD P c l.toArray Q (fun i=>Zl.elem i) K l.length (Array.replicate l.length false) (⟨sL,hP⟩:St)) (hm:P.follows .mixedOrders=true:=by kernel_rfl):aC P c (.region id l.toArray true) Q (⟨sL,hP⟩:St):=ZpK (fun i=>Zl.elem i) K hm h
abbrev zT:List Value:=[(.int .i64 0),(.string ByteArray.empty),(.slice none 0 0)]
def AF.b1 {P:Program} {f:FuncId} {fn:Func} {code:Code} {p0:PV} {R:PV->Prop} (nt:Nat) (hf:P.funcs[f]? =some fn) (hb:fn.body=some code) (hnt:fn.ntmps=nt) (hn:[p0].length<=nt) (h:∀(w0:World) (M0:BS) (v0:Value),vOf p0 v0->aC P ⟨w0,M0,fun _=>False,nt,False,[]⟩ code (bodyPost P fn (Lc ⟨w0,M0,fun _=>False,nt,False,[]⟩ R)) ⟨JD 0 [v0] [p0],[]⟩):AF P f [p0] R:=AF.of_body nt hf hb hnt hn fun w0 M0 vs hl hv=>by
 obtain ⟨v0,rfl⟩:=ZmF hl
 exact h w0 M0 v0 (hv 0 _ _ rfl rfl)
def AF.b2 {P:Program} {f:FuncId} {fn:Func} {code:Code} {p0 p1:PV} {R:PV->Prop} (nt:Nat) (hf:P.funcs[f]? =some fn) (hb:fn.body=some code) (hnt:fn.ntmps=nt) (hn:[p0,p1].length<=nt) (h:∀(w0:World) (M0:BS) (v0 v1:Value),vOf p0 v0->vOf p1 v1->aC P ⟨w0,M0,fun _=>False,nt,False,[]⟩ code (bodyPost P fn (Lc ⟨w0,M0,fun _=>False,nt,False,[]⟩ R)) ⟨JD 0 [v0,v1] [p0,p1],[]⟩):AF P f [p0,p1] R:=AF.of_body nt hf hb hnt hn fun w0 M0 vs hl hv=>by
 obtain ⟨v0,v1,rfl⟩:=ζH hl
 exact h w0 M0 v0 v1 (hv 0 _ _ rfl rfl) (hv 1 _ _ rfl rfl)
def AF.b3 {P:Program} {f:FuncId} {fn:Func} {code:Code} {p0 p1 p2:PV} {R:PV->Prop} (nt:Nat) (hf:P.funcs[f]? =some fn) (hb:fn.body=some code) (hnt:fn.ntmps=nt) (hn:[p0,p1,p2].length<=nt) (h:∀(w0:World) (M0:BS) (v0 v1 v2:Value),vOf p0 v0->vOf p1 v1->vOf p2 v2->aC P ⟨w0,M0,fun _=>False,nt,False,[]⟩ code (bodyPost P fn (Lc ⟨w0,M0,fun _=>False,nt,False,[]⟩ R)) ⟨JD 0 [v0,v1,v2] [p0,p1,p2],[]⟩):AF P f [p0,p1,p2] R:=AF.of_body nt hf hb hnt hn fun w0 M0 vs hl hv=>by
 obtain ⟨v0,v1,v2,rfl⟩:=Zs6 hl
 exact h w0 M0 v0 v1 v2 (hv 0 _ _ rfl rfl) (hv 1 _ _ rfl rfl) (hv 2 _ _ rfl rfl)
def AF.b4 {P:Program} {f:FuncId} {fn:Func} {code:Code} {p0 p1 p2 p3:PV} {R:PV->Prop} (nt:Nat) (hf:P.funcs[f]? =some fn) (hb:fn.body=some code) (hnt:fn.ntmps=nt) (hn:[p0,p1,p2,p3].length<=nt) (h:∀(w0:World) (M0:BS) (v0 v1 v2 v3:Value),vOf p0 v0->vOf p1 v1->vOf p2 v2->vOf p3 v3->aC P ⟨w0,M0,fun _=>False,nt,False,[]⟩ code (bodyPost P fn (Lc ⟨w0,M0,fun _=>False,nt,False,[]⟩ R)) ⟨JD 0 [v0,v1,v2,v3] [p0,p1,p2,p3],[]⟩):AF P f [p0,p1,p2,p3] R:=AF.of_body nt hf hb hnt hn fun w0 M0 vs hl hv=>by
 obtain ⟨v0,v1,v2,v3,rfl⟩:=Zty hl
 exact h w0 M0 v0 v1 v2 v3 (hv 0 _ _ rfl rfl) (hv 1 _ _ rfl rfl) (hv 2 _ _ rfl rfl) (hv 3 _ _ rfl rfl)
mutual
def shD:PV->Bool
 | .val _=>true
 | .sl _ _=>true
 | .sptr _ _=>true
 | .smap _=>true
 | .own _ _ _ _=>false
 | .omap _=>false
 | .obox _ _ _=>false
 | .agg ps=>Zke ps
 | .tup ps=>Zke ps
 | .fn _ _=>true
 | .oblk _ _ _ _=>false
def Zke:List PV->Bool
 |[]=>true
 |p::l=>shD p&&Zke l
end
def ζK:∀l:List PV,Zke l=l.all shD
 |[]=>by simp [Zke]
 |p::l=>by simp [Zke,ζK l]
def Tr.shD {M:BS} {w:World} {v:Value} {p:PV} {F:BS} (h:Tr M w v p F):En.shD p=true->Shr M w v p:=by
 induction h with
 |shr h _=>exact fun _=>h
 |own=>intro h;rw [En.shD] at h;cases h
 |omap=>intro h;rw [En.shD] at h;cases h
 |oblk=>intro h;rw [En.shD] at h;cases h
 |obox=>intro h;rw [En.shD] at h;cases h
 | @agg ps F vs Fs hl h hd hF ih=>
   intro hs;rw [En.shD,ζK] at hs;exact .agg vs ps hl fun i v p hv hp=>ih i v p hv hp (Xj.1 hs p (Xb hp))
 | @tup ps F vs Fs hl h hd hF ih=>
   intro hs;rw [En.shD,ζK] at hs;exact .tup vs ps hl fun i v p hv hp=>ih i v p hv hp (Xj.1 hs p (Xb hp))
section
variable {P:Program} {c:Ctx} {ops:Array Oper} {Q:Exit->Act->World->Prop} {rest:List Oper} {st:St} {sL hP:List (Nat×Ent)} {o:Oper} {Z:Nat->Bool} {K:List Nat} {fuel:Nat} {listed:Array Bool}
def Tr.fam {M:BS} {w:World} {Hs:List Value} {ps:List PV} {F:BS} (h:Tr M w (.agg Hs.toArray) (.agg ps) F):∃Fs:Nat->BS,Hs.length=ps.length/\(∀(i:Nat) (v:Value) (p:PV),Hs[i]? =some v->ps[i]? =some p->Tr M w v p (Fs i))/\
 (∀i j b,i<ps.length->j<ps.length->i≠j->Fs i b->¬Fs j b)/\(∀b,F b↔∃i,i<ps.length/\Fs i b):=by
 generalize hv:Value.agg Hs.toArray=v at h
 generalize hq:PV.agg ps=q at h
 cases h with
 | shr h hF=>
   cases h with
   | agg vs ps' hl h=>
     cases hq;(have:vs=Hs:=by injection hv with hv;simpa using hv.symm);subst this;exact ⟨fun _ _=>False,hl,fun i v p h1 h2=> .shr (h i v p h1 h2) (fun _ h=>h),fun _ _ _ _ _ _ h=>h.elim,fun b=>⟨fun h=>(hF b h).elim,fun ⟨_,_,h⟩=>h.elim⟩⟩
   |_=>cases hq
 | agg vs Fs hl h hd hF=>
   cases hq;have:vs=Hs:=by injection hv with hv;simpa using hv.symm
   subst this;exact ⟨Fs,hl,h,hd,hF⟩
 |_=>cases hq
def Zda {l e n:Nat} {h:Value} {cs:List PV} (l':Nat) (hl:lk hP l=some (h, .own e 1 n cs)) (hl':lk hP l'=none):
 Tn (⟨sL,hP⟩:St) (fun Hs:{Hs:List Value//Hs.length=cs.length}=>⟨sL,put l' (.agg Hs.1.toArray, .agg cs) (put l (h, .own e 1 n (Hs.1.map .val)) hP)⟩):=fun c a w ⟨F,H⟩=>by
 have hne:l'≠l:=fun e=>by subst e;rw [hl] at hl';cases hl'
 have hTr:=H.tr l _ _ hl
 obtain ⟨xs,Fs,hrow,hlen,hT,hd,hb,hF⟩:=hTr.row
 refine ⟨⟨xs,hlen.symm⟩,fun x=>if x=l' then (fun b=>∃i,i<cs.length/\Fs i b) else if x=l then (fun b=>h.ownBlock=some b) else F x,?_⟩
 refine H.retell (fun x=>x=l\/x=l') (fun x y hnT hx=>?_) (fun x y b hTx hx hb'=>?_) (fun hmm x u q hTx hx=>?_) (fun x1 x2 y1 y2 b h1 h2 hne' hx1 hx2 hb1 hb2=>?_)
 . have n1:x≠l:=fun e=>hnT (.inl e);have n2:x≠l':=fun e=>hnT (.inr e);rw [Yy (Ne.symm n2),Yy (Ne.symm n1)] at hx;exact ⟨hx,by simp [n1,n2]⟩
 . refine ⟨l,_, .inl rfl,hl,?_⟩;rcases hTx with rfl|rfl
   . simp only [Ne.symm hne,if_false,if_true] at hb';exact (hF b).2 (.inl hb')
   simp only [if_true] at hb';obtain ⟨i,hi,h1⟩:=hb';exact (hF b).2 (.inr ⟨i,hi,h1⟩)
 . rcases hTx with rfl|rfl
   . rw [Yy hne,Z3] at hx
     cases hx;simp only [Ne.symm hne,if_false,if_true];refine .own xs (fun _ _=>False) hrow sM (fun i x q hx9 hq=>?_) (fun _ _ _ _ _ _ h=>h.elim) (fun _ _ _ h=>h.elim) (fun b=>⟨fun h=> .inl h,fun h=>h.elim id fun ⟨_,_,h⟩=>h.elim⟩);rw [Xl,hx9] at hq
     cases hq;exact .shr (.val _) (fun _ h=>h)
   rw [Z3] at hx
   cases hx;simp only [if_true];exact .agg xs Fs hlen.symm (fun i v p h1 h2=>(hT i v p h1 h2).anti hmm) hd (fun b=>Iff.rfl)
 rcases h1 with rfl|rfl
 . rcases h2 with rfl|rfl
   . exact hne' rfl
   simp only [Ne.symm hne,if_false,if_true] at hb1 hb2;obtain ⟨i,hi,h3⟩:=hb2;exact hb i b hi h3 hb1
 rcases h2 with rfl|rfl
 . simp only [Ne.symm hne,if_false,if_true] at hb1 hb2;obtain ⟨i,hi,h3⟩:=hb1;exact hb i b hi h3 hb2
 exact hne' rfl
def Zdb {l l' e k n:Nat} {h:Value} {cs0 cs:List PV} {Hs:List Value} (hl:lk hP l=some (h, .own e k n cs0)) (hl':lk hP l'=some (.agg Hs.toArray, .agg cs)) (hcs:cs0=Hs.map .val) (hne0:Nat.beq l l'=false):
 Tn (⟨sL,hP⟩:St) (fun _:Unit=>⟨sL,put l (h, .own e k n cs) (del l' hP)⟩):=fun c a w ⟨F,H⟩=>by
 have hne:l≠l':=fun e=>by subst e;simp at hne0
 have hTr:=H.tr l _ _ hl
 have hTr':=H.tr l' _ _ hl'
 obtain ⟨xs,Fs,hrow,hlen,hT,hd,hb,hF⟩:=hTr.row
 obtain ⟨Gs,hlen',hT',hd',hF'⟩:=hTr'.fam
 have hx:xs=Hs:=by
  apply VT;intro i;rcases XL i xs.length with hi|hi
  . obtain ⟨x,hx⟩:=YV hi;obtain ⟨p,hp⟩:=Wc hx hlen.symm;have h1:=hp;rw [hcs,Xl,XU] at h1;obtain ⟨y,hy,rfl⟩:=h1;have:x=y:=((hT i x _ hx hp).sh rfl).vOf;rw [hx,hy,this]
  rw [X' hi,X' (by rw [<-hlen,hcs,Xc] at hi;exact hi)]
 subst hx
 refine ⟨(),fun x=>if x=l then (fun b=>F l b\/F l' b) else F x,?_⟩
 refine H.retell (fun x=>x=l\/x=l') (fun x y hnT hx=>?_) (fun x y b hTx hx hb'=>?_) (fun hmm x u q hTx hx=>?_) (fun x1 x2 y1 y2 b h1 h2 hne' hx1 hx2 hb1 hb2=>?_)
 . have n1:x≠l:=fun e=>hnT (.inl e);rw [Yy (Ne.symm n1)] at hx;exact ⟨(Wt hx).2,by simp [n1]⟩
 . rcases YC hx with ⟨rfl,_⟩|⟨n1,hx2⟩
   . simp only [if_true] at hb';rcases hb' with h1|h1
     . exact ⟨l,_, .inl rfl,hl,h1⟩
     exact ⟨l',_, .inr rfl,hl',h1⟩
   rcases hTx with e1|e1
   . exact Qe e1.symm n1
   exact Qe e1.symm (Wt hx2).1
 . rcases YC hx with ⟨rfl,e1⟩|⟨n1,hx2⟩
   . cases e1;simp only [if_true];refine .own xs Gs hrow hlen'.symm (fun i v p h1 h2=>(hT' i v p h1 h2).anti hmm) hd' (fun i b hi h1 h2=>?_) (fun b=>?_)
     . exact H.dj l l' _ _ b hne hl hl' ((hF b).2 (.inl h2)) ((hF' b).2 ⟨i,hi,h1⟩)
     have hnone:∀i,i<cs0.length->∀b,F l b->Fs i b->h.ownBlock=some b\/∃i,i<cs.length/\Gs i b:=fun i hi b _ hFs=>by
      obtain ⟨p,hp⟩:=YV hi;obtain ⟨x,hx9⟩:=Wc hp hlen;have h3:=hT i x p hx9 hp;rw [hcs,Xl,XU] at hp;obtain ⟨y,_,rfl⟩:=hp
      cases h3 with
      |shr _ hn=>exact (hn b hFs).elim
     constructor
     . rintro (h1|h1)
       . rcases (hF b).1 h1 with h2|⟨i,hi,h2⟩
         . exact .inl h2
         exact hnone i hi b h1 h2
       exact .inr ((hF' b).1 h1)
     rintro (h1|h1)
     . exact .inl ((hF b).2 (.inl h1))
     exact .inr ((hF' b).2 h1)
   rcases hTx with e1|e1
   . exact Qe e1.symm n1
   exact Qe e1.symm (Wt hx2).1
 have key:∀x y,(x=l\/x=l')->lk (put l (h,PV.own e k n cs) (del l' hP)) x=some y->x=l:=fun x y h3 h4=>by
  rcases h3 with h3|h3
  . exact h3
  rcases YC h4 with ⟨e1,_⟩|⟨_,e1⟩
  . exact e1.symm
  exact Qe h3.symm (Wt e1).1
 exact hne' ((key _ _ h1 hx1).trans (key _ _ h2 hx2).symm)
def Ziq {l i:Nat} {Hs:List Value} {ps:List PV} {v:Value} {p:PV} (l':Nat) (hl:lk hP l=some (.agg Hs.toArray, .agg ps)) (hv:Hs[i]? =some v) (hp:ps[i]? =some p) (hl':lk hP l'=none):
 Tn (⟨sL,hP⟩:St) (fun _:Unit=>⟨sL,put l' (v,p) (put l (.agg Hs.toArray, .agg (ps.set i (.val v))) hP)⟩):=fun c a w ⟨F,H⟩=>by
 have hne:l'≠l:=fun e=>by subst e;rw [hl] at hl';cases hl'
 have hTr:=H.tr l _ _ hl
 obtain ⟨Fs,hlen,hT,hd,hF⟩:=hTr.fam
 have hj:=Zd hp
 refine ⟨(),fun x=>if x=l' then Fs i else if x=l then (fun b=>∃j,j<ps.length/\j≠i/\Fs j b) else F x,?_⟩
 refine H.retell (fun x=>x=l\/x=l') (fun x y hnT hx=>?_) (fun x y b hTx hx hb'=>?_) (fun hmm x u q hTx hx=>?_) (fun x1 x2 y1 y2 b h1 h2 hne' hx1 hx2 hb1 hb2=>?_)
 . have n1:x≠l:=fun e=>hnT (.inl e);have n2:x≠l':=fun e=>hnT (.inr e);rw [Yy (Ne.symm n2),Yy (Ne.symm n1)] at hx;exact ⟨hx,by simp [n1,n2]⟩
 . refine ⟨l,_, .inl rfl,hl,?_⟩;rcases hTx with rfl|rfl
   . simp only [Ne.symm hne,if_false,if_true] at hb';obtain ⟨j,hj',_,h1⟩:=hb';exact (hF b).2 ⟨j,hj',h1⟩
   simp only [if_true] at hb';exact (hF b).2 ⟨i,hj,hb'⟩
 . rcases hTx with rfl|rfl
   . rw [Yy hne,Z3] at hx
     cases hx;simp only [Ne.symm hne,if_false,if_true];refine .agg Hs (fun j b=>if j=i then False else Fs j b) (by simpa using hlen) (fun j x q hx9 hq=>?_) (fun j j' b hi hi' hne' h1 h2=>?_) (fun b=>?_)
     . by_cases hij:j=i
       . subst hij;rw [XK hj] at hq
         cases hq;rw [hv] at hx9;cases hx9;exact .shr (.val _) (fun b h=>by simp at h)
       rw [X9 (Ne.symm hij)] at hq;simp only [hij,if_false];exact (hT j x q hx9 hq).anti hmm
     . simp only [Xm] at hi hi';split at h1
       . exact h1
       split at h2
       . exact h2
       exact hd j j' b hi hi' hne' h1 h2
     simp only [Xm];constructor
     . rintro ⟨j,hj',hij,h1⟩;exact ⟨j,hj',by simp [hij,h1]⟩
     rintro ⟨j,hj',h1⟩;split at h1
     . exact h1.elim
     exact ⟨j,hj',by assumption,h1⟩
   rw [Z3] at hx
   cases hx;simp only [if_true];exact (hT i _ _ hv hp).anti hmm
 rcases h1 with rfl|rfl
 . rcases h2 with rfl|rfl
   . exact hne' rfl
   simp only [Ne.symm hne,if_false,if_true] at hb1 hb2;obtain ⟨j,hj',hij,h3⟩:=hb1;exact hd j i b hj' hj hij h3 hb2
 rcases h2 with rfl|rfl
 . simp only [Ne.symm hne,if_false,if_true] at hb1 hb2;obtain ⟨j,hj',hij,h3⟩:=hb2;exact hd j i b hj' hj hij h3 hb1
 exact hne' rfl
def Zir {l l' i:Nat} {Hs:List Value} {ps:List PV} {v:Value} {p:PV} (hl:lk hP l=some (.agg Hs.toArray, .agg ps)) (hv:Hs[i]? =some v) (hp:ps[i]? =some (.val v)) (hl':lk hP l'=some (v,p)) (hne0:Nat.beq l l'=false):
 Tn (⟨sL,hP⟩:St) (fun _:Unit=>⟨sL,put l (.agg Hs.toArray, .agg (ps.set i p)) (del l' hP)⟩):=fun c a w ⟨F,H⟩=>by
 have hne:l≠l':=fun e=>by subst e;simp at hne0
 have hTr:=H.tr l _ _ hl
 have hTr':=H.tr l' _ _ hl'
 obtain ⟨Fs,hlen,hT,hd,hF⟩:=hTr.fam
 have hj:=Zd hp
 have hFi:∀j b,j<ps.length->Fs j b->F l b:=fun j b hi hb'=>(hF b).2 ⟨j,hi,hb'⟩
 refine ⟨(),fun x=>if x=l then (fun b=>∃j,j<ps.length/\(if j=i then F l' b else Fs j b)) else F x,?_⟩
 refine H.retell (fun x=>x=l\/x=l') (fun x y hnT hx=>?_) (fun x y b hTx hx hb'=>?_) (fun hmm x u q hTx hx=>?_) (fun x1 x2 y1 y2 b h1 h2 hne' hx1 hx2 hb1 hb2=>?_)
 . have n1:x≠l:=fun e=>hnT (.inl e);rw [Yy (Ne.symm n1)] at hx;exact ⟨(Wt hx).2,by simp [n1]⟩
 . rcases YC hx with ⟨rfl,_⟩|⟨n1,hx2⟩
   . simp only [if_true] at hb';obtain ⟨j,hj',h1⟩:=hb';split at h1
     . exact ⟨l',_, .inr rfl,hl',h1⟩
     exact ⟨l,_, .inl rfl,hl,hFi j b hj' h1⟩
   rcases hTx with e1|e1
   . exact Qe e1.symm n1
   exact Qe e1.symm (Wt hx2).1
 . rcases YC hx with ⟨rfl,e1⟩|⟨n1,hx2⟩
   . cases e1;simp only [if_true];refine .agg Hs (fun j b=>if j=i then F l' b else Fs j b) (by simpa using hlen) (fun j x q hx9 hq=>?_) (fun j j' b hi hi' hne' h1 h2=>?_) (fun b=>by simp only [Xm])
     . by_cases hij:j=i
       . subst hij;rw [XK hj] at hq
         cases hq;rw [hv] at hx9;cases hx9;simp only [if_true];exact hTr'.anti hmm
       rw [X9 (Ne.symm hij)] at hq;simp only [hij,if_false];exact (hT j x q hx9 hq).anti hmm
     simp only [Xm] at hi hi';split at h1
     . split at h2
       . omega
       exact H.dj l l' _ _ b hne hl hl' (hFi j' b hi' h2) h1
     split at h2
     . exact H.dj l l' _ _ b hne hl hl' (hFi j b hi h1) h2
     exact hd j j' b hi hi' hne' h1 h2
   rcases hTx with e1|e1
   . exact Qe e1.symm n1
   exact Qe e1.symm (Wt hx2).1
 have key:∀x y,(x=l\/x=l')->lk (put l (Value.agg Hs.toArray,PV.agg (ps.set i p)) (del l' hP)) x=some y->x=l:=fun x y h3 h4=>by
  rcases h3 with h3|h3
  . exact h3
  rcases YC h4 with ⟨e1,_⟩|⟨_,e1⟩
  . exact e1.symm
  exact Qe h3.symm (Wt e1).1
 exact hne' ((key _ _ h1 hx1).trans (key _ _ h2 hx2).symm)
def ZmT {M:BS} {w:World} {Hs:List Value} {ps:List PV} {F:BS} {i:Nat} {v:Value} {p:PV} (h:Tr M w (.agg Hs.toArray) (.agg ps) F) (hv:Hs[i]? =some v) (hp:ps[i]? =some p):∃G,Tr M w v p G/\∀b,G b->F b:=by
 obtain ⟨Fs,hlen,hT,hd,hF⟩:=h.fam
 exact ⟨Fs i,hT i v p hv hp,fun b hb=>(hF b).2 ⟨i,Zd hp,hb⟩⟩
def SJ {t e k e' k' n i:Nat} {x y:Operand} {h:Value} {p q:PV} {Hs:List Value} {ps cs:List PV} {kd:IntKind} {j:Nat} (l:Nat) (hT:SlT P t e k=true) (ho:o.op= .indexAddr t x y:=by exact rfl) (hx:ev st.slots x=some (h,p):=by exact rfl) (hy:ev st.slots y=some (.int kd (j:Int),q):=by exact rfl) (hl:lk st.heap l=some (.agg Hs.toArray, .agg ps):=by exact rfl) (hH:Hs[i]? =some h:=by assumption) (hps:ps[i]? =some (.own e' k' n cs):=by assumption) (h1:j<n:=by first|omega|assumption):
 YE P st o (· =padd (sbase h) (j*k)) (.val (padd (sbase h) (j*k))):=
 .exact fun M F a w H=>by
  have hv:=(H.ev hx).1;have hi:=(H.ev hy).1;obtain ⟨G,hG,_⟩:=ZmT (H.tr l _ _ hl) hH hps;obtain ⟨g,cap,rfl,_⟩:=GM hG oM;refine ⟨.val _,?_⟩;have:=Ri (P:=P) hT (b:=g) (off:=0) (n:=n) (c:=cap) (kd:=kd) (i:=(j:Int)) oM oM w;simp [execOp,ho,hv,hi,this,sbase,padd]
def ZbU {t e k n i j:Nat} {x:Operand} {h:Value} {q:PV} {Hs:List Value} {ps cs:List PV} {p:PV} (l:Nat) (hT:NoAgg P t=true) (ho:o.op= .load t x:=by exact rfl) (hx:ev st.slots x=some (padd (sbase h) j,q):=by exact rfl) (hl:lk st.heap l=some (.agg Hs.toArray, .agg ps):=by exact rfl) (hH:Hs[i]? =some h:=by assumption) (hps:ps[i]? =some (.own e k n cs):=by assumption) (hp:cs[j]? =some p:=by assumption) (hsh:isSh p=true:=by exact rfl):
 YE P st o (vOf p) p:=fun M F a w H=>by
 have hv:=(H.ev hx).1
 obtain ⟨G,hG,hGF⟩:=ZmT (H.tr l _ _ hl) hH hps
 obtain ⟨xs,Fs,hrow,hlen,hTr,hd,hb,hF'⟩:=hG.row
 have hj:=Zd hp
 rcases Kv hrow with ⟨_,_,rfl⟩|⟨g,cap,rfl,h1,h2,h3⟩
 . simp at hlen;rw [hlen] at hj;simp at hj
 obtain ⟨y,hy⟩:=Wc hp hlen
 have hS:=(hTr j y p hy hp).sh hsh
 refine ⟨y,hS.vOf,hS,fun N W hch hN hF=>?_⟩
 have:=Py hch (hF l _ g hl (hGF g ((hF' g).2 (.inl rfl)))) (JC hrow hy)
 simp only [sbase,padd,XC] at hv
 simp [execOp,ho,hv,Instr.loadAt,Instr.sureAddr,loadVar,NoAgg.run hT,load,Sem.run,this]
def Ku {x:Operand} {v:Value} {j:Nat} {cs:List PV} (ho:o.op= .nilCheck x:=by exact rfl) (hx:ev st.slots x=some (v, .sptr j cs):=by exact rfl):YE P st o (· =v) (.sptr j cs):=
 .exact fun M F a w H=>by
  obtain ⟨hv,hs⟩:=H.ev hx
  cases hs with
  |sptr b off j cs vs hcell hT'=>exact ⟨.sptr b off j cs vs hcell hT',by simp [execOp,ho,hv]⟩
def RH {x:Operand} {h:Value} {q:PV} {j e k n:Nat} {cs:List PV} (l:Nat) (ho:o.op= .nilCheck x:=by exact rfl) (hx:ev st.slots x=some (padd (sbase h) j,q):=by exact rfl) (hl:lk st.heap l=some (h, .own e k n cs):=by exact rfl) (hn:0<n:=by first|omega|decide):YE P st o (· =padd (sbase h) j) (.val (padd (sbase h) j)):=
 .exact fun M F a w H=>by
  have hv:=(H.ev hx).1;obtain ⟨g,cap,rfl,_⟩:=GM (H.tr l _ _ hl) hn;refine ⟨.val _,?_⟩;simp only [sbase,padd] at hv ⊢;simp [execOp,ho,hv]
def TH {l t j e k n:Nat} {h:Value} {cs:List PV} {q:PV} (hl:lk hP l=some (h, .own e k n cs)) (hn:0<n) (ht:lk sL t=some (padd (sbase h) j,q)):Tn (⟨sL,hP⟩:St) (fun _:Unit=>⟨put t (padd (sbase h) j, .sptr j (Wi cs)) sL,del l hP⟩):=fun c a w ⟨F,H⟩=>by
 refine ⟨(),F,?_⟩
 have hm:∀b,mof c (del l hP) F b->mof c hP F b:=by
  rintro b (h|⟨l',x,h1,h2⟩)
  . exact .inl h
  exact .inr ⟨l',x,(Wt h1).2,h2⟩
 have H1:HoldsF c ⟨sL,del l hP⟩ F a w:=H.less (fun _ _ h=>h) (fun _ _ h=>(Wt h).2)
 refine ⟨H1.toHeapF,fun s u r hs=>?_,H.size,H.df⟩
 rcases YC hs with ⟨rfl,e1⟩|⟨_,hs'⟩
 . cases e1;refine ⟨(H.sl t _ _ ht).1,?_⟩;obtain ⟨g,cap,rfl,_⟩:=GM (H.tr l _ _ hl) hn;have h2:=(H.tr l _ _ hl).share (M':=mof c (del l hP) F) (fun b _ h=>hm b h) fun b hb hmb=>by
    rcases hmb with h1|⟨l',x,h1,h2⟩
    . exact H.apart h1 hl hb
    exact H.dj l l' _ _ b (Wt h1).1 hl (Wt h1).2 hb h2
   rw [share] at h2;generalize Wi cs=cs' at h2 ⊢
   cases h2 with
   |emp=>omega
   |sl _ _ _ _ _ vs _ _ hcell hT=>exact .sptr g 0 j cs' vs hcell hT
 exact H1.sl s u r hs'
def ζL {l e k n g cap b off nn cc:Nat} {h:Value} {y:Operand} {cs2:List PV} {a:Act} (hh:h= .slice (some ⟨g,0,none⟩) n cap) (hy:ev sL y=some (.slice (some ⟨b,off,none⟩) nn cc, .sl nn cs2)) (hone:cs2.all one=true) (vs:List Value) (hvl:vs.length=cs2.length):
 ∀ (m i:Nat) (cs:List PV) (w:World) (F:Nat->BS) (hp:List (Nat×Ent)),HoldsF c ⟨sL,hp⟩ F a w->lk hp l=some (h, .own e k n cs)->i+m=cs2.length->i+m<=cs.length->(∀(j:Nat) (v:Value),vs[j]? =some v->w.cell? ⟨b,off+j,none⟩=some v)->
  ∃w' F' hp',(storeCells ⟨g,0,none⟩ (vs.drop i) i).run P w= .ok () w'/\HoldsF c ⟨sL,hp'⟩ F' a w'/\lk hp' l=some (h, .own e k n (G7 cs i (cs2.drop i)))/\∀l',l'≠l->lk hp' l'=lk hp l'
 | 0,i,cs,w,F,hp,H,hl,hi,hj,hcl=>by
   refine ⟨w,F,hp,?_,H,?_,fun _ _=>rfl⟩
   . rw [XO oM];rfl
   rw [XO (by omega:cs2.length<=i)];exact hl
 | m + 1,i,cs,w,F,hp,H,hl,hi,hj,hcl=>by
   obtain ⟨_,hS⟩:=H.rd.ev hy;have hi':i<cs2.length:=oM;obtain ⟨p,hp'⟩:=YV hi';obtain ⟨v,hv⟩:=Wc hp' hvl.symm;have hTr:=H.tr l _ _ hl;obtain ⟨xs,Fs,hrow,hlen,_,_,_,hFF⟩:=hTr.row;have hgM:mof c hp F g:= .inr ⟨l,_,hl,(hFF g).2 (.inl (by subst hh;rfl))⟩;have hSv:Shr (mof c hp F) w v p/\b≠g:=by
    generalize hu:Value.slice (some ⟨b,off,none⟩) nn cc=u at hS
    cases hS with
    |emp=>simp at hi'
    | sl b' off' n' c' cs' vs' hn hc hcell hT=>
      cases hu;have h1:=(hcell i hi').1;rw [hcl i v hv] at h1
      cases h1;exact ⟨hT i p hp',fun e=>(hcell i hi').2 (e▸hgM)⟩
   have h1:one p=true:=Xj.1 hone p (Xb hp');obtain ⟨F1,H1⟩:=O8 H hl hh (show i<cs.length by omega) hSv.1;obtain ⟨w',F',hp2,hr,H2,hl2,hsame⟩:=ζL hh hy hone vs hvl m (i+1) (cs.set i p) _ F1 _ H1 (Z3 _ _ _) oM (by simp;omega) (fun j u hu=>Py (Chg.setCell w ⟨g,i,none⟩ v) hSv.2 (hcl j u hu));refine ⟨w',F',hp2,?_,H2,?_,fun l' hne=>by rw [hsame l' hne,Yy (Ne.symm hne)]⟩
   . subst hh;obtain ⟨z,hz⟩:=YV (show i<xs.length by omega);have hcell:=JC hrow hz;have hfr:=hrow.frozenAt i;rw [Ve (Zd hv),show vs[i]'(Zd hv)=v from (Xk.1 hv).2,storeCells];simp only [Sem.run_bind,run_store _ _ _ _ _ (hSv.1.one h1),Kk,XC,hcell,hfr,VG,if_false,Result.andThen_ok];exact hr
   rw [hl2,Ve hi',show cs2[i]'hi'=p from (Xk.1 hp').2,G7]
def Zem:∀(ps pre suf:List PV),suf.length=ps.length->G7 (pre++suf) pre.length ps=pre++ps
 | [],pre,suf,h=>by
   have:suf=[]:=Xv h;subst this;rfl
 |p::ps,pre,[],h=>by simp at h
 | p::ps,pre,q::suf,h=>by
   rw [G7];have h1:(pre++q::suf).set pre.length p=(pre++[p])++suf:=sM;rw [h1,show pre.length+1=(pre++[p]).length by simp,Zem ps (pre++[p]) suf (by simpa using h)];simp
def ld0 (P:Program) (a:Addr) (w:World):(loadCells a 0).run P w= .ok #[] w:=run_loadCells_list (P:=P) (w:=w) a [] (fun j v h=>by simp at h)
def Zr3 {t e e' n:Nat} {x y:Operand} {h v:Value} {q:PV} {cs cs2:List PV} (l d:Nat) (hT:SlT P t e 1=true) (k:aL P c ops Q rest ⟨put d (.int .i64 n, .val (.int .i64 n)) sL,put l (h, .own e' 1 n cs2) hP⟩)
 (hlen:cs2.length=n) (hone:cs2.all one=true) (hw:Yb ops sL o=some true:=by exact rfl) (hd:o.dst=some d:=by exact rfl) (hn:d<c.nt:=by exact Xa rfl) (ho:o.op= .call {callee:= .builtin .copy,args:= #[x,y],argTypes:= #[t,t]}:=by exact rfl)
 (hx:ev sL x=some (h,q):=by exact rfl) (hy:ev sL y=some (v, .sl n cs2):=by exact rfl) (hl:lk hP l=some (h, .own e' 1 n cs):=by exact rfl):aL P c ops Q (o::rest) (⟨sL,hP⟩:St):=
 W1 hw fun a w F H=>by
  have hxv:=(H.rd.ev hx).1;obtain ⟨hyv,hS⟩:=H.rd.ev hy;have hTr:=H.tr l _ _ hl;obtain ⟨xs,Fs,hrow,hlen1,_⟩:=hTr.row;have hcsl:cs.length=n:=by rw [hlen1,hrow.1,XJ]
  have fin:∀F' hp' w',HoldsF c ⟨sL,hp'⟩ F' a w'->lk hp' l=some (h, .own e' 1 n cs2)->(∀l',l'≠l->lk hp' l'=lk hP l')->Holds c ⟨put d (.int .i64 n, .val (.int .i64 n)) sL,put l (h, .own e' 1 n cs2) hP⟩ (a.put (some d) (.int .i64 n)) w':=fun F' hp' w' H' hl' hsame=>by
   have H2:HoldsF c ⟨sL,put l (h, .own e' 1 n cs2) hP⟩ F' a w':=H'.less (fun _ _ h=>h) fun t x hx=>?_
   . exact ⟨F',H2.put hn (.val _)⟩
   rcases YC hx with ⟨rfl,rfl⟩|⟨hne,e1⟩
   . exact hl'
   show lk hp' t=_;rw [hsame t (Ne.symm hne)];exact e1
  rcases Kv hrow with ⟨rfl,rfl,rfl⟩|⟨g,cap,rfl,h1,h2,h3⟩
  . have hc2:cs2=[]:=Xv hlen;subst hc2;have hc:cs=[]:=Xv hcsl;subst hc;have hrun:(execOp a.eval o).run P w= .ok (.value (.int .i64 0)) w:=by
     have hfc:∀s,(Builtin.firstCells s 0 v).run P w= .ok #[] w/\(Builtin.lenOf v).run P w= .ok 0 w:=fun s=>by
      cases hS with
      |emp a' c'=>cases a'<;>simp [Builtin.firstCells,Builtin.lenOf,ld0]
      |sl b off n' c' cs' vs'=>simp [Builtin.firstCells,Builtin.lenOf,ld0]
     simp [execOp,ho,hxv,hyv,resolve,invoke,builtin,Builtin.copy_,run_underlying (SlT.und hT),SlT.size hT,(hfc _).1,(hfc 0).2,goInt]
    unfold Oper.wp;rw [hrun];simp only [Oper.upon,hd];exact k _ _ (fin F hP w H hl (fun _ _=>rfl))
  rcases V1 n with h0|h0
  . subst h0;have hc2:cs2=[]:=Xv hlen;subst hc2;have hc:cs=[]:=Xv hcsl;subst hc;have hrun:(execOp a.eval o).run P w= .ok (.value (.int .i64 0)) w:=by
     have hfc:∀s,(Builtin.firstCells s 0 v).run P w= .ok #[] w/\(Builtin.lenOf v).run P w= .ok 0 w:=fun s=>by
      cases hS with
      |emp a' c'=>cases a'<;>simp [Builtin.firstCells,Builtin.lenOf,ld0]
      |sl b off n' c' cs' vs'=>simp [Builtin.firstCells,Builtin.lenOf,ld0]
     simp [execOp,ho,hxv,hyv,resolve,invoke,builtin,Builtin.copy_,run_underlying (SlT.und hT),SlT.size hT,(hfc _).1,(hfc 0).2,goInt,storeCells]
    unfold Oper.wp;rw [hrun];simp only [Oper.upon,hd];exact k _ _ (fin F hP w H hl (fun _ _=>rfl))
  generalize hvv:v=v0 at hS
  cases hS with
  |emp=>omega
  | sl b off n' cc cs' vs hn' hc' hcell hT'=>
    subst hvv;have hcl:∀(j:Nat) (u:Value),((List.range n).map vs)[j]? =some u->w.cell? ⟨b,off+j,none⟩=some u:=fun j u hu=>by
     (have hj:j<n:=by have:=Zd hu;simpa using this);simp [hj] at hu;subst hu;exact (hcell j oM).1
    have hld:=run_loadCells_list (P:=P) (w:=w) ⟨b,off,none⟩ ((List.range n).map vs) (fun j u hu=>by rw [Kk];exact hcl j u hu);rw [Xc,VP] at hld;obtain ⟨w',F',hp',hr,H',hl',hsame⟩:=ζL (P:=P) (c:=c) (a:=a) rfl hy hone ((List.range n).map vs) (by simp [hlen]) n 0 cs w F hP H hl oM oM hcl;have hset:G7 cs 0 cs2=cs2:=by
     have:=Zem cs2 [] cs oM;simpa using this
    rw [Vf,hset] at hl';rw [Vf] at hr;have hrun:(execOp a.eval o).run P w= .ok (.value (.int .i64 n)) w':=by
     simp [execOp,ho,hxv,hyv,resolve,invoke,builtin,Builtin.copy_,Builtin.lenOf,Builtin.firstCells,run_underlying (SlT.und hT),SlT.size hT,hld,hr,goInt]
    unfold Oper.wp;rw [hrun];simp only [Oper.upon,hd];exact k _ _ (fin F' hp' w' H' hl' hsame)
def Zen {α:Type}:∀h:List (Nat×α),∃m,∀t,m<=t->lk h t=none
 |[]=>⟨0,fun _ _=>rfl⟩
 | (k,x)::h=>by
   obtain ⟨m,hm⟩:=Zen h;refine ⟨m+k+1,fun t ht=>?_⟩;have:Nat.beq k t=false:=by
    cases h3:Nat.beq k t
    . rfl
    have:=X0 h3;omega
   simp only [lk,this,cond_false];exact hm t oM
def ZpP {l:List Oper} {st':St} (h:aL P c ops Q l st') (hsub:∀F a w,HoldsF c (⟨sL,hP⟩:St) F a w->HoldsF c st' F a w):aL P c ops Q l (⟨sL,hP⟩:St):=fun a w ⟨F,H⟩=>h a w ⟨F,hsub F a w H⟩
def Zeo {t j e kk n i:Nat} {x y:Operand} {h v:Value} {q p:PV} {Hs:List Value} {ps cs:List PV} (l:Nat) (hT:NoAgg P t=true) (hsz:(P.info? t).map (·.size)=some 1) (k:aL P c ops Q rest ⟨sL,put l (.agg Hs.toArray, .agg (ps.set i (.own e kk n (cs.set j p)))) hP⟩)
 (hw:Yb ops sL o=some true:=by exact rfl) (hd:o.dst=none:=by exact rfl) (ho:o.op= .store t x y:=by exact rfl) (hx:ev sL x=some (padd (sbase h) j,q):=by exact rfl) (hy:ev sL y=some (v,p):=by exact rfl) (h1:one p=true:=by first|exact rfl|assumption)
 (hl:lk hP l=some (.agg Hs.toArray, .agg ps):=by exact rfl) (hH:Hs[i]? =some h:=by assumption) (hps:ps[i]? =some (.own e kk n cs):=by assumption) (hj:j<cs.length:=by first|omega|assumption):aL P c ops Q (o::rest) (⟨sL,hP⟩:St):=by
 obtain ⟨m,hm⟩:=Zen hP
 have hne:l≠m:=fun e=>by have:=hm m (Xd m);rw [<-e,hl] at this;cases this
 have hb:Nat.beq l m=false:=by
  cases h3:Nat.beq l m
  . rfl
  exact Qe (X0 h3) hne
 refine Zz (Ziq m hl hH hps (hm m (Xd m))) fun _=>?_
 refine ZgI m hw hd hT hsz ho hx hy h1 (Z3 _ _ _) hj ?_
 have hi:=Zd hps
 refine Zz (Zir (l:=l) (l':=m) (i:=i) (v:=h) (ps:=ps.set i (.val h)) (by rw [Yy (Ne.symm hne),Yy (Ne.symm hne),Z3]) hH (by rw [XK hi]) (Z3 _ _ _) hb) fun _=>?_
 rw [X4]
 refine ZpP k fun F a w H=>H.less (fun _ _ h=>h) fun s z hz=>?_
 rcases YC hz with ⟨rfl,rfl⟩|⟨hn,hz⟩
 . exact Z3 _ _ _
 have hsm:m≠s:=fun e=>by have:=hm m (Xd m);rw [e,hz] at this;cases this
 show lk (put l _ (del m (put m _ (put m _ (put l _ hP))))) s=some z;rw [Yy hn,RQ hsm,Yy hsm,Yy hsm,Yy hn];exact hz
def cB {dd:Prop} {f:Nat} {xs:Array Operand} {ats:Array TypeId} {ps:List PV} {R:PV->Prop} (ho:o.op= .call {callee:= .value (.func f),args:=xs,argTypes:=ats}) (hc:∀args w,(callFunc f args).run P w= .ok (.enter f args) w) (hA:AFd dd P f ps R) (hx:ZpG (⟨sL,hP⟩:St) xs.toList ps) (hR:∀p,R p->nosh p=true:=by rintro p rfl;exact rfl) (hdd:c.dr->dd:=by first|exact id|exact fun h=>h.elim|exact fun _=>trivial):LV P c (⟨sL,hP⟩:St) o R:=ZmA ho hc hx hA hR hdd
def Ym {i d:Nat} {p:PV} (ho:ops[i]? =some o) (hC:LV P c (⟨sL,hP⟩:St) o (· =p)) (k:∀v,vOf p v->aD P c ops Q Z K fuel (listed.setIfInBounds i true) ⟨put d (v,p) sL,hP⟩) (hsh:shD p=true:=by exact rfl) (hw:Yb ops sL o=some true:=by exact rfl) (hd:o.dst=some d:=by exact rfl) (hn:d<c.nt:=by exact Xa rfl):aW P c ops Q Z K fuel listed (⟨sL,hP⟩:St) i:=fun a w F H C hC'=>by
 refine GL (Q':=fun _ a' w'=>(Z i=true\/C w')/\wpAnyS P .any ops Q C Z fuel (listed.setIfInBounds i true) a' w') ho (fun a' w' hq=>hq) ?_
 have h1:=LA H.rd hw
 unfold wpList
 rw [h1,Qd rfl]
 refine .inl ?_
 obtain ⟨f,args,hr,hcall⟩:=hC a w F H
 unfold Oper.wp
 rw [hr,Oper.upon_enter]
 refine hcall.mono fun e w' ⟨v,q,Fr,e1,e2,e3,e4,e5,e6⟩=>?_
 subst e1
 rw [show q=p from e2] at e4
 have hS:=e4.shD hsh
 have H2:HoldsF c ⟨put d (v,p) sL,hP⟩ F (a.put (some d) v) w':=D2 H e3 hn (hS.anti fun b _ h=> .inl h)
 simp only [Oper.upon,hd]
 have hch:Chg (nK K hP F) w w':=e3.chg
 exact ⟨.inr (hC' w' hch),k v hS.vOf _ w' F H2 C fun W hW=>hC' W (hch.tr hW fun b hb=> .inl hb)⟩
def cD {p:PV} {d:Nat} (hC:LV P c (⟨sL,hP⟩:St) o (· =p)) (k:∀v,vOf p v->aL P c ops Q rest ⟨put d (v,p) sL,hP⟩) (hsh:shD p=true:=by exact rfl) (hw:Yb ops sL o=some true:=by exact rfl) (hd:o.dst=some d:=by exact rfl) (hn:d<c.nt:=by exact Xa rfl):aL P c ops Q (o::rest) (⟨sL,hP⟩:St):=
 SF hw hC fun a w F w' v p' Fr H hR hx hT hlo hdw=>by
  rw [show p'=p from hR] at hT;have hS:=hT.shD hsh;rw [hd];exact k v hS.vOf _ _ ⟨F,D2 H hx hn (hS.anti fun b _ h=> .inl h)⟩
def cP {p1 p2:PV} (d:Nat) (hC:LV P c (⟨sL,hP⟩:St) o (· = .tup [p1,p2])) (k:∀v1 v2,vOf p1 v1->vOf p2 v2->aL P c ops Q rest ⟨put d (.tuple [v1,v2].toArray, .tup [p1,p2]) sL,hP⟩) (hsh:shD (.tup [p1,p2])=true:=by exact rfl) (hw:Yb ops sL o=some true:=by exact rfl) (hd:o.dst=some d:=by exact rfl) (hn:d<c.nt:=by exact Xa rfl):aL P c ops Q (o::rest) (⟨sL,hP⟩:St):=
 SF hw hC fun a w F w' v p' Fr H hR hx hT hlo hdw=>by
  rw [show p'= .tup [p1,p2] from hR] at hT;have hS:=hT.shD hsh;rw [hd];have hS':Shr (mof c hP F) w' v (.tup [p1,p2]):=hS.anti fun b _ h=> .inl h
  cases hS with
  | tup vs ps hl h=>
    match vs,hl,h,hS' with
    |[v1,v2],_,h,hS'=>exact k v1 v2 (h 0 v1 p1 rfl rfl).vOf (h 1 v2 p2 rfl rfl).vOf _ _ ⟨F,D2 H hx hn hS'⟩
def ZmU (i j k:Nat) (hr:Region.ready .any ops listed=[i,j,k]) (h:aW P c ops Q Z K fuel listed (⟨sL,hP⟩:St) i) (h':aW P c ops Q Z K fuel listed (⟨sL,hP⟩:St) j) (h'':aW P c ops Q Z K fuel listed (⟨sL,hP⟩:St) k):aD P c ops Q Z K (fuel+1) listed (⟨sL,hP⟩:St):=fun a w F H C hC=>
 ⟨(fun hn=>by rw [hr] at hn;cases hn),fun m hm=>by
   rw [hr] at hm;rcases (by simpa using hm:m=i\/m=j\/m=k) with rfl|rfl|rfl
   . exact h a w F H C hC
   . exact h' a w F H C hC
   . exact h'' a w F H C hC⟩
def Yo {ι:Type} {S:ι->St} (i:ι) (hs:Sub (S i).slots sL) (hh:Sub (S i).heap hP):aN c (Exit.then (fun a w=>∃i,Holds c (S i) a w) Q) (⟨sL,hP⟩:St):=EA i hs hh
end
def ZtA (a b:Nat):Nat.beq a b=(a==b):=by
 cases h:Nat.beq a b
 . exact (beq_eq_false_iff_ne.2 (fun e=>by rw [e] at h;simp at h)).symm
 exact (beq_iff_eq.2 (X0 h)).symm
section
variable {P:Program} {c:Ctx} {sL hP:List (Nat×Ent)}
def Zep {F:Nat->BS} {a:Act} {w:World} (H:HoldsF c (⟨sL,hP⟩:St) F a w) {t ty k l e k' n:Nat} {h:Value} {q:PV} {cs:List PV} (hT:AggT P ty k=true) (ht:lk sL t=some (padd (sbase h) 0,q)) (hl:lk hP l=some (h, .own e k' n cs)) (hp:k<=cs.length) (hk:0<k) (hsh:(cs.take k).all isSh=true):
 ∃V A,(asAddr (a.tmps.getD t undef)).run P w= .ok A w/\(loadVar ty A).run P w= .ok V w/\Shr (mof c hP F) w V (.agg (cs.take k)):=by
 have hv:=(H.sl t _ _ ht).1
 obtain ⟨xs,Fs,hrow,hlen,hTr,hd,hb,hF'⟩:=(H.tr l _ _ hl).row
 rcases Kv hrow with ⟨_,_,rfl⟩|⟨g,cap,rfl,h1,h2,h3⟩
 . simp at hlen;rw [hlen] at hp;simp at hp;omega
 refine ⟨.agg (xs.take k).toArray,⟨g,0,none⟩,?_,?_, .agg _ _ (by simp;omega) (fun i u p hu hp'=>?_)⟩
 . simp only [sbase,padd,XC] at hv;simp [VN,hv,asAddr]
 . have hcl:∀i u,(xs.take k)[i]? =some u->w.cell? ((⟨g,0,none⟩:Addr).add i)=some u:=fun i u hu=>by
    (have hi:i<k:=by have:=Zd hu;simp at this;omega);rw [X1 hi] at hu;rw [Kk,XC];exact JC hrow hu
   have:=run_loadCells_list (P:=P) (w:=w) ⟨g,0,none⟩ _ hcl;rw [show (xs.take k).length=k by simp;omega] at this;simp [loadVar,AggT.run hT,AggT.size hT,this]
 have hi:i<k:=by have:=Zd hu;simp at this;omega
 have hps:=Xj.1 hsh p (Xb hp');rw [X1 hi] at hp' hu;exact (hTr _ u p hu hp').sh hps
def ZmV {fn:Func} {R:PV->Prop} {t ty k e k' n:Nat} {h:Value} {q:PV} {cs:List PV} (l:Nat) (hT:AggT P ty k=true) (hr:fn.results= #[.cell t ty]) (ht:lk sL t=some (padd (sbase h) 0,q)) (hl:lk hP l=some (h, .own e k' n cs)) (hp:k<=cs.length) (hk:0<k) (hsh:(cs.take k).all isSh=true) (hR:R (.agg (cs.take k))) (hN:∀b,¬c.N0 b:=by intro _ h;exact h) (hdf:c.df=[]:=by exact rfl):aR c (bodyPost P fn (Lc c R)) (⟨sL,hP⟩:St):=fun a w ⟨F,H⟩=>by
 obtain ⟨V,A,h0,h1,h2⟩:=Zep H hT ht hl hp hk hsh
 refine ⟨H.df.trans hdf,V,?_,V,_,fun _=>False,rfl,hR,H.ext.ext (fun b _=>hN b), .shr (h2.anti fun b _ hb=>?_) (fun _ h=>h),fun _ h=>h.elim,H.dw⟩
 . simp only [results,hr];simp at h0;simp [h0,h1]
 rcases hb with hb|hb
 . exact .inl hb
 exact hb.elim
def Yp {fn:Func} {R:PV->Prop} {t ty k e k' n:Nat} {h:Value} {q:PV} {cs:List PV} (l:Nat) (hr:fn.results= #[.cell t ty]) (hR:R (.agg (cs.take k))) (hT:AggT P ty k=true:=by exact kR) (ht:lk sL t=some (padd (sbase h) 0,q):=by exact rfl) (hl:lk hP l=some (h, .own e k' n cs):=by exact rfl) (hp:k<=cs.length:=by exact Xa rfl) (hk:0<k:=by exact dC) (hsh:(cs.take k).all isSh=true:=by exact rfl) (hN:∀b,¬c.N0 b:=by intro _ h;exact h) (hdf:c.df=[]:=by exact rfl):aR c (bodyPost P fn (Lc c R)) (⟨sL,hP⟩:St):=ZmV l hT hr ht hl hp hk hsh hR hN hdf
def Zr4 {fn:Func} {R:PV->Prop} {t ty s k e k' n:Nat} {h u:Value} {q p:PV} {cs:List PV} (l:Nat) (hT:AggT P ty k=true) (hr:fn.results= #[.cell t ty, .tmp s]) (ht:lk sL t=some (padd (sbase h) 0,q)) (hl:lk hP l=some (h, .own e k' n cs)) (hs:lk sL s=some (u,p)) (hp:k<=cs.length) (hk:0<k) (hsh:(cs.take k).all isSh=true) (hR:R (.tup [.agg (cs.take k),p])) (hN:∀b,¬c.N0 b:=by intro _ h;exact h) (hdf:c.df=[]:=by exact rfl):aR c (bodyPost P fn (Lc c R)) (⟨sL,hP⟩:St):=fun a w ⟨F,H⟩=>by
 obtain ⟨V,A,h0,h1,h2⟩:=Zep H hT ht hl hp hk hsh
 obtain ⟨h3,h4⟩:=H.sl s _ _ hs
 have hM:∀b,b<w.heap.size->(c.M0 b\/False)->mof c hP F b:=fun b _ hb=>by
  rcases hb with hb|hb
  . exact .inl hb
  exact hb.elim
 refine ⟨H.df.trans hdf, .tuple #[V,u],?_, .tuple #[V,u],_,fun _=>False,rfl,hR,H.ext.ext (fun b _=>hN b), .shr (.tup [V,u] _ rfl fun i v q' hv hq'=>?_) (fun _ h=>h),fun _ h=>h.elim,H.dw⟩
 . simp only [results,hr];simp at h0;simp [h0,h1,VN,h3]
 match i with
 |0=>simp at hv hq';subst hv hq';exact h2.anti hM
 |1=>simp at hv hq';subst hv hq';exact h4.anti hM
 |i+2=>simp at hv
def ZN {fn:Func} {R:PV->Prop} {t ty s k e k' n:Nat} {h u:Value} {q p:PV} {cs:List PV} (l:Nat) (hr:fn.results= #[.cell t ty, .tmp s]) (hR:R (.tup [.agg (cs.take k),p])) (hT:AggT P ty k=true:=by exact kR) (ht:lk sL t=some (padd (sbase h) 0,q):=by exact rfl) (hl:lk hP l=some (h, .own e k' n cs):=by exact rfl) (hs:lk sL s=some (u,p):=by exact rfl) (hp:k<=cs.length:=by exact Xa rfl) (hk:0<k:=by exact dC) (hsh:(cs.take k).all isSh=true:=by exact rfl) (hN:∀b,¬c.N0 b:=by intro _ h;exact h) (hdf:c.df=[]:=by exact rfl):aR c (bodyPost P fn (Lc c R)) (⟨sL,hP⟩:St):=Zr4 l hT hr ht hl hs hp hk hsh hR hN hdf
end
def aWr {P:Program} {c:Ctx} {ops:Array Oper} {Q:Exit->Act->World->Prop} {Z:Nat->Bool} {K:List Nat} {fuel:Nat} {listed:Array Bool} {sL hP:List (Nat×Ent)} {o:Oper} {i:Nat}
 (h:∀{w':World} {M' N':BS} {DQ:Exit->Act->World->Prop},(∀st':St,aD P c ops Q Z K fuel (listed.setIfInBounds i true) ⟨st'.slots,st'.heap++J7 K hP⟩->aN ⟨w',M',N',c.nt,c.dr,c.df⟩ DQ st')->aL P ⟨w',M',N',c.nt,c.dr,c.df⟩ ops DQ [o] ⟨sL,L6 K hP⟩) (ho:ops[i]? =some o:=by exact rfl):aW P c ops Q Z K fuel listed (⟨sL,hP⟩:St) i:=ZmN ho fun _ _ _ _=>h
def aDr {P:Program} {c:Ctx} {ops:Array Oper} {Q:Exit->Act->World->Prop} {Z:Nat->Bool} {K:List Nat} {fuel:Nat} {listed:Array Bool} {sL hP:List (Nat×Ent)} {o:Oper} (i:Nat)
 (h:∀{w':World} {M' N':BS} {DQ:Exit->Act->World->Prop},(∀st':St,aD P c ops Q Z K fuel (listed.setIfInBounds i true) ⟨st'.slots,st'.heap++J7 K hP⟩->aN ⟨w',M',N',c.nt,c.dr,c.df⟩ DQ st')->aL P ⟨w',M',N',c.nt,c.dr,c.df⟩ ops DQ [o] ⟨sL,L6 K hP⟩) (ho:ops[i]? =some o:=by exact rfl) (hr:Region.ready .any ops listed=[i]:=by kernel_rfl):aD P c ops Q Z K (fuel+1) listed (⟨sL,hP⟩:St):=ZY i hr (ZmN ho fun _ _ _ _=>h)
def bE {P:Program} {c:Ctx} {ops:Array Oper} {Q:Exit->Act->World->Prop} {st:St} {X:St->Prop} {B:Prop} (b:∀s,X s->aN c Q s) (h:B) (e:B->X st:=by intro h;(try simp only [L6,J7,put,del,ZtA,List.elem,Vh,XY,Nat.reduceBEq,cond_true,cond_false]);exact h):aL P c ops Q [] st:=WC (b _ (e h))
end Go.En
namespace Go.Proofs.YtmkojdfiadbeeaaGreat
open Go.RowKit Go.Cb Go.En Tryz
def ZE:NoAgg prog 9=true:=kR
def Zo:SlT prog 26 9 1=true:=kR
abbrev pU8 (n:Int):PV:= .val (.int .u8 n)
def RZ {a b:Bool} (h:a=true↔b=true):Zr a=Zr b:=by rw [VI.2 h]
def Zkf {s:BA} {i:Nat} {x:UInt8} (h:s.data[i]? =some x):i<s.size:=by
 rcases XL i s.size with h1|h1
 . exact h1
 rw [VD h1] at h;cases h
def ζg {s:BA} {i:Nat} (h:i<s.size):∃y,s.data[i]? =some y:=⟨s.data[i]'h,Array.getElem?_eq_getElem h⟩
def PI {s:BA} (h:s.size<1\/40<s.size):isName s=false:=by
 unfold isName
 rcases h with h|h
 . rw [Qb (show ¬1<=s.size by omega)];simp
 rw [Qb (show ¬s.size<=40 by omega)];simp
def ζM {s:BA} {y:UInt8} (h0:s.data[0]? =some y) (h:Sd y.toNat=false):isName s=false:=by
 unfold isName;rw [h0,Uk,h];simp
def ζN {s:BA} {k:Nat} {y:UInt8} (hy:s.data[k]? =some y) (h:Oo y.toNat=false):isName s=false:=by
 unfold isName
 rw [Bool.and_eq_false_iff];right
 rw [V9]
 exact ⟨y,Array.mem_toList_iff.2 (Array.mem_of_getElem? hy),by rw [h];simp⟩
def Cz {s:BA} {y:UInt8} (h1:1<=s.size) (h2:s.size<=40) (h0:s.data[0]? =some y) (hl:Sd y.toNat=true) (h:∀j z,j<s.size->s.data[j]? =some z->Oo z.toNat=true):isName s=true:=by
 unfold isName
 rw [h0,Uk,hl,Qa h1,Qa h2]
 simp only [Bool.and_self,Uq,Xj]
 intro x hx
 obtain ⟨i,hi⟩:=Array.getElem?_of_mem (Array.mem_toList_iff.1 hx)
 exact h i x (Zkf hi) hi
def Zeq (c:Int):AF prog 135 [pU8 c] (· =Zr (Sd c)):=by
 refine AF.b1 17 func135 rfl ntmps135 (Xa rfl) ?_
 rintro w0 M0 _ rfl
 refine WK ?_
 (refine Y8 ?_<;>(refine bLd 5 (fun hb5=>?_) (fun hb5=>?_)<;>refine kZ ?_)<;>refine Kg ?_<;>(first|refine YU ?_|(refine bLd 9 (fun hb9=>?_) (fun hb9=>?_)<;>refine kZ ?_))<;>refine Ky ?_<;>(first|refine kL ?_|(refine bLd 12 (fun hb12=>?_) (fun hb12=>?_)<;>refine kZ ?_))<;>refine kZ ?_<;>refine KR ?_)<;>(
 refine Zg results135 rfl (RZ ?_);simp only [Sd,Vj,Xf,U',true_iff,false_iff,VG]<;>omega)
def Zr5 (c:Int):AF prog 136 [pU8 c] (· =Zr (Oo c)):=by
 refine AF.b1 25 func136 rfl ntmps136 (Xa rfl) ?_
 rintro w0 M0 _ rfl
 refine WK ?_
 (refine YU ?_<;>(refine cV (cA call135 (Zeq c)) ?_)<;>refine YU ?_<;>(refine bL 5 (fun hb5=>?_) (fun hb5=>?_)<;>refine kZ ?_)<;>refine Ky ?_<;>(first|refine kL ?_|(refine bLd 8 (fun hb8=>?_) (fun hb8=>?_)<;>refine kZ ?_))<;>refine kZ ?_<;>refine Kg ?_<;>(first|refine kL ?_|refine YU ?_|(refine bLd 13 (fun hb13=>?_) (fun hb13=>?_)<;>refine kZ ?_))<;>refine Kg ?_<;>(first|refine kL ?_|(refine bLd 17 (fun hb17=>?_) (fun hb17=>?_)<;>refine kZ ?_))<;>refine Kg ?_<;>(first|refine kL ?_|(refine bLd 21 (fun hb21=>?_) (fun hb21=>?_)<;>refine kZ ?_))<;>refine KR ?_)<;>(
 refine Zg results136 rfl (RZ ?_);simp only [Oo,Vj,Xf,U',true_iff,false_iff,VG,beq_iff_eq]<;>simp_all<;>omega)
def HK (s :BA) (hs:s.size<=9223372036854775807):AF prog 98 [Zx s] (· =Zr (isName s)):=by
 refine AF.b1 29 func98 rfl ntmps98 (Xa rfl) ?_
 rintro w0 M0 _ rfl
 refine WK ?_
 (refine xL 4 Za (xL 5 (Ou underlying9) (xL 6 Yn (xL 7 Za ?_)))<;>(refine bLd 7 (fun hb7=>?_) (fun hb7=>?_)<;>refine kZ ?_)<;>(first|refine kL ?_|refine xM (Ou underlying9) ?_)<;>refine Kg ?_<;>(first|refine kL ?_|(refine bLd 12 (fun hb12=>?_) (fun hb12=>?_)<;>refine kZ ?_))<;>(first|refine kL ?_|(refine (ζg (i:=0) (s:=s) oM).elim fun y0 hy0=>?_;refine xM (ζf underlying9) ?_))<;>(first|refine kL ?_|(refine cV (cA call135 (Zeq y0.toNat)) ?_))<;>refine WF ?_)<;>(
 refine cX ?_ ?_<;>intro hb17
 . (
 refine ZF ?_;refine Zg results98 rfl ?_
 first|rw [PI oM]|rw [ζM hy0 (by simpa using hb17)])
 . first | exact bN hb17|(
 refine Zi ?_;refine xL 18 Za (xL 19 (Ou underlying9) (xL 20 Za ?_));refine ZZ ?_;refine Y0 (ι:={k:Nat//k<=s.size/\∀j y,j<k->s.data[j]? =some y->Oo y.toNat=true}) (fun k=>⟨[(0,_,_),(19,_,_),(20, .int .i64 k.1,Zb k.1)],[]⟩) (fun k=>s.size-k.1) ⟨0,oM,oM⟩ (fun a w H=>H.weaken sB trivial) ?_;rintro ⟨k,hk,hp⟩;dsimp only;refine Ys ?_ ?_<;>intro hb21
 . (
 have hlt:k<s.size:=oM;obtain ⟨y,hy⟩:=ζg (s:=s) (i:=k) oM;refine Jh ?_;refine xL 23 Za (xL 24 Za (xL 25 (ζf underlying9) ?_));refine cV (cA call136 (Zr5 y.toNat)) ?_;refine Wg ?_ ?_<;>intro hb27
 . (
 refine ZF ?_;refine Zg results98 rfl ?_;rw [ζN hy (by simpa using hb27)])
 refine ZP ?_;refine Zh (
  ⟨k+1,oM,fun j z hj hz=>by
   by_cases e:j=k
   . subst e;rw [hy] at hz;cases hz;simpa using hb27
   . exact hp j z oM hz⟩
  ) (by dsimp only;omega) sB trivial)
 refine ZF ?_;refine Zg results98 rfl ?_;rw [Cz oM oM hy0 (by simpa using hb17) (fun j z hj hz=>hp j z oM hz)]))
def R3 {α:Type} {p:α->Bool} {l:List α} {k:Nat} {x:α} (hx:l[k]? =some x) (h:p x=false):l.all p=false:=V9.2 ⟨x,Xb hx,by rw [h];simp⟩
def ζh {α:Type} {p:α->Bool} {l:List α} (h:∀(j:Nat) x,l[j]? =some x->p x=true):l.all p=true:=Xj.2 fun x hx=>by
 obtain ⟨j,hj⟩:=XM hx
 exact h j x hj
def JH (l:List BA):Bool:=decide (l.length<=40)&&l.all isName&&chainB strLt l
def ZgS {l:List BA} (h:40<l.length):JH l=false:=by unfold JH;rw [Qb (show ¬l.length<=40 by omega)];simp
def ZgT {l:List BA} {k:Nat} {x:BA} (hx:l[k]? =some x) (h:isName x=false):JH l=false:=by unfold JH;rw [R3 hx h];simp
def Zer {l:List BA} {k:Nat} {x y:BA} (hk:1<=k) (hy:l[k-1]? =some y) (hx:l[k]? =some x) (h:strLt y x=false):JH l=false:=by unfold JH;rw [Rj hk hy hx h];simp
def ZgU (l :List BA) (hf:∀s∈l,s.size<=140737488355328):AF prog 86 [ZX l] (· =Zr (JH l)):=by
 refine AF.b1 32 func86 rfl ntmps86 (Xa rfl) fun w0 M0 v0 _=>?_
 refine Km 0 rfl fun hlen=>?_
 refine WK ?_
 refine xL 5 Za (xL 6 (Zu Zo) (xL 7 G3 ?_));refine ZC ?_ ?_<;>intro hb7
 . (
 refine ZF ?_;refine Zg results86 rfl ?_;rw [ZgS oM])
 refine Zi ?_;refine xL 8 Za (xL 9 (Zu Zo) (xL 10 Za ?_));refine ZZ ?_;refine Y0 (ι:={k:Nat//k<=l.length/\∀j x,j<k->l[j]? =some x->isName x=true/\∀y,1<=j->l[j-1]? =some y->strLt y x=true}) (fun k=>⟨[(0,_,_),(8,_,_),(9,_,_),(10, .int .i64 k.1,Zb k.1)],[]⟩) (fun k=>l.length-k.1) ⟨0,oM,oM⟩ (fun a w H=>H.weaken sB trivial) ?_;rintro ⟨k,hk,hp⟩;dsimp only;refine Ys ?_ ?_<;>intro hb11
 . (
 have hlt:k<l.length:=oM;obtain ⟨x,hx⟩:=get_some hlt;obtain ⟨y,hy⟩:=gS l (k-1);have e1:=Yf (f:=Zx) hx;(have e2:(l.map Zx)[((k:Int)-1).toNat*1]? =some (Zx y):=by rw [show ((k:Int)-1).toNat*1=k-1 by omega];exact (by rw [Xl,hy];rfl));have hxs:=hf x (Xb hx);refine Zi ?_;refine xL 12 Za (xL 13 (Ze Zo) ?_);refine yV (Zw ZE) ?_;refine JF ?_;(refine YU ?_<;>(refine cV (cA call98 (HK x oM)) ?_)<;>refine YW ?_<;>(refine bL 18 (fun hb18=>?_) (fun hb18=>?_)<;>refine kZ ?_)<;>refine Ky ?_<;>(first|refine kL ?_|(refine bLd 21 (fun hb21=>?_) (fun hb21=>?_)<;>refine kZ ?_))<;>refine Ky ?_<;>(first|refine kL ?_|refine xM (Sa Zo) ?_)<;>(first|refine kL ?_|refine yV (Zw ZE) ?_)<;>refine kZ ?_<;>(first|refine kL ?_|refine xM Zc9 ?_)<;>refine WF ?_)<;>(
 refine cX ?_ ?_<;>intro hb30
 . first|exact bN hb30|(
 refine ZF ?_;refine Zg results86 rfl ?_
 first|rw [ZgT hx (by simpa using hb18)]|rw [Zer oM hy hx (by simpa [strLt] using hb30)])
 . first |exact bN hb30|(
 refine ZP ?_;refine Zh (
  ⟨k +1,oM,fun j z hj hz=>by
   by_cases e:j=k
   . subst e;rw [hx] at hz;cases hz;refine ⟨by simpa using hb18,fun y' h1 hy'=>?_⟩;rw [hy] at hy';cases hy'
     first|omega|simpa [strLt] using hb30
   . exact hp j z oM hz⟩
  ) (by dsimp only;omega) sB trivial)))
 refine ZF ?_;refine Zg results86 rfl ?_;have h1:l.all isName=true:=ζh fun j x hj=>(hp j x (by have:=Zd hj;omega) hj).1;have h2:chainB strLt l=true:=SH fun j x y h1 hy hx=>(hp j x (by have:=Zd hx;omega) hx).2 y h1 hy;unfold JH;rw [h1,h2,Qa (show l.length<=40 by omega)];rfl
def ZbV (c:Int):AF prog 194 [pU8 c] (· =Zr (Sd c)):=by
 refine AF.b1 17 func194 rfl ntmps194 (Xa rfl) ?_
 rintro w0 M0 _ rfl
 refine WK ?_
 (refine Y8 ?_<;>(refine bLd 5 (fun hb5=>?_) (fun hb5=>?_)<;>refine kZ ?_)<;>refine Kg ?_<;>(first|refine YU ?_|(refine bLd 9 (fun hb9=>?_) (fun hb9=>?_)<;>refine kZ ?_))<;>refine Ky ?_<;>(first|refine kL ?_|(refine bLd 12 (fun hb12=>?_) (fun hb12=>?_)<;>refine kZ ?_))<;>refine kZ ?_<;>refine KR ?_)<;>(
 refine Zg results194 rfl (RZ ?_);simp only [Sd,Vj,Xf,U',true_iff,false_iff,VG]<;>omega)
def ZbW (s : BA) (hs:s.size<=9223372036854775807):AF prog 132 [Zx s] (· =Zr (isName s)):=by
 refine AF.b1 52 func132 rfl ntmps132 (Xa rfl) ?_
 rintro w0 M0 _ rfl
 refine WK ?_
 (refine xL 5 Za (xL 6 (Ou underlying9) (xL 7 Yn (xL 8 Za ?_)))<;>(refine bLd 8 (fun hb8=>?_) (fun hb8=>?_)<;>refine kZ ?_)<;>(first|refine kL ?_|refine xM (Ou underlying9) ?_)<;>refine Kg ?_<;>(first|refine kL ?_|(refine bLd 13 (fun hb13=>?_) (fun hb13=>?_)<;>refine kZ ?_))<;>(first|refine kL ?_|(refine (ζg (i:=0) (s:=s) oM).elim fun y0 hy0=>?_;refine xM (ζf underlying9) ?_))<;>(first|refine kL ?_|(refine cV (cA call194 (ZbV y0.toNat)) ?_))<;>refine WF ?_)<;>(
 refine cX ?_ ?_<;>intro hb18
 . (
 refine ZF ?_;refine Zg results132 rfl ?_
 first|rw [PI oM]|rw [ζM hy0 (by simpa using hb18)])
 . first | exact bN hb18|(
 refine ZF ?_;have h0:∀(j:Nat) z,j<1->s.data[j]? =some z->Oo z.toNat=true:=fun j z hj hz=>by
  obtain rfl:j=0:=oM;rw [hy0] at hz;cases hz;unfold Oo;rw [show Sd y0.toNat=true by simpa using hb18];rfl
 refine Y0 (ι:={k:Nat//1<=k/\k<=s.size/\∀j y,j<k->s.data[j]? =some y->Oo y.toNat=true}) (fun k=>⟨[(0,_,_),(3, .int .i64 k.1,Zb k.1)],[]⟩) (fun k=>s.size-k.1) ⟨1,oM,oM,h0⟩ (fun a w H=>H.weaken sB trivial) ?_;rintro ⟨k,hk1,hk,hp⟩;dsimp only;refine Zi ?_;refine xL 19 Za (xL 20 Za (xL 21 (Ou underlying9) (xL 22 Yn ?_)));refine ZC ?_ ?_<;>intro hb22
 . (
 have hlt:k<s.size:=oM;obtain ⟨y,hy⟩:=ζg (s:=s) (i:=k) oM;refine Zi ?_;refine xL 25 Za (xL 26 Za (xL 27 (ζf underlying9) (xL 4 Wj ?_)));refine YT ?_;(refine YU ?_<;>(refine cV (cA call194 (ZbV y.toNat)) ?_)<;>refine YW ?_<;>(refine bL 31 (fun hb31=>?_) (fun hb31=>?_)<;>refine kZ ?_)<;>refine Ky ?_<;>(first|refine kL ?_|(refine bLd 34 (fun hb34=>?_) (fun hb34=>?_)<;>refine kZ ?_))<;>refine Ky ?_<;>refine Kg ?_<;>(first|refine kL ?_|refine YU ?_|(refine bL 40 (fun hb40=>?_) (fun hb40=>?_)<;>refine kZ ?_))<;>refine Kg ?_<;>(first|refine kL ?_|(refine bLd 44 (fun hb44=>?_) (fun hb44=>?_)<;>refine kZ ?_))<;>refine Kg ?_<;>(first|refine kL ?_|(refine bLd 48 (fun hb48=>?_) (fun hb48=>?_)<;>refine kZ ?_))<;>refine WF ?_)<;>(
 refine cX ?_ ?_<;>intro hb51
 . first|exact bN hb51|(
 refine ZF ?_;refine Zg results132 rfl ?_;rw [ζN hy];rw [Bool.eq_false_iff];intro hpb;simp only [Oo,Vj,Xf,U',beq_iff_eq] at hpb;simp_all
 try omega)
 refine YQ ?_;refine Zh (
  ⟨k +1,oM,oM,fun j z hj hz=>by
   by_cases e:j=k
   . subst e;rw [hy] at hz;cases hz;simp only [Oo,Vj,Xf,U',beq_iff_eq];simp_all
     try omega
   . exact hp j z oM hz⟩
  ) (by dsimp only;omega) sB trivial))
 refine ZF ?_;refine Zg results132 rfl ?_;rw [Cz oM oM hy0 (by simpa using hb18) (fun j z hj hz=>hp j z oM hz)]))
def Zes (l:List BA) (hf:∀s∈l,s.size<=140737488355328):AF prog 88 [ZX l] (· =Zr (l.all isName)):=by
 refine AF.b1 16 func88 rfl ntmps88 (Xa rfl) fun w0 M0 v0 _=>?_
 refine Km 0 rfl fun hlen=>?_
 refine Jx ?_
 refine Y0 (ι:={k:Nat//k<=l.length/\∀j x,j<k->l[j]? =some x->isName x=true}) (fun k=>⟨[(0,_,_),(3, .int .i64 k.1,Zb k.1)],[]⟩) (fun k=>l.length-k.1) ⟨0,oM,oM⟩ (fun a w H=>H.weaken sB trivial) ?_
 rintro ⟨k,hk,hp⟩
 dsimp only
 refine Zi ?_
 refine xL 4 Za (xL 5 Za (xL 6 (Zu Zo) (xL 7 Yn ?_)));refine ZC ?_ ?_<;>intro hb7
 . (
 obtain ⟨x,hx⟩:=gS l k;have e1:=Yf (f:=Zx) hx;have hxs:=hf x (Xb hx);refine Zi ?_;refine xL 10 Za (xL 11 Za (xL 12 (Ze Zo) ?_));refine yV (Zw ZE) ?_;refine cV (cA call132 (ZbW x oM)) ?_;refine Wg ?_ ?_<;>intro hb15
 . (
 refine ZF ?_;refine Zg results88 rfl ?_;rw [R3 hx (by simpa using hb15)])
 refine YQ ?_;refine Zh (
  ⟨k+1,oM,fun j z hj hz=>by
   by_cases e:j=k
   . subst e;rw [hx] at hz;cases hz;simpa using hb15
   . exact hp j z oM hz⟩
  ) (by dsimp only;omega) sB trivial)
 refine ZF ?_;refine Zg results88 rfl ?_;rw [ζh fun j x hj=>hp j x (by have:=Zd hj;omega) hj]
def ZgV (l:List BA):AF prog 92 [ZX l] (· =Zr (chainB strLt l)):=by
 refine AF.b1 20 func92 rfl ntmps92 (Xa rfl) fun w0 M0 v0 _=>?_
 refine Km 0 rfl fun hlen=>?_
 refine Jx ?_
 refine Y0 (ι:={k:Nat//1<=k/\(k<=l.length\/k=1)/\∀j x y,1<=j->j<k->l[j-1]? =some y->l[j]? =some x->strLt y x=true}) (fun k=>⟨[(0,_,_),(3, .int .i64 k.1,Zb k.1)],[]⟩) (fun k=>l.length-k.1) ⟨1,oM,oM,oM⟩ (fun a w H=>H.weaken sB trivial) ?_
 rintro ⟨k,hk1,hk,hp⟩
 dsimp only
 refine Zi ?_
 refine xL 4 Za (xL 5 Za (xL 6 (Zu Zo) (xL 7 Yn ?_)));refine ZC ?_ ?_<;>intro hb7
 . (
 obtain ⟨x,hx⟩:=gS l k;obtain ⟨y,hy⟩:=gS l (k-1);have e1:=Yf (f:=Zx) hx;(have e2:(l.map Zx)[((k:Int)-1).toNat*1]? =some (Zx y):=by rw [show ((k:Int)-1).toNat*1=k-1 by omega];exact (by rw [Xl,hy];rfl));refine nav ?_;refine Yx [] [] ?_<;>refine gDx 0 ?_<;>refine gDx 1 ?_<;>refine gDx 2 ?_<;>refine xD 3 rfl (Sa Zo) ?_<;>(refine yD 4 rfl (Zw ZE) fun v14 h=>?_;cases h)<;>refine gDx 5 ?_<;>refine gEx 6 ?_<;>refine xE 7 rfl (Ze Zo) ?_<;>(refine yE 8 rfl (Zw ZE) fun v18 h=>?_;cases h)<;>refine xE 9 rfl Zc9 ?_<;>refine Wo ?_;refine cX ?_ ?_<;>intro hb19
 . (
 refine ZF ?_;refine Zg results92 rfl ?_;rw [Rj hk1 hy hx (by simpa [strLt] using hb19)])
 refine YQ ?_;refine Zh (
  ⟨k+1,oM,oM,fun j x' y' h1 hj hy' hx'=>by
   by_cases e:j=k
   . subst e;rw [hx] at hx';cases hx';rw [hy] at hy';cases hy';simpa [strLt] using hb19
   . exact hp j x' y' h1 oM hy' hx'⟩
  ) (by dsimp only;omega) sB trivial)
 refine ZF ?_;refine Zg results92 rfl ?_;rw [SH fun j x y h1 hy hx=>hp j x y h1 (by have:=Zd hx;omega) hy hx]
def ζO (l:List BA) (s:BA):AF prog 236 [ZX l,Zx s] (· =Zb (idx (fun x=>W7 x s) l)):=by
 refine AF.b2 19 func236 rfl ntmps236 (Xa rfl) ?_
 rintro w0 M0 v0 _-rfl
 refine Km 0 rfl fun hlen=>?_
 refine Jx ?_
 refine Y0 (ι:={k:Nat//k<=l.length/\∀i y,i<k->l[i]? =some y->W7 y s=false}) (fun k=>⟨[(0,_,_),(1,_,_),(5, .int .i64 k.1,Zb k.1)],[]⟩) (fun k=>l.length-k.1) ⟨0,oM,oM⟩ (fun a w H=>H.weaken sB trivial) ?_
 rintro ⟨k,hk,hp⟩
 dsimp only
 refine Zi ?_
 refine xL 6 Za (xL 7 Za (xL 8 (Zu Zo) (xL 9 Yn ?_)));refine ZC ?_ ?_<;>intro hb9
 . (
 obtain ⟨x,hx⟩:=gS l k;have e1:=Yf (f:=Zx) hx;refine Zi ?_;refine xL 12 Za (xL 13 Za (xL 14 (Ze Zo) ?_));refine yV (Zw ZE) ?_;refine Wv ?_ ?_<;>intro hb17
 . (
 refine ZP ?_;refine Zg results236 rfl ?_;rw [Lb hp hx hb17])
 refine YQ ?_;refine Zh (
  ⟨k+1,oM,fun i y hi hy=>by
   by_cases e:i=k
   . subst e;rw [hx] at hy;cases hy;exact hb17
   . exact hp i y oM hy⟩
  ) (by dsimp only;omega) sB trivial)
 refine ZF ?_;refine Zg results236 rfl ?_;rw [LU fun i y hi hy=>hp i y oM hy]
def ζP (a b:BA):W7 a b=W7 b a:=by unfold W7;rw [VI];simp only [beq_iff_eq];exact eq_comm
def CB (l:List BA) (s:BA):AF prog 116 [ZX l,Zx s] (· =Zb (idx (fun x=>W7 x s) l)):=by
 refine AF.b2 19 func116 rfl ntmps116 (Xa rfl) ?_
 rintro w0 M0 v0 _-rfl
 refine Km 0 rfl fun hlen=>?_
 refine WK ?_
 refine xL 6 Za (xL 7 (Zu Zo) (xL 8 Za ?_));refine ZZ ?_
 refine Y0 (ι:={k:Nat//k<=l.length/\∀i y,i<k->l[i]? =some y->W7 y s=false}) (fun k=>⟨[(0,_,_),(1,_,_),(7,_,_),(8, .int .i64 k.1,Zb k.1)],[]⟩) (fun k=>l.length-k.1) ⟨0,oM,oM⟩ (fun a w H=>H.weaken sB trivial) ?_
 rintro ⟨k,hk,hp⟩
 dsimp only
 refine Ys ?_ ?_<;>intro hb9
 . (
 obtain ⟨x,hx⟩:=gS l k;have e1:=Yf (f:=Zx) hx;refine Jh ?_;refine xL 11 Za (xL 12 Za (xL 13 Za (xL 14 (Ze Zo) ?_)));refine yV (Zw ZE) ?_;refine Wg ?_ ?_<;>intro hb16
 . (
 (replace hb16:W7 x s=true:=by rw [ζP];exact hb16);refine ZP ?_;refine Zg results116 rfl ?_;rw [Lb hp hx hb16])
 (replace hb16:W7 x s=false:=by rw [ζP];exact hb16);refine ZP ?_;refine Zh (
  ⟨k+1,oM,fun i y hi hy=>by
   by_cases e:i=k
   . subst e;rw [hx] at hy;cases hy;exact hb16
   . exact hp i y oM hy⟩
  ) (by dsimp only;omega) sB trivial)
 refine ZF ?_;refine Zg results116 rfl ?_;rw [LU fun i y hi hy=>hp i y oM hy]
def SK (l:List BA) (s:BA):AF prog 73 [ZX l,Zx s] (· =Zr (hasStr l s)):=by
 refine AF.b2 9 func73 rfl ntmps73 (Xa rfl) ?_
 rintro w0 M0 v0 _-rfl
 refine RF ?_;refine cV (cA call116 (CB l s)) ?_;refine W2 ?_
 refine Zg results73 rfl ?_
 unfold hasStr
 rw [LS]
def Zet {l m:List BA} {k:Nat} {x y:BA} (hx:l[k]? =some x) (hy:m[k]? =some y):cmpStrs (l.drop k) (m.drop k)=if Yc x y=0 then cmpStrs (l.drop (k+1)) (m.drop (k+1)) else Yc x y:=by rw [WO hx,WO hy,cmpStrs]
def EF {a b:BA} (h:strLt a b=true):Yc a b= -1:=by unfold Yc;rw [Qd h]
def EG {a b:BA} (h:(!(strLt a b||W7 a b))=true):Yc a b=1:=by
 simp only [Bool.not_eq_true',UD] at h
 unfold Yc;rw [Qc (by rw [h.1];simp),Qc (by rw [h.2];simp)]
def EH {a b:BA} (h1:strLt a b=false) (h:(!(strLt a b||W7 a b))=false):Yc a b=0:=by
 rw [h1,Un,Bool.not_eq_false'] at h
 unfold Yc;rw [Qc (by rw [h1];simp),Qd h]
def Db {l m:List BA} {k:Nat} (h:¬(k<l.length/\k<m.length)) (hk:k<=l.length) (hk':k<=m.length):cmpStrs (l.drop k) (m.drop k)=if l.length<m.length then-1 else if m.length<l.length then 1 else 0:=by
 by_cases h1:l.length=k
 . rw [XO (show l.length<=k by omega)];by_cases h2:m.length=k
   . rw [XO (show m.length<=k by omega),Qc oM,Qc oM];rfl
   obtain ⟨y,hy⟩:=gS m k;rw [WO hy,Qd oM];rfl
 have h2:m.length=k:=oM;rw [XO (show m.length<=k by omega)];obtain ⟨x,hx⟩:=gS l k;rw [WO hx,Qc oM,Qd oM];rfl
def D8 (l m:List BA):AF prog 89 [ZX l,ZX m] (· =Zb (cmpStrs l m)):=by
 refine AF.b2 46 func89 rfl ntmps89 (Xa rfl) fun w0 M0 v0 v1 _ _=>?_
 refine Km 0 rfl fun hlen=>?_
 refine Km 1 rfl fun hlem=>?_
 refine Jx ?_
 refine Y0 (ι:={k:Nat//k<=l.length/\k<=m.length/\cmpStrs l m=cmpStrs (l.drop k) (m.drop k)}) (fun k=>⟨[(0,_,_),(1,_,_),(5, .int .i64 k.1,Zb k.1)],[]⟩) (fun k=>l.length-k.1) ⟨0,oM,oM,rfl⟩ (fun a w H=>H.weaken sB trivial) ?_
 rintro ⟨k,hk,hk',hp⟩
 dsimp only
 refine Zi ?_
 (refine xL 6 Za (xL 7 Za (xL 8 (Zu Zo) (xL 9 Yn (xL 10 Za ?_))))<;>(refine bLd 10 (fun hb10=>?_) (fun hb10=>?_)<;>refine kZ ?_)<;>refine kZ ?_<;>(first|refine kL ?_|refine xM (Zu Zo) ?_)<;>refine WF ?_)<;>(
 refine cX ?_ ?_<;>intro hb15
 . first | exact bN hb15|(
 obtain ⟨x,hx⟩:=gS l k;obtain ⟨y,hy⟩:=gS m k;have e1:=Yf (f:=Zx) hx;have e2:=Yf (f:=Zx) hy;have hs:=Zet hx hy;refine nav ?_;refine Yx [] [] ?_<;>refine gDx 0 ?_<;>refine gDx 1 ?_<;>refine xD 2 rfl (Ze Zo) ?_<;>(refine yD 3 rfl (Zw ZE) fun v21 h=>?_;cases h)<;>refine gDx 4 ?_<;>refine gEx 5 ?_<;>refine xE 6 rfl (Ze Zo) ?_<;>(refine yE 7 rfl (Zw ZE) fun v25 h=>?_;cases h)<;>refine gEx 8 ?_<;>refine Wo ?_;refine cX ?_ ?_<;>intro hb26
 . (
 refine ZF ?_;refine Zg results89 rfl ?_;rw [hp,hs,EF hb26];rfl)
 refine nav ?_;refine Yx [] [] ?_<;>refine gDx 0 ?_<;>refine gDx 1 ?_<;>refine xD 2 rfl (Ze Zo) ?_<;>(refine yD 3 rfl (Zw ZE) fun v30 h=>?_;cases h)<;>refine gDx 4 ?_<;>refine gEx 5 ?_<;>refine xE 6 rfl (Ze Zo) ?_<;>(refine yE 7 rfl (Zw ZE) fun v34 h=>?_;cases h)<;>refine xE 8 rfl ZgR ?_<;>refine Wo ?_;refine cX ?_ ?_<;>intro hb35
 . (
 refine ZF ?_;refine Zg results89 rfl ?_;rw [hp,hs,EG hb35];rfl)
 refine YQ ?_;refine Zh (
  ⟨k+1,oM,oM,by rw [hp,hs,EH hb26 hb35];rfl⟩
  ) (by dsimp only;omega) sB trivial)
 refine Zi ?_;refine xL 36 Za (xL 37 (Zu Zo) (xL 38 Za (xL 39 (Zu Zo) (xL 40 Yn ?_))));refine ZC ?_ ?_<;>intro hb40
 . (
 refine ZF ?_;refine Zg results89 rfl ?_;rw [hp,Db oM hk hk',Qd oM])
 refine Zi ?_;refine xL 41 Za (xL 42 (Zu Zo) (xL 43 Za (xL 44 (Zu Zo) (xL 45 G3 ?_))));refine ZC ?_ ?_<;>intro hb45
 . (
 refine ZF ?_;refine Zg results89 rfl ?_;rw [hp,Db oM hk hk',Qc oM,Qd oM])
 refine ZF ?_;refine Zg results89 rfl ?_;rw [hp,Db oM hk hk',Qc oM,Qc oM])
def ζQ (s:BA):AF prog 198 [Zx s] (· =Zr false):=by
 refine AF.b1 6 func198 rfl ntmps198 (Xa rfl) ?_
 rintro w0 M0 _ rfl
 refine WK ?_;refine LB ?_;refine ZZ ?_
 refine Zg results198 rfl ?_
 simp
def Oy (a b:BA):AF prog 137 [Zx a,Zx b] (· =Zb (Yc a b)):=by
 refine AF.b2 20 func137 rfl ntmps137 (Xa rfl) ?_
 rintro w0 M0 _ _ rfl rfl
 refine PH ?_;refine cV (cA call198 (ζQ a)) ?_;refine JG ?_;refine cV (cA call198 (ζQ b)) ?_;refine KG ?_
 refine cCf ?_
 refine ZF ?_
 refine cCf ?_
 refine WL ?_;refine ZC ?_ ?_<;>intro hb16
 . (
 refine ZF ?_;refine Zg results137 rfl ?_;rw [EF hb16])
 refine Zi ?_;refine xL 17 Za (xL 18 Za (xL 19 ZgR ?_));refine ZC ?_ ?_<;>intro hb19
 . (
 refine ZF ?_;refine Zg results137 rfl ?_;rw [EG hb19])
 refine ZF ?_;refine Zg results137 rfl ?_;rw [EH hb16 hb19]
def Zbx (l m:List BA):AF prog 99 [ZX l,ZX m] (· =Zb (cmpStrs l m)):=by
 refine AF.b2 36 func99 rfl ntmps99 (Xa rfl) fun w0 M0 v0 v1 _ _=>?_
 refine Km 0 rfl fun hlen=>?_
 refine Km 1 rfl fun hlem=>?_
 refine WK ?_
 refine xL 9 Za (xL 10 (Zu Zo) (xL 11 Za ?_));refine ZZ ?_
 refine Y0 (ι:={k:Nat//k<=l.length/\k<=m.length/\cmpStrs l m=cmpStrs (l.drop k) (m.drop k)}) (fun k=>⟨[(0,_,_),(1,_,_),(9,_,_),(10,_,_),(11, .int .i64 k.1,Zb k.1)],[]⟩) (fun k=>l.length-k.1) ⟨0,oM,oM,rfl⟩ (fun a w H=>H.weaken sB trivial) ?_
 rintro ⟨k,hk,hk',hp⟩
 dsimp only
 refine Ys ?_ ?_<;>intro hb12
 . (
 obtain ⟨x,hx⟩:=gS l k;have e1:=Yf (f:=Zx) hx;refine Zi ?_;refine xL 13 Za (xL 14 (Ze Zo) ?_);refine yV (Zw ZE) ?_;refine JF ?_;refine xL 16 Za (xL 17 Za (xL 18 (Zu Zo) (xL 19 Zek ?_)));refine ZC ?_ ?_<;>intro hb19
 . (
 refine ZF ?_;refine Zg results99 rfl ?_;rw [hp,Db oM hk hk',Qc oM,Qd oM])
 refine nav ?_;obtain ⟨y,hy⟩:=gS m k;have e2:=Yf (f:=Zx) hy;have hs:=Zet hx hy;refine Zp ?_;refine xL 20 Za (xL 21 Za (xL 22 (Ze Zo) ?_));refine yV (Zw ZE) ?_;refine ZW ?_;refine YW ?_;refine cV (cA call137 (Oy x y)) ?_;refine ZW ?_;refine Wv ?_ ?_<;>intro hb28
 . (
 refine ZP ?_;refine Zg results99 rfl ?_;rw [hp,hs,Qc hb28])
 refine ZP ?_;refine Zh (
  ⟨k+1,oM,oM,by rw [hp,hs,Qd (by simpa using hb28)]⟩
  ) (by dsimp only;omega) sB trivial)
 refine Zi ?_;refine xL 31 Za (xL 32 (Zu Zo) (xL 33 Za (xL 34 (Zu Zo) (xL 35 Yn ?_))));refine ZC ?_ ?_<;>intro hb35
 . (
 refine ZF ?_;refine Zg results99 rfl ?_;rw [hp,Db oM hk hk',Qd oM])
 refine ZF ?_;refine Zg results99 rfl ?_;rw [hp,Db oM hk hk',Qc oM,Qc oM]
def Zby (l m:List BA):AF prog 42 [ZX l,ZX m] (· =Zb (cmpStrs l m)):=by
 refine AF.b2 8 func42 rfl ntmps42 (Xa rfl) fun w0 M0 v0 v1 _ _=>?_
 refine RF ?_;refine cV (cA call99 (Zbx l m)) ?_;refine ZD ?_
 exact Zg results42 rfl rfl
end Go.Proofs.YtmkojdfiadbeeaaGreat
namespace Go.Cb
open Go.RowKit
open Go.RowKit Go.WideMaps
structure MapT (P:Program) (t ks e:Nat):Prop where
 ht:P.underlying t=some (.map ks e)
 hk:P.underlying ks=some .string
 he:P.underlying e=some (.int .i64)
 hz:∀w,(zeroValue e).run P w= .ok (.int .i64 0) w
def Y' {a b:BA}:W7 a b=true↔a=b:=by
 unfold W7
 rw [beq_iff_eq,ByteArray.toList_eq,ByteArray.toList_eq]
 exact ⟨fun h=>WideShapes.bytes_inj h,fun h=>by rw [h]⟩
def Sg (parts:List (List BA)):BA->Option Int:=fun s=>(parts.findIdx? fun p=>hasStr p s).map fun (i:Nat)=>(i:Int)
def ζR (parts:List (List BA)) (s:BA):(Sg parts s).isSome=hasStr parts.flatten s:=by
 unfold Sg
 rw [Option.isSome_map,List.findIdx?_isSome]
 unfold hasStr
 induction parts with
 |nil=>rfl
 |cons p ps ih=>rw [List.any_cons,XS,UE,ih]
def ZgW (parts:List (List BA)) (s:BA):partOf parts s=(Sg parts s).getD (-1):=by
 unfold Sg partOf idx
 cases parts.findIdx? fun p=>hasStr p s<;>rfl
def P8 (parts:List (List BA)) (s:BA):(Sg parts s).isSome=decide (0<=partOf parts s):=by
 unfold Sg partOf idx
 cases h:parts.findIdx? fun p=>hasStr p s<;>simp
def ζS:∀(p seen:List BA),JE seen p=true↔∀k s,p[k]? =some s->hasStr (seen++p.take k) s=false
 |[],seen=>by simp [JE]
 | x ::p,seen=>by
   rw [JE,Xf,ζS p (seen++[x])];constructor
   . rintro ⟨h1,h2⟩ k s hk
     cases k with
     |zero=>simp at hk;subst hk;simpa using h1
     |succ k=>have:=h2 k s (by simpa using hk);simpa using this
   intro h;refine ⟨by simpa using h 0 x rfl,fun k s hk=>?_⟩;have:=h (k+1) s (by simpa using hk);simpa using this
def ζT (seen p:List BA) (k:Nat) (s:BA):Prop:=hasStr (seen++p.take k) s=false/\isName s=true/\∀y,1<=k->p[k-1]? =some y->strLt y s=true
def Zeu (p seen:List BA):(LY p&&JE seen p)=true↔p≠[]/\∀k s,p[k]? =some s->ζT seen p k s:=by
 unfold LY
 simp only [Xf,ζS]
 constructor
 . rintro ⟨⟨⟨h1,h2⟩,h3⟩,h4⟩;refine ⟨by intro h;subst h;simp at h1,fun k s hs=>⟨h4 k s hs,Xj.1 h2 s (Xb hs),fun y hk hy=>?_⟩⟩;exact (J0 _ _).1 h3 (k-1) y s hy (by rw [Nat.sub_add_cancel hk];exact hs)
 rintro ⟨h1,h2⟩;refine ⟨⟨⟨by cases p with|nil=>exact Qe rfl h1|cons=>rfl,?_⟩,?_⟩,fun k s hs=>(h2 k s hs).1⟩
 . rw [Xj];intro s hs;obtain ⟨i,hi,rfl⟩:=V7 hs;exact (h2 i _ (Xr hi)).2.1
 exact SH fun j x y h1 hy hx=>(h2 j x hx).2.2 y h1 hy
def ζU {p seen:List BA} {k:Nat} {s:BA} (hs:p[k]? =some s) (h:¬ζT seen p k s):(LY p&&JE seen p)=false:=by
 cases hc:(LY p&&JE seen p)
 . rfl
 exact Qe (((Zeu p seen).1 hc).2 k s hs) h
def ZbX:∀l:List UInt8,Op.bytesLess l l=false
 |[]=>rfl
 |a::l=>by simp [Op.bytesLess,ZbX l,UInt8.lt_irrefl]
def Zev:∀a b c:List UInt8,Op.bytesLess a b=true->Op.bytesLess b c=true->Op.bytesLess a c=true
 |_,_,[],_,h=>by cases h':(‹List UInt8›:List UInt8)<;>simp_all [Op.bytesLess]
 |_,[],_::_,h,_=>by simp [Op.bytesLess] at h
 |[],_::_,_::_,_,_=>rfl
 | x ::a,y::b,z::c,h1,h2=>by
   simp only [Op.bytesLess,Vj,Xf,U',beq_iff_eq] at h1 h2 ⊢;rcases h1 with h1|⟨rfl,h1⟩
   . rcases h2 with h2|⟨rfl,h2⟩
     . exact .inl (UInt8.lt_trans h1 h2)
     exact .inl h1
   rcases h2 with h2|⟨rfl,h2⟩
   . exact .inl h2
   exact .inr ⟨rfl,Zev a b c h1 h2⟩
def Zew:∀a b:List UInt8,Op.bytesLess a b=false->Op.bytesLess b a=false->a=b
 |[],[],_,_=>rfl
 |[],_::_,h,_=>by simp [Op.bytesLess] at h
 |_::_,[],_,h=>by simp [Op.bytesLess] at h
 | x::a,y::b,h1,h2=>by
   simp only [Op.bytesLess,UD,decide_eq_false_iff_not] at h1 h2;have hxy:x=y:=UInt8.le_antisymm (UInt8.not_lt.1 h2.1) (UInt8.not_lt.1 h1.1);subst hxy;simp only [beq_self_eq_true,Uq] at h1 h2;rw [Zew a b h1.2 h2.2]
def W4 (a:BA):strLt a a=false:=ZbX _
def KH {a b c:BA} (h:strLt a b=true) (k:strLt b c=true):strLt a c=true:=Zev _ _ _ h k
def Gu {a b:BA} (h:strLt a b=false) (k:strLt b a=false):a=b:=by
 have:=Zew _ _ h k
 rw [ByteArray.toList_eq,ByteArray.toList_eq] at this
 exact WideShapes.bytes_inj this
def K1 {a b:BA}:Yc a b=0↔a=b:=by
 unfold Yc
 constructor
 . intro h;split at h
   . omega
   split at h
   . rename_i h2;exact Y'.1 h2
   omega
 rintro rfl;rw [W4,Y'.2 rfl];rfl
def Tt {a b:BA}:Yc a b<0↔strLt a b=true:=by
 unfold Yc
 constructor
 . intro h;split at h
   . assumption
   split at h<;>omega
 intro h;rw [h,Qd rfl];decide
def Kn:∀{l m:List BA},cmpStrs l m=0↔l=m
 |[],[]=>by simp [cmpStrs]
 |[],_::_=>by simp [cmpStrs]
 |_::_,[]=>by simp [cmpStrs]
 | a ::l,b::m=>by
   rw [cmpStrs];split
   . rename_i h;rw [Kn,K1.1 h];simp
   rename_i h;constructor
   . intro h';exact Qe h' h
   intro h';cases h';exact Qe (K1.2 rfl) h
def ltW (l m:List BA):Bool:=decide (cmpStrs l m<0)
def ζV {a b:BA} {l m:List BA}:ltW (a::l) (b::m)=true↔strLt a b=true\/(a=b/\ltW l m=true):=by
 unfold ltW
 rw [cmpStrs]
 split
 . rename_i h;have:=K1.1 h;subst this;simp [W4]
 rename_i h;rw [U',Tt];constructor
 . exact .inl
 rintro (h1|⟨rfl,_⟩)
 . exact h1
 exact Qe (K1.2 rfl) h
def PK (l:List BA):ltW l l=false:=by unfold ltW;rw [Kn.2 rfl];rfl
def Tu:∀{a b c:List BA},ltW a b=true->ltW b c=true->ltW a c=true
 |_,b,[],_,h=>by cases b<;>simp [ltW,cmpStrs] at h
 |a,[],_::_,h,_=>by cases a<;>simp [ltW,cmpStrs] at h
 |[],_::_,_::_,_,_=>by simp [ltW,cmpStrs]
 | x ::a,y::b,z::c,h1,h2=>by
   rw [ζV] at h1 h2 ⊢;rcases h1 with h1|⟨rfl,h1⟩
   . rcases h2 with h2|⟨rfl,h2⟩
     . exact .inl (KH h1 h2)
     exact .inl h1
   rcases h2 with h2|⟨rfl,h2⟩
   . exact .inl h2
   exact .inr ⟨rfl,Tu h1 h2⟩
def Ss:∀{a b:List BA},ltW a b=false->ltW b a=false->a=b
 |[],[],_,_=>rfl
 |[],_::_,h,_=>by simp [ltW,cmpStrs] at h
 |_::_,[],_,h=>by simp [ltW,cmpStrs] at h
 | x::a,y::b,h1,h2=>by
   have g1:¬(strLt x y=true\/(x=y/\ltW a b=true)):=fun h=>by rw [ζV.2 h] at h1;cases h1
   have g2:¬(strLt y x=true\/(y=x/\ltW b a=true)):=fun h=>by rw [ζV.2 h] at h2;cases h2
   have hxy:x=y:=Gu (by cases h:strLt x y with|false=>rfl|true=>exact Qe (.inl h) g1) (by cases h:strLt y x with|false=>rfl|true=>exact Qe (.inl h) g2);subst hxy;rw [Ss (a:=a) (b:=b) (by cases h:ltW a b with|false=>rfl|true=>exact Qe (.inr ⟨rfl,h⟩) g1) (by cases h:ltW b a with|false=>rfl|true=>exact Qe (.inr ⟨rfl,h⟩) g2)]
def bump:List Var->List BA->Int->List Var
 |[],w,n=>[⟨w,n⟩]
 |x::r,w,n=>if x.acts=w then ⟨x.acts,x.count+n⟩::r else x::bump r w n
def Asc (r:List Var):Prop:=r.Pairwise fun x y=>ltW x.acts y.acts=true
def ζW {w:List BA} {n:Int}:∀{r:List Var} {x:Var},x∈YS r w n->x.acts=w\/x∈r
 |[],x,h=>by simp [YS] at h;exact .inl (by rw [h])
 | y :: r,x,h=>by
   rw [YS] at h;split at h
   . rcases Xi.1 h with rfl|h
     . exact .inr sM
     exact (ζW h).imp id fun h=>by simp [h]
   split at h
   . rcases Xi.1 h with rfl|h
     . exact .inl rfl
     exact .inr (by simp [h])
   rcases Xi.1 h with rfl|h
   . exact .inl rfl
   exact .inr h
def ζX {w:List BA} {n:Int}:∀{r:List Var},Asc r->Asc (YS r w n)
 |[],_=>by simp [YS,Asc]
 | x :: r, h=>by
   have hx:=Xy.1 h;rw [YS];split
   . rename_i hc;refine Xy.2 ⟨fun y hy=>?_,ζX hx.2⟩;rcases ζW hy with h1|h1
     . rw [h1];simpa [ltW] using hc
     exact hx.1 y h1
   split
   . rename_i hc;have hw:x.acts=w:=Kn.1 hc;refine Xy.2 ⟨fun y hy=>?_,hx.2⟩;show ltW w y.acts=true;rw [<-hw];exact hx.1 y hy
   rename_i h1 h2;have hlt:ltW w x.acts=true:=by
    cases h3:ltW w x.acts with
    |true=>rfl
    | false=>
      (have h4:ltW x.acts w=false:=by simpa [ltW] using h1);exact Qe (Kn.2 (Ss h4 h3)) h2
   refine Xy.2 ⟨fun y hy=>?_,h⟩;rcases Xi.1 hy with rfl|hy
   . exact hlt
   exact Tu hlt (hx.1 y hy)
def Nodup (r:List Var):Prop:=r.Pairwise fun x y=>x.acts≠y.acts
def Asc.nodup {r:List Var} (h:Asc r):Nodup r:=h.imp fun {x y} h e=>by rw [e,PK] at h;cases h
def Nodup.perm {r s:List Var} (h:Nodup r) (p:r.Perm s):Nodup s:=(p.pairwise_iff (fun {x y} h=>Ne.symm h)).1 h
def EI {w:List BA} {n:Int}:∀{r:List Var},(∀x∈r,x.acts≠w)->bump r w n=r++[⟨w,n⟩]
 |[],_=>rfl
 |x::r,h=>by rw [bump,Qc (h x sM),EI fun y hy=>h y (by simp [hy])];rfl
def Zkg {w:List BA} {n:Int} {r s:List Var} (hn:Nodup r) (p:r.Perm s):(bump r w n).Perm (bump s w n):=by
 induction p with
 |nil=>exact .refl _
 | cons x p ih=>
   have h:=Xy.1 hn;simp only [bump];split
   . exact p.cons _
   exact (ih h.2).cons _
 | swap x y l=>
   have h:=Xy.1 hn;have hxy:y.acts≠x.acts:=h.1 x sM;simp only [bump];by_cases h1:y.acts=w
   . have h2:x.acts≠w:=fun e=>hxy (h1.trans e.symm);rw [Qd h1,Qc h2,Qd h1];exact .swap ..
   by_cases h2:x.acts=w
   . rw [Qc h1,Qd h2,Qd h2];exact .swap ..
   rw [Qc h1,Qc h2,Qc h2,Qc h1];exact .swap ..
 |trans p q ih1 ih2=>exact (ih1 hn).trans (ih2 (hn.perm p))
def Zex {w:List BA} {n:Int}:∀{r:List Var},Asc r->(YS r w n).Perm (bump r w n)
 |[],_=> .refl _
 | x :: r, h=>by
   have hx:=Xy.1 h;rw [YS,bump];split
   . rename_i hc;(have hne:x.acts≠w:=fun e=>by rw [Kn.2 e] at hc;omega);rw [Qc hne];exact (Zex hx.2).cons _
   split
   . rename_i hc;have hw:x.acts=w:=Kn.1 hc;rw [Qd hw,hw]
   rename_i h1 h2;have hne:x.acts≠w:=fun e=>h2 (Kn.2 e);have hlt:ltW w x.acts=true:=by
    cases h3:ltW w x.acts with
    |true=>rfl
    | false=>
      (have h4:ltW x.acts w=false:=by simpa [ltW] using h1);exact Qe (Kn.2 (Ss h4 h3)) h2
   rw [Qc hne,EI fun y hy e=>by
    have h5:=Tu hlt (hx.1 y hy);rw [e,PK] at h5;cases h5]
   have:=(V2 (l₁:=[(⟨w,n⟩:Var)]) (l₂:=x::r));simpa using this
def ζY:∀{r s:List Var},Asc r->Asc s->r.Perm s->r=s
 |[],s,_,_,p=>(List.nil_perm.1 p).symm
 |x::r,[],_,_,p=>Qe p.length_eq sM
 | x :: r,y::s,hr,hs,p=>by
   have h1:=Xy.1 hr;have h2:=Xy.1 hs;have hxy:x=y:=by
    have hx:x∈y::s:=p.mem_iff.1 sM;have hy:y∈x::r:=p.mem_iff.2 sM;rcases Xi.1 hx with e|hx
    . exact e
    rcases Xi.1 hy with e|hy
    . exact e.symm
    have a:=h2.1 x hx;have b:=h1.1 y hy;have:=Tu a b;rw [PK] at this;cases this
   subst hxy;rw [ζY h1.2 h2.2 (List.Perm.cons_inv p)]
def Zey {r s t:List Var} (h1:Asc s) (h2:r.Perm s) (h3:Asc t) (h4:t.Perm r):t=s:=ζY h3 h1 (h4.trans h2)
def Zkh {w:List BA} {n:Int} {r s:List Var} (h1:Asc s) (h2:r.Perm s):(bump r w n).Perm (YS s w n):=
 (Zkg ((h1.nodup).perm h2.symm) h2).trans (Zex h1).symm
end Go.Cb
namespace Go.Proofs.YtmkojdfiadbeeaaGreat
open Go.RowKit Go.Cb Go.En Tryz
def ZgX (x y:BA):Yc x y= -1\/Yc x y=0\/Yc x y=1:=by
 have:=Zj3 x y;omega
def Si (x y:BA):(strLt x y=true/\strLt y x=false/\x≠y/\Yc x y= -1/\Yc y x=1)\/(x=y/\Yc x y=0/\Yc y x=0)\/(strLt y x=true/\strLt x y=false/\x≠y/\Yc x y=1/\Yc y x= -1):=by
 have hno:∀{a b:BA},strLt a b=true->strLt b a=false/\a≠b:=fun {a b} h=>by
  have h1:=W4 a;have h2:=W4 b;refine ⟨?_,fun e=>by subst e;rw [h] at h1;cases h1⟩
  cases h3:strLt b a with
  |false=>rfl
  |true=>rw [KH h h3] at h1;cases h1
 have heq:∀a:BA,W7 a a=true:=fun a=>Y'.2 rfl
 have hne:∀{a b:BA},a≠b->W7 a b=false:=fun {a b} h=>by
  cases h1:W7 a b with
  |false=>rfl
  |true=>exact Qe (Y'.1 h1) h
 unfold Yc
 cases h:strLt x y with
 | true=>
   obtain ⟨h1,h2⟩:=hno h;refine .inl ⟨rfl,h1,h2,sM,?_⟩;rw [h1,hne (Ne.symm h2)];rfl
 | false=>
   cases h':strLt y x with
   | true=>
     obtain ⟨h1,h2⟩:=hno h';refine .inr (.inr ⟨rfl,rfl,Ne.symm h2,?_,sM⟩);rw [hne (Ne.symm h2)];rfl
   | false=>
     have e:=Gu h h';subst e;refine .inr (.inl ⟨rfl,?_,?_⟩)<;>simp [heq]
def Zez (x y:BA):Yc y x= -Yc x y:=by
 rcases Si x y with ⟨_,_,_,h1,h2⟩|⟨_,h1,h2⟩|⟨_,_,_,h1,h2⟩<;>omega
def Sj (x y:BA):Yc x y=0↔x=y:=by
 rcases Si x y with ⟨_,_,h0,h1,h2⟩|⟨h0,h1,h2⟩|⟨_,_,h0,h1,h2⟩
 . exact ⟨fun h=>oM,fun h=>Qe h h0⟩
 . exact ⟨fun _=>h0,fun _=>h1⟩
 exact ⟨fun h=>oM,fun h=>Qe h h0⟩
def Dc {x y:BA}:Yc x y= -1↔strLt x y=true:=by
 rcases Si x y with ⟨h0,_,_,h1,h2⟩|⟨h0,h1,h2⟩|⟨_,h0,_,h1,h2⟩
 . exact ⟨fun _=>h0,fun _=>h1⟩
 . subst h0;rw [W4];exact ⟨fun h=>oM,fun h=>by cases h⟩
 rw [h0];exact ⟨fun h=>oM,fun h=>by cases h⟩
def ZgY (x y z:BA) (h:Yc x y= -1) (h':Yc y z= -1):Yc x z= -1:=Dc.2 (KH (Dc.1 h) (Dc.1 h'))
inductive Nd where
 |mk (op:Int) (act:BA) (l:List Nd)
section
def Nd.op:Nd->Int
 | .mk o _ _=>o
def Nd.act:Nd->BA
 | .mk _ a _=>a
def Nd.l:Nd->List Nd
 | .mk _ _ l=>l
def Nd.ind {P:Nd->Prop} (h:∀o a l,(∀x∈l,P x)->P (.mk o a l)):∀t,P t:=fun t=>
 Nd.rec (motive_1:=P) (motive_2:=fun l=>∀x∈l,P x) (fun o a l ih=>h o a l ih) (fun _ hx=>by cases hx) (fun x l hx hl y hy=>by
  rcases Xi.1 hy with rfl|hy
  . exact hx
  . exact hl y hy) t
def G5 (a b:Int):Int:=if a<b then-1 else if b<a then 1 else 0
def or3 (a b c:Int):Int:=if a≠0 then a else if b≠0 then b else c
mutual
def WG:Nd->Nd->Int
 | .mk o a l, .mk o' a' l'=>or3 (G5 o o') (Yc a a') (JI l l')
def JI:List Nd->List Nd->Int
 |[],[]=>0
 |[],_::_=> -1
 |_::_,[]=>1
 |x::l,y::m=>if WG x y≠0 then WG x y else JI l m
end
def Zki (a b:Int):G5 a b= -1\/G5 a b=0\/G5 a b=1:=by unfold G5;split<;>(try split)<;>omega
def ZgZ (a b:Int):G5 b a= -G5 a b:=by unfold G5;split<;>(try split)<;>(try split)<;>omega
def PL (a b:Int):G5 a b=0↔a=b:=by unfold G5;split<;>(try split)<;>omega
def ZmW (a b c:Int) (h:G5 a b= -1) (h':G5 b c= -1):G5 a c= -1:=by
 unfold G5 at*
 split at h
 . split at h'
   . rw [Qd oM]
   split at h'<;>omega
 split at h<;>omega
def ZpQ {a b c:Int} (ha:a= -1\/a=0\/a=1) (hb:b= -1\/b=0\/b=1) (hc:c= -1\/c=0\/c=1):or3 a b c= -1\/or3 a b c=0\/or3 a b c=1:=by unfold or3;split<;>(try split)<;>omega
def ZpR (a b c:Int):or3 (-a) (-b) (-c)= -or3 a b c:=by unfold or3;split<;>split<;>(try split)<;>(try split)<;>omega
def ZmX {a b c:Int}:or3 a b c=0↔a=0/\b=0/\c=0:=by unfold or3;split<;>(try split)<;>omega
def Zr6 {a b c:Int}:or3 a b c= -1↔a= -1\/(a=0/\(b= -1\/(b=0/\c= -1))):=by unfold or3;split<;>(try split)<;>omega
def ZeA:∀(l:List Nd),(∀x∈l,∀y,WG x y= -1\/WG x y=0\/WG x y=1)->∀m,JI l m= -1\/JI l m=0\/JI l m=1
 |[],_,m=>by cases m<;>simp [JI]
 | x ::l,h,m=>by
   cases m with
   |nil=>simp [JI]
   | cons y m=>
     rw [JI];split
     . exact h x (Xu ..) y
     exact ZeA l (fun y hy=>h y (Xt _ hy)) m
def ZbY:∀(l:List Nd),(∀x∈l,∀y,WG y x= -WG x y)->∀m,JI m l= -JI l m
 |[],_,m=>by cases m<;>simp [JI]
 | x ::l,h,m=>by
   cases m with
   |nil=>simp [JI]
   | cons y m=>
     rw [JI,JI,h x (Xu ..) y];have ih:=ZbY l (fun y hy=>h y (Xt _ hy)) m;by_cases h0:WG x y=0
     . rw [Qc oM,Qc oM];exact ih
     rw [Qd oM,Qd h0]
def ZbZ:∀(l:List Nd),(∀x∈l,∀y,WG x y=0↔x=y)->∀m,JI l m=0↔l=m
 |[],_,m=>by cases m<;>simp [JI]
 | x :: l,h,m=>by
   cases m with
   |nil=>simp [JI]
   | cons y m=>
     rw [JI];have h1:=h x (Xu ..) y;have ih:=ZbZ l (fun y hy=>h y (Xt _ hy)) m;by_cases h0:WG x y=0
     . rw [Qc oM,ih,h1.1 h0];simp
     rw [Qd h0];exact ⟨fun h=>Qe h h0,fun h=>Qe (h1.2 (List.cons.inj h).1) h0⟩
def SL:∀(x y:Nd),WG x y= -1\/WG x y=0\/WG x y=1:=Nd.ind fun o a l ih y=>by
 obtain ⟨o',a',l'⟩:=y
 rw [WG]
 exact ZpQ (Zki _ _) (ZgX _ _) (ZeA l ih _)
def Zb0:∀(x y:Nd),WG y x= -WG x y:=Nd.ind fun o a l ih y=>by
 obtain ⟨o',a',l'⟩:=y
 rw [WG,WG,ZgZ,Zez,ZbY l ih,ZpR]
def JJ:∀(x y:Nd),WG x y=0↔x=y:=Nd.ind fun o a l ih y=>by
 obtain ⟨o',a',l'⟩:=y
 rw [WG,ZmX,PL,Sj,ZbZ l ih]
 exact ⟨fun ⟨h1,h2,h3⟩=>by rw [h1,h2,h3],fun h=>by injection h with h1 h2 h3;exact ⟨h1,h2,h3⟩⟩
def Zis :∀(l:List Nd),(∀x∈l,∀y z,WG x y= -1->WG y z= -1->WG x z= -1)->∀m n,JI l m= -1->JI m n= -1->JI l n= -1
 | [],_,m,n,h1,h2=>by
   cases m with
   |nil=>rw [JI] at h1;omega
   | cons y m=>
     cases n with
     |nil=>rw [JI] at h2;omega
     |cons z n=>rw [JI]
 | x :: l, h,m,n,h1,h2=>by
   cases m with
   |nil=>rw [JI] at h1;omega
   | cons y m=>
     cases n with
     |nil=>rw [JI] at h2;omega
     | cons z n=>
       rw [JI] at h1 h2 ⊢;have ih:=Zis l (fun y hy=>h y (Xt _ hy)) m n;by_cases h0:WG x y=0
       . have e:=(JJ x y).1 h0;subst e;rw [Qc oM] at h1;by_cases h3:WG x z=0
         . rw [Qc oM] at h2 ⊢;exact ih h1 h2
         rw [Qd h3] at h2 ⊢;exact h2
       rw [Qd h0] at h1;by_cases h3:WG y z=0
       . have e:=(JJ y z).1 h3;subst e;rw [Qd oM];exact h1
       rw [Qd h3] at h2;have:=h x (Xu ..) y z h1 h2;rw [Qd oM];exact this
def Zdc:∀(x y z:Nd),WG x y= -1->WG y z= -1->WG x z= -1:=Nd.ind fun o a l ih y z h1 h2=>by
 obtain ⟨o',a',l'⟩:=y
 obtain ⟨o2,a2,l2⟩:=z
 rw [WG,Zr6] at h1 h2 ⊢
 rcases h1 with h1|⟨e1,h1⟩
 . rcases h2 with h2|⟨e2,_⟩
   . exact .inl (ZmW _ _ _ h1 h2)
   rw [<-(PL _ _).1 e2];exact .inl h1
 rw [(PL _ _).1 e1];rcases h2 with h2|⟨e2,h2⟩
 . exact .inl h2
 refine .inr ⟨e2,?_⟩;rcases h1 with h1|⟨e1,h1⟩
 . rcases h2 with h2|⟨e2,_⟩
   . exact .inl (ZgY _ _ _ h1 h2)
   rw [<-(Sj _ _).1 e2];exact .inl h1
 rw [(Sj _ _).1 e1];rcases h2 with h2|⟨e2,h2⟩
 . exact .inl h2
 exact .inr ⟨e2,Zis l ih _ _ h1 h2⟩
def leT (x y:Nd):Prop:=WG x y≠1
def Ld (x:Nd):leT x x:=by
 have:=(JJ x x).2 rfl
 unfold leT;omega
def ZeB {x y:Nd} (h:leT x y) (h':leT y x):x=y:=by
 unfold leT at*
 have:=Zb0 x y
 have:=SL x y
 exact (JJ x y).1 oM
def Zit {x y:Nd}:leT x y↔WG x y= -1\/x=y:=by
 unfold leT
 have:=SL x y
 rw [<-JJ x y];omega
def Gc {x y z:Nd} (h:leT x y) (h':leT y z):leT x z:=by
 rw [Zit] at*
 rcases h with h|rfl
 . rcases h' with h'|rfl
   . exact .inl (Zdc x y z h h')
   exact .inl h
 exact h'
def Zdd {x y:Nd}:¬WG x y<0↔leT y x:=by
 unfold leT
 have:=Zb0 x y
 have:=SL x y
 omega
end
section
mutual
def szT:Nd->Nat
 | .mk _ _ l=>1+szL l
def szL:List Nd->Nat
 |[]=>0
 |x::l=>szT x+szL l
end
mutual
def dpT:Nd->Nat
 | .mk _ _ l=>1+dpL l
def dpL:List Nd->Nat
 |[]=>0
 |x::l=>max (dpT x) (dpL l)
end
def Ln (l m:List Nd):szL (l++m)=szL l+szL m:=by
 induction l with
 |nil=>simp [szL]
 |cons x l ih=>rw [Vh,szL,szL,ih,Vy]
def ζZ {l:List Nd} {k:Nat} {x:Nd} (h:l[k]? =some x):szL (l.take (k+1))=szL (l.take k)+szT x:=by
 rw [List.take_add_one,h,Ln];simp [szL]
def Ziu (t:Nd):1<=szT t:=by cases t;rw [szT];omega
def PM {l:List Nd} {x:Nd} (h:x∈l):szT x<=szL l:=by
 induction l with
 |nil=>cases h
 | cons y l ih=>
   rw [szL];rcases Xi.1 h with rfl|h
   . omega
   have:=ih h;omega
def ZpS {l:List Nd} {x:Nd} (h:x∈l):dpT x<=dpL l:=by
 induction l with
 |nil=>cases h
 | cons y l ih=>
   rw [dpL];rcases Xi.1 h with rfl|h
   . omega
   have:=ih h;omega
def Zr7 {l:List Nd} {n:Nat}:dpL l<=n↔∀x∈l,dpT x<=n:=by
 induction l with
 |nil=>simp [dpL]
 |cons y l ih=>rw [dpL,Nat.max_le,ih];simp
def rightT (t:Nd):Bool:=
 if t.op=1 then t.l.isEmpty&&isName t.act else if t.op=2 then t.l.isEmpty&&decide (t.act=ByteArray.empty) else if t.op=3\/t.op=4\/t.op=5 then !t.l.isEmpty&&decide (t.act=ByteArray.empty)
 else if t.op=6 then decide (t.l.length=2)&&decide (t.act=ByteArray.empty) else false
mutual
def okT:Nd->Bool
 | .mk o a l=>rightT (.mk o a l)&&okL l
def okL:List Nd->Bool
 |[]=>true
 |x::l=>okT x&&okL l
end
def ZpT {l:List Nd}:okL l=true↔∀x∈l,okT x=true:=by
 induction l with
 |nil=>simp [okL]
 |cons x l ih=>rw [okL,Xf,ih];simp
def J3 {t:Nd}:okT t=true↔rightT t=true/\∀x∈t.l,okT x=true:=by
 obtain ⟨o,a,l⟩:=t
 rw [okT,Xf,ZpT];rfl
def Tv (t:Nd) (most:Int) (d:Int):Bool:=okT t&&decide ((szT t:Int)<=most)&&decide (d+dpT t<=61)
def ZmY {t:Nd} {most d:Int} (h:most<1\/60<d\/rightT t=false):Tv t most d=false:=by
 cases hm:Tv t most d with
 |false=>rfl
 | true=>
   exfalso;unfold Tv at hm;simp only [Xf,U'] at hm;obtain ⟨⟨h1,h2⟩,h3⟩:=hm;have h4:=Ziu t;have h5:1<=dpT t:=by cases t;rw [dpT];omega
   rcases h with h|h|h
   . omega
   . omega
   rw [(J3.1 h1).1] at h;cases h
def ZeC {t:Nd} {most d:Int} {k:Nat} {x:Nd} (hx:t.l[k]? =some x) (h:Tv x (most-(1+szL (t.l.take k))) (d+1)=false):Tv t most d=false:=by
 cases hm:Tv t most d with
 |false=>rfl
 | true=>
   exfalso;unfold Tv at hm h;simp only [Xf,U'] at hm;obtain ⟨⟨h1,h2⟩,h3⟩:=hm;have hmem:=Xb hx;have e1:=(J3.1 h1).2 x hmem;have e2:szL t.l=szL (t.l.take k)+szL (t.l.drop k):=by rw [<-Ln,Vw]
   have e3:szT x<=szL (t.l.drop k):=PM (Xb (show (t.l.drop k)[0]? =some x by rw [Vn];exact hx));have e4:szT t=1+szL t.l:=by cases t;rw [szT];rfl
   have e5:dpT t=1+dpL t.l:=by cases t;rw [dpT];rfl
   have e6:=ZpS hmem;rw [e1,Qa oM,Qa oM] at h
   cases h
def Ziv {t:Nd} {most d:Int} (hr:rightT t=true) (h1:1<=most) (h2:d<=60) (h:∀k x,t.l[k]? =some x->Tv x (most-(1+szL (t.l.take k))) (d+1)=true):Tv t most d=true:=by
 have e4:szT t=1+szL t.l:=by cases t;rw [szT];rfl
 have e5:dpT t=1+dpL t.l:=by cases t;rw [dpT];rfl
 unfold Tv at h ⊢
 have key:∀k x,t.l[k]? =some x->okT x=true/\(szT x:Int)<=most-(1+szL (t.l.take k))/\d+1+dpT x<=61:=fun k x hx=>by
  have:=h k x hx;simp only [Xf,U'] at this;exact ⟨this.1.1,this.1.2,this.2⟩
 simp only [Xf,U']
 refine ⟨⟨J3.2 ⟨hr,fun x hx=>?_⟩,?_⟩,?_⟩
 . obtain ⟨k,hk⟩:=XM hx;exact (key k x hk).1
 . rw [e4];rcases hn:t.l.length with _|n
   . have:t.l=[]:=Xv hn;rw [this];simp [szL];omega
   obtain ⟨x,hx⟩:∃x,t.l[n]? =some x:=⟨_,Xr oM⟩;have e1:=(key n x hx).2.1;have e2:=ζZ hx;rw [Xs (show t.l.length<=n+1 by omega)] at e2;omega
 rw [e5];have:dpL t.l<=(60-d).toNat:=Zr7.2 fun x hx=>by
  obtain ⟨k,hk⟩:=XM hx;have:=(key k x hk).2.2;omega
 omega
def Gp (t:Nd):Bool:=Tv t 400 1
def ζ0 {t:Nd} (h:Gp t=true):okT t=true:=by unfold Gp Tv at h;simp only [Xf] at h;exact h.1.1
def ζ1 {t:Nd} (h:Gp t=true):szT t<=400:=by unfold Gp Tv at h;simp only [Xf,U'] at h;omega
def Oz (x:Nd):List Nd->List Nd
 |[]=>[x]
 |y::l=>if WG y x<0 then y::Oz x l else x::y::l
def SN (x:Nd):List Nd->List Nd
 |[]=>[x]
 |y::l=>if WG y x<0 then y::SN x l else if WG y x=0 then y::l else x::y::l
def Zbz (l:List Nd):List Nd:=l.foldl (fun m x=>Oz x m) []
def Tw:List Nd->List Nd
 |[]=>[]
 | x::l=>match l with
   |[]=>[x]
   |y::m=>if WG x y=0 then Tw (y::m) else x::Tw (y::m)
abbrev AscT (l:List Nd):Prop:=l.Pairwise fun x y=>leT x y
abbrev StrT' (l:List Nd):Prop:=l.Pairwise fun x y=>WG x y<0
def Zry {x y:Nd} (h:WG x y<0):leT x y:=by unfold leT;omega
def Zs9 {x y:Nd} (h:WG x y<0):x≠y:=fun e=>by have:=(JJ x y).2 e;omega
def HL {x y:Nd} (h:leT x y) (h':x≠y):WG x y<0:=by
 rcases Zit.1 h with h|h
 . omega
 exact Qe h h'
def R4 (x:Nd):∀l,(Oz x l).Perm (x::l)
 |[]=>List.Perm.refl _
 | y::l=>by
   rw [Oz];split
   . exact ((R4 x l).cons y).trans (List.Perm.swap ..)
   exact List.Perm.refl _
def ZeD (x:Nd):∀l,AscT l->AscT (Oz x l)
 |[],_=>Ua ..
 | y ::l,h=>by
   rw [Oz];obtain ⟨h1,h2⟩:=Xy.1 h;split
   . rename_i hl;refine Xy.2 ⟨fun z hz=>?_,ZeD x l h2⟩;rcases Xi.1 ((R4 x l).mem_iff.1 hz) with rfl|hz
     . exact Zry hl
     exact h1 z hz
   rename_i hl;have hxy:leT x y:=Zdd.1 hl;refine Xy.2 ⟨fun z hz=>?_,h⟩;rcases Xi.1 hz with rfl|hz
   . exact hxy
   exact Gc hxy (h1 z hz)
def ZeE (l:List Nd):∀m,AscT m->AscT (l.foldl (fun m x=>Oz x m) m)/\(l.foldl (fun m x=>Oz x m) m).Perm (m++l):=by
 induction l with
 |nil=>intro m h;exact ⟨h,sM⟩
 | cons x l ih=>
   intro m h;rw [Vq];obtain ⟨h1,h2⟩:=ih _ (ZeD x m h);refine ⟨h1,h2.trans ?_⟩;exact ((R4 x m).append_right l).trans (by
    rw [Vh];exact (List.perm_middle (l₁:=m) (a:=x) (l₂:=l)).symm)
def OA (l:List Nd):AscT (Zbz l):=(ZeE l [] List.Pairwise.nil).1
def LC (l:List Nd):(Zbz l).Perm l:=by
 have:=(ZeE l [] List.Pairwise.nil).2
 rwa [XY] at this
def ZeF {l m:List Nd} (hl:AscT l) (hm:AscT m) (h:l.Perm m):l=m:=by
 exact List.Perm.eq_of_pairwise (fun a b _ _ h1 h2=>ZeB h1 h2) hl hm h
def ZpU {l m:List Nd} (hm:AscT m) (h:m.Perm l):m=Zbz l:=ZeF hm (OA l) (h.trans (LC l).symm)
def ζ2 (x:Nd):∀l z,z∈SN x l↔z=x\/z∈l
 |[],z=>by simp [SN]
 | y :: l,z=>by
   rw [SN];split
   . rw [Xi,ζ2 x l z,Xi];constructor
     . rintro (h|h|h)<;>simp [h]
     rintro (h|h|h)<;>simp [h]
   split
   . rename_i h;rw [(JJ y x).1 h];simp
   simp
def ZeG (x:Nd):∀l,StrT' l->StrT' (SN x l)
 |[],_=>Ua ..
 | y :: l,h=>by
   rw [SN];obtain ⟨h1,h2⟩:=Xy.1 h;split
   . rename_i hl;refine Xy.2 ⟨fun z hz=>?_,ZeG x l h2⟩;rcases (ζ2 x l z).1 hz with rfl|hz
     . exact hl
     exact h1 z hz
   rename_i hl;split
   . exact h
   rename_i hn;have hxy:WG x y<0:=HL (Zdd.1 hl) fun e=>hn ((JJ y x).2 e.symm);refine Xy.2 ⟨fun z hz=>?_,h⟩;rcases Xi.1 hz with rfl|hz
   . exact hxy
   have a:=h1 z hz;have b1:=SL x y;have b2:=SL y z;have:=Zdc x y z oM oM;omega
def Ziw {l:List Nd} (h:StrT' l):AscT l:=h.imp fun h=>Zry h
def Zb1 {l:List Nd} (h:StrT' l):l.Nodup:=h.imp fun h=>Zs9 h
def ζ3 {l m:List Nd} (hl:StrT' l) (hm:StrT' m) (h:∀z,z∈l↔z∈m):l=m:=
 ZeF (Ziw hl) (Ziw hm) ((U6 (Zb1 hl) (Zb1 hm)).2 h)
def Le:∀(l:List Nd) z,z∈Tw l↔z∈l
 |[],z=>by simp [Tw]
 |[x],z=>by simp [Tw]
 | x ::y::m,z=>by
   rw [Tw];split
   . rename_i h;rw [Le (y::m),(JJ x y).1 h];simp
   rw [Xi,Le (y::m)];simp
def TR:∀(l:List Nd),AscT l->StrT' (Tw l)
 |[],_=>List.Pairwise.nil
 |[x],_=>Ua ..
 | x ::y::m,h=>by
   rw [Tw];obtain ⟨h1,h2⟩:=Xy.1 h;split
   . exact TR (y::m) h2
   rename_i hn;refine Xy.2 ⟨fun z hz=>?_,TR (y::m) h2⟩;have hz':=(Le (y::m) z).1 hz;have hxz:=h1 z hz';refine HL hxz fun e=>hn ?_;subst e;have hyx:leT y x:=by
    rcases Xi.1 hz' with h|h
    . rw [h];exact Ld y
    exact (Xy.1 h2).1 _ h
   exact (JJ x y).2 (ZeB (h1 y (Xu ..)) hyx)
def ZmZ (l:List Nd):∀m,StrT' m->StrT' (l.foldl (fun m x=>SN x m) m)/\∀z,z∈l.foldl (fun m x=>SN x m) m↔z∈m\/z∈l:=by
 induction l with
 |nil=>intro m h;exact ⟨h,sM⟩
 | cons x l ih=>
   intro m h;rw [Vq];obtain ⟨h1,h2⟩:=ih _ (ZeG x m h);refine ⟨h1,fun z=>?_⟩;rw [h2,ζ2,Xi];constructor
   . rintro ((h|h)|h)<;>simp [h]
   rintro (h|h|h)<;>simp [h]
def ZpV (l:List Nd):Tw (Zbz l)=l.foldl (fun m x=>SN x m) []:=by
 obtain ⟨h1,h2⟩:=ZmZ l [] List.Pairwise.nil
 refine ζ3 (TR _ (OA l)) h1 fun z=>?_
 rw [Le,(LC l).mem_iff,h2];simp
end
section
def HM:Nd:= .mk 2 ByteArray.empty []
def Kw (op:Int) (l:List Nd):List Nd:=l.flatMap fun x=>if x.op=op then x.l else if x.op≠2\/op=4 then [x] else []
def EJ (op:Int):List Nd->Nd
 |[]=>HM
 |[x]=>x
 |x::y::l=> .mk op ByteArray.empty (x::y::l)
def RI (op:Int) (p:List Nd):List Nd:=if op=3 then p else if op=4 then Tw (Zbz p) else Zbz p
def R5 (op:Int) (l:List Nd):Nd:=EJ op (RI op (Kw op l))
def Gv (f s:Nd):Nd×Nd:=if f.op=6 then match f.l with
 |a::b::_=>(a,R5 4 [b,s])
 |_=>(f,s) else (f,s)
def ζ4 (p:Nd×Nd):Nd:=if p.1.op=2/\p.2.op=2 then HM else .mk 6 ByteArray.empty [p.1,p.2]
def ZpW:List Nd->Nd
 |f::s::_=>ζ4 (Gv f s)
 |_=>HM
def ζ5 (o:Int) (a:BA) (l:List Nd):Nd:=if o=1\/o=2 then .mk o a [] else if o=6 then ZpW l else R5 o l
mutual
def Yt:Nd->Nd
 | .mk o a l=>ζ5 o a (Kh l)
def Kh:List Nd->List Nd
 |[]=>[]
 |x::l=>Yt x::Kh l
end
def Rn (l:List Nd):Kh l=l.map Yt:=by
 induction l with
 |nil=>rfl
 |cons x l ih=>rw [Kh,ih];rfl
def Lo (op:Int) (l:List Nd):List Nd:=l.flatMap fun x=>if x.op=op then x.l else [x]
def OB (op:Int) (m:List Nd) (x:Nd):List Nd:=if op=4 then SN x m else if x.op=2 then m else if op=5 then Oz x m else m++[x]
def EK (op:Int) (l:List Nd):Nd:=EJ op ((Lo op l).foldl (OB op) [])
def SO (f s:Nd):Nd×Nd:=if f.op=6 then match f.l with
 |a::b::_=>(a,EK 4 [b,s])
 |_=>(f,s) else (f,s)
def ZpX:List Nd->Nd
 |f::s::_=>ζ4 (SO f s)
 |_=>HM
mutual
def ZeH:Nd->Nd
 | .mk o a l=>if l.isEmpty then .mk o a [] else if o=6 then ZpX (ζ6 l) else EK o (ζ6 l)
def ζ6:List Nd->List Nd
 |[]=>[]
 |x::l=>ZeH x::ζ6 l
end
def ZeI (l:List Nd):ζ6 l=l.map ZeH:=by
 induction l with
 |nil=>rfl
 |cons x l ih=>rw [ζ6,ih];rfl
def Zg0 {α β:Type} (f g:α->β->α) (l:List β) (h:∀b∈l,∀a,f a b=g a b):∀a,l.foldl f a=l.foldl g a:=by
 induction l with
 |nil=>exact fun _=>rfl
 |cons x l ih=>intro a;rw [Vq,Vq,h x (Xu ..)];exact ih (fun b hb=>h b (Xt _ hb)) _
def Zkj (l:List Nd):∀m,l.foldl (fun m x=>m++[x]) m=m++l:=by
 induction l with
 |nil=>simp
 |cons x l ih=>intro m;rw [Vq,ih];simp
def Zkk (f:List Nd->Nd->List Nd) (l:List Nd):∀m,l.foldl (fun m x=>if x.op=2 then m else f m x) m=(l.filter fun x=>decide (x.op≠2)).foldl f m:=by
 induction l with
 |nil=>exact fun _=>rfl
 | cons x l ih=>
   intro m;rw [Vq,VU];by_cases h:x.op=2
   . rw [Qd h,ih];simp [h]
   rw [Qc h,ih];simp [h]
def ZpY {op:Int} {l:List Nd} (h:∀x∈l,x.op=op->∀y∈x.l,y.op≠2) (h4:op≠4):Kw op l=(Lo op l).filter fun x=>decide (x.op≠2):=by
 induction l with
 |nil=>rfl
 | cons x l ih=>
   have ih:=ih fun y hy=>h y (Xt _ hy);unfold Kw Lo at ih ⊢;rw [Xq,Xq,Vs,ih];congr 1;by_cases h1:x.op=op
   . rw [Qd h1,Qd h1];exact (Ur.2 fun y hy=>Qa (h x (Xu ..) h1 y hy)).symm
   rw [Qc h1,Qc h1];by_cases h2:x.op=2
   . simp [h2,h4]
   simp [h2]
def Zm0 (l:List Nd):Kw 4 l=Lo 4 l:=by
 unfold Kw Lo
 congr 1
 funext x
 simp
def ZpZ {op:Int} {l:List Nd} (h:∀x∈l,x.op=op->op≠4->∀y∈x.l,y.op≠2) (ho:op=3\/op=4\/op=5):EK op l=R5 op l:=by
 unfold EK R5 RI
 congr 1
 by_cases h4:op=4
 . subst h4;rw [Qc dC,Qd rfl,Zm0,ZpV];rfl
 rw [Qc h4,ZpY (fun x hx he=>h x hx he h4) h4];have e:(Lo op l).foldl (OB op) []=(Lo op l).foldl (fun m x=>if x.op=2 then m else (fun m x=>if op=5 then Oz x m else m++[x]) m x) []:=by
  refine Zg0 _ _ _ (fun x _ m=>?_) _;unfold OB;rw [Qc h4]
 rw [e,Zkk];by_cases h3:op=3
 . subst h3;rw [Qd rfl];have:=Zkj ((Lo (3:Int) l).filter fun x=>decide (x.op≠2)) [];rw [XY] at this;exact this
 have h5:op=5:=oM;subst h5;rw [Qc h3];rfl
structure NfN (t:Nd):Prop where
 rt:rightT t=true
 two:t.op≠6->∀x∈t.l,2<=t.l.length/\x.op≠t.op
 ns:t.op=3\/t.op=5->∀x∈t.l,x.op≠2
 xo:t.op=4->StrT' t.l
 an:t.op=5->AscT t.l
 lp:t.op=6->∃a b,t.l=[a,b]/\a.op≠6/\¬(a.op=2/\b.op=2)
inductive NF:Nd->Prop
 |mk (t:Nd) (h:NfN t) (hp:∀x∈t.l,NF x):NF t
def NF.n {t:Nd}:NF t->NfN t
 | .mk _ h _=>h
def NF.p {t:Nd}:NF t->∀x∈t.l,NF x
 | .mk _ _ h=>h
def NF.ok {t:Nd}:NF t->okT t=true
 | .mk _ h hp=>J3.2 ⟨h.rt,fun x hx=>NF.ok (hp x hx)⟩
def R6 {t:Nd} (h:rightT t=true):t.op=1\/t.op=2\/t.op=3\/t.op=4\/t.op=5\/t.op=6:=by
 unfold rightT at h
 by_cases h1:t.op=1
 . exact .inl h1
 by_cases h2:t.op=2
 . exact .inr (.inl h2)
 by_cases h3:t.op=3\/t.op=4\/t.op=5
 . omega
 by_cases h4:t.op=6
 . omega
 rw [Qc h1,Qc h2,Qc h3,Qc h4] at h;cases h
def Zkl:rightT HM=true:=by unfold rightT HM;simp [Nd.op,Nd.l,Nd.act]
def Zix {t:Nd} (hr:rightT t=true) (hl:t.l=[]) (ho:t.op=1\/t.op=2):NF t:=
 .mk t ⟨hr,fun _ x hx=>by (rw [hl] at hx;cases hx),fun h=>oM,fun h=>oM,fun h=>oM,fun h=>oM⟩ fun x hx=>by rw [hl] at hx;cases hx
def Zm1:NF HM:=Zix Zkl rfl (.inr rfl)
def Zp0 {op:Int} {l:List Nd} (hl:∀x∈l,NF x) (ho:op=3\/op=4\/op=5) {y:Nd} (hy:y∈Kw op l):NF y/\y.op≠op/\(op≠4->y.op≠2):=by
 unfold Kw at hy
 obtain ⟨x,hx,hy⟩:=Us.1 hy
 by_cases h1:x.op=op
 . rw [Qd h1] at hy;have hn:=(hl x hx).n;refine ⟨(hl x hx).p y hy,?_,fun h4=>hn.ns oM y hy⟩;rw [<-h1];exact (hn.two oM y hy).2
 rw [Qc h1] at hy;split at hy
 . rename_i h2;rw [XE] at hy;subst hy;exact ⟨hl _ hx,h1,fun h4=>oM⟩
 cases hy
def Zp1 {op:Int} {p:List Nd} {y:Nd}:y∈RI op p↔y∈p:=by
 unfold RI
 split
 . exact Iff.rfl
 split
 . rw [Le,(LC p).mem_iff]
 rw [(LC p).mem_iff]
def Zr8 {op:Int} (ho:op=3\/op=4\/op=5) {p:List Nd} (hp:∀y∈p,NF y/\y.op≠op/\(op≠4->y.op≠2)) (h4:op=4->StrT' p) (h5:op=5->AscT p):NF (EJ op p):=by
 match p,hp,h4,h5 with
 |[],_,_,_=>exact Zm1
 |[x],hp,_,_=>exact (hp x (Xu ..)).1
 | x::y::l,hp,h4,h5=>
   refine .mk _ ⟨?_,fun _ z hz=>⟨by simp [EJ,Nd.l],(hp z hz).2.1⟩,fun h z hz=>(hp z hz).2.2 (by simp only [EJ,Nd.op] at h;omega),fun h=>h4 h,fun h=>h5 h,fun h=>?_⟩ fun z hz=>(hp z hz).1
   . rcases ho with rfl|rfl|rfl<;>simp [rightT,EJ,Nd.op,Nd.l,Nd.act]
   simp only [EJ,Nd.op] at h;omega
def Ziy {op:Int} (ho:op=3\/op=4\/op=5) {l:List Nd} (hl:∀x∈l,NF x):NF (R5 op l):=by
 refine Zr8 ho (fun y hy=>Zp0 hl ho (Zp1.1 hy)) (fun h=>?_) (fun h=>?_)
 . subst h;unfold RI;rw [Qc dC,Qd rfl];exact TR _ (OA _)
 subst h;unfold RI;rw [Qc dC,Qc dC];exact OA _
def Zp2 {p:Nd×Nd} (h1:NF p.1) (h2:NF p.2) (h6:p.1.op≠6):NF (ζ4 p):=by
 unfold ζ4
 split
 . exact Zm1
 rename_i h;refine .mk _ ⟨by simp [rightT,Nd.op,Nd.l,Nd.act],fun h=>Qe rfl h,fun h=>?_,fun h=>?_,fun h=>?_,fun _=>⟨_,_,rfl,h6,h⟩⟩ fun x hx=>?_
 . simp [Nd.op] at h
 . simp [Nd.op] at h
 . simp [Nd.op] at h
 rcases Xi.1 hx with rfl|hx
 . exact h1
 rcases Xi.1 hx with rfl|hx
 . exact h2
 cases hx
def Zp3 {f s:Nd} (hf:NF f) (hs:NF s):NF (Gv f s).1/\NF (Gv f s).2/\(Gv f s).1.op≠6:=by
 unfold Gv
 by_cases h:f.op=6
 . rw [Qd h];obtain ⟨a,b,hl,ha,_⟩:=hf.n.lp h;rw [hl];have hp:=hf.p;rw [hl] at hp;have hb:=hp b sM;refine ⟨hp a sM,Ziy oM fun x hx=>?_,ha⟩;rcases Xi.1 hx with rfl|hx
   . exact hb
   rw [XE] at hx;subst hx;exact hs
 rw [Qc h];exact ⟨hf,hs,h⟩
def Zm2:∀(t:Nd),okT t=true->NF (Yt t):=Nd.ind fun o a l ih hok=>by
 obtain ⟨hr,hp⟩:=J3.1 hok
 simp only [Nd.l] at hp
 have hl:∀x∈Kh l,NF x:=fun x hx=>by
  rw [Rn] at hx;obtain ⟨y,hy,rfl⟩:=Xp.1 hx;exact ih y hy (hp y hy)
 rw [Yt]
 unfold ζ5
 split
 . rename_i h;refine Zix ?_ rfl h;unfold rightT at hr ⊢;rcases h with rfl|rfl
   . simp [Nd.op,Nd.l,Nd.act] at hr ⊢;exact hr.2
   simp [Nd.op,Nd.l,Nd.act] at hr ⊢;exact hr.2
 split
 . rename_i h1 h;subst h;have hlen:l.length=2:=by
    unfold rightT at hr;simp [Nd.op,Nd.l,Nd.act] at hr;exact Qf hr.1
   obtain ⟨x,y,rfl⟩:∃x y,l=[x,y]:=by
    match l,hlen with
    |[x,y],_=>exact ⟨x,y,rfl⟩
   rw [Kh,Kh,Kh] at hl ⊢;obtain ⟨g1,g2,g3⟩:=Zp3 (hl (Yt x) sM) (hl (Yt y) sM);exact Zp2 g1 g2 g3
 rename_i h1 h2;exact Ziy (by have:=R6 hr;simp only [Nd.op] at this;omega) hl
def Zde:∀(t:Nd),okT t=true->ZeH t=Yt t:=Nd.ind fun o a l ih hok=>by
 obtain ⟨hr,hp⟩:=J3.1 hok
 simp only [Nd.l] at hp
 have hnf:∀x∈Kh l,NF x:=fun x hx=>by
  rw [Rn] at hx;obtain ⟨y,hy,rfl⟩:=Xp.1 hx;exact Zm2 y (hp y hy)
 have hlr:ζ6 l=Kh l:=by
  rw [ZeI,Rn];exact VV fun x hx=>ih x hx (hp x hx)
 rw [ZeH,Yt,hlr]
 have hops:=R6 hr
 simp only [Nd.op] at hops
 unfold ζ5
 by_cases h12:o=1\/o=2
 . have:l=[]:=by
    unfold rightT at hr;rcases h12 with rfl|rfl<;>simp [Nd.op,Nd.l] at hr<;>exact hr.1
   rw [Qd h12,this];rfl
 have hne:l.isEmpty=false:=by
  cases l with
  | nil=>
    exfalso;unfold rightT at hr;rcases hops with h|h|h|h|h|h<;>subst h<;>simp [Nd.op,Nd.l] at hr h12
  |cons=>rfl
 rw [Qc h12,hne];simp only [VG,if_false];have hsil:∀{op:Int} {m:List Nd},(∀x∈m,NF x)->(op=3\/op=4\/op=5)->EK op m=R5 op m:=fun {op m} hm ho=>
  ZpZ (fun x hx he h4 y hy=>(hm x hx).n.ns oM y hy) ho
 by_cases h6:o=6
 . rw [Qd h6,Qd h6];subst h6;match hm:Kh l with
   |[]=>rfl
   |[_]=>rfl
   | f ::s::m=>
     rw [ZpX,ZpW];congr 1;rw [hm] at hnf;have hf:=hnf f sM;have hs:=hnf s sM;unfold SO Gv;by_cases hfo:f.op=6
     . rw [Qd hfo,Qd hfo];obtain ⟨x,y,hl,_⟩:=hf.n.lp hfo;rw [hl];have hp:=hf.p;rw [hl] at hp;show (x,EK 4 [y,s])=(x,R5 4 [y,s]);rw [hsil (op:=4) (m:=[y,s]) (fun z hz=>by
        rcases Xi.1 hz with rfl|hz
        . exact hp _ sM
        . rw [XE] at hz;subst hz;exact hs) oM]
     rw [Qc hfo,Qc hfo]
 rw [Qc h6,Qc h6];exact hsil hnf oM
end
