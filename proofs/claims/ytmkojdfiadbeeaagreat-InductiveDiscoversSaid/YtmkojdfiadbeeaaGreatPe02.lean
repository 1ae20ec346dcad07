/-
  Walks of functions and plain laws of the chapter, as the claim needs them.
-/
import Derived.KernelRfl
import Derived.Test.YtmkojdfiadbeeaaGreatProg
import Derived.Maps.Own
import Derived.Maps.OwnOps
import Derived.Maps.OwnSet
import Derived.StringKeys
import Derived.Test.YtmkojdfiadbeeaaGreatPe01
set_option linter.all false
set_option maxRecDepth 100000
set_option maxHeartbeats 8000000
namespace Go.En
open Go.RowKit Go.Cb
section
variable {P:Program} {c:Ctx} {sL hP:List (Nat×Ent)} {o:Oper}
theorem Zf6 {t k j:Nat} {x:Operand} {v:Value} {cs ps:List PV} (hT:AggT P t k=true) (ho:o.op= .load t x) (hx:ev sL x=some (v, .sptr j cs)) (hp:j+k<=cs.length) (hps:(cs.drop j).take k=ps):YE P (⟨sL,hP⟩:St) o (fun _=>True) (.agg ps):=hps▸Zi2 hT ho hx hp
theorem Zf7 {t k j e k' n:Nat} {x:Operand} {h:Value} {q:PV} {cs ps:List PV} (l:Nat) (hT:AggT P t k=true) (ho:o.op= .load t x) (hx:ev sL x=some (padd (sbase h) j,q)) (hl:lk hP l=some (h, .own e k' n cs)) (hp:j+k<=cs.length) (hk:0<k) (hps:(cs.drop j).take k=ps) (hsh:ps.all isSh=true):YE P (⟨sL,hP⟩:St) o (fun _=>True) (.agg ps):=by
 subst hps;exact Zi3 l hT ho hx hl hp hsh hk
theorem H9 {t j:Nat} {x:Operand} {v:Value} {cs:List PV} {p:PV} (i:Nat) (hT:NoAgg P t=true) (ho:o.op= .load t x) (hx:ev sL x=some (v, .sptr j cs)) (hj:j=i) (hp:cs[i]? =some p):YE P (⟨sL,hP⟩:St) o (vOf p) p:=by
 subst hj;exact ZdA hT ho hx hp
theorem Jd {t j e k n:Nat} {x:Operand} {h:Value} {q:PV} {cs:List PV} {p:PV} (l i:Nat) (hT:NoAgg P t=true) (ho:o.op= .load t x) (hx:ev sL x=some (padd (sbase h) j,q)) (hl:lk hP l=some (h, .own e k n cs)) (hj:j=i) (hp:cs[i]? =some p) (hsh:isSh p=true):YE P (⟨sL,hP⟩:St) o (vOf p) p:=by
 subst hj;exact ZdB l hT ho hx hl hp hsh
theorem ZqM {f:Nat} {caps:Array Operand} {es:List Ent} (ho:o.op= .makeFunc (.func f) #[] caps) (hx:evL sL caps.toList=some es):YE P (⟨sL,hP⟩:St) o (· = .func (.func f) #[] (es.map (·.1)).toArray) (.fn f (es.map (·.2))):=
 .exact fun M F a w H=>by
  obtain ⟨h1,h2⟩:=Sr H hx;refine ⟨.fn f _ _ (by rw [Xc,Xc]) h2,?_⟩;have:caps.map a.eval=(es.map (·.1)).toArray:=by rw [<-h1,<-V5,VU]
  simp [execOp,ho,Instr.makeFunc,this]
end
theorem Ki {P:Program} {c:Ctx} {sL hP:List (Nat×Ent)} {Q:Exit->Act->World->Prop} {x:Code} {n:Nat} {v:Value} {cs:List PV} (t:Nat) (ht:lk sL t=some (v, .sl n cs)) (k:n<=9223372036854775807->aC P c x Q (⟨sL,hP⟩:St)):aC P c x Q (⟨sL,hP⟩:St):=fun a w H=>by
 obtain ⟨F,H'⟩:=id H
 have h1:=(H'.sl t _ _ ht).2
 have:n<=9223372036854775807:=by
  cases h1 with
  |emp=>omega
  |sl b off n c cs vs hn hc=>unfold maxLen at hc;omega
 exact k this a w H
abbrev Zb (n:Int):PV:= .val (.int .i64 n)
abbrev Zv (s:BA):PV:= .val (.string s)
abbrev Zr (b:Bool):PV:= .val (.bool b)
def ZW (l:List BA):PV:= .sl l.length (l.map Zv)
def LG (l:List (List BA)):PV:= .sl l.length (l.map ZW)
def pInts (l:List Int):PV:= .sl l.length (l.map Zb)
def Wo (x:Var):List PV:=[ZW x.acts,Zb x.count]
def Z1 (l:List Var):PV:= .sl l.length (l.flatMap Wo)
def ZcC (l:List (List Var)):PV:= .sl l.length (l.map Z1)
def Pf (x:Cut):PV:= .agg [Zb x.kind,LG x.parts]
theorem Yh {α β:Type} {f:α->β} {l:List α} {i:Nat} {x:α} (h:l[i]? =some x):(l.map f)[i*1]? =some (f x):=by rw [XI,Xl,h];rfl
theorem Ya {α β:Type} {f:α->List β} {k:Nat} (hf:∀x,(f x).length=k):∀l:List α,(l.flatMap f).length=l.length*k
 |[]=>sM
 |x::l=>by rw [Xr,Xf,hf,Ya hf l,Xi,X3];omega
theorem Wr {α β:Type} {f:α->List β} {k:Nat} (hf:∀x,(f x).length=k):∀(l:List α) (i:Nat) (x:α),l[i]? =some x->((l.flatMap f).drop (i*k)).take k=f x
 |[],i,x,h=>by simp at h
 | y::l,0,x,h=>by
   simp at h;subst h;rw [X8,Vc,Xr,List.take_append_of_le_length (by rw [hf];exact Xd _),Xt (by rw [hf];exact Xd _)]
 | y::l,i+1,x,h=>by
   rw [Xr,X3,Nat.one_mul,Nat.add_comm,<-List.drop_drop,List.drop_append_of_le_length (by rw [hf];exact Xd _),show (f y).drop k=[] from List.drop_of_length_le (by rw [hf];exact Xd _),XX];exact Wr hf l i x (by simpa using h)
theorem Yx {α β:Type} {f:α->List β} {k:Nat} (hf:∀x,(f x).length=k) {l:List α} {i:Nat} {x:α} (h:l[i]? =some x) {j:Nat} (hj:j<k):(l.flatMap f)[i*k+j]? =(f x)[j]? :=by
 rw [<-Wr hf l i x h,X1 hj,Vp]
theorem W9 {α β:Type} {f:α->List β} {k:Nat} (hf:∀x,(f x).length=k) {l:List α} {i:Nat} {x:α} (h:l[i]? =some x):i*k+k<=(l.flatMap f).length:=by
 rw [Ya hf]
 have:=Zd h
 have h1:(i+1)*k<=l.length*k:=Vs k this
 rw [X3,Nat.one_mul] at h1
 exact h1
theorem Z0 (x:Var):(Wo x).length=2:=rfl
theorem ZlG {α:Type} {l:List α} (h:l.length=1):∃a,l=[a]:=by
 match l,h with
 |[a],_=>exact ⟨a,rfl⟩
theorem ζd {α:Type} {l:List α} (h:l.length=2):∃a b,l=[a,b]:=by
 match l,h with
 |[a,b],_=>exact ⟨a,b,rfl⟩
theorem ZrN {α:Type} {l:List α} (h:l.length=3):∃a b d,l=[a,b,d]:=by
 match l,h with
 |[a,b,d],_=>exact ⟨a,b,d,rfl⟩
theorem Zsc {α:Type} {l:List α} (h:l.length=4):∃a b d e,l=[a,b,d,e]:=by
 match l,h with
 |[a,b,d,e],_=>exact ⟨a,b,d,e,rfl⟩
def keq:Value->Value->Bool
 | .string a, .string b=>a==b
 | .int k a, .int k' b=>decide (k=k')&&a==b
 | .bool a, .bool b=>a==b
 |_,_=>false
theorem Zf8 {a b:BA}:(a==b)=true↔a=b:=by
 obtain ⟨a⟩:=a
 obtain ⟨b⟩:=b
 rw [show ((⟨a⟩:BA)==⟨b⟩)=(a==b) from rfl]
 simp
theorem ZoA {a b:Value} (h:keq a b=true):keq b a=true:=by
 cases a<;>cases b<;>simp_all [keq,Zf8]
def kok (kd:TypeDesc) (k:Value) (kv:List (Value×Value)):Prop:=∀x∈kv,Instr.sameNow kd k x.1=some (keq k x.1)
def Kv:List (Value×Value)->Value->Option Value
 |[],_=>none
 |x::l,k=>if keq k x.1 then some x.2 else Kv l k
def RB:List (Value×Value)->Value->Value->List (Value×Value)
 |[],k,v=>[(k,v)]
 |x::l,k,v=>if keq k x.1 then (k,v)::l else x::RB l k v
def RD:List (Value×Value)->Value->Option Nat
 |[],_=>none
 |x::l,k=>if keq k x.1 then some 0 else (RD l k).map (· +1)
theorem D' {kd:TypeDesc} {k:Value}:∀(l:List MapEntry) (i:Nat),kok kd k (l.map fun x=>(x.key,x.val))->
 Instr.findNow kd k l i=some (match RD (l.map fun x=>(x.key,x.val)) k,Kv (l.map fun x=>(x.key,x.val)) k with|some j,some v=>some (i+j,v)|_,_=>none)/\((RD (l.map fun x=>(x.key,x.val)) k).isSome=(Kv (l.map fun x=>(x.key,x.val)) k).isSome)
 |[],i,_=>⟨rfl,rfl⟩
 | e :: l,i,h=>by
   have h0:=h (e.key,e.val) sM;obtain ⟨h1,h2⟩:=D' l (i+1) (fun x hx=>h x (by simp at hx ⊢;exact .inr hx));simp only at h0;simp only [Instr.findNow,h0,Xm,RD,Kv]
   cases hk:keq k e.key
   . simp only [VE,if_false];rw [h1]
     cases hm:RD (l.map fun x=>(x.key,x.val)) k with
     | none=>
       rw [hm] at h2
       cases hg:Kv (l.map fun x=>(x.key,x.val)) k with
       |none=>simp
       |some v=>rw [hg] at h2;simp at h2
     | some j=>
       rw [hm] at h2
       cases hg:Kv (l.map fun x=>(x.key,x.val)) k with
       |none=>rw [hg] at h2;simp at h2
       |some v=>simp;omega
   . simp
structure MpT (P:Program) (t ks e:Nat) (kd:TypeDesc) (z:Value):Prop where
 ht:P.underlying t=some (.map ks e)
 hk:P.underlying ks=some kd
 hkd:kd= .string\/∃k,kd= .int k
 hz:ZeroT P e z
section
variable {P:Program} {c:Ctx} {ops:Array Oper} {Q:Exit->Act->World->Prop} {rest:List Oper} {sL hP:List (Nat×Ent)} {o:Oper}
theorem Pg {ks:Nat} {kd:TypeDesc} (hk:P.underlying ks=some kd) (hkd:kd= .string\/∃k,kd= .int k) (b:Bool) (v:Value) (w:World):(Instr.checkKey b 10000 ks v).run P w= .ok () w:=by
 rw [show (10000:Nat)=9999+1 from rfl,Instr.checkKey]
 rcases hkd with rfl|⟨k,rfl⟩<;>simp [run_underlying hk]
theorem TD {ks:Nat} {kd:TypeDesc} (hk:P.underlying ks=some kd) {k:Value} {es:Array MapEntry} (h:kok kd k (kvOf es)) (w:World):(Instr.findKey ks k es.toList).run P w= .ok (match RD (kvOf es) k,Kv (kvOf es) k with|some j,some v=>some (j,v)|_,_=>none) w:=by
 obtain ⟨h1,_⟩:=D' es.toList 0 h
 unfold Instr.findKey
 simp only [Sem.run_bind,run_underlying hk,Result.andThen_ok,h1,XA]
 rfl
theorem Zhw (kv:List (Value×Value)) (k:Value):(RD kv k).isSome=(Kv kv k).isSome:=by
 induction kv with
 |nil=>rfl
 | cons x l ih=>
   simp only [RD,Kv];split
   . rfl
   . simpa using ih
theorem Ph {t ks e:Nat} {kd:TypeDesc} {z:Value} (hT:MpT P t ks e kd z) {b clock:Nat} {es:Array MapEntry} {k:Value} (hb:Bool) {w:World} (h:w.heap[b]? =some (.map es clock)) (hk:kok kd k (kvOf es)):
 (Instr.lookup t (.map (some b)) k hb).run P w= .ok (if hb then .tuple #[(Kv (kvOf es) k).getD z, .bool (Kv (kvOf es) k).isSome] else (Kv (kvOf es) k).getD z) w:=by
 have hm:=Zhw (kvOf es) k
 unfold Instr.lookup
 simp only [Sem.run_bind,run_underlying hT.ht,Result.andThen_ok,getObj,Sem.run,h,Pg hT.hk hT.hkd,TD hT.hk hk]
 cases h1:RD (kvOf es) k with
 | none=>
   rw [h1] at hm
   cases h2:Kv (kvOf es) k with
   |none=>cases hb<;>simp [TD hT.hk hk,h1,h2,ZeroT.run hT.hz]
   |some v=>rw [h2] at hm;simp at hm
 | some j=>
   rw [h1] at hm
   cases h2:Kv (kvOf es) k with
   |none=>rw [h2] at hm;simp at hm
   |some v=>cases hb<;>simp [TD hT.hk hk,h1,h2]
theorem ZlH {t ks e:Nat} {kd:TypeDesc} {z:Value} {x y:Operand} {m k:Value} {kv:List (Value×Value)} {q:PV} (hT:MpT P t ks e kd z) (ho:o.op= .lookup t x y false) (hx:ev sL x=some (m, .smap kv)) (hy:ev sL y=some (k,q)) (hk:kok kd k kv):
 YE P (⟨sL,hP⟩:St) o (· =(Kv kv k).getD z) (.val ((Kv kv k).getD z)):= .exact fun M F a w H=>by
 obtain ⟨hv,hs⟩:=H.ev hx
 have hkv:=(H.ev hy).1
 cases hs with
 |smap b es clock hM h=>exact ⟨.val _,by simp [execOp,ho,hv,hkv,Ph hT false h hk]⟩
theorem Zja {t ks e:Nat} {kd:TypeDesc} {z:Value} {x y:Operand} {m k:Value} {kv:List (Value×Value)} {q:PV} (hT:MpT P t ks e kd z) (ho:o.op= .lookup t x y true) (hx:ev sL x=some (m, .smap kv)) (hy:ev sL y=some (k,q)) (hk:kok kd k kv):
 YE P (⟨sL,hP⟩:St) o (· = .tuple [(Kv kv k).getD z, .bool (Kv kv k).isSome].toArray) (.tup [.val ((Kv kv k).getD z), .val (.bool (Kv kv k).isSome)]):= .exact fun M F a w H=>by
 obtain ⟨hv,hs⟩:=H.ev hx
 have hkv:=(H.ev hy).1
 cases hs with
 | smap b es clock hM h=>
   refine ⟨.tup _ _ rfl fun i x p hx hp=>?_,by simp [execOp,ho,hv,hkv,Ph hT true h hk]⟩;match i with
   |0=>simp at hx hp;subst hx hp;exact .val _
   |1=>simp at hx hp;subst hx hp;exact .val _
   |i+2=>simp at hx
theorem Zjb {t ks e:Nat} {kd:TypeDesc} {z u:Value} {x y:Operand} {m k:Value} {kv:List (Value×Value)} {q:PV} (hT:MpT P t ks e kd z) (ho:o.op= .lookup t x y false) (hx:ev sL x=some (m, .smap kv)) (hy:ev sL y=some (k,q)) (hk:kok kd k kv) (hu:(Kv kv k).getD z=u):
 YE P (⟨sL,hP⟩:St) o (· =u) (.val u):=hu▸ZlH hT ho hx hy hk
theorem Tr.map {M:BS} {w:World} {m:Value} {kv:List (Value×Value)} {F:BS} (h:Tr M w m (.omap kv) F):∃b es clock,m= .map (some b)/\kv=kvOf es/\w.heap[b]? =some (.map es clock)/\∀x,F x↔x=b:=by
 cases h with
 |shr h _=>cases h
 |omap b es clock h hF=>exact ⟨b,es,clock,rfl,rfl,h,hF⟩
theorem ZlI {t ks e:Nat} {kd:TypeDesc} {z:Value} {x y:Operand} {m k:Value} {kv:List (Value×Value)} {p q:PV} (l:Nat) (hT:MpT P t ks e kd z) (ho:o.op= .lookup t x y false) (hx:ev sL x=some (m,p)) (hl:lk hP l=some (m, .omap kv)) (hy:ev sL y=some (k,q)) (hk:kok kd k kv):
 YE P (⟨sL,hP⟩:St) o (· =(Kv kv k).getD z) (.val ((Kv kv k).getD z)):= .exact fun M F a w H=>by
 have hv:=(H.ev hx).1
 have hkv:=(H.ev hy).1
 obtain ⟨b,es,clock,rfl,rfl,h,_⟩:=(H.tr l _ _ hl).map
 exact ⟨.val _,by simp [execOp,ho,hv,hkv,Ph hT false h hk]⟩
theorem Zjc {t ks e:Nat} {kd:TypeDesc} {z:Value} {x y:Operand} {m k:Value} {kv:List (Value×Value)} {p q:PV} (l:Nat) (hT:MpT P t ks e kd z) (ho:o.op= .lookup t x y true) (hx:ev sL x=some (m,p)) (hl:lk hP l=some (m, .omap kv)) (hy:ev sL y=some (k,q)) (hk:kok kd k kv):
 YE P (⟨sL,hP⟩:St) o (· = .tuple [(Kv kv k).getD z, .bool (Kv kv k).isSome].toArray) (.tup [.val ((Kv kv k).getD z), .val (.bool (Kv kv k).isSome)]):= .exact fun M F a w H=>by
 have hv:=(H.ev hx).1
 have hkv:=(H.ev hy).1
 obtain ⟨b,es,clock,rfl,rfl,h,_⟩:=(H.tr l _ _ hl).map
 refine ⟨.tup _ _ rfl fun i x p hx hp=>?_,by simp [execOp,ho,hv,hkv,Ph hT true h hk]⟩
 match i with
 |0=>simp at hx hp;subst hx hp;exact .val _
 |1=>simp at hx hp;subst hx hp;exact .val _
 |i+2=>simp at hx
theorem Zjd {t ks e:Nat} {kd:TypeDesc} {z u:Value} {x y:Operand} {m k:Value} {kv:List (Value×Value)} {p q:PV} (l:Nat) (hT:MpT P t ks e kd z) (ho:o.op= .lookup t x y false) (hx:ev sL x=some (m,p)) (hl:lk hP l=some (m, .omap kv)) (hy:ev sL y=some (k,q)) (hk:kok kd k kv) (hu:(Kv kv k).getD z=u):
 YE P (⟨sL,hP⟩:St) o (· =u) (.val u):=hu▸ZlI l hT ho hx hl hy hk
theorem Tr.mapW {M:BS} {w:World} {m:Value} {kv:List (Value×Value)} {F:BS} (h:Tr M w m (.omap kv) F):∃b es clock,m= .map (some b)/\kv=kvOf es/\w.heap[b]? =some (.map es clock)/\(∀x,F x↔x=b)/\WfM es clock:=by
 cases h with
 |shr h _=>cases h
 |omap b es clock h hF hW=>exact ⟨b,es,clock,rfl,rfl,h,hF,hW⟩
theorem Zhx {es:Array MapEntry} {clock:Nat} {k v:Value} (h:WfM es clock):WfM (es.push {key:=k,val:=v,born:=clock}) (clock+1):=by
 refine ⟨fun x hx=>?_,?_⟩
 . rw [Array.toList_push,XB,XC] at hx;rcases hx with hx|rfl
   . have:=h.1 x hx;omega
   . exact UK _
 . rw [Array.toList_push,XW,X6];refine ⟨h.2,sM,fun a ha b hb=>?_⟩;rw [Xm,Vw,XC] at hb;obtain ⟨x,hx,rfl⟩:=Xp.1 ha;have:=h.1 x hx;dsimp only at hb;omega
theorem Zbp {es:Array MapEntry} {clock j:Nat} (f:MapEntry->MapEntry) (hf:∀e,(f e).born=e.born) (h:WfM es clock):WfM (es.modify j f) clock:=by
 have e:(es.modify j f).toList.map (·.born)=es.toList.map (·.born):=by
  rw [UL];have:∀(l:List MapEntry) (j:Nat),(l.modify j f).map (·.born)=l.map (·.born):=fun l=>by
   induction l with
   |nil=>intro j;simp
   | cons a l ih=>intro j;cases j with
     |zero=>simp [hf]
     |succ j=>rw [UM,Xm,Xm,ih]
  exact this _ _
 refine ⟨fun x hx=>?_,e▸h.2⟩
 have h1:x.born∈es.toList.map (·.born):=e▸Xp.2 ⟨x,hx,rfl⟩
 obtain ⟨y,hy,hxy⟩:=Xp.1 h1
 have:=h.1 y hy
 omega
theorem Ha (es:Array MapEntry):(kvOf es).length=es.size:=by simp [kvOf]
theorem ZlJ {t ks e:Nat} {x:Operand} {m:Value} {kv:List (Value×Value)} (ht:P.underlying t=some (.map ks e)) (ho:o.op= .call {callee:= .builtin .len,args:= #[x],argTypes:= #[t]}) (hx:ev sL x=some (m, .smap kv)):YE P (⟨sL,hP⟩:St) o (· = .int .i64 kv.length) (.val (.int .i64 kv.length)):= .exact fun M F a w H=>by
 obtain ⟨hv,hs⟩:=H.ev hx
 cases hs with
 |smap b es clock hM h=>exact ⟨.val _,by simp [execOp,ho,hv,resolve,invoke,builtin,Builtin.len_,run_underlying ht,getObj,Sem.run,h,goInt,Ha]⟩
theorem ZlK {t ks e:Nat} {x:Operand} {m:Value} {kv:List (Value×Value)} {p:PV} (l:Nat) (ht:P.underlying t=some (.map ks e)) (ho:o.op= .call {callee:= .builtin .len,args:= #[x],argTypes:= #[t]}) (hx:ev sL x=some (m,p)) (hl:lk hP l=some (m, .omap kv)):YE P (⟨sL,hP⟩:St) o (· = .int .i64 kv.length) (.val (.int .i64 kv.length)):= .exact fun M F a w H=>by
 have hv:=(H.ev hx).1
 obtain ⟨b,es,clock,rfl,rfl,h,_⟩:=(H.tr l _ _ hl).map
 exact ⟨.val _,by simp [execOp,ho,hv,resolve,invoke,builtin,Builtin.len_,run_underlying ht,getObj,Sem.run,h,goInt,Ha]⟩
theorem ZlL {t:Nat} (d:Nat) (hw:Yf ops sL o=some true) (hd:o.dst=some d) (hn:d<c.nt) (ho:o.op= .makeMap t none) (hl:lk hP d=none)
 (k:∀m:Value,m.oneCell'=true->aL P c ops Q rest ⟨put d (m, .val m) sL,put d (m, .omap []) hP⟩):aL P c ops Q (o::rest) (⟨sL,hP⟩:St):=
 WY hw fun a w F H=>by
  have key:HoldsF c ⟨put d (.map (some w.heap.size), .val (.map (some w.heap.size))) sL,put d (.map (some w.heap.size), .omap []) hP⟩ (fun l'=>if l'=d then (fun b=>b=w.heap.size) else F l') (a.put (some d) (.map (some w.heap.size))) (w.alloc (.map #[] 0)):=by
   refine H.change (fun l'=>l'=d) hn ((Ext.alloc _ _).chg) (fun l' x hne hx'=>?_) (fun l' x b hT hx' hb=>?_) (fun hm l' u q hT hx'=>?_) (fun l1 l2 _ _ _ h1 h2 hne=>Qd (h1.trans h2.symm) hne) (fun hm=> .val _)
   . rcases YC hx' with ⟨e1,_⟩|⟨_,e1⟩
     . exact Qd e1.symm hne
     . exact ⟨e1,by simp [hne]⟩
   . subst hT;simp only [if_true] at hb;exact .inr (by rw [hb];exact Xd _)
   . subst hT;rw [Z4] at hx'
     cases hx';simp only [if_true];refine .omap w.heap.size #[] 0 ?_ (fun x=>Iff.rfl) ⟨sM,sM⟩;show (w.heap.push _)[w.heap.size]? =_;simp
  unfold Oper.wp execOp;simp [ho,Instr.makeMap,newObj,Sem.run,hd,Oper.upon];exact k _ rfl _ _ ⟨_,key⟩
theorem Zje {es:Array MapEntry} {k v:Value}:∀{j:Nat},RD (kvOf es) k=some j->kvOf (es.modify j fun e=>{e with key:=k,val:=v})=RB (kvOf es) k v:=by
 have key:∀(l:List MapEntry) (j:Nat),RD (l.map fun x=>(x.key,x.val)) k=some j->(l.modify j fun e=>{e with key:=k,val:=v}).map (fun x=>(x.key,x.val))=RB (l.map fun x=>(x.key,x.val)) k v:=by
  intro l;induction l with
  |nil=>intro j h;simp [RD] at h
  | cons e l ih=>
    intro j h;simp only [Xm,RD] at h;simp only [Xm,RB];split at h
    . rename_i hk
      cases h;simp [hk]
    . rename_i hk;rw [XS] at h;obtain ⟨j',h1,rfl⟩:=h;rw [Qb hk,UM,Xm,ih j' h1]
 intro j h
 unfold kvOf at h ⊢
 rw [UL]
 exact key _ j h
theorem ZoB {es:Array MapEntry} {k v:Value} {clock:Nat} (h:RD (kvOf es) k=none):kvOf (es.push {key:=k,val:=v,born:=clock})=RB (kvOf es) k v:=by
 have key:∀kv:List (Value×Value),RD kv k=none->kv++[(k,v)]=RB kv k v:=by
  intro kv;induction kv with
  |nil=>intro _;rfl
  | cons x l ih=>
    intro h;simp only [RD] at h;split at h
    . cases h
    . rename_i hk;rw [Option.map_eq_none_iff] at h;rw [RB,Qb hk,Vd,ih h]
 rw [<-key _ h]
 simp [kvOf]
def bits:Value->Bool
 | .string _| .int _ _| .bool _=>true
 |_=>false
theorem Zjf {a b:Value} (hb:bits a=true) (h:keq b a=true):Instr.sameBits 10000 a b=true:=by
 have h:=ZoA h
 cases a<;>cases b<;>simp_all [keq,bits,Instr.sameBits]
theorem ZoC {t ks e:Nat} {kd:TypeDesc} {z:Value} {x y u:Operand} {m k v:Value} {kv:List (Value×Value)} {p q r:PV} (l:Nat) (hw:Yf ops sL o=some true) (hd:o.dst=none) (hT:MpT P t ks e kd z) (ho:o.op= .mapUpdate t x y u) (hx:ev sL x=some (m,p)) (hl:lk hP l=some (m, .omap kv)) (hy:ev sL y=some (k,q)) (hu:ev sL u=some (v,r)) (hk:kok kd k kv) (hbits:bits k=true)
 (kk:aL P c ops Q rest ⟨sL,put l (m, .omap (RB kv k v)) hP⟩):aL P c ops Q (o::rest) (⟨sL,hP⟩:St):=
 WY hw fun a w F H=>by
  have hxv:=(H.rd.ev hx).1;have hyv:=(H.rd.ev hy).1;have huv:=(H.rd.ev hu).1;obtain ⟨b,es,clock,rfl,rfl,hb,hFb,hWf⟩:=(H.tr l _ _ hl).mapW;have hm:=Zhw (kvOf es) k;have main:∀(es':Array MapEntry) (clock':Nat),WfM es' clock'->kvOf es'=RB (kvOf es) k v->Holds c ⟨sL,put l (.map (some b), .omap (RB (kvOf es) k v)) hP⟩ a {w with heap:=w.heap.setIfInBounds b (.map es' clock')}:=fun es' clock' hW' he=>by
   have hlt:=KP hb;have hch:Chg (fun x=>x=b) w {w with heap:=w.heap.setIfInBounds b (.map es' clock')}:=⟨rfl,rfl,rfl,sM,fun i hi hne=>by
    rw [UN (fun e=>hne e.symm)]⟩
   refine ⟨F,H.change0 (fun l'=>l'=l) (hch.wid fun x hx=> .inl ⟨l,_,rfl,hl,(hFb x).2 hx⟩) (fun l' x hne hx'=>?_) (fun l' x b' hT' hx' hb'=>?_) (fun hmm l' u q hT' hx'=>?_) (fun l1 l2 _ _ _ h1 h2 hne=>Qd (h1.trans h2.symm) hne)⟩
   . rcases YC hx' with ⟨e1,_⟩|⟨_,e1⟩
     . exact Qd e1.symm hne
     . exact ⟨e1,rfl⟩
   . subst hT';exact .inl ⟨l',_,rfl,hl,hb'⟩
   . subst hT';rw [Z4] at hx'
     cases hx';rw [<-he];exact .omap b es' clock' (by simp [hlt]) hFb hW'
  unfold Oper.wp execOp
  cases h1:RD (kvOf es) k with
  | none=>
    rw [h1] at hm
    cases h2:Kv (kvOf es) k with
    |some v=>rw [h2] at hm;simp at hm
    | none=>
      simp [ho,hxv,hyv,huv,Instr.mapUpdate,run_underlying hT.ht,getObj,setObj,Sem.run,hb,Pg hT.hk hT.hkd,TD hT.hk hk,h1,h2,Oper.upon,hd,Act.put];exact kk _ _ (main _ _ (Zhx hWf) (ZoB h1))
  | some j =>
    rw [h1] at hm
    cases h2:Kv (kvOf es) k with
    |none=>rw [h2] at hm;simp at hm
    | some v0=>
      have hj:∃e0,es[j]? =some e0/\keq k e0.key=true:=by
       have key:∀(l:List MapEntry) (j:Nat),RD (l.map fun x=>(x.key,x.val)) k=some j->∃e0,l[j]? =some e0/\keq k e0.key=true:=by
        intro l;induction l with
        |nil=>intro j h;simp [RD] at h
        | cons e l ih=>
          intro j h;simp only [Xm,RD] at h;split at h
          . rename_i hk;cases h;exact ⟨e,rfl,hk⟩
          . rw [XS] at h;obtain ⟨j',h1,rfl⟩:=h;obtain ⟨e0,h3,h4⟩:=ih j' h1;exact ⟨e0,by simpa using h3,h4⟩
       obtain ⟨e0,h3,h4⟩:=key es.toList j h1;exact ⟨e0,by simpa using h3,h4⟩
      obtain ⟨e0,h3,h4⟩:=hj;have hb0:bits e0.key=true:=by
       cases k<;>simp [bits] at hbits<;>(generalize e0.key=y at h4 ⊢;cases y<;>simp_all [keq,bits])
      have hsb:=Zjf hb0 h4;simp [ho,hxv,hyv,huv,Instr.mapUpdate,run_underlying hT.ht,getObj,setObj,Sem.run,hb,Pg hT.hk hT.hkd,TD hT.hk hk,h1,h2,h3,Instr.keyThatStays,hsb,Oper.upon,hd,Act.put];exact kk _ _ (main _ _ (Zbp _ (fun _=>rfl) hWf) (Zje h1))
end
def skv (es:List (BA×Value)):List (Value×Value):=es.map fun x=>(.string x.1,x.2)
def ikv (es:List (Int×Value)):List (Value×Value):=es.map fun x=>(.int .i64 x.1,x.2)
theorem Hb (kd:TypeDesc) (k:Value):kok kd k []:=fun x h=>by simp at h
theorem S5 (s:BA) (es:List (BA×Value)):kok .string (.string s) (skv es):=fun x h=>by
 simp [skv] at h
 obtain ⟨a,b,_,rfl⟩:=h
 rfl
theorem Hc (n:Int) (es:List (Int×Value)):kok (.int .i64) (.int .i64 n) (ikv es):=fun x h=>by
 simp [ikv] at h
 obtain ⟨a,b,_,rfl⟩:=h
 simp [Instr.sameNow,keq]
def Ks {κ:Type} [DecidableEq κ]:List (κ×Value)->κ->Option Value
 |[],_=>none
 |x::l,k=>if k=x.1 then some x.2 else Ks l k
def K8 {κ:Type} [DecidableEq κ]:List (κ×Value)->κ->Value->List (κ×Value)
 |[],k,v=>[(k,v)]
 |x::l,k,v=>if k=x.1 then (k,v)::l else x::K8 l k v
theorem LH (es:List (BA×Value)) (s:BA):Kv (skv es) (.string s)=Ks es s:=by
 induction es with
 |nil=>rfl
 | cons x l ih=>
   simp only [skv,Xm,Kv,Ks,keq,Zf8];rw [show List.map (fun x:BA×Value=>(Value.string x.1,x.2)) l=skv l from rfl,ih]
theorem P6 (es:List (BA×Value)) (s:BA) (v:Value):RB (skv es) (.string s) v=skv (K8 es s v):=by
 induction es with
 |nil=>rfl
 | cons x l ih=>
   simp only [skv,Xm,RB,K8,keq,Zf8];rw [show List.map (fun x:BA×Value=>(Value.string x.1,x.2)) l=skv l from rfl,ih];by_cases h:s=x.1
   . rw [Qc h,Qc h];rfl
   . rw [Qb h,Qb h];rfl
theorem ZlM (es:List (Int×Value)) (s:Int):Kv (ikv es) (.int .i64 s)=Ks es s:=by
 induction es with
 |nil=>rfl
 | cons x l ih=>
   simp only [ikv,Xm,Kv,Ks,keq];rw [show List.map (fun x:Int×Value=>(Value.int .i64 x.1,x.2)) l=ikv l from rfl,ih];simp
theorem ZlN (es:List (Int×Value)) (s:Int) (v:Value):RB (ikv es) (.int .i64 s) v=ikv (K8 es s v):=by
 induction es with
 |nil=>rfl
 | cons x l ih=>
   simp only [ikv,Xm,RB,K8,keq];rw [show List.map (fun x:Int×Value=>(Value.int .i64 x.1,x.2)) l=ikv l from rfl,ih];by_cases h:s=x.1
   . rw [Qc h,Qc (by simp [h])];rfl
   . rw [Qb h,Qb (by simp [h])];rfl
section
variable {P:Program} {ops:Array Oper} {Q:Exit->Act->World->Prop} {md:Region.Mode} {C:World->Prop} {Z:Nat->Bool}
def wpAnyS (P:Program) (md:Region.Mode) (ops:Array Oper) (Q:Exit->Act->World->Prop) (C:World->Prop) (Z:Nat->Bool):Nat->Array Bool->Act->World->Prop
 |0,listed,a,w=>Region.ready md ops listed=[]/\Q .normal a w
 | fuel+1,listed,a,w=>
   (Region.ready md ops listed=[]->Q .normal a w)/\
   ∀i∈Region.ready md ops listed,wpOp P ops (Zbh Q) i (fun a' w'=>(Z i=true\/C w')/\wpAnyS P md ops Q C Z fuel (listed.setIfInBounds i true) a' w') a w
theorem ζe:∀(fuel:Nat) (listed:Array Bool) (a:Act) (w:World),wpAnyS P md ops Q C Z fuel listed a w->wpAny P md ops Q fuel listed a w
 |0,_,_,_,h=>h
 |fuel+1,_,_,_,h=>⟨h.1,fun i hi=>ZfZ (wpOp_mono (fun a' w' h'=>ζe fuel _ a' w' h'.2) (h.2 i hi))⟩
def Dv (md:Region.Mode) (ops:Array Oper) (Z:Nat->Bool) (i:Nat):Bool:=(List.range ops.size).all fun z=> !Z z||Zdz md ops z i
theorem Hd {i:Nat} {oi:Oper} {v:Value} (hi:ops[i]? =some oi) (hz:Dv md ops Z i=true)
 (hsel:∀(j:Nat) (o:Oper) cs b,ops[j]? =some o->o.op≠ .select cs b):
 ∀ (fuel:Nat) (listed:Array Bool) (a:Act) (w:World),
  (∀j oj,ops[j]? =some oj->j≠i->listed.getD j true=false->(∀e∈oj.after,Region.binds md e=true->e.on≠i)->oi.apart ops oj=true)->
  i∈Region.ready md ops listed->YieldsC P ops C oi v a->C w->
  wpAnyS P md ops Q C Z fuel (listed.setIfInBounds i true) (a.put oi.dst v) w->wpAnyS P md ops Q C Z (fuel+1) listed a w:=by
 intro fuel
 induction fuel with
 | zero=>
   intro listed a w _ hr hy hC H;refine ⟨fun h=>(by rw [h] at hr;cases hr),fun j hj=>?_⟩;by_cases hji:j=i
   . subst hji;exact YieldsIf.wpOp hi hy.ifS hC ⟨.inr hC,H⟩
   . have:=ready_mono hj hji;rw [H.1] at this
     cases this
 | succ fuel ih=>
   intro listed a w hfree hr hy hC H;refine ⟨fun h=>(by rw [h] at hr;cases hr),fun j hj=>?_⟩;by_cases hji:j=i
   . subst hji;exact YieldsIf.wpOp hi hy.ifS hC ⟨.inr hC,H⟩
   . have h1:=H.2 j (ready_mono hj hji);obtain ⟨hjun,oj,hoj,hall⟩:=mem_ready.1 hj;have hnot:∀e∈oj.after,Region.binds md e=true->e.on≠i:=fun e he hb heq=>by
      have h1:=hall e he hb;have h0:=(mem_ready.1 hr).1;rw [heq] at h1;rcases XL i listed.size with h'|h'
      . simp [h'] at h0 h1;rw [h0] at h1;cases h1
      . simp [VA h'] at h1
     have hjz:Z j=false:=by
      cases hZ:Z j
      . rfl
      . exfalso;have hjs:j<ops.size:=by
         rcases XL j ops.size with h'|h'
         . exact h'
         . rw [VA h'] at hoj;cases hoj
        have:=Xj.1 hz j (XQ.2 hjs);rw [hZ] at this;simp only [Bool.not_true,Ui] at this;unfold Zdz at this;rw [hoj] at this;obtain ⟨e,he,hb⟩:=Array.any_eq_true'.1 this;simp only [Xe,beq_iff_eq] at hb;exact hnot e he hb.1 hb.2
     have h2:=wpOp_putIf hoj (hfree j oj hoj hji hjun hnot) (fun cs b=>hsel i oi cs b hi) (fun cs b=>hsel j oj cs b hoj) (fun c a w h=>h) hy.ifS h1;have hfree':∀k ok,ops[k]? =some ok->k≠i->(listed.setIfInBounds j true).getD k true=false->
      (∀e∈ok.after,Region.binds md e=true->e.on≠i)->oi.apart ops ok=true:=fun k ok hk hki hun hno=>by
      refine hfree k ok hk hki ?_ hno;by_cases hjk:j=k
      . subst hjk;exact hjun
      . rw [getD_set_ne true hjk] at hun;exact hun
     refine wpOp_mono (fun a' w' h3=>?_) h2;obtain ⟨hy',hor,hK⟩:=h3;have hC':C w':=by
      rcases hor with h|h
      . rw [hjz] at h;cases h
      . exact h
     refine ⟨.inr hC',ih (listed.setIfInBounds j true) a' w' hfree' (ready_mono hr (Ne.symm hji)) hy' hC' ?_⟩;rw [Array.setIfInBounds_comm _ _ hji];exact hK
end
def Gb (K:List Nat):List (Nat×Ent)->List (Nat×Ent)
 |[]=>[]
 |(k,x)::l=>cond (K.elem k) ((k,x)::Gb K l) (Gb K l)
def LI (K:List Nat):List (Nat×Ent)->List (Nat×Ent)
 |[]=>[]
 |(k,x)::l=>cond (K.elem k) (LI K l) ((k,x)::LI K l)
theorem RE {K:List Nat} {t:Nat}:∀{l:List (Nat×Ent)} {x:Ent},lk (Gb K l) t=some x↔K.elem t=true/\lk l t=some x
 |[],x=>by simp [Gb,lk]
 | (k, y)::l,x=>by
   unfold Gb
   cases hk:K.elem k
   . simp only [cond_false,lk];rw [RE]
     cases hb:Nat.beq k t
     . simp
     . have:k=t:=X0 hb;subst this;rw [hk];simp
   . simp only [cond_true,lk]
     cases hb:Nat.beq k t
     . simp only [cond_false];exact RE
     . have:k=t:=X0 hb;subst this;rw [hk];simp
theorem Gz {K:List Nat} {t:Nat}:∀{l:List (Nat×Ent)} {x:Ent},lk (LI K l) t=some x↔K.elem t=false/\lk l t=some x
 |[],x=>by simp [LI,lk]
 | (k, y)::l,x=>by
   unfold LI
   cases hk:K.elem k
   . simp only [cond_false,lk]
     cases hb:Nat.beq k t
     . simp only [cond_false];exact Gz
     . have:k=t:=X0 hb;subst this;rw [hk];simp
   . simp only [cond_true,lk];rw [Gz]
     cases hb:Nat.beq k t
     . simp
     . have:k=t:=X0 hb;subst this;rw [hk];simp
theorem Zjg {l m:List (Nat×Ent)} {t:Nat}:lk (l++m) t=match lk l t with|some x=>some x|none=>lk m t:=by
 induction l with
 |nil=>rfl
 | cons y l ih=>
   obtain ⟨k,y⟩:=y;simp only [Vd,lk]
   cases Nat.beq k t
   . simp only [cond_false];exact ih
   . rfl
def nK (K:List Nat) (h:List (Nat×Ent)) (F:Nat->BS):BS:=fun b=>∃l x,K.elem l=false/\lk h l=some x/\F l b
def aD (P:Program) (c:Ctx) (ops:Array Oper) (Q:Exit->Act->World->Prop) (Z:Nat->Bool) (K:List Nat) (fuel:Nat) (listed:Array Bool) (st:St):Prop:=
 ∀a w F,HoldsF c st F a w->∀C:World->Prop,(∀W,Chg (nK K st.heap F) w W->C W)->wpAnyS P .any ops Q C Z fuel listed a w
section
variable {P:Program} {c:Ctx} {ops:Array Oper} {Q:Exit->Act->World->Prop} {Z:Nat->Bool} {K:List Nat} {fuel:Nat} {listed:Array Bool} {sL hP:List (Nat×Ent)} {o:Oper}
theorem T5 {C C':World->Prop} (h:∀w,C' w->C w):∀(fuel:Nat) (listed:Array Bool) (a:Act) (w:World),wpAnyS P .any ops Q C' Z fuel listed a w->wpAnyS P .any ops Q C Z fuel listed a w
 |0,_,_,_,H=>H
 |fuel+1,_,_,_,H=>⟨H.1,fun i hi=>wpOp_mono (fun a' w' h'=>⟨h'.1.imp id (h w'),T5 h fuel _ a' w' h'.2⟩) (H.2 i hi)⟩
theorem ZoD {id:Nat} {l:List Oper} (Z:Nat->Bool) (K:List Nat) (hm:P.follows .mixedOrders=true) (h:aD P c l.toArray Q Z K l.length (Array.replicate l.length false) (⟨sL,hP⟩:St)):aC P c (.region id l.toArray true) Q (⟨sL,hP⟩:St):=fun a w ⟨F,H⟩=>by
 refine wp_region_any hm (ζe (C:=fun _=>True) (Z:=Z) _ _ _ _ ?_)
 have:=h a w.drew F (H.up (Ext.drew w)) (fun _=>True) (fun _ _=>trivial)
 simpa using this
theorem ZqN (hr:Region.ready .any ops listed=[]) (h:aN c Q (⟨sL,hP⟩:St)):aD P c ops Q Z K fuel listed (⟨sL,hP⟩:St):=fun a w F H C hC=>by
 cases fuel with
 |zero=>exact ⟨hr,h a w ⟨F,H⟩⟩
 |succ n=>exact ⟨fun _=>h a w ⟨F,H⟩,fun i hi=>by rw [hr] at hi;cases hi⟩
theorem HoldsF.rdK {F:Nat->BS} {a:Act} {w:World} (H:HoldsF c (⟨sL,hP⟩:St) F a w) (K:List Nat):RdF (mof c hP F) ⟨sL,Gb K hP⟩ F a w:=⟨fun l v p h=>H.tr l v p (RE.1 h).2,H.sl⟩
theorem ZdL {V:Value->Prop} {p:PV} (i d:Nat) (ho:ops[i]? =some o) (hck:(Region.noSelect ops&&(Region.ready .any ops listed).contains i&&Region.free .any ops listed i&&Dv .any ops Z i)=true) (hw:Yf ops sL o=some true) (hd:o.dst=some d) (hn:d<c.nt) (hy:YE P ⟨sL,Gb K hP⟩ o V p)
 (k:∀v,V v->aD P c ops Q Z K fuel (listed.setIfInBounds i true) ⟨put d (v,p) sL,hP⟩):aD P c ops Q Z K (fuel+1) listed (⟨sL,hP⟩:St):=fun a w F H C hC=>by
 simp only [Xe] at hck
 obtain ⟨⟨⟨hs,hr⟩,hf⟩,hz⟩:=hck
 obtain ⟨v,hV,hS,hrun⟩:=hy _ F a w (H.rdK K)
 refine T5 hC _ _ _ _ ?_
 refine Hd ho hz (Region.noSelect_spec hs) _ listed a w (Region.free_spec ho hf) (by simpa using hr) (v:=v) (.inl ⟨Lg H.rd hw,fun W hW=>?_⟩) (Chg.rfl' _ _) ?_
 . exact hrun _ W hW (fun b ⟨l,x,_,h1,h2⟩=> .inr ⟨l,x,h1,h2⟩) (fun l x b hl hFb ⟨l',x',h1,h2,h3⟩=>by
    obtain ⟨h4,h5⟩:=RE.1 hl;exact H.dj l l' _ _ b (fun e=>by rw [e,h1] at h4;cases h4) h5 h2 hFb h3)
 . rw [hd];exact k v hV _ w F (H.put hn hS) _ (fun W h=>h)
theorem Zsd {v:Value} {p:PV} (i d:Nat) (ho:ops[i]? =some o) (hck:(Region.noSelect ops&&(Region.ready .any ops listed).contains i&&Region.free .any ops listed i&&Dv .any ops Z i)=true) (hw:Yf ops sL o=some true) (hd:o.dst=some d) (hn:d<c.nt) (hy:YE P ⟨sL,Gb K hP⟩ o (· =v) p)
 (k:aD P c ops Q Z K fuel (listed.setIfInBounds i true) ⟨put d (v,p) sL,hP⟩):aD P c ops Q Z K (fuel+1) listed (⟨sL,hP⟩:St):=ZdL i d ho hck hw hd hn hy fun u hu=>by cases hu;exact k
theorem Zql {V:Value->Prop} {p:PV} (i d:Nat) (ho:ops[i]? =some o) (hr:Region.ready .any ops listed=[i]) (hw:Yf ops sL o=some true) (hd:o.dst=some d) (hn:d<c.nt) (hy:YE P (⟨sL,hP⟩:St) o V p)
 (k:∀v,V v->aD P c ops Q Z K fuel (listed.setIfInBounds i true) ⟨put d (v,p) sL,hP⟩):aD P c ops Q Z K (fuel+1) listed (⟨sL,hP⟩:St):=fun a w F H C hC=>by
 obtain ⟨v,hV,hS,hrun⟩:=hy _ F a w H.rd
 have h1:YieldsC P ops (fun W=>W=w) o v a:= .inl ⟨Lg H.rd hw,fun W hW=>by
  subst hW;exact hrun (fun _=>False) W (Chg.rfl' _ _) (fun _ h=>h.elim) (fun _ _ _ _ _ h=>h)⟩
 refine ⟨fun hn=>(by rw [hr] at hn;cases hn),fun j hj=>?_⟩
 rw [hr] at hj
 obtain rfl:j=i:=by simpa using hj
 refine YieldsIf.wpOp ho h1.ifS rfl ⟨.inr (hC w (Chg.rfl' _ _)),?_⟩
 rw [hd]
 exact k v hV _ w F (H.put hn hS) C hC
theorem ZrO {v:Value} {p:PV} (i d:Nat) (ho:ops[i]? =some o) (hr:Region.ready .any ops listed=[i]) (hw:Yf ops sL o=some true) (hd:o.dst=some d) (hn:d<c.nt) (hy:YE P (⟨sL,hP⟩:St) o (· =v) p)
 (k:aD P c ops Q Z K fuel (listed.setIfInBounds i true) ⟨put d (v,p) sL,hP⟩):aD P c ops Q Z K (fuel+1) listed (⟨sL,hP⟩:St):=Zql i d ho hr hw hd hn hy fun u hu=>by cases hu;exact k
theorem ZoE (i d:Nat) (ho:ops[i]? =some o) (hck:(Region.noSelect ops&&(Region.ready .any ops listed).contains i&&Region.free .any ops listed i&&Dv .any ops Z i)=true) (hw:Yf ops sL o=some false) (hd:o.dst=some d) (hn:d<c.nt)
 (k:aD P c ops Q Z K fuel (listed.setIfInBounds i true) ⟨put d (undef, .val undef) sL,hP⟩):aD P c ops Q Z K (fuel+1) listed (⟨sL,hP⟩:St):=fun a w F H C hC=>by
 simp only [Xe] at hck
 obtain ⟨⟨⟨hs,hr⟩,hf⟩,hz⟩:=hck
 refine T5 hC _ _ _ _ ?_
 refine Hd ho hz (Region.noSelect_spec hs) _ listed a w (Region.free_spec ho hf) (by simpa using hr) (v:=undef) (.inr ⟨Lg H.rd hw,rfl⟩) (Chg.rfl' _ _) ?_
 rw [hd]
 exact k _ w F (H.put hn (.val _)) _ (fun W h=>h)
theorem ZdM (t:Nat) {b:Bool} {q:PV} (hx:lk sL t=some (.bool b,q)) (ht:b=true->aD P c ops Q Z K fuel listed ⟨put t (.bool true, .val (.bool true)) sL,hP⟩) (hf:b=false->aD P c ops Q Z K fuel listed ⟨put t (.bool false, .val (.bool false)) sL,hP⟩):aD P c ops Q Z K fuel listed (⟨sL,hP⟩:St):=fun a w F H C hC=>by
 have key:HoldsF c ⟨put t (.bool b, .val (.bool b)) sL,hP⟩ F a w:=⟨H.toHeapF,fun s u r hs=>by
  rcases YC hs with ⟨rfl,e⟩|⟨_,e⟩
  . cases e;exact ⟨(H.sl _ _ _ hx).1, .val _⟩
  . exact H.sl s u r e,H.size,H.df⟩
 cases b
 . exact hf rfl a w F key C hC
 . exact ht rfl a w F key C hC
theorem HoldsF.frame {F:Nat->BS} {a:Act} {w:World} (H:HoldsF c (⟨sL,hP⟩:St) F a w) (K:List Nat):
 HoldsF ⟨w,fun b=>c.M0 b\/∃l x,K.elem l=true/\lk hP l=some x/\F l b,nK K hP F,c.nt,c.dr,c.df⟩ ⟨sL,LI K hP⟩ F a w:=by
 have hm:∀b,mof ⟨w,fun b=>c.M0 b\/∃l x,K.elem l=true/\lk hP l=some x/\F l b,nK K hP F,c.nt,c.dr,c.df⟩ (LI K hP) F b->mof c hP F b:=by
  rintro b ((h|⟨l,x,_,h1,h2⟩)|⟨l,x,h1,h2⟩)
  . exact .inl h
  . exact .inr ⟨l,x,h1,h2⟩
  . exact .inr ⟨l,x,(Gz.1 h1).2,h2⟩
 refine ⟨⟨fun l v p h=>(H.tr l v p (Gz.1 h).2).anti fun b _=>hm b,fun l x b h hb=> .inr ⟨l,x,(Gz.1 h).1,(Gz.1 h).2,hb⟩,fun l l' x x' b hne h h'=>H.dj l l' x x' b hne (Gz.1 h).2 (Gz.1 h').2,?_,Chg.rfl' _ _,fun _=>Xd _⟩,fun t v p h=>⟨(H.sl t v p h).1,(H.sl t v p h).2.anti fun b _=>hm b⟩,H.size,H.df⟩
 refine ⟨?_,fun hn g hg=>?_,fun hn g hg=>?_⟩
 rotate_left
 . obtain ⟨h1,h2,_⟩:=H.mok.tb hn g hg;refine ⟨h1,?_,?_⟩
   . rintro (h|⟨l,x,_,h3,h4⟩)
     . exact h2 (.inl h)
     . exact h2 (.inr ⟨l,x,h3,h4⟩)
   . rintro ⟨l,x,_,h3,h4⟩;exact h2 (.inr ⟨l,x,h3,h4⟩)
 . obtain ⟨h1,h2,_⟩:=H.mok.er hn g hg;refine ⟨h1,?_,?_⟩
   . rintro (h|⟨l,x,_,h3,h4⟩)
     . exact h2 (.inl h)
     . exact h2 (.inr ⟨l,x,h3,h4⟩)
   . rintro ⟨l,x,_,h3,h4⟩;exact h2 (.inr ⟨l,x,h3,h4⟩)
 rintro b (h|⟨l,x,hK,h1,h2⟩)
 . exact ⟨Nat.lt_of_lt_of_le (H.m0.m b h).1 H.ext.size,fun ⟨l,x,_,h1,h2⟩=>H.apart h h1 h2⟩
 . exact ⟨(H.tr l _ _ h1).lt b h2,fun ⟨l',x',hK',h3,h4⟩=>H.dj l l' _ _ b (fun e=>by rw [e,hK'] at hK;cases hK) h1 h3 h2 h4⟩
theorem HoldsF.unframe {F F':Nat->BS} {a a':Act} {w w':World} {st':St} (H:HoldsF c (⟨sL,hP⟩:St) F a w)
 (H':HoldsF ⟨w,fun b=>c.M0 b\/∃l x,K.elem l=true/\lk hP l=some x/\F l b,nK K hP F,c.nt,c.dr,c.df⟩ st' F' a' w'):
 HoldsF c ⟨st'.slots,st'.heap++Gb K hP⟩ (fun l=>match lk st'.heap l with|some _=>F' l|none=>F l) a' w'/\Chg (nK K hP F) w w'/\
  (∀b,nK K (st'.heap++Gb K hP) (fun l=>match lk st'.heap l with|some _=>F' l|none=>F l) b->nK K hP F b\/w.heap.size<=b):=by
 have hlook:∀l x,lk (st'.heap++Gb K hP) l=some x->(lk st'.heap l=some x)\/(lk st'.heap l=none/\K.elem l=true/\lk hP l=some x):=fun l x h=>by
  rw [Zjg] at h
  cases h1:lk st'.heap l with
  |some y=>rw [h1] at h;cases h;exact .inl rfl
  |none=>rw [h1] at h;exact .inr ⟨rfl,RE.1 h⟩
 have hmm:∀b,mof c (st'.heap++Gb K hP) (fun l=>match lk st'.heap l with|some _=>F' l|none=>F l) b->mof ⟨w,fun b=>c.M0 b\/∃l x,K.elem l=true/\lk hP l=some x/\F l b,nK K hP F,c.nt,c.dr,c.df⟩ st'.heap F' b:=by
  rintro b (h|⟨l,x,h1,h2⟩)
  . exact .inl (.inl h)
  . rcases hlook l x h1 with h3|⟨h3,h4,h5⟩
    . simp only [h3] at h2;exact .inr ⟨l,x,h3,h2⟩
    . simp only [h3] at h2;exact .inl (.inr ⟨l,x,h4,h5,h2⟩)
 have hch:Chg (nK K hP F) w w':=H'.ext
 have hKN:∀l x b,K.elem l=true->lk hP l=some x->F l b->¬nK K hP F b:=fun l x b hK hl hb ⟨l',x',hK',h3,h4⟩=>H.dj l l' _ _ b (fun e=>by rw [e,hK'] at hK;cases hK) hl h3 hb h4
 have hapart:∀l x l' x' b,K.elem l=true->lk hP l=some x->F l b->lk st'.heap l'=some x'->¬F' l' b:=fun l x l' x' b hK hl hb hl' hb'=>by
  exact H'.apart (.inr ⟨l,x,hK,hl,hb⟩) hl' hb'
 refine ⟨⟨⟨fun l v p h=>?_,fun l x b h hb=>?_,fun l l' x x' b hne h h' hb hb'=>?_,H.m0,?_,fun h=>XK (H.dw h) (H'.dw h)⟩,fun t v p h=>⟨(H'.sl t v p h).1,(H'.sl t v p h).2.anti fun b _=>hmm b⟩,H'.size,H'.df⟩,hch,?_⟩
 . rcases hlook l _ h with h1|⟨h1,h2,h3⟩
   . simp only [h1];exact (H'.tr l v p h1).anti fun b _=>hmm b
   . simp only [h1];refine (H.tr l v p h3).to hch (fun b hlt hb=>?_) (fun b _ ⟨l',x',_,h4,h5⟩=> .inr ⟨l',x',h4,h5⟩) (fun b hb=>hKN l _ b h2 h3 hb);rcases hmm b hb with (h|⟨l',x',_,h4,h5⟩)|⟨l',x',h4,h5⟩
     . exact .inl h
     . exact .inr ⟨l',x',h4,h5⟩
     . rcases H'.lo l' x' b h4 h5 with h6|⟨l2,x2,_,h7,h8⟩
       . exact Qd hlt (by simp only at h6;omega)
       . exact .inr ⟨l2,x2,h7,h8⟩
 . rcases hlook l _ h with h1|⟨h1,h2,h3⟩
   . simp only [h1] at hb;rcases H'.lo l x b h1 hb with h4|⟨l2,x2,_,h7,h8⟩
     . exact .inl (XK H.ext.size h4)
     . exact H.lo l2 x2 b h7 h8
   . simp only [h1] at hb;exact H.lo l x b h3 hb
 . rcases hlook l _ h with h1|⟨h1,h2,h3⟩
   . rcases hlook l' _ h' with k1|⟨k1,k2,k3⟩
     . simp only [h1] at hb;simp only [k1] at hb';exact H'.dj l l' x x' b hne h1 k1 hb hb'
     . simp only [h1] at hb;simp only [k1] at hb';exact hapart l' _ l _ b k2 k3 hb' h1 hb
   . rcases hlook l' _ h' with k1|⟨k1,k2,k3⟩
     . simp only [h1] at hb;simp only [k1] at hb';exact hapart l _ l' _ b h2 h3 hb k1 hb'
     . simp only [h1] at hb;simp only [k1] at hb';exact H.dj l l' x x' b hne h3 k3 hb hb'
 . exact H.ext.tr hch fun b ⟨l,x,_,h1,h2⟩=>(H.lo l x b h1 h2).symm
 . rintro b ⟨l,x,hK,h1,h2⟩;rcases hlook l _ h1 with h3|⟨h3,h4,h5⟩
   . simp only [h3] at h2;rcases H'.lo l x b h3 h2 with h4|h4
     . exact .inr h4
     . exact .inl h4
   . rw [hK] at h4;cases h4
def aW (P:Program) (c:Ctx) (ops:Array Oper) (Q:Exit->Act->World->Prop) (Z:Nat->Bool) (K:List Nat) (fuel:Nat) (listed:Array Bool) (st:St) (i:Nat):Prop:=
 ∀a w F,HoldsF c st F a w->∀C:World->Prop,(∀W,Chg (nK K st.heap F) w W->C W)->wpOp P ops (Zbh Q) i (fun a' w'=>(Z i=true\/C w')/\wpAnyS P .any ops Q C Z fuel (listed.setIfInBounds i true) a' w') a w
theorem ZY (i:Nat) (hr:Region.ready .any ops listed=[i]) (h:aW P c ops Q Z K fuel listed (⟨sL,hP⟩:St) i):aD P c ops Q Z K (fuel+1) listed (⟨sL,hP⟩:St):=fun a w F H C hC=>
 ⟨(fun hn=>by rw [hr] at hn;cases hn),fun j hj=>by
   rw [hr] at hj;obtain rfl:j=i:=by simpa using hj
   exact h a w F H C hC⟩
theorem WI (i j:Nat) (hr:Region.ready .any ops listed=[i,j]) (h:aW P c ops Q Z K fuel listed (⟨sL,hP⟩:St) i) (h':aW P c ops Q Z K fuel listed (⟨sL,hP⟩:St) j):aD P c ops Q Z K (fuel+1) listed (⟨sL,hP⟩:St):=fun a w F H C hC=>
 ⟨(fun hn=>by rw [hr] at hn;cases hn),fun m hm=>by
   rw [hr] at hm;rcases (by simpa using hm:m=i\/m=j) with rfl|rfl
   . exact h a w F H C hC
   . exact h' a w F H C hC⟩
theorem ZlO {i:Nat} (ho:ops[i]? =some o)
 (h:∀(w':World) (M' N':BS) (DQ:Exit->Act->World->Prop),(∀st':St,aD P c ops Q Z K fuel (listed.setIfInBounds i true) ⟨st'.slots,st'.heap++Gb K hP⟩->aN ⟨w',M',N',c.nt,c.dr,c.df⟩ DQ st')->aL P ⟨w',M',N',c.nt,c.dr,c.df⟩ ops DQ [o] ⟨sL,LI K hP⟩):aW P c ops Q Z K fuel listed (⟨sL,hP⟩:St) i:=fun a w F H C hC=>by
 refine Gx (Q':=fun _ a' w'=>(Z i=true\/C w')/\wpAnyS P .any ops Q C Z fuel (listed.setIfInBounds i true) a' w') ho (fun a' w' hq=>hq) ?_
 refine h w _ _ _ (fun st' hD a' w' ⟨F',H'⟩=>?_) a w ⟨F,H.frame K⟩
 obtain ⟨H2,hch,hnk⟩:=H.unframe H'
 refine ⟨.inr (hC w' hch),hD a' w' _ H2 C fun W hW=>hC W (hch.tr hW hnk)⟩
theorem Ww {i:Nat} (ho:ops[i]? =some o) (hZ:Z i=true) (hr:Region.ready .any ops (listed.setIfInBounds i true)=[]) (h:∀DQ:Exit->Act->World->Prop,(∀st':St,aN c Q st'->aN c DQ st')->aL P c ops DQ [o] (⟨sL,hP⟩:St)):aW P c ops Q Z K fuel listed (⟨sL,hP⟩:St) i:=fun a w F H C hC=>by
 refine Gx (Q':=fun _ a' w'=>(Z i=true\/C w')/\wpAnyS P .any ops Q C Z fuel (listed.setIfInBounds i true) a' w') ho (fun a' w' hq=>hq) ?_
 refine h _ (fun st' hN a' w' H'=>⟨.inl hZ,?_⟩) a w ⟨F,H⟩
 cases fuel with
 |zero=>exact ⟨hr,hN a' w' H'⟩
 |succ n=>exact ⟨fun _=>hN a' w' H',fun i hi=>by rw [hr] at hi;cases hi⟩
end
section
variable {P:Program} {c:Ctx} {ops:Array Oper} {Q:Exit->Act->World->Prop} {rest:List Oper} {sL hP:List (Nat×Ent)} {o:Oper}
theorem ZM {l:Nat} {x:Ent} (l':Nat) (hl:lk hP l=some x) (hl':lk (del l hP) l'=none):L8 (⟨sL,hP⟩:St) (fun _:Unit=>⟨sL,put l' x (del l hP)⟩):=fun c a w ⟨F,H⟩=>by
 refine ⟨(),fun t=>if t=l' then F l else F t,?_⟩
 obtain ⟨v,p⟩:=x
 have aux:∀t y,(t=l\/t=l')->lk (put l' (v,p) (del l hP)) t=some y->t=l'/\y=(v,p):=fun t y ht hy=>by
  rcases YC hy with ⟨e1,e2⟩|⟨n1,e2⟩
  . exact ⟨e1.symm,e2.symm⟩
  . rcases ht with h|h
    . exact Qd h.symm (Wu e2).1
    . exact Qd h.symm n1
 refine H.retell (fun t=>t=l\/t=l') (fun t y hnT hy=>?_) (fun t y b hT hy hb=>?_) (fun hm t u q hT hy=>?_) (fun t1 t2 y1 y2 b h1 h2 hne hy1 hy2=>Qd ((aux t1 y1 h1 hy1).1.trans (aux t2 y2 h2 hy2).1.symm) hne)
 . have n2:t≠l':=fun e=>hnT (.inr e);rw [Yz (Ne.symm n2)] at hy;exact ⟨(Wu hy).2,by simp [n2]⟩
 . obtain ⟨rfl,_⟩:=aux t y hT hy;simp only [if_true] at hb;exact ⟨l,_, .inl rfl,hl,hb⟩
 . obtain ⟨rfl,e⟩:=aux t _ hT hy
   cases e;simp only [if_true];exact (H.tr l v p hl).anti hm
def Zhy (p p':PV):Prop:=p'=p\/(p= .val (.slice none 0 0)/\∃e k,p'= .own e k 0 [])
theorem TE {l e k n:Nat} {h:Value} {cs:List PV} (cs':List PV) (hl:lk hP l=some (h, .own e k n cs)) (hlen:cs'.length=cs.length) (hc:∀(i:Nat) (p p':PV),cs[i]? =some p->cs'[i]? =some p'->Zhy p p'):L8 (⟨sL,hP⟩:St) (fun _:Unit=>⟨sL,put l (h, .own e k n cs') hP⟩):=fun c a w ⟨F,H⟩=>by
 refine ⟨(),F,?_⟩
 have hTr:=H.tr l _ _ hl
 obtain ⟨xs,Fs,hrow,hxl,hT,hd,hb,hF⟩:=hTr.row
 refine H.retell (fun t=>t=l) (fun t y hnT hy=>?_) (fun t y b hT' hy hb'=>?_) (fun hm t u q hT' hy=>?_) (fun t1 t2 _ _ _ h1 h2 hne=>Qd (h1.trans h2.symm) hne)
 . have n2:t≠l:=hnT;rw [Yz (Ne.symm n2)] at hy;exact ⟨hy,rfl⟩
 . subst hT';exact ⟨t,_,rfl,hl,hb'⟩
 . subst hT';rw [Z4] at hy
   cases hy;refine .own xs Fs hrow oM (fun i x p' hx hp'=>?_) (fun i j b hi hj=>hd i j b oM oM) (fun i b hi=>hb i b oM) (fun b=>by rw [hF b,hlen]);obtain ⟨p,hp⟩:=Wj hp' hlen;have hTi:=(hT i x p hx hp).anti hm;rcases hc i p p' hp hp' with rfl|⟨rfl,e',k',rfl⟩
   . exact hTi
   . have hFi:∀b,¬Fs i b:=by
      cases hTi with
      |shr _ hF=>exact hF
     have hx0:x= .slice none 0 0:=(hTi.sh rfl).vOf;subst hx0;exact .own [] (fun _ _=>False) (World.ownsRow_nil _ _ _ _) rfl sM sM sM (fun b=>by simp [Value.ownBlock];exact hFi b)
theorem ON (X:List PV) (a:PV) (e k:Nat):∀(i:Nat) (p p':PV),(X++[a, .val (.slice none 0 0)])[i]? =some p->(X++[a, .own e k 0 []])[i]? =some p'->Zhy p p':=fun i p p' h1 h2=>by
 rcases XL i X.length with hi|hi
 . rw [Vj hi] at h1 h2;rw [h1] at h2;cases h2;exact .inl rfl
 . rw [Vq hi] at h1 h2;match h:i-X.length,h1,h2 with
   |0,h1,h2=>simp at h1 h2;exact .inl (h2.symm.trans h1)
   |1,h1,h2=>simp at h1 h2;exact .inr ⟨h1.symm,e,k,h2.symm⟩
   |j+2,h1,h2=>simp at h1
theorem ζf (zs:List Value) (hz:0<zs.length) (n:Nat):(madeCells zs.toArray (n*zs.length)).toList=(List.replicate n zs).flatten:=by
 apply VX
 intro j
 have hl:(List.replicate n zs).flatten.length=n*zs.length:=sM
 by_cases hj:j<n*zs.length
 . have hmod:j % zs.length<zs.length:=Nat.mod_lt _ hz;have hdiv:j / zs.length<n:=by rw [UO hz];exact hj
   have h1:(madeCells zs.toArray (n*zs.length)).toList[j]? =some (zs[j % zs.length]'hmod):=by
    simp [madeCells,hj,hmod]
   rw [h1];have h2:=Yx (f:=fun _:Nat=>zs) (k:=zs.length) (fun _=>rfl) (l:=List.range n) (i:=j / zs.length) (x:=j / zs.length) (by simp [hdiv]) (j:=j % zs.length) hmod;rw [show j / zs.length*zs.length+j % zs.length=j from by rw [VF];exact Uj _ _] at h2;rw [show (List.replicate n zs).flatten=(List.range n).flatMap (fun _=>zs) by
    rw [List.flatMap_def,List.map_const',VN],h2]
   simp [hmod]
 . rw [Vm (by simp [madeCells];omega),Vm oM]
theorem ZlP {t e kk bytes:Nat} {z:Value} {x y:Operand} {n:Nat} {q q':PV} (zs:List Value) (d:Nat) (hT:ElT P t e kk bytes z) (hzs:z.cells=zs.toArray) (hw:Yf ops sL o=some true) (hd:o.dst=some d) (hn:d<c.nt) (ho:o.op= .makeSlice t x y) (hx:ev sL x=some (.int .i64 n,q)) (hy:ev sL y=some (.int .i64 n,q')) (hl:lk hP d=none)
 (hb:bytes*n<=281474976710656) (hn2:n<=9223372036854775807)
 (k:∀h:Value,h.oneCell'=true->aL P c ops Q rest ⟨put d (h, .val h) sL,put d (h, .own e kk n ((List.replicate n (zs.map PV.val)).flatten)) hP⟩):aL P c ops Q (o::rest) (⟨sL,hP⟩:St):=
 WY hw fun a w F H=>by
  obtain ⟨i,hi1,hi2,hi3,hi4⟩:=hT.info;have hzl:zs.length=kk:=by have:=hT.hz;rw [hzs] at this;simpa using this
  have hk0:=hT.hk;have hbn:((i.bytes:Nat):Int)*(n:Int)<=281474976710656:=by rw [hi4,<-Int.natCast_mul];omega
  have hr:=run_make (P:=P) w t e i z hT.ht hi1 hi2 .i64 .i64 (n:Int) (n:Int) oM oM hbn oM;rw [hi3,hzs,XG] at hr;have hmc:=ζf zs oM n;rw [hzl] at hmc;obtain ⟨F',H'⟩:=KU (e:=e) (k:=kk) (n:=n) (cap:=n) (cur:=madeCells zs.toArray (n*kk)) (v:= .slice (some ⟨w.heap.size,0,none⟩) n n) H hl hn (vs:=(List.replicate n zs).flatten) (ps:=(List.replicate n (zs.map PV.val)).flatten) sM (fun j u p hu hp=>by
   have:(List.replicate n (zs.map PV.val)).flatten=((List.replicate n zs).flatten).map PV.val:=by simp [List.map_flatten]
   rw [this,Xl,hu] at hp;simp at hp;subst hp;exact .val _) (by simp [hzl]) (Xd _) (by unfold maxLen;omega) (by rw [size_madeCells]) (by rw [hmc];exact Xt (by simp [hzl]))
  unfold Oper.wp execOp;simp only [ho,(H.rd.ev hx).1,(H.rd.ev hy).1,Sem.run_bind,hr,Result.andThen_ok];simp only [Sem.run_pure,Oper.upon,hd];exact k _ rfl _ _ ⟨F',H'⟩
theorem Zbq {l e k:Nat} {h:Value} {p q:PV} (hl:lk hP l=some (h, .own e k 1 [p])) (hq:share p=q):P3 (⟨sL,hP⟩:St) (padd (sbase h) 0) (.sptr 0 [q]):=by
 have:=Zbm (sL:=sL) (j:=0) hl Vt
 simpa [Wk,hq] using this
theorem Zjh {f l1 e1 k1 l2 e2 k2:Nat} {h1 h2:Value} {p1 q1 p2 q2:PV} (hl1:lk hP l1=some (h1, .own e1 k1 1 [p1])) (hq1:share p1=q1) (hl2:lk hP l2=some (h2, .own e2 k2 1 [p2])) (hq2:share p2=q2):
 P3 (⟨sL,hP⟩:St) (.func (.func f) #[] [padd (sbase h1) 0,padd (sbase h2) 0].toArray) (.fn f [.sptr 0 [q1], .sptr 0 [q2]]):=
 ZlA rfl fun i v p hv hp=>by
  match i with
  |0=>simp at hv hp;subst hv hp;exact Zbq hl1 hq1
  |1=>simp at hv hp;subst hv hp;exact Zbq hl2 hq2
  |i+2=>simp at hv
theorem Ja {ι:Type} {x y:Code} (S:ι->St) (h:aC P c x (Exit.then (fun a w=>∃i,Holds c (S i) a w) Q) (⟨sL,hP⟩:St)) (k:∀i,aC P c y Q (S i)):aC P c x (Exit.then (y.wp P Q) Q) (⟨sL,hP⟩:St):=fun a w H=>
 wp_mono (h a w H) fun e a' w' hq=>by
  cases e with
  |normal=>obtain ⟨i,hi⟩:=hq;exact k i a' w' hi
  |_=>exact hq
theorem LJ {t j e kk n:Nat} {x y:Operand} {h v:Value} {q p:PV} {cs:List PV} (l i:Nat) (hw:Yf ops sL o=some true) (hd:o.dst=none) (hT:NoAgg P t=true) (hsz:(P.info? t).map (·.size)=some 1) (ho:o.op= .store t x y)
 (hx:ev sL x=some (padd (sbase h) j,q)) (hy:ev sL y=some (v,p)) (h1:one p=true) (hl:lk hP l=some (h, .own e kk n cs)) (hji:j=i) (hj:i<cs.length)
 (k:aL P c ops Q rest ⟨sL,put l (h, .own e kk n (cs.set i p)) hP⟩):aL P c ops Q (o::rest) (⟨sL,hP⟩:St):=by
 subst hji
 exact Zf2 l hw hd hT hsz ho hx hy h1 hl hj k
theorem TW {l l' j e k n:Nat} {h:Value} {cs:List PV} {p:PV} (hl:lk hP l=some (h, .own e k n cs)) (hp:cs[j]? =some p) (hl':lk hP l'=none) (hok:L6 p=true):
 L8 (⟨sL,hP⟩:St) (fun v:{v:Value//v.oneCell'=true}=>⟨sL,put l' (v.1,p) (put l (h, .own e k n (cs.set j (.val v.1))) hP)⟩):=fun c a w H=>by
 obtain ⟨v,F,H'⟩:=focus hl hp hl' c a w H
 exact ⟨⟨v,(H'.tr l' v p (Z4 _ _ _)).cellOne hok⟩,F,H'⟩
end
theorem nav {A B:Prop} (h:B) (e:B->A:=by intro h;(repeat (first|with_reducible refine C7 ?_|with_reducible refine PY ?_|with_reducible refine D5 ?_|with_reducible refine PZ ?_|with_reducible refine D3 ?_|with_reducible refine D4 ?_|with_reducible refine D6 ?_|with_reducible refine P0 ?_|with_reducible refine P1 rfl ?_|with_reducible refine C8 ?_|with_reducible refine D7 ?_|with_reducible refine P2 ?_));exact h):A:=e h
theorem Zi {A B:Prop} (h:B) (e:B->A:=by intro h;(repeat (first|with_reducible refine C7 ?_|with_reducible refine PY ?_|with_reducible refine D5 ?_|with_reducible refine PZ ?_|with_reducible refine D3 ?_|with_reducible refine D4 ?_|with_reducible refine D6 ?_|with_reducible refine P0 ?_|with_reducible refine P1 rfl ?_|with_reducible refine C8 ?_|with_reducible refine D7 ?_|with_reducible refine P2 ?_));refine Zo ?_;exact h):A:=e h
theorem Ym {A B:Prop} (h:B) (e:B->A:=by intro h;refine WA ?_;(repeat (first|with_reducible refine C7 ?_|with_reducible refine PY ?_|with_reducible refine D5 ?_|with_reducible refine PZ ?_|with_reducible refine D3 ?_|with_reducible refine D4 ?_|with_reducible refine D6 ?_|with_reducible refine P0 ?_|with_reducible refine P1 rfl ?_|with_reducible refine C8 ?_|with_reducible refine D7 ?_|with_reducible refine P2 ?_));(try dsimp only);refine Zo ?_;exact h):A:=e h
theorem Zw {A B:Prop} (h:B) (e:B->A:=by intro h;refine WA ?_;(repeat (first|with_reducible refine C7 ?_|with_reducible refine PY ?_|with_reducible refine D5 ?_|with_reducible refine PZ ?_|with_reducible refine D3 ?_|with_reducible refine D4 ?_|with_reducible refine D6 ?_|with_reducible refine P0 ?_|with_reducible refine P1 rfl ?_|with_reducible refine C8 ?_|with_reducible refine D7 ?_|with_reducible refine P2 ?_));(try dsimp only);exact h):A:=e h
section
variable {P:Program} {c:Ctx} {ops:Array Oper} {Q:Exit->Act->World->Prop} {rest:List Oper} {st:St} {sL hP:List (Nat×Ent)} {o:Oper} {x y:Operand} {t t':TypeId} {q q':PV} {Z:Nat->Bool} {K:List Nat} {fuel:Nat} {listed:Array Bool}
theorem xL {v:Value} {p:PV} (d:Nat) (hy:YE P (⟨sL,hP⟩:St) o (· =v) p) (k:aL P c ops Q rest ⟨put d (v,p) sL,hP⟩) (hw:Yf ops sL o=some true:=by exact rfl) (hd:o.dst=some d:=by exact rfl) (hn:d<c.nt:=by exact Xa rfl):aL P c ops Q (o::rest) (⟨sL,hP⟩:St):=
 Zsb d hw hd hn hy k
theorem yL {V:Value->Prop} {p:PV} (d:Nat) (hy:YE P (⟨sL,hP⟩:St) o V p) (k:∀v,V v->aL P c ops Q rest ⟨put d (v,p) sL,hP⟩) (hw:Yf ops sL o=some true:=by exact rfl) (hd:o.dst=some d:=by exact rfl) (hn:d<c.nt:=by exact Xa rfl):aL P c ops Q (o::rest) (⟨sL,hP⟩:St):=
 Za3 d hw hd hn hy k
theorem kL {d:Nat} (k:aL P c ops Q rest ⟨put d (undef, .val undef) sL,hP⟩) (hw:Yf ops sL o=some false:=by exact rfl) (hd:o.dst=some d:=by exact rfl) (hn:d<c.nt:=by exact Xa rfl):aL P c ops Q (o::rest) (⟨sL,hP⟩:St):=
 Zoq d hw hd hn k
theorem bL {l:List Oper} {b:Bool} {q:PV} (t:Nat) (ht:b=true->aL P c ops Q l ⟨put t (.bool true, .val (.bool true)) sL,hP⟩) (hf:b=false->aL P c ops Q l ⟨put t (.bool false, .val (.bool false)) sL,hP⟩) (hx:lk sL t=some (.bool b,q):=by exact rfl):aL P c ops Q l (⟨sL,hP⟩:St):=
 ZdC t hx ht hf
theorem xD {v:Value} {p:PV} (i:Nat) {d:Nat} (ho:ops[i]? =some o) (hy:YE P ⟨sL,Gb K hP⟩ o (· =v) p) (k:aD P c ops Q Z K fuel (listed.setIfInBounds i true) ⟨put d (v,p) sL,hP⟩) (hck:(Region.noSelect ops&&(Region.ready .any ops listed).contains i&&Region.free .any ops listed i&&Dv .any ops Z i)=true:=by kernel_rfl) (hw:Yf ops sL o=some true:=by exact rfl) (hd:o.dst=some d:=by exact rfl) (hn:d<c.nt:=by exact Xa rfl):aD P c ops Q Z K (fuel+1) listed (⟨sL,hP⟩:St):=
 Zsd i d ho hck hw hd hn hy k
theorem yD {V:Value->Prop} {p:PV} (i:Nat) {d:Nat} (ho:ops[i]? =some o) (hy:YE P ⟨sL,Gb K hP⟩ o V p) (k:∀v,V v->aD P c ops Q Z K fuel (listed.setIfInBounds i true) ⟨put d (v,p) sL,hP⟩) (hck:(Region.noSelect ops&&(Region.ready .any ops listed).contains i&&Region.free .any ops listed i&&Dv .any ops Z i)=true:=by kernel_rfl) (hw:Yf ops sL o=some true:=by exact rfl) (hd:o.dst=some d:=by exact rfl) (hn:d<c.nt:=by exact Xa rfl):aD P c ops Q Z K (fuel+1) listed (⟨sL,hP⟩:St):=
 ZdL i d ho hck hw hd hn hy k
theorem kD (i:Nat) {d:Nat} (k:aD P c ops Q Z K fuel (listed.setIfInBounds i true) ⟨put d (undef, .val undef) sL,hP⟩) (ho:ops[i]? =some o:=by exact rfl) (hck:(Region.noSelect ops&&(Region.ready .any ops listed).contains i&&Region.free .any ops listed i&&Dv .any ops Z i)=true:=by kernel_rfl) (hw:Yf ops sL o=some false:=by exact rfl) (hd:o.dst=some d:=by exact rfl) (hn:d<c.nt:=by exact Xa rfl):aD P c ops Q Z K (fuel+1) listed (⟨sL,hP⟩:St):=
 ZoE i d ho hck hw hd hn k
theorem xE {v:Value} {p:PV} (i:Nat) {d:Nat} (ho:ops[i]? =some o) (hy:YE P (⟨sL,hP⟩:St) o (· =v) p) (k:aD P c ops Q Z K fuel (listed.setIfInBounds i true) ⟨put d (v,p) sL,hP⟩) (hr:Region.ready .any ops listed=[i]:=by kernel_rfl) (hw:Yf ops sL o=some true:=by exact rfl) (hd:o.dst=some d:=by exact rfl) (hn:d<c.nt:=by exact Xa rfl):aD P c ops Q Z K (fuel+1) listed (⟨sL,hP⟩:St):=
 ZrO i d ho hr hw hd hn hy k
theorem yE {V:Value->Prop} {p:PV} (i:Nat) {d:Nat} (ho:ops[i]? =some o) (hy:YE P (⟨sL,hP⟩:St) o V p) (k:∀v,V v->aD P c ops Q Z K fuel (listed.setIfInBounds i true) ⟨put d (v,p) sL,hP⟩) (hr:Region.ready .any ops listed=[i]:=by kernel_rfl) (hw:Yf ops sL o=some true:=by exact rfl) (hd:o.dst=some d:=by exact rfl) (hn:d<c.nt:=by exact Xa rfl):aD P c ops Q Z K (fuel+1) listed (⟨sL,hP⟩:St):=
 Zql i d ho hr hw hd hn hy k
theorem bD {b:Bool} {q:PV} (t:Nat) (ht:b=true->aD P c ops Q Z K fuel listed ⟨put t (.bool true, .val (.bool true)) sL,hP⟩) (hf:b=false->aD P c ops Q Z K fuel listed ⟨put t (.bool false, .val (.bool false)) sL,hP⟩) (hx:lk sL t=some (.bool b,q):=by exact rfl):aD P c ops Q Z K fuel listed (⟨sL,hP⟩:St):=
 ZdM t hx ht hf
theorem Za {P:Program} {st:St} {o:Oper} {x:Operand} {v:Value} {p:PV} (ho:o.op= .move x:=by exact rfl) (hx:ev st.slots x=some (v,p):=by exact rfl):YE P st o (· =v) p:=
 ZqC ho hx
theorem ZJ {P:Program} {st:St} {o:Oper} {x:Operand} {v:Value} {p:PV} (ho:o.op= .assign x:=by exact rfl) (hx:ev st.slots x=some (v,p):=by exact rfl):YE P st o (· =v) p:=
 Zlw ho hx
theorem YY {P:Program} {st:St} {o:Oper} {c x y:Operand} {b:Bool} {q:PV} {v:Value} {p:PV} (ho:o.op= .pick c x y:=by exact rfl) (hc:ev st.slots c=some (.bool b,q):=by exact rfl) (hx:ev st.slots (if b then x else y)=some (v,p):=by exact rfl):YE P st o (· =v) p:=
 ZqD ho hc hx
theorem LK {P:Program} {st:St} {o:Oper} {x:Operand} {t:TypeId} {b:Bool} {q:PV} (ho:o.op= .unOp .not t x:=by exact rfl) (hx:ev st.slots x=some (.bool b,q):=by exact rfl):YE P st o (· = .bool (!b)) (.val (.bool (!b))):=
 ZrE ho hx
theorem Yj {k:IntKind} {a b:Int} (ho:o.op= .binOp .lss t x y t':=by exact rfl) (hx:ev st.slots x=some (.int k a,q):=by exact rfl) (hy:ev st.slots y=some (.int k b,q'):=by exact rfl):YE P st o (· = .bool (decide (a<b))) (.val (.bool (decide (a<b)))):=
 ZrF ho hx hy
theorem Zqm {k:IntKind} {a b:Int} (ho:o.op= .binOp .leq t x y t':=by exact rfl) (hx:ev st.slots x=some (.int k a,q):=by exact rfl) (hy:ev st.slots y=some (.int k b,q'):=by exact rfl):YE P st o (· = .bool (decide (a<=b))) (.val (.bool (decide (a<=b)))):=
 ZrG ho hx hy
theorem Jw {k:IntKind} {a b:Int} (ho:o.op= .binOp .gtr t x y t':=by exact rfl) (hx:ev st.slots x=some (.int k a,q):=by exact rfl) (hy:ev st.slots y=some (.int k b,q'):=by exact rfl):YE P st o (· = .bool (decide (b<a))) (.val (.bool (decide (b<a)))):=
 ZrH ho hx hy
theorem E8 {k:IntKind} {a b:Int} (ho:o.op= .binOp .geq t x y t':=by exact rfl) (hx:ev st.slots x=some (.int k a,q):=by exact rfl) (hy:ev st.slots y=some (.int k b,q'):=by exact rfl):YE P st o (· = .bool (decide (b<=a))) (.val (.bool (decide (b<=a)))):=
 ZrI ho hx hy
theorem Ky {k:IntKind} {a b:Int} (ho:o.op= .binOp .eql t x y t':=by exact rfl) (hx:ev st.slots x=some (.int k a,q):=by exact rfl) (hy:ev st.slots y=some (.int k b,q'):=by exact rfl):YE P st o (· = .bool (decide (a=b))) (.val (.bool (decide (a=b)))):=
 ZrJ ho hx hy
theorem LY {k:IntKind} {a b:Int} (ho:o.op= .binOp .neq t x y t':=by exact rfl) (hx:ev st.slots x=some (.int k a,q):=by exact rfl) (hy:ev st.slots y=some (.int k b,q'):=by exact rfl):YE P st o (· = .bool (decide (a≠b))) (.val (.bool (decide (a≠b)))):=
 ZrK ho hx hy
theorem ZlQ {a b:BA} (ho:o.op= .binOp .eql t x y t':=by exact rfl) (hx:ev st.slots x=some (.string a,q):=by exact rfl) (hy:ev st.slots y=some (.string b,q'):=by exact rfl):YE P st o (· = .bool (a.toList==b.toList)) (.val (.bool (a.toList==b.toList))):=
 ZqE ho hx hy
theorem ZqO {a b:BA} (ho:o.op= .binOp .neq t x y t':=by exact rfl) (hx:ev st.slots x=some (.string a,q):=by exact rfl) (hy:ev st.slots y=some (.string b,q'):=by exact rfl):YE P st o (· = .bool (!(a.toList==b.toList))) (.val (.bool (!(a.toList==b.toList)))):=
 ZqF ho hx hy
theorem ZlR {a b:BA} (ho:o.op= .binOp .lss t x y t':=by exact rfl) (hx:ev st.slots x=some (.string a,q):=by exact rfl) (hy:ev st.slots y=some (.string b,q'):=by exact rfl):YE P st o (· = .bool (Op.bytesLess a.toList b.toList)) (.val (.bool (Op.bytesLess a.toList b.toList))):=
 ZqG ho hx hy
theorem ZcD {a b:BA} (ho:o.op= .binOp .geq t x y t':=by exact rfl) (hx:ev st.slots x=some (.string a,q):=by exact rfl) (hy:ev st.slots y=some (.string b,q'):=by exact rfl):YE P st o (· = .bool (!Op.bytesLess a.toList b.toList)) (.val (.bool (!Op.bytesLess a.toList b.toList))):=
 ZqH ho hx hy
theorem Zf9 {a b:BA} (ho:o.op= .binOp .gtr t x y t':=by exact rfl) (hx:ev st.slots x=some (.string a,q):=by exact rfl) (hy:ev st.slots y=some (.string b,q'):=by exact rfl):YE P st o (· = .bool (!(Op.bytesLess a.toList b.toList||a.toList==b.toList))) (.val (.bool (!(Op.bytesLess a.toList b.toList||a.toList==b.toList)))):=
 ZqI ho hx hy
theorem PN {a b:Int} (ho:o.op= .binOp .add t x y t':=by exact rfl) (hx:ev st.slots x=some (.int .i64 a,q):=by exact rfl) (hy:ev st.slots y=some (.int .i64 b,q'):=by exact rfl) (h1: -9223372036854775808<=a+b:=by exact L5) (h2:a+b<=9223372036854775807:=by exact L5):YE P st o (· = .int .i64 (a+b)) (.val (.int .i64 (a+b))):=
 Zqj ho hx hy h1 h2
theorem LL {a b:Int} (ho:o.op= .binOp .sub t x y t':=by exact rfl) (hx:ev st.slots x=some (.int .i64 a,q):=by exact rfl) (hy:ev st.slots y=some (.int .i64 b,q'):=by exact rfl) (h1: -9223372036854775808<=a-b:=by exact L5) (h2:a-b<=9223372036854775807:=by exact L5):YE P st o (· = .int .i64 (a-b)) (.val (.int .i64 (a-b))):=
 Zqk ho hx hy h1 h2
theorem ZlS {a b:Bool} (hu:P.underlying t=some .bool) (ho:o.op= .binOp .eql t x y t':=by exact rfl) (hx:ev st.slots x=some (.bool a,q):=by exact rfl) (hy:ev st.slots y=some (.bool b,q'):=by exact rfl):YE P st o (· = .bool (a==b)) (.val (.bool (a==b))):=
 ZqJ hu ho hx hy
theorem CN {s:BA} {i:Int} {c:UInt8} {k:IntKind} (hu:P.underlying t=some .string) (ho:o.op= .index t x y:=by exact rfl) (hx:ev st.slots x=some (.string s,q):=by exact rfl) (hy:ev st.slots y=some (.int k i,q'):=by exact rfl) (hi:0<=i:=by exact L5) (hc:s.data[i.toNat]? =some c:=by assumption):YE P st o (· = .int .u8 c.toNat) (.val (.int .u8 c.toNat)):=
 Zop hu ho hx hy hi hc
theorem P7 {P:Program} {st:St} {o:Oper} {x:Operand} {t:TypeId} {s:BA} {q:PV} (ht:P.underlying t=some .string) (ho:o.op= .call {callee:= .builtin .len,args:= #[x],argTypes:= #[t]}:=by exact rfl) (hx:ev st.slots x=some (.string s,q):=by exact rfl):YE P st o (· = .int .i64 s.size) (.val (.int .i64 s.size)):=
 ZqK ht ho hx
theorem Y4 {P:Program} {st:St} {o:Oper} {x:Operand} {i:Nat} {vs:List Value} {ps:List PV} {v:Value} {p:PV} (ho:o.op= .extract x i:=by exact rfl) (hx:ev st.slots x=some (.tuple vs.toArray, .tup ps):=by exact rfl) (hv:vs[i]? =some v:=by exact rfl) (hp:ps[i]? =some p:=by exact rfl):YE P st o (· =v) p:=
 ZiZ ho hx hv hp
theorem Yn {s f fo j:Nat} {x:Operand} {v:Value} {cs:List PV} (hT:FldT P s f fo=true) (ho:o.op= .fieldAddr s x f:=by exact rfl) (hx:ev st.slots x=some (v, .sptr j cs):=by exact rfl):YE P st o (· =padd v fo) (.sptr (j+fo) cs):=
 Zi0 hT ho hx
theorem Zc {s f fo j e k n:Nat} {x:Operand} {h:Value} {p:PV} {cs:List PV} (l:Nat) (hT:FldT P s f fo=true) (ho:o.op= .fieldAddr s x f:=by exact rfl) (hx:ev st.slots x=some (padd (sbase h) j,p):=by exact rfl) (hl:lk st.heap l=some (h, .own e k n cs):=by exact rfl) (hn:0<n:=by exact L5):YE P st o (· =padd (sbase h) (j+fo)) (.val (padd (sbase h) (j+fo))):=
 Zi1 l hT ho hx hl hn
theorem Ze {t e k n:Nat} {x y:Operand} {v:Value} {cs:List PV} {q:PV} {kd:IntKind} {i:Nat} (hT:SlT P t e k=true) (ho:o.op= .indexAddr t x y:=by exact rfl) (hx:ev st.slots x=some (v, .sl n cs):=by exact rfl) (hy:ev st.slots y=some (.int kd (i:Int),q):=by exact rfl) (h1:i<n:=by exact L5):YE P st o (· =padd (sbase v) (i*k)) (.sptr (i*k) cs):=
 Zf0 hT ho hx hy h1
theorem Zj {t e k e' k' n:Nat} {x y:Operand} {h:Value} {p q:PV} {cs:List PV} {kd:IntKind} {i:Nat} (l:Nat) (hT:SlT P t e k=true) (ho:o.op= .indexAddr t x y:=by exact rfl) (hx:ev st.slots x=some (h,p):=by exact rfl) (hy:ev st.slots y=some (.int kd (i:Int),q):=by exact rfl) (hl:lk st.heap l=some (h, .own e' k' n cs):=by exact rfl) (h1:i<n:=by exact L5):YE P st o (· =padd (sbase h) (i*k)) (.val (padd (sbase h) (i*k))):=
 Zf1 l hT ho hx hy hl h1
theorem T0 {t e k n:Nat} {x y:Operand} {v:Value} {cs:List PV} {q:PV} {kd:IntKind} {i:Int} (hT:SlT P t e k=true) (ho:o.op= .indexAddr t x y:=by exact rfl) (hx:ev st.slots x=some (v, .sl n cs):=by exact rfl) (hy:ev st.slots y=some (.int kd i,q):=by exact rfl) (h0:0<=i:=by exact L5) (h1:i<n:=by exact L5):YE P st o (· =padd (sbase v) (i.toNat*k)) (.sptr (i.toNat*k) cs):=
 Zbi hT ho hx hy h0 h1
theorem P8 {t e k e' k' n:Nat} {x y:Operand} {h:Value} {p q:PV} {cs:List PV} {kd:IntKind} {i:Int} (l:Nat) (hT:SlT P t e k=true) (ho:o.op= .indexAddr t x y:=by exact rfl) (hx:ev st.slots x=some (h,p):=by exact rfl) (hy:ev st.slots y=some (.int kd i,q):=by exact rfl) (hl:lk st.heap l=some (h, .own e' k' n cs):=by exact rfl) (h0:0<=i:=by exact L5) (h1:i<n:=by exact L5):YE P st o (· =padd (sbase h) (i.toNat*k)) (.val (padd (sbase h) (i.toNat*k))):=
 Zbj l hT ho hx hy hl h0 h1
theorem Zu {t j:Nat} {x:Operand} {v:Value} {cs:List PV} {p:PV} (hT:NoAgg P t=true) (ho:o.op= .load t x:=by exact rfl) (hx:ev st.slots x=some (v, .sptr j cs):=by exact rfl) (hp:cs[j]? =some p:=by first|exact rfl|assumption):YE P st o (vOf p) p:=
 ZdA hT ho hx hp
theorem Zh {t j e k n:Nat} {x:Operand} {h:Value} {q:PV} {cs:List PV} {p:PV} (l:Nat) (hT:NoAgg P t=true) (ho:o.op= .load t x:=by exact rfl) (hx:ev st.slots x=some (padd (sbase h) j,q):=by exact rfl) (hl:lk st.heap l=some (h, .own e k n cs):=by exact rfl) (hp:cs[j]? =some p:=by first|exact rfl|assumption) (hsh:isSh p=true:=by exact rfl):YE P st o (vOf p) p:=
 ZdB l hT ho hx hl hp hsh
theorem Ea {t j e k n:Nat} {x:Operand} {h:Value} {q:PV} {cs:List PV} {p:PV} (l:Nat) (i:Nat) (hT:NoAgg P t=true) (ho:o.op= .load t x:=by exact rfl) (hx:ev sL x=some (padd (sbase h) j,q):=by exact rfl) (hl:lk hP l=some (h, .own e k n cs):=by exact rfl) (hj:j=i:=by exact L5) (hp:cs[i]? =some p:=by first|exact rfl|assumption) (hsh:isSh p=true:=by exact rfl):YE P (⟨sL,hP⟩:St) o (vOf p) p:=
 Jd l i hT ho hx hl hj hp hsh
theorem Wn {t k j:Nat} {x:Operand} {v:Value} {cs ps:List PV} (hT:AggT P t k=true) (ho:o.op= .load t x:=by exact rfl) (hx:ev sL x=some (v, .sptr j cs):=by exact rfl) (hp:j+k<=cs.length:=by exact L5) (hps:(cs.drop j).take k=ps:=by first|assumption|exact rfl):YE P (⟨sL,hP⟩:St) o (fun _=>True) (.agg ps):=
 Zf6 hT ho hx hp hps
theorem Zn {t k j e k' n:Nat} {x:Operand} {h:Value} {q:PV} {cs ps:List PV} (l:Nat) (hT:AggT P t k=true) (ho:o.op= .load t x:=by exact rfl) (hx:ev sL x=some (padd (sbase h) j,q):=by exact rfl) (hl:lk hP l=some (h, .own e k' n cs):=by exact rfl) (hp:j+k<=cs.length:=by exact L5) (hk:0<k:=by decide) (hps:(cs.drop j).take k=ps:=by first|assumption|exact rfl) (hsh:ps.all isSh=true:=by first|exact rfl|decide):YE P (⟨sL,hP⟩:St) o (fun _=>True) (.agg ps):=
 Zf7 l hT ho hx hl hp hk hps hsh
theorem Zs {t e k n:Nat} {x:Operand} {v:Value} {cs:List PV} (hT:SlT P t e k=true) (ho:o.op= .call {callee:= .builtin .len,args:= #[x],argTypes:= #[t]}:=by exact rfl) (hx:ev st.slots x=some (v, .sl n cs):=by exact rfl):YE P st o (· = .int .i64 n) (.val (.int .i64 n)):=
 Zi4 hT ho hx
theorem WB {t e k e' k' n:Nat} {x:Operand} {h:Value} {p:PV} {cs:List PV} (l:Nat) (hT:SlT P t e k=true) (ho:o.op= .call {callee:= .builtin .len,args:= #[x],argTypes:= #[t]}:=by exact rfl) (hx:ev st.slots x=some (h,p):=by exact rfl) (hl:lk st.heap l=some (h, .own e' k' n cs):=by exact rfl):YE P st o (· = .int .i64 n) (.val (.int .i64 n)):=
 Zi5 l hT ho hx hl
theorem ZqP {t ks e:Nat} {x:Operand} {m:Value} {kv:List (Value×Value)} (ht:P.underlying t=some (.map ks e)) (ho:o.op= .call {callee:= .builtin .len,args:= #[x],argTypes:= #[t]}:=by exact rfl) (hx:ev sL x=some (m, .smap kv):=by exact rfl):YE P (⟨sL,hP⟩:St) o (· = .int .i64 kv.length) (.val (.int .i64 kv.length)):=
 ZlJ ht ho hx
theorem ZoF {t ks e:Nat} {x:Operand} {m:Value} {kv:List (Value×Value)} {p:PV} (l:Nat) (ht:P.underlying t=some (.map ks e)) (ho:o.op= .call {callee:= .builtin .len,args:= #[x],argTypes:= #[t]}:=by exact rfl) (hx:ev sL x=some (m,p):=by exact rfl) (hl:lk hP l=some (m, .omap kv):=by exact rfl):YE P (⟨sL,hP⟩:St) o (· = .int .i64 kv.length) (.val (.int .i64 kv.length)):=
 ZlK l ht ho hx hl
theorem ZC {t:Nat} {parts:Array (Nat×Operand)} {z:Value} {offs:List Nat} {zs:List Value} {es:List (Nat×Ent)} (hT:Ge P t=some (z,offs.map fun o=>(o,1))) (hzs:z.cells=zs.toArray:=by exact rfl) (ho:o.op= .build t parts:=by exact rfl) (hx:evP sL parts.toList=some es:=by exact rfl) (h1:es.all (fun x=>one x.2.2)=true:=by first|exact rfl|(simp only [Uy,List.all_nil,Uk,Xe];(repeat (first|refine ⟨?_,?_⟩|rfl|assumption)))) (hin:es.all (fun x=>decide (x.1<offs.length)&&decide (offs.getD x.1 0<zs.length))=true:=by exact rfl):YE P (⟨sL,hP⟩:St) o (· = .agg (RA offs zs (es.map fun x=>(x.1,x.2.1))).toArray) (.agg (RA offs (zs.map .val) (es.map fun x=>(x.1,x.2.2)))):=
 Zow hT hzs ho hx h1 hin
theorem Rp {f:Nat} {caps:Array Operand} {es:List Ent} (ho:o.op= .makeFunc (.func f) #[] caps:=by exact rfl) (hx:evL sL caps.toList=some es:=by exact rfl):YE P (⟨sL,hP⟩:St) o (· = .func (.func f) #[] (es.map (·.1)).toArray) (.fn f (es.map (·.2))):=
 ZqM ho hx
theorem LM {t ks e:Nat} {kd:TypeDesc} {z u:Value} {x y:Operand} {m k:Value} {kv:List (Value×Value)} {q:PV} (hT:MpT P t ks e kd z) (ho:o.op= .lookup t x y false:=by exact rfl) (hx:ev sL x=some (m, .smap kv):=by exact rfl) (hy:ev sL y=some (k,q):=by exact rfl) (hk:kok kd k kv:=by first|exact S5 _ _|exact Hc _ _|exact Hb _ _|assumption) (hu:(Kv kv k).getD z=u:=by assumption):YE P (⟨sL,hP⟩:St) o (· =u) (.val u):=
 Zjb hT ho hx hy hk hu
theorem ZoG {t ks e:Nat} {kd:TypeDesc} {z:Value} {x y:Operand} {m k:Value} {kv:List (Value×Value)} {q:PV} (hT:MpT P t ks e kd z) (ho:o.op= .lookup t x y true:=by exact rfl) (hx:ev sL x=some (m, .smap kv):=by exact rfl) (hy:ev sL y=some (k,q):=by exact rfl) (hk:kok kd k kv:=by first|exact S5 _ _|exact Hc _ _|exact Hb _ _|assumption):YE P (⟨sL,hP⟩:St) o (· = .tuple [(Kv kv k).getD z, .bool (Kv kv k).isSome].toArray) (.tup [.val ((Kv kv k).getD z), .val (.bool (Kv kv k).isSome)]):=
 Zja hT ho hx hy hk
theorem ZdN {t ks e:Nat} {kd:TypeDesc} {z:Value} {x y:Operand} {m k:Value} {kv:List (Value×Value)} {p q:PV} (l:Nat) (hT:MpT P t ks e kd z) (ho:o.op= .lookup t x y true:=by exact rfl) (hx:ev sL x=some (m,p):=by exact rfl) (hl:lk hP l=some (m, .omap kv):=by exact rfl) (hy:ev sL y=some (k,q):=by exact rfl) (hk:kok kd k kv:=by first|exact S5 _ _|exact Hc _ _|exact Hb _ _|assumption):YE P (⟨sL,hP⟩:St) o (· = .tuple [(Kv kv k).getD z, .bool (Kv kv k).isSome].toArray) (.tup [.val ((Kv kv k).getD z), .val (.bool (Kv kv k).isSome)]):=
 Zjc l hT ho hx hl hy hk
theorem P9 {t ks e:Nat} {kd:TypeDesc} {z u:Value} {x y:Operand} {m k:Value} {kv:List (Value×Value)} {p q:PV} (l:Nat) (hT:MpT P t ks e kd z) (ho:o.op= .lookup t x y false:=by exact rfl) (hx:ev sL x=some (m,p):=by exact rfl) (hl:lk hP l=some (m, .omap kv):=by exact rfl) (hy:ev sL y=some (k,q):=by exact rfl) (hk:kok kd k kv:=by first|exact S5 _ _|exact Hc _ _|exact Hb _ _|assumption) (hu:(Kv kv k).getD z=u:=by assumption):YE P (⟨sL,hP⟩:St) o (· =u) (.val u):=
 Zjd l hT ho hx hl hy hk hu
theorem ZlT {t:TypeId} {x:Operand} {v:Value} {p:PV} (d:Nat) (k:∀h:Value,aL P c ops Q rest ⟨put d (padd (sbase h) 0, .val (padd (sbase h) 0)) sL,put d (h, .own t 1 1 [p]) hP⟩) (hw:Yf ops sL o=some true:=by exact rfl) (hd:o.dst=some d:=by exact rfl) (hn:d<c.nt:=by exact Xa rfl) (ho:o.op= .box t x:=by exact rfl) (hx:ev sL x=some (v,p):=by exact rfl) (h1:one p=true:=by first|exact rfl|assumption) (hl:lk hP d=none:=by exact rfl):aL P c ops Q (o::rest) (⟨sL,hP⟩:St):=
 Zor d hw hd hn ho hx h1 hl k
theorem Yi {t:TypeId} {x:Operand} {v:Value} {ps:List PV} (d:Nat) (m:Nat) (k:∀h:Value,aL P c ops Q rest ⟨put d (padd (sbase h) 0, .val (padd (sbase h) 0)) sL,put d (h, .own t m 1 ps) hP⟩) (hw:Yf ops sL o=some true:=by exact rfl) (hd:o.dst=some d:=by exact rfl) (hn:d<c.nt:=by exact Xa rfl) (ho:o.op= .box t x:=by exact rfl) (hx:ev sL x=some (v, .agg ps):=by exact rfl) (hm:ps.length=m:=by exact rfl) (hl:lk hP d=none:=by exact rfl):aL P c ops Q (o::rest) (⟨sL,hP⟩:St):=
 Zos d m hw hd hn ho hx hm hl k
theorem Zt {t:TypeId} {z:Value} (zs:List Value) (m:Nat) (d:Nat) (hz:ZeroT P t z) (k:∀h:Value,aL P c ops Q rest ⟨put d (padd (sbase h) 0, .val (padd (sbase h) 0)) sL,put d (h, .own t m 1 (zs.map .val)) hP⟩) (hw:Yf ops sL o=some true:=by exact rfl) (hd:o.dst=some d:=by exact rfl) (hn:d<c.nt:=by exact Xa rfl) (ho:o.op= .alloc t:=by exact rfl) (hzs:z.cells=zs.toArray:=by exact rfl) (hm:zs.length=m:=by exact rfl) (hl:lk hP d=none:=by exact rfl):aL P c ops Q (o::rest) (⟨sL,hP⟩:St):=
 Zly zs m d hw hd hn ho hz hzs hm hl k
theorem Kz {t e bytes:Nat} {z:Value} {x y:Operand} {n:Nat} {q q':PV} (d:Nat) (hT:ElT P t e 1 bytes z) (k:∀h:Value,h.oneCell'=true->aL P c ops Q rest ⟨put d (h, .val h) sL,put d (h, .own e 1 n (List.replicate n (.val z))) hP⟩) (hw:Yf ops sL o=some true:=by exact rfl) (hd:o.dst=some d:=by exact rfl) (hn:d<c.nt:=by exact Xa rfl) (ho:o.op= .makeSlice t x y:=by exact rfl) (hx:ev sL x=some (.int .i64 n,q):=by exact rfl) (hy:ev sL y=some (.int .i64 n,q'):=by exact rfl) (hl:lk hP d=none:=by exact rfl) (hb:bytes*n<=281474976710656:=by exact L5) (hn2:n<=9223372036854775807:=by exact L5) (hz1:z.oneCell'=true:=by exact rfl):aL P c ops Q (o::rest) (⟨sL,hP⟩:St):=
 Zot d hT hw hd hn ho hx hy hl hb hn2 hz1 k
theorem ZoH {t e kk bytes:Nat} {z:Value} {x y:Operand} {n:Nat} {q q':PV} (zs:List Value) (d:Nat) (hT:ElT P t e kk bytes z) (k:∀h:Value,h.oneCell'=true->aL P c ops Q rest ⟨put d (h, .val h) sL,put d (h, .own e kk n ((List.replicate n (zs.map PV.val)).flatten)) hP⟩) (hzs:z.cells=zs.toArray:=by exact rfl) (hw:Yf ops sL o=some true:=by exact rfl) (hd:o.dst=some d:=by exact rfl) (hn:d<c.nt:=by exact Xa rfl) (ho:o.op= .makeSlice t x y:=by exact rfl) (hx:ev sL x=some (.int .i64 n,q):=by exact rfl) (hy:ev sL y=some (.int .i64 n,q'):=by exact rfl) (hl:lk hP d=none:=by exact rfl) (hb:bytes*n<=281474976710656:=by exact L5) (hn2:n<=9223372036854775807:=by exact L5):aL P c ops Q (o::rest) (⟨sL,hP⟩:St):=
 ZlP zs d hT hzs hw hd hn ho hx hy hl hb hn2 k
theorem TX {t e kk bytes:Nat} {z:Value} (d:Nat) (hT:ElT P t e kk bytes z) (k:∀h:Value,h.oneCell'=true->aL P c ops Q rest ⟨put d (h, .val h) sL,put d (h, .own e kk 0 []) hP⟩) (hw:Yf ops sL o=some true:=by exact rfl) (hd:o.dst=some d:=by exact rfl) (hn:d<c.nt:=by exact Xa rfl) (ho:o.op= .buildSlice t 0 #[]:=by exact rfl) (hl:lk hP d=none:=by exact rfl):aL P c ops Q (o::rest) (⟨sL,hP⟩:St):=
 Zou d hT hw hd hn ho hl k
theorem WC {t e kk bytes:Nat} {z:Value} {x:Operand} {v:Value} {p:PV} (d:Nat) (hT:ElT P t e 1 bytes z) (k:∀h:Value,h.oneCell'=true->aL P c ops Q rest ⟨put d (h, .val h) sL,put d (h, .own e 1 1 [p]) hP⟩) (hw:Yf ops sL o=some true:=by exact rfl) (hd:o.dst=some d:=by exact rfl) (hn:d<c.nt:=by exact Xa rfl) (ho:o.op= .buildSlice t 1 #[(0,x)]:=by exact rfl) (hx:ev sL x=some (v,p):=by exact rfl) (h10:one p=true:=by first|exact rfl|assumption) (hl:lk hP d=none:=by exact rfl):aL P c ops Q (o::rest) (⟨sL,hP⟩:St):=
 Zov (kk:=1) d hT hw hd hn ho hx h10 hl k
theorem WH {t e kk bytes:Nat} {z:Value} {x:Operand} {v:Value} {ps:List PV} (d:Nat) (hT:ElT P t e kk bytes z) (k:∀h:Value,h.oneCell'=true->aL P c ops Q rest ⟨put d (h, .val h) sL,put d (h, .own e kk 1 ps) hP⟩) (hw:Yf ops sL o=some true:=by exact rfl) (hd:o.dst=some d:=by exact rfl) (hn:d<c.nt:=by exact Xa rfl) (ho:o.op= .buildSlice t 1 #[(0,x)]:=by exact rfl) (hx:ev sL x=some (v, .agg ps):=by exact rfl) (hps:ps.length=kk:=by exact rfl) (hkb:kk<=1000:=by decide) (hl:lk hP d=none:=by exact rfl):aL P c ops Q (o::rest) (⟨sL,hP⟩:St):=
 Zlz d hT hw hd hn ho hx hps hkb hl k
theorem Pi {t e bytes m:Nat} {z:Value} {xs:List Operand} {parts:Array (Nat×Operand)} {es:List Ent} (d:Nat) (hT:ElT P t e 1 bytes z) (k:∀h:Value,h.oneCell'=true->aL P c ops Q rest ⟨put d (h, .val h) sL,put d (h, .own e 1 m (es.map (·.2))) hP⟩) (hw:Yf ops sL o=some true:=by exact rfl) (hd:o.dst=some d:=by exact rfl) (hn:d<c.nt:=by exact Xa rfl) (ho:o.op= .buildSlice t m parts:=by exact rfl) (hpt:parts=((xs.zipIdx).map fun x=>(x.2,x.1)).toArray:=by exact rfl) (hx:evL sL xs=some es:=by exact rfl) (h1:es.all (fun x=>one x.2)=true:=by exact rfl) (hm:es.length=m:=by exact rfl) (hm0:0<m:=by decide) (hm1:m<=1000:=by decide) (hl:lk hP d=none:=by exact rfl):aL P c ops Q (o::rest) (⟨sL,hP⟩:St):=
 Zht d hT hw hd hn ho hpt hx h1 hm hm0 hm1 hl k
theorem JX {t j e kk n:Nat} {x y:Operand} {h v:Value} {q p:PV} {cs:List PV} (l:Nat) (hT:NoAgg P t=true) (hsz:(P.info? t).map (·.size)=some 1) (k:aL P c ops Q rest ⟨sL,put l (h, .own e kk n (cs.set j p)) hP⟩) (hw:Yf ops sL o=some true:=by exact rfl) (hd:o.dst=none:=by exact rfl) (ho:o.op= .store t x y:=by exact rfl) (hx:ev sL x=some (padd (sbase h) j,q):=by exact rfl) (hy:ev sL y=some (v,p):=by exact rfl) (h1:one p=true:=by first|exact rfl|assumption) (hl:lk hP l=some (h, .own e kk n cs):=by exact rfl) (hj:j<cs.length:=by exact L5):aL P c ops Q (o::rest) (⟨sL,hP⟩:St):=
 Zf2 l hw hd hT hsz ho hx hy h1 hl hj k
theorem ZrP {t j e kk n:Nat} {x y:Operand} {h v:Value} {q p:PV} {cs:List PV} (l:Nat) (i:Nat) (hT:NoAgg P t=true) (hsz:(P.info? t).map (·.size)=some 1) (k:aL P c ops Q rest ⟨sL,put l (h, .own e kk n (cs.set i p)) hP⟩) (hw:Yf ops sL o=some true:=by exact rfl) (hd:o.dst=none:=by exact rfl) (ho:o.op= .store t x y:=by exact rfl) (hx:ev sL x=some (padd (sbase h) j,q):=by exact rfl) (hy:ev sL y=some (v,p):=by exact rfl) (h1:one p=true:=by first|exact rfl|assumption) (hl:lk hP l=some (h, .own e kk n cs):=by exact rfl) (hji:j=i:=by exact L5) (hj:i<cs.length:=by exact L5):aL P c ops Q (o::rest) (⟨sL,hP⟩:St):=
 LJ l i hw hd hT hsz ho hx hy h1 hl hji hj k
theorem Zp {t j e kk n m:Nat} {x y:Operand} {h V:Value} {q:PV} {ps cs:List PV} (l:Nat) (hT:AggT P t m=true) (k:aL P c ops Q rest ⟨sL,put l (h, .own e kk n (TB cs j ps)) hP⟩) (hw:Yf ops sL o=some true:=by exact rfl) (hd:o.dst=none:=by exact rfl) (ho:o.op= .store t x y:=by exact rfl) (hx:ev sL x=some (padd (sbase h) j,q):=by exact rfl) (hy:ev sL y=some (V, .agg ps):=by exact rfl) (hm:ps.length=m:=by exact rfl) (h1:ps.all one=true:=by first|exact rfl|(simp only [Uy,List.all_nil,Uk,Xe];(repeat (first|refine ⟨?_,?_⟩|rfl|assumption)))) (hl:lk hP l=some (h, .own e kk n cs):=by exact rfl) (hj:j+m<=cs.length:=by exact L5) (hm0:0<m:=by decide):aL P c ops Q (o::rest) (⟨sL,hP⟩:St):=
 ZqL l hw hd hT ho hx hy hm h1 hl hj hm0 k
theorem S6 {t:Nat} (d:Nat) (k:∀m:Value,m.oneCell'=true->aL P c ops Q rest ⟨put d (m, .val m) sL,put d (m, .omap []) hP⟩) (hw:Yf ops sL o=some true:=by exact rfl) (hd:o.dst=some d:=by exact rfl) (hn:d<c.nt:=by exact Xa rfl) (ho:o.op= .makeMap t none:=by exact rfl) (hl:lk hP d=none:=by exact rfl):aL P c ops Q (o::rest) (⟨sL,hP⟩:St):=
 ZlL d hw hd hn ho hl k
theorem Pj {t ks e:Nat} {kd:TypeDesc} {z:Value} {x y u:Operand} {m k v:Value} {kv:List (Value×Value)} {p q r:PV} (l:Nat) (hT:MpT P t ks e kd z) (kk:aL P c ops Q rest ⟨sL,put l (m, .omap (RB kv k v)) hP⟩) (hw:Yf ops sL o=some true:=by exact rfl) (hd:o.dst=none:=by exact rfl) (ho:o.op= .mapUpdate t x y u:=by exact rfl) (hx:ev sL x=some (m,p):=by exact rfl) (hl:lk hP l=some (m, .omap kv):=by exact rfl) (hy:ev sL y=some (k,q):=by exact rfl) (hu:ev sL u=some (v,r):=by exact rfl) (hk:kok kd k kv:=by first|exact S5 _ _|exact Hc _ _|exact Hb _ _|assumption) (hbits:bits k=true:=by exact rfl):aL P c ops Q (o::rest) (⟨sL,hP⟩:St):=
 ZoC l hw hd hT ho hx hl hy hu hk hbits kk
theorem Wc {t ty e kk bytes n m:Nat} {z:Value} {x y:Operand} {h h2:Value} {q q2:PV} {cs cs2:List PV} (l:Nat) (l2:Nat) (d:Nat) (hT:ElT P t e kk bytes z) (k:∀h':Value,h'.oneCell'=true->aL P c ops Q rest ⟨put d (h', .val h') sL,put d (h', .own e kk (n+m) (cs++cs2)) (del l2 (del l hP))⟩) (hw:Yf ops sL o=some true:=by exact rfl) (hd:o.dst=some d:=by exact rfl) (hn:d<c.nt:=by exact Xa rfl) (hty:o.type=ty:=by exact rfl) (ho:o.op= .call {callee:= .builtin .append,args:= #[x,y],argTypes:= #[t,t]}:=by exact rfl) (hx:ev sL x=some (h,q):=by exact rfl) (hy:ev sL y=some (h2,q2):=by exact rfl) (hll:Nat.beq l l2=false:=by exact rfl) (hl:lk hP l=some (h, .own e kk n cs):=by exact rfl) (hl2:lk hP l2=some (h2, .own e kk m cs2):=by exact rfl) (hdl:lk (del l2 (del l hP)) d=none:=by exact rfl) (hm:0<m:=by decide) (hok:cs2.all L6=true:=by first|exact rfl|(simp only [Uy,List.all_nil,Uk,Xe];(repeat (first|refine ⟨?_,?_⟩|rfl|assumption)))) (hlen:n+m<=9223372036854775807:=by exact L5) (hb:(n+m)*bytes<=140737488355328:=by exact L5) (hdr:¬c.dr:=by exact id):aL P c ops Q (o::rest) (⟨sL,hP⟩:St):=
 Zi6 l l2 d hT hw hd hn hty ho hx hy hll hl hl2 hdl hm hok hlen hb hdr k
theorem bLd {l:List Oper} (t:Nat) {p:Prop} {_:Decidable p} {q:PV} (ht:p->aL P c ops Q l ⟨put t (.bool true, .val (.bool true)) sL,hP⟩) (hf:¬p->aL P c ops Q l ⟨put t (.bool false, .val (.bool false)) sL,hP⟩) (hx:lk sL t=some (.bool (decide p),q):=by exact rfl):aL P c ops Q l (⟨sL,hP⟩:St):=
 ZdC t hx (fun h=>ht (Qe h)) (fun h=>hf (Qf h))
theorem bDd (t:Nat) {p:Prop} {_:Decidable p} {q:PV} (ht:p->aD P c ops Q Z K fuel listed ⟨put t (.bool true, .val (.bool true)) sL,hP⟩) (hf:¬p->aD P c ops Q Z K fuel listed ⟨put t (.bool false, .val (.bool false)) sL,hP⟩) (hx:lk sL t=some (.bool (decide p),q):=by exact rfl):aD P c ops Q Z K fuel listed (⟨sL,hP⟩:St):=
 ZdM t hx (fun h=>ht (Qe h)) (fun h=>hf (Qf h))
theorem cC {x:Operand} {t e:Code} {b:Bool} {q:PV} (ht:b=true->aC P c t Q (⟨sL,hP⟩:St)) (hf:b=false->aC P c e Q (⟨sL,hP⟩:St)) (hx:ev sL x=some (.bool b,q):=by exact rfl):aC P c (.cond x t e) Q (⟨sL,hP⟩:St):=Ys hx ht hf
theorem cCd {x:Operand} {t e:Code} {p:Prop} {_:Decidable p} {q:PV} (ht:p->aC P c t Q (⟨sL,hP⟩:St)) (hf:¬p->aC P c e Q (⟨sL,hP⟩:St)) (hx:ev sL x=some (.bool (decide p),q):=by exact rfl):aC P c (.cond x t e) Q (⟨sL,hP⟩:St):=Ys hx (fun h=>ht (Qe h)) (fun h=>hf (Qf h))
theorem cX {A B C:Prop} (h1:B) (h2:C) (e:B->C->A:=by intro h1 h2;first|exact cCd h1 h2|exact cC h1 h2):A:=e h1 h2
theorem cCt {x:Operand} {t e:Code} {q:PV} (ht:aC P c t Q (⟨sL,hP⟩:St)) (hx:ev sL x=some (.bool true,q):=by exact rfl):aC P c (.cond x t e) Q (⟨sL,hP⟩:St):=Ys hx (fun _=>ht) (fun h=>Bool.noConfusion h)
theorem cCf {x:Operand} {t e:Code} {q:PV} (hf:aC P c e Q (⟨sL,hP⟩:St)) (hx:ev sL x=some (.bool false,q):=by exact rfl):aC P c (.cond x t e) Q (⟨sL,hP⟩:St):=Ys hx (fun h=>Bool.noConfusion h) (fun _=>hf)
theorem cA {dd:Prop} {f:Nat} {xs:Array Operand} {ats:Array TypeId} {es:List Ent} {ps:List PV} {R:PV->Prop} (hc:∀args w,(callFunc f args).run P w= .ok (.enter f args) w) (hA:AFd dd P f ps R) (ho:o.op= .call {callee:= .value (.func f),args:=xs,argTypes:=ats}:=by exact rfl) (hx:evL sL xs.toList=some es:=by exact rfl) (hps:es.map (·.2)=ps:=by exact rfl) (hdd:c.dr->dd:=by first|exact id|exact fun h=>h.elim|exact fun _=>trivial):LB P c (⟨sL,hP⟩:St) o R:=
 D8 ho hc hx (hps▸hA) hdd
theorem cS {p:PV} (d:Nat) (hC:LB P c (⟨sL,hP⟩:St) o (· =p)) (k:∀v,vOf p v->aL P c ops Q rest ⟨put d (v,p) sL,hP⟩) (hsh:isSh p=true:=by exact rfl) (hw:Yf ops sL o=some true:=by exact rfl) (hd:o.dst=some d:=by exact rfl) (hn:d<c.nt:=by exact Xa rfl):aL P c ops Q (o::rest) (⟨sL,hP⟩:St):=
 P4 d hw hd hn hC fun p' hp=>by subst hp;exact ⟨hsh,k⟩
theorem cO {p:PV} (d:Nat) (hC:LB P c (⟨sL,hP⟩:St) o (· =p)) (k:∀v,v.oneCell'=true->aL P c ops Q rest ⟨put d (v, .val v) sL,put d (v,p) hP⟩) (hok:L6 p=true:=by exact rfl) (hl:lk hP d=none:=by exact rfl) (hw:Yf ops sL o=some true:=by exact rfl) (hd:o.dst=some d:=by exact rfl) (hn:d<c.nt:=by exact Xa rfl):aL P c ops Q (o::rest) (⟨sL,hP⟩:St):=
 LC d hw hd hn hl hC fun p' hp=>by subst hp;exact ⟨hok,k⟩
end
theorem yV {P:Program} {c:Ctx} {ops:Array Oper} {Q:Exit->Act->World->Prop} {rest:List Oper} {sL hP:List (Nat×Ent)} {o:Oper} {v:Value} {d:Nat} (hy:YE P (⟨sL,hP⟩:St) o (vOf (.val v)) (.val v)) (k:aL P c ops Q rest ⟨put d (v, .val v) sL,hP⟩) (hw:Yf ops sL o=some true:=by exact rfl) (hd:o.dst=some d:=by exact rfl) (hn:d<c.nt:=by exact Xa rfl):aL P c ops Q (o::rest) (⟨sL,hP⟩:St):=yL d hy (fun u hu=>by cases hu;exact k) hw hd hn
theorem cV {P:Program} {c:Ctx} {ops:Array Oper} {Q:Exit->Act->World->Prop} {rest:List Oper} {sL hP:List (Nat×Ent)} {o:Oper} {v:Value} {d:Nat} (hC:LB P c (⟨sL,hP⟩:St) o (· = .val v)) (k:aL P c ops Q rest ⟨put d (v, .val v) sL,hP⟩) (hw:Yf ops sL o=some true:=by exact rfl) (hd:o.dst=some d:=by exact rfl) (hn:d<c.nt:=by exact Xa rfl):aL P c ops Q (o::rest) (⟨sL,hP⟩:St):=cS d hC (fun u hu=>by cases hu;exact k) rfl hw hd hn
theorem xK {P:Program} {c:Ctx} {ops:Array Oper} {Q:Exit->Act->World->Prop} {rest:List Oper} {sL hP:List (Nat×Ent)} {o:Oper} {v:Value} {p:PV} (d:Nat) (hy:YE P (⟨sL,hP⟩:St) o (· =v) p) (hw:Yf ops sL o=some true:=by exact rfl) (hd:o.dst=some d:=by exact rfl) (hn:d<c.nt:=by exact Nat.le_of_ble_eq_true rfl):aL P c ops Q rest ⟨put d (v,p) sL,hP⟩->aL P c ops Q (o::rest) (⟨sL,hP⟩:St):=fun k=>xL d hy k hw hd hn
theorem xM {P:Program} {c:Ctx} {ops:Array Oper} {Q:Exit->Act->World->Prop} {rest:List Oper} {sL hP:List (Nat×Ent)} {o:Oper} {v:Value} {p:PV} {d:Nat} (hy:YE P (⟨sL,hP⟩:St) o (· =v) p) (k:aL P c ops Q rest ⟨put d (v,p) sL,hP⟩) (hw:Yf ops sL o=some true:=by exact rfl) (hd:o.dst=some d:=by exact rfl) (hn:d<c.nt:=by exact Nat.le_of_ble_eq_true rfl):aL P c ops Q (o::rest) (⟨sL,hP⟩:St):=xL d hy k hw hd hn
theorem kK {P:Program} {c:Ctx} {ops:Array Oper} {Q:Exit->Act->World->Prop} {rest:List Oper} {sL hP:List (Nat×Ent)} {o:Oper} {d:Nat} (hw:Yf ops sL o=some false:=by exact rfl) (hd:o.dst=some d:=by exact rfl) (hn:d<c.nt:=by exact Nat.le_of_ble_eq_true rfl):aL P c ops Q rest ⟨put d (undef, .val undef) sL,hP⟩->aL P c ops Q (o::rest) (⟨sL,hP⟩:St):=fun k=>kL k hw hd hn
theorem rT {A B C:Prop} (e:C->A:=by first|exact xK _ Za|exact xK _ ZJ|exact xK _ Yj|exact xK _ Y4|exact xK _ PN|exact xK _ Ky|exact xK _ LY|exact xK _ LL|exact xK _ LK|exact xK _ Jw|exact xK _ E8|exact xK _ Zqm|exact xK _ ZlQ|exact xK _ ZlR|exact xK _ ZqO|exact xK _ q_neg|exact xK _ YY) (g:B->C):B->A:=fun h=>e (g h)
theorem ZN {A B:Prop} (h:B) (e:B->A:=by exact rT (g:=id)):A:=e h
theorem ZO {A B:Prop} (h:B) (e:B->A:=by exact rT (g:=rT (g:=id))):A:=e h
theorem Y1 {A B:Prop} (h:B) (e:B->A:=by exact rT (g:=rT (g:=rT (g:=id)))):A:=e h
theorem LZ {A B:Prop} (h:B) (e:B->A:=by exact rT (g:=rT (g:=rT (g:=rT (g:=id))))):A:=e h
theorem ζg {A B:Prop} (h:B) (e:B->A:=by exact rT (g:=rT (g:=rT (g:=rT (g:=rT (g:=id)))))):A:=e h
theorem WE {P:Program} {c:Ctx} {ops:Array Oper} {Q:Exit->Act->World->Prop} {Z:Nat->Bool} {K:List Nat} {fuel:Nat} {listed:Array Bool} {sL hP:List (Nat×Ent)} {B:Prop} (h:B) (e:B->aN c Q (⟨sL,hP⟩:St):=by intro h;(repeat (first|with_reducible refine C7 ?_|with_reducible refine PY ?_|with_reducible refine D5 ?_|with_reducible refine PZ ?_|with_reducible refine D3 ?_|with_reducible refine D4 ?_|with_reducible refine D6 ?_|with_reducible refine P0 ?_|with_reducible refine P1 rfl ?_|with_reducible refine C8 ?_|with_reducible refine D7 ?_|with_reducible refine P2 ?_));(try dsimp only);exact h) (hr:Region.ready .any ops listed=[]:=by kernel_rfl):aD P c ops Q Z K fuel listed (⟨sL,hP⟩:St):=ZqN hr (e h)
theorem TF {A B C:Prop} (e:C->A:=by exact fun h=>Zw h) (g:B->C):B->A:=fun h=>e (g h)
theorem Rq {A B C:Prop} (e:C->A:=by exact fun h=>Ym h) (g:B->C):B->A:=fun h=>e (g h)
theorem P' {A B C:Prop} (e:C->A:=by exact fun h=>Zi h) (g:B->C):B->A:=fun h=>e (g h)
theorem Dw {A B C:Prop} (e:C->A:=by exact fun h=>Zo h) (g:B->C):B->A:=fun h=>e (g h)
theorem kZ {A B:Prop} (h:B) (e:B->A:=by first|exact kK|exact rT (g:=id)):A:=e h
theorem ZP {A B:Prop} (h:B) (e:B->A:=by exact rT (g:=TF (g:=id))):A:=e h
theorem ZX {A B:Prop} (h:B) (e:B->A:=by exact rT (g:=Rq (g:=id))):A:=e h
theorem KI {A B:Prop} (h:B) (e:B->A:=by exact rT (g:=rT (g:=TF (g:=id)))):A:=e h
theorem ZD {A B:Prop} (h:B) (e:B->A:=by exact P' (g:=rT (g:=TF (g:=id)))):A:=e h
theorem ZE {A B C:Prop} (h1:B) (h2:C) (e:B/\C->A:=by exact TF (g:=fun h=>cX h.1 h.2)):A:=e ⟨h1,h2⟩
theorem ZU {A B:Prop} (h:B) (e:B->A:=by exact P' (g:=rT (g:=rT (g:=TF (g:=id))))):A:=e h
theorem E9 {A B:Prop} (h:B) (e:B->A:=by exact rT (g:=rT (g:=rT (g:=TF (g:=id))))):A:=e h
theorem YG {A B:Prop} (h:B) (e:B->A:=by exact P' (g:=rT (g:=Rq (g:=id)))):A:=e h
theorem Y2 {A B:Prop} (h:B) (e:B->A:=by exact P' (g:=rT (g:=rT (g:=rT (g:=TF (g:=id)))))):A:=e h
theorem Yy {A B C:Prop} (h1:B) (h2:C) (e:B/\C->A:=by exact P' (g:=rT (g:=TF (g:=fun h=>cX h.1 h.2)))):A:=e ⟨h1,h2⟩
theorem KL {A B:Prop} (h:B) (e:B->A:=by exact P' (g:=rT (g:=rT (g:=id)))):A:=e h
theorem Wl {A B C:Prop} (h1:B) (h2:C) (e:B/\C->A:=by exact rT (g:=TF (g:=fun h=>cX h.1 h.2))):A:=e ⟨h1,h2⟩
theorem Wp {A B:Prop} (h:B) (e:B->A:=by exact P' (g:=rT (g:=id))):A:=e h
theorem WJ {A B:Prop} (h:B) (e:B->A:=by exact P' (g:=rT (g:=rT (g:=rT (g:=id))))):A:=e h
theorem WZ {A B C:Prop} (h1:B) (h2:C) (e:B/\C->A:=by exact rT (g:=rT (g:=TF (g:=fun h=>cX h.1 h.2)))):A:=e ⟨h1,h2⟩
theorem Kj {A B C:Prop} (h1:B) (h2:C) (e:B/\C->A:=by exact P' (g:=rT (g:=rT (g:=TF (g:=fun h=>cX h.1 h.2))))):A:=e ⟨h1,h2⟩
theorem KA {A B:Prop} (h:B) (e:B->A:=by exact rT (g:=Rq (g:=rT (g:=TF (g:=id))))):A:=e h
theorem K5 {A B:Prop} (h:B) (e:B->A:=by exact rT (g:=Rq (g:=rT (g:=rT (g:=rT (g:=TF (g:=id))))))):A:=e h
theorem Jx {A B:Prop} (h:B) (e:B->A:=by exact P' (g:=rT (g:=rT (g:=Rq (g:=id))))):A:=e h
theorem Jy {A B:Prop} (h:B) (e:B->A:=by exact rT (g:=Rq (g:=rT (g:=id)))):A:=e h
theorem JR {A B:Prop} (h:B) (e:B->A:=by exact P' (g:=rT (g:=Rq (g:=rT (g:=TF (g:=id)))))):A:=e h
theorem JS {A B:Prop} (h:B) (e:B->A:=by exact rT (g:=Rq (g:=rT (g:=rT (g:=TF (g:=id)))))):A:=e h
theorem J9 {A B:Prop} (h:B) (e:B->A:=by exact rT (g:=rT (g:=Rq (g:=id)))):A:=e h
theorem Gf {A B:Prop} (h:B) (e:B->A:=by exact Dw (g:=rT (g:=rT (g:=TF (g:=id))))):A:=e h
theorem GP {A B:Prop} (h:B) (e:B->A:=by exact Dw (g:=rT (g:=rT (g:=rT (g:=TF (g:=id)))))):A:=e h
theorem LN {A B:Prop} (h:B) (e:B->A:=by exact Dw (g:=rT (g:=id))):A:=e h
theorem Sx {A B:Prop} (h:B) (e:B->A:=by exact rT (g:=rT (g:=rT (g:=rT (g:=rT (g:=Rq (g:=id))))))):A:=e h
theorem sB {P:Prop} (e:P:=by repeat (first|exact trivial|refine ⟨rfl,?_⟩)):P:=e
theorem yU {P:Program} {c:Ctx} {ops:Array Oper} {Q:Exit->Act->World->Prop} {rest:List Oper} {sL hP:List (Nat×Ent)} {o:Oper} {p:PV} {V:Value->Prop} {d:Nat} (hy:YE P (⟨sL,hP⟩:St) o V p) (k:∀v,aL P c ops Q rest ⟨put d (v,p) sL,hP⟩) (hw:Yf ops sL o=some true:=by exact rfl) (hd:o.dst=some d:=by exact rfl) (hn:d<c.nt:=by exact Xa rfl):aL P c ops Q (o::rest) (⟨sL,hP⟩:St):=yL d hy (fun u _=>k u) hw hd hn
theorem cU {P:Program} {c:Ctx} {ops:Array Oper} {Q:Exit->Act->World->Prop} {rest:List Oper} {sL hP:List (Nat×Ent)} {o:Oper} {p:PV} {d:Nat} (hC:LB P c (⟨sL,hP⟩:St) o (· =p)) (k:∀v,aL P c ops Q rest ⟨put d (v,p) sL,hP⟩) (hsh:isSh p=true:=by exact rfl) (hw:Yf ops sL o=some true:=by exact rfl) (hd:o.dst=some d:=by exact rfl) (hn:d<c.nt:=by exact Xa rfl):aL P c ops Q (o::rest) (⟨sL,hP⟩:St):=cS d hC (fun u _=>k u) hsh hw hd hn
theorem Yq {P:Program} {c:Ctx} {Q:Exit->Act->World->Prop} {sL hP:List (Nat×Ent)} {ι:Type} {x:Code} (I:ι->St) (μ:ι->Nat) (i0:ι) (round:∀i,aC P c x (Exit.then (Zhu c I μ i) Q) (I i)) (hs:Sub (I i0).slots sL:=by exact sB) (hh:Sub (I i0).heap hP:=by exact sB):aC P c (.loop x) Q (⟨sL,hP⟩:St):=Y9 I μ i0 (fun a w H=>H.weaken hs hh) round
theorem Yr {c:Ctx} {Q:Exit->Act->World->Prop} {sL hP:List (Nat×Ent)} {ι:Type} {I:ι->St} {μ:ι->Nat} {i:ι} (j:ι) (hμ:μ j<μ i:=by dsimp only;omega) (hs:Sub (I j).slots sL:=by exact sB) (hh:Sub (I j).heap hP:=by exact sB):aN c (Exit.then (Zhu c I μ i) Q) (⟨sL,hP⟩:St):=Zf j hμ hs hh
theorem gS {α:Type} (l:List α) (k:Nat) (h:k<l.length:=by omega):∃x,l[k]? =some x:=Go.Cb.get_some h
theorem YJ {P:Program} {c:Ctx} {Q:Exit->Act->World->Prop} {sL hP:List (Nat×Ent)} {id:Nat} {l:List Oper} (Zl K:List Nat) (h:aD P c l.toArray Q (fun i=>Zl.elem i) K l.length (Array.replicate l.length false) (⟨sL,hP⟩:St)) (hm:P.follows .mixedOrders=true:=by kernel_rfl):aC P c (.region id l.toArray true) Q (⟨sL,hP⟩:St):=ZoD (fun i=>Zl.elem i) K hm h
abbrev zT:List Value:=[(.int .i64 0),(.string ByteArray.empty),(.slice none 0 0)]
theorem AF.b1 {P:Program} {f:FuncId} {fn:Func} {code:Code} {p0:PV} {R:PV->Prop} (nt:Nat) (hf:P.funcs[f]? =some fn) (hb:fn.body=some code) (hnt:fn.ntmps=nt) (hn:[p0].length<=nt) (h:∀(w0:World) (M0:BS) (v0:Value),vOf p0 v0->aC P ⟨w0,M0,fun _=>False,nt,False,[]⟩ code (bodyPost P fn (LA ⟨w0,M0,fun _=>False,nt,False,[]⟩ R)) ⟨Ju 0 [v0] [p0],[]⟩):AF P f [p0] R:=AF.of_body nt hf hb hnt hn fun w0 M0 vs hl hv=>by
 obtain ⟨v0,rfl⟩:=ZlG hl
 exact h w0 M0 v0 (hv 0 _ _ rfl rfl)
theorem AF.b2 {P:Program} {f:FuncId} {fn:Func} {code:Code} {p0 p1:PV} {R:PV->Prop} (nt:Nat) (hf:P.funcs[f]? =some fn) (hb:fn.body=some code) (hnt:fn.ntmps=nt) (hn:[p0,p1].length<=nt) (h:∀(w0:World) (M0:BS) (v0 v1:Value),vOf p0 v0->vOf p1 v1->aC P ⟨w0,M0,fun _=>False,nt,False,[]⟩ code (bodyPost P fn (LA ⟨w0,M0,fun _=>False,nt,False,[]⟩ R)) ⟨Ju 0 [v0,v1] [p0,p1],[]⟩):AF P f [p0,p1] R:=AF.of_body nt hf hb hnt hn fun w0 M0 vs hl hv=>by
 obtain ⟨v0,v1,rfl⟩:=ζd hl
 exact h w0 M0 v0 v1 (hv 0 _ _ rfl rfl) (hv 1 _ _ rfl rfl)
theorem AF.b3 {P:Program} {f:FuncId} {fn:Func} {code:Code} {p0 p1 p2:PV} {R:PV->Prop} (nt:Nat) (hf:P.funcs[f]? =some fn) (hb:fn.body=some code) (hnt:fn.ntmps=nt) (hn:[p0,p1,p2].length<=nt) (h:∀(w0:World) (M0:BS) (v0 v1 v2:Value),vOf p0 v0->vOf p1 v1->vOf p2 v2->aC P ⟨w0,M0,fun _=>False,nt,False,[]⟩ code (bodyPost P fn (LA ⟨w0,M0,fun _=>False,nt,False,[]⟩ R)) ⟨Ju 0 [v0,v1,v2] [p0,p1,p2],[]⟩):AF P f [p0,p1,p2] R:=AF.of_body nt hf hb hnt hn fun w0 M0 vs hl hv=>by
 obtain ⟨v0,v1,v2,rfl⟩:=ZrN hl
 exact h w0 M0 v0 v1 v2 (hv 0 _ _ rfl rfl) (hv 1 _ _ rfl rfl) (hv 2 _ _ rfl rfl)
theorem AF.b4 {P:Program} {f:FuncId} {fn:Func} {code:Code} {p0 p1 p2 p3:PV} {R:PV->Prop} (nt:Nat) (hf:P.funcs[f]? =some fn) (hb:fn.body=some code) (hnt:fn.ntmps=nt) (hn:[p0,p1,p2,p3].length<=nt) (h:∀(w0:World) (M0:BS) (v0 v1 v2 v3:Value),vOf p0 v0->vOf p1 v1->vOf p2 v2->vOf p3 v3->aC P ⟨w0,M0,fun _=>False,nt,False,[]⟩ code (bodyPost P fn (LA ⟨w0,M0,fun _=>False,nt,False,[]⟩ R)) ⟨Ju 0 [v0,v1,v2,v3] [p0,p1,p2,p3],[]⟩):AF P f [p0,p1,p2,p3] R:=AF.of_body nt hf hb hnt hn fun w0 M0 vs hl hv=>by
 obtain ⟨v0,v1,v2,v3,rfl⟩:=Zsc hl
 exact h w0 M0 v0 v1 v2 v3 (hv 0 _ _ rfl rfl) (hv 1 _ _ rfl rfl) (hv 2 _ _ rfl rfl) (hv 3 _ _ rfl rfl)
mutual
def shD:PV->Bool
 | .val _=>true
 | .sl _ _=>true
 | .sptr _ _=>true
 | .smap _=>true
 | .own _ _ _ _=>false
 | .omap _=>false
 | .obox _ _ _=>false
 | .agg ps=>Zji ps
 | .tup ps=>Zji ps
 | .fn _ _=>true
 | .oblk _ _ _ _=>false
def Zji:List PV->Bool
 |[]=>true
 |p::l=>shD p&&Zji l
end
theorem ζh:∀l:List PV,Zji l=l.all shD
 |[]=>by simp [Zji]
 |p::l=>by simp [Zji,ζh l]
theorem Tr.shD {M:BS} {w:World} {v:Value} {p:PV} {F:BS} (h:Tr M w v p F):En.shD p=true->Shr M w v p:=by
 induction h with
 |shr h _=>exact fun _=>h
 |own=>intro h;rw [En.shD] at h;cases h
 |omap=>intro h;rw [En.shD] at h;cases h
 |oblk=>intro h;rw [En.shD] at h;cases h
 |obox=>intro h;rw [En.shD] at h;cases h
 | @agg ps F vs Fs hl h hd hF ih=>
   intro hs;rw [En.shD,ζh] at hs;exact .agg vs ps hl fun i v p hv hp=>ih i v p hv hp (Xj.1 hs p (Xb hp))
 | @tup ps F vs Fs hl h hd hF ih=>
   intro hs;rw [En.shD,ζh] at hs;exact .tup vs ps hl fun i v p hv hp=>ih i v p hv hp (Xj.1 hs p (Xb hp))
section
variable {P:Program} {c:Ctx} {ops:Array Oper} {Q:Exit->Act->World->Prop} {rest:List Oper} {st:St} {sL hP:List (Nat×Ent)} {o:Oper} {Z:Nat->Bool} {K:List Nat} {fuel:Nat} {listed:Array Bool}
theorem Tr.fam {M:BS} {w:World} {Hs:List Value} {ps:List PV} {F:BS} (h:Tr M w (.agg Hs.toArray) (.agg ps) F):∃Fs:Nat->BS,Hs.length=ps.length/\(∀(i:Nat) (v:Value) (p:PV),Hs[i]? =some v->ps[i]? =some p->Tr M w v p (Fs i))/\
 (∀i j b,i<ps.length->j<ps.length->i≠j->Fs i b->¬Fs j b)/\(∀b,F b↔∃i,i<ps.length/\Fs i b):=by
 generalize hv:Value.agg Hs.toArray=v at h
 generalize hq:PV.agg ps=q at h
 cases h with
 | shr h hF=>
   cases h with
   | agg vs ps' hl h=>
     cases hq;(have:vs=Hs:=by injection hv with hv;simpa using hv.symm);subst this;exact ⟨fun _ _=>False,hl,fun i v p h1 h2=> .shr (h i v p h1 h2) (fun _ h=>h),fun _ _ _ _ _ _ h=>h.elim,fun b=>⟨fun h=>(hF b h).elim,fun ⟨_,_,h⟩=>h.elim⟩⟩
   |_=>cases hq
 | agg vs Fs hl h hd hF=>
   cases hq;have:vs=Hs:=by injection hv with hv;simpa using hv.symm
   subst this;exact ⟨Fs,hl,h,hd,hF⟩
 |_=>cases hq
theorem ZcE {l e n:Nat} {h:Value} {cs:List PV} (l':Nat) (hl:lk hP l=some (h, .own e 1 n cs)) (hl':lk hP l'=none):
 L8 (⟨sL,hP⟩:St) (fun Hs:{Hs:List Value//Hs.length=cs.length}=>⟨sL,put l' (.agg Hs.1.toArray, .agg cs) (put l (h, .own e 1 n (Hs.1.map .val)) hP)⟩):=fun c a w ⟨F,H⟩=>by
 have hne:l'≠l:=fun e=>by subst e;rw [hl] at hl';cases hl'
 have hTr:=H.tr l _ _ hl
 obtain ⟨xs,Fs,hrow,hlen,hT,hd,hb,hF⟩:=hTr.row
 refine ⟨⟨xs,hlen.symm⟩,fun x=>if x=l' then (fun b=>∃i,i<cs.length/\Fs i b) else if x=l then (fun b=>h.ownBlock=some b) else F x,?_⟩
 refine H.retell (fun x=>x=l\/x=l') (fun x y hnT hx=>?_) (fun x y b hTx hx hb'=>?_) (fun hmm x u q hTx hx=>?_) (fun x1 x2 y1 y2 b h1 h2 hne' hx1 hx2 hb1 hb2=>?_)
 . have n1:x≠l:=fun e=>hnT (.inl e);have n2:x≠l':=fun e=>hnT (.inr e);rw [Yz (Ne.symm n2),Yz (Ne.symm n1)] at hx;exact ⟨hx,by simp [n1,n2]⟩
 . refine ⟨l,_, .inl rfl,hl,?_⟩;rcases hTx with rfl|rfl
   . simp only [Ne.symm hne,if_false,if_true] at hb';exact (hF b).2 (.inl hb')
   . simp only [if_true] at hb';obtain ⟨i,hi,h1⟩:=hb';exact (hF b).2 (.inr ⟨i,hi,h1⟩)
 . rcases hTx with rfl|rfl
   . rw [Yz hne,Z4] at hx
     cases hx;simp only [Ne.symm hne,if_false,if_true];refine .own xs (fun _ _=>False) hrow sM (fun i x q hx9 hq=>?_) (fun _ _ _ _ _ _ h=>h.elim) (fun _ _ _ h=>h.elim) (fun b=>⟨fun h=> .inl h,fun h=>h.elim id fun ⟨_,_,h⟩=>h.elim⟩);rw [Xl,hx9] at hq
     cases hq;exact .shr (.val _) (fun _ h=>h)
   . rw [Z4] at hx
     cases hx;simp only [if_true];exact .agg xs Fs hlen.symm (fun i v p h1 h2=>(hT i v p h1 h2).anti hmm) hd (fun b=>Iff.rfl)
 . rcases h1 with rfl|rfl
   . rcases h2 with rfl|rfl
     . exact hne' rfl
     . simp only [Ne.symm hne,if_false,if_true] at hb1 hb2;obtain ⟨i,hi,h3⟩:=hb2;exact hb i b hi h3 hb1
   . rcases h2 with rfl|rfl
     . simp only [Ne.symm hne,if_false,if_true] at hb1 hb2;obtain ⟨i,hi,h3⟩:=hb1;exact hb i b hi h3 hb2
     . exact hne' rfl
theorem ZcF {l l' e k n:Nat} {h:Value} {cs0 cs:List PV} {Hs:List Value} (hl:lk hP l=some (h, .own e k n cs0)) (hl':lk hP l'=some (.agg Hs.toArray, .agg cs)) (hcs:cs0=Hs.map .val) (hne0:Nat.beq l l'=false):
 L8 (⟨sL,hP⟩:St) (fun _:Unit=>⟨sL,put l (h, .own e k n cs) (del l' hP)⟩):=fun c a w ⟨F,H⟩=>by
 have hne:l≠l':=fun e=>by subst e;simp at hne0
 have hTr:=H.tr l _ _ hl
 have hTr':=H.tr l' _ _ hl'
 obtain ⟨xs,Fs,hrow,hlen,hT,hd,hb,hF⟩:=hTr.row
 obtain ⟨Gs,hlen',hT',hd',hF'⟩:=hTr'.fam
 have hx:xs=Hs:=by
  apply VX;intro i;rcases XL i xs.length with hi|hi
  . obtain ⟨x,hx⟩:=Y3 hi;obtain ⟨p,hp⟩:=Wj hx hlen.symm;have h1:=hp;rw [hcs,Xl,XS] at h1;obtain ⟨y,hy,rfl⟩:=h1;have:x=y:=((hT i x _ hx hp).sh rfl).vOf;rw [hx,hy,this]
  . rw [Vm hi,Vm (by rw [<-hlen,hcs,Xc] at hi;exact hi)]
 subst hx
 refine ⟨(),fun x=>if x=l then (fun b=>F l b\/F l' b) else F x,?_⟩
 refine H.retell (fun x=>x=l\/x=l') (fun x y hnT hx=>?_) (fun x y b hTx hx hb'=>?_) (fun hmm x u q hTx hx=>?_) (fun x1 x2 y1 y2 b h1 h2 hne' hx1 hx2 hb1 hb2=>?_)
 . have n1:x≠l:=fun e=>hnT (.inl e);rw [Yz (Ne.symm n1)] at hx;exact ⟨(Wu hx).2,by simp [n1]⟩
 . rcases YC hx with ⟨rfl,_⟩|⟨n1,hx2⟩
   . simp only [if_true] at hb';rcases hb' with h1|h1
     . exact ⟨l,_, .inl rfl,hl,h1⟩
     . exact ⟨l',_, .inr rfl,hl',h1⟩
   . rcases hTx with e1|e1
     . exact Qd e1.symm n1
     . exact Qd e1.symm (Wu hx2).1
 . rcases YC hx with ⟨rfl,e1⟩|⟨n1,hx2⟩
   . cases e1;simp only [if_true];refine .own xs Gs hrow hlen'.symm (fun i v p h1 h2=>(hT' i v p h1 h2).anti hmm) hd' (fun i b hi h1 h2=>?_) (fun b=>?_)
     . exact H.dj l l' _ _ b hne hl hl' ((hF b).2 (.inl h2)) ((hF' b).2 ⟨i,hi,h1⟩)
     . have hnone:∀i,i<cs0.length->∀b,F l b->Fs i b->h.ownBlock=some b\/∃i,i<cs.length/\Gs i b:=fun i hi b _ hFs=>by
        obtain ⟨p,hp⟩:=Y3 hi;obtain ⟨x,hx9⟩:=Wj hp hlen;have h3:=hT i x p hx9 hp;rw [hcs,Xl,XS] at hp;obtain ⟨y,_,rfl⟩:=hp
        cases h3 with
        |shr _ hn=>exact (hn b hFs).elim
       constructor
       . rintro (h1|h1)
         . rcases (hF b).1 h1 with h2|⟨i,hi,h2⟩
           . exact .inl h2
           . exact hnone i hi b h1 h2
         . exact .inr ((hF' b).1 h1)
       . rintro (h1|h1)
         . exact .inl ((hF b).2 (.inl h1))
         . exact .inr ((hF' b).2 h1)
   . rcases hTx with e1|e1
     . exact Qd e1.symm n1
     . exact Qd e1.symm (Wu hx2).1
 . have key:∀x y,(x=l\/x=l')->lk (put l (h,PV.own e k n cs) (del l' hP)) x=some y->x=l:=fun x y h3 h4=>by
    rcases h3 with h3|h3
    . exact h3
    . rcases YC h4 with ⟨e1,_⟩|⟨_,e1⟩
      . exact e1.symm
      . exact Qd h3.symm (Wu e1).1
   exact hne' ((key _ _ h1 hx1).trans (key _ _ h2 hx2).symm)
theorem Zhz {l i:Nat} {Hs:List Value} {ps:List PV} {v:Value} {p:PV} (l':Nat) (hl:lk hP l=some (.agg Hs.toArray, .agg ps)) (hv:Hs[i]? =some v) (hp:ps[i]? =some p) (hl':lk hP l'=none):
 L8 (⟨sL,hP⟩:St) (fun _:Unit=>⟨sL,put l' (v,p) (put l (.agg Hs.toArray, .agg (ps.set i (.val v))) hP)⟩):=fun c a w ⟨F,H⟩=>by
 have hne:l'≠l:=fun e=>by subst e;rw [hl] at hl';cases hl'
 have hTr:=H.tr l _ _ hl
 obtain ⟨Fs,hlen,hT,hd,hF⟩:=hTr.fam
 have hj:=Zd hp
 refine ⟨(),fun x=>if x=l' then Fs i else if x=l then (fun b=>∃j,j<ps.length/\j≠i/\Fs j b) else F x,?_⟩
 refine H.retell (fun x=>x=l\/x=l') (fun x y hnT hx=>?_) (fun x y b hTx hx hb'=>?_) (fun hmm x u q hTx hx=>?_) (fun x1 x2 y1 y2 b h1 h2 hne' hx1 hx2 hb1 hb2=>?_)
 . have n1:x≠l:=fun e=>hnT (.inl e);have n2:x≠l':=fun e=>hnT (.inr e);rw [Yz (Ne.symm n2),Yz (Ne.symm n1)] at hx;exact ⟨hx,by simp [n1,n2]⟩
 . refine ⟨l,_, .inl rfl,hl,?_⟩;rcases hTx with rfl|rfl
   . simp only [Ne.symm hne,if_false,if_true] at hb';obtain ⟨j,hj',_,h1⟩:=hb';exact (hF b).2 ⟨j,hj',h1⟩
   . simp only [if_true] at hb';exact (hF b).2 ⟨i,hj,hb'⟩
 . rcases hTx with rfl|rfl
   . rw [Yz hne,Z4] at hx
     cases hx;simp only [Ne.symm hne,if_false,if_true];refine .agg Hs (fun j b=>if j=i then False else Fs j b) (by simpa using hlen) (fun j x q hx9 hq=>?_) (fun j j' b hi hi' hne' h1 h2=>?_) (fun b=>?_)
     . by_cases hij:j=i
       . subst hij;rw [XJ hj] at hq
         cases hq;rw [hv] at hx9;cases hx9;exact .shr (.val _) (fun b h=>by simp at h)
       . rw [X9 (Ne.symm hij)] at hq;simp only [hij,if_false];exact (hT j x q hx9 hq).anti hmm
     . simp only [Xn] at hi hi';split at h1
       . exact h1
       . split at h2
         . exact h2
         . exact hd j j' b hi hi' hne' h1 h2
     . simp only [Xn];constructor
       . rintro ⟨j,hj',hij,h1⟩;exact ⟨j,hj',by simp [hij,h1]⟩
       . rintro ⟨j,hj',h1⟩;split at h1
         . exact h1.elim
         . exact ⟨j,hj',by assumption,h1⟩
   . rw [Z4] at hx
     cases hx;simp only [if_true];exact (hT i _ _ hv hp).anti hmm
 . rcases h1 with rfl|rfl
   . rcases h2 with rfl|rfl
     . exact hne' rfl
     . simp only [Ne.symm hne,if_false,if_true] at hb1 hb2;obtain ⟨j,hj',hij,h3⟩:=hb1;exact hd j i b hj' hj hij h3 hb2
   . rcases h2 with rfl|rfl
     . simp only [Ne.symm hne,if_false,if_true] at hb1 hb2;obtain ⟨j,hj',hij,h3⟩:=hb2;exact hd j i b hj' hj hij h3 hb1
     . exact hne' rfl
theorem ZhA {l l' i:Nat} {Hs:List Value} {ps:List PV} {v:Value} {p:PV} (hl:lk hP l=some (.agg Hs.toArray, .agg ps)) (hv:Hs[i]? =some v) (hp:ps[i]? =some (.val v)) (hl':lk hP l'=some (v,p)) (hne0:Nat.beq l l'=false):
 L8 (⟨sL,hP⟩:St) (fun _:Unit=>⟨sL,put l (.agg Hs.toArray, .agg (ps.set i p)) (del l' hP)⟩):=fun c a w ⟨F,H⟩=>by
 have hne:l≠l':=fun e=>by subst e;simp at hne0
 have hTr:=H.tr l _ _ hl
 have hTr':=H.tr l' _ _ hl'
 obtain ⟨Fs,hlen,hT,hd,hF⟩:=hTr.fam
 have hj:=Zd hp
 have hFi:∀j b,j<ps.length->Fs j b->F l b:=fun j b hi hb'=>(hF b).2 ⟨j,hi,hb'⟩
 refine ⟨(),fun x=>if x=l then (fun b=>∃j,j<ps.length/\(if j=i then F l' b else Fs j b)) else F x,?_⟩
 refine H.retell (fun x=>x=l\/x=l') (fun x y hnT hx=>?_) (fun x y b hTx hx hb'=>?_) (fun hmm x u q hTx hx=>?_) (fun x1 x2 y1 y2 b h1 h2 hne' hx1 hx2 hb1 hb2=>?_)
 . have n1:x≠l:=fun e=>hnT (.inl e);rw [Yz (Ne.symm n1)] at hx;exact ⟨(Wu hx).2,by simp [n1]⟩
 . rcases YC hx with ⟨rfl,_⟩|⟨n1,hx2⟩
   . simp only [if_true] at hb';obtain ⟨j,hj',h1⟩:=hb';split at h1
     . exact ⟨l',_, .inr rfl,hl',h1⟩
     . exact ⟨l,_, .inl rfl,hl,hFi j b hj' h1⟩
   . rcases hTx with e1|e1
     . exact Qd e1.symm n1
     . exact Qd e1.symm (Wu hx2).1
 . rcases YC hx with ⟨rfl,e1⟩|⟨n1,hx2⟩
   . cases e1;simp only [if_true];refine .agg Hs (fun j b=>if j=i then F l' b else Fs j b) (by simpa using hlen) (fun j x q hx9 hq=>?_) (fun j j' b hi hi' hne' h1 h2=>?_) (fun b=>by simp only [Xn])
     . by_cases hij:j=i
       . subst hij;rw [XJ hj] at hq
         cases hq;rw [hv] at hx9;cases hx9;simp only [if_true];exact hTr'.anti hmm
       . rw [X9 (Ne.symm hij)] at hq;simp only [hij,if_false];exact (hT j x q hx9 hq).anti hmm
     . simp only [Xn] at hi hi';split at h1
       . split at h2
         . omega
         . exact H.dj l l' _ _ b hne hl hl' (hFi j' b hi' h2) h1
       . split at h2
         . exact H.dj l l' _ _ b hne hl hl' (hFi j b hi h1) h2
         . exact hd j j' b hi hi' hne' h1 h2
   . rcases hTx with e1|e1
     . exact Qd e1.symm n1
     . exact Qd e1.symm (Wu hx2).1
 . have key:∀x y,(x=l\/x=l')->lk (put l (Value.agg Hs.toArray,PV.agg (ps.set i p)) (del l' hP)) x=some y->x=l:=fun x y h3 h4=>by
    rcases h3 with h3|h3
    . exact h3
    . rcases YC h4 with ⟨e1,_⟩|⟨_,e1⟩
      . exact e1.symm
      . exact Qd h3.symm (Wu e1).1
   exact hne' ((key _ _ h1 hx1).trans (key _ _ h2 hx2).symm)
theorem ZlU {M:BS} {w:World} {Hs:List Value} {ps:List PV} {F:BS} {i:Nat} {v:Value} {p:PV} (h:Tr M w (.agg Hs.toArray) (.agg ps) F) (hv:Hs[i]? =some v) (hp:ps[i]? =some p):∃G,Tr M w v p G/\∀b,G b->F b:=by
 obtain ⟨Fs,hlen,hT,hd,hF⟩:=h.fam
 exact ⟨Fs i,hT i v p hv hp,fun b hb=>(hF b).2 ⟨i,Zd hp,hb⟩⟩
theorem Sy {t e k e' k' n i:Nat} {x y:Operand} {h:Value} {p q:PV} {Hs:List Value} {ps cs:List PV} {kd:IntKind} {j:Nat} (l:Nat) (hT:SlT P t e k=true) (ho:o.op= .indexAddr t x y:=by exact rfl) (hx:ev st.slots x=some (h,p):=by exact rfl) (hy:ev st.slots y=some (.int kd (j:Int),q):=by exact rfl) (hl:lk st.heap l=some (.agg Hs.toArray, .agg ps):=by exact rfl) (hH:Hs[i]? =some h:=by assumption) (hps:ps[i]? =some (.own e' k' n cs):=by assumption) (h1:j<n:=by first|omega|assumption):
 YE P st o (· =padd (sbase h) (j*k)) (.val (padd (sbase h) (j*k))):=
 .exact fun M F a w H=>by
  have hv:=(H.ev hx).1;have hi:=(H.ev hy).1;obtain ⟨G,hG,_⟩:=ZlU (H.tr l _ _ hl) hH hps;obtain ⟨g,cap,rfl,_⟩:=Gy hG oM;refine ⟨.val _,?_⟩;have:=S3 (P:=P) hT (b:=g) (off:=0) (n:=n) (c:=cap) (kd:=kd) (i:=(j:Int)) oM oM w;simp [execOp,ho,hv,hi,this,sbase,padd]
theorem Zbr {t e k n i j:Nat} {x:Operand} {h:Value} {q:PV} {Hs:List Value} {ps cs:List PV} {p:PV} (l:Nat) (hT:NoAgg P t=true) (ho:o.op= .load t x:=by exact rfl) (hx:ev st.slots x=some (padd (sbase h) j,q):=by exact rfl) (hl:lk st.heap l=some (.agg Hs.toArray, .agg ps):=by exact rfl) (hH:Hs[i]? =some h:=by assumption) (hps:ps[i]? =some (.own e k n cs):=by assumption) (hp:cs[j]? =some p:=by assumption) (hsh:isSh p=true:=by exact rfl):
 YE P st o (vOf p) p:=fun M F a w H=>by
 have hv:=(H.ev hx).1
 obtain ⟨G,hG,hGF⟩:=ZlU (H.tr l _ _ hl) hH hps
 obtain ⟨xs,Fs,hrow,hlen,hTr,hd,hb,hF'⟩:=hG.row
 have hj:=Zd hp
 rcases Kq hrow with ⟨_,_,rfl⟩|⟨g,cap,rfl,h1,h2,h3⟩
 . simp at hlen;rw [hlen] at hj;simp at hj
 obtain ⟨y,hy⟩:=Wj hp hlen
 have hS:=(hTr j y p hy hp).sh hsh
 refine ⟨y,hS.vOf,hS,fun N W hch hN hF=>?_⟩
 have:=Pd hch (hF l _ g hl (hGF g ((hF' g).2 (.inl rfl)))) (Jt hrow hy)
 simp only [sbase,padd,XA] at hv
 simp [execOp,ho,hv,Instr.loadAt,Instr.sureAddr,loadVar,NoAgg.run hT,load,Sem.run,this]
theorem Kp {x:Operand} {v:Value} {j:Nat} {cs:List PV} (ho:o.op= .nilCheck x:=by exact rfl) (hx:ev st.slots x=some (v, .sptr j cs):=by exact rfl):YE P st o (· =v) (.sptr j cs):=
 .exact fun M F a w H=>by
  obtain ⟨hv,hs⟩:=H.ev hx
  cases hs with
  |sptr b off j cs vs hcell hT'=>exact ⟨.sptr b off j cs vs hcell hT',by simp [execOp,ho,hv]⟩
theorem Rs {x:Operand} {h:Value} {q:PV} {j e k n:Nat} {cs:List PV} (l:Nat) (ho:o.op= .nilCheck x:=by exact rfl) (hx:ev st.slots x=some (padd (sbase h) j,q):=by exact rfl) (hl:lk st.heap l=some (h, .own e k n cs):=by exact rfl) (hn:0<n:=by first|omega|decide):YE P st o (· =padd (sbase h) j) (.val (padd (sbase h) j)):=
 .exact fun M F a w H=>by
  have hv:=(H.ev hx).1;obtain ⟨g,cap,rfl,_⟩:=Gy (H.tr l _ _ hl) hn;refine ⟨.val _,?_⟩;simp only [sbase,padd] at hv ⊢;simp [execOp,ho,hv]
theorem S7 {l t j e k n:Nat} {h:Value} {cs:List PV} {q:PV} (hl:lk hP l=some (h, .own e k n cs)) (hn:0<n) (ht:lk sL t=some (padd (sbase h) j,q)):L8 (⟨sL,hP⟩:St) (fun _:Unit=>⟨put t (padd (sbase h) j, .sptr j (Wk cs)) sL,del l hP⟩):=fun c a w ⟨F,H⟩=>by
 refine ⟨(),F,?_⟩
 have hm:∀b,mof c (del l hP) F b->mof c hP F b:=by
  rintro b (h|⟨l',x,h1,h2⟩)
  . exact .inl h
  . exact .inr ⟨l',x,(Wu h1).2,h2⟩
 have H1:HoldsF c ⟨sL,del l hP⟩ F a w:=H.less (fun _ _ h=>h) (fun _ _ h=>(Wu h).2)
 refine ⟨H1.toHeapF,fun s u r hs=>?_,H.size,H.df⟩
 rcases YC hs with ⟨rfl,e1⟩|⟨_,hs'⟩
 . cases e1;refine ⟨(H.sl t _ _ ht).1,?_⟩;obtain ⟨g,cap,rfl,_⟩:=Gy (H.tr l _ _ hl) hn;have h2:=(H.tr l _ _ hl).share (M':=mof c (del l hP) F) (fun b _ h=>hm b h) fun b hb hmb=>by
    rcases hmb with h1|⟨l',x,h1,h2⟩
    . exact H.apart h1 hl hb
    . exact H.dj l l' _ _ b (Wu h1).1 hl (Wu h1).2 hb h2
   rw [share] at h2;generalize Wk cs=cs' at h2 ⊢
   cases h2 with
   |emp=>omega
   |sl _ _ _ _ _ vs _ _ hcell hT=>exact .sptr g 0 j cs' vs hcell hT
 . exact H1.sl s u r hs'
theorem ζi {l e k n g cap b off nn cc:Nat} {h:Value} {y:Operand} {cs2:List PV} {a:Act} (hh:h= .slice (some ⟨g,0,none⟩) n cap) (hy:ev sL y=some (.slice (some ⟨b,off,none⟩) nn cc, .sl nn cs2)) (hone:cs2.all one=true) (vs:List Value) (hvl:vs.length=cs2.length):
 ∀ (m i:Nat) (cs:List PV) (w:World) (F:Nat->BS) (hp:List (Nat×Ent)),HoldsF c ⟨sL,hp⟩ F a w->lk hp l=some (h, .own e k n cs)->i+m=cs2.length->i+m<=cs.length->(∀(j:Nat) (v:Value),vs[j]? =some v->w.cell? ⟨b,off+j,none⟩=some v)->
  ∃w' F' hp',(storeCells ⟨g,0,none⟩ (vs.drop i) i).run P w= .ok () w'/\HoldsF c ⟨sL,hp'⟩ F' a w'/\lk hp' l=some (h, .own e k n (TB cs i (cs2.drop i)))/\∀l',l'≠l->lk hp' l'=lk hp l'
 | 0,i,cs,w,F,hp,H,hl,hi,hj,hcl=>by
   refine ⟨w,F,hp,?_,H,?_,fun _ _=>rfl⟩
   . rw [XN oM];rfl
   . rw [XN (by omega:cs2.length<=i)];exact hl
 | m + 1,i,cs,w,F,hp,H,hl,hi,hj,hcl=>by
   obtain ⟨_,hS⟩:=H.rd.ev hy;have hi':i<cs2.length:=oM;obtain ⟨p,hp'⟩:=Y3 hi';obtain ⟨v,hv⟩:=Wj hp' hvl.symm;have hTr:=H.tr l _ _ hl;obtain ⟨xs,Fs,hrow,hlen,_,_,_,hFF⟩:=hTr.row;have hgM:mof c hp F g:= .inr ⟨l,_,hl,(hFF g).2 (.inl (by subst hh;rfl))⟩;have hSv:Shr (mof c hp F) w v p/\b≠g:=by
    generalize hu:Value.slice (some ⟨b,off,none⟩) nn cc=u at hS
    cases hS with
    |emp=>simp at hi'
    | sl b' off' n' c' cs' vs' hn hc hcell hT=>
      cases hu;have h1:=(hcell i hi').1;rw [hcl i v hv] at h1
      cases h1;exact ⟨hT i p hp',fun e=>(hcell i hi').2 (e▸hgM)⟩
   have h1:one p=true:=Xj.1 hone p (Xb hp');obtain ⟨F1,H1⟩:=OK H hl hh (show i<cs.length by omega) hSv.1;obtain ⟨w',F',hp2,hr,H2,hl2,hsame⟩:=ζi hh hy hone vs hvl m (i+1) (cs.set i p) _ F1 _ H1 (Z4 _ _ _) oM (by simp;omega) (fun j u hu=>Pd (Chg.setCell w ⟨g,i,none⟩ v) hSv.2 (hcl j u hu));refine ⟨w',F',hp2,?_,H2,?_,fun l' hne=>by rw [hsame l' hne,Yz (Ne.symm hne)]⟩
   . subst hh;obtain ⟨z,hz⟩:=Y3 (show i<xs.length by omega);have hcell:=Jt hrow hz;have hfr:=hrow.frozenAt i;rw [Vi (Zd hv),show vs[i]'(Zd hv)=v from (Xk.1 hv).2,storeCells];simp only [Sem.run_bind,run_store _ _ _ _ _ (hSv.1.one h1),Kg,XA,hcell,hfr,VE,if_false,Result.andThen_ok];exact hr
   . rw [hl2,Vi hi',show cs2[i]'hi'=p from (Xk.1 hp').2,TB]
theorem ZdO:∀(ps pre suf:List PV),suf.length=ps.length->TB (pre++suf) pre.length ps=pre++ps
 | [],pre,suf,h=>by
   have:suf=[]:=Xv h;subst this;rfl
 |p::ps,pre,[],h=>by simp at h
 | p::ps,pre,q::suf,h=>by
   rw [TB];have h1:(pre++q::suf).set pre.length p=(pre++[p])++suf:=sM;rw [h1,show pre.length+1=(pre++[p]).length by simp,ZdO ps (pre++[p]) suf (by simpa using h)];simp
theorem ld0 (P:Program) (a:Addr) (w:World):(loadCells a 0).run P w= .ok #[] w:=run_loadCells_list (P:=P) (w:=w) a [] (fun j v h=>by simp at h)
theorem ZqQ {t e e' n:Nat} {x y:Operand} {h v:Value} {q:PV} {cs cs2:List PV} (l d:Nat) (hT:SlT P t e 1=true) (k:aL P c ops Q rest ⟨put d (.int .i64 n, .val (.int .i64 n)) sL,put l (h, .own e' 1 n cs2) hP⟩)
 (hlen:cs2.length=n) (hone:cs2.all one=true) (hw:Yf ops sL o=some true:=by exact rfl) (hd:o.dst=some d:=by exact rfl) (hn:d<c.nt:=by exact Xa rfl) (ho:o.op= .call {callee:= .builtin .copy,args:= #[x,y],argTypes:= #[t,t]}:=by exact rfl)
 (hx:ev sL x=some (h,q):=by exact rfl) (hy:ev sL y=some (v, .sl n cs2):=by exact rfl) (hl:lk hP l=some (h, .own e' 1 n cs):=by exact rfl):aL P c ops Q (o::rest) (⟨sL,hP⟩:St):=
 WY hw fun a w F H=>by
  have hxv:=(H.rd.ev hx).1;obtain ⟨hyv,hS⟩:=H.rd.ev hy;have hTr:=H.tr l _ _ hl;obtain ⟨xs,Fs,hrow,hlen1,_⟩:=hTr.row;have hcsl:cs.length=n:=by rw [hlen1,hrow.1,XI]
  have fin:∀F' hp' w',HoldsF c ⟨sL,hp'⟩ F' a w'->lk hp' l=some (h, .own e' 1 n cs2)->(∀l',l'≠l->lk hp' l'=lk hP l')->Holds c ⟨put d (.int .i64 n, .val (.int .i64 n)) sL,put l (h, .own e' 1 n cs2) hP⟩ (a.put (some d) (.int .i64 n)) w':=fun F' hp' w' H' hl' hsame=>by
   have H2:HoldsF c ⟨sL,put l (h, .own e' 1 n cs2) hP⟩ F' a w':=H'.less (fun _ _ h=>h) fun t x hx=>?_
   . exact ⟨F',H2.put hn (.val _)⟩
   rcases YC hx with ⟨rfl,rfl⟩|⟨hne,e1⟩
   . exact hl'
   . show lk hp' t=_;rw [hsame t (Ne.symm hne)];exact e1
  rcases Kq hrow with ⟨rfl,rfl,rfl⟩|⟨g,cap,rfl,h1,h2,h3⟩
  . have hc2:cs2=[]:=Xv hlen;subst hc2;have hc:cs=[]:=Xv hcsl;subst hc;have hrun:(execOp a.eval o).run P w= .ok (.value (.int .i64 0)) w:=by
     have hfc:∀s,(Builtin.firstCells s 0 v).run P w= .ok #[] w/\(Builtin.lenOf v).run P w= .ok 0 w:=fun s=>by
      cases hS with
      |emp a' c'=>cases a'<;>simp [Builtin.firstCells,Builtin.lenOf,ld0]
      |sl b off n' c' cs' vs'=>simp [Builtin.firstCells,Builtin.lenOf,ld0]
     simp [execOp,ho,hxv,hyv,resolve,invoke,builtin,Builtin.copy_,run_underlying (SlT.und hT),SlT.size hT,(hfc _).1,(hfc 0).2,goInt]
    unfold Oper.wp;rw [hrun];simp only [Oper.upon,hd];exact k _ _ (fin F hP w H hl (fun _ _=>rfl))
  . rcases VY n with h0|h0
    . subst h0;have hc2:cs2=[]:=Xv hlen;subst hc2;have hc:cs=[]:=Xv hcsl;subst hc;have hrun:(execOp a.eval o).run P w= .ok (.value (.int .i64 0)) w:=by
       have hfc:∀s,(Builtin.firstCells s 0 v).run P w= .ok #[] w/\(Builtin.lenOf v).run P w= .ok 0 w:=fun s=>by
        cases hS with
        |emp a' c'=>cases a'<;>simp [Builtin.firstCells,Builtin.lenOf,ld0]
        |sl b off n' c' cs' vs'=>simp [Builtin.firstCells,Builtin.lenOf,ld0]
       simp [execOp,ho,hxv,hyv,resolve,invoke,builtin,Builtin.copy_,run_underlying (SlT.und hT),SlT.size hT,(hfc _).1,(hfc 0).2,goInt,storeCells]
      unfold Oper.wp;rw [hrun];simp only [Oper.upon,hd];exact k _ _ (fin F hP w H hl (fun _ _=>rfl))
    . generalize hvv:v=v0 at hS
      cases hS with
      |emp=>omega
      | sl b off n' cc cs' vs hn' hc' hcell hT'=>
        subst hvv;have hcl:∀(j:Nat) (u:Value),((List.range n).map vs)[j]? =some u->w.cell? ⟨b,off+j,none⟩=some u:=fun j u hu=>by
         (have hj:j<n:=by have:=Zd hu;simpa using this);simp [hj] at hu;subst hu;exact (hcell j oM).1
        have hld:=run_loadCells_list (P:=P) (w:=w) ⟨b,off,none⟩ ((List.range n).map vs) (fun j u hu=>by rw [Kg];exact hcl j u hu);rw [Xc,VN] at hld;obtain ⟨w',F',hp',hr,H',hl',hsame⟩:=ζi (P:=P) (c:=c) (a:=a) rfl hy hone ((List.range n).map vs) (by simp [hlen]) n 0 cs w F hP H hl oM oM hcl;have hset:TB cs 0 cs2=cs2:=by
         have:=ZdO cs2 [] cs oM;simpa using this
        rw [Vc,hset] at hl';rw [Vc] at hr;have hrun:(execOp a.eval o).run P w= .ok (.value (.int .i64 n)) w':=by
         simp [execOp,ho,hxv,hyv,resolve,invoke,builtin,Builtin.copy_,Builtin.lenOf,Builtin.firstCells,run_underlying (SlT.und hT),SlT.size hT,hld,hr,goInt]
        unfold Oper.wp;rw [hrun];simp only [Oper.upon,hd];exact k _ _ (fin F' hp' w' H' hl' hsame)
theorem ZdP {α:Type}:∀h:List (Nat×α),∃m,∀t,m<=t->lk h t=none
 |[]=>⟨0,fun _ _=>rfl⟩
 | (k,x)::h=>by
   obtain ⟨m,hm⟩:=ZdP h;refine ⟨m+k+1,fun t ht=>?_⟩;have:Nat.beq k t=false:=by
    cases h3:Nat.beq k t
    . rfl
    . have:=X0 h3;omega
   simp only [lk,this,cond_false];exact hm t oM
theorem ZoI {l:List Oper} {st':St} (h:aL P c ops Q l st') (hsub:∀F a w,HoldsF c (⟨sL,hP⟩:St) F a w->HoldsF c st' F a w):aL P c ops Q l (⟨sL,hP⟩:St):=fun a w ⟨F,H⟩=>h a w ⟨F,hsub F a w H⟩
theorem ZdQ {t j e kk n i:Nat} {x y:Operand} {h v:Value} {q p:PV} {Hs:List Value} {ps cs:List PV} (l:Nat) (hT:NoAgg P t=true) (hsz:(P.info? t).map (·.size)=some 1) (k:aL P c ops Q rest ⟨sL,put l (.agg Hs.toArray, .agg (ps.set i (.own e kk n (cs.set j p)))) hP⟩)
 (hw:Yf ops sL o=some true:=by exact rfl) (hd:o.dst=none:=by exact rfl) (ho:o.op= .store t x y:=by exact rfl) (hx:ev sL x=some (padd (sbase h) j,q):=by exact rfl) (hy:ev sL y=some (v,p):=by exact rfl) (h1:one p=true:=by first|exact rfl|assumption)
 (hl:lk hP l=some (.agg Hs.toArray, .agg ps):=by exact rfl) (hH:Hs[i]? =some h:=by assumption) (hps:ps[i]? =some (.own e kk n cs):=by assumption) (hj:j<cs.length:=by first|omega|assumption):aL P c ops Q (o::rest) (⟨sL,hP⟩:St):=by
 obtain ⟨m,hm⟩:=ZdP hP
 have hne:l≠m:=fun e=>by have:=hm m (Xd m);rw [<-e,hl] at this;cases this
 have hb:Nat.beq l m=false:=by
  cases h3:Nat.beq l m
  . rfl
  . exact Qd (X0 h3) hne
 refine Zz (Zhz m hl hH hps (hm m (Xd m))) fun _=>?_
 refine Zf2 m hw hd hT hsz ho hx hy h1 (Z4 _ _ _) hj ?_
 have hi:=Zd hps
 refine Zz (ZhA (l:=l) (l':=m) (i:=i) (v:=h) (ps:=ps.set i (.val h)) (by rw [Yz (Ne.symm hne),Yz (Ne.symm hne),Z4]) hH (by rw [XJ hi]) (Z4 _ _ _) hb) fun _=>?_
 rw [X4]
 refine ZoI k fun F a w H=>H.less (fun _ _ h=>h) fun s z hz=>?_
 rcases YC hz with ⟨rfl,rfl⟩|⟨hn,hz⟩
 . exact Z4 _ _ _
 . have hsm:m≠s:=fun e=>by have:=hm m (Xd m);rw [e,hz] at this;cases this
   show lk (put l _ (del m (put m _ (put m _ (put l _ hP))))) s=some z;rw [Yz hn,Ry hsm,Yz hsm,Yz hsm,Yz hn];exact hz
theorem cB {dd:Prop} {f:Nat} {xs:Array Operand} {ats:Array TypeId} {ps:List PV} {R:PV->Prop} (ho:o.op= .call {callee:= .value (.func f),args:=xs,argTypes:=ats}) (hc:∀args w,(callFunc f args).run P w= .ok (.enter f args) w) (hA:AFd dd P f ps R) (hx:Zoz (⟨sL,hP⟩:St) xs.toList ps) (hR:∀p,R p->nosh p=true:=by rintro p rfl;exact rfl) (hdd:c.dr->dd:=by first|exact id|exact fun h=>h.elim|exact fun _=>trivial):LB P c (⟨sL,hP⟩:St) o R:=ZlB ho hc hx hA hR hdd
theorem Yo {i d:Nat} {p:PV} (ho:ops[i]? =some o) (hC:LB P c (⟨sL,hP⟩:St) o (· =p)) (k:∀v,vOf p v->aD P c ops Q Z K fuel (listed.setIfInBounds i true) ⟨put d (v,p) sL,hP⟩) (hsh:shD p=true:=by exact rfl) (hw:Yf ops sL o=some true:=by exact rfl) (hd:o.dst=some d:=by exact rfl) (hn:d<c.nt:=by exact Xa rfl):aW P c ops Q Z K fuel listed (⟨sL,hP⟩:St) i:=fun a w F H C hC'=>by
 refine Gx (Q':=fun _ a' w'=>(Z i=true\/C w')/\wpAnyS P .any ops Q C Z fuel (listed.setIfInBounds i true) a' w') ho (fun a' w' hq=>hq) ?_
 have h1:=Lg H.rd hw
 unfold wpList
 rw [h1,Qc rfl]
 refine .inl ?_
 obtain ⟨f,args,hr,hcall⟩:=hC a w F H
 unfold Oper.wp
 rw [hr,Oper.upon_enter]
 refine hcall.mono fun e w' ⟨v,q,Fr,e1,e2,e3,e4,e5,e6⟩=>?_
 subst e1
 rw [show q=p from e2] at e4
 have hS:=e4.shD hsh
 have H2:HoldsF c ⟨put d (v,p) sL,hP⟩ F (a.put (some d) v) w':=Du H e3 hn (hS.anti fun b _ h=> .inl h)
 simp only [Oper.upon,hd]
 have hch:Chg (nK K hP F) w w':=e3.chg
 exact ⟨.inr (hC' w' hch),k v hS.vOf _ w' F H2 C fun W hW=>hC' W (hch.tr hW fun b hb=> .inl hb)⟩
theorem cD {p:PV} {d:Nat} (hC:LB P c (⟨sL,hP⟩:St) o (· =p)) (k:∀v,vOf p v->aL P c ops Q rest ⟨put d (v,p) sL,hP⟩) (hsh:shD p=true:=by exact rfl) (hw:Yf ops sL o=some true:=by exact rfl) (hd:o.dst=some d:=by exact rfl) (hn:d<c.nt:=by exact Xa rfl):aL P c ops Q (o::rest) (⟨sL,hP⟩:St):=
 Ss hw hC fun a w F w' v p' Fr H hR hx hT hlo hdw=>by
  rw [show p'=p from hR] at hT;have hS:=hT.shD hsh;rw [hd];exact k v hS.vOf _ _ ⟨F,Du H hx hn (hS.anti fun b _ h=> .inl h)⟩
theorem cP {p1 p2:PV} (d:Nat) (hC:LB P c (⟨sL,hP⟩:St) o (· = .tup [p1,p2])) (k:∀v1 v2,vOf p1 v1->vOf p2 v2->aL P c ops Q rest ⟨put d (.tuple [v1,v2].toArray, .tup [p1,p2]) sL,hP⟩) (hsh:shD (.tup [p1,p2])=true:=by exact rfl) (hw:Yf ops sL o=some true:=by exact rfl) (hd:o.dst=some d:=by exact rfl) (hn:d<c.nt:=by exact Xa rfl):aL P c ops Q (o::rest) (⟨sL,hP⟩:St):=
 Ss hw hC fun a w F w' v p' Fr H hR hx hT hlo hdw=>by
  rw [show p'= .tup [p1,p2] from hR] at hT;have hS:=hT.shD hsh;rw [hd];have hS':Shr (mof c hP F) w' v (.tup [p1,p2]):=hS.anti fun b _ h=> .inl h
  cases hS with
  | tup vs ps hl h=>
    match vs,hl,h,hS' with
    |[v1,v2],_,h,hS'=>exact k v1 v2 (h 0 v1 p1 rfl rfl).vOf (h 1 v2 p2 rfl rfl).vOf _ _ ⟨F,Du H hx hn hS'⟩
theorem ZlV (i j k:Nat) (hr:Region.ready .any ops listed=[i,j,k]) (h:aW P c ops Q Z K fuel listed (⟨sL,hP⟩:St) i) (h':aW P c ops Q Z K fuel listed (⟨sL,hP⟩:St) j) (h'':aW P c ops Q Z K fuel listed (⟨sL,hP⟩:St) k):aD P c ops Q Z K (fuel+1) listed (⟨sL,hP⟩:St):=fun a w F H C hC=>
 ⟨(fun hn=>by rw [hr] at hn;cases hn),fun m hm=>by
   rw [hr] at hm;rcases (by simpa using hm:m=i\/m=j\/m=k) with rfl|rfl|rfl
   . exact h a w F H C hC
   . exact h' a w F H C hC
   . exact h'' a w F H C hC⟩
theorem YF {ι:Type} {S:ι->St} (i:ι) (hs:Sub (S i).slots sL) (hh:Sub (S i).heap hP):aN c (Exit.then (fun a w=>∃i,Holds c (S i) a w) Q) (⟨sL,hP⟩:St):=H7 i hs hh
end
theorem Zse (a b:Nat):Nat.beq a b=(a==b):=by
 cases h:Nat.beq a b
 . exact (beq_eq_false_iff_ne.2 (fun e=>by rw [e] at h;simp at h)).symm
 . exact (beq_iff_eq.2 (X0 h)).symm
section
variable {P:Program} {c:Ctx} {sL hP:List (Nat×Ent)}
theorem ZdR {F:Nat->BS} {a:Act} {w:World} (H:HoldsF c (⟨sL,hP⟩:St) F a w) {t ty k l e k' n:Nat} {h:Value} {q:PV} {cs:List PV} (hT:AggT P ty k=true) (ht:lk sL t=some (padd (sbase h) 0,q)) (hl:lk hP l=some (h, .own e k' n cs)) (hp:k<=cs.length) (hk:0<k) (hsh:(cs.take k).all isSh=true):
 ∃V A,(asAddr (a.tmps.getD t undef)).run P w= .ok A w/\(loadVar ty A).run P w= .ok V w/\Shr (mof c hP F) w V (.agg (cs.take k)):=by
 have hv:=(H.sl t _ _ ht).1
 obtain ⟨xs,Fs,hrow,hlen,hTr,hd,hb,hF'⟩:=(H.tr l _ _ hl).row
 rcases Kq hrow with ⟨_,_,rfl⟩|⟨g,cap,rfl,h1,h2,h3⟩
 . simp at hlen;rw [hlen] at hp;simp at hp;omega
 refine ⟨.agg (xs.take k).toArray,⟨g,0,none⟩,?_,?_, .agg _ _ (by simp;omega) (fun i u p hu hp'=>?_)⟩
 . simp only [sbase,padd,XA] at hv;simp [VL,hv,asAddr]
 . have hcl:∀i u,(xs.take k)[i]? =some u->w.cell? ((⟨g,0,none⟩:Addr).add i)=some u:=fun i u hu=>by
    (have hi:i<k:=by have:=Zd hu;simp at this;omega);rw [X1 hi] at hu;rw [Kg,XA];exact Jt hrow hu
   have:=run_loadCells_list (P:=P) (w:=w) ⟨g,0,none⟩ _ hcl;rw [show (xs.take k).length=k by simp;omega] at this;simp [loadVar,AggT.run hT,AggT.size hT,this]
 . have hi:i<k:=by have:=Zd hu;simp at this;omega
   have hps:=Xj.1 hsh p (Xb hp');rw [X1 hi] at hp' hu;exact (hTr _ u p hu hp').sh hps
theorem YQ {fn:Func} {R:PV->Prop} {t ty k e k' n:Nat} {h:Value} {q:PV} {cs:List PV} (l:Nat) (hT:AggT P ty k=true) (hr:fn.results= #[.cell t ty]) (ht:lk sL t=some (padd (sbase h) 0,q)) (hl:lk hP l=some (h, .own e k' n cs)) (hp:k<=cs.length) (hk:0<k) (hsh:(cs.take k).all isSh=true) (hR:R (.agg (cs.take k))) (hN:∀b,¬c.N0 b:=by intro _ h;exact h) (hdf:c.df=[]:=by exact rfl):aR c (bodyPost P fn (LA c R)) (⟨sL,hP⟩:St):=fun a w ⟨F,H⟩=>by
 obtain ⟨V,A,h0,h1,h2⟩:=ZdR H hT ht hl hp hk hsh
 refine ⟨H.df.trans hdf,V,?_,V,_,fun _=>False,rfl,hR,H.ext.ext (fun b _=>hN b), .shr (h2.anti fun b _ hb=>?_) (fun _ h=>h),fun _ h=>h.elim,H.dw⟩
 . simp only [results,hr];simp at h0;simp [h0,h1]
 . rcases hb with hb|hb
   . exact .inl hb
   . exact hb.elim
theorem Yb {fn:Func} {R:PV->Prop} {t ty s k e k' n:Nat} {h u:Value} {q p:PV} {cs:List PV} (l:Nat) (hT:AggT P ty k=true) (hr:fn.results= #[.cell t ty, .tmp s]) (ht:lk sL t=some (padd (sbase h) 0,q)) (hl:lk hP l=some (h, .own e k' n cs)) (hs:lk sL s=some (u,p)) (hp:k<=cs.length) (hk:0<k) (hsh:(cs.take k).all isSh=true) (hR:R (.tup [.agg (cs.take k),p])) (hN:∀b,¬c.N0 b:=by intro _ h;exact h) (hdf:c.df=[]:=by exact rfl):aR c (bodyPost P fn (LA c R)) (⟨sL,hP⟩:St):=fun a w ⟨F,H⟩=>by
 obtain ⟨V,A,h0,h1,h2⟩:=ZdR H hT ht hl hp hk hsh
 obtain ⟨h3,h4⟩:=H.sl s _ _ hs
 have hM:∀b,b<w.heap.size->(c.M0 b\/False)->mof c hP F b:=fun b _ hb=>by
  rcases hb with hb|hb
  . exact .inl hb
  . exact hb.elim
 refine ⟨H.df.trans hdf, .tuple #[V,u],?_, .tuple #[V,u],_,fun _=>False,rfl,hR,H.ext.ext (fun b _=>hN b), .shr (.tup [V,u] _ rfl fun i v q' hv hq'=>?_) (fun _ h=>h),fun _ h=>h.elim,H.dw⟩
 . simp only [results,hr];simp at h0;simp [h0,h1,VL,h3]
 . match i with
   |0=>simp at hv hq';subst hv hq';exact h2.anti hM
   |1=>simp at hv hq';subst hv hq';exact h4.anti hM
   |i+2=>simp at hv
end
theorem aWr {P:Program} {c:Ctx} {ops:Array Oper} {Q:Exit->Act->World->Prop} {Z:Nat->Bool} {K:List Nat} {fuel:Nat} {listed:Array Bool} {sL hP:List (Nat×Ent)} {o:Oper} {i:Nat}
 (h:∀{w':World} {M' N':BS} {DQ:Exit->Act->World->Prop},(∀st':St,aD P c ops Q Z K fuel (listed.setIfInBounds i true) ⟨st'.slots,st'.heap++Gb K hP⟩->aN ⟨w',M',N',c.nt,c.dr,c.df⟩ DQ st')->aL P ⟨w',M',N',c.nt,c.dr,c.df⟩ ops DQ [o] ⟨sL,LI K hP⟩) (ho:ops[i]? =some o:=by exact rfl):aW P c ops Q Z K fuel listed (⟨sL,hP⟩:St) i:=ZlO ho fun _ _ _ _=>h
theorem aDr {P:Program} {c:Ctx} {ops:Array Oper} {Q:Exit->Act->World->Prop} {Z:Nat->Bool} {K:List Nat} {fuel:Nat} {listed:Array Bool} {sL hP:List (Nat×Ent)} {o:Oper} (i:Nat)
 (h:∀{w':World} {M' N':BS} {DQ:Exit->Act->World->Prop},(∀st':St,aD P c ops Q Z K fuel (listed.setIfInBounds i true) ⟨st'.slots,st'.heap++Gb K hP⟩->aN ⟨w',M',N',c.nt,c.dr,c.df⟩ DQ st')->aL P ⟨w',M',N',c.nt,c.dr,c.df⟩ ops DQ [o] ⟨sL,LI K hP⟩) (ho:ops[i]? =some o:=by exact rfl) (hr:Region.ready .any ops listed=[i]:=by kernel_rfl):aD P c ops Q Z K (fuel+1) listed (⟨sL,hP⟩:St):=ZY i hr (ZlO ho fun _ _ _ _=>h)
theorem bE {P:Program} {c:Ctx} {ops:Array Oper} {Q:Exit->Act->World->Prop} {st:St} {X:St->Prop} {B:Prop} (b:∀s,X s->aN c Q s) (h:B) (e:B->X st:=by intro h;(try simp only [LI,Gb,put,del,Zse,List.elem,Vd,XX,Nat.reduceBEq,cond_true,cond_false]);exact h):aL P c ops Q [] st:=WA (b _ (e h))
end Go.En
namespace Go.Proofs.YtmkojdfiadbeeaaGreat
open Go.RowKit Go.Cb Go.En Tryz
theorem ZB:NoAgg prog 9=true:=kR
theorem Zm:SlT prog 26 9 1=true:=kR
abbrev pU8 (n:Int):PV:= .val (.int .u8 n)
theorem RF {a b:Bool} (h:a=true↔b=true):Zr a=Zr b:=by rw [VG.2 h]
theorem Zjj {s:BA} {i:Nat} {x:UInt8} (h:s.data[i]? =some x):i<s.size:=by
 rcases XL i s.size with h1|h1
 . exact h1
 . rw [VA h1] at h;cases h
theorem CO {s:BA} {i:Nat} (h:i<s.size):∃y,s.data[i]? =some y:=⟨s.data[i]'h,Array.getElem?_eq_getElem h⟩
theorem Pk {s:BA} (h:s.size<1\/40<s.size):isName s=false:=by
 unfold isName
 rcases h with h|h
 . rw [Qa (show ¬1<=s.size by omega)];simp
 . rw [Qa (show ¬s.size<=40 by omega)];simp
theorem ζj {s:BA} {y:UInt8} (h0:s.data[0]? =some y) (h:T3 y.toNat=false):isName s=false:=by
 unfold isName;rw [h0,Uf,h];simp
theorem ζk {s:BA} {k:Nat} {y:UInt8} (hy:s.data[k]? =some y) (h:P5 y.toNat=false):isName s=false:=by
 unfold isName
 rw [Bool.and_eq_false_iff];right
 rw [V6]
 exact ⟨y,Array.mem_toList_iff.2 (Array.mem_of_getElem? hy),by rw [h];simp⟩
theorem E' {s:BA} {y:UInt8} (h1:1<=s.size) (h2:s.size<=40) (h0:s.data[0]? =some y) (hl:T3 y.toNat=true) (h:∀j z,j<s.size->s.data[j]? =some z->P5 z.toNat=true):isName s=true:=by
 unfold isName
 rw [h0,Uf,hl,U' h1,U' h2]
 simp only [Bool.and_self,Ul,Xj]
 intro x hx
 obtain ⟨i,hi⟩:=Array.getElem?_of_mem (Array.mem_toList_iff.1 hx)
 exact h i x (Zjj hi) hi
theorem ZdS (c:Int):AF prog 135 [pU8 c] (· =Zr (T3 c)):=by
 refine AF.b1 17 func135 rfl ntmps135 (Xa rfl) ?_
 rintro w0 M0 _ rfl
 refine YG ?_
 (refine Y1 ?_<;>(refine bLd 5 (fun hb5=>?_) (fun hb5=>?_)<;>refine kZ ?_)<;>refine kZ ?_<;>refine ZO ?_<;>(first|refine ZN ?_|(refine bLd 9 (fun hb9=>?_) (fun hb9=>?_)<;>refine kZ ?_))<;>refine kZ ?_<;>refine kZ ?_<;>(first|refine kL ?_|(refine bLd 12 (fun hb12=>?_) (fun hb12=>?_)<;>refine kZ ?_))<;>refine kZ ?_<;>refine kZ ?_<;>refine ZO ?_<;>refine Zw ?_)<;>(
 refine Zg (results135) rfl (RF ?_);simp only [T3,Ve,Xe,U9,true_iff,false_iff,VE]<;>omega)
theorem ZqR (c:Int):AF prog 136 [pU8 c] (· =Zr (P5 c)):=by
 refine AF.b1 25 func136 rfl ntmps136 (Xa rfl) ?_
 rintro w0 M0 _ rfl
 refine YG ?_
 (refine ZN ?_<;>(refine cV (cA call135 (ZdS c)) ?_)<;>refine ZN ?_<;>(refine bL 5 (fun hb5=>?_) (fun hb5=>?_)<;>refine kZ ?_)<;>refine kZ ?_<;>refine kZ ?_<;>(first|refine kL ?_|(refine bLd 8 (fun hb8=>?_) (fun hb8=>?_)<;>refine kZ ?_))<;>refine kZ ?_<;>refine kZ ?_<;>refine ZO ?_<;>(first|refine kL ?_|refine ZN ?_|(refine bLd 13 (fun hb13=>?_) (fun hb13=>?_)<;>refine kZ ?_))<;>refine kZ ?_<;>refine ZO ?_<;>(first|refine kL ?_|(refine bLd 17 (fun hb17=>?_) (fun hb17=>?_)<;>refine kZ ?_))<;>refine kZ ?_<;>refine ZO ?_<;>(first|refine kL ?_|(refine bLd 21 (fun hb21=>?_) (fun hb21=>?_)<;>refine kZ ?_))<;>refine kZ ?_<;>refine ZO ?_<;>refine Zw ?_)<;>(
 refine Zg (results136) rfl (RF ?_);simp only [P5,Ve,Xe,U9,true_iff,false_iff,VE,beq_iff_eq]<;>simp_all<;>omega)
theorem He (s :BA) (hs:s.size<=9223372036854775807):AF prog 98 [Zv s] (· =Zr (isName s)):=by
 refine AF.b1 29 func98 rfl ntmps98 (Xa rfl) ?_
 rintro w0 M0 _ rfl
 refine YG ?_
 (refine xL 4 Za (xL 5 (P7 underlying9) (xL 6 Yj (xL 7 Za ?_)))<;>(refine bLd 7 (fun hb7=>?_) (fun hb7=>?_)<;>refine kZ ?_)<;>(first|refine kL ?_|refine xM (P7 underlying9) ?_)<;>refine kZ ?_<;>refine ZO ?_<;>(first|refine kL ?_|(refine bLd 12 (fun hb12=>?_) (fun hb12=>?_)<;>refine kZ ?_))<;>(first|refine kL ?_|(refine (CO (i:=0) (s:=s) oM).elim fun y0 hy0=>?_;refine xM (CN underlying9) ?_))<;>(first|refine kL ?_|(refine cV (cA call135 (ZdS y0.toNat)) ?_))<;>refine kZ ?_<;>refine ZN ?_<;>refine Zw ?_)<;>(
 refine cX ?_ ?_<;>intro hb17
 . (
 refine ZD ?_;refine Zg (results98) rfl ?_
 first|rw [Pk oM]|rw [ζj hy0 (by simpa using hb17)])
 . first | exact bN hb17|(
 refine Zi ?_;refine xL 18 Za (xL 19 (P7 underlying9) (xL 20 Za ?_));refine Zw ?_;refine Y9 (ι:={k:Nat//k<=s.size/\∀j y,j<k->s.data[j]? =some y->P5 y.toNat=true}) (fun k=>⟨[(0,_,_),(19,_,_),(20, .int .i64 k.1,Zb k.1)],[]⟩) (fun k=>s.size-k.1) ⟨0,oM,oM⟩ (fun a w H=>H.weaken sB trivial) ?_;rintro ⟨k,hk,hp⟩;dsimp only;refine Yy ?_ ?_<;>intro hb21
 . (
 have hlt:k<s.size:=oM;obtain ⟨y,hy⟩:=CO (s:=s) (i:=k) oM;refine Jx ?_;refine xL 23 Za (xL 24 Za (xL 25 (CN underlying9) ?_));refine cV (cA call136 (ZqR y.toNat)) ?_;refine Wl ?_ ?_<;>intro hb27
 . (
 refine ZD ?_;refine Zg (results98) rfl ?_;rw [ζk hy (by simpa using hb27)])
 . (
 refine ZU ?_;refine Zf (
  ⟨k+1,oM,fun j z hj hz=>by
   by_cases e:j=k
   . subst e;rw [hy] at hz;cases hz;simpa using hb27
   . exact hp j z oM hz⟩
  ) (by dsimp only;omega) sB trivial))
 . (
 refine ZD ?_;refine Zg (results98) rfl ?_;rw [E' oM oM hy0 (by simpa using hb17) (fun j z hj hz=>hp j z oM hz)])))
theorem RG {α:Type} {p:α->Bool} {l:List α} {k:Nat} {x:α} (hx:l[k]? =some x) (h:p x=false):l.all p=false:=V6.2 ⟨x,Xb hx,by rw [h];simp⟩
theorem CP {α:Type} {p:α->Bool} {l:List α} (h:∀(j:Nat) x,l[j]? =some x->p x=true):l.all p=true:=Xj.2 fun x hx=>by
 obtain ⟨j,hj⟩:=XM hx
 exact h j x hj
def Jz (l:List BA):Bool:=decide (l.length<=40)&&l.all isName&&chainB strLt l
theorem Zga {l:List BA} (h:40<l.length):Jz l=false:=by unfold Jz;rw [Qa (show ¬l.length<=40 by omega)];simp
theorem Zgb {l:List BA} {k:Nat} {x:BA} (hx:l[k]? =some x) (h:isName x=false):Jz l=false:=by unfold Jz;rw [RG hx h];simp
theorem ZdT {l:List BA} {k:Nat} {x y:BA} (hk:1<=k) (hy:l[k-1]? =some y) (hx:l[k]? =some x) (h:strLt y x=false):Jz l=false:=by unfold Jz;rw [S4 hk hy hx h];simp
theorem Zgc (l :List BA) (hf:∀s∈l,s.size<=140737488355328):AF prog 86 [ZW l] (· =Zr (Jz l)):=by
 refine AF.b1 32 func86 rfl ntmps86 (Xa rfl) fun w0 M0 v0 _=>?_
 refine Ki 0 rfl fun hlen=>?_
 refine YG ?_
 refine xL 5 Za (xL 6 (Zs Zm) (xL 7 Jw ?_));refine ZE ?_ ?_<;>intro hb7
 . (
 refine ZD ?_;refine Zg (results86) rfl ?_;rw [Zga oM])
 . (
 refine Zi ?_;refine xL 8 Za (xL 9 (Zs Zm) (xL 10 Za ?_));refine Zw ?_;refine Y9 (ι:={k:Nat//k<=l.length/\∀j x,j<k->l[j]? =some x->isName x=true/\∀y,1<=j->l[j-1]? =some y->strLt y x=true}) (fun k=>⟨[(0,_,_),(8,_,_),(9,_,_),(10, .int .i64 k.1,Zb k.1)],[]⟩) (fun k=>l.length-k.1) ⟨0,oM,oM⟩ (fun a w H=>H.weaken sB trivial) ?_;rintro ⟨k,hk,hp⟩;dsimp only;refine Yy ?_ ?_<;>intro hb11
 . (
 have hlt:k<l.length:=oM;obtain ⟨x,hx⟩:=get_some hlt;obtain ⟨y,hy⟩:=gS l (k-1);have e1:=Yh (f:=Zv) hx;(have e2:(l.map Zv)[((k:Int)-1).toNat*1]? =some (Zv y):=by rw [show ((k:Int)-1).toNat*1=k-1 by omega];exact (by rw [Xl,hy];rfl));have hxs:=hf x (Xb hx);refine Zi ?_;refine xL 12 Za (xL 13 (Ze Zm) ?_);refine yV (Zu ZB) ?_;refine J9 ?_;(refine ZN ?_<;>(refine cV (cA call98 (He x oM)) ?_)<;>refine ZO ?_<;>(refine bL 18 (fun hb18=>?_) (fun hb18=>?_)<;>refine kZ ?_)<;>refine kZ ?_<;>refine kZ ?_<;>(first|refine kL ?_|(refine bLd 21 (fun hb21=>?_) (fun hb21=>?_)<;>refine kZ ?_))<;>refine kZ ?_<;>refine kZ ?_<;>(first|refine kL ?_|refine xM (T0 Zm) ?_)<;>(first|refine kL ?_|refine yV (Zu ZB) ?_)<;>refine kZ ?_<;>(first|refine kL ?_|refine xM ZcD ?_)<;>refine kZ ?_<;>refine ZN ?_<;>refine Zw ?_)<;>(
 refine cX ?_ ?_<;>intro hb30
 . first|exact bN hb30|(
 refine ZD ?_;refine Zg (results86) rfl ?_
 first|rw [Zgb hx (by simpa using hb18)]|rw [ZdT oM hy hx (by simpa [strLt] using hb30)])
 . first |exact bN hb30|(
 refine ZU ?_;refine Zf (
  ⟨k +1,oM,fun j z hj hz=>by
   by_cases e:j=k
   . subst e;rw [hx] at hz;cases hz;refine ⟨by simpa using hb18,fun y' h1 hy'=>?_⟩;rw [hy] at hy';cases hy'
     first|omega|simpa [strLt] using hb30
   . exact hp j z oM hz⟩
  ) (by dsimp only;omega) sB trivial)))
 . (
 refine ZD ?_;refine Zg (results86) rfl ?_;have h1:l.all isName=true:=CP fun j x hj=>(hp j x (by have:=Zd hj;omega) hj).1;have h2:chainB strLt l=true:=Sv fun j x y h1 hy hx=>(hp j x (by have:=Zd hx;omega) hx).2 y h1 hy;unfold Jz;rw [h1,h2,U' (show l.length<=40 by omega)];rfl))
theorem Zbs (c:Int):AF prog 194 [pU8 c] (· =Zr (T3 c)):=by
 refine AF.b1 17 func194 rfl ntmps194 (Xa rfl) ?_
 rintro w0 M0 _ rfl
 refine YG ?_
 (refine Y1 ?_<;>(refine bLd 5 (fun hb5=>?_) (fun hb5=>?_)<;>refine kZ ?_)<;>refine kZ ?_<;>refine ZO ?_<;>(first|refine ZN ?_|(refine bLd 9 (fun hb9=>?_) (fun hb9=>?_)<;>refine kZ ?_))<;>refine kZ ?_<;>refine kZ ?_<;>(first|refine kL ?_|(refine bLd 12 (fun hb12=>?_) (fun hb12=>?_)<;>refine kZ ?_))<;>refine kZ ?_<;>refine kZ ?_<;>refine ZO ?_<;>refine Zw ?_)<;>(
 refine Zg (results194) rfl (RF ?_);simp only [T3,Ve,Xe,U9,true_iff,false_iff,VE]<;>omega)
theorem Zbt (s : BA) (hs:s.size<=9223372036854775807):AF prog 132 [Zv s] (· =Zr (isName s)):=by
 refine AF.b1 52 func132 rfl ntmps132 (Xa rfl) ?_
 rintro w0 M0 _ rfl
 refine YG ?_
 (refine xL 5 Za (xL 6 (P7 underlying9) (xL 7 Yj (xL 8 Za ?_)))<;>(refine bLd 8 (fun hb8=>?_) (fun hb8=>?_)<;>refine kZ ?_)<;>(first|refine kL ?_|refine xM (P7 underlying9) ?_)<;>refine kZ ?_<;>refine ZO ?_<;>(first|refine kL ?_|(refine bLd 13 (fun hb13=>?_) (fun hb13=>?_)<;>refine kZ ?_))<;>(first|refine kL ?_|(refine (CO (i:=0) (s:=s) oM).elim fun y0 hy0=>?_;refine xM (CN underlying9) ?_))<;>(first|refine kL ?_|(refine cV (cA call194 (Zbs y0.toNat)) ?_))<;>refine kZ ?_<;>refine ZN ?_<;>refine Zw ?_)<;>(
 refine cX ?_ ?_<;>intro hb18
 . (
 refine ZD ?_;refine Zg (results132) rfl ?_
 first|rw [Pk oM]|rw [ζj hy0 (by simpa using hb18)])
 . first | exact bN hb18|(
 refine ZD ?_;have h0:∀(j:Nat) z,j<1->s.data[j]? =some z->P5 z.toNat=true:=fun j z hj hz=>by
  obtain rfl:j=0:=oM;rw [hy0] at hz;cases hz;unfold P5;rw [show T3 y0.toNat=true by simpa using hb18];rfl
 refine Y9 (ι:={k:Nat//1<=k/\k<=s.size/\∀j y,j<k->s.data[j]? =some y->P5 y.toNat=true}) (fun k=>⟨[(0,_,_),(3, .int .i64 k.1,Zb k.1)],[]⟩) (fun k=>s.size-k.1) ⟨1,oM,oM,h0⟩ (fun a w H=>H.weaken sB trivial) ?_;rintro ⟨k,hk1,hk,hp⟩;dsimp only;refine Zi ?_;refine xL 19 Za (xL 20 Za (xL 21 (P7 underlying9) (xL 22 Yj ?_)));refine ZE ?_ ?_<;>intro hb22
 . (
 have hlt:k<s.size:=oM;obtain ⟨y,hy⟩:=CO (s:=s) (i:=k) oM;refine Zi ?_;refine xL 25 Za (xL 26 Za (xL 27 (CN underlying9) (xL 4 ZJ ?_)));refine Ym ?_;(refine ZN ?_<;>(refine cV (cA call194 (Zbs y.toNat)) ?_)<;>refine ZO ?_<;>(refine bL 31 (fun hb31=>?_) (fun hb31=>?_)<;>refine kZ ?_)<;>refine kZ ?_<;>refine kZ ?_<;>(first|refine kL ?_|(refine bLd 34 (fun hb34=>?_) (fun hb34=>?_)<;>refine kZ ?_))<;>refine kZ ?_<;>refine kZ ?_<;>refine kZ ?_<;>refine ZO ?_<;>(first|refine kL ?_|refine ZN ?_|(refine bL 40 (fun hb40=>?_) (fun hb40=>?_)<;>refine kZ ?_))<;>refine kZ ?_<;>refine ZO ?_<;>(first|refine kL ?_|(refine bLd 44 (fun hb44=>?_) (fun hb44=>?_)<;>refine kZ ?_))<;>refine kZ ?_<;>refine ZO ?_<;>(first|refine kL ?_|(refine bLd 48 (fun hb48=>?_) (fun hb48=>?_)<;>refine kZ ?_))<;>refine kZ ?_<;>refine ZN ?_<;>refine Zw ?_)<;>(
 refine cX ?_ ?_<;>intro hb51
 . first|exact bN hb51|(
 refine ZD ?_;refine Zg (results132) rfl ?_;rw [ζk hy];rw [Bool.eq_false_iff];intro hpb;simp only [P5,Ve,Xe,U9,beq_iff_eq] at hpb;simp_all
 try omega)
 . (
 refine Y2 ?_;refine Zf (
  ⟨k +1,oM,oM,fun j z hj hz=>by
   by_cases e:j=k
   . subst e;rw [hy] at hz;cases hz;simp only [P5,Ve,Xe,U9,beq_iff_eq];simp_all
     try omega
   . exact hp j z oM hz⟩
  ) (by dsimp only;omega) sB trivial)))
 . (
 refine ZD ?_;refine Zg (results132) rfl ?_;rw [E' oM oM hy0 (by simpa using hb18) (fun j z hj hz=>hp j z oM hz)])))
theorem ZdU (l:List BA) (hf:∀s∈l,s.size<=140737488355328):AF prog 88 [ZW l] (· =Zr (l.all isName)):=by
 refine AF.b1 16 func88 rfl ntmps88 (Xa rfl) fun w0 M0 v0 _=>?_
 refine Ki 0 rfl fun hlen=>?_
 refine JR ?_
 refine Y9 (ι:={k:Nat//k<=l.length/\∀j x,j<k->l[j]? =some x->isName x=true}) (fun k=>⟨[(0,_,_),(3, .int .i64 k.1,Zb k.1)],[]⟩) (fun k=>l.length-k.1) ⟨0,oM,oM⟩ (fun a w H=>H.weaken sB trivial) ?_
 rintro ⟨k,hk,hp⟩
 dsimp only
 refine Zi ?_
 refine xL 4 Za (xL 5 Za (xL 6 (Zs Zm) (xL 7 Yj ?_)));refine ZE ?_ ?_<;>intro hb7
 . (
 obtain ⟨x,hx⟩:=gS l k;have e1:=Yh (f:=Zv) hx;have hxs:=hf x (Xb hx);refine Zi ?_;refine xL 10 Za (xL 11 Za (xL 12 (Ze Zm) ?_));refine yV (Zu ZB) ?_;refine cV (cA call132 (Zbt x oM)) ?_;refine Wl ?_ ?_<;>intro hb15
 . (
 refine ZD ?_;refine Zg (results88) rfl ?_;rw [RG hx (by simpa using hb15)])
 . (
 refine Y2 ?_;refine Zf (
  ⟨k+1,oM,fun j z hj hz=>by
   by_cases e:j=k
   . subst e;rw [hx] at hz;cases hz;simpa using hb15
   . exact hp j z oM hz⟩
  ) (by dsimp only;omega) sB trivial))
 . (
 refine ZD ?_;refine Zg (results88) rfl ?_;rw [CP fun j x hj=>hp j x (by have:=Zd hj;omega) hj])
theorem Zgd (l:List BA):AF prog 92 [ZW l] (· =Zr (chainB strLt l)):=by
 refine AF.b1 20 func92 rfl ntmps92 (Xa rfl) fun w0 M0 v0 _=>?_
 refine Ki 0 rfl fun hlen=>?_
 refine JR ?_
 refine Y9 (ι:={k:Nat//1<=k/\(k<=l.length\/k=1)/\∀j x y,1<=j->j<k->l[j-1]? =some y->l[j]? =some x->strLt y x=true}) (fun k=>⟨[(0,_,_),(3, .int .i64 k.1,Zb k.1)],[]⟩) (fun k=>l.length-k.1) ⟨1,oM,oM,oM⟩ (fun a w H=>H.weaken sB trivial) ?_
 rintro ⟨k,hk1,hk,hp⟩
 dsimp only
 refine Zi ?_
 refine xL 4 Za (xL 5 Za (xL 6 (Zs Zm) (xL 7 Yj ?_)));refine ZE ?_ ?_<;>intro hb7
 . (
 obtain ⟨x,hx⟩:=gS l k;obtain ⟨y,hy⟩:=gS l (k-1);have e1:=Yh (f:=Zv) hx;(have e2:(l.map Zv)[((k:Int)-1).toNat*1]? =some (Zv y):=by rw [show ((k:Int)-1).toNat*1=k-1 by omega];exact (by rw [Xl,hy];rfl));refine nav ?_;refine YJ [] [] ?_<;>refine xD 0 rfl Za ?_<;>refine xD 1 rfl Za ?_<;>refine xD 2 rfl LL ?_<;>refine xD 3 rfl (T0 Zm) ?_<;>(refine yD 4 rfl (Zu ZB) fun v14 h=>?_;cases h)<;>refine xD 5 rfl Za ?_<;>refine xE 6 rfl Za ?_<;>refine xE 7 rfl (Ze Zm) ?_<;>(refine yE 8 rfl (Zu ZB) fun v18 h=>?_;cases h)<;>refine xE 9 rfl ZcD ?_<;>refine WE ?_;refine cX ?_ ?_<;>intro hb19
 . (
 refine ZD ?_;refine Zg (results92) rfl ?_;rw [S4 hk1 hy hx (by simpa [strLt] using hb19)])
 . (
 refine Y2 ?_;refine Zf (
  ⟨k+1,oM,oM,fun j x' y' h1 hj hy' hx'=>by
   by_cases e:j=k
   . subst e;rw [hx] at hx';cases hx';rw [hy] at hy';cases hy';simpa [strLt] using hb19
   . exact hp j x' y' h1 oM hy' hx'⟩
  ) (by dsimp only;omega) sB trivial))
 . (
 refine ZD ?_;refine Zg (results92) rfl ?_;rw [Sv fun j x y h1 hy hx=>hp j x y h1 (by have:=Zd hx;omega) hy hx])
theorem ζl (l:List BA) (s:BA):AF prog 236 [ZW l,Zv s] (· =Zb (idx (fun x=>W4 x s) l)):=by
 refine AF.b2 19 func236 rfl ntmps236 (Xa rfl) ?_
 rintro w0 M0 v0 _-rfl
 refine Ki 0 rfl fun hlen=>?_
 refine JR ?_
 refine Y9 (ι:={k:Nat//k<=l.length/\∀i y,i<k->l[i]? =some y->W4 y s=false}) (fun k=>⟨[(0,_,_),(1,_,_),(5, .int .i64 k.1,Zb k.1)],[]⟩) (fun k=>l.length-k.1) ⟨0,oM,oM⟩ (fun a w H=>H.weaken sB trivial) ?_
 rintro ⟨k,hk,hp⟩
 dsimp only
 refine Zi ?_
 refine xL 6 Za (xL 7 Za (xL 8 (Zs Zm) (xL 9 Yj ?_)));refine ZE ?_ ?_<;>intro hb9
 . (
 obtain ⟨x,hx⟩:=gS l k;have e1:=Yh (f:=Zv) hx;refine Zi ?_;refine xL 12 Za (xL 13 Za (xL 14 (Ze Zm) ?_));refine yV (Zu ZB) ?_;refine WZ ?_ ?_<;>intro hb17
 . (
 refine ZU ?_;refine Zg (results236) rfl ?_;rw [Lz hp hx hb17])
 . (
 refine Y2 ?_;refine Zf (
  ⟨k+1,oM,fun i y hi hy=>by
   by_cases e:i=k
   . subst e;rw [hx] at hy;cases hy;exact hb17
   . exact hp i y oM hy⟩
  ) (by dsimp only;omega) sB trivial))
 . (
 refine ZD ?_;refine Zg (results236) rfl ?_;rw [TA fun i y hi hy=>hp i y oM hy])
theorem ζm (a b:BA):W4 a b=W4 b a:=by unfold W4;rw [VG];simp only [beq_iff_eq];exact eq_comm
theorem Ca (l:List BA) (s:BA):AF prog 116 [ZW l,Zv s] (· =Zb (idx (fun x=>W4 x s) l)):=by
 refine AF.b2 19 func116 rfl ntmps116 (Xa rfl) ?_
 rintro w0 M0 v0 _-rfl
 refine Ki 0 rfl fun hlen=>?_
 refine YG ?_
 refine xL 6 Za (xL 7 (Zs Zm) (xL 8 Za ?_));refine Zw ?_
 refine Y9 (ι:={k:Nat//k<=l.length/\∀i y,i<k->l[i]? =some y->W4 y s=false}) (fun k=>⟨[(0,_,_),(1,_,_),(7,_,_),(8, .int .i64 k.1,Zb k.1)],[]⟩) (fun k=>l.length-k.1) ⟨0,oM,oM⟩ (fun a w H=>H.weaken sB trivial) ?_
 rintro ⟨k,hk,hp⟩
 dsimp only
 refine Yy ?_ ?_<;>intro hb9
 . (
 obtain ⟨x,hx⟩:=gS l k;have e1:=Yh (f:=Zv) hx;refine Jx ?_;refine xL 11 Za (xL 12 Za (xL 13 Za (xL 14 (Ze Zm) ?_)));refine yV (Zu ZB) ?_;refine Wl ?_ ?_<;>intro hb16
 . (
 (replace hb16:W4 x s=true:=by rw [ζm];exact hb16);refine ZU ?_;refine Zg (results116) rfl ?_;rw [Lz hp hx hb16])
 . (
 (replace hb16:W4 x s=false:=by rw [ζm];exact hb16);refine ZU ?_;refine Zf (
  ⟨k+1,oM,fun i y hi hy=>by
   by_cases e:i=k
   . subst e;rw [hx] at hy;cases hy;exact hb16
   . exact hp i y oM hy⟩
  ) (by dsimp only;omega) sB trivial))
 . (
 refine ZD ?_;refine Zg (results116) rfl ?_;rw [TA fun i y hi hy=>hp i y oM hy])
theorem Sz (l:List BA) (s:BA):AF prog 73 [ZW l,Zv s] (· =Zr (hasStr l s)):=by
 refine AF.b2 9 func73 rfl ntmps73 (Xa rfl) ?_
 rintro w0 M0 v0 _-rfl
 refine YG ?_;refine ZO ?_;refine cV (cA call116 (Ca l s)) ?_;refine KI ?_
 refine Zg (results73) rfl ?_
 unfold hasStr
 rw [Tt]
theorem ZdV {l m:List BA} {k:Nat} {x y:BA} (hx:l[k]? =some x) (hy:m[k]? =some y):cmpStrs (l.drop k) (m.drop k)=if Yd x y=0 then cmpStrs (l.drop (k+1)) (m.drop (k+1)) else Yd x y:=by rw [WL hx,WL hy,cmpStrs]
theorem Eb {a b:BA} (h:strLt a b=true):Yd a b= -1:=by unfold Yd;rw [Qc h]
theorem Ec {a b:BA} (h:(!(strLt a b||W4 a b))=true):Yd a b=1:=by
 simp only [Bool.not_eq_true',Uz] at h
 unfold Yd;rw [Qb (by rw [h.1];simp),Qb (by rw [h.2];simp)]
theorem Ed {a b:BA} (h1:strLt a b=false) (h:(!(strLt a b||W4 a b))=false):Yd a b=0:=by
 rw [h1,Ui,Bool.not_eq_false'] at h
 unfold Yd;rw [Qb (by rw [h1];simp),Qc h]
theorem OO {l m:List BA} {k:Nat} (h:¬(k<l.length/\k<m.length)) (hk:k<=l.length) (hk':k<=m.length):cmpStrs (l.drop k) (m.drop k)=if l.length<m.length then-1 else if m.length<l.length then 1 else 0:=by
 by_cases h1:l.length=k
 . rw [XN (show l.length<=k by omega)];by_cases h2:m.length=k
   . rw [XN (show m.length<=k by omega),Qb oM,Qb oM];rfl
   . obtain ⟨y,hy⟩:=gS m k;rw [WL hy,Qc oM];rfl
 . have h2:m.length=k:=oM;rw [XN (show m.length<=k by omega)];obtain ⟨x,hx⟩:=gS l k;rw [WL hx,Qb oM,Qc oM];rfl
theorem Dx (l m:List BA):AF prog 89 [ZW l,ZW m] (· =Zb (cmpStrs l m)):=by
 refine AF.b2 46 func89 rfl ntmps89 (Xa rfl) fun w0 M0 v0 v1 _ _=>?_
 refine Ki 0 rfl fun hlen=>?_
 refine Ki 1 rfl fun hlem=>?_
 refine JR ?_
 refine Y9 (ι:={k:Nat//k<=l.length/\k<=m.length/\cmpStrs l m=cmpStrs (l.drop k) (m.drop k)}) (fun k=>⟨[(0,_,_),(1,_,_),(5, .int .i64 k.1,Zb k.1)],[]⟩) (fun k=>l.length-k.1) ⟨0,oM,oM,rfl⟩ (fun a w H=>H.weaken sB trivial) ?_
 rintro ⟨k,hk,hk',hp⟩
 dsimp only
 refine Zi ?_
 (refine xL 6 Za (xL 7 Za (xL 8 (Zs Zm) (xL 9 Yj (xL 10 Za ?_))))<;>(refine bLd 10 (fun hb10=>?_) (fun hb10=>?_)<;>refine kZ ?_)<;>refine kZ ?_<;>(first|refine kL ?_|refine xM (Zs Zm) ?_)<;>refine kZ ?_<;>refine ZN ?_<;>refine Zw ?_)<;>(
 refine cX ?_ ?_<;>intro hb15
 . first | exact bN hb15|(
 obtain ⟨x,hx⟩:=gS l k;obtain ⟨y,hy⟩:=gS m k;have e1:=Yh (f:=Zv) hx;have e2:=Yh (f:=Zv) hy;have hs:=ZdV hx hy;refine nav ?_;refine YJ [] [] ?_<;>refine xD 0 rfl Za ?_<;>refine xD 1 rfl Za ?_<;>refine xD 2 rfl (Ze Zm) ?_<;>(refine yD 3 rfl (Zu ZB) fun v21 h=>?_;cases h)<;>refine xD 4 rfl Za ?_<;>refine xE 5 rfl Za ?_<;>refine xE 6 rfl (Ze Zm) ?_<;>(refine yE 7 rfl (Zu ZB) fun v25 h=>?_;cases h)<;>refine xE 8 rfl ZlR ?_<;>refine WE ?_;refine cX ?_ ?_<;>intro hb26
 . (
 refine ZD ?_;refine Zg (results89) rfl ?_;rw [hp,hs,Eb hb26];rfl)
 . (
 refine nav ?_;refine YJ [] [] ?_<;>refine xD 0 rfl Za ?_<;>refine xD 1 rfl Za ?_<;>refine xD 2 rfl (Ze Zm) ?_<;>(refine yD 3 rfl (Zu ZB) fun v30 h=>?_;cases h)<;>refine xD 4 rfl Za ?_<;>refine xE 5 rfl Za ?_<;>refine xE 6 rfl (Ze Zm) ?_<;>(refine yE 7 rfl (Zu ZB) fun v34 h=>?_;cases h)<;>refine xE 8 rfl Zf9 ?_<;>refine WE ?_;refine cX ?_ ?_<;>intro hb35
 . (
 refine ZD ?_;refine Zg (results89) rfl ?_;rw [hp,hs,Ec hb35];rfl)
 . (
 refine Y2 ?_;refine Zf (
  ⟨k+1,oM,oM,by rw [hp,hs,Ed hb26 hb35];rfl⟩
  ) (by dsimp only;omega) sB trivial)))
 . (
 refine Zi ?_;refine xL 36 Za (xL 37 (Zs Zm) (xL 38 Za (xL 39 (Zs Zm) (xL 40 Yj ?_))));refine ZE ?_ ?_<;>intro hb40
 . (
 refine ZD ?_;refine Zg (results89) rfl ?_;rw [hp,OO oM hk hk',Qc oM])
 . (
 refine Zi ?_;refine xL 41 Za (xL 42 (Zs Zm) (xL 43 Za (xL 44 (Zs Zm) (xL 45 Jw ?_))));refine ZE ?_ ?_<;>intro hb45
 . (
 refine ZD ?_;refine Zg (results89) rfl ?_;rw [hp,OO oM hk hk',Qb oM,Qc oM])
 . (
 refine ZD ?_;refine Zg (results89) rfl ?_;rw [hp,OO oM hk hk',Qb oM,Qb oM]))))
theorem ζn (s:BA):AF prog 198 [Zv s] (· =Zr false):=by
 refine AF.b1 6 func198 rfl ntmps198 (Xa rfl) ?_
 rintro w0 M0 _ rfl
 refine YG ?_;refine LZ ?_;refine Zw ?_
 refine Zg (results198) rfl ?_
 simp
theorem Oa (a b:BA):AF prog 137 [Zv a,Zv b] (· =Zb (Yd a b)):=by
 refine AF.b2 20 func137 rfl ntmps137 (Xa rfl) ?_
 rintro w0 M0 _ _ rfl rfl
 refine YG ?_;refine ZN ?_;refine cV (cA call198 (ζn a)) ?_;refine Jy ?_;refine cV (cA call198 (ζn b)) ?_;refine KA ?_
 refine cCf ?_
 refine ZD ?_
 refine cCf ?_
 refine WJ ?_;refine ZE ?_ ?_<;>intro hb16
 . (
 refine ZD ?_;refine Zg (results137) rfl ?_;rw [Eb hb16])
 . (
 refine Zi ?_;refine xL 17 Za (xL 18 Za (xL 19 Zf9 ?_));refine ZE ?_ ?_<;>intro hb19
 . (
 refine ZD ?_;refine Zg (results137) rfl ?_;rw [Ec hb19])
 . (
 refine ZD ?_;refine Zg (results137) rfl ?_;rw [Ed hb16 hb19]))
theorem Za6 (l m:List BA):AF prog 99 [ZW l,ZW m] (· =Zb (cmpStrs l m)):=by
 refine AF.b2 36 func99 rfl ntmps99 (Xa rfl) fun w0 M0 v0 v1 _ _=>?_
 refine Ki 0 rfl fun hlen=>?_
 refine Ki 1 rfl fun hlem=>?_
 refine YG ?_
 refine xL 9 Za (xL 10 (Zs Zm) (xL 11 Za ?_));refine Zw ?_
 refine Y9 (ι:={k:Nat//k<=l.length/\k<=m.length/\cmpStrs l m=cmpStrs (l.drop k) (m.drop k)}) (fun k=>⟨[(0,_,_),(1,_,_),(9,_,_),(10,_,_),(11, .int .i64 k.1,Zb k.1)],[]⟩) (fun k=>l.length-k.1) ⟨0,oM,oM,rfl⟩ (fun a w H=>H.weaken sB trivial) ?_
 rintro ⟨k,hk,hk',hp⟩
 dsimp only
 refine Yy ?_ ?_<;>intro hb12
 . (
 obtain ⟨x,hx⟩:=gS l k;have e1:=Yh (f:=Zv) hx;refine Zi ?_;refine xL 13 Za (xL 14 (Ze Zm) ?_);refine yV (Zu ZB) ?_;refine J9 ?_;refine xL 16 Za (xL 17 Za (xL 18 (Zs Zm) (xL 19 E8 ?_)));refine ZE ?_ ?_<;>intro hb19
 . (
 refine ZD ?_;refine Zg (results99) rfl ?_;rw [hp,OO oM hk hk',Qb oM,Qc oM])
 . (
 refine nav ?_;obtain ⟨y,hy⟩:=gS m k;have e2:=Yh (f:=Zv) hy;have hs:=ZdV hx hy;refine Zo ?_;refine xL 20 Za (xL 21 Za (xL 22 (Ze Zm) ?_));refine yV (Zu ZB) ?_;refine ZX ?_;refine ZO ?_;refine cV (cA call137 (Oa x y)) ?_;refine ZX ?_;refine WZ ?_ ?_<;>intro hb28
 . (
 refine ZU ?_;refine Zg (results99) rfl ?_;rw [hp,hs,Qb hb28])
 . (
 refine ZU ?_;refine Zf (
  ⟨k+1,oM,oM,by rw [hp,hs,Qc (by simpa using hb28)]⟩
  ) (by dsimp only;omega) sB trivial)))
 . (
 refine Zi ?_;refine xL 31 Za (xL 32 (Zs Zm) (xL 33 Za (xL 34 (Zs Zm) (xL 35 Yj ?_))));refine ZE ?_ ?_<;>intro hb35
 . (
 refine ZD ?_;refine Zg (results99) rfl ?_;rw [hp,OO oM hk hk',Qc oM])
 . (
 refine ZD ?_;refine Zg (results99) rfl ?_;rw [hp,OO oM hk hk',Qb oM,Qb oM]))
theorem Za7 (l m:List BA):AF prog 42 [ZW l,ZW m] (· =Zb (cmpStrs l m)):=by
 refine AF.b2 8 func42 rfl ntmps42 (Xa rfl) fun w0 M0 v0 v1 _ _=>?_
 refine YG ?_;refine ZO ?_;refine cV (cA call99 (Za6 l m)) ?_;refine ZP ?_
 exact Zg results42 rfl rfl
end Go.Proofs.YtmkojdfiadbeeaaGreat
namespace Go.Cb
open Go.RowKit
open Go.RowKit Go.WideMaps
structure MapT (P:Program) (t ks e:Nat):Prop where
 ht:P.underlying t=some (.map ks e)
 hk:P.underlying ks=some .string
 he:P.underlying e=some (.int .i64)
 hz:∀w,(zeroValue e).run P w= .ok (.int .i64 0) w
theorem Y' {a b:BA}:W4 a b=true↔a=b:=by
 unfold W4
 rw [beq_iff_eq,ByteArray.toList_eq,ByteArray.toList_eq]
 exact ⟨fun h=>WideShapes.bytes_inj h,fun h=>by rw [h]⟩
def T6 (parts:List (List BA)):BA->Option Int:=fun s=>(parts.findIdx? fun p=>hasStr p s).map fun (i:Nat)=>(i:Int)
theorem ζo (parts:List (List BA)) (s:BA):(T6 parts s).isSome=hasStr parts.flatten s:=by
 unfold T6
 rw [Option.isSome_map,List.findIdx?_isSome]
 unfold hasStr
 induction parts with
 |nil=>rfl
 |cons p ps ih=>rw [List.any_cons,XP,UA,ih]
theorem Zge (parts:List (List BA)) (s:BA):partOf parts s=(T6 parts s).getD (-1):=by
 unfold T6 partOf idx
 cases parts.findIdx? fun p=>hasStr p s<;>rfl
theorem PO (parts:List (List BA)) (s:BA):(T6 parts s).isSome=decide (0<=partOf parts s):=by
 unfold T6 partOf idx
 cases h:parts.findIdx? fun p=>hasStr p s<;>simp
theorem ζp:∀(p seen:List BA),Jv seen p=true↔∀k s,p[k]? =some s->hasStr (seen++p.take k) s=false
 |[],seen=>by simp [Jv]
 | x ::p,seen=>by
   rw [Jv,Xe,ζp p (seen++[x])];constructor
   . rintro ⟨h1,h2⟩ k s hk
     cases k with
     |zero=>simp at hk;subst hk;simpa using h1
     |succ k=>have:=h2 k s (by simpa using hk);simpa using this
   . intro h;refine ⟨by simpa using h 0 x rfl,fun k s hk=>?_⟩;have:=h (k+1) s (by simpa using hk);simpa using this
def ζq (seen p:List BA) (k:Nat) (s:BA):Prop:=hasStr (seen++p.take k) s=false/\isName s=true/\∀y,1<=k->p[k-1]? =some y->strLt y s=true
theorem ZdW (p seen:List BA):(LD p&&Jv seen p)=true↔p≠[]/\∀k s,p[k]? =some s->ζq seen p k s:=by
 unfold LD
 simp only [Xe,ζp]
 constructor
 . rintro ⟨⟨⟨h1,h2⟩,h3⟩,h4⟩;refine ⟨by intro h;subst h;simp at h1,fun k s hs=>⟨h4 k s hs,Xj.1 h2 s (Xb hs),fun y hk hy=>?_⟩⟩;exact (JQ _ _).1 h3 (k-1) y s hy (by rw [Nat.sub_add_cancel hk];exact hs)
 . rintro ⟨h1,h2⟩;refine ⟨⟨⟨by cases p with|nil=>exact Qd rfl h1|cons=>rfl,?_⟩,?_⟩,fun k s hs=>(h2 k s hs).1⟩
   . rw [Xj];intro s hs;obtain ⟨i,hi,rfl⟩:=Ue hs;exact (h2 i _ (Xq hi)).2.1
   . exact Sv fun j x y h1 hy hx=>(h2 j x hx).2.2 y h1 hy
theorem ζr {p seen:List BA} {k:Nat} {s:BA} (hs:p[k]? =some s) (h:¬ζq seen p k s):(LD p&&Jv seen p)=false:=by
 cases hc:(LD p&&Jv seen p)
 . rfl
 . exact Qd (((ZdW p seen).1 hc).2 k s hs) h
theorem Zbu:∀l:List UInt8,Op.bytesLess l l=false
 |[]=>rfl
 |a::l=>by simp [Op.bytesLess,Zbu l,UInt8.lt_irrefl]
theorem ZdX:∀a b c:List UInt8,Op.bytesLess a b=true->Op.bytesLess b c=true->Op.bytesLess a c=true
 |_,_,[],_,h=>by cases h':(‹List UInt8›:List UInt8)<;>simp_all [Op.bytesLess]
 |_,[],_::_,h,_=>by simp [Op.bytesLess] at h
 |[],_::_,_::_,_,_=>rfl
 | x ::a,y::b,z::c,h1,h2=>by
   simp only [Op.bytesLess,Ve,Xe,U9,beq_iff_eq] at h1 h2 ⊢;rcases h1 with h1|⟨rfl,h1⟩
   . rcases h2 with h2|⟨rfl,h2⟩
     . exact .inl (UInt8.lt_trans h1 h2)
     . exact .inl h1
   . rcases h2 with h2|⟨rfl,h2⟩
     . exact .inl h2
     . exact .inr ⟨rfl,ZdX a b c h1 h2⟩
theorem ZdY:∀a b:List UInt8,Op.bytesLess a b=false->Op.bytesLess b a=false->a=b
 |[],[],_,_=>rfl
 |[],_::_,h,_=>by simp [Op.bytesLess] at h
 |_::_,[],_,h=>by simp [Op.bytesLess] at h
 | x::a,y::b,h1,h2=>by
   simp only [Op.bytesLess,Uz,decide_eq_false_iff_not] at h1 h2;have hxy:x=y:=UInt8.le_antisymm (UInt8.not_lt.1 h2.1) (UInt8.not_lt.1 h1.1);subst hxy;simp only [beq_self_eq_true,Ul] at h1 h2;rw [ZdY a b h1.2 h2.2]
theorem W1 (a:BA):strLt a a=false:=Zbu _
theorem KB {a b c:BA} (h:strLt a b=true) (k:strLt b c=true):strLt a c=true:=ZdX _ _ _ h k
theorem Gg {a b:BA} (h:strLt a b=false) (k:strLt b a=false):a=b:=by
 have:=ZdY _ _ h k
 rw [ByteArray.toList_eq,ByteArray.toList_eq] at this
 exact WideShapes.bytes_inj this
theorem KV {a b:BA}:Yd a b=0↔a=b:=by
 unfold Yd
 constructor
 . intro h;split at h
   . omega
   . split at h
     . rename_i h2;exact Y'.1 h2
     . omega
 . rintro rfl;rw [W1,Y'.2 rfl];rfl
theorem Tc {a b:BA}:Yd a b<0↔strLt a b=true:=by
 unfold Yd
 constructor
 . intro h;split at h
   . assumption
   . split at h<;>omega
 . intro h;rw [h,Qc rfl];decide
theorem Kk:∀{l m:List BA},cmpStrs l m=0↔l=m
 |[],[]=>by simp [cmpStrs]
 |[],_::_=>by simp [cmpStrs]
 |_::_,[]=>by simp [cmpStrs]
 | a ::l,b::m=>by
   rw [cmpStrs];split
   . rename_i h;rw [Kk,KV.1 h];simp
   . rename_i h;constructor
     . intro h';exact Qd h' h
     . intro h';cases h';exact Qd (KV.2 rfl) h
def ltW (l m:List BA):Bool:=decide (cmpStrs l m<0)
theorem ζs {a b:BA} {l m:List BA}:ltW (a::l) (b::m)=true↔strLt a b=true\/(a=b/\ltW l m=true):=by
 unfold ltW
 rw [cmpStrs]
 split
 . rename_i h;have:=KV.1 h;subst this;simp [W1]
 . rename_i h;rw [U9,Tc];constructor
   . exact .inl
   . rintro (h1|⟨rfl,_⟩)
     . exact h1
     . exact Qd (KV.2 rfl) h
theorem Pm (l:List BA):ltW l l=false:=by unfold ltW;rw [Kk.2 rfl];rfl
theorem Td:∀{a b c:List BA},ltW a b=true->ltW b c=true->ltW a c=true
 |_,b,[],_,h=>by cases b<;>simp [ltW,cmpStrs] at h
 |a,[],_::_,h,_=>by cases a<;>simp [ltW,cmpStrs] at h
 |[],_::_,_::_,_,_=>by simp [ltW,cmpStrs]
 | x ::a,y::b,z::c,h1,h2=>by
   rw [ζs] at h1 h2 ⊢;rcases h1 with h1|⟨rfl,h1⟩
   . rcases h2 with h2|⟨rfl,h2⟩
     . exact .inl (KB h1 h2)
     . exact .inl h1
   . rcases h2 with h2|⟨rfl,h2⟩
     . exact .inl h2
     . exact .inr ⟨rfl,Td h1 h2⟩
theorem Sg:∀{a b:List BA},ltW a b=false->ltW b a=false->a=b
 |[],[],_,_=>rfl
 |[],_::_,h,_=>by simp [ltW,cmpStrs] at h
 |_::_,[],_,h=>by simp [ltW,cmpStrs] at h
 | x::a,y::b,h1,h2=>by
   have g1:¬(strLt x y=true\/(x=y/\ltW a b=true)):=fun h=>by rw [ζs.2 h] at h1;cases h1
   have g2:¬(strLt y x=true\/(y=x/\ltW b a=true)):=fun h=>by rw [ζs.2 h] at h2;cases h2
   have hxy:x=y:=Gg (by cases h:strLt x y with|false=>rfl|true=>exact Qd (.inl h) g1) (by cases h:strLt y x with|false=>rfl|true=>exact Qd (.inl h) g2);subst hxy;rw [Sg (a:=a) (b:=b) (by cases h:ltW a b with|false=>rfl|true=>exact Qd (.inr ⟨rfl,h⟩) g1) (by cases h:ltW b a with|false=>rfl|true=>exact Qd (.inr ⟨rfl,h⟩) g2)]
def bump:List Var->List BA->Int->List Var
 |[],w,n=>[⟨w,n⟩]
 |x::r,w,n=>if x.acts=w then ⟨x.acts,x.count+n⟩::r else x::bump r w n
def Asc (r:List Var):Prop:=r.Pairwise fun x y=>ltW x.acts y.acts=true
theorem ζt {w:List BA} {n:Int}:∀{r:List Var} {x:Var},x∈YT r w n->x.acts=w\/x∈r
 |[],x,h=>by simp [YT] at h;exact .inl (by rw [h])
 | y :: r,x,h=>by
   rw [YT] at h;split at h
   . rcases Xh.1 h with rfl|h
     . exact .inr sM
     . exact (ζt h).imp id fun h=>by simp [h]
   . split at h
     . rcases Xh.1 h with rfl|h
       . exact .inl rfl
       . exact .inr (by simp [h])
     . rcases Xh.1 h with rfl|h
       . exact .inl rfl
       . exact .inr h
theorem ζu {w:List BA} {n:Int}:∀{r:List Var},Asc r->Asc (YT r w n)
 |[],_=>by simp [YT,Asc]
 | x :: r, h=>by
   have hx:=Xw.1 h;rw [YT];split
   . rename_i hc;refine Xw.2 ⟨fun y hy=>?_,ζu hx.2⟩;rcases ζt hy with h1|h1
     . rw [h1];simpa [ltW] using hc
     . exact hx.1 y h1
   . split
     . rename_i hc;have hw:x.acts=w:=Kk.1 hc;refine Xw.2 ⟨fun y hy=>?_,hx.2⟩;show ltW w y.acts=true;rw [<-hw];exact hx.1 y hy
     . rename_i h1 h2;have hlt:ltW w x.acts=true:=by
        cases h3:ltW w x.acts with
        |true=>rfl
        | false=>
          (have h4:ltW x.acts w=false:=by simpa [ltW] using h1);exact Qd (Kk.2 (Sg h4 h3)) h2
       refine Xw.2 ⟨fun y hy=>?_,h⟩;rcases Xh.1 hy with rfl|hy
       . exact hlt
       . exact Td hlt (hx.1 y hy)
def Nodup (r:List Var):Prop:=r.Pairwise fun x y=>x.acts≠y.acts
theorem Asc.nodup {r:List Var} (h:Asc r):Nodup r:=h.imp fun {x y} h e=>by rw [e,Pm] at h;cases h
theorem Nodup.perm {r s:List Var} (h:Nodup r) (p:r.Perm s):Nodup s:=(p.pairwise_iff (fun {x y} h=>Ne.symm h)).1 h
theorem Ee {w:List BA} {n:Int}:∀{r:List Var},(∀x∈r,x.acts≠w)->bump r w n=r++[⟨w,n⟩]
 |[],_=>rfl
 |x::r,h=>by rw [bump,Qb (h x sM),Ee fun y hy=>h y (by simp [hy])];rfl
theorem Zjk {w:List BA} {n:Int} {r s:List Var} (hn:Nodup r) (p:r.Perm s):(bump r w n).Perm (bump s w n):=by
 induction p with
 |nil=>exact .refl _
 | cons x p ih=>
   have h:=Xw.1 hn;simp only [bump];split
   . exact p.cons _
   . exact (ih h.2).cons _
 | swap x y l=>
   have h:=Xw.1 hn;have hxy:y.acts≠x.acts:=h.1 x sM;simp only [bump];by_cases h1:y.acts=w
   . have h2:x.acts≠w:=fun e=>hxy (h1.trans e.symm);rw [Qc h1,Qb h2,Qc h1];exact .swap ..
   . by_cases h2:x.acts=w
     . rw [Qb h1,Qc h2,Qc h2];exact .swap ..
     . rw [Qb h1,Qb h2,Qb h2,Qb h1];exact .swap ..
 |trans p q ih1 ih2=>exact (ih1 hn).trans (ih2 (hn.perm p))
theorem ZdZ {w:List BA} {n:Int}:∀{r:List Var},Asc r->(YT r w n).Perm (bump r w n)
 |[],_=> .refl _
 | x :: r, h=>by
   have hx:=Xw.1 h;rw [YT,bump];split
   . rename_i hc;(have hne:x.acts≠w:=fun e=>by rw [Kk.2 e] at hc;omega);rw [Qb hne];exact (ZdZ hx.2).cons _
   . split
     . rename_i hc;have hw:x.acts=w:=Kk.1 hc;rw [Qc hw,hw]
     . rename_i h1 h2;have hne:x.acts≠w:=fun e=>h2 (Kk.2 e);have hlt:ltW w x.acts=true:=by
        cases h3:ltW w x.acts with
        |true=>rfl
        | false=>
          (have h4:ltW x.acts w=false:=by simpa [ltW] using h1);exact Qd (Kk.2 (Sg h4 h3)) h2
       rw [Qb hne,Ee fun y hy e=>by
        have h5:=Td hlt (hx.1 y hy);rw [e,Pm] at h5;cases h5]
       have:=(VZ (l₁:=[(⟨w,n⟩:Var)]) (l₂:=x::r));simpa using this
theorem ζv:∀{r s:List Var},Asc r->Asc s->r.Perm s->r=s
 |[],s,_,_,p=>(List.nil_perm.1 p).symm
 |x::r,[],_,_,p=>Qd p.length_eq sM
 | x :: r,y::s,hr,hs,p=>by
   have h1:=Xw.1 hr;have h2:=Xw.1 hs;have hxy:x=y:=by
    have hx:x∈y::s:=p.mem_iff.1 sM;have hy:y∈x::r:=p.mem_iff.2 sM;rcases Xh.1 hx with e|hx
    . exact e
    . rcases Xh.1 hy with e|hy
      . exact e.symm
      . have a:=h2.1 x hx;have b:=h1.1 y hy;have:=Td a b;rw [Pm] at this;cases this
   subst hxy;rw [ζv h1.2 h2.2 (List.Perm.cons_inv p)]
theorem Zd0 {r s t:List Var} (h1:Asc s) (h2:r.Perm s) (h3:Asc t) (h4:t.Perm r):t=s:=ζv h3 h1 (h4.trans h2)
theorem Zjl {w:List BA} {n:Int} {r s:List Var} (h1:Asc s) (h2:r.Perm s):(bump r w n).Perm (YT s w n):=
 (Zjk ((h1.nodup).perm h2.symm) h2).trans (ZdZ h1).symm
end Go.Cb
namespace Go.Proofs.YtmkojdfiadbeeaaGreat
open Go.RowKit Go.Cb Go.En Tryz
theorem Zgf (x y:BA):Yd x y= -1\/Yd x y=0\/Yd x y=1:=by
 have:=Zi7 x y;omega
theorem T7 (x y:BA):(strLt x y=true/\strLt y x=false/\x≠y/\Yd x y= -1/\Yd y x=1)\/(x=y/\Yd x y=0/\Yd y x=0)\/(strLt y x=true/\strLt x y=false/\x≠y/\Yd x y=1/\Yd y x= -1):=by
 have hno:∀{a b:BA},strLt a b=true->strLt b a=false/\a≠b:=fun {a b} h=>by
  have h1:=W1 a;have h2:=W1 b;refine ⟨?_,fun e=>by subst e;rw [h] at h1;cases h1⟩
  cases h3:strLt b a with
  |false=>rfl
  |true=>rw [KB h h3] at h1;cases h1
 have heq:∀a:BA,W4 a a=true:=fun a=>Y'.2 rfl
 have hne:∀{a b:BA},a≠b->W4 a b=false:=fun {a b} h=>by
  cases h1:W4 a b with
  |false=>rfl
  |true=>exact Qd (Y'.1 h1) h
 unfold Yd
 cases h:strLt x y with
 | true=>
   obtain ⟨h1,h2⟩:=hno h;refine .inl ⟨rfl,h1,h2,sM,?_⟩;rw [h1,hne (Ne.symm h2)];rfl
 | false=>
   cases h':strLt y x with
   | true=>
     obtain ⟨h1,h2⟩:=hno h';refine .inr (.inr ⟨rfl,rfl,Ne.symm h2,?_,sM⟩);rw [hne (Ne.symm h2)];rfl
   | false=>
     have e:=Gg h h';subst e;refine .inr (.inl ⟨rfl,?_,?_⟩)<;>simp [heq]
theorem Zd1 (x y:BA):Yd y x= -Yd x y:=by
 rcases T7 x y with ⟨_,_,_,h1,h2⟩|⟨_,h1,h2⟩|⟨_,_,_,h1,h2⟩<;>omega
theorem T8 (x y:BA):Yd x y=0↔x=y:=by
 rcases T7 x y with ⟨_,_,h0,h1,h2⟩|⟨h0,h1,h2⟩|⟨_,_,h0,h1,h2⟩
 . exact ⟨fun h=>oM,fun h=>Qd h h0⟩
 . exact ⟨fun _=>h0,fun _=>h1⟩
 . exact ⟨fun h=>oM,fun h=>Qd h h0⟩
theorem OP {x y:BA}:Yd x y= -1↔strLt x y=true:=by
 rcases T7 x y with ⟨h0,_,_,h1,h2⟩|⟨h0,h1,h2⟩|⟨_,h0,_,h1,h2⟩
 . exact ⟨fun _=>h0,fun _=>h1⟩
 . subst h0;rw [W1];exact ⟨fun h=>oM,fun h=>by cases h⟩
 . rw [h0];exact ⟨fun h=>oM,fun h=>by cases h⟩
theorem Zgg (x y z:BA) (h:Yd x y= -1) (h':Yd y z= -1):Yd x z= -1:=OP.2 (KB (OP.1 h) (OP.1 h'))
inductive Nd where
 |mk (op:Int) (act:BA) (l:List Nd)
section
def Nd.op:Nd->Int
 | .mk o _ _=>o
def Nd.act:Nd->BA
 | .mk _ a _=>a
def Nd.l:Nd->List Nd
 | .mk _ _ l=>l
theorem Nd.ind {P:Nd->Prop} (h:∀o a l,(∀x∈l,P x)->P (.mk o a l)):∀t,P t:=fun t=>
 Nd.rec (motive_1:=P) (motive_2:=fun l=>∀x∈l,P x) (fun o a l ih=>h o a l ih) (fun _ hx=>by cases hx) (fun x l hx hl y hy=>by
  rcases Xh.1 hy with rfl|hy
  . exact hx
  . exact hl y hy) t
def GN (a b:Int):Int:=if a<b then-1 else if b<a then 1 else 0
def or3 (a b c:Int):Int:=if a≠0 then a else if b≠0 then b else c
mutual
def WF:Nd->Nd->Int
 | .mk o a l, .mk o' a' l'=>or3 (GN o o') (Yd a a') (JA l l')
def JA:List Nd->List Nd->Int
 |[],[]=>0
 |[],_::_=> -1
 |_::_,[]=>1
 |x::l,y::m=>if WF x y≠0 then WF x y else JA l m
end
theorem Zjm (a b:Int):GN a b= -1\/GN a b=0\/GN a b=1:=by unfold GN;split<;>(try split)<;>omega
theorem Zgh (a b:Int):GN b a= -GN a b:=by unfold GN;split<;>(try split)<;>(try split)<;>omega
theorem Pn (a b:Int):GN a b=0↔a=b:=by unfold GN;split<;>(try split)<;>omega
theorem ZlW (a b c:Int) (h:GN a b= -1) (h':GN b c= -1):GN a c= -1:=by
 unfold GN at*
 split at h
 . split at h'
   . rw [Qc oM]
   . split at h'<;>omega
 . split at h<;>omega
theorem ZoJ {a b c:Int} (ha:a= -1\/a=0\/a=1) (hb:b= -1\/b=0\/b=1) (hc:c= -1\/c=0\/c=1):or3 a b c= -1\/or3 a b c=0\/or3 a b c=1:=by unfold or3;split<;>(try split)<;>omega
theorem ZoK (a b c:Int):or3 (-a) (-b) (-c)= -or3 a b c:=by unfold or3;split<;>split<;>(try split)<;>(try split)<;>omega
theorem ZlX {a b c:Int}:or3 a b c=0↔a=0/\b=0/\c=0:=by unfold or3;split<;>(try split)<;>omega
theorem ZqS {a b c:Int}:or3 a b c= -1↔a= -1\/(a=0/\(b= -1\/(b=0/\c= -1))):=by unfold or3;split<;>(try split)<;>omega
theorem Zd2:∀(l:List Nd),(∀x∈l,∀y,WF x y= -1\/WF x y=0\/WF x y=1)->∀m,JA l m= -1\/JA l m=0\/JA l m=1
 |[],_,m=>by cases m<;>simp [JA]
 | x ::l,h,m=>by
   cases m with
   |nil=>simp [JA]
   | cons y m=>
     rw [JA];split
     . exact h x (Xu ..) y
     . exact Zd2 l (fun y hy=>h y (Xs _ hy)) m
theorem Zbv:∀(l:List Nd),(∀x∈l,∀y,WF y x= -WF x y)->∀m,JA m l= -JA l m
 |[],_,m=>by cases m<;>simp [JA]
 | x ::l,h,m=>by
   cases m with
   |nil=>simp [JA]
   | cons y m=>
     rw [JA,JA,h x (Xu ..) y];have ih:=Zbv l (fun y hy=>h y (Xs _ hy)) m;by_cases h0:WF x y=0
     . rw [Qb oM,Qb oM];exact ih
     . rw [Qc oM,Qc h0]
theorem Zbw:∀(l:List Nd),(∀x∈l,∀y,WF x y=0↔x=y)->∀m,JA l m=0↔l=m
 |[],_,m=>by cases m<;>simp [JA]
 | x :: l,h,m=>by
   cases m with
   |nil=>simp [JA]
   | cons y m=>
     rw [JA];have h1:=h x (Xu ..) y;have ih:=Zbw l (fun y hy=>h y (Xs _ hy)) m;by_cases h0:WF x y=0
     . rw [Qb oM,ih,h1.1 h0];simp
     . rw [Qc h0];exact ⟨fun h=>Qd h h0,fun h=>Qd (h1.2 (List.cons.inj h).1) h0⟩
theorem SA:∀(x y:Nd),WF x y= -1\/WF x y=0\/WF x y=1:=Nd.ind fun o a l ih y=>by
 obtain ⟨o',a',l'⟩:=y
 rw [WF]
 exact ZoJ (Zjm _ _) (Zgf _ _) (Zd2 l ih _)
theorem Zbx:∀(x y:Nd),WF y x= -WF x y:=Nd.ind fun o a l ih y=>by
 obtain ⟨o',a',l'⟩:=y
 rw [WF,WF,Zgh,Zd1,Zbv l ih,ZoK]
theorem JB:∀(x y:Nd),WF x y=0↔x=y:=Nd.ind fun o a l ih y=>by
 obtain ⟨o',a',l'⟩:=y
 rw [WF,ZlX,Pn,T8,Zbw l ih]
 exact ⟨fun ⟨h1,h2,h3⟩=>by rw [h1,h2,h3],fun h=>by injection h with h1 h2 h3;exact ⟨h1,h2,h3⟩⟩
theorem ZhB :∀(l:List Nd),(∀x∈l,∀y z,WF x y= -1->WF y z= -1->WF x z= -1)->∀m n,JA l m= -1->JA m n= -1->JA l n= -1
 | [],_,m,n,h1,h2=>by
   cases m with
   |nil=>rw [JA] at h1;omega
   | cons y m=>
     cases n with
     |nil=>rw [JA] at h2;omega
     |cons z n=>rw [JA]
 | x :: l, h,m,n,h1,h2=>by
   cases m with
   |nil=>rw [JA] at h1;omega
   | cons y m=>
     cases n with
     |nil=>rw [JA] at h2;omega
     | cons z n=>
       rw [JA] at h1 h2 ⊢;have ih:=ZhB l (fun y hy=>h y (Xs _ hy)) m n;by_cases h0:WF x y=0
       . have e:=(JB x y).1 h0;subst e;rw [Qb oM] at h1;by_cases h3:WF x z=0
         . rw [Qb oM] at h2 ⊢;exact ih h1 h2
         . rw [Qc h3] at h2 ⊢;exact h2
       . rw [Qc h0] at h1;by_cases h3:WF y z=0
         . have e:=(JB y z).1 h3;subst e;rw [Qc oM];exact h1
         . rw [Qc h3] at h2;have:=h x (Xu ..) y z h1 h2;rw [Qc oM];exact this
theorem ZcG:∀(x y z:Nd),WF x y= -1->WF y z= -1->WF x z= -1:=Nd.ind fun o a l ih y z h1 h2=>by
 obtain ⟨o',a',l'⟩:=y
 obtain ⟨o2,a2,l2⟩:=z
 rw [WF,ZqS] at h1 h2 ⊢
 rcases h1 with h1|⟨e1,h1⟩
 . rcases h2 with h2|⟨e2,_⟩
   . exact .inl (ZlW _ _ _ h1 h2)
   . rw [<-(Pn _ _).1 e2];exact .inl h1
 . rw [(Pn _ _).1 e1];rcases h2 with h2|⟨e2,h2⟩
   . exact .inl h2
   . refine .inr ⟨e2,?_⟩;rcases h1 with h1|⟨e1,h1⟩
     . rcases h2 with h2|⟨e2,_⟩
       . exact .inl (Zgg _ _ _ h1 h2)
       . rw [<-(T8 _ _).1 e2];exact .inl h1
     . rw [(T8 _ _).1 e1];rcases h2 with h2|⟨e2,h2⟩
       . exact .inl h2
       . exact .inr ⟨e2,ZhB l ih _ _ h1 h2⟩
def leT (x y:Nd):Prop:=WF x y≠1
theorem GU (x:Nd):leT x x:=by
 have:=(JB x x).2 rfl
 unfold leT;omega
theorem Zd3 {x y:Nd} (h:leT x y) (h':leT y x):x=y:=by
 unfold leT at*
 have:=Zbx x y
 have:=SA x y
 exact (JB x y).1 oM
theorem ZhC {x y:Nd}:leT x y↔WF x y= -1\/x=y:=by
 unfold leT
 have:=SA x y
 rw [<-JB x y];omega
theorem J1 {x y z:Nd} (h:leT x y) (h':leT y z):leT x z:=by
 rw [ZhC] at*
 rcases h with h|rfl
 . rcases h' with h'|rfl
   . exact .inl (ZcG x y z h h')
   . exact .inl h
 . exact h'
theorem ZcH {x y:Nd}:¬WF x y<0↔leT y x:=by
 unfold leT
 have:=Zbx x y
 have:=SA x y
 omega
end
section
mutual
def szT:Nd->Nat
 | .mk _ _ l=>1+szL l
def szL:List Nd->Nat
 |[]=>0
 |x::l=>szT x+szL l
end
mutual
def dpT:Nd->Nat
 | .mk _ _ l=>1+dpL l
def dpL:List Nd->Nat
 |[]=>0
 |x::l=>max (dpT x) (dpL l)
end
theorem G4 (l m:List Nd):szL (l++m)=szL l+szL m:=by
 induction l with
 |nil=>simp [szL]
 |cons x l ih=>rw [Vd,szL,szL,ih,Vv]
theorem ζw {l:List Nd} {k:Nat} {x:Nd} (h:l[k]? =some x):szL (l.take (k+1))=szL (l.take k)+szT x:=by
 rw [List.take_add_one,h,G4];simp [szL]
theorem ZhD (t:Nd):1<=szT t:=by cases t;rw [szT];omega
theorem Po {l:List Nd} {x:Nd} (h:x∈l):szT x<=szL l:=by
 induction l with
 |nil=>cases h
 | cons y l ih=>
   rw [szL];rcases Xh.1 h with rfl|h
   . omega
   . have:=ih h;omega
theorem ZoL {l:List Nd} {x:Nd} (h:x∈l):dpT x<=dpL l:=by
 induction l with
 |nil=>cases h
 | cons y l ih=>
   rw [dpL];rcases Xh.1 h with rfl|h
   . omega
   . have:=ih h;omega
theorem ZqT {l:List Nd} {n:Nat}:dpL l<=n↔∀x∈l,dpT x<=n:=by
 induction l with
 |nil=>simp [dpL]
 |cons y l ih=>rw [dpL,Nat.max_le,ih];simp
def rightT (t:Nd):Bool:=
 if t.op=1 then t.l.isEmpty&&isName t.act else if t.op=2 then t.l.isEmpty&&decide (t.act=ByteArray.empty) else if t.op=3\/t.op=4\/t.op=5 then !t.l.isEmpty&&decide (t.act=ByteArray.empty)
 else if t.op=6 then decide (t.l.length=2)&&decide (t.act=ByteArray.empty) else false
mutual
def okT:Nd->Bool
 | .mk o a l=>rightT (.mk o a l)&&okL l
def okL:List Nd->Bool
 |[]=>true
 |x::l=>okT x&&okL l
end
theorem ZoM {l:List Nd}:okL l=true↔∀x∈l,okT x=true:=by
 induction l with
 |nil=>simp [okL]
 |cons x l ih=>rw [okL,Xe,ih];simp
theorem JU {t:Nd}:okT t=true↔rightT t=true/\∀x∈t.l,okT x=true:=by
 obtain ⟨o,a,l⟩:=t
 rw [okT,Xe,ZoM];rfl
def Te (t:Nd) (most:Int) (d:Int):Bool:=okT t&&decide ((szT t:Int)<=most)&&decide (d+dpT t<=61)
theorem ZlY {t:Nd} {most d:Int} (h:most<1\/60<d\/rightT t=false):Te t most d=false:=by
 cases hm:Te t most d with
 |false=>rfl
 | true=>
   exfalso;unfold Te at hm;simp only [Xe,U9] at hm;obtain ⟨⟨h1,h2⟩,h3⟩:=hm;have h4:=ZhD t;have h5:1<=dpT t:=by cases t;rw [dpT];omega
   rcases h with h|h|h
   . omega
   . omega
   . rw [(JU.1 h1).1] at h;cases h
theorem Zd4 {t:Nd} {most d:Int} {k:Nat} {x:Nd} (hx:t.l[k]? =some x) (h:Te x (most-(1+szL (t.l.take k))) (d+1)=false):Te t most d=false:=by
 cases hm:Te t most d with
 |false=>rfl
 | true=>
   exfalso;unfold Te at hm h;simp only [Xe,U9] at hm;obtain ⟨⟨h1,h2⟩,h3⟩:=hm;have hmem:=Xb hx;have e1:=(JU.1 h1).2 x hmem;have e2:szL t.l=szL (t.l.take k)+szL (t.l.drop k):=by rw [<-G4,Vy]
   have e3:szT x<=szL (t.l.drop k):=Po (Xb (show (t.l.drop k)[0]? =some x by rw [Vp];exact hx));have e4:szT t=1+szL t.l:=by cases t;rw [szT];rfl
   have e5:dpT t=1+dpL t.l:=by cases t;rw [dpT];rfl
   have e6:=ZoL hmem;rw [e1,U' oM,U' oM] at h
   cases h
theorem ZhE {t:Nd} {most d:Int} (hr:rightT t=true) (h1:1<=most) (h2:d<=60) (h:∀k x,t.l[k]? =some x->Te x (most-(1+szL (t.l.take k))) (d+1)=true):Te t most d=true:=by
 have e4:szT t=1+szL t.l:=by cases t;rw [szT];rfl
 have e5:dpT t=1+dpL t.l:=by cases t;rw [dpT];rfl
 unfold Te at h ⊢
 have key:∀k x,t.l[k]? =some x->okT x=true/\(szT x:Int)<=most-(1+szL (t.l.take k))/\d+1+dpT x<=61:=fun k x hx=>by
  have:=h k x hx;simp only [Xe,U9] at this;exact ⟨this.1.1,this.1.2,this.2⟩
 simp only [Xe,U9]
 refine ⟨⟨JU.2 ⟨hr,fun x hx=>?_⟩,?_⟩,?_⟩
 . obtain ⟨k,hk⟩:=XM hx;exact (key k x hk).1
 . rw [e4];rcases hn:t.l.length with _|n
   . have:t.l=[]:=Xv hn;rw [this];simp [szL];omega
   . obtain ⟨x,hx⟩:∃x,t.l[n]? =some x:=⟨_,Xq oM⟩;have e1:=(key n x hx).2.1;have e2:=ζw hx;rw [Xt (show t.l.length<=n+1 by omega)] at e2;omega
 . rw [e5];have:dpL t.l<=(60-d).toNat:=ZqT.2 fun x hx=>by
    obtain ⟨k,hk⟩:=XM hx;have:=(key k x hk).2.2;omega
   omega
def Gc (t:Nd):Bool:=Te t 400 1
theorem ζx {t:Nd} (h:Gc t=true):okT t=true:=by unfold Gc Te at h;simp only [Xe] at h;exact h.1.1
theorem ζy {t:Nd} (h:Gc t=true):szT t<=400:=by unfold Gc Te at h;simp only [Xe,U9] at h;omega
def Ob (x:Nd):List Nd->List Nd
 |[]=>[x]
 |y::l=>if WF y x<0 then y::Ob x l else x::y::l
def SB (x:Nd):List Nd->List Nd
 |[]=>[x]
 |y::l=>if WF y x<0 then y::SB x l else if WF y x=0 then y::l else x::y::l
def Za8 (l:List Nd):List Nd:=l.foldl (fun m x=>Ob x m) []
def Tf:List Nd->List Nd
 |[]=>[]
 | x::l=>match l with
   |[]=>[x]
   |y::m=>if WF x y=0 then Tf (y::m) else x::Tf (y::m)
abbrev AscT (l:List Nd):Prop:=l.Pairwise fun x y=>leT x y
abbrev StrT' (l:List Nd):Prop:=l.Pairwise fun x y=>WF x y<0
theorem Zqn {x y:Nd} (h:WF x y<0):leT x y:=by unfold leT;omega
theorem ZrQ {x y:Nd} (h:WF x y<0):x≠y:=fun e=>by have:=(JB x y).2 e;omega
theorem Hf {x y:Nd} (h:leT x y) (h':x≠y):WF x y<0:=by
 rcases ZhC.1 h with h|h
 . omega
 . exact Qd h h'
theorem RH (x:Nd):∀l,(Ob x l).Perm (x::l)
 |[]=>List.Perm.refl _
 | y::l=>by
   rw [Ob];split
   . exact ((RH x l).cons y).trans (List.Perm.swap ..)
   . exact List.Perm.refl _
theorem Zd5 (x:Nd):∀l,AscT l->AscT (Ob x l)
 |[],_=>V8 ..
 | y ::l,h=>by
   rw [Ob];obtain ⟨h1,h2⟩:=Xw.1 h;split
   . rename_i hl;refine Xw.2 ⟨fun z hz=>?_,Zd5 x l h2⟩;rcases Xh.1 ((RH x l).mem_iff.1 hz) with rfl|hz
     . exact Zqn hl
     . exact h1 z hz
   . rename_i hl;have hxy:leT x y:=ZcH.1 hl;refine Xw.2 ⟨fun z hz=>?_,h⟩;rcases Xh.1 hz with rfl|hz
     . exact hxy
     . exact J1 hxy (h1 z hz)
theorem Zd6 (l:List Nd):∀m,AscT m->AscT (l.foldl (fun m x=>Ob x m) m)/\(l.foldl (fun m x=>Ob x m) m).Perm (m++l):=by
 induction l with
 |nil=>intro m h;exact ⟨h,sM⟩
 | cons x l ih=>
   intro m h;rw [Vk];obtain ⟨h1,h2⟩:=ih _ (Zd5 x m h);refine ⟨h1,h2.trans ?_⟩;exact ((RH x m).append_right l).trans (by
    rw [Vd];exact (List.perm_middle (l₁:=m) (a:=x) (l₂:=l)).symm)
theorem Oc (l:List Nd):AscT (Za8 l):=(Zd6 l [] List.Pairwise.nil).1
theorem Lh (l:List Nd):(Za8 l).Perm l:=by
 have:=(Zd6 l [] List.Pairwise.nil).2
 rwa [XX] at this
theorem Zd7 {l m:List Nd} (hl:AscT l) (hm:AscT m) (h:l.Perm m):l=m:=by
 exact List.Perm.eq_of_pairwise (fun a b _ _ h1 h2=>Zd3 h1 h2) hl hm h
theorem ZoN {l m:List Nd} (hm:AscT m) (h:m.Perm l):m=Za8 l:=Zd7 hm (Oc l) (h.trans (Lh l).symm)
theorem ζz (x:Nd):∀l z,z∈SB x l↔z=x\/z∈l
 |[],z=>by simp [SB]
 | y :: l,z=>by
   rw [SB];split
   . rw [Xh,ζz x l z,Xh];constructor
     . rintro (h|h|h)<;>simp [h]
     . rintro (h|h|h)<;>simp [h]
   . split
     . rename_i h;rw [(JB y x).1 h];simp
     . simp
theorem Zd8 (x:Nd):∀l,StrT' l->StrT' (SB x l)
 |[],_=>V8 ..
 | y :: l,h=>by
   rw [SB];obtain ⟨h1,h2⟩:=Xw.1 h;split
   . rename_i hl;refine Xw.2 ⟨fun z hz=>?_,Zd8 x l h2⟩;rcases (ζz x l z).1 hz with rfl|hz
     . exact hl
     . exact h1 z hz
   . rename_i hl;split
     . exact h
     . rename_i hn;have hxy:WF x y<0:=Hf (ZcH.1 hl) fun e=>hn ((JB y x).2 e.symm);refine Xw.2 ⟨fun z hz=>?_,h⟩;rcases Xh.1 hz with rfl|hz
       . exact hxy
       . have a:=h1 z hz;have b1:=SA x y;have b2:=SA y z;have:=ZcG x y z oM oM;omega
theorem ZhF {l:List Nd} (h:StrT' l):AscT l:=h.imp fun h=>Zqn h
theorem Zby {l:List Nd} (h:StrT' l):l.Nodup:=h.imp fun h=>ZrQ h
theorem ζA {l m:List Nd} (hl:StrT' l) (hm:StrT' m) (h:∀z,z∈l↔z∈m):l=m:=
 Zd7 (ZhF hl) (ZhF hm) ((U5 (Zby hl) (Zby hm)).2 h)
theorem GV:∀(l:List Nd) z,z∈Tf l↔z∈l
 |[],z=>by simp [Tf]
 |[x],z=>by simp [Tf]
 | x ::y::m,z=>by
   rw [Tf];split
   . rename_i h;rw [GV (y::m),(JB x y).1 h];simp
   . rw [Xh,GV (y::m)];simp
theorem TG:∀(l:List Nd),AscT l->StrT' (Tf l)
 |[],_=>List.Pairwise.nil
 |[x],_=>V8 ..
 | x ::y::m,h=>by
   rw [Tf];obtain ⟨h1,h2⟩:=Xw.1 h;split
   . exact TG (y::m) h2
   . rename_i hn;refine Xw.2 ⟨fun z hz=>?_,TG (y::m) h2⟩;have hz':=(GV (y::m) z).1 hz;have hxz:=h1 z hz';refine Hf hxz fun e=>hn ?_;subst e;have hyx:leT y x:=by
      rcases Xh.1 hz' with h|h
      . rw [h];exact GU y
      . exact (Xw.1 h2).1 _ h
     exact (JB x y).2 (Zd3 (h1 y (Xu ..)) hyx)
theorem ZlZ (l:List Nd):∀m,StrT' m->StrT' (l.foldl (fun m x=>SB x m) m)/\∀z,z∈l.foldl (fun m x=>SB x m) m↔z∈m\/z∈l:=by
 induction l with
 |nil=>intro m h;exact ⟨h,sM⟩
 | cons x l ih=>
   intro m h;rw [Vk];obtain ⟨h1,h2⟩:=ih _ (Zd8 x m h);refine ⟨h1,fun z=>?_⟩;rw [h2,ζz,Xh];constructor
   . rintro ((h|h)|h)<;>simp [h]
   . rintro (h|h|h)<;>simp [h]
theorem ZoO (l:List Nd):Tf (Za8 l)=l.foldl (fun m x=>SB x m) []:=by
 obtain ⟨h1,h2⟩:=ZlZ l [] List.Pairwise.nil
 refine ζA (TG _ (Oc l)) h1 fun z=>?_
 rw [GV,(Lh l).mem_iff,h2];simp
end
section
def Hg:Nd:= .mk 2 ByteArray.empty []
def Kr (op:Int) (l:List Nd):List Nd:=l.flatMap fun x=>if x.op=op then x.l else if x.op≠2\/op=4 then [x] else []
def Ef (op:Int):List Nd->Nd
 |[]=>Hg
 |[x]=>x
 |x::y::l=> .mk op ByteArray.empty (x::y::l)
def Rt (op:Int) (p:List Nd):List Nd:=if op=3 then p else if op=4 then Tf (Za8 p) else Za8 p
def RI (op:Int) (l:List Nd):Nd:=Ef op (Rt op (Kr op l))
def Gh (f s:Nd):Nd×Nd:=if f.op=6 then match f.l with
 |a::b::_=>(a,RI 4 [b,s])
 |_=>(f,s) else (f,s)
def ζB (p:Nd×Nd):Nd:=if p.1.op=2/\p.2.op=2 then Hg else .mk 6 ByteArray.empty [p.1,p.2]
def ZoP:List Nd->Nd
 |f::s::_=>ζB (Gh f s)
 |_=>Hg
def ζC (o:Int) (a:BA) (l:List Nd):Nd:=if o=1\/o=2 then .mk o a [] else if o=6 then ZoP l else RI o l
mutual
def Yt:Nd->Nd
 | .mk o a l=>ζC o a (Kd l)
def Kd:List Nd->List Nd
 |[]=>[]
 |x::l=>Yt x::Kd l
end
theorem S8 (l:List Nd):Kd l=l.map Yt:=by
 induction l with
 |nil=>rfl
 |cons x l ih=>rw [Kd,ih];rfl
def G5 (op:Int) (l:List Nd):List Nd:=l.flatMap fun x=>if x.op=op then x.l else [x]
def Od (op:Int) (m:List Nd) (x:Nd):List Nd:=if op=4 then SB x m else if x.op=2 then m else if op=5 then Ob x m else m++[x]
def Eg (op:Int) (l:List Nd):Nd:=Ef op ((G5 op l).foldl (Od op) [])
def SC (f s:Nd):Nd×Nd:=if f.op=6 then match f.l with
 |a::b::_=>(a,Eg 4 [b,s])
 |_=>(f,s) else (f,s)
def ZoQ:List Nd->Nd
 |f::s::_=>ζB (SC f s)
 |_=>Hg
mutual
def Zd9:Nd->Nd
 | .mk o a l=>if l.isEmpty then .mk o a [] else if o=6 then ZoQ (ζD l) else Eg o (ζD l)
def ζD:List Nd->List Nd
 |[]=>[]
 |x::l=>Zd9 x::ζD l
end
theorem Zea (l:List Nd):ζD l=l.map Zd9:=by
 induction l with
 |nil=>rfl
 |cons x l ih=>rw [ζD,ih];rfl
theorem Zgi {α β:Type} (f g:α->β->α) (l:List β) (h:∀b∈l,∀a,f a b=g a b):∀a,l.foldl f a=l.foldl g a:=by
 induction l with
 |nil=>exact fun _=>rfl
 |cons x l ih=>intro a;rw [Vk,Vk,h x (Xu ..)];exact ih (fun b hb=>h b (Xs _ hb)) _
theorem Zjn (l:List Nd):∀m,l.foldl (fun m x=>m++[x]) m=m++l:=by
 induction l with
 |nil=>simp
 |cons x l ih=>intro m;rw [Vk,ih];simp
theorem Zjo (f:List Nd->Nd->List Nd) (l:List Nd):∀m,l.foldl (fun m x=>if x.op=2 then m else f m x) m=(l.filter fun x=>decide (x.op≠2)).foldl f m:=by
 induction l with
 |nil=>exact fun _=>rfl
 | cons x l ih=>
   intro m;rw [Vk,UP];by_cases h:x.op=2
   . rw [Qc h,ih];simp [h]
   . rw [Qb h,ih];simp [h]
theorem ZoR {op:Int} {l:List Nd} (h:∀x∈l,x.op=op->∀y∈x.l,y.op≠2) (h4:op≠4):Kr op l=(G5 op l).filter fun x=>decide (x.op≠2):=by
 induction l with
 |nil=>rfl
 | cons x l ih=>
   have ih:=ih fun y hy=>h y (Xs _ hy);unfold Kr G5 at ih ⊢;rw [Xr,Xr,V0,ih];congr 1;by_cases h1:x.op=op
   . rw [Qc h1,Qc h1];exact (UQ.2 fun y hy=>U' (h x (Xu ..) h1 y hy)).symm
   . rw [Qb h1,Qb h1];by_cases h2:x.op=2
     . simp [h2,h4]
     . simp [h2]
theorem Zl0 (l:List Nd):Kr 4 l=G5 4 l:=by
 unfold Kr G5
 congr 1
 funext x
 simp
theorem ZoS {op:Int} {l:List Nd} (h:∀x∈l,x.op=op->op≠4->∀y∈x.l,y.op≠2) (ho:op=3\/op=4\/op=5):Eg op l=RI op l:=by
 unfold Eg RI Rt
 congr 1
 by_cases h4:op=4
 . subst h4;rw [Qb dC,Qc rfl,Zl0,ZoO];rfl
 . rw [Qb h4,ZoR (fun x hx he=>h x hx he h4) h4];have e:(G5 op l).foldl (Od op) []=(G5 op l).foldl (fun m x=>if x.op=2 then m else (fun m x=>if op=5 then Ob x m else m++[x]) m x) []:=by
    refine Zgi _ _ _ (fun x _ m=>?_) _;unfold Od;rw [Qb h4]
   rw [e,Zjo];by_cases h3:op=3
   . subst h3;rw [Qc rfl];have:=Zjn ((G5 (3:Int) l).filter fun x=>decide (x.op≠2)) [];rw [XX] at this;exact this
   . have h5:op=5:=oM;subst h5;rw [Qb h3];rfl
structure NfN (t:Nd):Prop where
 rt:rightT t=true
 two:t.op≠6->∀x∈t.l,2<=t.l.length/\x.op≠t.op
 ns:t.op=3\/t.op=5->∀x∈t.l,x.op≠2
 xo:t.op=4->StrT' t.l
 an:t.op=5->AscT t.l
 lp:t.op=6->∃a b,t.l=[a,b]/\a.op≠6/\¬(a.op=2/\b.op=2)
inductive NF:Nd->Prop
 |mk (t:Nd) (h:NfN t) (hp:∀x∈t.l,NF x):NF t
theorem NF.n {t:Nd}:NF t->NfN t
 | .mk _ h _=>h
theorem NF.p {t:Nd}:NF t->∀x∈t.l,NF x
 | .mk _ _ h=>h
theorem NF.ok {t:Nd}:NF t->okT t=true
 | .mk _ h hp=>JU.2 ⟨h.rt,fun x hx=>NF.ok (hp x hx)⟩
theorem RJ {t:Nd} (h:rightT t=true):t.op=1\/t.op=2\/t.op=3\/t.op=4\/t.op=5\/t.op=6:=by
 unfold rightT at h
 by_cases h1:t.op=1
 . exact .inl h1
 . by_cases h2:t.op=2
   . exact .inr (.inl h2)
   . by_cases h3:t.op=3\/t.op=4\/t.op=5
     . omega
     . by_cases h4:t.op=6
       . omega
       . rw [Qb h1,Qb h2,Qb h3,Qb h4] at h;cases h
theorem Zjp:rightT Hg=true:=by unfold rightT Hg;simp [Nd.op,Nd.l,Nd.act]
theorem ZhG {t:Nd} (hr:rightT t=true) (hl:t.l=[]) (ho:t.op=1\/t.op=2):NF t:=
 .mk t ⟨hr,fun _ x hx=>by (rw [hl] at hx;cases hx),fun h=>oM,fun h=>oM,fun h=>oM,fun h=>oM⟩ fun x hx=>by rw [hl] at hx;cases hx
theorem Zl1:NF Hg:=ZhG Zjp rfl (.inr rfl)
theorem ZoT {op:Int} {l:List Nd} (hl:∀x∈l,NF x) (ho:op=3\/op=4\/op=5) {y:Nd} (hy:y∈Kr op l):NF y/\y.op≠op/\(op≠4->y.op≠2):=by
 unfold Kr at hy
 obtain ⟨x,hx,hy⟩:=Um.1 hy
 by_cases h1:x.op=op
 . rw [Qc h1] at hy;have hn:=(hl x hx).n;refine ⟨(hl x hx).p y hy,?_,fun h4=>hn.ns oM y hy⟩;rw [<-h1];exact (hn.two oM y hy).2
 . rw [Qb h1] at hy;split at hy
   . rename_i h2;rw [XC] at hy;subst hy;exact ⟨hl _ hx,h1,fun h4=>oM⟩
   . cases hy
theorem ZoU {op:Int} {p:List Nd} {y:Nd}:y∈Rt op p↔y∈p:=by
 unfold Rt
 split
 . exact Iff.rfl
 . split
   . rw [GV,(Lh p).mem_iff]
   . rw [(Lh p).mem_iff]
theorem ZqU {op:Int} (ho:op=3\/op=4\/op=5) {p:List Nd} (hp:∀y∈p,NF y/\y.op≠op/\(op≠4->y.op≠2)) (h4:op=4->StrT' p) (h5:op=5->AscT p):NF (Ef op p):=by
 match p,hp,h4,h5 with
 |[],_,_,_=>exact Zl1
 |[x],hp,_,_=>exact (hp x (Xu ..)).1
 | x::y::l,hp,h4,h5=>
   refine .mk _ ⟨?_,fun _ z hz=>⟨by simp [Ef,Nd.l],(hp z hz).2.1⟩,fun h z hz=>(hp z hz).2.2 (by simp only [Ef,Nd.op] at h;omega),fun h=>h4 h,fun h=>h5 h,fun h=>?_⟩ fun z hz=>(hp z hz).1
   . rcases ho with rfl|rfl|rfl<;>simp [rightT,Ef,Nd.op,Nd.l,Nd.act]
   . simp only [Ef,Nd.op] at h;omega
theorem ZhH {op:Int} (ho:op=3\/op=4\/op=5) {l:List Nd} (hl:∀x∈l,NF x):NF (RI op l):=by
 refine ZqU ho (fun y hy=>ZoT hl ho (ZoU.1 hy)) (fun h=>?_) (fun h=>?_)
 . subst h;unfold Rt;rw [Qb dC,Qc rfl];exact TG _ (Oc _)
 . subst h;unfold Rt;rw [Qb dC,Qb dC];exact Oc _
theorem ZoV {p:Nd×Nd} (h1:NF p.1) (h2:NF p.2) (h6:p.1.op≠6):NF (ζB p):=by
 unfold ζB
 split
 . exact Zl1
 . rename_i h;refine .mk _ ⟨by simp [rightT,Nd.op,Nd.l,Nd.act],fun h=>Qd rfl h,fun h=>?_,fun h=>?_,fun h=>?_,fun _=>⟨_,_,rfl,h6,h⟩⟩ fun x hx=>?_
   . simp [Nd.op] at h
   . simp [Nd.op] at h
   . simp [Nd.op] at h
   . rcases Xh.1 hx with rfl|hx
     . exact h1
     . rcases Xh.1 hx with rfl|hx
       . exact h2
       . cases hx
theorem ZoW {f s:Nd} (hf:NF f) (hs:NF s):NF (Gh f s).1/\NF (Gh f s).2/\(Gh f s).1.op≠6:=by
 unfold Gh
 by_cases h:f.op=6
 . rw [Qc h];obtain ⟨a,b,hl,ha,_⟩:=hf.n.lp h;rw [hl];have hp:=hf.p;rw [hl] at hp;have hb:=hp b sM;refine ⟨hp a sM,ZhH oM fun x hx=>?_,ha⟩;rcases Xh.1 hx with rfl|hx
   . exact hb
   . rw [XC] at hx;subst hx;exact hs
 . rw [Qb h];exact ⟨hf,hs,h⟩
theorem Zl2:∀(t:Nd),okT t=true->NF (Yt t):=Nd.ind fun o a l ih hok=>by
 obtain ⟨hr,hp⟩:=JU.1 hok
 simp only [Nd.l] at hp
 have hl:∀x∈Kd l,NF x:=fun x hx=>by
  rw [S8] at hx;obtain ⟨y,hy,rfl⟩:=Xp.1 hx;exact ih y hy (hp y hy)
 rw [Yt]
 unfold ζC
 split
 . rename_i h;refine ZhG ?_ rfl h;unfold rightT at hr ⊢;rcases h with rfl|rfl
   . simp [Nd.op,Nd.l,Nd.act] at hr ⊢;exact hr.2
   . simp [Nd.op,Nd.l,Nd.act] at hr ⊢;exact hr.2
 . split
   . rename_i h1 h;subst h;have hlen:l.length=2:=by
      unfold rightT at hr;simp [Nd.op,Nd.l,Nd.act] at hr;exact Qe hr.1
     obtain ⟨x,y,rfl⟩:∃x y,l=[x,y]:=by
      match l,hlen with
      |[x,y],_=>exact ⟨x,y,rfl⟩
     rw [Kd,Kd,Kd] at hl ⊢;obtain ⟨g1,g2,g3⟩:=ZoW (hl (Yt x) sM) (hl (Yt y) sM);exact ZoV g1 g2 g3
   . rename_i h1 h2;exact ZhH (by have:=RJ hr;simp only [Nd.op] at this;omega) hl
theorem ZcI:∀(t:Nd),okT t=true->Zd9 t=Yt t:=Nd.ind fun o a l ih hok=>by
 obtain ⟨hr,hp⟩:=JU.1 hok
 simp only [Nd.l] at hp
 have hnf:∀x∈Kd l,NF x:=fun x hx=>by
  rw [S8] at hx;obtain ⟨y,hy,rfl⟩:=Xp.1 hx;exact Zl2 y (hp y hy)
 have hlr:ζD l=Kd l:=by
  rw [Zea,S8];exact VQ fun x hx=>ih x hx (hp x hx)
 rw [Zd9,Yt,hlr]
 have hops:=RJ hr
 simp only [Nd.op] at hops
 unfold ζC
 by_cases h12:o=1\/o=2
 . have:l=[]:=by
    unfold rightT at hr;rcases h12 with rfl|rfl<;>simp [Nd.op,Nd.l] at hr<;>exact hr.1
   rw [Qc h12,this];rfl
 . have hne:l.isEmpty=false:=by
    cases l with
    | nil=>
      exfalso;unfold rightT at hr;rcases hops with h|h|h|h|h|h<;>subst h<;>simp [Nd.op,Nd.l] at hr h12
    |cons=>rfl
   rw [Qb h12,hne];simp only [VE,if_false];have hsil:∀{op:Int} {m:List Nd},(∀x∈m,NF x)->(op=3\/op=4\/op=5)->Eg op m=RI op m:=fun {op m} hm ho=>
    ZoS (fun x hx he h4 y hy=>(hm x hx).n.ns oM y hy) ho
   by_cases h6:o=6
   . rw [Qc h6,Qc h6];subst h6;match hm:Kd l with
     |[]=>rfl
     |[_]=>rfl
     | f ::s::m=>
       rw [ZoQ,ZoP];congr 1;rw [hm] at hnf;have hf:=hnf f sM;have hs:=hnf s sM;unfold SC Gh;by_cases hfo:f.op=6
       . rw [Qc hfo,Qc hfo];obtain ⟨x,y,hl,_⟩:=hf.n.lp hfo;rw [hl];have hp:=hf.p;rw [hl] at hp;show (x,Eg 4 [y,s])=(x,RI 4 [y,s]);rw [hsil (op:=4) (m:=[y,s]) (fun z hz=>by
          rcases Xh.1 hz with rfl|hz
          . exact hp _ sM
          . rw [XC] at hz;subst hz;exact hs) oM]
       . rw [Qb hfo,Qb hfo]
   . rw [Qb h6,Qb h6];exact hsil hnf oM
end
end Go.Proofs.YtmkojdfiadbeeaaGreat
