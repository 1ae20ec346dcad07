/-
  The languages of process trees; a normal form has the tree's language. Plain Lean.
  Trees with the parts of choices and mixtures in another order have the same language. Plain Lean.
  Plain laws: automata of trees. No program in sight.
  Plain laws: the operations on automata are those on languages of names. No program in sight.
  Plain laws: the automaton of a tree has its language. No program in sight.
  Plain laws: what Accepts, Equivalent, and Auto of trees answer. No program in sight.
  Plain laws: a normal form, a choice. No program in sight.
  Plain laws: lists of strings in order; a string put into its place. No program in sight.
  Walks: words, moves, automata are compared; the law's bounds (layer 7).
  Plain laws: the words of an automaton, in a form that is evaluated. No program in sight.
  Plain laws: the chapter's automaton is evaluated. No program in sight.
  Walks: automata are compared; the law's bounds; the chapter's automaton (layer 7).
  Walks: automata: Star.
  Walks: automata: two automata side by side.
  Walks: automata: products.
  Walks: automata: the first word of a product.
  Walks: automata: both, compare, Equivalent, Included, Product.
-/
import Derived.Test.YtgfabnhpllkebaaGreatDoorPq06
import Derived.Test.YtgfabnhpllkebaaGreatDoorPq09
import Derived.Test.YtgfabnhpllkebaaGreatDoorPq07
import Derived.Test.YtgfabnhpllkebaaGreatDoorPq08
import Derived.Test.YtgfabnhpllkebaaGreatDoorPq04
import Derived.Test.YtgfabnhpllkebaaGreatDoorMShelfG
import Derived.Test.YtgfabnhpllkebaaGreatDoorPq01
namespace Go.Proofs.YtgfabnhpllkebaaGreatDoor
open Go.RowKit Go.Cb Go.En
set_option linter.all false
abbrev Lg:=List ByteArray→Prop
def ZfN:List Lg→Lg
 |[]=>fun w=>w=[]
 |A::m=>fun w=>∃u v,w=u++v∧A u∧ZfN m v
def ZgA (m:List Lg):Lg:=fun w=>∃A∈m,A w
inductive Shf:List ByteArray→List ByteArray→List ByteArray→Prop
 |nil:Shf [] [] []
 |left {a:ByteArray} {u v w:List ByteArray} (h:Shf u v w):Shf (a::u) v (a::w)
 |right {a:ByteArray} {u v w:List ByteArray} (h:Shf u v w):Shf u (a::v) (a::w)
def ZeQ:List Lg→Lg
 |[]=>fun w=>w=[]
 |A::m=>fun w=>∃u v,Shf u v w∧A u∧ZeQ m v
inductive LpG (A B:Lg):Lg
 |one {w:List ByteArray} (h:A w):LpG A B w
 |more {u v z:List ByteArray} (h1:LpG A B u) (h2:B v) (h3:A z):LpG A B (u++(v++z))
def lpG:List Lg→Lg
 |A::B::_=>LpG A B
 |_=>fun _=>False
def opG (o:Int) (a:ByteArray) (m:List Lg):Lg:=if o=1 then (fun w=>w=[a]) else if o=2 then (fun w=>w=[]) else if o=3 then ZfN m else if o=4 then ZgA m else if o=5 then ZeQ m else lpG m
mutual
def ζ7:Nd→Lg
 | .mk o a l=>opG o a (Zuk l)
def Zuk:List Nd→List Lg
 |[]=>[]
 |x::l=>ζ7 x::Zuk l
end
theorem ZyJ (l:List Nd):Zuk l=l.map ζ7:=by
 induction l with
 |nil=>rfl
 |cons x l ih=>rw [Zuk,ih];rfl
theorem Zdw (o:Int) (a:ByteArray) (l:List Nd):ζ7 (.mk o a l)=opG o a (l.map ζ7):=by rw [ζ7,ZyJ]
theorem ZiV (x:Nd):ζ7 x=opG x.op x.act (x.l.map ζ7):=by obtain ⟨o,a,l⟩:=x;exact Zdw o a l
theorem ZfO {x:Nd} (h:x.op=2):ζ7 x=fun w=>w=[]:=by rw [ZiV,h];rfl
theorem Zo6:∀w,Shf w [] w
 |[]=> .nil
 |a::w=> .left (Zo6 w)
theorem ZeR {u v w:List ByteArray} (h:Shf u v w):Shf v u w:=by
 induction h with
 |nil=>exact .nil
 |left _ ih=>exact .right ih
 |right _ ih=>exact .left ih
theorem Zmf {u w:List ByteArray} (h:Shf u [] w):w=u:=by
 generalize hv:([]:List ByteArray)=v at h
 induction h with
 |nil=>rfl
 |left _ ih=>rw [ih hv]
 |right _ _=>cases hv
theorem ZjA {u v w:List ByteArray} (h:Shf u v w):∀{s z:List ByteArray},Shf s z v→∃x,Shf u s x∧Shf x z w:=by
 induction h with
 |nil=>intro s z h2;cases h2;exact ⟨[], .nil, .nil⟩
 | left _ ih=>
   intro s z h2;obtain ⟨x,h3,h4⟩:=ih h2;exact ⟨_, .left h3, .left h4⟩
 | right _ ih=>
   intro s z h2
   cases h2 with
   |left h2=>obtain ⟨x,h3,h4⟩:=ih h2;exact ⟨_, .right h3, .left h4⟩
   |right h2=>obtain ⟨x,h3,h4⟩:=ih h2;exact ⟨x,h3, .right h4⟩
theorem Zmg {x z w u s:List ByteArray} (h1:Shf x z w) (h2:Shf u s x):∃v,Shf u v w∧Shf s z v:=by
 obtain ⟨v,h3,h4⟩:=ZjA (ZeR h1) (ZeR h2)
 exact ⟨v,ZeR h4,ZeR h3⟩
theorem Zo7:∀(m n:List Lg),ZfN (m++n)=fun w=>∃u v,w=u++v∧ZfN m u∧ZfN n v
 |[],n=>funext fun w=>propext ⟨fun h=>⟨[],w,rfl,rfl,h⟩,fun ⟨u,v,h1,h2,h3⟩=>by cases h2;rw [h1];exact h3⟩
 | A ::m,n=>funext fun w=>propext (by
   show (∃u v,w=u++v∧A u∧ZfN (m++n) v)↔∃u v,w=u++v∧(∃u2 v2,u=u2++v2∧A u2∧ZfN m v2)∧ZfN n v;rw [Zo7 m n];constructor
   · rintro ⟨u,v,rfl,h1,u2,v2,rfl,h2,h3⟩;exact ⟨u++u2,v2,by rw [XA],⟨u,u2,rfl,h1,h2⟩,h3⟩
   · rintro ⟨u,v,rfl,⟨u2,v2,rfl,h1,h2⟩,h3⟩;exact ⟨u2,v2++v,by rw [XA],h1,v2,v,rfl,h2,h3⟩)
theorem Zo8:∀(m n:List Lg),ZeQ (m++n)=fun w=>∃u v,Shf u v w∧ZeQ m u∧ZeQ n v
 |[],n=>funext fun w=>propext ⟨fun h=>⟨[],w,ZeR (Zo6 w),rfl,h⟩,fun ⟨u,v,h1,h2,h3⟩=>by cases h2;rw [Zmf (ZeR h1)];exact h3⟩
 | A ::m,n=>funext fun w=>propext (by
   show (∃u v,Shf u v w∧A u∧ZeQ (m++n) v)↔∃u v,Shf u v w∧(∃u2 v2,Shf u2 v2 u∧A u2∧ZeQ m v2)∧ZeQ n v;rw [Zo8 m n];constructor
   · rintro ⟨u,v,h0,h1,u2,v2,h4,h2,h3⟩;obtain ⟨x,h5,h6⟩:=ZjA h0 h4;exact ⟨x,v2,h6,⟨u,u2,h5,h1,h2⟩,h3⟩
   · rintro ⟨u,v,h0,⟨u2,v2,h4,h1,h2⟩,h3⟩;obtain ⟨x,h5,h6⟩:=Zmg h0 h4;exact ⟨u2,x,h5,h1,v2,v,h6,h2,h3⟩)
theorem ZkQ (A:Lg):ZfN [A]=A:=funext fun w=>propext ⟨fun ⟨u,v,h1,h2,h3⟩=>by cases h3;rw [h1,XB];exact h2,fun h=>⟨w,[],(XB w).symm,h,rfl⟩⟩
theorem and_one (A:Lg):ZeQ [A]=A:=funext fun w=>propext ⟨fun ⟨u,v,h1,h2,h3⟩=>by cases h3;rw [Zmf h1];exact h2,fun h=>⟨w,[],Zo6 w,h,rfl⟩⟩
theorem ZyK (A B:Lg) (m:List Lg):ZeQ (A::B::m)=ZeQ (B::A::m):=by
 have key:∀A B:Lg,∀w,ZeQ (A::B::m) w→ZeQ (B::A::m) w:=fun A B w=>by
  rintro ⟨u,v,h0,h1,u2,v2,h4,h2,h3⟩;obtain ⟨x,h5,h6⟩:=ZjA h0 h4;obtain ⟨y,h7,h8⟩:=Zmg h6 (ZeR h5);exact ⟨u2,y,h7,h2,u,v2,h8,h1,h3⟩
 exact funext fun w=>propext ⟨key A B w,key B A w⟩
theorem Zrs {m n:List Lg} (h:m.Perm n):ZeQ m=ZeQ n:=by
 induction h with
 |nil=>rfl
 |cons A _ ih=>exact funext fun w=>by show (∃u v,Shf u v w∧A u∧ZeQ _ v)=_;rw [ih];rfl
 |swap A B m=>exact ZyK B A m
 |trans _ _ h1 h2=>exact h1.trans h2
theorem Zul {m n:List Lg} (h:∀A,A∈m↔A∈n):ZgA m=ZgA n:=funext fun w=>propext ⟨fun ⟨A,h1,h2⟩=>⟨A,(h A).1 h1,h2⟩,fun ⟨A,h1,h2⟩=>⟨A,(h A).2 h1,h2⟩⟩
theorem ZyL {op:Int} (ho:op=3∨op=4∨op=5) {p:List Nd} (h4:op=4→p≠[]):ζ7 (Zgy op p)=opG op ByteArray.empty (p.map ζ7):=by
 match p with
 | []=>
   rw [Zgy,ZfO rfl];rcases ho with rfl|rfl|rfl
   · rfl
   · exact absurd rfl (h4 rfl)
   · rfl
 | [x]=>
   rw [Zgy];rcases ho with rfl|rfl|rfl
   · exact (ZkQ _).symm
   · exact funext fun w=>propext ⟨fun h=>⟨_,Xi.2 rfl,h⟩,fun ⟨A,h1,h2⟩=>by rw [UH,Xi] at h1;rw [←h1];exact h2⟩
   · exact (and_one _).symm
 |x::y::l=>rw [Zgy,Zdw]
theorem ZyM {op:Int} (ho:op=3∨op=4∨op=5) (p:List Nd) (a:ByteArray):opG op a ((Zfa op p).map ζ7)=opG op a (p.map ζ7):=by
 rcases ho with rfl|rfl|rfl
 · rfl
 · exact Zul fun A=>by
    rw [Xh,Xh];exact ⟨fun ⟨x,h1,h2⟩=>⟨x,Zhg.1 h1,h2⟩,fun ⟨x,h1,h2⟩=>⟨x,Zhg.2 h1,h2⟩⟩
 · exact Zrs ((Zdc p).map ζ7)
theorem Zrt {op:Int} (ho:op=3∨op=4∨op=5) (a:ByteArray):∀l:List Nd,opG op a ((ZaR op l).map ζ7)=opG op a (l.map ζ7)
 |[]=>rfl
 | x :: l =>by
   have ih:=Zrt ho a l;have e:ZaR op (x::l)=(if x.op=op then x.l else if x.op≠2∨op=4 then [x] else [])++ZaR op l:=rfl;rw [e,Xy];rcases ho with rfl|rfl|rfl
   · show ZfN (_++_)=ZfN (ζ7 x::l.map ζ7);have ih:ZfN ((ZaR 3 l).map ζ7)=ZfN (l.map ζ7):=ih;rw [Zo7,ih];by_cases h3:x.op=3
     · rw [if_pos h3];(have:ZfN (x.l.map ζ7)=ζ7 x:=by rw [ZiV x,h3];rfl);rw [this];rfl
     · rw [if_neg h3];by_cases h2:x.op=2
       · rw [if_neg (by omega),ZfO h2];rfl
       · rw [if_pos (.inl h2)];have:ZfN ([x].map ζ7)=ζ7 x:=ZkQ _;rw [this];rfl
   · show ZgA (_++_)=ZgA (ζ7 x::l.map ζ7);have ih:ZgA ((ZaR 4 l).map ζ7)=ZgA (l.map ζ7):=ih;have hap:∀m n:List Lg,ZgA (m++n)=fun w=>ZgA m w∨ZgA n w:=fun m n=>funext fun w=>propext (by
      constructor
      · rintro ⟨A,h1,h2⟩;rcases Xs.1 h1 with h|h
        · exact .inl ⟨A,h,h2⟩
        · exact .inr ⟨A,h,h2⟩
      · rintro (⟨A,h1,h2⟩|⟨A,h1,h2⟩)
        · exact ⟨A,Xs.2 (.inl h1),h2⟩
        · exact ⟨A,Xs.2 (.inr h1),h2⟩)
     have hx1:ZgA [ζ7 x]=ζ7 x:=funext fun w=>propext ⟨fun ⟨A,h1,h2⟩=>by rw [Xi] at h1;rw [←h1];exact h2,fun h=>⟨_,Xi.2 rfl,h⟩⟩;rw [hap,ih,show ζ7 x::l.map ζ7=[ζ7 x]++l.map ζ7 from rfl,hap,hx1];by_cases h3:x.op=4
     · rw [if_pos h3];(have:ZgA (x.l.map ζ7)=ζ7 x:=by rw [ZiV x,h3];rfl);rw [this]
     · rw [if_neg h3,if_pos (.inr rfl)];rw [show [x].map ζ7=[ζ7 x] from rfl,hx1]
   · show ZeQ (_++_)=ZeQ (ζ7 x::l.map ζ7);have ih:ZeQ ((ZaR 5 l).map ζ7)=ZeQ (l.map ζ7):=ih;rw [Zo8,ih];by_cases h3:x.op=5
     · rw [if_pos h3];(have:ZeQ (x.l.map ζ7)=ζ7 x:=by rw [ZiV x,h3];rfl);rw [this];rfl
     · rw [if_neg h3];by_cases h2:x.op=2
       · rw [if_neg (by omega),ZfO h2];rfl
       · rw [if_pos (.inl h2)];have:ZeQ ([x].map ζ7)=ζ7 x:=and_one _;rw [this];rfl
theorem Zhv {op:Int} (ho:op=3∨op=4∨op=5) (a:ByteArray) {l:List Nd} (hl:∀x∈l,NF x) (hne:l≠[]):ζ7 (Zfq op l)=opG op a (l.map ζ7):=by
 have hop:∀m,opG op ByteArray.empty m=opG op a m:=fun m=>by rcases ho with rfl|rfl|rfl<;>rfl
 rw [Zfq,ZyL ho (fun h4 h=>?_),ZyM ho,Zrt ho,hop]
 subst h4
 obtain ⟨y,hy⟩:=List.exists_mem_of_ne_nil _ (ZDa hl hne)
 have:=(Zhg (op:=4)).2 hy
 rw [h] at this;cases this
theorem ZEg {P Q S:Lg}:LpG (LpG P Q) S=LpG P (ZgA [Q,S]):=by
 have hxQ:∀{w},Q w→ZgA [Q,S] w:=fun h=>⟨Q,by simp,h⟩
 have hxS:∀{w},S w→ZgA [Q,S] w:=fun h=>⟨S,by simp,h⟩
 have lift:∀{w},LpG P Q w→LpG P (ZgA [Q,S]) w:=fun h=>by
  induction h with
  |one h=>exact .one h
  |more _ h2 h3 ih=>exact .more ih (hxQ h2) h3
 have join:∀{u v z},LpG P (ZgA [Q,S]) u→S v→LpG P Q z→LpG P (ZgA [Q,S]) (u++(v++z)):=fun {u v z} h1 h2 h3=>by
  induction h3 with
  |one h=>exact .more h1 (hxS h2) h
  | @more u' v' z' _ h5 h6 ih=>
    rw [show u++(v++(u'++(v'++z')))=(u++(v++u'))++(v'++z') by simp only [XA]];exact .more ih (hxQ h5) h6
 refine funext fun w=>propext ⟨fun h=>?_,fun h=>?_⟩
 · induction h with
   |one h=>exact lift h
   |more _ h2 h3 ih=>exact join ih h2 h3
 · induction h with
   |one h=>exact .one (.one h)
   | @more u v z _ h2 h3 ih=>
     obtain ⟨A,hA,h4⟩:=h2;simp only [Xl,VW,or_false] at hA;rcases hA with rfl|rfl
     · clear join lift
       cases ih with
       |one h=>exact .one (.more h h4 h3)
       | @more u' v' z' h5 h6 h7=>
         rw [show (u'++(v'++z'))++(v++z)=u'++(v'++(z'++(v++z))) by simp only [XA]];exact .more h5 h6 (.more h7 h4 h3)
     · exact .more ih h4 (.one h3)
theorem ZDr:LpG (fun w=>w=[]) (fun w=>w=[])=fun w=>w=[]:=funext fun w=>propext ⟨fun h=>by
 induction h with
 |one h=>exact h
 |more _ h2 h3 ih=>rw [ih,h2,h3];rfl,fun h=> .one h⟩
theorem Zv3 (p:Nd×Nd):ζ7 (Zkq p)=LpG (ζ7 p.1) (ζ7 p.2):=by
 unfold Zkq
 split
 · rename_i h;rw [ZfO rfl,ZfO h.1,ZfO h.2,ZDr]
 · rw [Zdw];rfl
theorem ZyN {f s:Nd} (hf:NF f) (hs:NF s):ζ7 (Zu2 [f,s])=LpG (ζ7 f) (ζ7 s):=by
 rw [Zu2,Zv3]
 unfold Zcs
 split
 · rename_i h6;obtain ⟨a,b,hl,_,_⟩:=hf.n.lp h6;have hb:NF b:=hf.p b (by rw [hl];simp);rw [hl];dsimp only;rw [Zhv (.inr (.inl rfl)) ByteArray.empty (fun x hx=>by simp only [Xl,VW,or_false] at hx;rcases hx with rfl|rfl<;>assumption) (by simp),ZiV f,h6,hl];exact ZEg.symm
 · rfl
theorem Zv4:∀t:Nd,okT t=true→ζ7 (Zal t)=ζ7 t:=Nd.ind fun o a l ih hok=>by
 obtain ⟨hr,hp⟩:=Zbf.1 hok
 simp only [Nd.l] at hp
 have hmap:(l.map Zal).map ζ7=l.map ζ7:=by
  rw [XE];exact Vs fun x hx=>ih x hx (hp x hx)
 have hnf:∀x∈l.map Zal,NF x:=fun x hx=>by
  obtain ⟨y,hy,rfl⟩:=Xh.1 hx;exact Zsl y (hp y hy)
 rw [Zal,Zdw,Zf4,←hmap]
 unfold Zkr
 rcases ZdH hr with h|h|h|h|h|h<;>simp only [Nd.op] at h<;>subst h
 · rw [if_pos (.inl rfl),Zdw];rfl
 · rw [if_pos (.inr rfl),Zdw];rfl
 · rw [if_neg (by decide),if_neg (by decide)];exact Zhv (.inl rfl) a hnf (fun h=>by have:l=[]:=VM.1 h;subst this;simp [rightT,Nd.op,Nd.l] at hr)
 · rw [if_neg (by decide),if_neg (by decide)];exact Zhv (.inr (.inl rfl)) a hnf (fun h=>by have:l=[]:=VM.1 h;subst this;simp [rightT,Nd.op,Nd.l] at hr)
 · rw [if_neg (by decide),if_neg (by decide)];exact Zhv (.inr (.inr rfl)) a hnf (fun h=>by have:l=[]:=VM.1 h;subst this;simp [rightT,Nd.op,Nd.l] at hr)
 · rw [if_neg (by decide),if_pos rfl];have hlen:l.length=2:=by
    unfold rightT at hr;simp [Nd.op,Nd.l] at hr;exact of_decide_eq_true hr.1
   match l,hlen with
   |[f,s],_=>exact ZyN (hnf _ (by simp)) (hnf _ (by simp))
theorem Zv5 {o:Int} (ho:o=4∨o=5) (a:ByteArray) {l m:List Nd} (h:l.Perm m):ζ7 (.mk o a l)=ζ7 (.mk o a m):=by
 rw [Zdw,Zdw]
 rcases ho with rfl|rfl
 · exact Zul fun A=>(h.map ζ7).mem_iff
 · exact Zrs (h.map ζ7)
def ZyO (k:Nat) (l:List Nd):List Nd:=l.drop (k % l.length)++l.take (k % l.length)
theorem ZnT (k:Nat) (l:List Nd):(ZyO k l).Perm l:=by
 have h:=List.perm_append_comm (l₁:=l.drop (k % l.length)) (l₂:=l.take (k % l.length))
 rw [Vq] at h
 exact h
mutual
def ZbE (k:Nat):Nd→Nd
 | .mk o a l=> .mk o a (if o=4∨o=5 then ZyO k (Zv6 k l) else Zv6 k l)
def Zv6 (k:Nat):List Nd→List Nd
 |[]=>[]
 |x::l=>ZbE k x::Zv6 k l
end
theorem Zum (k:Nat) (l:List Nd):Zv6 k l=l.map (ZbE k):=by
 induction l with
 |nil=>rfl
 |cons x l ih=>rw [Zv6,ih];rfl
theorem Zv7 (k:Nat):∀t:Nd,ζ7 (ZbE k t)=ζ7 t:=Nd.ind fun o a l ih=>by
 have hm:ζ7 (.mk o a (Zv6 k l))=ζ7 (.mk o a l):=by
  rw [Zdw,Zdw,Zum,XE];congr 1;exact Vs fun x hx=>ih x hx
 rw [ZbE]
 split
 · rename_i h;rw [Zv5 h a (ZnT k _),hm]
 · exact hm
inductive StG (A:Lg):Lg
 |nil:StG A []
 |cons {u v:List ByteArray} (h1:A u) (h2:StG A v):StG A (u++v)
theorem ZyP {A:Lg} {u v:List ByteArray} (h:StG A u) (h2:A v):StG A (u++v):=by
 induction h with
 |nil=>have:=StG.cons h2 (StG.nil (A:=A));rw [XB] at this;exact this
 |cons h1 _ ih=>rw [XA];exact .cons h1 ih
theorem ZBe (A B:Lg):LpG A B=fun w=>∃u v,w=u++v∧A u∧StG (ZfN [B,A]) v:=by
 have h2:∀{x y:List ByteArray},B x→A y→ZfN [B,A] (x++y):=fun {x y} hx hy=>⟨x,y,rfl,hx,y,[],(XB y).symm,hy,rfl⟩
 refine funext fun w=>propext ⟨fun h=>?_,fun ⟨u,v,e,hu,hv⟩=>?_⟩
 · induction h with
   | @one w h=>exact ⟨w,[],(XB w).symm,h, .nil⟩
   | more _ hb ha ih=>
     obtain ⟨u,v,rfl,h3,h4⟩:=ih;exact ⟨u,_,XA ..,h3,ZyP h4 (h2 hb ha)⟩
 · subst e;have key:∀v,StG (ZfN [B,A]) v→∀u,LpG A B u→LpG A B (u++v):=fun v hv=>by
    induction hv with
    |nil=>intro u h;rw [XB];exact h
    | cons h1 _ ih=>
      intro u h;obtain ⟨x,y,rfl,hx,y2,z,rfl,hy,hz⟩:=h1
      cases hz;rw [XB,←XA];exact ih _ (.more h hx hy)
   exact key v hv u (.one hu)
set_option maxRecDepth 100000
def ZfP (m:Nat) (k:Int):Aut:=⟨2,m,[0],[1],[⟨0,1,k⟩]⟩
def ZjB (m:Nat):Aut:=⟨1,m,[0],[0],[]⟩
def okO (x:Except Int Aut):Option Aut:=match x with
 | .ok a=>some a
 | .error _=>none
def Ze7 (a b:Aut):Except Int Aut:=match Zg5 b a with
 | .error e=> .error e
 | .ok x=>match ZeI x with
   | .error e=> .error e
   | .ok s=>Zg5 a s
def Zcj (o:Int) (a b:Aut):Except Int Aut:=if o=3 then Zg5 a b else if o=4 then Zgl a b else if o=6 then Ze7 a b else ZiS a b
def Zd7 (o:Int) (r p:Option Aut):Option Aut:=match r,p with
 |some a,some b=>okO (Zcj o a b)
 |_,_=>none
def foldX (o:Int):List (Option Aut)→Option Aut
 |[]=>none
 |x::l=>l.foldl (Zd7 o) x
mutual
def bldT (acts:List ByteArray):Nd→Option Aut
 | .mk o a l=>if o=1 then okO (Zfe (ZfP acts.length (idx (fun x=>Zc1 x a) acts))) else if o=2 then okO (Zfe (ZjB acts.length)) else foldX o (ZBf acts l)
def ZBf (acts:List ByteArray):List Nd→List (Option Aut)
 |[]=>[]
 |x::l=>bldT acts x::ZBf acts l
end
theorem Zo9 (acts:List ByteArray) (l:List Nd):ZBf acts l=l.map (bldT acts):=by
 induction l with
 |nil=>rfl
 |cons x l ih=>rw [ZBf,ih];rfl
theorem ZyQ (acts:List ByteArray) (o:Int) (a:ByteArray) (l:List Nd) (h1:o≠1) (h2:o≠2):bldT acts (.mk o a l)=foldX o (l.map (bldT acts)):=by rw [bldT,if_neg h1,if_neg h2,Zo9]
theorem Zs9 (o:Int) (p:Option Aut):Zd7 o none p=none:=rfl
theorem Zru (o:Int) (r:Option Aut):Zd7 o r none=none:=by cases r<;>rfl
theorem ZjC (o:Int) (l:List (Option Aut)):l.foldl (Zd7 o) none=none:=by
 induction l with
 |nil=>rfl
 |cons x l ih=>rw [Vw,Zs9,ih]
theorem Zta {o:Int} {m:List (Option Aut)} (h:m≠[]) (x:Option Aut):foldX o (m++[x])=Zd7 o (foldX o m) x:=by
 cases m with
 |nil=>exact absurd rfl h
 |cons y m=>rw [X1];show (m++[x]).foldl (Zd7 o) y=_;rw [VE];rfl
theorem Zrv {o:Int}:∀{l:List (Option Aut)} {r:Option Aut},none∈l→l.foldl (Zd7 o) r=none
 | x::l,r,h=>by
   rw [Vw];rcases Xl.1 h with e|h
   · rw [←e,Zru,ZjC]
   · exact Zrv h
theorem Zhw {o:Int} {l:List (Option Aut)} (h:none∈l):foldX o l=none:=by
 cases l with
 |nil=>rfl
 | cons x l=>
   show l.foldl (Zd7 o) x=none;rcases Xl.1 h with e|h
   · rw [←e,ZjC]
   · exact Zrv h
def MinO (m:Nat) (x:Except Int Aut):Prop:=x= .error 13∨∃C,x= .ok C∧IsMin C∧C.syms=m
theorem MinO.lim {m:Nat} {x:Except Int Aut} (h:MinO m x):x=Go.Proofs.YtgfabnhpllkebaaGreatDoor.lim (okO x):=by
 rcases h with rfl|⟨C,rfl,_⟩<;>rfl
theorem MinO.ok {m:Nat} {x:Except Int Aut} (h:MinO m x) {C:Aut} (hc:okO x=some C):x= .ok C∧IsMin C∧C.syms=m:=by
 rcases h with rfl|⟨D,rfl,h1,h2⟩
 · cases hc
 · cases hc;exact ⟨rfl,h1,h2⟩
theorem Zmh {a:Aut} {e:Int} (h:ZbR a= .error e):e=13:=by
 unfold ZbR at h
 cases ht:Zej a with
 |none=>rw [ht] at h;cases h;rfl
 | some t=>
   rw [ht] at h
   cases hl:Zb0 t with
   |none=>simp only [hl,Go.Proofs.YtgfabnhpllkebaaGreatDoor.lim] at h;cases h;rfl
   |some A=>simp only [hl,Go.Proofs.YtgfabnhpllkebaaGreatDoor.lim] at h;cases h
theorem ZyR {a:Aut} {e:Int} (h:ZlO a= .error e):e=13:=by
 unfold ZlO at h
 split at h
 · cases h;rfl
 · exact Zmh h
theorem Zhx {X:Aut} (hp:PreA X) {m:Nat} (hs:X.syms=m):MinO m (ZdB X):=by
 cases h:ZdB X with
 |error e=>exact .inl (by rw [ZyR h])
 |ok C=>obtain ⟨h1,h2,_⟩:=ZeJ hp h;exact .inr ⟨C,rfl,h1,by rw [h2,hs]⟩
theorem ZfQ {a:Aut} (h:Zaa a=true) {m:Nat} (hs:a.syms=m):MinO m (Zfe a):=by
 cases h1:Zfe a with
 | error e=>
   unfold Zfe at h1;rw [if_pos h] at h1;exact .inl (by rw [Zmh h1])
 |ok C=>obtain ⟨h3,h2,_⟩:=Zjt h1;exact .inr ⟨C,rfl,h3,by rw [h2,hs]⟩
variable {m:Nat} {a b:Aut}
theorem Zhy (ha:IsMin a) (hb:IsMin b) (hsa:a.syms=m) (hsb:b.syms=m):Zb4 a b=0:=Zo5 ha.valid hb.valid (by rw [hsa,hsb])
theorem Zg8 (ha:IsMin a) (hb:IsMin b) (hsa:a.syms=m) (hsb:b.syms=m):MinO m (Zg5 a b):=by
 unfold Zg5
 rw [if_neg (fun h=>h (Zhy ha hb hsa hsb))]
 exact Zhx (ZkP (Zb1 ha.valid) (Zb1 hb.valid) (by rw [hsa,hsb])) hsa
theorem Ztb (ha:IsMin a) (hb:IsMin b) (hsa:a.syms=m) (hsb:b.syms=m):MinO m (Zgl a b):=by
 unfold Zgl
 rw [if_neg (fun h=>h (Zhy ha hb hsa hsb))]
 exact Zhx (Zju (Zb1 ha.valid) (Zb1 hb.valid) (by rw [hsa,hsb])) hsa
theorem Zv8 (ha:IsMin a) (hb:IsMin b) (hsa:a.syms=m) (hsb:b.syms=m):MinO m (ZiS a b):=by
 unfold ZiS
 rw [if_neg (fun h=>h (Zhy ha hb hsa hsb))]
 split
 · exact .inl rfl
 · exact Zhx (Zl9 (Zb1 ha.valid) (Zb1 hb.valid) (by rw [hsa,hsb])) hsa
theorem ZjD (ha:IsMin a) (hsa:a.syms=m):MinO m (ZeI a):=by
 unfold ZeI
 rw [if_pos ha.valid]
 exact Zhx (ZlP (Zb1 ha.valid)) hsa
theorem Zv9 (ha:IsMin a) (hb:IsMin b) (hsa:a.syms=m) (hsb:b.syms=m):MinO m (Ze7 a b):=by
 unfold Ze7
 rcases Zg8 hb ha hsb hsa with h|⟨C,h,hC,hs⟩
 · rw [h];exact .inl rfl
 · rw [h];dsimp only;rcases ZjD hC hs with h2|⟨D,h2,hD,hs2⟩
   · rw [h2];exact .inl rfl
   · rw [h2];exact Zg8 ha hD hsa hs2
theorem Zhz (o:Int) (ha:IsMin a) (hb:IsMin b) (hsa:a.syms=m) (hsb:b.syms=m):MinO m (Zcj o a b):=by
 unfold Zcj
 split
 · exact Zg8 ha hb hsa hsb
 split
 · exact Ztb ha hb hsa hsb
 split
 · exact Zv9 ha hb hsa hsb
 · exact Zv8 ha hb hsa hsb
theorem ZkR {k:Int} (hm:m≤40) (hk:0≤k∧k<m):Zaa (ZfP m k)=true:=by
 unfold Zaa ZfP Zga Zlq
 simp [Zbz]
 omega
theorem Zpa (hm:m≤40):Zaa (ZjB m)=true:=by
 unfold Zaa ZjB Zga
 simp [Zbz]
 omega
def BldOk (m:Nat) (r:Option Aut):Prop:=∀A,r=some A→IsMin A∧A.syms=m
theorem BldOk.of {x:Except Int Aut} (h:MinO m x):BldOk m (okO x):=fun A hA=>(h.ok hA).2
theorem ZBg (o:Int) {r p:Option Aut} (hr:BldOk m r) (hp:BldOk m p):BldOk m (Zd7 o r p):=by
 match r,p with
 | some a,some b=>
   obtain ⟨ha,hsa⟩:=hr a rfl;obtain ⟨hb,hsb⟩:=hp b rfl;exact BldOk.of (Zhz o ha hb hsa hsb)
 |none,_=>exact fun A hA=>by cases hA
 |some _,none=>exact fun A hA=>by cases hA
theorem ZnU (o:Int):∀{l:List (Option Aut)} {r:Option Aut},BldOk m r→(∀x∈l,BldOk m x)→BldOk m (l.foldl (Zd7 o) r)
 |[],_,h,_=>h
 | x::l,r,h,h2=>by
   rw [Vw];exact ZnU o (ZBg o h (h2 x (Xk ..))) fun y hy=>h2 y (Xn _ hy)
theorem ZyS (o:Int) {l:List (Option Aut)} (h:∀x∈l,BldOk m x):BldOk m (foldX o l):=by
 cases l with
 |nil=>exact fun A hA=>by cases hA
 |cons x l=>exact ZnU o (h x (Xk ..)) fun y hy=>h y (Xn _ hy)
def Zdx (acts:List ByteArray) (a:ByteArray):Int:=idx (fun x=>Zc1 x a) acts
theorem Zmi {a b:ByteArray}:Zc1 a b=true↔a=b:=Zfp
theorem ZiW {acts:List ByteArray} {a:ByteArray} (h:a∈acts):∃i:Nat,Zdx acts a=i∧acts[i]? =some a∧∀j y,j<i→acts[j]? =some y→y≠a:=by
 unfold Zdx
 obtain ⟨k,hk⟩:=Ve h
 have key:∀n:Nat,(∃i:Nat,i≤n∧acts[i]? =some a)→∃i:Nat,acts[i]? =some a∧∀(j:Nat) (y:ByteArray),j<i→acts[j]? =some y→y≠a:=by
  intro n;induction n with
  |zero=>rintro ⟨i,hi,h⟩;exact ⟨i,h,fun j y hj=>by omega⟩
  | succ n ih=>
    rintro ⟨i,hi,h⟩;by_cases h2:∃i:Nat,i≤n∧acts[i]? =some a
    · exact ih h2
    · exact ⟨i,h,fun j y hj hy e=>h2 ⟨j,by omega,by rw [hy,e]⟩⟩
 obtain ⟨i,hi,hb⟩:=key k ⟨k,Xd _,hk⟩
 refine ⟨i,ZgC (fun j y hj hy=>?_) hi (Zmi.2 rfl),hi,hb⟩
 cases hs:Zc1 y a
 · rfl
 · exact absurd (Zmi.1 hs) (hb j y hj hy)
theorem ZDs {acts:List ByteArray} (hm:acts.length≤40):∀t:Nd,(∀s∈Zax t,s∈acts)→BldOk acts.length (bldT acts t):=Nd.ind fun o a l ih ha=>by
 rw [bldT]
 split
 · rename_i h1;obtain ⟨i,h2,h3,_⟩:=ZiW (ha a (by rw [Zax,if_pos h1];exact Xk ..));have hi:=(XI.1 h3).1;refine BldOk.of (ZfQ (ZkR hm ?_) rfl);unfold Zdx at h2;rw [h2];omega
 split
 · exact BldOk.of (ZfQ (Zpa hm) rfl)
 · rename_i h1 h2;rw [Zo9];refine ZyS o fun r hr=>?_;obtain ⟨x,hx,rfl⟩:=Xh.1 hr;refine ih x hx fun s hs=>ha s ?_;rw [Zax,if_neg h1];exact ZaS.2 ⟨x,hx,hs⟩
def nmW (acts:List ByteArray) (w:List Nat):List ByteArray:=w.map fun i=>(acts[i]?).getD ByteArray.empty
def ZeW (acts:List ByteArray) (A:Aut) (P:Lg):Prop:=∀w:List Nat,Zb2 acts.length w→(ZeV A (wI w)=true↔P (nmW acts w))
def opB (o:Int) (P Q:Lg):Lg:=if o=3 then fun w=>∃u v,w=u++v∧P u∧Q v else if o=4 then fun w=>P w∨Q w else if o=6 then LpG P Q else fun w=>∃u v,Shf u v w∧P u∧Q v
theorem Zmj {w:List Nat} {u v:List Int}:wI w=u++v↔∃w1 w2,w=w1++w2∧u=wI w1∧v=wI w2:=by
 unfold wI
 rw [List.map_eq_append_iff]
 exact ⟨fun ⟨a,b,h1,h2,h3⟩=>⟨a,b,h1,h2.symm,h3.symm⟩,fun ⟨a,b,h1,h2,h3⟩=>⟨a,b,h1,h2.symm,h3.symm⟩⟩
theorem Zmk {acts:List ByteArray} {w:List Nat} {u v:List ByteArray}:nmW acts w=u++v↔∃w1 w2,w=w1++w2∧u=nmW acts w1∧v=nmW acts w2:=by
 unfold nmW
 rw [List.map_eq_append_iff]
 exact ⟨fun ⟨a,b,h1,h2,h3⟩=>⟨a,b,h1,h2.symm,h3.symm⟩,fun ⟨a,b,h1,h2,h3⟩=>⟨a,b,h1,h2.symm,h3.symm⟩⟩
theorem ZiX {m:Nat} {u v:List Nat}:Zb2 m (u++v)↔Zb2 m u∧Zb2 m v:=⟨fun h=>⟨fun c hc=>h c (Vb _ hc),fun c hc=>h c (X3 _ hc)⟩,fun h c hc=>(Xs.1 hc).elim (h.1 c) (h.2 c)⟩
theorem Zpb {m:Nat} {w:List Nat} (_:Zb2 m w):∀c∈wI w,0≤c:=fun c hc=>by
 unfold wI at hc
 obtain ⟨x,_,rfl⟩:=Xh.1 hc
 exact Int.natCast_nonneg x
variable {acts:List ByteArray} {a b C:Aut} {P Q:Lg}
theorem Zc7 (ha:IsMin a) (hP:ZeW acts a P) {w:List Nat} (hw:Zb2 acts.length w):Lng a (wI w)↔P (nmW acts w):=by
 rw [←ZkO ha.aok (Zpb hw)];exact hP w hw
theorem Zpc (ha:IsMin a) (hb:IsMin b) (hsa:a.syms=acts.length) (hsb:b.syms=acts.length) (hP:ZeW acts a P) (hQ:ZeW acts b Q) (h:Zg5 a b= .ok C):ZeW acts C (opB 3 P Q):=fun w hw=>by
 unfold Zg5 at h
 rw [if_neg (fun h=>h (Zhy ha hb hsa hsb))] at h
 have hva:=Zb1 ha.valid
 have hvb:=Zb1 hb.valid
 obtain ⟨_,_,h3⟩:=ZeJ (ZkP hva hvb (by rw [hsa,hsb])) h
 have e:(ZcT a b).syms.toNat=acts.length:=by show a.syms.toNat=_;rw [hsa];rfl
 rw [h3 w (by rw [e];exact hw),ZBc hva hvb]
 show _↔∃u v,nmW acts w=u++v∧P u∧Q v
 constructor
 · rintro ⟨u,v,e1,h1,h2⟩;obtain ⟨w1,w2,rfl,rfl,rfl⟩:=Zmj.1 e1;obtain ⟨hw1,hw2⟩:=ZiX.1 hw;exact ⟨_,_,Zmk.2 ⟨w1,w2,rfl,rfl,rfl⟩,(Zc7 ha hP hw1).1 h1,(Zc7 hb hQ hw2).1 h2⟩
 · rintro ⟨u,v,e1,h1,h2⟩;obtain ⟨w1,w2,rfl,rfl,rfl⟩:=Zmk.1 e1;obtain ⟨hw1,hw2⟩:=ZiX.1 hw;exact ⟨_,_,Zmj.2 ⟨w1,w2,rfl,rfl,rfl⟩,(Zc7 ha hP hw1).2 h1,(Zc7 hb hQ hw2).2 h2⟩
theorem Zwa (ha:IsMin a) (hb:IsMin b) (hsa:a.syms=acts.length) (hsb:b.syms=acts.length) (hP:ZeW acts a P) (hQ:ZeW acts b Q) (h:Zgl a b= .ok C):ZeW acts C (opB 4 P Q):=fun w hw=>by
 unfold Zgl at h
 rw [if_neg (fun h=>h (Zhy ha hb hsa hsb))] at h
 have hva:=Zb1 ha.valid
 have hvb:=Zb1 hb.valid
 obtain ⟨_,_,h3⟩:=ZeJ (Zju hva hvb (by rw [hsa,hsb])) h
 have e:(Zdv a b).syms.toNat=acts.length:=by show a.syms.toNat=_;rw [hsa];rfl
 rw [h3 w (by rw [e];exact hw),ZvY hva hvb,Zc7 ha hP hw,Zc7 hb hQ hw]
 rfl
theorem ZjE:∀{w:List Nat} {u v:List Int},Mix (wI w) u v→∃w1 w2,u=wI w1∧v=wI w2∧(∀c∈w1,c∈w)∧(∀c∈w2,c∈w)∧Shf (nmW acts w1) (nmW acts w2) (nmW acts w)
 | [],_,_,h=>by
   cases h;exact ⟨[],[],rfl,rfl,fun _ h=>h,fun _ h=>h, .nil⟩
 | c ::w,_,_,h=>by
   cases h with
   | one _ h=>
     obtain ⟨w1,w2,rfl,rfl,h1,h2,h3⟩:=ZjE h;exact ⟨c::w1,w2,rfl,rfl,fun x hx=>(Xl.1 hx).elim (fun e=>by rw [e];exact Xk ..) fun h=>Xn _ (h1 x h),fun x hx=>Xn _ (h2 x hx), .left h3⟩
   | two _ h=>
     obtain ⟨w1,w2,rfl,rfl,h1,h2,h3⟩:=ZjE h;exact ⟨w1,c::w2,rfl,rfl,fun x hx=>Xn _ (h1 x hx),fun x hx=>(Xl.1 hx).elim (fun e=>by rw [e];exact Xk ..) fun h=>Xn _ (h2 x h), .right h3⟩
theorem ZjF:∀{w:List Nat} {u v:List ByteArray},Shf u v (nmW acts w)→∃w1 w2,u=nmW acts w1∧v=nmW acts w2∧(∀c∈w1,c∈w)∧(∀c∈w2,c∈w)∧Mix (wI w) (wI w1) (wI w2)
 | [],_,_,h=>by
   cases h;exact ⟨[],[],rfl,rfl,fun _ h=>h,fun _ h=>h, .nil⟩
 | c ::w,_,_,h=>by
   cases h with
   | left h=>
     obtain ⟨w1,w2,rfl,rfl,h1,h2,h3⟩:=ZjF h;exact ⟨c::w1,w2,rfl,rfl,fun x hx=>(Xl.1 hx).elim (fun e=>by rw [e];exact Xk ..) fun h=>Xn _ (h1 x h),fun x hx=>Xn _ (h2 x hx), .one _ h3⟩
   | right h=>
     obtain ⟨w1,w2,rfl,rfl,h1,h2,h3⟩:=ZjF h;exact ⟨w1,c::w2,rfl,rfl,fun x hx=>Xn _ (h1 x hx),fun x hx=>(Xl.1 hx).elim (fun e=>by rw [e];exact Xk ..) fun h=>Xn _ (h2 x h), .two _ h3⟩
theorem ZyT (ha:IsMin a) (hb:IsMin b) (hsa:a.syms=acts.length) (hsb:b.syms=acts.length) (hP:ZeW acts a P) (hQ:ZeW acts b Q) (h:ZiS a b= .ok C):ZeW acts C (opB 5 P Q):=fun w hw=>by
 unfold ZiS at h
 rw [if_neg (fun h=>h (Zhy ha hb hsa hsb))] at h
 split at h
 · cases h
 have hva:=Zb1 ha.valid
 have hvb:=Zb1 hb.valid
 obtain ⟨_,_,h3⟩:=ZeJ (Zl9 hva hvb (by rw [hsa,hsb])) h
 have e:(ZcH a b).syms.toNat=acts.length:=by show a.syms.toNat=_;rw [hsa];rfl
 rw [h3 w (by rw [e];exact hw),ZyH hva hvb]
 show _↔∃u v,Shf u v (nmW acts w)∧P u∧Q v
 constructor
 · rintro ⟨u,v,e1,h1,h2⟩;obtain ⟨w1,w2,rfl,rfl,k1,k2,k3⟩:=ZjE (acts:=acts) e1;exact ⟨_,_,k3,(Zc7 ha hP fun c hc=>hw c (k1 c hc)).1 h1,(Zc7 hb hQ fun c hc=>hw c (k2 c hc)).1 h2⟩
 · rintro ⟨u,v,e1,h1,h2⟩;obtain ⟨w1,w2,rfl,rfl,k1,k2,k3⟩:=ZjF e1;exact ⟨_,_,k3,(Zc7 ha hP fun c hc=>hw c (k1 c hc)).2 h1,(Zc7 hb hQ fun c hc=>hw c (k2 c hc)).2 h2⟩
theorem ZyU (ha:IsMin a) (hsa:a.syms=acts.length) (hP:ZeW acts a P) (h:ZeI a= .ok C):ZeW acts C (StG P):=fun w hw=>by
 unfold ZeI at h
 rw [if_pos ha.valid] at h
 have hva:=Zb1 ha.valid
 obtain ⟨_,_,h3⟩:=ZeJ (ZlP hva) h
 have e:(ZdC a).syms.toNat=acts.length:=by show a.syms.toNat=_;rw [hsa];rfl
 rw [h3 w (by rw [e];exact hw),ZyE hva]
 constructor
 · intro h;generalize hx:wI w=x at h;induction h generalizing w with
   | nil=>
     have:w=[]:=VM.1 hx;rw [this];exact .nil
   | app h1 _ ih=>
     obtain ⟨w1,w2,rfl,rfl,rfl⟩:=Zmj.1 hx;obtain ⟨hw1,hw2⟩:=ZiX.1 hw;rw [show nmW acts (w1++w2)=nmW acts w1++nmW acts w2 from Xy];exact .cons ((Zc7 ha hP hw1).1 h1) (ih w2 hw2 rfl)
 · intro h;generalize hx:nmW acts w=x at h;induction h generalizing w with
   | nil=>
     have:w=[]:=VM.1 hx;rw [this];exact .nil
   | cons h1 _ ih=>
     obtain ⟨w1,w2,rfl,rfl,rfl⟩:=Zmk.1 hx;obtain ⟨hw1,hw2⟩:=ZiX.1 hw;rw [show wI (w1++w2)=wI w1++wI w2 from Xy];exact .app ((Zc7 ha hP hw1).2 h1) (ih w2 hw2 rfl)
theorem ZyV (ha:IsMin a) (hb:IsMin b) (hsa:a.syms=acts.length) (hsb:b.syms=acts.length) (hP:ZeW acts a P) (hQ:ZeW acts b Q) (h:Ze7 a b= .ok C):ZeW acts C (opB 6 P Q):=by
 unfold Ze7 at h
 rcases Zg8 hb ha hsb hsa with h1|⟨X,h1,hX,hs1⟩
 · rw [h1] at h;cases h
 rw [h1] at h
 dsimp only at h
 rcases ZjD hX hs1 with h2|⟨Y,h2,hY,hs2⟩
 · rw [h2] at h;cases h
 rw [h2] at h
 dsimp only at h
 have:=Zpc ha hY hsa hs2 hP (ZyU hX hs1 (Zpc hb ha hsb hsa hQ hP h1) h2) h
 have e:opB 6 P Q=opB 3 P (StG (opB 3 Q P)):=by
  have e2:opB 3 Q P=ZfN [Q,P]:=funext fun w=>propext ⟨fun ⟨u,v,h1,h2,h3⟩=>⟨u,v,h1,h2,v,[],(XB v).symm,h3,rfl⟩,fun ⟨u,v,h1,h2,v2,z,h3,h4,h5⟩=>⟨u,v,h1,h2,by cases h5;rw [h3,XB];exact h4⟩⟩;rw [e2];exact ZBe P Q
 rw [e];exact this
theorem ZyW {o:Int} (ho:o=3∨o=4∨o=5∨o=6) (ha:IsMin a) (hb:IsMin b) (hsa:a.syms=acts.length) (hsb:b.syms=acts.length) (hP:ZeW acts a P) (hQ:ZeW acts b Q) (h:Zcj o a b= .ok C):ZeW acts C (opB o P Q):=by
 rcases ho with rfl|rfl|rfl|rfl
 · exact Zpc ha hb hsa hsb hP hQ h
 · exact Zwa ha hb hsa hsb hP hQ h
 · exact ZyT ha hb hsa hsb hP hQ h
 · exact ZyV ha hb hsa hsb hP hQ h
variable {acts:List ByteArray}
theorem ZDt {α:Type} {l:List α} (hn:l.Nodup) {x i:Nat} (hx:x<l.length) (hi:i<l.length) (e:l[x]'hx=l[i]'hi):x=i:=by
 have h:=V7.1 hn
 rcases Nat.lt_trichotomy x i with h1|h1|h1
 · exact absurd e (h x i hx hi h1)
 · exact h1
 · exact absurd e.symm (h i x hi hx h1)
theorem ZyX {a:ByteArray} (hn:acts.Nodup) (hm:acts.length≤40) (ha:a∈acts) {A:Aut} (h:Zfe (ZfP acts.length (idx (fun x=>Zc1 x a) acts))= .ok A):ZeW acts A (fun w=>w=[a]):=fun w hw=>by
 obtain ⟨i,h2,h3,_⟩:=ZiW ha
 unfold Zdx at h2
 rw [h2] at h
 have hi:=(XI.1 h3).1
 have hok:Zaa (ZfP acts.length (i:Nat))=true:=ZkR hm (by omega)
 rw [(Zjt h).2.2 w hw,ZkO (Zb1 hok).toAOk (Zpb hw)]
 have key:∀{s t:Int} {v:List Int},Pth (ZfP acts.length (i:Nat)) s v t→(s=t∧v=[])∨(s=0∧t=1∧v=[(i:Int)]):=fun h=>by
  induction h with
  |nil s=>exact .inl ⟨rfl,rfl⟩
  | eps hm hs _ _=>
    cases Xi.1 hm;dsimp only at hs;omega
  | sym hm hs _ ih=>
    cases Xi.1 hm;dsimp only at ih ⊢;rcases ih with ⟨h1,h2⟩|⟨h1,_⟩
    · exact .inr ⟨rfl,h1.symm,by rw [h2]⟩
    · omega
 constructor
 · rintro ⟨s,hs,f,hf,hp⟩
   cases Xi.1 hs
   cases Xi.1 hf;rcases key hp with ⟨h1,_⟩|⟨_,_,h1⟩
   · omega
   · unfold wI at h1;rw [List.map_eq_singleton_iff] at h1;obtain ⟨x,rfl,hx⟩:=h1;(obtain rfl:x=i:=by omega);show [(acts[x]?).getD ByteArray.empty]=[a];rw [h3];rfl
 · intro h;have h:w.map (fun i=>(acts[i]?).getD ByteArray.empty)=[a]:=h;rw [List.map_eq_singleton_iff] at h;obtain ⟨x,rfl,hx⟩:=h;have hxl:=hw x (Xi.2 rfl);rw [XM hxl] at hx;have e:acts[x]'hxl=acts[i]'hi:=by rw [(XI.1 h3).2];exact hx
   obtain rfl:x=i:=ZDt hn _ _ e;refine ⟨0,Xi.2 rfl,1,Xi.2 rfl,?_⟩;exact Pth.sym (a:=ZfP acts.length (x:Nat)) (m:=⟨0,1,(x:Nat)⟩) (Xi.2 rfl) (by dsimp only;omega) (.nil 1)
theorem ZBh (hm:acts.length≤40) {A:Aut} (h:Zfe (ZjB acts.length)= .ok A):ZeW acts A (fun w=>w=[]):=fun w hw=>by
 have hok:Zaa (ZjB acts.length)=true:=Zpa hm
 rw [(Zjt h).2.2 w hw,ZkO (Zb1 hok).toAOk (Zpb hw)]
 constructor
 · rintro ⟨s,hs,f,hf,hp⟩;have e:∀{s t:Int} {v:List Int},Pth (ZjB acts.length) s v t→v=[]:=fun h=>by
    cases h with
    |nil s=>rfl
    |eps hm _ _=>cases hm
    |sym hm _ _=>cases hm
   show w.map _=[];rw [VM.1 (e hp)];rfl
 · intro h;have:w=[]:=VM.1 h;subst this;exact ⟨0,Xi.2 rfl,0,Xi.2 rfl, .nil 0⟩
theorem ZBi {o:Int} (ho:o=3∨o=4∨o=5) (a:ByteArray) (P:Lg):opG o a [P]=P:=by
 rcases ho with rfl|rfl|rfl
 · exact ZkQ P
 · exact funext fun w=>propext ⟨fun ⟨A,h1,h2⟩=>by cases Xi.1 h1;exact h2,fun h=>⟨P,Xi.2 rfl,h⟩⟩
 · exact and_one P
theorem ZyY {o:Int} (ho:o=3∨o=4∨o=5) (a:ByteArray) (m:List Lg) (Q:Lg):opG o a (m++[Q])=opB o (opG o a m) Q:=by
 rcases ho with rfl|rfl|rfl
 · show ZfN (m++[Q])=_;rw [Zo7,ZkQ];rfl
 · exact funext fun w=>propext ⟨fun ⟨A,h1,h2⟩=>(Xs.1 h1).elim (fun h=> .inl ⟨A,h,h2⟩) (fun h=>by cases Xi.1 h;exact .inr h2),fun h=>h.elim (fun ⟨A,h1,h2⟩=>⟨A,Vb _ h1,h2⟩) fun h=>⟨Q,X3 _ (Xi.2 rfl),h⟩⟩
 · show ZeQ (m++[Q])=_;rw [Zo8,and_one];rfl
def Zrw (acts:List ByteArray) (r:Option Aut) (P:Lg):Prop:=∀A,r=some A→IsMin A∧A.syms=acts.length∧ZeW acts A P
theorem Zrx {o:Int} (ho:o=3∨o=4∨o=5∨o=6) {r p:Option Aut} {P Q:Lg} (hr:Zrw acts r P) (hp:Zrw acts p Q):Zrw acts (Zd7 o r p) (opB o P Q):=by
 match r,p with
 | some a,some b=>
   obtain ⟨ha,hsa,hP⟩:=hr a rfl;obtain ⟨hb,hsb,hQ⟩:=hp b rfl;intro A hA;obtain ⟨h1,h2,h3⟩:=(Zhz o ha hb hsa hsb).ok hA;exact ⟨h2,h3,ZyW ho ha hb hsa hsb hP hQ h1⟩
 |none,_=>exact fun A hA=>by cases hA
 |some _,none=>exact fun A hA=>by cases hA
theorem Zry {o:Int} (ho:o=3∨o=4∨o=5) (a:ByteArray):∀(l:List Nd) (f:Nd→Option Aut) (r:Option Aut) (m:List Lg),Zrw acts r (opG o a m)→(∀x∈l,Zrw acts (f x) (ζ7 x))→Zrw acts ((l.map f).foldl (Zd7 o) r) (opG o a (m++l.map ζ7))
 |[],f,r,m,h,_=>by rw [X8,X8,XB];exact h
 | x::l,f,r,m,h,h2=>by
   have:=Zry ho a l f (Zd7 o r (f x)) (m++[ζ7 x]) (by rw [ZyY ho];exact Zrx (by omega) h (h2 x (Xk ..))) fun y hy=>h2 y (Xn _ hy);rw [XA] at this;exact this
theorem ZnV {a:ByteArray} {l:List Nd} (h:rightT (.mk 6 a l)=true):∃x y,l=[x,y]:=by
 unfold rightT at h
 simp [Nd.op,Nd.l,Nd.act] at h
 match l,h with
 |[x,y],_=>exact ⟨x,y,rfl⟩
theorem Zrz {o:Int} (ho:o=3∨o=4∨o=5) {a:ByteArray} {l:List Nd} (h:rightT (.mk o a l)=true):∃x m,l=x::m:=by
 cases l with
 |nil=>rcases ho with rfl|rfl|rfl<;>simp [rightT,Nd.op,Nd.l] at h
 |cons x m=>exact ⟨x,m,rfl⟩
theorem ZyZ (hn:acts.Nodup) (hm:acts.length≤40):∀t:Nd,okT t=true→(∀s∈Zax t,s∈acts)→Zrw acts (bldT acts t) (ζ7 t):=Nd.ind fun o a l ih hok ha=>by
 obtain ⟨hr,hp⟩:=Zbf.1 hok
 have hops:=ZdH hr
 simp only [Nd.op,Nd.l] at hops hp
 have hpart:∀x∈l,o≠1→Zrw acts (bldT acts x) (ζ7 x):=fun x hx h1=>ih x hx (hp x hx) fun s hs=>ha s (by rw [Zax,if_neg h1];exact ZaS.2 ⟨x,hx,hs⟩)
 by_cases h1:o=1
 · subst h1;intro A hA;have hmem:a∈acts:=ha a (by rw [Zax,if_pos rfl];exact Xk ..);rw [bldT,if_pos rfl] at hA;obtain ⟨i,h2,h3,_⟩:=ZiW hmem;have hi:=(XI.1 h3).1;obtain ⟨k1,k2,k3⟩:=(ZfQ (m:=acts.length) (ZkR hm (by unfold Zdx at h2;rw [h2];omega)) rfl).ok hA;exact ⟨k2,k3,ZyX hn hm hmem k1⟩
 by_cases h2:o=2
 · subst h2;intro A hA;rw [bldT,if_neg (by decide),if_pos rfl] at hA;obtain ⟨k1,k2,k3⟩:=(ZfQ (m:=acts.length) (Zpa hm) rfl).ok hA;exact ⟨k2,k3,ZBh hm k1⟩
 rw [ZyQ acts o a l h1 h2,Zdw]
 by_cases h6:o=6
 · subst h6;obtain ⟨x,y,rfl⟩:=ZnV hr;exact Zrx (o:=6) (by omega) (hpart x (by simp) h1) (hpart y (by simp) h1)
 · have ho:o=3∨o=4∨o=5:=by omega
   obtain ⟨x,m,rfl⟩:=Zrz ho hr;exact Zry ho a m (bldT acts) (bldT acts x) [ζ7 x] (by rw [ZBi ho];exact hpart x (Xk ..) h1) fun y hy=>hpart y (Xn _ hy) h1
theorem Zun {a b:Aut} (ha:IsMin a) (hb:IsMin b) (hs:a.syms=b.syms) (op:Int):cmpX a b op=(false,[],13)∨(cmpX a b op=(true,[],0)∧∀w,Zb2 a.syms.toNat w→Zkt op (ZeV a (wI w)) (ZeV b (wI w))=false)∨∃u,Zb2 a.syms.toNat u∧cmpX a b op=(false,wI u,0)∧Zkt op (ZeV a (wI u)) (ZeV b (wI u))=true:=by
 have hf:Zb4 a b=0:=Zo5 ha.valid hb.valid hs
 cases hq:prodQ a b with
 |none=>exact .inl (ZnS hf ha.red hb.red hq)
 | some q=>
   obtain ⟨o,rows⟩:=q;have hP:PQ a b o rows:=⟨ha,hb,hs,hq⟩;have hc:=ZnR (op:=op) hf ha.red hb.red hq
   cases hx:(o.map (ZbF a b op)).idxOf? true with
   | none=>
     rw [Zv2 hx] at hc;refine .inr (.inl ⟨hc,fun w hw=>?_⟩);obtain ⟨h5,_⟩:=hP.run (op:=op) w hw;obtain ⟨x,hx'⟩:=ζm h5;rw [←hP.fin (op:=op) hw hx']
     cases hp:ZbF a b op x with
     |false=>rfl
     | true=>
       exfalso;rw [List.idxOf?_eq_none_iff] at hx;exact hx (Xh.2 ⟨x,Xb hx',hp⟩)
   | some i=>
     rw [Zv1 hx] at hc;obtain ⟨hi,_⟩:=Zrr.1 hx;(have hil:i<o.length:=by have:=ζg hi;rwa [Xf] at this);obtain ⟨u,hu,e,hr⟩:=hP.way (op:=op) i hil;refine .inr (.inr ⟨u,hu,by rw [hc,e],?_⟩);obtain ⟨x,hx'⟩:=ζm hil;rw [←hP.fin (op:=op) hu (x:=x) (by rw [hr];exact hx')];rw [Xm,hx'] at hi;simpa using hi
theorem Zy0 (ks:List ByteArray):(Zd1 ks).Perm ks:=by
 have h:=(Uk (ks.map toB) fun x y=>decide (x≤y)).map ofB
 have e:(ks.map toB).map ofB=ks:=by rw [XE];exact (Vs fun s _=>ZkJ s).trans (List.map_id ks)
 rw [e] at h
 exact h
theorem Zml {ks:List ByteArray} {s:ByteArray}:s∈Zd1 ks↔s∈ks:=(Zy0 ks).mem_iff
theorem Zpd {ks:List ByteArray} (h:ks.Nodup):(Zd1 ks).Nodup:=(Zy0 ks).nodup_iff.2 h
noncomputable def unK (a b:Nd):List ByteArray:=colS (colS [] (Zax a)) (Zax b)
noncomputable def unT (a b:Nd):List ByteArray:=Zd1 (unK a b)
theorem Ztc (a b:Nd):(unK a b).Nodup:=Zf9 _ _ (Zf9 _ _ Vg)
theorem Zpe {a b:Nd} {s:ByteArray}:s∈unK a b↔s∈Zax a∨s∈Zax b:=by unfold unK;rw [Zfw,Zfw];simp
theorem ZhA {a b:Nd} {s:ByteArray}:s∈unT a b↔s∈Zax a∨s∈Zax b:=by unfold unT;rw [Zml,Zpe]
theorem Zpf (a b:Nd):(unT a b).Nodup:=Zpd (Ztc a b)
theorem ZhB (a b:Nd):(unT a b).length=(unK a b).length:=ZgT _
def nmI (acts:List ByteArray) (w:List Int):List ByteArray:=w.map fun i=>(acts[i.toNat]?).getD ByteArray.empty
noncomputable def eqTX (a b:Nd):Bool×List ByteArray×Int:=
 if Zbv a=true∧Zbv b=true then
  if (unK a b).length≤40 then match bldT (unT a b) a,bldT (unT a b) b with
   |some x,some y=>((cmpX x y 4).1,nmI (unT a b) (cmpX x y 4).2.1,(cmpX x y 4).2.2)
   |_,_=>(false,[],13)
  else (false,[],5)
 else (false,[],1)
theorem Zpg {acts:List ByteArray} {t:Nd} (hn:acts.Nodup) (hm:acts.length≤40) (hv:Zbv t=true) (ha:∀s∈Zax t,s∈acts) {A:Aut} (h:bldT acts t=some A):IsMin A∧A.syms=acts.length∧ZeW acts A (ζ7 t):=ZyZ hn hm t (ZdG hv) ha A h
theorem ZnW {m:Nat} {a:Aut} (h:a.syms=m) {w:List Nat}:Zb2 a.syms.toNat w↔Zb2 m w:=by rw [h];rfl
theorem ZnX {a b:Nd} (ha:Zbv a=true) (hb:Zbv b=true) (hm:(unK a b).length≤40) (hL:ζ7 a=ζ7 b):eqTX a b=(true,[],0)∨eqTX a b=(false,[],13):=by
 unfold eqTX
 rw [if_pos ⟨ha,hb⟩,if_pos hm]
 cases hx:bldT (unT a b) a with
 |none=>exact .inr rfl
 | some x=>
   cases hy:bldT (unT a b) b with
   |none=>exact .inr rfl
   | some y=>
     dsimp only;obtain ⟨mx,sx,lx⟩:=Zpg (Zpf a b) (by rw [ZhB];exact hm) ha (fun s hs=>ZhA.2 (.inl hs)) hx;obtain ⟨my,sy,ly⟩:=Zpg (Zpf a b) (by rw [ZhB];exact hm) hb (fun s hs=>ZhA.2 (.inr hs)) hy;(have hs:x.syms=y.syms:=by rw [sx,sy]);rcases Zun mx my hs 4 with h|⟨h,_⟩|⟨u,hu,h,hd⟩
     · rw [h];exact .inr rfl
     · rw [h];exact .inl rfl
     · exfalso;have hu:=(ZnW sx).1 hu;have e:ZeV x (wI u)=ZeV y (wI u):=VI.2 (by rw [lx u hu,ly u hu,hL]);rw [e] at hd;revert hd
       cases ZeV y (wI u)<;>decide
theorem ZBj {t:Nd} (h:(actR t).2=0):Zbv t=true∧(actR t).1=Zd1 (colS [] (Zax t))∧(actR t).1.length≤40∧(actR t).1.Nodup∧∀s,s∈(actR t).1↔s∈Zax t:=by
 unfold actR at h ⊢
 by_cases h1:Zbv t=true
 · rw [if_pos h1] at h ⊢;by_cases h2:(colS [] (Zax t)).length≤40
   · rw [if_pos h2] at h ⊢;dsimp only;exact ⟨h1,rfl,by rw [ZgT];exact h2,Zpd (Zf9 _ _ Vg),fun s=>by rw [Zml,Zfw];simp⟩
   · rw [if_neg h2] at h;cases h
 · rw [if_neg h1] at h;cases h
theorem Zy1 {l m:List Nd} (h:l.Perm m):dpL l=dpL m:=by
 induction h with
 |nil=>rfl
 |cons x _ ih=>rw [dpL,dpL,ih]
 |swap x y l=>rw [dpL,dpL,dpL,dpL];omega
 |trans _ _ h1 h2=>exact h1.trans h2
theorem Zuo {f:Nd→Nd}:∀{l:List Nd},(∀x∈l,szT (f x)=szT x)→szL (l.map f)=szL l
 |[],_=>rfl
 |x::l,h=>by rw [Xq,szL,szL,h x (Xk ..),Zuo fun y hy=>h y (Xn _ hy)]
theorem Zup {f:Nd→Nd}:∀{l:List Nd},(∀x∈l,dpT (f x)=dpT x)→dpL (l.map f)=dpL l
 |[],_=>rfl
 |x::l,h=>by rw [Xq,dpL,dpL,h x (Xk ..),Zup fun y hy=>h y (Xn _ hy)]
def Zmm (k:Nat) (o:Int) (l:List Nd):List Nd:=if o=4∨o=5 then ZyO k (l.map (ZbE k)) else l.map (ZbE k)
theorem Zmn (k:Nat) (o:Int) (a:ByteArray) (l:List Nd):ZbE k (.mk o a l)= .mk o a (Zmm k o l):=by rw [ZbE,Zum];rfl
theorem Zev (k:Nat) (o:Int) (l:List Nd):(Zmm k o l).Perm (l.map (ZbE k)):=by
 unfold Zmm
 split
 · exact ZnT k _
 · exact .refl _
theorem Zy2 (k:Nat):∀t:Nd,szT (ZbE k t)=szT t:=Nd.ind fun o a l ih=>by
 rw [Zmn,szT,szT,Zlh (Zev k o l),Zuo ih]
theorem ZDu (k:Nat):∀t:Nd,dpT (ZbE k t)=dpT t:=Nd.ind fun o a l ih=>by
 rw [Zmn,dpT,dpT,Zy1 (Zev k o l),Zup ih]
theorem ZBk (k:Nat):∀t:Nd,∀s,s∈Zax (ZbE k t)↔s∈Zax t:=Nd.ind fun o a l ih s=>by
 rw [Zmn,Zax,Zax]
 split
 · rename_i h1;have e:Zmm k o l=l.map (ZbE k):=by unfold Zmm;rw [if_neg (by omega)]
   rw [e];rw [Xl,Xl,ZaS,ZaS];refine or_congr Iff.rfl ⟨fun ⟨x,hx,h⟩=>?_,fun ⟨x,hx,h⟩=>⟨_,Xh.2 ⟨x,hx,rfl⟩,(ih x hx s).2 h⟩⟩;obtain ⟨y,hy,rfl⟩:=Xh.1 hx;exact ⟨y,hy,(ih y hy s).1 h⟩
 · rw [ZaS,ZaS];constructor
   · rintro ⟨x,hx,h⟩;obtain ⟨y,hy,rfl⟩:=Xh.1 ((Zev k o l).mem_iff.1 hx);exact ⟨y,hy,(ih y hy s).1 h⟩
   · rintro ⟨x,hx,h⟩;exact ⟨_,(Zev k o l).mem_iff.2 (Xh.2 ⟨x,hx,rfl⟩),(ih x hx s).2 h⟩
theorem Zwb {o:Int} {a:ByteArray} {l m:List Nd} (h:l.length=m.length):rightT (.mk o a l)=rightT (.mk o a m):=by
 have e:l.isEmpty=m.isEmpty:=by cases l<;>cases m<;>simp_all
 show (if o=1 then l.isEmpty&&ZcY a else if o=2 then l.isEmpty&&decide (a=ByteArray.empty) else if o=3∨o=4∨o=5 then !l.isEmpty&&decide (a=ByteArray.empty) else if o=6 then decide (l.length=2)&&decide (a=ByteArray.empty) else false)=(if o=1 then m.isEmpty&&ZcY a else if o=2 then m.isEmpty&&decide (a=ByteArray.empty) else if o=3∨o=4∨o=5 then !m.isEmpty&&decide (a=ByteArray.empty) else if o=6 then decide (m.length=2)&&decide (a=ByteArray.empty) else false)
 rw [e,h]
theorem Zy3 (k:Nat):∀t:Nd,okT t=true→okT (ZbE k t)=true:=Nd.ind fun o a l ih h=>by
 obtain ⟨hr,hp⟩:=Zbf.1 h
 rw [Zmn]
 refine Zbf.2 ⟨?_,fun x hx=>?_⟩
 · rw [Zwb (m:=l) (by rw [(Zev k o l).length_eq,Xf])];exact hr
 · obtain ⟨y,hy,rfl⟩:=Xh.1 ((Zev k o l).mem_iff.1 hx);exact ih y hy (hp y hy)
theorem Zuq (k:Nat) {t:Nd} (h:Zbv t=true):Zbv (ZbE k t)=true:=by
 unfold Zbv Zf3 at h ⊢
 simp only [Xg] at h
 rw [Zy3 k t h.1.1,Zy2,ZDu,h.1.2,h.2];rfl
theorem Zph:∀t:Nd,okT t=true→(Zax t).length≤szT t:=Nd.ind fun o a l ih h=>by
 obtain ⟨hr,hp⟩:=Zbf.1 h
 have key:∀m:List Nd,(∀x∈m,x∈l)→(Zct m).length≤szL m:=fun m=>by
  induction m with
  |nil=>intro _;exact Xd _
  | cons x m ihm=>
    intro hm;rw [Zct,szL,Xc];have h1:=ih x (hm x (Xk ..)) (hp x (hm x (Xk ..)));have h2:=ihm fun y hy=>hm y (Xn _ hy);omega
 have:=key l fun _ h=>h
 rw [Zax,szT]
 split
 · rw [Xj];omega
 · omega
theorem Zur {a b:Nd} (ha:okT a=true) (h:∀s,s∈Zax b→s∈Zax a):(unK a b).length≤szT a:=by
 have hp:(unK a b).Perm (colS [] (Zax a)):=(UK (Ztc a b) (Zf9 _ _ Vg)).2 fun s=>by
  rw [Zpe,Zfw];exact ⟨fun h1=> .inr (h1.elim id (h s)),fun h1=> .inl (h1.elim (fun h=>by cases h) id)⟩
 have h1:=ZiB (Zax a) []
 have h2:=Zph a ha
 rw [hp.length_eq]
 rw [Xz] at h1
 omega
theorem Zy4 {t:Nd} (h1:Zbv t=true) (h2:Zbv (Zal t)=true) (hs:szT t≤40):eqTX t (Zal t)=(true,[],0)∨eqTX t (Zal t)=(false,[],13):=
 ZnX h1 h2 (by have:=Zur (b:=Zal t) (ZdG h1) fun s=>(ZAK t (ZdG h1) s).1;omega) (Zv4 t (ZdG h1)).symm
theorem Zy5 {t:Nd} (k:Nat) (h1:Zbv t=true) (hs:szT t≤40):eqTX (ZbE k t) t=(true,[],0)∨eqTX (ZbE k t) t=(false,[],13):=
 ZnX (Zuq k h1) h1 (by have:=Zur (b:=t) (Zy3 k t (ZdG h1)) fun s=>(ZBk k t s).2;rw [Zy2] at this;omega) (Zv7 k t)
theorem ZnY:∀a b:List UInt8,Op.bytesLess a b=decide (a<b)
 |_,[]=>by simp [Op.bytesLess]
 |[],_::_=>by simp [Op.bytesLess]
 | x::a,y::b=>by
   rw [Op.bytesLess,ZnY a b,VI];simp [List.cons_lt_cons_iff]
noncomputable def canB (l:List ByteArray):List ByteArray:=Zd1 (colS [] l)
theorem Zy6 {l:List ByteArray} {s:ByteArray}:s∈canB l↔s∈l:=by unfold canB;rw [Zml,Zfw];simp
def ZmL (l:List ByteArray):Prop:=l.Pairwise fun x y=>Zb6 x y=true
theorem Zy7 {x y:ByteArray}:Zb6 x y=decide (toB x<toB y):=by
 unfold Zb6 toB
 rw [ZnY,ByteArray.toList_eq,ByteArray.toList_eq]
theorem Zy8 {ks:List ByteArray} (h:ks.Nodup):ZmL (Zd1 ks):=by
 have htr:∀a b c:List UInt8,decide (a≤b)=true→decide (b≤c)=true→decide (a≤c)=true:=fun a b c h1 h2=>by
  simp only [decide_eq_true_eq] at*;exact List.le_trans h1 h2
 have hto:∀a b:List UInt8,(decide (a≤b)||decide (b≤a))=true:=fun a b=>by
  simp only [Vp,decide_eq_true_eq];exact List.le_total a b
 have h1:=Uj htr hto (ks.map toB)
 have h2:(Zd1 ks).Pairwise fun x y=>decide (toB x≤toB y)=true:=by
  unfold Zd1;rw [Ul];exact h1.imp fun {a b} h=>by rw [Zt4,Zt4];exact h
 have h3:=Zpd h
 exact List.Pairwise.imp₂ (fun {a b} k1 k2=>by
  rw [Zy7];simp only [decide_eq_true_eq] at k1 ⊢;refine Decidable.byContradiction fun hn=>k2 ?_;have e:toB a=toB b:=List.le_antisymm k1 (List.not_lt.1 hn);rw [←ZkJ a,e,ZkJ]) h2 h3
theorem Zy9 (l:List ByteArray):ZmL (canB l):=Zy8 (Zf9 _ _ Vg)
theorem Zza:∀{l m:List ByteArray},ZmL l→ZmL m→(∀s,s∈l↔s∈m)→l=m:=fun {l m} hl hm h=>by
 have nd:∀{l:List ByteArray},ZmL l→l.Nodup:=fun h=>h.imp fun {a b} h e=>by rw [e,Zdq] at h;cases h
 refine List.Perm.eq_of_pairwise (le:=fun x y=>Zb6 x y=true) (fun a b _ _ h1 h2=>?_) hl hm ((UK (nd hl) (nd hm)).2 h)
 exact absurd (ZgI h1 h2) (by rw [Zdq];decide)
theorem Zus {l m:List ByteArray} (h:ZmL l) (hm:∀s,s∈l↔s∈m):l=canB m:=Zza h (Zy9 m) fun s=>by rw [hm,Zy6]
instance:DecidableEq Mv:=fun a b=>if h:eqM a b=true then .isTrue (Ze5.1 h) else .isFalse fun e=>h (Ze5.2 e)
def Ztd (x:Int):List Int→List Int
 |[]=>[x]
 |y::l=>if x≤y then x::y::l else y::Ztd x l
def ZBl:List Int→List Int
 |[]=>[]
 |x::l=>Ztd x (ZBl l)
theorem ZjG (x:Int):∀l,(Ztd x l).Perm (x::l)
 |[]=> .refl _
 | y::l=>by
   unfold Ztd;split
   · exact .refl _
   · exact ((ZjG x l).cons y).trans (.swap _ _ _)
theorem ZnZ:∀l,(ZBl l).Perm l
 |[]=> .refl _
 |x::l=>(ZjG x _).trans ((ZnZ l).cons x)
theorem Zut (x:Int):∀l:List Int,l.Pairwise (· ≤ ·)→(Ztd x l).Pairwise (· ≤ ·)
 |[],_=>by simp [Ztd]
 | y ::l,h=>by
   have h':=XK.1 h;unfold Ztd;split
   · rename_i hxy;refine XK.2 ⟨fun z hz=>?_,h⟩;rcases Xl.1 hz with rfl|hz
     · exact hxy
     · exact Int.le_trans hxy (h'.1 z hz)
   · rename_i hxy;refine XK.2 ⟨fun z hz=>?_,Zut x l h'.2⟩;rcases Xl.1 ((ZjG x l).mem_iff.1 hz) with rfl|hz
     · omega
     · exact h'.1 z hz
theorem Zuu:∀l,(ZBl l).Pairwise (· ≤ ·)
 |[]=> .nil
 |x::l=>Zut x _ (Zuu l)
theorem Zmo:∀{l m:List Int},l.Pairwise (· ≤ ·)→m.Pairwise (· ≤ ·)→l.Perm m→l=m
 |[],[],_,_,_=>rfl
 |[],y::m,_,_,h=>by have:=h.length_eq;simp at this
 |x::l,[],_,_,h=>by have:=h.length_eq;simp at this
 | x ::l,y::m,hl,hm,h=>by
   have hl':=XK.1 hl;have hm':=XK.1 hm;have h1:x≤y:=by
    rcases Xl.1 (h.mem_iff.2 (Xk ..)) with e|e
    · omega
    · exact hl'.1 y e
   have h2:y≤x:=by
    rcases Xl.1 (h.mem_iff.1 (Xk ..)) with e|e
    · omega
    · exact hm'.1 x e
   obtain rfl:x=y:=by omega
   rw [Zmo hl'.2 hm'.2 ((List.perm_cons x).1 h)]
def ZiY (a:Aut) (l:List Int):List Int:=ZBl (Zbo a l a.n.toNat)
theorem ZiZ (a:Aut) (l:List Int):Za3 a l=ZiY a l:=by
 unfold Za3 ZiY
 have h1:((Zbo a l a.n.toNat).mergeSort fun x y=>decide (x≤y)).Pairwise (fun x y=>decide (x≤y)=true):=Uj (fun a b c h1 h2=>by simp only [decide_eq_true_eq] at*;omega) (fun a b=>by simp only [Vp,decide_eq_true_eq];omega) _
 exact Zmo (h1.imp fun h=>by simpa using h) (Zuu _) ((Uk _ _).trans (ZnZ _).symm)
def ZBm (a:Aut) (far:List Int) (n:Int) (p:Pf) (c:Nat):List Pf:=if (Zbr (ZiY a (Zch a c p.2)) far (n-1)).length=0 then [] else [(p.1++[(c:Int)],Zbr (ZiY a (Zch a c p.2)) far (n-1))]
def lvI (a:Aut) (far:List Int) (n:Nat):Nat→List Pf
 |0=>[([],Zbr (ZiY a a.start) far n)]
 |k+1=>(lvI a far n k).flatMap fun p=>(List.range a.syms.toNat).flatMap (ZBm a far ((n:Int)-k) p)
theorem Zte (a:Aut) (n:Nat):∀k,lvP a n k=lvI a (Zbe a) n k
 |0=>by rw [lvP,lvI,ZiZ]
 | k +1=>by
   rw [lvP,lvI,Zte a n k];have:∀p,ZhN a ((n:Int)-k) p=(List.range a.syms.toNat).flatMap (ZBm a (Zbe a) ((n:Int)-k) p):=fun p=>by
    unfold ZhN;have:Zfc a ((n:Int)-k) p=ZBm a (Zbe a) ((n:Int)-k) p:=by
     funext c
     unfold Zfc ZBm ZaL;rw [ZiZ]
    rw [this]
   exact ZgZ fun p _=>this p
def ZBn (a:Aut) (far:List Int) (n k:Nat):List (List Int):=(List.range k).flatMap fun i=>ZiG a (lvI a far n i)
theorem Zuv (a:Aut) (n k:Nat):ZfA a n k=ZBn a (Zbe a) n k:=by
 unfold ZfA ZBn
 simp only [Zte]
def ZDv (a:Aut) (far:List Int) (n:Nat):Bool:=(List.range (n+1)).any (fun k=>decide (2000<(lvI a far n (k+1)).length))||decide (2000<(ZBn a far n (n+1)).length)
theorem ZBo (a:Aut) (n:Nat):ZAX a n↔ZDv a (Zbe a) n=true:=by
 unfold ZAX ZDv
 rw [Zuv]
 simp only [Vp,UG,Vd,decide_eq_true_eq,Zte]
 constructor
 · rintro (⟨k,h1,h2⟩|h)
   · exact .inl ⟨k,by omega,h2⟩
   · exact .inr h
 · rintro (⟨k,h1,h2⟩|h)
   · exact .inl ⟨k,by omega,h2⟩
   · exact .inr h
def Zzb (a:Aut):Srch (List Int) (List Int):=⟨id,2000,a.syms.toNat,fun _ l s=>ZiY a (Zch a (s:Nat) l)⟩
theorem ZBp (a:Aut):ZdS a=Zzb a:=by
 unfold ZdS Zzb
 congr 1
 funext _ l s
 unfold ZaL
 rw [ZiZ]
theorem ZBq {a:Aut} {q:List (List Int)×List (List Nat)} (i:Nat) (h:(Zzb a).upto (ZiY a a.start) i=some q) (hl:q.1.length≤i) (hi:i≤2000):Zej a=some ⟨a.syms.toNat,q.2,q.1.map (Zc0 a)⟩:=by
 unfold Zej
 rw [ZBp,ZiZ,Srch.all_some h hl hi];rfl
theorem ZBr {a:Aut} {q:List (List Int)×List (List Nat)} {A:Aut} (i:Nat) (h:(Zzb a).upto (ZiY a a.start) i=some q) (hl:q.1.length≤i) (hi:i≤2000) (hA:Zb0 ⟨a.syms.toNat,q.2,q.1.map (Zc0 a)⟩=some A):ZbR a= .ok A:=by
 unfold ZbR
 rw [ZBq i h hl hi]
 dsimp only
 rw [hA];rfl
theorem Zzc {a b A B:Aut} {q:List ((Nat×Nat)×(Int×Int))×List (List Nat)} (i:Nat) (ha:ZbR a= .ok A) (hb:ZbR b= .ok B) (h:(Zbb A B).upto ((0,0),(-1,-1)) i=some q) (hl:q.1.length≤i) (hi:i≤2000):ZfI a b= .ok (A,B,q):=by
 unfold ZfI
 rw [ha,hb]
 dsimp only
 rw [show prodQ A B=some q from Srch.all_some h hl hi]
theorem ZBs {a b A B:Aut} {q:List ((Nat×Nat)×(Int×Int))×List (List Nat)} {op:Int} (hf:Zb4 a b=0) (h:ZfI a b= .ok (A,B,q)):cmpX a b op=((Zgk A B op q).1,(Zgk A B op q).2,0):=by
 unfold cmpX
 rw [if_neg (fun h=>h hf),h]
theorem ZBt {a b:Aut} (h1:a.n=b.n) (h2:a.syms=b.syms) (h3:a.start=b.start) (h4:a.fin=b.fin) (h5:a.moves=b.moves):a=b:=by
 cases a;cases b;simp_all
instance:DecidableEq Aut:=fun a b=>if h:a.n=b.n∧a.syms=b.syms∧a.start=b.start∧a.fin=b.fin∧a.moves=b.moves then .isTrue (ZBt h.1 h.2.1 h.2.2.1 h.2.2.2.1 h.2.2.2.2) else .isFalse fun e=>h (by subst e;exact ⟨rfl,rfl,rfl,rfl,rfl⟩)
def Zc4 (a:Aut):List PV:=[pInt a.n,pInt a.syms,pInts a.start,pInts a.fin,pMvs a.moves]
theorem ZcI (a:Aut):(Zc4 a).length=5:=rfl
theorem Zwc {a:Aut} (h:Zaa a=false):ZeI a= .error 1:=by unfold ZeI;rw [h];rfl
theorem Zzd {a:Aut} (h:Zaa a=true):ZeI a=ZdB (ZdC a):=by unfold ZeI;rw [h];rfl
def Zfg (n:Int) (l:List Int):List Mv:=l.map fun s=>⟨n,s,-1⟩
def Zmp (n:Int) (l:List Int):List Mv:=l.map fun s=>⟨s,n,-1⟩
theorem Zwd (n:Int) {l:List Int} {k:Nat} {x:Int} (h:l[k]? =some x):Zfg n (l.take (k+1))=Zfg n (l.take k)++[⟨n,x,-1⟩]:=by unfold Zfg;rw [ζQ h,Xy];rfl
theorem Zwe (n:Int) {l:List Int} {k:Nat} {x:Int} (h:l[k]? =some x):Zmp n (l.take (k+1))=Zmp n (l.take k)++[⟨x,n,-1⟩]:=by unfold Zmp;rw [ζQ h,Xy];rfl
theorem Ztf (a:Aut):(ZdC a).moves=a.moves++Zfg a.n a.start++Zmp a.n a.fin:=rfl
theorem ZrA {a:Aut} (h:AOk a):(ZdC a).moves.length≤1000000:=by
 rw [Ztf,Xc,Xc]
 unfold Zfg Zmp
 rw [Xf,Xf]
 have:=h.ml;have:=h.sl;have:=h.fl
 omega
theorem Zwf (a:Aut) (hv:Zaa a=false):AF Tryz.prog 90 [ζS a] (· = .tup [ZfG,pInt 1]):=by
 refine AF.of_body 64 Tryz.func90 rfl Tryz.ntmps90 (Xa rfl) ?_
 intro w0 M0 vs hl hv
 obtain ⟨v0,rfl⟩:=Zco hl
 clear hl hv
 refine nav ?_
 (refine ζa ?_<;>refine ζH 1 5 fun h1=>?_<;>refine ζs [(.int .i64 0),(.int .i64 0),(.slice none 0 0),(.slice none 0 0),(.slice none 0 0)] 5 2 ζN fun h2=>?_<;>refine xL 3 ζc ?_<;>refine ζd ?_)
 (refine ζa ?_<;>(refine yL 10 (ζk 1 ζo) fun v10 h=>?_;cases h)<;>(refine cS 11 (cA Tryz.call107 (Zbm a)) fun v11 h=>?_;cases h)<;>refine xL 12 Zav ?_<;>refine ζd ?_)
 (first|refine cCd ?_ ?_|refine cC ?_ ?_)<;>intro hb12
 · refine nav ?_;(refine ζa ?_<;>refine xL 13 (ζB ζX) ?_<;>refine ζt 2 ζo ?_<;>refine xL 3 ζc ?_<;>refine ζd ?_)
   exact Zaf (k:=5) 2 kR (Tryz.results90) rfl rfl rfl (Xa rfl) (by decide) rfl rfl
 · rw [hv] at hb12;simp at hb12
set_option maxHeartbeats 1000000 in
theorem ZBu (a:Aut) (hv:Zaa a=true) {p0 p1 p2 p3 p4:PV} {E:Int} (r5:R5 p0 p1 p2 p3 p4) (hr:AF Tryz.prog 132 [ζS (mkA (ZdC a))] (· = .tup [.agg [p0,p1,p2,p3,p4],pInt E])):AF Tryz.prog 90 [ζS a] (· = .tup [.agg [p0,p1,p2,p3,p4],pInt E]):=by
 obtain ⟨o0,o1,o2,o3,o4⟩:=r5.o
 have h:=Zb1 hv
 have hn0:=h.n0
 have hn1:=h.n1
 have hml:=h.ml
 have hsl:=h.sl
 have hfl:=h.fl
 refine AF.of_body 64 Tryz.func90 rfl Tryz.ntmps90 (Xa rfl) ?_
 intro w0 M0 vs hl hv
 obtain ⟨v0,rfl⟩:=Zco hl
 clear hl hv
 refine nav ?_
 (refine ζa ?_<;>refine ζH 1 5 fun h1=>?_<;>refine ζs [(.int .i64 0),(.int .i64 0),(.slice none 0 0),(.slice none 0 0),(.slice none 0 0)] 5 2 ζN fun h2=>?_<;>refine xL 3 ζc ?_<;>refine ζd ?_)
 (refine ζa ?_<;>(refine yL 10 (ζk 1 ζo) fun v10 h=>?_;cases h)<;>(refine cS 11 (cA Tryz.call107 (Zbm a)) fun v11 h=>?_;cases h)<;>refine xL 12 Zav ?_<;>refine ζd ?_)
 (first|refine cCd ?_ ?_|refine cC ?_ ?_)<;>intro hb12
 · rw [hv] at hb12;simp at hb12
 · refine nav ?_;(refine ζa ?_<;>refine xL 14 (ζh 1 ζ5) ?_<;>(refine yL 15 (ζq 1 ζp) fun v15 h=>?_;cases h)<;>refine xL 4 ζc ?_<;>refine ζd ?_)
   refine Zd8 (fun x:{x:Value×Value//x.1.oneCell'=true}=>⟨[(1,padd (sbase h1) 0, .val (padd (sbase h1) 0)),(2,padd (sbase h2) 0, .val (padd (sbase h2) 0)),(4, .int .i64 a.n,pInt a.n),(5,padd (sbase x.1.2) 0, .val (padd (sbase x.1.2) 0))],[(1,h1, .own 39 5 1 [pInt a.n,pInt a.syms,pInts a.start,pInts a.fin,pMvs a.moves]),(2,h2, .own 39 5 1 [pInt 0,pInt 0, .val (.slice none 0 0), .val (.slice none 0 0), .val (.slice none 0 0)]),(5,x.1.2, .own 39 5 1 [pInt (a.n+1),pInt a.syms,pInts [a.n],pInts [a.n], .val x.1.1]),(26,x.1.1, .own 93 3 a.moves.length (a.moves.flatMap cMv))]⟩) ?_ ?_
   · (refine ζY (fun i=>([]:List Nat).elem i) [1] kR ?_<;>refine xD 0 16 rfl ζb ?_<;>refine xD 1 17 rfl ζG ?_<;>refine xD 2 18 rfl (ζh 1 Zao) ?_<;>(refine yD 3 19 rfl (ζq 1 ζp) fun v19 h=>?_;cases h)<;>refine xD 4 20 rfl ζb ?_<;>refine xD 6 22 rfl ζb ?_<;>refine xD 8 24 rfl (ζh 1 ζE) ?_<;>(refine yD 9 25 rfl (ζq 1 ζO) fun v25 h=>?_;cases h)<;>(refine ZAr 5 7 10 12 kR ?_ ?_ ?_ ?_;rotate_right;(focus ((refine ζf rfl fun w9 M9 N9 DQ back=>?_)<;>refine ζs [(.int .i64 0),(.int .i64 0),(.slice none 0 0),(.slice none 0 0),(.slice none 0 0)] 5 5 ζN fun h5=>?_<;>refine ζe (back _ (nrm ?_))<;>(refine Zfm 5 7 10 kR ?_ ?_ ?_;rotate_right;(focus ((refine ζf rfl fun w9 M9 N9 DQ back=>?_)<;>refine cO 26 (cA Tryz.call138 (ZaK a.moves (by omega))) fun v26 ho26=>?_<;>refine ζe (back _ (nrm ?_))<;>(refine Zad 5 7 kR ?_ ?_;rotate_right;(focus ((refine ζf rfl fun w9 M9 N9 DQ back=>?_)<;>(refine ζP (kk:=1) 23 ζn fun h23 ho23=>?_;refine ζr (En.freeze (l:=23) (t:=23) rfl rfl) fun _=>?_;rw [show share (PV.own 3 1 1 [PV.val (.int .i64 a.n)])=pInts [a.n] from rfl])<;>refine ζe (back _ (nrm ?_))<;>(refine ζi 5 kR ?_)<;>(refine ζf rfl fun w9 M9 N9 DQ back=>?_)<;>(refine ζP (kk:=1) 21 ζn fun h21 ho21=>?_;refine ζr (En.freeze (l:=21) (t:=21) rfl rfl) fun _=>?_;rw [show share (PV.own 3 1 1 [PV.val (.int .i64 a.n)])=pInts [a.n] from rfl])<;>refine ζe (back _ (nrm ?_))<;>refine xE 11 27 rfl (ζB ζX) ?_<;>(refine ζi 13 kR ?_)<;>(refine ζf rfl fun w9 M9 N9 DQ back=>?_)<;>(refine ζt 5 (m:=5) kR ?_ (h1:=by show (List.all [pInt (a.n+1),pInt a.syms,pInts [a.n],pInts [a.n],PV.val v26] En.one)=true;simp only [XF,XG,XH,Xg];exact ⟨rfl,rfl,rfl,rfl,ho26⟩))<;>refine ζe (back _ (nrm ?_))));rotate_right;(focus ((refine ζf rfl fun w9 M9 N9 DQ back=>?_)<;>(refine ζP (kk:=1) 21 ζn fun h21 ho21=>?_;refine ζr (En.freeze (l:=21) (t:=21) rfl rfl) fun _=>?_;rw [show share (PV.own 3 1 1 [PV.val (.int .i64 a.n)])=pInts [a.n] from rfl])<;>refine ζe (back _ (nrm ?_))<;>(refine ζi 7 kR ?_)<;>(refine ζf rfl fun w9 M9 N9 DQ back=>?_)<;>(refine ζP (kk:=1) 23 ζn fun h23 ho23=>?_;refine ζr (En.freeze (l:=23) (t:=23) rfl rfl) fun _=>?_;rw [show share (PV.own 3 1 1 [PV.val (.int .i64 a.n)])=pInts [a.n] from rfl])<;>refine ζe (back _ (nrm ?_))<;>refine xE 11 27 rfl (ζB ζX) ?_<;>(refine ζi 13 kR ?_)<;>(refine ζf rfl fun w9 M9 N9 DQ back=>?_)<;>(refine ζt 5 (m:=5) kR ?_ (h1:=by show (List.all [pInt (a.n+1),pInt a.syms,pInts [a.n],pInts [a.n],PV.val v26] En.one)=true;simp only [XF,XG,XH,Xg];exact ⟨rfl,rfl,rfl,rfl,ho26⟩))<;>refine ζe (back _ (nrm ?_)))))));rotate_right;(focus ((refine ζf rfl fun w9 M9 N9 DQ back=>?_)<;>(refine ζP (kk:=1) 23 ζn fun h23 ho23=>?_;refine ζr (En.freeze (l:=23) (t:=23) rfl rfl) fun _=>?_;rw [show share (PV.own 3 1 1 [PV.val (.int .i64 a.n)])=pInts [a.n] from rfl])<;>refine ζe (back _ (nrm ?_))<;>(refine Zad 5 10 kR ?_ ?_;rotate_right;(focus ((refine ζf rfl fun w9 M9 N9 DQ back=>?_)<;>refine cO 26 (cA Tryz.call138 (ZaK a.moves (by omega))) fun v26 ho26=>?_<;>refine ζe (back _ (nrm ?_))<;>(refine ζi 5 kR ?_)<;>(refine ζf rfl fun w9 M9 N9 DQ back=>?_)<;>(refine ζP (kk:=1) 21 ζn fun h21 ho21=>?_;refine ζr (En.freeze (l:=21) (t:=21) rfl rfl) fun _=>?_;rw [show share (PV.own 3 1 1 [PV.val (.int .i64 a.n)])=pInts [a.n] from rfl])<;>refine ζe (back _ (nrm ?_))<;>refine xE 11 27 rfl (ζB ζX) ?_<;>(refine ζi 13 kR ?_)<;>(refine ζf rfl fun w9 M9 N9 DQ back=>?_)<;>(refine ζt 5 (m:=5) kR ?_ (h1:=by show (List.all [pInt (a.n+1),pInt a.syms,pInts [a.n],pInts [a.n],PV.val v26] En.one)=true;simp only [XF,XG,XH,Xg];exact ⟨rfl,rfl,rfl,rfl,ho26⟩))<;>refine ζe (back _ (nrm ?_))));rotate_right;(focus ((refine ζf rfl fun w9 M9 N9 DQ back=>?_)<;>(refine ζP (kk:=1) 21 ζn fun h21 ho21=>?_;refine ζr (En.freeze (l:=21) (t:=21) rfl rfl) fun _=>?_;rw [show share (PV.own 3 1 1 [PV.val (.int .i64 a.n)])=pInts [a.n] from rfl])<;>refine ζe (back _ (nrm ?_))<;>(refine ζi 10 kR ?_)<;>(refine ζf rfl fun w9 M9 N9 DQ back=>?_)<;>refine cO 26 (cA Tryz.call138 (ZaK a.moves (by omega))) fun v26 ho26=>?_<;>refine ζe (back _ (nrm ?_))<;>refine xE 11 27 rfl (ζB ζX) ?_<;>(refine ζi 13 kR ?_)<;>(refine ζf rfl fun w9 M9 N9 DQ back=>?_)<;>(refine ζt 5 (m:=5) kR ?_ (h1:=by show (List.all [pInt (a.n+1),pInt a.syms,pInts [a.n],pInts [a.n],PV.val v26] En.one)=true;simp only [XF,XG,XH,Xg];exact ⟨rfl,rfl,rfl,rfl,ho26⟩))<;>refine ζe (back _ (nrm ?_)))))));rotate_right;(focus ((refine ζf rfl fun w9 M9 N9 DQ back=>?_)<;>(refine ζP (kk:=1) 21 ζn fun h21 ho21=>?_;refine ζr (En.freeze (l:=21) (t:=21) rfl rfl) fun _=>?_;rw [show share (PV.own 3 1 1 [PV.val (.int .i64 a.n)])=pInts [a.n] from rfl])<;>refine ζe (back _ (nrm ?_))<;>(refine Zad 7 10 kR ?_ ?_;rotate_right;(focus ((refine ζf rfl fun w9 M9 N9 DQ back=>?_)<;>refine cO 26 (cA Tryz.call138 (ZaK a.moves (by omega))) fun v26 ho26=>?_<;>refine ζe (back _ (nrm ?_))<;>(refine ζi 7 kR ?_)<;>(refine ζf rfl fun w9 M9 N9 DQ back=>?_)<;>(refine ζP (kk:=1) 23 ζn fun h23 ho23=>?_;refine ζr (En.freeze (l:=23) (t:=23) rfl rfl) fun _=>?_;rw [show share (PV.own 3 1 1 [PV.val (.int .i64 a.n)])=pInts [a.n] from rfl])<;>refine ζe (back _ (nrm ?_))<;>refine xE 11 27 rfl (ζB ζX) ?_<;>(refine ζi 13 kR ?_)<;>(refine ζf rfl fun w9 M9 N9 DQ back=>?_)<;>(refine ζt 5 (m:=5) kR ?_ (h1:=by show (List.all [pInt (a.n+1),pInt a.syms,pInts [a.n],pInts [a.n],PV.val v26] En.one)=true;simp only [XF,XG,XH,Xg];exact ⟨rfl,rfl,rfl,rfl,ho26⟩))<;>refine ζe (back _ (nrm ?_))));rotate_right;(focus ((refine ζf rfl fun w9 M9 N9 DQ back=>?_)<;>(refine ζP (kk:=1) 23 ζn fun h23 ho23=>?_;refine ζr (En.freeze (l:=23) (t:=23) rfl rfl) fun _=>?_;rw [show share (PV.own 3 1 1 [PV.val (.int .i64 a.n)])=pInts [a.n] from rfl])<;>refine ζe (back _ (nrm ?_))<;>(refine ζi 10 kR ?_)<;>(refine ζf rfl fun w9 M9 N9 DQ back=>?_)<;>refine cO 26 (cA Tryz.call138 (ZaK a.moves (by omega))) fun v26 ho26=>?_<;>refine ζe (back _ (nrm ?_))<;>refine xE 11 27 rfl (ζB ζX) ?_<;>(refine ζi 13 kR ?_)<;>(refine ζf rfl fun w9 M9 N9 DQ back=>?_)<;>(refine ζt 5 (m:=5) kR ?_ (h1:=by show (List.all [pInt (a.n+1),pInt a.syms,pInts [a.n],pInts [a.n],PV.val v26] En.one)=true;simp only [XF,XG,XH,Xg];exact ⟨rfl,rfl,rfl,rfl,ho26⟩))<;>refine ζe (back _ (nrm ?_))))))))));rotate_right;(focus ((refine ζf rfl fun w9 M9 N9 DQ back=>?_)<;>refine cO 26 (cA Tryz.call138 (ZaK a.moves (by omega))) fun v26 ho26=>?_<;>refine ζe (back _ (nrm ?_))<;>(refine Zfm 5 7 12 kR ?_ ?_ ?_;rotate_right;(focus ((refine ζf rfl fun w9 M9 N9 DQ back=>?_)<;>refine ζs [(.int .i64 0),(.int .i64 0),(.slice none 0 0),(.slice none 0 0),(.slice none 0 0)] 5 5 ζN fun h5=>?_<;>refine ζe (back _ (nrm ?_))<;>(refine Zad 5 7 kR ?_ ?_;rotate_right;(focus ((refine ζf rfl fun w9 M9 N9 DQ back=>?_)<;>(refine ζP (kk:=1) 23 ζn fun h23 ho23=>?_;refine ζr (En.freeze (l:=23) (t:=23) rfl rfl) fun _=>?_;rw [show share (PV.own 3 1 1 [PV.val (.int .i64 a.n)])=pInts [a.n] from rfl])<;>refine ζe (back _ (nrm ?_))<;>(refine ζi 5 kR ?_)<;>(refine ζf rfl fun w9 M9 N9 DQ back=>?_)<;>(refine ζP (kk:=1) 21 ζn fun h21 ho21=>?_;refine ζr (En.freeze (l:=21) (t:=21) rfl rfl) fun _=>?_;rw [show share (PV.own 3 1 1 [PV.val (.int .i64 a.n)])=pInts [a.n] from rfl])<;>refine ζe (back _ (nrm ?_))<;>refine xE 11 27 rfl (ζB ζX) ?_<;>(refine ζi 13 kR ?_)<;>(refine ζf rfl fun w9 M9 N9 DQ back=>?_)<;>(refine ζt 5 (m:=5) kR ?_ (h1:=by show (List.all [pInt (a.n+1),pInt a.syms,pInts [a.n],pInts [a.n],PV.val v26] En.one)=true;simp only [XF,XG,XH,Xg];exact ⟨rfl,rfl,rfl,rfl,ho26⟩))<;>refine ζe (back _ (nrm ?_))));rotate_right;(focus ((refine ζf rfl fun w9 M9 N9 DQ back=>?_)<;>(refine ζP (kk:=1) 21 ζn fun h21 ho21=>?_;refine ζr (En.freeze (l:=21) (t:=21) rfl rfl) fun _=>?_;rw [show share (PV.own 3 1 1 [PV.val (.int .i64 a.n)])=pInts [a.n] from rfl])<;>refine ζe (back _ (nrm ?_))<;>(refine ζi 7 kR ?_)<;>(refine ζf rfl fun w9 M9 N9 DQ back=>?_)<;>(refine ζP (kk:=1) 23 ζn fun h23 ho23=>?_;refine ζr (En.freeze (l:=23) (t:=23) rfl rfl) fun _=>?_;rw [show share (PV.own 3 1 1 [PV.val (.int .i64 a.n)])=pInts [a.n] from rfl])<;>refine ζe (back _ (nrm ?_))<;>refine xE 11 27 rfl (ζB ζX) ?_<;>(refine ζi 13 kR ?_)<;>(refine ζf rfl fun w9 M9 N9 DQ back=>?_)<;>(refine ζt 5 (m:=5) kR ?_ (h1:=by show (List.all [pInt (a.n+1),pInt a.syms,pInts [a.n],pInts [a.n],PV.val v26] En.one)=true;simp only [XF,XG,XH,Xg];exact ⟨rfl,rfl,rfl,rfl,ho26⟩))<;>refine ζe (back _ (nrm ?_)))))));rotate_right;(focus ((refine ζf rfl fun w9 M9 N9 DQ back=>?_)<;>(refine ζP (kk:=1) 23 ζn fun h23 ho23=>?_;refine ζr (En.freeze (l:=23) (t:=23) rfl rfl) fun _=>?_;rw [show share (PV.own 3 1 1 [PV.val (.int .i64 a.n)])=pInts [a.n] from rfl])<;>refine ζe (back _ (nrm ?_))<;>(refine Zad 5 12 kR ?_ ?_;rotate_right;(focus ((refine ζf rfl fun w9 M9 N9 DQ back=>?_)<;>refine ζs [(.int .i64 0),(.int .i64 0),(.slice none 0 0),(.slice none 0 0),(.slice none 0 0)] 5 5 ζN fun h5=>?_<;>refine ζe (back _ (nrm ?_))<;>(refine ζi 5 kR ?_)<;>(refine ζf rfl fun w9 M9 N9 DQ back=>?_)<;>(refine ζP (kk:=1) 21 ζn fun h21 ho21=>?_;refine ζr (En.freeze (l:=21) (t:=21) rfl rfl) fun _=>?_;rw [show share (PV.own 3 1 1 [PV.val (.int .i64 a.n)])=pInts [a.n] from rfl])<;>refine ζe (back _ (nrm ?_))<;>refine xE 11 27 rfl (ζB ζX) ?_<;>(refine ζi 13 kR ?_)<;>(refine ζf rfl fun w9 M9 N9 DQ back=>?_)<;>(refine ζt 5 (m:=5) kR ?_ (h1:=by show (List.all [pInt (a.n+1),pInt a.syms,pInts [a.n],pInts [a.n],PV.val v26] En.one)=true;simp only [XF,XG,XH,Xg];exact ⟨rfl,rfl,rfl,rfl,ho26⟩))<;>refine ζe (back _ (nrm ?_))));rotate_right;(focus ((refine ζf rfl fun w9 M9 N9 DQ back=>?_)<;>(refine ζP (kk:=1) 21 ζn fun h21 ho21=>?_;refine ζr (En.freeze (l:=21) (t:=21) rfl rfl) fun _=>?_;rw [show share (PV.own 3 1 1 [PV.val (.int .i64 a.n)])=pInts [a.n] from rfl])<;>refine ζe (back _ (nrm ?_))<;>refine xD 11 27 rfl (ζB ζX) ?_<;>(refine ζi 12 kR ?_)<;>(refine ζf rfl fun w9 M9 N9 DQ back=>?_)<;>refine ζs [(.int .i64 0),(.int .i64 0),(.slice none 0 0),(.slice none 0 0),(.slice none 0 0)] 5 5 ζN fun h5=>?_<;>refine ζe (back _ (nrm ?_))<;>(refine ζi 13 kR ?_)<;>(refine ζf rfl fun w9 M9 N9 DQ back=>?_)<;>(refine ζt 5 (m:=5) kR ?_ (h1:=by show (List.all [pInt (a.n+1),pInt a.syms,pInts [a.n],pInts [a.n],PV.val v26] En.one)=true;simp only [XF,XG,XH,Xg];exact ⟨rfl,rfl,rfl,rfl,ho26⟩))<;>refine ζe (back _ (nrm ?_)))))));rotate_right;(focus ((refine ζf rfl fun w9 M9 N9 DQ back=>?_)<;>(refine ζP (kk:=1) 21 ζn fun h21 ho21=>?_;refine ζr (En.freeze (l:=21) (t:=21) rfl rfl) fun _=>?_;rw [show share (PV.own 3 1 1 [PV.val (.int .i64 a.n)])=pInts [a.n] from rfl])<;>refine ζe (back _ (nrm ?_))<;>(refine Zad 7 12 kR ?_ ?_;rotate_right;(focus ((refine ζf rfl fun w9 M9 N9 DQ back=>?_)<;>refine ζs [(.int .i64 0),(.int .i64 0),(.slice none 0 0),(.slice none 0 0),(.slice none 0 0)] 5 5 ζN fun h5=>?_<;>refine ζe (back _ (nrm ?_))<;>(refine ζi 7 kR ?_)<;>(refine ζf rfl fun w9 M9 N9 DQ back=>?_)<;>(refine ζP (kk:=1) 23 ζn fun h23 ho23=>?_;refine ζr (En.freeze (l:=23) (t:=23) rfl rfl) fun _=>?_;rw [show share (PV.own 3 1 1 [PV.val (.int .i64 a.n)])=pInts [a.n] from rfl])<;>refine ζe (back _ (nrm ?_))<;>refine xE 11 27 rfl (ζB ζX) ?_<;>(refine ζi 13 kR ?_)<;>(refine ζf rfl fun w9 M9 N9 DQ back=>?_)<;>(refine ζt 5 (m:=5) kR ?_ (h1:=by show (List.all [pInt (a.n+1),pInt a.syms,pInts [a.n],pInts [a.n],PV.val v26] En.one)=true;simp only [XF,XG,XH,Xg];exact ⟨rfl,rfl,rfl,rfl,ho26⟩))<;>refine ζe (back _ (nrm ?_))));rotate_right;(focus ((refine ζf rfl fun w9 M9 N9 DQ back=>?_)<;>(refine ζP (kk:=1) 23 ζn fun h23 ho23=>?_;refine ζr (En.freeze (l:=23) (t:=23) rfl rfl) fun _=>?_;rw [show share (PV.own 3 1 1 [PV.val (.int .i64 a.n)])=pInts [a.n] from rfl])<;>refine ζe (back _ (nrm ?_))<;>refine xD 11 27 rfl (ζB ζX) ?_<;>(refine ζi 12 kR ?_)<;>(refine ζf rfl fun w9 M9 N9 DQ back=>?_)<;>refine ζs [(.int .i64 0),(.int .i64 0),(.slice none 0 0),(.slice none 0 0),(.slice none 0 0)] 5 5 ζN fun h5=>?_<;>refine ζe (back _ (nrm ?_))<;>(refine ζi 13 kR ?_)<;>(refine ζf rfl fun w9 M9 N9 DQ back=>?_)<;>(refine ζt 5 (m:=5) kR ?_ (h1:=by show (List.all [pInt (a.n+1),pInt a.syms,pInts [a.n],pInts [a.n],PV.val v26] En.one)=true;simp only [XF,XG,XH,Xg];exact ⟨rfl,rfl,rfl,rfl,ho26⟩))<;>refine ζe (back _ (nrm ?_))))))))));rotate_right;(focus ((refine ζf rfl fun w9 M9 N9 DQ back=>?_)<;>(refine ζP (kk:=1) 23 ζn fun h23 ho23=>?_;refine ζr (En.freeze (l:=23) (t:=23) rfl rfl) fun _=>?_;rw [show share (PV.own 3 1 1 [PV.val (.int .i64 a.n)])=pInts [a.n] from rfl])<;>refine ζe (back _ (nrm ?_))<;>(refine Zfm 5 10 12 kR ?_ ?_ ?_;rotate_right;(focus ((refine ζf rfl fun w9 M9 N9 DQ back=>?_)<;>refine ζs [(.int .i64 0),(.int .i64 0),(.slice none 0 0),(.slice none 0 0),(.slice none 0 0)] 5 5 ζN fun h5=>?_<;>refine ζe (back _ (nrm ?_))<;>(refine Zad 5 10 kR ?_ ?_;rotate_right;(focus ((refine ζf rfl fun w9 M9 N9 DQ back=>?_)<;>refine cO 26 (cA Tryz.call138 (ZaK a.moves (by omega))) fun v26 ho26=>?_<;>refine ζe (back _ (nrm ?_))<;>(refine ζi 5 kR ?_)<;>(refine ζf rfl fun w9 M9 N9 DQ back=>?_)<;>(refine ζP (kk:=1) 21 ζn fun h21 ho21=>?_;refine ζr (En.freeze (l:=21) (t:=21) rfl rfl) fun _=>?_;rw [show share (PV.own 3 1 1 [PV.val (.int .i64 a.n)])=pInts [a.n] from rfl])<;>refine ζe (back _ (nrm ?_))<;>refine xE 11 27 rfl (ζB ζX) ?_<;>(refine ζi 13 kR ?_)<;>(refine ζf rfl fun w9 M9 N9 DQ back=>?_)<;>(refine ζt 5 (m:=5) kR ?_ (h1:=by show (List.all [pInt (a.n+1),pInt a.syms,pInts [a.n],pInts [a.n],PV.val v26] En.one)=true;simp only [XF,XG,XH,Xg];exact ⟨rfl,rfl,rfl,rfl,ho26⟩))<;>refine ζe (back _ (nrm ?_))));rotate_right;(focus ((refine ζf rfl fun w9 M9 N9 DQ back=>?_)<;>(refine ζP (kk:=1) 21 ζn fun h21 ho21=>?_;refine ζr (En.freeze (l:=21) (t:=21) rfl rfl) fun _=>?_;rw [show share (PV.own 3 1 1 [PV.val (.int .i64 a.n)])=pInts [a.n] from rfl])<;>refine ζe (back _ (nrm ?_))<;>(refine ζi 10 kR ?_)<;>(refine ζf rfl fun w9 M9 N9 DQ back=>?_)<;>refine cO 26 (cA Tryz.call138 (ZaK a.moves (by omega))) fun v26 ho26=>?_<;>refine ζe (back _ (nrm ?_))<;>refine xE 11 27 rfl (ζB ζX) ?_<;>(refine ζi 13 kR ?_)<;>(refine ζf rfl fun w9 M9 N9 DQ back=>?_)<;>(refine ζt 5 (m:=5) kR ?_ (h1:=by show (List.all [pInt (a.n+1),pInt a.syms,pInts [a.n],pInts [a.n],PV.val v26] En.one)=true;simp only [XF,XG,XH,Xg];exact ⟨rfl,rfl,rfl,rfl,ho26⟩))<;>refine ζe (back _ (nrm ?_)))))));rotate_right;(focus ((refine ζf rfl fun w9 M9 N9 DQ back=>?_)<;>refine cO 26 (cA Tryz.call138 (ZaK a.moves (by omega))) fun v26 ho26=>?_<;>refine ζe (back _ (nrm ?_))<;>(refine Zad 5 12 kR ?_ ?_;rotate_right;(focus ((refine ζf rfl fun w9 M9 N9 DQ back=>?_)<;>refine ζs [(.int .i64 0),(.int .i64 0),(.slice none 0 0),(.slice none 0 0),(.slice none 0 0)] 5 5 ζN fun h5=>?_<;>refine ζe (back _ (nrm ?_))<;>(refine ζi 5 kR ?_)<;>(refine ζf rfl fun w9 M9 N9 DQ back=>?_)<;>(refine ζP (kk:=1) 21 ζn fun h21 ho21=>?_;refine ζr (En.freeze (l:=21) (t:=21) rfl rfl) fun _=>?_;rw [show share (PV.own 3 1 1 [PV.val (.int .i64 a.n)])=pInts [a.n] from rfl])<;>refine ζe (back _ (nrm ?_))<;>refine xE 11 27 rfl (ζB ζX) ?_<;>(refine ζi 13 kR ?_)<;>(refine ζf rfl fun w9 M9 N9 DQ back=>?_)<;>(refine ζt 5 (m:=5) kR ?_ (h1:=by show (List.all [pInt (a.n+1),pInt a.syms,pInts [a.n],pInts [a.n],PV.val v26] En.one)=true;simp only [XF,XG,XH,Xg];exact ⟨rfl,rfl,rfl,rfl,ho26⟩))<;>refine ζe (back _ (nrm ?_))));rotate_right;(focus ((refine ζf rfl fun w9 M9 N9 DQ back=>?_)<;>(refine ζP (kk:=1) 21 ζn fun h21 ho21=>?_;refine ζr (En.freeze (l:=21) (t:=21) rfl rfl) fun _=>?_;rw [show share (PV.own 3 1 1 [PV.val (.int .i64 a.n)])=pInts [a.n] from rfl])<;>refine ζe (back _ (nrm ?_))<;>refine xD 11 27 rfl (ζB ζX) ?_<;>(refine ζi 12 kR ?_)<;>(refine ζf rfl fun w9 M9 N9 DQ back=>?_)<;>refine ζs [(.int .i64 0),(.int .i64 0),(.slice none 0 0),(.slice none 0 0),(.slice none 0 0)] 5 5 ζN fun h5=>?_<;>refine ζe (back _ (nrm ?_))<;>(refine ζi 13 kR ?_)<;>(refine ζf rfl fun w9 M9 N9 DQ back=>?_)<;>(refine ζt 5 (m:=5) kR ?_ (h1:=by show (List.all [pInt (a.n+1),pInt a.syms,pInts [a.n],pInts [a.n],PV.val v26] En.one)=true;simp only [XF,XG,XH,Xg];exact ⟨rfl,rfl,rfl,rfl,ho26⟩))<;>refine ζe (back _ (nrm ?_)))))));rotate_right;(focus ((refine ζf rfl fun w9 M9 N9 DQ back=>?_)<;>(refine ζP (kk:=1) 21 ζn fun h21 ho21=>?_;refine ζr (En.freeze (l:=21) (t:=21) rfl rfl) fun _=>?_;rw [show share (PV.own 3 1 1 [PV.val (.int .i64 a.n)])=pInts [a.n] from rfl])<;>refine ζe (back _ (nrm ?_))<;>(refine Zad 10 12 kR ?_ ?_;rotate_right;(focus ((refine ζf rfl fun w9 M9 N9 DQ back=>?_)<;>refine ζs [(.int .i64 0),(.int .i64 0),(.slice none 0 0),(.slice none 0 0),(.slice none 0 0)] 5 5 ζN fun h5=>?_<;>refine ζe (back _ (nrm ?_))<;>(refine ζi 10 kR ?_)<;>(refine ζf rfl fun w9 M9 N9 DQ back=>?_)<;>refine cO 26 (cA Tryz.call138 (ZaK a.moves (by omega))) fun v26 ho26=>?_<;>refine ζe (back _ (nrm ?_))<;>refine xE 11 27 rfl (ζB ζX) ?_<;>(refine ζi 13 kR ?_)<;>(refine ζf rfl fun w9 M9 N9 DQ back=>?_)<;>(refine ζt 5 (m:=5) kR ?_ (h1:=by show (List.all [pInt (a.n+1),pInt a.syms,pInts [a.n],pInts [a.n],PV.val v26] En.one)=true;simp only [XF,XG,XH,Xg];exact ⟨rfl,rfl,rfl,rfl,ho26⟩))<;>refine ζe (back _ (nrm ?_))));rotate_right;(focus ((refine ζf rfl fun w9 M9 N9 DQ back=>?_)<;>refine cO 26 (cA Tryz.call138 (ZaK a.moves (by omega))) fun v26 ho26=>?_<;>refine ζe (back _ (nrm ?_))<;>refine xD 11 27 rfl (ζB ζX) ?_<;>(refine ζi 12 kR ?_)<;>(refine ζf rfl fun w9 M9 N9 DQ back=>?_)<;>refine ζs [(.int .i64 0),(.int .i64 0),(.slice none 0 0),(.slice none 0 0),(.slice none 0 0)] 5 5 ζN fun h5=>?_<;>refine ζe (back _ (nrm ?_))<;>(refine ζi 13 kR ?_)<;>(refine ζf rfl fun w9 M9 N9 DQ back=>?_)<;>(refine ζt 5 (m:=5) kR ?_ (h1:=by show (List.all [pInt (a.n+1),pInt a.syms,pInts [a.n],pInts [a.n],PV.val v26] En.one)=true;simp only [XF,XG,XH,Xg];exact ⟨rfl,rfl,rfl,rfl,ho26⟩))<;>refine ζe (back _ (nrm ?_))))))))));rotate_right;(focus ((refine ζf rfl fun w9 M9 N9 DQ back=>?_)<;>(refine ζP (kk:=1) 21 ζn fun h21 ho21=>?_;refine ζr (En.freeze (l:=21) (t:=21) rfl rfl) fun _=>?_;rw [show share (PV.own 3 1 1 [PV.val (.int .i64 a.n)])=pInts [a.n] from rfl])<;>refine ζe (back _ (nrm ?_))<;>(refine Zfm 7 10 12 kR ?_ ?_ ?_;rotate_right;(focus ((refine ζf rfl fun w9 M9 N9 DQ back=>?_)<;>refine ζs [(.int .i64 0),(.int .i64 0),(.slice none 0 0),(.slice none 0 0),(.slice none 0 0)] 5 5 ζN fun h5=>?_<;>refine ζe (back _ (nrm ?_))<;>(refine Zad 7 10 kR ?_ ?_;rotate_right;(focus ((refine ζf rfl fun w9 M9 N9 DQ back=>?_)<;>refine cO 26 (cA Tryz.call138 (ZaK a.moves (by omega))) fun v26 ho26=>?_<;>refine ζe (back _ (nrm ?_))<;>(refine ζi 7 kR ?_)<;>(refine ζf rfl fun w9 M9 N9 DQ back=>?_)<;>(refine ζP (kk:=1) 23 ζn fun h23 ho23=>?_;refine ζr (En.freeze (l:=23) (t:=23) rfl rfl) fun _=>?_;rw [show share (PV.own 3 1 1 [PV.val (.int .i64 a.n)])=pInts [a.n] from rfl])<;>refine ζe (back _ (nrm ?_))<;>refine xE 11 27 rfl (ζB ζX) ?_<;>(refine ζi 13 kR ?_)<;>(refine ζf rfl fun w9 M9 N9 DQ back=>?_)<;>(refine ζt 5 (m:=5) kR ?_ (h1:=by show (List.all [pInt (a.n+1),pInt a.syms,pInts [a.n],pInts [a.n],PV.val v26] En.one)=true;simp only [XF,XG,XH,Xg];exact ⟨rfl,rfl,rfl,rfl,ho26⟩))<;>refine ζe (back _ (nrm ?_))));rotate_right;(focus ((refine ζf rfl fun w9 M9 N9 DQ back=>?_)<;>(refine ζP (kk:=1) 23 ζn fun h23 ho23=>?_;refine ζr (En.freeze (l:=23) (t:=23) rfl rfl) fun _=>?_;rw [show share (PV.own 3 1 1 [PV.val (.int .i64 a.n)])=pInts [a.n] from rfl])<;>refine ζe (back _ (nrm ?_))<;>(refine ζi 10 kR ?_)<;>(refine ζf rfl fun w9 M9 N9 DQ back=>?_)<;>refine cO 26 (cA Tryz.call138 (ZaK a.moves (by omega))) fun v26 ho26=>?_<;>refine ζe (back _ (nrm ?_))<;>refine xE 11 27 rfl (ζB ζX) ?_<;>(refine ζi 13 kR ?_)<;>(refine ζf rfl fun w9 M9 N9 DQ back=>?_)<;>(refine ζt 5 (m:=5) kR ?_ (h1:=by show (List.all [pInt (a.n+1),pInt a.syms,pInts [a.n],pInts [a.n],PV.val v26] En.one)=true;simp only [XF,XG,XH,Xg];exact ⟨rfl,rfl,rfl,rfl,ho26⟩))<;>refine ζe (back _ (nrm ?_)))))));rotate_right;(focus ((refine ζf rfl fun w9 M9 N9 DQ back=>?_)<;>refine cO 26 (cA Tryz.call138 (ZaK a.moves (by omega))) fun v26 ho26=>?_<;>refine ζe (back _ (nrm ?_))<;>(refine Zad 7 12 kR ?_ ?_;rotate_right;(focus ((refine ζf rfl fun w9 M9 N9 DQ back=>?_)<;>refine ζs [(.int .i64 0),(.int .i64 0),(.slice none 0 0),(.slice none 0 0),(.slice none 0 0)] 5 5 ζN fun h5=>?_<;>refine ζe (back _ (nrm ?_))<;>(refine ζi 7 kR ?_)<;>(refine ζf rfl fun w9 M9 N9 DQ back=>?_)<;>(refine ζP (kk:=1) 23 ζn fun h23 ho23=>?_;refine ζr (En.freeze (l:=23) (t:=23) rfl rfl) fun _=>?_;rw [show share (PV.own 3 1 1 [PV.val (.int .i64 a.n)])=pInts [a.n] from rfl])<;>refine ζe (back _ (nrm ?_))<;>refine xE 11 27 rfl (ζB ζX) ?_<;>(refine ζi 13 kR ?_)<;>(refine ζf rfl fun w9 M9 N9 DQ back=>?_)<;>(refine ζt 5 (m:=5) kR ?_ (h1:=by show (List.all [pInt (a.n+1),pInt a.syms,pInts [a.n],pInts [a.n],PV.val v26] En.one)=true;simp only [XF,XG,XH,Xg];exact ⟨rfl,rfl,rfl,rfl,ho26⟩))<;>refine ζe (back _ (nrm ?_))));rotate_right;(focus ((refine ζf rfl fun w9 M9 N9 DQ back=>?_)<;>(refine ζP (kk:=1) 23 ζn fun h23 ho23=>?_;refine ζr (En.freeze (l:=23) (t:=23) rfl rfl) fun _=>?_;rw [show share (PV.own 3 1 1 [PV.val (.int .i64 a.n)])=pInts [a.n] from rfl])<;>refine ζe (back _ (nrm ?_))<;>refine xD 11 27 rfl (ζB ζX) ?_<;>(refine ζi 12 kR ?_)<;>(refine ζf rfl fun w9 M9 N9 DQ back=>?_)<;>refine ζs [(.int .i64 0),(.int .i64 0),(.slice none 0 0),(.slice none 0 0),(.slice none 0 0)] 5 5 ζN fun h5=>?_<;>refine ζe (back _ (nrm ?_))<;>(refine ζi 13 kR ?_)<;>(refine ζf rfl fun w9 M9 N9 DQ back=>?_)<;>(refine ζt 5 (m:=5) kR ?_ (h1:=by show (List.all [pInt (a.n+1),pInt a.syms,pInts [a.n],pInts [a.n],PV.val v26] En.one)=true;simp only [XF,XG,XH,Xg];exact ⟨rfl,rfl,rfl,rfl,ho26⟩))<;>refine ζe (back _ (nrm ?_)))))));rotate_right;(focus ((refine ζf rfl fun w9 M9 N9 DQ back=>?_)<;>(refine ζP (kk:=1) 23 ζn fun h23 ho23=>?_;refine ζr (En.freeze (l:=23) (t:=23) rfl rfl) fun _=>?_;rw [show share (PV.own 3 1 1 [PV.val (.int .i64 a.n)])=pInts [a.n] from rfl])<;>refine ζe (back _ (nrm ?_))<;>(refine Zad 10 12 kR ?_ ?_;rotate_right;(focus ((refine ζf rfl fun w9 M9 N9 DQ back=>?_)<;>refine ζs [(.int .i64 0),(.int .i64 0),(.slice none 0 0),(.slice none 0 0),(.slice none 0 0)] 5 5 ζN fun h5=>?_<;>refine ζe (back _ (nrm ?_))<;>(refine ζi 10 kR ?_)<;>(refine ζf rfl fun w9 M9 N9 DQ back=>?_)<;>refine cO 26 (cA Tryz.call138 (ZaK a.moves (by omega))) fun v26 ho26=>?_<;>refine ζe (back _ (nrm ?_))<;>refine xE 11 27 rfl (ζB ζX) ?_<;>(refine ζi 13 kR ?_)<;>(refine ζf rfl fun w9 M9 N9 DQ back=>?_)<;>(refine ζt 5 (m:=5) kR ?_ (h1:=by show (List.all [pInt (a.n+1),pInt a.syms,pInts [a.n],pInts [a.n],PV.val v26] En.one)=true;simp only [XF,XG,XH,Xg];exact ⟨rfl,rfl,rfl,rfl,ho26⟩))<;>refine ζe (back _ (nrm ?_))));rotate_right;(focus ((refine ζf rfl fun w9 M9 N9 DQ back=>?_)<;>refine cO 26 (cA Tryz.call138 (ZaK a.moves (by omega))) fun v26 ho26=>?_<;>refine ζe (back _ (nrm ?_))<;>refine xD 11 27 rfl (ζB ζX) ?_<;>(refine ζi 12 kR ?_)<;>(refine ζf rfl fun w9 M9 N9 DQ back=>?_)<;>refine ζs [(.int .i64 0),(.int .i64 0),(.slice none 0 0),(.slice none 0 0),(.slice none 0 0)] 5 5 ζN fun h5=>?_<;>refine ζe (back _ (nrm ?_))<;>(refine ζi 13 kR ?_)<;>(refine ζf rfl fun w9 M9 N9 DQ back=>?_)<;>(refine ζt 5 (m:=5) kR ?_ (h1:=by show (List.all [pInt (a.n+1),pInt a.syms,pInts [a.n],pInts [a.n],PV.val v26] En.one)=true;simp only [XF,XG,XH,Xg];exact ⟨rfl,rfl,rfl,rfl,ho26⟩))<;>refine ζe (back _ (nrm ?_)))))))))))<;>refine Zam kR (nav ?_)<;>try dsimp only)<;>(
      exact ZaA ⟨(v26,h5),ho26⟩ ⟨rfl,rfl,rfl,rfl,trivial⟩ ⟨rfl,rfl,rfl,rfl,trivial⟩)
   · rintro ⟨⟨v26,h5⟩,ho26⟩;dsimp only at ho26 ⊢;refine ζw (ζF (l:=26) 301 rfl rfl) fun _=>?_;refine ζw (ζM (l:=301) (p':= .own 93 3 (a.moves++Zfg a.n (a.start.take 0)).length ((a.moves++Zfg a.n (a.start.take 0)).flatMap cMv)) rfl (by rw [show Zfg a.n (a.start.take 0)=[] from rfl,XB])) fun _=>?_;refine nav ?_;(refine ζa ?_<;>refine xL 28 (ζh 1 ZaJ) ?_<;>(refine yL 29 (ζq 1 ζD) fun v29 h=>?_;cases h)<;>refine xL 30 (ζU ζu) (xL 31 ζb ?_)<;>refine ζd ?_)
     refine ζy (ι:={q:Nat×Value//q.1≤a.start.length∧q.2.oneCell'=true}) (fun k=>⟨[(1,_,_),(2,_,_),(4,_,_),(5,_,_),(29,_,_),(30,_,_),(31, .int .i64 k.1.1,pInt k.1.1)],[(1,_,_),(2,_,_),(5,h5, .own 39 5 1 [pInt (a.n+1),pInt a.syms,pInts [a.n],pInts [a.n], .val k.1.2]),(301,k.1.2, .own 93 3 (a.moves++Zfg a.n (a.start.take k.1.1)).length ((a.moves++Zfg a.n (a.start.take k.1.1)).flatMap cMv))]⟩) (fun k=>a.start.length-k.1.1) ⟨(0,v26),Xe _,ho26⟩ (fun a w H=>H.weaken ⟨rfl,rfl,rfl,rfl,rfl,rfl,rfl,trivial⟩ ⟨rfl,rfl,rfl,rfl,trivial⟩) ?_;rintro ⟨⟨k,hM⟩,hk,hMo⟩;dsimp only;dsimp only at hk hMo;(have hl1:(a.moves++Zfg a.n (a.start.take k)).length≤30000:=by unfold Zfg;rw [Xc,Xf,Xu];omega);refine nav ?_;(refine ζa ?_<;>refine xL 32 ζK ?_<;>refine ζd ?_)
     (first|refine cCd ?_ ?_|refine cC ?_ ?_)<;>intro hb32
     · first
       |exact bN hb32
       | (
        obtain ⟨x,hx⟩:=ζm (show k<a.start.length by omega);have e1:=Zas (f:=pInt) hx;refine nav ?_;(refine ζa ?_<;>refine xL 33 (ζI ζu) ?_<;>(refine yL 34 (ZaE ζp) fun v34 h=>?_;cases h)<;>refine xL 7 ζc ?_<;>refine ζd ?_)
        (refine ζa ?_<;>refine xL 35 (ζh 5 ζE) ?_<;>(refine yL 36 (ζq 5 ζO) fun v36 h=>?_;cases h)<;>refine xL 37 ζb (xL 38 ζb (xL 39 (ζB Zcn) ?_))<;>refine Zaw 40 Zaj fun h40 ho40=>?_<;>(refine ζ0 301 40 41 Zaj fun h41 ho41=>?_;refine ζr (ζF (l:=41) 301 rfl rfl) fun _=>?_;refine ζr (ζM (l:=301) rfl ((Zcq _ (a.moves++Zfg a.n (a.start.take k)) ⟨a.n,x,-1⟩).trans (by rw [XA,←Zwd a.n hx]))) fun _=>?_)<;>refine xL 42 (ζh 5 ζE) ?_<;>refine ZbQ 5 ζO Zby ?_<;>refine ζd ?_)
        (refine ζa ?_<;>refine xL 43 ζG (xL 31 ζb ?_)<;>refine ζd ?_)
        refine ζj (
         ⟨(k+1,h41),ζg hx,ho41⟩
         ) (by dsimp only;omega) ⟨rfl,rfl,rfl,rfl,rfl,rfl,rfl,trivial⟩ ⟨rfl,rfl,rfl,rfl,trivial⟩)
     · first
       |exact bN hb32
       | (
        rw [Xo (show a.start.length≤k by omega)];rw [show a.moves++Zfg a.n a.start=a.moves++Zfg a.n a.start++Zmp a.n (a.fin.take 0) from (XB _).symm];refine nav ?_;(refine ζa ?_<;>refine xL 44 (ζh 1 Zau) ?_<;>(refine yL 45 (ζq 1 ζD) fun v45 h=>?_;cases h)<;>refine xL 46 (ζU ζu) (xL 47 ζb ?_)<;>refine ζd ?_)
        refine ζy (ι:={q:Nat×Value//q.1≤a.fin.length∧q.2.oneCell'=true}) (fun k=>⟨[(1,_,_),(2,_,_),(4,_,_),(5,_,_),(45,_,_),(46,_,_),(47, .int .i64 k.1.1,pInt k.1.1)],[(1,_,_),(2,_,_),(5,h5, .own 39 5 1 [pInt (a.n+1),pInt a.syms,pInts [a.n],pInts [a.n], .val k.1.2]),(301,k.1.2, .own 93 3 (a.moves++Zfg a.n a.start++Zmp a.n (a.fin.take k.1.1)).length ((a.moves++Zfg a.n a.start++Zmp a.n (a.fin.take k.1.1)).flatMap cMv))]⟩) (fun k=>a.fin.length-k.1.1) ⟨(0,hM),Xe _,hMo⟩ (fun a w H=>H.weaken ⟨rfl,rfl,rfl,rfl,rfl,rfl,rfl,trivial⟩ ⟨rfl,rfl,rfl,rfl,trivial⟩) ?_;rintro ⟨⟨j,hM2⟩,hj,hM2o⟩;dsimp only;dsimp only at hj hM2o;(have hl2:(a.moves++Zfg a.n a.start++Zmp a.n (a.fin.take j)).length≤30000:=by unfold Zfg Zmp;rw [Xc,Xc,Xf,Xf,Xu];omega);refine nav ?_;(refine ζa ?_<;>refine xL 48 ζK ?_<;>refine ζd ?_)
        (first|refine cCd ?_ ?_|refine cC ?_ ?_)<;>intro hb48
        · first
          |exact bN hb48
          | (
           obtain ⟨y,hy⟩:=ζm (show j<a.fin.length by omega);have e1:=Zas (f:=pInt) hy;refine nav ?_;(refine ζa ?_<;>refine xL 49 (ζI ζu) ?_<;>(refine yL 50 (ZaE ζp) fun v50 h=>?_;cases h)<;>refine xL 9 ζc ?_<;>refine ζd ?_)
           (refine ζa ?_<;>refine xL 51 (ζh 5 ζE) ?_<;>(refine yL 52 (ζq 5 ζO) fun v52 h=>?_;cases h)<;>refine xL 53 ζb (xL 54 ζb (xL 55 (ζB Zcn) ?_))<;>refine Zaw 56 Zaj fun h56 ho56=>?_<;>(refine ζ0 301 56 57 Zaj fun h57 ho57=>?_;refine ζr (ζF (l:=57) 301 rfl rfl) fun _=>?_;refine ζr (ζM (l:=301) rfl ((Zcq _ (a.moves++Zfg a.n a.start++Zmp a.n (a.fin.take j)) ⟨y,a.n,-1⟩).trans (by rw [XA (a.moves++Zfg a.n a.start),←Zwe a.n hy]))) fun _=>?_)<;>refine xL 58 (ζh 5 ζE) ?_<;>refine ZbQ 5 ζO Zby ?_<;>refine ζd ?_)
           (refine ζa ?_<;>refine xL 59 ζG (xL 47 ζb ?_)<;>refine ζd ?_)
           refine ζj (
            ⟨(j+1,h57),ζg hy,ho57⟩
            ) (by dsimp only;omega) ⟨rfl,rfl,rfl,rfl,rfl,rfl,rfl,trivial⟩ ⟨rfl,rfl,rfl,rfl,trivial⟩)
        · first
          |exact bN hb48
          | (
           rw [Xo (show a.fin.length≤j by omega)];have hone:En.one (PV.val hM2)=true:=hM2o;refine nav ?_;refine ζw (ζF (l:=301) 1000 rfl rfl) fun _=>?_;(refine ζa ?_<;>(refine yL 60 (ζk (k:=5) (ps:=[pInt (a.n+1),pInt a.syms,pInts [a.n],pInts [a.n],PV.val hM2]) 5 kR) fun v60 h=>?_;cases h)<;>(refine Zat [(1000,hM2,PV.own 93 3 (ZdC a).moves.length ((ZdC a).moves.flatMap cMv)),(1,_,_),(2,_,_),(5,_,_)] ⟨rfl,rfl,rfl,rfl,trivial⟩ ?_;refine ZbO [1,2,5] 61 (Tryz.call137) (Zo2 (ZdC a) (ZrA h.toAOk) (ZsV h) _ hM2 hM2o r5 hr) ?_;rintro _ _ _ ⟨⟨V1,rfl⟩,rfl,rfl⟩)<;>refine xL 62 ζl (xL 63 ζl ?_)<;>refine ζt 2 ζo ?_<;>refine xL 3 ζc ?_<;>refine ζd ?_)
           exact Zaf (k:=5) 2 kR (Tryz.results90) rfl rfl rfl (Xa rfl) (by decide) r5.s rfl))
theorem ZBv (a:Aut):AF Tryz.prog 90 [ζS a] (· =resW (ZeI a)):=by
 cases hv:Zaa a with
 |false=>rw [Zwc hv];exact Zwf a hv
 | true=>
   rw [Zzd hv];have h:=Zb1 hv;obtain ⟨p0,p1,p2,p3,p4,E,h5,h2,hr⟩:=Zgn (ZdC a) (ZrA h.toAOk) (ZlP h);rw [h2];exact ZBu a hv h5 hr
theorem ZeS (l:List Int) (n:Int) (hl:l.length≤1000000) (hn:0≤n∧n≤1000000) (hb:∀x∈l,0≤x∧x≤1000000):AF Tryz.prog 136 [pInts l,pInt n] (· = .own 3 1 (ZbS n l).length ((ZbS n l).map pInt)):=by
 refine AF.of_body 22 Tryz.func136 rfl Tryz.ntmps136 (Xa rfl) ?_
 intro w0 M0 vs hl hv
 obtain ⟨v0,v1,rfl⟩:=Zbl hl
 obtain rfl:=hv 1 _ _ rfl rfl
 clear hl hv
 refine Zb9 0 rfl fun hlen=>?_
 refine nav ?_
 (refine ζa ?_<;>refine xL 4 ζc ?_<;>refine ζd ?_)
 (refine ζa ?_<;>refine xL 5 ζc ?_<;>refine ζd ?_)
 refine ζw (ZbW 200 3 1 rfl) fun _=>?_
 (refine ζa ?_<;>refine xL 8 ζb (xL 9 (ζU ζu) (xL 10 ζb ?_))<;>refine ζd ?_)
 refine ζy (ι:={q:Nat×Value//q.1≤l.length∧q.2.oneCell'=true}) (fun k=>⟨[(1,_,_),(8,_,_),(9,_,_),(5,k.1.2, .val k.1.2),(10, .int .i64 k.1.1,pInt k.1.1)],[(200,k.1.2, .own 3 1 (ZbS n (l.take k.1.1)).length ((ZbS n (l.take k.1.1)).map pInt))]⟩) (fun k=>l.length-k.1.1) ⟨(0, .slice none 0 0),Xe _,rfl⟩ (fun a w H=>H.weaken ⟨rfl,rfl,rfl,rfl,rfl,trivial⟩ ⟨rfl,trivial⟩) ?_
 rintro ⟨⟨k,hO⟩,hk,hOo⟩
 dsimp only
 dsimp only at hk hOo
 have hal:(ZbS n (l.take k)).length≤1000000:=by rw [ZeK,Xu];omega
 refine nav ?_
 (refine ζa ?_<;>refine xL 11 ζK ?_<;>refine ζd ?_)
 (first|refine cCd ?_ ?_|refine cC ?_ ?_)<;>intro hb11
 · first
   |exact bN hb11
   | (
    obtain ⟨x,hx⟩:=ζm (show k<l.length by omega);have e1:=Zas (f:=pInt) hx;have hxb:=hb x (Xb hx);refine nav ?_;(refine ζa ?_<;>refine xL 12 (ζI ζu) ?_<;>(refine yL 13 (ZaE ζp) fun v13 h=>?_;cases h)<;>refine xL 7 ζc ?_<;>refine ζd ?_)
    (refine ζa ?_<;>refine xL 14 ζb (xL 15 ζb (xL 16 ζb (xL 17 ζG ?_)))<;>refine ζP (kk:=1) 18 ζn fun h18 ho18=>?_<;>(refine ζ0 200 18 19 ζn fun h19 ho19=>?_;refine ζr (ζF (l:=19) 200 rfl rfl) fun _=>?_;refine ζr (ζM (l:=200) rfl ((ZeO _ (ZbS n (l.take k)) (x+n)).trans (by rw [←ZvJ n hx]))) fun _=>?_)<;>refine xL 5 ζc ?_<;>refine ζd ?_)
    (refine ζa ?_<;>refine xL 20 ζG (xL 10 ζb ?_)<;>refine ζd ?_)
    refine ζj (
     ⟨(k+1,h19),ζg hx,ho19⟩
     ) (by dsimp only;omega) ⟨rfl,rfl,rfl,rfl,rfl,trivial⟩ ⟨rfl,trivial⟩)
 · first
   |exact bN hb11
   | (
    rw [Xo (show l.length≤k by omega)];refine nav ?_;(refine ζa ?_<;>refine xL 21 ζb (xL 4 ζc ?_)<;>refine ζd ?_)
    exact Zb8 200 (Tryz.results136) rfl rfl rfl)
def bsM (a b:Aut):List Mv:=a.moves++Zel a.n b.moves
theorem Zpi {a b:Aut} (ha:AOk a) (hb:AOk b):(bsM a b).length≤40000:=by
 unfold bsM
 rw [Xc,ZiO]
 have:=ha.ml;have:=hb.ml;omega
set_option maxHeartbeats 2000000 in
theorem Zn0 (a b:Aut) (ha:AOk a) (hb:AOk b) (V V':Value):AFh False Tryz.prog 134 [(0,V,ζS a),(1,V',ζS b)] [] (fun v q h=>∃hM:Value,hM.oneCell'=true∧q= .agg [pInt (a.n+b.n),pInt a.syms, .val (.slice none 0 0), .val (.slice none 0 0), .val hM]∧h=[(1000,hM, .own 93 3 (bsM a b).length ((bsM a b).flatMap cMv))]):=by
 have hn0:=ha.n0
 have hn1:=ha.n1
 have hm0:=hb.n0
 have hm1:=hb.n1
 have hal:=ha.ml
 have hbl:=hb.ml
 refine AFh.of_body 46 Tryz.func134 rfl Tryz.ntmps134 (Xa rfl) rfl ?_
 intro w0 M0 N0
 refine nav ?_
 (refine ζa ?_<;>refine ζH 2 5 fun h2=>?_<;>refine ζH 3 5 fun h3=>?_<;>refine ζs [(.int .i64 0),(.int .i64 0),(.slice none 0 0),(.slice none 0 0),(.slice none 0 0)] 5 4 ζN fun h4=>?_<;>refine ζd ?_)
 refine Zd8 (fun x:{x:Value×Value//x.1.oneCell'=true}=>⟨[(2,padd (sbase h2) 0, .val (padd (sbase h2) 0)),(3,padd (sbase h3) 0, .val (padd (sbase h3) 0)),(4,padd (sbase h4) 0, .val (padd (sbase h4) 0)),(5,padd (sbase x.1.2) 0, .val (padd (sbase x.1.2) 0))],[(2,h2, .own 39 5 1 [pInt a.n,pInt a.syms,pInts a.start,pInts a.fin,pMvs a.moves]),(3,h3, .own 39 5 1 [pInt b.n,pInt b.syms,pInts b.start,pInts b.fin,pMvs b.moves]),(4,h4, .own 39 5 1 [pInt 0,pInt 0, .val (.slice none 0 0), .val (.slice none 0 0), .val (.slice none 0 0)]),(5,x.1.2, .own 39 5 1 [pInt (a.n+b.n),pInt a.syms, .val (.slice none 0 0), .val (.slice none 0 0), .val x.1.1]),(17,x.1.1, .own 93 3 a.moves.length (a.moves.flatMap cMv))]⟩) ?_ ?_
 · (refine ζY (fun i=>([]:List Nat).elem i) [2,3] kR ?_<;>refine xD 0 8 rfl (ζh 2 ζ5) ?_<;>(refine yD 1 9 rfl (ζq 2 ζp) fun v9 h=>?_;cases h)<;>refine xD 2 10 rfl (ζh 3 ζ5) ?_<;>(refine yD 3 11 rfl (ζq 3 ζp) fun v11 h=>?_;cases h)<;>refine xD 4 12 rfl ζG ?_<;>refine xD 5 13 rfl (ζh 2 Zao) ?_<;>(refine yD 6 14 rfl (ζq 2 ζp) fun v14 h=>?_;cases h)<;>refine xD 7 15 rfl (ζh 2 ζE) ?_<;>(refine yD 8 16 rfl (ζq 2 ζO) fun v16 h=>?_;cases h)<;>(refine Zad 9 11 kR ?_ ?_;rotate_right;(focus ((refine ζf rfl fun w9 M9 N9 DQ back=>?_)<;>refine ζs [(.int .i64 0),(.int .i64 0),(.slice none 0 0),(.slice none 0 0),(.slice none 0 0)] 5 5 ζN fun h5=>?_<;>refine ζe (back _ (nrm ?_))<;>(refine ζi 9 kR ?_)<;>(refine ζf rfl fun w9 M9 N9 DQ back=>?_)<;>refine cO 17 (cA Tryz.call138 (ZaK a.moves (by omega))) fun v17 ho17=>?_<;>refine ζe (back _ (nrm ?_))<;>refine xE 10 18 rfl (ζB ζX) ?_<;>(refine ζi 12 kR ?_)<;>(refine ζf rfl fun w9 M9 N9 DQ back=>?_)<;>(refine ζt 5 (m:=5) kR ?_ (h1:=by show (List.all [pInt (a.n+b.n),pInt a.syms,PV.val (.slice none 0 0),PV.val (.slice none 0 0),PV.val v17] En.one)=true;simp only [XF,XG,XH,Xg];exact ⟨rfl,rfl,rfl,rfl,ho17⟩))<;>refine ζe (back _ (nrm ?_))));rotate_right;(focus ((refine ζf rfl fun w9 M9 N9 DQ back=>?_)<;>refine cO 17 (cA Tryz.call138 (ZaK a.moves (by omega))) fun v17 ho17=>?_<;>refine ζe (back _ (nrm ?_))<;>refine xD 10 18 rfl (ζB ζX) ?_<;>(refine ζi 11 kR ?_)<;>(refine ζf rfl fun w9 M9 N9 DQ back=>?_)<;>refine ζs [(.int .i64 0),(.int .i64 0),(.slice none 0 0),(.slice none 0 0),(.slice none 0 0)] 5 5 ζN fun h5=>?_<;>refine ζe (back _ (nrm ?_))<;>(refine ζi 12 kR ?_)<;>(refine ζf rfl fun w9 M9 N9 DQ back=>?_)<;>(refine ζt 5 (m:=5) kR ?_ (h1:=by show (List.all [pInt (a.n+b.n),pInt a.syms,PV.val (.slice none 0 0),PV.val (.slice none 0 0),PV.val v17] En.one)=true;simp only [XF,XG,XH,Xg];exact ⟨rfl,rfl,rfl,rfl,ho17⟩))<;>refine ζe (back _ (nrm ?_)))))<;>refine Zam kR (nav ?_)<;>try dsimp only)<;>(
    exact ZaA ⟨(v17,h5),ho17⟩ ⟨rfl,rfl,rfl,rfl,trivial⟩ ⟨rfl,rfl,rfl,rfl,rfl,trivial⟩)
 · rintro ⟨⟨v17,h5⟩,ho17⟩;dsimp only at ho17 ⊢;refine ζw (ζF (l:=17) 301 rfl rfl) fun _=>?_;refine ζw (ζM (l:=301) (p':= .own 93 3 (a.moves++Zel a.n (b.moves.take 0)).length ((a.moves++Zel a.n (b.moves.take 0)).flatMap cMv)) rfl (by rw [show Zel a.n (b.moves.take 0)=[] from rfl,XB])) fun _=>?_;refine nav ?_;(refine ζa ?_<;>refine xL 19 (ζh 3 ζE) ?_<;>(refine yL 20 (ζq 3 ζO) fun v20 h=>?_;cases h)<;>refine xL 21 (ζU ζR) (xL 22 ζb ?_)<;>refine ζd ?_)
   refine ζy (ι:={q:Nat×Value//q.1≤b.moves.length∧q.2.oneCell'=true}) (fun k=>⟨[(2,_,_),(3,_,_),(4,_,_),(5,_,_),(20,_,_),(21,_,_),(22, .int .i64 k.1.1,pInt k.1.1)],[(2,_,_),(3,_,_),(4,_,_),(5,h5, .own 39 5 1 [pInt (a.n+b.n),pInt a.syms, .val (.slice none 0 0), .val (.slice none 0 0), .val k.1.2]),(301,k.1.2, .own 93 3 (a.moves++Zel a.n (b.moves.take k.1.1)).length ((a.moves++Zel a.n (b.moves.take k.1.1)).flatMap cMv))]⟩) (fun k=>b.moves.length-k.1.1) ⟨(0,v17),Xe _,ho17⟩ (fun a w H=>H.weaken ⟨rfl,rfl,rfl,rfl,rfl,rfl,rfl,trivial⟩ ⟨rfl,rfl,rfl,rfl,rfl,trivial⟩) ?_;rintro ⟨⟨k,hM⟩,hk,hMo⟩;dsimp only;dsimp only at hk hMo;have hl1:(a.moves++Zel a.n (b.moves.take k)).length≤50000:=by rw [Xc,ZiO,Xu];omega
   have q5:En.one (PV.val hM)=true:=hMo;refine nav ?_;(refine ζa ?_<;>refine xL 23 ζK ?_<;>refine ζd ?_)
   (first|refine cCd ?_ ?_|refine cC ?_ ?_)<;>intro hb23
   · first
     |exact bN hb23
     | (
      obtain ⟨x,hx⟩:=ζm (show k<b.moves.length by omega);have e1:=Zaq Zac b.moves k x hx;have e2:=ZaP Zac hx;have hxb:=hb.mv x (Xb hx);refine nav ?_;(refine ζa ?_<;>refine xL 24 (ζI ζR) ?_<;>(refine yL 25 (ZaQ ζ8) fun v25 h=>?_;cases h)<;>refine ζs [(.int .i64 0),(.int .i64 0),(.int .i64 0)] 3 7 Zdf fun h7=>?_<;>refine ζt 7 ζ8 ?_<;>refine ζd ?_)
      (refine ζa ?_<;>refine xL 26 (ζh 5 ζE) ?_<;>(refine yL 27 (ζq 5 ζO) fun v27 h=>?_;cases h)<;>refine xL 28 (ζh 7 ZaB) ?_<;>(refine yL 29 (ζq 7 ζp) fun v29 h=>?_;cases h)<;>refine xL 30 (ζh 2 ζ5) ?_<;>(refine yL 31 (ζq 2 ζp) fun v31 h=>?_;cases h)<;>refine xL 32 ζG (xL 33 (ζh 7 ZaU) ?_)<;>(refine yL 34 (ζq 7 ζp) fun v34 h=>?_;cases h)<;>refine xL 35 (ζh 2 ζ5) ?_<;>(refine yL 36 (ζq 2 ζp) fun v36 h=>?_;cases h)<;>refine xL 37 ζG (xL 38 (ζh 7 Zbq) ?_)<;>(refine yL 39 (ζq 7 ζp) fun v39 h=>?_;cases h)<;>refine xL 40 (ζB Zcn) ?_<;>refine Zaw 41 Zaj fun h41 ho41=>?_<;>(refine ζ0 301 41 42 Zaj fun h42 ho42=>?_;refine ζr (ζF (l:=42) 301 rfl rfl) fun _=>?_;refine ζr (ζM (l:=301) rfl ((Zcq _ (a.moves++Zel a.n (b.moves.take k)) ⟨x.src+a.n,x.dst+a.n,x.sym⟩).trans (by rw [XA,←ZvK a.n hx]))) fun _=>?_)<;>refine xL 43 (ζh 5 ζE) ?_<;>refine ZbQ 5 ζO Zby ?_<;>refine ζd ?_)
      (refine ζa ?_<;>refine xL 44 ζG (xL 22 ζb ?_)<;>refine ζd ?_)
      refine ζj (
       ⟨(k+1,h42),ζg hx,ho42⟩
       ) (by dsimp only;omega) ⟨rfl,rfl,rfl,rfl,rfl,rfl,rfl,trivial⟩ ⟨rfl,rfl,rfl,rfl,rfl,trivial⟩)
   · first
     |exact bN hb23
     | (
      rw [Xo (show b.moves.length≤k by omega)];refine ζw (ζF (l:=301) 1000 rfl rfl) fun _=>?_;refine nav ?_;(refine ζa ?_<;>(refine yL 45 (ζk (k:=5) (ps:=[pInt (a.n+b.n),pInt a.syms,PV.val (.slice none 0 0),PV.val (.slice none 0 0),PV.val hM]) 5 kR) fun v45 h=>?_;cases h)<;>refine ζt 4 ζo ?_<;>refine ζd ?_)
      exact ZC3 (k:=5) 4 [(1000,hM,PV.own 93 3 (bsM a b).length ((bsM a b).flatMap cMv))] kR (Tryz.results134) rfl rfl (Xa rfl) (by decide) rfl ⟨rfl,trivial⟩ fun V=>⟨hM,hMo,rfl,rfl⟩)
theorem ZaC:AggT Tryz.prog 149 5=true:=by kernel_rfl
theorem ZrB:AggT Tryz.prog 263 2=true:=by kernel_rfl
theorem Zid:ArrT Tryz.prog 263 2=true:=by kernel_rfl
theorem ZaD:ElT Tryz.prog 264 263 2 16 (.agg #[(.int .i64 0),(.int .i64 0)]):=⟨Tryz.underlying264,by kernel_rfl,rfl,by decide⟩
theorem Zdy:FldT Tryz.prog 149 0 0=true:=by kernel_rfl
theorem Zae:FldT Tryz.prog 149 1 3=true:=by kernel_rfl
theorem Zgp:FldT Tryz.prog 149 2 4=true:=by kernel_rfl
theorem Zgq:SlT Tryz.prog 264 263 2=true:=by kernel_rfl
theorem ZbD:ZeroT Tryz.prog 149 (.agg #[(.int .i64 0),(.slice none 0 0),(.slice none 0 0),(.slice none 0 0),(.slice none 0 0)]):=by unfold ZeroT;kernel_rfl
theorem Zgr:ZeroT Tryz.prog 263 (.agg #[(.int .i64 0),(.int .i64 0)]):=by unfold ZeroT;kernel_rfl
theorem Ztg (op:Int) (x y:Bool):AF Tryz.prog 213 [pInt op,ζV x,ζV y] (· =ζV (Zkt op x y)):=by
 refine AF.of_body 30 Tryz.func213 rfl Tryz.ntmps213 (Xa rfl) ?_
 intro w0 M0 vs hl hv
 obtain ⟨v0,v1,v2,rfl⟩:=ZgF hl
 obtain rfl:=hv 0 _ _ rfl rfl
 obtain rfl:=hv 1 _ _ rfl rfl
 obtain rfl:=hv 2 _ _ rfl rfl
 clear hl hv
 refine nav ?_
 (refine ζa ?_<;>refine xL 6 ζc ?_<;>refine ζd ?_)
 (refine ζa ?_<;>refine xL 7 ζb ?_<;>refine ζd ?_)
 (refine ζa ?_<;>refine xL 9 ζ6 (xL 8 ζc ?_)<;>refine ζd ?_)
 (first|refine cCd ?_ ?_|refine cC ?_ ?_)<;>intro hb8
 · first
   |exact bN hb8
   | (
    refine nav ?_;(refine ζa ?_<;>refine xL 10 ζb (xL 11 ζb ?_)<;>(refine bL 11 (fun hb11=>?_) (fun hb11=>?_)<;>(first|refine kL 12 ?_|refine xL 12 ζb ?_))<;>refine xL 13 ζJ (xL 6 ζc ?_)<;>refine ζd ?_)<;>(
     refine ζx (Tryz.results213) rfl ?_;unfold Zkt;rw [if_pos (by omega)]
     cases x<;>cases y<;>first|rfl|(exfalso;simp_all;done)))
 · first
   |exact bN hb8
   | (
    refine nav ?_;(refine ζa ?_<;>refine xL 15 ζ6 (xL 14 ζc ?_)<;>refine ζd ?_)
    (first|refine cCd ?_ ?_|refine cC ?_ ?_)<;>intro hb14
    · first
      |exact bN hb14
      | (
       refine nav ?_;(refine ζa ?_<;>refine xL 16 ζb (xL 17 ζb ?_)<;>(refine bL 17 (fun hb17=>?_) (fun hb17=>?_)<;>(first|refine kL 18 ?_|refine xL 18 ζb ?_))<;>refine xL 19 ζJ (xL 6 ζc ?_)<;>refine ζd ?_)<;>(
        refine ζx (Tryz.results213) rfl ?_;unfold Zkt;rw [if_neg (by omega),if_pos (by omega)]
        cases x<;>cases y<;>first|rfl|(exfalso;simp_all;done)))
    · first
      |exact bN hb14
      | (
       refine nav ?_;(refine ζa ?_<;>refine xL 21 ζ6 (xL 20 ζc ?_)<;>refine ζd ?_)
       (first|refine cCd ?_ ?_|refine cC ?_ ?_)<;>intro hb20
       · first
         |exact bN hb20
         | (
          refine nav ?_;(refine ζa ?_<;>refine xL 22 ζb (xL 23 ζb ?_)<;>(refine bL 23 (fun hb23=>?_) (fun hb23=>?_)<;>(first|refine kL 24 ?_|refine xL 24 ζb ?_))<;>(first|refine kL 25 ?_|refine xL 25 Zav ?_)<;>refine xL 26 ζJ (xL 6 ζc ?_)<;>refine ζd ?_)<;>(
           refine ζx (Tryz.results213) rfl ?_;unfold Zkt;rw [if_neg (by omega),if_neg (by omega),if_pos (by omega)]
           cases x<;>cases y<;>first|rfl|(exfalso;simp_all;done)))
       · first
         |exact bN hb20
         | (
          refine nav ?_;(refine ζa ?_<;>refine xL 27 ζb (xL 28 ζb (xL 29 (ZCL Tryz.underlying4) (xL 6 ζc ?_)))<;>refine ζd ?_)
          refine ζx (Tryz.results213) rfl ?_;unfold Zkt;rw [if_neg (by omega),if_neg (by omega),if_neg (by omega)]
          cases x<;>cases y<;>first|rfl|(exfalso;simp_all;done))))
theorem Zn1 {α κ:Type} [DecidableEq κ] (f:α→κ) (x:α):∀(l:List α) (off:Nat),ZaT f off (l++[x])=ZaT f off l++[(f x, .int .i64 ((off+l.length:Nat):Int))]
 |[],off=>by simp [ZaT]
 |y::l,off=>by rw [X1,ZaT,Zn1 f x l (off+1),ZaT,X1,Xj];congr 5;omega
theorem ZjH {α κ:Type} [DecidableEq κ] (f:α→κ):∀(l:List α) (off:Nat),(ZaT f off l).map (·.1)=l.map f
 |[],_=>rfl
 |y::l,off=>by rw [ZaT,Xq,ZjH f l (off+1),Xq]
abbrev PrS:=(Nat×Nat)×(Int×Int)
def ZbT (x:PrS):Pi2:=((x.1.1:Nat),(x.1.2:Nat))
theorem ZrC {x y:PrS}:ZbT x=ZbT y↔x.1=y.1:=by
 unfold ZbT
 rw [Prod.mk.injEq,Prod.ext_iff]
 omega
theorem ZBw (o:List PrS) (x:PrS):posK ZbT o (ZbT x)=posK Prod.fst o x.1:=ZgU fun y _=>ZrC
def cPr (x:PrS):List PV:=[pInt (x.1.1:Nat),pInt (x.1.2:Nat)]
theorem Zuw (x:PrS):(cPr x).length=2:=rfl
theorem Zux (e:Nat) (L:List PrS) (x:PrS):PV.own e 2 (L.length+1) (L.flatMap cPr++cPr x)= .own e 2 (L++[x]).length ((L++[x]).flatMap cPr):=by simp
theorem Zwg (o:List PrS) (x:PrS):(ZdW (ZaT ZbT 0 o) (ZbT x)).getD (.int .i64 0)= .int .i64 ((if posK ZbT o (ZbT x)<o.length then posK ZbT o (ZbT x) else 0:Nat):Int)∧(ZdW (ZaT ZbT 0 o) (ZbT x)).isSome=decide (posK ZbT o (ZbT x)<o.length):=by
 rw [ZgV]
 by_cases h:posK ZbT o (ZbT x)<o.length
 · rw [if_pos h,if_pos h,decide_eq_true h,Xw];exact ⟨rfl,rfl⟩
 · rw [if_neg h,if_neg h,decide_eq_false h];exact ⟨rfl,rfl⟩
def Zcr (o:List PrS):List Int:=o.map fun x=>x.2.1
def Zem (o:List PrS):List Int:=o.map fun x=>x.2.2
theorem Zn2 (o:List PrS) (y:PrS):Zcr (o++[y])=Zcr o++[y.2.1]:=by unfold Zcr;rw [Xy];rfl
theorem ZrD (o:List PrS) (y:PrS):Zem (o++[y])=Zem o++[y.2.2]:=by unfold Zem;rw [Xy];rfl
def Zg9 (A B:Aut) (op:Int) (q:List PrS×List (List Nat)):PV:= .agg [pInt (A.syms.toNat:Nat), .sl q.2.length (q.2.map ZfK), .sl (q.1.map (ZbF A B op)).length ((q.1.map (ZbF A B op)).map ζV),pInts (Zcr q.1),pInts (Zem q.1)]
def ZEh (A B:Aut) (op:Int) (p:PV):Prop:=(∃q,prodQ A B=some q∧p= .tup [Zg9 A B op q,ζV true])∨
 (prodQ A B=none∧∃u0 u1 u2 u3 u4:Value,u0.oneCell'=true∧u1.oneCell'=true∧u2.oneCell'=true∧u3.oneCell'=true∧u4.oneCell'=true∧p= .tup [.agg [.val u0, .val u1, .val u2, .val u3, .val u4],ζV false])
theorem Zi0:ZbX Tryz.prog 149=some (.agg #[.int .i64 0, .slice none 0 0, .slice none 0 0, .slice none 0 0, .slice none 0 0],[(0,3),(3,1),(4,1)]):=by kernel_rfl
theorem tPi:PiT Tryz.prog 265 263 3 3 (.int .i64 0):=⟨Tryz.underlying265,Tryz.underlying263,Tryz.underlying3,by kernel_rfl,by kernel_rfl,by kernel_rfl,by kernel_rfl,by kernel_rfl,fun a b=>by kernel_rfl,⟨Tryz.prog.types.size-1,by kernel_rfl⟩,by show ZeroT _ _ _;unfold ZeroT;kernel_rfl⟩
set_option maxHeartbeats 4000000 in
theorem Zth (A B : Aut) (op:Int) (hA:DetA A) (hB:DetA B) (hs:A.syms=B.syms):AF Tryz.prog 169 [ζS A,ζS B,pInt op] (ZEh A B op):=by
 have hAn1:=hA.ok.n1
 have hAn0:=hA.ok.n0
 have hBn1:=hB.ok.n1
 have hBn0:=hB.ok.n0
 have hs0:=hA.ok.s0
 have hs1:=hA.ok.s1
 have hsN:((A.syms.toNat:Nat):Int)=A.syms:=by omega
 have hsB:B.syms.toNat=A.syms.toNat:=by rw [hs]
 refine AF.of_body 152 Tryz.func169 rfl Tryz.ntmps169 (Xa rfl) ?_
 intro w0 M0 vs hl hv
 obtain ⟨v0,v1,v2,rfl⟩:=ZgF hl
 obtain rfl:=hv 2 _ _ rfl rfl
 clear hl hv
 refine nav ?_
 (refine ζa ?_<;>refine ζH 3 5 fun h3=>?_<;>refine ζH 4 5 fun h4=>?_<;>refine ζs [(.int .i64 0),(.slice none 0 0),(.slice none 0 0),(.slice none 0 0),(.slice none 0 0)] 5 6 ZbD fun h6=>?_<;>refine xL 7 ζc ?_<;>refine ζd ?_)
 (refine ζY (fun i=>([]:List Nat).elem i) [3,4] kR ?_<;>(refine yD 0 21 rfl (ζk 3 ζo) fun v21 h=>?_;cases h)<;>(refine yD 2 23 rfl (ζk 4 ζo) fun v23 h=>?_;cases h)<;>(refine ζi 1 kR ?_)<;>(refine ZaM (d:=22) rfl (cA Tryz.call110 (Zgg A hA.ok)) fun v22 h=>?_;cases h)<;>(refine ζi 3 kR ?_)<;>(refine ZaM (d:=24) rfl (cA Tryz.call110 (Zgg B hB.ok)) fun v24 h=>?_;cases h)<;>refine xE 4 8 rfl ζc ?_<;>refine xE 5 9 rfl ζc ?_<;>refine Zam kR (nav ?_)<;>try dsimp only)
 (refine ζa ?_<;>refine xL 25 (ζh 3 Zao) ?_<;>(refine yL 26 (ζq 3 ζp) fun v26 h=>?_;cases h)<;>refine xL 27 (ζB Zl1) ?_<;>refine ζP (kk:=1) 28 ζn fun h28 ho28=>?_<;>(refine ζP (kk:=1) 29 ζn fun h29 ho29=>?_;have q28:En.one (PV.val h28)=true:=ho28;have q29:En.one (PV.val h29)=true:=ho29)<;>refine yL 30 (Zsw Zi0 rfl ho28 ho29) fun v30 _=>?_<;>refine ζs [(.int .i64 0),(.slice none 0 0),(.slice none 0 0),(.slice none 0 0),(.slice none 0 0)] 5 10 ZbD fun h10=>?_<;>refine ζt 10 ZaC ?_<;>refine ζd ?_)
 refine ζw (Zey (l:=10) [pInt A.syms, .own 36 1 0 [], .own 4 1 0 [], .val h28, .val h29] rfl rfl (fun i p p' h1 h2=>by
  match i with
  |0=>cases h1;cases h2;exact .inl rfl
  |1=>cases h1;cases h2;exact .inr ⟨rfl,_,_,rfl⟩
  |2=>cases h1;cases h2;exact .inr ⟨rfl,_,_,rfl⟩
  |3=>cases h1;cases h2;exact .inl rfl
  |4=>cases h1;cases h2;exact .inl rfl
  |i+5=>simp at h2)) fun _=>?_
 refine ζw (Zez (l:=10) (l':=301) (j:=1) rfl rfl rfl rfl) fun i=>?_
 obtain ⟨v301,ho301⟩:=i
 refine ζw (Zez (l:=10) (l':=302) (j:=2) rfl rfl rfl rfl) fun i=>?_
 obtain ⟨v302,ho302⟩:=i
 dsimp only [List.set]
 refine ζw (ζF (l:=28) 303 rfl rfl) fun _=>?_
 refine ζw (ζF (l:=29) 304 rfl rfl) fun _=>?_
 refine ζw (ζM (l:=303) (p':= .own 3 1 (Zcr [((0,0),(-1,-1))]).length ((Zcr [((0,0),(-1,-1))]).map pInt)) rfl rfl) fun _=>?_
 refine ζw (ζM (l:=304) (p':= .own 3 1 (Zem [((0,0),(-1,-1))]).length ((Zem [((0,0),(-1,-1))]).map pInt)) rfl rfl) fun _=>?_
 (refine ζa ?_<;>refine xL 31 (Zk6 Zid Zgr) ?_<;>refine Zaw 32 ZaD fun h32 ho32=>?_<;>refine xL 11 ζc ?_<;>refine ζd ?_)
 refine ζw (ζF (l:=32) 305 rfl rfl) fun _=>?_
 refine ζw (ζM (l:=305) (p':= .own 263 2 ([((0,0),(-1,-1))]:List PrS).length (([((0,0),(-1,-1))]:List PrS).flatMap cPr)) rfl rfl) fun _=>?_
 (refine ζa ?_<;>refine ZfZ 33 fun h33 ho33=>?_<;>refine xL 34 (Zk6 Zid Zgr) ?_<;>(refine ZtR (m:=[]) (k:=((0:Int),(0:Int))) 33 tPi (fun x hx=>by simp at hx) (by simp) ⟨by decide,by decide⟩ rfl ?_;rw [show ([]:List (Pi2×Value))++[(((0:Int),(0:Int)),Value.int .i64 0)]=ZaT ZbT 0 [((0,0),(-1,-1))] from rfl])<;>refine xL 35 ζb (xL 12 ζc ?_)<;>refine ζd ?_)
 refine ζw (ζF (l:=33) 306 rfl rfl) fun _=>?_
 (refine ζa ?_<;>refine xL 13 ζc ?_<;>refine ζd ?_)
 refine ζy (ι:={q:Nat×Value×Value×Value×Value×Value×List PrS×List (List Nat)//(Zbb A B).upto ((0,0),(-1,-1)) q.1=some (q.2.2.2.2.2.2.1,q.2.2.2.2.2.2.2)∧q.1≤q.2.2.2.2.2.2.1.length∧q.2.1.oneCell'=true∧q.2.2.1.oneCell'=true∧q.2.2.2.1.oneCell'=true∧q.2.2.2.2.1.oneCell'=true∧q.2.2.2.2.2.1.oneCell'=true}) (fun k=>⟨[(2,_,_),(3,_,_),(4,_,_),(6,_,_),(7,_,_),(8,_,_),(9,_,_),(10,_,_),(12,_,_),(11,k.1.2.2.2.2.2.1, .val k.1.2.2.2.2.2.1),(13, .int .i64 k.1.1,pInt k.1.1)],[(3,_,_),(4,_,_),(6,_,_),(10,h10, .own 149 5 1 [pInt A.syms, .val k.1.2.1, .val k.1.2.2.1, .val k.1.2.2.2.1, .val k.1.2.2.2.2.1]),(301,k.1.2.1, .own 36 1 k.1.2.2.2.2.2.2.2.length (k.1.2.2.2.2.2.2.2.map ZfK)),(302,k.1.2.2.1, .own 4 1 ((k.1.2.2.2.2.2.2.1.take k.1.1).map (ZbF A B op)).length (((k.1.2.2.2.2.2.2.1.take k.1.1).map (ZbF A B op)).map ζV)),(303,k.1.2.2.2.1, .own 3 1 (Zcr k.1.2.2.2.2.2.2.1).length ((Zcr k.1.2.2.2.2.2.2.1).map pInt)),(304,k.1.2.2.2.2.1, .own 3 1 (Zem k.1.2.2.2.2.2.2.1).length ((Zem k.1.2.2.2.2.2.2.1).map pInt)),(305,k.1.2.2.2.2.2.1, .own 263 2 k.1.2.2.2.2.2.2.1.length (k.1.2.2.2.2.2.2.1.flatMap cPr)),(306,h33, .omap (ZhJ (ZaT ZbT 0 k.1.2.2.2.2.2.2.1)))]⟩) (fun k=>2000-k.1.1) ⟨(0,v301,v302,h28,h29,h32,[((0,0),(-1,-1))],[]),rfl,Xe _,ho301,ho302,ho28,ho29,ho32⟩ (fun a w H=>H.weaken ⟨rfl,rfl,rfl,rfl,rfl,rfl,rfl,rfl,rfl,rfl,rfl,trivial⟩ ⟨rfl,rfl,rfl,rfl,rfl,rfl,rfl,rfl,rfl,rfl,trivial⟩) ?_
 rintro ⟨⟨i,r1,r2,r3,r4,r5,o,rows⟩,hU,hi,hr1,hr2,hr3,hr4,hr5⟩
 dsimp only
 dsimp only at hU hi hr1 hr2 hr3 hr4 hr5
 obtain ⟨hOk,hRl,_⟩:=ZiM hA hB hs hU
 have hRl:=hRl hi
 have hcap:o.length≤2000:=hOk.cap
 have hfl:((o.take i).map (ZbF A B op)).length≤2000:=by rw [Xf,Xu];omega
 have q1:En.one (PV.val r1)=true:=hr1
 have q2:En.one (PV.val r2)=true:=hr2
 have q3:En.one (PV.val r3)=true:=hr3
 have q4:En.one (PV.val r4)=true:=hr4
 refine nav ?_
 (refine ζa ?_<;>refine xL 36 ζb (xL 37 ζb (xL 38 (ZaH 305 Zgq) (xL 39 ζK ?_)))<;>refine ζd ?_)
 (first|refine cCd ?_ ?_|refine cC ?_ ?_)<;>intro hb39
 · first
   |exact bN hb39
   | (
    obtain ⟨x,hx⟩:=ζm (show i<o.length by omega);have hxp:=hOk.p x (Xb hx);have hx1:x.1.1<A.n.toNat:=hxp.1;have hx2:x.1.2<B.n.toNat:=hxp.2;have e1:(o.flatMap cPr)[i*2+0]? =some (pInt (x.1.1:Nat)):=ZfW Zuw hx (by decide);have e2:(o.flatMap cPr)[i*2+1]? =some (pInt (x.1.2:Nat)):=ZfW Zuw hx (by decide);refine nav ?_;(refine ζY (fun i=>([]:List Nat).elem i) [305] kR ?_<;>refine xD 0 42 rfl ζb ?_<;>refine xD 1 43 rfl ζb ?_<;>refine xD 2 44 rfl (ζv 305 Zgq) ?_<;>refine xD 3 45 rfl (Zw7 (len:=2) (i:=0) 305 kR) ?_<;>(refine yD 4 46 rfl (ζq 305 ζp) fun v46 h=>?_;cases h)<;>refine xD 5 47 rfl ζb ?_<;>refine xD 6 48 rfl ζb ?_<;>refine xD 7 49 rfl (ζv 305 Zgq) ?_<;>refine xD 8 50 rfl (Zw7 (len:=2) (i:=1) 305 kR) ?_<;>(refine yD 9 51 rfl (ζq 305 ζp) fun v51 h=>?_;cases h)<;>refine xE 10 14 rfl ζc ?_<;>refine xE 11 15 rfl ζc ?_<;>refine Zam kR (nav ?_)<;>try dsimp only)
    (refine ζa ?_<;>refine xL 52 (ζh 3 Zao) ?_<;>(refine yL 53 (ζq 3 ζp) fun v53 h=>?_;cases h)<;>(refine ZfY (n:=A.syms.toNat) 54 ζn (fun h54 ho54=>?_) (hx:=by rw [hsN];exact rfl) (hy:=by rw [hsN];exact rfl) (hb:=by omega))<;>refine xL 16 ζc ?_<;>refine ζd ?_)
    rw [←ZnD];(refine ζa ?_<;>refine xL 55 ζb (xL 56 (ZaH 54 ζu) (xL 57 ζb ?_))<;>refine ζd ?_)
    refine ζy (ι:={q:Nat×Value×Value×Value×List PrS×List Nat//(Zbb A B).row i x o q.1=some (q.2.2.2.2.1,q.2.2.2.2.2)∧q.1≤A.syms.toNat∧q.2.1.oneCell'=true∧q.2.2.1.oneCell'=true∧q.2.2.2.1.oneCell'=true}) (fun k=>⟨[(2,_,_),(3,_,_),(4,_,_),(6,_,_),(7,_,_),(8,_,_),(9,_,_),(10,_,_),(12,_,_),(13,_,_),(14,_,_),(15,_,_),(16,_,_),(56,_,_),(11,k.1.2.2.2.1, .val k.1.2.2.2.1),(57, .int .i64 k.1.1,pInt k.1.1)],[(3,_,_),(4,_,_),(6,_,_),(301,_,_),(302,_,_),(10,h10, .own 149 5 1 [pInt A.syms, .val r1, .val r2, .val k.1.2.1, .val k.1.2.2.1]),(303,k.1.2.1, .own 3 1 (Zcr k.1.2.2.2.2.1).length ((Zcr k.1.2.2.2.2.1).map pInt)),(304,k.1.2.2.1, .own 3 1 (Zem k.1.2.2.2.2.1).length ((Zem k.1.2.2.2.2.1).map pInt)),(305,k.1.2.2.2.1, .own 263 2 k.1.2.2.2.2.1.length (k.1.2.2.2.2.1.flatMap cPr)),(306,h33, .omap (ZhJ (ZaT ZbT 0 k.1.2.2.2.2.1))),(54,h54, .own 3 1 A.syms.toNat (vec A.syms.toNat fun j=>pInt (Zgw k.1.2.2.2.2.2 j)))]⟩) (fun k=>A.syms.toNat-k.1.1) ⟨(0,r3,r4,r5,o,[]),rfl,Xe _,hr3,hr4,hr5⟩ (fun a w H=>H.weaken ⟨rfl,rfl,rfl,rfl,rfl,rfl,rfl,rfl,rfl,rfl,rfl,rfl,rfl,rfl,rfl,rfl,trivial⟩ ⟨rfl,rfl,rfl,rfl,rfl,rfl,rfl,rfl,rfl,rfl,rfl,trivial⟩) ?_;rintro ⟨⟨s,r3',r4',r5',o',r⟩,hW,hsm,hr3',hr4',hr5'⟩;dsimp only;dsimp only at hW hsm hr3' hr4' hr5';obtain ⟨hMt,hpr,hrl,_⟩:=hOk.toMet.row (fun s hs'=>⟨hA.sl _ _ hx1 hs',hB.sl _ _ hx2 (by have:s<A.syms.toNat:=hs';omega)⟩) (show s≤(Zbb A B).m from hsm) hW;have hcap':o'.length≤2000:=hMt.cap;have hx':=ZcA hpr hx;have hil:=ζg hx';(have hpf:(Zcr o').length=o'.length:=by unfold Zcr;rw [Xf]);(have hps:(Zem o').length=o'.length:=by unfold Zem;rw [Xf]);have q3':En.one (PV.val r3')=true:=hr3';have q4':En.one (PV.val r4')=true:=hr4';refine nav ?_;(refine ζa ?_<;>refine xL 58 ζK ?_<;>refine ζd ?_)
    (first|refine cCd ?_ ?_|refine cC ?_ ?_)<;>intro hb58
    · first
      |exact bN hb58
      | (
       obtain ⟨mx,hm1,hm2,hm3⟩:=hA.mo x.1.1 s hx1 (by omega);obtain ⟨my,hn1,hn2,hn3⟩:=hB.mo x.1.2 s hx2 (by omega);have hml:=hA.ml x.1.1 hx1;have hnl:=hB.ml x.1.2 hx2;(have d1:((List.range A.n.toNat).map fun s=>pMvs (movesOf A s))[x.1.1*1]? =some (pMvs (movesOf A x.1.1)):=by rw [Xx,ZeE hx1]);(have d2:((List.range B.n.toNat).map fun s=>pMvs (movesOf B s))[x.1.2*1]? =some (pMvs (movesOf B x.1.2)):=by rw [Xx,ZeE hx2]);(have d3:((movesOf A x.1.1).flatMap cMv)[s*3+1]? =some (pInt (stepA A x.1.1 s:Nat)):=by rw [←hm3];exact ZfW Zac hm1 (by decide));(have d4:((movesOf B x.1.2).flatMap cMv)[s*3+1]? =some (pInt (stepA B x.1.2 s:Nat)):=by rw [←hn3];exact ZfW Zac hn1 (by decide));obtain ⟨y,hy⟩:∃y:PrS,y=(Zbb A B).step i x s:=⟨_,rfl⟩;(have hyk:ZbT y=(((stepA A x.1.1 s:Nat):Int),((stepA B x.1.2 s:Nat):Int)):=by rw [hy];rfl);(have hy2:y.2=(((i:Nat):Int),((s:Nat):Int)):=by rw [hy];rfl);(have hyp:ZoT A B y:=by rw [hy];exact ⟨hA.sl _ _ hx1 (by omega),hB.sl _ _ hx2 (by omega)⟩);(have hy11:y.1.1=stepA A x.1.1 s:=by rw [hy];rfl);(have hy12:y.1.2=stepA B x.1.2 s:=by rw [hy];rfl);have hyp1:y.1.1<A.n.toNat:=hyp.1;have hyp2:y.1.2<B.n.toNat:=hyp.2;rw [←hy11] at d3;rw [←hy12] at d4;have hid:=ZBw o' y;have hlk:=Zwg o' y;have hko:∀z∈ZaT ZbT 0 o',Zlf z.1:=fun z hz=>by
        have hz1:z.1∈(ZaT ZbT 0 o').map (·.1):=UC hz;rw [ZjH] at hz1;obtain ⟨u,hu,hue⟩:=Xh.1 hz1;have hup:=hMt.p u hu;have h1:u.1.1<A.n.toNat:=hup.1;have h2:u.1.2<B.n.toNat:=hup.2;rw [←hue];exact ⟨⟨by show (0:Int)≤(u.1.1:Nat);omega,by show ((u.1.1:Nat):Int)≤1000000;omega⟩,⟨by show (0:Int)≤(u.1.2:Nat);omega,by show ((u.1.2:Nat):Int)≤1000000;omega⟩⟩
       have hkn:((ZaT ZbT 0 o').map (·.1)).Nodup:=by
        rw [ZjH];have hnd:=hMt.nd;refine Zet (Zgj hnd) fun u hu v hv e=>?_;obtain ⟨i1,hi1⟩:=Ve hu;obtain ⟨i2,hi2⟩:=Ve hv;have p1:=ZeC hnd hi1;have p2:=ZeC hnd hi2;have e2:(Zbb A B).key u=(Zbb A B).key v:=ZrC.1 e;rw [e2,p2] at p1;rw [p1,hi1] at hi2;exact Option.some.inj hi2
       have hky:Zlf (ZbT y):=⟨⟨by show (0:Int)≤(y.1.1:Nat);omega,by show ((y.1.1:Nat):Int)≤1000000;omega⟩,⟨by show (0:Int)≤(y.1.2:Nat);omega,by show ((y.1.2:Nat):Int)≤1000000;omega⟩⟩;have e3:=Zhq A.syms.toNat (fun j=>pInt (Zgw r j));refine nav ?_;(refine ζa ?_<;>refine xL 59 ζb (xL 17 ζc ?_)<;>refine ζd ?_)
       (refine ζY (fun i=>([]:List Nat).elem i) [] kR ?_<;>refine xD 0 60 rfl ζb ?_<;>refine xD 1 61 rfl ZhV ?_<;>refine xD 2 62 rfl (Zim ZcS) ?_<;>(refine yD 3 63 rfl (ZaE ZdL) fun v63 h=>?_;cases h)<;>refine xD 4 64 rfl ζb ?_<;>refine xD 5 65 rfl (ζI ZdM) ?_<;>(refine yD 6 66 rfl (ZaE ζO) fun v66 h=>?_;cases h)<;>refine xD 7 67 rfl ζb ?_<;>refine xD 8 68 rfl (ζI ζR) ?_<;>refine xD 9 69 rfl (Zim ZaU) ?_<;>(refine yD 10 70 rfl (ZaE ζp) fun v70 h=>?_;cases h)<;>refine xD 11 71 rfl ζb ?_<;>refine xD 12 72 rfl ZhV ?_<;>refine xD 13 73 rfl (Zim ZcS) ?_<;>(refine yD 14 74 rfl (ZaE ZdL) fun v74 h=>?_;cases h)<;>refine xD 15 75 rfl ζb ?_<;>refine xD 16 76 rfl (ζI ZdM) ?_<;>(refine yD 17 77 rfl (ZaE ζO) fun v77 h=>?_;cases h)<;>refine xD 18 78 rfl ζb ?_<;>refine xD 19 79 rfl (ζI ζR) ?_<;>refine xD 20 80 rfl (Zim ZaU) ?_<;>(refine yD 21 81 rfl (ZaE ζp) fun v81 h=>?_;cases h)<;>refine xD 22 82 rfl (Zk6 Zid Zgr) ?_<;>(refine ζi 23 kR ?_)<;>(refine ζf rfl fun w9 M9 N9 DQ back=>?_)<;>refine ζs [(.int .i64 0),(.int .i64 0)] 2 18 Zgr fun h18=>?_<;>refine ζe (back _ (nrm ?_))<;>(refine ζi 24 kR ?_)<;>(refine ζf rfl fun w9 M9 N9 DQ back=>?_)<;>refine ζt 18 ZrB ?_<;>refine ζe (back _ (nrm ?_))<;>refine Zam kR (nav ?_)<;>try dsimp only)
       (refine ζa ?_<;>refine xL 84 ζb ?_<;>(refine yL 85 (ζk (k:=2) (ps:=[pInt (y.1.1:Nat),pInt (y.1.2:Nat)]) 18 kR) fun v85 h=>?_;cases h)<;>refine xL 86 (Zxl (m:=ZaT ZbT 0 o') (k:=ZbT y) 306 tPi hko hkn hky hlk.1 hlk.2) ?_<;>refine xL 83 ζb (xL 87 ζl (xL 88 ζl (xL 19 ζc (xL 20 ζc ?_))))<;>refine ζd ?_)
       (refine ζa ?_<;>refine xL 89 ζb (xL 90 Zav ?_)<;>refine ζd ?_)
       refine Zd8 (fun z:{z:Value×Value×Value×List PrS×Nat//z.1.oneCell'=true∧z.2.1.oneCell'=true∧z.2.2.1.oneCell'=true∧visit (Zbb A B).key (Zbb A B).cap o' ((Zbb A B).step i x s)=some (z.2.2.2.1,z.2.2.2.2)}=>⟨[(2, .int .i64 op,pInt op),(3,padd (sbase h3) 0, .val (padd (sbase h3) 0)),(4,padd (sbase h4) 0, .val (padd (sbase h4) 0)),(6,padd (sbase h6) 0, .val (padd (sbase h6) 0)),(7, .bool false,ζV false),(8,v22,pGr A),(9,v24,pGr B),(10,padd (sbase h10) 0, .val (padd (sbase h10) 0)),(11,z.1.2.2.1, .val z.1.2.2.1),(12,h33, .val h33),(13, .int .i64 i,pInt i),(14, .int .i64 x.1.1,pInt x.1.1),(15, .int .i64 x.1.2,pInt x.1.2),(16,h54, .val h54),(17, .int .i64 s,pInt s),(19, .int .i64 z.1.2.2.2.2,pInt z.1.2.2.2.2),(56, .int .i64 A.syms.toNat,pInt A.syms.toNat),(57, .int .i64 s,pInt s)],[(3,h3, .own 39 5 1 [pInt A.n,pInt A.syms,pInts A.start,pInts A.fin,pMvs A.moves]),(4,h4, .own 39 5 1 [pInt B.n,pInt B.syms,pInts B.start,pInts B.fin,pMvs B.moves]),(6,h6, .own 149 5 1 [pInt 0, .val (.slice none 0 0), .val (.slice none 0 0), .val (.slice none 0 0), .val (.slice none 0 0)]),(10,h10, .own 149 5 1 [pInt A.syms, .val r1, .val r2, .val z.1.1, .val z.1.2.1]),(301,r1, .own 36 1 rows.length (rows.map ZfK)),(302,r2, .own 4 1 ((o.take i).map (ZbF A B op)).length (((o.take i).map (ZbF A B op)).map ζV)),(303,z.1.1, .own 3 1 (Zcr z.1.2.2.2.1).length ((Zcr z.1.2.2.2.1).map pInt)),(304,z.1.2.1, .own 3 1 (Zem z.1.2.2.2.1).length ((Zem z.1.2.2.2.1).map pInt)),(305,z.1.2.2.1, .own 263 2 z.1.2.2.2.1.length (z.1.2.2.2.1.flatMap cPr)),(306,h33, .omap (ZhJ (ZaT ZbT 0 z.1.2.2.2.1))),(54,h54, .own 3 1 A.syms.toNat (vec A.syms.toNat fun j=>pInt (Zgw r j)))]⟩) ?_ ?_
       · (first | refine cCd ?_ ?_|refine cC ?_ ?_)<;>intro hb90
         · first
           |exact bN hb90
           | (
            (have hnew:¬posK ZbT o' (ZbT y)<o'.length:=by simpa using hb90);have hnew2:¬posK (Zbb A B).key o' ((Zbb A B).key ((Zbb A B).step i x s))<o'.length:=by
             rw [←hy];show ¬posK Prod.fst o' y.1<o'.length;rw [←hid];exact hnew
            (have hno:ZdW (ZaT ZbT 0 o') (ZbT y)=none:=by rw [ZgV,if_neg hnew]);refine nav ?_;(refine ζa ?_<;>refine xL 91 ζb (xL 92 (ZaH 305 Zgq) (xL 19 ζc ?_))<;>refine ζd ?_)
            (refine ζa ?_<;>refine xL 93 ζb (xL 94 ZcX ?_)<;>refine ζd ?_)
            (first|refine cCd ?_ ?_|refine cC ?_ ?_)<;>intro hb94
            · first
              |exact bN hb94
              | (
               refine nav ?_;(refine ζa ?_<;>(refine yL 95 (ζk (k:=5) (ps:=[pInt A.syms,PV.val r1,PV.val r2,PV.val r3',PV.val r4']) 10 kR) fun v95 h=>?_;cases h)<;>refine ζt 6 ZaC ?_<;>refine xL 7 ζc ?_<;>refine ζd ?_)
               refine Zaf (k:=5) 6 kR (Tryz.results169) rfl rfl rfl (Xa rfl) (by decide) rfl (.inr ⟨?_,_,_,_,_,_,rfl,hr1,hr2,hr3',hr4',rfl⟩);have hv:=Zlo hnew2 (show (Zbb A B).cap≤o'.length by show 2000≤o'.length;omega);have h1:=Srch.row_fails (Srch.row_out hW hv) (show s+1≤(Zbb A B).m by show s+1≤A.syms.toNat;omega);exact Srch.all_none (Srch.upto_out hU hx h1) (show i+1≤(Zbb A B).cap by show i+1≤2000;omega))
            · first
              |exact bN hb94
              | (
               refine nav ?_;(refine ζa ?_<;>refine xL 96 ζb ?_<;>(refine yL 97 (ζk (k:=2) (ps:=[pInt (y.1.1:Nat),pInt (y.1.2:Nat)]) 18 kR) fun v97 h=>?_;cases h)<;>refine xL 98 ζb ?_<;>(refine ZtR (m:=ZaT ZbT 0 o') (k:=ZbT y) 306 tPi hko hkn hky hno ?_;rw [show ZaT ZbT 0 o'++[(ZbT y,Value.int .i64 ((o'.length:Nat):Int))]=ZaT ZbT 0 (o'++[y]) by rw [Zn1,Xw]])<;>refine ζd ?_)
               (refine ζY (fun i=>([16,17,18]:List Nat).elem i) [10,18] kR ?_<;>refine xDT 0 99 rfl ζb ?_<;>(refine yDT 1 100 rfl (ζk (k:=2) (ps:=[pInt (y.1.1:Nat),pInt (y.1.2:Nat)]) 18 kR) fun v100 h=>?_;cases h)<;>refine xDT 4 103 rfl (ζh 10 Zae) ?_<;>(refine yDT 5 104 rfl (ζq 10 ζD) fun v104 h=>?_;cases h)<;>refine xDT 6 105 rfl ζb ?_<;>refine xDT 9 108 rfl (ζh 10 Zgp) ?_<;>(refine yDT 10 109 rfl (ζq 10 ζD) fun v109 h=>?_;cases h)<;>refine xDT 11 110 rfl ζb ?_<;>(refine Zfm 2 7 12 kR ?_ ?_ ?_;rotate_right;(focus ((refine ζf rfl fun w9 M9 N9 DQ back=>?_)<;>refine ζP (kk:=1) 111 ζn fun h111 ho111=>?_<;>refine ζe (back _ (nrm ?_))<;>(refine Zad 2 7 kR ?_ ?_;rotate_right;(focus ((refine ζf rfl fun w9 M9 N9 DQ back=>?_)<;>refine ζP (kk:=1) 106 ζn fun h106 ho106=>?_<;>refine ζe (back _ (nrm ?_))<;>(refine ζi 2 kR ?_)<;>(refine ζf rfl fun w9 M9 N9 DQ back=>?_)<;>refine Zaw 101 ZaD fun h101 ho101=>?_<;>refine ζe (back _ (nrm ?_))<;>(refine ζi 3 kR ?_)<;>(refine ζf rfl fun w9 M9 N9 DQ back=>?_)<;>refine ζ0 305 101 102 ZaD fun h102 ho102=>?_<;>refine ζe (back _ (nrm ?_))<;>(refine ζi 8 kR ?_)<;>(refine ζf rfl fun w9 M9 N9 DQ back=>?_)<;>(refine ζ0 303 106 107 ζn fun h107 ho107=>?_;have q107:En.one (PV.val h107)=true:=ho107)<;>refine ζe (back _ (nrm ?_))<;>(refine ζi 13 kR ?_)<;>(refine ζf rfl fun w9 M9 N9 DQ back=>?_)<;>(refine ζ0 304 111 112 ζn fun h112 ho112=>?_;have q112:En.one (PV.val h112)=true:=ho112)<;>refine ζe (back _ (nrm ?_))<;>refine xE 14 11 rfl ζc ?_<;>refine xE 15 113 rfl (ζh 10 Zae) ?_));rotate_right;(focus ((refine ζf rfl fun w9 M9 N9 DQ back=>?_)<;>refine Zaw 101 ZaD fun h101 ho101=>?_<;>refine ζe (back _ (nrm ?_))<;>(refine Zad 3 7 kR ?_ ?_;rotate_right;(focus ((refine ζf rfl fun w9 M9 N9 DQ back=>?_)<;>refine ζP (kk:=1) 106 ζn fun h106 ho106=>?_<;>refine ζe (back _ (nrm ?_))<;>(refine ζi 3 kR ?_)<;>(refine ζf rfl fun w9 M9 N9 DQ back=>?_)<;>refine ζ0 305 101 102 ZaD fun h102 ho102=>?_<;>refine ζe (back _ (nrm ?_))<;>(refine ζi 8 kR ?_)<;>(refine ζf rfl fun w9 M9 N9 DQ back=>?_)<;>(refine ζ0 303 106 107 ζn fun h107 ho107=>?_;have q107:En.one (PV.val h107)=true:=ho107)<;>refine ζe (back _ (nrm ?_))<;>(refine ζi 13 kR ?_)<;>(refine ζf rfl fun w9 M9 N9 DQ back=>?_)<;>(refine ζ0 304 111 112 ζn fun h112 ho112=>?_;have q112:En.one (PV.val h112)=true:=ho112)<;>refine ζe (back _ (nrm ?_))<;>refine xE 14 11 rfl ζc ?_<;>refine xE 15 113 rfl (ζh 10 Zae) ?_));rotate_right;(focus ((refine ζf rfl fun w9 M9 N9 DQ back=>?_)<;>refine ζ0 305 101 102 ZaD fun h102 ho102=>?_<;>refine ζe (back _ (nrm ?_))<;>(refine ζi 7 kR ?_)<;>(refine ζf rfl fun w9 M9 N9 DQ back=>?_)<;>refine ζP (kk:=1) 106 ζn fun h106 ho106=>?_<;>refine ζe (back _ (nrm ?_))<;>(refine ζi 8 kR ?_)<;>(refine ζf rfl fun w9 M9 N9 DQ back=>?_)<;>(refine ζ0 303 106 107 ζn fun h107 ho107=>?_;have q107:En.one (PV.val h107)=true:=ho107)<;>refine ζe (back _ (nrm ?_))<;>(refine ζi 13 kR ?_)<;>(refine ζf rfl fun w9 M9 N9 DQ back=>?_)<;>(refine ζ0 304 111 112 ζn fun h112 ho112=>?_;have q112:En.one (PV.val h112)=true:=ho112)<;>refine ζe (back _ (nrm ?_))<;>refine xE 14 11 rfl ζc ?_<;>refine xE 15 113 rfl (ζh 10 Zae) ?_))))))));rotate_right;(focus ((refine ζf rfl fun w9 M9 N9 DQ back=>?_)<;>refine ζP (kk:=1) 106 ζn fun h106 ho106=>?_<;>refine ζe (back _ (nrm ?_))<;>(refine Zad 2 12 kR ?_ ?_;rotate_right;(focus ((refine ζf rfl fun w9 M9 N9 DQ back=>?_)<;>refine ζP (kk:=1) 111 ζn fun h111 ho111=>?_<;>refine ζe (back _ (nrm ?_))<;>(refine ζi 2 kR ?_)<;>(refine ζf rfl fun w9 M9 N9 DQ back=>?_)<;>refine Zaw 101 ZaD fun h101 ho101=>?_<;>refine ζe (back _ (nrm ?_))<;>(refine ζi 3 kR ?_)<;>(refine ζf rfl fun w9 M9 N9 DQ back=>?_)<;>refine ζ0 305 101 102 ZaD fun h102 ho102=>?_<;>refine ζe (back _ (nrm ?_))<;>(refine ζi 8 kR ?_)<;>(refine ζf rfl fun w9 M9 N9 DQ back=>?_)<;>(refine ζ0 303 106 107 ζn fun h107 ho107=>?_;have q107:En.one (PV.val h107)=true:=ho107)<;>refine ζe (back _ (nrm ?_))<;>(refine ζi 13 kR ?_)<;>(refine ζf rfl fun w9 M9 N9 DQ back=>?_)<;>(refine ζ0 304 111 112 ζn fun h112 ho112=>?_;have q112:En.one (PV.val h112)=true:=ho112)<;>refine ζe (back _ (nrm ?_))<;>refine xE 14 11 rfl ζc ?_<;>refine xE 15 113 rfl (ζh 10 Zae) ?_));rotate_right;(focus ((refine ζf rfl fun w9 M9 N9 DQ back=>?_)<;>refine Zaw 101 ZaD fun h101 ho101=>?_<;>refine ζe (back _ (nrm ?_))<;>(refine Zad 3 12 kR ?_ ?_;rotate_right;(focus ((refine ζf rfl fun w9 M9 N9 DQ back=>?_)<;>refine ζP (kk:=1) 111 ζn fun h111 ho111=>?_<;>refine ζe (back _ (nrm ?_))<;>(refine ζi 3 kR ?_)<;>(refine ζf rfl fun w9 M9 N9 DQ back=>?_)<;>refine ζ0 305 101 102 ZaD fun h102 ho102=>?_<;>refine ζe (back _ (nrm ?_))<;>(refine ζi 8 kR ?_)<;>(refine ζf rfl fun w9 M9 N9 DQ back=>?_)<;>(refine ζ0 303 106 107 ζn fun h107 ho107=>?_;have q107:En.one (PV.val h107)=true:=ho107)<;>refine ζe (back _ (nrm ?_))<;>(refine ζi 13 kR ?_)<;>(refine ζf rfl fun w9 M9 N9 DQ back=>?_)<;>(refine ζ0 304 111 112 ζn fun h112 ho112=>?_;have q112:En.one (PV.val h112)=true:=ho112)<;>refine ζe (back _ (nrm ?_))<;>refine xE 14 11 rfl ζc ?_<;>refine xE 15 113 rfl (ζh 10 Zae) ?_));rotate_right;(focus ((refine ζf rfl fun w9 M9 N9 DQ back=>?_)<;>refine ζ0 305 101 102 ZaD fun h102 ho102=>?_<;>refine ζe (back _ (nrm ?_))<;>(refine Zad 8 12 kR ?_ ?_;rotate_right;(focus ((refine ζf rfl fun w9 M9 N9 DQ back=>?_)<;>refine ζP (kk:=1) 111 ζn fun h111 ho111=>?_<;>refine ζe (back _ (nrm ?_))<;>(refine ζi 8 kR ?_)<;>(refine ζf rfl fun w9 M9 N9 DQ back=>?_)<;>(refine ζ0 303 106 107 ζn fun h107 ho107=>?_;have q107:En.one (PV.val h107)=true:=ho107)<;>refine ζe (back _ (nrm ?_))<;>(refine ζi 13 kR ?_)<;>(refine ζf rfl fun w9 M9 N9 DQ back=>?_)<;>(refine ζ0 304 111 112 ζn fun h112 ho112=>?_;have q112:En.one (PV.val h112)=true:=ho112)<;>refine ζe (back _ (nrm ?_))<;>refine xE 14 11 rfl ζc ?_<;>refine xE 15 113 rfl (ζh 10 Zae) ?_));rotate_right;(focus ((refine ζf rfl fun w9 M9 N9 DQ back=>?_)<;>(refine ζ0 303 106 107 ζn fun h107 ho107=>?_;have q107:En.one (PV.val h107)=true:=ho107)<;>refine ζe (back _ (nrm ?_))<;>(refine ζi 12 kR ?_)<;>(refine ζf rfl fun w9 M9 N9 DQ back=>?_)<;>refine ζP (kk:=1) 111 ζn fun h111 ho111=>?_<;>refine ζe (back _ (nrm ?_))<;>(refine ζi 13 kR ?_)<;>(refine ζf rfl fun w9 M9 N9 DQ back=>?_)<;>(refine ζ0 304 111 112 ζn fun h112 ho112=>?_;have q112:En.one (PV.val h112)=true:=ho112)<;>refine ζe (back _ (nrm ?_))<;>refine xE 14 11 rfl ζc ?_<;>refine xE 15 113 rfl (ζh 10 Zae) ?_)))))))))));rotate_right;(focus ((refine ζf rfl fun w9 M9 N9 DQ back=>?_)<;>refine Zaw 101 ZaD fun h101 ho101=>?_<;>refine ζe (back _ (nrm ?_))<;>(refine Zfm 3 7 12 kR ?_ ?_ ?_;rotate_right;(focus ((refine ζf rfl fun w9 M9 N9 DQ back=>?_)<;>refine ζP (kk:=1) 111 ζn fun h111 ho111=>?_<;>refine ζe (back _ (nrm ?_))<;>(refine Zad 3 7 kR ?_ ?_;rotate_right;(focus ((refine ζf rfl fun w9 M9 N9 DQ back=>?_)<;>refine ζP (kk:=1) 106 ζn fun h106 ho106=>?_<;>refine ζe (back _ (nrm ?_))<;>(refine ζi 3 kR ?_)<;>(refine ζf rfl fun w9 M9 N9 DQ back=>?_)<;>refine ζ0 305 101 102 ZaD fun h102 ho102=>?_<;>refine ζe (back _ (nrm ?_))<;>(refine ζi 8 kR ?_)<;>(refine ζf rfl fun w9 M9 N9 DQ back=>?_)<;>(refine ζ0 303 106 107 ζn fun h107 ho107=>?_;have q107:En.one (PV.val h107)=true:=ho107)<;>refine ζe (back _ (nrm ?_))<;>(refine ζi 13 kR ?_)<;>(refine ζf rfl fun w9 M9 N9 DQ back=>?_)<;>(refine ζ0 304 111 112 ζn fun h112 ho112=>?_;have q112:En.one (PV.val h112)=true:=ho112)<;>refine ζe (back _ (nrm ?_))<;>refine xE 14 11 rfl ζc ?_<;>refine xE 15 113 rfl (ζh 10 Zae) ?_));rotate_right;(focus ((refine ζf rfl fun w9 M9 N9 DQ back=>?_)<;>refine ζ0 305 101 102 ZaD fun h102 ho102=>?_<;>refine ζe (back _ (nrm ?_))<;>(refine ζi 7 kR ?_)<;>(refine ζf rfl fun w9 M9 N9 DQ back=>?_)<;>refine ζP (kk:=1) 106 ζn fun h106 ho106=>?_<;>refine ζe (back _ (nrm ?_))<;>(refine ζi 8 kR ?_)<;>(refine ζf rfl fun w9 M9 N9 DQ back=>?_)<;>(refine ζ0 303 106 107 ζn fun h107 ho107=>?_;have q107:En.one (PV.val h107)=true:=ho107)<;>refine ζe (back _ (nrm ?_))<;>(refine ζi 13 kR ?_)<;>(refine ζf rfl fun w9 M9 N9 DQ back=>?_)<;>(refine ζ0 304 111 112 ζn fun h112 ho112=>?_;have q112:En.one (PV.val h112)=true:=ho112)<;>refine ζe (back _ (nrm ?_))<;>refine xE 14 11 rfl ζc ?_<;>refine xE 15 113 rfl (ζh 10 Zae) ?_)))));rotate_right;(focus ((refine ζf rfl fun w9 M9 N9 DQ back=>?_)<;>refine ζP (kk:=1) 106 ζn fun h106 ho106=>?_<;>refine ζe (back _ (nrm ?_))<;>(refine Zad 3 12 kR ?_ ?_;rotate_right;(focus ((refine ζf rfl fun w9 M9 N9 DQ back=>?_)<;>refine ζP (kk:=1) 111 ζn fun h111 ho111=>?_<;>refine ζe (back _ (nrm ?_))<;>(refine ζi 3 kR ?_)<;>(refine ζf rfl fun w9 M9 N9 DQ back=>?_)<;>refine ζ0 305 101 102 ZaD fun h102 ho102=>?_<;>refine ζe (back _ (nrm ?_))<;>(refine ζi 8 kR ?_)<;>(refine ζf rfl fun w9 M9 N9 DQ back=>?_)<;>(refine ζ0 303 106 107 ζn fun h107 ho107=>?_;have q107:En.one (PV.val h107)=true:=ho107)<;>refine ζe (back _ (nrm ?_))<;>(refine ζi 13 kR ?_)<;>(refine ζf rfl fun w9 M9 N9 DQ back=>?_)<;>(refine ζ0 304 111 112 ζn fun h112 ho112=>?_;have q112:En.one (PV.val h112)=true:=ho112)<;>refine ζe (back _ (nrm ?_))<;>refine xE 14 11 rfl ζc ?_<;>refine xE 15 113 rfl (ζh 10 Zae) ?_));rotate_right;(focus ((refine ζf rfl fun w9 M9 N9 DQ back=>?_)<;>refine ζ0 305 101 102 ZaD fun h102 ho102=>?_<;>refine ζe (back _ (nrm ?_))<;>(refine Zad 8 12 kR ?_ ?_;rotate_right;(focus ((refine ζf rfl fun w9 M9 N9 DQ back=>?_)<;>refine ζP (kk:=1) 111 ζn fun h111 ho111=>?_<;>refine ζe (back _ (nrm ?_))<;>(refine ζi 8 kR ?_)<;>(refine ζf rfl fun w9 M9 N9 DQ back=>?_)<;>(refine ζ0 303 106 107 ζn fun h107 ho107=>?_;have q107:En.one (PV.val h107)=true:=ho107)<;>refine ζe (back _ (nrm ?_))<;>(refine ζi 13 kR ?_)<;>(refine ζf rfl fun w9 M9 N9 DQ back=>?_)<;>(refine ζ0 304 111 112 ζn fun h112 ho112=>?_;have q112:En.one (PV.val h112)=true:=ho112)<;>refine ζe (back _ (nrm ?_))<;>refine xE 14 11 rfl ζc ?_<;>refine xE 15 113 rfl (ζh 10 Zae) ?_));rotate_right;(focus ((refine ζf rfl fun w9 M9 N9 DQ back=>?_)<;>(refine ζ0 303 106 107 ζn fun h107 ho107=>?_;have q107:En.one (PV.val h107)=true:=ho107)<;>refine ζe (back _ (nrm ?_))<;>(refine ζi 12 kR ?_)<;>(refine ζf rfl fun w9 M9 N9 DQ back=>?_)<;>refine ζP (kk:=1) 111 ζn fun h111 ho111=>?_<;>refine ζe (back _ (nrm ?_))<;>(refine ζi 13 kR ?_)<;>(refine ζf rfl fun w9 M9 N9 DQ back=>?_)<;>(refine ζ0 304 111 112 ζn fun h112 ho112=>?_;have q112:En.one (PV.val h112)=true:=ho112)<;>refine ζe (back _ (nrm ?_))<;>refine xE 14 11 rfl ζc ?_<;>refine xE 15 113 rfl (ζh 10 Zae) ?_))))))));rotate_right;(focus ((refine ζf rfl fun w9 M9 N9 DQ back=>?_)<;>refine ζ0 305 101 102 ZaD fun h102 ho102=>?_<;>refine ζe (back _ (nrm ?_))<;>(refine Zad 7 12 kR ?_ ?_;rotate_right;(focus ((refine ζf rfl fun w9 M9 N9 DQ back=>?_)<;>refine ζP (kk:=1) 111 ζn fun h111 ho111=>?_<;>refine ζe (back _ (nrm ?_))<;>(refine ζi 7 kR ?_)<;>(refine ζf rfl fun w9 M9 N9 DQ back=>?_)<;>refine ζP (kk:=1) 106 ζn fun h106 ho106=>?_<;>refine ζe (back _ (nrm ?_))<;>(refine ζi 8 kR ?_)<;>(refine ζf rfl fun w9 M9 N9 DQ back=>?_)<;>(refine ζ0 303 106 107 ζn fun h107 ho107=>?_;have q107:En.one (PV.val h107)=true:=ho107)<;>refine ζe (back _ (nrm ?_))<;>(refine ζi 13 kR ?_)<;>(refine ζf rfl fun w9 M9 N9 DQ back=>?_)<;>(refine ζ0 304 111 112 ζn fun h112 ho112=>?_;have q112:En.one (PV.val h112)=true:=ho112)<;>refine ζe (back _ (nrm ?_))<;>refine xE 14 11 rfl ζc ?_<;>refine xE 15 113 rfl (ζh 10 Zae) ?_));rotate_right;(focus ((refine ζf rfl fun w9 M9 N9 DQ back=>?_)<;>refine ζP (kk:=1) 106 ζn fun h106 ho106=>?_<;>refine ζe (back _ (nrm ?_))<;>(refine Zad 8 12 kR ?_ ?_;rotate_right;(focus ((refine ζf rfl fun w9 M9 N9 DQ back=>?_)<;>refine ζP (kk:=1) 111 ζn fun h111 ho111=>?_<;>refine ζe (back _ (nrm ?_))<;>(refine ζi 8 kR ?_)<;>(refine ζf rfl fun w9 M9 N9 DQ back=>?_)<;>(refine ζ0 303 106 107 ζn fun h107 ho107=>?_;have q107:En.one (PV.val h107)=true:=ho107)<;>refine ζe (back _ (nrm ?_))<;>(refine ζi 13 kR ?_)<;>(refine ζf rfl fun w9 M9 N9 DQ back=>?_)<;>(refine ζ0 304 111 112 ζn fun h112 ho112=>?_;have q112:En.one (PV.val h112)=true:=ho112)<;>refine ζe (back _ (nrm ?_))<;>refine xE 14 11 rfl ζc ?_<;>refine xE 15 113 rfl (ζh 10 Zae) ?_));rotate_right;(focus ((refine ζf rfl fun w9 M9 N9 DQ back=>?_)<;>(refine ζ0 303 106 107 ζn fun h107 ho107=>?_;have q107:En.one (PV.val h107)=true:=ho107)<;>refine ζe (back _ (nrm ?_))<;>(refine ζi 12 kR ?_)<;>(refine ζf rfl fun w9 M9 N9 DQ back=>?_)<;>refine ζP (kk:=1) 111 ζn fun h111 ho111=>?_<;>refine ζe (back _ (nrm ?_))<;>(refine ζi 13 kR ?_)<;>(refine ζf rfl fun w9 M9 N9 DQ back=>?_)<;>(refine ζ0 304 111 112 ζn fun h112 ho112=>?_;have q112:En.one (PV.val h112)=true:=ho112)<;>refine ζe (back _ (nrm ?_))<;>refine xE 14 11 rfl ζc ?_<;>refine xE 15 113 rfl (ζh 10 Zae) ?_))))))))))))<;>(refine ζi 16 kR ?_)<;>(refine Zft rfl rfl fun DQ back=>?_)<;>refine ZbQ 10 ζD Zcm ?_<;>refine ζe (back _ ?_)<;>(refine Zdt 17 kR rfl rfl fun DQ back=>?_)<;>refine xL 114 (ζh 10 Zgp) ?_<;>refine ζe (back _ ?_)<;>(refine Zdt 18 kR rfl rfl fun DQ back=>?_)<;>refine ZbQ 10 ζD Zcm ?_<;>refine ζe (back _ ?_)<;>refine Zhj kR (nav ?_)<;>try dsimp only)<;>(
                first
                 | (refine Zbn (ζF (l:=102) 305 rfl rfl) fun _=>?_
                    refine Zbn (ζM (l:=305) rfl (Zux _ o' y)) fun _=>?_;refine Zbn (ζF (l:=107) 303 rfl rfl) fun _=>?_;refine Zbn (ζM (l:=303) (p':= .own 3 1 (Zcr (o'++[y])).length ((Zcr (o'++[y])).map pInt)) rfl ((ZeO _ (Zcr o') i).trans (by rw [Zn2,hy2]))) fun _=>?_;refine Zbn (ζF (l:=112) 304 rfl rfl) fun _=>?_;refine Zbn (ζM (l:=304) (p':= .own 3 1 (Zem (o'++[y])).length ((Zem (o'++[y])).map pInt)) rfl ((ZeO _ (Zem o') s).trans (by rw [ZrD,hy2]))) fun _=>?_;exact ZaA ⟨(h107,h112,h102,o'++[y],o'.length),ho107,ho112,ho102,by dsimp only;rw [hy];exact ZbZ hnew2 (show o'.length<2000 by omega)⟩ ⟨rfl,rfl,rfl,rfl,rfl,rfl,rfl,rfl,rfl,rfl,rfl,rfl,rfl,rfl,rfl,rfl,rfl,rfl,trivial⟩ ⟨rfl,rfl,rfl,rfl,rfl,rfl,rfl,rfl,rfl,rfl,rfl,trivial⟩)
                 |exact ZaA ⟨(r3',r4',r5',o',posK ZbT o' (ZbT y)),hr3',hr4',hr5',by dsimp only;rw [hid,hy];exact ZbY hold2⟩ ⟨rfl,rfl,rfl,rfl,rfl,rfl,rfl,rfl,rfl,rfl,rfl,rfl,rfl,rfl,rfl,rfl,rfl,rfl,trivial⟩ ⟨rfl,rfl,rfl,rfl,rfl,rfl,rfl,rfl,rfl,rfl,rfl,trivial⟩)))
         · first
           |exact bN hb90
           | (
            (have hold:posK ZbT o' (ZbT y)<o'.length:=by simpa using hb90);have hold2:posK (Zbb A B).key o' ((Zbb A B).key ((Zbb A B).step i x s))<o'.length:=by
             rw [←hy];show posK Prod.fst o' y.1<o'.length;rw [←hid];exact hold
            rw [if_pos hold];refine nav ?_
            first
             | (refine Zbn (ζF (l:=102) 305 rfl rfl) fun _=>?_
                refine Zbn (ζM (l:=305) rfl (Zux _ o' y)) fun _=>?_;refine Zbn (ζF (l:=107) 303 rfl rfl) fun _=>?_;refine Zbn (ζM (l:=303) (p':= .own 3 1 (Zcr (o'++[y])).length ((Zcr (o'++[y])).map pInt)) rfl ((ZeO _ (Zcr o') i).trans (by rw [Zn2,hy2]))) fun _=>?_;refine Zbn (ζF (l:=112) 304 rfl rfl) fun _=>?_;refine Zbn (ζM (l:=304) (p':= .own 3 1 (Zem (o'++[y])).length ((Zem (o'++[y])).map pInt)) rfl ((ZeO _ (Zem o') s).trans (by rw [ZrD,hy2]))) fun _=>?_;exact ZaA ⟨(h107,h112,h102,o'++[y],o'.length),ho107,ho112,ho102,by dsimp only;rw [hy];exact ZbZ hnew2 (show o'.length<2000 by omega)⟩ ⟨rfl,rfl,rfl,rfl,rfl,rfl,rfl,rfl,rfl,rfl,rfl,rfl,rfl,rfl,rfl,rfl,rfl,rfl,trivial⟩ ⟨rfl,rfl,rfl,rfl,rfl,rfl,rfl,rfl,rfl,rfl,rfl,trivial⟩)
             |exact ZaA ⟨(r3',r4',r5',o',posK ZbT o' (ZbT y)),hr3',hr4',hr5',by dsimp only;rw [hid,hy];exact ZbY hold2⟩ ⟨rfl,rfl,rfl,rfl,rfl,rfl,rfl,rfl,rfl,rfl,rfl,rfl,rfl,rfl,rfl,rfl,rfl,rfl,trivial⟩ ⟨rfl,rfl,rfl,rfl,rfl,rfl,rfl,rfl,rfl,rfl,rfl,trivial⟩)
       · rintro ⟨⟨g3,g4,g5,o2,n2⟩,w3,w4,w5,hvis⟩;dsimp only at w3 w4 w5 hvis ⊢;refine nav ?_;(refine ζa ?_<;>refine xL 115 ζb (xL 116 ζb (xL 117 ζb (xL 118 (ζv 54 ζu) ?_)))<;>refine ZbQ 54 ζp Zcg ?_<;>refine ζd ?_)
         (refine ζa ?_<;>refine xL 119 ζG (xL 57 ζb ?_)<;>refine ζd ?_)
         rw [show s*1=r.length*1 by omega,Zjv _ (by omega)];refine ζj (
          ⟨(s+1,g3,g4,g5,o2,r++[n2]),Srch.row_snoc hW hvis,(by dsimp only;omega),w3,w4,w5⟩
          ) (by dsimp only;omega) ⟨rfl,rfl,rfl,rfl,rfl,rfl,rfl,rfl,rfl,rfl,rfl,rfl,rfl,rfl,rfl,rfl,trivial⟩ ⟨rfl,rfl,rfl,rfl,rfl,rfl,rfl,rfl,rfl,rfl,rfl,trivial⟩)
    · first
      |exact bN hb58
      | (
       (have hse:s=A.syms.toNat:=by omega);subst hse;have hU2:=Srch.upto_snoc hU hx hW;have htk:o'.take (i+1)=(o.take i)++[x]:=by
        rw [ζQ hx'];obtain ⟨e,rfl⟩:=hpr;rw [Ut hi]
       (have f1:((List.range A.n.toNat).map fun s=>ζV (Zeh A (s:Nat)))[x.1.1*1]? =some (ζV (Zeh A (x.1.1:Nat))):=by rw [Xx,ZeE hx1]);(have f2:((List.range B.n.toNat).map fun s=>ζV (Zeh B (s:Nat)))[x.1.2*1]? =some (ζV (Zeh B (x.1.2:Nat))):=by rw [Xx,ZeE hx2]);refine nav ?_;refine ζw (En.freeze (l:=54) (t:=16) rfl rfl) fun _=>?_;rw [ZnE _ _ _ hrl];(refine ζY (fun i=>([29,30,31,32]:List Nat).elem i) [10] kR ?_<;>refine xDT 0 120 rfl (ζh 10 Zdy) ?_<;>refine xDT 1 121 rfl (ζh 10 ZbP) ?_<;>(refine yDT 2 122 rfl (ζq 10 ZcG) fun v122 h=>?_;cases h)<;>refine xDT 3 123 rfl ζb ?_<;>refine xDT 6 126 rfl (ζh 10 Zdy) ?_<;>refine xDT 7 127 rfl (ζh 10 Zcd) ?_<;>(refine yDT 8 128 rfl (ζq 10 ZbB) fun v128 h=>?_;cases h)<;>refine xDT 9 129 rfl ζb ?_<;>refine xDT 10 130 rfl ζb ?_<;>refine xDT 11 131 rfl ZhV ?_<;>refine xDT 12 132 rfl (Zim Zeg) ?_<;>(refine yDT 13 133 rfl (ZaE ZbB) fun v133 h=>?_;cases h)<;>refine xDT 14 134 rfl ζb ?_<;>refine xDT 15 135 rfl (ζI Zcb) ?_<;>(refine yDT 16 136 rfl (ZaE ZeD) fun v136 h=>?_;cases h)<;>refine xDT 17 137 rfl ζb ?_<;>refine xDT 18 138 rfl ZhV ?_<;>refine xDT 19 139 rfl (Zim Zeg) ?_<;>(refine yDT 20 140 rfl (ZaE ZbB) fun v140 h=>?_;cases h)<;>refine xDT 21 141 rfl ζb ?_<;>refine xDT 22 142 rfl (ζI Zcb) ?_<;>(refine yDT 23 143 rfl (ZaE ZeD) fun v143 h=>?_;cases h)<;>(refine ζi 4 kR ?_)<;>(refine ζf rfl fun w9 M9 N9 DQ back=>?_)<;>refine ζP (kk:=1) 124 Zcc fun h124 ho124=>?_<;>refine ζe (back _ (nrm ?_))<;>(refine ζi 5 kR ?_)<;>(refine ζf rfl fun w9 M9 N9 DQ back=>?_)<;>(refine ζ0 301 124 125 Zcc fun h125 ho125=>?_;have q125:En.one (PV.val h125)=true:=ho125)<;>refine ζe (back _ (nrm ?_))<;>refine xDT 27 147 rfl (ζh 10 Zdy) ?_<;>refine xDT 28 148 rfl (ζh 10 ZbP) ?_<;>(refine ζi 24 kR ?_)<;>(refine ZaM (d:=144) rfl (cA Tryz.call213 (Ztg op (Zeh A (x.1.1:Nat)) (Zeh B (x.1.2:Nat)))) fun v144 h=>?_;cases h)<;>(refine ζi 25 kR ?_)<;>(refine ζf rfl fun w9 M9 N9 DQ back=>?_)<;>refine ζP (kk:=1) 145 ZdP fun h145 ho145=>?_<;>refine ζe (back _ (nrm ?_))<;>(refine ζi 26 kR ?_)<;>(refine ζf rfl fun w9 M9 N9 DQ back=>?_)<;>(refine ζ0 302 145 146 ZdP fun h146 ho146=>?_;have q146:En.one (PV.val h146)=true:=ho146)<;>refine ζe (back _ (nrm ?_))<;>(refine ζi 29 kR ?_)<;>(refine Zft rfl rfl fun DQ back=>?_)<;>refine ZbQ 10 ZcG Zl2 ?_<;>refine ζe (back _ ?_)<;>(refine Zdt 30 kR rfl rfl fun DQ back=>?_)<;>refine xL 149 (ζh 10 Zdy) ?_<;>refine ζe (back _ ?_)<;>(refine Zdt 31 kR rfl rfl fun DQ back=>?_)<;>refine xL 150 (ζh 10 Zcd) ?_<;>refine ζe (back _ ?_)<;>(refine Zdt 32 kR rfl rfl fun DQ back=>?_)<;>refine ZbQ 10 ZbB Zl3 ?_<;>refine ζe (back _ ?_)<;>refine Zhj kR (nav ?_)<;>try dsimp only)
       refine ζw (ζF (l:=125) 301 rfl rfl) fun _=>?_;refine ζw (ζF (l:=146) 302 rfl rfl) fun _=>?_;refine ζw (ζM (l:=301) rfl (ZnF _ rows r)) fun _=>?_;refine ζw (ζM (l:=302) rfl (Zl4 _ ((o.take i).map (ZbF A B op)) (ZbF A B op x))) fun _=>?_;rw [show ((o.take i).map (ZbF A B op))++[ZbF A B op x]=(o'.take (i+1)).map (ZbF A B op) by rw [htk,Xy];rfl];(refine ζa ?_<;>refine xL 40 ζb (xL 41 ζG (xL 13 ζc ?_))<;>refine ζd ?_)
       refine ζj (
        ⟨(i+1,h125,h146,r3',r4',r5',o',rows++[r]),hU2,(by dsimp only;omega),ho125,ho146,hr3',hr4',hr5'⟩
        ) (by dsimp only;omega) ⟨rfl,rfl,rfl,rfl,rfl,rfl,rfl,rfl,rfl,rfl,rfl,trivial⟩ ⟨rfl,rfl,rfl,rfl,rfl,rfl,rfl,rfl,rfl,rfl,trivial⟩))
 · first
   |exact bN hb39
   | (
    (have hio:i=o.length:=by omega);subst hio;refine nav ?_;refine ζw (ZaI (l:=10) (l':=301) (j:=1) rfl rfl rfl rfl) fun _=>?_;refine ζw (ZaI (l:=10) (l':=302) (j:=2) rfl rfl rfl rfl) fun _=>?_;refine ζw (ZaI (l:=10) (l':=303) (j:=3) rfl rfl rfl rfl) fun _=>?_;refine ζw (ZaI (l:=10) (l':=304) (j:=4) rfl rfl rfl rfl) fun _=>?_;rw [Zkg _ _ _ rfl,ZiP _ _ _ rfl,ζ2 _ _ _ rfl,ζ2 _ _ _ rfl];(refine ζa ?_<;>(refine yL 151 (ζk 10 ZaC) fun v151 h=>?_;cases h)<;>refine ζt 6 ZaC ?_<;>refine xL 7 ζc ?_<;>refine ζd ?_)
    refine Zaf (k:=5) 6 kR (Tryz.results169) rfl rfl rfl (Xa rfl) (by decide) rfl (.inl ⟨(o,rows),Srch.all_some hU (Xd _) (show o.length≤(Zbb A B).cap from hcap),?_⟩);unfold Zg9;dsimp only;rw [Ua,hsN];rfl)
theorem Zpj (l:List Bool):AF Tryz.prog 170 [.sl l.length (l.map ζV),ζV true] (· =pInt (idx (fun x=>x==true) l)):=by
 refine AF.of_body 19 Tryz.func170 rfl Tryz.ntmps170 (Xa rfl) ?_
 intro w0 M0 vs hl hv
 obtain ⟨v0,v1,rfl⟩:=Zbl hl
 obtain rfl:=hv 1 _ _ rfl rfl
 clear hl hv
 refine Zb9 0 rfl fun hlen=>?_
 refine nav ?_
 (refine ζa ?_<;>refine xL 4 ζc ?_<;>refine ζd ?_)
 (refine ζa ?_<;>refine xL 6 ζb (xL 7 (ζU Zcb) (xL 8 ζb ?_))<;>refine ζd ?_)
 refine ζy (ι:={k:Nat//k≤l.length∧∀i y,i<k→l[i]? =some y→(y==true)=false}) (fun k=>⟨[(0,_,_),(1,_,_),(7,_,_),(8, .int .i64 k.1,pInt k.1)],[]⟩) (fun k=>l.length-k.1) ⟨0,by omega,by omega⟩ (fun a w H=>H.weaken ⟨rfl,rfl,rfl,rfl,trivial⟩ trivial) ?_
 rintro ⟨k,hk,hp⟩
 dsimp only
 refine nav ?_
 (refine ζa ?_<;>refine xL 9 ζK ?_<;>refine ζd ?_)
 (first|refine cCd ?_ ?_|refine cC ?_ ?_)<;>intro hb9
 · first
   |exact bN hb9
   | (
    obtain ⟨x,hx⟩:=ζm (show k<l.length by omega);have e1:=Zas (f:=ζV) hx;refine nav ?_;(refine ζa ?_<;>refine xL 10 ζb (xL 5 ζc ?_)<;>refine ζd ?_)
    (refine ζa ?_<;>refine xL 11 ζb (xL 12 ζb (xL 13 ζb (xL 14 (ζI Zcb) ?_)))<;>(refine yL 15 (ZaE ZeD) fun v15 h=>?_;cases h)<;>refine xL 16 (ZCK Tryz.underlying4) ?_<;>refine ζd ?_)
    (first|refine cCd ?_ ?_|refine cC ?_ ?_)<;>intro hb16
    · first
      |exact bN hb16
      | (
       (have hx1:(x==true)=true:=by cases x<;>simp_all);refine nav ?_;(refine ζa ?_<;>refine xL 17 ζb (xL 4 ζc ?_)<;>refine ζd ?_)
       refine ζx (Tryz.results170) rfl ?_;rw [ZgC hp hx hx1])
    · first
      |exact bN hb16
      | (
       (have hx1:(x==true)=false:=by cases x<;>simp_all);refine nav ?_;(refine ζa ?_<;>refine xL 18 ζG (xL 8 ζb ?_)<;>refine ζd ?_)
       refine ζj (
        ⟨k+1,by omega,fun i y hi hy=>by
         by_cases e:i=k
         · subst e;rw [hx] at hy;cases hy;exact hx1
         · exact hp i y (by omega) hy⟩
        ) (by dsimp only;omega) ⟨rfl,rfl,rfl,rfl,trivial⟩ trivial))
 · first
   |exact bN hb9
   | (
    refine nav ?_;(refine ζa ?_<;>refine xL 4 ζc ?_<;>refine ζd ?_)
    refine ζx (Tryz.results170) rfl ?_;rw [Zif fun i y hi hy=>hp i y (by omega) hy])
theorem ZEy:ZD7 Tryz.prog 171:=fun blk cap zs w hH _ hsz=>(Tryz.slices_Reverse_int blk 0 cap zs w hH (by omega)).mono fun e w' ⟨h1,n,h2⟩=>⟨h1,n,#[],by rw [h2];simp [Go.Sort.grow];rfl⟩
theorem ZEi:Zk9 Tryz.prog 171:=fun p cap w=>Tryz.slices_Reverse_int_empty p cap w
theorem ZBx {A B:Aut} {op:Int} {q:List PrS×List (List Nat)} (h:idx (fun x=>x==true) (q.1.map (ZbF A B op))= -1):Zgk A B op q=(true,[]):=by
 rw [ZEf] at h
 unfold Zgk
 cases h1:(q.1.map (ZbF A B op)).idxOf? true with
 |none=>rfl
 | some i=>
   rw [h1] at h;have h':((i:Nat):Int)= -1:=h;omega
theorem Zze {A B:Aut} {op:Int} {q:List PrS×List (List Nat)} {i:Nat} (h:idx (fun x=>x==true) (q.1.map (ZbF A B op))=(i:Int)):Zgk A B op q=(false,ZiU (q.1.map (·.2)) i):=by
 rw [ZEf] at h
 unfold Zgk
 cases h1:(q.1.map (ZbF A B op)).idxOf? true with
 | none=>
   rw [h1] at h;have h':(-1:Int)=((i:Nat):Int):=h;omega
 | some j=>
   rw [h1] at h;dsimp only at h ⊢;rw [show j=i by omega];rfl
theorem Zwh {A B:Aut} {op:Int} (o:List PrS) {v:Int} (h:idx (fun x=>x==true) (o.map (ZbF A B op))=v):v= -1∨∃i:Nat,v=(i:Int)∧i<o.length:=by
 rcases ZoD (p:=fun x=>x==true) (l:=o.map (ZbF A B op)) with ⟨h1,_⟩|⟨i,x,h1,h2,_⟩
 · exact .inl (by rw [←h,h1])
 · exact .inr ⟨i,by rw [←h,h1],by have:=ζg h2;rwa [Xf] at this⟩
theorem Zzf (A B:Aut) (op:Int) (o:List PrS) (rows:List (List Nat)) (hu:(Zbb A B).upto ((0,0),(-1,-1)) 2000=some (o,rows)) (h0:o[0]? =some ((0,0),(-1,-1))) (hcap:o.length≤2000):AF Tryz.prog 122 [Zg9 A B op (o,rows)] (· = .tup [pInts (Zgk A B op (o,rows)).2,ζV (!(Zgk A B op (o,rows)).1)]):=by
 obtain ⟨v,hv⟩:∃v,idx (fun x=>x==true) (o.map (ZbF A B op))=v:=⟨_,rfl⟩
 have hix:=Zpj (o.map (ZbF A B op))
 rw [hv] at hix
 have hvc:=Zwh o hv
 have hbk:=ZnP hu h0
 refine AF.of_body 34 Tryz.func122 rfl Tryz.ntmps122 (Xa rfl) ?_
 intro w0 M0 vs hl hv
 obtain ⟨v0,rfl⟩:=Zco hl
 clear hl hv
 refine nav ?_
 (refine ζa ?_<;>refine ζH 1 5 fun h1=>?_<;>refine xL 2 ζc (xL 3 ζc ?_)<;>refine ζd ?_)
 (refine ζa ?_<;>refine xL 6 (ζh 1 Zdy) (xL 7 (ζh 1 Zcd) ?_)<;>(refine yL 8 (ζq 1 ZbB) fun v8 h=>?_;cases h)<;>(refine cS 9 (cA Tryz.call170 (hix)) fun v9 h=>?_;cases h)<;>refine xL 4 ζc ?_<;>refine ζd ?_)
 (refine ζa ?_<;>refine xL 10 ζb (xL 11 ζK ?_)<;>refine ζd ?_)
 (first|refine cCd ?_ ?_|refine cC ?_ ?_)<;>intro hb11
 · first
   |exact bN hb11
   | (
    (have hv1:v= -1:=by omega);subst hv1;have hcr:=ZBx (q:=(o,rows)) hv;refine nav ?_;(refine ζa ?_<;>refine xL 2 ζc (xL 3 ζc ?_)<;>refine ζd ?_)
    refine Za2 (Zc9 (t:=2) rfl) fun _=>?_;refine Zc8 (Tryz.results122) rfl rfl ?_;rw [hcr];rfl)
 · first
   |exact bN hb11
   | (
    obtain ⟨i0,rfl,hi0⟩:∃i:Nat,v=(i:Int)∧i<o.length:=by
     rcases hvc with h|h
     · omega
     · exact h
    have hcr:=Zze (q:=(o,rows)) hv;dsimp only at hcr;refine nav ?_;(refine ζa ?_<;>refine xL 5 ζc ?_<;>refine ζd ?_)
    refine ζw (ZbW 200 3 1 rfl) fun _=>?_;refine ζy (ι:={k:Nat×List Int×Value//ZiU (o.map (·.2)) i0=ZiU (o.map (·.2)) k.1++k.2.1.reverse∧k.1<o.length∧k.2.1.length+k.1≤i0∧k.2.2.oneCell'=true}) (fun k=>⟨[(1,_,_),(2,_,_),(3,_,_),(4, .int .i64 k.1.1,pInt k.1.1),(5,k.1.2.2, .val k.1.2.2)],[(1,_,_),(200,k.1.2.2, .own 3 1 k.1.2.1.length (k.1.2.1.map pInt))]⟩) (fun k=>k.1.1) ⟨(i0,[], .slice none 0 0),by simp,hi0,by simp,rfl⟩ (fun a w H=>H.weaken ⟨rfl,rfl,rfl,rfl,rfl,trivial⟩ ⟨rfl,rfl,trivial⟩) ?_;rintro ⟨⟨cur,out,r⟩,hw,hc,hl,hr⟩;dsimp only;dsimp only at hw hc hl hr;obtain ⟨⟨pq,f,s⟩,hx⟩:=ζm hc;(have hpf:(Zcr o).length=o.length:=by unfold Zcr;rw [Xf]);(have hps:(Zem o).length=o.length:=by unfold Zem;rw [Xf]);have e1:((Zcr o).map pInt)[cur*1]? =some (pInt f):=Zas (by unfold Zcr;rw [Xm,hx];rfl);have e2:((Zem o).map pInt)[cur*1]? =some (pInt s):=Zas (by unfold Zem;rw [Xm,hx];rfl);(have e3:(o.map (·.2))[cur]? =some (f,s):=by rw [Xm,hx];rfl);have hfc:=hbk cur (f,s) e3;refine nav ?_;(refine ζa ?_<;>refine xL 12 (ζh 1 Zae) ?_<;>(refine yL 13 (ζq 1 ζD) fun v13 h=>?_;cases h)<;>refine xL 14 ζb (xL 15 (ζI ζu) ?_)<;>(refine yL 16 (ZaE ζp) fun v16 h=>?_;cases h)<;>refine xL 17 ZcX ?_<;>refine ζd ?_)
    (first|refine cCd ?_ ?_|refine cC ?_ ?_)<;>intro hb17
    · first
      |exact bN hb17
      | (
       obtain ⟨j,rfl⟩:∃j:Nat,f=(j:Int):=⟨f.toNat,by omega⟩;dsimp only at hfc;have hwn:=Zuj hbk e3 (by dsimp only;omega);dsimp only at hwn;rw [XT] at hwn;refine nav ?_;(refine ζa ?_<;>refine xL 23 ζb (xL 24 (ζh 1 Zgp) ?_)<;>(refine yL 25 (ζq 1 ζD) fun v25 h=>?_;cases h)<;>refine xL 26 ζb (xL 27 (ζI ζu) ?_)<;>(refine yL 28 (ZaE ζp) fun v28 h=>?_;cases h)<;>refine ζP (kk:=1) 29 ζn fun h29 ho29=>?_<;>refine ζ0 200 29 30 ζn fun h30 ho30=>?_<;>refine xL 5 ζc ?_<;>refine ζd ?_)
       refine ζw (ζF (l:=30) 200 rfl rfl) fun _=>?_;refine ζw (ζM (l:=200) rfl (ZeO _ out s)) fun _=>?_;(refine ζa ?_<;>refine xL 18 (ζh 1 Zae) ?_<;>(refine yL 19 (ζq 1 ζD) fun v19 h=>?_;cases h)<;>refine xL 20 ζb (xL 21 (ζI ζu) ?_)<;>(refine yL 22 (ZaE ζp) fun v22 h=>?_;cases h)<;>refine xL 4 ζc ?_<;>refine ζd ?_)
       refine ζj (
        ⟨(j,out++[s],h30),by dsimp only;rw [hw,hwn,List.reverse_append];simp,by dsimp only;omega,by dsimp only;rw [Xc,Xt];omega,ho30⟩
        ) (by dsimp only;omega) ⟨rfl,rfl,rfl,rfl,rfl,trivial⟩ ⟨rfl,rfl,trivial⟩)
    · first
      |exact bN hb17
      | (
       have hwn:=Zrq e3 (by dsimp only;omega);rw [hwn,Vy] at hw;refine nav ?_;(refine ζa ?_<;>refine xL 31 ζb ?_<;>(rcases Va out.length with h0'|h0'<;>first|(refine ζr (ζM (l:=200) (p':= .own 3 1 0 []) rfl (by rw [XO h0'];rfl)) fun _=>?_;refine Zla 200 ZEi (Tryz.call171) ?_;refine ζr (ζM (l:=200) (p':= .own 3 1 out.length (out.reverse.map pInt)) rfl (by rw [XO h0'];rfl)) fun _=>?_)|(refine ZC2 200 ZEy (Tryz.call171) ?_ h0'))<;>refine ζd ?_)<;>(
        refine ζw (En.freeze (l:=200) (t:=5) rfl rfl) fun _=>?_;rw [show share (PV.own 3 1 out.length (out.reverse.map pInt))=pInts out.reverse by rw [←List.length_reverse];exact ζ2 _ _ _ rfl];(refine ζa ?_<;>refine xL 33 ζb (xL 2 ζc (xL 3 ζc ?_))<;>refine ζd ?_)
        refine Zc8 (Tryz.results122) rfl rfl ?_;rw [hcr,hw];rfl)))
theorem ZBy {a b:Aut} (h:Zaa a=false):Zb4 a b=1:=by unfold Zb4;rw [if_pos (.inl h)]
theorem ZBz {a b:Aut} (h:Zaa b=false):Zb4 a b=1:=by unfold Zb4;rw [if_pos (.inr h)]
theorem ZDw {a b:Aut} (h1:Zaa a=true) (h2:Zaa b=true) (h:¬a.syms=b.syms):Zb4 a b=29:=by unfold Zb4;rw [if_neg (by rw [h1,h2];simp),if_pos h]
theorem ZDx {a b:Aut} (h1:Zaa a=true) (h2:Zaa b=true) (h:a.syms=b.syms):Zb4 a b=0:=by unfold Zb4;rw [if_neg (by rw [h1,h2];simp),if_neg (fun e=>e h)]
theorem Zmq {a b:Aut} (h:Zb4 a b=0):Zaa a=true∧Zaa b=true∧a.syms=b.syms:=by
 unfold Zb4 at h
 split at h
 · omega
 · rename_i h1;split at h
   · omega
   · rename_i h2;refine ⟨?_,?_,?_⟩
     · cases e:Zaa a with
       |true=>rfl
       |false=>exact absurd (.inl e) h1
     · cases e:Zaa b with
       |true=>rfl
       |false=>exact absurd (.inr e) h1
     · exact Decidable.not_not.1 h2
def pPZ:PV:= .agg [pInt 0, .val (.slice none 0 0), .val (.slice none 0 0), .val (.slice none 0 0), .val (.slice none 0 0)]
def ZDy (a b:Aut) (op:Int):PV:=match ZfI a b with
 | .ok (A,B,q)=> .tup [Zg9 A B op q,pInt 0]
 | .error e=> .tup [pPZ,pInt e]
theorem ZBA (a b:Aut) (ha:Zaa a=false) (hb:Zaa b=false) (hs:True):AF Tryz.prog 120 [ζS a,ζS b] (· =pInt 1):=by
 have hva:=Zbm a
 have hvb:=Zbm b
 rw [ha] at hva
 rw [hb] at hvb
 refine AF.of_body 20 Tryz.func120 rfl Tryz.ntmps120 (Xa rfl) ?_
 intro w0 M0 vs hl hv
 obtain ⟨v0,v1,rfl⟩:=Zbl hl
 clear hl hv
 refine nav ?_
 (refine ζa ?_<;>refine ζH 2 5 fun h2=>?_<;>refine ζH 3 5 fun h3=>?_<;>refine xL 4 ζc ?_<;>refine ζd ?_)
 (refine ζa ?_<;>(refine yL 6 (ζk 2 ζo) fun v6 h=>?_;cases h)<;>(refine cS 7 (cA Tryz.call107 (hva)) fun v7 h=>?_;cases h)<;>refine xL 8 Zav (xL 9 ζb ?_)<;>refine kL 10 ?_<;>refine kL 11 ?_<;>refine kL 12 ?_<;>refine xL 13 ζJ (xL 5 ζc ?_)<;>refine ζd ?_)<;>(
  (first|refine cCd ?_ ?_|refine cC ?_ ?_)<;>intro hb5
  · first
    |exact bN hb5
    | (
     refine nav ?_;(refine ζa ?_<;>refine xL 4 ζc ?_<;>refine ζd ?_)
     exact ζx (Tryz.results120) rfl rfl)
  · first
    |exact bN hb5
    |skip)
theorem ZBB (a b:Aut) (ha:Zaa a=false) (hb:Zaa b=true) (hs:True):AF Tryz.prog 120 [ζS a,ζS b] (· =pInt 1):=by
 have hva:=Zbm a
 have hvb:=Zbm b
 rw [ha] at hva
 rw [hb] at hvb
 refine AF.of_body 20 Tryz.func120 rfl Tryz.ntmps120 (Xa rfl) ?_
 intro w0 M0 vs hl hv
 obtain ⟨v0,v1,rfl⟩:=Zbl hl
 clear hl hv
 refine nav ?_
 (refine ζa ?_<;>refine ζH 2 5 fun h2=>?_<;>refine ζH 3 5 fun h3=>?_<;>refine xL 4 ζc ?_<;>refine ζd ?_)
 (refine ζa ?_<;>(refine yL 6 (ζk 2 ζo) fun v6 h=>?_;cases h)<;>(refine cS 7 (cA Tryz.call107 (hva)) fun v7 h=>?_;cases h)<;>refine xL 8 Zav (xL 9 ζb ?_)<;>refine kL 10 ?_<;>refine kL 11 ?_<;>refine kL 12 ?_<;>refine xL 13 ζJ (xL 5 ζc ?_)<;>refine ζd ?_)<;>(
  (first|refine cCd ?_ ?_|refine cC ?_ ?_)<;>intro hb5
  · first
    |exact bN hb5
    | (
     refine nav ?_;(refine ζa ?_<;>refine xL 4 ζc ?_<;>refine ζd ?_)
     exact ζx (Tryz.results120) rfl rfl)
  · first
    |exact bN hb5
    |skip)
theorem ZBC (a b:Aut) (ha:Zaa a=true) (hb:Zaa b=false) (hs:True):AF Tryz.prog 120 [ζS a,ζS b] (· =pInt 1):=by
 have hva:=Zbm a
 have hvb:=Zbm b
 rw [ha] at hva
 rw [hb] at hvb
 refine AF.of_body 20 Tryz.func120 rfl Tryz.ntmps120 (Xa rfl) ?_
 intro w0 M0 vs hl hv
 obtain ⟨v0,v1,rfl⟩:=Zbl hl
 clear hl hv
 refine nav ?_
 (refine ζa ?_<;>refine ζH 2 5 fun h2=>?_<;>refine ζH 3 5 fun h3=>?_<;>refine xL 4 ζc ?_<;>refine ζd ?_)
 (refine ζa ?_<;>(refine yL 6 (ζk 2 ζo) fun v6 h=>?_;cases h)<;>(refine cS 7 (cA Tryz.call107 (hva)) fun v7 h=>?_;cases h)<;>refine xL 8 Zav (xL 9 ζb ?_)<;>(refine yL 10 (ζk 3 ζo) fun v10 h=>?_;cases h)<;>(refine cS 11 (cA Tryz.call107 (hvb)) fun v11 h=>?_;cases h)<;>refine xL 12 Zav (xL 13 ζJ (xL 5 ζc ?_))<;>refine ζd ?_)<;>(
  (first|refine cCd ?_ ?_|refine cC ?_ ?_)<;>intro hb5
  · first
    |exact bN hb5
    | (
     refine nav ?_;(refine ζa ?_<;>refine xL 4 ζc ?_<;>refine ζd ?_)
     exact ζx (Tryz.results120) rfl rfl)
  · first
    |exact bN hb5
    |skip)
theorem ZBD (a b:Aut) (ha:Zaa a=true) (hb:Zaa b=true) (hs:¬a.syms=b.syms):AF Tryz.prog 120 [ζS a,ζS b] (· =pInt 29):=by
 have hva:=Zbm a
 have hvb:=Zbm b
 rw [ha] at hva
 rw [hb] at hvb
 refine AF.of_body 20 Tryz.func120 rfl Tryz.ntmps120 (Xa rfl) ?_
 intro w0 M0 vs hl hv
 obtain ⟨v0,v1,rfl⟩:=Zbl hl
 clear hl hv
 refine nav ?_
 (refine ζa ?_<;>refine ζH 2 5 fun h2=>?_<;>refine ζH 3 5 fun h3=>?_<;>refine xL 4 ζc ?_<;>refine ζd ?_)
 (refine ζa ?_<;>(refine yL 6 (ζk 2 ζo) fun v6 h=>?_;cases h)<;>(refine cS 7 (cA Tryz.call107 (hva)) fun v7 h=>?_;cases h)<;>refine xL 8 Zav (xL 9 ζb ?_)<;>(refine yL 10 (ζk 3 ζo) fun v10 h=>?_;cases h)<;>(refine cS 11 (cA Tryz.call107 (hvb)) fun v11 h=>?_;cases h)<;>refine xL 12 Zav (xL 13 ζJ (xL 5 ζc ?_))<;>refine ζd ?_)<;>(
  (first|refine cCd ?_ ?_|refine cC ?_ ?_)<;>intro hb5
  · first
    |exact bN hb5
    | (
     refine nav ?_;(refine ζa ?_<;>refine xL 4 ζc ?_<;>refine ζd ?_)
     exact ζx (Tryz.results120) rfl rfl)
  · first
    |exact bN hb5
    | (
     refine nav ?_;(refine ζa ?_<;>refine xL 15 (ζh 2 Zao) ?_<;>(refine yL 16 (ζq 2 ζp) fun v16 h=>?_;cases h)<;>refine xL 17 (ζh 3 Zao) ?_<;>(refine yL 18 (ζq 3 ζp) fun v18 h=>?_;cases h)<;>refine xL 19 Zaz (xL 14 ζc ?_)<;>refine ζd ?_)
     (first|refine cCd ?_ ?_|refine cC ?_ ?_)<;>intro hb14
     · first
       |exact bN hb14
       | (
        refine nav ?_;(refine ζa ?_<;>refine xL 4 ζc ?_<;>refine ζd ?_)
        first|exact ζx (Tryz.results120) rfl rfl|exact absurd hs (by simpa using hb14))
     · first
       |exact bN hb14
       | (
        refine nav ?_;(refine ζa ?_<;>refine xL 4 ζc ?_<;>refine ζd ?_)
        first|exact ζx (Tryz.results120) rfl rfl|exact absurd (by simpa using hb14) hs)))
theorem ZBE (a b:Aut) (ha:Zaa a=true) (hb:Zaa b=true) (hs:a.syms=b.syms):AF Tryz.prog 120 [ζS a,ζS b] (· =pInt 0):=by
 have hva:=Zbm a
 have hvb:=Zbm b
 rw [ha] at hva
 rw [hb] at hvb
 refine AF.of_body 20 Tryz.func120 rfl Tryz.ntmps120 (Xa rfl) ?_
 intro w0 M0 vs hl hv
 obtain ⟨v0,v1,rfl⟩:=Zbl hl
 clear hl hv
 refine nav ?_
 (refine ζa ?_<;>refine ζH 2 5 fun h2=>?_<;>refine ζH 3 5 fun h3=>?_<;>refine xL 4 ζc ?_<;>refine ζd ?_)
 (refine ζa ?_<;>(refine yL 6 (ζk 2 ζo) fun v6 h=>?_;cases h)<;>(refine cS 7 (cA Tryz.call107 (hva)) fun v7 h=>?_;cases h)<;>refine xL 8 Zav (xL 9 ζb ?_)<;>(refine yL 10 (ζk 3 ζo) fun v10 h=>?_;cases h)<;>(refine cS 11 (cA Tryz.call107 (hvb)) fun v11 h=>?_;cases h)<;>refine xL 12 Zav (xL 13 ζJ (xL 5 ζc ?_))<;>refine ζd ?_)<;>(
  (first|refine cCd ?_ ?_|refine cC ?_ ?_)<;>intro hb5
  · first
    |exact bN hb5
    | (
     refine nav ?_;(refine ζa ?_<;>refine xL 4 ζc ?_<;>refine ζd ?_)
     exact ζx (Tryz.results120) rfl rfl)
  · first
    |exact bN hb5
    | (
     refine nav ?_;(refine ζa ?_<;>refine xL 15 (ζh 2 Zao) ?_<;>(refine yL 16 (ζq 2 ζp) fun v16 h=>?_;cases h)<;>refine xL 17 (ζh 3 Zao) ?_<;>(refine yL 18 (ζq 3 ζp) fun v18 h=>?_;cases h)<;>refine xL 19 Zaz (xL 14 ζc ?_)<;>refine ζd ?_)
     (first|refine cCd ?_ ?_|refine cC ?_ ?_)<;>intro hb14
     · first
       |exact bN hb14
       | (
        refine nav ?_;(refine ζa ?_<;>refine xL 4 ζc ?_<;>refine ζd ?_)
        first|exact ζx (Tryz.results120) rfl rfl|exact absurd hs (by simpa using hb14))
     · first
       |exact bN hb14
       | (
        refine nav ?_;(refine ζa ?_<;>refine xL 4 ζc ?_<;>refine ζd ?_)
        first|exact ζx (Tryz.results120) rfl rfl|exact absurd (by simpa using hb14) hs)))
theorem Zie (a b:Aut):AF Tryz.prog 120 [ζS a,ζS b] (· =pInt (Zb4 a b)):=by
 cases ha:Zaa a
 · rw [ZBy ha]
   cases hb:Zaa b
   · exact ZBA a b ha hb trivial
   · exact ZBB a b ha hb trivial
 · cases hb:Zaa b
   · rw [ZBz hb];exact ZBC a b ha hb trivial
   · by_cases hs:a.syms=b.syms
     · rw [ZDx ha hb hs];exact ZBE a b ha hb hs
     · rw [ZDw ha hb hs];exact ZBD a b ha hb hs
theorem Zzg (a b:Aut) (op:Int) {A:Aut} (ha:AF Tryz.prog 132 [ζS a] (· = .tup [ζS A,pInt 0])) (hb:AF Tryz.prog 132 [ζS b] (· = .tup [ZfG,pInt 13])):AF Tryz.prog 121 [ζS a,ζS b,pInt op] (· = .tup [pPZ,pInt 13]):=by
 refine AF.of_body 42 Tryz.func121 rfl Tryz.ntmps121 (Xa rfl) ?_
 intro w0 M0 vs hl hv
 obtain ⟨v0,v1,v2,rfl⟩:=ZgF hl
 obtain rfl:=hv 2 _ _ rfl rfl
 clear hl hv
 refine nav ?_
 (refine ζa ?_<;>refine ζH 3 5 fun h3=>?_<;>refine ζH 4 5 fun h4=>?_<;>refine ζs [(.int .i64 0),(.slice none 0 0),(.slice none 0 0),(.slice none 0 0),(.slice none 0 0)] 5 6 ZbD fun h6=>?_<;>refine xL 7 ζc ?_<;>refine ζd ?_)
 (refine ζa ?_<;>(refine yL 15 (ζk 3 ζo) fun v15 h=>?_;cases h)<;>(refine cP 16 (cA Tryz.call132 (ha)) fun va16 vb16 hva16 h=>?_;cases h)<;>refine xL 14 ζb (xL 17 ζl (xL 18 ζl ?_))<;>refine ζs [(.int .i64 0),(.int .i64 0),(.slice none 0 0),(.slice none 0 0),(.slice none 0 0)] 5 8 ζN fun h8=>?_<;>refine ζt 8 ζo ?_<;>refine xL 9 ζc ?_<;>refine ζd ?_)
 (refine ζa ?_<;>(refine yL 20 (ζk 4 ζo) fun v20 h=>?_;cases h)<;>(refine cP 21 (cA Tryz.call132 (hb)) fun va21 vb21 hva21 h=>?_;cases h)<;>refine xL 19 ζb (xL 22 ζl (xL 23 ζl ?_))<;>refine ζs [(.int .i64 0),(.int .i64 0),(.slice none 0 0),(.slice none 0 0),(.slice none 0 0)] 5 10 ζN fun h10=>?_<;>refine ζt 10 ζo ?_<;>refine xL 11 ζc ?_<;>refine ζd ?_)
 (refine ζa ?_<;>refine xL 24 ζb (xL 25 Zaz (xL 26 ζb (xL 27 ζb (xL 28 Zaz (xL 29 ζJ ?_)))))<;>refine ζd ?_)<;>(
  (first|refine cCd ?_ ?_|refine cC ?_ ?_)<;>intro hb29
  · refine nav ?_;(refine ζa ?_<;>refine xL 30 (Ziv Zi0 rfl) ?_<;>refine ζt 6 ZaC ?_<;>refine xL 7 ζc ?_<;>refine ζd ?_)
    exact Zaf (k:=5) 6 kR (Tryz.results121) rfl rfl rfl (Xa rfl) (by decide) rfl rfl
  · first|omega|exact absurd (by decide) hb29|exact Bool.noConfusion hb29)
theorem Zzh (a b:Aut) (op:Int) {A:Aut} (ha:AF Tryz.prog 132 [ζS a] (· = .tup [ZfG,pInt 13])) (hb:AF Tryz.prog 132 [ζS b] (· = .tup [ζS A,pInt 0])):AF Tryz.prog 121 [ζS a,ζS b,pInt op] (· = .tup [pPZ,pInt 13]):=by
 refine AF.of_body 42 Tryz.func121 rfl Tryz.ntmps121 (Xa rfl) ?_
 intro w0 M0 vs hl hv
 obtain ⟨v0,v1,v2,rfl⟩:=ZgF hl
 obtain rfl:=hv 2 _ _ rfl rfl
 clear hl hv
 refine nav ?_
 (refine ζa ?_<;>refine ζH 3 5 fun h3=>?_<;>refine ζH 4 5 fun h4=>?_<;>refine ζs [(.int .i64 0),(.slice none 0 0),(.slice none 0 0),(.slice none 0 0),(.slice none 0 0)] 5 6 ZbD fun h6=>?_<;>refine xL 7 ζc ?_<;>refine ζd ?_)
 (refine ζa ?_<;>(refine yL 15 (ζk 3 ζo) fun v15 h=>?_;cases h)<;>(refine cP 16 (cA Tryz.call132 (ha)) fun va16 vb16 hva16 h=>?_;cases h)<;>refine xL 14 ζb (xL 17 ζl (xL 18 ζl ?_))<;>refine ζs [(.int .i64 0),(.int .i64 0),(.slice none 0 0),(.slice none 0 0),(.slice none 0 0)] 5 8 ζN fun h8=>?_<;>refine ζt 8 ζo ?_<;>refine xL 9 ζc ?_<;>refine ζd ?_)
 (refine ζa ?_<;>(refine yL 20 (ζk 4 ζo) fun v20 h=>?_;cases h)<;>(refine cP 21 (cA Tryz.call132 (hb)) fun va21 vb21 hva21 h=>?_;cases h)<;>refine xL 19 ζb (xL 22 ζl (xL 23 ζl ?_))<;>refine ζs [(.int .i64 0),(.int .i64 0),(.slice none 0 0),(.slice none 0 0),(.slice none 0 0)] 5 10 ζN fun h10=>?_<;>refine ζt 10 ζo ?_<;>refine xL 11 ζc ?_<;>refine ζd ?_)
 (refine ζa ?_<;>refine xL 24 ζb (xL 25 Zaz (xL 26 ζb ?_))<;>refine kL 27 ?_<;>refine kL 28 ?_<;>refine xL 29 ζJ ?_<;>refine ζd ?_)<;>(
  (first|refine cCd ?_ ?_|refine cC ?_ ?_)<;>intro hb29
  · refine nav ?_;(refine ζa ?_<;>refine xL 30 (Ziv Zi0 rfl) ?_<;>refine ζt 6 ZaC ?_<;>refine xL 7 ζc ?_<;>refine ζd ?_)
    exact Zaf (k:=5) 6 kR (Tryz.results121) rfl rfl rfl (Xa rfl) (by decide) rfl rfl
  · first|omega|exact absurd (by decide) hb29|exact Bool.noConfusion hb29)
theorem Zzi (a b:Aut) (op:Int) (ha:AF Tryz.prog 132 [ζS a] (· = .tup [ZfG,pInt 13])) (hb:AF Tryz.prog 132 [ζS b] (· = .tup [ZfG,pInt 13])):AF Tryz.prog 121 [ζS a,ζS b,pInt op] (· = .tup [pPZ,pInt 13]):=by
 refine AF.of_body 42 Tryz.func121 rfl Tryz.ntmps121 (Xa rfl) ?_
 intro w0 M0 vs hl hv
 obtain ⟨v0,v1,v2,rfl⟩:=ZgF hl
 obtain rfl:=hv 2 _ _ rfl rfl
 clear hl hv
 refine nav ?_
 (refine ζa ?_<;>refine ζH 3 5 fun h3=>?_<;>refine ζH 4 5 fun h4=>?_<;>refine ζs [(.int .i64 0),(.slice none 0 0),(.slice none 0 0),(.slice none 0 0),(.slice none 0 0)] 5 6 ZbD fun h6=>?_<;>refine xL 7 ζc ?_<;>refine ζd ?_)
 (refine ζa ?_<;>(refine yL 15 (ζk 3 ζo) fun v15 h=>?_;cases h)<;>(refine cP 16 (cA Tryz.call132 (ha)) fun va16 vb16 hva16 h=>?_;cases h)<;>refine xL 14 ζb (xL 17 ζl (xL 18 ζl ?_))<;>refine ζs [(.int .i64 0),(.int .i64 0),(.slice none 0 0),(.slice none 0 0),(.slice none 0 0)] 5 8 ζN fun h8=>?_<;>refine ζt 8 ζo ?_<;>refine xL 9 ζc ?_<;>refine ζd ?_)
 (refine ζa ?_<;>(refine yL 20 (ζk 4 ζo) fun v20 h=>?_;cases h)<;>(refine cP 21 (cA Tryz.call132 (hb)) fun va21 vb21 hva21 h=>?_;cases h)<;>refine xL 19 ζb (xL 22 ζl (xL 23 ζl ?_))<;>refine ζs [(.int .i64 0),(.int .i64 0),(.slice none 0 0),(.slice none 0 0),(.slice none 0 0)] 5 10 ζN fun h10=>?_<;>refine ζt 10 ζo ?_<;>refine xL 11 ζc ?_<;>refine ζd ?_)
 (refine ζa ?_<;>refine xL 24 ζb (xL 25 Zaz (xL 26 ζb ?_))<;>refine kL 27 ?_<;>refine kL 28 ?_<;>refine xL 29 ζJ ?_<;>refine ζd ?_)<;>(
  (first|refine cCd ?_ ?_|refine cC ?_ ?_)<;>intro hb29
  · refine nav ?_;(refine ζa ?_<;>refine xL 30 (Ziv Zi0 rfl) ?_<;>refine ζt 6 ZaC ?_<;>refine xL 7 ζc ?_<;>refine ζd ?_)
    exact Zaf (k:=5) 6 kR (Tryz.results121) rfl rfl rfl (Xa rfl) (by decide) rfl rfl
  · first|omega|exact absurd (by decide) hb29|exact Bool.noConfusion hb29)
theorem Zwi (a b A B:Aut) (op:Int) (q:List PrS×List (List Nat)) (ha:AF Tryz.prog 132 [ζS a] (· = .tup [ζS A,pInt 0])) (hb:AF Tryz.prog 132 [ζS b] (· = .tup [ζS B,pInt 0])) (hp:AF Tryz.prog 169 [ζS A,ζS B,pInt op] (· = .tup [Zg9 A B op q,ζV true])):AF Tryz.prog 121 [ζS a,ζS b,pInt op] (· = .tup [Zg9 A B op q,pInt 0]):=by
 refine AF.of_body 42 Tryz.func121 rfl Tryz.ntmps121 (Xa rfl) ?_
 intro w0 M0 vs hl hv
 obtain ⟨v0,v1,v2,rfl⟩:=ZgF hl
 obtain rfl:=hv 2 _ _ rfl rfl
 clear hl hv
 refine nav ?_
 (refine ζa ?_<;>refine ζH 3 5 fun h3=>?_<;>refine ζH 4 5 fun h4=>?_<;>refine ζs [(.int .i64 0),(.slice none 0 0),(.slice none 0 0),(.slice none 0 0),(.slice none 0 0)] 5 6 ZbD fun h6=>?_<;>refine xL 7 ζc ?_<;>refine ζd ?_)
 (refine ζa ?_<;>(refine yL 15 (ζk 3 ζo) fun v15 h=>?_;cases h)<;>(refine cP 16 (cA Tryz.call132 (ha)) fun va16 vb16 hva16 h=>?_;cases h)<;>refine xL 14 ζb (xL 17 ζl (xL 18 ζl ?_))<;>refine ζs [(.int .i64 0),(.int .i64 0),(.slice none 0 0),(.slice none 0 0),(.slice none 0 0)] 5 8 ζN fun h8=>?_<;>refine ζt 8 ζo ?_<;>refine xL 9 ζc ?_<;>refine ζd ?_)
 (refine ζa ?_<;>(refine yL 20 (ζk 4 ζo) fun v20 h=>?_;cases h)<;>(refine cP 21 (cA Tryz.call132 (hb)) fun va21 vb21 hva21 h=>?_;cases h)<;>refine xL 19 ζb (xL 22 ζl (xL 23 ζl ?_))<;>refine ζs [(.int .i64 0),(.int .i64 0),(.slice none 0 0),(.slice none 0 0),(.slice none 0 0)] 5 10 ζN fun h10=>?_<;>refine ζt 10 ζo ?_<;>refine xL 11 ζc ?_<;>refine ζd ?_)
 (refine ζa ?_<;>refine xL 24 ζb (xL 25 Zaz (xL 26 ζb (xL 27 ζb (xL 28 Zaz (xL 29 ζJ ?_)))))<;>refine ζd ?_)<;>(
  (first|refine cCd ?_ ?_|refine cC ?_ ?_)<;>intro hb29
  · first|omega|exact absurd rfl hb29|exact bN hb29
  · refine nav ?_;(refine ζa ?_<;>(refine yL 32 (ζk 8 ζo) fun v32 h=>?_;cases h)<;>(refine yL 33 (ζk 10 ζo) fun v33 h=>?_;cases h)<;>refine xL 34 ζb ?_<;>(refine cP 35 (cA Tryz.call169 (hp)) fun va35 vb35 hva35 h=>?_;cases h)<;>refine xL 31 ζb (xL 36 ζl (xL 37 ζl ?_))<;>refine ζs [(.int .i64 0),(.slice none 0 0),(.slice none 0 0),(.slice none 0 0),(.slice none 0 0)] 5 12 ZbD fun h12=>?_<;>refine ζt 12 ZaC ?_<;>refine xL 13 ζc ?_<;>refine ζd ?_)
    (refine ζa ?_<;>refine xL 38 ζb (xL 39 Zav ?_)<;>refine ζd ?_)
    (first|refine cCd ?_ ?_|refine cC ?_ ?_)<;>intro hb39
    · first
      |exact bN hb39
      |skip
    · first
      |exact bN hb39
      | (
       refine nav ?_;(refine ζa ?_<;>(refine yL 41 (ζk 12 ZaC) fun v41 h=>?_;cases h)<;>refine ζt 6 ZaC ?_<;>refine xL 7 ζc ?_<;>refine ζd ?_)
       exact Zaf (k:=5) 6 kR (Tryz.results121) rfl rfl rfl (Xa rfl) (by decide) rfl rfl))
abbrev V5:={u:Value×Value×Value×Value×Value//En.one (PV.val u.1)=true∧En.one (PV.val u.2.1)=true∧En.one (PV.val u.2.2.1)=true∧En.one (PV.val u.2.2.2.1)=true∧En.one (PV.val u.2.2.2.2)=true}
theorem Zzj (a b A B:Aut) (op:Int) (ha:AF Tryz.prog 132 [ζS a] (· = .tup [ζS A,pInt 0])) (hb:AF Tryz.prog 132 [ζS b] (· = .tup [ζS B,pInt 0])) (hp:AF Tryz.prog 169 [ζS A,ζS B,pInt op] (fun p=>∃i:V5,p= .tup [.agg [.val i.1.1, .val i.1.2.1, .val i.1.2.2.1, .val i.1.2.2.2.1, .val i.1.2.2.2.2],ζV false])):AF Tryz.prog 121 [ζS a,ζS b,pInt op] (· = .tup [pPZ,pInt 13]):=by
 refine AF.of_body 42 Tryz.func121 rfl Tryz.ntmps121 (Xa rfl) ?_
 intro w0 M0 vs hl hv
 obtain ⟨v0,v1,v2,rfl⟩:=ZgF hl
 obtain rfl:=hv 2 _ _ rfl rfl
 clear hl hv
 refine nav ?_
 (refine ζa ?_<;>refine ζH 3 5 fun h3=>?_<;>refine ζH 4 5 fun h4=>?_<;>refine ζs [(.int .i64 0),(.slice none 0 0),(.slice none 0 0),(.slice none 0 0),(.slice none 0 0)] 5 6 ZbD fun h6=>?_<;>refine xL 7 ζc ?_<;>refine ζd ?_)
 (refine ζa ?_<;>(refine yL 15 (ζk 3 ζo) fun v15 h=>?_;cases h)<;>(refine cP 16 (cA Tryz.call132 (ha)) fun va16 vb16 hva16 h=>?_;cases h)<;>refine xL 14 ζb (xL 17 ζl (xL 18 ζl ?_))<;>refine ζs [(.int .i64 0),(.int .i64 0),(.slice none 0 0),(.slice none 0 0),(.slice none 0 0)] 5 8 ζN fun h8=>?_<;>refine ζt 8 ζo ?_<;>refine xL 9 ζc ?_<;>refine ζd ?_)
 (refine ζa ?_<;>(refine yL 20 (ζk 4 ζo) fun v20 h=>?_;cases h)<;>(refine cP 21 (cA Tryz.call132 (hb)) fun va21 vb21 hva21 h=>?_;cases h)<;>refine xL 19 ζb (xL 22 ζl (xL 23 ζl ?_))<;>refine ζs [(.int .i64 0),(.int .i64 0),(.slice none 0 0),(.slice none 0 0),(.slice none 0 0)] 5 10 ζN fun h10=>?_<;>refine ζt 10 ζo ?_<;>refine xL 11 ζc ?_<;>refine ζd ?_)
 (refine ζa ?_<;>refine xL 24 ζb (xL 25 Zaz (xL 26 ζb (xL 27 ζb (xL 28 Zaz (xL 29 ζJ ?_)))))<;>refine ζd ?_)<;>(
  (first|refine cCd ?_ ?_|refine cC ?_ ?_)<;>intro hb29
  · first|omega|exact absurd rfl hb29|exact bN hb29
  · refine nav ?_;(refine ζa ?_<;>(refine yL 32 (ζk 8 ζo) fun v32 h=>?_;cases h)<;>(refine yL 33 (ζk 10 ζo) fun v33 h=>?_;cases h)<;>refine xL 34 ζb ?_<;>(refine cPx 35 (cA Tryz.call169 hp) (fun i35 v1 v2 hv1 hv2=>?_) (fun _=>rfl);cases hv2;obtain ⟨⟨u0,u1,u2,u3,u4⟩,n0,n1,n2,n3,n4⟩:=i35;dsimp only at n0 n1 n2 n3 n4)<;>refine xL 31 ζb (xL 36 ζl (xL 37 ζl ?_))<;>refine ζs [(.int .i64 0),(.slice none 0 0),(.slice none 0 0),(.slice none 0 0),(.slice none 0 0)] 5 12 ZbD fun h12=>?_<;>refine ζt 12 ZaC ?_<;>refine xL 13 ζc ?_<;>refine ζd ?_)
    (refine ζa ?_<;>refine xL 38 ζb (xL 39 Zav ?_)<;>refine ζd ?_)
    (first|refine cCd ?_ ?_|refine cC ?_ ?_)<;>intro hb39
    · first
      |exact bN hb39
      | (
       refine nav ?_;(refine ζa ?_<;>refine xL 40 (Ziv Zi0 rfl) ?_<;>refine ζt 6 ZaC ?_<;>refine xL 7 ζc ?_<;>refine ζd ?_)
       exact Zaf (k:=5) 6 kR (Tryz.results121) rfl rfl rfl (Xa rfl) (by decide) rfl rfl)
    · first
      |exact bN hb39
      |skip)
theorem ZBF {x:Option Aut} {e:Int} (h:lim x= .error e):e=13:=by
 cases x with
 |some a=>cases h
 |none=>cases h;rfl
theorem Zmr {a:Aut} {e:Int} (h:ZbR a= .error e):e=13:=by
 unfold ZbR at h
 split at h
 · exact ZBF h
 · cases h;rfl
theorem ZBG (a b:Aut) (op:Int) (hf:Zb4 a b=0):AF Tryz.prog 121 [ζS a,ζS b,pInt op] (· =ZDy a b op):=by
 obtain ⟨h1,h2,h3⟩:=Zmq hf
 have ha:=Zgm a (Zfd h1)
 have hb:=Zgm b (Zfd h2)
 unfold ZDy ZfI
 cases ea:ZbR a with
 | error e=>
   obtain rfl:=Zmr ea;rw [ea] at ha
   cases eb:ZbR b with
   | error f=>
     obtain rfl:=Zmr eb;rw [eb] at hb;exact Zzi a b op ha hb
   |ok B=>rw [eb] at hb;exact Zzh a b op ha hb
 | ok A =>
   rw [ea] at ha
   cases eb:ZbR b with
   | error f=>
     obtain rfl:=Zmr eb;rw [eb] at hb;exact Zzg a b op ha hb
   | ok B=>
     rw [eb] at hb;obtain ⟨dA,sA⟩:=Zg3 (Zfd h1) ea;obtain ⟨dB,sB⟩:=Zg3 (Zfd h2) eb;have hp:=Zth A B op dA dB (by rw [sA,sB,h3]);dsimp only
     cases eq:prodQ A B with
     | some q=>exact Zwi a b A B op q ha hb (hp.mono fun p hr=>by
        rcases hr with ⟨q',h4,h5⟩|⟨h4,_⟩
        · rw [eq] at h4;cases h4;exact h5
        · rw [eq] at h4;cases h4)
     | none=>exact Zzj a b A B op ha hb (hp.mono fun p hr=>by
        rcases hr with ⟨q',h4,h5⟩|⟨_,u0,u1,u2,u3,u4,n0,n1,n2,n3,n4,h5⟩
        · rw [eq] at h4;cases h4
        · exact ⟨⟨(u0,u1,u2,u3,u4),n0,n1,n2,n3,n4⟩,h5⟩)
theorem Zpk (a b:Aut) (op e:Int) (he:¬e=0) (hf:AF Tryz.prog 120 [ζS a,ζS b] (· =pInt e)):AF Tryz.prog 76 [ζS a,ζS b,pInt op] (· = .tup [ζV false,pInts [],pInt e]):=by
 refine AF.of_body 38 Tryz.func76 rfl Tryz.ntmps76 (Xa rfl) ?_
 intro w0 M0 vs hl hv
 obtain ⟨v0,v1,v2,rfl⟩:=ZgF hl
 obtain rfl:=hv 2 _ _ rfl rfl
 clear hl hv
 refine nav ?_
 (refine ζa ?_<;>refine ζH 3 5 fun h3=>?_<;>refine ζH 4 5 fun h4=>?_<;>refine xL 6 ζc (xL 7 ζc (xL 8 ζc ?_))<;>refine ζd ?_)
 (refine ζa ?_<;>(refine yL 14 (ζk 3 ζo) fun v14 h=>?_;cases h)<;>(refine yL 15 (ζk 4 ζo) fun v15 h=>?_;cases h)<;>(refine cS 16 (cA Tryz.call120 (hf)) fun v16 h=>?_;cases h)<;>refine xL 9 ζc ?_<;>refine ζd ?_)
 (refine ζa ?_<;>refine xL 17 ζb (xL 18 Zaz ?_)<;>refine ζd ?_)
 (first|refine cCd ?_ ?_|refine cC ?_ ?_)<;>intro hb18
 · refine nav ?_;(refine ζa ?_<;>refine xL 19 ζb (xL 6 ζc (xL 7 ζc (xL 8 ζc ?_)))<;>refine ζd ?_)
   refine Za2 (Zc9 (t:=7) rfl) fun _=>?_;exact ZkD (Tryz.results76) rfl rfl rfl rfl
 · exact absurd (by simpa using hb18) he
theorem Zpl (a b:Aut) (op e:Int) (he:¬e=0) (hf:AF Tryz.prog 120 [ζS a,ζS b] (· =pInt 0)) (hb:AF Tryz.prog 121 [ζS a,ζS b,pInt op] (· = .tup [pPZ,pInt e])):AF Tryz.prog 76 [ζS a,ζS b,pInt op] (· = .tup [ζV false,pInts [],pInt e]):=by
 refine AF.of_body 38 Tryz.func76 rfl Tryz.ntmps76 (Xa rfl) ?_
 intro w0 M0 vs hl hv
 obtain ⟨v0,v1,v2,rfl⟩:=ZgF hl
 obtain rfl:=hv 2 _ _ rfl rfl
 clear hl hv
 refine nav ?_
 (refine ζa ?_<;>refine ζH 3 5 fun h3=>?_<;>refine ζH 4 5 fun h4=>?_<;>refine xL 6 ζc (xL 7 ζc (xL 8 ζc ?_))<;>refine ζd ?_)
 (refine ζa ?_<;>(refine yL 14 (ζk 3 ζo) fun v14 h=>?_;cases h)<;>(refine yL 15 (ζk 4 ζo) fun v15 h=>?_;cases h)<;>(refine cS 16 (cA Tryz.call120 (hf)) fun v16 h=>?_;cases h)<;>refine xL 9 ζc ?_<;>refine ζd ?_)
 (refine ζa ?_<;>refine xL 17 ζb (xL 18 Zaz ?_)<;>refine ζd ?_)
 (first|refine cCd ?_ ?_|refine cC ?_ ?_)<;>intro hb18
 · first|omega|exact absurd rfl hb18|exact bN hb18
 · refine nav ?_;(refine ζa ?_<;>(refine yL 21 (ζk 3 ζo) fun v21 h=>?_;cases h)<;>(refine yL 22 (ζk 4 ζo) fun v22 h=>?_;cases h)<;>refine xL 23 ζb ?_<;>(refine cP 24 (cA Tryz.call121 (hb)) fun va24 vb24 hva24 h=>?_;cases h)<;>refine xL 20 ζb (xL 25 ζl (xL 26 ζl ?_))<;>refine ζs [(.int .i64 0),(.slice none 0 0),(.slice none 0 0),(.slice none 0 0),(.slice none 0 0)] 5 10 ZbD fun h10=>?_<;>refine ζt 10 ZaC ?_<;>refine xL 11 ζc ?_<;>refine ζd ?_)
   (refine ζa ?_<;>refine xL 27 ζb (xL 28 Zaz ?_)<;>refine ζd ?_)
   (first|refine cCd ?_ ?_|refine cC ?_ ?_)<;>intro hb28
   · refine nav ?_;(refine ζa ?_<;>refine xL 29 ζb (xL 6 ζc (xL 7 ζc (xL 8 ζc ?_)))<;>refine ζd ?_)
     refine Za2 (Zc9 (t:=7) rfl) fun _=>?_;exact ZkD (Tryz.results76) rfl rfl rfl rfl
   · exact absurd (by simpa using hb28) he
theorem ZrE (a b A B:Aut) (op:Int) (q:List PrS×List (List Nat)) (x:List Int) (t:Bool) (hf:AF Tryz.prog 120 [ζS a,ζS b] (· =pInt 0)) (hb:AF Tryz.prog 121 [ζS a,ζS b,pInt op] (· = .tup [Zg9 A B op q,pInt 0])) (hg:AF Tryz.prog 122 [Zg9 A B op q] (· = .tup [pInts x,ζV t])):AF Tryz.prog 76 [ζS a,ζS b,pInt op] (· = .tup [ζV (!t),pInts x,pInt 0]):=by
 refine AF.of_body 38 Tryz.func76 rfl Tryz.ntmps76 (Xa rfl) ?_
 intro w0 M0 vs hl hv
 obtain ⟨v0,v1,v2,rfl⟩:=ZgF hl
 obtain rfl:=hv 2 _ _ rfl rfl
 clear hl hv
 refine nav ?_
 (refine ζa ?_<;>refine ζH 3 5 fun h3=>?_<;>refine ζH 4 5 fun h4=>?_<;>refine xL 6 ζc (xL 7 ζc (xL 8 ζc ?_))<;>refine ζd ?_)
 (refine ζa ?_<;>(refine yL 14 (ζk 3 ζo) fun v14 h=>?_;cases h)<;>(refine yL 15 (ζk 4 ζo) fun v15 h=>?_;cases h)<;>(refine cS 16 (cA Tryz.call120 (hf)) fun v16 h=>?_;cases h)<;>refine xL 9 ζc ?_<;>refine ζd ?_)
 (refine ζa ?_<;>refine xL 17 ζb (xL 18 Zaz ?_)<;>refine ζd ?_)
 (first|refine cCd ?_ ?_|refine cC ?_ ?_)<;>intro hb18
 · first|omega|exact absurd rfl hb18|exact bN hb18
 · refine nav ?_;(refine ζa ?_<;>(refine yL 21 (ζk 3 ζo) fun v21 h=>?_;cases h)<;>(refine yL 22 (ζk 4 ζo) fun v22 h=>?_;cases h)<;>refine xL 23 ζb ?_<;>(refine cP 24 (cA Tryz.call121 (hb)) fun va24 vb24 hva24 h=>?_;cases h)<;>refine xL 20 ζb (xL 25 ζl (xL 26 ζl ?_))<;>refine ζs [(.int .i64 0),(.slice none 0 0),(.slice none 0 0),(.slice none 0 0),(.slice none 0 0)] 5 10 ZbD fun h10=>?_<;>refine ζt 10 ZaC ?_<;>refine xL 11 ζc ?_<;>refine ζd ?_)
   (refine ζa ?_<;>refine xL 27 ζb (xL 28 Zaz ?_)<;>refine ζd ?_)
   (first|refine cCd ?_ ?_|refine cC ?_ ?_)<;>intro hb28
   · first|omega|exact absurd rfl hb28|exact bN hb28
   · refine nav ?_;(refine ζa ?_<;>(refine yL 31 (ζk 10 ZaC) fun v31 h=>?_;cases h)<;>(refine cP 32 (cA Tryz.call122 (hg)) fun va32 vb32 hva32 h=>?_;cases h)<;>refine xL 30 ζb (xL 33 ζl (xL 34 ζl (xL 12 ζc (xL 13 ζc ?_))))<;>refine ζd ?_)
     (refine ζa ?_<;>refine xL 35 ζb (xL 36 Zav (xL 37 ζb (xL 6 ζc (xL 7 ζc (xL 8 ζc ?_)))))<;>refine ζd ?_)
     exact ZkD (Tryz.results76) rfl rfl rfl rfl
def ZEj (x:Bool×List Int×Int):PV:= .tup [ζV x.1,pInts x.2.1,pInt x.2.2]
theorem Zti (a b:Aut) (op:Int):AF Tryz.prog 76 [ζS a,ζS b,pInt op] (· =ZEj (cmpX a b op)):=by
 have hf:=Zie a b
 unfold cmpX
 by_cases h0:Zb4 a b=0
 · rw [if_neg (fun h=>h h0)];have hb:=ZBG a b op h0;rw [h0] at hf;unfold ZDy at hb
   cases e:ZfI a b with
   | error f=>
     rw [e] at hb;refine Zpl a b op f (fun hf0=>?_) hf hb;unfold ZfI at e;split at e
     · split at e<;>cases e;omega
     · cases e;omega
   | ok x =>
     obtain ⟨A,B,o,rows⟩:=x;rw [e] at hb;obtain ⟨h1,h2,h3⟩:=Zmq h0;unfold ZfI at e;split at e
     · rename_i A' B' ea eb;split at e
       · rename_i q' eq
         cases e;obtain ⟨dA,sA⟩:=Zg3 (Zfd h1) ea;obtain ⟨dB,sB⟩:=Zg3 (Zfd h2) eb;have hok:=(ZiM dA dB (by rw [sA,sB,h3]) eq).1;have hg:=Zzf A B op o rows eq hok.zero hok.cap;have:=ZrE a b A B op (o,rows) _ _ hf hb hg;rw [Bool.not_not] at this;exact this
       · cases e
     · cases e
 · rw [if_pos h0];exact Zpk a b op _ h0 hf
theorem ZmM (a b:Aut) (t:Bool) (l:List Int) (e:Int) (h:AF Tryz.prog 76 [ζS a,ζS b,pInt 4] (· = .tup [ζV t,pInts l,pInt e])):AF Tryz.prog 52 [ζS a,ζS b] (· = .tup [ζV t,pInts l,pInt e]):=by
 refine AF.of_body 13 Tryz.func52 rfl Tryz.ntmps52 (Xa rfl) ?_
 intro w0 M0 vs hl hv
 obtain ⟨v0,v1,rfl⟩:=Zbl hl
 clear hl hv
 refine nav ?_
 (refine ζa ?_<;>refine ζH 2 5 fun h2=>?_<;>refine ζH 3 5 fun h3=>?_<;>refine xL 4 ζc (xL 5 ζc (xL 6 ζc ?_))<;>refine ζd ?_)
 (refine ζa ?_<;>(refine yL 7 (ζk 2 ζo) fun v7 h=>?_;cases h)<;>(refine yL 8 (ζk 3 ζo) fun v8 h=>?_;cases h)<;>(refine Zvb 9 (cA Tryz.call76 h) fun va9 vb9 vc9 hva9 hvb9 hvc9=>?_;cases hva9;cases hvc9)<;>refine xL 10 ζl (xL 11 ζl (xL 12 ζl (xL 4 ζc (xL 5 ζc (xL 6 ζc ?_)))))<;>refine ζd ?_)
 exact ZkD (Tryz.results52) rfl rfl rfl rfl
theorem ZmN (a b:Aut):AF Tryz.prog 52 [ζS a,ζS b] (· =ZEj (cmpX a b 4)):=ZmM a b _ _ _ (Zti a b 4)
end Go.Proofs.YtgfabnhpllkebaaGreatDoor
