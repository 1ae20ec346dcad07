/-
  The languages of process trees; a normal form has the tree's language. Plain Lean.
  Trees with the parts of choices and mixtures in another order have the same language. Plain Lean.
  Plain laws: automata of trees. No program in sight.
  Plain laws: the operations on automata are those on languages of names. No program in sight.
  Plain laws: the automaton of a tree has its language. No program in sight.
  Plain laws: what Accepts, Equivalent, and Auto of trees answer. No program in sight.
  Plain laws: a normal form, a choice. No program in sight.
  Plain laws: lists of strings in order; a string put into its place. No program in sight.
  Walks: words, moves, automata are compared; the law's bounds (layer 7).
  Plain laws: the words of an automaton, in a form that is evaluated. No program in sight.
  Plain laws: the chapter's automaton is evaluated. No program in sight.
  Walks: automata are compared; the law's bounds; the chapter's automaton (layer 7).
  Walks: automata: Star.
  Walks: automata: two automata side by side.
  Walks: automata: products.
  Walks: automata: the first word of a product.
  Walks: automata: both, compare, Equivalent, Included, Product.
-/
import Derived.Test.YtgfabnhpllkebaaGreatDoorPk06
import Derived.Test.YtgfabnhpllkebaaGreatDoorPk09
import Derived.Test.YtgfabnhpllkebaaGreatDoorPk07
import Derived.Test.YtgfabnhpllkebaaGreatDoorPk08
import Derived.Test.YtgfabnhpllkebaaGreatDoorPk04
import Derived.Test.YtgfabnhpllkebaaGreatDoorMShelfG
namespace Go.Proofs.YtgfabnhpllkebaaGreatDoor
open Go.RowKit Go.Cb Go.En
set_option linter.all false
abbrev Lg:=List ByteArray→Prop
def Znb:List Lg→Lg
 |[]=>fun w=>w=[]
 |A::m=>fun w=>∃u v,w=u++v∧A u∧Znb m v
def ZBL (m:List Lg):Lg:=fun w=>∃A∈m,A w
inductive Shf:List ByteArray→List ByteArray→List ByteArray→Prop
 |nil:Shf [] [] []
 |left {a:ByteArray} {u v w:List ByteArray} (h:Shf u v w):Shf (a::u) v (a::w)
 |right {a:ByteArray} {u v w:List ByteArray} (h:Shf u v w):Shf u (a::v) (a::w)
def ZsV:List Lg→Lg
 |[]=>fun w=>w=[]
 |A::m=>fun w=>∃u v,Shf u v w∧A u∧ZsV m v
inductive LpG (A B:Lg):Lg
 |one {w:List ByteArray} (h:A w):LpG A B w
 |more {u v z:List ByteArray} (h1:LpG A B u) (h2:B v) (h3:A z):LpG A B (u++(v++z))
def lpG:List Lg→Lg
 |A::B::_=>LpG A B
 |_=>fun _=>False
def opG (o:Int) (a:ByteArray) (m:List Lg):Lg:=if o=1 then (fun w=>w=[a]) else if o=2 then (fun w=>w=[]) else if o=3 then Znb m else if o=4 then ZBL m else if o=5 then ZsV m else lpG m
mutual
def ZbV:Nd→Lg
 | .mk o a l=>opG o a (Zve l)
def Zve:List Nd→List Lg
 |[]=>[]
 |x::l=>ZbV x::Zve l
end
theorem Zvf (l:List Nd):Zve l=l.map ZbV:=by
 induction l with
 |nil=>rfl
 |cons x l ih=>rw [Zve,ih];rfl
theorem Znc (o:Int) (a:ByteArray) (l:List Nd):ZbV (.mk o a l)=opG o a (l.map ZbV):=by rw [ZbV,Zvf]
theorem Znd:∀w,Shf w [] w
 |[]=> .nil
 |a::w=> .left (Znd w)
theorem Zex {u v w:List ByteArray} (h:Shf u v w):Shf v u w:=by
 induction h with
 |nil=>exact .nil
 |left _ ih=>exact .right ih
 |right _ ih=>exact .left ih
theorem ZiW {u w:List ByteArray} (h:Shf u [] w):w=u:=by
 generalize hv:([]:List ByteArray)=v at h
 induction h with
 |nil=>rfl
 |left _ ih=>rw [ih hv]
 |right _ _=>cases hv
theorem ZlN {u v w:List ByteArray} (h:Shf u v w):∀{s z:List ByteArray},Shf s z v→∃x,Shf u s x∧Shf x z w:=by
 induction h with
 |nil=>intro s z h2;cases h2;exact ⟨[], .nil, .nil⟩
 | left _ ih=>
   intro s z h2
   obtain ⟨x,h3,h4⟩:=ih h2
   exact ⟨_, .left h3, .left h4⟩
 | right _ ih=>
   intro s z h2
   cases h2 with
   |left h2=>obtain ⟨x,h3,h4⟩:=ih h2;exact ⟨_, .right h3, .left h4⟩
   |right h2=>obtain ⟨x,h3,h4⟩:=ih h2;exact ⟨x,h3, .right h4⟩
theorem Zqq {x z w u s:List ByteArray} (h1:Shf x z w) (h2:Shf u s x):∃v,Shf u v w∧Shf s z v:=by
 obtain ⟨v,h3,h4⟩:=ZlN (Zex h1) (Zex h2)
 exact ⟨v,Zex h4,Zex h3⟩
theorem ZsW:∀(m n:List Lg),Znb (m++n)=fun w=>∃u v,w=u++v∧Znb m u∧Znb n v
 |[],n=>funext fun w=>propext ⟨fun h=>⟨[],w,rfl,rfl,h⟩,fun ⟨u,v,h1,h2,h3⟩=>by cases h2;rw [h1];exact h3⟩
 | A ::m,n=>funext fun w=>propext (by
   show (∃u v,w=u++v∧A u∧Znb (m++n) v)↔∃u v,w=u++v∧(∃u2 v2,u=u2++v2∧A u2∧Znb m v2)∧Znb n v
   rw [ZsW m n]
   constructor
   · rintro ⟨u,v,rfl,h1,u2,v2,rfl,h2,h3⟩
     exact ⟨u++u2,v2,by rw [List.append_assoc],⟨u,u2,rfl,h1,h2⟩,h3⟩
   · rintro ⟨u,v,rfl,⟨u2,v2,rfl,h1,h2⟩,h3⟩
     exact ⟨u2,v2++v,by rw [List.append_assoc],h1,v2,v,rfl,h2,h3⟩)
theorem ZsX:∀(m n:List Lg),ZsV (m++n)=fun w=>∃u v,Shf u v w∧ZsV m u∧ZsV n v
 |[],n=>funext fun w=>propext ⟨fun h=>⟨[],w,Zex (Znd w),rfl,h⟩,fun ⟨u,v,h1,h2,h3⟩=>by cases h2;rw [ZiW (Zex h1)];exact h3⟩
 | A ::m,n=>funext fun w=>propext (by
   show (∃u v,Shf u v w∧A u∧ZsV (m++n) v)↔∃u v,Shf u v w∧(∃u2 v2,Shf u2 v2 u∧A u2∧ZsV m v2)∧ZsV n v
   rw [ZsX m n]
   constructor
   · rintro ⟨u,v,h0,h1,u2,v2,h4,h2,h3⟩
     obtain ⟨x,h5,h6⟩:=ZlN h0 h4
     exact ⟨x,v2,h6,⟨u,u2,h5,h1,h2⟩,h3⟩
   · rintro ⟨u,v,h0,⟨u2,v2,h4,h1,h2⟩,h3⟩
     obtain ⟨x,h5,h6⟩:=Zqq h0 h4
     exact ⟨u2,x,h5,h1,v2,v,h6,h2,h3⟩)
theorem ZsY (A:Lg):Znb [A]=A:=funext fun w=>propext ⟨fun ⟨u,v,h1,h2,h3⟩=>by cases h3;rw [h1,List.append_nil];exact h2,fun h=>⟨w,[],(List.append_nil w).symm,h,rfl⟩⟩
theorem and_one (A:Lg):ZsV [A]=A:=funext fun w=>propext ⟨fun ⟨u,v,h1,h2,h3⟩=>by cases h3;rw [ZiW h1];exact h2,fun h=>⟨w,[],Znd w,h,rfl⟩⟩
inductive StG (A:Lg):Lg
 |nil:StG A []
 |cons {u v:List ByteArray} (h1:A u) (h2:StG A v):StG A (u++v)
theorem Zvg {A:Lg} {u v:List ByteArray} (h:StG A u) (h2:A v):StG A (u++v):=by
 induction h with
 |nil=>have:=StG.cons h2 (StG.nil (A:=A));rw [List.append_nil] at this;exact this
 |cons h1 _ ih=>rw [List.append_assoc];exact .cons h1 ih
theorem ZxU (A B:Lg):LpG A B=fun w=>∃u v,w=u++v∧A u∧StG (Znb [B,A]) v:=by
 have h2:∀{x y:List ByteArray},B x→A y→Znb [B,A] (x++y):=fun {x y} hx hy=>⟨x,y,rfl,hx,y,[],(List.append_nil y).symm,hy,rfl⟩
 refine funext fun w=>propext ⟨fun h=>?_,fun ⟨u,v,e,hu,hv⟩=>?_⟩
 · induction h with
   | @one w h=>exact ⟨w,[],(List.append_nil w).symm,h, .nil⟩
   | more _ hb ha ih=>
     obtain ⟨u,v,rfl,h3,h4⟩:=ih
     exact ⟨u,_,List.append_assoc ..,h3,Zvg h4 (h2 hb ha)⟩
 · subst e
   have key:∀v,StG (Znb [B,A]) v→∀u,LpG A B u→LpG A B (u++v):=fun v hv=>by
    induction hv with
    |nil=>intro u h;rw [List.append_nil];exact h
    | cons h1 _ ih=>
      intro u h
      obtain ⟨x,y,rfl,hx,y2,z,rfl,hy,hz⟩:=h1
      cases hz
      rw [List.append_nil,←List.append_assoc]
      exact ih _ (.more h hx hy)
   exact key v hv u (.one hu)
set_option maxRecDepth 100000
def Zf0 (m:Nat) (k:Int):Aut:=⟨2,m,[0],[1],[⟨0,1,k⟩]⟩
def Zqr (m:Nat):Aut:=⟨1,m,[0],[0],[]⟩
def okO (x:Except Int Aut):Option Aut:=match x with
 | .ok a=>some a
 | .error _=>none
def Zfo (a b:Aut):Except Int Aut:=match Zlq b a with
 | .error e=> .error e
 | .ok x=>match ZeW x with
   | .error e=> .error e
   | .ok s=>Zlq a s
def Zcf (o:Int) (a b:Aut):Except Int Aut:=if o=3 then Zlq a b else if o=4 then Zfn a b else if o=6 then Zfo a b else ZjZ a b
def Zd8 (o:Int) (r p:Option Aut):Option Aut:=match r,p with
 |some a,some b=>okO (Zcf o a b)
 |_,_=>none
def foldX (o:Int):List (Option Aut)→Option Aut
 |[]=>none
 |x::l=>l.foldl (Zd8 o) x
mutual
def bldT (acts:List ByteArray):Nd→Option Aut
 | .mk o a l=>if o=1 then okO (Zij (Zf0 acts.length (idx (fun x=>ZdC x a) acts))) else if o=2 then okO (Zij (Zqr acts.length)) else foldX o (ZAu acts l)
def ZAu (acts:List ByteArray):List Nd→List (Option Aut)
 |[]=>[]
 |x::l=>bldT acts x::ZAu acts l
end
theorem Zne (acts:List ByteArray) (l:List Nd):ZAu acts l=l.map (bldT acts):=by
 induction l with
 |nil=>rfl
 |cons x l ih=>rw [ZAu,ih];rfl
theorem ZwD (acts:List ByteArray) (o:Int) (a:ByteArray) (l:List Nd) (h1:o≠1) (h2:o≠2):bldT acts (.mk o a l)=foldX o (l.map (bldT acts)):=by rw [bldT,if_neg h1,if_neg h2,Zne]
theorem Zqs (o:Int) (p:Option Aut):Zd8 o none p=none:=rfl
theorem Znf (o:Int) (r:Option Aut):Zd8 o r none=none:=by cases r<;>rfl
theorem ZhL (o:Int) (l:List (Option Aut)):l.foldl (Zd8 o) none=none:=by
 induction l with
 |nil=>rfl
 |cons x l ih=>rw [List.foldl_cons,Zqs,ih]
theorem Zqt {o:Int} {m:List (Option Aut)} (h:m≠[]) (x:Option Aut):foldX o (m++[x])=Zd8 o (foldX o m) x:=by
 cases m with
 |nil=>exact absurd rfl h
 |cons y m=>rw [List.cons_append];show (m++[x]).foldl (Zd8 o) y=_;rw [List.foldl_append];rfl
theorem Zo9 {o:Int}:∀{l:List (Option Aut)} {r:Option Aut},none∈l→l.foldl (Zd8 o) r=none
 | x::l,r,h=>by
   rw [List.foldl_cons]
   rcases List.mem_cons.1 h with e|h
   · rw [←e,Znf,ZhL]
   · exact Zo9 h
theorem Zfp {o:Int} {l:List (Option Aut)} (h:none∈l):foldX o l=none:=by
 cases l with
 |nil=>rfl
 | cons x l=>
   show l.foldl (Zd8 o) x=none
   rcases List.mem_cons.1 h with e|h
   · rw [←e,ZhL]
   · exact Zo9 h
def MinO (m:Nat) (x:Except Int Aut):Prop:=x= .error 13∨∃C,x= .ok C∧IsMin C∧C.syms=m
theorem MinO.lim {m:Nat} {x:Except Int Aut} (h:MinO m x):x=Go.Proofs.YtgfabnhpllkebaaGreatDoor.lim (okO x):=by
 rcases h with rfl|⟨C,rfl,_⟩<;>rfl
theorem MinO.ok {m:Nat} {x:Except Int Aut} (h:MinO m x) {C:Aut} (hc:okO x=some C):x= .ok C∧IsMin C∧C.syms=m:=by
 rcases h with rfl|⟨D,rfl,h1,h2⟩
 · cases hc
 · cases hc;exact ⟨rfl,h1,h2⟩
theorem ZiX {a:Aut} {e:Int} (h:ZcS a= .error e):e=13:=by
 unfold ZcS at h
 cases ht:Zgv a with
 |none=>rw [ht] at h;cases h;rfl
 | some t=>
   rw [ht] at h
   cases hl:Zbz t with
   |none=>simp only [hl,Go.Proofs.YtgfabnhpllkebaaGreatDoor.lim] at h;cases h;rfl
   |some A=>simp only [hl,Go.Proofs.YtgfabnhpllkebaaGreatDoor.lim] at h;cases h
theorem Zvh {a:Aut} {e:Int} (h:Zsi a= .error e):e=13:=by
 unfold Zsi at h
 split at h
 · cases h;rfl
 · exact ZiX h
theorem Zfq {X:Aut} (hp:PreA X) {m:Nat} (hs:X.syms=m):MinO m (ZdG X):=by
 cases h:ZdG X with
 |error e=>exact .inl (by rw [Zvh h])
 |ok C=>obtain ⟨h1,h2,_⟩:=Zdf hp h;exact .inr ⟨C,rfl,h1,by rw [h2,hs]⟩
theorem Zey {a:Aut} (h:ζ5 a=true) {m:Nat} (hs:a.syms=m):MinO m (Zij a):=by
 cases h1:Zij a with
 | error e=>
   unfold Zij at h1;rw [if_pos h] at h1
   exact .inl (by rw [ZiX h1])
 |ok C=>obtain ⟨h3,h2,_⟩:=Zhz h1;exact .inr ⟨C,rfl,h3,by rw [h2,hs]⟩
variable {m:Nat} {a b:Aut}
theorem Zf1 (ha:IsMin a) (hb:IsMin b) (hsa:a.syms=m) (hsb:b.syms=m):Zdl a b=0:=Zna ha.valid hb.valid (by rw [hsa,hsb])
theorem Zfr (ha:IsMin a) (hb:IsMin b) (hsa:a.syms=m) (hsb:b.syms=m):MinO m (Zlq a b):=by
 unfold Zlq
 rw [if_neg (fun h=>h (Zf1 ha hb hsa hsb))]
 exact Zfq (ZjT (ZbA ha.valid) (ZbA hb.valid) (by rw [hsa,hsb])) hsa
theorem Zqu (ha:IsMin a) (hb:IsMin b) (hsa:a.syms=m) (hsb:b.syms=m):MinO m (Zfn a b):=by
 unfold Zfn
 rw [if_neg (fun h=>h (Zf1 ha hb hsa hsb))]
 exact Zfq (ZhA (ZbA ha.valid) (ZbA hb.valid) (by rw [hsa,hsb])) hsa
theorem ZsZ (ha:IsMin a) (hb:IsMin b) (hsa:a.syms=m) (hsb:b.syms=m):MinO m (ZjZ a b):=by
 unfold ZjZ
 rw [if_neg (fun h=>h (Zf1 ha hb hsa hsb))]
 split
 · exact .inl rfl
 · exact Zfq (Zj0 (ZbA ha.valid) (ZbA hb.valid) (by rw [hsa,hsb])) hsa
theorem ZhM (ha:IsMin a) (hsa:a.syms=m):MinO m (ZeW a):=by
 unfold ZeW
 rw [if_pos ha.valid]
 exact Zfq (ZjN (ZbA ha.valid)) hsa
theorem Zs0 (ha:IsMin a) (hb:IsMin b) (hsa:a.syms=m) (hsb:b.syms=m):MinO m (Zfo a b):=by
 unfold Zfo
 rcases Zfr hb ha hsb hsa with h|⟨C,h,hC,hs⟩
 · rw [h];exact .inl rfl
 · rw [h];dsimp only
   rcases ZhM hC hs with h2|⟨D,h2,hD,hs2⟩
   · rw [h2];exact .inl rfl
   · rw [h2];exact Zfr ha hD hsa hs2
theorem Zfs (o:Int) (ha:IsMin a) (hb:IsMin b) (hsa:a.syms=m) (hsb:b.syms=m):MinO m (Zcf o a b):=by
 unfold Zcf
 split
 · exact Zfr ha hb hsa hsb
 split
 · exact Zqu ha hb hsa hsb
 split
 · exact Zs0 ha hb hsa hsb
 · exact ZsZ ha hb hsa hsb
theorem Zj4 {k:Int} (hm:m≤40) (hk:0≤k∧k<m):ζ5 (Zf0 m k)=true:=by
 unfold ζ5 Zf0 Zjv ZrV
 simp [ZaU]
 omega
theorem Zpa (hm:m≤40):ζ5 (Zqr m)=true:=by
 unfold ζ5 Zqr Zjv
 simp [ZaU]
 omega
def BldOk (m:Nat) (r:Option Aut):Prop:=∀A,r=some A→IsMin A∧A.syms=m
theorem BldOk.of {x:Except Int Aut} (h:MinO m x):BldOk m (okO x):=fun A hA=>(h.ok hA).2
theorem ZxV (o:Int) {r p:Option Aut} (hr:BldOk m r) (hp:BldOk m p):BldOk m (Zd8 o r p):=by
 match r,p with
 | some a,some b=>
   obtain ⟨ha,hsa⟩:=hr a rfl
   obtain ⟨hb,hsb⟩:=hp b rfl
   exact BldOk.of (Zfs o ha hb hsa hsb)
 |none,_=>exact fun A hA=>by cases hA
 |some _,none=>exact fun A hA=>by cases hA
theorem ZlO (o:Int):∀{l:List (Option Aut)} {r:Option Aut},BldOk m r→(∀x∈l,BldOk m x)→BldOk m (l.foldl (Zd8 o) r)
 |[],_,h,_=>h
 | x::l,r,h,h2=>by
   rw [List.foldl_cons]
   exact ZlO o (ZxV o h (h2 x (List.mem_cons_self ..))) fun y hy=>h2 y (List.mem_cons_of_mem _ hy)
theorem Zvi (o:Int) {l:List (Option Aut)} (h:∀x∈l,BldOk m x):BldOk m (foldX o l):=by
 cases l with
 |nil=>exact fun A hA=>by cases hA
 |cons x l=>exact ZlO o (h x (List.mem_cons_self ..)) fun y hy=>h y (List.mem_cons_of_mem _ hy)
def Zaz (acts:List ByteArray) (a:ByteArray):Int:=idx (fun x=>ZdC x a) acts
theorem Zf2 {a b:ByteArray}:ZdC a b=true↔a=b:=ZkF
theorem Zez {acts:List ByteArray} {a:ByteArray} (h:a∈acts):∃i:Nat,Zaz acts a=i∧acts[i]? =some a∧∀j y,j<i→acts[j]? =some y→y≠a:=by
 unfold Zaz
 obtain ⟨k,hk⟩:=List.getElem?_of_mem h
 have key:∀n:Nat,(∃i:Nat,i≤n∧acts[i]? =some a)→∃i:Nat,acts[i]? =some a∧∀(j:Nat) (y:ByteArray),j<i→acts[j]? =some y→y≠a:=by
  intro n
  induction n with
  |zero=>rintro ⟨i,hi,h⟩;exact ⟨i,h,fun j y hj=>by omega⟩
  | succ n ih=>
    rintro ⟨i,hi,h⟩
    by_cases h2:∃i:Nat,i≤n∧acts[i]? =some a
    · exact ih h2
    · exact ⟨i,h,fun j y hj hy e=>h2 ⟨j,by omega,by rw [hy,e]⟩⟩
 obtain ⟨i,hi,hb⟩:=key k ⟨k,Nat.le_refl _,hk⟩
 refine ⟨i,Zdm (fun j y hj hy=>?_) hi (Zf2.2 rfl),hi,hb⟩
 cases hs:ZdC y a
 · rfl
 · exact absurd (Zf2.1 hs) (hb j y hj hy)
theorem ZzZ {acts:List ByteArray} (hm:acts.length≤40):∀t:Nd,(∀s∈Za5 t,s∈acts)→BldOk acts.length (bldT acts t):=Nd.ind fun o a l ih ha=>by
 rw [bldT]
 split
 · rename_i h1
   obtain ⟨i,h2,h3,_⟩:=Zez (ha a (by rw [Za5,if_pos h1];exact List.mem_cons_self ..))
   have hi:=(List.getElem?_eq_some_iff.1 h3).1
   refine BldOk.of (Zey (Zj4 hm ?_) rfl)
   unfold Zaz at h2
   rw [h2];omega
 split
 · exact BldOk.of (Zey (Zpa hm) rfl)
 · rename_i h1 h2
   rw [Zne]
   refine Zvi o fun r hr=>?_
   obtain ⟨x,hx,rfl⟩:=List.mem_map.1 hr
   refine ih x hx fun s hs=>ha s ?_
   rw [Za5,if_neg h1]
   exact Zdq.2 ⟨x,hx,hs⟩
def nmW (acts:List ByteArray) (w:List Nat):List ByteArray:=w.map fun i=>(acts[i]?).getD ByteArray.empty
def Zfz (acts:List ByteArray) (A:Aut) (P:Lg):Prop:=∀w:List Nat,ZbU acts.length w→(ZfV A (wI w)=true↔P (nmW acts w))
def opB (o:Int) (P Q:Lg):Lg:=if o=3 then fun w=>∃u v,w=u++v∧P u∧Q v else if o=4 then fun w=>P w∨Q w else if o=6 then LpG P Q else fun w=>∃u v,Shf u v w∧P u∧Q v
theorem Zj5 {w:List Nat} {u v:List Int}:wI w=u++v↔∃w1 w2,w=w1++w2∧u=wI w1∧v=wI w2:=by
 unfold wI
 rw [List.map_eq_append_iff]
 exact ⟨fun ⟨a,b,h1,h2,h3⟩=>⟨a,b,h1,h2.symm,h3.symm⟩,fun ⟨a,b,h1,h2,h3⟩=>⟨a,b,h1,h2.symm,h3.symm⟩⟩
theorem Zj6 {acts:List ByteArray} {w:List Nat} {u v:List ByteArray}:nmW acts w=u++v↔∃w1 w2,w=w1++w2∧u=nmW acts w1∧v=nmW acts w2:=by
 unfold nmW
 rw [List.map_eq_append_iff]
 exact ⟨fun ⟨a,b,h1,h2,h3⟩=>⟨a,b,h1,h2.symm,h3.symm⟩,fun ⟨a,b,h1,h2,h3⟩=>⟨a,b,h1,h2.symm,h3.symm⟩⟩
theorem ZgB {m:Nat} {u v:List Nat}:ZbU m (u++v)↔ZbU m u∧ZbU m v:=⟨fun h=>⟨fun c hc=>h c (List.mem_append_left _ hc),fun c hc=>h c (List.mem_append_right _ hc)⟩,fun h c hc=>(List.mem_append.1 hc).elim (h.1 c) (h.2 c)⟩
theorem Zng {m:Nat} {w:List Nat} (_:ZbU m w):∀c∈wI w,0≤c:=fun c hc=>by
 unfold wI at hc
 obtain ⟨x,_,rfl⟩:=List.mem_map.1 hc
 exact Int.natCast_nonneg x
variable {acts:List ByteArray} {a b C:Aut} {P Q:Lg}
theorem Zcg (ha:IsMin a) (hP:Zfz acts a P) {w:List Nat} (hw:ZbU acts.length w):Lng a (wI w)↔P (nmW acts w):=by
 rw [←ZjR ha.aok (Zng hw)];exact hP w hw
theorem Znh (ha:IsMin a) (hb:IsMin b) (hsa:a.syms=acts.length) (hsb:b.syms=acts.length) (hP:Zfz acts a P) (hQ:Zfz acts b Q) (h:Zlq a b= .ok C):Zfz acts C (opB 3 P Q):=fun w hw=>by
 unfold Zlq at h
 rw [if_neg (fun h=>h (Zf1 ha hb hsa hsb))] at h
 have hva:=ZbA ha.valid
 have hvb:=ZbA hb.valid
 obtain ⟨_,_,h3⟩:=Zdf (ZjT hva hvb (by rw [hsa,hsb])) h
 have e:(Zer a b).syms.toNat=acts.length:=by show a.syms.toNat=_;rw [hsa];rfl
 rw [h3 w (by rw [e];exact hw),ZxT hva hvb]
 show _↔∃u v,nmW acts w=u++v∧P u∧Q v
 constructor
 · rintro ⟨u,v,e1,h1,h2⟩
   obtain ⟨w1,w2,rfl,rfl,rfl⟩:=Zj5.1 e1
   obtain ⟨hw1,hw2⟩:=ZgB.1 hw
   exact ⟨_,_,Zj6.2 ⟨w1,w2,rfl,rfl,rfl⟩,(Zcg ha hP hw1).1 h1,(Zcg hb hQ hw2).1 h2⟩
 · rintro ⟨u,v,e1,h1,h2⟩
   obtain ⟨w1,w2,rfl,rfl,rfl⟩:=Zj6.1 e1
   obtain ⟨hw1,hw2⟩:=ZgB.1 hw
   exact ⟨_,_,Zj5.2 ⟨w1,w2,rfl,rfl,rfl⟩,(Zcg ha hP hw1).2 h1,(Zcg hb hQ hw2).2 h2⟩
theorem Zs1 (ha:IsMin a) (hb:IsMin b) (hsa:a.syms=acts.length) (hsb:b.syms=acts.length) (hP:Zfz acts a P) (hQ:Zfz acts b Q) (h:Zfn a b= .ok C):Zfz acts C (opB 4 P Q):=fun w hw=>by
 unfold Zfn at h
 rw [if_neg (fun h=>h (Zf1 ha hb hsa hsb))] at h
 have hva:=ZbA ha.valid
 have hvb:=ZbA hb.valid
 obtain ⟨_,_,h3⟩:=Zdf (ZhA hva hvb (by rw [hsa,hsb])) h
 have e:(ZcL a b).syms.toNat=acts.length:=by show a.syms.toNat=_;rw [hsa];rfl
 rw [h3 w (by rw [e];exact hw),ZsP hva hvb,Zcg ha hP hw,Zcg hb hQ hw]
 rfl
theorem ZhN:∀{w:List Nat} {u v:List Int},Mix (wI w) u v→∃w1 w2,u=wI w1∧v=wI w2∧(∀c∈w1,c∈w)∧(∀c∈w2,c∈w)∧Shf (nmW acts w1) (nmW acts w2) (nmW acts w)
 | [],_,_,h=>by
   cases h
   exact ⟨[],[],rfl,rfl,fun _ h=>h,fun _ h=>h, .nil⟩
 | c ::w,_,_,h=>by
   cases h with
   | one _ h=>
     obtain ⟨w1,w2,rfl,rfl,h1,h2,h3⟩:=ZhN h
     exact ⟨c::w1,w2,rfl,rfl,fun x hx=>(List.mem_cons.1 hx).elim (fun e=>by rw [e];exact List.mem_cons_self ..) fun h=>List.mem_cons_of_mem _ (h1 x h),fun x hx=>List.mem_cons_of_mem _ (h2 x hx), .left h3⟩
   | two _ h=>
     obtain ⟨w1,w2,rfl,rfl,h1,h2,h3⟩:=ZhN h
     exact ⟨w1,c::w2,rfl,rfl,fun x hx=>List.mem_cons_of_mem _ (h1 x hx),fun x hx=>(List.mem_cons.1 hx).elim (fun e=>by rw [e];exact List.mem_cons_self ..) fun h=>List.mem_cons_of_mem _ (h2 x h), .right h3⟩
theorem ZhO:∀{w:List Nat} {u v:List ByteArray},Shf u v (nmW acts w)→∃w1 w2,u=nmW acts w1∧v=nmW acts w2∧(∀c∈w1,c∈w)∧(∀c∈w2,c∈w)∧Mix (wI w) (wI w1) (wI w2)
 | [],_,_,h=>by
   cases h
   exact ⟨[],[],rfl,rfl,fun _ h=>h,fun _ h=>h, .nil⟩
 | c ::w,_,_,h=>by
   cases h with
   | left h=>
     obtain ⟨w1,w2,rfl,rfl,h1,h2,h3⟩:=ZhO h
     exact ⟨c::w1,w2,rfl,rfl,fun x hx=>(List.mem_cons.1 hx).elim (fun e=>by rw [e];exact List.mem_cons_self ..) fun h=>List.mem_cons_of_mem _ (h1 x h),fun x hx=>List.mem_cons_of_mem _ (h2 x hx), .one _ h3⟩
   | right h=>
     obtain ⟨w1,w2,rfl,rfl,h1,h2,h3⟩:=ZhO h
     exact ⟨w1,c::w2,rfl,rfl,fun x hx=>List.mem_cons_of_mem _ (h1 x hx),fun x hx=>(List.mem_cons.1 hx).elim (fun e=>by rw [e];exact List.mem_cons_self ..) fun h=>List.mem_cons_of_mem _ (h2 x h), .two _ h3⟩
theorem Zvj (ha:IsMin a) (hb:IsMin b) (hsa:a.syms=acts.length) (hsb:b.syms=acts.length) (hP:Zfz acts a P) (hQ:Zfz acts b Q) (h:ZjZ a b= .ok C):Zfz acts C (opB 5 P Q):=fun w hw=>by
 unfold ZjZ at h
 rw [if_neg (fun h=>h (Zf1 ha hb hsa hsb))] at h
 split at h
 · cases h
 have hva:=ZbA ha.valid
 have hvb:=ZbA hb.valid
 obtain ⟨_,_,h3⟩:=Zdf (Zj0 hva hvb (by rw [hsa,hsb])) h
 have e:(ZcA a b).syms.toNat=acts.length:=by show a.syms.toNat=_;rw [hsa];rfl
 rw [h3 w (by rw [e];exact hw),Zvc hva hvb]
 show _↔∃u v,Shf u v (nmW acts w)∧P u∧Q v
 constructor
 · rintro ⟨u,v,e1,h1,h2⟩
   obtain ⟨w1,w2,rfl,rfl,k1,k2,k3⟩:=ZhN (acts:=acts) e1
   exact ⟨_,_,k3,(Zcg ha hP fun c hc=>hw c (k1 c hc)).1 h1,(Zcg hb hQ fun c hc=>hw c (k2 c hc)).1 h2⟩
 · rintro ⟨u,v,e1,h1,h2⟩
   obtain ⟨w1,w2,rfl,rfl,k1,k2,k3⟩:=ZhO e1
   exact ⟨_,_,k3,(Zcg ha hP fun c hc=>hw c (k1 c hc)).2 h1,(Zcg hb hQ fun c hc=>hw c (k2 c hc)).2 h2⟩
theorem Zvk (ha:IsMin a) (hsa:a.syms=acts.length) (hP:Zfz acts a P) (h:ZeW a= .ok C):Zfz acts C (StG P):=fun w hw=>by
 unfold ZeW at h
 rw [if_pos ha.valid] at h
 have hva:=ZbA ha.valid
 obtain ⟨_,_,h3⟩:=Zdf (ZjN hva) h
 have e:(ZdH a).syms.toNat=acts.length:=by show a.syms.toNat=_;rw [hsa];rfl
 rw [h3 w (by rw [e];exact hw),Zu9 hva]
 constructor
 · intro h
   generalize hx:wI w=x at h
   induction h generalizing w with
   | nil=>
     have:w=[]:=List.map_eq_nil_iff.1 hx
     rw [this];exact .nil
   | app h1 _ ih=>
     obtain ⟨w1,w2,rfl,rfl,rfl⟩:=Zj5.1 hx
     obtain ⟨hw1,hw2⟩:=ZgB.1 hw
     rw [show nmW acts (w1++w2)=nmW acts w1++nmW acts w2 from List.map_append]
     exact .cons ((Zcg ha hP hw1).1 h1) (ih w2 hw2 rfl)
 · intro h
   generalize hx:nmW acts w=x at h
   induction h generalizing w with
   | nil=>
     have:w=[]:=List.map_eq_nil_iff.1 hx
     rw [this];exact .nil
   | cons h1 _ ih=>
     obtain ⟨w1,w2,rfl,rfl,rfl⟩:=Zj6.1 hx
     obtain ⟨hw1,hw2⟩:=ZgB.1 hw
     rw [show wI (w1++w2)=wI w1++wI w2 from List.map_append]
     exact .app ((Zcg ha hP hw1).2 h1) (ih w2 hw2 rfl)
theorem Zvl (ha:IsMin a) (hb:IsMin b) (hsa:a.syms=acts.length) (hsb:b.syms=acts.length) (hP:Zfz acts a P) (hQ:Zfz acts b Q) (h:Zfo a b= .ok C):Zfz acts C (opB 6 P Q):=by
 unfold Zfo at h
 rcases Zfr hb ha hsb hsa with h1|⟨X,h1,hX,hs1⟩
 · rw [h1] at h;cases h
 rw [h1] at h
 dsimp only at h
 rcases ZhM hX hs1 with h2|⟨Y,h2,hY,hs2⟩
 · rw [h2] at h;cases h
 rw [h2] at h
 dsimp only at h
 have:=Znh ha hY hsa hs2 hP (Zvk hX hs1 (Znh hb ha hsb hsa hQ hP h1) h2) h
 have e:opB 6 P Q=opB 3 P (StG (opB 3 Q P)):=by
  have e2:opB 3 Q P=Znb [Q,P]:=funext fun w=>propext ⟨fun ⟨u,v,h1,h2,h3⟩=>⟨u,v,h1,h2,v,[],(List.append_nil v).symm,h3,rfl⟩,fun ⟨u,v,h1,h2,v2,z,h3,h4,h5⟩=>⟨u,v,h1,h2,by cases h5;rw [h3,List.append_nil];exact h4⟩⟩
  rw [e2]
  exact ZxU P Q
 rw [e];exact this
theorem Zvm {o:Int} (ho:o=3∨o=4∨o=5∨o=6) (ha:IsMin a) (hb:IsMin b) (hsa:a.syms=acts.length) (hsb:b.syms=acts.length) (hP:Zfz acts a P) (hQ:Zfz acts b Q) (h:Zcf o a b= .ok C):Zfz acts C (opB o P Q):=by
 rcases ho with rfl|rfl|rfl|rfl
 · exact Znh ha hb hsa hsb hP hQ h
 · exact Zs1 ha hb hsa hsb hP hQ h
 · exact Zvj ha hb hsa hsb hP hQ h
 · exact Zvl ha hb hsa hsb hP hQ h
variable {acts:List ByteArray}
theorem Zz0 {α:Type} {l:List α} (hn:l.Nodup) {x i:Nat} (hx:x<l.length) (hi:i<l.length) (e:l[x]'hx=l[i]'hi):x=i:=by
 have h:=List.pairwise_iff_getElem.1 hn
 rcases Nat.lt_trichotomy x i with h1|h1|h1
 · exact absurd e (h x i hx hi h1)
 · exact h1
 · exact absurd e.symm (h i x hi hx h1)
theorem Zvn {a:ByteArray} (hn:acts.Nodup) (hm:acts.length≤40) (ha:a∈acts) {A:Aut} (h:Zij (Zf0 acts.length (idx (fun x=>ZdC x a) acts))= .ok A):Zfz acts A (fun w=>w=[a]):=fun w hw=>by
 obtain ⟨i,h2,h3,_⟩:=Zez ha
 unfold Zaz at h2
 rw [h2] at h
 have hi:=(List.getElem?_eq_some_iff.1 h3).1
 have hok:ζ5 (Zf0 acts.length (i:Nat))=true:=Zj4 hm (by omega)
 rw [(Zhz h).2.2 w hw,ZjR (ZbA hok).toAOk (Zng hw)]
 have key:∀{s t:Int} {v:List Int},Pth (Zf0 acts.length (i:Nat)) s v t→(s=t∧v=[])∨(s=0∧t=1∧v=[(i:Int)]):=fun h=>by
  induction h with
  |nil s=>exact .inl ⟨rfl,rfl⟩
  | eps hm hs _ _=>
    cases List.mem_singleton.1 hm
    dsimp only at hs;omega
  | sym hm hs _ ih=>
    cases List.mem_singleton.1 hm
    dsimp only at ih ⊢
    rcases ih with ⟨h1,h2⟩|⟨h1,_⟩
    · exact .inr ⟨rfl,h1.symm,by rw [h2]⟩
    · omega
 constructor
 · rintro ⟨s,hs,f,hf,hp⟩
   cases List.mem_singleton.1 hs
   cases List.mem_singleton.1 hf
   rcases key hp with ⟨h1,_⟩|⟨_,_,h1⟩
   · omega
   · unfold wI at h1
     rw [List.map_eq_singleton_iff] at h1
     obtain ⟨x,rfl,hx⟩:=h1
     obtain rfl:x=i:=by omega
     show [(acts[x]?).getD ByteArray.empty]=[a]
     rw [h3];rfl
 · intro h
   have h:w.map (fun i=>(acts[i]?).getD ByteArray.empty)=[a]:=h
   rw [List.map_eq_singleton_iff] at h
   obtain ⟨x,rfl,hx⟩:=h
   have hxl:=hw x (List.mem_singleton.2 rfl)
   rw [List.getElem?_eq_getElem hxl] at hx
   have e:acts[x]'hxl=acts[i]'hi:=by rw [(List.getElem?_eq_some_iff.1 h3).2];exact hx
   obtain rfl:x=i:=Zz0 hn _ _ e
   refine ⟨0,List.mem_singleton.2 rfl,1,List.mem_singleton.2 rfl,?_⟩
   exact Pth.sym (a:=Zf0 acts.length (x:Nat)) (m:=⟨0,1,(x:Nat)⟩) (List.mem_singleton.2 rfl) (by dsimp only;omega) (.nil 1)
theorem ZxW (hm:acts.length≤40) {A:Aut} (h:Zij (Zqr acts.length)= .ok A):Zfz acts A (fun w=>w=[]):=fun w hw=>by
 have hok:ζ5 (Zqr acts.length)=true:=Zpa hm
 rw [(Zhz h).2.2 w hw,ZjR (ZbA hok).toAOk (Zng hw)]
 constructor
 · rintro ⟨s,hs,f,hf,hp⟩
   have e:∀{s t:Int} {v:List Int},Pth (Zqr acts.length) s v t→v=[]:=fun h=>by
    cases h with
    |nil s=>rfl
    |eps hm _ _=>cases hm
    |sym hm _ _=>cases hm
   show w.map _=[]
   rw [List.map_eq_nil_iff.1 (e hp)];rfl
 · intro h
   have:w=[]:=List.map_eq_nil_iff.1 h
   subst this
   exact ⟨0,List.mem_singleton.2 rfl,0,List.mem_singleton.2 rfl, .nil 0⟩
theorem ZxX {o:Int} (ho:o=3∨o=4∨o=5) (a:ByteArray) (P:Lg):opG o a [P]=P:=by
 rcases ho with rfl|rfl|rfl
 · exact ZsY P
 · exact funext fun w=>propext ⟨fun ⟨A,h1,h2⟩=>by cases List.mem_singleton.1 h1;exact h2,fun h=>⟨P,List.mem_singleton.2 rfl,h⟩⟩
 · exact and_one P
theorem Zvo {o:Int} (ho:o=3∨o=4∨o=5) (a:ByteArray) (m:List Lg) (Q:Lg):opG o a (m++[Q])=opB o (opG o a m) Q:=by
 rcases ho with rfl|rfl|rfl
 · show Znb (m++[Q])=_
   rw [ZsW,ZsY];rfl
 · exact funext fun w=>propext ⟨fun ⟨A,h1,h2⟩=>(List.mem_append.1 h1).elim (fun h=> .inl ⟨A,h,h2⟩) (fun h=>by cases List.mem_singleton.1 h;exact .inr h2),fun h=>h.elim (fun ⟨A,h1,h2⟩=>⟨A,List.mem_append_left _ h1,h2⟩) fun h=>⟨Q,List.mem_append_right _ (List.mem_singleton.2 rfl),h⟩⟩
 · show ZsV (m++[Q])=_
   rw [ZsX,and_one];rfl
def ZwE (acts:List ByteArray) (r:Option Aut) (P:Lg):Prop:=∀A,r=some A→IsMin A∧A.syms=acts.length∧Zfz acts A P
theorem Zpb {o:Int} (ho:o=3∨o=4∨o=5∨o=6) {r p:Option Aut} {P Q:Lg} (hr:ZwE acts r P) (hp:ZwE acts p Q):ZwE acts (Zd8 o r p) (opB o P Q):=by
 match r,p with
 | some a,some b=>
   obtain ⟨ha,hsa,hP⟩:=hr a rfl
   obtain ⟨hb,hsb,hQ⟩:=hp b rfl
   intro A hA
   obtain ⟨h1,h2,h3⟩:=(Zfs o ha hb hsa hsb).ok hA
   exact ⟨h2,h3,Zvm ho ha hb hsa hsb hP hQ h1⟩
 |none,_=>exact fun A hA=>by cases hA
 |some _,none=>exact fun A hA=>by cases hA
theorem Zpc {o:Int} (ho:o=3∨o=4∨o=5) (a:ByteArray):∀(l:List Nd) (f:Nd→Option Aut) (r:Option Aut) (m:List Lg),ZwE acts r (opG o a m)→(∀x∈l,ZwE acts (f x) (ZbV x))→ZwE acts ((l.map f).foldl (Zd8 o) r) (opG o a (m++l.map ZbV))
 |[],f,r,m,h,_=>by rw [List.map_nil,List.map_nil,List.append_nil];exact h
 | x::l,f,r,m,h,h2=>by
   have:=Zpc ho a l f (Zd8 o r (f x)) (m++[ZbV x]) (by rw [Zvo ho];exact Zpb (by omega) h (h2 x (List.mem_cons_self ..))) fun y hy=>h2 y (List.mem_cons_of_mem _ hy)
   rw [List.append_assoc] at this
   exact this
theorem ZhP {a:ByteArray} {l:List Nd} (h:rightT (.mk 6 a l)=true):∃x y,l=[x,y]:=by
 unfold rightT at h
 simp [Nd.op,Nd.l,Nd.act] at h
 match l,h with
 |[x,y],_=>exact ⟨x,y,rfl⟩
theorem Zpd {o:Int} (ho:o=3∨o=4∨o=5) {a:ByteArray} {l:List Nd} (h:rightT (.mk o a l)=true):∃x m,l=x::m:=by
 cases l with
 |nil=>rcases ho with rfl|rfl|rfl<;>simp [rightT,Nd.op,Nd.l] at h
 |cons x m=>exact ⟨x,m,rfl⟩
theorem Zvp (hn:acts.Nodup) (hm:acts.length≤40):∀t:Nd,okT t=true→(∀s∈Za5 t,s∈acts)→ZwE acts (bldT acts t) (ZbV t):=Nd.ind fun o a l ih hok ha=>by
 obtain ⟨hr,hp⟩:=ZbM.1 hok
 have hops:=Ze8 hr
 simp only [Nd.op,Nd.l] at hops hp
 have hpart:∀x∈l,o≠1→ZwE acts (bldT acts x) (ZbV x):=fun x hx h1=>ih x hx (hp x hx) fun s hs=>ha s (by rw [Za5,if_neg h1];exact Zdq.2 ⟨x,hx,hs⟩)
 by_cases h1:o=1
 · subst h1
   intro A hA
   have hmem:a∈acts:=ha a (by rw [Za5,if_pos rfl];exact List.mem_cons_self ..)
   rw [bldT,if_pos rfl] at hA
   obtain ⟨i,h2,h3,_⟩:=Zez hmem
   have hi:=(List.getElem?_eq_some_iff.1 h3).1
   obtain ⟨k1,k2,k3⟩:=(Zey (m:=acts.length) (Zj4 hm (by unfold Zaz at h2;rw [h2];omega)) rfl).ok hA
   exact ⟨k2,k3,Zvn hn hm hmem k1⟩
 by_cases h2:o=2
 · subst h2
   intro A hA
   rw [bldT,if_neg (by decide),if_pos rfl] at hA
   obtain ⟨k1,k2,k3⟩:=(Zey (m:=acts.length) (Zpa hm) rfl).ok hA
   exact ⟨k2,k3,ZxW hm k1⟩
 rw [ZwD acts o a l h1 h2,Znc]
 by_cases h6:o=6
 · subst h6
   obtain ⟨x,y,rfl⟩:=ZhP hr
   exact Zpb (o:=6) (by omega) (hpart x (by simp) h1) (hpart y (by simp) h1)
 · have ho:o=3∨o=4∨o=5:=by omega
   obtain ⟨x,m,rfl⟩:=Zpd ho hr
   exact Zpc ho a m (bldT acts) (bldT acts x) [ZbV x] (by rw [ZxX ho];exact hpart x (List.mem_cons_self ..) h1) fun y hy=>hpart y (List.mem_cons_of_mem _ hy) h1
theorem Zs2:∀t:Nd,okT t=true→∀w,ZbV t w→∀s∈w,s∈Za5 t:=Nd.ind fun o a l ih hok w hw s hs=>by
 obtain ⟨hr,hp⟩:=ZbM.1 hok
 have hops:=Ze8 hr
 simp only [Nd.op,Nd.l] at hops hp
 rw [Znc] at hw
 by_cases h1:o=1
 · subst h1
   rw [show w=[a] from hw] at hs
   rw [Za5,if_pos rfl,List.mem_singleton.1 hs];exact List.mem_cons_self ..
 by_cases h2:o=2
 · subst h2
   rw [show w=[] from hw] at hs
   cases hs
 rw [Za5,if_neg h1]
 have ih2:∀x∈l,∀w,ZbV x w→∀s∈w,s∈Ze1 l:=fun x hx w hw s hs=>Zdq.2 ⟨x,hx,ih x hx (hp x hx) w hw s hs⟩
 have hshf:∀{u v w:List ByteArray},Shf u v w→∀s∈w,s∈u∨s∈v:=fun h=>by
  induction h with
  |nil=>exact fun s h=>by cases h
  |left _ ih=>exact fun s h=>(List.mem_cons.1 h).elim (fun e=> .inl (by rw [e];exact List.mem_cons_self ..)) fun h=>(ih s h).imp (List.mem_cons_of_mem _) id
  |right _ ih=>exact fun s h=>(List.mem_cons.1 h).elim (fun e=> .inr (by rw [e];exact List.mem_cons_self ..)) fun h=>(ih s h).imp id (List.mem_cons_of_mem _)
 have seqA:∀(m:List Nd),(∀x∈m,x∈l)→∀w,Znb (m.map ZbV) w→∀s∈w,s∈Ze1 l:=fun m=>by
  induction m with
  |nil=>exact fun _ w hw s hs=>by rw [show w=[] from hw] at hs;cases hs
  | cons x m ihm=>
    rintro hm w ⟨u,v,rfl,h3,h4⟩ s hs
    exact (List.mem_append.1 hs).elim (ih2 x (hm x (List.mem_cons_self ..)) u h3 s) (ihm (fun y hy=>hm y (List.mem_cons_of_mem _ hy)) v h4 s)
 have andA:∀(m:List Nd),(∀x∈m,x∈l)→∀w,ZsV (m.map ZbV) w→∀s∈w,s∈Ze1 l:=fun m=>by
  induction m with
  |nil=>exact fun _ w hw s hs=>by rw [show w=[] from hw] at hs;cases hs
  | cons x m ihm=>
    rintro hm w ⟨u,v,h0,h3,h4⟩ s hs
    exact (hshf h0 s hs).elim (ih2 x (hm x (List.mem_cons_self ..)) u h3 s) (ihm (fun y hy=>hm y (List.mem_cons_of_mem _ hy)) v h4 s)
 have ho:o=3∨o=4∨o=5∨o=6:=by omega
 rcases ho with rfl|rfl|rfl|rfl
 · exact seqA l (fun _ h=>h) w hw s hs
 · obtain ⟨A,hA,hw⟩:=hw
   obtain ⟨x,hx,rfl⟩:=List.mem_map.1 hA
   exact ih2 x hx w hw s hs
 · exact andA l (fun _ h=>h) w hw s hs
 · obtain ⟨x,y,rfl⟩:=ZhP hr
   have hl:LpG (ZbV x) (ZbV y) w:=hw
   clear hw
   revert s
   induction hl with
   |one h=>exact fun s hs=>ih2 x (by simp) _ h s hs
   | more h3 h4 h5 ih5=>
     intro s hs
     rcases List.mem_append.1 hs with hs|hs
     · exact ih5 s hs
     rcases List.mem_append.1 hs with hs|hs
     · exact ih2 y (by simp) _ h4 s hs
     · exact ih2 x (by simp) _ h5 s hs
theorem Zs3 {a b:Aut} (ha:IsMin a) (hb:IsMin b) (hs:a.syms=b.syms) (op:Int):cmpX a b op=(false,[],13)∨(cmpX a b op=(true,[],0)∧∀w,ZbU a.syms.toNat w→ZqQ op (ZfV a (wI w)) (ZfV b (wI w))=false)∨∃u,ZbU a.syms.toNat u∧cmpX a b op=(false,wI u,0)∧ZqQ op (ZfV a (wI u)) (ZfV b (wI u))=true:=by
 have hf:Zdl a b=0:=Zna ha.valid hb.valid hs
 cases hq:prodQ a b with
 |none=>exact .inl (ZlM hf ha.red hb.red hq)
 | some q=>
   obtain ⟨o,rows⟩:=q
   have hP:PQ a b o rows:=⟨ha,hb,hs,hq⟩
   have hc:=ZlL (op:=op) hf ha.red hb.red hq
   cases hx:(o.map (ZbI a b op)).idxOf? true with
   | none=>
     rw [ZsU hx] at hc
     refine .inr (.inl ⟨hc,fun w hw=>?_⟩)
     obtain ⟨h5,_⟩:=hP.run (op:=op) w hw
     obtain ⟨x,hx'⟩:=ζm h5
     rw [←hP.fin (op:=op) hw hx']
     cases hp:ZbI a b op x with
     |false=>rfl
     | true=>
       exfalso
       rw [List.idxOf?_eq_none_iff] at hx
       exact hx (List.mem_map.2 ⟨x,List.mem_of_getElem? hx',hp⟩)
   | some i=>
     rw [ZsT hx] at hc
     obtain ⟨hi,_⟩:=Zo8.1 hx
     have hil:i<o.length:=by have:=ζe hi;rwa [List.length_map] at this
     obtain ⟨u,hu,e,hr⟩:=hP.way (op:=op) i hil
     refine .inr (.inr ⟨u,hu,by rw [hc,e],?_⟩)
     obtain ⟨x,hx'⟩:=ζm hil
     rw [←hP.fin (op:=op) hu (x:=x) (by rw [hr];exact hx')]
     rw [List.getElem?_map,hx'] at hi
     simpa using hi
theorem ZwF (ks:List ByteArray):(Zgg ks).Perm ks:=by
 have h:=(List.mergeSort_perm (ks.map toB) fun x y=>decide (x≤y)).map ofB
 have e:(ks.map toB).map ofB=ks:=by rw [List.map_map];exact (List.map_congr_left fun s _=>Zjp s).trans (List.map_id ks)
 rw [e] at h
 exact h
theorem Zj7 {ks:List ByteArray} {s:ByteArray}:s∈Zgg ks↔s∈ks:=(ZwF ks).mem_iff
theorem Zni {ks:List ByteArray} (h:ks.Nodup):(Zgg ks).Nodup:=(ZwF ks).nodup_iff.2 h
noncomputable def unK (a b:Nd):List ByteArray:=colS (colS [] (Za5 a)) (Za5 b)
noncomputable def unT (a b:Nd):List ByteArray:=Zgg (unK a b)
theorem ZwG (a b:Nd):(unK a b).Nodup:=ZfK _ _ (ZfK _ _ List.nodup_nil)
theorem Zs4 {a b:Nd} {s:ByteArray}:s∈unK a b↔s∈Za5 a∨s∈Za5 b:=by unfold unK;rw [Ze9,Ze9];simp
theorem Zj8 {a b:Nd} {s:ByteArray}:s∈unT a b↔s∈Za5 a∨s∈Za5 b:=by unfold unT;rw [Zj7,Zs4]
theorem ZwH (a b:Nd):(unT a b).Nodup:=Zni (ZwG a b)
theorem Zj9 (a b:Nd):(unT a b).length=(unK a b).length:=Zfb _
def nmI (acts:List ByteArray) (w:List Int):List ByteArray:=w.map fun i=>(acts[i.toNat]?).getD ByteArray.empty
noncomputable def eqTX (a b:Nd):Bool×List ByteArray×Int:=
 if ZcB a=true∧ZcB b=true then
  if (unK a b).length≤40 then match bldT (unT a b) a,bldT (unT a b) b with
   |some x,some y=>((cmpX x y 4).1,nmI (unT a b) (cmpX x y 4).2.1,(cmpX x y 4).2.2)
   |_,_=>(false,[],13)
  else (false,[],5)
 else (false,[],1)
theorem ZlP {acts:List ByteArray} {t:Nd} (hn:acts.Nodup) (hm:acts.length≤40) (hv:ZcB t=true) (ha:∀s∈Za5 t,s∈acts) {A:Aut} (h:bldT acts t=some A):IsMin A∧A.syms=acts.length∧Zfz acts A (ZbV t):=Zvp hn hm t (Ze7 hv) ha A h
theorem ZlQ {m:Nat} {a:Aut} (h:a.syms=m) {w:List Nat}:ZbU a.syms.toNat w↔ZbU m w:=by rw [h];rfl
def Zbl (acts:List ByteArray) (w:List ByteArray):List Int:=w.map (Zaz acts)
noncomputable def accTX (t:Nd) (w:List ByteArray):Bool×Int:=
 if ZcB t=true then
  if 200<w.length then (false,5) else if ¬(actR t).2=0 then (false,(actR t).2) else match bldT (actR t).1 t with
   |none=>(false,13)
   |some A=>if (w.any fun s=>decide (Zaz (actR t).1 s<0))=true then (false,0) else (ZfV A (Zbl (actR t).1 w),0)
 else (false,1)
theorem Zka {t:Nd} (h:(actR t).2=0):ZcB t=true∧(actR t).1=Zgg (colS [] (Za5 t))∧(actR t).1.length≤40∧(actR t).1.Nodup∧∀s,s∈(actR t).1↔s∈Za5 t:=by
 unfold actR at h ⊢
 by_cases h1:ZcB t=true
 · rw [if_pos h1] at h ⊢
   by_cases h2:(colS [] (Za5 t)).length≤40
   · rw [if_pos h2] at h ⊢
     dsimp only
     exact ⟨h1,rfl,by rw [Zfb];exact h2,Zni (ZfK _ _ List.nodup_nil),fun s=>by rw [Zj7,Ze9];simp⟩
   · rw [if_neg h2] at h;cases h
 · rw [if_neg h1] at h;cases h
theorem Zpe {acts:List ByteArray} {s:ByteArray} (h:Zaz acts s<0):s∉acts:=fun hs=>by
 obtain ⟨i,h1,_⟩:=Zez hs
 omega
theorem ZwI {acts:List ByteArray} {s:ByteArray} (h:¬Zaz acts s<0):∃i:Nat,Zaz acts s=i∧acts[i]? =some s:=by
 by_cases hs:s∈acts
 · obtain ⟨i,h1,h2,_⟩:=Zez hs
   exact ⟨i,h1,h2⟩
 · exfalso
   refine h ?_
   unfold Zaz
   rw [Zdn (fun i y _ hy=>?_)]
   · decide
   · cases h2:ZdC y s with
     |false=>rfl
     |true=>exact absurd (Zf2.1 h2▸List.mem_of_getElem? hy) hs
theorem ZhQ {acts:List ByteArray}:∀{w:List ByteArray},(w.any fun s=>decide (Zaz acts s<0))=false→∃u,ZbU acts.length u∧Zbl acts w=wI u∧nmW acts u=w
 |[],_=>⟨[],fun _ h=>(by cases h),rfl,rfl⟩
 | s ::w,h=>by
   rw [List.any_cons,Bool.or_eq_false_iff] at h
   obtain ⟨u,h1,h2,h3⟩:=ZhQ h.2
   obtain ⟨i,h4,h5⟩:=ZwI (of_decide_eq_false h.1)
   refine ⟨i::u,fun c hc=>?_,?_,?_⟩
   · rcases List.mem_cons.1 hc with rfl|hc
     · exact ζe h5
     · exact h1 c hc
   · show Zaz acts s::Zbl acts w=((i:Nat):Int)::wI u
     rw [h4,h2]
   · show ((acts[i]?).getD ByteArray.empty)::nmW acts u=_
     rw [h5,h3];rfl
theorem Zf3 {t:Nd} {w:List ByteArray} (h:(accTX t w).2=0):(accTX t w).1=true↔ZbV t w:=by
 unfold accTX at h ⊢
 by_cases hv:ZcB t=true
 · rw [if_pos hv] at h ⊢
   by_cases hl:200<w.length
   · rw [if_pos hl] at h;cases h
   rw [if_neg hl] at h ⊢
   by_cases ha:(actR t).2=0
   · rw [if_neg (fun h=>h ha)] at h ⊢
     obtain ⟨_,_,hm,hn,hmem⟩:=Zka ha
     cases hb:bldT (actR t).1 t with
     |none=>rw [hb] at h;cases h
     | some A=>
       dsimp only
       obtain ⟨_,sA,lA⟩:=ZlP hn hm hv (fun s hs=>(hmem s).2 hs) hb
       by_cases h2:(w.any fun s=>decide (Zaz (actR t).1 s<0))=true
       · rw [if_pos h2]
         refine ⟨fun h=>(by cases h),fun h=>?_⟩
         obtain ⟨s,hs,h3⟩:=List.any_eq_true.1 h2
         exact absurd ((hmem s).2 (Zs2 t (Ze7 hv) w h s hs)) (Zpe (of_decide_eq_true h3))
       · rw [if_neg h2]
         obtain ⟨u,k1,k2,k3⟩:=ZhQ (Bool.eq_false_iff.2 h2)
         dsimp only
         rw [k2,lA u k1,k3]
   · rw [if_pos ha] at h;exact absurd h ha
 · rw [if_neg hv] at h;cases h
noncomputable def autTX (t:Nd) (acts:List ByteArray):Except Int Aut:=
 if ZcB t=true∧Zci acts=true then if ((Za5 t).any fun s=>decide (Zaz acts s<0))=true then .error 8 else lim (bldT acts t) else .error 1
theorem Zs5:∀t:Nd,okT t=true→(Za5 t).length≤szT t:=Nd.ind fun o a l ih h=>by
 obtain ⟨hr,hp⟩:=ZbM.1 h
 have key:∀m:List Nd,(∀x∈m,x∈l)→(Ze1 m).length≤szL m:=fun m=>by
  induction m with
  |nil=>intro _;exact Nat.le_refl _
  | cons x m ihm=>
    intro hm
    rw [Ze1,szL,List.length_append]
    have h1:=ih x (hm x (List.mem_cons_self ..)) (hp x (hm x (List.mem_cons_self ..)))
    have h2:=ihm fun y hy=>hm y (List.mem_cons_of_mem _ hy)
    omega
 have:=key l fun _ h=>h
 rw [Za5,szT]
 split
 · rw [List.length_cons];omega
 · omega
theorem Zpf (x y:Nd) (a:ByteArray) (w:List ByteArray):ZbV (.mk 4 a [x,y]) w↔ZbV x w∨ZbV y w:=by
 rw [Znc]
 constructor
 · rintro ⟨A,hA,hw⟩
   rcases List.mem_cons.1 hA with rfl|hA
   · exact .inl hw
   · exact .inr ((List.mem_singleton.1 hA)▸hw)
 · rintro (h|h)
   · exact ⟨_,List.mem_cons_self ..,h⟩
   · exact ⟨_,List.mem_cons_of_mem _ (List.mem_cons_self ..),h⟩
theorem ZxY {x y:Nd} {a:ByteArray} {w:List ByteArray} (h1:(accTX x w).2=0) (h2:(accTX y w).2=0) (h3:(accTX (.mk 4 a [x,y]) w).2=0):(accTX (.mk 4 a [x,y]) w).1=((accTX x w).1||(accTX y w).1):=by
 rw [Bool.eq_iff_iff,Bool.or_eq_true,Zf3 h1,Zf3 h2,Zf3 h3,Zpf]
theorem Znj {t:Nd} {acts:List ByteArray} (hv:ZcB t=true) (ha:Zci acts=true) (hn:acts.Nodup) (hm:acts.length≤40) (hin:∀s∈Za5 t,s∈acts):autTX t acts= .error 13∨∃A,autTX t acts= .ok A∧IsMin A∧A.syms=acts.length∧Zfz acts A (ZbV t):=by
 unfold autTX
 rw [if_pos ⟨hv,ha⟩,if_neg]
 · cases hb:bldT acts t with
   |none=>exact .inl rfl
   |some A=>exact .inr ⟨A,rfl,ZlP hn hm hv hin hb⟩
 · intro h
   obtain ⟨s,hs,h3⟩:=List.any_eq_true.1 h
   exact absurd (hin s hs) (Zpe (of_decide_eq_true h3))
theorem ZxZ {x y:Nd} {a:ByteArray} {acts:List ByteArray} {p q:Aut} (mp:IsMin p) (mq:IsMin q) (sp:p.syms=acts.length) (sq:q.syms=acts.length) (lp:Zfz acts p (ZbV x)) (lq:Zfz acts q (ZbV (.mk 4 a [x,y]))):cmpX p q 3=(true,[],0)∨cmpX p q 3=(false,[],13):=by
 rcases Zs3 mp mq (by rw [sp,sq]) 3 with h|⟨h,_⟩|⟨u,hu,h,hd⟩
 · exact .inr h
 · exact .inl h
 · exfalso
   have hu:=(ZlQ sp).1 hu
   have e:ZfV p (wI u)=true→ZfV q (wI u)=true:=fun h=>(lq u hu).2 ((Zpf x y a _).2 (.inl ((lp u hu).1 h)))
   have hd:(ZfV p (wI u)&& !ZfV q (wI u))=true:=hd
   rw [Bool.and_eq_true] at hd
   rw [e hd.1] at hd
   exact absurd hd.2 (by decide)
theorem ZlR:∀a b:List UInt8,Op.bytesLess a b=decide (a<b)
 |_,[]=>by simp [Op.bytesLess]
 |[],_::_=>by simp [Op.bytesLess]
 | x::a,y::b=>by
   rw [Op.bytesLess,ZlR a b,Bool.eq_iff_iff]
   simp [List.cons_lt_cons_iff]
noncomputable def canB (l:List ByteArray):List ByteArray:=Zgg (colS [] l)
theorem Zvq {l:List ByteArray} {s:ByteArray}:s∈canB l↔s∈l:=by unfold canB;rw [Zj7,Ze9];simp
def Zs6 (l:List ByteArray):Prop:=l.Pairwise fun x y=>ZcZ x y=true
theorem Zvr {x y:ByteArray}:ZcZ x y=decide (toB x<toB y):=by
 unfold ZcZ toB
 rw [ZlR,ByteArray.toList_eq,ByteArray.toList_eq]
theorem Zvs {ks:List ByteArray} (h:ks.Nodup):Zs6 (Zgg ks):=by
 have htr:∀a b c:List UInt8,decide (a≤b)=true→decide (b≤c)=true→decide (a≤c)=true:=fun a b c h1 h2=>by
  simp only [decide_eq_true_eq] at*;exact List.le_trans h1 h2
 have hto:∀a b:List UInt8,(decide (a≤b)||decide (b≤a))=true:=fun a b=>by
  simp only [Bool.or_eq_true,decide_eq_true_eq];exact List.le_total a b
 have h1:=List.pairwise_mergeSort htr hto (ks.map toB)
 have h2:(Zgg ks).Pairwise fun x y=>decide (toB x≤toB y)=true:=by
  unfold Zgg
  rw [List.pairwise_map]
  exact h1.imp fun {a b} h=>by rw [ZrK,ZrK];exact h
 have h3:=Zni h
 exact List.Pairwise.imp₂ (fun {a b} k1 k2=>by
  rw [Zvr]
  simp only [decide_eq_true_eq] at k1 ⊢
  refine Decidable.byContradiction fun hn=>k2 ?_
  have e:toB a=toB b:=List.le_antisymm k1 (List.not_lt.1 hn)
  rw [←Zjp a,e,Zjp]) h2 h3
theorem Zpg (l:List ByteArray):Zs6 (canB l):=Zvs (ZfK _ _ List.nodup_nil)
theorem Zvt:∀{l m:List ByteArray},Zs6 l→Zs6 m→(∀s,s∈l↔s∈m)→l=m:=fun {l m} hl hm h=>by
 have nd:∀{l:List ByteArray},Zs6 l→l.Nodup:=fun h=>h.imp fun {a b} h e=>by rw [e,Zgb] at h;cases h
 refine List.Perm.eq_of_pairwise (le:=fun x y=>ZcZ x y=true) (fun a b _ _ h1 h2=>?_) hl hm ((List.perm_ext_iff_of_nodup (nd hl) (nd hm)).2 h)
 exact absurd (Zmv h1 h2) (by rw [Zgb];decide)
theorem Zs7 {l m:List ByteArray} (h:Zs6 l) (hm:∀s,s∈l↔s∈m):l=canB m:=Zvt h (Zpg m) fun s=>by rw [hm,Zvq]
theorem Zvu {l:List ByteArray} (h1:l.length≤40) (h2:Zs6 l) (h3:∀s∈l,ZaZ s=true):(decide (l.length≤40)&&l.all ZaZ&&ZaU ZcZ l)=true:=by
 rw [Bool.and_eq_true,Bool.and_eq_true]
 refine ⟨⟨decide_eq_true h1,List.all_eq_true.2 h3⟩,(Zcm _ _).2 fun i x y hx hy=>?_⟩
 obtain ⟨hi,ex⟩:=List.getElem?_eq_some_iff.1 hx
 obtain ⟨hj,ey⟩:=List.getElem?_eq_some_iff.1 hy
 have:=List.pairwise_iff_getElem.1 h2 i (i+1) hi hj (by omega)
 rw [ex,ey] at this
 exact this
instance:DecidableEq Mv:=fun a b=>if h:eqM a b=true then .isTrue (Zd6.1 h) else .isFalse fun e=>h (Zd6.2 e)
def Zx0 (x:Int):List Int→List Int
 |[]=>[x]
 |y::l=>if x≤y then x::y::l else y::Zx0 x l
def ZAv:List Int→List Int
 |[]=>[]
 |x::l=>Zx0 x (ZAv l)
theorem ZhR (x:Int):∀l,(Zx0 x l).Perm (x::l)
 |[]=> .refl _
 | y::l=>by
   unfold Zx0
   split
   · exact .refl _
   · exact ((ZhR x l).cons y).trans (.swap _ _ _)
theorem ZlS:∀l,(ZAv l).Perm l
 |[]=> .refl _
 |x::l=>(ZhR x _).trans ((ZlS l).cons x)
theorem Zs8 (x:Int):∀l:List Int,l.Pairwise (· ≤ ·)→(Zx0 x l).Pairwise (· ≤ ·)
 |[],_=>by simp [Zx0]
 | y ::l,h=>by
   have h':=List.pairwise_cons.1 h
   unfold Zx0
   split
   · rename_i hxy
     refine List.pairwise_cons.2 ⟨fun z hz=>?_,h⟩
     rcases List.mem_cons.1 hz with rfl|hz
     · exact hxy
     · exact Int.le_trans hxy (h'.1 z hz)
   · rename_i hxy
     refine List.pairwise_cons.2 ⟨fun z hz=>?_,Zs8 x l h'.2⟩
     rcases List.mem_cons.1 ((ZhR x l).mem_iff.1 hz) with rfl|hz
     · omega
     · exact h'.1 z hz
theorem Zs9:∀l,(ZAv l).Pairwise (· ≤ ·)
 |[]=> .nil
 |x::l=>Zs8 x _ (Zs9 l)
theorem ZiY:∀{l m:List Int},l.Pairwise (· ≤ ·)→m.Pairwise (· ≤ ·)→l.Perm m→l=m
 |[],[],_,_,_=>rfl
 |[],y::m,_,_,h=>by have:=h.length_eq;simp at this
 |x::l,[],_,_,h=>by have:=h.length_eq;simp at this
 | x ::l,y::m,hl,hm,h=>by
   have hl':=List.pairwise_cons.1 hl
   have hm':=List.pairwise_cons.1 hm
   have h1:x≤y:=by
    rcases List.mem_cons.1 (h.mem_iff.2 (List.mem_cons_self ..)) with e|e
    · omega
    · exact hl'.1 y e
   have h2:y≤x:=by
    rcases List.mem_cons.1 (h.mem_iff.1 (List.mem_cons_self ..)) with e|e
    · omega
    · exact hm'.1 x e
   obtain rfl:x=y:=by omega
   rw [ZiY hl'.2 hm'.2 ((List.perm_cons x).1 h)]
def Zkb (a:Aut) (l:List Int):List Int:=ZAv (Zck a l a.n.toNat)
theorem ZgC (a:Aut) (l:List Int):Za1 a l=Zkb a l:=by
 unfold Za1 Zkb
 have h1:((Zck a l a.n.toNat).mergeSort fun x y=>decide (x≤y)).Pairwise (fun x y=>decide (x≤y)=true):=List.pairwise_mergeSort (fun a b c h1 h2=>by simp only [decide_eq_true_eq] at*;omega) (fun a b=>by simp only [Bool.or_eq_true,decide_eq_true_eq];omega) _
 exact ZiY (h1.imp fun h=>by simpa using h) (Zs9 _) ((List.mergeSort_perm _ _).trans (ZlS _).symm)
def ZAw (a:Aut) (far:List Int) (n:Int) (p:Pf) (c:Nat):List Pf:=if (Zbn (Zkb a (Zb6 a c p.2)) far (n-1)).length=0 then [] else [(p.1++[(c:Int)],Zbn (Zkb a (Zb6 a c p.2)) far (n-1))]
def lvI (a:Aut) (far:List Int) (n:Nat):Nat→List Pf
 |0=>[([],Zbn (Zkb a a.start) far n)]
 |k+1=>(lvI a far n k).flatMap fun p=>(List.range a.syms.toNat).flatMap (ZAw a far ((n:Int)-k) p)
theorem Zta (a:Aut) (n:Nat):∀k,lvP a n k=lvI a (Zcb a) n k
 |0=>by rw [lvP,lvI,ZgC]
 | k +1=>by
   rw [lvP,lvI,Zta a n k]
   have:∀p,Zie a ((n:Int)-k) p=(List.range a.syms.toNat).flatMap (ZAw a (Zcb a) ((n:Int)-k) p):=fun p=>by
    unfold Zie
    have:Zid a ((n:Int)-k) p=ZAw a (Zcb a) ((n:Int)-k) p:=by
     funext c
     unfold Zid ZAw ZaB
     rw [ZgC]
    rw [this]
   exact ZeV fun p _=>this p
def ZAx (a:Aut) (far:List Int) (n k:Nat):List (List Int):=(List.range k).flatMap fun i=>Zou a (lvI a far n i)
theorem Ztb (a:Aut) (n k:Nat):ZiC a n k=ZAx a (Zcb a) n k:=by
 unfold ZiC ZAx
 simp only [Zta]
def ZA9 (a:Aut) (far:List Int) (n:Nat):Bool:=(List.range (n+1)).any (fun k=>decide (2000<(lvI a far n (k+1)).length))||decide (2000<(ZAx a far n (n+1)).length)
theorem Zx1 (a:Aut) (n:Nat):ZAq a n↔ZA9 a (Zcb a) n=true:=by
 unfold ZAq ZA9
 rw [Ztb]
 simp only [Bool.or_eq_true,List.any_eq_true,List.mem_range,decide_eq_true_eq,Zta]
 constructor
 · rintro (⟨k,h1,h2⟩|h)
   · exact .inl ⟨k,by omega,h2⟩
   · exact .inr h
 · rintro (⟨k,h1,h2⟩|h)
   · exact .inl ⟨k,by omega,h2⟩
   · exact .inr h
def Zz1 (a:Aut):Srch (List Int) (List Int):=⟨id,2000,a.syms.toNat,fun _ l s=>Zkb a (Zb6 a (s:Nat) l)⟩
theorem Zx2 (a:Aut):ZfR a=Zz1 a:=by
 unfold ZfR Zz1
 congr 1
 funext _ l s
 unfold ZaB
 rw [ZgC]
theorem Zx3 {a:Aut} {q:List (List Int)×List (List Nat)} (i:Nat) (h:(Zz1 a).upto (Zkb a a.start) i=some q) (hl:q.1.length≤i) (hi:i≤2000):Zgv a=some ⟨a.syms.toNat,q.2,q.1.map (ZdV a)⟩:=by
 unfold Zgv
 rw [Zx2,ZgC,Srch.all_some h hl hi];rfl
theorem Zx4 {a:Aut} {q:List (List Int)×List (List Nat)} {A:Aut} (i:Nat) (h:(Zz1 a).upto (Zkb a a.start) i=some q) (hl:q.1.length≤i) (hi:i≤2000) (hA:Zbz ⟨a.syms.toNat,q.2,q.1.map (ZdV a)⟩=some A):ZcS a= .ok A:=by
 unfold ZcS
 rw [Zx3 i h hl hi]
 dsimp only
 rw [hA];rfl
theorem Zvv {a b A B:Aut} {q:List ((Nat×Nat)×(Int×Int))×List (List Nat)} (i:Nat) (ha:ZcS a= .ok A) (hb:ZcS b= .ok B) (h:(Zbe A B).upto ((0,0),(-1,-1)) i=some q) (hl:q.1.length≤i) (hi:i≤2000):ZfS a b= .ok (A,B,q):=by
 unfold ZfS
 rw [ha,hb]
 dsimp only
 rw [show prodQ A B=some q from Srch.all_some h hl hi]
theorem Zx5 {a b A B:Aut} {q:List ((Nat×Nat)×(Int×Int))×List (List Nat)} {op:Int} (hf:Zdl a b=0) (h:ZfS a b= .ok (A,B,q)):cmpX a b op=((ZjM A B op q).1,(ZjM A B op q).2,0):=by
 unfold cmpX
 rw [if_neg (fun h=>h hf),h]
theorem Zx6 {a b:Aut} (h1:a.n=b.n) (h2:a.syms=b.syms) (h3:a.start=b.start) (h4:a.fin=b.fin) (h5:a.moves=b.moves):a=b:=by
 cases a;cases b;simp_all
instance:DecidableEq Aut:=fun a b=>if h:a.n=b.n∧a.syms=b.syms∧a.start=b.start∧a.fin=b.fin∧a.moves=b.moves then .isTrue (Zx6 h.1 h.2.1 h.2.2.1 h.2.2.2.1 h.2.2.2.2) else .isFalse fun e=>h (by subst e;exact ⟨rfl,rfl,rfl,rfl,rfl⟩)
def ZeN (a:Aut):List PV:=[pInt a.n,pInt a.syms,pInts a.start,pInts a.fin,pMvs a.moves]
theorem ZbQ (a:Aut):(ZeN a).length=5:=rfl
theorem Ztc {a:Aut} (h:ζ5 a=false):ZeW a= .error 1:=by unfold ZeW;rw [h];rfl
theorem Zvw {a:Aut} (h:ζ5 a=true):ZeW a=ZdG (ZdH a):=by unfold ZeW;rw [h];rfl
def Zil (n:Int) (l:List Int):List Mv:=l.map fun s=>⟨n,s,-1⟩
def Ztd (n:Int) (l:List Int):List Mv:=l.map fun s=>⟨s,n,-1⟩
theorem Zte (n:Int) {l:List Int} {k:Nat} {x:Int} (h:l[k]? =some x):Zil n (l.take (k+1))=Zil n (l.take k)++[⟨n,x,-1⟩]:=by unfold Zil;rw [ζH h,List.map_append];rfl
theorem Ztf (n:Int) {l:List Int} {k:Nat} {x:Int} (h:l[k]? =some x):Ztd n (l.take (k+1))=Ztd n (l.take k)++[⟨x,n,-1⟩]:=by unfold Ztd;rw [ζH h,List.map_append];rfl
theorem Zqv (a:Aut):(ZdH a).moves=a.moves++Zil a.n a.start++Ztd a.n a.fin:=rfl
theorem Zph {a:Aut} (h:AOk a):(ZdH a).moves.length≤1000000:=by
 rw [Zqv,List.length_append,List.length_append]
 unfold Zil Ztd
 rw [List.length_map,List.length_map]
 have:=h.ml;have:=h.sl;have:=h.fl
 omega
theorem Ztg (a:Aut) (hv:ζ5 a=false):AF Tryz.prog 90 [ζW a] (· = .tup [Zia,pInt 1]):=by
 refine AF.of_body 64 Tryz.func90 rfl Tryz.ntmps90 (Nat.le_of_ble_eq_true rfl) ?_
 intro w0 M0 vs hl hv
 obtain ⟨v0,rfl⟩:=ZdL hl
 clear hl hv
 refine nav ?_
 (refine ζa ?_<;>refine ζE 1 5 fun h1=>?_<;>refine ζr [(.int .i64 0),(.int .i64 0),(.slice none 0 0),(.slice none 0 0),(.slice none 0 0)] 5 2 ζz fun h2=>?_<;>refine xL 3 ζc ?_<;>refine ζb (nav ?_)<;>try dsimp only)
 (refine ζa ?_<;>(refine yL 10 (ζp 1 ζg) fun v10 h=>?_;cases h)<;>(refine cS 11 (cA Tryz.call107 (ZaI a)) fun v11 h=>?_;cases h)<;>refine xL 12 Zak ?_<;>refine ζb (nav ?_)<;>try dsimp only)
 (first|refine cCd ?_ ?_|refine cC ?_ ?_)<;>intro hb12
 · refine nav ?_
   (refine ζa ?_<;>refine xL 13 (ζB ζK) ?_<;>refine ζC 2 ζg ?_<;>refine xL 3 ζc ?_<;>refine ζb (nav ?_)<;>try dsimp only)
   exact ζ6 (k:=5) 2 (by kernel_rfl) (Tryz.results90) rfl rfl rfl (Nat.le_of_ble_eq_true rfl) (by decide) rfl rfl
 · rw [hv] at hb12;simp at hb12
set_option maxHeartbeats 1000000 in
theorem Zx7 (a:Aut) (hv:ζ5 a=true) {p0 p1 p2 p3 p4:PV} {E:Int} (r5:R5 p0 p1 p2 p3 p4) (hr:AF Tryz.prog 132 [ζW (mkA (ZdH a))] (· = .tup [.agg [p0,p1,p2,p3,p4],pInt E])):AF Tryz.prog 90 [ζW a] (· = .tup [.agg [p0,p1,p2,p3,p4],pInt E]):=by
 obtain ⟨o0,o1,o2,o3,o4⟩:=r5.o
 have h:=ZbA hv
 have hn0:=h.n0
 have hn1:=h.n1
 have hml:=h.ml
 have hsl:=h.sl
 have hfl:=h.fl
 refine AF.of_body 64 Tryz.func90 rfl Tryz.ntmps90 (Nat.le_of_ble_eq_true rfl) ?_
 intro w0 M0 vs hl hv
 obtain ⟨v0,rfl⟩:=ZdL hl
 clear hl hv
 refine nav ?_
 (refine ζa ?_<;>refine ζE 1 5 fun h1=>?_<;>refine ζr [(.int .i64 0),(.int .i64 0),(.slice none 0 0),(.slice none 0 0),(.slice none 0 0)] 5 2 ζz fun h2=>?_<;>refine xL 3 ζc ?_<;>refine ζb (nav ?_)<;>try dsimp only)
 (refine ζa ?_<;>(refine yL 10 (ζp 1 ζg) fun v10 h=>?_;cases h)<;>(refine cS 11 (cA Tryz.call107 (ZaI a)) fun v11 h=>?_;cases h)<;>refine xL 12 Zak ?_<;>refine ζb (nav ?_)<;>try dsimp only)
 (first|refine cCd ?_ ?_|refine cC ?_ ?_)<;>intro hb12
 · rw [hv] at hb12;simp at hb12
 · refine nav ?_
   (refine ζa ?_<;>refine xL 14 (ζh 1 ζP) ?_<;>(refine yL 15 (ζs 1 ζj) fun v15 h=>?_;cases h)<;>refine xL 4 ζc ?_<;>refine ζb (nav ?_)<;>try dsimp only)
   refine Zrd (fun x:{x:Value×Value//x.1.oneCell'=true}=>⟨[(1,padd (sbase h1) 0, .val (padd (sbase h1) 0)),(2,padd (sbase h2) 0, .val (padd (sbase h2) 0)),(4, .int .i64 a.n,pInt a.n),(5,padd (sbase x.1.2) 0, .val (padd (sbase x.1.2) 0))],[(1,h1, .own 39 5 1 [pInt a.n,pInt a.syms,pInts a.start,pInts a.fin,pMvs a.moves]),(2,h2, .own 39 5 1 [pInt 0,pInt 0, .val (.slice none 0 0), .val (.slice none 0 0), .val (.slice none 0 0)]),(5,x.1.2, .own 39 5 1 [pInt (a.n+1),pInt a.syms,pInts [a.n],pInts [a.n], .val x.1.1]),(26,x.1.1, .own 93 3 a.moves.length (a.moves.flatMap cMv))]⟩) ?_ ?_
   · (refine ζ4 (fun i=>([]:List Nat).elem i) [1] (by kernel_rfl) ?_<;>refine xD 0 16 rfl ζd ?_<;>refine xD 1 17 rfl ζM ?_<;>refine xD 2 18 rfl (ζh 1 ζ2) ?_<;>(refine yD 3 19 rfl (ζs 1 ζj) fun v19 h=>?_;cases h)<;>refine xD 4 20 rfl ζd ?_<;>refine xD 6 22 rfl ζd ?_<;>refine xD 8 24 rfl (ζh 1 ζw) ?_<;>(refine yD 9 25 rfl (ζs 1 ζA) fun v25 h=>?_;cases h)<;>(refine Zxh 5 7 10 12 (by kernel_rfl) ?_ ?_ ?_ ?_;rotate_right;(focus ((refine ζk rfl fun w9 M9 N9 DQ back=>?_)<;>refine ζr [(.int .i64 0),(.int .i64 0),(.slice none 0 0),(.slice none 0 0),(.slice none 0 0)] 5 5 ζz fun h5=>?_<;>refine ζb (back _ (nrm ?_))<;>(refine Zei 5 7 10 (by kernel_rfl) ?_ ?_ ?_;rotate_right;(focus ((refine ζk rfl fun w9 M9 N9 DQ back=>?_)<;>refine cO 26 (cA Tryz.call138 (Zai a.moves (by omega))) fun v26 ho26=>?_<;>refine ζb (back _ (nrm ?_))<;>(refine Za0 5 7 (by kernel_rfl) ?_ ?_;rotate_right;(focus ((refine ζk rfl fun w9 M9 N9 DQ back=>?_)<;>(refine ζI (kk:=1) 23 ζi fun h23 ho23=>?_;refine ζq (En.freeze (l:=23) (t:=23) rfl rfl) fun _=>?_;rw [show share (PV.own 3 1 1 [PV.val (.int .i64 a.n)])=pInts [a.n] from rfl])<;>refine ζb (back _ (nrm ?_))<;>(refine ζo 5 (by kernel_rfl) ?_)<;>(refine ζk rfl fun w9 M9 N9 DQ back=>?_)<;>(refine ζI (kk:=1) 21 ζi fun h21 ho21=>?_;refine ζq (En.freeze (l:=21) (t:=21) rfl rfl) fun _=>?_;rw [show share (PV.own 3 1 1 [PV.val (.int .i64 a.n)])=pInts [a.n] from rfl])<;>refine ζb (back _ (nrm ?_))<;>refine xE 11 27 rfl (ζB ζK) ?_<;>(refine ζo 13 (by kernel_rfl) ?_)<;>(refine ζk rfl fun w9 M9 N9 DQ back=>?_)<;>(refine ζC 5 (m:=5) (by kernel_rfl) ?_ (h1:=by show (List.all [pInt (a.n+1),pInt a.syms,pInts [a.n],pInts [a.n],PV.val v26] En.one)=true;simp only [List.all_cons,List.all_nil,Bool.and_true,Bool.and_eq_true];exact ⟨rfl,rfl,rfl,rfl,ho26⟩))<;>refine ζb (back _ (nrm ?_))));rotate_right;(focus ((refine ζk rfl fun w9 M9 N9 DQ back=>?_)<;>(refine ζI (kk:=1) 21 ζi fun h21 ho21=>?_;refine ζq (En.freeze (l:=21) (t:=21) rfl rfl) fun _=>?_;rw [show share (PV.own 3 1 1 [PV.val (.int .i64 a.n)])=pInts [a.n] from rfl])<;>refine ζb (back _ (nrm ?_))<;>(refine ζo 7 (by kernel_rfl) ?_)<;>(refine ζk rfl fun w9 M9 N9 DQ back=>?_)<;>(refine ζI (kk:=1) 23 ζi fun h23 ho23=>?_;refine ζq (En.freeze (l:=23) (t:=23) rfl rfl) fun _=>?_;rw [show share (PV.own 3 1 1 [PV.val (.int .i64 a.n)])=pInts [a.n] from rfl])<;>refine ζb (back _ (nrm ?_))<;>refine xE 11 27 rfl (ζB ζK) ?_<;>(refine ζo 13 (by kernel_rfl) ?_)<;>(refine ζk rfl fun w9 M9 N9 DQ back=>?_)<;>(refine ζC 5 (m:=5) (by kernel_rfl) ?_ (h1:=by show (List.all [pInt (a.n+1),pInt a.syms,pInts [a.n],pInts [a.n],PV.val v26] En.one)=true;simp only [List.all_cons,List.all_nil,Bool.and_true,Bool.and_eq_true];exact ⟨rfl,rfl,rfl,rfl,ho26⟩))<;>refine ζb (back _ (nrm ?_)))))));rotate_right;(focus ((refine ζk rfl fun w9 M9 N9 DQ back=>?_)<;>(refine ζI (kk:=1) 23 ζi fun h23 ho23=>?_;refine ζq (En.freeze (l:=23) (t:=23) rfl rfl) fun _=>?_;rw [show share (PV.own 3 1 1 [PV.val (.int .i64 a.n)])=pInts [a.n] from rfl])<;>refine ζb (back _ (nrm ?_))<;>(refine Za0 5 10 (by kernel_rfl) ?_ ?_;rotate_right;(focus ((refine ζk rfl fun w9 M9 N9 DQ back=>?_)<;>refine cO 26 (cA Tryz.call138 (Zai a.moves (by omega))) fun v26 ho26=>?_<;>refine ζb (back _ (nrm ?_))<;>(refine ζo 5 (by kernel_rfl) ?_)<;>(refine ζk rfl fun w9 M9 N9 DQ back=>?_)<;>(refine ζI (kk:=1) 21 ζi fun h21 ho21=>?_;refine ζq (En.freeze (l:=21) (t:=21) rfl rfl) fun _=>?_;rw [show share (PV.own 3 1 1 [PV.val (.int .i64 a.n)])=pInts [a.n] from rfl])<;>refine ζb (back _ (nrm ?_))<;>refine xE 11 27 rfl (ζB ζK) ?_<;>(refine ζo 13 (by kernel_rfl) ?_)<;>(refine ζk rfl fun w9 M9 N9 DQ back=>?_)<;>(refine ζC 5 (m:=5) (by kernel_rfl) ?_ (h1:=by show (List.all [pInt (a.n+1),pInt a.syms,pInts [a.n],pInts [a.n],PV.val v26] En.one)=true;simp only [List.all_cons,List.all_nil,Bool.and_true,Bool.and_eq_true];exact ⟨rfl,rfl,rfl,rfl,ho26⟩))<;>refine ζb (back _ (nrm ?_))));rotate_right;(focus ((refine ζk rfl fun w9 M9 N9 DQ back=>?_)<;>(refine ζI (kk:=1) 21 ζi fun h21 ho21=>?_;refine ζq (En.freeze (l:=21) (t:=21) rfl rfl) fun _=>?_;rw [show share (PV.own 3 1 1 [PV.val (.int .i64 a.n)])=pInts [a.n] from rfl])<;>refine ζb (back _ (nrm ?_))<;>(refine ζo 10 (by kernel_rfl) ?_)<;>(refine ζk rfl fun w9 M9 N9 DQ back=>?_)<;>refine cO 26 (cA Tryz.call138 (Zai a.moves (by omega))) fun v26 ho26=>?_<;>refine ζb (back _ (nrm ?_))<;>refine xE 11 27 rfl (ζB ζK) ?_<;>(refine ζo 13 (by kernel_rfl) ?_)<;>(refine ζk rfl fun w9 M9 N9 DQ back=>?_)<;>(refine ζC 5 (m:=5) (by kernel_rfl) ?_ (h1:=by show (List.all [pInt (a.n+1),pInt a.syms,pInts [a.n],pInts [a.n],PV.val v26] En.one)=true;simp only [List.all_cons,List.all_nil,Bool.and_true,Bool.and_eq_true];exact ⟨rfl,rfl,rfl,rfl,ho26⟩))<;>refine ζb (back _ (nrm ?_)))))));rotate_right;(focus ((refine ζk rfl fun w9 M9 N9 DQ back=>?_)<;>(refine ζI (kk:=1) 21 ζi fun h21 ho21=>?_;refine ζq (En.freeze (l:=21) (t:=21) rfl rfl) fun _=>?_;rw [show share (PV.own 3 1 1 [PV.val (.int .i64 a.n)])=pInts [a.n] from rfl])<;>refine ζb (back _ (nrm ?_))<;>(refine Za0 7 10 (by kernel_rfl) ?_ ?_;rotate_right;(focus ((refine ζk rfl fun w9 M9 N9 DQ back=>?_)<;>refine cO 26 (cA Tryz.call138 (Zai a.moves (by omega))) fun v26 ho26=>?_<;>refine ζb (back _ (nrm ?_))<;>(refine ζo 7 (by kernel_rfl) ?_)<;>(refine ζk rfl fun w9 M9 N9 DQ back=>?_)<;>(refine ζI (kk:=1) 23 ζi fun h23 ho23=>?_;refine ζq (En.freeze (l:=23) (t:=23) rfl rfl) fun _=>?_;rw [show share (PV.own 3 1 1 [PV.val (.int .i64 a.n)])=pInts [a.n] from rfl])<;>refine ζb (back _ (nrm ?_))<;>refine xE 11 27 rfl (ζB ζK) ?_<;>(refine ζo 13 (by kernel_rfl) ?_)<;>(refine ζk rfl fun w9 M9 N9 DQ back=>?_)<;>(refine ζC 5 (m:=5) (by kernel_rfl) ?_ (h1:=by show (List.all [pInt (a.n+1),pInt a.syms,pInts [a.n],pInts [a.n],PV.val v26] En.one)=true;simp only [List.all_cons,List.all_nil,Bool.and_true,Bool.and_eq_true];exact ⟨rfl,rfl,rfl,rfl,ho26⟩))<;>refine ζb (back _ (nrm ?_))));rotate_right;(focus ((refine ζk rfl fun w9 M9 N9 DQ back=>?_)<;>(refine ζI (kk:=1) 23 ζi fun h23 ho23=>?_;refine ζq (En.freeze (l:=23) (t:=23) rfl rfl) fun _=>?_;rw [show share (PV.own 3 1 1 [PV.val (.int .i64 a.n)])=pInts [a.n] from rfl])<;>refine ζb (back _ (nrm ?_))<;>(refine ζo 10 (by kernel_rfl) ?_)<;>(refine ζk rfl fun w9 M9 N9 DQ back=>?_)<;>refine cO 26 (cA Tryz.call138 (Zai a.moves (by omega))) fun v26 ho26=>?_<;>refine ζb (back _ (nrm ?_))<;>refine xE 11 27 rfl (ζB ζK) ?_<;>(refine ζo 13 (by kernel_rfl) ?_)<;>(refine ζk rfl fun w9 M9 N9 DQ back=>?_)<;>(refine ζC 5 (m:=5) (by kernel_rfl) ?_ (h1:=by show (List.all [pInt (a.n+1),pInt a.syms,pInts [a.n],pInts [a.n],PV.val v26] En.one)=true;simp only [List.all_cons,List.all_nil,Bool.and_true,Bool.and_eq_true];exact ⟨rfl,rfl,rfl,rfl,ho26⟩))<;>refine ζb (back _ (nrm ?_))))))))));rotate_right;(focus ((refine ζk rfl fun w9 M9 N9 DQ back=>?_)<;>refine cO 26 (cA Tryz.call138 (Zai a.moves (by omega))) fun v26 ho26=>?_<;>refine ζb (back _ (nrm ?_))<;>(refine Zei 5 7 12 (by kernel_rfl) ?_ ?_ ?_;rotate_right;(focus ((refine ζk rfl fun w9 M9 N9 DQ back=>?_)<;>refine ζr [(.int .i64 0),(.int .i64 0),(.slice none 0 0),(.slice none 0 0),(.slice none 0 0)] 5 5 ζz fun h5=>?_<;>refine ζb (back _ (nrm ?_))<;>(refine Za0 5 7 (by kernel_rfl) ?_ ?_;rotate_right;(focus ((refine ζk rfl fun w9 M9 N9 DQ back=>?_)<;>(refine ζI (kk:=1) 23 ζi fun h23 ho23=>?_;refine ζq (En.freeze (l:=23) (t:=23) rfl rfl) fun _=>?_;rw [show share (PV.own 3 1 1 [PV.val (.int .i64 a.n)])=pInts [a.n] from rfl])<;>refine ζb (back _ (nrm ?_))<;>(refine ζo 5 (by kernel_rfl) ?_)<;>(refine ζk rfl fun w9 M9 N9 DQ back=>?_)<;>(refine ζI (kk:=1) 21 ζi fun h21 ho21=>?_;refine ζq (En.freeze (l:=21) (t:=21) rfl rfl) fun _=>?_;rw [show share (PV.own 3 1 1 [PV.val (.int .i64 a.n)])=pInts [a.n] from rfl])<;>refine ζb (back _ (nrm ?_))<;>refine xE 11 27 rfl (ζB ζK) ?_<;>(refine ζo 13 (by kernel_rfl) ?_)<;>(refine ζk rfl fun w9 M9 N9 DQ back=>?_)<;>(refine ζC 5 (m:=5) (by kernel_rfl) ?_ (h1:=by show (List.all [pInt (a.n+1),pInt a.syms,pInts [a.n],pInts [a.n],PV.val v26] En.one)=true;simp only [List.all_cons,List.all_nil,Bool.and_true,Bool.and_eq_true];exact ⟨rfl,rfl,rfl,rfl,ho26⟩))<;>refine ζb (back _ (nrm ?_))));rotate_right;(focus ((refine ζk rfl fun w9 M9 N9 DQ back=>?_)<;>(refine ζI (kk:=1) 21 ζi fun h21 ho21=>?_;refine ζq (En.freeze (l:=21) (t:=21) rfl rfl) fun _=>?_;rw [show share (PV.own 3 1 1 [PV.val (.int .i64 a.n)])=pInts [a.n] from rfl])<;>refine ζb (back _ (nrm ?_))<;>(refine ζo 7 (by kernel_rfl) ?_)<;>(refine ζk rfl fun w9 M9 N9 DQ back=>?_)<;>(refine ζI (kk:=1) 23 ζi fun h23 ho23=>?_;refine ζq (En.freeze (l:=23) (t:=23) rfl rfl) fun _=>?_;rw [show share (PV.own 3 1 1 [PV.val (.int .i64 a.n)])=pInts [a.n] from rfl])<;>refine ζb (back _ (nrm ?_))<;>refine xE 11 27 rfl (ζB ζK) ?_<;>(refine ζo 13 (by kernel_rfl) ?_)<;>(refine ζk rfl fun w9 M9 N9 DQ back=>?_)<;>(refine ζC 5 (m:=5) (by kernel_rfl) ?_ (h1:=by show (List.all [pInt (a.n+1),pInt a.syms,pInts [a.n],pInts [a.n],PV.val v26] En.one)=true;simp only [List.all_cons,List.all_nil,Bool.and_true,Bool.and_eq_true];exact ⟨rfl,rfl,rfl,rfl,ho26⟩))<;>refine ζb (back _ (nrm ?_)))))));rotate_right;(focus ((refine ζk rfl fun w9 M9 N9 DQ back=>?_)<;>(refine ζI (kk:=1) 23 ζi fun h23 ho23=>?_;refine ζq (En.freeze (l:=23) (t:=23) rfl rfl) fun _=>?_;rw [show share (PV.own 3 1 1 [PV.val (.int .i64 a.n)])=pInts [a.n] from rfl])<;>refine ζb (back _ (nrm ?_))<;>(refine Za0 5 12 (by kernel_rfl) ?_ ?_;rotate_right;(focus ((refine ζk rfl fun w9 M9 N9 DQ back=>?_)<;>refine ζr [(.int .i64 0),(.int .i64 0),(.slice none 0 0),(.slice none 0 0),(.slice none 0 0)] 5 5 ζz fun h5=>?_<;>refine ζb (back _ (nrm ?_))<;>(refine ζo 5 (by kernel_rfl) ?_)<;>(refine ζk rfl fun w9 M9 N9 DQ back=>?_)<;>(refine ζI (kk:=1) 21 ζi fun h21 ho21=>?_;refine ζq (En.freeze (l:=21) (t:=21) rfl rfl) fun _=>?_;rw [show share (PV.own 3 1 1 [PV.val (.int .i64 a.n)])=pInts [a.n] from rfl])<;>refine ζb (back _ (nrm ?_))<;>refine xE 11 27 rfl (ζB ζK) ?_<;>(refine ζo 13 (by kernel_rfl) ?_)<;>(refine ζk rfl fun w9 M9 N9 DQ back=>?_)<;>(refine ζC 5 (m:=5) (by kernel_rfl) ?_ (h1:=by show (List.all [pInt (a.n+1),pInt a.syms,pInts [a.n],pInts [a.n],PV.val v26] En.one)=true;simp only [List.all_cons,List.all_nil,Bool.and_true,Bool.and_eq_true];exact ⟨rfl,rfl,rfl,rfl,ho26⟩))<;>refine ζb (back _ (nrm ?_))));rotate_right;(focus ((refine ζk rfl fun w9 M9 N9 DQ back=>?_)<;>(refine ζI (kk:=1) 21 ζi fun h21 ho21=>?_;refine ζq (En.freeze (l:=21) (t:=21) rfl rfl) fun _=>?_;rw [show share (PV.own 3 1 1 [PV.val (.int .i64 a.n)])=pInts [a.n] from rfl])<;>refine ζb (back _ (nrm ?_))<;>refine xD 11 27 rfl (ζB ζK) ?_<;>(refine ζo 12 (by kernel_rfl) ?_)<;>(refine ζk rfl fun w9 M9 N9 DQ back=>?_)<;>refine ζr [(.int .i64 0),(.int .i64 0),(.slice none 0 0),(.slice none 0 0),(.slice none 0 0)] 5 5 ζz fun h5=>?_<;>refine ζb (back _ (nrm ?_))<;>(refine ζo 13 (by kernel_rfl) ?_)<;>(refine ζk rfl fun w9 M9 N9 DQ back=>?_)<;>(refine ζC 5 (m:=5) (by kernel_rfl) ?_ (h1:=by show (List.all [pInt (a.n+1),pInt a.syms,pInts [a.n],pInts [a.n],PV.val v26] En.one)=true;simp only [List.all_cons,List.all_nil,Bool.and_true,Bool.and_eq_true];exact ⟨rfl,rfl,rfl,rfl,ho26⟩))<;>refine ζb (back _ (nrm ?_)))))));rotate_right;(focus ((refine ζk rfl fun w9 M9 N9 DQ back=>?_)<;>(refine ζI (kk:=1) 21 ζi fun h21 ho21=>?_;refine ζq (En.freeze (l:=21) (t:=21) rfl rfl) fun _=>?_;rw [show share (PV.own 3 1 1 [PV.val (.int .i64 a.n)])=pInts [a.n] from rfl])<;>refine ζb (back _ (nrm ?_))<;>(refine Za0 7 12 (by kernel_rfl) ?_ ?_;rotate_right;(focus ((refine ζk rfl fun w9 M9 N9 DQ back=>?_)<;>refine ζr [(.int .i64 0),(.int .i64 0),(.slice none 0 0),(.slice none 0 0),(.slice none 0 0)] 5 5 ζz fun h5=>?_<;>refine ζb (back _ (nrm ?_))<;>(refine ζo 7 (by kernel_rfl) ?_)<;>(refine ζk rfl fun w9 M9 N9 DQ back=>?_)<;>(refine ζI (kk:=1) 23 ζi fun h23 ho23=>?_;refine ζq (En.freeze (l:=23) (t:=23) rfl rfl) fun _=>?_;rw [show share (PV.own 3 1 1 [PV.val (.int .i64 a.n)])=pInts [a.n] from rfl])<;>refine ζb (back _ (nrm ?_))<;>refine xE 11 27 rfl (ζB ζK) ?_<;>(refine ζo 13 (by kernel_rfl) ?_)<;>(refine ζk rfl fun w9 M9 N9 DQ back=>?_)<;>(refine ζC 5 (m:=5) (by kernel_rfl) ?_ (h1:=by show (List.all [pInt (a.n+1),pInt a.syms,pInts [a.n],pInts [a.n],PV.val v26] En.one)=true;simp only [List.all_cons,List.all_nil,Bool.and_true,Bool.and_eq_true];exact ⟨rfl,rfl,rfl,rfl,ho26⟩))<;>refine ζb (back _ (nrm ?_))));rotate_right;(focus ((refine ζk rfl fun w9 M9 N9 DQ back=>?_)<;>(refine ζI (kk:=1) 23 ζi fun h23 ho23=>?_;refine ζq (En.freeze (l:=23) (t:=23) rfl rfl) fun _=>?_;rw [show share (PV.own 3 1 1 [PV.val (.int .i64 a.n)])=pInts [a.n] from rfl])<;>refine ζb (back _ (nrm ?_))<;>refine xD 11 27 rfl (ζB ζK) ?_<;>(refine ζo 12 (by kernel_rfl) ?_)<;>(refine ζk rfl fun w9 M9 N9 DQ back=>?_)<;>refine ζr [(.int .i64 0),(.int .i64 0),(.slice none 0 0),(.slice none 0 0),(.slice none 0 0)] 5 5 ζz fun h5=>?_<;>refine ζb (back _ (nrm ?_))<;>(refine ζo 13 (by kernel_rfl) ?_)<;>(refine ζk rfl fun w9 M9 N9 DQ back=>?_)<;>(refine ζC 5 (m:=5) (by kernel_rfl) ?_ (h1:=by show (List.all [pInt (a.n+1),pInt a.syms,pInts [a.n],pInts [a.n],PV.val v26] En.one)=true;simp only [List.all_cons,List.all_nil,Bool.and_true,Bool.and_eq_true];exact ⟨rfl,rfl,rfl,rfl,ho26⟩))<;>refine ζb (back _ (nrm ?_))))))))));rotate_right;(focus ((refine ζk rfl fun w9 M9 N9 DQ back=>?_)<;>(refine ζI (kk:=1) 23 ζi fun h23 ho23=>?_;refine ζq (En.freeze (l:=23) (t:=23) rfl rfl) fun _=>?_;rw [show share (PV.own 3 1 1 [PV.val (.int .i64 a.n)])=pInts [a.n] from rfl])<;>refine ζb (back _ (nrm ?_))<;>(refine Zei 5 10 12 (by kernel_rfl) ?_ ?_ ?_;rotate_right;(focus ((refine ζk rfl fun w9 M9 N9 DQ back=>?_)<;>refine ζr [(.int .i64 0),(.int .i64 0),(.slice none 0 0),(.slice none 0 0),(.slice none 0 0)] 5 5 ζz fun h5=>?_<;>refine ζb (back _ (nrm ?_))<;>(refine Za0 5 10 (by kernel_rfl) ?_ ?_;rotate_right;(focus ((refine ζk rfl fun w9 M9 N9 DQ back=>?_)<;>refine cO 26 (cA Tryz.call138 (Zai a.moves (by omega))) fun v26 ho26=>?_<;>refine ζb (back _ (nrm ?_))<;>(refine ζo 5 (by kernel_rfl) ?_)<;>(refine ζk rfl fun w9 M9 N9 DQ back=>?_)<;>(refine ζI (kk:=1) 21 ζi fun h21 ho21=>?_;refine ζq (En.freeze (l:=21) (t:=21) rfl rfl) fun _=>?_;rw [show share (PV.own 3 1 1 [PV.val (.int .i64 a.n)])=pInts [a.n] from rfl])<;>refine ζb (back _ (nrm ?_))<;>refine xE 11 27 rfl (ζB ζK) ?_<;>(refine ζo 13 (by kernel_rfl) ?_)<;>(refine ζk rfl fun w9 M9 N9 DQ back=>?_)<;>(refine ζC 5 (m:=5) (by kernel_rfl) ?_ (h1:=by show (List.all [pInt (a.n+1),pInt a.syms,pInts [a.n],pInts [a.n],PV.val v26] En.one)=true;simp only [List.all_cons,List.all_nil,Bool.and_true,Bool.and_eq_true];exact ⟨rfl,rfl,rfl,rfl,ho26⟩))<;>refine ζb (back _ (nrm ?_))));rotate_right;(focus ((refine ζk rfl fun w9 M9 N9 DQ back=>?_)<;>(refine ζI (kk:=1) 21 ζi fun h21 ho21=>?_;refine ζq (En.freeze (l:=21) (t:=21) rfl rfl) fun _=>?_;rw [show share (PV.own 3 1 1 [PV.val (.int .i64 a.n)])=pInts [a.n] from rfl])<;>refine ζb (back _ (nrm ?_))<;>(refine ζo 10 (by kernel_rfl) ?_)<;>(refine ζk rfl fun w9 M9 N9 DQ back=>?_)<;>refine cO 26 (cA Tryz.call138 (Zai a.moves (by omega))) fun v26 ho26=>?_<;>refine ζb (back _ (nrm ?_))<;>refine xE 11 27 rfl (ζB ζK) ?_<;>(refine ζo 13 (by kernel_rfl) ?_)<;>(refine ζk rfl fun w9 M9 N9 DQ back=>?_)<;>(refine ζC 5 (m:=5) (by kernel_rfl) ?_ (h1:=by show (List.all [pInt (a.n+1),pInt a.syms,pInts [a.n],pInts [a.n],PV.val v26] En.one)=true;simp only [List.all_cons,List.all_nil,Bool.and_true,Bool.and_eq_true];exact ⟨rfl,rfl,rfl,rfl,ho26⟩))<;>refine ζb (back _ (nrm ?_)))))));rotate_right;(focus ((refine ζk rfl fun w9 M9 N9 DQ back=>?_)<;>refine cO 26 (cA Tryz.call138 (Zai a.moves (by omega))) fun v26 ho26=>?_<;>refine ζb (back _ (nrm ?_))<;>(refine Za0 5 12 (by kernel_rfl) ?_ ?_;rotate_right;(focus ((refine ζk rfl fun w9 M9 N9 DQ back=>?_)<;>refine ζr [(.int .i64 0),(.int .i64 0),(.slice none 0 0),(.slice none 0 0),(.slice none 0 0)] 5 5 ζz fun h5=>?_<;>refine ζb (back _ (nrm ?_))<;>(refine ζo 5 (by kernel_rfl) ?_)<;>(refine ζk rfl fun w9 M9 N9 DQ back=>?_)<;>(refine ζI (kk:=1) 21 ζi fun h21 ho21=>?_;refine ζq (En.freeze (l:=21) (t:=21) rfl rfl) fun _=>?_;rw [show share (PV.own 3 1 1 [PV.val (.int .i64 a.n)])=pInts [a.n] from rfl])<;>refine ζb (back _ (nrm ?_))<;>refine xE 11 27 rfl (ζB ζK) ?_<;>(refine ζo 13 (by kernel_rfl) ?_)<;>(refine ζk rfl fun w9 M9 N9 DQ back=>?_)<;>(refine ζC 5 (m:=5) (by kernel_rfl) ?_ (h1:=by show (List.all [pInt (a.n+1),pInt a.syms,pInts [a.n],pInts [a.n],PV.val v26] En.one)=true;simp only [List.all_cons,List.all_nil,Bool.and_true,Bool.and_eq_true];exact ⟨rfl,rfl,rfl,rfl,ho26⟩))<;>refine ζb (back _ (nrm ?_))));rotate_right;(focus ((refine ζk rfl fun w9 M9 N9 DQ back=>?_)<;>(refine ζI (kk:=1) 21 ζi fun h21 ho21=>?_;refine ζq (En.freeze (l:=21) (t:=21) rfl rfl) fun _=>?_;rw [show share (PV.own 3 1 1 [PV.val (.int .i64 a.n)])=pInts [a.n] from rfl])<;>refine ζb (back _ (nrm ?_))<;>refine xD 11 27 rfl (ζB ζK) ?_<;>(refine ζo 12 (by kernel_rfl) ?_)<;>(refine ζk rfl fun w9 M9 N9 DQ back=>?_)<;>refine ζr [(.int .i64 0),(.int .i64 0),(.slice none 0 0),(.slice none 0 0),(.slice none 0 0)] 5 5 ζz fun h5=>?_<;>refine ζb (back _ (nrm ?_))<;>(refine ζo 13 (by kernel_rfl) ?_)<;>(refine ζk rfl fun w9 M9 N9 DQ back=>?_)<;>(refine ζC 5 (m:=5) (by kernel_rfl) ?_ (h1:=by show (List.all [pInt (a.n+1),pInt a.syms,pInts [a.n],pInts [a.n],PV.val v26] En.one)=true;simp only [List.all_cons,List.all_nil,Bool.and_true,Bool.and_eq_true];exact ⟨rfl,rfl,rfl,rfl,ho26⟩))<;>refine ζb (back _ (nrm ?_)))))));rotate_right;(focus ((refine ζk rfl fun w9 M9 N9 DQ back=>?_)<;>(refine ζI (kk:=1) 21 ζi fun h21 ho21=>?_;refine ζq (En.freeze (l:=21) (t:=21) rfl rfl) fun _=>?_;rw [show share (PV.own 3 1 1 [PV.val (.int .i64 a.n)])=pInts [a.n] from rfl])<;>refine ζb (back _ (nrm ?_))<;>(refine Za0 10 12 (by kernel_rfl) ?_ ?_;rotate_right;(focus ((refine ζk rfl fun w9 M9 N9 DQ back=>?_)<;>refine ζr [(.int .i64 0),(.int .i64 0),(.slice none 0 0),(.slice none 0 0),(.slice none 0 0)] 5 5 ζz fun h5=>?_<;>refine ζb (back _ (nrm ?_))<;>(refine ζo 10 (by kernel_rfl) ?_)<;>(refine ζk rfl fun w9 M9 N9 DQ back=>?_)<;>refine cO 26 (cA Tryz.call138 (Zai a.moves (by omega))) fun v26 ho26=>?_<;>refine ζb (back _ (nrm ?_))<;>refine xE 11 27 rfl (ζB ζK) ?_<;>(refine ζo 13 (by kernel_rfl) ?_)<;>(refine ζk rfl fun w9 M9 N9 DQ back=>?_)<;>(refine ζC 5 (m:=5) (by kernel_rfl) ?_ (h1:=by show (List.all [pInt (a.n+1),pInt a.syms,pInts [a.n],pInts [a.n],PV.val v26] En.one)=true;simp only [List.all_cons,List.all_nil,Bool.and_true,Bool.and_eq_true];exact ⟨rfl,rfl,rfl,rfl,ho26⟩))<;>refine ζb (back _ (nrm ?_))));rotate_right;(focus ((refine ζk rfl fun w9 M9 N9 DQ back=>?_)<;>refine cO 26 (cA Tryz.call138 (Zai a.moves (by omega))) fun v26 ho26=>?_<;>refine ζb (back _ (nrm ?_))<;>refine xD 11 27 rfl (ζB ζK) ?_<;>(refine ζo 12 (by kernel_rfl) ?_)<;>(refine ζk rfl fun w9 M9 N9 DQ back=>?_)<;>refine ζr [(.int .i64 0),(.int .i64 0),(.slice none 0 0),(.slice none 0 0),(.slice none 0 0)] 5 5 ζz fun h5=>?_<;>refine ζb (back _ (nrm ?_))<;>(refine ζo 13 (by kernel_rfl) ?_)<;>(refine ζk rfl fun w9 M9 N9 DQ back=>?_)<;>(refine ζC 5 (m:=5) (by kernel_rfl) ?_ (h1:=by show (List.all [pInt (a.n+1),pInt a.syms,pInts [a.n],pInts [a.n],PV.val v26] En.one)=true;simp only [List.all_cons,List.all_nil,Bool.and_true,Bool.and_eq_true];exact ⟨rfl,rfl,rfl,rfl,ho26⟩))<;>refine ζb (back _ (nrm ?_))))))))));rotate_right;(focus ((refine ζk rfl fun w9 M9 N9 DQ back=>?_)<;>(refine ζI (kk:=1) 21 ζi fun h21 ho21=>?_;refine ζq (En.freeze (l:=21) (t:=21) rfl rfl) fun _=>?_;rw [show share (PV.own 3 1 1 [PV.val (.int .i64 a.n)])=pInts [a.n] from rfl])<;>refine ζb (back _ (nrm ?_))<;>(refine Zei 7 10 12 (by kernel_rfl) ?_ ?_ ?_;rotate_right;(focus ((refine ζk rfl fun w9 M9 N9 DQ back=>?_)<;>refine ζr [(.int .i64 0),(.int .i64 0),(.slice none 0 0),(.slice none 0 0),(.slice none 0 0)] 5 5 ζz fun h5=>?_<;>refine ζb (back _ (nrm ?_))<;>(refine Za0 7 10 (by kernel_rfl) ?_ ?_;rotate_right;(focus ((refine ζk rfl fun w9 M9 N9 DQ back=>?_)<;>refine cO 26 (cA Tryz.call138 (Zai a.moves (by omega))) fun v26 ho26=>?_<;>refine ζb (back _ (nrm ?_))<;>(refine ζo 7 (by kernel_rfl) ?_)<;>(refine ζk rfl fun w9 M9 N9 DQ back=>?_)<;>(refine ζI (kk:=1) 23 ζi fun h23 ho23=>?_;refine ζq (En.freeze (l:=23) (t:=23) rfl rfl) fun _=>?_;rw [show share (PV.own 3 1 1 [PV.val (.int .i64 a.n)])=pInts [a.n] from rfl])<;>refine ζb (back _ (nrm ?_))<;>refine xE 11 27 rfl (ζB ζK) ?_<;>(refine ζo 13 (by kernel_rfl) ?_)<;>(refine ζk rfl fun w9 M9 N9 DQ back=>?_)<;>(refine ζC 5 (m:=5) (by kernel_rfl) ?_ (h1:=by show (List.all [pInt (a.n+1),pInt a.syms,pInts [a.n],pInts [a.n],PV.val v26] En.one)=true;simp only [List.all_cons,List.all_nil,Bool.and_true,Bool.and_eq_true];exact ⟨rfl,rfl,rfl,rfl,ho26⟩))<;>refine ζb (back _ (nrm ?_))));rotate_right;(focus ((refine ζk rfl fun w9 M9 N9 DQ back=>?_)<;>(refine ζI (kk:=1) 23 ζi fun h23 ho23=>?_;refine ζq (En.freeze (l:=23) (t:=23) rfl rfl) fun _=>?_;rw [show share (PV.own 3 1 1 [PV.val (.int .i64 a.n)])=pInts [a.n] from rfl])<;>refine ζb (back _ (nrm ?_))<;>(refine ζo 10 (by kernel_rfl) ?_)<;>(refine ζk rfl fun w9 M9 N9 DQ back=>?_)<;>refine cO 26 (cA Tryz.call138 (Zai a.moves (by omega))) fun v26 ho26=>?_<;>refine ζb (back _ (nrm ?_))<;>refine xE 11 27 rfl (ζB ζK) ?_<;>(refine ζo 13 (by kernel_rfl) ?_)<;>(refine ζk rfl fun w9 M9 N9 DQ back=>?_)<;>(refine ζC 5 (m:=5) (by kernel_rfl) ?_ (h1:=by show (List.all [pInt (a.n+1),pInt a.syms,pInts [a.n],pInts [a.n],PV.val v26] En.one)=true;simp only [List.all_cons,List.all_nil,Bool.and_true,Bool.and_eq_true];exact ⟨rfl,rfl,rfl,rfl,ho26⟩))<;>refine ζb (back _ (nrm ?_)))))));rotate_right;(focus ((refine ζk rfl fun w9 M9 N9 DQ back=>?_)<;>refine cO 26 (cA Tryz.call138 (Zai a.moves (by omega))) fun v26 ho26=>?_<;>refine ζb (back _ (nrm ?_))<;>(refine Za0 7 12 (by kernel_rfl) ?_ ?_;rotate_right;(focus ((refine ζk rfl fun w9 M9 N9 DQ back=>?_)<;>refine ζr [(.int .i64 0),(.int .i64 0),(.slice none 0 0),(.slice none 0 0),(.slice none 0 0)] 5 5 ζz fun h5=>?_<;>refine ζb (back _ (nrm ?_))<;>(refine ζo 7 (by kernel_rfl) ?_)<;>(refine ζk rfl fun w9 M9 N9 DQ back=>?_)<;>(refine ζI (kk:=1) 23 ζi fun h23 ho23=>?_;refine ζq (En.freeze (l:=23) (t:=23) rfl rfl) fun _=>?_;rw [show share (PV.own 3 1 1 [PV.val (.int .i64 a.n)])=pInts [a.n] from rfl])<;>refine ζb (back _ (nrm ?_))<;>refine xE 11 27 rfl (ζB ζK) ?_<;>(refine ζo 13 (by kernel_rfl) ?_)<;>(refine ζk rfl fun w9 M9 N9 DQ back=>?_)<;>(refine ζC 5 (m:=5) (by kernel_rfl) ?_ (h1:=by show (List.all [pInt (a.n+1),pInt a.syms,pInts [a.n],pInts [a.n],PV.val v26] En.one)=true;simp only [List.all_cons,List.all_nil,Bool.and_true,Bool.and_eq_true];exact ⟨rfl,rfl,rfl,rfl,ho26⟩))<;>refine ζb (back _ (nrm ?_))));rotate_right;(focus ((refine ζk rfl fun w9 M9 N9 DQ back=>?_)<;>(refine ζI (kk:=1) 23 ζi fun h23 ho23=>?_;refine ζq (En.freeze (l:=23) (t:=23) rfl rfl) fun _=>?_;rw [show share (PV.own 3 1 1 [PV.val (.int .i64 a.n)])=pInts [a.n] from rfl])<;>refine ζb (back _ (nrm ?_))<;>refine xD 11 27 rfl (ζB ζK) ?_<;>(refine ζo 12 (by kernel_rfl) ?_)<;>(refine ζk rfl fun w9 M9 N9 DQ back=>?_)<;>refine ζr [(.int .i64 0),(.int .i64 0),(.slice none 0 0),(.slice none 0 0),(.slice none 0 0)] 5 5 ζz fun h5=>?_<;>refine ζb (back _ (nrm ?_))<;>(refine ζo 13 (by kernel_rfl) ?_)<;>(refine ζk rfl fun w9 M9 N9 DQ back=>?_)<;>(refine ζC 5 (m:=5) (by kernel_rfl) ?_ (h1:=by show (List.all [pInt (a.n+1),pInt a.syms,pInts [a.n],pInts [a.n],PV.val v26] En.one)=true;simp only [List.all_cons,List.all_nil,Bool.and_true,Bool.and_eq_true];exact ⟨rfl,rfl,rfl,rfl,ho26⟩))<;>refine ζb (back _ (nrm ?_)))))));rotate_right;(focus ((refine ζk rfl fun w9 M9 N9 DQ back=>?_)<;>(refine ζI (kk:=1) 23 ζi fun h23 ho23=>?_;refine ζq (En.freeze (l:=23) (t:=23) rfl rfl) fun _=>?_;rw [show share (PV.own 3 1 1 [PV.val (.int .i64 a.n)])=pInts [a.n] from rfl])<;>refine ζb (back _ (nrm ?_))<;>(refine Za0 10 12 (by kernel_rfl) ?_ ?_;rotate_right;(focus ((refine ζk rfl fun w9 M9 N9 DQ back=>?_)<;>refine ζr [(.int .i64 0),(.int .i64 0),(.slice none 0 0),(.slice none 0 0),(.slice none 0 0)] 5 5 ζz fun h5=>?_<;>refine ζb (back _ (nrm ?_))<;>(refine ζo 10 (by kernel_rfl) ?_)<;>(refine ζk rfl fun w9 M9 N9 DQ back=>?_)<;>refine cO 26 (cA Tryz.call138 (Zai a.moves (by omega))) fun v26 ho26=>?_<;>refine ζb (back _ (nrm ?_))<;>refine xE 11 27 rfl (ζB ζK) ?_<;>(refine ζo 13 (by kernel_rfl) ?_)<;>(refine ζk rfl fun w9 M9 N9 DQ back=>?_)<;>(refine ζC 5 (m:=5) (by kernel_rfl) ?_ (h1:=by show (List.all [pInt (a.n+1),pInt a.syms,pInts [a.n],pInts [a.n],PV.val v26] En.one)=true;simp only [List.all_cons,List.all_nil,Bool.and_true,Bool.and_eq_true];exact ⟨rfl,rfl,rfl,rfl,ho26⟩))<;>refine ζb (back _ (nrm ?_))));rotate_right;(focus ((refine ζk rfl fun w9 M9 N9 DQ back=>?_)<;>refine cO 26 (cA Tryz.call138 (Zai a.moves (by omega))) fun v26 ho26=>?_<;>refine ζb (back _ (nrm ?_))<;>refine xD 11 27 rfl (ζB ζK) ?_<;>(refine ζo 12 (by kernel_rfl) ?_)<;>(refine ζk rfl fun w9 M9 N9 DQ back=>?_)<;>refine ζr [(.int .i64 0),(.int .i64 0),(.slice none 0 0),(.slice none 0 0),(.slice none 0 0)] 5 5 ζz fun h5=>?_<;>refine ζb (back _ (nrm ?_))<;>(refine ζo 13 (by kernel_rfl) ?_)<;>(refine ζk rfl fun w9 M9 N9 DQ back=>?_)<;>(refine ζC 5 (m:=5) (by kernel_rfl) ?_ (h1:=by show (List.all [pInt (a.n+1),pInt a.syms,pInts [a.n],pInts [a.n],PV.val v26] En.one)=true;simp only [List.all_cons,List.all_nil,Bool.and_true,Bool.and_eq_true];exact ⟨rfl,rfl,rfl,rfl,ho26⟩))<;>refine ζb (back _ (nrm ?_)))))))))))<;>refine ZaM (by kernel_rfl) (nav ?_)<;>try dsimp only)<;>(
      exact ZfG ⟨(v26,h5),ho26⟩ ⟨rfl,rfl,rfl,rfl,trivial⟩ ⟨rfl,rfl,rfl,rfl,trivial⟩)
   · rintro ⟨⟨v26,h5⟩,ho26⟩
     dsimp only at ho26 ⊢
     refine ζv (ζD (l:=26) 301 rfl rfl) fun _=>?_
     refine ζv (ζN (l:=301) (p':= .own 93 3 (a.moves++Zil a.n (a.start.take 0)).length ((a.moves++Zil a.n (a.start.take 0)).flatMap cMv)) rfl (by rw [show Zil a.n (a.start.take 0)=[] from rfl,List.append_nil])) fun _=>?_
     refine nav ?_
     (refine ζa ?_<;>refine xL 28 (ζh 1 Zab) ?_<;>(refine yL 29 (ζs 1 ζx) fun v29 h=>?_;cases h)<;>refine xL 30 (ζV ζn) ?_<;>refine xL 31 ζd ?_<;>refine ζb (nav ?_)<;>try dsimp only)
     refine ζy (ι:={q:Nat×Value//q.1≤a.start.length∧q.2.oneCell'=true}) (fun k=>⟨[(1,_,_),(2,_,_),(4,_,_),(5,_,_),(29,_,_),(30,_,_),(31, .int .i64 k.1.1,pInt k.1.1)],[(1,_,_),(2,_,_),(5,h5, .own 39 5 1 [pInt (a.n+1),pInt a.syms,pInts [a.n],pInts [a.n], .val k.1.2]),(301,k.1.2, .own 93 3 (a.moves++Zil a.n (a.start.take k.1.1)).length ((a.moves++Zil a.n (a.start.take k.1.1)).flatMap cMv))]⟩) (fun k=>a.start.length-k.1.1) ⟨(0,v26),Nat.zero_le _,ho26⟩ (fun a w H=>H.weaken ⟨rfl,rfl,rfl,rfl,rfl,rfl,rfl,trivial⟩ ⟨rfl,rfl,rfl,rfl,trivial⟩) ?_
     rintro ⟨⟨k,hM⟩,hk,hMo⟩
     dsimp only
     dsimp only at hk hMo
     have hl1:(a.moves++Zil a.n (a.start.take k)).length≤30000:=by unfold Zil;rw [List.length_append,List.length_map,List.length_take];omega
     refine nav ?_
     (refine ζa ?_<;>refine xL 32 ζS ?_<;>refine ζb (nav ?_)<;>try dsimp only)
     (first|refine cCd ?_ ?_|refine cC ?_ ?_)<;>intro hb32
     · first
       |exact Bool.noConfusion hb32
       | (
        obtain ⟨x,hx⟩:=ζm (show k<a.start.length by omega)
        have e1:=Zaf (f:=pInt) hx
        refine nav ?_
        (refine ζa ?_<;>refine xL 33 (ζJ ζn) ?_<;>(refine yL 34 (Za3 ζj) fun v34 h=>?_;cases h)<;>refine xL 7 ζc ?_<;>refine ζb (nav ?_)<;>try dsimp only)
        (refine ζa ?_<;>refine xL 35 (ζh 5 ζw) ?_<;>(refine yL 36 (ζs 5 ζA) fun v36 h=>?_;cases h)<;>refine xL 37 ζd ?_<;>refine xL 38 ζd ?_<;>refine xL 39 (ζB Zbp) ?_<;>refine Zar 40 ζ1 fun h40 ho40=>?_<;>(refine ζY 301 40 41 ζ1 fun h41 ho41=>?_;refine ζq (ζD (l:=41) 301 rfl rfl) fun _=>?_;refine ζq (ζN (l:=301) rfl ((ZbP _ (a.moves++Zil a.n (a.start.take k)) ⟨a.n,x,-1⟩).trans (by rw [List.append_assoc,←Zte a.n hx]))) fun _=>?_)<;>refine xL 42 (ζh 5 ζw) ?_<;>refine Zc1 5 ζA ZaP ?_<;>refine ζb (nav ?_)<;>try dsimp only)
        (refine ζa ?_<;>refine xL 43 ζM ?_<;>refine xL 31 ζd ?_<;>refine ζb (nav ?_)<;>try dsimp only)
        refine ζl (
         ⟨(k+1,h41),ζe hx,ho41⟩
         ) (by dsimp only;omega) ⟨rfl,rfl,rfl,rfl,rfl,rfl,rfl,trivial⟩ ⟨rfl,rfl,rfl,rfl,trivial⟩)
     · first
       |exact Bool.noConfusion hb32
       | (
        rw [List.take_of_length_le (show a.start.length≤k by omega)]
        rw [show a.moves++Zil a.n a.start=a.moves++Zil a.n a.start++Ztd a.n (a.fin.take 0) from (List.append_nil _).symm]
        refine nav ?_
        (refine ζa ?_<;>refine xL 44 (ζh 1 ζ9) ?_<;>(refine yL 45 (ζs 1 ζx) fun v45 h=>?_;cases h)<;>refine xL 46 (ζV ζn) ?_<;>refine xL 47 ζd ?_<;>refine ζb (nav ?_)<;>try dsimp only)
        refine ζy (ι:={q:Nat×Value//q.1≤a.fin.length∧q.2.oneCell'=true}) (fun k=>⟨[(1,_,_),(2,_,_),(4,_,_),(5,_,_),(45,_,_),(46,_,_),(47, .int .i64 k.1.1,pInt k.1.1)],[(1,_,_),(2,_,_),(5,h5, .own 39 5 1 [pInt (a.n+1),pInt a.syms,pInts [a.n],pInts [a.n], .val k.1.2]),(301,k.1.2, .own 93 3 (a.moves++Zil a.n a.start++Ztd a.n (a.fin.take k.1.1)).length ((a.moves++Zil a.n a.start++Ztd a.n (a.fin.take k.1.1)).flatMap cMv))]⟩) (fun k=>a.fin.length-k.1.1) ⟨(0,hM),Nat.zero_le _,hMo⟩ (fun a w H=>H.weaken ⟨rfl,rfl,rfl,rfl,rfl,rfl,rfl,trivial⟩ ⟨rfl,rfl,rfl,rfl,trivial⟩) ?_
        rintro ⟨⟨j,hM2⟩,hj,hM2o⟩
        dsimp only
        dsimp only at hj hM2o
        have hl2:(a.moves++Zil a.n a.start++Ztd a.n (a.fin.take j)).length≤30000:=by unfold Zil Ztd;rw [List.length_append,List.length_append,List.length_map,List.length_map,List.length_take];omega
        refine nav ?_
        (refine ζa ?_<;>refine xL 48 ζS ?_<;>refine ζb (nav ?_)<;>try dsimp only)
        (first|refine cCd ?_ ?_|refine cC ?_ ?_)<;>intro hb48
        · first
          |exact Bool.noConfusion hb48
          | (
           obtain ⟨y,hy⟩:=ζm (show j<a.fin.length by omega)
           have e1:=Zaf (f:=pInt) hy
           refine nav ?_
           (refine ζa ?_<;>refine xL 49 (ζJ ζn) ?_<;>(refine yL 50 (Za3 ζj) fun v50 h=>?_;cases h)<;>refine xL 9 ζc ?_<;>refine ζb (nav ?_)<;>try dsimp only)
           (refine ζa ?_<;>refine xL 51 (ζh 5 ζw) ?_<;>(refine yL 52 (ζs 5 ζA) fun v52 h=>?_;cases h)<;>refine xL 53 ζd ?_<;>refine xL 54 ζd ?_<;>refine xL 55 (ζB Zbp) ?_<;>refine Zar 56 ζ1 fun h56 ho56=>?_<;>(refine ζY 301 56 57 ζ1 fun h57 ho57=>?_;refine ζq (ζD (l:=57) 301 rfl rfl) fun _=>?_;refine ζq (ζN (l:=301) rfl ((ZbP _ (a.moves++Zil a.n a.start++Ztd a.n (a.fin.take j)) ⟨y,a.n,-1⟩).trans (by rw [List.append_assoc (a.moves++Zil a.n a.start),←Ztf a.n hy]))) fun _=>?_)<;>refine xL 58 (ζh 5 ζw) ?_<;>refine Zc1 5 ζA ZaP ?_<;>refine ζb (nav ?_)<;>try dsimp only)
           (refine ζa ?_<;>refine xL 59 ζM ?_<;>refine xL 47 ζd ?_<;>refine ζb (nav ?_)<;>try dsimp only)
           refine ζl (
            ⟨(j+1,h57),ζe hy,ho57⟩
            ) (by dsimp only;omega) ⟨rfl,rfl,rfl,rfl,rfl,rfl,rfl,trivial⟩ ⟨rfl,rfl,rfl,rfl,trivial⟩)
        · first
          |exact Bool.noConfusion hb48
          | (
           rw [List.take_of_length_le (show a.fin.length≤j by omega)]
           have hone:En.one (PV.val hM2)=true:=hM2o
           refine nav ?_
           refine ζv (ζD (l:=301) 1000 rfl rfl) fun _=>?_
           (refine ζa ?_<;>(refine yL 60 (ζp (k:=5) (ps:=[pInt (a.n+1),pInt a.syms,pInts [a.n],pInts [a.n],PV.val hM2]) 5 (by kernel_rfl)) fun v60 h=>?_;cases h)<;>(refine Za4 [(1000,hM2,PV.own 93 3 (ZdH a).moves.length ((ZdH a).moves.flatMap cMv)),(1,_,_),(2,_,_),(5,_,_)] ⟨rfl,rfl,rfl,rfl,trivial⟩ ?_;refine ZeG [1,2,5] 61 (Tryz.call137) (Zm6 (ZdH a) (Zph h.toAOk) (Zqe h) _ hM2 hM2o r5 hr) ?_;rintro _ _ _ ⟨⟨V1,rfl⟩,rfl,rfl⟩)<;>refine xL 62 ζf ?_<;>refine xL 63 ζf ?_<;>refine ζC 2 ζg ?_<;>refine xL 3 ζc ?_<;>refine ζb (nav ?_)<;>try dsimp only)
           exact ζ6 (k:=5) 2 (by kernel_rfl) (Tryz.results90) rfl rfl rfl (Nat.le_of_ble_eq_true rfl) (by decide) r5.s rfl))
theorem Zx8 (a:Aut):AF Tryz.prog 90 [ζW a] (· =resW (ZeW a)):=by
 cases hv:ζ5 a with
 |false=>rw [Ztc hv];exact Ztg a hv
 | true=>
   rw [Zvw hv]
   have h:=ZbA hv
   obtain ⟨p0,p1,p2,p3,p4,E,h5,h2,hr⟩:=Zev (ZdH a) (Zph h.toAOk) (ZjN h)
   rw [h2];exact Zx7 a hv h5 hr
theorem Zdk (l:List Int) (n:Int) (hl:l.length≤1000000) (hn:0≤n∧n≤1000000) (hb:∀x∈l,0≤x∧x≤1000000):AF Tryz.prog 136 [pInts l,pInt n] (· = .own 3 1 (ZcT n l).length ((ZcT n l).map pInt)):=by
 refine AF.of_body 22 Tryz.func136 rfl Tryz.ntmps136 (Nat.le_of_ble_eq_true rfl) ?_
 intro w0 M0 vs hl hv
 obtain ⟨v0,v1,rfl⟩:=Zb3 hl
 obtain rfl:=hv 1 _ _ rfl rfl
 clear hl hv
 refine Zba 0 rfl fun hlen=>?_
 refine nav ?_
 (refine ζa ?_<;>refine xL 4 ζc ?_<;>refine ζb (nav ?_)<;>try dsimp only)
 (refine ζa ?_<;>refine xL 5 ζc ?_<;>refine ζb (nav ?_)<;>try dsimp only)
 refine ζv (Zb2 200 3 1 rfl) fun _=>?_
 (refine ζa ?_<;>refine xL 8 ζd ?_<;>refine xL 9 (ζV ζn) ?_<;>refine xL 10 ζd ?_<;>refine ζb (nav ?_)<;>try dsimp only)
 refine ζy (ι:={q:Nat×Value//q.1≤l.length∧q.2.oneCell'=true}) (fun k=>⟨[(1,_,_),(8,_,_),(9,_,_),(5,k.1.2, .val k.1.2),(10, .int .i64 k.1.1,pInt k.1.1)],[(200,k.1.2, .own 3 1 (ZcT n (l.take k.1.1)).length ((ZcT n (l.take k.1.1)).map pInt))]⟩) (fun k=>l.length-k.1.1) ⟨(0, .slice none 0 0),Nat.zero_le _,rfl⟩ (fun a w H=>H.weaken ⟨rfl,rfl,rfl,rfl,rfl,trivial⟩ ⟨rfl,trivial⟩) ?_
 rintro ⟨⟨k,hO⟩,hk,hOo⟩
 dsimp only
 dsimp only at hk hOo
 have hal:(ZcT n (l.take k)).length≤1000000:=by rw [Zdz,List.length_take];omega
 refine nav ?_
 (refine ζa ?_<;>refine xL 11 ζS ?_<;>refine ζb (nav ?_)<;>try dsimp only)
 (first|refine cCd ?_ ?_|refine cC ?_ ?_)<;>intro hb11
 · first
   |exact Bool.noConfusion hb11
   | (
    obtain ⟨x,hx⟩:=ζm (show k<l.length by omega)
    have e1:=Zaf (f:=pInt) hx
    have hxb:=hb x (List.mem_of_getElem? hx)
    refine nav ?_
    (refine ζa ?_<;>refine xL 12 (ζJ ζn) ?_<;>(refine yL 13 (Za3 ζj) fun v13 h=>?_;cases h)<;>refine xL 7 ζc ?_<;>refine ζb (nav ?_)<;>try dsimp only)
    (refine ζa ?_<;>refine xL 14 ζd ?_<;>refine xL 15 ζd ?_<;>refine xL 16 ζd ?_<;>refine xL 17 ζM ?_<;>refine ζI (kk:=1) 18 ζi fun h18 ho18=>?_<;>(refine ζY 200 18 19 ζi fun h19 ho19=>?_;refine ζq (ζD (l:=19) 200 rfl rfl) fun _=>?_;refine ζq (ζN (l:=200) rfl ((ZcN _ (ZcT n (l.take k)) (x+n)).trans (by rw [←Zsr n hx]))) fun _=>?_)<;>refine xL 5 ζc ?_<;>refine ζb (nav ?_)<;>try dsimp only)
    (refine ζa ?_<;>refine xL 20 ζM ?_<;>refine xL 10 ζd ?_<;>refine ζb (nav ?_)<;>try dsimp only)
    refine ζl (
     ⟨(k+1,h19),ζe hx,ho19⟩
     ) (by dsimp only;omega) ⟨rfl,rfl,rfl,rfl,rfl,trivial⟩ ⟨rfl,trivial⟩)
 · first
   |exact Bool.noConfusion hb11
   | (
    rw [List.take_of_length_le (show l.length≤k by omega)]
    refine nav ?_
    (refine ζa ?_<;>refine xL 21 ζd ?_<;>refine xL 4 ζc ?_<;>refine ζb (nav ?_)<;>try dsimp only)
    exact ZcO 200 (Tryz.results136) rfl rfl rfl)
def bsM (a b:Aut):List Mv:=a.moves++Zgz a.n b.moves
theorem Znk {a b:Aut} (ha:AOk a) (hb:AOk b):(bsM a b).length≤40000:=by
 unfold bsM
 rw [List.length_append,ZgA]
 have:=ha.ml;have:=hb.ml;omega
set_option maxHeartbeats 2000000 in
theorem ZlT (a b:Aut) (ha:AOk a) (hb:AOk b) (V V':Value):AFh False Tryz.prog 134 [(0,V,ζW a),(1,V',ζW b)] [] (fun v q h=>∃hM:Value,hM.oneCell'=true∧q= .agg [pInt (a.n+b.n),pInt a.syms, .val (.slice none 0 0), .val (.slice none 0 0), .val hM]∧h=[(1000,hM, .own 93 3 (bsM a b).length ((bsM a b).flatMap cMv))]):=by
 have hn0:=ha.n0
 have hn1:=ha.n1
 have hm0:=hb.n0
 have hm1:=hb.n1
 have hal:=ha.ml
 have hbl:=hb.ml
 refine AFh.of_body 46 Tryz.func134 rfl Tryz.ntmps134 (Nat.le_of_ble_eq_true rfl) rfl ?_
 intro w0 M0 N0
 refine nav ?_
 (refine ζa ?_<;>refine ζE 2 5 fun h2=>?_<;>refine ζE 3 5 fun h3=>?_<;>refine ζr [(.int .i64 0),(.int .i64 0),(.slice none 0 0),(.slice none 0 0),(.slice none 0 0)] 5 4 ζz fun h4=>?_<;>refine ζb (nav ?_)<;>try dsimp only)
 refine Zrd (fun x:{x:Value×Value//x.1.oneCell'=true}=>⟨[(2,padd (sbase h2) 0, .val (padd (sbase h2) 0)),(3,padd (sbase h3) 0, .val (padd (sbase h3) 0)),(4,padd (sbase h4) 0, .val (padd (sbase h4) 0)),(5,padd (sbase x.1.2) 0, .val (padd (sbase x.1.2) 0))],[(2,h2, .own 39 5 1 [pInt a.n,pInt a.syms,pInts a.start,pInts a.fin,pMvs a.moves]),(3,h3, .own 39 5 1 [pInt b.n,pInt b.syms,pInts b.start,pInts b.fin,pMvs b.moves]),(4,h4, .own 39 5 1 [pInt 0,pInt 0, .val (.slice none 0 0), .val (.slice none 0 0), .val (.slice none 0 0)]),(5,x.1.2, .own 39 5 1 [pInt (a.n+b.n),pInt a.syms, .val (.slice none 0 0), .val (.slice none 0 0), .val x.1.1]),(17,x.1.1, .own 93 3 a.moves.length (a.moves.flatMap cMv))]⟩) ?_ ?_
 · (refine ζ4 (fun i=>([]:List Nat).elem i) [2,3] (by kernel_rfl) ?_<;>refine xD 0 8 rfl (ζh 2 ζP) ?_<;>(refine yD 1 9 rfl (ζs 2 ζj) fun v9 h=>?_;cases h)<;>refine xD 2 10 rfl (ζh 3 ζP) ?_<;>(refine yD 3 11 rfl (ζs 3 ζj) fun v11 h=>?_;cases h)<;>refine xD 4 12 rfl ζM ?_<;>refine xD 5 13 rfl (ζh 2 ζ2) ?_<;>(refine yD 6 14 rfl (ζs 2 ζj) fun v14 h=>?_;cases h)<;>refine xD 7 15 rfl (ζh 2 ζw) ?_<;>(refine yD 8 16 rfl (ζs 2 ζA) fun v16 h=>?_;cases h)<;>(refine Za0 9 11 (by kernel_rfl) ?_ ?_;rotate_right;(focus ((refine ζk rfl fun w9 M9 N9 DQ back=>?_)<;>refine ζr [(.int .i64 0),(.int .i64 0),(.slice none 0 0),(.slice none 0 0),(.slice none 0 0)] 5 5 ζz fun h5=>?_<;>refine ζb (back _ (nrm ?_))<;>(refine ζo 9 (by kernel_rfl) ?_)<;>(refine ζk rfl fun w9 M9 N9 DQ back=>?_)<;>refine cO 17 (cA Tryz.call138 (Zai a.moves (by omega))) fun v17 ho17=>?_<;>refine ζb (back _ (nrm ?_))<;>refine xE 10 18 rfl (ζB ζK) ?_<;>(refine ζo 12 (by kernel_rfl) ?_)<;>(refine ζk rfl fun w9 M9 N9 DQ back=>?_)<;>(refine ζC 5 (m:=5) (by kernel_rfl) ?_ (h1:=by show (List.all [pInt (a.n+b.n),pInt a.syms,PV.val (.slice none 0 0),PV.val (.slice none 0 0),PV.val v17] En.one)=true;simp only [List.all_cons,List.all_nil,Bool.and_true,Bool.and_eq_true];exact ⟨rfl,rfl,rfl,rfl,ho17⟩))<;>refine ζb (back _ (nrm ?_))));rotate_right;(focus ((refine ζk rfl fun w9 M9 N9 DQ back=>?_)<;>refine cO 17 (cA Tryz.call138 (Zai a.moves (by omega))) fun v17 ho17=>?_<;>refine ζb (back _ (nrm ?_))<;>refine xD 10 18 rfl (ζB ζK) ?_<;>(refine ζo 11 (by kernel_rfl) ?_)<;>(refine ζk rfl fun w9 M9 N9 DQ back=>?_)<;>refine ζr [(.int .i64 0),(.int .i64 0),(.slice none 0 0),(.slice none 0 0),(.slice none 0 0)] 5 5 ζz fun h5=>?_<;>refine ζb (back _ (nrm ?_))<;>(refine ζo 12 (by kernel_rfl) ?_)<;>(refine ζk rfl fun w9 M9 N9 DQ back=>?_)<;>(refine ζC 5 (m:=5) (by kernel_rfl) ?_ (h1:=by show (List.all [pInt (a.n+b.n),pInt a.syms,PV.val (.slice none 0 0),PV.val (.slice none 0 0),PV.val v17] En.one)=true;simp only [List.all_cons,List.all_nil,Bool.and_true,Bool.and_eq_true];exact ⟨rfl,rfl,rfl,rfl,ho17⟩))<;>refine ζb (back _ (nrm ?_)))))<;>refine ZaM (by kernel_rfl) (nav ?_)<;>try dsimp only)<;>(
    exact ZfG ⟨(v17,h5),ho17⟩ ⟨rfl,rfl,rfl,rfl,trivial⟩ ⟨rfl,rfl,rfl,rfl,rfl,trivial⟩)
 · rintro ⟨⟨v17,h5⟩,ho17⟩
   dsimp only at ho17 ⊢
   refine ζv (ζD (l:=17) 301 rfl rfl) fun _=>?_
   refine ζv (ζN (l:=301) (p':= .own 93 3 (a.moves++Zgz a.n (b.moves.take 0)).length ((a.moves++Zgz a.n (b.moves.take 0)).flatMap cMv)) rfl (by rw [show Zgz a.n (b.moves.take 0)=[] from rfl,List.append_nil])) fun _=>?_
   refine nav ?_
   (refine ζa ?_<;>refine xL 19 (ζh 3 ζw) ?_<;>(refine yL 20 (ζs 3 ζA) fun v20 h=>?_;cases h)<;>refine xL 21 (ζV ζG) ?_<;>refine xL 22 ζd ?_<;>refine ζb (nav ?_)<;>try dsimp only)
   refine ζy (ι:={q:Nat×Value//q.1≤b.moves.length∧q.2.oneCell'=true}) (fun k=>⟨[(2,_,_),(3,_,_),(4,_,_),(5,_,_),(20,_,_),(21,_,_),(22, .int .i64 k.1.1,pInt k.1.1)],[(2,_,_),(3,_,_),(4,_,_),(5,h5, .own 39 5 1 [pInt (a.n+b.n),pInt a.syms, .val (.slice none 0 0), .val (.slice none 0 0), .val k.1.2]),(301,k.1.2, .own 93 3 (a.moves++Zgz a.n (b.moves.take k.1.1)).length ((a.moves++Zgz a.n (b.moves.take k.1.1)).flatMap cMv))]⟩) (fun k=>b.moves.length-k.1.1) ⟨(0,v17),Nat.zero_le _,ho17⟩ (fun a w H=>H.weaken ⟨rfl,rfl,rfl,rfl,rfl,rfl,rfl,trivial⟩ ⟨rfl,rfl,rfl,rfl,rfl,trivial⟩) ?_
   rintro ⟨⟨k,hM⟩,hk,hMo⟩
   dsimp only
   dsimp only at hk hMo
   have hl1:(a.moves++Zgz a.n (b.moves.take k)).length≤50000:=by rw [List.length_append,ZgA,List.length_take];omega
   have q5:En.one (PV.val hM)=true:=hMo
   refine nav ?_
   (refine ζa ?_<;>refine xL 23 ζS ?_<;>refine ζb (nav ?_)<;>try dsimp only)
   (first|refine cCd ?_ ?_|refine cC ?_ ?_)<;>intro hb23
   · first
     |exact Bool.noConfusion hb23
     | (
      obtain ⟨x,hx⟩:=ζm (show k<b.moves.length by omega)
      have e1:=ζ8 ζ0 b.moves k x hx
      have e2:=Zaq ζ0 hx
      have hxb:=hb.mv x (List.mem_of_getElem? hx)
      refine nav ?_
      (refine ζa ?_<;>refine xL 24 (ζJ ζG) ?_<;>(refine yL 25 (Zbm ζR) fun v25 h=>?_;cases h)<;>refine ζr [(.int .i64 0),(.int .i64 0),(.int .i64 0)] 3 7 Zb5 fun h7=>?_<;>refine ζC 7 ζR ?_<;>refine ζb (nav ?_)<;>try dsimp only)
      (refine ζa ?_<;>refine xL 26 (ζh 5 ζw) ?_<;>(refine yL 27 (ζs 5 ζA) fun v27 h=>?_;cases h)<;>refine xL 28 (ζh 7 Zac) ?_<;>(refine yL 29 (ζs 7 ζj) fun v29 h=>?_;cases h)<;>refine xL 30 (ζh 2 ζP) ?_<;>(refine yL 31 (ζs 2 ζj) fun v31 h=>?_;cases h)<;>refine xL 32 ζM ?_<;>refine xL 33 (ζh 7 Zal) ?_<;>(refine yL 34 (ζs 7 ζj) fun v34 h=>?_;cases h)<;>refine xL 35 (ζh 2 ζP) ?_<;>(refine yL 36 (ζs 2 ζj) fun v36 h=>?_;cases h)<;>refine xL 37 ζM ?_<;>refine xL 38 (ζh 7 ZaK) ?_<;>(refine yL 39 (ζs 7 ζj) fun v39 h=>?_;cases h)<;>refine xL 40 (ζB Zbp) ?_<;>refine Zar 41 ζ1 fun h41 ho41=>?_<;>(refine ζY 301 41 42 ζ1 fun h42 ho42=>?_;refine ζq (ζD (l:=42) 301 rfl rfl) fun _=>?_;refine ζq (ζN (l:=301) rfl ((ZbP _ (a.moves++Zgz a.n (b.moves.take k)) ⟨x.src+a.n,x.dst+a.n,x.sym⟩).trans (by rw [List.append_assoc,←Zss a.n hx]))) fun _=>?_)<;>refine xL 43 (ζh 5 ζw) ?_<;>refine Zc1 5 ζA ZaP ?_<;>refine ζb (nav ?_)<;>try dsimp only)
      (refine ζa ?_<;>refine xL 44 ζM ?_<;>refine xL 22 ζd ?_<;>refine ζb (nav ?_)<;>try dsimp only)
      refine ζl (
       ⟨(k+1,h42),ζe hx,ho42⟩
       ) (by dsimp only;omega) ⟨rfl,rfl,rfl,rfl,rfl,rfl,rfl,trivial⟩ ⟨rfl,rfl,rfl,rfl,rfl,trivial⟩)
   · first
     |exact Bool.noConfusion hb23
     | (
      rw [List.take_of_length_le (show b.moves.length≤k by omega)]
      refine ζv (ζD (l:=301) 1000 rfl rfl) fun _=>?_
      refine nav ?_
      (refine ζa ?_<;>(refine yL 45 (ζp (k:=5) (ps:=[pInt (a.n+b.n),pInt a.syms,PV.val (.slice none 0 0),PV.val (.slice none 0 0),PV.val hM]) 5 (by kernel_rfl)) fun v45 h=>?_;cases h)<;>refine ζC 4 ζg ?_<;>refine ζb (nav ?_)<;>try dsimp only)
      exact ZzB (k:=5) 4 [(1000,hM,PV.own 93 3 (bsM a b).length ((bsM a b).flatMap cMv))] (by kernel_rfl) (Tryz.results134) rfl rfl (Nat.le_of_ble_eq_true rfl) (by decide) rfl ⟨rfl,trivial⟩ fun V=>⟨hM,hMo,rfl,rfl⟩)
theorem Zad:AggT Tryz.prog 149 5=true:=by kernel_rfl
theorem Znl:AggT Tryz.prog 263 2=true:=by kernel_rfl
theorem Zf4:ArrT Tryz.prog 263 2=true:=by kernel_rfl
theorem Zae:ElT Tryz.prog 264 263 2 16 (.agg #[(.int .i64 0),(.int .i64 0)]):=⟨Tryz.underlying264,by kernel_rfl,rfl,by decide⟩
theorem Zb9:FldT Tryz.prog 149 0 0=true:=by kernel_rfl
theorem ζU:FldT Tryz.prog 149 1 3=true:=by kernel_rfl
theorem Zd9:FldT Tryz.prog 149 2 4=true:=by kernel_rfl
theorem ZeA:SlT Tryz.prog 264 263 2=true:=by kernel_rfl
theorem ZaR:ZeroT Tryz.prog 149 (.agg #[(.int .i64 0),(.slice none 0 0),(.slice none 0 0),(.slice none 0 0),(.slice none 0 0)]):=by unfold ZeroT;kernel_rfl
theorem ZeB:ZeroT Tryz.prog 263 (.agg #[(.int .i64 0),(.int .i64 0)]):=by unfold ZeroT;kernel_rfl
theorem Zqw (op:Int) (x y:Bool):AF Tryz.prog 213 [pInt op,ζO x,ζO y] (· =ζO (ZqQ op x y)):=by
 refine AF.of_body 30 Tryz.func213 rfl Tryz.ntmps213 (Nat.le_of_ble_eq_true rfl) ?_
 intro w0 M0 vs hl hv
 obtain ⟨v0,v1,v2,rfl⟩:=Zml hl
 obtain rfl:=hv 0 _ _ rfl rfl
 obtain rfl:=hv 1 _ _ rfl rfl
 obtain rfl:=hv 2 _ _ rfl rfl
 clear hl hv
 refine nav ?_
 (refine ζa ?_<;>refine xL 6 ζc ?_<;>refine ζb (nav ?_)<;>try dsimp only)
 (refine ζa ?_<;>refine xL 7 ζd ?_<;>refine ζb (nav ?_)<;>try dsimp only)
 (refine ζa ?_<;>refine xL 9 Zag ?_<;>refine xL 8 ζc ?_<;>refine ζb (nav ?_)<;>try dsimp only)
 (first|refine cCd ?_ ?_|refine cC ?_ ?_)<;>intro hb8
 · first
   |exact Bool.noConfusion hb8
   | (
    refine nav ?_
    (refine ζa ?_<;>refine xL 10 ζd ?_<;>refine xL 11 ζd ?_<;>(refine bL 11 (fun hb11=>?_) (fun hb11=>?_)<;>(first|refine kL 12 ?_|refine xL 12 ζd ?_))<;>refine xL 13 ζF ?_<;>refine xL 6 ζc ?_<;>refine ζb (nav ?_)<;>try dsimp only)<;>(
     refine ζt (Tryz.results213) rfl ?_
     unfold ZqQ
     rw [if_pos (by omega)]
     cases x<;>cases y<;>first|rfl|(exfalso;simp_all;done)))
 · first
   |exact Bool.noConfusion hb8
   | (
    refine nav ?_
    (refine ζa ?_<;>refine xL 15 Zag ?_<;>refine xL 14 ζc ?_<;>refine ζb (nav ?_)<;>try dsimp only)
    (first|refine cCd ?_ ?_|refine cC ?_ ?_)<;>intro hb14
    · first
      |exact Bool.noConfusion hb14
      | (
       refine nav ?_
       (refine ζa ?_<;>refine xL 16 ζd ?_<;>refine xL 17 ζd ?_<;>(refine bL 17 (fun hb17=>?_) (fun hb17=>?_)<;>(first|refine kL 18 ?_|refine xL 18 ζd ?_))<;>refine xL 19 ζF ?_<;>refine xL 6 ζc ?_<;>refine ζb (nav ?_)<;>try dsimp only)<;>(
        refine ζt (Tryz.results213) rfl ?_
        unfold ZqQ
        rw [if_neg (by omega),if_pos (by omega)]
        cases x<;>cases y<;>first|rfl|(exfalso;simp_all;done)))
    · first
      |exact Bool.noConfusion hb14
      | (
       refine nav ?_
       (refine ζa ?_<;>refine xL 21 Zag ?_<;>refine xL 20 ζc ?_<;>refine ζb (nav ?_)<;>try dsimp only)
       (first|refine cCd ?_ ?_|refine cC ?_ ?_)<;>intro hb20
       · first
         |exact Bool.noConfusion hb20
         | (
          refine nav ?_
          (refine ζa ?_<;>refine xL 22 ζd ?_<;>refine xL 23 ζd ?_<;>(refine bL 23 (fun hb23=>?_) (fun hb23=>?_)<;>(first|refine kL 24 ?_|refine xL 24 ζd ?_))<;>(first|refine kL 25 ?_|refine xL 25 Zak ?_)<;>refine xL 26 ζF ?_<;>refine xL 6 ζc ?_<;>refine ζb (nav ?_)<;>try dsimp only)<;>(
           refine ζt (Tryz.results213) rfl ?_
           unfold ZqQ
           rw [if_neg (by omega),if_neg (by omega),if_pos (by omega)]
           cases x<;>cases y<;>first|rfl|(exfalso;simp_all;done)))
       · first
         |exact Bool.noConfusion hb20
         | (
          refine nav ?_
          (refine ζa ?_<;>refine xL 27 ζd ?_<;>refine xL 28 ζd ?_<;>refine xL 29 (Zwb Tryz.underlying4) ?_<;>refine xL 6 ζc ?_<;>refine ζb (nav ?_)<;>try dsimp only)
          refine ζt (Tryz.results213) rfl ?_
          unfold ZqQ
          rw [if_neg (by omega),if_neg (by omega),if_neg (by omega)]
          cases x<;>cases y<;>first|rfl|(exfalso;simp_all;done))))
theorem ZlU {α κ:Type} [DecidableEq κ] (f:α→κ) (x:α):∀(l:List α) (off:Nat),Zbv f off (l++[x])=Zbv f off l++[(f x, .int .i64 ((off+l.length:Nat):Int))]
 |[],off=>by simp [Zbv]
 |y::l,off=>by rw [List.cons_append,Zbv,ZlU f x l (off+1),Zbv,List.cons_append,List.length_cons];congr 5;omega
theorem ZhS {α κ:Type} [DecidableEq κ] (f:α→κ):∀(l:List α) (off:Nat),(Zbv f off l).map (·.1)=l.map f
 |[],_=>rfl
 |y::l,off=>by rw [Zbv,List.map_cons,ZhS f l (off+1),List.map_cons]
abbrev PrS:=(Nat×Nat)×(Int×Int)
def ZcU (x:PrS):Pi2:=((x.1.1:Nat),(x.1.2:Nat))
theorem Zpi {x y:PrS}:ZcU x=ZcU y↔x.1=y.1:=by
 unfold ZcU
 rw [Prod.mk.injEq,Prod.ext_iff]
 omega
theorem Zx9 (o:List PrS) (x:PrS):posK ZcU o (ZcU x)=posK Prod.fst o x.1:=Zfe fun y _=>Zpi
def cPr (x:PrS):List PV:=[pInt (x.1.1:Nat),pInt (x.1.2:Nat)]
theorem Zth (x:PrS):(cPr x).length=2:=rfl
theorem Zti (e:Nat) (L:List PrS) (x:PrS):PV.own e 2 (L.length+1) (L.flatMap cPr++cPr x)= .own e 2 (L++[x]).length ((L++[x]).flatMap cPr):=by simp
theorem Ztj (o:List PrS) (x:PrS):(Zf7 (Zbv ZcU 0 o) (ZcU x)).getD (.int .i64 0)= .int .i64 ((if posK ZcU o (ZcU x)<o.length then posK ZcU o (ZcU x) else 0:Nat):Int)∧(Zf7 (Zbv ZcU 0 o) (ZcU x)).isSome=decide (posK ZcU o (ZcU x)<o.length):=by
 rw [Zff]
 by_cases h:posK ZcU o (ZcU x)<o.length
 · rw [if_pos h,if_pos h,decide_eq_true h,Nat.zero_add];exact ⟨rfl,rfl⟩
 · rw [if_neg h,if_neg h,decide_eq_false h];exact ⟨rfl,rfl⟩
def Zcl (o:List PrS):List Int:=o.map fun x=>x.2.1
def ZgD (o:List PrS):List Int:=o.map fun x=>x.2.2
theorem ZlV (o:List PrS) (y:PrS):Zcl (o++[y])=Zcl o++[y.2.1]:=by unfold Zcl;rw [List.map_append];rfl
theorem Zpj (o:List PrS) (y:PrS):ZgD (o++[y])=ZgD o++[y.2.2]:=by unfold ZgD;rw [List.map_append];rfl
def Zgk (A B:Aut) (op:Int) (q:List PrS×List (List Nat)):PV:= .agg [pInt (A.syms.toNat:Nat), .sl q.2.length (q.2.map ZfX), .sl (q.1.map (ZbI A B op)).length ((q.1.map (ZbI A B op)).map ζO),pInts (Zcl q.1),pInts (ZgD q.1)]
def ZBa (A B:Aut) (op:Int) (p:PV):Prop:=(∃q,prodQ A B=some q∧p= .tup [Zgk A B op q,ζO true])∨
 (prodQ A B=none∧∃u0 u1 u2 u3 u4:Value,u0.oneCell'=true∧u1.oneCell'=true∧u2.oneCell'=true∧u3.oneCell'=true∧u4.oneCell'=true∧p= .tup [.agg [.val u0, .val u1, .val u2, .val u3, .val u4],ζO false])
theorem ZhT:Zbj Tryz.prog 149=some (.agg #[.int .i64 0, .slice none 0 0, .slice none 0 0, .slice none 0 0, .slice none 0 0],[(0,3),(3,1),(4,1)]):=by kernel_rfl
theorem tPi:PiT Tryz.prog 265 263 3 3 (.int .i64 0):=⟨Tryz.underlying265,Tryz.underlying263,Tryz.underlying3,by kernel_rfl,by kernel_rfl,by kernel_rfl,by kernel_rfl,by kernel_rfl,fun a b=>by kernel_rfl,⟨Tryz.prog.types.size-1,by kernel_rfl⟩,by show ZeroT _ _ _;unfold ZeroT;kernel_rfl⟩
set_option maxHeartbeats 4000000 in
theorem Zqx (A B : Aut) (op:Int) (hA:DetA A) (hB:DetA B) (hs:A.syms=B.syms):AF Tryz.prog 169 [ζW A,ζW B,pInt op] (ZBa A B op):=by
 have hAn1:=hA.ok.n1
 have hAn0:=hA.ok.n0
 have hBn1:=hB.ok.n1
 have hBn0:=hB.ok.n0
 have hs0:=hA.ok.s0
 have hs1:=hA.ok.s1
 have hsN:((A.syms.toNat:Nat):Int)=A.syms:=by omega
 have hsB:B.syms.toNat=A.syms.toNat:=by rw [hs]
 refine AF.of_body 152 Tryz.func169 rfl Tryz.ntmps169 (Nat.le_of_ble_eq_true rfl) ?_
 intro w0 M0 vs hl hv
 obtain ⟨v0,v1,v2,rfl⟩:=Zml hl
 obtain rfl:=hv 2 _ _ rfl rfl
 clear hl hv
 refine nav ?_
 (refine ζa ?_<;>refine ζE 3 5 fun h3=>?_<;>refine ζE 4 5 fun h4=>?_<;>refine ζr [(.int .i64 0),(.slice none 0 0),(.slice none 0 0),(.slice none 0 0),(.slice none 0 0)] 5 6 ZaR fun h6=>?_<;>refine xL 7 ζc ?_<;>refine ζb (nav ?_)<;>try dsimp only)
 (refine ζ4 (fun i=>([]:List Nat).elem i) [3,4] (by kernel_rfl) ?_<;>(refine yD 0 21 rfl (ζp 3 ζg) fun v21 h=>?_;cases h)<;>(refine yD 2 23 rfl (ζp 4 ζg) fun v23 h=>?_;cases h)<;>(refine ζo 1 (by kernel_rfl) ?_)<;>(refine Zbk (d:=22) rfl (cA Tryz.call110 (Zda A hA.ok)) fun v22 h=>?_;cases h)<;>(refine ζo 3 (by kernel_rfl) ?_)<;>(refine Zbk (d:=24) rfl (cA Tryz.call110 (Zda B hB.ok)) fun v24 h=>?_;cases h)<;>refine xE 4 8 rfl ζc ?_<;>refine xE 5 9 rfl ζc ?_<;>refine ZaM (by kernel_rfl) (nav ?_)<;>try dsimp only)
 (refine ζa ?_<;>refine xL 25 (ζh 3 ζ2) ?_<;>(refine yL 26 (ζs 3 ζj) fun v26 h=>?_;cases h)<;>refine xL 27 (ζB ZiO) ?_<;>refine ζI (kk:=1) 28 ζi fun h28 ho28=>?_<;>(refine ζI (kk:=1) 29 ζi fun h29 ho29=>?_;have q28:En.one (PV.val h28)=true:=ho28;have q29:En.one (PV.val h29)=true:=ho29)<;>refine yL 30 (ZpP ZhT rfl ho28 ho29) fun v30 _=>?_<;>refine ζr [(.int .i64 0),(.slice none 0 0),(.slice none 0 0),(.slice none 0 0),(.slice none 0 0)] 5 10 ZaR fun h10=>?_<;>refine ζC 10 Zad ?_<;>refine ζb (nav ?_)<;>try dsimp only)
 refine ζv (Zeh (l:=10) [pInt A.syms, .own 36 1 0 [], .own 4 1 0 [], .val h28, .val h29] rfl rfl (fun i p p' h1 h2=>by
  match i with
  |0=>cases h1;cases h2;exact .inl rfl
  |1=>cases h1;cases h2;exact .inr ⟨rfl,_,_,rfl⟩
  |2=>cases h1;cases h2;exact .inr ⟨rfl,_,_,rfl⟩
  |3=>cases h1;cases h2;exact .inl rfl
  |4=>cases h1;cases h2;exact .inl rfl
  |i+5=>simp at h2)) fun _=>?_
 refine ζv (ZeK (l:=10) (l':=301) (j:=1) rfl rfl rfl rfl) fun i=>?_
 obtain ⟨v301,ho301⟩:=i
 refine ζv (ZeK (l:=10) (l':=302) (j:=2) rfl rfl rfl rfl) fun i=>?_
 obtain ⟨v302,ho302⟩:=i
 dsimp only [List.set]
 refine ζv (ζD (l:=28) 303 rfl rfl) fun _=>?_
 refine ζv (ζD (l:=29) 304 rfl rfl) fun _=>?_
 refine ζv (ζN (l:=303) (p':= .own 3 1 (Zcl [((0,0),(-1,-1))]).length ((Zcl [((0,0),(-1,-1))]).map pInt)) rfl rfl) fun _=>?_
 refine ζv (ζN (l:=304) (p':= .own 3 1 (ZgD [((0,0),(-1,-1))]).length ((ZgD [((0,0),(-1,-1))]).map pInt)) rfl rfl) fun _=>?_
 (refine ζa ?_<;>refine xL 31 (Zji Zf4 ZeB) ?_<;>refine Zar 32 Zae fun h32 ho32=>?_<;>refine xL 11 ζc ?_<;>refine ζb (nav ?_)<;>try dsimp only)
 refine ζv (ζD (l:=32) 305 rfl rfl) fun _=>?_
 refine ζv (ζN (l:=305) (p':= .own 263 2 ([((0,0),(-1,-1))]:List PrS).length (([((0,0),(-1,-1))]:List PrS).flatMap cPr)) rfl rfl) fun _=>?_
 (refine ζa ?_<;>refine ZeT 33 fun h33 ho33=>?_<;>refine xL 34 (Zji Zf4 ZeB) ?_<;>(refine ZrA (m:=[]) (k:=((0:Int),(0:Int))) 33 tPi (fun x hx=>by simp at hx) (by simp) ⟨by decide,by decide⟩ rfl ?_;rw [show ([]:List (Pi2×Value))++[(((0:Int),(0:Int)),Value.int .i64 0)]=Zbv ZcU 0 [((0,0),(-1,-1))] from rfl])<;>refine xL 35 ζd ?_<;>refine xL 12 ζc ?_<;>refine ζb (nav ?_)<;>try dsimp only)
 refine ζv (ζD (l:=33) 306 rfl rfl) fun _=>?_
 (refine ζa ?_<;>refine xL 13 ζc ?_<;>refine ζb (nav ?_)<;>try dsimp only)
 refine ζy (ι:={q:Nat×Value×Value×Value×Value×Value×List PrS×List (List Nat)//(Zbe A B).upto ((0,0),(-1,-1)) q.1=some (q.2.2.2.2.2.2.1,q.2.2.2.2.2.2.2)∧q.1≤q.2.2.2.2.2.2.1.length∧q.2.1.oneCell'=true∧q.2.2.1.oneCell'=true∧q.2.2.2.1.oneCell'=true∧q.2.2.2.2.1.oneCell'=true∧q.2.2.2.2.2.1.oneCell'=true}) (fun k=>⟨[(2,_,_),(3,_,_),(4,_,_),(6,_,_),(7,_,_),(8,_,_),(9,_,_),(10,_,_),(12,_,_),(11,k.1.2.2.2.2.2.1, .val k.1.2.2.2.2.2.1),(13, .int .i64 k.1.1,pInt k.1.1)],[(3,_,_),(4,_,_),(6,_,_),(10,h10, .own 149 5 1 [pInt A.syms, .val k.1.2.1, .val k.1.2.2.1, .val k.1.2.2.2.1, .val k.1.2.2.2.2.1]),(301,k.1.2.1, .own 36 1 k.1.2.2.2.2.2.2.2.length (k.1.2.2.2.2.2.2.2.map ZfX)),(302,k.1.2.2.1, .own 4 1 ((k.1.2.2.2.2.2.2.1.take k.1.1).map (ZbI A B op)).length (((k.1.2.2.2.2.2.2.1.take k.1.1).map (ZbI A B op)).map ζO)),(303,k.1.2.2.2.1, .own 3 1 (Zcl k.1.2.2.2.2.2.2.1).length ((Zcl k.1.2.2.2.2.2.2.1).map pInt)),(304,k.1.2.2.2.2.1, .own 3 1 (ZgD k.1.2.2.2.2.2.2.1).length ((ZgD k.1.2.2.2.2.2.2.1).map pInt)),(305,k.1.2.2.2.2.2.1, .own 263 2 k.1.2.2.2.2.2.2.1.length (k.1.2.2.2.2.2.2.1.flatMap cPr)),(306,h33, .omap (Zmm (Zbv ZcU 0 k.1.2.2.2.2.2.2.1)))]⟩) (fun k=>2000-k.1.1) ⟨(0,v301,v302,h28,h29,h32,[((0,0),(-1,-1))],[]),rfl,Nat.zero_le _,ho301,ho302,ho28,ho29,ho32⟩ (fun a w H=>H.weaken ⟨rfl,rfl,rfl,rfl,rfl,rfl,rfl,rfl,rfl,rfl,rfl,trivial⟩ ⟨rfl,rfl,rfl,rfl,rfl,rfl,rfl,rfl,rfl,rfl,trivial⟩) ?_
 rintro ⟨⟨i,r1,r2,r3,r4,r5,o,rows⟩,hU,hi,hr1,hr2,hr3,hr4,hr5⟩
 dsimp only
 dsimp only at hU hi hr1 hr2 hr3 hr4 hr5
 obtain ⟨hOk,hRl,_⟩:=Zhx hA hB hs hU
 have hRl:=hRl hi
 have hcap:o.length≤2000:=hOk.cap
 have hfl:((o.take i).map (ZbI A B op)).length≤2000:=by rw [List.length_map,List.length_take];omega
 have q1:En.one (PV.val r1)=true:=hr1
 have q2:En.one (PV.val r2)=true:=hr2
 have q3:En.one (PV.val r3)=true:=hr3
 have q4:En.one (PV.val r4)=true:=hr4
 refine nav ?_
 (refine ζa ?_<;>refine xL 36 ζd ?_<;>refine xL 37 ζd ?_<;>refine xL 38 (ZaC 305 ZeA) ?_<;>refine xL 39 ζS ?_<;>refine ζb (nav ?_)<;>try dsimp only)
 (first|refine cCd ?_ ?_|refine cC ?_ ?_)<;>intro hb39
 · first
   |exact Bool.noConfusion hb39
   | (
    obtain ⟨x,hx⟩:=ζm (show i<o.length by omega)
    have hxp:=hOk.p x (List.mem_of_getElem? hx)
    have hx1:x.1.1<A.n.toNat:=hxp.1
    have hx2:x.1.2<B.n.toNat:=hxp.2
    have e1:(o.flatMap cPr)[i*2+0]? =some (pInt (x.1.1:Nat)):=ZdK Zth hx (by decide)
    have e2:(o.flatMap cPr)[i*2+1]? =some (pInt (x.1.2:Nat)):=ZdK Zth hx (by decide)
    refine nav ?_
    (refine ζ4 (fun i=>([]:List Nat).elem i) [305] (by kernel_rfl) ?_<;>refine xD 0 42 rfl ζd ?_<;>refine xD 1 43 rfl ζd ?_<;>refine xD 2 44 rfl (Zaw 305 ZeA) ?_<;>refine xD 3 45 rfl (Zwe (len:=2) (i:=0) 305 (by kernel_rfl)) ?_<;>(refine yD 4 46 rfl (ζs 305 ζj) fun v46 h=>?_;cases h)<;>refine xD 5 47 rfl ζd ?_<;>refine xD 6 48 rfl ζd ?_<;>refine xD 7 49 rfl (Zaw 305 ZeA) ?_<;>refine xD 8 50 rfl (Zwe (len:=2) (i:=1) 305 (by kernel_rfl)) ?_<;>(refine yD 9 51 rfl (ζs 305 ζj) fun v51 h=>?_;cases h)<;>refine xE 10 14 rfl ζc ?_<;>refine xE 11 15 rfl ζc ?_<;>refine ZaM (by kernel_rfl) (nav ?_)<;>try dsimp only)
    (refine ζa ?_<;>refine xL 52 (ζh 3 ζ2) ?_<;>(refine yL 53 (ζs 3 ζj) fun v53 h=>?_;cases h)<;>(refine Ze6 (n:=A.syms.toNat) 54 ζi (fun h54 ho54=>?_) (hx:=by rw [hsN];exact rfl) (hy:=by rw [hsN];exact rfl) (hb:=by omega))<;>refine xL 16 ζc ?_<;>refine ζb (nav ?_)<;>try dsimp only)
    rw [←Zls]
    (refine ζa ?_<;>refine xL 55 ζd ?_<;>refine xL 56 (ZaC 54 ζn) ?_<;>refine xL 57 ζd ?_<;>refine ζb (nav ?_)<;>try dsimp only)
    refine ζy (ι:={q:Nat×Value×Value×Value×List PrS×List Nat//(Zbe A B).row i x o q.1=some (q.2.2.2.2.1,q.2.2.2.2.2)∧q.1≤A.syms.toNat∧q.2.1.oneCell'=true∧q.2.2.1.oneCell'=true∧q.2.2.2.1.oneCell'=true}) (fun k=>⟨[(2,_,_),(3,_,_),(4,_,_),(6,_,_),(7,_,_),(8,_,_),(9,_,_),(10,_,_),(12,_,_),(13,_,_),(14,_,_),(15,_,_),(16,_,_),(56,_,_),(11,k.1.2.2.2.1, .val k.1.2.2.2.1),(57, .int .i64 k.1.1,pInt k.1.1)],[(3,_,_),(4,_,_),(6,_,_),(301,_,_),(302,_,_),(10,h10, .own 149 5 1 [pInt A.syms, .val r1, .val r2, .val k.1.2.1, .val k.1.2.2.1]),(303,k.1.2.1, .own 3 1 (Zcl k.1.2.2.2.2.1).length ((Zcl k.1.2.2.2.2.1).map pInt)),(304,k.1.2.2.1, .own 3 1 (ZgD k.1.2.2.2.2.1).length ((ZgD k.1.2.2.2.2.1).map pInt)),(305,k.1.2.2.2.1, .own 263 2 k.1.2.2.2.2.1.length (k.1.2.2.2.2.1.flatMap cPr)),(306,h33, .omap (Zmm (Zbv ZcU 0 k.1.2.2.2.2.1))),(54,h54, .own 3 1 A.syms.toNat (vec A.syms.toNat fun j=>pInt (Zgo k.1.2.2.2.2.2 j)))]⟩) (fun k=>A.syms.toNat-k.1.1) ⟨(0,r3,r4,r5,o,[]),rfl,Nat.zero_le _,hr3,hr4,hr5⟩ (fun a w H=>H.weaken ⟨rfl,rfl,rfl,rfl,rfl,rfl,rfl,rfl,rfl,rfl,rfl,rfl,rfl,rfl,rfl,rfl,trivial⟩ ⟨rfl,rfl,rfl,rfl,rfl,rfl,rfl,rfl,rfl,rfl,rfl,trivial⟩) ?_
    rintro ⟨⟨s,r3',r4',r5',o',r⟩,hW,hsm,hr3',hr4',hr5'⟩
    dsimp only
    dsimp only at hW hsm hr3' hr4' hr5'
    obtain ⟨hMt,hpr,hrl,_⟩:=hOk.toMet.row (fun s hs'=>⟨hA.sl _ _ hx1 hs',hB.sl _ _ hx2 (by have:s<A.syms.toNat:=hs';omega)⟩) (show s≤(Zbe A B).m from hsm) hW
    have hcap':o'.length≤2000:=hMt.cap
    have hx':=ZbO hpr hx
    have hil:=ζe hx'
    have hpf:(Zcl o').length=o'.length:=by unfold Zcl;rw [List.length_map]
    have hps:(ZgD o').length=o'.length:=by unfold ZgD;rw [List.length_map]
    have q3':En.one (PV.val r3')=true:=hr3'
    have q4':En.one (PV.val r4')=true:=hr4'
    refine nav ?_
    (refine ζa ?_<;>refine xL 58 ζS ?_<;>refine ζb (nav ?_)<;>try dsimp only)
    (first|refine cCd ?_ ?_|refine cC ?_ ?_)<;>intro hb58
    · first
      |exact Bool.noConfusion hb58
      | (
       obtain ⟨mx,hm1,hm2,hm3⟩:=hA.mo x.1.1 s hx1 (by omega)
       obtain ⟨my,hn1,hn2,hn3⟩:=hB.mo x.1.2 s hx2 (by omega)
       have hml:=hA.ml x.1.1 hx1
       have hnl:=hB.ml x.1.2 hx2
       have d1:((List.range A.n.toNat).map fun s=>pMvs (movesOf A s))[x.1.1*1]? =some (pMvs (movesOf A x.1.1)):=by rw [Nat.mul_one,Zdt hx1]
       have d2:((List.range B.n.toNat).map fun s=>pMvs (movesOf B s))[x.1.2*1]? =some (pMvs (movesOf B x.1.2)):=by rw [Nat.mul_one,Zdt hx2]
       have d3:((movesOf A x.1.1).flatMap cMv)[s*3+1]? =some (pInt (stepA A x.1.1 s:Nat)):=by rw [←hm3];exact ZdK ζ0 hm1 (by decide)
       have d4:((movesOf B x.1.2).flatMap cMv)[s*3+1]? =some (pInt (stepA B x.1.2 s:Nat)):=by rw [←hn3];exact ZdK ζ0 hn1 (by decide)
       obtain ⟨y,hy⟩:∃y:PrS,y=(Zbe A B).step i x s:=⟨_,rfl⟩
       have hyk:ZcU y=(((stepA A x.1.1 s:Nat):Int),((stepA B x.1.2 s:Nat):Int)):=by rw [hy];rfl
       have hy2:y.2=(((i:Nat):Int),((s:Nat):Int)):=by rw [hy];rfl
       have hyp:ZoO A B y:=by rw [hy];exact ⟨hA.sl _ _ hx1 (by omega),hB.sl _ _ hx2 (by omega)⟩
       have hy11:y.1.1=stepA A x.1.1 s:=by rw [hy];rfl
       have hy12:y.1.2=stepA B x.1.2 s:=by rw [hy];rfl
       have hyp1:y.1.1<A.n.toNat:=hyp.1
       have hyp2:y.1.2<B.n.toNat:=hyp.2
       rw [←hy11] at d3
       rw [←hy12] at d4
       have hid:=Zx9 o' y
       have hlk:=Ztj o' y
       have hko:∀z∈Zbv ZcU 0 o',Zrx z.1:=fun z hz=>by
        have hz1:z.1∈(Zbv ZcU 0 o').map (·.1):=List.mem_map_of_mem hz
        rw [ZhS] at hz1
        obtain ⟨u,hu,hue⟩:=List.mem_map.1 hz1
        have hup:=hMt.p u hu
        have h1:u.1.1<A.n.toNat:=hup.1
        have h2:u.1.2<B.n.toNat:=hup.2
        rw [←hue]
        exact ⟨⟨by show (0:Int)≤(u.1.1:Nat);omega,by show ((u.1.1:Nat):Int)≤1000000;omega⟩,⟨by show (0:Int)≤(u.1.2:Nat);omega,by show ((u.1.2:Nat):Int)≤1000000;omega⟩⟩
       have hkn:((Zbv ZcU 0 o').map (·.1)).Nodup:=by
        rw [ZhS]
        have hnd:=hMt.nd
        refine Zdd (Zd5 hnd) fun u hu v hv e=>?_
        obtain ⟨i1,hi1⟩:=List.getElem?_of_mem hu
        obtain ⟨i2,hi2⟩:=List.getElem?_of_mem hv
        have p1:=Zdr hnd hi1
        have p2:=Zdr hnd hi2
        have e2:(Zbe A B).key u=(Zbe A B).key v:=Zpi.1 e
        rw [e2,p2] at p1
        rw [p1,hi1] at hi2
        exact Option.some.inj hi2
       have hky:Zrx (ZcU y):=⟨⟨by show (0:Int)≤(y.1.1:Nat);omega,by show ((y.1.1:Nat):Int)≤1000000;omega⟩,⟨by show (0:Int)≤(y.1.2:Nat);omega,by show ((y.1.2:Nat):Int)≤1000000;omega⟩⟩
       have e3:=ZfP A.syms.toNat (fun j=>pInt (Zgo r j))
       refine nav ?_
       (refine ζa ?_<;>refine xL 59 ζd ?_<;>refine xL 17 ζc ?_<;>refine ζb (nav ?_)<;>try dsimp only)
       (refine ζ4 (fun i=>([]:List Nat).elem i) [] (by kernel_rfl) ?_<;>refine xD 0 60 rfl ζd ?_<;>refine xD 1 61 rfl ZgU ?_<;>refine xD 2 62 rfl (ZgS Zbw) ?_<;>(refine yD 3 63 rfl (Za3 Zcn) fun v63 h=>?_;cases h)<;>refine xD 4 64 rfl ζd ?_<;>refine xD 5 65 rfl (ζJ Zco) ?_<;>(refine yD 6 66 rfl (Za3 ζA) fun v66 h=>?_;cases h)<;>refine xD 7 67 rfl ζd ?_<;>refine xD 8 68 rfl (ζJ ζG) ?_<;>refine xD 9 69 rfl (ZgS Zal) ?_<;>(refine yD 10 70 rfl (Za3 ζj) fun v70 h=>?_;cases h)<;>refine xD 11 71 rfl ζd ?_<;>refine xD 12 72 rfl ZgU ?_<;>refine xD 13 73 rfl (ZgS Zbw) ?_<;>(refine yD 14 74 rfl (Za3 Zcn) fun v74 h=>?_;cases h)<;>refine xD 15 75 rfl ζd ?_<;>refine xD 16 76 rfl (ζJ Zco) ?_<;>(refine yD 17 77 rfl (Za3 ζA) fun v77 h=>?_;cases h)<;>refine xD 18 78 rfl ζd ?_<;>refine xD 19 79 rfl (ζJ ζG) ?_<;>refine xD 20 80 rfl (ZgS Zal) ?_<;>(refine yD 21 81 rfl (Za3 ζj) fun v81 h=>?_;cases h)<;>refine xD 22 82 rfl (Zji Zf4 ZeB) ?_<;>(refine ζo 23 (by kernel_rfl) ?_)<;>(refine ζk rfl fun w9 M9 N9 DQ back=>?_)<;>refine ζr [(.int .i64 0),(.int .i64 0)] 2 18 ZeB fun h18=>?_<;>refine ζb (back _ (nrm ?_))<;>(refine ζo 24 (by kernel_rfl) ?_)<;>(refine ζk rfl fun w9 M9 N9 DQ back=>?_)<;>refine ζC 18 Znl ?_<;>refine ζb (back _ (nrm ?_))<;>refine ZaM (by kernel_rfl) (nav ?_)<;>try dsimp only)
       (refine ζa ?_<;>refine xL 84 ζd ?_<;>(refine yL 85 (ζp (k:=2) (ps:=[pInt (y.1.1:Nat),pInt (y.1.2:Nat)]) 18 (by kernel_rfl)) fun v85 h=>?_;cases h)<;>refine xL 86 (Zur (m:=Zbv ZcU 0 o') (k:=ZcU y) 306 tPi hko hkn hky hlk.1 hlk.2) ?_<;>refine xL 83 ζd ?_<;>refine xL 87 ζf ?_<;>refine xL 88 ζf ?_<;>refine xL 19 ζc ?_<;>refine xL 20 ζc ?_<;>refine ζb (nav ?_)<;>try dsimp only)
       (refine ζa ?_<;>refine xL 89 ζd ?_<;>refine xL 90 Zak ?_<;>refine ζb (nav ?_)<;>try dsimp only)
       refine Zrd (fun z:{z:Value×Value×Value×List PrS×Nat//z.1.oneCell'=true∧z.2.1.oneCell'=true∧z.2.2.1.oneCell'=true∧visit (Zbe A B).key (Zbe A B).cap o' ((Zbe A B).step i x s)=some (z.2.2.2.1,z.2.2.2.2)}=>⟨[(2, .int .i64 op,pInt op),(3,padd (sbase h3) 0, .val (padd (sbase h3) 0)),(4,padd (sbase h4) 0, .val (padd (sbase h4) 0)),(6,padd (sbase h6) 0, .val (padd (sbase h6) 0)),(7, .bool false,ζO false),(8,v22,pGr A),(9,v24,pGr B),(10,padd (sbase h10) 0, .val (padd (sbase h10) 0)),(11,z.1.2.2.1, .val z.1.2.2.1),(12,h33, .val h33),(13, .int .i64 i,pInt i),(14, .int .i64 x.1.1,pInt x.1.1),(15, .int .i64 x.1.2,pInt x.1.2),(16,h54, .val h54),(17, .int .i64 s,pInt s),(19, .int .i64 z.1.2.2.2.2,pInt z.1.2.2.2.2),(56, .int .i64 A.syms.toNat,pInt A.syms.toNat),(57, .int .i64 s,pInt s)],[(3,h3, .own 39 5 1 [pInt A.n,pInt A.syms,pInts A.start,pInts A.fin,pMvs A.moves]),(4,h4, .own 39 5 1 [pInt B.n,pInt B.syms,pInts B.start,pInts B.fin,pMvs B.moves]),(6,h6, .own 149 5 1 [pInt 0, .val (.slice none 0 0), .val (.slice none 0 0), .val (.slice none 0 0), .val (.slice none 0 0)]),(10,h10, .own 149 5 1 [pInt A.syms, .val r1, .val r2, .val z.1.1, .val z.1.2.1]),(301,r1, .own 36 1 rows.length (rows.map ZfX)),(302,r2, .own 4 1 ((o.take i).map (ZbI A B op)).length (((o.take i).map (ZbI A B op)).map ζO)),(303,z.1.1, .own 3 1 (Zcl z.1.2.2.2.1).length ((Zcl z.1.2.2.2.1).map pInt)),(304,z.1.2.1, .own 3 1 (ZgD z.1.2.2.2.1).length ((ZgD z.1.2.2.2.1).map pInt)),(305,z.1.2.2.1, .own 263 2 z.1.2.2.2.1.length (z.1.2.2.2.1.flatMap cPr)),(306,h33, .omap (Zmm (Zbv ZcU 0 z.1.2.2.2.1))),(54,h54, .own 3 1 A.syms.toNat (vec A.syms.toNat fun j=>pInt (Zgo r j)))]⟩) ?_ ?_
       · (first | refine cCd ?_ ?_|refine cC ?_ ?_)<;>intro hb90
         · first
           |exact Bool.noConfusion hb90
           | (
            have hnew:¬posK ZcU o' (ZcU y)<o'.length:=by simpa using hb90
            have hnew2:¬posK (Zbe A B).key o' ((Zbe A B).key ((Zbe A B).step i x s))<o'.length:=by
             rw [←hy]
             show ¬posK Prod.fst o' y.1<o'.length
             rw [←hid];exact hnew
            have hno:Zf7 (Zbv ZcU 0 o') (ZcU y)=none:=by rw [Zff,if_neg hnew]
            refine nav ?_
            (refine ζa ?_<;>refine xL 91 ζd ?_<;>refine xL 92 (ZaC 305 ZeA) ?_<;>refine xL 19 ζc ?_<;>refine ζb (nav ?_)<;>try dsimp only)
            (refine ζa ?_<;>refine xL 93 ζd ?_<;>refine xL 94 Zcc ?_<;>refine ζb (nav ?_)<;>try dsimp only)
            (first|refine cCd ?_ ?_|refine cC ?_ ?_)<;>intro hb94
            · first
              |exact Bool.noConfusion hb94
              | (
               refine nav ?_
               (refine ζa ?_<;>(refine yL 95 (ζp (k:=5) (ps:=[pInt A.syms,PV.val r1,PV.val r2,PV.val r3',PV.val r4']) 10 (by kernel_rfl)) fun v95 h=>?_;cases h)<;>refine ζC 6 Zad ?_<;>refine xL 7 ζc ?_<;>refine ζb (nav ?_)<;>try dsimp only)
               refine ζ6 (k:=5) 6 (by kernel_rfl) (Tryz.results169) rfl rfl rfl (Nat.le_of_ble_eq_true rfl) (by decide) rfl (.inr ⟨?_,_,_,_,_,_,rfl,hr1,hr2,hr3',hr4',rfl⟩)
               have hv:=Zjt hnew2 (show (Zbe A B).cap≤o'.length by show 2000≤o'.length;omega)
               have h1:=Srch.row_fails (Srch.row_out hW hv) (show s+1≤(Zbe A B).m by show s+1≤A.syms.toNat;omega)
               exact Srch.all_none (Srch.upto_out hU hx h1) (show i+1≤(Zbe A B).cap by show i+1≤2000;omega))
            · first
              |exact Bool.noConfusion hb94
              | (
               refine nav ?_
               (refine ζa ?_<;>refine xL 96 ζd ?_<;>(refine yL 97 (ζp (k:=2) (ps:=[pInt (y.1.1:Nat),pInt (y.1.2:Nat)]) 18 (by kernel_rfl)) fun v97 h=>?_;cases h)<;>refine xL 98 ζd ?_<;>(refine ZrA (m:=Zbv ZcU 0 o') (k:=ZcU y) 306 tPi hko hkn hky hno ?_;rw [show Zbv ZcU 0 o'++[(ZcU y,Value.int .i64 ((o'.length:Nat):Int))]=Zbv ZcU 0 (o'++[y]) by rw [ZlU,Nat.zero_add]])<;>refine ζb (nav ?_)<;>try dsimp only)
               (refine ζ4 (fun i=>([16,17,18]:List Nat).elem i) [10,18] (by kernel_rfl) ?_<;>refine xDT 0 99 rfl ζd ?_<;>(refine yDT 1 100 rfl (ζp (k:=2) (ps:=[pInt (y.1.1:Nat),pInt (y.1.2:Nat)]) 18 (by kernel_rfl)) fun v100 h=>?_;cases h)<;>refine xDT 4 103 rfl (ζh 10 ζU) ?_<;>(refine yDT 5 104 rfl (ζs 10 ζx) fun v104 h=>?_;cases h)<;>refine xDT 6 105 rfl ζd ?_<;>refine xDT 9 108 rfl (ζh 10 Zd9) ?_<;>(refine yDT 10 109 rfl (ζs 10 ζx) fun v109 h=>?_;cases h)<;>refine xDT 11 110 rfl ζd ?_<;>(refine Zei 2 7 12 (by kernel_rfl) ?_ ?_ ?_;rotate_right;(focus ((refine ζk rfl fun w9 M9 N9 DQ back=>?_)<;>refine ζI (kk:=1) 111 ζi fun h111 ho111=>?_<;>refine ζb (back _ (nrm ?_))<;>(refine Za0 2 7 (by kernel_rfl) ?_ ?_;rotate_right;(focus ((refine ζk rfl fun w9 M9 N9 DQ back=>?_)<;>refine ζI (kk:=1) 106 ζi fun h106 ho106=>?_<;>refine ζb (back _ (nrm ?_))<;>(refine ζo 2 (by kernel_rfl) ?_)<;>(refine ζk rfl fun w9 M9 N9 DQ back=>?_)<;>refine Zar 101 Zae fun h101 ho101=>?_<;>refine ζb (back _ (nrm ?_))<;>(refine ζo 3 (by kernel_rfl) ?_)<;>(refine ζk rfl fun w9 M9 N9 DQ back=>?_)<;>refine ζY 305 101 102 Zae fun h102 ho102=>?_<;>refine ζb (back _ (nrm ?_))<;>(refine ζo 8 (by kernel_rfl) ?_)<;>(refine ζk rfl fun w9 M9 N9 DQ back=>?_)<;>(refine ζY 303 106 107 ζi fun h107 ho107=>?_;have q107:En.one (PV.val h107)=true:=ho107)<;>refine ζb (back _ (nrm ?_))<;>(refine ζo 13 (by kernel_rfl) ?_)<;>(refine ζk rfl fun w9 M9 N9 DQ back=>?_)<;>(refine ζY 304 111 112 ζi fun h112 ho112=>?_;have q112:En.one (PV.val h112)=true:=ho112)<;>refine ζb (back _ (nrm ?_))<;>refine xE 14 11 rfl ζc ?_<;>refine xE 15 113 rfl (ζh 10 ζU) ?_));rotate_right;(focus ((refine ζk rfl fun w9 M9 N9 DQ back=>?_)<;>refine Zar 101 Zae fun h101 ho101=>?_<;>refine ζb (back _ (nrm ?_))<;>(refine Za0 3 7 (by kernel_rfl) ?_ ?_;rotate_right;(focus ((refine ζk rfl fun w9 M9 N9 DQ back=>?_)<;>refine ζI (kk:=1) 106 ζi fun h106 ho106=>?_<;>refine ζb (back _ (nrm ?_))<;>(refine ζo 3 (by kernel_rfl) ?_)<;>(refine ζk rfl fun w9 M9 N9 DQ back=>?_)<;>refine ζY 305 101 102 Zae fun h102 ho102=>?_<;>refine ζb (back _ (nrm ?_))<;>(refine ζo 8 (by kernel_rfl) ?_)<;>(refine ζk rfl fun w9 M9 N9 DQ back=>?_)<;>(refine ζY 303 106 107 ζi fun h107 ho107=>?_;have q107:En.one (PV.val h107)=true:=ho107)<;>refine ζb (back _ (nrm ?_))<;>(refine ζo 13 (by kernel_rfl) ?_)<;>(refine ζk rfl fun w9 M9 N9 DQ back=>?_)<;>(refine ζY 304 111 112 ζi fun h112 ho112=>?_;have q112:En.one (PV.val h112)=true:=ho112)<;>refine ζb (back _ (nrm ?_))<;>refine xE 14 11 rfl ζc ?_<;>refine xE 15 113 rfl (ζh 10 ζU) ?_));rotate_right;(focus ((refine ζk rfl fun w9 M9 N9 DQ back=>?_)<;>refine ζY 305 101 102 Zae fun h102 ho102=>?_<;>refine ζb (back _ (nrm ?_))<;>(refine ζo 7 (by kernel_rfl) ?_)<;>(refine ζk rfl fun w9 M9 N9 DQ back=>?_)<;>refine ζI (kk:=1) 106 ζi fun h106 ho106=>?_<;>refine ζb (back _ (nrm ?_))<;>(refine ζo 8 (by kernel_rfl) ?_)<;>(refine ζk rfl fun w9 M9 N9 DQ back=>?_)<;>(refine ζY 303 106 107 ζi fun h107 ho107=>?_;have q107:En.one (PV.val h107)=true:=ho107)<;>refine ζb (back _ (nrm ?_))<;>(refine ζo 13 (by kernel_rfl) ?_)<;>(refine ζk rfl fun w9 M9 N9 DQ back=>?_)<;>(refine ζY 304 111 112 ζi fun h112 ho112=>?_;have q112:En.one (PV.val h112)=true:=ho112)<;>refine ζb (back _ (nrm ?_))<;>refine xE 14 11 rfl ζc ?_<;>refine xE 15 113 rfl (ζh 10 ζU) ?_))))))));rotate_right;(focus ((refine ζk rfl fun w9 M9 N9 DQ back=>?_)<;>refine ζI (kk:=1) 106 ζi fun h106 ho106=>?_<;>refine ζb (back _ (nrm ?_))<;>(refine Za0 2 12 (by kernel_rfl) ?_ ?_;rotate_right;(focus ((refine ζk rfl fun w9 M9 N9 DQ back=>?_)<;>refine ζI (kk:=1) 111 ζi fun h111 ho111=>?_<;>refine ζb (back _ (nrm ?_))<;>(refine ζo 2 (by kernel_rfl) ?_)<;>(refine ζk rfl fun w9 M9 N9 DQ back=>?_)<;>refine Zar 101 Zae fun h101 ho101=>?_<;>refine ζb (back _ (nrm ?_))<;>(refine ζo 3 (by kernel_rfl) ?_)<;>(refine ζk rfl fun w9 M9 N9 DQ back=>?_)<;>refine ζY 305 101 102 Zae fun h102 ho102=>?_<;>refine ζb (back _ (nrm ?_))<;>(refine ζo 8 (by kernel_rfl) ?_)<;>(refine ζk rfl fun w9 M9 N9 DQ back=>?_)<;>(refine ζY 303 106 107 ζi fun h107 ho107=>?_;have q107:En.one (PV.val h107)=true:=ho107)<;>refine ζb (back _ (nrm ?_))<;>(refine ζo 13 (by kernel_rfl) ?_)<;>(refine ζk rfl fun w9 M9 N9 DQ back=>?_)<;>(refine ζY 304 111 112 ζi fun h112 ho112=>?_;have q112:En.one (PV.val h112)=true:=ho112)<;>refine ζb (back _ (nrm ?_))<;>refine xE 14 11 rfl ζc ?_<;>refine xE 15 113 rfl (ζh 10 ζU) ?_));rotate_right;(focus ((refine ζk rfl fun w9 M9 N9 DQ back=>?_)<;>refine Zar 101 Zae fun h101 ho101=>?_<;>refine ζb (back _ (nrm ?_))<;>(refine Za0 3 12 (by kernel_rfl) ?_ ?_;rotate_right;(focus ((refine ζk rfl fun w9 M9 N9 DQ back=>?_)<;>refine ζI (kk:=1) 111 ζi fun h111 ho111=>?_<;>refine ζb (back _ (nrm ?_))<;>(refine ζo 3 (by kernel_rfl) ?_)<;>(refine ζk rfl fun w9 M9 N9 DQ back=>?_)<;>refine ζY 305 101 102 Zae fun h102 ho102=>?_<;>refine ζb (back _ (nrm ?_))<;>(refine ζo 8 (by kernel_rfl) ?_)<;>(refine ζk rfl fun w9 M9 N9 DQ back=>?_)<;>(refine ζY 303 106 107 ζi fun h107 ho107=>?_;have q107:En.one (PV.val h107)=true:=ho107)<;>refine ζb (back _ (nrm ?_))<;>(refine ζo 13 (by kernel_rfl) ?_)<;>(refine ζk rfl fun w9 M9 N9 DQ back=>?_)<;>(refine ζY 304 111 112 ζi fun h112 ho112=>?_;have q112:En.one (PV.val h112)=true:=ho112)<;>refine ζb (back _ (nrm ?_))<;>refine xE 14 11 rfl ζc ?_<;>refine xE 15 113 rfl (ζh 10 ζU) ?_));rotate_right;(focus ((refine ζk rfl fun w9 M9 N9 DQ back=>?_)<;>refine ζY 305 101 102 Zae fun h102 ho102=>?_<;>refine ζb (back _ (nrm ?_))<;>(refine Za0 8 12 (by kernel_rfl) ?_ ?_;rotate_right;(focus ((refine ζk rfl fun w9 M9 N9 DQ back=>?_)<;>refine ζI (kk:=1) 111 ζi fun h111 ho111=>?_<;>refine ζb (back _ (nrm ?_))<;>(refine ζo 8 (by kernel_rfl) ?_)<;>(refine ζk rfl fun w9 M9 N9 DQ back=>?_)<;>(refine ζY 303 106 107 ζi fun h107 ho107=>?_;have q107:En.one (PV.val h107)=true:=ho107)<;>refine ζb (back _ (nrm ?_))<;>(refine ζo 13 (by kernel_rfl) ?_)<;>(refine ζk rfl fun w9 M9 N9 DQ back=>?_)<;>(refine ζY 304 111 112 ζi fun h112 ho112=>?_;have q112:En.one (PV.val h112)=true:=ho112)<;>refine ζb (back _ (nrm ?_))<;>refine xE 14 11 rfl ζc ?_<;>refine xE 15 113 rfl (ζh 10 ζU) ?_));rotate_right;(focus ((refine ζk rfl fun w9 M9 N9 DQ back=>?_)<;>(refine ζY 303 106 107 ζi fun h107 ho107=>?_;have q107:En.one (PV.val h107)=true:=ho107)<;>refine ζb (back _ (nrm ?_))<;>(refine ζo 12 (by kernel_rfl) ?_)<;>(refine ζk rfl fun w9 M9 N9 DQ back=>?_)<;>refine ζI (kk:=1) 111 ζi fun h111 ho111=>?_<;>refine ζb (back _ (nrm ?_))<;>(refine ζo 13 (by kernel_rfl) ?_)<;>(refine ζk rfl fun w9 M9 N9 DQ back=>?_)<;>(refine ζY 304 111 112 ζi fun h112 ho112=>?_;have q112:En.one (PV.val h112)=true:=ho112)<;>refine ζb (back _ (nrm ?_))<;>refine xE 14 11 rfl ζc ?_<;>refine xE 15 113 rfl (ζh 10 ζU) ?_)))))))))));rotate_right;(focus ((refine ζk rfl fun w9 M9 N9 DQ back=>?_)<;>refine Zar 101 Zae fun h101 ho101=>?_<;>refine ζb (back _ (nrm ?_))<;>(refine Zei 3 7 12 (by kernel_rfl) ?_ ?_ ?_;rotate_right;(focus ((refine ζk rfl fun w9 M9 N9 DQ back=>?_)<;>refine ζI (kk:=1) 111 ζi fun h111 ho111=>?_<;>refine ζb (back _ (nrm ?_))<;>(refine Za0 3 7 (by kernel_rfl) ?_ ?_;rotate_right;(focus ((refine ζk rfl fun w9 M9 N9 DQ back=>?_)<;>refine ζI (kk:=1) 106 ζi fun h106 ho106=>?_<;>refine ζb (back _ (nrm ?_))<;>(refine ζo 3 (by kernel_rfl) ?_)<;>(refine ζk rfl fun w9 M9 N9 DQ back=>?_)<;>refine ζY 305 101 102 Zae fun h102 ho102=>?_<;>refine ζb (back _ (nrm ?_))<;>(refine ζo 8 (by kernel_rfl) ?_)<;>(refine ζk rfl fun w9 M9 N9 DQ back=>?_)<;>(refine ζY 303 106 107 ζi fun h107 ho107=>?_;have q107:En.one (PV.val h107)=true:=ho107)<;>refine ζb (back _ (nrm ?_))<;>(refine ζo 13 (by kernel_rfl) ?_)<;>(refine ζk rfl fun w9 M9 N9 DQ back=>?_)<;>(refine ζY 304 111 112 ζi fun h112 ho112=>?_;have q112:En.one (PV.val h112)=true:=ho112)<;>refine ζb (back _ (nrm ?_))<;>refine xE 14 11 rfl ζc ?_<;>refine xE 15 113 rfl (ζh 10 ζU) ?_));rotate_right;(focus ((refine ζk rfl fun w9 M9 N9 DQ back=>?_)<;>refine ζY 305 101 102 Zae fun h102 ho102=>?_<;>refine ζb (back _ (nrm ?_))<;>(refine ζo 7 (by kernel_rfl) ?_)<;>(refine ζk rfl fun w9 M9 N9 DQ back=>?_)<;>refine ζI (kk:=1) 106 ζi fun h106 ho106=>?_<;>refine ζb (back _ (nrm ?_))<;>(refine ζo 8 (by kernel_rfl) ?_)<;>(refine ζk rfl fun w9 M9 N9 DQ back=>?_)<;>(refine ζY 303 106 107 ζi fun h107 ho107=>?_;have q107:En.one (PV.val h107)=true:=ho107)<;>refine ζb (back _ (nrm ?_))<;>(refine ζo 13 (by kernel_rfl) ?_)<;>(refine ζk rfl fun w9 M9 N9 DQ back=>?_)<;>(refine ζY 304 111 112 ζi fun h112 ho112=>?_;have q112:En.one (PV.val h112)=true:=ho112)<;>refine ζb (back _ (nrm ?_))<;>refine xE 14 11 rfl ζc ?_<;>refine xE 15 113 rfl (ζh 10 ζU) ?_)))));rotate_right;(focus ((refine ζk rfl fun w9 M9 N9 DQ back=>?_)<;>refine ζI (kk:=1) 106 ζi fun h106 ho106=>?_<;>refine ζb (back _ (nrm ?_))<;>(refine Za0 3 12 (by kernel_rfl) ?_ ?_;rotate_right;(focus ((refine ζk rfl fun w9 M9 N9 DQ back=>?_)<;>refine ζI (kk:=1) 111 ζi fun h111 ho111=>?_<;>refine ζb (back _ (nrm ?_))<;>(refine ζo 3 (by kernel_rfl) ?_)<;>(refine ζk rfl fun w9 M9 N9 DQ back=>?_)<;>refine ζY 305 101 102 Zae fun h102 ho102=>?_<;>refine ζb (back _ (nrm ?_))<;>(refine ζo 8 (by kernel_rfl) ?_)<;>(refine ζk rfl fun w9 M9 N9 DQ back=>?_)<;>(refine ζY 303 106 107 ζi fun h107 ho107=>?_;have q107:En.one (PV.val h107)=true:=ho107)<;>refine ζb (back _ (nrm ?_))<;>(refine ζo 13 (by kernel_rfl) ?_)<;>(refine ζk rfl fun w9 M9 N9 DQ back=>?_)<;>(refine ζY 304 111 112 ζi fun h112 ho112=>?_;have q112:En.one (PV.val h112)=true:=ho112)<;>refine ζb (back _ (nrm ?_))<;>refine xE 14 11 rfl ζc ?_<;>refine xE 15 113 rfl (ζh 10 ζU) ?_));rotate_right;(focus ((refine ζk rfl fun w9 M9 N9 DQ back=>?_)<;>refine ζY 305 101 102 Zae fun h102 ho102=>?_<;>refine ζb (back _ (nrm ?_))<;>(refine Za0 8 12 (by kernel_rfl) ?_ ?_;rotate_right;(focus ((refine ζk rfl fun w9 M9 N9 DQ back=>?_)<;>refine ζI (kk:=1) 111 ζi fun h111 ho111=>?_<;>refine ζb (back _ (nrm ?_))<;>(refine ζo 8 (by kernel_rfl) ?_)<;>(refine ζk rfl fun w9 M9 N9 DQ back=>?_)<;>(refine ζY 303 106 107 ζi fun h107 ho107=>?_;have q107:En.one (PV.val h107)=true:=ho107)<;>refine ζb (back _ (nrm ?_))<;>(refine ζo 13 (by kernel_rfl) ?_)<;>(refine ζk rfl fun w9 M9 N9 DQ back=>?_)<;>(refine ζY 304 111 112 ζi fun h112 ho112=>?_;have q112:En.one (PV.val h112)=true:=ho112)<;>refine ζb (back _ (nrm ?_))<;>refine xE 14 11 rfl ζc ?_<;>refine xE 15 113 rfl (ζh 10 ζU) ?_));rotate_right;(focus ((refine ζk rfl fun w9 M9 N9 DQ back=>?_)<;>(refine ζY 303 106 107 ζi fun h107 ho107=>?_;have q107:En.one (PV.val h107)=true:=ho107)<;>refine ζb (back _ (nrm ?_))<;>(refine ζo 12 (by kernel_rfl) ?_)<;>(refine ζk rfl fun w9 M9 N9 DQ back=>?_)<;>refine ζI (kk:=1) 111 ζi fun h111 ho111=>?_<;>refine ζb (back _ (nrm ?_))<;>(refine ζo 13 (by kernel_rfl) ?_)<;>(refine ζk rfl fun w9 M9 N9 DQ back=>?_)<;>(refine ζY 304 111 112 ζi fun h112 ho112=>?_;have q112:En.one (PV.val h112)=true:=ho112)<;>refine ζb (back _ (nrm ?_))<;>refine xE 14 11 rfl ζc ?_<;>refine xE 15 113 rfl (ζh 10 ζU) ?_))))))));rotate_right;(focus ((refine ζk rfl fun w9 M9 N9 DQ back=>?_)<;>refine ζY 305 101 102 Zae fun h102 ho102=>?_<;>refine ζb (back _ (nrm ?_))<;>(refine Za0 7 12 (by kernel_rfl) ?_ ?_;rotate_right;(focus ((refine ζk rfl fun w9 M9 N9 DQ back=>?_)<;>refine ζI (kk:=1) 111 ζi fun h111 ho111=>?_<;>refine ζb (back _ (nrm ?_))<;>(refine ζo 7 (by kernel_rfl) ?_)<;>(refine ζk rfl fun w9 M9 N9 DQ back=>?_)<;>refine ζI (kk:=1) 106 ζi fun h106 ho106=>?_<;>refine ζb (back _ (nrm ?_))<;>(refine ζo 8 (by kernel_rfl) ?_)<;>(refine ζk rfl fun w9 M9 N9 DQ back=>?_)<;>(refine ζY 303 106 107 ζi fun h107 ho107=>?_;have q107:En.one (PV.val h107)=true:=ho107)<;>refine ζb (back _ (nrm ?_))<;>(refine ζo 13 (by kernel_rfl) ?_)<;>(refine ζk rfl fun w9 M9 N9 DQ back=>?_)<;>(refine ζY 304 111 112 ζi fun h112 ho112=>?_;have q112:En.one (PV.val h112)=true:=ho112)<;>refine ζb (back _ (nrm ?_))<;>refine xE 14 11 rfl ζc ?_<;>refine xE 15 113 rfl (ζh 10 ζU) ?_));rotate_right;(focus ((refine ζk rfl fun w9 M9 N9 DQ back=>?_)<;>refine ζI (kk:=1) 106 ζi fun h106 ho106=>?_<;>refine ζb (back _ (nrm ?_))<;>(refine Za0 8 12 (by kernel_rfl) ?_ ?_;rotate_right;(focus ((refine ζk rfl fun w9 M9 N9 DQ back=>?_)<;>refine ζI (kk:=1) 111 ζi fun h111 ho111=>?_<;>refine ζb (back _ (nrm ?_))<;>(refine ζo 8 (by kernel_rfl) ?_)<;>(refine ζk rfl fun w9 M9 N9 DQ back=>?_)<;>(refine ζY 303 106 107 ζi fun h107 ho107=>?_;have q107:En.one (PV.val h107)=true:=ho107)<;>refine ζb (back _ (nrm ?_))<;>(refine ζo 13 (by kernel_rfl) ?_)<;>(refine ζk rfl fun w9 M9 N9 DQ back=>?_)<;>(refine ζY 304 111 112 ζi fun h112 ho112=>?_;have q112:En.one (PV.val h112)=true:=ho112)<;>refine ζb (back _ (nrm ?_))<;>refine xE 14 11 rfl ζc ?_<;>refine xE 15 113 rfl (ζh 10 ζU) ?_));rotate_right;(focus ((refine ζk rfl fun w9 M9 N9 DQ back=>?_)<;>(refine ζY 303 106 107 ζi fun h107 ho107=>?_;have q107:En.one (PV.val h107)=true:=ho107)<;>refine ζb (back _ (nrm ?_))<;>(refine ζo 12 (by kernel_rfl) ?_)<;>(refine ζk rfl fun w9 M9 N9 DQ back=>?_)<;>refine ζI (kk:=1) 111 ζi fun h111 ho111=>?_<;>refine ζb (back _ (nrm ?_))<;>(refine ζo 13 (by kernel_rfl) ?_)<;>(refine ζk rfl fun w9 M9 N9 DQ back=>?_)<;>(refine ζY 304 111 112 ζi fun h112 ho112=>?_;have q112:En.one (PV.val h112)=true:=ho112)<;>refine ζb (back _ (nrm ?_))<;>refine xE 14 11 rfl ζc ?_<;>refine xE 15 113 rfl (ζh 10 ζU) ?_))))))))))))<;>(refine ζo 16 (by kernel_rfl) ?_)<;>(refine Zgq rfl rfl fun DQ back=>?_)<;>refine Zc1 10 ζx Zbo ?_<;>refine ζb (back _ ?_)<;>(refine Zdp 17 (by kernel_rfl) rfl rfl fun DQ back=>?_)<;>refine xL 114 (ζh 10 Zd9) ?_<;>refine ζb (back _ ?_)<;>(refine Zdp 18 (by kernel_rfl) rfl rfl fun DQ back=>?_)<;>refine Zc1 10 ζx Zbo ?_<;>refine ζb (back _ ?_)<;>refine Zjn (by kernel_rfl) (nav ?_)<;>try dsimp only)<;>(
                first
                 | (refine ZbJ (ζD (l:=102) 305 rfl rfl) fun _=>?_
                    refine ZbJ (ζN (l:=305) rfl (Zti _ o' y)) fun _=>?_
                    refine ZbJ (ζD (l:=107) 303 rfl rfl) fun _=>?_
                    refine ZbJ (ζN (l:=303) (p':= .own 3 1 (Zcl (o'++[y])).length ((Zcl (o'++[y])).map pInt)) rfl ((ZcN _ (Zcl o') i).trans (by rw [ZlV,hy2]))) fun _=>?_
                    refine ZbJ (ζD (l:=112) 304 rfl rfl) fun _=>?_
                    refine ZbJ (ζN (l:=304) (p':= .own 3 1 (ZgD (o'++[y])).length ((ZgD (o'++[y])).map pInt)) rfl ((ZcN _ (ZgD o') s).trans (by rw [Zpj,hy2]))) fun _=>?_
                    exact ZfG ⟨(h107,h112,h102,o'++[y],o'.length),ho107,ho112,ho102,by dsimp only;rw [hy];exact Zbd hnew2 (show o'.length<2000 by omega)⟩ ⟨rfl,rfl,rfl,rfl,rfl,rfl,rfl,rfl,rfl,rfl,rfl,rfl,rfl,rfl,rfl,rfl,rfl,rfl,trivial⟩ ⟨rfl,rfl,rfl,rfl,rfl,rfl,rfl,rfl,rfl,rfl,rfl,trivial⟩)
                 |exact ZfG ⟨(r3',r4',r5',o',posK ZcU o' (ZcU y)),hr3',hr4',hr5',by dsimp only;rw [hid,hy];exact Zbc hold2⟩ ⟨rfl,rfl,rfl,rfl,rfl,rfl,rfl,rfl,rfl,rfl,rfl,rfl,rfl,rfl,rfl,rfl,rfl,rfl,trivial⟩ ⟨rfl,rfl,rfl,rfl,rfl,rfl,rfl,rfl,rfl,rfl,rfl,trivial⟩)))
         · first
           |exact Bool.noConfusion hb90
           | (
            have hold:posK ZcU o' (ZcU y)<o'.length:=by simpa using hb90
            have hold2:posK (Zbe A B).key o' ((Zbe A B).key ((Zbe A B).step i x s))<o'.length:=by
             rw [←hy]
             show posK Prod.fst o' y.1<o'.length
             rw [←hid];exact hold
            rw [if_pos hold]
            refine nav ?_
            first
             | (refine ZbJ (ζD (l:=102) 305 rfl rfl) fun _=>?_
                refine ZbJ (ζN (l:=305) rfl (Zti _ o' y)) fun _=>?_
                refine ZbJ (ζD (l:=107) 303 rfl rfl) fun _=>?_
                refine ZbJ (ζN (l:=303) (p':= .own 3 1 (Zcl (o'++[y])).length ((Zcl (o'++[y])).map pInt)) rfl ((ZcN _ (Zcl o') i).trans (by rw [ZlV,hy2]))) fun _=>?_
                refine ZbJ (ζD (l:=112) 304 rfl rfl) fun _=>?_
                refine ZbJ (ζN (l:=304) (p':= .own 3 1 (ZgD (o'++[y])).length ((ZgD (o'++[y])).map pInt)) rfl ((ZcN _ (ZgD o') s).trans (by rw [Zpj,hy2]))) fun _=>?_
                exact ZfG ⟨(h107,h112,h102,o'++[y],o'.length),ho107,ho112,ho102,by dsimp only;rw [hy];exact Zbd hnew2 (show o'.length<2000 by omega)⟩ ⟨rfl,rfl,rfl,rfl,rfl,rfl,rfl,rfl,rfl,rfl,rfl,rfl,rfl,rfl,rfl,rfl,rfl,rfl,trivial⟩ ⟨rfl,rfl,rfl,rfl,rfl,rfl,rfl,rfl,rfl,rfl,rfl,trivial⟩)
             |exact ZfG ⟨(r3',r4',r5',o',posK ZcU o' (ZcU y)),hr3',hr4',hr5',by dsimp only;rw [hid,hy];exact Zbc hold2⟩ ⟨rfl,rfl,rfl,rfl,rfl,rfl,rfl,rfl,rfl,rfl,rfl,rfl,rfl,rfl,rfl,rfl,rfl,rfl,trivial⟩ ⟨rfl,rfl,rfl,rfl,rfl,rfl,rfl,rfl,rfl,rfl,rfl,trivial⟩)
       · rintro ⟨⟨g3,g4,g5,o2,n2⟩,w3,w4,w5,hvis⟩
         dsimp only at w3 w4 w5 hvis ⊢
         refine nav ?_
         (refine ζa ?_<;>refine xL 115 ζd ?_<;>refine xL 116 ζd ?_<;>refine xL 117 ζd ?_<;>refine xL 118 (Zaw 54 ζn) ?_<;>refine Zc1 54 ζj Zbq ?_<;>refine ζb (nav ?_)<;>try dsimp only)
         (refine ζa ?_<;>refine xL 119 ζM ?_<;>refine xL 57 ζd ?_<;>refine ζb (nav ?_)<;>try dsimp only)
         rw [show s*1=r.length*1 by omega,ZhB _ (by omega)]
         refine ζl (
          ⟨(s+1,g3,g4,g5,o2,r++[n2]),Srch.row_snoc hW hvis,(by dsimp only;omega),w3,w4,w5⟩
          ) (by dsimp only;omega) ⟨rfl,rfl,rfl,rfl,rfl,rfl,rfl,rfl,rfl,rfl,rfl,rfl,rfl,rfl,rfl,rfl,trivial⟩ ⟨rfl,rfl,rfl,rfl,rfl,rfl,rfl,rfl,rfl,rfl,rfl,trivial⟩)
    · first
      |exact Bool.noConfusion hb58
      | (
       have hse:s=A.syms.toNat:=by omega
       subst hse
       have hU2:=Srch.upto_snoc hU hx hW
       have htk:o'.take (i+1)=(o.take i)++[x]:=by
        rw [ζH hx']
        obtain ⟨e,rfl⟩:=hpr
        rw [List.take_append_of_le_length hi]
       have f1:((List.range A.n.toNat).map fun s=>ζO (Zgh A (s:Nat)))[x.1.1*1]? =some (ζO (Zgh A (x.1.1:Nat))):=by rw [Nat.mul_one,Zdt hx1]
       have f2:((List.range B.n.toNat).map fun s=>ζO (Zgh B (s:Nat)))[x.1.2*1]? =some (ζO (Zgh B (x.1.2:Nat))):=by rw [Nat.mul_one,Zdt hx2]
       refine nav ?_
       refine ζv (En.freeze (l:=54) (t:=16) rfl rfl) fun _=>?_
       rw [Zlt _ _ _ hrl]
       (refine ζ4 (fun i=>([29,30,31,32]:List Nat).elem i) [10] (by kernel_rfl) ?_<;>refine xDT 0 120 rfl (ζh 10 Zb9) ?_<;>refine xDT 1 121 rfl (ζh 10 ZaV) ?_<;>(refine yDT 2 122 rfl (ζs 10 ZbB) fun v122 h=>?_;cases h)<;>refine xDT 3 123 rfl ζd ?_<;>refine xDT 6 126 rfl (ζh 10 Zb9) ?_<;>refine xDT 7 127 rfl (ζh 10 Zbf) ?_<;>(refine yDT 8 128 rfl (ζs 10 ZaO) fun v128 h=>?_;cases h)<;>refine xDT 9 129 rfl ζd ?_<;>refine xDT 10 130 rfl ζd ?_<;>refine xDT 11 131 rfl ZgU ?_<;>refine xDT 12 132 rfl (ZgS ZcJ) ?_<;>(refine yDT 13 133 rfl (Za3 ZaO) fun v133 h=>?_;cases h)<;>refine xDT 14 134 rfl ζd ?_<;>refine xDT 15 135 rfl (ζJ Zbg) ?_<;>(refine yDT 16 136 rfl (Za3 Zds) fun v136 h=>?_;cases h)<;>refine xDT 17 137 rfl ζd ?_<;>refine xDT 18 138 rfl ZgU ?_<;>refine xDT 19 139 rfl (ZgS ZcJ) ?_<;>(refine yDT 20 140 rfl (Za3 ZaO) fun v140 h=>?_;cases h)<;>refine xDT 21 141 rfl ζd ?_<;>refine xDT 22 142 rfl (ζJ Zbg) ?_<;>(refine yDT 23 143 rfl (Za3 Zds) fun v143 h=>?_;cases h)<;>(refine ζo 4 (by kernel_rfl) ?_)<;>(refine ζk rfl fun w9 M9 N9 DQ back=>?_)<;>refine ζI (kk:=1) 124 Zbi fun h124 ho124=>?_<;>refine ζb (back _ (nrm ?_))<;>(refine ζo 5 (by kernel_rfl) ?_)<;>(refine ζk rfl fun w9 M9 N9 DQ back=>?_)<;>(refine ζY 301 124 125 Zbi fun h125 ho125=>?_;have q125:En.one (PV.val h125)=true:=ho125)<;>refine ζb (back _ (nrm ?_))<;>refine xDT 27 147 rfl (ζh 10 Zb9) ?_<;>refine xDT 28 148 rfl (ζh 10 ZaV) ?_<;>(refine ζo 24 (by kernel_rfl) ?_)<;>(refine Zbk (d:=144) rfl (cA Tryz.call213 (Zqw op (Zgh A (x.1.1:Nat)) (Zgh B (x.1.2:Nat)))) fun v144 h=>?_;cases h)<;>(refine ζo 25 (by kernel_rfl) ?_)<;>(refine ζk rfl fun w9 M9 N9 DQ back=>?_)<;>refine ζI (kk:=1) 145 Zcp fun h145 ho145=>?_<;>refine ζb (back _ (nrm ?_))<;>(refine ζo 26 (by kernel_rfl) ?_)<;>(refine ζk rfl fun w9 M9 N9 DQ back=>?_)<;>(refine ζY 302 145 146 Zcp fun h146 ho146=>?_;have q146:En.one (PV.val h146)=true:=ho146)<;>refine ζb (back _ (nrm ?_))<;>(refine ζo 29 (by kernel_rfl) ?_)<;>(refine Zgq rfl rfl fun DQ back=>?_)<;>refine Zc1 10 ZbB ZiP ?_<;>refine ζb (back _ ?_)<;>(refine Zdp 30 (by kernel_rfl) rfl rfl fun DQ back=>?_)<;>refine xL 149 (ζh 10 Zb9) ?_<;>refine ζb (back _ ?_)<;>(refine Zdp 31 (by kernel_rfl) rfl rfl fun DQ back=>?_)<;>refine xL 150 (ζh 10 Zbf) ?_<;>refine ζb (back _ ?_)<;>(refine Zdp 32 (by kernel_rfl) rfl rfl fun DQ back=>?_)<;>refine Zc1 10 ZaO ZiQ ?_<;>refine ζb (back _ ?_)<;>refine Zjn (by kernel_rfl) (nav ?_)<;>try dsimp only)
       refine ζv (ζD (l:=125) 301 rfl rfl) fun _=>?_
       refine ζv (ζD (l:=146) 302 rfl rfl) fun _=>?_
       refine ζv (ζN (l:=301) rfl (Zlu _ rows r)) fun _=>?_
       refine ζv (ζN (l:=302) rfl (ZiR _ ((o.take i).map (ZbI A B op)) (ZbI A B op x))) fun _=>?_
       rw [show ((o.take i).map (ZbI A B op))++[ZbI A B op x]=(o'.take (i+1)).map (ZbI A B op) by rw [htk,List.map_append];rfl]
       (refine ζa ?_<;>refine xL 40 ζd ?_<;>refine xL 41 ζM ?_<;>refine xL 13 ζc ?_<;>refine ζb (nav ?_)<;>try dsimp only)
       refine ζl (
        ⟨(i+1,h125,h146,r3',r4',r5',o',rows++[r]),hU2,(by dsimp only;omega),ho125,ho146,hr3',hr4',hr5'⟩
        ) (by dsimp only;omega) ⟨rfl,rfl,rfl,rfl,rfl,rfl,rfl,rfl,rfl,rfl,rfl,trivial⟩ ⟨rfl,rfl,rfl,rfl,rfl,rfl,rfl,rfl,rfl,rfl,trivial⟩))
 · first
   |exact Bool.noConfusion hb39
   | (
    have hio:i=o.length:=by omega
    subst hio
    refine nav ?_
    refine ζv (Zaj (l:=10) (l':=301) (j:=1) rfl rfl rfl rfl) fun _=>?_
    refine ζv (Zaj (l:=10) (l':=302) (j:=2) rfl rfl rfl rfl) fun _=>?_
    refine ζv (Zaj (l:=10) (l':=303) (j:=3) rfl rfl rfl rfl) fun _=>?_
    refine ζv (Zaj (l:=10) (l':=304) (j:=4) rfl rfl rfl rfl) fun _=>?_
    rw [ZhC _ _ _ rfl,Zgj _ _ _ rfl,ζL _ _ _ rfl,ζL _ _ _ rfl]
    (refine ζa ?_<;>(refine yL 151 (ζp 10 Zad) fun v151 h=>?_;cases h)<;>refine ζC 6 Zad ?_<;>refine xL 7 ζc ?_<;>refine ζb (nav ?_)<;>try dsimp only)
    refine ζ6 (k:=5) 6 (by kernel_rfl) (Tryz.results169) rfl rfl rfl (Nat.le_of_ble_eq_true rfl) (by decide) rfl (.inl ⟨(o,rows),Srch.all_some hU (Nat.le_refl _) (show o.length≤(Zbe A B).cap from hcap),?_⟩)
    unfold Zgk
    dsimp only
    rw [List.take_length,hsN];rfl)
theorem ZlW (l:List Bool):AF Tryz.prog 170 [.sl l.length (l.map ζO),ζO true] (· =pInt (idx (fun x=>x==true) l)):=by
 refine AF.of_body 19 Tryz.func170 rfl Tryz.ntmps170 (Nat.le_of_ble_eq_true rfl) ?_
 intro w0 M0 vs hl hv
 obtain ⟨v0,v1,rfl⟩:=Zb3 hl
 obtain rfl:=hv 1 _ _ rfl rfl
 clear hl hv
 refine Zba 0 rfl fun hlen=>?_
 refine nav ?_
 (refine ζa ?_<;>refine xL 4 ζc ?_<;>refine ζb (nav ?_)<;>try dsimp only)
 (refine ζa ?_<;>refine xL 6 ζd ?_<;>refine xL 7 (ζV Zbg) ?_<;>refine xL 8 ζd ?_<;>refine ζb (nav ?_)<;>try dsimp only)
 refine ζy (ι:={k:Nat//k≤l.length∧∀i y,i<k→l[i]? =some y→(y==true)=false}) (fun k=>⟨[(0,_,_),(1,_,_),(7,_,_),(8, .int .i64 k.1,pInt k.1)],[]⟩) (fun k=>l.length-k.1) ⟨0,by omega,by omega⟩ (fun a w H=>H.weaken ⟨rfl,rfl,rfl,rfl,trivial⟩ trivial) ?_
 rintro ⟨k,hk,hp⟩
 dsimp only
 refine nav ?_
 (refine ζa ?_<;>refine xL 9 ζS ?_<;>refine ζb (nav ?_)<;>try dsimp only)
 (first|refine cCd ?_ ?_|refine cC ?_ ?_)<;>intro hb9
 · first
   |exact Bool.noConfusion hb9
   | (
    obtain ⟨x,hx⟩:=ζm (show k<l.length by omega)
    have e1:=Zaf (f:=ζO) hx
    refine nav ?_
    (refine ζa ?_<;>refine xL 10 ζd ?_<;>refine xL 5 ζc ?_<;>refine ζb (nav ?_)<;>try dsimp only)
    (refine ζa ?_<;>refine xL 11 ζd ?_<;>refine xL 12 ζd ?_<;>refine xL 13 ζd ?_<;>refine xL 14 (ζJ Zbg) ?_<;>(refine yL 15 (Za3 Zds) fun v15 h=>?_;cases h)<;>refine xL 16 (Zzj Tryz.underlying4) ?_<;>refine ζb (nav ?_)<;>try dsimp only)
    (first|refine cCd ?_ ?_|refine cC ?_ ?_)<;>intro hb16
    · first
      |exact Bool.noConfusion hb16
      | (
       have hx1:(x==true)=true:=by cases x<;>simp_all
       refine nav ?_
       (refine ζa ?_<;>refine xL 17 ζd ?_<;>refine xL 4 ζc ?_<;>refine ζb (nav ?_)<;>try dsimp only)
       refine ζt (Tryz.results170) rfl ?_
       rw [Zdm hp hx hx1])
    · first
      |exact Bool.noConfusion hb16
      | (
       have hx1:(x==true)=false:=by cases x<;>simp_all
       refine nav ?_
       (refine ζa ?_<;>refine xL 18 ζM ?_<;>refine xL 8 ζd ?_<;>refine ζb (nav ?_)<;>try dsimp only)
       refine ζl (
        ⟨k+1,by omega,fun i y hi hy=>by
         by_cases e:i=k
         · subst e;rw [hx] at hy;cases hy;exact hx1
         · exact hp i y (by omega) hy⟩
        ) (by dsimp only;omega) ⟨rfl,rfl,rfl,rfl,trivial⟩ trivial))
 · first
   |exact Bool.noConfusion hb9
   | (
    refine nav ?_
    (refine ζa ?_<;>refine xL 4 ζc ?_<;>refine ζb (nav ?_)<;>try dsimp only)
    refine ζt (Tryz.results170) rfl ?_
    rw [Zdn fun i y hi hy=>hp i y (by omega) hy])
theorem ZBM:ZBt Tryz.prog 171:=fun blk cap zs w hH _ hsz=>(Tryz.slices_Reverse_int blk 0 cap zs w hH (by omega)).mono fun e w' ⟨h1,n,h2⟩=>⟨h1,n,#[],by rw [h2];simp [Go.Sort.grow];rfl⟩
theorem ZBb:ZkM Tryz.prog 171:=fun p cap w=>Tryz.slices_Reverse_int_empty p cap w
theorem Zya {A B:Aut} {op:Int} {q:List PrS×List (List Nat)} (h:idx (fun x=>x==true) (q.1.map (ZbI A B op))= -1):ZjM A B op q=(true,[]):=by
 rw [ZBx] at h
 unfold ZjM
 cases h1:(q.1.map (ZbI A B op)).idxOf? true with
 |none=>rfl
 | some i=>
   rw [h1] at h
   have h':((i:Nat):Int)= -1:=h
   omega
theorem Zvx {A B:Aut} {op:Int} {q:List PrS×List (List Nat)} {i:Nat} (h:idx (fun x=>x==true) (q.1.map (ZbI A B op))=(i:Int)):ZjM A B op q=(false,Zo6 (q.1.map (·.2)) i):=by
 rw [ZBx] at h
 unfold ZjM
 cases h1:(q.1.map (ZbI A B op)).idxOf? true with
 | none=>
   rw [h1] at h
   have h':(-1:Int)=((i:Nat):Int):=h
   omega
 | some j=>
   rw [h1] at h
   dsimp only at h ⊢
   rw [show j=i by omega];rfl
theorem Ztk {A B:Aut} {op:Int} (o:List PrS) {v:Int} (h:idx (fun x=>x==true) (o.map (ZbI A B op))=v):v= -1∨∃i:Nat,v=(i:Int)∧i<o.length:=by
 rcases ZmE (p:=fun x=>x==true) (l:=o.map (ZbI A B op)) with ⟨h1,_⟩|⟨i,x,h1,h2,_⟩
 · exact .inl (by rw [←h,h1])
 · exact .inr ⟨i,by rw [←h,h1],by have:=ζe h2;rwa [List.length_map] at this⟩
theorem Zvy (A B:Aut) (op:Int) (o:List PrS) (rows:List (List Nat)) (hu:(Zbe A B).upto ((0,0),(-1,-1)) 2000=some (o,rows)) (h0:o[0]? =some ((0,0),(-1,-1))) (hcap:o.length≤2000):AF Tryz.prog 122 [Zgk A B op (o,rows)] (· = .tup [pInts (ZjM A B op (o,rows)).2,ζO (!(ZjM A B op (o,rows)).1)]):=by
 obtain ⟨v,hv⟩:∃v,idx (fun x=>x==true) (o.map (ZbI A B op))=v:=⟨_,rfl⟩
 have hix:=ZlW (o.map (ZbI A B op))
 rw [hv] at hix
 have hvc:=Ztk o hv
 have hbk:=ZlJ hu h0
 refine AF.of_body 34 Tryz.func122 rfl Tryz.ntmps122 (Nat.le_of_ble_eq_true rfl) ?_
 intro w0 M0 vs hl hv
 obtain ⟨v0,rfl⟩:=ZdL hl
 clear hl hv
 refine nav ?_
 (refine ζa ?_<;>refine ζE 1 5 fun h1=>?_<;>refine xL 2 ζc ?_<;>refine xL 3 ζc ?_<;>refine ζb (nav ?_)<;>try dsimp only)
 (refine ζa ?_<;>refine xL 6 (ζh 1 Zb9) ?_<;>refine xL 7 (ζh 1 Zbf) ?_<;>(refine yL 8 (ζs 1 ZaO) fun v8 h=>?_;cases h)<;>(refine cS 9 (cA Tryz.call170 (hix)) fun v9 h=>?_;cases h)<;>refine xL 4 ζc ?_<;>refine ζb (nav ?_)<;>try dsimp only)
 (refine ζa ?_<;>refine xL 10 ζd ?_<;>refine xL 11 ζS ?_<;>refine ζb (nav ?_)<;>try dsimp only)
 (first|refine cCd ?_ ?_|refine cC ?_ ?_)<;>intro hb11
 · first
   |exact Bool.noConfusion hb11
   | (
    have hv1:v= -1:=by omega
    subst hv1
    have hcr:=Zya (q:=(o,rows)) hv
    refine nav ?_
    (refine ζa ?_<;>refine xL 2 ζc ?_<;>refine xL 3 ζc ?_<;>refine ζb (nav ?_)<;>try dsimp only)
    refine Za7 (Zcj (t:=2) rfl) fun _=>?_
    refine Za8 (Tryz.results122) rfl rfl ?_
    rw [hcr];rfl)
 · first
   |exact Bool.noConfusion hb11
   | (
    obtain ⟨i0,rfl,hi0⟩:∃i:Nat,v=(i:Int)∧i<o.length:=by
     rcases hvc with h|h
     · omega
     · exact h
    have hcr:=Zvx (q:=(o,rows)) hv
    dsimp only at hcr
    refine nav ?_
    (refine ζa ?_<;>refine xL 5 ζc ?_<;>refine ζb (nav ?_)<;>try dsimp only)
    refine ζv (Zb2 200 3 1 rfl) fun _=>?_
    refine ζy (ι:={k:Nat×List Int×Value//Zo6 (o.map (·.2)) i0=Zo6 (o.map (·.2)) k.1++k.2.1.reverse∧k.1<o.length∧k.2.1.length+k.1≤i0∧k.2.2.oneCell'=true}) (fun k=>⟨[(1,_,_),(2,_,_),(3,_,_),(4, .int .i64 k.1.1,pInt k.1.1),(5,k.1.2.2, .val k.1.2.2)],[(1,_,_),(200,k.1.2.2, .own 3 1 k.1.2.1.length (k.1.2.1.map pInt))]⟩) (fun k=>k.1.1) ⟨(i0,[], .slice none 0 0),by simp,hi0,by simp,rfl⟩ (fun a w H=>H.weaken ⟨rfl,rfl,rfl,rfl,rfl,trivial⟩ ⟨rfl,rfl,trivial⟩) ?_
    rintro ⟨⟨cur,out,r⟩,hw,hc,hl,hr⟩
    dsimp only
    dsimp only at hw hc hl hr
    obtain ⟨⟨pq,f,s⟩,hx⟩:=ζm hc
    have hpf:(Zcl o).length=o.length:=by unfold Zcl;rw [List.length_map]
    have hps:(ZgD o).length=o.length:=by unfold ZgD;rw [List.length_map]
    have e1:((Zcl o).map pInt)[cur*1]? =some (pInt f):=Zaf (by unfold Zcl;rw [List.getElem?_map,hx];rfl)
    have e2:((ZgD o).map pInt)[cur*1]? =some (pInt s):=Zaf (by unfold ZgD;rw [List.getElem?_map,hx];rfl)
    have e3:(o.map (·.2))[cur]? =some (f,s):=by rw [List.getElem?_map,hx];rfl
    have hfc:=hbk cur (f,s) e3
    refine nav ?_
    (refine ζa ?_<;>refine xL 12 (ζh 1 ζU) ?_<;>(refine yL 13 (ζs 1 ζx) fun v13 h=>?_;cases h)<;>refine xL 14 ζd ?_<;>refine xL 15 (ζJ ζn) ?_<;>(refine yL 16 (Za3 ζj) fun v16 h=>?_;cases h)<;>refine xL 17 Zcc ?_<;>refine ζb (nav ?_)<;>try dsimp only)
    (first|refine cCd ?_ ?_|refine cC ?_ ?_)<;>intro hb17
    · first
      |exact Bool.noConfusion hb17
      | (
       obtain ⟨j,rfl⟩:∃j:Nat,f=(j:Int):=⟨f.toNat,by omega⟩
       dsimp only at hfc
       have hwn:=ZsR hbk e3 (by dsimp only;omega)
       dsimp only at hwn
       rw [Int.toNat_natCast] at hwn
       refine nav ?_
       (refine ζa ?_<;>refine xL 23 ζd ?_<;>refine xL 24 (ζh 1 Zd9) ?_<;>(refine yL 25 (ζs 1 ζx) fun v25 h=>?_;cases h)<;>refine xL 26 ζd ?_<;>refine xL 27 (ζJ ζn) ?_<;>(refine yL 28 (Za3 ζj) fun v28 h=>?_;cases h)<;>refine ζI (kk:=1) 29 ζi fun h29 ho29=>?_<;>refine ζY 200 29 30 ζi fun h30 ho30=>?_<;>refine xL 5 ζc ?_<;>refine ζb (nav ?_)<;>try dsimp only)
       refine ζv (ζD (l:=30) 200 rfl rfl) fun _=>?_
       refine ζv (ζN (l:=200) rfl (ZcN _ out s)) fun _=>?_
       (refine ζa ?_<;>refine xL 18 (ζh 1 ζU) ?_<;>(refine yL 19 (ζs 1 ζx) fun v19 h=>?_;cases h)<;>refine xL 20 ζd ?_<;>refine xL 21 (ζJ ζn) ?_<;>(refine yL 22 (Za3 ζj) fun v22 h=>?_;cases h)<;>refine xL 4 ζc ?_<;>refine ζb (nav ?_)<;>try dsimp only)
       refine ζl (
        ⟨(j,out++[s],h30),by dsimp only;rw [hw,hwn,List.reverse_append];simp,by dsimp only;omega,by dsimp only;rw [List.length_append,List.length_singleton];omega,ho30⟩
        ) (by dsimp only;omega) ⟨rfl,rfl,rfl,rfl,rfl,trivial⟩ ⟨rfl,rfl,trivial⟩)
    · first
      |exact Bool.noConfusion hb17
      | (
       have hwn:=Zo7 e3 (by dsimp only;omega)
       rw [hwn,List.nil_append] at hw
       refine nav ?_
       (refine ζa ?_<;>refine xL 31 ζd ?_<;>(rcases Nat.eq_zero_or_pos out.length with h0'|h0'<;>first|(refine ζq (ζN (l:=200) (p':= .own 3 1 0 []) rfl (by rw [List.eq_nil_of_length_eq_zero h0'];rfl)) fun _=>?_;refine Zjj 200 ZBb (Tryz.call171) ?_;refine ζq (ζN (l:=200) (p':= .own 3 1 out.length (out.reverse.map pInt)) rfl (by rw [List.eq_nil_of_length_eq_zero h0'];rfl)) fun _=>?_)|(refine ZzA 200 ZBM (Tryz.call171) ?_ h0'))<;>refine ζb (nav ?_)<;>try dsimp only)<;>(
        refine ζv (En.freeze (l:=200) (t:=5) rfl rfl) fun _=>?_
        rw [show share (PV.own 3 1 out.length (out.reverse.map pInt))=pInts out.reverse by rw [←List.length_reverse];exact ζL _ _ _ rfl]
        (refine ζa ?_<;>refine xL 33 ζd ?_<;>refine xL 2 ζc ?_<;>refine xL 3 ζc ?_<;>refine ζb (nav ?_)<;>try dsimp only)
        refine Za8 (Tryz.results122) rfl rfl ?_
        rw [hcr,hw];rfl)))
theorem ZyO:Zbj Tryz.prog 149=some ((.agg #[(.int .i64 0),(.slice none 0 0),(.slice none 0 0),(.slice none 0 0),(.slice none 0 0)]),[(0,3),(3,1),(4,1)]):=by kernel_rfl
theorem Zyb {a b:Aut} (h:ζ5 a=false):Zdl a b=1:=by unfold Zdl;rw [if_pos (.inl h)]
theorem Zyc {a b:Aut} (h:ζ5 b=false):Zdl a b=1:=by unfold Zdl;rw [if_pos (.inr h)]
theorem Zz2 {a b:Aut} (h1:ζ5 a=true) (h2:ζ5 b=true) (h:¬a.syms=b.syms):Zdl a b=29:=by unfold Zdl;rw [if_neg (by rw [h1,h2];simp),if_pos h]
theorem Zz3 {a b:Aut} (h1:ζ5 a=true) (h2:ζ5 b=true) (h:a.syms=b.syms):Zdl a b=0:=by unfold Zdl;rw [if_neg (by rw [h1,h2];simp),if_neg (fun e=>e h)]
theorem Zkc {a b:Aut} (h:Zdl a b=0):ζ5 a=true∧ζ5 b=true∧a.syms=b.syms:=by
 unfold Zdl at h
 split at h
 · omega
 · rename_i h1
   split at h
   · omega
   · rename_i h2
     refine ⟨?_,?_,?_⟩
     · cases e:ζ5 a with
       |true=>rfl
       |false=>exact absurd (.inl e) h1
     · cases e:ζ5 b with
       |true=>rfl
       |false=>exact absurd (.inr e) h1
     · exact Decidable.not_not.1 h2
def pPZ:PV:= .agg [pInt 0, .val (.slice none 0 0), .val (.slice none 0 0), .val (.slice none 0 0), .val (.slice none 0 0)]
def ZBc (a b:Aut) (op:Int):PV:=match ZfS a b with
 | .ok (A,B,q)=> .tup [Zgk A B op q,pInt 0]
 | .error e=> .tup [pPZ,pInt e]
theorem Zyd (a b:Aut) (ha:ζ5 a=false) (hb:ζ5 b=false) (hs:True):AF Tryz.prog 120 [ζW a,ζW b] (· =pInt 1):=by
 have hva:=ZaI a
 have hvb:=ZaI b
 rw [ha] at hva
 rw [hb] at hvb
 refine AF.of_body 20 Tryz.func120 rfl Tryz.ntmps120 (Nat.le_of_ble_eq_true rfl) ?_
 intro w0 M0 vs hl hv
 obtain ⟨v0,v1,rfl⟩:=Zb3 hl
 clear hl hv
 refine nav ?_
 (refine ζa ?_<;>refine ζE 2 5 fun h2=>?_<;>refine ζE 3 5 fun h3=>?_<;>refine xL 4 ζc ?_<;>refine ζb (nav ?_)<;>try dsimp only)
 (refine ζa ?_<;>(refine yL 6 (ζp 2 ζg) fun v6 h=>?_;cases h)<;>(refine cS 7 (cA Tryz.call107 (hva)) fun v7 h=>?_;cases h)<;>refine xL 8 Zak ?_<;>refine xL 9 ζd ?_<;>refine kL 10 ?_<;>refine kL 11 ?_<;>refine kL 12 ?_<;>refine xL 13 ζF ?_<;>refine xL 5 ζc ?_<;>refine ζb (nav ?_)<;>try dsimp only)<;>(
  (first|refine cCd ?_ ?_|refine cC ?_ ?_)<;>intro hb5
  · first
    |exact Bool.noConfusion hb5
    | (
     refine nav ?_
     (refine ζa ?_<;>refine xL 4 ζc ?_<;>refine ζb (nav ?_)<;>try dsimp only)
     exact ζt (Tryz.results120) rfl rfl)
  · first
    |exact Bool.noConfusion hb5
    |skip)
theorem Zye (a b:Aut) (ha:ζ5 a=false) (hb:ζ5 b=true) (hs:True):AF Tryz.prog 120 [ζW a,ζW b] (· =pInt 1):=by
 have hva:=ZaI a
 have hvb:=ZaI b
 rw [ha] at hva
 rw [hb] at hvb
 refine AF.of_body 20 Tryz.func120 rfl Tryz.ntmps120 (Nat.le_of_ble_eq_true rfl) ?_
 intro w0 M0 vs hl hv
 obtain ⟨v0,v1,rfl⟩:=Zb3 hl
 clear hl hv
 refine nav ?_
 (refine ζa ?_<;>refine ζE 2 5 fun h2=>?_<;>refine ζE 3 5 fun h3=>?_<;>refine xL 4 ζc ?_<;>refine ζb (nav ?_)<;>try dsimp only)
 (refine ζa ?_<;>(refine yL 6 (ζp 2 ζg) fun v6 h=>?_;cases h)<;>(refine cS 7 (cA Tryz.call107 (hva)) fun v7 h=>?_;cases h)<;>refine xL 8 Zak ?_<;>refine xL 9 ζd ?_<;>refine kL 10 ?_<;>refine kL 11 ?_<;>refine kL 12 ?_<;>refine xL 13 ζF ?_<;>refine xL 5 ζc ?_<;>refine ζb (nav ?_)<;>try dsimp only)<;>(
  (first|refine cCd ?_ ?_|refine cC ?_ ?_)<;>intro hb5
  · first
    |exact Bool.noConfusion hb5
    | (
     refine nav ?_
     (refine ζa ?_<;>refine xL 4 ζc ?_<;>refine ζb (nav ?_)<;>try dsimp only)
     exact ζt (Tryz.results120) rfl rfl)
  · first
    |exact Bool.noConfusion hb5
    |skip)
theorem Zyf (a b:Aut) (ha:ζ5 a=true) (hb:ζ5 b=false) (hs:True):AF Tryz.prog 120 [ζW a,ζW b] (· =pInt 1):=by
 have hva:=ZaI a
 have hvb:=ZaI b
 rw [ha] at hva
 rw [hb] at hvb
 refine AF.of_body 20 Tryz.func120 rfl Tryz.ntmps120 (Nat.le_of_ble_eq_true rfl) ?_
 intro w0 M0 vs hl hv
 obtain ⟨v0,v1,rfl⟩:=Zb3 hl
 clear hl hv
 refine nav ?_
 (refine ζa ?_<;>refine ζE 2 5 fun h2=>?_<;>refine ζE 3 5 fun h3=>?_<;>refine xL 4 ζc ?_<;>refine ζb (nav ?_)<;>try dsimp only)
 (refine ζa ?_<;>(refine yL 6 (ζp 2 ζg) fun v6 h=>?_;cases h)<;>(refine cS 7 (cA Tryz.call107 (hva)) fun v7 h=>?_;cases h)<;>refine xL 8 Zak ?_<;>refine xL 9 ζd ?_<;>(refine yL 10 (ζp 3 ζg) fun v10 h=>?_;cases h)<;>(refine cS 11 (cA Tryz.call107 (hvb)) fun v11 h=>?_;cases h)<;>refine xL 12 Zak ?_<;>refine xL 13 ζF ?_<;>refine xL 5 ζc ?_<;>refine ζb (nav ?_)<;>try dsimp only)<;>(
  (first|refine cCd ?_ ?_|refine cC ?_ ?_)<;>intro hb5
  · first
    |exact Bool.noConfusion hb5
    | (
     refine nav ?_
     (refine ζa ?_<;>refine xL 4 ζc ?_<;>refine ζb (nav ?_)<;>try dsimp only)
     exact ζt (Tryz.results120) rfl rfl)
  · first
    |exact Bool.noConfusion hb5
    |skip)
theorem Zyg (a b:Aut) (ha:ζ5 a=true) (hb:ζ5 b=true) (hs:¬a.syms=b.syms):AF Tryz.prog 120 [ζW a,ζW b] (· =pInt 29):=by
 have hva:=ZaI a
 have hvb:=ZaI b
 rw [ha] at hva
 rw [hb] at hvb
 refine AF.of_body 20 Tryz.func120 rfl Tryz.ntmps120 (Nat.le_of_ble_eq_true rfl) ?_
 intro w0 M0 vs hl hv
 obtain ⟨v0,v1,rfl⟩:=Zb3 hl
 clear hl hv
 refine nav ?_
 (refine ζa ?_<;>refine ζE 2 5 fun h2=>?_<;>refine ζE 3 5 fun h3=>?_<;>refine xL 4 ζc ?_<;>refine ζb (nav ?_)<;>try dsimp only)
 (refine ζa ?_<;>(refine yL 6 (ζp 2 ζg) fun v6 h=>?_;cases h)<;>(refine cS 7 (cA Tryz.call107 (hva)) fun v7 h=>?_;cases h)<;>refine xL 8 Zak ?_<;>refine xL 9 ζd ?_<;>(refine yL 10 (ζp 3 ζg) fun v10 h=>?_;cases h)<;>(refine cS 11 (cA Tryz.call107 (hvb)) fun v11 h=>?_;cases h)<;>refine xL 12 Zak ?_<;>refine xL 13 ζF ?_<;>refine xL 5 ζc ?_<;>refine ζb (nav ?_)<;>try dsimp only)<;>(
  (first|refine cCd ?_ ?_|refine cC ?_ ?_)<;>intro hb5
  · first
    |exact Bool.noConfusion hb5
    | (
     refine nav ?_
     (refine ζa ?_<;>refine xL 4 ζc ?_<;>refine ζb (nav ?_)<;>try dsimp only)
     exact ζt (Tryz.results120) rfl rfl)
  · first
    |exact Bool.noConfusion hb5
    | (
     refine nav ?_
     (refine ζa ?_<;>refine xL 15 (ζh 2 ζ2) ?_<;>(refine yL 16 (ζs 2 ζj) fun v16 h=>?_;cases h)<;>refine xL 17 (ζh 3 ζ2) ?_<;>(refine yL 18 (ζs 3 ζj) fun v18 h=>?_;cases h)<;>refine xL 19 ZaD ?_<;>refine xL 14 ζc ?_<;>refine ζb (nav ?_)<;>try dsimp only)
     (first|refine cCd ?_ ?_|refine cC ?_ ?_)<;>intro hb14
     · first
       |exact Bool.noConfusion hb14
       | (
        refine nav ?_
        (refine ζa ?_<;>refine xL 4 ζc ?_<;>refine ζb (nav ?_)<;>try dsimp only)
        first|exact ζt (Tryz.results120) rfl rfl|exact absurd hs (by simpa using hb14))
     · first
       |exact Bool.noConfusion hb14
       | (
        refine nav ?_
        (refine ζa ?_<;>refine xL 4 ζc ?_<;>refine ζb (nav ?_)<;>try dsimp only)
        first|exact ζt (Tryz.results120) rfl rfl|exact absurd (by simpa using hb14) hs)))
theorem Zyh (a b:Aut) (ha:ζ5 a=true) (hb:ζ5 b=true) (hs:a.syms=b.syms):AF Tryz.prog 120 [ζW a,ζW b] (· =pInt 0):=by
 have hva:=ZaI a
 have hvb:=ZaI b
 rw [ha] at hva
 rw [hb] at hvb
 refine AF.of_body 20 Tryz.func120 rfl Tryz.ntmps120 (Nat.le_of_ble_eq_true rfl) ?_
 intro w0 M0 vs hl hv
 obtain ⟨v0,v1,rfl⟩:=Zb3 hl
 clear hl hv
 refine nav ?_
 (refine ζa ?_<;>refine ζE 2 5 fun h2=>?_<;>refine ζE 3 5 fun h3=>?_<;>refine xL 4 ζc ?_<;>refine ζb (nav ?_)<;>try dsimp only)
 (refine ζa ?_<;>(refine yL 6 (ζp 2 ζg) fun v6 h=>?_;cases h)<;>(refine cS 7 (cA Tryz.call107 (hva)) fun v7 h=>?_;cases h)<;>refine xL 8 Zak ?_<;>refine xL 9 ζd ?_<;>(refine yL 10 (ζp 3 ζg) fun v10 h=>?_;cases h)<;>(refine cS 11 (cA Tryz.call107 (hvb)) fun v11 h=>?_;cases h)<;>refine xL 12 Zak ?_<;>refine xL 13 ζF ?_<;>refine xL 5 ζc ?_<;>refine ζb (nav ?_)<;>try dsimp only)<;>(
  (first|refine cCd ?_ ?_|refine cC ?_ ?_)<;>intro hb5
  · first
    |exact Bool.noConfusion hb5
    | (
     refine nav ?_
     (refine ζa ?_<;>refine xL 4 ζc ?_<;>refine ζb (nav ?_)<;>try dsimp only)
     exact ζt (Tryz.results120) rfl rfl)
  · first
    |exact Bool.noConfusion hb5
    | (
     refine nav ?_
     (refine ζa ?_<;>refine xL 15 (ζh 2 ζ2) ?_<;>(refine yL 16 (ζs 2 ζj) fun v16 h=>?_;cases h)<;>refine xL 17 (ζh 3 ζ2) ?_<;>(refine yL 18 (ζs 3 ζj) fun v18 h=>?_;cases h)<;>refine xL 19 ZaD ?_<;>refine xL 14 ζc ?_<;>refine ζb (nav ?_)<;>try dsimp only)
     (first|refine cCd ?_ ?_|refine cC ?_ ?_)<;>intro hb14
     · first
       |exact Bool.noConfusion hb14
       | (
        refine nav ?_
        (refine ζa ?_<;>refine xL 4 ζc ?_<;>refine ζb (nav ?_)<;>try dsimp only)
        first|exact ζt (Tryz.results120) rfl rfl|exact absurd hs (by simpa using hb14))
     · first
       |exact Bool.noConfusion hb14
       | (
        refine nav ?_
        (refine ζa ?_<;>refine xL 4 ζc ?_<;>refine ζb (nav ?_)<;>try dsimp only)
        first|exact ζt (Tryz.results120) rfl rfl|exact absurd (by simpa using hb14) hs)))
theorem ZhU (a b:Aut):AF Tryz.prog 120 [ζW a,ζW b] (· =pInt (Zdl a b)):=by
 cases ha:ζ5 a
 · rw [Zyb ha]
   cases hb:ζ5 b
   · exact Zyd a b ha hb trivial
   · exact Zye a b ha hb trivial
 · cases hb:ζ5 b
   · rw [Zyc hb];exact Zyf a b ha hb trivial
   · by_cases hs:a.syms=b.syms
     · rw [Zz3 ha hb hs];exact Zyh a b ha hb hs
     · rw [Zz2 ha hb hs];exact Zyg a b ha hb hs
theorem Zvz (a b:Aut) (op:Int) {A:Aut} (ha:AF Tryz.prog 132 [ζW a] (· = .tup [ζW A,pInt 0])) (hb:AF Tryz.prog 132 [ζW b] (· = .tup [Zia,pInt 13])):AF Tryz.prog 121 [ζW a,ζW b,pInt op] (· = .tup [pPZ,pInt 13]):=by
 refine AF.of_body 42 Tryz.func121 rfl Tryz.ntmps121 (Nat.le_of_ble_eq_true rfl) ?_
 intro w0 M0 vs hl hv
 obtain ⟨v0,v1,v2,rfl⟩:=Zml hl
 obtain rfl:=hv 2 _ _ rfl rfl
 clear hl hv
 refine nav ?_
 (refine ζa ?_<;>refine ζE 3 5 fun h3=>?_<;>refine ζE 4 5 fun h4=>?_<;>refine ζr [(.int .i64 0),(.slice none 0 0),(.slice none 0 0),(.slice none 0 0),(.slice none 0 0)] 5 6 ZaR fun h6=>?_<;>refine xL 7 ζc ?_<;>refine ζb (nav ?_)<;>try dsimp only)
 (refine ζa ?_<;>(refine yL 15 (ζp 3 ζg) fun v15 h=>?_;cases h)<;>(refine cP 16 (cA Tryz.call132 (ha)) fun va16 vb16 hva16 h=>?_;cases h)<;>refine xL 14 ζd ?_<;>refine xL 17 ζf ?_<;>refine xL 18 ζf ?_<;>refine ζr [(.int .i64 0),(.int .i64 0),(.slice none 0 0),(.slice none 0 0),(.slice none 0 0)] 5 8 ζz fun h8=>?_<;>refine ζC 8 ζg ?_<;>refine xL 9 ζc ?_<;>refine ζb (nav ?_)<;>try dsimp only)
 (refine ζa ?_<;>(refine yL 20 (ζp 4 ζg) fun v20 h=>?_;cases h)<;>(refine cP 21 (cA Tryz.call132 (hb)) fun va21 vb21 hva21 h=>?_;cases h)<;>refine xL 19 ζd ?_<;>refine xL 22 ζf ?_<;>refine xL 23 ζf ?_<;>refine ζr [(.int .i64 0),(.int .i64 0),(.slice none 0 0),(.slice none 0 0),(.slice none 0 0)] 5 10 ζz fun h10=>?_<;>refine ζC 10 ζg ?_<;>refine xL 11 ζc ?_<;>refine ζb (nav ?_)<;>try dsimp only)
 (refine ζa ?_<;>refine xL 24 ζd ?_<;>refine xL 25 ZaD ?_<;>refine xL 26 ζd ?_<;>refine xL 27 ζd ?_<;>refine xL 28 ZaD ?_<;>refine xL 29 ζF ?_<;>refine ζb (nav ?_)<;>try dsimp only)<;>(
  (first|refine cCd ?_ ?_|refine cC ?_ ?_)<;>intro hb29
  · refine nav ?_
    (refine ζa ?_<;>refine xL 30 (Zgr ZhT rfl) ?_<;>refine ζC 6 Zad ?_<;>refine xL 7 ζc ?_<;>refine ζb (nav ?_)<;>try dsimp only)
    exact ζ6 (k:=5) 6 (by kernel_rfl) (Tryz.results121) rfl rfl rfl (Nat.le_of_ble_eq_true rfl) (by decide) rfl rfl
  · first|omega|exact absurd (by decide) hb29|exact Bool.noConfusion hb29)
theorem ZvA (a b:Aut) (op:Int) {A:Aut} (ha:AF Tryz.prog 132 [ζW a] (· = .tup [Zia,pInt 13])) (hb:AF Tryz.prog 132 [ζW b] (· = .tup [ζW A,pInt 0])):AF Tryz.prog 121 [ζW a,ζW b,pInt op] (· = .tup [pPZ,pInt 13]):=by
 refine AF.of_body 42 Tryz.func121 rfl Tryz.ntmps121 (Nat.le_of_ble_eq_true rfl) ?_
 intro w0 M0 vs hl hv
 obtain ⟨v0,v1,v2,rfl⟩:=Zml hl
 obtain rfl:=hv 2 _ _ rfl rfl
 clear hl hv
 refine nav ?_
 (refine ζa ?_<;>refine ζE 3 5 fun h3=>?_<;>refine ζE 4 5 fun h4=>?_<;>refine ζr [(.int .i64 0),(.slice none 0 0),(.slice none 0 0),(.slice none 0 0),(.slice none 0 0)] 5 6 ZaR fun h6=>?_<;>refine xL 7 ζc ?_<;>refine ζb (nav ?_)<;>try dsimp only)
 (refine ζa ?_<;>(refine yL 15 (ζp 3 ζg) fun v15 h=>?_;cases h)<;>(refine cP 16 (cA Tryz.call132 (ha)) fun va16 vb16 hva16 h=>?_;cases h)<;>refine xL 14 ζd ?_<;>refine xL 17 ζf ?_<;>refine xL 18 ζf ?_<;>refine ζr [(.int .i64 0),(.int .i64 0),(.slice none 0 0),(.slice none 0 0),(.slice none 0 0)] 5 8 ζz fun h8=>?_<;>refine ζC 8 ζg ?_<;>refine xL 9 ζc ?_<;>refine ζb (nav ?_)<;>try dsimp only)
 (refine ζa ?_<;>(refine yL 20 (ζp 4 ζg) fun v20 h=>?_;cases h)<;>(refine cP 21 (cA Tryz.call132 (hb)) fun va21 vb21 hva21 h=>?_;cases h)<;>refine xL 19 ζd ?_<;>refine xL 22 ζf ?_<;>refine xL 23 ζf ?_<;>refine ζr [(.int .i64 0),(.int .i64 0),(.slice none 0 0),(.slice none 0 0),(.slice none 0 0)] 5 10 ζz fun h10=>?_<;>refine ζC 10 ζg ?_<;>refine xL 11 ζc ?_<;>refine ζb (nav ?_)<;>try dsimp only)
 (refine ζa ?_<;>refine xL 24 ζd ?_<;>refine xL 25 ZaD ?_<;>refine xL 26 ζd ?_<;>refine kL 27 ?_<;>refine kL 28 ?_<;>refine xL 29 ζF ?_<;>refine ζb (nav ?_)<;>try dsimp only)<;>(
  (first|refine cCd ?_ ?_|refine cC ?_ ?_)<;>intro hb29
  · refine nav ?_
    (refine ζa ?_<;>refine xL 30 (Zgr ZhT rfl) ?_<;>refine ζC 6 Zad ?_<;>refine xL 7 ζc ?_<;>refine ζb (nav ?_)<;>try dsimp only)
    exact ζ6 (k:=5) 6 (by kernel_rfl) (Tryz.results121) rfl rfl rfl (Nat.le_of_ble_eq_true rfl) (by decide) rfl rfl
  · first|omega|exact absurd (by decide) hb29|exact Bool.noConfusion hb29)
theorem ZvB (a b:Aut) (op:Int) (ha:AF Tryz.prog 132 [ζW a] (· = .tup [Zia,pInt 13])) (hb:AF Tryz.prog 132 [ζW b] (· = .tup [Zia,pInt 13])):AF Tryz.prog 121 [ζW a,ζW b,pInt op] (· = .tup [pPZ,pInt 13]):=by
 refine AF.of_body 42 Tryz.func121 rfl Tryz.ntmps121 (Nat.le_of_ble_eq_true rfl) ?_
 intro w0 M0 vs hl hv
 obtain ⟨v0,v1,v2,rfl⟩:=Zml hl
 obtain rfl:=hv 2 _ _ rfl rfl
 clear hl hv
 refine nav ?_
 (refine ζa ?_<;>refine ζE 3 5 fun h3=>?_<;>refine ζE 4 5 fun h4=>?_<;>refine ζr [(.int .i64 0),(.slice none 0 0),(.slice none 0 0),(.slice none 0 0),(.slice none 0 0)] 5 6 ZaR fun h6=>?_<;>refine xL 7 ζc ?_<;>refine ζb (nav ?_)<;>try dsimp only)
 (refine ζa ?_<;>(refine yL 15 (ζp 3 ζg) fun v15 h=>?_;cases h)<;>(refine cP 16 (cA Tryz.call132 (ha)) fun va16 vb16 hva16 h=>?_;cases h)<;>refine xL 14 ζd ?_<;>refine xL 17 ζf ?_<;>refine xL 18 ζf ?_<;>refine ζr [(.int .i64 0),(.int .i64 0),(.slice none 0 0),(.slice none 0 0),(.slice none 0 0)] 5 8 ζz fun h8=>?_<;>refine ζC 8 ζg ?_<;>refine xL 9 ζc ?_<;>refine ζb (nav ?_)<;>try dsimp only)
 (refine ζa ?_<;>(refine yL 20 (ζp 4 ζg) fun v20 h=>?_;cases h)<;>(refine cP 21 (cA Tryz.call132 (hb)) fun va21 vb21 hva21 h=>?_;cases h)<;>refine xL 19 ζd ?_<;>refine xL 22 ζf ?_<;>refine xL 23 ζf ?_<;>refine ζr [(.int .i64 0),(.int .i64 0),(.slice none 0 0),(.slice none 0 0),(.slice none 0 0)] 5 10 ζz fun h10=>?_<;>refine ζC 10 ζg ?_<;>refine xL 11 ζc ?_<;>refine ζb (nav ?_)<;>try dsimp only)
 (refine ζa ?_<;>refine xL 24 ζd ?_<;>refine xL 25 ZaD ?_<;>refine xL 26 ζd ?_<;>refine kL 27 ?_<;>refine kL 28 ?_<;>refine xL 29 ζF ?_<;>refine ζb (nav ?_)<;>try dsimp only)<;>(
  (first|refine cCd ?_ ?_|refine cC ?_ ?_)<;>intro hb29
  · refine nav ?_
    (refine ζa ?_<;>refine xL 30 (Zgr ZhT rfl) ?_<;>refine ζC 6 Zad ?_<;>refine xL 7 ζc ?_<;>refine ζb (nav ?_)<;>try dsimp only)
    exact ζ6 (k:=5) 6 (by kernel_rfl) (Tryz.results121) rfl rfl rfl (Nat.le_of_ble_eq_true rfl) (by decide) rfl rfl
  · first|omega|exact absurd (by decide) hb29|exact Bool.noConfusion hb29)
theorem Ztl (a b A B:Aut) (op:Int) (q:List PrS×List (List Nat)) (ha:AF Tryz.prog 132 [ζW a] (· = .tup [ζW A,pInt 0])) (hb:AF Tryz.prog 132 [ζW b] (· = .tup [ζW B,pInt 0])) (hp:AF Tryz.prog 169 [ζW A,ζW B,pInt op] (· = .tup [Zgk A B op q,ζO true])):AF Tryz.prog 121 [ζW a,ζW b,pInt op] (· = .tup [Zgk A B op q,pInt 0]):=by
 refine AF.of_body 42 Tryz.func121 rfl Tryz.ntmps121 (Nat.le_of_ble_eq_true rfl) ?_
 intro w0 M0 vs hl hv
 obtain ⟨v0,v1,v2,rfl⟩:=Zml hl
 obtain rfl:=hv 2 _ _ rfl rfl
 clear hl hv
 refine nav ?_
 (refine ζa ?_<;>refine ζE 3 5 fun h3=>?_<;>refine ζE 4 5 fun h4=>?_<;>refine ζr [(.int .i64 0),(.slice none 0 0),(.slice none 0 0),(.slice none 0 0),(.slice none 0 0)] 5 6 ZaR fun h6=>?_<;>refine xL 7 ζc ?_<;>refine ζb (nav ?_)<;>try dsimp only)
 (refine ζa ?_<;>(refine yL 15 (ζp 3 ζg) fun v15 h=>?_;cases h)<;>(refine cP 16 (cA Tryz.call132 (ha)) fun va16 vb16 hva16 h=>?_;cases h)<;>refine xL 14 ζd ?_<;>refine xL 17 ζf ?_<;>refine xL 18 ζf ?_<;>refine ζr [(.int .i64 0),(.int .i64 0),(.slice none 0 0),(.slice none 0 0),(.slice none 0 0)] 5 8 ζz fun h8=>?_<;>refine ζC 8 ζg ?_<;>refine xL 9 ζc ?_<;>refine ζb (nav ?_)<;>try dsimp only)
 (refine ζa ?_<;>(refine yL 20 (ζp 4 ζg) fun v20 h=>?_;cases h)<;>(refine cP 21 (cA Tryz.call132 (hb)) fun va21 vb21 hva21 h=>?_;cases h)<;>refine xL 19 ζd ?_<;>refine xL 22 ζf ?_<;>refine xL 23 ζf ?_<;>refine ζr [(.int .i64 0),(.int .i64 0),(.slice none 0 0),(.slice none 0 0),(.slice none 0 0)] 5 10 ζz fun h10=>?_<;>refine ζC 10 ζg ?_<;>refine xL 11 ζc ?_<;>refine ζb (nav ?_)<;>try dsimp only)
 (refine ζa ?_<;>refine xL 24 ζd ?_<;>refine xL 25 ZaD ?_<;>refine xL 26 ζd ?_<;>refine xL 27 ζd ?_<;>refine xL 28 ZaD ?_<;>refine xL 29 ζF ?_<;>refine ζb (nav ?_)<;>try dsimp only)<;>(
  (first|refine cCd ?_ ?_|refine cC ?_ ?_)<;>intro hb29
  · first|omega|exact absurd rfl hb29|exact Bool.noConfusion hb29
  · refine nav ?_
    (refine ζa ?_<;>(refine yL 32 (ζp 8 ζg) fun v32 h=>?_;cases h)<;>(refine yL 33 (ζp 10 ζg) fun v33 h=>?_;cases h)<;>refine xL 34 ζd ?_<;>(refine cP 35 (cA Tryz.call169 (hp)) fun va35 vb35 hva35 h=>?_;cases h)<;>refine xL 31 ζd ?_<;>refine xL 36 ζf ?_<;>refine xL 37 ζf ?_<;>refine ζr [(.int .i64 0),(.slice none 0 0),(.slice none 0 0),(.slice none 0 0),(.slice none 0 0)] 5 12 ZaR fun h12=>?_<;>refine ζC 12 Zad ?_<;>refine xL 13 ζc ?_<;>refine ζb (nav ?_)<;>try dsimp only)
    (refine ζa ?_<;>refine xL 38 ζd ?_<;>refine xL 39 Zak ?_<;>refine ζb (nav ?_)<;>try dsimp only)
    (first|refine cCd ?_ ?_|refine cC ?_ ?_)<;>intro hb39
    · first
      |exact Bool.noConfusion hb39
      |skip
    · first
      |exact Bool.noConfusion hb39
      | (
       refine nav ?_
       (refine ζa ?_<;>(refine yL 41 (ζp 12 Zad) fun v41 h=>?_;cases h)<;>refine ζC 6 Zad ?_<;>refine xL 7 ζc ?_<;>refine ζb (nav ?_)<;>try dsimp only)
       exact ζ6 (k:=5) 6 (by kernel_rfl) (Tryz.results121) rfl rfl rfl (Nat.le_of_ble_eq_true rfl) (by decide) rfl rfl))
abbrev V5:={u:Value×Value×Value×Value×Value//En.one (PV.val u.1)=true∧En.one (PV.val u.2.1)=true∧En.one (PV.val u.2.2.1)=true∧En.one (PV.val u.2.2.2.1)=true∧En.one (PV.val u.2.2.2.2)=true}
theorem ZvC (a b A B:Aut) (op:Int) (ha:AF Tryz.prog 132 [ζW a] (· = .tup [ζW A,pInt 0])) (hb:AF Tryz.prog 132 [ζW b] (· = .tup [ζW B,pInt 0])) (hp:AF Tryz.prog 169 [ζW A,ζW B,pInt op] (fun p=>∃i:V5,p= .tup [.agg [.val i.1.1, .val i.1.2.1, .val i.1.2.2.1, .val i.1.2.2.2.1, .val i.1.2.2.2.2],ζO false])):AF Tryz.prog 121 [ζW a,ζW b,pInt op] (· = .tup [pPZ,pInt 13]):=by
 refine AF.of_body 42 Tryz.func121 rfl Tryz.ntmps121 (Nat.le_of_ble_eq_true rfl) ?_
 intro w0 M0 vs hl hv
 obtain ⟨v0,v1,v2,rfl⟩:=Zml hl
 obtain rfl:=hv 2 _ _ rfl rfl
 clear hl hv
 refine nav ?_
 (refine ζa ?_<;>refine ζE 3 5 fun h3=>?_<;>refine ζE 4 5 fun h4=>?_<;>refine ζr [(.int .i64 0),(.slice none 0 0),(.slice none 0 0),(.slice none 0 0),(.slice none 0 0)] 5 6 ZaR fun h6=>?_<;>refine xL 7 ζc ?_<;>refine ζb (nav ?_)<;>try dsimp only)
 (refine ζa ?_<;>(refine yL 15 (ζp 3 ζg) fun v15 h=>?_;cases h)<;>(refine cP 16 (cA Tryz.call132 (ha)) fun va16 vb16 hva16 h=>?_;cases h)<;>refine xL 14 ζd ?_<;>refine xL 17 ζf ?_<;>refine xL 18 ζf ?_<;>refine ζr [(.int .i64 0),(.int .i64 0),(.slice none 0 0),(.slice none 0 0),(.slice none 0 0)] 5 8 ζz fun h8=>?_<;>refine ζC 8 ζg ?_<;>refine xL 9 ζc ?_<;>refine ζb (nav ?_)<;>try dsimp only)
 (refine ζa ?_<;>(refine yL 20 (ζp 4 ζg) fun v20 h=>?_;cases h)<;>(refine cP 21 (cA Tryz.call132 (hb)) fun va21 vb21 hva21 h=>?_;cases h)<;>refine xL 19 ζd ?_<;>refine xL 22 ζf ?_<;>refine xL 23 ζf ?_<;>refine ζr [(.int .i64 0),(.int .i64 0),(.slice none 0 0),(.slice none 0 0),(.slice none 0 0)] 5 10 ζz fun h10=>?_<;>refine ζC 10 ζg ?_<;>refine xL 11 ζc ?_<;>refine ζb (nav ?_)<;>try dsimp only)
 (refine ζa ?_<;>refine xL 24 ζd ?_<;>refine xL 25 ZaD ?_<;>refine xL 26 ζd ?_<;>refine xL 27 ζd ?_<;>refine xL 28 ZaD ?_<;>refine xL 29 ζF ?_<;>refine ζb (nav ?_)<;>try dsimp only)<;>(
  (first|refine cCd ?_ ?_|refine cC ?_ ?_)<;>intro hb29
  · first|omega|exact absurd rfl hb29|exact Bool.noConfusion hb29
  · refine nav ?_
    (refine ζa ?_<;>(refine yL 32 (ζp 8 ζg) fun v32 h=>?_;cases h)<;>(refine yL 33 (ζp 10 ζg) fun v33 h=>?_;cases h)<;>refine xL 34 ζd ?_<;>(refine cPx 35 (cA Tryz.call169 hp) (fun i35 v1 v2 hv1 hv2=>?_) (fun _=>rfl);cases hv2;obtain ⟨⟨u0,u1,u2,u3,u4⟩,n0,n1,n2,n3,n4⟩:=i35;dsimp only at n0 n1 n2 n3 n4)<;>refine xL 31 ζd ?_<;>refine xL 36 ζf ?_<;>refine xL 37 ζf ?_<;>refine ζr [(.int .i64 0),(.slice none 0 0),(.slice none 0 0),(.slice none 0 0),(.slice none 0 0)] 5 12 ZaR fun h12=>?_<;>refine ζC 12 Zad ?_<;>refine xL 13 ζc ?_<;>refine ζb (nav ?_)<;>try dsimp only)
    (refine ζa ?_<;>refine xL 38 ζd ?_<;>refine xL 39 Zak ?_<;>refine ζb (nav ?_)<;>try dsimp only)
    (first|refine cCd ?_ ?_|refine cC ?_ ?_)<;>intro hb39
    · first
      |exact Bool.noConfusion hb39
      | (
       refine nav ?_
       (refine ζa ?_<;>refine xL 40 (Zgr ZhT rfl) ?_<;>refine ζC 6 Zad ?_<;>refine xL 7 ζc ?_<;>refine ζb (nav ?_)<;>try dsimp only)
       exact ζ6 (k:=5) 6 (by kernel_rfl) (Tryz.results121) rfl rfl rfl (Nat.le_of_ble_eq_true rfl) (by decide) rfl rfl)
    · first
      |exact Bool.noConfusion hb39
      |skip)
theorem Zyi {x:Option Aut} {e:Int} (h:lim x= .error e):e=13:=by
 cases x with
 |some a=>cases h
 |none=>cases h;rfl
theorem Zkd {a:Aut} {e:Int} (h:ZcS a= .error e):e=13:=by
 unfold ZcS at h
 split at h
 · exact Zyi h
 · cases h;rfl
theorem Zyj (a b:Aut) (op:Int) (hf:Zdl a b=0):AF Tryz.prog 121 [ζW a,ζW b,pInt op] (· =ZBc a b op):=by
 obtain ⟨h1,h2,h3⟩:=Zkc hf
 have ha:=Zeu a (Zd0 h1)
 have hb:=Zeu b (Zd0 h2)
 unfold ZBc ZfS
 cases ea:ZcS a with
 | error e=>
   obtain rfl:=Zkd ea
   rw [ea] at ha
   cases eb:ZcS b with
   | error f=>
     obtain rfl:=Zkd eb
     rw [eb] at hb
     exact ZvB a b op ha hb
   |ok B=>rw [eb] at hb;exact ZvA a b op ha hb
 | ok A =>
   rw [ea] at ha
   cases eb:ZcS b with
   | error f=>
     obtain rfl:=Zkd eb
     rw [eb] at hb
     exact Zvz a b op ha hb
   | ok B=>
     rw [eb] at hb
     obtain ⟨dA,sA⟩:=Zfl (Zd0 h1) ea
     obtain ⟨dB,sB⟩:=Zfl (Zd0 h2) eb
     have hp:=Zqx A B op dA dB (by rw [sA,sB,h3])
     dsimp only
     cases eq:prodQ A B with
     | some q=>exact Ztl a b A B op q ha hb (hp.mono fun p hr=>by
        rcases hr with ⟨q',h4,h5⟩|⟨h4,_⟩
        · rw [eq] at h4;cases h4;exact h5
        · rw [eq] at h4;cases h4)
     | none=>exact ZvC a b A B op ha hb (hp.mono fun p hr=>by
        rcases hr with ⟨q',h4,h5⟩|⟨_,u0,u1,u2,u3,u4,n0,n1,n2,n3,n4,h5⟩
        · rw [eq] at h4;cases h4
        · exact ⟨⟨(u0,u1,u2,u3,u4),n0,n1,n2,n3,n4⟩,h5⟩)
theorem ZlX (a b:Aut) (op e:Int) (he:¬e=0) (hf:AF Tryz.prog 120 [ζW a,ζW b] (· =pInt e)):AF Tryz.prog 76 [ζW a,ζW b,pInt op] (· = .tup [ζO false,pInts [],pInt e]):=by
 refine AF.of_body 38 Tryz.func76 rfl Tryz.ntmps76 (Nat.le_of_ble_eq_true rfl) ?_
 intro w0 M0 vs hl hv
 obtain ⟨v0,v1,v2,rfl⟩:=Zml hl
 obtain rfl:=hv 2 _ _ rfl rfl
 clear hl hv
 refine nav ?_
 (refine ζa ?_<;>refine ζE 3 5 fun h3=>?_<;>refine ζE 4 5 fun h4=>?_<;>refine xL 6 ζc ?_<;>refine xL 7 ζc ?_<;>refine xL 8 ζc ?_<;>refine ζb (nav ?_)<;>try dsimp only)
 (refine ζa ?_<;>(refine yL 14 (ζp 3 ζg) fun v14 h=>?_;cases h)<;>(refine yL 15 (ζp 4 ζg) fun v15 h=>?_;cases h)<;>(refine cS 16 (cA Tryz.call120 (hf)) fun v16 h=>?_;cases h)<;>refine xL 9 ζc ?_<;>refine ζb (nav ?_)<;>try dsimp only)
 (refine ζa ?_<;>refine xL 17 ζd ?_<;>refine xL 18 ZaD ?_<;>refine ζb (nav ?_)<;>try dsimp only)
 (first|refine cCd ?_ ?_|refine cC ?_ ?_)<;>intro hb18
 · refine nav ?_
   (refine ζa ?_<;>refine xL 19 ζd ?_<;>refine xL 6 ζc ?_<;>refine xL 7 ζc ?_<;>refine xL 8 ζc ?_<;>refine ζb (nav ?_)<;>try dsimp only)
   refine Za7 (Zcj (t:=7) rfl) fun _=>?_
   exact Zg5 (Tryz.results76) rfl rfl rfl rfl
 · exact absurd (by simpa using hb18) he
theorem ZlY (a b:Aut) (op e:Int) (he:¬e=0) (hf:AF Tryz.prog 120 [ζW a,ζW b] (· =pInt 0)) (hb:AF Tryz.prog 121 [ζW a,ζW b,pInt op] (· = .tup [pPZ,pInt e])):AF Tryz.prog 76 [ζW a,ζW b,pInt op] (· = .tup [ζO false,pInts [],pInt e]):=by
 refine AF.of_body 38 Tryz.func76 rfl Tryz.ntmps76 (Nat.le_of_ble_eq_true rfl) ?_
 intro w0 M0 vs hl hv
 obtain ⟨v0,v1,v2,rfl⟩:=Zml hl
 obtain rfl:=hv 2 _ _ rfl rfl
 clear hl hv
 refine nav ?_
 (refine ζa ?_<;>refine ζE 3 5 fun h3=>?_<;>refine ζE 4 5 fun h4=>?_<;>refine xL 6 ζc ?_<;>refine xL 7 ζc ?_<;>refine xL 8 ζc ?_<;>refine ζb (nav ?_)<;>try dsimp only)
 (refine ζa ?_<;>(refine yL 14 (ζp 3 ζg) fun v14 h=>?_;cases h)<;>(refine yL 15 (ζp 4 ζg) fun v15 h=>?_;cases h)<;>(refine cS 16 (cA Tryz.call120 (hf)) fun v16 h=>?_;cases h)<;>refine xL 9 ζc ?_<;>refine ζb (nav ?_)<;>try dsimp only)
 (refine ζa ?_<;>refine xL 17 ζd ?_<;>refine xL 18 ZaD ?_<;>refine ζb (nav ?_)<;>try dsimp only)
 (first|refine cCd ?_ ?_|refine cC ?_ ?_)<;>intro hb18
 · first|omega|exact absurd rfl hb18|exact Bool.noConfusion hb18
 · refine nav ?_
   (refine ζa ?_<;>(refine yL 21 (ζp 3 ζg) fun v21 h=>?_;cases h)<;>(refine yL 22 (ζp 4 ζg) fun v22 h=>?_;cases h)<;>refine xL 23 ζd ?_<;>(refine cP 24 (cA Tryz.call121 (hb)) fun va24 vb24 hva24 h=>?_;cases h)<;>refine xL 20 ζd ?_<;>refine xL 25 ζf ?_<;>refine xL 26 ζf ?_<;>refine ζr [(.int .i64 0),(.slice none 0 0),(.slice none 0 0),(.slice none 0 0),(.slice none 0 0)] 5 10 ZaR fun h10=>?_<;>refine ζC 10 Zad ?_<;>refine xL 11 ζc ?_<;>refine ζb (nav ?_)<;>try dsimp only)
   (refine ζa ?_<;>refine xL 27 ζd ?_<;>refine xL 28 ZaD ?_<;>refine ζb (nav ?_)<;>try dsimp only)
   (first|refine cCd ?_ ?_|refine cC ?_ ?_)<;>intro hb28
   · refine nav ?_
     (refine ζa ?_<;>refine xL 29 ζd ?_<;>refine xL 6 ζc ?_<;>refine xL 7 ζc ?_<;>refine xL 8 ζc ?_<;>refine ζb (nav ?_)<;>try dsimp only)
     refine Za7 (Zcj (t:=7) rfl) fun _=>?_
     exact Zg5 (Tryz.results76) rfl rfl rfl rfl
   · exact absurd (by simpa using hb28) he
theorem Znm (a b A B:Aut) (op:Int) (q:List PrS×List (List Nat)) (x:List Int) (t:Bool) (hf:AF Tryz.prog 120 [ζW a,ζW b] (· =pInt 0)) (hb:AF Tryz.prog 121 [ζW a,ζW b,pInt op] (· = .tup [Zgk A B op q,pInt 0])) (hg:AF Tryz.prog 122 [Zgk A B op q] (· = .tup [pInts x,ζO t])):AF Tryz.prog 76 [ζW a,ζW b,pInt op] (· = .tup [ζO (!t),pInts x,pInt 0]):=by
 refine AF.of_body 38 Tryz.func76 rfl Tryz.ntmps76 (Nat.le_of_ble_eq_true rfl) ?_
 intro w0 M0 vs hl hv
 obtain ⟨v0,v1,v2,rfl⟩:=Zml hl
 obtain rfl:=hv 2 _ _ rfl rfl
 clear hl hv
 refine nav ?_
 (refine ζa ?_<;>refine ζE 3 5 fun h3=>?_<;>refine ζE 4 5 fun h4=>?_<;>refine xL 6 ζc ?_<;>refine xL 7 ζc ?_<;>refine xL 8 ζc ?_<;>refine ζb (nav ?_)<;>try dsimp only)
 (refine ζa ?_<;>(refine yL 14 (ζp 3 ζg) fun v14 h=>?_;cases h)<;>(refine yL 15 (ζp 4 ζg) fun v15 h=>?_;cases h)<;>(refine cS 16 (cA Tryz.call120 (hf)) fun v16 h=>?_;cases h)<;>refine xL 9 ζc ?_<;>refine ζb (nav ?_)<;>try dsimp only)
 (refine ζa ?_<;>refine xL 17 ζd ?_<;>refine xL 18 ZaD ?_<;>refine ζb (nav ?_)<;>try dsimp only)
 (first|refine cCd ?_ ?_|refine cC ?_ ?_)<;>intro hb18
 · first|omega|exact absurd rfl hb18|exact Bool.noConfusion hb18
 · refine nav ?_
   (refine ζa ?_<;>(refine yL 21 (ζp 3 ζg) fun v21 h=>?_;cases h)<;>(refine yL 22 (ζp 4 ζg) fun v22 h=>?_;cases h)<;>refine xL 23 ζd ?_<;>(refine cP 24 (cA Tryz.call121 (hb)) fun va24 vb24 hva24 h=>?_;cases h)<;>refine xL 20 ζd ?_<;>refine xL 25 ζf ?_<;>refine xL 26 ζf ?_<;>refine ζr [(.int .i64 0),(.slice none 0 0),(.slice none 0 0),(.slice none 0 0),(.slice none 0 0)] 5 10 ZaR fun h10=>?_<;>refine ζC 10 Zad ?_<;>refine xL 11 ζc ?_<;>refine ζb (nav ?_)<;>try dsimp only)
   (refine ζa ?_<;>refine xL 27 ζd ?_<;>refine xL 28 ZaD ?_<;>refine ζb (nav ?_)<;>try dsimp only)
   (first|refine cCd ?_ ?_|refine cC ?_ ?_)<;>intro hb28
   · first|omega|exact absurd rfl hb28|exact Bool.noConfusion hb28
   · refine nav ?_
     (refine ζa ?_<;>(refine yL 31 (ζp 10 Zad) fun v31 h=>?_;cases h)<;>(refine cP 32 (cA Tryz.call122 (hg)) fun va32 vb32 hva32 h=>?_;cases h)<;>refine xL 30 ζd ?_<;>refine xL 33 ζf ?_<;>refine xL 34 ζf ?_<;>refine xL 12 ζc ?_<;>refine xL 13 ζc ?_<;>refine ζb (nav ?_)<;>try dsimp only)
     (refine ζa ?_<;>refine xL 35 ζd ?_<;>refine xL 36 Zak ?_<;>refine xL 37 ζd ?_<;>refine xL 6 ζc ?_<;>refine xL 7 ζc ?_<;>refine xL 8 ζc ?_<;>refine ζb (nav ?_)<;>try dsimp only)
     exact Zg5 (Tryz.results76) rfl rfl rfl rfl
def ZBd (x:Bool×List Int×Int):PV:= .tup [ζO x.1,pInts x.2.1,pInt x.2.2]
theorem ZiZ (a b:Aut) (op:Int):AF Tryz.prog 76 [ζW a,ζW b,pInt op] (· =ZBd (cmpX a b op)):=by
 have hf:=ZhU a b
 unfold cmpX
 by_cases h0:Zdl a b=0
 · rw [if_neg (fun h=>h h0)]
   have hb:=Zyj a b op h0
   rw [h0] at hf
   unfold ZBc at hb
   cases e:ZfS a b with
   | error f=>
     rw [e] at hb
     refine ZlY a b op f (fun hf0=>?_) hf hb
     unfold ZfS at e
     split at e
     · split at e<;>cases e
       omega
     · cases e;omega
   | ok x =>
     obtain ⟨A,B,o,rows⟩:=x
     rw [e] at hb
     obtain ⟨h1,h2,h3⟩:=Zkc h0
     unfold ZfS at e
     split at e
     · rename_i A' B' ea eb
       split at e
       · rename_i q' eq
         cases e
         obtain ⟨dA,sA⟩:=Zfl (Zd0 h1) ea
         obtain ⟨dB,sB⟩:=Zfl (Zd0 h2) eb
         have hok:=(Zhx dA dB (by rw [sA,sB,h3]) eq).1
         have hg:=Zvy A B op o rows eq hok.zero hok.cap
         have:=Znm a b A B op (o,rows) _ _ hf hb hg
         rw [Bool.not_not] at this
         exact this
       · cases e
     · cases e
 · rw [if_pos h0]
   exact ZlX a b op _ h0 hf
theorem Zke (a b:Aut) (t:Bool) (l:List Int) (e:Int) (h:AF Tryz.prog 76 [ζW a,ζW b,pInt 4] (· = .tup [ζO t,pInts l,pInt e])):AF Tryz.prog 52 [ζW a,ζW b] (· = .tup [ζO t,pInts l,pInt e]):=by
 refine AF.of_body 13 Tryz.func52 rfl Tryz.ntmps52 (Nat.le_of_ble_eq_true rfl) ?_
 intro w0 M0 vs hl hv
 obtain ⟨v0,v1,rfl⟩:=Zb3 hl
 clear hl hv
 refine nav ?_
 (refine ζa ?_<;>refine ζE 2 5 fun h2=>?_<;>refine ζE 3 5 fun h3=>?_<;>refine xL 4 ζc ?_<;>refine xL 5 ζc ?_<;>refine xL 6 ζc ?_<;>refine ζb (nav ?_)<;>try dsimp only)
 (refine ζa ?_<;>(refine yL 7 (ζp 2 ζg) fun v7 h=>?_;cases h)<;>(refine yL 8 (ζp 3 ζg) fun v8 h=>?_;cases h)<;>(refine Zxj 9 (cA Tryz.call76 h) fun va9 vb9 vc9 hva9 hvb9 hvc9=>?_;cases hva9;cases hvc9)<;>refine xL 10 ζf ?_<;>refine xL 11 ζf ?_<;>refine xL 12 ζf ?_<;>refine xL 4 ζc ?_<;>refine xL 5 ζc ?_<;>refine xL 6 ζc ?_<;>refine ζb (nav ?_)<;>try dsimp only)
 exact Zg5 (Tryz.results52) rfl rfl rfl rfl
theorem Zkf (a b:Aut):AF Tryz.prog 52 [ζW a,ζW b] (· =ZBd (cmpX a b 4)):=Zke a b _ _ _ (ZiZ a b 4)
theorem Znn (a b:Aut) (t:Bool) (l:List Int) (e:Int) (h:AF Tryz.prog 76 [ζW a,ζW b,pInt 3] (· = .tup [ζO t,pInts l,pInt e])):AF Tryz.prog 26 [ζW a,ζW b] (· = .tup [ζO t,pInts l,pInt e]):=by
 refine AF.of_body 13 Tryz.func26 rfl Tryz.ntmps26 (Nat.le_of_ble_eq_true rfl) ?_
 intro w0 M0 vs hl hv
 obtain ⟨v0,v1,rfl⟩:=Zb3 hl
 clear hl hv
 refine nav ?_
 (refine ζa ?_<;>refine ζE 2 5 fun h2=>?_<;>refine ζE 3 5 fun h3=>?_<;>refine xL 4 ζc ?_<;>refine xL 5 ζc ?_<;>refine xL 6 ζc ?_<;>refine ζb (nav ?_)<;>try dsimp only)
 (refine ζa ?_<;>(refine yL 7 (ζp 2 ζg) fun v7 h=>?_;cases h)<;>(refine yL 8 (ζp 3 ζg) fun v8 h=>?_;cases h)<;>(refine Zxj 9 (cA Tryz.call76 h) fun va9 vb9 vc9 hva9 hvb9 hvc9=>?_;cases hva9;cases hvc9)<;>refine xL 10 ζf ?_<;>refine xL 11 ζf ?_<;>refine xL 12 ζf ?_<;>refine xL 4 ζc ?_<;>refine xL 5 ζc ?_<;>refine xL 6 ζc ?_<;>refine ζb (nav ?_)<;>try dsimp only)
 exact Zg5 (Tryz.results26) rfl rfl rfl rfl
theorem Zno (a b:Aut):AF Tryz.prog 26 [ζW a,ζW b] (· =ZBd (cmpX a b 3)):=Znn a b _ _ _ (ZiZ a b 3)
end Go.Proofs.YtgfabnhpllkebaaGreatDoor
