/-
  Walks of functions and plain laws of the chapter, as the claim needs them.
-/
import Derived.Test.YtgfabnhpllkebaaGreatDoorPo06
import Derived.Test.YtgfabnhpllkebaaGreatDoorPo09
import Derived.Test.YtgfabnhpllkebaaGreatDoorPo07
import Derived.Test.YtgfabnhpllkebaaGreatDoorPo08
import Derived.Test.YtgfabnhpllkebaaGreatDoorPo04
import Derived.Test.YtgfabnhpllkebaaGreatDoorMShelfG
import Derived.Test.YtgfabnhpllkebaaGreatDoorPo01
namespace Go.Proofs.YtgfabnhpllkebaaGreatDoor
open Go.RowKit Go.Cb Go.En Tryz
set_option linter.all false
abbrev Lg:=List ByteArray→Prop
def Ol:List Lg→Lg
 |[]=>fun w=>w=[]
 |A::m=>fun w=>∃u v,w=u++v∧A u∧Ol m v
def Zpz (m:List Lg):Lg:=fun w=>∃A∈m,A w
inductive Shf:List ByteArray→List ByteArray→List ByteArray→Prop
 |nil:Shf [] [] []
 |left {a:ByteArray} {u v w:List ByteArray} (h:Shf u v w):Shf (a::u) v (a::w)
 |right {a:ByteArray} {u v w:List ByteArray} (h:Shf u v w):Shf u (a::v) (a::w)
def CN:List Lg→Lg
 |[]=>fun w=>w=[]
 |A::m=>fun w=>∃u v,Shf u v w∧A u∧CN m v
inductive LpG (A B:Lg):Lg
 |one {w:List ByteArray} (h:A w):LpG A B w
 |more {u v z:List ByteArray} (h1:LpG A B u) (h2:B v) (h3:A z):LpG A B (u++(v++z))
def lpG:List Lg→Lg
 |A::B::_=>LpG A B
 |_=>fun _=>False
def opG (o:Int) (a:ByteArray) (m:List Lg):Lg:=if o=1 then (fun w=>w=[a]) else if o=2 then (fun w=>w=[]) else if o=3 then Ol m else if o=4 then Zpz m else if o=5 then CN m else lpG m
mutual
def T8:Nd→Lg
 | .mk o a l=>opG o a (Zgg l)
def Zgg:List Nd→List Lg
 |[]=>[]
 |x::l=>T8 x::Zgg l
end
theorem Zkb (l:List Nd):Zgg l=l.map T8:=by
 induction l with
 |nil=>rfl
 |cons x l ih=>rw [Zgg,ih];rfl
theorem Zmq (o:Int) (a:ByteArray) (l:List Nd):T8 (.mk o a l)=opG o a (l.map T8):=by rw [T8,Zkb]
theorem Zbn:∀w,Shf w [] w
 |[]=> .nil
 |a::w=> .left (Zbn w)
theorem Tp {u v w:List ByteArray} (h:Shf u v w):Shf v u w:=by
 induction h with
 |nil=>exact .nil
 |left _ ih=>exact .right ih
 |right _ ih=>exact .left ih
theorem E4 {u w:List ByteArray} (h:Shf u [] w):w=u:=by
 generalize hv:([]:List ByteArray)=v at h
 induction h with
 |nil=>rfl
 |left _ ih=>rw [ih hv]
 |right _ _=>cases hv
theorem ζ1 {u v w:List ByteArray} (h:Shf u v w):∀{s z:List ByteArray},Shf s z v→∃x,Shf u s x∧Shf x z w:=by
 induction h with
 |nil=>intro s z h2;cases h2;exact ⟨[], .nil, .nil⟩
 | left _ ih=>
   intro s z h2;obtain ⟨x,h3,h4⟩:=ih h2;exact ⟨_, .left h3, .left h4⟩
 | right _ ih=>
   intro s z h2
   cases h2 with
   |left h2=>obtain ⟨x,h3,h4⟩:=ih h2;exact ⟨_, .right h3, .left h4⟩
   |right h2=>obtain ⟨x,h3,h4⟩:=ih h2;exact ⟨x,h3, .right h4⟩
theorem Zfg {x z w u s:List ByteArray} (h1:Shf x z w) (h2:Shf u s x):∃v,Shf u v w∧Shf s z v:=by
 obtain ⟨v,h3,h4⟩:=ζ1 (Tp h1) (Tp h2)
 exact ⟨v,Tp h4,Tp h3⟩
theorem Zgh:∀(m n:List Lg),Ol (m++n)=fun w=>∃u v,w=u++v∧Ol m u∧Ol n v
 |[],n=>funext fun w=>propext ⟨fun h=>⟨[],w,rfl,rfl,h⟩,fun ⟨u,v,h1,h2,h3⟩=>by cases h2;rw [h1];exact h3⟩
 | A ::m,n=>funext fun w=>propext (by
   show (∃u v,w=u++v∧A u∧Ol (m++n) v)↔∃u v,w=u++v∧(∃u2 v2,u=u2++v2∧A u2∧Ol m v2)∧Ol n v;rw [Zgh m n];constructor
   · rintro ⟨u,v,rfl,h1,u2,v2,rfl,h2,h3⟩;exact ⟨u++u2,v2,by rw [Xy],⟨u,u2,rfl,h1,h2⟩,h3⟩
   · rintro ⟨u,v,rfl,⟨u2,v2,rfl,h1,h2⟩,h3⟩;exact ⟨u2,v2++v,by rw [Xy],h1,v2,v,rfl,h2,h3⟩)
theorem Zgi:∀(m n:List Lg),CN (m++n)=fun w=>∃u v,Shf u v w∧CN m u∧CN n v
 |[],n=>funext fun w=>propext ⟨fun h=>⟨[],w,Tp (Zbn w),rfl,h⟩,fun ⟨u,v,h1,h2,h3⟩=>by cases h2;rw [E4 (Tp h1)];exact h3⟩
 | A ::m,n=>funext fun w=>propext (by
   show (∃u v,Shf u v w∧A u∧CN (m++n) v)↔∃u v,Shf u v w∧(∃u2 v2,Shf u2 v2 u∧A u2∧CN m v2)∧CN n v;rw [Zgi m n];constructor
   · rintro ⟨u,v,h0,h1,u2,v2,h4,h2,h3⟩;obtain ⟨x,h5,h6⟩:=ζ1 h0 h4;exact ⟨x,v2,h6,⟨u,u2,h5,h1,h2⟩,h3⟩
   · rintro ⟨u,v,h0,⟨u2,v2,h4,h1,h2⟩,h3⟩;obtain ⟨x,h5,h6⟩:=Zfg h0 h4;exact ⟨u2,x,h5,h1,v2,v,h6,h2,h3⟩)
theorem Zgj (A:Lg):Ol [A]=A:=funext fun w=>propext ⟨fun ⟨u,v,h1,h2,h3⟩=>by cases h3;rw [h1,Xr];exact h2,fun h=>⟨w,[],(Xr w).symm,h,rfl⟩⟩
theorem and_one (A:Lg):CN [A]=A:=funext fun w=>propext ⟨fun ⟨u,v,h1,h2,h3⟩=>by cases h3;rw [E4 h1];exact h2,fun h=>⟨w,[],Zbn w,h,rfl⟩⟩
inductive StG (A:Lg):Lg
 |nil:StG A []
 |cons {u v:List ByteArray} (h1:A u) (h2:StG A v):StG A (u++v)
theorem Zkc {A:Lg} {u v:List ByteArray} (h:StG A u) (h2:A v):StG A (u++v):=by
 induction h with
 |nil=>have:=StG.cons h2 (StG.nil (A:=A));rw [Xr] at this;exact this
 |cons h1 _ ih=>rw [Xy];exact .cons h1 ih
theorem Zmr (A B:Lg):LpG A B=fun w=>∃u v,w=u++v∧A u∧StG (Ol [B,A]) v:=by
 have h2:∀{x y:List ByteArray},B x→A y→Ol [B,A] (x++y):=fun {x y} hx hy=>⟨x,y,rfl,hx,y,[],(Xr y).symm,hy,rfl⟩
 refine funext fun w=>propext ⟨fun h=>?_,fun ⟨u,v,e,hu,hv⟩=>?_⟩
 · induction h with
   | @one w h=>exact ⟨w,[],(Xr w).symm,h, .nil⟩
   | more _ hb ha ih=>
     obtain ⟨u,v,rfl,h3,h4⟩:=ih;exact ⟨u,_,Xy ..,h3,Zkc h4 (h2 hb ha)⟩
 · subst e;have key:∀v,StG (Ol [B,A]) v→∀u,LpG A B u→LpG A B (u++v):=fun v hv=>by
    induction hv with
    |nil=>intro u h;rw [Xr];exact h
    | cons h1 _ ih=>
      intro u h;obtain ⟨x,y,rfl,hx,y2,z,rfl,hy,hz⟩:=h1
      cases hz;rw [Xr,←Xy];exact ih _ (.more h hx hy)
   exact key v hv u (.one hu)
set_option maxRecDepth 100000
def GF (m:Nat) (k:Int):Aut:=⟨2,m,[0],[1],[⟨0,1,k⟩]⟩
def RI (m:Nat):Aut:=⟨1,m,[0],[0],[]⟩
def okO (x:Except Int Aut):Option Aut:=match x with
 | .ok a=>some a
 | .error _=>none
def Jg (a b:Aut):Except Int Aut:=match Gs b a with
 | .error e=> .error e
 | .ok x=>match JC x with
   | .error e=> .error e
   | .ok s=>Gs a s
def Wk (o:Int) (a b:Aut):Except Int Aut:=if o=3 then Gs a b else if o=4 then J9 a b else if o=6 then Jg a b else Li a b
def Gu (o:Int) (r p:Option Aut):Option Aut:=match r,p with
 |some a,some b=>okO (Wk o a b)
 |_,_=>none
def foldX (o:Int):List (Option Aut)→Option Aut
 |[]=>none
 |x::l=>l.foldl (Gu o) x
mutual
def bldT (acts:List ByteArray):Nd→Option Aut
 | .mk o a l=>if o=1 then okO (Jd (GF acts.length (idx (fun x=>Jq x a) acts))) else if o=2 then okO (Jd (RI acts.length)) else foldX o (Zms acts l)
def Zms (acts:List ByteArray):List Nd→List (Option Aut)
 |[]=>[]
 |x::l=>bldT acts x::Zms acts l
end
theorem Zbo (acts:List ByteArray) (l:List Nd):Zms acts l=l.map (bldT acts):=by
 induction l with
 |nil=>rfl
 |cons x l ih=>rw [Zms,ih];rfl
theorem Zfh (acts:List ByteArray) (o:Int) (a:ByteArray) (l:List Nd) (h1:o≠1) (h2:o≠2):bldT acts (.mk o a l)=foldX o (l.map (bldT acts)):=by rw [bldT,US h1,US h2,Zbo]
theorem Zfi (o:Int) (p:Option Aut):Gu o none p=none:=rfl
theorem Zdu (o:Int) (r:Option Aut):Gu o r none=none:=by cases r<;>rfl
theorem O4 (o:Int) (l:List (Option Aut)):l.foldl (Gu o) none=none:=by
 induction l with
 |nil=>rfl
 |cons x l ih=>rw [VM,Zfi,ih]
theorem E5 {o:Int} {m:List (Option Aut)} (h:m≠[]) (x:Option Aut):foldX o (m++[x])=Gu o (foldX o m) x:=by
 cases m with
 |nil=>exact UU rfl h
 |cons y m=>rw [Ve];show (m++[x]).foldl (Gu o) y=_;rw [Vv];rfl
theorem Zdv {o:Int}:∀{l:List (Option Aut)} {r:Option Aut},none∈l→l.foldl (Gu o) r=none
 | x::l,r,h=>by
   rw [VM];rcases Xs.1 h with e|h
   · rw [←e,Zdu,O4]
   · exact Zdv h
theorem O5 {o:Int} {l:List (Option Aut)} (h:none∈l):foldX o l=none:=by
 cases l with
 |nil=>rfl
 | cons x l=>
   show l.foldl (Gu o) x=none;rcases Xs.1 h with e|h
   · rw [←e,O4]
   · exact Zdv h
def MinO (m:Nat) (x:Except Int Aut):Prop:=x= .error 13∨∃C,x= .ok C∧IsMin C∧C.syms=m
theorem MinO.lim {m:Nat} {x:Except Int Aut} (h:MinO m x):x=Go.Proofs.YtgfabnhpllkebaaGreatDoor.lim (okO x):=by
 rcases h with rfl|⟨C,rfl,_⟩<;>rfl
theorem MinO.ok {m:Nat} {x:Except Int Aut} (h:MinO m x) {C:Aut} (hc:okO x=some C):x= .ok C∧IsMin C∧C.syms=m:=by
 rcases h with rfl|⟨D,rfl,h1,h2⟩
 · cases hc
 · cases hc;exact ⟨rfl,h1,h2⟩
theorem E6 {a:Aut} {e:Int} (h:W5 a= .error e):e=13:=by
 unfold W5 at h
 cases ht:K4 a with
 |none=>rw [ht] at h;cases h;rfl
 | some t=>
   rw [ht] at h
   cases hl:Wh t with
   |none=>simp only [hl,Go.Proofs.YtgfabnhpllkebaaGreatDoor.lim] at h;cases h;rfl
   |some A=>simp only [hl,Go.Proofs.YtgfabnhpllkebaaGreatDoor.lim] at h;cases h
theorem Zkd {a:Aut} {e:Int} (h:D' a= .error e):e=13:=by
 unfold D' at h
 split at h
 · cases h;rfl
 · exact E6 h
theorem Rs {X:Aut} (hp:PreA X) {m:Nat} (hs:X.syms=m):MinO m (Je X):=by
 cases h:Je X with
 |error e=>exact .inl (by rw [Zkd h])
 |ok C=>obtain ⟨h1,h2,_⟩:=Lc hp h;exact .inr ⟨C,rfl,h1,by rw [h2,hs]⟩
theorem Gv {a:Aut} (h:Z4 a=true) {m:Nat} (hs:a.syms=m):MinO m (Jd a):=by
 cases h1:Jd a with
 | error e=>
   unfold Jd at h1;rw [UT h] at h1;exact .inl (by rw [E6 h1])
 |ok C=>obtain ⟨h3,h2,_⟩:=OY h1;exact .inr ⟨C,rfl,h3,by rw [h2,hs]⟩
variable {m:Nat} {a b:Aut}
theorem Rt (ha:IsMin a) (hb:IsMin b) (hsa:a.syms=m) (hsb:b.syms=m):WK a b=0:=Zbm ha.valid hb.valid (by rw [hsa,hsb])
theorem SS (ha:IsMin a) (hb:IsMin b) (hsa:a.syms=m) (hsb:b.syms=m):MinO m (Gs a b):=by
 unfold Gs
 rw [US (fun h=>h (Rt ha hb hsa hsb))]
 exact Rs (HG (WV ha.valid) (WV hb.valid) (by rw [hsa,hsb])) hsa
theorem Zfj (ha:IsMin a) (hb:IsMin b) (hsa:a.syms=m) (hsb:b.syms=m):MinO m (J9 a b):=by
 unfold J9
 rw [US (fun h=>h (Rt ha hb hsa hsb))]
 exact Rs (Rk (WV ha.valid) (WV hb.valid) (by rw [hsa,hsb])) hsa
theorem ZhN (ha:IsMin a) (hb:IsMin b) (hsa:a.syms=m) (hsb:b.syms=m):MinO m (Li a b):=by
 unfold Li
 rw [US (fun h=>h (Rt ha hb hsa hsb))]
 split
 · exact .inl rfl
 · exact Rs (Oi (WV ha.valid) (WV hb.valid) (by rw [hsa,hsb])) hsa
theorem Ru (ha:IsMin a) (hsa:a.syms=m):MinO m (JC a):=by
 unfold JC
 rw [UT ha.valid]
 exact Rs (Oa (WV ha.valid)) hsa
theorem ZhO (ha:IsMin a) (hb:IsMin b) (hsa:a.syms=m) (hsb:b.syms=m):MinO m (Jg a b):=by
 unfold Jg
 rcases SS hb ha hsb hsa with h|⟨C,h,hC,hs⟩
 · rw [h];exact .inl rfl
 · rw [h];dsimp only;rcases Ru hC hs with h2|⟨D,h2,hD,hs2⟩
   · rw [h2];exact .inl rfl
   · rw [h2];exact SS ha hD hsa hs2
theorem Rv (o:Int) (ha:IsMin a) (hb:IsMin b) (hsa:a.syms=m) (hsb:b.syms=m):MinO m (Wk o a b):=by
 unfold Wk
 split
 · exact SS ha hb hsa hsb
 split
 · exact Zfj ha hb hsa hsb
 split
 · exact ZhO ha hb hsa hsb
 · exact ZhN ha hb hsa hsb
theorem Om {k:Int} (hm:m≤40) (hk:0≤k∧k<m):Z4 (GF m k)=true:=by
 unfold Z4 GF Lp RE
 simp [Wv]
 omega
theorem E7 (hm:m≤40):Z4 (RI m)=true:=by
 unfold Z4 RI Lp
 simp [Wv]
 omega
def BldOk (m:Nat) (r:Option Aut):Prop:=∀A,r=some A→IsMin A∧A.syms=m
theorem BldOk.of {x:Except Int Aut} (h:MinO m x):BldOk m (okO x):=fun A hA=>(h.ok hA).2
theorem Zmt (o:Int) {r p:Option Aut} (hr:BldOk m r) (hp:BldOk m p):BldOk m (Gu o r p):=by
 match r,p with
 | some a,some b=>
   obtain ⟨ha,hsa⟩:=hr a rfl;obtain ⟨hb,hsb⟩:=hp b rfl;exact BldOk.of (Rv o ha hb hsa hsb)
 |none,_=>exact fun A hA=>by cases hA
 |some _,none=>exact fun A hA=>by cases hA
theorem ζ2 (o:Int):∀{l:List (Option Aut)} {r:Option Aut},BldOk m r→(∀x∈l,BldOk m x)→BldOk m (l.foldl (Gu o) r)
 |[],_,h,_=>h
 | x::l,r,h,h2=>by
   rw [VM];exact ζ2 o (Zmt o h (h2 x (Xm ..))) fun y hy=>h2 y (Xn _ hy)
theorem Zdw (o:Int) {l:List (Option Aut)} (h:∀x∈l,BldOk m x):BldOk m (foldX o l):=by
 cases l with
 |nil=>exact fun A hA=>by cases hA
 |cons x l=>exact ζ2 o (h x (Xm ..)) fun y hy=>h y (Xn _ hy)
def YO (acts:List ByteArray) (a:ByteArray):Int:=idx (fun x=>Jq x a) acts
theorem Pn {a b:ByteArray}:Jq a b=true↔a=b:=C5
theorem Tq {acts:List ByteArray} {a:ByteArray} (h:a∈acts):∃i:Nat,YO acts a=i∧acts[i]? =some a∧∀j y,j<i→acts[j]? =some y→y≠a:=by
 unfold YO
 obtain ⟨k,hk⟩:=XV h
 have key:∀n:Nat,(∃i:Nat,i≤n∧acts[i]? =some a)→∃i:Nat,acts[i]? =some a∧∀(j:Nat) (y:ByteArray),j<i→acts[j]? =some y→y≠a:=by
  intro n;induction n with
  |zero=>rintro ⟨i,hi,h⟩;exact ⟨i,h,fun j y hj=>oM⟩
  | succ n ih=>
    rintro ⟨i,hi,h⟩;by_cases h2:∃i:Nat,i≤n∧acts[i]? =some a
    · exact ih h2
    · exact ⟨i,h,fun j y hj hy e=>h2 ⟨j,oM,by rw [hy,e]⟩⟩
 obtain ⟨i,hi,hb⟩:=key k ⟨k,Xg _,hk⟩
 refine ⟨i,GW (fun j y hj hy=>?_) hi (Pn.2 rfl),hi,hb⟩
 cases hs:Jq y a
 · rfl
 · exact UU (Pn.1 hs) (hb j y hj hy)
theorem Zke {acts:List ByteArray} (hm:acts.length≤40):∀t:Nd,(∀s∈YY t,s∈acts)→BldOk acts.length (bldT acts t):=Nd.ind fun o a l ih ha=>by
 rw [bldT]
 split
 · rename_i h1;obtain ⟨i,h2,h3,_⟩:=Tq (ha a (by rw [YY,UT h1];exact Xm ..));have hi:=(XK.1 h3).1;refine BldOk.of (Gv (Om hm ?_) rfl);unfold YO at h2;rw [h2];omega
 split
 · exact BldOk.of (Gv (E7 hm) rfl)
 · rename_i h1 h2;rw [Zbo];refine Zdw o fun r hr=>?_;obtain ⟨x,hx,rfl⟩:=Xk.1 hr;refine ih x hx fun s hs=>ha s ?_;rw [YY,US h1];exact Sp.2 ⟨x,hx,hs⟩
def nmW (acts:List ByteArray) (w:List Nat):List ByteArray:=w.map fun i=>(acts[i]?).getD ByteArray.empty
def Ls (acts:List ByteArray) (A:Aut) (P:Lg):Prop:=∀w:List Nat,W9 acts.length w→(GN A (wI w)=true↔P (nmW acts w))
def opB (o:Int) (P Q:Lg):Lg:=if o=3 then fun w=>∃u v,w=u++v∧P u∧Q v else if o=4 then fun w=>P w∨Q w else if o=6 then LpG P Q else fun w=>∃u v,Shf u v w∧P u∧Q v
theorem E8 {w:List Nat} {u v:List Int}:wI w=u++v↔∃w1 w2,w=w1++w2∧u=wI w1∧v=wI w2:=by
 unfold wI
 rw [List.map_eq_append_iff]
 exact ⟨fun ⟨a,b,h1,h2,h3⟩=>⟨a,b,h1,h2.symm,h3.symm⟩,fun ⟨a,b,h1,h2,h3⟩=>⟨a,b,h1,h2.symm,h3.symm⟩⟩
theorem E9 {acts:List ByteArray} {w:List Nat} {u v:List ByteArray}:nmW acts w=u++v↔∃w1 w2,w=w1++w2∧u=nmW acts w1∧v=nmW acts w2:=by
 unfold nmW
 rw [List.map_eq_append_iff]
 exact ⟨fun ⟨a,b,h1,h2,h3⟩=>⟨a,b,h1,h2.symm,h3.symm⟩,fun ⟨a,b,h1,h2,h3⟩=>⟨a,b,h1,h2.symm,h3.symm⟩⟩
theorem On {m:Nat} {u v:List Nat}:W9 m (u++v)↔W9 m u∧W9 m v:=⟨fun h=>⟨fun c hc=>h c (X1 _ hc),fun c hc=>h c (X9 _ hc)⟩,fun h c hc=>(Xp.1 hc).elim (h.1 c) (h.2 c)⟩
theorem Zbp {m:Nat} {w:List Nat} (_:W9 m w):∀c∈wI w,0≤c:=fun c hc=>by
 unfold wI at hc
 obtain ⟨x,_,rfl⟩:=Xk.1 hc
 exact Int.natCast_nonneg x
variable {acts:List ByteArray} {a b C:Aut} {P Q:Lg}
theorem Jj (ha:IsMin a) (hP:Ls acts a P) {w:List Nat} (hw:W9 acts.length w):Lng a (wI w)↔P (nmW acts w):=by
 rw [←HE ha.aok (Zbp hw)];exact hP w hw
theorem Zbq (ha:IsMin a) (hb:IsMin b) (hsa:a.syms=acts.length) (hsb:b.syms=acts.length) (hP:Ls acts a P) (hQ:Ls acts b Q) (h:Gs a b= .ok C):Ls acts C (opB 3 P Q):=fun w hw=>by
 unfold Gs at h
 rw [US (fun h=>h (Rt ha hb hsa hsb))] at h
 have hva:=WV ha.valid
 have hvb:=WV hb.valid
 obtain ⟨_,_,h3⟩:=Lc (HG hva hvb (by rw [hsa,hsb])) h
 have e:(Kp a b).syms.toNat=acts.length:=by show a.syms.toNat=_;rw [hsa];rfl
 rw [h3 w (by rw [e];exact hw),Zmo hva hvb]
 show _↔∃u v,nmW acts w=u++v∧P u∧Q v
 constructor
 · rintro ⟨u,v,e1,h1,h2⟩;obtain ⟨w1,w2,rfl,rfl,rfl⟩:=E8.1 e1;obtain ⟨hw1,hw2⟩:=On.1 hw;exact ⟨_,_,E9.2 ⟨w1,w2,rfl,rfl,rfl⟩,(Jj ha hP hw1).1 h1,(Jj hb hQ hw2).1 h2⟩
 · rintro ⟨u,v,e1,h1,h2⟩;obtain ⟨w1,w2,rfl,rfl,rfl⟩:=E9.1 e1;obtain ⟨hw1,hw2⟩:=On.1 hw;exact ⟨_,_,E8.2 ⟨w1,w2,rfl,rfl,rfl⟩,(Jj ha hP hw1).2 h1,(Jj hb hQ hw2).2 h2⟩
theorem ZhP (ha:IsMin a) (hb:IsMin b) (hsa:a.syms=acts.length) (hsb:b.syms=acts.length) (hP:Ls acts a P) (hQ:Ls acts b Q) (h:J9 a b= .ok C):Ls acts C (opB 4 P Q):=fun w hw=>by
 unfold J9 at h
 rw [US (fun h=>h (Rt ha hb hsa hsb))] at h
 have hva:=WV ha.valid
 have hvb:=WV hb.valid
 obtain ⟨_,_,h3⟩:=Lc (Rk hva hvb (by rw [hsa,hsb])) h
 have e:(W6 a b).syms.toNat=acts.length:=by show a.syms.toNat=_;rw [hsa];rfl
 rw [h3 w (by rw [e];exact hw),ZhI hva hvb,Jj ha hP hw,Jj hb hQ hw]
 rfl
theorem O6:∀{w:List Nat} {u v:List Int},Mix (wI w) u v→∃w1 w2,u=wI w1∧v=wI w2∧(∀c∈w1,c∈w)∧(∀c∈w2,c∈w)∧Shf (nmW acts w1) (nmW acts w2) (nmW acts w)
 | [],_,_,h=>by
   cases h;exact ⟨[],[],rfl,rfl,fun _ h=>h,fun _ h=>h, .nil⟩
 | c ::w,_,_,h=>by
   cases h with
   | one _ h=>
     obtain ⟨w1,w2,rfl,rfl,h1,h2,h3⟩:=O6 h;exact ⟨c::w1,w2,rfl,rfl,fun x hx=>(Xs.1 hx).elim (fun e=>by rw [e];exact Xm ..) fun h=>Xn _ (h1 x h),fun x hx=>Xn _ (h2 x hx), .left h3⟩
   | two _ h=>
     obtain ⟨w1,w2,rfl,rfl,h1,h2,h3⟩:=O6 h;exact ⟨w1,c::w2,rfl,rfl,fun x hx=>Xn _ (h1 x hx),fun x hx=>(Xs.1 hx).elim (fun e=>by rw [e];exact Xm ..) fun h=>Xn _ (h2 x h), .right h3⟩
theorem O7:∀{w:List Nat} {u v:List ByteArray},Shf u v (nmW acts w)→∃w1 w2,u=nmW acts w1∧v=nmW acts w2∧(∀c∈w1,c∈w)∧(∀c∈w2,c∈w)∧Mix (wI w) (wI w1) (wI w2)
 | [],_,_,h=>by
   cases h;exact ⟨[],[],rfl,rfl,fun _ h=>h,fun _ h=>h, .nil⟩
 | c ::w,_,_,h=>by
   cases h with
   | left h=>
     obtain ⟨w1,w2,rfl,rfl,h1,h2,h3⟩:=O7 h;exact ⟨c::w1,w2,rfl,rfl,fun x hx=>(Xs.1 hx).elim (fun e=>by rw [e];exact Xm ..) fun h=>Xn _ (h1 x h),fun x hx=>Xn _ (h2 x hx), .one _ h3⟩
   | right h=>
     obtain ⟨w1,w2,rfl,rfl,h1,h2,h3⟩:=O7 h;exact ⟨w1,c::w2,rfl,rfl,fun x hx=>Xn _ (h1 x hx),fun x hx=>(Xs.1 hx).elim (fun e=>by rw [e];exact Xm ..) fun h=>Xn _ (h2 x h), .two _ h3⟩
theorem Zkf (ha:IsMin a) (hb:IsMin b) (hsa:a.syms=acts.length) (hsb:b.syms=acts.length) (hP:Ls acts a P) (hQ:Ls acts b Q) (h:Li a b= .ok C):Ls acts C (opB 5 P Q):=fun w hw=>by
 unfold Li at h
 rw [US (fun h=>h (Rt ha hb hsa hsb))] at h
 split at h
 · cases h
 have hva:=WV ha.valid
 have hvb:=WV hb.valid
 obtain ⟨_,_,h3⟩:=Lc (Oi hva hvb (by rw [hsa,hsb])) h
 have e:(Wj a b).syms.toNat=acts.length:=by show a.syms.toNat=_;rw [hsa];rfl
 rw [h3 w (by rw [e];exact hw),Zj9 hva hvb]
 show _↔∃u v,Shf u v (nmW acts w)∧P u∧Q v
 constructor
 · rintro ⟨u,v,e1,h1,h2⟩;obtain ⟨w1,w2,rfl,rfl,k1,k2,k3⟩:=O6 (acts:=acts) e1;exact ⟨_,_,k3,(Jj ha hP fun c hc=>hw c (k1 c hc)).1 h1,(Jj hb hQ fun c hc=>hw c (k2 c hc)).1 h2⟩
 · rintro ⟨u,v,e1,h1,h2⟩;obtain ⟨w1,w2,rfl,rfl,k1,k2,k3⟩:=O7 e1;exact ⟨_,_,k3,(Jj ha hP fun c hc=>hw c (k1 c hc)).2 h1,(Jj hb hQ fun c hc=>hw c (k2 c hc)).2 h2⟩
theorem Zkg (ha:IsMin a) (hsa:a.syms=acts.length) (hP:Ls acts a P) (h:JC a= .ok C):Ls acts C (StG P):=fun w hw=>by
 unfold JC at h
 rw [UT ha.valid] at h
 have hva:=WV ha.valid
 obtain ⟨_,_,h3⟩:=Lc (Oa hva) h
 have e:(KU a).syms.toNat=acts.length:=by show a.syms.toNat=_;rw [hsa];rfl
 rw [h3 w (by rw [e];exact hw),Zj6 hva]
 constructor
 · intro h;generalize hx:wI w=x at h;induction h generalizing w with
   | nil=>
     have:w=[]:=Uq.1 hx;rw [this];exact .nil
   | app h1 _ ih=>
     obtain ⟨w1,w2,rfl,rfl,rfl⟩:=E8.1 hx;obtain ⟨hw1,hw2⟩:=On.1 hw;rw [show nmW acts (w1++w2)=nmW acts w1++nmW acts w2 from Xu];exact .cons ((Jj ha hP hw1).1 h1) (ih w2 hw2 rfl)
 · intro h;generalize hx:nmW acts w=x at h;induction h generalizing w with
   | nil=>
     have:w=[]:=Uq.1 hx;rw [this];exact .nil
   | cons h1 _ ih=>
     obtain ⟨w1,w2,rfl,rfl,rfl⟩:=E9.1 hx;obtain ⟨hw1,hw2⟩:=On.1 hw;rw [show wI (w1++w2)=wI w1++wI w2 from Xu];exact .app ((Jj ha hP hw1).2 h1) (ih w2 hw2 rfl)
theorem Zkh (ha:IsMin a) (hb:IsMin b) (hsa:a.syms=acts.length) (hsb:b.syms=acts.length) (hP:Ls acts a P) (hQ:Ls acts b Q) (h:Jg a b= .ok C):Ls acts C (opB 6 P Q):=by
 unfold Jg at h
 rcases SS hb ha hsb hsa with h1|⟨X,h1,hX,hs1⟩
 · rw [h1] at h;cases h
 rw [h1] at h
 dsimp only at h
 rcases Ru hX hs1 with h2|⟨Y,h2,hY,hs2⟩
 · rw [h2] at h;cases h
 rw [h2] at h
 dsimp only at h
 have:=Zbq ha hY hsa hs2 hP (Zkg hX hs1 (Zbq hb ha hsb hsa hQ hP h1) h2) h
 have e:opB 6 P Q=opB 3 P (StG (opB 3 Q P)):=by
  have e2:opB 3 Q P=Ol [Q,P]:=funext fun w=>propext ⟨fun ⟨u,v,h1,h2,h3⟩=>⟨u,v,h1,h2,v,[],(Xr v).symm,h3,rfl⟩,fun ⟨u,v,h1,h2,v2,z,h3,h4,h5⟩=>⟨u,v,h1,h2,by cases h5;rw [h3,Xr];exact h4⟩⟩;rw [e2];exact Zmr P Q
 rw [e];exact this
theorem Zki {o:Int} (ho:o=3∨o=4∨o=5∨o=6) (ha:IsMin a) (hb:IsMin b) (hsa:a.syms=acts.length) (hsb:b.syms=acts.length) (hP:Ls acts a P) (hQ:Ls acts b Q) (h:Wk o a b= .ok C):Ls acts C (opB o P Q):=by
 rcases ho with rfl|rfl|rfl|rfl
 · exact Zbq ha hb hsa hsb hP hQ h
 · exact ZhP ha hb hsa hsb hP hQ h
 · exact Zkf ha hb hsa hsb hP hQ h
 · exact Zkh ha hb hsa hsb hP hQ h
variable {acts:List ByteArray}
theorem Zon {α:Type} {l:List α} (hn:l.Nodup) {x i:Nat} (hx:x<l.length) (hi:i<l.length) (e:l[x]'hx=l[i]'hi):x=i:=by
 have h:=Ui.1 hn
 rcases Nat.lt_trichotomy x i with h1|h1|h1
 · exact UU e (h x i hx hi h1)
 · exact h1
 · exact UU e.symm (h i x hi hx h1)
theorem Zkj {a:ByteArray} (hn:acts.Nodup) (hm:acts.length≤40) (ha:a∈acts) {A:Aut} (h:Jd (GF acts.length (idx (fun x=>Jq x a) acts))= .ok A):Ls acts A (fun w=>w=[a]):=fun w hw=>by
 obtain ⟨i,h2,h3,_⟩:=Tq ha
 unfold YO at h2
 rw [h2] at h
 have hi:=(XK.1 h3).1
 have hok:Z4 (GF acts.length (i:Nat))=true:=Om hm oM
 rw [(OY h).2.2 w hw,HE (WV hok).toAOk (Zbp hw)]
 have key:∀{s t:Int} {v:List Int},Pth (GF acts.length (i:Nat)) s v t→(s=t∧v=[])∨(s=0∧t=1∧v=[(i:Int)]):=fun h=>by
  induction h with
  |nil s=>exact .inl ⟨rfl,rfl⟩
  | eps hm hs _ _=>
    cases Xi.1 hm;dsimp only at hs;omega
  | sym hm hs _ ih=>
    cases Xi.1 hm;dsimp only at ih ⊢;rcases ih with ⟨h1,h2⟩|⟨h1,_⟩
    · exact .inr ⟨rfl,h1.symm,by rw [h2]⟩
    · omega
 constructor
 · rintro ⟨s,hs,f,hf,hp⟩
   cases Xi.1 hs
   cases Xi.1 hf;rcases key hp with ⟨h1,_⟩|⟨_,_,h1⟩
   · omega
   · unfold wI at h1;rw [List.map_eq_singleton_iff] at h1;obtain ⟨x,rfl,hx⟩:=h1;obtain rfl:x=i:=oM;show [(acts[x]?).getD ByteArray.empty]=[a];rw [h3];rfl
 · intro h;have h:w.map (fun i=>(acts[i]?).getD ByteArray.empty)=[a]:=h;rw [List.map_eq_singleton_iff] at h;obtain ⟨x,rfl,hx⟩:=h;have hxl:=hw x (Xi.2 rfl);rw [XX hxl] at hx;have e:acts[x]'hxl=acts[i]'hi:=by rw [(XK.1 h3).2];exact hx
   obtain rfl:x=i:=Zon hn _ _ e;refine ⟨0,Xi.2 rfl,1,Xi.2 rfl,?_⟩;exact Pth.sym (a:=GF acts.length (x:Nat)) (m:=⟨0,1,(x:Nat)⟩) (Xi.2 rfl) (by dsimp only;omega) (.nil 1)
theorem Zmu (hm:acts.length≤40) {A:Aut} (h:Jd (RI acts.length)= .ok A):Ls acts A (fun w=>w=[]):=fun w hw=>by
 have hok:Z4 (RI acts.length)=true:=E7 hm
 rw [(OY h).2.2 w hw,HE (WV hok).toAOk (Zbp hw)]
 constructor
 · rintro ⟨s,hs,f,hf,hp⟩;have e:∀{s t:Int} {v:List Int},Pth (RI acts.length) s v t→v=[]:=fun h=>by
    cases h with
    |nil s=>rfl
    |eps hm _ _=>cases hm
    |sym hm _ _=>cases hm
   show w.map _=[];rw [Uq.1 (e hp)];rfl
 · intro h;have:w=[]:=Uq.1 h;subst this;exact ⟨0,Xi.2 rfl,0,Xi.2 rfl, .nil 0⟩
theorem Zmv {o:Int} (ho:o=3∨o=4∨o=5) (a:ByteArray) (P:Lg):opG o a [P]=P:=by
 rcases ho with rfl|rfl|rfl
 · exact Zgj P
 · exact funext fun w=>propext ⟨fun ⟨A,h1,h2⟩=>by cases Xi.1 h1;exact h2,fun h=>⟨P,Xi.2 rfl,h⟩⟩
 · exact and_one P
theorem Zkk {o:Int} (ho:o=3∨o=4∨o=5) (a:ByteArray) (m:List Lg) (Q:Lg):opG o a (m++[Q])=opB o (opG o a m) Q:=by
 rcases ho with rfl|rfl|rfl
 · show Ol (m++[Q])=_;rw [Zgh,Zgj];rfl
 · exact funext fun w=>propext ⟨fun ⟨A,h1,h2⟩=>(Xp.1 h1).elim (fun h=> .inl ⟨A,h,h2⟩) (fun h=>by cases Xi.1 h;exact .inr h2),fun h=>h.elim (fun ⟨A,h1,h2⟩=>⟨A,X1 _ h1,h2⟩) fun h=>⟨Q,X9 _ (Xi.2 rfl),h⟩⟩
 · show CN (m++[Q])=_;rw [Zgi,and_one];rfl
def Zdx (acts:List ByteArray) (r:Option Aut) (P:Lg):Prop:=∀A,r=some A→IsMin A∧A.syms=acts.length∧Ls acts A P
theorem Zdy {o:Int} (ho:o=3∨o=4∨o=5∨o=6) {r p:Option Aut} {P Q:Lg} (hr:Zdx acts r P) (hp:Zdx acts p Q):Zdx acts (Gu o r p) (opB o P Q):=by
 match r,p with
 | some a,some b=>
   obtain ⟨ha,hsa,hP⟩:=hr a rfl;obtain ⟨hb,hsb,hQ⟩:=hp b rfl;intro A hA;obtain ⟨h1,h2,h3⟩:=(Rv o ha hb hsa hsb).ok hA;exact ⟨h2,h3,Zki ho ha hb hsa hsb hP hQ h1⟩
 |none,_=>exact fun A hA=>by cases hA
 |some _,none=>exact fun A hA=>by cases hA
theorem Zdz {o:Int} (ho:o=3∨o=4∨o=5) (a:ByteArray):∀(l:List Nd) (f:Nd→Option Aut) (r:Option Aut) (m:List Lg),Zdx acts r (opG o a m)→(∀x∈l,Zdx acts (f x) (T8 x))→Zdx acts ((l.map f).foldl (Gu o) r) (opG o a (m++l.map T8))
 |[],f,r,m,h,_=>by rw [Vd,Vd,Xr];exact h
 | x::l,f,r,m,h,h2=>by
   have:=Zdz ho a l f (Gu o r (f x)) (m++[T8 x]) (by rw [Zkk ho];exact Zdy oM h (h2 x (Xm ..))) fun y hy=>h2 y (Xn _ hy);rw [Xy] at this;exact this
theorem O8 {a:ByteArray} {l:List Nd} (h:rightT (.mk 6 a l)=true):∃x y,l=[x,y]:=by
 unfold rightT at h
 simp [Nd.op,Nd.l,Nd.act] at h
 match l,h with
 |[x,y],_=>exact ⟨x,y,rfl⟩
theorem E' {o:Int} (ho:o=3∨o=4∨o=5) {a:ByteArray} {l:List Nd} (h:rightT (.mk o a l)=true):∃x m,l=x::m:=by
 cases l with
 |nil=>rcases ho with rfl|rfl|rfl<;>simp [rightT,Nd.op,Nd.l] at h
 |cons x m=>exact ⟨x,m,rfl⟩
theorem Zkl (hn:acts.Nodup) (hm:acts.length≤40):∀t:Nd,okT t=true→(∀s∈YY t,s∈acts)→Zdx acts (bldT acts t) (T8 t):=Nd.ind fun o a l ih hok ha=>by
 obtain ⟨hr,hp⟩:=Jh.1 hok
 have hops:=S9 hr
 simp only [Nd.op,Nd.l] at hops hp
 have hpart:∀x∈l,o≠1→Zdx acts (bldT acts x) (T8 x):=fun x hx h1=>ih x hx (hp x hx) fun s hs=>ha s (by rw [YY,US h1];exact Sp.2 ⟨x,hx,hs⟩)
 by_cases h1:o=1
 · subst h1;intro A hA;have hmem:a∈acts:=ha a (by rw [YY,UT rfl];exact Xm ..);rw [bldT,UT rfl] at hA;obtain ⟨i,h2,h3,_⟩:=Tq hmem;have hi:=(XK.1 h3).1;obtain ⟨k1,k2,k3⟩:=(Gv (m:=acts.length) (Om hm (by unfold YO at h2;rw [h2];omega)) rfl).ok hA;exact ⟨k2,k3,Zkj hn hm hmem k1⟩
 by_cases h2:o=2
 · subst h2;intro A hA;rw [bldT,US dC,UT rfl] at hA;obtain ⟨k1,k2,k3⟩:=(Gv (m:=acts.length) (E7 hm) rfl).ok hA;exact ⟨k2,k3,Zmu hm k1⟩
 rw [Zfh acts o a l h1 h2,Zmq]
 by_cases h6:o=6
 · subst h6;obtain ⟨x,y,rfl⟩:=O8 hr;exact Zdy (o:=6) oM (hpart x sM h1) (hpart y sM h1)
 · have ho:o=3∨o=4∨o=5:=oM;obtain ⟨x,m,rfl⟩:=E' ho hr;exact Zdz ho a m (bldT acts) (bldT acts x) [T8 x] (by rw [Zmv ho];exact hpart x (Xm ..) h1) fun y hy=>hpart y (Xn _ hy) h1
theorem Zmw {a b:Aut} (ha:IsMin a) (hb:IsMin b) (hs:a.syms=b.syms) (op:Int):cmpX a b op=(false,[],13)∨(cmpX a b op=(true,[],0)∧∀w,W9 a.syms.toNat w→Ha op (GN a (wI w)) (GN b (wI w))=false)∨∃u,W9 a.syms.toNat u∧cmpX a b op=(false,wI u,0)∧Ha op (GN a (wI u)) (GN b (wI u))=true:=by
 have hf:WK a b=0:=Zbm ha.valid hb.valid hs
 cases hq:prodQ a b with
 |none=>exact .inl (ζ0 hf ha.red hb.red hq)
 | some q=>
   obtain ⟨o,rows⟩:=q;have hP:PQ a b o rows:=⟨ha,hb,hs,hq⟩;have hc:=ζZ (op:=op) hf ha.red hb.red hq
   cases hx:(o.map (WT a b op)).idxOf? true with
   | none=>
     rw [ZhM hx] at hc;refine .inr (.inl ⟨hc,fun w hw=>?_⟩);obtain ⟨h5,_⟩:=hP.run (op:=op) w hw;obtain ⟨x,hx'⟩:=Zt h5;rw [←hP.fin (op:=op) hw hx']
     cases hp:WT a b op x with
     |false=>rfl
     | true=>
       exfalso;rw [List.idxOf?_eq_none_iff] at hx;exact hx (Xk.2 ⟨x,Xc hx',hp⟩)
   | some i=>
     rw [ZhL hx] at hc;obtain ⟨hi,_⟩:=Zdt.1 hx;(have hil:i<o.length:=by have:=Zf hi;rwa [Xe] at this);obtain ⟨u,hu,e,hr⟩:=hP.way (op:=op) i hil;refine .inr (.inr ⟨u,hu,by rw [hc,e],?_⟩);obtain ⟨x,hx'⟩:=Zt hil;rw [←hP.fin (op:=op) hu (x:=x) (by rw [hr];exact hx')];rw [Xh,hx'] at hi;simpa using hi
theorem Zkm (ks:List ByteArray):(J2 ks).Perm ks:=by
 have h:=(Us (ks.map toB) fun x y=>decide (x≤y)).map ofB
 have e:(ks.map toB).map ofB=ks:=by rw [XH];exact (VQ fun s _=>Hx s).trans (List.map_id ks)
 rw [e] at h
 exact h
theorem Ca {ks:List ByteArray} {s:ByteArray}:s∈J2 ks↔s∈ks:=(Zkm ks).mem_iff
theorem Zbr {ks:List ByteArray} (h:ks.Nodup):(J2 ks).Nodup:=(Zkm ks).nodup_iff.2 h
noncomputable def unK (a b:Nd):List ByteArray:=colS (colS [] (YY a)) (YY b)
noncomputable def unT (a b:Nd):List ByteArray:=J2 (unK a b)
theorem Zkn (a b:Nd):(unK a b).Nodup:=LB _ _ (LB _ _ Vb)
theorem Zgk {a b:Nd} {s:ByteArray}:s∈unK a b↔s∈YY a∨s∈YY b:=by unfold unK;rw [G3,G3];simp
theorem HI {a b:Nd} {s:ByteArray}:s∈unT a b↔s∈YY a∨s∈YY b:=by unfold unT;rw [Ca,Zgk]
theorem Zko (a b:Nd):(unT a b).Nodup:=Zbr (Zkn a b)
theorem HJ (a b:Nd):(unT a b).length=(unK a b).length:=G4 _
def nmI (acts:List ByteArray) (w:List Int):List ByteArray:=w.map fun i=>(acts[i.toNat]?).getD ByteArray.empty
noncomputable def eqTX (a b:Nd):Bool×List ByteArray×Int:=
 if Ke a=true∧Ke b=true then
  if (unK a b).length≤40 then match bldT (unT a b) a,bldT (unT a b) b with
   |some x,some y=>((cmpX x y 4).1,nmI (unT a b) (cmpX x y 4).2.1,(cmpX x y 4).2.2)
   |_,_=>(false,[],13)
  else (false,[],5)
 else (false,[],1)
theorem Zfk {acts:List ByteArray} {t:Nd} (hn:acts.Nodup) (hm:acts.length≤40) (hv:Ke t=true) (ha:∀s∈YY t,s∈acts) {A:Aut} (h:bldT acts t=some A):IsMin A∧A.syms=acts.length∧Ls acts A (T8 t):=Zkl hn hm t (Sj hv) ha A h
theorem ZhQ {m:Nat} {a:Aut} (h:a.syms=m) {w:List Nat}:W9 a.syms.toNat w↔W9 m w:=by rw [h];rfl
def Y5 (acts:List ByteArray) (w:List ByteArray):List Int:=w.map (YO acts)
noncomputable def accTX (t:Nd) (w:List ByteArray):Bool×Int:=
 if Ke t=true then
  if 200<w.length then (false,5) else if ¬(actR t).2=0 then (false,(actR t).2) else match bldT (actR t).1 t with
   |none=>(false,13)
   |some A=>if (w.any fun s=>decide (YO (actR t).1 s<0))=true then (false,0) else (GN A (Y5 (actR t).1 w),0)
 else (false,1)
theorem Zbs {t:Nd} (h:(actR t).2=0):Ke t=true∧(actR t).1=J2 (colS [] (YY t))∧(actR t).1.length≤40∧(actR t).1.Nodup∧∀s,s∈(actR t).1↔s∈YY t:=by
 unfold actR at h ⊢
 by_cases h1:Ke t=true
 · rw [UT h1] at h ⊢;by_cases h2:(colS [] (YY t)).length≤40
   · rw [UT h2] at h ⊢;dsimp only;exact ⟨h1,rfl,by rw [G4];exact h2,Zbr (LB _ _ Vb),fun s=>by rw [Ca,G3];simp⟩
   · rw [US h2] at h;cases h
 · rw [US h1] at h;cases h
theorem Zoo {acts:List ByteArray} {s:ByteArray} (h:¬YO acts s<0):∃i:Nat,YO acts s=i∧acts[i]? =some s:=by
 by_cases hs:s∈acts
 · obtain ⟨i,h1,h2,_⟩:=Tq hs;exact ⟨i,h1,h2⟩
 · exfalso;refine h ?_;unfold YO;rw [GX (fun i y _ hy=>?_)]
   · decide
   · cases h2:Jq y s with
     |false=>rfl
     |true=>exact UU (Pn.1 h2▸Xc hy) hs
theorem ζ3 {acts:List ByteArray}:∀{w:List ByteArray},(w.any fun s=>decide (YO acts s<0))=false→∃u,W9 acts.length u∧Y5 acts w=wI u∧nmW acts u=w
 |[],_=>⟨[],fun _ h=>(by cases h),rfl,rfl⟩
 | s ::w,h=>by
   rw [VT,Ud] at h;obtain ⟨u,h1,h2,h3⟩:=ζ3 h.2;obtain ⟨i,h4,h5⟩:=Zoo (UW h.1);refine ⟨i::u,fun c hc=>?_,?_,?_⟩
   · rcases Xs.1 hc with rfl|hc
     · exact Zf h5
     · exact h1 c hc
   · show YO acts s::Y5 acts w=((i:Nat):Int)::wI u;rw [h4,h2]
   · show ((acts[i]?).getD ByteArray.empty)::nmW acts u=_;rw [h5,h3];rfl
theorem Zbt:∀t:Nd,okT t=true→(YY t).length≤szT t:=Nd.ind fun o a l ih h=>by
 obtain ⟨hr,hp⟩:=Jh.1 h
 have key:∀m:List Nd,(∀x∈m,x∈l)→(JH m).length≤szL m:=fun m=>by
  induction m with
  |nil=>intro _;exact Xg _
  | cons x m ihm=>
    intro hm;rw [JH,szL,Xb];have h1:=ih x (hm x (Xm ..)) (hp x (hm x (Xm ..)));have h2:=ihm fun y hy=>hm y (Xn _ hy);omega
 have:=key l fun _ h=>h
 rw [YY,szT]
 split
 · rw [Xl];omega
 · omega
theorem ζ4:∀a b:List UInt8,Op.bytesLess a b=decide (a<b)
 |_,[]=>by simp [Op.bytesLess]
 |[],_::_=>by simp [Op.bytesLess]
 | x::a,y::b=>by
   rw [Op.bytesLess,ζ4 a b,V6];simp [List.cons_lt_cons_iff]
noncomputable def canB (l:List ByteArray):List ByteArray:=J2 (colS [] l)
theorem Zkp {l m:List ByteArray} (h:∀s,s∈l↔s∈m):canB l=canB m:=ζe (Zhd h)
theorem Cc {l:List ByteArray} {s:ByteArray}:s∈canB l↔s∈l:=by unfold canB;rw [Ca,G3];simp
theorem Zkq:canB []=[]:=by unfold canB J2 colS;simp
def Po (l:List ByteArray):Prop:=l.Pairwise fun x y=>YD x y=true
theorem Zkr {x y:ByteArray}:YD x y=decide (toB x<toB y):=by
 unfold YD toB
 rw [ζ4,ByteArray.toList_eq,ByteArray.toList_eq]
theorem Zks {ks:List ByteArray} (h:ks.Nodup):Po (J2 ks):=by
 have htr:∀a b c:List UInt8,decide (a≤b)=true→decide (b≤c)=true→decide (a≤c)=true:=fun a b c h1 h2=>by
  simp only [UP] at*;exact List.le_trans h1 h2
 have hto:∀a b:List UInt8,(decide (a≤b)||decide (b≤a))=true:=fun a b=>by
  simp only [X5,UP];exact List.le_total a b
 have h1:=Ur htr hto (ks.map toB)
 have h2:(J2 ks).Pairwise fun x y=>decide (toB x≤toB y)=true:=by
  unfold J2;rw [V8];exact h1.imp fun {a b} h=>by rw [ZfT,ZfT];exact h
 have h3:=Zbr h
 exact List.Pairwise.imp₂ (fun {a b} k1 k2=>by
  rw [Zkr];simp only [UP] at k1 ⊢;refine Decidable.byContradiction fun hn=>k2 ?_;have e:toB a=toB b:=List.le_antisymm k1 (List.not_lt.1 hn);rw [←Hx a,e,Hx]) h2 h3
theorem Cd (l:List ByteArray):Po (canB l):=Zks (LB _ _ Vb)
theorem Zkt:∀{l m:List ByteArray},Po l→Po m→(∀s,s∈l↔s∈m)→l=m:=fun {l m} hl hm h=>by
 have nd:∀{l:List ByteArray},Po l→l.Nodup:=fun h=>h.imp fun {a b} h e=>by rw [e,JN] at h;cases h
 refine List.Perm.eq_of_pairwise (le:=fun x y=>YD x y=true) (fun a b _ _ h1 h2=>?_) hl hm ((List.perm_ext_iff_of_nodup (nd hl) (nd hm)).2 h)
 exact UU (Jt h1 h2) (by rw [JN];decide)
theorem Zbu {l m:List ByteArray} (h:Po l) (hm:∀s,s∈l↔s∈m):l=canB m:=Zkt h (Cd m) fun s=>by rw [hm,Cc]
def Gc (s:ByteArray) (m:List ByteArray):List ByteArray:=m.filter (YD · s)++(if m.any (YD s ·)=true then [s] else [])++m.filter (YD s ·)
def SU (s:ByteArray) (m:List ByteArray):List ByteArray:=m.filter (YD · s)++[s]++m.filter (YD s ·)
theorem JD {α:Type} (p:α→Bool) (l:List α) (x:α):(l++[x]).filter p=l.filter p++(if p x=true then [x] else []):=by
 rw [XU]
 congr 1
 cases h:p x<;>simp [List.filter_cons,h]
theorem Zbv {s:ByteArray} {m:List ByteArray} (h:m.any (YD s ·)=false):m.filter (YD s ·)=[]:=List.filter_eq_nil_iff.2 fun x hx hl=>by
 rw [List.any_eq_false] at h;exact h x hx hl
theorem ZhR {s x:ByteArray} {m:List ByteArray} (h:m.any (YD s ·)=false) (hx:YD s x=true):Gc s (m++[x])=Gc s m++[s]++[x]:=by
 have h2:YD x s=false:=by
  cases h3:YD x s
  · rfl
  · exact UU (Jt hx h3) (by rw [JN];decide)
 unfold Gc
 rw [JD,JD,Vz,h,Zbv h]
 simp [hx,h2]
theorem ZhS {s x:ByteArray} {m:List ByteArray} (h:m.any (YD s ·)=false) (hx:YD s x=false) (hne:x≠s):Gc s (m++[x])=Gc s m++[x]:=by
 have h2:YD x s=true:=by
  cases h3:YD x s
  · exact UU (Si h3 hx) hne
  · rfl
 unfold Gc
 rw [JD,JD,Vz,h,Zbv h]
 simp [hx,h2]
theorem ZhT {s x:ByteArray} {m:List ByteArray} (h:m.any (YD s ·)=true) (hm:∀y∈m,YD y x=true):Gc s (m++[x])=Gc s m++[x]∧(m++[x]).any (YD s ·)=true:=by
 obtain ⟨y,hy,h1⟩:=VA.1 h
 have hx:YD s x=true:=Jt h1 (hm y hy)
 have h2:YD x s=false:=by
  cases h3:YD x s
  · rfl
  · exact UU (Jt hx h3) (by rw [JN];decide)
 refine ⟨?_,by rw [Vz,h];rfl⟩
 unfold Gc
 rw [JD,JD,Vz,h]
 simp [hx,h2]
theorem Zku {s:ByteArray} {m:List ByteArray} (h:m.any (YD s ·)=true):Gc s m=SU s m:=by unfold Gc SU;rw [UT h]
theorem ZhU {s:ByteArray} {m:List ByteArray} (h:m.any (YD s ·)=false):Gc s m++[s]=SU s m:=by unfold Gc SU;rw [h,Zbv h];simp
theorem Zkv {s:ByteArray} {m:List ByteArray} (h:Po m):Po (SU s m):=by
 unfold SU Po
 rw [Vk,Vk]
 refine ⟨⟨h.filter _,Vq ..,fun a ha b hb=>?_⟩,h.filter _,fun a ha b hb=>?_⟩
 · rw [Xi.1 hb];exact (X0.1 ha).2
 · have hb:=(X0.1 hb).2;rcases Xp.1 ha with ha|ha
   · exact Jt (X0.1 ha).2 hb
   · rw [Xi.1 ha];exact hb
theorem Zkw {s x:ByteArray} {m:List ByteArray}:x∈SU s m↔x∈m∨x=s:=by
 unfold SU
 rw [Xp,Xp,X0,X0,Xi]
 constructor
 · rintro ((h|h)|h)
   · exact .inl h.1
   · exact .inr h
   · exact .inl h.1
 · rintro (h|h)
   · cases h1:YD x s
     · cases h2:YD s x
       · exact .inl (.inr (Si h1 h2))
       · exact .inr ⟨h,rfl⟩
     · exact .inl (.inl ⟨h,rfl⟩)
   · exact .inl (.inr h)
theorem Zkx {s:ByteArray} {l:List ByteArray}:SU s (canB l)=canB (l++[s]):=Zbu (Zkv (Cd l)) fun x=>by rw [Zkw,Cc,Xp,Xi]
theorem Zmx {s:ByteArray} {l:List ByteArray} (h:s∈canB l):canB l=canB (l++[s]):=Zkp fun x=>by
 rw [Xp,Xi]
 exact ⟨.inl,fun h1=>h1.elim id fun e=>by rw [e];exact Cc.1 h⟩
instance:DecidableEq Mv:=fun a b=>if h:eqM a b=true then .isTrue (Gh.1 h) else .isFalse fun e=>h (Gh.2 e)
def Zfl (x:Int):List Int→List Int
 |[]=>[x]
 |y::l=>if x≤y then x::y::l else y::Zfl x l
def Zmy:List Int→List Int
 |[]=>[]
 |x::l=>Zfl x (Zmy l)
theorem O9 (x:Int):∀l,(Zfl x l).Perm (x::l)
 |[]=> .refl _
 | y::l=>by
   unfold Zfl;split
   · exact .refl _
   · exact ((O9 x l).cons y).trans (.swap _ _ _)
theorem ζ5:∀l,(Zmy l).Perm l
 |[]=> .refl _
 |x::l=>(O9 x _).trans ((ζ5 l).cons x)
theorem Zgl (x:Int):∀l:List Int,l.Pairwise (· ≤ ·)→(Zfl x l).Pairwise (· ≤ ·)
 |[],_=>by simp [Zfl]
 | y ::l,h=>by
   have h':=XQ.1 h;unfold Zfl;split
   · rename_i hxy;refine XQ.2 ⟨fun z hz=>?_,h⟩;rcases Xs.1 hz with rfl|hz
     · exact hxy
     · exact Int.le_trans hxy (h'.1 z hz)
   · rename_i hxy;refine XQ.2 ⟨fun z hz=>?_,Zgl x l h'.2⟩;rcases Xs.1 ((O9 x l).mem_iff.1 hz) with rfl|hz
     · omega
     · exact h'.1 z hz
theorem Zgm:∀l,(Zmy l).Pairwise (· ≤ ·)
 |[]=> .nil
 |x::l=>Zgl x _ (Zgm l)
theorem Ce:∀{l m:List Int},l.Pairwise (· ≤ ·)→m.Pairwise (· ≤ ·)→l.Perm m→l=m
 |[],[],_,_,_=>rfl
 |[],y::m,_,_,h=>by have:=h.length_eq;simp at this
 |x::l,[],_,_,h=>by have:=h.length_eq;simp at this
 | x ::l,y::m,hl,hm,h=>by
   have hl':=XQ.1 hl;have hm':=XQ.1 hm;have h1:x≤y:=by
    rcases Xs.1 (h.mem_iff.2 (Xm ..)) with e|e
    · omega
    · exact hl'.1 y e
   have h2:y≤x:=by
    rcases Xs.1 (h.mem_iff.1 (Xm ..)) with e|e
    · omega
    · exact hm'.1 x e
   obtain rfl:x=y:=oM;rw [Ce hl'.2 hm'.2 ((List.perm_cons x).1 h)]
def Oo (a:Aut) (l:List Int):List Int:=Zmy (WC a l a.n.toNat)
theorem Oq (a:Aut) (l:List Int):YN a l=Oo a l:=by
 unfold YN Oo
 have h1:((WC a l a.n.toNat).mergeSort fun x y=>decide (x≤y)).Pairwise (fun x y=>decide (x≤y)=true):=Ur (fun a b c h1 h2=>by simp only [UP] at*;omega) (fun a b=>by simp only [X5,UP];omega) _
 exact Ce (h1.imp fun h=>by simpa using h) (Zgm _) ((Us _ _).trans (ζ5 _).symm)
def Zmz (a:Aut) (far:List Int) (n:Int) (p:Pf) (c:Nat):List Pf:=if (WF (Oo a (KG a c p.2)) far (n-1)).length=0 then [] else [(p.1++[(c:Int)],WF (Oo a (KG a c p.2)) far (n-1))]
def lvI (a:Aut) (far:List Int) (n:Nat):Nat→List Pf
 |0=>[([],WF (Oo a a.start) far n)]
 |k+1=>(lvI a far n k).flatMap fun p=>(List.range a.syms.toNat).flatMap (Zmz a far ((n:Int)-k) p)
theorem Zfm (a:Aut) (n:Nat):∀k,lvP a n k=lvI a (Wt a) n k
 |0=>by rw [lvP,lvI,Oq]
 | k +1=>by
   rw [lvP,lvI,Zfm a n k];have:∀p,RJ a ((n:Int)-k) p=(List.range a.syms.toNat).flatMap (Zmz a (Wt a) ((n:Int)-k) p):=fun p=>by
    unfold RJ;have:LP a ((n:Int)-k) p=Zmz a (Wt a) ((n:Int)-k) p:=by
     funext c
     unfold LP Zmz Yz;rw [Oq]
    rw [this]
   exact Sx fun p _=>this p
def ZmA (a:Aut) (far:List Int) (n k:Nat):List (List Int):=(List.range k).flatMap fun i=>P7 a (lvI a far n i)
theorem Zgn (a:Aut) (n k:Nat):Tb a n k=ZmA a (Wt a) n k:=by
 unfold Tb ZmA
 simp only [Zfm]
def Zop (a:Aut) (far:List Int) (n:Nat):Bool:=(List.range (n+1)).any (fun k=>decide (2000<(lvI a far n (k+1)).length))||decide (2000<(ZmA a far n (n+1)).length)
theorem ZmB (a:Aut) (n:Nat):Zl7 a n↔Zop a (Wt a) n=true:=by
 unfold Zl7 Zop
 rw [Zgn]
 simp only [X5,VA,XT,UP,Zfm]
 constructor
 · rintro (⟨k,h1,h2⟩|h)
   · exact .inl ⟨k,oM,h2⟩
   · exact .inr h
 · rintro (⟨k,h1,h2⟩|h)
   · exact .inl ⟨k,oM,h2⟩
   · exact .inr h
def Zky (a:Aut):Srch (List Int) (List Int):=⟨id,2000,a.syms.toNat,fun _ l s=>Oo a (KG a (s:Nat) l)⟩
theorem ZmC (a:Aut):WS a=Zky a:=by
 unfold WS Zky
 congr 1
 funext _ l s
 unfold Yz
 rw [Oq]
theorem ZmD {a:Aut} {q:List (List Int)×List (List Nat)} (i:Nat) (h:(Zky a).upto (Oo a a.start) i=some q) (hl:q.1.length≤i) (hi:i≤2000):K4 a=some ⟨a.syms.toNat,q.2,q.1.map (Wy a)⟩:=by
 unfold K4
 rw [ZmC,Oq,Srch.all_some h hl hi];rfl
theorem ZmE {a:Aut} {q:List (List Int)×List (List Nat)} {A:Aut} (i:Nat) (h:(Zky a).upto (Oo a a.start) i=some q) (hl:q.1.length≤i) (hi:i≤2000) (hA:Wh ⟨a.syms.toNat,q.2,q.1.map (Wy a)⟩=some A):W5 a= .ok A:=by
 unfold W5
 rw [ZmD i h hl hi]
 dsimp only
 rw [hA];rfl
theorem Zkz {a b A B:Aut} {q:List ((Nat×Nat)×(Int×Int))×List (List Nat)} (i:Nat) (ha:W5 a= .ok A) (hb:W5 b= .ok B) (h:(Wq A B).upto ((0,0),(-1,-1)) i=some q) (hl:q.1.length≤i) (hi:i≤2000):Tj a b= .ok (A,B,q):=by
 unfold Tj
 rw [ha,hb]
 dsimp only
 rw [show prodQ A B=some q from Srch.all_some h hl hi]
theorem ZmF {a b A B:Aut} {q:List ((Nat×Nat)×(Int×Int))×List (List Nat)} {op:Int} (hf:WK a b=0) (h:Tj a b= .ok (A,B,q)):cmpX a b op=((TQ A B op q).1,(TQ A B op q).2,0):=by
 unfold cmpX
 rw [US (fun h=>h hf),h]
theorem ZmG {a b:Aut} (h1:a.n=b.n) (h2:a.syms=b.syms) (h3:a.start=b.start) (h4:a.fin=b.fin) (h5:a.moves=b.moves):a=b:=by
 cases a;cases b;simp_all
instance:DecidableEq Aut:=fun a b=>if h:a.n=b.n∧a.syms=b.syms∧a.start=b.start∧a.fin=b.fin∧a.moves=b.moves then .isTrue (ZmG h.1 h.2.1 h.2.2.1 h.2.2.2.1 h.2.2.2.2) else .isFalse fun e=>h (by subst e;exact ⟨rfl,rfl,rfl,rfl,rfl⟩)
def LS (a:Aut):List PV:=[pInt a.n,pInt a.syms,pInts a.start,pInts a.fin,pMvs a.moves]
theorem SV (a:Aut):(LS a).length=5:=rfl
theorem ZhV {a:Aut} (h:Z4 a=false):JC a= .error 1:=by unfold JC;rw [h];rfl
theorem ZkA {a:Aut} (h:Z4 a=true):JC a=Je (KU a):=by unfold JC;rw [h];rfl
def Kz (n:Int) (l:List Int):List Mv:=l.map fun s=>⟨n,s,-1⟩
def Sb (n:Int) (l:List Int):List Mv:=l.map fun s=>⟨s,n,-1⟩
theorem ζ6 (n:Int) {l:List Int} {k:Nat} {x:Int} (h:l[k]? =some x):Kz n (l.take (k+1))=Kz n (l.take k)++[⟨n,x,-1⟩]:=by unfold Kz;rw [ZR h,Xu];rfl
theorem ζ7 (n:Int) {l:List Int} {k:Nat} {x:Int} (h:l[k]? =some x):Sb n (l.take (k+1))=Sb n (l.take k)++[⟨x,n,-1⟩]:=by unfold Sb;rw [ZR h,Xu];rfl
theorem Zfn (a:Aut):(KU a).moves=a.moves++Kz a.n a.start++Sb a.n a.fin:=rfl
theorem Cf {a:Aut} (h:AOk a):(KU a).moves.length≤1000000:=by
 rw [Zfn,Xb,Xb]
 unfold Kz Sb
 rw [Xe,Xe]
 have:=h.ml;have:=h.sl;have:=h.fl
 omega
theorem ZhW (a:Aut) (hv:Z4 a=false):AF prog 90 [ZN a] (· = .tup [KL,pInt 1]):=by
 refine AF.of_body 64 func90 rfl ntmps90 (Xa rfl) ?_
 intro w0 M0 vs hl hv
 obtain ⟨v0,rfl⟩:=Wl hl
 clear hl hv
 refine Ze ?_
 (refine ZB 1 5 fun h1=>?_<;>refine Zw [(.int .i64 0),(.int .i64 0),(.slice none 0 0),(.slice none 0 0),(.slice none 0 0)] 5 2 ZJ fun h2=>?_<;>refine xL 3 Za ?_<;>refine Zi ?_)
 ((refine yL 10 (Zu 1 Zh) fun v10 h=>?_;cases h)<;>(refine cS 11 (cA call107 (Wo a)) fun v11 h=>?_;cases h)<;>refine xL 12 Ya ?_<;>refine Zc ?_)
 refine cX ?_ ?_<;>intro hb12
 · refine Ze ?_;(refine xL 13 (ZL ZV) ?_<;>refine ZE 2 Zh ?_<;>refine xL 3 Za ?_<;>refine Zc ?_)
   exact Z5 (k:=5) 2 kR (results90) rfl rfl rfl (Xa rfl) dC rfl rfl
 · rw [hv] at hb12;simp at hb12
set_option maxHeartbeats 1000000 in
theorem ZmH (a:Aut) (hv:Z4 a=true) {p0 p1 p2 p3 p4:PV} {E:Int} (r5:R5 p0 p1 p2 p3 p4) (hr:AF prog 132 [ZN (mkA (KU a))] (· = .tup [.agg [p0,p1,p2,p3,p4],pInt E])):AF prog 90 [ZN a] (· = .tup [.agg [p0,p1,p2,p3,p4],pInt E]):=by
 obtain ⟨o0,o1,o2,o3,o4⟩:=r5.o
 have h:=WV hv
 have hn0:=h.n0
 have hn1:=h.n1
 have hml:=h.ml
 have hsl:=h.sl
 have hfl:=h.fl
 refine AF.of_body 64 func90 rfl ntmps90 (Xa rfl) ?_
 intro w0 M0 vs hl hv
 obtain ⟨v0,rfl⟩:=Wl hl
 clear hl hv
 refine Ze ?_
 (refine ZB 1 5 fun h1=>?_<;>refine Zw [(.int .i64 0),(.int .i64 0),(.slice none 0 0),(.slice none 0 0),(.slice none 0 0)] 5 2 ZJ fun h2=>?_<;>refine xL 3 Za ?_<;>refine Zi ?_)
 ((refine yL 10 (Zu 1 Zh) fun v10 h=>?_;cases h)<;>(refine cS 11 (cA call107 (Wo a)) fun v11 h=>?_;cases h)<;>refine xL 12 Ya ?_<;>refine Zc ?_)
 refine cX ?_ ?_<;>intro hb12
 · rw [hv] at hb12;simp at hb12
 · refine Ze ?_;(refine xL 14 (Zd 1 ZQ) ?_<;>(refine yL 15 (Zk 1 Zg) fun v15 h=>?_;cases h)<;>refine xL 4 Za ?_<;>refine Zc ?_)
   refine OI (fun x:{x:Value×Value//x.1.oneCell'=true}=>⟨[(1,padd (sbase h1) 0, .val (padd (sbase h1) 0)),(2,padd (sbase h2) 0, .val (padd (sbase h2) 0)),(4, .int .i64 a.n,pInt a.n),(5,padd (sbase x.1.2) 0, .val (padd (sbase x.1.2) 0))],[(1,h1, .own 39 5 1 [pInt a.n,pInt a.syms,pInts a.start,pInts a.fin,pMvs a.moves]),(2,h2, .own 39 5 1 [pInt 0,pInt 0, .val (.slice none 0 0), .val (.slice none 0 0), .val (.slice none 0 0)]),(5,x.1.2, .own 39 5 1 [pInt (a.n+1),pInt a.syms,pInts [a.n],pInts [a.n], .val x.1.1]),(26,x.1.1, .own 93 3 a.moves.length (a.moves.flatMap cMv))]⟩) ?_ ?_
   · (refine ZZ (fun i=>([]:List Nat).elem i) [1] kR ?_<;>refine xD 0 16 rfl Zb ?_<;>refine xD 1 17 rfl ZG ?_<;>refine xD 2 18 rfl (Zd 1 Z3) ?_<;>(refine yD 3 19 rfl (Zk 1 Zg) fun v19 h=>?_;cases h)<;>refine xD 4 20 rfl Zb ?_<;>refine xD 6 22 rfl Zb ?_<;>refine xD 8 24 rfl (Zd 1 Zx) ?_<;>(refine yD 9 25 rfl (Zk 1 ZA) fun v25 h=>?_;cases h)<;>(refine ZlS 5 7 10 12 kR ?_ ?_ ?_ ?_;rotate_right;(focus ((refine Zo rfl fun w9 M9 N9 DQ back=>?_)<;>refine Zw [(.int .i64 0),(.int .i64 0),(.slice none 0 0),(.slice none 0 0),(.slice none 0 0)] 5 5 ZJ fun h5=>?_<;>refine Zl (back _ (nrm ?_))<;>(refine LZ 5 7 10 kR ?_ ?_ ?_;rotate_right;(focus ((refine Zo rfl fun w9 M9 N9 DQ back=>?_)<;>refine cO 26 (cA call138 (YX a.moves oM)) fun v26 ho26=>?_<;>refine Zl (back _ (nrm ?_))<;>(refine Y' 5 7 kR ?_ ?_;rotate_right;(focus ((refine Zo rfl fun w9 M9 N9 DQ back=>?_)<;>(refine ZO (kk:=1) 23 Zn fun h23 ho23=>?_;refine Zs (En.freeze (l:=23) (t:=23) rfl rfl) fun _=>?_;rw [show share (PV.own 3 1 1 [PV.val (.int .i64 a.n)])=pInts [a.n] from rfl])<;>refine Zl (back _ (nrm ?_))<;>(refine Zr 5 kR ?_)<;>(refine Zo rfl fun w9 M9 N9 DQ back=>?_)<;>(refine ZO (kk:=1) 21 Zn fun h21 ho21=>?_;refine Zs (En.freeze (l:=21) (t:=21) rfl rfl) fun _=>?_;rw [show share (PV.own 3 1 1 [PV.val (.int .i64 a.n)])=pInts [a.n] from rfl])<;>refine Zl (back _ (nrm ?_))<;>refine xE 11 27 rfl (ZL ZV) ?_<;>(refine Zr 13 kR ?_)<;>(refine Zo rfl fun w9 M9 N9 DQ back=>?_)<;>(refine ZE 5 (m:=5) kR ?_ (h1:=by show (List.all [pInt (a.n+1),pInt a.syms,pInts [a.n],pInts [a.n],PV.val v26] En.one)=true;simp only [XE,XG,XF,Xf];exact ⟨rfl,rfl,rfl,rfl,ho26⟩))<;>refine Zl (back _ (nrm ?_))));rotate_right;(focus ((refine Zo rfl fun w9 M9 N9 DQ back=>?_)<;>(refine ZO (kk:=1) 21 Zn fun h21 ho21=>?_;refine Zs (En.freeze (l:=21) (t:=21) rfl rfl) fun _=>?_;rw [show share (PV.own 3 1 1 [PV.val (.int .i64 a.n)])=pInts [a.n] from rfl])<;>refine Zl (back _ (nrm ?_))<;>(refine Zr 7 kR ?_)<;>(refine Zo rfl fun w9 M9 N9 DQ back=>?_)<;>(refine ZO (kk:=1) 23 Zn fun h23 ho23=>?_;refine Zs (En.freeze (l:=23) (t:=23) rfl rfl) fun _=>?_;rw [show share (PV.own 3 1 1 [PV.val (.int .i64 a.n)])=pInts [a.n] from rfl])<;>refine Zl (back _ (nrm ?_))<;>refine xE 11 27 rfl (ZL ZV) ?_<;>(refine Zr 13 kR ?_)<;>(refine Zo rfl fun w9 M9 N9 DQ back=>?_)<;>(refine ZE 5 (m:=5) kR ?_ (h1:=by show (List.all [pInt (a.n+1),pInt a.syms,pInts [a.n],pInts [a.n],PV.val v26] En.one)=true;simp only [XE,XG,XF,Xf];exact ⟨rfl,rfl,rfl,rfl,ho26⟩))<;>refine Zl (back _ (nrm ?_)))))));rotate_right;(focus ((refine Zo rfl fun w9 M9 N9 DQ back=>?_)<;>(refine ZO (kk:=1) 23 Zn fun h23 ho23=>?_;refine Zs (En.freeze (l:=23) (t:=23) rfl rfl) fun _=>?_;rw [show share (PV.own 3 1 1 [PV.val (.int .i64 a.n)])=pInts [a.n] from rfl])<;>refine Zl (back _ (nrm ?_))<;>(refine Y' 5 10 kR ?_ ?_;rotate_right;(focus ((refine Zo rfl fun w9 M9 N9 DQ back=>?_)<;>refine cO 26 (cA call138 (YX a.moves oM)) fun v26 ho26=>?_<;>refine Zl (back _ (nrm ?_))<;>(refine Zr 5 kR ?_)<;>(refine Zo rfl fun w9 M9 N9 DQ back=>?_)<;>(refine ZO (kk:=1) 21 Zn fun h21 ho21=>?_;refine Zs (En.freeze (l:=21) (t:=21) rfl rfl) fun _=>?_;rw [show share (PV.own 3 1 1 [PV.val (.int .i64 a.n)])=pInts [a.n] from rfl])<;>refine Zl (back _ (nrm ?_))<;>refine xE 11 27 rfl (ZL ZV) ?_<;>(refine Zr 13 kR ?_)<;>(refine Zo rfl fun w9 M9 N9 DQ back=>?_)<;>(refine ZE 5 (m:=5) kR ?_ (h1:=by show (List.all [pInt (a.n+1),pInt a.syms,pInts [a.n],pInts [a.n],PV.val v26] En.one)=true;simp only [XE,XG,XF,Xf];exact ⟨rfl,rfl,rfl,rfl,ho26⟩))<;>refine Zl (back _ (nrm ?_))));rotate_right;(focus ((refine Zo rfl fun w9 M9 N9 DQ back=>?_)<;>(refine ZO (kk:=1) 21 Zn fun h21 ho21=>?_;refine Zs (En.freeze (l:=21) (t:=21) rfl rfl) fun _=>?_;rw [show share (PV.own 3 1 1 [PV.val (.int .i64 a.n)])=pInts [a.n] from rfl])<;>refine Zl (back _ (nrm ?_))<;>(refine Zr 10 kR ?_)<;>(refine Zo rfl fun w9 M9 N9 DQ back=>?_)<;>refine cO 26 (cA call138 (YX a.moves oM)) fun v26 ho26=>?_<;>refine Zl (back _ (nrm ?_))<;>refine xE 11 27 rfl (ZL ZV) ?_<;>(refine Zr 13 kR ?_)<;>(refine Zo rfl fun w9 M9 N9 DQ back=>?_)<;>(refine ZE 5 (m:=5) kR ?_ (h1:=by show (List.all [pInt (a.n+1),pInt a.syms,pInts [a.n],pInts [a.n],PV.val v26] En.one)=true;simp only [XE,XG,XF,Xf];exact ⟨rfl,rfl,rfl,rfl,ho26⟩))<;>refine Zl (back _ (nrm ?_)))))));rotate_right;(focus ((refine Zo rfl fun w9 M9 N9 DQ back=>?_)<;>(refine ZO (kk:=1) 21 Zn fun h21 ho21=>?_;refine Zs (En.freeze (l:=21) (t:=21) rfl rfl) fun _=>?_;rw [show share (PV.own 3 1 1 [PV.val (.int .i64 a.n)])=pInts [a.n] from rfl])<;>refine Zl (back _ (nrm ?_))<;>(refine Y' 7 10 kR ?_ ?_;rotate_right;(focus ((refine Zo rfl fun w9 M9 N9 DQ back=>?_)<;>refine cO 26 (cA call138 (YX a.moves oM)) fun v26 ho26=>?_<;>refine Zl (back _ (nrm ?_))<;>(refine Zr 7 kR ?_)<;>(refine Zo rfl fun w9 M9 N9 DQ back=>?_)<;>(refine ZO (kk:=1) 23 Zn fun h23 ho23=>?_;refine Zs (En.freeze (l:=23) (t:=23) rfl rfl) fun _=>?_;rw [show share (PV.own 3 1 1 [PV.val (.int .i64 a.n)])=pInts [a.n] from rfl])<;>refine Zl (back _ (nrm ?_))<;>refine xE 11 27 rfl (ZL ZV) ?_<;>(refine Zr 13 kR ?_)<;>(refine Zo rfl fun w9 M9 N9 DQ back=>?_)<;>(refine ZE 5 (m:=5) kR ?_ (h1:=by show (List.all [pInt (a.n+1),pInt a.syms,pInts [a.n],pInts [a.n],PV.val v26] En.one)=true;simp only [XE,XG,XF,Xf];exact ⟨rfl,rfl,rfl,rfl,ho26⟩))<;>refine Zl (back _ (nrm ?_))));rotate_right;(focus ((refine Zo rfl fun w9 M9 N9 DQ back=>?_)<;>(refine ZO (kk:=1) 23 Zn fun h23 ho23=>?_;refine Zs (En.freeze (l:=23) (t:=23) rfl rfl) fun _=>?_;rw [show share (PV.own 3 1 1 [PV.val (.int .i64 a.n)])=pInts [a.n] from rfl])<;>refine Zl (back _ (nrm ?_))<;>(refine Zr 10 kR ?_)<;>(refine Zo rfl fun w9 M9 N9 DQ back=>?_)<;>refine cO 26 (cA call138 (YX a.moves oM)) fun v26 ho26=>?_<;>refine Zl (back _ (nrm ?_))<;>refine xE 11 27 rfl (ZL ZV) ?_<;>(refine Zr 13 kR ?_)<;>(refine Zo rfl fun w9 M9 N9 DQ back=>?_)<;>(refine ZE 5 (m:=5) kR ?_ (h1:=by show (List.all [pInt (a.n+1),pInt a.syms,pInts [a.n],pInts [a.n],PV.val v26] En.one)=true;simp only [XE,XG,XF,Xf];exact ⟨rfl,rfl,rfl,rfl,ho26⟩))<;>refine Zl (back _ (nrm ?_))))))))));rotate_right;(focus ((refine Zo rfl fun w9 M9 N9 DQ back=>?_)<;>refine cO 26 (cA call138 (YX a.moves oM)) fun v26 ho26=>?_<;>refine Zl (back _ (nrm ?_))<;>(refine LZ 5 7 12 kR ?_ ?_ ?_;rotate_right;(focus ((refine Zo rfl fun w9 M9 N9 DQ back=>?_)<;>refine Zw [(.int .i64 0),(.int .i64 0),(.slice none 0 0),(.slice none 0 0),(.slice none 0 0)] 5 5 ZJ fun h5=>?_<;>refine Zl (back _ (nrm ?_))<;>(refine Y' 5 7 kR ?_ ?_;rotate_right;(focus ((refine Zo rfl fun w9 M9 N9 DQ back=>?_)<;>(refine ZO (kk:=1) 23 Zn fun h23 ho23=>?_;refine Zs (En.freeze (l:=23) (t:=23) rfl rfl) fun _=>?_;rw [show share (PV.own 3 1 1 [PV.val (.int .i64 a.n)])=pInts [a.n] from rfl])<;>refine Zl (back _ (nrm ?_))<;>(refine Zr 5 kR ?_)<;>(refine Zo rfl fun w9 M9 N9 DQ back=>?_)<;>(refine ZO (kk:=1) 21 Zn fun h21 ho21=>?_;refine Zs (En.freeze (l:=21) (t:=21) rfl rfl) fun _=>?_;rw [show share (PV.own 3 1 1 [PV.val (.int .i64 a.n)])=pInts [a.n] from rfl])<;>refine Zl (back _ (nrm ?_))<;>refine xE 11 27 rfl (ZL ZV) ?_<;>(refine Zr 13 kR ?_)<;>(refine Zo rfl fun w9 M9 N9 DQ back=>?_)<;>(refine ZE 5 (m:=5) kR ?_ (h1:=by show (List.all [pInt (a.n+1),pInt a.syms,pInts [a.n],pInts [a.n],PV.val v26] En.one)=true;simp only [XE,XG,XF,Xf];exact ⟨rfl,rfl,rfl,rfl,ho26⟩))<;>refine Zl (back _ (nrm ?_))));rotate_right;(focus ((refine Zo rfl fun w9 M9 N9 DQ back=>?_)<;>(refine ZO (kk:=1) 21 Zn fun h21 ho21=>?_;refine Zs (En.freeze (l:=21) (t:=21) rfl rfl) fun _=>?_;rw [show share (PV.own 3 1 1 [PV.val (.int .i64 a.n)])=pInts [a.n] from rfl])<;>refine Zl (back _ (nrm ?_))<;>(refine Zr 7 kR ?_)<;>(refine Zo rfl fun w9 M9 N9 DQ back=>?_)<;>(refine ZO (kk:=1) 23 Zn fun h23 ho23=>?_;refine Zs (En.freeze (l:=23) (t:=23) rfl rfl) fun _=>?_;rw [show share (PV.own 3 1 1 [PV.val (.int .i64 a.n)])=pInts [a.n] from rfl])<;>refine Zl (back _ (nrm ?_))<;>refine xE 11 27 rfl (ZL ZV) ?_<;>(refine Zr 13 kR ?_)<;>(refine Zo rfl fun w9 M9 N9 DQ back=>?_)<;>(refine ZE 5 (m:=5) kR ?_ (h1:=by show (List.all [pInt (a.n+1),pInt a.syms,pInts [a.n],pInts [a.n],PV.val v26] En.one)=true;simp only [XE,XG,XF,Xf];exact ⟨rfl,rfl,rfl,rfl,ho26⟩))<;>refine Zl (back _ (nrm ?_)))))));rotate_right;(focus ((refine Zo rfl fun w9 M9 N9 DQ back=>?_)<;>(refine ZO (kk:=1) 23 Zn fun h23 ho23=>?_;refine Zs (En.freeze (l:=23) (t:=23) rfl rfl) fun _=>?_;rw [show share (PV.own 3 1 1 [PV.val (.int .i64 a.n)])=pInts [a.n] from rfl])<;>refine Zl (back _ (nrm ?_))<;>(refine Y' 5 12 kR ?_ ?_;rotate_right;(focus ((refine Zo rfl fun w9 M9 N9 DQ back=>?_)<;>refine Zw [(.int .i64 0),(.int .i64 0),(.slice none 0 0),(.slice none 0 0),(.slice none 0 0)] 5 5 ZJ fun h5=>?_<;>refine Zl (back _ (nrm ?_))<;>(refine Zr 5 kR ?_)<;>(refine Zo rfl fun w9 M9 N9 DQ back=>?_)<;>(refine ZO (kk:=1) 21 Zn fun h21 ho21=>?_;refine Zs (En.freeze (l:=21) (t:=21) rfl rfl) fun _=>?_;rw [show share (PV.own 3 1 1 [PV.val (.int .i64 a.n)])=pInts [a.n] from rfl])<;>refine Zl (back _ (nrm ?_))<;>refine xE 11 27 rfl (ZL ZV) ?_<;>(refine Zr 13 kR ?_)<;>(refine Zo rfl fun w9 M9 N9 DQ back=>?_)<;>(refine ZE 5 (m:=5) kR ?_ (h1:=by show (List.all [pInt (a.n+1),pInt a.syms,pInts [a.n],pInts [a.n],PV.val v26] En.one)=true;simp only [XE,XG,XF,Xf];exact ⟨rfl,rfl,rfl,rfl,ho26⟩))<;>refine Zl (back _ (nrm ?_))));rotate_right;(focus ((refine Zo rfl fun w9 M9 N9 DQ back=>?_)<;>(refine ZO (kk:=1) 21 Zn fun h21 ho21=>?_;refine Zs (En.freeze (l:=21) (t:=21) rfl rfl) fun _=>?_;rw [show share (PV.own 3 1 1 [PV.val (.int .i64 a.n)])=pInts [a.n] from rfl])<;>refine Zl (back _ (nrm ?_))<;>refine xD 11 27 rfl (ZL ZV) ?_<;>(refine Zr 12 kR ?_)<;>(refine Zo rfl fun w9 M9 N9 DQ back=>?_)<;>refine Zw [(.int .i64 0),(.int .i64 0),(.slice none 0 0),(.slice none 0 0),(.slice none 0 0)] 5 5 ZJ fun h5=>?_<;>refine Zl (back _ (nrm ?_))<;>(refine Zr 13 kR ?_)<;>(refine Zo rfl fun w9 M9 N9 DQ back=>?_)<;>(refine ZE 5 (m:=5) kR ?_ (h1:=by show (List.all [pInt (a.n+1),pInt a.syms,pInts [a.n],pInts [a.n],PV.val v26] En.one)=true;simp only [XE,XG,XF,Xf];exact ⟨rfl,rfl,rfl,rfl,ho26⟩))<;>refine Zl (back _ (nrm ?_)))))));rotate_right;(focus ((refine Zo rfl fun w9 M9 N9 DQ back=>?_)<;>(refine ZO (kk:=1) 21 Zn fun h21 ho21=>?_;refine Zs (En.freeze (l:=21) (t:=21) rfl rfl) fun _=>?_;rw [show share (PV.own 3 1 1 [PV.val (.int .i64 a.n)])=pInts [a.n] from rfl])<;>refine Zl (back _ (nrm ?_))<;>(refine Y' 7 12 kR ?_ ?_;rotate_right;(focus ((refine Zo rfl fun w9 M9 N9 DQ back=>?_)<;>refine Zw [(.int .i64 0),(.int .i64 0),(.slice none 0 0),(.slice none 0 0),(.slice none 0 0)] 5 5 ZJ fun h5=>?_<;>refine Zl (back _ (nrm ?_))<;>(refine Zr 7 kR ?_)<;>(refine Zo rfl fun w9 M9 N9 DQ back=>?_)<;>(refine ZO (kk:=1) 23 Zn fun h23 ho23=>?_;refine Zs (En.freeze (l:=23) (t:=23) rfl rfl) fun _=>?_;rw [show share (PV.own 3 1 1 [PV.val (.int .i64 a.n)])=pInts [a.n] from rfl])<;>refine Zl (back _ (nrm ?_))<;>refine xE 11 27 rfl (ZL ZV) ?_<;>(refine Zr 13 kR ?_)<;>(refine Zo rfl fun w9 M9 N9 DQ back=>?_)<;>(refine ZE 5 (m:=5) kR ?_ (h1:=by show (List.all [pInt (a.n+1),pInt a.syms,pInts [a.n],pInts [a.n],PV.val v26] En.one)=true;simp only [XE,XG,XF,Xf];exact ⟨rfl,rfl,rfl,rfl,ho26⟩))<;>refine Zl (back _ (nrm ?_))));rotate_right;(focus ((refine Zo rfl fun w9 M9 N9 DQ back=>?_)<;>(refine ZO (kk:=1) 23 Zn fun h23 ho23=>?_;refine Zs (En.freeze (l:=23) (t:=23) rfl rfl) fun _=>?_;rw [show share (PV.own 3 1 1 [PV.val (.int .i64 a.n)])=pInts [a.n] from rfl])<;>refine Zl (back _ (nrm ?_))<;>refine xD 11 27 rfl (ZL ZV) ?_<;>(refine Zr 12 kR ?_)<;>(refine Zo rfl fun w9 M9 N9 DQ back=>?_)<;>refine Zw [(.int .i64 0),(.int .i64 0),(.slice none 0 0),(.slice none 0 0),(.slice none 0 0)] 5 5 ZJ fun h5=>?_<;>refine Zl (back _ (nrm ?_))<;>(refine Zr 13 kR ?_)<;>(refine Zo rfl fun w9 M9 N9 DQ back=>?_)<;>(refine ZE 5 (m:=5) kR ?_ (h1:=by show (List.all [pInt (a.n+1),pInt a.syms,pInts [a.n],pInts [a.n],PV.val v26] En.one)=true;simp only [XE,XG,XF,Xf];exact ⟨rfl,rfl,rfl,rfl,ho26⟩))<;>refine Zl (back _ (nrm ?_))))))))));rotate_right;(focus ((refine Zo rfl fun w9 M9 N9 DQ back=>?_)<;>(refine ZO (kk:=1) 23 Zn fun h23 ho23=>?_;refine Zs (En.freeze (l:=23) (t:=23) rfl rfl) fun _=>?_;rw [show share (PV.own 3 1 1 [PV.val (.int .i64 a.n)])=pInts [a.n] from rfl])<;>refine Zl (back _ (nrm ?_))<;>(refine LZ 5 10 12 kR ?_ ?_ ?_;rotate_right;(focus ((refine Zo rfl fun w9 M9 N9 DQ back=>?_)<;>refine Zw [(.int .i64 0),(.int .i64 0),(.slice none 0 0),(.slice none 0 0),(.slice none 0 0)] 5 5 ZJ fun h5=>?_<;>refine Zl (back _ (nrm ?_))<;>(refine Y' 5 10 kR ?_ ?_;rotate_right;(focus ((refine Zo rfl fun w9 M9 N9 DQ back=>?_)<;>refine cO 26 (cA call138 (YX a.moves oM)) fun v26 ho26=>?_<;>refine Zl (back _ (nrm ?_))<;>(refine Zr 5 kR ?_)<;>(refine Zo rfl fun w9 M9 N9 DQ back=>?_)<;>(refine ZO (kk:=1) 21 Zn fun h21 ho21=>?_;refine Zs (En.freeze (l:=21) (t:=21) rfl rfl) fun _=>?_;rw [show share (PV.own 3 1 1 [PV.val (.int .i64 a.n)])=pInts [a.n] from rfl])<;>refine Zl (back _ (nrm ?_))<;>refine xE 11 27 rfl (ZL ZV) ?_<;>(refine Zr 13 kR ?_)<;>(refine Zo rfl fun w9 M9 N9 DQ back=>?_)<;>(refine ZE 5 (m:=5) kR ?_ (h1:=by show (List.all [pInt (a.n+1),pInt a.syms,pInts [a.n],pInts [a.n],PV.val v26] En.one)=true;simp only [XE,XG,XF,Xf];exact ⟨rfl,rfl,rfl,rfl,ho26⟩))<;>refine Zl (back _ (nrm ?_))));rotate_right;(focus ((refine Zo rfl fun w9 M9 N9 DQ back=>?_)<;>(refine ZO (kk:=1) 21 Zn fun h21 ho21=>?_;refine Zs (En.freeze (l:=21) (t:=21) rfl rfl) fun _=>?_;rw [show share (PV.own 3 1 1 [PV.val (.int .i64 a.n)])=pInts [a.n] from rfl])<;>refine Zl (back _ (nrm ?_))<;>(refine Zr 10 kR ?_)<;>(refine Zo rfl fun w9 M9 N9 DQ back=>?_)<;>refine cO 26 (cA call138 (YX a.moves oM)) fun v26 ho26=>?_<;>refine Zl (back _ (nrm ?_))<;>refine xE 11 27 rfl (ZL ZV) ?_<;>(refine Zr 13 kR ?_)<;>(refine Zo rfl fun w9 M9 N9 DQ back=>?_)<;>(refine ZE 5 (m:=5) kR ?_ (h1:=by show (List.all [pInt (a.n+1),pInt a.syms,pInts [a.n],pInts [a.n],PV.val v26] En.one)=true;simp only [XE,XG,XF,Xf];exact ⟨rfl,rfl,rfl,rfl,ho26⟩))<;>refine Zl (back _ (nrm ?_)))))));rotate_right;(focus ((refine Zo rfl fun w9 M9 N9 DQ back=>?_)<;>refine cO 26 (cA call138 (YX a.moves oM)) fun v26 ho26=>?_<;>refine Zl (back _ (nrm ?_))<;>(refine Y' 5 12 kR ?_ ?_;rotate_right;(focus ((refine Zo rfl fun w9 M9 N9 DQ back=>?_)<;>refine Zw [(.int .i64 0),(.int .i64 0),(.slice none 0 0),(.slice none 0 0),(.slice none 0 0)] 5 5 ZJ fun h5=>?_<;>refine Zl (back _ (nrm ?_))<;>(refine Zr 5 kR ?_)<;>(refine Zo rfl fun w9 M9 N9 DQ back=>?_)<;>(refine ZO (kk:=1) 21 Zn fun h21 ho21=>?_;refine Zs (En.freeze (l:=21) (t:=21) rfl rfl) fun _=>?_;rw [show share (PV.own 3 1 1 [PV.val (.int .i64 a.n)])=pInts [a.n] from rfl])<;>refine Zl (back _ (nrm ?_))<;>refine xE 11 27 rfl (ZL ZV) ?_<;>(refine Zr 13 kR ?_)<;>(refine Zo rfl fun w9 M9 N9 DQ back=>?_)<;>(refine ZE 5 (m:=5) kR ?_ (h1:=by show (List.all [pInt (a.n+1),pInt a.syms,pInts [a.n],pInts [a.n],PV.val v26] En.one)=true;simp only [XE,XG,XF,Xf];exact ⟨rfl,rfl,rfl,rfl,ho26⟩))<;>refine Zl (back _ (nrm ?_))));rotate_right;(focus ((refine Zo rfl fun w9 M9 N9 DQ back=>?_)<;>(refine ZO (kk:=1) 21 Zn fun h21 ho21=>?_;refine Zs (En.freeze (l:=21) (t:=21) rfl rfl) fun _=>?_;rw [show share (PV.own 3 1 1 [PV.val (.int .i64 a.n)])=pInts [a.n] from rfl])<;>refine Zl (back _ (nrm ?_))<;>refine xD 11 27 rfl (ZL ZV) ?_<;>(refine Zr 12 kR ?_)<;>(refine Zo rfl fun w9 M9 N9 DQ back=>?_)<;>refine Zw [(.int .i64 0),(.int .i64 0),(.slice none 0 0),(.slice none 0 0),(.slice none 0 0)] 5 5 ZJ fun h5=>?_<;>refine Zl (back _ (nrm ?_))<;>(refine Zr 13 kR ?_)<;>(refine Zo rfl fun w9 M9 N9 DQ back=>?_)<;>(refine ZE 5 (m:=5) kR ?_ (h1:=by show (List.all [pInt (a.n+1),pInt a.syms,pInts [a.n],pInts [a.n],PV.val v26] En.one)=true;simp only [XE,XG,XF,Xf];exact ⟨rfl,rfl,rfl,rfl,ho26⟩))<;>refine Zl (back _ (nrm ?_)))))));rotate_right;(focus ((refine Zo rfl fun w9 M9 N9 DQ back=>?_)<;>(refine ZO (kk:=1) 21 Zn fun h21 ho21=>?_;refine Zs (En.freeze (l:=21) (t:=21) rfl rfl) fun _=>?_;rw [show share (PV.own 3 1 1 [PV.val (.int .i64 a.n)])=pInts [a.n] from rfl])<;>refine Zl (back _ (nrm ?_))<;>(refine Y' 10 12 kR ?_ ?_;rotate_right;(focus ((refine Zo rfl fun w9 M9 N9 DQ back=>?_)<;>refine Zw [(.int .i64 0),(.int .i64 0),(.slice none 0 0),(.slice none 0 0),(.slice none 0 0)] 5 5 ZJ fun h5=>?_<;>refine Zl (back _ (nrm ?_))<;>(refine Zr 10 kR ?_)<;>(refine Zo rfl fun w9 M9 N9 DQ back=>?_)<;>refine cO 26 (cA call138 (YX a.moves oM)) fun v26 ho26=>?_<;>refine Zl (back _ (nrm ?_))<;>refine xE 11 27 rfl (ZL ZV) ?_<;>(refine Zr 13 kR ?_)<;>(refine Zo rfl fun w9 M9 N9 DQ back=>?_)<;>(refine ZE 5 (m:=5) kR ?_ (h1:=by show (List.all [pInt (a.n+1),pInt a.syms,pInts [a.n],pInts [a.n],PV.val v26] En.one)=true;simp only [XE,XG,XF,Xf];exact ⟨rfl,rfl,rfl,rfl,ho26⟩))<;>refine Zl (back _ (nrm ?_))));rotate_right;(focus ((refine Zo rfl fun w9 M9 N9 DQ back=>?_)<;>refine cO 26 (cA call138 (YX a.moves oM)) fun v26 ho26=>?_<;>refine Zl (back _ (nrm ?_))<;>refine xD 11 27 rfl (ZL ZV) ?_<;>(refine Zr 12 kR ?_)<;>(refine Zo rfl fun w9 M9 N9 DQ back=>?_)<;>refine Zw [(.int .i64 0),(.int .i64 0),(.slice none 0 0),(.slice none 0 0),(.slice none 0 0)] 5 5 ZJ fun h5=>?_<;>refine Zl (back _ (nrm ?_))<;>(refine Zr 13 kR ?_)<;>(refine Zo rfl fun w9 M9 N9 DQ back=>?_)<;>(refine ZE 5 (m:=5) kR ?_ (h1:=by show (List.all [pInt (a.n+1),pInt a.syms,pInts [a.n],pInts [a.n],PV.val v26] En.one)=true;simp only [XE,XG,XF,Xf];exact ⟨rfl,rfl,rfl,rfl,ho26⟩))<;>refine Zl (back _ (nrm ?_))))))))));rotate_right;(focus ((refine Zo rfl fun w9 M9 N9 DQ back=>?_)<;>(refine ZO (kk:=1) 21 Zn fun h21 ho21=>?_;refine Zs (En.freeze (l:=21) (t:=21) rfl rfl) fun _=>?_;rw [show share (PV.own 3 1 1 [PV.val (.int .i64 a.n)])=pInts [a.n] from rfl])<;>refine Zl (back _ (nrm ?_))<;>(refine LZ 7 10 12 kR ?_ ?_ ?_;rotate_right;(focus ((refine Zo rfl fun w9 M9 N9 DQ back=>?_)<;>refine Zw [(.int .i64 0),(.int .i64 0),(.slice none 0 0),(.slice none 0 0),(.slice none 0 0)] 5 5 ZJ fun h5=>?_<;>refine Zl (back _ (nrm ?_))<;>(refine Y' 7 10 kR ?_ ?_;rotate_right;(focus ((refine Zo rfl fun w9 M9 N9 DQ back=>?_)<;>refine cO 26 (cA call138 (YX a.moves oM)) fun v26 ho26=>?_<;>refine Zl (back _ (nrm ?_))<;>(refine Zr 7 kR ?_)<;>(refine Zo rfl fun w9 M9 N9 DQ back=>?_)<;>(refine ZO (kk:=1) 23 Zn fun h23 ho23=>?_;refine Zs (En.freeze (l:=23) (t:=23) rfl rfl) fun _=>?_;rw [show share (PV.own 3 1 1 [PV.val (.int .i64 a.n)])=pInts [a.n] from rfl])<;>refine Zl (back _ (nrm ?_))<;>refine xE 11 27 rfl (ZL ZV) ?_<;>(refine Zr 13 kR ?_)<;>(refine Zo rfl fun w9 M9 N9 DQ back=>?_)<;>(refine ZE 5 (m:=5) kR ?_ (h1:=by show (List.all [pInt (a.n+1),pInt a.syms,pInts [a.n],pInts [a.n],PV.val v26] En.one)=true;simp only [XE,XG,XF,Xf];exact ⟨rfl,rfl,rfl,rfl,ho26⟩))<;>refine Zl (back _ (nrm ?_))));rotate_right;(focus ((refine Zo rfl fun w9 M9 N9 DQ back=>?_)<;>(refine ZO (kk:=1) 23 Zn fun h23 ho23=>?_;refine Zs (En.freeze (l:=23) (t:=23) rfl rfl) fun _=>?_;rw [show share (PV.own 3 1 1 [PV.val (.int .i64 a.n)])=pInts [a.n] from rfl])<;>refine Zl (back _ (nrm ?_))<;>(refine Zr 10 kR ?_)<;>(refine Zo rfl fun w9 M9 N9 DQ back=>?_)<;>refine cO 26 (cA call138 (YX a.moves oM)) fun v26 ho26=>?_<;>refine Zl (back _ (nrm ?_))<;>refine xE 11 27 rfl (ZL ZV) ?_<;>(refine Zr 13 kR ?_)<;>(refine Zo rfl fun w9 M9 N9 DQ back=>?_)<;>(refine ZE 5 (m:=5) kR ?_ (h1:=by show (List.all [pInt (a.n+1),pInt a.syms,pInts [a.n],pInts [a.n],PV.val v26] En.one)=true;simp only [XE,XG,XF,Xf];exact ⟨rfl,rfl,rfl,rfl,ho26⟩))<;>refine Zl (back _ (nrm ?_)))))));rotate_right;(focus ((refine Zo rfl fun w9 M9 N9 DQ back=>?_)<;>refine cO 26 (cA call138 (YX a.moves oM)) fun v26 ho26=>?_<;>refine Zl (back _ (nrm ?_))<;>(refine Y' 7 12 kR ?_ ?_;rotate_right;(focus ((refine Zo rfl fun w9 M9 N9 DQ back=>?_)<;>refine Zw [(.int .i64 0),(.int .i64 0),(.slice none 0 0),(.slice none 0 0),(.slice none 0 0)] 5 5 ZJ fun h5=>?_<;>refine Zl (back _ (nrm ?_))<;>(refine Zr 7 kR ?_)<;>(refine Zo rfl fun w9 M9 N9 DQ back=>?_)<;>(refine ZO (kk:=1) 23 Zn fun h23 ho23=>?_;refine Zs (En.freeze (l:=23) (t:=23) rfl rfl) fun _=>?_;rw [show share (PV.own 3 1 1 [PV.val (.int .i64 a.n)])=pInts [a.n] from rfl])<;>refine Zl (back _ (nrm ?_))<;>refine xE 11 27 rfl (ZL ZV) ?_<;>(refine Zr 13 kR ?_)<;>(refine Zo rfl fun w9 M9 N9 DQ back=>?_)<;>(refine ZE 5 (m:=5) kR ?_ (h1:=by show (List.all [pInt (a.n+1),pInt a.syms,pInts [a.n],pInts [a.n],PV.val v26] En.one)=true;simp only [XE,XG,XF,Xf];exact ⟨rfl,rfl,rfl,rfl,ho26⟩))<;>refine Zl (back _ (nrm ?_))));rotate_right;(focus ((refine Zo rfl fun w9 M9 N9 DQ back=>?_)<;>(refine ZO (kk:=1) 23 Zn fun h23 ho23=>?_;refine Zs (En.freeze (l:=23) (t:=23) rfl rfl) fun _=>?_;rw [show share (PV.own 3 1 1 [PV.val (.int .i64 a.n)])=pInts [a.n] from rfl])<;>refine Zl (back _ (nrm ?_))<;>refine xD 11 27 rfl (ZL ZV) ?_<;>(refine Zr 12 kR ?_)<;>(refine Zo rfl fun w9 M9 N9 DQ back=>?_)<;>refine Zw [(.int .i64 0),(.int .i64 0),(.slice none 0 0),(.slice none 0 0),(.slice none 0 0)] 5 5 ZJ fun h5=>?_<;>refine Zl (back _ (nrm ?_))<;>(refine Zr 13 kR ?_)<;>(refine Zo rfl fun w9 M9 N9 DQ back=>?_)<;>(refine ZE 5 (m:=5) kR ?_ (h1:=by show (List.all [pInt (a.n+1),pInt a.syms,pInts [a.n],pInts [a.n],PV.val v26] En.one)=true;simp only [XE,XG,XF,Xf];exact ⟨rfl,rfl,rfl,rfl,ho26⟩))<;>refine Zl (back _ (nrm ?_)))))));rotate_right;(focus ((refine Zo rfl fun w9 M9 N9 DQ back=>?_)<;>(refine ZO (kk:=1) 23 Zn fun h23 ho23=>?_;refine Zs (En.freeze (l:=23) (t:=23) rfl rfl) fun _=>?_;rw [show share (PV.own 3 1 1 [PV.val (.int .i64 a.n)])=pInts [a.n] from rfl])<;>refine Zl (back _ (nrm ?_))<;>(refine Y' 10 12 kR ?_ ?_;rotate_right;(focus ((refine Zo rfl fun w9 M9 N9 DQ back=>?_)<;>refine Zw [(.int .i64 0),(.int .i64 0),(.slice none 0 0),(.slice none 0 0),(.slice none 0 0)] 5 5 ZJ fun h5=>?_<;>refine Zl (back _ (nrm ?_))<;>(refine Zr 10 kR ?_)<;>(refine Zo rfl fun w9 M9 N9 DQ back=>?_)<;>refine cO 26 (cA call138 (YX a.moves oM)) fun v26 ho26=>?_<;>refine Zl (back _ (nrm ?_))<;>refine xE 11 27 rfl (ZL ZV) ?_<;>(refine Zr 13 kR ?_)<;>(refine Zo rfl fun w9 M9 N9 DQ back=>?_)<;>(refine ZE 5 (m:=5) kR ?_ (h1:=by show (List.all [pInt (a.n+1),pInt a.syms,pInts [a.n],pInts [a.n],PV.val v26] En.one)=true;simp only [XE,XG,XF,Xf];exact ⟨rfl,rfl,rfl,rfl,ho26⟩))<;>refine Zl (back _ (nrm ?_))));rotate_right;(focus ((refine Zo rfl fun w9 M9 N9 DQ back=>?_)<;>refine cO 26 (cA call138 (YX a.moves oM)) fun v26 ho26=>?_<;>refine Zl (back _ (nrm ?_))<;>refine xD 11 27 rfl (ZL ZV) ?_<;>(refine Zr 12 kR ?_)<;>(refine Zo rfl fun w9 M9 N9 DQ back=>?_)<;>refine Zw [(.int .i64 0),(.int .i64 0),(.slice none 0 0),(.slice none 0 0),(.slice none 0 0)] 5 5 ZJ fun h5=>?_<;>refine Zl (back _ (nrm ?_))<;>(refine Zr 13 kR ?_)<;>(refine Zo rfl fun w9 M9 N9 DQ back=>?_)<;>(refine ZE 5 (m:=5) kR ?_ (h1:=by show (List.all [pInt (a.n+1),pInt a.syms,pInts [a.n],pInts [a.n],PV.val v26] En.one)=true;simp only [XE,XG,XF,Xf];exact ⟨rfl,rfl,rfl,rfl,ho26⟩))<;>refine Zl (back _ (nrm ?_)))))))))))<;>refine Yw kR (nav ?_)<;>try dsimp only)<;>(
 exact WP ⟨(v26,h5),ho26⟩ ⟨rfl,rfl,rfl,rfl,trivial⟩ ⟨rfl,rfl,rfl,rfl,trivial⟩)
   · rintro ⟨⟨v26,h5⟩,ho26⟩;dsimp only at ho26 ⊢;refine Zq (ZC (l:=26) 301 rfl rfl) fun _=>?_;refine Zq (ZH (l:=301) (p':= .own 93 3 (a.moves++Kz a.n (a.start.take 0)).length ((a.moves++Kz a.n (a.start.take 0)).flatMap cMv)) rfl (by rw [show Kz a.n (a.start.take 0)=[] from rfl,Xr])) fun _=>?_;refine Ze ?_;(refine xL 28 (Zd 1 Z1) ?_<;>(refine yL 29 (Zk 1 Zy) fun v29 h=>?_;cases h)<;>refine xL 30 (ZT Zp) (xL 31 Zb ?_)<;>refine Zc ?_)
     refine ZD (ι:={q:Nat×Value//q.1≤a.start.length∧q.2.oneCell'=true}) (fun k=>⟨[(1,_,_),(2,_,_),(4,_,_),(5,_,_),(29,_,_),(30,_,_),(31, .int .i64 k.1.1,pInt k.1.1)],[(1,_,_),(2,_,_),(5,h5, .own 39 5 1 [pInt (a.n+1),pInt a.syms,pInts [a.n],pInts [a.n], .val k.1.2]),(301,k.1.2, .own 93 3 (a.moves++Kz a.n (a.start.take k.1.1)).length ((a.moves++Kz a.n (a.start.take k.1.1)).flatMap cMv))]⟩) (fun k=>a.start.length-k.1.1) ⟨(0,v26),Xd _,ho26⟩ (fun a w H=>H.weaken ⟨rfl,rfl,rfl,rfl,rfl,rfl,rfl,trivial⟩ ⟨rfl,rfl,rfl,rfl,trivial⟩) ?_;rintro ⟨⟨k,hM⟩,hk,hMo⟩;dsimp only;dsimp only at hk hMo;(have hl1:(a.moves++Kz a.n (a.start.take k)).length≤30000:=by unfold Kz;rw [Xb,Xe,Xo];omega);refine Ze ?_;(refine xL 32 ZP ?_<;>refine Zc ?_)
     refine cX ?_ ?_<;>intro hb32
     · first|exact bN hb32|(
 obtain ⟨x,hx⟩:=Zt (show k<a.start.length by omega);have e1:=Z7 (f:=pInt) hx;refine Ze ?_;(refine xL 33 (ZI Zp) ?_<;>(refine yL 34 (Z9 Zg) fun v34 h=>?_;cases h)<;>refine xL 7 Za ?_<;>refine Zi ?_)
 (refine xL 35 (Zd 5 Zx) ?_<;>(refine yL 36 (Zk 5 ZA) fun v36 h=>?_;cases h)<;>refine xL 37 Zb (xL 38 Zb (xL 39 (ZL YW) ?_))<;>refine YB 40 ZU fun h40 ho40=>?_<;>(refine ZW 301 40 41 ZU fun h41 ho41=>?_;refine Zs (ZC (l:=41) 301 rfl rfl) fun _=>?_;refine Zs (ZH (l:=301) rfl ((WR _ (a.moves++Kz a.n (a.start.take k)) ⟨a.n,x,-1⟩).trans (by rw [Xy,←ζ6 a.n hx]))) fun _=>?_)<;>refine xL 42 (Zd 5 Zx) ?_<;>refine YL 5 ZA YA ?_<;>refine Zi ?_)
 (refine xL 43 ZG (xL 31 Zb ?_)<;>refine Zc ?_)
 refine Zm (
  ⟨(k+1,h41),Zf hx,ho41⟩
  ) (by dsimp only;omega) ⟨rfl,rfl,rfl,rfl,rfl,rfl,rfl,trivial⟩ ⟨rfl,rfl,rfl,rfl,trivial⟩)
     · first |exact bN hb32|(
 rw [Xj (show a.start.length≤k by omega)];rw [show a.moves++Kz a.n a.start=a.moves++Kz a.n a.start++Sb a.n (a.fin.take 0) from (Xr _).symm];refine Ze ?_;(refine xL 44 (Zd 1 Z0) ?_<;>(refine yL 45 (Zk 1 Zy) fun v45 h=>?_;cases h)<;>refine xL 46 (ZT Zp) (xL 47 Zb ?_)<;>refine Zc ?_)
 refine ZD (ι:={q:Nat×Value//q.1≤a.fin.length∧q.2.oneCell'=true}) (fun k=>⟨[(1,_,_),(2,_,_),(4,_,_),(5,_,_),(45,_,_),(46,_,_),(47, .int .i64 k.1.1,pInt k.1.1)],[(1,_,_),(2,_,_),(5,h5, .own 39 5 1 [pInt (a.n+1),pInt a.syms,pInts [a.n],pInts [a.n], .val k.1.2]),(301,k.1.2, .own 93 3 (a.moves++Kz a.n a.start++Sb a.n (a.fin.take k.1.1)).length ((a.moves++Kz a.n a.start++Sb a.n (a.fin.take k.1.1)).flatMap cMv))]⟩) (fun k=>a.fin.length-k.1.1) ⟨(0,hM),Xd _,hMo⟩ (fun a w H=>H.weaken ⟨rfl,rfl,rfl,rfl,rfl,rfl,rfl,trivial⟩ ⟨rfl,rfl,rfl,rfl,trivial⟩) ?_;rintro ⟨⟨j,hM2⟩,hj,hM2o⟩;dsimp only;dsimp only at hj hM2o;(have hl2:(a.moves++Kz a.n a.start++Sb a.n (a.fin.take j)).length≤30000:=by unfold Kz Sb;rw [Xb,Xb,Xe,Xe,Xo];omega);refine Ze ?_;(refine xL 48 ZP ?_<;>refine Zc ?_)
 refine cX ?_ ?_<;>intro hb48
 · first|exact bN hb48|(
 obtain ⟨y,hy⟩:=Zt (show j<a.fin.length by omega);have e1:=Z7 (f:=pInt) hy;refine Ze ?_;(refine xL 49 (ZI Zp) ?_<;>(refine yL 50 (Z9 Zg) fun v50 h=>?_;cases h)<;>refine xL 9 Za ?_<;>refine Zi ?_)
 (refine xL 51 (Zd 5 Zx) ?_<;>(refine yL 52 (Zk 5 ZA) fun v52 h=>?_;cases h)<;>refine xL 53 Zb (xL 54 Zb (xL 55 (ZL YW) ?_))<;>refine YB 56 ZU fun h56 ho56=>?_<;>(refine ZW 301 56 57 ZU fun h57 ho57=>?_;refine Zs (ZC (l:=57) 301 rfl rfl) fun _=>?_;refine Zs (ZH (l:=301) rfl ((WR _ (a.moves++Kz a.n a.start++Sb a.n (a.fin.take j)) ⟨y,a.n,-1⟩).trans (by rw [Xy (a.moves++Kz a.n a.start),←ζ7 a.n hy]))) fun _=>?_)<;>refine xL 58 (Zd 5 Zx) ?_<;>refine YL 5 ZA YA ?_<;>refine Zi ?_)
 (refine xL 59 ZG (xL 47 Zb ?_)<;>refine Zc ?_)
 refine Zm (
  ⟨(j+1,h57),Zf hy,ho57⟩
  ) (by dsimp only;omega) ⟨rfl,rfl,rfl,rfl,rfl,rfl,rfl,trivial⟩ ⟨rfl,rfl,rfl,rfl,trivial⟩)
 · first|exact bN hb48|(
 rw [Xj (show a.fin.length≤j by omega)];have hone:En.one (PV.val hM2)=true:=hM2o;refine nav ?_;refine Zq (ZC (l:=301) 1000 rfl rfl) fun _=>?_;(refine Zv ?_<;>(refine yL 60 (Zu (k:=5) (ps:=[pInt (a.n+1),pInt a.syms,pInts [a.n],pInts [a.n],PV.val hM2]) 5 kR) fun v60 h=>?_;cases h)<;>(refine WQ [(1000,hM2,PV.own 93 3 (KU a).moves.length ((KU a).moves.flatMap cMv)),(1,_,_),(2,_,_),(5,_,_)] ⟨rfl,rfl,rfl,rfl,trivial⟩ ?_;refine JP [1,2,5] 61 (call137) (Zbg (KU a) (Cf h.toAOk) (Ze1 h) _ hM2 hM2o r5 hr) ?_;rintro _ _ _ ⟨⟨V1,rfl⟩,rfl,rfl⟩)<;>refine xL 62 Zj (xL 63 Zj ?_)<;>refine ZE 2 Zh ?_<;>refine xL 3 Za ?_<;>refine Zc ?_)
 exact Z5 (k:=5) 2 kR (results90) rfl rfl rfl (Xa rfl) dC r5.s rfl))
theorem ZmI (a:Aut):AF prog 90 [ZN a] (· =resW (JC a)):=by
 cases hv:Z4 a with
 |false=>rw [ZhV hv];exact ZhW a hv
 | true=>
   rw [ZkA hv];have h:=WV hv;obtain ⟨p0,p1,p2,p3,p4,E,h5,h2,hr⟩:=TV (KU a) (Cf h.toAOk) (Oa h);rw [h2];exact ZmH a hv h5 hr
theorem Ll (l:List Int) (n:Int) (hl:l.length≤1000000) (hn:0≤n∧n≤1000000) (hb:∀x∈l,0≤x∧x≤1000000):AF prog 136 [pInts l,pInt n] (· = .own 3 1 (YV n l).length ((YV n l).map pInt)):=by
 refine AF.of_body 22 func136 rfl ntmps136 (Xa rfl) ?_
 intro w0 M0 vs hl hv
 obtain ⟨v0,v1,rfl⟩:=YI hl
 obtain rfl:=hv 1 _ _ rfl rfl
 clear hl hv
 refine YZ 0 rfl fun hlen=>?_
 refine Ze ?_
 (refine xL 4 Za ?_<;>refine Zi ?_)
 (refine xL 5 Za ?_<;>refine Zc ?_)
 refine Zq (KB 200 3 1 rfl) fun _=>?_
 (refine Zv ?_<;>refine xL 8 Zb (xL 9 (ZT Zp) (xL 10 Zb ?_))<;>refine Zc ?_)
 refine ZD (ι:={q:Nat×Value//q.1≤l.length∧q.2.oneCell'=true}) (fun k=>⟨[(1,_,_),(8,_,_),(9,_,_),(5,k.1.2, .val k.1.2),(10, .int .i64 k.1.1,pInt k.1.1)],[(200,k.1.2, .own 3 1 (YV n (l.take k.1.1)).length ((YV n (l.take k.1.1)).map pInt))]⟩) (fun k=>l.length-k.1.1) ⟨(0, .slice none 0 0),Xd _,rfl⟩ (fun a w H=>H.weaken ⟨rfl,rfl,rfl,rfl,rfl,trivial⟩ ⟨rfl,trivial⟩) ?_
 rintro ⟨⟨k,hO⟩,hk,hOo⟩
 dsimp only
 dsimp only at hk hOo
 have hal:(YV n (l.take k)).length≤1000000:=by rw [KV,Xo];omega
 refine Ze ?_
 (refine xL 11 ZP ?_<;>refine Zc ?_)
 refine cX ?_ ?_<;>intro hb11
 · first|exact bN hb11|(
 obtain ⟨x,hx⟩:=Zt (show k<l.length by omega);have e1:=Z7 (f:=pInt) hx;have hxb:=hb x (Xc hx);refine Ze ?_;(refine xL 12 (ZI Zp) ?_<;>(refine yL 13 (Z9 Zg) fun v13 h=>?_;cases h)<;>refine xL 7 Za ?_<;>refine Zi ?_)
 (refine xL 14 Zb (xL 15 Zb (xL 16 Zb (xL 17 ZG ?_)))<;>refine ZO (kk:=1) 18 Zn fun h18 ho18=>?_<;>(refine ZW 200 18 19 Zn fun h19 ho19=>?_;refine Zs (ZC (l:=19) 200 rfl rfl) fun _=>?_;refine Zs (ZH (l:=200) rfl ((Kn _ (YV n (l.take k)) (x+n)).trans (by rw [←ζC n hx]))) fun _=>?_)<;>refine xL 5 Za ?_<;>refine Zi ?_)
 (refine xL 20 ZG (xL 10 Zb ?_)<;>refine Zc ?_)
 refine Zm (
  ⟨(k+1,h19),Zf hx,ho19⟩
  ) (by dsimp only;omega) ⟨rfl,rfl,rfl,rfl,rfl,trivial⟩ ⟨rfl,trivial⟩)
 · first|exact bN hb11|(
 rw [Xj (show l.length≤k by omega)];refine Ze ?_;(refine xL 21 Zb (xL 4 Za ?_)<;>refine Zc ?_)
 exact Kb 200 (results136) rfl rfl rfl)
def bsM (a b:Aut):List Mv:=a.moves++KM a.n b.moves
theorem Rw {a b:Aut} (ha:AOk a) (hb:AOk b):(bsM a b).length≤40000:=by
 unfold bsM
 rw [Xb,Ld]
 have:=ha.ml;have:=hb.ml;omega
set_option maxHeartbeats 2000000 in
theorem ζ8 (a b:Aut) (ha:AOk a) (hb:AOk b) (V V':Value):AFh False prog 134 [(0,V,ZN a),(1,V',ZN b)] [] (fun v q h=>∃hM:Value,hM.oneCell'=true∧q= .agg [pInt (a.n+b.n),pInt a.syms, .val (.slice none 0 0), .val (.slice none 0 0), .val hM]∧h=[(1000,hM, .own 93 3 (bsM a b).length ((bsM a b).flatMap cMv))]):=by
 have hn0:=ha.n0
 have hn1:=ha.n1
 have hm0:=hb.n0
 have hm1:=hb.n1
 have hal:=ha.ml
 have hbl:=hb.ml
 refine AFh.of_body 46 func134 rfl ntmps134 (Xa rfl) rfl ?_
 intro w0 M0 N0
 refine Ze ?_
 (refine ZB 2 5 fun h2=>?_<;>refine ZB 3 5 fun h3=>?_<;>refine Zw [(.int .i64 0),(.int .i64 0),(.slice none 0 0),(.slice none 0 0),(.slice none 0 0)] 5 4 ZJ fun h4=>?_<;>refine Zc ?_)
 refine OI (fun x:{x:Value×Value//x.1.oneCell'=true}=>⟨[(2,padd (sbase h2) 0, .val (padd (sbase h2) 0)),(3,padd (sbase h3) 0, .val (padd (sbase h3) 0)),(4,padd (sbase h4) 0, .val (padd (sbase h4) 0)),(5,padd (sbase x.1.2) 0, .val (padd (sbase x.1.2) 0))],[(2,h2, .own 39 5 1 [pInt a.n,pInt a.syms,pInts a.start,pInts a.fin,pMvs a.moves]),(3,h3, .own 39 5 1 [pInt b.n,pInt b.syms,pInts b.start,pInts b.fin,pMvs b.moves]),(4,h4, .own 39 5 1 [pInt 0,pInt 0, .val (.slice none 0 0), .val (.slice none 0 0), .val (.slice none 0 0)]),(5,x.1.2, .own 39 5 1 [pInt (a.n+b.n),pInt a.syms, .val (.slice none 0 0), .val (.slice none 0 0), .val x.1.1]),(17,x.1.1, .own 93 3 a.moves.length (a.moves.flatMap cMv))]⟩) ?_ ?_
 · (refine ZZ (fun i=>([]:List Nat).elem i) [2,3] kR ?_<;>refine xD 0 8 rfl (Zd 2 ZQ) ?_<;>(refine yD 1 9 rfl (Zk 2 Zg) fun v9 h=>?_;cases h)<;>refine xD 2 10 rfl (Zd 3 ZQ) ?_<;>(refine yD 3 11 rfl (Zk 3 Zg) fun v11 h=>?_;cases h)<;>refine xD 4 12 rfl ZG ?_<;>refine xD 5 13 rfl (Zd 2 Z3) ?_<;>(refine yD 6 14 rfl (Zk 2 Zg) fun v14 h=>?_;cases h)<;>refine xD 7 15 rfl (Zd 2 Zx) ?_<;>(refine yD 8 16 rfl (Zk 2 ZA) fun v16 h=>?_;cases h)<;>(refine Y' 9 11 kR ?_ ?_;rotate_right;(focus ((refine Zo rfl fun w9 M9 N9 DQ back=>?_)<;>refine Zw [(.int .i64 0),(.int .i64 0),(.slice none 0 0),(.slice none 0 0),(.slice none 0 0)] 5 5 ZJ fun h5=>?_<;>refine Zl (back _ (nrm ?_))<;>(refine Zr 9 kR ?_)<;>(refine Zo rfl fun w9 M9 N9 DQ back=>?_)<;>refine cO 17 (cA call138 (YX a.moves oM)) fun v17 ho17=>?_<;>refine Zl (back _ (nrm ?_))<;>refine xE 10 18 rfl (ZL ZV) ?_<;>(refine Zr 12 kR ?_)<;>(refine Zo rfl fun w9 M9 N9 DQ back=>?_)<;>(refine ZE 5 (m:=5) kR ?_ (h1:=by show (List.all [pInt (a.n+b.n),pInt a.syms,PV.val (.slice none 0 0),PV.val (.slice none 0 0),PV.val v17] En.one)=true;simp only [XE,XG,XF,Xf];exact ⟨rfl,rfl,rfl,rfl,ho17⟩))<;>refine Zl (back _ (nrm ?_))));rotate_right;(focus ((refine Zo rfl fun w9 M9 N9 DQ back=>?_)<;>refine cO 17 (cA call138 (YX a.moves oM)) fun v17 ho17=>?_<;>refine Zl (back _ (nrm ?_))<;>refine xD 10 18 rfl (ZL ZV) ?_<;>(refine Zr 11 kR ?_)<;>(refine Zo rfl fun w9 M9 N9 DQ back=>?_)<;>refine Zw [(.int .i64 0),(.int .i64 0),(.slice none 0 0),(.slice none 0 0),(.slice none 0 0)] 5 5 ZJ fun h5=>?_<;>refine Zl (back _ (nrm ?_))<;>(refine Zr 12 kR ?_)<;>(refine Zo rfl fun w9 M9 N9 DQ back=>?_)<;>(refine ZE 5 (m:=5) kR ?_ (h1:=by show (List.all [pInt (a.n+b.n),pInt a.syms,PV.val (.slice none 0 0),PV.val (.slice none 0 0),PV.val v17] En.one)=true;simp only [XE,XG,XF,Xf];exact ⟨rfl,rfl,rfl,rfl,ho17⟩))<;>refine Zl (back _ (nrm ?_)))))<;>refine Yw kR (nav ?_)<;>try dsimp only)<;>(
 exact WP ⟨(v17,h5),ho17⟩ ⟨rfl,rfl,rfl,rfl,trivial⟩ ⟨rfl,rfl,rfl,rfl,rfl,trivial⟩)
 · rintro ⟨⟨v17,h5⟩,ho17⟩;dsimp only at ho17 ⊢;refine Zq (ZC (l:=17) 301 rfl rfl) fun _=>?_;refine Zq (ZH (l:=301) (p':= .own 93 3 (a.moves++KM a.n (b.moves.take 0)).length ((a.moves++KM a.n (b.moves.take 0)).flatMap cMv)) rfl (by rw [show KM a.n (b.moves.take 0)=[] from rfl,Xr])) fun _=>?_;refine Ze ?_;(refine xL 19 (Zd 3 Zx) ?_<;>(refine yL 20 (Zk 3 ZA) fun v20 h=>?_;cases h)<;>refine xL 21 (ZT ZK) (xL 22 Zb ?_)<;>refine Zc ?_)
   refine ZD (ι:={q:Nat×Value//q.1≤b.moves.length∧q.2.oneCell'=true}) (fun k=>⟨[(2,_,_),(3,_,_),(4,_,_),(5,_,_),(20,_,_),(21,_,_),(22, .int .i64 k.1.1,pInt k.1.1)],[(2,_,_),(3,_,_),(4,_,_),(5,h5, .own 39 5 1 [pInt (a.n+b.n),pInt a.syms, .val (.slice none 0 0), .val (.slice none 0 0), .val k.1.2]),(301,k.1.2, .own 93 3 (a.moves++KM a.n (b.moves.take k.1.1)).length ((a.moves++KM a.n (b.moves.take k.1.1)).flatMap cMv))]⟩) (fun k=>b.moves.length-k.1.1) ⟨(0,v17),Xd _,ho17⟩ (fun a w H=>H.weaken ⟨rfl,rfl,rfl,rfl,rfl,rfl,rfl,trivial⟩ ⟨rfl,rfl,rfl,rfl,rfl,trivial⟩) ?_;rintro ⟨⟨k,hM⟩,hk,hMo⟩;dsimp only;dsimp only at hk hMo;have hl1:(a.moves++KM a.n (b.moves.take k)).length≤50000:=by rw [Xb,Ld,Xo];omega
   have q5:En.one (PV.val hM)=true:=hMo;refine Ze ?_;(refine xL 23 ZP ?_<;>refine Zc ?_)
   refine cX ?_ ?_<;>intro hb23
   · first|exact bN hb23|(
 obtain ⟨x,hx⟩:=Zt (show k<b.moves.length by omega);have e1:=Ym Z2 b.moves k x hx;have e2:=YK Z2 hx;have hxb:=hb.mv x (Xc hx);refine Ze ?_;(refine xL 24 (ZI ZK) ?_<;>(refine yL 25 (Wn ZX) fun v25 h=>?_;cases h)<;>refine Zw [(.int .i64 0),(.int .i64 0),(.int .i64 0)] 3 7 Kh fun h7=>?_<;>refine ZE 7 ZX ?_<;>refine Zi ?_)
 (refine xL 26 (Zd 5 Zx) ?_<;>(refine yL 27 (Zk 5 ZA) fun v27 h=>?_;cases h)<;>refine xL 28 (Zd 7 Yb) ?_<;>(refine yL 29 (Zk 7 Zg) fun v29 h=>?_;cases h)<;>refine xL 30 (Zd 2 ZQ) ?_<;>(refine yL 31 (Zk 2 Zg) fun v31 h=>?_;cases h)<;>refine xL 32 ZG (xL 33 (Zd 7 Yg) ?_)<;>(refine yL 34 (Zk 7 Zg) fun v34 h=>?_;cases h)<;>refine xL 35 (Zd 2 ZQ) ?_<;>(refine yL 36 (Zk 2 Zg) fun v36 h=>?_;cases h)<;>refine xL 37 ZG (xL 38 (Zd 7 Yj) ?_)<;>(refine yL 39 (Zk 7 Zg) fun v39 h=>?_;cases h)<;>refine xL 40 (ZL YW) ?_<;>refine YB 41 ZU fun h41 ho41=>?_<;>(refine ZW 301 41 42 ZU fun h42 ho42=>?_;refine Zs (ZC (l:=42) 301 rfl rfl) fun _=>?_;refine Zs (ZH (l:=301) rfl ((WR _ (a.moves++KM a.n (b.moves.take k)) ⟨x.src+a.n,x.dst+a.n,x.sym⟩).trans (by rw [Xy,←ζD a.n hx]))) fun _=>?_)<;>refine xL 43 (Zd 5 Zx) ?_<;>refine YL 5 ZA YA ?_<;>refine Zi ?_)
 (refine xL 44 ZG (xL 22 Zb ?_)<;>refine Zc ?_)
 refine Zm (
  ⟨(k+1,h42),Zf hx,ho42⟩
  ) (by dsimp only;omega) ⟨rfl,rfl,rfl,rfl,rfl,rfl,rfl,trivial⟩ ⟨rfl,rfl,rfl,rfl,rfl,trivial⟩)
   · first|exact bN hb23|(
 rw [Xj (show b.moves.length≤k by omega)];refine Zq (ZC (l:=301) 1000 rfl rfl) fun _=>?_;refine Ze ?_;((refine yL 45 (Zu (k:=5) (ps:=[pInt (a.n+b.n),pInt a.syms,PV.val (.slice none 0 0),PV.val (.slice none 0 0),PV.val hM]) 5 kR) fun v45 h=>?_;cases h)<;>refine ZE 4 Zh ?_<;>refine Zc ?_)
 exact Zn4 (k:=5) 4 [(1000,hM,PV.own 93 3 (bsM a b).length ((bsM a b).flatMap cMv))] kR (results134) rfl rfl (Xa rfl) dC rfl ⟨rfl,trivial⟩ fun V=>⟨hM,hMo,rfl,rfl⟩)
theorem YP:AggT prog 149 5=true:=by kernel_rfl
theorem ZdA:AggT prog 263 2=true:=by kernel_rfl
theorem Pq:ArrT prog 263 2=true:=by kernel_rfl
theorem YQ:ElT prog 264 263 2 16 (.agg #[(.int .i64 0),(.int .i64 0)]):=⟨underlying264,by kernel_rfl,rfl,dC⟩
theorem JV:FldT prog 149 0 0=true:=by kernel_rfl
theorem Yp:FldT prog 149 1 3=true:=by kernel_rfl
theorem TX:FldT prog 149 2 4=true:=by kernel_rfl
theorem TY:SlT prog 264 263 2=true:=by kernel_rfl
theorem WN:ZeroT prog 149 (.agg #[(.int .i64 0),(.slice none 0 0),(.slice none 0 0),(.slice none 0 0),(.slice none 0 0)]):=by unfold ZeroT;kernel_rfl
theorem TZ:ZeroT prog 263 (.agg #[(.int .i64 0),(.int .i64 0)]):=by unfold ZeroT;kernel_rfl
theorem Zfo (op:Int) (x y:Bool):AF prog 213 [pInt op,ZM x,ZM y] (· =ZM (Ha op x y)):=by
 refine AF.of_body 30 func213 rfl ntmps213 (Xa rfl) ?_
 intro w0 M0 vs hl hv
 obtain ⟨v0,v1,v2,rfl⟩:=LX hl
 obtain rfl:=hv 0 _ _ rfl rfl
 obtain rfl:=hv 1 _ _ rfl rfl
 obtain rfl:=hv 2 _ _ rfl rfl
 clear hl hv
 refine Ze ?_
 (refine xL 6 Za ?_<;>refine Zi ?_)
 (refine xL 7 Zb ?_<;>refine Zi ?_)
 (refine xL 9 Ye (xL 8 Za ?_)<;>refine Zc ?_)
 refine cX ?_ ?_<;>intro hb8
 · first|exact bN hb8|(
 refine Ze ?_;(refine xL 10 Zb (xL 11 Zb ?_)<;>(refine bL 11 (fun hb11=>?_) (fun hb11=>?_)<;>(first|refine kL 12 ?_|refine xL 12 Zb ?_))<;>refine xL 13 ZF (xL 6 Za ?_)<;>refine Zc ?_)<;>(
 refine Zz (results213) rfl ?_;unfold Ha;rw [UT oM]
 cases x<;>cases y<;>first|rfl|(exfalso;simp_all;done)))
 · first | exact bN hb8|(
 refine Ze ?_;(refine xL 15 Ye (xL 14 Za ?_)<;>refine Zc ?_)
 refine cX ?_ ?_<;>intro hb14
 · first|exact bN hb14|(
 refine Ze ?_;(refine xL 16 Zb (xL 17 Zb ?_)<;>(refine bL 17 (fun hb17=>?_) (fun hb17=>?_)<;>(first|refine kL 18 ?_|refine xL 18 Zb ?_))<;>refine xL 19 ZF (xL 6 Za ?_)<;>refine Zc ?_)<;>(
 refine Zz (results213) rfl ?_;unfold Ha;rw [US oM,UT oM]
 cases x<;>cases y<;>first|rfl|(exfalso;simp_all;done)))
 · first |exact bN hb14|(
 refine Ze ?_;(refine xL 21 Ye (xL 20 Za ?_)<;>refine Zc ?_)
 refine cX ?_ ?_<;>intro hb20
 · first|exact bN hb20|(
 refine Ze ?_;(refine xL 22 Zb (xL 23 Zb ?_)<;>(refine bL 23 (fun hb23=>?_) (fun hb23=>?_)<;>(first|refine kL 24 ?_|refine xL 24 Zb ?_))<;>(first|refine kL 25 ?_|refine xL 25 Ya ?_)<;>refine xL 26 ZF (xL 6 Za ?_)<;>refine Zc ?_)<;>(
 refine Zz (results213) rfl ?_;unfold Ha;rw [US oM,US oM,UT oM]
 cases x<;>cases y<;>first|rfl|(exfalso;simp_all;done)))
 · first|exact bN hb20|(
 refine Ze ?_;(refine xL 27 Zb (xL 28 Zb (xL 29 (ZnW underlying4) (xL 6 Za ?_)))<;>refine Zc ?_)
 refine Zz (results213) rfl ?_;unfold Ha;rw [US oM,US oM,US oM]
 cases x<;>cases y<;>first|rfl|(exfalso;simp_all;done))))
theorem ζ9 {α κ:Type} [DecidableEq κ] (f:α→κ) (x:α):∀(l:List α) (off:Nat),YM f off (l++[x])=YM f off l++[(f x, .int .i64 ((off+l.length:Nat):Int))]
 |[],off=>by simp [YM]
 |y::l,off=>by rw [Ve,YM,ζ9 f x l (off+1),YM,Ve,Xl];congr 5;omega
theorem O' {α κ:Type} [DecidableEq κ] (f:α→κ):∀(l:List α) (off:Nat),(YM f off l).map (·.1)=l.map f
 |[],_=>rfl
 |y::l,off=>by rw [YM,Xw,O' f l (off+1),Xw]
abbrev PrS:=(Nat×Nat)×(Int×Int)
def W8 (x:PrS):Pi2:=((x.1.1:Nat),(x.1.2:Nat))
theorem ZdB {x y:PrS}:W8 x=W8 y↔x.1=y.1:=by
 unfold W8
 rw [Prod.mk.injEq,Prod.ext_iff]
 omega
theorem ZmJ (o:List PrS) (x:PrS):posK W8 o (W8 x)=posK Prod.fst o x.1:=G5 fun y _=>ZdB
def cPr (x:PrS):List PV:=[pInt (x.1.1:Nat),pInt (x.1.2:Nat)]
theorem Zgo (x:PrS):(cPr x).length=2:=rfl
theorem Zgp (e:Nat) (L:List PrS) (x:PrS):PV.own e 2 (L.length+1) (L.flatMap cPr++cPr x)= .own e 2 (L++[x]).length ((L++[x]).flatMap cPr):=sM
theorem ZhX (o:List PrS) (x:PrS):(Gm (YM W8 0 o) (W8 x)).getD (.int .i64 0)= .int .i64 ((if posK W8 o (W8 x)<o.length then posK W8 o (W8 x) else 0:Nat):Int)∧(Gm (YM W8 0 o) (W8 x)).isSome=decide (posK W8 o (W8 x)<o.length):=by
 rw [L5]
 by_cases h:posK W8 o (W8 x)<o.length
 · rw [UT h,UT h,UQ h,Xv];exact ⟨rfl,rfl⟩
 · rw [US h,US h,UR h];exact ⟨rfl,rfl⟩
def KJ (o:List PrS):List Int:=o.map fun x=>x.2.1
def GO (o:List PrS):List Int:=o.map fun x=>x.2.2
theorem Zaa (o:List PrS) (y:PrS):KJ (o++[y])=KJ o++[y.2.1]:=by unfold KJ;rw [Xu];rfl
theorem ZdC (o:List PrS) (y:PrS):GO (o++[y])=GO o++[y.2.2]:=by unfold GO;rw [Xu];rfl
def SX (A B:Aut) (op:Int) (q:List PrS×List (List Nat)):PV:= .agg [pInt (A.syms.toNat:Nat), .sl q.2.length (q.2.map K8), .sl (q.1.map (WT A B op)).length ((q.1.map (WT A B op)).map ZM),pInts (KJ q.1),pInts (GO q.1)]
def Zpg (A B:Aut) (op:Int) (p:PV):Prop:=(∃q,prodQ A B=some q∧p= .tup [SX A B op q,ZM true])∨
 (prodQ A B=none∧∃u0 u1 u2 u3 u4:Value,u0.oneCell'=true∧u1.oneCell'=true∧u2.oneCell'=true∧u3.oneCell'=true∧u4.oneCell'=true∧p= .tup [.agg [.val u0, .val u1, .val u2, .val u3, .val u4],ZM false])
theorem Ot:WU prog 149=some (.agg #[.int .i64 0, .slice none 0 0, .slice none 0 0, .slice none 0 0, .slice none 0 0],[(0,3),(3,1),(4,1)]):=by kernel_rfl
theorem tPi:PiT prog 265 263 3 3 (.int .i64 0):=⟨underlying265,underlying263,underlying3,by kernel_rfl,by kernel_rfl,by kernel_rfl,by kernel_rfl,by kernel_rfl,fun a b=>by kernel_rfl,⟨prog.types.size-1,by kernel_rfl⟩,by show ZeroT _ _ _;unfold ZeroT;kernel_rfl⟩
set_option maxHeartbeats 4000000 in
theorem Zfp (A B : Aut) (op:Int) (hA:DetA A) (hB:DetA B) (hs:A.syms=B.syms):AF prog 169 [ZN A,ZN B,pInt op] (Zpg A B op):=by
 have hAn1:=hA.ok.n1
 have hAn0:=hA.ok.n0
 have hBn1:=hB.ok.n1
 have hBn0:=hB.ok.n0
 have hs0:=hA.ok.s0
 have hs1:=hA.ok.s1
 have hsN:((A.syms.toNat:Nat):Int)=A.syms:=oM
 have hsB:B.syms.toNat=A.syms.toNat:=by rw [hs]
 refine AF.of_body 152 func169 rfl ntmps169 (Xa rfl) ?_
 intro w0 M0 vs hl hv
 obtain ⟨v0,v1,v2,rfl⟩:=LX hl
 obtain rfl:=hv 2 _ _ rfl rfl
 clear hl hv
 refine Ze ?_
 (refine ZB 3 5 fun h3=>?_<;>refine ZB 4 5 fun h4=>?_<;>refine Zw [(.int .i64 0),(.slice none 0 0),(.slice none 0 0),(.slice none 0 0),(.slice none 0 0)] 5 6 WN fun h6=>?_<;>refine xL 7 Za ?_<;>refine Zc ?_)
 (refine ZZ (fun i=>([]:List Nat).elem i) [3,4] kR ?_<;>(refine yD 0 21 rfl (Zu 3 Zh) fun v21 h=>?_;cases h)<;>(refine yD 2 23 rfl (Zu 4 Zh) fun v23 h=>?_;cases h)<;>(refine Zr 1 kR ?_)<;>(refine WO (d:=22) rfl (cA call110 (G9 A hA.ok)) fun v22 h=>?_;cases h)<;>(refine Zr 3 kR ?_)<;>(refine WO (d:=24) rfl (cA call110 (G9 B hB.ok)) fun v24 h=>?_;cases h)<;>refine xE 4 8 rfl Za ?_<;>refine xE 5 9 rfl Za ?_<;>refine Yw kR (nav ?_)<;>try dsimp only)
 (refine Zv ?_<;>refine xL 25 (Zd 3 Z3) ?_<;>(refine yL 26 (Zk 3 Zg) fun v26 h=>?_;cases h)<;>refine xL 27 (ZL EK) ?_<;>refine ZO (kk:=1) 28 Zn fun h28 ho28=>?_<;>(refine ZO (kk:=1) 29 Zn fun h29 ho29=>?_;have q28:En.one (PV.val h28)=true:=ho28;have q29:En.one (PV.val h29)=true:=ho29)<;>refine yL 30 (ZeD Ot rfl ho28 ho29) fun v30 _=>?_<;>refine Zw [(.int .i64 0),(.slice none 0 0),(.slice none 0 0),(.slice none 0 0),(.slice none 0 0)] 5 10 WN fun h10=>?_<;>refine ZE 10 YP ?_<;>refine Zc ?_)
 refine Zq (W1 (l:=10) [pInt A.syms, .own 36 1 0 [], .own 4 1 0 [], .val h28, .val h29] rfl rfl (fun i p p' h1 h2=>by
  match i with
  |0=>cases h1;cases h2;exact .inl rfl
  |1=>cases h1;cases h2;exact .inr ⟨rfl,_,_,rfl⟩
  |2=>cases h1;cases h2;exact .inr ⟨rfl,_,_,rfl⟩
  |3=>cases h1;cases h2;exact .inl rfl
  |4=>cases h1;cases h2;exact .inl rfl
  |i+5=>simp at h2)) fun _=>?_
 refine Zq (Ww (l:=10) (l':=301) (j:=1) rfl rfl rfl rfl) fun i=>?_
 obtain ⟨v301,ho301⟩:=i
 refine Zq (Ww (l:=10) (l':=302) (j:=2) rfl rfl rfl rfl) fun i=>?_
 obtain ⟨v302,ho302⟩:=i
 dsimp only [List.set]
 refine Zq (ZC (l:=28) 303 rfl rfl) fun _=>?_
 refine Zq (ZC (l:=29) 304 rfl rfl) fun _=>?_
 refine Zq (ZH (l:=303) (p':= .own 3 1 (KJ [((0,0),(-1,-1))]).length ((KJ [((0,0),(-1,-1))]).map pInt)) rfl rfl) fun _=>?_
 refine Zq (ZH (l:=304) (p':= .own 3 1 (GO [((0,0),(-1,-1))]).length ((GO [((0,0),(-1,-1))]).map pInt)) rfl rfl) fun _=>?_
 (refine Zv ?_<;>refine xL 31 (HZ Pq TZ) ?_<;>refine YB 32 YQ fun h32 ho32=>?_<;>refine xL 11 Za ?_<;>refine Zc ?_)
 refine Zq (ZC (l:=32) 305 rfl rfl) fun _=>?_
 refine Zq (ZH (l:=305) (p':= .own 263 2 ([((0,0),(-1,-1))]:List PrS).length (([((0,0),(-1,-1))]:List PrS).flatMap cPr)) rfl rfl) fun _=>?_
 (refine Zv ?_<;>refine GI 33 fun h33 ho33=>?_<;>refine xL 34 (HZ Pq TZ) ?_<;>(refine ZfR (m:=[]) (k:=((0:Int),(0:Int))) 33 tPi (fun x hx=>by simp at hx) sM ⟨dC,dC⟩ rfl ?_;rw [show ([]:List (Pi2×Value))++[(((0:Int),(0:Int)),Value.int .i64 0)]=YM W8 0 [((0,0),(-1,-1))] from rfl])<;>refine xL 35 Zb (xL 12 Za ?_)<;>refine Zc ?_)
 refine Zq (ZC (l:=33) 306 rfl rfl) fun _=>?_
 (refine Zv ?_<;>refine xL 13 Za ?_<;>refine Zc ?_)
 refine ZD (ι:={q:Nat×Value×Value×Value×Value×Value×List PrS×List (List Nat)//(Wq A B).upto ((0,0),(-1,-1)) q.1=some (q.2.2.2.2.2.2.1,q.2.2.2.2.2.2.2)∧q.1≤q.2.2.2.2.2.2.1.length∧q.2.1.oneCell'=true∧q.2.2.1.oneCell'=true∧q.2.2.2.1.oneCell'=true∧q.2.2.2.2.1.oneCell'=true∧q.2.2.2.2.2.1.oneCell'=true}) (fun k=>⟨[(2,_,_),(3,_,_),(4,_,_),(6,_,_),(7,_,_),(8,_,_),(9,_,_),(10,_,_),(12,_,_),(11,k.1.2.2.2.2.2.1, .val k.1.2.2.2.2.2.1),(13, .int .i64 k.1.1,pInt k.1.1)],[(3,_,_),(4,_,_),(6,_,_),(10,h10, .own 149 5 1 [pInt A.syms, .val k.1.2.1, .val k.1.2.2.1, .val k.1.2.2.2.1, .val k.1.2.2.2.2.1]),(301,k.1.2.1, .own 36 1 k.1.2.2.2.2.2.2.2.length (k.1.2.2.2.2.2.2.2.map K8)),(302,k.1.2.2.1, .own 4 1 ((k.1.2.2.2.2.2.2.1.take k.1.1).map (WT A B op)).length (((k.1.2.2.2.2.2.2.1.take k.1.1).map (WT A B op)).map ZM)),(303,k.1.2.2.2.1, .own 3 1 (KJ k.1.2.2.2.2.2.2.1).length ((KJ k.1.2.2.2.2.2.2.1).map pInt)),(304,k.1.2.2.2.2.1, .own 3 1 (GO k.1.2.2.2.2.2.2.1).length ((GO k.1.2.2.2.2.2.2.1).map pInt)),(305,k.1.2.2.2.2.2.1, .own 263 2 k.1.2.2.2.2.2.2.1.length (k.1.2.2.2.2.2.2.1.flatMap cPr)),(306,h33, .omap (RB (YM W8 0 k.1.2.2.2.2.2.2.1)))]⟩) (fun k=>2000-k.1.1) ⟨(0,v301,v302,h28,h29,h32,[((0,0),(-1,-1))],[]),rfl,Xd _,ho301,ho302,ho28,ho29,ho32⟩ (fun a w H=>H.weaken ⟨rfl,rfl,rfl,rfl,rfl,rfl,rfl,rfl,rfl,rfl,rfl,trivial⟩ ⟨rfl,rfl,rfl,rfl,rfl,rfl,rfl,rfl,rfl,rfl,trivial⟩) ?_
 rintro ⟨⟨i,r1,r2,r3,r4,r5,o,rows⟩,hU,hi,hr1,hr2,hr3,hr4,hr5⟩
 dsimp only
 dsimp only at hU hi hr1 hr2 hr3 hr4 hr5
 obtain ⟨hOk,hRl,_⟩:=Ob hA hB hs hU
 have hRl:=hRl hi
 have hcap:o.length≤2000:=hOk.cap
 have hfl:((o.take i).map (WT A B op)).length≤2000:=by rw [Xe,Xo];omega
 have q1:En.one (PV.val r1)=true:=hr1
 have q2:En.one (PV.val r2)=true:=hr2
 have q3:En.one (PV.val r3)=true:=hr3
 have q4:En.one (PV.val r4)=true:=hr4
 refine Ze ?_
 (refine xL 36 Zb (xL 37 Zb (xL 38 (YF 305 TY) (xL 39 ZP ?_)))<;>refine Zc ?_)
 refine cX ?_ ?_<;>intro hb39
 · first | exact bN hb39|(
 obtain ⟨x,hx⟩:=Zt (show i<o.length by omega);have hxp:=hOk.p x (Xc hx);have hx1:x.1.1<A.n.toNat:=hxp.1;have hx2:x.1.2<B.n.toNat:=hxp.2;have e1:(o.flatMap cPr)[i*2+0]? =some (pInt (x.1.1:Nat)):=Lv Zgo hx dC;have e2:(o.flatMap cPr)[i*2+1]? =some (pInt (x.1.2:Nat)):=Lv Zgo hx dC;refine nav ?_;(refine ZZ (fun i=>([]:List Nat).elem i) [305] kR ?_<;>refine xD 0 42 rfl Zb ?_<;>refine xD 1 43 rfl Zb ?_<;>refine xD 2 44 rfl (Yh 305 TY) ?_<;>refine xD 3 45 rfl (ZiV (len:=2) (i:=0) 305 kR) ?_<;>(refine yD 4 46 rfl (Zk 305 Zg) fun v46 h=>?_;cases h)<;>refine xD 5 47 rfl Zb ?_<;>refine xD 6 48 rfl Zb ?_<;>refine xD 7 49 rfl (Yh 305 TY) ?_<;>refine xD 8 50 rfl (ZiV (len:=2) (i:=1) 305 kR) ?_<;>(refine yD 9 51 rfl (Zk 305 Zg) fun v51 h=>?_;cases h)<;>refine xE 10 14 rfl Za ?_<;>refine xE 11 15 rfl Za ?_<;>refine Yw kR (nav ?_)<;>try dsimp only)
 (refine Zv ?_<;>refine xL 52 (Zd 3 Z3) ?_<;>(refine yL 53 (Zk 3 Zg) fun v53 h=>?_;cases h)<;>(refine Jm (n:=A.syms.toNat) 54 Zn (fun h54 ho54=>?_) (hx:=by rw [hsN];exact rfl) (hy:=by rw [hsN];exact rfl) (hb:=by omega))<;>refine xL 16 Za ?_<;>refine Zc ?_)
 rw [←ζG];(refine Zv ?_<;>refine xL 55 Zb (xL 56 (YF 54 Zp) (xL 57 Zb ?_))<;>refine Zc ?_)
 refine ZD (ι:={q:Nat×Value×Value×Value×List PrS×List Nat//(Wq A B).row i x o q.1=some (q.2.2.2.2.1,q.2.2.2.2.2)∧q.1≤A.syms.toNat∧q.2.1.oneCell'=true∧q.2.2.1.oneCell'=true∧q.2.2.2.1.oneCell'=true}) (fun k=>⟨[(2,_,_),(3,_,_),(4,_,_),(6,_,_),(7,_,_),(8,_,_),(9,_,_),(10,_,_),(12,_,_),(13,_,_),(14,_,_),(15,_,_),(16,_,_),(56,_,_),(11,k.1.2.2.2.1, .val k.1.2.2.2.1),(57, .int .i64 k.1.1,pInt k.1.1)],[(3,_,_),(4,_,_),(6,_,_),(301,_,_),(302,_,_),(10,h10, .own 149 5 1 [pInt A.syms, .val r1, .val r2, .val k.1.2.1, .val k.1.2.2.1]),(303,k.1.2.1, .own 3 1 (KJ k.1.2.2.2.2.1).length ((KJ k.1.2.2.2.2.1).map pInt)),(304,k.1.2.2.1, .own 3 1 (GO k.1.2.2.2.2.1).length ((GO k.1.2.2.2.2.1).map pInt)),(305,k.1.2.2.2.1, .own 263 2 k.1.2.2.2.2.1.length (k.1.2.2.2.2.1.flatMap cPr)),(306,h33, .omap (RB (YM W8 0 k.1.2.2.2.2.1))),(54,h54, .own 3 1 A.syms.toNat (vec A.syms.toNat fun j=>pInt (T6 k.1.2.2.2.2.2 j)))]⟩) (fun k=>A.syms.toNat-k.1.1) ⟨(0,r3,r4,r5,o,[]),rfl,Xd _,hr3,hr4,hr5⟩ (fun a w H=>H.weaken ⟨rfl,rfl,rfl,rfl,rfl,rfl,rfl,rfl,rfl,rfl,rfl,rfl,rfl,rfl,rfl,rfl,trivial⟩ ⟨rfl,rfl,rfl,rfl,rfl,rfl,rfl,rfl,rfl,rfl,rfl,trivial⟩) ?_;rintro ⟨⟨s,r3',r4',r5',o',r⟩,hW,hsm,hr3',hr4',hr5'⟩;dsimp only;dsimp only at hW hsm hr3' hr4' hr5';obtain ⟨hMt,hpr,hrl,_⟩:=hOk.toMet.row (fun s hs'=>⟨hA.sl _ _ hx1 hs',hB.sl _ _ hx2 (by have:s<A.syms.toNat:=hs';omega)⟩) (show s≤(Wq A B).m from hsm) hW;have hcap':o'.length≤2000:=hMt.cap;have hx':=Kg hpr hx;have hil:=Zf hx';(have hpf:(KJ o').length=o'.length:=by unfold KJ;rw [Xe]);(have hps:(GO o').length=o'.length:=by unfold GO;rw [Xe]);have q3':En.one (PV.val r3')=true:=hr3';have q4':En.one (PV.val r4')=true:=hr4';refine Ze ?_;(refine xL 58 ZP ?_<;>refine Zc ?_)
 refine cX ?_ ?_<;>intro hb58
 · first | exact bN hb58|(
 obtain ⟨mx,hm1,hm2,hm3⟩:=hA.mo x.1.1 s hx1 oM;obtain ⟨my,hn1,hn2,hn3⟩:=hB.mo x.1.2 s hx2 oM;have hml:=hA.ml x.1.1 hx1;have hnl:=hB.ml x.1.2 hx2;(have d1:((List.range A.n.toNat).map fun s=>pMvs (movesOf A s))[x.1.1*1]? =some (pMvs (movesOf A x.1.1)):=by rw [Xq,G7 hx1]);(have d2:((List.range B.n.toNat).map fun s=>pMvs (movesOf B s))[x.1.2*1]? =some (pMvs (movesOf B x.1.2)):=by rw [Xq,G7 hx2]);(have d3:((movesOf A x.1.1).flatMap cMv)[s*3+1]? =some (pInt (stepA A x.1.1 s:Nat)):=by rw [←hm3];exact Lv Z2 hm1 dC);(have d4:((movesOf B x.1.2).flatMap cMv)[s*3+1]? =some (pInt (stepA B x.1.2 s:Nat)):=by rw [←hn3];exact Lv Z2 hn1 dC);obtain ⟨y,hy⟩:∃y:PrS,y=(Wq A B).step i x s:=⟨_,rfl⟩;(have hyk:W8 y=(((stepA A x.1.1 s:Nat):Int),((stepA B x.1.2 s:Nat):Int)):=by rw [hy];rfl);(have hy2:y.2=(((i:Nat):Int),((s:Nat):Int)):=by rw [hy];rfl);(have hyp:Za4 A B y:=by rw [hy];exact ⟨hA.sl _ _ hx1 oM,hB.sl _ _ hx2 oM⟩);(have hy11:y.1.1=stepA A x.1.1 s:=by rw [hy];rfl);(have hy12:y.1.2=stepA B x.1.2 s:=by rw [hy];rfl);have hyp1:y.1.1<A.n.toNat:=hyp.1;have hyp2:y.1.2<B.n.toNat:=hyp.2;rw [←hy11] at d3;rw [←hy12] at d4;have hid:=ZmJ o' y;have hlk:=ZhX o' y;have hko:∀z∈YM W8 0 o',H9 z.1:=fun z hz=>by
  have hz1:z.1∈(YM W8 0 o').map (·.1):=List.mem_map_of_mem hz;rw [O'] at hz1;obtain ⟨u,hu,hue⟩:=Xk.1 hz1;have hup:=hMt.p u hu;have h1:u.1.1<A.n.toNat:=hup.1;have h2:u.1.2<B.n.toNat:=hup.2;rw [←hue];exact ⟨⟨by show (0:Int)≤(u.1.1:Nat);omega,by show ((u.1.1:Nat):Int)≤1000000;omega⟩,⟨by show (0:Int)≤(u.1.2:Nat);omega,by show ((u.1.2:Nat):Int)≤1000000;omega⟩⟩
 have hkn:((YM W8 0 o').map (·.1)).Nodup:=by
  rw [O'];have hnd:=hMt.nd;refine J8 (TN hnd) fun u hu v hv e=>?_;obtain ⟨i1,hi1⟩:=XV hu;obtain ⟨i2,hi2⟩:=XV hv;have p1:=G6 hnd hi1;have p2:=G6 hnd hi2;have e2:(Wq A B).key u=(Wq A B).key v:=ZdB.1 e;rw [e2,p2] at p1;rw [p1,hi1] at hi2;exact Option.some.inj hi2
 have hky:H9 (W8 y):=⟨⟨by show (0:Int)≤(y.1.1:Nat);omega,by show ((y.1.1:Nat):Int)≤1000000;omega⟩,⟨by show (0:Int)≤(y.1.2:Nat);omega,by show ((y.1.2:Nat):Int)≤1000000;omega⟩⟩;have e3:=KH A.syms.toNat (fun j=>pInt (T6 r j));refine Ze ?_;(refine xL 59 Zb (xL 17 Za ?_)<;>refine Zc ?_)
 (refine ZZ (fun i=>([]:List Nat).elem i) [] kR ?_<;>refine xD 0 60 rfl Zb ?_<;>refine xD 1 61 rfl RR ?_<;>refine xD 2 62 rfl (Js K2) ?_<;>(refine yD 3 63 rfl (Z9 J3) fun v63 h=>?_;cases h)<;>refine xD 4 64 rfl Zb ?_<;>refine xD 5 65 rfl (ZI J4) ?_<;>(refine yD 6 66 rfl (Z9 ZA) fun v66 h=>?_;cases h)<;>refine xD 7 67 rfl Zb ?_<;>refine xD 8 68 rfl (ZI ZK) ?_<;>refine xD 9 69 rfl (Js Yg) ?_<;>(refine yD 10 70 rfl (Z9 Zg) fun v70 h=>?_;cases h)<;>refine xD 11 71 rfl Zb ?_<;>refine xD 12 72 rfl RR ?_<;>refine xD 13 73 rfl (Js K2) ?_<;>(refine yD 14 74 rfl (Z9 J3) fun v74 h=>?_;cases h)<;>refine xD 15 75 rfl Zb ?_<;>refine xD 16 76 rfl (ZI J4) ?_<;>(refine yD 17 77 rfl (Z9 ZA) fun v77 h=>?_;cases h)<;>refine xD 18 78 rfl Zb ?_<;>refine xD 19 79 rfl (ZI ZK) ?_<;>refine xD 20 80 rfl (Js Yg) ?_<;>(refine yD 21 81 rfl (Z9 Zg) fun v81 h=>?_;cases h)<;>refine xD 22 82 rfl (HZ Pq TZ) ?_<;>(refine Zr 23 kR ?_)<;>(refine Zo rfl fun w9 M9 N9 DQ back=>?_)<;>refine Zw [(.int .i64 0),(.int .i64 0)] 2 18 TZ fun h18=>?_<;>refine Zl (back _ (nrm ?_))<;>(refine Zr 24 kR ?_)<;>(refine Zo rfl fun w9 M9 N9 DQ back=>?_)<;>refine ZE 18 ZdA ?_<;>refine Zl (back _ (nrm ?_))<;>refine Yw kR (nav ?_)<;>try dsimp only)
 (refine Zv ?_<;>refine xL 84 Zb ?_<;>(refine yL 85 (Zu (k:=2) (ps:=[pInt (y.1.1:Nat),pInt (y.1.2:Nat)]) 18 kR) fun v85 h=>?_;cases h)<;>refine xL 86 (Zi8 (m:=YM W8 0 o') (k:=W8 y) 306 tPi hko hkn hky hlk.1 hlk.2) ?_<;>refine xL 83 Zb (xL 87 Zj (xL 88 Zj (xL 19 Za (xL 20 Za ?_))))<;>refine Zi ?_)
 (refine xL 89 Zb (xL 90 Ya ?_)<;>refine Zc ?_)
 refine OI (fun z:{z:Value×Value×Value×List PrS×Nat//z.1.oneCell'=true∧z.2.1.oneCell'=true∧z.2.2.1.oneCell'=true∧visit (Wq A B).key (Wq A B).cap o' ((Wq A B).step i x s)=some (z.2.2.2.1,z.2.2.2.2)}=>⟨[(2, .int .i64 op,pInt op),(3,padd (sbase h3) 0, .val (padd (sbase h3) 0)),(4,padd (sbase h4) 0, .val (padd (sbase h4) 0)),(6,padd (sbase h6) 0, .val (padd (sbase h6) 0)),(7, .bool false,ZM false),(8,v22,pGr A),(9,v24,pGr B),(10,padd (sbase h10) 0, .val (padd (sbase h10) 0)),(11,z.1.2.2.1, .val z.1.2.2.1),(12,h33, .val h33),(13, .int .i64 i,pInt i),(14, .int .i64 x.1.1,pInt x.1.1),(15, .int .i64 x.1.2,pInt x.1.2),(16,h54, .val h54),(17, .int .i64 s,pInt s),(19, .int .i64 z.1.2.2.2.2,pInt z.1.2.2.2.2),(56, .int .i64 A.syms.toNat,pInt A.syms.toNat),(57, .int .i64 s,pInt s)],[(3,h3, .own 39 5 1 [pInt A.n,pInt A.syms,pInts A.start,pInts A.fin,pMvs A.moves]),(4,h4, .own 39 5 1 [pInt B.n,pInt B.syms,pInts B.start,pInts B.fin,pMvs B.moves]),(6,h6, .own 149 5 1 [pInt 0, .val (.slice none 0 0), .val (.slice none 0 0), .val (.slice none 0 0), .val (.slice none 0 0)]),(10,h10, .own 149 5 1 [pInt A.syms, .val r1, .val r2, .val z.1.1, .val z.1.2.1]),(301,r1, .own 36 1 rows.length (rows.map K8)),(302,r2, .own 4 1 ((o.take i).map (WT A B op)).length (((o.take i).map (WT A B op)).map ZM)),(303,z.1.1, .own 3 1 (KJ z.1.2.2.2.1).length ((KJ z.1.2.2.2.1).map pInt)),(304,z.1.2.1, .own 3 1 (GO z.1.2.2.2.1).length ((GO z.1.2.2.2.1).map pInt)),(305,z.1.2.2.1, .own 263 2 z.1.2.2.2.1.length (z.1.2.2.2.1.flatMap cPr)),(306,h33, .omap (RB (YM W8 0 z.1.2.2.2.1))),(54,h54, .own 3 1 A.syms.toNat (vec A.syms.toNat fun j=>pInt (T6 r j)))]⟩) ?_ ?_
 · refine cX ?_ ?_<;>intro hb90
   · first | exact bN hb90|(
 (have hnew:¬posK W8 o' (W8 y)<o'.length:=by simpa using hb90);have hnew2:¬posK (Wq A B).key o' ((Wq A B).key ((Wq A B).step i x s))<o'.length:=by
  rw [←hy];show ¬posK Prod.fst o' y.1<o'.length;rw [←hid];exact hnew
 (have hno:Gm (YM W8 0 o') (W8 y)=none:=by rw [L5,US hnew]);refine Ze ?_;(refine xL 91 Zb (xL 92 (YF 305 TY) (xL 19 Za ?_))<;>refine Zi ?_)
 (refine xL 93 Zb (xL 94 Wi ?_)<;>refine Zc ?_)
 refine cX ?_ ?_<;>intro hb94
 · first|exact bN hb94|(
 refine Ze ?_;((refine yL 95 (Zu (k:=5) (ps:=[pInt A.syms,PV.val r1,PV.val r2,PV.val r3',PV.val r4']) 10 kR) fun v95 h=>?_;cases h)<;>refine ZE 6 YP ?_<;>refine xL 7 Za ?_<;>refine Zc ?_)
 refine Z5 (k:=5) 6 kR (results169) rfl rfl rfl (Xa rfl) dC rfl (.inr ⟨?_,_,_,_,_,_,rfl,hr1,hr2,hr3',hr4',rfl⟩);have hv:=P3 hnew2 (show (Wq A B).cap≤o'.length by show 2000≤o'.length;omega);have h1:=Srch.row_fails (Srch.row_out hW hv) (show s+1≤(Wq A B).m by show s+1≤A.syms.toNat;omega);exact Srch.all_none (Srch.upto_out hU hx h1) (show i+1≤(Wq A B).cap by show i+1≤2000;omega))
 · first |exact bN hb94|(
 refine Ze ?_;(refine xL 96 Zb ?_<;>(refine yL 97 (Zu (k:=2) (ps:=[pInt (y.1.1:Nat),pInt (y.1.2:Nat)]) 18 kR) fun v97 h=>?_;cases h)<;>refine xL 98 Zb ?_<;>(refine ZfR (m:=YM W8 0 o') (k:=W8 y) 306 tPi hko hkn hky hno ?_;rw [show YM W8 0 o'++[(W8 y,Value.int .i64 ((o'.length:Nat):Int))]=YM W8 0 (o'++[y]) by rw [ζ9,Xv]])<;>refine Zc ?_)
 (refine ZZ (fun i=>([16,17,18]:List Nat).elem i) [10,18] kR ?_<;>refine xDT 0 99 rfl Zb ?_<;>(refine yDT 1 100 rfl (Zu (k:=2) (ps:=[pInt (y.1.1:Nat),pInt (y.1.2:Nat)]) 18 kR) fun v100 h=>?_;cases h)<;>refine xDT 4 103 rfl (Zd 10 Yp) ?_<;>(refine yDT 5 104 rfl (Zk 10 Zy) fun v104 h=>?_;cases h)<;>refine xDT 6 105 rfl Zb ?_<;>refine xDT 9 108 rfl (Zd 10 TX) ?_<;>(refine yDT 10 109 rfl (Zk 10 Zy) fun v109 h=>?_;cases h)<;>refine xDT 11 110 rfl Zb ?_<;>(refine LZ 2 7 12 kR ?_ ?_ ?_;rotate_right;(focus ((refine Zo rfl fun w9 M9 N9 DQ back=>?_)<;>refine ZO (kk:=1) 111 Zn fun h111 ho111=>?_<;>refine Zl (back _ (nrm ?_))<;>(refine Y' 2 7 kR ?_ ?_;rotate_right;(focus ((refine Zo rfl fun w9 M9 N9 DQ back=>?_)<;>refine ZO (kk:=1) 106 Zn fun h106 ho106=>?_<;>refine Zl (back _ (nrm ?_))<;>(refine Zr 2 kR ?_)<;>(refine Zo rfl fun w9 M9 N9 DQ back=>?_)<;>refine YB 101 YQ fun h101 ho101=>?_<;>refine Zl (back _ (nrm ?_))<;>(refine Zr 3 kR ?_)<;>(refine Zo rfl fun w9 M9 N9 DQ back=>?_)<;>refine ZW 305 101 102 YQ fun h102 ho102=>?_<;>refine Zl (back _ (nrm ?_))<;>(refine Zr 8 kR ?_)<;>(refine Zo rfl fun w9 M9 N9 DQ back=>?_)<;>(refine ZW 303 106 107 Zn fun h107 ho107=>?_;have q107:En.one (PV.val h107)=true:=ho107)<;>refine Zl (back _ (nrm ?_))<;>(refine Zr 13 kR ?_)<;>(refine Zo rfl fun w9 M9 N9 DQ back=>?_)<;>(refine ZW 304 111 112 Zn fun h112 ho112=>?_;have q112:En.one (PV.val h112)=true:=ho112)<;>refine Zl (back _ (nrm ?_))<;>refine xE 14 11 rfl Za ?_<;>refine xE 15 113 rfl (Zd 10 Yp) ?_));rotate_right;(focus ((refine Zo rfl fun w9 M9 N9 DQ back=>?_)<;>refine YB 101 YQ fun h101 ho101=>?_<;>refine Zl (back _ (nrm ?_))<;>(refine Y' 3 7 kR ?_ ?_;rotate_right;(focus ((refine Zo rfl fun w9 M9 N9 DQ back=>?_)<;>refine ZO (kk:=1) 106 Zn fun h106 ho106=>?_<;>refine Zl (back _ (nrm ?_))<;>(refine Zr 3 kR ?_)<;>(refine Zo rfl fun w9 M9 N9 DQ back=>?_)<;>refine ZW 305 101 102 YQ fun h102 ho102=>?_<;>refine Zl (back _ (nrm ?_))<;>(refine Zr 8 kR ?_)<;>(refine Zo rfl fun w9 M9 N9 DQ back=>?_)<;>(refine ZW 303 106 107 Zn fun h107 ho107=>?_;have q107:En.one (PV.val h107)=true:=ho107)<;>refine Zl (back _ (nrm ?_))<;>(refine Zr 13 kR ?_)<;>(refine Zo rfl fun w9 M9 N9 DQ back=>?_)<;>(refine ZW 304 111 112 Zn fun h112 ho112=>?_;have q112:En.one (PV.val h112)=true:=ho112)<;>refine Zl (back _ (nrm ?_))<;>refine xE 14 11 rfl Za ?_<;>refine xE 15 113 rfl (Zd 10 Yp) ?_));rotate_right;(focus ((refine Zo rfl fun w9 M9 N9 DQ back=>?_)<;>refine ZW 305 101 102 YQ fun h102 ho102=>?_<;>refine Zl (back _ (nrm ?_))<;>(refine Zr 7 kR ?_)<;>(refine Zo rfl fun w9 M9 N9 DQ back=>?_)<;>refine ZO (kk:=1) 106 Zn fun h106 ho106=>?_<;>refine Zl (back _ (nrm ?_))<;>(refine Zr 8 kR ?_)<;>(refine Zo rfl fun w9 M9 N9 DQ back=>?_)<;>(refine ZW 303 106 107 Zn fun h107 ho107=>?_;have q107:En.one (PV.val h107)=true:=ho107)<;>refine Zl (back _ (nrm ?_))<;>(refine Zr 13 kR ?_)<;>(refine Zo rfl fun w9 M9 N9 DQ back=>?_)<;>(refine ZW 304 111 112 Zn fun h112 ho112=>?_;have q112:En.one (PV.val h112)=true:=ho112)<;>refine Zl (back _ (nrm ?_))<;>refine xE 14 11 rfl Za ?_<;>refine xE 15 113 rfl (Zd 10 Yp) ?_))))))));rotate_right;(focus ((refine Zo rfl fun w9 M9 N9 DQ back=>?_)<;>refine ZO (kk:=1) 106 Zn fun h106 ho106=>?_<;>refine Zl (back _ (nrm ?_))<;>(refine Y' 2 12 kR ?_ ?_;rotate_right;(focus ((refine Zo rfl fun w9 M9 N9 DQ back=>?_)<;>refine ZO (kk:=1) 111 Zn fun h111 ho111=>?_<;>refine Zl (back _ (nrm ?_))<;>(refine Zr 2 kR ?_)<;>(refine Zo rfl fun w9 M9 N9 DQ back=>?_)<;>refine YB 101 YQ fun h101 ho101=>?_<;>refine Zl (back _ (nrm ?_))<;>(refine Zr 3 kR ?_)<;>(refine Zo rfl fun w9 M9 N9 DQ back=>?_)<;>refine ZW 305 101 102 YQ fun h102 ho102=>?_<;>refine Zl (back _ (nrm ?_))<;>(refine Zr 8 kR ?_)<;>(refine Zo rfl fun w9 M9 N9 DQ back=>?_)<;>(refine ZW 303 106 107 Zn fun h107 ho107=>?_;have q107:En.one (PV.val h107)=true:=ho107)<;>refine Zl (back _ (nrm ?_))<;>(refine Zr 13 kR ?_)<;>(refine Zo rfl fun w9 M9 N9 DQ back=>?_)<;>(refine ZW 304 111 112 Zn fun h112 ho112=>?_;have q112:En.one (PV.val h112)=true:=ho112)<;>refine Zl (back _ (nrm ?_))<;>refine xE 14 11 rfl Za ?_<;>refine xE 15 113 rfl (Zd 10 Yp) ?_));rotate_right;(focus ((refine Zo rfl fun w9 M9 N9 DQ back=>?_)<;>refine YB 101 YQ fun h101 ho101=>?_<;>refine Zl (back _ (nrm ?_))<;>(refine Y' 3 12 kR ?_ ?_;rotate_right;(focus ((refine Zo rfl fun w9 M9 N9 DQ back=>?_)<;>refine ZO (kk:=1) 111 Zn fun h111 ho111=>?_<;>refine Zl (back _ (nrm ?_))<;>(refine Zr 3 kR ?_)<;>(refine Zo rfl fun w9 M9 N9 DQ back=>?_)<;>refine ZW 305 101 102 YQ fun h102 ho102=>?_<;>refine Zl (back _ (nrm ?_))<;>(refine Zr 8 kR ?_)<;>(refine Zo rfl fun w9 M9 N9 DQ back=>?_)<;>(refine ZW 303 106 107 Zn fun h107 ho107=>?_;have q107:En.one (PV.val h107)=true:=ho107)<;>refine Zl (back _ (nrm ?_))<;>(refine Zr 13 kR ?_)<;>(refine Zo rfl fun w9 M9 N9 DQ back=>?_)<;>(refine ZW 304 111 112 Zn fun h112 ho112=>?_;have q112:En.one (PV.val h112)=true:=ho112)<;>refine Zl (back _ (nrm ?_))<;>refine xE 14 11 rfl Za ?_<;>refine xE 15 113 rfl (Zd 10 Yp) ?_));rotate_right;(focus ((refine Zo rfl fun w9 M9 N9 DQ back=>?_)<;>refine ZW 305 101 102 YQ fun h102 ho102=>?_<;>refine Zl (back _ (nrm ?_))<;>(refine Y' 8 12 kR ?_ ?_;rotate_right;(focus ((refine Zo rfl fun w9 M9 N9 DQ back=>?_)<;>refine ZO (kk:=1) 111 Zn fun h111 ho111=>?_<;>refine Zl (back _ (nrm ?_))<;>(refine Zr 8 kR ?_)<;>(refine Zo rfl fun w9 M9 N9 DQ back=>?_)<;>(refine ZW 303 106 107 Zn fun h107 ho107=>?_;have q107:En.one (PV.val h107)=true:=ho107)<;>refine Zl (back _ (nrm ?_))<;>(refine Zr 13 kR ?_)<;>(refine Zo rfl fun w9 M9 N9 DQ back=>?_)<;>(refine ZW 304 111 112 Zn fun h112 ho112=>?_;have q112:En.one (PV.val h112)=true:=ho112)<;>refine Zl (back _ (nrm ?_))<;>refine xE 14 11 rfl Za ?_<;>refine xE 15 113 rfl (Zd 10 Yp) ?_));rotate_right;(focus ((refine Zo rfl fun w9 M9 N9 DQ back=>?_)<;>(refine ZW 303 106 107 Zn fun h107 ho107=>?_;have q107:En.one (PV.val h107)=true:=ho107)<;>refine Zl (back _ (nrm ?_))<;>(refine Zr 12 kR ?_)<;>(refine Zo rfl fun w9 M9 N9 DQ back=>?_)<;>refine ZO (kk:=1) 111 Zn fun h111 ho111=>?_<;>refine Zl (back _ (nrm ?_))<;>(refine Zr 13 kR ?_)<;>(refine Zo rfl fun w9 M9 N9 DQ back=>?_)<;>(refine ZW 304 111 112 Zn fun h112 ho112=>?_;have q112:En.one (PV.val h112)=true:=ho112)<;>refine Zl (back _ (nrm ?_))<;>refine xE 14 11 rfl Za ?_<;>refine xE 15 113 rfl (Zd 10 Yp) ?_)))))))))));rotate_right;(focus ((refine Zo rfl fun w9 M9 N9 DQ back=>?_)<;>refine YB 101 YQ fun h101 ho101=>?_<;>refine Zl (back _ (nrm ?_))<;>(refine LZ 3 7 12 kR ?_ ?_ ?_;rotate_right;(focus ((refine Zo rfl fun w9 M9 N9 DQ back=>?_)<;>refine ZO (kk:=1) 111 Zn fun h111 ho111=>?_<;>refine Zl (back _ (nrm ?_))<;>(refine Y' 3 7 kR ?_ ?_;rotate_right;(focus ((refine Zo rfl fun w9 M9 N9 DQ back=>?_)<;>refine ZO (kk:=1) 106 Zn fun h106 ho106=>?_<;>refine Zl (back _ (nrm ?_))<;>(refine Zr 3 kR ?_)<;>(refine Zo rfl fun w9 M9 N9 DQ back=>?_)<;>refine ZW 305 101 102 YQ fun h102 ho102=>?_<;>refine Zl (back _ (nrm ?_))<;>(refine Zr 8 kR ?_)<;>(refine Zo rfl fun w9 M9 N9 DQ back=>?_)<;>(refine ZW 303 106 107 Zn fun h107 ho107=>?_;have q107:En.one (PV.val h107)=true:=ho107)<;>refine Zl (back _ (nrm ?_))<;>(refine Zr 13 kR ?_)<;>(refine Zo rfl fun w9 M9 N9 DQ back=>?_)<;>(refine ZW 304 111 112 Zn fun h112 ho112=>?_;have q112:En.one (PV.val h112)=true:=ho112)<;>refine Zl (back _ (nrm ?_))<;>refine xE 14 11 rfl Za ?_<;>refine xE 15 113 rfl (Zd 10 Yp) ?_));rotate_right;(focus ((refine Zo rfl fun w9 M9 N9 DQ back=>?_)<;>refine ZW 305 101 102 YQ fun h102 ho102=>?_<;>refine Zl (back _ (nrm ?_))<;>(refine Zr 7 kR ?_)<;>(refine Zo rfl fun w9 M9 N9 DQ back=>?_)<;>refine ZO (kk:=1) 106 Zn fun h106 ho106=>?_<;>refine Zl (back _ (nrm ?_))<;>(refine Zr 8 kR ?_)<;>(refine Zo rfl fun w9 M9 N9 DQ back=>?_)<;>(refine ZW 303 106 107 Zn fun h107 ho107=>?_;have q107:En.one (PV.val h107)=true:=ho107)<;>refine Zl (back _ (nrm ?_))<;>(refine Zr 13 kR ?_)<;>(refine Zo rfl fun w9 M9 N9 DQ back=>?_)<;>(refine ZW 304 111 112 Zn fun h112 ho112=>?_;have q112:En.one (PV.val h112)=true:=ho112)<;>refine Zl (back _ (nrm ?_))<;>refine xE 14 11 rfl Za ?_<;>refine xE 15 113 rfl (Zd 10 Yp) ?_)))));rotate_right;(focus ((refine Zo rfl fun w9 M9 N9 DQ back=>?_)<;>refine ZO (kk:=1) 106 Zn fun h106 ho106=>?_<;>refine Zl (back _ (nrm ?_))<;>(refine Y' 3 12 kR ?_ ?_;rotate_right;(focus ((refine Zo rfl fun w9 M9 N9 DQ back=>?_)<;>refine ZO (kk:=1) 111 Zn fun h111 ho111=>?_<;>refine Zl (back _ (nrm ?_))<;>(refine Zr 3 kR ?_)<;>(refine Zo rfl fun w9 M9 N9 DQ back=>?_)<;>refine ZW 305 101 102 YQ fun h102 ho102=>?_<;>refine Zl (back _ (nrm ?_))<;>(refine Zr 8 kR ?_)<;>(refine Zo rfl fun w9 M9 N9 DQ back=>?_)<;>(refine ZW 303 106 107 Zn fun h107 ho107=>?_;have q107:En.one (PV.val h107)=true:=ho107)<;>refine Zl (back _ (nrm ?_))<;>(refine Zr 13 kR ?_)<;>(refine Zo rfl fun w9 M9 N9 DQ back=>?_)<;>(refine ZW 304 111 112 Zn fun h112 ho112=>?_;have q112:En.one (PV.val h112)=true:=ho112)<;>refine Zl (back _ (nrm ?_))<;>refine xE 14 11 rfl Za ?_<;>refine xE 15 113 rfl (Zd 10 Yp) ?_));rotate_right;(focus ((refine Zo rfl fun w9 M9 N9 DQ back=>?_)<;>refine ZW 305 101 102 YQ fun h102 ho102=>?_<;>refine Zl (back _ (nrm ?_))<;>(refine Y' 8 12 kR ?_ ?_;rotate_right;(focus ((refine Zo rfl fun w9 M9 N9 DQ back=>?_)<;>refine ZO (kk:=1) 111 Zn fun h111 ho111=>?_<;>refine Zl (back _ (nrm ?_))<;>(refine Zr 8 kR ?_)<;>(refine Zo rfl fun w9 M9 N9 DQ back=>?_)<;>(refine ZW 303 106 107 Zn fun h107 ho107=>?_;have q107:En.one (PV.val h107)=true:=ho107)<;>refine Zl (back _ (nrm ?_))<;>(refine Zr 13 kR ?_)<;>(refine Zo rfl fun w9 M9 N9 DQ back=>?_)<;>(refine ZW 304 111 112 Zn fun h112 ho112=>?_;have q112:En.one (PV.val h112)=true:=ho112)<;>refine Zl (back _ (nrm ?_))<;>refine xE 14 11 rfl Za ?_<;>refine xE 15 113 rfl (Zd 10 Yp) ?_));rotate_right;(focus ((refine Zo rfl fun w9 M9 N9 DQ back=>?_)<;>(refine ZW 303 106 107 Zn fun h107 ho107=>?_;have q107:En.one (PV.val h107)=true:=ho107)<;>refine Zl (back _ (nrm ?_))<;>(refine Zr 12 kR ?_)<;>(refine Zo rfl fun w9 M9 N9 DQ back=>?_)<;>refine ZO (kk:=1) 111 Zn fun h111 ho111=>?_<;>refine Zl (back _ (nrm ?_))<;>(refine Zr 13 kR ?_)<;>(refine Zo rfl fun w9 M9 N9 DQ back=>?_)<;>(refine ZW 304 111 112 Zn fun h112 ho112=>?_;have q112:En.one (PV.val h112)=true:=ho112)<;>refine Zl (back _ (nrm ?_))<;>refine xE 14 11 rfl Za ?_<;>refine xE 15 113 rfl (Zd 10 Yp) ?_))))))));rotate_right;(focus ((refine Zo rfl fun w9 M9 N9 DQ back=>?_)<;>refine ZW 305 101 102 YQ fun h102 ho102=>?_<;>refine Zl (back _ (nrm ?_))<;>(refine Y' 7 12 kR ?_ ?_;rotate_right;(focus ((refine Zo rfl fun w9 M9 N9 DQ back=>?_)<;>refine ZO (kk:=1) 111 Zn fun h111 ho111=>?_<;>refine Zl (back _ (nrm ?_))<;>(refine Zr 7 kR ?_)<;>(refine Zo rfl fun w9 M9 N9 DQ back=>?_)<;>refine ZO (kk:=1) 106 Zn fun h106 ho106=>?_<;>refine Zl (back _ (nrm ?_))<;>(refine Zr 8 kR ?_)<;>(refine Zo rfl fun w9 M9 N9 DQ back=>?_)<;>(refine ZW 303 106 107 Zn fun h107 ho107=>?_;have q107:En.one (PV.val h107)=true:=ho107)<;>refine Zl (back _ (nrm ?_))<;>(refine Zr 13 kR ?_)<;>(refine Zo rfl fun w9 M9 N9 DQ back=>?_)<;>(refine ZW 304 111 112 Zn fun h112 ho112=>?_;have q112:En.one (PV.val h112)=true:=ho112)<;>refine Zl (back _ (nrm ?_))<;>refine xE 14 11 rfl Za ?_<;>refine xE 15 113 rfl (Zd 10 Yp) ?_));rotate_right;(focus ((refine Zo rfl fun w9 M9 N9 DQ back=>?_)<;>refine ZO (kk:=1) 106 Zn fun h106 ho106=>?_<;>refine Zl (back _ (nrm ?_))<;>(refine Y' 8 12 kR ?_ ?_;rotate_right;(focus ((refine Zo rfl fun w9 M9 N9 DQ back=>?_)<;>refine ZO (kk:=1) 111 Zn fun h111 ho111=>?_<;>refine Zl (back _ (nrm ?_))<;>(refine Zr 8 kR ?_)<;>(refine Zo rfl fun w9 M9 N9 DQ back=>?_)<;>(refine ZW 303 106 107 Zn fun h107 ho107=>?_;have q107:En.one (PV.val h107)=true:=ho107)<;>refine Zl (back _ (nrm ?_))<;>(refine Zr 13 kR ?_)<;>(refine Zo rfl fun w9 M9 N9 DQ back=>?_)<;>(refine ZW 304 111 112 Zn fun h112 ho112=>?_;have q112:En.one (PV.val h112)=true:=ho112)<;>refine Zl (back _ (nrm ?_))<;>refine xE 14 11 rfl Za ?_<;>refine xE 15 113 rfl (Zd 10 Yp) ?_));rotate_right;(focus ((refine Zo rfl fun w9 M9 N9 DQ back=>?_)<;>(refine ZW 303 106 107 Zn fun h107 ho107=>?_;have q107:En.one (PV.val h107)=true:=ho107)<;>refine Zl (back _ (nrm ?_))<;>(refine Zr 12 kR ?_)<;>(refine Zo rfl fun w9 M9 N9 DQ back=>?_)<;>refine ZO (kk:=1) 111 Zn fun h111 ho111=>?_<;>refine Zl (back _ (nrm ?_))<;>(refine Zr 13 kR ?_)<;>(refine Zo rfl fun w9 M9 N9 DQ back=>?_)<;>(refine ZW 304 111 112 Zn fun h112 ho112=>?_;have q112:En.one (PV.val h112)=true:=ho112)<;>refine Zl (back _ (nrm ?_))<;>refine xE 14 11 rfl Za ?_<;>refine xE 15 113 rfl (Zd 10 Yp) ?_))))))))))))<;>(refine Zr 16 kR ?_)<;>(refine PW rfl rfl fun DQ back=>?_)<;>refine YL 10 Zy We ?_<;>refine Zl (back _ ?_)<;>(refine GK 17 kR rfl rfl fun DQ back=>?_)<;>refine xL 114 (Zd 10 TX) ?_<;>refine Zl (back _ ?_)<;>(refine GK 18 kR rfl rfl fun DQ back=>?_)<;>refine YL 10 Zy We ?_<;>refine Zl (back _ ?_)<;>refine Ht kR (nav ?_)<;>try dsimp only)<;>(
 first
  | (refine Kq (ZC (l:=102) 305 rfl rfl) fun _=>?_
     refine Kq (ZH (l:=305) rfl (Zgp _ o' y)) fun _=>?_;refine Kq (ZC (l:=107) 303 rfl rfl) fun _=>?_;refine Kq (ZH (l:=303) (p':= .own 3 1 (KJ (o'++[y])).length ((KJ (o'++[y])).map pInt)) rfl ((Kn _ (KJ o') i).trans (by rw [Zaa,hy2]))) fun _=>?_;refine Kq (ZC (l:=112) 304 rfl rfl) fun _=>?_;refine Kq (ZH (l:=304) (p':= .own 3 1 (GO (o'++[y])).length ((GO (o'++[y])).map pInt)) rfl ((Kn _ (GO o') s).trans (by rw [ZdC,hy2]))) fun _=>?_;exact WP ⟨(h107,h112,h102,o'++[y],o'.length),ho107,ho112,ho102,by dsimp only;rw [hy];exact Wd hnew2 (show o'.length<2000 by omega)⟩ ⟨rfl,rfl,rfl,rfl,rfl,rfl,rfl,rfl,rfl,rfl,rfl,rfl,rfl,rfl,rfl,rfl,rfl,rfl,trivial⟩ ⟨rfl,rfl,rfl,rfl,rfl,rfl,rfl,rfl,rfl,rfl,rfl,trivial⟩)
  |exact WP ⟨(r3',r4',r5',o',posK W8 o' (W8 y)),hr3',hr4',hr5',by dsimp only;rw [hid,hy];exact Wc hold2⟩ ⟨rfl,rfl,rfl,rfl,rfl,rfl,rfl,rfl,rfl,rfl,rfl,rfl,rfl,rfl,rfl,rfl,rfl,rfl,trivial⟩ ⟨rfl,rfl,rfl,rfl,rfl,rfl,rfl,rfl,rfl,rfl,rfl,trivial⟩)))
   · first |exact bN hb90|(
 (have hold:posK W8 o' (W8 y)<o'.length:=by simpa using hb90);have hold2:posK (Wq A B).key o' ((Wq A B).key ((Wq A B).step i x s))<o'.length:=by
  rw [←hy];show posK Prod.fst o' y.1<o'.length;rw [←hid];exact hold
 rw [UT hold];refine nav ?_
 first
  | (refine Kq (ZC (l:=102) 305 rfl rfl) fun _=>?_
     refine Kq (ZH (l:=305) rfl (Zgp _ o' y)) fun _=>?_;refine Kq (ZC (l:=107) 303 rfl rfl) fun _=>?_;refine Kq (ZH (l:=303) (p':= .own 3 1 (KJ (o'++[y])).length ((KJ (o'++[y])).map pInt)) rfl ((Kn _ (KJ o') i).trans (by rw [Zaa,hy2]))) fun _=>?_;refine Kq (ZC (l:=112) 304 rfl rfl) fun _=>?_;refine Kq (ZH (l:=304) (p':= .own 3 1 (GO (o'++[y])).length ((GO (o'++[y])).map pInt)) rfl ((Kn _ (GO o') s).trans (by rw [ZdC,hy2]))) fun _=>?_;exact WP ⟨(h107,h112,h102,o'++[y],o'.length),ho107,ho112,ho102,by dsimp only;rw [hy];exact Wd hnew2 (show o'.length<2000 by omega)⟩ ⟨rfl,rfl,rfl,rfl,rfl,rfl,rfl,rfl,rfl,rfl,rfl,rfl,rfl,rfl,rfl,rfl,rfl,rfl,trivial⟩ ⟨rfl,rfl,rfl,rfl,rfl,rfl,rfl,rfl,rfl,rfl,rfl,trivial⟩)
  |exact WP ⟨(r3',r4',r5',o',posK W8 o' (W8 y)),hr3',hr4',hr5',by dsimp only;rw [hid,hy];exact Wc hold2⟩ ⟨rfl,rfl,rfl,rfl,rfl,rfl,rfl,rfl,rfl,rfl,rfl,rfl,rfl,rfl,rfl,rfl,rfl,rfl,trivial⟩ ⟨rfl,rfl,rfl,rfl,rfl,rfl,rfl,rfl,rfl,rfl,rfl,trivial⟩)
 · rintro ⟨⟨g3,g4,g5,o2,n2⟩,w3,w4,w5,hvis⟩;dsimp only at w3 w4 w5 hvis ⊢;refine Ze ?_;(refine xL 115 Zb (xL 116 Zb (xL 117 Zb (xL 118 (Yh 54 Zp) ?_)))<;>refine YL 54 Zg Wp ?_<;>refine Zi ?_)
   (refine xL 119 ZG (xL 57 Zb ?_)<;>refine Zc ?_)
   rw [show s*1=r.length*1 by omega,O0 _ oM];refine Zm (
    ⟨(s+1,g3,g4,g5,o2,r++[n2]),Srch.row_snoc hW hvis,(by dsimp only;omega),w3,w4,w5⟩
    ) (by dsimp only;omega) ⟨rfl,rfl,rfl,rfl,rfl,rfl,rfl,rfl,rfl,rfl,rfl,rfl,rfl,rfl,rfl,rfl,trivial⟩ ⟨rfl,rfl,rfl,rfl,rfl,rfl,rfl,rfl,rfl,rfl,rfl,trivial⟩)
 · first|exact bN hb58|(
 have hse:s=A.syms.toNat:=oM;subst hse;have hU2:=Srch.upto_snoc hU hx hW;have htk:o'.take (i+1)=(o.take i)++[x]:=by
  rw [ZR hx'];obtain ⟨e,rfl⟩:=hpr;rw [Uc hi]
 (have f1:((List.range A.n.toNat).map fun s=>ZM (Gz A (s:Nat)))[x.1.1*1]? =some (ZM (Gz A (x.1.1:Nat))):=by rw [Xq,G7 hx1]);(have f2:((List.range B.n.toNat).map fun s=>ZM (Gz B (s:Nat)))[x.1.2*1]? =some (ZM (Gz B (x.1.2:Nat))):=by rw [Xq,G7 hx2]);refine nav ?_;refine Zq (En.freeze (l:=54) (t:=16) rfl rfl) fun _=>?_;rw [ζH _ _ _ hrl];(refine ZZ (fun i=>([29,30,31,32]:List Nat).elem i) [10] kR ?_<;>refine xDT 0 120 rfl (Zd 10 JV) ?_<;>refine xDT 1 121 rfl (Zd 10 W3) ?_<;>(refine yDT 2 122 rfl (Zk 10 Yy) fun v122 h=>?_;cases h)<;>refine xDT 3 123 rfl Zb ?_<;>refine xDT 6 126 rfl (Zd 10 JV) ?_<;>refine xDT 7 127 rfl (Zd 10 Kv) ?_<;>(refine yDT 8 128 rfl (Zk 10 YJ) fun v128 h=>?_;cases h)<;>refine xDT 9 129 rfl Zb ?_<;>refine xDT 10 130 rfl Zb ?_<;>refine xDT 11 131 rfl RR ?_<;>refine xDT 12 132 rfl (Js GL) ?_<;>(refine yDT 13 133 rfl (Z9 YJ) fun v133 h=>?_;cases h)<;>refine xDT 14 134 rfl Zb ?_<;>refine xDT 15 135 rfl (ZI Yx) ?_<;>(refine yDT 16 136 rfl (Z9 Wa) fun v136 h=>?_;cases h)<;>refine xDT 17 137 rfl Zb ?_<;>refine xDT 18 138 rfl RR ?_<;>refine xDT 19 139 rfl (Js GL) ?_<;>(refine yDT 20 140 rfl (Z9 YJ) fun v140 h=>?_;cases h)<;>refine xDT 21 141 rfl Zb ?_<;>refine xDT 22 142 rfl (ZI Yx) ?_<;>(refine yDT 23 143 rfl (Z9 Wa) fun v143 h=>?_;cases h)<;>(refine Zr 4 kR ?_)<;>(refine Zo rfl fun w9 M9 N9 DQ back=>?_)<;>refine ZO (kk:=1) 124 YT fun h124 ho124=>?_<;>refine Zl (back _ (nrm ?_))<;>(refine Zr 5 kR ?_)<;>(refine Zo rfl fun w9 M9 N9 DQ back=>?_)<;>(refine ZW 301 124 125 YT fun h125 ho125=>?_;have q125:En.one (PV.val h125)=true:=ho125)<;>refine Zl (back _ (nrm ?_))<;>refine xDT 27 147 rfl (Zd 10 JV) ?_<;>refine xDT 28 148 rfl (Zd 10 W3) ?_<;>(refine Zr 24 kR ?_)<;>(refine WO (d:=144) rfl (cA call213 (Zfo op (Gz A (x.1.1:Nat)) (Gz B (x.1.2:Nat)))) fun v144 h=>?_;cases h)<;>(refine Zr 25 kR ?_)<;>(refine Zo rfl fun w9 M9 N9 DQ back=>?_)<;>refine ZO (kk:=1) 145 Wg fun h145 ho145=>?_<;>refine Zl (back _ (nrm ?_))<;>(refine Zr 26 kR ?_)<;>(refine Zo rfl fun w9 M9 N9 DQ back=>?_)<;>(refine ZW 302 145 146 Wg fun h146 ho146=>?_;have q146:En.one (PV.val h146)=true:=ho146)<;>refine Zl (back _ (nrm ?_))<;>(refine Zr 29 kR ?_)<;>(refine PW rfl rfl fun DQ back=>?_)<;>refine YL 10 Yy TR ?_<;>refine Zl (back _ ?_)<;>(refine GK 30 kR rfl rfl fun DQ back=>?_)<;>refine xL 149 (Zd 10 JV) ?_<;>refine Zl (back _ ?_)<;>(refine GK 31 kR rfl rfl fun DQ back=>?_)<;>refine xL 150 (Zd 10 Kv) ?_<;>refine Zl (back _ ?_)<;>(refine GK 32 kR rfl rfl fun DQ back=>?_)<;>refine YL 10 YJ TS ?_<;>refine Zl (back _ ?_)<;>refine Ht kR (nav ?_)<;>try dsimp only)
 refine Zq (ZC (l:=125) 301 rfl rfl) fun _=>?_;refine Zq (ZC (l:=146) 302 rfl rfl) fun _=>?_;refine Zq (ZH (l:=301) rfl (Rl _ rows r)) fun _=>?_;refine Zq (ZH (l:=302) rfl (TT _ ((o.take i).map (WT A B op)) (WT A B op x))) fun _=>?_;rw [show ((o.take i).map (WT A B op))++[WT A B op x]=(o'.take (i+1)).map (WT A B op) by rw [htk,Xu];rfl];(refine Zv ?_<;>refine xL 40 Zb (xL 41 ZG (xL 13 Za ?_))<;>refine Zc ?_)
 refine Zm (
  ⟨(i+1,h125,h146,r3',r4',r5',o',rows++[r]),hU2,(by dsimp only;omega),ho125,ho146,hr3',hr4',hr5'⟩
  ) (by dsimp only;omega) ⟨rfl,rfl,rfl,rfl,rfl,rfl,rfl,rfl,rfl,rfl,rfl,trivial⟩ ⟨rfl,rfl,rfl,rfl,rfl,rfl,rfl,rfl,rfl,rfl,trivial⟩))
 · first|exact bN hb39|(
 have hio:i=o.length:=oM;subst hio;refine nav ?_;refine Zq (Z6 (l:=10) (l':=301) (j:=1) rfl rfl rfl rfl) fun _=>?_;refine Zq (Z6 (l:=10) (l':=302) (j:=2) rfl rfl rfl rfl) fun _=>?_;refine Zq (Z6 (l:=10) (l':=303) (j:=3) rfl rfl rfl rfl) fun _=>?_;refine Zq (Z6 (l:=10) (l':=304) (j:=4) rfl rfl rfl rfl) fun _=>?_;rw [LI _ _ _ rfl,JS _ _ _ rfl,ZS _ _ _ rfl,ZS _ _ _ rfl];(refine Zv ?_<;>(refine yL 151 (Zu 10 YP) fun v151 h=>?_;cases h)<;>refine ZE 6 YP ?_<;>refine xL 7 Za ?_<;>refine Zc ?_)
 refine Z5 (k:=5) 6 kR (results169) rfl rfl rfl (Xa rfl) dC rfl (.inl ⟨(o,rows),Srch.all_some hU (Xg _) (show o.length≤(Wq A B).cap from hcap),?_⟩);unfold SX;dsimp only;rw [Vy,hsN];rfl)
theorem Zbw (l:List Bool):AF prog 170 [.sl l.length (l.map ZM),ZM true] (· =pInt (idx (fun x=>x==true) l)):=by
 refine AF.of_body 19 func170 rfl ntmps170 (Xa rfl) ?_
 intro w0 M0 vs hl hv
 obtain ⟨v0,v1,rfl⟩:=YI hl
 obtain rfl:=hv 1 _ _ rfl rfl
 clear hl hv
 refine YZ 0 rfl fun hlen=>?_
 refine Ze ?_
 (refine xL 4 Za ?_<;>refine Zi ?_)
 (refine xL 6 Zb (xL 7 (ZT Yx) (xL 8 Zb ?_))<;>refine Zc ?_)
 refine ZD (ι:={k:Nat//k≤l.length∧∀i y,i<k→l[i]? =some y→(y==true)=false}) (fun k=>⟨[(0,_,_),(1,_,_),(7,_,_),(8, .int .i64 k.1,pInt k.1)],[]⟩) (fun k=>l.length-k.1) ⟨0,oM,oM⟩ (fun a w H=>H.weaken ⟨rfl,rfl,rfl,rfl,trivial⟩ trivial) ?_
 rintro ⟨k,hk,hp⟩
 dsimp only
 refine Ze ?_
 (refine xL 9 ZP ?_<;>refine Zc ?_)
 refine cX ?_ ?_<;>intro hb9
 · first |exact bN hb9|(
 obtain ⟨x,hx⟩:=Zt (show k<l.length by omega);have e1:=Z7 (f:=ZM) hx;refine Ze ?_;(refine xL 10 Zb (xL 5 Za ?_)<;>refine Zi ?_)
 (refine xL 11 Zb (xL 12 Zb (xL 13 Zb (xL 14 (ZI Yx) ?_)))<;>(refine yL 15 (Z9 Wa) fun v15 h=>?_;cases h)<;>refine xL 16 (ZiG underlying4) ?_<;>refine Zc ?_)
 refine cX ?_ ?_<;>intro hb16
 · first|exact bN hb16|(
 (have hx1:(x==true)=true:=by cases x<;>simp_all);refine Ze ?_;(refine xL 17 Zb (xL 4 Za ?_)<;>refine Zc ?_)
 refine Zz (results170) rfl ?_;rw [GW hp hx hx1])
 · first|exact bN hb16|(
 (have hx1:(x==true)=false:=by cases x<;>simp_all);refine Ze ?_;(refine xL 18 ZG (xL 8 Zb ?_)<;>refine Zc ?_)
 refine Zm (
  ⟨k+1,oM,fun i y hi hy=>by
   by_cases e:i=k
   · subst e;rw [hx] at hy;cases hy;exact hx1
   · exact hp i y oM hy⟩
  ) (by dsimp only;omega) ⟨rfl,rfl,rfl,rfl,trivial⟩ trivial))
 · first|exact bN hb9|(
 refine Ze ?_;(refine xL 4 Za ?_<;>refine Zc ?_)
 refine Zz (results170) rfl ?_;rw [GX fun i y hi hy=>hp i y oM hy])
theorem ZpA:Zo7 prog 171:=fun blk cap zs w hH _ hsz=>(Tryz.slices_Reverse_int blk 0 cap zs w hH oM).mono fun e w' ⟨h1,n,h2⟩=>⟨h1,n,#[],by rw [h2];simp [Go.Sort.grow];rfl⟩
theorem Zph:H5 prog 171:=fun p cap w=>Tryz.slices_Reverse_int_empty p cap w
theorem ZmK {A B:Aut} {op:Int} {q:List PrS×List (List Nat)} (h:idx (fun x=>x==true) (q.1.map (WT A B op))= -1):TQ A B op q=(true,[]):=by
 rw [Zpf] at h
 unfold TQ
 cases h1:(q.1.map (WT A B op)).idxOf? true with
 |none=>rfl
 | some i=>
   rw [h1] at h;have h':((i:Nat):Int)= -1:=h;omega
theorem ZkB {A B:Aut} {op:Int} {q:List PrS×List (List Nat)} {i:Nat} (h:idx (fun x=>x==true) (q.1.map (WT A B op))=(i:Int)):TQ A B op q=(false,Oj (q.1.map (·.2)) i):=by
 rw [Zpf] at h
 unfold TQ
 cases h1:(q.1.map (WT A B op)).idxOf? true with
 | none=>
   rw [h1] at h;have h':(-1:Int)=((i:Nat):Int):=h;omega
 | some j=>
   rw [h1] at h;dsimp only at h ⊢;rw [show j=i by omega];rfl
theorem ZhY {A B:Aut} {op:Int} (o:List PrS) {v:Int} (h:idx (fun x=>x==true) (o.map (WT A B op))=v):v= -1∨∃i:Nat,v=(i:Int)∧i<o.length:=by
 rcases ZaS (p:=fun x=>x==true) (l:=o.map (WT A B op)) with ⟨h1,_⟩|⟨i,x,h1,h2,_⟩
 · exact .inl (by rw [←h,h1])
 · exact .inr ⟨i,by rw [←h,h1],by have:=Zf h2;rwa [Xe] at this⟩
theorem ZkC (A B:Aut) (op:Int) (o:List PrS) (rows:List (List Nat)) (hu:(Wq A B).upto ((0,0),(-1,-1)) 2000=some (o,rows)) (h0:o[0]? =some ((0,0),(-1,-1))) (hcap:o.length≤2000):AF prog 122 [SX A B op (o,rows)] (· = .tup [pInts (TQ A B op (o,rows)).2,ZM (!(TQ A B op (o,rows)).1)]):=by
 obtain ⟨v,hv⟩:∃v,idx (fun x=>x==true) (o.map (WT A B op))=v:=⟨_,rfl⟩
 have hix:=Zbw (o.map (WT A B op))
 rw [hv] at hix
 have hvc:=ZhY o hv
 have hbk:=ζX hu h0
 refine AF.of_body 34 func122 rfl ntmps122 (Xa rfl) ?_
 intro w0 M0 vs hl hv
 obtain ⟨v0,rfl⟩:=Wl hl
 clear hl hv
 refine Ze ?_
 (refine ZB 1 5 fun h1=>?_<;>refine xL 2 Za (xL 3 Za ?_)<;>refine Zi ?_)
 (refine xL 6 (Zd 1 JV) (xL 7 (Zd 1 Kv) ?_)<;>(refine yL 8 (Zk 1 YJ) fun v8 h=>?_;cases h)<;>(refine cS 9 (cA call170 (hix)) fun v9 h=>?_;cases h)<;>refine xL 4 Za ?_<;>refine Zi ?_)
 (refine xL 10 Zb (xL 11 ZP ?_)<;>refine Zc ?_)
 refine cX ?_ ?_<;>intro hb11
 · first|exact bN hb11|(
 have hv1:v= -1:=oM;subst hv1;have hcr:=ZmK (q:=(o,rows)) hv;refine Ze ?_;(refine xL 2 Za (xL 3 Za ?_)<;>refine Zc ?_)
 refine Y3 (Ks (t:=2) rfl) fun _=>?_;refine Wb (results122) rfl rfl ?_;rw [hcr];rfl)
 · first |exact bN hb11|(
 obtain ⟨i0,rfl,hi0⟩:∃i:Nat,v=(i:Int)∧i<o.length:=by
  rcases hvc with h|h
  · omega
  · exact h
 have hcr:=ZkB (q:=(o,rows)) hv;dsimp only at hcr;refine Ze ?_;(refine xL 5 Za ?_<;>refine Zc ?_)
 refine Zq (KB 200 3 1 rfl) fun _=>?_;refine ZD (ι:={k:Nat×List Int×Value//Oj (o.map (·.2)) i0=Oj (o.map (·.2)) k.1++k.2.1.reverse∧k.1<o.length∧k.2.1.length+k.1≤i0∧k.2.2.oneCell'=true}) (fun k=>⟨[(1,_,_),(2,_,_),(3,_,_),(4, .int .i64 k.1.1,pInt k.1.1),(5,k.1.2.2, .val k.1.2.2)],[(1,_,_),(200,k.1.2.2, .own 3 1 k.1.2.1.length (k.1.2.1.map pInt))]⟩) (fun k=>k.1.1) ⟨(i0,[], .slice none 0 0),sM,hi0,sM,rfl⟩ (fun a w H=>H.weaken ⟨rfl,rfl,rfl,rfl,rfl,trivial⟩ ⟨rfl,rfl,trivial⟩) ?_;rintro ⟨⟨cur,out,r⟩,hw,hc,hl,hr⟩;dsimp only;dsimp only at hw hc hl hr;obtain ⟨⟨pq,f,s⟩,hx⟩:=Zt hc;(have hpf:(KJ o).length=o.length:=by unfold KJ;rw [Xe]);(have hps:(GO o).length=o.length:=by unfold GO;rw [Xe]);have e1:((KJ o).map pInt)[cur*1]? =some (pInt f):=Z7 (by unfold KJ;rw [Xh,hx];rfl);have e2:((GO o).map pInt)[cur*1]? =some (pInt s):=Z7 (by unfold GO;rw [Xh,hx];rfl);(have e3:(o.map (·.2))[cur]? =some (f,s):=by rw [Xh,hx];rfl);have hfc:=hbk cur (f,s) e3;refine Ze ?_;(refine xL 12 (Zd 1 Yp) ?_<;>(refine yL 13 (Zk 1 Zy) fun v13 h=>?_;cases h)<;>refine xL 14 Zb (xL 15 (ZI Zp) ?_)<;>(refine yL 16 (Z9 Zg) fun v16 h=>?_;cases h)<;>refine xL 17 Wi ?_<;>refine Zc ?_)
 refine cX ?_ ?_<;>intro hb17
 · first|exact bN hb17|(
 obtain ⟨j,rfl⟩:∃j:Nat,f=(j:Int):=⟨f.toNat,oM⟩;dsimp only at hfc;have hwn:=Zgf hbk e3 (by dsimp only;omega);dsimp only at hwn;rw [XS] at hwn;refine Ze ?_;(refine xL 23 Zb (xL 24 (Zd 1 TX) ?_)<;>(refine yL 25 (Zk 1 Zy) fun v25 h=>?_;cases h)<;>refine xL 26 Zb (xL 27 (ZI Zp) ?_)<;>(refine yL 28 (Z9 Zg) fun v28 h=>?_;cases h)<;>refine ZO (kk:=1) 29 Zn fun h29 ho29=>?_<;>refine ZW 200 29 30 Zn fun h30 ho30=>?_<;>refine xL 5 Za ?_<;>refine Zc ?_)
 refine Zq (ZC (l:=30) 200 rfl rfl) fun _=>?_;refine Zq (ZH (l:=200) rfl (Kn _ out s)) fun _=>?_;(refine Zv ?_<;>refine xL 18 (Zd 1 Yp) ?_<;>(refine yL 19 (Zk 1 Zy) fun v19 h=>?_;cases h)<;>refine xL 20 Zb (xL 21 (ZI Zp) ?_)<;>(refine yL 22 (Z9 Zg) fun v22 h=>?_;cases h)<;>refine xL 4 Za ?_<;>refine Zc ?_)
 refine Zm (
  ⟨(j,out++[s],h30),by dsimp only;rw [hw,hwn,List.reverse_append];simp,by dsimp only;omega,by dsimp only;rw [Xb,Xx];omega,ho30⟩
  ) (by dsimp only;omega) ⟨rfl,rfl,rfl,rfl,rfl,trivial⟩ ⟨rfl,rfl,trivial⟩)
 · first|exact bN hb17|(
 have hwn:=Zds e3 (by dsimp only;omega);rw [hwn,X3] at hw;refine Ze ?_;(refine xL 31 Zb ?_<;>(rcases X7 out.length with h0'|h0'<;>first|(refine Zs (ZH (l:=200) (p':= .own 3 1 0 []) rfl (by rw [XR h0'];rfl)) fun _=>?_;refine H6 200 Zph (call171) ?_;refine Zs (ZH (l:=200) (p':= .own 3 1 out.length (out.reverse.map pInt)) rfl (by rw [XR h0'];rfl)) fun _=>?_)|(refine Zn3 200 ZpA (call171) ?_ h0'))<;>refine Zc ?_)<;>(
 refine Zq (En.freeze (l:=200) (t:=5) rfl rfl) fun _=>?_;rw [show share (PV.own 3 1 out.length (out.reverse.map pInt))=pInts out.reverse by rw [←List.length_reverse];exact ZS _ _ _ rfl];(refine Zv ?_<;>refine xL 33 Zb (xL 2 Za (xL 3 Za ?_))<;>refine Zc ?_)
 refine Wb (results122) rfl rfl ?_;rw [hcr,hw];rfl)))
theorem Zgq {a b:Aut} (h:Z4 a=false):WK a b=1:=by unfold WK;rw [UT (.inl h)]
theorem Zgr {a b:Aut} (h:Z4 b=false):WK a b=1:=by unfold WK;rw [UT (.inr h)]
theorem ZkD {a b:Aut} (h1:Z4 a=true) (h2:Z4 b=true) (h:¬a.syms=b.syms):WK a b=29:=by unfold WK;rw [US (by rw [h1,h2];simp),UT h]
theorem ZkE {a b:Aut} (h1:Z4 a=true) (h2:Z4 b=true) (h:a.syms=b.syms):WK a b=0:=by unfold WK;rw [US (by rw [h1,h2];simp),US (fun e=>e h)]
theorem Cg {a b:Aut} (h:WK a b=0):Z4 a=true∧Z4 b=true∧a.syms=b.syms:=by
 unfold WK at h
 split at h
 · omega
 · rename_i h1;split at h
   · omega
   · rename_i h2;refine ⟨?_,?_,?_⟩
     · cases e:Z4 a with
       |true=>rfl
       |false=>exact UU (.inl e) h1
     · cases e:Z4 b with
       |true=>rfl
       |false=>exact UU (.inr e) h1
     · exact Decidable.not_not.1 h2
def pPZ:PV:= .agg [pInt 0, .val (.slice none 0 0), .val (.slice none 0 0), .val (.slice none 0 0), .val (.slice none 0 0)]
def Zoq (a b:Aut) (op:Int):PV:=match Tj a b with
 | .ok (A,B,q)=> .tup [SX A B op q,pInt 0]
 | .error e=> .tup [pPZ,pInt e]
theorem ZmL (a b:Aut) (ha:Z4 a=false) (hb:Z4 b=false) (hs:True):AF prog 120 [ZN a,ZN b] (· =pInt 1):=by
 have hva:=Wo a
 have hvb:=Wo b
 rw [ha] at hva
 rw [hb] at hvb
 refine AF.of_body 20 func120 rfl ntmps120 (Xa rfl) ?_
 intro w0 M0 vs hl hv
 obtain ⟨v0,v1,rfl⟩:=YI hl
 clear hl hv
 refine Ze ?_
 (refine ZB 2 5 fun h2=>?_<;>refine ZB 3 5 fun h3=>?_<;>refine xL 4 Za ?_<;>refine Zi ?_)
 ((refine yL 6 (Zu 2 Zh) fun v6 h=>?_;cases h)<;>(refine cS 7 (cA call107 (hva)) fun v7 h=>?_;cases h)<;>refine xL 8 Ya (xL 9 Zb ?_)<;>refine kL 10 ?_<;>refine kL 11 ?_<;>refine kL 12 ?_<;>refine xL 13 ZF (xL 5 Za ?_)<;>refine Zc ?_)<;>(
 refine cX ?_ ?_<;>intro hb5
 · first|exact bN hb5|(
 refine Ze ?_;(refine xL 4 Za ?_<;>refine Zc ?_)
 exact Zz (results120) rfl rfl)
 · first
   |exact bN hb5
   |skip)
theorem ZmM (a b:Aut) (ha:Z4 a=false) (hb:Z4 b=true) (hs:True):AF prog 120 [ZN a,ZN b] (· =pInt 1):=by
 have hva:=Wo a
 have hvb:=Wo b
 rw [ha] at hva
 rw [hb] at hvb
 refine AF.of_body 20 func120 rfl ntmps120 (Xa rfl) ?_
 intro w0 M0 vs hl hv
 obtain ⟨v0,v1,rfl⟩:=YI hl
 clear hl hv
 refine Ze ?_
 (refine ZB 2 5 fun h2=>?_<;>refine ZB 3 5 fun h3=>?_<;>refine xL 4 Za ?_<;>refine Zi ?_)
 ((refine yL 6 (Zu 2 Zh) fun v6 h=>?_;cases h)<;>(refine cS 7 (cA call107 (hva)) fun v7 h=>?_;cases h)<;>refine xL 8 Ya (xL 9 Zb ?_)<;>refine kL 10 ?_<;>refine kL 11 ?_<;>refine kL 12 ?_<;>refine xL 13 ZF (xL 5 Za ?_)<;>refine Zc ?_)<;>(
 refine cX ?_ ?_<;>intro hb5
 · first|exact bN hb5|(
 refine Ze ?_;(refine xL 4 Za ?_<;>refine Zc ?_)
 exact Zz (results120) rfl rfl)
 · first
   |exact bN hb5
   |skip)
theorem ZmN (a b:Aut) (ha:Z4 a=true) (hb:Z4 b=false) (hs:True):AF prog 120 [ZN a,ZN b] (· =pInt 1):=by
 have hva:=Wo a
 have hvb:=Wo b
 rw [ha] at hva
 rw [hb] at hvb
 refine AF.of_body 20 func120 rfl ntmps120 (Xa rfl) ?_
 intro w0 M0 vs hl hv
 obtain ⟨v0,v1,rfl⟩:=YI hl
 clear hl hv
 refine Ze ?_
 (refine ZB 2 5 fun h2=>?_<;>refine ZB 3 5 fun h3=>?_<;>refine xL 4 Za ?_<;>refine Zi ?_)
 ((refine yL 6 (Zu 2 Zh) fun v6 h=>?_;cases h)<;>(refine cS 7 (cA call107 (hva)) fun v7 h=>?_;cases h)<;>refine xL 8 Ya (xL 9 Zb ?_)<;>(refine yL 10 (Zu 3 Zh) fun v10 h=>?_;cases h)<;>(refine cS 11 (cA call107 (hvb)) fun v11 h=>?_;cases h)<;>refine xL 12 Ya (xL 13 ZF (xL 5 Za ?_))<;>refine Zc ?_)<;>(
 refine cX ?_ ?_<;>intro hb5
 · first|exact bN hb5|(
 refine Ze ?_;(refine xL 4 Za ?_<;>refine Zc ?_)
 exact Zz (results120) rfl rfl)
 · first
   |exact bN hb5
   |skip)
theorem ZmO (a b:Aut) (ha:Z4 a=true) (hb:Z4 b=true) (hs:¬a.syms=b.syms):AF prog 120 [ZN a,ZN b] (· =pInt 29):=by
 have hva:=Wo a
 have hvb:=Wo b
 rw [ha] at hva
 rw [hb] at hvb
 refine AF.of_body 20 func120 rfl ntmps120 (Xa rfl) ?_
 intro w0 M0 vs hl hv
 obtain ⟨v0,v1,rfl⟩:=YI hl
 clear hl hv
 refine Ze ?_
 (refine ZB 2 5 fun h2=>?_<;>refine ZB 3 5 fun h3=>?_<;>refine xL 4 Za ?_<;>refine Zi ?_)
 ((refine yL 6 (Zu 2 Zh) fun v6 h=>?_;cases h)<;>(refine cS 7 (cA call107 (hva)) fun v7 h=>?_;cases h)<;>refine xL 8 Ya (xL 9 Zb ?_)<;>(refine yL 10 (Zu 3 Zh) fun v10 h=>?_;cases h)<;>(refine cS 11 (cA call107 (hvb)) fun v11 h=>?_;cases h)<;>refine xL 12 Ya (xL 13 ZF (xL 5 Za ?_))<;>refine Zc ?_)<;>(
 refine cX ?_ ?_<;>intro hb5
 · first|exact bN hb5|(
 refine Ze ?_;(refine xL 4 Za ?_<;>refine Zc ?_)
 exact Zz (results120) rfl rfl)
 · first|exact bN hb5|(
 refine Ze ?_;(refine xL 15 (Zd 2 Z3) ?_<;>(refine yL 16 (Zk 2 Zg) fun v16 h=>?_;cases h)<;>refine xL 17 (Zd 3 Z3) ?_<;>(refine yL 18 (Zk 3 Zg) fun v18 h=>?_;cases h)<;>refine xL 19 Yv (xL 14 Za ?_)<;>refine Zc ?_)
 refine cX ?_ ?_<;>intro hb14
 · first|exact bN hb14|(
 refine Ze ?_;(refine xL 4 Za ?_<;>refine Zc ?_)
 first|exact Zz (results120) rfl rfl|exact UU hs (by simpa using hb14))
 · first|exact bN hb14|(
 refine Ze ?_;(refine xL 4 Za ?_<;>refine Zc ?_)
 first|exact Zz (results120) rfl rfl|exact UU (by simpa using hb14) hs)))
theorem ZmP (a b:Aut) (ha:Z4 a=true) (hb:Z4 b=true) (hs:a.syms=b.syms):AF prog 120 [ZN a,ZN b] (· =pInt 0):=by
 have hva:=Wo a
 have hvb:=Wo b
 rw [ha] at hva
 rw [hb] at hvb
 refine AF.of_body 20 func120 rfl ntmps120 (Xa rfl) ?_
 intro w0 M0 vs hl hv
 obtain ⟨v0,v1,rfl⟩:=YI hl
 clear hl hv
 refine Ze ?_
 (refine ZB 2 5 fun h2=>?_<;>refine ZB 3 5 fun h3=>?_<;>refine xL 4 Za ?_<;>refine Zi ?_)
 ((refine yL 6 (Zu 2 Zh) fun v6 h=>?_;cases h)<;>(refine cS 7 (cA call107 (hva)) fun v7 h=>?_;cases h)<;>refine xL 8 Ya (xL 9 Zb ?_)<;>(refine yL 10 (Zu 3 Zh) fun v10 h=>?_;cases h)<;>(refine cS 11 (cA call107 (hvb)) fun v11 h=>?_;cases h)<;>refine xL 12 Ya (xL 13 ZF (xL 5 Za ?_))<;>refine Zc ?_)<;>(
 refine cX ?_ ?_<;>intro hb5
 · first|exact bN hb5|(
 refine Ze ?_;(refine xL 4 Za ?_<;>refine Zc ?_)
 exact Zz (results120) rfl rfl)
 · first|exact bN hb5|(
 refine Ze ?_;(refine xL 15 (Zd 2 Z3) ?_<;>(refine yL 16 (Zk 2 Zg) fun v16 h=>?_;cases h)<;>refine xL 17 (Zd 3 Z3) ?_<;>(refine yL 18 (Zk 3 Zg) fun v18 h=>?_;cases h)<;>refine xL 19 Yv (xL 14 Za ?_)<;>refine Zc ?_)
 refine cX ?_ ?_<;>intro hb14
 · first|exact bN hb14|(
 refine Ze ?_;(refine xL 4 Za ?_<;>refine Zc ?_)
 first|exact Zz (results120) rfl rfl|exact UU hs (by simpa using hb14))
 · first|exact bN hb14|(
 refine Ze ?_;(refine xL 4 Za ?_<;>refine Zc ?_)
 first|exact Zz (results120) rfl rfl|exact UU (by simpa using hb14) hs)))
theorem Pt (a b:Aut):AF prog 120 [ZN a,ZN b] (· =pInt (WK a b)):=by
 cases ha:Z4 a
 · rw [Zgq ha]
   cases hb:Z4 b
   · exact ZmL a b ha hb trivial
   · exact ZmM a b ha hb trivial
 · cases hb:Z4 b
   · rw [Zgr hb];exact ZmN a b ha hb trivial
   · by_cases hs:a.syms=b.syms
     · rw [ZkE ha hb hs];exact ZmP a b ha hb hs
     · rw [ZkD ha hb hs];exact ZmO a b ha hb hs
theorem ZkF (a b:Aut) (op:Int) {A:Aut} (ha:AF prog 132 [ZN a] (· = .tup [ZN A,pInt 0])) (hb:AF prog 132 [ZN b] (· = .tup [KL,pInt 13])):AF prog 121 [ZN a,ZN b,pInt op] (· = .tup [pPZ,pInt 13]):=by
 refine AF.of_body 42 func121 rfl ntmps121 (Xa rfl) ?_
 intro w0 M0 vs hl hv
 obtain ⟨v0,v1,v2,rfl⟩:=LX hl
 obtain rfl:=hv 2 _ _ rfl rfl
 clear hl hv
 refine Ze ?_
 (refine ZB 3 5 fun h3=>?_<;>refine ZB 4 5 fun h4=>?_<;>refine Zw [(.int .i64 0),(.slice none 0 0),(.slice none 0 0),(.slice none 0 0),(.slice none 0 0)] 5 6 WN fun h6=>?_<;>refine xL 7 Za ?_<;>refine Zi ?_)
 ((refine yL 15 (Zu 3 Zh) fun v15 h=>?_;cases h)<;>(refine cP 16 (cA call132 (ha)) fun va16 vb16 hva16 h=>?_;cases h)<;>refine xL 14 Zb (xL 17 Zj (xL 18 Zj ?_))<;>refine Zw [(.int .i64 0),(.int .i64 0),(.slice none 0 0),(.slice none 0 0),(.slice none 0 0)] 5 8 ZJ fun h8=>?_<;>refine ZE 8 Zh ?_<;>refine xL 9 Za ?_<;>refine Zi ?_)
 ((refine yL 20 (Zu 4 Zh) fun v20 h=>?_;cases h)<;>(refine cP 21 (cA call132 (hb)) fun va21 vb21 hva21 h=>?_;cases h)<;>refine xL 19 Zb (xL 22 Zj (xL 23 Zj ?_))<;>refine Zw [(.int .i64 0),(.int .i64 0),(.slice none 0 0),(.slice none 0 0),(.slice none 0 0)] 5 10 ZJ fun h10=>?_<;>refine ZE 10 Zh ?_<;>refine xL 11 Za ?_<;>refine Zi ?_)
 (refine xL 24 Zb (xL 25 Yv (xL 26 Zb (xL 27 Zb (xL 28 Yv (xL 29 ZF ?_)))))<;>refine Zc ?_)<;>(
 refine cX ?_ ?_<;>intro hb29
 · refine Ze ?_;(refine xL 30 (PX Ot rfl) ?_<;>refine ZE 6 YP ?_<;>refine xL 7 Za ?_<;>refine Zc ?_)
   exact Z5 (k:=5) 6 kR (results121) rfl rfl rfl (Xa rfl) dC rfl rfl
 · first|omega|exact UU dC hb29|exact Bool.noConfusion hb29)
theorem ZkG (a b:Aut) (op:Int) {A:Aut} (ha:AF prog 132 [ZN a] (· = .tup [KL,pInt 13])) (hb:AF prog 132 [ZN b] (· = .tup [ZN A,pInt 0])):AF prog 121 [ZN a,ZN b,pInt op] (· = .tup [pPZ,pInt 13]):=by
 refine AF.of_body 42 func121 rfl ntmps121 (Xa rfl) ?_
 intro w0 M0 vs hl hv
 obtain ⟨v0,v1,v2,rfl⟩:=LX hl
 obtain rfl:=hv 2 _ _ rfl rfl
 clear hl hv
 refine Ze ?_
 (refine ZB 3 5 fun h3=>?_<;>refine ZB 4 5 fun h4=>?_<;>refine Zw [(.int .i64 0),(.slice none 0 0),(.slice none 0 0),(.slice none 0 0),(.slice none 0 0)] 5 6 WN fun h6=>?_<;>refine xL 7 Za ?_<;>refine Zi ?_)
 ((refine yL 15 (Zu 3 Zh) fun v15 h=>?_;cases h)<;>(refine cP 16 (cA call132 (ha)) fun va16 vb16 hva16 h=>?_;cases h)<;>refine xL 14 Zb (xL 17 Zj (xL 18 Zj ?_))<;>refine Zw [(.int .i64 0),(.int .i64 0),(.slice none 0 0),(.slice none 0 0),(.slice none 0 0)] 5 8 ZJ fun h8=>?_<;>refine ZE 8 Zh ?_<;>refine xL 9 Za ?_<;>refine Zi ?_)
 ((refine yL 20 (Zu 4 Zh) fun v20 h=>?_;cases h)<;>(refine cP 21 (cA call132 (hb)) fun va21 vb21 hva21 h=>?_;cases h)<;>refine xL 19 Zb (xL 22 Zj (xL 23 Zj ?_))<;>refine Zw [(.int .i64 0),(.int .i64 0),(.slice none 0 0),(.slice none 0 0),(.slice none 0 0)] 5 10 ZJ fun h10=>?_<;>refine ZE 10 Zh ?_<;>refine xL 11 Za ?_<;>refine Zi ?_)
 (refine xL 24 Zb (xL 25 Yv (xL 26 Zb ?_))<;>refine kL 27 ?_<;>refine kL 28 ?_<;>refine xL 29 ZF ?_<;>refine Zc ?_)<;>(
 refine cX ?_ ?_<;>intro hb29
 · refine Ze ?_;(refine xL 30 (PX Ot rfl) ?_<;>refine ZE 6 YP ?_<;>refine xL 7 Za ?_<;>refine Zc ?_)
   exact Z5 (k:=5) 6 kR (results121) rfl rfl rfl (Xa rfl) dC rfl rfl
 · first|omega|exact UU dC hb29|exact Bool.noConfusion hb29)
theorem ZkH (a b:Aut) (op:Int) (ha:AF prog 132 [ZN a] (· = .tup [KL,pInt 13])) (hb:AF prog 132 [ZN b] (· = .tup [KL,pInt 13])):AF prog 121 [ZN a,ZN b,pInt op] (· = .tup [pPZ,pInt 13]):=by
 refine AF.of_body 42 func121 rfl ntmps121 (Xa rfl) ?_
 intro w0 M0 vs hl hv
 obtain ⟨v0,v1,v2,rfl⟩:=LX hl
 obtain rfl:=hv 2 _ _ rfl rfl
 clear hl hv
 refine Ze ?_
 (refine ZB 3 5 fun h3=>?_<;>refine ZB 4 5 fun h4=>?_<;>refine Zw [(.int .i64 0),(.slice none 0 0),(.slice none 0 0),(.slice none 0 0),(.slice none 0 0)] 5 6 WN fun h6=>?_<;>refine xL 7 Za ?_<;>refine Zi ?_)
 ((refine yL 15 (Zu 3 Zh) fun v15 h=>?_;cases h)<;>(refine cP 16 (cA call132 (ha)) fun va16 vb16 hva16 h=>?_;cases h)<;>refine xL 14 Zb (xL 17 Zj (xL 18 Zj ?_))<;>refine Zw [(.int .i64 0),(.int .i64 0),(.slice none 0 0),(.slice none 0 0),(.slice none 0 0)] 5 8 ZJ fun h8=>?_<;>refine ZE 8 Zh ?_<;>refine xL 9 Za ?_<;>refine Zi ?_)
 ((refine yL 20 (Zu 4 Zh) fun v20 h=>?_;cases h)<;>(refine cP 21 (cA call132 (hb)) fun va21 vb21 hva21 h=>?_;cases h)<;>refine xL 19 Zb (xL 22 Zj (xL 23 Zj ?_))<;>refine Zw [(.int .i64 0),(.int .i64 0),(.slice none 0 0),(.slice none 0 0),(.slice none 0 0)] 5 10 ZJ fun h10=>?_<;>refine ZE 10 Zh ?_<;>refine xL 11 Za ?_<;>refine Zi ?_)
 (refine xL 24 Zb (xL 25 Yv (xL 26 Zb ?_))<;>refine kL 27 ?_<;>refine kL 28 ?_<;>refine xL 29 ZF ?_<;>refine Zc ?_)<;>(
 refine cX ?_ ?_<;>intro hb29
 · refine Ze ?_;(refine xL 30 (PX Ot rfl) ?_<;>refine ZE 6 YP ?_<;>refine xL 7 Za ?_<;>refine Zc ?_)
   exact Z5 (k:=5) 6 kR (results121) rfl rfl rfl (Xa rfl) dC rfl rfl
 · first|omega|exact UU dC hb29|exact Bool.noConfusion hb29)
theorem ZhZ (a b A B:Aut) (op:Int) (q:List PrS×List (List Nat)) (ha:AF prog 132 [ZN a] (· = .tup [ZN A,pInt 0])) (hb:AF prog 132 [ZN b] (· = .tup [ZN B,pInt 0])) (hp:AF prog 169 [ZN A,ZN B,pInt op] (· = .tup [SX A B op q,ZM true])):AF prog 121 [ZN a,ZN b,pInt op] (· = .tup [SX A B op q,pInt 0]):=by
 refine AF.of_body 42 func121 rfl ntmps121 (Xa rfl) ?_
 intro w0 M0 vs hl hv
 obtain ⟨v0,v1,v2,rfl⟩:=LX hl
 obtain rfl:=hv 2 _ _ rfl rfl
 clear hl hv
 refine Ze ?_
 (refine ZB 3 5 fun h3=>?_<;>refine ZB 4 5 fun h4=>?_<;>refine Zw [(.int .i64 0),(.slice none 0 0),(.slice none 0 0),(.slice none 0 0),(.slice none 0 0)] 5 6 WN fun h6=>?_<;>refine xL 7 Za ?_<;>refine Zi ?_)
 ((refine yL 15 (Zu 3 Zh) fun v15 h=>?_;cases h)<;>(refine cP 16 (cA call132 (ha)) fun va16 vb16 hva16 h=>?_;cases h)<;>refine xL 14 Zb (xL 17 Zj (xL 18 Zj ?_))<;>refine Zw [(.int .i64 0),(.int .i64 0),(.slice none 0 0),(.slice none 0 0),(.slice none 0 0)] 5 8 ZJ fun h8=>?_<;>refine ZE 8 Zh ?_<;>refine xL 9 Za ?_<;>refine Zi ?_)
 ((refine yL 20 (Zu 4 Zh) fun v20 h=>?_;cases h)<;>(refine cP 21 (cA call132 (hb)) fun va21 vb21 hva21 h=>?_;cases h)<;>refine xL 19 Zb (xL 22 Zj (xL 23 Zj ?_))<;>refine Zw [(.int .i64 0),(.int .i64 0),(.slice none 0 0),(.slice none 0 0),(.slice none 0 0)] 5 10 ZJ fun h10=>?_<;>refine ZE 10 Zh ?_<;>refine xL 11 Za ?_<;>refine Zi ?_)
 (refine xL 24 Zb (xL 25 Yv (xL 26 Zb (xL 27 Zb (xL 28 Yv (xL 29 ZF ?_)))))<;>refine Zc ?_)<;>(
 refine cX ?_ ?_<;>intro hb29
 · first|omega|exact UU rfl hb29|exact bN hb29
 · refine Ze ?_;((refine yL 32 (Zu 8 Zh) fun v32 h=>?_;cases h)<;>(refine yL 33 (Zu 10 Zh) fun v33 h=>?_;cases h)<;>refine xL 34 Zb ?_<;>(refine cP 35 (cA call169 (hp)) fun va35 vb35 hva35 h=>?_;cases h)<;>refine xL 31 Zb (xL 36 Zj (xL 37 Zj ?_))<;>refine Zw [(.int .i64 0),(.slice none 0 0),(.slice none 0 0),(.slice none 0 0),(.slice none 0 0)] 5 12 WN fun h12=>?_<;>refine ZE 12 YP ?_<;>refine xL 13 Za ?_<;>refine Zi ?_)
   (refine xL 38 Zb (xL 39 Ya ?_)<;>refine Zc ?_)
   refine cX ?_ ?_<;>intro hb39
   · first
     |exact bN hb39
     |skip
   · first|exact bN hb39|(
 refine Ze ?_;((refine yL 41 (Zu 12 YP) fun v41 h=>?_;cases h)<;>refine ZE 6 YP ?_<;>refine xL 7 Za ?_<;>refine Zc ?_)
 exact Z5 (k:=5) 6 kR (results121) rfl rfl rfl (Xa rfl) dC rfl rfl))
abbrev V5:={u:Value×Value×Value×Value×Value//En.one (PV.val u.1)=true∧En.one (PV.val u.2.1)=true∧En.one (PV.val u.2.2.1)=true∧En.one (PV.val u.2.2.2.1)=true∧En.one (PV.val u.2.2.2.2)=true}
theorem ZkI (a b A B:Aut) (op:Int) (ha:AF prog 132 [ZN a] (· = .tup [ZN A,pInt 0])) (hb:AF prog 132 [ZN b] (· = .tup [ZN B,pInt 0])) (hp:AF prog 169 [ZN A,ZN B,pInt op] (fun p=>∃i:V5,p= .tup [.agg [.val i.1.1, .val i.1.2.1, .val i.1.2.2.1, .val i.1.2.2.2.1, .val i.1.2.2.2.2],ZM false])):AF prog 121 [ZN a,ZN b,pInt op] (· = .tup [pPZ,pInt 13]):=by
 refine AF.of_body 42 func121 rfl ntmps121 (Xa rfl) ?_
 intro w0 M0 vs hl hv
 obtain ⟨v0,v1,v2,rfl⟩:=LX hl
 obtain rfl:=hv 2 _ _ rfl rfl
 clear hl hv
 refine Ze ?_
 (refine ZB 3 5 fun h3=>?_<;>refine ZB 4 5 fun h4=>?_<;>refine Zw [(.int .i64 0),(.slice none 0 0),(.slice none 0 0),(.slice none 0 0),(.slice none 0 0)] 5 6 WN fun h6=>?_<;>refine xL 7 Za ?_<;>refine Zi ?_)
 ((refine yL 15 (Zu 3 Zh) fun v15 h=>?_;cases h)<;>(refine cP 16 (cA call132 (ha)) fun va16 vb16 hva16 h=>?_;cases h)<;>refine xL 14 Zb (xL 17 Zj (xL 18 Zj ?_))<;>refine Zw [(.int .i64 0),(.int .i64 0),(.slice none 0 0),(.slice none 0 0),(.slice none 0 0)] 5 8 ZJ fun h8=>?_<;>refine ZE 8 Zh ?_<;>refine xL 9 Za ?_<;>refine Zi ?_)
 ((refine yL 20 (Zu 4 Zh) fun v20 h=>?_;cases h)<;>(refine cP 21 (cA call132 (hb)) fun va21 vb21 hva21 h=>?_;cases h)<;>refine xL 19 Zb (xL 22 Zj (xL 23 Zj ?_))<;>refine Zw [(.int .i64 0),(.int .i64 0),(.slice none 0 0),(.slice none 0 0),(.slice none 0 0)] 5 10 ZJ fun h10=>?_<;>refine ZE 10 Zh ?_<;>refine xL 11 Za ?_<;>refine Zi ?_)
 (refine xL 24 Zb (xL 25 Yv (xL 26 Zb (xL 27 Zb (xL 28 Yv (xL 29 ZF ?_)))))<;>refine Zc ?_)<;>(
 refine cX ?_ ?_<;>intro hb29
 · first|omega|exact UU rfl hb29|exact bN hb29
 · refine Ze ?_;((refine yL 32 (Zu 8 Zh) fun v32 h=>?_;cases h)<;>(refine yL 33 (Zu 10 Zh) fun v33 h=>?_;cases h)<;>refine xL 34 Zb ?_<;>(refine cPx 35 (cA call169 hp) (fun i35 v1 v2 hv1 hv2=>?_) (fun _=>rfl);cases hv2;obtain ⟨⟨u0,u1,u2,u3,u4⟩,n0,n1,n2,n3,n4⟩:=i35;dsimp only at n0 n1 n2 n3 n4)<;>refine xL 31 Zb (xL 36 Zj (xL 37 Zj ?_))<;>refine Zw [(.int .i64 0),(.slice none 0 0),(.slice none 0 0),(.slice none 0 0),(.slice none 0 0)] 5 12 WN fun h12=>?_<;>refine ZE 12 YP ?_<;>refine xL 13 Za ?_<;>refine Zi ?_)
   (refine xL 38 Zb (xL 39 Ya ?_)<;>refine Zc ?_)
   refine cX ?_ ?_<;>intro hb39
   · first|exact bN hb39|(
 refine Ze ?_;(refine xL 40 (PX Ot rfl) ?_<;>refine ZE 6 YP ?_<;>refine xL 7 Za ?_<;>refine Zc ?_)
 exact Z5 (k:=5) 6 kR (results121) rfl rfl rfl (Xa rfl) dC rfl rfl)
   · first
     |exact bN hb39
     |skip)
theorem ZmQ {x:Option Aut} {e:Int} (h:lim x= .error e):e=13:=by
 cases x with
 |some a=>cases h
 |none=>cases h;rfl
theorem Ch {a:Aut} {e:Int} (h:W5 a= .error e):e=13:=by
 unfold W5 at h
 split at h
 · exact ZmQ h
 · cases h;rfl
theorem ZmR (a b:Aut) (op:Int) (hf:WK a b=0):AF prog 121 [ZN a,ZN b,pInt op] (· =Zoq a b op):=by
 obtain ⟨h1,h2,h3⟩:=Cg hf
 have ha:=TU a (Jn h1)
 have hb:=TU b (Jn h2)
 unfold Zoq Tj
 cases ea:W5 a with
 | error e=>
   obtain rfl:=Ch ea;rw [ea] at ha
   cases eb:W5 b with
   | error f=>
     obtain rfl:=Ch eb;rw [eb] at hb;exact ZkH a b op ha hb
   |ok B=>rw [eb] at hb;exact ZkG a b op ha hb
 | ok A =>
   rw [ea] at ha
   cases eb:W5 b with
   | error f=>
     obtain rfl:=Ch eb;rw [eb] at hb;exact ZkF a b op ha hb
   | ok B=>
     rw [eb] at hb;obtain ⟨dA,sA⟩:=SN (Jn h1) ea;obtain ⟨dB,sB⟩:=SN (Jn h2) eb;have hp:=Zfp A B op dA dB (by rw [sA,sB,h3]);dsimp only
     cases eq:prodQ A B with
     | some q=>exact ZhZ a b A B op q ha hb (hp.mono fun p hr=>by
        rcases hr with ⟨q',h4,h5⟩|⟨h4,_⟩
        · rw [eq] at h4;cases h4;exact h5
        · rw [eq] at h4;cases h4)
     | none=>exact ZkI a b A B op ha hb (hp.mono fun p hr=>by
        rcases hr with ⟨q',h4,h5⟩|⟨_,u0,u1,u2,u3,u4,n0,n1,n2,n3,n4,h5⟩
        · rw [eq] at h4;cases h4
        · exact ⟨⟨(u0,u1,u2,u3,u4),n0,n1,n2,n3,n4⟩,h5⟩)
theorem Zbx (a b:Aut) (op e:Int) (he:¬e=0) (hf:AF prog 120 [ZN a,ZN b] (· =pInt e)):AF prog 76 [ZN a,ZN b,pInt op] (· = .tup [ZM false,pInts [],pInt e]):=by
 refine AF.of_body 38 func76 rfl ntmps76 (Xa rfl) ?_
 intro w0 M0 vs hl hv
 obtain ⟨v0,v1,v2,rfl⟩:=LX hl
 obtain rfl:=hv 2 _ _ rfl rfl
 clear hl hv
 refine Ze ?_
 (refine ZB 3 5 fun h3=>?_<;>refine ZB 4 5 fun h4=>?_<;>refine xL 6 Za (xL 7 Za (xL 8 Za ?_))<;>refine Zi ?_)
 ((refine yL 14 (Zu 3 Zh) fun v14 h=>?_;cases h)<;>(refine yL 15 (Zu 4 Zh) fun v15 h=>?_;cases h)<;>(refine cS 16 (cA call120 (hf)) fun v16 h=>?_;cases h)<;>refine xL 9 Za ?_<;>refine Zi ?_)
 (refine xL 17 Zb (xL 18 Yv ?_)<;>refine Zc ?_)
 refine cX ?_ ?_<;>intro hb18
 · refine Ze ?_;(refine xL 19 Zb (xL 6 Za (xL 7 Za (xL 8 Za ?_)))<;>refine Zc ?_)
   refine Y3 (Ks (t:=7) rfl) fun _=>?_;exact Hv (results76) rfl rfl rfl rfl
 · exact UU (by simpa using hb18) he
theorem Zby (a b:Aut) (op e:Int) (he:¬e=0) (hf:AF prog 120 [ZN a,ZN b] (· =pInt 0)) (hb:AF prog 121 [ZN a,ZN b,pInt op] (· = .tup [pPZ,pInt e])):AF prog 76 [ZN a,ZN b,pInt op] (· = .tup [ZM false,pInts [],pInt e]):=by
 refine AF.of_body 38 func76 rfl ntmps76 (Xa rfl) ?_
 intro w0 M0 vs hl hv
 obtain ⟨v0,v1,v2,rfl⟩:=LX hl
 obtain rfl:=hv 2 _ _ rfl rfl
 clear hl hv
 refine Ze ?_
 (refine ZB 3 5 fun h3=>?_<;>refine ZB 4 5 fun h4=>?_<;>refine xL 6 Za (xL 7 Za (xL 8 Za ?_))<;>refine Zi ?_)
 ((refine yL 14 (Zu 3 Zh) fun v14 h=>?_;cases h)<;>(refine yL 15 (Zu 4 Zh) fun v15 h=>?_;cases h)<;>(refine cS 16 (cA call120 (hf)) fun v16 h=>?_;cases h)<;>refine xL 9 Za ?_<;>refine Zi ?_)
 (refine xL 17 Zb (xL 18 Yv ?_)<;>refine Zc ?_)
 refine cX ?_ ?_<;>intro hb18
 · first|omega|exact UU rfl hb18|exact bN hb18
 · refine Ze ?_;((refine yL 21 (Zu 3 Zh) fun v21 h=>?_;cases h)<;>(refine yL 22 (Zu 4 Zh) fun v22 h=>?_;cases h)<;>refine xL 23 Zb ?_<;>(refine cP 24 (cA call121 (hb)) fun va24 vb24 hva24 h=>?_;cases h)<;>refine xL 20 Zb (xL 25 Zj (xL 26 Zj ?_))<;>refine Zw [(.int .i64 0),(.slice none 0 0),(.slice none 0 0),(.slice none 0 0),(.slice none 0 0)] 5 10 WN fun h10=>?_<;>refine ZE 10 YP ?_<;>refine xL 11 Za ?_<;>refine Zi ?_)
   (refine xL 27 Zb (xL 28 Yv ?_)<;>refine Zc ?_)
   refine cX ?_ ?_<;>intro hb28
   · refine Ze ?_;(refine xL 29 Zb (xL 6 Za (xL 7 Za (xL 8 Za ?_)))<;>refine Zc ?_)
     refine Y3 (Ks (t:=7) rfl) fun _=>?_;exact Hv (results76) rfl rfl rfl rfl
   · exact UU (by simpa using hb28) he
theorem ZdD (a b A B:Aut) (op:Int) (q:List PrS×List (List Nat)) (x:List Int) (t:Bool) (hf:AF prog 120 [ZN a,ZN b] (· =pInt 0)) (hb:AF prog 121 [ZN a,ZN b,pInt op] (· = .tup [SX A B op q,pInt 0])) (hg:AF prog 122 [SX A B op q] (· = .tup [pInts x,ZM t])):AF prog 76 [ZN a,ZN b,pInt op] (· = .tup [ZM (!t),pInts x,pInt 0]):=by
 refine AF.of_body 38 func76 rfl ntmps76 (Xa rfl) ?_
 intro w0 M0 vs hl hv
 obtain ⟨v0,v1,v2,rfl⟩:=LX hl
 obtain rfl:=hv 2 _ _ rfl rfl
 clear hl hv
 refine Ze ?_
 (refine ZB 3 5 fun h3=>?_<;>refine ZB 4 5 fun h4=>?_<;>refine xL 6 Za (xL 7 Za (xL 8 Za ?_))<;>refine Zi ?_)
 ((refine yL 14 (Zu 3 Zh) fun v14 h=>?_;cases h)<;>(refine yL 15 (Zu 4 Zh) fun v15 h=>?_;cases h)<;>(refine cS 16 (cA call120 (hf)) fun v16 h=>?_;cases h)<;>refine xL 9 Za ?_<;>refine Zi ?_)
 (refine xL 17 Zb (xL 18 Yv ?_)<;>refine Zc ?_)
 refine cX ?_ ?_<;>intro hb18
 · first|omega|exact UU rfl hb18|exact bN hb18
 · refine Ze ?_;((refine yL 21 (Zu 3 Zh) fun v21 h=>?_;cases h)<;>(refine yL 22 (Zu 4 Zh) fun v22 h=>?_;cases h)<;>refine xL 23 Zb ?_<;>(refine cP 24 (cA call121 (hb)) fun va24 vb24 hva24 h=>?_;cases h)<;>refine xL 20 Zb (xL 25 Zj (xL 26 Zj ?_))<;>refine Zw [(.int .i64 0),(.slice none 0 0),(.slice none 0 0),(.slice none 0 0),(.slice none 0 0)] 5 10 WN fun h10=>?_<;>refine ZE 10 YP ?_<;>refine xL 11 Za ?_<;>refine Zi ?_)
   (refine xL 27 Zb (xL 28 Yv ?_)<;>refine Zc ?_)
   refine cX ?_ ?_<;>intro hb28
   · first|omega|exact UU rfl hb28|exact bN hb28
   · refine Ze ?_;((refine yL 31 (Zu 10 YP) fun v31 h=>?_;cases h)<;>(refine cP 32 (cA call122 (hg)) fun va32 vb32 hva32 h=>?_;cases h)<;>refine xL 30 Zb (xL 33 Zj (xL 34 Zj (xL 12 Za (xL 13 Za ?_))))<;>refine Zi ?_)
     (refine xL 35 Zb (xL 36 Ya (xL 37 Zb (xL 6 Za (xL 7 Za (xL 8 Za ?_)))))<;>refine Zc ?_)
     exact Hv (results76) rfl rfl rfl rfl
def Zpi (x:Bool×List Int×Int):PV:= .tup [ZM x.1,pInts x.2.1,pInt x.2.2]
theorem Zfq (a b:Aut) (op:Int):AF prog 76 [ZN a,ZN b,pInt op] (· =Zpi (cmpX a b op)):=by
 have hf:=Pt a b
 unfold cmpX
 by_cases h0:WK a b=0
 · rw [US (fun h=>h h0)];have hb:=ZmR a b op h0;rw [h0] at hf;unfold Zoq at hb
   cases e:Tj a b with
   | error f=>
     rw [e] at hb;refine Zby a b op f (fun hf0=>?_) hf hb;unfold Tj at e;split at e
     · split at e<;>cases e;omega
     · cases e;omega
   | ok x =>
     obtain ⟨A,B,o,rows⟩:=x;rw [e] at hb;obtain ⟨h1,h2,h3⟩:=Cg h0;unfold Tj at e;split at e
     · rename_i A' B' ea eb;split at e
       · rename_i q' eq
         cases e;obtain ⟨dA,sA⟩:=SN (Jn h1) ea;obtain ⟨dB,sB⟩:=SN (Jn h2) eb;have hok:=(Ob dA dB (by rw [sA,sB,h3]) eq).1;have hg:=ZkC A B op o rows eq hok.zero hok.cap;have:=ZdD a b A B op (o,rows) _ _ hf hb hg;rw [Bool.not_not] at this;exact this
       · cases e
     · cases e
 · rw [UT h0];exact Zbx a b op _ h0 hf
theorem CO (a b:Aut) (t:Bool) (l:List Int) (e:Int) (h:AF prog 76 [ZN a,ZN b,pInt 4] (· = .tup [ZM t,pInts l,pInt e])):AF prog 52 [ZN a,ZN b] (· = .tup [ZM t,pInts l,pInt e]):=by
 refine AF.of_body 13 func52 rfl ntmps52 (Xa rfl) ?_
 intro w0 M0 vs hl hv
 obtain ⟨v0,v1,rfl⟩:=YI hl
 clear hl hv
 refine Ze ?_
 (refine ZB 2 5 fun h2=>?_<;>refine ZB 3 5 fun h3=>?_<;>refine xL 4 Za (xL 5 Za (xL 6 Za ?_))<;>refine Zi ?_)
 ((refine yL 7 (Zu 2 Zh) fun v7 h=>?_;cases h)<;>(refine yL 8 (Zu 3 Zh) fun v8 h=>?_;cases h)<;>(refine Zg7 9 (cA call76 h) fun va9 vb9 vc9 hva9 hvb9 hvc9=>?_;cases hva9;cases hvc9)<;>refine xL 10 Zj (xL 11 Zj (xL 12 Zj (xL 4 Za (xL 5 Za (xL 6 Za ?_)))))<;>refine Zc ?_)
 exact Hv (results52) rfl rfl rfl rfl
theorem CP (a b:Aut):AF prog 52 [ZN a,ZN b] (· =Zpi (cmpX a b 4)):=CO a b _ _ _ (Zfq a b 4)
end Go.Proofs.YtgfabnhpllkebaaGreatDoor
