/-
  Walks of functions and plain laws of the chapter, as the claim needs them.
-/
import Derived.Test.YtgfabnhpllkebaaGreatDoorPn06
import Derived.Test.YtgfabnhpllkebaaGreatDoorPn09
import Derived.Test.YtgfabnhpllkebaaGreatDoorPn07
import Derived.Test.YtgfabnhpllkebaaGreatDoorPn08
import Derived.Test.YtgfabnhpllkebaaGreatDoorPn04
import Derived.Test.YtgfabnhpllkebaaGreatDoorMShelfG
import Derived.Test.YtgfabnhpllkebaaGreatDoorPn01
namespace Go.Proofs.YtgfabnhpllkebaaGreatDoor
open Go.RowKit Go.Cb Go.En Tryz
set_option linter.all false
abbrev Lg:=List ByteArray→Prop
def P9:List Lg→Lg
 |[]=>fun w=>w=[]
 |A::m=>fun w=>∃u v,w=u++v∧A u∧P9 m v
def Zo2 (m:List Lg):Lg:=fun w=>∃A∈m,A w
inductive Shf:List ByteArray→List ByteArray→List ByteArray→Prop
 |nil:Shf [] [] []
 |left {a:ByteArray} {u v w:List ByteArray} (h:Shf u v w):Shf (a::u) v (a::w)
 |right {a:ByteArray} {u v w:List ByteArray} (h:Shf u v w):Shf u (a::v) (a::w)
def Ct:List Lg→Lg
 |[]=>fun w=>w=[]
 |A::m=>fun w=>∃u v,Shf u v w∧A u∧Ct m v
inductive LpG (A B:Lg):Lg
 |one {w:List ByteArray} (h:A w):LpG A B w
 |more {u v z:List ByteArray} (h1:LpG A B u) (h2:B v) (h3:A z):LpG A B (u++(v++z))
def lpG:List Lg→Lg
 |A::B::_=>LpG A B
 |_=>fun _=>False
def opG (o:Int) (a:ByteArray) (m:List Lg):Lg:=if o=1 then (fun w=>w=[a]) else if o=2 then (fun w=>w=[]) else if o=3 then P9 m else if o=4 then Zo2 m else if o=5 then Ct m else lpG m
mutual
def T2:Nd→Lg
 | .mk o a l=>opG o a (ZfN l)
def ZfN:List Nd→List Lg
 |[]=>[]
 |x::l=>T2 x::ZfN l
end
theorem ZjE (l:List Nd):ZfN l=l.map T2:=by
 induction l with
 |nil=>rfl
 |cons x l ih=>rw [ZfN,ih];rfl
theorem ZlO (o:Int) (a:ByteArray) (l:List Nd):T2 (.mk o a l)=opG o a (l.map T2):=by rw [T2,ZjE]
theorem ZaX:∀w,Shf w [] w
 |[]=> .nil
 |a::w=> .left (ZaX w)
theorem Tg {u v w:List ByteArray} (h:Shf u v w):Shf v u w:=by
 induction h with
 |nil=>exact .nil
 |left _ ih=>exact .right ih
 |right _ ih=>exact .left ih
theorem EP {u w:List ByteArray} (h:Shf u [] w):w=u:=by
 generalize hv:([]:List ByteArray)=v at h
 induction h with
 |nil=>rfl
 |left _ ih=>rw [ih hv]
 |right _ _=>cases hv
theorem ζJ {u v w:List ByteArray} (h:Shf u v w):∀{s z:List ByteArray},Shf s z v→∃x,Shf u s x∧Shf x z w:=by
 induction h with
 |nil=>intro s z h2;cases h2;exact ⟨[], .nil, .nil⟩
 | left _ ih=>
   intro s z h2;obtain ⟨x,h3,h4⟩:=ih h2;exact ⟨_, .left h3, .left h4⟩
 | right _ ih=>
   intro s z h2
   cases h2 with
   |left h2=>obtain ⟨x,h3,h4⟩:=ih h2;exact ⟨_, .right h3, .left h4⟩
   |right h2=>obtain ⟨x,h3,h4⟩:=ih h2;exact ⟨x,h3, .right h4⟩
theorem ZeQ {x z w u s:List ByteArray} (h1:Shf x z w) (h2:Shf u s x):∃v,Shf u v w∧Shf s z v:=by
 obtain ⟨v,h3,h4⟩:=ζJ (Tg h1) (Tg h2)
 exact ⟨v,Tg h4,Tg h3⟩
theorem ZfO:∀(m n:List Lg),P9 (m++n)=fun w=>∃u v,w=u++v∧P9 m u∧P9 n v
 |[],n=>funext fun w=>propext ⟨fun h=>⟨[],w,rfl,rfl,h⟩,fun ⟨u,v,h1,h2,h3⟩=>by cases h2;rw [h1];exact h3⟩
 | A ::m,n=>funext fun w=>propext (by
   show (∃u v,w=u++v∧A u∧P9 (m++n) v)↔∃u v,w=u++v∧(∃u2 v2,u=u2++v2∧A u2∧P9 m v2)∧P9 n v;rw [ZfO m n];constructor
   · rintro ⟨u,v,rfl,h1,u2,v2,rfl,h2,h3⟩;exact ⟨u++u2,v2,by rw [Xy],⟨u,u2,rfl,h1,h2⟩,h3⟩
   · rintro ⟨u,v,rfl,⟨u2,v2,rfl,h1,h2⟩,h3⟩;exact ⟨u2,v2++v,by rw [Xy],h1,v2,v,rfl,h2,h3⟩)
theorem ZfP:∀(m n:List Lg),Ct (m++n)=fun w=>∃u v,Shf u v w∧Ct m u∧Ct n v
 |[],n=>funext fun w=>propext ⟨fun h=>⟨[],w,Tg (ZaX w),rfl,h⟩,fun ⟨u,v,h1,h2,h3⟩=>by cases h2;rw [EP (Tg h1)];exact h3⟩
 | A ::m,n=>funext fun w=>propext (by
   show (∃u v,Shf u v w∧A u∧Ct (m++n) v)↔∃u v,Shf u v w∧(∃u2 v2,Shf u2 v2 u∧A u2∧Ct m v2)∧Ct n v;rw [ZfP m n];constructor
   · rintro ⟨u,v,h0,h1,u2,v2,h4,h2,h3⟩;obtain ⟨x,h5,h6⟩:=ζJ h0 h4;exact ⟨x,v2,h6,⟨u,u2,h5,h1,h2⟩,h3⟩
   · rintro ⟨u,v,h0,⟨u2,v2,h4,h1,h2⟩,h3⟩;obtain ⟨x,h5,h6⟩:=ZeQ h0 h4;exact ⟨u2,x,h5,h1,v2,v,h6,h2,h3⟩)
theorem ZfQ (A:Lg):P9 [A]=A:=funext fun w=>propext ⟨fun ⟨u,v,h1,h2,h3⟩=>by cases h3;rw [h1,Xq];exact h2,fun h=>⟨w,[],(Xq w).symm,h,rfl⟩⟩
theorem and_one (A:Lg):Ct [A]=A:=funext fun w=>propext ⟨fun ⟨u,v,h1,h2,h3⟩=>by cases h3;rw [EP h1];exact h2,fun h=>⟨w,[],ZaX w,h,rfl⟩⟩
inductive StG (A:Lg):Lg
 |nil:StG A []
 |cons {u v:List ByteArray} (h1:A u) (h2:StG A v):StG A (u++v)
theorem ZjF {A:Lg} {u v:List ByteArray} (h:StG A u) (h2:A v):StG A (u++v):=by
 induction h with
 |nil=>have:=StG.cons h2 (StG.nil (A:=A));rw [Xq] at this;exact this
 |cons h1 _ ih=>rw [Xy];exact .cons h1 ih
theorem ZlP (A B:Lg):LpG A B=fun w=>∃u v,w=u++v∧A u∧StG (P9 [B,A]) v:=by
 have h2:∀{x y:List ByteArray},B x→A y→P9 [B,A] (x++y):=fun {x y} hx hy=>⟨x,y,rfl,hx,y,[],(Xq y).symm,hy,rfl⟩
 refine funext fun w=>propext ⟨fun h=>?_,fun ⟨u,v,e,hu,hv⟩=>?_⟩
 · induction h with
   | @one w h=>exact ⟨w,[],(Xq w).symm,h, .nil⟩
   | more _ hb ha ih=>
     obtain ⟨u,v,rfl,h3,h4⟩:=ih;exact ⟨u,_,Xy ..,h3,ZjF h4 (h2 hb ha)⟩
 · subst e;have key:∀v,StG (P9 [B,A]) v→∀u,LpG A B u→LpG A B (u++v):=fun v hv=>by
    induction hv with
    |nil=>intro u h;rw [Xq];exact h
    | cons h1 _ ih=>
      intro u h;obtain ⟨x,y,rfl,hx,y2,z,rfl,hy,hz⟩:=h1
      cases hz;rw [Xq,←Xy];exact ih _ (.more h hx hy)
   exact key v hv u (.one hu)
set_option maxRecDepth 100000
def GJ (m:Nat) (k:Int):Aut:=⟨2,m,[0],[1],[⟨0,1,k⟩]⟩
def Rz (m:Nat):Aut:=⟨1,m,[0],[0],[]⟩
def okO (x:Except Int Aut):Option Aut:=match x with
 | .ok a=>some a
 | .error _=>none
def Jg (a b:Aut):Except Int Aut:=match Gv b a with
 | .error e=> .error e
 | .ok x=>match JD x with
   | .error e=> .error e
   | .ok s=>Gv a s
def Wi (o:Int) (a b:Aut):Except Int Aut:=if o=3 then Gv a b else if o=4 then Ga a b else if o=6 then Jg a b else Le a b
def Gx (o:Int) (r p:Option Aut):Option Aut:=match r,p with
 |some a,some b=>okO (Wi o a b)
 |_,_=>none
def foldX (o:Int):List (Option Aut)→Option Aut
 |[]=>none
 |x::l=>l.foldl (Gx o) x
mutual
def bldT (acts:List ByteArray):Nd→Option Aut
 | .mk o a l=>if o=1 then okO (Jd (GJ acts.length (idx (fun x=>Js x a) acts))) else if o=2 then okO (Jd (Rz acts.length)) else foldX o (ZlQ acts l)
def ZlQ (acts:List ByteArray):List Nd→List (Option Aut)
 |[]=>[]
 |x::l=>bldT acts x::ZlQ acts l
end
theorem ZaY (acts:List ByteArray) (l:List Nd):ZlQ acts l=l.map (bldT acts):=by
 induction l with
 |nil=>rfl
 |cons x l ih=>rw [ZlQ,ih];rfl
theorem ZeR (acts:List ByteArray) (o:Int) (a:ByteArray) (l:List Nd) (h1:o≠1) (h2:o≠2):bldT acts (.mk o a l)=foldX o (l.map (bldT acts)):=by rw [bldT,UR h1,UR h2,ZaY]
theorem ZeS (o:Int) (p:Option Aut):Gx o none p=none:=rfl
theorem Zc0 (o:Int) (r:Option Aut):Gx o r none=none:=by cases r<;>rfl
theorem OP (o:Int) (l:List (Option Aut)):l.foldl (Gx o) none=none:=by
 induction l with
 |nil=>rfl
 |cons x l ih=>rw [VH,ZeS,ih]
theorem EQ {o:Int} {m:List (Option Aut)} (h:m≠[]) (x:Option Aut):foldX o (m++[x])=Gx o (foldX o m) x:=by
 cases m with
 |nil=>exact UT rfl h
 |cons y m=>rw [Vb];show (m++[x]).foldl (Gx o) y=_;rw [VE];rfl
theorem Zc1 {o:Int}:∀{l:List (Option Aut)} {r:Option Aut},none∈l→l.foldl (Gx o) r=none
 | x::l,r,h=>by
   rw [VH];rcases Xs.1 h with e|h
   · rw [←e,Zc0,OP]
   · exact Zc1 h
theorem OQ {o:Int} {l:List (Option Aut)} (h:none∈l):foldX o l=none:=by
 cases l with
 |nil=>rfl
 | cons x l=>
   show l.foldl (Gx o) x=none;rcases Xs.1 h with e|h
   · rw [←e,OP]
   · exact Zc1 h
def MinO (m:Nat) (x:Except Int Aut):Prop:=x= .error 13∨∃C,x= .ok C∧IsMin C∧C.syms=m
theorem MinO.lim {m:Nat} {x:Except Int Aut} (h:MinO m x):x=Go.Proofs.YtgfabnhpllkebaaGreatDoor.lim (okO x):=by
 rcases h with rfl|⟨C,rfl,_⟩<;>rfl
theorem MinO.ok {m:Nat} {x:Except Int Aut} (h:MinO m x) {C:Aut} (hc:okO x=some C):x= .ok C∧IsMin C∧C.syms=m:=by
 rcases h with rfl|⟨D,rfl,h1,h2⟩
 · cases hc
 · cases hc;exact ⟨rfl,h1,h2⟩
theorem ER {a:Aut} {e:Int} (h:W4 a= .error e):e=13:=by
 unfold W4 at h
 cases ht:K4 a with
 |none=>rw [ht] at h;cases h;rfl
 | some t=>
   rw [ht] at h
   cases hl:Wg t with
   |none=>simp only [hl,Go.Proofs.YtgfabnhpllkebaaGreatDoor.lim] at h;cases h;rfl
   |some A=>simp only [hl,Go.Proofs.YtgfabnhpllkebaaGreatDoor.lim] at h;cases h
theorem ZjG {a:Aut} {e:Int} (h:DT a= .error e):e=13:=by
 unfold DT at h
 split at h
 · cases h;rfl
 · exact ER h
theorem Rh {X:Aut} (hp:PreA X) {m:Nat} (hs:X.syms=m):MinO m (Je X):=by
 cases h:Je X with
 |error e=>exact .inl (by rw [ZjG h])
 |ok C=>obtain ⟨h1,h2,_⟩:=G' hp h;exact .inr ⟨C,rfl,h1,by rw [h2,hs]⟩
theorem Gy {a:Aut} (h:Z5 a=true) {m:Nat} (hs:a.syms=m):MinO m (Jd a):=by
 cases h1:Jd a with
 | error e=>
   unfold Jd at h1;rw [US h] at h1;exact .inl (by rw [ER h1])
 |ok C=>obtain ⟨h3,h2,_⟩:=OJ h1;exact .inr ⟨C,rfl,h3,by rw [h2,hs]⟩
variable {m:Nat} {a b:Aut}
theorem Ri (ha:IsMin a) (hb:IsMin b) (hsa:a.syms=m) (hsb:b.syms=m):WH a b=0:=ZaW ha.valid hb.valid (by rw [hsa,hsb])
theorem SL (ha:IsMin a) (hb:IsMin b) (hsa:a.syms=m) (hsb:b.syms=m):MinO m (Gv a b):=by
 unfold Gv
 rw [UR (fun h=>h (Ri ha hb hsa hsb))]
 exact Rh (Hp (WS ha.valid) (WS hb.valid) (by rw [hsa,hsb])) hsa
theorem ZeT (ha:IsMin a) (hb:IsMin b) (hsa:a.syms=m) (hsb:b.syms=m):MinO m (Ga a b):=by
 unfold Ga
 rw [UR (fun h=>h (Ri ha hb hsa hsb))]
 exact Rh (S9 (WS ha.valid) (WS hb.valid) (by rw [hsa,hsb])) hsa
theorem Zhk (ha:IsMin a) (hb:IsMin b) (hsa:a.syms=m) (hsb:b.syms=m):MinO m (Le a b):=by
 unfold Le
 rw [UR (fun h=>h (Ri ha hb hsa hsb))]
 split
 · exact .inl rfl
 · exact Rh (P7 (WS ha.valid) (WS hb.valid) (by rw [hsa,hsb])) hsa
theorem Rj (ha:IsMin a) (hsa:a.syms=m):MinO m (JD a):=by
 unfold JD
 rw [US ha.valid]
 exact Rh (PZ (WS ha.valid)) hsa
theorem Zhl (ha:IsMin a) (hb:IsMin b) (hsa:a.syms=m) (hsb:b.syms=m):MinO m (Jg a b):=by
 unfold Jg
 rcases SL hb ha hsb hsa with h|⟨C,h,hC,hs⟩
 · rw [h];exact .inl rfl
 · rw [h];dsimp only;rcases Rj hC hs with h2|⟨D,h2,hD,hs2⟩
   · rw [h2];exact .inl rfl
   · rw [h2];exact SL ha hD hsa hs2
theorem Rk (o:Int) (ha:IsMin a) (hb:IsMin b) (hsa:a.syms=m) (hsb:b.syms=m):MinO m (Wi o a b):=by
 unfold Wi
 split
 · exact SL ha hb hsa hsb
 split
 · exact ZeT ha hb hsa hsb
 split
 · exact Zhl ha hb hsa hsb
 · exact Zhk ha hb hsa hsb
theorem P' {k:Int} (hm:m≤40) (hk:0≤k∧k<m):Z5 (GJ m k)=true:=by
 unfold Z5 GJ Lm Rw
 simp [Y7]
 omega
theorem ES (hm:m≤40):Z5 (Rz m)=true:=by
 unfold Z5 Rz Lm
 simp [Y7]
 omega
def BldOk (m:Nat) (r:Option Aut):Prop:=∀A,r=some A→IsMin A∧A.syms=m
theorem BldOk.of {x:Except Int Aut} (h:MinO m x):BldOk m (okO x):=fun A hA=>(h.ok hA).2
theorem ZlR (o:Int) {r p:Option Aut} (hr:BldOk m r) (hp:BldOk m p):BldOk m (Gx o r p):=by
 match r,p with
 | some a,some b=>
   obtain ⟨ha,hsa⟩:=hr a rfl;obtain ⟨hb,hsb⟩:=hp b rfl;exact BldOk.of (Rk o ha hb hsa hsb)
 |none,_=>exact fun A hA=>by cases hA
 |some _,none=>exact fun A hA=>by cases hA
theorem ζK (o:Int):∀{l:List (Option Aut)} {r:Option Aut},BldOk m r→(∀x∈l,BldOk m x)→BldOk m (l.foldl (Gx o) r)
 |[],_,h,_=>h
 | x::l,r,h,h2=>by
   rw [VH];exact ζK o (ZlR o h (h2 x (Xm ..))) fun y hy=>h2 y (Xn _ hy)
theorem Zc2 (o:Int) {l:List (Option Aut)} (h:∀x∈l,BldOk m x):BldOk m (foldX o l):=by
 cases l with
 |nil=>exact fun A hA=>by cases hA
 |cons x l=>exact ζK o (h x (Xm ..)) fun y hy=>h y (Xn _ hy)
def Y0 (acts:List ByteArray) (a:ByteArray):Int:=idx (fun x=>Js x a) acts
theorem Pa {a b:ByteArray}:Js a b=true↔a=b:=CO
theorem Ti {acts:List ByteArray} {a:ByteArray} (h:a∈acts):∃i:Nat,Y0 acts a=i∧acts[i]? =some a∧∀j y,j<i→acts[j]? =some y→y≠a:=by
 unfold Y0
 obtain ⟨k,hk⟩:=XY h
 have key:∀n:Nat,(∃i:Nat,i≤n∧acts[i]? =some a)→∃i:Nat,acts[i]? =some a∧∀(j:Nat) (y:ByteArray),j<i→acts[j]? =some y→y≠a:=by
  intro n;induction n with
  |zero=>rintro ⟨i,hi,h⟩;exact ⟨i,h,fun j y hj=>oM⟩
  | succ n ih=>
    rintro ⟨i,hi,h⟩;by_cases h2:∃i:Nat,i≤n∧acts[i]? =some a
    · exact ih h2
    · exact ⟨i,h,fun j y hj hy e=>h2 ⟨j,oM,by rw [hy,e]⟩⟩
 obtain ⟨i,hi,hb⟩:=key k ⟨k,Xg _,hk⟩
 refine ⟨i,Gl (fun j y hj hy=>?_) hi (Pa.2 rfl),hi,hb⟩
 cases hs:Js y a
 · rfl
 · exact UT (Pa.1 hs) (hb j y hj hy)
theorem ZeU {acts:List ByteArray} (hm:acts.length≤40):∀t:Nd,(∀s∈YI t,s∈acts)→BldOk acts.length (bldT acts t):=Nd.ind fun o a l ih ha=>by
 rw [bldT]
 split
 · rename_i h1;obtain ⟨i,h2,h3,_⟩:=Ti (ha a (by rw [YI,US h1];exact Xm ..));have hi:=(XM.1 h3).1;refine BldOk.of (Gy (P' hm ?_) rfl);unfold Y0 at h2;rw [h2];omega
 split
 · exact BldOk.of (Gy (ES hm) rfl)
 · rename_i h1 h2;rw [ZaY];refine Zc2 o fun r hr=>?_;obtain ⟨x,hx,rfl⟩:=Xj.1 hr;refine ih x hx fun s hs=>ha s ?_;rw [YI,UR h1];exact Sg.2 ⟨x,hx,hs⟩
def nmW (acts:List ByteArray) (w:List Nat):List ByteArray:=w.map fun i=>(acts[i]?).getD ByteArray.empty
def Lp (acts:List ByteArray) (A:Aut) (P:Lg):Prop:=∀w:List Nat,Kf acts.length w→(TK A (wI w)=true↔P (nmW acts w))
def opB (o:Int) (P Q:Lg):Lg:=if o=3 then fun w=>∃u v,w=u++v∧P u∧Q v else if o=4 then fun w=>P w∨Q w else if o=6 then LpG P Q else fun w=>∃u v,Shf u v w∧P u∧Q v
theorem ET {w:List Nat} {u v:List Int}:wI w=u++v↔∃w1 w2,w=w1++w2∧u=wI w1∧v=wI w2:=by
 unfold wI
 rw [List.map_eq_append_iff]
 exact ⟨fun ⟨a,b,h1,h2,h3⟩=>⟨a,b,h1,h2.symm,h3.symm⟩,fun ⟨a,b,h1,h2,h3⟩=>⟨a,b,h1,h2.symm,h3.symm⟩⟩
theorem EU {acts:List ByteArray} {w:List Nat} {u v:List ByteArray}:nmW acts w=u++v↔∃w1 w2,w=w1++w2∧u=nmW acts w1∧v=nmW acts w2:=by
 unfold nmW
 rw [List.map_eq_append_iff]
 exact ⟨fun ⟨a,b,h1,h2,h3⟩=>⟨a,b,h1,h2.symm,h3.symm⟩,fun ⟨a,b,h1,h2,h3⟩=>⟨a,b,h1,h2.symm,h3.symm⟩⟩
theorem Oa {m:Nat} {u v:List Nat}:Kf m (u++v)↔Kf m u∧Kf m v:=⟨fun h=>⟨fun c hc=>h c (XZ _ hc),fun c hc=>h c (X6 _ hc)⟩,fun h c hc=>(Xt.1 hc).elim (h.1 c) (h.2 c)⟩
theorem ZaZ {m:Nat} {w:List Nat} (_:Kf m w):∀c∈wI w,0≤c:=fun c hc=>by
 unfold wI at hc
 obtain ⟨x,_,rfl⟩:=Xj.1 hc
 exact Int.natCast_nonneg x
variable {acts:List ByteArray} {a b C:Aut} {P Q:Lg}
theorem Jj (ha:IsMin a) (hP:Lp acts a P) {w:List Nat} (hw:Kf acts.length w):Lng a (wI w)↔P (nmW acts w):=by
 rw [←Ho ha.aok (ZaZ hw)];exact hP w hw
theorem Za0 (ha:IsMin a) (hb:IsMin b) (hsa:a.syms=acts.length) (hsb:b.syms=acts.length) (hP:Lp acts a P) (hQ:Lp acts b Q) (h:Gv a b= .ok C):Lp acts C (opB 3 P Q):=fun w hw=>by
 unfold Gv at h
 rw [UR (fun h=>h (Ri ha hb hsa hsb))] at h
 have hva:=WS ha.valid
 have hvb:=WS hb.valid
 obtain ⟨_,_,h3⟩:=G' (Hp hva hvb (by rw [hsa,hsb])) h
 have e:(Km a b).syms.toNat=acts.length:=by show a.syms.toNat=_;rw [hsa];rfl
 rw [h3 w (by rw [e];exact hw),ZlM hva hvb]
 show _↔∃u v,nmW acts w=u++v∧P u∧Q v
 constructor
 · rintro ⟨u,v,e1,h1,h2⟩;obtain ⟨w1,w2,rfl,rfl,rfl⟩:=ET.1 e1;obtain ⟨hw1,hw2⟩:=Oa.1 hw;exact ⟨_,_,EU.2 ⟨w1,w2,rfl,rfl,rfl⟩,(Jj ha hP hw1).1 h1,(Jj hb hQ hw2).1 h2⟩
 · rintro ⟨u,v,e1,h1,h2⟩;obtain ⟨w1,w2,rfl,rfl,rfl⟩:=EU.1 e1;obtain ⟨hw1,hw2⟩:=Oa.1 hw;exact ⟨_,_,ET.2 ⟨w1,w2,rfl,rfl,rfl⟩,(Jj ha hP hw1).2 h1,(Jj hb hQ hw2).2 h2⟩
theorem Zhm (ha:IsMin a) (hb:IsMin b) (hsa:a.syms=acts.length) (hsb:b.syms=acts.length) (hP:Lp acts a P) (hQ:Lp acts b Q) (h:Ga a b= .ok C):Lp acts C (opB 4 P Q):=fun w hw=>by
 unfold Ga at h
 rw [UR (fun h=>h (Ri ha hb hsa hsb))] at h
 have hva:=WS ha.valid
 have hvb:=WS hb.valid
 obtain ⟨_,_,h3⟩:=G' (S9 hva hvb (by rw [hsa,hsb])) h
 have e:(W5 a b).syms.toNat=acts.length:=by show a.syms.toNat=_;rw [hsa];rfl
 rw [h3 w (by rw [e];exact hw),Zhf hva hvb,Jj ha hP hw,Jj hb hQ hw]
 rfl
theorem OS:∀{w:List Nat} {u v:List Int},Mix (wI w) u v→∃w1 w2,u=wI w1∧v=wI w2∧(∀c∈w1,c∈w)∧(∀c∈w2,c∈w)∧Shf (nmW acts w1) (nmW acts w2) (nmW acts w)
 | [],_,_,h=>by
   cases h;exact ⟨[],[],rfl,rfl,fun _ h=>h,fun _ h=>h, .nil⟩
 | c ::w,_,_,h=>by
   cases h with
   | one _ h=>
     obtain ⟨w1,w2,rfl,rfl,h1,h2,h3⟩:=OS h;exact ⟨c::w1,w2,rfl,rfl,fun x hx=>(Xs.1 hx).elim (fun e=>by rw [e];exact Xm ..) fun h=>Xn _ (h1 x h),fun x hx=>Xn _ (h2 x hx), .left h3⟩
   | two _ h=>
     obtain ⟨w1,w2,rfl,rfl,h1,h2,h3⟩:=OS h;exact ⟨w1,c::w2,rfl,rfl,fun x hx=>Xn _ (h1 x hx),fun x hx=>(Xs.1 hx).elim (fun e=>by rw [e];exact Xm ..) fun h=>Xn _ (h2 x h), .right h3⟩
theorem OT:∀{w:List Nat} {u v:List ByteArray},Shf u v (nmW acts w)→∃w1 w2,u=nmW acts w1∧v=nmW acts w2∧(∀c∈w1,c∈w)∧(∀c∈w2,c∈w)∧Mix (wI w) (wI w1) (wI w2)
 | [],_,_,h=>by
   cases h;exact ⟨[],[],rfl,rfl,fun _ h=>h,fun _ h=>h, .nil⟩
 | c ::w,_,_,h=>by
   cases h with
   | left h=>
     obtain ⟨w1,w2,rfl,rfl,h1,h2,h3⟩:=OT h;exact ⟨c::w1,w2,rfl,rfl,fun x hx=>(Xs.1 hx).elim (fun e=>by rw [e];exact Xm ..) fun h=>Xn _ (h1 x h),fun x hx=>Xn _ (h2 x hx), .one _ h3⟩
   | right h=>
     obtain ⟨w1,w2,rfl,rfl,h1,h2,h3⟩:=OT h;exact ⟨w1,c::w2,rfl,rfl,fun x hx=>Xn _ (h1 x hx),fun x hx=>(Xs.1 hx).elim (fun e=>by rw [e];exact Xm ..) fun h=>Xn _ (h2 x h), .two _ h3⟩
theorem ZjH (ha:IsMin a) (hb:IsMin b) (hsa:a.syms=acts.length) (hsb:b.syms=acts.length) (hP:Lp acts a P) (hQ:Lp acts b Q) (h:Le a b= .ok C):Lp acts C (opB 5 P Q):=fun w hw=>by
 unfold Le at h
 rw [UR (fun h=>h (Ri ha hb hsa hsb))] at h
 split at h
 · cases h
 have hva:=WS ha.valid
 have hvb:=WS hb.valid
 obtain ⟨_,_,h3⟩:=G' (P7 hva hvb (by rw [hsa,hsb])) h
 have e:(Wh a b).syms.toNat=acts.length:=by show a.syms.toNat=_;rw [hsa];rfl
 rw [h3 w (by rw [e];exact hw),ZjC hva hvb]
 show _↔∃u v,Shf u v (nmW acts w)∧P u∧Q v
 constructor
 · rintro ⟨u,v,e1,h1,h2⟩;obtain ⟨w1,w2,rfl,rfl,k1,k2,k3⟩:=OS (acts:=acts) e1;exact ⟨_,_,k3,(Jj ha hP fun c hc=>hw c (k1 c hc)).1 h1,(Jj hb hQ fun c hc=>hw c (k2 c hc)).1 h2⟩
 · rintro ⟨u,v,e1,h1,h2⟩;obtain ⟨w1,w2,rfl,rfl,k1,k2,k3⟩:=OT e1;exact ⟨_,_,k3,(Jj ha hP fun c hc=>hw c (k1 c hc)).2 h1,(Jj hb hQ fun c hc=>hw c (k2 c hc)).2 h2⟩
theorem ZjI (ha:IsMin a) (hsa:a.syms=acts.length) (hP:Lp acts a P) (h:JD a= .ok C):Lp acts C (StG P):=fun w hw=>by
 unfold JD at h
 rw [US ha.valid] at h
 have hva:=WS ha.valid
 obtain ⟨_,_,h3⟩:=G' (PZ hva) h
 have e:(KT a).syms.toNat=acts.length:=by show a.syms.toNat=_;rw [hsa];rfl
 rw [h3 w (by rw [e];exact hw),Zjz hva]
 constructor
 · intro h;generalize hx:wI w=x at h;induction h generalizing w with
   | nil=>
     have:w=[]:=Up.1 hx;rw [this];exact .nil
   | app h1 _ ih=>
     obtain ⟨w1,w2,rfl,rfl,rfl⟩:=ET.1 hx;obtain ⟨hw1,hw2⟩:=Oa.1 hw;rw [show nmW acts (w1++w2)=nmW acts w1++nmW acts w2 from Xu];exact .cons ((Jj ha hP hw1).1 h1) (ih w2 hw2 rfl)
 · intro h;generalize hx:nmW acts w=x at h;induction h generalizing w with
   | nil=>
     have:w=[]:=Up.1 hx;rw [this];exact .nil
   | cons h1 _ ih=>
     obtain ⟨w1,w2,rfl,rfl,rfl⟩:=EU.1 hx;obtain ⟨hw1,hw2⟩:=Oa.1 hw;rw [show wI (w1++w2)=wI w1++wI w2 from Xu];exact .app ((Jj ha hP hw1).2 h1) (ih w2 hw2 rfl)
theorem ZjJ (ha:IsMin a) (hb:IsMin b) (hsa:a.syms=acts.length) (hsb:b.syms=acts.length) (hP:Lp acts a P) (hQ:Lp acts b Q) (h:Jg a b= .ok C):Lp acts C (opB 6 P Q):=by
 unfold Jg at h
 rcases SL hb ha hsb hsa with h1|⟨X,h1,hX,hs1⟩
 · rw [h1] at h;cases h
 rw [h1] at h
 dsimp only at h
 rcases Rj hX hs1 with h2|⟨Y,h2,hY,hs2⟩
 · rw [h2] at h;cases h
 rw [h2] at h
 dsimp only at h
 have:=Za0 ha hY hsa hs2 hP (ZjI hX hs1 (Za0 hb ha hsb hsa hQ hP h1) h2) h
 have e:opB 6 P Q=opB 3 P (StG (opB 3 Q P)):=by
  have e2:opB 3 Q P=P9 [Q,P]:=funext fun w=>propext ⟨fun ⟨u,v,h1,h2,h3⟩=>⟨u,v,h1,h2,v,[],(Xq v).symm,h3,rfl⟩,fun ⟨u,v,h1,h2,v2,z,h3,h4,h5⟩=>⟨u,v,h1,h2,by cases h5;rw [h3,Xq];exact h4⟩⟩;rw [e2];exact ZlP P Q
 rw [e];exact this
theorem ZjK {o:Int} (ho:o=3∨o=4∨o=5∨o=6) (ha:IsMin a) (hb:IsMin b) (hsa:a.syms=acts.length) (hsb:b.syms=acts.length) (hP:Lp acts a P) (hQ:Lp acts b Q) (h:Wi o a b= .ok C):Lp acts C (opB o P Q):=by
 rcases ho with rfl|rfl|rfl|rfl
 · exact Za0 ha hb hsa hsb hP hQ h
 · exact Zhm ha hb hsa hsb hP hQ h
 · exact ZjH ha hb hsa hsb hP hQ h
 · exact ZjJ ha hb hsa hsb hP hQ h
variable {acts:List ByteArray}
theorem ZnN {α:Type} {l:List α} (hn:l.Nodup) {x i:Nat} (hx:x<l.length) (hi:i<l.length) (e:l[x]'hx=l[i]'hi):x=i:=by
 have h:=Uv.1 hn
 rcases Nat.lt_trichotomy x i with h1|h1|h1
 · exact UT e (h x i hx hi h1)
 · exact h1
 · exact UT e.symm (h i x hi hx h1)
theorem ZjL {a:ByteArray} (hn:acts.Nodup) (hm:acts.length≤40) (ha:a∈acts) {A:Aut} (h:Jd (GJ acts.length (idx (fun x=>Js x a) acts))= .ok A):Lp acts A (fun w=>w=[a]):=fun w hw=>by
 obtain ⟨i,h2,h3,_⟩:=Ti ha
 unfold Y0 at h2
 rw [h2] at h
 have hi:=(XM.1 h3).1
 have hok:Z5 (GJ acts.length (i:Nat))=true:=P' hm oM
 rw [(OJ h).2.2 w hw,Ho (WS hok).toAOk (ZaZ hw)]
 have key:∀{s t:Int} {v:List Int},Pth (GJ acts.length (i:Nat)) s v t→(s=t∧v=[])∨(s=0∧t=1∧v=[(i:Int)]):=fun h=>by
  induction h with
  |nil s=>exact .inl ⟨rfl,rfl⟩
  | eps hm hs _ _=>
    cases Xl.1 hm;dsimp only at hs;omega
  | sym hm hs _ ih=>
    cases Xl.1 hm;dsimp only at ih ⊢;rcases ih with ⟨h1,h2⟩|⟨h1,_⟩
    · exact .inr ⟨rfl,h1.symm,by rw [h2]⟩
    · omega
 constructor
 · rintro ⟨s,hs,f,hf,hp⟩
   cases Xl.1 hs
   cases Xl.1 hf;rcases key hp with ⟨h1,_⟩|⟨_,_,h1⟩
   · omega
   · unfold wI at h1;rw [List.map_eq_singleton_iff] at h1;obtain ⟨x,rfl,hx⟩:=h1;obtain rfl:x=i:=oM;show [(acts[x]?).getD ByteArray.empty]=[a];rw [h3];rfl
 · intro h;have h:w.map (fun i=>(acts[i]?).getD ByteArray.empty)=[a]:=h;rw [List.map_eq_singleton_iff] at h;obtain ⟨x,rfl,hx⟩:=h;have hxl:=hw x (Xl.2 rfl);rw [XW hxl] at hx;have e:acts[x]'hxl=acts[i]'hi:=by rw [(XM.1 h3).2];exact hx
   obtain rfl:x=i:=ZnN hn _ _ e;refine ⟨0,Xl.2 rfl,1,Xl.2 rfl,?_⟩;exact Pth.sym (a:=GJ acts.length (x:Nat)) (m:=⟨0,1,(x:Nat)⟩) (Xl.2 rfl) (by dsimp only;omega) (.nil 1)
theorem ZlS (hm:acts.length≤40) {A:Aut} (h:Jd (Rz acts.length)= .ok A):Lp acts A (fun w=>w=[]):=fun w hw=>by
 have hok:Z5 (Rz acts.length)=true:=ES hm
 rw [(OJ h).2.2 w hw,Ho (WS hok).toAOk (ZaZ hw)]
 constructor
 · rintro ⟨s,hs,f,hf,hp⟩;have e:∀{s t:Int} {v:List Int},Pth (Rz acts.length) s v t→v=[]:=fun h=>by
    cases h with
    |nil s=>rfl
    |eps hm _ _=>cases hm
    |sym hm _ _=>cases hm
   show w.map _=[];rw [Up.1 (e hp)];rfl
 · intro h;have:w=[]:=Up.1 h;subst this;exact ⟨0,Xl.2 rfl,0,Xl.2 rfl, .nil 0⟩
theorem ZlT {o:Int} (ho:o=3∨o=4∨o=5) (a:ByteArray) (P:Lg):opG o a [P]=P:=by
 rcases ho with rfl|rfl|rfl
 · exact ZfQ P
 · exact funext fun w=>propext ⟨fun ⟨A,h1,h2⟩=>by cases Xl.1 h1;exact h2,fun h=>⟨P,Xl.2 rfl,h⟩⟩
 · exact and_one P
theorem ZjM {o:Int} (ho:o=3∨o=4∨o=5) (a:ByteArray) (m:List Lg) (Q:Lg):opG o a (m++[Q])=opB o (opG o a m) Q:=by
 rcases ho with rfl|rfl|rfl
 · show P9 (m++[Q])=_;rw [ZfO,ZfQ];rfl
 · exact funext fun w=>propext ⟨fun ⟨A,h1,h2⟩=>(Xt.1 h1).elim (fun h=> .inl ⟨A,h,h2⟩) (fun h=>by cases Xl.1 h;exact .inr h2),fun h=>h.elim (fun ⟨A,h1,h2⟩=>⟨A,XZ _ h1,h2⟩) fun h=>⟨Q,X6 _ (Xl.2 rfl),h⟩⟩
 · show Ct (m++[Q])=_;rw [ZfP,and_one];rfl
def Zc3 (acts:List ByteArray) (r:Option Aut) (P:Lg):Prop:=∀A,r=some A→IsMin A∧A.syms=acts.length∧Lp acts A P
theorem Zc4 {o:Int} (ho:o=3∨o=4∨o=5∨o=6) {r p:Option Aut} {P Q:Lg} (hr:Zc3 acts r P) (hp:Zc3 acts p Q):Zc3 acts (Gx o r p) (opB o P Q):=by
 match r,p with
 | some a,some b=>
   obtain ⟨ha,hsa,hP⟩:=hr a rfl;obtain ⟨hb,hsb,hQ⟩:=hp b rfl;intro A hA;obtain ⟨h1,h2,h3⟩:=(Rk o ha hb hsa hsb).ok hA;exact ⟨h2,h3,ZjK ho ha hb hsa hsb hP hQ h1⟩
 |none,_=>exact fun A hA=>by cases hA
 |some _,none=>exact fun A hA=>by cases hA
theorem Zc5 {o:Int} (ho:o=3∨o=4∨o=5) (a:ByteArray):∀(l:List Nd) (f:Nd→Option Aut) (r:Option Aut) (m:List Lg),Zc3 acts r (opG o a m)→(∀x∈l,Zc3 acts (f x) (T2 x))→Zc3 acts ((l.map f).foldl (Gx o) r) (opG o a (m++l.map T2))
 |[],f,r,m,h,_=>by rw [Va,Va,Xq];exact h
 | x::l,f,r,m,h,h2=>by
   have:=Zc5 ho a l f (Gx o r (f x)) (m++[T2 x]) (by rw [ZjM ho];exact Zc4 oM h (h2 x (Xm ..))) fun y hy=>h2 y (Xn _ hy);rw [Xy] at this;exact this
theorem OU {a:ByteArray} {l:List Nd} (h:rightT (.mk 6 a l)=true):∃x y,l=[x,y]:=by
 unfold rightT at h
 simp [Nd.op,Nd.l,Nd.act] at h
 match l,h with
 |[x,y],_=>exact ⟨x,y,rfl⟩
theorem EW {o:Int} (ho:o=3∨o=4∨o=5) {a:ByteArray} {l:List Nd} (h:rightT (.mk o a l)=true):∃x m,l=x::m:=by
 cases l with
 |nil=>rcases ho with rfl|rfl|rfl<;>simp [rightT,Nd.op,Nd.l] at h
 |cons x m=>exact ⟨x,m,rfl⟩
theorem ZjN (hn:acts.Nodup) (hm:acts.length≤40):∀t:Nd,okT t=true→(∀s∈YI t,s∈acts)→Zc3 acts (bldT acts t) (T2 t):=Nd.ind fun o a l ih hok ha=>by
 obtain ⟨hr,hp⟩:=K1.1 hok
 have hops:=S0 hr
 simp only [Nd.op,Nd.l] at hops hp
 have hpart:∀x∈l,o≠1→Zc3 acts (bldT acts x) (T2 x):=fun x hx h1=>ih x hx (hp x hx) fun s hs=>ha s (by rw [YI,UR h1];exact Sg.2 ⟨x,hx,hs⟩)
 by_cases h1:o=1
 · subst h1;intro A hA;have hmem:a∈acts:=ha a (by rw [YI,US rfl];exact Xm ..);rw [bldT,US rfl] at hA;obtain ⟨i,h2,h3,_⟩:=Ti hmem;have hi:=(XM.1 h3).1;obtain ⟨k1,k2,k3⟩:=(Gy (m:=acts.length) (P' hm (by unfold Y0 at h2;rw [h2];omega)) rfl).ok hA;exact ⟨k2,k3,ZjL hn hm hmem k1⟩
 by_cases h2:o=2
 · subst h2;intro A hA;rw [bldT,UR dC,US rfl] at hA;obtain ⟨k1,k2,k3⟩:=(Gy (m:=acts.length) (ES hm) rfl).ok hA;exact ⟨k2,k3,ZlS hm k1⟩
 rw [ZeR acts o a l h1 h2,ZlO]
 by_cases h6:o=6
 · subst h6;obtain ⟨x,y,rfl⟩:=OU hr;exact Zc4 (o:=6) oM (hpart x sM h1) (hpart y sM h1)
 · have ho:o=3∨o=4∨o=5:=oM;obtain ⟨x,m,rfl⟩:=EW ho hr;exact Zc5 ho a m (bldT acts) (bldT acts x) [T2 x] (by rw [ZlT ho];exact hpart x (Xm ..) h1) fun y hy=>hpart y (Xn _ hy) h1
theorem ZlU {a b:Aut} (ha:IsMin a) (hb:IsMin b) (hs:a.syms=b.syms) (op:Int):cmpX a b op=(false,[],13)∨(cmpX a b op=(true,[],0)∧∀w,Kf a.syms.toNat w→DU op (TK a (wI w)) (TK b (wI w))=false)∨∃u,Kf a.syms.toNat u∧cmpX a b op=(false,wI u,0)∧DU op (TK a (wI u)) (TK b (wI u))=true:=by
 have hf:WH a b=0:=ZaW ha.valid hb.valid hs
 cases hq:prodQ a b with
 |none=>exact .inl (ζI hf ha.red hb.red hq)
 | some q=>
   obtain ⟨o,rows⟩:=q;have hP:PQ a b o rows:=⟨ha,hb,hs,hq⟩;have hc:=ζH (op:=op) hf ha.red hb.red hq
   cases hx:(o.map (WQ a b op)).idxOf? true with
   | none=>
     rw [Zhj hx] at hc;refine .inr (.inl ⟨hc,fun w hw=>?_⟩);obtain ⟨h5,_⟩:=hP.run (op:=op) w hw;obtain ⟨x,hx'⟩:=Zq h5;rw [←hP.fin (op:=op) hw hx']
     cases hp:WQ a b op x with
     |false=>rfl
     | true=>
       exfalso;rw [List.idxOf?_eq_none_iff] at hx;exact hx (Xj.2 ⟨x,Xb hx',hp⟩)
   | some i=>
     rw [Zhi hx] at hc;obtain ⟨hi,_⟩:=ZcZ.1 hx;(have hil:i<o.length:=by have:=Zf hi;rwa [Xe] at this);obtain ⟨u,hu,e,hr⟩:=hP.way (op:=op) i hil;refine .inr (.inr ⟨u,hu,by rw [hc,e],?_⟩);obtain ⟨x,hx'⟩:=Zq hil;rw [←hP.fin (op:=op) hu (x:=x) (by rw [hr];exact hx')];rw [Xh,hx'] at hi;simpa using hi
theorem ZjO (ks:List ByteArray):(Gs ks).Perm ks:=by
 have h:=(Ur (ks.map toB) fun x y=>decide (x≤y)).map ofB
 have e:(ks.map toB).map ofB=ks:=by rw [XH];exact (VL fun s _=>Hi s).trans (List.map_id ks)
 rw [e] at h
 exact h
theorem EX {ks:List ByteArray} {s:ByteArray}:s∈Gs ks↔s∈ks:=(ZjO ks).mem_iff
theorem Za1 {ks:List ByteArray} (h:ks.Nodup):(Gs ks).Nodup:=(ZjO ks).nodup_iff.2 h
noncomputable def unK (a b:Nd):List ByteArray:=colS (colS [] (YI a)) (YI b)
noncomputable def unT (a b:Nd):List ByteArray:=Gs (unK a b)
theorem ZjP (a b:Nd):(unK a b).Nodup:=S2 _ _ (S2 _ _ Vg)
theorem ZfR {a b:Nd} {s:ByteArray}:s∈unK a b↔s∈YI a∨s∈YI b:=by unfold unK;rw [Si,Si];simp
theorem Hr {a b:Nd} {s:ByteArray}:s∈unT a b↔s∈YI a∨s∈YI b:=by unfold unT;rw [EX,ZfR]
theorem ZjQ (a b:Nd):(unT a b).Nodup:=Za1 (ZjP a b)
theorem Hs (a b:Nd):(unT a b).length=(unK a b).length:=Sk _
def nmI (acts:List ByteArray) (w:List Int):List ByteArray:=w.map fun i=>(acts[i.toNat]?).getD ByteArray.empty
noncomputable def eqTX (a b:Nd):Bool×List ByteArray×Int:=
 if Kl a=true∧Kl b=true then
  if (unK a b).length≤40 then match bldT (unT a b) a,bldT (unT a b) b with
   |some x,some y=>((cmpX x y 4).1,nmI (unT a b) (cmpX x y 4).2.1,(cmpX x y 4).2.2)
   |_,_=>(false,[],13)
  else (false,[],5)
 else (false,[],1)
theorem ZjR {acts:List ByteArray} {t:Nd} (hn:acts.Nodup) (hm:acts.length≤40) (hv:Kl t=true) (ha:∀s∈YI t,s∈acts) {A:Aut} (h:bldT acts t=some A):IsMin A∧A.syms=acts.length∧Lp acts A (T2 t):=ZjN hn hm t (Sa hv) ha A h
theorem Zhn {m:Nat} {a:Aut} (h:a.syms=m) {w:List Nat}:Kf a.syms.toNat w↔Kf m w:=by rw [h];rfl
theorem ZlV {t:Nd} (h:(actR t).2=0):Kl t=true∧(actR t).1=Gs (colS [] (YI t))∧(actR t).1.length≤40∧(actR t).1.Nodup∧∀s,s∈(actR t).1↔s∈YI t:=by
 unfold actR at h ⊢
 by_cases h1:Kl t=true
 · rw [US h1] at h ⊢;by_cases h2:(colS [] (YI t)).length≤40
   · rw [US h2] at h ⊢;dsimp only;exact ⟨h1,rfl,by rw [Sk];exact h2,Za1 (S2 _ _ Vg),fun s=>by rw [EX,Si];simp⟩
   · rw [UR h2] at h;cases h
 · rw [UR h1] at h;cases h
theorem ZjS {acts:List ByteArray} {s:ByteArray} (h:¬Y0 acts s<0):∃i:Nat,Y0 acts s=i∧acts[i]? =some s:=by
 by_cases hs:s∈acts
 · obtain ⟨i,h1,h2,_⟩:=Ti hs;exact ⟨i,h1,h2⟩
 · exfalso;refine h ?_;unfold Y0;rw [Gm (fun i y _ hy=>?_)]
   · decide
   · cases h2:Js y s with
     |false=>rfl
     |true=>exact UT (Pa.1 h2▸Xb hy) hs
noncomputable def autTX (t:Nd) (acts:List ByteArray):Except Int Aut:=
 if Kl t=true∧KM acts=true then if ((YI t).any fun s=>decide (Y0 acts s<0))=true then .error 8 else lim (bldT acts t) else .error 1
theorem ZfS:∀t:Nd,okT t=true→(YI t).length≤szT t:=Nd.ind fun o a l ih h=>by
 obtain ⟨hr,hp⟩:=K1.1 h
 have key:∀m:List Nd,(∀x∈m,x∈l)→(JV m).length≤szL m:=fun m=>by
  induction m with
  |nil=>intro _;exact Xg _
  | cons x m ihm=>
    intro hm;rw [JV,szL,Xc];have h1:=ih x (hm x (Xm ..)) (hp x (hm x (Xm ..)));have h2:=ihm fun y hy=>hm y (Xn _ hy);omega
 have:=key l fun _ h=>h
 rw [YI,szT]
 split
 · rw [Xi];omega
 · omega
theorem ζL:∀a b:List UInt8,Op.bytesLess a b=decide (a<b)
 |_,[]=>by simp [Op.bytesLess]
 |[],_::_=>by simp [Op.bytesLess]
 | x::a,y::b=>by
   rw [Op.bytesLess,ζL a b,V4];simp [List.cons_lt_cons_iff]
noncomputable def canB (l:List ByteArray):List ByteArray:=Gs (colS [] l)
theorem ZjT {l:List ByteArray} {s:ByteArray}:s∈canB l↔s∈l:=by unfold canB;rw [EX,Si];simp
def Cu (l:List ByteArray):Prop:=l.Pairwise fun x y=>KI x y=true
theorem ZjU {x y:ByteArray}:KI x y=decide (toB x<toB y):=by
 unfold KI toB
 rw [ζL,ByteArray.toList_eq,ByteArray.toList_eq]
theorem ZjV {ks:List ByteArray} (h:ks.Nodup):Cu (Gs ks):=by
 have htr:∀a b c:List UInt8,decide (a≤b)=true→decide (b≤c)=true→decide (a≤c)=true:=fun a b c h1 h2=>by
  simp only [UO] at*;exact List.le_trans h1 h2
 have hto:∀a b:List UInt8,(decide (a≤b)||decide (b≤a))=true:=fun a b=>by
  simp only [Vc,UO];exact List.le_total a b
 have h1:=Uq htr hto (ks.map toB)
 have h2:(Gs ks).Pairwise fun x y=>decide (toB x≤toB y)=true:=by
  unfold Gs;rw [V7];exact h1.imp fun {a b} h=>by rw [Zfs,Zfs];exact h
 have h3:=Za1 h
 exact List.Pairwise.imp₂ (fun {a b} k1 k2=>by
  rw [ZjU];simp only [UO] at k1 ⊢;refine Decidable.byContradiction fun hn=>k2 ?_;have e:toB a=toB b:=List.le_antisymm k1 (List.not_lt.1 hn);rw [←Hi a,e,Hi]) h2 h3
theorem ZjW (l:List ByteArray):Cu (canB l):=ZjV (S2 _ _ Vg)
theorem ZjX:∀{l m:List ByteArray},Cu l→Cu m→(∀s,s∈l↔s∈m)→l=m:=fun {l m} hl hm h=>by
 have nd:∀{l:List ByteArray},Cu l→l.Nodup:=fun h=>h.imp fun {a b} h e=>by rw [e,PD] at h;cases h
 refine List.Perm.eq_of_pairwise (le:=fun x y=>KI x y=true) (fun a b _ _ h1 h2=>?_) hl hm ((List.perm_ext_iff_of_nodup (nd hl) (nd hm)).2 h)
 exact UT (ZbB h1 h2) (by rw [PD];decide)
theorem ZfT {l m:List ByteArray} (h:Cu l) (hm:∀s,s∈l↔s∈m):l=canB m:=ZjX h (ZjW m) fun s=>by rw [hm,ZjT]
theorem ZjY {α:Type} {a b:List α} (hl:a.length=b.length) (h:∀(j:Nat) (x y:α),a[j]? =some x→b[j]? =some y→x=y):a=b:=by
 refine Vn fun j=>?_
 by_cases hj:j<a.length
 · obtain ⟨x,hx⟩:=Zq hj;obtain ⟨y,hy⟩:=Zq (show j<b.length by omega);rw [hx,hy,h j x y hx hy]
 · rw [XK oM,XK oM]
theorem ZmV {α:Type} {a b:List α} {j:Nat} {x y:α} (hx:a[j]? =some x) (hy:b[j]? =some y) (h:x≠y):a≠b:=fun e=>by
 subst e;rw [hx] at hy;exact h (Option.some.inj hy)
instance:DecidableEq Mv:=fun a b=>if h:eqM a b=true then .isTrue (Ji.1 h) else .isFalse fun e=>h (Ji.2 e)
theorem ZfU (a b:Mv):eqM a b=decide (a=b):=by
 by_cases h:a=b
 · rw [UP h];exact Ji.2 h
 · rw [UQ h]
   cases e:eqM a b with
   |false=>rfl
   |true=>exact UT (Ji.1 e) h
theorem RF (a b:List Int):AF prog 65 [pInts a,pInts b] (· =ZK (decide (a=b))):=by
 refine AF.of_body 26 func65 rfl ntmps65 (Xa rfl) ?_
 intro w0 M0 vs hl hv
 obtain ⟨v0,v1,rfl⟩:=YG hl
 clear hl hv
 refine YO 0 rfl fun hlen=>?_
 refine YO 1 rfl fun hlen2=>?_
 refine Ze ?_
 (refine xL 4 Za ?_<;>refine Zi ?_)
 (refine xL 6 Zb (xL 7 (ZR Zp) (xL 8 Zb (xL 9 (ZR Zp) (xL 10 Yx ?_))))<;>refine Zc ?_)
 refine cX ?_ ?_<;>intro hb10
 · first|exact bN hb10|(
 refine Ze ?_;(refine xL 4 Za ?_<;>refine Zc ?_)
 refine Zy (results65) rfl ?_;rw [UQ (fun e=>by subst e;exact hb10 rfl)])
 · first | exact bN hb10|(
 have hll:a.length=b.length:=oM;refine Ze ?_;(refine xL 5 Za ?_<;>refine Zc ?_)
 refine ZB (ι:={k:Nat//k≤a.length∧∀j x y,j<k→a[j]? =some x→b[j]? =some y→x=y}) (fun k=>⟨[(0,_,_),(1,_,_),(5, .int .i64 k.1,pInt k.1)],[]⟩) (fun k=>a.length-k.1) ⟨0,oM,oM⟩ (fun a w H=>H.weaken ⟨rfl,rfl,rfl,trivial⟩ trivial) ?_;rintro ⟨k,hk,hp⟩;dsimp only;refine Ze ?_;(refine xL 11 Zb (xL 12 Zb (xL 13 (ZR Zp) (xL 14 ZP ?_)))<;>refine Zc ?_)
 refine cX ?_ ?_<;>intro hb14
 · first |exact bN hb14|(
 obtain ⟨x,hx⟩:=Zq (show k<a.length by omega);obtain ⟨y,hy⟩:=Zq (show k<b.length by omega);have e1:=Z7 (f:=pInt) hx;have e2:=Z7 (f:=pInt) hy;refine nav ?_;(refine ZY (fun i=>([]:List Nat).elem i) [] kR ?_<;>refine xD 0 17 rfl Zb ?_<;>refine xD 1 18 rfl Zb ?_<;>refine xD 2 19 rfl (ZI Zp) ?_<;>(refine yD 3 20 rfl (Ya Zg) fun v20 h=>?_;cases h)<;>refine xD 4 21 rfl Zb ?_<;>refine xE 5 22 rfl Zb ?_<;>refine xE 6 23 rfl (ZI Zp) ?_<;>(refine yE 7 24 rfl (Ya Zg) fun v24 h=>?_;cases h)<;>refine xE 8 25 rfl Yx ?_<;>refine Yr kR (nav ?_)<;>try dsimp only)
 refine cX ?_ ?_<;>intro hb25
 · first|exact bN hb25|(
 refine Ze ?_;(refine xL 4 Za ?_<;>refine Zc ?_)
 refine Zy (results65) rfl ?_;rw [UQ (ZmV hx hy (by simpa using hb25))])
 · first|exact bN hb25|(
 refine Ze ?_;(refine xL 15 Zb (xL 16 ZH (xL 5 Za ?_))<;>refine Zc ?_)
 refine Zm (
  ⟨k+1,Zf hx,fun j x' y' hj hx' hy'=>by
   by_cases e:j=k
   · subst e;rw [hx] at hx';rw [hy] at hy';cases hx';cases hy';simpa using hb25
   · exact hp j x' y' oM hx' hy'⟩
  ) (by dsimp only;omega) ⟨rfl,rfl,rfl,trivial⟩ trivial))
 · first|exact bN hb14|(
 refine Ze ?_;(refine xL 4 Za ?_<;>refine Zc ?_)
 refine Zy (results65) rfl ?_;rw [UP (ZjY hll fun j x y hx hy=>hp j x y (by have:=Zf hx;omega) hx hy)]))
def ZeV (x:Int):List Int→List Int
 |[]=>[x]
 |y::l=>if x≤y then x::y::l else y::ZeV x l
def ZlW:List Int→List Int
 |[]=>[]
 |x::l=>ZeV x (ZlW l)
theorem OV (x:Int):∀l,(ZeV x l).Perm (x::l)
 |[]=> .refl _
 | y::l=>by
   unfold ZeV;split
   · exact .refl _
   · exact ((OV x l).cons y).trans (.swap _ _ _)
theorem ζM:∀l,(ZlW l).Perm l
 |[]=> .refl _
 |x::l=>(OV x _).trans ((ζM l).cons x)
theorem ZfV (x:Int):∀l:List Int,l.Pairwise (· ≤ ·)→(ZeV x l).Pairwise (· ≤ ·)
 |[],_=>by simp [ZeV]
 | y ::l,h=>by
   have h':=XQ.1 h;unfold ZeV;split
   · rename_i hxy;refine XQ.2 ⟨fun z hz=>?_,h⟩;rcases Xs.1 hz with rfl|hz
     · exact hxy
     · exact Int.le_trans hxy (h'.1 z hz)
   · rename_i hxy;refine XQ.2 ⟨fun z hz=>?_,ZfV x l h'.2⟩;rcases Xs.1 ((OV x l).mem_iff.1 hz) with rfl|hz
     · omega
     · exact h'.1 z hz
theorem ZfW:∀l,(ZlW l).Pairwise (· ≤ ·)
 |[]=> .nil
 |x::l=>ZfV x _ (ZfW l)
theorem EY:∀{l m:List Int},l.Pairwise (· ≤ ·)→m.Pairwise (· ≤ ·)→l.Perm m→l=m
 |[],[],_,_,_=>rfl
 |[],y::m,_,_,h=>by have:=h.length_eq;simp at this
 |x::l,[],_,_,h=>by have:=h.length_eq;simp at this
 | x ::l,y::m,hl,hm,h=>by
   have hl':=XQ.1 hl;have hm':=XQ.1 hm;have h1:x≤y:=by
    rcases Xs.1 (h.mem_iff.2 (Xm ..)) with e|e
    · omega
    · exact hl'.1 y e
   have h2:y≤x:=by
    rcases Xs.1 (h.mem_iff.1 (Xm ..)) with e|e
    · omega
    · exact hm'.1 x e
   obtain rfl:x=y:=oM;rw [EY hl'.2 hm'.2 ((List.perm_cons x).1 h)]
def Ob (a:Aut) (l:List Int):List Int:=ZlW (Wy a l a.n.toNat)
theorem Oc (a:Aut) (l:List Int):YR a l=Ob a l:=by
 unfold YR Ob
 have h1:((Wy a l a.n.toNat).mergeSort fun x y=>decide (x≤y)).Pairwise (fun x y=>decide (x≤y)=true):=Uq (fun a b c h1 h2=>by simp only [UO] at*;omega) (fun a b=>by simp only [Vc,UO];omega) _
 exact EY (h1.imp fun h=>by simpa using h) (ZfW _) ((Ur _ _).trans (ζM _).symm)
def ZlX (a:Aut) (far:List Int) (n:Int) (p:Pf) (c:Nat):List Pf:=if (WA (Ob a (KQ a c p.2)) far (n-1)).length=0 then [] else [(p.1++[(c:Int)],WA (Ob a (KQ a c p.2)) far (n-1))]
def lvI (a:Aut) (far:List Int) (n:Nat):Nat→List Pf
 |0=>[([],WA (Ob a a.start) far n)]
 |k+1=>(lvI a far n k).flatMap fun p=>(List.range a.syms.toNat).flatMap (ZlX a far ((n:Int)-k) p)
theorem ZeW (a:Aut) (n:Nat):∀k,lvP a n k=lvI a (Wp a) n k
 |0=>by rw [lvP,lvI,Oc]
 | k +1=>by
   rw [lvP,lvI,ZeW a n k];have:∀p,RA a ((n:Int)-k) p=(List.range a.syms.toNat).flatMap (ZlX a (Wp a) ((n:Int)-k) p):=fun p=>by
    unfold RA;have:LH a ((n:Int)-k) p=ZlX a (Wp a) ((n:Int)-k) p:=by
     funext c
     unfold LH ZlX YJ;rw [Oc]
    rw [this]
   exact Sq fun p _=>this p
def ZlY (a:Aut) (far:List Int) (n k:Nat):List (List Int):=(List.range k).flatMap fun i=>PU a (lvI a far n i)
theorem ZfX (a:Aut) (n k:Nat):L1 a n k=ZlY a (Wp a) n k:=by
 unfold L1 ZlY
 simp only [ZeW]
def ZnO (a:Aut) (far:List Int) (n:Nat):Bool:=(List.range (n+1)).any (fun k=>decide (2000<(lvI a far n (k+1)).length))||decide (2000<(ZlY a far n (n+1)).length)
theorem ZlZ (a:Aut) (n:Nat):Zlx a n↔ZnO a (Wp a) n=true:=by
 unfold Zlx ZnO
 rw [ZfX]
 simp only [Vc,VS,XT,UO,ZeW]
 constructor
 · rintro (⟨k,h1,h2⟩|h)
   · exact .inl ⟨k,oM,h2⟩
   · exact .inr h
 · rintro (⟨k,h1,h2⟩|h)
   · exact .inl ⟨k,oM,h2⟩
   · exact .inr h
def ZjZ (a:Aut):Srch (List Int) (List Int):=⟨id,2000,a.syms.toNat,fun _ l s=>Ob a (KQ a (s:Nat) l)⟩
theorem Zl0 (a:Aut):WP a=ZjZ a:=by
 unfold WP ZjZ
 congr 1
 funext _ l s
 unfold YJ
 rw [Oc]
theorem Zl1 {a:Aut} {q:List (List Int)×List (List Nat)} (i:Nat) (h:(ZjZ a).upto (Ob a a.start) i=some q) (hl:q.1.length≤i) (hi:i≤2000):K4 a=some ⟨a.syms.toNat,q.2,q.1.map (WG a)⟩:=by
 unfold K4
 rw [Zl0,Oc,Srch.all_some h hl hi];rfl
theorem Zl2 {a:Aut} {q:List (List Int)×List (List Nat)} {A:Aut} (i:Nat) (h:(ZjZ a).upto (Ob a a.start) i=some q) (hl:q.1.length≤i) (hi:i≤2000) (hA:Wg ⟨a.syms.toNat,q.2,q.1.map (WG a)⟩=some A):W4 a= .ok A:=by
 unfold W4
 rw [Zl1 i h hl hi]
 dsimp only
 rw [hA];rfl
theorem Zj0 {a b A B:Aut} {q:List ((Nat×Nat)×(Int×Int))×List (List Nat)} (i:Nat) (ha:W4 a= .ok A) (hb:W4 b= .ok B) (h:(Wm A B).upto ((0,0),(-1,-1)) i=some q) (hl:q.1.length≤i) (hi:i≤2000):Ta a b= .ok (A,B,q):=by
 unfold Ta
 rw [ha,hb]
 dsimp only
 rw [show prodQ A B=some q from Srch.all_some h hl hi]
theorem Zl3 {a b A B:Aut} {q:List ((Nat×Nat)×(Int×Int))×List (List Nat)} {op:Int} (hf:WH a b=0) (h:Ta a b= .ok (A,B,q)):cmpX a b op=((TJ A B op q).1,(TJ A B op q).2,0):=by
 unfold cmpX
 rw [UR (fun h=>h hf),h]
theorem ZfY {a b:Aut} (h1:a.n=b.n) (h2:a.syms=b.syms) (h3:a.start=b.start) (h4:a.fin=b.fin) (h5:a.moves=b.moves):a=b:=by
 cases a;cases b;simp_all
instance:DecidableEq Aut:=fun a b=>if h:a.n=b.n∧a.syms=b.syms∧a.start=b.start∧a.fin=b.fin∧a.moves=b.moves then .isTrue (ZfY h.1 h.2.1 h.2.2.1 h.2.2.2.1 h.2.2.2.2) else .isFalse fun e=>h (by subst e;exact ⟨rfl,rfl,rfl,rfl,rfl⟩)
set_option maxHeartbeats 1000000 in
theorem Zho (a b:Aut) (hm:a.moves.length≤1000000) (hm':b.moves.length≤1000000):AF prog 18 [ZN a,ZN b] (· =ZK (decide (a=b))):=by
 refine AF.of_body 61 func18 rfl ntmps18 (Xa rfl) ?_
 intro w0 M0 vs hl hv
 obtain ⟨v0,v1,rfl⟩:=YG hl
 clear hl hv
 refine Ze ?_
 (refine ZC 2 5 fun h2=>?_<;>refine ZC 3 5 fun h3=>?_<;>refine xL 4 Za ?_<;>refine Zi ?_)
 (refine xL 6 (Zd 2 ZQ) ?_<;>(refine yL 7 (Zj 2 Zg) fun v7 h=>?_;cases h)<;>refine xL 8 (Zd 3 ZQ) ?_<;>(refine yL 9 (Zj 3 Zg) fun v9 h=>?_;cases h)<;>refine xL 10 Yx (xL 11 Zb ?_)<;>(refine bLd 11 (fun hb11=>?_) (fun hb11=>?_)<;>(first|refine kL 12 ?_|refine xL 12 (Zd 2 Z3) ?_))<;>(first|refine kL 13 ?_|(refine yL 13 (Zj 2 Zg) fun v13 h=>?_;cases h))<;>(first|refine kL 14 ?_|refine xL 14 (Zd 3 Z3) ?_)<;>(first|refine kL 15 ?_|(refine yL 15 (Zj 3 Zg) fun v15 h=>?_;cases h))<;>(first|refine kL 16 ?_|refine xL 16 Yx ?_)<;>refine xL 17 ZG (xL 18 Zb ?_)<;>(first|refine kL 19 ?_|(refine bLd 18 (fun hb18=>?_) (fun hb18=>?_)<;>(first|refine kL 19 ?_|refine xL 19 (Zd 2 Z4) ?_)))<;>(first|refine kL 20 ?_|(refine yL 20 (Zj 2 Zz) fun v20 h=>?_;cases h))<;>(first|refine kL 21 ?_|refine xL 21 (Zd 3 Z4) ?_)<;>(first|refine kL 22 ?_|(refine yL 22 (Zj 3 Zz) fun v22 h=>?_;cases h))<;>(first|refine kL 23 ?_|(refine cS 23 (cA call65 (RF a.start b.start)) fun v23 h=>?_;cases h))<;>(first|refine kL 24 ?_|refine xL 24 Z8 ?_)<;>refine xL 25 ZG (xL 26 Zb ?_)<;>(first|refine kL 27 ?_|(refine bL 26 (fun hb26=>?_) (fun hb26=>?_)<;>(first|refine kL 27 ?_|refine xL 27 (Zd 2 ZX) ?_)))<;>(first|refine kL 28 ?_|(refine yL 28 (Zj 2 Zz) fun v28 h=>?_;cases h))<;>(first|refine kL 29 ?_|refine xL 29 (Zd 3 ZX) ?_)<;>(first|refine kL 30 ?_|(refine yL 30 (Zj 3 Zz) fun v30 h=>?_;cases h))<;>(first|refine kL 31 ?_|(refine cS 31 (cA call65 (RF a.fin b.fin)) fun v31 h=>?_;cases h))<;>(first|refine kL 32 ?_|refine xL 32 Z8 ?_)<;>refine xL 33 ZG (xL 34 Zb ?_)<;>(first|refine kL 35 ?_|(refine bL 34 (fun hb34=>?_) (fun hb34=>?_)<;>(first|refine kL 35 ?_|refine xL 35 (Zd 2 Zw) ?_)))<;>(first|refine kL 36 ?_|(refine yL 36 (Zj 2 ZA) fun v36 h=>?_;cases h))<;>(first|refine kL 37 ?_|refine xL 37 (ZR ZF) ?_)<;>(first|refine kL 38 ?_|refine xL 38 (Zd 3 Zw) ?_)<;>(first|refine kL 39 ?_|(refine yL 39 (Zj 3 ZA) fun v39 h=>?_;cases h))<;>(first|refine kL 40 ?_|refine xL 40 (ZR ZF) ?_)<;>(first|refine kL 41 ?_|refine xL 41 Yx ?_)<;>refine xL 42 ZG ?_<;>refine Zc ?_)<;>(
 refine cX ?_ ?_<;>intro hb42
 · first|exact bN hb42|(
 refine Ze ?_;(refine xL 4 Za ?_<;>refine Zc ?_)
 refine Zy (results18) rfl ?_;rw [UQ (fun e=>by
  subst e
  first
   |exact UT rfl hb42
   |(simp at hb34;done)
   |(simp at hb26;done)
   |exact UT rfl hb18
   |exact UT rfl hb11)])
 · first | exact bN hb42|(
 (have q3:a.start=b.start:=by simpa using hb26);(have q4:a.fin=b.fin:=by simpa using hb34);have hll:a.moves.length=b.moves.length:=oM;have q1:a.n=b.n:=oM;have q2:a.syms=b.syms:=oM;refine Ze ?_;(refine xL 5 Za ?_<;>refine Zc ?_)
 refine ZB (ι:={k:Nat//k≤a.moves.length∧∀j x y,j<k→a.moves[j]? =some x→b.moves[j]? =some y→x=y}) (fun k=>⟨[(2,_,_),(3,_,_),(5, .int .i64 k.1,pInt k.1)],[(2,_,_),(3,_,_)]⟩) (fun k=>a.moves.length-k.1) ⟨0,Xd _,oM⟩ (fun a w H=>H.weaken ⟨rfl,rfl,rfl,trivial⟩ ⟨rfl,rfl,trivial⟩) ?_;rintro ⟨k,hk,hp⟩;dsimp only;refine Ze ?_;(refine xL 43 Zb (xL 44 (Zd 2 Zw) ?_)<;>(refine yL 45 (Zj 2 ZA) fun v45 h=>?_;cases h)<;>refine xL 46 (ZR ZF) (xL 47 ZP ?_)<;>refine Zc ?_)
 refine cX ?_ ?_<;>intro hb47
 · first | exact bN hb47|(
 obtain ⟨x,hx⟩:=Zq (show k<a.moves.length by omega);obtain ⟨y,hy⟩:=Zq (show k<b.moves.length by omega);have e1:=Yh Z0 a.moves k x hx;have e2:=YA Z0 hx;have e3:=Yh Z0 b.moves k y hy;have e4:=YA Z0 hy;refine nav ?_;(refine ZY (fun i=>([]:List Nat).elem i) [2,3] kR ?_<;>refine xD 0 50 rfl (Zd 2 Zw) ?_<;>(refine yD 1 51 rfl (Zj 2 ZA) fun v51 h=>?_;cases h)<;>refine xD 2 52 rfl Zb ?_<;>refine xD 3 53 rfl (ZI ZF) ?_<;>(refine yD 4 54 rfl (Y' ZW) fun v54 h=>?_;cases h)<;>refine xD 5 55 rfl (Zd 3 Zw) ?_<;>(refine yD 6 56 rfl (Zj 3 ZA) fun v56 h=>?_;cases h)<;>refine xE 7 57 rfl Zb ?_<;>refine xE 8 58 rfl (ZI ZF) ?_<;>(refine yE 9 59 rfl (Y' ZW) fun v59 h=>?_;cases h)<;>refine xE 10 60 rfl ((ZmN (us:=vMv x) (us':=vMv y) Zjo Zjp Zjq (Td x y) rfl rfl)) ?_<;>refine Yr kR (nav ?_)<;>try dsimp only)
 refine cX ?_ ?_<;>intro hb60
 · first|exact bN hb60|(
 refine Ze ?_;(refine xL 4 Za ?_<;>refine Zc ?_)
 refine Zy (results18) rfl ?_;have hne:a.moves≠b.moves:=ZmV hx hy (by
  have h:=hb60;rw [ZfU] at h;simpa using h)
 rw [UQ (fun e=>hne (by rw [e]))])
 · first |exact bN hb60|(
 refine Ze ?_;(refine xL 48 Zb (xL 49 ZH (xL 5 Za ?_))<;>refine Zc ?_)
 refine Zm (
  ⟨k +1,Zf hx,fun j x' y' hj hx' hy'=>by
   by_cases e:j=k
   · subst e;rw [hx] at hx';rw [hy] at hy';cases hx';cases hy';have h:=hb60;rw [ZfU] at h;simpa using h
   · exact hp j x' y' oM hx' hy'⟩
  ) (by dsimp only;omega) ⟨rfl,rfl,rfl,trivial⟩ ⟨rfl,rfl,trivial⟩))
 · first|exact bN hb47|(
 refine Ze ?_;(refine xL 4 Za ?_<;>refine Zc ?_)
 refine Zy (results18) rfl ?_;rw [UP (ZfY q1 q2 q3 q4 (ZjY hll fun j x y hx hy=>hp j x y (by have:=Zf hx;omega) hx hy))])))
def LK (a:Aut):List PV:=[pInt a.n,pInt a.syms,pInts a.start,pInts a.fin,pMvs a.moves]
theorem SN (a:Aut):(LK a).length=5:=rfl
theorem Zhp {a:Aut} (h:Z5 a=false):JD a= .error 1:=by unfold JD;rw [h];rfl
theorem Zj1 {a:Aut} (h:Z5 a=true):JD a=Je (KT a):=by unfold JD;rw [h];rfl
def Ky (n:Int) (l:List Int):List Mv:=l.map fun s=>⟨n,s,-1⟩
def T6 (n:Int) (l:List Int):List Mv:=l.map fun s=>⟨s,n,-1⟩
theorem ζN (n:Int) {l:List Int} {k:Nat} {x:Int} (h:l[k]? =some x):Ky n (l.take (k+1))=Ky n (l.take k)++[⟨n,x,-1⟩]:=by unfold Ky;rw [ZT h,Xu];rfl
theorem ζO (n:Int) {l:List Int} {k:Nat} {x:Int} (h:l[k]? =some x):T6 n (l.take (k+1))=T6 n (l.take k)++[⟨x,n,-1⟩]:=by unfold T6;rw [ZT h,Xu];rfl
theorem ZeX (a:Aut):(KT a).moves=a.moves++Ky a.n a.start++T6 a.n a.fin:=rfl
theorem EZ {a:Aut} (h:AOk a):(KT a).moves.length≤1000000:=by
 rw [ZeX,Xc,Xc]
 unfold Ky T6
 rw [Xe,Xe]
 have:=h.ml;have:=h.sl;have:=h.fl
 omega
theorem Zhq (a:Aut) (hv:Z5 a=false):AF prog 90 [ZN a] (· = .tup [KS,pInt 1]):=by
 refine AF.of_body 64 func90 rfl ntmps90 (Xa rfl) ?_
 intro w0 M0 vs hl hv
 obtain ⟨v0,rfl⟩:=Wj hl
 clear hl hv
 refine Ze ?_
 (refine ZC 1 5 fun h1=>?_<;>refine Zx [(.int .i64 0),(.int .i64 0),(.slice none 0 0),(.slice none 0 0),(.slice none 0 0)] 5 2 ZJ fun h2=>?_<;>refine xL 3 Za ?_<;>refine Zi ?_)
 ((refine yL 10 (Zu 1 Zh) fun v10 h=>?_;cases h)<;>(refine cS 11 (cA call107 (Wv a)) fun v11 h=>?_;cases h)<;>refine xL 12 Z8 ?_<;>refine Zc ?_)
 refine cX ?_ ?_<;>intro hb12
 · refine Ze ?_;(refine xL 13 (ZM ZU) ?_<;>refine ZD 2 Zh ?_<;>refine xL 3 Za ?_<;>refine Zc ?_)
   exact Z2 (k:=5) 2 kR (results90) rfl rfl rfl (Xa rfl) dC rfl rfl
 · rw [hv] at hb12;simp at hb12
set_option maxHeartbeats 1000000 in
theorem Zl4 (a:Aut) (hv:Z5 a=true) {p0 p1 p2 p3 p4:PV} {E:Int} (r5:R5 p0 p1 p2 p3 p4) (hr:AF prog 132 [ZN (mkA (KT a))] (· = .tup [.agg [p0,p1,p2,p3,p4],pInt E])):AF prog 90 [ZN a] (· = .tup [.agg [p0,p1,p2,p3,p4],pInt E]):=by
 obtain ⟨o0,o1,o2,o3,o4⟩:=r5.o
 have h:=WS hv
 have hn0:=h.n0
 have hn1:=h.n1
 have hml:=h.ml
 have hsl:=h.sl
 have hfl:=h.fl
 refine AF.of_body 64 func90 rfl ntmps90 (Xa rfl) ?_
 intro w0 M0 vs hl hv
 obtain ⟨v0,rfl⟩:=Wj hl
 clear hl hv
 refine Ze ?_
 (refine ZC 1 5 fun h1=>?_<;>refine Zx [(.int .i64 0),(.int .i64 0),(.slice none 0 0),(.slice none 0 0),(.slice none 0 0)] 5 2 ZJ fun h2=>?_<;>refine xL 3 Za ?_<;>refine Zi ?_)
 ((refine yL 10 (Zu 1 Zh) fun v10 h=>?_;cases h)<;>(refine cS 11 (cA call107 (Wv a)) fun v11 h=>?_;cases h)<;>refine xL 12 Z8 ?_<;>refine Zc ?_)
 refine cX ?_ ?_<;>intro hb12
 · rw [hv] at hb12;simp at hb12
 · refine Ze ?_;(refine xL 14 (Zd 1 ZQ) ?_<;>(refine yL 15 (Zj 1 Zg) fun v15 h=>?_;cases h)<;>refine xL 4 Za ?_<;>refine Zc ?_)
   refine Ot (fun x:{x:Value×Value//x.1.oneCell'=true}=>⟨[(1,padd (sbase h1) 0, .val (padd (sbase h1) 0)),(2,padd (sbase h2) 0, .val (padd (sbase h2) 0)),(4, .int .i64 a.n,pInt a.n),(5,padd (sbase x.1.2) 0, .val (padd (sbase x.1.2) 0))],[(1,h1, .own 39 5 1 [pInt a.n,pInt a.syms,pInts a.start,pInts a.fin,pMvs a.moves]),(2,h2, .own 39 5 1 [pInt 0,pInt 0, .val (.slice none 0 0), .val (.slice none 0 0), .val (.slice none 0 0)]),(5,x.1.2, .own 39 5 1 [pInt (a.n+1),pInt a.syms,pInts [a.n],pInts [a.n], .val x.1.1]),(26,x.1.1, .own 93 3 a.moves.length (a.moves.flatMap cMv))]⟩) ?_ ?_
   · (refine ZY (fun i=>([]:List Nat).elem i) [1] kR ?_<;>refine xD 0 16 rfl Zb ?_<;>refine xD 1 17 rfl ZH ?_<;>refine xD 2 18 rfl (Zd 1 Z3) ?_<;>(refine yD 3 19 rfl (Zj 1 Zg) fun v19 h=>?_;cases h)<;>refine xD 4 20 rfl Zb ?_<;>refine xD 6 22 rfl Zb ?_<;>refine xD 8 24 rfl (Zd 1 Zw) ?_<;>(refine yD 9 25 rfl (Zj 1 ZA) fun v25 h=>?_;cases h)<;>(refine Zlf 5 7 10 12 kR ?_ ?_ ?_ ?_;rotate_right;(focus ((refine Zo rfl fun w9 M9 N9 DQ back=>?_)<;>refine Zx [(.int .i64 0),(.int .i64 0),(.slice none 0 0),(.slice none 0 0),(.slice none 0 0)] 5 5 ZJ fun h5=>?_<;>refine Zl (back _ (nrm ?_))<;>(refine LR 5 7 10 kR ?_ ?_ ?_;rotate_right;(focus ((refine Zo rfl fun w9 M9 N9 DQ back=>?_)<;>refine cO 26 (cA call138 (YY a.moves oM)) fun v26 ho26=>?_<;>refine Zl (back _ (nrm ?_))<;>(refine Y8 5 7 kR ?_ ?_;rotate_right;(focus ((refine Zo rfl fun w9 M9 N9 DQ back=>?_)<;>(refine ZO (kk:=1) 23 Zn fun h23 ho23=>?_;refine Zt (En.freeze (l:=23) (t:=23) rfl rfl) fun _=>?_;rw [show share (PV.own 3 1 1 [PV.val (.int .i64 a.n)])=pInts [a.n] from rfl])<;>refine Zl (back _ (nrm ?_))<;>(refine Zr 5 kR ?_)<;>(refine Zo rfl fun w9 M9 N9 DQ back=>?_)<;>(refine ZO (kk:=1) 21 Zn fun h21 ho21=>?_;refine Zt (En.freeze (l:=21) (t:=21) rfl rfl) fun _=>?_;rw [show share (PV.own 3 1 1 [PV.val (.int .i64 a.n)])=pInts [a.n] from rfl])<;>refine Zl (back _ (nrm ?_))<;>refine xE 11 27 rfl (ZM ZU) ?_<;>(refine Zr 13 kR ?_)<;>(refine Zo rfl fun w9 M9 N9 DQ back=>?_)<;>(refine ZD 5 (m:=5) kR ?_ (h1:=by show (List.all [pInt (a.n+1),pInt a.syms,pInts [a.n],pInts [a.n],PV.val v26] En.one)=true;simp only [XF,XG,XE,Xf];exact ⟨rfl,rfl,rfl,rfl,ho26⟩))<;>refine Zl (back _ (nrm ?_))));rotate_right;(focus ((refine Zo rfl fun w9 M9 N9 DQ back=>?_)<;>(refine ZO (kk:=1) 21 Zn fun h21 ho21=>?_;refine Zt (En.freeze (l:=21) (t:=21) rfl rfl) fun _=>?_;rw [show share (PV.own 3 1 1 [PV.val (.int .i64 a.n)])=pInts [a.n] from rfl])<;>refine Zl (back _ (nrm ?_))<;>(refine Zr 7 kR ?_)<;>(refine Zo rfl fun w9 M9 N9 DQ back=>?_)<;>(refine ZO (kk:=1) 23 Zn fun h23 ho23=>?_;refine Zt (En.freeze (l:=23) (t:=23) rfl rfl) fun _=>?_;rw [show share (PV.own 3 1 1 [PV.val (.int .i64 a.n)])=pInts [a.n] from rfl])<;>refine Zl (back _ (nrm ?_))<;>refine xE 11 27 rfl (ZM ZU) ?_<;>(refine Zr 13 kR ?_)<;>(refine Zo rfl fun w9 M9 N9 DQ back=>?_)<;>(refine ZD 5 (m:=5) kR ?_ (h1:=by show (List.all [pInt (a.n+1),pInt a.syms,pInts [a.n],pInts [a.n],PV.val v26] En.one)=true;simp only [XF,XG,XE,Xf];exact ⟨rfl,rfl,rfl,rfl,ho26⟩))<;>refine Zl (back _ (nrm ?_)))))));rotate_right;(focus ((refine Zo rfl fun w9 M9 N9 DQ back=>?_)<;>(refine ZO (kk:=1) 23 Zn fun h23 ho23=>?_;refine Zt (En.freeze (l:=23) (t:=23) rfl rfl) fun _=>?_;rw [show share (PV.own 3 1 1 [PV.val (.int .i64 a.n)])=pInts [a.n] from rfl])<;>refine Zl (back _ (nrm ?_))<;>(refine Y8 5 10 kR ?_ ?_;rotate_right;(focus ((refine Zo rfl fun w9 M9 N9 DQ back=>?_)<;>refine cO 26 (cA call138 (YY a.moves oM)) fun v26 ho26=>?_<;>refine Zl (back _ (nrm ?_))<;>(refine Zr 5 kR ?_)<;>(refine Zo rfl fun w9 M9 N9 DQ back=>?_)<;>(refine ZO (kk:=1) 21 Zn fun h21 ho21=>?_;refine Zt (En.freeze (l:=21) (t:=21) rfl rfl) fun _=>?_;rw [show share (PV.own 3 1 1 [PV.val (.int .i64 a.n)])=pInts [a.n] from rfl])<;>refine Zl (back _ (nrm ?_))<;>refine xE 11 27 rfl (ZM ZU) ?_<;>(refine Zr 13 kR ?_)<;>(refine Zo rfl fun w9 M9 N9 DQ back=>?_)<;>(refine ZD 5 (m:=5) kR ?_ (h1:=by show (List.all [pInt (a.n+1),pInt a.syms,pInts [a.n],pInts [a.n],PV.val v26] En.one)=true;simp only [XF,XG,XE,Xf];exact ⟨rfl,rfl,rfl,rfl,ho26⟩))<;>refine Zl (back _ (nrm ?_))));rotate_right;(focus ((refine Zo rfl fun w9 M9 N9 DQ back=>?_)<;>(refine ZO (kk:=1) 21 Zn fun h21 ho21=>?_;refine Zt (En.freeze (l:=21) (t:=21) rfl rfl) fun _=>?_;rw [show share (PV.own 3 1 1 [PV.val (.int .i64 a.n)])=pInts [a.n] from rfl])<;>refine Zl (back _ (nrm ?_))<;>(refine Zr 10 kR ?_)<;>(refine Zo rfl fun w9 M9 N9 DQ back=>?_)<;>refine cO 26 (cA call138 (YY a.moves oM)) fun v26 ho26=>?_<;>refine Zl (back _ (nrm ?_))<;>refine xE 11 27 rfl (ZM ZU) ?_<;>(refine Zr 13 kR ?_)<;>(refine Zo rfl fun w9 M9 N9 DQ back=>?_)<;>(refine ZD 5 (m:=5) kR ?_ (h1:=by show (List.all [pInt (a.n+1),pInt a.syms,pInts [a.n],pInts [a.n],PV.val v26] En.one)=true;simp only [XF,XG,XE,Xf];exact ⟨rfl,rfl,rfl,rfl,ho26⟩))<;>refine Zl (back _ (nrm ?_)))))));rotate_right;(focus ((refine Zo rfl fun w9 M9 N9 DQ back=>?_)<;>(refine ZO (kk:=1) 21 Zn fun h21 ho21=>?_;refine Zt (En.freeze (l:=21) (t:=21) rfl rfl) fun _=>?_;rw [show share (PV.own 3 1 1 [PV.val (.int .i64 a.n)])=pInts [a.n] from rfl])<;>refine Zl (back _ (nrm ?_))<;>(refine Y8 7 10 kR ?_ ?_;rotate_right;(focus ((refine Zo rfl fun w9 M9 N9 DQ back=>?_)<;>refine cO 26 (cA call138 (YY a.moves oM)) fun v26 ho26=>?_<;>refine Zl (back _ (nrm ?_))<;>(refine Zr 7 kR ?_)<;>(refine Zo rfl fun w9 M9 N9 DQ back=>?_)<;>(refine ZO (kk:=1) 23 Zn fun h23 ho23=>?_;refine Zt (En.freeze (l:=23) (t:=23) rfl rfl) fun _=>?_;rw [show share (PV.own 3 1 1 [PV.val (.int .i64 a.n)])=pInts [a.n] from rfl])<;>refine Zl (back _ (nrm ?_))<;>refine xE 11 27 rfl (ZM ZU) ?_<;>(refine Zr 13 kR ?_)<;>(refine Zo rfl fun w9 M9 N9 DQ back=>?_)<;>(refine ZD 5 (m:=5) kR ?_ (h1:=by show (List.all [pInt (a.n+1),pInt a.syms,pInts [a.n],pInts [a.n],PV.val v26] En.one)=true;simp only [XF,XG,XE,Xf];exact ⟨rfl,rfl,rfl,rfl,ho26⟩))<;>refine Zl (back _ (nrm ?_))));rotate_right;(focus ((refine Zo rfl fun w9 M9 N9 DQ back=>?_)<;>(refine ZO (kk:=1) 23 Zn fun h23 ho23=>?_;refine Zt (En.freeze (l:=23) (t:=23) rfl rfl) fun _=>?_;rw [show share (PV.own 3 1 1 [PV.val (.int .i64 a.n)])=pInts [a.n] from rfl])<;>refine Zl (back _ (nrm ?_))<;>(refine Zr 10 kR ?_)<;>(refine Zo rfl fun w9 M9 N9 DQ back=>?_)<;>refine cO 26 (cA call138 (YY a.moves oM)) fun v26 ho26=>?_<;>refine Zl (back _ (nrm ?_))<;>refine xE 11 27 rfl (ZM ZU) ?_<;>(refine Zr 13 kR ?_)<;>(refine Zo rfl fun w9 M9 N9 DQ back=>?_)<;>(refine ZD 5 (m:=5) kR ?_ (h1:=by show (List.all [pInt (a.n+1),pInt a.syms,pInts [a.n],pInts [a.n],PV.val v26] En.one)=true;simp only [XF,XG,XE,Xf];exact ⟨rfl,rfl,rfl,rfl,ho26⟩))<;>refine Zl (back _ (nrm ?_))))))))));rotate_right;(focus ((refine Zo rfl fun w9 M9 N9 DQ back=>?_)<;>refine cO 26 (cA call138 (YY a.moves oM)) fun v26 ho26=>?_<;>refine Zl (back _ (nrm ?_))<;>(refine LR 5 7 12 kR ?_ ?_ ?_;rotate_right;(focus ((refine Zo rfl fun w9 M9 N9 DQ back=>?_)<;>refine Zx [(.int .i64 0),(.int .i64 0),(.slice none 0 0),(.slice none 0 0),(.slice none 0 0)] 5 5 ZJ fun h5=>?_<;>refine Zl (back _ (nrm ?_))<;>(refine Y8 5 7 kR ?_ ?_;rotate_right;(focus ((refine Zo rfl fun w9 M9 N9 DQ back=>?_)<;>(refine ZO (kk:=1) 23 Zn fun h23 ho23=>?_;refine Zt (En.freeze (l:=23) (t:=23) rfl rfl) fun _=>?_;rw [show share (PV.own 3 1 1 [PV.val (.int .i64 a.n)])=pInts [a.n] from rfl])<;>refine Zl (back _ (nrm ?_))<;>(refine Zr 5 kR ?_)<;>(refine Zo rfl fun w9 M9 N9 DQ back=>?_)<;>(refine ZO (kk:=1) 21 Zn fun h21 ho21=>?_;refine Zt (En.freeze (l:=21) (t:=21) rfl rfl) fun _=>?_;rw [show share (PV.own 3 1 1 [PV.val (.int .i64 a.n)])=pInts [a.n] from rfl])<;>refine Zl (back _ (nrm ?_))<;>refine xE 11 27 rfl (ZM ZU) ?_<;>(refine Zr 13 kR ?_)<;>(refine Zo rfl fun w9 M9 N9 DQ back=>?_)<;>(refine ZD 5 (m:=5) kR ?_ (h1:=by show (List.all [pInt (a.n+1),pInt a.syms,pInts [a.n],pInts [a.n],PV.val v26] En.one)=true;simp only [XF,XG,XE,Xf];exact ⟨rfl,rfl,rfl,rfl,ho26⟩))<;>refine Zl (back _ (nrm ?_))));rotate_right;(focus ((refine Zo rfl fun w9 M9 N9 DQ back=>?_)<;>(refine ZO (kk:=1) 21 Zn fun h21 ho21=>?_;refine Zt (En.freeze (l:=21) (t:=21) rfl rfl) fun _=>?_;rw [show share (PV.own 3 1 1 [PV.val (.int .i64 a.n)])=pInts [a.n] from rfl])<;>refine Zl (back _ (nrm ?_))<;>(refine Zr 7 kR ?_)<;>(refine Zo rfl fun w9 M9 N9 DQ back=>?_)<;>(refine ZO (kk:=1) 23 Zn fun h23 ho23=>?_;refine Zt (En.freeze (l:=23) (t:=23) rfl rfl) fun _=>?_;rw [show share (PV.own 3 1 1 [PV.val (.int .i64 a.n)])=pInts [a.n] from rfl])<;>refine Zl (back _ (nrm ?_))<;>refine xE 11 27 rfl (ZM ZU) ?_<;>(refine Zr 13 kR ?_)<;>(refine Zo rfl fun w9 M9 N9 DQ back=>?_)<;>(refine ZD 5 (m:=5) kR ?_ (h1:=by show (List.all [pInt (a.n+1),pInt a.syms,pInts [a.n],pInts [a.n],PV.val v26] En.one)=true;simp only [XF,XG,XE,Xf];exact ⟨rfl,rfl,rfl,rfl,ho26⟩))<;>refine Zl (back _ (nrm ?_)))))));rotate_right;(focus ((refine Zo rfl fun w9 M9 N9 DQ back=>?_)<;>(refine ZO (kk:=1) 23 Zn fun h23 ho23=>?_;refine Zt (En.freeze (l:=23) (t:=23) rfl rfl) fun _=>?_;rw [show share (PV.own 3 1 1 [PV.val (.int .i64 a.n)])=pInts [a.n] from rfl])<;>refine Zl (back _ (nrm ?_))<;>(refine Y8 5 12 kR ?_ ?_;rotate_right;(focus ((refine Zo rfl fun w9 M9 N9 DQ back=>?_)<;>refine Zx [(.int .i64 0),(.int .i64 0),(.slice none 0 0),(.slice none 0 0),(.slice none 0 0)] 5 5 ZJ fun h5=>?_<;>refine Zl (back _ (nrm ?_))<;>(refine Zr 5 kR ?_)<;>(refine Zo rfl fun w9 M9 N9 DQ back=>?_)<;>(refine ZO (kk:=1) 21 Zn fun h21 ho21=>?_;refine Zt (En.freeze (l:=21) (t:=21) rfl rfl) fun _=>?_;rw [show share (PV.own 3 1 1 [PV.val (.int .i64 a.n)])=pInts [a.n] from rfl])<;>refine Zl (back _ (nrm ?_))<;>refine xE 11 27 rfl (ZM ZU) ?_<;>(refine Zr 13 kR ?_)<;>(refine Zo rfl fun w9 M9 N9 DQ back=>?_)<;>(refine ZD 5 (m:=5) kR ?_ (h1:=by show (List.all [pInt (a.n+1),pInt a.syms,pInts [a.n],pInts [a.n],PV.val v26] En.one)=true;simp only [XF,XG,XE,Xf];exact ⟨rfl,rfl,rfl,rfl,ho26⟩))<;>refine Zl (back _ (nrm ?_))));rotate_right;(focus ((refine Zo rfl fun w9 M9 N9 DQ back=>?_)<;>(refine ZO (kk:=1) 21 Zn fun h21 ho21=>?_;refine Zt (En.freeze (l:=21) (t:=21) rfl rfl) fun _=>?_;rw [show share (PV.own 3 1 1 [PV.val (.int .i64 a.n)])=pInts [a.n] from rfl])<;>refine Zl (back _ (nrm ?_))<;>refine xD 11 27 rfl (ZM ZU) ?_<;>(refine Zr 12 kR ?_)<;>(refine Zo rfl fun w9 M9 N9 DQ back=>?_)<;>refine Zx [(.int .i64 0),(.int .i64 0),(.slice none 0 0),(.slice none 0 0),(.slice none 0 0)] 5 5 ZJ fun h5=>?_<;>refine Zl (back _ (nrm ?_))<;>(refine Zr 13 kR ?_)<;>(refine Zo rfl fun w9 M9 N9 DQ back=>?_)<;>(refine ZD 5 (m:=5) kR ?_ (h1:=by show (List.all [pInt (a.n+1),pInt a.syms,pInts [a.n],pInts [a.n],PV.val v26] En.one)=true;simp only [XF,XG,XE,Xf];exact ⟨rfl,rfl,rfl,rfl,ho26⟩))<;>refine Zl (back _ (nrm ?_)))))));rotate_right;(focus ((refine Zo rfl fun w9 M9 N9 DQ back=>?_)<;>(refine ZO (kk:=1) 21 Zn fun h21 ho21=>?_;refine Zt (En.freeze (l:=21) (t:=21) rfl rfl) fun _=>?_;rw [show share (PV.own 3 1 1 [PV.val (.int .i64 a.n)])=pInts [a.n] from rfl])<;>refine Zl (back _ (nrm ?_))<;>(refine Y8 7 12 kR ?_ ?_;rotate_right;(focus ((refine Zo rfl fun w9 M9 N9 DQ back=>?_)<;>refine Zx [(.int .i64 0),(.int .i64 0),(.slice none 0 0),(.slice none 0 0),(.slice none 0 0)] 5 5 ZJ fun h5=>?_<;>refine Zl (back _ (nrm ?_))<;>(refine Zr 7 kR ?_)<;>(refine Zo rfl fun w9 M9 N9 DQ back=>?_)<;>(refine ZO (kk:=1) 23 Zn fun h23 ho23=>?_;refine Zt (En.freeze (l:=23) (t:=23) rfl rfl) fun _=>?_;rw [show share (PV.own 3 1 1 [PV.val (.int .i64 a.n)])=pInts [a.n] from rfl])<;>refine Zl (back _ (nrm ?_))<;>refine xE 11 27 rfl (ZM ZU) ?_<;>(refine Zr 13 kR ?_)<;>(refine Zo rfl fun w9 M9 N9 DQ back=>?_)<;>(refine ZD 5 (m:=5) kR ?_ (h1:=by show (List.all [pInt (a.n+1),pInt a.syms,pInts [a.n],pInts [a.n],PV.val v26] En.one)=true;simp only [XF,XG,XE,Xf];exact ⟨rfl,rfl,rfl,rfl,ho26⟩))<;>refine Zl (back _ (nrm ?_))));rotate_right;(focus ((refine Zo rfl fun w9 M9 N9 DQ back=>?_)<;>(refine ZO (kk:=1) 23 Zn fun h23 ho23=>?_;refine Zt (En.freeze (l:=23) (t:=23) rfl rfl) fun _=>?_;rw [show share (PV.own 3 1 1 [PV.val (.int .i64 a.n)])=pInts [a.n] from rfl])<;>refine Zl (back _ (nrm ?_))<;>refine xD 11 27 rfl (ZM ZU) ?_<;>(refine Zr 12 kR ?_)<;>(refine Zo rfl fun w9 M9 N9 DQ back=>?_)<;>refine Zx [(.int .i64 0),(.int .i64 0),(.slice none 0 0),(.slice none 0 0),(.slice none 0 0)] 5 5 ZJ fun h5=>?_<;>refine Zl (back _ (nrm ?_))<;>(refine Zr 13 kR ?_)<;>(refine Zo rfl fun w9 M9 N9 DQ back=>?_)<;>(refine ZD 5 (m:=5) kR ?_ (h1:=by show (List.all [pInt (a.n+1),pInt a.syms,pInts [a.n],pInts [a.n],PV.val v26] En.one)=true;simp only [XF,XG,XE,Xf];exact ⟨rfl,rfl,rfl,rfl,ho26⟩))<;>refine Zl (back _ (nrm ?_))))))))));rotate_right;(focus ((refine Zo rfl fun w9 M9 N9 DQ back=>?_)<;>(refine ZO (kk:=1) 23 Zn fun h23 ho23=>?_;refine Zt (En.freeze (l:=23) (t:=23) rfl rfl) fun _=>?_;rw [show share (PV.own 3 1 1 [PV.val (.int .i64 a.n)])=pInts [a.n] from rfl])<;>refine Zl (back _ (nrm ?_))<;>(refine LR 5 10 12 kR ?_ ?_ ?_;rotate_right;(focus ((refine Zo rfl fun w9 M9 N9 DQ back=>?_)<;>refine Zx [(.int .i64 0),(.int .i64 0),(.slice none 0 0),(.slice none 0 0),(.slice none 0 0)] 5 5 ZJ fun h5=>?_<;>refine Zl (back _ (nrm ?_))<;>(refine Y8 5 10 kR ?_ ?_;rotate_right;(focus ((refine Zo rfl fun w9 M9 N9 DQ back=>?_)<;>refine cO 26 (cA call138 (YY a.moves oM)) fun v26 ho26=>?_<;>refine Zl (back _ (nrm ?_))<;>(refine Zr 5 kR ?_)<;>(refine Zo rfl fun w9 M9 N9 DQ back=>?_)<;>(refine ZO (kk:=1) 21 Zn fun h21 ho21=>?_;refine Zt (En.freeze (l:=21) (t:=21) rfl rfl) fun _=>?_;rw [show share (PV.own 3 1 1 [PV.val (.int .i64 a.n)])=pInts [a.n] from rfl])<;>refine Zl (back _ (nrm ?_))<;>refine xE 11 27 rfl (ZM ZU) ?_<;>(refine Zr 13 kR ?_)<;>(refine Zo rfl fun w9 M9 N9 DQ back=>?_)<;>(refine ZD 5 (m:=5) kR ?_ (h1:=by show (List.all [pInt (a.n+1),pInt a.syms,pInts [a.n],pInts [a.n],PV.val v26] En.one)=true;simp only [XF,XG,XE,Xf];exact ⟨rfl,rfl,rfl,rfl,ho26⟩))<;>refine Zl (back _ (nrm ?_))));rotate_right;(focus ((refine Zo rfl fun w9 M9 N9 DQ back=>?_)<;>(refine ZO (kk:=1) 21 Zn fun h21 ho21=>?_;refine Zt (En.freeze (l:=21) (t:=21) rfl rfl) fun _=>?_;rw [show share (PV.own 3 1 1 [PV.val (.int .i64 a.n)])=pInts [a.n] from rfl])<;>refine Zl (back _ (nrm ?_))<;>(refine Zr 10 kR ?_)<;>(refine Zo rfl fun w9 M9 N9 DQ back=>?_)<;>refine cO 26 (cA call138 (YY a.moves oM)) fun v26 ho26=>?_<;>refine Zl (back _ (nrm ?_))<;>refine xE 11 27 rfl (ZM ZU) ?_<;>(refine Zr 13 kR ?_)<;>(refine Zo rfl fun w9 M9 N9 DQ back=>?_)<;>(refine ZD 5 (m:=5) kR ?_ (h1:=by show (List.all [pInt (a.n+1),pInt a.syms,pInts [a.n],pInts [a.n],PV.val v26] En.one)=true;simp only [XF,XG,XE,Xf];exact ⟨rfl,rfl,rfl,rfl,ho26⟩))<;>refine Zl (back _ (nrm ?_)))))));rotate_right;(focus ((refine Zo rfl fun w9 M9 N9 DQ back=>?_)<;>refine cO 26 (cA call138 (YY a.moves oM)) fun v26 ho26=>?_<;>refine Zl (back _ (nrm ?_))<;>(refine Y8 5 12 kR ?_ ?_;rotate_right;(focus ((refine Zo rfl fun w9 M9 N9 DQ back=>?_)<;>refine Zx [(.int .i64 0),(.int .i64 0),(.slice none 0 0),(.slice none 0 0),(.slice none 0 0)] 5 5 ZJ fun h5=>?_<;>refine Zl (back _ (nrm ?_))<;>(refine Zr 5 kR ?_)<;>(refine Zo rfl fun w9 M9 N9 DQ back=>?_)<;>(refine ZO (kk:=1) 21 Zn fun h21 ho21=>?_;refine Zt (En.freeze (l:=21) (t:=21) rfl rfl) fun _=>?_;rw [show share (PV.own 3 1 1 [PV.val (.int .i64 a.n)])=pInts [a.n] from rfl])<;>refine Zl (back _ (nrm ?_))<;>refine xE 11 27 rfl (ZM ZU) ?_<;>(refine Zr 13 kR ?_)<;>(refine Zo rfl fun w9 M9 N9 DQ back=>?_)<;>(refine ZD 5 (m:=5) kR ?_ (h1:=by show (List.all [pInt (a.n+1),pInt a.syms,pInts [a.n],pInts [a.n],PV.val v26] En.one)=true;simp only [XF,XG,XE,Xf];exact ⟨rfl,rfl,rfl,rfl,ho26⟩))<;>refine Zl (back _ (nrm ?_))));rotate_right;(focus ((refine Zo rfl fun w9 M9 N9 DQ back=>?_)<;>(refine ZO (kk:=1) 21 Zn fun h21 ho21=>?_;refine Zt (En.freeze (l:=21) (t:=21) rfl rfl) fun _=>?_;rw [show share (PV.own 3 1 1 [PV.val (.int .i64 a.n)])=pInts [a.n] from rfl])<;>refine Zl (back _ (nrm ?_))<;>refine xD 11 27 rfl (ZM ZU) ?_<;>(refine Zr 12 kR ?_)<;>(refine Zo rfl fun w9 M9 N9 DQ back=>?_)<;>refine Zx [(.int .i64 0),(.int .i64 0),(.slice none 0 0),(.slice none 0 0),(.slice none 0 0)] 5 5 ZJ fun h5=>?_<;>refine Zl (back _ (nrm ?_))<;>(refine Zr 13 kR ?_)<;>(refine Zo rfl fun w9 M9 N9 DQ back=>?_)<;>(refine ZD 5 (m:=5) kR ?_ (h1:=by show (List.all [pInt (a.n+1),pInt a.syms,pInts [a.n],pInts [a.n],PV.val v26] En.one)=true;simp only [XF,XG,XE,Xf];exact ⟨rfl,rfl,rfl,rfl,ho26⟩))<;>refine Zl (back _ (nrm ?_)))))));rotate_right;(focus ((refine Zo rfl fun w9 M9 N9 DQ back=>?_)<;>(refine ZO (kk:=1) 21 Zn fun h21 ho21=>?_;refine Zt (En.freeze (l:=21) (t:=21) rfl rfl) fun _=>?_;rw [show share (PV.own 3 1 1 [PV.val (.int .i64 a.n)])=pInts [a.n] from rfl])<;>refine Zl (back _ (nrm ?_))<;>(refine Y8 10 12 kR ?_ ?_;rotate_right;(focus ((refine Zo rfl fun w9 M9 N9 DQ back=>?_)<;>refine Zx [(.int .i64 0),(.int .i64 0),(.slice none 0 0),(.slice none 0 0),(.slice none 0 0)] 5 5 ZJ fun h5=>?_<;>refine Zl (back _ (nrm ?_))<;>(refine Zr 10 kR ?_)<;>(refine Zo rfl fun w9 M9 N9 DQ back=>?_)<;>refine cO 26 (cA call138 (YY a.moves oM)) fun v26 ho26=>?_<;>refine Zl (back _ (nrm ?_))<;>refine xE 11 27 rfl (ZM ZU) ?_<;>(refine Zr 13 kR ?_)<;>(refine Zo rfl fun w9 M9 N9 DQ back=>?_)<;>(refine ZD 5 (m:=5) kR ?_ (h1:=by show (List.all [pInt (a.n+1),pInt a.syms,pInts [a.n],pInts [a.n],PV.val v26] En.one)=true;simp only [XF,XG,XE,Xf];exact ⟨rfl,rfl,rfl,rfl,ho26⟩))<;>refine Zl (back _ (nrm ?_))));rotate_right;(focus ((refine Zo rfl fun w9 M9 N9 DQ back=>?_)<;>refine cO 26 (cA call138 (YY a.moves oM)) fun v26 ho26=>?_<;>refine Zl (back _ (nrm ?_))<;>refine xD 11 27 rfl (ZM ZU) ?_<;>(refine Zr 12 kR ?_)<;>(refine Zo rfl fun w9 M9 N9 DQ back=>?_)<;>refine Zx [(.int .i64 0),(.int .i64 0),(.slice none 0 0),(.slice none 0 0),(.slice none 0 0)] 5 5 ZJ fun h5=>?_<;>refine Zl (back _ (nrm ?_))<;>(refine Zr 13 kR ?_)<;>(refine Zo rfl fun w9 M9 N9 DQ back=>?_)<;>(refine ZD 5 (m:=5) kR ?_ (h1:=by show (List.all [pInt (a.n+1),pInt a.syms,pInts [a.n],pInts [a.n],PV.val v26] En.one)=true;simp only [XF,XG,XE,Xf];exact ⟨rfl,rfl,rfl,rfl,ho26⟩))<;>refine Zl (back _ (nrm ?_))))))))));rotate_right;(focus ((refine Zo rfl fun w9 M9 N9 DQ back=>?_)<;>(refine ZO (kk:=1) 21 Zn fun h21 ho21=>?_;refine Zt (En.freeze (l:=21) (t:=21) rfl rfl) fun _=>?_;rw [show share (PV.own 3 1 1 [PV.val (.int .i64 a.n)])=pInts [a.n] from rfl])<;>refine Zl (back _ (nrm ?_))<;>(refine LR 7 10 12 kR ?_ ?_ ?_;rotate_right;(focus ((refine Zo rfl fun w9 M9 N9 DQ back=>?_)<;>refine Zx [(.int .i64 0),(.int .i64 0),(.slice none 0 0),(.slice none 0 0),(.slice none 0 0)] 5 5 ZJ fun h5=>?_<;>refine Zl (back _ (nrm ?_))<;>(refine Y8 7 10 kR ?_ ?_;rotate_right;(focus ((refine Zo rfl fun w9 M9 N9 DQ back=>?_)<;>refine cO 26 (cA call138 (YY a.moves oM)) fun v26 ho26=>?_<;>refine Zl (back _ (nrm ?_))<;>(refine Zr 7 kR ?_)<;>(refine Zo rfl fun w9 M9 N9 DQ back=>?_)<;>(refine ZO (kk:=1) 23 Zn fun h23 ho23=>?_;refine Zt (En.freeze (l:=23) (t:=23) rfl rfl) fun _=>?_;rw [show share (PV.own 3 1 1 [PV.val (.int .i64 a.n)])=pInts [a.n] from rfl])<;>refine Zl (back _ (nrm ?_))<;>refine xE 11 27 rfl (ZM ZU) ?_<;>(refine Zr 13 kR ?_)<;>(refine Zo rfl fun w9 M9 N9 DQ back=>?_)<;>(refine ZD 5 (m:=5) kR ?_ (h1:=by show (List.all [pInt (a.n+1),pInt a.syms,pInts [a.n],pInts [a.n],PV.val v26] En.one)=true;simp only [XF,XG,XE,Xf];exact ⟨rfl,rfl,rfl,rfl,ho26⟩))<;>refine Zl (back _ (nrm ?_))));rotate_right;(focus ((refine Zo rfl fun w9 M9 N9 DQ back=>?_)<;>(refine ZO (kk:=1) 23 Zn fun h23 ho23=>?_;refine Zt (En.freeze (l:=23) (t:=23) rfl rfl) fun _=>?_;rw [show share (PV.own 3 1 1 [PV.val (.int .i64 a.n)])=pInts [a.n] from rfl])<;>refine Zl (back _ (nrm ?_))<;>(refine Zr 10 kR ?_)<;>(refine Zo rfl fun w9 M9 N9 DQ back=>?_)<;>refine cO 26 (cA call138 (YY a.moves oM)) fun v26 ho26=>?_<;>refine Zl (back _ (nrm ?_))<;>refine xE 11 27 rfl (ZM ZU) ?_<;>(refine Zr 13 kR ?_)<;>(refine Zo rfl fun w9 M9 N9 DQ back=>?_)<;>(refine ZD 5 (m:=5) kR ?_ (h1:=by show (List.all [pInt (a.n+1),pInt a.syms,pInts [a.n],pInts [a.n],PV.val v26] En.one)=true;simp only [XF,XG,XE,Xf];exact ⟨rfl,rfl,rfl,rfl,ho26⟩))<;>refine Zl (back _ (nrm ?_)))))));rotate_right;(focus ((refine Zo rfl fun w9 M9 N9 DQ back=>?_)<;>refine cO 26 (cA call138 (YY a.moves oM)) fun v26 ho26=>?_<;>refine Zl (back _ (nrm ?_))<;>(refine Y8 7 12 kR ?_ ?_;rotate_right;(focus ((refine Zo rfl fun w9 M9 N9 DQ back=>?_)<;>refine Zx [(.int .i64 0),(.int .i64 0),(.slice none 0 0),(.slice none 0 0),(.slice none 0 0)] 5 5 ZJ fun h5=>?_<;>refine Zl (back _ (nrm ?_))<;>(refine Zr 7 kR ?_)<;>(refine Zo rfl fun w9 M9 N9 DQ back=>?_)<;>(refine ZO (kk:=1) 23 Zn fun h23 ho23=>?_;refine Zt (En.freeze (l:=23) (t:=23) rfl rfl) fun _=>?_;rw [show share (PV.own 3 1 1 [PV.val (.int .i64 a.n)])=pInts [a.n] from rfl])<;>refine Zl (back _ (nrm ?_))<;>refine xE 11 27 rfl (ZM ZU) ?_<;>(refine Zr 13 kR ?_)<;>(refine Zo rfl fun w9 M9 N9 DQ back=>?_)<;>(refine ZD 5 (m:=5) kR ?_ (h1:=by show (List.all [pInt (a.n+1),pInt a.syms,pInts [a.n],pInts [a.n],PV.val v26] En.one)=true;simp only [XF,XG,XE,Xf];exact ⟨rfl,rfl,rfl,rfl,ho26⟩))<;>refine Zl (back _ (nrm ?_))));rotate_right;(focus ((refine Zo rfl fun w9 M9 N9 DQ back=>?_)<;>(refine ZO (kk:=1) 23 Zn fun h23 ho23=>?_;refine Zt (En.freeze (l:=23) (t:=23) rfl rfl) fun _=>?_;rw [show share (PV.own 3 1 1 [PV.val (.int .i64 a.n)])=pInts [a.n] from rfl])<;>refine Zl (back _ (nrm ?_))<;>refine xD 11 27 rfl (ZM ZU) ?_<;>(refine Zr 12 kR ?_)<;>(refine Zo rfl fun w9 M9 N9 DQ back=>?_)<;>refine Zx [(.int .i64 0),(.int .i64 0),(.slice none 0 0),(.slice none 0 0),(.slice none 0 0)] 5 5 ZJ fun h5=>?_<;>refine Zl (back _ (nrm ?_))<;>(refine Zr 13 kR ?_)<;>(refine Zo rfl fun w9 M9 N9 DQ back=>?_)<;>(refine ZD 5 (m:=5) kR ?_ (h1:=by show (List.all [pInt (a.n+1),pInt a.syms,pInts [a.n],pInts [a.n],PV.val v26] En.one)=true;simp only [XF,XG,XE,Xf];exact ⟨rfl,rfl,rfl,rfl,ho26⟩))<;>refine Zl (back _ (nrm ?_)))))));rotate_right;(focus ((refine Zo rfl fun w9 M9 N9 DQ back=>?_)<;>(refine ZO (kk:=1) 23 Zn fun h23 ho23=>?_;refine Zt (En.freeze (l:=23) (t:=23) rfl rfl) fun _=>?_;rw [show share (PV.own 3 1 1 [PV.val (.int .i64 a.n)])=pInts [a.n] from rfl])<;>refine Zl (back _ (nrm ?_))<;>(refine Y8 10 12 kR ?_ ?_;rotate_right;(focus ((refine Zo rfl fun w9 M9 N9 DQ back=>?_)<;>refine Zx [(.int .i64 0),(.int .i64 0),(.slice none 0 0),(.slice none 0 0),(.slice none 0 0)] 5 5 ZJ fun h5=>?_<;>refine Zl (back _ (nrm ?_))<;>(refine Zr 10 kR ?_)<;>(refine Zo rfl fun w9 M9 N9 DQ back=>?_)<;>refine cO 26 (cA call138 (YY a.moves oM)) fun v26 ho26=>?_<;>refine Zl (back _ (nrm ?_))<;>refine xE 11 27 rfl (ZM ZU) ?_<;>(refine Zr 13 kR ?_)<;>(refine Zo rfl fun w9 M9 N9 DQ back=>?_)<;>(refine ZD 5 (m:=5) kR ?_ (h1:=by show (List.all [pInt (a.n+1),pInt a.syms,pInts [a.n],pInts [a.n],PV.val v26] En.one)=true;simp only [XF,XG,XE,Xf];exact ⟨rfl,rfl,rfl,rfl,ho26⟩))<;>refine Zl (back _ (nrm ?_))));rotate_right;(focus ((refine Zo rfl fun w9 M9 N9 DQ back=>?_)<;>refine cO 26 (cA call138 (YY a.moves oM)) fun v26 ho26=>?_<;>refine Zl (back _ (nrm ?_))<;>refine xD 11 27 rfl (ZM ZU) ?_<;>(refine Zr 12 kR ?_)<;>(refine Zo rfl fun w9 M9 N9 DQ back=>?_)<;>refine Zx [(.int .i64 0),(.int .i64 0),(.slice none 0 0),(.slice none 0 0),(.slice none 0 0)] 5 5 ZJ fun h5=>?_<;>refine Zl (back _ (nrm ?_))<;>(refine Zr 13 kR ?_)<;>(refine Zo rfl fun w9 M9 N9 DQ back=>?_)<;>(refine ZD 5 (m:=5) kR ?_ (h1:=by show (List.all [pInt (a.n+1),pInt a.syms,pInts [a.n],pInts [a.n],PV.val v26] En.one)=true;simp only [XF,XG,XE,Xf];exact ⟨rfl,rfl,rfl,rfl,ho26⟩))<;>refine Zl (back _ (nrm ?_)))))))))))<;>refine Yr kR (nav ?_)<;>try dsimp only)<;>(
 exact WM ⟨(v26,h5),ho26⟩ ⟨rfl,rfl,rfl,rfl,trivial⟩ ⟨rfl,rfl,rfl,rfl,trivial⟩)
   · rintro ⟨⟨v26,h5⟩,ho26⟩;dsimp only at ho26 ⊢;refine Zs (ZE (l:=26) 301 rfl rfl) fun _=>?_;refine Zs (ZL (l:=301) (p':= .own 93 3 (a.moves++Ky a.n (a.start.take 0)).length ((a.moves++Ky a.n (a.start.take 0)).flatMap cMv)) rfl (by rw [show Ky a.n (a.start.take 0)=[] from rfl,Xq])) fun _=>?_;refine Ze ?_;(refine xL 28 (Zd 1 Z4) ?_<;>(refine yL 29 (Zj 1 Zz) fun v29 h=>?_;cases h)<;>refine xL 30 (ZR Zp) (xL 31 Zb ?_)<;>refine Zc ?_)
     refine ZB (ι:={q:Nat×Value//q.1≤a.start.length∧q.2.oneCell'=true}) (fun k=>⟨[(1,_,_),(2,_,_),(4,_,_),(5,_,_),(29,_,_),(30,_,_),(31, .int .i64 k.1.1,pInt k.1.1)],[(1,_,_),(2,_,_),(5,h5, .own 39 5 1 [pInt (a.n+1),pInt a.syms,pInts [a.n],pInts [a.n], .val k.1.2]),(301,k.1.2, .own 93 3 (a.moves++Ky a.n (a.start.take k.1.1)).length ((a.moves++Ky a.n (a.start.take k.1.1)).flatMap cMv))]⟩) (fun k=>a.start.length-k.1.1) ⟨(0,v26),Xd _,ho26⟩ (fun a w H=>H.weaken ⟨rfl,rfl,rfl,rfl,rfl,rfl,rfl,trivial⟩ ⟨rfl,rfl,rfl,rfl,trivial⟩) ?_;rintro ⟨⟨k,hM⟩,hk,hMo⟩;dsimp only;dsimp only at hk hMo;(have hl1:(a.moves++Ky a.n (a.start.take k)).length≤30000:=by unfold Ky;rw [Xc,Xe,Xo];omega);refine Ze ?_;(refine xL 32 ZP ?_<;>refine Zc ?_)
     refine cX ?_ ?_<;>intro hb32
     · first|exact bN hb32|(
 obtain ⟨x,hx⟩:=Zq (show k<a.start.length by omega);have e1:=Z7 (f:=pInt) hx;refine Ze ?_;(refine xL 33 (ZI Zp) ?_<;>(refine yL 34 (Ya Zg) fun v34 h=>?_;cases h)<;>refine xL 7 Za ?_<;>refine Zi ?_)
 (refine xL 35 (Zd 5 Zw) ?_<;>(refine yL 36 (Zj 5 ZA) fun v36 h=>?_;cases h)<;>refine xL 37 Zb (xL 38 Zb (xL 39 (ZM YX) ?_))<;>refine YD 40 ZS fun h40 ho40=>?_<;>(refine Z1 301 40 41 ZS fun h41 ho41=>?_;refine Zt (ZE (l:=41) 301 rfl rfl) fun _=>?_;refine Zt (ZL (l:=301) rfl ((WO _ (a.moves++Ky a.n (a.start.take k)) ⟨a.n,x,-1⟩).trans (by rw [Xy,←ζN a.n hx]))) fun _=>?_)<;>refine xL 42 (Zd 5 Zw) ?_<;>refine YM 5 ZA YB ?_<;>refine Zi ?_)
 (refine xL 43 ZH (xL 31 Zb ?_)<;>refine Zc ?_)
 refine Zm (
  ⟨(k+1,h41),Zf hx,ho41⟩
  ) (by dsimp only;omega) ⟨rfl,rfl,rfl,rfl,rfl,rfl,rfl,trivial⟩ ⟨rfl,rfl,rfl,rfl,trivial⟩)
     · first |exact bN hb32|(
 rw [Xk (show a.start.length≤k by omega)];rw [show a.moves++Ky a.n a.start=a.moves++Ky a.n a.start++T6 a.n (a.fin.take 0) from (Xq _).symm];refine Ze ?_;(refine xL 44 (Zd 1 ZX) ?_<;>(refine yL 45 (Zj 1 Zz) fun v45 h=>?_;cases h)<;>refine xL 46 (ZR Zp) (xL 47 Zb ?_)<;>refine Zc ?_)
 refine ZB (ι:={q:Nat×Value//q.1≤a.fin.length∧q.2.oneCell'=true}) (fun k=>⟨[(1,_,_),(2,_,_),(4,_,_),(5,_,_),(45,_,_),(46,_,_),(47, .int .i64 k.1.1,pInt k.1.1)],[(1,_,_),(2,_,_),(5,h5, .own 39 5 1 [pInt (a.n+1),pInt a.syms,pInts [a.n],pInts [a.n], .val k.1.2]),(301,k.1.2, .own 93 3 (a.moves++Ky a.n a.start++T6 a.n (a.fin.take k.1.1)).length ((a.moves++Ky a.n a.start++T6 a.n (a.fin.take k.1.1)).flatMap cMv))]⟩) (fun k=>a.fin.length-k.1.1) ⟨(0,hM),Xd _,hMo⟩ (fun a w H=>H.weaken ⟨rfl,rfl,rfl,rfl,rfl,rfl,rfl,trivial⟩ ⟨rfl,rfl,rfl,rfl,trivial⟩) ?_;rintro ⟨⟨j,hM2⟩,hj,hM2o⟩;dsimp only;dsimp only at hj hM2o;(have hl2:(a.moves++Ky a.n a.start++T6 a.n (a.fin.take j)).length≤30000:=by unfold Ky T6;rw [Xc,Xc,Xe,Xe,Xo];omega);refine Ze ?_;(refine xL 48 ZP ?_<;>refine Zc ?_)
 refine cX ?_ ?_<;>intro hb48
 · first|exact bN hb48|(
 obtain ⟨y,hy⟩:=Zq (show j<a.fin.length by omega);have e1:=Z7 (f:=pInt) hy;refine Ze ?_;(refine xL 49 (ZI Zp) ?_<;>(refine yL 50 (Ya Zg) fun v50 h=>?_;cases h)<;>refine xL 9 Za ?_<;>refine Zi ?_)
 (refine xL 51 (Zd 5 Zw) ?_<;>(refine yL 52 (Zj 5 ZA) fun v52 h=>?_;cases h)<;>refine xL 53 Zb (xL 54 Zb (xL 55 (ZM YX) ?_))<;>refine YD 56 ZS fun h56 ho56=>?_<;>(refine Z1 301 56 57 ZS fun h57 ho57=>?_;refine Zt (ZE (l:=57) 301 rfl rfl) fun _=>?_;refine Zt (ZL (l:=301) rfl ((WO _ (a.moves++Ky a.n a.start++T6 a.n (a.fin.take j)) ⟨y,a.n,-1⟩).trans (by rw [Xy (a.moves++Ky a.n a.start),←ζO a.n hy]))) fun _=>?_)<;>refine xL 58 (Zd 5 Zw) ?_<;>refine YM 5 ZA YB ?_<;>refine Zi ?_)
 (refine xL 59 ZH (xL 47 Zb ?_)<;>refine Zc ?_)
 refine Zm (
  ⟨(j+1,h57),Zf hy,ho57⟩
  ) (by dsimp only;omega) ⟨rfl,rfl,rfl,rfl,rfl,rfl,rfl,trivial⟩ ⟨rfl,rfl,rfl,rfl,trivial⟩)
 · first|exact bN hb48|(
 rw [Xk (show a.fin.length≤j by omega)];have hone:En.one (PV.val hM2)=true:=hM2o;refine nav ?_;refine Zs (ZE (l:=301) 1000 rfl rfl) fun _=>?_;(refine Zv ?_<;>(refine yL 60 (Zu (k:=5) (ps:=[pInt (a.n+1),pInt a.syms,pInts [a.n],pInts [a.n],PV.val hM2]) 5 kR) fun v60 h=>?_;cases h)<;>(refine WN [(1000,hM2,PV.own 93 3 (KT a).moves.length ((KT a).moves.flatMap cMv)),(1,_,_),(2,_,_),(5,_,_)] ⟨rfl,rfl,rfl,rfl,trivial⟩ ?_;refine JM [1,2,5] 61 (call137) (ZaQ (KT a) (EZ h.toAOk) (ZeB h) _ hM2 hM2o r5 hr) ?_;rintro _ _ _ ⟨⟨V1,rfl⟩,rfl,rfl⟩)<;>refine xL 62 Zk (xL 63 Zk ?_)<;>refine ZD 2 Zh ?_<;>refine xL 3 Za ?_<;>refine Zc ?_)
 exact Z2 (k:=5) 2 kR (results90) rfl rfl rfl (Xa rfl) dC r5.s rfl))
theorem Zl5 (a:Aut):AF prog 90 [ZN a] (· =resW (JD a)):=by
 cases hv:Z5 a with
 |false=>rw [Zhp hv];exact Zhq a hv
 | true=>
   rw [Zj1 hv];have h:=WS hv;obtain ⟨p0,p1,p2,p3,p4,E,h5,h2,hr⟩:=TP (KT a) (EZ h.toAOk) (PZ h);rw [h2];exact Zl4 a hv h5 hr
theorem Li (l:List Int) (n:Int) (hl:l.length≤1000000) (hn:0≤n∧n≤1000000) (hb:∀x∈l,0≤x∧x≤1000000):AF prog 136 [pInts l,pInt n] (· = .own 3 1 (YW n l).length ((YW n l).map pInt)):=by
 refine AF.of_body 22 func136 rfl ntmps136 (Xa rfl) ?_
 intro w0 M0 vs hl hv
 obtain ⟨v0,v1,rfl⟩:=YG hl
 obtain rfl:=hv 1 _ _ rfl rfl
 clear hl hv
 refine YO 0 rfl fun hlen=>?_
 refine Ze ?_
 (refine xL 4 Za ?_<;>refine Zi ?_)
 (refine xL 5 Za ?_<;>refine Zc ?_)
 refine Zs (Jl 200 3 1 rfl) fun _=>?_
 (refine Zv ?_<;>refine xL 8 Zb (xL 9 (ZR Zp) (xL 10 Zb ?_))<;>refine Zc ?_)
 refine ZB (ι:={q:Nat×Value//q.1≤l.length∧q.2.oneCell'=true}) (fun k=>⟨[(1,_,_),(8,_,_),(9,_,_),(5,k.1.2, .val k.1.2),(10, .int .i64 k.1.1,pInt k.1.1)],[(200,k.1.2, .own 3 1 (YW n (l.take k.1.1)).length ((YW n (l.take k.1.1)).map pInt))]⟩) (fun k=>l.length-k.1.1) ⟨(0, .slice none 0 0),Xd _,rfl⟩ (fun a w H=>H.weaken ⟨rfl,rfl,rfl,rfl,rfl,trivial⟩ ⟨rfl,trivial⟩) ?_
 rintro ⟨⟨k,hO⟩,hk,hOo⟩
 dsimp only
 dsimp only at hk hOo
 have hal:(YW n (l.take k)).length≤1000000:=by rw [KU,Xo];omega
 refine Ze ?_
 (refine xL 11 ZP ?_<;>refine Zc ?_)
 refine cX ?_ ?_<;>intro hb11
 · first|exact bN hb11|(
 obtain ⟨x,hx⟩:=Zq (show k<l.length by omega);have e1:=Z7 (f:=pInt) hx;have hxb:=hb x (Xb hx);refine Ze ?_;(refine xL 12 (ZI Zp) ?_<;>(refine yL 13 (Ya Zg) fun v13 h=>?_;cases h)<;>refine xL 7 Za ?_<;>refine Zi ?_)
 (refine xL 14 Zb (xL 15 Zb (xL 16 Zb (xL 17 ZH ?_)))<;>refine ZO (kk:=1) 18 Zn fun h18 ho18=>?_<;>(refine Z1 200 18 19 Zn fun h19 ho19=>?_;refine Zt (ZE (l:=19) 200 rfl rfl) fun _=>?_;refine Zt (ZL (l:=200) rfl ((KV _ (YW n (l.take k)) (x+n)).trans (by rw [←ζk n hx]))) fun _=>?_)<;>refine xL 5 Za ?_<;>refine Zi ?_)
 (refine xL 20 ZH (xL 10 Zb ?_)<;>refine Zc ?_)
 refine Zm (
  ⟨(k+1,h19),Zf hx,ho19⟩
  ) (by dsimp only;omega) ⟨rfl,rfl,rfl,rfl,rfl,trivial⟩ ⟨rfl,trivial⟩)
 · first|exact bN hb11|(
 rw [Xk (show l.length≤k by omega)];refine Ze ?_;(refine xL 21 Zb (xL 4 Za ?_)<;>refine Zc ?_)
 exact W9 200 (results136) rfl rfl rfl)
def bsM (a b:Aut):List Mv:=a.moves++KH a.n b.moves
theorem Rl {a b:Aut} (ha:AOk a) (hb:AOk b):(bsM a b).length≤40000:=by
 unfold bsM
 rw [Xc,La]
 have:=ha.ml;have:=hb.ml;omega
set_option maxHeartbeats 2000000 in
theorem ζP (a b:Aut) (ha:AOk a) (hb:AOk b) (V V':Value):AFh False prog 134 [(0,V,ZN a),(1,V',ZN b)] [] (fun v q h=>∃hM:Value,hM.oneCell'=true∧q= .agg [pInt (a.n+b.n),pInt a.syms, .val (.slice none 0 0), .val (.slice none 0 0), .val hM]∧h=[(1000,hM, .own 93 3 (bsM a b).length ((bsM a b).flatMap cMv))]):=by
 have hn0:=ha.n0
 have hn1:=ha.n1
 have hm0:=hb.n0
 have hm1:=hb.n1
 have hal:=ha.ml
 have hbl:=hb.ml
 refine AFh.of_body 46 func134 rfl ntmps134 (Xa rfl) rfl ?_
 intro w0 M0 N0
 refine Ze ?_
 (refine ZC 2 5 fun h2=>?_<;>refine ZC 3 5 fun h3=>?_<;>refine Zx [(.int .i64 0),(.int .i64 0),(.slice none 0 0),(.slice none 0 0),(.slice none 0 0)] 5 4 ZJ fun h4=>?_<;>refine Zc ?_)
 refine Ot (fun x:{x:Value×Value//x.1.oneCell'=true}=>⟨[(2,padd (sbase h2) 0, .val (padd (sbase h2) 0)),(3,padd (sbase h3) 0, .val (padd (sbase h3) 0)),(4,padd (sbase h4) 0, .val (padd (sbase h4) 0)),(5,padd (sbase x.1.2) 0, .val (padd (sbase x.1.2) 0))],[(2,h2, .own 39 5 1 [pInt a.n,pInt a.syms,pInts a.start,pInts a.fin,pMvs a.moves]),(3,h3, .own 39 5 1 [pInt b.n,pInt b.syms,pInts b.start,pInts b.fin,pMvs b.moves]),(4,h4, .own 39 5 1 [pInt 0,pInt 0, .val (.slice none 0 0), .val (.slice none 0 0), .val (.slice none 0 0)]),(5,x.1.2, .own 39 5 1 [pInt (a.n+b.n),pInt a.syms, .val (.slice none 0 0), .val (.slice none 0 0), .val x.1.1]),(17,x.1.1, .own 93 3 a.moves.length (a.moves.flatMap cMv))]⟩) ?_ ?_
 · (refine ZY (fun i=>([]:List Nat).elem i) [2,3] kR ?_<;>refine xD 0 8 rfl (Zd 2 ZQ) ?_<;>(refine yD 1 9 rfl (Zj 2 Zg) fun v9 h=>?_;cases h)<;>refine xD 2 10 rfl (Zd 3 ZQ) ?_<;>(refine yD 3 11 rfl (Zj 3 Zg) fun v11 h=>?_;cases h)<;>refine xD 4 12 rfl ZH ?_<;>refine xD 5 13 rfl (Zd 2 Z3) ?_<;>(refine yD 6 14 rfl (Zj 2 Zg) fun v14 h=>?_;cases h)<;>refine xD 7 15 rfl (Zd 2 Zw) ?_<;>(refine yD 8 16 rfl (Zj 2 ZA) fun v16 h=>?_;cases h)<;>(refine Y8 9 11 kR ?_ ?_;rotate_right;(focus ((refine Zo rfl fun w9 M9 N9 DQ back=>?_)<;>refine Zx [(.int .i64 0),(.int .i64 0),(.slice none 0 0),(.slice none 0 0),(.slice none 0 0)] 5 5 ZJ fun h5=>?_<;>refine Zl (back _ (nrm ?_))<;>(refine Zr 9 kR ?_)<;>(refine Zo rfl fun w9 M9 N9 DQ back=>?_)<;>refine cO 17 (cA call138 (YY a.moves oM)) fun v17 ho17=>?_<;>refine Zl (back _ (nrm ?_))<;>refine xE 10 18 rfl (ZM ZU) ?_<;>(refine Zr 12 kR ?_)<;>(refine Zo rfl fun w9 M9 N9 DQ back=>?_)<;>(refine ZD 5 (m:=5) kR ?_ (h1:=by show (List.all [pInt (a.n+b.n),pInt a.syms,PV.val (.slice none 0 0),PV.val (.slice none 0 0),PV.val v17] En.one)=true;simp only [XF,XG,XE,Xf];exact ⟨rfl,rfl,rfl,rfl,ho17⟩))<;>refine Zl (back _ (nrm ?_))));rotate_right;(focus ((refine Zo rfl fun w9 M9 N9 DQ back=>?_)<;>refine cO 17 (cA call138 (YY a.moves oM)) fun v17 ho17=>?_<;>refine Zl (back _ (nrm ?_))<;>refine xD 10 18 rfl (ZM ZU) ?_<;>(refine Zr 11 kR ?_)<;>(refine Zo rfl fun w9 M9 N9 DQ back=>?_)<;>refine Zx [(.int .i64 0),(.int .i64 0),(.slice none 0 0),(.slice none 0 0),(.slice none 0 0)] 5 5 ZJ fun h5=>?_<;>refine Zl (back _ (nrm ?_))<;>(refine Zr 12 kR ?_)<;>(refine Zo rfl fun w9 M9 N9 DQ back=>?_)<;>(refine ZD 5 (m:=5) kR ?_ (h1:=by show (List.all [pInt (a.n+b.n),pInt a.syms,PV.val (.slice none 0 0),PV.val (.slice none 0 0),PV.val v17] En.one)=true;simp only [XF,XG,XE,Xf];exact ⟨rfl,rfl,rfl,rfl,ho17⟩))<;>refine Zl (back _ (nrm ?_)))))<;>refine Yr kR (nav ?_)<;>try dsimp only)<;>(
 exact WM ⟨(v17,h5),ho17⟩ ⟨rfl,rfl,rfl,rfl,trivial⟩ ⟨rfl,rfl,rfl,rfl,rfl,trivial⟩)
 · rintro ⟨⟨v17,h5⟩,ho17⟩;dsimp only at ho17 ⊢;refine Zs (ZE (l:=17) 301 rfl rfl) fun _=>?_;refine Zs (ZL (l:=301) (p':= .own 93 3 (a.moves++KH a.n (b.moves.take 0)).length ((a.moves++KH a.n (b.moves.take 0)).flatMap cMv)) rfl (by rw [show KH a.n (b.moves.take 0)=[] from rfl,Xq])) fun _=>?_;refine Ze ?_;(refine xL 19 (Zd 3 Zw) ?_<;>(refine yL 20 (Zj 3 ZA) fun v20 h=>?_;cases h)<;>refine xL 21 (ZR ZF) (xL 22 Zb ?_)<;>refine Zc ?_)
   refine ZB (ι:={q:Nat×Value//q.1≤b.moves.length∧q.2.oneCell'=true}) (fun k=>⟨[(2,_,_),(3,_,_),(4,_,_),(5,_,_),(20,_,_),(21,_,_),(22, .int .i64 k.1.1,pInt k.1.1)],[(2,_,_),(3,_,_),(4,_,_),(5,h5, .own 39 5 1 [pInt (a.n+b.n),pInt a.syms, .val (.slice none 0 0), .val (.slice none 0 0), .val k.1.2]),(301,k.1.2, .own 93 3 (a.moves++KH a.n (b.moves.take k.1.1)).length ((a.moves++KH a.n (b.moves.take k.1.1)).flatMap cMv))]⟩) (fun k=>b.moves.length-k.1.1) ⟨(0,v17),Xd _,ho17⟩ (fun a w H=>H.weaken ⟨rfl,rfl,rfl,rfl,rfl,rfl,rfl,trivial⟩ ⟨rfl,rfl,rfl,rfl,rfl,trivial⟩) ?_;rintro ⟨⟨k,hM⟩,hk,hMo⟩;dsimp only;dsimp only at hk hMo;have hl1:(a.moves++KH a.n (b.moves.take k)).length≤50000:=by rw [Xc,La,Xo];omega
   have q5:En.one (PV.val hM)=true:=hMo;refine Ze ?_;(refine xL 23 ZP ?_<;>refine Zc ?_)
   refine cX ?_ ?_<;>intro hb23
   · first|exact bN hb23|(
 obtain ⟨x,hx⟩:=Zq (show k<b.moves.length by omega);have e1:=Yh Z0 b.moves k x hx;have e2:=YA Z0 hx;have hxb:=hb.mv x (Xb hx);refine Ze ?_;(refine xL 24 (ZI ZF) ?_<;>(refine yL 25 (Y' ZW) fun v25 h=>?_;cases h)<;>refine Zx [(.int .i64 0),(.int .i64 0),(.int .i64 0)] 3 7 Ke fun h7=>?_<;>refine ZD 7 ZW ?_<;>refine Zi ?_)
 (refine xL 26 (Zd 5 Zw) ?_<;>(refine yL 27 (Zj 5 ZA) fun v27 h=>?_;cases h)<;>refine xL 28 (Zd 7 Yb) ?_<;>(refine yL 29 (Zj 7 Zg) fun v29 h=>?_;cases h)<;>refine xL 30 (Zd 2 ZQ) ?_<;>(refine yL 31 (Zj 2 Zg) fun v31 h=>?_;cases h)<;>refine xL 32 ZH (xL 33 (Zd 7 Yg) ?_)<;>(refine yL 34 (Zj 7 Zg) fun v34 h=>?_;cases h)<;>refine xL 35 (Zd 2 ZQ) ?_<;>(refine yL 36 (Zj 2 Zg) fun v36 h=>?_;cases h)<;>refine xL 37 ZH (xL 38 (Zd 7 Yk) ?_)<;>(refine yL 39 (Zj 7 Zg) fun v39 h=>?_;cases h)<;>refine xL 40 (ZM YX) ?_<;>refine YD 41 ZS fun h41 ho41=>?_<;>(refine Z1 301 41 42 ZS fun h42 ho42=>?_;refine Zt (ZE (l:=42) 301 rfl rfl) fun _=>?_;refine Zt (ZL (l:=301) rfl ((WO _ (a.moves++KH a.n (b.moves.take k)) ⟨x.src+a.n,x.dst+a.n,x.sym⟩).trans (by rw [Xy,←ζl a.n hx]))) fun _=>?_)<;>refine xL 43 (Zd 5 Zw) ?_<;>refine YM 5 ZA YB ?_<;>refine Zi ?_)
 (refine xL 44 ZH (xL 22 Zb ?_)<;>refine Zc ?_)
 refine Zm (
  ⟨(k+1,h42),Zf hx,ho42⟩
  ) (by dsimp only;omega) ⟨rfl,rfl,rfl,rfl,rfl,rfl,rfl,trivial⟩ ⟨rfl,rfl,rfl,rfl,rfl,trivial⟩)
   · first|exact bN hb23|(
 rw [Xk (show b.moves.length≤k by omega)];refine Zs (ZE (l:=301) 1000 rfl rfl) fun _=>?_;refine Ze ?_;((refine yL 45 (Zu (k:=5) (ps:=[pInt (a.n+b.n),pInt a.syms,PV.val (.slice none 0 0),PV.val (.slice none 0 0),PV.val hM]) 5 kR) fun v45 h=>?_;cases h)<;>refine ZD 4 Zh ?_<;>refine Zc ?_)
 exact Zns (k:=5) 4 [(1000,hM,PV.own 93 3 (bsM a b).length ((bsM a b).flatMap cMv))] kR (results134) rfl rfl (Xa rfl) dC rfl ⟨rfl,trivial⟩ fun V=>⟨hM,hMo,rfl,rfl⟩)
theorem YP:AggT prog 149 5=true:=by kernel_rfl
theorem Zc6:AggT prog 263 2=true:=by kernel_rfl
theorem Pb:ArrT prog 263 2=true:=by kernel_rfl
theorem YQ:ElT prog 264 263 2 16 (.agg #[(.int .i64 0),(.int .i64 0)]):=⟨underlying264,by kernel_rfl,rfl,dC⟩
theorem JS:FldT prog 149 0 0=true:=by kernel_rfl
theorem Yo:FldT prog 149 1 3=true:=by kernel_rfl
theorem TR:FldT prog 149 2 4=true:=by kernel_rfl
theorem TS:SlT prog 264 263 2=true:=by kernel_rfl
theorem WK:ZeroT prog 149 (.agg #[(.int .i64 0),(.slice none 0 0),(.slice none 0 0),(.slice none 0 0),(.slice none 0 0)]):=by unfold ZeroT;kernel_rfl
theorem TT:ZeroT prog 263 (.agg #[(.int .i64 0),(.int .i64 0)]):=by unfold ZeroT;kernel_rfl
theorem ZeY (op:Int) (x y:Bool):AF prog 213 [pInt op,ZK x,ZK y] (· =ZK (DU op x y)):=by
 refine AF.of_body 30 func213 rfl ntmps213 (Xa rfl) ?_
 intro w0 M0 vs hl hv
 obtain ⟨v0,v1,v2,rfl⟩:=LO hl
 obtain rfl:=hv 0 _ _ rfl rfl
 obtain rfl:=hv 1 _ _ rfl rfl
 obtain rfl:=hv 2 _ _ rfl rfl
 clear hl hv
 refine Ze ?_
 (refine xL 6 Za ?_<;>refine Zi ?_)
 (refine xL 7 Zb ?_<;>refine Zi ?_)
 (refine xL 9 Yd (xL 8 Za ?_)<;>refine Zc ?_)
 refine cX ?_ ?_<;>intro hb8
 · first|exact bN hb8|(
 refine Ze ?_;(refine xL 10 Zb (xL 11 Zb ?_)<;>(refine bL 11 (fun hb11=>?_) (fun hb11=>?_)<;>(first|refine kL 12 ?_|refine xL 12 Zb ?_))<;>refine xL 13 ZG (xL 6 Za ?_)<;>refine Zc ?_)<;>(
 refine Zy (results213) rfl ?_;unfold DU;rw [US oM]
 cases x<;>cases y<;>first|rfl|(exfalso;simp_all;done)))
 · first | exact bN hb8|(
 refine Ze ?_;(refine xL 15 Yd (xL 14 Za ?_)<;>refine Zc ?_)
 refine cX ?_ ?_<;>intro hb14
 · first|exact bN hb14|(
 refine Ze ?_;(refine xL 16 Zb (xL 17 Zb ?_)<;>(refine bL 17 (fun hb17=>?_) (fun hb17=>?_)<;>(first|refine kL 18 ?_|refine xL 18 Zb ?_))<;>refine xL 19 ZG (xL 6 Za ?_)<;>refine Zc ?_)<;>(
 refine Zy (results213) rfl ?_;unfold DU;rw [UR oM,US oM]
 cases x<;>cases y<;>first|rfl|(exfalso;simp_all;done)))
 · first |exact bN hb14|(
 refine Ze ?_;(refine xL 21 Yd (xL 20 Za ?_)<;>refine Zc ?_)
 refine cX ?_ ?_<;>intro hb20
 · first|exact bN hb20|(
 refine Ze ?_;(refine xL 22 Zb (xL 23 Zb ?_)<;>(refine bL 23 (fun hb23=>?_) (fun hb23=>?_)<;>(first|refine kL 24 ?_|refine xL 24 Zb ?_))<;>(first|refine kL 25 ?_|refine xL 25 Z8 ?_)<;>refine xL 26 ZG (xL 6 Za ?_)<;>refine Zc ?_)<;>(
 refine Zy (results213) rfl ?_;unfold DU;rw [UR oM,UR oM,US oM]
 cases x<;>cases y<;>first|rfl|(exfalso;simp_all;done)))
 · first|exact bN hb20|(
 refine Ze ?_;(refine xL 27 Zb (xL 28 Zb (xL 29 (Znk underlying4) (xL 6 Za ?_)))<;>refine Zc ?_)
 refine Zy (results213) rfl ?_;unfold DU;rw [UR oM,UR oM,UR oM]
 cases x<;>cases y<;>first|rfl|(exfalso;simp_all;done))))
theorem ζQ {α κ:Type} [DecidableEq κ] (f:α→κ) (x:α):∀(l:List α) (off:Nat),YN f off (l++[x])=YN f off l++[(f x, .int .i64 ((off+l.length:Nat):Int))]
 |[],off=>by simp [YN]
 |y::l,off=>by rw [Vb,YN,ζQ f x l (off+1),YN,Vb,Xi];congr 5;omega
theorem OW {α κ:Type} [DecidableEq κ] (f:α→κ):∀(l:List α) (off:Nat),(YN f off l).map (·.1)=l.map f
 |[],_=>rfl
 |y::l,off=>by rw [YN,Xw,OW f l (off+1),Xw]
abbrev PrS:=(Nat×Nat)×(Int×Int)
def W7 (x:PrS):Pi2:=((x.1.1:Nat),(x.1.2:Nat))
theorem Zc7 {x y:PrS}:W7 x=W7 y↔x.1=y.1:=by
 unfold W7
 rw [Prod.mk.injEq,Prod.ext_iff]
 omega
theorem Zl6 (o:List PrS) (x:PrS):posK W7 o (W7 x)=posK Prod.fst o x.1:=G3 fun y _=>Zc7
def cPr (x:PrS):List PV:=[pInt (x.1.1:Nat),pInt (x.1.2:Nat)]
theorem ZfZ (x:PrS):(cPr x).length=2:=rfl
theorem Zf0 (e:Nat) (L:List PrS) (x:PrS):PV.own e 2 (L.length+1) (L.flatMap cPr++cPr x)= .own e 2 (L++[x]).length ((L++[x]).flatMap cPr):=sM
theorem Zhr (o:List PrS) (x:PrS):(Gp (YN W7 0 o) (W7 x)).getD (.int .i64 0)= .int .i64 ((if posK W7 o (W7 x)<o.length then posK W7 o (W7 x) else 0:Nat):Int)∧(Gp (YN W7 0 o) (W7 x)).isSome=decide (posK W7 o (W7 x)<o.length):=by
 rw [LY]
 by_cases h:posK W7 o (W7 x)<o.length
 · rw [US h,US h,UP h,Xv];exact ⟨rfl,rfl⟩
 · rw [UR h,UR h,UQ h];exact ⟨rfl,rfl⟩
def KG (o:List PrS):List Int:=o.map fun x=>x.2.1
def GR (o:List PrS):List Int:=o.map fun x=>x.2.2
theorem ζR (o:List PrS) (y:PrS):KG (o++[y])=KG o++[y.2.1]:=by unfold KG;rw [Xu];rfl
theorem Zc8 (o:List PrS) (y:PrS):GR (o++[y])=GR o++[y.2.2]:=by unfold GR;rw [Xu];rfl
def SO (A B:Aut) (op:Int) (q:List PrS×List (List Nat)):PV:= .agg [pInt (A.syms.toNat:Nat), .sl q.2.length (q.2.map K7), .sl (q.1.map (WQ A B op)).length ((q.1.map (WQ A B op)).map ZK),pInts (KG q.1),pInts (GR q.1)]
def ZoJ (A B:Aut) (op:Int) (p:PV):Prop:=(∃q,prodQ A B=some q∧p= .tup [SO A B op q,ZK true])∨
 (prodQ A B=none∧∃u0 u1 u2 u3 u4:Value,u0.oneCell'=true∧u1.oneCell'=true∧u2.oneCell'=true∧u3.oneCell'=true∧u4.oneCell'=true∧p= .tup [.agg [.val u0, .val u1, .val u2, .val u3, .val u4],ZK false])
theorem Od:WR prog 149=some (.agg #[.int .i64 0, .slice none 0 0, .slice none 0 0, .slice none 0 0, .slice none 0 0],[(0,3),(3,1),(4,1)]):=by kernel_rfl
theorem tPi:PiT prog 265 263 3 3 (.int .i64 0):=⟨underlying265,underlying263,underlying3,by kernel_rfl,by kernel_rfl,by kernel_rfl,by kernel_rfl,by kernel_rfl,fun a b=>by kernel_rfl,⟨prog.types.size-1,by kernel_rfl⟩,by show ZeroT _ _ _;unfold ZeroT;kernel_rfl⟩
set_option maxHeartbeats 4000000 in
theorem ZeZ (A B : Aut) (op:Int) (hA:DetA A) (hB:DetA B) (hs:A.syms=B.syms):AF prog 169 [ZN A,ZN B,pInt op] (ZoJ A B op):=by
 have hAn1:=hA.ok.n1
 have hAn0:=hA.ok.n0
 have hBn1:=hB.ok.n1
 have hBn0:=hB.ok.n0
 have hs0:=hA.ok.s0
 have hs1:=hA.ok.s1
 have hsN:((A.syms.toNat:Nat):Int)=A.syms:=oM
 have hsB:B.syms.toNat=A.syms.toNat:=by rw [hs]
 refine AF.of_body 152 func169 rfl ntmps169 (Xa rfl) ?_
 intro w0 M0 vs hl hv
 obtain ⟨v0,v1,v2,rfl⟩:=LO hl
 obtain rfl:=hv 2 _ _ rfl rfl
 clear hl hv
 refine Ze ?_
 (refine ZC 3 5 fun h3=>?_<;>refine ZC 4 5 fun h4=>?_<;>refine Zx [(.int .i64 0),(.slice none 0 0),(.slice none 0 0),(.slice none 0 0),(.slice none 0 0)] 5 6 WK fun h6=>?_<;>refine xL 7 Za ?_<;>refine Zc ?_)
 (refine ZY (fun i=>([]:List Nat).elem i) [3,4] kR ?_<;>(refine yD 0 21 rfl (Zu 3 Zh) fun v21 h=>?_;cases h)<;>(refine yD 2 23 rfl (Zu 4 Zh) fun v23 h=>?_;cases h)<;>(refine Zr 1 kR ?_)<;>(refine WL (d:=22) rfl (cA call110 (TC A hA.ok)) fun v22 h=>?_;cases h)<;>(refine Zr 3 kR ?_)<;>(refine WL (d:=24) rfl (cA call110 (TC B hB.ok)) fun v24 h=>?_;cases h)<;>refine xE 4 8 rfl Za ?_<;>refine xE 5 9 rfl Za ?_<;>refine Yr kR (nav ?_)<;>try dsimp only)
 (refine Zv ?_<;>refine xL 25 (Zd 3 Z3) ?_<;>(refine yL 26 (Zj 3 Zg) fun v26 h=>?_;cases h)<;>refine xL 27 (ZM Ew) ?_<;>refine ZO (kk:=1) 28 Zn fun h28 ho28=>?_<;>(refine ZO (kk:=1) 29 Zn fun h29 ho29=>?_;have q28:En.one (PV.val h28)=true:=ho28;have q29:En.one (PV.val h29)=true:=ho29)<;>refine yL 30 (Zea Od rfl ho28 ho29) fun v30 _=>?_<;>refine Zx [(.int .i64 0),(.slice none 0 0),(.slice none 0 0),(.slice none 0 0),(.slice none 0 0)] 5 10 WK fun h10=>?_<;>refine ZD 10 YP ?_<;>refine Zc ?_)
 refine Zs (WY (l:=10) [pInt A.syms, .own 36 1 0 [], .own 4 1 0 [], .val h28, .val h29] rfl rfl (fun i p p' h1 h2=>by
  match i with
  |0=>cases h1;cases h2;exact .inl rfl
  |1=>cases h1;cases h2;exact .inr ⟨rfl,_,_,rfl⟩
  |2=>cases h1;cases h2;exact .inr ⟨rfl,_,_,rfl⟩
  |3=>cases h1;cases h2;exact .inl rfl
  |4=>cases h1;cases h2;exact .inl rfl
  |i+5=>simp at h2)) fun _=>?_
 refine Zs (Ws (l:=10) (l':=301) (j:=1) rfl rfl rfl rfl) fun i=>?_
 obtain ⟨v301,ho301⟩:=i
 refine Zs (Ws (l:=10) (l':=302) (j:=2) rfl rfl rfl rfl) fun i=>?_
 obtain ⟨v302,ho302⟩:=i
 dsimp only [List.set]
 refine Zs (ZE (l:=28) 303 rfl rfl) fun _=>?_
 refine Zs (ZE (l:=29) 304 rfl rfl) fun _=>?_
 refine Zs (ZL (l:=303) (p':= .own 3 1 (KG [((0,0),(-1,-1))]).length ((KG [((0,0),(-1,-1))]).map pInt)) rfl rfl) fun _=>?_
 refine Zs (ZL (l:=304) (p':= .own 3 1 (GR [((0,0),(-1,-1))]).length ((GR [((0,0),(-1,-1))]).map pInt)) rfl rfl) fun _=>?_
 (refine Zv ?_<;>refine xL 31 (HL Pb TT) ?_<;>refine YD 32 YQ fun h32 ho32=>?_<;>refine xL 11 Za ?_<;>refine Zc ?_)
 refine Zs (ZE (l:=32) 305 rfl rfl) fun _=>?_
 refine Zs (ZL (l:=305) (p':= .own 263 2 ([((0,0),(-1,-1))]:List PrS).length (([((0,0),(-1,-1))]:List PrS).flatMap cPr)) rfl rfl) fun _=>?_
 (refine Zv ?_<;>refine GM 33 fun h33 ho33=>?_<;>refine xL 34 (HL Pb TT) ?_<;>(refine Zfq (m:=[]) (k:=((0:Int),(0:Int))) 33 tPi (fun x hx=>by simp at hx) sM ⟨dC,dC⟩ rfl ?_;rw [show ([]:List (Pi2×Value))++[(((0:Int),(0:Int)),Value.int .i64 0)]=YN W7 0 [((0,0),(-1,-1))] from rfl])<;>refine xL 35 Zb (xL 12 Za ?_)<;>refine Zc ?_)
 refine Zs (ZE (l:=33) 306 rfl rfl) fun _=>?_
 (refine Zv ?_<;>refine xL 13 Za ?_<;>refine Zc ?_)
 refine ZB (ι:={q:Nat×Value×Value×Value×Value×Value×List PrS×List (List Nat)//(Wm A B).upto ((0,0),(-1,-1)) q.1=some (q.2.2.2.2.2.2.1,q.2.2.2.2.2.2.2)∧q.1≤q.2.2.2.2.2.2.1.length∧q.2.1.oneCell'=true∧q.2.2.1.oneCell'=true∧q.2.2.2.1.oneCell'=true∧q.2.2.2.2.1.oneCell'=true∧q.2.2.2.2.2.1.oneCell'=true}) (fun k=>⟨[(2,_,_),(3,_,_),(4,_,_),(6,_,_),(7,_,_),(8,_,_),(9,_,_),(10,_,_),(12,_,_),(11,k.1.2.2.2.2.2.1, .val k.1.2.2.2.2.2.1),(13, .int .i64 k.1.1,pInt k.1.1)],[(3,_,_),(4,_,_),(6,_,_),(10,h10, .own 149 5 1 [pInt A.syms, .val k.1.2.1, .val k.1.2.2.1, .val k.1.2.2.2.1, .val k.1.2.2.2.2.1]),(301,k.1.2.1, .own 36 1 k.1.2.2.2.2.2.2.2.length (k.1.2.2.2.2.2.2.2.map K7)),(302,k.1.2.2.1, .own 4 1 ((k.1.2.2.2.2.2.2.1.take k.1.1).map (WQ A B op)).length (((k.1.2.2.2.2.2.2.1.take k.1.1).map (WQ A B op)).map ZK)),(303,k.1.2.2.2.1, .own 3 1 (KG k.1.2.2.2.2.2.2.1).length ((KG k.1.2.2.2.2.2.2.1).map pInt)),(304,k.1.2.2.2.2.1, .own 3 1 (GR k.1.2.2.2.2.2.2.1).length ((GR k.1.2.2.2.2.2.2.1).map pInt)),(305,k.1.2.2.2.2.2.1, .own 263 2 k.1.2.2.2.2.2.2.1.length (k.1.2.2.2.2.2.2.1.flatMap cPr)),(306,h33, .omap (Ru (YN W7 0 k.1.2.2.2.2.2.2.1)))]⟩) (fun k=>2000-k.1.1) ⟨(0,v301,v302,h28,h29,h32,[((0,0),(-1,-1))],[]),rfl,Xd _,ho301,ho302,ho28,ho29,ho32⟩ (fun a w H=>H.weaken ⟨rfl,rfl,rfl,rfl,rfl,rfl,rfl,rfl,rfl,rfl,rfl,trivial⟩ ⟨rfl,rfl,rfl,rfl,rfl,rfl,rfl,rfl,rfl,rfl,trivial⟩) ?_
 rintro ⟨⟨i,r1,r2,r3,r4,r5,o,rows⟩,hU,hi,hr1,hr2,hr3,hr4,hr5⟩
 dsimp only
 dsimp only at hU hi hr1 hr2 hr3 hr4 hr5
 obtain ⟨hOk,hRl,_⟩:=P0 hA hB hs hU
 have hRl:=hRl hi
 have hcap:o.length≤2000:=hOk.cap
 have hfl:((o.take i).map (WQ A B op)).length≤2000:=by rw [Xe,Xo];omega
 have q1:En.one (PV.val r1)=true:=hr1
 have q2:En.one (PV.val r2)=true:=hr2
 have q3:En.one (PV.val r3)=true:=hr3
 have q4:En.one (PV.val r4)=true:=hr4
 refine Ze ?_
 (refine xL 36 Zb (xL 37 Zb (xL 38 (YH 305 TS) (xL 39 ZP ?_)))<;>refine Zc ?_)
 refine cX ?_ ?_<;>intro hb39
 · first | exact bN hb39|(
 obtain ⟨x,hx⟩:=Zq (show i<o.length by omega);have hxp:=hOk.p x (Xb hx);have hx1:x.1.1<A.n.toNat:=hxp.1;have hx2:x.1.2<B.n.toNat:=hxp.2;have e1:(o.flatMap cPr)[i*2+0]? =some (pInt (x.1.1:Nat)):=Lq ZfZ hx dC;have e2:(o.flatMap cPr)[i*2+1]? =some (pInt (x.1.2:Nat)):=Lq ZfZ hx dC;refine nav ?_;(refine ZY (fun i=>([]:List Nat).elem i) [305] kR ?_<;>refine xD 0 42 rfl Zb ?_<;>refine xD 1 43 rfl Zb ?_<;>refine xD 2 44 rfl (Yi 305 TS) ?_<;>refine xD 3 45 rfl (Zil (len:=2) (i:=0) 305 kR) ?_<;>(refine yD 4 46 rfl (Zj 305 Zg) fun v46 h=>?_;cases h)<;>refine xD 5 47 rfl Zb ?_<;>refine xD 6 48 rfl Zb ?_<;>refine xD 7 49 rfl (Yi 305 TS) ?_<;>refine xD 8 50 rfl (Zil (len:=2) (i:=1) 305 kR) ?_<;>(refine yD 9 51 rfl (Zj 305 Zg) fun v51 h=>?_;cases h)<;>refine xE 10 14 rfl Za ?_<;>refine xE 11 15 rfl Za ?_<;>refine Yr kR (nav ?_)<;>try dsimp only)
 (refine Zv ?_<;>refine xL 52 (Zd 3 Z3) ?_<;>(refine yL 53 (Zj 3 Zg) fun v53 h=>?_;cases h)<;>(refine Jn (n:=A.syms.toNat) 54 Zn (fun h54 ho54=>?_) (hx:=by rw [hsN];exact rfl) (hy:=by rw [hsN];exact rfl) (hb:=by omega))<;>refine xL 16 Za ?_<;>refine Zc ?_)
 rw [←ζo];(refine Zv ?_<;>refine xL 55 Zb (xL 56 (YH 54 Zp) (xL 57 Zb ?_))<;>refine Zc ?_)
 refine ZB (ι:={q:Nat×Value×Value×Value×List PrS×List Nat//(Wm A B).row i x o q.1=some (q.2.2.2.2.1,q.2.2.2.2.2)∧q.1≤A.syms.toNat∧q.2.1.oneCell'=true∧q.2.2.1.oneCell'=true∧q.2.2.2.1.oneCell'=true}) (fun k=>⟨[(2,_,_),(3,_,_),(4,_,_),(6,_,_),(7,_,_),(8,_,_),(9,_,_),(10,_,_),(12,_,_),(13,_,_),(14,_,_),(15,_,_),(16,_,_),(56,_,_),(11,k.1.2.2.2.1, .val k.1.2.2.2.1),(57, .int .i64 k.1.1,pInt k.1.1)],[(3,_,_),(4,_,_),(6,_,_),(301,_,_),(302,_,_),(10,h10, .own 149 5 1 [pInt A.syms, .val r1, .val r2, .val k.1.2.1, .val k.1.2.2.1]),(303,k.1.2.1, .own 3 1 (KG k.1.2.2.2.2.1).length ((KG k.1.2.2.2.2.1).map pInt)),(304,k.1.2.2.1, .own 3 1 (GR k.1.2.2.2.2.1).length ((GR k.1.2.2.2.2.1).map pInt)),(305,k.1.2.2.2.1, .own 263 2 k.1.2.2.2.2.1.length (k.1.2.2.2.2.1.flatMap cPr)),(306,h33, .omap (Ru (YN W7 0 k.1.2.2.2.2.1))),(54,h54, .own 3 1 A.syms.toNat (vec A.syms.toNat fun j=>pInt (T0 k.1.2.2.2.2.2 j)))]⟩) (fun k=>A.syms.toNat-k.1.1) ⟨(0,r3,r4,r5,o,[]),rfl,Xd _,hr3,hr4,hr5⟩ (fun a w H=>H.weaken ⟨rfl,rfl,rfl,rfl,rfl,rfl,rfl,rfl,rfl,rfl,rfl,rfl,rfl,rfl,rfl,rfl,trivial⟩ ⟨rfl,rfl,rfl,rfl,rfl,rfl,rfl,rfl,rfl,rfl,rfl,trivial⟩) ?_;rintro ⟨⟨s,r3',r4',r5',o',r⟩,hW,hsm,hr3',hr4',hr5'⟩;dsimp only;dsimp only at hW hsm hr3' hr4' hr5';obtain ⟨hMt,hpr,hrl,_⟩:=hOk.toMet.row (fun s hs'=>⟨hA.sl _ _ hx1 hs',hB.sl _ _ hx2 (by have:s<A.syms.toNat:=hs';omega)⟩) (show s≤(Wm A B).m from hsm) hW;have hcap':o'.length≤2000:=hMt.cap;have hx':=Kd hpr hx;have hil:=Zf hx';(have hpf:(KG o').length=o'.length:=by unfold KG;rw [Xe]);(have hps:(GR o').length=o'.length:=by unfold GR;rw [Xe]);have q3':En.one (PV.val r3')=true:=hr3';have q4':En.one (PV.val r4')=true:=hr4';refine Ze ?_;(refine xL 58 ZP ?_<;>refine Zc ?_)
 refine cX ?_ ?_<;>intro hb58
 · first | exact bN hb58|(
 obtain ⟨mx,hm1,hm2,hm3⟩:=hA.mo x.1.1 s hx1 oM;obtain ⟨my,hn1,hn2,hn3⟩:=hB.mo x.1.2 s hx2 oM;have hml:=hA.ml x.1.1 hx1;have hnl:=hB.ml x.1.2 hx2;(have d1:((List.range A.n.toNat).map fun s=>pMvs (movesOf A s))[x.1.1*1]? =some (pMvs (movesOf A x.1.1)):=by rw [Xp,G5 hx1]);(have d2:((List.range B.n.toNat).map fun s=>pMvs (movesOf B s))[x.1.2*1]? =some (pMvs (movesOf B x.1.2)):=by rw [Xp,G5 hx2]);(have d3:((movesOf A x.1.1).flatMap cMv)[s*3+1]? =some (pInt (stepA A x.1.1 s:Nat)):=by rw [←hm3];exact Lq Z0 hm1 dC);(have d4:((movesOf B x.1.2).flatMap cMv)[s*3+1]? =some (pInt (stepA B x.1.2 s:Nat)):=by rw [←hn3];exact Lq Z0 hn1 dC);obtain ⟨y,hy⟩:∃y:PrS,y=(Wm A B).step i x s:=⟨_,rfl⟩;(have hyk:W7 y=(((stepA A x.1.1 s:Nat):Int),((stepA B x.1.2 s:Nat):Int)):=by rw [hy];rfl);(have hy2:y.2=(((i:Nat):Int),((s:Nat):Int)):=by rw [hy];rfl);(have hyp:ZaF A B y:=by rw [hy];exact ⟨hA.sl _ _ hx1 oM,hB.sl _ _ hx2 oM⟩);(have hy11:y.1.1=stepA A x.1.1 s:=by rw [hy];rfl);(have hy12:y.1.2=stepA B x.1.2 s:=by rw [hy];rfl);have hyp1:y.1.1<A.n.toNat:=hyp.1;have hyp2:y.1.2<B.n.toNat:=hyp.2;rw [←hy11] at d3;rw [←hy12] at d4;have hid:=Zl6 o' y;have hlk:=Zhr o' y;have hko:∀z∈YN W7 0 o',HS z.1:=fun z hz=>by
  have hz1:z.1∈(YN W7 0 o').map (·.1):=List.mem_map_of_mem hz;rw [OW] at hz1;obtain ⟨u,hu,hue⟩:=Xj.1 hz1;have hup:=hMt.p u hu;have h1:u.1.1<A.n.toNat:=hup.1;have h2:u.1.2<B.n.toNat:=hup.2;rw [←hue];exact ⟨⟨by show (0:Int)≤(u.1.1:Nat);omega,by show ((u.1.1:Nat):Int)≤1000000;omega⟩,⟨by show (0:Int)≤(u.1.2:Nat);omega,by show ((u.1.2:Nat):Int)≤1000000;omega⟩⟩
 have hkn:((YN W7 0 o').map (·.1)).Nodup:=by
  rw [OW];have hnd:=hMt.nd;refine J' (TG hnd) fun u hu v hv e=>?_;obtain ⟨i1,hi1⟩:=XY hu;obtain ⟨i2,hi2⟩:=XY hv;have p1:=G4 hnd hi1;have p2:=G4 hnd hi2;have e2:(Wm A B).key u=(Wm A B).key v:=Zc7.1 e;rw [e2,p2] at p1;rw [p1,hi1] at hi2;exact Option.some.inj hi2
 have hky:HS (W7 y):=⟨⟨by show (0:Int)≤(y.1.1:Nat);omega,by show ((y.1.1:Nat):Int)≤1000000;omega⟩,⟨by show (0:Int)≤(y.1.2:Nat);omega,by show ((y.1.2:Nat):Int)≤1000000;omega⟩⟩;have e3:=KE A.syms.toNat (fun j=>pInt (T0 r j));refine Ze ?_;(refine xL 59 Zb (xL 17 Za ?_)<;>refine Zc ?_)
 (refine ZY (fun i=>([]:List Nat).elem i) [] kR ?_<;>refine xD 0 60 rfl Zb ?_<;>refine xD 1 61 rfl RI ?_<;>refine xD 2 62 rfl (JY K2) ?_<;>(refine yD 3 63 rfl (Ya J5) fun v63 h=>?_;cases h)<;>refine xD 4 64 rfl Zb ?_<;>refine xD 5 65 rfl (ZI J6) ?_<;>(refine yD 6 66 rfl (Ya ZA) fun v66 h=>?_;cases h)<;>refine xD 7 67 rfl Zb ?_<;>refine xD 8 68 rfl (ZI ZF) ?_<;>refine xD 9 69 rfl (JY Yg) ?_<;>(refine yD 10 70 rfl (Ya Zg) fun v70 h=>?_;cases h)<;>refine xD 11 71 rfl Zb ?_<;>refine xD 12 72 rfl RI ?_<;>refine xD 13 73 rfl (JY K2) ?_<;>(refine yD 14 74 rfl (Ya J5) fun v74 h=>?_;cases h)<;>refine xD 15 75 rfl Zb ?_<;>refine xD 16 76 rfl (ZI J6) ?_<;>(refine yD 17 77 rfl (Ya ZA) fun v77 h=>?_;cases h)<;>refine xD 18 78 rfl Zb ?_<;>refine xD 19 79 rfl (ZI ZF) ?_<;>refine xD 20 80 rfl (JY Yg) ?_<;>(refine yD 21 81 rfl (Ya Zg) fun v81 h=>?_;cases h)<;>refine xD 22 82 rfl (HL Pb TT) ?_<;>(refine Zr 23 kR ?_)<;>(refine Zo rfl fun w9 M9 N9 DQ back=>?_)<;>refine Zx [(.int .i64 0),(.int .i64 0)] 2 18 TT fun h18=>?_<;>refine Zl (back _ (nrm ?_))<;>(refine Zr 24 kR ?_)<;>(refine Zo rfl fun w9 M9 N9 DQ back=>?_)<;>refine ZD 18 Zc6 ?_<;>refine Zl (back _ (nrm ?_))<;>refine Yr kR (nav ?_)<;>try dsimp only)
 (refine Zv ?_<;>refine xL 84 Zb ?_<;>(refine yL 85 (Zu (k:=2) (ps:=[pInt (y.1.1:Nat),pInt (y.1.2:Nat)]) 18 kR) fun v85 h=>?_;cases h)<;>refine xL 86 (Ziy (m:=YN W7 0 o') (k:=W7 y) 306 tPi hko hkn hky hlk.1 hlk.2) ?_<;>refine xL 83 Zb (xL 87 Zk (xL 88 Zk (xL 19 Za (xL 20 Za ?_))))<;>refine Zi ?_)
 (refine xL 89 Zb (xL 90 Z8 ?_)<;>refine Zc ?_)
 refine Ot (fun z:{z:Value×Value×Value×List PrS×Nat//z.1.oneCell'=true∧z.2.1.oneCell'=true∧z.2.2.1.oneCell'=true∧visit (Wm A B).key (Wm A B).cap o' ((Wm A B).step i x s)=some (z.2.2.2.1,z.2.2.2.2)}=>⟨[(2, .int .i64 op,pInt op),(3,padd (sbase h3) 0, .val (padd (sbase h3) 0)),(4,padd (sbase h4) 0, .val (padd (sbase h4) 0)),(6,padd (sbase h6) 0, .val (padd (sbase h6) 0)),(7, .bool false,ZK false),(8,v22,pGr A),(9,v24,pGr B),(10,padd (sbase h10) 0, .val (padd (sbase h10) 0)),(11,z.1.2.2.1, .val z.1.2.2.1),(12,h33, .val h33),(13, .int .i64 i,pInt i),(14, .int .i64 x.1.1,pInt x.1.1),(15, .int .i64 x.1.2,pInt x.1.2),(16,h54, .val h54),(17, .int .i64 s,pInt s),(19, .int .i64 z.1.2.2.2.2,pInt z.1.2.2.2.2),(56, .int .i64 A.syms.toNat,pInt A.syms.toNat),(57, .int .i64 s,pInt s)],[(3,h3, .own 39 5 1 [pInt A.n,pInt A.syms,pInts A.start,pInts A.fin,pMvs A.moves]),(4,h4, .own 39 5 1 [pInt B.n,pInt B.syms,pInts B.start,pInts B.fin,pMvs B.moves]),(6,h6, .own 149 5 1 [pInt 0, .val (.slice none 0 0), .val (.slice none 0 0), .val (.slice none 0 0), .val (.slice none 0 0)]),(10,h10, .own 149 5 1 [pInt A.syms, .val r1, .val r2, .val z.1.1, .val z.1.2.1]),(301,r1, .own 36 1 rows.length (rows.map K7)),(302,r2, .own 4 1 ((o.take i).map (WQ A B op)).length (((o.take i).map (WQ A B op)).map ZK)),(303,z.1.1, .own 3 1 (KG z.1.2.2.2.1).length ((KG z.1.2.2.2.1).map pInt)),(304,z.1.2.1, .own 3 1 (GR z.1.2.2.2.1).length ((GR z.1.2.2.2.1).map pInt)),(305,z.1.2.2.1, .own 263 2 z.1.2.2.2.1.length (z.1.2.2.2.1.flatMap cPr)),(306,h33, .omap (Ru (YN W7 0 z.1.2.2.2.1))),(54,h54, .own 3 1 A.syms.toNat (vec A.syms.toNat fun j=>pInt (T0 r j)))]⟩) ?_ ?_
 · refine cX ?_ ?_<;>intro hb90
   · first | exact bN hb90|(
 (have hnew:¬posK W7 o' (W7 y)<o'.length:=by simpa using hb90);have hnew2:¬posK (Wm A B).key o' ((Wm A B).key ((Wm A B).step i x s))<o'.length:=by
  rw [←hy];show ¬posK Prod.fst o' y.1<o'.length;rw [←hid];exact hnew
 (have hno:Gp (YN W7 0 o') (W7 y)=none:=by rw [LY,UR hnew]);refine Ze ?_;(refine xL 91 Zb (xL 92 (YH 305 TS) (xL 19 Za ?_))<;>refine Zi ?_)
 (refine xL 93 Zb (xL 94 Y9 ?_)<;>refine Zc ?_)
 refine cX ?_ ?_<;>intro hb94
 · first|exact bN hb94|(
 refine Ze ?_;((refine yL 95 (Zu (k:=5) (ps:=[pInt A.syms,PV.val r1,PV.val r2,PV.val r3',PV.val r4']) 10 kR) fun v95 h=>?_;cases h)<;>refine ZD 6 YP ?_<;>refine xL 7 Za ?_<;>refine Zc ?_)
 refine Z2 (k:=5) 6 kR (results169) rfl rfl rfl (Xa rfl) dC rfl (.inr ⟨?_,_,_,_,_,_,rfl,hr1,hr2,hr3',hr4',rfl⟩);have hv:=PP hnew2 (show (Wm A B).cap≤o'.length by show 2000≤o'.length;omega);have h1:=Srch.row_fails (Srch.row_out hW hv) (show s+1≤(Wm A B).m by show s+1≤A.syms.toNat;omega);exact Srch.all_none (Srch.upto_out hU hx h1) (show i+1≤(Wm A B).cap by show i+1≤2000;omega))
 · first |exact bN hb94|(
 refine Ze ?_;(refine xL 96 Zb ?_<;>(refine yL 97 (Zu (k:=2) (ps:=[pInt (y.1.1:Nat),pInt (y.1.2:Nat)]) 18 kR) fun v97 h=>?_;cases h)<;>refine xL 98 Zb ?_<;>(refine Zfq (m:=YN W7 0 o') (k:=W7 y) 306 tPi hko hkn hky hno ?_;rw [show YN W7 0 o'++[(W7 y,Value.int .i64 ((o'.length:Nat):Int))]=YN W7 0 (o'++[y]) by rw [ζQ,Xv]])<;>refine Zc ?_)
 (refine ZY (fun i=>([16,17,18]:List Nat).elem i) [10,18] kR ?_<;>refine xDT 0 99 rfl Zb ?_<;>(refine yDT 1 100 rfl (Zu (k:=2) (ps:=[pInt (y.1.1:Nat),pInt (y.1.2:Nat)]) 18 kR) fun v100 h=>?_;cases h)<;>refine xDT 4 103 rfl (Zd 10 Yo) ?_<;>(refine yDT 5 104 rfl (Zj 10 Zz) fun v104 h=>?_;cases h)<;>refine xDT 6 105 rfl Zb ?_<;>refine xDT 9 108 rfl (Zd 10 TR) ?_<;>(refine yDT 10 109 rfl (Zj 10 Zz) fun v109 h=>?_;cases h)<;>refine xDT 11 110 rfl Zb ?_<;>(refine LR 2 7 12 kR ?_ ?_ ?_;rotate_right;(focus ((refine Zo rfl fun w9 M9 N9 DQ back=>?_)<;>refine ZO (kk:=1) 111 Zn fun h111 ho111=>?_<;>refine Zl (back _ (nrm ?_))<;>(refine Y8 2 7 kR ?_ ?_;rotate_right;(focus ((refine Zo rfl fun w9 M9 N9 DQ back=>?_)<;>refine ZO (kk:=1) 106 Zn fun h106 ho106=>?_<;>refine Zl (back _ (nrm ?_))<;>(refine Zr 2 kR ?_)<;>(refine Zo rfl fun w9 M9 N9 DQ back=>?_)<;>refine YD 101 YQ fun h101 ho101=>?_<;>refine Zl (back _ (nrm ?_))<;>(refine Zr 3 kR ?_)<;>(refine Zo rfl fun w9 M9 N9 DQ back=>?_)<;>refine Z1 305 101 102 YQ fun h102 ho102=>?_<;>refine Zl (back _ (nrm ?_))<;>(refine Zr 8 kR ?_)<;>(refine Zo rfl fun w9 M9 N9 DQ back=>?_)<;>(refine Z1 303 106 107 Zn fun h107 ho107=>?_;have q107:En.one (PV.val h107)=true:=ho107)<;>refine Zl (back _ (nrm ?_))<;>(refine Zr 13 kR ?_)<;>(refine Zo rfl fun w9 M9 N9 DQ back=>?_)<;>(refine Z1 304 111 112 Zn fun h112 ho112=>?_;have q112:En.one (PV.val h112)=true:=ho112)<;>refine Zl (back _ (nrm ?_))<;>refine xE 14 11 rfl Za ?_<;>refine xE 15 113 rfl (Zd 10 Yo) ?_));rotate_right;(focus ((refine Zo rfl fun w9 M9 N9 DQ back=>?_)<;>refine YD 101 YQ fun h101 ho101=>?_<;>refine Zl (back _ (nrm ?_))<;>(refine Y8 3 7 kR ?_ ?_;rotate_right;(focus ((refine Zo rfl fun w9 M9 N9 DQ back=>?_)<;>refine ZO (kk:=1) 106 Zn fun h106 ho106=>?_<;>refine Zl (back _ (nrm ?_))<;>(refine Zr 3 kR ?_)<;>(refine Zo rfl fun w9 M9 N9 DQ back=>?_)<;>refine Z1 305 101 102 YQ fun h102 ho102=>?_<;>refine Zl (back _ (nrm ?_))<;>(refine Zr 8 kR ?_)<;>(refine Zo rfl fun w9 M9 N9 DQ back=>?_)<;>(refine Z1 303 106 107 Zn fun h107 ho107=>?_;have q107:En.one (PV.val h107)=true:=ho107)<;>refine Zl (back _ (nrm ?_))<;>(refine Zr 13 kR ?_)<;>(refine Zo rfl fun w9 M9 N9 DQ back=>?_)<;>(refine Z1 304 111 112 Zn fun h112 ho112=>?_;have q112:En.one (PV.val h112)=true:=ho112)<;>refine Zl (back _ (nrm ?_))<;>refine xE 14 11 rfl Za ?_<;>refine xE 15 113 rfl (Zd 10 Yo) ?_));rotate_right;(focus ((refine Zo rfl fun w9 M9 N9 DQ back=>?_)<;>refine Z1 305 101 102 YQ fun h102 ho102=>?_<;>refine Zl (back _ (nrm ?_))<;>(refine Zr 7 kR ?_)<;>(refine Zo rfl fun w9 M9 N9 DQ back=>?_)<;>refine ZO (kk:=1) 106 Zn fun h106 ho106=>?_<;>refine Zl (back _ (nrm ?_))<;>(refine Zr 8 kR ?_)<;>(refine Zo rfl fun w9 M9 N9 DQ back=>?_)<;>(refine Z1 303 106 107 Zn fun h107 ho107=>?_;have q107:En.one (PV.val h107)=true:=ho107)<;>refine Zl (back _ (nrm ?_))<;>(refine Zr 13 kR ?_)<;>(refine Zo rfl fun w9 M9 N9 DQ back=>?_)<;>(refine Z1 304 111 112 Zn fun h112 ho112=>?_;have q112:En.one (PV.val h112)=true:=ho112)<;>refine Zl (back _ (nrm ?_))<;>refine xE 14 11 rfl Za ?_<;>refine xE 15 113 rfl (Zd 10 Yo) ?_))))))));rotate_right;(focus ((refine Zo rfl fun w9 M9 N9 DQ back=>?_)<;>refine ZO (kk:=1) 106 Zn fun h106 ho106=>?_<;>refine Zl (back _ (nrm ?_))<;>(refine Y8 2 12 kR ?_ ?_;rotate_right;(focus ((refine Zo rfl fun w9 M9 N9 DQ back=>?_)<;>refine ZO (kk:=1) 111 Zn fun h111 ho111=>?_<;>refine Zl (back _ (nrm ?_))<;>(refine Zr 2 kR ?_)<;>(refine Zo rfl fun w9 M9 N9 DQ back=>?_)<;>refine YD 101 YQ fun h101 ho101=>?_<;>refine Zl (back _ (nrm ?_))<;>(refine Zr 3 kR ?_)<;>(refine Zo rfl fun w9 M9 N9 DQ back=>?_)<;>refine Z1 305 101 102 YQ fun h102 ho102=>?_<;>refine Zl (back _ (nrm ?_))<;>(refine Zr 8 kR ?_)<;>(refine Zo rfl fun w9 M9 N9 DQ back=>?_)<;>(refine Z1 303 106 107 Zn fun h107 ho107=>?_;have q107:En.one (PV.val h107)=true:=ho107)<;>refine Zl (back _ (nrm ?_))<;>(refine Zr 13 kR ?_)<;>(refine Zo rfl fun w9 M9 N9 DQ back=>?_)<;>(refine Z1 304 111 112 Zn fun h112 ho112=>?_;have q112:En.one (PV.val h112)=true:=ho112)<;>refine Zl (back _ (nrm ?_))<;>refine xE 14 11 rfl Za ?_<;>refine xE 15 113 rfl (Zd 10 Yo) ?_));rotate_right;(focus ((refine Zo rfl fun w9 M9 N9 DQ back=>?_)<;>refine YD 101 YQ fun h101 ho101=>?_<;>refine Zl (back _ (nrm ?_))<;>(refine Y8 3 12 kR ?_ ?_;rotate_right;(focus ((refine Zo rfl fun w9 M9 N9 DQ back=>?_)<;>refine ZO (kk:=1) 111 Zn fun h111 ho111=>?_<;>refine Zl (back _ (nrm ?_))<;>(refine Zr 3 kR ?_)<;>(refine Zo rfl fun w9 M9 N9 DQ back=>?_)<;>refine Z1 305 101 102 YQ fun h102 ho102=>?_<;>refine Zl (back _ (nrm ?_))<;>(refine Zr 8 kR ?_)<;>(refine Zo rfl fun w9 M9 N9 DQ back=>?_)<;>(refine Z1 303 106 107 Zn fun h107 ho107=>?_;have q107:En.one (PV.val h107)=true:=ho107)<;>refine Zl (back _ (nrm ?_))<;>(refine Zr 13 kR ?_)<;>(refine Zo rfl fun w9 M9 N9 DQ back=>?_)<;>(refine Z1 304 111 112 Zn fun h112 ho112=>?_;have q112:En.one (PV.val h112)=true:=ho112)<;>refine Zl (back _ (nrm ?_))<;>refine xE 14 11 rfl Za ?_<;>refine xE 15 113 rfl (Zd 10 Yo) ?_));rotate_right;(focus ((refine Zo rfl fun w9 M9 N9 DQ back=>?_)<;>refine Z1 305 101 102 YQ fun h102 ho102=>?_<;>refine Zl (back _ (nrm ?_))<;>(refine Y8 8 12 kR ?_ ?_;rotate_right;(focus ((refine Zo rfl fun w9 M9 N9 DQ back=>?_)<;>refine ZO (kk:=1) 111 Zn fun h111 ho111=>?_<;>refine Zl (back _ (nrm ?_))<;>(refine Zr 8 kR ?_)<;>(refine Zo rfl fun w9 M9 N9 DQ back=>?_)<;>(refine Z1 303 106 107 Zn fun h107 ho107=>?_;have q107:En.one (PV.val h107)=true:=ho107)<;>refine Zl (back _ (nrm ?_))<;>(refine Zr 13 kR ?_)<;>(refine Zo rfl fun w9 M9 N9 DQ back=>?_)<;>(refine Z1 304 111 112 Zn fun h112 ho112=>?_;have q112:En.one (PV.val h112)=true:=ho112)<;>refine Zl (back _ (nrm ?_))<;>refine xE 14 11 rfl Za ?_<;>refine xE 15 113 rfl (Zd 10 Yo) ?_));rotate_right;(focus ((refine Zo rfl fun w9 M9 N9 DQ back=>?_)<;>(refine Z1 303 106 107 Zn fun h107 ho107=>?_;have q107:En.one (PV.val h107)=true:=ho107)<;>refine Zl (back _ (nrm ?_))<;>(refine Zr 12 kR ?_)<;>(refine Zo rfl fun w9 M9 N9 DQ back=>?_)<;>refine ZO (kk:=1) 111 Zn fun h111 ho111=>?_<;>refine Zl (back _ (nrm ?_))<;>(refine Zr 13 kR ?_)<;>(refine Zo rfl fun w9 M9 N9 DQ back=>?_)<;>(refine Z1 304 111 112 Zn fun h112 ho112=>?_;have q112:En.one (PV.val h112)=true:=ho112)<;>refine Zl (back _ (nrm ?_))<;>refine xE 14 11 rfl Za ?_<;>refine xE 15 113 rfl (Zd 10 Yo) ?_)))))))))));rotate_right;(focus ((refine Zo rfl fun w9 M9 N9 DQ back=>?_)<;>refine YD 101 YQ fun h101 ho101=>?_<;>refine Zl (back _ (nrm ?_))<;>(refine LR 3 7 12 kR ?_ ?_ ?_;rotate_right;(focus ((refine Zo rfl fun w9 M9 N9 DQ back=>?_)<;>refine ZO (kk:=1) 111 Zn fun h111 ho111=>?_<;>refine Zl (back _ (nrm ?_))<;>(refine Y8 3 7 kR ?_ ?_;rotate_right;(focus ((refine Zo rfl fun w9 M9 N9 DQ back=>?_)<;>refine ZO (kk:=1) 106 Zn fun h106 ho106=>?_<;>refine Zl (back _ (nrm ?_))<;>(refine Zr 3 kR ?_)<;>(refine Zo rfl fun w9 M9 N9 DQ back=>?_)<;>refine Z1 305 101 102 YQ fun h102 ho102=>?_<;>refine Zl (back _ (nrm ?_))<;>(refine Zr 8 kR ?_)<;>(refine Zo rfl fun w9 M9 N9 DQ back=>?_)<;>(refine Z1 303 106 107 Zn fun h107 ho107=>?_;have q107:En.one (PV.val h107)=true:=ho107)<;>refine Zl (back _ (nrm ?_))<;>(refine Zr 13 kR ?_)<;>(refine Zo rfl fun w9 M9 N9 DQ back=>?_)<;>(refine Z1 304 111 112 Zn fun h112 ho112=>?_;have q112:En.one (PV.val h112)=true:=ho112)<;>refine Zl (back _ (nrm ?_))<;>refine xE 14 11 rfl Za ?_<;>refine xE 15 113 rfl (Zd 10 Yo) ?_));rotate_right;(focus ((refine Zo rfl fun w9 M9 N9 DQ back=>?_)<;>refine Z1 305 101 102 YQ fun h102 ho102=>?_<;>refine Zl (back _ (nrm ?_))<;>(refine Zr 7 kR ?_)<;>(refine Zo rfl fun w9 M9 N9 DQ back=>?_)<;>refine ZO (kk:=1) 106 Zn fun h106 ho106=>?_<;>refine Zl (back _ (nrm ?_))<;>(refine Zr 8 kR ?_)<;>(refine Zo rfl fun w9 M9 N9 DQ back=>?_)<;>(refine Z1 303 106 107 Zn fun h107 ho107=>?_;have q107:En.one (PV.val h107)=true:=ho107)<;>refine Zl (back _ (nrm ?_))<;>(refine Zr 13 kR ?_)<;>(refine Zo rfl fun w9 M9 N9 DQ back=>?_)<;>(refine Z1 304 111 112 Zn fun h112 ho112=>?_;have q112:En.one (PV.val h112)=true:=ho112)<;>refine Zl (back _ (nrm ?_))<;>refine xE 14 11 rfl Za ?_<;>refine xE 15 113 rfl (Zd 10 Yo) ?_)))));rotate_right;(focus ((refine Zo rfl fun w9 M9 N9 DQ back=>?_)<;>refine ZO (kk:=1) 106 Zn fun h106 ho106=>?_<;>refine Zl (back _ (nrm ?_))<;>(refine Y8 3 12 kR ?_ ?_;rotate_right;(focus ((refine Zo rfl fun w9 M9 N9 DQ back=>?_)<;>refine ZO (kk:=1) 111 Zn fun h111 ho111=>?_<;>refine Zl (back _ (nrm ?_))<;>(refine Zr 3 kR ?_)<;>(refine Zo rfl fun w9 M9 N9 DQ back=>?_)<;>refine Z1 305 101 102 YQ fun h102 ho102=>?_<;>refine Zl (back _ (nrm ?_))<;>(refine Zr 8 kR ?_)<;>(refine Zo rfl fun w9 M9 N9 DQ back=>?_)<;>(refine Z1 303 106 107 Zn fun h107 ho107=>?_;have q107:En.one (PV.val h107)=true:=ho107)<;>refine Zl (back _ (nrm ?_))<;>(refine Zr 13 kR ?_)<;>(refine Zo rfl fun w9 M9 N9 DQ back=>?_)<;>(refine Z1 304 111 112 Zn fun h112 ho112=>?_;have q112:En.one (PV.val h112)=true:=ho112)<;>refine Zl (back _ (nrm ?_))<;>refine xE 14 11 rfl Za ?_<;>refine xE 15 113 rfl (Zd 10 Yo) ?_));rotate_right;(focus ((refine Zo rfl fun w9 M9 N9 DQ back=>?_)<;>refine Z1 305 101 102 YQ fun h102 ho102=>?_<;>refine Zl (back _ (nrm ?_))<;>(refine Y8 8 12 kR ?_ ?_;rotate_right;(focus ((refine Zo rfl fun w9 M9 N9 DQ back=>?_)<;>refine ZO (kk:=1) 111 Zn fun h111 ho111=>?_<;>refine Zl (back _ (nrm ?_))<;>(refine Zr 8 kR ?_)<;>(refine Zo rfl fun w9 M9 N9 DQ back=>?_)<;>(refine Z1 303 106 107 Zn fun h107 ho107=>?_;have q107:En.one (PV.val h107)=true:=ho107)<;>refine Zl (back _ (nrm ?_))<;>(refine Zr 13 kR ?_)<;>(refine Zo rfl fun w9 M9 N9 DQ back=>?_)<;>(refine Z1 304 111 112 Zn fun h112 ho112=>?_;have q112:En.one (PV.val h112)=true:=ho112)<;>refine Zl (back _ (nrm ?_))<;>refine xE 14 11 rfl Za ?_<;>refine xE 15 113 rfl (Zd 10 Yo) ?_));rotate_right;(focus ((refine Zo rfl fun w9 M9 N9 DQ back=>?_)<;>(refine Z1 303 106 107 Zn fun h107 ho107=>?_;have q107:En.one (PV.val h107)=true:=ho107)<;>refine Zl (back _ (nrm ?_))<;>(refine Zr 12 kR ?_)<;>(refine Zo rfl fun w9 M9 N9 DQ back=>?_)<;>refine ZO (kk:=1) 111 Zn fun h111 ho111=>?_<;>refine Zl (back _ (nrm ?_))<;>(refine Zr 13 kR ?_)<;>(refine Zo rfl fun w9 M9 N9 DQ back=>?_)<;>(refine Z1 304 111 112 Zn fun h112 ho112=>?_;have q112:En.one (PV.val h112)=true:=ho112)<;>refine Zl (back _ (nrm ?_))<;>refine xE 14 11 rfl Za ?_<;>refine xE 15 113 rfl (Zd 10 Yo) ?_))))))));rotate_right;(focus ((refine Zo rfl fun w9 M9 N9 DQ back=>?_)<;>refine Z1 305 101 102 YQ fun h102 ho102=>?_<;>refine Zl (back _ (nrm ?_))<;>(refine Y8 7 12 kR ?_ ?_;rotate_right;(focus ((refine Zo rfl fun w9 M9 N9 DQ back=>?_)<;>refine ZO (kk:=1) 111 Zn fun h111 ho111=>?_<;>refine Zl (back _ (nrm ?_))<;>(refine Zr 7 kR ?_)<;>(refine Zo rfl fun w9 M9 N9 DQ back=>?_)<;>refine ZO (kk:=1) 106 Zn fun h106 ho106=>?_<;>refine Zl (back _ (nrm ?_))<;>(refine Zr 8 kR ?_)<;>(refine Zo rfl fun w9 M9 N9 DQ back=>?_)<;>(refine Z1 303 106 107 Zn fun h107 ho107=>?_;have q107:En.one (PV.val h107)=true:=ho107)<;>refine Zl (back _ (nrm ?_))<;>(refine Zr 13 kR ?_)<;>(refine Zo rfl fun w9 M9 N9 DQ back=>?_)<;>(refine Z1 304 111 112 Zn fun h112 ho112=>?_;have q112:En.one (PV.val h112)=true:=ho112)<;>refine Zl (back _ (nrm ?_))<;>refine xE 14 11 rfl Za ?_<;>refine xE 15 113 rfl (Zd 10 Yo) ?_));rotate_right;(focus ((refine Zo rfl fun w9 M9 N9 DQ back=>?_)<;>refine ZO (kk:=1) 106 Zn fun h106 ho106=>?_<;>refine Zl (back _ (nrm ?_))<;>(refine Y8 8 12 kR ?_ ?_;rotate_right;(focus ((refine Zo rfl fun w9 M9 N9 DQ back=>?_)<;>refine ZO (kk:=1) 111 Zn fun h111 ho111=>?_<;>refine Zl (back _ (nrm ?_))<;>(refine Zr 8 kR ?_)<;>(refine Zo rfl fun w9 M9 N9 DQ back=>?_)<;>(refine Z1 303 106 107 Zn fun h107 ho107=>?_;have q107:En.one (PV.val h107)=true:=ho107)<;>refine Zl (back _ (nrm ?_))<;>(refine Zr 13 kR ?_)<;>(refine Zo rfl fun w9 M9 N9 DQ back=>?_)<;>(refine Z1 304 111 112 Zn fun h112 ho112=>?_;have q112:En.one (PV.val h112)=true:=ho112)<;>refine Zl (back _ (nrm ?_))<;>refine xE 14 11 rfl Za ?_<;>refine xE 15 113 rfl (Zd 10 Yo) ?_));rotate_right;(focus ((refine Zo rfl fun w9 M9 N9 DQ back=>?_)<;>(refine Z1 303 106 107 Zn fun h107 ho107=>?_;have q107:En.one (PV.val h107)=true:=ho107)<;>refine Zl (back _ (nrm ?_))<;>(refine Zr 12 kR ?_)<;>(refine Zo rfl fun w9 M9 N9 DQ back=>?_)<;>refine ZO (kk:=1) 111 Zn fun h111 ho111=>?_<;>refine Zl (back _ (nrm ?_))<;>(refine Zr 13 kR ?_)<;>(refine Zo rfl fun w9 M9 N9 DQ back=>?_)<;>(refine Z1 304 111 112 Zn fun h112 ho112=>?_;have q112:En.one (PV.val h112)=true:=ho112)<;>refine Zl (back _ (nrm ?_))<;>refine xE 14 11 rfl Za ?_<;>refine xE 15 113 rfl (Zd 10 Yo) ?_))))))))))))<;>(refine Zr 16 kR ?_)<;>(refine PI rfl rfl fun DQ back=>?_)<;>refine YM 10 Zz Wd ?_<;>refine Zl (back _ ?_)<;>(refine GO 17 kR rfl rfl fun DQ back=>?_)<;>refine xL 114 (Zd 10 TR) ?_<;>refine Zl (back _ ?_)<;>(refine GO 18 kR rfl rfl fun DQ back=>?_)<;>refine YM 10 Zz Wd ?_<;>refine Zl (back _ ?_)<;>refine Hf kR (nav ?_)<;>try dsimp only)<;>(
 first
  | (refine Kn (ZE (l:=102) 305 rfl rfl) fun _=>?_
     refine Kn (ZL (l:=305) rfl (Zf0 _ o' y)) fun _=>?_;refine Kn (ZE (l:=107) 303 rfl rfl) fun _=>?_;refine Kn (ZL (l:=303) (p':= .own 3 1 (KG (o'++[y])).length ((KG (o'++[y])).map pInt)) rfl ((KV _ (KG o') i).trans (by rw [ζR,hy2]))) fun _=>?_;refine Kn (ZE (l:=112) 304 rfl rfl) fun _=>?_;refine Kn (ZL (l:=304) (p':= .own 3 1 (GR (o'++[y])).length ((GR (o'++[y])).map pInt)) rfl ((KV _ (GR o') s).trans (by rw [Zc8,hy2]))) fun _=>?_;exact WM ⟨(h107,h112,h102,o'++[y],o'.length),ho107,ho112,ho102,by dsimp only;rw [hy];exact Wc hnew2 (show o'.length<2000 by omega)⟩ ⟨rfl,rfl,rfl,rfl,rfl,rfl,rfl,rfl,rfl,rfl,rfl,rfl,rfl,rfl,rfl,rfl,rfl,rfl,trivial⟩ ⟨rfl,rfl,rfl,rfl,rfl,rfl,rfl,rfl,rfl,rfl,rfl,trivial⟩)
  |exact WM ⟨(r3',r4',r5',o',posK W7 o' (W7 y)),hr3',hr4',hr5',by dsimp only;rw [hid,hy];exact Wb hold2⟩ ⟨rfl,rfl,rfl,rfl,rfl,rfl,rfl,rfl,rfl,rfl,rfl,rfl,rfl,rfl,rfl,rfl,rfl,rfl,trivial⟩ ⟨rfl,rfl,rfl,rfl,rfl,rfl,rfl,rfl,rfl,rfl,rfl,trivial⟩)))
   · first |exact bN hb90|(
 (have hold:posK W7 o' (W7 y)<o'.length:=by simpa using hb90);have hold2:posK (Wm A B).key o' ((Wm A B).key ((Wm A B).step i x s))<o'.length:=by
  rw [←hy];show posK Prod.fst o' y.1<o'.length;rw [←hid];exact hold
 rw [US hold];refine nav ?_
 first
  | (refine Kn (ZE (l:=102) 305 rfl rfl) fun _=>?_
     refine Kn (ZL (l:=305) rfl (Zf0 _ o' y)) fun _=>?_;refine Kn (ZE (l:=107) 303 rfl rfl) fun _=>?_;refine Kn (ZL (l:=303) (p':= .own 3 1 (KG (o'++[y])).length ((KG (o'++[y])).map pInt)) rfl ((KV _ (KG o') i).trans (by rw [ζR,hy2]))) fun _=>?_;refine Kn (ZE (l:=112) 304 rfl rfl) fun _=>?_;refine Kn (ZL (l:=304) (p':= .own 3 1 (GR (o'++[y])).length ((GR (o'++[y])).map pInt)) rfl ((KV _ (GR o') s).trans (by rw [Zc8,hy2]))) fun _=>?_;exact WM ⟨(h107,h112,h102,o'++[y],o'.length),ho107,ho112,ho102,by dsimp only;rw [hy];exact Wc hnew2 (show o'.length<2000 by omega)⟩ ⟨rfl,rfl,rfl,rfl,rfl,rfl,rfl,rfl,rfl,rfl,rfl,rfl,rfl,rfl,rfl,rfl,rfl,rfl,trivial⟩ ⟨rfl,rfl,rfl,rfl,rfl,rfl,rfl,rfl,rfl,rfl,rfl,trivial⟩)
  |exact WM ⟨(r3',r4',r5',o',posK W7 o' (W7 y)),hr3',hr4',hr5',by dsimp only;rw [hid,hy];exact Wb hold2⟩ ⟨rfl,rfl,rfl,rfl,rfl,rfl,rfl,rfl,rfl,rfl,rfl,rfl,rfl,rfl,rfl,rfl,rfl,rfl,trivial⟩ ⟨rfl,rfl,rfl,rfl,rfl,rfl,rfl,rfl,rfl,rfl,rfl,trivial⟩)
 · rintro ⟨⟨g3,g4,g5,o2,n2⟩,w3,w4,w5,hvis⟩;dsimp only at w3 w4 w5 hvis ⊢;refine Ze ?_;(refine xL 115 Zb (xL 116 Zb (xL 117 Zb (xL 118 (Yi 54 Zp) ?_)))<;>refine YM 54 Zg Wl ?_<;>refine Zi ?_)
   (refine xL 119 ZH (xL 57 Zb ?_)<;>refine Zc ?_)
   rw [show s*1=r.length*1 by omega,OL _ oM];refine Zm (
    ⟨(s+1,g3,g4,g5,o2,r++[n2]),Srch.row_snoc hW hvis,(by dsimp only;omega),w3,w4,w5⟩
    ) (by dsimp only;omega) ⟨rfl,rfl,rfl,rfl,rfl,rfl,rfl,rfl,rfl,rfl,rfl,rfl,rfl,rfl,rfl,rfl,trivial⟩ ⟨rfl,rfl,rfl,rfl,rfl,rfl,rfl,rfl,rfl,rfl,rfl,trivial⟩)
 · first|exact bN hb58|(
 have hse:s=A.syms.toNat:=oM;subst hse;have hU2:=Srch.upto_snoc hU hx hW;have htk:o'.take (i+1)=(o.take i)++[x]:=by
  rw [ZT hx'];obtain ⟨e,rfl⟩:=hpr;rw [Ua hi]
 (have f1:((List.range A.n.toNat).map fun s=>ZK (GC A (s:Nat)))[x.1.1*1]? =some (ZK (GC A (x.1.1:Nat))):=by rw [Xp,G5 hx1]);(have f2:((List.range B.n.toNat).map fun s=>ZK (GC B (s:Nat)))[x.1.2*1]? =some (ZK (GC B (x.1.2:Nat))):=by rw [Xp,G5 hx2]);refine nav ?_;refine Zs (En.freeze (l:=54) (t:=16) rfl rfl) fun _=>?_;rw [ζp _ _ _ hrl];(refine ZY (fun i=>([29,30,31,32]:List Nat).elem i) [10] kR ?_<;>refine xDT 0 120 rfl (Zd 10 JS) ?_<;>refine xDT 1 121 rfl (Zd 10 W0) ?_<;>(refine yDT 2 122 rfl (Zj 10 Yz) fun v122 h=>?_;cases h)<;>refine xDT 3 123 rfl Zb ?_<;>refine xDT 6 126 rfl (Zd 10 JS) ?_<;>refine xDT 7 127 rfl (Zd 10 Ks) ?_<;>(refine yDT 8 128 rfl (Zj 10 YL) fun v128 h=>?_;cases h)<;>refine xDT 9 129 rfl Zb ?_<;>refine xDT 10 130 rfl Zb ?_<;>refine xDT 11 131 rfl RI ?_<;>refine xDT 12 132 rfl (JY GP) ?_<;>(refine yDT 13 133 rfl (Ya YL) fun v133 h=>?_;cases h)<;>refine xDT 14 134 rfl Zb ?_<;>refine xDT 15 135 rfl (ZI Yy) ?_<;>(refine yDT 16 136 rfl (Ya Wa) fun v136 h=>?_;cases h)<;>refine xDT 17 137 rfl Zb ?_<;>refine xDT 18 138 rfl RI ?_<;>refine xDT 19 139 rfl (JY GP) ?_<;>(refine yDT 20 140 rfl (Ya YL) fun v140 h=>?_;cases h)<;>refine xDT 21 141 rfl Zb ?_<;>refine xDT 22 142 rfl (ZI Yy) ?_<;>(refine yDT 23 143 rfl (Ya Wa) fun v143 h=>?_;cases h)<;>(refine Zr 4 kR ?_)<;>(refine Zo rfl fun w9 M9 N9 DQ back=>?_)<;>refine ZO (kk:=1) 124 YU fun h124 ho124=>?_<;>refine Zl (back _ (nrm ?_))<;>(refine Zr 5 kR ?_)<;>(refine Zo rfl fun w9 M9 N9 DQ back=>?_)<;>(refine Z1 301 124 125 YU fun h125 ho125=>?_;have q125:En.one (PV.val h125)=true:=ho125)<;>refine Zl (back _ (nrm ?_))<;>refine xDT 27 147 rfl (Zd 10 JS) ?_<;>refine xDT 28 148 rfl (Zd 10 W0) ?_<;>(refine Zr 24 kR ?_)<;>(refine WL (d:=144) rfl (cA call213 (ZeY op (GC A (x.1.1:Nat)) (GC B (x.1.2:Nat)))) fun v144 h=>?_;cases h)<;>(refine Zr 25 kR ?_)<;>(refine Zo rfl fun w9 M9 N9 DQ back=>?_)<;>refine ZO (kk:=1) 145 We fun h145 ho145=>?_<;>refine Zl (back _ (nrm ?_))<;>(refine Zr 26 kR ?_)<;>(refine Zo rfl fun w9 M9 N9 DQ back=>?_)<;>(refine Z1 302 145 146 We fun h146 ho146=>?_;have q146:En.one (PV.val h146)=true:=ho146)<;>refine Zl (back _ (nrm ?_))<;>(refine Zr 29 kR ?_)<;>(refine PI rfl rfl fun DQ back=>?_)<;>refine YM 10 Yz TL ?_<;>refine Zl (back _ ?_)<;>(refine GO 30 kR rfl rfl fun DQ back=>?_)<;>refine xL 149 (Zd 10 JS) ?_<;>refine Zl (back _ ?_)<;>(refine GO 31 kR rfl rfl fun DQ back=>?_)<;>refine xL 150 (Zd 10 Ks) ?_<;>refine Zl (back _ ?_)<;>(refine GO 32 kR rfl rfl fun DQ back=>?_)<;>refine YM 10 YL TM ?_<;>refine Zl (back _ ?_)<;>refine Hf kR (nav ?_)<;>try dsimp only)
 refine Zs (ZE (l:=125) 301 rfl rfl) fun _=>?_;refine Zs (ZE (l:=146) 302 rfl rfl) fun _=>?_;refine Zs (ZL (l:=301) rfl (Ra _ rows r)) fun _=>?_;refine Zs (ZL (l:=302) rfl (TN _ ((o.take i).map (WQ A B op)) (WQ A B op x))) fun _=>?_;rw [show ((o.take i).map (WQ A B op))++[WQ A B op x]=(o'.take (i+1)).map (WQ A B op) by rw [htk,Xu];rfl];(refine Zv ?_<;>refine xL 40 Zb (xL 41 ZH (xL 13 Za ?_))<;>refine Zc ?_)
 refine Zm (
  ⟨(i+1,h125,h146,r3',r4',r5',o',rows++[r]),hU2,(by dsimp only;omega),ho125,ho146,hr3',hr4',hr5'⟩
  ) (by dsimp only;omega) ⟨rfl,rfl,rfl,rfl,rfl,rfl,rfl,rfl,rfl,rfl,rfl,trivial⟩ ⟨rfl,rfl,rfl,rfl,rfl,rfl,rfl,rfl,rfl,rfl,trivial⟩))
 · first|exact bN hb39|(
 have hio:i=o.length:=oM;subst hio;refine nav ?_;refine Zs (Z6 (l:=10) (l':=301) (j:=1) rfl rfl rfl rfl) fun _=>?_;refine Zs (Z6 (l:=10) (l':=302) (j:=2) rfl rfl rfl rfl) fun _=>?_;refine Zs (Z6 (l:=10) (l':=303) (j:=3) rfl rfl rfl rfl) fun _=>?_;refine Zs (Z6 (l:=10) (l':=304) (j:=4) rfl rfl rfl rfl) fun _=>?_;rw [Lz _ _ _ rfl,JQ _ _ _ rfl,ZV _ _ _ rfl,ZV _ _ _ rfl];(refine Zv ?_<;>(refine yL 151 (Zu 10 YP) fun v151 h=>?_;cases h)<;>refine ZD 6 YP ?_<;>refine xL 7 Za ?_<;>refine Zc ?_)
 refine Z2 (k:=5) 6 kR (results169) rfl rfl rfl (Xa rfl) dC rfl (.inl ⟨(o,rows),Srch.all_some hU (Xg _) (show o.length≤(Wm A B).cap from hcap),?_⟩);unfold SO;dsimp only;rw [VN,hsN];rfl)
theorem Za2 (l:List Bool):AF prog 170 [.sl l.length (l.map ZK),ZK true] (· =pInt (idx (fun x=>x==true) l)):=by
 refine AF.of_body 19 func170 rfl ntmps170 (Xa rfl) ?_
 intro w0 M0 vs hl hv
 obtain ⟨v0,v1,rfl⟩:=YG hl
 obtain rfl:=hv 1 _ _ rfl rfl
 clear hl hv
 refine YO 0 rfl fun hlen=>?_
 refine Ze ?_
 (refine xL 4 Za ?_<;>refine Zi ?_)
 (refine xL 6 Zb (xL 7 (ZR Yy) (xL 8 Zb ?_))<;>refine Zc ?_)
 refine ZB (ι:={k:Nat//k≤l.length∧∀i y,i<k→l[i]? =some y→(y==true)=false}) (fun k=>⟨[(0,_,_),(1,_,_),(7,_,_),(8, .int .i64 k.1,pInt k.1)],[]⟩) (fun k=>l.length-k.1) ⟨0,oM,oM⟩ (fun a w H=>H.weaken ⟨rfl,rfl,rfl,rfl,trivial⟩ trivial) ?_
 rintro ⟨k,hk,hp⟩
 dsimp only
 refine Ze ?_
 (refine xL 9 ZP ?_<;>refine Zc ?_)
 refine cX ?_ ?_<;>intro hb9
 · first |exact bN hb9|(
 obtain ⟨x,hx⟩:=Zq (show k<l.length by omega);have e1:=Z7 (f:=ZK) hx;refine Ze ?_;(refine xL 10 Zb (xL 5 Za ?_)<;>refine Zi ?_)
 (refine xL 11 Zb (xL 12 Zb (xL 13 Zb (xL 14 (ZI Yy) ?_)))<;>(refine yL 15 (Ya Wa) fun v15 h=>?_;cases h)<;>refine xL 16 (Znj underlying4) ?_<;>refine Zc ?_)
 refine cX ?_ ?_<;>intro hb16
 · first|exact bN hb16|(
 (have hx1:(x==true)=true:=by cases x<;>simp_all);refine Ze ?_;(refine xL 17 Zb (xL 4 Za ?_)<;>refine Zc ?_)
 refine Zy (results170) rfl ?_;rw [Gl hp hx hx1])
 · first|exact bN hb16|(
 (have hx1:(x==true)=false:=by cases x<;>simp_all);refine Ze ?_;(refine xL 18 ZH (xL 8 Zb ?_)<;>refine Zc ?_)
 refine Zm (
  ⟨k+1,oM,fun i y hi hy=>by
   by_cases e:i=k
   · subst e;rw [hx] at hy;cases hy;exact hx1
   · exact hp i y oM hy⟩
  ) (by dsimp only;omega) ⟨rfl,rfl,rfl,rfl,trivial⟩ trivial))
 · first|exact bN hb9|(
 refine Ze ?_;(refine xL 4 Za ?_<;>refine Zc ?_)
 refine Zy (results170) rfl ?_;rw [Gm fun i y hi hy=>hp i y oM hy])
theorem Zo3:Zoy prog 171:=fun blk cap zs w hH _ hsz=>(Tryz.slices_Reverse_int blk 0 cap zs w hH oM).mono fun e w' ⟨h1,n,h2⟩=>⟨h1,n,#[],by rw [h2];simp [Go.Sort.grow];rfl⟩
theorem ZoK:HO prog 171:=fun p cap w=>Tryz.slices_Reverse_int_empty p cap w
theorem Zl7 {A B:Aut} {op:Int} {q:List PrS×List (List Nat)} (h:idx (fun x=>x==true) (q.1.map (WQ A B op))= -1):TJ A B op q=(true,[]):=by
 rw [ZoI] at h
 unfold TJ
 cases h1:(q.1.map (WQ A B op)).idxOf? true with
 |none=>rfl
 | some i=>
   rw [h1] at h;have h':((i:Nat):Int)= -1:=h;omega
theorem Zj2 {A B:Aut} {op:Int} {q:List PrS×List (List Nat)} {i:Nat} (h:idx (fun x=>x==true) (q.1.map (WQ A B op))=(i:Int)):TJ A B op q=(false,P8 (q.1.map (·.2)) i):=by
 rw [ZoI] at h
 unfold TJ
 cases h1:(q.1.map (WQ A B op)).idxOf? true with
 | none=>
   rw [h1] at h;have h':(-1:Int)=((i:Nat):Int):=h;omega
 | some j=>
   rw [h1] at h;dsimp only at h ⊢;rw [show j=i by omega];rfl
theorem Zhs {A B:Aut} {op:Int} (o:List PrS) {v:Int} (h:idx (fun x=>x==true) (o.map (WQ A B op))=v):v= -1∨∃i:Nat,v=(i:Int)∧i<o.length:=by
 rcases Zas (p:=fun x=>x==true) (l:=o.map (WQ A B op)) with ⟨h1,_⟩|⟨i,x,h1,h2,_⟩
 · exact .inl (by rw [←h,h1])
 · exact .inr ⟨i,by rw [←h,h1],by have:=Zf h2;rwa [Xe] at this⟩
theorem Zj3 (A B:Aut) (op:Int) (o:List PrS) (rows:List (List Nat)) (hu:(Wm A B).upto ((0,0),(-1,-1)) 2000=some (o,rows)) (h0:o[0]? =some ((0,0),(-1,-1))) (hcap:o.length≤2000):AF prog 122 [SO A B op (o,rows)] (· = .tup [pInts (TJ A B op (o,rows)).2,ZK (!(TJ A B op (o,rows)).1)]):=by
 obtain ⟨v,hv⟩:∃v,idx (fun x=>x==true) (o.map (WQ A B op))=v:=⟨_,rfl⟩
 have hix:=Za2 (o.map (WQ A B op))
 rw [hv] at hix
 have hvc:=Zhs o hv
 have hbk:=ζF hu h0
 refine AF.of_body 34 func122 rfl ntmps122 (Xa rfl) ?_
 intro w0 M0 vs hl hv
 obtain ⟨v0,rfl⟩:=Wj hl
 clear hl hv
 refine Ze ?_
 (refine ZC 1 5 fun h1=>?_<;>refine xL 2 Za (xL 3 Za ?_)<;>refine Zi ?_)
 (refine xL 6 (Zd 1 JS) (xL 7 (Zd 1 Ks) ?_)<;>(refine yL 8 (Zj 1 YL) fun v8 h=>?_;cases h)<;>(refine cS 9 (cA call170 (hix)) fun v9 h=>?_;cases h)<;>refine xL 4 Za ?_<;>refine Zi ?_)
 (refine xL 10 Zb (xL 11 ZP ?_)<;>refine Zc ?_)
 refine cX ?_ ?_<;>intro hb11
 · first|exact bN hb11|(
 have hv1:v= -1:=oM;subst hv1;have hcr:=Zl7 (q:=(o,rows)) hv;refine Ze ?_;(refine xL 2 Za (xL 3 Za ?_)<;>refine Zc ?_)
 refine Wr (Jp (t:=2) rfl) fun _=>?_;refine Jm (results122) rfl rfl ?_;rw [hcr];rfl)
 · first |exact bN hb11|(
 obtain ⟨i0,rfl,hi0⟩:∃i:Nat,v=(i:Int)∧i<o.length:=by
  rcases hvc with h|h
  · omega
  · exact h
 have hcr:=Zj2 (q:=(o,rows)) hv;dsimp only at hcr;refine Ze ?_;(refine xL 5 Za ?_<;>refine Zc ?_)
 refine Zs (Jl 200 3 1 rfl) fun _=>?_;refine ZB (ι:={k:Nat×List Int×Value//P8 (o.map (·.2)) i0=P8 (o.map (·.2)) k.1++k.2.1.reverse∧k.1<o.length∧k.2.1.length+k.1≤i0∧k.2.2.oneCell'=true}) (fun k=>⟨[(1,_,_),(2,_,_),(3,_,_),(4, .int .i64 k.1.1,pInt k.1.1),(5,k.1.2.2, .val k.1.2.2)],[(1,_,_),(200,k.1.2.2, .own 3 1 k.1.2.1.length (k.1.2.1.map pInt))]⟩) (fun k=>k.1.1) ⟨(i0,[], .slice none 0 0),sM,hi0,sM,rfl⟩ (fun a w H=>H.weaken ⟨rfl,rfl,rfl,rfl,rfl,trivial⟩ ⟨rfl,rfl,trivial⟩) ?_;rintro ⟨⟨cur,out,r⟩,hw,hc,hl,hr⟩;dsimp only;dsimp only at hw hc hl hr;obtain ⟨⟨pq,f,s⟩,hx⟩:=Zq hc;(have hpf:(KG o).length=o.length:=by unfold KG;rw [Xe]);(have hps:(GR o).length=o.length:=by unfold GR;rw [Xe]);have e1:((KG o).map pInt)[cur*1]? =some (pInt f):=Z7 (by unfold KG;rw [Xh,hx];rfl);have e2:((GR o).map pInt)[cur*1]? =some (pInt s):=Z7 (by unfold GR;rw [Xh,hx];rfl);(have e3:(o.map (·.2))[cur]? =some (f,s):=by rw [Xh,hx];rfl);have hfc:=hbk cur (f,s) e3;refine Ze ?_;(refine xL 12 (Zd 1 Yo) ?_<;>(refine yL 13 (Zj 1 Zz) fun v13 h=>?_;cases h)<;>refine xL 14 Zb (xL 15 (ZI Zp) ?_)<;>(refine yL 16 (Ya Zg) fun v16 h=>?_;cases h)<;>refine xL 17 Y9 ?_<;>refine Zc ?_)
 refine cX ?_ ?_<;>intro hb17
 · first|exact bN hb17|(
 obtain ⟨j,rfl⟩:∃j:Nat,f=(j:Int):=⟨f.toNat,oM⟩;dsimp only at hfc;have hwn:=ZfM hbk e3 (by dsimp only;omega);dsimp only at hwn;rw [XS] at hwn;refine Ze ?_;(refine xL 23 Zb (xL 24 (Zd 1 TR) ?_)<;>(refine yL 25 (Zj 1 Zz) fun v25 h=>?_;cases h)<;>refine xL 26 Zb (xL 27 (ZI Zp) ?_)<;>(refine yL 28 (Ya Zg) fun v28 h=>?_;cases h)<;>refine ZO (kk:=1) 29 Zn fun h29 ho29=>?_<;>refine Z1 200 29 30 Zn fun h30 ho30=>?_<;>refine xL 5 Za ?_<;>refine Zc ?_)
 refine Zs (ZE (l:=30) 200 rfl rfl) fun _=>?_;refine Zs (ZL (l:=200) rfl (KV _ out s)) fun _=>?_;(refine Zv ?_<;>refine xL 18 (Zd 1 Yo) ?_<;>(refine yL 19 (Zj 1 Zz) fun v19 h=>?_;cases h)<;>refine xL 20 Zb (xL 21 (ZI Zp) ?_)<;>(refine yL 22 (Ya Zg) fun v22 h=>?_;cases h)<;>refine xL 4 Za ?_<;>refine Zc ?_)
 refine Zm (
  ⟨(j,out++[s],h30),by dsimp only;rw [hw,hwn,List.reverse_append];simp,by dsimp only;omega,by dsimp only;rw [Xc,Xx];omega,ho30⟩
  ) (by dsimp only;omega) ⟨rfl,rfl,rfl,rfl,rfl,trivial⟩ ⟨rfl,rfl,trivial⟩)
 · first|exact bN hb17|(
 have hwn:=ZcY e3 (by dsimp only;omega);rw [hwn,X9] at hw;refine Ze ?_;(refine xL 31 Zb ?_<;>(rcases X4 out.length with h0'|h0'<;>first|(refine Zt (ZL (l:=200) (p':= .own 3 1 0 []) rfl (by rw [XR h0'];rfl)) fun _=>?_;refine HP 200 ZoK (call171) ?_;refine Zt (ZL (l:=200) (p':= .own 3 1 out.length (out.reverse.map pInt)) rfl (by rw [XR h0'];rfl)) fun _=>?_)|(refine Znr 200 Zo3 (call171) ?_ h0'))<;>refine Zc ?_)<;>(
 refine Zs (En.freeze (l:=200) (t:=5) rfl rfl) fun _=>?_;rw [show share (PV.own 3 1 out.length (out.reverse.map pInt))=pInts out.reverse by rw [←List.length_reverse];exact ZV _ _ _ rfl];(refine Zv ?_<;>refine xL 33 Zb (xL 2 Za (xL 3 Za ?_))<;>refine Zc ?_)
 refine Jm (results122) rfl rfl ?_;rw [hcr,hw];rfl)))
theorem Zf1 {a b:Aut} (h:Z5 a=false):WH a b=1:=by unfold WH;rw [US (.inl h)]
theorem Zf2 {a b:Aut} (h:Z5 b=false):WH a b=1:=by unfold WH;rw [US (.inr h)]
theorem Zj4 {a b:Aut} (h1:Z5 a=true) (h2:Z5 b=true) (h:¬a.syms=b.syms):WH a b=29:=by unfold WH;rw [UR (by rw [h1,h2];simp),US h]
theorem Zj5 {a b:Aut} (h1:Z5 a=true) (h2:Z5 b=true) (h:a.syms=b.syms):WH a b=0:=by unfold WH;rw [UR (by rw [h1,h2];simp),UR (fun e=>e h)]
theorem E0 {a b:Aut} (h:WH a b=0):Z5 a=true∧Z5 b=true∧a.syms=b.syms:=by
 unfold WH at h
 split at h
 · omega
 · rename_i h1;split at h
   · omega
   · rename_i h2;refine ⟨?_,?_,?_⟩
     · cases e:Z5 a with
       |true=>rfl
       |false=>exact UT (.inl e) h1
     · cases e:Z5 b with
       |true=>rfl
       |false=>exact UT (.inr e) h1
     · exact Decidable.not_not.1 h2
def pPZ:PV:= .agg [pInt 0, .val (.slice none 0 0), .val (.slice none 0 0), .val (.slice none 0 0), .val (.slice none 0 0)]
def ZnP (a b:Aut) (op:Int):PV:=match Ta a b with
 | .ok (A,B,q)=> .tup [SO A B op q,pInt 0]
 | .error e=> .tup [pPZ,pInt e]
theorem Zl8 (a b:Aut) (ha:Z5 a=false) (hb:Z5 b=false) (hs:True):AF prog 120 [ZN a,ZN b] (· =pInt 1):=by
 have hva:=Wv a
 have hvb:=Wv b
 rw [ha] at hva
 rw [hb] at hvb
 refine AF.of_body 20 func120 rfl ntmps120 (Xa rfl) ?_
 intro w0 M0 vs hl hv
 obtain ⟨v0,v1,rfl⟩:=YG hl
 clear hl hv
 refine Ze ?_
 (refine ZC 2 5 fun h2=>?_<;>refine ZC 3 5 fun h3=>?_<;>refine xL 4 Za ?_<;>refine Zi ?_)
 ((refine yL 6 (Zu 2 Zh) fun v6 h=>?_;cases h)<;>(refine cS 7 (cA call107 (hva)) fun v7 h=>?_;cases h)<;>refine xL 8 Z8 (xL 9 Zb ?_)<;>refine kL 10 ?_<;>refine kL 11 ?_<;>refine kL 12 ?_<;>refine xL 13 ZG (xL 5 Za ?_)<;>refine Zc ?_)<;>(
 refine cX ?_ ?_<;>intro hb5
 · first|exact bN hb5|(
 refine Ze ?_;(refine xL 4 Za ?_<;>refine Zc ?_)
 exact Zy (results120) rfl rfl)
 · first
   |exact bN hb5
   |skip)
theorem Zl9 (a b:Aut) (ha:Z5 a=false) (hb:Z5 b=true) (hs:True):AF prog 120 [ZN a,ZN b] (· =pInt 1):=by
 have hva:=Wv a
 have hvb:=Wv b
 rw [ha] at hva
 rw [hb] at hvb
 refine AF.of_body 20 func120 rfl ntmps120 (Xa rfl) ?_
 intro w0 M0 vs hl hv
 obtain ⟨v0,v1,rfl⟩:=YG hl
 clear hl hv
 refine Ze ?_
 (refine ZC 2 5 fun h2=>?_<;>refine ZC 3 5 fun h3=>?_<;>refine xL 4 Za ?_<;>refine Zi ?_)
 ((refine yL 6 (Zu 2 Zh) fun v6 h=>?_;cases h)<;>(refine cS 7 (cA call107 (hva)) fun v7 h=>?_;cases h)<;>refine xL 8 Z8 (xL 9 Zb ?_)<;>refine kL 10 ?_<;>refine kL 11 ?_<;>refine kL 12 ?_<;>refine xL 13 ZG (xL 5 Za ?_)<;>refine Zc ?_)<;>(
 refine cX ?_ ?_<;>intro hb5
 · first|exact bN hb5|(
 refine Ze ?_;(refine xL 4 Za ?_<;>refine Zc ?_)
 exact Zy (results120) rfl rfl)
 · first
   |exact bN hb5
   |skip)
theorem Zma (a b:Aut) (ha:Z5 a=true) (hb:Z5 b=false) (hs:True):AF prog 120 [ZN a,ZN b] (· =pInt 1):=by
 have hva:=Wv a
 have hvb:=Wv b
 rw [ha] at hva
 rw [hb] at hvb
 refine AF.of_body 20 func120 rfl ntmps120 (Xa rfl) ?_
 intro w0 M0 vs hl hv
 obtain ⟨v0,v1,rfl⟩:=YG hl
 clear hl hv
 refine Ze ?_
 (refine ZC 2 5 fun h2=>?_<;>refine ZC 3 5 fun h3=>?_<;>refine xL 4 Za ?_<;>refine Zi ?_)
 ((refine yL 6 (Zu 2 Zh) fun v6 h=>?_;cases h)<;>(refine cS 7 (cA call107 (hva)) fun v7 h=>?_;cases h)<;>refine xL 8 Z8 (xL 9 Zb ?_)<;>(refine yL 10 (Zu 3 Zh) fun v10 h=>?_;cases h)<;>(refine cS 11 (cA call107 (hvb)) fun v11 h=>?_;cases h)<;>refine xL 12 Z8 (xL 13 ZG (xL 5 Za ?_))<;>refine Zc ?_)<;>(
 refine cX ?_ ?_<;>intro hb5
 · first|exact bN hb5|(
 refine Ze ?_;(refine xL 4 Za ?_<;>refine Zc ?_)
 exact Zy (results120) rfl rfl)
 · first
   |exact bN hb5
   |skip)
theorem Zmb (a b:Aut) (ha:Z5 a=true) (hb:Z5 b=true) (hs:¬a.syms=b.syms):AF prog 120 [ZN a,ZN b] (· =pInt 29):=by
 have hva:=Wv a
 have hvb:=Wv b
 rw [ha] at hva
 rw [hb] at hvb
 refine AF.of_body 20 func120 rfl ntmps120 (Xa rfl) ?_
 intro w0 M0 vs hl hv
 obtain ⟨v0,v1,rfl⟩:=YG hl
 clear hl hv
 refine Ze ?_
 (refine ZC 2 5 fun h2=>?_<;>refine ZC 3 5 fun h3=>?_<;>refine xL 4 Za ?_<;>refine Zi ?_)
 ((refine yL 6 (Zu 2 Zh) fun v6 h=>?_;cases h)<;>(refine cS 7 (cA call107 (hva)) fun v7 h=>?_;cases h)<;>refine xL 8 Z8 (xL 9 Zb ?_)<;>(refine yL 10 (Zu 3 Zh) fun v10 h=>?_;cases h)<;>(refine cS 11 (cA call107 (hvb)) fun v11 h=>?_;cases h)<;>refine xL 12 Z8 (xL 13 ZG (xL 5 Za ?_))<;>refine Zc ?_)<;>(
 refine cX ?_ ?_<;>intro hb5
 · first|exact bN hb5|(
 refine Ze ?_;(refine xL 4 Za ?_<;>refine Zc ?_)
 exact Zy (results120) rfl rfl)
 · first|exact bN hb5|(
 refine Ze ?_;(refine xL 15 (Zd 2 Z3) ?_<;>(refine yL 16 (Zj 2 Zg) fun v16 h=>?_;cases h)<;>refine xL 17 (Zd 3 Z3) ?_<;>(refine yL 18 (Zj 3 Zg) fun v18 h=>?_;cases h)<;>refine xL 19 Yx (xL 14 Za ?_)<;>refine Zc ?_)
 refine cX ?_ ?_<;>intro hb14
 · first|exact bN hb14|(
 refine Ze ?_;(refine xL 4 Za ?_<;>refine Zc ?_)
 first|exact Zy (results120) rfl rfl|exact UT hs (by simpa using hb14))
 · first|exact bN hb14|(
 refine Ze ?_;(refine xL 4 Za ?_<;>refine Zc ?_)
 first|exact Zy (results120) rfl rfl|exact UT (by simpa using hb14) hs)))
theorem Zmc (a b:Aut) (ha:Z5 a=true) (hb:Z5 b=true) (hs:a.syms=b.syms):AF prog 120 [ZN a,ZN b] (· =pInt 0):=by
 have hva:=Wv a
 have hvb:=Wv b
 rw [ha] at hva
 rw [hb] at hvb
 refine AF.of_body 20 func120 rfl ntmps120 (Xa rfl) ?_
 intro w0 M0 vs hl hv
 obtain ⟨v0,v1,rfl⟩:=YG hl
 clear hl hv
 refine Ze ?_
 (refine ZC 2 5 fun h2=>?_<;>refine ZC 3 5 fun h3=>?_<;>refine xL 4 Za ?_<;>refine Zi ?_)
 ((refine yL 6 (Zu 2 Zh) fun v6 h=>?_;cases h)<;>(refine cS 7 (cA call107 (hva)) fun v7 h=>?_;cases h)<;>refine xL 8 Z8 (xL 9 Zb ?_)<;>(refine yL 10 (Zu 3 Zh) fun v10 h=>?_;cases h)<;>(refine cS 11 (cA call107 (hvb)) fun v11 h=>?_;cases h)<;>refine xL 12 Z8 (xL 13 ZG (xL 5 Za ?_))<;>refine Zc ?_)<;>(
 refine cX ?_ ?_<;>intro hb5
 · first|exact bN hb5|(
 refine Ze ?_;(refine xL 4 Za ?_<;>refine Zc ?_)
 exact Zy (results120) rfl rfl)
 · first|exact bN hb5|(
 refine Ze ?_;(refine xL 15 (Zd 2 Z3) ?_<;>(refine yL 16 (Zj 2 Zg) fun v16 h=>?_;cases h)<;>refine xL 17 (Zd 3 Z3) ?_<;>(refine yL 18 (Zj 3 Zg) fun v18 h=>?_;cases h)<;>refine xL 19 Yx (xL 14 Za ?_)<;>refine Zc ?_)
 refine cX ?_ ?_<;>intro hb14
 · first|exact bN hb14|(
 refine Ze ?_;(refine xL 4 Za ?_<;>refine Zc ?_)
 first|exact Zy (results120) rfl rfl|exact UT hs (by simpa using hb14))
 · first|exact bN hb14|(
 refine Ze ?_;(refine xL 4 Za ?_<;>refine Zc ?_)
 first|exact Zy (results120) rfl rfl|exact UT (by simpa using hb14) hs)))
theorem Pd (a b:Aut):AF prog 120 [ZN a,ZN b] (· =pInt (WH a b)):=by
 cases ha:Z5 a
 · rw [Zf1 ha]
   cases hb:Z5 b
   · exact Zl8 a b ha hb trivial
   · exact Zl9 a b ha hb trivial
 · cases hb:Z5 b
   · rw [Zf2 hb];exact Zma a b ha hb trivial
   · by_cases hs:a.syms=b.syms
     · rw [Zj5 ha hb hs];exact Zmc a b ha hb hs
     · rw [Zj4 ha hb hs];exact Zmb a b ha hb hs
theorem Zj6 (a b:Aut) (op:Int) {A:Aut} (ha:AF prog 132 [ZN a] (· = .tup [ZN A,pInt 0])) (hb:AF prog 132 [ZN b] (· = .tup [KS,pInt 13])):AF prog 121 [ZN a,ZN b,pInt op] (· = .tup [pPZ,pInt 13]):=by
 refine AF.of_body 42 func121 rfl ntmps121 (Xa rfl) ?_
 intro w0 M0 vs hl hv
 obtain ⟨v0,v1,v2,rfl⟩:=LO hl
 obtain rfl:=hv 2 _ _ rfl rfl
 clear hl hv
 refine Ze ?_
 (refine ZC 3 5 fun h3=>?_<;>refine ZC 4 5 fun h4=>?_<;>refine Zx [(.int .i64 0),(.slice none 0 0),(.slice none 0 0),(.slice none 0 0),(.slice none 0 0)] 5 6 WK fun h6=>?_<;>refine xL 7 Za ?_<;>refine Zi ?_)
 ((refine yL 15 (Zu 3 Zh) fun v15 h=>?_;cases h)<;>(refine cP 16 (cA call132 (ha)) fun va16 vb16 hva16 h=>?_;cases h)<;>refine xL 14 Zb (xL 17 Zk (xL 18 Zk ?_))<;>refine Zx [(.int .i64 0),(.int .i64 0),(.slice none 0 0),(.slice none 0 0),(.slice none 0 0)] 5 8 ZJ fun h8=>?_<;>refine ZD 8 Zh ?_<;>refine xL 9 Za ?_<;>refine Zi ?_)
 ((refine yL 20 (Zu 4 Zh) fun v20 h=>?_;cases h)<;>(refine cP 21 (cA call132 (hb)) fun va21 vb21 hva21 h=>?_;cases h)<;>refine xL 19 Zb (xL 22 Zk (xL 23 Zk ?_))<;>refine Zx [(.int .i64 0),(.int .i64 0),(.slice none 0 0),(.slice none 0 0),(.slice none 0 0)] 5 10 ZJ fun h10=>?_<;>refine ZD 10 Zh ?_<;>refine xL 11 Za ?_<;>refine Zi ?_)
 (refine xL 24 Zb (xL 25 Yx (xL 26 Zb (xL 27 Zb (xL 28 Yx (xL 29 ZG ?_)))))<;>refine Zc ?_)<;>(
 refine cX ?_ ?_<;>intro hb29
 · refine Ze ?_;(refine xL 30 (PK Od rfl) ?_<;>refine ZD 6 YP ?_<;>refine xL 7 Za ?_<;>refine Zc ?_)
   exact Z2 (k:=5) 6 kR (results121) rfl rfl rfl (Xa rfl) dC rfl rfl
 · first|omega|exact UT dC hb29|exact Bool.noConfusion hb29)
theorem Zj7 (a b:Aut) (op:Int) {A:Aut} (ha:AF prog 132 [ZN a] (· = .tup [KS,pInt 13])) (hb:AF prog 132 [ZN b] (· = .tup [ZN A,pInt 0])):AF prog 121 [ZN a,ZN b,pInt op] (· = .tup [pPZ,pInt 13]):=by
 refine AF.of_body 42 func121 rfl ntmps121 (Xa rfl) ?_
 intro w0 M0 vs hl hv
 obtain ⟨v0,v1,v2,rfl⟩:=LO hl
 obtain rfl:=hv 2 _ _ rfl rfl
 clear hl hv
 refine Ze ?_
 (refine ZC 3 5 fun h3=>?_<;>refine ZC 4 5 fun h4=>?_<;>refine Zx [(.int .i64 0),(.slice none 0 0),(.slice none 0 0),(.slice none 0 0),(.slice none 0 0)] 5 6 WK fun h6=>?_<;>refine xL 7 Za ?_<;>refine Zi ?_)
 ((refine yL 15 (Zu 3 Zh) fun v15 h=>?_;cases h)<;>(refine cP 16 (cA call132 (ha)) fun va16 vb16 hva16 h=>?_;cases h)<;>refine xL 14 Zb (xL 17 Zk (xL 18 Zk ?_))<;>refine Zx [(.int .i64 0),(.int .i64 0),(.slice none 0 0),(.slice none 0 0),(.slice none 0 0)] 5 8 ZJ fun h8=>?_<;>refine ZD 8 Zh ?_<;>refine xL 9 Za ?_<;>refine Zi ?_)
 ((refine yL 20 (Zu 4 Zh) fun v20 h=>?_;cases h)<;>(refine cP 21 (cA call132 (hb)) fun va21 vb21 hva21 h=>?_;cases h)<;>refine xL 19 Zb (xL 22 Zk (xL 23 Zk ?_))<;>refine Zx [(.int .i64 0),(.int .i64 0),(.slice none 0 0),(.slice none 0 0),(.slice none 0 0)] 5 10 ZJ fun h10=>?_<;>refine ZD 10 Zh ?_<;>refine xL 11 Za ?_<;>refine Zi ?_)
 (refine xL 24 Zb (xL 25 Yx (xL 26 Zb ?_))<;>refine kL 27 ?_<;>refine kL 28 ?_<;>refine xL 29 ZG ?_<;>refine Zc ?_)<;>(
 refine cX ?_ ?_<;>intro hb29
 · refine Ze ?_;(refine xL 30 (PK Od rfl) ?_<;>refine ZD 6 YP ?_<;>refine xL 7 Za ?_<;>refine Zc ?_)
   exact Z2 (k:=5) 6 kR (results121) rfl rfl rfl (Xa rfl) dC rfl rfl
 · first|omega|exact UT dC hb29|exact Bool.noConfusion hb29)
theorem Zj8 (a b:Aut) (op:Int) (ha:AF prog 132 [ZN a] (· = .tup [KS,pInt 13])) (hb:AF prog 132 [ZN b] (· = .tup [KS,pInt 13])):AF prog 121 [ZN a,ZN b,pInt op] (· = .tup [pPZ,pInt 13]):=by
 refine AF.of_body 42 func121 rfl ntmps121 (Xa rfl) ?_
 intro w0 M0 vs hl hv
 obtain ⟨v0,v1,v2,rfl⟩:=LO hl
 obtain rfl:=hv 2 _ _ rfl rfl
 clear hl hv
 refine Ze ?_
 (refine ZC 3 5 fun h3=>?_<;>refine ZC 4 5 fun h4=>?_<;>refine Zx [(.int .i64 0),(.slice none 0 0),(.slice none 0 0),(.slice none 0 0),(.slice none 0 0)] 5 6 WK fun h6=>?_<;>refine xL 7 Za ?_<;>refine Zi ?_)
 ((refine yL 15 (Zu 3 Zh) fun v15 h=>?_;cases h)<;>(refine cP 16 (cA call132 (ha)) fun va16 vb16 hva16 h=>?_;cases h)<;>refine xL 14 Zb (xL 17 Zk (xL 18 Zk ?_))<;>refine Zx [(.int .i64 0),(.int .i64 0),(.slice none 0 0),(.slice none 0 0),(.slice none 0 0)] 5 8 ZJ fun h8=>?_<;>refine ZD 8 Zh ?_<;>refine xL 9 Za ?_<;>refine Zi ?_)
 ((refine yL 20 (Zu 4 Zh) fun v20 h=>?_;cases h)<;>(refine cP 21 (cA call132 (hb)) fun va21 vb21 hva21 h=>?_;cases h)<;>refine xL 19 Zb (xL 22 Zk (xL 23 Zk ?_))<;>refine Zx [(.int .i64 0),(.int .i64 0),(.slice none 0 0),(.slice none 0 0),(.slice none 0 0)] 5 10 ZJ fun h10=>?_<;>refine ZD 10 Zh ?_<;>refine xL 11 Za ?_<;>refine Zi ?_)
 (refine xL 24 Zb (xL 25 Yx (xL 26 Zb ?_))<;>refine kL 27 ?_<;>refine kL 28 ?_<;>refine xL 29 ZG ?_<;>refine Zc ?_)<;>(
 refine cX ?_ ?_<;>intro hb29
 · refine Ze ?_;(refine xL 30 (PK Od rfl) ?_<;>refine ZD 6 YP ?_<;>refine xL 7 Za ?_<;>refine Zc ?_)
   exact Z2 (k:=5) 6 kR (results121) rfl rfl rfl (Xa rfl) dC rfl rfl
 · first|omega|exact UT dC hb29|exact Bool.noConfusion hb29)
theorem Zht (a b A B:Aut) (op:Int) (q:List PrS×List (List Nat)) (ha:AF prog 132 [ZN a] (· = .tup [ZN A,pInt 0])) (hb:AF prog 132 [ZN b] (· = .tup [ZN B,pInt 0])) (hp:AF prog 169 [ZN A,ZN B,pInt op] (· = .tup [SO A B op q,ZK true])):AF prog 121 [ZN a,ZN b,pInt op] (· = .tup [SO A B op q,pInt 0]):=by
 refine AF.of_body 42 func121 rfl ntmps121 (Xa rfl) ?_
 intro w0 M0 vs hl hv
 obtain ⟨v0,v1,v2,rfl⟩:=LO hl
 obtain rfl:=hv 2 _ _ rfl rfl
 clear hl hv
 refine Ze ?_
 (refine ZC 3 5 fun h3=>?_<;>refine ZC 4 5 fun h4=>?_<;>refine Zx [(.int .i64 0),(.slice none 0 0),(.slice none 0 0),(.slice none 0 0),(.slice none 0 0)] 5 6 WK fun h6=>?_<;>refine xL 7 Za ?_<;>refine Zi ?_)
 ((refine yL 15 (Zu 3 Zh) fun v15 h=>?_;cases h)<;>(refine cP 16 (cA call132 (ha)) fun va16 vb16 hva16 h=>?_;cases h)<;>refine xL 14 Zb (xL 17 Zk (xL 18 Zk ?_))<;>refine Zx [(.int .i64 0),(.int .i64 0),(.slice none 0 0),(.slice none 0 0),(.slice none 0 0)] 5 8 ZJ fun h8=>?_<;>refine ZD 8 Zh ?_<;>refine xL 9 Za ?_<;>refine Zi ?_)
 ((refine yL 20 (Zu 4 Zh) fun v20 h=>?_;cases h)<;>(refine cP 21 (cA call132 (hb)) fun va21 vb21 hva21 h=>?_;cases h)<;>refine xL 19 Zb (xL 22 Zk (xL 23 Zk ?_))<;>refine Zx [(.int .i64 0),(.int .i64 0),(.slice none 0 0),(.slice none 0 0),(.slice none 0 0)] 5 10 ZJ fun h10=>?_<;>refine ZD 10 Zh ?_<;>refine xL 11 Za ?_<;>refine Zi ?_)
 (refine xL 24 Zb (xL 25 Yx (xL 26 Zb (xL 27 Zb (xL 28 Yx (xL 29 ZG ?_)))))<;>refine Zc ?_)<;>(
 refine cX ?_ ?_<;>intro hb29
 · first|omega|exact UT rfl hb29|exact bN hb29
 · refine Ze ?_;((refine yL 32 (Zu 8 Zh) fun v32 h=>?_;cases h)<;>(refine yL 33 (Zu 10 Zh) fun v33 h=>?_;cases h)<;>refine xL 34 Zb ?_<;>(refine cP 35 (cA call169 (hp)) fun va35 vb35 hva35 h=>?_;cases h)<;>refine xL 31 Zb (xL 36 Zk (xL 37 Zk ?_))<;>refine Zx [(.int .i64 0),(.slice none 0 0),(.slice none 0 0),(.slice none 0 0),(.slice none 0 0)] 5 12 WK fun h12=>?_<;>refine ZD 12 YP ?_<;>refine xL 13 Za ?_<;>refine Zi ?_)
   (refine xL 38 Zb (xL 39 Z8 ?_)<;>refine Zc ?_)
   refine cX ?_ ?_<;>intro hb39
   · first
     |exact bN hb39
     |skip
   · first|exact bN hb39|(
 refine Ze ?_;((refine yL 41 (Zu 12 YP) fun v41 h=>?_;cases h)<;>refine ZD 6 YP ?_<;>refine xL 7 Za ?_<;>refine Zc ?_)
 exact Z2 (k:=5) 6 kR (results121) rfl rfl rfl (Xa rfl) dC rfl rfl))
abbrev V5:={u:Value×Value×Value×Value×Value//En.one (PV.val u.1)=true∧En.one (PV.val u.2.1)=true∧En.one (PV.val u.2.2.1)=true∧En.one (PV.val u.2.2.2.1)=true∧En.one (PV.val u.2.2.2.2)=true}
theorem Zj9 (a b A B:Aut) (op:Int) (ha:AF prog 132 [ZN a] (· = .tup [ZN A,pInt 0])) (hb:AF prog 132 [ZN b] (· = .tup [ZN B,pInt 0])) (hp:AF prog 169 [ZN A,ZN B,pInt op] (fun p=>∃i:V5,p= .tup [.agg [.val i.1.1, .val i.1.2.1, .val i.1.2.2.1, .val i.1.2.2.2.1, .val i.1.2.2.2.2],ZK false])):AF prog 121 [ZN a,ZN b,pInt op] (· = .tup [pPZ,pInt 13]):=by
 refine AF.of_body 42 func121 rfl ntmps121 (Xa rfl) ?_
 intro w0 M0 vs hl hv
 obtain ⟨v0,v1,v2,rfl⟩:=LO hl
 obtain rfl:=hv 2 _ _ rfl rfl
 clear hl hv
 refine Ze ?_
 (refine ZC 3 5 fun h3=>?_<;>refine ZC 4 5 fun h4=>?_<;>refine Zx [(.int .i64 0),(.slice none 0 0),(.slice none 0 0),(.slice none 0 0),(.slice none 0 0)] 5 6 WK fun h6=>?_<;>refine xL 7 Za ?_<;>refine Zi ?_)
 ((refine yL 15 (Zu 3 Zh) fun v15 h=>?_;cases h)<;>(refine cP 16 (cA call132 (ha)) fun va16 vb16 hva16 h=>?_;cases h)<;>refine xL 14 Zb (xL 17 Zk (xL 18 Zk ?_))<;>refine Zx [(.int .i64 0),(.int .i64 0),(.slice none 0 0),(.slice none 0 0),(.slice none 0 0)] 5 8 ZJ fun h8=>?_<;>refine ZD 8 Zh ?_<;>refine xL 9 Za ?_<;>refine Zi ?_)
 ((refine yL 20 (Zu 4 Zh) fun v20 h=>?_;cases h)<;>(refine cP 21 (cA call132 (hb)) fun va21 vb21 hva21 h=>?_;cases h)<;>refine xL 19 Zb (xL 22 Zk (xL 23 Zk ?_))<;>refine Zx [(.int .i64 0),(.int .i64 0),(.slice none 0 0),(.slice none 0 0),(.slice none 0 0)] 5 10 ZJ fun h10=>?_<;>refine ZD 10 Zh ?_<;>refine xL 11 Za ?_<;>refine Zi ?_)
 (refine xL 24 Zb (xL 25 Yx (xL 26 Zb (xL 27 Zb (xL 28 Yx (xL 29 ZG ?_)))))<;>refine Zc ?_)<;>(
 refine cX ?_ ?_<;>intro hb29
 · first|omega|exact UT rfl hb29|exact bN hb29
 · refine Ze ?_;((refine yL 32 (Zu 8 Zh) fun v32 h=>?_;cases h)<;>(refine yL 33 (Zu 10 Zh) fun v33 h=>?_;cases h)<;>refine xL 34 Zb ?_<;>(refine cPx 35 (cA call169 hp) (fun i35 v1 v2 hv1 hv2=>?_) (fun _=>rfl);cases hv2;obtain ⟨⟨u0,u1,u2,u3,u4⟩,n0,n1,n2,n3,n4⟩:=i35;dsimp only at n0 n1 n2 n3 n4)<;>refine xL 31 Zb (xL 36 Zk (xL 37 Zk ?_))<;>refine Zx [(.int .i64 0),(.slice none 0 0),(.slice none 0 0),(.slice none 0 0),(.slice none 0 0)] 5 12 WK fun h12=>?_<;>refine ZD 12 YP ?_<;>refine xL 13 Za ?_<;>refine Zi ?_)
   (refine xL 38 Zb (xL 39 Z8 ?_)<;>refine Zc ?_)
   refine cX ?_ ?_<;>intro hb39
   · first|exact bN hb39|(
 refine Ze ?_;(refine xL 40 (PK Od rfl) ?_<;>refine ZD 6 YP ?_<;>refine xL 7 Za ?_<;>refine Zc ?_)
 exact Z2 (k:=5) 6 kR (results121) rfl rfl rfl (Xa rfl) dC rfl rfl)
   · first
     |exact bN hb39
     |skip)
theorem Zmd {x:Option Aut} {e:Int} (h:lim x= .error e):e=13:=by
 cases x with
 |some a=>cases h
 |none=>cases h;rfl
theorem E1 {a:Aut} {e:Int} (h:W4 a= .error e):e=13:=by
 unfold W4 at h
 split at h
 · exact Zmd h
 · cases h;rfl
theorem Zme (a b:Aut) (op:Int) (hf:WH a b=0):AF prog 121 [ZN a,ZN b,pInt op] (· =ZnP a b op):=by
 obtain ⟨h1,h2,h3⟩:=E0 hf
 have ha:=TO a (JN h1)
 have hb:=TO b (JN h2)
 unfold ZnP Ta
 cases ea:W4 a with
 | error e=>
   obtain rfl:=E1 ea;rw [ea] at ha
   cases eb:W4 b with
   | error f=>
     obtain rfl:=E1 eb;rw [eb] at hb;exact Zj8 a b op ha hb
   |ok B=>rw [eb] at hb;exact Zj7 a b op ha hb
 | ok A =>
   rw [ea] at ha
   cases eb:W4 b with
   | error f=>
     obtain rfl:=E1 eb;rw [eb] at hb;exact Zj6 a b op ha hb
   | ok B=>
     rw [eb] at hb;obtain ⟨dA,sA⟩:=SG (JN h1) ea;obtain ⟨dB,sB⟩:=SG (JN h2) eb;have hp:=ZeZ A B op dA dB (by rw [sA,sB,h3]);dsimp only
     cases eq:prodQ A B with
     | some q=>exact Zht a b A B op q ha hb (hp.mono fun p hr=>by
        rcases hr with ⟨q',h4,h5⟩|⟨h4,_⟩
        · rw [eq] at h4;cases h4;exact h5
        · rw [eq] at h4;cases h4)
     | none=>exact Zj9 a b A B op ha hb (hp.mono fun p hr=>by
        rcases hr with ⟨q',h4,h5⟩|⟨_,u0,u1,u2,u3,u4,n0,n1,n2,n3,n4,h5⟩
        · rw [eq] at h4;cases h4
        · exact ⟨⟨(u0,u1,u2,u3,u4),n0,n1,n2,n3,n4⟩,h5⟩)
theorem Za3 (a b:Aut) (op e:Int) (he:¬e=0) (hf:AF prog 120 [ZN a,ZN b] (· =pInt e)):AF prog 76 [ZN a,ZN b,pInt op] (· = .tup [ZK false,pInts [],pInt e]):=by
 refine AF.of_body 38 func76 rfl ntmps76 (Xa rfl) ?_
 intro w0 M0 vs hl hv
 obtain ⟨v0,v1,v2,rfl⟩:=LO hl
 obtain rfl:=hv 2 _ _ rfl rfl
 clear hl hv
 refine Ze ?_
 (refine ZC 3 5 fun h3=>?_<;>refine ZC 4 5 fun h4=>?_<;>refine xL 6 Za (xL 7 Za (xL 8 Za ?_))<;>refine Zi ?_)
 ((refine yL 14 (Zu 3 Zh) fun v14 h=>?_;cases h)<;>(refine yL 15 (Zu 4 Zh) fun v15 h=>?_;cases h)<;>(refine cS 16 (cA call120 (hf)) fun v16 h=>?_;cases h)<;>refine xL 9 Za ?_<;>refine Zi ?_)
 (refine xL 17 Zb (xL 18 Yx ?_)<;>refine Zc ?_)
 refine cX ?_ ?_<;>intro hb18
 · refine Ze ?_;(refine xL 19 Zb (xL 6 Za (xL 7 Za (xL 8 Za ?_)))<;>refine Zc ?_)
   refine Wr (Jp (t:=7) rfl) fun _=>?_;exact Hh (results76) rfl rfl rfl rfl
 · exact UT (by simpa using hb18) he
theorem Za4 (a b:Aut) (op e:Int) (he:¬e=0) (hf:AF prog 120 [ZN a,ZN b] (· =pInt 0)) (hb:AF prog 121 [ZN a,ZN b,pInt op] (· = .tup [pPZ,pInt e])):AF prog 76 [ZN a,ZN b,pInt op] (· = .tup [ZK false,pInts [],pInt e]):=by
 refine AF.of_body 38 func76 rfl ntmps76 (Xa rfl) ?_
 intro w0 M0 vs hl hv
 obtain ⟨v0,v1,v2,rfl⟩:=LO hl
 obtain rfl:=hv 2 _ _ rfl rfl
 clear hl hv
 refine Ze ?_
 (refine ZC 3 5 fun h3=>?_<;>refine ZC 4 5 fun h4=>?_<;>refine xL 6 Za (xL 7 Za (xL 8 Za ?_))<;>refine Zi ?_)
 ((refine yL 14 (Zu 3 Zh) fun v14 h=>?_;cases h)<;>(refine yL 15 (Zu 4 Zh) fun v15 h=>?_;cases h)<;>(refine cS 16 (cA call120 (hf)) fun v16 h=>?_;cases h)<;>refine xL 9 Za ?_<;>refine Zi ?_)
 (refine xL 17 Zb (xL 18 Yx ?_)<;>refine Zc ?_)
 refine cX ?_ ?_<;>intro hb18
 · first|omega|exact UT rfl hb18|exact bN hb18
 · refine Ze ?_;((refine yL 21 (Zu 3 Zh) fun v21 h=>?_;cases h)<;>(refine yL 22 (Zu 4 Zh) fun v22 h=>?_;cases h)<;>refine xL 23 Zb ?_<;>(refine cP 24 (cA call121 (hb)) fun va24 vb24 hva24 h=>?_;cases h)<;>refine xL 20 Zb (xL 25 Zk (xL 26 Zk ?_))<;>refine Zx [(.int .i64 0),(.slice none 0 0),(.slice none 0 0),(.slice none 0 0),(.slice none 0 0)] 5 10 WK fun h10=>?_<;>refine ZD 10 YP ?_<;>refine xL 11 Za ?_<;>refine Zi ?_)
   (refine xL 27 Zb (xL 28 Yx ?_)<;>refine Zc ?_)
   refine cX ?_ ?_<;>intro hb28
   · refine Ze ?_;(refine xL 29 Zb (xL 6 Za (xL 7 Za (xL 8 Za ?_)))<;>refine Zc ?_)
     refine Wr (Jp (t:=7) rfl) fun _=>?_;exact Hh (results76) rfl rfl rfl rfl
   · exact UT (by simpa using hb28) he
theorem Zc9 (a b A B:Aut) (op:Int) (q:List PrS×List (List Nat)) (x:List Int) (t:Bool) (hf:AF prog 120 [ZN a,ZN b] (· =pInt 0)) (hb:AF prog 121 [ZN a,ZN b,pInt op] (· = .tup [SO A B op q,pInt 0])) (hg:AF prog 122 [SO A B op q] (· = .tup [pInts x,ZK t])):AF prog 76 [ZN a,ZN b,pInt op] (· = .tup [ZK (!t),pInts x,pInt 0]):=by
 refine AF.of_body 38 func76 rfl ntmps76 (Xa rfl) ?_
 intro w0 M0 vs hl hv
 obtain ⟨v0,v1,v2,rfl⟩:=LO hl
 obtain rfl:=hv 2 _ _ rfl rfl
 clear hl hv
 refine Ze ?_
 (refine ZC 3 5 fun h3=>?_<;>refine ZC 4 5 fun h4=>?_<;>refine xL 6 Za (xL 7 Za (xL 8 Za ?_))<;>refine Zi ?_)
 ((refine yL 14 (Zu 3 Zh) fun v14 h=>?_;cases h)<;>(refine yL 15 (Zu 4 Zh) fun v15 h=>?_;cases h)<;>(refine cS 16 (cA call120 (hf)) fun v16 h=>?_;cases h)<;>refine xL 9 Za ?_<;>refine Zi ?_)
 (refine xL 17 Zb (xL 18 Yx ?_)<;>refine Zc ?_)
 refine cX ?_ ?_<;>intro hb18
 · first|omega|exact UT rfl hb18|exact bN hb18
 · refine Ze ?_;((refine yL 21 (Zu 3 Zh) fun v21 h=>?_;cases h)<;>(refine yL 22 (Zu 4 Zh) fun v22 h=>?_;cases h)<;>refine xL 23 Zb ?_<;>(refine cP 24 (cA call121 (hb)) fun va24 vb24 hva24 h=>?_;cases h)<;>refine xL 20 Zb (xL 25 Zk (xL 26 Zk ?_))<;>refine Zx [(.int .i64 0),(.slice none 0 0),(.slice none 0 0),(.slice none 0 0),(.slice none 0 0)] 5 10 WK fun h10=>?_<;>refine ZD 10 YP ?_<;>refine xL 11 Za ?_<;>refine Zi ?_)
   (refine xL 27 Zb (xL 28 Yx ?_)<;>refine Zc ?_)
   refine cX ?_ ?_<;>intro hb28
   · first|omega|exact UT rfl hb28|exact bN hb28
   · refine Ze ?_;((refine yL 31 (Zu 10 YP) fun v31 h=>?_;cases h)<;>(refine cP 32 (cA call122 (hg)) fun va32 vb32 hva32 h=>?_;cases h)<;>refine xL 30 Zb (xL 33 Zk (xL 34 Zk (xL 12 Za (xL 13 Za ?_))))<;>refine Zi ?_)
     (refine xL 35 Zb (xL 36 Z8 (xL 37 Zb (xL 6 Za (xL 7 Za (xL 8 Za ?_)))))<;>refine Zc ?_)
     exact Hh (results76) rfl rfl rfl rfl
def ZoL (x:Bool×List Int×Int):PV:= .tup [ZK x.1,pInts x.2.1,pInt x.2.2]
theorem Ze0 (a b:Aut) (op:Int):AF prog 76 [ZN a,ZN b,pInt op] (· =ZoL (cmpX a b op)):=by
 have hf:=Pd a b
 unfold cmpX
 by_cases h0:WH a b=0
 · rw [UR (fun h=>h h0)];have hb:=Zme a b op h0;rw [h0] at hf;unfold ZnP at hb
   cases e:Ta a b with
   | error f=>
     rw [e] at hb;refine Za4 a b op f (fun hf0=>?_) hf hb;unfold Ta at e;split at e
     · split at e<;>cases e;omega
     · cases e;omega
   | ok x =>
     obtain ⟨A,B,o,rows⟩:=x;rw [e] at hb;obtain ⟨h1,h2,h3⟩:=E0 h0;unfold Ta at e;split at e
     · rename_i A' B' ea eb;split at e
       · rename_i q' eq
         cases e;obtain ⟨dA,sA⟩:=SG (JN h1) ea;obtain ⟨dB,sB⟩:=SG (JN h2) eb;have hok:=(P0 dA dB (by rw [sA,sB,h3]) eq).1;have hg:=Zj3 A B op o rows eq hok.zero hok.cap;have:=Zc9 a b A B op (o,rows) _ _ hf hb hg;rw [Bool.not_not] at this;exact this
       · cases e
     · cases e
 · rw [US h0];exact Za3 a b op _ h0 hf
theorem Cv (a b:Aut) (t:Bool) (l:List Int) (e:Int) (h:AF prog 76 [ZN a,ZN b,pInt 4] (· = .tup [ZK t,pInts l,pInt e])):AF prog 52 [ZN a,ZN b] (· = .tup [ZK t,pInts l,pInt e]):=by
 refine AF.of_body 13 func52 rfl ntmps52 (Xa rfl) ?_
 intro w0 M0 vs hl hv
 obtain ⟨v0,v1,rfl⟩:=YG hl
 clear hl hv
 refine Ze ?_
 (refine ZC 2 5 fun h2=>?_<;>refine ZC 3 5 fun h3=>?_<;>refine xL 4 Za (xL 5 Za (xL 6 Za ?_))<;>refine Zi ?_)
 ((refine yL 7 (Zu 2 Zh) fun v7 h=>?_;cases h)<;>(refine yL 8 (Zu 3 Zh) fun v8 h=>?_;cases h)<;>(refine Zlh 9 (cA call76 h) fun va9 vb9 vc9 hva9 hvb9 hvc9=>?_;cases hva9;cases hvc9)<;>refine xL 10 Zk (xL 11 Zk (xL 12 Zk (xL 4 Za (xL 5 Za (xL 6 Za ?_)))))<;>refine Zc ?_)
 exact Hh (results52) rfl rfl rfl rfl
theorem Cw (a b:Aut):AF prog 52 [ZN a,ZN b] (· =ZoL (cmpX a b 4)):=Cv a b _ _ _ (Ze0 a b 4)
end Go.Proofs.YtgfabnhpllkebaaGreatDoor
