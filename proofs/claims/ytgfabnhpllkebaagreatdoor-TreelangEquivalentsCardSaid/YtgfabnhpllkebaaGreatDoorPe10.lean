/-
  Walks of functions and plain laws of the chapter, as the claim needs them.
-/
import Derived.Test.YtgfabnhpllkebaaGreatDoorPe06
import Derived.Test.YtgfabnhpllkebaaGreatDoorPe09
import Derived.Test.YtgfabnhpllkebaaGreatDoorPe07
import Derived.Test.YtgfabnhpllkebaaGreatDoorPe08
import Derived.Test.YtgfabnhpllkebaaGreatDoorPe04
import Derived.Test.YtgfabnhpllkebaaGreatDoorMShelfG
import Derived.Test.YtgfabnhpllkebaaGreatDoorPe01
namespace Go.Proofs.YtgfabnhpllkebaaGreatDoor
open Go.RowKit Go.Cb Go.En Tryz
set_option linter.all false
abbrev Lg:=List ByteArray→Prop
def Oy:List Lg→Lg
 |[]=>fun w=>w=[]
 |A::m=>fun w=>∃u v,w=u++v∧A u∧Oy m v
def ZpK (m:List Lg):Lg:=fun w=>∃A∈m,A w
inductive Shf:List ByteArray→List ByteArray→List ByteArray→Prop
 |nil:Shf [] [] []
 |left {a:ByteArray} {u v w:List ByteArray} (h:Shf u v w):Shf (a::u) v (a::w)
 |right {a:ByteArray} {u v w:List ByteArray} (h:Shf u v w):Shf u (a::v) (a::w)
def C7:List Lg→Lg
 |[]=>fun w=>w=[]
 |A::m=>fun w=>∃u v,Shf u v w∧A u∧C7 m v
inductive LpG (A B:Lg):Lg
 |one {w:List ByteArray} (h:A w):LpG A B w
 |more {u v z:List ByteArray} (h1:LpG A B u) (h2:B v) (h3:A z):LpG A B (u++(v++z))
def lpG:List Lg→Lg
 |A::B::_=>LpG A B
 |_=>fun _=>False
def opG (o:Int) (a:ByteArray) (m:List Lg):Lg:=if o=1 then (fun w=>w=[a]) else if o=2 then (fun w=>w=[]) else if o=3 then Oy m else if o=4 then ZpK m else if o=5 then C7 m else lpG m
mutual
def Sm:Nd→Lg
 | .mk o a l=>opG o a (ZgH l)
def ZgH:List Nd→List Lg
 |[]=>[]
 |x::l=>Sm x::ZgH l
end
theorem ZkA (l:List Nd):ZgH l=l.map Sm:=by
 induction l with
 |nil=>rfl
 |cons x l ih=>rw [ZgH,ih];rfl
theorem ZmK (o:Int) (a:ByteArray) (l:List Nd):Sm (.mk o a l)=opG o a (l.map Sm):=by rw [Sm,ZkA]
theorem Zbz:∀w,Shf w [] w
 |[]=> .nil
 |a::w=> .left (Zbz w)
theorem TI {u v w:List ByteArray} (h:Shf u v w):Shf v u w:=by
 induction h with
 |nil=>exact .nil
 |left _ ih=>exact .right ih
 |right _ ih=>exact .left ih
theorem Cn {u w:List ByteArray} (h:Shf u [] w):w=u:=by
 generalize hv:([]:List ByteArray)=v at h
 induction h with
 |nil=>rfl
 |left _ ih=>rw [ih hv]
 |right _ _=>cases hv
theorem Zag {u v w:List ByteArray} (h:Shf u v w):∀{s z:List ByteArray},Shf s z v→∃x,Shf u s x∧Shf x z w:=by
 induction h with
 |nil=>intro s z h2;cases h2;exact ⟨[], .nil, .nil⟩
 | left _ ih=>
   intro s z h2;obtain ⟨x,h3,h4⟩:=ih h2;exact ⟨_, .left h3, .left h4⟩
 | right _ ih=>
   intro s z h2
   cases h2 with
   |left h2=>obtain ⟨x,h3,h4⟩:=ih h2;exact ⟨_, .right h3, .left h4⟩
   |right h2=>obtain ⟨x,h3,h4⟩:=ih h2;exact ⟨x,h3, .right h4⟩
theorem ZfI {x z w u s:List ByteArray} (h1:Shf x z w) (h2:Shf u s x):∃v,Shf u v w∧Shf s z v:=by
 obtain ⟨v,h3,h4⟩:=Zag (TI h1) (TI h2)
 exact ⟨v,TI h4,TI h3⟩
theorem ZgI:∀(m n:List Lg),Oy (m++n)=fun w=>∃u v,w=u++v∧Oy m u∧Oy n v
 |[],n=>funext fun w=>propext ⟨fun h=>⟨[],w,rfl,rfl,h⟩,fun ⟨u,v,h1,h2,h3⟩=>by cases h2;rw [h1];exact h3⟩
 | A ::m,n=>funext fun w=>propext (by
   show (∃u v,w=u++v∧A u∧Oy (m++n) v)↔∃u v,w=u++v∧(∃u2 v2,u=u2++v2∧A u2∧Oy m v2)∧Oy n v;rw [ZgI m n];constructor
   · rintro ⟨u,v,rfl,h1,u2,v2,rfl,h2,h3⟩;exact ⟨u++u2,v2,by rw [Xu],⟨u,u2,rfl,h1,h2⟩,h3⟩
   · rintro ⟨u,v,rfl,⟨u2,v2,rfl,h1,h2⟩,h3⟩;exact ⟨u2,v2++v,by rw [Xu],h1,v2,v,rfl,h2,h3⟩)
theorem ZgJ:∀(m n:List Lg),C7 (m++n)=fun w=>∃u v,Shf u v w∧C7 m u∧C7 n v
 |[],n=>funext fun w=>propext ⟨fun h=>⟨[],w,TI (Zbz w),rfl,h⟩,fun ⟨u,v,h1,h2,h3⟩=>by cases h2;rw [Cn (TI h1)];exact h3⟩
 | A ::m,n=>funext fun w=>propext (by
   show (∃u v,Shf u v w∧A u∧C7 (m++n) v)↔∃u v,Shf u v w∧(∃u2 v2,Shf u2 v2 u∧A u2∧C7 m v2)∧C7 n v;rw [ZgJ m n];constructor
   · rintro ⟨u,v,h0,h1,u2,v2,h4,h2,h3⟩;obtain ⟨x,h5,h6⟩:=Zag h0 h4;exact ⟨x,v2,h6,⟨u,u2,h5,h1,h2⟩,h3⟩
   · rintro ⟨u,v,h0,⟨u2,v2,h4,h1,h2⟩,h3⟩;obtain ⟨x,h5,h6⟩:=ZfI h0 h4;exact ⟨u2,x,h5,h1,v2,v,h6,h2,h3⟩)
theorem ZgK (A:Lg):Oy [A]=A:=funext fun w=>propext ⟨fun ⟨u,v,h1,h2,h3⟩=>by cases h3;rw [h1,Xr];exact h2,fun h=>⟨w,[],(Xr w).symm,h,rfl⟩⟩
theorem and_one (A:Lg):C7 [A]=A:=funext fun w=>propext ⟨fun ⟨u,v,h1,h2,h3⟩=>by cases h3;rw [Cn h1];exact h2,fun h=>⟨w,[],Zbz w,h,rfl⟩⟩
inductive StG (A:Lg):Lg
 |nil:StG A []
 |cons {u v:List ByteArray} (h1:A u) (h2:StG A v):StG A (u++v)
theorem ZkB {A:Lg} {u v:List ByteArray} (h:StG A u) (h2:A v):StG A (u++v):=by
 induction h with
 |nil=>have:=StG.cons h2 (StG.nil (A:=A));rw [Xr] at this;exact this
 |cons h1 _ ih=>rw [Xu];exact .cons h1 ih
theorem ZmL (A B:Lg):LpG A B=fun w=>∃u v,w=u++v∧A u∧StG (Oy [B,A]) v:=by
 have h2:∀{x y:List ByteArray},B x→A y→Oy [B,A] (x++y):=fun {x y} hx hy=>⟨x,y,rfl,hx,y,[],(Xr y).symm,hy,rfl⟩
 refine funext fun w=>propext ⟨fun h=>?_,fun ⟨u,v,e,hu,hv⟩=>?_⟩
 · induction h with
   | @one w h=>exact ⟨w,[],(Xr w).symm,h, .nil⟩
   | more _ hb ha ih=>
     obtain ⟨u,v,rfl,h3,h4⟩:=ih;exact ⟨u,_,Xu ..,h3,ZkB h4 (h2 hb ha)⟩
 · subst e;have key:∀v,StG (Oy [B,A]) v→∀u,LpG A B u→LpG A B (u++v):=fun v hv=>by
    induction hv with
    |nil=>intro u h;rw [Xr];exact h
    | cons h1 _ ih=>
      intro u h;obtain ⟨x,y,rfl,hx,y2,z,rfl,hy,hz⟩:=h1
      cases hz;rw [Xr,←Xu];exact ih _ (.more h hx hy)
   exact key v hv u (.one hu)
set_option maxRecDepth 100000
def G1 (m:Nat) (k:Int):Aut:=⟨2,m,[0],[1],[⟨0,1,k⟩]⟩
def R4 (m:Nat):Aut:=⟨1,m,[0],[0],[]⟩
def okO (x:Except Int Aut):Option Aut:=match x with
 | .ok a=>some a
 | .error _=>none
def Jq (a b:Aut):Except Int Aut:=match GK b a with
 | .error e=> .error e
 | .ok x=>match JL x with
   | .error e=> .error e
   | .ok s=>GK a s
def Ws (o:Int) (a b:Aut):Except Int Aut:=if o=3 then GK a b else if o=4 then Gj a b else if o=6 then Jq a b else LF a b
def GL (o:Int) (r p:Option Aut):Option Aut:=match r,p with
 |some a,some b=>okO (Ws o a b)
 |_,_=>none
def foldX (o:Int):List (Option Aut)→Option Aut
 |[]=>none
 |x::l=>l.foldl (GL o) x
mutual
def bldT (acts:List ByteArray):Nd→Option Aut
 | .mk o a l=>if o=1 then okO (Ji (G1 acts.length (idx (fun x=>JB x a) acts))) else if o=2 then okO (Ji (R4 acts.length)) else foldX o (ZmM acts l)
def ZmM (acts:List ByteArray):List Nd→List (Option Aut)
 |[]=>[]
 |x::l=>bldT acts x::ZmM acts l
end
theorem ZbA (acts:List ByteArray) (l:List Nd):ZmM acts l=l.map (bldT acts):=by
 induction l with
 |nil=>rfl
 |cons x l ih=>rw [ZmM,ih];rfl
theorem ZfJ (acts:List ByteArray) (o:Int) (a:ByteArray) (l:List Nd) (h1:o≠1) (h2:o≠2):bldT acts (.mk o a l)=foldX o (l.map (bldT acts)):=by rw [bldT,UT h1,UT h2,ZbA]
theorem ZfK (o:Int) (p:Option Aut):GL o none p=none:=rfl
theorem ZdF (o:Int) (r:Option Aut):GL o r none=none:=by cases r<;>rfl
theorem Dh (o:Int) (l:List (Option Aut)):l.foldl (GL o) none=none:=by
 induction l with
 |nil=>rfl
 |cons x l ih=>rw [VN,ZfK,ih]
theorem Co {o:Int} {m:List (Option Aut)} (h:m≠[]) (x:Option Aut):foldX o (m++[x])=GL o (foldX o m) x:=by
 cases m with
 |nil=>exact UV rfl h
 |cons y m=>rw [Ve];show (m++[x]).foldl (GL o) y=_;rw [VH];rfl
theorem ZdG {o:Int}:∀{l:List (Option Aut)} {r:Option Aut},none∈l→l.foldl (GL o) r=none
 | x::l,r,h=>by
   rw [VN];rcases Xt.1 h with e|h
   · rw [←e,ZdF,Dh]
   · exact ZdG h
theorem Di {o:Int} {l:List (Option Aut)} (h:none∈l):foldX o l=none:=by
 cases l with
 |nil=>rfl
 | cons x l=>
   show l.foldl (GL o) x=none;rcases Xt.1 h with e|h
   · rw [←e,Dh]
   · exact ZdG h
def MinO (m:Nat) (x:Except Int Aut):Prop:=x= .error 13∨∃C,x= .ok C∧IsMin C∧C.syms=m
theorem MinO.lim {m:Nat} {x:Except Int Aut} (h:MinO m x):x=Go.Proofs.YtgfabnhpllkebaaGreatDoor.lim (okO x):=by
 rcases h with rfl|⟨C,rfl,_⟩<;>rfl
theorem MinO.ok {m:Nat} {x:Except Int Aut} (h:MinO m x) {C:Aut} (hc:okO x=some C):x= .ok C∧IsMin C∧C.syms=m:=by
 rcases h with rfl|⟨D,rfl,h1,h2⟩
 · cases hc
 · cases hc;exact ⟨rfl,h1,h2⟩
theorem Cp {a:Aut} {e:Int} (h:WV a= .error e):e=13:=by
 unfold WV at h
 cases ht:Jc a with
 |none=>rw [ht] at h;cases h;rfl
 | some t=>
   rw [ht] at h
   cases hl:Wp t with
   |none=>simp only [hl,Go.Proofs.YtgfabnhpllkebaaGreatDoor.lim] at h;cases h;rfl
   |some A=>simp only [hl,Go.Proofs.YtgfabnhpllkebaaGreatDoor.lim] at h;cases h
theorem ZkC {a:Aut} {e:Int} (h:Hr a= .error e):e=13:=by
 unfold Hr at h
 split at h
 · cases h;rfl
 · exact Cp h
theorem RH {X:Aut} (hp:PreA X) {m:Nat} (hs:X.syms=m):MinO m (Jo X):=by
 cases h:Jo X with
 |error e=>exact .inl (by rw [ZkC h])
 |ok C=>obtain ⟨h1,h2,_⟩:=Ly hp h;exact .inr ⟨C,rfl,h1,by rw [h2,hs]⟩
theorem GM {a:Aut} (h:Z1 a=true) {m:Nat} (hs:a.syms=m):MinO m (Ji a):=by
 cases h1:Ji a with
 | error e=>
   unfold Ji at h1;rw [UU h] at h1;exact .inl (by rw [Cp h1])
 |ok C=>obtain ⟨h3,h2,_⟩:=O' h1;exact .inr ⟨C,rfl,h3,by rw [h2,hs]⟩
variable {m:Nat} {a b:Aut}
theorem RI (ha:IsMin a) (hb:IsMin b) (hsa:a.syms=m) (hsb:b.syms=m):Wt a b=0:=Zby ha.valid hb.valid (by rw [hsa,hsb])
theorem S8 (ha:IsMin a) (hb:IsMin b) (hsa:a.syms=m) (hsb:b.syms=m):MinO m (GK a b):=by
 unfold GK
 rw [UT (fun h=>h (RI ha hb hsa hsb))]
 exact RH (HZ (W3 ha.valid) (W3 hb.valid) (by rw [hsa,hsb])) hsa
theorem ZfL (ha:IsMin a) (hb:IsMin b) (hsa:a.syms=m) (hsb:b.syms=m):MinO m (Gj a b):=by
 unfold Gj
 rw [UT (fun h=>h (RI ha hb hsa hsb))]
 exact RH (RA (W3 ha.valid) (W3 hb.valid) (by rw [hsa,hsb])) hsa
theorem Zic (ha:IsMin a) (hb:IsMin b) (hsa:a.syms=m) (hsb:b.syms=m):MinO m (LF a b):=by
 unfold LF
 rw [UT (fun h=>h (RI ha hb hsa hsb))]
 split
 · exact .inl rfl
 · exact RH (Ox (W3 ha.valid) (W3 hb.valid) (by rw [hsa,hsb])) hsa
theorem RJ (ha:IsMin a) (hsa:a.syms=m):MinO m (JL a):=by
 unfold JL
 rw [UU ha.valid]
 exact RH (Oo (W3 ha.valid)) hsa
theorem Zid (ha:IsMin a) (hb:IsMin b) (hsa:a.syms=m) (hsb:b.syms=m):MinO m (Jq a b):=by
 unfold Jq
 rcases S8 hb ha hsb hsa with h|⟨C,h,hC,hs⟩
 · rw [h];exact .inl rfl
 · rw [h];dsimp only;rcases RJ hC hs with h2|⟨D,h2,hD,hs2⟩
   · rw [h2];exact .inl rfl
   · rw [h2];exact S8 ha hD hsa hs2
theorem RL (o:Int) (ha:IsMin a) (hb:IsMin b) (hsa:a.syms=m) (hsb:b.syms=m):MinO m (Ws o a b):=by
 unfold Ws
 split
 · exact S8 ha hb hsa hsb
 split
 · exact ZfL ha hb hsa hsb
 split
 · exact Zid ha hb hsa hsb
 · exact Zic ha hb hsa hsb
theorem Oz {k:Int} (hm:m≤40) (hk:0≤k∧k<m):Z1 (G1 m k)=true:=by
 unfold Z1 G1 LO R1
 simp [WC]
 omega
theorem Cq (hm:m≤40):Z1 (R4 m)=true:=by
 unfold Z1 R4 LO
 simp [WC]
 omega
def BldOk (m:Nat) (r:Option Aut):Prop:=∀A,r=some A→IsMin A∧A.syms=m
theorem BldOk.of {x:Except Int Aut} (h:MinO m x):BldOk m (okO x):=fun A hA=>(h.ok hA).2
theorem ZmN (o:Int) {r p:Option Aut} (hr:BldOk m r) (hp:BldOk m p):BldOk m (GL o r p):=by
 match r,p with
 | some a,some b=>
   obtain ⟨ha,hsa⟩:=hr a rfl;obtain ⟨hb,hsb⟩:=hp b rfl;exact BldOk.of (RL o ha hb hsa hsb)
 |none,_=>exact fun A hA=>by cases hA
 |some _,none=>exact fun A hA=>by cases hA
theorem Zah (o:Int):∀{l:List (Option Aut)} {r:Option Aut},BldOk m r→(∀x∈l,BldOk m x)→BldOk m (l.foldl (GL o) r)
 |[],_,h,_=>h
 | x::l,r,h,h2=>by
   rw [VN];exact Zah o (ZmN o h (h2 x (Xm ..))) fun y hy=>h2 y (Xo _ hy)
theorem ZdH (o:Int) {l:List (Option Aut)} (h:∀x∈l,BldOk m x):BldOk m (foldX o l):=by
 cases l with
 |nil=>exact fun A hA=>by cases hA
 |cons x l=>exact Zah o (h x (Xm ..)) fun y hy=>h y (Xo _ hy)
def WM (acts:List ByteArray) (a:ByteArray):Int:=idx (fun x=>JB x a) acts
theorem PG {a b:ByteArray}:JB a b=true↔a=b:=ζp
theorem LI {acts:List ByteArray} {a:ByteArray} (h:a∈acts):∃i:Nat,WM acts a=i∧acts[i]? =some a∧∀j y,j<i→acts[j]? =some y→y≠a:=by
 unfold WM
 obtain ⟨k,hk⟩:=XU h
 have key:∀n:Nat,(∃i:Nat,i≤n∧acts[i]? =some a)→∃i:Nat,acts[i]? =some a∧∀(j:Nat) (y:ByteArray),j<i→acts[j]? =some y→y≠a:=by
  intro n;induction n with
  |zero=>rintro ⟨i,hi,h⟩;exact ⟨i,h,fun j y hj=>oM⟩
  | succ n ih=>
    rintro ⟨i,hi,h⟩;by_cases h2:∃i:Nat,i≤n∧acts[i]? =some a
    · exact ih h2
    · exact ⟨i,h,fun j y hj hy e=>h2 ⟨j,oM,by rw [hy,e]⟩⟩
 obtain ⟨i,hi,hb⟩:=key k ⟨k,Xh _,hk⟩
 refine ⟨i,Lh (fun j y hj hy=>?_) hi (PG.2 rfl),hi,hb⟩
 cases hs:JB y a
 · rfl
 · exact UV (PG.1 hs) (hb j y hj hy)
theorem ZkD {acts:List ByteArray} (hm:acts.length≤40):∀t:Nd,(∀s∈Y2 t,s∈acts)→BldOk acts.length (bldT acts t):=Nd.ind fun o a l ih ha=>by
 rw [bldT]
 split
 · rename_i h1;obtain ⟨i,h2,h3,_⟩:=LI (ha a (by rw [Y2,UU h1];exact Xm ..));have hi:=(XK.1 h3).1;refine BldOk.of (GM (Oz hm ?_) rfl);unfold WM at h2;rw [h2];omega
 split
 · exact BldOk.of (GM (Cq hm) rfl)
 · rename_i h1 h2;rw [ZbA];refine ZdH o fun r hr=>?_;obtain ⟨x,hx,rfl⟩:=Xl.1 hr;refine ih x hx fun s hs=>ha s ?_;rw [Y2,UT h1];exact SD.2 ⟨x,hx,hs⟩
def nmW (acts:List ByteArray) (w:List Nat):List ByteArray:=w.map fun i=>(acts[i]?).getD ByteArray.empty
def LS (acts:List ByteArray) (A:Aut) (P:Lg):Prop:=∀w:List Nat,Kq acts.length w→(T7 A (wI w)=true↔P (nmW acts w))
def opB (o:Int) (P Q:Lg):Lg:=if o=3 then fun w=>∃u v,w=u++v∧P u∧Q v else if o=4 then fun w=>P w∨Q w else if o=6 then LpG P Q else fun w=>∃u v,Shf u v w∧P u∧Q v
theorem Cr {w:List Nat} {u v:List Int}:wI w=u++v↔∃w1 w2,w=w1++w2∧u=wI w1∧v=wI w2:=by
 unfold wI
 rw [List.map_eq_append_iff]
 exact ⟨fun ⟨a,b,h1,h2,h3⟩=>⟨a,b,h1,h2.symm,h3.symm⟩,fun ⟨a,b,h1,h2,h3⟩=>⟨a,b,h1,h2.symm,h3.symm⟩⟩
theorem Cs {acts:List ByteArray} {w:List Nat} {u v:List ByteArray}:nmW acts w=u++v↔∃w1 w2,w=w1++w2∧u=nmW acts w1∧v=nmW acts w2:=by
 unfold nmW
 rw [List.map_eq_append_iff]
 exact ⟨fun ⟨a,b,h1,h2,h3⟩=>⟨a,b,h1,h2.symm,h3.symm⟩,fun ⟨a,b,h1,h2,h3⟩=>⟨a,b,h1,h2.symm,h3.symm⟩⟩
theorem OA {m:Nat} {u v:List Nat}:Kq m (u++v)↔Kq m u∧Kq m v:=⟨fun h=>⟨fun c hc=>h c (X1 _ hc),fun c hc=>h c (X7 _ hc)⟩,fun h c hc=>(Xq.1 hc).elim (h.1 c) (h.2 c)⟩
theorem ZbB {m:Nat} {w:List Nat} (_:Kq m w):∀c∈wI w,0≤c:=fun c hc=>by
 unfold wI at hc
 obtain ⟨x,_,rfl⟩:=Xl.1 hc
 exact Int.natCast_nonneg x
variable {acts:List ByteArray} {a b C:Aut} {P Q:Lg}
theorem Ju (ha:IsMin a) (hP:LS acts a P) {w:List Nat} (hw:Kq acts.length w):Lng a (wI w)↔P (nmW acts w):=by
 rw [←HY ha.aok (ZbB hw)];exact hP w hw
theorem ZbC (ha:IsMin a) (hb:IsMin b) (hsa:a.syms=acts.length) (hsb:b.syms=acts.length) (hP:LS acts a P) (hQ:LS acts b Q) (h:GK a b= .ok C):LS acts C (opB 3 P Q):=fun w hw=>by
 unfold GK at h
 rw [UT (fun h=>h (RI ha hb hsa hsb))] at h
 have hva:=W3 ha.valid
 have hvb:=W3 hb.valid
 obtain ⟨_,_,h3⟩:=Ly (HZ hva hvb (by rw [hsa,hsb])) h
 have e:(Ku a b).syms.toNat=acts.length:=by show a.syms.toNat=_;rw [hsa];rfl
 rw [h3 w (by rw [e];exact hw),ZmI hva hvb]
 show _↔∃u v,nmW acts w=u++v∧P u∧Q v
 constructor
 · rintro ⟨u,v,e1,h1,h2⟩;obtain ⟨w1,w2,rfl,rfl,rfl⟩:=Cr.1 e1;obtain ⟨hw1,hw2⟩:=OA.1 hw;exact ⟨_,_,Cs.2 ⟨w1,w2,rfl,rfl,rfl⟩,(Ju ha hP hw1).1 h1,(Ju hb hQ hw2).1 h2⟩
 · rintro ⟨u,v,e1,h1,h2⟩;obtain ⟨w1,w2,rfl,rfl,rfl⟩:=Cs.1 e1;obtain ⟨hw1,hw2⟩:=OA.1 hw;exact ⟨_,_,Cr.2 ⟨w1,w2,rfl,rfl,rfl⟩,(Ju ha hP hw1).2 h1,(Ju hb hQ hw2).2 h2⟩
theorem Zie (ha:IsMin a) (hb:IsMin b) (hsa:a.syms=acts.length) (hsb:b.syms=acts.length) (hP:LS acts a P) (hQ:LS acts b Q) (h:Gj a b= .ok C):LS acts C (opB 4 P Q):=fun w hw=>by
 unfold Gj at h
 rw [UT (fun h=>h (RI ha hb hsa hsb))] at h
 have hva:=W3 ha.valid
 have hvb:=W3 hb.valid
 obtain ⟨_,_,h3⟩:=Ly (RA hva hvb (by rw [hsa,hsb])) h
 have e:(Kh a b).syms.toNat=acts.length:=by show a.syms.toNat=_;rw [hsa];rfl
 rw [h3 w (by rw [e];exact hw),Zh7 hva hvb,Ju ha hP hw,Ju hb hQ hw]
 rfl
theorem Dj:∀{w:List Nat} {u v:List Int},Mix (wI w) u v→∃w1 w2,u=wI w1∧v=wI w2∧(∀c∈w1,c∈w)∧(∀c∈w2,c∈w)∧Shf (nmW acts w1) (nmW acts w2) (nmW acts w)
 | [],_,_,h=>by
   cases h;exact ⟨[],[],rfl,rfl,fun _ h=>h,fun _ h=>h, .nil⟩
 | c ::w,_,_,h=>by
   cases h with
   | one _ h=>
     obtain ⟨w1,w2,rfl,rfl,h1,h2,h3⟩:=Dj h;exact ⟨c::w1,w2,rfl,rfl,fun x hx=>(Xt.1 hx).elim (fun e=>by rw [e];exact Xm ..) fun h=>Xo _ (h1 x h),fun x hx=>Xo _ (h2 x hx), .left h3⟩
   | two _ h=>
     obtain ⟨w1,w2,rfl,rfl,h1,h2,h3⟩:=Dj h;exact ⟨w1,c::w2,rfl,rfl,fun x hx=>Xo _ (h1 x hx),fun x hx=>(Xt.1 hx).elim (fun e=>by rw [e];exact Xm ..) fun h=>Xo _ (h2 x h), .right h3⟩
theorem Dk:∀{w:List Nat} {u v:List ByteArray},Shf u v (nmW acts w)→∃w1 w2,u=nmW acts w1∧v=nmW acts w2∧(∀c∈w1,c∈w)∧(∀c∈w2,c∈w)∧Mix (wI w) (wI w1) (wI w2)
 | [],_,_,h=>by
   cases h;exact ⟨[],[],rfl,rfl,fun _ h=>h,fun _ h=>h, .nil⟩
 | c ::w,_,_,h=>by
   cases h with
   | left h=>
     obtain ⟨w1,w2,rfl,rfl,h1,h2,h3⟩:=Dk h;exact ⟨c::w1,w2,rfl,rfl,fun x hx=>(Xt.1 hx).elim (fun e=>by rw [e];exact Xm ..) fun h=>Xo _ (h1 x h),fun x hx=>Xo _ (h2 x hx), .one _ h3⟩
   | right h=>
     obtain ⟨w1,w2,rfl,rfl,h1,h2,h3⟩:=Dk h;exact ⟨w1,c::w2,rfl,rfl,fun x hx=>Xo _ (h1 x hx),fun x hx=>(Xt.1 hx).elim (fun e=>by rw [e];exact Xm ..) fun h=>Xo _ (h2 x h), .two _ h3⟩
theorem ZkE (ha:IsMin a) (hb:IsMin b) (hsa:a.syms=acts.length) (hsb:b.syms=acts.length) (hP:LS acts a P) (hQ:LS acts b Q) (h:LF a b= .ok C):LS acts C (opB 5 P Q):=fun w hw=>by
 unfold LF at h
 rw [UT (fun h=>h (RI ha hb hsa hsb))] at h
 split at h
 · cases h
 have hva:=W3 ha.valid
 have hvb:=W3 hb.valid
 obtain ⟨_,_,h3⟩:=Ly (Ox hva hvb (by rw [hsa,hsb])) h
 have e:(Wr a b).syms.toNat=acts.length:=by show a.syms.toNat=_;rw [hsa];rfl
 rw [h3 w (by rw [e];exact hw),Zky hva hvb]
 show _↔∃u v,Shf u v (nmW acts w)∧P u∧Q v
 constructor
 · rintro ⟨u,v,e1,h1,h2⟩;obtain ⟨w1,w2,rfl,rfl,k1,k2,k3⟩:=Dj (acts:=acts) e1;exact ⟨_,_,k3,(Ju ha hP fun c hc=>hw c (k1 c hc)).1 h1,(Ju hb hQ fun c hc=>hw c (k2 c hc)).1 h2⟩
 · rintro ⟨u,v,e1,h1,h2⟩;obtain ⟨w1,w2,rfl,rfl,k1,k2,k3⟩:=Dk e1;exact ⟨_,_,k3,(Ju ha hP fun c hc=>hw c (k1 c hc)).2 h1,(Ju hb hQ fun c hc=>hw c (k2 c hc)).2 h2⟩
theorem ZkF (ha:IsMin a) (hsa:a.syms=acts.length) (hP:LS acts a P) (h:JL a= .ok C):LS acts C (StG P):=fun w hw=>by
 unfold JL at h
 rw [UU ha.valid] at h
 have hva:=W3 ha.valid
 obtain ⟨_,_,h3⟩:=Ly (Oo hva) h
 have e:(K2 a).syms.toNat=acts.length:=by show a.syms.toNat=_;rw [hsa];rfl
 rw [h3 w (by rw [e];exact hw),Zkv hva]
 constructor
 · intro h;generalize hx:wI w=x at h;induction h generalizing w with
   | nil=>
     have:w=[]:=Uo.1 hx;rw [this];exact .nil
   | app h1 _ ih=>
     obtain ⟨w1,w2,rfl,rfl,rfl⟩:=Cr.1 hx;obtain ⟨hw1,hw2⟩:=OA.1 hw;rw [show nmW acts (w1++w2)=nmW acts w1++nmW acts w2 from Xs];exact .cons ((Ju ha hP hw1).1 h1) (ih w2 hw2 rfl)
 · intro h;generalize hx:nmW acts w=x at h;induction h generalizing w with
   | nil=>
     have:w=[]:=Uo.1 hx;rw [this];exact .nil
   | cons h1 _ ih=>
     obtain ⟨w1,w2,rfl,rfl,rfl⟩:=Cs.1 hx;obtain ⟨hw1,hw2⟩:=OA.1 hw;rw [show wI (w1++w2)=wI w1++wI w2 from Xs];exact .app ((Ju ha hP hw1).2 h1) (ih w2 hw2 rfl)
theorem ZkG (ha:IsMin a) (hb:IsMin b) (hsa:a.syms=acts.length) (hsb:b.syms=acts.length) (hP:LS acts a P) (hQ:LS acts b Q) (h:Jq a b= .ok C):LS acts C (opB 6 P Q):=by
 unfold Jq at h
 rcases S8 hb ha hsb hsa with h1|⟨X,h1,hX,hs1⟩
 · rw [h1] at h;cases h
 rw [h1] at h
 dsimp only at h
 rcases RJ hX hs1 with h2|⟨Y,h2,hY,hs2⟩
 · rw [h2] at h;cases h
 rw [h2] at h
 dsimp only at h
 have:=ZbC ha hY hsa hs2 hP (ZkF hX hs1 (ZbC hb ha hsb hsa hQ hP h1) h2) h
 have e:opB 6 P Q=opB 3 P (StG (opB 3 Q P)):=by
  have e2:opB 3 Q P=Oy [Q,P]:=funext fun w=>propext ⟨fun ⟨u,v,h1,h2,h3⟩=>⟨u,v,h1,h2,v,[],(Xr v).symm,h3,rfl⟩,fun ⟨u,v,h1,h2,v2,z,h3,h4,h5⟩=>⟨u,v,h1,h2,by cases h5;rw [h3,Xr];exact h4⟩⟩;rw [e2];exact ZmL P Q
 rw [e];exact this
theorem ZkH {o:Int} (ho:o=3∨o=4∨o=5∨o=6) (ha:IsMin a) (hb:IsMin b) (hsa:a.syms=acts.length) (hsb:b.syms=acts.length) (hP:LS acts a P) (hQ:LS acts b Q) (h:Ws o a b= .ok C):LS acts C (opB o P Q):=by
 rcases ho with rfl|rfl|rfl|rfl
 · exact ZbC ha hb hsa hsb hP hQ h
 · exact Zie ha hb hsa hsb hP hQ h
 · exact ZkE ha hb hsa hsb hP hQ h
 · exact ZkG ha hb hsa hsb hP hQ h
variable {acts:List ByteArray}
theorem ZoB {α:Type} {l:List α} (hn:l.Nodup) {x i:Nat} (hx:x<l.length) (hi:i<l.length) (e:l[x]'hx=l[i]'hi):x=i:=by
 have h:=Ug.1 hn
 rcases Nat.lt_trichotomy x i with h1|h1|h1
 · exact UV e (h x i hx hi h1)
 · exact h1
 · exact UV e.symm (h i x hi hx h1)
theorem ZkI {a:ByteArray} (hn:acts.Nodup) (hm:acts.length≤40) (ha:a∈acts) {A:Aut} (h:Ji (G1 acts.length (idx (fun x=>JB x a) acts))= .ok A):LS acts A (fun w=>w=[a]):=fun w hw=>by
 obtain ⟨i,h2,h3,_⟩:=LI ha
 unfold WM at h2
 rw [h2] at h
 have hi:=(XK.1 h3).1
 have hok:Z1 (G1 acts.length (i:Nat))=true:=Oz hm oM
 rw [(O' h).2.2 w hw,HY (W3 hok).toAOk (ZbB hw)]
 have key:∀{s t:Int} {v:List Int},Pth (G1 acts.length (i:Nat)) s v t→(s=t∧v=[])∨(s=0∧t=1∧v=[(i:Int)]):=fun h=>by
  induction h with
  |nil s=>exact .inl ⟨rfl,rfl⟩
  | eps hm hs _ _=>
    cases Xi.1 hm;dsimp only at hs;omega
  | sym hm hs _ ih=>
    cases Xi.1 hm;dsimp only at ih ⊢;rcases ih with ⟨h1,h2⟩|⟨h1,_⟩
    · exact .inr ⟨rfl,h1.symm,by rw [h2]⟩
    · omega
 constructor
 · rintro ⟨s,hs,f,hf,hp⟩
   cases Xi.1 hs
   cases Xi.1 hf;rcases key hp with ⟨h1,_⟩|⟨_,_,h1⟩
   · omega
   · unfold wI at h1;rw [List.map_eq_singleton_iff] at h1;obtain ⟨x,rfl,hx⟩:=h1;obtain rfl:x=i:=oM;show [(acts[x]?).getD ByteArray.empty]=[a];rw [h3];rfl
 · intro h;have h:w.map (fun i=>(acts[i]?).getD ByteArray.empty)=[a]:=h;rw [List.map_eq_singleton_iff] at h;obtain ⟨x,rfl,hx⟩:=h;have hxl:=hw x (Xi.2 rfl);rw [XY hxl] at hx;have e:acts[x]'hxl=acts[i]'hi:=by rw [(XK.1 h3).2];exact hx
   obtain rfl:x=i:=ZoB hn _ _ e;refine ⟨0,Xi.2 rfl,1,Xi.2 rfl,?_⟩;exact Pth.sym (a:=G1 acts.length (x:Nat)) (m:=⟨0,1,(x:Nat)⟩) (Xi.2 rfl) (by dsimp only;omega) (.nil 1)
theorem ZmO (hm:acts.length≤40) {A:Aut} (h:Ji (R4 acts.length)= .ok A):LS acts A (fun w=>w=[]):=fun w hw=>by
 have hok:Z1 (R4 acts.length)=true:=Cq hm
 rw [(O' h).2.2 w hw,HY (W3 hok).toAOk (ZbB hw)]
 constructor
 · rintro ⟨s,hs,f,hf,hp⟩;have e:∀{s t:Int} {v:List Int},Pth (R4 acts.length) s v t→v=[]:=fun h=>by
    cases h with
    |nil s=>rfl
    |eps hm _ _=>cases hm
    |sym hm _ _=>cases hm
   show w.map _=[];rw [Uo.1 (e hp)];rfl
 · intro h;have:w=[]:=Uo.1 h;subst this;exact ⟨0,Xi.2 rfl,0,Xi.2 rfl, .nil 0⟩
theorem ZmP {o:Int} (ho:o=3∨o=4∨o=5) (a:ByteArray) (P:Lg):opG o a [P]=P:=by
 rcases ho with rfl|rfl|rfl
 · exact ZgK P
 · exact funext fun w=>propext ⟨fun ⟨A,h1,h2⟩=>by cases Xi.1 h1;exact h2,fun h=>⟨P,Xi.2 rfl,h⟩⟩
 · exact and_one P
theorem ZkJ {o:Int} (ho:o=3∨o=4∨o=5) (a:ByteArray) (m:List Lg) (Q:Lg):opG o a (m++[Q])=opB o (opG o a m) Q:=by
 rcases ho with rfl|rfl|rfl
 · show Oy (m++[Q])=_;rw [ZgI,ZgK];rfl
 · exact funext fun w=>propext ⟨fun ⟨A,h1,h2⟩=>(Xq.1 h1).elim (fun h=> .inl ⟨A,h,h2⟩) (fun h=>by cases Xi.1 h;exact .inr h2),fun h=>h.elim (fun ⟨A,h1,h2⟩=>⟨A,X1 _ h1,h2⟩) fun h=>⟨Q,X7 _ (Xi.2 rfl),h⟩⟩
 · show C7 (m++[Q])=_;rw [ZgJ,and_one];rfl
def ZdI (acts:List ByteArray) (r:Option Aut) (P:Lg):Prop:=∀A,r=some A→IsMin A∧A.syms=acts.length∧LS acts A P
theorem ZdJ {o:Int} (ho:o=3∨o=4∨o=5∨o=6) {r p:Option Aut} {P Q:Lg} (hr:ZdI acts r P) (hp:ZdI acts p Q):ZdI acts (GL o r p) (opB o P Q):=by
 match r,p with
 | some a,some b=>
   obtain ⟨ha,hsa,hP⟩:=hr a rfl;obtain ⟨hb,hsb,hQ⟩:=hp b rfl;intro A hA;obtain ⟨h1,h2,h3⟩:=(RL o ha hb hsa hsb).ok hA;exact ⟨h2,h3,ZkH ho ha hb hsa hsb hP hQ h1⟩
 |none,_=>exact fun A hA=>by cases hA
 |some _,none=>exact fun A hA=>by cases hA
theorem ZdK {o:Int} (ho:o=3∨o=4∨o=5) (a:ByteArray):∀(l:List Nd) (f:Nd→Option Aut) (r:Option Aut) (m:List Lg),ZdI acts r (opG o a m)→(∀x∈l,ZdI acts (f x) (Sm x))→ZdI acts ((l.map f).foldl (GL o) r) (opG o a (m++l.map Sm))
 |[],f,r,m,h,_=>by rw [X',X',Xr];exact h
 | x::l,f,r,m,h,h2=>by
   have:=ZdK ho a l f (GL o r (f x)) (m++[Sm x]) (by rw [ZkJ ho];exact ZdJ oM h (h2 x (Xm ..))) fun y hy=>h2 y (Xo _ hy);rw [Xu] at this;exact this
theorem Dl {a:ByteArray} {l:List Nd} (h:rightT (.mk 6 a l)=true):∃x y,l=[x,y]:=by
 unfold rightT at h
 simp [Nd.op,Nd.l,Nd.act] at h
 match l,h with
 |[x,y],_=>exact ⟨x,y,rfl⟩
theorem Ct {o:Int} (ho:o=3∨o=4∨o=5) {a:ByteArray} {l:List Nd} (h:rightT (.mk o a l)=true):∃x m,l=x::m:=by
 cases l with
 |nil=>rcases ho with rfl|rfl|rfl<;>simp [rightT,Nd.op,Nd.l] at h
 |cons x m=>exact ⟨x,m,rfl⟩
theorem ZkK (hn:acts.Nodup) (hm:acts.length≤40):∀t:Nd,okT t=true→(∀s∈Y2 t,s∈acts)→ZdI acts (bldT acts t) (Sm t):=Nd.ind fun o a l ih hok ha=>by
 obtain ⟨hr,hp⟩:=Js.1 hok
 have hops:=Rs hr
 simp only [Nd.op,Nd.l] at hops hp
 have hpart:∀x∈l,o≠1→ZdI acts (bldT acts x) (Sm x):=fun x hx h1=>ih x hx (hp x hx) fun s hs=>ha s (by rw [Y2,UT h1];exact SD.2 ⟨x,hx,hs⟩)
 by_cases h1:o=1
 · subst h1;intro A hA;have hmem:a∈acts:=ha a (by rw [Y2,UU rfl];exact Xm ..);rw [bldT,UU rfl] at hA;obtain ⟨i,h2,h3,_⟩:=LI hmem;have hi:=(XK.1 h3).1;obtain ⟨k1,k2,k3⟩:=(GM (m:=acts.length) (Oz hm (by unfold WM at h2;rw [h2];omega)) rfl).ok hA;exact ⟨k2,k3,ZkI hn hm hmem k1⟩
 by_cases h2:o=2
 · subst h2;intro A hA;rw [bldT,UT dC,UU rfl] at hA;obtain ⟨k1,k2,k3⟩:=(GM (m:=acts.length) (Cq hm) rfl).ok hA;exact ⟨k2,k3,ZmO hm k1⟩
 rw [ZfJ acts o a l h1 h2,ZmK]
 by_cases h6:o=6
 · subst h6;obtain ⟨x,y,rfl⟩:=Dl hr;exact ZdJ (o:=6) oM (hpart x sM h1) (hpart y sM h1)
 · have ho:o=3∨o=4∨o=5:=oM;obtain ⟨x,m,rfl⟩:=Ct ho hr;exact ZdK ho a m (bldT acts) (bldT acts x) [Sm x] (by rw [ZmP ho];exact hpart x (Xm ..) h1) fun y hy=>hpart y (Xo _ hy) h1
theorem ZmQ {a b:Aut} (ha:IsMin a) (hb:IsMin b) (hs:a.syms=b.syms) (op:Int):cmpX a b op=(false,[],13)∨(cmpX a b op=(true,[],0)∧∀w,Kq a.syms.toNat w→SY op (T7 a (wI w)) (T7 b (wI w))=false)∨∃u,Kq a.syms.toNat u∧cmpX a b op=(false,wI u,0)∧SY op (T7 a (wI u)) (T7 b (wI u))=true:=by
 have hf:Wt a b=0:=Zby ha.valid hb.valid hs
 cases hq:prodQ a b with
 |none=>exact .inl (Zaf hf ha.red hb.red hq)
 | some q=>
   obtain ⟨o,rows⟩:=q;have hP:PQ a b o rows:=⟨ha,hb,hs,hq⟩;have hc:=Zae (op:=op) hf ha.red hb.red hq
   cases hx:(o.map (Y7 a b op)).idxOf? true with
   | none=>
     rw [Zib hx] at hc;refine .inr (.inl ⟨hc,fun w hw=>?_⟩);obtain ⟨h5,_⟩:=hP.run (op:=op) w hw;obtain ⟨x,hx'⟩:=Zw h5;rw [←hP.fin (op:=op) hw hx']
     cases hp:Y7 a b op x with
     |false=>rfl
     | true=>
       exfalso;rw [List.idxOf?_eq_none_iff] at hx;exact hx (Xl.2 ⟨x,Xc hx',hp⟩)
   | some i=>
     rw [Zia hx] at hc;obtain ⟨hi,_⟩:=ZdE.1 hx;(have hil:i<o.length:=by have:=Zh hi;rwa [Xe] at this);obtain ⟨u,hu,e,hr⟩:=hP.way (op:=op) i hil;refine .inr (.inr ⟨u,hu,by rw [hc,e],?_⟩);obtain ⟨x,hx'⟩:=Zw hil;rw [←hP.fin (op:=op) hu (x:=x) (by rw [hr];exact hx')];rw [Xg,hx'] at hi;simpa using hi
theorem ZkL (ks:List ByteArray):(Gc ks).Perm ks:=by
 have h:=(Uq (ks.map toB) fun x y=>decide (x≤y)).map ofB
 have e:(ks.map toB).map ofB=ks:=by rw [XG];exact (VQ fun s _=>HS s).trans (List.map_id ks)
 rw [e] at h
 exact h
theorem Cu {ks:List ByteArray} {s:ByteArray}:s∈Gc ks↔s∈ks:=(ZkL ks).mem_iff
theorem ZbD {ks:List ByteArray} (h:ks.Nodup):(Gc ks).Nodup:=(ZkL ks).nodup_iff.2 h
noncomputable def unK (a b:Nd):List ByteArray:=colS (colS [] (Y2 a)) (Y2 b)
noncomputable def unT (a b:Nd):List ByteArray:=Gc (unK a b)
theorem ZbE (a b:Nd):(unK a b).Nodup:=L0 _ _ (L0 _ _ Vc)
theorem H4 {a b:Nd} {s:ByteArray}:s∈unK a b↔s∈Y2 a∨s∈Y2 b:=by unfold unK;rw [Lm,Lm];simp
theorem RN {a b:Nd} {s:ByteArray}:s∈unT a b↔s∈Y2 a∨s∈Y2 b:=by unfold unT;rw [Cu,H4]
theorem ZkM (a b:Nd):(unT a b).Nodup:=ZbD (ZbE a b)
theorem RO (a b:Nd):(unT a b).length=(unK a b).length:=Ln _
def nmI (acts:List ByteArray) (w:List Int):List ByteArray:=w.map fun i=>(acts[i.toNat]?).getD ByteArray.empty
noncomputable def eqTX (a b:Nd):Bool×List ByteArray×Int:=
 if Kc a=true∧Kc b=true then
  if (unK a b).length≤40 then match bldT (unT a b) a,bldT (unT a b) b with
   |some x,some y=>((cmpX x y 4).1,nmI (unT a b) (cmpX x y 4).2.1,(cmpX x y 4).2.2)
   |_,_=>(false,[],13)
  else (false,[],5)
 else (false,[],1)
theorem ZkN {acts:List ByteArray} {t:Nd} (hn:acts.Nodup) (hm:acts.length≤40) (hv:Kc t=true) (ha:∀s∈Y2 t,s∈acts) {A:Aut} (h:bldT acts t=some A):IsMin A∧A.syms=acts.length∧LS acts A (Sm t):=ZkK hn hm t (Tc hv) ha A h
theorem Zif {m:Nat} {a:Aut} (h:a.syms=m) {w:List Nat}:Kq a.syms.toNat w↔Kq m w:=by rw [h];rfl
theorem ZmR {t:Nd} (h:(actR t).2=0):Kc t=true∧(actR t).1=Gc (colS [] (Y2 t))∧(actR t).1.length≤40∧(actR t).1.Nodup∧∀s,s∈(actR t).1↔s∈Y2 t:=by
 unfold actR at h ⊢
 by_cases h1:Kc t=true
 · rw [UU h1] at h ⊢;by_cases h2:(colS [] (Y2 t)).length≤40
   · rw [UU h2] at h ⊢;dsimp only;exact ⟨h1,rfl,by rw [Ln];exact h2,ZbD (L0 _ _ Vc),fun s=>by rw [Cu,Lm];simp⟩
   · rw [UT h2] at h;cases h
 · rw [UT h1] at h;cases h
theorem ZkO {acts:List ByteArray} {s:ByteArray} (h:WM acts s<0):s∉acts:=fun hs=>by
 obtain ⟨i,h1,_⟩:=LI hs
 omega
theorem ZoC {acts:List ByteArray} {s:ByteArray} (h:¬WM acts s<0):∃i:Nat,WM acts s=i∧acts[i]? =some s:=by
 by_cases hs:s∈acts
 · obtain ⟨i,h1,h2,_⟩:=LI hs;exact ⟨i,h1,h2⟩
 · exfalso;refine h ?_;unfold WM;rw [Li (fun i y _ hy=>?_)]
   · decide
   · cases h2:JB y s with
     |false=>rfl
     |true=>exact UV (PG.1 h2▸Xc hy) hs
theorem H5:∀t:Nd,okT t=true→(Y2 t).length≤szT t:=Nd.ind fun o a l ih h=>by
 obtain ⟨hr,hp⟩:=Js.1 h
 have key:∀m:List Nd,(∀x∈m,x∈l)→(JR m).length≤szL m:=fun m=>by
  induction m with
  |nil=>intro _;exact Xh _
  | cons x m ihm=>
    intro hm;rw [JR,szL,Xb];have h1:=ih x (hm x (Xm ..)) (hp x (hm x (Xm ..)));have h2:=ihm fun y hy=>hm y (Xo _ hy);omega
 have:=key l fun _ h=>h
 rw [Y2,szT]
 split
 · rw [Xk];omega
 · omega
theorem Zai:∀a b:List UInt8,Op.bytesLess a b=decide (a<b)
 |_,[]=>by simp [Op.bytesLess]
 |[],_::_=>by simp [Op.bytesLess]
 | x::a,y::b=>by
   rw [Op.bytesLess,Zai a b,V6];simp [List.cons_lt_cons_iff]
noncomputable def canB (l:List ByteArray):List ByteArray:=Gc (colS [] l)
theorem ZdL {l m:List ByteArray} (h:∀s,s∈l↔s∈m):canB l=canB m:=ζw (ZhC h)
theorem OB {l:List ByteArray} {s:ByteArray}:s∈canB l↔s∈l:=by unfold canB;rw [Cu,Lm];simp
theorem ZdM:canB []=[]:=by unfold canB Gc colS;simp
def PH (l:List ByteArray):Prop:=l.Pairwise fun x y=>YN x y=true
theorem ZkP {x y:ByteArray}:YN x y=decide (toB x<toB y):=by
 unfold YN toB
 rw [Zai,ByteArray.toList_eq,ByteArray.toList_eq]
theorem ZkQ {ks:List ByteArray} (h:ks.Nodup):PH (Gc ks):=by
 have htr:∀a b c:List UInt8,decide (a≤b)=true→decide (b≤c)=true→decide (a≤c)=true:=fun a b c h1 h2=>by
  simp only [UQ] at*;exact List.le_trans h1 h2
 have hto:∀a b:List UInt8,(decide (a≤b)||decide (b≤a))=true:=fun a b=>by
  simp only [Va,UQ];exact List.le_total a b
 have h1:=Up htr hto (ks.map toB)
 have h2:(Gc ks).Pairwise fun x y=>decide (toB x≤toB y)=true:=by
  unfold Gc;rw [V8];exact h1.imp fun {a b} h=>by rw [Zgo,Zgo];exact h
 have h3:=ZbD h
 exact List.Pairwise.imp₂ (fun {a b} k1 k2=>by
  rw [ZkP];simp only [UQ] at k1 ⊢;refine Decidable.byContradiction fun hn=>k2 ?_;have e:toB a=toB b:=List.le_antisymm k1 (List.not_lt.1 hn);rw [←HS a,e,HS]) h2 h3
theorem OC (l:List ByteArray):PH (canB l):=ZkQ (L0 _ _ Vc)
theorem ZkR:∀{l m:List ByteArray},PH l→PH m→(∀s,s∈l↔s∈m)→l=m:=fun {l m} hl hm h=>by
 have nd:∀{l:List ByteArray},PH l→l.Nodup:=fun h=>h.imp fun {a b} h e=>by rw [e,J1] at h;cases h
 refine List.Perm.eq_of_pairwise (le:=fun x y=>YN x y=true) (fun a b _ _ h1 h2=>?_) hl hm ((UN (nd hl) (nd hm)).2 h)
 exact UV (JC h1 h2) (by rw [J1];decide)
theorem ZbF {l m:List ByteArray} (h:PH l) (hm:∀s,s∈l↔s∈m):l=canB m:=ZkR h (OC m) fun s=>by rw [hm,OB]
def Gq (s:ByteArray) (m:List ByteArray):List ByteArray:=m.filter (YN · s)++(if m.any (YN s ·)=true then [s] else [])++m.filter (YN s ·)
def S9 (s:ByteArray) (m:List ByteArray):List ByteArray:=m.filter (YN · s)++[s]++m.filter (YN s ·)
theorem JO {α:Type} (p:α→Bool) (l:List α) (x:α):(l++[x]).filter p=l.filter p++(if p x=true then [x] else []):=by
 rw [XV]
 congr 1
 cases h:p x<;>simp [List.filter_cons,h]
theorem ZbG {s:ByteArray} {m:List ByteArray} (h:m.any (YN s ·)=false):m.filter (YN s ·)=[]:=List.filter_eq_nil_iff.2 fun x hx hl=>by
 rw [List.any_eq_false] at h;exact h x hx hl
theorem Zig {s x:ByteArray} {m:List ByteArray} (h:m.any (YN s ·)=false) (hx:YN s x=true):Gq s (m++[x])=Gq s m++[s]++[x]:=by
 have h2:YN x s=false:=by
  cases h3:YN x s
  · rfl
  · exact UV (JC hx h3) (by rw [J1];decide)
 unfold Gq
 rw [JO,JO,VA,h,ZbG h]
 simp [hx,h2]
theorem Zih {s x:ByteArray} {m:List ByteArray} (h:m.any (YN s ·)=false) (hx:YN s x=false) (hne:x≠s):Gq s (m++[x])=Gq s m++[x]:=by
 have h2:YN x s=true:=by
  cases h3:YN x s
  · exact UV (Sy h3 hx) hne
  · rfl
 unfold Gq
 rw [JO,JO,VA,h,ZbG h]
 simp [hx,h2]
theorem Zii {s x:ByteArray} {m:List ByteArray} (h:m.any (YN s ·)=true) (hm:∀y∈m,YN y x=true):Gq s (m++[x])=Gq s m++[x]∧(m++[x]).any (YN s ·)=true:=by
 obtain ⟨y,hy,h1⟩:=Uc.1 h
 have hx:YN s x=true:=JC h1 (hm y hy)
 have h2:YN x s=false:=by
  cases h3:YN x s
  · rfl
  · exact UV (JC hx h3) (by rw [J1];decide)
 refine ⟨?_,by rw [VA,h];rfl⟩
 unfold Gq
 rw [JO,JO,VA,h]
 simp [hx,h2]
theorem ZkS {s:ByteArray} {m:List ByteArray} (h:m.any (YN s ·)=true):Gq s m=S9 s m:=by unfold Gq S9;rw [UU h]
theorem Zij {s:ByteArray} {m:List ByteArray} (h:m.any (YN s ·)=false):Gq s m++[s]=S9 s m:=by unfold Gq S9;rw [h,ZbG h];simp
theorem ZkT {s:ByteArray} {m:List ByteArray} (h:PH m):PH (S9 s m):=by
 unfold S9 PH
 rw [Vk,Vk]
 refine ⟨⟨h.filter _,Vq ..,fun a ha b hb=>?_⟩,h.filter _,fun a ha b hb=>?_⟩
 · rw [Xi.1 hb];exact (X0.1 ha).2
 · have hb:=(X0.1 hb).2;rcases Xq.1 ha with ha|ha
   · exact JC (X0.1 ha).2 hb
   · rw [Xi.1 ha];exact hb
theorem ZkU {s x:ByteArray} {m:List ByteArray}:x∈S9 s m↔x∈m∨x=s:=by
 unfold S9
 rw [Xq,Xq,X0,X0,Xi]
 constructor
 · rintro ((h|h)|h)
   · exact .inl h.1
   · exact .inr h
   · exact .inl h.1
 · rintro (h|h)
   · cases h1:YN x s
     · cases h2:YN s x
       · exact .inl (.inr (Sy h1 h2))
       · exact .inr ⟨h,rfl⟩
     · exact .inl (.inl ⟨h,rfl⟩)
   · exact .inl (.inr h)
theorem ZkV {s:ByteArray} {l:List ByteArray}:S9 s (canB l)=canB (l++[s]):=ZbF (ZkT (OC l)) fun x=>by rw [ZkU,OB,Xq,Xi]
theorem ZgL {s:ByteArray} {l:List ByteArray} (h:s∈canB l):canB l=canB (l++[s]):=ZdL fun x=>by
 rw [Xq,Xi]
 exact ⟨.inl,fun h1=>h1.elim id fun e=>by rw [e];exact OB.1 h⟩
instance:DecidableEq Mv:=fun a b=>if h:eqM a b=true then .isTrue (Gy.1 h) else .isFalse fun e=>h (Gy.2 e)
def ZfM (x:Int):List Int→List Int
 |[]=>[x]
 |y::l=>if x≤y then x::y::l else y::ZfM x l
def ZmS:List Int→List Int
 |[]=>[]
 |x::l=>ZfM x (ZmS l)
theorem Dm (x:Int):∀l,(ZfM x l).Perm (x::l)
 |[]=> .refl _
 | y::l=>by
   unfold ZfM;split
   · exact .refl _
   · exact ((Dm x l).cons y).trans (.swap _ _ _)
theorem Zaj:∀l,(ZmS l).Perm l
 |[]=> .refl _
 |x::l=>(Dm x _).trans ((Zaj l).cons x)
theorem ZgM (x:Int):∀l:List Int,l.Pairwise (· ≤ ·)→(ZfM x l).Pairwise (· ≤ ·)
 |[],_=>by simp [ZfM]
 | y ::l,h=>by
   have h':=XQ.1 h;unfold ZfM;split
   · rename_i hxy;refine XQ.2 ⟨fun z hz=>?_,h⟩;rcases Xt.1 hz with rfl|hz
     · exact hxy
     · exact Int.le_trans hxy (h'.1 z hz)
   · rename_i hxy;refine XQ.2 ⟨fun z hz=>?_,ZgM x l h'.2⟩;rcases Xt.1 ((Dm x l).mem_iff.1 hz) with rfl|hz
     · omega
     · exact h'.1 z hz
theorem ZgN:∀l,(ZmS l).Pairwise (· ≤ ·)
 |[]=> .nil
 |x::l=>ZgM x _ (ZgN l)
theorem Cv:∀{l m:List Int},l.Pairwise (· ≤ ·)→m.Pairwise (· ≤ ·)→l.Perm m→l=m
 |[],[],_,_,_=>rfl
 |[],y::m,_,_,h=>by have:=h.length_eq;simp at this
 |x::l,[],_,_,h=>by have:=h.length_eq;simp at this
 | x ::l,y::m,hl,hm,h=>by
   have hl':=XQ.1 hl;have hm':=XQ.1 hm;have h1:x≤y:=by
    rcases Xt.1 (h.mem_iff.2 (Xm ..)) with e|e
    · omega
    · exact hl'.1 y e
   have h2:y≤x:=by
    rcases Xt.1 (h.mem_iff.1 (Xm ..)) with e|e
    · omega
    · exact hm'.1 x e
   obtain rfl:x=y:=oM;rw [Cv hl'.2 hm'.2 ((List.perm_cons x).1 h)]
def OD (a:Aut) (l:List Int):List Int:=ZmS (WK a l a.n.toNat)
theorem OE (a:Aut) (l:List Int):Y3 a l=OD a l:=by
 unfold Y3 OD
 have h1:((WK a l a.n.toNat).mergeSort fun x y=>decide (x≤y)).Pairwise (fun x y=>decide (x≤y)=true):=Up (fun a b c h1 h2=>by simp only [UQ] at*;omega) (fun a b=>by simp only [Va,UQ];omega) _
 exact Cv (h1.imp fun h=>by simpa using h) (ZgN _) ((Uq _ _).trans (Zaj _).symm)
def ZmT (a:Aut) (far:List Int) (n:Int) (p:Pf) (c:Nat):List Pf:=if (WN (OD a (K0 a c p.2)) far (n-1)).length=0 then [] else [(p.1++[(c:Int)],WN (OD a (K0 a c p.2)) far (n-1))]
def lvI (a:Aut) (far:List Int) (n:Nat):Nat→List Pf
 |0=>[([],WN (OD a a.start) far n)]
 |k+1=>(lvI a far n k).flatMap fun p=>(List.range a.syms.toNat).flatMap (ZmT a far ((n:Int)-k) p)
theorem ZfN (a:Aut) (n:Nat):∀k,lvP a n k=lvI a (Wz a) n k
 |0=>by rw [lvP,lvI,OE]
 | k +1=>by
   rw [lvP,lvI,ZfN a n k];have:∀p,R6 a ((n:Int)-k) p=(List.range a.syms.toNat).flatMap (ZmT a (Wz a) ((n:Int)-k) p):=fun p=>by
    unfold R6;have:Te a ((n:Int)-k) p=ZmT a (Wz a) ((n:Int)-k) p:=by
     funext c
     unfold Te ZmT YO;rw [OE]
    rw [this]
   exact SL fun p _=>this p
def ZmU (a:Aut) (far:List Int) (n k:Nat):List (List Int):=(List.range k).flatMap fun i=>Oj a (lvI a far n i)
theorem ZgO (a:Aut) (n k:Nat):Tw a n k=ZmU a (Wz a) n k:=by
 unfold Tw ZmU
 simp only [ZfN]
def ZoD (a:Aut) (far:List Int) (n:Nat):Bool:=(List.range (n+1)).any (fun k=>decide (2000<(lvI a far n (k+1)).length))||decide (2000<(ZmU a far n (n+1)).length)
theorem ZmV (a:Aut) (n:Nat):Zmr a n↔ZoD a (Wz a) n=true:=by
 unfold Zmr ZoD
 rw [ZgO]
 simp only [Va,Uc,XT,UQ,ZfN]
 constructor
 · rintro (⟨k,h1,h2⟩|h)
   · exact .inl ⟨k,oM,h2⟩
   · exact .inr h
 · rintro (⟨k,h1,h2⟩|h)
   · exact .inl ⟨k,oM,h2⟩
   · exact .inr h
def ZkW (a:Aut):Srch (List Int) (List Int):=⟨id,2000,a.syms.toNat,fun _ l s=>OD a (K0 a (s:Nat) l)⟩
theorem ZmW (a:Aut):W0 a=ZkW a:=by
 unfold W0 ZkW
 congr 1
 funext _ l s
 unfold YO
 rw [OE]
theorem ZmX {a:Aut} {q:List (List Int)×List (List Nat)} (i:Nat) (h:(ZkW a).upto (OD a a.start) i=some q) (hl:q.1.length≤i) (hi:i≤2000):Jc a=some ⟨a.syms.toNat,q.2,q.1.map (WS a)⟩:=by
 unfold Jc
 rw [ZmW,OE,Srch.all_some h hl hi];rfl
theorem ZmY {a:Aut} {q:List (List Int)×List (List Nat)} {A:Aut} (i:Nat) (h:(ZkW a).upto (OD a a.start) i=some q) (hl:q.1.length≤i) (hi:i≤2000) (hA:Wp ⟨a.syms.toNat,q.2,q.1.map (WS a)⟩=some A):WV a= .ok A:=by
 unfold WV
 rw [ZmX i h hl hi]
 dsimp only
 rw [hA];rfl
theorem ZkX {a b A B:Aut} {q:List ((Nat×Nat)×(Int×Int))×List (List Nat)} (i:Nat) (ha:WV a= .ok A) (hb:WV b= .ok B) (h:(YP A B).upto ((0,0),(-1,-1)) i=some q) (hl:q.1.length≤i) (hi:i≤2000):Jf a b= .ok (A,B,q):=by
 unfold Jf
 rw [ha,hb]
 dsimp only
 rw [show prodQ A B=some q from Srch.all_some h hl hi]
theorem ZmZ {a b A B:Aut} {q:List ((Nat×Nat)×(Int×Int))×List (List Nat)} {op:Int} (hf:Wt a b=0) (h:Jf a b= .ok (A,B,q)):cmpX a b op=((GW A B op q).1,(GW A B op q).2,0):=by
 unfold cmpX
 rw [UT (fun h=>h hf),h]
theorem Zm0 {a b:Aut} (h1:a.n=b.n) (h2:a.syms=b.syms) (h3:a.start=b.start) (h4:a.fin=b.fin) (h5:a.moves=b.moves):a=b:=by
 cases a;cases b;simp_all
instance:DecidableEq Aut:=fun a b=>if h:a.n=b.n∧a.syms=b.syms∧a.start=b.start∧a.fin=b.fin∧a.moves=b.moves then .isTrue (Zm0 h.1 h.2.1 h.2.2.1 h.2.2.2.1 h.2.2.2.2) else .isFalse fun e=>h (by subst e;exact ⟨rfl,rfl,rfl,rfl,rfl⟩)
def Tf (a:Aut):List PV:=[pInt a.n,pInt a.syms,pInts a.start,pInts a.fin,pMvs a.moves]
theorem Ra (a:Aut):(Tf a).length=5:=rfl
theorem Zik {a:Aut} (h:Z1 a=false):JL a= .error 1:=by unfold JL;rw [h];rfl
theorem ZkY {a:Aut} (h:Z1 a=true):JL a=Jo (K2 a):=by unfold JL;rw [h];rfl
def KE (n:Int) (l:List Int):List Mv:=l.map fun s=>⟨n,s,-1⟩
def Sr (n:Int) (l:List Int):List Mv:=l.map fun s=>⟨s,n,-1⟩
theorem Zak (n:Int) {l:List Int} {k:Nat} {x:Int} (h:l[k]? =some x):KE n (l.take (k+1))=KE n (l.take k)++[⟨n,x,-1⟩]:=by unfold KE;rw [ZR h,Xs];rfl
theorem Zal (n:Int) {l:List Int} {k:Nat} {x:Int} (h:l[k]? =some x):Sr n (l.take (k+1))=Sr n (l.take k)++[⟨x,n,-1⟩]:=by unfold Sr;rw [ZR h,Xs];rfl
theorem ZfO (a:Aut):(K2 a).moves=a.moves++KE a.n a.start++Sr a.n a.fin:=rfl
theorem Cw {a:Aut} (h:AOk a):(K2 a).moves.length≤1000000:=by
 rw [ZfO,Xb,Xb]
 unfold KE Sr
 rw [Xe,Xe]
 have:=h.ml;have:=h.sl;have:=h.fl
 omega
theorem Zil (a:Aut) (hv:Z1 a=false):AF prog 90 [ZJ a] (· = .tup [KR,pInt 1]):=by
 refine AF.of_body 64 func90 rfl ntmps90 (Xa rfl) ?_
 intro w0 M0 vs hl hv
 obtain ⟨v0,rfl⟩:=WE hl
 clear hl hv
 refine Ze ?_
 (refine ZB 1 5 fun h1=>?_<;>refine Zv [(.int .i64 0),(.int .i64 0),(.slice none 0 0),(.slice none 0 0),(.slice none 0 0)] 5 2 ZI fun h2=>?_<;>refine xL 3 Za ?_<;>refine Zk ?_)
 ((refine yL 10 (Zs 1 Zf) fun v10 h=>?_;cases h)<;>(refine cS 11 (cA call107 (WH a)) fun v11 h=>?_;cases h)<;>refine xL 12 Z' ?_<;>refine Zc ?_)
 refine cX ?_ ?_<;>intro hb12
 · refine Ze ?_;(refine xL 13 (ZO ZX) ?_<;>refine Zz 2 Zf ?_<;>refine xL 3 Za ?_<;>refine Zc ?_)
   exact Z8 (k:=5) 2 kR (results90) rfl rfl rfl (Xa rfl) dC rfl rfl
 · rw [hv] at hb12;simp at hb12
set_option maxHeartbeats 1000000 in
theorem Zm1 (a:Aut) (hv:Z1 a=true) {p0 p1 p2 p3 p4:PV} {E:Int} (r5:R5 p0 p1 p2 p3 p4) (hr:AF prog 132 [ZJ (mkA (K2 a))] (· = .tup [.agg [p0,p1,p2,p3,p4],pInt E])):AF prog 90 [ZJ a] (· = .tup [.agg [p0,p1,p2,p3,p4],pInt E]):=by
 obtain ⟨o0,o1,o2,o3,o4⟩:=r5.o
 have h:=W3 hv
 have hn0:=h.n0
 have hn1:=h.n1
 have hml:=h.ml
 have hsl:=h.sl
 have hfl:=h.fl
 refine AF.of_body 64 func90 rfl ntmps90 (Xa rfl) ?_
 intro w0 M0 vs hl hv
 obtain ⟨v0,rfl⟩:=WE hl
 clear hl hv
 refine Ze ?_
 (refine ZB 1 5 fun h1=>?_<;>refine Zv [(.int .i64 0),(.int .i64 0),(.slice none 0 0),(.slice none 0 0),(.slice none 0 0)] 5 2 ZI fun h2=>?_<;>refine xL 3 Za ?_<;>refine Zk ?_)
 ((refine yL 10 (Zs 1 Zf) fun v10 h=>?_;cases h)<;>(refine cS 11 (cA call107 (WH a)) fun v11 h=>?_;cases h)<;>refine xL 12 Z' ?_<;>refine Zc ?_)
 refine cX ?_ ?_<;>intro hb12
 · rw [hv] at hb12;simp at hb12
 · refine Ze ?_;(refine xL 14 (Zd 1 ZS) ?_<;>(refine yL 15 (Zl 1 Zg) fun v15 h=>?_;cases h)<;>refine xL 4 Za ?_<;>refine Zc ?_)
   refine Pe (fun x:{x:Value×Value//x.1.oneCell'=true}=>⟨[(1,padd (sbase h1) 0, .val (padd (sbase h1) 0)),(2,padd (sbase h2) 0, .val (padd (sbase h2) 0)),(4, .int .i64 a.n,pInt a.n),(5,padd (sbase x.1.2) 0, .val (padd (sbase x.1.2) 0))],[(1,h1, .own 39 5 1 [pInt a.n,pInt a.syms,pInts a.start,pInts a.fin,pMvs a.moves]),(2,h2, .own 39 5 1 [pInt 0,pInt 0, .val (.slice none 0 0), .val (.slice none 0 0), .val (.slice none 0 0)]),(5,x.1.2, .own 39 5 1 [pInt (a.n+1),pInt a.syms,pInts [a.n],pInts [a.n], .val x.1.1]),(26,x.1.1, .own 93 3 a.moves.length (a.moves.flatMap cMv))]⟩) ?_ ?_
   · (refine ZZ (fun i=>([]:List Nat).elem i) [1] kR ?_<;>refine xD 0 16 rfl Zb ?_<;>refine xD 1 17 rfl ZK ?_<;>refine xD 2 18 rfl (Zd 1 ZT) ?_<;>(refine yD 3 19 rfl (Zl 1 Zg) fun v19 h=>?_;cases h)<;>refine xD 4 20 rfl Zb ?_<;>refine xD 6 22 rfl Zb ?_<;>refine xD 8 24 rfl (Zd 1 Zx) ?_<;>(refine yD 9 25 rfl (Zl 1 ZC) fun v25 h=>?_;cases h)<;>(refine Zmb 5 7 10 12 kR ?_ ?_ ?_ ?_;rotate_right;(focus ((refine Zm rfl fun w9 M9 N9 DQ back=>?_)<;>refine Zv [(.int .i64 0),(.int .i64 0),(.slice none 0 0),(.slice none 0 0),(.slice none 0 0)] 5 5 ZI fun h5=>?_<;>refine Zj (back _ (nrm ?_))<;>(refine GD 5 7 10 kR ?_ ?_ ?_;rotate_right;(focus ((refine Zm rfl fun w9 M9 N9 DQ back=>?_)<;>refine cO 26 (cA call138 (Y9 a.moves oM)) fun v26 ho26=>?_<;>refine Zj (back _ (nrm ?_))<;>(refine YY 5 7 kR ?_ ?_;rotate_right;(focus ((refine Zm rfl fun w9 M9 N9 DQ back=>?_)<;>(refine ZM (kk:=1) 23 Zo fun h23 ho23=>?_;refine Zu (En.freeze (l:=23) (t:=23) rfl rfl) fun _=>?_;rw [show share (PV.own 3 1 1 [PV.val (.int .i64 a.n)])=pInts [a.n] from rfl])<;>refine Zj (back _ (nrm ?_))<;>(refine Zp 5 kR ?_)<;>(refine Zm rfl fun w9 M9 N9 DQ back=>?_)<;>(refine ZM (kk:=1) 21 Zo fun h21 ho21=>?_;refine Zu (En.freeze (l:=21) (t:=21) rfl rfl) fun _=>?_;rw [show share (PV.own 3 1 1 [PV.val (.int .i64 a.n)])=pInts [a.n] from rfl])<;>refine Zj (back _ (nrm ?_))<;>refine xE 11 27 rfl (ZO ZX) ?_<;>(refine Zp 13 kR ?_)<;>(refine Zm rfl fun w9 M9 N9 DQ back=>?_)<;>(refine Zz 5 (m:=5) kR ?_ (h1:=by show (List.all [pInt (a.n+1),pInt a.syms,pInts [a.n],pInts [a.n],PV.val v26] En.one)=true;simp only [XE,XH,XF,Xf];exact ⟨rfl,rfl,rfl,rfl,ho26⟩))<;>refine Zj (back _ (nrm ?_))));rotate_right;(focus ((refine Zm rfl fun w9 M9 N9 DQ back=>?_)<;>(refine ZM (kk:=1) 21 Zo fun h21 ho21=>?_;refine Zu (En.freeze (l:=21) (t:=21) rfl rfl) fun _=>?_;rw [show share (PV.own 3 1 1 [PV.val (.int .i64 a.n)])=pInts [a.n] from rfl])<;>refine Zj (back _ (nrm ?_))<;>(refine Zp 7 kR ?_)<;>(refine Zm rfl fun w9 M9 N9 DQ back=>?_)<;>(refine ZM (kk:=1) 23 Zo fun h23 ho23=>?_;refine Zu (En.freeze (l:=23) (t:=23) rfl rfl) fun _=>?_;rw [show share (PV.own 3 1 1 [PV.val (.int .i64 a.n)])=pInts [a.n] from rfl])<;>refine Zj (back _ (nrm ?_))<;>refine xE 11 27 rfl (ZO ZX) ?_<;>(refine Zp 13 kR ?_)<;>(refine Zm rfl fun w9 M9 N9 DQ back=>?_)<;>(refine Zz 5 (m:=5) kR ?_ (h1:=by show (List.all [pInt (a.n+1),pInt a.syms,pInts [a.n],pInts [a.n],PV.val v26] En.one)=true;simp only [XE,XH,XF,Xf];exact ⟨rfl,rfl,rfl,rfl,ho26⟩))<;>refine Zj (back _ (nrm ?_)))))));rotate_right;(focus ((refine Zm rfl fun w9 M9 N9 DQ back=>?_)<;>(refine ZM (kk:=1) 23 Zo fun h23 ho23=>?_;refine Zu (En.freeze (l:=23) (t:=23) rfl rfl) fun _=>?_;rw [show share (PV.own 3 1 1 [PV.val (.int .i64 a.n)])=pInts [a.n] from rfl])<;>refine Zj (back _ (nrm ?_))<;>(refine YY 5 10 kR ?_ ?_;rotate_right;(focus ((refine Zm rfl fun w9 M9 N9 DQ back=>?_)<;>refine cO 26 (cA call138 (Y9 a.moves oM)) fun v26 ho26=>?_<;>refine Zj (back _ (nrm ?_))<;>(refine Zp 5 kR ?_)<;>(refine Zm rfl fun w9 M9 N9 DQ back=>?_)<;>(refine ZM (kk:=1) 21 Zo fun h21 ho21=>?_;refine Zu (En.freeze (l:=21) (t:=21) rfl rfl) fun _=>?_;rw [show share (PV.own 3 1 1 [PV.val (.int .i64 a.n)])=pInts [a.n] from rfl])<;>refine Zj (back _ (nrm ?_))<;>refine xE 11 27 rfl (ZO ZX) ?_<;>(refine Zp 13 kR ?_)<;>(refine Zm rfl fun w9 M9 N9 DQ back=>?_)<;>(refine Zz 5 (m:=5) kR ?_ (h1:=by show (List.all [pInt (a.n+1),pInt a.syms,pInts [a.n],pInts [a.n],PV.val v26] En.one)=true;simp only [XE,XH,XF,Xf];exact ⟨rfl,rfl,rfl,rfl,ho26⟩))<;>refine Zj (back _ (nrm ?_))));rotate_right;(focus ((refine Zm rfl fun w9 M9 N9 DQ back=>?_)<;>(refine ZM (kk:=1) 21 Zo fun h21 ho21=>?_;refine Zu (En.freeze (l:=21) (t:=21) rfl rfl) fun _=>?_;rw [show share (PV.own 3 1 1 [PV.val (.int .i64 a.n)])=pInts [a.n] from rfl])<;>refine Zj (back _ (nrm ?_))<;>(refine Zp 10 kR ?_)<;>(refine Zm rfl fun w9 M9 N9 DQ back=>?_)<;>refine cO 26 (cA call138 (Y9 a.moves oM)) fun v26 ho26=>?_<;>refine Zj (back _ (nrm ?_))<;>refine xE 11 27 rfl (ZO ZX) ?_<;>(refine Zp 13 kR ?_)<;>(refine Zm rfl fun w9 M9 N9 DQ back=>?_)<;>(refine Zz 5 (m:=5) kR ?_ (h1:=by show (List.all [pInt (a.n+1),pInt a.syms,pInts [a.n],pInts [a.n],PV.val v26] En.one)=true;simp only [XE,XH,XF,Xf];exact ⟨rfl,rfl,rfl,rfl,ho26⟩))<;>refine Zj (back _ (nrm ?_)))))));rotate_right;(focus ((refine Zm rfl fun w9 M9 N9 DQ back=>?_)<;>(refine ZM (kk:=1) 21 Zo fun h21 ho21=>?_;refine Zu (En.freeze (l:=21) (t:=21) rfl rfl) fun _=>?_;rw [show share (PV.own 3 1 1 [PV.val (.int .i64 a.n)])=pInts [a.n] from rfl])<;>refine Zj (back _ (nrm ?_))<;>(refine YY 7 10 kR ?_ ?_;rotate_right;(focus ((refine Zm rfl fun w9 M9 N9 DQ back=>?_)<;>refine cO 26 (cA call138 (Y9 a.moves oM)) fun v26 ho26=>?_<;>refine Zj (back _ (nrm ?_))<;>(refine Zp 7 kR ?_)<;>(refine Zm rfl fun w9 M9 N9 DQ back=>?_)<;>(refine ZM (kk:=1) 23 Zo fun h23 ho23=>?_;refine Zu (En.freeze (l:=23) (t:=23) rfl rfl) fun _=>?_;rw [show share (PV.own 3 1 1 [PV.val (.int .i64 a.n)])=pInts [a.n] from rfl])<;>refine Zj (back _ (nrm ?_))<;>refine xE 11 27 rfl (ZO ZX) ?_<;>(refine Zp 13 kR ?_)<;>(refine Zm rfl fun w9 M9 N9 DQ back=>?_)<;>(refine Zz 5 (m:=5) kR ?_ (h1:=by show (List.all [pInt (a.n+1),pInt a.syms,pInts [a.n],pInts [a.n],PV.val v26] En.one)=true;simp only [XE,XH,XF,Xf];exact ⟨rfl,rfl,rfl,rfl,ho26⟩))<;>refine Zj (back _ (nrm ?_))));rotate_right;(focus ((refine Zm rfl fun w9 M9 N9 DQ back=>?_)<;>(refine ZM (kk:=1) 23 Zo fun h23 ho23=>?_;refine Zu (En.freeze (l:=23) (t:=23) rfl rfl) fun _=>?_;rw [show share (PV.own 3 1 1 [PV.val (.int .i64 a.n)])=pInts [a.n] from rfl])<;>refine Zj (back _ (nrm ?_))<;>(refine Zp 10 kR ?_)<;>(refine Zm rfl fun w9 M9 N9 DQ back=>?_)<;>refine cO 26 (cA call138 (Y9 a.moves oM)) fun v26 ho26=>?_<;>refine Zj (back _ (nrm ?_))<;>refine xE 11 27 rfl (ZO ZX) ?_<;>(refine Zp 13 kR ?_)<;>(refine Zm rfl fun w9 M9 N9 DQ back=>?_)<;>(refine Zz 5 (m:=5) kR ?_ (h1:=by show (List.all [pInt (a.n+1),pInt a.syms,pInts [a.n],pInts [a.n],PV.val v26] En.one)=true;simp only [XE,XH,XF,Xf];exact ⟨rfl,rfl,rfl,rfl,ho26⟩))<;>refine Zj (back _ (nrm ?_))))))))));rotate_right;(focus ((refine Zm rfl fun w9 M9 N9 DQ back=>?_)<;>refine cO 26 (cA call138 (Y9 a.moves oM)) fun v26 ho26=>?_<;>refine Zj (back _ (nrm ?_))<;>(refine GD 5 7 12 kR ?_ ?_ ?_;rotate_right;(focus ((refine Zm rfl fun w9 M9 N9 DQ back=>?_)<;>refine Zv [(.int .i64 0),(.int .i64 0),(.slice none 0 0),(.slice none 0 0),(.slice none 0 0)] 5 5 ZI fun h5=>?_<;>refine Zj (back _ (nrm ?_))<;>(refine YY 5 7 kR ?_ ?_;rotate_right;(focus ((refine Zm rfl fun w9 M9 N9 DQ back=>?_)<;>(refine ZM (kk:=1) 23 Zo fun h23 ho23=>?_;refine Zu (En.freeze (l:=23) (t:=23) rfl rfl) fun _=>?_;rw [show share (PV.own 3 1 1 [PV.val (.int .i64 a.n)])=pInts [a.n] from rfl])<;>refine Zj (back _ (nrm ?_))<;>(refine Zp 5 kR ?_)<;>(refine Zm rfl fun w9 M9 N9 DQ back=>?_)<;>(refine ZM (kk:=1) 21 Zo fun h21 ho21=>?_;refine Zu (En.freeze (l:=21) (t:=21) rfl rfl) fun _=>?_;rw [show share (PV.own 3 1 1 [PV.val (.int .i64 a.n)])=pInts [a.n] from rfl])<;>refine Zj (back _ (nrm ?_))<;>refine xE 11 27 rfl (ZO ZX) ?_<;>(refine Zp 13 kR ?_)<;>(refine Zm rfl fun w9 M9 N9 DQ back=>?_)<;>(refine Zz 5 (m:=5) kR ?_ (h1:=by show (List.all [pInt (a.n+1),pInt a.syms,pInts [a.n],pInts [a.n],PV.val v26] En.one)=true;simp only [XE,XH,XF,Xf];exact ⟨rfl,rfl,rfl,rfl,ho26⟩))<;>refine Zj (back _ (nrm ?_))));rotate_right;(focus ((refine Zm rfl fun w9 M9 N9 DQ back=>?_)<;>(refine ZM (kk:=1) 21 Zo fun h21 ho21=>?_;refine Zu (En.freeze (l:=21) (t:=21) rfl rfl) fun _=>?_;rw [show share (PV.own 3 1 1 [PV.val (.int .i64 a.n)])=pInts [a.n] from rfl])<;>refine Zj (back _ (nrm ?_))<;>(refine Zp 7 kR ?_)<;>(refine Zm rfl fun w9 M9 N9 DQ back=>?_)<;>(refine ZM (kk:=1) 23 Zo fun h23 ho23=>?_;refine Zu (En.freeze (l:=23) (t:=23) rfl rfl) fun _=>?_;rw [show share (PV.own 3 1 1 [PV.val (.int .i64 a.n)])=pInts [a.n] from rfl])<;>refine Zj (back _ (nrm ?_))<;>refine xE 11 27 rfl (ZO ZX) ?_<;>(refine Zp 13 kR ?_)<;>(refine Zm rfl fun w9 M9 N9 DQ back=>?_)<;>(refine Zz 5 (m:=5) kR ?_ (h1:=by show (List.all [pInt (a.n+1),pInt a.syms,pInts [a.n],pInts [a.n],PV.val v26] En.one)=true;simp only [XE,XH,XF,Xf];exact ⟨rfl,rfl,rfl,rfl,ho26⟩))<;>refine Zj (back _ (nrm ?_)))))));rotate_right;(focus ((refine Zm rfl fun w9 M9 N9 DQ back=>?_)<;>(refine ZM (kk:=1) 23 Zo fun h23 ho23=>?_;refine Zu (En.freeze (l:=23) (t:=23) rfl rfl) fun _=>?_;rw [show share (PV.own 3 1 1 [PV.val (.int .i64 a.n)])=pInts [a.n] from rfl])<;>refine Zj (back _ (nrm ?_))<;>(refine YY 5 12 kR ?_ ?_;rotate_right;(focus ((refine Zm rfl fun w9 M9 N9 DQ back=>?_)<;>refine Zv [(.int .i64 0),(.int .i64 0),(.slice none 0 0),(.slice none 0 0),(.slice none 0 0)] 5 5 ZI fun h5=>?_<;>refine Zj (back _ (nrm ?_))<;>(refine Zp 5 kR ?_)<;>(refine Zm rfl fun w9 M9 N9 DQ back=>?_)<;>(refine ZM (kk:=1) 21 Zo fun h21 ho21=>?_;refine Zu (En.freeze (l:=21) (t:=21) rfl rfl) fun _=>?_;rw [show share (PV.own 3 1 1 [PV.val (.int .i64 a.n)])=pInts [a.n] from rfl])<;>refine Zj (back _ (nrm ?_))<;>refine xE 11 27 rfl (ZO ZX) ?_<;>(refine Zp 13 kR ?_)<;>(refine Zm rfl fun w9 M9 N9 DQ back=>?_)<;>(refine Zz 5 (m:=5) kR ?_ (h1:=by show (List.all [pInt (a.n+1),pInt a.syms,pInts [a.n],pInts [a.n],PV.val v26] En.one)=true;simp only [XE,XH,XF,Xf];exact ⟨rfl,rfl,rfl,rfl,ho26⟩))<;>refine Zj (back _ (nrm ?_))));rotate_right;(focus ((refine Zm rfl fun w9 M9 N9 DQ back=>?_)<;>(refine ZM (kk:=1) 21 Zo fun h21 ho21=>?_;refine Zu (En.freeze (l:=21) (t:=21) rfl rfl) fun _=>?_;rw [show share (PV.own 3 1 1 [PV.val (.int .i64 a.n)])=pInts [a.n] from rfl])<;>refine Zj (back _ (nrm ?_))<;>refine xD 11 27 rfl (ZO ZX) ?_<;>(refine Zp 12 kR ?_)<;>(refine Zm rfl fun w9 M9 N9 DQ back=>?_)<;>refine Zv [(.int .i64 0),(.int .i64 0),(.slice none 0 0),(.slice none 0 0),(.slice none 0 0)] 5 5 ZI fun h5=>?_<;>refine Zj (back _ (nrm ?_))<;>(refine Zp 13 kR ?_)<;>(refine Zm rfl fun w9 M9 N9 DQ back=>?_)<;>(refine Zz 5 (m:=5) kR ?_ (h1:=by show (List.all [pInt (a.n+1),pInt a.syms,pInts [a.n],pInts [a.n],PV.val v26] En.one)=true;simp only [XE,XH,XF,Xf];exact ⟨rfl,rfl,rfl,rfl,ho26⟩))<;>refine Zj (back _ (nrm ?_)))))));rotate_right;(focus ((refine Zm rfl fun w9 M9 N9 DQ back=>?_)<;>(refine ZM (kk:=1) 21 Zo fun h21 ho21=>?_;refine Zu (En.freeze (l:=21) (t:=21) rfl rfl) fun _=>?_;rw [show share (PV.own 3 1 1 [PV.val (.int .i64 a.n)])=pInts [a.n] from rfl])<;>refine Zj (back _ (nrm ?_))<;>(refine YY 7 12 kR ?_ ?_;rotate_right;(focus ((refine Zm rfl fun w9 M9 N9 DQ back=>?_)<;>refine Zv [(.int .i64 0),(.int .i64 0),(.slice none 0 0),(.slice none 0 0),(.slice none 0 0)] 5 5 ZI fun h5=>?_<;>refine Zj (back _ (nrm ?_))<;>(refine Zp 7 kR ?_)<;>(refine Zm rfl fun w9 M9 N9 DQ back=>?_)<;>(refine ZM (kk:=1) 23 Zo fun h23 ho23=>?_;refine Zu (En.freeze (l:=23) (t:=23) rfl rfl) fun _=>?_;rw [show share (PV.own 3 1 1 [PV.val (.int .i64 a.n)])=pInts [a.n] from rfl])<;>refine Zj (back _ (nrm ?_))<;>refine xE 11 27 rfl (ZO ZX) ?_<;>(refine Zp 13 kR ?_)<;>(refine Zm rfl fun w9 M9 N9 DQ back=>?_)<;>(refine Zz 5 (m:=5) kR ?_ (h1:=by show (List.all [pInt (a.n+1),pInt a.syms,pInts [a.n],pInts [a.n],PV.val v26] En.one)=true;simp only [XE,XH,XF,Xf];exact ⟨rfl,rfl,rfl,rfl,ho26⟩))<;>refine Zj (back _ (nrm ?_))));rotate_right;(focus ((refine Zm rfl fun w9 M9 N9 DQ back=>?_)<;>(refine ZM (kk:=1) 23 Zo fun h23 ho23=>?_;refine Zu (En.freeze (l:=23) (t:=23) rfl rfl) fun _=>?_;rw [show share (PV.own 3 1 1 [PV.val (.int .i64 a.n)])=pInts [a.n] from rfl])<;>refine Zj (back _ (nrm ?_))<;>refine xD 11 27 rfl (ZO ZX) ?_<;>(refine Zp 12 kR ?_)<;>(refine Zm rfl fun w9 M9 N9 DQ back=>?_)<;>refine Zv [(.int .i64 0),(.int .i64 0),(.slice none 0 0),(.slice none 0 0),(.slice none 0 0)] 5 5 ZI fun h5=>?_<;>refine Zj (back _ (nrm ?_))<;>(refine Zp 13 kR ?_)<;>(refine Zm rfl fun w9 M9 N9 DQ back=>?_)<;>(refine Zz 5 (m:=5) kR ?_ (h1:=by show (List.all [pInt (a.n+1),pInt a.syms,pInts [a.n],pInts [a.n],PV.val v26] En.one)=true;simp only [XE,XH,XF,Xf];exact ⟨rfl,rfl,rfl,rfl,ho26⟩))<;>refine Zj (back _ (nrm ?_))))))))));rotate_right;(focus ((refine Zm rfl fun w9 M9 N9 DQ back=>?_)<;>(refine ZM (kk:=1) 23 Zo fun h23 ho23=>?_;refine Zu (En.freeze (l:=23) (t:=23) rfl rfl) fun _=>?_;rw [show share (PV.own 3 1 1 [PV.val (.int .i64 a.n)])=pInts [a.n] from rfl])<;>refine Zj (back _ (nrm ?_))<;>(refine GD 5 10 12 kR ?_ ?_ ?_;rotate_right;(focus ((refine Zm rfl fun w9 M9 N9 DQ back=>?_)<;>refine Zv [(.int .i64 0),(.int .i64 0),(.slice none 0 0),(.slice none 0 0),(.slice none 0 0)] 5 5 ZI fun h5=>?_<;>refine Zj (back _ (nrm ?_))<;>(refine YY 5 10 kR ?_ ?_;rotate_right;(focus ((refine Zm rfl fun w9 M9 N9 DQ back=>?_)<;>refine cO 26 (cA call138 (Y9 a.moves oM)) fun v26 ho26=>?_<;>refine Zj (back _ (nrm ?_))<;>(refine Zp 5 kR ?_)<;>(refine Zm rfl fun w9 M9 N9 DQ back=>?_)<;>(refine ZM (kk:=1) 21 Zo fun h21 ho21=>?_;refine Zu (En.freeze (l:=21) (t:=21) rfl rfl) fun _=>?_;rw [show share (PV.own 3 1 1 [PV.val (.int .i64 a.n)])=pInts [a.n] from rfl])<;>refine Zj (back _ (nrm ?_))<;>refine xE 11 27 rfl (ZO ZX) ?_<;>(refine Zp 13 kR ?_)<;>(refine Zm rfl fun w9 M9 N9 DQ back=>?_)<;>(refine Zz 5 (m:=5) kR ?_ (h1:=by show (List.all [pInt (a.n+1),pInt a.syms,pInts [a.n],pInts [a.n],PV.val v26] En.one)=true;simp only [XE,XH,XF,Xf];exact ⟨rfl,rfl,rfl,rfl,ho26⟩))<;>refine Zj (back _ (nrm ?_))));rotate_right;(focus ((refine Zm rfl fun w9 M9 N9 DQ back=>?_)<;>(refine ZM (kk:=1) 21 Zo fun h21 ho21=>?_;refine Zu (En.freeze (l:=21) (t:=21) rfl rfl) fun _=>?_;rw [show share (PV.own 3 1 1 [PV.val (.int .i64 a.n)])=pInts [a.n] from rfl])<;>refine Zj (back _ (nrm ?_))<;>(refine Zp 10 kR ?_)<;>(refine Zm rfl fun w9 M9 N9 DQ back=>?_)<;>refine cO 26 (cA call138 (Y9 a.moves oM)) fun v26 ho26=>?_<;>refine Zj (back _ (nrm ?_))<;>refine xE 11 27 rfl (ZO ZX) ?_<;>(refine Zp 13 kR ?_)<;>(refine Zm rfl fun w9 M9 N9 DQ back=>?_)<;>(refine Zz 5 (m:=5) kR ?_ (h1:=by show (List.all [pInt (a.n+1),pInt a.syms,pInts [a.n],pInts [a.n],PV.val v26] En.one)=true;simp only [XE,XH,XF,Xf];exact ⟨rfl,rfl,rfl,rfl,ho26⟩))<;>refine Zj (back _ (nrm ?_)))))));rotate_right;(focus ((refine Zm rfl fun w9 M9 N9 DQ back=>?_)<;>refine cO 26 (cA call138 (Y9 a.moves oM)) fun v26 ho26=>?_<;>refine Zj (back _ (nrm ?_))<;>(refine YY 5 12 kR ?_ ?_;rotate_right;(focus ((refine Zm rfl fun w9 M9 N9 DQ back=>?_)<;>refine Zv [(.int .i64 0),(.int .i64 0),(.slice none 0 0),(.slice none 0 0),(.slice none 0 0)] 5 5 ZI fun h5=>?_<;>refine Zj (back _ (nrm ?_))<;>(refine Zp 5 kR ?_)<;>(refine Zm rfl fun w9 M9 N9 DQ back=>?_)<;>(refine ZM (kk:=1) 21 Zo fun h21 ho21=>?_;refine Zu (En.freeze (l:=21) (t:=21) rfl rfl) fun _=>?_;rw [show share (PV.own 3 1 1 [PV.val (.int .i64 a.n)])=pInts [a.n] from rfl])<;>refine Zj (back _ (nrm ?_))<;>refine xE 11 27 rfl (ZO ZX) ?_<;>(refine Zp 13 kR ?_)<;>(refine Zm rfl fun w9 M9 N9 DQ back=>?_)<;>(refine Zz 5 (m:=5) kR ?_ (h1:=by show (List.all [pInt (a.n+1),pInt a.syms,pInts [a.n],pInts [a.n],PV.val v26] En.one)=true;simp only [XE,XH,XF,Xf];exact ⟨rfl,rfl,rfl,rfl,ho26⟩))<;>refine Zj (back _ (nrm ?_))));rotate_right;(focus ((refine Zm rfl fun w9 M9 N9 DQ back=>?_)<;>(refine ZM (kk:=1) 21 Zo fun h21 ho21=>?_;refine Zu (En.freeze (l:=21) (t:=21) rfl rfl) fun _=>?_;rw [show share (PV.own 3 1 1 [PV.val (.int .i64 a.n)])=pInts [a.n] from rfl])<;>refine Zj (back _ (nrm ?_))<;>refine xD 11 27 rfl (ZO ZX) ?_<;>(refine Zp 12 kR ?_)<;>(refine Zm rfl fun w9 M9 N9 DQ back=>?_)<;>refine Zv [(.int .i64 0),(.int .i64 0),(.slice none 0 0),(.slice none 0 0),(.slice none 0 0)] 5 5 ZI fun h5=>?_<;>refine Zj (back _ (nrm ?_))<;>(refine Zp 13 kR ?_)<;>(refine Zm rfl fun w9 M9 N9 DQ back=>?_)<;>(refine Zz 5 (m:=5) kR ?_ (h1:=by show (List.all [pInt (a.n+1),pInt a.syms,pInts [a.n],pInts [a.n],PV.val v26] En.one)=true;simp only [XE,XH,XF,Xf];exact ⟨rfl,rfl,rfl,rfl,ho26⟩))<;>refine Zj (back _ (nrm ?_)))))));rotate_right;(focus ((refine Zm rfl fun w9 M9 N9 DQ back=>?_)<;>(refine ZM (kk:=1) 21 Zo fun h21 ho21=>?_;refine Zu (En.freeze (l:=21) (t:=21) rfl rfl) fun _=>?_;rw [show share (PV.own 3 1 1 [PV.val (.int .i64 a.n)])=pInts [a.n] from rfl])<;>refine Zj (back _ (nrm ?_))<;>(refine YY 10 12 kR ?_ ?_;rotate_right;(focus ((refine Zm rfl fun w9 M9 N9 DQ back=>?_)<;>refine Zv [(.int .i64 0),(.int .i64 0),(.slice none 0 0),(.slice none 0 0),(.slice none 0 0)] 5 5 ZI fun h5=>?_<;>refine Zj (back _ (nrm ?_))<;>(refine Zp 10 kR ?_)<;>(refine Zm rfl fun w9 M9 N9 DQ back=>?_)<;>refine cO 26 (cA call138 (Y9 a.moves oM)) fun v26 ho26=>?_<;>refine Zj (back _ (nrm ?_))<;>refine xE 11 27 rfl (ZO ZX) ?_<;>(refine Zp 13 kR ?_)<;>(refine Zm rfl fun w9 M9 N9 DQ back=>?_)<;>(refine Zz 5 (m:=5) kR ?_ (h1:=by show (List.all [pInt (a.n+1),pInt a.syms,pInts [a.n],pInts [a.n],PV.val v26] En.one)=true;simp only [XE,XH,XF,Xf];exact ⟨rfl,rfl,rfl,rfl,ho26⟩))<;>refine Zj (back _ (nrm ?_))));rotate_right;(focus ((refine Zm rfl fun w9 M9 N9 DQ back=>?_)<;>refine cO 26 (cA call138 (Y9 a.moves oM)) fun v26 ho26=>?_<;>refine Zj (back _ (nrm ?_))<;>refine xD 11 27 rfl (ZO ZX) ?_<;>(refine Zp 12 kR ?_)<;>(refine Zm rfl fun w9 M9 N9 DQ back=>?_)<;>refine Zv [(.int .i64 0),(.int .i64 0),(.slice none 0 0),(.slice none 0 0),(.slice none 0 0)] 5 5 ZI fun h5=>?_<;>refine Zj (back _ (nrm ?_))<;>(refine Zp 13 kR ?_)<;>(refine Zm rfl fun w9 M9 N9 DQ back=>?_)<;>(refine Zz 5 (m:=5) kR ?_ (h1:=by show (List.all [pInt (a.n+1),pInt a.syms,pInts [a.n],pInts [a.n],PV.val v26] En.one)=true;simp only [XE,XH,XF,Xf];exact ⟨rfl,rfl,rfl,rfl,ho26⟩))<;>refine Zj (back _ (nrm ?_))))))))));rotate_right;(focus ((refine Zm rfl fun w9 M9 N9 DQ back=>?_)<;>(refine ZM (kk:=1) 21 Zo fun h21 ho21=>?_;refine Zu (En.freeze (l:=21) (t:=21) rfl rfl) fun _=>?_;rw [show share (PV.own 3 1 1 [PV.val (.int .i64 a.n)])=pInts [a.n] from rfl])<;>refine Zj (back _ (nrm ?_))<;>(refine GD 7 10 12 kR ?_ ?_ ?_;rotate_right;(focus ((refine Zm rfl fun w9 M9 N9 DQ back=>?_)<;>refine Zv [(.int .i64 0),(.int .i64 0),(.slice none 0 0),(.slice none 0 0),(.slice none 0 0)] 5 5 ZI fun h5=>?_<;>refine Zj (back _ (nrm ?_))<;>(refine YY 7 10 kR ?_ ?_;rotate_right;(focus ((refine Zm rfl fun w9 M9 N9 DQ back=>?_)<;>refine cO 26 (cA call138 (Y9 a.moves oM)) fun v26 ho26=>?_<;>refine Zj (back _ (nrm ?_))<;>(refine Zp 7 kR ?_)<;>(refine Zm rfl fun w9 M9 N9 DQ back=>?_)<;>(refine ZM (kk:=1) 23 Zo fun h23 ho23=>?_;refine Zu (En.freeze (l:=23) (t:=23) rfl rfl) fun _=>?_;rw [show share (PV.own 3 1 1 [PV.val (.int .i64 a.n)])=pInts [a.n] from rfl])<;>refine Zj (back _ (nrm ?_))<;>refine xE 11 27 rfl (ZO ZX) ?_<;>(refine Zp 13 kR ?_)<;>(refine Zm rfl fun w9 M9 N9 DQ back=>?_)<;>(refine Zz 5 (m:=5) kR ?_ (h1:=by show (List.all [pInt (a.n+1),pInt a.syms,pInts [a.n],pInts [a.n],PV.val v26] En.one)=true;simp only [XE,XH,XF,Xf];exact ⟨rfl,rfl,rfl,rfl,ho26⟩))<;>refine Zj (back _ (nrm ?_))));rotate_right;(focus ((refine Zm rfl fun w9 M9 N9 DQ back=>?_)<;>(refine ZM (kk:=1) 23 Zo fun h23 ho23=>?_;refine Zu (En.freeze (l:=23) (t:=23) rfl rfl) fun _=>?_;rw [show share (PV.own 3 1 1 [PV.val (.int .i64 a.n)])=pInts [a.n] from rfl])<;>refine Zj (back _ (nrm ?_))<;>(refine Zp 10 kR ?_)<;>(refine Zm rfl fun w9 M9 N9 DQ back=>?_)<;>refine cO 26 (cA call138 (Y9 a.moves oM)) fun v26 ho26=>?_<;>refine Zj (back _ (nrm ?_))<;>refine xE 11 27 rfl (ZO ZX) ?_<;>(refine Zp 13 kR ?_)<;>(refine Zm rfl fun w9 M9 N9 DQ back=>?_)<;>(refine Zz 5 (m:=5) kR ?_ (h1:=by show (List.all [pInt (a.n+1),pInt a.syms,pInts [a.n],pInts [a.n],PV.val v26] En.one)=true;simp only [XE,XH,XF,Xf];exact ⟨rfl,rfl,rfl,rfl,ho26⟩))<;>refine Zj (back _ (nrm ?_)))))));rotate_right;(focus ((refine Zm rfl fun w9 M9 N9 DQ back=>?_)<;>refine cO 26 (cA call138 (Y9 a.moves oM)) fun v26 ho26=>?_<;>refine Zj (back _ (nrm ?_))<;>(refine YY 7 12 kR ?_ ?_;rotate_right;(focus ((refine Zm rfl fun w9 M9 N9 DQ back=>?_)<;>refine Zv [(.int .i64 0),(.int .i64 0),(.slice none 0 0),(.slice none 0 0),(.slice none 0 0)] 5 5 ZI fun h5=>?_<;>refine Zj (back _ (nrm ?_))<;>(refine Zp 7 kR ?_)<;>(refine Zm rfl fun w9 M9 N9 DQ back=>?_)<;>(refine ZM (kk:=1) 23 Zo fun h23 ho23=>?_;refine Zu (En.freeze (l:=23) (t:=23) rfl rfl) fun _=>?_;rw [show share (PV.own 3 1 1 [PV.val (.int .i64 a.n)])=pInts [a.n] from rfl])<;>refine Zj (back _ (nrm ?_))<;>refine xE 11 27 rfl (ZO ZX) ?_<;>(refine Zp 13 kR ?_)<;>(refine Zm rfl fun w9 M9 N9 DQ back=>?_)<;>(refine Zz 5 (m:=5) kR ?_ (h1:=by show (List.all [pInt (a.n+1),pInt a.syms,pInts [a.n],pInts [a.n],PV.val v26] En.one)=true;simp only [XE,XH,XF,Xf];exact ⟨rfl,rfl,rfl,rfl,ho26⟩))<;>refine Zj (back _ (nrm ?_))));rotate_right;(focus ((refine Zm rfl fun w9 M9 N9 DQ back=>?_)<;>(refine ZM (kk:=1) 23 Zo fun h23 ho23=>?_;refine Zu (En.freeze (l:=23) (t:=23) rfl rfl) fun _=>?_;rw [show share (PV.own 3 1 1 [PV.val (.int .i64 a.n)])=pInts [a.n] from rfl])<;>refine Zj (back _ (nrm ?_))<;>refine xD 11 27 rfl (ZO ZX) ?_<;>(refine Zp 12 kR ?_)<;>(refine Zm rfl fun w9 M9 N9 DQ back=>?_)<;>refine Zv [(.int .i64 0),(.int .i64 0),(.slice none 0 0),(.slice none 0 0),(.slice none 0 0)] 5 5 ZI fun h5=>?_<;>refine Zj (back _ (nrm ?_))<;>(refine Zp 13 kR ?_)<;>(refine Zm rfl fun w9 M9 N9 DQ back=>?_)<;>(refine Zz 5 (m:=5) kR ?_ (h1:=by show (List.all [pInt (a.n+1),pInt a.syms,pInts [a.n],pInts [a.n],PV.val v26] En.one)=true;simp only [XE,XH,XF,Xf];exact ⟨rfl,rfl,rfl,rfl,ho26⟩))<;>refine Zj (back _ (nrm ?_)))))));rotate_right;(focus ((refine Zm rfl fun w9 M9 N9 DQ back=>?_)<;>(refine ZM (kk:=1) 23 Zo fun h23 ho23=>?_;refine Zu (En.freeze (l:=23) (t:=23) rfl rfl) fun _=>?_;rw [show share (PV.own 3 1 1 [PV.val (.int .i64 a.n)])=pInts [a.n] from rfl])<;>refine Zj (back _ (nrm ?_))<;>(refine YY 10 12 kR ?_ ?_;rotate_right;(focus ((refine Zm rfl fun w9 M9 N9 DQ back=>?_)<;>refine Zv [(.int .i64 0),(.int .i64 0),(.slice none 0 0),(.slice none 0 0),(.slice none 0 0)] 5 5 ZI fun h5=>?_<;>refine Zj (back _ (nrm ?_))<;>(refine Zp 10 kR ?_)<;>(refine Zm rfl fun w9 M9 N9 DQ back=>?_)<;>refine cO 26 (cA call138 (Y9 a.moves oM)) fun v26 ho26=>?_<;>refine Zj (back _ (nrm ?_))<;>refine xE 11 27 rfl (ZO ZX) ?_<;>(refine Zp 13 kR ?_)<;>(refine Zm rfl fun w9 M9 N9 DQ back=>?_)<;>(refine Zz 5 (m:=5) kR ?_ (h1:=by show (List.all [pInt (a.n+1),pInt a.syms,pInts [a.n],pInts [a.n],PV.val v26] En.one)=true;simp only [XE,XH,XF,Xf];exact ⟨rfl,rfl,rfl,rfl,ho26⟩))<;>refine Zj (back _ (nrm ?_))));rotate_right;(focus ((refine Zm rfl fun w9 M9 N9 DQ back=>?_)<;>refine cO 26 (cA call138 (Y9 a.moves oM)) fun v26 ho26=>?_<;>refine Zj (back _ (nrm ?_))<;>refine xD 11 27 rfl (ZO ZX) ?_<;>(refine Zp 12 kR ?_)<;>(refine Zm rfl fun w9 M9 N9 DQ back=>?_)<;>refine Zv [(.int .i64 0),(.int .i64 0),(.slice none 0 0),(.slice none 0 0),(.slice none 0 0)] 5 5 ZI fun h5=>?_<;>refine Zj (back _ (nrm ?_))<;>(refine Zp 13 kR ?_)<;>(refine Zm rfl fun w9 M9 N9 DQ back=>?_)<;>(refine Zz 5 (m:=5) kR ?_ (h1:=by show (List.all [pInt (a.n+1),pInt a.syms,pInts [a.n],pInts [a.n],PV.val v26] En.one)=true;simp only [XE,XH,XF,Xf];exact ⟨rfl,rfl,rfl,rfl,ho26⟩))<;>refine Zj (back _ (nrm ?_)))))))))))<;>refine YC kR (nav ?_)<;>try dsimp only)<;>(
 exact WJ ⟨(v26,h5),ho26⟩ ⟨rfl,rfl,rfl,rfl,trivial⟩ ⟨rfl,rfl,rfl,rfl,trivial⟩)
   · rintro ⟨⟨v26,h5⟩,ho26⟩;dsimp only at ho26 ⊢;refine Zq (ZD (l:=26) 301 rfl rfl) fun _=>?_;refine Zq (ZF (l:=301) (p':= .own 93 3 (a.moves++KE a.n (a.start.take 0)).length ((a.moves++KE a.n (a.start.take 0)).flatMap cMv)) rfl (by rw [show KE a.n (a.start.take 0)=[] from rfl,Xr])) fun _=>?_;refine Ze ?_;(refine xL 28 (Zd 1 Z9) ?_<;>(refine yL 29 (Zl 1 Zy) fun v29 h=>?_;cases h)<;>refine xL 30 (ZW Zr) (xL 31 Zb ?_)<;>refine Zc ?_)
     refine ZE (ι:={q:Nat×Value//q.1≤a.start.length∧q.2.oneCell'=true}) (fun k=>⟨[(1,_,_),(2,_,_),(4,_,_),(5,_,_),(29,_,_),(30,_,_),(31, .int .i64 k.1.1,pInt k.1.1)],[(1,_,_),(2,_,_),(5,h5, .own 39 5 1 [pInt (a.n+1),pInt a.syms,pInts [a.n],pInts [a.n], .val k.1.2]),(301,k.1.2, .own 93 3 (a.moves++KE a.n (a.start.take k.1.1)).length ((a.moves++KE a.n (a.start.take k.1.1)).flatMap cMv))]⟩) (fun k=>a.start.length-k.1.1) ⟨(0,v26),Xd _,ho26⟩ (fun a w H=>H.weaken ⟨rfl,rfl,rfl,rfl,rfl,rfl,rfl,trivial⟩ ⟨rfl,rfl,rfl,rfl,trivial⟩) ?_;rintro ⟨⟨k,hM⟩,hk,hMo⟩;dsimp only;dsimp only at hk hMo;(have hl1:(a.moves++KE a.n (a.start.take k)).length≤30000:=by unfold KE;rw [Xb,Xe,Xn];omega);refine Ze ?_;(refine xL 32 ZQ ?_<;>refine Zc ?_)
     refine cX ?_ ?_<;>intro hb32
     · first|exact bN hb32|(
 obtain ⟨x,hx⟩:=Zw (show k<a.start.length by omega);have e1:=Yb (f:=pInt) hx;refine Ze ?_;(refine xL 33 (ZH Zr) ?_<;>(refine yL 34 (Ya Zg) fun v34 h=>?_;cases h)<;>refine xL 7 Za ?_<;>refine Zk ?_)
 (refine xL 35 (Zd 5 Zx) ?_<;>(refine yL 36 (Zl 5 ZC) fun v36 h=>?_;cases h)<;>refine xL 37 Zb (xL 38 Zb (xL 39 (ZO YW) ?_))<;>refine YI 40 ZU fun h40 ho40=>?_<;>(refine ZY 301 40 41 ZU fun h41 ho41=>?_;refine Zu (ZD (l:=41) 301 rfl rfl) fun _=>?_;refine Zu (ZF (l:=301) rfl ((WZ _ (a.moves++KE a.n (a.start.take k)) ⟨a.n,x,-1⟩).trans (by rw [Xu,←Zak a.n hx]))) fun _=>?_)<;>refine xL 42 (Zd 5 Zx) ?_<;>refine YQ 5 ZC YK ?_<;>refine Zk ?_)
 (refine xL 43 ZK (xL 31 Zb ?_)<;>refine Zc ?_)
 refine Zn (
  ⟨(k+1,h41),Zh hx,ho41⟩
  ) (by dsimp only;omega) ⟨rfl,rfl,rfl,rfl,rfl,rfl,rfl,trivial⟩ ⟨rfl,rfl,rfl,rfl,trivial⟩)
     · first |exact bN hb32|(
 rw [Xj (show a.start.length≤k by omega)];rw [show a.moves++KE a.n a.start=a.moves++KE a.n a.start++Sr a.n (a.fin.take 0) from (Xr _).symm];refine Ze ?_;(refine xL 44 (Zd 1 Z2) ?_<;>(refine yL 45 (Zl 1 Zy) fun v45 h=>?_;cases h)<;>refine xL 46 (ZW Zr) (xL 47 Zb ?_)<;>refine Zc ?_)
 refine ZE (ι:={q:Nat×Value//q.1≤a.fin.length∧q.2.oneCell'=true}) (fun k=>⟨[(1,_,_),(2,_,_),(4,_,_),(5,_,_),(45,_,_),(46,_,_),(47, .int .i64 k.1.1,pInt k.1.1)],[(1,_,_),(2,_,_),(5,h5, .own 39 5 1 [pInt (a.n+1),pInt a.syms,pInts [a.n],pInts [a.n], .val k.1.2]),(301,k.1.2, .own 93 3 (a.moves++KE a.n a.start++Sr a.n (a.fin.take k.1.1)).length ((a.moves++KE a.n a.start++Sr a.n (a.fin.take k.1.1)).flatMap cMv))]⟩) (fun k=>a.fin.length-k.1.1) ⟨(0,hM),Xd _,hMo⟩ (fun a w H=>H.weaken ⟨rfl,rfl,rfl,rfl,rfl,rfl,rfl,trivial⟩ ⟨rfl,rfl,rfl,rfl,trivial⟩) ?_;rintro ⟨⟨j,hM2⟩,hj,hM2o⟩;dsimp only;dsimp only at hj hM2o;(have hl2:(a.moves++KE a.n a.start++Sr a.n (a.fin.take j)).length≤30000:=by unfold KE Sr;rw [Xb,Xb,Xe,Xe,Xn];omega);refine Ze ?_;(refine xL 48 ZQ ?_<;>refine Zc ?_)
 refine cX ?_ ?_<;>intro hb48
 · first|exact bN hb48|(
 obtain ⟨y,hy⟩:=Zw (show j<a.fin.length by omega);have e1:=Yb (f:=pInt) hy;refine Ze ?_;(refine xL 49 (ZH Zr) ?_<;>(refine yL 50 (Ya Zg) fun v50 h=>?_;cases h)<;>refine xL 9 Za ?_<;>refine Zk ?_)
 (refine xL 51 (Zd 5 Zx) ?_<;>(refine yL 52 (Zl 5 ZC) fun v52 h=>?_;cases h)<;>refine xL 53 Zb (xL 54 Zb (xL 55 (ZO YW) ?_))<;>refine YI 56 ZU fun h56 ho56=>?_<;>(refine ZY 301 56 57 ZU fun h57 ho57=>?_;refine Zu (ZD (l:=57) 301 rfl rfl) fun _=>?_;refine Zu (ZF (l:=301) rfl ((WZ _ (a.moves++KE a.n a.start++Sr a.n (a.fin.take j)) ⟨y,a.n,-1⟩).trans (by rw [Xu (a.moves++KE a.n a.start),←Zal a.n hy]))) fun _=>?_)<;>refine xL 58 (Zd 5 Zx) ?_<;>refine YQ 5 ZC YK ?_<;>refine Zk ?_)
 (refine xL 59 ZK (xL 47 Zb ?_)<;>refine Zc ?_)
 refine Zn (
  ⟨(j+1,h57),Zh hy,ho57⟩
  ) (by dsimp only;omega) ⟨rfl,rfl,rfl,rfl,rfl,rfl,rfl,trivial⟩ ⟨rfl,rfl,rfl,rfl,trivial⟩)
 · first|exact bN hb48|(
 rw [Xj (show a.fin.length≤j by omega)];have hone:En.one (PV.val hM2)=true:=hM2o;refine nav ?_;refine Zq (ZD (l:=301) 1000 rfl rfl) fun _=>?_;(refine Zt ?_<;>(refine yL 60 (Zs (k:=5) (ps:=[pInt (a.n+1),pInt a.syms,pInts [a.n],pInts [a.n],PV.val hM2]) 5 kR) fun v60 h=>?_;cases h)<;>(refine WY [(1000,hM2,PV.own 93 3 (K2 a).moves.length ((K2 a).moves.flatMap cMv)),(1,_,_),(2,_,_),(5,_,_)] ⟨rfl,rfl,rfl,rfl,trivial⟩ ?_;refine J3 [1,2,5] 61 (call137) (Zbr (K2 a) (Cw h.toAOk) (Zft h) _ hM2 hM2o r5 hr) ?_;rintro _ _ _ ⟨⟨V1,rfl⟩,rfl,rfl⟩)<;>refine xL 62 Zi (xL 63 Zi ?_)<;>refine Zz 2 Zf ?_<;>refine xL 3 Za ?_<;>refine Zc ?_)
 exact Z8 (k:=5) 2 kR (results90) rfl rfl rfl (Xa rfl) dC r5.s rfl))
theorem Zm2 (a:Aut):AF prog 90 [ZJ a] (· =resW (JL a)):=by
 cases hv:Z1 a with
 |false=>rw [Zik hv];exact Zil a hv
 | true=>
   rw [ZkY hv];have h:=W3 hv;obtain ⟨p0,p1,p2,p3,p4,E,h5,h2,hr⟩:=T' (K2 a) (Cw h.toAOk) (Oo h);rw [h2];exact Zm1 a hv h5 hr
theorem LJ (l:List Int) (n:Int) (hl:l.length≤1000000) (hn:0≤n∧n≤1000000) (hb:∀x∈l,0≤x∧x≤1000000):AF prog 136 [pInts l,pInt n] (· = .own 3 1 (Y5 n l).length ((Y5 n l).map pInt)):=by
 refine AF.of_body 22 func136 rfl ntmps136 (Xa rfl) ?_
 intro w0 M0 vs hl hv
 obtain ⟨v0,v1,rfl⟩:=YX hl
 obtain rfl:=hv 1 _ _ rfl rfl
 clear hl hv
 refine Wm 0 rfl fun hlen=>?_
 refine Ze ?_
 (refine xL 4 Za ?_<;>refine Zk ?_)
 (refine xL 5 Za ?_<;>refine Zc ?_)
 refine Zq (KT 200 3 1 rfl) fun _=>?_
 (refine Zt ?_<;>refine xL 8 Zb (xL 9 (ZW Zr) (xL 10 Zb ?_))<;>refine Zc ?_)
 refine ZE (ι:={q:Nat×Value//q.1≤l.length∧q.2.oneCell'=true}) (fun k=>⟨[(1,_,_),(8,_,_),(9,_,_),(5,k.1.2, .val k.1.2),(10, .int .i64 k.1.1,pInt k.1.1)],[(200,k.1.2, .own 3 1 (Y5 n (l.take k.1.1)).length ((Y5 n (l.take k.1.1)).map pInt))]⟩) (fun k=>l.length-k.1.1) ⟨(0, .slice none 0 0),Xd _,rfl⟩ (fun a w H=>H.weaken ⟨rfl,rfl,rfl,rfl,rfl,trivial⟩ ⟨rfl,trivial⟩) ?_
 rintro ⟨⟨k,hO⟩,hk,hOo⟩
 dsimp only
 dsimp only at hk hOo
 have hal:(Y5 n (l.take k)).length≤1000000:=by rw [K4,Xn];omega
 refine Ze ?_
 (refine xL 11 ZQ ?_<;>refine Zc ?_)
 refine cX ?_ ?_<;>intro hb11
 · first|exact bN hb11|(
 obtain ⟨x,hx⟩:=Zw (show k<l.length by omega);have e1:=Yb (f:=pInt) hx;have hxb:=hb x (Xc hx);refine Ze ?_;(refine xL 12 (ZH Zr) ?_<;>(refine yL 13 (Ya Zg) fun v13 h=>?_;cases h)<;>refine xL 7 Za ?_<;>refine Zk ?_)
 (refine xL 14 Zb (xL 15 Zb (xL 16 Zb (xL 17 ZK ?_)))<;>refine ZM (kk:=1) 18 Zo fun h18 ho18=>?_<;>(refine ZY 200 18 19 Zo fun h19 ho19=>?_;refine Zu (ZD (l:=19) 200 rfl rfl) fun _=>?_;refine Zu (ZF (l:=200) rfl ((K5 _ (Y5 n (l.take k)) (x+n)).trans (by rw [←ζT n hx]))) fun _=>?_)<;>refine xL 5 Za ?_<;>refine Zk ?_)
 (refine xL 20 ZK (xL 10 Zb ?_)<;>refine Zc ?_)
 refine Zn (
  ⟨(k+1,h19),Zh hx,ho19⟩
  ) (by dsimp only;omega) ⟨rfl,rfl,rfl,rfl,rfl,trivial⟩ ⟨rfl,trivial⟩)
 · first|exact bN hb11|(
 rw [Xj (show l.length≤k by omega)];refine Ze ?_;(refine xL 21 Zb (xL 4 Za ?_)<;>refine Zc ?_)
 exact Kk 200 (results136) rfl rfl rfl)
def bsM (a b:Aut):List Mv:=a.moves++KS a.n b.moves
theorem RP {a b:Aut} (ha:AOk a) (hb:AOk b):(bsM a b).length≤40000:=by
 unfold bsM
 rw [Xb,Lz]
 have:=ha.ml;have:=hb.ml;omega
set_option maxHeartbeats 2000000 in
theorem Zam (a b:Aut) (ha:AOk a) (hb:AOk b) (V V':Value):AFh False prog 134 [(0,V,ZJ a),(1,V',ZJ b)] [] (fun v q h=>∃hM:Value,hM.oneCell'=true∧q= .agg [pInt (a.n+b.n),pInt a.syms, .val (.slice none 0 0), .val (.slice none 0 0), .val hM]∧h=[(1000,hM, .own 93 3 (bsM a b).length ((bsM a b).flatMap cMv))]):=by
 have hn0:=ha.n0
 have hn1:=ha.n1
 have hm0:=hb.n0
 have hm1:=hb.n1
 have hal:=ha.ml
 have hbl:=hb.ml
 refine AFh.of_body 46 func134 rfl ntmps134 (Xa rfl) rfl ?_
 intro w0 M0 N0
 refine Ze ?_
 (refine ZB 2 5 fun h2=>?_<;>refine ZB 3 5 fun h3=>?_<;>refine Zv [(.int .i64 0),(.int .i64 0),(.slice none 0 0),(.slice none 0 0),(.slice none 0 0)] 5 4 ZI fun h4=>?_<;>refine Zc ?_)
 refine Pe (fun x:{x:Value×Value//x.1.oneCell'=true}=>⟨[(2,padd (sbase h2) 0, .val (padd (sbase h2) 0)),(3,padd (sbase h3) 0, .val (padd (sbase h3) 0)),(4,padd (sbase h4) 0, .val (padd (sbase h4) 0)),(5,padd (sbase x.1.2) 0, .val (padd (sbase x.1.2) 0))],[(2,h2, .own 39 5 1 [pInt a.n,pInt a.syms,pInts a.start,pInts a.fin,pMvs a.moves]),(3,h3, .own 39 5 1 [pInt b.n,pInt b.syms,pInts b.start,pInts b.fin,pMvs b.moves]),(4,h4, .own 39 5 1 [pInt 0,pInt 0, .val (.slice none 0 0), .val (.slice none 0 0), .val (.slice none 0 0)]),(5,x.1.2, .own 39 5 1 [pInt (a.n+b.n),pInt a.syms, .val (.slice none 0 0), .val (.slice none 0 0), .val x.1.1]),(17,x.1.1, .own 93 3 a.moves.length (a.moves.flatMap cMv))]⟩) ?_ ?_
 · (refine ZZ (fun i=>([]:List Nat).elem i) [2,3] kR ?_<;>refine xD 0 8 rfl (Zd 2 ZS) ?_<;>(refine yD 1 9 rfl (Zl 2 Zg) fun v9 h=>?_;cases h)<;>refine xD 2 10 rfl (Zd 3 ZS) ?_<;>(refine yD 3 11 rfl (Zl 3 Zg) fun v11 h=>?_;cases h)<;>refine xD 4 12 rfl ZK ?_<;>refine xD 5 13 rfl (Zd 2 ZT) ?_<;>(refine yD 6 14 rfl (Zl 2 Zg) fun v14 h=>?_;cases h)<;>refine xD 7 15 rfl (Zd 2 Zx) ?_<;>(refine yD 8 16 rfl (Zl 2 ZC) fun v16 h=>?_;cases h)<;>(refine YY 9 11 kR ?_ ?_;rotate_right;(focus ((refine Zm rfl fun w9 M9 N9 DQ back=>?_)<;>refine Zv [(.int .i64 0),(.int .i64 0),(.slice none 0 0),(.slice none 0 0),(.slice none 0 0)] 5 5 ZI fun h5=>?_<;>refine Zj (back _ (nrm ?_))<;>(refine Zp 9 kR ?_)<;>(refine Zm rfl fun w9 M9 N9 DQ back=>?_)<;>refine cO 17 (cA call138 (Y9 a.moves oM)) fun v17 ho17=>?_<;>refine Zj (back _ (nrm ?_))<;>refine xE 10 18 rfl (ZO ZX) ?_<;>(refine Zp 12 kR ?_)<;>(refine Zm rfl fun w9 M9 N9 DQ back=>?_)<;>(refine Zz 5 (m:=5) kR ?_ (h1:=by show (List.all [pInt (a.n+b.n),pInt a.syms,PV.val (.slice none 0 0),PV.val (.slice none 0 0),PV.val v17] En.one)=true;simp only [XE,XH,XF,Xf];exact ⟨rfl,rfl,rfl,rfl,ho17⟩))<;>refine Zj (back _ (nrm ?_))));rotate_right;(focus ((refine Zm rfl fun w9 M9 N9 DQ back=>?_)<;>refine cO 17 (cA call138 (Y9 a.moves oM)) fun v17 ho17=>?_<;>refine Zj (back _ (nrm ?_))<;>refine xD 10 18 rfl (ZO ZX) ?_<;>(refine Zp 11 kR ?_)<;>(refine Zm rfl fun w9 M9 N9 DQ back=>?_)<;>refine Zv [(.int .i64 0),(.int .i64 0),(.slice none 0 0),(.slice none 0 0),(.slice none 0 0)] 5 5 ZI fun h5=>?_<;>refine Zj (back _ (nrm ?_))<;>(refine Zp 12 kR ?_)<;>(refine Zm rfl fun w9 M9 N9 DQ back=>?_)<;>(refine Zz 5 (m:=5) kR ?_ (h1:=by show (List.all [pInt (a.n+b.n),pInt a.syms,PV.val (.slice none 0 0),PV.val (.slice none 0 0),PV.val v17] En.one)=true;simp only [XE,XH,XF,Xf];exact ⟨rfl,rfl,rfl,rfl,ho17⟩))<;>refine Zj (back _ (nrm ?_)))))<;>refine YC kR (nav ?_)<;>try dsimp only)<;>(
 exact WJ ⟨(v17,h5),ho17⟩ ⟨rfl,rfl,rfl,rfl,trivial⟩ ⟨rfl,rfl,rfl,rfl,rfl,trivial⟩)
 · rintro ⟨⟨v17,h5⟩,ho17⟩;dsimp only at ho17 ⊢;refine Zq (ZD (l:=17) 301 rfl rfl) fun _=>?_;refine Zq (ZF (l:=301) (p':= .own 93 3 (a.moves++KS a.n (b.moves.take 0)).length ((a.moves++KS a.n (b.moves.take 0)).flatMap cMv)) rfl (by rw [show KS a.n (b.moves.take 0)=[] from rfl,Xr])) fun _=>?_;refine Ze ?_;(refine xL 19 (Zd 3 Zx) ?_<;>(refine yL 20 (Zl 3 ZC) fun v20 h=>?_;cases h)<;>refine xL 21 (ZW ZL) (xL 22 Zb ?_)<;>refine Zc ?_)
   refine ZE (ι:={q:Nat×Value//q.1≤b.moves.length∧q.2.oneCell'=true}) (fun k=>⟨[(2,_,_),(3,_,_),(4,_,_),(5,_,_),(20,_,_),(21,_,_),(22, .int .i64 k.1.1,pInt k.1.1)],[(2,_,_),(3,_,_),(4,_,_),(5,h5, .own 39 5 1 [pInt (a.n+b.n),pInt a.syms, .val (.slice none 0 0), .val (.slice none 0 0), .val k.1.2]),(301,k.1.2, .own 93 3 (a.moves++KS a.n (b.moves.take k.1.1)).length ((a.moves++KS a.n (b.moves.take k.1.1)).flatMap cMv))]⟩) (fun k=>b.moves.length-k.1.1) ⟨(0,v17),Xd _,ho17⟩ (fun a w H=>H.weaken ⟨rfl,rfl,rfl,rfl,rfl,rfl,rfl,trivial⟩ ⟨rfl,rfl,rfl,rfl,rfl,trivial⟩) ?_;rintro ⟨⟨k,hM⟩,hk,hMo⟩;dsimp only;dsimp only at hk hMo;have hl1:(a.moves++KS a.n (b.moves.take k)).length≤50000:=by rw [Xb,Lz,Xn];omega
   have q5:En.one (PV.val hM)=true:=hMo;refine Ze ?_;(refine xL 23 ZQ ?_<;>refine Zc ?_)
   refine cX ?_ ?_<;>intro hb23
   · first|exact bN hb23|(
 obtain ⟨x,hx⟩:=Zw (show k<b.moves.length by omega);have e1:=Yt Z5 b.moves k x hx;have e2:=YV Z5 hx;have hxb:=hb.mv x (Xc hx);refine Ze ?_;(refine xL 24 (ZH ZL) ?_<;>(refine yL 25 (WA Z3) fun v25 h=>?_;cases h)<;>refine Zv [(.int .i64 0),(.int .i64 0),(.int .i64 0)] 3 7 Ko fun h7=>?_<;>refine Zz 7 Z3 ?_<;>refine Zk ?_)
 (refine xL 26 (Zd 5 Zx) ?_<;>(refine yL 27 (Zl 5 ZC) fun v27 h=>?_;cases h)<;>refine xL 28 (Zd 7 Yd) ?_<;>(refine yL 29 (Zl 7 Zg) fun v29 h=>?_;cases h)<;>refine xL 30 (Zd 2 ZS) ?_<;>(refine yL 31 (Zl 2 Zg) fun v31 h=>?_;cases h)<;>refine xL 32 ZK (xL 33 (Zd 7 Yi) ?_)<;>(refine yL 34 (Zl 7 Zg) fun v34 h=>?_;cases h)<;>refine xL 35 (Zd 2 ZS) ?_<;>(refine yL 36 (Zl 2 Zg) fun v36 h=>?_;cases h)<;>refine xL 37 ZK (xL 38 (Zd 7 Yp) ?_)<;>(refine yL 39 (Zl 7 Zg) fun v39 h=>?_;cases h)<;>refine xL 40 (ZO YW) ?_<;>refine YI 41 ZU fun h41 ho41=>?_<;>(refine ZY 301 41 42 ZU fun h42 ho42=>?_;refine Zu (ZD (l:=42) 301 rfl rfl) fun _=>?_;refine Zu (ZF (l:=301) rfl ((WZ _ (a.moves++KS a.n (b.moves.take k)) ⟨x.src+a.n,x.dst+a.n,x.sym⟩).trans (by rw [Xu,←ζU a.n hx]))) fun _=>?_)<;>refine xL 43 (Zd 5 Zx) ?_<;>refine YQ 5 ZC YK ?_<;>refine Zk ?_)
 (refine xL 44 ZK (xL 22 Zb ?_)<;>refine Zc ?_)
 refine Zn (
  ⟨(k+1,h42),Zh hx,ho42⟩
  ) (by dsimp only;omega) ⟨rfl,rfl,rfl,rfl,rfl,rfl,rfl,trivial⟩ ⟨rfl,rfl,rfl,rfl,rfl,trivial⟩)
   · first|exact bN hb23|(
 rw [Xj (show b.moves.length≤k by omega)];refine Zq (ZD (l:=301) 1000 rfl rfl) fun _=>?_;refine Ze ?_;((refine yL 45 (Zs (k:=5) (ps:=[pInt (a.n+b.n),pInt a.syms,PV.val (.slice none 0 0),PV.val (.slice none 0 0),PV.val hM]) 5 kR) fun v45 h=>?_;cases h)<;>refine Zz 4 Zf ?_<;>refine Zc ?_)
 exact Zoi (k:=5) 4 [(1000,hM,PV.own 93 3 (bsM a b).length ((bsM a b).flatMap cMv))] kR (results134) rfl rfl (Xa rfl) dC rfl ⟨rfl,trivial⟩ fun V=>⟨hM,hMo,rfl,rfl⟩)
theorem Y0:AggT prog 149 5=true:=by kernel_rfl
theorem ZdN:AggT prog 263 2=true:=by kernel_rfl
theorem PI:ArrT prog 263 2=true:=by kernel_rfl
theorem Y1:ElT prog 264 263 2 16 (.agg #[(.int .i64 0),(.int .i64 0)]):=⟨underlying264,by kernel_rfl,rfl,dC⟩
theorem J7:FldT prog 149 0 0=true:=by kernel_rfl
theorem Yy:FldT prog 149 1 3=true:=by kernel_rfl
theorem Sb:FldT prog 149 2 4=true:=by kernel_rfl
theorem Sc:SlT prog 264 263 2=true:=by kernel_rfl
theorem WX:ZeroT prog 149 (.agg #[(.int .i64 0),(.slice none 0 0),(.slice none 0 0),(.slice none 0 0),(.slice none 0 0)]):=by unfold ZeroT;kernel_rfl
theorem Sd:ZeroT prog 263 (.agg #[(.int .i64 0),(.int .i64 0)]):=by unfold ZeroT;kernel_rfl
theorem ZfP (op:Int) (x y:Bool):AF prog 213 [pInt op,ZN x,ZN y] (· =ZN (SY op x y)):=by
 refine AF.of_body 30 func213 rfl ntmps213 (Xa rfl) ?_
 intro w0 M0 vs hl hv
 obtain ⟨v0,v1,v2,rfl⟩:=Jx hl
 obtain rfl:=hv 0 _ _ rfl rfl
 obtain rfl:=hv 1 _ _ rfl rfl
 obtain rfl:=hv 2 _ _ rfl rfl
 clear hl hv
 refine Ze ?_
 (refine xL 6 Za ?_<;>refine Zk ?_)
 (refine xL 7 Zb ?_<;>refine Zk ?_)
 (refine xL 9 Yf (xL 8 Za ?_)<;>refine Zc ?_)
 refine cX ?_ ?_<;>intro hb8
 · first|exact bN hb8|(
 refine Ze ?_;(refine xL 10 Zb (xL 11 Zb ?_)<;>(refine bL 11 (fun hb11=>?_) (fun hb11=>?_)<;>(first|refine kL 12 ?_|refine xL 12 Zb ?_))<;>refine xL 13 ZG (xL 6 Za ?_)<;>refine Zc ?_)<;>(
 refine ZA (results213) rfl ?_;unfold SY;rw [UU oM]
 cases x<;>cases y<;>first|rfl|(exfalso;simp_all;done)))
 · first | exact bN hb8|(
 refine Ze ?_;(refine xL 15 Yf (xL 14 Za ?_)<;>refine Zc ?_)
 refine cX ?_ ?_<;>intro hb14
 · first|exact bN hb14|(
 refine Ze ?_;(refine xL 16 Zb (xL 17 Zb ?_)<;>(refine bL 17 (fun hb17=>?_) (fun hb17=>?_)<;>(first|refine kL 18 ?_|refine xL 18 Zb ?_))<;>refine xL 19 ZG (xL 6 Za ?_)<;>refine Zc ?_)<;>(
 refine ZA (results213) rfl ?_;unfold SY;rw [UT oM,UU oM]
 cases x<;>cases y<;>first|rfl|(exfalso;simp_all;done)))
 · first |exact bN hb14|(
 refine Ze ?_;(refine xL 21 Yf (xL 20 Za ?_)<;>refine Zc ?_)
 refine cX ?_ ?_<;>intro hb20
 · first|exact bN hb20|(
 refine Ze ?_;(refine xL 22 Zb (xL 23 Zb ?_)<;>(refine bL 23 (fun hb23=>?_) (fun hb23=>?_)<;>(first|refine kL 24 ?_|refine xL 24 Zb ?_))<;>(first|refine kL 25 ?_|refine xL 25 Z' ?_)<;>refine xL 26 ZG (xL 6 Za ?_)<;>refine Zc ?_)<;>(
 refine ZA (results213) rfl ?_;unfold SY;rw [UT oM,UT oM,UU oM]
 cases x<;>cases y<;>first|rfl|(exfalso;simp_all;done)))
 · first|exact bN hb20|(
 refine Ze ?_;(refine xL 27 Zb (xL 28 Zb (xL 29 (Zi6 underlying4) (xL 6 Za ?_)))<;>refine Zc ?_)
 refine ZA (results213) rfl ?_;unfold SY;rw [UT oM,UT oM,UT oM]
 cases x<;>cases y<;>first|rfl|(exfalso;simp_all;done))))
theorem Zan {α κ:Type} [DecidableEq κ] (f:α→κ) (x:α):∀(l:List α) (off:Nat),YT f off (l++[x])=YT f off l++[(f x, .int .i64 ((off+l.length:Nat):Int))]
 |[],off=>by simp [YT]
 |y::l,off=>by rw [Ve,YT,Zan f x l (off+1),YT,Ve,Xk];congr 5;omega
theorem Dn {α κ:Type} [DecidableEq κ] (f:α→κ):∀(l:List α) (off:Nat),(YT f off l).map (·.1)=l.map f
 |[],_=>rfl
 |y::l,off=>by rw [YT,Xx,Dn f l (off+1),Xx]
abbrev PrS:=(Nat×Nat)×(Int×Int)
def Ki (x:PrS):Pi2:=((x.1.1:Nat),(x.1.2:Nat))
theorem ZdO {x y:PrS}:Ki x=Ki y↔x.1=y.1:=by
 unfold Ki
 rw [Prod.mk.injEq,Prod.ext_iff]
 omega
theorem Zm3 (o:List PrS) (x:PrS):posK Ki o (Ki x)=posK Prod.fst o x.1:=GH fun y _=>ZdO
def cPr (x:PrS):List PV:=[pInt (x.1.1:Nat),pInt (x.1.2:Nat)]
theorem ZgP (x:PrS):(cPr x).length=2:=rfl
theorem ZgQ (e:Nat) (L:List PrS) (x:PrS):PV.own e 2 (L.length+1) (L.flatMap cPr++cPr x)= .own e 2 (L++[x]).length ((L++[x]).flatMap cPr):=sM
theorem Zim (o:List PrS) (x:PrS):(GC (YT Ki 0 o) (Ki x)).getD (.int .i64 0)= .int .i64 ((if posK Ki o (Ki x)<o.length then posK Ki o (Ki x) else 0:Nat):Int)∧(GC (YT Ki 0 o) (Ki x)).isSome=decide (posK Ki o (Ki x)<o.length):=by
 rw [Tt]
 by_cases h:posK Ki o (Ki x)<o.length
 · rw [UU h,UU h,UR h,Xw];exact ⟨rfl,rfl⟩
 · rw [UT h,UT h,US h];exact ⟨rfl,rfl⟩
def KQ (o:List PrS):List Int:=o.map fun x=>x.2.1
def G9 (o:List PrS):List Int:=o.map fun x=>x.2.2
theorem Zao (o:List PrS) (y:PrS):KQ (o++[y])=KQ o++[y.2.1]:=by unfold KQ;rw [Xs];rfl
theorem ZdP (o:List PrS) (y:PrS):G9 (o++[y])=G9 o++[y.2.2]:=by unfold G9;rw [Xs];rfl
def Rb (A B:Aut) (op:Int) (q:List PrS×List (List Nat)):PV:= .agg [pInt (A.syms.toNat:Nat), .sl q.2.length (q.2.map Wn), .sl (q.1.map (Y7 A B op)).length ((q.1.map (Y7 A B op)).map ZN),pInts (KQ q.1),pInts (G9 q.1)]
def Zpv (A B:Aut) (op:Int) (p:PV):Prop:=(∃q,prodQ A B=some q∧p= .tup [Rb A B op q,ZN true])∨
 (prodQ A B=none∧∃u0 u1 u2 u3 u4:Value,u0.oneCell'=true∧u1.oneCell'=true∧u2.oneCell'=true∧u3.oneCell'=true∧u4.oneCell'=true∧p= .tup [.agg [.val u0, .val u1, .val u2, .val u3, .val u4],ZN false])
theorem OF:W1 prog 149=some (.agg #[.int .i64 0, .slice none 0 0, .slice none 0 0, .slice none 0 0, .slice none 0 0],[(0,3),(3,1),(4,1)]):=by kernel_rfl
theorem tPi:PiT prog 265 263 3 3 (.int .i64 0):=⟨underlying265,underlying263,underlying3,by kernel_rfl,by kernel_rfl,by kernel_rfl,by kernel_rfl,by kernel_rfl,fun a b=>by kernel_rfl,⟨prog.types.size-1,by kernel_rfl⟩,by show ZeroT _ _ _;unfold ZeroT;kernel_rfl⟩
set_option maxHeartbeats 4000000 in
theorem ZfQ (A B : Aut) (op:Int) (hA:DetA A) (hB:DetA B) (hs:A.syms=B.syms):AF prog 169 [ZJ A,ZJ B,pInt op] (Zpv A B op):=by
 have hAn1:=hA.ok.n1
 have hAn0:=hA.ok.n0
 have hBn1:=hB.ok.n1
 have hBn0:=hB.ok.n0
 have hs0:=hA.ok.s0
 have hs1:=hA.ok.s1
 have hsN:((A.syms.toNat:Nat):Int)=A.syms:=oM
 have hsB:B.syms.toNat=A.syms.toNat:=by rw [hs]
 refine AF.of_body 152 func169 rfl ntmps169 (Xa rfl) ?_
 intro w0 M0 vs hl hv
 obtain ⟨v0,v1,v2,rfl⟩:=Jx hl
 obtain rfl:=hv 2 _ _ rfl rfl
 clear hl hv
 refine Ze ?_
 (refine ZB 3 5 fun h3=>?_<;>refine ZB 4 5 fun h4=>?_<;>refine Zv [(.int .i64 0),(.slice none 0 0),(.slice none 0 0),(.slice none 0 0),(.slice none 0 0)] 5 6 WX fun h6=>?_<;>refine xL 7 Za ?_<;>refine Zc ?_)
 (refine ZZ (fun i=>([]:List Nat).elem i) [3,4] kR ?_<;>(refine yD 0 21 rfl (Zs 3 Zf) fun v21 h=>?_;cases h)<;>(refine yD 2 23 rfl (Zs 4 Zf) fun v23 h=>?_;cases h)<;>(refine Zp 1 kR ?_)<;>(refine YA (d:=22) rfl (cA call110 (T0 A hA.ok)) fun v22 h=>?_;cases h)<;>(refine Zp 3 kR ?_)<;>(refine YA (d:=24) rfl (cA call110 (T0 B hB.ok)) fun v24 h=>?_;cases h)<;>refine xE 4 8 rfl Za ?_<;>refine xE 5 9 rfl Za ?_<;>refine YC kR (nav ?_)<;>try dsimp only)
 (refine Zt ?_<;>refine xL 25 (Zd 3 ZT) ?_<;>(refine yL 26 (Zl 3 Zg) fun v26 h=>?_;cases h)<;>refine xL 27 (ZO E3) ?_<;>refine ZM (kk:=1) 28 Zo fun h28 ho28=>?_<;>(refine ZM (kk:=1) 29 Zo fun h29 ho29=>?_;have q28:En.one (PV.val h28)=true:=ho28;have q29:En.one (PV.val h29)=true:=ho29)<;>refine yL 30 (Ze4 OF rfl ho28 ho29) fun v30 _=>?_<;>refine Zv [(.int .i64 0),(.slice none 0 0),(.slice none 0 0),(.slice none 0 0),(.slice none 0 0)] 5 10 WX fun h10=>?_<;>refine Zz 10 Y0 ?_<;>refine Zc ?_)
 refine Zq (WF (l:=10) [pInt A.syms, .own 36 1 0 [], .own 4 1 0 [], .val h28, .val h29] rfl rfl (fun i p p' h1 h2=>by
  match i with
  |0=>cases h1;cases h2;exact .inl rfl
  |1=>cases h1;cases h2;exact .inr ⟨rfl,_,_,rfl⟩
  |2=>cases h1;cases h2;exact .inr ⟨rfl,_,_,rfl⟩
  |3=>cases h1;cases h2;exact .inl rfl
  |4=>cases h1;cases h2;exact .inl rfl
  |i+5=>simp at h2)) fun _=>?_
 refine Zq (We (l:=10) (l':=301) (j:=1) rfl rfl rfl rfl) fun i=>?_
 obtain ⟨v301,ho301⟩:=i
 refine Zq (We (l:=10) (l':=302) (j:=2) rfl rfl rfl rfl) fun i=>?_
 obtain ⟨v302,ho302⟩:=i
 dsimp only [List.set]
 refine Zq (ZD (l:=28) 303 rfl rfl) fun _=>?_
 refine Zq (ZD (l:=29) 304 rfl rfl) fun _=>?_
 refine Zq (ZF (l:=303) (p':= .own 3 1 (KQ [((0,0),(-1,-1))]).length ((KQ [((0,0),(-1,-1))]).map pInt)) rfl rfl) fun _=>?_
 refine Zq (ZF (l:=304) (p':= .own 3 1 (G9 [((0,0),(-1,-1))]).length ((G9 [((0,0),(-1,-1))]).map pInt)) rfl rfl) fun _=>?_
 (refine Zt ?_<;>refine xL 31 (Ek PI Sd) ?_<;>refine YI 32 Y1 fun h32 ho32=>?_<;>refine xL 11 Za ?_<;>refine Zc ?_)
 refine Zq (ZD (l:=32) 305 rfl rfl) fun _=>?_
 refine Zq (ZF (l:=305) (p':= .own 263 2 ([((0,0),(-1,-1))]:List PrS).length (([((0,0),(-1,-1))]:List PrS).flatMap cPr)) rfl rfl) fun _=>?_
 (refine Zt ?_<;>refine Gw 33 fun h33 ho33=>?_<;>refine xL 34 (Ek PI Sd) ?_<;>(refine Zgn (m:=[]) (k:=((0:Int),(0:Int))) 33 tPi (fun x hx=>by simp at hx) sM ⟨dC,dC⟩ rfl ?_;rw [show ([]:List (Pi2×Value))++[(((0:Int),(0:Int)),Value.int .i64 0)]=YT Ki 0 [((0,0),(-1,-1))] from rfl])<;>refine xL 35 Zb (xL 12 Za ?_)<;>refine Zc ?_)
 refine Zq (ZD (l:=33) 306 rfl rfl) fun _=>?_
 (refine Zt ?_<;>refine xL 13 Za ?_<;>refine Zc ?_)
 refine ZE (ι:={q:Nat×Value×Value×Value×Value×Value×List PrS×List (List Nat)//(YP A B).upto ((0,0),(-1,-1)) q.1=some (q.2.2.2.2.2.2.1,q.2.2.2.2.2.2.2)∧q.1≤q.2.2.2.2.2.2.1.length∧q.2.1.oneCell'=true∧q.2.2.1.oneCell'=true∧q.2.2.2.1.oneCell'=true∧q.2.2.2.2.1.oneCell'=true∧q.2.2.2.2.2.1.oneCell'=true}) (fun k=>⟨[(2,_,_),(3,_,_),(4,_,_),(6,_,_),(7,_,_),(8,_,_),(9,_,_),(10,_,_),(12,_,_),(11,k.1.2.2.2.2.2.1, .val k.1.2.2.2.2.2.1),(13, .int .i64 k.1.1,pInt k.1.1)],[(3,_,_),(4,_,_),(6,_,_),(10,h10, .own 149 5 1 [pInt A.syms, .val k.1.2.1, .val k.1.2.2.1, .val k.1.2.2.2.1, .val k.1.2.2.2.2.1]),(301,k.1.2.1, .own 36 1 k.1.2.2.2.2.2.2.2.length (k.1.2.2.2.2.2.2.2.map Wn)),(302,k.1.2.2.1, .own 4 1 ((k.1.2.2.2.2.2.2.1.take k.1.1).map (Y7 A B op)).length (((k.1.2.2.2.2.2.2.1.take k.1.1).map (Y7 A B op)).map ZN)),(303,k.1.2.2.2.1, .own 3 1 (KQ k.1.2.2.2.2.2.2.1).length ((KQ k.1.2.2.2.2.2.2.1).map pInt)),(304,k.1.2.2.2.2.1, .own 3 1 (G9 k.1.2.2.2.2.2.2.1).length ((G9 k.1.2.2.2.2.2.2.1).map pInt)),(305,k.1.2.2.2.2.2.1, .own 263 2 k.1.2.2.2.2.2.2.1.length (k.1.2.2.2.2.2.2.1.flatMap cPr)),(306,h33, .omap (RY (YT Ki 0 k.1.2.2.2.2.2.2.1)))]⟩) (fun k=>2000-k.1.1) ⟨(0,v301,v302,h28,h29,h32,[((0,0),(-1,-1))],[]),rfl,Xd _,ho301,ho302,ho28,ho29,ho32⟩ (fun a w H=>H.weaken ⟨rfl,rfl,rfl,rfl,rfl,rfl,rfl,rfl,rfl,rfl,rfl,trivial⟩ ⟨rfl,rfl,rfl,rfl,rfl,rfl,rfl,rfl,rfl,rfl,trivial⟩) ?_
 rintro ⟨⟨i,r1,r2,r3,r4,r5,o,rows⟩,hU,hi,hr1,hr2,hr3,hr4,hr5⟩
 dsimp only
 dsimp only at hU hi hr1 hr2 hr3 hr4 hr5
 obtain ⟨hOk,hRl,_⟩:=L6 hA hB hs hU
 have hRl:=hRl hi
 have hcap:o.length≤2000:=hOk.cap
 have hfl:((o.take i).map (Y7 A B op)).length≤2000:=by rw [Xe,Xn];omega
 have q1:En.one (PV.val r1)=true:=hr1
 have q2:En.one (PV.val r2)=true:=hr2
 have q3:En.one (PV.val r3)=true:=hr3
 have q4:En.one (PV.val r4)=true:=hr4
 refine Ze ?_
 (refine xL 36 Zb (xL 37 Zb (xL 38 (YH 305 Sc) (xL 39 ZQ ?_)))<;>refine Zc ?_)
 refine cX ?_ ?_<;>intro hb39
 · first | exact bN hb39|(
 obtain ⟨x,hx⟩:=Zw (show i<o.length by omega);have hxp:=hOk.p x (Xc hx);have hx1:x.1.1<A.n.toNat:=hxp.1;have hx2:x.1.2<B.n.toNat:=hxp.2;have e1:(o.flatMap cPr)[i*2+0]? =some (pInt (x.1.1:Nat)):=Gv ZgP hx dC;have e2:(o.flatMap cPr)[i*2+1]? =some (pInt (x.1.2:Nat)):=Gv ZgP hx dC;refine nav ?_;(refine ZZ (fun i=>([]:List Nat).elem i) [305] kR ?_<;>refine xD 0 42 rfl Zb ?_<;>refine xD 1 43 rfl Zb ?_<;>refine xD 2 44 rfl (Yg 305 Sc) ?_<;>refine xD 3 45 rfl (Zjk (len:=2) (i:=0) 305 kR) ?_<;>(refine yD 4 46 rfl (Zl 305 Zg) fun v46 h=>?_;cases h)<;>refine xD 5 47 rfl Zb ?_<;>refine xD 6 48 rfl Zb ?_<;>refine xD 7 49 rfl (Yg 305 Sc) ?_<;>refine xD 8 50 rfl (Zjk (len:=2) (i:=1) 305 kR) ?_<;>(refine yD 9 51 rfl (Zl 305 Zg) fun v51 h=>?_;cases h)<;>refine xE 10 14 rfl Za ?_<;>refine xE 11 15 rfl Za ?_<;>refine YC kR (nav ?_)<;>try dsimp only)
 (refine Zt ?_<;>refine xL 52 (Zd 3 ZT) ?_<;>(refine yL 53 (Zl 3 Zg) fun v53 h=>?_;cases h)<;>(refine Jy (n:=A.syms.toNat) 54 Zo (fun h54 ho54=>?_) (hx:=by rw [hsN];exact rfl) (hy:=by rw [hsN];exact rfl) (hb:=by omega))<;>refine xL 16 Za ?_<;>refine Zc ?_)
 rw [←ζX];(refine Zt ?_<;>refine xL 55 Zb (xL 56 (YH 54 Zr) (xL 57 Zb ?_))<;>refine Zc ?_)
 refine ZE (ι:={q:Nat×Value×Value×Value×List PrS×List Nat//(YP A B).row i x o q.1=some (q.2.2.2.2.1,q.2.2.2.2.2)∧q.1≤A.syms.toNat∧q.2.1.oneCell'=true∧q.2.2.1.oneCell'=true∧q.2.2.2.1.oneCell'=true}) (fun k=>⟨[(2,_,_),(3,_,_),(4,_,_),(6,_,_),(7,_,_),(8,_,_),(9,_,_),(10,_,_),(12,_,_),(13,_,_),(14,_,_),(15,_,_),(16,_,_),(56,_,_),(11,k.1.2.2.2.1, .val k.1.2.2.2.1),(57, .int .i64 k.1.1,pInt k.1.1)],[(3,_,_),(4,_,_),(6,_,_),(301,_,_),(302,_,_),(10,h10, .own 149 5 1 [pInt A.syms, .val r1, .val r2, .val k.1.2.1, .val k.1.2.2.1]),(303,k.1.2.1, .own 3 1 (KQ k.1.2.2.2.2.1).length ((KQ k.1.2.2.2.2.1).map pInt)),(304,k.1.2.2.1, .own 3 1 (G9 k.1.2.2.2.2.1).length ((G9 k.1.2.2.2.2.1).map pInt)),(305,k.1.2.2.2.1, .own 263 2 k.1.2.2.2.2.1.length (k.1.2.2.2.2.1.flatMap cPr)),(306,h33, .omap (RY (YT Ki 0 k.1.2.2.2.2.1))),(54,h54, .own 3 1 A.syms.toNat (vec A.syms.toNat fun j=>pInt (Sk k.1.2.2.2.2.2 j)))]⟩) (fun k=>A.syms.toNat-k.1.1) ⟨(0,r3,r4,r5,o,[]),rfl,Xd _,hr3,hr4,hr5⟩ (fun a w H=>H.weaken ⟨rfl,rfl,rfl,rfl,rfl,rfl,rfl,rfl,rfl,rfl,rfl,rfl,rfl,rfl,rfl,rfl,trivial⟩ ⟨rfl,rfl,rfl,rfl,rfl,rfl,rfl,rfl,rfl,rfl,rfl,trivial⟩) ?_;rintro ⟨⟨s,r3',r4',r5',o',r⟩,hW,hsm,hr3',hr4',hr5'⟩;dsimp only;dsimp only at hW hsm hr3' hr4' hr5';obtain ⟨hMt,hpr,hrl,_⟩:=hOk.toMet.row (fun s hs'=>⟨hA.sl _ _ hx1 hs',hB.sl _ _ hx2 (by have:s<A.syms.toNat:=hs';omega)⟩) (show s≤(YP A B).m from hsm) hW;have hcap':o'.length≤2000:=hMt.cap;have hx':=Kd hpr hx;have hil:=Zh hx';(have hpf:(KQ o').length=o'.length:=by unfold KQ;rw [Xe]);(have hps:(G9 o').length=o'.length:=by unfold G9;rw [Xe]);have q3':En.one (PV.val r3')=true:=hr3';have q4':En.one (PV.val r4')=true:=hr4';refine Ze ?_;(refine xL 58 ZQ ?_<;>refine Zc ?_)
 refine cX ?_ ?_<;>intro hb58
 · first | exact bN hb58|(
 obtain ⟨mx,hm1,hm2,hm3⟩:=hA.mo x.1.1 s hx1 oM;obtain ⟨my,hn1,hn2,hn3⟩:=hB.mo x.1.2 s hx2 oM;have hml:=hA.ml x.1.1 hx1;have hnl:=hB.ml x.1.2 hx2;(have d1:((List.range A.n.toNat).map fun s=>pMvs (movesOf A s))[x.1.1*1]? =some (pMvs (movesOf A x.1.1)):=by rw [Xp,Lq hx1]);(have d2:((List.range B.n.toNat).map fun s=>pMvs (movesOf B s))[x.1.2*1]? =some (pMvs (movesOf B x.1.2)):=by rw [Xp,Lq hx2]);(have d3:((movesOf A x.1.1).flatMap cMv)[s*3+1]? =some (pInt (stepA A x.1.1 s:Nat)):=by rw [←hm3];exact Gv Z5 hm1 dC);(have d4:((movesOf B x.1.2).flatMap cMv)[s*3+1]? =some (pInt (stepA B x.1.2 s:Nat)):=by rw [←hn3];exact Gv Z5 hn1 dC);obtain ⟨y,hy⟩:∃y:PrS,y=(YP A B).step i x s:=⟨_,rfl⟩;(have hyk:Ki y=(((stepA A x.1.1 s:Nat):Int),((stepA B x.1.2 s:Nat):Int)):=by rw [hy];rfl);(have hy2:y.2=(((i:Nat):Int),((s:Nat):Int)):=by rw [hy];rfl);(have hyp:S2 A B y:=by rw [hy];exact ⟨hA.sl _ _ hx1 oM,hB.sl _ _ hx2 oM⟩);(have hy11:y.1.1=stepA A x.1.1 s:=by rw [hy];rfl);(have hy12:y.1.2=stepA B x.1.2 s:=by rw [hy];rfl);have hyp1:y.1.1<A.n.toNat:=hyp.1;have hyp2:y.1.2<B.n.toNat:=hyp.2;rw [←hy11] at d3;rw [←hy12] at d4;have hid:=Zm3 o' y;have hlk:=Zim o' y;have hko:∀z∈YT Ki 0 o',Es z.1:=fun z hz=>by
  have hz1:z.1∈(YT Ki 0 o').map (·.1):=List.mem_map_of_mem hz;rw [Dn] at hz1;obtain ⟨u,hu,hue⟩:=Xl.1 hz1;have hup:=hMt.p u hu;have h1:u.1.1<A.n.toNat:=hup.1;have h2:u.1.2<B.n.toNat:=hup.2;rw [←hue];exact ⟨⟨by show (0:Int)≤(u.1.1:Nat);omega,by show ((u.1.1:Nat):Int)≤1000000;omega⟩,⟨by show (0:Int)≤(u.1.2:Nat);omega,by show ((u.1.2:Nat):Int)≤1000000;omega⟩⟩
 have hkn:((YT Ki 0 o').map (·.1)).Nodup:=by
  rw [Dn];have hnd:=hMt.nd;refine Gi (T4 hnd) fun u hu v hv e=>?_;obtain ⟨i1,hi1⟩:=XU hu;obtain ⟨i2,hi2⟩:=XU hv;have p1:=Lo hnd hi1;have p2:=Lo hnd hi2;have e2:(YP A B).key u=(YP A B).key v:=ZdO.1 e;rw [e2,p2] at p1;rw [p1,hi1] at hi2;exact Option.some.inj hi2
 have hky:Es (Ki y):=⟨⟨by show (0:Int)≤(y.1.1:Nat);omega,by show ((y.1.1:Nat):Int)≤1000000;omega⟩,⟨by show (0:Int)≤(y.1.2:Nat);omega,by show ((y.1.2:Nat):Int)≤1000000;omega⟩⟩;have e3:=KO A.syms.toNat (fun j=>pInt (Sk r j));refine Ze ?_;(refine xL 59 Zb (xL 17 Za ?_)<;>refine Zc ?_)
 (refine ZZ (fun i=>([]:List Nat).elem i) [] kR ?_<;>refine xD 0 60 rfl Zb ?_<;>refine xD 1 61 rfl Pi ?_<;>refine xD 2 62 rfl (Jk Ja) ?_<;>(refine yD 3 63 rfl (Ya Gd) fun v63 h=>?_;cases h)<;>refine xD 4 64 rfl Zb ?_<;>refine xD 5 65 rfl (ZH Ge) ?_<;>(refine yD 6 66 rfl (Ya ZC) fun v66 h=>?_;cases h)<;>refine xD 7 67 rfl Zb ?_<;>refine xD 8 68 rfl (ZH ZL) ?_<;>refine xD 9 69 rfl (Jk Yi) ?_<;>(refine yD 10 70 rfl (Ya Zg) fun v70 h=>?_;cases h)<;>refine xD 11 71 rfl Zb ?_<;>refine xD 12 72 rfl Pi ?_<;>refine xD 13 73 rfl (Jk Ja) ?_<;>(refine yD 14 74 rfl (Ya Gd) fun v74 h=>?_;cases h)<;>refine xD 15 75 rfl Zb ?_<;>refine xD 16 76 rfl (ZH Ge) ?_<;>(refine yD 17 77 rfl (Ya ZC) fun v77 h=>?_;cases h)<;>refine xD 18 78 rfl Zb ?_<;>refine xD 19 79 rfl (ZH ZL) ?_<;>refine xD 20 80 rfl (Jk Yi) ?_<;>(refine yD 21 81 rfl (Ya Zg) fun v81 h=>?_;cases h)<;>refine xD 22 82 rfl (Ek PI Sd) ?_<;>(refine Zp 23 kR ?_)<;>(refine Zm rfl fun w9 M9 N9 DQ back=>?_)<;>refine Zv [(.int .i64 0),(.int .i64 0)] 2 18 Sd fun h18=>?_<;>refine Zj (back _ (nrm ?_))<;>(refine Zp 24 kR ?_)<;>(refine Zm rfl fun w9 M9 N9 DQ back=>?_)<;>refine Zz 18 ZdN ?_<;>refine Zj (back _ (nrm ?_))<;>refine YC kR (nav ?_)<;>try dsimp only)
 (refine Zt ?_<;>refine xL 84 Zb ?_<;>(refine yL 85 (Zs (k:=2) (ps:=[pInt (y.1.1:Nat),pInt (y.1.2:Nat)]) 18 kR) fun v85 h=>?_;cases h)<;>refine xL 86 (Zjx (m:=YT Ki 0 o') (k:=Ki y) 306 tPi hko hkn hky hlk.1 hlk.2) ?_<;>refine xL 83 Zb (xL 87 Zi (xL 88 Zi (xL 19 Za (xL 20 Za ?_))))<;>refine Zk ?_)
 (refine xL 89 Zb (xL 90 Z' ?_)<;>refine Zc ?_)
 refine Pe (fun z:{z:Value×Value×Value×List PrS×Nat//z.1.oneCell'=true∧z.2.1.oneCell'=true∧z.2.2.1.oneCell'=true∧visit (YP A B).key (YP A B).cap o' ((YP A B).step i x s)=some (z.2.2.2.1,z.2.2.2.2)}=>⟨[(2, .int .i64 op,pInt op),(3,padd (sbase h3) 0, .val (padd (sbase h3) 0)),(4,padd (sbase h4) 0, .val (padd (sbase h4) 0)),(6,padd (sbase h6) 0, .val (padd (sbase h6) 0)),(7, .bool false,ZN false),(8,v22,pGr A),(9,v24,pGr B),(10,padd (sbase h10) 0, .val (padd (sbase h10) 0)),(11,z.1.2.2.1, .val z.1.2.2.1),(12,h33, .val h33),(13, .int .i64 i,pInt i),(14, .int .i64 x.1.1,pInt x.1.1),(15, .int .i64 x.1.2,pInt x.1.2),(16,h54, .val h54),(17, .int .i64 s,pInt s),(19, .int .i64 z.1.2.2.2.2,pInt z.1.2.2.2.2),(56, .int .i64 A.syms.toNat,pInt A.syms.toNat),(57, .int .i64 s,pInt s)],[(3,h3, .own 39 5 1 [pInt A.n,pInt A.syms,pInts A.start,pInts A.fin,pMvs A.moves]),(4,h4, .own 39 5 1 [pInt B.n,pInt B.syms,pInts B.start,pInts B.fin,pMvs B.moves]),(6,h6, .own 149 5 1 [pInt 0, .val (.slice none 0 0), .val (.slice none 0 0), .val (.slice none 0 0), .val (.slice none 0 0)]),(10,h10, .own 149 5 1 [pInt A.syms, .val r1, .val r2, .val z.1.1, .val z.1.2.1]),(301,r1, .own 36 1 rows.length (rows.map Wn)),(302,r2, .own 4 1 ((o.take i).map (Y7 A B op)).length (((o.take i).map (Y7 A B op)).map ZN)),(303,z.1.1, .own 3 1 (KQ z.1.2.2.2.1).length ((KQ z.1.2.2.2.1).map pInt)),(304,z.1.2.1, .own 3 1 (G9 z.1.2.2.2.1).length ((G9 z.1.2.2.2.1).map pInt)),(305,z.1.2.2.1, .own 263 2 z.1.2.2.2.1.length (z.1.2.2.2.1.flatMap cPr)),(306,h33, .omap (RY (YT Ki 0 z.1.2.2.2.1))),(54,h54, .own 3 1 A.syms.toNat (vec A.syms.toNat fun j=>pInt (Sk r j)))]⟩) ?_ ?_
 · refine cX ?_ ?_<;>intro hb90
   · first | exact bN hb90|(
 (have hnew:¬posK Ki o' (Ki y)<o'.length:=by simpa using hb90);have hnew2:¬posK (YP A B).key o' ((YP A B).key ((YP A B).step i x s))<o'.length:=by
  rw [←hy];show ¬posK Prod.fst o' y.1<o'.length;rw [←hid];exact hnew
 (have hno:GC (YT Ki 0 o') (Ki y)=none:=by rw [Tt,UT hnew]);refine Ze ?_;(refine xL 91 Zb (xL 92 (YH 305 Sc) (xL 19 Za ?_))<;>refine Zk ?_)
 (refine xL 93 Zb (xL 94 Ww ?_)<;>refine Zc ?_)
 refine cX ?_ ?_<;>intro hb94
 · first|exact bN hb94|(
 refine Ze ?_;((refine yL 95 (Zs (k:=5) (ps:=[pInt A.syms,PV.val r1,PV.val r2,PV.val r3',PV.val r4']) 10 kR) fun v95 h=>?_;cases h)<;>refine Zz 6 Y0 ?_<;>refine xL 7 Za ?_<;>refine Zc ?_)
 refine Z8 (k:=5) 6 kR (results169) rfl rfl rfl (Xa rfl) dC rfl (.inr ⟨?_,_,_,_,_,_,rfl,hr1,hr2,hr3',hr4',rfl⟩);have hv:=SG hnew2 (show (YP A B).cap≤o'.length by show 2000≤o'.length;omega);have h1:=Srch.row_fails (Srch.row_out hW hv) (show s+1≤(YP A B).m by show s+1≤A.syms.toNat;omega);exact Srch.all_none (Srch.upto_out hU hx h1) (show i+1≤(YP A B).cap by show i+1≤2000;omega))
 · first |exact bN hb94|(
 refine Ze ?_;(refine xL 96 Zb ?_<;>(refine yL 97 (Zs (k:=2) (ps:=[pInt (y.1.1:Nat),pInt (y.1.2:Nat)]) 18 kR) fun v97 h=>?_;cases h)<;>refine xL 98 Zb ?_<;>(refine Zgn (m:=YT Ki 0 o') (k:=Ki y) 306 tPi hko hkn hky hno ?_;rw [show YT Ki 0 o'++[(Ki y,Value.int .i64 ((o'.length:Nat):Int))]=YT Ki 0 (o'++[y]) by rw [Zan,Xw]])<;>refine Zc ?_)
 (refine ZZ (fun i=>([16,17,18]:List Nat).elem i) [10,18] kR ?_<;>refine xDT 0 99 rfl Zb ?_<;>(refine yDT 1 100 rfl (Zs (k:=2) (ps:=[pInt (y.1.1:Nat),pInt (y.1.2:Nat)]) 18 kR) fun v100 h=>?_;cases h)<;>refine xDT 4 103 rfl (Zd 10 Yy) ?_<;>(refine yDT 5 104 rfl (Zl 10 Zy) fun v104 h=>?_;cases h)<;>refine xDT 6 105 rfl Zb ?_<;>refine xDT 9 108 rfl (Zd 10 Sb) ?_<;>(refine yDT 10 109 rfl (Zl 10 Zy) fun v109 h=>?_;cases h)<;>refine xDT 11 110 rfl Zb ?_<;>(refine GD 2 7 12 kR ?_ ?_ ?_;rotate_right;(focus ((refine Zm rfl fun w9 M9 N9 DQ back=>?_)<;>refine ZM (kk:=1) 111 Zo fun h111 ho111=>?_<;>refine Zj (back _ (nrm ?_))<;>(refine YY 2 7 kR ?_ ?_;rotate_right;(focus ((refine Zm rfl fun w9 M9 N9 DQ back=>?_)<;>refine ZM (kk:=1) 106 Zo fun h106 ho106=>?_<;>refine Zj (back _ (nrm ?_))<;>(refine Zp 2 kR ?_)<;>(refine Zm rfl fun w9 M9 N9 DQ back=>?_)<;>refine YI 101 Y1 fun h101 ho101=>?_<;>refine Zj (back _ (nrm ?_))<;>(refine Zp 3 kR ?_)<;>(refine Zm rfl fun w9 M9 N9 DQ back=>?_)<;>refine ZY 305 101 102 Y1 fun h102 ho102=>?_<;>refine Zj (back _ (nrm ?_))<;>(refine Zp 8 kR ?_)<;>(refine Zm rfl fun w9 M9 N9 DQ back=>?_)<;>(refine ZY 303 106 107 Zo fun h107 ho107=>?_;have q107:En.one (PV.val h107)=true:=ho107)<;>refine Zj (back _ (nrm ?_))<;>(refine Zp 13 kR ?_)<;>(refine Zm rfl fun w9 M9 N9 DQ back=>?_)<;>(refine ZY 304 111 112 Zo fun h112 ho112=>?_;have q112:En.one (PV.val h112)=true:=ho112)<;>refine Zj (back _ (nrm ?_))<;>refine xE 14 11 rfl Za ?_<;>refine xE 15 113 rfl (Zd 10 Yy) ?_));rotate_right;(focus ((refine Zm rfl fun w9 M9 N9 DQ back=>?_)<;>refine YI 101 Y1 fun h101 ho101=>?_<;>refine Zj (back _ (nrm ?_))<;>(refine YY 3 7 kR ?_ ?_;rotate_right;(focus ((refine Zm rfl fun w9 M9 N9 DQ back=>?_)<;>refine ZM (kk:=1) 106 Zo fun h106 ho106=>?_<;>refine Zj (back _ (nrm ?_))<;>(refine Zp 3 kR ?_)<;>(refine Zm rfl fun w9 M9 N9 DQ back=>?_)<;>refine ZY 305 101 102 Y1 fun h102 ho102=>?_<;>refine Zj (back _ (nrm ?_))<;>(refine Zp 8 kR ?_)<;>(refine Zm rfl fun w9 M9 N9 DQ back=>?_)<;>(refine ZY 303 106 107 Zo fun h107 ho107=>?_;have q107:En.one (PV.val h107)=true:=ho107)<;>refine Zj (back _ (nrm ?_))<;>(refine Zp 13 kR ?_)<;>(refine Zm rfl fun w9 M9 N9 DQ back=>?_)<;>(refine ZY 304 111 112 Zo fun h112 ho112=>?_;have q112:En.one (PV.val h112)=true:=ho112)<;>refine Zj (back _ (nrm ?_))<;>refine xE 14 11 rfl Za ?_<;>refine xE 15 113 rfl (Zd 10 Yy) ?_));rotate_right;(focus ((refine Zm rfl fun w9 M9 N9 DQ back=>?_)<;>refine ZY 305 101 102 Y1 fun h102 ho102=>?_<;>refine Zj (back _ (nrm ?_))<;>(refine Zp 7 kR ?_)<;>(refine Zm rfl fun w9 M9 N9 DQ back=>?_)<;>refine ZM (kk:=1) 106 Zo fun h106 ho106=>?_<;>refine Zj (back _ (nrm ?_))<;>(refine Zp 8 kR ?_)<;>(refine Zm rfl fun w9 M9 N9 DQ back=>?_)<;>(refine ZY 303 106 107 Zo fun h107 ho107=>?_;have q107:En.one (PV.val h107)=true:=ho107)<;>refine Zj (back _ (nrm ?_))<;>(refine Zp 13 kR ?_)<;>(refine Zm rfl fun w9 M9 N9 DQ back=>?_)<;>(refine ZY 304 111 112 Zo fun h112 ho112=>?_;have q112:En.one (PV.val h112)=true:=ho112)<;>refine Zj (back _ (nrm ?_))<;>refine xE 14 11 rfl Za ?_<;>refine xE 15 113 rfl (Zd 10 Yy) ?_))))))));rotate_right;(focus ((refine Zm rfl fun w9 M9 N9 DQ back=>?_)<;>refine ZM (kk:=1) 106 Zo fun h106 ho106=>?_<;>refine Zj (back _ (nrm ?_))<;>(refine YY 2 12 kR ?_ ?_;rotate_right;(focus ((refine Zm rfl fun w9 M9 N9 DQ back=>?_)<;>refine ZM (kk:=1) 111 Zo fun h111 ho111=>?_<;>refine Zj (back _ (nrm ?_))<;>(refine Zp 2 kR ?_)<;>(refine Zm rfl fun w9 M9 N9 DQ back=>?_)<;>refine YI 101 Y1 fun h101 ho101=>?_<;>refine Zj (back _ (nrm ?_))<;>(refine Zp 3 kR ?_)<;>(refine Zm rfl fun w9 M9 N9 DQ back=>?_)<;>refine ZY 305 101 102 Y1 fun h102 ho102=>?_<;>refine Zj (back _ (nrm ?_))<;>(refine Zp 8 kR ?_)<;>(refine Zm rfl fun w9 M9 N9 DQ back=>?_)<;>(refine ZY 303 106 107 Zo fun h107 ho107=>?_;have q107:En.one (PV.val h107)=true:=ho107)<;>refine Zj (back _ (nrm ?_))<;>(refine Zp 13 kR ?_)<;>(refine Zm rfl fun w9 M9 N9 DQ back=>?_)<;>(refine ZY 304 111 112 Zo fun h112 ho112=>?_;have q112:En.one (PV.val h112)=true:=ho112)<;>refine Zj (back _ (nrm ?_))<;>refine xE 14 11 rfl Za ?_<;>refine xE 15 113 rfl (Zd 10 Yy) ?_));rotate_right;(focus ((refine Zm rfl fun w9 M9 N9 DQ back=>?_)<;>refine YI 101 Y1 fun h101 ho101=>?_<;>refine Zj (back _ (nrm ?_))<;>(refine YY 3 12 kR ?_ ?_;rotate_right;(focus ((refine Zm rfl fun w9 M9 N9 DQ back=>?_)<;>refine ZM (kk:=1) 111 Zo fun h111 ho111=>?_<;>refine Zj (back _ (nrm ?_))<;>(refine Zp 3 kR ?_)<;>(refine Zm rfl fun w9 M9 N9 DQ back=>?_)<;>refine ZY 305 101 102 Y1 fun h102 ho102=>?_<;>refine Zj (back _ (nrm ?_))<;>(refine Zp 8 kR ?_)<;>(refine Zm rfl fun w9 M9 N9 DQ back=>?_)<;>(refine ZY 303 106 107 Zo fun h107 ho107=>?_;have q107:En.one (PV.val h107)=true:=ho107)<;>refine Zj (back _ (nrm ?_))<;>(refine Zp 13 kR ?_)<;>(refine Zm rfl fun w9 M9 N9 DQ back=>?_)<;>(refine ZY 304 111 112 Zo fun h112 ho112=>?_;have q112:En.one (PV.val h112)=true:=ho112)<;>refine Zj (back _ (nrm ?_))<;>refine xE 14 11 rfl Za ?_<;>refine xE 15 113 rfl (Zd 10 Yy) ?_));rotate_right;(focus ((refine Zm rfl fun w9 M9 N9 DQ back=>?_)<;>refine ZY 305 101 102 Y1 fun h102 ho102=>?_<;>refine Zj (back _ (nrm ?_))<;>(refine YY 8 12 kR ?_ ?_;rotate_right;(focus ((refine Zm rfl fun w9 M9 N9 DQ back=>?_)<;>refine ZM (kk:=1) 111 Zo fun h111 ho111=>?_<;>refine Zj (back _ (nrm ?_))<;>(refine Zp 8 kR ?_)<;>(refine Zm rfl fun w9 M9 N9 DQ back=>?_)<;>(refine ZY 303 106 107 Zo fun h107 ho107=>?_;have q107:En.one (PV.val h107)=true:=ho107)<;>refine Zj (back _ (nrm ?_))<;>(refine Zp 13 kR ?_)<;>(refine Zm rfl fun w9 M9 N9 DQ back=>?_)<;>(refine ZY 304 111 112 Zo fun h112 ho112=>?_;have q112:En.one (PV.val h112)=true:=ho112)<;>refine Zj (back _ (nrm ?_))<;>refine xE 14 11 rfl Za ?_<;>refine xE 15 113 rfl (Zd 10 Yy) ?_));rotate_right;(focus ((refine Zm rfl fun w9 M9 N9 DQ back=>?_)<;>(refine ZY 303 106 107 Zo fun h107 ho107=>?_;have q107:En.one (PV.val h107)=true:=ho107)<;>refine Zj (back _ (nrm ?_))<;>(refine Zp 12 kR ?_)<;>(refine Zm rfl fun w9 M9 N9 DQ back=>?_)<;>refine ZM (kk:=1) 111 Zo fun h111 ho111=>?_<;>refine Zj (back _ (nrm ?_))<;>(refine Zp 13 kR ?_)<;>(refine Zm rfl fun w9 M9 N9 DQ back=>?_)<;>(refine ZY 304 111 112 Zo fun h112 ho112=>?_;have q112:En.one (PV.val h112)=true:=ho112)<;>refine Zj (back _ (nrm ?_))<;>refine xE 14 11 rfl Za ?_<;>refine xE 15 113 rfl (Zd 10 Yy) ?_)))))))))));rotate_right;(focus ((refine Zm rfl fun w9 M9 N9 DQ back=>?_)<;>refine YI 101 Y1 fun h101 ho101=>?_<;>refine Zj (back _ (nrm ?_))<;>(refine GD 3 7 12 kR ?_ ?_ ?_;rotate_right;(focus ((refine Zm rfl fun w9 M9 N9 DQ back=>?_)<;>refine ZM (kk:=1) 111 Zo fun h111 ho111=>?_<;>refine Zj (back _ (nrm ?_))<;>(refine YY 3 7 kR ?_ ?_;rotate_right;(focus ((refine Zm rfl fun w9 M9 N9 DQ back=>?_)<;>refine ZM (kk:=1) 106 Zo fun h106 ho106=>?_<;>refine Zj (back _ (nrm ?_))<;>(refine Zp 3 kR ?_)<;>(refine Zm rfl fun w9 M9 N9 DQ back=>?_)<;>refine ZY 305 101 102 Y1 fun h102 ho102=>?_<;>refine Zj (back _ (nrm ?_))<;>(refine Zp 8 kR ?_)<;>(refine Zm rfl fun w9 M9 N9 DQ back=>?_)<;>(refine ZY 303 106 107 Zo fun h107 ho107=>?_;have q107:En.one (PV.val h107)=true:=ho107)<;>refine Zj (back _ (nrm ?_))<;>(refine Zp 13 kR ?_)<;>(refine Zm rfl fun w9 M9 N9 DQ back=>?_)<;>(refine ZY 304 111 112 Zo fun h112 ho112=>?_;have q112:En.one (PV.val h112)=true:=ho112)<;>refine Zj (back _ (nrm ?_))<;>refine xE 14 11 rfl Za ?_<;>refine xE 15 113 rfl (Zd 10 Yy) ?_));rotate_right;(focus ((refine Zm rfl fun w9 M9 N9 DQ back=>?_)<;>refine ZY 305 101 102 Y1 fun h102 ho102=>?_<;>refine Zj (back _ (nrm ?_))<;>(refine Zp 7 kR ?_)<;>(refine Zm rfl fun w9 M9 N9 DQ back=>?_)<;>refine ZM (kk:=1) 106 Zo fun h106 ho106=>?_<;>refine Zj (back _ (nrm ?_))<;>(refine Zp 8 kR ?_)<;>(refine Zm rfl fun w9 M9 N9 DQ back=>?_)<;>(refine ZY 303 106 107 Zo fun h107 ho107=>?_;have q107:En.one (PV.val h107)=true:=ho107)<;>refine Zj (back _ (nrm ?_))<;>(refine Zp 13 kR ?_)<;>(refine Zm rfl fun w9 M9 N9 DQ back=>?_)<;>(refine ZY 304 111 112 Zo fun h112 ho112=>?_;have q112:En.one (PV.val h112)=true:=ho112)<;>refine Zj (back _ (nrm ?_))<;>refine xE 14 11 rfl Za ?_<;>refine xE 15 113 rfl (Zd 10 Yy) ?_)))));rotate_right;(focus ((refine Zm rfl fun w9 M9 N9 DQ back=>?_)<;>refine ZM (kk:=1) 106 Zo fun h106 ho106=>?_<;>refine Zj (back _ (nrm ?_))<;>(refine YY 3 12 kR ?_ ?_;rotate_right;(focus ((refine Zm rfl fun w9 M9 N9 DQ back=>?_)<;>refine ZM (kk:=1) 111 Zo fun h111 ho111=>?_<;>refine Zj (back _ (nrm ?_))<;>(refine Zp 3 kR ?_)<;>(refine Zm rfl fun w9 M9 N9 DQ back=>?_)<;>refine ZY 305 101 102 Y1 fun h102 ho102=>?_<;>refine Zj (back _ (nrm ?_))<;>(refine Zp 8 kR ?_)<;>(refine Zm rfl fun w9 M9 N9 DQ back=>?_)<;>(refine ZY 303 106 107 Zo fun h107 ho107=>?_;have q107:En.one (PV.val h107)=true:=ho107)<;>refine Zj (back _ (nrm ?_))<;>(refine Zp 13 kR ?_)<;>(refine Zm rfl fun w9 M9 N9 DQ back=>?_)<;>(refine ZY 304 111 112 Zo fun h112 ho112=>?_;have q112:En.one (PV.val h112)=true:=ho112)<;>refine Zj (back _ (nrm ?_))<;>refine xE 14 11 rfl Za ?_<;>refine xE 15 113 rfl (Zd 10 Yy) ?_));rotate_right;(focus ((refine Zm rfl fun w9 M9 N9 DQ back=>?_)<;>refine ZY 305 101 102 Y1 fun h102 ho102=>?_<;>refine Zj (back _ (nrm ?_))<;>(refine YY 8 12 kR ?_ ?_;rotate_right;(focus ((refine Zm rfl fun w9 M9 N9 DQ back=>?_)<;>refine ZM (kk:=1) 111 Zo fun h111 ho111=>?_<;>refine Zj (back _ (nrm ?_))<;>(refine Zp 8 kR ?_)<;>(refine Zm rfl fun w9 M9 N9 DQ back=>?_)<;>(refine ZY 303 106 107 Zo fun h107 ho107=>?_;have q107:En.one (PV.val h107)=true:=ho107)<;>refine Zj (back _ (nrm ?_))<;>(refine Zp 13 kR ?_)<;>(refine Zm rfl fun w9 M9 N9 DQ back=>?_)<;>(refine ZY 304 111 112 Zo fun h112 ho112=>?_;have q112:En.one (PV.val h112)=true:=ho112)<;>refine Zj (back _ (nrm ?_))<;>refine xE 14 11 rfl Za ?_<;>refine xE 15 113 rfl (Zd 10 Yy) ?_));rotate_right;(focus ((refine Zm rfl fun w9 M9 N9 DQ back=>?_)<;>(refine ZY 303 106 107 Zo fun h107 ho107=>?_;have q107:En.one (PV.val h107)=true:=ho107)<;>refine Zj (back _ (nrm ?_))<;>(refine Zp 12 kR ?_)<;>(refine Zm rfl fun w9 M9 N9 DQ back=>?_)<;>refine ZM (kk:=1) 111 Zo fun h111 ho111=>?_<;>refine Zj (back _ (nrm ?_))<;>(refine Zp 13 kR ?_)<;>(refine Zm rfl fun w9 M9 N9 DQ back=>?_)<;>(refine ZY 304 111 112 Zo fun h112 ho112=>?_;have q112:En.one (PV.val h112)=true:=ho112)<;>refine Zj (back _ (nrm ?_))<;>refine xE 14 11 rfl Za ?_<;>refine xE 15 113 rfl (Zd 10 Yy) ?_))))))));rotate_right;(focus ((refine Zm rfl fun w9 M9 N9 DQ back=>?_)<;>refine ZY 305 101 102 Y1 fun h102 ho102=>?_<;>refine Zj (back _ (nrm ?_))<;>(refine YY 7 12 kR ?_ ?_;rotate_right;(focus ((refine Zm rfl fun w9 M9 N9 DQ back=>?_)<;>refine ZM (kk:=1) 111 Zo fun h111 ho111=>?_<;>refine Zj (back _ (nrm ?_))<;>(refine Zp 7 kR ?_)<;>(refine Zm rfl fun w9 M9 N9 DQ back=>?_)<;>refine ZM (kk:=1) 106 Zo fun h106 ho106=>?_<;>refine Zj (back _ (nrm ?_))<;>(refine Zp 8 kR ?_)<;>(refine Zm rfl fun w9 M9 N9 DQ back=>?_)<;>(refine ZY 303 106 107 Zo fun h107 ho107=>?_;have q107:En.one (PV.val h107)=true:=ho107)<;>refine Zj (back _ (nrm ?_))<;>(refine Zp 13 kR ?_)<;>(refine Zm rfl fun w9 M9 N9 DQ back=>?_)<;>(refine ZY 304 111 112 Zo fun h112 ho112=>?_;have q112:En.one (PV.val h112)=true:=ho112)<;>refine Zj (back _ (nrm ?_))<;>refine xE 14 11 rfl Za ?_<;>refine xE 15 113 rfl (Zd 10 Yy) ?_));rotate_right;(focus ((refine Zm rfl fun w9 M9 N9 DQ back=>?_)<;>refine ZM (kk:=1) 106 Zo fun h106 ho106=>?_<;>refine Zj (back _ (nrm ?_))<;>(refine YY 8 12 kR ?_ ?_;rotate_right;(focus ((refine Zm rfl fun w9 M9 N9 DQ back=>?_)<;>refine ZM (kk:=1) 111 Zo fun h111 ho111=>?_<;>refine Zj (back _ (nrm ?_))<;>(refine Zp 8 kR ?_)<;>(refine Zm rfl fun w9 M9 N9 DQ back=>?_)<;>(refine ZY 303 106 107 Zo fun h107 ho107=>?_;have q107:En.one (PV.val h107)=true:=ho107)<;>refine Zj (back _ (nrm ?_))<;>(refine Zp 13 kR ?_)<;>(refine Zm rfl fun w9 M9 N9 DQ back=>?_)<;>(refine ZY 304 111 112 Zo fun h112 ho112=>?_;have q112:En.one (PV.val h112)=true:=ho112)<;>refine Zj (back _ (nrm ?_))<;>refine xE 14 11 rfl Za ?_<;>refine xE 15 113 rfl (Zd 10 Yy) ?_));rotate_right;(focus ((refine Zm rfl fun w9 M9 N9 DQ back=>?_)<;>(refine ZY 303 106 107 Zo fun h107 ho107=>?_;have q107:En.one (PV.val h107)=true:=ho107)<;>refine Zj (back _ (nrm ?_))<;>(refine Zp 12 kR ?_)<;>(refine Zm rfl fun w9 M9 N9 DQ back=>?_)<;>refine ZM (kk:=1) 111 Zo fun h111 ho111=>?_<;>refine Zj (back _ (nrm ?_))<;>(refine Zp 13 kR ?_)<;>(refine Zm rfl fun w9 M9 N9 DQ back=>?_)<;>(refine ZY 304 111 112 Zo fun h112 ho112=>?_;have q112:En.one (PV.val h112)=true:=ho112)<;>refine Zj (back _ (nrm ?_))<;>refine xE 14 11 rfl Za ?_<;>refine xE 15 113 rfl (Zd 10 Yy) ?_))))))))))))<;>(refine Zp 16 kR ?_)<;>(refine Oa rfl rfl fun DQ back=>?_)<;>refine YQ 10 Zy Wo ?_<;>refine Zj (back _ ?_)<;>(refine G5 17 kR rfl rfl fun DQ back=>?_)<;>refine xL 114 (Zd 10 Sb) ?_<;>refine Zj (back _ ?_)<;>(refine G5 18 kR rfl rfl fun DQ back=>?_)<;>refine YQ 10 Zy Wo ?_<;>refine Zj (back _ ?_)<;>refine HQ kR (nav ?_)<;>try dsimp only)<;>(
 first
  | (refine Kn (ZD (l:=102) 305 rfl rfl) fun _=>?_
     refine Kn (ZF (l:=305) rfl (ZgQ _ o' y)) fun _=>?_;refine Kn (ZD (l:=107) 303 rfl rfl) fun _=>?_;refine Kn (ZF (l:=303) (p':= .own 3 1 (KQ (o'++[y])).length ((KQ (o'++[y])).map pInt)) rfl ((K5 _ (KQ o') i).trans (by rw [Zao,hy2]))) fun _=>?_;refine Kn (ZD (l:=112) 304 rfl rfl) fun _=>?_;refine Kn (ZF (l:=304) (p':= .own 3 1 (G9 (o'++[y])).length ((G9 (o'++[y])).map pInt)) rfl ((K5 _ (G9 o') s).trans (by rw [ZdP,hy2]))) fun _=>?_;exact WJ ⟨(h107,h112,h102,o'++[y],o'.length),ho107,ho112,ho102,by dsimp only;rw [hy];exact Wc hnew2 (show o'.length<2000 by omega)⟩ ⟨rfl,rfl,rfl,rfl,rfl,rfl,rfl,rfl,rfl,rfl,rfl,rfl,rfl,rfl,rfl,rfl,rfl,rfl,trivial⟩ ⟨rfl,rfl,rfl,rfl,rfl,rfl,rfl,rfl,rfl,rfl,rfl,trivial⟩)
  |exact WJ ⟨(r3',r4',r5',o',posK Ki o' (Ki y)),hr3',hr4',hr5',by dsimp only;rw [hid,hy];exact Wb hold2⟩ ⟨rfl,rfl,rfl,rfl,rfl,rfl,rfl,rfl,rfl,rfl,rfl,rfl,rfl,rfl,rfl,rfl,rfl,rfl,trivial⟩ ⟨rfl,rfl,rfl,rfl,rfl,rfl,rfl,rfl,rfl,rfl,rfl,trivial⟩)))
   · first |exact bN hb90|(
 (have hold:posK Ki o' (Ki y)<o'.length:=by simpa using hb90);have hold2:posK (YP A B).key o' ((YP A B).key ((YP A B).step i x s))<o'.length:=by
  rw [←hy];show posK Prod.fst o' y.1<o'.length;rw [←hid];exact hold
 rw [UU hold];refine nav ?_
 first
  | (refine Kn (ZD (l:=102) 305 rfl rfl) fun _=>?_
     refine Kn (ZF (l:=305) rfl (ZgQ _ o' y)) fun _=>?_;refine Kn (ZD (l:=107) 303 rfl rfl) fun _=>?_;refine Kn (ZF (l:=303) (p':= .own 3 1 (KQ (o'++[y])).length ((KQ (o'++[y])).map pInt)) rfl ((K5 _ (KQ o') i).trans (by rw [Zao,hy2]))) fun _=>?_;refine Kn (ZD (l:=112) 304 rfl rfl) fun _=>?_;refine Kn (ZF (l:=304) (p':= .own 3 1 (G9 (o'++[y])).length ((G9 (o'++[y])).map pInt)) rfl ((K5 _ (G9 o') s).trans (by rw [ZdP,hy2]))) fun _=>?_;exact WJ ⟨(h107,h112,h102,o'++[y],o'.length),ho107,ho112,ho102,by dsimp only;rw [hy];exact Wc hnew2 (show o'.length<2000 by omega)⟩ ⟨rfl,rfl,rfl,rfl,rfl,rfl,rfl,rfl,rfl,rfl,rfl,rfl,rfl,rfl,rfl,rfl,rfl,rfl,trivial⟩ ⟨rfl,rfl,rfl,rfl,rfl,rfl,rfl,rfl,rfl,rfl,rfl,trivial⟩)
  |exact WJ ⟨(r3',r4',r5',o',posK Ki o' (Ki y)),hr3',hr4',hr5',by dsimp only;rw [hid,hy];exact Wb hold2⟩ ⟨rfl,rfl,rfl,rfl,rfl,rfl,rfl,rfl,rfl,rfl,rfl,rfl,rfl,rfl,rfl,rfl,rfl,rfl,trivial⟩ ⟨rfl,rfl,rfl,rfl,rfl,rfl,rfl,rfl,rfl,rfl,rfl,trivial⟩)
 · rintro ⟨⟨g3,g4,g5,o2,n2⟩,w3,w4,w5,hvis⟩;dsimp only at w3 w4 w5 hvis ⊢;refine Ze ?_;(refine xL 115 Zb (xL 116 Zb (xL 117 Zb (xL 118 (Yg 54 Zr) ?_)))<;>refine YQ 54 Zg Wx ?_<;>refine Zk ?_)
   (refine xL 119 ZK (xL 57 Zb ?_)<;>refine Zc ?_)
   rw [show s*1=r.length*1 by omega,Db _ oM];refine Zn (
    ⟨(s+1,g3,g4,g5,o2,r++[n2]),Srch.row_snoc hW hvis,(by dsimp only;omega),w3,w4,w5⟩
    ) (by dsimp only;omega) ⟨rfl,rfl,rfl,rfl,rfl,rfl,rfl,rfl,rfl,rfl,rfl,rfl,rfl,rfl,rfl,rfl,trivial⟩ ⟨rfl,rfl,rfl,rfl,rfl,rfl,rfl,rfl,rfl,rfl,rfl,trivial⟩)
 · first|exact bN hb58|(
 have hse:s=A.syms.toNat:=oM;subst hse;have hU2:=Srch.upto_snoc hU hx hW;have htk:o'.take (i+1)=(o.take i)++[x]:=by
  rw [ZR hx'];obtain ⟨e,rfl⟩:=hpr;rw [V4 hi]
 (have f1:((List.range A.n.toNat).map fun s=>ZN (JS A (s:Nat)))[x.1.1*1]? =some (ZN (JS A (x.1.1:Nat))):=by rw [Xp,Lq hx1]);(have f2:((List.range B.n.toNat).map fun s=>ZN (JS B (s:Nat)))[x.1.2*1]? =some (ZN (JS B (x.1.2:Nat))):=by rw [Xp,Lq hx2]);refine nav ?_;refine Zq (En.freeze (l:=54) (t:=16) rfl rfl) fun _=>?_;rw [ζY _ _ _ hrl];(refine ZZ (fun i=>([29,30,31,32]:List Nat).elem i) [10] kR ?_<;>refine xDT 0 120 rfl (Zd 10 J7) ?_<;>refine xDT 1 121 rfl (Zd 10 Kf) ?_<;>(refine yDT 2 122 rfl (Zl 10 Yj) fun v122 h=>?_;cases h)<;>refine xDT 3 123 rfl Zb ?_<;>refine xDT 6 126 rfl (Zd 10 J7) ?_<;>refine xDT 7 127 rfl (Zd 10 Ky) ?_<;>(refine yDT 8 128 rfl (Zl 10 Ym) fun v128 h=>?_;cases h)<;>refine xDT 9 129 rfl Zb ?_<;>refine xDT 10 130 rfl Zb ?_<;>refine xDT 11 131 rfl Pi ?_<;>refine xDT 12 132 rfl (Jk G6) ?_<;>(refine yDT 13 133 rfl (Ya Ym) fun v133 h=>?_;cases h)<;>refine xDT 14 134 rfl Zb ?_<;>refine xDT 15 135 rfl (ZH Yo) ?_<;>(refine yDT 16 136 rfl (Ya Wa) fun v136 h=>?_;cases h)<;>refine xDT 17 137 rfl Zb ?_<;>refine xDT 18 138 rfl Pi ?_<;>refine xDT 19 139 rfl (Jk G6) ?_<;>(refine yDT 20 140 rfl (Ya Ym) fun v140 h=>?_;cases h)<;>refine xDT 21 141 rfl Zb ?_<;>refine xDT 22 142 rfl (ZH Yo) ?_<;>(refine yDT 23 143 rfl (Ya Wa) fun v143 h=>?_;cases h)<;>(refine Zp 4 kR ?_)<;>(refine Zm rfl fun w9 M9 N9 DQ back=>?_)<;>refine ZM (kk:=1) 124 Yw fun h124 ho124=>?_<;>refine Zj (back _ (nrm ?_))<;>(refine Zp 5 kR ?_)<;>(refine Zm rfl fun w9 M9 N9 DQ back=>?_)<;>(refine ZY 301 124 125 Yw fun h125 ho125=>?_;have q125:En.one (PV.val h125)=true:=ho125)<;>refine Zj (back _ (nrm ?_))<;>refine xDT 27 147 rfl (Zd 10 J7) ?_<;>refine xDT 28 148 rfl (Zd 10 Kf) ?_<;>(refine Zp 24 kR ?_)<;>(refine YA (d:=144) rfl (cA call213 (ZfP op (JS A (x.1.1:Nat)) (JS B (x.1.2:Nat)))) fun v144 h=>?_;cases h)<;>(refine Zp 25 kR ?_)<;>(refine Zm rfl fun w9 M9 N9 DQ back=>?_)<;>refine ZM (kk:=1) 145 YZ fun h145 ho145=>?_<;>refine Zj (back _ (nrm ?_))<;>(refine Zp 26 kR ?_)<;>(refine Zm rfl fun w9 M9 N9 DQ back=>?_)<;>(refine ZY 302 145 146 YZ fun h146 ho146=>?_;have q146:En.one (PV.val h146)=true:=ho146)<;>refine Zj (back _ (nrm ?_))<;>(refine Zp 29 kR ?_)<;>(refine Oa rfl rfl fun DQ back=>?_)<;>refine YQ 10 Yj Gk ?_<;>refine Zj (back _ ?_)<;>(refine G5 30 kR rfl rfl fun DQ back=>?_)<;>refine xL 149 (Zd 10 J7) ?_<;>refine Zj (back _ ?_)<;>(refine G5 31 kR rfl rfl fun DQ back=>?_)<;>refine xL 150 (Zd 10 Ky) ?_<;>refine Zj (back _ ?_)<;>(refine G5 32 kR rfl rfl fun DQ back=>?_)<;>refine YQ 10 Ym Gl ?_<;>refine Zj (back _ ?_)<;>refine HQ kR (nav ?_)<;>try dsimp only)
 refine Zq (ZD (l:=125) 301 rfl rfl) fun _=>?_;refine Zq (ZD (l:=146) 302 rfl rfl) fun _=>?_;refine Zq (ZF (l:=301) rfl (Lf _ rows r)) fun _=>?_;refine Zq (ZF (l:=302) rfl (Gm _ ((o.take i).map (Y7 A B op)) (Y7 A B op x))) fun _=>?_;rw [show ((o.take i).map (Y7 A B op))++[Y7 A B op x]=(o'.take (i+1)).map (Y7 A B op) by rw [htk,Xs];rfl];(refine Zt ?_<;>refine xL 40 Zb (xL 41 ZK (xL 13 Za ?_))<;>refine Zc ?_)
 refine Zn (
  ⟨(i+1,h125,h146,r3',r4',r5',o',rows++[r]),hU2,(by dsimp only;omega),ho125,ho146,hr3',hr4',hr5'⟩
  ) (by dsimp only;omega) ⟨rfl,rfl,rfl,rfl,rfl,rfl,rfl,rfl,rfl,rfl,rfl,trivial⟩ ⟨rfl,rfl,rfl,rfl,rfl,rfl,rfl,rfl,rfl,rfl,trivial⟩))
 · first|exact bN hb39|(
 have hio:i=o.length:=oM;subst hio;refine nav ?_;refine Zq (Z7 (l:=10) (l':=301) (j:=1) rfl rfl rfl rfl) fun _=>?_;refine Zq (Z7 (l:=10) (l':=302) (j:=2) rfl rfl rfl rfl) fun _=>?_;refine Zq (Z7 (l:=10) (l':=303) (j:=3) rfl rfl rfl rfl) fun _=>?_;refine Zq (Z7 (l:=10) (l':=304) (j:=4) rfl rfl rfl rfl) fun _=>?_;rw [JN _ _ _ rfl,Kz _ _ _ rfl,ZV _ _ _ rfl,ZV _ _ _ rfl];(refine Zt ?_<;>(refine yL 151 (Zs 10 Y0) fun v151 h=>?_;cases h)<;>refine Zz 6 Y0 ?_<;>refine xL 7 Za ?_<;>refine Zc ?_)
 refine Z8 (k:=5) 6 kR (results169) rfl rfl rfl (Xa rfl) dC rfl (.inl ⟨(o,rows),Srch.all_some hU (Xh _) (show o.length≤(YP A B).cap from hcap),?_⟩);unfold Rb;dsimp only;rw [VI,hsN];rfl)
theorem ZbH (l:List Bool):AF prog 170 [.sl l.length (l.map ZN),ZN true] (· =pInt (idx (fun x=>x==true) l)):=by
 refine AF.of_body 19 func170 rfl ntmps170 (Xa rfl) ?_
 intro w0 M0 vs hl hv
 obtain ⟨v0,v1,rfl⟩:=YX hl
 obtain rfl:=hv 1 _ _ rfl rfl
 clear hl hv
 refine Wm 0 rfl fun hlen=>?_
 refine Ze ?_
 (refine xL 4 Za ?_<;>refine Zk ?_)
 (refine xL 6 Zb (xL 7 (ZW Yo) (xL 8 Zb ?_))<;>refine Zc ?_)
 refine ZE (ι:={k:Nat//k≤l.length∧∀i y,i<k→l[i]? =some y→(y==true)=false}) (fun k=>⟨[(0,_,_),(1,_,_),(7,_,_),(8, .int .i64 k.1,pInt k.1)],[]⟩) (fun k=>l.length-k.1) ⟨0,oM,oM⟩ (fun a w H=>H.weaken ⟨rfl,rfl,rfl,rfl,trivial⟩ trivial) ?_
 rintro ⟨k,hk,hp⟩
 dsimp only
 refine Ze ?_
 (refine xL 9 ZQ ?_<;>refine Zc ?_)
 refine cX ?_ ?_<;>intro hb9
 · first |exact bN hb9|(
 obtain ⟨x,hx⟩:=Zw (show k<l.length by omega);have e1:=Yb (f:=ZN) hx;refine Ze ?_;(refine xL 10 Zb (xL 5 Za ?_)<;>refine Zk ?_)
 (refine xL 11 Zb (xL 12 Zb (xL 13 Zb (xL 14 (ZH Yo) ?_)))<;>(refine yL 15 (Ya Wa) fun v15 h=>?_;cases h)<;>refine xL 16 (Zi5 underlying4) ?_<;>refine Zc ?_)
 refine cX ?_ ?_<;>intro hb16
 · first|exact bN hb16|(
 (have hx1:(x==true)=true:=by cases x<;>simp_all);refine Ze ?_;(refine xL 17 Zb (xL 4 Za ?_)<;>refine Zc ?_)
 refine ZA (results170) rfl ?_;rw [Lh hp hx hx1])
 · first|exact bN hb16|(
 (have hx1:(x==true)=false:=by cases x<;>simp_all);refine Ze ?_;(refine xL 18 ZK (xL 8 Zb ?_)<;>refine Zc ?_)
 refine Zn (
  ⟨k+1,oM,fun i y hi hy=>by
   by_cases e:i=k
   · subst e;rw [hx] at hy;cases hy;exact hx1
   · exact hp i y oM hy⟩
  ) (by dsimp only;omega) ⟨rfl,rfl,rfl,rfl,trivial⟩ trivial))
 · first|exact bN hb9|(
 refine Ze ?_;(refine xL 4 Za ?_<;>refine Zc ?_)
 refine ZA (results170) rfl ?_;rw [Li fun i y hi hy=>hp i y oM hy])
theorem ZpL:Zpl prog 171:=fun blk cap zs w hH _ hsz=>(Tryz.slices_Reverse_int blk 0 cap zs w hH oM).mono fun e w' ⟨h1,n,h2⟩=>⟨h1,n,#[],by rw [h2];simp [Go.Sort.grow];rfl⟩
theorem Zpw:Eo prog 171:=fun p cap w=>Tryz.slices_Reverse_int_empty p cap w
theorem ZgR {A B:Aut} {op:Int} {q:List PrS×List (List Nat)} (h:idx (fun x=>x==true) (q.1.map (Y7 A B op))= -1):GW A B op q=(true,[]):=by
 rw [Zpu] at h
 unfold GW
 cases h1:(q.1.map (Y7 A B op)).idxOf? true with
 |none=>rfl
 | some i=>
   rw [h1] at h;have h':((i:Nat):Int)= -1:=h;omega
theorem ZdQ {A B:Aut} {op:Int} {q:List PrS×List (List Nat)} {i:Nat} (h:idx (fun x=>x==true) (q.1.map (Y7 A B op))=(i:Int)):GW A B op q=(false,R3 (q.1.map (·.2)) i):=by
 rw [Zpu] at h
 unfold GW
 cases h1:(q.1.map (Y7 A B op)).idxOf? true with
 | none=>
   rw [h1] at h;have h':(-1:Int)=((i:Nat):Int):=h;omega
 | some j=>
   rw [h1] at h;dsimp only at h ⊢;rw [show j=i by omega];rfl
theorem Zin {A B:Aut} {op:Int} (o:List PrS) {v:Int} (h:idx (fun x=>x==true) (o.map (Y7 A B op))=v):v= -1∨∃i:Nat,v=(i:Int)∧i<o.length:=by
 rcases Za3 (p:=fun x=>x==true) (l:=o.map (Y7 A B op)) with ⟨h1,_⟩|⟨i,x,h1,h2,_⟩
 · exact .inl (by rw [←h,h1])
 · exact .inr ⟨i,by rw [←h,h1],by have:=Zh h2;rwa [Xe] at this⟩
theorem ZkZ (A B:Aut) (op:Int) (o:List PrS) (rows:List (List Nat)) (hu:(YP A B).upto ((0,0),(-1,-1)) 2000=some (o,rows)) (h0:o[0]? =some ((0,0),(-1,-1))) (hcap:o.length≤2000):AF prog 122 [Rb A B op (o,rows)] (· = .tup [pInts (GW A B op (o,rows)).2,ZN (!(GW A B op (o,rows)).1)]):=by
 obtain ⟨v,hv⟩:∃v,idx (fun x=>x==true) (o.map (Y7 A B op))=v:=⟨_,rfl⟩
 have hix:=ZbH (o.map (Y7 A B op))
 rw [hv] at hix
 have hvc:=Zin o hv
 have hbk:=Dg hu h0
 refine AF.of_body 34 func122 rfl ntmps122 (Xa rfl) ?_
 intro w0 M0 vs hl hv
 obtain ⟨v0,rfl⟩:=WE hl
 clear hl hv
 refine Ze ?_
 (refine ZB 1 5 fun h1=>?_<;>refine xL 2 Za (xL 3 Za ?_)<;>refine Zk ?_)
 (refine xL 6 (Zd 1 J7) (xL 7 (Zd 1 Ky) ?_)<;>(refine yL 8 (Zl 1 Ym) fun v8 h=>?_;cases h)<;>(refine cS 9 (cA call170 (hix)) fun v9 h=>?_;cases h)<;>refine xL 4 Za ?_<;>refine Zk ?_)
 (refine xL 10 Zb (xL 11 ZQ ?_)<;>refine Zc ?_)
 refine cX ?_ ?_<;>intro hb11
 · first|exact bN hb11|(
 have hv1:v= -1:=oM;subst hv1;have hcr:=ZgR (q:=(o,rows)) hv;refine Ze ?_;(refine xL 2 Za (xL 3 Za ?_)<;>refine Zc ?_)
 refine YG (Y' (t:=2) rfl) fun _=>?_;refine KH (results122) rfl rfl ?_;rw [hcr];rfl)
 · first |exact bN hb11|(
 obtain ⟨i0,rfl,hi0⟩:∃i:Nat,v=(i:Int)∧i<o.length:=by
  rcases hvc with h|h
  · omega
  · exact h
 have hcr:=ZdQ (q:=(o,rows)) hv;dsimp only at hcr;refine Ze ?_;(refine xL 5 Za ?_<;>refine Zc ?_)
 refine Zq (KT 200 3 1 rfl) fun _=>?_;refine ZE (ι:={k:Nat×List Int×Value//R3 (o.map (·.2)) i0=R3 (o.map (·.2)) k.1++k.2.1.reverse∧k.1<o.length∧k.2.1.length+k.1≤i0∧k.2.2.oneCell'=true}) (fun k=>⟨[(1,_,_),(2,_,_),(3,_,_),(4, .int .i64 k.1.1,pInt k.1.1),(5,k.1.2.2, .val k.1.2.2)],[(1,_,_),(200,k.1.2.2, .own 3 1 k.1.2.1.length (k.1.2.1.map pInt))]⟩) (fun k=>k.1.1) ⟨(i0,[], .slice none 0 0),sM,hi0,sM,rfl⟩ (fun a w H=>H.weaken ⟨rfl,rfl,rfl,rfl,rfl,trivial⟩ ⟨rfl,rfl,trivial⟩) ?_;rintro ⟨⟨cur,out,r⟩,hw,hc,hl,hr⟩;dsimp only;dsimp only at hw hc hl hr;obtain ⟨⟨pq,f,s⟩,hx⟩:=Zw hc;(have hpf:(KQ o).length=o.length:=by unfold KQ;rw [Xe]);(have hps:(G9 o).length=o.length:=by unfold G9;rw [Xe]);have e1:((KQ o).map pInt)[cur*1]? =some (pInt f):=Yb (by unfold KQ;rw [Xg,hx];rfl);have e2:((G9 o).map pInt)[cur*1]? =some (pInt s):=Yb (by unfold G9;rw [Xg,hx];rfl);(have e3:(o.map (·.2))[cur]? =some (f,s):=by rw [Xg,hx];rfl);have hfc:=hbk cur (f,s) e3;refine Ze ?_;(refine xL 12 (Zd 1 Yy) ?_<;>(refine yL 13 (Zl 1 Zy) fun v13 h=>?_;cases h)<;>refine xL 14 Zb (xL 15 (ZH Zr) ?_)<;>(refine yL 16 (Ya Zg) fun v16 h=>?_;cases h)<;>refine xL 17 Ww ?_<;>refine Zc ?_)
 refine cX ?_ ?_<;>intro hb17
 · first|exact bN hb17|(
 obtain ⟨j,rfl⟩:∃j:Nat,f=(j:Int):=⟨f.toNat,oM⟩;dsimp only at hfc;have hwn:=Zbx hbk e3 (by dsimp only;omega);dsimp only at hwn;rw [XS] at hwn;refine Ze ?_;(refine xL 23 Zb (xL 24 (Zd 1 Sb) ?_)<;>(refine yL 25 (Zl 1 Zy) fun v25 h=>?_;cases h)<;>refine xL 26 Zb (xL 27 (ZH Zr) ?_)<;>(refine yL 28 (Ya Zg) fun v28 h=>?_;cases h)<;>refine ZM (kk:=1) 29 Zo fun h29 ho29=>?_<;>refine ZY 200 29 30 Zo fun h30 ho30=>?_<;>refine xL 5 Za ?_<;>refine Zc ?_)
 refine Zq (ZD (l:=30) 200 rfl rfl) fun _=>?_;refine Zq (ZF (l:=200) rfl (K5 _ out s)) fun _=>?_;(refine Zt ?_<;>refine xL 18 (Zd 1 Yy) ?_<;>(refine yL 19 (Zl 1 Zy) fun v19 h=>?_;cases h)<;>refine xL 20 Zb (xL 21 (ZH Zr) ?_)<;>(refine yL 22 (Ya Zg) fun v22 h=>?_;cases h)<;>refine xL 4 Za ?_<;>refine Zc ?_)
 refine Zn (
  ⟨(j,out++[s],h30),by dsimp only;rw [hw,hwn,List.reverse_append];simp,by dsimp only;omega,by dsimp only;rw [Xb,Xy];omega,ho30⟩
  ) (by dsimp only;omega) ⟨rfl,rfl,rfl,rfl,rfl,trivial⟩ ⟨rfl,rfl,trivial⟩)
 · first|exact bN hb17|(
 have hwn:=Cl e3 (by dsimp only;omega);rw [hwn,XW] at hw;refine Ze ?_;(refine xL 31 Zb ?_<;>(rcases Vb out.length with h0'|h0'<;>first|(refine Zu (ZF (l:=200) (p':= .own 3 1 0 []) rfl (by rw [XR h0'];rfl)) fun _=>?_;refine Ep 200 Zpw (call171) ?_;refine Zu (ZF (l:=200) (p':= .own 3 1 out.length (out.reverse.map pInt)) rfl (by rw [XR h0'];rfl)) fun _=>?_)|(refine Zoh 200 ZpL (call171) ?_ h0'))<;>refine Zc ?_)<;>(
 refine Zq (En.freeze (l:=200) (t:=5) rfl rfl) fun _=>?_;rw [show share (PV.own 3 1 out.length (out.reverse.map pInt))=pInts out.reverse by rw [←List.length_reverse];exact ZV _ _ _ rfl];(refine Zt ?_<;>refine xL 33 Zb (xL 2 Za (xL 3 Za ?_))<;>refine Zc ?_)
 refine KH (results122) rfl rfl ?_;rw [hcr,hw];rfl)))
theorem ZbI {a b:Aut} (h:Z1 a=false):Wt a b=1:=by unfold Wt;rw [UU (.inl h)]
theorem ZbJ {a b:Aut} (h:Z1 b=false):Wt a b=1:=by unfold Wt;rw [UU (.inr h)]
theorem ZfR {a b:Aut} (h1:Z1 a=true) (h2:Z1 b=true) (h:¬a.syms=b.syms):Wt a b=29:=by unfold Wt;rw [UT (by rw [h1,h2];simp),UU h]
theorem ZfS {a b:Aut} (h1:Z1 a=true) (h2:Z1 b=true) (h:a.syms=b.syms):Wt a b=0:=by unfold Wt;rw [UT (by rw [h1,h2];simp),UT (fun e=>e h)]
theorem Rc {a b:Aut} (h:Wt a b=0):Z1 a=true∧Z1 b=true∧a.syms=b.syms:=by
 unfold Wt at h
 split at h
 · omega
 · rename_i h1;split at h
   · omega
   · rename_i h2;refine ⟨?_,?_,?_⟩
     · cases e:Z1 a with
       |true=>rfl
       |false=>exact UV (.inl e) h1
     · cases e:Z1 b with
       |true=>rfl
       |false=>exact UV (.inr e) h1
     · exact Decidable.not_not.1 h2
def pPZ:PV:= .agg [pInt 0, .val (.slice none 0 0), .val (.slice none 0 0), .val (.slice none 0 0), .val (.slice none 0 0)]
def ZoE (a b:Aut) (op:Int):PV:=match Jf a b with
 | .ok (A,B,q)=> .tup [Rb A B op q,pInt 0]
 | .error e=> .tup [pPZ,pInt e]
theorem Zm4 (a b:Aut) (ha:Z1 a=false) (hb:Z1 b=false) (hs:True):AF prog 120 [ZJ a,ZJ b] (· =pInt 1):=by
 have hva:=WH a
 have hvb:=WH b
 rw [ha] at hva
 rw [hb] at hvb
 refine AF.of_body 20 func120 rfl ntmps120 (Xa rfl) ?_
 intro w0 M0 vs hl hv
 obtain ⟨v0,v1,rfl⟩:=YX hl
 clear hl hv
 refine Ze ?_
 (refine ZB 2 5 fun h2=>?_<;>refine ZB 3 5 fun h3=>?_<;>refine xL 4 Za ?_<;>refine Zk ?_)
 ((refine yL 6 (Zs 2 Zf) fun v6 h=>?_;cases h)<;>(refine cS 7 (cA call107 (hva)) fun v7 h=>?_;cases h)<;>refine xL 8 Z' (xL 9 Zb ?_)<;>refine kL 10 ?_<;>refine kL 11 ?_<;>refine kL 12 ?_<;>refine xL 13 ZG (xL 5 Za ?_)<;>refine Zc ?_)<;>(
 refine cX ?_ ?_<;>intro hb5
 · first|exact bN hb5|(
 refine Ze ?_;(refine xL 4 Za ?_<;>refine Zc ?_)
 exact ZA (results120) rfl rfl)
 · first
   |exact bN hb5
   |skip)
theorem Zm5 (a b:Aut) (ha:Z1 a=false) (hb:Z1 b=true) (hs:True):AF prog 120 [ZJ a,ZJ b] (· =pInt 1):=by
 have hva:=WH a
 have hvb:=WH b
 rw [ha] at hva
 rw [hb] at hvb
 refine AF.of_body 20 func120 rfl ntmps120 (Xa rfl) ?_
 intro w0 M0 vs hl hv
 obtain ⟨v0,v1,rfl⟩:=YX hl
 clear hl hv
 refine Ze ?_
 (refine ZB 2 5 fun h2=>?_<;>refine ZB 3 5 fun h3=>?_<;>refine xL 4 Za ?_<;>refine Zk ?_)
 ((refine yL 6 (Zs 2 Zf) fun v6 h=>?_;cases h)<;>(refine cS 7 (cA call107 (hva)) fun v7 h=>?_;cases h)<;>refine xL 8 Z' (xL 9 Zb ?_)<;>refine kL 10 ?_<;>refine kL 11 ?_<;>refine kL 12 ?_<;>refine xL 13 ZG (xL 5 Za ?_)<;>refine Zc ?_)<;>(
 refine cX ?_ ?_<;>intro hb5
 · first|exact bN hb5|(
 refine Ze ?_;(refine xL 4 Za ?_<;>refine Zc ?_)
 exact ZA (results120) rfl rfl)
 · first
   |exact bN hb5
   |skip)
theorem Zm6 (a b:Aut) (ha:Z1 a=true) (hb:Z1 b=false) (hs:True):AF prog 120 [ZJ a,ZJ b] (· =pInt 1):=by
 have hva:=WH a
 have hvb:=WH b
 rw [ha] at hva
 rw [hb] at hvb
 refine AF.of_body 20 func120 rfl ntmps120 (Xa rfl) ?_
 intro w0 M0 vs hl hv
 obtain ⟨v0,v1,rfl⟩:=YX hl
 clear hl hv
 refine Ze ?_
 (refine ZB 2 5 fun h2=>?_<;>refine ZB 3 5 fun h3=>?_<;>refine xL 4 Za ?_<;>refine Zk ?_)
 ((refine yL 6 (Zs 2 Zf) fun v6 h=>?_;cases h)<;>(refine cS 7 (cA call107 (hva)) fun v7 h=>?_;cases h)<;>refine xL 8 Z' (xL 9 Zb ?_)<;>(refine yL 10 (Zs 3 Zf) fun v10 h=>?_;cases h)<;>(refine cS 11 (cA call107 (hvb)) fun v11 h=>?_;cases h)<;>refine xL 12 Z' (xL 13 ZG (xL 5 Za ?_))<;>refine Zc ?_)<;>(
 refine cX ?_ ?_<;>intro hb5
 · first|exact bN hb5|(
 refine Ze ?_;(refine xL 4 Za ?_<;>refine Zc ?_)
 exact ZA (results120) rfl rfl)
 · first
   |exact bN hb5
   |skip)
theorem Zm7 (a b:Aut) (ha:Z1 a=true) (hb:Z1 b=true) (hs:¬a.syms=b.syms):AF prog 120 [ZJ a,ZJ b] (· =pInt 29):=by
 have hva:=WH a
 have hvb:=WH b
 rw [ha] at hva
 rw [hb] at hvb
 refine AF.of_body 20 func120 rfl ntmps120 (Xa rfl) ?_
 intro w0 M0 vs hl hv
 obtain ⟨v0,v1,rfl⟩:=YX hl
 clear hl hv
 refine Ze ?_
 (refine ZB 2 5 fun h2=>?_<;>refine ZB 3 5 fun h3=>?_<;>refine xL 4 Za ?_<;>refine Zk ?_)
 ((refine yL 6 (Zs 2 Zf) fun v6 h=>?_;cases h)<;>(refine cS 7 (cA call107 (hva)) fun v7 h=>?_;cases h)<;>refine xL 8 Z' (xL 9 Zb ?_)<;>(refine yL 10 (Zs 3 Zf) fun v10 h=>?_;cases h)<;>(refine cS 11 (cA call107 (hvb)) fun v11 h=>?_;cases h)<;>refine xL 12 Z' (xL 13 ZG (xL 5 Za ?_))<;>refine Zc ?_)<;>(
 refine cX ?_ ?_<;>intro hb5
 · first|exact bN hb5|(
 refine Ze ?_;(refine xL 4 Za ?_<;>refine Zc ?_)
 exact ZA (results120) rfl rfl)
 · first|exact bN hb5|(
 refine Ze ?_;(refine xL 15 (Zd 2 ZT) ?_<;>(refine yL 16 (Zl 2 Zg) fun v16 h=>?_;cases h)<;>refine xL 17 (Zd 3 ZT) ?_<;>(refine yL 18 (Zl 3 Zg) fun v18 h=>?_;cases h)<;>refine xL 19 Yn (xL 14 Za ?_)<;>refine Zc ?_)
 refine cX ?_ ?_<;>intro hb14
 · first|exact bN hb14|(
 refine Ze ?_;(refine xL 4 Za ?_<;>refine Zc ?_)
 first|exact ZA (results120) rfl rfl|exact UV hs (by simpa using hb14))
 · first|exact bN hb14|(
 refine Ze ?_;(refine xL 4 Za ?_<;>refine Zc ?_)
 first|exact ZA (results120) rfl rfl|exact UV (by simpa using hb14) hs)))
theorem Zm8 (a b:Aut) (ha:Z1 a=true) (hb:Z1 b=true) (hs:a.syms=b.syms):AF prog 120 [ZJ a,ZJ b] (· =pInt 0):=by
 have hva:=WH a
 have hvb:=WH b
 rw [ha] at hva
 rw [hb] at hvb
 refine AF.of_body 20 func120 rfl ntmps120 (Xa rfl) ?_
 intro w0 M0 vs hl hv
 obtain ⟨v0,v1,rfl⟩:=YX hl
 clear hl hv
 refine Ze ?_
 (refine ZB 2 5 fun h2=>?_<;>refine ZB 3 5 fun h3=>?_<;>refine xL 4 Za ?_<;>refine Zk ?_)
 ((refine yL 6 (Zs 2 Zf) fun v6 h=>?_;cases h)<;>(refine cS 7 (cA call107 (hva)) fun v7 h=>?_;cases h)<;>refine xL 8 Z' (xL 9 Zb ?_)<;>(refine yL 10 (Zs 3 Zf) fun v10 h=>?_;cases h)<;>(refine cS 11 (cA call107 (hvb)) fun v11 h=>?_;cases h)<;>refine xL 12 Z' (xL 13 ZG (xL 5 Za ?_))<;>refine Zc ?_)<;>(
 refine cX ?_ ?_<;>intro hb5
 · first|exact bN hb5|(
 refine Ze ?_;(refine xL 4 Za ?_<;>refine Zc ?_)
 exact ZA (results120) rfl rfl)
 · first|exact bN hb5|(
 refine Ze ?_;(refine xL 15 (Zd 2 ZT) ?_<;>(refine yL 16 (Zl 2 Zg) fun v16 h=>?_;cases h)<;>refine xL 17 (Zd 3 ZT) ?_<;>(refine yL 18 (Zl 3 Zg) fun v18 h=>?_;cases h)<;>refine xL 19 Yn (xL 14 Za ?_)<;>refine Zc ?_)
 refine cX ?_ ?_<;>intro hb14
 · first|exact bN hb14|(
 refine Ze ?_;(refine xL 4 Za ?_<;>refine Zc ?_)
 first|exact ZA (results120) rfl rfl|exact UV hs (by simpa using hb14))
 · first|exact bN hb14|(
 refine Ze ?_;(refine xL 4 Za ?_<;>refine Zc ?_)
 first|exact ZA (results120) rfl rfl|exact UV (by simpa using hb14) hs)))
theorem PK (a b:Aut):AF prog 120 [ZJ a,ZJ b] (· =pInt (Wt a b)):=by
 cases ha:Z1 a
 · rw [ZbI ha]
   cases hb:Z1 b
   · exact Zm4 a b ha hb trivial
   · exact Zm5 a b ha hb trivial
 · cases hb:Z1 b
   · rw [ZbJ hb];exact Zm6 a b ha hb trivial
   · by_cases hs:a.syms=b.syms
     · rw [ZfS ha hb hs];exact Zm8 a b ha hb hs
     · rw [ZfR ha hb hs];exact Zm7 a b ha hb hs
theorem Zk0 (a b:Aut) (op:Int) {A:Aut} (ha:AF prog 132 [ZJ a] (· = .tup [ZJ A,pInt 0])) (hb:AF prog 132 [ZJ b] (· = .tup [KR,pInt 13])):AF prog 121 [ZJ a,ZJ b,pInt op] (· = .tup [pPZ,pInt 13]):=by
 refine AF.of_body 42 func121 rfl ntmps121 (Xa rfl) ?_
 intro w0 M0 vs hl hv
 obtain ⟨v0,v1,v2,rfl⟩:=Jx hl
 obtain rfl:=hv 2 _ _ rfl rfl
 clear hl hv
 refine Ze ?_
 (refine ZB 3 5 fun h3=>?_<;>refine ZB 4 5 fun h4=>?_<;>refine Zv [(.int .i64 0),(.slice none 0 0),(.slice none 0 0),(.slice none 0 0),(.slice none 0 0)] 5 6 WX fun h6=>?_<;>refine xL 7 Za ?_<;>refine Zk ?_)
 ((refine yL 15 (Zs 3 Zf) fun v15 h=>?_;cases h)<;>(refine cP 16 (cA call132 (ha)) fun va16 vb16 hva16 h=>?_;cases h)<;>refine xL 14 Zb (xL 17 Zi (xL 18 Zi ?_))<;>refine Zv [(.int .i64 0),(.int .i64 0),(.slice none 0 0),(.slice none 0 0),(.slice none 0 0)] 5 8 ZI fun h8=>?_<;>refine Zz 8 Zf ?_<;>refine xL 9 Za ?_<;>refine Zk ?_)
 ((refine yL 20 (Zs 4 Zf) fun v20 h=>?_;cases h)<;>(refine cP 21 (cA call132 (hb)) fun va21 vb21 hva21 h=>?_;cases h)<;>refine xL 19 Zb (xL 22 Zi (xL 23 Zi ?_))<;>refine Zv [(.int .i64 0),(.int .i64 0),(.slice none 0 0),(.slice none 0 0),(.slice none 0 0)] 5 10 ZI fun h10=>?_<;>refine Zz 10 Zf ?_<;>refine xL 11 Za ?_<;>refine Zk ?_)
 (refine xL 24 Zb (xL 25 Yn (xL 26 Zb (xL 27 Zb (xL 28 Yn (xL 29 ZG ?_)))))<;>refine Zc ?_)<;>(
 refine cX ?_ ?_<;>intro hb29
 · refine Ze ?_;(refine xL 30 (KB OF rfl) ?_<;>refine Zz 6 Y0 ?_<;>refine xL 7 Za ?_<;>refine Zc ?_)
   exact Z8 (k:=5) 6 kR (results121) rfl rfl rfl (Xa rfl) dC rfl rfl
 · first|omega|exact UV dC hb29|exact Bool.noConfusion hb29)
theorem Zk1 (a b:Aut) (op:Int) {A:Aut} (ha:AF prog 132 [ZJ a] (· = .tup [KR,pInt 13])) (hb:AF prog 132 [ZJ b] (· = .tup [ZJ A,pInt 0])):AF prog 121 [ZJ a,ZJ b,pInt op] (· = .tup [pPZ,pInt 13]):=by
 refine AF.of_body 42 func121 rfl ntmps121 (Xa rfl) ?_
 intro w0 M0 vs hl hv
 obtain ⟨v0,v1,v2,rfl⟩:=Jx hl
 obtain rfl:=hv 2 _ _ rfl rfl
 clear hl hv
 refine Ze ?_
 (refine ZB 3 5 fun h3=>?_<;>refine ZB 4 5 fun h4=>?_<;>refine Zv [(.int .i64 0),(.slice none 0 0),(.slice none 0 0),(.slice none 0 0),(.slice none 0 0)] 5 6 WX fun h6=>?_<;>refine xL 7 Za ?_<;>refine Zk ?_)
 ((refine yL 15 (Zs 3 Zf) fun v15 h=>?_;cases h)<;>(refine cP 16 (cA call132 (ha)) fun va16 vb16 hva16 h=>?_;cases h)<;>refine xL 14 Zb (xL 17 Zi (xL 18 Zi ?_))<;>refine Zv [(.int .i64 0),(.int .i64 0),(.slice none 0 0),(.slice none 0 0),(.slice none 0 0)] 5 8 ZI fun h8=>?_<;>refine Zz 8 Zf ?_<;>refine xL 9 Za ?_<;>refine Zk ?_)
 ((refine yL 20 (Zs 4 Zf) fun v20 h=>?_;cases h)<;>(refine cP 21 (cA call132 (hb)) fun va21 vb21 hva21 h=>?_;cases h)<;>refine xL 19 Zb (xL 22 Zi (xL 23 Zi ?_))<;>refine Zv [(.int .i64 0),(.int .i64 0),(.slice none 0 0),(.slice none 0 0),(.slice none 0 0)] 5 10 ZI fun h10=>?_<;>refine Zz 10 Zf ?_<;>refine xL 11 Za ?_<;>refine Zk ?_)
 (refine xL 24 Zb (xL 25 Yn (xL 26 Zb ?_))<;>refine kL 27 ?_<;>refine kL 28 ?_<;>refine xL 29 ZG ?_<;>refine Zc ?_)<;>(
 refine cX ?_ ?_<;>intro hb29
 · refine Ze ?_;(refine xL 30 (KB OF rfl) ?_<;>refine Zz 6 Y0 ?_<;>refine xL 7 Za ?_<;>refine Zc ?_)
   exact Z8 (k:=5) 6 kR (results121) rfl rfl rfl (Xa rfl) dC rfl rfl
 · first|omega|exact UV dC hb29|exact Bool.noConfusion hb29)
theorem Zk2 (a b:Aut) (op:Int) (ha:AF prog 132 [ZJ a] (· = .tup [KR,pInt 13])) (hb:AF prog 132 [ZJ b] (· = .tup [KR,pInt 13])):AF prog 121 [ZJ a,ZJ b,pInt op] (· = .tup [pPZ,pInt 13]):=by
 refine AF.of_body 42 func121 rfl ntmps121 (Xa rfl) ?_
 intro w0 M0 vs hl hv
 obtain ⟨v0,v1,v2,rfl⟩:=Jx hl
 obtain rfl:=hv 2 _ _ rfl rfl
 clear hl hv
 refine Ze ?_
 (refine ZB 3 5 fun h3=>?_<;>refine ZB 4 5 fun h4=>?_<;>refine Zv [(.int .i64 0),(.slice none 0 0),(.slice none 0 0),(.slice none 0 0),(.slice none 0 0)] 5 6 WX fun h6=>?_<;>refine xL 7 Za ?_<;>refine Zk ?_)
 ((refine yL 15 (Zs 3 Zf) fun v15 h=>?_;cases h)<;>(refine cP 16 (cA call132 (ha)) fun va16 vb16 hva16 h=>?_;cases h)<;>refine xL 14 Zb (xL 17 Zi (xL 18 Zi ?_))<;>refine Zv [(.int .i64 0),(.int .i64 0),(.slice none 0 0),(.slice none 0 0),(.slice none 0 0)] 5 8 ZI fun h8=>?_<;>refine Zz 8 Zf ?_<;>refine xL 9 Za ?_<;>refine Zk ?_)
 ((refine yL 20 (Zs 4 Zf) fun v20 h=>?_;cases h)<;>(refine cP 21 (cA call132 (hb)) fun va21 vb21 hva21 h=>?_;cases h)<;>refine xL 19 Zb (xL 22 Zi (xL 23 Zi ?_))<;>refine Zv [(.int .i64 0),(.int .i64 0),(.slice none 0 0),(.slice none 0 0),(.slice none 0 0)] 5 10 ZI fun h10=>?_<;>refine Zz 10 Zf ?_<;>refine xL 11 Za ?_<;>refine Zk ?_)
 (refine xL 24 Zb (xL 25 Yn (xL 26 Zb ?_))<;>refine kL 27 ?_<;>refine kL 28 ?_<;>refine xL 29 ZG ?_<;>refine Zc ?_)<;>(
 refine cX ?_ ?_<;>intro hb29
 · refine Ze ?_;(refine xL 30 (KB OF rfl) ?_<;>refine Zz 6 Y0 ?_<;>refine xL 7 Za ?_<;>refine Zc ?_)
   exact Z8 (k:=5) 6 kR (results121) rfl rfl rfl (Xa rfl) dC rfl rfl
 · first|omega|exact UV dC hb29|exact Bool.noConfusion hb29)
theorem Zio (a b A B:Aut) (op:Int) (q:List PrS×List (List Nat)) (ha:AF prog 132 [ZJ a] (· = .tup [ZJ A,pInt 0])) (hb:AF prog 132 [ZJ b] (· = .tup [ZJ B,pInt 0])) (hp:AF prog 169 [ZJ A,ZJ B,pInt op] (· = .tup [Rb A B op q,ZN true])):AF prog 121 [ZJ a,ZJ b,pInt op] (· = .tup [Rb A B op q,pInt 0]):=by
 refine AF.of_body 42 func121 rfl ntmps121 (Xa rfl) ?_
 intro w0 M0 vs hl hv
 obtain ⟨v0,v1,v2,rfl⟩:=Jx hl
 obtain rfl:=hv 2 _ _ rfl rfl
 clear hl hv
 refine Ze ?_
 (refine ZB 3 5 fun h3=>?_<;>refine ZB 4 5 fun h4=>?_<;>refine Zv [(.int .i64 0),(.slice none 0 0),(.slice none 0 0),(.slice none 0 0),(.slice none 0 0)] 5 6 WX fun h6=>?_<;>refine xL 7 Za ?_<;>refine Zk ?_)
 ((refine yL 15 (Zs 3 Zf) fun v15 h=>?_;cases h)<;>(refine cP 16 (cA call132 (ha)) fun va16 vb16 hva16 h=>?_;cases h)<;>refine xL 14 Zb (xL 17 Zi (xL 18 Zi ?_))<;>refine Zv [(.int .i64 0),(.int .i64 0),(.slice none 0 0),(.slice none 0 0),(.slice none 0 0)] 5 8 ZI fun h8=>?_<;>refine Zz 8 Zf ?_<;>refine xL 9 Za ?_<;>refine Zk ?_)
 ((refine yL 20 (Zs 4 Zf) fun v20 h=>?_;cases h)<;>(refine cP 21 (cA call132 (hb)) fun va21 vb21 hva21 h=>?_;cases h)<;>refine xL 19 Zb (xL 22 Zi (xL 23 Zi ?_))<;>refine Zv [(.int .i64 0),(.int .i64 0),(.slice none 0 0),(.slice none 0 0),(.slice none 0 0)] 5 10 ZI fun h10=>?_<;>refine Zz 10 Zf ?_<;>refine xL 11 Za ?_<;>refine Zk ?_)
 (refine xL 24 Zb (xL 25 Yn (xL 26 Zb (xL 27 Zb (xL 28 Yn (xL 29 ZG ?_)))))<;>refine Zc ?_)<;>(
 refine cX ?_ ?_<;>intro hb29
 · first|omega|exact UV rfl hb29|exact bN hb29
 · refine Ze ?_;((refine yL 32 (Zs 8 Zf) fun v32 h=>?_;cases h)<;>(refine yL 33 (Zs 10 Zf) fun v33 h=>?_;cases h)<;>refine xL 34 Zb ?_<;>(refine cP 35 (cA call169 (hp)) fun va35 vb35 hva35 h=>?_;cases h)<;>refine xL 31 Zb (xL 36 Zi (xL 37 Zi ?_))<;>refine Zv [(.int .i64 0),(.slice none 0 0),(.slice none 0 0),(.slice none 0 0),(.slice none 0 0)] 5 12 WX fun h12=>?_<;>refine Zz 12 Y0 ?_<;>refine xL 13 Za ?_<;>refine Zk ?_)
   (refine xL 38 Zb (xL 39 Z' ?_)<;>refine Zc ?_)
   refine cX ?_ ?_<;>intro hb39
   · first
     |exact bN hb39
     |skip
   · first|exact bN hb39|(
 refine Ze ?_;((refine yL 41 (Zs 12 Y0) fun v41 h=>?_;cases h)<;>refine Zz 6 Y0 ?_<;>refine xL 7 Za ?_<;>refine Zc ?_)
 exact Z8 (k:=5) 6 kR (results121) rfl rfl rfl (Xa rfl) dC rfl rfl))
abbrev V5:={u:Value×Value×Value×Value×Value//En.one (PV.val u.1)=true∧En.one (PV.val u.2.1)=true∧En.one (PV.val u.2.2.1)=true∧En.one (PV.val u.2.2.2.1)=true∧En.one (PV.val u.2.2.2.2)=true}
theorem Zk3 (a b A B:Aut) (op:Int) (ha:AF prog 132 [ZJ a] (· = .tup [ZJ A,pInt 0])) (hb:AF prog 132 [ZJ b] (· = .tup [ZJ B,pInt 0])) (hp:AF prog 169 [ZJ A,ZJ B,pInt op] (fun p=>∃i:V5,p= .tup [.agg [.val i.1.1, .val i.1.2.1, .val i.1.2.2.1, .val i.1.2.2.2.1, .val i.1.2.2.2.2],ZN false])):AF prog 121 [ZJ a,ZJ b,pInt op] (· = .tup [pPZ,pInt 13]):=by
 refine AF.of_body 42 func121 rfl ntmps121 (Xa rfl) ?_
 intro w0 M0 vs hl hv
 obtain ⟨v0,v1,v2,rfl⟩:=Jx hl
 obtain rfl:=hv 2 _ _ rfl rfl
 clear hl hv
 refine Ze ?_
 (refine ZB 3 5 fun h3=>?_<;>refine ZB 4 5 fun h4=>?_<;>refine Zv [(.int .i64 0),(.slice none 0 0),(.slice none 0 0),(.slice none 0 0),(.slice none 0 0)] 5 6 WX fun h6=>?_<;>refine xL 7 Za ?_<;>refine Zk ?_)
 ((refine yL 15 (Zs 3 Zf) fun v15 h=>?_;cases h)<;>(refine cP 16 (cA call132 (ha)) fun va16 vb16 hva16 h=>?_;cases h)<;>refine xL 14 Zb (xL 17 Zi (xL 18 Zi ?_))<;>refine Zv [(.int .i64 0),(.int .i64 0),(.slice none 0 0),(.slice none 0 0),(.slice none 0 0)] 5 8 ZI fun h8=>?_<;>refine Zz 8 Zf ?_<;>refine xL 9 Za ?_<;>refine Zk ?_)
 ((refine yL 20 (Zs 4 Zf) fun v20 h=>?_;cases h)<;>(refine cP 21 (cA call132 (hb)) fun va21 vb21 hva21 h=>?_;cases h)<;>refine xL 19 Zb (xL 22 Zi (xL 23 Zi ?_))<;>refine Zv [(.int .i64 0),(.int .i64 0),(.slice none 0 0),(.slice none 0 0),(.slice none 0 0)] 5 10 ZI fun h10=>?_<;>refine Zz 10 Zf ?_<;>refine xL 11 Za ?_<;>refine Zk ?_)
 (refine xL 24 Zb (xL 25 Yn (xL 26 Zb (xL 27 Zb (xL 28 Yn (xL 29 ZG ?_)))))<;>refine Zc ?_)<;>(
 refine cX ?_ ?_<;>intro hb29
 · first|omega|exact UV rfl hb29|exact bN hb29
 · refine Ze ?_;((refine yL 32 (Zs 8 Zf) fun v32 h=>?_;cases h)<;>(refine yL 33 (Zs 10 Zf) fun v33 h=>?_;cases h)<;>refine xL 34 Zb ?_<;>(refine cPx 35 (cA call169 hp) (fun i35 v1 v2 hv1 hv2=>?_) (fun _=>rfl);cases hv2;obtain ⟨⟨u0,u1,u2,u3,u4⟩,n0,n1,n2,n3,n4⟩:=i35;dsimp only at n0 n1 n2 n3 n4)<;>refine xL 31 Zb (xL 36 Zi (xL 37 Zi ?_))<;>refine Zv [(.int .i64 0),(.slice none 0 0),(.slice none 0 0),(.slice none 0 0),(.slice none 0 0)] 5 12 WX fun h12=>?_<;>refine Zz 12 Y0 ?_<;>refine xL 13 Za ?_<;>refine Zk ?_)
   (refine xL 38 Zb (xL 39 Z' ?_)<;>refine Zc ?_)
   refine cX ?_ ?_<;>intro hb39
   · first|exact bN hb39|(
 refine Ze ?_;(refine xL 40 (KB OF rfl) ?_<;>refine Zz 6 Y0 ?_<;>refine xL 7 Za ?_<;>refine Zc ?_)
 exact Z8 (k:=5) 6 kR (results121) rfl rfl rfl (Xa rfl) dC rfl rfl)
   · first
     |exact bN hb39
     |skip)
theorem Zm9 {x:Option Aut} {e:Int} (h:lim x= .error e):e=13:=by
 cases x with
 |some a=>cases h
 |none=>cases h;rfl
theorem Re {a:Aut} {e:Int} (h:WV a= .error e):e=13:=by
 unfold WV at h
 split at h
 · exact Zm9 h
 · cases h;rfl
theorem Zna (a b:Aut) (op:Int) (hf:Wt a b=0):AF prog 121 [ZJ a,ZJ b,pInt op] (· =ZoE a b op):=by
 obtain ⟨h1,h2,h3⟩:=Rc hf
 have ha:=T8 a (Kp h1)
 have hb:=T8 b (Kp h2)
 unfold ZoE Jf
 cases ea:WV a with
 | error e=>
   obtain rfl:=Re ea;rw [ea] at ha
   cases eb:WV b with
   | error f=>
     obtain rfl:=Re eb;rw [eb] at hb;exact Zk2 a b op ha hb
   |ok B=>rw [eb] at hb;exact Zk1 a b op ha hb
 | ok A =>
   rw [ea] at ha
   cases eb:WV b with
   | error f=>
     obtain rfl:=Re eb;rw [eb] at hb;exact Zk0 a b op ha hb
   | ok B=>
     rw [eb] at hb;obtain ⟨dA,sA⟩:=K3 (Kp h1) ea;obtain ⟨dB,sB⟩:=K3 (Kp h2) eb;have hp:=ZfQ A B op dA dB (by rw [sA,sB,h3]);dsimp only
     cases eq:prodQ A B with
     | some q=>exact Zio a b A B op q ha hb (hp.mono fun p hr=>by
        rcases hr with ⟨q',h4,h5⟩|⟨h4,_⟩
        · rw [eq] at h4;cases h4;exact h5
        · rw [eq] at h4;cases h4)
     | none=>exact Zk3 a b A B op ha hb (hp.mono fun p hr=>by
        rcases hr with ⟨q',h4,h5⟩|⟨_,u0,u1,u2,u3,u4,n0,n1,n2,n3,n4,h5⟩
        · rw [eq] at h4;cases h4
        · exact ⟨⟨(u0,u1,u2,u3,u4),n0,n1,n2,n3,n4⟩,h5⟩)
theorem ZbK (a b:Aut) (op e:Int) (he:¬e=0) (hf:AF prog 120 [ZJ a,ZJ b] (· =pInt e)):AF prog 76 [ZJ a,ZJ b,pInt op] (· = .tup [ZN false,pInts [],pInt e]):=by
 refine AF.of_body 38 func76 rfl ntmps76 (Xa rfl) ?_
 intro w0 M0 vs hl hv
 obtain ⟨v0,v1,v2,rfl⟩:=Jx hl
 obtain rfl:=hv 2 _ _ rfl rfl
 clear hl hv
 refine Ze ?_
 (refine ZB 3 5 fun h3=>?_<;>refine ZB 4 5 fun h4=>?_<;>refine xL 6 Za (xL 7 Za (xL 8 Za ?_))<;>refine Zk ?_)
 ((refine yL 14 (Zs 3 Zf) fun v14 h=>?_;cases h)<;>(refine yL 15 (Zs 4 Zf) fun v15 h=>?_;cases h)<;>(refine cS 16 (cA call120 (hf)) fun v16 h=>?_;cases h)<;>refine xL 9 Za ?_<;>refine Zk ?_)
 (refine xL 17 Zb (xL 18 Yn ?_)<;>refine Zc ?_)
 refine cX ?_ ?_<;>intro hb18
 · refine Ze ?_;(refine xL 19 Zb (xL 6 Za (xL 7 Za (xL 8 Za ?_)))<;>refine Zc ?_)
   refine YG (Y' (t:=7) rfl) fun _=>?_;exact LZ (results76) rfl rfl rfl rfl
 · exact UV (by simpa using hb18) he
theorem ZbL (a b:Aut) (op e:Int) (he:¬e=0) (hf:AF prog 120 [ZJ a,ZJ b] (· =pInt 0)) (hb:AF prog 121 [ZJ a,ZJ b,pInt op] (· = .tup [pPZ,pInt e])):AF prog 76 [ZJ a,ZJ b,pInt op] (· = .tup [ZN false,pInts [],pInt e]):=by
 refine AF.of_body 38 func76 rfl ntmps76 (Xa rfl) ?_
 intro w0 M0 vs hl hv
 obtain ⟨v0,v1,v2,rfl⟩:=Jx hl
 obtain rfl:=hv 2 _ _ rfl rfl
 clear hl hv
 refine Ze ?_
 (refine ZB 3 5 fun h3=>?_<;>refine ZB 4 5 fun h4=>?_<;>refine xL 6 Za (xL 7 Za (xL 8 Za ?_))<;>refine Zk ?_)
 ((refine yL 14 (Zs 3 Zf) fun v14 h=>?_;cases h)<;>(refine yL 15 (Zs 4 Zf) fun v15 h=>?_;cases h)<;>(refine cS 16 (cA call120 (hf)) fun v16 h=>?_;cases h)<;>refine xL 9 Za ?_<;>refine Zk ?_)
 (refine xL 17 Zb (xL 18 Yn ?_)<;>refine Zc ?_)
 refine cX ?_ ?_<;>intro hb18
 · first|omega|exact UV rfl hb18|exact bN hb18
 · refine Ze ?_;((refine yL 21 (Zs 3 Zf) fun v21 h=>?_;cases h)<;>(refine yL 22 (Zs 4 Zf) fun v22 h=>?_;cases h)<;>refine xL 23 Zb ?_<;>(refine cP 24 (cA call121 (hb)) fun va24 vb24 hva24 h=>?_;cases h)<;>refine xL 20 Zb (xL 25 Zi (xL 26 Zi ?_))<;>refine Zv [(.int .i64 0),(.slice none 0 0),(.slice none 0 0),(.slice none 0 0),(.slice none 0 0)] 5 10 WX fun h10=>?_<;>refine Zz 10 Y0 ?_<;>refine xL 11 Za ?_<;>refine Zk ?_)
   (refine xL 27 Zb (xL 28 Yn ?_)<;>refine Zc ?_)
   refine cX ?_ ?_<;>intro hb28
   · refine Ze ?_;(refine xL 29 Zb (xL 6 Za (xL 7 Za (xL 8 Za ?_)))<;>refine Zc ?_)
     refine YG (Y' (t:=7) rfl) fun _=>?_;exact LZ (results76) rfl rfl rfl rfl
   · exact UV (by simpa using hb28) he
theorem ZdR (a b A B:Aut) (op:Int) (q:List PrS×List (List Nat)) (x:List Int) (t:Bool) (hf:AF prog 120 [ZJ a,ZJ b] (· =pInt 0)) (hb:AF prog 121 [ZJ a,ZJ b,pInt op] (· = .tup [Rb A B op q,pInt 0])) (hg:AF prog 122 [Rb A B op q] (· = .tup [pInts x,ZN t])):AF prog 76 [ZJ a,ZJ b,pInt op] (· = .tup [ZN (!t),pInts x,pInt 0]):=by
 refine AF.of_body 38 func76 rfl ntmps76 (Xa rfl) ?_
 intro w0 M0 vs hl hv
 obtain ⟨v0,v1,v2,rfl⟩:=Jx hl
 obtain rfl:=hv 2 _ _ rfl rfl
 clear hl hv
 refine Ze ?_
 (refine ZB 3 5 fun h3=>?_<;>refine ZB 4 5 fun h4=>?_<;>refine xL 6 Za (xL 7 Za (xL 8 Za ?_))<;>refine Zk ?_)
 ((refine yL 14 (Zs 3 Zf) fun v14 h=>?_;cases h)<;>(refine yL 15 (Zs 4 Zf) fun v15 h=>?_;cases h)<;>(refine cS 16 (cA call120 (hf)) fun v16 h=>?_;cases h)<;>refine xL 9 Za ?_<;>refine Zk ?_)
 (refine xL 17 Zb (xL 18 Yn ?_)<;>refine Zc ?_)
 refine cX ?_ ?_<;>intro hb18
 · first|omega|exact UV rfl hb18|exact bN hb18
 · refine Ze ?_;((refine yL 21 (Zs 3 Zf) fun v21 h=>?_;cases h)<;>(refine yL 22 (Zs 4 Zf) fun v22 h=>?_;cases h)<;>refine xL 23 Zb ?_<;>(refine cP 24 (cA call121 (hb)) fun va24 vb24 hva24 h=>?_;cases h)<;>refine xL 20 Zb (xL 25 Zi (xL 26 Zi ?_))<;>refine Zv [(.int .i64 0),(.slice none 0 0),(.slice none 0 0),(.slice none 0 0),(.slice none 0 0)] 5 10 WX fun h10=>?_<;>refine Zz 10 Y0 ?_<;>refine xL 11 Za ?_<;>refine Zk ?_)
   (refine xL 27 Zb (xL 28 Yn ?_)<;>refine Zc ?_)
   refine cX ?_ ?_<;>intro hb28
   · first|omega|exact UV rfl hb28|exact bN hb28
   · refine Ze ?_;((refine yL 31 (Zs 10 Y0) fun v31 h=>?_;cases h)<;>(refine cP 32 (cA call122 (hg)) fun va32 vb32 hva32 h=>?_;cases h)<;>refine xL 30 Zb (xL 33 Zi (xL 34 Zi (xL 12 Za (xL 13 Za ?_))))<;>refine Zk ?_)
     (refine xL 35 Zb (xL 36 Z' (xL 37 Zb (xL 6 Za (xL 7 Za (xL 8 Za ?_)))))<;>refine Zc ?_)
     exact LZ (results76) rfl rfl rfl rfl
def ZoF (x:Bool×List Int×Int):PV:= .tup [ZN x.1,pInts x.2.1,pInt x.2.2]
theorem ZfT (a b:Aut) (op:Int):AF prog 76 [ZJ a,ZJ b,pInt op] (· =ZoF (cmpX a b op)):=by
 have hf:=PK a b
 unfold cmpX
 by_cases h0:Wt a b=0
 · rw [UT (fun h=>h h0)];have hb:=Zna a b op h0;rw [h0] at hf;unfold ZoE at hb
   cases e:Jf a b with
   | error f=>
     rw [e] at hb;refine ZbL a b op f (fun hf0=>?_) hf hb;unfold Jf at e;split at e
     · split at e<;>cases e;omega
     · cases e;omega
   | ok x =>
     obtain ⟨A,B,o,rows⟩:=x;rw [e] at hb;obtain ⟨h1,h2,h3⟩:=Rc h0;unfold Jf at e;split at e
     · rename_i A' B' ea eb;split at e
       · rename_i q' eq
         cases e;obtain ⟨dA,sA⟩:=K3 (Kp h1) ea;obtain ⟨dB,sB⟩:=K3 (Kp h2) eb;have hok:=(L6 dA dB (by rw [sA,sB,h3]) eq).1;have hg:=ZkZ A B op o rows eq hok.zero hok.cap;have:=ZdR a b A B op (o,rows) _ _ hf hb hg;rw [Bool.not_not] at this;exact this
       · cases e
     · cases e
 · rw [UU h0];exact ZbK a b op _ h0 hf
theorem C8 (a b:Aut) (t:Bool) (l:List Int) (e:Int) (h:AF prog 76 [ZJ a,ZJ b,pInt 4] (· = .tup [ZN t,pInts l,pInt e])):AF prog 52 [ZJ a,ZJ b] (· = .tup [ZN t,pInts l,pInt e]):=by
 refine AF.of_body 13 func52 rfl ntmps52 (Xa rfl) ?_
 intro w0 M0 vs hl hv
 obtain ⟨v0,v1,rfl⟩:=YX hl
 clear hl hv
 refine Ze ?_
 (refine ZB 2 5 fun h2=>?_<;>refine ZB 3 5 fun h3=>?_<;>refine xL 4 Za (xL 5 Za (xL 6 Za ?_))<;>refine Zk ?_)
 ((refine yL 7 (Zs 2 Zf) fun v7 h=>?_;cases h)<;>(refine yL 8 (Zs 3 Zf) fun v8 h=>?_;cases h)<;>(refine C1 9 (cA call76 h) fun va9 vb9 vc9 hva9 hvb9 hvc9=>?_;cases hva9;cases hvc9)<;>refine xL 10 Zi (xL 11 Zi (xL 12 Zi (xL 4 Za (xL 5 Za (xL 6 Za ?_)))))<;>refine Zc ?_)
 exact LZ (results52) rfl rfl rfl rfl
theorem C9 (a b:Aut):AF prog 52 [ZJ a,ZJ b] (· =ZoF (cmpX a b 4)):=C8 a b _ _ _ (ZfT a b 4)
end Go.Proofs.YtgfabnhpllkebaaGreatDoor
