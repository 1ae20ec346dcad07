/-
  Walks of functions and plain laws of the chapter, as the claim needs them.
-/
import Derived.Test.YtgfabnhpllkebaaGreatDoorPz06
import Derived.Test.YtgfabnhpllkebaaGreatDoorPz09
import Derived.Test.YtgfabnhpllkebaaGreatDoorPz07
import Derived.Test.YtgfabnhpllkebaaGreatDoorPz08
import Derived.Test.YtgfabnhpllkebaaGreatDoorPz04
import Derived.Test.YtgfabnhpllkebaaGreatDoorPz01
namespace Go.Proofs.YtgfabnhpllkebaaGreatDoor
open Go.RowKit Go.Cb Go.En Tryz
set_option linter.all false
abbrev Lg:=List ByteArray→Prop
def RE:List Lg→Lg
 |[]=>fun w=>w=[]
 |A::m=>fun w=>∃u v,w=u++v∧A u∧RE m v
def Znk (m:List Lg):Lg:=fun w=>∃A∈m,A w
inductive Shf:List ByteArray→List ByteArray→List ByteArray→Prop
 |nil:Shf [] [] []
 |left {a:ByteArray} {u v w:List ByteArray} (h:Shf u v w):Shf (a::u) v (a::w)
 |right {a:ByteArray} {u v w:List ByteArray} (h:Shf u v w):Shf u (a::v) (a::w)
def H6:List Lg→Lg
 |[]=>fun w=>w=[]
 |A::m=>fun w=>∃u v,Shf u v w∧A u∧H6 m v
inductive LpG (A B:Lg):Lg
 |one {w:List ByteArray} (h:A w):LpG A B w
 |more {u v z:List ByteArray} (h1:LpG A B u) (h2:B v) (h3:A z):LpG A B (u++(v++z))
def lpG:List Lg→Lg
 |A::B::_=>LpG A B
 |_=>fun _=>False
def opG (o:Int) (a:ByteArray) (m:List Lg):Lg:=if o=1 then (fun w=>w=[a]) else if o=2 then (fun w=>w=[]) else if o=3 then RE m else if o=4 then Znk m else if o=5 then H6 m else lpG m
mutual
def Tf:Nd→Lg
 | .mk o a l=>opG o a (ZdS l)
def ZdS:List Nd→List Lg
 |[]=>[]
 |x::l=>Tf x::ZdS l
end
theorem ZhT (l:List Nd):ZdS l=l.map Tf:=by
 induction l with
 |nil=>rfl
 |cons x l ih=>rw [ZdS,ih];rfl
theorem Zj7 (o:Int) (a:ByteArray) (l:List Nd):Tf (.mk o a l)=opG o a (l.map Tf):=by rw [Tf,ZhT]
theorem ζv:∀w,Shf w [] w
 |[]=> .nil
 |a::w=> .left (ζv w)
theorem Ls {u v w:List ByteArray} (h:Shf u v w):Shf v u w:=by
 induction h with
 |nil=>exact .nil
 |left _ ih=>exact .right ih
 |right _ ih=>exact .left ih
theorem Hs {u w:List ByteArray} (h:Shf u [] w):w=u:=by
 generalize hv:([]:List ByteArray)=v at h
 induction h with
 |nil=>rfl
 |left _ ih=>rw [ih hv]
 |right _ _=>cases hv
theorem Cd {u v w:List ByteArray} (h:Shf u v w):∀{s z:List ByteArray},Shf s z v→∃x,Shf u s x∧Shf x z w:=by
 induction h with
 |nil=>intro s z h2;cases h2;exact ⟨[], .nil, .nil⟩
 | left _ ih=>
   intro s z h2;obtain ⟨x,h3,h4⟩:=ih h2;exact ⟨_, .left h3, .left h4⟩
 | right _ ih=>
   intro s z h2
   cases h2 with
   |left h2=>obtain ⟨x,h3,h4⟩:=ih h2;exact ⟨_, .right h3, .left h4⟩
   |right h2=>obtain ⟨x,h3,h4⟩:=ih h2;exact ⟨x,h3, .right h4⟩
theorem Zc3 {x z w u s:List ByteArray} (h1:Shf x z w) (h2:Shf u s x):∃v,Shf u v w∧Shf s z v:=by
 obtain ⟨v,h3,h4⟩:=Cd (Ls h1) (Ls h2)
 exact ⟨v,Ls h4,Ls h3⟩
theorem ZdT:∀(m n:List Lg),RE (m++n)=fun w=>∃u v,w=u++v∧RE m u∧RE n v
 |[],n=>funext fun w=>propext ⟨fun h=>⟨[],w,rfl,rfl,h⟩,fun ⟨u,v,h1,h2,h3⟩=>by cases h2;rw [h1];exact h3⟩
 | A ::m,n=>funext fun w=>propext (by
   show (∃u v,w=u++v∧A u∧RE (m++n) v)↔∃u v,w=u++v∧(∃u2 v2,u=u2++v2∧A u2∧RE m v2)∧RE n v;rw [ZdT m n];constructor
   · rintro ⟨u,v,rfl,h1,u2,v2,rfl,h2,h3⟩;exact ⟨u++u2,v2,by rw [Xz],⟨u,u2,rfl,h1,h2⟩,h3⟩
   · rintro ⟨u,v,rfl,⟨u2,v2,rfl,h1,h2⟩,h3⟩;exact ⟨u2,v2++v,by rw [Xz],h1,v2,v,rfl,h2,h3⟩)
theorem ZdU:∀(m n:List Lg),H6 (m++n)=fun w=>∃u v,Shf u v w∧H6 m u∧H6 n v
 |[],n=>funext fun w=>propext ⟨fun h=>⟨[],w,Ls (ζv w),rfl,h⟩,fun ⟨u,v,h1,h2,h3⟩=>by cases h2;rw [Hs (Ls h1)];exact h3⟩
 | A ::m,n=>funext fun w=>propext (by
   show (∃u v,Shf u v w∧A u∧H6 (m++n) v)↔∃u v,Shf u v w∧(∃u2 v2,Shf u2 v2 u∧A u2∧H6 m v2)∧H6 n v;rw [ZdU m n];constructor
   · rintro ⟨u,v,h0,h1,u2,v2,h4,h2,h3⟩;obtain ⟨x,h5,h6⟩:=Cd h0 h4;exact ⟨x,v2,h6,⟨u,u2,h5,h1,h2⟩,h3⟩
   · rintro ⟨u,v,h0,⟨u2,v2,h4,h1,h2⟩,h3⟩;obtain ⟨x,h5,h6⟩:=Zc3 h0 h4;exact ⟨u2,x,h5,h1,v2,v,h6,h2,h3⟩)
theorem ZdV (A:Lg):RE [A]=A:=funext fun w=>propext ⟨fun ⟨u,v,h1,h2,h3⟩=>by cases h3;rw [h1,Xy];exact h2,fun h=>⟨w,[],(Xy w).symm,h,rfl⟩⟩
theorem and_one (A:Lg):H6 [A]=A:=funext fun w=>propext ⟨fun ⟨u,v,h1,h2,h3⟩=>by cases h3;rw [Hs h1];exact h2,fun h=>⟨w,[],ζv w,h,rfl⟩⟩
inductive StG (A:Lg):Lg
 |nil:StG A []
 |cons {u v:List ByteArray} (h1:A u) (h2:StG A v):StG A (u++v)
theorem ZhU {A:Lg} {u v:List ByteArray} (h:StG A u) (h2:A v):StG A (u++v):=by
 induction h with
 |nil=>have:=StG.cons h2 (StG.nil (A:=A));rw [Xy] at this;exact this
 |cons h1 _ ih=>rw [Xz];exact .cons h1 ih
theorem Zj8 (A B:Lg):LpG A B=fun w=>∃u v,w=u++v∧A u∧StG (RE [B,A]) v:=by
 have h2:∀{x y:List ByteArray},B x→A y→RE [B,A] (x++y):=fun {x y} hx hy=>⟨x,y,rfl,hx,y,[],(Xy y).symm,hy,rfl⟩
 refine funext fun w=>propext ⟨fun h=>?_,fun ⟨u,v,e,hu,hv⟩=>?_⟩
 · induction h with
   | @one w h=>exact ⟨w,[],(Xy w).symm,h, .nil⟩
   | more _ hb ha ih=>
     obtain ⟨u,v,rfl,h3,h4⟩:=ih;exact ⟨u,_,Xz ..,h3,ZhU h4 (h2 hb ha)⟩
 · subst e;have key:∀v,StG (RE [B,A]) v→∀u,LpG A B u→LpG A B (u++v):=fun v hv=>by
    induction hv with
    |nil=>intro u h;rw [Xy];exact h
    | cons h1 _ ih=>
      intro u h;obtain ⟨x,y,rfl,hx,y2,z,rfl,hy,hz⟩:=h1
      cases hz;rw [Xy,←Xz];exact ih _ (.more h hx hy)
   exact key v hv u (.one hu)
set_option maxRecDepth 100000
def Lu (m:Nat) (k:Int):Aut:=⟨2,m,[0],[1],[⟨0,1,k⟩]⟩
def Pt (m:Nat):Aut:=⟨1,m,[0],[0],[]⟩
def okO (x:Except Int Aut):Option Aut:=match x with
 | .ok a=>some a
 | .error _=>none
def GP (a b:Aut):Except Int Aut:=match TJ b a with
 | .error e=> .error e
 | .ok x=>match Gu x with
   | .error e=> .error e
   | .ok s=>TJ a s
def Kh (o:Int) (a b:Aut):Except Int Aut:=if o=3 then TJ a b else if o=4 then LY a b else if o=6 then GP a b else RA a b
def JQ (o:Int) (r p:Option Aut):Option Aut:=match r,p with
 |some a,some b=>okO (Kh o a b)
 |_,_=>none
def foldX (o:Int):List (Option Aut)→Option Aut
 |[]=>none
 |x::l=>l.foldl (JQ o) x
mutual
def bldT (acts:List ByteArray):Nd→Option Aut
 | .mk o a l=>if o=1 then okO (GZ (Lu acts.length (idx (fun x=>KR x a) acts))) else if o=2 then okO (GZ (Pt acts.length)) else foldX o (Zj9 acts l)
def Zj9 (acts:List ByteArray):List Nd→List (Option Aut)
 |[]=>[]
 |x::l=>bldT acts x::Zj9 acts l
end
theorem ζw (acts:List ByteArray) (l:List Nd):Zj9 acts l=l.map (bldT acts):=by
 induction l with
 |nil=>rfl
 |cons x l ih=>rw [Zj9,ih];rfl
theorem ZhV (acts:List ByteArray) (o:Int) (a:ByteArray) (l:List Nd) (h1:o≠1) (h2:o≠2):bldT acts (.mk o a l)=foldX o (l.map (bldT acts)):=by rw [bldT,US h1,US h2,ζw]
theorem Zc4 (o:Int) (p:Option Aut):JQ o none p=none:=rfl
theorem Zbq (o:Int) (r:Option Aut):JQ o r none=none:=by cases r<;>rfl
theorem Pu (o:Int) (l:List (Option Aut)):l.foldl (JQ o) none=none:=by
 induction l with
 |nil=>rfl
 |cons x l ih=>rw [X',Zc4,ih]
theorem Zc5 {o:Int} {m:List (Option Aut)} (h:m≠[]) (x:Option Aut):foldX o (m++[x])=JQ o (foldX o m) x:=by
 cases m with
 |nil=>exact UU rfl h
 |cons y m=>rw [XW];show (m++[x]).foldl (JQ o) y=_;rw [Vn];rfl
theorem Zbr {o:Int}:∀{l:List (Option Aut)} {r:Option Aut},none∈l→l.foldl (JQ o) r=none
 | x::l,r,h=>by
   rw [X'];rcases Xq.1 h with e|h
   · rw [←e,Zbq,Pu]
   · exact Zbr h
theorem Ce {o:Int} {l:List (Option Aut)} (h:none∈l):foldX o l=none:=by
 cases l with
 |nil=>rfl
 | cons x l=>
   show l.foldl (JQ o) x=none;rcases Xq.1 h with e|h
   · rw [←e,Pu]
   · exact Zbr h
def MinO (m:Nat) (x:Except Int Aut):Prop:=x= .error 13∨∃C,x= .ok C∧IsMin C∧C.syms=m
theorem MinO.lim {m:Nat} {x:Except Int Aut} (h:MinO m x):x=Go.Proofs.YtgfabnhpllkebaaGreatDoor.lim (okO x):=by
 rcases h with rfl|⟨C,rfl,_⟩<;>rfl
theorem MinO.ok {m:Nat} {x:Except Int Aut} (h:MinO m x) {C:Aut} (hc:okO x=some C):x= .ok C∧IsMin C∧C.syms=m:=by
 rcases h with rfl|⟨D,rfl,h1,h2⟩
 · cases hc
 · cases hc;exact ⟨rfl,h1,h2⟩
theorem Ht {a:Aut} {e:Int} (h:WH a= .error e):e=13:=by
 unfold WH at h
 cases ht:J5 a with
 |none=>rw [ht] at h;cases h;rfl
 | some t=>
   rw [ht] at h
   cases hl:WS t with
   |none=>simp only [hl,Go.Proofs.YtgfabnhpllkebaaGreatDoor.lim] at h;cases h;rfl
   |some A=>simp only [hl,Go.Proofs.YtgfabnhpllkebaaGreatDoor.lim] at h;cases h
theorem ZhW {a:Aut} {e:Int} (h:DZ a= .error e):e=13:=by
 unfold DZ at h
 split at h
 · cases h;rfl
 · exact Ht h
theorem T7 {X:Aut} (hp:PreA X) {m:Nat} (hs:X.syms=m):MinO m (Jh X):=by
 cases h:Jh X with
 |error e=>exact .inl (by rw [ZhW h])
 |ok C=>obtain ⟨h1,h2,_⟩:=Gv hp h;exact .inr ⟨C,rfl,h1,by rw [h2,hs]⟩
theorem Lv {a:Aut} (h:Z4 a=true) {m:Nat} (hs:a.syms=m):MinO m (GZ a):=by
 cases h1:GZ a with
 | error e=>
   unfold GZ at h1;rw [UT h] at h1;exact .inl (by rw [Ht h1])
 |ok C=>obtain ⟨h3,h2,_⟩:=Pj h1;exact .inr ⟨C,rfl,h3,by rw [h2,hs]⟩
variable {m:Nat} {a b:Aut}
theorem T8 (ha:IsMin a) (hb:IsMin b) (hsa:a.syms=m) (hsb:b.syms=m):WW a b=0:=ζu ha.valid hb.valid (by rw [hsa,hsb])
theorem TM (ha:IsMin a) (hb:IsMin b) (hsa:a.syms=m) (hsb:b.syms=m):MinO m (TJ a b):=by
 unfold TJ
 rw [US (fun h=>h (T8 ha hb hsa hsb))]
 exact T7 (OU (WT ha.valid) (WT hb.valid) (by rw [hsa,hsb])) hsa
theorem Zc6 (ha:IsMin a) (hb:IsMin b) (hsa:a.syms=m) (hsb:b.syms=m):MinO m (LY a b):=by
 unfold LY
 rw [US (fun h=>h (T8 ha hb hsa hsb))]
 exact T7 (Pk (WT ha.valid) (WT hb.valid) (by rw [hsa,hsb])) hsa
theorem Zfz (ha:IsMin a) (hb:IsMin b) (hsa:a.syms=m) (hsb:b.syms=m):MinO m (RA a b):=by
 unfold RA
 rw [US (fun h=>h (T8 ha hb hsa hsb))]
 split
 · exact .inl rfl
 · exact T7 (Hm (WT ha.valid) (WT hb.valid) (by rw [hsa,hsb])) hsa
theorem Pv (ha:IsMin a) (hsa:a.syms=m):MinO m (Gu a):=by
 unfold Gu
 rw [UT ha.valid]
 exact T7 (D1 (WT ha.valid)) hsa
theorem ZfA (ha:IsMin a) (hb:IsMin b) (hsa:a.syms=m) (hsb:b.syms=m):MinO m (GP a b):=by
 unfold GP
 rcases TM hb ha hsb hsa with h|⟨C,h,hC,hs⟩
 · rw [h];exact .inl rfl
 · rw [h];dsimp only;rcases Pv hC hs with h2|⟨D,h2,hD,hs2⟩
   · rw [h2];exact .inl rfl
   · rw [h2];exact TM ha hD hsa hs2
theorem T9 (o:Int) (ha:IsMin a) (hb:IsMin b) (hsa:a.syms=m) (hsb:b.syms=m):MinO m (Kh o a b):=by
 unfold Kh
 split
 · exact TM ha hb hsa hsb
 split
 · exact Zc6 ha hb hsa hsb
 split
 · exact ZfA ha hb hsa hsb
 · exact Zfz ha hb hsa hsb
theorem OV {k:Int} (hm:m≤40) (hk:0≤k∧k<m):Z4 (Lu m k)=true:=by
 unfold Z4 Lu LL Dt
 simp [Ws]
 omega
theorem ζx (hm:m≤40):Z4 (Pt m)=true:=by
 unfold Z4 Pt LL
 simp [Ws]
 omega
def BldOk (m:Nat) (r:Option Aut):Prop:=∀A,r=some A→IsMin A∧A.syms=m
theorem BldOk.of {x:Except Int Aut} (h:MinO m x):BldOk m (okO x):=fun A hA=>(h.ok hA).2
theorem Zka (o:Int) {r p:Option Aut} (hr:BldOk m r) (hp:BldOk m p):BldOk m (JQ o r p):=by
 match r,p with
 | some a,some b=>
   obtain ⟨ha,hsa⟩:=hr a rfl;obtain ⟨hb,hsb⟩:=hp b rfl;exact BldOk.of (T9 o ha hb hsa hsb)
 |none,_=>exact fun A hA=>by cases hA
 |some _,none=>exact fun A hA=>by cases hA
theorem Cf (o:Int):∀{l:List (Option Aut)} {r:Option Aut},BldOk m r→(∀x∈l,BldOk m x)→BldOk m (l.foldl (JQ o) r)
 |[],_,h,_=>h
 | x::l,r,h,h2=>by
   rw [X'];exact Cf o (Zka o h (h2 x (Xi ..))) fun y hy=>h2 y (Xn _ hy)
theorem ZhX (o:Int) {l:List (Option Aut)} (h:∀x∈l,BldOk m x):BldOk m (foldX o l):=by
 cases l with
 |nil=>exact fun A hA=>by cases hA
 |cons x l=>exact Cf o (h x (Xi ..)) fun y hy=>h y (Xn _ hy)
def Kf (acts:List ByteArray) (a:ByteArray):Int:=idx (fun x=>KR x a) acts
theorem SL {a b:ByteArray}:KR a b=true↔a=b:=Ek
theorem Lw {acts:List ByteArray} {a:ByteArray} (h:a∈acts):∃i:Nat,Kf acts a=i∧acts[i]? =some a∧∀j y,j<i→acts[j]? =some y→y≠a:=by
 unfold Kf
 obtain ⟨k,hk⟩:=X4 h
 have key:∀n:Nat,(∃i:Nat,i≤n∧acts[i]? =some a)→∃i:Nat,acts[i]? =some a∧∀(j:Nat) (y:ByteArray),j<i→acts[j]? =some y→y≠a:=by
  intro n;induction n with
  |zero=>rintro ⟨i,hi,h⟩;exact ⟨i,h,fun j y hj=>oM⟩
  | succ n ih=>
    rintro ⟨i,hi,h⟩;by_cases h2:∃i:Nat,i≤n∧acts[i]? =some a
    · exact ih h2
    · exact ⟨i,h,fun j y hj hy e=>h2 ⟨j,oM,by rw [hy,e]⟩⟩
 obtain ⟨i,hi,hb⟩:=key k ⟨k,Xj _,hk⟩
 refine ⟨i,Tj (fun j y hj hy=>?_) hi (SL.2 rfl),hi,hb⟩
 cases hs:KR y a
 · rfl
 · exact UU (SL.1 hs) (hb j y hj hy)
theorem Zmb {acts:List ByteArray} (hm:acts.length≤40):∀t:Nd,(∀s∈Y6 t,s∈acts)→BldOk acts.length (bldT acts t):=Nd.ind fun o a l ih ha=>by
 rw [bldT]
 split
 · rename_i h1;obtain ⟨i,h2,h3,_⟩:=Lw (ha a (by rw [Y6,UT h1];exact Xi ..));have hi:=(XM.1 h3).1;refine BldOk.of (Lv (OV hm ?_) rfl);unfold Kf at h2;rw [h2];omega
 split
 · exact BldOk.of (Lv (ζx hm) rfl)
 · rename_i h1 h2;rw [ζw];refine ZhX o fun r hr=>?_;obtain ⟨x,hx,rfl⟩:=Xg.1 hr;refine ih x hx fun s hs=>ha s ?_;rw [Y6,US h1];exact Rh.2 ⟨x,hx,hs⟩
def nmW (acts:List ByteArray) (w:List Nat):List ByteArray:=w.map fun i=>(acts[i]?).getD ByteArray.empty
def GH (acts:List ByteArray) (A:Aut) (P:Lg):Prop:=∀w:List Nat,WU acts.length w→(LX A (wI w)=true↔P (nmW acts w))
def opB (o:Int) (P Q:Lg):Lg:=if o=3 then fun w=>∃u v,w=u++v∧P u∧Q v else if o=4 then fun w=>P w∨Q w else if o=6 then LpG P Q else fun w=>∃u v,Shf u v w∧P u∧Q v
theorem Hu {w:List Nat} {u v:List Int}:wI w=u++v↔∃w1 w2,w=w1++w2∧u=wI w1∧v=wI w2:=by
 unfold wI
 rw [List.map_eq_append_iff]
 exact ⟨fun ⟨a,b,h1,h2,h3⟩=>⟨a,b,h1,h2.symm,h3.symm⟩,fun ⟨a,b,h1,h2,h3⟩=>⟨a,b,h1,h2.symm,h3.symm⟩⟩
theorem Hv {acts:List ByteArray} {w:List Nat} {u v:List ByteArray}:nmW acts w=u++v↔∃w1 w2,w=w1++w2∧u=nmW acts w1∧v=nmW acts w2:=by
 unfold nmW
 rw [List.map_eq_append_iff]
 exact ⟨fun ⟨a,b,h1,h2,h3⟩=>⟨a,b,h1,h2.symm,h3.symm⟩,fun ⟨a,b,h1,h2,h3⟩=>⟨a,b,h1,h2.symm,h3.symm⟩⟩
theorem RF {m:Nat} {u v:List Nat}:WU m (u++v)↔WU m u∧WU m v:=⟨fun h=>⟨fun c hc=>h c (XZ _ hc),fun c hc=>h c (Ve _ hc)⟩,fun h c hc=>(Xh.1 hc).elim (h.1 c) (h.2 c)⟩
theorem ζy {m:Nat} {w:List Nat} (_:WU m w):∀c∈wI w,0≤c:=fun c hc=>by
 unfold wI at hc
 obtain ⟨x,_,rfl⟩:=Xg.1 hc
 exact Int.natCast_nonneg x
variable {acts:List ByteArray} {a b C:Aut} {P Q:Lg}
theorem KN (ha:IsMin a) (hP:GH acts a P) {w:List Nat} (hw:WU acts.length w):Lng a (wI w)↔P (nmW acts w):=by
 rw [←OT ha.aok (ζy hw)];exact hP w hw
theorem ζz (ha:IsMin a) (hb:IsMin b) (hsa:a.syms=acts.length) (hsb:b.syms=acts.length) (hP:GH acts a P) (hQ:GH acts b Q) (h:TJ a b= .ok C):GH acts C (opB 3 P Q):=fun w hw=>by
 unfold TJ at h
 rw [US (fun h=>h (T8 ha hb hsa hsb))] at h
 have hva:=WT ha.valid
 have hvb:=WT hb.valid
 obtain ⟨_,_,h3⟩:=Gv (OU hva hvb (by rw [hsa,hsb])) h
 have e:(Kz a b).syms.toNat=acts.length:=by show a.syms.toNat=_;rw [hsa];rfl
 rw [h3 w (by rw [e];exact hw),Zj5 hva hvb]
 show _↔∃u v,nmW acts w=u++v∧P u∧Q v
 constructor
 · rintro ⟨u,v,e1,h1,h2⟩;obtain ⟨w1,w2,rfl,rfl,rfl⟩:=Hu.1 e1;obtain ⟨hw1,hw2⟩:=RF.1 hw;exact ⟨_,_,Hv.2 ⟨w1,w2,rfl,rfl,rfl⟩,(KN ha hP hw1).1 h1,(KN hb hQ hw2).1 h2⟩
 · rintro ⟨u,v,e1,h1,h2⟩;obtain ⟨w1,w2,rfl,rfl,rfl⟩:=Hv.1 e1;obtain ⟨hw1,hw2⟩:=RF.1 hw;exact ⟨_,_,Hu.2 ⟨w1,w2,rfl,rfl,rfl⟩,(KN ha hP hw1).2 h1,(KN hb hQ hw2).2 h2⟩
theorem ZfB (ha:IsMin a) (hb:IsMin b) (hsa:a.syms=acts.length) (hsb:b.syms=acts.length) (hP:GH acts a P) (hQ:GH acts b Q) (h:LY a b= .ok C):GH acts C (opB 4 P Q):=fun w hw=>by
 unfold LY at h
 rw [US (fun h=>h (T8 ha hb hsa hsb))] at h
 have hva:=WT ha.valid
 have hvb:=WT hb.valid
 obtain ⟨_,_,h3⟩:=Gv (Pk hva hvb (by rw [hsa,hsb])) h
 have e:(Jc a b).syms.toNat=acts.length:=by show a.syms.toNat=_;rw [hsa];rfl
 rw [h3 w (by rw [e];exact hw),Zfu hva hvb,KN ha hP hw,KN hb hQ hw]
 rfl
theorem Pw:∀{w:List Nat} {u v:List Int},Mix (wI w) u v→∃w1 w2,u=wI w1∧v=wI w2∧(∀c∈w1,c∈w)∧(∀c∈w2,c∈w)∧Shf (nmW acts w1) (nmW acts w2) (nmW acts w)
 | [],_,_,h=>by
   cases h;exact ⟨[],[],rfl,rfl,fun _ h=>h,fun _ h=>h, .nil⟩
 | c ::w,_,_,h=>by
   cases h with
   | one _ h=>
     obtain ⟨w1,w2,rfl,rfl,h1,h2,h3⟩:=Pw h;exact ⟨c::w1,w2,rfl,rfl,fun x hx=>(Xq.1 hx).elim (fun e=>by rw [e];exact Xi ..) fun h=>Xn _ (h1 x h),fun x hx=>Xn _ (h2 x hx), .left h3⟩
   | two _ h=>
     obtain ⟨w1,w2,rfl,rfl,h1,h2,h3⟩:=Pw h;exact ⟨w1,c::w2,rfl,rfl,fun x hx=>Xn _ (h1 x hx),fun x hx=>(Xq.1 hx).elim (fun e=>by rw [e];exact Xi ..) fun h=>Xn _ (h2 x h), .right h3⟩
theorem Px:∀{w:List Nat} {u v:List ByteArray},Shf u v (nmW acts w)→∃w1 w2,u=nmW acts w1∧v=nmW acts w2∧(∀c∈w1,c∈w)∧(∀c∈w2,c∈w)∧Mix (wI w) (wI w1) (wI w2)
 | [],_,_,h=>by
   cases h;exact ⟨[],[],rfl,rfl,fun _ h=>h,fun _ h=>h, .nil⟩
 | c ::w,_,_,h=>by
   cases h with
   | left h=>
     obtain ⟨w1,w2,rfl,rfl,h1,h2,h3⟩:=Px h;exact ⟨c::w1,w2,rfl,rfl,fun x hx=>(Xq.1 hx).elim (fun e=>by rw [e];exact Xi ..) fun h=>Xn _ (h1 x h),fun x hx=>Xn _ (h2 x hx), .one _ h3⟩
   | right h=>
     obtain ⟨w1,w2,rfl,rfl,h1,h2,h3⟩:=Px h;exact ⟨w1,c::w2,rfl,rfl,fun x hx=>Xn _ (h1 x hx),fun x hx=>(Xq.1 hx).elim (fun e=>by rw [e];exact Xi ..) fun h=>Xn _ (h2 x h), .two _ h3⟩
theorem ZhY (ha:IsMin a) (hb:IsMin b) (hsa:a.syms=acts.length) (hsb:b.syms=acts.length) (hP:GH acts a P) (hQ:GH acts b Q) (h:RA a b= .ok C):GH acts C (opB 5 P Q):=fun w hw=>by
 unfold RA at h
 rw [US (fun h=>h (T8 ha hb hsa hsb))] at h
 split at h
 · cases h
 have hva:=WT ha.valid
 have hvb:=WT hb.valid
 obtain ⟨_,_,h3⟩:=Gv (Hm hva hvb (by rw [hsa,hsb])) h
 have e:(Kw a b).syms.toNat=acts.length:=by show a.syms.toNat=_;rw [hsa];rfl
 rw [h3 w (by rw [e];exact hw),ZhR hva hvb]
 show _↔∃u v,Shf u v (nmW acts w)∧P u∧Q v
 constructor
 · rintro ⟨u,v,e1,h1,h2⟩;obtain ⟨w1,w2,rfl,rfl,k1,k2,k3⟩:=Pw (acts:=acts) e1;exact ⟨_,_,k3,(KN ha hP fun c hc=>hw c (k1 c hc)).1 h1,(KN hb hQ fun c hc=>hw c (k2 c hc)).1 h2⟩
 · rintro ⟨u,v,e1,h1,h2⟩;obtain ⟨w1,w2,rfl,rfl,k1,k2,k3⟩:=Px e1;exact ⟨_,_,k3,(KN ha hP fun c hc=>hw c (k1 c hc)).2 h1,(KN hb hQ fun c hc=>hw c (k2 c hc)).2 h2⟩
theorem ZhZ (ha:IsMin a) (hsa:a.syms=acts.length) (hP:GH acts a P) (h:Gu a= .ok C):GH acts C (StG P):=fun w hw=>by
 unfold Gu at h
 rw [UT ha.valid] at h
 have hva:=WT ha.valid
 obtain ⟨_,_,h3⟩:=Gv (D1 hva) h
 have e:(Ji a).syms.toNat=acts.length:=by show a.syms.toNat=_;rw [hsa];rfl
 rw [h3 w (by rw [e];exact hw),ZhO hva]
 constructor
 · intro h;generalize hx:wI w=x at h;induction h generalizing w with
   | nil=>
     have:w=[]:=Ui.1 hx;rw [this];exact .nil
   | app h1 _ ih=>
     obtain ⟨w1,w2,rfl,rfl,rfl⟩:=Hu.1 hx;obtain ⟨hw1,hw2⟩:=RF.1 hw;rw [show nmW acts (w1++w2)=nmW acts w1++nmW acts w2 from Xr];exact .cons ((KN ha hP hw1).1 h1) (ih w2 hw2 rfl)
 · intro h;generalize hx:nmW acts w=x at h;induction h generalizing w with
   | nil=>
     have:w=[]:=Ui.1 hx;rw [this];exact .nil
   | cons h1 _ ih=>
     obtain ⟨w1,w2,rfl,rfl,rfl⟩:=Hv.1 hx;obtain ⟨hw1,hw2⟩:=RF.1 hw;rw [show wI (w1++w2)=wI w1++wI w2 from Xr];exact .app ((KN ha hP hw1).2 h1) (ih w2 hw2 rfl)
theorem Zh0 (ha:IsMin a) (hb:IsMin b) (hsa:a.syms=acts.length) (hsb:b.syms=acts.length) (hP:GH acts a P) (hQ:GH acts b Q) (h:GP a b= .ok C):GH acts C (opB 6 P Q):=by
 unfold GP at h
 rcases TM hb ha hsb hsa with h1|⟨X,h1,hX,hs1⟩
 · rw [h1] at h;cases h
 rw [h1] at h
 dsimp only at h
 rcases Pv hX hs1 with h2|⟨Y,h2,hY,hs2⟩
 · rw [h2] at h;cases h
 rw [h2] at h
 dsimp only at h
 have:=ζz ha hY hsa hs2 hP (ZhZ hX hs1 (ζz hb ha hsb hsa hQ hP h1) h2) h
 have e:opB 6 P Q=opB 3 P (StG (opB 3 Q P)):=by
  have e2:opB 3 Q P=RE [Q,P]:=funext fun w=>propext ⟨fun ⟨u,v,h1,h2,h3⟩=>⟨u,v,h1,h2,v,[],(Xy v).symm,h3,rfl⟩,fun ⟨u,v,h1,h2,v2,z,h3,h4,h5⟩=>⟨u,v,h1,h2,by cases h5;rw [h3,Xy];exact h4⟩⟩;rw [e2];exact Zj8 P Q
 rw [e];exact this
theorem Zh1 {o:Int} (ho:o=3∨o=4∨o=5∨o=6) (ha:IsMin a) (hb:IsMin b) (hsa:a.syms=acts.length) (hsb:b.syms=acts.length) (hP:GH acts a P) (hQ:GH acts b Q) (h:Kh o a b= .ok C):GH acts C (opB o P Q):=by
 rcases ho with rfl|rfl|rfl|rfl
 · exact ζz ha hb hsa hsb hP hQ h
 · exact ZfB ha hb hsa hsb hP hQ h
 · exact ZhY ha hb hsa hsb hP hQ h
 · exact Zh0 ha hb hsa hsb hP hQ h
variable {acts:List ByteArray}
theorem Zmc {α:Type} {l:List α} (hn:l.Nodup) {x i:Nat} (hx:x<l.length) (hi:i<l.length) (e:l[x]'hx=l[i]'hi):x=i:=by
 have h:=Up.1 hn
 rcases Nat.lt_trichotomy x i with h1|h1|h1
 · exact UU e (h x i hx hi h1)
 · exact h1
 · exact UU e.symm (h i x hi hx h1)
theorem Zh2 {a:ByteArray} (hn:acts.Nodup) (hm:acts.length≤40) (ha:a∈acts) {A:Aut} (h:GZ (Lu acts.length (idx (fun x=>KR x a) acts))= .ok A):GH acts A (fun w=>w=[a]):=fun w hw=>by
 obtain ⟨i,h2,h3,_⟩:=Lw ha
 unfold Kf at h2
 rw [h2] at h
 have hi:=(XM.1 h3).1
 have hok:Z4 (Lu acts.length (i:Nat))=true:=OV hm oM
 rw [(Pj h).2.2 w hw,OT (WT hok).toAOk (ζy hw)]
 have key:∀{s t:Int} {v:List Int},Pth (Lu acts.length (i:Nat)) s v t→(s=t∧v=[])∨(s=0∧t=1∧v=[(i:Int)]):=fun h=>by
  induction h with
  |nil s=>exact .inl ⟨rfl,rfl⟩
  | eps hm hs _ _=>
    cases Xl.1 hm;dsimp only at hs;omega
  | sym hm hs _ ih=>
    cases Xl.1 hm;dsimp only at ih ⊢;rcases ih with ⟨h1,h2⟩|⟨h1,_⟩
    · exact .inr ⟨rfl,h1.symm,by rw [h2]⟩
    · omega
 constructor
 · rintro ⟨s,hs,f,hf,hp⟩
   cases Xl.1 hs
   cases Xl.1 hf;rcases key hp with ⟨h1,_⟩|⟨_,_,h1⟩
   · omega
   · unfold wI at h1;rw [List.map_eq_singleton_iff] at h1;obtain ⟨x,rfl,hx⟩:=h1;obtain rfl:x=i:=oM;show [(acts[x]?).getD ByteArray.empty]=[a];rw [h3];rfl
 · intro h;have h:w.map (fun i=>(acts[i]?).getD ByteArray.empty)=[a]:=h;rw [List.map_eq_singleton_iff] at h;obtain ⟨x,rfl,hx⟩:=h;have hxl:=hw x (Xl.2 rfl);rw [XX hxl] at hx;have e:acts[x]'hxl=acts[i]'hi:=by rw [(XM.1 h3).2];exact hx
   obtain rfl:x=i:=Zmc hn _ _ e;refine ⟨0,Xl.2 rfl,1,Xl.2 rfl,?_⟩;exact Pth.sym (a:=Lu acts.length (x:Nat)) (m:=⟨0,1,(x:Nat)⟩) (Xl.2 rfl) (by dsimp only;omega) (.nil 1)
theorem Zkb (hm:acts.length≤40) {A:Aut} (h:GZ (Pt acts.length)= .ok A):GH acts A (fun w=>w=[]):=fun w hw=>by
 have hok:Z4 (Pt acts.length)=true:=ζx hm
 rw [(Pj h).2.2 w hw,OT (WT hok).toAOk (ζy hw)]
 constructor
 · rintro ⟨s,hs,f,hf,hp⟩;have e:∀{s t:Int} {v:List Int},Pth (Pt acts.length) s v t→v=[]:=fun h=>by
    cases h with
    |nil s=>rfl
    |eps hm _ _=>cases hm
    |sym hm _ _=>cases hm
   show w.map _=[];rw [Ui.1 (e hp)];rfl
 · intro h;have:w=[]:=Ui.1 h;subst this;exact ⟨0,Xl.2 rfl,0,Xl.2 rfl, .nil 0⟩
theorem Zkc {o:Int} (ho:o=3∨o=4∨o=5) (a:ByteArray) (P:Lg):opG o a [P]=P:=by
 rcases ho with rfl|rfl|rfl
 · exact ZdV P
 · exact funext fun w=>propext ⟨fun ⟨A,h1,h2⟩=>by cases Xl.1 h1;exact h2,fun h=>⟨P,Xl.2 rfl,h⟩⟩
 · exact and_one P
theorem Zh3 {o:Int} (ho:o=3∨o=4∨o=5) (a:ByteArray) (m:List Lg) (Q:Lg):opG o a (m++[Q])=opB o (opG o a m) Q:=by
 rcases ho with rfl|rfl|rfl
 · show RE (m++[Q])=_;rw [ZdT,ZdV];rfl
 · exact funext fun w=>propext ⟨fun ⟨A,h1,h2⟩=>(Xh.1 h1).elim (fun h=> .inl ⟨A,h,h2⟩) (fun h=>by cases Xl.1 h;exact .inr h2),fun h=>h.elim (fun ⟨A,h1,h2⟩=>⟨A,XZ _ h1,h2⟩) fun h=>⟨Q,Ve _ (Xl.2 rfl),h⟩⟩
 · show H6 (m++[Q])=_;rw [ZdU,and_one];rfl
def Zbs (acts:List ByteArray) (r:Option Aut) (P:Lg):Prop:=∀A,r=some A→IsMin A∧A.syms=acts.length∧GH acts A P
theorem Zbt {o:Int} (ho:o=3∨o=4∨o=5∨o=6) {r p:Option Aut} {P Q:Lg} (hr:Zbs acts r P) (hp:Zbs acts p Q):Zbs acts (JQ o r p) (opB o P Q):=by
 match r,p with
 | some a,some b=>
   obtain ⟨ha,hsa,hP⟩:=hr a rfl;obtain ⟨hb,hsb,hQ⟩:=hp b rfl;intro A hA;obtain ⟨h1,h2,h3⟩:=(T9 o ha hb hsa hsb).ok hA;exact ⟨h2,h3,Zh1 ho ha hb hsa hsb hP hQ h1⟩
 |none,_=>exact fun A hA=>by cases hA
 |some _,none=>exact fun A hA=>by cases hA
theorem Zbu {o:Int} (ho:o=3∨o=4∨o=5) (a:ByteArray):∀(l:List Nd) (f:Nd→Option Aut) (r:Option Aut) (m:List Lg),Zbs acts r (opG o a m)→(∀x∈l,Zbs acts (f x) (Tf x))→Zbs acts ((l.map f).foldl (JQ o) r) (opG o a (m++l.map Tf))
 |[],f,r,m,h,_=>by rw [Vg,Vg,Xy];exact h
 | x::l,f,r,m,h,h2=>by
   have:=Zbu ho a l f (JQ o r (f x)) (m++[Tf x]) (by rw [Zh3 ho];exact Zbt oM h (h2 x (Xi ..))) fun y hy=>h2 y (Xn _ hy);rw [Xz] at this;exact this
theorem Cg {a:ByteArray} {l:List Nd} (h:rightT (.mk 6 a l)=true):∃x y,l=[x,y]:=by
 unfold rightT at h
 simp [Nd.op,Nd.l,Nd.act] at h
 match l,h with
 |[x,y],_=>exact ⟨x,y,rfl⟩
theorem Zbv {o:Int} (ho:o=3∨o=4∨o=5) {a:ByteArray} {l:List Nd} (h:rightT (.mk o a l)=true):∃x m,l=x::m:=by
 cases l with
 |nil=>rcases ho with rfl|rfl|rfl<;>simp [rightT,Nd.op,Nd.l] at h
 |cons x m=>exact ⟨x,m,rfl⟩
theorem Zh4 (hn:acts.Nodup) (hm:acts.length≤40):∀t:Nd,okT t=true→(∀s∈Y6 t,s∈acts)→Zbs acts (bldT acts t) (Tf t):=Nd.ind fun o a l ih hok ha=>by
 obtain ⟨hr,hp⟩:=Wx.1 hok
 have hops:=RY hr
 simp only [Nd.op,Nd.l] at hops hp
 have hpart:∀x∈l,o≠1→Zbs acts (bldT acts x) (Tf x):=fun x hx h1=>ih x hx (hp x hx) fun s hs=>ha s (by rw [Y6,US h1];exact Rh.2 ⟨x,hx,hs⟩)
 by_cases h1:o=1
 · subst h1;intro A hA;have hmem:a∈acts:=ha a (by rw [Y6,UT rfl];exact Xi ..);rw [bldT,UT rfl] at hA;obtain ⟨i,h2,h3,_⟩:=Lw hmem;have hi:=(XM.1 h3).1;obtain ⟨k1,k2,k3⟩:=(Lv (m:=acts.length) (OV hm (by unfold Kf at h2;rw [h2];omega)) rfl).ok hA;exact ⟨k2,k3,Zh2 hn hm hmem k1⟩
 by_cases h2:o=2
 · subst h2;intro A hA;rw [bldT,US dC,UT rfl] at hA;obtain ⟨k1,k2,k3⟩:=(Lv (m:=acts.length) (ζx hm) rfl).ok hA;exact ⟨k2,k3,Zkb hm k1⟩
 rw [ZhV acts o a l h1 h2,Zj7]
 by_cases h6:o=6
 · subst h6;obtain ⟨x,y,rfl⟩:=Cg hr;exact Zbt (o:=6) oM (hpart x sM h1) (hpart y sM h1)
 · have ho:o=3∨o=4∨o=5:=oM;obtain ⟨x,m,rfl⟩:=Zbv ho hr;exact Zbu ho a m (bldT acts) (bldT acts x) [Tf x] (by rw [Zkc ho];exact hpart x (Xi ..) h1) fun y hy=>hpart y (Xn _ hy) h1
theorem Zkd {a b:Aut} (ha:IsMin a) (hb:IsMin b) (hs:a.syms=b.syms) (op:Int):cmpX a b op=(false,[],13)∨(cmpX a b op=(true,[],0)∧∀w,WU a.syms.toNat w→Ot op (LX a (wI w)) (LX b (wI w))=false)∨∃u,WU a.syms.toNat u∧cmpX a b op=(false,wI u,0)∧Ot op (LX a (wI u)) (LX b (wI u))=true:=by
 have hf:WW a b=0:=ζu ha.valid hb.valid hs
 cases hq:prodQ a b with
 |none=>exact .inl (Cc hf ha.red hb.red hq)
 | some q=>
   obtain ⟨o,rows⟩:=q;have hP:PQ a b o rows:=⟨ha,hb,hs,hq⟩;have hc:=Ca (op:=op) hf ha.red hb.red hq
   cases hx:(o.map (Wz a b op)).idxOf? true with
   | none=>
     rw [Zfy hx] at hc;refine .inr (.inl ⟨hc,fun w hw=>?_⟩);obtain ⟨h5,_⟩:=hP.run (op:=op) w hw;obtain ⟨x,hx'⟩:=Zp h5;rw [←hP.fin (op:=op) hw hx']
     cases hp:Wz a b op x with
     |false=>rfl
     | true=>
       exfalso;rw [List.idxOf?_eq_none_iff] at hx;exact hx (Xg.2 ⟨x,Xc hx',hp⟩)
   | some i=>
     rw [Zfx hx] at hc;obtain ⟨hi,_⟩:=Zbp.1 hx;(have hil:i<o.length:=by have:=Zf hi;rwa [Xd] at this);obtain ⟨u,hu,e,hr⟩:=hP.way (op:=op) i hil;refine .inr (.inr ⟨u,hu,by rw [hc,e],?_⟩);obtain ⟨x,hx'⟩:=Zp hil;rw [←hP.fin (op:=op) hu (x:=x) (by rw [hr];exact hx')];rw [Xm,hx'] at hi;simpa using hi
theorem Zh5 (ks:List ByteArray):(K1 ks).Perm ks:=by
 have h:=(Ul (ks.map toB) fun x y=>decide (x≤y)).map ofB
 have e:(ks.map toB).map ofB=ks:=by rw [XI];exact (VH fun s _=>ON s).trans (List.map_id ks)
 rw [e] at h
 exact h
theorem RG {ks:List ByteArray} {s:ByteArray}:s∈K1 ks↔s∈ks:=(Zh5 ks).mem_iff
theorem ζA {ks:List ByteArray} (h:ks.Nodup):(K1 ks).Nodup:=(Zh5 ks).nodup_iff.2 h
noncomputable def unK (a b:Nd):List ByteArray:=colS (colS [] (Y6 a)) (Y6 b)
noncomputable def unT (a b:Nd):List ByteArray:=K1 (unK a b)
theorem Zh6 (a b:Nd):(unK a b).Nodup:=GK _ _ (GK _ _ XN)
theorem ZdW {a b:Nd} {s:ByteArray}:s∈unK a b↔s∈Y6 a∨s∈Y6 b:=by unfold unK;rw [Gl,Gl];simp
theorem OW {a b:Nd} {s:ByteArray}:s∈unT a b↔s∈Y6 a∨s∈Y6 b:=by unfold unT;rw [RG,ZdW]
theorem Zh7 (a b:Nd):(unT a b).Nodup:=ζA (Zh6 a b)
theorem OX (a b:Nd):(unT a b).length=(unK a b).length:=JK _
def nmI (acts:List ByteArray) (w:List Int):List ByteArray:=w.map fun i=>(acts[i.toNat]?).getD ByteArray.empty
noncomputable def eqTX (a b:Nd):Bool×List ByteArray×Int:=
 if Y3 a=true∧Y3 b=true then
  if (unK a b).length≤40 then match bldT (unT a b) a,bldT (unT a b) b with
   |some x,some y=>((cmpX x y 4).1,nmI (unT a b) (cmpX x y 4).2.1,(cmpX x y 4).2.2)
   |_,_=>(false,[],13)
  else (false,[],5)
 else (false,[],1)
theorem Zh8 {acts:List ByteArray} {t:Nd} (hn:acts.Nodup) (hm:acts.length≤40) (hv:Y3 t=true) (ha:∀s∈Y6 t,s∈acts) {A:Aut} (h:bldT acts t=some A):IsMin A∧A.syms=acts.length∧GH acts A (Tf t):=Zh4 hn hm t (K' hv) ha A h
theorem ZfC {m:Nat} {a:Aut} (h:a.syms=m) {w:List Nat}:WU a.syms.toNat w↔WU m w:=by rw [h];rfl
theorem Zke {t:Nd} (h:(actR t).2=0):Y3 t=true∧(actR t).1=K1 (colS [] (Y6 t))∧(actR t).1.length≤40∧(actR t).1.Nodup∧∀s,s∈(actR t).1↔s∈Y6 t:=by
 unfold actR at h ⊢
 by_cases h1:Y3 t=true
 · rw [UT h1] at h ⊢;by_cases h2:(colS [] (Y6 t)).length≤40
   · rw [UT h2] at h ⊢;dsimp only;exact ⟨h1,rfl,by rw [JK];exact h2,ζA (GK _ _ XN),fun s=>by rw [RG,Gl];simp⟩
   · rw [US h2] at h;cases h
 · rw [US h1] at h;cases h
theorem Zh9 {acts:List ByteArray} {s:ByteArray} (h:Kf acts s<0):s∉acts:=fun hs=>by
 obtain ⟨i,h1,_⟩:=Lw hs
 omega
theorem Zmd {acts:List ByteArray} {s:ByteArray} (h:¬Kf acts s<0):∃i:Nat,Kf acts s=i∧acts[i]? =some s:=by
 by_cases hs:s∈acts
 · obtain ⟨i,h1,h2,_⟩:=Lw hs;exact ⟨i,h1,h2⟩
 · exfalso;refine h ?_;unfold Kf;rw [Tl (fun i y _ hy=>?_)]
   · decide
   · cases h2:KR y s with
     |false=>rfl
     |true=>exact UU (SL.1 h2▸Xc hy) hs
theorem ZdX:∀t:Nd,okT t=true→(Y6 t).length≤szT t:=Nd.ind fun o a l ih h=>by
 obtain ⟨hr,hp⟩:=Wx.1 h
 have key:∀m:List Nd,(∀x∈m,x∈l)→(Gj m).length≤szL m:=fun m=>by
  induction m with
  |nil=>intro _;exact Xj _
  | cons x m ihm=>
    intro hm;rw [Gj,szL,Xb];have h1:=ih x (hm x (Xi ..)) (hp x (hm x (Xi ..)));have h2:=ihm fun y hy=>hm y (Xn _ hy);omega
 have:=key l fun _ h=>h
 rw [Y6,szT]
 split
 · rw [Xk];omega
 · omega
theorem Ch:∀a b:List UInt8,Op.bytesLess a b=decide (a<b)
 |_,[]=>by simp [Op.bytesLess]
 |[],_::_=>by simp [Op.bytesLess]
 | x::a,y::b=>by
   rw [Op.bytesLess,Ch a b,VY];simp [List.cons_lt_cons_iff]
noncomputable def canB (l:List ByteArray):List ByteArray:=K1 (colS [] l)
theorem GC {l m:List ByteArray} (h:∀s,s∈l↔s∈m):canB l=canB m:=Et (ZeV h)
theorem Ly {l:List ByteArray} {s:ByteArray}:s∈canB l↔s∈l:=by unfold canB;rw [RG,Gl];simp
theorem Zbw:canB []=[]:=by unfold canB K1 colS;simp
def Sk (l:List ByteArray):Prop:=l.Pairwise fun x y=>Yn x y=true
theorem Zia {x y:ByteArray}:Yn x y=decide (toB x<toB y):=by
 unfold Yn toB
 rw [Ch,ByteArray.toList_eq,ByteArray.toList_eq]
theorem Zbx {ks:List ByteArray} (h:ks.Nodup):Sk (K1 ks):=by
 have htr:∀a b c:List UInt8,decide (a≤b)=true→decide (b≤c)=true→decide (a≤c)=true:=fun a b c h1 h2=>by
  simp only [UP] at*;exact List.le_trans h1 h2
 have hto:∀a b:List UInt8,(decide (a≤b)||decide (b≤a))=true:=fun a b=>by
  simp only [X3,UP];exact List.le_total a b
 have h1:=Uk htr hto (ks.map toB)
 have h2:(K1 ks).Pairwise fun x y=>decide (toB x≤toB y)=true:=by
  unfold K1;rw [Um];exact h1.imp fun {a b} h=>by rw [ZdB,ZdB];exact h
 have h3:=ζA h
 exact List.Pairwise.imp₂ (fun {a b} k1 k2=>by
  rw [Zia];simp only [UP] at k1 ⊢;refine Decidable.byContradiction fun hn=>k2 ?_;have e:toB a=toB b:=List.le_antisymm k1 (List.not_lt.1 hn);rw [←ON a,e,ON]) h2 h3
theorem Hw (l:List ByteArray):Sk (canB l):=Zbx (GK _ _ XN)
theorem Zib:∀{l m:List ByteArray},Sk l→Sk m→(∀s,s∈l↔s∈m)→l=m:=fun {l m} hl hm h=>by
 have nd:∀{l:List ByteArray},Sk l→l.Nodup:=fun h=>h.imp fun {a b} h e=>by rw [e,K9] at h;cases h
 refine List.Perm.eq_of_pairwise (le:=fun x y=>Yn x y=true) (fun a b _ _ h1 h2=>?_) hl hm ((List.perm_ext_iff_of_nodup (nd hl) (nd hm)).2 h)
 exact UU (KS h1 h2) (by rw [K9];decide)
theorem RH {l m:List ByteArray} (h:Sk l) (hm:∀s,s∈l↔s∈m):l=canB m:=Zib h (Hw m) fun s=>by rw [hm,Ly]
def Jy (s:ByteArray) (m:List ByteArray):List ByteArray:=m.filter (Yn · s)++(if m.any (Yn s ·)=true then [s] else [])++m.filter (Yn s ·)
def TN (s:ByteArray) (m:List ByteArray):List ByteArray:=m.filter (Yn · s)++[s]++m.filter (Yn s ·)
theorem KX {α:Type} (p:α→Bool) (l:List α) (x:α):(l++[x]).filter p=l.filter p++(if p x=true then [x] else []):=by
 rw [Vd]
 congr 1
 cases h:p x<;>simp [List.filter_cons,h]
theorem ζB {s:ByteArray} {m:List ByteArray} (h:m.any (Yn s ·)=false):m.filter (Yn s ·)=[]:=List.filter_eq_nil_iff.2 fun x hx hl=>by
 rw [List.any_eq_false] at h;exact h x hx hl
theorem ZfD {s x:ByteArray} {m:List ByteArray} (h:m.any (Yn s ·)=false) (hx:Yn s x=true):Jy s (m++[x])=Jy s m++[s]++[x]:=by
 have h2:Yn x s=false:=by
  cases h3:Yn x s
  · rfl
  · exact UU (KS hx h3) (by rw [K9];decide)
 unfold Jy
 rw [KX,KX,VK,h,ζB h]
 simp [hx,h2]
theorem ZfE {s x:ByteArray} {m:List ByteArray} (h:m.any (Yn s ·)=false) (hx:Yn s x=false) (hne:x≠s):Jy s (m++[x])=Jy s m++[x]:=by
 have h2:Yn x s=true:=by
  cases h3:Yn x s
  · exact UU (Ts h3 hx) hne
  · rfl
 unfold Jy
 rw [KX,KX,VK,h,ζB h]
 simp [hx,h2]
theorem ZfF {s x:ByteArray} {m:List ByteArray} (h:m.any (Yn s ·)=true) (hm:∀y∈m,Yn y x=true):Jy s (m++[x])=Jy s m++[x]∧(m++[x]).any (Yn s ·)=true:=by
 obtain ⟨y,hy,h1⟩:=VW.1 h
 have hx:Yn s x=true:=KS h1 (hm y hy)
 have h2:Yn x s=false:=by
  cases h3:Yn x s
  · rfl
  · exact UU (KS hx h3) (by rw [K9];decide)
 refine ⟨?_,by rw [VK,h];rfl⟩
 unfold Jy
 rw [KX,KX,VK,h]
 simp [hx,h2]
theorem Zic {s:ByteArray} {m:List ByteArray} (h:m.any (Yn s ·)=true):Jy s m=TN s m:=by unfold Jy TN;rw [UT h]
theorem ZfG {s:ByteArray} {m:List ByteArray} (h:m.any (Yn s ·)=false):Jy s m++[s]=TN s m:=by unfold Jy TN;rw [h,ζB h];simp
theorem Zid {s:ByteArray} {m:List ByteArray} (h:Sk m):Sk (TN s m):=by
 unfold TN Sk
 rw [Uq,Uq]
 refine ⟨⟨h.filter _,VI ..,fun a ha b hb=>?_⟩,h.filter _,fun a ha b hb=>?_⟩
 · rw [Xl.1 hb];exact (XY.1 ha).2
 · have hb:=(XY.1 hb).2;rcases Xh.1 ha with ha|ha
   · exact KS (XY.1 ha).2 hb
   · rw [Xl.1 ha];exact hb
theorem Zie {s x:ByteArray} {m:List ByteArray}:x∈TN s m↔x∈m∨x=s:=by
 unfold TN
 rw [Xh,Xh,XY,XY,Xl]
 constructor
 · rintro ((h|h)|h)
   · exact .inl h.1
   · exact .inr h
   · exact .inl h.1
 · rintro (h|h)
   · cases h1:Yn x s
     · cases h2:Yn s x
       · exact .inl (.inr (Ts h1 h2))
       · exact .inr ⟨h,rfl⟩
     · exact .inl (.inl ⟨h,rfl⟩)
   · exact .inl (.inr h)
theorem Zif {s:ByteArray} {l:List ByteArray}:TN s (canB l)=canB (l++[s]):=RH (Zid (Hw l)) fun x=>by rw [Zie,Ly,Xh,Xl]
theorem ZdY {s:ByteArray} {l:List ByteArray} (h:s∈canB l):canB l=canB (l++[s]):=GC fun x=>by
 rw [Xh,Xl]
 exact ⟨.inl,fun h1=>h1.elim id fun e=>by rw [e];exact Ly.1 h⟩
mutual
def nulT:Nd→Bool
 | .mk o _ l=>if o=2 then true else if o=1 then false else if o=6 then (ZfH l).headD false else if o=4 then (ZfH l).any id else (ZfH l).all id
def ZfH:List Nd→List Bool
 |[]=>[]
 |x::l=>nulT x::ZfH l
end
mutual
def shoT:Nd→Int
 | .mk o _ l=>if o=2 then 0 else if o=1 then 1 else if o=6 then (ZfI l).headD 0 else if o=4 then (match ZfI l with|[]=>0|n::m=>m.foldl min n) else (ZfI l).foldl (· + ·) 0
def ZfI:List Nd→List Int
 |[]=>[]
 |x::l=>shoT x::ZfI l
end
def seqE:List (Bool×List ByteArray)→List ByteArray
 |[]=>[]
 |(b,e)::m=>e++(if b=true then seqE m else [])
def Ci:List (Bool×List ByteArray)→List ByteArray
 |(b,e)::(_,e2)::_=>e++(if b=true then e2 else [])
 |_=>[]
def opE (last:Bool) (o:Int) (a:ByteArray) (ps:List (Bool×List ByteArray)):List ByteArray:=if o=2 then [] else if o=1 then [a] else if o=6 then Ci ps else if o=3 then seqE (if last=true then ps.reverse else ps) else ps.flatMap (·.2)
mutual
def edgT (last:Bool):Nd→List ByteArray
 | .mk o a l=>opE last o a (Zkf last l)
def Zkf (last:Bool):List Nd→List (Bool×List ByteArray)
 |[]=>[]
 |x::l=>(nulT x,edgT last x)::Zkf last l
end
theorem Zkg (l:List Nd):ZfH l=l.map nulT:=by
 induction l with
 |nil=>rfl
 |cons x l ih=>rw [ZfH,ih];rfl
theorem Zkh (l:List Nd):ZfI l=l.map shoT:=by
 induction l with
 |nil=>rfl
 |cons x l ih=>rw [ZfI,ih];rfl
theorem Zki (last:Bool) (l:List Nd):Zkf last l=l.map fun x=>(nulT x,edgT last x):=by
 induction l with
 |nil=>rfl
 |cons x l ih=>rw [Zkf,ih];rfl
theorem Zig (o:Int) (a:ByteArray) (l:List Nd):nulT (.mk o a l)=if o=2 then true else if o=1 then false else if o=6 then (l.map nulT).headD false else if o=4 then (l.map nulT).any id else (l.map nulT).all id:=by rw [nulT,Zkg]
theorem Zc7 (o:Int) (a:ByteArray) (l:List Nd):shoT (.mk o a l)=if o=2 then 0 else if o=1 then 1 else if o=6 then (l.map shoT).headD 0 else if o=4 then (match l.map shoT with|[]=>0|n::m=>m.foldl min n) else (l.map shoT).foldl (· + ·) 0:=by rw [shoT,Zkh]
theorem Hx (last:Bool) (o:Int) (a:ByteArray) (l:List Nd):edgT last (.mk o a l)=opE last o a (l.map fun x=>(nulT x,edgT last x)):=by rw [edgT,Zki]
theorem Py:∀t:Nd,0≤shoT t∧shoT t≤szT t:=Nd.ind fun o a l ih=>by
 rw [Zc7,szT]
 have hs:0≤(szL l:Int):=Int.natCast_nonneg _
 have hsum:∀(m:List Nd),(∀x∈m,0≤shoT x∧shoT x≤szT x)→∀k:Int,0≤k→k≤(m.map shoT).foldl (· + ·) k∧(m.map shoT).foldl (· + ·) k≤k+szL m:=fun m=>by
  induction m with
  |nil=>intro _ k hk;rw [szL];simp
  | cons x m ihm=>
    intro h k hk;have h1:=h x (Xi ..);have:=ihm (fun y hy=>h y (Xn _ hy)) (k+shoT x) oM;rw [szL,Xp,X'];omega
 have hmin:∀(m:List Int) (k:Int),0≤k→(∀x∈m,0≤x)→0≤m.foldl min k∧m.foldl min k≤k:=fun m=>by
  induction m with
  |nil=>intro k hk _;exact ⟨hk,VA _⟩
  | cons x m ihm=>
    intro k hk h;have h1:=h x (Xi ..);have:=ihm (min k x) oM fun y hy=>h y (Xn _ hy);rw [X'];omega
 split
 · omega
 split
 · omega
 split
 · cases l with
   |nil=>simp;omega
   | cons x l=>
     have:=ih x (Xi ..);rw [Xp,szL];show 0≤shoT x∧_;simp only [List.headD_cons];omega
 split
 · cases l with
   |nil=>simp;omega
   | cons x l=>
     have h1:=ih x (Xi ..);have h2:=hmin (l.map shoT) (shoT x) h1.1 fun y hy=>by
      obtain ⟨z,hz,rfl⟩:=Xg.1 hy;exact (ih z (Xn _ hz)).1
     rw [Xp,szL];dsimp only;omega
 · have:=hsum l ih 0 (VA _);omega
theorem Zih (a b:List (Bool×List ByteArray)):∀s,s∈seqE (a++b)↔s∈seqE a∨((a.all (·.1))=true∧s∈seqE b):=fun s=>by
 induction a with
 |nil=>simp [seqE]
 | cons x a ih=>
   obtain ⟨c,e⟩:=x;rw [XW];show s∈e++(if c=true then seqE (a++b) else [])↔s∈e++(if c=true then seqE a else [])∨_
   cases c
   · simp
   · simp only [if_true,Xh,ih,XD,Bool.true_and];exact ⟨fun h=>h.elim (fun h=> .inl (.inl h)) fun h=>h.elim (fun h=> .inl (.inr h)) .inr,fun h=>h.elim (fun h=>h.elim .inl fun h=> .inr (.inl h)) fun h=> .inr (.inr h)⟩
structure Fx where
 nul:Bool
 fs:List ByteArray
 ls:List ByteArray
 sho:Int
def cFx (x:Fx):List PV:=[ZM x.nul, .smap (skv (Yf x.fs)), .smap (skv (Yf x.ls)),pInt x.sho]
def bkv (g:Nat):Value:= .func (.func 173) #[] #[.pointer (some ⟨g,0,none⟩)]
def bkE (g:Nat) (hd:Value):Ent:=(itv g, .oblk (itv g) g (.cells #[hd] 154) [])
section
variable {c:Ctx} {ops:Array Oper} {Q:Exit→Act→World→Prop} {rest:List Oper} {sL hP:List (Nat×Ent)} {o:Oper}
theorem Zme {x:Operand} {v:Value} {p:PV} {ats:Array TypeId} (d:Nat) (hv1:∀M w,Shr M w v p→v.oneCell'=true) (k:∀g:Nat,aL prog c ops Q rest ⟨put d (bkv g, .val (bkv g)) sL,put d (bkE g v) hP⟩)
 (hw:ZT ops sL o=some true:=by exact rfl) (hd:o.dst=some d:=by exact rfl) (hn:d<c.nt:=by exact Xa rfl) (ho:o.op= .call {callee:= .value (.func 124),args:= #[x],argTypes:=ats}:=by exact rfl) (hx:ev sL x=some (v,p):=by exact rfl) (hl:lk hP d=none:=by exact rfl):aL prog c ops Q (o::rest) (⟨sL,hP⟩:St):=
 Yy hw fun a w F H=>by
  obtain ⟨hv,hS⟩:=H.rd.ev hx;have key:HoldsF c ⟨put d (bkv w.heap.size, .val (bkv w.heap.size)) sL,put d (bkE w.heap.size v) hP⟩ (fun l'=>if l'=d then (fun x=>x=w.heap.size) else F l') (a.put (some d) (bkv w.heap.size)) (w.alloc (.cells #[v] 154)):=by
   refine H.change (fun l'=>l'=d) hn ((Ext.alloc _ _).chg) (fun l' x hne hx'=>?_) (fun l' x b' hT hx' hb=>?_) (fun hm l' u q hT hx'=>?_) (fun l1 l2 _ _ _ h1 h2 hne=>UU (h1.trans h2.symm) hne) (fun hm=> .val _)
   · rcases Ya hx' with ⟨e1,_⟩|⟨_,e1⟩
     · exact UU e1.symm hne
     · exact ⟨e1,by simp [hne]⟩
   · subst hT;simp only [if_true] at hb;exact .inr (by rw [hb];exact Xj _)
   · subst hT;rw [ZW] at hx';unfold bkE at hx'
     cases hx';simp only [if_true];refine .oblk w.heap.size rfl ?_ (fun p hp=>by cases hp) (fun x=>Iff.rfl);show (w.heap.push _)[w.heap.size]? =_;simp
  have hrun:(execOp a.eval o).run prog w= .ok (.enter 124 #[v]) w:=by
   have hev:a.eval (.func 124)= .func (.func 124) #[] #[]:=rfl;simp [execOp,ho,resolve,Deferred.ofValue,hev,invoke,hv,call124]
  unfold Oper.wp;rw [hrun,Oper.upon_enter];refine (callsIn_wide.1 (ZmY v w (hv1 _ _ hS))).mono fun e' w' ⟨he,hw'⟩=>?_;subst he hw';rw [hd];exact k _ _ _ ⟨_,key⟩
end
theorem Hy:∀{m:List (Bool×List ByteArray)},(∀p∈m,p.1=true)→∀s,s∈seqE m↔∃p∈m,s∈p.2
 |[],_,s=>by simp [seqE]
 | (b,e)::m,h,s=>by
   have hb:b=true:=h _ (Xi ..);subst hb;show s∈e++(if true=true then seqE m else [])↔_;rw [UT rfl,Xh,Hy fun p hp=>h p (Xn _ hp)];constructor
   · rintro (h1|⟨p,hp,h1⟩)
     · exact ⟨_,Xi ..,h1⟩
     · exact ⟨p,Xn _ hp,h1⟩
   · rintro ⟨p,hp,h1⟩;rcases Xq.1 hp with rfl|hp
     · exact .inl h1
     · exact .inr ⟨p,hp,h1⟩
theorem Pz:∀{m r:List (Bool×List ByteArray)} {e:List ByteArray},(∀p∈m,p.1=true)→∀s,s∈seqE (m++(false,e)::r)↔(∃p∈m,s∈p.2)∨s∈e
 | [],r,e,_,s=>by
   show s∈e++(if false=true then seqE r else [])↔_;simp
 | (b, e')::m,r,e,h,s=>by
   have hb:b=true:=h _ (Xi ..);subst hb;show s∈e'++(if true=true then seqE (m++(false,e)::r) else [])↔_;rw [UT rfl,Xh,Pz fun p hp=>h p (Xn _ hp)];constructor
   · rintro (h1|⟨p,hp,h1⟩|h1)
     · exact .inl ⟨_,Xi ..,h1⟩
     · exact .inl ⟨p,Xn _ hp,h1⟩
     · exact .inr h1
   · rintro (⟨p,hp,h1⟩|h1)
     · rcases Xq.1 hp with rfl|hp
       · exact .inl h1
       · exact .inr (.inl ⟨p,hp,h1⟩)
     · exact .inr (.inr h1)
def GD (xs:List Fx) (k:Nat):Bool×List ByteArray:=match xs[k]? with|some x=>(x.nul,x.ls)|none=>(true,[])
def Hz (xs:List Fx):List (Bool×List ByteArray):=xs.map fun x=>(x.nul,x.ls)
theorem HA (xs:List Fx):∀k,k≤xs.length→(Hz xs).reverse.take k=(KE xs.length k).map (GD xs)
 |0,_=>by simp [KE]
 | k +1,h=>by
   have h1:(Hz xs).reverse[k]? =some (GD xs (xs.length-1-k)):=by
    unfold Hz GD;rw [List.getElem?_reverse (by rw [Xd];omega),Xd,Xm];rw [XX (show xs.length-1-k<xs.length by omega)];rfl
   rw [ZE h1,HA xs k oM,P2,Xr];rfl
theorem Zii {xs:List Fx} {ys:List {k:Nat//k<xs.length}} (h:ys.map (·.1)=KE xs.length xs.length) (hn:∀k∈ys,(GD xs k.1).1=true) (s:ByteArray):s∈seqE (Hz xs).reverse↔∃k∈ys,s∈(GD xs k.1).2:=by
 have h1:=HA xs xs.length (Xj _)
 rw [Xo (by unfold Hz;simp),←h,XI] at h1
 rw [h1,Hy]
 · constructor
   · rintro ⟨p,hp,hs⟩;obtain ⟨k,hk,rfl⟩:=Xg.1 hp;exact ⟨k,hk,hs⟩
   · rintro ⟨k,hk,hs⟩;exact ⟨_,Xg.2 ⟨k,hk,rfl⟩,hs⟩
 · intro p hp;obtain ⟨k,hk,rfl⟩:=Xg.1 hp;exact hn k hk
theorem ZfJ {xs:List Fx} {pre:List {k:Nat//k<xs.length}} {x:{k:Nat//k<xs.length}} {n:Nat} (hn0:n≤xs.length) (h:(pre++[x]).map (·.1)=KE xs.length n) (hn:∀k∈pre,(GD xs k.1).1=true) (hx:(GD xs x.1).1=false) (s:ByteArray):
 s∈seqE (Hz xs).reverse↔∃k∈pre++[x],s∈(GD xs k.1).2:=by
 have h1:=HA xs n hn0
 rw [←h,XI,Xr] at h1
 have h2:(Hz xs).reverse=pre.map (GD xs∘fun x=>x.1)++(false,(GD xs x.1).2)::(Hz xs).reverse.drop n:=by
  conv=>lhs;rw [←Vy n (Hz xs).reverse,h1]
  rw [Xz];have:(GD xs∘fun x:{k:Nat//k<xs.length}=>x.1) x=(false,(GD xs x.1).2):=by
   show GD xs x.1=_;rw [←hx]
  rw [UK,this];rfl
 rw [h2,Pz]
 · constructor
   · rintro (⟨p,hp,hs⟩|hs)
     · obtain ⟨k,hk,rfl⟩:=Xg.1 hp;exact ⟨k,XZ _ hk,hs⟩
     · exact ⟨x,sM,hs⟩
   · rintro ⟨k,hk,hs⟩;rcases Xh.1 hk with hk|hk
     · exact .inl ⟨_,Xg.2 ⟨k,hk,rfl⟩,hs⟩
     · rw [Xl] at hk;subst hk;exact .inr hs
 · intro p hp;obtain ⟨k,hk,rfl⟩:=Xg.1 hp;exact hn k hk
theorem Zby {M:BS} {w:World} {v:Value} {kv:List (Value×Value)} {F:BS} (h:Tr M w v (.omap kv) F):∃b es clock,v= .map (some b)∧w.heap[b]? =some (.map es clock)∧(∀x,F x↔x=b)∧WfM es clock∧kvOf es=kv:=by
 generalize hp:PV.omap kv=p at h
 cases h with
 |shr h _=>subst hp;cases h
 |omap b es clock h hF hW=>injection hp with hp;exact ⟨b,es,clock,rfl,h,hF,hW,hp.symm⟩
 |_=>cases hp
theorem Zkj {M:BS} {w:World} {v:Value} {n:Nat} {cs:List PV} (h:Shr M w v (.sl n cs)) (hn:0<n):∃(b off c:Nat) (vs:Nat→Value),v= .slice (some ⟨b,off,none⟩) n c∧n≤c∧c≤maxLen∧(∀i:Nat,i<cs.length→w.cell? ⟨b,off+i,none⟩=some (vs i)∧¬M b)∧∀(i:Nat) (p:PV),cs[i]? =some p→Shr M w (vs i) p:=by
 cases h with
 |emp a c hc ha=>omega
 |sl b off n c cs vs h1 h2 h3 h4=>exact ⟨b,off,c,vs,rfl,h1,h2,h3,h4⟩
theorem Cj {w:World} {e k n b:Nat} {v:Value} {ys:List Value} (h:w.ownsRow 0 e k v n ys) (hb:v.ownBlock=some b):∃o:Obj,w.heap[b]? =some o∧o.isCells=true:=by
 rcases h.2 with ⟨h1,_⟩|⟨g,cap,cur,h1,_,hh,_⟩
 · rw [h1] at hb;simp [Value.ownBlock] at hb
 · rw [h1] at hb;simp [Value.ownBlock] at hb;subst hb;exact ⟨_,hh,rfl⟩
def BkI (xs:List Fx) (w:World) (N:BS) (b18:Nat) (pre:List {k:Nat//k<xs.length}) (W:World):Prop:=∃(ks:List ByteArray) (es:Array MapEntry) (clock:Nat),ks.Nodup∧(∀s,s∈ks↔∃k∈pre,s∈(GD xs k.1).2)∧Chg N w W∧W.heap[b18]? =some (.map es clock)∧WfM es clock∧kvOf es=skv (Yf ks)
theorem BkI.from {xs:List Fx} {w:World} {N:BS} {b18:Nat} (hb:b18<w.heap.size) (P:List {k:Nat//k<xs.length}→Prop):OwnFrom w.heap.size (fun pre W=>P pre∧BkI xs w N b18 pre W):=fun pre W W' row ⟨hP,ks,es,clock,h1,h2,h3,h4,h5,h6⟩ hg hr=>by
 have hlt:∀k,k<w.heap.size→W'.heap[k]? =W.heap[k]? :=fun k hk=>hg.block k (Ur hk h3.size) fun e=>by
  have:=(hr k e.symm).1;omega
 exact ⟨hP,ks,es,clock,h1,h2,⟨hg.os.trans h3.os,hg.tape.trans h3.tape,hg.output.trans h3.output,X6 h3.size hg.size,fun k hk hn=>(hlt k hk).trans (h3.block k hk hn)⟩,(hlt b18 hb).trans h4,h5,h6⟩
theorem ZdZ {N:BS} {g b:Nat} {W W':World} (h:Chg N W W') (hg:¬N g) (hb:¬N b):KpB g b W W':=fun p v hp hv=>by
 have hlt:=World.block_lt_of_cell? _ _ hv
 have:W'.heap[p.block]? =W.heap[p.block]? :=h.block _ hlt (by rcases hp with hp|hp<;>rw [hp]<;>assumption)
 exact (World.cell?_of_block this).trans hv
theorem Ck {N:BS} {B:Nat} {W W':World} (h:Chg N W W') (hN:∀k,N k→B≤k→∃o:Obj,W.heap[k]? =some o∧o.isCells=true):KeepsFrom B W W':=⟨h.size,fun k o hB hk ho=>by
 have hlt:=Yu hk
 by_cases hn:N k
 · obtain ⟨o',h1,h2⟩:=hN k hn hB;rw [hk] at h1;cases h1;rw [ho] at h2;cases h2
 · exact (h.block k hlt hn).trans hk⟩
set_option maxHeartbeats 1000000 in
theorem ZfK {w0:World} {M0 N0:BS} {nt g:Nat} {Q0:Exit→Act→World→Prop} {sL hP:List (Nat×Ent)} {xs:List Fx} {h3 hd m17 m18:Value} {q3:PV} {N:Bool} {S:Int} {la:List Oper} {ida:Nat} {body:Code} (hnt:82<nt) (hne:0<xs.length) (hle:xs.length≤1000000)
 (hs80:lk sL 80=some (bkv g, .val (bkv g))) (hh80:lk hP 80=some (bkE g hd)) (hs79:lk sL 79=some (hd, .sl xs.length (xs.flatMap cFx))) (hs3:lk sL 3=some (padd (sbase h3) 0,q3)) (hh3:lk hP 3=some (h3, .own 105 4 1 [ZM N, .val m17, .val m18,pInt S])) (hh18:lk hP 18=some (m18, .omap (skv (Yf [])))) (hh5:lk hP 5000=none)
 (hda:∀o∈la,∀c,o.op≠ .defer c)
 (hA:∀(w0:World) (M0 N0:BS) (Q:Exit→Act→World→Prop) (e3 v0 v1 v2 v3:Value),v0.oneCell'=true→v1.oneCell'=true→v2.oneCell'=true→v3.oneCell'=true→(∀h10:Value,aN ⟨w0,M0,N0,nt,False,[]⟩ Q ⟨[(3,e3, .val e3),(10,padd (sbase h10) 0, .val (padd (sbase h10) 0))],[(10,h10, .own 105 4 1 [.val v0, .val v1, .val v2, .val v3])]⟩)→aL prog ⟨w0,M0,N0,nt,False,[]⟩ la.toArray Q la ⟨[(3,e3, .val e3),(82, .agg #[v0,v1,v2,v3], .agg [.val v0, .val v1, .val v2, .val v3])],[]⟩)
 (hB:∀(w0:World) (M0 N0:BS) (r n:Nat) (Q:Exit→Act→World→Prop) (ks:List ByteArray) (x:Fx) (h10 e3:Value),ks.Nodup→¬LetsOut Q→(∀(ms:List ByteArray) (sL:List (Nat×Ent)),ms.Nodup→(∀s,s∈ms↔s∈ks∨s∈x.ls)→(x.nul=true→aN ⟨w0,M0,N0,nt,False,[]⟩ Q ⟨sL,[(1000,m18, .omap (skv (Yf ms)))]⟩)∧(x.nul=false→aX ⟨w0,M0,N0,nt,False,[]⟩ Q 5 ⟨sL,[(1000,m18, .omap (skv (Yf ms)))]⟩))→
   aCr prog ⟨w0,M0,N0,nt,False,[]⟩ r n body Q ⟨[(3,e3, .sptr 0 [ZM N, .val m17, .val m18,pInt S]),(10,padd (sbase h10) 0, .val (padd (sbase h10) 0))],[(1000,m18, .omap (skv (Yf ks))),(10,h10, .own 105 4 1 (cFx x))]⟩)
 (k:∀(D:Nat) (ms:List ByteArray),ms.Nodup→(∀s,s∈ms↔s∈seqE (Hz xs).reverse)→aN ⟨w0,M0,N0,nt,False,[{target:= .collected D,args:= #[]}]⟩ Q0 ⟨sL,put 5000 (itv D, .oblk (itv D) D (.deferred (some [])) []) (put 18 (m18, .omap (skv (Yf ms))) hP)⟩):
 aC prog ⟨w0,M0,N0,nt,False,[]⟩ (.rangeFunc (.tmp 80) #[81,82] (.region ida la.toArray false) body) (Exit.inBlock 5 Q0) ⟨sL,hP⟩:=fun a w ⟨F,H⟩=>by
 have hev:a.eval (.tmp 80)=bkv g:=(H.rd.ev (x:= .tmp 80) hs80).1
 obtain ⟨hgc,_,hFg⟩:=(H.tr 80 _ _ hh80).blk
 have hgl:=Yu hgc
 obtain ⟨_,hS79⟩:=H.sl 79 _ _ hs79
 obtain ⟨b18,es0,ck0,hm18,hb18,hF18,hW0,hkv0⟩:=Zby (H.tr 18 _ _ hh18)
 have hb18l:=Yu hb18
 have hclen:(xs.flatMap cFx).length=xs.length*4:=flat_len (fun x=>show (cFx x).length=4 from rfl) xs
 have hdf:a.defers=[]:=H.df
 have hin:∀b,F 18 b→mof ⟨w0,M0,N0,nt,False,[]⟩ hP F b:=fun b hb=> .inr ⟨18,_,hh18,hb⟩
 obtain ⟨b,off,c,vs,hhd,hnc,hc,hcell,hT⟩:=Zkj hS79 hne
 subst hhd
 have hbl:b<w.heap.size:=World.block_lt_of_cell? _ _ (hcell 0 oM).1
 have hgb:¬F 18 g:=fun h=>H.dj 18 80 _ _ g dC hh18 hh80 h ((hFg g).2 rfl)
 have hbb:¬F 18 b:=fun h=>(hcell 0 oM).2 (hin b h)
 have hcV:∀k j,k<xs.length→j<4→w.cell? ⟨b,off+k*4+j,none⟩=some (vs (k*4+j)):=fun k j hk hj=>by
  have:=(hcell (k*4+j) oM).1;rw [←XV] at this;exact this
 have hseq:=Zcz 7 g b off xs.length c (fun k j=>vs (k*4+j)) w hle hc hnc hbl hgl (by simp [World.cell?,hgc]) hcV
 have hxk:∀(x:{k:Nat//k<xs.length}),∃y:Fx,xs[x.1]? =some y∧GD xs x.1=(y.nul,y.ls)∧∀j p,(cFx y)[j]? =some p→(xs.flatMap cFx)[x.1*4+j]? =some p∧j<4:=fun x=>by
  obtain ⟨y,hy⟩:=Zp x.2;refine ⟨y,hy,by unfold GD;rw [hy],fun j p hp=>?_⟩;have hj:j<4:=Zf hp;refine ⟨?_,hj⟩;have h1:=Yc (fun x=>show (cFx x).length=4 from rfl) xs x.1 y hy;rw [←h1,List.getElem?_take,UT hj,Vo] at hp;exact hp
 have hone:∀(x:{k:Nat//k<xs.length}) j,j<4→(vs (x.1*4+j)).oneCell'=true:=fun x j hj=>by
  obtain ⟨y,_,_,hp⟩:=hxk x;match j,hj with
  |0,_=>have h1:=hT _ _ (hp 0 _ rfl).1;generalize vs (x.1*4+0)=u at h1;cases h1;rfl
  |1,_=>have h1:=hT _ _ (hp 1 _ rfl).1;generalize vs (x.1*4+1)=u at h1;generalize hq:PV.smap (skv (Yf y.fs))=q at h1;cases h1<;>first|rfl|cases hq
  |2,_=>have h1:=hT _ _ (hp 2 _ rfl).1;generalize vs (x.1*4+2)=u at h1;generalize hq:PV.smap (skv (Yf y.ls))=q at h1;cases h1<;>first|rfl|cases hq
  |3,_=>have h1:=hT _ _ (hp 3 _ rfl).1;generalize vs (x.1*4+3)=u at h1;cases h1;rfl
 have htab:∀W,Chg (fun b=>F 18 b) w W→∀N:BS,(∀k,N k→F 18 k∨w.heap.size≤k)→M0k W (fun _=>False) N False:=fun W hW N hN=>by
  have hm:=H.toHeapF.mok;refine ⟨fun _ h=>h.elim,fun hn q hq=>?_,fun hn q hq=>?_⟩
  · obtain ⟨⟨ty,at',h1⟩,h2,_⟩:=hm.tb hn q hq;have hq18:¬F 18 q:=fun h=>h2 (hin q h);exact ⟨⟨ty,at',(hW.block q (Yu h1) hq18).trans h1⟩,fun h=>h,fun h=>(hN q h).elim hq18 fun h=>by have:=Yu h1;omega⟩
  · obtain ⟨⟨ev,ty,at',h1,h1'⟩,h2,_⟩:=hm.er hn q hq;have hq18:¬F 18 q:=fun h=>h2 (hin q h);exact ⟨⟨ev,ty,at',(hW.block q (Yu h1) hq18).trans h1,h1'⟩,fun h=>h,fun h=>(hN q h).elim hq18 fun h=>by have:=Yu h1;omega⟩
 have hfin:∀(D:Nat) (W:World) (pre:List {k:Nat//k<xs.length}),w.heap.size≤D→W.heap[D]? =some (.deferred (some []))→BkI xs w (fun b=>F 18 b) b18 pre W→(∀s,s∈seqE (Hz xs).reverse↔∃k∈pre,s∈(GD xs k.1).2)→Q0 .normal {a with defers:={target:= .collected D,args:= #[]}::a.defers} W:=fun D W pre hD hDW ⟨ms,es,ck,m1,m2,m3,m4,m5,m6⟩ hm=>by
  have hne5:∀l:Nat,lk hP l≠none→l≠5000:=fun l h e=>h (e▸hh5);let F':Nat→BS:=fun l b'=>if l=5000 then b'=D else F l b';have hch:Chg (fun b=>∃l x,(l=18∨l=5000)∧lk hP l=some x∧F l b) w W:=m3.wid fun q hq=> .inl ⟨18,_, .inl rfl,hh18,hq⟩;have H':HoldsF ⟨w0,M0,N0,nt,False,[]⟩ ⟨sL,put 5000 (itv D, .oblk (itv D) D (.deferred (some [])) []) (put 18 (m18, .omap (skv (Yf ms))) hP)⟩ F' a W:=by
   refine H.change0 (fun l=>l=18∨l=5000) hch (fun l e hl he=>?_) (fun l e b' hl he hb'=>?_) (fun _ l v p hl he=>?_) (fun l l' e e' b' hl hl' hne he he' hb' hb''=>?_) (fun h=>h.elim)
   · have h1:l≠18:=fun h=>hl (.inl h);have h2:l≠5000:=fun h=>hl (.inr h);rw [YV (Ne.symm h2),YV (Ne.symm h1)] at he;exact ⟨he,by simp [F',h2]⟩
   · rcases hl with rfl|rfl
     · exact .inl ⟨18,_, .inl rfl,hh18,by simpa [F'] using hb'⟩
     · (have:b'=D:=by simpa [F'] using hb');exact .inr oM
   · rcases hl with rfl|rfl
     · rw [YV dC,ZW] at he
       cases he;rw [hm18,←m6];exact .omap b18 es ck m4 (fun q=>by simp [F',hF18]) m5
     · rw [ZW] at he
       cases he;exact .oblk D rfl hDW (fun p hp=>by cases hp) (fun q=>by simp [F'])
   · have hap:∀q,F' 18 q→F' 5000 q→False:=fun q h1 h2=>by
      (have h3:F 18 q:=by simpa [F'] using h1);(have h4:q=D:=by simpa [F'] using h2);rw [hF18] at h3;omega
     rcases hl with rfl|rfl<;>rcases hl' with rfl|rfl
     · exact hne rfl
     · exact hap b' hb' hb''
     · exact hap b' hb'' hb'
     · exact hne rfl
  refine k D ms m1 (fun s=>by rw [m2,hm]) _ W ⟨F',⟨⟨H'.tr,H'.lo,H'.dj,H'.m0,H'.ext,H'.dw⟩,H'.sl,H'.size,?_⟩⟩;show _::a.defers=_;rw [hdf]
 refine (wpIn_wide (n:=8)).1 (wpIn_rangeFunc_ownH (F:=Fence.wide) rfl dC (gf:=173) (lb:= #[.pointer (some ⟨g,0,none⟩)]) hev trivial (call173) hseq KpB.trans ?hKb (Below.refl _ _) (fun _=>rfl)
  (fun pre W=>(∀k∈pre,(GD xs k.1).1=true)∧BkI xs w (fun b=>F 18 b) b18 pre W)
  (fun c pre W=>(c= .exit 5∧∃pre0 x,pre=pre0++[x]∧(∀k∈pre0,(GD xs k.1).1=true)∧(GD xs x.1).1=false)∧BkI xs w (fun b=>F 18 b) b18 pre W)
  (BkI.from hb18l _) (fun c=>BkI.from hb18l _) ?h0
  (fun x a' W=>∃h10:Value,W.ownsRow 0 105 4 h10 1 [vs (x.1*4+0),vs (x.1*4+1),vs (x.1*4+2),vs (x.1*4+3)]∧(∀b,h10.ownBlock=some b→w.heap.size≤b)∧a'.tmps[3]? =some (padd (sbase h3) 0)∧a'.tmps[10]? =some (padd (sbase h10) 0)∧a'.tmps.size=nt∧a'.defers=[])
  ?hAx ?assign ?body ?done ?stop)
 case hKb=>
  intro W l o o' hl h _ _ p v hp hv;have hlt:=World.block_lt_of_cell? _ _ hv;have hne:l≠p.block:=by rcases hp with hp|hp<;>omega
  have:(W.putObj l o').heap[p.block]? =W.heap[p.block]? :=by simp [World.putObj,VT,hne]
  exact (World.cell?_of_block this).trans hv
 case h0=>exact ⟨fun _ h=>by simp at h,[],es0,ck0,XN,fun s=>sM,Chg.rfl' _ _,hb18,hW0,hkv0⟩
 case hAx=>
  rintro x a' s W W' row ⟨h10,h1,h2,h3',h4,h5,h6⟩ hg hr;refine ⟨h10,Zgd (N:=fun b=>some b=row) ⟨hg.os,hg.tape,hg.output,hg.size,fun k hk hn=>hg.block k hk hn⟩ h1 fun b hb e=>?_,h2,h3',h4,h5,h6⟩;obtain ⟨o,ho,hc'⟩:=Cj h1 hb;obtain ⟨_,o',ho',hc''⟩:=hr b e.symm;rw [ho] at ho';cases ho';rw [hc'] at hc'';cases hc''
 case assign=>
  have etm:∀x:{k:Nat//k<xs.length},((#[81,82]:Array Nat).zip (Zg0 (fun k j=>vs (k*4+j)) x.1)).foldl (fun t (p,v)=>t.setIfInBounds p v) a.tmps=(a.tmps.setIfInBounds 81 (.int .i64 x.1)).setIfInBounds 82 (.agg #[vs (x.1*4+0),vs (x.1*4+1),vs (x.1*4+2),vs (x.1*4+3)]):=fun x=>by unfold Zg0;simp
  rintro l pre x W K ⟨hn,ks,es,ck,k1,k2,k3,k4,k5,k6⟩ hK;rw [etm x];have hQ:¬LetsOut (Exit.then K (fun _ _ _=>False)):=by rintro ⟨_,_,h⟩;exact h
  refine Sz (c:=⟨W,fun _=>False,fun _=>False,nt,False,[]⟩) (st:=⟨[(3,padd (sbase h3) 0, .val (padd (sbase h3) 0)),(82, .agg #[vs (x.1*4+0),vs (x.1*4+1),vs (x.1*4+2),vs (x.1*4+3)], .agg [.val (vs (x.1*4+0)), .val (vs (x.1*4+1)), .val (vs (x.1*4+2)), .val (vs (x.1*4+3))])],[]⟩) hQ hda
   (hA W _ _ _ _ _ _ _ _ (hone x 0 dC) (hone x 1 dC) (hone x 2 dC) (hone x 3 dC) fun h10 a' W' ⟨F',H'⟩=>?_) _ W ⟨fun _ _=>False,⟨⟨fun l v p h=>by simp [lk] at h,fun l x b h=>by simp [lk] at h,fun l l' x x' b _ h=>by simp [lk] at h,htab W k3 _ (fun _ h=>h.elim),Chg.rfl' _ _,fun h=>h.elim⟩,fun t v p ht=>?_,?_,rfl⟩⟩
  · have hch:Chg (fun _=>False) W W':=H'.ext;obtain ⟨ys,Fs,hrow,hlen,hTr,_,_,hFF⟩:=(H'.tr 10 _ _ rfl).row;have hys:ys=[vs (x.1*4+0),vs (x.1*4+1),vs (x.1*4+2),vs (x.1*4+3)]:=by
     have hv:∀i u q,ys[i]? =some u→([PV.val (vs (x.1*4+0)), .val (vs (x.1*4+1)), .val (vs (x.1*4+2)), .val (vs (x.1*4+3))]:List PV)[i]? =some (PV.val q)→u=q:=fun i u q h1 h2=>by
      have h3:=(hTr i u _ h1 h2).sh rfl
      cases h3;rfl
     match ys,hlen with
     |[y0,y1,y2,y3],_=>rw [hv 0 y0 _ rfl rfl,hv 1 y1 _ rfl rfl,hv 2 y2 _ rfl rfl,hv 3 y3 _ rfl rfl]
    rw [hys] at hrow;refine hK a' W' (Ck hch fun _ h=>h.elim) (ZdZ hch (fun h=>h) (fun h=>h)) ⟨hn,ks,es,ck,k1,k2,k3.tr hch (fun _ h=>h.elim),(hch.block b18 (Yu k4) (fun h=>h)).trans k4,k5,k6⟩ ⟨h10,hrow,fun b' hb'=>?_,(H'.sl 3 _ _ rfl).1,(H'.sl 10 _ _ rfl).1,H'.size,H'.df⟩;have h7:F' 10 b':=(hFF b').2 (.inl hb');rcases H'.lo 10 _ b' rfl h7 with h8|h8
    · exact X6 k3.size h8
    · exact h8.elim
  · simp only [lk] at ht
    cases hb3:Nat.beq 3 t
    · rw [hb3,cond_false] at ht
      cases hb4:Nat.beq 82 t
      · rw [hb4] at ht;cases ht
      · rw [hb4,cond_true] at ht
        cases ht;obtain rfl:=XG hb4;refine ⟨?_, .agg [vs (x.1*4+0),vs (x.1*4+1),vs (x.1*4+2),vs (x.1*4+3)] _ rfl fun i u q h1 h2=>?_⟩
        · show ((a.tmps.setIfInBounds 81 _).setIfInBounds 82 _)[82]? =_;rw [VT,UT rfl,UT (by rw [UO,H.size];exact hnt)]
        · match i,h1,h2 with
          |0,h1,h2=>cases h1;cases h2;exact .val _
          |1,h1,h2=>cases h1;cases h2;exact .val _
          |2,h1,h2=>cases h1;cases h2;exact .val _
          |3,h1,h2=>cases h1;cases h2;exact .val _
          |i+4,h1,h2=>simp at h1
    · rw [hb3,cond_true] at ht
      cases ht;obtain rfl:=XG hb3;refine ⟨?_, .val _⟩;show ((a.tmps.setIfInBounds 81 _).setIfInBounds 82 _)[3]? =_;rw [VT,US dC,VT,US dC];exact (H.sl 3 _ _ hs3).1
  · show ((a.tmps.setIfInBounds 81 _).setIfInBounds 82 _).size=nt;rw [UO,UO,H.size]
 case body =>
  rintro l pre x a' W hl _ ⟨hn,ks,es,ck,k1,k2,k3,k4,k5,k6⟩ ⟨h10,r1,r2,r3,r4,r5,r6⟩ _;have hQ:¬LetsOut (ownPostG w.heap.size (KpB g b) (fun pre W=>(∀k∈pre,(GD xs k.1).1=true)∧BkI xs w (fun b=>F 18 b) b18 pre W) (fun c pre W=>(c= .exit 5∧∃pre0 x,pre=pre0++[x]∧(∀k∈pre0,(GD xs k.1).1=true)∧(GD xs x.1).1=false)∧BkI xs w (fun b=>F 18 b) b18 pre W) (pre++[x]) W):=by rintro ⟨_,_,h⟩;exact h
  obtain ⟨y,hy,hye,hyp⟩:=hxk x;let Fb:Nat→BS:=fun t b'=>if t=1000 then F 18 b' else if t=10 then h10.ownBlock=some b' else False;let Nb:BS:=fun b'=>F 18 b'∨h10.ownBlock=some b';have hmof:∀b',mof ⟨W,fun _=>False,Nb,nt,False,[]⟩ [(1000,(m18,PV.omap (skv (Yf ks)))),(10,(h10, .own 105 4 1 (cFx y)))] Fb b'→F 18 b'∨h10.ownBlock=some b':=by
   rintro b' (h|⟨t,e,h1,h2⟩)
   · exact h.elim
   · show Nb b';simp only [Fb] at h2;split at h2
     · exact .inl h2
     · split at h2
       · exact .inr h2
       · exact h2.elim
  have hlow:∀b',b'<w.heap.size→mof ⟨W,fun _=>False,Nb,nt,False,[]⟩ [(1000,(m18,PV.omap (skv (Yf ks)))),(10,(h10, .own 105 4 1 (cFx y)))] Fb b'→mof ⟨w0,M0,N0,nt,False,[]⟩ hP F b':=fun b' hlt hb'=>by
   rcases hmof b' hb' with h|h
   · exact hin b' h
   · have:=r2 b' h;omega
  have hgx:¬Nb g:=fun h=>h.elim hgb fun h=>by have:=r2 g h;omega
  have hbx:¬Nb b:=fun h=>h.elim hbb fun h=>by have:=r2 b h;omega
  have hkeep:∀W',Chg Nb W W'→KeepsFrom w.heap.size W W'∧KpB g b W W'∧Chg (fun b=>F 18 b) w W':=fun W' hch=>⟨Ck hch fun q hq hB=>by
   rcases hq with hq|hq
   · rw [hF18] at hq;omega
   · exact Cj r1 hq,ZdZ hch hgx hbx,k3.tr hch fun q hq=>hq.imp id fun hq=>r2 q hq⟩
  obtain ⟨zs,Gs,zrow,zlen,zTr,_,_,zF⟩:=(H.tr 3 _ _ hh3).row;have hh3s:∃g3 cap,h3= .slice (some ⟨g3,0,none⟩) 1 cap:=by
   rcases YG zrow with ⟨_,h,_⟩|⟨g3,cap,h,_⟩
   · omega
   · exact ⟨g3,cap,h⟩
  obtain ⟨g3,cap3,rfl⟩:=hh3s;have hg3:F 3 g3:=(zF g3).2 (.inl rfl);have hg3l:g3<w.heap.size:=(H.tr 3 _ _ hh3).lt g3 hg3;have hg318:¬F 18 g3:=fun h=>H.dj 18 3 _ _ g3 dC hh18 hh3 h hg3;have hout:Shr (mof ⟨W,fun _=>False,Nb,nt,False,[]⟩ [(1000,(m18,PV.omap (skv (Yf ks)))),(10,(h10, .own 105 4 1 (cFx y)))] Fb) W (padd (sbase (.slice (some ⟨g3,0,none⟩) 1 cap3)) 0) (.sptr 0 [ZM N, .val m17, .val m18,pInt S]):=by
   refine .sptr g3 0 0 [ZM N, .val m17, .val m18,pInt S] (fun i=>(zs[i]?).getD undef) (fun i hi=>?_) fun i q hq=>?_
   · obtain ⟨z,hz⟩:=Yi (show i<zs.length by rw [←zlen];exact hi);refine ⟨?_,fun h=>?_⟩
     · rw [Xv,hz];have hblk:W.heap[g3]? =w.heap[g3]? :=k3.block g3 hg3l hg318;exact (World.cell?_of_block (a:=⟨g3,i,none⟩) hblk).trans (Wq zrow hz)
     · rcases hmof g3 h with h|h
       · exact hg318 h
       · have:=r2 g3 h;omega
   · obtain ⟨z,hz⟩:=Yh hq zlen;have hs:isSh q=true:=by
      match i,hq with
      |0,hq=>cases hq;rfl
      |1,hq=>cases hq;rfl
      |2,hq=>cases hq;rfl
      |3,hq=>cases hq;rfl
      |i+4,hq=>simp at hq
     simp only [hz,V9];exact ((zTr i z q hz hq).sh hs).to k3 (fun q _ hq=>hin q hq) (fun q hq h=>hlow q hq h)
  have hHold:HoldsF ⟨W,fun _=>False,Nb,nt,False,[]⟩ ⟨[(3,padd (sbase (.slice (some ⟨g3,0,none⟩) 1 cap3)) 0, .sptr 0 [ZM N, .val m17, .val m18,pInt S]),(10,padd (sbase h10) 0, .val (padd (sbase h10) 0))],[(1000,m18, .omap (skv (Yf ks))),(10,h10, .own 105 4 1 (cFx y))]⟩ Fb a' W:=by
   refine ⟨⟨fun t v p ht=>?_,fun t e b' ht hb'=> .inr ?_,fun t t' e e' b' hne ht ht' hb' hb''=>?_,htab W k3 _ (fun q hq=>hq.imp id fun hq=>r2 q hq),Chg.rfl' _ _,fun h=>h.elim⟩,fun t v p ht=>?_,r5,r6⟩
   · simp only [lk] at ht
     cases hb3:Nat.beq 1000 t
     · rw [hb3,cond_false] at ht
       cases hb4:Nat.beq 10 t
       · rw [hb4] at ht;cases ht
       · rw [hb4,cond_true] at ht
         cases ht;obtain rfl:=XG hb4;refine .own _ (fun _ _=>False) r1 rfl (fun i u p hu hp=> .shr ?_ (fun _ h=>h)) (fun _ _ _ _ _ _ h=>h.elim) (fun _ _ _ h=>h.elim) (fun q=>by simp [Fb]);have hj:=(hyp i p hp).2;have hu':u=vs (x.1*4+i):=by
          match i,hj,hu with
          |0,_,hu=>cases hu;rfl
          |1,_,hu=>cases hu;rfl
          |2,_,hu=>cases hu;rfl
          |3,_,hu=>cases hu;rfl
         rw [hu'];exact (hT _ _ (hyp i p hp).1).to k3 (fun q _ hq=>hin q hq) (fun q hq h=>hlow q hq h)
     · rw [hb3,cond_true] at ht
       cases ht;obtain rfl:=XG hb3;rw [hm18,←k6];exact .omap b18 es ck k4 (fun q=>by simp [Fb,hF18]) k5
   · have:=hmof b' (.inr ⟨t,e,ht,hb'⟩);exact this
   · have key:∀t,lk [(1000,(m18,PV.omap (skv (Yf ks)))),(10,(h10, .own 105 4 1 (cFx y)))] t≠none→t=1000∨t=10:=fun t h=>by
      simp only [lk] at h
      cases hb3:Nat.beq 1000 t
      · rw [hb3,cond_false] at h
        cases hb4:Nat.beq 10 t
        · rw [hb4] at h;exact UU rfl h
        · exact .inr (XG hb4).symm
      · exact .inl (XG hb3).symm
     have h1:=key t (by rw [ht];simp);have h2:=key t' (by rw [ht'];simp);have hap:∀q,F 18 q→h10.ownBlock=some q→False:=fun q h1 h2=>by
      have:=r2 q h2;rw [hF18] at h1;omega
     rcases h1 with rfl|rfl
     · rcases h2 with rfl|rfl
       · exact hne rfl
       · exact hap b' (by simpa [Fb] using hb') (by simpa [Fb] using hb'')
     · rcases h2 with rfl|rfl
       · exact hap b' (by simpa [Fb] using hb'') (by simpa [Fb] using hb')
       · exact hne rfl
   · simp only [lk] at ht
     cases hb3:Nat.beq 3 t
     · rw [hb3,cond_false] at ht
       cases hb4:Nat.beq 10 t
       · rw [hb4] at ht;cases ht
       · rw [hb4,cond_true] at ht
         cases ht;obtain rfl:=XG hb4;exact ⟨r4, .val _⟩
     · rw [hb3,cond_true] at ht
       cases ht;obtain rfl:=XG hb3;exact ⟨r3,hout⟩
  refine hB W _ Nb l _ _ ks y h10 _ k1 hQ (fun ms sL' hms hmm=>?_) a' W ⟨Fb,hHold⟩;have hnew:∀W'',Chg Nb W W''→(∃es ck,W''.heap[b18]? =some (.map es ck)∧WfM es ck∧kvOf es=skv (Yf ms))→BkI xs w (fun b=>F 18 b) b18 (pre++[x]) W'':=fun W'' hch ⟨es',ck',m1,m2,m3⟩=>⟨ms,es',ck',hms,fun s=>by
   rw [hmm,k2];constructor
   · rintro (⟨q,hq,h⟩|h)
     · exact ⟨q,XZ _ hq,h⟩
     · exact ⟨x,sM,by rw [hye];exact h⟩
   · rintro ⟨q,hq,h⟩;rcases Xh.1 hq with hq|hq
     · exact .inl ⟨q,hq,h⟩
     · rw [Xl] at hq;subst hq;rw [hye] at h;exact .inr h,(hkeep W'' hch).2.2,m1,m2,m3⟩
  have hend:∀(a'':Act) (W'':World),Holds ⟨W,fun _=>False,Nb,nt,False,[]⟩ ⟨sL',[(1000,m18, .omap (skv (Yf ms)))]⟩ a'' W''→Chg Nb W W''∧∃es ck,W''.heap[b18]? =some (.map es ck)∧WfM es ck∧kvOf es=skv (Yf ms):=fun a'' W'' ⟨F'',H''⟩=>by
   obtain ⟨b2,es2,ck2,e1,e2,_,e3,e4⟩:=Zby (H''.tr 1000 _ _ rfl);rw [hm18] at e1
   cases e1;exact ⟨H''.ext,es2,ck2,e2,e3,e4⟩
  constructor
  · intro hnul a'' W'' Hh;obtain ⟨h1,h2⟩:=hend a'' W'' Hh;obtain ⟨h4,h5,h6⟩:=hkeep W'' h1;refine ⟨h4,h5,fun q hq=>?_,hnew W'' h1 h2⟩;rcases Xh.1 hq with hq|hq
    · exact hn q hq
    · rw [Xl] at hq;subst hq;rw [hye];exact hnul
  · intro hnul a'' W'' Hh;obtain ⟨h1,h2⟩:=hend a'' W'' Hh;obtain ⟨h4,h5,h6⟩:=hkeep W'' h1;exact ⟨h4,⟨rfl,pre,x,rfl,hn,by rw [hye];exact hnul⟩,hnew W'' h1 h2⟩
 case done=>
  rintro D ys W hD hS ⟨hn,hI⟩ hDW;exact hfin D W ys hD hDW hI (fun s=>Zii hS hn s)
 case stop=>
  rintro D cd pre W hD ⟨n,hn0,hS⟩ ⟨⟨rfl,pre0,x,rfl,hn,hx⟩,hI⟩ hDW;exact wpIn_exit (hfin D W _ hD hDW hI (fun s=>ZfJ hn0 hS hn hx s))
theorem ZZ:AggT prog 105 4=true:=by kernel_rfl
theorem SN:AggT prog 24 3=true:=by kernel_rfl
theorem HB:ElT prog 154 105 4 32 (.agg #[(.bool false),(.map none),(.map none),(.int .i64 0)]):=⟨underlying154,by kernel_rfl,rfl,dC⟩
theorem Z6:FldT prog 105 0 0=true:=by kernel_rfl
theorem YT:FldT prog 105 1 1=true:=by kernel_rfl
theorem Wj:FldT prog 105 2 2=true:=by kernel_rfl
theorem Ye:FldT prog 105 3 3=true:=by kernel_rfl
theorem Zbz:FldT prog 24 0 0=true:=by kernel_rfl
theorem Of:FldT prog 24 1 1=true:=by kernel_rfl
theorem ZbA:FldT prog 24 2 2=true:=by kernel_rfl
theorem Cl:MpT prog 76 9 4 .string (.bool false):=⟨underlying76,underlying9, .inl rfl,by show ZeroT _ _ _;unfold ZeroT;kernel_rfl⟩
theorem ZfL:NoAgg prog 22=true:=by kernel_rfl
theorem Y2:NoAgg prog 3=true:=by kernel_rfl
theorem YU:NoAgg prog 4=true:=by kernel_rfl
theorem Yt:NoAgg prog 76=true:=by kernel_rfl
theorem ZbB:NoAgg prog 9=true:=by kernel_rfl
theorem W6:SlT prog 154 105 4=true:=by kernel_rfl
theorem Cm:SlT prog 22 24 3=true:=by kernel_rfl
theorem Zc8:Ke prog 105=some ((.agg #[(.bool false),(.map none),(.map none),(.int .i64 0)]),([0,1,2,3]:List Nat).map fun o=>(o,1)):=by kernel_rfl
theorem GF:(prog.info? 3).map (·.size)=some 1:=by kernel_rfl
theorem JR:(prog.info? 4).map (·.size)=some 1:=by kernel_rfl
theorem W7:ZeroT prog 105 (.agg #[(.bool false),(.map none),(.map none),(.int .i64 0)]):=by unfold ZeroT;kernel_rfl
theorem ZfM:ZeroT prog 24 (.agg #[(.int .i64 0),(.string ByteArray.empty),(.slice none 0 0)]):=by unfold ZeroT;kernel_rfl
structure FxOk (x:Fx) (t:Nd):Prop where
 nul:x.nul=nulT t
 sho:x.sho=shoT t
 fn:x.fs.Nodup
 ln:x.ls.Nodup
 fm:∀s,s∈x.fs↔s∈edgT false t
 lm:∀s,s∈x.ls↔s∈edgT true t
def FacsOk (l:List Nd) (xs:List Fx):Prop:=xs.length≤l.length∧∀(j:Nat) (x:Fx) (t:Nd),xs[j]? =some x→l[j]? =some t→FxOk x t
theorem FacsOk.snoc {l:List Nd} {xs:List Fx} {x:Fx} {t:Nd} (h:FacsOk l xs) (ht:l[xs.length]? =some t) (hx:FxOk x t):FacsOk l (xs++[x]):=by
 refine ⟨by rw [Xb,Xs];exact Zf ht,fun j y u hy hu=>?_⟩
 rcases Nat.lt_trichotomy j xs.length with h1|h1|h1
 · rw [X9 h1] at hy;exact h.2 j y u hy hu
 · subst h1;rw [Vf (Xj _)] at hy;rw [VE] at hy
   cases hy;rw [ht] at hu;cases hu;exact hx
 · rw [XL (by rw [Xb,Xs];omega)] at hy;cases hy
theorem J8 (x:Fx):(cFx x).length=4:=rfl
theorem Zkk (xs:List Fx) (x:Fx):PV.own 105 4 (xs.length+1) (xs.flatMap cFx++cFx x)= .own 105 4 (xs++[x]).length ((xs++[x]).flatMap cFx):=by
 rw [Xb,Xs,XR];simp
def ZbC (o:Int) (bs:List Bool):Bool:=if o=2 then true else if o=1 then false else if o=6 then bs.headD false else if o=4 then bs.any id else bs.all id
def ZbD (o:Int) (ns:List Int):Int:=if o=2 then 0 else if o=1 then 1 else if o=6 then ns.headD 0 else if o=4 then (match ns with|[]=>0|n::m=>m.foldl min n) else ns.foldl (· + ·) 0
def fstX (xs:List Fx):List (Bool×List ByteArray):=xs.map fun x=>(x.nul,x.fs)
def lstX (xs:List Fx):List (Bool×List ByteArray):=xs.map fun x=>(x.nul,x.ls)
inductive AlkE:List (Bool×List ByteArray)→List (Bool×List ByteArray)→Prop
 |nil:AlkE [] []
 |cons {b:Bool} {e e':List ByteArray} {m m':List (Bool×List ByteArray)} (h:∀s,s∈e↔s∈e') (k:AlkE m m'):AlkE ((b,e)::m) ((b,e')::m')
theorem AlkE.app {a a' b b':List (Bool×List ByteArray)} (h:AlkE a a') (k:AlkE b b'):AlkE (a++b) (a'++b'):=by
 induction h with
 |nil=>exact k
 |cons h1 _ ih=>exact .cons h1 ih
theorem AlkE.rev {a a':List (Bool×List ByteArray)} (h:AlkE a a'):AlkE a.reverse a'.reverse:=by
 induction h with
 |nil=>exact .nil
 |cons h1 _ ih=>rw [List.reverse_cons,List.reverse_cons];exact ih.app (.cons h1 .nil)
theorem AlkE.seq {a a':List (Bool×List ByteArray)} (h:AlkE a a'):∀s,s∈seqE a↔s∈seqE a':=by
 induction h with
 |nil=>exact fun _=>Iff.rfl
 | @cons b e e' m m' h1 _ ih=>
   intro s;show s∈e++(if b=true then seqE m else [])↔s∈e'++(if b=true then seqE m' else []);rw [Xh,Xh,h1]
   cases b
   · exact Iff.rfl
   · rw [UT rfl,UT rfl,ih]
theorem AlkE.flat {a a':List (Bool×List ByteArray)} (h:AlkE a a'):∀s,s∈a.flatMap (·.2)↔s∈a'.flatMap (·.2):=by
 induction h with
 |nil=>exact fun _=>Iff.rfl
 |cons h1 _ ih=>intro s;rw [Xu,Xu,Xh,Xh,ih,h1]
theorem AlkE.lop {a a':List (Bool×List ByteArray)} (h:AlkE a a'):∀s,s∈Ci a↔s∈Ci a':=by
 cases h with
 |nil=>exact fun _=>Iff.rfl
 | @cons b e e' m m' h1 k=>
   cases k with
   |nil=>exact fun _=>Iff.rfl
   | @cons b2 e2 e2' _ _ h2 _=>
     intro s;show s∈e++(if b=true then e2 else [])↔s∈e'++(if b=true then e2' else []);rw [Xh,Xh,h1]
     cases b
     · exact Iff.rfl
     · rw [UT rfl,UT rfl,h2]
theorem AlkE.op {a a':List (Bool×List ByteArray)} (h:AlkE a a') (last:Bool) (o:Int) (x:ByteArray):∀s,s∈opE last o x a↔s∈opE last o x a':=fun s=>by
 unfold opE
 split
 · exact Iff.rfl
 split
 · exact Iff.rfl
 split
 · exact h.lop s
 split
 · cases last
   · exact h.seq s
   · exact h.rev.seq s
 · exact h.flat s
theorem FacsOk.all:∀{l:List Nd} {xs:List Fx},FacsOk l xs→xs.length=l.length→xs.map (·.nul)=l.map nulT∧xs.map (·.sho)=l.map shoT∧AlkE (fstX xs) (l.map fun x=>(nulT x,edgT false x))∧AlkE (lstX xs) (l.map fun x=>(nulT x,edgT true x))
 |[],[],_,_=>⟨rfl,rfl, .nil, .nil⟩
 |[],_::_,_,h=>by simp at h
 |_::_,[],_,h=>by simp at h
 | t ::l,x::xs,h,hl=>by
   have h0:=h.2 0 x t rfl rfl;obtain ⟨i1,i2,i3,i4⟩:=FacsOk.all (l:=l) (xs:=xs) ⟨by simpa using h.1,fun j y u hy hu=>h.2 (j+1) y u (by rw [Vr];exact hy) (by rw [Vr];exact hu)⟩ (by simpa using hl);refine ⟨by rw [Xp,Xp,i1,h0.nul],by rw [Xp,Xp,i2,h0.sho],?_,?_⟩
   · show AlkE ((x.nul,x.fs)::fstX xs) ((nulT t,edgT false t)::_);rw [h0.nul];exact .cons h0.fm i3
   · show AlkE ((x.nul,x.ls)::lstX xs) ((nulT t,edgT true t)::_);rw [h0.nul];exact .cons h0.lm i4
theorem SO {o:Int} {a:ByteArray} {l:List Nd} {xs:List Fx} (hX:FacsOk l xs) (hlen:xs.length=l.length) {N:Bool} {F L:List ByteArray} {s:Int} (hF:F.Nodup) (hL:L.Nodup) (hN:N=ZbC o (xs.map (·.nul))) (hs:s=ZbD o (xs.map (·.sho)))
 (hFm:∀t,t∈F↔t∈opE false o a (fstX xs)) (hLm:∀t,t∈L↔t∈opE true o a (lstX xs)):FxOk ⟨N,F,L,s⟩ (.mk o a l):=by
 obtain ⟨h1,h2,h3,h4⟩:=hX.all hlen
 refine ⟨?_,?_,hF,hL,fun t=>?_,fun t=>?_⟩
 · show N=_;rw [hN,Zig,h1];rfl
 · show s=_;rw [hs,Zc7,h2];rfl
 · show t∈F↔_;rw [hFm,Hx];exact h3.op false o a t
 · show t∈L↔_;rw [hLm,Hx];exact h4.op true o a t
theorem Cn {a:List (Bool×List ByteArray)} {b:Bool} {e:List ByteArray} (s:ByteArray):s∈seqE (a++[(b,e)])↔s∈seqE a∨(a.all (·.1)=true∧s∈e):=by
 rw [Zih]
 show _∨(_∧s∈e++(if b=true then [] else []))↔_
 cases b<;>simp
theorem TO:∀l:List Nd,l.length≤szL l
 |[]=>Xf _
 | x::l=>by
   have h1:=TO l;have h2:1≤szT x:=by cases x;rw [szT];omega
   rw [szL,Xk];omega
theorem Zij (n:Nat) (xs:List Fx) (hn:n=xs.length):share (.own 105 4 n (xs.flatMap cFx))= .sl xs.length (xs.flatMap cFx):=by
 subst hn
 rw [share,Yb,V7];rfl
theorem HC {xs:List Fx} {i:Nat} {x:Fx} (h:xs[i]? =some x):fstX (xs.take (i+1))=fstX (xs.take i)++[(x.nul,x.fs)]:=by unfold fstX;rw [ZE h,Xr];rfl
theorem Zik {xs:List Fx} {i:Nat} {x:Fx} (h:xs[i]? =some x):lstX (xs.take (i+1))=lstX (xs.take i)++[(x.nul,x.ls)]:=by unfold lstX;rw [ZE h,Xr];rfl
theorem HD {a:List (Bool×List ByteArray)} {b:Bool} {e:List ByteArray} (s:ByteArray):s∈(a++[(b,e)]).flatMap (·.2)↔s∈a.flatMap (·.2)∨s∈e:=by rw [XR,Xh];simp
theorem Zd0 (xs:List Fx):(fstX xs).all (·.1)=(xs.map (·.nul)).all id:=by unfold fstX;rw [List.all_map,List.all_map];rfl
theorem Zd1 {l:List Nd} {xs:List Fx} (hX:FacsOk l xs) (hlen:xs.length=l.length) (i:Nat):0≤((xs.take i).map (·.sho)).foldl (· + ·) (0:Int)∧((xs.take i).map (·.sho)).foldl (· + ·) (0:Int)≤szL l:=by
 rw [List.map_take,(hX.all hlen).2.1,←List.map_take]
 have hsum:∀(m:List Nd) (k:Int),0≤k→k≤(m.map shoT).foldl (· + ·) k∧(m.map shoT).foldl (· + ·) k≤k+(szL m:Int):=fun m=>by
  induction m with
  |nil=>intro k hk;rw [szL];simp
  | cons x m ih=>
    intro k hk;have h1:=Py x;have:=ih (k+shoT x) oM;rw [szL,Xp,X'];omega
 have h1:=hsum (l.take i) 0 (VA _)
 have h2:szL (l.take i)≤szL l:=by
  clear h1 hsum hX hlen;induction l generalizing i with
  |nil=>simp
  | cons x l ih=>
    cases i with
    |zero=>rw [XQ,szL];omega
    |succ i=>rw [Uj,szL,szL];have:=ih i;omega
 omega
theorem Zlq {l:List Nd} {xs:List Fx} (hX:FacsOk l xs) {i:Nat} {x:Fx} (hx:xs[i]? =some x) (hlen:xs.length=l.length):0≤x.sho∧x.sho≤szL l:=by
 obtain ⟨t,ht⟩:=Zp (show i<l.length by rw [←hlen];exact Zf hx)
 have h1:=hX.2 i x t hx ht
 have h2:=Py t
 have h3:=KJ (Xc ht)
 rw [h1.sho];omega
structure MixI (xs:List Fx) (i:Nat) (F L:List ByteArray):Prop where
 le:i≤xs.length
 fn:F.Nodup
 ln:L.Nodup
 fm:∀s,s∈F↔s∈(fstX (xs.take i)).flatMap (·.2)
 lm:∀s,s∈L↔s∈(lstX (xs.take i)).flatMap (·.2)
theorem MixI.step {xs:List Fx} {i:Nat} {F L F' L':List ByteArray} {x:Fx} (h:MixI xs i F L) (hx:xs[i]? =some x) (f1:F'.Nodup) (f2:∀s,s∈F'↔s∈F∨s∈x.fs) (l1:L'.Nodup) (l2:∀s,s∈L'↔s∈L∨s∈x.ls):MixI xs (i+1) F' L':=
 ⟨Zf hx,f1,l1,fun s=>by rw [f2,h.fm,HC hx,HD],fun s=>by rw [l2,h.lm,Zik hx,HD]⟩
theorem MixI.zero (xs:List Fx):MixI xs 0 [] []:=⟨Xf _,XN,XN,fun s=>by rw [XQ];exact Iff.rfl,fun s=>by rw [XQ];exact Iff.rfl⟩
theorem MixI.all {xs:List Fx} {i:Nat} {F L:List ByteArray} (h:MixI xs i F L) (hi:xs.length≤i):(∀s,s∈F↔s∈(fstX xs).flatMap (·.2))∧∀s,s∈L↔s∈(lstX xs).flatMap (·.2):=by
 have:=h.fm
 have h2:=h.lm
 rw [Xo hi] at this h2
 exact ⟨this,h2⟩
structure SeqI (xs:List Fx) (i:Nat) (F:List ByteArray):Prop where
 le:i≤xs.length
 fn:F.Nodup
 fm:∀s,s∈F↔s∈seqE (fstX (xs.take i))
theorem SeqI.zero (xs:List Fx):SeqI xs 0 []:=⟨Xf _,XN,fun s=>by rw [XQ];exact Iff.rfl⟩
theorem SeqI.yes {xs:List Fx} {i:Nat} {F F':List ByteArray} {x:Fx} (h:SeqI xs i F) (hx:xs[i]? =some x) (hN:((xs.take i).map (·.nul)).all id=true) (f1:F'.Nodup) (f2:∀s,s∈F'↔s∈F∨s∈x.fs):SeqI xs (i+1) F':=
 ⟨Zf hx,f1,fun s=>by rw [f2,h.fm,HC hx,Cn,Zd0,hN];simp⟩
theorem SeqI.no {xs:List Fx} {i:Nat} {F:List ByteArray} {x:Fx} (h:SeqI xs i F) (hx:xs[i]? =some x) (hN:((xs.take i).map (·.nul)).all id=false):SeqI xs (i+1) F:=
 ⟨Zf hx,h.fn,fun s=>by rw [h.fm,HC hx,Cn,Zd0,hN];simp⟩
theorem Lz {xs:List Fx} {i:Nat} {x:Fx} (h:xs[i]? =some x):((xs.take (i+1)).map (·.nul)).all id=(((xs.take i).map (·.nul)).all id&&x.nul):=by rw [ZE h,Xr,List.all_append];simp
theorem ZfN {xs:List Fx} {i:Nat} {x:Fx} (h:xs[i]? =some x):((xs.take (i+1)).map (·.nul)).any id=(((xs.take i).map (·.nul)).any id||x.nul):=by rw [ZE h,Xr,VK];simp
theorem Jz {β:Type} (g:β→Int→β) (z:β) {xs:List Fx} {i:Nat} {x:Fx} (h:xs[i]? =some x):((xs.take (i+1)).map (·.sho)).foldl g z=g (((xs.take i).map (·.sho)).foldl g z) x.sho:=by rw [ZE h,Xr,Vn];rfl
theorem T' {o:Int} {a:ByteArray} {l:List Nd} (h:rightT (.mk o a l)=true):(o=1∨o=2→l=[])∧(o=3∨o=4∨o=5→l≠[])∧(o=6→l.length=2)∧(o=1∨o=2∨o=3∨o=4∨o=5∨o=6):=by
 have h:(if o=1 then l.isEmpty&&KC a else if o=2 then l.isEmpty&&decide (a=ByteArray.empty) else if o=3∨o=4∨o=5 then !l.isEmpty&&decide (a=ByteArray.empty) else if o=6 then decide (l.length=2)&&decide (a=ByteArray.empty) else false)=true:=h
 by_cases h1:o=1
 · rw [UT h1,Xe,List.isEmpty_iff] at h;exact ⟨fun _=>h.1,fun h=>oM,fun h=>oM,oM⟩
 rw [US h1] at h
 by_cases h2:o=2
 · rw [UT h2,Xe,List.isEmpty_iff] at h;exact ⟨fun _=>h.1,fun h=>oM,fun h=>oM,oM⟩
 rw [US h2] at h
 by_cases h3:o=3∨o=4∨o=5
 · rw [UT h3] at h;refine ⟨fun h=>oM,fun _ he=>?_,fun h=>oM,oM⟩;subst he;simp at h
 rw [US h3] at h
 by_cases h4:o=6
 · rw [UT h4,Xe] at h;exact ⟨fun h=>oM,fun h=>oM,fun _=>UV h.1,oM⟩
 · rw [US h4] at h;cases h
set_option maxHeartbeats 4000000 in
theorem ζC : ∀ (t : Nd), okT t =true→szT t≤1000000→AF prog 77 [pTr t] (fun p=>∃x,FxOk x t∧p= .agg (cFx x)):=Nd.ind fun o a l ih hok hs=>by
 have ea:pTr (.mk o a l)= .agg [pInt o,Z' a,Wb l]:=rfl
 have hsz:szT (.mk o a l)=1+szL l:=by rw [szT]
 have hll:=TO l
 rw [ea]
 refine AF.of_bodyM 198 func77 rfl ntmps77 (Xa rfl) ?_
 intro w0 M0 vs hl hv
 obtain ⟨v0,rfl⟩:=WL hl
 clear hl hv
 refine Ze ?_
 (refine ZG 1 3 fun h1=>?_<;>refine Zw [(.bool false),(.map none),(.map none),(.int .i64 0)] 4 2 W7 fun h2=>?_<;>refine Zg ?_)
 (refine JZ 17 fun h17 ho17=>?_<;>refine JZ 18 fun h18 ho18=>?_<;>refine xL 19 (ZL Zc8) ?_<;>refine Zw [(.bool false),(.map none),(.map none),(.int .i64 0)] 4 3 W7 fun h3=>?_<;>(refine ZA (ps:=[ZM false, .val h17, .val h18,pInt 0]) 3 ZZ ?_ (h1:=by simp only [XD,XH,XE,Xe];exact ⟨rfl,ho17,ho18,rfl⟩))<;>refine Zg ?_)
 (refine xL 4 Za ?_<;>refine Zg ?_)
 (refine xL 20 (Zd 1 ZbA) ?_<;>(refine yL 21 (Zk 1 ZfL) fun v21 h=>?_;cases h)<;>refine xL 22 (ZR Cm) (xL 23 Zb ?_)<;>refine Zc ?_)
 refine Zx (KB 200 105 4 rfl) fun _=>?_
 refine ZD (ι:={q:Nat×Value×List Fx//FacsOk l q.2.2∧q.2.2.length=q.1∧q.2.1.oneCell'=true}) (fun k=>⟨[(1,_,_),(2,_,_),(3,_,_),(17,_,_),(18,_,_),(21,_,_),(22,_,_),(4,k.1.2.1, .val k.1.2.1),(23, .int .i64 k.1.1,pInt k.1.1)],[(1,_,_),(2,_,_),(3,_,_),(17,h17, .omap (skv (Yf []))),(18,h18, .omap (skv (Yf []))),(200,k.1.2.1, .own 105 4 k.1.2.2.length (k.1.2.2.flatMap cFx))]⟩) (fun k=>l.length-k.1.1) ⟨(0, .slice none 0 0,[]),⟨Xf _,fun j x t h=>by simp at h⟩,rfl,rfl⟩ (fun a w H=>H.weaken ⟨rfl,rfl,rfl,rfl,rfl,rfl,rfl,rfl,rfl,trivial⟩ ⟨rfl,rfl,rfl,rfl,rfl,rfl,trivial⟩) ?_
 rintro ⟨⟨i,hv,xs⟩,hX,hxi,ho⟩
 dsimp only
 dsimp only at hX hxi ho
 have hXl:=hX.1
 have hXc:(xs.flatMap cFx).length=xs.length*4:=flat_len J8 xs
 refine Ze ?_
 (refine xL 24 ZQ ?_<;>refine Zc ?_)
 refine cX ?_ ?_<;>intro hb24
 · first|exact bN hb24|(
 obtain ⟨y,hy⟩:=Zp (show i<l.length by omega);have e1:((K0 l).drop (i*3)).take 3=[pInt y.op,Z' y.act,Wb y.l]:=Wh hy;have e2:=W0 hy;have hym:=Xc hy;have hys:=KJ hym;have hyo:=(Wx.1 hok).2 y hym;refine Ze ?_;(refine xL 25 (ZF Cm) ?_<;>(refine yL 26 (YI SN) fun v26 h=>?_;cases h)<;>refine Zw [(.int .i64 0),(.string ByteArray.empty),(.slice none 0 0)] 3 6 ZfM fun h6=>?_<;>refine ZA 6 SN ?_<;>refine Zg ?_)
 (refine xL 27 Zb ?_<;>(refine yL 28 (Zs 6 SN) fun v28 h=>?_;cases h)<;>(refine cDx (ι:={x:Fx//FxOk x y}) (p:=fun i=> .agg (cFx i.1)) 29 (cA (call77) ((ih y hym hyo oM).mono fun p ⟨x,h1,h2⟩=>⟨⟨x,h1⟩,h2⟩)) (fun i v29 _=>?_) (fun _=>rfl);obtain ⟨x29,hx29⟩:=i;dsimp only)<;>refine YM 30 HB fun h30 ho30=>?_<;>(refine ZU 200 30 31 HB fun h31 ho31=>?_;refine Zr (Zy (l:=31) 200 rfl rfl) fun _=>?_;refine Zr (ZP (l:=200) rfl (Zkk xs x29)) fun _=>?_)<;>refine xL 4 Za ?_<;>refine Zg ?_)
 (refine xL 32 ZH (xL 23 Zb ?_)<;>refine Zc ?_)
 refine Zn (
  ⟨(i+1,h31,xs++[x29]),hX.snoc (by rw [hxi];exact hy) hx29,by rw [Xb,Xs,hxi],ho31⟩
  ) (by dsimp only;omega) ⟨rfl,rfl,rfl,rfl,rfl,rfl,rfl,rfl,rfl,trivial⟩ ⟨rfl,rfl,rfl,rfl,rfl,rfl,trivial⟩)
 · first | exact bN hb24 | (
 have hXl2:xs.length=l.length:=oM;refine Zx (En.freeze (l:=200) (t:=4) rfl rfl) fun _=>?_;rw [Zij _ _ rfl];have hXs:xs.length≤1000000:=oM;have hcat:=T' (Wx.1 hok).1;refine Ze ?_;(refine xL 33 (Zd 1 Zbz) ?_<;>(refine yL 34 (Zk 1 Y2) fun v34 h=>?_;cases h)<;>refine Zg ?_)
 (refine xL 36 Z3 (xL 35 Za ?_)<;>refine Zc ?_)
 refine cX ?_ ?_<;>intro hb35
 · first|exact bN hb35|(
 (have ho1:o=1:=by simpa using hb35);have hl0:l=[]:=hcat.1 (.inl ho1);have hx0:xs=[]:=XO (by rw [hXl2,hl0];rfl);refine nav ?_;(refine Z5 (fun i=>([]:List Nat).elem i) [1,3] kR ?_<;>refine xD 0 37 rfl (Zd 3 YT) ?_<;>(refine yD 1 38 rfl (Zk 3 Yt) fun v38 h=>?_;cases h)<;>refine xD 2 39 rfl (Zd 1 Of) ?_<;>(refine yD 3 40 rfl (Zk 1 ZbB) fun v40 h=>?_;cases h)<;>refine xD 4 41 rfl (Zd 3 Wj) ?_<;>(refine yD 5 42 rfl (Zk 3 Yt) fun v42 h=>?_;cases h)<;>refine xD 6 43 rfl (Zd 1 Of) ?_<;>(refine yD 7 44 rfl (Zk 1 ZbB) fun v44 h=>?_;cases h)<;>(refine Zq 8 kR ?_)<;>(refine Zj rfl fun w9 M9 N9 DQ back=>?_)<;>(refine GU 17 Cl ?_;rw [Tx])<;>refine Zh (back _ (nrm ?_))<;>(refine Zq 9 kR ?_)<;>(refine Zj rfl fun w9 M9 N9 DQ back=>?_)<;>(refine GU 18 Cl ?_;rw [Tx])<;>refine Zh (back _ (nrm ?_))<;>refine YC kR (nav ?_)<;>try dsimp only)
 (refine Zt ?_<;>refine xL 45 (Zd 3 Ye) ?_<;>refine YZ 3 Y2 GF ?_<;>refine Zc ?_)
 have hfin:FxOk ⟨false,setK [] a,setK [] a,1⟩ (.mk o a l):=by
  refine SO hX hXl2 (OM XN a) (OM XN a) ?_ ?_ (fun t=>?_) (fun t=>?_)
  · unfold ZbC;rw [US oM,UT ho1]
  · unfold ZbD;rw [US oM,UT ho1]
  · rw [Gk];unfold opE;rw [US oM,UT ho1];simp
  · rw [Gk];unfold opE;rw [US oM,UT ho1];simp
 refine Zx (Z0 (l:=3) (l':=17) (j:=1) rfl rfl rfl rfl) fun _=>?_;refine Zx (Z0 (l:=3) (l':=18) (j:=2) rfl rfl rfl rfl) fun _=>?_;(refine Zt ?_<;>(refine yL 197 (Zs 3 ZZ) fun v197 h=>?_;cases h)<;>refine ZA 2 ZZ ?_<;>refine Zc ?_)
 first|refine Ex rfl ?_|refine T1 5000 rfl ?_
 exact JG (k:=4) 2 kR (results77) rfl rfl (Xa rfl) dC rfl ⟨_,hfin,rfl⟩)
 · first | exact bN hb35 | (
 refine Ze ?_;(refine xL 47 Z3 (xL 46 Za ?_)<;>refine Zc ?_)
 refine cX ?_ ?_<;>intro hb46
 · first|exact bN hb46|(
 (have ho2:o=2:=by simpa using hb46);have hl0:l=[]:=hcat.1 (.inr ho2);have hx0:xs=[]:=XO (by rw [hXl2,hl0];rfl);refine Ze ?_;(refine xL 48 (Zd 3 Z6) ?_<;>refine YZ 3 YU JR ?_<;>refine Zc ?_)
 have hfin:FxOk ⟨true,[],[],0⟩ (.mk o a l):=by
  refine SO hX hXl2 XN XN ?_ ?_ (fun t=>?_) (fun t=>?_)
  · unfold ZbC;rw [UT ho2]
  · unfold ZbD;rw [UT ho2]
  · unfold opE;rw [UT ho2]
  · unfold opE;rw [UT ho2]
 refine Zx (Z0 (l:=3) (l':=17) (j:=1) rfl rfl rfl rfl) fun _=>?_;refine Zx (Z0 (l:=3) (l':=18) (j:=2) rfl rfl rfl rfl) fun _=>?_;(refine Zt ?_<;>(refine yL 197 (Zs 3 ZZ) fun v197 h=>?_;cases h)<;>refine ZA 2 ZZ ?_<;>refine Zc ?_)
 first|refine Ex rfl ?_|refine T1 5000 rfl ?_
 exact JG (k:=4) 2 kR (results77) rfl rfl (Xa rfl) dC rfl ⟨_,hfin,rfl⟩)
 · first | exact bN hb46 |(
 refine Ze ?_;(refine xL 50 Z3 (xL 49 Za ?_)<;>refine Zc ?_)
 refine cX ?_ ?_<;>intro hb49
 · first | exact bN hb49|(
 refine nav ?_;(have ho3:o=3:=by simpa using hb49);have hlp:0<l.length:=List.length_pos_iff.2 (hcat.2.1 (.inl ho3));(refine Zt ?_<;>refine xL 51 (Zd 3 Z6) ?_<;>refine YZ 3 YU JR ?_<;>refine Zg ?_)
 (refine xL 52 Zb (xL 53 (ZR W6) (xL 54 Zb ?_))<;>refine Zc ?_)
 refine ZD (ι:={q:Nat×List ByteArray×Bool×Int//SeqI xs q.1 q.2.1∧q.2.2.1=((xs.take q.1).map (·.nul)).all id∧q.2.2.2=((xs.take q.1).map (·.sho)).foldl (· + ·) 0}) (fun k=>⟨[(1,_,_),(2,_,_),(3,_,_),(17,_,_),(18,_,_),(4,_,_),(52,_,_),(53,_,_),(54, .int .i64 k.1.1,pInt k.1.1)],[(1,_,_),(2,_,_),(3,h3, .own 105 4 1 [ZM k.1.2.2.1, .val h17, .val h18,pInt k.1.2.2.2]),(17,h17, .omap (skv (Yf k.1.2.1))),(18,h18, .omap (skv (Yf [])))]⟩) (fun k=>xs.length-k.1.1) ⟨(0,[],true,0),SeqI.zero xs,by rw [XQ];rfl,by rw [XQ];rfl⟩ (fun a w H=>H.weaken ⟨rfl,rfl,rfl,rfl,rfl,rfl,rfl,rfl,rfl,trivial⟩ ⟨rfl,rfl,rfl,rfl,rfl,trivial⟩) ?_;rintro ⟨⟨j,F,N,S⟩,hM,hN,hS⟩;dsimp only;dsimp only at hM hN hS;have hMl:=hM.le;have hMf:=hM.fn;have hSb:=Zd1 hX hXl2 j;rw [←hS] at hSb;refine Ze ?_;(refine xL 55 ZQ ?_<;>refine Zc ?_)
 refine cX ?_ ?_<;>intro hb55
 · first | exact bN hb55|(
 obtain ⟨y,hy⟩:=Zp (show j<xs.length by omega);have e1:((xs.flatMap cFx).drop (j*4)).take 4=[ZM y.nul, .smap (skv (Yf y.fs)), .smap (skv (Yf y.ls)),pInt y.sho]:=Yc (f:=cFx) J8 xs j y hy;have e2:=Yz (f:=cFx) J8 hy;have hyb:=Zlq hX hy hXl2;refine Ze ?_;(refine xL 56 (ZF W6) ?_<;>(refine yL 57 (YI ZZ) fun v57 h=>?_;cases h)<;>refine Zw [(.bool false),(.map none),(.map none),(.int .i64 0)] 4 8 W7 fun h8=>?_<;>refine ZA 8 ZZ ?_<;>refine Zg ?_)
 (refine xL 58 (Zd 3 Z6) ?_<;>(refine yL 59 (Zk 3 YU) fun v59 h=>?_;cases h)<;>refine Zc ?_)
 refine cX ?_ ?_<;>intro hb59
 · first | exact bN hb59|(
 refine Ze ?_;(refine xL 60 (Zd 3 YT) ?_<;>(refine yL 61 (Zk 3 Yt) fun v61 h=>?_;cases h)<;>refine xL 62 (Zd 8 YT) ?_<;>(refine yL 63 (Zk 8 Yt) fun v63 h=>?_;cases h)<;>(refine Zr (Zy (l:=17) 1000 rfl rfl) fun _=>?_;refine WP [1,2,3,8,18] 64 (call123) (KH h17 v63 F y.fs hMf) (fun v64 p64 h64 hR64=>?_);obtain ⟨F',hf1,hf2,rfl,rfl,rfl⟩:=hR64;refine Zr (Zy (l:=1000) 17 rfl rfl) fun _=>?_)<;>refine Zg ?_)
 (refine xL 65 (Zd 3 Z6) ?_<;>(refine yL 66 (Zk 3 YU) fun v66 h=>?_;cases h)<;>refine xL 67 Zb ?_<;>(refine bL 67 (fun hb67=>?_) (fun hb67=>?_)<;>(first|refine kL 68 ?_|refine xL 68 (Zd 8 Z6) ?_))<;>(first|refine kL 69 ?_|(refine yL 69 (Zk 8 YU) fun v69 h=>?_;cases h))<;>refine xL 70 Zz (xL 71 (Zd 3 Z6) ?_)<;>refine YZ 3 YU JR ?_<;>refine Zc ?_)<;>(
 (refine Zt ?_<;>refine xL 72 (Zd 3 Ye) ?_<;>(refine yL 73 (Zk 3 Y2) fun v73 h=>?_;cases h)<;>refine xL 74 (Zd 8 Ye) ?_<;>(refine yL 75 (Zk 8 Y2) fun v75 h=>?_;cases h)<;>refine xL 76 ZH (xL 77 (Zd 3 Ye) ?_)<;>refine YZ 3 Y2 GF ?_<;>refine Zg ?_)
 (refine xL 78 ZH (xL 54 Zb ?_)<;>refine Zc ?_)
 first
  | (exact Zn (
      ⟨(j+1,F',_,_),hM.yes hy (by rw [←hN];simpa using hb59) hf1 hf2,(by dsimp only;rw [Lz hy,←hN];first|(rw [hb67];rfl)|(simp at hb67;simp [hb67])),(by dsimp only;rw [Jz (· + ·) 0 hy,←hS])⟩
      ) (by dsimp only;omega) ⟨rfl,rfl,rfl,rfl,rfl,rfl,rfl,rfl,rfl,trivial⟩ ⟨rfl,rfl,rfl,rfl,rfl,trivial⟩)
  | (exact Zn (
      ⟨(j+1,F,_,_),hM.no hy (by rw [←hN];simpa using hb59),(by dsimp only;rw [Lz hy,←hN];first|(rw [hb67];rfl)|(simp at hb67;simp [hb67])),(by dsimp only;rw [Jz (· + ·) 0 hy,←hS])⟩
      ) (by dsimp only;omega) ⟨rfl,rfl,rfl,rfl,rfl,rfl,rfl,rfl,rfl,trivial⟩ ⟨rfl,rfl,rfl,rfl,rfl,trivial⟩)))
 · first | exact bN hb59|(
 refine Ze ?_;(refine xL 65 (Zd 3 Z6) ?_<;>(refine yL 66 (Zk 3 YU) fun v66 h=>?_;cases h)<;>refine xL 67 Zb ?_<;>(refine bL 67 (fun hb67=>?_) (fun hb67=>?_)<;>(first|refine kL 68 ?_|refine xL 68 (Zd 8 Z6) ?_))<;>(first|refine kL 69 ?_|(refine yL 69 (Zk 8 YU) fun v69 h=>?_;cases h))<;>refine xL 70 Zz (xL 71 (Zd 3 Z6) ?_)<;>refine YZ 3 YU JR ?_<;>refine Zc ?_)<;>(
 (refine Zt ?_<;>refine xL 72 (Zd 3 Ye) ?_<;>(refine yL 73 (Zk 3 Y2) fun v73 h=>?_;cases h)<;>refine xL 74 (Zd 8 Ye) ?_<;>(refine yL 75 (Zk 8 Y2) fun v75 h=>?_;cases h)<;>refine xL 76 ZH (xL 77 (Zd 3 Ye) ?_)<;>refine YZ 3 Y2 GF ?_<;>refine Zg ?_)
 (refine xL 78 ZH (xL 54 Zb ?_)<;>refine Zc ?_)
 first
  | (exact Zn (
      ⟨(j+1,F',_,_),hM.yes hy (by rw [←hN];simpa using hb59) hf1 hf2,(by dsimp only;rw [Lz hy,←hN];first|(rw [hb67];rfl)|(simp at hb67;simp [hb67])),(by dsimp only;rw [Jz (· + ·) 0 hy,←hS])⟩
      ) (by dsimp only;omega) ⟨rfl,rfl,rfl,rfl,rfl,rfl,rfl,rfl,rfl,trivial⟩ ⟨rfl,rfl,rfl,rfl,rfl,trivial⟩)
  | (exact Zn (
      ⟨(j+1,F,_,_),hM.no hy (by rw [←hN];simpa using hb59),(by dsimp only;rw [Lz hy,←hN];first|(rw [hb67];rfl)|(simp at hb67;simp [hb67])),(by dsimp only;rw [Jz (· + ·) 0 hy,←hS])⟩
      ) (by dsimp only;omega) ⟨rfl,rfl,rfl,rfl,rfl,rfl,rfl,rfl,rfl,trivial⟩ ⟨rfl,rfl,rfl,rfl,rfl,trivial⟩))))
 · first|exact bN hb55|(
 have hfm:=hM.fm;rw [show xs.take j=xs from Xo oM] at hN hS hfm;refine Ze ?_;(refine xL 79 Zb ?_<;>refine Zme 80 (fun _ _ _=>ho) fun g=>?_<;>refine Zc ?_)
 refine ZfK dC (show 0<xs.length by omega) hXs rfl rfl rfl rfl rfl rfl rfl ?hda ?hA ?hB fun D ms hms hmm=>?_
 case hda=>intro o ho c;simp at ho;rcases ho with rfl|rfl<;>simp
 case hA=>
  intro w0 M0 N0 Q e3 u0 u1 u2 u3 g0 g1 g2 g3 kk;refine Zw [.bool false, .map none, .map none, .int .i64 0] 4 10 (show ZeroT prog 105 (.agg #[.bool false, .map none, .map none, .int .i64 0]) by unfold ZeroT;kernel_rfl) fun h10=>?_;refine ZA (m:=4) (ps:=[.val u0, .val u1, .val u2, .val u3]) 10 kR ?_ (h1:=by simp only [XD,XH,XE,Xe];exact ⟨g0,g1,g2,g3⟩);refine Zh fun a w H=>kk h10 a w (H.weaken ⟨rfl,rfl,trivial⟩ ⟨rfl,trivial⟩)
 case hB=>
  intro w0 M0 N0 r n Q ks x h10 e3 hks hQ kk;refine Ze0 (ZdC (Sz (fun h=>hQ h) (fun o ho c=>by simp at ho;rcases ho with rfl|rfl|rfl|rfl|rfl<;>simp) ?_));refine xL 83 (Tq (show FldT prog 105 2 2=true by kernel_rfl)) ?_;refine yL 84 (Yo (show NoAgg prog 76=true by kernel_rfl)) fun v84 hv84=>?_
  cases hv84;refine xL 85 (Zd 10 (show FldT prog 105 2 2=true by kernel_rfl)) ?_;refine yL 86 (Zk 10 (show NoAgg prog 76=true by kernel_rfl)) fun v86 hv86=>?_;refine WP [10] 87 (call123) (KH h18 v86 ks x.ls hks) (fun v87 p87 h87 hR87=>?_);obtain ⟨ms,hms,hmm,rfl,rfl,rfl⟩:=hR87;obtain ⟨kn,kx⟩:=kk ms [] hms hmm;refine Zh (Zau (ZdC (Sz (fun h=>hQ h) (fun o ho c=>by simp at ho;rcases ho with rfl|rfl|rfl<;>simp) ?_)));refine xL 88 (Zd 10 (show FldT prog 105 0 0=true by kernel_rfl)) ?_;refine yL 89 (Zk 10 (show NoAgg prog 4=true by kernel_rfl)) fun v89 hv89=>?_
  cases hv89;refine xL 90 Yg ?_;refine Zh (Zau (Zg3 rfl (fun hb=>Zg5 fun a w H=>?_) (fun hb=>Zg4 fun a w H=>?_)))
  · show Exit.inBlock 6 Q (.exit 5) a w;simp only [Exit.inBlock];rw [US dC];exact kx (by simpa using hb) a w (H.weaken trivial ⟨rfl,trivial⟩)
  · exact kn (by simpa using hb) a w (H.weaken trivial ⟨rfl,trivial⟩)
 have hfin:FxOk ⟨N,F,ms,S⟩ (.mk o a l):=by
  refine SO hX hXl2 hMf hms ?_ ?_ (fun t=>?_) (fun t=>?_)
  · rw [hN];unfold ZbC;rw [US oM,US oM,US oM,US oM]
  · rw [hS];unfold ZbD;rw [US oM,US oM,US oM,US oM]
  · rw [hfm];unfold opE;rw [US oM,US oM,US oM,UT ho3,US dC]
  · rw [hmm];unfold opE;rw [US oM,US oM,US oM,UT ho3,UT rfl];exact Iff.rfl
 refine nav ?_;refine Zx (Z0 (l:=3) (l':=17) (j:=1) rfl rfl rfl rfl) fun _=>?_;refine Zx (Z0 (l:=3) (l':=18) (j:=2) rfl rfl rfl rfl) fun _=>?_;(refine Zt ?_<;>(refine yL 197 (Zs 3 ZZ) fun v197 h=>?_;cases h)<;>refine ZA 2 ZZ ?_<;>refine Zc ?_)
 first|refine Ex rfl ?_|refine T1 5000 rfl ?_
 exact JG (k:=4) 2 kR (results77) rfl rfl (Xa rfl) dC rfl ⟨_,hfin,rfl⟩))
 · first | exact bN hb49|(
 refine Ze ?_;(refine xL 92 Z3 (xL 91 Za ?_)<;>refine Zc ?_)
 refine cX ?_ ?_<;>intro hb91
 · first | exact bN hb91|(
 refine nav ?_;(have ho4:o=4:=by simpa using hb91);have hlp:0<l.length:=List.length_pos_iff.2 (hcat.2.1 (.inr (.inl ho4)));obtain ⟨y0,hy0⟩:=Zp (show 0<xs.length by omega);have g0:=Yz (f:=cFx) J8 hy0;have g1:(xs.flatMap cFx)[0*4+3]? =some (pInt y0.sho):=by
  have h9:=congrArg (fun m:List PV=>m[3]?) (Yc (f:=cFx) J8 xs 0 y0 hy0);simpa [cFx] using h9
 (refine Zt ?_<;>refine xL 93 Zb (xL 94 (ZF W6) (xL 95 (Tq Ye) ?_))<;>(refine yL 96 (Yo Y2) fun v96 h=>?_;cases h)<;>refine xL 97 (Zd 3 Ye) ?_<;>refine YZ 3 Y2 GF ?_<;>refine Zg ?_)
 (refine xL 98 Zb (xL 99 (ZR W6) (xL 100 Zb ?_))<;>refine Zc ?_)
 refine ZD (ι:={q:Nat×List ByteArray×List ByteArray×Bool×Int//MixI xs q.1 q.2.1 q.2.2.1∧q.2.2.2.1=((xs.take q.1).map (·.nul)).any id∧q.2.2.2.2=((xs.take q.1).map (·.sho)).foldl min y0.sho}) (fun k=>⟨[(1,_,_),(2,_,_),(3,_,_),(17,_,_),(18,_,_),(98,_,_),(99,_,_),(100, .int .i64 k.1.1,pInt k.1.1)],[(1,_,_),(2,_,_),(3,h3, .own 105 4 1 [ZM k.1.2.2.2.1, .val h17, .val h18,pInt k.1.2.2.2.2]),(17,h17, .omap (skv (Yf k.1.2.1))),(18,h18, .omap (skv (Yf k.1.2.2.1)))]⟩) (fun k=>xs.length-k.1.1) ⟨(0,[],[],false,y0.sho),MixI.zero xs,by rw [XQ];rfl,by rw [XQ];rfl⟩ (fun a w H=>H.weaken ⟨rfl,rfl,rfl,rfl,rfl,rfl,rfl,rfl,trivial⟩ ⟨rfl,rfl,rfl,rfl,rfl,trivial⟩) ?_;rintro ⟨⟨j,F,L,N,S⟩,hM,hN,hS⟩;dsimp only;dsimp only at hM hN hS;have hMl:=hM.le;have hMf:=hM.fn;have hMg:=hM.ln;refine Ze ?_;(refine xL 101 ZQ ?_<;>refine Zc ?_)
 refine cX ?_ ?_<;>intro hb101
 · first|exact bN hb101|(
 obtain ⟨y,hy⟩:=Zp (show j<xs.length by omega);have e1:((xs.flatMap cFx).drop (j*4)).take 4=[ZM y.nul, .smap (skv (Yf y.fs)), .smap (skv (Yf y.ls)),pInt y.sho]:=Yc (f:=cFx) J8 xs j y hy;have e2:=Yz (f:=cFx) J8 hy;refine Ze ?_;(refine xL 102 (ZF W6) ?_<;>(refine yL 103 (YI ZZ) fun v103 h=>?_;cases h)<;>refine Zw [(.bool false),(.map none),(.map none),(.int .i64 0)] 4 12 W7 fun h12=>?_<;>refine ZA 12 ZZ ?_<;>refine Zg ?_)
 (refine xL 104 (Zd 3 YT) ?_<;>(refine yL 105 (Zk 3 Yt) fun v105 h=>?_;cases h)<;>refine xL 106 (Zd 12 YT) ?_<;>(refine yL 107 (Zk 12 Yt) fun v107 h=>?_;cases h)<;>(refine Zr (Zy (l:=17) 1000 rfl rfl) fun _=>?_;refine WP [1,2,3,12,18] 108 (call123) (KH h17 v107 F y.fs hMf) (fun v108 p108 h108 hR108=>?_);obtain ⟨F',hf1,hf2,rfl,rfl,rfl⟩:=hR108;refine Zr (Zy (l:=1000) 17 rfl rfl) fun _=>?_)<;>refine Zg ?_)
 (refine xL 109 (Zd 3 Wj) ?_<;>(refine yL 110 (Zk 3 Yt) fun v110 h=>?_;cases h)<;>refine xL 111 (Zd 12 Wj) ?_<;>(refine yL 112 (Zk 12 Yt) fun v112 h=>?_;cases h)<;>(refine Zr (Zy (l:=18) 1000 rfl rfl) fun _=>?_;refine WP [1,2,3,12,17] 113 (call123) (KH h18 v112 L y.ls hMg) (fun v113 p113 h113 hR113=>?_);obtain ⟨L',hl1,hl2,rfl,rfl,rfl⟩:=hR113;refine Zr (Zy (l:=1000) 18 rfl rfl) fun _=>?_)<;>refine Zg ?_)
 (refine xL 114 (Zd 3 Z6) ?_<;>(refine yL 115 (Zk 3 YU) fun v115 h=>?_;cases h)<;>refine xL 116 Zb ?_<;>(refine bL 116 (fun hb116=>?_) (fun hb116=>?_)<;>(first|refine kL 117 ?_|refine xL 117 (Zd 12 Z6) ?_))<;>(first|refine kL 118 ?_|(refine yL 118 (Zk 12 YU) fun v118 h=>?_;cases h))<;>refine xL 119 Zz (xL 120 (Zd 3 Z6) ?_)<;>refine YZ 3 YU JR ?_<;>refine Zc ?_)<;>(
 (refine Zt ?_<;>refine xL 121 (Zd 3 Ye) ?_<;>(refine yL 122 (Zk 3 Y2) fun v122 h=>?_;cases h)<;>refine xL 123 (Zd 12 Ye) ?_<;>(refine yL 124 (Zk 12 Y2) fun v124 h=>?_;cases h)<;>refine xL 125 Zlj (xL 126 (Zd 3 Ye) ?_)<;>refine YZ 3 Y2 GF ?_<;>refine Zg ?_)
 (refine xL 127 ZH (xL 100 Zb ?_)<;>refine Zc ?_)
 refine Zn (
  ⟨(j+1,F',L',_,_),hM.step hy hf1 hf2 hl1 hl2,(by dsimp only;rw [ZfN hy,←hN];first|(rw [hb116];rfl)|(simp at hb116;simp [hb116])),(by dsimp only;rw [Jz min y0.sho hy,←hS];show (if y.sho<S then y.sho else S)=min S y.sho;split<;>omega)⟩
  ) (by dsimp only;omega) ⟨rfl,rfl,rfl,rfl,rfl,rfl,rfl,rfl,trivial⟩ ⟨rfl,rfl,rfl,rfl,rfl,trivial⟩))
 · first|exact bN hb101|(
 have hjl:j=xs.length:=oM;have hMa:=hM.all (show xs.length≤j by omega);rw [show xs.take j=xs from Xo oM] at hN hS;have hfin:FxOk ⟨N,F,L,S⟩ (.mk o a l):=by
  refine SO hX hXl2 hMf hMg ?_ ?_ (fun t=>?_) (fun t=>?_)
  · rw [hN];unfold ZbC;rw [US oM,US oM,US oM,UT ho4]
  · rw [hS];unfold ZbD;rw [US oM,US oM,US oM,UT ho4]
    cases xs with
    |nil=>cases hy0
    |cons x xs=>cases hy0;show List.foldl min (min y0.sho y0.sho) _=_;rw [Int.min_self];rfl
  · rw [hMa.1];unfold opE;rw [US oM,US oM,US oM,US oM]
  · rw [hMa.2];unfold opE;rw [US oM,US oM,US oM,US oM]
 refine nav ?_;refine Zx (Z0 (l:=3) (l':=17) (j:=1) rfl rfl rfl rfl) fun _=>?_;refine Zx (Z0 (l:=3) (l':=18) (j:=2) rfl rfl rfl rfl) fun _=>?_;(refine Zt ?_<;>(refine yL 197 (Zs 3 ZZ) fun v197 h=>?_;cases h)<;>refine ZA 2 ZZ ?_<;>refine Zc ?_)
 first|refine Ex rfl ?_|refine T1 5000 rfl ?_
 exact JG (k:=4) 2 kR (results77) rfl rfl (Xa rfl) dC rfl ⟨_,hfin,rfl⟩))
 · first | exact bN hb91|(
 refine Ze ?_;(refine xL 129 Z3 (xL 128 Za ?_)<;>refine Zc ?_)
 refine cX ?_ ?_<;>intro hb128
 · first |exact bN hb128|(
 refine nav ?_;(have ho5:o=5:=by simpa using hb128);(refine Zt ?_<;>refine xL 130 (Zd 3 Z6) ?_<;>refine YZ 3 YU JR ?_<;>refine Zg ?_)
 (refine xL 131 Zb (xL 132 (ZR W6) (xL 133 Zb ?_))<;>refine Zc ?_)
 refine ZD (ι:={q:Nat×List ByteArray×List ByteArray×Bool×Int//MixI xs q.1 q.2.1 q.2.2.1∧q.2.2.2.1=((xs.take q.1).map (·.nul)).all id∧q.2.2.2.2=((xs.take q.1).map (·.sho)).foldl (· + ·) 0}) (fun k=>⟨[(1,_,_),(2,_,_),(3,_,_),(17,_,_),(18,_,_),(131,_,_),(132,_,_),(133, .int .i64 k.1.1,pInt k.1.1)],[(1,_,_),(2,_,_),(3,h3, .own 105 4 1 [ZM k.1.2.2.2.1, .val h17, .val h18,pInt k.1.2.2.2.2]),(17,h17, .omap (skv (Yf k.1.2.1))),(18,h18, .omap (skv (Yf k.1.2.2.1)))]⟩) (fun k=>xs.length-k.1.1) ⟨(0,[],[],true,0),MixI.zero xs,by rw [XQ];rfl,by rw [XQ];rfl⟩ (fun a w H=>H.weaken ⟨rfl,rfl,rfl,rfl,rfl,rfl,rfl,rfl,trivial⟩ ⟨rfl,rfl,rfl,rfl,rfl,trivial⟩) ?_;rintro ⟨⟨j,F,L,N,S⟩,hM,hN,hS⟩;dsimp only;dsimp only at hM hN hS;have hMl:=hM.le;have hMf:=hM.fn;have hMg:=hM.ln;have hSb:=Zd1 hX hXl2 j;rw [←hS] at hSb;refine Ze ?_;(refine xL 134 ZQ ?_<;>refine Zc ?_)
 refine cX ?_ ?_<;>intro hb134
 · first|exact bN hb134|(
 obtain ⟨y,hy⟩:=Zp (show j<xs.length by omega);have e1:((xs.flatMap cFx).drop (j*4)).take 4=[ZM y.nul, .smap (skv (Yf y.fs)), .smap (skv (Yf y.ls)),pInt y.sho]:=Yc (f:=cFx) J8 xs j y hy;have e2:=Yz (f:=cFx) J8 hy;have hyb:=Zlq hX hy hXl2;refine Ze ?_;(refine xL 135 (ZF W6) ?_<;>(refine yL 136 (YI ZZ) fun v136 h=>?_;cases h)<;>refine Zw [(.bool false),(.map none),(.map none),(.int .i64 0)] 4 14 W7 fun h14=>?_<;>refine ZA 14 ZZ ?_<;>refine Zg ?_)
 (refine xL 137 (Zd 3 YT) ?_<;>(refine yL 138 (Zk 3 Yt) fun v138 h=>?_;cases h)<;>refine xL 139 (Zd 14 YT) ?_<;>(refine yL 140 (Zk 14 Yt) fun v140 h=>?_;cases h)<;>(refine Zr (Zy (l:=17) 1000 rfl rfl) fun _=>?_;refine WP [1,2,3,14,18] 141 (call123) (KH h17 v140 F y.fs hMf) (fun v141 p141 h141 hR141=>?_);obtain ⟨F',hf1,hf2,rfl,rfl,rfl⟩:=hR141;refine Zr (Zy (l:=1000) 17 rfl rfl) fun _=>?_)<;>refine Zg ?_)
 (refine xL 142 (Zd 3 Wj) ?_<;>(refine yL 143 (Zk 3 Yt) fun v143 h=>?_;cases h)<;>refine xL 144 (Zd 14 Wj) ?_<;>(refine yL 145 (Zk 14 Yt) fun v145 h=>?_;cases h)<;>(refine Zr (Zy (l:=18) 1000 rfl rfl) fun _=>?_;refine WP [1,2,3,14,17] 146 (call123) (KH h18 v145 L y.ls hMg) (fun v146 p146 h146 hR146=>?_);obtain ⟨L',hl1,hl2,rfl,rfl,rfl⟩:=hR146;refine Zr (Zy (l:=1000) 18 rfl rfl) fun _=>?_)<;>refine Zg ?_)
 (refine xL 147 (Zd 3 Z6) ?_<;>(refine yL 148 (Zk 3 YU) fun v148 h=>?_;cases h)<;>refine xL 149 Zb ?_<;>(refine bL 149 (fun hb149=>?_) (fun hb149=>?_)<;>(first|refine kL 150 ?_|refine xL 150 (Zd 14 Z6) ?_))<;>(first|refine kL 151 ?_|(refine yL 151 (Zk 14 YU) fun v151 h=>?_;cases h))<;>refine xL 152 Zz (xL 153 (Zd 3 Z6) ?_)<;>refine YZ 3 YU JR ?_<;>refine Zc ?_)<;>(
 (refine Zt ?_<;>refine xL 154 (Zd 3 Ye) ?_<;>(refine yL 155 (Zk 3 Y2) fun v155 h=>?_;cases h)<;>refine xL 156 (Zd 14 Ye) ?_<;>(refine yL 157 (Zk 14 Y2) fun v157 h=>?_;cases h)<;>refine xL 158 ZH (xL 159 (Zd 3 Ye) ?_)<;>refine YZ 3 Y2 GF ?_<;>refine Zg ?_)
 (refine xL 160 ZH (xL 133 Zb ?_)<;>refine Zc ?_)
 refine Zn (
  ⟨(j+1,F',L',_,_),hM.step hy hf1 hf2 hl1 hl2,(by dsimp only;rw [Lz hy,←hN];first|(rw [hb149];rfl)|(simp at hb149;simp [hb149])),(by dsimp only;rw [Jz (· + ·) 0 hy,←hS])⟩
  ) (by dsimp only;omega) ⟨rfl,rfl,rfl,rfl,rfl,rfl,rfl,rfl,trivial⟩ ⟨rfl,rfl,rfl,rfl,rfl,trivial⟩))
 · first|exact bN hb134|(
 have hMa:=hM.all (show xs.length≤j by omega);rw [show xs.take j=xs from Xo oM] at hN hS;have hfin:FxOk ⟨N,F,L,S⟩ (.mk o a l):=by
  refine SO hX hXl2 hMf hMg ?_ ?_ (fun t=>?_) (fun t=>?_)
  · rw [hN];unfold ZbC;rw [US oM,US oM,US oM,US oM]
  · rw [hS];unfold ZbD;rw [US oM,US oM,US oM,US oM]
  · rw [hMa.1];unfold opE;rw [US oM,US oM,US oM,US oM]
  · rw [hMa.2];unfold opE;rw [US oM,US oM,US oM,US oM]
 refine nav ?_;refine Zx (Z0 (l:=3) (l':=17) (j:=1) rfl rfl rfl rfl) fun _=>?_;refine Zx (Z0 (l:=3) (l':=18) (j:=2) rfl rfl rfl rfl) fun _=>?_;(refine Zt ?_<;>(refine yL 197 (Zs 3 ZZ) fun v197 h=>?_;cases h)<;>refine ZA 2 ZZ ?_<;>refine Zc ?_)
 first|refine Ex rfl ?_|refine T1 5000 rfl ?_
 exact JG (k:=4) 2 kR (results77) rfl rfl (Xa rfl) dC rfl ⟨_,hfin,rfl⟩))
 · first | exact bN hb128|(
 refine Ze ?_;(refine xL 162 Z3 (xL 161 Za ?_)<;>refine Zc ?_)
 refine cX ?_ ?_<;>intro hb161
 · (have ho6 :o=6:=by simpa using hb161);have hl2:=hcat.2.2.1 ho6;obtain ⟨x1,x2,rfl⟩:∃x1 x2,xs=[x1,x2]:=by
    match xs,hXl2.trans hl2 with
    |[x1,x2],_=>exact ⟨x1,x2,rfl⟩
   have e1:(([x1,x2].flatMap cFx).drop (0*4)).take 4=[ZM x1.nul, .smap (skv (Yf x1.fs)), .smap (skv (Yf x1.ls)),pInt x1.sho]:=rfl;have e2:(([x1,x2].flatMap cFx).drop (1*4)).take 4=[ZM x2.nul, .smap (skv (Yf x2.fs)), .smap (skv (Yf x2.ls)),pInt x2.sho]:=rfl;(have e3:0*4+4≤([x1,x2].flatMap cFx).length:=by show 4≤8;decide);(have e4:1*4+4≤([x1,x2].flatMap cFx).length:=by show 8≤8;decide);refine nav ?_;(refine Z5 (fun i=>([]:List Nat).elem i) [] kR ?_<;>refine xD 0 163 rfl Zb ?_<;>refine xD 1 164 rfl (ZF W6) ?_<;>(refine yD 2 165 rfl (YI ZZ) fun v165 h=>?_;cases h)<;>refine xD 3 166 rfl Zb ?_<;>refine xD 4 167 rfl (ZF W6) ?_<;>(refine yD 5 168 rfl (YI ZZ) fun v168 h=>?_;cases h)<;>(refine Y5 6 7 kR ?_ ?_;rotate_right;(focus ((refine Zj rfl fun w9 M9 N9 DQ back=>?_)<;>refine Zw [(.bool false),(.map none),(.map none),(.int .i64 0)] 4 16 W7 fun h16=>?_<;>refine Zh (back _ (nrm ?_))<;>(refine Zq 6 kR ?_)<;>(refine Zj rfl fun w9 M9 N9 DQ back=>?_)<;>refine Zw [(.bool false),(.map none),(.map none),(.int .i64 0)] 4 15 W7 fun h15=>?_<;>refine Zh (back _ (nrm ?_))<;>(refine Zq 8 kR ?_)<;>(refine Zj rfl fun w9 M9 N9 DQ back=>?_)<;>refine ZA 15 ZZ ?_<;>refine Zh (back _ (nrm ?_))<;>(refine Zq 9 kR ?_)<;>(refine Zj rfl fun w9 M9 N9 DQ back=>?_)<;>refine ZA 16 ZZ ?_<;>refine Zh (back _ (nrm ?_))));rotate_right;(focus ((refine Zj rfl fun w9 M9 N9 DQ back=>?_)<;>refine Zw [(.bool false),(.map none),(.map none),(.int .i64 0)] 4 15 W7 fun h15=>?_<;>refine Zh (back _ (nrm ?_))<;>(refine Zq 7 kR ?_)<;>(refine Zj rfl fun w9 M9 N9 DQ back=>?_)<;>refine Zw [(.bool false),(.map none),(.map none),(.int .i64 0)] 4 16 W7 fun h16=>?_<;>refine Zh (back _ (nrm ?_))<;>(refine Zq 8 kR ?_)<;>(refine Zj rfl fun w9 M9 N9 DQ back=>?_)<;>refine ZA 15 ZZ ?_<;>refine Zh (back _ (nrm ?_))<;>(refine Zq 9 kR ?_)<;>(refine Zj rfl fun w9 M9 N9 DQ back=>?_)<;>refine ZA 16 ZZ ?_<;>refine Zh (back _ (nrm ?_)))))<;>refine YC kR (nav ?_)<;>try dsimp only)<;>(
 (refine Zt ?_<;>refine xL 169 (Zd 3 YT) ?_<;>(refine yL 170 (Zk 3 Yt) fun v170 h=>?_;cases h)<;>refine xL 171 (Zd 15 YT) ?_<;>(refine yL 172 (Zk 15 Yt) fun v172 h=>?_;cases h)<;>(refine Zr (Zy (l:=17) 1000 rfl rfl) fun _=>?_;refine WP [1,2,3,15,16,18] 173 (call123) (KH h17 v172 [] x1.fs XN) (fun v173 p173 h173 hR173=>?_);obtain ⟨F1,hf1,hf2,rfl,rfl,rfl⟩:=hR173;refine Zr (Zy (l:=1000) 17 rfl rfl) fun _=>?_)<;>refine Zg ?_)
 (refine xL 174 (Zd 3 Wj) ?_<;>(refine yL 175 (Zk 3 Yt) fun v175 h=>?_;cases h)<;>refine xL 176 (Zd 15 Wj) ?_<;>(refine yL 177 (Zk 15 Yt) fun v177 h=>?_;cases h)<;>(refine Zr (Zy (l:=18) 1000 rfl rfl) fun _=>?_;refine WP [1,2,3,15,16,17] 178 (call123) (KH h18 v177 [] x1.ls XN) (fun v178 p178 h178 hR178=>?_);obtain ⟨L1,hl1,hl2',rfl,rfl,rfl⟩:=hR178;refine Zr (Zy (l:=1000) 18 rfl rfl) fun _=>?_)<;>refine Zg ?_)
 (refine xL 179 (Zd 15 Z6) ?_<;>(refine yL 180 (Zk 15 YU) fun v180 h=>?_;cases h)<;>refine Zc ?_)
 refine CQ (fun q:{q:List ByteArray×List ByteArray//FxOk ⟨x1.nul,q.1,q.2,x1.sho⟩ (.mk o a l)}=>⟨[(2,padd (sbase h2) 0, .val (padd (sbase h2) 0)),(3,padd (sbase h3) 0, .val (padd (sbase h3) 0)),(15,padd (sbase h15) 0, .val (padd (sbase h15) 0))],[(2,h2, .own 105 4 1 ([.bool false, .map none, .map none, .int .i64 0].map PV.val)),(3,h3, .own 105 4 1 [ZM false, .val h17, .val h18,pInt 0]),(15,h15, .own 105 4 1 [ZM x1.nul, .smap (skv (Yf x1.fs)), .smap (skv (Yf x1.ls)),pInt x1.sho]),(17,h17, .omap (skv (Yf q.1.1))),(18,h18, .omap (skv (Yf q.1.2)))]⟩) ?_ ?_
 · refine cX ?_ ?_<;>intro hb180
   · first|exact bN hb180|(
 refine Ze ?_;(refine xL 181 (Zd 3 YT) ?_<;>(refine yL 182 (Zk 3 Yt) fun v182 h=>?_;cases h)<;>refine xL 183 (Zd 16 YT) ?_<;>(refine yL 184 (Zk 16 Yt) fun v184 h=>?_;cases h)<;>(refine Zr (Zy (l:=17) 1000 rfl rfl) fun _=>?_;refine WP [1,2,3,15,16,18] 185 (call123) (KH h17 v184 F1 x2.fs hf1) (fun v185 p185 h185 hR185=>?_);obtain ⟨F2,hf3,hf4,rfl,rfl,rfl⟩:=hR185;refine Zr (Zy (l:=1000) 17 rfl rfl) fun _=>?_)<;>refine Zg ?_)
 (refine xL 186 (Zd 3 Wj) ?_<;>(refine yL 187 (Zk 3 Yt) fun v187 h=>?_;cases h)<;>refine xL 188 (Zd 16 Wj) ?_<;>(refine yL 189 (Zk 16 Yt) fun v189 h=>?_;cases h)<;>(refine Zr (Zy (l:=18) 1000 rfl rfl) fun _=>?_;refine WP [1,2,3,15,16,17] 190 (call123) (KH h18 v189 L1 x2.ls hl1) (fun v190 p190 h190 hR190=>?_);obtain ⟨L2,hl3,hl4,rfl,rfl,rfl⟩:=hR190;refine Zr (Zy (l:=1000) 18 rfl rfl) fun _=>?_)<;>refine Zc ?_)
 have hfin:FxOk ⟨x1.nul,F2,L2,x1.sho⟩ (.mk o a l):=by
  refine SO hX hXl2 hf3 hl3 ?_ ?_ (fun t=>?_) (fun t=>?_)
  · unfold ZbC;rw [US oM,US oM,UT ho6];rfl
  · unfold ZbD;rw [US oM,US oM,UT ho6];rfl
  · rw [hf4,hf2];unfold opE;rw [US oM,US oM,UT ho6];show _↔t∈x1.fs++(if x1.nul=true then x2.fs else []);rw [UT (by simpa using hb180),Xh];simp
  · rw [hl4,hl2'];unfold opE;rw [US oM,US oM,UT ho6];show _↔t∈x1.ls++(if x1.nul=true then x2.ls else []);rw [UT (by simpa using hb180),Xh];simp
 exact K8 ⟨(_,_),hfin⟩ ⟨rfl,rfl,rfl,trivial⟩ ⟨rfl,rfl,rfl,rfl,rfl,trivial⟩)
   · first|exact bN hb180|(
 have hfin:FxOk ⟨x1.nul,F1,L1,x1.sho⟩ (.mk o a l):=by
  refine SO hX hXl2 hf1 hl1 ?_ ?_ (fun t=>?_) (fun t=>?_)
  · unfold ZbC;rw [US oM,US oM,UT ho6];rfl
  · unfold ZbD;rw [US oM,US oM,UT ho6];rfl
  · rw [hf2];unfold opE;rw [US oM,US oM,UT ho6];show _↔t∈x1.fs++(if x1.nul=true then x2.fs else []);rw [US (by simpa using hb180)];simp
  · rw [hl2'];unfold opE;rw [US oM,US oM,UT ho6];show _↔t∈x1.ls++(if x1.nul=true then x2.ls else []);rw [US (by simpa using hb180)];simp
 refine nav ?_;exact K8 ⟨(_,_),hfin⟩ ⟨rfl,rfl,rfl,trivial⟩ ⟨rfl,rfl,rfl,rfl,rfl,trivial⟩)
 · rintro ⟨⟨F,L⟩,hfin⟩;dsimp only at hfin ⊢;refine nav ?_;(refine Z5 (fun i=>([]:List Nat).elem i) [15] kR ?_<;>refine xD 0 191 rfl (Zd 15 Z6) ?_<;>(refine yD 1 192 rfl (Zk 15 YU) fun v192 h=>?_;cases h)<;>refine xD 2 193 rfl (Zd 15 Ye) ?_<;>(refine yD 3 194 rfl (Zk 15 Y2) fun v194 h=>?_;cases h)<;>(refine Zq 4 kR ?_)<;>(refine Zj rfl fun w9 M9 N9 DQ back=>?_)<;>refine xL 195 (Zd 3 Z6) ?_<;>refine Zh (back _ (nrm ?_))<;>(refine Zq 5 kR ?_)<;>(refine Zj rfl fun w9 M9 N9 DQ back=>?_)<;>refine YZ 3 YU JR ?_<;>refine Zh (back _ (nrm ?_))<;>(refine Zq 6 kR ?_)<;>(refine Zj rfl fun w9 M9 N9 DQ back=>?_)<;>refine xL 196 (Zd 3 Ye) ?_<;>refine Zh (back _ (nrm ?_))<;>(refine Zq 7 kR ?_)<;>(refine Zj rfl fun w9 M9 N9 DQ back=>?_)<;>refine YZ 3 Y2 GF ?_<;>refine Zh (back _ (nrm ?_))<;>refine YC kR (nav ?_)<;>try dsimp only)
   refine Zx (Z0 (l:=3) (l':=17) (j:=1) rfl rfl rfl rfl) fun _=>?_;refine Zx (Z0 (l:=3) (l':=18) (j:=2) rfl rfl rfl rfl) fun _=>?_;(refine Zt ?_<;>(refine yL 197 (Zs 3 ZZ) fun v197 h=>?_;cases h)<;>refine ZA 2 ZZ ?_<;>refine Zc ?_)
   first|refine Ex rfl ?_|refine T1 5000 rfl ?_
   exact JG (k:=4) 2 kR (results77) rfl rfl (Xa rfl) dC rfl ⟨_,hfin,rfl⟩)
 · exfalso;omega))))))
instance:DecidableEq Mv:=fun a b=>if h:eqM a b=true then .isTrue (GN.1 h) else .isFalse fun e=>h (GN.2 e)
def Zc9 (x:Int):List Int→List Int
 |[]=>[x]
 |y::l=>if x≤y then x::y::l else y::Zc9 x l
def Zkl:List Int→List Int
 |[]=>[]
 |x::l=>Zc9 x (Zkl l)
theorem PC (x:Int):∀l,(Zc9 x l).Perm (x::l)
 |[]=> .refl _
 | y::l=>by
   unfold Zc9;split
   · exact .refl _
   · exact ((PC x l).cons y).trans (.swap _ _ _)
theorem Co:∀l,(Zkl l).Perm l
 |[]=> .refl _
 |x::l=>(PC x _).trans ((Co l).cons x)
theorem Zd2 (x:Int):∀l:List Int,l.Pairwise (· ≤ ·)→(Zc9 x l).Pairwise (· ≤ ·)
 |[],_=>by simp [Zc9]
 | y ::l,h=>by
   have h':=XP.1 h;unfold Zc9;split
   · rename_i hxy;refine XP.2 ⟨fun z hz=>?_,h⟩;rcases Xq.1 hz with rfl|hz
     · exact hxy
     · exact Int.le_trans hxy (h'.1 z hz)
   · rename_i hxy;refine XP.2 ⟨fun z hz=>?_,Zd2 x l h'.2⟩;rcases Xq.1 ((PC x l).mem_iff.1 hz) with rfl|hz
     · omega
     · exact h'.1 z hz
theorem Zd3:∀l,(Zkl l).Pairwise (· ≤ ·)
 |[]=> .nil
 |x::l=>Zd2 x _ (Zd3 l)
theorem HE:∀{l m:List Int},l.Pairwise (· ≤ ·)→m.Pairwise (· ≤ ·)→l.Perm m→l=m
 |[],[],_,_,_=>rfl
 |[],y::m,_,_,h=>by have:=h.length_eq;simp at this
 |x::l,[],_,_,h=>by have:=h.length_eq;simp at this
 | x ::l,y::m,hl,hm,h=>by
   have hl':=XP.1 hl;have hm':=XP.1 hm;have h1:x≤y:=by
    rcases Xq.1 (h.mem_iff.2 (Xi ..)) with e|e
    · omega
    · exact hl'.1 y e
   have h2:y≤x:=by
    rcases Xq.1 (h.mem_iff.1 (Xi ..)) with e|e
    · omega
    · exact hm'.1 x e
   obtain rfl:x=y:=oM;rw [HE hl'.2 hm'.2 ((List.perm_cons x).1 h)]
def RI (a:Aut) (l:List Int):List Int:=Zkl (Wi a l a.n.toNat)
theorem RJ (a:Aut) (l:List Int):Y0 a l=RI a l:=by
 unfold Y0 RI
 have h1:((Wi a l a.n.toNat).mergeSort fun x y=>decide (x≤y)).Pairwise (fun x y=>decide (x≤y)=true):=Uk (fun a b c h1 h2=>by simp only [UP] at*;omega) (fun a b=>by simp only [X3,UP];omega) _
 exact HE (h1.imp fun h=>by simpa using h) (Zd3 _) ((Ul _ _).trans (Co _).symm)
def Zkm (a:Aut) (far:List Int) (n:Int) (p:Pf) (c:Nat):List Pf:=if (Wl (RI a (Kq a c p.2)) far (n-1)).length=0 then [] else [(p.1++[(c:Int)],Wl (RI a (Kq a c p.2)) far (n-1))]
def lvI (a:Aut) (far:List Int) (n:Nat):Nat→List Pf
 |0=>[([],Wl (RI a a.start) far n)]
 |k+1=>(lvI a far n k).flatMap fun p=>(List.range a.syms.toNat).flatMap (Zkm a far ((n:Int)-k) p)
theorem Zda (a:Aut) (n:Nat):∀k,lvP a n k=lvI a (Y9 a) n k
 |0=>by rw [lvP,lvI,RJ]
 | k +1=>by
   rw [lvP,lvI,Zda a n k];have:∀p,Sn a ((n:Int)-k) p=(List.range a.syms.toNat).flatMap (Zkm a (Y9 a) ((n:Int)-k) p):=fun p=>by
    unfold Sn;have:GX a ((n:Int)-k) p=Zkm a (Y9 a) ((n:Int)-k) p:=by
     funext c
     unfold GX Zkm YD;rw [RJ]
    rw [this]
   exact TD fun p _=>this p
def Zkn (a:Aut) (far:List Int) (n k:Nat):List (List Int):=(List.range k).flatMap fun i=>Rn a (lvI a far n i)
theorem Zd4 (a:Aut) (n k:Nat):Le a n k=Zkn a (Y9 a) n k:=by
 unfold Le Zkn
 simp only [Zda]
def Zmf (a:Aut) (far:List Int) (n:Nat):Bool:=(List.range (n+1)).any (fun k=>decide (2000<(lvI a far n (k+1)).length))||decide (2000<(Zkn a far n (n+1)).length)
theorem Zko (a:Aut) (n:Nat):ZjQ a n↔Zmf a (Y9 a) n=true:=by
 unfold ZjQ Zmf
 rw [Zd4]
 simp only [X3,VW,Vi,UP,Zda]
 constructor
 · rintro (⟨k,h1,h2⟩|h)
   · exact .inl ⟨k,oM,h2⟩
   · exact .inr h
 · rintro (⟨k,h1,h2⟩|h)
   · exact .inl ⟨k,oM,h2⟩
   · exact .inr h
def Zil (a:Aut):Srch (List Int) (List Int):=⟨id,2000,a.syms.toNat,fun _ l s=>RI a (Kq a (s:Nat) l)⟩
theorem Zkp (a:Aut):Jw a=Zil a:=by
 unfold Jw Zil
 congr 1
 funext _ l s
 unfold YD
 rw [RJ]
theorem Zkq {a:Aut} {q:List (List Int)×List (List Nat)} (i:Nat) (h:(Zil a).upto (RI a a.start) i=some q) (hl:q.1.length≤i) (hi:i≤2000):J5 a=some ⟨a.syms.toNat,q.2,q.1.map (KF a)⟩:=by
 unfold J5
 rw [Zkp,RJ,Srch.all_some h hl hi];rfl
theorem Zkr {a:Aut} {q:List (List Int)×List (List Nat)} {A:Aut} (i:Nat) (h:(Zil a).upto (RI a a.start) i=some q) (hl:q.1.length≤i) (hi:i≤2000) (hA:WS ⟨a.syms.toNat,q.2,q.1.map (KF a)⟩=some A):WH a= .ok A:=by
 unfold WH
 rw [Zkq i h hl hi]
 dsimp only
 rw [hA];rfl
theorem Zim {a b A B:Aut} {q:List ((Nat×Nat)×(Int×Int))×List (List Nat)} (i:Nat) (ha:WH a= .ok A) (hb:WH b= .ok B) (h:(Y7 A B).upto ((0,0),(-1,-1)) i=some q) (hl:q.1.length≤i) (hi:i≤2000):Ln a b= .ok (A,B,q):=by
 unfold Ln
 rw [ha,hb]
 dsimp only
 rw [show prodQ A B=some q from Srch.all_some h hl hi]
theorem Zks {a b A B:Aut} {q:List ((Nat×Nat)×(Int×Int))×List (List Nat)} {op:Int} (hf:WW a b=0) (h:Ln a b= .ok (A,B,q)):cmpX a b op=((LW A B op q).1,(LW A B op q).2,0):=by
 unfold cmpX
 rw [US (fun h=>h hf),h]
theorem Zkt {a b:Aut} (h1:a.n=b.n) (h2:a.syms=b.syms) (h3:a.start=b.start) (h4:a.fin=b.fin) (h5:a.moves=b.moves):a=b:=by
 cases a;cases b;simp_all
instance:DecidableEq Aut:=fun a b=>if h:a.n=b.n∧a.syms=b.syms∧a.start=b.start∧a.fin=b.fin∧a.moves=b.moves then .isTrue (Zkt h.1 h.2.1 h.2.2.1 h.2.2.2.1 h.2.2.2.2) else .isFalse fun e=>h (by subst e;exact ⟨rfl,rfl,rfl,rfl,rfl⟩)
def G1 (a:Aut):List PV:=[pInt a.n,pInt a.syms,pInts a.start,pInts a.fin,pMvs a.moves]
theorem TP (a:Aut):(G1 a).length=5:=rfl
theorem ZfO {a:Aut} (h:Z4 a=false):Gu a= .error 1:=by unfold Gu;rw [h];rfl
theorem Zin {a:Aut} (h:Z4 a=true):Gu a=Jh (Ji a):=by unfold Gu;rw [h];rfl
def G2 (n:Int) (l:List Int):List Mv:=l.map fun s=>⟨n,s,-1⟩
def HG (n:Int) (l:List Int):List Mv:=l.map fun s=>⟨s,n,-1⟩
theorem ZfP (n:Int) {l:List Int} {k:Nat} {x:Int} (h:l[k]? =some x):G2 n (l.take (k+1))=G2 n (l.take k)++[⟨n,x,-1⟩]:=by unfold G2;rw [ZE h,Xr];rfl
theorem ZfQ (n:Int) {l:List Int} {k:Nat} {x:Int} (h:l[k]? =some x):HG n (l.take (k+1))=HG n (l.take k)++[⟨x,n,-1⟩]:=by unfold HG;rw [ZE h,Xr];rfl
theorem Zdb (a:Aut):(Ji a).moves=a.moves++G2 a.n a.start++HG a.n a.fin:=rfl
theorem ZbE {a:Aut} (h:AOk a):(Ji a).moves.length≤1000000:=by
 rw [Zdb,Xb,Xb]
 unfold G2 HG
 rw [Xd,Xd]
 have:=h.ml;have:=h.sl;have:=h.fl
 omega
theorem ZfR (a:Aut) (hv:Z4 a=false):AF prog 90 [ZO a] (· = .tup [Ll,pInt 1]):=by
 refine AF.of_body 64 func90 rfl ntmps90 (Xa rfl) ?_
 intro w0 M0 vs hl hv
 obtain ⟨v0,rfl⟩:=WL hl
 clear hl hv
 refine Ze ?_
 (refine ZG 1 5 fun h1=>?_<;>refine Zw [(.int .i64 0),(.int .i64 0),(.slice none 0 0),(.slice none 0 0),(.slice none 0 0)] 5 2 ZI fun h2=>?_<;>refine xL 3 Za ?_<;>refine Zg ?_)
 ((refine yL 10 (Zs 1 Zm) fun v10 h=>?_;cases h)<;>(refine cS 11 (cA call107 (Wg a)) fun v11 h=>?_;cases h)<;>refine xL 12 Yg ?_<;>refine Zc ?_)
 refine cX ?_ ?_<;>intro hb12
 · refine Ze ?_;(refine xL 13 (ZL ZS) ?_<;>refine ZA 2 Zm ?_<;>refine xL 3 Za ?_<;>refine Zc ?_)
   exact Ys (k:=5) 2 kR (results90) rfl rfl rfl (Xa rfl) dC rfl rfl
 · rw [hv] at hb12;simp at hb12
set_option maxHeartbeats 1000000 in
theorem Zku (a:Aut) (hv:Z4 a=true) {p0 p1 p2 p3 p4:PV} {E:Int} (r5:R5 p0 p1 p2 p3 p4) (hr:AF prog 132 [ZO (mkA (Ji a))] (· = .tup [.agg [p0,p1,p2,p3,p4],pInt E])):AF prog 90 [ZO a] (· = .tup [.agg [p0,p1,p2,p3,p4],pInt E]):=by
 obtain ⟨o0,o1,o2,o3,o4⟩:=r5.o
 have h:=WT hv
 have hn0:=h.n0
 have hn1:=h.n1
 have hml:=h.ml
 have hsl:=h.sl
 have hfl:=h.fl
 refine AF.of_body 64 func90 rfl ntmps90 (Xa rfl) ?_
 intro w0 M0 vs hl hv
 obtain ⟨v0,rfl⟩:=WL hl
 clear hl hv
 refine Ze ?_
 (refine ZG 1 5 fun h1=>?_<;>refine Zw [(.int .i64 0),(.int .i64 0),(.slice none 0 0),(.slice none 0 0),(.slice none 0 0)] 5 2 ZI fun h2=>?_<;>refine xL 3 Za ?_<;>refine Zg ?_)
 ((refine yL 10 (Zs 1 Zm) fun v10 h=>?_;cases h)<;>(refine cS 11 (cA call107 (Wg a)) fun v11 h=>?_;cases h)<;>refine xL 12 Yg ?_<;>refine Zc ?_)
 refine cX ?_ ?_<;>intro hb12
 · rw [hv] at hb12;simp at hb12
 · refine Ze ?_;(refine xL 14 (Zd 1 ZY) ?_<;>(refine yL 15 (Zk 1 Zo) fun v15 h=>?_;cases h)<;>refine xL 4 Za ?_<;>refine Zc ?_)
   refine CQ (fun x:{x:Value×Value//x.1.oneCell'=true}=>⟨[(1,padd (sbase h1) 0, .val (padd (sbase h1) 0)),(2,padd (sbase h2) 0, .val (padd (sbase h2) 0)),(4, .int .i64 a.n,pInt a.n),(5,padd (sbase x.1.2) 0, .val (padd (sbase x.1.2) 0))],[(1,h1, .own 39 5 1 [pInt a.n,pInt a.syms,pInts a.start,pInts a.fin,pMvs a.moves]),(2,h2, .own 39 5 1 [pInt 0,pInt 0, .val (.slice none 0 0), .val (.slice none 0 0), .val (.slice none 0 0)]),(5,x.1.2, .own 39 5 1 [pInt (a.n+1),pInt a.syms,pInts [a.n],pInts [a.n], .val x.1.1]),(26,x.1.1, .own 93 3 a.moves.length (a.moves.flatMap cMv))]⟩) ?_ ?_
   · (refine Z5 (fun i=>([]:List Nat).elem i) [1] kR ?_<;>refine xD 0 16 rfl Zb ?_<;>refine xD 1 17 rfl ZH ?_<;>refine xD 2 18 rfl (Zd 1 Yl) ?_<;>(refine yD 3 19 rfl (Zk 1 Zo) fun v19 h=>?_;cases h)<;>refine xD 4 20 rfl Zb ?_<;>refine xD 6 22 rfl Zb ?_<;>refine xD 8 24 rfl (Zd 1 ZC) ?_<;>(refine yD 9 25 rfl (Zk 1 ZK) fun v25 h=>?_;cases h)<;>(refine Zjv 5 7 10 12 kR ?_ ?_ ?_ ?_;rotate_right;(focus ((refine Zj rfl fun w9 M9 N9 DQ back=>?_)<;>refine Zw [(.int .i64 0),(.int .i64 0),(.slice none 0 0),(.slice none 0 0),(.slice none 0 0)] 5 5 ZI fun h5=>?_<;>refine Zh (back _ (nrm ?_))<;>(refine G7 5 7 10 kR ?_ ?_ ?_;rotate_right;(focus ((refine Zj rfl fun w9 M9 N9 DQ back=>?_)<;>refine cO 26 (cA call138 (YB a.moves oM)) fun v26 ho26=>?_<;>refine Zh (back _ (nrm ?_))<;>(refine Y5 5 7 kR ?_ ?_;rotate_right;(focus ((refine Zj rfl fun w9 M9 N9 DQ back=>?_)<;>(refine ZJ (kk:=1) 23 Zl fun h23 ho23=>?_;refine Zr (En.freeze (l:=23) (t:=23) rfl rfl) fun _=>?_;rw [show share (PV.own 3 1 1 [PV.val (.int .i64 a.n)])=pInts [a.n] from rfl])<;>refine Zh (back _ (nrm ?_))<;>(refine Zq 5 kR ?_)<;>(refine Zj rfl fun w9 M9 N9 DQ back=>?_)<;>(refine ZJ (kk:=1) 21 Zl fun h21 ho21=>?_;refine Zr (En.freeze (l:=21) (t:=21) rfl rfl) fun _=>?_;rw [show share (PV.own 3 1 1 [PV.val (.int .i64 a.n)])=pInts [a.n] from rfl])<;>refine Zh (back _ (nrm ?_))<;>refine xE 11 27 rfl (ZL ZS) ?_<;>(refine Zq 13 kR ?_)<;>(refine Zj rfl fun w9 M9 N9 DQ back=>?_)<;>(refine ZA 5 (m:=5) kR ?_ (h1:=by show (List.all [pInt (a.n+1),pInt a.syms,pInts [a.n],pInts [a.n],PV.val v26] En.one)=true;simp only [XD,XH,XE,Xe];exact ⟨rfl,rfl,rfl,rfl,ho26⟩))<;>refine Zh (back _ (nrm ?_))));rotate_right;(focus ((refine Zj rfl fun w9 M9 N9 DQ back=>?_)<;>(refine ZJ (kk:=1) 21 Zl fun h21 ho21=>?_;refine Zr (En.freeze (l:=21) (t:=21) rfl rfl) fun _=>?_;rw [show share (PV.own 3 1 1 [PV.val (.int .i64 a.n)])=pInts [a.n] from rfl])<;>refine Zh (back _ (nrm ?_))<;>(refine Zq 7 kR ?_)<;>(refine Zj rfl fun w9 M9 N9 DQ back=>?_)<;>(refine ZJ (kk:=1) 23 Zl fun h23 ho23=>?_;refine Zr (En.freeze (l:=23) (t:=23) rfl rfl) fun _=>?_;rw [show share (PV.own 3 1 1 [PV.val (.int .i64 a.n)])=pInts [a.n] from rfl])<;>refine Zh (back _ (nrm ?_))<;>refine xE 11 27 rfl (ZL ZS) ?_<;>(refine Zq 13 kR ?_)<;>(refine Zj rfl fun w9 M9 N9 DQ back=>?_)<;>(refine ZA 5 (m:=5) kR ?_ (h1:=by show (List.all [pInt (a.n+1),pInt a.syms,pInts [a.n],pInts [a.n],PV.val v26] En.one)=true;simp only [XD,XH,XE,Xe];exact ⟨rfl,rfl,rfl,rfl,ho26⟩))<;>refine Zh (back _ (nrm ?_)))))));rotate_right;(focus ((refine Zj rfl fun w9 M9 N9 DQ back=>?_)<;>(refine ZJ (kk:=1) 23 Zl fun h23 ho23=>?_;refine Zr (En.freeze (l:=23) (t:=23) rfl rfl) fun _=>?_;rw [show share (PV.own 3 1 1 [PV.val (.int .i64 a.n)])=pInts [a.n] from rfl])<;>refine Zh (back _ (nrm ?_))<;>(refine Y5 5 10 kR ?_ ?_;rotate_right;(focus ((refine Zj rfl fun w9 M9 N9 DQ back=>?_)<;>refine cO 26 (cA call138 (YB a.moves oM)) fun v26 ho26=>?_<;>refine Zh (back _ (nrm ?_))<;>(refine Zq 5 kR ?_)<;>(refine Zj rfl fun w9 M9 N9 DQ back=>?_)<;>(refine ZJ (kk:=1) 21 Zl fun h21 ho21=>?_;refine Zr (En.freeze (l:=21) (t:=21) rfl rfl) fun _=>?_;rw [show share (PV.own 3 1 1 [PV.val (.int .i64 a.n)])=pInts [a.n] from rfl])<;>refine Zh (back _ (nrm ?_))<;>refine xE 11 27 rfl (ZL ZS) ?_<;>(refine Zq 13 kR ?_)<;>(refine Zj rfl fun w9 M9 N9 DQ back=>?_)<;>(refine ZA 5 (m:=5) kR ?_ (h1:=by show (List.all [pInt (a.n+1),pInt a.syms,pInts [a.n],pInts [a.n],PV.val v26] En.one)=true;simp only [XD,XH,XE,Xe];exact ⟨rfl,rfl,rfl,rfl,ho26⟩))<;>refine Zh (back _ (nrm ?_))));rotate_right;(focus ((refine Zj rfl fun w9 M9 N9 DQ back=>?_)<;>(refine ZJ (kk:=1) 21 Zl fun h21 ho21=>?_;refine Zr (En.freeze (l:=21) (t:=21) rfl rfl) fun _=>?_;rw [show share (PV.own 3 1 1 [PV.val (.int .i64 a.n)])=pInts [a.n] from rfl])<;>refine Zh (back _ (nrm ?_))<;>(refine Zq 10 kR ?_)<;>(refine Zj rfl fun w9 M9 N9 DQ back=>?_)<;>refine cO 26 (cA call138 (YB a.moves oM)) fun v26 ho26=>?_<;>refine Zh (back _ (nrm ?_))<;>refine xE 11 27 rfl (ZL ZS) ?_<;>(refine Zq 13 kR ?_)<;>(refine Zj rfl fun w9 M9 N9 DQ back=>?_)<;>(refine ZA 5 (m:=5) kR ?_ (h1:=by show (List.all [pInt (a.n+1),pInt a.syms,pInts [a.n],pInts [a.n],PV.val v26] En.one)=true;simp only [XD,XH,XE,Xe];exact ⟨rfl,rfl,rfl,rfl,ho26⟩))<;>refine Zh (back _ (nrm ?_)))))));rotate_right;(focus ((refine Zj rfl fun w9 M9 N9 DQ back=>?_)<;>(refine ZJ (kk:=1) 21 Zl fun h21 ho21=>?_;refine Zr (En.freeze (l:=21) (t:=21) rfl rfl) fun _=>?_;rw [show share (PV.own 3 1 1 [PV.val (.int .i64 a.n)])=pInts [a.n] from rfl])<;>refine Zh (back _ (nrm ?_))<;>(refine Y5 7 10 kR ?_ ?_;rotate_right;(focus ((refine Zj rfl fun w9 M9 N9 DQ back=>?_)<;>refine cO 26 (cA call138 (YB a.moves oM)) fun v26 ho26=>?_<;>refine Zh (back _ (nrm ?_))<;>(refine Zq 7 kR ?_)<;>(refine Zj rfl fun w9 M9 N9 DQ back=>?_)<;>(refine ZJ (kk:=1) 23 Zl fun h23 ho23=>?_;refine Zr (En.freeze (l:=23) (t:=23) rfl rfl) fun _=>?_;rw [show share (PV.own 3 1 1 [PV.val (.int .i64 a.n)])=pInts [a.n] from rfl])<;>refine Zh (back _ (nrm ?_))<;>refine xE 11 27 rfl (ZL ZS) ?_<;>(refine Zq 13 kR ?_)<;>(refine Zj rfl fun w9 M9 N9 DQ back=>?_)<;>(refine ZA 5 (m:=5) kR ?_ (h1:=by show (List.all [pInt (a.n+1),pInt a.syms,pInts [a.n],pInts [a.n],PV.val v26] En.one)=true;simp only [XD,XH,XE,Xe];exact ⟨rfl,rfl,rfl,rfl,ho26⟩))<;>refine Zh (back _ (nrm ?_))));rotate_right;(focus ((refine Zj rfl fun w9 M9 N9 DQ back=>?_)<;>(refine ZJ (kk:=1) 23 Zl fun h23 ho23=>?_;refine Zr (En.freeze (l:=23) (t:=23) rfl rfl) fun _=>?_;rw [show share (PV.own 3 1 1 [PV.val (.int .i64 a.n)])=pInts [a.n] from rfl])<;>refine Zh (back _ (nrm ?_))<;>(refine Zq 10 kR ?_)<;>(refine Zj rfl fun w9 M9 N9 DQ back=>?_)<;>refine cO 26 (cA call138 (YB a.moves oM)) fun v26 ho26=>?_<;>refine Zh (back _ (nrm ?_))<;>refine xE 11 27 rfl (ZL ZS) ?_<;>(refine Zq 13 kR ?_)<;>(refine Zj rfl fun w9 M9 N9 DQ back=>?_)<;>(refine ZA 5 (m:=5) kR ?_ (h1:=by show (List.all [pInt (a.n+1),pInt a.syms,pInts [a.n],pInts [a.n],PV.val v26] En.one)=true;simp only [XD,XH,XE,Xe];exact ⟨rfl,rfl,rfl,rfl,ho26⟩))<;>refine Zh (back _ (nrm ?_))))))))));rotate_right;(focus ((refine Zj rfl fun w9 M9 N9 DQ back=>?_)<;>refine cO 26 (cA call138 (YB a.moves oM)) fun v26 ho26=>?_<;>refine Zh (back _ (nrm ?_))<;>(refine G7 5 7 12 kR ?_ ?_ ?_;rotate_right;(focus ((refine Zj rfl fun w9 M9 N9 DQ back=>?_)<;>refine Zw [(.int .i64 0),(.int .i64 0),(.slice none 0 0),(.slice none 0 0),(.slice none 0 0)] 5 5 ZI fun h5=>?_<;>refine Zh (back _ (nrm ?_))<;>(refine Y5 5 7 kR ?_ ?_;rotate_right;(focus ((refine Zj rfl fun w9 M9 N9 DQ back=>?_)<;>(refine ZJ (kk:=1) 23 Zl fun h23 ho23=>?_;refine Zr (En.freeze (l:=23) (t:=23) rfl rfl) fun _=>?_;rw [show share (PV.own 3 1 1 [PV.val (.int .i64 a.n)])=pInts [a.n] from rfl])<;>refine Zh (back _ (nrm ?_))<;>(refine Zq 5 kR ?_)<;>(refine Zj rfl fun w9 M9 N9 DQ back=>?_)<;>(refine ZJ (kk:=1) 21 Zl fun h21 ho21=>?_;refine Zr (En.freeze (l:=21) (t:=21) rfl rfl) fun _=>?_;rw [show share (PV.own 3 1 1 [PV.val (.int .i64 a.n)])=pInts [a.n] from rfl])<;>refine Zh (back _ (nrm ?_))<;>refine xE 11 27 rfl (ZL ZS) ?_<;>(refine Zq 13 kR ?_)<;>(refine Zj rfl fun w9 M9 N9 DQ back=>?_)<;>(refine ZA 5 (m:=5) kR ?_ (h1:=by show (List.all [pInt (a.n+1),pInt a.syms,pInts [a.n],pInts [a.n],PV.val v26] En.one)=true;simp only [XD,XH,XE,Xe];exact ⟨rfl,rfl,rfl,rfl,ho26⟩))<;>refine Zh (back _ (nrm ?_))));rotate_right;(focus ((refine Zj rfl fun w9 M9 N9 DQ back=>?_)<;>(refine ZJ (kk:=1) 21 Zl fun h21 ho21=>?_;refine Zr (En.freeze (l:=21) (t:=21) rfl rfl) fun _=>?_;rw [show share (PV.own 3 1 1 [PV.val (.int .i64 a.n)])=pInts [a.n] from rfl])<;>refine Zh (back _ (nrm ?_))<;>(refine Zq 7 kR ?_)<;>(refine Zj rfl fun w9 M9 N9 DQ back=>?_)<;>(refine ZJ (kk:=1) 23 Zl fun h23 ho23=>?_;refine Zr (En.freeze (l:=23) (t:=23) rfl rfl) fun _=>?_;rw [show share (PV.own 3 1 1 [PV.val (.int .i64 a.n)])=pInts [a.n] from rfl])<;>refine Zh (back _ (nrm ?_))<;>refine xE 11 27 rfl (ZL ZS) ?_<;>(refine Zq 13 kR ?_)<;>(refine Zj rfl fun w9 M9 N9 DQ back=>?_)<;>(refine ZA 5 (m:=5) kR ?_ (h1:=by show (List.all [pInt (a.n+1),pInt a.syms,pInts [a.n],pInts [a.n],PV.val v26] En.one)=true;simp only [XD,XH,XE,Xe];exact ⟨rfl,rfl,rfl,rfl,ho26⟩))<;>refine Zh (back _ (nrm ?_)))))));rotate_right;(focus ((refine Zj rfl fun w9 M9 N9 DQ back=>?_)<;>(refine ZJ (kk:=1) 23 Zl fun h23 ho23=>?_;refine Zr (En.freeze (l:=23) (t:=23) rfl rfl) fun _=>?_;rw [show share (PV.own 3 1 1 [PV.val (.int .i64 a.n)])=pInts [a.n] from rfl])<;>refine Zh (back _ (nrm ?_))<;>(refine Y5 5 12 kR ?_ ?_;rotate_right;(focus ((refine Zj rfl fun w9 M9 N9 DQ back=>?_)<;>refine Zw [(.int .i64 0),(.int .i64 0),(.slice none 0 0),(.slice none 0 0),(.slice none 0 0)] 5 5 ZI fun h5=>?_<;>refine Zh (back _ (nrm ?_))<;>(refine Zq 5 kR ?_)<;>(refine Zj rfl fun w9 M9 N9 DQ back=>?_)<;>(refine ZJ (kk:=1) 21 Zl fun h21 ho21=>?_;refine Zr (En.freeze (l:=21) (t:=21) rfl rfl) fun _=>?_;rw [show share (PV.own 3 1 1 [PV.val (.int .i64 a.n)])=pInts [a.n] from rfl])<;>refine Zh (back _ (nrm ?_))<;>refine xE 11 27 rfl (ZL ZS) ?_<;>(refine Zq 13 kR ?_)<;>(refine Zj rfl fun w9 M9 N9 DQ back=>?_)<;>(refine ZA 5 (m:=5) kR ?_ (h1:=by show (List.all [pInt (a.n+1),pInt a.syms,pInts [a.n],pInts [a.n],PV.val v26] En.one)=true;simp only [XD,XH,XE,Xe];exact ⟨rfl,rfl,rfl,rfl,ho26⟩))<;>refine Zh (back _ (nrm ?_))));rotate_right;(focus ((refine Zj rfl fun w9 M9 N9 DQ back=>?_)<;>(refine ZJ (kk:=1) 21 Zl fun h21 ho21=>?_;refine Zr (En.freeze (l:=21) (t:=21) rfl rfl) fun _=>?_;rw [show share (PV.own 3 1 1 [PV.val (.int .i64 a.n)])=pInts [a.n] from rfl])<;>refine Zh (back _ (nrm ?_))<;>refine xD 11 27 rfl (ZL ZS) ?_<;>(refine Zq 12 kR ?_)<;>(refine Zj rfl fun w9 M9 N9 DQ back=>?_)<;>refine Zw [(.int .i64 0),(.int .i64 0),(.slice none 0 0),(.slice none 0 0),(.slice none 0 0)] 5 5 ZI fun h5=>?_<;>refine Zh (back _ (nrm ?_))<;>(refine Zq 13 kR ?_)<;>(refine Zj rfl fun w9 M9 N9 DQ back=>?_)<;>(refine ZA 5 (m:=5) kR ?_ (h1:=by show (List.all [pInt (a.n+1),pInt a.syms,pInts [a.n],pInts [a.n],PV.val v26] En.one)=true;simp only [XD,XH,XE,Xe];exact ⟨rfl,rfl,rfl,rfl,ho26⟩))<;>refine Zh (back _ (nrm ?_)))))));rotate_right;(focus ((refine Zj rfl fun w9 M9 N9 DQ back=>?_)<;>(refine ZJ (kk:=1) 21 Zl fun h21 ho21=>?_;refine Zr (En.freeze (l:=21) (t:=21) rfl rfl) fun _=>?_;rw [show share (PV.own 3 1 1 [PV.val (.int .i64 a.n)])=pInts [a.n] from rfl])<;>refine Zh (back _ (nrm ?_))<;>(refine Y5 7 12 kR ?_ ?_;rotate_right;(focus ((refine Zj rfl fun w9 M9 N9 DQ back=>?_)<;>refine Zw [(.int .i64 0),(.int .i64 0),(.slice none 0 0),(.slice none 0 0),(.slice none 0 0)] 5 5 ZI fun h5=>?_<;>refine Zh (back _ (nrm ?_))<;>(refine Zq 7 kR ?_)<;>(refine Zj rfl fun w9 M9 N9 DQ back=>?_)<;>(refine ZJ (kk:=1) 23 Zl fun h23 ho23=>?_;refine Zr (En.freeze (l:=23) (t:=23) rfl rfl) fun _=>?_;rw [show share (PV.own 3 1 1 [PV.val (.int .i64 a.n)])=pInts [a.n] from rfl])<;>refine Zh (back _ (nrm ?_))<;>refine xE 11 27 rfl (ZL ZS) ?_<;>(refine Zq 13 kR ?_)<;>(refine Zj rfl fun w9 M9 N9 DQ back=>?_)<;>(refine ZA 5 (m:=5) kR ?_ (h1:=by show (List.all [pInt (a.n+1),pInt a.syms,pInts [a.n],pInts [a.n],PV.val v26] En.one)=true;simp only [XD,XH,XE,Xe];exact ⟨rfl,rfl,rfl,rfl,ho26⟩))<;>refine Zh (back _ (nrm ?_))));rotate_right;(focus ((refine Zj rfl fun w9 M9 N9 DQ back=>?_)<;>(refine ZJ (kk:=1) 23 Zl fun h23 ho23=>?_;refine Zr (En.freeze (l:=23) (t:=23) rfl rfl) fun _=>?_;rw [show share (PV.own 3 1 1 [PV.val (.int .i64 a.n)])=pInts [a.n] from rfl])<;>refine Zh (back _ (nrm ?_))<;>refine xD 11 27 rfl (ZL ZS) ?_<;>(refine Zq 12 kR ?_)<;>(refine Zj rfl fun w9 M9 N9 DQ back=>?_)<;>refine Zw [(.int .i64 0),(.int .i64 0),(.slice none 0 0),(.slice none 0 0),(.slice none 0 0)] 5 5 ZI fun h5=>?_<;>refine Zh (back _ (nrm ?_))<;>(refine Zq 13 kR ?_)<;>(refine Zj rfl fun w9 M9 N9 DQ back=>?_)<;>(refine ZA 5 (m:=5) kR ?_ (h1:=by show (List.all [pInt (a.n+1),pInt a.syms,pInts [a.n],pInts [a.n],PV.val v26] En.one)=true;simp only [XD,XH,XE,Xe];exact ⟨rfl,rfl,rfl,rfl,ho26⟩))<;>refine Zh (back _ (nrm ?_))))))))));rotate_right;(focus ((refine Zj rfl fun w9 M9 N9 DQ back=>?_)<;>(refine ZJ (kk:=1) 23 Zl fun h23 ho23=>?_;refine Zr (En.freeze (l:=23) (t:=23) rfl rfl) fun _=>?_;rw [show share (PV.own 3 1 1 [PV.val (.int .i64 a.n)])=pInts [a.n] from rfl])<;>refine Zh (back _ (nrm ?_))<;>(refine G7 5 10 12 kR ?_ ?_ ?_;rotate_right;(focus ((refine Zj rfl fun w9 M9 N9 DQ back=>?_)<;>refine Zw [(.int .i64 0),(.int .i64 0),(.slice none 0 0),(.slice none 0 0),(.slice none 0 0)] 5 5 ZI fun h5=>?_<;>refine Zh (back _ (nrm ?_))<;>(refine Y5 5 10 kR ?_ ?_;rotate_right;(focus ((refine Zj rfl fun w9 M9 N9 DQ back=>?_)<;>refine cO 26 (cA call138 (YB a.moves oM)) fun v26 ho26=>?_<;>refine Zh (back _ (nrm ?_))<;>(refine Zq 5 kR ?_)<;>(refine Zj rfl fun w9 M9 N9 DQ back=>?_)<;>(refine ZJ (kk:=1) 21 Zl fun h21 ho21=>?_;refine Zr (En.freeze (l:=21) (t:=21) rfl rfl) fun _=>?_;rw [show share (PV.own 3 1 1 [PV.val (.int .i64 a.n)])=pInts [a.n] from rfl])<;>refine Zh (back _ (nrm ?_))<;>refine xE 11 27 rfl (ZL ZS) ?_<;>(refine Zq 13 kR ?_)<;>(refine Zj rfl fun w9 M9 N9 DQ back=>?_)<;>(refine ZA 5 (m:=5) kR ?_ (h1:=by show (List.all [pInt (a.n+1),pInt a.syms,pInts [a.n],pInts [a.n],PV.val v26] En.one)=true;simp only [XD,XH,XE,Xe];exact ⟨rfl,rfl,rfl,rfl,ho26⟩))<;>refine Zh (back _ (nrm ?_))));rotate_right;(focus ((refine Zj rfl fun w9 M9 N9 DQ back=>?_)<;>(refine ZJ (kk:=1) 21 Zl fun h21 ho21=>?_;refine Zr (En.freeze (l:=21) (t:=21) rfl rfl) fun _=>?_;rw [show share (PV.own 3 1 1 [PV.val (.int .i64 a.n)])=pInts [a.n] from rfl])<;>refine Zh (back _ (nrm ?_))<;>(refine Zq 10 kR ?_)<;>(refine Zj rfl fun w9 M9 N9 DQ back=>?_)<;>refine cO 26 (cA call138 (YB a.moves oM)) fun v26 ho26=>?_<;>refine Zh (back _ (nrm ?_))<;>refine xE 11 27 rfl (ZL ZS) ?_<;>(refine Zq 13 kR ?_)<;>(refine Zj rfl fun w9 M9 N9 DQ back=>?_)<;>(refine ZA 5 (m:=5) kR ?_ (h1:=by show (List.all [pInt (a.n+1),pInt a.syms,pInts [a.n],pInts [a.n],PV.val v26] En.one)=true;simp only [XD,XH,XE,Xe];exact ⟨rfl,rfl,rfl,rfl,ho26⟩))<;>refine Zh (back _ (nrm ?_)))))));rotate_right;(focus ((refine Zj rfl fun w9 M9 N9 DQ back=>?_)<;>refine cO 26 (cA call138 (YB a.moves oM)) fun v26 ho26=>?_<;>refine Zh (back _ (nrm ?_))<;>(refine Y5 5 12 kR ?_ ?_;rotate_right;(focus ((refine Zj rfl fun w9 M9 N9 DQ back=>?_)<;>refine Zw [(.int .i64 0),(.int .i64 0),(.slice none 0 0),(.slice none 0 0),(.slice none 0 0)] 5 5 ZI fun h5=>?_<;>refine Zh (back _ (nrm ?_))<;>(refine Zq 5 kR ?_)<;>(refine Zj rfl fun w9 M9 N9 DQ back=>?_)<;>(refine ZJ (kk:=1) 21 Zl fun h21 ho21=>?_;refine Zr (En.freeze (l:=21) (t:=21) rfl rfl) fun _=>?_;rw [show share (PV.own 3 1 1 [PV.val (.int .i64 a.n)])=pInts [a.n] from rfl])<;>refine Zh (back _ (nrm ?_))<;>refine xE 11 27 rfl (ZL ZS) ?_<;>(refine Zq 13 kR ?_)<;>(refine Zj rfl fun w9 M9 N9 DQ back=>?_)<;>(refine ZA 5 (m:=5) kR ?_ (h1:=by show (List.all [pInt (a.n+1),pInt a.syms,pInts [a.n],pInts [a.n],PV.val v26] En.one)=true;simp only [XD,XH,XE,Xe];exact ⟨rfl,rfl,rfl,rfl,ho26⟩))<;>refine Zh (back _ (nrm ?_))));rotate_right;(focus ((refine Zj rfl fun w9 M9 N9 DQ back=>?_)<;>(refine ZJ (kk:=1) 21 Zl fun h21 ho21=>?_;refine Zr (En.freeze (l:=21) (t:=21) rfl rfl) fun _=>?_;rw [show share (PV.own 3 1 1 [PV.val (.int .i64 a.n)])=pInts [a.n] from rfl])<;>refine Zh (back _ (nrm ?_))<;>refine xD 11 27 rfl (ZL ZS) ?_<;>(refine Zq 12 kR ?_)<;>(refine Zj rfl fun w9 M9 N9 DQ back=>?_)<;>refine Zw [(.int .i64 0),(.int .i64 0),(.slice none 0 0),(.slice none 0 0),(.slice none 0 0)] 5 5 ZI fun h5=>?_<;>refine Zh (back _ (nrm ?_))<;>(refine Zq 13 kR ?_)<;>(refine Zj rfl fun w9 M9 N9 DQ back=>?_)<;>(refine ZA 5 (m:=5) kR ?_ (h1:=by show (List.all [pInt (a.n+1),pInt a.syms,pInts [a.n],pInts [a.n],PV.val v26] En.one)=true;simp only [XD,XH,XE,Xe];exact ⟨rfl,rfl,rfl,rfl,ho26⟩))<;>refine Zh (back _ (nrm ?_)))))));rotate_right;(focus ((refine Zj rfl fun w9 M9 N9 DQ back=>?_)<;>(refine ZJ (kk:=1) 21 Zl fun h21 ho21=>?_;refine Zr (En.freeze (l:=21) (t:=21) rfl rfl) fun _=>?_;rw [show share (PV.own 3 1 1 [PV.val (.int .i64 a.n)])=pInts [a.n] from rfl])<;>refine Zh (back _ (nrm ?_))<;>(refine Y5 10 12 kR ?_ ?_;rotate_right;(focus ((refine Zj rfl fun w9 M9 N9 DQ back=>?_)<;>refine Zw [(.int .i64 0),(.int .i64 0),(.slice none 0 0),(.slice none 0 0),(.slice none 0 0)] 5 5 ZI fun h5=>?_<;>refine Zh (back _ (nrm ?_))<;>(refine Zq 10 kR ?_)<;>(refine Zj rfl fun w9 M9 N9 DQ back=>?_)<;>refine cO 26 (cA call138 (YB a.moves oM)) fun v26 ho26=>?_<;>refine Zh (back _ (nrm ?_))<;>refine xE 11 27 rfl (ZL ZS) ?_<;>(refine Zq 13 kR ?_)<;>(refine Zj rfl fun w9 M9 N9 DQ back=>?_)<;>(refine ZA 5 (m:=5) kR ?_ (h1:=by show (List.all [pInt (a.n+1),pInt a.syms,pInts [a.n],pInts [a.n],PV.val v26] En.one)=true;simp only [XD,XH,XE,Xe];exact ⟨rfl,rfl,rfl,rfl,ho26⟩))<;>refine Zh (back _ (nrm ?_))));rotate_right;(focus ((refine Zj rfl fun w9 M9 N9 DQ back=>?_)<;>refine cO 26 (cA call138 (YB a.moves oM)) fun v26 ho26=>?_<;>refine Zh (back _ (nrm ?_))<;>refine xD 11 27 rfl (ZL ZS) ?_<;>(refine Zq 12 kR ?_)<;>(refine Zj rfl fun w9 M9 N9 DQ back=>?_)<;>refine Zw [(.int .i64 0),(.int .i64 0),(.slice none 0 0),(.slice none 0 0),(.slice none 0 0)] 5 5 ZI fun h5=>?_<;>refine Zh (back _ (nrm ?_))<;>(refine Zq 13 kR ?_)<;>(refine Zj rfl fun w9 M9 N9 DQ back=>?_)<;>(refine ZA 5 (m:=5) kR ?_ (h1:=by show (List.all [pInt (a.n+1),pInt a.syms,pInts [a.n],pInts [a.n],PV.val v26] En.one)=true;simp only [XD,XH,XE,Xe];exact ⟨rfl,rfl,rfl,rfl,ho26⟩))<;>refine Zh (back _ (nrm ?_))))))))));rotate_right;(focus ((refine Zj rfl fun w9 M9 N9 DQ back=>?_)<;>(refine ZJ (kk:=1) 21 Zl fun h21 ho21=>?_;refine Zr (En.freeze (l:=21) (t:=21) rfl rfl) fun _=>?_;rw [show share (PV.own 3 1 1 [PV.val (.int .i64 a.n)])=pInts [a.n] from rfl])<;>refine Zh (back _ (nrm ?_))<;>(refine G7 7 10 12 kR ?_ ?_ ?_;rotate_right;(focus ((refine Zj rfl fun w9 M9 N9 DQ back=>?_)<;>refine Zw [(.int .i64 0),(.int .i64 0),(.slice none 0 0),(.slice none 0 0),(.slice none 0 0)] 5 5 ZI fun h5=>?_<;>refine Zh (back _ (nrm ?_))<;>(refine Y5 7 10 kR ?_ ?_;rotate_right;(focus ((refine Zj rfl fun w9 M9 N9 DQ back=>?_)<;>refine cO 26 (cA call138 (YB a.moves oM)) fun v26 ho26=>?_<;>refine Zh (back _ (nrm ?_))<;>(refine Zq 7 kR ?_)<;>(refine Zj rfl fun w9 M9 N9 DQ back=>?_)<;>(refine ZJ (kk:=1) 23 Zl fun h23 ho23=>?_;refine Zr (En.freeze (l:=23) (t:=23) rfl rfl) fun _=>?_;rw [show share (PV.own 3 1 1 [PV.val (.int .i64 a.n)])=pInts [a.n] from rfl])<;>refine Zh (back _ (nrm ?_))<;>refine xE 11 27 rfl (ZL ZS) ?_<;>(refine Zq 13 kR ?_)<;>(refine Zj rfl fun w9 M9 N9 DQ back=>?_)<;>(refine ZA 5 (m:=5) kR ?_ (h1:=by show (List.all [pInt (a.n+1),pInt a.syms,pInts [a.n],pInts [a.n],PV.val v26] En.one)=true;simp only [XD,XH,XE,Xe];exact ⟨rfl,rfl,rfl,rfl,ho26⟩))<;>refine Zh (back _ (nrm ?_))));rotate_right;(focus ((refine Zj rfl fun w9 M9 N9 DQ back=>?_)<;>(refine ZJ (kk:=1) 23 Zl fun h23 ho23=>?_;refine Zr (En.freeze (l:=23) (t:=23) rfl rfl) fun _=>?_;rw [show share (PV.own 3 1 1 [PV.val (.int .i64 a.n)])=pInts [a.n] from rfl])<;>refine Zh (back _ (nrm ?_))<;>(refine Zq 10 kR ?_)<;>(refine Zj rfl fun w9 M9 N9 DQ back=>?_)<;>refine cO 26 (cA call138 (YB a.moves oM)) fun v26 ho26=>?_<;>refine Zh (back _ (nrm ?_))<;>refine xE 11 27 rfl (ZL ZS) ?_<;>(refine Zq 13 kR ?_)<;>(refine Zj rfl fun w9 M9 N9 DQ back=>?_)<;>(refine ZA 5 (m:=5) kR ?_ (h1:=by show (List.all [pInt (a.n+1),pInt a.syms,pInts [a.n],pInts [a.n],PV.val v26] En.one)=true;simp only [XD,XH,XE,Xe];exact ⟨rfl,rfl,rfl,rfl,ho26⟩))<;>refine Zh (back _ (nrm ?_)))))));rotate_right;(focus ((refine Zj rfl fun w9 M9 N9 DQ back=>?_)<;>refine cO 26 (cA call138 (YB a.moves oM)) fun v26 ho26=>?_<;>refine Zh (back _ (nrm ?_))<;>(refine Y5 7 12 kR ?_ ?_;rotate_right;(focus ((refine Zj rfl fun w9 M9 N9 DQ back=>?_)<;>refine Zw [(.int .i64 0),(.int .i64 0),(.slice none 0 0),(.slice none 0 0),(.slice none 0 0)] 5 5 ZI fun h5=>?_<;>refine Zh (back _ (nrm ?_))<;>(refine Zq 7 kR ?_)<;>(refine Zj rfl fun w9 M9 N9 DQ back=>?_)<;>(refine ZJ (kk:=1) 23 Zl fun h23 ho23=>?_;refine Zr (En.freeze (l:=23) (t:=23) rfl rfl) fun _=>?_;rw [show share (PV.own 3 1 1 [PV.val (.int .i64 a.n)])=pInts [a.n] from rfl])<;>refine Zh (back _ (nrm ?_))<;>refine xE 11 27 rfl (ZL ZS) ?_<;>(refine Zq 13 kR ?_)<;>(refine Zj rfl fun w9 M9 N9 DQ back=>?_)<;>(refine ZA 5 (m:=5) kR ?_ (h1:=by show (List.all [pInt (a.n+1),pInt a.syms,pInts [a.n],pInts [a.n],PV.val v26] En.one)=true;simp only [XD,XH,XE,Xe];exact ⟨rfl,rfl,rfl,rfl,ho26⟩))<;>refine Zh (back _ (nrm ?_))));rotate_right;(focus ((refine Zj rfl fun w9 M9 N9 DQ back=>?_)<;>(refine ZJ (kk:=1) 23 Zl fun h23 ho23=>?_;refine Zr (En.freeze (l:=23) (t:=23) rfl rfl) fun _=>?_;rw [show share (PV.own 3 1 1 [PV.val (.int .i64 a.n)])=pInts [a.n] from rfl])<;>refine Zh (back _ (nrm ?_))<;>refine xD 11 27 rfl (ZL ZS) ?_<;>(refine Zq 12 kR ?_)<;>(refine Zj rfl fun w9 M9 N9 DQ back=>?_)<;>refine Zw [(.int .i64 0),(.int .i64 0),(.slice none 0 0),(.slice none 0 0),(.slice none 0 0)] 5 5 ZI fun h5=>?_<;>refine Zh (back _ (nrm ?_))<;>(refine Zq 13 kR ?_)<;>(refine Zj rfl fun w9 M9 N9 DQ back=>?_)<;>(refine ZA 5 (m:=5) kR ?_ (h1:=by show (List.all [pInt (a.n+1),pInt a.syms,pInts [a.n],pInts [a.n],PV.val v26] En.one)=true;simp only [XD,XH,XE,Xe];exact ⟨rfl,rfl,rfl,rfl,ho26⟩))<;>refine Zh (back _ (nrm ?_)))))));rotate_right;(focus ((refine Zj rfl fun w9 M9 N9 DQ back=>?_)<;>(refine ZJ (kk:=1) 23 Zl fun h23 ho23=>?_;refine Zr (En.freeze (l:=23) (t:=23) rfl rfl) fun _=>?_;rw [show share (PV.own 3 1 1 [PV.val (.int .i64 a.n)])=pInts [a.n] from rfl])<;>refine Zh (back _ (nrm ?_))<;>(refine Y5 10 12 kR ?_ ?_;rotate_right;(focus ((refine Zj rfl fun w9 M9 N9 DQ back=>?_)<;>refine Zw [(.int .i64 0),(.int .i64 0),(.slice none 0 0),(.slice none 0 0),(.slice none 0 0)] 5 5 ZI fun h5=>?_<;>refine Zh (back _ (nrm ?_))<;>(refine Zq 10 kR ?_)<;>(refine Zj rfl fun w9 M9 N9 DQ back=>?_)<;>refine cO 26 (cA call138 (YB a.moves oM)) fun v26 ho26=>?_<;>refine Zh (back _ (nrm ?_))<;>refine xE 11 27 rfl (ZL ZS) ?_<;>(refine Zq 13 kR ?_)<;>(refine Zj rfl fun w9 M9 N9 DQ back=>?_)<;>(refine ZA 5 (m:=5) kR ?_ (h1:=by show (List.all [pInt (a.n+1),pInt a.syms,pInts [a.n],pInts [a.n],PV.val v26] En.one)=true;simp only [XD,XH,XE,Xe];exact ⟨rfl,rfl,rfl,rfl,ho26⟩))<;>refine Zh (back _ (nrm ?_))));rotate_right;(focus ((refine Zj rfl fun w9 M9 N9 DQ back=>?_)<;>refine cO 26 (cA call138 (YB a.moves oM)) fun v26 ho26=>?_<;>refine Zh (back _ (nrm ?_))<;>refine xD 11 27 rfl (ZL ZS) ?_<;>(refine Zq 12 kR ?_)<;>(refine Zj rfl fun w9 M9 N9 DQ back=>?_)<;>refine Zw [(.int .i64 0),(.int .i64 0),(.slice none 0 0),(.slice none 0 0),(.slice none 0 0)] 5 5 ZI fun h5=>?_<;>refine Zh (back _ (nrm ?_))<;>(refine Zq 13 kR ?_)<;>(refine Zj rfl fun w9 M9 N9 DQ back=>?_)<;>(refine ZA 5 (m:=5) kR ?_ (h1:=by show (List.all [pInt (a.n+1),pInt a.syms,pInts [a.n],pInts [a.n],PV.val v26] En.one)=true;simp only [XD,XH,XE,Xe];exact ⟨rfl,rfl,rfl,rfl,ho26⟩))<;>refine Zh (back _ (nrm ?_)))))))))))<;>refine YC kR (nav ?_)<;>try dsimp only)<;>(
 exact K8 ⟨(v26,h5),ho26⟩ ⟨rfl,rfl,rfl,rfl,trivial⟩ ⟨rfl,rfl,rfl,rfl,trivial⟩)
   · rintro ⟨⟨v26,h5⟩,ho26⟩;dsimp only at ho26 ⊢;refine Zx (Zy (l:=26) 301 rfl rfl) fun _=>?_;refine Zx (ZP (l:=301) (p':= .own 93 3 (a.moves++G2 a.n (a.start.take 0)).length ((a.moves++G2 a.n (a.start.take 0)).flatMap cMv)) rfl (by rw [show G2 a.n (a.start.take 0)=[] from rfl,Xy])) fun _=>?_;refine Ze ?_;(refine xL 28 (Zd 1 YA) ?_<;>(refine yL 29 (Zk 1 ZB) fun v29 h=>?_;cases h)<;>refine xL 30 (ZR Zu) (xL 31 Zb ?_)<;>refine Zc ?_)
     refine ZD (ι:={q:Nat×Value//q.1≤a.start.length∧q.2.oneCell'=true}) (fun k=>⟨[(1,_,_),(2,_,_),(4,_,_),(5,_,_),(29,_,_),(30,_,_),(31, .int .i64 k.1.1,pInt k.1.1)],[(1,_,_),(2,_,_),(5,h5, .own 39 5 1 [pInt (a.n+1),pInt a.syms,pInts [a.n],pInts [a.n], .val k.1.2]),(301,k.1.2, .own 93 3 (a.moves++G2 a.n (a.start.take k.1.1)).length ((a.moves++G2 a.n (a.start.take k.1.1)).flatMap cMv))]⟩) (fun k=>a.start.length-k.1.1) ⟨(0,v26),Xf _,ho26⟩ (fun a w H=>H.weaken ⟨rfl,rfl,rfl,rfl,rfl,rfl,rfl,trivial⟩ ⟨rfl,rfl,rfl,rfl,trivial⟩) ?_;rintro ⟨⟨k,hM⟩,hk,hMo⟩;dsimp only;dsimp only at hk hMo;(have hl1:(a.moves++G2 a.n (a.start.take k)).length≤30000:=by unfold G2;rw [Xb,Xd,Xx];omega);refine Ze ?_;(refine xL 32 ZQ ?_<;>refine Zc ?_)
     refine cX ?_ ?_<;>intro hb32
     · first|exact bN hb32|(
 obtain ⟨x,hx⟩:=Zp (show k<a.start.length by omega);have e1:=Ym (f:=pInt) hx;refine Ze ?_;(refine xL 33 (ZF Zu) ?_<;>(refine yL 34 (Yo Zo) fun v34 h=>?_;cases h)<;>refine xL 7 Za ?_<;>refine Zg ?_)
 (refine xL 35 (Zd 5 ZC) ?_<;>(refine yL 36 (Zk 5 ZK) fun v36 h=>?_;cases h)<;>refine xL 37 Zb (xL 38 Zb (xL 39 (ZL Kc) ?_))<;>refine YM 40 Yd fun h40 ho40=>?_<;>(refine ZU 301 40 41 Yd fun h41 ho41=>?_;refine Zr (Zy (l:=41) 301 rfl rfl) fun _=>?_;refine Zr (ZP (l:=301) rfl ((Kg _ (a.moves++G2 a.n (a.start.take k)) ⟨a.n,x,-1⟩).trans (by rw [Xz,←ZfP a.n hx]))) fun _=>?_)<;>refine xL 42 (Zd 5 ZC) ?_<;>refine YZ 5 ZK Wp ?_<;>refine Zg ?_)
 (refine xL 43 ZH (xL 31 Zb ?_)<;>refine Zc ?_)
 refine Zn (
  ⟨(k+1,h41),Zf hx,ho41⟩
  ) (by dsimp only;omega) ⟨rfl,rfl,rfl,rfl,rfl,rfl,rfl,trivial⟩ ⟨rfl,rfl,rfl,rfl,trivial⟩)
     · first |exact bN hb32|(
 rw [Xo (show a.start.length≤k by omega)];rw [show a.moves++G2 a.n a.start=a.moves++G2 a.n a.start++HG a.n (a.fin.take 0) from (Xy _).symm];refine Ze ?_;(refine xL 44 (Zd 1 Yq) ?_<;>(refine yL 45 (Zk 1 ZB) fun v45 h=>?_;cases h)<;>refine xL 46 (ZR Zu) (xL 47 Zb ?_)<;>refine Zc ?_)
 refine ZD (ι:={q:Nat×Value//q.1≤a.fin.length∧q.2.oneCell'=true}) (fun k=>⟨[(1,_,_),(2,_,_),(4,_,_),(5,_,_),(45,_,_),(46,_,_),(47, .int .i64 k.1.1,pInt k.1.1)],[(1,_,_),(2,_,_),(5,h5, .own 39 5 1 [pInt (a.n+1),pInt a.syms,pInts [a.n],pInts [a.n], .val k.1.2]),(301,k.1.2, .own 93 3 (a.moves++G2 a.n a.start++HG a.n (a.fin.take k.1.1)).length ((a.moves++G2 a.n a.start++HG a.n (a.fin.take k.1.1)).flatMap cMv))]⟩) (fun k=>a.fin.length-k.1.1) ⟨(0,hM),Xf _,hMo⟩ (fun a w H=>H.weaken ⟨rfl,rfl,rfl,rfl,rfl,rfl,rfl,trivial⟩ ⟨rfl,rfl,rfl,rfl,trivial⟩) ?_;rintro ⟨⟨j,hM2⟩,hj,hM2o⟩;dsimp only;dsimp only at hj hM2o;(have hl2:(a.moves++G2 a.n a.start++HG a.n (a.fin.take j)).length≤30000:=by unfold G2 HG;rw [Xb,Xb,Xd,Xd,Xx];omega);refine Ze ?_;(refine xL 48 ZQ ?_<;>refine Zc ?_)
 refine cX ?_ ?_<;>intro hb48
 · first|exact bN hb48|(
 obtain ⟨y,hy⟩:=Zp (show j<a.fin.length by omega);have e1:=Ym (f:=pInt) hy;refine Ze ?_;(refine xL 49 (ZF Zu) ?_<;>(refine yL 50 (Yo Zo) fun v50 h=>?_;cases h)<;>refine xL 9 Za ?_<;>refine Zg ?_)
 (refine xL 51 (Zd 5 ZC) ?_<;>(refine yL 52 (Zk 5 ZK) fun v52 h=>?_;cases h)<;>refine xL 53 Zb (xL 54 Zb (xL 55 (ZL Kc) ?_))<;>refine YM 56 Yd fun h56 ho56=>?_<;>(refine ZU 301 56 57 Yd fun h57 ho57=>?_;refine Zr (Zy (l:=57) 301 rfl rfl) fun _=>?_;refine Zr (ZP (l:=301) rfl ((Kg _ (a.moves++G2 a.n a.start++HG a.n (a.fin.take j)) ⟨y,a.n,-1⟩).trans (by rw [Xz (a.moves++G2 a.n a.start),←ZfQ a.n hy]))) fun _=>?_)<;>refine xL 58 (Zd 5 ZC) ?_<;>refine YZ 5 ZK Wp ?_<;>refine Zg ?_)
 (refine xL 59 ZH (xL 47 Zb ?_)<;>refine Zc ?_)
 refine Zn (
  ⟨(j+1,h57),Zf hy,ho57⟩
  ) (by dsimp only;omega) ⟨rfl,rfl,rfl,rfl,rfl,rfl,rfl,trivial⟩ ⟨rfl,rfl,rfl,rfl,trivial⟩)
 · first|exact bN hb48|(
 rw [Xo (show a.fin.length≤j by omega)];have hone:En.one (PV.val hM2)=true:=hM2o;refine nav ?_;refine Zx (Zy (l:=301) 1000 rfl rfl) fun _=>?_;(refine Zt ?_<;>(refine yL 60 (Zs (k:=5) (ps:=[pInt (a.n+1),pInt a.syms,pInts [a.n],pInts [a.n],PV.val hM2]) 5 kR) fun v60 h=>?_;cases h)<;>(refine Wy [(1000,hM2,PV.own 93 3 (Ji a).moves.length ((Ji a).moves.flatMap cMv)),(1,_,_),(2,_,_),(5,_,_)] ⟨rfl,rfl,rfl,rfl,trivial⟩ ?_;refine WP [1,2,5] 61 (call137) (ζr (Ji a) (ZbE h.toAOk) (ZcP h) _ hM2 hM2o r5 hr) ?_;rintro _ _ _ ⟨⟨V1,rfl⟩,rfl,rfl⟩)<;>refine xL 62 Zi (xL 63 Zi ?_)<;>refine ZA 2 Zm ?_<;>refine xL 3 Za ?_<;>refine Zc ?_)
 exact Ys (k:=5) 2 kR (results90) rfl rfl rfl (Xa rfl) dC r5.s rfl))
theorem Zkv (a:Aut):AF prog 90 [ZO a] (· =resW (Gu a)):=by
 cases hv:Z4 a with
 |false=>rw [ZfO hv];exact ZfR a hv
 | true=>
   rw [Zin hv];have h:=WT hv;obtain ⟨p0,p1,p2,p3,p4,E,h5,h2,hr⟩:=L0 (Ji a) (ZbE h.toAOk) (D1 h);rw [h2];exact Zku a hv h5 hr
theorem GG (l:List Int) (n:Int) (hl:l.length≤1000000) (hn:0≤n∧n≤1000000) (hb:∀x∈l,0≤x∧x≤1000000):AF prog 136 [pInts l,pInt n] (· = .own 3 1 (WI n l).length ((WI n l).map pInt)):=by
 refine AF.of_body 22 func136 rfl ntmps136 (Xa rfl) ?_
 intro w0 M0 vs hl hv
 obtain ⟨v0,v1,rfl⟩:=WO hl
 obtain rfl:=hv 1 _ _ rfl rfl
 clear hl hv
 refine WY 0 rfl fun hlen=>?_
 refine Ze ?_
 (refine xL 4 Za ?_<;>refine Zg ?_)
 (refine xL 5 Za ?_<;>refine Zc ?_)
 refine Zx (KB 200 3 1 rfl) fun _=>?_
 (refine Zt ?_<;>refine xL 8 Zb (xL 9 (ZR Zu) (xL 10 Zb ?_))<;>refine Zc ?_)
 refine ZD (ι:={q:Nat×Value//q.1≤l.length∧q.2.oneCell'=true}) (fun k=>⟨[(1,_,_),(8,_,_),(9,_,_),(5,k.1.2, .val k.1.2),(10, .int .i64 k.1.1,pInt k.1.1)],[(200,k.1.2, .own 3 1 (WI n (l.take k.1.1)).length ((WI n (l.take k.1.1)).map pInt))]⟩) (fun k=>l.length-k.1.1) ⟨(0, .slice none 0 0),Xf _,rfl⟩ (fun a w H=>H.weaken ⟨rfl,rfl,rfl,rfl,rfl,trivial⟩ ⟨rfl,trivial⟩) ?_
 rintro ⟨⟨k,hO⟩,hk,hOo⟩
 dsimp only
 dsimp only at hk hOo
 have hal:(WI n (l.take k)).length≤1000000:=by rw [Gw,Xx];omega
 refine Ze ?_
 (refine xL 11 ZQ ?_<;>refine Zc ?_)
 refine cX ?_ ?_<;>intro hb11
 · first|exact bN hb11|(
 obtain ⟨x,hx⟩:=Zp (show k<l.length by omega);have e1:=Ym (f:=pInt) hx;have hxb:=hb x (Xc hx);refine Ze ?_;(refine xL 12 (ZF Zu) ?_<;>(refine yL 13 (Yo Zo) fun v13 h=>?_;cases h)<;>refine xL 7 Za ?_<;>refine Zg ?_)
 (refine xL 14 Zb (xL 15 Zb (xL 16 Zb (xL 17 ZH ?_)))<;>refine ZJ (kk:=1) 18 Zl fun h18 ho18=>?_<;>(refine ZU 200 18 19 Zl fun h19 ho19=>?_;refine Zr (Zy (l:=19) 200 rfl rfl) fun _=>?_;refine Zr (ZP (l:=200) rfl ((GA _ (WI n (l.take k)) (x+n)).trans (by rw [←Zff n hx]))) fun _=>?_)<;>refine xL 5 Za ?_<;>refine Zg ?_)
 (refine xL 20 ZH (xL 10 Zb ?_)<;>refine Zc ?_)
 refine Zn (
  ⟨(k+1,h19),Zf hx,ho19⟩
  ) (by dsimp only;omega) ⟨rfl,rfl,rfl,rfl,rfl,trivial⟩ ⟨rfl,trivial⟩)
 · first|exact bN hb11|(
 rw [Xo (show l.length≤k by omega)];refine Ze ?_;(refine xL 21 Zb (xL 4 Za ?_)<;>refine Zc ?_)
 exact JB 200 (results136) rfl rfl rfl)
def bsM (a b:Aut):List Mv:=a.moves++J7 a.n b.moves
theorem ζD {a b:Aut} (ha:AOk a) (hb:AOk b):(bsM a b).length≤40000:=by
 unfold bsM
 rw [Xb,Rw]
 have:=ha.ml;have:=hb.ml;omega
set_option maxHeartbeats 2000000 in
theorem Cp (a b:Aut) (ha:AOk a) (hb:AOk b) (V V':Value):AFh False prog 134 [(0,V,ZO a),(1,V',ZO b)] [] (fun v q h=>∃hM:Value,hM.oneCell'=true∧q= .agg [pInt (a.n+b.n),pInt a.syms, .val (.slice none 0 0), .val (.slice none 0 0), .val hM]∧h=[(1000,hM, .own 93 3 (bsM a b).length ((bsM a b).flatMap cMv))]):=by
 have hn0:=ha.n0
 have hn1:=ha.n1
 have hm0:=hb.n0
 have hm1:=hb.n1
 have hal:=ha.ml
 have hbl:=hb.ml
 refine AFh.of_body 46 func134 rfl ntmps134 (Xa rfl) rfl ?_
 intro w0 M0 N0
 refine Ze ?_
 (refine ZG 2 5 fun h2=>?_<;>refine ZG 3 5 fun h3=>?_<;>refine Zw [(.int .i64 0),(.int .i64 0),(.slice none 0 0),(.slice none 0 0),(.slice none 0 0)] 5 4 ZI fun h4=>?_<;>refine Zc ?_)
 refine CQ (fun x:{x:Value×Value//x.1.oneCell'=true}=>⟨[(2,padd (sbase h2) 0, .val (padd (sbase h2) 0)),(3,padd (sbase h3) 0, .val (padd (sbase h3) 0)),(4,padd (sbase h4) 0, .val (padd (sbase h4) 0)),(5,padd (sbase x.1.2) 0, .val (padd (sbase x.1.2) 0))],[(2,h2, .own 39 5 1 [pInt a.n,pInt a.syms,pInts a.start,pInts a.fin,pMvs a.moves]),(3,h3, .own 39 5 1 [pInt b.n,pInt b.syms,pInts b.start,pInts b.fin,pMvs b.moves]),(4,h4, .own 39 5 1 [pInt 0,pInt 0, .val (.slice none 0 0), .val (.slice none 0 0), .val (.slice none 0 0)]),(5,x.1.2, .own 39 5 1 [pInt (a.n+b.n),pInt a.syms, .val (.slice none 0 0), .val (.slice none 0 0), .val x.1.1]),(17,x.1.1, .own 93 3 a.moves.length (a.moves.flatMap cMv))]⟩) ?_ ?_
 · (refine Z5 (fun i=>([]:List Nat).elem i) [2,3] kR ?_<;>refine xD 0 8 rfl (Zd 2 ZY) ?_<;>(refine yD 1 9 rfl (Zk 2 Zo) fun v9 h=>?_;cases h)<;>refine xD 2 10 rfl (Zd 3 ZY) ?_<;>(refine yD 3 11 rfl (Zk 3 Zo) fun v11 h=>?_;cases h)<;>refine xD 4 12 rfl ZH ?_<;>refine xD 5 13 rfl (Zd 2 Yl) ?_<;>(refine yD 6 14 rfl (Zk 2 Zo) fun v14 h=>?_;cases h)<;>refine xD 7 15 rfl (Zd 2 ZC) ?_<;>(refine yD 8 16 rfl (Zk 2 ZK) fun v16 h=>?_;cases h)<;>(refine Y5 9 11 kR ?_ ?_;rotate_right;(focus ((refine Zj rfl fun w9 M9 N9 DQ back=>?_)<;>refine Zw [(.int .i64 0),(.int .i64 0),(.slice none 0 0),(.slice none 0 0),(.slice none 0 0)] 5 5 ZI fun h5=>?_<;>refine Zh (back _ (nrm ?_))<;>(refine Zq 9 kR ?_)<;>(refine Zj rfl fun w9 M9 N9 DQ back=>?_)<;>refine cO 17 (cA call138 (YB a.moves oM)) fun v17 ho17=>?_<;>refine Zh (back _ (nrm ?_))<;>refine xE 10 18 rfl (ZL ZS) ?_<;>(refine Zq 12 kR ?_)<;>(refine Zj rfl fun w9 M9 N9 DQ back=>?_)<;>(refine ZA 5 (m:=5) kR ?_ (h1:=by show (List.all [pInt (a.n+b.n),pInt a.syms,PV.val (.slice none 0 0),PV.val (.slice none 0 0),PV.val v17] En.one)=true;simp only [XD,XH,XE,Xe];exact ⟨rfl,rfl,rfl,rfl,ho17⟩))<;>refine Zh (back _ (nrm ?_))));rotate_right;(focus ((refine Zj rfl fun w9 M9 N9 DQ back=>?_)<;>refine cO 17 (cA call138 (YB a.moves oM)) fun v17 ho17=>?_<;>refine Zh (back _ (nrm ?_))<;>refine xD 10 18 rfl (ZL ZS) ?_<;>(refine Zq 11 kR ?_)<;>(refine Zj rfl fun w9 M9 N9 DQ back=>?_)<;>refine Zw [(.int .i64 0),(.int .i64 0),(.slice none 0 0),(.slice none 0 0),(.slice none 0 0)] 5 5 ZI fun h5=>?_<;>refine Zh (back _ (nrm ?_))<;>(refine Zq 12 kR ?_)<;>(refine Zj rfl fun w9 M9 N9 DQ back=>?_)<;>(refine ZA 5 (m:=5) kR ?_ (h1:=by show (List.all [pInt (a.n+b.n),pInt a.syms,PV.val (.slice none 0 0),PV.val (.slice none 0 0),PV.val v17] En.one)=true;simp only [XD,XH,XE,Xe];exact ⟨rfl,rfl,rfl,rfl,ho17⟩))<;>refine Zh (back _ (nrm ?_)))))<;>refine YC kR (nav ?_)<;>try dsimp only)<;>(
 exact K8 ⟨(v17,h5),ho17⟩ ⟨rfl,rfl,rfl,rfl,trivial⟩ ⟨rfl,rfl,rfl,rfl,rfl,trivial⟩)
 · rintro ⟨⟨v17,h5⟩,ho17⟩;dsimp only at ho17 ⊢;refine Zx (Zy (l:=17) 301 rfl rfl) fun _=>?_;refine Zx (ZP (l:=301) (p':= .own 93 3 (a.moves++J7 a.n (b.moves.take 0)).length ((a.moves++J7 a.n (b.moves.take 0)).flatMap cMv)) rfl (by rw [show J7 a.n (b.moves.take 0)=[] from rfl,Xy])) fun _=>?_;refine Ze ?_;(refine xL 19 (Zd 3 ZC) ?_<;>(refine yL 20 (Zk 3 ZK) fun v20 h=>?_;cases h)<;>refine xL 21 (ZR ZN) (xL 22 Zb ?_)<;>refine Zc ?_)
   refine ZD (ι:={q:Nat×Value//q.1≤b.moves.length∧q.2.oneCell'=true}) (fun k=>⟨[(2,_,_),(3,_,_),(4,_,_),(5,_,_),(20,_,_),(21,_,_),(22, .int .i64 k.1.1,pInt k.1.1)],[(2,_,_),(3,_,_),(4,_,_),(5,h5, .own 39 5 1 [pInt (a.n+b.n),pInt a.syms, .val (.slice none 0 0), .val (.slice none 0 0), .val k.1.2]),(301,k.1.2, .own 93 3 (a.moves++J7 a.n (b.moves.take k.1.1)).length ((a.moves++J7 a.n (b.moves.take k.1.1)).flatMap cMv))]⟩) (fun k=>b.moves.length-k.1.1) ⟨(0,v17),Xf _,ho17⟩ (fun a w H=>H.weaken ⟨rfl,rfl,rfl,rfl,rfl,rfl,rfl,trivial⟩ ⟨rfl,rfl,rfl,rfl,rfl,trivial⟩) ?_;rintro ⟨⟨k,hM⟩,hk,hMo⟩;dsimp only;dsimp only at hk hMo;have hl1:(a.moves++J7 a.n (b.moves.take k)).length≤50000:=by rw [Xb,Rw,Xx];omega
   have q5:En.one (PV.val hM)=true:=hMo;refine Ze ?_;(refine xL 23 ZQ ?_<;>refine Zc ?_)
   refine cX ?_ ?_<;>intro hb23
   · first|exact bN hb23|(
 obtain ⟨x,hx⟩:=Zp (show k<b.moves.length by omega);have e1:=Yc Z8 b.moves k x hx;have e2:=Yz Z8 hx;have hxb:=hb.mv x (Xc hx);refine Ze ?_;(refine xL 24 (ZF ZN) ?_<;>(refine yL 25 (YI Z1) fun v25 h=>?_;cases h)<;>refine Zw [(.int .i64 0),(.int .i64 0),(.int .i64 0)] 3 7 KU fun h7=>?_<;>refine ZA 7 Z1 ?_<;>refine Zg ?_)
 (refine xL 26 (Zd 5 ZC) ?_<;>(refine yL 27 (Zk 5 ZK) fun v27 h=>?_;cases h)<;>refine xL 28 (Zd 7 Yv) ?_<;>(refine yL 29 (Zk 7 Zo) fun v29 h=>?_;cases h)<;>refine xL 30 (Zd 2 ZY) ?_<;>(refine yL 31 (Zk 2 Zo) fun v31 h=>?_;cases h)<;>refine xL 32 ZH (xL 33 (Zd 7 YK) ?_)<;>(refine yL 34 (Zk 7 Zo) fun v34 h=>?_;cases h)<;>refine xL 35 (Zd 2 ZY) ?_<;>(refine yL 36 (Zk 2 Zo) fun v36 h=>?_;cases h)<;>refine xL 37 ZH (xL 38 (Zd 7 Wk) ?_)<;>(refine yL 39 (Zk 7 Zo) fun v39 h=>?_;cases h)<;>refine xL 40 (ZL Kc) ?_<;>refine YM 41 Yd fun h41 ho41=>?_<;>(refine ZU 301 41 42 Yd fun h42 ho42=>?_;refine Zr (Zy (l:=42) 301 rfl rfl) fun _=>?_;refine Zr (ZP (l:=301) rfl ((Kg _ (a.moves++J7 a.n (b.moves.take k)) ⟨x.src+a.n,x.dst+a.n,x.sym⟩).trans (by rw [Xz,←Zfg a.n hx]))) fun _=>?_)<;>refine xL 43 (Zd 5 ZC) ?_<;>refine YZ 5 ZK Wp ?_<;>refine Zg ?_)
 (refine xL 44 ZH (xL 22 Zb ?_)<;>refine Zc ?_)
 refine Zn (
  ⟨(k+1,h42),Zf hx,ho42⟩
  ) (by dsimp only;omega) ⟨rfl,rfl,rfl,rfl,rfl,rfl,rfl,trivial⟩ ⟨rfl,rfl,rfl,rfl,rfl,trivial⟩)
   · first|exact bN hb23|(
 rw [Xo (show b.moves.length≤k by omega)];refine Zx (Zy (l:=301) 1000 rfl rfl) fun _=>?_;refine Ze ?_;((refine yL 45 (Zs (k:=5) (ps:=[pInt (a.n+b.n),pInt a.syms,PV.val (.slice none 0 0),PV.val (.slice none 0 0),PV.val hM]) 5 kR) fun v45 h=>?_;cases h)<;>refine ZA 4 Zm ?_<;>refine Zc ?_)
 exact ZlU (k:=5) 4 [(1000,hM,PV.own 93 3 (bsM a b).length ((bsM a b).flatMap cMv))] kR (results134) rfl rfl (Xa rfl) dC rfl ⟨rfl,trivial⟩ fun V=>⟨hM,hMo,rfl,rfl⟩)
end Go.Proofs.YtgfabnhpllkebaaGreatDoor
