/-
  Walks of functions and plain laws of the chapter, as the claim needs them.
-/
import Derived.Shelf.SlSortCmp.InsertionK
import Derived.Shelf.SlSortCmp.Kit1
import Derived.Test.YtmkojdfiadbeeaaGreatPf03
import Derived.Test.YtmkojdfiadbeeaaGreatPf02
import Derived.Test.YtmkojdfiadbeeaaGreatMShelfB
import Derived.Test.YtmkojdfiadbeeaaGreatPf01
namespace Go.Proofs.YtmkojdfiadbeeaaGreat
open Go.RowKit Go.Cb Go.En Tryz
set_option linter.all false
set_option maxRecDepth 100000
theorem Z5:AggT prog 42 2=true:=by kernel_rfl
theorem Wv:FldT prog 42 0 0=true:=by kernel_rfl
theorem KG:FldT prog 42 1 1=true:=by kernel_rfl
theorem K2:MpT prog 78 9 3 .string (.int .i64 0):=⟨underlying78,underlying9, .inl rfl,by show ZeroT _ _ _;unfold ZeroT;kernel_rfl⟩
theorem JC:NoAgg prog 40=true:=by kernel_rfl
theorem L0:SlT prog 40 26 1=true:=by kernel_rfl
theorem H4:(prog.info? 3).map (·.size)=some 1:=by kernel_rfl
def JU (n:Nat) (p:Nat→Bool):Bool:=(List.range n).any p
theorem JD (n:Nat) (p:Nat→Bool):JU (n+1) p=(JU n p||p n):=by unfold JU;rw [List.range_succ,V'];simp
def atF (c:Cut) (l:List ByteArray) (i:Nat):Int:=partOf c.parts (l[i]?.getD ByteArray.empty)
def okA (n:Nat) (E R:Nat→Nat→Bool) (S F:Nat→Bool) (kind:Int) (at':Nat→Int) (a:Nat):Bool:= !(decide (kind=4)&&decide (at' a≠0)&&(S a||F a))&&Lb n fun b=>decide (at' a=at' b)||JR n E R S F kind at' a b
def okP (n:Nat) (S F:Nat→Bool) (at':Nat→Int) (k:Nat):Bool:=JU n (fun i=>decide (at' i=k)&&S i)&&JU n (fun i=>decide (at' i=k)&&F i)
def K3 (l:List ByteArray) (n:Nat) (E:Nat→Nat→Bool) (S F:Nat→Bool) (c:Cut):Bool:=
 decide (c.parts.flatten.length=n)&&Lb n (fun i=>decide (0≤atF c l i))&&Lb n (okA n E (ZT n E) S F c.kind (atF c l))&&(!decide (c.kind=3)||Lb c.parts.length (okP n S F (atF c l)))
theorem Cs {l:List ByteArray} {n:Nat} {E:Nat→Nat→Bool} {S F:Nat→Bool} {c:Cut} (h:c.parts.flatten.length≠n):K3 l n E S F c=false:=by unfold K3;rw [Uy h];simp
theorem ZaL {l:List ByteArray} {n:Nat} {E:Nat→Nat→Bool} {S F:Nat→Bool} {c:Cut} {i:Nat} (hi:i<n) (h:atF c l i<0):K3 l n E S F c=false:=by
 unfold K3;rw [JA (p:=fun i=>decide (0≤atF c l i)) hi (Uy oM)];simp
theorem H5 {l:List ByteArray} {n:Nat} {E:Nat→Nat→Bool} {S F:Nat→Bool} {c:Cut} {i:Nat} (hi:i<n) (h:okA n E (ZT n E) S F c.kind (atF c l) i=false):K3 l n E S F c=false:=by
 unfold K3;rw [JA hi h];simp
theorem Zcs {l:List ByteArray} {n:Nat} {E:Nat→Nat→Bool} {S F:Nat→Bool} {c:Cut} {k:Nat} (h3:c.kind=3) (hi:k<c.parts.length) (h:okP n S F (atF c l) k=false):K3 l n E S F c=false:=by
 unfold K3;rw [JA hi h,Ux h3];simp
theorem ZfJ {n:Nat} {E R:Nat→Nat→Bool} {S F:Nat→Bool} {kind:Int} {at':Nat→Int} {a:Nat} (h1:kind=4) (h2:at' a≠0) (h3:S a=true∨F a=true):okA n E R S F kind at' a=false:=by
 unfold okA;rw [Ux h1,Ux h2];rcases h3 with h3|h3<;>rw [h3]<;>simp
theorem ZfK {n:Nat} {E R:Nat→Nat→Bool} {S F:Nat→Bool} {kind:Int} {at':Nat→Int} {a b:Nat} (hb:b<n) (h1:at' a≠at' b) (h2:JR n E R S F kind at' a b=false):okA n E R S F kind at' a=false:=by
 unfold okA;rw [JA hb (by rw [Uy h1,h2];rfl)];simp
theorem ZfL {n:Nat} {E R:Nat→Nat→Bool} {S F:Nat→Bool} {kind:Int} {at':Nat→Int} {a:Nat} (h1:¬(kind=4∧at' a≠0∧(S a=true∨F a=true))) (h2:∀b,b<n→(decide (at' a=at' b)||JR n E R S F kind at' a b)=true):okA n E R S F kind at' a=true:=by
 unfold okA;rw [Kn h2,V8,Vy]
 rw [←X']
 intro h
 simp only [Xd,Uw,X9] at h
 exact h1 ⟨h.1.1,h.1.2,h.2⟩
theorem Ze4 {c:Cut} {l:List ByteArray} {k:Nat} {s:ByteArray} (h:l[k]? =some s):atF c l k=partOf c.parts s:=by unfold atF;rw [h];rfl
theorem ZaM {ps:List (List ByteArray)} {s:ByteArray} (h:(YP (skv (ZP 0 ps)) (.string s)).isSome=true):(YP (skv (ZP 0 ps)) (.string s)).getD (.int .i64 0)= .int .i64 (partOf ps s)∧0≤partOf ps s:=by
 rw [W4,JS] at h ⊢
 have h2:=Kt ps s
 rw [Tn]
 rw [Uh] at h
 rw [h] at h2
 cases hp:Ja ps s with
 |none=>rw [hp] at h;cases h
 | some x=>
   refine ⟨rfl,?_⟩;have:=UC h2.symm;rw [Tn,hp] at this;exact this
theorem ZaN {ps:List (List ByteArray)} {s:ByteArray} (h:(YP (skv (ZP 0 ps)) (.string s)).isSome=false):partOf ps s<0:=by
 rw [W4,JS,Uh,Kt] at h
 have:=UD h;omega
theorem ZdY {n k:Nat} {f:Nat→Int} {x:Int} (hx:x=f k):(vec n fun i=>Zg (if i<k then f i else 0)).set (k*1) (Zg x)=vec n fun i=>Zg (if i<k+1 then f i else 0):=by
 subst hx
 rw [XL,Jp]
 refine Z3 fun i hi=>?_
 by_cases e:i=k
 · subst e;rw [UA rfl,UA oM]
 · rw [Uz e];by_cases h:i<k
   · rw [UA h,UA oM]
   · rw [Uz h,Uz oM]
theorem H6 (e n:Nat) (f:Nat→Int):share (.own e 1 n (vec n fun i=>Zg (f i)))=DU n f:=by
 rw [share,ZZ,TU];rfl
theorem ZaO (g:Dfg) (c:Cut) (hb:AF prog 46 [WS g] (· = .tup [.val (.pointer none),Zg 1])) (hs:∀p∈c.parts,∀s∈p,s.size≤140737488355328):AF prog 19 [WS g,RV c] (· =Zo false):=by
 refine AF.of_body 202 func19 rfl ntmps19 (Xa rfl) ?_
 intro w0 M0 vs hl hv
 obtain ⟨v0,v1,rfl⟩:=WT hl
 clear hl hv
 refine Zd ?_
 (refine Yr 2 4 fun h2=>?_<;>refine Yr 3 2 fun h3=>?_<;>refine xL 4 Zb ?_<;>refine Zh ?_)
 ((refine yL 22 (YG 2 Z9) fun v22 h=>?_;cases h)<;>(refine cT 23 23 201 (cA call46 (hb)) fun v23 v201 hv23 hv201 ho23 ho201=>?_;cases hv23;cases hv201;dsimp only [qq,GG,KM,cond_true,cond_false])<;>refine xL 21 Za (xL 24 Zl (xL 25 Zl (xL 5 Zb (xL 6 Zb ?_))))<;>refine Zh ?_)
 ((refine yL 27 (YG 3 Z5) fun v27 h=>?_;cases h)<;>(refine TG (R:=fun p=>∃q,p= .tup [q,Zo (Z8 c)]∧W2 q=true) 28 28 202 rfl rfl (Xa rfl) rfl rfl rfl (JJ rfl (call64) rfl ((Lu c hs).mono fun p ⟨q,e1,_,e3⟩=>⟨q,e1,by rcases e3 with rfl|⟨es,rfl⟩<;>rfl⟩)) ?_;rintro p' ⟨q,rfl,hq⟩;refine ⟨_,_,rfl,hq,rfl,?_⟩;intro h28 v202 _ hv202 ho28 _;cases hv202)<;>refine xL 26 Za (xL 29 Zl (xL 30 Zl (xL 7 Zb (xL 8 Zb ?_))))<;>refine Zc ?_)<;>(
 (refine ZR (fun i=>([]:List Nat).elem i) [] kR ?_<;>refine xE 0 31 rfl Za ?_<;>refine xE 1 32 rfl Y9 ?_<;>refine xE 2 33 rfl Za ?_<;>refine kD 3 34 rfl ?_<;>refine kD 4 35 rfl ?_<;>refine xE 5 36 rfl Zv ?_<;>refine xE 6 37 rfl Za ?_<;>refine kD 7 38 rfl ?_<;>refine kD 8 39 rfl ?_<;>refine kD 9 40 rfl ?_<;>refine kD 10 41 rfl ?_<;>refine kD 11 42 rfl ?_<;>refine kD 12 43 rfl ?_<;>refine kD 13 44 rfl ?_<;>refine kD 14 45 rfl ?_<;>refine xE 15 46 rfl Zv ?_<;>refine YU kR (nav ?_)<;>try dsimp only)<;>(try (exfalso;omega))<;>(
 refine cCt ?_;refine Zd ?_;(refine xL 4 Zb ?_<;>refine Zc ?_)
 exact Zi results19 rfl rfl))
theorem Rx (g:Dfg) (l:List ByteArray) (n:Nat) (E:Nat→Nat→Bool) (S F:Nat→Bool) (c:Cut) (hb:AF prog 46 [WS g] (· = .tup [W1 l n E S F,Zg 0])) (hF:Z8 c=false) (hs:∀p∈c.parts,∀s∈p,s.size≤140737488355328):AF prog 19 [WS g,RV c] (· =Zo false):=by
 refine AF.of_body 202 func19 rfl ntmps19 (Xa rfl) ?_
 intro w0 M0 vs hl hv
 obtain ⟨v0,v1,rfl⟩:=WT hl
 clear hl hv
 refine Zd ?_
 (refine Yr 2 4 fun h2=>?_<;>refine Yr 3 2 fun h3=>?_<;>refine xL 4 Zb ?_<;>refine Zh ?_)
 ((refine yL 22 (YG 2 Z9) fun v22 h=>?_;cases h)<;>(refine cT 23 23 201 (cA call46 (hb)) fun v23 v201 hv23 hv201 ho23 ho201=>?_;cases hv23;cases hv201;dsimp only [qq,GG,KM,cond_true,cond_false])<;>refine xL 21 Za (xL 24 Zl (xL 25 Zl (xL 5 Zb (xL 6 Zb ?_))))<;>refine Zh ?_)
 ((refine yL 27 (YG 3 Z5) fun v27 h=>?_;cases h)<;>(refine TG (R:=fun p=>∃q,p= .tup [q,Zo false]∧W2 q=true) 28 28 202 rfl rfl (Xa rfl) rfl rfl rfl (JJ rfl (call64) rfl ((Lu c hs).mono fun p ⟨q,e1,_,e3⟩=>⟨q,by rw [e1,hF],by rcases e3 with rfl|⟨es,rfl⟩<;>rfl⟩)) ?_;rintro p' ⟨q,rfl,hq⟩;refine ⟨_,_,rfl,hq,rfl,?_⟩;intro h28 v202 _ hv202 ho28 _;cases hv202)<;>refine xL 26 Za (xL 29 Zl (xL 30 Zl (xL 7 Zb (xL 8 Zb ?_))))<;>refine Zc ?_)<;>(
 (refine ZR (fun i=>([]:List Nat).elem i) [] kR ?_<;>refine xE 0 31 rfl Za ?_<;>refine xE 1 32 rfl Y9 ?_<;>refine xE 2 33 rfl Za ?_<;>refine xD 3 34 rfl Za ?_<;>refine xD 4 35 rfl Yj ?_<;>refine xE 5 36 rfl Zv ?_<;>refine xE 6 37 rfl Za ?_<;>refine kD 7 38 rfl ?_<;>refine kD 8 39 rfl ?_<;>refine kD 9 40 rfl ?_<;>refine kD 10 41 rfl ?_<;>refine kD 11 42 rfl ?_<;>refine kD 12 43 rfl ?_<;>refine kD 13 44 rfl ?_<;>refine kD 14 45 rfl ?_<;>refine xE 15 46 rfl Zv ?_<;>refine YU kR (nav ?_)<;>try dsimp only)<;>(try (exfalso;omega))<;>(
 refine cCt ?_;refine Zd ?_;(refine xL 4 Zb ?_<;>refine Zc ?_)
 exact Zi results19 rfl rfl))
set_option maxHeartbeats 2000000 in
theorem H7 (g : Dfg) (l : List ByteArray) (n:Nat) (E:Nat→Nat→Bool) (S F:Nat→Bool) (c:Cut) (hb:AF prog 46 [WS g] (· = .tup [W1 l n E S F,Zg 0])) (hl:l.length=n) (hn:n≤1000) (hF:Z8 c=true) (hs:∀p∈c.parts,∀s∈p,s.size≤140737488355328) (hc:c.parts.length≤1000000):AF prog 19 [WS g,RV c] (· =Zo (K3 l n E S F c)):=by
 have hmap:(skv (ZP 0 c.parts)).length=c.parts.flatten.length:=by unfold skv;rw [Xc,S6]
 refine AF.of_body 202 func19 rfl ntmps19 (Xa rfl) ?_
 intro w0 M0 vs hl hv
 obtain ⟨v0,v1,rfl⟩:=WT hl
 clear hl hv
 refine Zd ?_
 (refine Yr 2 4 fun h2=>?_<;>refine Yr 3 2 fun h3=>?_<;>refine xL 4 Zb ?_<;>refine Zh ?_)
 ((refine yL 22 (YG 2 Z9) fun v22 h=>?_;cases h)<;>(refine cT 23 23 201 (cA call46 (hb)) fun v23 v201 hv23 hv201 ho23 ho201=>?_;cases hv23;cases hv201;dsimp only [qq,GG,KM,cond_true,cond_false])<;>refine xL 21 Za (xL 24 Zl (xL 25 Zl (xL 5 Zb (xL 6 Zb ?_))))<;>refine Zh ?_)
 ((refine yL 27 (YG 3 Z5) fun v27 h=>?_;cases h)<;>(refine TG (R:=(· = .tup [.omap (skv (ZP 0 c.parts)),Zo true])) 28 28 202 rfl rfl (Xa rfl) rfl rfl rfl (JJ rfl (call64) rfl ((Lu c hs).mono fun p ⟨q,e1,e2,_⟩=>by rw [e1,e2 hF,hF])) ?_;rintro p' rfl;refine ⟨_,_,rfl,rfl,rfl,?_⟩;intro h28 v202 _ hv202 ho28 _;cases hv202)<;>refine xL 26 Za (xL 29 Zl (xL 30 Zl (xL 7 Zb (xL 8 Zb ?_))))<;>refine Zc ?_)
 dsimp only [W1]
 (refine ZR (fun i => ([] : List Nat).elem i) [28] kR ?_<;>refine xE 0 31 rfl Za ?_<;>refine xE 1 32 rfl Y9 ?_<;>refine xE 2 33 rfl Za ?_<;>refine xD 3 34 rfl Za ?_<;>refine xD 4 35 rfl Yj ?_<;>refine xE 5 36 rfl Zv ?_<;>refine xE 6 37 rfl Za ?_<;>refine xD 7 38 rfl Za ?_<;>refine xD 8 39 rfl (ζe 28 underlying78) ?_<;>refine xD 9 40 rfl Za ?_<;>refine xD 10 41 rfl Yc ?_<;>refine xD 11 42 rfl (Ye Yx) ?_<;>(refine yD 12 43 rfl (Zt ZL) fun v43 h=>?_;cases h)<;>refine xD 13 44 rfl (ZF Zu) ?_<;>refine xD 14 45 rfl Y9 ?_<;>refine xE 15 46 rfl Zv ?_<;>refine YU kR (nav ?_)<;>try dsimp only)<;>(try (exfalso;omega))<;>(
 refine cX ?_ ?_<;>intro hb46
 · first|exact bN hb46|(
 refine Zd ?_;(refine xL 4 Zb ?_<;>refine Zc ?_)
 refine Zi (results19) rfl ?_;rw [Cs oM])
 · first | exact bN hb46 | (
 refine Zd ?_;(refine xL 47 Za (xL 48 Yc (xL 49 (Ye Yx) ?_))<;>(refine yL 50 (Zt ZL) fun v50 h=>?_;cases h)<;>refine xL 51 (ZF Zu) ?_<;>refine Ky 52 Y' fun h52 ho52=>?_<;>refine xL 9 Zb ?_<;>refine Zh ?_)
 (refine xL 53 Za (xL 54 Yc (xL 55 (Ye Yx) ?_))<;>(refine yL 56 (Zt ZL) fun v56 h=>?_;cases h)<;>refine xL 57 (ZF Zu) (xL 58 Za ?_)<;>refine Zc ?_)
 rw [hl];rw [show List.replicate n (PV.val (.int .i64 0))=vec n (fun i=>Zg (if i<0 then atF c l i else 0)) by rw [LU];exact Z3 fun i _=>by rw [Uz oM]];refine Zw (ι:={k:Nat//k≤n∧∀j,j<k→decide (0≤atF c l j)=true}) (fun k=>⟨[(2,_,_),(3,_,_),(5,_,_),(7,_,_),(9,_,_),(56,_,_),(57,_,_),(58, .int .i64 k.1,Zg k.1)],[(2,_,_),(3,_,_),(28,_,_),(52,h52, .own 3 1 n (vec n fun i=>Zg (if i<k.1 then atF c l i else 0)))]⟩) (fun k=>n-k.1) ⟨0,oM,oM⟩ (fun a w H=>H.weaken ⟨rfl,rfl,rfl,rfl,rfl,rfl,rfl,rfl,trivial⟩ ⟨rfl,rfl,rfl,rfl,trivial⟩) ?_;rintro ⟨k,hk,hp⟩;dsimp only;refine Zd ?_;(refine xL 59 ZN ?_<;>refine Zc ?_)
 refine cX ?_ ?_<;>intro hb59
 · first |exact bN hb59|(
 have hlt:k<n:=oM;obtain ⟨s,hsk⟩:=Zj (show k<l.length by omega);have e1:=Yn (f:=ZS) hsk;have hat:=Ze4 (c:=c) hsk;have e5:=WB n (fun i=>Zg (if i<k then atF c l i else 0));refine Zd ?_;(refine xL 60 Za (xL 61 (Zn Zu) ?_)<;>(refine yL 62 (Zt ZJ) fun v62 h=>?_;cases h)<;>refine xL 10 Zb (xL 11 Zb ?_)<;>refine Zh ?_)
 (refine xL 64 Za (xL 65 Za (xL 66 (R4 28 K2) (xL 63 Za (xL 67 Zl (xL 68 Zl (xL 12 Zb (xL 13 Zb ?_)))))))<;>refine Zh ?_)
 (refine xL 69 Za (xL 70 Yj ?_)<;>refine Zc ?_)
 refine cX ?_ ?_<;>intro hb70
 · first|exact bN hb70|(
 refine Zd ?_;(refine xL 4 Zb ?_<;>refine Zc ?_)
 refine Zi (results19) rfl ?_;rw [ZaL hlt (by rw [hat];exact ZaN (by simpa using hb70))])
 · first|exact bN hb70|(
 have hlk:=ZaM (ps:=c.parts) (s:=s) (by simpa using hb70);rw [hlk.1];refine Zd ?_;(refine xL 71 Za (xL 72 Za (xL 73 Za (xL 74 (Z4 52 ZE) ?_)))<;>refine Rs 52 Zx H4 ?_<;>refine Zh ?_)
 (refine xL 75 ZB (xL 58 Za ?_)<;>refine Zc ?_)
 rw [ZdY hat.symm];refine Zf (
  ⟨k+1,oM,fun j hj=>by
   by_cases e:j=k
   · subst e;rw [hat];exact Ux hlk.2
   · exact hp j oM⟩
  ) (by dsimp only;omega) ⟨rfl,rfl,rfl,rfl,rfl,rfl,rfl,rfl,trivial⟩ ⟨rfl,rfl,rfl,rfl,trivial⟩))
 · first | exact bN hb59 |(
 refine nav ?_;rw [show (vec n fun i=>Zg (if i<k then atF c l i else 0))=vec n fun i=>Zg (atF c l i) from Z3 fun i hi=>by rw [UA oM]];refine Zz (En.freeze (l:=52) (t:=9) rfl rfl) fun _=>?_;rw [H6];have hat0:Lb n (fun i=>decide (0≤atF c l i))=true:=Kn fun j hj=>hp j oM;clear hp;dsimp only [DU];(refine Zk ?_<;>refine xL 76 Za ?_<;>(refine cS 77 (cA call51 (Pq l n E (YL n S) (YL n F) hl hn)) fun v77 h=>?_;cases h)<;>refine xL 14 Zb ?_<;>refine Zh ?_)
 (refine xL 78 Za (xL 79 Yc (xL 80 (Ye Yx) ?_))<;>(refine yL 81 (Zt ZL) fun v81 h=>?_;cases h)<;>refine xL 82 (ZF Zu) (xL 83 Za ?_)<;>refine Zc ?_)
 refine Zw (ι:={k:Nat//k≤n∧∀j,j<k→okA n E (ZT n E) S F c.kind (atF c l) j=true}) (fun k=>⟨[(2,_,_),(3,_,_),(5,_,_),(9,_,_),(14,_,_),(82,_,_),(83, .int .i64 k.1,Zg k.1)],[(2,_,_),(3,_,_)]⟩) (fun k=>n-k.1) ⟨0,oM,oM⟩ (fun a w H=>H.weaken ⟨rfl,rfl,rfl,rfl,rfl,rfl,rfl,trivial⟩ ⟨rfl,rfl,trivial⟩) ?_;rintro ⟨a,hka,hpa⟩;dsimp only;refine Zd ?_;(refine xL 84 ZN ?_<;>refine Zc ?_)
 refine cX ?_ ?_<;>intro hb84
 · first | exact bN hb84|(
 have halt:a<n:=oM;have e1:=ZI (fun i=>Zg (atF c l i)) halt;have e2:=ZI (fun i=>Zo (S i)) halt;have e3:=ZI (fun i=>Zo (F i)) halt;refine Zd ?_;(refine xL 85 Za (xL 15 Zb ?_)<;>refine Zh ?_)
 (refine xL 86 (Zm 3 Wv) ?_<;>(refine yL 87 (Zp 3 Zx) fun v87 h=>?_;cases h)<;>refine xL 88 YY (xL 89 Za ?_)<;>(refine bLd 89 (fun hb89=>?_) (fun hb89=>?_)<;>(first|refine kL 90 ?_|refine xL 90 Za ?_))<;>(first|refine kL 91 ?_|refine xL 91 Za ?_)<;>(first|refine kL 92 ?_|refine xL 92 (Zn ZE) ?_)<;>(first|refine kL 93 ?_|(refine yL 93 (Zt Zx) fun v93 h=>?_;cases h))<;>(first|refine kL 94 ?_|refine xL 94 Y9 ?_)<;>refine xL 95 Zv (xL 96 Za ?_)<;>(first|refine kL 97 ?_|(refine bLd 96 (fun hb96=>?_) (fun hb96=>?_)<;>(first|refine kL 97 ?_|refine xL 97 Za ?_)))<;>(first|refine kL 98 ?_|refine xL 98 Yc ?_)<;>(first|refine kL 99 ?_|refine xL 99 (Ye W6) ?_)<;>(first|refine kL 100 ?_|(refine yL 100 (Zt ZC) fun v100 h=>?_;cases h))<;>(first|refine kL 101 ?_|refine xL 101 Za ?_)<;>(first|refine kL 102 ?_|refine xL 102 (Zn ZG) ?_)<;>(first|refine kL 103 ?_|(refine yL 103 (Zt ZW) fun v103 h=>?_;cases h))<;>(first|refine kL 104 ?_|refine xL 104 Za ?_)<;>(first|refine kL 105 ?_|(refine bL 104 (fun hb104=>?_) (fun hb104=>?_)<;>(first|refine kL 105 ?_|refine xL 105 Za ?_)))<;>(first|refine kL 106 ?_|refine xL 106 Yc ?_)<;>(first|refine kL 107 ?_|refine xL 107 (Ye W7) ?_)<;>(first|refine kL 108 ?_|(refine yL 108 (Zt ZC) fun v108 h=>?_;cases h))<;>(first|refine kL 109 ?_|refine xL 109 Za ?_)<;>(first|refine kL 110 ?_|refine xL 110 (Zn ZG) ?_)<;>(first|refine kL 111 ?_|(refine yL 111 (Zt ZW) fun v111 h=>?_;cases h))<;>(first|refine kL 112 ?_|refine xL 112 Zv ?_)<;>refine xL 113 Zv ?_<;>refine Zc ?_)<;>(
 refine cX ?_ ?_<;>intro hb113
 · first|exact bN hb113|(
 refine Zd ?_;(refine xL 4 Zb ?_<;>refine Zc ?_)
 refine Zi (results19) rfl ?_;rw [H5 halt (ZfJ oM oM (by first|exact .inl hb104|exact .inr hb113))])
 · first | exact bN hb113|(
 refine Zd ?_;(refine xL 114 Za (xL 115 Yc (xL 116 (Ye Yx) ?_))<;>(refine yL 117 (Zt ZL) fun v117 h=>?_;cases h)<;>refine xL 118 (ZF Zu) (xL 119 Za ?_)<;>refine Zc ?_)
 have hA1:¬(c.kind=4∧atF c l a≠0∧(S a=true∨F a=true)):=by
  rintro ⟨g1,g2,g3⟩
  first
   |omega
   | (rcases g3 with g3|g3
      · rw [hb104] at g3;cases g3
      · rw [hb113] at g3;cases g3)
 refine Zw (ι:={k:Nat//k≤n∧∀b,b<k→(decide (atF c l a=atF c l b)||JR n E (ZT n E) S F c.kind (atF c l) a b)=true}) (fun k=>⟨[(2,_,_),(3,_,_),(5,_,_),(9,_,_),(14,_,_),(82,_,_),(83,_,_),(15,_,_),(118,_,_),(119, .int .i64 k.1,Zg k.1)],[(2,_,_),(3,_,_)]⟩) (fun k=>n-k.1) ⟨0,oM,oM⟩ (fun a w H=>H.weaken ⟨rfl,rfl,rfl,rfl,rfl,rfl,rfl,rfl,rfl,rfl,trivial⟩ ⟨rfl,rfl,trivial⟩) ?_;rintro ⟨b,hkb,hpb⟩;dsimp only;refine Zd ?_;(refine xL 120 ZN ?_<;>refine Zc ?_)
 refine cX ?_ ?_<;>intro hb120
 · first | exact bN hb120|(
 have hblt:b<n:=oM;have e4:=ZI (fun i=>Zg (atF c l i)) hblt;refine Zd ?_;(refine xL 121 Za (xL 16 Zb ?_)<;>refine Zc ?_)
 (refine ZR (fun i=>([]:List Nat).elem i) [3] kR ?_<;>refine xD 0 122 rfl Za ?_<;>refine xD 1 123 rfl Za ?_<;>refine xD 2 124 rfl (Zn ZE) ?_<;>(refine yD 3 125 rfl (Zt Zx) fun v125 h=>?_;cases h)<;>refine xD 4 126 rfl Za ?_<;>refine xE 5 127 rfl Za ?_<;>refine xE 6 128 rfl (Zn ZE) ?_<;>(refine yE 7 129 rfl (Zt Zx) fun v129 h=>?_;cases h)<;>refine xE 8 130 rfl Y9 ?_<;>refine xE 9 131 rfl Za ?_<;>(refine bDd 131 (fun hb131=>?_) (fun hb131=>?_)<;>(first|refine kD 10 132 rfl ?_|refine xD 10 132 rfl Za ?_))<;>(first|refine kD 11 133 rfl ?_|refine xD 11 133 rfl Za ?_)<;>(first|refine kD 12 134 rfl ?_|refine xD 12 134 rfl (Zm 3 Wv) ?_)<;>(first|refine kD 13 135 rfl ?_|(refine yD 13 135 rfl (Zp 3 Zx) fun v135 h=>?_;cases h))<;>(first|refine kD 14 136 rfl ?_|refine xD 14 136 rfl Za ?_)<;>(first|refine kD 15 137 rfl ?_|refine xD 15 137 rfl Za ?_)<;>(first|refine kD 16 138 rfl ?_|refine xD 16 138 rfl Za ?_)<;>(refine Zy 17 kR ?_)<;>(first|(refine LR (d:=139) rfl (cA call65 (ZdX l n E (ZT n E) S F c.kind (atF c l) a b hl hn halt hblt)) fun v139 h=>?_;cases h)|(refine ZA rfl fun w9 M9 N9 DQ back=>?_;refine kL 139 ?_;refine Zr (back _ (nrm ?_))))<;>(first|refine kD 18 140 rfl ?_|refine xD 18 140 rfl Yj ?_)<;>refine xE 19 141 rfl Zv ?_<;>refine YU kR (nav ?_)<;>try dsimp only)<;>(
 refine cX ?_ ?_<;>intro hb141
 · first|exact bN hb141|(
 refine Zd ?_;(refine xL 4 Zb ?_<;>refine Zc ?_)
 refine Zi (results19) rfl ?_;rw [H5 halt (ZfK hblt hb131 (by simpa using hb141))])
 · first |exact bN hb141|(
 refine Zd ?_;(refine xL 142 ZB (xL 119 Za ?_)<;>refine Zc ?_)
 refine Zf (
  ⟨b + 1,oM,fun j hj=>by
   by_cases e:j=b
   · subst e
     first
      |(rw [Uy hb131,show JR n E (ZT n E) S F c.kind (atF c l) a j=true by simpa using hb141];rfl)
      |(rw [Ux (show atF c l a=atF c l j by omega)];rfl)
   · exact hpb j oM⟩
  ) (by dsimp only;omega) ⟨rfl,rfl,rfl,rfl,rfl,rfl,rfl,rfl,rfl,rfl,trivial⟩ ⟨rfl,rfl,trivial⟩)))
 · first|exact bN hb120|(
 refine Zd ?_;(refine xL 143 ZB (xL 83 Za ?_)<;>refine Zc ?_)
 refine Zf (
  ⟨a+1,oM,fun j hj=>by
   by_cases e:j=a
   · subst e;exact ZfL hA1 fun b' hb'=>hpb b' oM
   · exact hpa j oM⟩
  ) (by dsimp only;omega) ⟨rfl,rfl,rfl,rfl,rfl,rfl,rfl,trivial⟩ ⟨rfl,rfl,trivial⟩))))
 · first | exact bN hb84|(
 refine Zd ?_;(refine xL 144 (Zm 3 Wv) ?_<;>(refine yL 145 (Zp 3 Zx) fun v145 h=>?_;cases h)<;>refine xL 146 YY ?_<;>refine Zc ?_)
 refine cX ?_ ?_<;>intro hb146
 · first | exact bN hb146|(
 refine Zd ?_;(refine xL 147 (Zm 3 KG) ?_<;>(refine yL 148 (Zp 3 JC) fun v148 h=>?_;cases h)<;>refine xL 149 (ZF L0) (xL 150 Za ?_)<;>refine Zc ?_)
 refine Zw (ι:={k:Nat//k≤c.parts.length∧∀j,j<k→okP n S F (atF c l) j=true}) (fun k=>⟨[(2,_,_),(3,_,_),(5,_,_),(9,_,_),(149,_,_),(150, .int .i64 k.1,Zg k.1)],[(2,_,_),(3,_,_)]⟩) (fun k=>c.parts.length-k.1) ⟨0,oM,oM⟩ (fun a w H=>H.weaken ⟨rfl,rfl,rfl,rfl,rfl,rfl,trivial⟩ ⟨rfl,rfl,trivial⟩) ?_;rintro ⟨q,hkq,hpq⟩;dsimp only;refine Zd ?_;(refine xL 151 ZN ?_<;>refine Zc ?_)
 refine cX ?_ ?_<;>intro hb151
 · first | exact bN hb151|(
 refine Zd ?_;(refine xL 152 Za (xL 17 Zb ?_)<;>refine Zh ?_)
 (refine xL 18 Zb (xL 19 Zb ?_)<;>refine Zh ?_)
 (refine xL 153 Za (xL 154 (ZF ZE) (xL 155 Za ?_))<;>refine Zc ?_)
 refine Zw (ι:={x:Nat×Bool×Bool//x.1≤n∧x.2.1=JU x.1 (fun i=>decide (atF c l i=q)&&S i)∧x.2.2=JU x.1 (fun i=>decide (atF c l i=q)&&F i)}) (fun k=>⟨[(2,_,_),(3,_,_),(5,_,_),(9,_,_),(149,_,_),(150,_,_),(17,_,_),(154,_,_),(155, .int .i64 k.1.1,Zg k.1.1),(18, .bool k.1.2.1,Zo k.1.2.1),(19, .bool k.1.2.2,Zo k.1.2.2)],[(2,_,_),(3,_,_)]⟩) (fun k=>n-k.1.1) ⟨(0,false,false),oM,rfl,rfl⟩ (fun a w H=>H.weaken ⟨rfl,rfl,rfl,rfl,rfl,rfl,rfl,rfl,rfl,rfl,rfl,trivial⟩ ⟨rfl,rfl,trivial⟩) ?_;rintro ⟨⟨i,bs,bf⟩,hki,hS,hFn⟩;dsimp only;dsimp only at hki hS hFn;refine Zd ?_;(refine xL 156 ZN ?_<;>refine Zc ?_)
 refine cX ?_ ?_<;>intro hb156
 · first | exact bN hb156|(
 have hilt:i<n:=oM;have e1:=ZI (fun i=>Zg (atF c l i)) hilt;have e2:=ZI (fun i=>Zo (S i)) hilt;have e3:=ZI (fun i=>Zo (F i)) hilt;refine Zd ?_;(refine xL 157 Za (xL 20 Zb ?_)<;>refine Zh ?_)
 (refine xL 158 Za (xL 159 Za ?_)<;>(refine bL 159 (fun hb159=>?_) (fun hb159=>?_)<;>(first|refine kL 160 ?_|refine xL 160 Za ?_))<;>(first|refine kL 161 ?_|refine xL 161 Za ?_)<;>(first|refine kL 162 ?_|refine xL 162 (Zn ZE) ?_)<;>(first|refine kL 163 ?_|(refine yL 163 (Zt Zx) fun v163 h=>?_;cases h))<;>(first|refine kL 164 ?_|refine xL 164 Za ?_)<;>(first|refine kL 165 ?_|refine xL 165 YY ?_)<;>(first|refine kL 166 ?_|refine xL 166 Za ?_)<;>(first|refine kL 167 ?_|(refine bLd 166 (fun hb166=>?_) (fun hb166=>?_)<;>(first|refine kL 167 ?_|refine xL 167 Za ?_)))<;>(first|refine kL 168 ?_|refine xL 168 Yc ?_)<;>(first|refine kL 169 ?_|refine xL 169 (Ye W6) ?_)<;>(first|refine kL 170 ?_|(refine yL 170 (Zt ZC) fun v170 h=>?_;cases h))<;>(first|refine kL 171 ?_|refine xL 171 Za ?_)<;>(first|refine kL 172 ?_|refine xL 172 (Zn ZG) ?_)<;>(first|refine kL 173 ?_|(refine yL 173 (Zt ZW) fun v173 h=>?_;cases h))<;>(first|refine kL 174 ?_|refine xL 174 Zv ?_)<;>refine xL 175 Zv (xL 18 Zb ?_)<;>refine Zc ?_)<;>(
 (refine Zk ?_<;>refine xL 176 Za (xL 177 Za ?_)<;>(refine bL 177 (fun hb177=>?_) (fun hb177=>?_)<;>(first|refine kL 178 ?_|refine xL 178 Za ?_))<;>(first|refine kL 179 ?_|refine xL 179 Za ?_)<;>(first|refine kL 180 ?_|refine xL 180 (Zn ZE) ?_)<;>(first|refine kL 181 ?_|(refine yL 181 (Zt Zx) fun v181 h=>?_;cases h))<;>(first|refine kL 182 ?_|refine xL 182 Za ?_)<;>(first|refine kL 183 ?_|refine xL 183 YY ?_)<;>(first|refine kL 184 ?_|refine xL 184 Za ?_)<;>(first|refine kL 185 ?_|(refine bLd 184 (fun hb184=>?_) (fun hb184=>?_)<;>(first|refine kL 185 ?_|refine xL 185 Za ?_)))<;>(first|refine kL 186 ?_|refine xL 186 Yc ?_)<;>(first|refine kL 187 ?_|refine xL 187 (Ye W7) ?_)<;>(first|refine kL 188 ?_|(refine yL 188 (Zt ZC) fun v188 h=>?_;cases h))<;>(first|refine kL 189 ?_|refine xL 189 Za ?_)<;>(first|refine kL 190 ?_|refine xL 190 (Zn ZG) ?_)<;>(first|refine kL 191 ?_|(refine yL 191 (Zt ZW) fun v191 h=>?_;cases h))<;>(first|refine kL 192 ?_|refine xL 192 Zv ?_)<;>refine xL 193 Zv (xL 19 Zb ?_)<;>refine Zc ?_)<;>(
 (refine Zk ?_<;>refine xL 194 ZB (xL 155 Za ?_)<;>refine Zc ?_)
 refine Zf (
  ⟨(i +1,_,_),by show i+1≤n;omega,by
    show _=JU (i+1) _
    first
     |(rw [JD,←hS,hb159];rfl)
     |(rw [JD,←hS,hb159,Ux hb166];simp;done)
     |(rw [JD,←hS,hb159,Uy hb166];rfl),by
    show _=JU (i+1) _
    first
     |(rw [JD,←hFn,hb177];rfl)
     |(rw [JD,←hFn,hb177,Ux hb184];simp;done)
     |(rw [JD,←hFn,hb177,Uy hb184];rfl)⟩
  ) (by show n-(i+1)<n-i;omega) ⟨rfl,rfl,rfl,rfl,rfl,rfl,rfl,rfl,rfl,rfl,rfl,trivial⟩ ⟨rfl,rfl,trivial⟩)))
 · first | exact bN hb156|(
 refine Zd ?_;(refine xL 195 Za (xL 196 Yj (xL 197 Za ?_))<;>(refine bL 197 (fun hb197=>?_) (fun hb197=>?_)<;>(first|refine kL 198 ?_|refine xL 198 Za ?_))<;>(first|refine kL 199 ?_|refine xL 199 Yj ?_)<;>refine xL 200 Zv ?_<;>refine Zc ?_)<;>(
 refine cX ?_ ?_<;>intro hb200
 · first|exact bN hb200|(
 refine Zd ?_;(refine xL 4 Zb ?_<;>refine Zc ?_)
 refine Zi (results19) rfl ?_;rw [Zcs hb146 oM (show okP n S F (atF c l) q=false by
  unfold okP;rw [show i=n by omega] at hS hFn
  first
   |(rw [←hS,show bs=false by simpa using hb197];rfl)
   |(rw [←hFn,show bf=false by simpa using hb200];simp))])
 · first |exact bN hb200|(
 refine Zd ?_;(refine xL 201 ZB (xL 150 Za ?_)<;>refine Zc ?_)
 refine Zf (
  ⟨q +1,oM,fun j hj=>by
   by_cases e:j=q
   · subst e;unfold okP;rw [show i=n by omega] at hS hFn;rw [←hS,←hFn,show bs=true by simpa using hb197,show bf=true by simpa using hb200];rfl
   · exact hpq j oM⟩
  ) (by dsimp only;omega) ⟨rfl,rfl,rfl,rfl,rfl,rfl,trivial⟩ ⟨rfl,rfl,trivial⟩))))
 · first|exact bN hb151|(
 refine Zd ?_;(refine xL 4 Zb ?_<;>refine Zc ?_)
 refine Zi (results19) rfl ?_;have hA:Lb n (okA n E (ZT n E) S F c.kind (atF c l))=true:=Kn fun j hj=>hpa j oM;have hlen:c.parts.flatten.length=n:=oM;unfold K3;rw [hat0,hA,Ux hlen]
 first
  |(rw [Uy hb146];rfl)
  |(rw [Kn fun j hj=>hpq j oM];simp)))
 · first|exact bN hb146|(
 refine Zd ?_;(refine xL 4 Zb ?_<;>refine Zc ?_)
 refine Zi (results19) rfl ?_;have hA:Lb n (okA n E (ZT n E) S F c.kind (atF c l))=true:=Kn fun j hj=>hpa j oM;have hlen:c.parts.flatten.length=n:=oM;unfold K3;rw [hat0,hA,Ux hlen]
 first
  |(rw [Uy hb146];rfl)
  |(rw [Kn fun j hj=>hpq j oM];simp))))))
def Je (n:Nat) (E R:Nat→Nat→Bool) (S F:Nat→Bool) (kind:Int) (a b:Nat) (first:Bool):Bool:=
 if kind=1 then !E a b&& !E b a else if kind=2 then R a b&& !R b a else if kind=3 then E a b&&E b a else if first then YV n E S F a b else !E a b&& !E b a
def S7 (n:Nat) (S F:Nat→Bool) (kind:Int) (at':Nat→Int) (i:Nat):Bool:=
 !(decide (kind=3)&&(!JU n (fun a=>decide (at' a=i)&&S a)|| !JU n (fun a=>decide (at' a=i)&&F a))||decide (kind=4)&&decide (0<i)&&(JU n (fun a=>decide (at' a=i)&&S a)||JU n (fun a=>decide (at' a=i)&&F a)))
theorem TY {n:Nat} {S F:Nat→Bool} {kind:Int} {at':Nat→Int} {i:Nat} {bs bf:Bool} (hS:bs=JU n (fun a=>decide (at' a=i)&&S a)) (hF:bf=JU n (fun a=>decide (at' a=i)&&F a)) (h:(kind=3∧(bs=false∨bf=false))∨(kind=4∧0<i∧(bs=true∨bf=true))):S7 n S F kind at' i=false:=by
 unfold S7
 rw [←hS,←hF]
 rcases h with ⟨h1,h2|h2⟩|⟨h1,h2,h3|h3⟩
 · rw [Ux h1,h2];simp
 · rw [Ux h1,h2];simp
 · rw [Ux h1,Ux h2,h3];simp
 · rw [Ux h1,Ux h2,h3];simp
theorem ZaP {n:Nat} {S F:Nat→Bool} {kind:Int} {at':Nat→Int} {i:Nat} {bs bf:Bool} (hS:bs=JU n (fun a=>decide (at' a=i)&&S a)) (hF:bf=JU n (fun a=>decide (at' a=i)&&F a)) (h1:kind=3→bs=true∧bf=true) (h2:kind=4→0<i→bs=false∧bf=false):S7 n S F kind at' i=true:=by
 unfold S7
 rw [←hS,←hF,Vy,←X']
 intro h
 simp only [X9,Xd,Uw,Vy] at h
 rcases h with ⟨h3,h4⟩|⟨⟨h3,h4⟩,h5⟩
 · obtain ⟨h6,h7⟩:=h1 h3;rw [h6,h7] at h4;simp at h4
 · obtain ⟨h6,h7⟩:=h2 h3 h4;rw [h6,h7] at h5;simp at h5
def Zct (l:List ByteArray) (n:Nat) (E:Nat→Nat→Bool) (S F:Nat→Bool) (c:Cut):Bool:=
 Lb n (fun i=>decide (0≤atF c l i))&&(decide (c.parts.flatten.length=n)&&Lb c.parts.length (S7 n S F c.kind (atF c l)))&&Lb n fun a=>Lb n fun b=> !decide (atF c l a<atF c l b)||Je n E (ZT n E) S F c.kind a b (decide (atF c l a=0))
end Go.Proofs.YtmkojdfiadbeeaaGreat
namespace Go.Cb
open Go.En
set_option linter.all false
def Conn (l:List Int) (r:Int→Int→Bool) (x y:Int):Prop:=∀P:Int→Prop,(∀a b,a∈l→b∈l→(r a b=true∨r b a=true)→P a→P b)→P x→P y
theorem Conn.refl (l:List Int) (r:Int→Int→Bool) (x:Int):Conn l r x x:=fun _ _ h=>h
theorem Conn.trans {l:List Int} {r:Int→Int→Bool} {x y z:Int} (h:Conn l r x y) (k:Conn l r y z):Conn l r x z:=fun P hP hx=>k P hP (h P hP hx)
theorem Conn.step {l:List Int} {r:Int→Int→Bool} {x y:Int} (hx:x∈l) (hy:y∈l) (h:r x y=true∨r y x=true):Conn l r x y:=fun P hP hx'=>hP x y hx hy h hx'
theorem Conn.symm {l:List Int} {r:Int→Int→Bool} {x y:Int} (h:Conn l r x y):Conn l r y x:=
 h (fun z=>Conn l r z x) (fun a b ha hb hr hax=>(Conn.step hb ha hr.symm).trans hax) (Conn.refl l r x)
theorem K4 {α:Type} [BEq α] [LawfulBEq α]:∀{l m:List α},l.Nodup→(∀x∈l,x∈m)→l.length≤m.length
 |[],m,_,_=>XA _
 | x ::l,m,h,hs=>by
   rw [XZ] at h;have hx:=hs x sM;have h1:=K4 (l:=l) (m:=m.erase x) h.2 fun y hy=>by
    have hne:y≠x:=fun e=>h.1 (e▸hy);exact (List.mem_erase_of_ne hne).2 (hs y (by simp [hy]))
   rw [List.length_erase_of_mem hx] at h1;have:=List.length_pos_of_mem hx;simp only [Xi];omega
structure Comps (l:List Int) (r:Int→Int→Bool) (cs:List (List Int)):Prop where
 mem:∀x,x∈cs.flatten↔x∈l
 nd:cs.flatten.Nodup
 ne:∀c∈cs,c≠[]
 asc:∀c∈cs,c.Pairwise (· < ·)
 conn:∀c∈cs,∀x∈c,∀y∈c,Conn l r x y
 clos:∀c∈cs,∀x∈c,∀y∈l,(r x y=true∨r y x=true)→y∈c
 ord:cs.Pairwise fun c d=>∀x y,c.head? =some x→d.head? =some y→x<y
structure Part (l:List Int) (r:Int→Int→Bool) (cs:List (List Int)) (k:Nat):Prop where
 sub:∀x∈cs.flatten,x∈l
 did:∀j x,j<k→l[j]? =some x→x∈cs.flatten
 nd:cs.flatten.Nodup
 ne:∀c∈cs,c≠[]
 asc:∀c∈cs,c.Pairwise (· < ·)
 conn:∀c∈cs,∀x∈c,∀y∈c,Conn l r x y
 clos:∀c∈cs,∀x∈c,∀y∈l,(r x y=true∨r y x=true)→y∈c
 ord:cs.Pairwise fun c d=>∀x y,c.head? =some x→d.head? =some y→x<y
 hd:∀c∈cs,∀x,c.head? =some x→∃j,j<k∧l[j]? =some x
theorem Part.start (l:List Int) (r:Int→Int→Bool):Part l r [] 0:=⟨sM,oM,sM,sM,sM,sM,sM,sM,sM⟩
theorem Part.comps {l:List Int} {r:Int→Int→Bool} {cs:List (List Int)} {k:Nat} (h:Part l r cs k) (hk:l.length≤k):Comps l r cs:=
 ⟨fun x=>⟨h.sub x,fun hx=>by
  obtain ⟨j,hj⟩:=XF hx;exact h.did j x (by have:=Ze hj;omega) hj⟩,h.nd,h.ne,h.asc,h.conn,h.clos,h.ord⟩
theorem Part.skip {l:List Int} {r:Int→Int→Bool} {cs:List (List Int)} {k:Nat} {x:Int} (h:Part l r cs k) (hx:l[k]? =some x) (hin:x∈cs.flatten):Part l r cs (k+1):=
 ⟨h.sub,fun j y hj hy=>by
  by_cases e:j=k
  · subst e;rw [hx] at hy;cases hy;exact hin
  · exact h.did j y oM hy,h.nd,h.ne,h.asc,h.conn,h.clos,h.ord,fun c hc x hx=>let ⟨j,hj,e⟩:=h.hd c hc x hx;⟨j,oM,e⟩⟩
structure Mk (l:List Int) (r:Int→Int→Bool) (cs:List (List Int)) (first:Int) (tk cl:List Int) (i q:Nat):Prop where
 tkm:∀z,z∈tk↔z∈cs.flatten∨z∈cl
 nd:(cs.flatten++cl).Nodup
 sub:∀z∈cl,z∈l
 con:∀z∈cl,Conn l r first z
 fst:first∈cl
 il:i≤cl.length
 did:∀j x,j<i→cl[j]? =some x→∀y∈l,(r x y=true∨r y x=true)→y∈tk
 now:∀x,cl[i]? =some x→∀p y,p<q→l[p]? =some y→(r x y=true∨r y x=true)→y∈tk
theorem Mk.start {l:List Int} {r:Int→Int→Bool} {cs:List (List Int)} {k:Nat} {x:Int} {tk:List Int} (h:Part l r cs k) (hx:l[k]? =some x) (ht:∀z,z∈tk↔z∈cs.flatten) (hn:x∉cs.flatten):Mk l r cs x (tk++[x]) [x] 0 0:=
 ⟨fun z=>by simp [ht],by
  rw [Vg];exact ⟨h.nd,sM,fun a ha b hb=>by simp at hb;subst hb;exact fun e=>hn (e▸ha)⟩,fun z hz=>by simp at hz;subst hz;exact Xb hx,fun z hz=>by simp at hz;subst hz;exact Conn.refl _ _ _,sM,sM,oM,oM⟩
theorem Mk.len {l:List Int} {r:Int→Int→Bool} {cs:List (List Int)} {first:Int} {tk cl:List Int} {i q:Nat} (h:Mk l r cs first tk cl i q):cl.length≤l.length:=K4 (Vg.1 h.nd).2.1 h.sub
theorem Mk.pass {l:List Int} {r:Int→Int→Bool} {cs:List (List Int)} {first:Int} {tk cl:List Int} {i q:Nat} {x y:Int} (h:Mk l r cs first tk cl i q) (hx:cl[i]? =some x) (hy:l[q]? =some y) (hn:y∈tk∨(r x y=false∧r y x=false)):Mk l r cs first tk cl i (q+1):=
 ⟨h.tkm,h.nd,h.sub,h.con,h.fst,h.il,h.did,fun x' hx' p z hp hz hr=>by
  rw [hx] at hx';cases hx';by_cases e:p=q
  · subst e;rw [hy] at hz;cases hz;rcases hn with hn|⟨h1,h2⟩
    · exact hn
    · rw [h1,h2] at hr;simp at hr
  · exact h.now x hx p z oM hz hr⟩
theorem Mk.take {l:List Int} {r:Int→Int→Bool} {cs:List (List Int)} {first:Int} {tk cl:List Int} {i q:Nat} {x y:Int} (h:Mk l r cs first tk cl i q) (hx:cl[i]? =some x) (hy:l[q]? =some y) (hn:y∉tk) (hr:r x y=true∨r y x=true):Mk l r cs first (tk++[y]) (cl++[y]) i (q+1):=by
 have hyl:=Xb hy
 have hxc:=Xb hx
 have hn':y∉cs.flatten∧y∉cl:=by
  have:=fun hh=>hn ((h.tkm y).2 hh);exact ⟨fun hh=>this (.inl hh),fun hh=>this (.inr hh)⟩
 refine ⟨fun z=>?_,?_,fun z hz=>?_,fun z hz=>?_,by simp [h.fst],by have:=h.il;simp;omega,fun j u hj hu v hv hrr=>?_,fun u hu p v hp hv hrr=>?_⟩
 · simp only [Xv,XR,h.tkm z];exact or_assoc
 · rw [←XM,Vg];refine ⟨h.nd,sM,fun a ha b hb=>?_⟩;simp at hb;subst hb;intro e;rw [Xv] at ha;rcases ha with ha|ha
   · exact hn'.1 (e▸ha)
   · exact hn'.2 (e▸ha)
 · simp only [Xv,XR] at hz;rcases hz with hz|rfl
   · exact h.sub z hz
   · exact hyl
 · simp only [Xv,XR] at hz;rcases hz with hz|rfl
   · exact h.con z hz
   · exact (h.con x hxc).trans (Conn.step (h.sub x hxc) hyl hr)
 · have hl:j<cl.length:=by have:=h.il;omega
   rw [X7 hl] at hu;rw [Xv];exact .inl (h.did j u hj hu v hv hrr)
 · have hl:=Ze hx;rw [X7 hl,hx] at hu;cases hu;rw [Xv];by_cases e:p=q
   · subst e;rw [hy] at hv;cases hv;simp
   · exact .inl (h.now x hx p v oM hv hrr)
theorem Mk.next {l:List Int} {r:Int→Int→Bool} {cs:List (List Int)} {first:Int} {tk cl:List Int} {i q:Nat} (h:Mk l r cs first tk cl i q) (hq:l.length≤q) (hi:i<cl.length):Mk l r cs first tk cl (i+1) 0:=
 ⟨h.tkm,h.nd,h.sub,h.con,h.fst,hi,fun j x hj hx y hy hr=>by
  by_cases e:j=i
  · subst e;obtain ⟨p,hp⟩:=XF hy;exact h.now x hx p y (by have:=Ze hp;omega) hp hr
  · exact h.did j x oM hx y hy hr,oM⟩
theorem Ww {cl:List Int} {z:Int}:z∈cl.mergeSort (fun x y=>decide (x≤y))↔z∈cl:=(Vq cl _).mem_iff
theorem H8 {cl:List Int} (h:cl.Nodup):(cl.mergeSort fun x y=>decide (x≤y)).Pairwise (· < ·):=by
 have h1:=List.pairwise_mergeSort (le:=fun x y:Int=>decide (x≤y)) (fun a b c h1 h2=>by simp at*;omega) (fun a b=>by simp;omega) cl
 have h2:(cl.mergeSort fun x y=>decide (x≤y)).Nodup:=(Vq cl _).nodup_iff.2 h
 exact (h1.and h2).imp fun {a b} ⟨h3,h4⟩=>by simp at h3;have:a≠b:=h4;omega
theorem Mk.done {l:List Int} {r:Int→Int→Bool} {cs:List (List Int)} {first:Int} {tk cl:List Int} {i k:Nat} (h:Mk l r cs first tk cl i 0) (hP:Part l r cs k) (hl:l.Pairwise (· < ·)) (hk:l[k]? =some first) (hi:cl.length≤i):Part l r (cs++[cl.mergeSort fun x y=>decide (x≤y)]) (k+1):=by
 have hnd:=Vg.1 h.nd
 have hflat:(cs++[cl.mergeSort fun x y=>decide (x≤y)]).flatten=cs.flatten++cl.mergeSort (fun x y=>decide (x≤y)):=sM
 have hclos:∀x∈cl,∀y∈l,(r x y=true∨r y x=true)→y∈cl:=fun x hx y hy hr=>by
  obtain ⟨j,hj⟩:=XF hx;have:=h.did j x (by have:=Ze hj;omega) hj y hy hr;rcases (h.tkm y).1 this with h1|h1
  · obtain ⟨c,hc,hyc⟩:=XN.1 h1;have hxc:=hP.clos c hc y hyc x (h.sub x hx) hr.symm;exact UB rfl (hnd.2.2 x (XN.2 ⟨c,hc,hxc⟩) x hx)
  · exact h1
 have hleast:∀z∈cl,first≤z:=fun z hz=>by
  obtain ⟨j,hj⟩:=XF (h.sub z hz);rcases VL j k with h1|h1|h1
  · have:=hP.did j z h1 hj;exact UB rfl (hnd.2.2 z this z hz)
  · subst h1;rw [hk] at hj;cases hj;omega
  · have:=XX.1 hl k j (Ze hk) (Ze hj) h1;have e1:=(Xh.1 hk).2;have e2:=(Xh.1 hj).2;rw [e1,e2] at this;omega
 have hasc:=H8 hnd.2.1
 have hhead:∀x,(cl.mergeSort fun x y=>decide (x≤y)).head? =some x→x=first:=fun x hx=>by
  have hm:x∈cl:=Ww.1 (List.mem_of_mem_head? hx);have hf:first∈cl.mergeSort fun x y=>decide (x≤y):=Ww.2 h.fst
  have:=hleast x hm
  cases hs:cl.mergeSort (fun x y=>decide (x≤y)) with
  |nil=>rw [hs] at hx;cases hx
  | cons a t=>
    rw [hs] at hx hf hasc;simp at hx;subst hx;rw [XB] at hasc;rcases Xn.1 hf with e|e
    · exact e.symm
    · have:=hasc.1 first e;omega
 refine ⟨fun x hx=>?_,fun j x hj hx=>?_,?_,fun c hc=>?_,fun c hc=>?_,fun c hc x hx y hy=>?_,fun c hc x hx y hy hr=>?_,?_,fun c hc x hx=>?_⟩
 · rw [hflat,Xv,Ww] at hx;rcases hx with hx|hx
   · exact hP.sub x hx
   · exact h.sub x hx
 · rw [hflat,Xv,Ww];by_cases e:j=k
   · subst e;rw [hk] at hx;cases hx;exact .inr h.fst
   · exact .inl (hP.did j x oM hx)
 · rw [hflat,Vg];exact ⟨hP.nd,(Vq cl _).nodup_iff.2 hnd.2.1,fun a ha b hb=>hnd.2.2 a ha b (Ww.1 hb)⟩
 · rcases Xv.1 hc with hc|hc
   · exact hP.ne c hc
   · simp at hc;subst hc;intro e;have:=(Ww (cl:=cl)).2 h.fst;rw [e] at this;simp at this
 · rcases Xv.1 hc with hc|hc
   · exact hP.asc c hc
   · simp at hc;subst hc;exact hasc
 · rcases Xv.1 hc with hc|hc
   · exact hP.conn c hc x hx y hy
   · simp at hc;subst hc;exact (h.con x (Ww.1 hx)).symm.trans (h.con y (Ww.1 hy))
 · rcases Xv.1 hc with hc|hc
   · exact hP.clos c hc x hx y hy hr
   · simp at hc;subst hc;exact Ww.2 (hclos x (Ww.1 hx) y hy hr)
 · rw [List.pairwise_append];refine ⟨hP.ord,sM,fun c hc d hd x y hx hy=>?_⟩;simp at hd;subst hd;obtain ⟨j,hj,e⟩:=hP.hd c hc x hx;rw [hhead y hy];have:=XX.1 hl j k (Ze e) (Ze hk) hj;rw [(Xh.1 e).2,(Xh.1 hk).2] at this;exact this
 · rcases Xv.1 hc with hc|hc
   · obtain ⟨j,hj,e⟩:=hP.hd c hc x hx;exact ⟨j,oM,e⟩
   · simp at hc;subst hc;rw [hhead x hx];exact ⟨k,oM,hk⟩
end Go.Cb
namespace Go.En
open Go.RowKit Go.Cb Go.Proofs Go.Sort
set_option linter.all false
def ζp (P:Program) (fs g k:Nat):Prop:=∀{α:Type} [Inhabited α] (enc:α→List Value),(∀x,(enc x).length=k)→(∀x,∀v∈enc x,v.oneCell'=true)→∀(cf:α→α→Int),SWO (ltOf cf)→∀(blk cap:Nat) (d:Array α) (w:World),
 CmpLays P g #[] enc k cf blk 0 d.size w→HoldsK enc k w blk 0 d→blk<w.heap.size→d.size<4611686018427387904→
 Calls P fs #[.slice (some ⟨blk,0,none⟩) d.size cap, .func (.func g) #[] #[]] w fun e w'=>e= .returned (.tuple #[])∧∃d' n os,PermIn 0 d.size d d'∧SortedIn (ltOf cf) 0 d.size d'∧w'=sortWorldK enc k w blk 0 n d' os
theorem Zcu {α:Type} [Inhabited α] (enc:α→List Value) (k:Nat) (w:World) (blk m:Nat) (d:Array α) (os:Array Obj):Chg (fun b=>b=blk) w (sortWorldK enc k w blk 0 m d os):=by
 refine ⟨rfl,rfl,rfl,?_,fun i hi hne=>?_⟩
 · simp [sortWorldK,grow,putRowK,putRow,mapBlock,ahead]
 · have:(sortWorldK enc k w blk 0 m d os).heap=(w.heap.modify blk (onCells (putCells id 0 (flatK enc k d))))++os:=rfl;rw [this,Vo (by simpa using hi),VW,Uz (fun e=>hne e.symm)]
theorem Ze5 {α:Type} [Inhabited α] (enc:α→List Value) (k:Nat) (w:World) (blk m:Nat) (d:Array α) (os:Array Obj) {cur:Array Value} {e:TypeId} (h:w.heap[blk]? =some (.cells cur e (0,0))):
 (sortWorldK enc k w blk 0 m d os).heap[blk]? =some (.cells (putCells id 0 (flatK enc k d) cur) e (0,0)):=by
 have hlt:=Wo h
 have:(sortWorldK enc k w blk 0 m d os).heap=(w.heap.modify blk (onCells (putCells id 0 (flatK enc k d))))++os:=rfl
 rw [this,Vo (by simpa using hlt),VW,UA rfl,h]
 rfl
theorem Zcv (f cur:Array Value) (h:f.size≤cur.size):(putCells id 0 f cur).toList.take f.size=f.toList:=by
 apply VI
 intro j
 by_cases hj:j<f.size
 · rw [X6 hj];have hjc:j<cur.size:=oM;simp [putCells,hj,hjc]
 · rw [X8 (by simp;omega),X8 (by simp;omega)]
section
variable {P:Program} {c:Ctx} {ops:Array Oper} {Q:Exit→Act→World→Prop} {rest:List Oper} {sL hP:List (Nat×Ent)} {o:Oper}
theorem DV {β:Type} {fs g k e d l:Nat} {f:β→List PV} {cmp:β→β→Int} {rows:List β} {h:Value} {q q':PV} {x y:Operand} {ats:Array TypeId} (hS:ζp P fs g k) (hf:∀x,(f x).length=k) (hk:0<k) (hsh:∀x,(f x).all (fun p=>KM p&&one p)=true)
 (hirr:∀a,¬cmp a a<0) (htr:∀a b c,cmp a b<0→cmp b c<0→cmp a c<0) (hnt:∀a b c,¬cmp a b<0→¬cmp b c<0→¬cmp a c<0)
 (hcmp:∀(x y:β) (M:BS) (W:World) (u v:Value),x∈rows→y∈rows→Shr M W u (.agg (f x))→Shr M W v (.agg (f y))→Calls P g #[u,v] W fun e w'=>e= .returned (.int .i64 (cmp x y))∧∃q os',w'=grow (W.drewN q) os')
 (hn:0<rows.length) (hn2:rows.length<4611686018427387904)
 (hw:ZK ops sL o=some true) (hd:o.dst=some d) (hdn:d<c.nt) (ho:o.op= .call {callee:= .value (.func fs),args:= #[x,y],argTypes:=ats}) (hc:∀args w,(callFunc fs args).run P w= .ok (.enter fs args) w) (hx:ev sL x=some (h,q)) (hy:ev sL y=some (.func (.func g) #[] #[],q')) (hl:lk hP l=some (h, .own e k rows.length (rows.flatMap f)))
 (kk:∀rows':List β,rows'.Perm rows→(∀(i j:Nat) (a b:β),i<j→rows'[i]? =some a→rows'[j]? =some b→¬cmp b a<0)→aL P c ops Q rest ⟨put d (.tuple #[], .val (.tuple #[])) sL,put l (h, .own e k rows.length (rows'.flatMap f)) hP⟩):aL P c ops Q (o::rest) (⟨sL,hP⟩:St):=
 YH hw fun a w F H=>by
  have hxv:=(H.rd.ev hx).1;have hyv:=(H.rd.ev hy).1;have hTr:=H.tr l _ _ hl;obtain ⟨xs,Fs,hrow,hlen,hT,hdj,hb,hF⟩:=hTr.row;obtain ⟨blk,cap,hh,hc1,hc2,hc3⟩:=Kq hTr hn;have hfl:=YC hf rows;have hblkF:F l blk:=(hF blk).2 (.inl (by rw [hh];rfl));have hblkM:mof c hP F blk:= .inr ⟨l,_,hl,hblkF⟩;haveI:Inhabited (Fin rows.length):=⟨⟨0,hn⟩⟩
  let enc:Fin rows.length→List Value:=fun i=>(xs.drop (i.1*k)).take k;have hxl:xs.length=rows.length*k:=oM;have henc:∀i:Fin rows.length,(enc i).length=k:=fun i=>by
   have h1:(i.1+1)*k≤rows.length*k:=Vw k i.2;rw [Vf,Nat.one_mul] at h1;simp [enc];omega
  have hget:∀(i:Fin rows.length) (j:Nat),j<k→(enc i)[j]? =xs[i.1*k+j]? :=fun i j hj=>by
   simp only [enc];rw [X6 hj,VE]
  have hrd:∀(i:Fin rows.length) (j:Nat) (v:Value) (p:PV),(enc i)[j]? =some v→(f rows[i.1])[j]? =some p→Shr (mof c hP F) w v p∧KM p=true∧one p=true:=fun i j v p hv hp=>by
   have hj:j<k:=by rw [←hf];exact Ze hp
   rw [hget i j hj] at hv;have hp2:(rows.flatMap f)[i.1*k+j]? =some p:=by rw [Wm hf (Xx i.2) hj];exact hp
   have:=Xf.1 (hsh rows[i.1]) p (Xb hp);rw [Xd] at this;exact ⟨(hT _ v p hv hp2).sh this.1,this.1,this.2⟩
  have hone:∀(i:Fin rows.length),∀v∈enc i,v.oneCell'=true:=fun i v hv=>by
   obtain ⟨j,hj,rfl⟩:=VD hv;have hjk:j<k:=by rw [←henc i];exact hj
   obtain ⟨p,hp⟩:=Z6 (show j<(f rows[i.1]).length by rw [hf];exact hjk);obtain ⟨h1,_,h3⟩:=hrd i j _ p (Xx hj) hp;exact h1.one h3
  let cf:Fin rows.length→Fin rows.length→Int:=fun i j=>cmp rows[i.1] rows[j.1];have hO:SWO (ltOf cf):=⟨fun i=>Uy (hirr _),fun i j m h1 h2=>Ux (htr _ _ _ (UC h1) (UC h2)),fun i j m h1 h2=>Uy (hnt _ _ _ (UD h1) (UD h2))⟩;let ds:Array (Fin rows.length):=Array.ofFn id;have hds:ds.size=rows.length:=by simp [ds]
  have hdg:∀j (hj:j<rows.length),ds[j]! =⟨j,hj⟩:=fun j hj=>by simp [ds,hj]
  have hagg:∀(i:Fin rows.length) (W:World),Chg (fun b=>b=blk) w W→Shr (mof c hP F) W (.agg (enc i).toArray) (.agg (f rows[i.1])):=fun i W hW=>by
   refine .agg _ _ (by rw [henc,hf]) fun j v p hv hp=>?_;exact (hrd i j v p hv hp).1.to hW (fun b _ hb=>by rw [hb];exact hblkM) (fun _ _ h=>h)
  have hcl:CmpLays P g #[] enc k cf blk 0 ds.size w:=fun m os dk _ i j=>by
   have hW:=Zcu enc k w blk m dk os;exact hcmp rows[i.1] rows[j.1] _ _ _ _ (VS _) (VS _) (hagg i _ hW) (hagg j _ hW)
  have hHold:HoldsK enc k w blk 0 ds:=fun t ht=>by
   rw [size_flatK,hds] at ht;have hdiv:t / k<rows.length:=by rw [Ug hk];exact ht
   have hmod:t % k<k:=Nat.mod_lt _ hk;have he:t / k*k+t % k=t:=by rw [VJ];exact VV _ _
   rw [get_flatK _ _ _ _ (by rw [hds];exact ht),hdg _ hdiv];have hg2:=hget ⟨t / k,hdiv⟩ (t % k) hmod;simp only at hg2;rw [he] at hg2;obtain ⟨v,hv⟩:=Z6 (show t<xs.length by omega);rw [hv] at hg2;have hrow':=hrow;rw [hh] at hrow';refine ⟨?_,by rw [Xy];exact hrow'.frozenAt t⟩;rw [Xy,WC hrow' hv];have:(enc ⟨t / k,hdiv⟩)[t % k]! =v:=by
    rw [getElem!_def,hg2]
   rw [id,this]
  have hcall:=hS enc henc hone cf hO blk cap ds w hcl hHold hc3 (by rw [hds];exact hn2);rw [hds] at hcall;unfold Oper.wp;have hrun:(execOp a.eval o).run P w= .ok (.enter fs #[h, .func (.func g) #[] #[]]) w:=by
   have hev:a.eval (.func fs)= .func (.func fs) #[] #[]:=rfl;simp [execOp,ho,resolve,Deferred.ofValue,hev,invoke,hxv,hyv,hc]
  rw [hrun,Oper.upon_enter,hh];refine hcall.mono fun e' w' ⟨he',d',m,os,hperm,hsorted,hw'⟩=>?_;subst he';have hd's:d'.size=rows.length:=by rw [hperm.1,hds]
  have hpl:d'.toList.Perm ds.toList:=by
   have h2:=hperm.2.2;have e1:(ds.extract 0 rows.length).toList=ds.toList:=by
    rw [Uj];simp only [Uk,Va,Vv];exact XV (by rw [X4,hds];exact Xg _)
   have e2:(d'.extract 0 rows.length).toList=d'.toList:=by
    rw [Uj];simp only [Uk,Va,Vv];exact XV (by rw [X4,hd's];exact Xg _)
   rw [e1,e2] at h2;exact h2
  let rows':List β:=d'.toList.map fun i=>rows[i.1];have hr's:rows'.length=rows.length:=by simp [rows',hd's]
  have hdl:ds.toList.map (fun i:Fin rows.length=>rows[i.1])=rows:=by
   apply List.ext_getElem
   · simp [ds]
   · intro j h1 h2;simp [ds]
  have hrp:rows'.Perm rows:=by
   have:=hpl.map fun i:Fin rows.length=>rows[i.1];rw [hdl] at this;exact this
  have hat:∀j (hj:j<rows.length),∃i:Fin rows.length,d'[j]! =i∧rows'[j]? =some rows[i.1]:=fun j hj=>by
   have hj':j<d'.size:=oM;refine ⟨d'[j],by simp [hj'],?_⟩;simp [rows',hj']
  rw [hd];refine kk rows' hrp (fun i j x y hij hx' hy'=>?_) _ _ ⟨fun l'=>if l'=l then (fun b=>b=blk) else F l',?_⟩
  · (have hjl:j<rows.length:=by have:=Ze hy';omega);obtain ⟨i1,h1,h2⟩:=hat i oM;obtain ⟨j1,h3,h4⟩:=hat j hjl;rw [h2] at hx';cases hx';rw [h4] at hy';cases hy';have h5:=hsorted i j (XA _) hij hjl;rw [h1,h3] at h5;simpa [ltOf,cf] using h5
  · have hch0:=Zcu enc k w blk m d' os;rw [←hw'] at hch0;refine H.change (fun l'=>l'=l) hdn (hch0.wid fun b hb'=> .inl ⟨l,_,rfl,hl,by rw [hb'];exact hblkF⟩) (fun l' z hne hz=>?_) (fun l' z b hT' hz hb'=>?_) (fun hmm l' u p hT' hz=>?_) (fun l1 l2 _ _ _ h1 h2 hne=>UB (h1.trans h2.symm) hne) (fun _=> .val _) (fun _=>by rw [hw'];exact Ul _ _)
    · rcases Z0 hz with ⟨e1,_⟩|⟨_,e1⟩
      · exact UB e1.symm hne
      · exact ⟨e1,by simp [hne]⟩
    · subst hT';simp only [if_true] at hb';exact .inl ⟨l',_,rfl,hl,by rw [hb'];exact hblkF⟩
    · subst hT';rw [ZD] at hz
      cases hz;simp only [if_true];rcases hrow.2 with ⟨e1,_⟩|⟨g',cap',cur,e1,_,e3,e4,e5,e6,e7⟩
      · rw [hh] at e1;cases e1
      · rw [hh] at e1
        cases e1;(have hfs:(flatK enc k d').size=rows.length*k:=by rw [size_flatK,hd's]);refine .own (flatK enc k d').toList (fun _ _=>False) ⟨by rw [X4,hfs], .inr ⟨blk,cap,putCells id 0 (flatK enc k d') cur,hh,XA _,by rw [hw'];exact Ze5 enc k w blk m d' os e3,e4,e5,by simp [putCells];exact e6,?_⟩⟩ ((YC hf rows').trans ((congrArg (· *k) hr's).trans ((X4 (xs:=flatK enc k d')).trans hfs).symm)) (fun t v p hv hp=>?_) (fun _ _ _ _ _ _ h=>h.elim) (fun _ _ _ h=>h.elim) (fun b=>by rw [hh];simp [Value.ownBlock,eq_comm])
        · rw [←hfs];exact Zcv _ _ (by rw [hfs,e6];exact Vw k e4)
        · (have ht:t<rows.length*k:=by have:=Ze hv;rw [X4,hfs] at this;exact this);(have hdiv:t / k<rows.length:=by rw [Ug hk];exact ht);have hmod:t % k<k:=Nat.mod_lt _ hk;(have he:t / k*k+t % k=t:=by rw [VJ];exact VV _ _);obtain ⟨i1,h1,h2⟩:=hat (t / k) hdiv;have hp2:=Wm hf h2 hmod;rw [he,hp] at hp2;have hv2:v=(enc i1)[t % k]! :=by
           have h3:=get_flatK enc k d' t (by rw [hd's];exact ht);rw [h1] at h3;rw [←h3,getElem!_def,←VM,hv]
          (have hlt:t % k<(enc i1).length:=by rw [henc];exact hmod);have hv3:(enc i1)[t % k]? =some v:=by
           rw [hv2,getElem!_def,Xx hlt]
          exact .shr ((hrd i1 (t % k) v p hv3 hp2.symm).1.to (hch0.wid (N:=fun b=>b=blk) fun b hb'=> .inl hb') (fun b _ hb'=>by rw [hb'];exact hblkM) hmm) (fun _ h=>h)
end
open Go.RowKit Go.Cb
section
variable {P:Program} {c:Ctx} {ops:Array Oper} {Q:Exit→Act→World→Prop} {rest:List Oper} {st:St} {sL hP:List (Nat×Ent)} {o:Oper}
theorem ZdZ {w:World} {e k n m:Nat} {h:Value} {xs:List Value} (hrow:w.ownsRow 0 e k h n xs) (hm:m≤n):w.ownsRow 0 e k (slc h 0 m k) m (xs.take (m*k))∧(slc h 0 m k).ownBlock=h.ownBlock:=by
 rcases hrow.2 with ⟨rfl,rfl⟩|⟨g,cap,cur,rfl,hg,hh,h1,h2,h3,h4⟩
 · obtain rfl:m=0:=oM;refine ⟨⟨sM, .inl ⟨by simp [slc],rfl⟩⟩,by simp [slc]⟩
 · have hs:slc (.slice (some ⟨g,0,none⟩) n cap) 0 m k= .slice (some ⟨g,0,none⟩) m cap:=by
    simp only [slc,Vr,Option.map_some,Y3,VT,Vv,ite_self]
   rw [hs];refine ⟨⟨?_, .inr ⟨g,cap,cur,rfl,hg,hh,oM,h2,h3,?_⟩⟩,rfl⟩
   · rw [XW,hrow.1];exact Ua (Vw k hm)
   · rw [←h4,List.take_take,Ua (Vw k hm)]
theorem Zf3 {l e k n:Nat} {h:Value} {cs:List PV} (m:Nat) (hl:lk hP l=some (h, .own e k n cs)) (hm:m≤n):Ge (⟨sL,hP⟩:St) (fun _:Unit=>⟨sL,put l (slc h 0 m k, .own e k m (cs.take (m*k))) hP⟩):=fun c a w ⟨F,H⟩=>by
 have hTr:=H.tr l _ _ hl
 obtain ⟨xs,Fs,hrow,hlen,hT,hd,hb,hF⟩:=hTr.row
 obtain ⟨hrow',hown⟩:=ZdZ hrow hm
 refine ⟨(),fun x=>if x=l then (fun b=>h.ownBlock=some b∨∃i,i<(cs.take (m*k)).length∧Fs i b) else F x,?_⟩
 have hle:(cs.take (m*k)).length≤cs.length:=by rw [XW];exact Nat.min_le_right _ _
 refine H.retell (fun x=>x=l) (fun x y hnT hx=>?_) (fun x y b hTx hx hb'=>?_) (fun hmm x u q hTx hx=>?_) (fun x1 x2 y1 y2 b h1 h2 hne'=>UB (h1.trans h2.symm) hne')
 · have n1:x≠l:=hnT;rw [ZU (Ne.symm n1)] at hx;exact ⟨hx,by simp [n1]⟩
 · subst hTx;simp only [if_true] at hb';refine ⟨x,_,rfl,hl,(hF b).2 ?_⟩;rcases hb' with h1|⟨i,hi,h1⟩
   · exact .inl h1
   · exact .inr ⟨i,oM,h1⟩
 · subst hTx;rw [ZD] at hx
   cases hx;simp only [if_true];refine .own _ Fs hrow' (by rw [XW,XW,hlen]) (fun i x p hx9 hp=>?_) (fun i j b hi hj=>hd i j b oM oM) (fun i b hi h1 h2=>hb i b oM h1 (by rw [←hown];exact h2)) (fun b=>by rw [hown]);have hi:i<m*k:=by have:=Ze hx9;rw [XW] at this;omega
   rw [X6 hi] at hx9 hp;exact (hT i x p hx9 hp).anti hmm
theorem DW {t e kk bytes n m:Nat} {z:Value} {x y:Operand} {h v2:Value} {q:PV} {cs cs2:List PV} (l d:Nat) (hT:ElT P t e kk bytes z) (k:∀h':Value,h'.oneCell'=true→aL P c ops Q rest ⟨put d (h', .val h') sL,put d (h', .own e kk (n+m) (cs++cs2)) (del l hP)⟩)
 (hlen2:cs2.length=m*kk:=by first|assumption|exact rfl) (hok:cs2.all one=true:=by first|assumption|exact rfl) (hw:ZK ops sL o=some true:=by exact rfl) (hd:o.dst=some d:=by exact rfl) (hn:d<c.nt:=by exact Xa rfl) (ho:o.op= .call {callee:= .builtin .append,args:= #[x,y],argTypes:= #[t,t]}:=by exact rfl)
 (hx:ev sL x=some (h,q):=by exact rfl) (hy:ev sL y=some (v2, .sl m cs2):=by exact rfl) (hl:lk hP l=some (h, .own e kk n cs):=by exact rfl) (hdl:lk (del l hP) d=none:=by exact rfl) (hlen:n+m≤9223372036854775807:=by first|omega|exact Xa rfl|(simp only [Xi,Xr,Xc,Xj,Xe,Xw,Xo,Xq,Xz];omega)) (hb:(n+m)*bytes≤140737488355328:=by first|omega|exact Xa rfl|(simp only [Xi,Xr,Xc,Xj,Xe,Xw,Xo,Xq,Xz];omega)) (hdr:¬c.dr:=by exact id):aL P c ops Q (o::rest) (⟨sL,hP⟩:St):=fun a w ⟨F,H⟩=>by
 have h1:h.oneCell'=true:=(H.tr l _ _ hl).cellOne rfl
 rcases Vx m with h0|h0
 · subst h0;have:cs2=[]:=XC (by rw [hlen2,Vr]);subst this;refine ZdI l d hT hw hd hn ho hx hy hl (Yg (Yb d hl hdl) fun _=>?_) a w ⟨F,H⟩;have:=k h h1;rw [Xu] at this;exact this
 · exact E0 l d hT hw hd hn ho hx hy hl (ZdH hy h0) hlen2 hdl hok hlen hb hdr k a w ⟨F,H⟩
end
def ZeD (P:Program) (fs:Nat):Prop:=∀(blk cap:Nat) (zs:List Int) (w:World),Go.Sort.Holds (Value.int .i64) w blk 0 zs.toArray→blk<w.heap.size→zs.length<4611686018427387904→
 Calls P fs #[.slice (some ⟨blk,0,none⟩) zs.length cap] w fun e w'=>e= .returned (.tuple #[])∧∃n os,w'=grow (putRow (Value.int .i64) (Go.Sort.ahead w n) blk 0 (zs.mergeSort fun x y=>decide (x≤y)).toArray) os
section
variable {P:Program} {c:Ctx} {ops:Array Oper} {Q:Exit→Act→World→Prop} {rest:List Oper} {sL hP:List (Nat×Ent)} {o:Oper}
theorem ON {α:Type} [Inhabited α] (enc:α→Value) (f:Array α) (cur:Array Value) (h:f.size≤cur.size):(putCells enc 0 f cur).toList.take f.size=f.toList.map enc:=by
 apply VI
 intro j
 by_cases hj:j<f.size
 · rw [X6 hj];have hjc:j<cur.size:=oM;simp [putCells,hj,hjc]
 · rw [X8 (by simp;omega),X8 (by simp;omega)]
theorem DX {fs e d:Nat} {zs:List Int} {h:Value} {q:PV} {x:Operand} {ats:Array TypeId} (l:Nat) (hS:ZeD P fs) (hc:∀args w,(callFunc fs args).run P w= .ok (.enter fs args) w)
 (kk:aL P c ops Q rest ⟨put d (.tuple #[], .val (.tuple #[])) sL,put l (h, .own e 1 zs.length ((zs.mergeSort fun x y=>decide (x≤y)).map Zg)) hP⟩)
 (hn:0<zs.length) (hn2:zs.length<4611686018427387904:=by omega) (hw:ZK ops sL o=some true:=by exact rfl) (hd:o.dst=some d:=by exact rfl) (hdn:d<c.nt:=by exact Xa rfl) (ho:o.op= .call {callee:= .value (.func fs),args:= #[x],argTypes:=ats}:=by exact rfl) (hx:ev sL x=some (h,q):=by exact rfl) (hl:lk hP l=some (h, .own e 1 zs.length (zs.map Zg)):=by exact rfl):aL P c ops Q (o::rest) (⟨sL,hP⟩:St):=
 YH hw fun a w F H=>by
  have hxv:=(H.rd.ev hx).1;have hTr:=H.tr l _ _ hl;obtain ⟨xs,Fs,hrow,hlen,hT,hdj,hb,hF⟩:=hTr.row;obtain ⟨blk,cap,hh,hc1,hc2,hc3⟩:=Kq hTr hn;have hblkF:F l blk:=(hF blk).2 (.inl (by rw [hh];rfl));have hxs:∀(j:Nat) (v:Value),xs[j]? =some v→∃z,zs[j]? =some z∧v= .int .i64 z:=fun j v hv=>by
   obtain ⟨p,hp⟩:=Yh hv hlen.symm;have h1:=hp;rw [Xl,XQ] at h1;obtain ⟨z,hz,rfl⟩:=h1;exact ⟨z,hz,((hT j v _ hv hp).sh rfl).vOf⟩
  have hHold:Go.Sort.Holds (Value.int .i64) w blk 0 zs.toArray:=fun j hj=>by
   simp only [Uc] at hj;have hrow':=hrow;rw [hh] at hrow';obtain ⟨v,hv⟩:=Z6 (show j<xs.length by rw [←hlen,Xc];exact hj);obtain ⟨z,hz,rfl⟩:=hxs j v hv;refine ⟨?_,by rw [Xy];exact hrow'.frozenAt j⟩;rw [Xy,WC hrow' hv];have:zs.toArray[j]! =z:=by
    have hz':=(Xh.1 hz).2;simp [hj,hz']
   rw [this]
  have hcall:=hS blk cap zs w hHold hc3 hn2;unfold Oper.wp;have hrun:(execOp a.eval o).run P w= .ok (.enter fs #[h]) w:=by
   have hev:a.eval (.func fs)= .func (.func fs) #[] #[]:=rfl;simp [execOp,ho,resolve,Deferred.ofValue,hev,invoke,hxv,hc]
  rw [hrun,Oper.upon_enter,hh];refine hcall.mono fun e' w' ⟨he',m,os,hw'⟩=>?_;subst he';have hsl:(zs.mergeSort fun x y=>decide (x≤y)).length=zs.length:=VN _;generalize hsd:(zs.mergeSort fun x y=>decide (x≤y))=sd at hsl hw' kk;have hch0:Chg (fun b=>b=blk) w w':=by
   rw [hw'];refine ⟨rfl,rfl,rfl,?_,fun i hi hne=>?_⟩
   · simp [grow,putRow,mapBlock,Go.Sort.ahead]
   · have:(grow (putRow (Value.int .i64) (Go.Sort.ahead w m) blk 0 sd.toArray) os).heap=(w.heap.modify blk (onCells (putCells (Value.int .i64) 0 sd.toArray)))++os:=rfl;rw [this,Vo (by simpa using hi),VW,Uz (fun e=>hne e.symm)]
  rw [hd];refine kk _ _ ⟨fun l'=>if l'=l then (fun b=>b=blk) else F l',?_⟩;refine H.change (fun l'=>l'=l) hdn (hch0.wid fun b hb'=> .inl ⟨l,_,rfl,hl,by rw [hb'];exact hblkF⟩) (fun l' z hne hz=>?_) (fun l' z b hT' hz hb'=>?_) (fun hmm l' u p hT' hz=>?_) (fun l1 l2 _ _ _ h1 h2 hne=>UB (h1.trans h2.symm) hne) (fun _=> .val _) (fun _=>by rw [hw'];exact Ul _ _)
  · rcases Z0 hz with ⟨e1,_⟩|⟨_,e1⟩
    · exact UB e1.symm hne
    · exact ⟨e1,by simp [hne]⟩
  · subst hT';simp only [if_true] at hb';exact .inl ⟨l',_,rfl,hl,by rw [hb'];exact hblkF⟩
  · subst hT';rw [ZD] at hz
    cases hz;simp only [if_true];rcases hrow.2 with ⟨e1,_⟩|⟨g',cap',cur,e1,_,e3,e4,e5,e6,e7⟩
    · rw [hh] at e1;cases e1
    · rw [hh] at e1
      cases e1;have hlt:=Wo e3;refine .own (sd.map (Value.int .i64)) (fun _ _=>False) ⟨by rw [Xc,hsl,XL], .inr ⟨blk,cap,putCells (Value.int .i64) 0 sd.toArray cur,hh,XA _,?_,e4,e5,by simp [putCells];omega,?_⟩⟩ sM (fun t v p hv hp=>?_) (fun _ _ _ _ _ _ h=>h.elim) (fun _ _ _ h=>h.elim) (fun b=>by rw [hh];simp [Value.ownBlock,eq_comm])
      · rw [hw'];have:(grow (putRow (Value.int .i64) (Go.Sort.ahead w m) blk 0 sd.toArray) os).heap=(w.heap.modify blk (onCells (putCells (Value.int .i64) 0 sd.toArray)))++os:=rfl;rw [this,Vo (by simpa using hlt),VW,UA rfl,e3];rfl
      · have:=ON (Value.int .i64) sd.toArray cur (by simp only [Uc];rw [hsl,e6];omega);simp only [Uc] at this;rw [XL,←hsl];exact this
      · rw [Xl,XQ] at hv hp;obtain ⟨z,hz,rfl⟩:=hv;obtain ⟨z',hz',rfl⟩:=hp;rw [hz] at hz';cases hz';exact .shr (.val _) (fun _ h=>h)
end
theorem Zcw {w w':World} (h:Ext w w') (hd:w.drawn≤w'.drawn):∃q os',w'=Go.Sort.grow (w.drewN q) os':=by
 refine ⟨w'.drawn-w.drawn,w'.heap.extract w.heap.size w'.heap.size,?_⟩
 have hh:w'.heap=w.heap++w'.heap.extract w.heap.size w'.heap.size:=by
  apply Array.ext_getElem?;intro i;rcases XY i w.heap.size with hi|hi
  · rw [Vo hi];exact Below.block h i hi
  · rw [Array.getElem?_append_right hi,Array.getElem?_extract];have hs:=h.size;rcases XY i w'.heap.size with hi2|hi2
    · rw [UA (by simp;omega),show w.heap.size+(i-w.heap.size)=i by omega]
    · rw [VB hi2,Uz (by simp;omega)]
 have h1:=h.os
 have h2:=h.tape
 have h3:=h.output
 cases w' with
 | mk heap' tape' drawn' os' output'=>
   simp only at h1 h2 h3 hh hd;simp only [Go.Sort.grow,World.drewN];rw [←hh,h1,h2,h3,show w.drawn+(drawn'-w.drawn)=drawn' by omega]
theorem AFg.exact {P:Program} {g:Nat} {ps:List PV} {x:Value} (h:AFg P g ps (· = .val x)) {M:BS} {W:World} {vs:List Value} (hl:vs.length=ps.length) (hv:∀(i:Nat) (v:Value) (p:PV),vs[i]? =some v→ps[i]? =some p→Shr M W v p):
 Calls P g vs.toArray W fun e w'=>e= .returned x∧∃q os',w'=Go.Sort.grow (W.drewN q) os':=
 (h (fun _=>False) W vs (M0k.true W) hl (fun i v p h1 h2=>(hv i v p h1 h2).anti fun _ _ h=>h.elim)).mono fun e w' ⟨v,p,F,h1,h2,h3,h4,_,h6⟩=>by
   subst h2;have:=(h4.sh rfl).vOf;subst this;exact ⟨h1,Zcw h3 (h6 trivial)⟩
section
variable {P:Program} {c:Ctx} {ops:Array Oper} {Q:Exit→Act→World→Prop} {rest:List Oper} {sL hP:List (Nat×Ent)} {o:Oper}
def Ct (P:Program) (fs g:Nat):Prop:=∀{α:Type} [Inhabited α] (enc:α→Value),OneCell enc→∀(cf:α→α→Int),SWO (ltOf cf)→∀(cb:Array Value) (blk cap:Nat) (d:Array α) (w:World),
 CmpLays1 P g cb enc cf blk 0 d.size w→Go.Sort.Holds enc w blk 0 d→blk<w.heap.size→d.size<4611686018427387904→
 Calls P fs #[.slice (some ⟨blk,0,none⟩) d.size cap, .func (.func g) #[] cb] w fun e w'=>e= .returned (.tuple #[])∧∃d' n os,PermIn 0 d.size d d'∧SortedIn (ltOf cf) 0 d.size d'∧w'=sortWorld enc w blk 0 n d' os
theorem Py {α:Type} [Inhabited α] (enc:α→Value) (w:World) (blk m:Nat) (d:Array α) (os:Array Obj):(sortWorld enc w blk 0 m d os).heap=(w.heap.modify blk (onCells (putCells enc 0 d)))++os:=rfl
theorem ζq {α:Type} [Inhabited α] (enc:α→Value) (w:World) (blk m:Nat) (d:Array α) (os:Array Obj):Chg (fun b=>b=blk) w (sortWorld enc w blk 0 m d os):=by
 refine ⟨rfl,rfl,rfl,?_,fun i hi hne=>?_⟩
 · rw [Py];simp
 · rw [Py,Vo (by simpa using hi),VW,Uz (fun e=>hne e.symm)]
theorem Zd0 {α:Type} [Inhabited α] (enc:α→Value) (w:World) (blk m:Nat) (d:Array α) (os:Array Obj) {cur:Array Value} {e:TypeId} (h:w.heap[blk]? =some (.cells cur e (0,0))):
 (sortWorld enc w blk 0 m d os).heap[blk]? =some (.cells (putCells enc 0 d cur) e (0,0)):=by
 have hlt:=Wo h
 rw [Py,Vo (by simpa using hlt),VW,UA rfl,h]
 rfl
theorem ζr {β:Type} {fs g e d:Nat} {f:β→PV} {cmp:β→β→Int} {rows:List β} {h fv:Value} {caps:List PV} {q:PV} {x y:Operand} {ats:Array TypeId} (l:Nat) (hS:Ct P fs g) (hc:∀args w,(callFunc fs args).run P w= .ok (.enter fs args) w) (hsh:∀x,(KM (f x)&&one (f x))=true)
 (hirr:∀a,¬cmp a a<0) (htr:∀a b c,cmp a b<0→cmp b c<0→cmp a c<0) (hnt:∀a b c,¬cmp a b<0→¬cmp b c<0→¬cmp a c<0)
 (hcmp:∀x∈rows,∀y∈rows,AFg P g (f x::f y::caps) (· = .val (.int .i64 (cmp x y)))) (hn:0<rows.length) (hn2:rows.length<4611686018427387904)
 (kk:∀rows':List β,rows'.Perm rows→(∀(i j:Nat) (a b:β),i<j→rows'[i]? =some a→rows'[j]? =some b→¬cmp b a<0)→aL P c ops Q rest ⟨put d (.tuple #[], .val (.tuple #[])) sL,put l (h, .own e 1 rows.length (rows'.map f)) hP⟩)
 (hw:ZK ops sL o=some true:=by exact rfl) (hd:o.dst=some d:=by exact rfl) (hdn:d<c.nt:=by exact Xa rfl) (ho:o.op= .call {callee:= .value (.func fs),args:= #[x,y],argTypes:=ats}:=by exact rfl) (hx:ev sL x=some (h,q):=by exact rfl) (hy:ev sL y=some (fv, .fn g caps):=by exact rfl) (hl:lk hP l=some (h, .own e 1 rows.length (rows.map f)):=by exact rfl):aL P c ops Q (o::rest) (⟨sL,hP⟩:St):=
 YH hw fun a w F H=>by
  have hxv:=(H.rd.ev hx).1;obtain ⟨hyv,hfn⟩:=H.rd.ev hy;have hTr:=H.tr l _ _ hl;obtain ⟨xs,Fs,hrow,hlen,hT,hdj,hb,hF⟩:=hTr.row;obtain ⟨blk,cap,hh,hc1,hc2,hc3⟩:=Kq hTr hn;have hblkF:F l blk:=(hF blk).2 (.inl (by rw [hh];rfl));have hblkM:mof c hP F blk:= .inr ⟨l,_,hl,hblkF⟩;have hxl:xs.length=rows.length:=by rw [←hlen,Xc]
  obtain ⟨cv,hcvl,hcv,rfl⟩:∃cv:List Value,cv.length=caps.length∧(∀(i:Nat) (v:Value) (p:PV),cv[i]? =some v→caps[i]? =some p→Shr (mof c hP F) w v p)∧fv= .func (.func g) #[] cv.toArray:=by
   cases hfn with
   |fn _ vs _ hl' hT'=>exact ⟨vs,hl',hT',rfl⟩
  haveI:Inhabited (Fin rows.length):=⟨⟨0,hn⟩⟩
  let enc:Fin rows.length→Value:=fun i=>xs[i.1]'(by rw [hxl];exact i.2);have hrd:∀(i:Fin rows.length),Shr (mof c hP F) w (enc i) (f rows[i.1])∧one (f rows[i.1])=true:=fun i=>by
   have h1:=hsh rows[i.1];rw [Xd] at h1;exact ⟨(hT i.1 _ _ (Xx _) (by rw [Xl,Xx i.2];rfl)).sh h1.1,h1.2⟩
  have hone:OneCell enc:=fun i=>(hrd i).1.one (hrd i).2;let cf:Fin rows.length→Fin rows.length→Int:=fun i j=>cmp rows[i.1] rows[j.1];have hO:SWO (ltOf cf):=⟨fun i=>Uy (hirr _),fun i j m h1 h2=>Ux (htr _ _ _ (UC h1) (UC h2)),fun i j m h1 h2=>Uy (hnt _ _ _ (UD h1) (UD h2))⟩;let ds:Array (Fin rows.length):=Array.ofFn id;have hds:ds.size=rows.length:=by simp [ds]
  have hdg:∀j (hj:j<rows.length),ds[j]! =⟨j,hj⟩:=fun j hj=>by simp [ds,hj]
  have hcl:CmpLays1 P g cv.toArray enc cf blk 0 ds.size w:=fun m os dk _ i j=>by
   have hW:=ζq enc w blk m dk os;have key:∀{v:Value} {p:PV},Shr (mof c hP F) w v p→Shr (mof c hP F) (sortWorld enc w blk 0 m dk os) v p:=fun h=>h.to hW (fun b _ hb=>by rw [hb];exact hblkM) (fun _ _ h=>h);have:=(hcmp rows[i.1] (VS _) rows[j.1] (VS _)).exact (M:=mof c hP F) (W:=sortWorld enc w blk 0 m dk os) (vs:=enc i::enc j::cv) (by simp [hcvl]) (fun t v p hv hp=>by
    match t with
    |0=>simp at hv hp;subst hv hp;exact key (hrd i).1
    |1=>simp at hv hp;subst hv hp;exact key (hrd j).1
    |t+2=>exact key (hcv t v p (by simpa using hv) (by simpa using hp)))
   have e1:(#[enc i,enc j]++cv.toArray)=(enc i::enc j::cv).toArray:=sM;rw [e1];exact this
  have hHold:Go.Sort.Holds enc w blk 0 ds:=fun t ht=>by
   rw [hds] at ht;have hrow':=hrow;rw [hh] at hrow';refine ⟨?_,by rw [Xy];exact hrow'.frozenAt t⟩;rw [Xy,hdg t ht];exact WC hrow' (Xx _)
  have hcall:=hS enc hone cf hO cv.toArray blk cap ds w hcl hHold hc3 (by rw [hds];exact hn2);rw [hds] at hcall;unfold Oper.wp;have hrun:(execOp a.eval o).run P w= .ok (.enter fs #[h, .func (.func g) #[] cv.toArray]) w:=by
   have hev:a.eval (.func fs)= .func (.func fs) #[] #[]:=rfl;simp [execOp,ho,resolve,Deferred.ofValue,hev,invoke,hxv,hyv,hc]
  rw [hrun,Oper.upon_enter,hh];refine hcall.mono fun e' w' ⟨he',d',m,os,hperm,hsorted,hw'⟩=>?_;subst he';have hd's:d'.size=rows.length:=by rw [hperm.1,hds]
  have hpl:d'.toList.Perm ds.toList:=by
   have h2:=hperm.2.2;have e1:(ds.extract 0 rows.length).toList=ds.toList:=by
    rw [Uj];simp only [Uk,Va,Vv];exact XV (by rw [X4,hds];exact Xg _)
   have e2:(d'.extract 0 rows.length).toList=d'.toList:=by
    rw [Uj];simp only [Uk,Va,Vv];exact XV (by rw [X4,hd's];exact Xg _)
   rw [e1,e2] at h2;exact h2
  let rows':List β:=d'.toList.map fun i=>rows[i.1];have hr's:rows'.length=rows.length:=by simp [rows',hd's]
  have hdl:ds.toList.map (fun i:Fin rows.length=>rows[i.1])=rows:=by
   apply List.ext_getElem
   · simp [ds]
   · intro j h1 h2;simp [ds]
  have hrp:rows'.Perm rows:=by
   have:=hpl.map fun i:Fin rows.length=>rows[i.1];rw [hdl] at this;exact this
  have hat:∀j (hj:j<rows.length),∃i:Fin rows.length,d'[j]! =i∧d'.toList[j]? =some i∧rows'[j]? =some rows[i.1]:=fun j hj=>by
   have hj':j<d'.size:=oM;refine ⟨d'[j],by simp [hj'],by simp [hj'],?_⟩;simp [rows',hj']
  rw [hd];refine kk rows' hrp (fun i j x y hij hx' hy'=>?_) _ _ ⟨fun l'=>if l'=l then (fun b=>b=blk) else F l',?_⟩
  · (have hjl:j<rows.length:=by have:=Ze hy';omega);obtain ⟨i1,h1,_,h2⟩:=hat i oM;obtain ⟨j1,h3,_,h4⟩:=hat j hjl;rw [h2] at hx';cases hx';rw [h4] at hy';cases hy';have h5:=hsorted i j (XA _) hij hjl;rw [h1,h3] at h5;simpa [ltOf,cf] using h5
  · have hch0:=ζq enc w blk m d' os;rw [←hw'] at hch0;refine H.change (fun l'=>l'=l) hdn (hch0.wid fun b hb'=> .inl ⟨l,_,rfl,hl,by rw [hb'];exact hblkF⟩) (fun l' z hne hz=>?_) (fun l' z b hT' hz hb'=>?_) (fun hmm l' u p hT' hz=>?_) (fun l1 l2 _ _ _ h1 h2 hne=>UB (h1.trans h2.symm) hne) (fun _=> .val _) (fun _=>by rw [hw'];exact Ul _ _)
    · rcases Z0 hz with ⟨e1,_⟩|⟨_,e1⟩
      · exact UB e1.symm hne
      · exact ⟨e1,by simp [hne]⟩
    · subst hT';simp only [if_true] at hb';exact .inl ⟨l',_,rfl,hl,by rw [hb'];exact hblkF⟩
    · subst hT';rw [ZD] at hz
      cases hz;simp only [if_true];rcases hrow.2 with ⟨e1,_⟩|⟨g',cap',cur,e1,_,e3,e4,e5,e6,e7⟩
      · rw [hh] at e1;cases e1
      · rw [hh] at e1
        cases e1;refine .own (d'.toList.map enc) (fun _ _=>False) ⟨by rw [Xc,X4,hd's,XL], .inr ⟨blk,cap,putCells enc 0 d' cur,hh,XA _,by rw [hw'];exact Zd0 enc w blk m d' os e3,e4,e5,by simp [putCells];omega,?_⟩⟩ (by simp [rows']) (fun t v p hv hp=>?_) (fun _ _ _ _ _ _ h=>h.elim) (fun _ _ _ h=>h.elim) (fun b=>by rw [hh];simp [Value.ownBlock,eq_comm])
        · have:=ON enc d' cur (by rw [hd's,e6];omega);rw [hd's] at this;rw [XL];exact this
        · (have ht:t<rows.length:=by have:=Ze hv;rw [Xc,X4,hd's] at this;exact this);obtain ⟨i1,_,h1,h2⟩:=hat t ht;rw [Xl,h1] at hv;rw [Xl,h2] at hp
          cases hv
          cases hp;exact .shr ((hrd i1).1.to (hch0.wid (N:=fun b=>b=blk) fun b hb'=> .inl hb') (fun b _ hb'=>by rw [hb'];exact hblkM) hmm) (fun _ h=>h)
end
end Go.En
namespace Go.Proofs.YtmkojdfiadbeeaaGreat
open Go.RowKit Go.Cb Go.En Tryz
set_option linter.all false
set_option maxRecDepth 100000
theorem OO:ElT prog 40 26 1 24 (.slice none 0 0):=⟨underlying40,by kernel_rfl,rfl,dC⟩
theorem WX:ElT prog 88 90 1 24 (.slice none 0 0):=⟨underlying88,by kernel_rfl,rfl,dC⟩
theorem GZ:MpT prog 141 3 4 (.int .i64) (.bool false):=⟨underlying141,underlying3, .inr ⟨_,rfl⟩,by show ZeroT _ _ _;unfold ZeroT;kernel_rfl⟩
theorem Yz:NoAgg prog 84=true:=by kernel_rfl
theorem L1:KY prog 42=some ((.agg #[(.int .i64 0),(.slice none 0 0)]),([0,1]:List Nat).map fun o=>(o,1)):=by kernel_rfl
theorem ZaQ:(prog.info? 40).map (·.size)=some 1:=by kernel_rfl
theorem Sq:(prog.info? 84).map (·.size)=some 1:=by kernel_rfl
theorem WM:ZeroT prog 42 (.agg #[(.int .i64 0),(.slice none 0 0)]):=by unfold ZeroT;kernel_rfl
theorem Sr:ZeroT prog 84 (.pointer none):=by unfold ZeroT;kernel_rfl
def upTo (n:Nat):List Int:=vec n fun i=>(i:Int)
theorem DY (l:List ByteArray) (rest:List PV) (hl:l.length≤1000000):AF prog 49 [.sptr 0 (ZQ l::rest)] (· =pInts (upTo l.length)):=by
 refine AF.of_body 19 func49 rfl ntmps49 (Xa rfl) ?_
 intro w0 M0 vs hl hv
 obtain ⟨v0,rfl⟩:=WO hl
 clear hl hv
 refine Zd ?_
 (refine xL 2 Zb ?_<;>refine Zh ?_)
 (refine xL 3 Zb ?_<;>refine Zh ?_)
 (refine xL 5 Za (xL 6 Yc (xL 7 (Ye Yx) ?_))<;>(refine yL 8 (Zt ZL) fun v8 h=>?_;cases h)<;>refine xL 9 (ZF Zu) (xL 10 Za ?_)<;>refine Zc ?_)
 refine Zz (Kl 200 3 1 rfl) fun _=>?_
 refine Zw (ι:={x:Nat×Value//x.1≤l.length}) (fun k=>⟨[(9,_,_),(3,k.1.2, .val k.1.2),(10, .int .i64 k.1.1,Zg k.1.1)],[(200,k.1.2, .own 3 1 k.1.1 (vec k.1.1 fun i=>Zg (i:Nat)))]⟩) (fun k=>l.length-k.1.1) ⟨(0, .slice none 0 0),XA _⟩ (fun a w H=>H.weaken ⟨rfl,rfl,rfl,trivial⟩ ⟨rfl,trivial⟩) ?_
 rintro ⟨⟨k,h33⟩,hk⟩
 dsimp only
 dsimp only at hk
 refine Zd ?_
 (refine xL 11 ZN ?_<;>refine Zc ?_)
 refine cX ?_ ?_<;>intro hb11
 · first|exact bN hb11|(
 have e1:=WB k (fun i=>Zg (i:Nat));refine Zd ?_;(refine xL 12 Za (xL 4 Zb ?_)<;>refine Zh ?_)
 (refine xL 13 Za (xL 14 Za ?_)<;>refine WF (kk:=1) 15 Y' fun h15 ho15=>?_<;>refine Km 200 15 16 Y' fun h16 ho16=>?_<;>refine xL 3 Zb ?_<;>refine Zh ?_)
 (refine xL 17 ZB (xL 10 Za ?_)<;>refine Zc ?_)
 refine Ys (Yb (l:=16) 200 rfl rfl) fun _=>?_;rw [show vec k (fun i=>Zg (i:Nat))++[Zg (k:Int)]=vec (k+1) fun i=>Zg (i:Nat) by rw [Zco]];refine Zf (
  ⟨(k+1,h16),by show k+1≤l.length;omega⟩
  ) (by show l.length-(k+1)<l.length-k;omega) ⟨rfl,rfl,rfl,trivial⟩ ⟨rfl,trivial⟩)
 · first|exact bN hb11|(
 refine Zd ?_;(refine xL 18 Za (xL 2 Zb ?_)<;>refine Zc ?_)
 refine Y4 (En.freeze (l:=200) (t:=2) rfl rfl) fun _=>?_;refine Zi (results49) rfl ?_;rw [show k=l.length by omega,share,ZZ,TU];unfold pInts upTo;rw [WB,TU];rfl)
def tkv (tk:List Int):List (Value×Value):=ikv (tk.map fun x=>(x,Value.bool true))
theorem Zd1 (tk:List Int) (x:Int):YT (tk.map fun x=>(x,Value.bool true)) x=if x∈tk then some (.bool true) else none:=by
 induction tk with
 |nil=>rfl
 | cons y l ih=>
   rw [Xk,YT];by_cases h:x=y
   · rw [UA h,UA (by simp [h])]
   · rw [Uz h,ih];by_cases h2:x∈l
     · rw [UA h2,UA (by simp [h2])]
     · rw [Uz h2,Uz (by simp [h,h2])]
theorem Zd2 {tk:List Int} {x:Int} (h:x∉tk):Wr (tk.map fun x=>(x,Value.bool true)) x (.bool true)=(tk++[x]).map fun x=>(x,Value.bool true):=by
 induction tk with
 |nil=>rfl
 | cons y l ih=>
   rw [Xk,Wr,Uz (fun e=>h (by simp [show x=y from e])),ih (fun hh=>h (by simp [hh]))];rfl
theorem ζs (tk:List Int) (x:Int):(YP (tkv tk) (.int .i64 x)).getD (.bool false)= .bool (decide (x∈tk)):=by
 unfold tkv
 rw [Zb9,Zd1]
 by_cases h:x∈tk
 · rw [UA h,Ux h];rfl
 · rw [Uz h,Uy h];rfl
theorem ζt {tk:List Int} {x:Int} (h:x∉tk):GN (tkv tk) (.int .i64 x) (.bool true)=tkv (tk++[x]):=by
 unfold tkv
 rw [Zca,Zd2 h]
theorem K5 (e n:Nat) (l:List Int) (hn:n=l.length):share (.own e 1 n (l.map Zg))=pInts l:=by
 subst hn
 rw [share,ZZ,Xs];rfl
theorem TZ {α:Type} {l:List α} {x:α} {k:Nat} (h:k=l.length):(l++[x])[k]? =some x:=by subst h;simp
theorem L2 {α:Type} {l:List α} {x y:α} {k:Nat} (h:k=l.length):(l++[x]).set k y=l++[y]:=by subst h;simp
theorem Ss:ZeD prog 60:=fun blk cap zs w hH hb hn=>Tryz.slices_Sort_int blk 0 cap zs w hH hb hn
set_option maxHeartbeats 2000000 in
theorem JV (f : Nat) (caps:List PV) (r:Int→Int→Bool) (l:List Int) (hasc:l.Pairwise (· < ·)) (hl:l.length≤100000) (hcl:∀args w,(callFunc f args).run prog w= .ok (.enter f args) w) (hf:∀x∈l,∀y∈l,AF prog f ([Zg x,Zg y]++caps) (· =Zo (r x y))):AF prog 48 [pInts l, .fn f caps] (fun p=>∃cs,Comps l r cs∧p= .own 90 1 cs.length (cs.map pInts)):=by
 refine AF.of_body 76 func48 rfl ntmps48 (Xa rfl) ?_
 intro w0 M0 vs hl hv
 obtain ⟨v0,v1,rfl⟩:=WT hl
 clear hl hv
 refine Zd ?_
 (refine xL 4 Zb ?_<;>refine Zh ?_)
 (refine xL 5 Zb ?_<;>refine Zh ?_)
 (refine GR 13 fun h13 ho13=>?_<;>refine xL 6 Zb ?_<;>refine Zh ?_)
 (refine xL 14 Za (xL 15 (ZF ZE) (xL 16 Za ?_))<;>refine Zc ?_)
 refine Zz (Kl 200 90 1 rfl) fun _=>?_
 refine Zw (ι:={x:Nat×Value×List (List Int)×List Int//x.1≤l.length∧Part l r x.2.2.1 x.1∧∀z,z∈x.2.2.2↔z∈x.2.2.1.flatten}) (fun k=>⟨[(0,_,_),(1,_,_),(6,_,_),(14,_,_),(15,_,_),(5,k.1.2.1, .val k.1.2.1),(16, .int .i64 k.1.1,Zg k.1.1)],[(13,h13, .omap (tkv k.1.2.2.2)),(200,k.1.2.1, .own 90 1 k.1.2.2.1.length (k.1.2.2.1.map pInts))]⟩) (fun k=>l.length-k.1.1) ⟨(0, .slice none 0 0,[],[]),XA _,Part.start l r,fun z=>sM⟩ (fun a w H=>H.weaken ⟨rfl,rfl,rfl,rfl,rfl,rfl,rfl,trivial⟩ ⟨rfl,rfl,trivial⟩) ?_
 rintro ⟨⟨k,h55,cs,tk⟩,hk,hpt,htk⟩
 dsimp only
 dsimp only at hk hpt htk
 refine Zd ?_
 (refine xL 17 ZN ?_<;>refine Zc ?_)
 refine cX ?_ ?_<;>intro hb17
 · first | exact bN hb17 |(
 obtain ⟨xf,hx⟩:=Zj (show k<l.length by omega);have e1:=Yn (f:=Zg) hx;have e2:=ζs tk xf;have hxl:=Xb hx;have hcsl:cs.length≤l.length:=by
  refine XP ?_ (K4 hpt.nd hpt.sub);have:∀m:List (List Int),(∀c∈m,c≠[])→m.length≤m.flatten.length:=fun m=>by
   induction m with
   |nil=>intro _;simp
   | cons c m ih=>
     intro h;have h1:=ih fun d hd=>h d (by simp [hd]);have h2:=X5.2 (h c sM);rw [XT,Xe,Xi];omega
  exact this cs hpt.ne
 refine Zd ?_;(refine xL 18 (Zn ZE) ?_<;>(refine yL 19 (Zt Zx) fun v19 h=>?_;cases h)<;>refine xL 8 Zb ?_<;>refine Zh ?_)
 (refine xL 20 Za (xL 21 Za (xL 22 (Ll 13 GZ) ?_))<;>refine Zc ?_)
 refine cX ?_ ?_<;>intro hb22
 · first | exact bN hb22|(
 refine Zd ?_;(refine xL 74 ZB (xL 16 Za ?_)<;>refine Zc ?_)
 try refine Ys (Kv (l:=73) (l':=201) (j:=cs.length) rfl (TZ (Xc _).symm) rfl rfl) fun _=>?_
 try rw [L2 (Xc _).symm,K5 _ _ _ (VN _).symm]
 try rw [show cs.map pInts++[pInts (cl.mergeSort fun x y=>decide (x≤y))]=(cs++[cl.mergeSort fun x y=>decide (x≤y)]).map pInts by simp,show cs.length+1=(cs++[cl.mergeSort fun x y=>decide (x≤y)]).length by simp]
 try refine Ys (Yb (l:=73) 200 rfl rfl) fun _=>?_
 first
  | (exact Zf (
      ⟨(k+1,h73,cs++[cl.mergeSort fun x y=>decide (x≤y)],tk1),by show k+1≤l.length;omega,hmk.done hpt hasc hx oM,fun z=>by
        show z∈tk1↔z∈(cs++[_]).flatten;rw [hmk.tkm z];simp [Ww]⟩
      ) (by show l.length-(k+1)<l.length-k;omega) ⟨rfl,rfl,rfl,rfl,rfl,rfl,rfl,trivial⟩ ⟨rfl,rfl,trivial⟩)
  | (exact Zf (
      ⟨(k+1,h55,cs,tk),by show k+1≤l.length;omega,hpt.skip hx ((htk xf).1 hb22),htk⟩
      ) (by show l.length-(k+1)<l.length-k;omega) ⟨rfl,rfl,rfl,rfl,rfl,rfl,rfl,trivial⟩ ⟨rfl,rfl,trivial⟩))
 · first | exact bN hb22|(
 have hxn:xf∉cs.flatten:=fun h=>hb22 ((htk xf).2 h);have hxt:xf∉tk:=hb22;refine Zd ?_;(refine xL 23 Za (xL 24 Za ?_)<;>refine Lm 13 GZ ?_<;>refine Zc ?_)
 rw [ζt hxt];(refine Zk ?_<;>refine xL 25 Za ?_<;>refine WF (kk:=1) 26 Y' fun h26 ho26=>?_<;>refine xL 9 Zb ?_<;>refine Zh ?_)
 (refine xL 10 Zb ?_<;>refine Zc ?_)
 refine Zz (Yb (l:=26) 201 rfl rfl) fun _=>?_;refine Zw (ι:={x:Nat×Value×List Int×List Int//x.2.1.oneCell'=true∧Mk l r cs xf x.2.2.1 x.2.2.2 x.1 0}) (fun k=>⟨[(0,_,_),(1,_,_),(5,_,_),(6,_,_),(14,_,_),(15,_,_),(16,_,_),(9,k.1.2.1, .val k.1.2.1),(10, .int .i64 k.1.1,Zg k.1.1)],[(200,_,_),(13,h13, .omap (tkv k.1.2.2.1)),(201,k.1.2.1, .own 3 1 k.1.2.2.2.length (k.1.2.2.2.map Zg))]⟩) (fun k=>l.length-k.1.1) ⟨(0,h26,tk++[xf],[xf]),ho26,Mk.start hpt hx htk hxn⟩ (fun a w H=>H.weaken ⟨rfl,rfl,rfl,rfl,rfl,rfl,rfl,rfl,rfl,trivial⟩ ⟨rfl,rfl,rfl,trivial⟩) ?_;rintro ⟨⟨i,h99,tk1,cl⟩,ho99,hmk⟩;dsimp only;dsimp only at ho99 hmk;have hcll:=hmk.len;have e1l:(cl.map Zg).length=cl.length:=Xc _;refine Zd ?_;(refine xL 27 Za (xL 28 Za (xL 29 (Wj 201 ZE) (xL 30 ZN ?_)))<;>refine Zc ?_)
 refine cX ?_ ?_<;>intro hb30
 · first | exact bN hb30|(
 have hil:i<cl.length:=oM;obtain ⟨u,hu⟩:=Zj hil;refine Zd ?_;(refine xL 33 Za (xL 34 (ZF ZE) (xL 35 Za ?_))<;>refine Zc ?_)
 refine Zw (ι:={x:Nat×Value×List Int×List Int//x.1≤l.length∧x.2.1.oneCell'=true∧x.2.2.2[i]? =some u∧Mk l r cs xf x.2.2.1 x.2.2.2 i x.1}) (fun k=>⟨[(0,_,_),(1,_,_),(5,_,_),(6,_,_),(10,_,_),(14,_,_),(15,_,_),(16,_,_),(33,_,_),(34,_,_),(9,k.1.2.1, .val k.1.2.1),(35, .int .i64 k.1.1,Zg k.1.1)],[(200,_,_),(13,h13, .omap (tkv k.1.2.2.1)),(201,k.1.2.1, .own 3 1 k.1.2.2.2.length (k.1.2.2.2.map Zg))]⟩) (fun k=>l.length-k.1.1) ⟨(0,h99,tk1,cl),XA _,ho99,hu,hmk⟩ (fun a w H=>H.weaken ⟨rfl,rfl,rfl,rfl,rfl,rfl,rfl,rfl,rfl,rfl,rfl,rfl,trivial⟩ ⟨rfl,rfl,rfl,trivial⟩) ?_;rintro ⟨⟨q,h98,tk2,cl2⟩,hq,ho98,hu2,hmk2⟩;dsimp only;dsimp only at hq ho98 hu2 hmk2;have hcll2:=hmk2.len;have e1l2:(cl2.map Zg).length=cl2.length:=Xc _;refine Zd ?_;(refine xL 36 ZN ?_<;>refine Zc ?_)
 refine cX ?_ ?_<;>intro hb36
 · first | exact bN hb36|(
 obtain ⟨y,hy⟩:=Zj (show q<l.length by omega);have e3:=Yn (f:=Zg) hy;have e4:=ζs tk2 y;have e5:=Yn (f:=Zg) hu2;have hyl:=Xb hy;have hul:=hmk2.sub u (Xb hu2);have hilt:=Ze hu2;refine Zd ?_;(refine xL 37 (Zn ZE) ?_<;>(refine yL 38 (Zt Zx) fun v38 h=>?_;cases h)<;>refine xL 12 Zb ?_<;>refine Zh ?_)
 (refine xL 39 Za (xL 40 Za (xL 41 (Ll 13 GZ) (xL 42 Yj (xL 43 Za ?_))))<;>(refine bL 43 (fun hb43=>?_) (fun hb43=>?_)<;>(first|refine kL 44 ?_|refine xL 44 Za ?_))<;>(first|refine kL 45 ?_|refine xL 45 Za ?_)<;>(first|refine kL 46 ?_|refine xL 46 Za ?_)<;>(first|refine kL 47 ?_|refine xL 47 (Z4 201 ZE) ?_)<;>(first|refine kL 48 ?_|(refine yL 48 (Zp 201 Zx) fun v48 h=>?_;cases h))<;>(first|refine kL 49 ?_|refine xL 49 Za ?_)<;>(first|refine kL 50 ?_|(refine cS 50 (Li (f:=f) (ps:=caps) rfl ⟨_,rfl⟩ hcl rfl (hf u hul y hyl)) fun v50 h=>?_;cases h))<;>(first|refine kL 51 ?_|refine xL 51 Za ?_)<;>(first|refine kL 52 ?_|(refine bL 51 (fun hb51=>?_) (fun hb51=>?_)<;>(first|refine kL 52 ?_|refine xL 52 Za ?_)))<;>(first|refine kL 53 ?_|refine xL 53 Za ?_)<;>(first|refine kL 54 ?_|refine xL 54 Za ?_)<;>(first|refine kL 55 ?_|refine xL 55 Za ?_)<;>(first|refine kL 56 ?_|refine xL 56 (Z4 201 ZE) ?_)<;>(first|refine kL 57 ?_|(refine yL 57 (Zp 201 Zx) fun v57 h=>?_;cases h))<;>(first|refine kL 58 ?_|(refine cS 58 (Li (f:=f) (ps:=caps) rfl ⟨_,rfl⟩ hcl rfl (hf y hyl u hul)) fun v58 h=>?_;cases h))<;>(first|refine kL 59 ?_|refine xL 59 Zv ?_)<;>refine xL 60 Zv ?_<;>refine Zc ?_)<;>(
 refine cX ?_ ?_<;>intro hb60
 · first | exact bN hb60|(
 (have hyt:y∉tk2:=by simpa using hb43);have hry:r u y=true∨r y u=true:=by first|exact .inl hb51|exact .inr hb60
 refine Zd ?_;(refine xL 61 Za (xL 62 Za ?_)<;>refine Lm 13 GZ ?_<;>refine Zc ?_)
 rw [ζt hyt];(refine Zk ?_<;>refine xL 63 Za (xL 64 Za ?_)<;>refine WF (kk:=1) 65 Y' fun h65 ho65=>?_<;>refine Km 201 65 66 Y' fun h66 ho66=>?_<;>refine xL 9 Zb ?_<;>refine Zh ?_)
 (refine xL 67 ZB (xL 35 Za ?_)<;>refine Zc ?_)
 try refine Ys (Yb (l:=66) 201 rfl rfl) fun _=>?_
 try rw [show cl2.map Zg++[Zg y]=(cl2++[y]).map Zg by simp,show cl2.length+1=(cl2++[y]).length by simp]
 first
  | (exact Zf (
      ⟨(q+1,h66,tk2++[y],cl2++[y]),by show q+1≤l.length;omega,ho66,by show (cl2++[y])[i]? =some u;rw [X7 hilt];exact hu2,hmk2.take hu2 hy hyt hry⟩
      ) (by show l.length-(q+1)<l.length-q;omega) ⟨rfl,rfl,rfl,rfl,rfl,rfl,rfl,rfl,rfl,rfl,rfl,rfl,trivial⟩ ⟨rfl,rfl,rfl,trivial⟩)
  | (exact Zf (
      ⟨(q +1,h98,tk2,cl2),by show q+1≤l.length;omega,ho98,hu2,hmk2.pass hu2 hy (by
        first
         |exact .inr ⟨hb51,hb60⟩
         |exact .inl (by simpa using hb43))⟩
      ) (by show l.length-(q+1)<l.length-q;omega) ⟨rfl,rfl,rfl,rfl,rfl,rfl,rfl,rfl,rfl,rfl,rfl,rfl,trivial⟩ ⟨rfl,rfl,rfl,trivial⟩))
 · first | exact bN hb60|(
 refine Zd ?_;(refine xL 67 ZB (xL 35 Za ?_)<;>refine Zc ?_)
 try refine Ys (Yb (l:=66) 201 rfl rfl) fun _=>?_
 try rw [show cl2.map Zg++[Zg y]=(cl2++[y]).map Zg by simp,show cl2.length+1=(cl2++[y]).length by simp]
 first
  | (exact Zf (
      ⟨(q+1,h66,tk2++[y],cl2++[y]),by show q+1≤l.length;omega,ho66,by show (cl2++[y])[i]? =some u;rw [X7 hilt];exact hu2,hmk2.take hu2 hy hyt hry⟩
      ) (by show l.length-(q+1)<l.length-q;omega) ⟨rfl,rfl,rfl,rfl,rfl,rfl,rfl,rfl,rfl,rfl,rfl,rfl,trivial⟩ ⟨rfl,rfl,rfl,trivial⟩)
  | (exact Zf (
      ⟨(q +1,h98,tk2,cl2),by show q+1≤l.length;omega,ho98,hu2,hmk2.pass hu2 hy (by
        first
         |exact .inr ⟨hb51,hb60⟩
         |exact .inl (by simpa using hb43))⟩
      ) (by show l.length-(q+1)<l.length-q;omega) ⟨rfl,rfl,rfl,rfl,rfl,rfl,rfl,rfl,rfl,rfl,rfl,rfl,trivial⟩ ⟨rfl,rfl,rfl,trivial⟩))))
 · first|exact bN hb36|(
 refine Zd ?_;(refine xL 31 Za (xL 32 ZB (xL 10 Zb ?_))<;>refine Zc ?_)
 refine Zf (
  ⟨(i+1,h98,tk2,cl2),ho98,hmk2.next oM (Ze hu2)⟩
  ) (by show l.length-(i+1)<l.length-i;omega) ⟨rfl,rfl,rfl,rfl,rfl,rfl,rfl,rfl,rfl,trivial⟩ ⟨rfl,rfl,rfl,trivial⟩))
 · first | exact bN hb30|(
 refine Zd ?_;(refine xL 68 Za ?_<;>refine DX 201 Ss (call60) ?_ (List.length_pos_of_mem hmk.fst)<;>refine Zh ?_)
 (refine xL 70 Za (xL 71 Za ?_)<;>refine WF (kk:=1) 72 WX fun h72 ho72=>?_<;>refine Km 200 72 73 WX fun h73 ho73=>?_<;>refine xL 5 Zb ?_<;>refine Zh ?_)
 (refine xL 74 ZB (xL 16 Za ?_)<;>refine Zc ?_)
 try refine Ys (Kv (l:=73) (l':=201) (j:=cs.length) rfl (TZ (Xc _).symm) rfl rfl) fun _=>?_
 try rw [L2 (Xc _).symm,K5 _ _ _ (VN _).symm]
 try rw [show cs.map pInts++[pInts (cl.mergeSort fun x y=>decide (x≤y))]=(cs++[cl.mergeSort fun x y=>decide (x≤y)]).map pInts by simp,show cs.length+1=(cs++[cl.mergeSort fun x y=>decide (x≤y)]).length by simp]
 try refine Ys (Yb (l:=73) 200 rfl rfl) fun _=>?_
 first
  | (exact Zf (
      ⟨(k+1,h73,cs++[cl.mergeSort fun x y=>decide (x≤y)],tk1),by show k+1≤l.length;omega,hmk.done hpt hasc hx oM,fun z=>by
        show z∈tk1↔z∈(cs++[_]).flatten;rw [hmk.tkm z];simp [Ww]⟩
      ) (by show l.length-(k+1)<l.length-k;omega) ⟨rfl,rfl,rfl,rfl,rfl,rfl,rfl,trivial⟩ ⟨rfl,rfl,trivial⟩)
  | (exact Zf (
      ⟨(k+1,h55,cs,tk),by show k+1≤l.length;omega,hpt.skip hx ((htk xf).1 hb22),htk⟩
      ) (by show l.length-(k+1)<l.length-k;omega) ⟨rfl,rfl,rfl,rfl,rfl,rfl,rfl,trivial⟩ ⟨rfl,rfl,trivial⟩))))
 · first|exact bN hb17|(
 refine Zd ?_;(refine xL 75 Za (xL 4 Zb ?_)<;>refine Zc ?_)
 refine LN 200 (results48) rfl rfl ⟨cs,hpt.comps oM,rfl⟩)
def Y7 (l:List ByteArray) (i:Int):ByteArray:=l[i.toNat]?.getD ByteArray.empty
def Zq (l:List ByteArray) (cs:List (List Int)):List (List ByteArray):=cs.map fun c=>c.map (Y7 l)
theorem Zd3 {l:List ByteArray} {x:Int} (h:0≤x∧x<l.length):(l.map ZS)[x.toNat*1]? =some (ZS (Y7 l x)):=by
 rw [XL,Xl]
 unfold Y7
 rw [Xx (show x.toNat<l.length by omega)];rfl
theorem H9 (e n:Nat) (l:List (List ByteArray)) (hn:n=l.length):share (.own e 1 n (l.map ZQ))=Kx l:=by
 subst hn
 rw [share,ZZ,Xs];rfl
theorem KH (e n:Nat) (l:List (List Int)) (hn:n=l.length):share (.own e 1 n (l.map pInts))=Si l:=by
 subst hn
 rw [share,ZZ,Xs];rfl
theorem Lv (l:List ByteArray) (rest:List PV) (kind:Int) (cs:List (List Int)) (h:cs.length<2):AF prog 47 [.sptr 0 (ZQ l::rest),Zg kind,Si cs] (· = .tup [.agg [Zg 0, .val (.slice none 0 0)],Zg 10]):=by
 refine AF.of_body 51 func47 rfl ntmps47 (Xa rfl) ?_
 intro w0 M0 vs hl hv
 obtain ⟨v0,v1,v2,rfl⟩:=RX hl
 obtain rfl:=hv 1 _ _ rfl rfl
 clear hl hv
 refine Zd ?_
 (refine ZV [(.int .i64 0),(.slice none 0 0)] 2 6 WM fun h6=>?_<;>refine xL 7 Zb ?_<;>refine Zh ?_)
 (refine xL 14 Za (xL 15 (ZF WI) (xL 16 ZN ?_))<;>refine Zc ?_)
 refine cX ?_ ?_<;>intro hb16
 · refine Zd ?_;(refine xL 17 (Yt L1) ?_<;>refine YN 6 Z5 ?_<;>refine xL 7 Zb ?_<;>refine Zc ?_)
   exact Kz (k:=2) 6 kR (results47) rfl rfl rfl (Xa rfl) dC rfl rfl
 · exfalso;omega
set_option maxHeartbeats 1000000 in
theorem T0 (l:List ByteArray) (rest:List PV) (kind:Int) (cs:List (List Int)) (h:2≤cs.length) (hcs:∀c∈cs,∀x∈c,0≤x∧x<l.length) (hcl:cs.length≤1000000) (hcc:∀c∈cs,c.length≤1000000):AF prog 47 [.sptr 0 (ZQ l::rest),Zg kind,Si cs] (· = .tup [RV ⟨kind,Zq l cs⟩,Zg 0]):=by
 refine AF.of_body 51 func47 rfl ntmps47 (Xa rfl) ?_
 intro w0 M0 vs hl hv
 obtain ⟨v0,v1,v2,rfl⟩:=RX hl
 obtain rfl:=hv 1 _ _ rfl rfl
 clear hl hv
 refine Zd ?_
 (refine ZV [(.int .i64 0),(.slice none 0 0)] 2 6 WM fun h6=>?_<;>refine xL 7 Zb ?_<;>refine Zh ?_)
 (refine xL 14 Za (xL 15 (ZF WI) (xL 16 ZN ?_))<;>refine Zc ?_)
 refine cX ?_ ?_<;>intro hb16
 · exfalso;omega
 · refine Zd ?_;(refine xL 18 Za (xL 19 (Yt L1) ?_)<;>refine ZV [(.int .i64 0),(.slice none 0 0)] 2 8 WM fun h8=>?_<;>refine YN 8 Z5 ?_<;>refine Zh ?_)
   (refine xL 20 Za (xL 21 (ZF WI) (xL 22 Za ?_))<;>refine Zc ?_)
   refine Zz (Kl 200 26 1 rfl) fun _=>?_;refine Zw (ι:={x:Nat×Value//x.1≤cs.length}) (fun k=>⟨[(0,_,_),(6,_,_),(8,_,_),(20,_,_),(21,_,_),(22, .int .i64 k.1.1,Zg k.1.1)],[(6,_,_),(8,h8, .own 42 2 1 [Zg kind, .val k.1.2]),(200,k.1.2, .own 26 1 k.1.1 (((Zq l cs).take k.1.1).map ZQ))]⟩) (fun k=>cs.length-k.1.1) ⟨(0, .slice none 0 0),XA _⟩ (fun a w H=>H.weaken ⟨rfl,rfl,rfl,rfl,rfl,rfl,trivial⟩ ⟨rfl,rfl,rfl,trivial⟩) ?_;rintro ⟨⟨k,h55⟩,hk⟩;dsimp only;dsimp only at hk;refine Zd ?_;(refine xL 23 ZN ?_<;>refine Zc ?_)
   refine cX ?_ ?_<;>intro hb23
   · first |exact bN hb23|(
 obtain ⟨cl,hx⟩:=Zj (show k<cs.length by omega);have e1:=Yn (f:=pInts) hx;have hxl:=hcs cl (Xb hx);have hxc:=hcc cl (Xb hx);(have hpt:(Zq l cs)[k]? =some (cl.map (Y7 l)):=by unfold Zq;rw [Xl,hx];rfl);(have e2:(((Zq l cs).take k).map ZQ).length=k:=by unfold Zq;simp;omega);refine Zd ?_;(refine xL 24 (Zn WI) ?_<;>(refine yL 25 (Zt Gn) fun v25 h=>?_;cases h)<;>refine xL 10 Zb ?_<;>refine Zh ?_)
 (refine xL 11 Zb ?_<;>refine Zh ?_)
 (refine xL 26 Za (xL 27 (ZF ZE) (xL 28 Za ?_))<;>refine Zc ?_)
 refine Zz (Kl 201 9 1 rfl) fun _=>?_;refine Zw (ι:={x:Nat×Value//x.1≤cl.length∧x.2.oneCell'=true}) (fun k=>⟨[(0,_,_),(6,_,_),(8,_,_),(20,_,_),(21,_,_),(22,_,_),(26,_,_),(27,_,_),(11,k.1.2, .val k.1.2),(28, .int .i64 k.1.1,Zg k.1.1)],[(6,_,_),(8,_,_),(200,_,_),(201,k.1.2, .own 9 1 k.1.1 (((cl.map (Y7 l)).take k.1.1).map ZS))]⟩) (fun k=>cl.length-k.1.1) ⟨(0, .slice none 0 0),XA _,rfl⟩ (fun a w H=>H.weaken ⟨rfl,rfl,rfl,rfl,rfl,rfl,rfl,rfl,rfl,rfl,trivial⟩ ⟨rfl,rfl,rfl,rfl,trivial⟩) ?_;rintro ⟨⟨j,h66⟩,hj,ho66⟩;dsimp only;dsimp only at hj ho66;refine Zd ?_;(refine xL 29 ZN ?_<;>refine Zc ?_)
 refine cX ?_ ?_<;>intro hb29
 · first|exact bN hb29|(
 obtain ⟨z,hz⟩:=Zj (show j<cl.length by omega);have e3:=Yn (f:=Zg) hz;have hzb:=hxl z (Xb hz);have e4:=Zd3 hzb;(have e5:(((cl.map (Y7 l)).take j).map ZS).length=j:=by simp;omega);(have hnz:(cl.map (Y7 l))[j]? =some (Y7 l z):=by rw [Xl,hz];rfl);refine Zd ?_;(refine xL 30 (Zn ZE) ?_<;>(refine yL 31 (Zt Zx) fun v31 h=>?_;cases h)<;>refine xL 13 Zb ?_<;>refine Zh ?_)
 (refine xL 32 Za (xL 33 Za (xL 34 Yc (xL 35 (Ye Yx) ?_)))<;>(refine yL 36 (Zt ZL) fun v36 h=>?_;cases h)<;>refine xL 37 Za (xL 38 (Tf Zu) ?_)<;>(refine yL 39 (Zt ZJ) fun v39 h=>?_;cases h)<;>refine WF (kk:=1) 40 Jw fun h40 ho40=>?_<;>refine Km 201 40 41 Jw fun h41 ho41=>?_<;>refine xL 11 Zb ?_<;>refine Zh ?_)
 (refine xL 42 ZB (xL 28 Za ?_)<;>refine Zc ?_)
 refine Ys (Yb (l:=41) 201 rfl rfl) fun _=>?_;rw [show ((cl.map (Y7 l)).take j).map ZS++[ZS (Y7 l z)]=((cl.map (Y7 l)).take (j+1)).map ZS by rw [Z7 hnz,X1];rfl];refine Zf (
  ⟨(j+1,h41),by show j+1≤cl.length;omega,ho41⟩
  ) (by show cl.length-(j+1)<cl.length-j;omega) ⟨rfl,rfl,rfl,rfl,rfl,rfl,rfl,rfl,rfl,rfl,trivial⟩ ⟨rfl,rfl,rfl,rfl,trivial⟩)
 · first|exact bN hb29|(
 refine Zd ?_;(refine xL 43 (Zm 8 KG) ?_<;>(refine yL 44 (Zp 8 JC) fun v44 h=>?_;cases h)<;>refine xL 45 Za ?_<;>refine WF (kk:=1) 46 OO fun h46 ho46=>?_<;>refine Km 200 46 47 OO fun h47 ho47=>?_<;>refine xL 48 (Zm 8 KG) ?_<;>refine Rs 8 JC ZaQ ?_<;>refine Zh ?_)
 (refine xL 49 ZB (xL 22 Za ?_)<;>refine Zc ?_)
 refine Ys (Kv (l:=47) (l':=201) (j:=k) rfl (TZ e2.symm) rfl rfl) fun _=>?_;rw [L2 e2.symm,show j=(cl.map (Y7 l)).length by rw [Xc];omega,XD,GW];rw [show ((Zq l cs).take k).map ZQ++[PV.sl (cl.map (Y7 l)).length ((cl.map (Y7 l)).map ZS)]=((Zq l cs).take (k+1)).map ZQ by rw [Z7 hpt,X1];rfl];refine Ys (Yb (l:=47) 200 rfl rfl) fun _=>?_;refine Zf (
  ⟨(k+1,h47),by show k+1≤cs.length;omega⟩
  ) (by show cs.length-(k+1)<cs.length-k;omega) ⟨rfl,rfl,rfl,rfl,rfl,rfl,trivial⟩ ⟨rfl,rfl,rfl,trivial⟩))
   · first|exact bN hb23|(
 refine nav ?_;rw [show k=(Zq l cs).length by unfold Zq;rw [Xc];omega,XD];refine Zz (Kv (l:=8) (l':=200) (j:=1) rfl rfl rfl rfl) fun _=>?_;rw [H9 _ _ _ rfl];(refine Zk ?_<;>(refine yL 50 (YG 8 Z5) fun v50 h=>?_;cases h)<;>refine YN 6 Z5 ?_<;>refine xL 7 Zb ?_<;>refine Zc ?_)
 exact Kz (k:=2) 6 kR (results47) rfl rfl rfl (Xa rfl) dC rfl rfl)
def Pz (l:List ByteArray) (kind:Int) (cs:List (List Int)):PV:=if cs.length<2 then .tup [.agg [Zg 0, .val (.slice none 0 0)],Zg 10] else .tup [RV ⟨kind,Zq l cs⟩,Zg 0]
theorem Yk {n:Nat} {x:Int}:x∈upTo n↔0≤x∧x<n:=by
 unfold upTo vec
 simp only [Xm,XJ]
 constructor
 · rintro ⟨i,hi,rfl⟩;omega
 · rintro ⟨h0,h1⟩;exact ⟨x.toNat,oM,oM⟩
theorem W8 (n:Nat):(upTo n).length=n:=WB _ _
theorem JW (n:Nat):(upTo n).Pairwise (· < ·):=by
 rw [XX]
 intro i j hi hj hij
 rw [W8] at hi hj
 have e1:(upTo n)[i]? =some ((i:Nat):Int):=GX _ hi
 have e2:(upTo n)[j]? =some ((j:Nat):Int):=GX _ hj
 rw [(Xh.1 e1).2,(Xh.1 e2).2];omega
theorem Jf {n:Nat} {r:Int→Int→Bool} {cs:List (List Int)} (h:Comps (upTo n) r cs):(∀c∈cs,∀x∈c,0≤x∧x<n)∧cs.length≤n∧∀c∈cs,c.length≤n:=by
 have h1:∀c∈cs,∀x∈c,x∈upTo n:=fun c hc x hx=>(h.mem x).1 (XN.2 ⟨c,hc,hx⟩)
 refine ⟨fun c hc x hx=>Yk.1 (h1 c hc x hx),?_,fun c hc=>?_⟩
 · have h2:=K4 h.nd (fun x hx=>(h.mem x).1 hx);rw [W8] at h2;have:∀m:List (List Int),(∀c∈m,c≠[])→m.length≤m.flatten.length:=fun m=>by
    induction m with
    |nil=>intro _;simp
    | cons c m ih=>
      intro h;have h1:=ih fun d hd=>h d (by simp [hd]);have h2:=X5.2 (h c sM);rw [XT,Xe,Xi];omega
   have:=this cs h.ne;omega
 · have h2:=K4 (l:=c) (m:=upTo n) ((h.asc c hc).imp fun {a b} h=>oM) (h1 c hc);rw [W8] at h2;exact h2
def T1 (E:Nat→Nat→Bool) (a b:Int):Bool:=E a.toNat b.toNat
theorem Zd4 (l:List ByteArray) (n:Nat) (E:Nat→Nat→Bool) (S F:Nat→Bool) (x y:Int) (hx:0≤x∧x<n) (hy:0≤y∧y<n):AF prog 50 [Zg x,Zg y, .sptr 0 [W1 l n E S F]] (· =Zo (T1 E x y)):=by
 obtain ⟨a,rfl⟩:∃a:Nat,x=a:=⟨x.toNat,oM⟩
 obtain ⟨b,rfl⟩:∃b:Nat,y=b:=⟨y.toNat,oM⟩
 have e1:=ZI (fun i=>YL n (E i)) (show a<n by omega)
 have e2:=ZI (fun j=>Zo (E a j)) (show b<n by omega)
 refine AF.of_body 16 func50 rfl ntmps50 (Xa rfl) ?_
 intro w0 M0 vs hl hv
 obtain ⟨v0,v1,v2,rfl⟩:=RX hl
 obtain rfl:=hv 0 _ _ rfl rfl
 obtain rfl:=hv 1 _ _ rfl rfl
 clear hl hv
 dsimp only [W1]
 refine Zd ?_
 (refine xL 5 Zb ?_<;>refine Zh ?_)
 ((refine yL 6 (Zt Yz) fun v6 h=>?_;cases h)<;>refine xL 7 Yc (xL 8 (Ye YD) ?_)<;>(refine yL 9 (Zt Yy) fun v9 h=>?_;cases h)<;>refine xL 10 Za (xL 11 (Zn ZX) ?_)<;>(refine yL 12 (Zt ZC) fun v12 h=>?_;cases h)<;>refine xL 13 Za (xL 14 (Zn ZG) ?_)<;>(refine yL 15 (Zt ZW) fun v15 h=>?_;cases h)<;>refine xL 5 Zb ?_<;>refine Zc ?_)
 exact Zi results50 rfl rfl
set_option maxHeartbeats 1000000 in
theorem ZaR (g:Dfg) (l:List ByteArray) (n:Nat) (E:Nat→Nat→Bool) (S F:Nat→Bool) (hb:AF prog 46 [WS g] (· = .tup [W1 l n E S F,Zg 0])) (hl:l.length=n) (hn:n≤1000):AF prog 14 [WS g] (fun p=>∃cs,Comps (upTo n) (T1 E) cs∧p=Pz l 1 cs):=by
 refine AF.of_body 23 func14 rfl ntmps14 (Xa rfl) ?_
 intro w0 M0 vs hl hv
 obtain ⟨v0,rfl⟩:=WO hl
 clear hl hv
 refine Zd ?_
 (refine Yr 1 4 fun h1=>?_<;>refine ZV [(.int .i64 0),(.slice none 0 0)] 2 2 WM fun h2=>?_<;>refine xL 3 Zb ?_<;>refine Zh ?_)
 ((refine yL 7 (YG 1 Z9) fun v7 h=>?_;cases h)<;>(refine cP 8 (cA call46 (hb)) fun va8 vb8 hva8 h=>?_;cases h)<;>refine xL 6 Za (xL 9 Zl (xL 10 Zl ?_))<;>refine ZV [(.pointer none)] 1 4 Sr fun h4=>?_<;>refine Rs 4 Yz Sq ?_<;>refine xL 5 Zb ?_<;>refine Zh ?_)
 (refine xL 11 Za (xL 12 Y9 ?_)<;>refine Zc ?_)<;>(try (exfalso;omega))<;>(
 refine cX ?_ ?_<;>intro hb12
 · exfalso;omega
 · refine nav ?_;refine Zz (K' (l:=4) (t:=4) (j:=0) rfl X3 rfl) fun _=>?_;dsimp only [Yf,share,List.map,W1];(refine ZR (fun i=>([]:List Nat).elem i) [] kR ?_<;>(refine yD 0 15 rfl (Zt Yz) fun v15 h=>?_;cases h)<;>(refine yD 1 16 rfl (Zt Yz) fun v16 h=>?_;cases h)<;>refine xD 3 18 rfl JO ?_<;>(refine Zy 2 kR ?_)<;>(refine LR (d:=17) rfl (cA call49 ((DY l _ oM).mono (R':=(· =pInts (upTo n))) fun p hp=>by rw [hp,hl])) fun v17 h=>?_;cases h)<;>(refine Zy 4 kR ?_)<;>(refine ZA rfl fun w9 M9 N9 DQ back=>?_)<;>(refine JK 19 rfl rfl (Xa rfl) rfl (cA call48 (JV 50 [.sptr 0 [W1 l n E S F]] (T1 E) (upTo n) (JW n) (by rw [W8];omega) (call50) (fun x hx y hy=>Zd4 l n E S F x y (Yk.1 hx) (Yk.1 hy)))) ?_;rintro p' ⟨cs,hcs,rfl⟩;refine ⟨rfl,fun h19 ho19=>?_⟩;refine Yg (En.freeze (l:=19) (t:=19) rfl rfl) fun _=>?_;rw [KH _ _ _ rfl])<;>refine Zr (back _ (nrm ?_))<;>(refine Zy 5 kR ?_)<;>(refine ZA rfl fun w9 M9 N9 DQ back=>?_)<;>(by_cases hm:cs.length<2<;>first|(refine cP 20 (cA call47 (Lv l _ 1 cs hm)) fun va20 vb20 hva20 h=>?_;cases h)|(refine cP 20 (cA call47 (T0 l _ 1 cs oM (by rw [hl];exact (Jf hcs).1) (by have:=(Jf hcs).2.1;omega) (fun c hc=>by have:=(Jf hcs).2.2 c hc;omega))) fun va20 vb20 hva20 h=>?_;cases h))<;>refine Zr (back _ (nrm ?_))<;>refine xD 6 21 rfl Zl ?_<;>refine xE 7 22 rfl Zl ?_<;>(refine Zy 8 kR ?_)<;>(refine ZA rfl fun w9 M9 N9 DQ back=>?_)<;>refine YN 2 Z5 ?_<;>refine Zr (back _ (nrm ?_))<;>refine xE 9 3 rfl Zb ?_<;>refine YU kR (nav ?_)<;>try dsimp only)<;>(
 refine Kz (k:=2) 2 kR (results14) rfl rfl rfl (Xa rfl) dC rfl ⟨cs,hcs,?_⟩;unfold Pz
 first
  |(rw [UA hm];rfl)
  |(rw [Uz hm];rfl)))
theorem OP:(prog.info? 93).map (·.size)=some 1:=by kernel_rfl
theorem OQ:ZeroT prog 93 (.slice none 0 0):=by unfold ZeroT;kernel_rfl
def relS (R:Nat→Nat→Bool) (a b:Int):Bool:=R a.toNat b.toNat==R b.toNat a.toNat
def hdI (c:List Int):Int:=c[0]?.getD 0
def cmpSeq (R:Nat→Nat→Bool) (x y:List Int):Int:=if hdI x=hdI y then 0 else if R (hdI x).toNat (hdI y).toNat then-1 else 1
theorem Tq {R:Nat→Nat→Bool} {x y:List Int}:cmpSeq R x y<0↔hdI x≠hdI y∧R (hdI x).toNat (hdI y).toNat=true:=by
 unfold cmpSeq
 by_cases h:hdI x=hdI y
 · rw [UA h];simp [h]
 · rw [Uz h]
   cases hr:R (hdI x).toNat (hdI y).toNat<;>simp [h]
theorem Jk {c:List Int} (h:c≠[]):hdI c∈c:=by
 cases c with
 |nil=>exact UB rfl h
 |cons a t=>exact XG
theorem Gr {n:Nat} {R:Nat→Nat→Bool} {cs:List (List Int)} (h:Comps (upTo n) (relS R) cs) {c d:List Int} (hc:c∈cs) (hd:d∈cs) (hne:hdI c≠hdI d):R (hdI c).toNat (hdI d).toNat≠R (hdI d).toNat (hdI c).toNat:=fun he=>by
 have hm:=h.clos c hc (hdI c) (Jk (h.ne c hc)) (hdI d) ((h.mem _).1 (XN.2 ⟨d,hd,Jk (h.ne d hd)⟩)) (.inl (by unfold relS;rw [he];simp))
 have hcd:c=d:=by
  obtain ⟨i,hi⟩:=XF hc;obtain ⟨j,hj⟩:=XF hd;by_cases e:i=j
  · subst e;rw [hi] at hj;cases hj;rfl
  · have:=XX.1 (VX.1 h.nd).2;have hlt:=Ze hi;have hlt':=Ze hj;rcases Nat.lt_or_gt_of_ne e with h1|h1
    · have:=this i j hlt hlt' h1 (hdI d) (by rw [(Xh.1 hi).2];exact hm) (hdI d) (by rw [(Xh.1 hj).2];exact Jk (h.ne d hd));exact UB rfl this
    · have:=this j i hlt' hlt h1 (hdI d) (by rw [(Xh.1 hj).2];exact Jk (h.ne d hd)) (hdI d) (by rw [(Xh.1 hi).2];exact hm);exact UB rfl this
 exact hne (by rw [hcd])
theorem Ze6 {n:Nat} {E R:Nat→Nat→Bool} {cs:List (List Int)} (hR:Closed n E R) (h:Comps (upTo n) (relS R) cs) (a b c:{c//c∈cs}) (h1:cmpSeq R a.1 b.1<0) (h2:cmpSeq R b.1 c.1<0):cmpSeq R a.1 c.1<0:=by
 have hin:=(Jf h).1
 have ba:=hin a.1 a.2 _ (Jk (h.ne _ a.2))
 have bb:=hin b.1 b.2 _ (Jk (h.ne _ b.2))
 have bc:=hin c.1 c.2 _ (Jk (h.ne _ c.2))
 rw [Tq] at h1 h2 ⊢
 have hac:=hR.2 (hdI a.1).toNat (hdI b.1).toNat (hdI c.1).toNat oM oM oM h1.2 h2.2
 refine ⟨fun e=>?_,hac⟩
 have:=Gr h a.2 b.2 h1.1
 rw [←e] at h2
 rw [h1.2,h2.2] at this;exact this rfl
theorem Ze7 {n:Nat} {E R:Nat→Nat→Bool} {cs:List (List Int)} (hR:Closed n E R) (h:Comps (upTo n) (relS R) cs) (a b c:{c//c∈cs}) (h1:¬cmpSeq R a.1 b.1<0) (h2:¬cmpSeq R b.1 c.1<0):¬cmpSeq R a.1 c.1<0:=by
 have hin:=(Jf h).1
 have ba:=hin a.1 a.2 _ (Jk (h.ne _ a.2))
 have bb:=hin b.1 b.2 _ (Jk (h.ne _ b.2))
 have bc:=hin c.1 c.2 _ (Jk (h.ne _ c.2))
 by_cases e1:hdI a.1=hdI b.1
 · unfold cmpSeq at h2 ⊢;rw [e1];exact h2
 · by_cases e2:hdI b.1=hdI c.1
   · unfold cmpSeq at h1 ⊢;rw [←e2];exact h1
   · rw [Tq] at h1 h2 ⊢;have r1:R (hdI b.1).toNat (hdI a.1).toNat=true:=by
      have h3:=Gr h a.2 b.2 e1;(have h4:R (hdI a.1).toNat (hdI b.1).toNat=false:=by rw [←X'];exact fun hh=>h1 ⟨e1,hh⟩);rw [h4] at h3
      cases hx:R (hdI b.1).toNat (hdI a.1).toNat with
      |true=>rfl
      |false=>rw [hx] at h3;exact UB rfl h3
     have r2:R (hdI c.1).toNat (hdI b.1).toNat=true:=by
      have h3:=Gr h b.2 c.2 e2;(have h4:R (hdI b.1).toNat (hdI c.1).toNat=false:=by rw [←X'];exact fun hh=>h2 ⟨e2,hh⟩);rw [h4] at h3
      cases hx:R (hdI c.1).toNat (hdI b.1).toNat with
      |true=>rfl
      |false=>rw [hx] at h3;exact UB rfl h3
     have r3:=hR.2 (hdI c.1).toNat (hdI b.1).toNat (hdI a.1).toNat oM oM oM r2 r1;rintro ⟨e3,r4⟩;have:=Gr h a.2 c.2 e3;rw [r4,r3] at this;exact this rfl
theorem ζu (n:Nat) (R:Nat→Nat→Bool) (x y:Int) (hx:0≤x∧x<n) (hy:0≤y∧y<n):AF prog 52 [Zg x,Zg y, .sptr 0 [On n R]] (· =Zo (relS R x y)):=by
 obtain ⟨a,rfl⟩:∃a:Nat,x=a:=⟨x.toNat,oM⟩
 obtain ⟨b,rfl⟩:∃b:Nat,y=b:=⟨y.toNat,oM⟩
 have e1:=ZI (fun i=>YL n (R i)) (show a<n by omega)
 have e2:=ZI (fun j=>Zo (R a j)) (show b<n by omega)
 have e3:=ZI (fun i=>YL n (R i)) (show b<n by omega)
 have e4:=ZI (fun j=>Zo (R b j)) (show a<n by omega)
 refine AF.of_body 21 func52 rfl ntmps52 (Xa rfl) ?_
 intro w0 M0 vs hl hv
 obtain ⟨v0,v1,v2,rfl⟩:=RX hl
 obtain rfl:=hv 0 _ _ rfl rfl
 obtain rfl:=hv 1 _ _ rfl rfl
 clear hl hv
 refine Zd ?_
 (refine xL 5 Zb ?_<;>refine Zc ?_)
 (refine ZR (fun i=>([]:List Nat).elem i) [] kR ?_<;>(refine yD 0 6 rfl (Zt Yy) fun v6 h=>?_;cases h)<;>refine xD 1 7 rfl Za ?_<;>refine xD 2 8 rfl (Zn ZX) ?_<;>(refine yD 3 9 rfl (Zt ZC) fun v9 h=>?_;cases h)<;>refine xD 4 10 rfl Za ?_<;>refine xD 5 11 rfl (Zn ZG) ?_<;>(refine yD 6 12 rfl (Zt ZW) fun v12 h=>?_;cases h)<;>(refine yD 7 13 rfl (Zt Yy) fun v13 h=>?_;cases h)<;>refine xD 8 14 rfl Za ?_<;>refine xD 9 15 rfl (Zn ZX) ?_<;>(refine yD 10 16 rfl (Zt ZC) fun v16 h=>?_;cases h)<;>refine xE 11 17 rfl Za ?_<;>refine xE 12 18 rfl (Zn ZG) ?_<;>(refine yE 13 19 rfl (Zt ZW) fun v19 h=>?_;cases h)<;>refine xE 14 20 rfl (ZeW underlying4) ?_<;>refine xE 15 5 rfl Zb ?_<;>refine YU kR (nav ?_)<;>try dsimp only)
 exact Zi results52 rfl rfl
theorem Zd5 (n:Nat) (R:Nat→Nat→Bool) (x y:List Int) (hx:x≠[]) (hy:y≠[]) (hx2:∀z∈x,0≤z∧z<n) (hy2:∀z∈y,0≤z∧z<n):AFg prog 54 [pInts x,pInts y, .sptr 0 [On n R]] (· = .val (.int .i64 (cmpSeq R x y))):=by
 have hxl:=X5.2 hx
 have hyl:=X5.2 hy
 have bx:=hx2 _ (Jk hx)
 have bY:=hy2 _ (Jk hy)
 obtain ⟨a,ha⟩:∃a:Nat,hdI x=a:=⟨(hdI x).toNat,oM⟩
 obtain ⟨b,hb⟩:∃b:Nat,hdI y=b:=⟨(hdI y).toNat,oM⟩
 have e0:(x.map Zg)[0*1]? =some (Zg (a:Nat)):=by
  cases x with
  |nil=>exact UB rfl hx
  |cons z t=>show some (Zg z)=_;rw [show z=a from ha]
 have e0':(y.map Zg)[0*1]? =some (Zg (b:Nat)):=by
  cases y with
  |nil=>exact UB rfl hy
  |cons z t=>show some (Zg z)=_;rw [show z=b from hb]
 have e1:=ZI (fun i=>YL n (R i)) (show a<n by omega)
 have e2:=ZI (fun j=>Zo (R a j)) (show b<n by omega)
 refine AFg.of_body 24 func54 rfl ntmps54 (Xa rfl) ?_
 intro w0 M0 vs hl hv
 obtain ⟨v0,v1,v2,rfl⟩:=RX hl
 clear hl hv
 dsimp only [pInts]
 refine Zd ?_
 (refine xL 5 Zb ?_<;>refine Zc ?_)
 (refine ZR (fun i=>([]:List Nat).elem i) [] kR ?_<;>refine xD 0 6 rfl Za ?_<;>refine xD 1 7 rfl (Zn (i:=0) ZE) ?_<;>(refine yD 2 8 rfl (Zt Zx) fun v8 h=>?_;cases h)<;>refine xE 3 9 rfl Za ?_<;>refine xE 4 10 rfl (Zn (i:=0) ZE) ?_<;>(refine yE 5 11 rfl (Zt Zx) fun v11 h=>?_;cases h)<;>refine xE 6 12 rfl YY ?_<;>refine YU kR (nav ?_)<;>try dsimp only)
 refine cX ?_ ?_<;>intro hb12
 · first|exact bN hb12|(
 refine Zd ?_;(refine xL 5 Zb ?_<;>refine Zc ?_)
 refine Zi (results54) rfl ?_;unfold cmpSeq;rw [ha,hb,UA hb12])
 · first|exact bN hb12|(
 refine nav ?_;(refine ZR (fun i=>([]:List Nat).elem i) [] kR ?_<;>(refine yD 0 13 rfl (Zt Yy) fun v13 h=>?_;cases h)<;>refine xD 1 14 rfl Za ?_<;>refine xD 2 15 rfl (Zn (i:=0) ZE) ?_<;>(refine yD 3 16 rfl (Zt Zx) fun v16 h=>?_;cases h)<;>refine xD 4 17 rfl (Zn ZX) ?_<;>(refine yD 5 18 rfl (Zt ZC) fun v18 h=>?_;cases h)<;>refine xE 6 19 rfl Za ?_<;>refine xE 7 20 rfl (Zn (i:=0) ZE) ?_<;>(refine yE 8 21 rfl (Zt Zx) fun v21 h=>?_;cases h)<;>refine xE 9 22 rfl (Zn ZG) ?_<;>(refine yE 10 23 rfl (Zt ZW) fun v23 h=>?_;cases h)<;>refine YU kR (nav ?_)<;>try dsimp only)
 refine cX ?_ ?_<;>intro hb23
 · first|exact bN hb23|(
 refine Zd ?_;(refine xL 5 Zb ?_<;>refine Zc ?_)
 refine Zi (results54) rfl ?_;unfold cmpSeq;rw [ha,hb,Uz hb12,Xt,Xt,UA hb23])
 · first|exact bN hb23|(
 refine Zd ?_;(refine xL 5 Zb ?_<;>refine Zc ?_)
 refine Zi (results54) rfl ?_;unfold cmpSeq;rw [ha,hb,Uz hb12,Xt,Xt,Uz (by rw [hb23];simp)]))
theorem Cu:Ct prog 53 54:=fun enc h1 cf hO cb blk cap d w hcmp hH hblk hsz=>Tryz.slices_SortFunc enc h1 cf hO 54 cb blk 0 cap d w (call54) hcmp hH hblk hsz
structure SeqCs (n:Nat) (R:Nat→Nat→Bool) (cs:List (List Int)):Prop where
 cl:∃ds,Comps (upTo n) (relS R) ds∧cs.Perm ds
 ord:∀(i j:Nat) (a b:List Int),i<j→cs[i]? =some a→cs[j]? =some b→¬cmpSeq R b a<0
set_option maxHeartbeats 1000000 in
theorem ZaS (g:Dfg) (l:List ByteArray) (n:Nat) (E:Nat→Nat→Bool) (S F:Nat→Bool) (hb:AF prog 46 [WS g] (· = .tup [W1 l n E S F,Zg 0])) (hl:l.length=n) (hn:n≤1000) (hn0:0<n):AF prog 15 [WS g] (fun p=>∃cs,SeqCs n (ZT n E) cs∧p=Pz l 2 cs):=by
 refine AF.of_body 31 func15 rfl ntmps15 (Xa rfl) ?_
 intro w0 M0 vs hl hv
 obtain ⟨v0,rfl⟩:=WO hl
 clear hl hv
 refine Zd ?_
 (refine Yr 1 4 fun h1=>?_<;>refine ZV [(.int .i64 0),(.slice none 0 0)] 2 2 WM fun h2=>?_<;>refine xL 3 Zb ?_<;>refine Zh ?_)
 ((refine yL 9 (YG 1 Z9) fun v9 h=>?_;cases h)<;>(refine cP 10 (cA call46 (hb)) fun va10 vb10 hva10 h=>?_;cases h)<;>refine xL 8 Za (xL 11 Zl (xL 12 Zl (xL 4 Zb (xL 5 Zb ?_))))<;>refine Zh ?_)
 (refine xL 13 Za (xL 14 Y9 ?_)<;>refine Zc ?_)
 refine cX ?_ ?_<;>intro hb14
 · exfalso;omega
 · refine Zd ?_;(refine xL 17 Za ?_<;>(refine cS 18 (cA call51 (Pq l n E (YL n S) (YL n F) hl hn)) fun v18 h=>?_;cases h)<;>refine ZV [(.slice none 0 0)] 1 6 OQ fun h6=>?_<;>refine Rs 6 Yy OP ?_<;>refine Zc ?_)
   refine Zz (K' (l:=6) (t:=6) (j:=0) rfl X3 rfl) fun _=>?_;dsimp only [Yf,share,List.map,W1];(refine Zk ?_<;>refine xL 19 Za ?_<;>(refine cS 20 (cA call49 ((DY l _ oM).mono (R':=(· =pInts (upTo n))) fun p hp=>by rw [hp,hl])) fun v20 h=>?_;cases h)<;>refine xL 21 JO ?_<;>(refine JK 22 rfl rfl (Xa rfl) rfl (cA call48 (JV 52 [.sptr 0 [On n (ZT n E)]] (relS (ZT n E)) (upTo n) (JW n) (by rw [W8];omega) (call52) (fun x hx y hy=>ζu n (ZT n E) x y (Yk.1 hx) (Yk.1 hy)))) ?_;rintro p' ⟨cs,hcs,rfl⟩;refine ⟨rfl,fun h22 ho22=>?_⟩)<;>refine xL 7 Zb ?_<;>refine Zc ?_)
   have hin:=Jf hcs;have hcp:0<cs.attach.length:=by
    rw [VO]
    cases cs with
    |nil=>have:=(hcs.mem 0).2 (Yk.2 ⟨oM,oM⟩);simp at this
    |cons=>simp
   rw [show cs.map pInts=cs.attach.map (fun c:{c//c∈cs}=>pInts c.1) by rw [List.attach_map_val (f:=pInts)],show cs.length=cs.attach.length from VO.symm];(refine Zk ?_<;>refine xL 23 Za (xL 24 JO ?_)<;>(refine ζr (β:={c//c∈cs}) (f:=fun c=>pInts c.1) (cmp:=fun a b=>cmpSeq (ZT n E) a.1 b.1) (rows:=cs.attach) 22 Cu (call53) (fun _=>rfl) (fun a=>by unfold cmpSeq;rw [UA rfl];decide) (Ze6 (Jq n E) hcs) (Ze7 (Jq n E) hcs) (fun x _ y _=>Zd5 n (ZT n E) x.1 y.1 (hcs.ne _ x.2) (hcs.ne _ y.2) (hin.1 _ x.2) (hin.1 _ y.2)) hcp (by rw [VO];omega) (fun rows' hperm hord=>?_))<;>refine Zc ?_)
   obtain ⟨ds,hds⟩:∃ds,ds=rows'.map (·.1):=⟨_,rfl⟩;have hpd:ds.Perm cs:=by rw [hds];have:=hperm.map (·.1);rw [List.attach_map_subtype_val] at this;exact this
   have hsq:SeqCs n (ZT n E) ds:=⟨⟨cs,hcs,hpd⟩,fun i j a b hij ha hb=>by
    rw [hds,Xl,XQ] at ha hb;obtain ⟨a',ha',rfl⟩:=ha;obtain ⟨b',hb',rfl⟩:=hb;exact hord i j a' b' hij ha' hb'⟩
   rw [show rows'.map (fun c:{c//c∈cs}=>pInts c.1)=ds.map pInts by rw [hds,Xs];rfl,show cs.attach.length=ds.length by rw [VO];exact hpd.length_eq.symm];refine Zz (En.freeze (l:=22) (t:=7) rfl rfl) fun _=>?_;rw [KH _ _ _ rfl];have hdi:∀c∈ds,∀x∈c,0≤x∧x<l.length:=fun c hc=>by rw [hl];exact hin.1 c (hpd.mem_iff.1 hc)
   have hdl:ds.length≤1000000:=by rw [hpd.length_eq];omega
   have hdc:∀c∈ds,c.length≤1000000:=fun c hc=>by have:=hin.2.2 c (hpd.mem_iff.1 hc);omega
   (refine Zk ?_<;>refine xL 26 Za (xL 27 Za ?_)<;>(by_cases hm:ds.length<2<;>first|(refine cP 28 (cA call47 (Lv l _ 2 ds hm)) fun va28 vb28 hva28 h=>?_;cases h)|(refine cP 28 (cA call47 (T0 l _ 2 ds oM hdi hdl hdc)) fun va28 vb28 hva28 h=>?_;cases h))<;>refine xL 29 Zl (xL 30 Zl ?_)<;>refine YN 2 Z5 ?_<;>refine xL 3 Zb ?_<;>refine Zc ?_)<;>(
 refine Kz (k:=2) 2 kR (results15) rfl rfl rfl (Xa rfl) dC rfl ⟨ds,hsq,?_⟩;unfold Pz
 first
  |(rw [UA hm];rfl)
  |(rw [Uz hm];rfl))
end Go.Proofs.YtmkojdfiadbeeaaGreat
namespace Go.Cb
open Go.En
set_option linter.all false
def T2 (c:List Int):Int:=c[0]?.getD 0
theorem OS {c:List Int} (h:c≠[]):T2 c∈c:=by
 cases c with
 |nil=>exact UB rfl h
 |cons a t=>exact XG
end Go.Cb
namespace Go.Proofs.YtmkojdfiadbeeaaGreat
open Go.RowKit Go.Cb Go.En Tryz
set_option linter.all false
set_option maxRecDepth 100000
theorem Zcx {w:World} {B e k n:Nat} {v:Value} {xs:List Value} (h:w.ownsRow B e k v n xs):w.ownsRow 0 e k v n xs:=⟨h.1,h.2.imp id fun ⟨g,cap,cur,h1,_,h3⟩=>⟨g,cap,cur,h1,XA _,h3⟩⟩
theorem Su {w w':World} {M:BS} {v:Value} {e:Ending} {n te:Nat} {xs:List Value} (h1:e= .returned v) (h2:Ext w w') (h3:w'.ownsRow w.heap.size te 1 v n xs):JI ⟨w,M,fun _=>False,0,False,[]⟩ (· = .own te 1 n (xs.map PV.val)) e w':=by
 refine ⟨v,_,fun b=>v.ownBlock=some b,h1,rfl,h2, .own xs (fun _ _=>False) (Zcx h3) sM (fun i x p hx hp=>?_) (fun _ _ _ _ _ _ h=>h.elim) (fun _ _ _ h=>h.elim) (fun b=>⟨fun h=> .inl h,fun h=>h.elim id fun ⟨_,_,h⟩=>h.elim⟩),fun b hb=>(h3.lt b hb).1,fun h=>h.elim⟩
 rw [Xl,hx] at hp
 cases hp
 exact .shr (.val _) (fun _ h=>h)
theorem PC (l:List Int) (hl:l.length≤1000000):AF prog 59 [pInts l] (· = .own 3 1 l.length (l.map Zg)):=fun M w vs hM hlen hv=>by
 obtain ⟨v,rfl⟩:=WO hlen
 have hS:=hv 0 v _ rfl rfl
 unfold pInts at hS
 generalize hn:l.length=n at hS
 generalize hcs:l.map Zg=cs at hS
 cases hS with
 | emp a c hc ha=>
   have:l=[]:=XC hn;subst this
   cases a with
   |none=>exact (Tryz.slices_Clone_int_nil 0 c w).mono fun e w' ⟨h1,h2⟩=>Su (n:=0) (xs:=[]) h1 (h2▸Ext.rfl' _) ⟨sM, .inl ⟨rfl,rfl⟩⟩
   |some a=>exact (Tryz.slices_Clone_int_zero a c w).mono fun e w' ⟨v',h1,h2,_,h3⟩=>Su h1 h3 h2
 | sl b off n c cs vs' hnc hc hcell hT=>
   subst hn hcs;refine (Tryz.slices_Clone_int b off l.length c l w (Xg _) oM (fun j hj=>?_)).mono fun e w' ⟨v',h1,h2,_,h3⟩=>?_
   · obtain ⟨s,hs⟩:=Z6 hj;have e1:=(hcell j (by rw [Xc];exact hj)).1;have e2:vs' j= .int .i64 s:=(hT j (Zg s) (by rw [Xl,hs];rfl)).vOf;rw [e1,e2,List.getD,hs];rfl
   · have:=Su (M:=M) h1 h3 h2;rw [XD,Xs] at this;exact this
def Gh (c:List Int) (f:Nat→Bool):Bool:=c.any fun x=>f x.toNat
def Yi (S F:Nat→Bool) (c:List Int):Bool:=Gh c S&&Gh c F
theorem Zcy (n:Nat) (f:Nat→Bool) (x:Int) (hx:0≤x∧x<n):AF prog 109 [Zg x, .sptr 0 [YL n f]] (· =Zo (f x.toNat)):=by
 obtain ⟨a,rfl⟩:∃a:Nat,x=a:=⟨x.toNat,oM⟩
 have e1:=ZI (fun j=>Zo (f j)) (show a<n by omega)
 refine AF.of_body 8 func109 rfl ntmps109 (Xa rfl) ?_
 intro w0 M0 vs hl hv
 obtain ⟨v0,v1,rfl⟩:=WT hl
 obtain rfl:=hv 0 _ _ rfl rfl
 clear hl hv
 refine Zd ?_
 (refine xL 3 Zb ?_<;>refine Zh ?_)
 ((refine yL 4 (Zt ZC) fun v4 h=>?_;cases h)<;>refine xL 5 Za (xL 6 (Zn ZG) ?_)<;>(refine yL 7 (Zt ZW) fun v7 h=>?_;cases h)<;>refine xL 3 Zb ?_<;>refine Zc ?_)
 exact Zi results109 rfl rfl
theorem ζv (l:List Int) (n:Nat) (f:Nat→Bool) (hl:∀x∈l,0≤x∧x<n):AF prog 57 [pInts l,YL n f] (· =Zo (Gh l f)):=by
 refine AF.of_body 8 func57 rfl ntmps57 (Xa rfl) ?_
 intro w0 M0 vs hl hv
 obtain ⟨v0,v1,rfl⟩:=WT hl
 clear hl hv
 refine Zd ?_
 (refine Zce 3 fun h3=>?_<;>refine xL 4 Zb ?_<;>refine Zc ?_)
 refine Zz (K' (l:=3) (t:=3) (j:=0) rfl X3 rfl) fun _=>?_
 try dsimp only [Yf,share]
 (refine Zk ?_<;>refine xL 5 Za (xL 6 JO ?_)<;>(refine cS 7 (cA call108 (TP 109 [.sptr 0 [YL n f]] (fun x=>f x.toNat) l (call109) (fun x hx=>Zcy n f x (hl x hx)))) fun v7 h=>?_;cases h)<;>refine xL 4 Zb ?_<;>refine Zc ?_)
 exact Zi results57 rfl rfl
def Sv (E:Nat→Nat→Bool) (a b:Int):Bool:=decide (a≠b)&& !(E a.toNat b.toNat&&E b.toNat a.toNat)
def selA (i0:Nat) (W:List Int→Bool) (b:Bool) (cs:List (List Int)):List (List Int):=(cs.zipIdx.filter fun x=>decide (x.2≠i0)&&(W x.1==b)).map (·.1)
theorem L3 {i0:Nat} {W:List Int→Bool} {b:Bool} {cs:List (List Int)} {k:Nat} {c:List Int} (h:cs[k]? =some c):selA i0 W b (cs.take (k+1))=selA i0 W b (cs.take k)++(if k≠i0∧W c=b then [c] else []):=by
 have hl:(cs.take k).length=k:=by rw [XW];have:=Ze h;omega
 unfold selA
 rw [Z7 h,List.zipIdx_append,VY,X1]
 congr 1
 simp only [List.zipIdx_cons,List.zipIdx_nil,hl,Xy,List.filter_cons,List.filter_nil]
 by_cases h1:k≠i0∧W c=b
 · rw [UA h1];rw [Ux h1.1,h1.2];simp
 · rw [Uz h1];by_cases h2:k≠i0
   · have h3:¬W c=b:=fun hh=>h1 ⟨h2,hh⟩;rw [show (W c==b)=false from beq_eq_false_iff_ne.2 h3];simp
   · rw [Uy h2];simp
theorem PD {i0:Nat} {W:List Int→Bool} {b:Bool} {cs:List (List Int)} {c:List Int} (h:c∈selA i0 W b cs):c∈cs∧W c=b:=by
 unfold selA at h
 obtain ⟨⟨x,i⟩,hx,rfl⟩:=Xm.1 h
 rw [XU] at hx
 simp only [Xd,Uw,beq_iff_eq] at hx
 exact ⟨by have:=List.mem_zipIdx hx.1;rw [this.2.2];exact VS _,hx.2.2⟩
theorem Ea (i0:Nat) (W:List Int→Bool) (b:Bool) (cs:List (List Int)):(selA i0 W b cs).length≤cs.length∧(selA i0 W b cs).flatten.length≤cs.flatten.length:=by
 unfold selA
 have key:∀L:List (List Int×Nat),((L.filter fun x=>decide (x.2≠i0)&&(W x.1==b)).map (·.1)).length≤L.length∧((L.filter fun x=>decide (x.2≠i0)&&(W x.1==b)).map (·.1)).flatten.length≤(L.map (·.1)).flatten.length:=fun L=>by
  induction L with
  |nil=>simp
  | cons x L ih=>
    rw [List.filter_cons];split
    · simp only [Xk,Xi,XT,Xe];omega
    · simp only [Xk,Xi,XT,Xe];omega
 have h1:=key cs.zipIdx
 rw [List.length_zipIdx,List.zipIdx_map_fst] at h1
 exact h1
def headsLe (cs:List (List Int)):Prop:=∀(i j:Nat) (a b:List Int),i<j→cs[i]? =some a→cs[j]? =some b→¬T2 b-T2 a<0
structure AndCs (cs:List (List Int)) (i0:Nat) (c0:List Int) (W:List Int→Bool) (ds:List (List Int)):Prop where
 perm:ds.Perm (selA i0 W true cs++[(c0++(selA i0 W false cs).flatten).mergeSort fun x y=>decide (x≤y)])
 ord:headsLe ds
theorem Zd6 (l:List ByteArray) (n:Nat) (E:Nat→Nat→Bool) (S F:Nat→Bool) (x y:Int) (hx:0≤x∧x<n) (hy:0≤y∧y<n):AF prog 55 [Zg x,Zg y, .sptr 0 [W1 l n E S F]] (· =Zo (Sv E x y)):=by
 obtain ⟨a,rfl⟩:∃a:Nat,x=a:=⟨x.toNat,oM⟩
 obtain ⟨b,rfl⟩:∃b:Nat,y=b:=⟨y.toNat,oM⟩
 have e1:=ZI (fun i=>YL n (E i)) (show a<n by omega)
 have e2:=ZI (fun j=>Zo (E a j)) (show b<n by omega)
 have e3:=ZI (fun i=>YL n (E i)) (show b<n by omega)
 have e4:=ZI (fun j=>Zo (E b j)) (show a<n by omega)
 refine AF.of_body 34 func55 rfl ntmps55 (Xa rfl) ?_
 intro w0 M0 vs hl hv
 obtain ⟨v0,v1,v2,rfl⟩:=RX hl
 obtain rfl:=hv 0 _ _ rfl rfl
 obtain rfl:=hv 1 _ _ rfl rfl
 clear hl hv
 dsimp only [W1]
 refine Zd ?_
 (refine xL 5 Zb ?_<;>refine Zh ?_)
 (refine xL 6 Za (xL 7 Za (xL 8 Y9 (xL 9 Za ?_)))<;>(refine bLd 9 (fun hb9=>?_) (fun hb9=>?_)<;>(first|refine kL 10 ?_|(refine yL 10 (Zt Yz) fun v10 h=>?_;cases h)))<;>(first|refine kL 11 ?_|refine xL 11 Yc ?_)<;>(first|refine kL 12 ?_|refine xL 12 (Ye YD) ?_)<;>(first|refine kL 13 ?_|(refine yL 13 (Zt Yy) fun v13 h=>?_;cases h))<;>(first|refine kL 14 ?_|refine xL 14 Za ?_)<;>(first|refine kL 15 ?_|refine xL 15 (Zn ZX) ?_)<;>(first|refine kL 16 ?_|(refine yL 16 (Zt ZC) fun v16 h=>?_;cases h))<;>(first|refine kL 17 ?_|refine xL 17 Za ?_)<;>(first|refine kL 18 ?_|refine xL 18 (Zn ZG) ?_)<;>(first|refine kL 19 ?_|(refine yL 19 (Zt ZW) fun v19 h=>?_;cases h))<;>(first|refine kL 20 ?_|refine xL 20 Za ?_)<;>(first|refine kL 21 ?_|(refine bL 20 (fun hb20=>?_) (fun hb20=>?_)<;>(first|refine kL 21 ?_|(refine yL 21 (Zt Yz) fun v21 h=>?_;cases h))))<;>(first|refine kL 22 ?_|refine xL 22 Yc ?_)<;>(first|refine kL 23 ?_|refine xL 23 (Ye YD) ?_)<;>(first|refine kL 24 ?_|(refine yL 24 (Zt Yy) fun v24 h=>?_;cases h))<;>(first|refine kL 25 ?_|refine xL 25 Za ?_)<;>(first|refine kL 26 ?_|refine xL 26 (Zn ZX) ?_)<;>(first|refine kL 27 ?_|(refine yL 27 (Zt ZC) fun v27 h=>?_;cases h))<;>(first|refine kL 28 ?_|refine xL 28 Za ?_)<;>(first|refine kL 29 ?_|refine xL 29 (Zn ZG) ?_)<;>(first|refine kL 30 ?_|(refine yL 30 (Zt ZW) fun v30 h=>?_;cases h))<;>(first|refine kL 31 ?_|refine xL 31 Zv ?_)<;>(first|refine kL 32 ?_|refine xL 32 Yj ?_)<;>refine xL 33 Zv (xL 5 Zb ?_)<;>refine Zc ?_)<;>(
 refine Zi (results55) rfl ?_;show Zo _=Zo _;unfold Sv;rw [Xt,Xt]
 first
  |(rw [Ux hb9,hb20];simp;done)
  |(rw [Uy hb9];rfl))
theorem ζw (l:List ByteArray) (n:Nat) (E:Nat→Nat→Bool) (S F:Nat→Bool) (c:List Int) (hc:∀x∈c,0≤x∧x<n):AF prog 56 [pInts c, .sptr 0 [W1 l n E S F]] (· =Zo (Yi S F c)):=by
 refine AF.of_body 18 func56 rfl ntmps56 (Xa rfl) ?_
 intro w0 M0 vs hl hv
 obtain ⟨v0,v1,rfl⟩:=WT hl
 clear hl hv
 dsimp only [W1]
 refine Zd ?_
 (refine xL 3 Zb ?_<;>refine Zh ?_)
 (refine xL 4 Za ?_<;>(refine yL 5 (Zt Yz) fun v5 h=>?_;cases h)<;>refine xL 6 Yc (xL 7 (Ye W6) ?_)<;>(refine yL 8 (Zt ZC) fun v8 h=>?_;cases h)<;>(refine cS 9 (cA call57 (ζv c n S hc)) fun v9 h=>?_;cases h)<;>refine xL 10 Za ?_<;>(refine bL 10 (fun hb10=>?_) (fun hb10=>?_)<;>(first|refine kL 11 ?_|refine xL 11 Za ?_))<;>(first|refine kL 12 ?_|(refine yL 12 (Zt Yz) fun v12 h=>?_;cases h))<;>(first|refine kL 13 ?_|refine xL 13 Yc ?_)<;>(first|refine kL 14 ?_|refine xL 14 (Ye W7) ?_)<;>(first|refine kL 15 ?_|(refine yL 15 (Zt ZC) fun v15 h=>?_;cases h))<;>(first|refine kL 16 ?_|(refine cS 16 (cA call57 (ζv c n F hc)) fun v16 h=>?_;cases h))<;>refine xL 17 Zv (xL 3 Zb ?_)<;>refine Zc ?_)<;>(
 refine Zi (results56) rfl ?_;show Zo _=Zo _;unfold Yi;rw [hb10];simp)
theorem Zd7 (n:Nat) (x y:List Int) (hn:n≤1000000) (hx:x≠[]) (hy:y≠[]) (hx2:∀z∈x,0≤z∧z<n) (hy2:∀z∈y,0≤z∧z<n):AFg prog 61 [pInts x,pInts y] (· = .val (.int .i64 (T2 x-T2 y))):=by
 have hxl:=X5.2 hx
 have hyl:=X5.2 hy
 have bx:=hx2 _ (OS hx)
 have bY:=hy2 _ (OS hy)
 have e0:(x.map Zg)[0*1]? =some (Zg (T2 x)):=by
  cases x with
  |nil=>exact UB rfl hx
  |cons z t=>rfl
 have e0':(y.map Zg)[0*1]? =some (Zg (T2 y)):=by
  cases y with
  |nil=>exact UB rfl hy
  |cons z t=>rfl
 refine AFg.of_body 12 func61 rfl ntmps61 (Xa rfl) ?_
 intro w0 M0 vs hl hv
 obtain ⟨v0,v1,rfl⟩:=WT hl
 clear hl hv
 dsimp only [pInts]
 refine Zd ?_
 (refine xL 4 Zb ?_<;>refine Zc ?_)
 (refine ZR (fun i=>([]:List Nat).elem i) [] kR ?_<;>refine xD 0 5 rfl Za ?_<;>refine xD 1 6 rfl (Zn (i:=0) ZE) ?_<;>(refine yD 2 7 rfl (Zt Zx) fun v7 h=>?_;cases h)<;>refine xE 3 8 rfl Za ?_<;>refine xE 4 9 rfl (Zn (i:=0) ZE) ?_<;>(refine yE 5 10 rfl (Zt Zx) fun v10 h=>?_;cases h)<;>refine xE 6 11 rfl KW ?_<;>refine xE 7 4 rfl Zb ?_<;>refine YU kR (nav ?_)<;>try dsimp only)
 exact Zi results61 rfl rfl
theorem ZaT:Ct prog 53 61:=fun enc h1 cf hO cb blk cap d w hcmp hH hblk hsz=>Tryz.slices_SortFunc enc h1 cf hO 61 cb blk 0 cap d w (call61) hcmp hH hblk hsz
def Zf4 (l:List ByteArray) (n:Nat) (E:Nat→Nat→Bool) (S F:Nat→Bool) (p:PV):Prop:=∃cs,Comps (upTo n) (Sv E) cs∧((idx (Yi S F) cs<0∧p= .tup [.agg [Zg 0, .val (.slice none 0 0)],Zg 10])∨∃i0 c0 ds,cs[i0]? =some c0∧idx (Yi S F) cs=(i0:Nat)∧AndCs cs i0 c0 (Yi S F) ds∧p=Pz l 3 ds)
set_option maxHeartbeats 2000000 in
theorem ZaU (g : Dfg) (l:List ByteArray) (n:Nat) (E:Nat→Nat→Bool) (S F:Nat→Bool) (hb:AF prog 46 [WS g] (· = .tup [W1 l n E S F,Zg 0])) (hl:l.length=n) (hn:n≤1000):AF prog 16 [WS g] (Zf4 l n E S F):=by
 refine AF.of_body 74 func16 rfl ntmps16 (Xa rfl) ?_
 intro w0 M0 vs hl hv
 obtain ⟨v0,rfl⟩:=WO hl
 clear hl hv
 refine Zd ?_
 (refine Yr 1 4 fun h1=>?_<;>refine ZV [(.int .i64 0),(.slice none 0 0)] 2 2 WM fun h2=>?_<;>refine xL 3 Zb ?_<;>refine Zh ?_)
 ((refine yL 14 (YG 1 Z9) fun v14 h=>?_;cases h)<;>(refine cP 15 (cA call46 (hb)) fun va15 vb15 hva15 h=>?_;cases h)<;>refine xL 13 Za (xL 16 Zl (xL 17 Zl ?_))<;>refine ZV [(.pointer none)] 1 4 Sr fun h4=>?_<;>refine Rs 4 Yz Sq ?_<;>refine xL 5 Zb ?_<;>refine Zh ?_)
 (refine xL 18 Za (xL 19 Y9 ?_)<;>refine Zc ?_)<;>(try (exfalso;omega))<;>(
 refine cX ?_ ?_<;>intro hb19
 · exfalso;omega
 · refine nav ?_;refine Zz (K' (l:=4) (t:=4) (j:=0) rfl X3 rfl) fun _=>?_;dsimp only [Yf,share,List.map,W1];(refine Zk ?_<;>(refine yL 22 (Zt Yz) fun v22 h=>?_;cases h)<;>(refine cS 23 (cA call49 ((DY l _ oM).mono (R':=(· =pInts (upTo n))) fun p hp=>by rw [hp,hl])) fun v23 h=>?_;cases h)<;>refine xL 24 JO ?_<;>(refine JK 25 rfl rfl (Xa rfl) rfl (cA call48 (JV 55 [.sptr 0 [W1 l n E S F]] (Sv E) (upTo n) (JW n) (by rw [W8];omega) (call55) (fun x hx y hy=>Zd6 l n E S F x y (Yk.1 hx) (Yk.1 hy)))) ?_;rintro p' ⟨cs,hcs,rfl⟩;refine ⟨rfl,fun h25 ho25=>?_⟩;refine Yg (En.freeze (l:=25) (t:=25) rfl rfl) fun _=>?_;rw [KH _ _ _ rfl])<;>refine xL 6 Zb ?_<;>refine Zh ?_)
   (refine xL 26 JO (xL 7 Zb ?_)<;>refine Zc ?_)
   have hin:=Jf hcs;(refine Zk ?_<;>refine xL 27 Za (xL 28 Za ?_)<;>(refine cS 29 (cA call58 (Rt 56 [.sptr 0 [W1 l n E S F]] (Yi S F) cs (call56) (fun c hc=>ζw l n E S F c (hin.1 c hc)))) fun v29 h=>?_;cases h)<;>refine xL 8 Zb ?_<;>refine Zh ?_)
   (refine xL 30 Za (xL 31 ZN ?_)<;>refine Zc ?_)
   refine cX ?_ ?_<;>intro hb31
   · first|exact bN hb31|(
 refine Zd ?_;(refine xL 32 (Yt L1) ?_<;>refine YN 2 Z5 ?_<;>refine xL 3 Zb ?_<;>refine Zc ?_)
 exact Kz (k:=2) 2 kR (results16) rfl rfl rfl (Xa rfl) dC rfl ⟨cs,hcs, .inl ⟨hb31,rfl⟩⟩)
   · first | exact bN hb31|(
 obtain ⟨i0,hi0⟩:∃i0:Nat,idx (Yi S F) cs=i0:=⟨(idx (Yi S F) cs).toNat,oM⟩;have hib:=(Dz (Yi S F) cs).2;rw [hi0];obtain ⟨c0,hc0⟩:=Zj (show i0<cs.length by omega);have e0:=Yn (f:=pInts) hc0;have hc0m:=Xb hc0;have hc0l:=hin.2.2 c0 hc0m;refine Zd ?_;(refine xL 9 Zb ?_<;>refine Zh ?_)
 (refine xL 33 Za (xL 34 Za (xL 35 (Zn WI) ?_))<;>(refine yL 36 (Zt Gn) fun v36 h=>?_;cases h)<;>refine cO 37 (cA call59 (PC c0 oM)) fun v37 ho37=>?_<;>refine xL 10 Zb ?_<;>refine Zh ?_)
 (refine xL 38 Za (xL 39 (ZF WI) (xL 40 Za ?_))<;>refine Zc ?_)
 refine Zz (Kl 200 90 1 rfl) fun _=>?_;refine Zz (Yb (l:=37) 201 rfl rfl) fun _=>?_;refine Zw (ι:={x:Nat×Value×Value×List (List Int)×List Int//x.1≤cs.length∧x.2.2.1.oneCell'=true∧x.2.2.2.1=selA i0 (Yi S F) true (cs.take x.1)∧x.2.2.2.2=c0++(selA i0 (Yi S F) false (cs.take x.1)).flatten}) (fun k=>⟨[(2,_,_),(4,_,_),(7,_,_),(8,_,_),(38,_,_),(39,_,_),(9,k.1.2.1, .val k.1.2.1),(10,k.1.2.2.1, .val k.1.2.2.1),(40, .int .i64 k.1.1,Zg k.1.1)],[(2,_,_),(200,k.1.2.1, .own 90 1 k.1.2.2.2.1.length (k.1.2.2.2.1.map pInts)),(201,k.1.2.2.1, .own 3 1 k.1.2.2.2.2.length (k.1.2.2.2.2.map Zg))]⟩) (fun k=>cs.length-k.1.1) ⟨(0, .slice none 0 0,v37,[],c0),XA _,ho37,rfl,(Xu c0).symm⟩ (fun a w H=>H.weaken ⟨rfl,rfl,rfl,rfl,rfl,rfl,rfl,rfl,rfl,trivial⟩ ⟨rfl,rfl,rfl,trivial⟩) ?_;rintro ⟨⟨k,ha,hbv,A,B⟩,hk,hob,hA,hB⟩;dsimp only;dsimp only at hk hob hA hB;have hAl:A.length≤1000:=by
  have:=(Ea i0 (Yi S F) true (cs.take k)).1;rw [hA];rw [XW] at this;omega
 have hBl:B.length≤2000:=by
  have h1:=(Ea i0 (Yi S F) false (cs.take k)).2;have h2:(cs.take k).flatten.length≤cs.flatten.length:=by
   (have:cs.flatten=(cs.take k).flatten++(cs.drop k).flatten:=by rw [←Vi,Um]);rw [this,Xe];omega
  have h3:=K4 hcs.nd (fun x hx=>(hcs.mem x).1 hx);rw [W8] at h3;rw [hB,Xe];omega
 have hAm:(A.map pInts).length=A.length:=Xc _;have hBm:(B.map Zg).length=B.length:=Xc _;refine Zd ?_;(refine xL 41 ZN ?_<;>refine Zc ?_)
 refine cX ?_ ?_<;>intro hb41
 · first | exact bN hb41|(
 obtain ⟨cl,hx⟩:=Zj (show k<cs.length by omega);have e1:=Yn (f:=pInts) hx;have hcm:=Xb hx;have hcll:=hin.2.2 cl hcm;have s1:=L3 (i0:=i0) (W:=Yi S F) (b:=true) hx;have s2:=L3 (i0:=i0) (W:=Yi S F) (b:=false) hx;(have e2:(cl.map Zg).length=cl.length*1:=by rw [Xc,XL]);(have e3:(cl.map Zg).all En.one=true:=by rw [List.all_map,Xf];intro x _;rfl);refine Zd ?_;(refine xL 42 Za (xL 43 (Zn WI) ?_)<;>(refine yL 44 (Zt Gn) fun v44 h=>?_;cases h)<;>refine xL 11 Zb (xL 12 Zb ?_)<;>refine Zh ?_)
 (refine xL 49 Za (xL 50 Za (xL 51 YY (xL 48 Zb ?_)))<;>refine Zc ?_)
 refine cX ?_ ?_<;>intro hb48
 · first |exact bN hb48|(
 refine Zd ?_;(refine xL 60 ZB (xL 40 Za ?_)<;>refine Zc ?_)
 try refine Ys (Yb (l:=59) 200 rfl rfl) fun _=>?_
 try refine Ys (Yb (l:=47) 201 rfl rfl) fun _=>?_
 try rw [show A.map pInts++[pInts cl]=(A++[cl]).map pInts by simp,show A.length+1=(A++[cl]).length by simp]
 try rw [show B.map Zg++cl.map Zg=(B++cl).map Zg by simp,show B.length+cl.length=(B++cl).length by simp]
 first
  | (exact Zf (
      ⟨(k+1,h59,hbv,A++[cl],B),by show k+1≤cs.length;omega,hob,by show A++[cl]=_;rw [s1,UA ⟨oM,hb52⟩,hA],by show B=_;rw [s2,Uz (fun h=>by rw [hb52] at h;exact Bool.noConfusion h.2),Xu,hB]⟩
      ) (by show cs.length-(k+1)<cs.length-k;omega) ⟨rfl,rfl,rfl,rfl,rfl,rfl,rfl,rfl,rfl,trivial⟩ ⟨rfl,rfl,rfl,trivial⟩)
  | (exact Zf (
      ⟨(k+1,ha,h47,A,B++cl),by show k+1≤cs.length;omega,ho47,by show A=_;rw [s1,Uz (fun h=>by rw [hb52] at h;exact Bool.noConfusion h.2),Xu,hA],by show B++cl=_;rw [s2,UA ⟨oM,hb52⟩,hB];simp⟩
      ) (by show cs.length-(k+1)<cs.length-k;omega) ⟨rfl,rfl,rfl,rfl,rfl,rfl,rfl,rfl,rfl,trivial⟩ ⟨rfl,rfl,rfl,trivial⟩)
  | (exact Zf (
      ⟨(k+1,ha,hbv,A,B),by show k+1≤cs.length;omega,hob,by show A=_;rw [s1,Uz (fun h=>oM),Xu,hA],by show B=_;rw [s2,Uz (fun h=>oM),Xu,hB]⟩
      ) (by show cs.length-(k+1)<cs.length-k;omega) ⟨rfl,rfl,rfl,rfl,rfl,rfl,rfl,rfl,rfl,trivial⟩ ⟨rfl,rfl,rfl,trivial⟩))
 · first | exact bN hb48|(
 refine Zd ?_;(refine xL 53 Za (xL 54 Za ?_)<;>(refine cS 55 (Li (f:=56) (ps:=[.sptr 0 [W1 l n E S F]]) rfl ⟨_,rfl⟩ (call56) rfl (ζw l n E S F cl (hin.1 cl hcm))) fun v55 h=>?_;cases h)<;>refine xL 52 Zb ?_<;>refine Zc ?_)
 refine cX ?_ ?_<;>intro hb52
 · first |exact bN hb52|(
 refine Zd ?_;(refine xL 56 Za (xL 57 Za ?_)<;>refine WF (kk:=1) 58 WX fun h58 ho58=>?_<;>refine Km 200 58 59 WX fun h59 ho59=>?_<;>refine xL 9 Zb ?_<;>refine Zh ?_)
 (refine xL 60 ZB (xL 40 Za ?_)<;>refine Zc ?_)
 try refine Ys (Yb (l:=59) 200 rfl rfl) fun _=>?_
 try refine Ys (Yb (l:=47) 201 rfl rfl) fun _=>?_
 try rw [show A.map pInts++[pInts cl]=(A++[cl]).map pInts by simp,show A.length+1=(A++[cl]).length by simp]
 try rw [show B.map Zg++cl.map Zg=(B++cl).map Zg by simp,show B.length+cl.length=(B++cl).length by simp]
 first
  | (exact Zf (
      ⟨(k+1,h59,hbv,A++[cl],B),by show k+1≤cs.length;omega,hob,by show A++[cl]=_;rw [s1,UA ⟨oM,hb52⟩,hA],by show B=_;rw [s2,Uz (fun h=>by rw [hb52] at h;exact Bool.noConfusion h.2),Xu,hB]⟩
      ) (by show cs.length-(k+1)<cs.length-k;omega) ⟨rfl,rfl,rfl,rfl,rfl,rfl,rfl,rfl,rfl,trivial⟩ ⟨rfl,rfl,rfl,trivial⟩)
  | (exact Zf (
      ⟨(k+1,ha,h47,A,B++cl),by show k+1≤cs.length;omega,ho47,by show A=_;rw [s1,Uz (fun h=>by rw [hb52] at h;exact Bool.noConfusion h.2),Xu,hA],by show B++cl=_;rw [s2,UA ⟨oM,hb52⟩,hB];simp⟩
      ) (by show cs.length-(k+1)<cs.length-k;omega) ⟨rfl,rfl,rfl,rfl,rfl,rfl,rfl,rfl,rfl,trivial⟩ ⟨rfl,rfl,rfl,trivial⟩)
  | (exact Zf (
      ⟨(k+1,ha,hbv,A,B),by show k+1≤cs.length;omega,hob,by show A=_;rw [s1,Uz (fun h=>oM),Xu,hA],by show B=_;rw [s2,Uz (fun h=>oM),Xu,hB]⟩
      ) (by show cs.length-(k+1)<cs.length-k;omega) ⟨rfl,rfl,rfl,rfl,rfl,rfl,rfl,rfl,rfl,trivial⟩ ⟨rfl,rfl,rfl,trivial⟩))
 · first |exact bN hb52|(
 refine Zd ?_;(refine xL 45 Za (xL 46 Za ?_)<;>refine DW 201 47 Y' fun h47 ho47=>?_<;>refine xL 10 Zb ?_<;>refine Zh ?_)
 (refine xL 60 ZB (xL 40 Za ?_)<;>refine Zc ?_)
 try refine Ys (Yb (l:=59) 200 rfl rfl) fun _=>?_
 try refine Ys (Yb (l:=47) 201 rfl rfl) fun _=>?_
 try rw [show A.map pInts++[pInts cl]=(A++[cl]).map pInts by simp,show A.length+1=(A++[cl]).length by simp]
 try rw [show B.map Zg++cl.map Zg=(B++cl).map Zg by simp,show B.length+cl.length=(B++cl).length by simp]
 first
  | (exact Zf (
      ⟨(k+1,h59,hbv,A++[cl],B),by show k+1≤cs.length;omega,hob,by show A++[cl]=_;rw [s1,UA ⟨oM,hb52⟩,hA],by show B=_;rw [s2,Uz (fun h=>by rw [hb52] at h;exact Bool.noConfusion h.2),Xu,hB]⟩
      ) (by show cs.length-(k+1)<cs.length-k;omega) ⟨rfl,rfl,rfl,rfl,rfl,rfl,rfl,rfl,rfl,trivial⟩ ⟨rfl,rfl,rfl,trivial⟩)
  | (exact Zf (
      ⟨(k+1,ha,h47,A,B++cl),by show k+1≤cs.length;omega,ho47,by show A=_;rw [s1,Uz (fun h=>by rw [hb52] at h;exact Bool.noConfusion h.2),Xu,hA],by show B++cl=_;rw [s2,UA ⟨oM,hb52⟩,hB];simp⟩
      ) (by show cs.length-(k+1)<cs.length-k;omega) ⟨rfl,rfl,rfl,rfl,rfl,rfl,rfl,rfl,rfl,trivial⟩ ⟨rfl,rfl,rfl,trivial⟩)
  | (exact Zf (
      ⟨(k+1,ha,hbv,A,B),by show k+1≤cs.length;omega,hob,by show A=_;rw [s1,Uz (fun h=>oM),Xu,hA],by show B=_;rw [s2,Uz (fun h=>oM),Xu,hB]⟩
      ) (by show cs.length-(k+1)<cs.length-k;omega) ⟨rfl,rfl,rfl,rfl,rfl,rfl,rfl,rfl,rfl,trivial⟩ ⟨rfl,rfl,rfl,trivial⟩))))
 · first|exact bN hb41|(
 refine nav ?_;have hkl:k=cs.length:=oM;(have hAe:A=selA i0 (Yi S F) true cs:=by rw [hA,hkl,XD]);(have hBe:B=c0++(selA i0 (Yi S F) false cs).flatten:=by rw [hB,hkl,XD]);have hBp:0<B.length:=by
  have:=X5.2 (hcs.ne c0 hc0m);rw [hBe,Xe];omega
 obtain ⟨Bs,hBs⟩:∃Bs,Bs=B.mergeSort fun x y=>decide (x≤y):=⟨_,rfl⟩;(have hBsl:Bs.length=B.length:=by rw [hBs,VN]);have hBi:∀x∈Bs,0≤x∧x<n:=fun x hx=>by
  rw [hBs,Ww,hBe,Xv] at hx;rcases hx with h|h
  · exact hin.1 c0 hc0m x h
  · obtain ⟨d,hd,hxd⟩:=XN.1 h;exact hin.1 d (PD hd).1 x hxd
 obtain ⟨rs,hrs⟩:∃rs,rs=A++[Bs]:=⟨_,rfl⟩;have hrm:∀c∈rs,c≠[]∧(∀x∈c,0≤x∧x<n)∧c.length≤2000:=fun c hc=>by
  rw [hrs,Xv,XR] at hc;rcases hc with h|rfl
  · rw [hAe] at h;have:=(PD h).1;exact ⟨hcs.ne c this,hin.1 c this,by have:=hin.2.2 c this;omega⟩
  · exact ⟨X5.1 oM,hBi,oM⟩
 (have hrl:rs.length≤2000:=by rw [hrs,Xe,Xo];omega);(have hrp:0<rs.attach.length:=by rw [VO,hrs,Xe,Xo];omega);(refine Zk ?_<;>refine xL 61 Za ?_<;>(refine DX 201 Ss (call60) ?_ hBp;rw [←hBs])<;>refine Zh ?_)
 (refine xL 63 Za (xL 64 Za ?_)<;>refine WF (kk:=1) 65 WX fun h65 ho65=>?_<;>refine Km 200 65 66 WX fun h66 ho66=>?_<;>refine xL 9 Zb ?_<;>refine Zc ?_)
 refine Zz (Kv (l:=66) (l':=201) (j:=A.length) rfl (TZ (Xc _).symm) rfl rfl) fun _=>?_;rw [L2 (Xc _).symm,K5 _ _ _ hBsl.symm];rw [show A.map pInts++[pInts Bs]=rs.attach.map (fun c:{c//c∈rs}=>pInts c.1) by rw [List.attach_map_val (f:=pInts),hrs];simp,show A.length+1=rs.attach.length by rw [VO,hrs];simp];(refine Zk ?_<;>refine xL 67 Za ?_<;>(refine ζr (β:={c//c∈rs}) (f:=fun c=>pInts c.1) (cmp:=fun a b=>T2 a.1-T2 b.1) (rows:=rs.attach) 66 ZaT (call53) (fun _=>rfl) (fun a=>oM) (fun a b c h1 h2=>oM) (fun a b c h1 h2=>oM) (fun x _ y _=>Zd7 n x.1 y.1 oM (hrm _ x.2).1 (hrm _ y.2).1 (hrm _ x.2).2.1 (hrm _ y.2).2.1) hrp (by rw [VO];omega) (fun rows' hperm hord=>?_))<;>refine Zc ?_)
 obtain ⟨ds,hds⟩:∃ds,ds=rows'.map (·.1):=⟨_,rfl⟩;(have hpd:ds.Perm rs:=by rw [hds];have:=hperm.map (·.1);rw [List.attach_map_subtype_val] at this;exact this);have hsq:AndCs cs i0 c0 (Yi S F) ds:=⟨by rw [←hAe,←hBe,←hBs,←hrs];exact hpd,fun i j a b hij ha hb=>by
  rw [hds,Xl,XQ] at ha hb;obtain ⟨a',ha',rfl⟩:=ha;obtain ⟨b',hb',rfl⟩:=hb;exact hord i j a' b' hij ha' hb'⟩
 rw [show rows'.map (fun c:{c//c∈rs}=>pInts c.1)=ds.map pInts by rw [hds,Xs];rfl,show rs.attach.length=ds.length by rw [VO];exact hpd.length_eq.symm];refine Zz (En.freeze (l:=66) (t:=9) rfl rfl) fun _=>?_;rw [KH _ _ _ rfl];(have hdi:∀c∈ds,∀x∈c,0≤x∧x<l.length:=fun c hc=>by rw [hl];exact (hrm c (hpd.mem_iff.1 hc)).2.1);(have hdl:ds.length≤1000000:=by rw [hpd.length_eq];omega);(have hdc:∀c∈ds,c.length≤1000000:=fun c hc=>by have:=(hrm c (hpd.mem_iff.1 hc)).2.2;omega);(refine Zk ?_<;>(refine yL 69 (Zt Yz) fun v69 h=>?_;cases h)<;>refine xL 70 Za ?_<;>(by_cases hm:ds.length<2<;>first|(refine cP 71 (cA call47 (Lv l _ 3 ds hm)) fun va71 vb71 hva71 h=>?_;cases h)|(refine cP 71 (cA call47 (T0 l _ 3 ds oM hdi hdl hdc)) fun va71 vb71 hva71 h=>?_;cases h))<;>refine xL 72 Zl (xL 73 Zl ?_)<;>refine YN 2 Z5 ?_<;>refine xL 3 Zb ?_<;>refine Zc ?_)<;>(
 refine Kz (k:=2) 2 kR (results16) rfl rfl rfl (Xa rfl) dC rfl ⟨cs,hcs, .inr ⟨i0,c0,ds,hc0,hi0,hsq,?_⟩⟩;unfold Pz
 first
  |(rw [UA hm];rfl)
  |(rw [Uz hm];rfl)))))
def Oo (S F:Nat→Bool) (x:Int):Bool:=S x.toNat||F x.toNat
def inL (n:Nat) (S F:Nat→Bool):List Int:=(upTo n).filter (Oo S F)
def Sw (n:Nat) (S F:Nat→Bool):List Int:=(upTo n).filter fun x=> !Oo S F x
theorem OT (k:Nat):upTo (k+1)=upTo k++[(k:Int)]:=by
 unfold upTo vec;rw [List.range_succ,X1];rfl
theorem Zcz (k:Nat) (S F:Nat→Bool):inL (k+1) S F=inL k S F++(if S k=true∨F k=true then [(k:Int)] else []):=by
 unfold inL
 rw [OT,VY]
 congr 1
 by_cases h:S k=true∨F k=true
 · rw [UA h,Vz]; · rfl
   unfold Oo;rw [Xt];rcases h with h|h<;>simp [h]
 · rw [Uz h,VA]; · rfl
   unfold Oo;rw [Xt];simpa using h
theorem ZaV (k:Nat) (S F:Nat→Bool):Sw (k+1) S F=Sw k S F++(if S k=true∨F k=true then [] else [(k:Int)]):=by
 unfold Sw
 rw [OT,VY]
 congr 1
 by_cases h:S k=true∨F k=true
 · rw [UA h,VA]; · rfl
   unfold Oo;rw [Xt];rcases h with h|h<;>simp [h]
 · rw [Uz h,Vz]; · rfl
   unfold Oo;rw [Xt];have h1:S k=false:=by simpa using fun hh=>h (.inl hh)
   have h2:F k=false:=by simpa using fun hh=>h (.inr hh)
   rw [h1,h2];rfl
theorem ZcA {n:Nat} {S F:Nat→Bool}:(inL n S F).length≤n∧∀x∈inL n S F,0≤x∧x<n:=⟨by have:=VP (Oo S F) (upTo n);rw [W8] at this;exact this,fun x hx=>Yk.1 (XU.1 hx).1⟩
theorem ζx {n:Nat} {S F:Nat→Bool}:(Sw n S F).length≤n∧∀x∈Sw n S F,0≤x∧x<n:=⟨by have:=VP (fun x=> !Oo S F x) (upTo n);rw [W8] at this;exact this,fun x hx=>Yk.1 (XU.1 hx).1⟩
theorem ZcB (n:Nat) (S F:Nat→Bool):(Sw n S F).Pairwise (· < ·):=(JW n).filter _
def Ld (n:Nat) (E:Nat→Nat→Bool) (S F:Nat→Bool) (c:List Int):Bool:=c.all fun x=>(inL n S F).all fun y=>YV n E S F y.toNat x.toNat
theorem Eb {α:Type} {p:α→Bool} {l:List α} {k:Nat} {x:α} (h:l[k]? =some x):(l.take (k+1)).all p=((l.take k).all p&&p x):=by
 rw [Z7 h,List.all_append];simp
theorem L4 {α:Type} {p:α→Bool} {l:List α} {k:Nat} {x:α} (h:l[k]? =some x):(l.take (k+1)).filter p=(l.take k).filter p++(if p x=true then [x] else []):=by
 rw [Z7 h,VY]
 by_cases hp:p x=true
 · rw [UA hp,Vz hp];rfl
 · rw [Uz hp,VA hp];rfl
def K6 (n:Nat) (E:Nat→Nat→Bool) (S F:Nat→Bool) (cs:List (List Int)):List (List Int):=
 ((inL n S F++(cs.filter fun c=> !Ld n E S F c).flatten).mergeSort fun x y=>decide (x≤y))::cs.filter (Ld n E S F)
def ZfM (l:List ByteArray) (n:Nat) (E:Nat→Nat→Bool) (S F:Nat→Bool) (p:PV):Prop:=(inL n S F=[]∧p= .tup [.agg [Zg 0, .val (.slice none 0 0)],Zg 10])∨∃cs,inL n S F≠[]∧Comps (Sw n S F) (T1 E) cs∧p=Pz l 4 (K6 n E S F cs)
theorem ZaW (p:List Int→Bool) (cs:List (List Int)):(cs.filter p).flatten.length≤cs.flatten.length:=by
 induction cs with
 |nil=>simp
 | cons c cs ih=>
   rw [List.filter_cons];split<;>simp only [XT,Xe]<;>omega
theorem ZaX {l:List Int} {r:Int→Int→Bool} {cs:List (List Int)} (h:Comps l r cs):(∀c∈cs,∀x∈c,x∈l)∧cs.length≤l.length∧(∀c∈cs,c.length≤l.length)∧cs.flatten.length≤l.length:=by
 have h3:=K4 h.nd (fun x hx=>(h.mem x).1 hx)
 refine ⟨fun c hc x hx=>(h.mem x).1 (XN.2 ⟨c,hc,hx⟩),?_,fun c hc=>?_,h3⟩
 · refine XP ?_ h3;have:∀m:List (List Int),(∀c∈m,c≠[])→m.length≤m.flatten.length:=fun m=>by
    induction m with
    |nil=>intro _;simp
    | cons c m ih=>
      intro h;have h1:=ih fun d hd=>h d (by simp [hd]);have h2:=X5.2 (h c sM);rw [XT,Xe,Xi];omega
   exact this cs h.ne
 · refine XP ?_ h3;obtain ⟨a,b,rfl⟩:=List.append_of_mem hc;simp only [Vi,XT,Xe];omega
theorem ZcC (l:List ByteArray) (n:Nat) (E:Nat→Nat→Bool) (S F:Nat→Bool) (x y:Int) (hx:0≤x∧x<n) (hy:0≤y∧y<n):AF prog 62 [Zg x,Zg y, .sptr 0 [W1 l n E S F]] (· =Zo (T1 E x y)):=by
 obtain ⟨a,rfl⟩:∃a:Nat,x=a:=⟨x.toNat,oM⟩
 obtain ⟨b,rfl⟩:∃b:Nat,y=b:=⟨y.toNat,oM⟩
 have e1:=ZI (fun i=>YL n (E i)) (show a<n by omega)
 have e2:=ZI (fun j=>Zo (E a j)) (show b<n by omega)
 refine AF.of_body 16 func62 rfl ntmps62 (Xa rfl) ?_
 intro w0 M0 vs hl hv
 obtain ⟨v0,v1,v2,rfl⟩:=RX hl
 obtain rfl:=hv 0 _ _ rfl rfl
 obtain rfl:=hv 1 _ _ rfl rfl
 clear hl hv
 dsimp only [W1]
 refine Zd ?_
 (refine xL 5 Zb ?_<;>refine Zh ?_)
 ((refine yL 6 (Zt Yz) fun v6 h=>?_;cases h)<;>refine xL 7 Yc (xL 8 (Ye YD) ?_)<;>(refine yL 9 (Zt Yy) fun v9 h=>?_;cases h)<;>refine xL 10 Za (xL 11 (Zn ZX) ?_)<;>(refine yL 12 (Zt ZC) fun v12 h=>?_;cases h)<;>refine xL 13 Za (xL 14 (Zn ZG) ?_)<;>(refine yL 15 (Zt ZW) fun v15 h=>?_;cases h)<;>refine xL 5 Zb ?_<;>refine Zc ?_)
 exact Zi results62 rfl rfl
set_option maxHeartbeats 2000000 in
theorem Cv (g : Dfg) (l : List ByteArray) (n:Nat) (E:Nat→Nat→Bool) (S F:Nat→Bool) (hb:AF prog 46 [WS g] (· = .tup [W1 l n E S F,Zg 0])) (hl:l.length=n) (hn:n≤1000):AF prog 17 [WS g] (ZfM l n E S F):=by
 refine AF.of_body 114 func17 rfl ntmps17 (Xa rfl) ?_
 intro w0 M0 vs hl hv
 obtain ⟨v0,rfl⟩:=WO hl
 clear hl hv
 refine Zd ?_
 (refine Yr 1 4 fun h1=>?_<;>refine ZV [(.int .i64 0),(.slice none 0 0)] 2 2 WM fun h2=>?_<;>refine xL 3 Zb ?_<;>refine Zh ?_)
 ((refine yL 19 (YG 1 Z9) fun v19 h=>?_;cases h)<;>(refine cP 20 (cA call46 (hb)) fun va20 vb20 hva20 h=>?_;cases h)<;>refine xL 18 Za (xL 21 Zl (xL 22 Zl ?_))<;>refine ZV [(.pointer none)] 1 4 Sr fun h4=>?_<;>refine Rs 4 Yz Sq ?_<;>refine xL 5 Zb ?_<;>refine Zh ?_)
 (refine xL 23 Za (xL 24 Y9 ?_)<;>refine Zc ?_)<;>(try (exfalso;omega))<;>(
 refine cX ?_ ?_<;>intro hb24
 · exfalso;omega
 · refine nav ?_;refine Zz (K' (l:=4) (t:=4) (j:=0) rfl X3 rfl) fun _=>?_;dsimp only [Yf,share,List.map,W1];(refine Zk ?_<;>refine xL 6 Zb (xL 7 Zb ?_)<;>refine Zh ?_)
   ((refine yL 27 (Zt Yz) fun v27 h=>?_;cases h)<;>refine xL 28 Yc (xL 29 (Ye Yx) ?_)<;>(refine yL 30 (Zt ZL) fun v30 h=>?_;cases h)<;>refine xL 31 (ZF Zu) (xL 32 Za ?_)<;>refine Zc ?_)
   refine Zz (Kl 200 3 1 rfl) fun _=>?_;refine Zz (Kl 201 3 1 rfl) fun _=>?_;refine Zw (ι:={x:Nat×Value×Value×List Int×List Int//x.1≤n∧x.2.1.oneCell'=true∧x.2.2.1.oneCell'=true∧x.2.2.2.1=inL x.1 S F∧x.2.2.2.2=Sw x.1 S F}) (fun k=>⟨[(2,_,_),(4,_,_),(31,_,_),(6,k.1.2.1, .val k.1.2.1),(7,k.1.2.2.1, .val k.1.2.2.1),(32, .int .i64 k.1.1,Zg k.1.1)],[(2,_,_),(200,k.1.2.1, .own 3 1 k.1.2.2.2.1.length (k.1.2.2.2.1.map Zg)),(201,k.1.2.2.1, .own 3 1 k.1.2.2.2.2.length (k.1.2.2.2.2.map Zg))]⟩) (fun k=>n-k.1.1) ⟨(0, .slice none 0 0, .slice none 0 0,[],[]),XA _,rfl,rfl,rfl,rfl⟩ (fun a w H=>H.weaken ⟨rfl,rfl,rfl,rfl,rfl,rfl,trivial⟩ ⟨rfl,rfl,rfl,trivial⟩) ?_;rintro ⟨⟨k,ha,hbv,A,B⟩,hk,hoa,hob,hA,hB⟩;dsimp only;dsimp only at hk hoa hob hA hB;(have hAl:A.length≤1000:=by have:=(ZcA (n:=k) (S:=S) (F:=F)).1;rw [hA];omega);(have hBl:B.length≤1000:=by have:=(ζx (n:=k) (S:=S) (F:=F)).1;rw [hB];omega);have hAm:(A.map Zg).length=A.length:=Xc _;have hBm:(B.map Zg).length=B.length:=Xc _;refine Zd ?_;(refine xL 33 ZN ?_<;>refine Zc ?_)
   refine cX ?_ ?_<;>intro hb33
   · first | exact bN hb33|(
 have hkn:k<n:=oM;have eS:=ZI (fun j=>Zo (S j)) hkn;have eF:=ZI (fun j=>Zo (F j)) hkn;have s1:=Zcz k S F;have s2:=ZaV k S F;refine Zd ?_;(refine xL 34 Za (xL 8 Zb ?_)<;>refine Zh ?_)
 ((refine yL 35 (Zt Yz) fun v35 h=>?_;cases h)<;>refine xL 36 Yc (xL 37 (Ye W6) ?_)<;>(refine yL 38 (Zt ZC) fun v38 h=>?_;cases h)<;>refine xL 39 Za (xL 40 (Zn ZG) ?_)<;>(refine yL 41 (Zt ZW) fun v41 h=>?_;cases h)<;>refine xL 42 Za ?_<;>(refine bL 42 (fun hb42=>?_) (fun hb42=>?_)<;>(first|refine kL 43 ?_|(refine yL 43 (Zt Yz) fun v43 h=>?_;cases h)))<;>(first|refine kL 44 ?_|refine xL 44 Yc ?_)<;>(first|refine kL 45 ?_|refine xL 45 (Ye W7) ?_)<;>(first|refine kL 46 ?_|(refine yL 46 (Zt ZC) fun v46 h=>?_;cases h))<;>(first|refine kL 47 ?_|refine xL 47 Za ?_)<;>(first|refine kL 48 ?_|refine xL 48 (Zn ZG) ?_)<;>(first|refine kL 49 ?_|(refine yL 49 (Zt ZW) fun v49 h=>?_;cases h))<;>refine xL 50 Zv ?_<;>refine Zc ?_)<;>(
 refine cX ?_ ?_<;>intro hb50
 · first |exact bN hb50|(
 refine Zd ?_;(refine xL 51 Za (xL 52 Za ?_)<;>refine WF (kk:=1) 53 Y' fun h53 ho53=>?_<;>refine Km 200 53 54 Y' fun h54 ho54=>?_<;>refine xL 6 Zb ?_<;>refine Zh ?_)
 (refine xL 59 ZB (xL 32 Za ?_)<;>refine Zc ?_)
 try refine Ys (Yb (l:=54) 200 rfl rfl) fun _=>?_
 try refine Ys (Yb (l:=58) 201 rfl rfl) fun _=>?_
 try rw [show A.map Zg++[Zg k]=(A++[(k:Int)]).map Zg by simp,show A.length+1=(A++[(k:Int)]).length by simp]
 try rw [show B.map Zg++[Zg k]=(B++[(k:Int)]).map Zg by simp,show B.length+1=(B++[(k:Int)]).length by simp]
 first
  | (exact Zf (
      ⟨(k+1,h54,hbv,A++[(k:Int)],B),by show k+1≤n;omega,ho54,hob,by show A++[(k:Int)]=_;rw [s1,UA (by simp [*]),hA],by show B=_;rw [s2,UA (by simp [*]),Xu,hB]⟩
      ) (by show n-(k+1)<n-k;omega) ⟨rfl,rfl,rfl,rfl,rfl,rfl,trivial⟩ ⟨rfl,rfl,rfl,trivial⟩)
  | (exact Zf (
      ⟨(k+1,ha,h58,A,B++[(k:Int)]),by show k+1≤n;omega,hoa,ho58,by show A=_;rw [s1,Uz (by simp [*]),Xu,hA],by show B++[(k:Int)]=_;rw [s2,Uz (by simp [*]),hB]⟩
      ) (by show n-(k+1)<n-k;omega) ⟨rfl,rfl,rfl,rfl,rfl,rfl,trivial⟩ ⟨rfl,rfl,rfl,trivial⟩))
 · first |exact bN hb50|(
 refine Zd ?_;(refine xL 55 Za (xL 56 Za ?_)<;>refine WF (kk:=1) 57 Y' fun h57 ho57=>?_<;>refine Km 201 57 58 Y' fun h58 ho58=>?_<;>refine xL 7 Zb ?_<;>refine Zh ?_)
 (refine xL 59 ZB (xL 32 Za ?_)<;>refine Zc ?_)
 try refine Ys (Yb (l:=54) 200 rfl rfl) fun _=>?_
 try refine Ys (Yb (l:=58) 201 rfl rfl) fun _=>?_
 try rw [show A.map Zg++[Zg k]=(A++[(k:Int)]).map Zg by simp,show A.length+1=(A++[(k:Int)]).length by simp]
 try rw [show B.map Zg++[Zg k]=(B++[(k:Int)]).map Zg by simp,show B.length+1=(B++[(k:Int)]).length by simp]
 first
  | (exact Zf (
      ⟨(k+1,h54,hbv,A++[(k:Int)],B),by show k+1≤n;omega,ho54,hob,by show A++[(k:Int)]=_;rw [s1,UA (by simp [*]),hA],by show B=_;rw [s2,UA (by simp [*]),Xu,hB]⟩
      ) (by show n-(k+1)<n-k;omega) ⟨rfl,rfl,rfl,rfl,rfl,rfl,trivial⟩ ⟨rfl,rfl,rfl,trivial⟩)
  | (exact Zf (
      ⟨(k+1,ha,h58,A,B++[(k:Int)]),by show k+1≤n;omega,hoa,ho58,by show A=_;rw [s1,Uz (by simp [*]),Xu,hA],by show B++[(k:Int)]=_;rw [s2,Uz (by simp [*]),hB]⟩
      ) (by show n-(k+1)<n-k;omega) ⟨rfl,rfl,rfl,rfl,rfl,rfl,trivial⟩ ⟨rfl,rfl,rfl,trivial⟩))))
   · first | exact bN hb33|(
 refine nav ?_;have hkn:k=n:=oM;(have hAe:A=inL n S F:=by rw [hA,hkn]);(have hBe:B=Sw n S F:=by rw [hB,hkn]);(have hAi:∀x∈A,0≤x∧x<n:=fun x hx=>by rw [hAe] at hx;exact ZcA.2 x hx);(have hBi:∀x∈B,0≤x∧x<n:=fun x hx=>by rw [hBe] at hx;exact ζx.2 x hx);(have hBasc:B.Pairwise (· < ·):=by rw [hBe];exact ZcB n S F);(refine Zk ?_<;>refine xL 60 Za (xL 61 (Wj 200 ZE) (xL 62 YY ?_))<;>refine Zc ?_)
 refine cX ?_ ?_<;>intro hb62
 · first|exact bN hb62|(
 refine Zd ?_;(refine xL 63 (Yt L1) ?_<;>refine YN 2 Z5 ?_<;>refine xL 3 Zb ?_<;>refine Zc ?_)
 exact Kz (k:=2) 2 kR (results17) rfl rfl rfl (Xa rfl) dC rfl (.inl ⟨by rw [←hAe];exact XC oM,rfl⟩))
 · first | exact bN hb62|(
 refine nav ?_;have hAp:0<A.length:=oM;refine Zz (En.freeze (l:=200) (t:=6) rfl rfl) fun _=>?_;rw [K5 _ _ _ rfl];refine Zz (En.freeze (l:=201) (t:=7) rfl rfl) fun _=>?_;rw [K5 _ _ _ rfl];(refine Zk ?_<;>refine xL 64 Za ?_<;>refine cO 65 (cA call59 (PC A oM)) fun v65 ho65=>?_<;>refine xL 9 Zb ?_<;>refine Zh ?_)
 (refine xL 10 Zb ?_<;>refine Zh ?_)
 (refine xL 66 Za (xL 67 JO ?_)<;>(refine JK 68 rfl rfl (Xa rfl) rfl (cA call48 (JV 62 [.sptr 0 [W1 l n E S F]] (T1 E) B hBasc oM (call62) (fun x hx y hy=>ZcC l n E S F x y (hBi x hx) (hBi y hy)))) ?_;rintro p' ⟨cs,hcs,rfl⟩;refine ⟨rfl,fun h68 ho68=>?_⟩;refine Yg (En.freeze (l:=68) (t:=68) rfl rfl) fun _=>?_;rw [KH _ _ _ rfl])<;>refine xL 69 (ZF WI) (xL 70 Za ?_)<;>refine Zc ?_)
 have hin:=ZaX hcs;refine Zz (Kl 200 90 1 rfl) fun _=>?_;refine Zz (Yb (l:=65) 201 rfl rfl) fun _=>?_;refine Zw (ι:={x:Nat×Value×Value×List (List Int)×List Int//x.1≤cs.length∧x.2.2.1.oneCell'=true∧x.2.2.2.1=(cs.take x.1).filter (Ld n E S F)∧x.2.2.2.2=A++((cs.take x.1).filter fun c=> !Ld n E S F c).flatten}) (fun k=>⟨[(2,_,_),(4,_,_),(6,_,_),(68,_,_),(69,_,_),(10,k.1.2.1, .val k.1.2.1),(9,k.1.2.2.1, .val k.1.2.2.1),(70, .int .i64 k.1.1,Zg k.1.1)],[(2,_,_),(200,k.1.2.1, .own 90 1 k.1.2.2.2.1.length (k.1.2.2.2.1.map pInts)),(201,k.1.2.2.1, .own 3 1 k.1.2.2.2.2.length (k.1.2.2.2.2.map Zg))]⟩) (fun k=>cs.length-k.1.1) ⟨(0, .slice none 0 0,v65,[],A),XA _,ho65,rfl,(Xu A).symm⟩ (fun a w H=>H.weaken ⟨rfl,rfl,rfl,rfl,rfl,rfl,rfl,rfl,trivial⟩ ⟨rfl,rfl,rfl,trivial⟩) ?_;rintro ⟨⟨i,hc,hdv,C,D⟩,hi,hod,hC,hD⟩;dsimp only;dsimp only at hi hod hC hD;have hCl:C.length≤1000:=by
  have:=VP (Ld n E S F) (cs.take i);rw [hC];rw [XW] at this;omega
 have hDl:D.length≤2000:=by
  have h1:=ZaW (fun c=> !Ld n E S F c) (cs.take i);have h2:(cs.take i).flatten.length≤cs.flatten.length:=by
   (have:cs.flatten=(cs.take i).flatten++(cs.drop i).flatten:=by rw [←Vi,Um]);rw [this,Xe];omega
  rw [hD,Xe];omega
 have hCm:(C.map pInts).length=C.length:=Xc _;have hDm:(D.map Zg).length=D.length:=Xc _;refine Zd ?_;(refine xL 71 ZN ?_<;>refine Zc ?_)
 refine cX ?_ ?_<;>intro hb71
 · first | exact bN hb71|(
 obtain ⟨cl,hx⟩:=Zj (show i<cs.length by omega);have e1:=Yn (f:=pInts) hx;have hcm:=Xb hx;have hcll:=hin.2.2.1 cl hcm;have s3:=L4 (p:=Ld n E S F) hx;have s4:=L4 (p:=fun c=> !Ld n E S F c) hx;(have e2:(cl.map Zg).length=cl.length*1:=by rw [Xc,XL]);(have e3:(cl.map Zg).all En.one=true:=by rw [List.all_map,Xf];intro x _;rfl);refine Zd ?_;(refine xL 72 (Zn WI) ?_<;>(refine yL 73 (Zt Gn) fun v73 h=>?_;cases h)<;>refine xL 12 Zb ?_<;>refine Zh ?_)
 (refine xL 13 Zb ?_<;>refine Zh ?_)
 (refine xL 74 Za (xL 75 (ZF ZE) (xL 76 Za ?_))<;>refine Zc ?_)
 refine Zw (ι:={x:Nat×Bool//x.1≤cl.length∧x.2=(cl.take x.1).all fun x=>A.all fun y=>YV n E S F y.toNat x.toNat}) (fun k=>⟨[(2,_,_),(4,_,_),(6,_,_),(68,_,_),(69,_,_),(9,_,_),(10,_,_),(70,_,_),(12,_,_),(74,_,_),(75,_,_),(13, .bool k.1.2,Zo k.1.2),(76, .int .i64 k.1.1,Zg k.1.1)],[(2,_,_),(200,_,_),(201,_,_)]⟩) (fun k=>cl.length-k.1.1) ⟨(0,true),XA _,rfl⟩ (fun a w H=>H.weaken ⟨rfl,rfl,rfl,rfl,rfl,rfl,rfl,rfl,rfl,rfl,rfl,rfl,rfl,trivial⟩ ⟨rfl,rfl,rfl,trivial⟩) ?_;rintro ⟨⟨q,b⟩,hq,hbe⟩;dsimp only;dsimp only at hq hbe;refine Zd ?_;(refine xL 77 ZN ?_<;>refine Zc ?_)
 refine cX ?_ ?_<;>intro hb77
 · first | exact bN hb77|(
 obtain ⟨u,hu⟩:=Zj (show q<cl.length by omega);have e4:=Yn (f:=Zg) hu;have hui:=hBi u (hin.1 cl hcm u (Xb hu));have s5:=Eb (p:=fun x:Int=>A.all fun y=>YV n E S F y.toNat x.toNat) hu;refine Zd ?_;(refine xL 78 (Zn ZE) ?_<;>(refine yL 79 (Zt Zx) fun v79 h=>?_;cases h)<;>refine xL 15 Zb ?_<;>refine Zh ?_)
 (refine xL 80 Za (xL 81 (ZF ZE) (xL 82 Za ?_))<;>refine Zc ?_)
 refine Zw (ι:={x:Nat×Bool//x.1≤A.length∧x.2=(b&&(A.take x.1).all fun y=>YV n E S F y.toNat u.toNat)}) (fun k=>⟨[(2,_,_),(4,_,_),(6,_,_),(68,_,_),(69,_,_),(9,_,_),(10,_,_),(70,_,_),(12,_,_),(74,_,_),(75,_,_),(76,_,_),(15,_,_),(80,_,_),(81,_,_),(13, .bool k.1.2,Zo k.1.2),(82, .int .i64 k.1.1,Zg k.1.1)],[(2,_,_),(200,_,_),(201,_,_)]⟩) (fun k=>A.length-k.1.1) ⟨(0,b),XA _,(V8 b).symm⟩ (fun a w H=>H.weaken ⟨rfl,rfl,rfl,rfl,rfl,rfl,rfl,rfl,rfl,rfl,rfl,rfl,rfl,rfl,rfl,rfl,rfl,trivial⟩ ⟨rfl,rfl,rfl,trivial⟩) ?_;rintro ⟨⟨s,b2⟩,hs,hb2e⟩;dsimp only;dsimp only at hs hb2e;refine Zd ?_;(refine xL 83 ZN ?_<;>refine Zc ?_)
 refine cX ?_ ?_<;>intro hb83
 · first | exact bN hb83|(
 obtain ⟨y,hy⟩:=Zj (show s<A.length by omega);have e5:=Yn (f:=Zg) hy;have hyi:=hAi y (Xb hy);have s6:=Eb (p:=fun y:Int=>YV n E S F y.toNat u.toNat) hy;have hL:=HR l n E S F y.toNat u.toNat hl hn oM oM;rw [show ((y.toNat:Nat):Int)=y by omega,show ((u.toNat:Nat):Int)=u by omega] at hL;dsimp only [W1] at hL;refine Zd ?_;(refine xL 84 (Zn ZE) ?_<;>(refine yL 85 (Zt Zx) fun v85 h=>?_;cases h)<;>refine xL 17 Zb ?_<;>refine Zh ?_)
 (refine xL 86 Za (xL 87 Za ?_)<;>(refine bL 87 (fun hb87=>?_) (fun hb87=>?_)<;>(first|refine kL 88 ?_|(refine yL 88 (Zt Yz) fun v88 h=>?_;cases h)))<;>(first|refine kL 89 ?_|refine xL 89 Za ?_)<;>(first|refine kL 90 ?_|refine xL 90 Za ?_)<;>(first|refine kL 91 ?_|(refine cS 91 (cA call63 (hL)) fun v91 h=>?_;cases h))<;>refine xL 92 Zv (xL 13 Zb ?_)<;>refine Zc ?_)<;>(
 (refine Zk ?_<;>refine xL 93 ZB (xL 82 Za ?_)<;>refine Zc ?_)
 first
  | (exact Zf (
      ⟨(s+1,YV n E S F y.toNat u.toNat),by show s+1≤A.length;omega,by show YV n E S F y.toNat u.toNat=_;rw [s6,←Bool.and_assoc,←hb2e,hb87,V9]⟩
      ) (by show A.length-(s+1)<A.length-s;omega) ⟨rfl,rfl,rfl,rfl,rfl,rfl,rfl,rfl,rfl,rfl,rfl,rfl,rfl,rfl,rfl,rfl,rfl,trivial⟩ ⟨rfl,rfl,rfl,trivial⟩)
  | (exact Zf (
      ⟨(s+1,false),by show s+1≤A.length;omega,by show false=_;rw [s6,←Bool.and_assoc,←hb2e,hb87,Bool.false_and]⟩
      ) (by show A.length-(s+1)<A.length-s;omega) ⟨rfl,rfl,rfl,rfl,rfl,rfl,rfl,rfl,rfl,rfl,rfl,rfl,rfl,rfl,rfl,rfl,rfl,trivial⟩ ⟨rfl,rfl,rfl,trivial⟩)))
 · first|exact bN hb83|(
 refine Zd ?_;(refine xL 94 ZB (xL 76 Za ?_)<;>refine Zc ?_)
 refine Zf (
  ⟨(q+1,b2),by show q+1≤cl.length;omega,by show b2=_;rw [s5,←hbe,hb2e,XV oM]⟩
  ) (by show cl.length-(q+1)<cl.length-q;omega) ⟨rfl,rfl,rfl,rfl,rfl,rfl,rfl,rfl,rfl,rfl,rfl,rfl,rfl,trivial⟩ ⟨rfl,rfl,rfl,trivial⟩))
 · first | exact bN hb77|(
 refine nav ?_;(have hbo:Ld n E S F cl=b:=by unfold Ld;rw [←hAe,hbe,XV oM]);(refine Zk ?_<;>refine xL 95 Za ?_<;>refine Zc ?_)
 refine cX ?_ ?_<;>intro hb95
 · first |exact bN hb95|(
 refine Zd ?_;(refine xL 96 Za (xL 97 Za ?_)<;>refine WF (kk:=1) 98 WX fun h98 ho98=>?_<;>refine Km 200 98 99 WX fun h99 ho99=>?_<;>refine xL 10 Zb ?_<;>refine Zh ?_)
 (refine xL 103 ZB (xL 70 Za ?_)<;>refine Zc ?_)
 try refine Ys (Yb (l:=99) 200 rfl rfl) fun _=>?_
 try refine Ys (Yb (l:=102) 201 rfl rfl) fun _=>?_
 try rw [show C.map pInts++[pInts cl]=(C++[cl]).map pInts by simp,show C.length+1=(C++[cl]).length by simp]
 try rw [show D.map Zg++cl.map Zg=(D++cl).map Zg by simp,show D.length+cl.length=(D++cl).length by simp]
 first
  | (exact Zf (
      ⟨(i+1,h99,hdv,C++[cl],D),by show i+1≤cs.length;omega,hod,by show C++[cl]=_;rw [s3,UA (by rw [hbo];exact hb95),hC],by show D=_;rw [s4,Uz (by rw [hbo,hb95];decide),Xu,hD]⟩
      ) (by show cs.length-(i+1)<cs.length-i;omega) ⟨rfl,rfl,rfl,rfl,rfl,rfl,rfl,rfl,trivial⟩ ⟨rfl,rfl,rfl,trivial⟩)
  | (exact Zf (
      ⟨(i+1,hc,h102,C,D++cl),by show i+1≤cs.length;omega,ho102,by show C=_;rw [s3,Uz (by rw [hbo,hb95];decide),Xu,hC],by show D++cl=_;rw [s4,UA (by rw [hbo,hb95];rfl),hD];simp⟩
      ) (by show cs.length-(i+1)<cs.length-i;omega) ⟨rfl,rfl,rfl,rfl,rfl,rfl,rfl,rfl,trivial⟩ ⟨rfl,rfl,rfl,trivial⟩))
 · first |exact bN hb95|(
 refine Zd ?_;(refine xL 100 Za (xL 101 Za ?_)<;>refine DW 201 102 Y' fun h102 ho102=>?_<;>refine xL 9 Zb ?_<;>refine Zh ?_)
 (refine xL 103 ZB (xL 70 Za ?_)<;>refine Zc ?_)
 try refine Ys (Yb (l:=99) 200 rfl rfl) fun _=>?_
 try refine Ys (Yb (l:=102) 201 rfl rfl) fun _=>?_
 try rw [show C.map pInts++[pInts cl]=(C++[cl]).map pInts by simp,show C.length+1=(C++[cl]).length by simp]
 try rw [show D.map Zg++cl.map Zg=(D++cl).map Zg by simp,show D.length+cl.length=(D++cl).length by simp]
 first
  | (exact Zf (
      ⟨(i+1,h99,hdv,C++[cl],D),by show i+1≤cs.length;omega,hod,by show C++[cl]=_;rw [s3,UA (by rw [hbo];exact hb95),hC],by show D=_;rw [s4,Uz (by rw [hbo,hb95];decide),Xu,hD]⟩
      ) (by show cs.length-(i+1)<cs.length-i;omega) ⟨rfl,rfl,rfl,rfl,rfl,rfl,rfl,rfl,trivial⟩ ⟨rfl,rfl,rfl,trivial⟩)
  | (exact Zf (
      ⟨(i+1,hc,h102,C,D++cl),by show i+1≤cs.length;omega,ho102,by show C=_;rw [s3,Uz (by rw [hbo,hb95];decide),Xu,hC],by show D++cl=_;rw [s4,UA (by rw [hbo,hb95];rfl),hD];simp⟩
      ) (by show cs.length-(i+1)<cs.length-i;omega) ⟨rfl,rfl,rfl,rfl,rfl,rfl,rfl,rfl,trivial⟩ ⟨rfl,rfl,rfl,trivial⟩))))
 · first|exact bN hb71|(
 refine nav ?_;have hil:i=cs.length:=oM;(have hCe:C=cs.filter (Ld n E S F):=by rw [hC,hil,XD]);(have hDe:D=A++(cs.filter fun c=> !Ld n E S F c).flatten:=by rw [hD,hil,XD]);(have hDp:0<D.length:=by rw [hDe,Xe];omega);obtain ⟨Ds,hDs⟩:∃Ds,Ds=D.mergeSort fun x y=>decide (x≤y):=⟨_,rfl⟩;(have hDsl:Ds.length=D.length:=by rw [hDs,VN]);have hDi:∀x∈Ds,0≤x∧x<n:=fun x hx=>by
  rw [hDs,Ww,hDe,Xv] at hx;rcases hx with h|h
  · exact hAi x h
  · obtain ⟨d,hd,hxd⟩:=XN.1 h;exact hBi x (hin.1 d (XU.1 hd).1 x hxd)
 obtain ⟨rs,hrs⟩:∃rs,rs=Ds::C:=⟨_,rfl⟩;have hrm:∀c∈rs,(∀x∈c,0≤x∧x<l.length)∧c.length≤1000000:=fun c hc=>by
  rw [hrs,Xn] at hc;rw [hl];rcases hc with rfl|h
  · exact ⟨hDi,oM⟩
  · rw [hCe] at h;have hm:=(XU.1 h).1;exact ⟨fun x hx=>hBi x (hin.1 c hm x hx),by have:=hin.2.2.1 c hm;omega⟩
 (have hrl:rs.length≤1000000:=by rw [hrs,Xi];omega);(have hre:rs=K6 n E S F cs:=by rw [hrs,hDs,hDe,hCe,hAe];rfl);(have e6:(C.map pInts).length=C.length*1:=by rw [Xc,XL]);(have e7:(C.map pInts).all En.one=true:=by rw [List.all_map,Xf];intro x _;rfl);(refine Zk ?_<;>refine xL 104 Za ?_<;>(refine DX 201 Ss (call60) ?_ hDp;rw [←hDs])<;>refine Zc ?_)
 refine Zz (En.freeze (l:=201) (t:=9) rfl rfl) fun _=>?_;rw [K5 _ _ _ hDsl.symm];refine Zz (En.freeze (l:=200) (t:=10) rfl rfl) fun _=>?_;rw [KH _ _ _ rfl];dsimp only [Si];(refine ZR (fun i=>([]:List Nat).elem i) [] kR ?_<;>(refine yD 0 106 rfl (Zt Yz) fun v106 h=>?_;cases h)<;>refine xD 1 107 rfl Za ?_<;>refine xD 3 109 rfl Za ?_<;>(refine Zy 2 kR ?_)<;>(refine ZA rfl fun w9 M9 N9 DQ back=>?_)<;>refine WF (kk:=1) 108 WX fun h108 ho108=>?_<;>refine Zr (back _ (nrm ?_))<;>(refine Zy 4 kR ?_)<;>(refine ZA rfl fun w9 M9 N9 DQ back=>?_)<;>refine DW 108 110 WX fun h110 ho110=>?_<;>refine Zr (back _ (nrm ?_))<;>(refine Zy 5 kR ?_)<;>(refine ZA rfl fun w9 M9 N9 DQ back=>?_)<;>(refine Yg (En.freeze (l:=110) (t:=110) rfl rfl) fun _=>?_;rw [show pInts Ds::C.map pInts=rs.map pInts by rw [hrs];rfl,KH _ _ _ (by rw [hrs,Xi];omega)];by_cases hm:rs.length<2<;>first|(refine cP 111 (cA call47 (Lv l _ 4 rs hm)) fun va111 vb111 hva111 h=>?_;cases h)|(refine cP 111 (cA call47 (T0 l _ 4 rs oM (fun c hc=>(hrm c hc).1) hrl (fun c hc=>(hrm c hc).2))) fun va111 vb111 hva111 h=>?_;cases h))<;>refine Zr (back _ (nrm ?_))<;>refine xD 6 112 rfl Zl ?_<;>refine xE 7 113 rfl Zl ?_<;>(refine Zy 8 kR ?_)<;>(refine ZA rfl fun w9 M9 N9 DQ back=>?_)<;>refine YN 2 Z5 ?_<;>refine Zr (back _ (nrm ?_))<;>refine xE 9 3 rfl Zb ?_<;>refine YU kR (nav ?_)<;>try dsimp only)<;>(
 refine Kz (k:=2) 2 kR (results17) rfl rfl rfl (Xa rfl) dC rfl (.inr ⟨cs,by rw [←hAe];exact X5.1 hAp,by rw [←hBe];exact hcs,?_⟩);rw [←hre];unfold Pz
 first
  |(rw [UA hm];rfl)
  |(rw [Uz hm];rfl))))))
end Go.Proofs.YtmkojdfiadbeeaaGreat
namespace Go.En
open Go.RowKit Go.Cb
theorem cPx {P:Program} {c:Ctx} {ops:Array Oper} {Q:Exit→Act→World→Prop} {rest:List Oper} {sL hP:List (Nat×Ent)} {o:Oper} {ι:Type} {p1 p2:ι→PV} (d:Nat) (hC:Jl P c (⟨sL,hP⟩:St) o (fun p=>∃i,p= .tup [p1 i,p2 i])) (k:∀i v1 v2,vOf (p1 i) v1→vOf (p2 i) v2→aL P c ops Q rest ⟨put d (.tuple [v1,v2].toArray, .tup [p1 i,p2 i]) sL,hP⟩) (hsh:∀i,shD (.tup [p1 i,p2 i])=true) (hw:ZK ops sL o=some true:=by exact rfl) (hd:o.dst=some d:=by exact rfl) (hn:d<c.nt:=by exact Xa rfl):aL P c ops Q (o::rest) (⟨sL,hP⟩:St):=
 Gl hw hC fun a w F w' v p' Fr H hR hx hT hlo hdw=>by
  obtain ⟨i,rfl⟩:=hR;have hS:=hT.shD (hsh i);rw [hd];have hS':Shr (mof c hP F) w' v (.tup [p1 i,p2 i]):=hS.anti fun b _ h=> .inl h
  cases hS with
  | tup vs ps hl h=>
    match vs,hl,h,hS' with
    |[v1,v2],_,h,hS'=>exact k i v1 v2 (h 0 v1 _ rfl rfl).vOf (h 1 v2 _ rfl rfl).vOf _ _ ⟨F,RP H hx hn hS'⟩
theorem cDx {P:Program} {c:Ctx} {ops:Array Oper} {Q:Exit→Act→World→Prop} {rest:List Oper} {sL hP:List (Nat×Ent)} {o:Oper} {ι:Type} {p:ι→PV} (d:Nat) (hC:Jl P c (⟨sL,hP⟩:St) o (fun q=>∃i,q=p i)) (k:∀i v,vOf (p i) v→aL P c ops Q rest ⟨put d (v,p i) sL,hP⟩) (hsh:∀i,shD (p i)=true) (hw:ZK ops sL o=some true:=by exact rfl) (hd:o.dst=some d:=by exact rfl) (hn:d<c.nt:=by exact Xa rfl):aL P c ops Q (o::rest) (⟨sL,hP⟩:St):=
 Gl hw hC fun a w F w' v p' Fr H hR hx hT hlo hdw=>by
  obtain ⟨i,rfl⟩:=hR;have hS:=hT.shD (hsh i);rw [hd];exact k i v hS.vOf _ _ ⟨F,RP H hx hn (hS.anti fun b _ h=> .inl h)⟩
end Go.En
