/-
  Walks of functions and plain laws of the chapter, as the claim needs them.
-/
import Derived.Test.YtgfabnhpllkebaaGreatDoorPz06
import Derived.Test.YtgfabnhpllkebaaGreatDoorMShelfD
import Derived.Test.YtgfabnhpllkebaaGreatDoorPz02
import Derived.Test.YtgfabnhpllkebaaGreatDoorPz03
import Derived.Test.YtgfabnhpllkebaaGreatDoorPz01
namespace Go.Proofs.YtgfabnhpllkebaaGreatDoor
open Go.RowKit Go.Cb Go.En Tryz
set_option linter.all false
set_option maxRecDepth 100000
theorem Z1:AggT prog 93 3=true:=by kernel_rfl
theorem Zl:ElT prog 36 3 1 8 (.int .i64 0):=⟨underlying36,by kernel_rfl,rfl,dC⟩
theorem ZY:FldT prog 39 0 0=true:=by kernel_rfl
theorem Yl:FldT prog 39 1 1=true:=by kernel_rfl
theorem YA:FldT prog 39 2 2=true:=by kernel_rfl
theorem Yq:FldT prog 39 3 3=true:=by kernel_rfl
theorem ZC:FldT prog 39 4 4=true:=by kernel_rfl
theorem Yv:FldT prog 93 0 0=true:=by kernel_rfl
theorem YK:FldT prog 93 1 1=true:=by kernel_rfl
theorem Wk:FldT prog 93 2 2=true:=by kernel_rfl
theorem ZB:NoAgg prog 36=true:=by kernel_rfl
theorem ZK:NoAgg prog 37=true:=by kernel_rfl
theorem ZN:SlT prog 37 93 3=true:=by kernel_rfl
theorem KU:ZeroT prog 93 (.agg #[(.int .i64 0),(.int .i64 0),(.int .i64 0)]):=by unfold ZeroT;kernel_rfl
structure Mv where
 src:Int
 dst:Int
 sym:Int
structure Aut where
 n:Int
 syms:Int
 start:List Int
 fin:List Int
 moves:List Mv
def cMv (m:Mv):List PV:=[pInt m.src,pInt m.dst,pInt m.sym]
theorem Z8 (m:Mv):(cMv m).length=3:=rfl
theorem ZjL (L:List Mv):(L.flatMap cMv).all En.one=true:=by rw [List.all_flatMap,XB];intro x _;rfl
def pMvs (l:List Mv):PV:= .sl l.length (l.flatMap cMv)
def ZO (a:Aut):PV:= .agg [pInt a.n,pInt a.syms,pInts a.start,pInts a.fin,pMvs a.moves]
def TA (a b:Int):Int:=if a<b then-1 else if b<a then 1 else 0
def JV (a b:Mv):Int:=KL [TA a.src b.src,TA a.sym b.sym,TA a.dst b.dst]
def ltI (a b:Int):Bool:=decide (a<b)
def Jo (a b:Mv):Bool:=decide (JV a b<0)
def LL (n:Int) (l:List Int):Bool:=l.all (fun x=>decide (0≤x)&&decide (x<n))&&Ws ltI l
def Dt (a:Aut) (m:Mv):Bool:=decide (0≤m.src)&&decide (m.src<a.n)&&decide (0≤m.dst)&&decide (m.dst<a.n)&&decide (-1≤m.sym)&&decide (m.sym<a.syms)
def Z4 (a:Aut):Bool:=decide (0≤a.n)&&decide (a.n≤2000)&&decide (0≤a.syms)&&decide (a.syms≤40)&&decide (a.moves.length≤20000)&&LL a.n a.start&&LL a.n a.fin&&a.moves.all (Dt a)&&Ws Jo a.moves
theorem Du (s:Int):AFg prog 237 [pInt s] (· =ZM false):=by
 refine AFg.of_body 6 func237 rfl ntmps237 (Xa rfl) ?_
 intro w0 M0 vs hl hv
 obtain ⟨v0,rfl⟩:=WL hl
 obtain rfl:=hv 0 _ _ rfl rfl
 clear hl hv
 refine Ze ?_
 (refine xL 2 Za ?_<;>refine Zg ?_)
 (refine xL 3 Zb (xL 4 Zb (xL 5 YH (xL 2 Za ?_)))<;>refine Zc ?_)
 refine Zv (results237) rfl ?_
 simp
theorem Dv (a b:Int):AFg prog 205 [pInt a,pInt b] (· =pInt (TA a b)):=by
 refine AFg.of_body 20 func205 rfl ntmps205 (Xa rfl) ?_
 intro w0 M0 vs hl hv
 obtain ⟨v0,v1,rfl⟩:=WO hl
 obtain rfl:=hv 0 _ _ rfl rfl
 obtain rfl:=hv 1 _ _ rfl rfl
 clear hl hv
 refine Ze ?_
 (refine xL 4 Za ?_<;>refine Zg ?_)
 (refine xL 7 Zb ?_<;>(refine cS 8 (cA call237 (Du a)) fun v8 h=>?_;cases h)<;>refine xL 5 Za ?_<;>refine Zg ?_)
 (refine xL 9 Zb ?_<;>(refine cS 10 (cA call237 (Du b)) fun v10 h=>?_;cases h)<;>refine xL 6 Za ?_<;>refine Zg ?_)
 (refine xL 11 Zb ?_<;>refine Zc ?_)
 refine cCf ?_
 refine Ze ?_
 (refine xL 13 Zb ?_<;>refine Zc ?_)
 refine cCf ?_
 refine Ze ?_
 (refine xL 14 Zb (xL 15 Zb (xL 16 ZQ ?_))<;>refine Zc ?_)
 refine cX ?_ ?_<;>intro hb16
 · first|exact bN hb16|(
 refine Ze ?_;(refine xL 4 Za ?_<;>refine Zc ?_)
 refine Zv (results205) rfl ?_;rw [TA,UT hb16])
 · first|exact bN hb16|(
 refine Ze ?_;(refine xL 17 Zb (xL 18 Zb (xL 19 YP ?_))<;>refine Zc ?_)
 refine cX ?_ ?_<;>intro hb19
 · first|exact bN hb19|(
 refine Ze ?_;(refine xL 4 Za ?_<;>refine Zc ?_)
 refine Zv (results205) rfl ?_;rw [TA,US oM,UT oM])
 · first|exact bN hb19|(
 refine Ze ?_;(refine xL 4 Za ?_<;>refine Zc ?_)
 refine Zv (results205) rfl ?_;rw [TA,US oM,US oM]))
theorem P3 (a b:Mv):AFg prog 153 [.agg (cMv a), .agg (cMv b)] (· =pInt (JV a b)):=by
 refine AFg.of_body 22 func153 rfl ntmps153 (Xa rfl) ?_
 intro w0 M0 vs hl hv
 obtain ⟨v0,v1,rfl⟩:=WO hl
 clear hl hv
 refine Ze ?_
 (refine ZG 2 3 fun h2=>?_<;>refine ZG 3 3 fun h3=>?_<;>refine xL 4 Za ?_<;>refine Zc ?_)
 (refine Z5 (fun i=>([]:List Nat).elem i) [2,3] kR ?_<;>refine xD 0 5 rfl (Zd 2 Yv) ?_<;>(refine yD 1 6 rfl (Zk 2 Zo) fun v6 h=>?_;cases h)<;>refine xD 2 7 rfl (Zd 3 Yv) ?_<;>(refine yD 3 8 rfl (Zk 3 Zo) fun v8 h=>?_;cases h)<;>refine xD 5 10 rfl (Zd 2 Wk) ?_<;>(refine yD 6 11 rfl (Zk 2 Zo) fun v11 h=>?_;cases h)<;>refine xD 7 12 rfl (Zd 3 Wk) ?_<;>(refine yD 8 13 rfl (Zk 3 Zo) fun v13 h=>?_;cases h)<;>refine xD 10 15 rfl (Zd 2 YK) ?_<;>(refine yD 11 16 rfl (Zk 2 Zo) fun v16 h=>?_;cases h)<;>refine xD 12 17 rfl (Zd 3 YK) ?_<;>(refine yD 13 18 rfl (Zk 3 Zo) fun v18 h=>?_;cases h)<;>(refine Zq 4 kR ?_)<;>(refine Zj rfl fun w9 M9 N9 DQ back=>?_)<;>(refine cS 9 (cA call205 (Dv a.src b.src)) fun v9 h=>?_;cases h)<;>refine Zh (back _ (nrm ?_))<;>(refine Zq 9 kR ?_)<;>(refine Zj rfl fun w9 M9 N9 DQ back=>?_)<;>(refine cS 14 (cA call205 (Dv a.sym b.sym)) fun v14 h=>?_;cases h)<;>refine Zh (back _ (nrm ?_))<;>(refine Zq 14 kR ?_)<;>(refine Zj rfl fun w9 M9 N9 DQ back=>?_)<;>(refine cS 19 (cA call205 (Dv a.dst b.dst)) fun v19 h=>?_;cases h)<;>refine Zh (back _ (nrm ?_))<;>(refine Zq 15 kR ?_)<;>(refine Zj rfl fun w9 M9 N9 DQ back=>?_)<;>refine CR (xs:=[_,_,_]) 20 Zl fun h20 ho20=>?_<;>refine Zh (back _ (nrm ?_))<;>(refine Zq 16 kR ?_)<;>(refine Zj rfl fun w9 M9 N9 DQ back=>?_)<;>(refine Zr (En.freeze (l:=20) (t:=20) rfl rfl) fun _=>?_;refine cS 21 (cA call204 (ZjJ [TA a.src b.src,TA a.sym b.sym,TA a.dst b.dst])) fun v21 h=>?_;cases h)<;>refine Zh (back _ (nrm ?_))<;>refine xE 17 4 rfl Za ?_<;>refine YC kR (nav ?_)<;>try dsimp only)
 exact Zv results153 rfl rfl
theorem Ez (l :List Int) (n:Int):AF prog 152 [pInts l,pInt n] (· =ZM (LL n l)):=by
 refine AF.of_body 35 func152 rfl ntmps152 (Xa rfl) ?_
 intro w0 M0 vs hl hv
 obtain ⟨v0,v1,rfl⟩:=WO hl
 obtain rfl:=hv 1 _ _ rfl rfl
 clear hl hv
 refine WY 0 rfl fun hlen=>?_
 refine Ze ?_
 (refine xL 4 Za ?_<;>refine Zg ?_)
 (refine xL 7 Zb (xL 8 (ZR Zu) (xL 9 Zb ?_))<;>refine Zc ?_)
 refine ZD (ι:={k:Nat//k≤l.length∧∀j x,j<k→l[j]? =some x→(0≤x∧x<n)∧∀y,1≤j→l[j-1]? =some y→ltI y x=true}) (fun k=>⟨[(0,_,_),(1,_,_),(7,_,_),(8,_,_),(9, .int .i64 k.1,pInt k.1)],[]⟩) (fun k=>l.length-k.1) ⟨0,oM,oM⟩ (fun a w H=>H.weaken ⟨rfl,rfl,rfl,rfl,rfl,trivial⟩ trivial) ?_
 rintro ⟨k,hk,hp⟩
 dsimp only
 refine Ze ?_
 (refine xL 10 ZQ ?_<;>refine Zc ?_)
 refine cX ?_ ?_<;>intro hb10
 · first | exact bN hb10|(
 obtain ⟨x,hx⟩:=Zp (show k<l.length by omega);obtain ⟨y,hy⟩:=Zp (show k-1<l.length by omega);have e1:=Ym (f:=pInt) hx;(have e2:(l.map pInt)[((k:Int)-1).toNat*1]? =some (pInt y):=by rw [show ((k:Int)-1).toNat*1=k-1 by omega];exact (by rw [Xm,hy];rfl));refine Ze ?_;(refine xL 11 Zb (xL 12 (ZF Zu) ?_)<;>(refine yL 13 (Yo Zo) fun v13 h=>?_;cases h)<;>refine xL 5 Za (xL 6 Za ?_)<;>refine Zg ?_)
 (refine xL 14 Zb (xL 15 ZQ (xL 16 Zb ?_))<;>(refine bLd 16 (fun hb16=>?_) (fun hb16=>?_)<;>(first|refine kL 17 ?_|refine xL 17 Zb ?_))<;>(first|refine kL 18 ?_|refine xL 18 Zb ?_)<;>(first|refine kL 19 ?_|refine xL 19 WK ?_)<;>refine xL 20 Zz (xL 21 Zb ?_)<;>(first|refine kL 22 ?_|(refine bLd 21 (fun hb21=>?_) (fun hb21=>?_)<;>(first|refine kL 22 ?_|refine xL 22 Zb ?_)))<;>(first|refine kL 23 ?_|refine xL 23 YP ?_)<;>(first|refine kL 24 ?_|refine xL 24 Zb ?_)<;>(first|refine kL 25 ?_|(refine bLd 24 (fun hb24=>?_) (fun hb24=>?_)<;>(first|refine kL 25 ?_|refine xL 25 Zb ?_)))<;>(first|refine kL 26 ?_|refine xL 26 Zb ?_)<;>(first|refine kL 27 ?_|refine xL 27 Tp ?_)<;>(first|refine kL 28 ?_|refine xL 28 (O7 Zu) ?_)<;>(first|refine kL 29 ?_|(refine yL 29 (Yo Zo) fun v29 h=>?_;cases h))<;>(first|refine kL 30 ?_|refine xL 30 Zb ?_)<;>(first|refine kL 31 ?_|refine xL 31 WK ?_)<;>(first|refine kL 32 ?_|refine xL 32 Zz ?_)<;>refine xL 33 Zz ?_<;>refine Zc ?_)<;>(
 refine cX ?_ ?_<;>intro hb33
 · first|exact bN hb33|(
 refine Ze ?_;(refine xL 4 Za ?_<;>refine Zc ?_)
 refine Zv (results152) rfl ?_;unfold LL
 first
  |rw [ζ9 hx (by simp;omega)];rfl
  |rw [PW oM hy hx (by unfold ltI;simpa using hb33),Bool.and_false])
 · first |exact bN hb33|(
 refine Ze ?_;(refine xL 34 ZH (xL 9 Zb ?_)<;>refine Zc ?_)
 refine Zn (
  ⟨k + 1,oM,fun j z hj hz=>by
   by_cases e:j=k
   · subst e;rw [hx] at hz;cases hz;refine ⟨⟨oM,oM⟩,fun y' h1 hy'=>?_⟩;rw [hy] at hy';cases hy';unfold ltI
     first
      |omega
      |(simp;omega)
   · exact hp j z oM hz⟩
  ) (by dsimp only;omega) ⟨rfl,rfl,rfl,rfl,rfl,trivial⟩ trivial)))
 · first|exact bN hb10|(
 refine Ze ?_;(refine xL 4 Za ?_<;>refine Zc ?_)
 refine Zv (results152) rfl ?_;have h1:l.all (fun x=>decide (0≤x)&&decide (x<n))=true:=by
  rw [XB];intro z hz;obtain ⟨j,hj,rfl⟩:=VM hz;have h2:=(hp j _ oM (XX hj)).1;simp [h2.1,h2.2]
 have h2:Ws ltI l=true:=O0 fun j x y h1 hy hx=>(hp j x (by have:=Zf hx;omega) hx).2 y h1 hy;unfold LL;rw [h1,h2];rfl)
theorem Dw {a:Aut} (h:a.n<0∨2000<a.n∨a.syms<0∨40<a.syms∨20000<a.moves.length∨LL a.n a.start=false∨LL a.n a.fin=false∨a.moves.all (Dt a)=false∨Ws Jo a.moves=false):Z4 a=false:=by
 unfold Z4
 rcases h with h|h|h|h|h|h|h|h|h
 · rw [UR (by omega:¬0≤a.n)];simp
 · rw [UR (by omega:¬a.n≤2000)];simp
 · rw [UR (by omega:¬0≤a.syms)];simp
 · rw [UR (by omega:¬a.syms≤40)];simp
 · rw [UR (by omega:¬a.moves.length≤20000)];simp
 · rw [h];simp
 · rw [h];simp
 · rw [h];simp
 · rw [h];simp
theorem Wg (a : Aut):AF prog 107 [ZO a] (· =ZM (Z4 a)):=by
 refine AF.of_body 103 func107 rfl ntmps107 (Xa rfl) ?_
 intro w0 M0 vs hl hv
 obtain ⟨v0,rfl⟩:=WL hl
 clear hl hv
 refine Ze ?_
 (refine ZG 1 5 fun h1=>?_<;>refine xL 2 Za ?_<;>refine Zg ?_)
 (refine xL 5 (Zd 1 ZY) ?_<;>(refine yL 6 (Zk 1 Zo) fun v6 h=>?_;cases h)<;>refine xL 7 ZQ (xL 8 Zb ?_)<;>(refine bLd 8 (fun hb8=>?_) (fun hb8=>?_)<;>(first|refine kL 9 ?_|refine xL 9 (Zd 1 ZY) ?_))<;>(first|refine kL 10 ?_|(refine yL 10 (Zk 1 Zo) fun v10 h=>?_;cases h))<;>(first|refine kL 11 ?_|refine xL 11 YP ?_)<;>refine xL 12 Zz (xL 13 Zb ?_)<;>(first|refine kL 14 ?_|(refine bLd 13 (fun hb13=>?_) (fun hb13=>?_)<;>(first|refine kL 14 ?_|refine xL 14 (Zd 1 Yl) ?_)))<;>(first|refine kL 15 ?_|(refine yL 15 (Zk 1 Zo) fun v15 h=>?_;cases h))<;>(first|refine kL 16 ?_|refine xL 16 ZQ ?_)<;>refine xL 17 Zz (xL 18 Zb ?_)<;>(first|refine kL 19 ?_|(refine bLd 18 (fun hb18=>?_) (fun hb18=>?_)<;>(first|refine kL 19 ?_|refine xL 19 (Zd 1 Yl) ?_)))<;>(first|refine kL 20 ?_|(refine yL 20 (Zk 1 Zo) fun v20 h=>?_;cases h))<;>(first|refine kL 21 ?_|refine xL 21 YP ?_)<;>refine xL 22 Zz (xL 23 Zb ?_)<;>(first|refine kL 24 ?_|(refine bLd 23 (fun hb23=>?_) (fun hb23=>?_)<;>(first|refine kL 24 ?_|refine xL 24 (Zd 1 ZC) ?_)))<;>(first|refine kL 25 ?_|(refine yL 25 (Zk 1 ZK) fun v25 h=>?_;cases h))<;>(first|refine kL 26 ?_|refine xL 26 (ZR ZN) ?_)<;>(first|refine kL 27 ?_|refine xL 27 YP ?_)<;>refine xL 28 Zz (xL 29 Zb ?_)<;>(first|refine kL 30 ?_|(refine bLd 29 (fun hb29=>?_) (fun hb29=>?_)<;>(first|refine kL 30 ?_|refine xL 30 (Zd 1 YA) ?_)))<;>(first|refine kL 31 ?_|(refine yL 31 (Zk 1 ZB) fun v31 h=>?_;cases h))<;>(first|refine kL 32 ?_|refine xL 32 (Zd 1 ZY) ?_)<;>(first|refine kL 33 ?_|(refine yL 33 (Zk 1 Zo) fun v33 h=>?_;cases h))<;>(first|refine kL 34 ?_|(refine cS 34 (cA call152 (Ez a.start a.n)) fun v34 h=>?_;cases h))<;>(first|refine kL 35 ?_|refine xL 35 Yg ?_)<;>refine xL 36 Zz (xL 37 Zb ?_)<;>(first|refine kL 38 ?_|(refine bL 37 (fun hb37=>?_) (fun hb37=>?_)<;>(first|refine kL 38 ?_|refine xL 38 (Zd 1 Yq) ?_)))<;>(first|refine kL 39 ?_|(refine yL 39 (Zk 1 ZB) fun v39 h=>?_;cases h))<;>(first|refine kL 40 ?_|refine xL 40 (Zd 1 ZY) ?_)<;>(first|refine kL 41 ?_|(refine yL 41 (Zk 1 Zo) fun v41 h=>?_;cases h))<;>(first|refine kL 42 ?_|(refine cS 42 (cA call152 (Ez a.fin a.n)) fun v42 h=>?_;cases h))<;>(first|refine kL 43 ?_|refine xL 43 Yg ?_)<;>refine xL 44 Zz ?_<;>refine Zc ?_)<;>(
 refine cX ?_ ?_<;>intro hb44
 · first|exact bN hb44|(
 refine Ze ?_;(refine xL 2 Za ?_<;>refine Zc ?_)
 refine Zv (results107) rfl ?_
 first
  |(rw [Dw oM])
  |(rw [Dw (.inr (.inr (.inr (.inr (.inr (.inl (by simpa using hb37)))))))])
  |(rw [Dw (.inr (.inr (.inr (.inr (.inr (.inr (.inl (by simpa using hb44))))))))]))
 · first | exact bN hb44|(
 refine Ze ?_;(refine xL 45 (Zd 1 ZC) ?_<;>(refine yL 46 (Zk 1 ZK) fun v46 h=>?_;cases h)<;>refine xL 47 (ZR ZN) (xL 48 Zb ?_)<;>refine Zc ?_)
 refine ZD (ι:={k:Nat//k≤a.moves.length∧∀j x,j<k→a.moves[j]? =some x→Dt a x=true∧∀y,1≤j→a.moves[j-1]? =some y→Jo y x=true}) (fun k=>⟨[(1,_,_),(45,_,_),(46,_,_),(47,_,_),(48, .int .i64 k.1,pInt k.1)],[(1,_,_)]⟩) (fun k=>a.moves.length-k.1) ⟨0,oM,oM⟩ (fun a w H=>H.weaken ⟨rfl,rfl,rfl,rfl,rfl,trivial⟩ ⟨rfl,trivial⟩) ?_;rintro ⟨k,hk,hp⟩;dsimp only;refine Ze ?_;(refine xL 49 ZQ ?_<;>refine Zc ?_)
 refine cX ?_ ?_<;>intro hb49
 · first | exact bN hb49|(
 obtain ⟨x,hx⟩:=Zp (show k<a.moves.length by omega);obtain ⟨y,hy⟩:=Zp (show k-1<a.moves.length by omega);have e1:=Yc Z8 a.moves k x hx;have e2:=Yz Z8 hx;(have e3:((a.moves.flatMap cMv).drop (((k:Int)-1).toNat*3)).take 3=cMv y:=by rw [show ((k:Int)-1).toNat*3=(k-1)*3 by omega];exact Yc Z8 a.moves (k-1) y hy);have e4:=Yz Z8 hy;refine Ze ?_;(refine xL 50 Zb (xL 51 (ZF ZN) ?_)<;>(refine yL 52 (YI Z1) fun v52 h=>?_;cases h)<;>refine Zw [(.int .i64 0),(.int .i64 0),(.int .i64 0)] 3 4 KU fun h4=>?_<;>refine xL 3 Za ?_<;>refine ZA 4 Z1 ?_<;>refine Zc ?_)
 (refine Z5 (fun i=>([]:List Nat).elem i) [1,4] kR ?_<;>refine xE 0 53 rfl (Zd 4 Yv) ?_<;>(refine yE 1 54 rfl (Zk 4 Zo) fun v54 h=>?_;cases h)<;>refine xE 2 55 rfl ZQ ?_<;>refine xE 3 56 rfl Zb ?_<;>(refine bDd 56 (fun hb56=>?_) (fun hb56=>?_)<;>(first|refine kD 4 57 rfl ?_|refine xD 4 57 rfl (Zd 4 Yv) ?_))<;>(first|refine kD 5 58 rfl ?_|(refine yD 5 58 rfl (Zk 4 Zo) fun v58 h=>?_;cases h))<;>(first|refine kD 6 59 rfl ?_|refine xD 6 59 rfl (Zd 1 ZY) ?_)<;>(first|refine kD 7 60 rfl ?_|(refine yD 7 60 rfl (Zk 1 Zo) fun v60 h=>?_;cases h))<;>(first|refine kD 8 61 rfl ?_|refine xD 8 61 rfl WK ?_)<;>refine xE 9 62 rfl Zz ?_<;>refine xE 10 63 rfl Zb ?_<;>(first|refine kD 11 64 rfl ?_|(refine bDd 63 (fun hb63=>?_) (fun hb63=>?_)<;>(first|refine kD 11 64 rfl ?_|refine xD 11 64 rfl (Zd 4 YK) ?_)))<;>(first|refine kD 12 65 rfl ?_|(refine yD 12 65 rfl (Zk 4 Zo) fun v65 h=>?_;cases h))<;>(first|refine kD 13 66 rfl ?_|refine xD 13 66 rfl ZQ ?_)<;>refine xE 14 67 rfl Zz ?_<;>refine xE 15 68 rfl Zb ?_<;>(first|refine kD 16 69 rfl ?_|(refine bDd 68 (fun hb68=>?_) (fun hb68=>?_)<;>(first|refine kD 16 69 rfl ?_|refine xD 16 69 rfl (Zd 4 YK) ?_)))<;>(first|refine kD 17 70 rfl ?_|(refine yD 17 70 rfl (Zk 4 Zo) fun v70 h=>?_;cases h))<;>(first|refine kD 18 71 rfl ?_|refine xD 18 71 rfl (Zd 1 ZY) ?_)<;>(first|refine kD 19 72 rfl ?_|(refine yD 19 72 rfl (Zk 1 Zo) fun v72 h=>?_;cases h))<;>(first|refine kD 20 73 rfl ?_|refine xD 20 73 rfl WK ?_)<;>refine xE 21 74 rfl Zz ?_<;>refine xE 22 75 rfl Zb ?_<;>(first|refine kD 23 76 rfl ?_|(refine bDd 75 (fun hb75=>?_) (fun hb75=>?_)<;>(first|refine kD 23 76 rfl ?_|refine xD 23 76 rfl (Zd 4 Wk) ?_)))<;>(first|refine kD 24 77 rfl ?_|(refine yD 24 77 rfl (Zk 4 Zo) fun v77 h=>?_;cases h))<;>(first|refine kD 25 78 rfl ?_|refine xD 25 78 rfl ZQ ?_)<;>refine xE 26 79 rfl Zz ?_<;>refine xE 27 80 rfl Zb ?_<;>(first|refine kD 28 81 rfl ?_|(refine bDd 80 (fun hb80=>?_) (fun hb80=>?_)<;>(first|refine kD 28 81 rfl ?_|refine xD 28 81 rfl (Zd 4 Wk) ?_)))<;>(first|refine kD 29 82 rfl ?_|(refine yD 29 82 rfl (Zk 4 Zo) fun v82 h=>?_;cases h))<;>(first|refine kD 30 83 rfl ?_|refine xD 30 83 rfl (Zd 1 Yl) ?_)<;>(first|refine kD 31 84 rfl ?_|(refine yD 31 84 rfl (Zk 1 Zo) fun v84 h=>?_;cases h))<;>(first|refine kD 32 85 rfl ?_|refine xD 32 85 rfl WK ?_)<;>refine xE 33 86 rfl Zz ?_<;>refine xE 34 87 rfl Zb ?_<;>(first|refine kD 35 88 rfl ?_|(refine bDd 87 (fun hb87=>?_) (fun hb87=>?_)<;>(first|refine kD 35 88 rfl ?_|refine xD 35 88 rfl Zb ?_)))<;>(first|refine kD 36 89 rfl ?_|refine xD 36 89 rfl YP ?_)<;>(first|refine kD 37 90 rfl ?_|refine xD 37 90 rfl Zb ?_)<;>(first|refine kD 38 91 rfl ?_|(refine bDd 90 (fun hb90=>?_) (fun hb90=>?_)<;>(first|refine kD 38 91 rfl ?_|refine xD 38 91 rfl (Zd 1 ZC) ?_)))<;>(first|refine kD 39 92 rfl ?_|(refine yD 39 92 rfl (Zk 1 ZK) fun v92 h=>?_;cases h))<;>(first|refine kD 40 93 rfl ?_|refine xD 40 93 rfl Zb ?_)<;>(first|refine kD 41 94 rfl ?_|refine xD 41 94 rfl Tp ?_)<;>(first|refine kD 42 95 rfl ?_|refine xD 42 95 rfl (O7 ZN) ?_)<;>(first|refine kD 43 96 rfl ?_|(refine yD 43 96 rfl (YI Z1) fun v96 h=>?_;cases h))<;>(first|refine kD 44 97 rfl ?_|(refine yD 44 97 rfl (Zs 4 Z1) fun v97 h=>?_;cases h))<;>(refine Zq 45 kR ?_)<;>(refine Zj rfl fun w9 M9 N9 DQ back=>?_)<;>(first|refine kL 98 ?_|(refine cS 98 (cA call153 ((P3 y x).af)) fun v98 h=>?_;cases h))<;>refine Zh (back _ (nrm ?_))<;>(first|refine kD 46 99 rfl ?_|refine xD 46 99 rfl WK ?_)<;>(first|refine kD 47 100 rfl ?_|refine xD 47 100 rfl Zz ?_)<;>refine xE 48 101 rfl Zz ?_<;>refine YC kR (nav ?_)<;>try dsimp only)<;>(
 refine cX ?_ ?_<;>intro hb101
 · first|exact bN hb101|(
 refine Ze ?_;(refine xL 2 Za ?_<;>refine Zc ?_)
 refine Zv (results107) rfl ?_
 first
  |rw [Dw (.inr (.inr (.inr (.inr (.inr (.inr (.inr (.inl (ζ9 hx (show Dt a x=false by unfold Dt;simp only [Bool.and_eq_false_iff,decide_eq_false_iff_not];omega))))))))))]
  |rw [Dw (.inr (.inr (.inr (.inr (.inr (.inr (.inr (.inr (PW oM hy hx (show Jo y x=false from UR oM))))))))))])
 · first |exact bN hb101|(
 refine Ze ?_;(refine xL 102 ZH (xL 48 Zb ?_)<;>refine Zc ?_)
 refine Zn (
  ⟨k +1,oM,fun j z hj hz=>by
   by_cases e:j=k
   · subst e;rw [hx] at hz;cases hz;refine ⟨by unfold Dt;simp only [Xe,UP];omega,fun y' h1 hy'=>?_⟩;rw [hy] at hy';cases hy'
     first|omega|exact UQ oM
   · exact hp j z oM hz⟩
  ) (by dsimp only;omega) ⟨rfl,rfl,rfl,rfl,rfl,trivial⟩ ⟨rfl,trivial⟩)))
 · first|exact bN hb49|(
 refine Ze ?_;(refine xL 2 Za ?_<;>refine Zc ?_)
 refine Zv (results107) rfl ?_;have h7:a.moves.all (Dt a)=true:=Zjm fun j x hj=>(hp j x (by have:=Zf hj;omega) hj).1;have h8:Ws Jo a.moves=true:=O0 fun j x y h1 hy hx=>(hp j x (by have:=Zf hx;omega) hx).2 y h1 hy;(have h1:LL a.n a.start=true:=by simpa using hb37);(have h2:LL a.n a.fin=true:=by simpa using hb44);unfold Z4;rw [h1,h2,h7,h8,UQ (by omega:0≤a.n),UQ (by omega:a.n≤2000),UQ (by omega:0≤a.syms),UQ (by omega:a.syms≤40),UQ (by omega:a.moves.length≤20000)];rfl)))
theorem J2:FldT prog 196 2 2=true:=by kernel_rfl
theorem ZcA:NoAgg prog 134=true:=by kernel_rfl
theorem Wt:NoAgg prog 139=true:=by kernel_rfl
theorem Gn:NoAgg prog 4=true:=by kernel_rfl
theorem W2:SlT prog 139 4 1=true:=by kernel_rfl
theorem W9:(prog.info? 3).map (·.size)=some 1:=by kernel_rfl
def cI (x:Int):List PV:=[pInt x]
theorem ZlZ (x:Int):(cI x).length=1:=rfl
theorem Zg8 (l:List Int):l.map pInt=l.flatMap cI:=by
 induction l with
 |nil=>rfl
 |cons x l ih=>rw [Xp,Xu,ih];rfl
theorem ZX (e n:Nat) (l:List Int) (hn:n=l.length):share (.own e 1 n (l.map pInt))=pInts l:=by
 subst hn
 rw [share,Yb,XI];rfl
theorem EA {p:Int→Bool} {l:List Int} {k:Nat} {x:Int} (hx:l[k]? =some x) (h:p x=false):((Sj p l k).map pInt).set (Kp p l k).length (pInt x)=(Sj p l (k+1)).map pInt:=by
 have h1:=Zg7 (f:=cI) ZlZ hx h
 rw [Xw,←Zg8,←Zg8] at h1
 exact h1
theorem Zg9 (f :Nat) (caps:List PV) (p:Int→Bool) (l:List Int) (hl:l.length≤1000000) (hv g:Value) (hc:∀args w,(callFunc f args).run prog w= .ok (.enter f args) w) (hf:∀s∈l,AF prog f (pInt s::caps) (· =ZM (p s))):
 AFh False prog 190 [(0,hv, .val hv),(1,g, .fn f caps)] [(1000,hv, .own 3 1 l.length (l.map pInt))] (fun v q h=>q= .val v∧h=[(1000,v, .own 3 1 (l.filter fun s=> !p s).length ((l.filter fun s=> !p s).map pInt))]):=by
 refine AFh.of_body 42 func190 rfl ntmps190 (Xa rfl) rfl ?_
 intro w0 M0 N0
 have hq:=ZX 3 l.length l rfl
 refine Ze ?_
 (refine xL 4 Za ?_<;>refine Zg ?_)
 (refine xL 8 Zb (xL 9 Zb ?_)<;>(refine cS 10 (cB rfl call154 (Tt f caps p l hc hf) ⟨⟨_,_,rfl,hq▸ZeA (l:=1000) rfl⟩,⟨_,_,rfl,Zcc (x:= .tmp 9) rfl⟩,trivial⟩) fun v10 h=>?_;cases h)<;>refine xL 5 Za ?_<;>refine Zg ?_)
 (refine xL 11 Zb (xL 12 Z3 ?_)<;>refine Zc ?_)
 refine cX ?_ ?_<;>intro hb12
 · first|exact bN hb12|(
 refine Ze ?_;(refine xL 13 Zb (xL 4 Za ?_)<;>refine Zc ?_)
 refine Dg [(1000,hv,PV.own 3 1 l.length (l.map pInt))] (results190) rfl ⟨rfl,trivial⟩ ⟨rfl,?_⟩;rw [UC.2 fun s hs=>?_];rcases C2 (p:=p) (l:=l) with ⟨_,h⟩|⟨i0,x0,h,_⟩
 · rw [h s hs];rfl
 · exfalso;omega)
 · first | exact bN hb12|(
 obtain ⟨i0,x0,hi0,hx0,hp0,hn0⟩:=(C2 (p:=p) (l:=l)).resolve_left fun h=>hb12 h.1;have hlt0:=Zf hx0;(have hk0:Kp p l (i0+1)=l.take i0:=by rw [Lb hx0 hp0,Ze1 hn0]);rw [hi0];refine Ze ?_;(refine xL 14 Zb (xL 15 ZH (xL 6 Za ?_))<;>refine Zc ?_)
 refine ZD (ι:={q:Nat×Nat×List PV//q.1≤l.length∧q.2.1=(Kp p l q.1).length∧q.2.2=(Sj p l q.1).map pInt}) (fun k=>⟨[(0,_,_),(1,_,_),(5, .int .i64 k.1.2.1,pInt k.1.2.1),(6, .int .i64 k.1.1,pInt k.1.1)],[(1000,hv, .own 3 1 l.length k.1.2.2)]⟩) (fun k=>l.length-k.1.1) ⟨(i0+1,i0,l.map pInt),hlt0,(by dsimp only;rw [hk0,Xx];omega),(by dsimp only;unfold Sj;rw [hk0,Xx,Va oM,Vy])⟩ (fun a w H=>H.weaken ⟨rfl,rfl,rfl,rfl,trivial⟩ ⟨rfl,trivial⟩) ?_;rintro ⟨⟨k,j,row⟩,hk,hj,hr⟩;dsimp only;dsimp only at hk hj hr;have hle:=Rl p l k;have hjl:j≤l.length:=oM;have hjl2:(j:Int)≤1000000:=oM;(have hrl:row.length=l.length:=by rw [hr,Xd,Zg6 p l hk]);refine Ze ?_;(refine xL 16 Zb (xL 17 Zb (xL 18 (YN 1000 Zu) (xL 19 ZQ ?_)))<;>refine Zc ?_)
 refine cX ?_ ?_<;>intro hb19
 · first | exact bN hb19|(
 obtain ⟨x,hx⟩:=Zp (show k<l.length by omega);(have e1:row[k*1]? =some (pInt x):=by rw [hr,Xw,Xm,ZjK hx];rfl);(have e3:j<row.length:=by rw [hrl];have:=Zf hx;omega);refine Ze ?_;(refine xL 22 Zb (xL 23 Zb (xL 24 (YL 1000 Zu) ?_))<;>(refine yL 25 (Zk 1000 Zo) fun v25 h=>?_;cases h)<;>refine xL 7 Za ?_<;>refine Zg ?_)
 (refine xL 26 Zb (xL 27 Zb ?_)<;>(refine cS 28 (Gg (f:=f) (ps:=caps) rfl ⟨_,rfl⟩ hc rfl (hf x (Xc hx))) fun v28 h=>?_;cases h)<;>refine xL 29 Yg ?_<;>refine Zc ?_)
 refine cX ?_ ?_<;>intro hb29
 · first |exact bN hb29|(
 refine Ze ?_;(refine xL 30 Zb (xL 31 Zb (xL 32 Zb (xL 33 (YL 1000 Zu) ?_)))<;>refine YZ 1000 Zo W9 ?_<;>refine Zg ?_)
 (refine xL 34 Zb (xL 35 ZH (xL 5 Za ?_))<;>refine Zg ?_)
 (refine xL 20 Zb (xL 21 ZH (xL 6 Za ?_))<;>refine Zc ?_)
 first
  | (exact Zn (
      ⟨(k+1,j,row),Zf hx,(by dsimp only;rw [Lb hx (by simpa using hb29)];exact hj),(by dsimp only;rw [hr];unfold Sj;rw [Lb hx (by simpa using hb29)])⟩
      ) (by dsimp only;omega) ⟨rfl,rfl,rfl,rfl,trivial⟩ ⟨rfl,trivial⟩)
  | (exact Zn (
      ⟨(k+1,j+1,row.set (j*1) (pInt x)),Zf hx,(by show j+1=(Kp p l (k+1)).length;rw [Ds hx (by simpa using hb29)];simp [hj]),(by show row.set (j*1) (pInt x)=(Sj p l (k+1)).map pInt;rw [hr,hj,Xw];exact EA hx (by simpa using hb29))⟩
      ) (by dsimp only;omega) ⟨rfl,rfl,rfl,rfl,trivial⟩ ⟨rfl,trivial⟩))
 · first |exact bN hb29|(
 refine Ze ?_;(refine xL 20 Zb (xL 21 ZH (xL 6 Za ?_))<;>refine Zc ?_)
 first
  | (exact Zn (
      ⟨(k+1,j,row),Zf hx,(by dsimp only;rw [Lb hx (by simpa using hb29)];exact hj),(by dsimp only;rw [hr];unfold Sj;rw [Lb hx (by simpa using hb29)])⟩
      ) (by dsimp only;omega) ⟨rfl,rfl,rfl,rfl,trivial⟩ ⟨rfl,trivial⟩)
  | (exact Zn (
      ⟨(k+1,j+1,row.set (j*1) (pInt x)),Zf hx,(by show j+1=(Kp p l (k+1)).length;rw [Ds hx (by simpa using hb29)];simp [hj]),(by show row.set (j*1) (pInt x)=(Sj p l (k+1)).map pInt;rw [hr,hj,Xw];exact EA hx (by simpa using hb29))⟩
      ) (by dsimp only;omega) ⟨rfl,rfl,rfl,rfl,trivial⟩ ⟨rfl,trivial⟩)))
 · first|exact bN hb19|(
 have hkl:k=l.length:=oM;refine Ze ?_;(refine xL 36 Zb (xL 37 Zb ?_)<;>refine xL 38 (G3 (i:=j) (j:=l.length) 1000 Zu rfl rfl rfl rfl rfl hjl (Xj _)) ?_<;>(refine Zai 1000 Zl dC rfl rfl rfl rfl rfl hjl ?_;intro cs2 hcs1 hcs2)<;>refine Zg ?_)
 (refine xL 39 Zb (xL 40 Zb ?_)<;>refine xL 41 (G3 (i:=0) (j:=j) 1000 Zu rfl rfl rfl rfl rfl (Xf _) hjl) ?_<;>refine xL 4 Za ?_<;>refine Zc ?_)
 refine YR (ZmP (l:=1000) j rfl hjl) fun _=>?_;refine Dg [(1000,slc hv 0 j 1,PV.own 3 1 j (cs2.take (j*1)))] (results190) rfl ⟨rfl,trivial⟩ ⟨rfl,?_⟩;(have hF:(l.filter fun s=> !p s)=Kp p l k:=by unfold Kp;rw [hkl,UE]);rw [hcs2,hr,hF,←hj];congr 4;unfold Sj;rw [Xr,Xw,List.take_left' (by rw [Xd,hj])]))
theorem KV (l:List Int) (hl:l.length≤1000000):AF prog 135 [pInts l] (· = .own 3 1 l.length (l.map pInt)):=by
 refine AF.of_body 8 func135 rfl ntmps135 (Xa rfl) ?_
 intro w0 M0 vs hl hv
 obtain ⟨v0,rfl⟩:=WL hl
 clear hl hv
 have f3:(l.map pInt).length=l.length*1:=by rw [Xd,Xw]
 have f4:(l.map pInt).all En.one=true:=by rw [List.all_map,XB];intro x _;rfl
 refine Ze ?_
 (refine xL 2 Za ?_<;>refine Zg ?_)
 (refine xL 3 Zb ?_<;>(refine yL 4 (Zdw Zu) fun v4 hv4=>?_;rcases hv4 with rfl|⟨rfl,hn0⟩)<;>refine Zc ?_)<;>(
 refine cX ?_ ?_<;>intro hb4
 · first|exact bN hb4|(
 refine Ze ?_;(refine xL 2 Za ?_<;>refine Zc ?_)
 have hl0:l=[]:=XO hn0;subst hl0;refine YR (KB 200 3 1 rfl) fun _=>?_;exact JB 200 (results135) rfl rfl rfl)
 · first|exact bN hb4|(
 refine Ze ?_;(refine Zch 5 Zl fun h5 ho5=>?_<;>refine xL 6 Zb ?_<;>refine Sx 5 7 Zl (fun h7 ho7=>?_) f3 f4<;>refine xL 2 Za ?_<;>refine Zc ?_)
 refine JB 7 (results135) rfl rfl ?_;rw [Xv,Vp]))
def Zha (far:List Int) (n:Int) (s:Int):Bool:=match far[s.toNat]? with
 |some d=>decide (d<0)||decide (n<d)
 |none=>false
def Wl (l far:List Int) (n:Int):List Int:=l.filter fun s=> !Zha far n s
theorem Zhb (far:List Int) (n s:Int) (h0:0≤s) (h1:s<far.length):AF prog 191 [pInt s, .sptr 0 [pInts far], .sptr 0 [pInt n]] (· =ZM (Zha far n s)):=by
 refine AF.of_body 18 func191 rfl ntmps191 (Xa rfl) ?_
 intro w0 M0 vs hl hv
 obtain ⟨v0,v1,v2,rfl⟩:=Sg hl
 obtain rfl:=hv 0 _ _ rfl rfl
 clear hl hv
 obtain ⟨d,hd⟩:=Zp (show s.toNat<far.length by omega)
 have e1:(far.map pInt)[s.toNat*1]? =some (pInt d):=by rw [Xw,Xm,hd];rfl
 refine Ze ?_
 (refine xL 4 Za ?_<;>refine Zc ?_)
 (refine Z5 (fun i=>([]:List Nat).elem i) [] kR ?_<;>(refine yD 0 5 rfl (Yo ZB) fun v5 h=>?_;cases h)<;>refine xE 1 6 rfl Zb ?_<;>refine xE 2 7 rfl (O7 Zu) ?_<;>(refine yE 3 8 rfl (Yo Zo) fun v8 h=>?_;cases h)<;>refine xE 4 9 rfl ZQ ?_<;>refine xE 5 10 rfl Zb ?_<;>(refine bDd 10 (fun hb10=>?_) (fun hb10=>?_)<;>(first|refine kD 6 11 rfl ?_|(refine yD 6 11 rfl (Yo ZB) fun v11 h=>?_;cases h)))<;>(first|refine kD 7 12 rfl ?_|refine xD 7 12 rfl Zb ?_)<;>(first|refine kD 8 13 rfl ?_|refine xD 8 13 rfl (O7 Zu) ?_)<;>(first|refine kD 9 14 rfl ?_|(refine yD 9 14 rfl (Yo Zo) fun v14 h=>?_;cases h))<;>(first|refine kD 10 15 rfl ?_|(refine yD 10 15 rfl (Yo Zo) fun v15 h=>?_;cases h))<;>(first|refine kD 11 16 rfl ?_|refine xD 11 16 rfl YP ?_)<;>refine xE 12 17 rfl Zz ?_<;>refine xE 13 4 rfl Za ?_<;>refine YC kR (nav ?_)<;>try dsimp only)<;>(
 refine Zv (results191) rfl ?_;unfold Zha;rw [hd];show _=ZM (decide (d<0)||decide (n<d))
 first
  |(rw [UQ hb10];rfl)
  |(rw [UR hb10];rfl))
theorem C3 (l far:List Int) (n:Int) (hl:l.length≤1000000) (hs:∀s∈l,0≤s∧s<far.length):AF prog 140 [pInts l,pInts far,pInt n] (· = .own 3 1 (Wl l far n).length ((Wl l far n).map pInt)):=by
 refine AF.of_body 11 func140 rfl ntmps140 (Xa rfl) ?_
 intro w0 M0 vs hl hv
 obtain ⟨v0,v1,v2,rfl⟩:=Sg hl
 obtain rfl:=hv 2 _ _ rfl rfl
 clear hl hv
 refine Ze ?_
 (refine Zgt 4 fun h4=>?_<;>refine Zgt 5 fun h5=>?_<;>refine xL 6 Za ?_<;>refine Zc ?_)
 refine Zx (OH (l:=4) (t:=4) (j:=0) rfl Nat.one_pos rfl) fun _=>?_
 refine Zx (OH (l:=5) (t:=5) (j:=0) rfl Nat.one_pos rfl) fun _=>?_
 (refine Zt ?_<;>refine xL 7 Zb ?_<;>refine cO 8 (cA call135 (KV l hl)) fun v8 ho8=>?_<;>refine xL 9 Zcg ?_<;>(refine Zr (Zy (l:=8) 1000 rfl rfl) fun _=>?_;refine Wy [(1000,_,_)] ⟨rfl,trivial⟩ ?_;refine WP [] 10 (call190) (Zg9 191 [.sptr 0 [pInts far], .sptr 0 [pInt n]] (Zha far n) l hl v8 _ (call191) (fun s hm=>Zhb far n s (hs s hm).1 (hs s hm).2)) ?_;rintro v10 _ _ ⟨rfl,rfl⟩)<;>refine xL 6 Za ?_<;>refine Zc ?_)
 exact JB 1000 (results140) rfl rfl rfl
def movesOf (a:Aut) (s:Nat):List Mv:=a.moves.filter fun m=>decide (m.src=(s:Int))
def J3 (a:Aut) (s:Int):Bool:=a.fin.any fun t=>decide (t=s)
def C4 (a:Aut):PV:= .sl a.n.toNat ((List.range a.n.toNat).map fun s=>pMvs (movesOf a s))
def Zhc (a:Aut):PV:= .sl a.n.toNat ((List.range a.n.toNat).map fun s=>ZM (J3 a (s:Nat)))
def pGr (a:Aut):PV:= .sptr 0 [pInt a.syms,C4 a,Zhc a]
theorem Gp {N k:Nat} (h:k<N) (f:Nat→PV):((List.range N).map f)[k]? =some (f k):=by
 rw [Xm,V6 h];rfl
theorem Zax (a:Aut) (s:Int) (h0:0≤s) (h1:s<a.n):AF prog 157 [pInt s, .sptr 0 [pGr a]] (· =ZM (J3 a s)):=by
 refine AF.of_body 11 func157 rfl ntmps157 (Xa rfl) ?_
 intro w0 M0 vs hl hv
 obtain ⟨v0,v1,rfl⟩:=WO hl
 obtain rfl:=hv 0 _ _ rfl rfl
 clear hl hv
 have e1:((List.range a.n.toNat).map fun s=>ZM (J3 a (s:Nat)))[s.toNat*1]? =some (ZM (J3 a s)):=by rw [Xw,Gp oM];rw [show ((s.toNat:Nat):Int)=s by omega]
 have e2:s.toNat<a.n.toNat:=oM
 refine Ze ?_
 (refine xL 3 Za ?_<;>refine Zg ?_)
 ((refine yL 4 (Yo ZcA) fun v4 h=>?_;cases h)<;>refine xL 5 Sv (xL 6 (Tq J2) ?_)<;>(refine yL 7 (Yo Wt) fun v7 h=>?_;cases h)<;>refine xL 8 Zb (xL 9 (O7 W2) ?_)<;>(refine yL 10 (Yo Gn) fun v10 h=>?_;cases h)<;>refine xL 3 Za ?_<;>refine Zc ?_)
 exact Zv results157 rfl rfl
theorem Dx (a:Aut) (l:List Int) (hs:∀s∈l,0≤s∧s<a.n):AF prog 113 [pGr a,pInts l] (· =ZM (l.any (J3 a))):=by
 refine AF.of_body 8 func113 rfl ntmps113 (Xa rfl) ?_
 intro w0 M0 vs hl hv
 obtain ⟨v0,v1,rfl⟩:=WO hl
 clear hl hv
 refine Ze ?_
 (refine Zgt 2 fun h2=>?_<;>refine xL 4 Za ?_<;>refine Zc ?_)
 refine Zx (OH (l:=2) (t:=2) (j:=0) rfl Nat.one_pos rfl) fun _=>?_
 (refine Zt ?_<;>refine xL 5 Zb (xL 6 Zcg ?_)<;>(refine cS 7 (cA call108 (S6 157 [.sptr 0 [pGr a]] (J3 a) l (call157) (fun s hm=>Zax a s (hs s hm).1 (hs s hm).2))) fun v7 h=>?_;cases h)<;>refine xL 4 Za ?_<;>refine Zc ?_)
 exact Zv results113 rfl rfl
theorem Dy:MpT prog 197 3 4 (.int .i64) (.bool false):=⟨underlying197,underlying3, .inr ⟨_,rfl⟩,by show ZeroT _ _ _;unfold ZeroT;kernel_rfl⟩
theorem SA:NoAgg prog 197=true:=by kernel_rfl
theorem Kb:(prog.info? 36).map (·.size)=some 1:=by kernel_rfl
def LM (out:List Int):List (Int×Value):=out.map fun s=>(s, .bool true)
theorem Zhd (out:List Int) (s:Int):(WZ (ikv (LM out)) (.int .i64 s)).getD (.bool false)= .bool (out.elem s):=by
 rw [ζ5]
 induction out with
 |nil=>rfl
 | cons x l ih=>
   unfold LM at ih ⊢;rw [Xp,JF,List.elem_cons];by_cases h:s=x
   · subst h;simp
   · (have h1:(s==x)=false:=by simpa using h);rw [h1];simp [h,Ne.symm h];simpa using ih
theorem Zhe {out:List Int} {s:Int} (h:out.elem s=false):K5 (ikv (LM out)) (.int .i64 s) (.bool true)=ikv (LM (out++[s])):=by
 rw [ζ6]
 congr 1
 induction out with
 |nil=>rfl
 | cons x l ih=>
   rw [List.elem_cons] at h;have h1:(s==x)=false:=by cases h2:(s==x)<;>simp_all
   have h2:l.elem s=false:=by simp_all
   have h3:¬s=x:=by simpa using h1
   unfold LM at ih ⊢;rw [Xp,O4];simp [h3,Ne.symm h3];simpa using ih h2
def JW (out:List Int) (s:Int):List Int:=if out.elem s then out else out++[s]
def clH (h5 h6 m r:Value) (out:List Int):List (Nat×Ent):=[(1001,h5, .own 197 1 1 [.val m]),(1002,h6, .own 36 1 1 [.val r]),(1003,m, .omap (ikv (LM out))),(1004,r, .own 3 1 out.length (out.map pInt))]
theorem P4 (s:Int) (h5 h6 m r:Value) (out:List Int) (hl:out.length≤1000000) (hm:m.oneCell'=true) (hr:r.oneCell'=true):AFh False prog 155 [(0, .int .i64 s,pInt s),(1,padd (sbase h5) 0, .val (padd (sbase h5) 0)),(2,padd (sbase h6) 0, .val (padd (sbase h6) 0))]
 (clH h5 h6 m r out) (fun v q h=>q= .val v∧∃r':Value,r'.oneCell'=true∧h=clH h5 h6 m r' (JW out s)):=by
 have hu:=Zhd out s
 refine AFh.of_body 14 func155 rfl ntmps155 (Xa rfl) rfl ?_
 intro w0 M0 N0
 refine Ze ?_
 ((refine yL 4 (Zk 1001 SA) fun v4 h=>?_;cases h)<;>refine xL 5 Zb (xL 6 (Zgs 1003 Dy) (xL 7 Yg ?_))<;>refine Zc ?_)
 refine cX ?_ ?_<;>intro hb7
 · first |exact bN hb7|(
 (have hn:out.elem s=false:=by simpa using hb7);have hp:=Zhe hn;refine Ze ?_;((refine yL 8 (Zk 1001 SA) fun v8 h=>?_;cases h)<;>refine xL 9 Zb ?_<;>(refine GU 1003 Dy ?_;rw [hp])<;>refine Zg ?_)
 ((refine yL 10 (Zk 1002 ZB) fun v10 h=>?_;cases h)<;>refine xL 11 Zb ?_<;>refine ZJ (kk:=1) 12 Zl fun h12 ho12=>?_<;>refine ZU 1004 12 13 Zl fun h13 ho13=>?_<;>refine YZ 1002 ZB Kb ?_<;>refine Zc ?_)
 first
  | (refine WX (Zy (l:=13) 1004 rfl rfl) fun _=>?_
     refine GW (clH h5 h6 m _ (out++[s])) (results155) ⟨rfl,rfl,rfl,?_,trivial⟩ ⟨rfl,_,ho13,?_⟩
     · rw [Xr,Xb];rfl
     · unfold JW;rw [hn];rfl)
  | (refine GW (clH h5 h6 m r out) (results155) ⟨rfl,rfl,rfl,rfl,trivial⟩ ⟨rfl,r,hr,?_⟩
     unfold JW;rw [UT (by simpa using hb7)]))
 · first |exact bN hb7|(
 refine nav ?_
 first
  | (refine WX (Zy (l:=13) 1004 rfl rfl) fun _=>?_
     refine GW (clH h5 h6 m _ (out++[s])) (results155) ⟨rfl,rfl,rfl,?_,trivial⟩ ⟨rfl,_,ho13,?_⟩
     · rw [Xr,Xb];rfl
     · unfold JW;rw [hn];rfl)
  | (refine GW (clH h5 h6 m r out) (results155) ⟨rfl,rfl,rfl,rfl,trivial⟩ ⟨rfl,r,hr,?_⟩
     unfold JW;rw [UT (by simpa using hb7)]))
theorem Ky:FldT prog 196 1 1=true:=by kernel_rfl
theorem Jp:NoAgg prog 194=true:=by kernel_rfl
theorem Jq:SlT prog 194 37 1=true:=by kernel_rfl
theorem ZcB:(prog.info? 197).map (·.size)=some 1:=by kernel_rfl
theorem ZcC:ZeroT prog 197 (.map none):=by unfold ZeroT;kernel_rfl
theorem Ze2:ZeroT prog 36 (.slice none 0 0):=by unfold ZeroT;kernel_rfl
theorem nodup_len:∀(n:Nat) (L:List Int),L.Nodup→(∀s∈L,0≤s∧s<n)→L.length≤n
 |0,[],_,_=>Xj _
 |0,x::_,_,h=>by have:=h x (Xi ..);omega
 | n +1,L,hn,h=>by
   have h1:=nodup_len n (L.erase (n:Int)) (hn.erase _) fun s hs=>by
    have h2:=(hn.mem_erase_iff).1 hs;have h3:=h s h2.2;have:=h2.1;omega
   have h2:=List.length_erase (a:=(n:Int)) (l:=L);split at h2<;>omega
def OutOk (n:Int) (out:List Int):Prop:=out.Nodup∧∀s∈out,0≤s∧s<n
theorem OutOk.len {n:Int} {out:List Int} (h:OutOk n out):out.length≤n.toNat:=nodup_len _ _ h.1 fun s hs=>by have:=h.2 s hs;omega
theorem OutOk.add {n:Int} {out:List Int} {s:Int} (h:OutOk n out) (hs:0≤s∧s<n):OutOk n (JW out s):=by
 unfold JW
 split
 · exact h
 · rename_i h1;refine ⟨?_,fun t ht=>?_⟩
   · rw [Vx];refine ⟨h.1,sM,fun a ha b hb=>?_⟩;simp only [Xl] at hb;subst hb;intro e;subst e;exact h1 (by simpa using ha)
   · rw [Xh,Xl] at ht;rcases ht with ht|rfl
     · exact h.2 t ht
     · exact hs
def YS (l:List Int) (out:List Int):List Int:=l.foldl JW out
theorem OutOk.all {n:Int}:∀(l:List Int) {out:List Int},OutOk n out→(∀s∈l,0≤s∧s<n)→OutOk n (YS l out)
 |[],_,h,_=>h
 |x::l,_,h,hl=>OutOk.all l (h.add (hl x (Xi ..))) fun s hs=>hl s (Xn _ hs)
theorem Zay {l:List Int} {k:Nat} {x:Int} (h:l[k]? =some x) (out:List Int):YS (l.take (k+1)) out=JW (YS (l.take k) out) x:=by
 unfold YS;rw [ZE h,Vn];rfl
def Wu (ms:List Mv):List Int:=(ms.filter fun m=>decide (m.sym= -1)).map (·.dst)
theorem ZcD {ms:List Mv} {k:Nat} {m:Mv} (h:ms[k]? =some m) (hs:m.sym= -1):Wu (ms.take (k+1))=Wu (ms.take k)++[m.dst]:=by
 unfold Wu;rw [ZE h,Vd,Xr];simp [hs]
theorem EB {ms:List Mv} {k:Nat} {m:Mv} (h:ms[k]? =some m) (hs:¬m.sym= -1):Wu (ms.take (k+1))=Wu (ms.take k):=by
 unfold Wu;rw [ZE h,Vd,Xr];simp [hs]
def SB (a:Aut) (out:List Int) (i:Nat):List Int:=match out[i]? with
 |some s=>YS (Wu (movesOf a s.toNat)) out
 |none=>out
def Wi (a:Aut) (l:List Int):Nat→List Int
 |0=>YS l []
 |i+1=>SB a (Wi a l i) i
def Y0 (a:Aut) (l:List Int):List Int:=(Wi a l a.n.toNat).mergeSort fun x y=>decide (x≤y)
def Lc (a:Aut):Prop:=∀m∈a.moves,0≤m.dst∧m.dst<a.n
theorem EC {a:Aut} (h:Lc a) (s:Nat):∀t∈Wu (movesOf a s),0≤t∧t<a.n:=fun t ht=>by
 unfold Wu movesOf at ht
 simp only [Xg,XY] at ht
 obtain ⟨m,⟨⟨h1,_⟩,_⟩,rfl⟩:=ht
 exact h m h1
theorem LN {a:Aut} {l:List Int} (h:Lc a) (hl:∀s∈l,0≤s∧s<a.n):∀i,OutOk a.n (Wi a l i)
 |0=>OutOk.all l ⟨XN,sM⟩ hl
 | i+1=>by
   rw [Wi,SB];split
   · exact OutOk.all _ (LN h hl i) (EC h _)
   · exact LN h hl i
theorem ED {a:Aut} {l:List Int} {i:Nat} (h:(Wi a l i).length≤i):∀j,Wi a l (i+j)=Wi a l i
 |0=>rfl
 | j+1=>by
   rw [←XV,Wi,ED h j,SB,XL oM]
theorem Zaz {a:Aut} {l:List Int} {i n:Nat} (h:(Wi a l i).length≤i) (hi:i≤n):Wi a l n=Wi a l i:=by
 have:=ED h (n-i)
 rwa [show i+(n-i)=n by omega] at this
theorem ZjM {ms:List Mv} {k:Nat} {m:Mv} (h:ms[k]? =some m) (hs:m.sym= -1) (out:List Int):JW (YS (Wu (ms.take k)) out) m.dst=YS (Wu (ms.take (k+1))) out:=by
 rw [ZcD h hs];unfold YS;rw [Vn];rfl
theorem Zhf {a:Aut} (h:Lc a) (s k:Nat):∀t∈Wu ((movesOf a s).take k),0≤t∧t<a.n:=fun t ht=>by
 refine EC h s t ?_
 unfold Wu at ht ⊢
 simp only [Xg,XY] at ht ⊢
 obtain ⟨m,⟨h1,h2⟩,h3⟩:=ht
 exact ⟨m,⟨List.mem_of_mem_take h1,h2⟩,h3⟩
theorem ZcE:Zlg prog 156:=fun blk cap zs w hH hb hn=>Tryz.slices_Sort_int blk 0 cap zs w hH hb hn
theorem ZaA:Dh prog 156:=fun p cap w=>Tryz.slices_Sort_int_none p cap w
set_option maxHeartbeats 2000000 in
theorem SC (a : Aut) (l:List Int) (hn:a.n≤2000) (hm:Lc a) (hl:∀s∈l,0≤s∧s<a.n):AF prog 111 [pGr a,pInts l] (· = .own 3 1 (Y0 a l).length ((Y0 a l).map pInt)):=by
 refine AF.of_body 57 func111 rfl ntmps111 (Xa rfl) ?_
 intro w0 M0 vs hl hv
 obtain ⟨v0,v1,rfl⟩:=WO hl
 clear hl hv
 refine WY 1 rfl fun hlen=>?_
 refine Ze ?_
 (refine xL 4 Za ?_<;>refine Zg ?_)
 (refine JZ 13 fun h13 ho13=>?_<;>refine Zw [(.map none)] 1 5 ZcC fun h5=>?_<;>refine YZ 5 SA ZcB ?_<;>refine Zg ?_)
 (refine Zw [(.slice none 0 0)] 1 6 Ze2 fun h6=>?_<;>refine Zg ?_)
 (refine xL 14 Zcg (xL 7 Za ?_)<;>refine Zc ?_)
 refine Zx (KB 200 3 1 rfl) fun _=>?_
 refine Zx (Zy (l:=5) 1001 rfl rfl) fun _=>?_
 refine Zx (Zy (l:=6) 1002 rfl rfl) fun _=>?_
 refine Zx (Zy (l:=13) 1003 rfl rfl) fun _=>?_
 refine Zx (Zy (l:=200) 1004 rfl rfl) fun _=>?_
 (refine Zt ?_<;>refine xL 15 Zb (xL 16 (ZR Zu) (xL 17 Zb ?_))<;>refine Zc ?_)
 refine ZD (ι:={q:Nat×Value//q.1≤l.length∧q.2.oneCell'=true}) (fun k=>⟨[(0,_,_),(5,_,_),(6,_,_),(7,_,_),(15,_,_),(16,_,_),(17, .int .i64 k.1.1,pInt k.1.1)],[(1001,h5, .own 197 1 1 [.val h13]),(1002,h6, .own 36 1 1 [.val k.1.2]),(1003,h13, .omap (ikv (LM (YS (l.take k.1.1) [])))),(1004,k.1.2, .own 3 1 (YS (l.take k.1.1) []).length ((YS (l.take k.1.1) []).map pInt))]⟩) (fun k=>l.length-k.1.1) ⟨(0, .slice none 0 0),Xf _,rfl⟩ (fun a w H=>H.weaken ⟨rfl,rfl,rfl,rfl,rfl,rfl,rfl,trivial⟩ ⟨rfl,rfl,rfl,rfl,trivial⟩) ?_
 rintro ⟨⟨k,r⟩,hk,hr⟩
 dsimp only
 dsimp only at hk hr
 have hok:OutOk a.n (YS (l.take k) []):=OutOk.all _ ⟨XN,sM⟩ (fun s hs=>hl s (List.mem_of_mem_take hs))
 have hol:(YS (l.take k) []).length≤1000000:=by have:=hok.len;omega
 refine Ze ?_
 (refine xL 18 ZQ ?_<;>refine Zc ?_)
 refine cX ?_ ?_<;>intro hb18
 · first|exact bN hb18|(
 obtain ⟨x,hx⟩:=Zp (show k<l.length by omega);have e1:=Ym (f:=pInt) hx;refine Ze ?_;(refine xL 19 (ZF Zu) ?_<;>(refine yL 20 (Yo Zo) fun v20 h=>?_;cases h)<;>refine xL 9 Za ?_<;>refine Zg ?_)
 (refine xL 21 Zb (xL 22 Zb ?_)<;>(refine Wy (clH h5 h6 h13 r (YS (l.take k) [])) ⟨rfl,rfl,rfl,rfl,trivial⟩ ?_;refine ZgG [] 23 (call155) (P4 x h5 h6 h13 r (YS (l.take k) []) hol ho13 hr) ?_;rintro v23 _ _ ⟨rfl,r2,hr2,rfl⟩;rw [←Zay hx])<;>refine Zg ?_)
 (refine xL 24 ZH (xL 17 Zb ?_)<;>refine Zc ?_)
 refine Zn (
  ⟨(k+1,r2),Zf hx,hr2⟩
  ) (by dsimp only;omega) ⟨rfl,rfl,rfl,rfl,rfl,rfl,rfl,trivial⟩ ⟨rfl,rfl,rfl,rfl,trivial⟩)
 · first | exact bN hb18|(
 rw [show YS (l.take k) []=Wi a l 0 by rw [Xo oM];rfl];refine Ze ?_;(refine xL 10 Za ?_<;>refine Zc ?_)
 refine ZD (ι:={q:Nat×Value//q.1≤a.n.toNat∧q.2.oneCell'=true}) (fun k=>⟨[(0,_,_),(5,_,_),(6,_,_),(7,_,_),(10, .int .i64 k.1.1,pInt k.1.1)],[(1001,h5, .own 197 1 1 [.val h13]),(1002,h6, .own 36 1 1 [.val k.1.2]),(1003,h13, .omap (ikv (LM (Wi a l k.1.1)))),(1004,k.1.2, .own 3 1 (Wi a l k.1.1).length ((Wi a l k.1.1).map pInt))]⟩) (fun k=>a.n.toNat-k.1.1) ⟨(0,r),Xf _,hr⟩ (fun a w H=>H.weaken ⟨rfl,rfl,rfl,rfl,rfl,trivial⟩ ⟨rfl,rfl,rfl,rfl,trivial⟩) ?_;rintro ⟨⟨i,r3⟩,hi,hr3⟩;dsimp only;dsimp only at hi hr3;have hok3:=LN hm hl i;have hlen3:=hok3.len;refine Ze ?_;(refine xL 25 Zb ?_<;>(refine yL 26 (Zk 1002 ZB) fun v26 h=>?_;cases h)<;>refine xL 27 (YN 1004 Zu) (xL 28 ZQ ?_)<;>refine Zc ?_)
 refine cX ?_ ?_<;>intro hb28
 · first | exact bN hb28|(
 obtain ⟨s,hs⟩:=Zp (show i<(Wi a l i).length by omega);have hsr:=hok3.2 s (Xc hs);have e1:=Ym (f:=pInt) hs;(have e2:((List.range a.n.toNat).map fun s=>pMvs (movesOf a s))[s.toNat*1]? =some (pMvs (movesOf a s.toNat)):=by rw [Xw,Gp oM]);have e2':s.toNat<a.n.toNat:=oM;refine nav ?_;(refine Z5 (fun i=>([]:List Nat).elem i) [1001,1002,1003,1004] kR ?_<;>refine xD 0 31 rfl Zb ?_<;>refine xD 1 32 rfl Sv ?_<;>refine xD 2 33 rfl (Tq Ky) ?_<;>(refine yD 3 34 rfl (Yo Jp) fun v34 h=>?_;cases h)<;>(refine yD 4 35 rfl (Zk 1002 ZB) fun v35 h=>?_;cases h)<;>refine xD 5 36 rfl Zb ?_<;>refine xD 6 37 rfl (YL 1004 Zu) ?_<;>(refine yD 7 38 rfl (Zk 1004 Zo) fun v38 h=>?_;cases h)<;>refine xD 8 39 rfl (O7 Jq) ?_<;>(refine yD 9 40 rfl (Yo ZK) fun v40 h=>?_;cases h)<;>refine xD 10 41 rfl (ZR ZN) ?_<;>refine xE 11 42 rfl Zb ?_<;>refine YC kR (nav ?_)<;>try dsimp only)
 refine WY 40 rfl fun hlen40=>?_;refine ZD (ι:={q:Nat×Value//q.1≤(movesOf a s.toNat).length∧q.2.oneCell'=true}) (fun k=>⟨[(0,_,_),(5,_,_),(6,_,_),(7,_,_),(10,_,_),(40,_,_),(41,_,_),(42, .int .i64 k.1.1,pInt k.1.1)],[(1001,h5, .own 197 1 1 [.val h13]),(1002,h6, .own 36 1 1 [.val k.1.2]),(1003,h13, .omap (ikv (LM (YS (Wu ((movesOf a s.toNat).take k.1.1)) (Wi a l i))))),(1004,k.1.2, .own 3 1 (YS (Wu ((movesOf a s.toNat).take k.1.1)) (Wi a l i)).length ((YS (Wu ((movesOf a s.toNat).take k.1.1)) (Wi a l i)).map pInt))]⟩) (fun k=>(movesOf a s.toNat).length-k.1.1) ⟨(0,r3),Xf _,hr3⟩ (fun a w H=>H.weaken ⟨rfl,rfl,rfl,rfl,rfl,rfl,rfl,rfl,trivial⟩ ⟨rfl,rfl,rfl,rfl,trivial⟩) ?_;rintro ⟨⟨k,r4⟩,hk4,hr4⟩;dsimp only;dsimp only at hk4 hr4;have hok4:OutOk a.n (YS (Wu ((movesOf a s.toNat).take k)) (Wi a l i)):=OutOk.all _ hok3 (Zhf hm _ _);(have hol4:(YS (Wu ((movesOf a s.toNat).take k)) (Wi a l i)).length≤1000000:=by have:=hok4.len;omega);refine Ze ?_;(refine xL 43 ZQ ?_<;>refine Zc ?_)
 refine cX ?_ ?_<;>intro hb43
 · first | exact bN hb43|(
 obtain ⟨mv,hmv⟩:=Zp (show k<(movesOf a s.toNat).length by omega);have e3:=Yc Z8 (movesOf a s.toNat) k mv hmv;have e4:=Yz Z8 hmv;refine Ze ?_;(refine xL 44 (ZF ZN) ?_<;>(refine yL 45 (YI Z1) fun v45 h=>?_;cases h)<;>refine Zw [(.int .i64 0),(.int .i64 0),(.int .i64 0)] 3 12 KU fun h12=>?_<;>refine ZA 12 Z1 ?_<;>refine Zg ?_)
 (refine xL 46 (Zd 12 Wk) ?_<;>(refine yL 47 (Zk 12 Zo) fun v47 h=>?_;cases h)<;>refine xL 48 Z3 ?_<;>refine Zc ?_)
 refine cX ?_ ?_<;>intro hb48
 · first |exact bN hb48|(
 refine Ze ?_;(refine xL 49 Zb (xL 50 (Zd 12 YK) ?_)<;>(refine yL 51 (Zk 12 Zo) fun v51 h=>?_;cases h)<;>(refine Wy (clH h5 h6 h13 r4 (YS (Wu ((movesOf a s.toNat).take k)) (Wi a l i))) ⟨rfl,rfl,rfl,rfl,trivial⟩ ?_;refine ZgG [] 52 (call155) (P4 mv.dst h5 h6 h13 r4 (YS (Wu ((movesOf a s.toNat).take k)) (Wi a l i)) hol4 ho13 hr4) ?_;rintro v52 _ _ ⟨rfl,r5,hr5,rfl⟩;rw [ZjM hmv hb48])<;>refine Zg ?_)
 (refine xL 53 ZH (xL 42 Zb ?_)<;>refine Zc ?_)
 try rw [←EB hmv (by assumption)]
 first
  | (exact Zn (
      ⟨(k+1,r5),Zf hmv,hr5⟩
      ) (by dsimp only;omega) ⟨rfl,rfl,rfl,rfl,rfl,rfl,rfl,rfl,trivial⟩ ⟨rfl,rfl,rfl,rfl,trivial⟩)
  | (exact Zn (
      ⟨(k+1,r4),Zf hmv,hr4⟩
      ) (by dsimp only;omega) ⟨rfl,rfl,rfl,rfl,rfl,rfl,rfl,rfl,trivial⟩ ⟨rfl,rfl,rfl,rfl,trivial⟩))
 · first |exact bN hb48|(
 refine Ze ?_;(refine xL 53 ZH (xL 42 Zb ?_)<;>refine Zc ?_)
 try rw [←EB hmv (by assumption)]
 first
  | (exact Zn (
      ⟨(k+1,r5),Zf hmv,hr5⟩
      ) (by dsimp only;omega) ⟨rfl,rfl,rfl,rfl,rfl,rfl,rfl,rfl,trivial⟩ ⟨rfl,rfl,rfl,rfl,trivial⟩)
  | (exact Zn (
      ⟨(k+1,r4),Zf hmv,hr4⟩
      ) (by dsimp only;omega) ⟨rfl,rfl,rfl,rfl,rfl,rfl,rfl,rfl,trivial⟩ ⟨rfl,rfl,rfl,rfl,trivial⟩)))
 · first|exact bN hb43|(
 rw [show YS (Wu ((movesOf a s.toNat).take k)) (Wi a l i)=Wi a l (i+1) by rw [Wi,SB,hs,Xo oM]];refine Ze ?_;(refine xL 29 Zb (xL 30 ZH (xL 10 Za ?_))<;>refine Zc ?_)
 refine Zn (
  ⟨(i+1,r4),by dsimp only;omega,hr4⟩
  ) (by dsimp only;omega) ⟨rfl,rfl,rfl,rfl,rfl,trivial⟩ ⟨rfl,rfl,rfl,rfl,trivial⟩))
 · first|exact bN hb28|(
 have hE:Wi a l a.n.toNat=Wi a l i:=Zaz oM hi;refine Ze ?_;((refine yL 54 (Zk 1002 ZB) fun v54 h=>?_;cases h)<;>(rcases Vb (Wi a l i).length with h0|h0<;>first|(refine Zjs (zs:=Wi a l i) 1004 ZcE (call156) ?_ h0)|(rw [XO h0];refine Di 1004 ZaA (call156) ?_))<;>refine Zc ?_)<;>(
 (refine Zt ?_<;>(refine yL 56 (Zk 1002 ZB) fun v56 h=>?_;cases h)<;>refine xL 4 Za ?_<;>refine Zc ?_)
 refine JB 1004 (results111) rfl rfl ?_;unfold Y0;rw [hE,UA]
 all_goals first
  |rfl
  |(rw [XO h0,List.mergeSort_nil]))))
def KW (c:Int) (ms:List Mv):List Int:=(ms.filter fun m=>decide (m.sym=c)).map (·.dst)
theorem Ze3 {c:Int} {ms:List Mv} {k:Nat} {m:Mv} (h:ms[k]? =some m) (hs:m.sym=c):KW c (ms.take (k+1))=KW c (ms.take k)++[m.dst]:=by
 unfold KW;rw [ZE h,Vd,Xr];simp [hs]
theorem ZaB {c:Int} {ms:List Mv} {k:Nat} {m:Mv} (h:ms[k]? =some m) (hs:¬m.sym=c):KW c (ms.take (k+1))=KW c (ms.take k):=by
 unfold KW;rw [ZE h,Vd,Xr];simp [hs]
def Kq (a:Aut) (c:Int) (l:List Int):List Int:=l.flatMap fun s=>KW c (movesOf a s.toNat)
theorem ZcF (a:Aut) (c:Int) {l:List Int} {k:Nat} {s:Int} (h:l[k]? =some s):Kq a c (l.take (k+1))=Kq a c (l.take k)++KW c (movesOf a s.toNat):=by
 unfold Kq;rw [ZE h,XR];simp
theorem EE (c:Int) (ms:List Mv):(KW c ms).length≤ms.length:=by unfold KW;rw [Xd];exact VJ _ _
theorem P5 (a:Aut) (s:Nat):(movesOf a s).length≤a.moves.length:=VJ _ _
theorem EF (a:Aut) (c:Int):∀l:List Int,(Kq a c l).length≤l.length*a.moves.length
 |[]=>by simp [Kq]
 | x::l=>by
   have h1:=EF a c l;have h2:=EE c (movesOf a x.toNat);have h3:=P5 a x.toNat;have h4:Kq a c (x::l)=KW c (movesOf a x.toNat)++Kq a c l:=rfl;rw [h4,Xb,Xk,X5];omega
theorem Kr {a:Aut} (h:Lc a) (c:Int) (l:List Int):∀t∈Kq a c l,0≤t∧t<a.n:=fun t ht=>by
 unfold Kq KW movesOf at ht
 simp only [XT,Xg,XY] at ht
 obtain ⟨s,_,m,⟨⟨h1,_⟩,_⟩,rfl⟩:=ht
 exact h m h1
theorem Dz (e:Nat) (L:List Int) (x:Int):PV.own e 1 (L.length+1) (L.map pInt++[pInt x])= .own e 1 (L++[x]).length ((L++[x]).map pInt):=sM
def YD (a:Aut) (c:Int) (l:List Int):List Int:=Y0 a (Kq a c l)
set_option maxHeartbeats 2000000 in
theorem C5 (a : Aut) (l:List Int) (c:Int) (hn:a.n≤2000) (hmv:a.moves.length≤20000) (hm:Lc a) (hl:∀s∈l,0≤s∧s<a.n) (hll:l.length≤2000):AF prog 112 [pGr a,pInts l,pInt c] (· = .own 3 1 (YD a c l).length ((YD a c l).map pInt)):=by
 refine AF.of_body 44 func112 rfl ntmps112 (Xa rfl) ?_
 intro w0 M0 vs hl hv
 obtain ⟨v0,v1,v2,rfl⟩:=Sg hl
 obtain rfl:=hv 2 _ _ rfl rfl
 clear hl hv
 refine Ze ?_
 (refine xL 6 Za ?_<;>refine Zg ?_)
 (refine xL 7 Za ?_<;>refine Zc ?_)
 refine Zx (KB 200 3 1 rfl) fun _=>?_
 (refine Zt ?_<;>refine xL 12 Zb (xL 13 (ZR Zu) (xL 14 Zb ?_))<;>refine Zc ?_)
 refine ZD (ι:={q:Nat×Value//q.1≤l.length∧q.2.oneCell'=true}) (fun k=>⟨[(0,_,_),(2,_,_),(12,_,_),(13,_,_),(7,k.1.2, .val k.1.2),(14, .int .i64 k.1.1,pInt k.1.1)],[(200,k.1.2, .own 3 1 (Kq a c (l.take k.1.1)).length ((Kq a c (l.take k.1.1)).map pInt))]⟩) (fun k=>l.length-k.1.1) ⟨(0, .slice none 0 0),Xf _,rfl⟩ (fun a w H=>H.weaken ⟨rfl,rfl,rfl,rfl,rfl,rfl,trivial⟩ ⟨rfl,trivial⟩) ?_
 rintro ⟨⟨k,r⟩,hk,hr⟩
 dsimp only
 dsimp only at hk hr
 have hlk:=EF a c (l.take k)
 refine Ze ?_
 (refine xL 15 ZQ ?_<;>refine Zc ?_)
 refine cX ?_ ?_<;>intro hb15
 · first | exact bN hb15|(
 obtain ⟨s,hs⟩:=Zp (show k<l.length by omega);have hsr:=hl s (Xc hs);have e1:=Ym (f:=pInt) hs;(have e2:((List.range a.n.toNat).map fun s=>pMvs (movesOf a s))[s.toNat*1]? =some (pMvs (movesOf a s.toNat)):=by rw [Xw,Gp oM]);have e2':s.toNat<a.n.toNat:=oM;have hml:=P5 a s.toNat;have hlk2:(Kq a c (l.take k)).length≤40000000:=by
  refine X6 hlk ?_;(have h5:(l.take k).length≤2000:=by rw [Xx];omega);exact X6 (Ug h5 hmv) dC
 obtain ⟨A,hA⟩:∃A,A=Kq a c (l.take k):=⟨_,rfl⟩;rw [←hA] at hlk2 ⊢;refine Ze ?_;(refine xL 16 (ZF Zu) ?_<;>(refine yL 17 (Yo Zo) fun v17 h=>?_;cases h)<;>refine xL 9 Za ?_<;>refine Zg ?_)
 (refine xL 18 Zb (xL 19 Sv (xL 20 (Tq Ky) ?_))<;>(refine yL 21 (Yo Jp) fun v21 h=>?_;cases h)<;>refine xL 22 Zb (xL 23 (O7 Jq) ?_)<;>(refine yL 24 (Yo ZK) fun v24 h=>?_;cases h)<;>refine xL 25 (ZR ZN) (xL 26 Zb ?_)<;>refine Zc ?_)
 rw [show A=A++KW c ((movesOf a s.toNat).take 0) from (Xy A).symm];refine ZD (ι:={q:Nat×Value//q.1≤(movesOf a s.toNat).length∧q.2.oneCell'=true}) (fun k=>⟨[(0,_,_),(2,_,_),(12,_,_),(13,_,_),(14,_,_),(24,_,_),(25,_,_),(7,k.1.2, .val k.1.2),(26, .int .i64 k.1.1,pInt k.1.1)],[(200,k.1.2, .own 3 1 (A++KW c ((movesOf a s.toNat).take k.1.1)).length ((A++KW c ((movesOf a s.toNat).take k.1.1)).map pInt))]⟩) (fun k=>(movesOf a s.toNat).length-k.1.1) ⟨(0,r),Xf _,hr⟩ (fun a w H=>H.weaken ⟨rfl,rfl,rfl,rfl,rfl,rfl,rfl,rfl,rfl,trivial⟩ ⟨rfl,trivial⟩) ?_;rintro ⟨⟨j,r4⟩,hj4,hr4⟩;dsimp only;dsimp only at hj4 hr4;have hbl:=EE c ((movesOf a s.toNat).take j);rw [Xx] at hbl;(have hol:(A++KW c ((movesOf a s.toNat).take j)).length≤41000000:=by rw [Xb];omega);refine Ze ?_;(refine xL 27 ZQ ?_<;>refine Zc ?_)
 refine cX ?_ ?_<;>intro hb27
 · first | exact bN hb27|(
 obtain ⟨mv,hmv2⟩:=Zp (show j<(movesOf a s.toNat).length by omega);have e3:=Yc Z8 (movesOf a s.toNat) j mv hmv2;have e4:=Yz Z8 hmv2;refine Ze ?_;(refine xL 28 (ZF ZN) ?_<;>(refine yL 29 (YI Z1) fun v29 h=>?_;cases h)<;>refine Zw [(.int .i64 0),(.int .i64 0),(.int .i64 0)] 3 11 KU fun h11=>?_<;>refine ZA 11 Z1 ?_<;>refine Zg ?_)
 (refine xL 30 (Zd 11 Wk) ?_<;>(refine yL 31 (Zk 11 Zo) fun v31 h=>?_;cases h)<;>refine xL 32 Zb (xL 33 Z3 ?_)<;>refine Zc ?_)
 refine cX ?_ ?_<;>intro hb33
 · first |exact bN hb33|(
 refine Ze ?_;(refine xL 34 Zb (xL 35 (Zd 11 YK) ?_)<;>(refine yL 36 (Zk 11 Zo) fun v36 h=>?_;cases h)<;>refine ZJ (kk:=1) 37 Zl fun h37 ho37=>?_<;>(refine Wy [(200,_,_),(37,_,_)] ⟨rfl,rfl,trivial⟩ ?_;refine ZU 200 37 38 Zl fun h38 ho38=>?_;refine Zr (Zy (l:=38) 200 rfl rfl) fun _=>?_;refine Wy [(200,h38,PV.own 3 1 (A++KW c ((movesOf a s.toNat).take (j+1))).length ((A++KW c ((movesOf a s.toNat).take (j+1))).map pInt))] ⟨(by rw [Ze3 hmv2 hb33,←Xz,←Dz];rfl),trivial⟩ ?_)<;>refine xL 7 Za ?_<;>refine Zg ?_)
 (refine xL 39 ZH (xL 26 Zb ?_)<;>refine Zc ?_)
 try rw [←ZaB hmv2 (by assumption)]
 first
  | (exact Zn (
      ⟨(j+1,h38),Zf hmv2,ho38⟩
      ) (by dsimp only;omega) ⟨rfl,rfl,rfl,rfl,rfl,rfl,rfl,rfl,rfl,trivial⟩ ⟨rfl,trivial⟩)
  | (exact Zn (
      ⟨(j+1,r4),Zf hmv2,hr4⟩
      ) (by dsimp only;omega) ⟨rfl,rfl,rfl,rfl,rfl,rfl,rfl,rfl,rfl,trivial⟩ ⟨rfl,trivial⟩))
 · first |exact bN hb33|(
 refine Ze ?_;(refine xL 39 ZH (xL 26 Zb ?_)<;>refine Zc ?_)
 try rw [←ZaB hmv2 (by assumption)]
 first
  | (exact Zn (
      ⟨(j+1,h38),Zf hmv2,ho38⟩
      ) (by dsimp only;omega) ⟨rfl,rfl,rfl,rfl,rfl,rfl,rfl,rfl,rfl,trivial⟩ ⟨rfl,trivial⟩)
  | (exact Zn (
      ⟨(j+1,r4),Zf hmv2,hr4⟩
      ) (by dsimp only;omega) ⟨rfl,rfl,rfl,rfl,rfl,rfl,rfl,rfl,rfl,trivial⟩ ⟨rfl,trivial⟩)))
 · first|exact bN hb27|(
 rw [show A++KW c ((movesOf a s.toNat).take j)=Kq a c (l.take (k+1)) by rw [Xo oM,ZcF a c hs,hA]];refine Ze ?_;(refine xL 40 ZH (xL 14 Zb ?_)<;>refine Zc ?_)
 refine Zn (
  ⟨(k+1,r4),Zf hs,hr4⟩
  ) (by dsimp only;omega) ⟨rfl,rfl,rfl,rfl,rfl,rfl,trivial⟩ ⟨rfl,trivial⟩))
 · first|exact bN hb15|(
 refine Ze ?_;(refine xL 41 Zb (xL 42 Zb ?_)<;>(refine Zr (En.freeze (l:=200) (t:=42) rfl rfl) fun _=>?_;rw [ZX _ _ _ rfl];refine cO 43 (cA call111 (SC a (Kq a c (l.take k)) hn hm (Kr hm c _))) fun v43 ho43=>?_)<;>refine xL 6 Za ?_<;>refine Zc ?_)
 refine JB 43 (results112) rfl rfl ?_;rw [Xo oM];rfl)
def Srt (l:List Int):Prop:=l.Pairwise (· < ·)
theorem C6:∀{l m:List Int},Srt l→Srt m→(∀x,x∈l↔x∈m)→l=m
 |[],[],_,_,_=>rfl
 |[],y::m,_,_,h=>UU ((h y).2 (Xi ..)) sM
 |x::l,[],_,_,h=>UU ((h x).1 (Xi ..)) sM
 | x ::l,y::m,hl,hm,h=>by
   have hl':=XP.1 hl;have hm':=XP.1 hm;have hxy:x=y:=by
    have h1:=(h x).1 (Xi ..);have h2:=(h y).2 (Xi ..);rcases Xq.1 h1 with e|h1
    · exact e
    · rcases Xq.1 h2 with e|h2
      · exact e.symm
      · have:=hm'.1 x h1;have:=hl'.1 y h2;omega
   subst hxy;congr 1;refine C6 hl'.2 hm'.2 fun z=>⟨fun hz=>?_,fun hz=>?_⟩
   · rcases Xq.1 ((h z).1 (Xn _ hz)) with e|h1
     · have:=hl'.1 z hz;omega
     · exact h1
   · rcases Xq.1 ((h z).2 (Xn _ hz)) with e|h1
     · have:=hm'.1 z hz;omega
     · exact h1
theorem Srt.filter {l:List Int} (h:Srt l) (p:Int→Bool):Srt (l.filter p):=List.Pairwise.filter p h
inductive Rch (a:Aut) (l:List Int):Int→Prop
 |base {s:Int} (h:s∈l):Rch a l s
 |step {s:Int} {m:Mv} (h:Rch a l s) (hm:m∈a.moves) (hs:m.src=s) (hc:m.sym= -1):Rch a l m.dst
theorem Ze4 {out:List Int} {s t:Int}:t∈JW out s↔t∈out∨t=s:=by
 unfold JW;split
 · rename_i h;constructor
   · exact .inl
   · rintro (h1|rfl)
     · exact h1
     · simpa using h
 · simp
theorem Gq:∀(l:List Int) {out:List Int} {t:Int},t∈YS l out↔t∈out∨t∈l
 |[],out,t=>by simp [YS]
 | x::l,out,t=>by
   show t∈YS l (JW out x)↔_;rw [Gq l,Ze4,Xq];exact or_assoc
theorem Ze5 (out:List Int) (s:Int):out<+:JW out s:=by
 unfold JW;split
 · exact Vt _
 · exact Un _ _
theorem DC:∀(l out:List Int),out<+:YS l out
 |[],out=>Vt _
 |x::l,out=>(Ze5 out x).trans (DC l (JW out x))
theorem Ze6 (a:Aut) (l:List Int) (i:Nat):Wi a l i<+:Wi a l (i+1):=by
 rw [Wi,SB];split
 · exact DC _ _
 · exact Vt _
theorem Rm (a:Aut) (l:List Int) (i:Nat):∀j,Wi a l i<+:Wi a l (i+j)
 |0=>Vt _
 |j+1=>(Rm a l i j).trans (Ze6 a l (i+j))
theorem ZjN {l m:List Int} (h:l<+:m) {i:Nat} {x:Int} (hx:l[i]? =some x):m[i]? =some x:=by
 obtain ⟨r,rfl⟩:=h
 rw [X9 (Zf hx)];exact hx
theorem DD {a:Aut} {s:Int} (h0:0≤s) {t:Int}:t∈Wu (movesOf a s.toNat)↔∃m∈a.moves,m.src=s∧m.sym= -1∧m.dst=t:=by
 unfold Wu movesOf
 simp only [Xg,XY,UP]
 constructor
 · rintro ⟨m,⟨⟨h1,h2⟩,h3⟩,h4⟩;exact ⟨m,h1,oM,h3,h4⟩
 · rintro ⟨m,h1,h2,h3,h4⟩;exact ⟨m,⟨⟨h1,oM⟩,h3⟩,h4⟩
theorem LO {a:Aut} {l:List Int} (h:Lc a) (hl:∀s∈l,0≤s∧s<a.n):∀i t,t∈Wi a l i→Rch a l t
 | 0,t,ht=>by
   rw [Wi,Gq] at ht;exact .base (by simpa using ht)
 | i + 1,t,ht=>by
   rw [Wi,SB] at ht;split at ht
   · rename_i s hs;rcases (Gq _).1 ht with h1|h1
     · exact LO h hl i t h1
     · have hsm:=Xc hs;obtain ⟨m,h2,h3,h4,rfl⟩:=(DD ((LN h hl i).2 s hsm).1).1 h1;exact .step (LO h hl i s hsm) h2 h3 h4
   · exact LO h hl i t ht
theorem Ze7 {a:Aut} {l:List Int} (h:Lc a) (hl:∀s∈l,0≤s∧s<a.n) {t:Int} (ht:Rch a l t):t∈Wi a l a.n.toNat:=by
 induction ht with
 | base h1=>
   have h2:Wi a l 0<+:Wi a l (0+a.n.toNat):=Rm a l 0 a.n.toNat;rw [Xv] at h2;refine h2.subset ?_;rw [Wi,Gq];exact .inr h1
 | @step s m h1 hm hs hc ih=>
   obtain ⟨i,hi⟩:=X4 ih;have hil:=Zf hi;have hok:=LN h hl a.n.toNat;have hlen:=hok.len;have h3:i<(Wi a l i).length:=by
    rcases XF i (Wi a l i).length with h4|h4
    · exact h4
    · have h5:=Zaz h4 (show i≤a.n.toNat by omega);rw [h5] at hil;omega
   have h4:(Wi a l i)[i]? =some s:=by
    have h5:=Rm a l i (a.n.toNat-i);rw [show i+(a.n.toNat-i)=a.n.toNat by omega] at h5;obtain ⟨x,hx⟩:=Zp h3;rw [hx,←hi];exact (ZjN h5 hx).symm
   have h5:m.dst∈Wi a l (i+1):=by
    rw [Wi,SB,h4];refine (Gq _).2 (.inr ((DD (hok.2 s ih).1).2 ⟨m,hm,hs,hc,rfl⟩))
   have h6:=Rm a l (i+1) (a.n.toNat-(i+1));rw [show i+1+(a.n.toNat-(i+1))=a.n.toNat by omega] at h6;exact h6.subset h5
theorem Gb {a:Aut} {l:List Int} (h:Lc a) (hl:∀s∈l,0≤s∧s<a.n) (t:Int):t∈Y0 a l↔Rch a l t:=by
 unfold Y0
 rw [List.mem_mergeSort]
 exact ⟨LO h hl _ t,Ze7 h hl⟩
theorem Jr {a:Aut} {l:List Int} (h:Lc a) (hl:∀s∈l,0≤s∧s<a.n):Srt (Y0 a l):=by
 have h1:(Y0 a l).Pairwise (fun x y=>decide (x≤y)=true):=Uk (fun a b c h1 h2=>by simp only [UP] at*;omega) (fun a b=>by simp only [X3,UP];omega) _
 have h2:(Y0 a l).Nodup:=(Ul _ _).nodup_iff.2 (LN h hl _).1
 unfold Srt
 exact (h1.and h2).imp fun {x y} ⟨h3,h4⟩=>by simp only [UP] at h3;omega
theorem Zhg {a:Aut} {l:List Int} (h:Lc a) (hl:∀s∈l,0≤s∧s<a.n) {t:Int} (ht:Rch a l t):0≤t∧t<a.n:=by
 cases ht with
 |base h1=>exact hl t h1
 |step _ hm _ _=>exact h _ hm
theorem TB {a:Aut} {l:List Int} (h:Lc a) (hl:∀s∈l,0≤s∧s<a.n):∀t∈Y0 a l,0≤t∧t<a.n:=fun t ht=>Zhg h hl ((Gb h hl t).1 ht)
theorem R8 {a:Aut} {l:List Int} (h:Lc a) (hl:∀s∈l,0≤s∧s<a.n):(Y0 a l).length≤a.n.toNat:=by
 unfold Y0
 rw [UA];exact (LN h hl _).len
theorem Js {a:Aut} {c:Int} {l:List Int} (hl:∀s∈l,0≤s∧s<a.n) {t:Int}:t∈Kq a c l↔∃m∈a.moves,m.src∈l∧m.sym=c∧m.dst=t:=by
 unfold Kq KW movesOf
 simp only [XT,Xg,XY,UP]
 constructor
 · rintro ⟨s,hs,m,⟨⟨h1,h2⟩,h3⟩,h4⟩;have:=hl s hs;exact ⟨m,h1,by rw [h2,show ((s.toNat:Nat):Int)=s by omega];exact hs,h3,h4⟩
 · rintro ⟨m,h1,h2,h3,h4⟩;have:=hl _ h2;exact ⟨m.src,h2,m,⟨⟨h1,oM⟩,h3⟩,h4⟩
def KI (m:Mv) (d:Int):Int:=if 0≤m.sym then d+1 else d
def JL (far:List Int) (m:Mv):List Int:=
 match far[m.dst.toNat]?,far[m.src.toNat]? with
 |some d,some e=>if 0≤d∧(e<0∨KI m d<e) then far.set m.src.toNat (KI m d) else far
 |_,_=>far
def passF (ms:List Mv) (far:List Int):List Int:=ms.foldl JL far
def GL (a:Aut):List Int:=(List.range a.n.toNat).map fun s=>if J3 a (s:Nat) then 0 else-1
def Wm (a:Aut):Nat→List Int
 |0=>GL a
 |k+1=>passF a.moves (Wm a k)
def Y9 (a:Aut):List Int:=Wm a (a.n.toNat*a.n.toNat+1)
def cntD (far:List Int):Nat:=far.countP fun d=>decide (0≤d)
def wgt (n:Nat) (d:Int):Nat:=if 0≤d then d.toNat else n
def sumF (n:Nat) (far:List Int):Nat:=(far.map (wgt n)).sum
structure FarOk (n:Nat) (far:List Int):Prop where
 len:far.length=n
 lo:∀d∈far,-1≤d
 hi:∀d∈far,d<cntD far
theorem C7 (far:List Int):cntD far≤far.length:=List.countP_le_length
theorem ZaC:∀(far:List Int) (i:Nat) (e d:Int),far[i]? =some e→0≤d→cntD (far.set i d)=cntD far+(if 0≤e then 0 else 1)
 |[],i,e,d,h,_=>by simp at h
 | x::far,0,e,d,h,hd=>by
   simp only [Vs,Option.some.injEq] at h;subst h;unfold cntD;rw [List.set_cons_zero,UF,UF,UQ hd];by_cases hx:0≤x<;>simp [hx]
 | x::far,i+1,e,d,h,hd=>by
   simp only [Vr] at h;have:=ZaC far i e d h hd;unfold cntD at this ⊢;rw [List.set_cons_succ,UF,UF,this];omega
theorem ZaD:∀(n:Nat) (far:List Int) (i:Nat) (e d:Int),far[i]? =some e→sumF n (far.set i d)+wgt n e=sumF n far+wgt n d
 |n,[],i,e,d,h=>by simp at h
 | n,x::far,0,e,d,h=>by
   simp only [Vs,Option.some.injEq] at h;subst h;unfold sumF;rw [List.set_cons_zero,Xp,Xp,Uo,Uo];omega
 | n,x::far,i+1,e,d,h=>by
   simp only [Vr] at h;have:=ZaD n far i e d h;unfold sumF at this ⊢;rw [List.set_cons_succ,Xp,Xp,Uo,Uo];omega
theorem Zhh (m:Mv) (d:Int):d≤KI m d∧KI m d≤d+1:=by unfold KI;split<;>omega
theorem R9 {n:Nat} {far:List Int} (h:FarOk n far) {m:Mv} {d e:Int} (hd:far[m.dst.toNat]? =some d) (he:far[m.src.toNat]? =some e) (h0:0≤d) (h1:e<0∨KI m d<e):
 FarOk n (far.set m.src.toNat (KI m d))∧sumF n (far.set m.src.toNat (KI m d))<sumF n far:=by
 have hs:=Zhh m d
 have hdc:=h.hi d (Xc hd)
 have hec:=h.hi e (Xc he)
 have hc:=ZaC far m.src.toNat e (KI m d) he oM
 have hsum:=ZaD n far m.src.toNat e (KI m d) he
 have hcl:=C7 (far.set m.src.toNat (KI m d))
 rw [Xt,h.len] at hcl
 refine ⟨⟨by rw [Xt];exact h.len,fun x hx=>?_,fun x hx=>?_⟩,?_⟩
 · rcases List.mem_or_eq_of_mem_set hx with h2|rfl
   · exact h.lo x h2
   · omega
 · rw [hc];rcases List.mem_or_eq_of_mem_set hx with h2|rfl
   · have:=h.hi x h2;split<;>omega
   · split<;>omega
 · unfold wgt at hsum;rw [UT (show 0≤KI m d by omega)] at hsum;rcases h1 with h1|h1
   · rw [US oM] at hsum hc;omega
   · rw [UT oM] at hsum;omega
theorem P6 {n:Nat} {far:List Int} (h:FarOk n far) (m:Mv):FarOk n (JL far m)∧(JL far m=far∨sumF n (JL far m)<sumF n far):=by
 unfold JL
 split
 · rename_i d e hd he;split
   · rename_i h1;have:=R9 h hd he h1.1 h1.2;exact ⟨this.1, .inr this.2⟩
   · exact ⟨h, .inl rfl⟩
 · exact ⟨h, .inl rfl⟩
theorem GM {n:Nat}:∀(ms:List Mv) {far:List Int},FarOk n far→FarOk n (passF ms far)∧(passF ms far=far∨sumF n (passF ms far)<sumF n far)
 |[],far,h=>⟨h, .inl rfl⟩
 | m ::ms,far,h=>by
   obtain ⟨h1,h2⟩:=P6 h m;obtain ⟨h3,h4⟩:=GM ms h1;refine ⟨h3,?_⟩;show passF ms (JL far m)=far∨_;rcases h2 with h2|h2
   · rw [h2] at h4;show passF ms (JL far m)=far∨sumF n (passF ms (JL far m))<sumF n far;rw [h2];exact h4
   · right
     show sumF n (passF ms (JL far m))<sumF n far;rcases h4 with h4|h4
     · rw [h4];exact h2
     · omega
theorem P7 {n:Nat}:∀(ms:List Mv) {far:List Int},FarOk n far→passF ms far=far→∀m∈ms,JL far m=far
 |[],far,h,_,m,hm=>by simp at hm
 | x ::ms,far,h,he,m,hm=>by
   obtain ⟨h1,h2⟩:=P6 h x;obtain ⟨h3,h4⟩:=GM ms h1;have he':passF ms (JL far x)=far:=he;have hx:JL far x=far:=by
    rcases h2 with h2|h2
    · exact h2
    · rcases h4 with h4|h4
      · rw [he'] at h4;exact h4.symm
      · rw [he'] at h4;omega
   rcases Xq.1 hm with rfl|hm
   · exact hx
   · rw [hx] at he';exact P7 ms h he' m hm
theorem ZcG {a:Aut} {s:Nat} (h:s<a.n.toNat):(GL a)[s]? =some (if J3 a (s:Nat) then 0 else-1):=by
 unfold GL;rw [Xm,V6 h];rfl
theorem ZcH (a:Aut):FarOk a.n.toNat (GL a):=by
 refine ⟨by unfold GL;simp,fun d hd=>?_,fun d hd=>?_⟩
 · unfold GL at hd;obtain ⟨s,_,rfl⟩:=Xg.1 hd;split<;>omega
 · have hd2:=hd;unfold GL at hd2;obtain ⟨s,_,hs⟩:=Xg.1 hd2;by_cases h0:0≤d
   · have h1:0<cntD (GL a):=List.countP_pos_iff.2 ⟨d,hd,UQ h0⟩;split at hs<;>omega
   · omega
theorem Ld (a:Aut):∀k,FarOk a.n.toNat (Wm a k)
 |0=>ZcH a
 |k+1=>(GM a.moves (Ld a k)).1
theorem ZjO {n:Nat} {far:List Int} (h:FarOk n far):sumF n far≤n*n:=by
 have hc:=C7 far
 rw [h.len] at hc
 have key:∀(l:List Int),(∀d∈l,d<(n:Int))→(l.map (wgt n)).sum≤l.length*n:=fun l=>by
  induction l with
  |nil=>intro _;simp
  | cons x l ih=>
    intro hx;have h1:=ih fun d hd=>hx d (Xn _ hd);have h2:=hx x (Xi ..);rw [Xp,Uo,Xk,X5];(have h3:wgt n x≤n:=by unfold wgt;split<;>omega);omega
 have:=key far fun d hd=>by have:=h.hi d hd;omega
 rw [h.len] at this;exact this
theorem LP {a:Aut} {k:Nat} (h:passF a.moves (Wm a k)=Wm a k):∀j,Wm a (k+j)=Wm a k
 |0=>rfl
 |j+1=>by rw [←XV,Wm,LP h j,h]
theorem EG (a:Aut):passF a.moves (Y9 a)=Y9 a:=by
 have key:∀k,(∃j,j≤k∧passF a.moves (Wm a j)=Wm a j)∨sumF a.n.toNat (Wm a k)+k≤a.n.toNat*a.n.toNat:=fun k=>by
  induction k with
  |zero=>exact .inr (ZjO (Ld a 0))
  | succ k ih=>
    rcases ih with ⟨j,h1,h2⟩|h
    · exact .inl ⟨j,oM,h2⟩
    · rcases (GM a.moves (Ld a k)).2 with h1|h1
      · exact .inl ⟨k,oM,h1⟩
      · right;rw [Wm];omega
 rcases key (a.n.toNat*a.n.toNat+1) with ⟨j,h1,h2⟩|h
 · have h3:=LP h2 (a.n.toNat*a.n.toNat+1-j);rw [show j+(a.n.toNat*a.n.toNat+1-j)=a.n.toNat*a.n.toNat+1 by omega] at h3;unfold Y9;rw [h3,h2]
 · omega
theorem ZjP {a:Aut} {k:Nat} (h:passF a.moves (Wm a k)=Wm a k):Y9 a=Wm a k:=by
 have h1:=EG a
 unfold Y9 at h1 ⊢
 rcases Nat.le_total k (a.n.toNat*a.n.toNat+1) with h2|h2
 · have h3:=LP h (a.n.toNat*a.n.toNat+1-k);rwa [show k+(a.n.toNat*a.n.toNat+1-k)=a.n.toNat*a.n.toNat+1 by omega] at h3
 · have h3:=LP h1 (k-(a.n.toNat*a.n.toNat+1));rw [show a.n.toNat*a.n.toNat+1+(k-(a.n.toNat*a.n.toNat+1))=k by omega] at h3;exact h3.symm
theorem OP (a:Aut):FarOk a.n.toNat (Y9 a):=Ld a _
theorem ZaE {a:Aut} {m:Mv} (hm:m∈a.moves) {d e:Int} (hd:(Y9 a)[m.dst.toNat]? =some d) (he:(Y9 a)[m.src.toNat]? =some e) (h0:0≤d):0≤e∧e≤KI m d:=by
 have h1:=P7 a.moves (OP a) (EG a) m hm
 unfold JL at h1
 rw [hd,he] at h1
 dsimp only at h1
 split at h1
 · rename_i h2;have h3:=R9 (OP a) hd he h2.1 h2.2;rw [h1] at h3;omega
 · rename_i h2;omega
abbrev Pf:=List Int×List Int
def KF (a:Aut) (S:List Int):Bool:=S.any (J3 a)
def InS (a:Aut) (S:List Int):Prop:=∀s∈S,0≤s∧s<a.n
def GX (a:Aut) (n:Int) (p:Pf) (c:Nat):List Pf:=if (Wl (YD a c p.2) (Y9 a) (n-1)).length=0 then [] else [(p.1++[(c:Int)],Wl (YD a c p.2) (Y9 a) (n-1))]
def Sn (a:Aut) (n:Int) (p:Pf):List Pf:=(List.range a.syms.toNat).flatMap (GX a n p)
def lvP (a:Aut) (n:Nat):Nat→List Pf
 |0=>[([],Wl (Y0 a a.start) (Y9 a) n)]
 |k+1=>(lvP a n k).flatMap (Sn a ((n:Int)-k))
def Rn (a:Aut) (l:List Pf):List (List Int):=(l.filter fun p=>KF a p.2).map (·.1)
def Le (a:Aut) (n k:Nat):List (List Int):=(List.range k).flatMap fun i=>Rn a (lvP a n i)
def ZjQ (a:Aut) (n:Nat):Prop:=(∃k,k≤n∧2000<(lvP a n (k+1)).length)∨2000<(Le a n (n+1)).length
def Jf (far:List Int) (b s:Int):Int:=match far[s.toNat]? with
 |some d=>if 0≤d∧(b<0∨d<b) then d else b
 |none=>b
def SD (far S:List Int):Int:=S.foldl (Jf far) (-1)
def Zhi (a:Aut) (n:Int) (p:Pf) (c:Nat):List Pf:=if 0≤SD (Y9 a) (YD a c p.2)∧SD (Y9 a) (YD a c p.2)≤n-1 then [(p.1++[(c:Int)],YD a c p.2)] else []
def Zlo (a:Aut) (n:Int) (p:Pf):List Pf:=(List.range a.syms.toNat).flatMap (Zhi a n p)
def lvR (a:Aut) (n:Nat):Nat→List Pf
 |0=>[([],Y0 a a.start)]
 |k+1=>(lvR a n k).flatMap (Zlo a ((n:Int)-k))
theorem DF {a:Aut} {s:Int} (h:0≤s∧s<a.n):∃d,(Y9 a)[s.toNat]? =some d:=Zp (by rw [(OP a).len];omega)
theorem TC {a:Aut} {S:List Int} (hS:InS a S) {n:Int} {s:Int}:s∈Wl S (Y9 a) n↔s∈S∧∃d,(Y9 a)[s.toNat]? =some d∧0≤d∧d≤n:=by
 unfold Wl Zha
 rw [XY]
 constructor
 · rintro ⟨h1,h2⟩;obtain ⟨d,hd⟩:=DF (hS s h1);rw [hd] at h2;simp only [Uy,Ud,decide_eq_false_iff_not] at h2;exact ⟨h1,d,hd,oM,oM⟩
 · rintro ⟨h1,d,hd,h2,h3⟩;rw [hd];simp only [Uy,Ud,decide_eq_false_iff_not];exact ⟨h1,oM,oM⟩
theorem OQ {a:Aut} {S:List Int} (hS:InS a S) (far:List Int) (n:Int):InS a (Wl S far n):=fun s hs=>hS s ((XY.1 hs).1)
theorem LQ {a:Aut} (h:Lc a) (c:Int) (S:List Int):InS a (YD a c S):=TB h (Kr h c S)
theorem ZaF {a:Aut} (h:Lc a) {c:Int} {S:List Int} {t:Int}:t∈YD a c S↔Rch a (Kq a c S) t:=Gb h (Kr h c S) t
theorem DG {a:Aut} {S:List Int} (h:Srt S) (far:List Int) (n:Int):Srt (Wl S far n):=h.filter _
theorem Ze8 {a:Aut} (h:Lc a) {S:List Int} (hS:InS a S) {c:Int} (hc:0≤c) (n:Int):Wl (YD a c (Wl S (Y9 a) n)) (Y9 a) (n-1)=Wl (YD a c S) (Y9 a) (n-1):=by
 refine C6 (DG (a:=a) (Jr h (Kr h c _)) _ _) (DG (a:=a) (Jr h (Kr h c _)) _ _) fun t=>?_
 rw [TC (LQ h c _),TC (LQ h c _),ZaF h,ZaF h]
 constructor
 · rintro ⟨h1,h2⟩;refine ⟨?_,h2⟩;clear h2;induction h1 with
   | base h3=>
     obtain ⟨m,h4,h5,h6,h7⟩:=(Js (OQ hS _ _)).1 h3;exact .base ((Js hS).2 ⟨m,h4,(XY.1 h5).1,h6,h7⟩)
   |step _ hm hs hc ih=>exact .step ih hm hs hc
 · rintro ⟨h1,d,hd,h2,h3⟩;refine ⟨?_,d,hd,h2,h3⟩;induction h1 generalizing d with
   | base h3'=>
     obtain ⟨m,h4,h5,h6,rfl⟩:=(Js hS).1 h3';obtain ⟨e,he⟩:=DF (hS _ h5);have h8:=ZaE h4 hd he h2;unfold KI at h8;rw [UT oM] at h8;exact .base ((Js (OQ hS _ _)).2 ⟨m,h4,(TC hS).2 ⟨h5,e,he,h8.1,oM⟩,h6,rfl⟩)
   | @step s m hr hm hs hcc ih=>
     subst hs;obtain ⟨e,he⟩:=DF (Zhg h (Kr h c _) hr);have h8:=ZaE hm hd he h2;unfold KI at h8;rw [US oM] at h8;exact .step (ih e he h8.1 oM) hm rfl hcc
theorem DI (far:List Int):∀(S:List Int) (b:Int),-1≤b→
 (S.foldl (Jf far) b=b∨∃s∈S,far[s.toNat]? =some (S.foldl (Jf far) b)∧0≤S.foldl (Jf far) b)∧
 (0≤b→0≤S.foldl (Jf far) b∧S.foldl (Jf far) b≤b)∧
 (∀s∈S,∀d,far[s.toNat]? =some d→0≤d→0≤S.foldl (Jf far) b∧S.foldl (Jf far) b≤d)
 |[],b,_=>⟨.inl rfl,fun h=>⟨h,sM⟩,fun s hs=>by simp at hs⟩
 | x :: S,b,hb=>by
   have hb': -1≤Jf far b x∧(Jf far b x=b∨(far[x.toNat]? =some (Jf far b x)∧0≤Jf far b x))∧(0≤b→0≤Jf far b x∧Jf far b x≤b)∧(∀d,far[x.toNat]? =some d→0≤d→0≤Jf far b x∧Jf far b x≤d):=by
    unfold Jf;split
    · rename_i d hd;split
      · rename_i h1;refine ⟨oM, .inr ⟨by first|exact hd|rfl,h1.1⟩,fun h=>oM,fun d' hd' h=>?_⟩
        first
         |(rw [hd] at hd';cases hd';omega)
         |(cases hd';omega)
      · rename_i h1;refine ⟨hb, .inl rfl,fun h=>oM,fun d' hd' h=>?_⟩
        first
         |(rw [hd] at hd';cases hd';omega)
         |(cases hd';omega)
    · rename_i hd;refine ⟨hb, .inl rfl,fun h=>oM,fun d' hd' h=>?_⟩
      first
       |(rw [hd] at hd';cases hd')
       |cases hd'
   obtain ⟨h1,h2,h3⟩:=DI far S (Jf far b x) hb'.1;simp only [X'];refine ⟨?_,fun h=>?_,fun s hs d hd h=>?_⟩
   · rcases h1 with h1|⟨s,hs,h4⟩
     · rcases hb'.2.1 with h5|h5
       · exact .inl (by rw [h1,h5])
       · exact .inr ⟨x,Xi ..,by rw [h1];exact h5⟩
     · exact .inr ⟨s,Xn _ hs,h4⟩
   · have h4:=hb'.2.2.1 h;have h5:=h2 h4.1;omega
   · rcases Xq.1 hs with rfl|hs
     · have h4:=hb'.2.2.2 d hd h;have h5:=h2 h4.1;omega
     · exact h3 s hs d hd h
theorem ZcI {a:Aut} {S:List Int} (hS:InS a S) (n:Int):(Wl S (Y9 a) n).length=0↔¬(0≤SD (Y9 a) S∧SD (Y9 a) S≤n):=by
 obtain ⟨h1,_,h3⟩:=DI (Y9 a) S (-1) oM
 unfold SD
 constructor
 · rintro h ⟨h4,h5⟩;rcases h1 with h1|⟨s,hs,h6,h7⟩
   · omega
   · have:s∈Wl S (Y9 a) n:=(TC hS).2 ⟨hs,_,h6,h7,h5⟩;rw [XO h] at this;simp at this
 · intro h;rcases Vb (Wl S (Y9 a) n).length with h4|h4
   · exact h4
   · exfalso;obtain ⟨s,hs⟩:=List.exists_mem_of_length_pos h4;obtain ⟨h5,d,hd,h6,h7⟩:=(TC hS).1 hs;have:=h3 s h5 d hd h6;exact h ⟨this.1,oM⟩
def ZaG (a:Aut) (n:Int) (p:Pf):Pf:=(p.1,Wl p.2 (Y9 a) n)
theorem Zhj {a:Aut} (h:Lc a) {p:Pf} (hp:InS a p.2) (n:Int) (c:Nat):GX a n (ZaG a n p) c=(Zhi a n p c).map (ZaG a (n-1)):=by
 unfold GX Zhi ZaG
 dsimp only
 rw [Ze8 h hp oM]
 have h1:=ZcI (LQ h c p.2) (n-1)
 by_cases h2:(Wl (YD a c p.2) (Y9 a) (n-1)).length=0
 · rw [UT h2,US (h1.1 h2)];rfl
 · rw [US h2,UT (by rcases Classical.em (0≤SD (Y9 a) (YD a c p.2)∧SD (Y9 a) (YD a c p.2)≤n-1) with h3|h3;exact h3;exact UU (h1.2 h3) h2)];rfl
theorem Zhk {a:Aut} (h:Lc a) (hs:InS a a.start) (n:Nat):∀k,∀p∈lvR a n k,InS a p.2
 | 0,p,hp=>by
   simp only [lvR,Xl] at hp;subst hp;exact TB h hs
 | k +1,p,hp=>by
   rw [lvR] at hp;obtain ⟨q,_,hq⟩:=XT.1 hp;obtain ⟨c,_,hc⟩:=XT.1 hq;unfold Zhi at hc;split at hc
   · simp only [Xl] at hc;subst hc;exact LQ h c _
   · simp at hc
theorem TD {α β:Type} {l:List α} {f g:α→List β} (h:∀x∈l,f x=g x):l.flatMap f=l.flatMap g:=by
 induction l with
 |nil=>rfl
 |cons x l ih=>rw [Xu,Xu,h x (Xi ..),ih fun y hy=>h y (Xn _ hy)]
theorem ZdD {a:Aut} (h:Lc a) (hs:InS a a.start) (n:Nat):∀k,lvP a n k=(lvR a n k).map (ZaG a ((n:Int)-k))
 | 0=>by
   show [_]=[_];unfold ZaG;simp
 | k+1=>by
   rw [lvP,lvR,ZdD h hs n k,List.flatMap_map,V7];refine TD fun p hp=>?_;unfold Sn Zlo;rw [V7];refine TD fun c _=>?_;rw [Zhj h (Zhk h hs n k p hp)];congr 2;omega
theorem Lf (a:Aut) (n k:Nat):Le a n (k+1)=Le a n k++Rn a (lvP a n k):=by
 unfold Le;rw [V4,XR];simp
theorem EH (a:Aut) (n:Nat) {j k:Nat} (h:j≤k):(Le a n j).length≤(Le a n k).length:=by
 obtain ⟨i,rfl⟩:∃i,k=j+i:=⟨k-j,oM⟩
 clear h
 induction i with
 |zero=>exact Xj _
 |succ i ih=>rw [←XV,Lf,Xb];omega
theorem Ze9 {a:Aut} {l:List Pf} {i:Nat} {p:Pf} (h:l[i]? =some p):Rn a (l.take (i+1))=Rn a (l.take i)++(if KF a p.2 then [p.1] else []):=by
 unfold Rn
 rw [ZE h,Vd,Xr]
 congr 1
 cases hb:KF a p.2<;>simp [hb]
theorem ZaH (a:Aut) (l:List Pf):(Rn a l).length≤l.length:=by unfold Rn;rw [Xd];exact VJ _ _
theorem ZaI (a:Aut) (l:List Pf) (i:Nat):(Rn a (l.take i)).length≤(Rn a l).length:=by
 unfold Rn
 rw [Xd,Xd]
 exact (List.Sublist.filter _ (List.take_sublist i l)).length_le
theorem So {α β:Type} (f:α→List β) (l:List α) (i:Nat):((l.take i).flatMap f).length≤(l.flatMap f).length:=by
 have:l.flatMap f=(l.take i).flatMap f++(l.drop i).flatMap f:=by rw [←XR,Vy]
 rw [this,Xb];omega
theorem DJ {α β:Type} (f:α→List β) {l:List α} {i:Nat} {x:α} (h:l[i]? =some x):(l.take (i+1)).flatMap f=(l.take i).flatMap f++f x:=by
 rw [ZE h,XR];simp
theorem SE {β:Type} (f:Nat→List β) (k:Nat):(List.range (k+1)).flatMap f=(List.range k).flatMap f++f k:=by
 rw [V4,XR];simp
end Go.Proofs.YtgfabnhpllkebaaGreatDoor
namespace Go.Cb
set_option linter.all false
open Go.En
def vec {α:Type} (n:Nat) (f:Nat→α):List α:=(List.range n).map f
theorem T2 {α:Type} (n:Nat) (f:Nat→α):(vec n f).length=n:=by simp [vec]
theorem C8 {α:Type} {n i:Nat} (f:Nat→α) (h:i<n):(vec n f)[i]? =some (f i):=by simp [vec,h]
theorem C9 {α:Type} {n:Nat} {l:List α} {f:Nat→α} (hl:l.length=n) (h:∀i x,l[i]? =some x→x=f i):l=vec n f:=by
 apply Vq
 intro i
 rcases XF i n with hi|hi
 · obtain ⟨x,hx⟩:=Yi (show i<l.length by omega);rw [hx,C8 f hi,h i x hx]
 · rw [XL oM,XL (by rw [T2];exact hi)]
theorem ZdE {α:Type} {n a:Nat} (f:Nat→α) (b:α):(vec n f).set a b=vec n (fun i=>if i=a then b else f i):=by
 refine C9 (by simp [vec]) fun i x hx=>?_
 have hi:=Zf hx
 rw [Xt,T2] at hi
 rw [List.getElem?_set] at hx
 split at hx
 · rename_i e;subst e;split at hx
   · cases hx;simp
   · cases hx
 · rename_i e;rw [C8 f hi] at hx
   cases hx;rw [US (fun h=>e h.symm)]
theorem Lh {α:Type} {n:Nat} {f g:Nat→α} (h:∀i,i<n→f i=g i):vec n f=vec n g:=
 VH fun i hi=>h i (Vi.1 hi)
theorem EI {α:Type} (n:Nat) (x:α):List.replicate n x=vec n (fun _=>x):=by
 refine C9 sM fun i y hy=>?_
 rw [UN] at hy
 split at hy
 · cases hy;rfl
 · cases hy
theorem ZjR {α β:Type} (n:Nat) (f:Nat→α) (g:α→β):(vec n f).map g=vec n (fun i=>g (f i)):=by simp [vec,Function.comp_def]
def Closed (n:Nat) (f T:Nat→Nat→Bool):Prop:=(∀i j,i<n→j<n→f i j=true→T i j=true)∧∀i j k,i<n→j<n→k<n→T i j=true→T j k=true→T i k=true
def cntF (n:Nat) (f:Nat→Bool):Nat:=((List.range n).filter fun i=> !f i).length
def cntM (n:Nat) (f:Nat→Nat→Bool):Nat:=((List.range n).map fun i=>cntF n (f i)).sum
structure Grows (n:Nat) (E R:Nat→Nat→Bool):Prop where
 lo:∀i j,i<n→j<n→E i j=true→R i j=true
 hi:∀T,Closed n E T→∀i j,i<n→j<n→R i j=true→T i j=true
def Before (a b c a' b' c':Nat):Prop:=a'<a∨(a'=a∧(b'<b∨(b'=b∧c'<c)))
structure Pass (n:Nat) (E R0 R:Nat→Nat→Bool) (ag:Bool) (a b c:Nat):Prop where
 gr:Grows n E R
 dn:ag=true→cntM n R<cntM n R0
 st:ag=false→R=R0∧∀a' b' c',a'<n→b'<n→c'<n→Before a b c a' b' c'→R0 a' b'=true→R0 b' c'=true→R0 a' c'=true
def Conn (l:List Int) (r:Int→Int→Bool) (x y:Int):Prop:=∀P:Int→Prop,(∀a b,a∈l→b∈l→(r a b=true∨r b a=true)→P a→P b)→P x→P y
theorem nodup_len {α:Type} [BEq α] [LawfulBEq α]:∀{l m:List α},l.Nodup→(∀x∈l,x∈m)→l.length≤m.length
 |[],m,_,_=>Xf _
 | x ::l,m,h,hs=>by
   rw [Vc] at h;have hx:=hs x sM;have h1:=nodup_len (l:=l) (m:=m.erase x) h.2 fun y hy=>by
    have hne:y≠x:=fun e=>h.1 (e▸hy);exact (UG hne).2 (hs y (by simp [hy]))
   rw [UH hx] at h1;have:=UI hx;simp only [Xk];omega
structure Comps (l:List Int) (r:Int→Int→Bool) (cs:List (List Int)):Prop where
 mem:∀x,x∈cs.flatten↔x∈l
 nd:cs.flatten.Nodup
 ne:∀c∈cs,c≠[]
 asc:∀c∈cs,c.Pairwise (· < ·)
 conn:∀c∈cs,∀x∈c,∀y∈c,Conn l r x y
 clos:∀c∈cs,∀x∈c,∀y∈l,(r x y=true∨r y x=true)→y∈c
 ord:cs.Pairwise fun c d=>∀x y,c.head? =some x→d.head? =some y→x<y
structure Part (l:List Int) (r:Int→Int→Bool) (cs:List (List Int)) (k:Nat):Prop where
 sub:∀x∈cs.flatten,x∈l
 did:∀j x,j<k→l[j]? =some x→x∈cs.flatten
 nd:cs.flatten.Nodup
 ne:∀c∈cs,c≠[]
 asc:∀c∈cs,c.Pairwise (· < ·)
 conn:∀c∈cs,∀x∈c,∀y∈c,Conn l r x y
 clos:∀c∈cs,∀x∈c,∀y∈l,(r x y=true∨r y x=true)→y∈c
 ord:cs.Pairwise fun c d=>∀x y,c.head? =some x→d.head? =some y→x<y
 hd:∀c∈cs,∀x,c.head? =some x→∃j,j<k∧l[j]? =some x
structure Mk (l:List Int) (r:Int→Int→Bool) (cs:List (List Int)) (first:Int) (tk cl:List Int) (i q:Nat):Prop where
 tkm:∀z,z∈tk↔z∈cs.flatten∨z∈cl
 nd:(cs.flatten++cl).Nodup
 sub:∀z∈cl,z∈l
 con:∀z∈cl,Conn l r first z
 fst:first∈cl
 il:i≤cl.length
 did:∀j x,j<i→cl[j]? =some x→∀y∈l,(r x y=true∨r y x=true)→y∈tk
 now:∀x,cl[i]? =some x→∀p y,p<q→l[p]? =some y→(r x y=true∨r y x=true)→y∈tk
def sumTo:Nat→(Nat→Nat)→Nat
 |0,_=>0
 |n+1,f=>sumTo n f+f n
def marked (n:Nat) (I:Nat→Bool):List Int:=((List.range n).map fun i:Nat=>(i:Int)).filter fun x=>I x.toNat
structure LabOk (n:Nat) (I:Nat→Bool) (r:Int→Int→Bool) (lab:Nat→Nat):Prop where
 le:∀i,i<n→lab i≤i
 inn:∀i,i<n→I i=true→I (lab i)=true
 conn:∀i,i<n→I i=true→Conn (marked n I) r (lab i) i
def good (n:Nat) (I:Nat→Bool) (t:Nat→Nat→Bool) (lab:Nat→Nat) (a b:Nat):Prop:=a≠b→I a=true→I b=true→t a b=true→lab a=lab b
structure LabPass (n:Nat) (I:Nat→Bool) (r:Int→Int→Bool) (t:Nat→Nat→Bool) (lab0 lab:Nat→Nat) (ag:Bool) (a b:Nat):Prop where
 ok:LabOk n I r lab
 les:ag=true→sumTo n lab<sumTo n lab0
 eq:ag=false→lab=lab0∧∀x y,(x<a∧y<n∨x=a∧y<b)→good n I t lab x y
structure Fix (n:Nat) (I:Nat→Bool) (r:Int→Int→Bool) (t:Nat→Nat→Bool) (lab:Nat→Nat):Prop where
 ok:LabOk n I r lab
 st:∀x y,x<n→y<n→good n I t lab x y
end Go.Cb
namespace Go.Proofs.YtgfabnhpllkebaaGreatDoor
open Go.RowKit Go.Cb Go.En Tryz
set_option linter.all false
theorem DK {a b:Int}:TA a b<0↔a<b:=by unfold TA;split<;>(try split)<;>omega
theorem Li {a b:Int}:TA a b=0↔a=b:=by unfold TA;split<;>(try split)<;>omega
theorem Lj {a b:Mv}:Jo a b=true↔a.src<b.src∨(a.src=b.src∧(a.sym<b.sym∨(a.sym=b.sym∧a.dst<b.dst))):=by
 unfold Jo JV
 rw [UP]
 by_cases h1:TA a.src b.src=0
 · have e1:=Li.1 h1;by_cases h2:TA a.sym b.sym=0
   · have e2:=Li.1 h2;have h3:=DK (a:=a.dst) (b:=b.dst);by_cases h4:TA a.dst b.dst=0
     · have e4:=Li.1 h4;simp only [KL,h1,h2,h4,if_true];omega
     · simp only [KL,h1,h2,h4,if_true,if_false];omega
   · have h3:=DK (a:=a.sym) (b:=b.sym);have h4:¬a.sym=b.sym:=fun e=>h2 (Li.2 e);simp only [KL,h1,h2,if_true,if_false];omega
 · have h3:=DK (a:=a.src) (b:=b.src);have h4:¬a.src=b.src:=fun e=>h1 (Li.2 e);simp only [KL,h1,if_false];omega
theorem DL {α:Type} {r:α→α→Bool} {l:List α} (h:Ws r l=true) (hi:∀a∈l,r a a=false) (ht:∀a∈l,∀b∈l,∀c∈l,r a b=true→r b c=true→r a c=true):l.Pairwise fun a b=>r a b=true:=by
 induction l with
 |nil=>exact .nil
 | cons x l ih=>
   have h1:∀i a b,(x::l)[i]? =some a→(x::l)[i+1]? =some b→r a b=true:=(Gi r _).1 h;have h2:=ih ((Gi r l).2 fun i a b ha hb=>h1 (i+1) a b ha hb) (fun a ha=>hi a (Xn _ ha)) (fun a ha b hb c hc=>ht a (Xn _ ha) b (Xn _ hb) c (Xn _ hc));refine XP.2 ⟨fun y hy=>?_,h2⟩
   cases l with
   |nil=>simp at hy
   | cons z l=>
     have h3:=h1 0 x z rfl rfl;rcases Xq.1 hy with rfl|hy2
     · exact h3
     · exact ht x sM z sM y (Xn _ hy) h3 ((XP.1 h2).1 y hy2)
structure AOk (a:Aut):Prop where
 n0:0≤a.n
 n1:a.n≤2000
 s0:0≤a.syms
 s1:a.syms≤40
 ml:a.moves.length≤20000
 st:InS a a.start
 fi:InS a a.fin
 sl:a.start.length≤2000
 fl:a.fin.length≤2000
 mv:∀m∈a.moves,0≤m.src∧m.src<a.n∧0≤m.dst∧m.dst<a.n∧-1≤m.sym∧m.sym<a.syms
theorem AOk.mi {a:Aut} (h:AOk a):Lc a:=fun m hm=>by have:=h.mv m hm;omega
theorem ζa {n:Int} {l:List Int} (h:LL n l=true):∀s∈l,0≤s∧s<n:=fun s hs=>by
 unfold LL at h
 simp only [Xe,XB,UP] at h
 exact h.1 s hs
theorem ZaJ {n:Int} {l:List Int} (h:LL n l=true) (h0:0≤n) (hn:n≤2000):l.length≤2000:=by
 have h1:=ζa h
 unfold LL at h
 simp only [Xe] at h
 have h2:=DL h.2 (fun a _=>by unfold ltI;exact UR oM) (fun a _ b _ c _ h1 h2=>by
  unfold ltI at*;simp only [UP] at*;omega)
 have:=nodup_len 2000 l (h2.imp fun h=>by unfold ltI at h;simp only [UP] at h;omega) fun s hs=>by have:=h1 s hs;omega
 exact this
theorem GY {a:Aut} (h:Z4 a=true):AOk a:=by
 unfold Z4 at h
 simp only [Xe,UP] at h
 obtain ⟨⟨⟨⟨⟨⟨⟨⟨h1,h2⟩,h3⟩,h4⟩,h5⟩,h6⟩,h7⟩,h8⟩,h9⟩:=h
 refine ⟨h1,h2,h3,h4,h5,ζa h6,ζa h7,ZaJ h6 h1 h2,ZaJ h7 h1 h2,fun m hm=>?_⟩
 have:=XB.1 h8 m hm
 unfold Dt at this
 simp only [Xe,UP] at this
 omega
set_option maxRecDepth 100000
theorem Zhl {a:Aut} (h:0≤a.n):ZO a= .agg [pInt (a.n.toNat:Nat),pInt a.syms,pInts a.start,pInts a.fin,pMvs a.moves]:=by
 unfold ZO;rw [show ((a.n.toNat:Nat):Int)=a.n by omega]
def FinK (a:Aut) (k:Nat) (L:List Int):Prop:=L.length=a.n.toNat∧∀s,s<a.n.toNat→L[s]? =some (if (a.fin.take k).any (fun t=>decide (t=(s:Nat))) then 0 else-1)
theorem FinK.start {a:Aut} {L:List Int} (hl:L.length=a.n.toNat) (h:∀j,j<L.length→L[j]? =some (-1)):FinK a 0 L:=⟨hl,fun s hs=>by rw [h s oM];rfl⟩
theorem FinK.step {a:Aut} {k:Nat} {L:List Int} {t:Int} (h:FinK a k L) (ht:a.fin[k]? =some t) (h0:0≤t):FinK a (k+1) (L.set t.toNat 0):=by
 refine ⟨by rw [Xt];exact h.1,fun s hs=>?_⟩
 rw [ZE ht,VK]
 by_cases e:t.toNat=s
 · subst e;rw [X7 (by rw [h.1];exact hs)];simp only [List.any_cons,List.any_nil,Vz];rw [UQ (show t=((t.toNat:Nat):Int) by omega),Bool.or_true];rfl
 · rw [Vl e,h.2 s hs];simp only [List.any_cons,List.any_nil,Vz];rw [UR (show ¬t=(s:Int) by omega),Vz]
theorem FinK.done {a:Aut} {k:Nat} {L:List Int} (h:FinK a k L) (hk:a.fin.length≤k):L=Wm a 0:=by
 apply Vq
 intro s
 rcases XF s a.n.toNat with hs|hs
 · rw [h.2 s hs,show (Wm a 0)[s]? =_ from ZcG hs,Xo hk];rfl
 · rw [XL (by rw [h.1];exact hs),XL (by rw [(Ld a 0).len];exact hs)]
structure PassI (a:Aut) (far0 L:List Int) (fl:Bool) (i:Nat):Prop where
 eq:L=passF (a.moves.take i) far0
 ok:FarOk a.n.toNat L
 no:fl=false→L=far0
 yes:fl=true→sumF a.n.toNat L<sumF a.n.toNat far0
theorem PassI.start {a:Aut} {far0:List Int} (h:FarOk a.n.toNat far0):PassI a far0 far0 false 0:=⟨rfl,h,fun _=>rfl,fun h=>Bool.noConfusion h⟩
theorem PassI.set {a:Aut} {far0 L:List Int} {fl:Bool} {i:Nat} {m:Mv} {d e d':Int} (h:PassI a far0 L fl i) (hm:a.moves[i]? =some m) (hd:L[m.dst.toNat]? =some d) (he:L[m.src.toNat]? =some e) (h0:0≤d) (h1:e<0∨d'<e) (hs:d'=KI m d):PassI a far0 (L.set m.src.toNat d') true (i+1):=by
 subst hs
 have h2:=R9 h.ok hd he h0 h1
 refine ⟨?_,h2.1,fun h=>Bool.noConfusion h,fun _=>?_⟩
 · rw [ZE hm];unfold passF;rw [Vn];show _=JL (passF (a.moves.take i) far0) m;rw [←h.eq];unfold JL;rw [hd,he];dsimp only;rw [UT ⟨h0,h1⟩]
 · cases hfl:fl
   · rw [←h.no hfl];exact h2.2
   · exact Nat.lt_trans h2.2 (h.yes hfl)
theorem PassI.skip {a:Aut} {far0 L:List Int} {fl:Bool} {i:Nat} {m:Mv} {d e:Int} (h:PassI a far0 L fl i) (hm:a.moves[i]? =some m) (hd:L[m.dst.toNat]? =some d) (he:L[m.src.toNat]? =some e) (h1:¬(0≤d∧(e<0∨KI m d<e))):PassI a far0 L fl (i+1):=by
 refine ⟨?_,h.ok,h.no,h.yes⟩
 rw [ZE hm]
 unfold passF
 rw [Vn]
 show _=JL (passF (a.moves.take i) far0) m
 rw [←h.eq]
 unfold JL
 rw [hd,he]
 dsimp only
 rw [US h1]
theorem PassI.done {a:Aut} {far0 L:List Int} {fl:Bool} {i:Nat} (h:PassI a far0 L fl i) (hi:a.moves.length≤i):L=passF a.moves far0:=by rw [h.eq,Xo hi]
theorem PassI.less {a:Aut} {j i:Nat} {L:List Int} {fl:Bool} (h:PassI a (Wm a j) L fl i) (hL:L=Wm a (j+1)):sumF a.n.toNat (Wm a (j+1))+(if fl then 1 else 0)<sumF a.n.toNat (Wm a j)+(if true then 1 else 0):=by
 cases hf:fl
 · have h1:=h.no hf;rw [hL] at h1;rw [h1];simp
 · have h1:=h.yes hf;rw [hL] at h1;simp;omega
theorem Zhm {n:Nat} {L:List Int} (h:FarOk n L) {i:Nat} {d:Int} (hd:L[i]? =some d): -1≤d∧d<n:=by
 have h1:=h.lo d (Xc hd)
 have h2:=h.hi d (Xc hd)
 have h3:=C7 L
 rw [h.len] at h3
 omega
set_option maxHeartbeats 2000000 in
theorem ζb (a : Aut) (h : AOk a):AF prog 139 [ZO a] (· = .own 3 1 a.n.toNat ((Y9 a).map pInt)):=by
 have hn0:=h.n0
 have hn1:=h.n1
 have hml:=h.ml
 have hfl:=h.fl
 rw [Zhl h.n0]
 refine AF.of_body 80 func139 rfl ntmps139 (Xa rfl) ?_
 intro w0 M0 vs hl hv
 obtain ⟨v0,rfl⟩:=WL hl
 clear hl hv
 refine Ze ?_
 (refine ZG 1 5 fun h1=>?_<;>refine xL 2 Za ?_<;>refine Zg ?_)
 (refine xL 11 (Zd 1 ZY) ?_<;>(refine yL 12 (Zk 1 Zo) fun v12 h=>?_;cases h)<;>refine LJ 13 Zl fun h13 ho13=>?_<;>refine xL 3 Za ?_<;>refine Zc ?_)
 rw [show List.replicate a.n.toNat (PV.val (.int .i64 0))=(List.replicate a.n.toNat (0:Int)).map pInt by rw [List.map_replicate]]
 (refine Zt ?_<;>refine xL 14 Zb (xL 15 (YN 13 Zu) (xL 16 Zb ?_))<;>refine Zc ?_)
 refine ZD (ι:={q:Nat×List Int//q.1≤a.n.toNat∧q.2.length=a.n.toNat∧∀j,j<q.1→q.2[j]? =some (-1)}) (fun k=>⟨[(1,_,_),(2,_,_),(3,_,_),(15,_,_),(16, .int .i64 k.1.1,pInt k.1.1)],[(1,_,_),(13,h13, .own 3 1 a.n.toNat (k.1.2.map pInt))]⟩) (fun k=>a.n.toNat-k.1.1) ⟨(0,List.replicate a.n.toNat 0),Xf _,XJ,fun j hj=>oM⟩ (fun a w H=>H.weaken ⟨rfl,rfl,rfl,rfl,rfl,trivial⟩ ⟨rfl,rfl,trivial⟩) ?_
 rintro ⟨⟨k,L⟩,hk,hLl,hL⟩
 dsimp only
 dsimp only at hk hLl hL
 have hLm:(L.map pInt).length=a.n.toNat:=by rw [Xd];exact hLl
 refine Ze ?_
 (refine xL 17 ZQ ?_<;>refine Zc ?_)
 refine cX ?_ ?_<;>intro hb17
 · first|exact bN hb17|(
 refine Ze ?_;(refine xL 18 Zb (xL 4 Za ?_)<;>refine Zg ?_)
 (refine xL 19 Zb (xL 20 Zb (xL 21 (YL 13 Zu) ?_))<;>refine YZ 13 Zo W9 ?_<;>refine Zg ?_)
 (refine xL 22 ZH (xL 16 Zb ?_)<;>refine Zc ?_)
 rw [Xw,←VV];refine Zn (
  ⟨(k+1,L.set k (-1)),by dsimp only;omega,by rw [Xt];exact hLl,fun j hj=>by
    dsimp only at hj ⊢;by_cases e:k=j
    · subst e;rw [X7 oM]
    · rw [Vl e];exact hL j oM⟩
  ) (by dsimp only;omega) ⟨rfl,rfl,rfl,rfl,rfl,trivial⟩ ⟨rfl,rfl,trivial⟩)
 · first | exact bN hb17 | (
 have hF0:FinK a 0 L:=FinK.start hLl fun j hj=>hL j oM;refine Ze ?_;(refine xL 23 (Zd 1 Yq) ?_<;>(refine yL 24 (Zk 1 ZB) fun v24 h=>?_;cases h)<;>refine xL 25 (ZR Zu) (xL 26 Zb ?_)<;>refine Zc ?_)
 refine ZD (ι:={q:Nat×List Int//q.1≤a.fin.length∧FinK a q.1 q.2}) (fun k=>⟨[(1,_,_),(2,_,_),(3,_,_),(24,_,_),(25,_,_),(26, .int .i64 k.1.1,pInt k.1.1)],[(1,_,_),(13,h13, .own 3 1 a.n.toNat (k.1.2.map pInt))]⟩) (fun k=>a.fin.length-k.1.1) ⟨(0,L),Xf _,hF0⟩ (fun a w H=>H.weaken ⟨rfl,rfl,rfl,rfl,rfl,rfl,trivial⟩ ⟨rfl,rfl,trivial⟩) ?_;rintro ⟨⟨k8,L8⟩,hk8,hF8⟩;dsimp only;dsimp only at hk8 hF8;(have hLm8:(L8.map pInt).length=a.n.toNat:=by rw [Xd];exact hF8.1);refine Ze ?_;(refine xL 27 ZQ ?_<;>refine Zc ?_)
 refine cX ?_ ?_<;>intro hb27
 · first|exact bN hb27|(
 obtain ⟨t,ht⟩:=Zp (show k8<a.fin.length by omega);have e1:=Ym (f:=pInt) ht;have ht2:=h.fi t (Xc ht);refine Ze ?_;(refine xL 28 (ZF Zu) ?_<;>(refine yL 29 (Yo Zo) fun v29 h=>?_;cases h)<;>refine xL 6 Za ?_<;>refine Zg ?_)
 (refine xL 30 Zb (xL 31 Zb (xL 32 (K7 13 Zu) ?_))<;>refine YZ 13 Zo W9 ?_<;>refine Zg ?_)
 (refine xL 33 ZH (xL 26 Zb ?_)<;>refine Zc ?_)
 rw [Xw,←VV];refine Zn (
  ⟨(k8+1,L8.set t.toNat 0),Zf ht,hF8.step ht ht2.1⟩
  ) (by dsimp only;omega) ⟨rfl,rfl,rfl,rfl,rfl,rfl,trivial⟩ ⟨rfl,rfl,trivial⟩)
 · first | exact bN hb27 |(
 have hF9:=hF8.done oM;subst hF9;refine Ze ?_;(refine xL 7 Za ?_<;>refine Zc ?_)
 refine ZD (ι:={q:Nat×Bool//q.2=false→passF a.moves (Wm a q.1)=Wm a q.1}) (fun k=>⟨[(1,_,_),(2,_,_),(3,_,_),(7, .bool k.1.2,ZM k.1.2)],[(1,_,_),(13,h13, .own 3 1 a.n.toNat ((Wm a k.1.1).map pInt))]⟩) (fun k=>sumF a.n.toNat (Wm a k.1.1)+(if k.1.2 then 1 else 0)) ⟨(0,true),fun h=>Bool.noConfusion h⟩ (fun a w H=>H.weaken ⟨rfl,rfl,rfl,rfl,trivial⟩ ⟨rfl,rfl,trivial⟩) ?_;rintro ⟨⟨j,ag⟩,hag⟩;dsimp only;dsimp only at hag;refine Ze ?_;(refine xL 34 Zb ?_<;>refine Zc ?_)
 refine cX ?_ ?_<;>intro hb34
 · first | exact bN hb34|(
 refine Ze ?_;(refine xL 7 Za ?_<;>refine Zg ?_)
 (refine xL 35 (Zd 1 ZC) ?_<;>(refine yL 36 (Zk 1 ZK) fun v36 h=>?_;cases h)<;>refine xL 37 (ZR ZN) (xL 38 Zb ?_)<;>refine Zc ?_)
 refine ZD (ι:={q:Nat×List Int×Bool//q.1≤a.moves.length∧PassI a (Wm a j) q.2.1 q.2.2 q.1}) (fun k=>⟨[(1,_,_),(2,_,_),(3,_,_),(36,_,_),(37,_,_),(7, .bool k.1.2.2,ZM k.1.2.2),(38, .int .i64 k.1.1,pInt k.1.1)],[(1,_,_),(13,h13, .own 3 1 a.n.toNat (k.1.2.1.map pInt))]⟩) (fun k=>a.moves.length-k.1.1) ⟨(0,Wm a j,false),Xf _,PassI.start (Ld a j)⟩ (fun a w H=>H.weaken ⟨rfl,rfl,rfl,rfl,rfl,rfl,rfl,trivial⟩ ⟨rfl,rfl,trivial⟩) ?_;rintro ⟨⟨i,L2,fl⟩,hi,hP⟩;dsimp only;dsimp only at hi hP;refine Ze ?_;(refine xL 39 ZQ ?_<;>refine Zc ?_)
 refine cX ?_ ?_<;>intro hb39
 · first | exact bN hb39|(
 obtain ⟨m,hm⟩:=Zp (show i<a.moves.length by omega);have e1:=Yc Z8 a.moves i m hm;have e2:=Yz Z8 hm;have hmv:=h.mv m (Xc hm);have hLl:=hP.ok.len;obtain ⟨d,hd⟩:=Zp (show m.dst.toNat<L2.length by omega);obtain ⟨e,he⟩:=Zp (show m.src.toNat<L2.length by omega);have hdb:=Zhm hP.ok hd;have heb:=Zhm hP.ok he;have e3:=Ym (f:=pInt) hd;have e4:=Ym (f:=pInt) he;(have hLm2:(L2.map pInt).length=a.n.toNat:=by rw [Xd];exact hLl);refine Ze ?_;(refine xL 40 (ZF ZN) ?_<;>(refine yL 41 (YI Z1) fun v41 h=>?_;cases h)<;>refine Zw [(.int .i64 0),(.int .i64 0),(.int .i64 0)] 3 9 KU fun h9=>?_<;>refine ZA 9 Z1 ?_<;>refine Zg ?_)
 (refine xL 42 Zb (xL 43 (Zd 9 YK) ?_)<;>(refine yL 44 (Zk 9 Zo) fun v44 h=>?_;cases h)<;>refine xL 45 (K7 13 Zu) ?_<;>(refine yL 46 (Zk 13 Zo) fun v46 h=>?_;cases h)<;>refine xL 47 ZQ ?_<;>refine Zc ?_)
 refine cX ?_ ?_<;>intro hb47
 · first |exact bN hb47|(
 refine Ze ?_;(refine xL 78 ZH (xL 38 Zb ?_)<;>refine Zc ?_)
 try rw [Xw,←VV]
 first
  | (exact Zn (
      ⟨(i+1,L2.set m.src.toNat (d+1),true),Zf hm,hP.set hm hd he oM (by first|omega|(simp at hb72;omega)) oM⟩
      ) (by dsimp only;omega) ⟨rfl,rfl,rfl,rfl,rfl,rfl,rfl,trivial⟩ ⟨rfl,rfl,trivial⟩)
  | (exact Zn (
      ⟨(i+1,L2.set m.src.toNat d,true),Zf hm,hP.set hm hd he oM (by first|omega|(simp at hb72;omega)) oM⟩
      ) (by dsimp only;omega) ⟨rfl,rfl,rfl,rfl,rfl,rfl,rfl,trivial⟩ ⟨rfl,rfl,trivial⟩)
  | (exact Zn (
      ⟨(i+1,L2,fl),Zf hm,hP.skip hm hd he (by first|omega|(simp at hb72;omega))⟩
      ) (by dsimp only;omega) ⟨rfl,rfl,rfl,rfl,rfl,rfl,rfl,trivial⟩ ⟨rfl,rfl,trivial⟩))
 · first | exact bN hb47|(
 refine Ze ?_;(refine xL 48 Zb (xL 49 (Zd 9 YK) ?_)<;>(refine yL 50 (Zk 9 Zo) fun v50 h=>?_;cases h)<;>refine xL 51 (K7 13 Zu) ?_<;>(refine yL 52 (Zk 13 Zo) fun v52 h=>?_;cases h)<;>refine xL 10 Za ?_<;>refine Zg ?_)
 (refine xL 53 (Zd 9 Wk) ?_<;>(refine yL 54 (Zk 9 Zo) fun v54 h=>?_;cases h)<;>refine xL 55 WK ?_<;>refine Zc ?_)
 refine cX ?_ ?_<;>intro hb55
 · first | exact bN hb55|(
 (have hst:KI m d=d+1:=by unfold KI;rw [UT oM]);refine Ze ?_;(refine xL 56 Zb (xL 57 ZH (xL 10 Za ?_))<;>refine Zg ?_)
 (refine xL 58 Zb (xL 59 (Zd 9 Yv) ?_)<;>(refine yL 60 (Zk 9 Zo) fun v60 h=>?_;cases h)<;>refine xL 61 (K7 13 Zu) ?_<;>(refine yL 62 (Zk 13 Zo) fun v62 h=>?_;cases h)<;>refine xL 63 ZQ (xL 64 Zb ?_)<;>(refine bLd 64 (fun hb64=>?_) (fun hb64=>?_)<;>(first|refine kL 65 ?_|refine xL 65 Zb ?_))<;>(first|refine kL 66 ?_|refine xL 66 Zb ?_)<;>(first|refine kL 67 ?_|refine xL 67 (Zd 9 Yv) ?_)<;>(first|refine kL 68 ?_|(refine yL 68 (Zk 9 Zo) fun v68 h=>?_;cases h))<;>(first|refine kL 69 ?_|refine xL 69 (K7 13 Zu) ?_)<;>(first|refine kL 70 ?_|(refine yL 70 (Zk 13 Zo) fun v70 h=>?_;cases h))<;>(first|refine kL 71 ?_|refine xL 71 ZQ ?_)<;>refine xL 72 Zz ?_<;>refine Zc ?_)<;>(
 refine cX ?_ ?_<;>intro hb72
 · first |exact bN hb72|(
 refine Ze ?_;(refine xL 73 Zb (xL 74 (Zd 9 Yv) ?_)<;>(refine yL 75 (Zk 9 Zo) fun v75 h=>?_;cases h)<;>refine xL 76 Zb (xL 77 (K7 13 Zu) ?_)<;>refine YZ 13 Zo W9 ?_<;>refine Zg ?_)
 (refine xL 7 Za ?_<;>refine Zg ?_)
 (refine xL 78 ZH (xL 38 Zb ?_)<;>refine Zc ?_)
 try rw [Xw,←VV]
 first
  | (exact Zn (
      ⟨(i+1,L2.set m.src.toNat (d+1),true),Zf hm,hP.set hm hd he oM (by first|omega|(simp at hb72;omega)) oM⟩
      ) (by dsimp only;omega) ⟨rfl,rfl,rfl,rfl,rfl,rfl,rfl,trivial⟩ ⟨rfl,rfl,trivial⟩)
  | (exact Zn (
      ⟨(i+1,L2.set m.src.toNat d,true),Zf hm,hP.set hm hd he oM (by first|omega|(simp at hb72;omega)) oM⟩
      ) (by dsimp only;omega) ⟨rfl,rfl,rfl,rfl,rfl,rfl,rfl,trivial⟩ ⟨rfl,rfl,trivial⟩)
  | (exact Zn (
      ⟨(i+1,L2,fl),Zf hm,hP.skip hm hd he (by first|omega|(simp at hb72;omega))⟩
      ) (by dsimp only;omega) ⟨rfl,rfl,rfl,rfl,rfl,rfl,rfl,trivial⟩ ⟨rfl,rfl,trivial⟩))
 · first |exact bN hb72|(
 refine Ze ?_;(refine xL 78 ZH (xL 38 Zb ?_)<;>refine Zc ?_)
 try rw [Xw,←VV]
 first
  | (exact Zn (
      ⟨(i+1,L2.set m.src.toNat (d+1),true),Zf hm,hP.set hm hd he oM (by first|omega|(simp at hb72;omega)) oM⟩
      ) (by dsimp only;omega) ⟨rfl,rfl,rfl,rfl,rfl,rfl,rfl,trivial⟩ ⟨rfl,rfl,trivial⟩)
  | (exact Zn (
      ⟨(i+1,L2.set m.src.toNat d,true),Zf hm,hP.set hm hd he oM (by first|omega|(simp at hb72;omega)) oM⟩
      ) (by dsimp only;omega) ⟨rfl,rfl,rfl,rfl,rfl,rfl,rfl,trivial⟩ ⟨rfl,rfl,trivial⟩)
  | (exact Zn (
      ⟨(i+1,L2,fl),Zf hm,hP.skip hm hd he (by first|omega|(simp at hb72;omega))⟩
      ) (by dsimp only;omega) ⟨rfl,rfl,rfl,rfl,rfl,rfl,rfl,trivial⟩ ⟨rfl,rfl,trivial⟩))))
 · first | exact bN hb55|(
 (have hst:KI m d=d:=by unfold KI;rw [US oM]);refine Ze ?_;(refine xL 58 Zb (xL 59 (Zd 9 Yv) ?_)<;>(refine yL 60 (Zk 9 Zo) fun v60 h=>?_;cases h)<;>refine xL 61 (K7 13 Zu) ?_<;>(refine yL 62 (Zk 13 Zo) fun v62 h=>?_;cases h)<;>refine xL 63 ZQ (xL 64 Zb ?_)<;>(refine bLd 64 (fun hb64=>?_) (fun hb64=>?_)<;>(first|refine kL 65 ?_|refine xL 65 Zb ?_))<;>(first|refine kL 66 ?_|refine xL 66 Zb ?_)<;>(first|refine kL 67 ?_|refine xL 67 (Zd 9 Yv) ?_)<;>(first|refine kL 68 ?_|(refine yL 68 (Zk 9 Zo) fun v68 h=>?_;cases h))<;>(first|refine kL 69 ?_|refine xL 69 (K7 13 Zu) ?_)<;>(first|refine kL 70 ?_|(refine yL 70 (Zk 13 Zo) fun v70 h=>?_;cases h))<;>(first|refine kL 71 ?_|refine xL 71 ZQ ?_)<;>refine xL 72 Zz ?_<;>refine Zc ?_)<;>(
 refine cX ?_ ?_<;>intro hb72
 · first |exact bN hb72|(
 refine Ze ?_;(refine xL 73 Zb (xL 74 (Zd 9 Yv) ?_)<;>(refine yL 75 (Zk 9 Zo) fun v75 h=>?_;cases h)<;>refine xL 76 Zb (xL 77 (K7 13 Zu) ?_)<;>refine YZ 13 Zo W9 ?_<;>refine Zg ?_)
 (refine xL 7 Za ?_<;>refine Zg ?_)
 (refine xL 78 ZH (xL 38 Zb ?_)<;>refine Zc ?_)
 try rw [Xw,←VV]
 first
  | (exact Zn (
      ⟨(i+1,L2.set m.src.toNat (d+1),true),Zf hm,hP.set hm hd he oM (by first|omega|(simp at hb72;omega)) oM⟩
      ) (by dsimp only;omega) ⟨rfl,rfl,rfl,rfl,rfl,rfl,rfl,trivial⟩ ⟨rfl,rfl,trivial⟩)
  | (exact Zn (
      ⟨(i+1,L2.set m.src.toNat d,true),Zf hm,hP.set hm hd he oM (by first|omega|(simp at hb72;omega)) oM⟩
      ) (by dsimp only;omega) ⟨rfl,rfl,rfl,rfl,rfl,rfl,rfl,trivial⟩ ⟨rfl,rfl,trivial⟩)
  | (exact Zn (
      ⟨(i+1,L2,fl),Zf hm,hP.skip hm hd he (by first|omega|(simp at hb72;omega))⟩
      ) (by dsimp only;omega) ⟨rfl,rfl,rfl,rfl,rfl,rfl,rfl,trivial⟩ ⟨rfl,rfl,trivial⟩))
 · first |exact bN hb72|(
 refine Ze ?_;(refine xL 78 ZH (xL 38 Zb ?_)<;>refine Zc ?_)
 try rw [Xw,←VV]
 first
  | (exact Zn (
      ⟨(i+1,L2.set m.src.toNat (d+1),true),Zf hm,hP.set hm hd he oM (by first|omega|(simp at hb72;omega)) oM⟩
      ) (by dsimp only;omega) ⟨rfl,rfl,rfl,rfl,rfl,rfl,rfl,trivial⟩ ⟨rfl,rfl,trivial⟩)
  | (exact Zn (
      ⟨(i+1,L2.set m.src.toNat d,true),Zf hm,hP.set hm hd he oM (by first|omega|(simp at hb72;omega)) oM⟩
      ) (by dsimp only;omega) ⟨rfl,rfl,rfl,rfl,rfl,rfl,rfl,trivial⟩ ⟨rfl,rfl,trivial⟩)
  | (exact Zn (
      ⟨(i+1,L2,fl),Zf hm,hP.skip hm hd he (by first|omega|(simp at hb72;omega))⟩
      ) (by dsimp only;omega) ⟨rfl,rfl,rfl,rfl,rfl,rfl,rfl,trivial⟩ ⟨rfl,rfl,trivial⟩))))))
 · first|exact bN hb39|(
 have hL2:L2=Wm a (j+1):=hP.done oM;(have hms:sumF a.n.toNat (Wm a (j+1))+(if fl then 1 else 0)<sumF a.n.toNat (Wm a j)+(if ag then 1 else 0):=by rw [show ag=true from hb34];exact hP.less hL2);refine nav ?_;rw [hL2];refine Zn (
  ⟨(j+1,fl),fun hf=>by
    have h1:=hP.no hf;rw [hL2] at h1;show passF a.moves (Wm a (j+1))=Wm a (j+1);rw [h1];exact h1⟩
  ) (hms) ⟨rfl,rfl,rfl,rfl,trivial⟩ ⟨rfl,rfl,trivial⟩))
 · first|exact bN hb34|(
 refine Ze ?_;(refine xL 79 Zb (xL 2 Za ?_)<;>refine Zc ?_)
 refine JB 13 (results139) rfl rfl ?_;rw [ZjP (hag (by simpa using hb34))])))
theorem Jt:ElT prog 139 4 1 1 (.bool false):=⟨underlying139,by kernel_rfl,rfl,dC⟩
theorem DN:ElT prog 194 37 1 24 (.slice none 0 0):=⟨underlying194,by kernel_rfl,rfl,dC⟩
theorem Yd:ElT prog 37 93 3 24 (.agg #[(.int .i64 0),(.int .i64 0),(.int .i64 0)]):=⟨underlying37,by kernel_rfl,rfl,dC⟩
theorem DO:Ke prog 196=some ((.agg #[(.int .i64 0),(.slice none 0 0),(.slice none 0 0)]),([0,1,2]:List Nat).map fun o=>(o,1)):=by kernel_rfl
theorem Wp:(prog.info? 37).map (·.size)=some 1:=by kernel_rfl
theorem Zhn:(prog.info? 4).map (·.size)=some 1:=by kernel_rfl
def ZaK (e:Nat) (l:List Mv):PV:= .own e 3 l.length (l.flatMap cMv)
theorem Zfa (e:Nat) (l:List Mv):share (ZaK e l)=pMvs l:=by
 unfold ZaK
 rw [share,Yb,V7];rfl
def J4 (ms:List Mv) (s:Nat):List Mv:=ms.filter fun m=>decide (m.src=(s:Int))
def Ju (e n:Nat) (ms:List Mv):List PV:=(List.range n).map fun s=>ZaK e (J4 ms s)
theorem Ks (e n:Nat) (ms:List Mv):(Ju e n ms).length=n:=by unfold Ju;simp
theorem T3 (e:Nat) {n s:Nat} (ms:List Mv) (h:s<n):(Ju e n ms)[s]? =some (ZaK e (J4 ms s)):=by
 unfold Ju;rw [Xm,V6 h];rfl
theorem ZaL (e:Nat) {n:Nat} {ms:List Mv} {m:Mv} (h0:0≤m.src) (h:m.src<n):(Ju e n ms).set m.src.toNat (ZaK e (J4 ms m.src.toNat++[m]))=Ju e n (ms++[m]):=by
 apply Vq
 intro s
 rcases XF s n with hs|hs
 · rw [T3 e _ hs];by_cases e1:m.src.toNat=s
   · subst e1;rw [X7 (by rw [Ks];exact hs)];congr 2;unfold J4;rw [Vd];congr 1;simp only [List.filter_cons,List.filter_nil];rw [UQ (show m.src=((m.src.toNat:Nat):Int) by omega)];rfl
   · rw [Vl e1,T3 e _ hs];congr 2;unfold J4;rw [Vd];simp only [List.filter_cons,List.filter_nil];rw [UR (show ¬m.src=(s:Int) by omega)];simp
 · rw [XL (by rw [Xt,Ks];exact hs),XL (by rw [Ks];exact hs)]
theorem Zho (e n:Nat):∀(i:Nat) (p p':PV),(List.replicate n (PV.val (.slice none 0 0)))[i]? =some p→(Ju e n [])[i]? =some p'→Zle p p':=fun i p p' h1 h2=>by
 have hi:=Zf h2
 rw [Ks] at hi
 rw [T3 e _ hi] at h2
 rw [UN,UT hi] at h1
 cases h1;cases h2
 exact .inr ⟨rfl,e,3,rfl⟩
theorem ZaM (ms:List Mv) (s:Nat):(J4 ms s).length≤ms.length:=VJ _ _
def Sp (a:Aut) (k:Nat):List PV:=(List.range a.n.toNat).map fun s=>ZM ((a.fin.take k).any fun t=>decide (t=(s:Nat)))
theorem Lk (a:Aut) (k:Nat):(Sp a k).length=a.n.toNat:=by unfold Sp;simp
theorem DR {a:Aut} {k s:Nat} (h:s<a.n.toNat):(Sp a k)[s]? =some (ZM ((a.fin.take k).any fun t=>decide (t=(s:Nat)))):=by
 unfold Sp;rw [Xm,V6 h];rfl
theorem ZcJ {a:Aut} {k:Nat} {t:Int} (ht:a.fin[k]? =some t) (h0:0≤t):(Sp a k).set t.toNat (ZM true)=Sp a (k+1):=by
 apply Vq
 intro s
 rcases XF s a.n.toNat with hs|hs
 · rw [DR hs];rw [ZE ht,VK];simp only [List.any_cons,List.any_nil,Vz];by_cases e:t.toNat=s
   · subst e;rw [X7 (by rw [Lk];exact hs),UQ (show t=((t.toNat:Nat):Int) by omega),Bool.or_true]
   · rw [Vl e,DR hs,UR (show ¬t=(s:Int) by omega),Vz]
 · rw [XL (by rw [Xt,Lk];exact hs),XL (by rw [Lk];exact hs)]
theorem ZcK (a:Aut):List.replicate a.n.toNat (PV.val (.bool false))=Sp a 0:=by
 apply Vq
 intro s
 rcases XF s a.n.toNat with hs|hs
 · rw [DR hs,UN,UT hs];rfl
 · rw [XL (by rw [XJ];exact hs),XL (by rw [Lk];exact hs)]
theorem Zhp (e0 e1 e2:Nat) (a:Aut) {k1 k2:Nat} (h1:a.moves.length≤k1) (h2:a.fin.length≤k2):Jj [pInt a.syms,PV.own e0 1 a.n.toNat (Ju e1 a.n.toNat (a.moves.take k1)),PV.own e2 1 a.n.toNat (Sp a k2)]=[pInt a.syms,C4 a,Zhc a]:=by
 rw [Xo h1]
 simp only [Jj,share]
 congr 1
 congr 1
 · unfold C4 Ju;rw [Yb,XI];congr 1;exact VH fun s _=>Zfa e1 _
 · congr 1;unfold Zhc Sp;rw [Yb,XI,Xo h2];rfl
theorem Zhq (e:Nat) (L:List Mv) (x:Mv):PV.own e 3 (L.length+1) (L.flatMap cMv++cMv x)=ZaK e (L++[x]):=by unfold ZaK;simp
set_option maxHeartbeats 2000000 in
theorem LR (a:Aut) (h:AOk a):AF prog 110 [ZO a] (· =pGr a):=by
 have hn0:=h.n0
 have hn1:=h.n1
 have hml:=h.ml
 have hfl:=h.fl
 rw [Zhl h.n0]
 refine AF.of_body 59 func110 rfl ntmps110 (Xa rfl) ?_
 intro w0 M0 vs hl hv
 obtain ⟨v0,rfl⟩:=WL hl
 clear hl hv
 refine Ze ?_
 (refine ZG 1 5 fun h1=>?_<;>refine xL 2 Za ?_<;>refine Zc ?_)
 (refine Z5 (fun i=>([]:List Nat).elem i) [1] kR ?_<;>refine xD 0 8 rfl (Zd 1 Yl) ?_<;>(refine yD 1 9 rfl (Zk 1 Zo) fun v9 h=>?_;cases h)<;>refine xD 2 10 rfl (Zd 1 ZY) ?_<;>(refine yD 3 11 rfl (Zk 1 Zo) fun v11 h=>?_;cases h)<;>refine xD 5 13 rfl (Zd 1 ZY) ?_<;>(refine yD 6 14 rfl (Zk 1 Zo) fun v14 h=>?_;cases h)<;>(refine Y5 4 7 kR ?_ ?_;rotate_right;(focus ((refine Zj rfl fun w9 M9 N9 DQ back=>?_)<;>refine LJ 15 Jt fun h15 ho15=>?_<;>refine Zh (back _ (nrm ?_))<;>(refine Zq 4 kR ?_)<;>(refine Zj rfl fun w9 M9 N9 DQ back=>?_)<;>refine LJ 12 DN fun h12 ho12=>?_<;>refine Zh (back _ (nrm ?_))<;>refine xE 8 16 rfl (ZL DO) ?_<;>(refine Zq 9 kR ?_)<;>(refine Zj rfl fun w9 M9 N9 DQ back=>?_)<;>refine ZG 17 3 fun h17=>?_<;>refine Zh (back _ (nrm ?_))<;>(refine Zq 10 kR ?_)<;>(refine Zj rfl fun w9 M9 N9 DQ back=>?_)<;>refine xL 3 Za ?_<;>refine Zh (back _ (nrm ?_))));rotate_right;(focus ((refine Zj rfl fun w9 M9 N9 DQ back=>?_)<;>refine LJ 12 DN fun h12 ho12=>?_<;>refine Zh (back _ (nrm ?_))<;>(refine Zq 7 kR ?_)<;>(refine Zj rfl fun w9 M9 N9 DQ back=>?_)<;>refine LJ 15 Jt fun h15 ho15=>?_<;>refine Zh (back _ (nrm ?_))<;>refine xE 8 16 rfl (ZL DO) ?_<;>(refine Zq 9 kR ?_)<;>(refine Zj rfl fun w9 M9 N9 DQ back=>?_)<;>refine ZG 17 3 fun h17=>?_<;>refine Zh (back _ (nrm ?_))<;>(refine Zq 10 kR ?_)<;>(refine Zj rfl fun w9 M9 N9 DQ back=>?_)<;>refine xL 3 Za ?_<;>refine Zh (back _ (nrm ?_)))))<;>refine YC kR (nav ?_)<;>try dsimp only)<;>(
 refine Zx (G6 (l:=12) (Ju 93 a.n.toNat []) rfl (by rw [Ks,XJ]) (Zho _ _)) fun _=>?_;rw [ZcK a];(refine Zt ?_<;>refine xL 18 (Zd 1 ZC) ?_<;>(refine yL 19 (Zk 1 ZK) fun v19 h=>?_;cases h)<;>refine xL 20 (ZR ZN) (xL 21 Zb ?_)<;>refine Zc ?_)
 refine ZD (ι:={q:Nat//q≤a.moves.length}) (fun k=>⟨[(1,_,_),(2,_,_),(3,_,_),(19,_,_),(20,_,_),(21, .int .i64 k.1,pInt k.1)],[(1,_,_),(15,_,_),(17,h17, .own 196 3 1 [pInt a.syms, .val h12, .val h15]),(12,h12, .own 37 1 a.n.toNat (Ju 93 a.n.toNat (a.moves.take k.1)))]⟩) (fun k=>a.moves.length-k.1) ⟨0,Xf _⟩ (fun a w H=>H.weaken ⟨rfl,rfl,rfl,rfl,rfl,rfl,trivial⟩ ⟨rfl,rfl,rfl,rfl,trivial⟩) ?_;rintro ⟨k,hk⟩;dsimp only;refine Ze ?_;(refine xL 22 ZQ ?_<;>refine Zc ?_)
 refine cX ?_ ?_<;>intro hb22
 · first|exact bN hb22|(
 obtain ⟨m,hm⟩:=Zp (show k<a.moves.length by omega);have e1:=Yc Z8 a.moves k m hm;have e2:=Yz Z8 hm;have hmv:=h.mv m (Xc hm);have hi:m.src.toNat<a.n.toNat:=oM;refine Ze ?_;(refine xL 23 (ZF ZN) ?_<;>(refine yL 24 (YI Z1) fun v24 h=>?_;cases h)<;>refine Zw [(.int .i64 0),(.int .i64 0),(.int .i64 0)] 3 5 KU fun h5=>?_<;>refine ZA 5 Z1 ?_<;>refine Zc ?_)
 refine Zx (GR (l:=12) (l':=201) (j:=m.src.toNat) rfl (T3 _ _ hi) rfl rfl) fun i=>?_;obtain ⟨m1,hm1⟩:=i;dsimp only;(have e3:((Ju 93 a.n.toNat (a.moves.take k)).set m.src.toNat (.val m1))[m.src.toNat*1]? =some (.val m1):=by rw [Xw,X7 (by rw [Ks];exact hi)]);(have e4:((Ju 93 a.n.toNat (a.moves.take k)).set m.src.toNat (.val m1)).length=a.n.toNat:=by rw [Xt,Ks]);have e5:=ZaM (a.moves.take k) m.src.toNat;rw [Xx] at e5;(refine Z5 (fun i=>([18]:List Nat).elem i) [5,12,17] kR ?_<;>refine xD 0 25 rfl Zb ?_<;>refine xD 1 26 rfl (Zci 17) ?_<;>refine xD 2 27 rfl (Zd 17 Ky) ?_<;>(refine yD 3 28 rfl (Zk 17 Jp) fun v28 h=>?_;cases h)<;>refine xD 4 29 rfl (Zd 5 Yv) ?_<;>(refine yD 5 30 rfl (Zk 5 Zo) fun v30 h=>?_;cases h)<;>refine xD 6 31 rfl Zb ?_<;>refine xD 7 32 rfl (Zci 17) ?_<;>refine xD 8 33 rfl (Zd 17 Ky) ?_<;>(refine yD 9 34 rfl (Zk 17 Jp) fun v34 h=>?_;cases h)<;>refine xD 10 35 rfl (Zd 5 Yv) ?_<;>(refine yD 11 36 rfl (Zk 5 Zo) fun v36 h=>?_;cases h)<;>refine xD 12 37 rfl (K7 12 Jq) ?_<;>(refine yD 13 38 rfl (Zk 12 ZK) fun v38 h=>?_;cases h)<;>(refine yE 14 39 rfl (Zs 5 Z1) fun v39 h=>?_;cases h)<;>(refine Zq 15 kR ?_)<;>(refine Zj rfl fun w9 M9 N9 DQ back=>?_)<;>refine YM 40 Yd fun h40 ho40=>?_<;>refine Zh (back _ (nrm ?_))<;>(refine Zq 16 kR ?_)<;>(refine Zj rfl fun w9 M9 N9 DQ back=>?_)<;>refine ZU 201 40 41 Yd fun h41 ho41=>?_<;>refine Zh (back _ (nrm ?_))<;>refine xE 17 42 rfl (K7 12 Jq) ?_<;>(refine Zq 18 kR ?_)<;>(refine CP rfl rfl kR fun DQ back=>?_)<;>refine YZ 12 ZK Wp ?_<;>refine Zh (back _ (nav ?_))<;>try dsimp only)
 (refine Zt ?_<;>refine xL 43 ZH (xL 21 Zb ?_)<;>refine Zc ?_)
 refine WX (ZlG (l:=12) (l':=41) (j:=m.src.toNat) rfl (by rw [Xw];exact X7 (by rw [Xt,Ks];exact hi)) rfl rfl) fun _=>?_;rw [Xw,List.set_set,List.set_set];rw [show List.take 3 (List.drop 0 (Tn (List.map PV.val [Value.int IntKind.i64 0,Value.int IntKind.i64 0,Value.int IntKind.i64 0]) 0 (cMv m)))=cMv m from rfl];rw [show PV.own 93 3 ((J4 (a.moves.take k) m.src.toNat).length+1) ((J4 (a.moves.take k) m.src.toNat).flatMap cMv++cMv m)=ZaK 93 (J4 (a.moves.take k) m.src.toNat++[m]) from Zhq _ _ _];rw [ZaL _ oM oM,←ZE hm];refine Zn (
  ⟨k+1,Zf hm⟩
  ) (by dsimp only;omega) ⟨rfl,rfl,rfl,rfl,rfl,rfl,trivial⟩ ⟨rfl,rfl,rfl,rfl,trivial⟩)
 · first |exact bN hb22|(
 refine Ze ?_;(refine xL 44 (Zd 1 Yq) ?_<;>(refine yL 45 (Zk 1 ZB) fun v45 h=>?_;cases h)<;>refine xL 46 (ZR Zu) (xL 47 Zb ?_)<;>refine Zc ?_)
 refine ZD (ι:={q:Nat//q≤a.fin.length}) (fun k=>⟨[(1,_,_),(2,_,_),(3,_,_),(45,_,_),(46,_,_),(47, .int .i64 k.1,pInt k.1)],[(1,_,_),(12,_,_),(17,h17, .own 196 3 1 [pInt a.syms, .val h12, .val h15]),(15,h15, .own 4 1 a.n.toNat (Sp a k.1))]⟩) (fun k=>a.fin.length-k.1) ⟨0,Xf _⟩ (fun a w H=>H.weaken ⟨rfl,rfl,rfl,rfl,rfl,rfl,trivial⟩ ⟨rfl,rfl,rfl,rfl,trivial⟩) ?_;rintro ⟨k8,hk8⟩;dsimp only;refine Ze ?_;(refine xL 48 ZQ ?_<;>refine Zc ?_)
 refine cX ?_ ?_<;>intro hb48
 · first|exact bN hb48|(
 obtain ⟨t,ht⟩:=Zp (show k8<a.fin.length by omega);have e1:=Ym (f:=pInt) ht;have ht2:=h.fi t (Xc ht);have e6:=Lk a k8;refine Ze ?_;(refine xL 49 (ZF Zu) ?_<;>(refine yL 50 (Yo Zo) fun v50 h=>?_;cases h)<;>refine xL 7 Za ?_<;>refine Zg ?_)
 (refine xL 51 Zb (xL 52 (Zci 17) (xL 53 (Zd 17 J2) ?_))<;>(refine yL 54 (Zk 17 Wt) fun v54 h=>?_;cases h)<;>refine xL 55 Zb (xL 56 (K7 15 W2) ?_)<;>refine YZ 15 Gn Zhn ?_<;>refine Zg ?_)
 (refine xL 57 ZH (xL 47 Zb ?_)<;>refine Zc ?_)
 rw [Xw,ZcJ ht ht2.1];refine Zn (
  ⟨k8+1,Zf ht⟩
  ) (by dsimp only;omega) ⟨rfl,rfl,rfl,rfl,rfl,rfl,trivial⟩ ⟨rfl,rfl,rfl,rfl,trivial⟩)
 · first|exact bN hb48|(
 refine Ze ?_;(refine xL 58 Zb (xL 2 Za ?_)<;>refine Zc ?_)
 refine YR (ZlG (l:=17) (l':=12) (j:=1) rfl rfl rfl rfl) fun _=>?_;refine YR (ZlG (l:=17) (l':=15) (j:=2) rfl rfl rfl rfl) fun _=>?_;refine YR (OH (l:=17) (t:=2) (j:=0) rfl Nat.one_pos rfl) fun _=>?_;refine Zv (results110) rfl ?_;exact congrArg (PV.sptr 0) (Zhp _ _ _ a oM oM))))
theorem P8:AggT prog 182 2=true:=by kernel_rfl
theorem Zm:AggT prog 39 5=true:=by kernel_rfl
theorem W4:ElT prog 117 36 1 24 (.slice none 0 0):=⟨underlying117,by kernel_rfl,rfl,dC⟩
theorem Gr:ElT prog 183 182 2 48 (.agg #[(.slice none 0 0),(.slice none 0 0)]):=⟨underlying183,by kernel_rfl,rfl,dC⟩
theorem LS:FldT prog 182 0 0=true:=by kernel_rfl
theorem LU:FldT prog 182 1 1=true:=by kernel_rfl
theorem YF:SlT prog 117 36 1=true:=by kernel_rfl
theorem Jv:SlT prog 183 182 2=true:=by kernel_rfl
theorem SF:Ke prog 182=some ((.agg #[(.slice none 0 0),(.slice none 0 0)]),([0,1]:List Nat).map fun o=>(o,1)):=by kernel_rfl
theorem ZcL:ZeroT prog 182 (.agg #[(.slice none 0 0),(.slice none 0 0)]):=by unfold ZeroT;kernel_rfl
def cPf (p:Pf):List PV:=[pInts p.1,pInts p.2]
theorem ZdF (p:Pf):(cPf p).length=2:=rfl
theorem ZdG (e:Nat) (L:List Pf) (x:Pf):PV.own e 2 (L.length+1) (L.flatMap cPf++cPf x)= .own e 2 (L++[x]).length ((L++[x]).flatMap cPf):=sM
theorem Zhr (e:Nat) (L:List (List Int)) (x:List Int):PV.own e 1 (L.length+1) (L.map pInts++[pInts x])= .own e 1 (L++[x]).length ((L++[x]).map pInts):=sM
theorem ZaN (e n:Nat) (l:List (List Int)) (hn:n=l.length):share (.own e 1 n (l.map pInts))=Dd l:=by
 subst hn
 rw [share,Yb,XI]
 unfold Dd
 congr 1
def Zl0 (a:Aut) (n:Int) (p:PV):Prop:=
 (Z4 a=false∧p= .tup [.sl 0 [],pInt 1])∨(Z4 a=true∧(n<0∨200<n)∧p= .tup [.sl 0 [],pInt 2])∨(Z4 a=true∧0≤n∧n≤200∧ZjQ a n.toNat∧p= .tup [.sl 0 [],pInt 5])∨(Z4 a=true∧0≤n∧n≤200∧¬ZjQ a n.toNat∧p= .tup [Dd (Le a n.toNat (n.toNat+1)),pInt 0])
theorem Zhs (a:Aut) (n:Int) (p:Pf) (c:Nat):(GX a n p c).length≤1:=by unfold GX;split<;>simp
theorem Pa (a:Aut) (n:Int) (p:Pf):∀c,((List.range c).flatMap (GX a n p)).length≤c
 |0=>sM
 | c+1=>by
   rw [SE,Xb];have:=Pa a n p c;have:=Zhs a n p c;omega
theorem Zl1 {a:Aut} (h:AOk a) (n k:Nat):∀p∈lvP a n k,InS a p.2∧p.2.length≤2000:=fun p hp=>by
 rw [ZdD h.mi h.st] at hp
 obtain ⟨q,hq,rfl⟩:=Xg.1 hp
 have h1:=Zhk h.mi h.st n k q hq
 refine ⟨OQ h1 _ _,?_⟩
 have h2:Srt q.2:=by
  cases k with
  | zero=>
    simp only [lvR,Xl] at hq;subst hq;exact Jr h.mi h.st
  | succ k=>
    rw [lvR] at hq;obtain ⟨r,_,hr⟩:=XT.1 hq;obtain ⟨c,_,hc⟩:=XT.1 hr;unfold Zhi at hc;split at hc
    · simp only [Xl] at hc;subst hc;exact Jr h.mi (Kr h.mi c _)
    · simp at hc
 have h3:Srt (Wl q.2 (Y9 a) ((n:Int)-k)):=DG (a:=a) h2 _ _
 have h4:=nodup_len a.n.toNat _ (h3.imp fun h=>oM) fun s hs=>by
  have:=OQ h1 (Y9 a) ((n:Int)-k) s hs;have:=h.n0;omega
 have:=h.n1
 show (Wl q.2 (Y9 a) ((n:Int)-k)).length≤2000
 omega
theorem ZaO {a:Aut} {n:Nat}:∀k,∀p∈lvP a n k,p.1.length=k
 | 0,p,hp=>by
   simp only [lvP,Xl] at hp;subst hp;rfl
 | k +1,p,hp=>by
   rw [lvP] at hp;obtain ⟨r,hr,hr2⟩:=XT.1 hp;obtain ⟨c,_,hc⟩:=XT.1 hr2;unfold GX at hc;split at hc
   · simp at hc
   · simp only [Xl] at hc;subst hc;rw [Xb,ZaO k r hr];rfl
set_option maxHeartbeats 4000000 in
theorem Zht (a : Aut) (n : Int):AF prog 91 [ZO a,pInt n] (Zl0 a n):=by
 refine AF.of_body 109 func91 rfl ntmps91 (Xa rfl) ?_
 intro w0 M0 vs hl hv
 obtain ⟨v0,v1,rfl⟩:=WO hl
 obtain rfl:=hv 1 _ _ rfl rfl
 clear hl hv
 refine Ze ?_
 (refine ZG 2 5 fun h2=>?_<;>refine xL 4 Za (xL 5 Za ?_)<;>refine Zg ?_)
 ((refine yL 16 (Zs 2 Zm) fun v16 h=>?_;cases h)<;>(refine cS 17 (cA call107 (Wg a)) fun v17 h=>?_;cases h)<;>refine xL 18 Yg (xL 15 Za ?_)<;>refine Zc ?_)
 refine cX ?_ ?_<;>intro hb15
 · first|exact bN hb15|(
 refine Ze ?_;(refine xL 4 Za (xL 5 Za ?_)<;>refine Zc ?_)
 refine YR (W1 (t:=4) rfl) fun _=>?_;exact Wr (results91) rfl rfl (.inl ⟨by simpa using hb15,rfl⟩))
 · first | exact bN hb15 | (
 (have hok:Z4 a=true:=by simpa using hb15);have hA:=GY hok;have hn1:=hA.n1;have hs1:=hA.s1;have hs0:=hA.s0;refine Ze ?_;(refine xL 20 Zb (xL 21 ZQ (xL 22 Zb ?_))<;>(refine bLd 22 (fun hb22=>?_) (fun hb22=>?_)<;>(first|refine kL 23 ?_|refine xL 23 Zb ?_))<;>(first|refine kL 24 ?_|refine xL 24 YP ?_)<;>refine xL 25 Zz (xL 19 Za ?_)<;>refine Zc ?_)<;>(
 refine cX ?_ ?_<;>intro hb19
 · first|exact bN hb19|(
 refine Ze ?_;(refine xL 4 Za (xL 5 Za ?_)<;>refine Zc ?_)
 refine YR (W1 (t:=4) rfl) fun _=>?_;exact Wr (results91) rfl rfl (.inr (.inl ⟨hok,by first|omega|(simp at hb19;omega),rfl⟩)))
 · first | exact bN hb19 |(
 (have hnb:0≤n∧n≤200:=by simp at hb19;omega);obtain ⟨N,rfl⟩:∃N:Nat,n=(N:Int):=⟨n.toNat,oM⟩;have hfl:=(OP a).len;have hsb:Y0 a a.start=Y0 a a.start:=rfl;have hcl:=R8 hA.mi hA.st;have hci:=TB hA.mi hA.st;refine nav ?_;(refine Z5 (fun i=>([]:List Nat).elem i) [2] kR ?_<;>(refine yD 0 26 rfl (Zs 2 Zm) fun v26 h=>?_;cases h)<;>(refine yD 2 28 rfl (Zs 2 Zm) fun v28 h=>?_;cases h)<;>(refine Zq 1 kR ?_)<;>(refine Zj rfl fun w9 M9 N9 DQ back=>?_)<;>(refine cS 27 (cA call110 (LR a hA)) fun v27 h=>?_;cases h)<;>refine Zh (back _ (nrm ?_))<;>(refine Zq 3 kR ?_)<;>(refine Zj rfl fun w9 M9 N9 DQ back=>?_)<;>(refine cO 29 (cA call139 (ζb a hA)) fun v29 ho29=>?_;refine Zr (En.freeze (l:=29) (t:=29) rfl rfl) fun _=>?_;rw [ZX _ _ _ hfl.symm])<;>refine Zh (back _ (nrm ?_))<;>refine xE 4 6 rfl Za ?_<;>refine xE 5 7 rfl Za ?_<;>refine YC kR (nav ?_)<;>try dsimp only)
 (refine Zt ?_<;>refine xL 8 Za ?_<;>refine Zg ?_)
 (refine xL 30 Zb (xL 31 (Zd 2 YA) ?_)<;>(refine yL 32 (Zk 2 ZB) fun v32 h=>?_;cases h)<;>(refine cO 33 (cA call111 (SC a a.start hn1 hA.mi hA.st)) fun v33 ho33=>?_;refine Zr (En.freeze (l:=33) (t:=33) rfl rfl) fun _=>?_;rw [ZX _ _ _ rfl])<;>refine xL 34 Zb (xL 35 Zb ?_)<;>(refine cO 36 (cA call140 (C3 (Y0 a a.start) (Y9 a) N oM (fun s hs=>by have:=hci s hs;omega))) fun v36 ho36=>?_;refine Zr (En.freeze (l:=36) (t:=36) rfl rfl) fun _=>?_;rw [ZX _ _ _ rfl])<;>refine xL 37 (ZL SF) ?_<;>refine YM 38 Gr fun h38 ho38=>?_<;>refine xL 9 Za ?_<;>refine Zc ?_)
 refine Zx (G6 (l:=38) [.own 3 1 0 [],pInts (Wl (Y0 a a.start) (Y9 a) N)] rfl rfl (fun i p p' h1 h2=>by
  match i with
  |0=>cases h1;cases h2;exact .inr ⟨rfl,_,_,rfl⟩
  |1=>cases h1;cases h2;exact .inl rfl
  |i+2=>simp at h2)) fun _=>?_
 refine Zx (focus (l:=38) (l':=300) (j:=0) rfl rfl rfl) fun v300=>?_;refine Zx (Z0 (l:=38) (l':=300) (j:=0) rfl rfl rfl rfl) fun _=>?_;dsimp only [List.set];refine Zx (KB 200 36 1 rfl) fun _=>?_;refine Zx (Zy (l:=38) 201 rfl rfl) fun _=>?_;have hL0:[share (PV.own 3 1 0 []),pInts (Wl (Y0 a a.start) (Y9 a) N)]=(lvP a N 0).flatMap cPf:=rfl;rw [hL0];refine ZD (ι:={q:Nat×Value×Value//q.1≤N+1∧(∀j,j≤q.1→(lvP a N j).length≤2000)∧(Le a N q.1).length≤q.1*2000∧q.2.1.oneCell'=true∧q.2.2.oneCell'=true}) (fun k=>⟨[(2,_,_),(6,_,_),(7,_,_),(1, .int .i64 ((N:Int)-(k.1.1:Nat)),pInt ((N:Int)-(k.1.1:Nat))),(8,k.1.2.1, .val k.1.2.1),(9,k.1.2.2, .val k.1.2.2)],[(2,_,_),(200,k.1.2.1, .own 36 1 (Le a N k.1.1).length ((Le a N k.1.1).map pInts)),(201,k.1.2.2, .own 182 2 (lvP a N k.1.1).length ((lvP a N k.1.1).flatMap cPf))]⟩) (fun k=>N+1-k.1.1) ⟨(0, .slice none 0 0,h38),Xf _,fun j hj=>by have h9:j=0:=(by dsimp only at hj;omega);subst h9;simp [lvP],by simp [Le],rfl,ho38⟩ (fun a w H=>H.weaken ⟨rfl,rfl,rfl,rfl,rfl,rfl,trivial⟩ ⟨rfl,rfl,rfl,trivial⟩) ?_;rintro ⟨⟨lev,hO,hL⟩,hk,hlv,hsm,hoO,hoL⟩;dsimp only;dsimp only at hk hlv hsm hoO hoL;refine Ze ?_;(refine xL 39 Zb (xL 40 WK ?_)<;>refine Zc ?_)
 refine cX ?_ ?_<;>intro hb40
 · first | exact bN hb40|(
 have hkN:lev≤N:=oM;have hlk:=hlv lev (Xj _);have hsm2:(Le a N lev).length≤402000:=oM;have hlin:=Zl1 hA N lev;have hlw:=ZaO (a:=a) (n:=N) lev;refine Ze ?_;(refine xL 10 Za ?_<;>refine Zg ?_)
 (refine xL 43 Zb (xL 44 (YN 201 Jv) (xL 45 Zb ?_))<;>refine Zc ?_)
 refine Zx (KB 202 182 2 rfl) fun _=>?_;refine ZD (ι:={q:Nat×Value×Value×List (List Int)×List Pf//q.1≤(lvP a N lev).length∧q.2.2.2.2.length≤2000∧q.2.1.oneCell'=true∧q.2.2.1.oneCell'=true∧q.2.2.2.1=Le a N lev++Rn a ((lvP a N lev).take q.1)∧q.2.2.2.2=((lvP a N lev).take q.1).flatMap (Sn a ((N:Int)-lev))}) (fun k=>⟨[(1,_,_),(2,_,_),(6,_,_),(7,_,_),(9,_,_),(43,_,_),(44,_,_),(8,k.1.2.1, .val k.1.2.1),(10,k.1.2.2.1, .val k.1.2.2.1),(45, .int .i64 k.1.1,pInt k.1.1)],[(2,_,_),(201,_,_),(200,k.1.2.1, .own 36 1 k.1.2.2.2.1.length (k.1.2.2.2.1.map pInts)),(202,k.1.2.2.1, .own 182 2 k.1.2.2.2.2.length (k.1.2.2.2.2.flatMap cPf))]⟩) (fun k=>(lvP a N lev).length-k.1.1) ⟨(0,hO, .slice none 0 0,Le a N lev,[]),Xf _,Xf _,hoO,rfl,(Xy _).symm,rfl⟩ (fun a w H=>H.weaken ⟨rfl,rfl,rfl,rfl,rfl,rfl,rfl,rfl,rfl,rfl,trivial⟩ ⟨rfl,rfl,rfl,rfl,trivial⟩) ?_;rintro ⟨⟨i,hO2,hX,O,X⟩,hi,hkl,hoO2,hoX,hOE,hXE⟩;dsimp only;dsimp only at hi hkl hoO2 hoX hOE hXE;have hol:=ZaH a ((lvP a N lev).take i);rw [Xx] at hol;(have hoL2:O.length≤404000:=by rw [hOE,Xb];omega);refine Ze ?_;(refine xL 46 ZQ ?_<;>refine Zc ?_)
 refine cX ?_ ?_<;>intro hb46
 · first | exact bN hb46|(
 obtain ⟨x,hx⟩:=Zp (show i<(lvP a N lev).length by omega);have e1:=Yc ZdF (lvP a N lev) i x hx;have e2:=Yz ZdF hx;have hxi:=hlin x (Xc hx);have hxw:=hlw x (Xc hx);have hO3:=Ze9 (a:=a) hx;have hK3:=DJ (Sn a ((N:Int)-lev)) hx;refine Ze ?_;(refine xL 47 (YL 201 Jv) ?_<;>(refine yL 48 (Zs 201 P8) fun v48 h=>?_;cases h)<;>refine Zw [(.slice none 0 0),(.slice none 0 0)] 2 12 ZcL fun h12=>?_<;>refine ZA 12 P8 ?_<;>refine Zg ?_)
 (refine xL 49 Zb (xL 50 (Zd 12 LU) ?_)<;>(refine yL 51 (Zk 12 ZB) fun v51 h=>?_;cases h)<;>(refine cS 52 (cA call113 (Dx a x.2 hxi.1)) fun v52 h=>?_;cases h)<;>refine Zc ?_)
 refine cX ?_ ?_<;>intro hb52
 · first | exact bN hb52|(
 rw [UT (show KF a x.2=true from hb52)] at hO3;(have hOF:O++[x.1]=Le a N lev++Rn a ((lvP a N lev).take (i+1)):=by rw [hO3,hOE,Xz]);(have hOl2:(O++[x.1]).length=O.length+1:=by rw [Xb];rfl);refine Ze ?_;(refine xL 53 Zb (xL 54 (Zd 12 LS) ?_)<;>(refine yL 55 (Zk 12 ZB) fun v55 h=>?_;cases h)<;>refine ZJ (kk:=1) 56 W4 fun h56 ho56=>?_<;>(refine ZU 200 56 57 W4 fun h57 ho57=>?_;refine Zr (Zy (l:=57) 200 rfl rfl) fun _=>?_;rw [Zhr])<;>refine xL 8 Za ?_<;>refine Zg ?_)
 (refine xL 58 (Zd 2 Yl) ?_<;>(refine yL 59 (Zk 2 Zo) fun v59 h=>?_;cases h)<;>refine xL 60 Zb ?_<;>refine Zc ?_)
 refine ZD (ι:={q:Nat×Value×List Pf//q.1≤a.syms.toNat∧q.2.1.oneCell'=true∧q.2.2=X++(List.range q.1).flatMap (GX a ((N:Int)-lev) x)}) (fun k=>⟨[(1,_,_),(2,_,_),(6,_,_),(7,_,_),(8,_,_),(9,_,_),(12,_,_),(43,_,_),(44,_,_),(45,_,_),(59,_,_),(10,k.1.2.1, .val k.1.2.1),(60, .int .i64 k.1.1,pInt k.1.1)],[(2,_,_),(12,_,_),(200,_,_),(201,_,_),(202,k.1.2.1, .own 182 2 k.1.2.2.length (k.1.2.2.flatMap cPf))]⟩) (fun k=>a.syms.toNat-k.1.1) ⟨(0,hX,X),Xf _,hoX,(Xy _).symm⟩ (fun a w H=>H.weaken ⟨rfl,rfl,rfl,rfl,rfl,rfl,rfl,rfl,rfl,rfl,rfl,rfl,rfl,trivial⟩ ⟨rfl,rfl,rfl,rfl,rfl,trivial⟩) ?_;rintro ⟨⟨c,hX2,X2⟩,hc,hoX2,hX2E⟩;dsimp only;dsimp only at hc hoX2 hX2E;have hkc:=Pa a ((N:Int)-lev) x c;(have hkl2:X2.length≤2100:=by rw [hX2E,Xb];omega);refine Ze ?_;(refine xL 61 ZQ ?_<;>refine Zc ?_)
 refine cX ?_ ?_<;>intro hb61
 · first | exact bN hb61|(
 have hni:=LQ hA.mi (c:Int) x.2;(have hnl:(YD a c x.2).length≤2000:=by have:=R8 hA.mi (Kr hA.mi (c:Int) x.2);unfold YD;omega);have hR:=SE (GX a ((N:Int)-lev) x) c;refine Ze ?_;(refine xL 62 Zb (xL 13 Za ?_)<;>refine Zg ?_)
 (refine xL 63 Zb (xL 64 (Zd 12 LU) ?_)<;>(refine yL 65 (Zk 12 ZB) fun v65 h=>?_;cases h)<;>refine xL 66 Zb ?_<;>(refine cO 67 (cA call112 (C5 a x.2 c hn1 hA.ml hA.mi hxi.1 hxi.2)) fun v67 ho67=>?_;refine Zr (En.freeze (l:=67) (t:=67) rfl rfl) fun _=>?_;rw [ZX _ _ _ rfl])<;>refine xL 68 Zb (xL 69 Zb (xL 70 Tp ?_))<;>(refine cO 71 (cA call140 (C3 (YD a c x.2) (Y9 a) ((N:Int)-lev-1) oM (fun s hs=>by have:=hni s hs;omega))) fun v71 ho71=>?_;refine Zr (En.freeze (l:=71) (t:=71) rfl rfl) fun _=>?_;rw [ZX _ _ _ rfl])<;>refine xL 14 Za ?_<;>refine Zg ?_)
 (refine xL 72 Zb (xL 73 (ZR Zu) (xL 74 YP ?_))<;>refine Zc ?_)
 refine cX ?_ ?_<;>intro hb74
 · first |exact bN hb74|(
 (have hkid:GX a ((N:Int)-lev) x c=[(x.1++[(c:Int)],Wl (YD a c x.2) (Y9 a) ((N:Int)-lev-1))]:=by unfold GX;rw [US oM]);rw [hkid] at hR;refine Ze ?_;(refine xL 75 Zb (xL 76 (Zd 12 LS) ?_)<;>(refine yL 77 (Zk 12 ZB) fun v77 h=>?_;cases h)<;>refine cO 78 (cA call135 (KV x.1 oM)) fun v78 ho78=>?_<;>refine xL 79 Zb ?_<;>refine ZJ (kk:=1) 80 Zl fun h80 ho80=>?_<;>(refine ZU 78 80 81 Zl fun h81 ho81=>?_;refine Zr (En.freeze (l:=81) (t:=81) rfl rfl) fun _=>?_;rw [show PV.own 3 1 (x.1.length+1) (x.1.map pInt++[pInt c])= .own 3 1 (x.1++[(c:Int)]).length ((x.1++[(c:Int)]).map pInt) from Dz _ _ _,ZX _ _ _ rfl])<;>refine xL 82 Zb (xL 83 (ZL SF) ?_)<;>refine YM 84 Gr fun h84 ho84=>?_<;>(refine ZU 202 84 85 Gr fun h85 ho85=>?_;refine Zr (Zy (l:=85) 202 rfl rfl) fun _=>?_;refine Zr (ZP (l:=202) rfl (ZdG _ X2 (x.1++[(c:Int)],Wl (YD a c x.2) (Y9 a) ((N:Int)-lev-1)))) fun _=>?_)<;>refine xL 10 Za ?_<;>refine Zg ?_)
 (refine xL 86 ZH (xL 60 Zb ?_)<;>refine Zc ?_)
 first
  | (exact Zn (
      ⟨(c+1,h85,X2++[(x.1++[(c:Int)],Wl (YD a c x.2) (Y9 a) ((N:Int)-lev-1))]),by dsimp only;omega,ho85,by dsimp only;rw [hX2E,hR,Xz]⟩
      ) (by dsimp only;omega) ⟨rfl,rfl,rfl,rfl,rfl,rfl,rfl,rfl,rfl,rfl,rfl,rfl,rfl,trivial⟩ ⟨rfl,rfl,rfl,rfl,rfl,trivial⟩)
  | (exact Zn (
      ⟨(c+1,hX2,X2),by dsimp only;omega,hoX2,by dsimp only;rw [hX2E,hR]⟩
      ) (by dsimp only;omega) ⟨rfl,rfl,rfl,rfl,rfl,rfl,rfl,rfl,rfl,rfl,rfl,rfl,rfl,trivial⟩ ⟨rfl,rfl,rfl,rfl,rfl,trivial⟩))
 · first |exact bN hb74|(
 (have hkid:GX a ((N:Int)-lev) x c=[]:=by unfold GX;rw [UT oM]);rw [hkid,Xy] at hR;refine Ze ?_;(refine xL 86 ZH (xL 60 Zb ?_)<;>refine Zc ?_)
 first
  | (exact Zn (
      ⟨(c+1,h85,X2++[(x.1++[(c:Int)],Wl (YD a c x.2) (Y9 a) ((N:Int)-lev-1))]),by dsimp only;omega,ho85,by dsimp only;rw [hX2E,hR,Xz]⟩
      ) (by dsimp only;omega) ⟨rfl,rfl,rfl,rfl,rfl,rfl,rfl,rfl,rfl,rfl,rfl,rfl,rfl,trivial⟩ ⟨rfl,rfl,rfl,rfl,rfl,trivial⟩)
  | (exact Zn (
      ⟨(c+1,hX2,X2),by dsimp only;omega,hoX2,by dsimp only;rw [hX2E,hR]⟩
      ) (by dsimp only;omega) ⟨rfl,rfl,rfl,rfl,rfl,rfl,rfl,rfl,rfl,rfl,rfl,rfl,rfl,trivial⟩ ⟨rfl,rfl,rfl,rfl,rfl,trivial⟩)))
 · first | exact bN hb61|(
 have hcs:c=a.syms.toNat:=oM;subst hcs;(have hXF:X2=((lvP a N lev).take (i+1)).flatMap (Sn a ((N:Int)-lev)):=by rw [hX2E,hK3,hXE];rfl);refine Ze ?_;(refine xL 87 Zb (xL 88 (YN 200 YF) (xL 89 Zb (xL 90 (YN 202 Jv) (xL 91 ZH (xL 92 YP (xL 93 Zb ?_))))))<;>(refine bLd 93 (fun hb93=>?_) (fun hb93=>?_)<;>(first|refine kL 94 ?_|refine xL 94 Zb ?_))<;>(first|refine kL 95 ?_|refine xL 95 (YN 200 YF) ?_)<;>(first|refine kL 96 ?_|refine xL 96 YP ?_)<;>refine xL 97 Zz (xL 98 Zb ?_)<;>(first|refine xL 99 Zb ?_|(refine bLd 98 (fun hb98=>?_) (fun hb98=>?_)<;>(first|refine kL 99 ?_|refine xL 99 Zb ?_)))<;>(first|refine kL 100 ?_|refine xL 100 (YN 202 Jv) ?_)<;>(first|refine kL 101 ?_|refine xL 101 YP ?_)<;>refine xL 102 Zz ?_<;>refine Zc ?_)<;>(
 refine cX ?_ ?_<;>intro hb102
 · first|exact bN hb102|(
 refine Ze ?_;(refine xL 4 Za (xL 5 Za ?_)<;>refine Zc ?_)
 refine YR (W1 (t:=4) rfl) fun _=>?_;refine Wr (results91) rfl rfl (.inr (.inr (.inl ⟨hok,oM,oM,?_,rfl⟩)));rw [XS];have hfl2:=So (Sn a ((N:Int)-lev)) (lvP a N lev) (i+1);have hsm5:=EH a N (show lev+1≤N+1 by omega);rw [Lf,Xb] at hsm5;have hop5:=ZaI a (lvP a N lev) (i+1);have hOl:=congrArg List.length hOF;have hXl:=congrArg List.length hXF;simp only [Xb,Xk,XC] at hOl;by_cases hbig:2000<X2.length
 · exact .inl ⟨lev,oM,by rw [lvP];omega⟩
 · refine .inr ?_
   first
    |omega
    |(simp at hb102 hOl;omega))
 · first |exact bN hb102|(
 refine Ze ?_;(refine xL 103 ZH (xL 45 Zb ?_)<;>refine Zc ?_)
 first
  | (exact Zn (
      ⟨(i+1,_,_,O++[x.1],X2),Zf hx,(by dsimp only;first|omega|(simp at hb102;omega)),(by assumption),hoX2,hOF,hXF⟩
      ) (by dsimp only;omega) ⟨rfl,rfl,rfl,rfl,rfl,rfl,rfl,rfl,rfl,rfl,trivial⟩ ⟨rfl,rfl,rfl,rfl,trivial⟩)
  | (exact Zn (
      ⟨(i+1,hO2,hX2,O,X2),Zf hx,(by dsimp only;first|omega|(simp at hb102;omega)),(by assumption),hoX2,hOF,hXF⟩
      ) (by dsimp only;omega) ⟨rfl,rfl,rfl,rfl,rfl,rfl,rfl,rfl,rfl,rfl,trivial⟩ ⟨rfl,rfl,rfl,rfl,trivial⟩)))))
 · first | exact bN hb52|(
 rw [US (show ¬KF a x.2=true by simpa [KF] using hb52),Xy] at hO3;(have hOF:O=Le a N lev++Rn a ((lvP a N lev).take (i+1)):=by rw [hO3,hOE]);refine Ze ?_;(refine xL 58 (Zd 2 Yl) ?_<;>(refine yL 59 (Zk 2 Zo) fun v59 h=>?_;cases h)<;>refine xL 60 Zb ?_<;>refine Zc ?_)
 refine ZD (ι:={q:Nat×Value×List Pf//q.1≤a.syms.toNat∧q.2.1.oneCell'=true∧q.2.2=X++(List.range q.1).flatMap (GX a ((N:Int)-lev) x)}) (fun k=>⟨[(1,_,_),(2,_,_),(6,_,_),(7,_,_),(8,_,_),(9,_,_),(12,_,_),(43,_,_),(44,_,_),(45,_,_),(59,_,_),(10,k.1.2.1, .val k.1.2.1),(60, .int .i64 k.1.1,pInt k.1.1)],[(2,_,_),(12,_,_),(200,_,_),(201,_,_),(202,k.1.2.1, .own 182 2 k.1.2.2.length (k.1.2.2.flatMap cPf))]⟩) (fun k=>a.syms.toNat-k.1.1) ⟨(0,hX,X),Xf _,hoX,(Xy _).symm⟩ (fun a w H=>H.weaken ⟨rfl,rfl,rfl,rfl,rfl,rfl,rfl,rfl,rfl,rfl,rfl,rfl,rfl,trivial⟩ ⟨rfl,rfl,rfl,rfl,rfl,trivial⟩) ?_;rintro ⟨⟨c,hX2,X2⟩,hc,hoX2,hX2E⟩;dsimp only;dsimp only at hc hoX2 hX2E;have hkc:=Pa a ((N:Int)-lev) x c;(have hkl2:X2.length≤2100:=by rw [hX2E,Xb];omega);refine Ze ?_;(refine xL 61 ZQ ?_<;>refine Zc ?_)
 refine cX ?_ ?_<;>intro hb61
 · first | exact bN hb61|(
 have hni:=LQ hA.mi (c:Int) x.2;(have hnl:(YD a c x.2).length≤2000:=by have:=R8 hA.mi (Kr hA.mi (c:Int) x.2);unfold YD;omega);have hR:=SE (GX a ((N:Int)-lev) x) c;refine Ze ?_;(refine xL 62 Zb (xL 13 Za ?_)<;>refine Zg ?_)
 (refine xL 63 Zb (xL 64 (Zd 12 LU) ?_)<;>(refine yL 65 (Zk 12 ZB) fun v65 h=>?_;cases h)<;>refine xL 66 Zb ?_<;>(refine cO 67 (cA call112 (C5 a x.2 c hn1 hA.ml hA.mi hxi.1 hxi.2)) fun v67 ho67=>?_;refine Zr (En.freeze (l:=67) (t:=67) rfl rfl) fun _=>?_;rw [ZX _ _ _ rfl])<;>refine xL 68 Zb (xL 69 Zb (xL 70 Tp ?_))<;>(refine cO 71 (cA call140 (C3 (YD a c x.2) (Y9 a) ((N:Int)-lev-1) oM (fun s hs=>by have:=hni s hs;omega))) fun v71 ho71=>?_;refine Zr (En.freeze (l:=71) (t:=71) rfl rfl) fun _=>?_;rw [ZX _ _ _ rfl])<;>refine xL 14 Za ?_<;>refine Zg ?_)
 (refine xL 72 Zb (xL 73 (ZR Zu) (xL 74 YP ?_))<;>refine Zc ?_)
 refine cX ?_ ?_<;>intro hb74
 · first |exact bN hb74|(
 (have hkid:GX a ((N:Int)-lev) x c=[(x.1++[(c:Int)],Wl (YD a c x.2) (Y9 a) ((N:Int)-lev-1))]:=by unfold GX;rw [US oM]);rw [hkid] at hR;refine Ze ?_;(refine xL 75 Zb (xL 76 (Zd 12 LS) ?_)<;>(refine yL 77 (Zk 12 ZB) fun v77 h=>?_;cases h)<;>refine cO 78 (cA call135 (KV x.1 oM)) fun v78 ho78=>?_<;>refine xL 79 Zb ?_<;>refine ZJ (kk:=1) 80 Zl fun h80 ho80=>?_<;>(refine ZU 78 80 81 Zl fun h81 ho81=>?_;refine Zr (En.freeze (l:=81) (t:=81) rfl rfl) fun _=>?_;rw [show PV.own 3 1 (x.1.length+1) (x.1.map pInt++[pInt c])= .own 3 1 (x.1++[(c:Int)]).length ((x.1++[(c:Int)]).map pInt) from Dz _ _ _,ZX _ _ _ rfl])<;>refine xL 82 Zb (xL 83 (ZL SF) ?_)<;>refine YM 84 Gr fun h84 ho84=>?_<;>(refine ZU 202 84 85 Gr fun h85 ho85=>?_;refine Zr (Zy (l:=85) 202 rfl rfl) fun _=>?_;refine Zr (ZP (l:=202) rfl (ZdG _ X2 (x.1++[(c:Int)],Wl (YD a c x.2) (Y9 a) ((N:Int)-lev-1)))) fun _=>?_)<;>refine xL 10 Za ?_<;>refine Zg ?_)
 (refine xL 86 ZH (xL 60 Zb ?_)<;>refine Zc ?_)
 first
  | (exact Zn (
      ⟨(c+1,h85,X2++[(x.1++[(c:Int)],Wl (YD a c x.2) (Y9 a) ((N:Int)-lev-1))]),by dsimp only;omega,ho85,by dsimp only;rw [hX2E,hR,Xz]⟩
      ) (by dsimp only;omega) ⟨rfl,rfl,rfl,rfl,rfl,rfl,rfl,rfl,rfl,rfl,rfl,rfl,rfl,trivial⟩ ⟨rfl,rfl,rfl,rfl,rfl,trivial⟩)
  | (exact Zn (
      ⟨(c+1,hX2,X2),by dsimp only;omega,hoX2,by dsimp only;rw [hX2E,hR]⟩
      ) (by dsimp only;omega) ⟨rfl,rfl,rfl,rfl,rfl,rfl,rfl,rfl,rfl,rfl,rfl,rfl,rfl,trivial⟩ ⟨rfl,rfl,rfl,rfl,rfl,trivial⟩))
 · first |exact bN hb74|(
 (have hkid:GX a ((N:Int)-lev) x c=[]:=by unfold GX;rw [UT oM]);rw [hkid,Xy] at hR;refine Ze ?_;(refine xL 86 ZH (xL 60 Zb ?_)<;>refine Zc ?_)
 first
  | (exact Zn (
      ⟨(c+1,h85,X2++[(x.1++[(c:Int)],Wl (YD a c x.2) (Y9 a) ((N:Int)-lev-1))]),by dsimp only;omega,ho85,by dsimp only;rw [hX2E,hR,Xz]⟩
      ) (by dsimp only;omega) ⟨rfl,rfl,rfl,rfl,rfl,rfl,rfl,rfl,rfl,rfl,rfl,rfl,rfl,trivial⟩ ⟨rfl,rfl,rfl,rfl,rfl,trivial⟩)
  | (exact Zn (
      ⟨(c+1,hX2,X2),by dsimp only;omega,hoX2,by dsimp only;rw [hX2E,hR]⟩
      ) (by dsimp only;omega) ⟨rfl,rfl,rfl,rfl,rfl,rfl,rfl,rfl,rfl,rfl,rfl,rfl,rfl,trivial⟩ ⟨rfl,rfl,rfl,rfl,rfl,trivial⟩)))
 · first | exact bN hb61|(
 have hcs:c=a.syms.toNat:=oM;subst hcs;(have hXF:X2=((lvP a N lev).take (i+1)).flatMap (Sn a ((N:Int)-lev)):=by rw [hX2E,hK3,hXE];rfl);refine Ze ?_;(refine xL 87 Zb (xL 88 (YN 200 YF) (xL 89 Zb (xL 90 (YN 202 Jv) (xL 91 ZH (xL 92 YP (xL 93 Zb ?_))))))<;>(refine bLd 93 (fun hb93=>?_) (fun hb93=>?_)<;>(first|refine kL 94 ?_|refine xL 94 Zb ?_))<;>(first|refine kL 95 ?_|refine xL 95 (YN 200 YF) ?_)<;>(first|refine kL 96 ?_|refine xL 96 YP ?_)<;>refine xL 97 Zz (xL 98 Zb ?_)<;>(first|refine xL 99 Zb ?_|(refine bLd 98 (fun hb98=>?_) (fun hb98=>?_)<;>(first|refine kL 99 ?_|refine xL 99 Zb ?_)))<;>(first|refine kL 100 ?_|refine xL 100 (YN 202 Jv) ?_)<;>(first|refine kL 101 ?_|refine xL 101 YP ?_)<;>refine xL 102 Zz ?_<;>refine Zc ?_)<;>(
 refine cX ?_ ?_<;>intro hb102
 · first|exact bN hb102|(
 refine Ze ?_;(refine xL 4 Za (xL 5 Za ?_)<;>refine Zc ?_)
 refine YR (W1 (t:=4) rfl) fun _=>?_;refine Wr (results91) rfl rfl (.inr (.inr (.inl ⟨hok,oM,oM,?_,rfl⟩)));rw [XS];have hfl2:=So (Sn a ((N:Int)-lev)) (lvP a N lev) (i+1);have hsm5:=EH a N (show lev+1≤N+1 by omega);rw [Lf,Xb] at hsm5;have hop5:=ZaI a (lvP a N lev) (i+1);have hOl:=congrArg List.length hOF;have hXl:=congrArg List.length hXF;simp only [Xb,Xk,XC] at hOl;by_cases hbig:2000<X2.length
 · exact .inl ⟨lev,oM,by rw [lvP];omega⟩
 · refine .inr ?_
   first
    |omega
    |(simp at hb102 hOl;omega))
 · first |exact bN hb102|(
 refine Ze ?_;(refine xL 103 ZH (xL 45 Zb ?_)<;>refine Zc ?_)
 first
  | (exact Zn (
      ⟨(i+1,_,_,O++[x.1],X2),Zf hx,(by dsimp only;first|omega|(simp at hb102;omega)),(by assumption),hoX2,hOF,hXF⟩
      ) (by dsimp only;omega) ⟨rfl,rfl,rfl,rfl,rfl,rfl,rfl,rfl,rfl,rfl,trivial⟩ ⟨rfl,rfl,rfl,rfl,trivial⟩)
  | (exact Zn (
      ⟨(i+1,hO2,hX2,O,X2),Zf hx,(by dsimp only;first|omega|(simp at hb102;omega)),(by assumption),hoX2,hOF,hXF⟩
      ) (by dsimp only;omega) ⟨rfl,rfl,rfl,rfl,rfl,rfl,rfl,rfl,rfl,rfl,trivial⟩ ⟨rfl,rfl,rfl,rfl,trivial⟩))))))
 · first|exact bN hb46|(
 have hil:i=(lvP a N lev).length:=oM;rw [hil,UE] at hOE hXE;(have hOS:O=Le a N (lev+1):=by rw [Lf];exact hOE);have hXS:X=lvP a N (lev+1):=hXE;(have hsm6:(Le a N (lev+1)).length≤(lev+1)*2000:=by rw [Lf,Xb];have:=ZaH a (lvP a N lev);omega);(have hkl6:(lvP a N (lev+1)).length≤2000:=by rw [←hXS];exact hkl);clear hOE hXE hil;subst hOS hXS;refine Ze ?_;(refine xL 104 Zb (xL 9 Za ?_)<;>refine Zg ?_)
 (refine xL 41 Zb (xL 42 Tp (xL 1 Za ?_))<;>refine Zc ?_)
 refine WX (Zy (l:=201) 203 rfl rfl) fun _=>?_;refine WX (Zy (l:=202) 201 rfl rfl) fun _=>?_;rw [show ((N:Int)-(lev:Nat)-1)=(N:Int)-((lev+1:Nat):Int) by omega];refine Zn (
  ⟨(lev+1,hO2,hX),by dsimp only;omega,fun j hj=>by
    dsimp only at hj;rcases XF lev j with h9|h9
    · rw [show j=lev+1 by omega];exact hkl6
    · exact hlv j h9,hsm6,hoO2,hoX⟩
  ) (by dsimp only;omega) ⟨rfl,rfl,rfl,rfl,rfl,rfl,trivial⟩ ⟨rfl,rfl,rfl,trivial⟩))
 · first|exact bN hb40|(
 have hkE:lev=N+1:=oM;subst hkE;refine Ze ?_;(refine xL 105 Zb (xL 106 (YN 200 YF) (xL 107 YP ?_))<;>refine Zc ?_)
 refine cX ?_ ?_<;>intro hb107
 · first|exact bN hb107|(
 refine Ze ?_;(refine xL 4 Za (xL 5 Za ?_)<;>refine Zc ?_)
 refine YR (W1 (t:=4) rfl) fun _=>?_;exact Wr (results91) rfl rfl (.inr (.inr (.inl ⟨hok,oM,oM, .inr (by rw [XS];omega),rfl⟩))))
 · first|exact bN hb107|(
 refine Ze ?_;(refine xL 108 Zb (xL 4 Za (xL 5 Za ?_))<;>refine Zc ?_)
 refine YR (En.freeze (l:=200) (t:=4) rfl rfl) fun _=>?_;rw [ZaN _ _ _ rfl];refine Wr (results91) rfl rfl (.inr (.inr (.inr ⟨hok,oM,oM,?_,by rw [XS]⟩)));rw [XS];rintro (⟨j,h1,h2⟩|h1)
 · have:=hlv (j+1) oM;omega
 · omega)))))
theorem Ro {α:Type} {n i:Nat} (f:Nat→α) (h:i<n):(vec n f)[i*1]? =some (f i):=by rw [Xw];exact C8 f h
end Go.Proofs.YtgfabnhpllkebaaGreatDoor
