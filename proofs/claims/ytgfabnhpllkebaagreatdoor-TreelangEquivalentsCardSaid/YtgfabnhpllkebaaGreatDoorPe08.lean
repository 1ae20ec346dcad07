/-
  Walks of functions and plain laws of the chapter, as the claim needs them.
-/
import Derived.Test.YtgfabnhpllkebaaGreatDoorPe07
import Derived.Test.YtgfabnhpllkebaaGreatDoorPe06
import Derived.Test.YtgfabnhpllkebaaGreatDoorPe03
import Derived.Test.YtgfabnhpllkebaaGreatDoorMShelfE
import Derived.Test.YtgfabnhpllkebaaGreatDoorPe01
namespace Go.Proofs.YtgfabnhpllkebaaGreatDoor
open Go.RowKit Go.Cb Go.En Tryz
set_option linter.all false
set_option maxRecDepth 100000
theorem O4 {a b:Mv} {x:Bool} (h:x=true↔Kj a b=true):ZN x=ZN (Kj a b):=by rw [V6.2 h]
theorem D5 (a b:Mv):AF prog 187 [.agg (cMv a), .agg (cMv b)] (· =ZN (Kj a b)):=by
 refine AF.of_body 30 func187 rfl ntmps187 (Xa rfl) ?_
 intro w0 M0 vs hl hv
 obtain ⟨v0,v1,rfl⟩:=YX hl
 clear hl hv
 refine Ze ?_
 (refine ZB 2 3 fun h2=>?_<;>refine ZB 3 3 fun h3=>?_<;>refine xL 4 Za ?_<;>refine Zk ?_)
 (refine xL 5 (Zd 2 Yd) ?_<;>(refine yL 6 (Zl 2 Zg) fun v6 h=>?_;cases h)<;>refine xL 7 (Zd 3 Yd) ?_<;>(refine yL 8 (Zl 3 Zg) fun v8 h=>?_;cases h)<;>refine xL 9 Yn ?_<;>refine Zc ?_)
 refine cX ?_ ?_<;>intro hb9
 · first|exact bN hb9|(
 refine Ze ?_;(refine xL 10 (Zd 2 Yd) ?_<;>(refine yL 11 (Zl 2 Zg) fun v11 h=>?_;cases h)<;>refine xL 12 (Zd 3 Yd) ?_<;>(refine yL 13 (Zl 3 Zg) fun v13 h=>?_;cases h)<;>refine xL 14 ZQ (xL 4 Za ?_)<;>refine Zc ?_)
 refine ZA (results187) rfl (O4 ?_);rw [WU,UQ];omega)
 · first|exact bN hb9|(
 refine Ze ?_;(refine xL 15 (Zd 2 Yp) ?_<;>(refine yL 16 (Zl 2 Zg) fun v16 h=>?_;cases h)<;>refine xL 17 (Zd 3 Yp) ?_<;>(refine yL 18 (Zl 3 Zg) fun v18 h=>?_;cases h)<;>refine xL 19 Yn ?_<;>refine Zc ?_)
 refine cX ?_ ?_<;>intro hb19
 · first|exact bN hb19|(
 refine Ze ?_;(refine xL 20 (Zd 2 Yp) ?_<;>(refine yL 21 (Zl 2 Zg) fun v21 h=>?_;cases h)<;>refine xL 22 (Zd 3 Yp) ?_<;>(refine yL 23 (Zl 3 Zg) fun v23 h=>?_;cases h)<;>refine xL 24 ZQ (xL 4 Za ?_)<;>refine Zc ?_)
 refine ZA (results187) rfl (O4 ?_);rw [WU,UQ];omega)
 · first|exact bN hb19|(
 refine Ze ?_;(refine xL 25 (Zd 2 Yi) ?_<;>(refine yL 26 (Zl 2 Zg) fun v26 h=>?_;cases h)<;>refine xL 27 (Zd 3 Yi) ?_<;>(refine yL 28 (Zl 3 Zg) fun v28 h=>?_;cases h)<;>refine xL 29 ZQ (xL 4 Za ?_)<;>refine Zc ?_)
 refine ZA (results187) rfl (O4 ?_);rw [WU,UQ];omega))
theorem SO (l :List Int) (n:Int):AF prog 234 [pInts l,pInt n] (· =ZN (LO n l)):=by
 refine AF.of_body 41 func234 rfl ntmps234 (Xa rfl) ?_
 intro w0 M0 vs hl hv
 obtain ⟨v0,v1,rfl⟩:=YX hl
 obtain rfl:=hv 1 _ _ rfl rfl
 clear hl hv
 refine Wm 0 rfl fun hlen=>?_
 refine Ze ?_
 (refine xL 4 Za ?_<;>refine Zk ?_)
 (refine xL 5 Za ?_<;>refine Zc ?_)
 refine ZE (ι:={k:Nat//k≤l.length∧∀j x,j<k→l[j]? =some x→(0≤x∧x<n)∧∀y,1≤j→l[j-1]? =some y→ltI y x=true}) (fun k=>⟨[(0,_,_),(1,_,_),(5, .int .i64 k.1,pInt k.1)],[]⟩) (fun k=>l.length-k.1) ⟨0,oM,oM⟩ (fun a w H=>H.weaken ⟨rfl,rfl,rfl,trivial⟩ trivial) ?_
 rintro ⟨k,hk,hp⟩
 dsimp only
 refine Ze ?_
 (refine xL 6 Zb (xL 7 Zb (xL 8 (ZW Zr) (xL 9 ZQ ?_)))<;>refine Zc ?_)
 refine cX ?_ ?_<;>intro hb9
 · first | exact bN hb9|(
 obtain ⟨x,hx⟩:=Zw (show k<l.length by omega);obtain ⟨y,hy⟩:=Zw (show k-1<l.length by omega);have e1:=Yb (f:=pInt) hx;(have e2:(l.map pInt)[((k:Int)-1).toNat*1]? =some (pInt y):=by rw [show ((k:Int)-1).toNat*1=k-1 by omega];exact (by rw [Xg,hy];rfl));refine nav ?_;(refine ZZ (fun i=>([]:List Nat).elem i) [] kR ?_<;>refine xD 0 12 rfl Zb ?_<;>refine xE 1 13 rfl Zb ?_<;>refine xE 2 14 rfl (ZH Zr) ?_<;>(refine yE 3 15 rfl (Ya Zg) fun v15 h=>?_;cases h)<;>refine xE 4 16 rfl ZQ ?_<;>refine xE 5 17 rfl Zb ?_<;>(refine bDd 17 (fun hb17=>?_) (fun hb17=>?_)<;>(first|refine kD 6 18 rfl ?_|refine xD 6 18 rfl Zb ?_))<;>(first|refine kD 7 19 rfl ?_|refine xD 7 19 rfl Zb ?_)<;>(first|refine kD 8 20 rfl ?_|refine xD 8 20 rfl (ZH Zr) ?_)<;>(first|refine kD 9 21 rfl ?_|(refine yD 9 21 rfl (Ya Zg) fun v21 h=>?_;cases h))<;>(first|refine kD 10 22 rfl ?_|refine xD 10 22 rfl Zb ?_)<;>(first|refine kD 11 23 rfl ?_|refine xD 11 23 rfl Ww ?_)<;>refine xE 12 24 rfl ZG ?_<;>refine xE 13 25 rfl Zb ?_<;>(first|refine kD 14 26 rfl ?_|(refine bDd 25 (fun hb25=>?_) (fun hb25=>?_)<;>(first|refine kD 14 26 rfl ?_|refine xD 14 26 rfl Zb ?_)))<;>(first|refine kD 15 27 rfl ?_|refine xD 15 27 rfl Yz ?_)<;>(first|refine kD 16 28 rfl ?_|refine xD 16 28 rfl Zb ?_)<;>(first|refine kD 17 29 rfl ?_|(refine bDd 28 (fun hb28=>?_) (fun hb28=>?_)<;>(first|refine kD 17 29 rfl ?_|refine xD 17 29 rfl Zb ?_)))<;>(first|refine kD 18 30 rfl ?_|refine xD 18 30 rfl Zb ?_)<;>(first|refine kD 19 31 rfl ?_|refine xD 19 31 rfl KM ?_)<;>(first|refine kD 20 32 rfl ?_|refine xD 20 32 rfl (Si Zr) ?_)<;>(first|refine kD 21 33 rfl ?_|(refine yD 21 33 rfl (Ya Zg) fun v33 h=>?_;cases h))<;>(first|refine kD 22 34 rfl ?_|refine xD 22 34 rfl Zb ?_)<;>(first|refine kD 23 35 rfl ?_|refine xD 23 35 rfl Zb ?_)<;>(first|refine kD 24 36 rfl ?_|refine xD 24 36 rfl (ZH Zr) ?_)<;>(first|refine kD 25 37 rfl ?_|(refine yD 25 37 rfl (Ya Zg) fun v37 h=>?_;cases h))<;>(first|refine kD 26 38 rfl ?_|refine xD 26 38 rfl Ww ?_)<;>(first|refine kD 27 39 rfl ?_|refine xD 27 39 rfl ZG ?_)<;>refine xE 28 40 rfl ZG ?_<;>refine YC kR (nav ?_)<;>try dsimp only)<;>(
 refine cX ?_ ?_<;>intro hb40
 · first|exact bN hb40|(
 refine Ze ?_;(refine xL 4 Za ?_<;>refine Zc ?_)
 refine ZA (results234) rfl ?_;unfold LO
 first
  |rw [P3 hx (by simp;omega)];rfl
  |rw [LU oM hy hx (by unfold ltI;exact US oM),Bool.and_false])
 · first |exact bN hb40|(
 refine Ze ?_;(refine xL 10 Zb (xL 11 ZK (xL 5 Za ?_))<;>refine Zc ?_)
 refine Zn (
  ⟨k + 1,oM,fun j z hj hz=>by
   by_cases e:j=k
   · subst e;rw [hx] at hz;cases hz;refine ⟨⟨oM,oM⟩,fun y' h1 hy'=>?_⟩;rw [hy] at hy';cases hy';unfold ltI
     first
      |omega
      |exact UR oM
   · exact hp j z oM hz⟩
  ) (by dsimp only;omega) ⟨rfl,rfl,rfl,trivial⟩ trivial)))
 · first|exact bN hb9|(
 refine Ze ?_;(refine xL 4 Za ?_<;>refine Zc ?_)
 refine ZA (results234) rfl ?_;have h1:l.all (fun x=>decide (0≤x)&&decide (x<n))=true:=by
  rw [XA];intro z hz;obtain ⟨j,hj,rfl⟩:=VL hz;have h2:=(hp j _ oM (XY hj)).1;simp [h2.1,h2.2]
 have h2:WC ltI l=true:=TS fun j x y h1 hy hx=>(hp j x (by have:=Zh hx;omega) hx).2 y h1 hy;unfold LO;rw [h1,h2];rfl)
theorem Yc (a : Aut) (hl:a.moves.length≤1000000):AF prog 192 [ZJ a] (· =ZN (Z1 a)):=by
 refine AF.of_body 102 func192 rfl ntmps192 (Xa rfl) ?_
 intro w0 M0 vs hl hv
 obtain ⟨v0,rfl⟩:=WE hl
 clear hl hv
 refine Ze ?_
 (refine ZB 1 5 fun h1=>?_<;>refine xL 2 Za ?_<;>refine Zk ?_)
 (refine xL 5 (Zd 1 ZS) ?_<;>(refine yL 6 (Zl 1 Zg) fun v6 h=>?_;cases h)<;>refine xL 7 ZQ (xL 8 Zb ?_)<;>(refine bLd 8 (fun hb8=>?_) (fun hb8=>?_)<;>(first|refine kL 9 ?_|refine xL 9 (Zd 1 ZS) ?_))<;>(first|refine kL 10 ?_|(refine yL 10 (Zl 1 Zg) fun v10 h=>?_;cases h))<;>(first|refine kL 11 ?_|refine xL 11 Yz ?_)<;>refine xL 12 ZG (xL 13 Zb ?_)<;>(first|refine kL 14 ?_|(refine bLd 13 (fun hb13=>?_) (fun hb13=>?_)<;>(first|refine kL 14 ?_|refine xL 14 (Zd 1 ZT) ?_)))<;>(first|refine kL 15 ?_|(refine yL 15 (Zl 1 Zg) fun v15 h=>?_;cases h))<;>(first|refine kL 16 ?_|refine xL 16 ZQ ?_)<;>refine xL 17 ZG (xL 18 Zb ?_)<;>(first|refine kL 19 ?_|(refine bLd 18 (fun hb18=>?_) (fun hb18=>?_)<;>(first|refine kL 19 ?_|refine xL 19 (Zd 1 ZT) ?_)))<;>(first|refine kL 20 ?_|(refine yL 20 (Zl 1 Zg) fun v20 h=>?_;cases h))<;>(first|refine kL 21 ?_|refine xL 21 Yz ?_)<;>refine xL 22 ZG (xL 23 Zb ?_)<;>(first|refine kL 24 ?_|(refine bLd 23 (fun hb23=>?_) (fun hb23=>?_)<;>(first|refine kL 24 ?_|refine xL 24 (Zd 1 Zx) ?_)))<;>(first|refine kL 25 ?_|(refine yL 25 (Zl 1 ZC) fun v25 h=>?_;cases h))<;>(first|refine kL 26 ?_|refine xL 26 (ZW ZL) ?_)<;>(first|refine kL 27 ?_|refine xL 27 Yz ?_)<;>refine xL 28 ZG ?_<;>refine Zc ?_)<;>(
 refine cX ?_ ?_<;>intro hb28
 · first|exact bN hb28|(
 refine Ze ?_;(refine xL 2 Za ?_<;>refine Zc ?_)
 refine ZA (results192) rfl ?_;rw [SI oM])
 · first | exact bN hb28|(
 refine Ze ?_;(refine xL 3 Za ?_<;>refine Zc ?_)
 refine ZE (ι:={k:Nat//k≤a.moves.length∧∀j x,j<k→a.moves[j]? =some x→R1 a x=true∧∀y,1≤j→a.moves[j-1]? =some y→Kj y x=true}) (fun k=>⟨[(1,_,_),(3, .int .i64 k.1,pInt k.1)],[(1,_,_)]⟩) (fun k=>a.moves.length-k.1) ⟨0,oM,oM⟩ (fun a w H=>H.weaken ⟨rfl,rfl,trivial⟩ ⟨rfl,trivial⟩) ?_;rintro ⟨k,hk,hp⟩;dsimp only;refine Ze ?_;(refine xL 29 Zb (xL 30 (Zd 1 Zx) ?_)<;>(refine yL 31 (Zl 1 ZC) fun v31 h=>?_;cases h)<;>refine xL 32 (ZW ZL) (xL 33 ZQ ?_)<;>refine Zc ?_)
 refine cX ?_ ?_<;>intro hb33
 · first | exact bN hb33|(
 obtain ⟨x,hx⟩:=Zw (show k<a.moves.length by omega);obtain ⟨y,hy⟩:=Zw (show k-1<a.moves.length by omega);have e1:=Yt Z5 a.moves k x hx;have e2:=YV Z5 hx;(have e3:((a.moves.flatMap cMv).drop (((k:Int)-1).toNat*3)).take 3=cMv y:=by rw [show ((k:Int)-1).toNat*3=(k-1)*3 by omega];exact Yt Z5 a.moves (k-1) y hy);have e4:=YV Z5 hy;refine Ze ?_;(refine xL 36 (Zd 1 Zx) ?_<;>(refine yL 37 (Zl 1 ZC) fun v37 h=>?_;cases h)<;>refine xL 38 Zb (xL 39 (ZH ZL) ?_)<;>(refine yL 40 (WA Z3) fun v40 h=>?_;cases h)<;>refine Zv [(.int .i64 0),(.int .i64 0),(.int .i64 0)] 3 4 Ko fun h4=>?_<;>refine Zz 4 Z3 ?_<;>refine Zc ?_)
 (refine ZZ (fun i=>([]:List Nat).elem i) [1,4] kR ?_<;>refine xE 0 41 rfl (Zd 4 Yd) ?_<;>(refine yE 1 42 rfl (Zl 4 Zg) fun v42 h=>?_;cases h)<;>refine xE 2 43 rfl ZQ ?_<;>refine xE 3 44 rfl Zb ?_<;>(refine bDd 44 (fun hb44=>?_) (fun hb44=>?_)<;>(first|refine kD 4 45 rfl ?_|refine xD 4 45 rfl (Zd 4 Yd) ?_))<;>(first|refine kD 5 46 rfl ?_|(refine yD 5 46 rfl (Zl 4 Zg) fun v46 h=>?_;cases h))<;>(first|refine kD 6 47 rfl ?_|refine xD 6 47 rfl (Zd 1 ZS) ?_)<;>(first|refine kD 7 48 rfl ?_|(refine yD 7 48 rfl (Zl 1 Zg) fun v48 h=>?_;cases h))<;>(first|refine kD 8 49 rfl ?_|refine xD 8 49 rfl Ww ?_)<;>refine xE 9 50 rfl ZG ?_<;>refine xE 10 51 rfl Zb ?_<;>(first|refine kD 11 52 rfl ?_|(refine bDd 51 (fun hb51=>?_) (fun hb51=>?_)<;>(first|refine kD 11 52 rfl ?_|refine xD 11 52 rfl (Zd 4 Yi) ?_)))<;>(first|refine kD 12 53 rfl ?_|(refine yD 12 53 rfl (Zl 4 Zg) fun v53 h=>?_;cases h))<;>(first|refine kD 13 54 rfl ?_|refine xD 13 54 rfl ZQ ?_)<;>refine xE 14 55 rfl ZG ?_<;>refine xE 15 56 rfl Zb ?_<;>(first|refine kD 16 57 rfl ?_|(refine bDd 56 (fun hb56=>?_) (fun hb56=>?_)<;>(first|refine kD 16 57 rfl ?_|refine xD 16 57 rfl (Zd 4 Yi) ?_)))<;>(first|refine kD 17 58 rfl ?_|(refine yD 17 58 rfl (Zl 4 Zg) fun v58 h=>?_;cases h))<;>(first|refine kD 18 59 rfl ?_|refine xD 18 59 rfl (Zd 1 ZS) ?_)<;>(first|refine kD 19 60 rfl ?_|(refine yD 19 60 rfl (Zl 1 Zg) fun v60 h=>?_;cases h))<;>(first|refine kD 20 61 rfl ?_|refine xD 20 61 rfl Ww ?_)<;>refine xE 21 62 rfl ZG ?_<;>refine xE 22 63 rfl Zb ?_<;>(first|refine kD 23 64 rfl ?_|(refine bDd 63 (fun hb63=>?_) (fun hb63=>?_)<;>(first|refine kD 23 64 rfl ?_|refine xD 23 64 rfl (Zd 4 Yp) ?_)))<;>(first|refine kD 24 65 rfl ?_|(refine yD 24 65 rfl (Zl 4 Zg) fun v65 h=>?_;cases h))<;>(first|refine kD 25 66 rfl ?_|refine xD 25 66 rfl ZQ ?_)<;>refine xE 26 67 rfl ZG ?_<;>refine xE 27 68 rfl Zb ?_<;>(first|refine kD 28 69 rfl ?_|(refine bDd 68 (fun hb68=>?_) (fun hb68=>?_)<;>(first|refine kD 28 69 rfl ?_|refine xD 28 69 rfl (Zd 4 Yp) ?_)))<;>(first|refine kD 29 70 rfl ?_|(refine yD 29 70 rfl (Zl 4 Zg) fun v70 h=>?_;cases h))<;>(first|refine kD 30 71 rfl ?_|refine xD 30 71 rfl (Zd 1 ZT) ?_)<;>(first|refine kD 31 72 rfl ?_|(refine yD 31 72 rfl (Zl 1 Zg) fun v72 h=>?_;cases h))<;>(first|refine kD 32 73 rfl ?_|refine xD 32 73 rfl Ww ?_)<;>refine xE 33 74 rfl ZG ?_<;>refine xE 34 75 rfl Zb ?_<;>(first|refine kD 35 76 rfl ?_|(refine bDd 75 (fun hb75=>?_) (fun hb75=>?_)<;>(first|refine kD 35 76 rfl ?_|refine xD 35 76 rfl Zb ?_)))<;>(first|refine kD 36 77 rfl ?_|refine xD 36 77 rfl Yz ?_)<;>(first|refine kD 37 78 rfl ?_|refine xD 37 78 rfl Zb ?_)<;>(first|refine kD 38 79 rfl ?_|(refine bDd 78 (fun hb78=>?_) (fun hb78=>?_)<;>(first|refine kD 38 79 rfl ?_|refine xD 38 79 rfl (Zd 1 Zx) ?_)))<;>(first|refine kD 39 80 rfl ?_|(refine yD 39 80 rfl (Zl 1 ZC) fun v80 h=>?_;cases h))<;>(first|refine kD 40 81 rfl ?_|refine xD 40 81 rfl Zb ?_)<;>(first|refine kD 41 82 rfl ?_|refine xD 41 82 rfl KM ?_)<;>(first|refine kD 42 83 rfl ?_|refine xD 42 83 rfl (Si ZL) ?_)<;>(first|refine kD 43 84 rfl ?_|(refine yD 43 84 rfl (WA Z3) fun v84 h=>?_;cases h))<;>(first|refine kD 44 85 rfl ?_|(refine yD 44 85 rfl (Zs 4 Z3) fun v85 h=>?_;cases h))<;>(refine Zp 45 kR ?_)<;>(refine Zm rfl fun w9 M9 N9 DQ back=>?_)<;>(first|refine kL 86 ?_|(refine cS 86 (cA call187 (D5 y x)) fun v86 h=>?_;cases h))<;>refine Zj (back _ (nrm ?_))<;>(first|refine kD 46 87 rfl ?_|refine xD 46 87 rfl Z' ?_)<;>(first|refine kD 47 88 rfl ?_|refine xD 47 88 rfl ZG ?_)<;>refine xE 48 89 rfl ZG ?_<;>refine YC kR (nav ?_)<;>try dsimp only)<;>(
 refine cX ?_ ?_<;>intro hb89
 · first|exact bN hb89|(
 refine Ze ?_;(refine xL 2 Za ?_<;>refine Zc ?_)
 refine ZA (results192) rfl ?_
 first
  |rw [SI (.inr (.inr (.inr (.inr (.inr (.inr (.inr (.inl (P3 hx (show R1 a x=false by unfold R1;simp only [Bool.and_eq_false_iff,decide_eq_false_iff_not];omega))))))))))]
  |rw [SI (.inr (.inr (.inr (.inr (.inr (.inr (.inr (.inr (LU oM hy hx (by simp_all))))))))))])
 · first |exact bN hb89|(
 refine Ze ?_;(refine xL 34 Zb (xL 35 ZK (xL 3 Za ?_))<;>refine Zc ?_)
 refine Zn (
  ⟨k +1,oM,fun j z hj hz=>by
   by_cases e:j=k
   · subst e;rw [hx] at hz;cases hz;refine ⟨by unfold R1;simp only [Xf,UQ];omega,fun y' h1 hy'=>?_⟩;rw [hy] at hy';cases hy'
     first|omega|assumption|(simp_all)
   · exact hp j z oM hz⟩
  ) (by dsimp only;omega) ⟨rfl,rfl,trivial⟩ ⟨rfl,trivial⟩)))
 · first|exact bN hb33|(
 refine Ze ?_;(refine xL 90 (Zd 1 Z9) ?_<;>(refine yL 91 (Zl 1 Zy) fun v91 h=>?_;cases h)<;>refine xL 92 (Zd 1 ZS) ?_<;>(refine yL 93 (Zl 1 Zg) fun v93 h=>?_;cases h)<;>(refine cS 94 (cA call234 (SO a.start a.n)) fun v94 h=>?_;cases h)<;>refine xL 95 Zb ?_<;>(refine bL 95 (fun hb95=>?_) (fun hb95=>?_)<;>(first|refine kL 96 ?_|refine xL 96 (Zd 1 Z2) ?_))<;>(first|refine kL 97 ?_|(refine yL 97 (Zl 1 Zy) fun v97 h=>?_;cases h))<;>(first|refine kL 98 ?_|refine xL 98 (Zd 1 ZS) ?_)<;>(first|refine kL 99 ?_|(refine yL 99 (Zl 1 Zg) fun v99 h=>?_;cases h))<;>(first|refine kL 100 ?_|(refine cS 100 (cA call234 (SO a.fin a.n)) fun v100 h=>?_;cases h))<;>refine xL 101 ZG (xL 2 Za ?_)<;>refine Zc ?_)<;>(
 refine ZA (results192) rfl ?_;have h7:a.moves.all (R1 a)=true:=Zgg fun j x hj=>(hp j x (by have:=Zh hj;omega) hj).1;have h8:WC Kj a.moves=true:=TS fun j x y h1 hy hx=>(hp j x (by have:=Zh hx;omega) hx).2 y h1 hy;unfold Z1;rw [h7,h8,UR (by omega:0≤a.n),UR (by omega:a.n≤2000),UR (by omega:0≤a.syms),UR (by omega:a.syms≤40),UR (by omega:a.moves.length≤20000)]
 first
  |(rw [hb95];simp)
  |(simp_all)))))
def LP (l:List Int) (n:Int):Bool:=l.any fun t=>decide (t=n)
theorem Jm {l:List Int} {n:Int}:LP l n=true↔n∈l:=by unfold LP;simp
theorem TA (l:List Int) (n:Int):AF prog 116 [pInts l,pInt n] (· =ZN (LP l n)):=by
 refine AF.of_body 18 func116 rfl ntmps116 (Xa rfl) ?_
 intro w0 M0 vs hl hv
 obtain ⟨v0,v1,rfl⟩:=YX hl
 obtain rfl:=hv 1 _ _ rfl rfl
 clear hl hv
 refine Wm 0 rfl fun hlen=>?_
 refine Ze ?_
 (refine xL 4 Za ?_<;>refine Zk ?_)
 (refine xL 5 Za ?_<;>refine Zc ?_)
 refine ZE (ι:={k:Nat//k≤l.length∧∀j x,j<k→l[j]? =some x→¬x=n}) (fun k=>⟨[(0,_,_),(1,_,_),(5, .int .i64 k.1,pInt k.1)],[]⟩) (fun k=>l.length-k.1) ⟨0,oM,oM⟩ (fun a w H=>H.weaken ⟨rfl,rfl,rfl,trivial⟩ trivial) ?_
 rintro ⟨k,hk,hp⟩
 dsimp only
 refine Ze ?_
 (refine xL 6 Zb (xL 7 Zb (xL 8 (ZW Zr) (xL 9 ZQ ?_)))<;>refine Zc ?_)
 refine cX ?_ ?_<;>intro hb9
 · first |exact bN hb9|(
 obtain ⟨x,hx⟩:=Zw (show k<l.length by omega);have e1:=Yb (f:=pInt) hx;refine Ze ?_;(refine xL 12 Zb (xL 13 Zb (xL 14 (ZH Zr) ?_))<;>(refine yL 15 (Ya Zg) fun v15 h=>?_;cases h)<;>refine xL 16 Zb (xL 17 Yf ?_)<;>refine Zc ?_)
 refine cX ?_ ?_<;>intro hb17
 · first|exact bN hb17|(
 refine Ze ?_;(refine xL 4 Za ?_<;>refine Zc ?_)
 refine ZA (results116) rfl ?_;rw [Jm.2 (by have:=Xc hx;rwa [show x=n by simpa using hb17] at this)])
 · first|exact bN hb17|(
 refine Ze ?_;(refine xL 10 Zb (xL 11 ZK (xL 5 Za ?_))<;>refine Zc ?_)
 refine Zn (
  ⟨k+1,oM,fun j z hj hz=>by
   by_cases e:j=k
   · subst e;rw [hx] at hz;cases hz;simpa using hb17
   · exact hp j z oM hz⟩
  ) (by dsimp only;omega) ⟨rfl,rfl,rfl,trivial⟩ trivial))
 · first|exact bN hb9|(
 refine Ze ?_;(refine xL 4 Za ?_<;>refine Zc ?_)
 refine ZA (results116) rfl ?_;rw [show LP l n=false by
  cases hh:LP l n with
  |false=>rfl
  | true=>
    obtain ⟨j,hj⟩:=XU (Jm.1 hh);exact UV rfl (hp j n (by have:=Zh hj;omega) hj)])
def Yh (n:Nat) (f:Nat→Bool):List Int:=((List.range n).filter f).map fun i:Nat=>(i:Int)
theorem WL (k:Nat) (f:Nat→Bool):Yh (k+1) f=Yh k f++(if f k then [(k:Int)] else []):=by
 unfold Yh
 rw [Vz,XV,Xs]
 congr 1
 cases h:f k<;>simp [h]
theorem L5 (n:Nat) (f:Nat→Bool):(Yh n f).length≤n:=by
 unfold Yh
 rw [Xe]
 have:=Vg f (List.range n)
 simpa using this
theorem JI {n:Nat} {f:Nat→Bool} {t:Int}:t∈Yh n f↔0≤t∧t<n∧f t.toNat=true:=by
 unfold Yh
 simp only [Xl,X0,XT]
 constructor
 · rintro ⟨i,⟨h1,h2⟩,rfl⟩;exact ⟨oM,oM,by simpa using h2⟩
 · rintro ⟨h1,h2,h3⟩;exact ⟨t.toNat,⟨oM,h3⟩,oM⟩
theorem D6 (n:Nat) (f:Nat→Bool):Srt (Yh n f):=by
 unfold Yh Srt
 refine V8.2 (List.Pairwise.filter _ ?_)
 exact (List.pairwise_lt_range (n:=n)).imp fun h=>oM
theorem D7 (n:Nat) (f:Nat→Bool) (hn:n≤1000000):AF prog 115 [Zfl n f] (· = .own 3 1 (Yh n f).length ((Yh n f).map pInt)):=by
 refine AF.of_body 20 func115 rfl ntmps115 (Xa rfl) ?_
 intro w0 M0 vs hl hv
 obtain ⟨v0,rfl⟩:=WE hl
 clear hl hv
 refine Ze ?_
 (refine xL 2 Za ?_<;>refine Zk ?_)
 (refine xL 3 Za ?_<;>refine Zc ?_)
 refine Zq (KT 200 3 1 rfl) fun _=>?_
 (refine Zt ?_<;>refine xL 4 Za ?_<;>refine Zc ?_)
 refine ZE (ι:={q:Nat×Value//q.1≤n∧q.2.oneCell'=true}) (fun k=>⟨[(0,_,_),(3,k.1.2, .val k.1.2),(4, .int .i64 k.1.1,pInt k.1.1)],[(200,k.1.2, .own 3 1 (Yh k.1.1 f).length ((Yh k.1.1 f).map pInt))]⟩) (fun k=>n-k.1.1) ⟨(0, .slice none 0 0),Xd _,rfl⟩ (fun a w H=>H.weaken ⟨rfl,rfl,rfl,trivial⟩ ⟨rfl,trivial⟩) ?_
 rintro ⟨⟨k,r⟩,hk,hr⟩
 dsimp only
 dsimp only at hk hr
 have hll:=L5 k f
 refine Ze ?_
 (refine xL 5 Zb (xL 6 Zb (xL 7 (ZW Yo) (xL 8 ZQ ?_)))<;>refine Zc ?_)
 refine cX ?_ ?_<;>intro hb8
 · first | exact bN hb8|(
 have hlt:k<n:=oM;have e1:=Kw (fun i=>ZN (f i)) hlt;have e2:=WL k f;refine Ze ?_;(refine xL 11 Zb (xL 12 Zb (xL 13 (ZH Yo) ?_))<;>(refine yL 14 (Ya Wa) fun v14 h=>?_;cases h)<;>refine Zc ?_)
 refine cX ?_ ?_<;>intro hb14
 · first |exact bN hb14|(
 refine Ze ?_;(refine xL 15 Zb (xL 16 Zb ?_)<;>refine ZM (kk:=1) 17 Zo fun h17 ho17=>?_<;>(refine ZY 200 17 18 Zo fun h18 ho18=>?_;refine Zu (ZD (l:=18) 200 rfl rfl) fun _=>?_;rw [show PV.own 3 1 ((Yh k f).length+1) ((Yh k f).map pInt++[pInt k])= .own 3 1 (Yh k f++[(k:Int)]).length ((Yh k f++[(k:Int)]).map pInt) from Oh _ _ _])<;>refine xL 3 Za ?_<;>refine Zk ?_)
 (refine xL 9 Zb (xL 10 ZK (xL 4 Za ?_))<;>refine Zc ?_)
 try rw [show Yh k f++[(k:Int)]=Yh (k+1) f by rw [e2,UU (by simpa using hb14)]]
 try rw [show Yh k f=Yh (k+1) f by rw [e2,UT (by simpa using hb14),Xr]]
 first
  | (exact Zn (
      ⟨(k+1,h18),by dsimp only;omega,ho18⟩
      ) (by dsimp only;omega) ⟨rfl,rfl,rfl,trivial⟩ ⟨rfl,trivial⟩)
  | (exact Zn (
      ⟨(k+1,r),by dsimp only;omega,hr⟩
      ) (by dsimp only;omega) ⟨rfl,rfl,rfl,trivial⟩ ⟨rfl,trivial⟩))
 · first |exact bN hb14|(
 refine Ze ?_;(refine xL 9 Zb (xL 10 ZK (xL 4 Za ?_))<;>refine Zc ?_)
 try rw [show Yh k f++[(k:Int)]=Yh (k+1) f by rw [e2,UU (by simpa using hb14)]]
 try rw [show Yh k f=Yh (k+1) f by rw [e2,UT (by simpa using hb14),Xr]]
 first
  | (exact Zn (
      ⟨(k+1,h18),by dsimp only;omega,ho18⟩
      ) (by dsimp only;omega) ⟨rfl,rfl,rfl,trivial⟩ ⟨rfl,trivial⟩)
  | (exact Zn (
      ⟨(k+1,r),by dsimp only;omega,hr⟩
      ) (by dsimp only;omega) ⟨rfl,rfl,rfl,trivial⟩ ⟨rfl,trivial⟩)))
 · first|exact bN hb8|(
 refine Ze ?_;(refine xL 19 Zb (xL 2 Za ?_)<;>refine Zc ?_)
 refine Kk 200 (results115) rfl rfl ?_;rw [show k=n by omega])
def Jn (l:List Int) (i:Nat):Bool:=LP l (i:Nat)
theorem EM {l:List Int} {k:Nat} {t:Int} (h:l[k]? =some t) (h0:0≤t) (i:Nat):Jn (l.take (k+1)) i=if i=t.toNat then true else Jn (l.take k) i:=by
 unfold Jn LP
 rw [ZR h,VA]
 simp only [Ua,Ub,Vh]
 by_cases e:i=t.toNat
 · rw [UU e,UR (show t=(i:Int) by omega),Bool.or_true]
 · rw [UT e,US (show ¬t=(i:Int) by omega),Vh]
structure MkI (a:Aut) (l:List Int) (f:Nat→Bool):Prop where
 base:∀s∈l,f s.toNat=true
 snd:∀i:Nat,i<a.n.toNat→f i=true→Rch a l (i:Nat)
def Zj4 (a:Aut) (f:Nat→Bool):Prop:=∀m∈a.moves,m.sym<0→f m.src.toNat=true→f m.dst.toNat=true
theorem MkI.start {a:Aut} {l:List Int} (hl:InS a l):MkI a l (Jn l):=by
 refine ⟨fun s hs=>?_,fun i _ h=> .base (Jm.1 h)⟩
 unfold Jn
 rw [Jm,show ((s.toNat:Nat):Int)=s by have:=hl s hs;omega]
 exact hs
def ZcU (f:Nat→Bool) (i:Nat):Nat→Bool:=fun j=>if j=i then true else f j
structure PassB (a:Aut) (l:List Int) (f0 f:Nat→Bool) (fl:Bool) (i:Nat):Prop where
 mki:MkI a l f
 no:fl=false→f=f0∧∀j m,j<i→a.moves[j]? =some m→m.sym<0→f m.src.toNat=true→f m.dst.toNat=true
 yes:fl=true→cntF a.n.toNat f<cntF a.n.toNat f0
theorem PassB.start {a:Aut} {l:List Int} {f:Nat→Bool} (h:MkI a l f):PassB a l f f false 0:=⟨h,fun _=>⟨rfl,fun j m hj=>oM⟩,fun h=>Bool.noConfusion h⟩
theorem PassB.set {a:Aut} {l:List Int} {f0 f:Nat→Bool} {fl:Bool} {i:Nat} {m:Mv} (hA:AOk a) (hl:InS a l) (h:PassB a l f0 f fl i) (hm:a.moves[i]? =some m) (h1:m.sym<0) (h2:f m.src.toNat=true) (h3:f m.dst.toNat=false):PassB a l f0 (ZcU f m.dst.toNat) true (i+1):=by
 have hmv:=hA.mv m (Xc hm)
 refine ⟨⟨fun s hs=>?_,fun j hj hf=>?_⟩,fun h=>Bool.noConfusion h,fun _=>?_⟩
 · unfold ZcU;split
   · rfl
   · exact h.mki.base s hs
 · unfold ZcU at hf;split at hf
   · rename_i e;have h4:=h.mki.snd m.src.toNat oM h2;have h5:=Rch.step h4 (Xc hm) oM oM;rw [e,show ((m.dst.toNat:Nat):Int)=m.dst by omega];exact h5
   · exact h.mki.snd j hj hf
 · have h4:=ZcN h3 (n:=a.n.toNat) oM;have h5:cntF a.n.toNat (ZcU f m.dst.toNat)+1=cntF a.n.toNat f:=h4
   cases hfl:fl
   · have:=(h.no hfl).1;rw [this] at h5 ⊢;omega
   · have:=h.yes hfl;omega
theorem PassB.skip {a:Aut} {l:List Int} {f0 f:Nat→Bool} {fl:Bool} {i:Nat} {m:Mv} (h:PassB a l f0 f fl i) (hm:a.moves[i]? =some m) (h1:m.sym<0→f m.src.toNat=true→f m.dst.toNat=true):PassB a l f0 f fl (i+1):=
 ⟨h.mki,fun hf=>⟨(h.no hf).1,fun j x hj hx=>by
  by_cases e:j=i
  · subst e;rw [hm] at hx;cases hx;exact h1
  · exact (h.no hf).2 j x oM hx⟩,h.yes⟩
theorem PassB.clos {a:Aut} {l:List Int} {f0 f:Nat→Bool} {i:Nat} (h:PassB a l f0 f false i) (hi:a.moves.length≤i):Zj4 a f:=fun m hm=>by
 obtain ⟨j,hj⟩:=XU hm
 exact (h.no rfl).2 j m (by have:=Zh hj;omega) hj
theorem PassB.less {a:Aut} {l:List Int} {f0 f:Nat→Bool} {fl:Bool} {i:Nat} (h:PassB a l f0 f fl i):cntF a.n.toNat f+(if fl then 1 else 0)<cntF a.n.toNat f0+(if true then 1 else 0):=by
 cases hf:fl
 · have h1:=(h.no hf).1;rw [h1];simp
 · have h1:=h.yes hf;simp;omega
theorem ZcV {a:Aut} {l:List Int} {f:Nat→Bool} (hA:AOk a) (hl:InS a l) (h:MkI a l f) (hc:Zj4 a f):Yh a.n.toNat f=Y3 a l:=by
 refine Rw (D6 _ _) (KF hA.mi hl) fun t=>?_
 rw [JI,Jb hA.mi hl]
 constructor
 · rintro ⟨h1,h2,h3⟩;have:=h.snd t.toNat oM h3;rwa [show ((t.toNat:Nat):Int)=t by omega] at this
 · intro h1;have h2:=Zfh hA.mi hl h1;refine ⟨h2.1,oM,?_⟩;clear h2;induction h1 with
   |base h3=>exact h.base _ h3
   | @step s m h3 hm hs hcc ih=>
     subst hs;exact hc m hm oM ih
set_option maxHeartbeats 2000000 in
theorem D8 (a : Aut) (l:List Int) (h:AOk a) (hl:InS a l):AF prog 70 [ZJ a,pInts l] (· = .own 3 1 (Y3 a l).length ((Y3 a l).map pInt)):=by
 have hn0:=h.n0
 have hn1:=h.n1
 have hml:=h.ml
 rw [EI h.n0]
 refine AF.of_body 62 func70 rfl ntmps70 (Xa rfl) ?_
 intro w0 M0 vs hl hv
 obtain ⟨v0,v1,rfl⟩:=YX hl
 clear hl hv
 refine Wm 1 rfl fun hlen=>?_
 refine Ze ?_
 (refine ZB 2 5 fun h2=>?_<;>refine xL 4 Za ?_<;>refine Zk ?_)
 (refine xL 10 (Zd 2 ZS) ?_<;>(refine yL 11 (Zl 2 Zg) fun v11 h=>?_;cases h)<;>refine Jy 12 YZ fun h12 ho12=>?_<;>refine xL 5 Za ?_<;>refine Zc ?_)
 rw [show List.replicate a.n.toNat (PV.val (.bool false))=vec a.n.toNat (fun i=>ZN (Jn (l.take 0) i)) from Ld _ _]
 (refine Zt ?_<;>refine xL 6 Za ?_<;>refine Zc ?_)
 refine ZE (ι:={k:Nat//k≤l.length}) (fun k=>⟨[(1,_,_),(2,_,_),(5,_,_),(6, .int .i64 k.1,pInt k.1)],[(2,_,_),(12,h12, .own 4 1 a.n.toNat (vec a.n.toNat fun i=>ZN (Jn (l.take k.1) i)))]⟩) (fun k=>l.length-k.1) ⟨0,Xd _⟩ (fun a w H=>H.weaken ⟨rfl,rfl,rfl,rfl,trivial⟩ ⟨rfl,rfl,trivial⟩) ?_
 rintro ⟨k,hk⟩
 dsimp only
 refine Ze ?_
 (refine xL 13 Zb (xL 14 Zb (xL 15 (ZW Zr) (xL 16 ZQ ?_)))<;>refine Zc ?_)
 refine cX ?_ ?_<;>intro hb16
 · first|exact bN hb16|(
 obtain ⟨x,hx⟩:=Zw (show k<l.length by omega);have e1:=Yb (f:=pInt) hx;have hx2:=hl x (Xc hx);have e2:=KO a.n.toNat (fun i=>ZN (Jn (l.take k) i));refine Ze ?_;(refine xL 19 Zb (xL 20 Zb (xL 21 Zb (xL 22 (ZH Zr) ?_)))<;>(refine yL 23 (Ya Zg) fun v23 h=>?_;cases h)<;>refine xL 24 (Kg 12 Yo) ?_<;>refine YQ 12 Wa SN ?_<;>refine Zk ?_)
 (refine xL 17 Zb (xL 18 ZK (xL 6 Za ?_))<;>refine Zc ?_)
 rw [Gh (f':=Jn (l.take (k+1))) fun i _=>EM hx hx2.1 i];refine Zn (
  ⟨k+1,Zh hx⟩
  ) (by dsimp only;omega) ⟨rfl,rfl,rfl,rfl,trivial⟩ ⟨rfl,rfl,trivial⟩)
 · first | exact bN hb16|(
 rw [show Jn (l.take k)=Jn l by rw [Xj oM]];refine Ze ?_;(refine xL 7 Za ?_<;>refine Zc ?_)
 refine ZE (ι:={q:(Nat→Bool)×Bool//MkI a l q.1∧(q.2=false→Zj4 a q.1)}) (fun k=>⟨[(1,_,_),(2,_,_),(5,_,_),(7, .bool k.1.2,ZN k.1.2)],[(2,_,_),(12,h12, .own 4 1 a.n.toNat (vec a.n.toNat fun i=>ZN (k.1.1 i)))]⟩) (fun k=>cntF a.n.toNat k.1.1+(if k.1.2 then 1 else 0)) ⟨(Jn l,true),MkI.start hl,fun h=>Bool.noConfusion h⟩ (fun a w H=>H.weaken ⟨rfl,rfl,rfl,rfl,trivial⟩ ⟨rfl,rfl,trivial⟩) ?_;rintro ⟨⟨f0,ag⟩,hMk,hag⟩;dsimp only;dsimp only at hMk hag;refine Ze ?_;(refine xL 25 Zb ?_<;>refine Zc ?_)
 refine cX ?_ ?_<;>intro hb25
 · first | exact bN hb25|(
 refine Ze ?_;(refine xL 7 Za ?_<;>refine Zk ?_)
 (refine xL 8 Za ?_<;>refine Zc ?_)
 refine ZE (ι:={q:Nat×(Nat→Bool)×Bool//q.1≤a.moves.length∧PassB a l f0 q.2.1 q.2.2 q.1}) (fun k=>⟨[(1,_,_),(2,_,_),(5,_,_),(7, .bool k.1.2.2,ZN k.1.2.2),(8, .int .i64 k.1.1,pInt k.1.1)],[(2,_,_),(12,h12, .own 4 1 a.n.toNat (vec a.n.toNat fun i=>ZN (k.1.2.1 i)))]⟩) (fun k=>a.moves.length-k.1.1) ⟨(0,f0,false),Xd _,PassB.start hMk⟩ (fun a w H=>H.weaken ⟨rfl,rfl,rfl,rfl,rfl,trivial⟩ ⟨rfl,rfl,trivial⟩) ?_;rintro ⟨⟨i,f,fl⟩,hi,hP⟩;dsimp only;dsimp only at hi hP;refine Ze ?_;(refine xL 26 Zb (xL 27 (Zd 2 Zx) ?_)<;>(refine yL 28 (Zl 2 ZC) fun v28 h=>?_;cases h)<;>refine xL 29 (ZW ZL) (xL 30 ZQ ?_)<;>refine Zc ?_)
 refine cX ?_ ?_<;>intro hb30
 · first | exact bN hb30|(
 obtain ⟨m,hm⟩:=Zw (show i<a.moves.length by omega);have e1:=Yt Z5 a.moves i m hm;have e2:=YV Z5 hm;have hmv:=h.mv m (Xc hm);have e3:=Kw (fun i=>ZN (f i)) (show m.src.toNat<a.n.toNat by omega);have e4:=Kw (fun i=>ZN (f i)) (show m.dst.toNat<a.n.toNat by omega);have e5:=KO a.n.toNat (fun i=>ZN (f i));refine Ze ?_;(refine xL 33 (Zd 2 Zx) ?_<;>(refine yL 34 (Zl 2 ZC) fun v34 h=>?_;cases h)<;>refine xL 35 Zb (xL 36 (ZH ZL) ?_)<;>(refine yL 37 (WA Z3) fun v37 h=>?_;cases h)<;>refine Zv [(.int .i64 0),(.int .i64 0),(.int .i64 0)] 3 9 Ko fun h9=>?_<;>refine Zz 9 Z3 ?_<;>refine Zk ?_)
 (refine xL 38 (Zd 9 Yp) ?_<;>(refine yL 39 (Zl 9 Zg) fun v39 h=>?_;cases h)<;>refine xL 40 ZQ (xL 41 Zb ?_)<;>(refine bLd 41 (fun hb41=>?_) (fun hb41=>?_)<;>(first|refine kL 42 ?_|refine xL 42 Zb ?_))<;>(first|refine kL 43 ?_|refine xL 43 (Zd 9 Yd) ?_)<;>(first|refine kL 44 ?_|(refine yL 44 (Zl 9 Zg) fun v44 h=>?_;cases h))<;>(first|refine kL 45 ?_|refine xL 45 (Kg 12 Yo) ?_)<;>(first|refine kL 46 ?_|(refine yL 46 (Zl 12 Wa) fun v46 h=>?_;cases h))<;>refine xL 47 ZG (xL 48 Zb ?_)<;>(first|refine kL 49 ?_|(refine bL 48 (fun hb48=>?_) (fun hb48=>?_)<;>(first|refine kL 49 ?_|refine xL 49 Zb ?_)))<;>(first|refine kL 50 ?_|refine xL 50 (Zd 9 Yi) ?_)<;>(first|refine kL 51 ?_|(refine yL 51 (Zl 9 Zg) fun v51 h=>?_;cases h))<;>(first|refine kL 52 ?_|refine xL 52 (Kg 12 Yo) ?_)<;>(first|refine kL 53 ?_|(refine yL 53 (Zl 12 Wa) fun v53 h=>?_;cases h))<;>(first|refine kL 54 ?_|refine xL 54 Z' ?_)<;>refine xL 55 ZG ?_<;>refine Zc ?_)<;>(
 refine cX ?_ ?_<;>intro hb55
 · first |exact bN hb55|(
 refine Ze ?_;(refine xL 56 Zb (xL 57 (Zd 9 Yi) ?_)<;>(refine yL 58 (Zl 9 Zg) fun v58 h=>?_;cases h)<;>refine xL 59 (Kg 12 Yo) ?_<;>refine YQ 12 Wa SN ?_<;>refine Zk ?_)
 (refine xL 7 Za ?_<;>refine Zk ?_)
 (refine xL 31 Zb (xL 32 ZK (xL 8 Za ?_))<;>refine Zc ?_)
 try rw [Gh (f':=ZcU f m.dst.toNat) fun i _=>rfl]
 first
  | (exact Zn (
      ⟨(i+1,ZcU f m.dst.toNat,true),Zh hm,hP.set h hl hm (by simp_all) (by simp_all) (by simp_all)⟩
      ) (by dsimp only;omega) ⟨rfl,rfl,rfl,rfl,rfl,trivial⟩ ⟨rfl,rfl,trivial⟩)
  | (exact Zn (
      ⟨(i+1,f,fl),Zh hm,hP.skip hm (fun h1 h2=>by simp_all)⟩
      ) (by dsimp only;omega) ⟨rfl,rfl,rfl,rfl,rfl,trivial⟩ ⟨rfl,rfl,trivial⟩)
  | (exact Zn (
      ⟨(i+1,f,fl),Zh hm,hP.skip hm (fun h1 h2=>oM)⟩
      ) (by dsimp only;omega) ⟨rfl,rfl,rfl,rfl,rfl,trivial⟩ ⟨rfl,rfl,trivial⟩))
 · first |exact bN hb55|(
 refine Ze ?_;(refine xL 31 Zb (xL 32 ZK (xL 8 Za ?_))<;>refine Zc ?_)
 try rw [Gh (f':=ZcU f m.dst.toNat) fun i _=>rfl]
 first
  | (exact Zn (
      ⟨(i+1,ZcU f m.dst.toNat,true),Zh hm,hP.set h hl hm (by simp_all) (by simp_all) (by simp_all)⟩
      ) (by dsimp only;omega) ⟨rfl,rfl,rfl,rfl,rfl,trivial⟩ ⟨rfl,rfl,trivial⟩)
  | (exact Zn (
      ⟨(i+1,f,fl),Zh hm,hP.skip hm (fun h1 h2=>by simp_all)⟩
      ) (by dsimp only;omega) ⟨rfl,rfl,rfl,rfl,rfl,trivial⟩ ⟨rfl,rfl,trivial⟩)
  | (exact Zn (
      ⟨(i+1,f,fl),Zh hm,hP.skip hm (fun h1 h2=>oM)⟩
      ) (by dsimp only;omega) ⟨rfl,rfl,rfl,rfl,rfl,trivial⟩ ⟨rfl,rfl,trivial⟩))))
 · first|exact bN hb30|(
 (have hms:cntF a.n.toNat f+(if fl then 1 else 0)<cntF a.n.toNat f0+(if ag then 1 else 0):=by rw [show ag=true from hb25];exact hP.less);refine nav ?_;refine Zn (
  ⟨(f,fl),hP.mki,fun hf=>by dsimp only at hf;subst hf;exact hP.clos oM⟩
  ) (hms) ⟨rfl,rfl,rfl,rfl,trivial⟩ ⟨rfl,rfl,trivial⟩))
 · first|exact bN hb25|(
 refine Ze ?_;(refine xL 60 Zb ?_<;>(refine Zu (En.freeze (l:=12) (t:=60) rfl rfl) fun _=>?_;rw [show share (.own 4 1 a.n.toNat (vec a.n.toNat fun i=>ZN (f0 i)))=Zfl a.n.toNat f0 by rw [share,Yr,HV];rfl];refine cO 61 (cA call115 (D7 a.n.toNat f0 oM)) fun v61 ho61=>?_)<;>refine xL 4 Za ?_<;>refine Zc ?_)
 refine Kk 61 (results70) rfl rfl ?_;rw [ZcV h hl hMk (hag (by simpa using hb25))]))
theorem ZcW (a:Aut) (l:List Int) (h:AOk a) (hl:InS a l):AF prog 70 [.agg [pInt (a.n.toNat:Nat),pInt a.syms,pInts a.start,pInts a.fin,pMvs a.moves],pInts l] (· = .own 3 1 (Y3 a l).length ((Y3 a l).map pInt)):=by
 rw [←EI h.n0];exact D8 a l h hl
theorem ZcX {a:Aut} {l m:List Int} (h:Td a) (hl:InS a l) (hm:InS a m) (he:∀x,x∈l↔x∈m):Y3 a l=Y3 a m:=by
 refine Rw (KF h hl) (KF h hm) fun t=>?_
 rw [Jb h hl,Jb h hm]
 have key:∀{l m:List Int},(∀x,x∈l→x∈m)→∀{t},Rch a l t→Rch a m t:=fun he t h=>by
  induction h with
  |base h1=>exact .base (he _ h1)
  |step _ hm hs hc ih=>exact .step ih hm hs hc
 exact ⟨key fun x=>(he x).1,key fun x=>(he x).2⟩
def SP (a:Aut) (l:List Int) (c:Int) (k:Nat) (i:Nat):Bool:=(a.moves.take k).any fun m=>decide (m.sym=c)&&(LP l m.src&&decide (m.dst=(i:Nat)))
theorem ZcY {a:Aut} {l:List Int} {c:Int} {k:Nat} {m:Mv} (h:a.moves[k]? =some m) (h0:0≤m.dst) (h1:m.sym=c) (h2:LP l m.src=true) (i:Nat):SP a l c (k+1) i=if i=m.dst.toNat then true else SP a l c k i:=by
 unfold SP
 rw [ZR h,VA]
 simp only [Ua,Ub,Vh]
 rw [UR h1,h2]
 by_cases e:i=m.dst.toNat
 · rw [UU e,UR (show m.dst=(i:Int) by omega)];simp
 · rw [UT e,US (show ¬m.dst=(i:Int) by omega)];simp
theorem Zgs {a:Aut} {l:List Int} {c:Int} {k:Nat} {m:Mv} (h:a.moves[k]? =some m) (h1:¬(m.sym=c∧LP l m.src=true)):SP a l c (k+1)=SP a l c k:=by
 funext i
 unfold SP
 rw [ZR h,VA]
 simp only [Ua,Ub,Vh]
 by_cases e:m.sym=c
 · have e2:LP l m.src=false:=by cases hh:LP l m.src;rfl;exact UV ⟨e,hh⟩ h1
   rw [e2];simp
 · rw [US e];simp
theorem Zj5 {a:Aut} {l:List Int} {c:Int} {k:Nat} (h:AOk a) (hl:InS a l) (hk:a.moves.length≤k):Y3 a (Yh a.n.toNat (SP a l c k))=YO a c l:=by
 unfold YO
 refine ZcX h.mi (fun s hs=>by have:=JI.1 hs;have:=h.n0;omega) (KC h.mi c l) fun t=>?_
 rw [JI,JG hl]
 unfold SP
 rw [Xj hk]
 simp only [Uc,Xf,UQ,Jm]
 constructor
 · rintro ⟨h1,h2,m,hm,h3,h4,h5⟩;exact ⟨m,hm,h4,h3,oM⟩
 · rintro ⟨m,hm,h3,h4,rfl⟩;have:=h.mv m hm;exact ⟨oM,oM,m,hm,h4,h3,oM⟩
set_option maxHeartbeats 2000000 in
theorem Zfr (a:Aut) (l:List Int) (c:Int) (h:AOk a) (hl:InS a l):AF prog 71 [ZJ a,pInts l,pInt c] (· = .own 3 1 (YO a c l).length ((YO a c l).map pInt)):=by
 have hn0:=h.n0
 have hn1:=h.n1
 have hml:=h.ml
 rw [EI h.n0]
 refine AF.of_body 61 func71 rfl ntmps71 (Xa rfl) ?_
 intro w0 M0 vs hl hv
 obtain ⟨v0,v1,v2,rfl⟩:=Jx hl
 obtain rfl:=hv 2 _ _ rfl rfl
 clear hl hv
 refine Wm 1 rfl fun hlen=>?_
 refine Ze ?_
 (refine ZB 3 5 fun h3=>?_<;>refine xL 6 Za ?_<;>refine Zk ?_)
 (refine xL 12 (Zd 3 ZS) ?_<;>(refine yL 13 (Zl 3 Zg) fun v13 h=>?_;cases h)<;>refine Jy 14 YZ fun h14 ho14=>?_<;>refine xL 7 Za ?_<;>refine Zc ?_)
 rw [show List.replicate a.n.toNat (PV.val (.bool false))=vec a.n.toNat (fun i=>ZN (Jn (l.take 0) i)) from Ld _ _]
 (refine Zt ?_<;>refine xL 8 Za ?_<;>refine Zc ?_)
 refine ZE (ι:={k:Nat//k≤l.length}) (fun k=>⟨[(1,_,_),(2,_,_),(3,_,_),(7,_,_),(8, .int .i64 k.1,pInt k.1)],[(3,_,_),(14,h14, .own 4 1 a.n.toNat (vec a.n.toNat fun i=>ZN (Jn (l.take k.1) i)))]⟩) (fun k=>l.length-k.1) ⟨0,Xd _⟩ (fun a w H=>H.weaken ⟨rfl,rfl,rfl,rfl,rfl,trivial⟩ ⟨rfl,rfl,trivial⟩) ?_
 rintro ⟨k,hk⟩
 dsimp only
 refine Ze ?_
 (refine xL 15 Zb (xL 16 Zb (xL 17 (ZW Zr) (xL 18 ZQ ?_)))<;>refine Zc ?_)
 refine cX ?_ ?_<;>intro hb18
 · first|exact bN hb18|(
 obtain ⟨x,hx⟩:=Zw (show k<l.length by omega);have e1:=Yb (f:=pInt) hx;have hx2:=hl x (Xc hx);have e2:=KO a.n.toNat (fun i=>ZN (Jn (l.take k) i));refine Ze ?_;(refine xL 21 Zb (xL 22 Zb (xL 23 Zb (xL 24 (ZH Zr) ?_)))<;>(refine yL 25 (Ya Zg) fun v25 h=>?_;cases h)<;>refine xL 26 (Kg 14 Yo) ?_<;>refine YQ 14 Wa SN ?_<;>refine Zk ?_)
 (refine xL 19 Zb (xL 20 ZK (xL 8 Za ?_))<;>refine Zc ?_)
 rw [Gh (f':=Jn (l.take (k+1))) fun i _=>EM hx hx2.1 i];refine Zn (
  ⟨k+1,Zh hx⟩
  ) (by dsimp only;omega) ⟨rfl,rfl,rfl,rfl,rfl,trivial⟩ ⟨rfl,rfl,trivial⟩)
 · first | exact bN hb18|(
 rw [show Jn (l.take k)=Jn l by rw [Xj oM]];refine Ze ?_;(refine xL 27 (Zd 3 ZS) ?_<;>(refine yL 28 (Zl 3 Zg) fun v28 h=>?_;cases h)<;>refine Jy 29 YZ fun h29 ho29=>?_<;>refine xL 9 Za ?_<;>refine Zc ?_)
 rw [show List.replicate a.n.toNat (PV.val (.bool false))=vec a.n.toNat (fun i=>ZN (SP a l c 0 i)) from Ld _ _];(refine Zt ?_<;>refine xL 10 Za ?_<;>refine Zc ?_)
 refine ZE (ι:={k:Nat//k≤a.moves.length}) (fun k=>⟨[(1,_,_),(2,_,_),(3,_,_),(7,_,_),(9,_,_),(10, .int .i64 k.1,pInt k.1)],[(3,_,_),(14,_,_),(29,h29, .own 4 1 a.n.toNat (vec a.n.toNat fun i=>ZN (SP a l c k.1 i)))]⟩) (fun k=>a.moves.length-k.1) ⟨0,Xd _⟩ (fun a w H=>H.weaken ⟨rfl,rfl,rfl,rfl,rfl,rfl,trivial⟩ ⟨rfl,rfl,rfl,trivial⟩) ?_;rintro ⟨k8,hk8⟩;dsimp only;refine Ze ?_;(refine xL 30 Zb (xL 31 (Zd 3 Zx) ?_)<;>(refine yL 32 (Zl 3 ZC) fun v32 h=>?_;cases h)<;>refine xL 33 (ZW ZL) (xL 34 ZQ ?_)<;>refine Zc ?_)
 refine cX ?_ ?_<;>intro hb34
 · first |exact bN hb34|(
 obtain ⟨m,hm⟩:=Zw (show k8<a.moves.length by omega);have e1:=Yt Z5 a.moves k8 m hm;have e2:=YV Z5 hm;have hmv:=h.mv m (Xc hm);have e3:=Kw (fun i=>ZN (Jn l i)) (show m.src.toNat<a.n.toNat by omega);have e5:=KO a.n.toNat (fun i=>ZN (SP a l c k8 i));(have e6:Jn l m.src.toNat=LP l m.src:=by unfold Jn;rw [show ((m.src.toNat:Nat):Int)=m.src by omega]);refine Ze ?_;(refine xL 37 (Zd 3 Zx) ?_<;>(refine yL 38 (Zl 3 ZC) fun v38 h=>?_;cases h)<;>refine xL 39 Zb (xL 40 (ZH ZL) ?_)<;>(refine yL 41 (WA Z3) fun v41 h=>?_;cases h)<;>refine Zv [(.int .i64 0),(.int .i64 0),(.int .i64 0)] 3 11 Ko fun h11=>?_<;>refine Zz 11 Z3 ?_<;>refine Zk ?_)
 (refine xL 42 (Zd 11 Yp) ?_<;>(refine yL 43 (Zl 11 Zg) fun v43 h=>?_;cases h)<;>refine xL 44 Zb (xL 45 Yf (xL 46 Zb ?_))<;>(refine bLd 46 (fun hb46=>?_) (fun hb46=>?_)<;>(first|refine kL 47 ?_|refine xL 47 Zb ?_))<;>(first|refine kL 48 ?_|refine xL 48 (Zd 11 Yd) ?_)<;>(first|refine kL 49 ?_|(refine yL 49 (Zl 11 Zg) fun v49 h=>?_;cases h))<;>(first|refine kL 50 ?_|refine xL 50 (Kg 14 Yo) ?_)<;>(first|refine kL 51 ?_|(refine yL 51 (Zl 14 Wa) fun v51 h=>?_;cases h))<;>refine xL 52 ZG ?_<;>refine Zc ?_)<;>(
 refine cX ?_ ?_<;>intro hb52
 · first|exact bN hb52|(
 refine Ze ?_;(refine xL 53 Zb (xL 54 (Zd 11 Yi) ?_)<;>(refine yL 55 (Zl 11 Zg) fun v55 h=>?_;cases h)<;>refine xL 56 (Kg 29 Yo) ?_<;>refine YQ 29 Wa SN ?_<;>refine Zk ?_)
 (refine xL 35 Zb (xL 36 ZK (xL 10 Za ?_))<;>refine Zc ?_)
 first|rw [Gh (f':=SP a l c (k8+1)) fun i _=>ZcY hm oM (by first|omega|assumption) (by rw [←e6];assumption) i]|rw [←Zgs hm (by rintro ⟨g1,g2⟩;rw [←e6] at g2;first|exact UV g1 (by assumption)|(rw [g2] at hb52;exact UV hb52 dC)|(simp_all))]
 refine Zn (
  ⟨k8+1,Zh hm⟩
  ) (by dsimp only;omega) ⟨rfl,rfl,rfl,rfl,rfl,rfl,trivial⟩ ⟨rfl,rfl,rfl,trivial⟩)
 · first|exact bN hb52|(
 refine Ze ?_;(refine xL 35 Zb (xL 36 ZK (xL 10 Za ?_))<;>refine Zc ?_)
 first|rw [Gh (f':=SP a l c (k8+1)) fun i _=>ZcY hm oM (by first|omega|assumption) (by rw [←e6];assumption) i]|rw [←Zgs hm (by rintro ⟨g1,g2⟩;rw [←e6] at g2;first|exact UV g1 (by assumption)|(rw [g2] at hb52;exact UV hb52 dC)|(simp_all))]
 refine Zn (
  ⟨k8+1,Zh hm⟩
  ) (by dsimp only;omega) ⟨rfl,rfl,rfl,rfl,rfl,rfl,trivial⟩ ⟨rfl,rfl,rfl,trivial⟩)))
 · first|exact bN hb34|(
 have hLn:=Zj5 (c:=c) h hl (show a.moves.length≤k8 by omega);refine nav ?_;(refine ZZ (fun i=>([]:List Nat).elem i) [3] kR ?_<;>(refine yD 0 57 rfl (Zs 3 Zf) fun v57 h=>?_;cases h)<;>refine xE 1 58 rfl Zb ?_<;>(refine Zp 2 kR ?_)<;>(refine Zm rfl fun w9 M9 N9 DQ back=>?_)<;>(refine Zu (En.freeze (l:=29) (t:=58) rfl rfl) fun _=>?_;rw [show share (.own 4 1 a.n.toNat (vec a.n.toNat fun i=>ZN (SP a l c k8 i)))=Zfl a.n.toNat (SP a l c k8) by rw [share,Yr,HV];rfl];refine cO 59 (cA call115 (D7 a.n.toNat (SP a l c k8) oM)) fun v59 ho59=>?_;refine Zu (En.freeze (l:=59) (t:=59) rfl rfl) fun _=>?_;rw [ZV _ _ _ rfl])<;>refine Zj (back _ (nrm ?_))<;>(refine Zp 3 kR ?_)<;>(refine Zm rfl fun w9 M9 N9 DQ back=>?_)<;>(refine cO 60 (cA call70 (ZcW a (Yh a.n.toNat (SP a l c k8)) h (fun s hs=>by have:=JI.1 hs;omega))) fun v60 ho60=>?_)<;>refine Zj (back _ (nrm ?_))<;>refine xE 4 6 rfl Za ?_<;>refine YC kR (nav ?_)<;>try dsimp only)
 refine Kk 60 (results71) rfl rfl ?_;rw [hLn]))
theorem Zfs (a:Aut) (l:List Int):AF prog 72 [ZJ a,pInts l] (· =ZN (WS a l)):=by
 refine AF.of_body 19 func72 rfl ntmps72 (Xa rfl) ?_
 intro w0 M0 vs hl hv
 obtain ⟨v0,v1,rfl⟩:=YX hl
 clear hl hv
 refine Wm 1 rfl fun hlen=>?_
 refine Ze ?_
 (refine ZB 2 5 fun h2=>?_<;>refine xL 4 Za ?_<;>refine Zk ?_)
 (refine xL 5 Za ?_<;>refine Zc ?_)
 refine ZE (ι:={k:Nat//k≤l.length∧∀j x,j<k→l[j]? =some x→JS a x=false}) (fun k=>⟨[(1,_,_),(2,_,_),(5, .int .i64 k.1,pInt k.1)],[(2,_,_)]⟩) (fun k=>l.length-k.1) ⟨0,oM,oM⟩ (fun a w H=>H.weaken ⟨rfl,rfl,rfl,trivial⟩ ⟨rfl,trivial⟩) ?_
 rintro ⟨k,hk,hp⟩
 dsimp only
 refine Ze ?_
 (refine xL 6 Zb (xL 7 Zb (xL 8 (ZW Zr) (xL 9 ZQ ?_)))<;>refine Zc ?_)
 refine cX ?_ ?_<;>intro hb9
 · first | exact bN hb9|(
 obtain ⟨x,hx⟩:=Zw (show k<l.length by omega);have e1:=Yb (f:=pInt) hx;refine nav ?_;(refine ZZ (fun i=>([]:List Nat).elem i) [2] kR ?_<;>refine xD 0 12 rfl (Zd 2 Z2) ?_<;>(refine yD 1 13 rfl (Zl 2 Zy) fun v13 h=>?_;cases h)<;>refine xD 2 14 rfl Zb ?_<;>refine xE 3 15 rfl Zb ?_<;>refine xE 4 16 rfl (ZH Zr) ?_<;>(refine yE 5 17 rfl (Ya Zg) fun v17 h=>?_;cases h)<;>(refine Zp 6 kR ?_)<;>(refine Zm rfl fun w9 M9 N9 DQ back=>?_)<;>(refine cS 18 (cA call116 (TA a.fin x)) fun v18 h=>?_;cases h)<;>refine Zj (back _ (nrm ?_))<;>refine YC kR (nav ?_)<;>try dsimp only)
 refine cX ?_ ?_<;>intro hb18
 · first|exact bN hb18|(
 refine Ze ?_;(refine xL 4 Za ?_<;>refine Zc ?_)
 refine ZA (results72) rfl ?_;rw [show WS a l=true from Uc.2 ⟨x,Xc hx,hb18⟩])
 · first |exact bN hb18|(
 refine Ze ?_;(refine xL 10 Zb (xL 11 ZK (xL 5 Za ?_))<;>refine Zc ?_)
 refine Zn (
  ⟨k +1,oM,fun j z hj hz=>by
   by_cases e:j=k
   · subst e;rw [hx] at hz;cases hz;show LP a.fin x=false;simpa using hb18
   · exact hp j z oM hz⟩
  ) (by dsimp only;omega) ⟨rfl,rfl,rfl,trivial⟩ ⟨rfl,trivial⟩))
 · first|exact bN hb9|(
 refine Ze ?_;(refine xL 4 Za ?_<;>refine Zc ?_)
 refine ZA (results72) rfl ?_;rw [show WS a l=false by
  unfold WS;rw [List.any_eq_false];intro z hz;obtain ⟨j,hj⟩:=XU hz;rw [hp j z (by have:=Zh hj;omega) hj];simp])
theorem EN {n:Nat} {L:List Nat} (h:L.Nodup) (hl:∀s∈L,s<n):L.length≤n:=by
 have:=nodup_len n (L.map fun x:Nat=>(x:Int)) (V8.2 (h.imp fun h1 h2=>h1 oM)) fun s hs=>by
  obtain ⟨x,hx,rfl⟩:=Xl.1 hs;have:=hl x hx;omega
 simpa using this
structure Tab where
 m:Nat
 rows:List (List Nat)
 fin:List Bool
structure TOk (t:Tab):Prop where
 fl:t.fin.length=t.rows.length
 rl:∀r∈t.rows,r.length=t.m
 to:∀r∈t.rows,∀x∈r,x<t.rows.length
 pos:0<t.rows.length
 n1:t.rows.length≤2000
 m1:t.m≤40
def W0 (a:Aut):Srch (List Int) (List Int):=⟨id,2000,a.syms.toNat,fun _ l s=>YO a (s:Nat) l⟩
def Jc (a:Aut):Option Tab:=((W0 a).all (Y3 a a.start)).map fun q=>⟨a.syms.toNat,q.2,q.1.map (WS a)⟩
def SetOk (a:Aut) (l:List Int):Prop:=InS a l∧Srt l
theorem SetOk.len {a:Aut} (h:AOk a) {l:List Int} (hl:SetOk a l):l.length≤2000:=by
 have h4:=nodup_len a.n.toNat l (hl.2.imp fun h=>oM) fun s hs=>by
  have:=hl.1 s hs;have:=h.n0;omega
 have:=h.n1
 omega
theorem SQ {a:Aut} (h:AOk a) (c:Int) (l:List Int):SetOk a (YO a c l):=⟨TZ h.mi c l,KF h.mi (KC h.mi c l)⟩
theorem O5 {a:Aut} (h:AOk a):SetOk a (Y3 a a.start):=⟨SJ h.mi h.st,KF h.mi h.st⟩
theorem EO {a:Aut} (h:AOk a) {i:Nat} {o:List (List Int)} {rows:List (List Nat)} (hu:(W0 a).upto (Y3 a a.start) i=some (o,rows)):(W0 a).Ok (SetOk a) (Y3 a a.start) o rows∧(i≤o.length→rows.length=i)∧(o.length≤i→rows.length=o.length):=
 Srch.ok (P:=SetOk a) (show 1≤2000 by decide) (O5 h) (fun _ _ s _ _=>SQ h s _) hu
theorem HW {a:Aut} (h:AOk a) {t:Tab} (ht:Jc a=some t):TOk t:=by
 unfold Jc at ht
 obtain ⟨⟨o,rows⟩,h1,rfl⟩:=XB.1 ht
 obtain ⟨h2,h3,h4⟩:=EO h h1
 have hcap:o.length≤2000:=h2.cap
 have h5:=h4 hcap
 have hp:=h2.pos
 have hs:=h.s1
 refine ⟨by simp [h5],h2.len,fun r hr x hx=>?_,by dsimp only;omega,by dsimp only;omega,by dsimp only;omega⟩
 obtain ⟨i,hi⟩:=XU hr
 obtain ⟨t,ht⟩:=XU hx
 dsimp only at hi
 obtain ⟨y,hy⟩:=Zw (show i<o.length by have:=Zh hi;omega)
 have:=(h2.to i y r t x hy hi ht).1
 dsimp only;omega
section
variable {κ:Type} [DecidableEq κ]
def YL (k:Nat→κ):Nat→List κ
 |0=>[]
 |s+1=>if k s∈YL k s then YL k s else YL k s++[k s]
theorem Zj6 (k:Nat→κ) (s:Nat):YL k s<+:YL k (s+1):=by
 rw [YL];split
 · exact Vy _
 · exact Ur _ _
theorem ζK (k:Nat→κ) (s:Nat):∀t,YL k s<+:YL k (s+t)
 |0=>Vy _
 |t+1=>(ζK k s t).trans (Zj6 k (s+t))
theorem SR (k:Nat→κ):∀s,(YL k s).length≤s
 |0=>Xh _
 | s+1=>by
   have:=SR k s;rw [YL];split
   · omega
   · rw [Xb,Xy];omega
theorem J4 {k:Nat→κ}:∀{s:Nat} {x:κ},x∈YL k s↔∃i,i<s∧k i=x
 |0,x=>by simp [YL]
 | s + 1,x=>by
   have ih:=J4 (k:=k) (s:=s) (x:=x);rw [YL];split
   · rename_i h;rw [ih];constructor
     · rintro ⟨i,h1,h2⟩;exact ⟨i,oM,h2⟩
     · rintro ⟨i,h1,h2⟩;by_cases e:i=s
       · subst e;subst h2;exact ih.1 h
       · exact ⟨i,oM,h2⟩
   · rw [Xq,ih,Xi];constructor
     · rintro (⟨i,h1,h2⟩|h)
       · exact ⟨i,oM,h2⟩
       · exact ⟨s,oM,h.symm⟩
     · rintro ⟨i,h1,h2⟩;by_cases e:i=s
       · subst e;exact .inr h2.symm
       · exact .inl ⟨i,oM,h2⟩
theorem Zbc (k:Nat→κ):∀s,(YL k s).Nodup
 |0=>Vc
 | s +1=>by
   rw [YL];split
   · exact Zbc k s
   · rename_i h;rw [VE];exact ⟨Zbc k s,sM,fun a ha b hb e=>h (by rw [Xi.1 hb] at e;rw [←e];exact ha)⟩
theorem HX {l:List κ} {x:κ}:posK id l x<l.length↔x∈l:=by
 rw [Rv]
 constructor
 · rintro ⟨y,h1,rfl⟩;exact h1
 · exact fun h=>⟨x,h,rfl⟩
theorem EP {k:Nat→κ} {s:Nat} (h:posK id (YL k s) (k s)<(YL k s).length):YL k (s+1)=YL k s:=by rw [YL,UU (HX.1 h)]
theorem EQ {k:Nat→κ} {s:Nat} (h:¬posK id (YL k s) (k s)<(YL k s).length):YL k (s+1)=YL k s++[k s]:=by rw [YL,UT fun h1=>h (HX.2 h1)]
theorem SS {k:Nat→κ} {s n:Nat} (h:s<n):posK id (YL k n) (k s)=posK id (YL k (s+1)) (k s)∧posK id (YL k n) (k s)<(YL k n).length:=by
 have h1:k s∈YL k (s+1):=J4.2 ⟨s,oM,rfl⟩
 have h2:=ζK k (s+1) (n-(s+1))
 rw [show s+1+(n-(s+1))=n by omega] at h2
 obtain ⟨e,he⟩:=h2
 exact ⟨by rw [←he,SF e (HX.2 h1)],HX.2 (J4.2 ⟨s,h,rfl⟩)⟩
end
def Yu (rows:List (List Nat)) (c:Nat→Nat) (s:Nat):List Nat:=c s::((rows[s]?).getD []).map c
def KP (rows:List (List Nat)) (c:Nat→Nat) (s:Nat):Nat:=posK id (YL (Yu rows c) rows.length) (Yu rows c s)
def T3 (rows:List (List Nat)) (c:Nat→Nat):Nat:=(YL (Yu rows c) rows.length).length
def TB (rows:List (List Nat)):Nat→(Nat→Nat)→Nat→(Nat→Nat)
 |0,c,_=>c
 |f+1,c,k=>if T3 rows c=k then KP rows c else TB rows f (KP rows c) (T3 rows c)
def LQ (fin:List Bool) (s:Nat):Nat:=if (fin[s]?).getD false then 1 else 0
def YD (t:Tab):Nat→Nat:=TB t.rows (t.rows.length+2) (LQ t.fin) 0
structure COk (n:Nat) (c:Nat→Nat) (k:Nat):Prop where
 hit:∀v,v<k→∃s,s<n∧c s=v
 le:k≤n
 bd:∀s,s<n→c s≤n
theorem COk.start (fin:List Bool) (n:Nat):COk n (LQ fin) 0:=⟨fun v h=>oM,Xd _,fun s h=>by unfold LQ;split<;>omega⟩
theorem COk.grow {rows:List (List Nat)} {c:Nat→Nat} {k:Nat} (h:COk rows.length c k):k≤T3 rows c:=by
 have h1:∀v,v<k→v∈(YL (Yu rows c) rows.length).map fun l=>l.headD 0:=fun v hv=>by
  obtain ⟨s,hs,rfl⟩:=h.hit v hv;exact Xl.2 ⟨Yu rows c s,J4.2 ⟨s,hs,rfl⟩,rfl⟩
 have h2:∀(n:Nat) (L:List Nat),(∀v,v<n→v∈L)→n≤L.length:=fun n=>by
  induction n with
  |zero=>exact fun _ _=>Xd _
  | succ n ih=>
    intro L hL;have h3:=ih (L.erase n) fun v hv=>(List.mem_erase_of_ne oM).2 (hL v oM);rw [UP (hL n oM)] at h3;have:=List.length_pos_of_mem (hL n oM);omega
 have:=h2 k _ h1
 rwa [Xe] at this
theorem COk.next {rows:List (List Nat)} {c:Nat→Nat} {k:Nat} (h:COk rows.length c k):COk rows.length (KP rows c) (T3 rows c):=by
 have hl:=SR (Yu rows c) rows.length
 refine ⟨fun v hv=>?_,hl,fun s hs=>?_⟩
 · obtain ⟨x,hx⟩:=Zw hv;obtain ⟨s,hs,rfl⟩:=J4.1 (Xc hx);refine ⟨s,hs,?_⟩;have hn:((YL (Yu rows c) rows.length).map id).Nodup:=by rw [List.map_id];exact Zbc _ _
   exact Lo hn hx
 · have:=(SS (k:=Yu rows c) hs).2;show posK _ _ _≤_;omega
theorem Zj7 {rows:List (List Nat)} {c:Nat→Nat} {s:Nat} (hs:s<rows.length):KP rows c s<T3 rows c:=(SS (k:=Yu rows c) hs).2
def toT (t:Tab) (x s:Nat):Nat:=((((t.rows[x]?).getD [])[s]?).getD 0)
def minW (t:Tab):Srch Nat Nat:=⟨YD t,t.rows.length,t.m,fun _ x s=>toT t x s⟩
theorem Pv {t:Tab} {x s n:Nat} {r:List Nat} (h:t.rows[x]? =some r) (h2:r[s]? =some n):toT t x s=n:=by
 unfold toT;rw [h];show ((r[s]?).getD 0)=n;rw [h2];rfl
theorem KJ {t:Tab} (h:TOk t) {x s:Nat}:toT t x s<t.rows.length:=by
 unfold toT
 cases h1:t.rows[x]? with
 |none=>simpa using h.pos
 | some r=>
   show ((r[s]?).getD 0)<_
   cases h2:r[s]? with
   |none=>simpa using h.pos
   |some n=>exact h.to r (Xc h1) n (Xc h2)
theorem T4 {α β:Type} {f:α→β}:∀{l:List α},(l.map f).Nodup→l.Nodup
 |[],_=>Vc
 | x::l,h=>by
   rw [Xx,Vf] at h;exact Vf.2 ⟨fun h1=>h.1 (List.mem_map_of_mem h1),T4 h.2⟩
theorem Ry {t:Tab} (h:TOk t) {o:List Nat} (hm:(minW t).Met (· <t.rows.length) 0 o) {x:Nat} (hx:x<t.rows.length) (hn:¬posK (minW t).key o ((minW t).key x)<o.length):o.length<t.rows.length:=by
 have h1:(o++[x]).Nodup:=by
  rw [VE];refine ⟨T4 hm.nd,sM,fun a ha b hb e=>hn (Rv.2 ⟨x,?_,rfl⟩)⟩;rw [Xi.1 hb] at e;rw [←e];exact ha
 have:=EN h1 fun s hs=>by
  rcases Xq.1 hs with hs|hs
  · exact hm.p s hs
  · rw [Xi.1 hs];exact hx
 rw [Xb,Xy] at this
 omega
theorem Zgt {t:Tab} (h:TOk t) {i x:Nat} {o:List Nat} (hm:(minW t).Met (· <t.rows.length) 0 o):∀s,s≤t.m→∃q,(minW t).row i x o s=some q
 |0,_=>⟨_,rfl⟩
 | s+1,hs=>by
   obtain ⟨⟨o1,r1⟩,h1⟩:=Zgt h hm s oM;obtain ⟨h2,_⟩:=hm.row (fun s _=>KJ h) (show s≤(minW t).m from (by show s≤t.m;omega)) h1;by_cases hp:posK (minW t).key o1 ((minW t).key ((minW t).step i x s))<o1.length
   · exact ⟨_,Srch.row_snoc h1 (Wb hp)⟩
   · exact ⟨_,Srch.row_snoc h1 (Wc hp (Ry h h2 (KJ h) hp))⟩
theorem Zbd {t:Tab} (h:TOk t) {i:Nat} {o:List Nat} {rows:List (List Nat)} (hu:(minW t).upto 0 i=some (o,rows)):(minW t).Ok (· <t.rows.length) 0 o rows∧(i≤o.length→rows.length=i)∧(o.length≤i→rows.length=o.length):=
 Srch.ok (W:=minW t) (P:=(· <t.rows.length)) h.pos h.pos (fun _ _ s _ _=>KJ h) hu
theorem ZcZ {t:Tab} (h:TOk t):∀i,∃q,(minW t).upto 0 i=some q
 |0=>⟨_,rfl⟩
 | i +1=>by
   obtain ⟨⟨o,rows⟩,h1⟩:=ZcZ h i
   cases hx:o[i]? with
   |none=>exact ⟨_,Srch.upto_stop h1 (Un.1 hx) 1⟩
   | some x=>
     obtain ⟨⟨o',r⟩,h2⟩:=Zgt h (i:=i) (x:=x) (Zbd h h1).1.toMet t.m (Xh _);exact ⟨_,Srch.upto_snoc h1 hx h2⟩
theorem Zms {t:Tab} (h:TOk t):∃q,(minW t).all 0=some q:=ZcZ h _
def Yq (i:Nat) (r:List Nat):List Mv:=r.zipIdx.map fun p=>⟨(i:Nat),(p.1:Nat),(p.2:Nat)⟩
def Z4 (rows:List (List Nat)):List Mv:=rows.zipIdx.flatMap fun p=>Yq p.2 p.1
theorem Kx (i:Nat) (r:List Nat) (n:Nat):Yq i (r++[n])=Yq i r++[⟨(i:Nat),(n:Nat),(r.length:Nat)⟩]:=by
 unfold Yq;rw [List.zipIdx_append,Xs];simp
theorem JJ (i:Nat) (r:List Nat):(Yq i r).length=r.length:=by unfold Yq;simp
theorem SU (rows:List (List Nat)) (r:List Nat):Z4 (rows++[r])=Z4 rows++Yq rows.length r:=by
 unfold Z4;rw [List.zipIdx_append,XM];simp
theorem Pw {m:Nat}:∀(rows:List (List Nat)),(∀r∈rows,r.length=m)→(Z4 rows).length=rows.length*m:=by
 intro rows
 have key:∀(L:List (List Nat)) (k:Nat),(∀r∈L,r.length=m)→((L.zipIdx k).flatMap fun p=>Yq p.2 p.1).length=L.length*m:=by
  intro L;induction L with
  |nil=>intro k _;simp
  | cons r L ih=>
    intro k h;rw [VY,Xz,Xb,ih (k+1) (fun r hr=>h r (Xo _ hr)),JJ,h r (Xm ..),Xk,X6];omega
 exact key rows 0
def JK (t:Tab) (o:List Nat) (i:Nat):Bool:=(t.fin[(o[i]?).getD 0]?).getD false
def WI (t:Tab) (q:List Nat×List (List Nat)):Aut:=⟨(q.1.length:Nat),(t.m:Nat),[0],Yh q.1.length (JK t q.1),Z4 q.2⟩
def Wp (t:Tab):Option Aut:=((minW t).all 0).bind fun q=>if 20000<(Z4 q.2).length then none else some (WI t q)
def KR:PV:= .agg [pInt 0,pInt 0, .val (.slice none 0 0), .val (.slice none 0 0), .val (.slice none 0 0)]
def resW:Except Int Aut→PV
 | .ok a=> .tup [ZJ a,pInt 0]
 | .error e=> .tup [KR,pInt e]
def lim (x:Option Aut):Except Int Aut:=match x with
 |some a=> .ok a
 |none=> .error 13
def WV (a:Aut):Except Int Aut:=match Jc a with
 |some t=>lim (Wp t)
 |none=> .error 13
def Ji (a:Aut):Except Int Aut:=if Z1 a then WV a else .error 1
def Zj8 (l:List UInt8):Nat:=l.foldl (fun v b=>v*10+(b.toNat-48)) 0
theorem ZhR (l:List UInt8) (b:UInt8):Zj8 (l++[b])=Zj8 l*10+(b.toNat-48):=by unfold Zj8;rw [VH];rfl
theorem Zbe {u:Nat} (h:u<10):(UInt8.ofNat (48+u)).toNat=48+u:=by
 rw [UInt8.toNat_ofNat'];omega
theorem Zc0 (u:Nat):Zj8 (Lib.decDigits u)=u:=by
 induction u using Nat.strongRecOn with
 | _ u ih=>
   rw [Lib.decDigits];split
   · rename_i h;show 0*10+((UInt8.ofNat (48+u)).toNat-48)=u;rw [Zbe h];omega
   · rw [ZhR,ih (u / 10) oM,Zbe oM];omega
theorem Zj9 (u:Nat):∀b∈Lib.decDigits u,b≠32:=by
 induction u using Nat.strongRecOn with
 | _ u ih=>
   have key:∀v:Nat,v<10→UInt8.ofNat (48+v)≠32:=fun v hv e=>by
    have:=congrArg UInt8.toNat e;rw [Zbe hv] at this;have h32:(32:UInt8).toNat=32:=rfl;omega
   rw [Lib.decDigits];split
   · rename_i h;intro b hb;rw [Xi.1 hb];exact key u h
   · intro b hb;rcases Xq.1 hb with hb|hb
     · exact ih (u / 10) oM b hb
     · rw [Xi.1 hb];exact key _ oM
theorem Zc1:∀{a b c d:List UInt8},(∀x∈a,x≠32)→(∀x∈b,x≠32)→a++32::c=b++32::d→a=b∧c=d
 |[],[],c,d,_,_,h=>⟨rfl,(List.cons.inj h).2⟩
 |[],y::b,c,d,_,hb,h=>UV (List.cons.inj h).1.symm (hb y (Xm ..))
 |x::a,[],c,d,ha,_,h=>UV (List.cons.inj h).1 (ha x (Xm ..))
 | x::a,y::b,c,d,ha,hb,h=>by
   obtain ⟨h1,h2⟩:=List.cons.inj h;obtain ⟨h3,h4⟩:=Zc1 (fun z hz=>ha z (Xo _ hz)) (fun z hz=>hb z (Xo _ hz)) h2;exact ⟨by rw [h1,h3],h4⟩
def GV (l:List Int):List UInt8:=l.flatMap fun s=>Lib.itoa s++[32]
def TC (l:List Int):ByteArray:=⟨(GV l).toArray⟩
theorem Zc2:∀{l m:List Int},(∀x∈l,0≤x)→(∀x∈m,0≤x)→GV l=GV m→l=m
 |[],[],_,_,_=>rfl
 | [],y::m,_,_,h=>by
   have:=congrArg List.length h;simp only [GV,Xz,XJ,Xb,Xk,XC] at this;omega
 | x::l,[],_,_,h=>by
   have:=congrArg List.length h;simp only [GV,Xz,XJ,Xb,Xk,XC] at this;omega
 | x ::l,y::m,hl,hm,h=>by
   have hx:=hl x (Xm ..);have hy:=hm y (Xm ..);have e1:Lib.itoa x=Lib.decDigits x.toNat:=by unfold Lib.itoa;rw [UT oM]
   have e2:Lib.itoa y=Lib.decDigits y.toNat:=by unfold Lib.itoa;rw [UT oM]
   have h':Lib.decDigits x.toNat++32::GV l=Lib.decDigits y.toNat++32::GV m:=by
    have:GV (x::l)=Lib.itoa x++[32]++GV l:=rfl;rw [this,show GV (y::m)=Lib.itoa y++[32]++GV m from rfl,e1,e2] at h;simpa using h
   obtain ⟨h1,h2⟩:=Zc1 (Zj9 _) (Zj9 _) h';have h3:=congrArg Zj8 h1;rw [Zc0,Zc0] at h3;rw [Zc2 (fun z hz=>hl z (Xo _ hz)) (fun z hz=>hm z (Xo _ hz)) h2,show x=y by omega]
theorem Zka {l m:List UInt8} (h:(⟨l.toArray⟩:ByteArray)=⟨m.toArray⟩):l=m:=by
 have:=ByteArray.mk.inj h
 simpa using this
theorem Zc3 {l m:List Int} (hl:∀x∈l,0≤x) (hm:∀x∈m,0≤x):TC l=TC m↔l=m:=
 ⟨fun h=>Zc2 hl hm (Zka h),fun h=>by rw [h]⟩
def T5 (l:List Int):List UInt8:=l.flatMap fun x=>[UInt8.ofNat (x.toNat % 250+1),UInt8.ofNat (x.toNat / 250+1),0]
def Lu (l:List Int):ByteArray:=⟨(T5 l).toArray⟩
theorem Zc4:∀{l m:List Int},(∀x∈l,0≤x∧x≤2000)→(∀x∈m,0≤x∧x≤2000)→T5 l=T5 m→l=m
 |[],[],_,_,_=>rfl
 |[],y::m,_,_,h=>by simp [T5] at h
 |x::l,[],_,_,h=>by simp [T5] at h
 | x::l,y::m,hl,hm,h=>by
   have hx:=hl x (Xm ..);have hy:=hm y (Xm ..);have h':UInt8.ofNat (x.toNat % 250+1)::UInt8.ofNat (x.toNat / 250+1)::0::T5 l=UInt8.ofNat (y.toNat % 250+1)::UInt8.ofNat (y.toNat / 250+1)::0::T5 m:=h;obtain ⟨h1,h2⟩:=List.cons.inj h';obtain ⟨h3,h4⟩:=List.cons.inj h2;have h5:=(List.cons.inj h4).2;have h6:=congrArg UInt8.toNat h1;have h7:=congrArg UInt8.toNat h3;rw [UInt8.toNat_ofNat',UInt8.toNat_ofNat'] at h6 h7;rw [Zc4 (fun z hz=>hl z (Xo _ hz)) (fun z hz=>hm z (Xo _ hz)) h5,show x=y by omega]
theorem ER {l m:List Int} (hl:∀x∈l,0≤x∧x≤2000) (hm:∀x∈m,0≤x∧x≤2000):Lu l=Lu m↔l=m:=
 ⟨fun h=>Zc4 hl hm (Zka h),fun h=>by rw [h]⟩
def toI (l:List Nat):List Int:=l.map fun x:Nat=>(x:Int)
theorem Zbf {l m:List Nat}:toI l=toI m↔l=m:=by
 unfold toI
 constructor
 · intro h;have:=congrArg (List.map Int.toNat) h;simpa [XG,Function.comp_def] using this
 · intro h;rw [h]
def eqM (a b:Mv):Bool:=decide (a.src=b.src)&&decide (a.dst=b.dst)&&decide (a.sym=b.sym)
theorem Gy {a b:Mv}:eqM a b=true↔a=b:=by
 unfold eqM
 simp only [Xf,UQ]
 cases a;cases b
 simp only [Mv.mk.injEq,and_assoc]
theorem Lv (a:Mv):Kj a a=false:=by
 cases h:Kj a a with
 |false=>rfl
 |true=>have:=WU.1 h;omega
theorem T6 {a b c:Mv} (h1:Kj a b=true) (h2:Kj b c=true):Kj a c=true:=by
 rw [WU] at h1 h2 ⊢;omega
theorem Om {a b:Mv} (h1:Kj a b=false) (h2:Kj b a=false):a=b:=by
 have e1:¬Kj a b=true:=by rw [h1];simp
 have e2:¬Kj b a=true:=by rw [h2];simp
 rw [WU] at e1 e2
 rw [←Gy];unfold eqM
 simp only [Xf,UQ];omega
def AscM (l:List Mv):Prop:=l.Pairwise fun a b=>Kj a b=true
theorem SV:∀{l m:List Mv},AscM l→AscM m→(∀x,x∈l↔x∈m)→l=m
 |[],[],_,_,_=>rfl
 |[],y::m,_,_,h=>UV ((h y).2 (Xm ..)) sM
 |x::l,[],_,_,h=>UV ((h x).1 (Xm ..)) sM
 | x :: l,y::m,hl,hm,h=>by
   have hl':=XQ.1 hl;have hm':=XQ.1 hm;have hxy:x=y:=by
    rcases Xt.1 ((h x).1 (Xm ..)) with e|h1
    · exact e
    · rcases Xt.1 ((h y).2 (Xm ..)) with e|h2
      · exact e.symm
      · have h3:=T6 (hm'.1 x h1) (hl'.1 y h2);rw [Lv] at h3;cases h3
   subst hxy;congr 1;refine SV hl'.2 hm'.2 fun z=>⟨fun hz=>?_,fun hz=>?_⟩
   · rcases Xt.1 ((h z).1 (Xo _ hz)) with e|h1
     · have h3:=hl'.1 z hz;rw [e,Lv] at h3;cases h3
     · exact h1
   · rcases Xt.1 ((h z).2 (Xo _ hz)) with e|h1
     · have h3:=hm'.1 z hz;rw [e,Lv] at h3;cases h3
     · exact h1
def R2 (m:Mv):List Mv→List Mv
 |[]=>[m]
 |x::l=>if Kj m x then m::x::l else if eqM m x then x::l else x::R2 m l
theorem TD {m y:Mv}:∀{l:List Mv},y∈R2 m l↔y=m∨y∈l
 |[]=>by simp [R2]
 | x :: l =>by
   rw [R2];split
   · simp
   · split
     · rename_i h;rw [Gy] at h;subst h;simp
     · rw [Xt,TD,Xt];constructor
       · rintro (h|h|h)
         · exact .inr (.inl h)
         · exact .inl h
         · exact .inr (.inr h)
       · rintro (h|h|h)
         · exact .inr (.inl h)
         · exact .inl h
         · exact .inr (.inr h)
theorem SX {m:Mv}:∀{l:List Mv},AscM l→AscM (R2 m l)
 |[],_=>by simp [R2,AscM]
 | x :: l,h=>by
   have h':=XQ.1 h;rw [R2];split
   · rename_i hm;refine XQ.2 ⟨fun z hz=>?_,h⟩;rcases Xt.1 hz with rfl|hz
     · exact hm
     · exact T6 hm (h'.1 z hz)
   · rename_i hm;split
     · exact h
     · rename_i he;refine XQ.2 ⟨fun z hz=>?_,SX h'.2⟩;rcases TD.1 hz with rfl|hz
       · cases hxz:Kj x z with
         |true=>rfl
         |false=>exact UV (Gy.2 (Om (by simpa using hm) hxz)) he
       · exact h'.1 z hz
def mkM:List Mv→List Mv
 |[]=>[]
 |x::l=>R2 x (mkM l)
theorem Ke {y:Mv}:∀{l:List Mv},y∈mkM l↔y∈l
 |[]=>by simp [mkM]
 |x::l=>by rw [mkM,TD,Ke,Xt]
theorem Kl:∀l,AscM (mkM l)
 |[]=> .nil
 |x::l=>SX (Kl l)
theorem O6 {l m:List Mv} (hl:AscM l) (h:∀x,x∈l↔x∈m):l=mkM m:=SV hl (Kl m) fun x=>by rw [h,Ke]
theorem Zgu {l m:List Mv} (hl:AscM l) (h:∀x∈l,x∈m):l.length≤m.length:=by
 induction l generalizing m with
 |nil=>exact Xd _
 | cons x l ih=>
   have h':=XQ.1 hl;obtain ⟨a,b,rfl⟩:=List.append_of_mem (h x (Xm ..));have :=ih (m:=a++b) h'.2 fun y hy=>by
    rcases Xq.1 (h y (Xo _ hy)) with h1|h1
    · exact X1 _ h1
    · rcases Xt.1 h1 with rfl|h1
      · have:=h'.1 y hy;rw [Lv] at this;cases this
      · exact X7 _ h1
   simp only [Xb,Xk] at this ⊢;omega
theorem Gz (l:List Mv):(mkM l).length≤l.length:=Zgu (Kl l) fun x h=>Ke.1 h
def Hr (a:Aut):Except Int Aut:=if 2000<a.n∨20000<a.moves.length then .error 13 else WV a
def Jo (a:Aut):Except Int Aut:=Hr {a with moves:=mkM a.moves}
def K2 (a:Aut):Aut:=⟨a.n+1,a.syms,[a.n],[a.n],a.moves++(a.start.map fun s=>⟨a.n,s,-1⟩)++a.fin.map fun s=>⟨s,a.n,-1⟩⟩
def JL (a:Aut):Except Int Aut:=if Z1 a then Jo (K2 a) else .error 1
def stepA (A:Aut) (i s:Nat):Nat:=(((A.moves[i*A.syms.toNat+s]?).map Mv.dst).getD 0).toNat
def SY (op:Int) (x y:Bool):Bool:=if op=1 then x&&y else if op=2 then x||y else if op=3 then x&& !y else x !=y
def YP (A B:Aut):Srch ((Nat×Nat)×(Int×Int)) (Nat×Nat):=⟨Prod.fst,2000,A.syms.toNat,fun i x s=>((stepA A x.1.1 s,stepA B x.1.2 s),((i:Nat),(s:Nat)))⟩
def prodQ (A B:Aut):Option (List ((Nat×Nat)×(Int×Int))×List (List Nat)):=(YP A B).all ((0,0),(-1,-1))
def Y7 (A B:Aut) (op:Int) (x:(Nat×Nat)×(Int×Int)):Bool:=SY op (JS A (x.1.1:Nat)) (JS B (x.1.2:Nat))
def JM (A B:Aut) (op:Int) (q:List ((Nat×Nat)×(Int×Int))×List (List Nat)):Tab:=⟨A.syms.toNat,q.2,q.1.map (Y7 A B op)⟩
def Jf (a b:Aut):Except Int (Aut×Aut×List ((Nat×Nat)×(Int×Int))×List (List Nat)):=match WV a,WV b with
 | .ok A, .ok B=>match prodQ A B with
   |some q=> .ok (A,B,q)
   |none=> .error 13
 |_,_=> .error 13
def Wt (a b:Aut):Int:=if Z1 a=false∨Z1 b=false then 1 else if ¬a.syms=b.syms then 29 else 0
def SZ (par:List (Int×Int)):Nat→Nat→List Int
 |0,_=>[]
 | f+1,i=>match par[i]? with
   |some x=>if x.1<0 then [] else SZ par f x.1.toNat++[x.2]
   |none=>[]
def GW (A B:Aut) (op:Int) (q:List ((Nat×Nat)×(Int×Int))×List (List Nat)):Bool×List Int:=
 match (q.1.map (Y7 A B op)).idxOf? true with
 |some i=>(false,SZ (q.1.map (·.2)) (i+1) i)
 |none=>(true,[])
def cmpX (a b:Aut) (op:Int):Bool×List Int×Int:=if ¬Wt a b=0 then (false,[],Wt a b) else match Jf a b with
 | .ok (A,B,q)=>((GW A B op q).1,(GW A B op q).2,0)
 | .error e=>(false,[],e)
theorem Zc5 {t:Tab} {A:Aut} (h:Wp t=some A):∃o rows,(minW t).all 0=some (o,rows)∧A=WI t (o,rows)∧(Z4 rows).length≤20000:=by
 unfold Wp at h
 obtain ⟨⟨o,rows⟩,h1,h2⟩:=XX.1 h
 dsimp only at h2
 split at h2
 · cases h2
 · cases h2;exact ⟨o,rows,h1,rfl,oM⟩
structure Fin (t:Tab) (o:List Nat) (rows:List (List Nat)):Prop where
 ok:(minW t).Ok (· <t.rows.length) 0 o rows
 len:rows.length=o.length
 n1:o.length≤2000
 pos:0<o.length
theorem Px {t:Tab} (h:TOk t) {o:List Nat} {rows:List (List Nat)} (hu:(minW t).all 0=some (o,rows)):Fin t o rows:=by
 obtain ⟨h1,_,h3⟩:=Zbd h hu
 have hc:o.length≤t.rows.length:=h1.cap
 have:=h.n1
 exact ⟨h1,h3 hc,oM,h1.pos⟩
theorem ζL {i:Nat} {r:List Nat} {m:Mv} (h:m∈Yq i r):∃n s:Nat,r[s]? =some n∧m=⟨(i:Nat),(n:Nat),(s:Nat)⟩:=by
 unfold Yq at h
 obtain ⟨p,hp,rfl⟩:=Xl.1 h
 exact ⟨p.1,p.2,by have:=UH.1 hp;exact this,rfl⟩
theorem Py {rows:List (List Nat)} {m:Mv} (h:m∈Z4 rows):∃(i s n:Nat) (r:List Nat),rows[i]? =some r∧r[s]? =some n∧m=⟨(i:Nat),(n:Nat),(s:Nat)⟩:=by
 unfold Z4 at h
 obtain ⟨p,hp,hm⟩:=XP.1 h
 obtain ⟨n,s,h1,h2⟩:=ζL hm
 exact ⟨p.2,s,n,p.1,UH.1 hp,h1,h2⟩
theorem On {t:Tab} (ht:TOk t) {o:List Nat} {rows:List (List Nat)} (h:Fin t o rows) (hm:(Z4 rows).length≤20000):AOk (WI t (o,rows)):=by
 have hp:=h.pos
 have hn:=h.n1
 have hm1:=ht.m1
 have hll:=L5 o.length (JK t o)
 refine ⟨by show (0:Int)≤(o.length:Nat);omega,by show ((o.length:Nat):Int)≤2000;omega,by show (0:Int)≤(t.m:Nat);omega,by show ((t.m:Nat):Int)≤40;omega,hm,fun s hs=>?_,fun s hs=>?_,by show [(0:Int)].length≤2000;simp,by show (Yh o.length (JK t o)).length≤2000;omega,fun m hmm=>?_⟩
 · rw [show s=0 from Xi.1 hs];exact ⟨VU _,by show (0:Int)<(o.length:Nat);omega⟩
 · obtain ⟨h1,h2,_⟩:=JI.1 hs;exact ⟨h1,h2⟩
 · obtain ⟨i,s,n,r,h1,h2,rfl⟩:=Py hmm;have h3:i<rows.length:=Zh h1;have h4:=Zh h2;have h5:r.length=t.m:=h.ok.len r (Xc h1);obtain ⟨x,hx⟩:=Zw (show i<o.length by rw [←h.len];exact h3);have h6:=(h.ok.to i x r s n hx h1 h2).1;have h7:=h.len;refine ⟨by show (0:Int)≤(i:Nat);omega,by show ((i:Nat):Int)<(o.length:Nat);omega,by show (0:Int)≤(n:Nat);omega,by show ((n:Nat):Int)<(o.length:Nat);omega,by show (-1:Int)≤(s:Nat);omega,by show ((s:Nat):Int)<(t.m:Nat);omega⟩
theorem Zbg {a A:Aut} (h:AOk a) (hr:WV a= .ok A):∃t o rows,Jc a=some t∧TOk t∧(minW t).all 0=some (o,rows)∧Fin t o rows∧A=WI t (o,rows)∧(Z4 rows).length≤20000:=by
 unfold WV at hr
 split at hr
 · rename_i t ht
   cases hl:Wp t with
   |none=>rw [hl] at hr;cases hr
   | some B=>
     rw [hl] at hr;cases hr;obtain ⟨o,rows,h1,h2,h3⟩:=Zc5 hl;have hT:=HW h ht;exact ⟨t,o,rows,ht,hT,h1,Px hT h1,h2,h3⟩
 · cases hr
theorem Zmt {a A:Aut} (h:Ji a= .ok A):Z1 a=true∧WV a= .ok A:=by
 unfold Ji at h
 split at h
 · rename_i h1;exact ⟨h1,h⟩
 · cases h
def Rel2 {α β:Type} (R:α→β→Prop) (o:List α) (o':List β):Prop:=o.length=o'.length∧∀(i:Nat) (x:α) (y:β),o[i]? =some x→o'[i]? =some y→R x y
theorem Rel2.snoc {α β:Type} {R:α→β→Prop} {o:List α} {o':List β} {x:α} {y:β} (h:Rel2 R o o') (hr:R x y):Rel2 R (o++[x]) (o'++[y]):=by
 refine ⟨by rw [Xb,Xb,h.1];rfl,fun i a b ha hb=>?_⟩
 rw [V9] at ha hb
 have hl:=h.1
 split at ha
 · rename_i h1;rw [UU oM] at hb;exact h.2 i a b ha hb
 · rename_i h1;rw [UT oM] at hb;have h2:=Zh ha;simp only [Xy] at h2;have h3:i=o.length:=oM;rw [h3,VZ] at ha;rw [show i-o'.length=0 by omega] at hb;simp only [Vx,Option.some.injEq] at ha hb;rw [←ha,←hb];exact hr
section
variable {α β κ κ':Type} [DecidableEq κ] [DecidableEq κ']
theorem Zc6 {f:α→κ} {g:β→κ'} {k:κ} {k':κ'}:∀{o:List α} {o':List β},o.length=o'.length→(∀(i:Nat) (x:α) (y:β),o[i]? =some x→o'[i]? =some y→(f x=k↔g y=k'))→posK f o k=posK g o' k'
 |[],[],_,_=>rfl
 |[],_::_,h,_=>by simp at h
 |_::_,[],h,_=>by simp at h
 | x::o,y::o',h,hk=>by
   have h0:=hk 0 x y rfl rfl;have ih:=Zc6 (f:=f) (g:=g) (k:=k) (k':=k') (o:=o) (o':=o') (by simpa using h) fun i a b ha hb=>hk (i+1) a b (by simpa using ha) (by simpa using hb);rw [posK,posK,ih];by_cases e:f x=k
   · rw [UU e,UU (h0.1 e)]
   · rw [UT e,UT fun e2=>e (h0.2 e2)]
variable {W:Srch α κ} {W':Srch β κ'} {R:α→β→Prop}
theorem Srch.sim_row (hc:W.cap≤W'.cap) (hk:∀x x' y y',R x y→R x' y'→(W.key x=W.key x'↔W'.key y=W'.key y')) (hs:∀i x y s,R x y→s<W.m→R (W.step i x s) (W'.step i y s)) {i:Nat} {x:α} {y:β} (hxy:R x y) {o:List α} {o':List β} (ho:Rel2 R o o'):
 ∀{s:Nat} {p:List α} {r:List Nat},s≤W.m→W.row i x o s=some (p,r)→∃p',W'.row i y o' s=some (p',r)∧Rel2 R p p'
 | 0,p,r,_,h=>by
   rw [Srch.row] at h;cases h;exact ⟨o',rfl,ho⟩
 | s + 1,p,r,hsm,h=>by
   rw [Srch.row,XX] at h;obtain ⟨⟨p1,r1⟩,h1,h2⟩:=h;obtain ⟨⟨p2,n⟩,h3,h4⟩:=XB.1 h2
   cases h4;dsimp only at h3 ⊢;obtain ⟨p1',h5,h6⟩:=Srch.sim_row hc hk hs hxy ho oM h1;have hst:=hs i x y s hxy oM;have hpos:posK W.key p1 (W.key (W.step i x s))=posK W'.key p1' (W'.key (W'.step i y s)):=Zc6 h6.1 fun j a b ha hb=>hk a _ b _ (h6.2 j a b ha hb) hst;by_cases hp:posK W.key p1 (W.key (W.step i x s))<p1.length
   · rw [Wb hp] at h3;cases h3;(have hp':posK W'.key p1' (W'.key (W'.step i y s))<p1'.length:=by rw [←hpos,←h6.1];exact hp);exact ⟨p1',by rw [Srch.row_snoc h5 (Wb hp'),hpos],h6⟩
   · (have hp':¬posK W'.key p1' (W'.key (W'.step i y s))<p1'.length:=by rw [←hpos,←h6.1];exact hp);by_cases hcap:p1.length<W.cap
     · rw [Wc hp hcap] at h3;cases h3;exact ⟨p1'++[W'.step i y s],by rw [Srch.row_snoc h5 (Wc hp' (by have:=h6.1;omega)),h6.1],h6.snoc hst⟩
     · rw [SG hp oM] at h3;cases h3
theorem Srch.sim (hm:W.m=W'.m) (hc:W.cap≤W'.cap) (hk:∀x x' y y',R x y→R x' y'→(W.key x=W.key x'↔W'.key y=W'.key y')) (hs:∀i x y s,R x y→s<W.m→R (W.step i x s) (W'.step i y s)) {x0:α} {y0:β} (h0:R x0 y0):
 ∀{i:Nat} {o:List α} {rows:List (List Nat)},W.upto x0 i=some (o,rows)→∃o',W'.upto y0 i=some (o',rows)∧Rel2 R o o'
 | 0,o,rows,h=>by
   rw [Srch.upto] at h;cases h;refine ⟨[y0],rfl,rfl,fun i x y hx hy=>?_⟩;match i with
   |0=>simp at hx hy;subst hx hy;exact h0
   |i+1=>simp at hx
 | i +1,o,rows,h=>by
   rw [Srch.upto,XX] at h;obtain ⟨⟨o1,rows1⟩,h1,h2⟩:=h;obtain ⟨o1',h3,h4⟩:=Srch.sim hm hc hk hs h0 h1;dsimp only at h2
   cases hx:o1[i]? with
   | none=>
     rw [hx] at h2;cases h2;have h5:=Un.1 hx;exact ⟨o1',Srch.upto_stop h3 (by dsimp only;have:=h4.1;omega) 1,h4⟩
   | some x=>
     rw [hx] at h2;obtain ⟨⟨o2,r⟩,h5,h6⟩:=XB.1 h2
     cases h6;have hil:=Zh hx;obtain ⟨y,hy⟩:=Zw (show i<o1'.length by have:=h4.1;omega);obtain ⟨p',h7,h8⟩:=Srch.sim_row hc hk hs (h4.2 i x y hx hy) h4 (Xh _) h5;rw [hm] at h7;exact ⟨p',Srch.upto_snoc h3 hy h7,h8⟩
end
section
variable {κ κ':Type} [DecidableEq κ] [DecidableEq κ']
end
theorem Zor {t:Tab} {o:List Nat} {rows:List (List Nat)} {i:Nat} (hi:i<o.length):JS (WI t (o,rows)) (i:Nat)=JK t o i:=by
 rw [V6]
 have:JS (WI t (o,rows)) (i:Nat)=true↔((i:Nat):Int)∈Yh o.length (JK t o):=by
  show LP (Yh o.length (JK t o)) (i:Nat)=true↔_;exact Jm
 rw [this,JI,XS]
 constructor
 · exact fun h=>h.2.2
 · exact fun h=>⟨oM,oM,h⟩
theorem S0 {f g:Nat→Bool}:∀n:Nat,(∀i,i<n→f i=g i)→Yh n f=Yh n g
 |0,_=>rfl
 |n+1,h=>by rw [WL,WL,S0 n fun i hi=>h i oM,h n oM]
structure PreA (a:Aut):Prop where
 n0:0≤a.n
 s0:0≤a.syms
 s1:a.syms≤40
 st:InS a a.start
 fi:InS a a.fin
 sn:a.start.Nodup
 fn:a.fin.Nodup
 mv:∀m∈a.moves,0≤m.src∧m.src<a.n∧0≤m.dst∧m.dst<a.n∧-1≤m.sym∧m.sym<a.syms
def mkA (a:Aut):Aut:={a with moves:=mkM a.moves}
theorem PreA.aok {a:Aut} (h:PreA a) (hb:¬(2000<(mkA a).n∨20000<(mkA a).moves.length)):AOk (mkA a):=by
 have hn:¬2000<a.n:=fun h=>hb (.inl h)
 have hl:∀{l:List Int},l.Nodup→InS a l→l.length≤2000:=fun {l} h1 h2=>by
  have:=nodup_len a.n.toNat l h1 fun s hs=>by have:=h2 s hs;have:=h.n0;omega
  omega
 exact ⟨h.n0,by show a.n≤2000;omega,h.s0,h.s1,by have:=hb;omega,h.st,h.fi,hl h.sn h.st,hl h.fn h.fi,fun m hm=>h.mv m (Ke.1 hm)⟩
theorem Zc7 {n:Int} {l:List Int} (h:LO n l=true):Srt l:=by
 unfold LO at h
 rw [Xf] at h
 have:=h.2
 clear h
 induction l with
 |nil=>exact .nil
 | cons x l ih=>
   cases l with
   |nil=>exact Vq ..
   | cons y l=>
     rw [WC,Xf] at this;have h1:=ih this.2;(have hxy:x<y:=by have:=this.1;unfold ltI at this;simpa using this);refine XQ.2 ⟨fun z hz=>?_,h1⟩;rcases Xt.1 hz with rfl|hz
     · exact hxy
     · exact Int.lt_trans hxy ((XQ.1 h1).1 z hz)
theorem ζM:∀{l:List Mv},WC Kj l=true→AscM l
 |[],_=> .nil
 |[x],_=>Vq ..
 | x::y::l,h=>by
   rw [WC,Xf] at h;have h1:=ζM h.2;refine XQ.2 ⟨fun z hz=>?_,h1⟩;rcases Xt.1 hz with rfl|hz
   · exact h.1
   · exact T6 h.1 ((XQ.1 h1).1 z hz)
theorem W6 {l:List Int} (h:Srt l):l.Nodup:=h.imp fun h=>oM
structure VOk (a:Aut):Prop extends AOk a where
 ss:Srt a.start
 fs:Srt a.fin
 ms:AscM a.moves
theorem W3 {a:Aut} (h:Z1 a=true):VOk a:=by
 have h':=h
 unfold Z1 at h'
 simp only [Xf,UQ] at h'
 obtain ⟨⟨⟨⟨⟨⟨⟨⟨_,_⟩,_⟩,_⟩,_⟩,h6⟩,h7⟩,_⟩,h9⟩:=h'
 exact ⟨Kp h,Zc7 h6,Zc7 h7,ζM h9⟩
theorem Lw {l:List Mv} (h:AscM l):l.Nodup:=h.imp fun {a b} h1 e=>by rw [e,Lv] at h1;cases h1
theorem Gi {α β:Type} {f:α→β} {l:List α} (h:l.Nodup) (hf:∀x∈l,∀y∈l,f x=f y→x=y):(l.map f).Nodup:=by
 induction l with
 |nil=>exact Vc
 | cons x l ih=>
   rw [Vf] at h;rw [Xx,Vf];refine ⟨fun hm=>?_,ih h.2 fun y hy z hz=>hf y (Xo _ hy) z (Xo _ hz)⟩;obtain ⟨y,hy,e⟩:=Xl.1 hm;have:=hf y (Xo _ hy) x (Xm ..) e;rw [this] at hy;exact h.1 hy
theorem Oo {a:Aut} (h:VOk a):PreA (K2 a):=by
 have hn:=h.n0
 refine ⟨by show 0≤a.n+1;omega,h.s0,h.s1,fun s hs=>?_,fun s hs=>?_,by show [a.n].Nodup;simp,by show [a.n].Nodup;simp,fun m hm=>?_⟩
 · rw [show s=a.n from Xi.1 hs];exact ⟨hn,by show a.n<a.n+1;omega⟩
 · rw [show s=a.n from Xi.1 hs];exact ⟨hn,by show a.n<a.n+1;omega⟩
 · have hs:=h.s0;show 0≤m.src∧m.src<a.n+1∧0≤m.dst∧m.dst<a.n+1∧-1≤m.sym∧m.sym<a.syms;have hm':m∈a.moves++(a.start.map fun s=>(⟨a.n,s,-1⟩:Mv))++a.fin.map fun s=>(⟨s,a.n,-1⟩:Mv):=hm;rcases Xq.1 hm' with hm|hm
   · rcases Xq.1 hm with hm|hm
     · have:=h.mv m hm;omega
     · obtain ⟨s,hs,rfl⟩:=Xl.1 hm;have:=h.st s hs;dsimp only;omega
   · obtain ⟨s,hs,rfl⟩:=Xl.1 hm;have:=h.fi s hs;dsimp only;omega
theorem Zft {a:Aut} (h:VOk a):(K2 a).moves.Nodup:=by
 show (a.moves++(a.start.map fun s=>(⟨a.n,s,-1⟩:Mv))++a.fin.map fun s=>(⟨s,a.n,-1⟩:Mv)).Nodup
 rw [VE,VE]
 refine ⟨⟨Lw h.ms,Gi (W6 h.ss) fun x _ y _ e=>(Mv.mk.inj e).2.1,fun x hx y hy e=>?_⟩,Gi (W6 h.fs) fun x _ y _ e=>(Mv.mk.inj e).1,fun x hx y hy e=>?_⟩
 · obtain ⟨s,hs,rfl⟩:=Xl.1 hy;have:=h.mv x hx;rw [e] at this;dsimp only at this;omega
 · obtain ⟨s,hs,rfl⟩:=Xl.1 hy;have h1:=h.fi s hs;rcases Xq.1 hx with hx|hx
   · have:=h.mv x hx;rw [e] at this;dsimp only at this;omega
   · obtain ⟨s',hs',e'⟩:=Xl.1 hx;rw [e] at e';have:=(Mv.mk.inj e').1;omega
theorem Zc8 {i:Nat} {r:List Nat} {s n:Nat} (h:r[s]? =some n):(Yq i r)[s]? =some ⟨(i:Nat),(n:Nat),(s:Nat)⟩:=by
 unfold Yq
 rw [Xg,List.getElem?_zipIdx,h]
 show some (⟨(i:Nat),(n:Nat),((0+s:Nat):Int)⟩:Mv)=_
 rw [Xw]
def S1 (k:Nat) (rows:List (List Nat)):List Mv:=(rows.zipIdx k).flatMap fun p=>Yq p.2 p.1
theorem GJ (k:Nat) (r:List Nat) (rows:List (List Nat)):S1 k (r::rows)=Yq k r++S1 (k+1) rows:=by
 unfold S1;rw [VY,Xz]
theorem O7 {m:Nat}:∀{rows:List (List Nat)} {k i s n:Nat} {r:List Nat},(∀r∈rows,r.length=m)→rows[i]? =some r→r[s]? =some n→(S1 k rows)[i*m+s]? =some ⟨((k+i:Nat):Int),(n:Nat),(s:Nat)⟩
 |[],_,_,_,_,_,_,h,_=>by simp at h
 | x::rows,k,0,s,n,r,hl,hr,hs=>by
   simp only [Vx,Option.some.injEq] at hr;subst hr;rw [GJ,VB,Xw,Vj (by rw [JJ];exact Zh hs),Zc8 hs];rfl
 | x::rows,k,i+1,s,n,r,hl,hr,hs=>by
   simp only [V7] at hr;have hx:=hl x (Xm ..);rw [GJ,Vo (by rw [JJ,hx,X6];omega),JJ,hx,show (i+1)*m+s-m=i*m+s by rw [X6];omega,O7 (fun r hr=>hl r (Xo _ hr)) hr hs];rw [show k+1+i=k+(i+1) by omega]
theorem Rz {i:Nat} {r:List Nat}:∀m∈Yq i r,m.src=(i:Nat):=fun m hm=>by
 obtain ⟨n,s,_,rfl⟩:=ζL hm
 rfl
theorem ES {k:Nat} {rows:List (List Nat)}:∀m∈S1 k rows,(k:Int)≤m.src:=fun m hm=>by
 unfold S1 at hm
 obtain ⟨p,hp,hm⟩:=XP.1 hm
 rw [Rz m hm]
 have:=List.mem_zipIdx hp
 omega
theorem O8:∀{rows:List (List Nat)} {k i:Nat} {r:List Nat},rows[i]? =some r→(S1 k rows).filter (fun m=>decide (m.src=((k+i:Nat):Int)))=Yq (k+i) r
 |[],_,_,_,h=>by simp at h
 | x ::rows,k,0,r,h=>by
   simp only [Vx,Option.some.injEq] at h;subst h;rw [VV,GJ,XV,UE.2 fun m hm=>UR (Rz m hm),List.filter_eq_nil_iff.2 fun m hm=>by
    have:=ES m hm;simp only [UQ];omega,Xr]
 | x ::rows,k,i+1,r,h=>by
   simp only [V7] at h;rw [GJ,XV,List.filter_eq_nil_iff.2 fun m hm=>by
    have:=Rz m hm;simp only [UQ];omega,XW,show k+(i+1)=k+1+i by omega]
   exact O8 h
structure DetA (A:Aut):Prop where
 ok:AOk A
 pos:0<A.n.toNat
 mo:∀i s,i<A.n.toNat→s<A.syms.toNat→∃x:Mv,(movesOf A i)[s]? =some x∧A.moves[i*A.syms.toNat+s]? =some x∧x.dst=(stepA A i s:Nat)
 ml:∀i,i<A.n.toNat→(movesOf A i).length=A.syms.toNat
 sl:∀i s,i<A.n.toNat→s<A.syms.toNat→stepA A i s<A.n.toNat
theorem ET {A:Aut} {i s:Nat} {x:Mv} (h:A.moves[i*A.syms.toNat+s]? =some x):stepA A i s=x.dst.toNat:=by
 unfold stepA;rw [h];rfl
theorem ZnN {t:Tab} (ht:TOk t) {o:List Nat} {rows:List (List Nat)} (h:Fin t o rows) (hm:(Z4 rows).length≤20000):DetA (WI t (o,rows)):=by
 have hok:=On ht h hm
 have hn:(WI t (o,rows)).n.toNat=o.length:=XS _
 have hs:(WI t (o,rows)).syms.toNat=t.m:=XS _
 have key:∀i s,i<o.length→s<t.m→∃(r:List Nat) (n:Nat),rows[i]? =some r∧r[s]? =some n∧n<o.length∧(WI t (o,rows)).moves[i*t.m+s]? =some ⟨(i:Nat),(n:Nat),(s:Nat)⟩∧movesOf (WI t (o,rows)) i=Yq i r:=fun i s hi hs=>by
  obtain ⟨r,hr⟩:=Zw (show i<rows.length by rw [h.len];exact hi);have hrl:r.length=t.m:=h.ok.len r (Xc hr);obtain ⟨n,hn⟩:=Zw (show s<r.length by omega);obtain ⟨x,hx⟩:=Zw hi;refine ⟨r,n,hr,hn,(h.ok.to i x r s n hx hr hn).1,?_,?_⟩
  · have:=O7 (k:=0) h.ok.len hr hn;rw [Xw] at this;exact this
  · have:=O8 (k:=0) hr;rw [Xw] at this;exact this
 refine ⟨hok,by rw [hn];exact h.pos,fun i s hi hs'=>?_,fun i hi=>?_,fun i s hi hs'=>?_⟩
 · rw [hn] at hi;rw [hs] at hs' ⊢;obtain ⟨r,n,h1,h2,h3,h4,h5⟩:=key i s hi hs';refine ⟨_,by rw [h5];exact Zc8 h2,h4,?_⟩;rw [ET (by rw [hs];exact h4)];show ((n:Nat):Int)=(((n:Nat):Int).toNat:Nat);rw [XS]
 · rw [hn] at hi;obtain ⟨r,hr⟩:=Zw (show i<rows.length by rw [h.len];exact hi);have:=O8 (k:=0) hr;rw [Xw] at this;show ((Z4 rows).filter fun m=>decide (m.src=(i:Int))).length=_;rw [show ((Z4 rows).filter fun m=>decide (m.src=(i:Int)))=Yq i r from this,JJ,hs];exact h.ok.len r (Xc hr)
 · rw [hn] at hi ⊢;rw [hs] at hs';obtain ⟨r,n,h1,h2,h3,h4,h5⟩:=key i s hi hs';rw [ET (by rw [hs];exact h4)];show ((n:Nat):Int).toNat<_;rw [XS];exact h3
theorem K3 {a A:Aut} (h:AOk a) (hr:WV a= .ok A):DetA A∧A.syms=a.syms:=by
 obtain ⟨t,o,rows,hs,hT,_,hF,rfl,hm⟩:=Zbg h hr
 refine ⟨ZnN hT hF hm,?_⟩
 unfold Jc at hs
 obtain ⟨q,_,rfl⟩:=XB.1 hs
 show ((a.syms.toNat:Nat):Int)=a.syms
 have:=h.s0
 omega
def S2 (A B:Aut) (x:(Nat×Nat)×(Int×Int)):Prop:=x.1.1<A.n.toNat∧x.1.2<B.n.toNat
theorem L6 {A B:Aut} (hA:DetA A) (hB:DetA B) (hs:A.syms=B.syms) {i:Nat} {o:List ((Nat×Nat)×(Int×Int))} {rows:List (List Nat)} (hu:(YP A B).upto ((0,0),(-1,-1)) i=some (o,rows)):(YP A B).Ok (S2 A B) ((0,0),(-1,-1)) o rows∧(i≤o.length→rows.length=i)∧(o.length≤i→rows.length=o.length):=
 Srch.ok (W:=YP A B) (P:=S2 A B) (show 1≤2000 by decide) ⟨hA.pos,hB.pos⟩ (fun i x s hx hsm=>⟨hA.sl _ _ hx.1 hsm,hB.sl _ _ hx.2 (by have:s<A.syms.toNat:=hsm;rw [←hs];exact this)⟩) hu
theorem Zkb {A B:Aut} (hA:DetA A) (hB:DetA B) (hs:A.syms=B.syms) (op:Int) {o:List ((Nat×Nat)×(Int×Int))} {rows:List (List Nat)} (hu:prodQ A B=some (o,rows)):TOk (JM A B op (o,rows)):=by
 obtain ⟨h1,_,h3⟩:=L6 hA hB hs hu
 have hcap:o.length≤2000:=h1.cap
 have h5:=h3 hcap
 have hp:=h1.pos
 have hs1:=hA.ok.s1
 refine ⟨by show (o.map _).length=rows.length;rw [Xe,h5],h1.len,fun r hr x hx=>?_,by show 0<rows.length;omega,by show rows.length≤2000;omega,by show A.syms.toNat≤40;omega⟩
 have hr':r∈rows:=hr
 obtain ⟨i,hi⟩:=XU hr'
 obtain ⟨t,ht⟩:=XU hx
 obtain ⟨y,hy⟩:=Zw (show i<o.length by have:=Zh hi;omega)
 have:=(h1.to i y r t x hy hi ht).1
 show x<rows.length
 omega
def EU (t:Tab) (x:Nat) (w:List Nat):Nat:=w.foldl (toT t) x
def EW (t:Tab) (x:Nat) (w:List Nat):Bool:=(t.fin[EU t x w]?).getD false
def Kq (m:Nat) (w:List Nat):Prop:=∀c∈w,c<m
def SameL (t:Tab) (x:Nat) (t':Tab) (x':Nat):Prop:=∀w,Kq t.m w→EW t x w=EW t' x' w
theorem Le (t:Tab) (x c:Nat) (w:List Nat):EW t x (c::w)=EW t (toT t x c) w:=rfl
theorem SameL.step {t t':Tab} {x x' s:Nat} (h:SameL t x t' x') (hs:s<t.m):SameL t (toT t x s) t' (toT t' x' s):=fun w hw=>by
 have:=h (s::w) fun c hc=>by
  rcases Xt.1 hc with rfl|hc
  · exact hs
  · exact hw c hc
 rw [Le,Le] at this;exact this
theorem SameL.symm {t t':Tab} {x x':Nat} (hm:t.m=t'.m) (h:SameL t x t' x'):SameL t' x' t x:=fun w hw=>(h w (by rw [hm];exact hw)).symm
theorem SameL.trans {t t' t'':Tab} {x x' x'':Nat} (hm:t.m=t'.m) (h:SameL t x t' x') (h':SameL t' x' t'' x''):SameL t x t'' x'':=fun w hw=>(h w hw).trans (h' w (by rw [←hm];exact hw))
section
variable {t:Tab}
theorem Zgv (h:TOk t) {c:Nat→Nat} {x:Nat} (hx:x<t.rows.length):((t.rows[x]?).getD []).map c=(List.range t.m).map fun s=>c (toT t x s):=by
 obtain ⟨r,hr⟩:=Zw hx
 have hl:=h.rl r (Xc hr)
 rw [hr]
 refine Vv fun s=>?_
 show (r.map c)[s]? =_
 rw [Xg,Xg]
 by_cases hs:s<t.m
 · obtain ⟨n,hn⟩:=Zw (show s<r.length by omega);rw [hn,VJ hs];show some (c n)=some (c (toT t x s));rw [Pv hr hn]
 · rw [XL oM,XL (by rw [Uw];omega)];rfl
theorem Zbh {m:Nat} {f g:Nat→Nat}:(List.range m).map f=(List.range m).map g↔∀s,s<m→f s=g s:=by
 constructor
 · intro h s hs;have h2:((List.range m).map f)[s]? =((List.range m).map g)[s]? :=by rw [h]
   rw [Xg,Xg,VJ hs] at h2;simpa using h2
 · intro h;exact VQ fun s hs=>h s (XT.1 hs)
theorem Zbi (h:TOk t) {c:Nat→Nat} {x y:Nat} (hx:x<t.rows.length) (hy:y<t.rows.length):Yu t.rows c x=Yu t.rows c y↔c x=c y∧∀s,s<t.m→c (toT t x s)=c (toT t y s):=by
 unfold Yu
 rw [Zgv h hx,Zgv h hy,List.cons.injEq,Zbh]
theorem Oq {c:Nat→Nat} {x y:Nat} (hx:x<t.rows.length) (hy:y<t.rows.length):KP t.rows c x=KP t.rows c y↔Yu t.rows c x=Yu t.rows c y:=by
 constructor
 · intro h;obtain ⟨z,h1,h2⟩:=Od (SS (k:=Yu t.rows c) hx).2;obtain ⟨z',h3,h4⟩:=Od (SS (k:=Yu t.rows c) hy).2;have h5:posK id (YL (Yu t.rows c) t.rows.length) (Yu t.rows c x)=posK id (YL (Yu t.rows c) t.rows.length) (Yu t.rows c y):=h;rw [h5,h3] at h1
   cases h1;exact h2.symm.trans h4
 · intro h;unfold KP;rw [h]
structure CL (t:Tab) (c:Nat→Nat):Prop where
 co:∀x y,x<t.rows.length→y<t.rows.length→SameL t x t y→c x=c y
 fi:∀x y,x<t.rows.length→y<t.rows.length→c x=c y→t.fin[x]? =t.fin[y]?
theorem CL.next (h:TOk t) {c:Nat→Nat} (hc:CL t c):CL t (KP t.rows c):=
 ⟨fun x y hx hy hl=>(Oq hx hy).2 ((Zbi h hx hy).2 ⟨hc.co x y hx hy hl,fun s hs=>hc.co _ _ (KJ h) (KJ h) (hl.step hs)⟩),
  fun x y hx hy he=>hc.fi x y hx hy ((Zbi h hx hy).1 ((Oq hx hy).1 he)).1⟩
structure CS (t:Tab) (c:Nat→Nat):Prop extends CL t c where
 st:∀x y s,x<t.rows.length→y<t.rows.length→s<t.m→c x=c y→c (toT t x s)=c (toT t y s)
theorem CS.lang (h:TOk t) {c:Nat→Nat} (hc:CS t c) {x y:Nat} (hx:x<t.rows.length) (hy:y<t.rows.length) (he:c x=c y):SameL t x t y:=fun w=>by
 induction w generalizing x y with
 | nil=>
   intro _;have:=hc.fi x y hx hy he;show (t.fin[x]?).getD false=(t.fin[y]?).getD false;rw [this]
 | cons s w ih=>
   intro hw;rw [Le,Le];exact ih (KJ h) (KJ h) (hc.st x y s hx hy (hw s (Xm ..)) he) fun c hc=>hw c (Xo _ hc)
theorem Zfu:∀{k:Nat} {L:List Nat},(∀v,v<k→v∈L)→L.length=k→L.Nodup:=fun {k}=>by
 induction k with
 |zero=>intro L _ hl;rw [XR hl];exact Vc
 | succ k ih=>
   intro L hL hl;have hm:=hL k oM;obtain ⟨A,B,rfl⟩:=List.append_of_mem hm;have h1:(A++B).Nodup:=ih (fun v hv=>by
    have:=hL v oM;rcases Xq.1 this with h|h
    · exact X1 _ h
    · rcases Xt.1 h with h|h
      · omega
      · exact X7 _ h) (by simp only [Xb,Xk] at hl ⊢;omega)
   have h2:k∉A++B:=fun h3=>by
    have h4:∀v,v<k+1→v∈A++B:=fun v hv=>by
     by_cases e:v=k
     · rw [e];exact h3
     · have:=hL v hv;rcases Xq.1 this with h|h
       · exact X1 _ h
       · rcases Xt.1 h with h|h
         · exact UV h e
         · exact X7 _ h
    have h5:=EN (n:=k+1) (L:=List.range (k+1)) List.nodup_range fun s hs=>XT.1 hs;have key:∀(M:List Nat) (n:Nat),M.Nodup→(∀v,v<n→v∈M)→n≤M.length:=fun M n _ hv=>by
     induction n generalizing M with
     |zero=>exact Xd _
     | succ n ih2=>
       have h6:=ih2 (M.erase n) ((by assumption:M.Nodup).erase _) fun v hv'=>(List.mem_erase_of_ne oM).2 (hv v oM);rw [UP (hv n oM)] at h6;have:=List.length_pos_of_mem (hv n oM);omega
    have:=key _ _ h1 h4;simp only [Xb,Xk] at hl this;omega
   have hp:(A++k::B).Perm (k::(A++B)):=List.perm_middle;rw [hp.nodup_iff,Vf];exact ⟨h2,h1⟩
theorem ζN {α β:Type} {f:α→β}:∀{l:List α},(l.map f).Nodup→∀x∈l,∀y∈l,f x=f y→x=y
 |[],_,x,hx,_,_,_=>by cases hx
 | z ::l,h,x,hx,y,hy,e=>by
   rw [Xx,Vf] at h;rcases Xt.1 hx with h1|h1
   · rcases Xt.1 hy with h2|h2
     · rw [h1,h2]
     · exact UV (Xl.2 ⟨y,h2,by rw [←e,h1]⟩) h.1
   · rcases Xt.1 hy with h2|h2
     · exact UV (Xl.2 ⟨x,h1,by rw [e,h2]⟩) h.1
     · exact ζN h.2 x h1 y h2 e
theorem ZhS {c:Nat→Nat} {k:Nat} (hk:COk t.rows.length c k) (he:T3 t.rows c=k) {x y:Nat} (hx:x<t.rows.length) (hy:y<t.rows.length) (hxy:c x=c y):Yu t.rows c x=Yu t.rows c y:=by
 have h1:∀v,v<k→v∈(YL (Yu t.rows c) t.rows.length).map fun l=>l.headD 0:=fun v hv=>by
  obtain ⟨s,hs,rfl⟩:=hk.hit v hv;exact Xl.2 ⟨Yu t.rows c s,J4.2 ⟨s,hs,rfl⟩,rfl⟩
 have h2:=Zfu h1 (by rw [Xe];exact he)
 exact ζN h2 _ (J4.2 ⟨x,hx,rfl⟩) _ (J4.2 ⟨y,hy,rfl⟩) hxy
theorem Zc9 (h:TOk t):∀{f:Nat} {c:Nat→Nat} {k:Nat},COk t.rows.length c k→CL t c→t.rows.length<f+k→CS t (TB t.rows f c k)
 |0,c,k,hk,_,hf=>by have:=hk.le;omega
 | f +1,c,k,hk,hc,hf=>by
   rw [TB];split
   · rename_i he;refine ⟨hc.next h,fun x y s hx hy hs hxy=>?_⟩;have h1:=((Zbi h hx hy).1 ((Oq hx hy).1 hxy)).2 s hs;exact (Oq (KJ h) (KJ h)).2 (ZhS hk he (KJ h) (KJ h) h1)
   · rename_i he;have:=hk.grow;exact Zc9 h hk.next (hc.next h) oM
theorem Zmu (h:TOk t):CL t (LQ t.fin):=by
 refine ⟨fun x y hx hy hl=>?_,fun x y hx hy he=>?_⟩
 · have:=hl [] fun c hc=>by cases hc
   have h1:(t.fin[x]?).getD false=(t.fin[y]?).getD false:=this;unfold LQ;rw [h1]
 · have hf:=h.fl;obtain ⟨b,hb⟩:=Zw (show x<t.fin.length by omega);obtain ⟨b',hb'⟩:=Zw (show y<t.fin.length by omega);unfold LQ at he;rw [hb,hb'] at he ⊢
   cases b<;>cases b'<;>simp_all
theorem Zfv (h:TOk t):CS t (YD t):=by
 unfold YD
 exact Zc9 h (COk.start t.fin _) (Zmu h) oM
theorem Zbj (h:TOk t) {x y:Nat} (hx:x<t.rows.length) (hy:y<t.rows.length):YD t x=YD t y↔SameL t x t y:=
 ⟨fun e=>(Zfv h).lang h hx hy e,fun e=>(Zfv h).co x y hx hy e⟩
end
section
variable {t t':Tab}
theorem ζO (h:TOk t) (h':TOk t') (hm:t.m=t'.m) (hL:SameL t 0 t' 0) (hle:t.rows.length≤t'.rows.length):Wp t=Wp t':=by
 obtain ⟨⟨o,rows⟩,h1⟩:=Zms h
 have hF:=Px h h1
 have h2:(minW t).upto 0 t'.rows.length=some (o,rows):=by
  have hc:o.length≤t.rows.length:=hF.ok.cap;have h3:=Srch.upto_stop h1 hc (t'.rows.length-t.rows.length);have e:(minW t).cap+(t'.rows.length-t.rows.length)=t'.rows.length:=by show t.rows.length+_=_;omega
  rw [e] at h3;exact h3
 obtain ⟨o',h3,h4⟩:=Srch.sim (W:=minW t) (W':=minW t') (R:=fun x y=>x<t.rows.length∧y<t'.rows.length∧SameL t x t' y) hm hle
  (fun x x' y y' hx hx'=>by
    show YD t x=YD t x'↔YD t' y=YD t' y';rw [Zbj h hx.1 hx'.1,Zbj h' hx.2.1 hx'.2.1];constructor
    · exact fun e=>((hx.2.2.symm hm).trans hm.symm e).trans hm.symm hx'.2.2
    · exact fun e=>(hx.2.2.trans hm e).trans hm (hx'.2.2.symm hm))
  (fun i x y s hx hs=>⟨KJ h,KJ h',hx.2.2.step hs⟩) ⟨h.pos,h'.pos,hL⟩ h2
 have h5:(minW t').all 0=some (o',rows):=h3
 unfold Wp
 rw [h1,h5]
 show (if 20000<(Z4 rows).length then none else some (WI t (o,rows)))=(if 20000<(Z4 rows).length then none else some (WI t' (o',rows)))
 have e:WI t (o,rows)=WI t' (o',rows):=by
  unfold WI;dsimp only;rw [h4.1,hm];congr 1;refine S0 _ fun i hi=>?_;obtain ⟨x,hx⟩:=Zw (show i<o.length by rw [h4.1];exact hi);obtain ⟨y,hy⟩:=Zw hi;have h6:=(h4.2 i x y hx hy).2.2 [] fun c hc=>by cases hc
  unfold JK;rw [hx,hy];exact h6
 rw [e]
theorem Zfw (h:TOk t) (h':TOk t') (hm:t.m=t'.m) (hL:SameL t 0 t' 0):Wp t=Wp t':=by
 rcases Nat.le_total t.rows.length t'.rows.length with h1|h1
 · exact ζO h h' hm hL h1
 · exact (ζO h' h hm.symm (hL.symm hm) h1).symm
end
def Zpq (a:Aut) (w:List Int):List Int:=w.foldl (fun S c=>YO a c S) (Y3 a a.start)
def wI (w:List Nat):List Int:=w.map fun c:Nat=>(c:Int)
def D9 (a:Aut) (S:List Int) (w:List Int):List Int:=w.foldl (fun S c=>YO a c S) S
def T7 (a:Aut) (w:List Int):Bool:=WS a (Zpq a w)
theorem EX (a:Aut) (w:List Int):T7 a w=WS a (D9 a (Y3 a a.start) w):=rfl
theorem Zda {a:Aut} (h:AOk a) {o:List (List Int)} {rows:List (List Nat)} (hu:(W0 a).all (Y3 a a.start)=some (o,rows)):∀(w:List Nat) (i:Nat) (S:List Int),Kq a.syms.toNat w→o[i]? =some S→EW ⟨a.syms.toNat,rows,o.map (WS a)⟩ i w=WS a (D9 a S (wI w)):=by
 obtain ⟨h2,h3,h4⟩:=EO h hu
 have hcap:o.length≤2000:=h2.cap
 have h5:=h4 hcap
 intro w
 induction w with
 | nil=>
   intro i S _ hi;show ((o.map (WS a))[i]?).getD false=WS a S;rw [Xg,hi];rfl
 | cons c w ih=>
   intro i S hw hi;have hc:c<a.syms.toNat:=hw c (Xm ..);obtain ⟨r,hr⟩:=Zw (show i<rows.length by have:=Zh hi;omega);have hl:r.length=a.syms.toNat:=h2.len r (Xc hr);obtain ⟨n,hn⟩:=Zw (show c<r.length by omega);obtain ⟨h6,h7⟩:=h2.to i S r c n hi hr hn;obtain ⟨T,hT,hT2⟩:=Od (f:=(W0 a).key) (l:=o) (k:=(W0 a).key ((W0 a).step i S c)) (by rw [h7];exact h6);rw [h7] at hT;have hT3:T=YO a (c:Nat) S:=hT2;rw [Le,Pv hr hn,ih n T (fun c hc=>hw c (Xo _ hc)) hT,hT3];rfl
theorem Zdb {a:Aut} (h:AOk a) {t:Tab} (ht:Jc a=some t) {w:List Nat} (hw:Kq a.syms.toNat w):EW t 0 w=T7 a (wI w):=by
 unfold Jc at ht
 obtain ⟨⟨o,rows⟩,h1,rfl⟩:=XB.1 ht
 obtain ⟨h2,_,_⟩:=EO h h1
 exact Zda h h1 w 0 _ hw h2.zero
theorem Zpr {a:Aut} {t:Tab} (ht:Jc a=some t):t.m=a.syms.toNat:=by
 unfold Jc at ht
 obtain ⟨q,_,rfl⟩:=XB.1 ht
 rfl
section
variable {t:Tab} {o:List Nat} {rows:List (List Nat)}
theorem EY (h:Fin t o rows) {i s:Nat} (hi:i<o.length) (hs:s<t.m):∃(r:List Nat) (n x y:Nat),rows[i]? =some r∧r[s]? =some n∧o[i]? =some x∧o[n]? =some y∧YD t y=YD t (toT t x s):=by
 obtain ⟨r,hr⟩:=Zw (show i<rows.length by rw [h.len];exact hi)
 have hrl:r.length=t.m:=h.ok.len r (Xc hr)
 obtain ⟨n,hn⟩:=Zw (show s<r.length by omega)
 obtain ⟨x,hx⟩:=Zw hi
 obtain ⟨h6,h7⟩:=h.ok.to i x r s n hx hr hn
 obtain ⟨y,hy,hy2⟩:=Od (f:=(minW t).key) (l:=o) (k:=(minW t).key ((minW t).step i x s)) (by rw [h7];exact h6)
 rw [h7] at hy
 exact ⟨r,n,x,y,hr,hn,hx,hy,hy2⟩
theorem Zdc {i s n:Nat} {r:List Nat} (h1:rows[i]? =some r) (h2:r[s]? =some n):(⟨(i:Nat),(n:Nat),(s:Nat)⟩:Mv)∈Z4 rows:=by
 unfold Z4
 refine XP.2 ⟨(r,i),UH.2 h1,?_⟩
 unfold Yq
 exact Xl.2 ⟨(n,s),UH.2 h2,rfl⟩
theorem ζP (hok:AOk (WI t (o,rows))) {i:Nat} (hi:i<o.length) {l:List Int} (hl:∀x,x∈l↔x=(i:Int)):Y3 (WI t (o,rows)) l=[(i:Int)]:=by
 have hin:∀s∈l,0≤s∧s<(WI t (o,rows)).n:=fun s hs=>by
  rw [(hl s).1 hs];exact ⟨oM,by show ((i:Nat):Int)<(o.length:Nat);omega⟩
 refine Rw (KF hok.mi hin) (Vq ..) fun x=>?_
 rw [Jb hok.mi hin,Xi]
 constructor
 · intro h;induction h with
   |base h=>exact (hl _).1 h
   | step _ hm hs hd ih=>
     obtain ⟨_,s,_,_,_,_,rfl⟩:=Py hm;have h1:((s:Nat):Int)= -1:=hd;omega
 · intro h;subst h;exact .base ((hl _).2 rfl)
theorem O9 (h:Fin t o rows) (hok:AOk (WI t (o,rows))) {i s n:Nat} {r:List Nat} (hr:rows[i]? =some r) (hn:r[s]? =some n) (hno:n<o.length):YO (WI t (o,rows)) (s:Nat) [(i:Int)]=[(n:Int)]:=by
 have hi:i<o.length:=by rw [←h.len];exact Zh hr
 refine ζP hok hno fun x=>?_
 have hin:∀s∈[(i:Int)],0≤s∧s<(WI t (o,rows)).n:=fun s hs=>by
  rw [Xi.1 hs];exact ⟨oM,by show ((i:Nat):Int)<(o.length:Nat);omega⟩
 rw [JG hin]
 constructor
 · rintro ⟨m,hm,h1,h2,rfl⟩;obtain ⟨i',s',n',r',h3,h4,rfl⟩:=Py hm;have h1:((i':Nat):Int)=i:=Xi.1 h1;have h2:((s':Nat):Int)=s:=h2;have e1:i'=i:=oM;have e2:s'=s:=oM;subst e1 e2;rw [hr] at h3;cases h3;rw [hn] at h4;cases h4;rfl
 · rintro rfl;exact ⟨_,Zdc hr hn,Xi.2 rfl,rfl,rfl⟩
theorem Zkc (h:Fin t o rows) {i x:Nat} (hx:o[i]? =some x):WS (WI t (o,rows)) [(i:Int)]=(t.fin[x]?).getD false:=by
 show (JS (WI t (o,rows)) (i:Int)||false)=_
 rw [Vh,Zor (Zh hx)]
 unfold JK;rw [hx];rfl
theorem Zmv (ht:TOk t) (h:Fin t o rows) (hok:AOk (WI t (o,rows))):∀(w:List Nat) (i x:Nat),Kq t.m w→o[i]? =some x→WS (WI t (o,rows)) (D9 (WI t (o,rows)) [(i:Int)] (wI w))=EW t x w:=by
 intro w
 induction w with
 |nil=>intro i x _ hx;exact Zkc h hx
 | cons c w ih=>
   intro i x hw hx;obtain ⟨r,n,x',y,hr,hn,hx',hy,hc⟩:=EY h (Zh hx) (hw c (Xm ..));rw [hx] at hx';cases hx';show WS _ (D9 _ (YO _ (c:Nat) [(i:Int)]) (wI w))=EW t (toT t x c) w;have hw':Kq t.m w:=fun c hc=>hw c (Xo _ hc);rw [O9 h hok hr hn (Zh hy),ih n y hw' hy];exact (Zbj ht (h.ok.p y (Xc hy)) (KJ ht)).1 hc w hw'
theorem Pz (h:Fin t o rows) (hok:AOk (WI t (o,rows))):Y3 (WI t (o,rows)) (WI t (o,rows)).start=[((0:Nat):Int)]:=ζP hok h.pos fun x=>Xi
theorem ζQ (ht:TOk t) (h:Fin t o rows) (hok:AOk (WI t (o,rows))) {w:List Nat} (hw:Kq t.m w):T7 (WI t (o,rows)) (wI w)=EW t 0 w:=by
 rw [EX,Pz h hok]
 exact Zmv ht h hok w 0 0 hw h.ok.zero
theorem ZhT (ht:TOk t) (hu:(minW t).all 0=some (o,rows)) (hm:(Z4 rows).length≤20000):WV (WI t (o,rows))= .ok (WI t (o,rows)):=by
 have h:=Px ht hu
 have hok:=On ht h hm
 have hn1:=ht.n1
 have hcap:o.length≤t.rows.length:=h.ok.cap
 have h2:(minW t).upto 0 2000=some (o,rows):=by
  have h3:=Srch.upto_stop hu hcap (2000-t.rows.length);have e:(minW t).cap+(2000-t.rows.length)=2000:=by show t.rows.length+_=_;omega
  rw [e] at h3;exact h3
 have hsy:(WI t (o,rows)).syms.toNat=t.m:=XS _
 obtain ⟨o',h3,h4⟩:=Srch.sim (W:=minW t) (W':=W0 (WI t (o,rows))) (R:=fun x S=>x<t.rows.length∧∃(i z:Nat),S=[(i:Int)]∧o[i]? =some z∧YD t z=YD t x) hsy.symm hn1
  (fun x x' S S' ⟨hx,i,z,e,hz,hc⟩ ⟨hx',i',z',e',hz',hc'⟩=>by
    show YD t x=YD t x'↔S=S';rw [e,e',←hc,←hc'];constructor
    · intro e2;have h5:posK (minW t).key o (YD t z)=i:=Lo h.ok.nd hz;have h6:posK (minW t).key o (YD t z')=i':=Lo h.ok.nd hz';rw [←h5,←h6,e2]
    · intro e2;(have:i=i':=by have:=(List.cons.inj e2).1;omega);subst this;rw [hz] at hz';cases hz';rfl)
  (fun i x S s ⟨hx,j,z,e,hz,hc⟩ hs=>by
    have hs:s<t.m:=hs;obtain ⟨r,n,z',y,hr,hn,hz',hy,hc2⟩:=EY h (Zh hz) hs;rw [hz] at hz';cases hz';refine ⟨KJ ht,n,y,?_,hy,?_⟩
    · show YO _ (s:Nat) S=_;rw [e,O9 h hok hr hn (Zh hy)]
    · rw [hc2];exact (Zfv ht).st z x s (h.ok.p z (Xc hz)) hx hs hc)
  (show (0:Nat)<t.rows.length∧_ from ⟨ht.pos,0,0,Pz h hok,h.ok.zero,rfl⟩) h2
 have h5:Jc (WI t (o,rows))=some ⟨t.m,rows,o'.map (WS (WI t (o,rows)))⟩:=by
  unfold Jc;rw [show (W0 (WI t (o,rows))).all (Y3 (WI t (o,rows)) (WI t (o,rows)).start)=some (o',rows) from h3,hsy];rfl
 have h6:=HW hok h5
 have h7:Wp ⟨t.m,rows,o'.map (WS (WI t (o,rows)))⟩=Wp t:=Zfw h6 ht rfl fun w hw=>by
  have hw:Kq t.m w:=hw;rw [Zdb hok h5 (by rw [hsy];exact hw),ζQ ht h hok hw]
 unfold WV
 rw [h5]
 dsimp only
 rw [h7]
 unfold Wp
 rw [hu]
 show lim (if 20000<(Z4 rows).length then none else some (WI t (o,rows)))=_
 rw [UT oM];rfl
end
theorem ζR {a A:Aut} (h:AOk a) (hr:WV a= .ok A) {w:List Nat} (hw:Kq a.syms.toNat w):T7 A (wI w)=T7 a (wI w):=by
 obtain ⟨t,o,rows,hs,hT,_,hF,rfl,hm⟩:=Zbg h hr
 rw [ζQ hT hF (On hT hF hm) (by rw [Zpr hs];exact hw),Zdb h hs hw]
def IsMin (A:Aut):Prop:=∃t o rows,TOk t∧(minW t).all 0=some (o,rows)∧A=WI t (o,rows)∧(Z4 rows).length≤20000
theorem Zdd {a A:Aut} (h:AOk a) (hr:WV a= .ok A):IsMin A:=by
 obtain ⟨t,o,rows,hs,hT,hu,hF,e,hm⟩:=Zbg h hr
 exact ⟨t,o,rows,hT,hu,e,hm⟩
section
variable {A B:Aut}
theorem IsMin.aok (h:IsMin A):AOk A:=by
 obtain ⟨t,o,rows,hT,hu,rfl,hm⟩:=h
 exact On hT (Px hT hu) hm
theorem IsMin.det (h:IsMin A):DetA A:=by
 obtain ⟨t,o,rows,hT,hu,rfl,hm⟩:=h
 exact ZnN hT (Px hT hu) hm
theorem IsMin.red (h:IsMin A):WV A= .ok A:=by
 obtain ⟨t,o,rows,hT,hu,rfl,hm⟩:=h
 exact ZhT hT hu hm
theorem IsMin.start (h:IsMin A):Y3 A A.start=[((0:Nat):Int)]:=by
 have hok:=h.aok
 obtain ⟨t,o,rows,hT,hu,rfl,hm⟩:=h
 exact Pz (Px hT hu) hok
theorem IsMin.next (h:IsMin A) {i s:Nat} (hi:i<A.n.toNat) (hs:s<A.syms.toNat):YO A (s:Nat) [(i:Int)]=[((stepA A i s:Nat):Int)]∧stepA A i s<A.n.toNat:=by
 have hok:=h.aok
 have hd:=h.det
 refine ⟨?_,hd.sl i s hi hs⟩
 obtain ⟨t,o,rows,hT,hu,rfl,hm⟩:=h
 have hF:=Px hT hu
 have e1:(WI t (o,rows)).n.toNat=o.length:=XS _
 have e2:(WI t (o,rows)).syms.toNat=t.m:=XS _
 rw [e1] at hi
 rw [e2] at hs
 obtain ⟨r,n,x,y,hr,hn,hx,hy,_⟩:=EY hF hi hs
 have h1:=O7 (k:=0) hF.ok.len hr hn
 rw [Xw] at h1
 have h2:stepA (WI t (o,rows)) i s=n:=by
  rw [ET (x:=⟨(i:Nat),(n:Nat),(s:Nat)⟩) (by rw [e2];exact h1)];exact XS _
 rw [h2]
 exact O9 hF hok hr hn (Zh hy)
theorem Zmw (hA:IsMin A) (hB:IsMin B) (hs:A.syms=B.syms) {op:Int} {o:List ((Nat×Nat)×(Int×Int))} {rows:List (List Nat)} (hu:prodQ A B=some (o,rows)):∀(w:List Nat) (i:Nat) (p:(Nat×Nat)×(Int×Int)),Kq A.syms.toNat w→o[i]? =some p→EW (JM A B op (o,rows)) i w=SY op (WS A (D9 A [((p.1.1:Nat):Int)] (wI w))) (WS B (D9 B [((p.1.2:Nat):Int)] (wI w))):=by
 obtain ⟨h1,_,h3⟩:=L6 hA.det hB.det hs hu
 have hcap:o.length≤2000:=h1.cap
 have h5:=h3 hcap
 intro w
 induction w with
 | nil=>
   intro i p _ hi;show ((o.map (Y7 A B op))[i]?).getD false=SY op (JS A _||false) (JS B _||false);rw [Xg,hi,Vh,Vh];rfl
 | cons c w ih=>
   intro i p hw hi;have hc:c<A.syms.toNat:=hw c (Xm ..);have hp:=h1.p p (Xc hi);obtain ⟨r,hr⟩:=Zw (show i<rows.length by have:=Zh hi;omega);have hl:r.length=A.syms.toNat:=h1.len r (Xc hr);obtain ⟨n,hn⟩:=Zw (show c<r.length by omega);obtain ⟨h6,h7⟩:=h1.to i p r c n hi hr hn;obtain ⟨q,hq,hq2⟩:=Od (f:=(YP A B).key) (l:=o) (k:=(YP A B).key ((YP A B).step i p c)) (by rw [h7];exact h6);rw [h7] at hq;have hq3:q.1=(stepA A p.1.1 c,stepA B p.1.2 c):=hq2;rw [Le,Pv (t:=JM A B op (o,rows)) hr hn,ih n q (fun c hc=>hw c (Xo _ hc)) hq,hq3];dsimp only;rw [←(hA.next hp.1 hc).1,←(hB.next hp.2 (by rw [←hs];exact hc)).1];rfl
theorem ZhU (hA:IsMin A) (hB:IsMin B) (hs:A.syms=B.syms) {op:Int} {q:List ((Nat×Nat)×(Int×Int))×List (List Nat)} (hu:prodQ A B=some q) {w:List Nat} (hw:Kq A.syms.toNat w):EW (JM A B op q) 0 w=SY op (T7 A (wI w)) (T7 B (wI w)):=by
 obtain ⟨h1,_,_⟩:=L6 hA.det hB.det hs hu
 rw [EX,EX,hA.start,hB.start]
 exact Zmw hA hB hs hu w 0 _ hw h1.zero
end
theorem ζS {a A:Aut} (h:AOk a) (hr:WV a= .ok A):A.syms=a.syms:=(K3 h hr).2
theorem O' {a C:Aut} (h:Ji a= .ok C):IsMin C∧C.syms=a.syms∧∀w,Kq a.syms.toNat w→T7 C (wI w)=T7 a (wI w):=by
 obtain ⟨h1,h2⟩:=Zmt h
 have ha:=Kp h1
 exact ⟨Zdd ha h2,ζS ha h2,fun w hw=>ζR ha h2 hw⟩
inductive Pth (a:Aut):Int→List Int→Int→Prop
 |nil (s:Int):Pth a s [] s
 |eps {m:Mv} {w:List Int} {t:Int} (hm:m∈a.moves) (hs:m.sym= -1) (h:Pth a m.dst w t):Pth a m.src w t
 |sym {m:Mv} {w:List Int} {t:Int} (hm:m∈a.moves) (hs:¬m.sym= -1) (h:Pth a m.dst w t):Pth a m.src (m.sym::w) t
section
variable {a:Aut}
theorem Pth.app {s x t:Int} {u v:List Int} (h:Pth a s u x) (h':Pth a x v t):Pth a s (u++v) t:=by
 induction h with
 |nil s=>exact h'
 |eps hm hs _ ih=>exact .eps hm hs (ih h')
 |sym hm hs _ ih=>exact .sym hm hs (ih h')
theorem Pth.cons {s t c:Int} {w:List Int} (h:Pth a s (c::w) t):∃m∈a.moves,Pth a s [] m.src∧m.sym=c∧¬m.sym= -1∧Pth a m.dst w t:=by
 generalize e:c::w=v at h
 induction h with
 |nil s=>cases e
 | eps hm hs _ ih=>
   obtain ⟨m',h1,h2,h3⟩:=ih e;exact ⟨m',h1, .eps hm hs h2,h3⟩
 | sym hm hs h _=>
   cases e;exact ⟨_,hm, .nil _,rfl,hs,h⟩
theorem Zbk {S:List Int} {t:Int}:Rch a S t↔∃s∈S,Pth a s [] t:=by
 constructor
 · intro h;induction h with
   |base h=>exact ⟨_,h, .nil _⟩
   | step _ hm hs hc ih=>
     obtain ⟨s,h1,h2⟩:=ih;have:=h2.app (hs▸Pth.eps hm hc (.nil _));exact ⟨s,h1,this⟩
 · rintro ⟨s,h1,h2⟩;have key:∀{x y:Int} {v:List Int},Pth a x v y→v=[]→Rch a S x→Rch a S y:=fun h=>by
    induction h with
    |nil s=>exact fun _ h=>h
    |eps hm hs _ ih=>exact fun e h=>ih e (.step h hm rfl hs)
    |sym hm hs _ ih=>exact fun e=>by cases e
   exact key h2 rfl (.base h1)
theorem Zde (h:AOk a):∀{w:List Int} {S:List Int} {t:Int},(∀c∈w,¬c= -1)→InS a S→(t∈D9 a (Y3 a S) w↔∃s∈S,Pth a s w t)
 | [],S,t,_,hS=>by
   show t∈Y3 a S↔_;rw [Jb h.mi hS,Zbk]
 | c ::w,S,t,hw,hS=>by
   have hc:=SJ h.mi hS;show t∈D9 a (Y3 a (K0 a c (Y3 a S))) w↔_;rw [Zde h (fun c hc=>hw c (Xo _ hc)) (KC h.mi c _)];constructor
   · rintro ⟨x,h1,h2⟩;obtain ⟨m,hm,h3,h4,rfl⟩:=(JG hc).1 h1;obtain ⟨s,h5,h6⟩:=Zbk.1 ((Jb h.mi hS _).1 h3);refine ⟨s,h5,?_⟩;have:=h6.app (Pth.sym hm (by rw [h4];exact hw c (Xm ..)) h2);rw [h4] at this;exact this
   · rintro ⟨s,h1,h2⟩;obtain ⟨m,hm,h3,h4,_,h5⟩:=h2.cons;exact ⟨m.dst,(JG hc).2 ⟨m,hm,(Jb h.mi hS _).2 (Zbk.2 ⟨s,h1,h3⟩),h4,rfl⟩,h5⟩
def Lng (a:Aut) (w:List Int):Prop:=∃s∈a.start,∃f∈a.fin,Pth a s w f
theorem HY (h:AOk a) {w:List Int} (hw:∀c∈w,0≤c):T7 a w=true↔Lng a w:=by
 unfold T7 WS
 rw [Uc]
 have key:∀t,t∈Zpq a w↔∃s∈a.start,Pth a s w t:=fun t=>Zde h (fun c hc=>by have:=hw c hc;omega) h.st
 constructor
 · rintro ⟨t,h1,h2⟩;obtain ⟨s,h3,h4⟩:=(key t).1 h1;unfold JS at h2;obtain ⟨f,h5,h6⟩:=Uc.1 h2;rw [UQ] at h6;subst h6;exact ⟨s,h3,f,h5,h4⟩
 · rintro ⟨s,h3,f,h5,h4⟩;refine ⟨f,(key f).2 ⟨s,h3,h4⟩,?_⟩;unfold JS;exact Uc.2 ⟨f,h5,sM⟩
theorem Pth.mono {b:Aut} (hs:∀m∈a.moves,m∈b.moves) {s t:Int} {w:List Int} (h:Pth a s w t):Pth b s w t:=by
 induction h with
 |nil s=>exact .nil s
 |eps hm h1 _ ih=>exact .eps (hs _ hm) h1 ih
 |sym hm h1 _ ih=>exact .sym (hs _ hm) h1 ih
theorem Zos {w:List Int}:Lng (mkA a) w↔Lng a w:=by
 have h1:∀m,m∈(mkA a).moves↔m∈a.moves:=fun m=>Ke
 constructor
 · rintro ⟨s,hs,f,hf,h⟩;exact ⟨s,hs,f,hf,h.mono fun m hm=>(h1 m).1 hm⟩
 · rintro ⟨s,hs,f,hf,h⟩;exact ⟨s,hs,f,hf,h.mono fun m hm=>(h1 m).2 hm⟩
end
theorem Ly {X C:Aut} (hp:PreA X) (h:Jo X= .ok C):IsMin C∧C.syms=X.syms∧∀w,Kq X.syms.toNat w→(T7 C (wI w)=true↔Lng X (wI w)):=by
 unfold Jo Hr at h
 split at h
 · cases h
 · rename_i hb;have hok:=hp.aok hb;have h:WV (mkA X)= .ok C:=h;have hsy:C.syms=(mkA X).syms:=ζS hok h;refine ⟨Zdd hok h,hsy,fun w hw=>?_⟩;rw [ζR hok h (show Kq (mkA X).syms.toNat w from hw),HY hok,Zos];intro c hc;obtain ⟨n,_,rfl⟩:=Xl.1 hc;omega
def Y5 (n:Int) (l:List Int):List Int:=l.map (· +n)
def KS (n:Int) (l:List Mv):List Mv:=l.map fun m=>⟨m.src+n,m.dst+n,m.sym⟩
def J8 (n f:Int) (l:List Int):List Mv:=l.map fun s=>⟨f,s+n,-1⟩
def S3 (n:Int) (F l:List Int):List Mv:=F.flatMap fun f=>J8 n f l
def Kh (a b:Aut):Aut:=⟨a.n+b.n,a.syms,a.start++Y5 a.n b.start,a.fin++Y5 a.n b.fin,a.moves++KS a.n b.moves⟩
def Ku (a b:Aut):Aut:=⟨a.n+b.n,a.syms,a.start,Y5 a.n b.fin,a.moves++KS a.n b.moves++S3 a.n a.fin b.start⟩
theorem ζT (n:Int) {l:List Int} {k:Nat} {x:Int} (h:l[k]? =some x):Y5 n (l.take (k+1))=Y5 n (l.take k)++[x+n]:=by unfold Y5;rw [ZR h,Xs];rfl
theorem ζU (n:Int) {l:List Mv} {k:Nat} {x:Mv} (h:l[k]? =some x):KS n (l.take (k+1))=KS n (l.take k)++[⟨x.src+n,x.dst+n,x.sym⟩]:=by unfold KS;rw [ZR h,Xs];rfl
theorem Da (n f:Int) {l:List Int} {k:Nat} {x:Int} (h:l[k]? =some x):J8 n f (l.take (k+1))=J8 n f (l.take k)++[⟨f,x+n,-1⟩]:=by unfold J8;rw [ZR h,Xs];rfl
theorem ZhV (n:Int) {F:List Int} {k:Nat} {f:Int} (l:List Int) (h:F[k]? =some f):S3 n (F.take (k+1)) l=S3 n (F.take k) l++J8 n f l:=by unfold S3;rw [ZR h,XM,VS]
theorem K4 (n:Int) (l:List Int):(Y5 n l).length=l.length:=Xe _
theorem Lz (n:Int) (l:List Mv):(KS n l).length=l.length:=Xe _
theorem EZ (n:Int) (l:List Int):∀F:List Int,(S3 n F l).length=F.length*l.length
 |[]=>by simp [S3]
 | f::F=>by
   have:=EZ n l F;unfold S3 at this ⊢;rw [Xz,Xb,this,Xk,X6,Ud];unfold J8;rw [Xe]
theorem E0 {n:Int} {l:List Int} (h:l.Nodup):(Y5 n l).Nodup:=Gi h fun x _ y _ e=>oM
theorem TE {α:Type} {l m:List α} (h1:l.Nodup) (h2:m.Nodup) (h:∀x∈l,x∉m):(l++m).Nodup:=VE.2 ⟨h1,h2,fun x hx y hy e=>h x hx (e▸hy)⟩
theorem Kr {n x:Int} {l:List Int}:x∈Y5 n l↔∃y∈l,y+n=x:=by unfold Y5;rw [Xl]
theorem J5 {n:Int} {x:Mv} {l:List Mv}:x∈KS n l↔∃m∈l,(⟨m.src+n,m.dst+n,m.sym⟩:Mv)=x:=by unfold KS;rw [Xl]
theorem TF {n:Int} {x:Mv} {F l:List Int}:x∈S3 n F l↔∃f∈F,∃s∈l,(⟨f,s+n,-1⟩:Mv)=x:=by
 unfold S3 J8
 simp only [XP,Xl]
section
variable {a b:Aut}
theorem ζV (ha:VOk a) {l m:List Int} (hl:InS a l) (hm:InS b m) (h1:l.Nodup) (h2:m.Nodup):(l++Y5 a.n m).Nodup:=
 TE h1 (E0 h2) fun x hx hx'=>by
  obtain ⟨y,hy,rfl⟩:=Kr.1 hx';have h3:=hl _ hx;have h4:=hm y hy;omega
theorem Zkd (ha:VOk a) (hb:VOk b) {l m:List Int} (hl:InS a l) (hm:InS b m):∀x∈l++Y5 a.n m,0≤x∧x<a.n+b.n:=fun x hx=>by
 have h1:=ha.n0
 have h2:=hb.n0
 rcases Xq.1 hx with hx|hx
 · have:=hl x hx;omega
 · obtain ⟨y,hy,rfl⟩:=Kr.1 hx;have:=hm y hy;omega
theorem Zgw (ha:VOk a) (hb:VOk b) (hs:a.syms=b.syms):∀m∈a.moves++KS a.n b.moves,0≤m.src∧m.src<a.n+b.n∧0≤m.dst∧m.dst<a.n+b.n∧-1≤m.sym∧m.sym<a.syms:=fun m hm=>by
 have h1:=ha.n0
 have h2:=hb.n0
 rcases Xq.1 hm with hm|hm
 · have:=ha.mv m hm;omega
 · obtain ⟨y,hy,rfl⟩:=J5.1 hm;have:=hb.mv y hy;dsimp only;omega
theorem E1 (ha:VOk a) (hb:VOk b):(a.moves++KS a.n b.moves).Nodup:=
 TE (Lw ha.ms) (Gi (Lw hb.ms) fun x _ y _ e=>by
  have e:=Mv.mk.inj e
  cases x;cases y;simp only [Mv.mk.injEq] at e ⊢;omega) fun x hx hx'=>by
   obtain ⟨y,hy,rfl⟩:=J5.1 hx';have h3:=ha.mv _ hx;have h4:=hb.mv y hy;dsimp only at h3;omega
theorem RA (ha:VOk a) (hb:VOk b) (hs:a.syms=b.syms):PreA (Kh a b):=by
 have h1:=ha.n0
 have h2:=hb.n0
 exact ⟨by show 0≤a.n+b.n;omega,ha.s0,ha.s1,Zkd ha hb ha.st hb.st,Zkd ha hb ha.fi hb.fi,ζV ha ha.st hb.st (W6 ha.ss) (W6 hb.ss),ζV ha ha.fi hb.fi (W6 ha.fs) (W6 hb.fs),Zgw ha hb hs⟩
theorem ζW (ha:VOk a) (hb:VOk b):(Ku a b).moves.Nodup:=by
 show (a.moves++KS a.n b.moves++S3 a.n a.fin b.start).Nodup
 refine TE (E1 ha hb) ?_ fun x hx hx'=>?_
 · have key:∀F:List Int,F.Nodup→(S3 a.n F b.start).Nodup:=fun F=>by
    induction F with
    |nil=>exact fun _=>Vc
    | cons f F ih=>
      intro h;rw [Vf] at h;show (J8 a.n f b.start++S3 a.n F b.start).Nodup;refine TE (Gi (W6 hb.ss) fun x _ y _ e=>by have:=(Mv.mk.inj e).2.1;omega) (ih h.2) fun x hx hx'=>?_;obtain ⟨f',hf',s',_,rfl⟩:=TF.1 hx';unfold J8 at hx;obtain ⟨s,_,e⟩:=Xl.1 hx;have:=(Mv.mk.inj e).1;subst this;exact h.1 hf'
   exact key _ (W6 ha.fs)
 · obtain ⟨f,hf,s,hs,rfl⟩:=TF.1 hx';have h3:=ha.fi f hf;have h4:=hb.st s hs;rcases Xq.1 hx with hx|hx
   · have h5:=ha.mv _ hx;dsimp only at h5;omega
   · obtain ⟨y,hy,e⟩:=J5.1 hx;have h5:=hb.mv y hy;have h6:=(Mv.mk.inj e).1;omega
theorem HZ (ha:VOk a) (hb:VOk b) (hs:a.syms=b.syms):PreA (Ku a b):=by
 have h1:=ha.n0
 have h2:=hb.n0
 refine ⟨by show 0≤a.n+b.n;omega,ha.s0,ha.s1,fun x hx=>?_,fun x hx=>?_,W6 ha.ss,E0 (W6 hb.fs),fun m hm=>?_⟩
 · have:=ha.st x hx;show 0≤x∧x<a.n+b.n;omega
 · obtain ⟨y,hy,rfl⟩:=Kr.1 hx;have:=hb.fi y hy;show 0≤y+a.n∧y+a.n<a.n+b.n;omega
 · have hm':m∈a.moves++KS a.n b.moves++S3 a.n a.fin b.start:=hm;rcases Xq.1 hm' with hm|hm
   · exact Zgw ha hb hs m hm
   · obtain ⟨f,hf,s,hs',rfl⟩:=TF.1 hm;have h3:=ha.fi f hf;have h4:=hb.st s hs';have h5:=ha.s0;show 0≤f∧f<a.n+b.n∧0≤s+a.n∧s+a.n<a.n+b.n∧-1≤(-1:Int)∧(-1:Int)<a.syms;omega
end
def Gj (a b:Aut):Except Int Aut:=if ¬Wt a b=0 then .error (Wt a b) else Jo (Kh a b)
def GK (a b:Aut):Except Int Aut:=if ¬Wt a b=0 then .error (Wt a b) else Jo (Ku a b)
theorem LA:ElT prog 170 5 1 1 (.int .u8 0):=⟨underlying170,by kernel_rfl,rfl,dC⟩
theorem ZhW {l:List Int} {k:Nat} {x:Int} (h:l[k]? =some x):GV (l.take (k+1))=GV (l.take k)++Lib.itoa x++[32]:=by
 unfold GV;rw [ZR h,XM];simp
theorem Zgx:∀(k u:Nat),u<10^(k+1)→Lib.nDigits u≤k+1
 |0,u,h=>by rw [Lib.nDigits_small (by simpa using h)];omega
 | k +1,u,h=>by
   by_cases h1:u<10
   · rw [Lib.nDigits_small h1];omega
   · rw [Lib.nDigits_big h1];have:=Zgx k (u / 10) (by rw [Nat.pow_succ] at h;omega);omega
theorem Zdf {x:Int} (h0:0≤x) (h1:x≤1000000):(Lib.itoa x).length≤21:=by
 unfold Lib.itoa
 rw [UT oM,Lib.decDigits_length]
 have:=Zgx 6 x.toNat oM
 omega
theorem Zdg:∀{l:List Int},(∀x∈l,0≤x∧x≤1000000)→(GV l).length≤l.length*22
 |[],_=>Xh _
 | x::l,h=>by
   have h1:=Zdg fun y hy=>h y (Xo _ hy);have hx:=h x (Xm ..);have h2:=Zdf hx.1 hx.2;have:GV (x::l)=Lib.itoa x++[32]++GV l:=rfl;rw [this,Xb,Xb];simp only [Xk,XC];omega
theorem Zke (e:Nat) {l:List Int} {k:Nat} {x:Int} (h:l[k]? =some x):PV.own e 1 ((GV (l.take k)).length+(Lib.itoa x).length+1) ((GV (l.take k)++Lib.itoa x).map LY++[PV.val (.int .u8 32)])= .own e 1 (GV (l.take (k+1))).length ((GV (l.take (k+1))).map LY):=by
 rw [ZhW h]
 simp only [Xs,Xb,Xk,XC,Xw,Xx,X']
 rfl
theorem Zmx:prog.globalNamed "internal/strconv.uint64pow10"=ZiU:=by kernel_rfl
theorem ZhX:Zgl prog 260 5:=fun B n i h0 h1 sv xs w hown hBw hlim htab=>Tryz.strconv_AppendInt_10 B n i h0 h1 sv xs w hown hBw hlim htab
theorem E2 (l:List Int) (hl:l.length≤1000000) (h0:∀x∈l,0≤x∧x≤1000000):AF prog 231 [pInts l] (· = .val (.string (TC l))):=by
 refine AFd.of_bodyS 20 func231 rfl ntmps231 (Xa rfl) ?_
 intro w0 M0 vs hl hv hS
 obtain ⟨v0,rfl⟩:=WE hl
 clear hl hv
 have hs0:=hS 0 v0 _ rfl rfl
 clear hS
 refine Ze ?_
 (refine xL 2 Za ?_<;>refine Zk ?_)
 (refine xL 3 Za ?_<;>refine Zc ?_)
 refine Zq (KT 200 5 1 rfl) fun _=>?_
 (refine Zt ?_<;>refine xL 6 Zb (xL 7 (ZW Zr) (xL 8 Zb ?_))<;>refine Zc ?_)
 refine ZE (ι:={q:Nat×Value//q.1≤l.length∧q.2.oneCell'=true}) (fun k=>⟨[(6,_,_),(7,_,_),(3,k.1.2, .val k.1.2),(8, .int .i64 k.1.1,pInt k.1.1)],[(200,k.1.2, .own 5 1 (GV (l.take k.1.1)).length ((GV (l.take k.1.1)).map LY))]⟩) (fun k=>l.length-k.1.1) ⟨(0, .slice none 0 0),Xd _,rfl⟩ (fun a w H=>H.weaken ⟨rfl,rfl,rfl,rfl,trivial⟩ ⟨rfl,trivial⟩) ?_
 rintro ⟨⟨k,r⟩,hk,hr⟩
 dsimp only
 dsimp only at hk hr
 have hkl:=Zdg (l:=l.take k) (fun x hx=>h0 x (VK hx))
 rw [Xn] at hkl
 refine Ze ?_
 (refine xL 9 ZQ ?_<;>refine Zc ?_)
 refine cX ?_ ?_<;>intro hb9
 · first|exact bN hb9|(
 obtain ⟨x,hx⟩:=Zw (show k<l.length by omega);have e1:=Yb (f:=pInt) hx;have hx0:=h0 x (Xc hx);have hil:=Zdf hx0.1 hx0.2;refine Ze ?_;(refine xL 10 (ZH Zr) ?_<;>(refine yL 11 (Ya Zg) fun v11 h=>?_;cases h)<;>refine xL 5 Za ?_<;>refine Zk ?_)
 (refine xL 12 Zb (xL 13 Zb ?_)<;>refine Zjt (i:=x) (bs:=GV (l.take k)) (n:=(GV (l.take k)).length) 200 14 [6,7,8] ZhX (call260) (fun _ h=>h) (fun h=>h) Zmx rfl ⟨hs0, .val _, .val _,trivial⟩ oM oM oM fun h14 ho14=>?_<;>refine ZM (kk:=1) 15 LA fun h15 ho15=>?_<;>(refine ZY 14 15 16 LA fun h16 ho16=>?_;refine Zu (ZD (l:=16) 200 rfl rfl) fun _=>?_;refine Zu (ZF (l:=200) rfl (Zke _ hx)) fun _=>?_)<;>refine xL 3 Za ?_<;>refine Zk ?_)
 (refine xL 17 ZK (xL 8 Zb ?_)<;>refine Zc ?_)
 refine Zn (
  ⟨(k+1,h16),Zh hx,ho16⟩
  ) (by dsimp only;omega) ⟨rfl,rfl,rfl,rfl,trivial⟩ ⟨rfl,trivial⟩)
 · first|exact bN hb9|(
 refine Ze ?_;(refine xL 18 Zb (xL 19 (Zjs 200 underlying170 underlying5 underlying9) (xL 2 Za ?_))<;>refine Zc ?_)
 refine ZA (results231) rfl ?_;rw [Xj oM];rfl)
theorem WP:AggT prog 147 3=true:=by kernel_rfl
theorem Kf:FldT prog 147 1 1=true:=by kernel_rfl
theorem Ky:FldT prog 147 2 2=true:=by kernel_rfl
theorem Wq:MpT prog 251 9 3 .string (.int .i64 0):=⟨underlying251,underlying9, .inl rfl,by show ZeroT _ _ _;unfold ZeroT;kernel_rfl⟩
theorem Yj:NoAgg prog 117=true:=by kernel_rfl
theorem E3:W1 prog 147=some ((.agg #[(.int .i64 0),(.slice none 0 0),(.slice none 0 0)]),([0,1,2]:List Nat).map fun o=>(o,1)):=by kernel_rfl
theorem Gk:(prog.info? 117).map (·.size)=some 1:=by kernel_rfl
theorem Gl:(prog.info? 139).map (·.size)=some 1:=by kernel_rfl
theorem LB:ZeroT prog 147 (.agg #[(.int .i64 0),(.slice none 0 0),(.slice none 0 0)]):=by unfold ZeroT;kernel_rfl
def Wn (r:List Nat):PV:=pInts (toI r)
def Sk (r:List Nat) (j:Nat):Int:=((r[j]?).getD 0:Nat)
theorem ζX (m:Nat):vec m (fun j=>pInt (Sk [] j))=List.replicate m (PV.val (.int .i64 0)):=by rw [Ld];rfl
theorem Db {m:Nat} {r:List Nat} (n:Nat) (h:r.length<m):(vec m fun j=>pInt (Sk r j)).set (r.length*1) (pInt (n:Nat))=vec m fun j=>pInt (Sk (r++[n]) j):=by
 rw [Xp,Ol]
 refine JH fun i hi=>?_
 unfold Sk
 by_cases e:i=r.length
 · subst e;rw [UU rfl];simp
 · rw [UT e,V9];split
   · rfl
   · rw [XL oM,XL (by simp;omega)]
theorem Zfx (r:List Nat):(vec r.length fun j=>pInt (Sk r j))=(toI r).map pInt:=by
 symm
 refine Za9 (by simp [toI]) fun i x hx=>?_
 unfold toI at hx
 rw [XG,Xg,XB] at hx
 obtain ⟨y,hy,rfl⟩:=hx
 unfold Sk;rw [hy];rfl
theorem ζY (e m:Nat) (r:List Nat) (h:r.length=m):share (.own e 1 m (vec m fun j=>pInt (Sk r j)))=Wn r:=by
 subst h
 rw [Zfx,ZV _ _ _ (by simp [toI])];rfl
theorem Lf (e:Nat) (L:List (List Nat)) (x:List Nat):PV.own e 1 (L.length+1) (L.map Wn++[Wn x])= .own e 1 (L++[x]).length ((L++[x]).map Wn):=sM
theorem Gm (e:Nat) (L:List Bool) (x:Bool):PV.own e 1 (L.length+1) (L.map ZN++[ZN x])= .own e 1 (L++[x]).length ((L++[x]).map ZN):=sM
theorem JN (e n:Nat) (l:List (List Nat)) (hn:n=l.length):share (.own e 1 n (l.map Wn))= .sl l.length (l.map Wn):=by
 subst hn
 rw [share,Yr,XG]
 congr 1
theorem Kz (e n:Nat) (l:List Bool) (hn:n=l.length):share (.own e 1 n (l.map ZN))= .sl l.length (l.map ZN):=by
 subst hn
 rw [share,Yr,XG];rfl
def Zdh (t:Tab):PV:= .agg [pInt (t.m:Nat), .sl t.rows.length (t.rows.map Wn), .sl t.fin.length (t.fin.map ZN)]
def ZpJ (a:Aut) (p:PV):Prop:=(∃t,Jc a=some t∧p= .tup [Zdh t,ZN true])∨(Jc a=none∧∃u1 u2 u3:Value,u1.oneCell'=true∧u2.oneCell'=true∧u3.oneCell'=true∧p= .tup [.agg [.val u1, .val u2, .val u3],ZN false])
section
variable {α:Type}
def S4 (f:α→ByteArray) (o:List α) (x:α):Nat:=if posK f o (f x)<o.length then posK f o (f x) else 0
theorem Zdi (f:α→ByteArray) (o:List α) (x:α):(Kt (skv (YT f 0 o)) (.string (f x))).getD (.int .i64 0)= .int .i64 (S4 f o x:Nat)∧(Kt (skv (YT f 0 o)) (.string (f x))).isSome=decide (posK f o (f x)<o.length):=by
 rw [Zca,Tt]
 unfold S4
 by_cases h:posK f o (f x)<o.length
 · rw [UU h,UU h,UR h,Xw];exact ⟨rfl,rfl⟩
 · rw [UT h,UT h,US h];exact ⟨rfl,rfl⟩
end
section
variable {α:Type} {P:Program} {sL hP:List (Nat×Ent)} {o:Oper}
theorem Zkf {t ks e:Nat} {kd:TypeDesc} {z:Value} {x y:Operand} {m:Value} {f:α→ByteArray} {L:List α} {a:α} {p q:PV} (l:Nat) (hT:MpT P t ks e kd z) (hz:z= .int .i64 0) (hkd:kd= .string) (ho:o.op= .lookup t x y true:=by exact rfl) (hx:ev sL x=some (m,p):=by exact rfl) (hl:lk hP l=some (m, .omap (skv (YT f 0 L))):=by exact rfl) (hy:ev sL y=some (.string (f a),q):=by exact rfl):
 YE P (⟨sL,hP⟩:St) o (· = .tuple [.int .i64 (S4 f L a:Nat), .bool (decide (posK f L (f a)<L.length))].toArray) (.tup [.val (.int .i64 (S4 f L a:Nat)), .val (.bool (decide (posK f L (f a)<L.length)))]):=by
 subst hz hkd
 have h:=Zcd (sL:=sL) (hP:=hP) (o:=o) l hT ho hx hl hy (LV _ _)
 rw [(Zdi f L a).1,(Zdi f L a).2] at h
 exact h
end
theorem Zot {o:List (List Int)} {x:List Int} (h:∀l∈o,∀s∈l,0≤s) (hx:∀s∈x,0≤s):posK TC o (TC x)=posK id o x:=GH fun l hl=>Zc3 (h l hl) hx
theorem Zkg (x:List Int):Jg [] (.string (TC x)) (.int .i64 0)=skv (YT TC 0 [x]):=rfl
theorem Zdj {α:Type} {f:α→ByteArray} {o:List α} {x:α} (h:¬posK f o (f x)<o.length):Jg (skv (YT f 0 o)) (.string (f x)) (.int .i64 (o.length:Nat))=skv (YT f 0 (o++[x])):=by
 have:=Of f x o 0 h
 rw [Xw] at this
 rw [Ed,this]
theorem SetOk.nn {a:Aut} {l:List Int} (h:SetOk a l):∀s∈l,0≤s:=fun s hs=>(h.1 s hs).1
theorem SetOk.bd {a:Aut} (ha:AOk a) {l:List Int} (h:SetOk a l):∀s∈l,0≤s∧s≤1000000:=fun s hs=>by have:=h.1 s hs;have:=ha.n1;omega
set_option maxHeartbeats 4000000 in
theorem PC (a : Aut) (h:AOk a):AF prog 185 [ZJ a] (ZpJ a):=by
 have hn1:=h.n1
 have hs0:=h.s0
 have hs1:=h.s1
 have hsN:((a.syms.toNat:Nat):Int)=a.syms:=oM
 have hst:=O5 h
 refine AF.of_body 96 func185 rfl ntmps185 (Xa rfl) ?_
 intro w0 M0 vs hl hv
 obtain ⟨v0,rfl⟩:=WE hl
 clear hl hv
 refine Ze ?_
 (refine ZB 1 5 fun h1=>?_<;>refine Zv [(.int .i64 0),(.slice none 0 0),(.slice none 0 0)] 3 2 LB fun h2=>?_<;>refine xL 3 Za ?_<;>refine Zk ?_)
 ((refine yL 14 (Zs 1 Zf) fun v14 h=>?_;cases h)<;>(refine cS 15 (cA call110 (T0 a h)) fun v15 h=>?_;cases h)<;>refine xL 4 Za ?_<;>refine Zk ?_)
 (refine xL 16 (Zd 1 ZT) ?_<;>(refine yL 17 (Zl 1 Zg) fun v17 h=>?_;cases h)<;>refine xL 18 (ZO E3) ?_<;>refine Zv [(.int .i64 0),(.slice none 0 0),(.slice none 0 0)] 3 5 LB fun h5=>?_<;>refine Zz 5 WP ?_<;>refine Zc ?_)
 refine Zq (WF (l:=5) [pInt a.syms, .own 36 1 0 [], .own 4 1 0 []] rfl rfl (fun i p p' h1 h2=>by
  match i with
  |0=>cases h1;cases h2;exact .inl rfl
  |1=>cases h1;cases h2;exact .inr ⟨rfl,_,_,rfl⟩
  |2=>cases h1;cases h2;exact .inr ⟨rfl,_,_,rfl⟩
  |i+3=>simp at h2)) fun _=>?_
 refine Zq (We (l:=5) (l':=301) (j:=1) rfl rfl rfl rfl) fun i=>?_
 obtain ⟨v301,ho301⟩:=i
 refine Zq (We (l:=5) (l':=302) (j:=2) rfl rfl rfl rfl) fun i=>?_
 obtain ⟨v302,ho302⟩:=i
 dsimp only [List.set]
 (refine Zt ?_<;>refine xL 19 Zb (xL 20 (Zd 1 Z9) ?_)<;>(refine yL 21 (Zl 1 Zy) fun v21 h=>?_;cases h)<;>(refine cO 22 (cA call111 (Po a a.start hn1 h.mi h.st)) fun v22 ho22=>?_;refine Zu (En.freeze (l:=22) (t:=22) rfl rfl) fun _=>?_;rw [ZV _ _ _ rfl])<;>refine ZM (kk:=1) 23 Yw fun h23 ho23=>?_<;>refine xL 6 Za ?_<;>refine Zc ?_)
 refine Zq (ZD (l:=23) 303 rfl rfl) fun _=>?_
 obtain ⟨x0,hx0⟩:∃x0,x0=Y3 a a.start:=⟨_,rfl⟩
 rw [←hx0] at hst ⊢
 have hst2:=hst.len h
 (refine Zt ?_<;>refine Gw 24 fun h24 ho24=>?_<;>refine xL 25 Zb ?_<;>refine xL 26 (Yg (i:=0) 303 Z0) ?_<;>(refine yL 27 (Zl 303 Zy) fun v27 h=>?_;cases h)<;>(refine cS 28 (cA call231 (E2 x0 oM (hst.bd h))) fun v28 h=>?_;cases h)<;>(refine Zju 24 Wq ?_;rw [Zkg])<;>refine xL 29 Zb (xL 7 Za ?_)<;>refine Zc ?_)
 refine Zq (ZD (l:=24) 304 rfl rfl) fun _=>?_
 (refine Zt ?_<;>refine xL 8 Za ?_<;>refine Zc ?_)
 refine ZE (ι:={q:Nat×Value×Value×Value×List (List Int)×List (List Nat)//(W0 a).upto x0 q.1=some (q.2.2.2.2.1,q.2.2.2.2.2)∧q.1≤q.2.2.2.2.1.length∧q.2.1.oneCell'=true∧q.2.2.1.oneCell'=true∧q.2.2.2.1.oneCell'=true}) (fun k=>⟨[(1,_,_),(2,_,_),(3,_,_),(4,_,_),(5,_,_),(7,_,_),(6,k.1.2.2.2.1, .val k.1.2.2.2.1),(8, .int .i64 k.1.1,pInt k.1.1)],[(1,_,_),(2,_,_),(304,h24, .omap (skv (YT TC 0 k.1.2.2.2.2.1))),(5,h5, .own 147 3 1 [pInt a.syms, .val k.1.2.1, .val k.1.2.2.1]),(301,k.1.2.1, .own 36 1 k.1.2.2.2.2.2.length (k.1.2.2.2.2.2.map Wn)),(302,k.1.2.2.1, .own 4 1 ((k.1.2.2.2.2.1.take k.1.1).map (WS a)).length (((k.1.2.2.2.2.1.take k.1.1).map (WS a)).map ZN)),(303,k.1.2.2.2.1, .own 36 1 k.1.2.2.2.2.1.length (k.1.2.2.2.2.1.map pInts))]⟩) (fun k=>2000-k.1.1) ⟨(0,v301,v302,h23,[x0],[]),rfl,Xd _,ho301,ho302,ho23⟩ (fun a w H=>H.weaken ⟨rfl,rfl,rfl,rfl,rfl,rfl,rfl,rfl,trivial⟩ ⟨rfl,rfl,rfl,rfl,rfl,rfl,rfl,trivial⟩) ?_
 rintro ⟨⟨i,r1,r2,r3,o,rows⟩,hU,hi,hr1,hr2,hr3⟩
 dsimp only
 dsimp only at hU hi hr1 hr2 hr3
 have hU':=hU
 rw [hx0] at hU'
 obtain ⟨hOk,hRl,_⟩:=EO h hU'
 have hRl:=hRl hi
 have hcap:o.length≤2000:=hOk.cap
 have hOp:=hOk.p
 have hone1:En.one (PV.val r1)=true:=hr1
 have hone2:En.one (PV.val r2)=true:=hr2
 have hfl:((o.take i).map (WS a)).length≤2000:=by rw [Xe,Xn];omega
 refine Ze ?_
 (refine xL 30 Zb (xL 31 Zb (xL 32 (YH 303 Z0) (xL 33 ZQ ?_)))<;>refine Zc ?_)
 refine cX ?_ ?_<;>intro hb33
 · first | exact bN hb33|(
 obtain ⟨x,hx⟩:=Zw (show i<o.length by omega);have hxs:=hOp x (Xc hx);have hxl:=hxs.len h;refine Ze ?_;(refine xL 36 (Zd 1 ZT) ?_<;>(refine yL 37 (Zl 1 Zg) fun v37 h=>?_;cases h)<;>(refine Jy (n:=a.syms.toNat) 38 Zo (fun h38 ho38=>?_) (hx:=by rw [hsN];exact rfl) (hy:=by rw [hsN];exact rfl) (hb:=by omega))<;>refine xL 9 Za ?_<;>refine Zc ?_)
 rw [←ζX];(refine Zt ?_<;>refine xL 39 Zb (xL 40 (YH 38 Zr) (xL 41 Zb ?_))<;>refine Zc ?_)
 refine ZE (ι:={q:Nat×Value×List (List Int)×List Nat//(W0 a).row i x o q.1=some (q.2.2.1,q.2.2.2)∧q.1≤a.syms.toNat∧q.2.1.oneCell'=true}) (fun k=>⟨[(1,_,_),(2,_,_),(3,_,_),(4,_,_),(5,_,_),(7,_,_),(8,_,_),(9,_,_),(40,_,_),(6,k.1.2.1, .val k.1.2.1),(41, .int .i64 k.1.1,pInt k.1.1)],[(1,_,_),(2,_,_),(5,_,_),(301,_,_),(302,_,_),(303,k.1.2.1, .own 36 1 k.1.2.2.1.length (k.1.2.2.1.map pInts)),(304,h24, .omap (skv (YT TC 0 k.1.2.2.1))),(38,h38, .own 3 1 a.syms.toNat (vec a.syms.toNat fun j=>pInt (Sk k.1.2.2.2 j)))]⟩) (fun k=>a.syms.toNat-k.1.1) ⟨(0,r3,o,[]),rfl,Xd _,hr3⟩ (fun a w H=>H.weaken ⟨rfl,rfl,rfl,rfl,rfl,rfl,rfl,rfl,rfl,rfl,rfl,trivial⟩ ⟨rfl,rfl,rfl,rfl,rfl,rfl,rfl,rfl,trivial⟩) ?_;rintro ⟨⟨s,r3',o',r⟩,hW,hs,hr3'⟩;dsimp only;dsimp only at hW hs hr3';obtain ⟨hMt,hpr,hrl,_⟩:=hOk.toMet.row (fun s _=>SQ h s x) (show s≤(W0 a).m from hs) hW;have hcap':o'.length≤2000:=hMt.cap;have hx':=Kd hpr hx;have hil:=Zh hx';refine Ze ?_;(refine xL 42 ZQ ?_<;>refine Zc ?_)
 refine cX ?_ ?_<;>intro hb42
 · first | exact bN hb42|(
 have hset:=SQ h (s:Nat) x;obtain ⟨set,hse⟩:∃set,set=YO a (s:Nat) x:=⟨_,rfl⟩;rw [←hse] at hset;have hsl:=hset.len h;have hkid:=Zot (fun l hl=>(hMt.p l hl).nn) hset.nn;have e1:=Yb (f:=pInts) hx';have e2:=KO a.syms.toNat (fun j=>pInt (Sk r j));refine Ze ?_;(refine xL 43 Zb (xL 10 Za ?_)<;>refine Zk ?_)
 (refine xL 44 Zb (xL 45 Zb (xL 46 Zb (xL 47 (Yg 303 Z0) ?_)))<;>(refine yL 48 (Zl 303 Zy) fun v48 h=>?_;cases h)<;>refine xL 49 Zb ?_<;>(refine cO 50 (cA call112 (Za6 a x s hn1 h.ml h.mi hxs.1 hxl)) fun v50 ho50=>?_;refine Zu (En.freeze (l:=50) (t:=50) rfl rfl) fun _=>?_;rw [ZV _ _ _ rfl,←hse])<;>refine xL 11 Za ?_<;>refine Zk ?_)
 (refine xL 52 Zb (xL 53 Zb ?_)<;>(refine cS 54 (cA call231 (E2 set oM (hset.bd h))) fun v54 h=>?_;cases h)<;>refine xL 55 (Zkf (f:=TC) (L:=o') (a:=set) 304 Wq rfl rfl) ?_<;>refine xL 51 Zb (xL 56 Zi (xL 57 Zi (xL 12 Za (xL 13 Za ?_))))<;>refine Zk ?_)
 (refine xL 58 Zb (xL 59 Z' ?_)<;>refine Zc ?_)
 refine cX ?_ ?_<;>intro hb59
 · first | exact bN hb59|(
 (have hnew:¬posK TC o' (TC set)<o'.length:=by simpa using hb59);have hnew2:¬posK (W0 a).key o' ((W0 a).key ((W0 a).step i x s))<o'.length:=by
  show ¬posK id o' (YO a (s:Nat) x)<o'.length;rw [←hse,←hkid];exact hnew
 refine Ze ?_;(refine xL 60 Zb (xL 61 (YH 303 Z0) (xL 12 Za ?_))<;>refine Zk ?_)
 (refine xL 62 Zb (xL 63 Ww ?_)<;>refine Zc ?_)
 refine cX ?_ ?_<;>intro hb63
 · first|exact bN hb63|(
 refine Ze ?_;((refine yL 64 (Zs (k:=3) (ps:=[pInt a.syms,PV.val r1,PV.val r2]) 5 kR) fun v64 h=>?_;cases h)<;>refine Zz 2 WP ?_<;>refine xL 3 Za ?_<;>refine Zc ?_)
 refine Z8 (k:=3) 2 kR (results185) rfl rfl rfl (Xa rfl) dC rfl (.inr ⟨?_,_,_,_,rfl,hr1,hr2,rfl⟩);have hv:=SG hnew2 (show (W0 a).cap≤o'.length by show 2000≤o'.length;omega);have h1:=Srch.row_fails (Srch.row_out hW hv) (show s+1≤(W0 a).m by show s+1≤a.syms.toNat;omega);have h2:=Srch.all_none (Srch.upto_out hU hx h1) (show i+1≤(W0 a).cap by show i+1≤2000;omega);unfold Jc;rw [←hx0,h2];rfl)
 · first |exact bN hb63|(
 refine Ze ?_;(refine xL 65 Zb (xL 66 Zb ?_)<;>(refine cS 67 (cA call231 (E2 set oM (hset.bd h))) fun v67 h=>?_;cases h)<;>refine xL 68 Zb ?_<;>(refine GU 304 Wq ?_;rw [Zdj hnew])<;>refine Zk ?_)
 (refine xL 69 Zb (xL 70 Zb ?_)<;>refine ZM (kk:=1) 71 Yw fun h71 ho71=>?_<;>(refine ZY 303 71 72 Yw fun h72 ho72=>?_;refine Zu (ZD (l:=72) 303 rfl rfl) fun _=>?_;refine Zu (ZF (l:=303) rfl (Zfq _ o' set)) fun _=>?_)<;>refine xL 6 Za ?_<;>refine Zk ?_)
 (refine xL 73 Zb (xL 74 Zb (xL 75 Zb (xL 76 (Yg 38 Zr) ?_)))<;>refine YQ 38 Zg Wx ?_<;>refine Zk ?_)
 (refine xL 77 ZK (xL 41 Zb ?_)<;>refine Zc ?_)
 rw [show s*1=r.length*1 by omega,Db _ oM]
 first
  | (exact Zn (
      ⟨(s+1,h72,o'++[set],r++[o'.length]),(by dsimp only;rw [hse];exact Srch.row_snoc hW (Wc hnew2 (show o'.length<2000 by omega))),(by dsimp only;omega),ho72⟩
      ) (by dsimp only;omega) ⟨rfl,rfl,rfl,rfl,rfl,rfl,rfl,rfl,rfl,rfl,rfl,trivial⟩ ⟨rfl,rfl,rfl,rfl,rfl,rfl,rfl,rfl,trivial⟩)
  | (exact Zn (
      ⟨(s+1,r3',o',r++[S4 TC o' set]),(by dsimp only;rw [hnum];exact Srch.row_snoc hW (Wb hold2)),(by dsimp only;omega),hr3'⟩
      ) (by dsimp only;omega) ⟨rfl,rfl,rfl,rfl,rfl,rfl,rfl,rfl,rfl,rfl,rfl,trivial⟩ ⟨rfl,rfl,rfl,rfl,rfl,rfl,rfl,rfl,trivial⟩)))
 · first |exact bN hb59|(
 (have hold:posK TC o' (TC set)<o'.length:=by simpa using hb59);have hold2:posK (W0 a).key o' ((W0 a).key ((W0 a).step i x s))<o'.length:=by
  show posK id o' (YO a (s:Nat) x)<o'.length;rw [←hse,←hkid];exact hold
 have hnum:S4 TC o' set=posK (W0 a).key o' ((W0 a).key ((W0 a).step i x s)):=by
  show S4 TC o' set=posK id o' (YO a (s:Nat) x);unfold S4;rw [UU hold,hkid,hse]
 refine Ze ?_;(refine xL 73 Zb (xL 74 Zb (xL 75 Zb (xL 76 (Yg 38 Zr) ?_)))<;>refine YQ 38 Zg Wx ?_<;>refine Zk ?_)
 (refine xL 77 ZK (xL 41 Zb ?_)<;>refine Zc ?_)
 rw [show s*1=r.length*1 by omega,Db _ oM]
 first
  | (exact Zn (
      ⟨(s+1,h72,o'++[set],r++[o'.length]),(by dsimp only;rw [hse];exact Srch.row_snoc hW (Wc hnew2 (show o'.length<2000 by omega))),(by dsimp only;omega),ho72⟩
      ) (by dsimp only;omega) ⟨rfl,rfl,rfl,rfl,rfl,rfl,rfl,rfl,rfl,rfl,rfl,trivial⟩ ⟨rfl,rfl,rfl,rfl,rfl,rfl,rfl,rfl,trivial⟩)
  | (exact Zn (
      ⟨(s+1,r3',o',r++[S4 TC o' set]),(by dsimp only;rw [hnum];exact Srch.row_snoc hW (Wb hold2)),(by dsimp only;omega),hr3'⟩
      ) (by dsimp only;omega) ⟨rfl,rfl,rfl,rfl,rfl,rfl,rfl,rfl,rfl,rfl,rfl,trivial⟩ ⟨rfl,rfl,rfl,rfl,rfl,rfl,rfl,rfl,trivial⟩)))
 · first|exact bN hb42|(
 have hsm:s=a.syms.toNat:=oM;subst hsm;have hU2:=Srch.upto_snoc hU hx hW;have e1:=Yb (f:=pInts) hx';have htk:o'.take (i+1)=(o.take i)++[x]:=by
  rw [ZR hx'];obtain ⟨e,rfl⟩:=hpr;rw [V4 hi]
 refine nav ?_;refine Zq (En.freeze (l:=38) (t:=9) rfl rfl) fun _=>?_;rw [ζY _ _ _ hrl];(refine ZZ (fun i=>([16,17,18]:List Nat).elem i) [5,303] kR ?_<;>refine xDT 0 78 rfl (Zd 5 Kf) ?_<;>(refine yDT 1 79 rfl (Zl 5 Yj) fun v79 h=>?_;cases h)<;>refine xDT 2 80 rfl Zb ?_<;>refine xDT 5 83 rfl (Zd 5 Ky) ?_<;>(refine yDT 6 84 rfl (Zl 5 Ym) fun v84 h=>?_;cases h)<;>refine xDT 7 85 rfl Zb ?_<;>refine xDT 8 86 rfl Zb ?_<;>refine xDT 9 87 rfl Zb ?_<;>refine xDT 10 88 rfl (Yg 303 Z0) ?_<;>(refine yDT 11 89 rfl (Zl 303 Zy) fun v89 h=>?_;cases h)<;>(refine Zp 3 kR ?_)<;>(refine Zm rfl fun w9 M9 N9 DQ back=>?_)<;>refine ZM (kk:=1) 81 Yw fun h81 ho81=>?_<;>refine Zj (back _ (nrm ?_))<;>(refine Zp 4 kR ?_)<;>(refine Zm rfl fun w9 M9 N9 DQ back=>?_)<;>refine ZY 301 81 82 Yw fun h82 ho82=>?_<;>refine Zj (back _ (nrm ?_))<;>refine xDT 15 93 rfl (Zd 5 Kf) ?_<;>(refine Zp 12 kR ?_)<;>(refine YA (d:=90) rfl (cA call113 (Ey a x hxs.1)) fun v90 h=>?_;cases h)<;>(refine Zp 13 kR ?_)<;>(refine Zm rfl fun w9 M9 N9 DQ back=>?_)<;>refine ZM (kk:=1) 91 YZ fun h91 ho91=>?_<;>refine Zj (back _ (nrm ?_))<;>(refine Zp 14 kR ?_)<;>(refine Zm rfl fun w9 M9 N9 DQ back=>?_)<;>refine ZY 302 91 92 YZ fun h92 ho92=>?_<;>refine Zj (back _ (nrm ?_))<;>(refine Zp 16 kR ?_)<;>(refine Oa rfl rfl fun DQ back=>?_)<;>refine YQ 5 Yj Gk ?_<;>refine Zj (back _ ?_)<;>(refine G5 17 kR rfl rfl fun DQ back=>?_)<;>refine xL 94 (Zd 5 Ky) ?_<;>refine Zj (back _ ?_)<;>(refine G5 18 kR rfl rfl fun DQ back=>?_)<;>refine YQ 5 Ym Gl ?_<;>refine Zj (back _ ?_)<;>refine HQ kR (nav ?_)<;>try dsimp only)
 refine Zq (ZD (l:=82) 301 rfl rfl) fun _=>?_;refine Zq (ZD (l:=92) 302 rfl rfl) fun _=>?_;refine Zq (ZF (l:=301) rfl (Lf _ rows r)) fun _=>?_;refine Zq (ZF (l:=302) rfl (Gm _ ((o.take i).map (WS a)) (WS a x))) fun _=>?_;rw [show ((o.take i).map (WS a))++[WS a x]=(o'.take (i+1)).map (WS a) by rw [htk,Xs];rfl];(refine Zt ?_<;>refine xL 34 Zb (xL 35 ZK (xL 8 Za ?_))<;>refine Zc ?_)
 refine Zn (
  ⟨(i+1,h82,h92,r3',o',rows++[r]),hU2,(by dsimp only;omega),ho82,ho92,hr3'⟩
  ) (by dsimp only;omega) ⟨rfl,rfl,rfl,rfl,rfl,rfl,rfl,rfl,trivial⟩ ⟨rfl,rfl,rfl,rfl,rfl,rfl,rfl,trivial⟩))
 · first|exact bN hb33|(
 have hio:i=o.length:=oM;subst hio;refine nav ?_;refine Zq (Z7 (l:=5) (l':=301) (j:=1) rfl rfl rfl rfl) fun _=>?_;refine Zq (Z7 (l:=5) (l':=302) (j:=2) rfl rfl rfl rfl) fun _=>?_;rw [JN _ _ _ rfl,Kz _ _ _ rfl];(refine Zt ?_<;>(refine yL 95 (Zs 5 WP) fun v95 h=>?_;cases h)<;>refine Zz 2 WP ?_<;>refine xL 3 Za ?_<;>refine Zc ?_)
 refine Z8 (k:=3) 2 kR (results185) rfl rfl rfl (Xa rfl) dC rfl (.inl ⟨⟨a.syms.toNat,rows,o.map (WS a)⟩,?_,?_⟩)
 · unfold Jc;rw [←hx0,Srch.all_some hU (Xh _) (show o.length≤(W0 a).cap from hcap)];rfl
 · unfold Zdh;dsimp only;rw [VI,hsN];rfl)
def Ot (l:List Nat):ByteArray:=TC (toI l)
theorem Zkh (l:List Nat):∀x∈toI l,0≤x:=fun x hx=>by
 unfold toI at hx
 obtain ⟨y,_,rfl⟩:=Xl.1 hx
 omega
theorem Zmy (o:List (List Nat)) (x:List Nat):posK Ot o (Ot x)=posK id o x:=GH fun l _=>by
 unfold Ot
 rw [Zc3 (Zkh l) (Zkh x),Zbf];rfl
theorem Jd {α:Type} (f:α→ByteArray) (o:List α):(skv (YT f 0 o)).length=o.length:=by unfold skv;rw [Xe,ZcA]
theorem Zki {α:Type} {f:α→ByteArray} {o:List α} {x:α} (h:¬posK f o (f x)<o.length):Jg (skv (YT f 0 o)) (.string (f x)) (.int .i64 ((skv (YT f 0 o)).length:Nat))=skv (YT f 0 (o++[x])):=by
 rw [Jd,Zdj h]
def Sp (s:Nat) (f:Nat→Nat) (j:Nat):Int:=if j<s then (f j:Nat) else 0
theorem RB (n:Nat) (f:Nat→Nat):List.replicate n (PV.val (.int .i64 0))=vec n fun j=>pInt (Sp 0 f j):=by
 rw [Ld]
 refine JH fun i _=>?_
 unfold Sp;rw [UT oM]
theorem KD {n s:Nat} {f:Nat→Nat} {x:Int} (hx:x=(f s:Nat)):(vec n fun j=>pInt (Sp s f j)).set (s*1) (pInt x)=vec n fun j=>pInt (Sp (s+1) f j):=by
 rw [Xp,Ol]
 refine JH fun i hi=>?_
 unfold Sp
 by_cases e:i=s
 · subst e;rw [UU rfl,UU oM,hx]
 · rw [UT e];by_cases e2:i<s
   · rw [UU e2,UU oM]
   · rw [UT e2,UT oM]
theorem RD {n s:Nat} {f:Nat→Nat} (hx:f s=0):(vec n fun j=>pInt (Sp s f j))=vec n fun j=>pInt (Sp (s+1) f j):=by
 refine JH fun i hi=>?_
 unfold Sp
 by_cases e:i=s
 · subst e;rw [UT oM,UU oM,hx];rfl
 · by_cases e2:i<s
   · rw [UU e2,UU oM]
   · rw [UT e2,UT oM]
theorem RE (n:Nat) (f:Nat→Nat):(vec n fun j=>pInt (Sp n f j))=vec n fun j=>pInt (f j:Nat):=by
 refine JH fun i hi=>?_
 unfold Sp;rw [UU hi]
theorem Y8 (l:List Nat):(toI l).length=l.length:=by simp [toI]
theorem Zkj (l:List Nat) (x:Nat):toI (l++[x])=toI l++[(x:Int)]:=by simp [toI]
theorem WW (e:Nat) (L:List Nat) (x:Nat):PV.own e 1 (L.length+1) ((toI L).map pInt++[pInt (x:Nat)])= .own e 1 (L++[x]).length ((toI (L++[x])).map pInt):=by simp [Zkj]
def S5 (c:Nat→Nat) (s:Nat) (r:List Nat) (u:Nat):List Nat:=c s::(r.take u).map c
theorem ζZ {c:Nat→Nat} {s:Nat} {r:List Nat} {u x:Nat} (h:r[u]? =some x):S5 c s r u++[c x]=S5 c s r (u+1):=by
 unfold S5;rw [ZR h,Xs];rfl
theorem ζ0 {rows:List (List Nat)} {c:Nat→Nat} {s:Nat} {r:List Nat} {u:Nat} (h:rows[s]? =some r) (hu:r.length≤u):S5 c s r u=Yu rows c s:=by
 unfold S5 Yu;rw [h,Xj hu];rfl
theorem Zdk (c:Nat→Nat) (s:Nat) (r:List Nat) (u:Nat) (h:u≤r.length):(S5 c s r u).length=u+1:=by unfold S5;rw [Xk,Xe,Xn];omega
theorem Zbl {t:Tab} (ht:TOk t) {c:Nat→Nat} (hc:∀s,s<t.rows.length→c s≤t.rows.length) {s:Nat} (hs:s<t.rows.length):∀x∈toI (Yu t.rows c s),0≤x∧x≤2000:=fun x hx=>by
 unfold toI at hx
 obtain ⟨y,hy,rfl⟩:=Xl.1 hx
 have hn:=ht.n1
 have key:∀z,z<t.rows.length→c z≤2000:=fun z hz=>by have:=hc z hz;omega
 unfold Yu at hy
 rcases Xt.1 hy with rfl|hy
 · have:=key s hs;omega
 · obtain ⟨z,hz,rfl⟩:=Xl.1 hy;obtain ⟨r,hr⟩:=Zw hs;rw [hr] at hz;have:=key z (ht.to r (Xc hr) z hz);omega
theorem Zdl {rows:List (List Nat)} {c:Nat→Nat} {s:Nat} (hs:s<rows.length):KP rows c s=posK id (YL (Yu rows c) (s+1)) (Yu rows c s):=(SS (k:=Yu rows c) hs).1
theorem ζ1 {rows:List (List Nat)} {c:Nat→Nat} {s:Nat} (hs:s<rows.length) (h:posK id (YL (Yu rows c) s) (Yu rows c s)<(YL (Yu rows c) s).length):KP rows c s=posK id (YL (Yu rows c) s) (Yu rows c s):=by rw [Zdl hs,EP h]
theorem ζ2 {rows:List (List Nat)} {c:Nat→Nat} {s:Nat} (hs:s<rows.length) (h:¬posK id (YL (Yu rows c) s) (Yu rows c s)<(YL (Yu rows c) s).length):KP rows c s=(YL (Yu rows c) s).length:=by
 rw [Zdl hs,EQ h];exact Oe h
theorem E4 {rows:List (List Nat)} {f:Nat} {c:Nat→Nat} {k:Nat} (h:T3 rows c=k):TB rows (f+1) c k=KP rows c:=by rw [TB,UU h]
theorem E5 {rows:List (List Nat)} {f:Nat} {c:Nat→Nat} {k:Nat} (h:¬T3 rows c=k):TB rows (f+1) c k=TB rows f (KP rows c) (T3 rows c):=by rw [TB,UT h]
set_option maxHeartbeats 4000000 in
theorem Zfy (t :Tab) (ht:TOk t):AF prog 232 [Zdh t] (· = .own 3 1 t.rows.length (vec t.rows.length fun s=>pInt (YD t s:Nat))):=by
 have hn1:=ht.n1
 have hfl:=ht.fl
 have hm1:=ht.m1
 refine AF.of_body 92 func232 rfl ntmps232 (Xa rfl) ?_
 intro w0 M0 vs hl hv
 obtain ⟨v0,rfl⟩:=WE hl
 clear hl hv
 refine Ze ?_
 (refine ZB 1 3 fun h1=>?_<;>refine xL 2 Za ?_<;>refine Zk ?_)
 (refine xL 16 (Zd 1 Kf) ?_<;>(refine yL 17 (Zl 1 Yj) fun v17 h=>?_;cases h)<;>refine xL 18 (ZW Z0) ?_<;>refine Jy 19 Zo fun h19 ho19=>?_<;>refine xL 3 Za ?_<;>refine Zc ?_)
 refine Zq (ZD (l:=19) 303 rfl rfl) fun _=>?_
 rw [RB _ (LQ t.fin)]
 (refine Zt ?_<;>refine xL 20 (Zd 1 Ky) ?_<;>(refine yL 21 (Zl 1 Ym) fun v21 h=>?_;cases h)<;>refine xL 22 (ZW Yo) (xL 23 Zb ?_)<;>refine Zc ?_)
 refine ZE (ι:={s:Nat//s≤t.fin.length}) (fun k=>⟨[(1,_,_),(3,_,_),(21,_,_),(22,_,_),(23, .int .i64 k.1,pInt k.1)],[(1,_,_),(303,h19, .own 3 1 t.rows.length (vec t.rows.length fun j=>pInt (Sp k.1 (LQ t.fin) j)))]⟩) (fun k=>t.fin.length-k.1) ⟨0,Xd _⟩ (fun a w H=>H.weaken ⟨rfl,rfl,rfl,rfl,rfl,trivial⟩ ⟨rfl,rfl,trivial⟩) ?_
 rintro ⟨s,hs⟩
 dsimp only
 refine Ze ?_
 (refine xL 24 ZQ ?_<;>refine Zc ?_)
 refine cX ?_ ?_<;>intro hb24
 · first |exact bN hb24|(
 obtain ⟨b,hb⟩:=Zw (show s<t.fin.length by omega);have e1:=Yb (f:=ZN) hb;have e2:=KO t.rows.length (fun j=>pInt (Sp s (LQ t.fin) j));refine Ze ?_;(refine xL 25 Zb (xL 26 (ZH Yo) ?_)<;>(refine yL 27 (Ya Wa) fun v27 h=>?_;cases h)<;>refine xL 4 Za (xL 5 Za ?_)<;>refine Zk ?_)
 (refine xL 28 Zb ?_<;>refine Zc ?_)
 refine cX ?_ ?_<;>intro hb28
 · first|exact bN hb28|(
 refine Ze ?_;(refine xL 29 Zb (xL 30 Zb (xL 31 (Yg 303 Zr) ?_))<;>refine YQ 303 Zg Wx ?_<;>refine Zk ?_)
 (refine xL 32 ZK (xL 23 Zb ?_)<;>refine Zc ?_)
 try rw [KD (x:=1) (by unfold LQ;rw [hb];show (1:Int)=((if b=true then 1 else 0:Nat):Int);rw [UU hb28];rfl)]
 try rw [RD (by unfold LQ;rw [hb];show (if b=true then 1 else 0)=0;rw [UT (by simpa using hb28)])]
 refine Zn (
  ⟨s+1,oM⟩
  ) (by dsimp only;omega) ⟨rfl,rfl,rfl,rfl,rfl,trivial⟩ ⟨rfl,rfl,trivial⟩)
 · first|exact bN hb28|(
 refine Ze ?_;(refine xL 32 ZK (xL 23 Zb ?_)<;>refine Zc ?_)
 try rw [KD (x:=1) (by unfold LQ;rw [hb];show (1:Int)=((if b=true then 1 else 0:Nat):Int);rw [UU hb28];rfl)]
 try rw [RD (by unfold LQ;rw [hb];show (if b=true then 1 else 0)=0;rw [UT (by simpa using hb28)])]
 refine Zn (
  ⟨s+1,oM⟩
  ) (by dsimp only;omega) ⟨rfl,rfl,rfl,rfl,rfl,trivial⟩ ⟨rfl,rfl,trivial⟩))
 · first | exact bN hb24|(
 have hsn:s=t.rows.length:=oM;subst hsn;rw [RE];refine Ze ?_;(refine xL 6 Za ?_<;>refine Zc ?_)
 refine ZE (ι:={q:Value×(Nat→Nat)×Nat×Nat//COk t.rows.length q.2.1 q.2.2.1∧TB t.rows q.2.2.2 q.2.1 q.2.2.1=YD t∧t.rows.length+2≤q.2.2.2+q.2.2.1∧q.1.oneCell'=true}) (fun k=>⟨[(1,_,_),(3,k.1.1, .val k.1.1),(6, .int .i64 k.1.2.2.1,pInt k.1.2.2.1)],[(1,_,_),(303,k.1.1, .own 3 1 t.rows.length (vec t.rows.length fun j=>pInt (k.1.2.1 j:Nat)))]⟩) (fun k=>t.rows.length+2-k.1.2.2.1) ⟨(h19,LQ t.fin,0,t.rows.length+2),COk.start _ _,rfl,by dsimp only;omega,ho19⟩ (fun a w H=>H.weaken ⟨rfl,rfl,rfl,trivial⟩ ⟨rfl,rfl,trivial⟩) ?_;rintro ⟨⟨hv3,c,cnt,fuel⟩,hC,hit,hfu,hv3o⟩;dsimp only;dsimp only at hC hit hfu hv3o;have hle:=hC.le;have hbd:=hC.bd;obtain ⟨f,rfl⟩:∃f,fuel=f+1:=⟨fuel-1,oM⟩;have hgr:=hC.grow;have hnx:=hC.next
 refine Ze ?_;(refine Gw 33 fun h33 ho33=>?_<;>refine xL 7 Za ?_<;>refine Zk ?_)
 (refine xL 34 Zb (xL 35 (YH 303 Zr) ?_)<;>refine Jy 36 Zo fun h36 ho36=>?_<;>refine xL 8 Za ?_<;>refine Zc ?_)
 refine Zq (ZD (l:=33) 304 rfl rfl) fun _=>?_;refine Zq (ZD (l:=36) 305 rfl rfl) fun _=>?_;rw [RB _ (KP t.rows c)];refine Zq (ZF (l:=304) (p':= .omap (skv (YT Ot 0 (YL (Yu t.rows c) 0)))) rfl rfl) fun _=>?_;(refine Zt ?_<;>refine xL 37 (Zd 1 Kf) ?_<;>(refine yL 38 (Zl 1 Yj) fun v38 h=>?_;cases h)<;>refine xL 39 (ZW Z0) (xL 40 Zb ?_)<;>refine Zc ?_)
 refine ZE (ι:={s:Nat//s≤t.rows.length}) (fun k=>⟨[(1,_,_),(3,_,_),(6,_,_),(7,_,_),(8,_,_),(38,_,_),(39,_,_),(40, .int .i64 k.1,pInt k.1)],[(1,_,_),(303,_,_),(304,h33, .omap (skv (YT Ot 0 (YL (Yu t.rows c) k.1)))),(305,h36, .own 3 1 t.rows.length (vec t.rows.length fun j=>pInt (Sp k.1 (KP t.rows c) j)))]⟩) (fun k=>t.rows.length-k.1) ⟨0,Xd _⟩ (fun a w H=>H.weaken ⟨rfl,rfl,rfl,rfl,rfl,rfl,rfl,rfl,trivial⟩ ⟨rfl,rfl,rfl,rfl,trivial⟩) ?_;rintro ⟨s,hs⟩;dsimp only;refine Ze ?_;(refine xL 41 ZQ ?_<;>refine Zc ?_)
 refine cX ?_ ?_<;>intro hb41
 · first | exact bN hb41|(
 have hlt:s<t.rows.length:=oM;obtain ⟨r,hr⟩:=Zw hlt;have e1:=Yb (f:=Wn) hr;have hrl:=ht.rl r (Xc hr);have hrt:=ht.to r (Xc hr);have htl:=Y8 r;have e2:=Kw (fun j=>pInt (c j:Nat)) hlt;have e3:=KO t.rows.length (fun j=>pInt (Sp s (KP t.rows c) j));have hkl:=SR (Yu t.rows c) s;refine Ze ?_;(refine xL 42 Zb (xL 43 (ZH Z0) ?_)<;>(refine yL 44 (Ya Zy) fun v44 h=>?_;cases h)<;>refine xL 9 Za (xL 10 Za ?_)<;>refine Zk ?_)
 (refine xL 45 Zb (xL 46 Zb (xL 47 (Yg 303 Zr) ?_))<;>(refine yL 48 (Zl 303 Zg) fun v48 h=>?_;cases h)<;>refine ZM (kk:=1) 49 Zo fun h49 ho49=>?_<;>refine xL 11 Za ?_<;>refine Zc ?_)
 refine Zq (ZD (l:=49) 306 rfl rfl) fun _=>?_;refine Zq (ZF (l:=306) (p':= .own 3 1 (S5 c s r 0).length ((toI (S5 c s r 0)).map pInt)) rfl rfl) fun _=>?_;refine Wm 10 rfl fun hlen10=>?_;(refine Zt ?_<;>refine xL 50 Zb (xL 51 (ZW Zr) (xL 52 Zb ?_))<;>refine Zc ?_)
 refine ZE (ι:={q:Nat×Value//q.1≤r.length∧q.2.oneCell'=true}) (fun k=>⟨[(1,_,_),(3,_,_),(6,_,_),(7,_,_),(8,_,_),(9,_,_),(38,_,_),(39,_,_),(40,_,_),(50,_,_),(51,_,_),(11,k.1.2, .val k.1.2),(52, .int .i64 k.1.1,pInt k.1.1)],[(1,_,_),(303,_,_),(304,_,_),(305,_,_),(306,k.1.2, .own 3 1 (S5 c s r k.1.1).length ((toI (S5 c s r k.1.1)).map pInt))]⟩) (fun k=>r.length-k.1.1) ⟨(0,h49),Xd _,ho49⟩ (fun a w H=>H.weaken ⟨rfl,rfl,rfl,rfl,rfl,rfl,rfl,rfl,rfl,rfl,rfl,rfl,rfl,trivial⟩ ⟨rfl,rfl,rfl,rfl,rfl,trivial⟩) ?_;rintro ⟨⟨u,hv⟩,hu,hvo⟩;dsimp only;dsimp only at hu hvo;have hkpl:=Zdk c s r u hu;refine Ze ?_;(refine xL 53 ZQ ?_<;>refine Zc ?_)
 refine cX ?_ ?_<;>intro hb53
 · first|exact bN hb53|(
 obtain ⟨x,hx⟩:=Zw (show u<r.length by omega);have hxn:=hrt x (Xc hx);(have e4:((toI r).map pInt)[u*1]? =some (pInt (x:Nat)):=by rw [Xp,Xg];unfold toI;rw [Xg,hx];rfl);have e5:=Kw (fun j=>pInt (c j:Nat)) hxn;refine Ze ?_;(refine xL 54 (ZH Zr) ?_<;>(refine yL 55 (Ya Zg) fun v55 h=>?_;cases h)<;>refine xL 13 Za ?_<;>refine Zk ?_)
 (refine xL 56 Zb (xL 57 Zb (xL 58 Zb (xL 59 (Yg 303 Zr) ?_)))<;>(refine yL 60 (Zl 303 Zg) fun v60 h=>?_;cases h)<;>refine ZM (kk:=1) 61 Zo fun h61 ho61=>?_<;>(refine ZY 306 61 62 Zo fun h62 ho62=>?_;refine Zu (ZD (l:=62) 306 rfl rfl) fun _=>?_;refine Zu (ZF (l:=306) rfl ((WW _ (S5 c s r u) (c x)).trans (by rw [ζZ hx]))) fun _=>?_)<;>refine xL 11 Za ?_<;>refine Zk ?_)
 (refine xL 63 ZK (xL 52 Zb ?_)<;>refine Zc ?_)
 refine Zn (
  ⟨(u+1,h62),Zh hx,ho62⟩
  ) (by dsimp only;omega) ⟨rfl,rfl,rfl,rfl,rfl,rfl,rfl,rfl,rfl,rfl,rfl,rfl,rfl,trivial⟩ ⟨rfl,rfl,rfl,rfl,rfl,trivial⟩)
 · first |exact bN hb53|(
 have hK:=ζ0 (c:=c) hr (show r.length≤u by omega);rw [hK];have hkb:=Zbl ht hbd hlt;(have hkl2:(Yu t.rows c s).length≤1000:=by rw [←hK,hkpl];omega);have hid:=Zmy (YL (Yu t.rows c) s) (Yu t.rows c s);refine nav ?_;refine Zq (En.freeze (l:=306) (t:=11) rfl rfl) fun _=>?_;rw [ZV _ _ _ (by rw [Y8])];(refine Zt ?_<;>refine xL 65 Zb (xL 66 Zb ?_)<;>(refine cS 67 (cA call231 (E2 (toI (Yu t.rows c s)) (by rw [Y8];omega) (fun x hx=>by have:=hkb x hx;omega))) fun v67 h=>?_;cases h)<;>refine xL 68 (Zkf (f:=Ot) (L:=YL (Yu t.rows c) s) (a:=Yu t.rows c s) 304 Wq rfl rfl) ?_<;>refine xL 64 Zb (xL 69 Zi (xL 70 Zi (xL 14 Za (xL 15 Za ?_))))<;>refine Zk ?_)
 (refine xL 71 Zb (xL 72 Z' ?_)<;>refine Zc ?_)
 refine cX ?_ ?_<;>intro hb72
 · first|exact bN hb72|(
 (have hnew:¬posK Ot (YL (Yu t.rows c) s) (Ot (Yu t.rows c s))<(YL (Yu t.rows c) s).length:=by simpa using hb72);have hnew2:=hnew;rw [hid] at hnew2;have hnn:=ζ2 hlt hnew2;have hff:=EQ hnew2;refine Ze ?_;(refine xL 73 Zb (xL 74 (HN 304 underlying251) (xL 14 Za ?_))<;>refine Zk ?_)
 (refine xL 75 Zb (xL 76 Zb ?_)<;>(refine cS 77 (cA call231 (E2 (toI (Yu t.rows c s)) (by rw [Y8];omega) (fun x hx=>by have:=hkb x hx;omega))) fun v77 h=>?_;cases h)<;>refine xL 78 Zb ?_<;>(refine GU 304 Wq ?_;rw [show Jg (skv (YT Ot 0 (YL (Yu t.rows c) s))) (.string (TC (toI (Yu t.rows c s)))) (.int .i64 ((skv (YT Ot 0 (YL (Yu t.rows c) s))).length:Nat))=skv (YT Ot 0 (YL (Yu t.rows c) (s+1))) by rw [hff];exact Zki hnew])<;>refine Zk ?_)
 (refine xL 79 Zb (xL 80 Zb (xL 81 Zb (xL 82 (Yg 305 Zr) ?_)))<;>refine YQ 305 Zg Wx ?_<;>refine Zk ?_)
 (refine xL 83 ZK (xL 40 Zb ?_)<;>refine Zc ?_)
 try rw [KD (by rw [Jd,hnn])]
 try rw [KD hnum,←hfo]
 refine Zn (
  ⟨s+1,oM⟩
  ) (by dsimp only;omega) ⟨rfl,rfl,rfl,rfl,rfl,rfl,rfl,rfl,trivial⟩ ⟨rfl,rfl,rfl,rfl,trivial⟩)
 · first|exact bN hb72|(
 (have hold:posK Ot (YL (Yu t.rows c) s) (Ot (Yu t.rows c s))<(YL (Yu t.rows c) s).length:=by simpa using hb72);have hold2:=hold;rw [hid] at hold2;have hno:=ζ1 hlt hold2;have hfo:=EP hold2;(have hnum:(S4 Ot (YL (Yu t.rows c) s) (Yu t.rows c s):Int)=(KP t.rows c s:Nat):=by unfold S4;rw [UU hold,hid,hno]);refine Ze ?_;(refine xL 79 Zb (xL 80 Zb (xL 81 Zb (xL 82 (Yg 305 Zr) ?_)))<;>refine YQ 305 Zg Wx ?_<;>refine Zk ?_)
 (refine xL 83 ZK (xL 40 Zb ?_)<;>refine Zc ?_)
 try rw [KD (by rw [Jd,hnn])]
 try rw [KD hnum,←hfo]
 refine Zn (
  ⟨s+1,oM⟩
  ) (by dsimp only;omega) ⟨rfl,rfl,rfl,rfl,rfl,rfl,rfl,rfl,trivial⟩ ⟨rfl,rfl,rfl,rfl,trivial⟩)))
 · first |exact bN hb41|(
 have hsn:s=t.rows.length:=oM;subst hsn;rw [RE];refine nav ?_;refine Zq (ZD (l:=303) 302 rfl rfl) fun _=>?_;refine Zq (ZD (l:=305) 303 rfl rfl) fun _=>?_;(refine Zt ?_<;>refine xL 84 Zb (xL 3 Za ?_)<;>refine Zk ?_)
 (refine xL 85 Zb (xL 86 (HN 304 underlying251) (xL 87 Zb (xL 88 Yf ?_)))<;>refine Zc ?_)
 refine cX ?_ ?_<;>intro hb88
 · first|exact bN hb88|(
 (have hcc:T3 t.rows c=cnt:=by rw [Jd] at hb88;unfold T3;omega);refine Ze ?_;(refine xL 89 Zb (xL 2 Za ?_)<;>refine Zc ?_)
 refine Kk 303 (results232) rfl rfl ?_;rw [←hit,E4 hcc])
 · first|exact bN hb88|(
 (have hcc:¬T3 t.rows c=cnt:=by rw [Jd] at hb88;unfold T3;omega);refine Ze ?_;(refine xL 90 Zb (xL 91 (HN 304 underlying251) (xL 6 Za ?_))<;>refine Zc ?_)
 rw [Jd];refine Zn (
  ⟨(h36,KP t.rows c,T3 t.rows c,f),hnx,by dsimp only;rw [←hit,E5 hcc],by dsimp only;omega,ho36⟩
  ) (by have:=hnx.le;dsimp only;omega) ⟨rfl,rfl,rfl,trivial⟩ ⟨rfl,rfl,trivial⟩)))
end Go.Proofs.YtgfabnhpllkebaaGreatDoor
