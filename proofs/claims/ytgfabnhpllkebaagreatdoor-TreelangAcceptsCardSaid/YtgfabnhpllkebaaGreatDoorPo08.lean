/-
  Walks of functions and plain laws of the chapter, as the claim needs them.
-/
import Derived.Test.YtgfabnhpllkebaaGreatDoorPo07
import Derived.Test.YtgfabnhpllkebaaGreatDoorPo06
import Derived.Test.YtgfabnhpllkebaaGreatDoorPo03
import Derived.Test.YtgfabnhpllkebaaGreatDoorMShelfE
import Derived.Test.YtgfabnhpllkebaaGreatDoorPo01
namespace Go.Proofs.YtgfabnhpllkebaaGreatDoor
open Go.RowKit Go.Cb Go.En Tryz
set_option linter.all false
set_option maxRecDepth 100000
theorem OS {a b:Mv} {x:Bool} (h:x=true↔Ka a b=true):ZM x=ZM (Ka a b):=by rw [V6.2 h]
theorem DN (a b:Mv):AF prog 187 [.agg (cMv a), .agg (cMv b)] (· =ZM (Ka a b)):=by
 refine AF.of_body 30 func187 rfl ntmps187 (Xa rfl) ?_
 intro w0 M0 vs hl hv
 obtain ⟨v0,v1,rfl⟩:=YI hl
 clear hl hv
 refine Ze ?_
 (refine ZB 2 3 fun h2=>?_<;>refine ZB 3 3 fun h3=>?_<;>refine xL 4 Za ?_<;>refine Zi ?_)
 (refine xL 5 (Zd 2 Yb) ?_<;>(refine yL 6 (Zk 2 Zg) fun v6 h=>?_;cases h)<;>refine xL 7 (Zd 3 Yb) ?_<;>(refine yL 8 (Zk 3 Zg) fun v8 h=>?_;cases h)<;>refine xL 9 Yv ?_<;>refine Zc ?_)
 refine cX ?_ ?_<;>intro hb9
 · first|exact bN hb9|(
 refine Ze ?_;(refine xL 10 (Zd 2 Yb) ?_<;>(refine yL 11 (Zk 2 Zg) fun v11 h=>?_;cases h)<;>refine xL 12 (Zd 3 Yb) ?_<;>(refine yL 13 (Zk 3 Zg) fun v13 h=>?_;cases h)<;>refine xL 14 ZP (xL 4 Za ?_)<;>refine Zc ?_)
 refine Zz (results187) rfl (OS ?_);rw [WM,UP];omega)
 · first|exact bN hb9|(
 refine Ze ?_;(refine xL 15 (Zd 2 Yj) ?_<;>(refine yL 16 (Zk 2 Zg) fun v16 h=>?_;cases h)<;>refine xL 17 (Zd 3 Yj) ?_<;>(refine yL 18 (Zk 3 Zg) fun v18 h=>?_;cases h)<;>refine xL 19 Yv ?_<;>refine Zc ?_)
 refine cX ?_ ?_<;>intro hb19
 · first|exact bN hb19|(
 refine Ze ?_;(refine xL 20 (Zd 2 Yj) ?_<;>(refine yL 21 (Zk 2 Zg) fun v21 h=>?_;cases h)<;>refine xL 22 (Zd 3 Yj) ?_<;>(refine yL 23 (Zk 3 Zg) fun v23 h=>?_;cases h)<;>refine xL 24 ZP (xL 4 Za ?_)<;>refine Zc ?_)
 refine Zz (results187) rfl (OS ?_);rw [WM,UP];omega)
 · first|exact bN hb19|(
 refine Ze ?_;(refine xL 25 (Zd 2 Yg) ?_<;>(refine yL 26 (Zk 2 Zg) fun v26 h=>?_;cases h)<;>refine xL 27 (Zd 3 Yg) ?_<;>(refine yL 28 (Zk 3 Zg) fun v28 h=>?_;cases h)<;>refine xL 29 ZP (xL 4 Za ?_)<;>refine Zc ?_)
 refine Zz (results187) rfl (OS ?_);rw [WM,UP];omega))
theorem Sz (l :List Int) (n:Int):AF prog 234 [pInts l,pInt n] (· =ZM (Lp n l)):=by
 refine AF.of_body 41 func234 rfl ntmps234 (Xa rfl) ?_
 intro w0 M0 vs hl hv
 obtain ⟨v0,v1,rfl⟩:=YI hl
 obtain rfl:=hv 1 _ _ rfl rfl
 clear hl hv
 refine YZ 0 rfl fun hlen=>?_
 refine Ze ?_
 (refine xL 4 Za ?_<;>refine Zi ?_)
 (refine xL 5 Za ?_<;>refine Zc ?_)
 refine ZD (ι:={k:Nat//k≤l.length∧∀j x,j<k→l[j]? =some x→(0≤x∧x<n)∧∀y,1≤j→l[j-1]? =some y→ltI y x=true}) (fun k=>⟨[(0,_,_),(1,_,_),(5, .int .i64 k.1,pInt k.1)],[]⟩) (fun k=>l.length-k.1) ⟨0,oM,oM⟩ (fun a w H=>H.weaken ⟨rfl,rfl,rfl,trivial⟩ trivial) ?_
 rintro ⟨k,hk,hp⟩
 dsimp only
 refine Ze ?_
 (refine xL 6 Zb (xL 7 Zb (xL 8 (ZT Zp) (xL 9 ZP ?_)))<;>refine Zc ?_)
 refine cX ?_ ?_<;>intro hb9
 · first | exact bN hb9|(
 obtain ⟨x,hx⟩:=Zt (show k<l.length by omega);obtain ⟨y,hy⟩:=Zt (show k-1<l.length by omega);have e1:=Z7 (f:=pInt) hx;(have e2:(l.map pInt)[((k:Int)-1).toNat*1]? =some (pInt y):=by rw [show ((k:Int)-1).toNat*1=k-1 by omega];exact (by rw [Xh,hy];rfl));refine nav ?_;(refine ZZ (fun i=>([]:List Nat).elem i) [] kR ?_<;>refine xD 0 12 rfl Zb ?_<;>refine xE 1 13 rfl Zb ?_<;>refine xE 2 14 rfl (ZI Zp) ?_<;>(refine yE 3 15 rfl (Z9 Zg) fun v15 h=>?_;cases h)<;>refine xE 4 16 rfl ZP ?_<;>refine xE 5 17 rfl Zb ?_<;>(refine bDd 17 (fun hb17=>?_) (fun hb17=>?_)<;>(first|refine kD 6 18 rfl ?_|refine xD 6 18 rfl Zb ?_))<;>(first|refine kD 7 19 rfl ?_|refine xD 7 19 rfl Zb ?_)<;>(first|refine kD 8 20 rfl ?_|refine xD 8 20 rfl (ZI Zp) ?_)<;>(first|refine kD 9 21 rfl ?_|(refine yD 9 21 rfl (Z9 Zg) fun v21 h=>?_;cases h))<;>(first|refine kD 10 22 rfl ?_|refine xD 10 22 rfl Zb ?_)<;>(first|refine kD 11 23 rfl ?_|refine xD 11 23 rfl Wi ?_)<;>refine xE 12 24 rfl ZF ?_<;>refine xE 13 25 rfl Zb ?_<;>(first|refine kD 14 26 rfl ?_|(refine bDd 25 (fun hb25=>?_) (fun hb25=>?_)<;>(first|refine kD 14 26 rfl ?_|refine xD 14 26 rfl Zb ?_)))<;>(first|refine kD 15 27 rfl ?_|refine xD 15 27 rfl Yr ?_)<;>(first|refine kD 16 28 rfl ?_|refine xD 16 28 rfl Zb ?_)<;>(first|refine kD 17 29 rfl ?_|(refine bDd 28 (fun hb28=>?_) (fun hb28=>?_)<;>(first|refine kD 17 29 rfl ?_|refine xD 17 29 rfl Zb ?_)))<;>(first|refine kD 18 30 rfl ?_|refine xD 18 30 rfl Zb ?_)<;>(first|refine kD 19 31 rfl ?_|refine xD 19 31 rfl K7 ?_)<;>(first|refine kD 20 32 rfl ?_|refine xD 20 32 rfl (Sg Zp) ?_)<;>(first|refine kD 21 33 rfl ?_|(refine yD 21 33 rfl (Z9 Zg) fun v33 h=>?_;cases h))<;>(first|refine kD 22 34 rfl ?_|refine xD 22 34 rfl Zb ?_)<;>(first|refine kD 23 35 rfl ?_|refine xD 23 35 rfl Zb ?_)<;>(first|refine kD 24 36 rfl ?_|refine xD 24 36 rfl (ZI Zp) ?_)<;>(first|refine kD 25 37 rfl ?_|(refine yD 25 37 rfl (Z9 Zg) fun v37 h=>?_;cases h))<;>(first|refine kD 26 38 rfl ?_|refine xD 26 38 rfl Wi ?_)<;>(first|refine kD 27 39 rfl ?_|refine xD 27 39 rfl ZF ?_)<;>refine xE 28 40 rfl ZF ?_<;>refine Yw kR (nav ?_)<;>try dsimp only)<;>(
 refine cX ?_ ?_<;>intro hb40
 · first|exact bN hb40|(
 refine Ze ?_;(refine xL 4 Za ?_<;>refine Zc ?_)
 refine Zz (results234) rfl ?_;unfold Lp
 first
  |rw [PO hx (by simp;omega)];rfl
  |rw [Lu oM hy hx (by unfold ltI;exact UR oM),Bool.and_false])
 · first |exact bN hb40|(
 refine Ze ?_;(refine xL 10 Zb (xL 11 ZG (xL 5 Za ?_))<;>refine Zc ?_)
 refine Zm (
  ⟨k + 1,oM,fun j z hj hz=>by
   by_cases e:j=k
   · subst e;rw [hx] at hz;cases hz;refine ⟨⟨oM,oM⟩,fun y' h1 hy'=>?_⟩;rw [hy] at hy';cases hy';unfold ltI
     first
      |omega
      |exact UQ oM
   · exact hp j z oM hz⟩
  ) (by dsimp only;omega) ⟨rfl,rfl,rfl,trivial⟩ trivial)))
 · first|exact bN hb9|(
 refine Ze ?_;(refine xL 4 Za ?_<;>refine Zc ?_)
 refine Zz (results234) rfl ?_;have h1:l.all (fun x=>decide (0≤x)&&decide (x<n))=true:=by
  rw [XB];intro z hz;obtain ⟨j,hj,rfl⟩:=VK hz;have h2:=(hp j _ oM (XX hj)).1;simp [h2.1,h2.2]
 have h2:Wv ltI l=true:=TC fun j x y h1 hy hx=>(hp j x (by have:=Zf hx;omega) hx).2 y h1 hy;unfold Lp;rw [h1,h2];rfl)
theorem YU (a : Aut) (hl:a.moves.length≤1000000):AF prog 192 [ZN a] (· =ZM (Z4 a)):=by
 refine AF.of_body 102 func192 rfl ntmps192 (Xa rfl) ?_
 intro w0 M0 vs hl hv
 obtain ⟨v0,rfl⟩:=Wl hl
 clear hl hv
 refine Ze ?_
 (refine ZB 1 5 fun h1=>?_<;>refine xL 2 Za ?_<;>refine Zi ?_)
 (refine xL 5 (Zd 1 ZQ) ?_<;>(refine yL 6 (Zk 1 Zg) fun v6 h=>?_;cases h)<;>refine xL 7 ZP (xL 8 Zb ?_)<;>(refine bLd 8 (fun hb8=>?_) (fun hb8=>?_)<;>(first|refine kL 9 ?_|refine xL 9 (Zd 1 ZQ) ?_))<;>(first|refine kL 10 ?_|(refine yL 10 (Zk 1 Zg) fun v10 h=>?_;cases h))<;>(first|refine kL 11 ?_|refine xL 11 Yr ?_)<;>refine xL 12 ZF (xL 13 Zb ?_)<;>(first|refine kL 14 ?_|(refine bLd 13 (fun hb13=>?_) (fun hb13=>?_)<;>(first|refine kL 14 ?_|refine xL 14 (Zd 1 Z3) ?_)))<;>(first|refine kL 15 ?_|(refine yL 15 (Zk 1 Zg) fun v15 h=>?_;cases h))<;>(first|refine kL 16 ?_|refine xL 16 ZP ?_)<;>refine xL 17 ZF (xL 18 Zb ?_)<;>(first|refine kL 19 ?_|(refine bLd 18 (fun hb18=>?_) (fun hb18=>?_)<;>(first|refine kL 19 ?_|refine xL 19 (Zd 1 Z3) ?_)))<;>(first|refine kL 20 ?_|(refine yL 20 (Zk 1 Zg) fun v20 h=>?_;cases h))<;>(first|refine kL 21 ?_|refine xL 21 Yr ?_)<;>refine xL 22 ZF (xL 23 Zb ?_)<;>(first|refine kL 24 ?_|(refine bLd 23 (fun hb23=>?_) (fun hb23=>?_)<;>(first|refine kL 24 ?_|refine xL 24 (Zd 1 Zx) ?_)))<;>(first|refine kL 25 ?_|(refine yL 25 (Zk 1 ZA) fun v25 h=>?_;cases h))<;>(first|refine kL 26 ?_|refine xL 26 (ZT ZK) ?_)<;>(first|refine kL 27 ?_|refine xL 27 Yr ?_)<;>refine xL 28 ZF ?_<;>refine Zc ?_)<;>(
 refine cX ?_ ?_<;>intro hb28
 · first|exact bN hb28|(
 refine Ze ?_;(refine xL 2 Za ?_<;>refine Zc ?_)
 refine Zz (results192) rfl ?_;rw [Su oM])
 · first | exact bN hb28|(
 refine Ze ?_;(refine xL 3 Za ?_<;>refine Zc ?_)
 refine ZD (ι:={k:Nat//k≤a.moves.length∧∀j x,j<k→a.moves[j]? =some x→RE a x=true∧∀y,1≤j→a.moves[j-1]? =some y→Ka y x=true}) (fun k=>⟨[(1,_,_),(3, .int .i64 k.1,pInt k.1)],[(1,_,_)]⟩) (fun k=>a.moves.length-k.1) ⟨0,oM,oM⟩ (fun a w H=>H.weaken ⟨rfl,rfl,trivial⟩ ⟨rfl,trivial⟩) ?_;rintro ⟨k,hk,hp⟩;dsimp only;refine Ze ?_;(refine xL 29 Zb (xL 30 (Zd 1 Zx) ?_)<;>(refine yL 31 (Zk 1 ZA) fun v31 h=>?_;cases h)<;>refine xL 32 (ZT ZK) (xL 33 ZP ?_)<;>refine Zc ?_)
 refine cX ?_ ?_<;>intro hb33
 · first | exact bN hb33|(
 obtain ⟨x,hx⟩:=Zt (show k<a.moves.length by omega);obtain ⟨y,hy⟩:=Zt (show k-1<a.moves.length by omega);have e1:=Ym Z2 a.moves k x hx;have e2:=YK Z2 hx;(have e3:((a.moves.flatMap cMv).drop (((k:Int)-1).toNat*3)).take 3=cMv y:=by rw [show ((k:Int)-1).toNat*3=(k-1)*3 by omega];exact Ym Z2 a.moves (k-1) y hy);have e4:=YK Z2 hy;refine Ze ?_;(refine xL 36 (Zd 1 Zx) ?_<;>(refine yL 37 (Zk 1 ZA) fun v37 h=>?_;cases h)<;>refine xL 38 Zb (xL 39 (ZI ZK) ?_)<;>(refine yL 40 (Wn ZX) fun v40 h=>?_;cases h)<;>refine Zw [(.int .i64 0),(.int .i64 0),(.int .i64 0)] 3 4 Kh fun h4=>?_<;>refine ZE 4 ZX ?_<;>refine Zc ?_)
 (refine ZZ (fun i=>([]:List Nat).elem i) [1,4] kR ?_<;>refine xE 0 41 rfl (Zd 4 Yb) ?_<;>(refine yE 1 42 rfl (Zk 4 Zg) fun v42 h=>?_;cases h)<;>refine xE 2 43 rfl ZP ?_<;>refine xE 3 44 rfl Zb ?_<;>(refine bDd 44 (fun hb44=>?_) (fun hb44=>?_)<;>(first|refine kD 4 45 rfl ?_|refine xD 4 45 rfl (Zd 4 Yb) ?_))<;>(first|refine kD 5 46 rfl ?_|(refine yD 5 46 rfl (Zk 4 Zg) fun v46 h=>?_;cases h))<;>(first|refine kD 6 47 rfl ?_|refine xD 6 47 rfl (Zd 1 ZQ) ?_)<;>(first|refine kD 7 48 rfl ?_|(refine yD 7 48 rfl (Zk 1 Zg) fun v48 h=>?_;cases h))<;>(first|refine kD 8 49 rfl ?_|refine xD 8 49 rfl Wi ?_)<;>refine xE 9 50 rfl ZF ?_<;>refine xE 10 51 rfl Zb ?_<;>(first|refine kD 11 52 rfl ?_|(refine bDd 51 (fun hb51=>?_) (fun hb51=>?_)<;>(first|refine kD 11 52 rfl ?_|refine xD 11 52 rfl (Zd 4 Yg) ?_)))<;>(first|refine kD 12 53 rfl ?_|(refine yD 12 53 rfl (Zk 4 Zg) fun v53 h=>?_;cases h))<;>(first|refine kD 13 54 rfl ?_|refine xD 13 54 rfl ZP ?_)<;>refine xE 14 55 rfl ZF ?_<;>refine xE 15 56 rfl Zb ?_<;>(first|refine kD 16 57 rfl ?_|(refine bDd 56 (fun hb56=>?_) (fun hb56=>?_)<;>(first|refine kD 16 57 rfl ?_|refine xD 16 57 rfl (Zd 4 Yg) ?_)))<;>(first|refine kD 17 58 rfl ?_|(refine yD 17 58 rfl (Zk 4 Zg) fun v58 h=>?_;cases h))<;>(first|refine kD 18 59 rfl ?_|refine xD 18 59 rfl (Zd 1 ZQ) ?_)<;>(first|refine kD 19 60 rfl ?_|(refine yD 19 60 rfl (Zk 1 Zg) fun v60 h=>?_;cases h))<;>(first|refine kD 20 61 rfl ?_|refine xD 20 61 rfl Wi ?_)<;>refine xE 21 62 rfl ZF ?_<;>refine xE 22 63 rfl Zb ?_<;>(first|refine kD 23 64 rfl ?_|(refine bDd 63 (fun hb63=>?_) (fun hb63=>?_)<;>(first|refine kD 23 64 rfl ?_|refine xD 23 64 rfl (Zd 4 Yj) ?_)))<;>(first|refine kD 24 65 rfl ?_|(refine yD 24 65 rfl (Zk 4 Zg) fun v65 h=>?_;cases h))<;>(first|refine kD 25 66 rfl ?_|refine xD 25 66 rfl ZP ?_)<;>refine xE 26 67 rfl ZF ?_<;>refine xE 27 68 rfl Zb ?_<;>(first|refine kD 28 69 rfl ?_|(refine bDd 68 (fun hb68=>?_) (fun hb68=>?_)<;>(first|refine kD 28 69 rfl ?_|refine xD 28 69 rfl (Zd 4 Yj) ?_)))<;>(first|refine kD 29 70 rfl ?_|(refine yD 29 70 rfl (Zk 4 Zg) fun v70 h=>?_;cases h))<;>(first|refine kD 30 71 rfl ?_|refine xD 30 71 rfl (Zd 1 Z3) ?_)<;>(first|refine kD 31 72 rfl ?_|(refine yD 31 72 rfl (Zk 1 Zg) fun v72 h=>?_;cases h))<;>(first|refine kD 32 73 rfl ?_|refine xD 32 73 rfl Wi ?_)<;>refine xE 33 74 rfl ZF ?_<;>refine xE 34 75 rfl Zb ?_<;>(first|refine kD 35 76 rfl ?_|(refine bDd 75 (fun hb75=>?_) (fun hb75=>?_)<;>(first|refine kD 35 76 rfl ?_|refine xD 35 76 rfl Zb ?_)))<;>(first|refine kD 36 77 rfl ?_|refine xD 36 77 rfl Yr ?_)<;>(first|refine kD 37 78 rfl ?_|refine xD 37 78 rfl Zb ?_)<;>(first|refine kD 38 79 rfl ?_|(refine bDd 78 (fun hb78=>?_) (fun hb78=>?_)<;>(first|refine kD 38 79 rfl ?_|refine xD 38 79 rfl (Zd 1 Zx) ?_)))<;>(first|refine kD 39 80 rfl ?_|(refine yD 39 80 rfl (Zk 1 ZA) fun v80 h=>?_;cases h))<;>(first|refine kD 40 81 rfl ?_|refine xD 40 81 rfl Zb ?_)<;>(first|refine kD 41 82 rfl ?_|refine xD 41 82 rfl K7 ?_)<;>(first|refine kD 42 83 rfl ?_|refine xD 42 83 rfl (Sg ZK) ?_)<;>(first|refine kD 43 84 rfl ?_|(refine yD 43 84 rfl (Wn ZX) fun v84 h=>?_;cases h))<;>(first|refine kD 44 85 rfl ?_|(refine yD 44 85 rfl (Zu 4 ZX) fun v85 h=>?_;cases h))<;>(refine Zr 45 kR ?_)<;>(refine Zo rfl fun w9 M9 N9 DQ back=>?_)<;>(first|refine kL 86 ?_|(refine cS 86 (cA call187 (DN y x)) fun v86 h=>?_;cases h))<;>refine Zl (back _ (nrm ?_))<;>(first|refine kD 46 87 rfl ?_|refine xD 46 87 rfl Ya ?_)<;>(first|refine kD 47 88 rfl ?_|refine xD 47 88 rfl ZF ?_)<;>refine xE 48 89 rfl ZF ?_<;>refine Yw kR (nav ?_)<;>try dsimp only)<;>(
 refine cX ?_ ?_<;>intro hb89
 · first|exact bN hb89|(
 refine Ze ?_;(refine xL 2 Za ?_<;>refine Zc ?_)
 refine Zz (results192) rfl ?_
 first
  |rw [Su (.inr (.inr (.inr (.inr (.inr (.inr (.inr (.inl (PO hx (show RE a x=false by unfold RE;simp only [Bool.and_eq_false_iff,decide_eq_false_iff_not];omega))))))))))]
  |rw [Su (.inr (.inr (.inr (.inr (.inr (.inr (.inr (.inr (Lu oM hy hx (by simp_all))))))))))])
 · first |exact bN hb89|(
 refine Ze ?_;(refine xL 34 Zb (xL 35 ZG (xL 3 Za ?_))<;>refine Zc ?_)
 refine Zm (
  ⟨k +1,oM,fun j z hj hz=>by
   by_cases e:j=k
   · subst e;rw [hx] at hz;cases hz;refine ⟨by unfold RE;simp only [Xf,UP];omega,fun y' h1 hy'=>?_⟩;rw [hy] at hy';cases hy'
     first|omega|assumption|(simp_all)
   · exact hp j z oM hz⟩
  ) (by dsimp only;omega) ⟨rfl,rfl,trivial⟩ ⟨rfl,trivial⟩)))
 · first|exact bN hb33|(
 refine Ze ?_;(refine xL 90 (Zd 1 Z1) ?_<;>(refine yL 91 (Zk 1 Zy) fun v91 h=>?_;cases h)<;>refine xL 92 (Zd 1 ZQ) ?_<;>(refine yL 93 (Zk 1 Zg) fun v93 h=>?_;cases h)<;>(refine cS 94 (cA call234 (Sz a.start a.n)) fun v94 h=>?_;cases h)<;>refine xL 95 Zb ?_<;>(refine bL 95 (fun hb95=>?_) (fun hb95=>?_)<;>(first|refine kL 96 ?_|refine xL 96 (Zd 1 Z0) ?_))<;>(first|refine kL 97 ?_|(refine yL 97 (Zk 1 Zy) fun v97 h=>?_;cases h))<;>(first|refine kL 98 ?_|refine xL 98 (Zd 1 ZQ) ?_)<;>(first|refine kL 99 ?_|(refine yL 99 (Zk 1 Zg) fun v99 h=>?_;cases h))<;>(first|refine kL 100 ?_|(refine cS 100 (cA call234 (Sz a.fin a.n)) fun v100 h=>?_;cases h))<;>refine xL 101 ZF (xL 2 Za ?_)<;>refine Zc ?_)<;>(
 refine Zz (results192) rfl ?_;have h7:a.moves.all (RE a)=true:=ZfK fun j x hj=>(hp j x (by have:=Zf hj;omega) hj).1;have h8:Wv Ka a.moves=true:=TC fun j x y h1 hy hx=>(hp j x (by have:=Zf hx;omega) hx).2 y h1 hy;unfold Z4;rw [h7,h8,UQ (by omega:0≤a.n),UQ (by omega:a.n≤2000),UQ (by omega:0≤a.syms),UQ (by omega:a.syms≤40),UQ (by omega:a.moves.length≤20000)]
 first
  |(rw [hb95];simp)
  |(simp_all)))))
def LQ (l:List Int) (n:Int):Bool:=l.any fun t=>decide (t=n)
theorem Jb {l:List Int} {n:Int}:LQ l n=true↔n∈l:=by unfold LQ;simp
theorem SA (l:List Int) (n:Int):AF prog 116 [pInts l,pInt n] (· =ZM (LQ l n)):=by
 refine AF.of_body 18 func116 rfl ntmps116 (Xa rfl) ?_
 intro w0 M0 vs hl hv
 obtain ⟨v0,v1,rfl⟩:=YI hl
 obtain rfl:=hv 1 _ _ rfl rfl
 clear hl hv
 refine YZ 0 rfl fun hlen=>?_
 refine Ze ?_
 (refine xL 4 Za ?_<;>refine Zi ?_)
 (refine xL 5 Za ?_<;>refine Zc ?_)
 refine ZD (ι:={k:Nat//k≤l.length∧∀j x,j<k→l[j]? =some x→¬x=n}) (fun k=>⟨[(0,_,_),(1,_,_),(5, .int .i64 k.1,pInt k.1)],[]⟩) (fun k=>l.length-k.1) ⟨0,oM,oM⟩ (fun a w H=>H.weaken ⟨rfl,rfl,rfl,trivial⟩ trivial) ?_
 rintro ⟨k,hk,hp⟩
 dsimp only
 refine Ze ?_
 (refine xL 6 Zb (xL 7 Zb (xL 8 (ZT Zp) (xL 9 ZP ?_)))<;>refine Zc ?_)
 refine cX ?_ ?_<;>intro hb9
 · first |exact bN hb9|(
 obtain ⟨x,hx⟩:=Zt (show k<l.length by omega);have e1:=Z7 (f:=pInt) hx;refine Ze ?_;(refine xL 12 Zb (xL 13 Zb (xL 14 (ZI Zp) ?_))<;>(refine yL 15 (Z9 Zg) fun v15 h=>?_;cases h)<;>refine xL 16 Zb (xL 17 Ye ?_)<;>refine Zc ?_)
 refine cX ?_ ?_<;>intro hb17
 · first|exact bN hb17|(
 refine Ze ?_;(refine xL 4 Za ?_<;>refine Zc ?_)
 refine Zz (results116) rfl ?_;rw [Jb.2 (by have:=Xc hx;rwa [show x=n by simpa using hb17] at this)])
 · first|exact bN hb17|(
 refine Ze ?_;(refine xL 10 Zb (xL 11 ZG (xL 5 Za ?_))<;>refine Zc ?_)
 refine Zm (
  ⟨k+1,oM,fun j z hj hz=>by
   by_cases e:j=k
   · subst e;rw [hx] at hz;cases hz;simpa using hb17
   · exact hp j z oM hz⟩
  ) (by dsimp only;omega) ⟨rfl,rfl,rfl,trivial⟩ trivial))
 · first|exact bN hb9|(
 refine Ze ?_;(refine xL 4 Za ?_<;>refine Zc ?_)
 refine Zz (results116) rfl ?_;rw [show LQ l n=false by
  cases hh:LQ l n with
  |false=>rfl
  | true=>
    obtain ⟨j,hj⟩:=XV (Jb.1 hh);exact UU rfl (hp j n (by have:=Zf hj;omega) hj)])
def Yc (n:Nat) (f:Nat→Bool):List Int:=((List.range n).filter f).map fun i:Nat=>(i:Int)
theorem WE (k:Nat) (f:Nat→Bool):Yc (k+1) f=Yc k f++(if f k then [(k:Int)] else []):=by
 unfold Yc
 rw [Ua,XU,Xu]
 congr 1
 cases h:f k<;>simp [h]
theorem LH (n:Nat) (f:Nat→Bool):(Yc n f).length≤n:=by
 unfold Yc
 rw [Xe]
 have:=Vg f (List.range n)
 simpa using this
theorem Jz {n:Nat} {f:Nat→Bool} {t:Int}:t∈Yc n f↔0≤t∧t<n∧f t.toNat=true:=by
 unfold Yc
 simp only [Xk,X0,XT]
 constructor
 · rintro ⟨i,⟨h1,h2⟩,rfl⟩;exact ⟨oM,oM,by simpa using h2⟩
 · rintro ⟨h1,h2,h3⟩;exact ⟨t.toNat,⟨oM,h3⟩,oM⟩
theorem DO (n:Nat) (f:Nat→Bool):Srt (Yc n f):=by
 unfold Yc Srt
 refine V8.2 (List.Pairwise.filter _ ?_)
 exact (List.pairwise_lt_range (n:=n)).imp fun h=>oM
theorem DR (n:Nat) (f:Nat→Bool) (hn:n≤1000000):AF prog 115 [ZeV n f] (· = .own 3 1 (Yc n f).length ((Yc n f).map pInt)):=by
 refine AF.of_body 20 func115 rfl ntmps115 (Xa rfl) ?_
 intro w0 M0 vs hl hv
 obtain ⟨v0,rfl⟩:=Wl hl
 clear hl hv
 refine Ze ?_
 (refine xL 2 Za ?_<;>refine Zi ?_)
 (refine xL 3 Za ?_<;>refine Zc ?_)
 refine Zq (KB 200 3 1 rfl) fun _=>?_
 (refine Zv ?_<;>refine xL 4 Za ?_<;>refine Zc ?_)
 refine ZD (ι:={q:Nat×Value//q.1≤n∧q.2.oneCell'=true}) (fun k=>⟨[(0,_,_),(3,k.1.2, .val k.1.2),(4, .int .i64 k.1.1,pInt k.1.1)],[(200,k.1.2, .own 3 1 (Yc k.1.1 f).length ((Yc k.1.1 f).map pInt))]⟩) (fun k=>n-k.1.1) ⟨(0, .slice none 0 0),Xd _,rfl⟩ (fun a w H=>H.weaken ⟨rfl,rfl,rfl,trivial⟩ ⟨rfl,trivial⟩) ?_
 rintro ⟨⟨k,r⟩,hk,hr⟩
 dsimp only
 dsimp only at hk hr
 have hll:=LH k f
 refine Ze ?_
 (refine xL 5 Zb (xL 6 Zb (xL 7 (ZT Yx) (xL 8 ZP ?_)))<;>refine Zc ?_)
 refine cX ?_ ?_<;>intro hb8
 · first | exact bN hb8|(
 have hlt:k<n:=oM;have e1:=Kt (fun i=>ZM (f i)) hlt;have e2:=WE k f;refine Ze ?_;(refine xL 11 Zb (xL 12 Zb (xL 13 (ZI Yx) ?_))<;>(refine yL 14 (Z9 Wa) fun v14 h=>?_;cases h)<;>refine Zc ?_)
 refine cX ?_ ?_<;>intro hb14
 · first |exact bN hb14|(
 refine Ze ?_;(refine xL 15 Zb (xL 16 Zb ?_)<;>refine ZO (kk:=1) 17 Zn fun h17 ho17=>?_<;>(refine ZW 200 17 18 Zn fun h18 ho18=>?_;refine Zs (ZC (l:=18) 200 rfl rfl) fun _=>?_;rw [show PV.own 3 1 ((Yc k f).length+1) ((Yc k f).map pInt++[pInt k])= .own 3 1 (Yc k f++[(k:Int)]).length ((Yc k f++[(k:Int)]).map pInt) from P5 _ _ _])<;>refine xL 3 Za ?_<;>refine Zi ?_)
 (refine xL 9 Zb (xL 10 ZG (xL 4 Za ?_))<;>refine Zc ?_)
 try rw [show Yc k f++[(k:Int)]=Yc (k+1) f by rw [e2,UT (by simpa using hb14)]]
 try rw [show Yc k f=Yc (k+1) f by rw [e2,US (by simpa using hb14),Xr]]
 first
  | (exact Zm (
      ⟨(k+1,h18),by dsimp only;omega,ho18⟩
      ) (by dsimp only;omega) ⟨rfl,rfl,rfl,trivial⟩ ⟨rfl,trivial⟩)
  | (exact Zm (
      ⟨(k+1,r),by dsimp only;omega,hr⟩
      ) (by dsimp only;omega) ⟨rfl,rfl,rfl,trivial⟩ ⟨rfl,trivial⟩))
 · first |exact bN hb14|(
 refine Ze ?_;(refine xL 9 Zb (xL 10 ZG (xL 4 Za ?_))<;>refine Zc ?_)
 try rw [show Yc k f++[(k:Int)]=Yc (k+1) f by rw [e2,UT (by simpa using hb14)]]
 try rw [show Yc k f=Yc (k+1) f by rw [e2,US (by simpa using hb14),Xr]]
 first
  | (exact Zm (
      ⟨(k+1,h18),by dsimp only;omega,ho18⟩
      ) (by dsimp only;omega) ⟨rfl,rfl,rfl,trivial⟩ ⟨rfl,trivial⟩)
  | (exact Zm (
      ⟨(k+1,r),by dsimp only;omega,hr⟩
      ) (by dsimp only;omega) ⟨rfl,rfl,rfl,trivial⟩ ⟨rfl,trivial⟩)))
 · first|exact bN hb8|(
 refine Ze ?_;(refine xL 19 Zb (xL 2 Za ?_)<;>refine Zc ?_)
 refine Kb 200 (results115) rfl rfl ?_;rw [show k=n by omega])
def Jc (l:List Int) (i:Nat):Bool:=LQ l (i:Nat)
theorem Et {l:List Int} {k:Nat} {t:Int} (h:l[k]? =some t) (h0:0≤t) (i:Nat):Jc (l.take (k+1)) i=if i=t.toNat then true else Jc (l.take k) i:=by
 unfold Jc LQ
 rw [ZR h,Vz]
 simp only [VT,Ub,Vh]
 by_cases e:i=t.toNat
 · rw [UT e,UQ (show t=(i:Int) by omega),Bool.or_true]
 · rw [US e,UR (show ¬t=(i:Int) by omega),Vh]
structure MkI (a:Aut) (l:List Int) (f:Nat→Bool):Prop where
 base:∀s∈l,f s.toNat=true
 snd:∀i:Nat,i<a.n.toNat→f i=true→Rch a l (i:Nat)
def ZjG (a:Aut) (f:Nat→Bool):Prop:=∀m∈a.moves,m.sym<0→f m.src.toNat=true→f m.dst.toNat=true
theorem MkI.start {a:Aut} {l:List Int} (hl:InS a l):MkI a l (Jc l):=by
 refine ⟨fun s hs=>?_,fun i _ h=> .base (Jb.1 h)⟩
 unfold Jc
 rw [Jb,show ((s.toNat:Nat):Int)=s by have:=hl s hs;omega]
 exact hs
def ZcF (f:Nat→Bool) (i:Nat):Nat→Bool:=fun j=>if j=i then true else f j
structure PassB (a:Aut) (l:List Int) (f0 f:Nat→Bool) (fl:Bool) (i:Nat):Prop where
 mki:MkI a l f
 no:fl=false→f=f0∧∀j m,j<i→a.moves[j]? =some m→m.sym<0→f m.src.toNat=true→f m.dst.toNat=true
 yes:fl=true→cntF a.n.toNat f<cntF a.n.toNat f0
theorem PassB.start {a:Aut} {l:List Int} {f:Nat→Bool} (h:MkI a l f):PassB a l f f false 0:=⟨h,fun _=>⟨rfl,fun j m hj=>oM⟩,fun h=>Bool.noConfusion h⟩
theorem PassB.set {a:Aut} {l:List Int} {f0 f:Nat→Bool} {fl:Bool} {i:Nat} {m:Mv} (hA:AOk a) (hl:InS a l) (h:PassB a l f0 f fl i) (hm:a.moves[i]? =some m) (h1:m.sym<0) (h2:f m.src.toNat=true) (h3:f m.dst.toNat=false):PassB a l f0 (ZcF f m.dst.toNat) true (i+1):=by
 have hmv:=hA.mv m (Xc hm)
 refine ⟨⟨fun s hs=>?_,fun j hj hf=>?_⟩,fun h=>Bool.noConfusion h,fun _=>?_⟩
 · unfold ZcF;split
   · rfl
   · exact h.mki.base s hs
 · unfold ZcF at hf;split at hf
   · rename_i e;have h4:=h.mki.snd m.src.toNat oM h2;have h5:=Rch.step h4 (Xc hm) oM oM;rw [e,show ((m.dst.toNat:Nat):Int)=m.dst by omega];exact h5
   · exact h.mki.snd j hj hf
 · have h4:=Zcy h3 (n:=a.n.toNat) oM;have h5:cntF a.n.toNat (ZcF f m.dst.toNat)+1=cntF a.n.toNat f:=h4
   cases hfl:fl
   · have:=(h.no hfl).1;rw [this] at h5 ⊢;omega
   · have:=h.yes hfl;omega
theorem PassB.skip {a:Aut} {l:List Int} {f0 f:Nat→Bool} {fl:Bool} {i:Nat} {m:Mv} (h:PassB a l f0 f fl i) (hm:a.moves[i]? =some m) (h1:m.sym<0→f m.src.toNat=true→f m.dst.toNat=true):PassB a l f0 f fl (i+1):=
 ⟨h.mki,fun hf=>⟨(h.no hf).1,fun j x hj hx=>by
  by_cases e:j=i
  · subst e;rw [hm] at hx;cases hx;exact h1
  · exact (h.no hf).2 j x oM hx⟩,h.yes⟩
theorem PassB.clos {a:Aut} {l:List Int} {f0 f:Nat→Bool} {i:Nat} (h:PassB a l f0 f false i) (hi:a.moves.length≤i):ZjG a f:=fun m hm=>by
 obtain ⟨j,hj⟩:=XV hm
 exact (h.no rfl).2 j m (by have:=Zf hj;omega) hj
theorem PassB.less {a:Aut} {l:List Int} {f0 f:Nat→Bool} {fl:Bool} {i:Nat} (h:PassB a l f0 f fl i):cntF a.n.toNat f+(if fl then 1 else 0)<cntF a.n.toNat f0+(if true then 1 else 0):=by
 cases hf:fl
 · have h1:=(h.no hf).1;rw [h1];simp
 · have h1:=h.yes hf;simp;omega
theorem ZcG {a:Aut} {l:List Int} {f:Nat→Bool} (hA:AOk a) (hl:InS a l) (h:MkI a l f) (hc:ZjG a f):Yc a.n.toNat f=YN a l:=by
 refine Rf (DO _ _) (KA hA.mi hl) fun t=>?_
 rw [Jz,K3 hA.mi hl]
 constructor
 · rintro ⟨h1,h2,h3⟩;have:=h.snd t.toNat oM h3;rwa [show ((t.toNat:Nat):Int)=t by omega] at this
 · intro h1;have h2:=ZeR hA.mi hl h1;refine ⟨h2.1,oM,?_⟩;clear h2;induction h1 with
   |base h3=>exact h.base _ h3
   | @step s m h3 hm hs hcc ih=>
     subst hs;exact hc m hm oM ih
set_option maxHeartbeats 2000000 in
theorem SB (a : Aut) (l:List Int) (h:AOk a) (hl:InS a l):AF prog 70 [ZN a,pInts l] (· = .own 3 1 (YN a l).length ((YN a l).map pInt)):=by
 have hn0:=h.n0
 have hn1:=h.n1
 have hml:=h.ml
 rw [Eo h.n0]
 refine AF.of_body 62 func70 rfl ntmps70 (Xa rfl) ?_
 intro w0 M0 vs hl hv
 obtain ⟨v0,v1,rfl⟩:=YI hl
 clear hl hv
 refine YZ 1 rfl fun hlen=>?_
 refine Ze ?_
 (refine ZB 2 5 fun h2=>?_<;>refine xL 4 Za ?_<;>refine Zi ?_)
 (refine xL 10 (Zd 2 ZQ) ?_<;>(refine yL 11 (Zk 2 Zg) fun v11 h=>?_;cases h)<;>refine Jm 12 Wg fun h12 ho12=>?_<;>refine xL 5 Za ?_<;>refine Zc ?_)
 rw [show List.replicate a.n.toNat (PV.val (.bool false))=vec a.n.toNat (fun i=>ZM (Jc (l.take 0) i)) from GR _ _]
 (refine Zv ?_<;>refine xL 6 Za ?_<;>refine Zc ?_)
 refine ZD (ι:={k:Nat//k≤l.length}) (fun k=>⟨[(1,_,_),(2,_,_),(5,_,_),(6, .int .i64 k.1,pInt k.1)],[(2,_,_),(12,h12, .own 4 1 a.n.toNat (vec a.n.toNat fun i=>ZM (Jc (l.take k.1) i)))]⟩) (fun k=>l.length-k.1) ⟨0,Xd _⟩ (fun a w H=>H.weaken ⟨rfl,rfl,rfl,rfl,trivial⟩ ⟨rfl,rfl,trivial⟩) ?_
 rintro ⟨k,hk⟩
 dsimp only
 refine Ze ?_
 (refine xL 13 Zb (xL 14 Zb (xL 15 (ZT Zp) (xL 16 ZP ?_)))<;>refine Zc ?_)
 refine cX ?_ ?_<;>intro hb16
 · first|exact bN hb16|(
 obtain ⟨x,hx⟩:=Zt (show k<l.length by omega);have e1:=Z7 (f:=pInt) hx;have hx2:=hl x (Xc hx);have e2:=KH a.n.toNat (fun i=>ZM (Jc (l.take k) i));refine Ze ?_;(refine xL 19 Zb (xL 20 Zb (xL 21 Zb (xL 22 (ZI Zp) ?_)))<;>(refine yL 23 (Z9 Zg) fun v23 h=>?_;cases h)<;>refine xL 24 (W4 12 Yx) ?_<;>refine YL 12 Wa Sy ?_<;>refine Zi ?_)
 (refine xL 17 Zb (xL 18 ZG (xL 6 Za ?_))<;>refine Zc ?_)
 rw [J7 (f':=Jc (l.take (k+1))) fun i _=>Et hx hx2.1 i];refine Zm (
  ⟨k+1,Zf hx⟩
  ) (by dsimp only;omega) ⟨rfl,rfl,rfl,rfl,trivial⟩ ⟨rfl,rfl,trivial⟩)
 · first | exact bN hb16|(
 rw [show Jc (l.take k)=Jc l by rw [Xj oM]];refine Ze ?_;(refine xL 7 Za ?_<;>refine Zc ?_)
 refine ZD (ι:={q:(Nat→Bool)×Bool//MkI a l q.1∧(q.2=false→ZjG a q.1)}) (fun k=>⟨[(1,_,_),(2,_,_),(5,_,_),(7, .bool k.1.2,ZM k.1.2)],[(2,_,_),(12,h12, .own 4 1 a.n.toNat (vec a.n.toNat fun i=>ZM (k.1.1 i)))]⟩) (fun k=>cntF a.n.toNat k.1.1+(if k.1.2 then 1 else 0)) ⟨(Jc l,true),MkI.start hl,fun h=>Bool.noConfusion h⟩ (fun a w H=>H.weaken ⟨rfl,rfl,rfl,rfl,trivial⟩ ⟨rfl,rfl,trivial⟩) ?_;rintro ⟨⟨f0,ag⟩,hMk,hag⟩;dsimp only;dsimp only at hMk hag;refine Ze ?_;(refine xL 25 Zb ?_<;>refine Zc ?_)
 refine cX ?_ ?_<;>intro hb25
 · first | exact bN hb25|(
 refine Ze ?_;(refine xL 7 Za ?_<;>refine Zi ?_)
 (refine xL 8 Za ?_<;>refine Zc ?_)
 refine ZD (ι:={q:Nat×(Nat→Bool)×Bool//q.1≤a.moves.length∧PassB a l f0 q.2.1 q.2.2 q.1}) (fun k=>⟨[(1,_,_),(2,_,_),(5,_,_),(7, .bool k.1.2.2,ZM k.1.2.2),(8, .int .i64 k.1.1,pInt k.1.1)],[(2,_,_),(12,h12, .own 4 1 a.n.toNat (vec a.n.toNat fun i=>ZM (k.1.2.1 i)))]⟩) (fun k=>a.moves.length-k.1.1) ⟨(0,f0,false),Xd _,PassB.start hMk⟩ (fun a w H=>H.weaken ⟨rfl,rfl,rfl,rfl,rfl,trivial⟩ ⟨rfl,rfl,trivial⟩) ?_;rintro ⟨⟨i,f,fl⟩,hi,hP⟩;dsimp only;dsimp only at hi hP;refine Ze ?_;(refine xL 26 Zb (xL 27 (Zd 2 Zx) ?_)<;>(refine yL 28 (Zk 2 ZA) fun v28 h=>?_;cases h)<;>refine xL 29 (ZT ZK) (xL 30 ZP ?_)<;>refine Zc ?_)
 refine cX ?_ ?_<;>intro hb30
 · first | exact bN hb30|(
 obtain ⟨m,hm⟩:=Zt (show i<a.moves.length by omega);have e1:=Ym Z2 a.moves i m hm;have e2:=YK Z2 hm;have hmv:=h.mv m (Xc hm);have e3:=Kt (fun i=>ZM (f i)) (show m.src.toNat<a.n.toNat by omega);have e4:=Kt (fun i=>ZM (f i)) (show m.dst.toNat<a.n.toNat by omega);have e5:=KH a.n.toNat (fun i=>ZM (f i));refine Ze ?_;(refine xL 33 (Zd 2 Zx) ?_<;>(refine yL 34 (Zk 2 ZA) fun v34 h=>?_;cases h)<;>refine xL 35 Zb (xL 36 (ZI ZK) ?_)<;>(refine yL 37 (Wn ZX) fun v37 h=>?_;cases h)<;>refine Zw [(.int .i64 0),(.int .i64 0),(.int .i64 0)] 3 9 Kh fun h9=>?_<;>refine ZE 9 ZX ?_<;>refine Zi ?_)
 (refine xL 38 (Zd 9 Yj) ?_<;>(refine yL 39 (Zk 9 Zg) fun v39 h=>?_;cases h)<;>refine xL 40 ZP (xL 41 Zb ?_)<;>(refine bLd 41 (fun hb41=>?_) (fun hb41=>?_)<;>(first|refine kL 42 ?_|refine xL 42 Zb ?_))<;>(first|refine kL 43 ?_|refine xL 43 (Zd 9 Yb) ?_)<;>(first|refine kL 44 ?_|(refine yL 44 (Zk 9 Zg) fun v44 h=>?_;cases h))<;>(first|refine kL 45 ?_|refine xL 45 (W4 12 Yx) ?_)<;>(first|refine kL 46 ?_|(refine yL 46 (Zk 12 Wa) fun v46 h=>?_;cases h))<;>refine xL 47 ZF (xL 48 Zb ?_)<;>(first|refine kL 49 ?_|(refine bL 48 (fun hb48=>?_) (fun hb48=>?_)<;>(first|refine kL 49 ?_|refine xL 49 Zb ?_)))<;>(first|refine kL 50 ?_|refine xL 50 (Zd 9 Yg) ?_)<;>(first|refine kL 51 ?_|(refine yL 51 (Zk 9 Zg) fun v51 h=>?_;cases h))<;>(first|refine kL 52 ?_|refine xL 52 (W4 12 Yx) ?_)<;>(first|refine kL 53 ?_|(refine yL 53 (Zk 12 Wa) fun v53 h=>?_;cases h))<;>(first|refine kL 54 ?_|refine xL 54 Ya ?_)<;>refine xL 55 ZF ?_<;>refine Zc ?_)<;>(
 refine cX ?_ ?_<;>intro hb55
 · first |exact bN hb55|(
 refine Ze ?_;(refine xL 56 Zb (xL 57 (Zd 9 Yg) ?_)<;>(refine yL 58 (Zk 9 Zg) fun v58 h=>?_;cases h)<;>refine xL 59 (W4 12 Yx) ?_<;>refine YL 12 Wa Sy ?_<;>refine Zi ?_)
 (refine xL 7 Za ?_<;>refine Zi ?_)
 (refine xL 31 Zb (xL 32 ZG (xL 8 Za ?_))<;>refine Zc ?_)
 try rw [J7 (f':=ZcF f m.dst.toNat) fun i _=>rfl]
 first
  | (exact Zm (
      ⟨(i+1,ZcF f m.dst.toNat,true),Zf hm,hP.set h hl hm (by simp_all) (by simp_all) (by simp_all)⟩
      ) (by dsimp only;omega) ⟨rfl,rfl,rfl,rfl,rfl,trivial⟩ ⟨rfl,rfl,trivial⟩)
  | (exact Zm (
      ⟨(i+1,f,fl),Zf hm,hP.skip hm (fun h1 h2=>by simp_all)⟩
      ) (by dsimp only;omega) ⟨rfl,rfl,rfl,rfl,rfl,trivial⟩ ⟨rfl,rfl,trivial⟩)
  | (exact Zm (
      ⟨(i+1,f,fl),Zf hm,hP.skip hm (fun h1 h2=>oM)⟩
      ) (by dsimp only;omega) ⟨rfl,rfl,rfl,rfl,rfl,trivial⟩ ⟨rfl,rfl,trivial⟩))
 · first |exact bN hb55|(
 refine Ze ?_;(refine xL 31 Zb (xL 32 ZG (xL 8 Za ?_))<;>refine Zc ?_)
 try rw [J7 (f':=ZcF f m.dst.toNat) fun i _=>rfl]
 first
  | (exact Zm (
      ⟨(i+1,ZcF f m.dst.toNat,true),Zf hm,hP.set h hl hm (by simp_all) (by simp_all) (by simp_all)⟩
      ) (by dsimp only;omega) ⟨rfl,rfl,rfl,rfl,rfl,trivial⟩ ⟨rfl,rfl,trivial⟩)
  | (exact Zm (
      ⟨(i+1,f,fl),Zf hm,hP.skip hm (fun h1 h2=>by simp_all)⟩
      ) (by dsimp only;omega) ⟨rfl,rfl,rfl,rfl,rfl,trivial⟩ ⟨rfl,rfl,trivial⟩)
  | (exact Zm (
      ⟨(i+1,f,fl),Zf hm,hP.skip hm (fun h1 h2=>oM)⟩
      ) (by dsimp only;omega) ⟨rfl,rfl,rfl,rfl,rfl,trivial⟩ ⟨rfl,rfl,trivial⟩))))
 · first|exact bN hb30|(
 (have hms:cntF a.n.toNat f+(if fl then 1 else 0)<cntF a.n.toNat f0+(if ag then 1 else 0):=by rw [show ag=true from hb25];exact hP.less);refine nav ?_;refine Zm (
  ⟨(f,fl),hP.mki,fun hf=>by dsimp only at hf;subst hf;exact hP.clos oM⟩
  ) (hms) ⟨rfl,rfl,rfl,rfl,trivial⟩ ⟨rfl,rfl,trivial⟩))
 · first|exact bN hb25|(
 refine Ze ?_;(refine xL 60 Zb ?_<;>(refine Zs (En.freeze (l:=12) (t:=60) rfl rfl) fun _=>?_;rw [show share (.own 4 1 a.n.toNat (vec a.n.toNat fun i=>ZM (f0 i)))=ZeV a.n.toNat f0 by rw [share,Yk,HB];rfl];refine cO 61 (cA call115 (DR a.n.toNat f0 oM)) fun v61 ho61=>?_)<;>refine xL 4 Za ?_<;>refine Zc ?_)
 refine Kb 61 (results70) rfl rfl ?_;rw [ZcG h hl hMk (hag (by simpa using hb25))]))
theorem ZcH (a:Aut) (l:List Int) (h:AOk a) (hl:InS a l):AF prog 70 [.agg [pInt (a.n.toNat:Nat),pInt a.syms,pInts a.start,pInts a.fin,pMvs a.moves],pInts l] (· = .own 3 1 (YN a l).length ((YN a l).map pInt)):=by
 rw [←Eo h.n0];exact SB a l h hl
theorem ZcI {a:Aut} {l m:List Int} (h:LO a) (hl:InS a l) (hm:InS a m) (he:∀x,x∈l↔x∈m):YN a l=YN a m:=by
 refine Rf (KA h hl) (KA h hm) fun t=>?_
 rw [K3 h hl,K3 h hm]
 have key:∀{l m:List Int},(∀x,x∈l→x∈m)→∀{t},Rch a l t→Rch a m t:=fun he t h=>by
  induction h with
  |base h1=>exact .base (he _ h1)
  |step _ hm hs hc ih=>exact .step ih hm hs hc
 exact ⟨key fun x=>(he x).1,key fun x=>(he x).2⟩
def SC (a:Aut) (l:List Int) (c:Int) (k:Nat) (i:Nat):Bool:=(a.moves.take k).any fun m=>decide (m.sym=c)&&(LQ l m.src&&decide (m.dst=(i:Nat)))
theorem ZcJ {a:Aut} {l:List Int} {c:Int} {k:Nat} {m:Mv} (h:a.moves[k]? =some m) (h0:0≤m.dst) (h1:m.sym=c) (h2:LQ l m.src=true) (i:Nat):SC a l c (k+1) i=if i=m.dst.toNat then true else SC a l c k i:=by
 unfold SC
 rw [ZR h,Vz]
 simp only [VT,Ub,Vh]
 rw [UQ h1,h2]
 by_cases e:i=m.dst.toNat
 · rw [UT e,UQ (show m.dst=(i:Int) by omega)];simp
 · rw [US e,UR (show ¬m.dst=(i:Int) by omega)];simp
theorem ZfY {a:Aut} {l:List Int} {c:Int} {k:Nat} {m:Mv} (h:a.moves[k]? =some m) (h1:¬(m.sym=c∧LQ l m.src=true)):SC a l c (k+1)=SC a l c k:=by
 funext i
 unfold SC
 rw [ZR h,Vz]
 simp only [VT,Ub,Vh]
 by_cases e:m.sym=c
 · have e2:LQ l m.src=false:=by cases hh:LQ l m.src;rfl;exact UU ⟨e,hh⟩ h1
   rw [e2];simp
 · rw [UR e];simp
theorem ZjH {a:Aut} {l:List Int} {c:Int} {k:Nat} (h:AOk a) (hl:InS a l) (hk:a.moves.length≤k):YN a (Yc a.n.toNat (SC a l c k))=Yz a c l:=by
 unfold Yz
 refine ZcI h.mi (fun s hs=>by have:=Jz.1 hs;have:=h.n0;omega) (Ki h.mi c l) fun t=>?_
 rw [Jz,Jx hl]
 unfold SC
 rw [Xj hk]
 simp only [VA,Xf,UP,Jb]
 constructor
 · rintro ⟨h1,h2,m,hm,h3,h4,h5⟩;exact ⟨m,hm,h4,h3,oM⟩
 · rintro ⟨m,hm,h3,h4,rfl⟩;have:=h.mv m hm;exact ⟨oM,oM,m,hm,h4,h3,oM⟩
set_option maxHeartbeats 2000000 in
theorem Eu (a:Aut) (l:List Int) (c:Int) (h:AOk a) (hl:InS a l):AF prog 71 [ZN a,pInts l,pInt c] (· = .own 3 1 (Yz a c l).length ((Yz a c l).map pInt)):=by
 have hn0:=h.n0
 have hn1:=h.n1
 have hml:=h.ml
 rw [Eo h.n0]
 refine AF.of_body 61 func71 rfl ntmps71 (Xa rfl) ?_
 intro w0 M0 vs hl hv
 obtain ⟨v0,v1,v2,rfl⟩:=LX hl
 obtain rfl:=hv 2 _ _ rfl rfl
 clear hl hv
 refine YZ 1 rfl fun hlen=>?_
 refine Ze ?_
 (refine ZB 3 5 fun h3=>?_<;>refine xL 6 Za ?_<;>refine Zi ?_)
 (refine xL 12 (Zd 3 ZQ) ?_<;>(refine yL 13 (Zk 3 Zg) fun v13 h=>?_;cases h)<;>refine Jm 14 Wg fun h14 ho14=>?_<;>refine xL 7 Za ?_<;>refine Zc ?_)
 rw [show List.replicate a.n.toNat (PV.val (.bool false))=vec a.n.toNat (fun i=>ZM (Jc (l.take 0) i)) from GR _ _]
 (refine Zv ?_<;>refine xL 8 Za ?_<;>refine Zc ?_)
 refine ZD (ι:={k:Nat//k≤l.length}) (fun k=>⟨[(1,_,_),(2,_,_),(3,_,_),(7,_,_),(8, .int .i64 k.1,pInt k.1)],[(3,_,_),(14,h14, .own 4 1 a.n.toNat (vec a.n.toNat fun i=>ZM (Jc (l.take k.1) i)))]⟩) (fun k=>l.length-k.1) ⟨0,Xd _⟩ (fun a w H=>H.weaken ⟨rfl,rfl,rfl,rfl,rfl,trivial⟩ ⟨rfl,rfl,trivial⟩) ?_
 rintro ⟨k,hk⟩
 dsimp only
 refine Ze ?_
 (refine xL 15 Zb (xL 16 Zb (xL 17 (ZT Zp) (xL 18 ZP ?_)))<;>refine Zc ?_)
 refine cX ?_ ?_<;>intro hb18
 · first|exact bN hb18|(
 obtain ⟨x,hx⟩:=Zt (show k<l.length by omega);have e1:=Z7 (f:=pInt) hx;have hx2:=hl x (Xc hx);have e2:=KH a.n.toNat (fun i=>ZM (Jc (l.take k) i));refine Ze ?_;(refine xL 21 Zb (xL 22 Zb (xL 23 Zb (xL 24 (ZI Zp) ?_)))<;>(refine yL 25 (Z9 Zg) fun v25 h=>?_;cases h)<;>refine xL 26 (W4 14 Yx) ?_<;>refine YL 14 Wa Sy ?_<;>refine Zi ?_)
 (refine xL 19 Zb (xL 20 ZG (xL 8 Za ?_))<;>refine Zc ?_)
 rw [J7 (f':=Jc (l.take (k+1))) fun i _=>Et hx hx2.1 i];refine Zm (
  ⟨k+1,Zf hx⟩
  ) (by dsimp only;omega) ⟨rfl,rfl,rfl,rfl,rfl,trivial⟩ ⟨rfl,rfl,trivial⟩)
 · first | exact bN hb18|(
 rw [show Jc (l.take k)=Jc l by rw [Xj oM]];refine Ze ?_;(refine xL 27 (Zd 3 ZQ) ?_<;>(refine yL 28 (Zk 3 Zg) fun v28 h=>?_;cases h)<;>refine Jm 29 Wg fun h29 ho29=>?_<;>refine xL 9 Za ?_<;>refine Zc ?_)
 rw [show List.replicate a.n.toNat (PV.val (.bool false))=vec a.n.toNat (fun i=>ZM (SC a l c 0 i)) from GR _ _];(refine Zv ?_<;>refine xL 10 Za ?_<;>refine Zc ?_)
 refine ZD (ι:={k:Nat//k≤a.moves.length}) (fun k=>⟨[(1,_,_),(2,_,_),(3,_,_),(7,_,_),(9,_,_),(10, .int .i64 k.1,pInt k.1)],[(3,_,_),(14,_,_),(29,h29, .own 4 1 a.n.toNat (vec a.n.toNat fun i=>ZM (SC a l c k.1 i)))]⟩) (fun k=>a.moves.length-k.1) ⟨0,Xd _⟩ (fun a w H=>H.weaken ⟨rfl,rfl,rfl,rfl,rfl,rfl,trivial⟩ ⟨rfl,rfl,rfl,trivial⟩) ?_;rintro ⟨k8,hk8⟩;dsimp only;refine Ze ?_;(refine xL 30 Zb (xL 31 (Zd 3 Zx) ?_)<;>(refine yL 32 (Zk 3 ZA) fun v32 h=>?_;cases h)<;>refine xL 33 (ZT ZK) (xL 34 ZP ?_)<;>refine Zc ?_)
 refine cX ?_ ?_<;>intro hb34
 · first |exact bN hb34|(
 obtain ⟨m,hm⟩:=Zt (show k8<a.moves.length by omega);have e1:=Ym Z2 a.moves k8 m hm;have e2:=YK Z2 hm;have hmv:=h.mv m (Xc hm);have e3:=Kt (fun i=>ZM (Jc l i)) (show m.src.toNat<a.n.toNat by omega);have e5:=KH a.n.toNat (fun i=>ZM (SC a l c k8 i));(have e6:Jc l m.src.toNat=LQ l m.src:=by unfold Jc;rw [show ((m.src.toNat:Nat):Int)=m.src by omega]);refine Ze ?_;(refine xL 37 (Zd 3 Zx) ?_<;>(refine yL 38 (Zk 3 ZA) fun v38 h=>?_;cases h)<;>refine xL 39 Zb (xL 40 (ZI ZK) ?_)<;>(refine yL 41 (Wn ZX) fun v41 h=>?_;cases h)<;>refine Zw [(.int .i64 0),(.int .i64 0),(.int .i64 0)] 3 11 Kh fun h11=>?_<;>refine ZE 11 ZX ?_<;>refine Zi ?_)
 (refine xL 42 (Zd 11 Yj) ?_<;>(refine yL 43 (Zk 11 Zg) fun v43 h=>?_;cases h)<;>refine xL 44 Zb (xL 45 Ye (xL 46 Zb ?_))<;>(refine bLd 46 (fun hb46=>?_) (fun hb46=>?_)<;>(first|refine kL 47 ?_|refine xL 47 Zb ?_))<;>(first|refine kL 48 ?_|refine xL 48 (Zd 11 Yb) ?_)<;>(first|refine kL 49 ?_|(refine yL 49 (Zk 11 Zg) fun v49 h=>?_;cases h))<;>(first|refine kL 50 ?_|refine xL 50 (W4 14 Yx) ?_)<;>(first|refine kL 51 ?_|(refine yL 51 (Zk 14 Wa) fun v51 h=>?_;cases h))<;>refine xL 52 ZF ?_<;>refine Zc ?_)<;>(
 refine cX ?_ ?_<;>intro hb52
 · first|exact bN hb52|(
 refine Ze ?_;(refine xL 53 Zb (xL 54 (Zd 11 Yg) ?_)<;>(refine yL 55 (Zk 11 Zg) fun v55 h=>?_;cases h)<;>refine xL 56 (W4 29 Yx) ?_<;>refine YL 29 Wa Sy ?_<;>refine Zi ?_)
 (refine xL 35 Zb (xL 36 ZG (xL 10 Za ?_))<;>refine Zc ?_)
 first|rw [J7 (f':=SC a l c (k8+1)) fun i _=>ZcJ hm oM (by first|omega|assumption) (by rw [←e6];assumption) i]|rw [←ZfY hm (by rintro ⟨g1,g2⟩;rw [←e6] at g2;first|exact UU g1 (by assumption)|(rw [g2] at hb52;exact UU hb52 dC)|(simp_all))]
 refine Zm (
  ⟨k8+1,Zf hm⟩
  ) (by dsimp only;omega) ⟨rfl,rfl,rfl,rfl,rfl,rfl,trivial⟩ ⟨rfl,rfl,rfl,trivial⟩)
 · first|exact bN hb52|(
 refine Ze ?_;(refine xL 35 Zb (xL 36 ZG (xL 10 Za ?_))<;>refine Zc ?_)
 first|rw [J7 (f':=SC a l c (k8+1)) fun i _=>ZcJ hm oM (by first|omega|assumption) (by rw [←e6];assumption) i]|rw [←ZfY hm (by rintro ⟨g1,g2⟩;rw [←e6] at g2;first|exact UU g1 (by assumption)|(rw [g2] at hb52;exact UU hb52 dC)|(simp_all))]
 refine Zm (
  ⟨k8+1,Zf hm⟩
  ) (by dsimp only;omega) ⟨rfl,rfl,rfl,rfl,rfl,rfl,trivial⟩ ⟨rfl,rfl,rfl,trivial⟩)))
 · first|exact bN hb34|(
 have hLn:=ZjH (c:=c) h hl (show a.moves.length≤k8 by omega);refine nav ?_;(refine ZZ (fun i=>([]:List Nat).elem i) [3] kR ?_<;>(refine yD 0 57 rfl (Zu 3 Zh) fun v57 h=>?_;cases h)<;>refine xE 1 58 rfl Zb ?_<;>(refine Zr 2 kR ?_)<;>(refine Zo rfl fun w9 M9 N9 DQ back=>?_)<;>(refine Zs (En.freeze (l:=29) (t:=58) rfl rfl) fun _=>?_;rw [show share (.own 4 1 a.n.toNat (vec a.n.toNat fun i=>ZM (SC a l c k8 i)))=ZeV a.n.toNat (SC a l c k8) by rw [share,Yk,HB];rfl];refine cO 59 (cA call115 (DR a.n.toNat (SC a l c k8) oM)) fun v59 ho59=>?_;refine Zs (En.freeze (l:=59) (t:=59) rfl rfl) fun _=>?_;rw [ZS _ _ _ rfl])<;>refine Zl (back _ (nrm ?_))<;>(refine Zr 3 kR ?_)<;>(refine Zo rfl fun w9 M9 N9 DQ back=>?_)<;>(refine cO 60 (cA call70 (ZcH a (Yc a.n.toNat (SC a l c k8)) h (fun s hs=>by have:=Jz.1 hs;omega))) fun v60 ho60=>?_)<;>refine Zl (back _ (nrm ?_))<;>refine xE 4 6 rfl Za ?_<;>refine Yw kR (nav ?_)<;>try dsimp only)
 refine Kb 60 (results71) rfl rfl ?_;rw [hLn]))
theorem Ev (a:Aut) (l:List Int):AF prog 72 [ZN a,pInts l] (· =ZM (Wy a l)):=by
 refine AF.of_body 19 func72 rfl ntmps72 (Xa rfl) ?_
 intro w0 M0 vs hl hv
 obtain ⟨v0,v1,rfl⟩:=YI hl
 clear hl hv
 refine YZ 1 rfl fun hlen=>?_
 refine Ze ?_
 (refine ZB 2 5 fun h2=>?_<;>refine xL 4 Za ?_<;>refine Zi ?_)
 (refine xL 5 Za ?_<;>refine Zc ?_)
 refine ZD (ι:={k:Nat//k≤l.length∧∀j x,j<k→l[j]? =some x→Gz a x=false}) (fun k=>⟨[(1,_,_),(2,_,_),(5, .int .i64 k.1,pInt k.1)],[(2,_,_)]⟩) (fun k=>l.length-k.1) ⟨0,oM,oM⟩ (fun a w H=>H.weaken ⟨rfl,rfl,rfl,trivial⟩ ⟨rfl,trivial⟩) ?_
 rintro ⟨k,hk,hp⟩
 dsimp only
 refine Ze ?_
 (refine xL 6 Zb (xL 7 Zb (xL 8 (ZT Zp) (xL 9 ZP ?_)))<;>refine Zc ?_)
 refine cX ?_ ?_<;>intro hb9
 · first | exact bN hb9|(
 obtain ⟨x,hx⟩:=Zt (show k<l.length by omega);have e1:=Z7 (f:=pInt) hx;refine nav ?_;(refine ZZ (fun i=>([]:List Nat).elem i) [2] kR ?_<;>refine xD 0 12 rfl (Zd 2 Z0) ?_<;>(refine yD 1 13 rfl (Zk 2 Zy) fun v13 h=>?_;cases h)<;>refine xD 2 14 rfl Zb ?_<;>refine xE 3 15 rfl Zb ?_<;>refine xE 4 16 rfl (ZI Zp) ?_<;>(refine yE 5 17 rfl (Z9 Zg) fun v17 h=>?_;cases h)<;>(refine Zr 6 kR ?_)<;>(refine Zo rfl fun w9 M9 N9 DQ back=>?_)<;>(refine cS 18 (cA call116 (SA a.fin x)) fun v18 h=>?_;cases h)<;>refine Zl (back _ (nrm ?_))<;>refine Yw kR (nav ?_)<;>try dsimp only)
 refine cX ?_ ?_<;>intro hb18
 · first|exact bN hb18|(
 refine Ze ?_;(refine xL 4 Za ?_<;>refine Zc ?_)
 refine Zz (results72) rfl ?_;rw [show Wy a l=true from VA.2 ⟨x,Xc hx,hb18⟩])
 · first |exact bN hb18|(
 refine Ze ?_;(refine xL 10 Zb (xL 11 ZG (xL 5 Za ?_))<;>refine Zc ?_)
 refine Zm (
  ⟨k +1,oM,fun j z hj hz=>by
   by_cases e:j=k
   · subst e;rw [hx] at hz;cases hz;show LQ a.fin x=false;simpa using hb18
   · exact hp j z oM hz⟩
  ) (by dsimp only;omega) ⟨rfl,rfl,rfl,trivial⟩ ⟨rfl,trivial⟩))
 · first|exact bN hb9|(
 refine Ze ?_;(refine xL 4 Za ?_<;>refine Zc ?_)
 refine Zz (results72) rfl ?_;rw [show Wy a l=false by
  unfold Wy;rw [List.any_eq_false];intro z hz;obtain ⟨j,hj⟩:=XV hz;rw [hp j z (by have:=Zf hj;omega) hj];simp])
theorem Ew {n:Nat} {L:List Nat} (h:L.Nodup) (hl:∀s∈L,s<n):L.length≤n:=by
 have:=nodup_len n (L.map fun x:Nat=>(x:Int)) (V8.2 (h.imp fun h1 h2=>h1 oM)) fun s hs=>by
  obtain ⟨x,hx,rfl⟩:=Xk.1 hs;have:=hl x hx;omega
 simpa using this
structure Tab where
 m:Nat
 rows:List (List Nat)
 fin:List Bool
structure TOk (t:Tab):Prop where
 fl:t.fin.length=t.rows.length
 rl:∀r∈t.rows,r.length=t.m
 to:∀r∈t.rows,∀x∈r,x<t.rows.length
 pos:0<t.rows.length
 n1:t.rows.length≤2000
 m1:t.m≤40
def WS (a:Aut):Srch (List Int) (List Int):=⟨id,2000,a.syms.toNat,fun _ l s=>Yz a (s:Nat) l⟩
def K4 (a:Aut):Option Tab:=((WS a).all (YN a a.start)).map fun q=>⟨a.syms.toNat,q.2,q.1.map (Wy a)⟩
def SetOk (a:Aut) (l:List Int):Prop:=InS a l∧Srt l
theorem SetOk.len {a:Aut} (h:AOk a) {l:List Int} (hl:SetOk a l):l.length≤2000:=by
 have h4:=nodup_len a.n.toNat l (hl.2.imp fun h=>oM) fun s hs=>by
  have:=hl.1 s hs;have:=h.n0;omega
 have:=h.n1
 omega
theorem SD {a:Aut} (h:AOk a) (c:Int) (l:List Int):SetOk a (Yz a c l):=⟨LG h.mi c l,KA h.mi (Ki h.mi c l)⟩
theorem OT {a:Aut} (h:AOk a):SetOk a (YN a a.start):=⟨L9 h.mi h.st,KA h.mi h.st⟩
theorem Ex {a:Aut} (h:AOk a) {i:Nat} {o:List (List Int)} {rows:List (List Nat)} (hu:(WS a).upto (YN a a.start) i=some (o,rows)):(WS a).Ok (SetOk a) (YN a a.start) o rows∧(i≤o.length→rows.length=i)∧(o.length≤i→rows.length=o.length):=
 Srch.ok (P:=SetOk a) (show 1≤2000 by decide) (OT h) (fun _ _ s _ _=>SD h s _) hu
theorem HC {a:Aut} (h:AOk a) {t:Tab} (ht:K4 a=some t):TOk t:=by
 unfold K4 at ht
 obtain ⟨⟨o,rows⟩,h1,rfl⟩:=XA.1 ht
 obtain ⟨h2,h3,h4⟩:=Ex h h1
 have hcap:o.length≤2000:=h2.cap
 have h5:=h4 hcap
 have hp:=h2.pos
 have hs:=h.s1
 refine ⟨by simp [h5],h2.len,fun r hr x hx=>?_,by dsimp only;omega,by dsimp only;omega,by dsimp only;omega⟩
 obtain ⟨i,hi⟩:=XV hr
 obtain ⟨t,ht⟩:=XV hx
 dsimp only at hi
 obtain ⟨y,hy⟩:=Zt (show i<o.length by have:=Zf hi;omega)
 have:=(h2.to i y r t x hy hi ht).1
 dsimp only;omega
section
variable {κ:Type} [DecidableEq κ]
def YC (k:Nat→κ):Nat→List κ
 |0=>[]
 |s+1=>if k s∈YC k s then YC k s else YC k s++[k s]
theorem ZjI (k:Nat→κ) (s:Nat):YC k s<+:YC k (s+1):=by
 rw [YC];split
 · exact Vx _
 · exact Ut _ _
theorem ζs (k:Nat→κ) (s:Nat):∀t,YC k s<+:YC k (s+t)
 |0=>Vx _
 |t+1=>(ζs k s t).trans (ZjI k (s+t))
theorem SE (k:Nat→κ):∀s,(YC k s).length≤s
 |0=>Xg _
 | s+1=>by
   have:=SE k s;rw [YC];split
   · omega
   · rw [Xb,Xx];omega
theorem JQ {k:Nat→κ}:∀{s:Nat} {x:κ},x∈YC k s↔∃i,i<s∧k i=x
 |0,x=>by simp [YC]
 | s + 1,x=>by
   have ih:=JQ (k:=k) (s:=s) (x:=x);rw [YC];split
   · rename_i h;rw [ih];constructor
     · rintro ⟨i,h1,h2⟩;exact ⟨i,oM,h2⟩
     · rintro ⟨i,h1,h2⟩;by_cases e:i=s
       · subst e;subst h2;exact ih.1 h
       · exact ⟨i,oM,h2⟩
   · rw [Xp,ih,Xi];constructor
     · rintro (⟨i,h1,h2⟩|h)
       · exact ⟨i,oM,h2⟩
       · exact ⟨s,oM,h.symm⟩
     · rintro ⟨i,h1,h2⟩;by_cases e:i=s
       · subst e;exact .inr h2.symm
       · exact .inl ⟨i,oM,h2⟩
theorem Za0 (k:Nat→κ):∀s,(YC k s).Nodup
 |0=>Vb
 | s +1=>by
   rw [YC];split
   · exact Za0 k s
   · rename_i h;rw [VE];exact ⟨Za0 k s,sM,fun a ha b hb e=>h (by rw [Xi.1 hb] at e;rw [←e];exact ha)⟩
theorem HD {l:List κ} {x:κ}:posK id l x<l.length↔x∈l:=by
 rw [Re]
 constructor
 · rintro ⟨y,h1,rfl⟩;exact h1
 · exact fun h=>⟨x,h,rfl⟩
theorem Ey {k:Nat→κ} {s:Nat} (h:posK id (YC k s) (k s)<(YC k s).length):YC k (s+1)=YC k s:=by rw [YC,UT (HD.1 h)]
theorem Ez {k:Nat→κ} {s:Nat} (h:¬posK id (YC k s) (k s)<(YC k s).length):YC k (s+1)=YC k s++[k s]:=by rw [YC,US fun h1=>h (HD.2 h1)]
theorem SF {k:Nat→κ} {s n:Nat} (h:s<n):posK id (YC k n) (k s)=posK id (YC k (s+1)) (k s)∧posK id (YC k n) (k s)<(YC k n).length:=by
 have h1:k s∈YC k (s+1):=JQ.2 ⟨s,oM,rfl⟩
 have h2:=ζs k (s+1) (n-(s+1))
 rw [show s+1+(n-(s+1))=n by omega] at h2
 obtain ⟨e,he⟩:=h2
 exact ⟨by rw [←he,Sr e (HD.2 h1)],HD.2 (JQ.2 ⟨s,h,rfl⟩)⟩
end
def Yn (rows:List (List Nat)) (c:Nat→Nat) (s:Nat):List Nat:=c s::((rows[s]?).getD []).map c
def KI (rows:List (List Nat)) (c:Nat→Nat) (s:Nat):Nat:=posK id (YC (Yn rows c) rows.length) (Yn rows c s)
def TM (rows:List (List Nat)) (c:Nat→Nat):Nat:=(YC (Yn rows c) rows.length).length
def Tf (rows:List (List Nat)):Nat→(Nat→Nat)→Nat→(Nat→Nat)
 |0,c,_=>c
 |f+1,c,k=>if TM rows c=k then KI rows c else Tf rows f (KI rows c) (TM rows c)
def Lq (fin:List Bool) (s:Nat):Nat:=if (fin[s]?).getD false then 1 else 0
def Yu (t:Tab):Nat→Nat:=Tf t.rows (t.rows.length+2) (Lq t.fin) 0
structure COk (n:Nat) (c:Nat→Nat) (k:Nat):Prop where
 hit:∀v,v<k→∃s,s<n∧c s=v
 le:k≤n
 bd:∀s,s<n→c s≤n
theorem COk.start (fin:List Bool) (n:Nat):COk n (Lq fin) 0:=⟨fun v h=>oM,Xd _,fun s h=>by unfold Lq;split<;>omega⟩
theorem COk.grow {rows:List (List Nat)} {c:Nat→Nat} {k:Nat} (h:COk rows.length c k):k≤TM rows c:=by
 have h1:∀v,v<k→v∈(YC (Yn rows c) rows.length).map fun l=>l.headD 0:=fun v hv=>by
  obtain ⟨s,hs,rfl⟩:=h.hit v hv;exact Xk.2 ⟨Yn rows c s,JQ.2 ⟨s,hs,rfl⟩,rfl⟩
 have h2:∀(n:Nat) (L:List Nat),(∀v,v<n→v∈L)→n≤L.length:=fun n=>by
  induction n with
  |zero=>exact fun _ _=>Xd _
  | succ n ih=>
    intro L hL;have h3:=ih (L.erase n) fun v hv=>(List.mem_erase_of_ne oM).2 (hL v oM);rw [UO (hL n oM)] at h3;have:=List.length_pos_of_mem (hL n oM);omega
 have:=h2 k _ h1
 rwa [Xe] at this
theorem COk.next {rows:List (List Nat)} {c:Nat→Nat} {k:Nat} (h:COk rows.length c k):COk rows.length (KI rows c) (TM rows c):=by
 have hl:=SE (Yn rows c) rows.length
 refine ⟨fun v hv=>?_,hl,fun s hs=>?_⟩
 · obtain ⟨x,hx⟩:=Zt hv;obtain ⟨s,hs,rfl⟩:=JQ.1 (Xc hx);refine ⟨s,hs,?_⟩;have hn:((YC (Yn rows c) rows.length).map id).Nodup:=by rw [List.map_id];exact Za0 _ _
   exact G6 hn hx
 · have:=(SF (k:=Yn rows c) hs).2;show posK _ _ _≤_;omega
theorem ZjJ {rows:List (List Nat)} {c:Nat→Nat} {s:Nat} (hs:s<rows.length):KI rows c s<TM rows c:=(SF (k:=Yn rows c) hs).2
def toT (t:Tab) (x s:Nat):Nat:=((((t.rows[x]?).getD [])[s]?).getD 0)
def minW (t:Tab):Srch Nat Nat:=⟨Yu t,t.rows.length,t.m,fun _ x s=>toT t x s⟩
theorem R9 {t:Tab} {x s n:Nat} {r:List Nat} (h:t.rows[x]? =some r) (h2:r[s]? =some n):toT t x s=n:=by
 unfold toT;rw [h];show ((r[s]?).getD 0)=n;rw [h2];rfl
theorem KD {t:Tab} (h:TOk t) {x s:Nat}:toT t x s<t.rows.length:=by
 unfold toT
 cases h1:t.rows[x]? with
 |none=>simpa using h.pos
 | some r=>
   show ((r[s]?).getD 0)<_
   cases h2:r[s]? with
   |none=>simpa using h.pos
   |some n=>exact h.to r (Xc h1) n (Xc h2)
theorem TN {α β:Type} {f:α→β}:∀{l:List α},(l.map f).Nodup→l.Nodup
 |[],_=>Vb
 | x::l,h=>by
   rw [Xw,Vf] at h;exact Vf.2 ⟨fun h1=>h.1 (List.mem_map_of_mem h1),TN h.2⟩
theorem Ri {t:Tab} (h:TOk t) {o:List Nat} (hm:(minW t).Met (· <t.rows.length) 0 o) {x:Nat} (hx:x<t.rows.length) (hn:¬posK (minW t).key o ((minW t).key x)<o.length):o.length<t.rows.length:=by
 have h1:(o++[x]).Nodup:=by
  rw [VE];refine ⟨TN hm.nd,sM,fun a ha b hb e=>hn (Re.2 ⟨x,?_,rfl⟩)⟩;rw [Xi.1 hb] at e;rw [←e];exact ha
 have:=Ew h1 fun s hs=>by
  rcases Xp.1 hs with hs|hs
  · exact hm.p s hs
  · rw [Xi.1 hs];exact hx
 rw [Xb,Xx] at this
 omega
theorem ZfZ {t:Tab} (h:TOk t) {i x:Nat} {o:List Nat} (hm:(minW t).Met (· <t.rows.length) 0 o):∀s,s≤t.m→∃q,(minW t).row i x o s=some q
 |0,_=>⟨_,rfl⟩
 | s+1,hs=>by
   obtain ⟨⟨o1,r1⟩,h1⟩:=ZfZ h hm s oM;obtain ⟨h2,_⟩:=hm.row (fun s _=>KD h) (show s≤(minW t).m from (by show s≤t.m;omega)) h1;by_cases hp:posK (minW t).key o1 ((minW t).key ((minW t).step i x s))<o1.length
   · exact ⟨_,Srch.row_snoc h1 (Wc hp)⟩
   · exact ⟨_,Srch.row_snoc h1 (Wd hp (Ri h h2 (KD h) hp))⟩
theorem Za1 {t:Tab} (h:TOk t) {i:Nat} {o:List Nat} {rows:List (List Nat)} (hu:(minW t).upto 0 i=some (o,rows)):(minW t).Ok (· <t.rows.length) 0 o rows∧(i≤o.length→rows.length=i)∧(o.length≤i→rows.length=o.length):=
 Srch.ok (W:=minW t) (P:=(· <t.rows.length)) h.pos h.pos (fun _ _ s _ _=>KD h) hu
theorem ZcK {t:Tab} (h:TOk t):∀i,∃q,(minW t).upto 0 i=some q
 |0=>⟨_,rfl⟩
 | i +1=>by
   obtain ⟨⟨o,rows⟩,h1⟩:=ZcK h i
   cases hx:o[i]? with
   |none=>exact ⟨_,Srch.upto_stop h1 (Up.1 hx) 1⟩
   | some x=>
     obtain ⟨⟨o',r⟩,h2⟩:=ZfZ h (i:=i) (x:=x) (Za1 h h1).1.toMet t.m (Xg _);exact ⟨_,Srch.upto_snoc h1 hx h2⟩
theorem Zl8 {t:Tab} (h:TOk t):∃q,(minW t).all 0=some q:=ZcK h _
def Yi (i:Nat) (r:List Nat):List Mv:=r.zipIdx.map fun p=>⟨(i:Nat),(p.1:Nat),(p.2:Nat)⟩
def ZY (rows:List (List Nat)):List Mv:=rows.zipIdx.flatMap fun p=>Yi p.2 p.1
theorem Ku (i:Nat) (r:List Nat) (n:Nat):Yi i (r++[n])=Yi i r++[⟨(i:Nat),(n:Nat),(r.length:Nat)⟩]:=by
 unfold Yi;rw [List.zipIdx_append,Xu];simp
theorem JA (i:Nat) (r:List Nat):(Yi i r).length=r.length:=by unfold Yi;simp
theorem SG (rows:List (List Nat)) (r:List Nat):ZY (rows++[r])=ZY rows++Yi rows.length r:=by
 unfold ZY;rw [List.zipIdx_append,XN];simp
theorem Pa {m:Nat}:∀(rows:List (List Nat)),(∀r∈rows,r.length=m)→(ZY rows).length=rows.length*m:=by
 intro rows
 have key:∀(L:List (List Nat)) (k:Nat),(∀r∈L,r.length=m)→((L.zipIdx k).flatMap fun p=>Yi p.2 p.1).length=L.length*m:=by
  intro L;induction L with
  |nil=>intro k _;simp
  | cons r L ih=>
    intro k h;rw [VZ,Xz,Xb,ih (k+1) (fun r hr=>h r (Xn _ hr)),JA,h r (Xm ..),Xl,X8];omega
 exact key rows 0
def JB (t:Tab) (o:List Nat) (i:Nat):Bool:=(t.fin[(o[i]?).getD 0]?).getD false
def WB (t:Tab) (q:List Nat×List (List Nat)):Aut:=⟨(q.1.length:Nat),(t.m:Nat),[0],Yc q.1.length (JB t q.1),ZY q.2⟩
def Wh (t:Tab):Option Aut:=((minW t).all 0).bind fun q=>if 20000<(ZY q.2).length then none else some (WB t q)
def KL:PV:= .agg [pInt 0,pInt 0, .val (.slice none 0 0), .val (.slice none 0 0), .val (.slice none 0 0)]
def resW:Except Int Aut→PV
 | .ok a=> .tup [ZN a,pInt 0]
 | .error e=> .tup [KL,pInt e]
def lim (x:Option Aut):Except Int Aut:=match x with
 |some a=> .ok a
 |none=> .error 13
def W5 (a:Aut):Except Int Aut:=match K4 a with
 |some t=>lim (Wh t)
 |none=> .error 13
def Jd (a:Aut):Except Int Aut:=if Z4 a then W5 a else .error 1
def ZjK (l:List UInt8):Nat:=l.foldl (fun v b=>v*10+(b.toNat-48)) 0
theorem Zhs (l:List UInt8) (b:UInt8):ZjK (l++[b])=ZjK l*10+(b.toNat-48):=by unfold ZjK;rw [Vv];rfl
theorem Za2 {u:Nat} (h:u<10):(UInt8.ofNat (48+u)).toNat=48+u:=by
 rw [UInt8.toNat_ofNat'];omega
theorem ZcL (u:Nat):ZjK (Lib.decDigits u)=u:=by
 induction u using Nat.strongRecOn with
 | _ u ih=>
   rw [Lib.decDigits];split
   · rename_i h;show 0*10+((UInt8.ofNat (48+u)).toNat-48)=u;rw [Za2 h];omega
   · rw [Zhs,ih (u / 10) oM,Za2 oM];omega
theorem ZjL (u:Nat):∀b∈Lib.decDigits u,b≠32:=by
 induction u using Nat.strongRecOn with
 | _ u ih=>
   have key:∀v:Nat,v<10→UInt8.ofNat (48+v)≠32:=fun v hv e=>by
    have:=congrArg UInt8.toNat e;rw [Za2 hv] at this;have h32:(32:UInt8).toNat=32:=rfl;omega
   rw [Lib.decDigits];split
   · rename_i h;intro b hb;rw [Xi.1 hb];exact key u h
   · intro b hb;rcases Xp.1 hb with hb|hb
     · exact ih (u / 10) oM b hb
     · rw [Xi.1 hb];exact key _ oM
theorem ZcM:∀{a b c d:List UInt8},(∀x∈a,x≠32)→(∀x∈b,x≠32)→a++32::c=b++32::d→a=b∧c=d
 |[],[],c,d,_,_,h=>⟨rfl,(List.cons.inj h).2⟩
 |[],y::b,c,d,_,hb,h=>UU (List.cons.inj h).1.symm (hb y (Xm ..))
 |x::a,[],c,d,ha,_,h=>UU (List.cons.inj h).1 (ha x (Xm ..))
 | x::a,y::b,c,d,ha,hb,h=>by
   obtain ⟨h1,h2⟩:=List.cons.inj h;obtain ⟨h3,h4⟩:=ZcM (fun z hz=>ha z (Xn _ hz)) (fun z hz=>hb z (Xn _ hz)) h2;exact ⟨by rw [h1,h3],h4⟩
def GA (l:List Int):List UInt8:=l.flatMap fun s=>Lib.itoa s++[32]
def Tg (l:List Int):ByteArray:=⟨(GA l).toArray⟩
theorem ZcN:∀{l m:List Int},(∀x∈l,0≤x)→(∀x∈m,0≤x)→GA l=GA m→l=m
 |[],[],_,_,_=>rfl
 | [],y::m,_,_,h=>by
   have:=congrArg List.length h;simp only [GA,Xz,XJ,Xb,Xl,XC] at this;omega
 | x::l,[],_,_,h=>by
   have:=congrArg List.length h;simp only [GA,Xz,XJ,Xb,Xl,XC] at this;omega
 | x ::l,y::m,hl,hm,h=>by
   have hx:=hl x (Xm ..);have hy:=hm y (Xm ..);have e1:Lib.itoa x=Lib.decDigits x.toNat:=by unfold Lib.itoa;rw [US oM]
   have e2:Lib.itoa y=Lib.decDigits y.toNat:=by unfold Lib.itoa;rw [US oM]
   have h':Lib.decDigits x.toNat++32::GA l=Lib.decDigits y.toNat++32::GA m:=by
    have:GA (x::l)=Lib.itoa x++[32]++GA l:=rfl;rw [this,show GA (y::m)=Lib.itoa y++[32]++GA m from rfl,e1,e2] at h;simpa using h
   obtain ⟨h1,h2⟩:=ZcM (ZjL _) (ZjL _) h';have h3:=congrArg ZjK h1;rw [ZcL,ZcL] at h3;rw [ZcN (fun z hz=>hl z (Xn _ hz)) (fun z hz=>hm z (Xn _ hz)) h2,show x=y by omega]
theorem ZjM {l m:List UInt8} (h:(⟨l.toArray⟩:ByteArray)=⟨m.toArray⟩):l=m:=by
 have:=ByteArray.mk.inj h
 simpa using this
theorem ZcO {l m:List Int} (hl:∀x∈l,0≤x) (hm:∀x∈m,0≤x):Tg l=Tg m↔l=m:=
 ⟨fun h=>ZcN hl hm (ZjM h),fun h=>by rw [h]⟩
def TO (l:List Int):List UInt8:=l.flatMap fun x=>[UInt8.ofNat (x.toNat % 250+1),UInt8.ofNat (x.toNat / 250+1),0]
def LR (l:List Int):ByteArray:=⟨(TO l).toArray⟩
theorem ZcP:∀{l m:List Int},(∀x∈l,0≤x∧x≤2000)→(∀x∈m,0≤x∧x≤2000)→TO l=TO m→l=m
 |[],[],_,_,_=>rfl
 |[],y::m,_,_,h=>by simp [TO] at h
 |x::l,[],_,_,h=>by simp [TO] at h
 | x::l,y::m,hl,hm,h=>by
   have hx:=hl x (Xm ..);have hy:=hm y (Xm ..);have h':UInt8.ofNat (x.toNat % 250+1)::UInt8.ofNat (x.toNat / 250+1)::0::TO l=UInt8.ofNat (y.toNat % 250+1)::UInt8.ofNat (y.toNat / 250+1)::0::TO m:=h;obtain ⟨h1,h2⟩:=List.cons.inj h';obtain ⟨h3,h4⟩:=List.cons.inj h2;have h5:=(List.cons.inj h4).2;have h6:=congrArg UInt8.toNat h1;have h7:=congrArg UInt8.toNat h3;rw [UInt8.toNat_ofNat',UInt8.toNat_ofNat'] at h6 h7;rw [ZcP (fun z hz=>hl z (Xn _ hz)) (fun z hz=>hm z (Xn _ hz)) h5,show x=y by omega]
theorem ZcQ {l m:List Int} (hl:∀x∈l,0≤x∧x≤2000) (hm:∀x∈m,0≤x∧x≤2000):LR l=LR m↔l=m:=
 ⟨fun h=>ZcP hl hm (ZjM h),fun h=>by rw [h]⟩
def toI (l:List Nat):List Int:=l.map fun x:Nat=>(x:Int)
theorem Zf0 {l m:List Nat}:toI l=toI m↔l=m:=by
 unfold toI
 constructor
 · intro h;have:=congrArg (List.map Int.toNat) h;simpa [XH,Function.comp_def] using this
 · intro h;rw [h]
def eqM (a b:Mv):Bool:=decide (a.src=b.src)&&decide (a.dst=b.dst)&&decide (a.sym=b.sym)
theorem Gh {a b:Mv}:eqM a b=true↔a=b:=by
 unfold eqM
 simp only [Xf,UP]
 cases a;cases b
 simp only [Mv.mk.injEq,and_assoc]
theorem La (a:Mv):Ka a a=false:=by
 cases h:Ka a a with
 |false=>rfl
 |true=>have:=WM.1 h;omega
theorem TP {a b c:Mv} (h1:Ka a b=true) (h2:Ka b c=true):Ka a c=true:=by
 rw [WM] at h1 h2 ⊢;omega
theorem P9 {a b:Mv} (h1:Ka a b=false) (h2:Ka b a=false):a=b:=by
 have e1:¬Ka a b=true:=by rw [h1];simp
 have e2:¬Ka b a=true:=by rw [h2];simp
 rw [WM] at e1 e2
 rw [←Gh];unfold eqM
 simp only [Xf,UP];omega
def AscM (l:List Mv):Prop:=l.Pairwise fun a b=>Ka a b=true
theorem SH:∀{l m:List Mv},AscM l→AscM m→(∀x,x∈l↔x∈m)→l=m
 |[],[],_,_,_=>rfl
 |[],y::m,_,_,h=>UU ((h y).2 (Xm ..)) sM
 |x::l,[],_,_,h=>UU ((h x).1 (Xm ..)) sM
 | x :: l,y::m,hl,hm,h=>by
   have hl':=XQ.1 hl;have hm':=XQ.1 hm;have hxy:x=y:=by
    rcases Xs.1 ((h x).1 (Xm ..)) with e|h1
    · exact e
    · rcases Xs.1 ((h y).2 (Xm ..)) with e|h2
      · exact e.symm
      · have h3:=TP (hm'.1 x h1) (hl'.1 y h2);rw [La] at h3;cases h3
   subst hxy;congr 1;refine SH hl'.2 hm'.2 fun z=>⟨fun hz=>?_,fun hz=>?_⟩
   · rcases Xs.1 ((h z).1 (Xn _ hz)) with e|h1
     · have h3:=hl'.1 z hz;rw [e,La] at h3;cases h3
     · exact h1
   · rcases Xs.1 ((h z).2 (Xn _ hz)) with e|h1
     · have h3:=hm'.1 z hz;rw [e,La] at h3;cases h3
     · exact h1
def RF (m:Mv):List Mv→List Mv
 |[]=>[m]
 |x::l=>if Ka m x then m::x::l else if eqM m x then x::l else x::RF m l
theorem Ti {m y:Mv}:∀{l:List Mv},y∈RF m l↔y=m∨y∈l
 |[]=>by simp [RF]
 | x :: l =>by
   rw [RF];split
   · simp
   · split
     · rename_i h;rw [Gh] at h;subst h;simp
     · rw [Xs,Ti,Xs];constructor
       · rintro (h|h|h)
         · exact .inr (.inl h)
         · exact .inl h
         · exact .inr (.inr h)
       · rintro (h|h|h)
         · exact .inr (.inl h)
         · exact .inl h
         · exact .inr (.inr h)
theorem SI {m:Mv}:∀{l:List Mv},AscM l→AscM (RF m l)
 |[],_=>by simp [RF,AscM]
 | x :: l,h=>by
   have h':=XQ.1 h;rw [RF];split
   · rename_i hm;refine XQ.2 ⟨fun z hz=>?_,h⟩;rcases Xs.1 hz with rfl|hz
     · exact hm
     · exact TP hm (h'.1 z hz)
   · rename_i hm;split
     · exact h
     · rename_i he;refine XQ.2 ⟨fun z hz=>?_,SI h'.2⟩;rcases Ti.1 hz with rfl|hz
       · cases hxz:Ka x z with
         |true=>rfl
         |false=>exact UU (Gh.2 (P9 (by simpa using hm) hxz)) he
       · exact h'.1 z hz
def mkM:List Mv→List Mv
 |[]=>[]
 |x::l=>RF x (mkM l)
theorem W2 {y:Mv}:∀{l:List Mv},y∈mkM l↔y∈l
 |[]=>by simp [mkM]
 |x::l=>by rw [mkM,Ti,W2,Xs]
theorem Kc:∀l,AscM (mkM l)
 |[]=> .nil
 |x::l=>SI (Kc l)
theorem OU {l m:List Mv} (hl:AscM l) (h:∀x,x∈l↔x∈m):l=mkM m:=SH hl (Kc m) fun x=>by rw [h,W2]
theorem Zf1 {l m:List Mv} (hl:AscM l) (h:∀x∈l,x∈m):l.length≤m.length:=by
 induction l generalizing m with
 |nil=>exact Xd _
 | cons x l ih=>
   have h':=XQ.1 hl;obtain ⟨a,b,rfl⟩:=List.append_of_mem (h x (Xm ..));have :=ih (m:=a++b) h'.2 fun y hy=>by
    rcases Xp.1 (h y (Xn _ hy)) with h1|h1
    · exact X1 _ h1
    · rcases Xs.1 h1 with rfl|h1
      · have:=h'.1 y hy;rw [La] at this;cases this
      · exact X9 _ h1
   simp only [Xb,Xl] at this ⊢;omega
theorem Gi (l:List Mv):(mkM l).length≤l.length:=Zf1 (Kc l) fun x h=>W2.1 h
def D' (a:Aut):Except Int Aut:=if 2000<a.n∨20000<a.moves.length then .error 13 else W5 a
def Je (a:Aut):Except Int Aut:=D' {a with moves:=mkM a.moves}
def KU (a:Aut):Aut:=⟨a.n+1,a.syms,[a.n],[a.n],a.moves++(a.start.map fun s=>⟨a.n,s,-1⟩)++a.fin.map fun s=>⟨s,a.n,-1⟩⟩
def JC (a:Aut):Except Int Aut:=if Z4 a then Je (KU a) else .error 1
def stepA (A:Aut) (i s:Nat):Nat:=(((A.moves[i*A.syms.toNat+s]?).map Mv.dst).getD 0).toNat
def Ha (op:Int) (x y:Bool):Bool:=if op=1 then x&&y else if op=2 then x||y else if op=3 then x&& !y else x !=y
def Wq (A B:Aut):Srch ((Nat×Nat)×(Int×Int)) (Nat×Nat):=⟨Prod.fst,2000,A.syms.toNat,fun i x s=>((stepA A x.1.1 s,stepA B x.1.2 s),((i:Nat),(s:Nat)))⟩
def prodQ (A B:Aut):Option (List ((Nat×Nat)×(Int×Int))×List (List Nat)):=(Wq A B).all ((0,0),(-1,-1))
def WT (A B:Aut) (op:Int) (x:(Nat×Nat)×(Int×Int)):Bool:=Ha op (Gz A (x.1.1:Nat)) (Gz B (x.1.2:Nat))
def T5 (A B:Aut) (op:Int) (q:List ((Nat×Nat)×(Int×Int))×List (List Nat)):Tab:=⟨A.syms.toNat,q.2,q.1.map (WT A B op)⟩
def Tj (a b:Aut):Except Int (Aut×Aut×List ((Nat×Nat)×(Int×Int))×List (List Nat)):=match W5 a,W5 b with
 | .ok A, .ok B=>match prodQ A B with
   |some q=> .ok (A,B,q)
   |none=> .error 13
 |_,_=> .error 13
def WK (a b:Aut):Int:=if Z4 a=false∨Z4 b=false then 1 else if ¬a.syms=b.syms then 29 else 0
def SJ (par:List (Int×Int)):Nat→Nat→List Int
 |0,_=>[]
 | f+1,i=>match par[i]? with
   |some x=>if x.1<0 then [] else SJ par f x.1.toNat++[x.2]
   |none=>[]
def TQ (A B:Aut) (op:Int) (q:List ((Nat×Nat)×(Int×Int))×List (List Nat)):Bool×List Int:=
 match (q.1.map (WT A B op)).idxOf? true with
 |some i=>(false,SJ (q.1.map (·.2)) (i+1) i)
 |none=>(true,[])
def cmpX (a b:Aut) (op:Int):Bool×List Int×Int:=if ¬WK a b=0 then (false,[],WK a b) else match Tj a b with
 | .ok (A,B,q)=>((TQ A B op q).1,(TQ A B op q).2,0)
 | .error e=>(false,[],e)
theorem ZcR {t:Tab} {A:Aut} (h:Wh t=some A):∃o rows,(minW t).all 0=some (o,rows)∧A=WB t (o,rows)∧(ZY rows).length≤20000:=by
 unfold Wh at h
 obtain ⟨⟨o,rows⟩,h1,h2⟩:=XW.1 h
 dsimp only at h2
 split at h2
 · cases h2
 · cases h2;exact ⟨o,rows,h1,rfl,oM⟩
structure Fin (t:Tab) (o:List Nat) (rows:List (List Nat)):Prop where
 ok:(minW t).Ok (· <t.rows.length) 0 o rows
 len:rows.length=o.length
 n1:o.length≤2000
 pos:0<o.length
theorem Pb {t:Tab} (h:TOk t) {o:List Nat} {rows:List (List Nat)} (hu:(minW t).all 0=some (o,rows)):Fin t o rows:=by
 obtain ⟨h1,_,h3⟩:=Za1 h hu
 have hc:o.length≤t.rows.length:=h1.cap
 have:=h.n1
 exact ⟨h1,h3 hc,oM,h1.pos⟩
theorem ζt {i:Nat} {r:List Nat} {m:Mv} (h:m∈Yi i r):∃n s:Nat,r[s]? =some n∧m=⟨(i:Nat),(n:Nat),(s:Nat)⟩:=by
 unfold Yi at h
 obtain ⟨p,hp,rfl⟩:=Xk.1 h
 exact ⟨p.1,p.2,by have:=UH.1 hp;exact this,rfl⟩
theorem Pd {rows:List (List Nat)} {m:Mv} (h:m∈ZY rows):∃(i s n:Nat) (r:List Nat),rows[i]? =some r∧r[s]? =some n∧m=⟨(i:Nat),(n:Nat),(s:Nat)⟩:=by
 unfold ZY at h
 obtain ⟨p,hp,hm⟩:=XP.1 h
 obtain ⟨n,s,h1,h2⟩:=ζt hm
 exact ⟨p.2,s,n,p.1,UH.1 hp,h1,h2⟩
theorem P' {t:Tab} (ht:TOk t) {o:List Nat} {rows:List (List Nat)} (h:Fin t o rows) (hm:(ZY rows).length≤20000):AOk (WB t (o,rows)):=by
 have hp:=h.pos
 have hn:=h.n1
 have hm1:=ht.m1
 have hll:=LH o.length (JB t o)
 refine ⟨by show (0:Int)≤(o.length:Nat);omega,by show ((o.length:Nat):Int)≤2000;omega,by show (0:Int)≤(t.m:Nat);omega,by show ((t.m:Nat):Int)≤40;omega,hm,fun s hs=>?_,fun s hs=>?_,by show [(0:Int)].length≤2000;simp,by show (Yc o.length (JB t o)).length≤2000;omega,fun m hmm=>?_⟩
 · rw [show s=0 from Xi.1 hs];exact ⟨VV _,by show (0:Int)<(o.length:Nat);omega⟩
 · obtain ⟨h1,h2,_⟩:=Jz.1 hs;exact ⟨h1,h2⟩
 · obtain ⟨i,s,n,r,h1,h2,rfl⟩:=Pd hmm;have h3:i<rows.length:=Zf h1;have h4:=Zf h2;have h5:r.length=t.m:=h.ok.len r (Xc h1);obtain ⟨x,hx⟩:=Zt (show i<o.length by rw [←h.len];exact h3);have h6:=(h.ok.to i x r s n hx h1 h2).1;have h7:=h.len;refine ⟨by show (0:Int)≤(i:Nat);omega,by show ((i:Nat):Int)<(o.length:Nat);omega,by show (0:Int)≤(n:Nat);omega,by show ((n:Nat):Int)<(o.length:Nat);omega,by show (-1:Int)≤(s:Nat);omega,by show ((s:Nat):Int)<(t.m:Nat);omega⟩
theorem Za3 {a A:Aut} (h:AOk a) (hr:W5 a= .ok A):∃t o rows,K4 a=some t∧TOk t∧(minW t).all 0=some (o,rows)∧Fin t o rows∧A=WB t (o,rows)∧(ZY rows).length≤20000:=by
 unfold W5 at hr
 split at hr
 · rename_i t ht
   cases hl:Wh t with
   |none=>rw [hl] at hr;cases hr
   | some B=>
     rw [hl] at hr;cases hr;obtain ⟨o,rows,h1,h2,h3⟩:=ZcR hl;have hT:=HC h ht;exact ⟨t,o,rows,ht,hT,h1,Pb hT h1,h2,h3⟩
 · cases hr
theorem Zl9 {a A:Aut} (h:Jd a= .ok A):Z4 a=true∧W5 a= .ok A:=by
 unfold Jd at h
 split at h
 · rename_i h1;exact ⟨h1,h⟩
 · cases h
def Rel2 {α β:Type} (R:α→β→Prop) (o:List α) (o':List β):Prop:=o.length=o'.length∧∀(i:Nat) (x:α) (y:β),o[i]? =some x→o'[i]? =some y→R x y
theorem Rel2.snoc {α β:Type} {R:α→β→Prop} {o:List α} {o':List β} {x:α} {y:β} (h:Rel2 R o o') (hr:R x y):Rel2 R (o++[x]) (o'++[y]):=by
 refine ⟨by rw [Xb,Xb,h.1];rfl,fun i a b ha hb=>?_⟩
 rw [V9] at ha hb
 have hl:=h.1
 split at ha
 · rename_i h1;rw [UT oM] at hb;exact h.2 i a b ha hb
 · rename_i h1;rw [US oM] at hb;have h2:=Zf ha;simp only [Xx] at h2;have h3:i=o.length:=oM;rw [h3,V3] at ha;rw [show i-o'.length=0 by omega] at hb;simp only [Vw,Option.some.injEq] at ha hb;rw [←ha,←hb];exact hr
section
variable {α β κ κ':Type} [DecidableEq κ] [DecidableEq κ']
theorem ZcS {f:α→κ} {g:β→κ'} {k:κ} {k':κ'}:∀{o:List α} {o':List β},o.length=o'.length→(∀(i:Nat) (x:α) (y:β),o[i]? =some x→o'[i]? =some y→(f x=k↔g y=k'))→posK f o k=posK g o' k'
 |[],[],_,_=>rfl
 |[],_::_,h,_=>by simp at h
 |_::_,[],h,_=>by simp at h
 | x::o,y::o',h,hk=>by
   have h0:=hk 0 x y rfl rfl;have ih:=ZcS (f:=f) (g:=g) (k:=k) (k':=k') (o:=o) (o':=o') (by simpa using h) fun i a b ha hb=>hk (i+1) a b (by simpa using ha) (by simpa using hb);rw [posK,posK,ih];by_cases e:f x=k
   · rw [UT e,UT (h0.1 e)]
   · rw [US e,US fun e2=>e (h0.2 e2)]
variable {W:Srch α κ} {W':Srch β κ'} {R:α→β→Prop}
theorem Srch.sim_row (hc:W.cap≤W'.cap) (hk:∀x x' y y',R x y→R x' y'→(W.key x=W.key x'↔W'.key y=W'.key y')) (hs:∀i x y s,R x y→s<W.m→R (W.step i x s) (W'.step i y s)) {i:Nat} {x:α} {y:β} (hxy:R x y) {o:List α} {o':List β} (ho:Rel2 R o o'):
 ∀{s:Nat} {p:List α} {r:List Nat},s≤W.m→W.row i x o s=some (p,r)→∃p',W'.row i y o' s=some (p',r)∧Rel2 R p p'
 | 0,p,r,_,h=>by
   rw [Srch.row] at h;cases h;exact ⟨o',rfl,ho⟩
 | s + 1,p,r,hsm,h=>by
   rw [Srch.row,XW] at h;obtain ⟨⟨p1,r1⟩,h1,h2⟩:=h;obtain ⟨⟨p2,n⟩,h3,h4⟩:=XA.1 h2
   cases h4;dsimp only at h3 ⊢;obtain ⟨p1',h5,h6⟩:=Srch.sim_row hc hk hs hxy ho oM h1;have hst:=hs i x y s hxy oM;have hpos:posK W.key p1 (W.key (W.step i x s))=posK W'.key p1' (W'.key (W'.step i y s)):=ZcS h6.1 fun j a b ha hb=>hk a _ b _ (h6.2 j a b ha hb) hst;by_cases hp:posK W.key p1 (W.key (W.step i x s))<p1.length
   · rw [Wc hp] at h3;cases h3;(have hp':posK W'.key p1' (W'.key (W'.step i y s))<p1'.length:=by rw [←hpos,←h6.1];exact hp);exact ⟨p1',by rw [Srch.row_snoc h5 (Wc hp'),hpos],h6⟩
   · (have hp':¬posK W'.key p1' (W'.key (W'.step i y s))<p1'.length:=by rw [←hpos,←h6.1];exact hp);by_cases hcap:p1.length<W.cap
     · rw [Wd hp hcap] at h3;cases h3;exact ⟨p1'++[W'.step i y s],by rw [Srch.row_snoc h5 (Wd hp' (by have:=h6.1;omega)),h6.1],h6.snoc hst⟩
     · rw [P3 hp oM] at h3;cases h3
theorem Srch.sim (hm:W.m=W'.m) (hc:W.cap≤W'.cap) (hk:∀x x' y y',R x y→R x' y'→(W.key x=W.key x'↔W'.key y=W'.key y')) (hs:∀i x y s,R x y→s<W.m→R (W.step i x s) (W'.step i y s)) {x0:α} {y0:β} (h0:R x0 y0):
 ∀{i:Nat} {o:List α} {rows:List (List Nat)},W.upto x0 i=some (o,rows)→∃o',W'.upto y0 i=some (o',rows)∧Rel2 R o o'
 | 0,o,rows,h=>by
   rw [Srch.upto] at h;cases h;refine ⟨[y0],rfl,rfl,fun i x y hx hy=>?_⟩;match i with
   |0=>simp at hx hy;subst hx hy;exact h0
   |i+1=>simp at hx
 | i +1,o,rows,h=>by
   rw [Srch.upto,XW] at h;obtain ⟨⟨o1,rows1⟩,h1,h2⟩:=h;obtain ⟨o1',h3,h4⟩:=Srch.sim hm hc hk hs h0 h1;dsimp only at h2
   cases hx:o1[i]? with
   | none=>
     rw [hx] at h2;cases h2;have h5:=Up.1 hx;exact ⟨o1',Srch.upto_stop h3 (by dsimp only;have:=h4.1;omega) 1,h4⟩
   | some x=>
     rw [hx] at h2;obtain ⟨⟨o2,r⟩,h5,h6⟩:=XA.1 h2
     cases h6;have hil:=Zf hx;obtain ⟨y,hy⟩:=Zt (show i<o1'.length by have:=h4.1;omega);obtain ⟨p',h7,h8⟩:=Srch.sim_row hc hk hs (h4.2 i x y hx hy) h4 (Xg _) h5;rw [hm] at h7;exact ⟨p',Srch.upto_snoc h3 hy h7,h8⟩
end
section
variable {κ κ':Type} [DecidableEq κ] [DecidableEq κ']
end
theorem Zod {t:Tab} {o:List Nat} {rows:List (List Nat)} {i:Nat} (hi:i<o.length):Gz (WB t (o,rows)) (i:Nat)=JB t o i:=by
 rw [V6]
 have:Gz (WB t (o,rows)) (i:Nat)=true↔((i:Nat):Int)∈Yc o.length (JB t o):=by
  show LQ (Yc o.length (JB t o)) (i:Nat)=true↔_;exact Jb
 rw [this,Jz,XS]
 constructor
 · exact fun h=>h.2.2
 · exact fun h=>⟨oM,oM,h⟩
theorem SK {f g:Nat→Bool}:∀n:Nat,(∀i,i<n→f i=g i)→Yc n f=Yc n g
 |0,_=>rfl
 |n+1,h=>by rw [WE,WE,SK n fun i hi=>h i oM,h n oM]
structure PreA (a:Aut):Prop where
 n0:0≤a.n
 s0:0≤a.syms
 s1:a.syms≤40
 st:InS a a.start
 fi:InS a a.fin
 sn:a.start.Nodup
 fn:a.fin.Nodup
 mv:∀m∈a.moves,0≤m.src∧m.src<a.n∧0≤m.dst∧m.dst<a.n∧-1≤m.sym∧m.sym<a.syms
def mkA (a:Aut):Aut:={a with moves:=mkM a.moves}
theorem PreA.aok {a:Aut} (h:PreA a) (hb:¬(2000<(mkA a).n∨20000<(mkA a).moves.length)):AOk (mkA a):=by
 have hn:¬2000<a.n:=fun h=>hb (.inl h)
 have hl:∀{l:List Int},l.Nodup→InS a l→l.length≤2000:=fun {l} h1 h2=>by
  have:=nodup_len a.n.toNat l h1 fun s hs=>by have:=h2 s hs;have:=h.n0;omega
  omega
 exact ⟨h.n0,by show a.n≤2000;omega,h.s0,h.s1,by have:=hb;omega,h.st,h.fi,hl h.sn h.st,hl h.fn h.fi,fun m hm=>h.mv m (W2.1 hm)⟩
theorem ZcT {n:Int} {l:List Int} (h:Lp n l=true):Srt l:=by
 unfold Lp at h
 rw [Xf] at h
 have:=h.2
 clear h
 induction l with
 |nil=>exact .nil
 | cons x l ih=>
   cases l with
   |nil=>exact Vq ..
   | cons y l=>
     rw [Wv,Xf] at this;have h1:=ih this.2;(have hxy:x<y:=by have:=this.1;unfold ltI at this;simpa using this);refine XQ.2 ⟨fun z hz=>?_,h1⟩;rcases Xs.1 hz with rfl|hz
     · exact hxy
     · exact Int.lt_trans hxy ((XQ.1 h1).1 z hz)
theorem ζu:∀{l:List Mv},Wv Ka l=true→AscM l
 |[],_=> .nil
 |[x],_=>Vq ..
 | x::y::l,h=>by
   rw [Wv,Xf] at h;have h1:=ζu h.2;refine XQ.2 ⟨fun z hz=>?_,h1⟩;rcases Xs.1 hz with rfl|hz
   · exact h.1
   · exact TP h.1 ((XQ.1 h1).1 z hz)
theorem WY {l:List Int} (h:Srt l):l.Nodup:=h.imp fun h=>oM
structure VOk (a:Aut):Prop extends AOk a where
 ss:Srt a.start
 fs:Srt a.fin
 ms:AscM a.moves
theorem WV {a:Aut} (h:Z4 a=true):VOk a:=by
 have h':=h
 unfold Z4 at h'
 simp only [Xf,UP] at h'
 obtain ⟨⟨⟨⟨⟨⟨⟨⟨_,_⟩,_⟩,_⟩,_⟩,h6⟩,h7⟩,_⟩,h9⟩:=h'
 exact ⟨Jn h,ZcT h6,ZcT h7,ζu h9⟩
theorem Lb {l:List Mv} (h:AscM l):l.Nodup:=h.imp fun {a b} h1 e=>by rw [e,La] at h1;cases h1
theorem J8 {α β:Type} {f:α→β} {l:List α} (h:l.Nodup) (hf:∀x∈l,∀y∈l,f x=f y→x=y):(l.map f).Nodup:=by
 induction l with
 |nil=>exact Vb
 | cons x l ih=>
   rw [Vf] at h;rw [Xw,Vf];refine ⟨fun hm=>?_,ih h.2 fun y hy z hz=>hf y (Xn _ hy) z (Xn _ hz)⟩;obtain ⟨y,hy,e⟩:=Xk.1 hm;have:=hf y (Xn _ hy) x (Xm ..) e;rw [this] at hy;exact h.1 hy
theorem Oa {a:Aut} (h:VOk a):PreA (KU a):=by
 have hn:=h.n0
 refine ⟨by show 0≤a.n+1;omega,h.s0,h.s1,fun s hs=>?_,fun s hs=>?_,by show [a.n].Nodup;simp,by show [a.n].Nodup;simp,fun m hm=>?_⟩
 · rw [show s=a.n from Xi.1 hs];exact ⟨hn,by show a.n<a.n+1;omega⟩
 · rw [show s=a.n from Xi.1 hs];exact ⟨hn,by show a.n<a.n+1;omega⟩
 · have hs:=h.s0;show 0≤m.src∧m.src<a.n+1∧0≤m.dst∧m.dst<a.n+1∧-1≤m.sym∧m.sym<a.syms;have hm':m∈a.moves++(a.start.map fun s=>(⟨a.n,s,-1⟩:Mv))++a.fin.map fun s=>(⟨s,a.n,-1⟩:Mv):=hm;rcases Xp.1 hm' with hm|hm
   · rcases Xp.1 hm with hm|hm
     · have:=h.mv m hm;omega
     · obtain ⟨s,hs,rfl⟩:=Xk.1 hm;have:=h.st s hs;dsimp only;omega
   · obtain ⟨s,hs,rfl⟩:=Xk.1 hm;have:=h.fi s hs;dsimp only;omega
theorem Ze1 {a:Aut} (h:VOk a):(KU a).moves.Nodup:=by
 show (a.moves++(a.start.map fun s=>(⟨a.n,s,-1⟩:Mv))++a.fin.map fun s=>(⟨s,a.n,-1⟩:Mv)).Nodup
 rw [VE,VE]
 refine ⟨⟨Lb h.ms,J8 (WY h.ss) fun x _ y _ e=>(Mv.mk.inj e).2.1,fun x hx y hy e=>?_⟩,J8 (WY h.fs) fun x _ y _ e=>(Mv.mk.inj e).1,fun x hx y hy e=>?_⟩
 · obtain ⟨s,hs,rfl⟩:=Xk.1 hy;have:=h.mv x hx;rw [e] at this;dsimp only at this;omega
 · obtain ⟨s,hs,rfl⟩:=Xk.1 hy;have h1:=h.fi s hs;rcases Xp.1 hx with hx|hx
   · have:=h.mv x hx;rw [e] at this;dsimp only at this;omega
   · obtain ⟨s',hs',e'⟩:=Xk.1 hx;rw [e] at e';have:=(Mv.mk.inj e').1;omega
theorem ZcU {i:Nat} {r:List Nat} {s n:Nat} (h:r[s]? =some n):(Yi i r)[s]? =some ⟨(i:Nat),(n:Nat),(s:Nat)⟩:=by
 unfold Yi
 rw [Xh,List.getElem?_zipIdx,h]
 show some (⟨(i:Nat),(n:Nat),((0+s:Nat):Int)⟩:Mv)=_
 rw [Xv]
def SL (k:Nat) (rows:List (List Nat)):List Mv:=(rows.zipIdx k).flatMap fun p=>Yi p.2 p.1
theorem Gr (k:Nat) (r:List Nat) (rows:List (List Nat)):SL k (r::rows)=Yi k r++SL (k+1) rows:=by
 unfold SL;rw [VZ,Xz]
theorem OV {m:Nat}:∀{rows:List (List Nat)} {k i s n:Nat} {r:List Nat},(∀r∈rows,r.length=m)→rows[i]? =some r→r[s]? =some n→(SL k rows)[i*m+s]? =some ⟨((k+i:Nat):Int),(n:Nat),(s:Nat)⟩
 |[],_,_,_,_,_,_,h,_=>by simp at h
 | x::rows,k,0,s,n,r,hl,hr,hs=>by
   simp only [Vw,Option.some.injEq] at hr;subst hr;rw [Gr,VB,Xv,Vj (by rw [JA];exact Zf hs),ZcU hs];rfl
 | x::rows,k,i+1,s,n,r,hl,hr,hs=>by
   simp only [V7] at hr;have hx:=hl x (Xm ..);rw [Gr,Vo (by rw [JA,hx,X8];omega),JA,hx,show (i+1)*m+s-m=i*m+s by rw [X8];omega,OV (fun r hr=>hl r (Xn _ hr)) hr hs];rw [show k+1+i=k+(i+1) by omega]
theorem Rj {i:Nat} {r:List Nat}:∀m∈Yi i r,m.src=(i:Nat):=fun m hm=>by
 obtain ⟨n,s,_,rfl⟩:=ζt hm
 rfl
theorem EA {k:Nat} {rows:List (List Nat)}:∀m∈SL k rows,(k:Int)≤m.src:=fun m hm=>by
 unfold SL at hm
 obtain ⟨p,hp,hm⟩:=XP.1 hm
 rw [Rj m hm]
 have:=List.mem_zipIdx hp
 omega
theorem OW:∀{rows:List (List Nat)} {k i:Nat} {r:List Nat},rows[i]? =some r→(SL k rows).filter (fun m=>decide (m.src=((k+i:Nat):Int)))=Yi (k+i) r
 |[],_,_,_,h=>by simp at h
 | x ::rows,k,0,r,h=>by
   simp only [Vw,Option.some.injEq] at h;subst h;rw [VW,Gr,XU,UE.2 fun m hm=>UQ (Rj m hm),List.filter_eq_nil_iff.2 fun m hm=>by
    have:=EA m hm;simp only [UP];omega,Xr]
 | x ::rows,k,i+1,r,h=>by
   simp only [V7] at h;rw [Gr,XU,List.filter_eq_nil_iff.2 fun m hm=>by
    have:=Rj m hm;simp only [UP];omega,X3,show k+(i+1)=k+1+i by omega]
   exact OW h
structure DetA (A:Aut):Prop where
 ok:AOk A
 pos:0<A.n.toNat
 mo:∀i s,i<A.n.toNat→s<A.syms.toNat→∃x:Mv,(movesOf A i)[s]? =some x∧A.moves[i*A.syms.toNat+s]? =some x∧x.dst=(stepA A i s:Nat)
 ml:∀i,i<A.n.toNat→(movesOf A i).length=A.syms.toNat
 sl:∀i s,i<A.n.toNat→s<A.syms.toNat→stepA A i s<A.n.toNat
theorem EB {A:Aut} {i s:Nat} {x:Mv} (h:A.moves[i*A.syms.toNat+s]? =some x):stepA A i s=x.dst.toNat:=by
 unfold stepA;rw [h];rfl
theorem Zny {t:Tab} (ht:TOk t) {o:List Nat} {rows:List (List Nat)} (h:Fin t o rows) (hm:(ZY rows).length≤20000):DetA (WB t (o,rows)):=by
 have hok:=P' ht h hm
 have hn:(WB t (o,rows)).n.toNat=o.length:=XS _
 have hs:(WB t (o,rows)).syms.toNat=t.m:=XS _
 have key:∀i s,i<o.length→s<t.m→∃(r:List Nat) (n:Nat),rows[i]? =some r∧r[s]? =some n∧n<o.length∧(WB t (o,rows)).moves[i*t.m+s]? =some ⟨(i:Nat),(n:Nat),(s:Nat)⟩∧movesOf (WB t (o,rows)) i=Yi i r:=fun i s hi hs=>by
  obtain ⟨r,hr⟩:=Zt (show i<rows.length by rw [h.len];exact hi);have hrl:r.length=t.m:=h.ok.len r (Xc hr);obtain ⟨n,hn⟩:=Zt (show s<r.length by omega);obtain ⟨x,hx⟩:=Zt hi;refine ⟨r,n,hr,hn,(h.ok.to i x r s n hx hr hn).1,?_,?_⟩
  · have:=OV (k:=0) h.ok.len hr hn;rw [Xv] at this;exact this
  · have:=OW (k:=0) hr;rw [Xv] at this;exact this
 refine ⟨hok,by rw [hn];exact h.pos,fun i s hi hs'=>?_,fun i hi=>?_,fun i s hi hs'=>?_⟩
 · rw [hn] at hi;rw [hs] at hs' ⊢;obtain ⟨r,n,h1,h2,h3,h4,h5⟩:=key i s hi hs';refine ⟨_,by rw [h5];exact ZcU h2,h4,?_⟩;rw [EB (by rw [hs];exact h4)];show ((n:Nat):Int)=(((n:Nat):Int).toNat:Nat);rw [XS]
 · rw [hn] at hi;obtain ⟨r,hr⟩:=Zt (show i<rows.length by rw [h.len];exact hi);have:=OW (k:=0) hr;rw [Xv] at this;show ((ZY rows).filter fun m=>decide (m.src=(i:Int))).length=_;rw [show ((ZY rows).filter fun m=>decide (m.src=(i:Int)))=Yi i r from this,JA,hs];exact h.ok.len r (Xc hr)
 · rw [hn] at hi ⊢;rw [hs] at hs';obtain ⟨r,n,h1,h2,h3,h4,h5⟩:=key i s hi hs';rw [EB (by rw [hs];exact h4)];show ((n:Nat):Int).toNat<_;rw [XS];exact h3
theorem SN {a A:Aut} (h:AOk a) (hr:W5 a= .ok A):DetA A∧A.syms=a.syms:=by
 obtain ⟨t,o,rows,hs,hT,_,hF,rfl,hm⟩:=Za3 h hr
 refine ⟨Zny hT hF hm,?_⟩
 unfold K4 at hs
 obtain ⟨q,_,rfl⟩:=XA.1 hs
 show ((a.syms.toNat:Nat):Int)=a.syms
 have:=h.s0
 omega
def Za4 (A B:Aut) (x:(Nat×Nat)×(Int×Int)):Prop:=x.1.1<A.n.toNat∧x.1.2<B.n.toNat
theorem Ob {A B:Aut} (hA:DetA A) (hB:DetA B) (hs:A.syms=B.syms) {i:Nat} {o:List ((Nat×Nat)×(Int×Int))} {rows:List (List Nat)} (hu:(Wq A B).upto ((0,0),(-1,-1)) i=some (o,rows)):(Wq A B).Ok (Za4 A B) ((0,0),(-1,-1)) o rows∧(i≤o.length→rows.length=i)∧(o.length≤i→rows.length=o.length):=
 Srch.ok (W:=Wq A B) (P:=Za4 A B) (show 1≤2000 by decide) ⟨hA.pos,hB.pos⟩ (fun i x s hx hsm=>⟨hA.sl _ _ hx.1 hsm,hB.sl _ _ hx.2 (by have:s<A.syms.toNat:=hsm;rw [←hs];exact this)⟩) hu
def EC (t:Tab) (x:Nat) (w:List Nat):Nat:=w.foldl (toT t) x
def ED (t:Tab) (x:Nat) (w:List Nat):Bool:=(t.fin[EC t x w]?).getD false
def W9 (m:Nat) (w:List Nat):Prop:=∀c∈w,c<m
def SameL (t:Tab) (x:Nat) (t':Tab) (x':Nat):Prop:=∀w,W9 t.m w→ED t x w=ED t' x' w
theorem GU (t:Tab) (x c:Nat) (w:List Nat):ED t x (c::w)=ED t (toT t x c) w:=rfl
theorem SameL.step {t t':Tab} {x x' s:Nat} (h:SameL t x t' x') (hs:s<t.m):SameL t (toT t x s) t' (toT t' x' s):=fun w hw=>by
 have:=h (s::w) fun c hc=>by
  rcases Xs.1 hc with rfl|hc
  · exact hs
  · exact hw c hc
 rw [GU,GU] at this;exact this
theorem SameL.symm {t t':Tab} {x x':Nat} (hm:t.m=t'.m) (h:SameL t x t' x'):SameL t' x' t x:=fun w hw=>(h w (by rw [hm];exact hw)).symm
theorem SameL.trans {t t' t'':Tab} {x x' x'':Nat} (hm:t.m=t'.m) (h:SameL t x t' x') (h':SameL t' x' t'' x''):SameL t x t'' x'':=fun w hw=>(h w hw).trans (h' w (by rw [←hm];exact hw))
section
variable {t:Tab}
theorem Zf2 (h:TOk t) {c:Nat→Nat} {x:Nat} (hx:x<t.rows.length):((t.rows[x]?).getD []).map c=(List.range t.m).map fun s=>c (toT t x s):=by
 obtain ⟨r,hr⟩:=Zt hx
 have hl:=h.rl r (Xc hr)
 rw [hr]
 refine Vu fun s=>?_
 show (r.map c)[s]? =_
 rw [Xh,Xh]
 by_cases hs:s<t.m
 · obtain ⟨n,hn⟩:=Zt (show s<r.length by omega);rw [hn,Uh hs];show some (c n)=some (c (toT t x s));rw [R9 hr hn]
 · rw [XM oM,XM (by rw [Ul];omega)];rfl
theorem Za5 {m:Nat} {f g:Nat→Nat}:(List.range m).map f=(List.range m).map g↔∀s,s<m→f s=g s:=by
 constructor
 · intro h s hs;have h2:((List.range m).map f)[s]? =((List.range m).map g)[s]? :=by rw [h]
   rw [Xh,Xh,Uh hs] at h2;simpa using h2
 · intro h;exact VQ fun s hs=>h s (XT.1 hs)
theorem Za6 (h:TOk t) {c:Nat→Nat} {x y:Nat} (hx:x<t.rows.length) (hy:y<t.rows.length):Yn t.rows c x=Yn t.rows c y↔c x=c y∧∀s,s<t.m→c (toT t x s)=c (toT t y s):=by
 unfold Yn
 rw [Zf2 h hx,Zf2 h hy,List.cons.injEq,Za5]
theorem Oc {c:Nat→Nat} {x y:Nat} (hx:x<t.rows.length) (hy:y<t.rows.length):KI t.rows c x=KI t.rows c y↔Yn t.rows c x=Yn t.rows c y:=by
 constructor
 · intro h;obtain ⟨z,h1,h2⟩:=P0 (SF (k:=Yn t.rows c) hx).2;obtain ⟨z',h3,h4⟩:=P0 (SF (k:=Yn t.rows c) hy).2;have h5:posK id (YC (Yn t.rows c) t.rows.length) (Yn t.rows c x)=posK id (YC (Yn t.rows c) t.rows.length) (Yn t.rows c y):=h;rw [h5,h3] at h1
   cases h1;exact h2.symm.trans h4
 · intro h;unfold KI;rw [h]
structure CL (t:Tab) (c:Nat→Nat):Prop where
 co:∀x y,x<t.rows.length→y<t.rows.length→SameL t x t y→c x=c y
 fi:∀x y,x<t.rows.length→y<t.rows.length→c x=c y→t.fin[x]? =t.fin[y]?
theorem CL.next (h:TOk t) {c:Nat→Nat} (hc:CL t c):CL t (KI t.rows c):=
 ⟨fun x y hx hy hl=>(Oc hx hy).2 ((Za6 h hx hy).2 ⟨hc.co x y hx hy hl,fun s hs=>hc.co _ _ (KD h) (KD h) (hl.step hs)⟩),
  fun x y hx hy he=>hc.fi x y hx hy ((Za6 h hx hy).1 ((Oc hx hy).1 he)).1⟩
structure CS (t:Tab) (c:Nat→Nat):Prop extends CL t c where
 st:∀x y s,x<t.rows.length→y<t.rows.length→s<t.m→c x=c y→c (toT t x s)=c (toT t y s)
theorem CS.lang (h:TOk t) {c:Nat→Nat} (hc:CS t c) {x y:Nat} (hx:x<t.rows.length) (hy:y<t.rows.length) (he:c x=c y):SameL t x t y:=fun w=>by
 induction w generalizing x y with
 | nil=>
   intro _;have:=hc.fi x y hx hy he;show (t.fin[x]?).getD false=(t.fin[y]?).getD false;rw [this]
 | cons s w ih=>
   intro hw;rw [GU,GU];exact ih (KD h) (KD h) (hc.st x y s hx hy (hw s (Xm ..)) he) fun c hc=>hw c (Xn _ hc)
theorem Ze2:∀{k:Nat} {L:List Nat},(∀v,v<k→v∈L)→L.length=k→L.Nodup:=fun {k}=>by
 induction k with
 |zero=>intro L _ hl;rw [XR hl];exact Vb
 | succ k ih=>
   intro L hL hl;have hm:=hL k oM;obtain ⟨A,B,rfl⟩:=List.append_of_mem hm;have h1:(A++B).Nodup:=ih (fun v hv=>by
    have:=hL v oM;rcases Xp.1 this with h|h
    · exact X1 _ h
    · rcases Xs.1 h with h|h
      · omega
      · exact X9 _ h) (by simp only [Xb,Xl] at hl ⊢;omega)
   have h2:k∉A++B:=fun h3=>by
    have h4:∀v,v<k+1→v∈A++B:=fun v hv=>by
     by_cases e:v=k
     · rw [e];exact h3
     · have:=hL v hv;rcases Xp.1 this with h|h
       · exact X1 _ h
       · rcases Xs.1 h with h|h
         · exact UU h e
         · exact X9 _ h
    have h5:=Ew (n:=k+1) (L:=List.range (k+1)) List.nodup_range fun s hs=>XT.1 hs;have key:∀(M:List Nat) (n:Nat),M.Nodup→(∀v,v<n→v∈M)→n≤M.length:=fun M n _ hv=>by
     induction n generalizing M with
     |zero=>exact Xd _
     | succ n ih2=>
       have h6:=ih2 (M.erase n) ((by assumption:M.Nodup).erase _) fun v hv'=>(List.mem_erase_of_ne oM).2 (hv v oM);rw [UO (hv n oM)] at h6;have:=List.length_pos_of_mem (hv n oM);omega
    have:=key _ _ h1 h4;simp only [Xb,Xl] at hl this;omega
   have hp:(A++k::B).Perm (k::(A++B)):=List.perm_middle;rw [hp.nodup_iff,Vf];exact ⟨h2,h1⟩
theorem ζv {α β:Type} {f:α→β}:∀{l:List α},(l.map f).Nodup→∀x∈l,∀y∈l,f x=f y→x=y
 |[],_,x,hx,_,_,_=>by cases hx
 | z ::l,h,x,hx,y,hy,e=>by
   rw [Xw,Vf] at h;rcases Xs.1 hx with h1|h1
   · rcases Xs.1 hy with h2|h2
     · rw [h1,h2]
     · exact UU (Xk.2 ⟨y,h2,by rw [←e,h1]⟩) h.1
   · rcases Xs.1 hy with h2|h2
     · exact UU (Xk.2 ⟨x,h1,by rw [e,h2]⟩) h.1
     · exact ζv h.2 x h1 y h2 e
theorem Zht {c:Nat→Nat} {k:Nat} (hk:COk t.rows.length c k) (he:TM t.rows c=k) {x y:Nat} (hx:x<t.rows.length) (hy:y<t.rows.length) (hxy:c x=c y):Yn t.rows c x=Yn t.rows c y:=by
 have h1:∀v,v<k→v∈(YC (Yn t.rows c) t.rows.length).map fun l=>l.headD 0:=fun v hv=>by
  obtain ⟨s,hs,rfl⟩:=hk.hit v hv;exact Xk.2 ⟨Yn t.rows c s,JQ.2 ⟨s,hs,rfl⟩,rfl⟩
 have h2:=Ze2 h1 (by rw [Xe];exact he)
 exact ζv h2 _ (JQ.2 ⟨x,hx,rfl⟩) _ (JQ.2 ⟨y,hy,rfl⟩) hxy
theorem ZcV (h:TOk t):∀{f:Nat} {c:Nat→Nat} {k:Nat},COk t.rows.length c k→CL t c→t.rows.length<f+k→CS t (Tf t.rows f c k)
 |0,c,k,hk,_,hf=>by have:=hk.le;omega
 | f +1,c,k,hk,hc,hf=>by
   rw [Tf];split
   · rename_i he;refine ⟨hc.next h,fun x y s hx hy hs hxy=>?_⟩;have h1:=((Za6 h hx hy).1 ((Oc hx hy).1 hxy)).2 s hs;exact (Oc (KD h) (KD h)).2 (Zht hk he (KD h) (KD h) h1)
   · rename_i he;have:=hk.grow;exact ZcV h hk.next (hc.next h) oM
theorem Zma (h:TOk t):CL t (Lq t.fin):=by
 refine ⟨fun x y hx hy hl=>?_,fun x y hx hy he=>?_⟩
 · have:=hl [] fun c hc=>by cases hc
   have h1:(t.fin[x]?).getD false=(t.fin[y]?).getD false:=this;unfold Lq;rw [h1]
 · have hf:=h.fl;obtain ⟨b,hb⟩:=Zt (show x<t.fin.length by omega);obtain ⟨b',hb'⟩:=Zt (show y<t.fin.length by omega);unfold Lq at he;rw [hb,hb'] at he ⊢
   cases b<;>cases b'<;>simp_all
theorem Ze3 (h:TOk t):CS t (Yu t):=by
 unfold Yu
 exact ZcV h (COk.start t.fin _) (Zma h) oM
theorem Za7 (h:TOk t) {x y:Nat} (hx:x<t.rows.length) (hy:y<t.rows.length):Yu t x=Yu t y↔SameL t x t y:=
 ⟨fun e=>(Ze3 h).lang h hx hy e,fun e=>(Ze3 h).co x y hx hy e⟩
end
section
variable {t t':Tab}
theorem ζw (h:TOk t) (h':TOk t') (hm:t.m=t'.m) (hL:SameL t 0 t' 0) (hle:t.rows.length≤t'.rows.length):Wh t=Wh t':=by
 obtain ⟨⟨o,rows⟩,h1⟩:=Zl8 h
 have hF:=Pb h h1
 have h2:(minW t).upto 0 t'.rows.length=some (o,rows):=by
  have hc:o.length≤t.rows.length:=hF.ok.cap;have h3:=Srch.upto_stop h1 hc (t'.rows.length-t.rows.length);have e:(minW t).cap+(t'.rows.length-t.rows.length)=t'.rows.length:=by show t.rows.length+_=_;omega
  rw [e] at h3;exact h3
 obtain ⟨o',h3,h4⟩:=Srch.sim (W:=minW t) (W':=minW t') (R:=fun x y=>x<t.rows.length∧y<t'.rows.length∧SameL t x t' y) hm hle
  (fun x x' y y' hx hx'=>by
    show Yu t x=Yu t x'↔Yu t' y=Yu t' y';rw [Za7 h hx.1 hx'.1,Za7 h' hx.2.1 hx'.2.1];constructor
    · exact fun e=>((hx.2.2.symm hm).trans hm.symm e).trans hm.symm hx'.2.2
    · exact fun e=>(hx.2.2.trans hm e).trans hm (hx'.2.2.symm hm))
  (fun i x y s hx hs=>⟨KD h,KD h',hx.2.2.step hs⟩) ⟨h.pos,h'.pos,hL⟩ h2
 have h5:(minW t').all 0=some (o',rows):=h3
 unfold Wh
 rw [h1,h5]
 show (if 20000<(ZY rows).length then none else some (WB t (o,rows)))=(if 20000<(ZY rows).length then none else some (WB t' (o',rows)))
 have e:WB t (o,rows)=WB t' (o',rows):=by
  unfold WB;dsimp only;rw [h4.1,hm];congr 1;refine SK _ fun i hi=>?_;obtain ⟨x,hx⟩:=Zt (show i<o.length by rw [h4.1];exact hi);obtain ⟨y,hy⟩:=Zt hi;have h6:=(h4.2 i x y hx hy).2.2 [] fun c hc=>by cases hc
  unfold JB;rw [hx,hy];exact h6
 rw [e]
theorem Ze4 (h:TOk t) (h':TOk t') (hm:t.m=t'.m) (hL:SameL t 0 t' 0):Wh t=Wh t':=by
 rcases Nat.le_total t.rows.length t'.rows.length with h1|h1
 · exact ζw h h' hm hL h1
 · exact (ζw h' h hm.symm (hL.symm hm) h1).symm
end
def RG (a:Aut) (w:List Int):List Int:=w.foldl (fun S c=>Yz a c S) (YN a a.start)
theorem ζx {a:Aut} {w:List Int} {k:Nat} {c:Int} (h:w[k]? =some c):RG a (w.take (k+1))=Yz a c (RG a (w.take k)):=by unfold RG;rw [ZR h,Vv];rfl
theorem Zf3 {a:Aut} (h:AOk a):∀w:List Int,InS a (RG a w)∧(RG a w).length≤2000:=fun w=>by
 have key:∀(w:List Int) (S:List Int),InS a S∧S.length≤2000→InS a (w.foldl (fun S c=>Yz a c S) S)∧(w.foldl (fun S c=>Yz a c S) S).length≤2000:=fun w=>by
  induction w with
  |nil=>intro S hS;exact hS
  | cons c w ih=>
    intro S hS;have h1:=L' h.mi (Ki h.mi c S);have h2:=h.n1;exact ih _ ⟨LG h.mi c S,by show (YN a (KG a c S)).length≤2000;omega⟩
 have h1:=L' h.mi h.st
 have h2:=h.n1
 exact key w _ ⟨L9 h.mi h.st,oM⟩
def CG (a:Aut) (w:List Int):Bool×Int:=if Z4 a=false then (false,1) else if 200<w.length then (false,5) else if (w.any fun s=>decide (s<0)||decide (a.syms≤s))=true then (false,2) else (Wy a (RG a w),0)
theorem Za8 (a:Aut) (s:Int):AF prog 109 [pInt s, .sptr 0 [pInt a.n,pInt a.syms,pInts a.start,pInts a.fin,pMvs a.moves]] (· =ZM (decide (s<0)||decide (a.syms≤s))):=by
 refine AF.of_body 12 func109 rfl ntmps109 (Xa rfl) ?_
 intro w0 M0 vs hl hv
 obtain ⟨v0,v1,rfl⟩:=YI hl
 obtain rfl:=hv 0 _ _ rfl rfl
 clear hl hv
 refine Ze ?_
 (refine xL 3 Za ?_<;>refine Zi ?_)
 (refine xL 4 Zb (xL 5 ZP (xL 6 Zb ?_))<;>(refine bLd 6 (fun hb6=>?_) (fun hb6=>?_)<;>(first|refine kL 7 ?_|refine xL 7 Zb ?_))<;>(first|refine kL 8 ?_|refine xL 8 (Js Z3) ?_)<;>(first|refine kL 9 ?_|(refine yL 9 (Z9 Zg) fun v9 h=>?_;cases h))<;>(first|refine kL 10 ?_|refine xL 10 Wi ?_)<;>refine xL 11 ZF (xL 3 Za ?_)<;>refine Zc ?_)<;>(
 refine Zz (results109) rfl ?_;show ZM _=ZM _
 first
  |(rw [UQ (show s<0 by assumption)];rfl)
  |(rw [UR (show ¬s<0 by assumption)];rfl))
set_option maxHeartbeats 2000000 in
theorem ZcW (a :Aut) (w:List Int):AF prog 68 [ZN a,pInts w] (· = .tup [ZM (CG a w).1,pInt (CG a w).2]):=by
 refine AF.of_body 42 func68 rfl ntmps68 (Xa rfl) ?_
 intro w0 M0 vs hl hv
 obtain ⟨v0,v1,rfl⟩:=YI hl
 clear hl hv
 refine Ze ?_
 (refine ZB 2 5 fun h2=>?_<;>refine xL 4 Za (xL 5 Za ?_)<;>refine Zi ?_)
 ((refine yL 11 (Zu 2 Zh) fun v11 h=>?_;cases h)<;>(refine cS 12 (cA call107 (Wo a)) fun v12 h=>?_;cases h)<;>refine xL 13 Ya (xL 10 Za ?_)<;>refine Zc ?_)
 refine cX ?_ ?_<;>intro hb10
 · first|exact bN hb10|(
 (have hok:Z4 a=false:=by simpa using hb10);refine Ze ?_;(refine xL 4 Za (xL 5 Za ?_)<;>refine Zc ?_)
 refine Wb (results68) rfl rfl ?_;unfold CG;rw [UT hok])
 · first | exact bN hb10|(
 (have hok:Z4 a=true:=by simpa using hb10);have hA:=Jn hok;have hn1:=hA.n1;refine Ze ?_;(refine xL 15 Zb (xL 16 (ZT Zp) (xL 17 Yr (xL 14 Za ?_)))<;>refine Zc ?_)
 refine cX ?_ ?_<;>intro hb14
 · first|exact bN hb14|(
 refine Ze ?_;(refine xL 4 Za (xL 5 Za ?_)<;>refine Zc ?_)
 refine Wb (results68) rfl rfl ?_;unfold CG;rw [US (by rw [hok];decide),UT oM])
 · first | exact bN hb14|(
 refine nav ?_;refine Zq (PL (l:=2) (t:=2) (j:=0) rfl Nat.one_pos rfl) fun _=>?_;(refine Zv ?_<;>refine xL 19 Zb (xL 20 ZaJ ?_)<;>(refine cS 21 (cA call108 (Ly 109 [.sptr 0 [pInt a.n,pInt a.syms,pInts a.start,pInts a.fin,pMvs a.moves]] (fun s=>decide (s<0)||decide (a.syms≤s)) w (call109) (fun s _=>Za8 a s))) fun v21 h=>?_;cases h)<;>refine xL 18 Za ?_<;>refine Zc ?_)
 refine cX ?_ ?_<;>intro hb18
 · first|exact bN hb18|(
 refine Ze ?_;(refine xL 4 Za (xL 5 Za ?_)<;>refine Zc ?_)
 refine Wb (results68) rfl rfl ?_;unfold CG;rw [US (by rw [hok];decide),US oM,UT hb18])
 · first |exact bN hb18|(
 have hax:CG a w=(Wy a (RG a w),0):=by
  unfold CG;rw [US (by rw [hok];decide),US oM,US (by rw [hb18];decide)]
 refine Ze ?_;((refine yL 22 (Wn Zh) fun v22 h=>?_;cases h)<;>(refine cS 23 (cA call110 (G9 a hA)) fun v23 h=>?_;cases h)<;>refine xL 6 Za ?_<;>refine Zi ?_)
 (refine xL 24 Zb (xL 25 (Js Z1) ?_)<;>(refine yL 26 (Z9 Zy) fun v26 h=>?_;cases h)<;>(refine cO 27 (cA call111 (TH a a.start hn1 hA.mi hA.st)) fun v27 ho27=>?_;refine Zs (En.freeze (l:=27) (t:=27) rfl rfl) fun _=>?_;rw [ZS _ _ _ rfl])<;>refine xL 7 Za ?_<;>refine Zi ?_)
 (refine xL 28 Zb (xL 29 (ZT Zp) (xL 30 Zb ?_))<;>refine Zc ?_)
 refine ZD (ι:={q:Nat×Value//q.1≤w.length}) (fun k=>⟨[(6,_,_),(28,_,_),(29,_,_),(7,k.1.2,pInts (RG a (w.take k.1.1))),(30, .int .i64 k.1.1,pInt k.1.1)],[]⟩) (fun k=>w.length-k.1.1) ⟨(0,v27),Xd _⟩ (fun a w H=>H.weaken ⟨rfl,rfl,rfl,rfl,rfl,trivial⟩ trivial) ?_;rintro ⟨⟨k,v⟩,hk⟩;dsimp only;dsimp only at hk;have hrun:=Zf3 hA (w.take k);refine Ze ?_;(refine xL 31 ZP ?_<;>refine Zc ?_)
 refine cX ?_ ?_<;>intro hb31
 · first|exact bN hb31|(
 obtain ⟨c,hc⟩:=Zt (show k<w.length by omega);have e1:=Z7 (f:=pInt) hc;refine Ze ?_;(refine xL 32 (ZI Zp) ?_<;>(refine yL 33 (Z9 Zg) fun v33 h=>?_;cases h)<;>refine xL 9 Za ?_<;>refine Zi ?_)
 (refine xL 34 Zb (xL 35 Zb (xL 36 Zb ?_))<;>(refine cO 37 (cA call112 (Hy a (RG a (w.take k)) c hn1 hA.ml hA.mi hrun.1 hrun.2)) fun v37 ho37=>?_;refine Zs (En.freeze (l:=37) (t:=37) rfl rfl) fun _=>?_;rw [ZS _ _ _ rfl])<;>refine xL 7 Za ?_<;>refine Zi ?_)
 (refine xL 38 ZG (xL 30 Zb ?_)<;>refine Zc ?_)
 rw [←ζx hc];refine Zm (
  ⟨(k+1,v37),Zf hc⟩
  ) (by dsimp only;omega) ⟨rfl,rfl,rfl,rfl,rfl,trivial⟩ trivial)
 · first|exact bN hb31|(
 obtain rfl:k=w.length:=oM;rw [Vy] at hrun ⊢;refine Ze ?_;(refine xL 39 Zb (xL 40 Zb ?_)<;>(refine cS 41 (cA call113 (R2 a (RG a w) hrun.1)) fun v41 h=>?_;cases h)<;>refine xL 4 Za (xL 5 Za ?_)<;>refine Zc ?_)
 refine Wb (results68) rfl rfl ?_;rw [hax];rfl))))
def wI (w:List Nat):List Int:=w.map fun c:Nat=>(c:Int)
def DT (a:Aut) (S:List Int) (w:List Int):List Int:=w.foldl (fun S c=>Yz a c S) S
def GN (a:Aut) (w:List Int):Bool:=Wy a (RG a w)
theorem EE (a:Aut) (w:List Int):GN a w=Wy a (DT a (YN a a.start) w):=rfl
theorem ZcX {a:Aut} (h:AOk a) {o:List (List Int)} {rows:List (List Nat)} (hu:(WS a).all (YN a a.start)=some (o,rows)):∀(w:List Nat) (i:Nat) (S:List Int),W9 a.syms.toNat w→o[i]? =some S→ED ⟨a.syms.toNat,rows,o.map (Wy a)⟩ i w=Wy a (DT a S (wI w)):=by
 obtain ⟨h2,h3,h4⟩:=Ex h hu
 have hcap:o.length≤2000:=h2.cap
 have h5:=h4 hcap
 intro w
 induction w with
 | nil=>
   intro i S _ hi;show ((o.map (Wy a))[i]?).getD false=Wy a S;rw [Xh,hi];rfl
 | cons c w ih=>
   intro i S hw hi;have hc:c<a.syms.toNat:=hw c (Xm ..);obtain ⟨r,hr⟩:=Zt (show i<rows.length by have:=Zf hi;omega);have hl:r.length=a.syms.toNat:=h2.len r (Xc hr);obtain ⟨n,hn⟩:=Zt (show c<r.length by omega);obtain ⟨h6,h7⟩:=h2.to i S r c n hi hr hn;obtain ⟨T,hT,hT2⟩:=P0 (f:=(WS a).key) (l:=o) (k:=(WS a).key ((WS a).step i S c)) (by rw [h7];exact h6);rw [h7] at hT;have hT3:T=Yz a (c:Nat) S:=hT2;rw [GU,R9 hr hn,ih n T (fun c hc=>hw c (Xn _ hc)) hT,hT3];rfl
theorem ZcY {a:Aut} (h:AOk a) {t:Tab} (ht:K4 a=some t) {w:List Nat} (hw:W9 a.syms.toNat w):ED t 0 w=GN a (wI w):=by
 unfold K4 at ht
 obtain ⟨⟨o,rows⟩,h1,rfl⟩:=XA.1 ht
 obtain ⟨h2,_,_⟩:=Ex h h1
 exact ZcX h h1 w 0 _ hw h2.zero
theorem Zpc {a:Aut} {t:Tab} (ht:K4 a=some t):t.m=a.syms.toNat:=by
 unfold K4 at ht
 obtain ⟨q,_,rfl⟩:=XA.1 ht
 rfl
section
variable {t:Tab} {o:List Nat} {rows:List (List Nat)}
theorem EF (h:Fin t o rows) {i s:Nat} (hi:i<o.length) (hs:s<t.m):∃(r:List Nat) (n x y:Nat),rows[i]? =some r∧r[s]? =some n∧o[i]? =some x∧o[n]? =some y∧Yu t y=Yu t (toT t x s):=by
 obtain ⟨r,hr⟩:=Zt (show i<rows.length by rw [h.len];exact hi)
 have hrl:r.length=t.m:=h.ok.len r (Xc hr)
 obtain ⟨n,hn⟩:=Zt (show s<r.length by omega)
 obtain ⟨x,hx⟩:=Zt hi
 obtain ⟨h6,h7⟩:=h.ok.to i x r s n hx hr hn
 obtain ⟨y,hy,hy2⟩:=P0 (f:=(minW t).key) (l:=o) (k:=(minW t).key ((minW t).step i x s)) (by rw [h7];exact h6)
 rw [h7] at hy
 exact ⟨r,n,x,y,hr,hn,hx,hy,hy2⟩
theorem ZcZ {i s n:Nat} {r:List Nat} (h1:rows[i]? =some r) (h2:r[s]? =some n):(⟨(i:Nat),(n:Nat),(s:Nat)⟩:Mv)∈ZY rows:=by
 unfold ZY
 refine XP.2 ⟨(r,i),UH.2 h1,?_⟩
 unfold Yi
 exact Xk.2 ⟨(n,s),UH.2 h2,rfl⟩
theorem ζy (hok:AOk (WB t (o,rows))) {i:Nat} (hi:i<o.length) {l:List Int} (hl:∀x,x∈l↔x=(i:Int)):YN (WB t (o,rows)) l=[(i:Int)]:=by
 have hin:∀s∈l,0≤s∧s<(WB t (o,rows)).n:=fun s hs=>by
  rw [(hl s).1 hs];exact ⟨oM,by show ((i:Nat):Int)<(o.length:Nat);omega⟩
 refine Rf (KA hok.mi hin) (Vq ..) fun x=>?_
 rw [K3 hok.mi hin,Xi]
 constructor
 · intro h;induction h with
   |base h=>exact (hl _).1 h
   | step _ hm hs hd ih=>
     obtain ⟨_,s,_,_,_,_,rfl⟩:=Pd hm;have h1:((s:Nat):Int)= -1:=hd;omega
 · intro h;subst h;exact .base ((hl _).2 rfl)
theorem OX (h:Fin t o rows) (hok:AOk (WB t (o,rows))) {i s n:Nat} {r:List Nat} (hr:rows[i]? =some r) (hn:r[s]? =some n) (hno:n<o.length):Yz (WB t (o,rows)) (s:Nat) [(i:Int)]=[(n:Int)]:=by
 have hi:i<o.length:=by rw [←h.len];exact Zf hr
 refine ζy hok hno fun x=>?_
 have hin:∀s∈[(i:Int)],0≤s∧s<(WB t (o,rows)).n:=fun s hs=>by
  rw [Xi.1 hs];exact ⟨oM,by show ((i:Nat):Int)<(o.length:Nat);omega⟩
 rw [Jx hin]
 constructor
 · rintro ⟨m,hm,h1,h2,rfl⟩;obtain ⟨i',s',n',r',h3,h4,rfl⟩:=Pd hm;have h1:((i':Nat):Int)=i:=Xi.1 h1;have h2:((s':Nat):Int)=s:=h2;have e1:i'=i:=oM;have e2:s'=s:=oM;subst e1 e2;rw [hr] at h3;cases h3;rw [hn] at h4;cases h4;rfl
 · rintro rfl;exact ⟨_,ZcZ hr hn,Xi.2 rfl,rfl,rfl⟩
theorem ZjN (h:Fin t o rows) {i x:Nat} (hx:o[i]? =some x):Wy (WB t (o,rows)) [(i:Int)]=(t.fin[x]?).getD false:=by
 show (Gz (WB t (o,rows)) (i:Int)||false)=_
 rw [Vh,Zod (Zf hx)]
 unfold JB;rw [hx];rfl
theorem Zmb (ht:TOk t) (h:Fin t o rows) (hok:AOk (WB t (o,rows))):∀(w:List Nat) (i x:Nat),W9 t.m w→o[i]? =some x→Wy (WB t (o,rows)) (DT (WB t (o,rows)) [(i:Int)] (wI w))=ED t x w:=by
 intro w
 induction w with
 |nil=>intro i x _ hx;exact ZjN h hx
 | cons c w ih=>
   intro i x hw hx;obtain ⟨r,n,x',y,hr,hn,hx',hy,hc⟩:=EF h (Zf hx) (hw c (Xm ..));rw [hx] at hx';cases hx';show Wy _ (DT _ (Yz _ (c:Nat) [(i:Int)]) (wI w))=ED t (toT t x c) w;have hw':W9 t.m w:=fun c hc=>hw c (Xn _ hc);rw [OX h hok hr hn (Zf hy),ih n y hw' hy];exact (Za7 ht (h.ok.p y (Xc hy)) (KD ht)).1 hc w hw'
theorem Pe (h:Fin t o rows) (hok:AOk (WB t (o,rows))):YN (WB t (o,rows)) (WB t (o,rows)).start=[((0:Nat):Int)]:=ζy hok h.pos fun x=>Xi
theorem ζz (ht:TOk t) (h:Fin t o rows) (hok:AOk (WB t (o,rows))) {w:List Nat} (hw:W9 t.m w):GN (WB t (o,rows)) (wI w)=ED t 0 w:=by
 rw [EE,Pe h hok]
 exact Zmb ht h hok w 0 0 hw h.ok.zero
theorem Zhu (ht:TOk t) (hu:(minW t).all 0=some (o,rows)) (hm:(ZY rows).length≤20000):W5 (WB t (o,rows))= .ok (WB t (o,rows)):=by
 have h:=Pb ht hu
 have hok:=P' ht h hm
 have hn1:=ht.n1
 have hcap:o.length≤t.rows.length:=h.ok.cap
 have h2:(minW t).upto 0 2000=some (o,rows):=by
  have h3:=Srch.upto_stop hu hcap (2000-t.rows.length);have e:(minW t).cap+(2000-t.rows.length)=2000:=by show t.rows.length+_=_;omega
  rw [e] at h3;exact h3
 have hsy:(WB t (o,rows)).syms.toNat=t.m:=XS _
 obtain ⟨o',h3,h4⟩:=Srch.sim (W:=minW t) (W':=WS (WB t (o,rows))) (R:=fun x S=>x<t.rows.length∧∃(i z:Nat),S=[(i:Int)]∧o[i]? =some z∧Yu t z=Yu t x) hsy.symm hn1
  (fun x x' S S' ⟨hx,i,z,e,hz,hc⟩ ⟨hx',i',z',e',hz',hc'⟩=>by
    show Yu t x=Yu t x'↔S=S';rw [e,e',←hc,←hc'];constructor
    · intro e2;have h5:posK (minW t).key o (Yu t z)=i:=G6 h.ok.nd hz;have h6:posK (minW t).key o (Yu t z')=i':=G6 h.ok.nd hz';rw [←h5,←h6,e2]
    · intro e2;(have:i=i':=by have:=(List.cons.inj e2).1;omega);subst this;rw [hz] at hz';cases hz';rfl)
  (fun i x S s ⟨hx,j,z,e,hz,hc⟩ hs=>by
    have hs:s<t.m:=hs;obtain ⟨r,n,z',y,hr,hn,hz',hy,hc2⟩:=EF h (Zf hz) hs;rw [hz] at hz';cases hz';refine ⟨KD ht,n,y,?_,hy,?_⟩
    · show Yz _ (s:Nat) S=_;rw [e,OX h hok hr hn (Zf hy)]
    · rw [hc2];exact (Ze3 ht).st z x s (h.ok.p z (Xc hz)) hx hs hc)
  (show (0:Nat)<t.rows.length∧_ from ⟨ht.pos,0,0,Pe h hok,h.ok.zero,rfl⟩) h2
 have h5:K4 (WB t (o,rows))=some ⟨t.m,rows,o'.map (Wy (WB t (o,rows)))⟩:=by
  unfold K4;rw [show (WS (WB t (o,rows))).all (YN (WB t (o,rows)) (WB t (o,rows)).start)=some (o',rows) from h3,hsy];rfl
 have h6:=HC hok h5
 have h7:Wh ⟨t.m,rows,o'.map (Wy (WB t (o,rows)))⟩=Wh t:=Ze4 h6 ht rfl fun w hw=>by
  have hw:W9 t.m w:=hw;rw [ZcY hok h5 (by rw [hsy];exact hw),ζz ht h hok hw]
 unfold W5
 rw [h5]
 dsimp only
 rw [h7]
 unfold Wh
 rw [hu]
 show lim (if 20000<(ZY rows).length then none else some (WB t (o,rows)))=_
 rw [US oM];rfl
end
theorem ζA {a A:Aut} (h:AOk a) (hr:W5 a= .ok A) {w:List Nat} (hw:W9 a.syms.toNat w):GN A (wI w)=GN a (wI w):=by
 obtain ⟨t,o,rows,hs,hT,_,hF,rfl,hm⟩:=Za3 h hr
 rw [ζz hT hF (P' hT hF hm) (by rw [Zpc hs];exact hw),ZcY h hs hw]
def IsMin (A:Aut):Prop:=∃t o rows,TOk t∧(minW t).all 0=some (o,rows)∧A=WB t (o,rows)∧(ZY rows).length≤20000
theorem Zc0 {a A:Aut} (h:AOk a) (hr:W5 a= .ok A):IsMin A:=by
 obtain ⟨t,o,rows,hs,hT,hu,hF,e,hm⟩:=Za3 h hr
 exact ⟨t,o,rows,hT,hu,e,hm⟩
section
variable {A B:Aut}
theorem IsMin.aok (h:IsMin A):AOk A:=by
 obtain ⟨t,o,rows,hT,hu,rfl,hm⟩:=h
 exact P' hT (Pb hT hu) hm
theorem IsMin.det (h:IsMin A):DetA A:=by
 obtain ⟨t,o,rows,hT,hu,rfl,hm⟩:=h
 exact Zny hT (Pb hT hu) hm
theorem IsMin.red (h:IsMin A):W5 A= .ok A:=by
 obtain ⟨t,o,rows,hT,hu,rfl,hm⟩:=h
 exact Zhu hT hu hm
theorem IsMin.start (h:IsMin A):YN A A.start=[((0:Nat):Int)]:=by
 have hok:=h.aok
 obtain ⟨t,o,rows,hT,hu,rfl,hm⟩:=h
 exact Pe (Pb hT hu) hok
theorem IsMin.next (h:IsMin A) {i s:Nat} (hi:i<A.n.toNat) (hs:s<A.syms.toNat):Yz A (s:Nat) [(i:Int)]=[((stepA A i s:Nat):Int)]∧stepA A i s<A.n.toNat:=by
 have hok:=h.aok
 have hd:=h.det
 refine ⟨?_,hd.sl i s hi hs⟩
 obtain ⟨t,o,rows,hT,hu,rfl,hm⟩:=h
 have hF:=Pb hT hu
 have e1:(WB t (o,rows)).n.toNat=o.length:=XS _
 have e2:(WB t (o,rows)).syms.toNat=t.m:=XS _
 rw [e1] at hi
 rw [e2] at hs
 obtain ⟨r,n,x,y,hr,hn,hx,hy,_⟩:=EF hF hi hs
 have h1:=OV (k:=0) hF.ok.len hr hn
 rw [Xv] at h1
 have h2:stepA (WB t (o,rows)) i s=n:=by
  rw [EB (x:=⟨(i:Nat),(n:Nat),(s:Nat)⟩) (by rw [e2];exact h1)];exact XS _
 rw [h2]
 exact OX hF hok hr hn (Zf hy)
theorem Zmc (hA:IsMin A) (hB:IsMin B) (hs:A.syms=B.syms) {op:Int} {o:List ((Nat×Nat)×(Int×Int))} {rows:List (List Nat)} (hu:prodQ A B=some (o,rows)):∀(w:List Nat) (i:Nat) (p:(Nat×Nat)×(Int×Int)),W9 A.syms.toNat w→o[i]? =some p→ED (T5 A B op (o,rows)) i w=Ha op (Wy A (DT A [((p.1.1:Nat):Int)] (wI w))) (Wy B (DT B [((p.1.2:Nat):Int)] (wI w))):=by
 obtain ⟨h1,_,h3⟩:=Ob hA.det hB.det hs hu
 have hcap:o.length≤2000:=h1.cap
 have h5:=h3 hcap
 intro w
 induction w with
 | nil=>
   intro i p _ hi;show ((o.map (WT A B op))[i]?).getD false=Ha op (Gz A _||false) (Gz B _||false);rw [Xh,hi,Vh,Vh];rfl
 | cons c w ih=>
   intro i p hw hi;have hc:c<A.syms.toNat:=hw c (Xm ..);have hp:=h1.p p (Xc hi);obtain ⟨r,hr⟩:=Zt (show i<rows.length by have:=Zf hi;omega);have hl:r.length=A.syms.toNat:=h1.len r (Xc hr);obtain ⟨n,hn⟩:=Zt (show c<r.length by omega);obtain ⟨h6,h7⟩:=h1.to i p r c n hi hr hn;obtain ⟨q,hq,hq2⟩:=P0 (f:=(Wq A B).key) (l:=o) (k:=(Wq A B).key ((Wq A B).step i p c)) (by rw [h7];exact h6);rw [h7] at hq;have hq3:q.1=(stepA A p.1.1 c,stepA B p.1.2 c):=hq2;rw [GU,R9 (t:=T5 A B op (o,rows)) hr hn,ih n q (fun c hc=>hw c (Xn _ hc)) hq,hq3];dsimp only;rw [←(hA.next hp.1 hc).1,←(hB.next hp.2 (by rw [←hs];exact hc)).1];rfl
theorem Zhv (hA:IsMin A) (hB:IsMin B) (hs:A.syms=B.syms) {op:Int} {q:List ((Nat×Nat)×(Int×Int))×List (List Nat)} (hu:prodQ A B=some q) {w:List Nat} (hw:W9 A.syms.toNat w):ED (T5 A B op q) 0 w=Ha op (GN A (wI w)) (GN B (wI w)):=by
 obtain ⟨h1,_,_⟩:=Ob hA.det hB.det hs hu
 rw [EE,EE,hA.start,hB.start]
 exact Zmc hA hB hs hu w 0 _ hw h1.zero
end
theorem ζB {a A:Aut} (h:AOk a) (hr:W5 a= .ok A):A.syms=a.syms:=(SN h hr).2
theorem OY {a C:Aut} (h:Jd a= .ok C):IsMin C∧C.syms=a.syms∧∀w,W9 a.syms.toNat w→GN C (wI w)=GN a (wI w):=by
 obtain ⟨h1,h2⟩:=Zl9 h
 have ha:=Jn h1
 exact ⟨Zc0 ha h2,ζB ha h2,fun w hw=>ζA ha h2 hw⟩
inductive Pth (a:Aut):Int→List Int→Int→Prop
 |nil (s:Int):Pth a s [] s
 |eps {m:Mv} {w:List Int} {t:Int} (hm:m∈a.moves) (hs:m.sym= -1) (h:Pth a m.dst w t):Pth a m.src w t
 |sym {m:Mv} {w:List Int} {t:Int} (hm:m∈a.moves) (hs:¬m.sym= -1) (h:Pth a m.dst w t):Pth a m.src (m.sym::w) t
section
variable {a:Aut}
theorem Pth.app {s x t:Int} {u v:List Int} (h:Pth a s u x) (h':Pth a x v t):Pth a s (u++v) t:=by
 induction h with
 |nil s=>exact h'
 |eps hm hs _ ih=>exact .eps hm hs (ih h')
 |sym hm hs _ ih=>exact .sym hm hs (ih h')
theorem Pth.cons {s t c:Int} {w:List Int} (h:Pth a s (c::w) t):∃m∈a.moves,Pth a s [] m.src∧m.sym=c∧¬m.sym= -1∧Pth a m.dst w t:=by
 generalize e:c::w=v at h
 induction h with
 |nil s=>cases e
 | eps hm hs _ ih=>
   obtain ⟨m',h1,h2,h3⟩:=ih e;exact ⟨m',h1, .eps hm hs h2,h3⟩
 | sym hm hs h _=>
   cases e;exact ⟨_,hm, .nil _,rfl,hs,h⟩
theorem Za9 {S:List Int} {t:Int}:Rch a S t↔∃s∈S,Pth a s [] t:=by
 constructor
 · intro h;induction h with
   |base h=>exact ⟨_,h, .nil _⟩
   | step _ hm hs hc ih=>
     obtain ⟨s,h1,h2⟩:=ih;have:=h2.app (hs▸Pth.eps hm hc (.nil _));exact ⟨s,h1,this⟩
 · rintro ⟨s,h1,h2⟩;have key:∀{x y:Int} {v:List Int},Pth a x v y→v=[]→Rch a S x→Rch a S y:=fun h=>by
    induction h with
    |nil s=>exact fun _ h=>h
    |eps hm hs _ ih=>exact fun e h=>ih e (.step h hm rfl hs)
    |sym hm hs _ ih=>exact fun e=>by cases e
   exact key h2 rfl (.base h1)
theorem Zc1 (h:AOk a):∀{w:List Int} {S:List Int} {t:Int},(∀c∈w,¬c= -1)→InS a S→(t∈DT a (YN a S) w↔∃s∈S,Pth a s w t)
 | [],S,t,_,hS=>by
   show t∈YN a S↔_;rw [K3 h.mi hS,Za9]
 | c ::w,S,t,hw,hS=>by
   have hc:=L9 h.mi hS;show t∈DT a (YN a (KG a c (YN a S))) w↔_;rw [Zc1 h (fun c hc=>hw c (Xn _ hc)) (Ki h.mi c _)];constructor
   · rintro ⟨x,h1,h2⟩;obtain ⟨m,hm,h3,h4,rfl⟩:=(Jx hc).1 h1;obtain ⟨s,h5,h6⟩:=Za9.1 ((K3 h.mi hS _).1 h3);refine ⟨s,h5,?_⟩;have:=h6.app (Pth.sym hm (by rw [h4];exact hw c (Xm ..)) h2);rw [h4] at this;exact this
   · rintro ⟨s,h1,h2⟩;obtain ⟨m,hm,h3,h4,_,h5⟩:=h2.cons;exact ⟨m.dst,(Jx hc).2 ⟨m,hm,(K3 h.mi hS _).2 (Za9.2 ⟨s,h1,h3⟩),h4,rfl⟩,h5⟩
def Lng (a:Aut) (w:List Int):Prop:=∃s∈a.start,∃f∈a.fin,Pth a s w f
theorem HE (h:AOk a) {w:List Int} (hw:∀c∈w,0≤c):GN a w=true↔Lng a w:=by
 unfold GN Wy
 rw [VA]
 have key:∀t,t∈RG a w↔∃s∈a.start,Pth a s w t:=fun t=>Zc1 h (fun c hc=>by have:=hw c hc;omega) h.st
 constructor
 · rintro ⟨t,h1,h2⟩;obtain ⟨s,h3,h4⟩:=(key t).1 h1;unfold Gz at h2;obtain ⟨f,h5,h6⟩:=VA.1 h2;rw [UP] at h6;subst h6;exact ⟨s,h3,f,h5,h4⟩
 · rintro ⟨s,h3,f,h5,h4⟩;refine ⟨f,(key f).2 ⟨s,h3,h4⟩,?_⟩;unfold Gz;exact VA.2 ⟨f,h5,sM⟩
theorem Pth.mono {b:Aut} (hs:∀m∈a.moves,m∈b.moves) {s t:Int} {w:List Int} (h:Pth a s w t):Pth b s w t:=by
 induction h with
 |nil s=>exact .nil s
 |eps hm h1 _ ih=>exact .eps (hs _ hm) h1 ih
 |sym hm h1 _ ih=>exact .sym (hs _ hm) h1 ih
theorem Zoe {w:List Int}:Lng (mkA a) w↔Lng a w:=by
 have h1:∀m,m∈(mkA a).moves↔m∈a.moves:=fun m=>W2
 constructor
 · rintro ⟨s,hs,f,hf,h⟩;exact ⟨s,hs,f,hf,h.mono fun m hm=>(h1 m).1 hm⟩
 · rintro ⟨s,hs,f,hf,h⟩;exact ⟨s,hs,f,hf,h.mono fun m hm=>(h1 m).2 hm⟩
end
theorem Lc {X C:Aut} (hp:PreA X) (h:Je X= .ok C):IsMin C∧C.syms=X.syms∧∀w,W9 X.syms.toNat w→(GN C (wI w)=true↔Lng X (wI w)):=by
 unfold Je D' at h
 split at h
 · cases h
 · rename_i hb;have hok:=hp.aok hb;have h:W5 (mkA X)= .ok C:=h;have hsy:C.syms=(mkA X).syms:=ζB hok h;refine ⟨Zc0 hok h,hsy,fun w hw=>?_⟩;rw [ζA hok h (show W9 (mkA X).syms.toNat w from hw),HE hok,Zoe];intro c hc;obtain ⟨n,_,rfl⟩:=Xk.1 hc;omega
def YV (n:Int) (l:List Int):List Int:=l.map (· +n)
def KM (n:Int) (l:List Mv):List Mv:=l.map fun m=>⟨m.src+n,m.dst+n,m.sym⟩
def JW (n f:Int) (l:List Int):List Mv:=l.map fun s=>⟨f,s+n,-1⟩
def SO (n:Int) (F l:List Int):List Mv:=F.flatMap fun f=>JW n f l
def W6 (a b:Aut):Aut:=⟨a.n+b.n,a.syms,a.start++YV a.n b.start,a.fin++YV a.n b.fin,a.moves++KM a.n b.moves⟩
def Kp (a b:Aut):Aut:=⟨a.n+b.n,a.syms,a.start,YV a.n b.fin,a.moves++KM a.n b.moves++SO a.n a.fin b.start⟩
theorem ζC (n:Int) {l:List Int} {k:Nat} {x:Int} (h:l[k]? =some x):YV n (l.take (k+1))=YV n (l.take k)++[x+n]:=by unfold YV;rw [ZR h,Xu];rfl
theorem ζD (n:Int) {l:List Mv} {k:Nat} {x:Mv} (h:l[k]? =some x):KM n (l.take (k+1))=KM n (l.take k)++[⟨x.src+n,x.dst+n,x.sym⟩]:=by unfold KM;rw [ZR h,Xu];rfl
theorem OZ (n f:Int) {l:List Int} {k:Nat} {x:Int} (h:l[k]? =some x):JW n f (l.take (k+1))=JW n f (l.take k)++[⟨f,x+n,-1⟩]:=by unfold JW;rw [ZR h,Xu];rfl
theorem Zhw (n:Int) {F:List Int} {k:Nat} {f:Int} (l:List Int) (h:F[k]? =some f):SO n (F.take (k+1)) l=SO n (F.take k) l++JW n f l:=by unfold SO;rw [ZR h,XN,VS]
theorem KV (n:Int) (l:List Int):(YV n l).length=l.length:=Xe _
theorem Ld (n:Int) (l:List Mv):(KM n l).length=l.length:=Xe _
theorem EG (n:Int) (l:List Int):∀F:List Int,(SO n F l).length=F.length*l.length
 |[]=>by simp [SO]
 | f::F=>by
   have:=EG n l F;unfold SO at this ⊢;rw [Xz,Xb,this,Xl,X8,Nat.add_comm];unfold JW;rw [Xe]
theorem EH {n:Int} {l:List Int} (h:l.Nodup):(YV n l).Nodup:=J8 h fun x _ y _ e=>oM
theorem Tl {α:Type} {l m:List α} (h1:l.Nodup) (h2:m.Nodup) (h:∀x∈l,x∉m):(l++m).Nodup:=VE.2 ⟨h1,h2,fun x hx y hy e=>h x hx (e▸hy)⟩
theorem Kj {n x:Int} {l:List Int}:x∈YV n l↔∃y∈l,y+n=x:=by unfold YV;rw [Xk]
theorem JR {n:Int} {x:Mv} {l:List Mv}:x∈KM n l↔∃m∈l,(⟨m.src+n,m.dst+n,m.sym⟩:Mv)=x:=by unfold KM;rw [Xk]
theorem Tm {n:Int} {x:Mv} {F l:List Int}:x∈SO n F l↔∃f∈F,∃s∈l,(⟨f,s+n,-1⟩:Mv)=x:=by
 unfold SO JW
 simp only [XP,Xk]
section
variable {a b:Aut}
theorem ζE (ha:VOk a) {l m:List Int} (hl:InS a l) (hm:InS b m) (h1:l.Nodup) (h2:m.Nodup):(l++YV a.n m).Nodup:=
 Tl h1 (EH h2) fun x hx hx'=>by
  obtain ⟨y,hy,rfl⟩:=Kj.1 hx';have h3:=hl _ hx;have h4:=hm y hy;omega
theorem ZjO (ha:VOk a) (hb:VOk b) {l m:List Int} (hl:InS a l) (hm:InS b m):∀x∈l++YV a.n m,0≤x∧x<a.n+b.n:=fun x hx=>by
 have h1:=ha.n0
 have h2:=hb.n0
 rcases Xp.1 hx with hx|hx
 · have:=hl x hx;omega
 · obtain ⟨y,hy,rfl⟩:=Kj.1 hx;have:=hm y hy;omega
theorem Zf4 (ha:VOk a) (hb:VOk b) (hs:a.syms=b.syms):∀m∈a.moves++KM a.n b.moves,0≤m.src∧m.src<a.n+b.n∧0≤m.dst∧m.dst<a.n+b.n∧-1≤m.sym∧m.sym<a.syms:=fun m hm=>by
 have h1:=ha.n0
 have h2:=hb.n0
 rcases Xp.1 hm with hm|hm
 · have:=ha.mv m hm;omega
 · obtain ⟨y,hy,rfl⟩:=JR.1 hm;have:=hb.mv y hy;dsimp only;omega
theorem EI (ha:VOk a) (hb:VOk b):(a.moves++KM a.n b.moves).Nodup:=
 Tl (Lb ha.ms) (J8 (Lb hb.ms) fun x _ y _ e=>by
  have e:=Mv.mk.inj e
  cases x;cases y;simp only [Mv.mk.injEq] at e ⊢;omega) fun x hx hx'=>by
   obtain ⟨y,hy,rfl⟩:=JR.1 hx';have h3:=ha.mv _ hx;have h4:=hb.mv y hy;dsimp only at h3;omega
theorem Rk (ha:VOk a) (hb:VOk b) (hs:a.syms=b.syms):PreA (W6 a b):=by
 have h1:=ha.n0
 have h2:=hb.n0
 exact ⟨by show 0≤a.n+b.n;omega,ha.s0,ha.s1,ZjO ha hb ha.st hb.st,ZjO ha hb ha.fi hb.fi,ζE ha ha.st hb.st (WY ha.ss) (WY hb.ss),ζE ha ha.fi hb.fi (WY ha.fs) (WY hb.fs),Zf4 ha hb hs⟩
theorem ζF (ha:VOk a) (hb:VOk b):(Kp a b).moves.Nodup:=by
 show (a.moves++KM a.n b.moves++SO a.n a.fin b.start).Nodup
 refine Tl (EI ha hb) ?_ fun x hx hx'=>?_
 · have key:∀F:List Int,F.Nodup→(SO a.n F b.start).Nodup:=fun F=>by
    induction F with
    |nil=>exact fun _=>Vb
    | cons f F ih=>
      intro h;rw [Vf] at h;show (JW a.n f b.start++SO a.n F b.start).Nodup;refine Tl (J8 (WY hb.ss) fun x _ y _ e=>by have:=(Mv.mk.inj e).2.1;omega) (ih h.2) fun x hx hx'=>?_;obtain ⟨f',hf',s',_,rfl⟩:=Tm.1 hx';unfold JW at hx;obtain ⟨s,_,e⟩:=Xk.1 hx;have:=(Mv.mk.inj e).1;subst this;exact h.1 hf'
   exact key _ (WY ha.fs)
 · obtain ⟨f,hf,s,hs,rfl⟩:=Tm.1 hx';have h3:=ha.fi f hf;have h4:=hb.st s hs;rcases Xp.1 hx with hx|hx
   · have h5:=ha.mv _ hx;dsimp only at h5;omega
   · obtain ⟨y,hy,e⟩:=JR.1 hx;have h5:=hb.mv y hy;have h6:=(Mv.mk.inj e).1;omega
theorem HG (ha:VOk a) (hb:VOk b) (hs:a.syms=b.syms):PreA (Kp a b):=by
 have h1:=ha.n0
 have h2:=hb.n0
 refine ⟨by show 0≤a.n+b.n;omega,ha.s0,ha.s1,fun x hx=>?_,fun x hx=>?_,WY ha.ss,EH (WY hb.fs),fun m hm=>?_⟩
 · have:=ha.st x hx;show 0≤x∧x<a.n+b.n;omega
 · obtain ⟨y,hy,rfl⟩:=Kj.1 hx;have:=hb.fi y hy;show 0≤y+a.n∧y+a.n<a.n+b.n;omega
 · have hm':m∈a.moves++KM a.n b.moves++SO a.n a.fin b.start:=hm;rcases Xp.1 hm' with hm|hm
   · exact Zf4 ha hb hs m hm
   · obtain ⟨f,hf,s,hs',rfl⟩:=Tm.1 hm;have h3:=ha.fi f hf;have h4:=hb.st s hs';have h5:=ha.s0;show 0≤f∧f<a.n+b.n∧0≤s+a.n∧s+a.n<a.n+b.n∧-1≤(-1:Int)∧(-1:Int)<a.syms;omega
end
def J9 (a b:Aut):Except Int Aut:=if ¬WK a b=0 then .error (WK a b) else Je (W6 a b)
def Gs (a b:Aut):Except Int Aut:=if ¬WK a b=0 then .error (WK a b) else Je (Kp a b)
theorem Le:ElT prog 170 5 1 1 (.int .u8 0):=⟨underlying170,by kernel_rfl,rfl,dC⟩
theorem Zhx {l:List Int} {k:Nat} {x:Int} (h:l[k]? =some x):GA (l.take (k+1))=GA (l.take k)++Lib.itoa x++[32]:=by
 unfold GA;rw [ZR h,XN];simp
theorem Zf5:∀(k u:Nat),u<10^(k+1)→Lib.nDigits u≤k+1
 |0,u,h=>by rw [Lib.nDigits_small (by simpa using h)];omega
 | k +1,u,h=>by
   by_cases h1:u<10
   · rw [Lib.nDigits_small h1];omega
   · rw [Lib.nDigits_big h1];have:=Zf5 k (u / 10) (by rw [Nat.pow_succ] at h;omega);omega
theorem Zc2 {x:Int} (h0:0≤x) (h1:x≤1000000):(Lib.itoa x).length≤21:=by
 unfold Lib.itoa
 rw [US oM,Lib.decDigits_length]
 have:=Zf5 6 x.toNat oM
 omega
theorem Zc3:∀{l:List Int},(∀x∈l,0≤x∧x≤1000000)→(GA l).length≤l.length*22
 |[],_=>Xg _
 | x::l,h=>by
   have h1:=Zc3 fun y hy=>h y (Xn _ hy);have hx:=h x (Xm ..);have h2:=Zc2 hx.1 hx.2;have:GA (x::l)=Lib.itoa x++[32]++GA l:=rfl;rw [this,Xb,Xb];simp only [Xl,XC];omega
theorem ZjP (e:Nat) {l:List Int} {k:Nat} {x:Int} (h:l[k]? =some x):PV.own e 1 ((GA (l.take k)).length+(Lib.itoa x).length+1) ((GA (l.take k)++Lib.itoa x).map LA++[PV.val (.int .u8 32)])= .own e 1 (GA (l.take (k+1))).length ((GA (l.take (k+1))).map LA):=by
 rw [Zhx h]
 simp only [Xu,Xb,Xl,XC,Xv,Xw,Vd]
 rfl
theorem Zmd:prog.globalNamed "internal/strconv.uint64pow10"=Ziv:=by kernel_rfl
theorem Zhy:ZfP prog 260 5:=fun B n i h0 h1 sv xs w hown hBw hlim htab=>Tryz.strconv_AppendInt_10 B n i h0 h1 sv xs w hown hBw hlim htab
theorem EJ (l:List Int) (hl:l.length≤1000000) (h0:∀x∈l,0≤x∧x≤1000000):AF prog 231 [pInts l] (· = .val (.string (Tg l))):=by
 refine AFd.of_bodyS 20 func231 rfl ntmps231 (Xa rfl) ?_
 intro w0 M0 vs hl hv hS
 obtain ⟨v0,rfl⟩:=Wl hl
 clear hl hv
 have hs0:=hS 0 v0 _ rfl rfl
 clear hS
 refine Ze ?_
 (refine xL 2 Za ?_<;>refine Zi ?_)
 (refine xL 3 Za ?_<;>refine Zc ?_)
 refine Zq (KB 200 5 1 rfl) fun _=>?_
 (refine Zv ?_<;>refine xL 6 Zb (xL 7 (ZT Zp) (xL 8 Zb ?_))<;>refine Zc ?_)
 refine ZD (ι:={q:Nat×Value//q.1≤l.length∧q.2.oneCell'=true}) (fun k=>⟨[(6,_,_),(7,_,_),(3,k.1.2, .val k.1.2),(8, .int .i64 k.1.1,pInt k.1.1)],[(200,k.1.2, .own 5 1 (GA (l.take k.1.1)).length ((GA (l.take k.1.1)).map LA))]⟩) (fun k=>l.length-k.1.1) ⟨(0, .slice none 0 0),Xd _,rfl⟩ (fun a w H=>H.weaken ⟨rfl,rfl,rfl,rfl,trivial⟩ ⟨rfl,trivial⟩) ?_
 rintro ⟨⟨k,r⟩,hk,hr⟩
 dsimp only
 dsimp only at hk hr
 have hkl:=Zc3 (l:=l.take k) (fun x hx=>h0 x (VJ hx))
 rw [Xo] at hkl
 refine Ze ?_
 (refine xL 9 ZP ?_<;>refine Zc ?_)
 refine cX ?_ ?_<;>intro hb9
 · first|exact bN hb9|(
 obtain ⟨x,hx⟩:=Zt (show k<l.length by omega);have e1:=Z7 (f:=pInt) hx;have hx0:=h0 x (Xc hx);have hil:=Zc2 hx0.1 hx0.2;refine Ze ?_;(refine xL 10 (ZI Zp) ?_<;>(refine yL 11 (Z9 Zg) fun v11 h=>?_;cases h)<;>refine xL 5 Za ?_<;>refine Zi ?_)
 (refine xL 12 Zb (xL 13 Zb ?_)<;>refine Zi4 (i:=x) (bs:=GA (l.take k)) (n:=(GA (l.take k)).length) 200 14 [6,7,8] Zhy (call260) (fun _ h=>h) (fun h=>h) Zmd rfl ⟨hs0, .val _, .val _,trivial⟩ oM oM oM fun h14 ho14=>?_<;>refine ZO (kk:=1) 15 Le fun h15 ho15=>?_<;>(refine ZW 14 15 16 Le fun h16 ho16=>?_;refine Zs (ZC (l:=16) 200 rfl rfl) fun _=>?_;refine Zs (ZH (l:=200) rfl (ZjP _ hx)) fun _=>?_)<;>refine xL 3 Za ?_<;>refine Zi ?_)
 (refine xL 17 ZG (xL 8 Zb ?_)<;>refine Zc ?_)
 refine Zm (
  ⟨(k+1,h16),Zf hx,ho16⟩
  ) (by dsimp only;omega) ⟨rfl,rfl,rfl,rfl,trivial⟩ ⟨rfl,trivial⟩)
 · first|exact bN hb9|(
 refine Ze ?_;(refine xL 18 Zb (xL 19 (Zi3 200 underlying170 underlying5 underlying9) (xL 2 Za ?_))<;>refine Zc ?_)
 refine Zz (results231) rfl ?_;rw [Xj oM];rfl)
theorem WH:AggT prog 147 3=true:=by kernel_rfl
theorem W3:FldT prog 147 1 1=true:=by kernel_rfl
theorem Kv:FldT prog 147 2 2=true:=by kernel_rfl
theorem W7:MpT prog 251 9 3 .string (.int .i64 0):=⟨underlying251,underlying9, .inl rfl,by show ZeroT _ _ _;unfold ZeroT;kernel_rfl⟩
theorem Yy:NoAgg prog 117=true:=by kernel_rfl
theorem EK:WU prog 147=some ((.agg #[(.int .i64 0),(.slice none 0 0),(.slice none 0 0)]),([0,1,2]:List Nat).map fun o=>(o,1)):=by kernel_rfl
theorem TR:(prog.info? 117).map (·.size)=some 1:=by kernel_rfl
theorem TS:(prog.info? 139).map (·.size)=some 1:=by kernel_rfl
theorem Lf:ZeroT prog 147 (.agg #[(.int .i64 0),(.slice none 0 0),(.slice none 0 0)]):=by unfold ZeroT;kernel_rfl
def K8 (r:List Nat):PV:=pInts (toI r)
def T6 (r:List Nat) (j:Nat):Int:=((r[j]?).getD 0:Nat)
theorem ζG (m:Nat):vec m (fun j=>pInt (T6 [] j))=List.replicate m (PV.val (.int .i64 0)):=by rw [GR];rfl
theorem O0 {m:Nat} {r:List Nat} (n:Nat) (h:r.length<m):(vec m fun j=>pInt (T6 r j)).set (r.length*1) (pInt (n:Nat))=vec m fun j=>pInt (T6 (r++[n]) j):=by
 rw [Xq,P8]
 refine Jy fun i hi=>?_
 unfold T6
 by_cases e:i=r.length
 · subst e;rw [UT rfl];simp
 · rw [US e,V9];split
   · rfl
   · rw [XM oM,XM (by simp;omega)]
theorem Ze5 (r:List Nat):(vec r.length fun j=>pInt (T6 r j))=(toI r).map pInt:=by
 symm
 refine ZaX (by simp [toI]) fun i x hx=>?_
 unfold toI at hx
 rw [XH,Xh,XA] at hx
 obtain ⟨y,hy,rfl⟩:=hx
 unfold T6;rw [hy];rfl
theorem ζH (e m:Nat) (r:List Nat) (h:r.length=m):share (.own e 1 m (vec m fun j=>pInt (T6 r j)))=K8 r:=by
 subst h
 rw [Ze5,ZS _ _ _ (by simp [toI])];rfl
theorem Rl (e:Nat) (L:List (List Nat)) (x:List Nat):PV.own e 1 (L.length+1) (L.map K8++[K8 x])= .own e 1 (L++[x]).length ((L++[x]).map K8):=sM
theorem TT (e:Nat) (L:List Bool) (x:Bool):PV.own e 1 (L.length+1) (L.map ZM++[ZM x])= .own e 1 (L++[x]).length ((L++[x]).map ZM):=sM
theorem LI (e n:Nat) (l:List (List Nat)) (hn:n=l.length):share (.own e 1 n (l.map K8))= .sl l.length (l.map K8):=by
 subst hn
 rw [share,Yk,XH]
 congr 1
theorem JS (e n:Nat) (l:List Bool) (hn:n=l.length):share (.own e 1 n (l.map ZM))= .sl l.length (l.map ZM):=by
 subst hn
 rw [share,Yk,XH];rfl
def Zc4 (t:Tab):PV:= .agg [pInt (t.m:Nat), .sl t.rows.length (t.rows.map K8), .sl t.fin.length (t.fin.map ZM)]
def Zpy (a:Aut) (p:PV):Prop:=(∃t,K4 a=some t∧p= .tup [Zc4 t,ZM true])∨(K4 a=none∧∃u1 u2 u3:Value,u1.oneCell'=true∧u2.oneCell'=true∧u3.oneCell'=true∧p= .tup [.agg [.val u1, .val u2, .val u3],ZM false])
section
variable {α:Type}
def SP (f:α→ByteArray) (o:List α) (x:α):Nat:=if posK f o (f x)<o.length then posK f o (f x) else 0
theorem Zc5 (f:α→ByteArray) (o:List α) (x:α):(Ko (skv (YM f 0 o)) (.string (f x))).getD (.int .i64 0)= .int .i64 (SP f o x:Nat)∧(Ko (skv (YM f 0 o)) (.string (f x))).isSome=decide (posK f o (f x)<o.length):=by
 rw [ZbV,L5]
 unfold SP
 by_cases h:posK f o (f x)<o.length
 · rw [UT h,UT h,UQ h,Xv];exact ⟨rfl,rfl⟩
 · rw [US h,US h,UR h];exact ⟨rfl,rfl⟩
end
section
variable {α:Type} {P:Program} {sL hP:List (Nat×Ent)} {o:Oper}
theorem ZjQ {t ks e:Nat} {kd:TypeDesc} {z:Value} {x y:Operand} {m:Value} {f:α→ByteArray} {L:List α} {a:α} {p q:PV} (l:Nat) (hT:MpT P t ks e kd z) (hz:z= .int .i64 0) (hkd:kd= .string) (ho:o.op= .lookup t x y true:=by exact rfl) (hx:ev sL x=some (m,p):=by exact rfl) (hl:lk hP l=some (m, .omap (skv (YM f 0 L))):=by exact rfl) (hy:ev sL y=some (.string (f a),q):=by exact rfl):
 YE P (⟨sL,hP⟩:St) o (· = .tuple [.int .i64 (SP f L a:Nat), .bool (decide (posK f L (f a)<L.length))].toArray) (.tup [.val (.int .i64 (SP f L a:Nat)), .val (.bool (decide (posK f L (f a)<L.length)))]):=by
 subst hz hkd
 have h:=ZbY (sL:=sL) (hP:=hP) (o:=o) l hT ho hx hl hy (TD _ _)
 rw [(Zc5 f L a).1,(Zc5 f L a).2] at h
 exact h
end
theorem Zof {o:List (List Int)} {x:List Int} (h:∀l∈o,∀s∈l,0≤s) (hx:∀s∈x,0≤s):posK Tg o (Tg x)=posK id o x:=G5 fun l hl=>ZcO (h l hl) hx
theorem ZjR (x:List Int):K' [] (.string (Tg x)) (.int .i64 0)=skv (YM Tg 0 [x]):=rfl
theorem Zc6 {α:Type} {f:α→ByteArray} {o:List α} {x:α} (h:¬posK f o (f x)<o.length):K' (skv (YM f 0 o)) (.string (f x)) (.int .i64 (o.length:Nat))=skv (YM f 0 (o++[x])):=by
 have:=P2 f x o 0 h
 rw [Xv] at this
 rw [HQ,this]
theorem SetOk.nn {a:Aut} {l:List Int} (h:SetOk a l):∀s∈l,0≤s:=fun s hs=>(h.1 s hs).1
theorem SetOk.bd {a:Aut} (ha:AOk a) {l:List Int} (h:SetOk a l):∀s∈l,0≤s∧s≤1000000:=fun s hs=>by have:=h.1 s hs;have:=ha.n1;omega
set_option maxHeartbeats 4000000 in
theorem Pg (a : Aut) (h:AOk a):AF prog 185 [ZN a] (Zpy a):=by
 have hn1:=h.n1
 have hs0:=h.s0
 have hs1:=h.s1
 have hsN:((a.syms.toNat:Nat):Int)=a.syms:=oM
 have hst:=OT h
 refine AF.of_body 96 func185 rfl ntmps185 (Xa rfl) ?_
 intro w0 M0 vs hl hv
 obtain ⟨v0,rfl⟩:=Wl hl
 clear hl hv
 refine Ze ?_
 (refine ZB 1 5 fun h1=>?_<;>refine Zw [(.int .i64 0),(.slice none 0 0),(.slice none 0 0)] 3 2 Lf fun h2=>?_<;>refine xL 3 Za ?_<;>refine Zi ?_)
 ((refine yL 14 (Zu 1 Zh) fun v14 h=>?_;cases h)<;>(refine cS 15 (cA call110 (G9 a h)) fun v15 h=>?_;cases h)<;>refine xL 4 Za ?_<;>refine Zi ?_)
 (refine xL 16 (Zd 1 Z3) ?_<;>(refine yL 17 (Zk 1 Zg) fun v17 h=>?_;cases h)<;>refine xL 18 (ZL EK) ?_<;>refine Zw [(.int .i64 0),(.slice none 0 0),(.slice none 0 0)] 3 5 Lf fun h5=>?_<;>refine ZE 5 WH ?_<;>refine Zc ?_)
 refine Zq (W1 (l:=5) [pInt a.syms, .own 36 1 0 [], .own 4 1 0 []] rfl rfl (fun i p p' h1 h2=>by
  match i with
  |0=>cases h1;cases h2;exact .inl rfl
  |1=>cases h1;cases h2;exact .inr ⟨rfl,_,_,rfl⟩
  |2=>cases h1;cases h2;exact .inr ⟨rfl,_,_,rfl⟩
  |i+3=>simp at h2)) fun _=>?_
 refine Zq (Ww (l:=5) (l':=301) (j:=1) rfl rfl rfl rfl) fun i=>?_
 obtain ⟨v301,ho301⟩:=i
 refine Zq (Ww (l:=5) (l':=302) (j:=2) rfl rfl rfl rfl) fun i=>?_
 obtain ⟨v302,ho302⟩:=i
 dsimp only [List.set]
 (refine Zv ?_<;>refine xL 19 Zb (xL 20 (Zd 1 Z1) ?_)<;>(refine yL 21 (Zk 1 Zy) fun v21 h=>?_;cases h)<;>(refine cO 22 (cA call111 (TH a a.start hn1 h.mi h.st)) fun v22 ho22=>?_;refine Zs (En.freeze (l:=22) (t:=22) rfl rfl) fun _=>?_;rw [ZS _ _ _ rfl])<;>refine ZO (kk:=1) 23 YT fun h23 ho23=>?_<;>refine xL 6 Za ?_<;>refine Zc ?_)
 refine Zq (ZC (l:=23) 303 rfl rfl) fun _=>?_
 obtain ⟨x0,hx0⟩:∃x0,x0=YN a a.start:=⟨_,rfl⟩
 rw [←hx0] at hst ⊢
 have hst2:=hst.len h
 (refine Zv ?_<;>refine GI 24 fun h24 ho24=>?_<;>refine xL 25 Zb ?_<;>refine xL 26 (Yh (i:=0) 303 Z') ?_<;>(refine yL 27 (Zk 303 Zy) fun v27 h=>?_;cases h)<;>(refine cS 28 (cA call231 (EJ x0 oM (hst.bd h))) fun v28 h=>?_;cases h)<;>(refine Zi5 24 W7 ?_;rw [ZjR])<;>refine xL 29 Zb (xL 7 Za ?_)<;>refine Zc ?_)
 refine Zq (ZC (l:=24) 304 rfl rfl) fun _=>?_
 (refine Zv ?_<;>refine xL 8 Za ?_<;>refine Zc ?_)
 refine ZD (ι:={q:Nat×Value×Value×Value×List (List Int)×List (List Nat)//(WS a).upto x0 q.1=some (q.2.2.2.2.1,q.2.2.2.2.2)∧q.1≤q.2.2.2.2.1.length∧q.2.1.oneCell'=true∧q.2.2.1.oneCell'=true∧q.2.2.2.1.oneCell'=true}) (fun k=>⟨[(1,_,_),(2,_,_),(3,_,_),(4,_,_),(5,_,_),(7,_,_),(6,k.1.2.2.2.1, .val k.1.2.2.2.1),(8, .int .i64 k.1.1,pInt k.1.1)],[(1,_,_),(2,_,_),(304,h24, .omap (skv (YM Tg 0 k.1.2.2.2.2.1))),(5,h5, .own 147 3 1 [pInt a.syms, .val k.1.2.1, .val k.1.2.2.1]),(301,k.1.2.1, .own 36 1 k.1.2.2.2.2.2.length (k.1.2.2.2.2.2.map K8)),(302,k.1.2.2.1, .own 4 1 ((k.1.2.2.2.2.1.take k.1.1).map (Wy a)).length (((k.1.2.2.2.2.1.take k.1.1).map (Wy a)).map ZM)),(303,k.1.2.2.2.1, .own 36 1 k.1.2.2.2.2.1.length (k.1.2.2.2.2.1.map pInts))]⟩) (fun k=>2000-k.1.1) ⟨(0,v301,v302,h23,[x0],[]),rfl,Xd _,ho301,ho302,ho23⟩ (fun a w H=>H.weaken ⟨rfl,rfl,rfl,rfl,rfl,rfl,rfl,rfl,trivial⟩ ⟨rfl,rfl,rfl,rfl,rfl,rfl,rfl,trivial⟩) ?_
 rintro ⟨⟨i,r1,r2,r3,o,rows⟩,hU,hi,hr1,hr2,hr3⟩
 dsimp only
 dsimp only at hU hi hr1 hr2 hr3
 have hU':=hU
 rw [hx0] at hU'
 obtain ⟨hOk,hRl,_⟩:=Ex h hU'
 have hRl:=hRl hi
 have hcap:o.length≤2000:=hOk.cap
 have hOp:=hOk.p
 have hone1:En.one (PV.val r1)=true:=hr1
 have hone2:En.one (PV.val r2)=true:=hr2
 have hfl:((o.take i).map (Wy a)).length≤2000:=by rw [Xe,Xo];omega
 refine Ze ?_
 (refine xL 30 Zb (xL 31 Zb (xL 32 (YF 303 Z') (xL 33 ZP ?_)))<;>refine Zc ?_)
 refine cX ?_ ?_<;>intro hb33
 · first | exact bN hb33|(
 obtain ⟨x,hx⟩:=Zt (show i<o.length by omega);have hxs:=hOp x (Xc hx);have hxl:=hxs.len h;refine Ze ?_;(refine xL 36 (Zd 1 Z3) ?_<;>(refine yL 37 (Zk 1 Zg) fun v37 h=>?_;cases h)<;>(refine Jm (n:=a.syms.toNat) 38 Zn (fun h38 ho38=>?_) (hx:=by rw [hsN];exact rfl) (hy:=by rw [hsN];exact rfl) (hb:=by omega))<;>refine xL 9 Za ?_<;>refine Zc ?_)
 rw [←ζG];(refine Zv ?_<;>refine xL 39 Zb (xL 40 (YF 38 Zp) (xL 41 Zb ?_))<;>refine Zc ?_)
 refine ZD (ι:={q:Nat×Value×List (List Int)×List Nat//(WS a).row i x o q.1=some (q.2.2.1,q.2.2.2)∧q.1≤a.syms.toNat∧q.2.1.oneCell'=true}) (fun k=>⟨[(1,_,_),(2,_,_),(3,_,_),(4,_,_),(5,_,_),(7,_,_),(8,_,_),(9,_,_),(40,_,_),(6,k.1.2.1, .val k.1.2.1),(41, .int .i64 k.1.1,pInt k.1.1)],[(1,_,_),(2,_,_),(5,_,_),(301,_,_),(302,_,_),(303,k.1.2.1, .own 36 1 k.1.2.2.1.length (k.1.2.2.1.map pInts)),(304,h24, .omap (skv (YM Tg 0 k.1.2.2.1))),(38,h38, .own 3 1 a.syms.toNat (vec a.syms.toNat fun j=>pInt (T6 k.1.2.2.2 j)))]⟩) (fun k=>a.syms.toNat-k.1.1) ⟨(0,r3,o,[]),rfl,Xd _,hr3⟩ (fun a w H=>H.weaken ⟨rfl,rfl,rfl,rfl,rfl,rfl,rfl,rfl,rfl,rfl,rfl,trivial⟩ ⟨rfl,rfl,rfl,rfl,rfl,rfl,rfl,rfl,trivial⟩) ?_;rintro ⟨⟨s,r3',o',r⟩,hW,hs,hr3'⟩;dsimp only;dsimp only at hW hs hr3';obtain ⟨hMt,hpr,hrl,_⟩:=hOk.toMet.row (fun s _=>SD h s x) (show s≤(WS a).m from hs) hW;have hcap':o'.length≤2000:=hMt.cap;have hx':=Kg hpr hx;have hil:=Zf hx';refine Ze ?_;(refine xL 42 ZP ?_<;>refine Zc ?_)
 refine cX ?_ ?_<;>intro hb42
 · first | exact bN hb42|(
 have hset:=SD h (s:Nat) x;obtain ⟨set,hse⟩:∃set,set=Yz a (s:Nat) x:=⟨_,rfl⟩;rw [←hse] at hset;have hsl:=hset.len h;have hkid:=Zof (fun l hl=>(hMt.p l hl).nn) hset.nn;have e1:=Z7 (f:=pInts) hx';have e2:=KH a.syms.toNat (fun j=>pInt (T6 r j));refine Ze ?_;(refine xL 43 Zb (xL 10 Za ?_)<;>refine Zi ?_)
 (refine xL 44 Zb (xL 45 Zb (xL 46 Zb (xL 47 (Yh 303 Z') ?_)))<;>(refine yL 48 (Zk 303 Zy) fun v48 h=>?_;cases h)<;>refine xL 49 Zb ?_<;>(refine cO 50 (cA call112 (Hy a x s hn1 h.ml h.mi hxs.1 hxl)) fun v50 ho50=>?_;refine Zs (En.freeze (l:=50) (t:=50) rfl rfl) fun _=>?_;rw [ZS _ _ _ rfl,←hse])<;>refine xL 11 Za ?_<;>refine Zi ?_)
 (refine xL 52 Zb (xL 53 Zb ?_)<;>(refine cS 54 (cA call231 (EJ set oM (hset.bd h))) fun v54 h=>?_;cases h)<;>refine xL 55 (ZjQ (f:=Tg) (L:=o') (a:=set) 304 W7 rfl rfl) ?_<;>refine xL 51 Zb (xL 56 Zj (xL 57 Zj (xL 12 Za (xL 13 Za ?_))))<;>refine Zi ?_)
 (refine xL 58 Zb (xL 59 Ya ?_)<;>refine Zc ?_)
 refine cX ?_ ?_<;>intro hb59
 · first | exact bN hb59|(
 (have hnew:¬posK Tg o' (Tg set)<o'.length:=by simpa using hb59);have hnew2:¬posK (WS a).key o' ((WS a).key ((WS a).step i x s))<o'.length:=by
  show ¬posK id o' (Yz a (s:Nat) x)<o'.length;rw [←hse,←hkid];exact hnew
 refine Ze ?_;(refine xL 60 Zb (xL 61 (YF 303 Z') (xL 12 Za ?_))<;>refine Zi ?_)
 (refine xL 62 Zb (xL 63 Wi ?_)<;>refine Zc ?_)
 refine cX ?_ ?_<;>intro hb63
 · first|exact bN hb63|(
 refine Ze ?_;((refine yL 64 (Zu (k:=3) (ps:=[pInt a.syms,PV.val r1,PV.val r2]) 5 kR) fun v64 h=>?_;cases h)<;>refine ZE 2 WH ?_<;>refine xL 3 Za ?_<;>refine Zc ?_)
 refine Z5 (k:=3) 2 kR (results185) rfl rfl rfl (Xa rfl) dC rfl (.inr ⟨?_,_,_,_,rfl,hr1,hr2,rfl⟩);have hv:=P3 hnew2 (show (WS a).cap≤o'.length by show 2000≤o'.length;omega);have h1:=Srch.row_fails (Srch.row_out hW hv) (show s+1≤(WS a).m by show s+1≤a.syms.toNat;omega);have h2:=Srch.all_none (Srch.upto_out hU hx h1) (show i+1≤(WS a).cap by show i+1≤2000;omega);unfold K4;rw [←hx0,h2];rfl)
 · first |exact bN hb63|(
 refine Ze ?_;(refine xL 65 Zb (xL 66 Zb ?_)<;>(refine cS 67 (cA call231 (EJ set oM (hset.bd h))) fun v67 h=>?_;cases h)<;>refine xL 68 Zb ?_<;>(refine LN 304 W7 ?_;rw [Zc6 hnew])<;>refine Zi ?_)
 (refine xL 69 Zb (xL 70 Zb ?_)<;>refine ZO (kk:=1) 71 YT fun h71 ho71=>?_<;>(refine ZW 303 71 72 YT fun h72 ho72=>?_;refine Zs (ZC (l:=72) 303 rfl rfl) fun _=>?_;refine Zs (ZH (l:=303) rfl (Ze0 _ o' set)) fun _=>?_)<;>refine xL 6 Za ?_<;>refine Zi ?_)
 (refine xL 73 Zb (xL 74 Zb (xL 75 Zb (xL 76 (Yh 38 Zp) ?_)))<;>refine YL 38 Zg Wp ?_<;>refine Zi ?_)
 (refine xL 77 ZG (xL 41 Zb ?_)<;>refine Zc ?_)
 rw [show s*1=r.length*1 by omega,O0 _ oM]
 first
  | (exact Zm (
      ⟨(s+1,h72,o'++[set],r++[o'.length]),(by dsimp only;rw [hse];exact Srch.row_snoc hW (Wd hnew2 (show o'.length<2000 by omega))),(by dsimp only;omega),ho72⟩
      ) (by dsimp only;omega) ⟨rfl,rfl,rfl,rfl,rfl,rfl,rfl,rfl,rfl,rfl,rfl,trivial⟩ ⟨rfl,rfl,rfl,rfl,rfl,rfl,rfl,rfl,trivial⟩)
  | (exact Zm (
      ⟨(s+1,r3',o',r++[SP Tg o' set]),(by dsimp only;rw [hnum];exact Srch.row_snoc hW (Wc hold2)),(by dsimp only;omega),hr3'⟩
      ) (by dsimp only;omega) ⟨rfl,rfl,rfl,rfl,rfl,rfl,rfl,rfl,rfl,rfl,rfl,trivial⟩ ⟨rfl,rfl,rfl,rfl,rfl,rfl,rfl,rfl,trivial⟩)))
 · first |exact bN hb59|(
 (have hold:posK Tg o' (Tg set)<o'.length:=by simpa using hb59);have hold2:posK (WS a).key o' ((WS a).key ((WS a).step i x s))<o'.length:=by
  show posK id o' (Yz a (s:Nat) x)<o'.length;rw [←hse,←hkid];exact hold
 have hnum:SP Tg o' set=posK (WS a).key o' ((WS a).key ((WS a).step i x s)):=by
  show SP Tg o' set=posK id o' (Yz a (s:Nat) x);unfold SP;rw [UT hold,hkid,hse]
 refine Ze ?_;(refine xL 73 Zb (xL 74 Zb (xL 75 Zb (xL 76 (Yh 38 Zp) ?_)))<;>refine YL 38 Zg Wp ?_<;>refine Zi ?_)
 (refine xL 77 ZG (xL 41 Zb ?_)<;>refine Zc ?_)
 rw [show s*1=r.length*1 by omega,O0 _ oM]
 first
  | (exact Zm (
      ⟨(s+1,h72,o'++[set],r++[o'.length]),(by dsimp only;rw [hse];exact Srch.row_snoc hW (Wd hnew2 (show o'.length<2000 by omega))),(by dsimp only;omega),ho72⟩
      ) (by dsimp only;omega) ⟨rfl,rfl,rfl,rfl,rfl,rfl,rfl,rfl,rfl,rfl,rfl,trivial⟩ ⟨rfl,rfl,rfl,rfl,rfl,rfl,rfl,rfl,trivial⟩)
  | (exact Zm (
      ⟨(s+1,r3',o',r++[SP Tg o' set]),(by dsimp only;rw [hnum];exact Srch.row_snoc hW (Wc hold2)),(by dsimp only;omega),hr3'⟩
      ) (by dsimp only;omega) ⟨rfl,rfl,rfl,rfl,rfl,rfl,rfl,rfl,rfl,rfl,rfl,trivial⟩ ⟨rfl,rfl,rfl,rfl,rfl,rfl,rfl,rfl,trivial⟩)))
 · first|exact bN hb42|(
 have hsm:s=a.syms.toNat:=oM;subst hsm;have hU2:=Srch.upto_snoc hU hx hW;have e1:=Z7 (f:=pInts) hx';have htk:o'.take (i+1)=(o.take i)++[x]:=by
  rw [ZR hx'];obtain ⟨e,rfl⟩:=hpr;rw [Uc hi]
 refine nav ?_;refine Zq (En.freeze (l:=38) (t:=9) rfl rfl) fun _=>?_;rw [ζH _ _ _ hrl];(refine ZZ (fun i=>([16,17,18]:List Nat).elem i) [5,303] kR ?_<;>refine xDT 0 78 rfl (Zd 5 W3) ?_<;>(refine yDT 1 79 rfl (Zk 5 Yy) fun v79 h=>?_;cases h)<;>refine xDT 2 80 rfl Zb ?_<;>refine xDT 5 83 rfl (Zd 5 Kv) ?_<;>(refine yDT 6 84 rfl (Zk 5 YJ) fun v84 h=>?_;cases h)<;>refine xDT 7 85 rfl Zb ?_<;>refine xDT 8 86 rfl Zb ?_<;>refine xDT 9 87 rfl Zb ?_<;>refine xDT 10 88 rfl (Yh 303 Z') ?_<;>(refine yDT 11 89 rfl (Zk 303 Zy) fun v89 h=>?_;cases h)<;>(refine Zr 3 kR ?_)<;>(refine Zo rfl fun w9 M9 N9 DQ back=>?_)<;>refine ZO (kk:=1) 81 YT fun h81 ho81=>?_<;>refine Zl (back _ (nrm ?_))<;>(refine Zr 4 kR ?_)<;>(refine Zo rfl fun w9 M9 N9 DQ back=>?_)<;>refine ZW 301 81 82 YT fun h82 ho82=>?_<;>refine Zl (back _ (nrm ?_))<;>refine xDT 15 93 rfl (Zd 5 W3) ?_<;>(refine Zr 12 kR ?_)<;>(refine WO (d:=90) rfl (cA call113 (R2 a x hxs.1)) fun v90 h=>?_;cases h)<;>(refine Zr 13 kR ?_)<;>(refine Zo rfl fun w9 M9 N9 DQ back=>?_)<;>refine ZO (kk:=1) 91 Wg fun h91 ho91=>?_<;>refine Zl (back _ (nrm ?_))<;>(refine Zr 14 kR ?_)<;>(refine Zo rfl fun w9 M9 N9 DQ back=>?_)<;>refine ZW 302 91 92 Wg fun h92 ho92=>?_<;>refine Zl (back _ (nrm ?_))<;>(refine Zr 16 kR ?_)<;>(refine PW rfl rfl fun DQ back=>?_)<;>refine YL 5 Yy TR ?_<;>refine Zl (back _ ?_)<;>(refine GK 17 kR rfl rfl fun DQ back=>?_)<;>refine xL 94 (Zd 5 Kv) ?_<;>refine Zl (back _ ?_)<;>(refine GK 18 kR rfl rfl fun DQ back=>?_)<;>refine YL 5 YJ TS ?_<;>refine Zl (back _ ?_)<;>refine Ht kR (nav ?_)<;>try dsimp only)
 refine Zq (ZC (l:=82) 301 rfl rfl) fun _=>?_;refine Zq (ZC (l:=92) 302 rfl rfl) fun _=>?_;refine Zq (ZH (l:=301) rfl (Rl _ rows r)) fun _=>?_;refine Zq (ZH (l:=302) rfl (TT _ ((o.take i).map (Wy a)) (Wy a x))) fun _=>?_;rw [show ((o.take i).map (Wy a))++[Wy a x]=(o'.take (i+1)).map (Wy a) by rw [htk,Xu];rfl];(refine Zv ?_<;>refine xL 34 Zb (xL 35 ZG (xL 8 Za ?_))<;>refine Zc ?_)
 refine Zm (
  ⟨(i+1,h82,h92,r3',o',rows++[r]),hU2,(by dsimp only;omega),ho82,ho92,hr3'⟩
  ) (by dsimp only;omega) ⟨rfl,rfl,rfl,rfl,rfl,rfl,rfl,rfl,trivial⟩ ⟨rfl,rfl,rfl,rfl,rfl,rfl,rfl,trivial⟩))
 · first|exact bN hb33|(
 have hio:i=o.length:=oM;subst hio;refine nav ?_;refine Zq (Z6 (l:=5) (l':=301) (j:=1) rfl rfl rfl rfl) fun _=>?_;refine Zq (Z6 (l:=5) (l':=302) (j:=2) rfl rfl rfl rfl) fun _=>?_;rw [LI _ _ _ rfl,JS _ _ _ rfl];(refine Zv ?_<;>(refine yL 95 (Zu 5 WH) fun v95 h=>?_;cases h)<;>refine ZE 2 WH ?_<;>refine xL 3 Za ?_<;>refine Zc ?_)
 refine Z5 (k:=3) 2 kR (results185) rfl rfl rfl (Xa rfl) dC rfl (.inl ⟨⟨a.syms.toNat,rows,o.map (Wy a)⟩,?_,?_⟩)
 · unfold K4;rw [←hx0,Srch.all_some hU (Xg _) (show o.length≤(WS a).cap from hcap)];rfl
 · unfold Zc4;dsimp only;rw [Vy,hsN];rfl)
def Od (l:List Nat):ByteArray:=Tg (toI l)
theorem ZjS (l:List Nat):∀x∈toI l,0≤x:=fun x hx=>by
 unfold toI at hx
 obtain ⟨y,_,rfl⟩:=Xk.1 hx
 omega
theorem Zme (o:List (List Nat)) (x:List Nat):posK Od o (Od x)=posK id o x:=G5 fun l _=>by
 unfold Od
 rw [ZcO (ZjS l) (ZjS x),Zf0];rfl
theorem K5 {α:Type} (f:α→ByteArray) (o:List α):(skv (YM f 0 o)).length=o.length:=by unfold skv;rw [Xe,Zcl]
theorem ZjT {α:Type} {f:α→ByteArray} {o:List α} {x:α} (h:¬posK f o (f x)<o.length):K' (skv (YM f 0 o)) (.string (f x)) (.int .i64 ((skv (YM f 0 o)).length:Nat))=skv (YM f 0 (o++[x])):=by
 rw [K5,Zc6 h]
def Sa (s:Nat) (f:Nat→Nat) (j:Nat):Int:=if j<s then (f j:Nat) else 0
theorem Rm (n:Nat) (f:Nat→Nat):List.replicate n (PV.val (.int .i64 0))=vec n fun j=>pInt (Sa 0 f j):=by
 rw [GR]
 refine Jy fun i _=>?_
 unfold Sa;rw [US oM]
theorem Ky {n s:Nat} {f:Nat→Nat} {x:Int} (hx:x=(f s:Nat)):(vec n fun j=>pInt (Sa s f j)).set (s*1) (pInt x)=vec n fun j=>pInt (Sa (s+1) f j):=by
 rw [Xq,P8]
 refine Jy fun i hi=>?_
 unfold Sa
 by_cases e:i=s
 · subst e;rw [UT rfl,UT oM,hx]
 · rw [US e];by_cases e2:i<s
   · rw [UT e2,UT oM]
   · rw [US e2,US oM]
theorem Rn {n s:Nat} {f:Nat→Nat} (hx:f s=0):(vec n fun j=>pInt (Sa s f j))=vec n fun j=>pInt (Sa (s+1) f j):=by
 refine Jy fun i hi=>?_
 unfold Sa
 by_cases e:i=s
 · subst e;rw [US oM,UT oM,hx];rfl
 · by_cases e2:i<s
   · rw [UT e2,UT oM]
   · rw [US e2,US oM]
theorem Ro (n:Nat) (f:Nat→Nat):(vec n fun j=>pInt (Sa n f j))=vec n fun j=>pInt (f j:Nat):=by
 refine Jy fun i hi=>?_
 unfold Sa;rw [UT hi]
theorem Wu (l:List Nat):(toI l).length=l.length:=by simp [toI]
theorem ZjU (l:List Nat) (x:Nat):toI (l++[x])=toI l++[(x:Int)]:=by simp [toI]
theorem Kk (e:Nat) (L:List Nat) (x:Nat):PV.own e 1 (L.length+1) ((toI L).map pInt++[pInt (x:Nat)])= .own e 1 (L++[x]).length ((toI (L++[x])).map pInt):=by simp [ZjU]
def SQ (c:Nat→Nat) (s:Nat) (r:List Nat) (u:Nat):List Nat:=c s::(r.take u).map c
theorem ζI {c:Nat→Nat} {s:Nat} {r:List Nat} {u x:Nat} (h:r[u]? =some x):SQ c s r u++[c x]=SQ c s r (u+1):=by
 unfold SQ;rw [ZR h,Xu];rfl
theorem ζJ {rows:List (List Nat)} {c:Nat→Nat} {s:Nat} {r:List Nat} {u:Nat} (h:rows[s]? =some r) (hu:r.length≤u):SQ c s r u=Yn rows c s:=by
 unfold SQ Yn;rw [h,Xj hu];rfl
theorem Zc7 (c:Nat→Nat) (s:Nat) (r:List Nat) (u:Nat) (h:u≤r.length):(SQ c s r u).length=u+1:=by unfold SQ;rw [Xl,Xe,Xo];omega
theorem Zba {t:Tab} (ht:TOk t) {c:Nat→Nat} (hc:∀s,s<t.rows.length→c s≤t.rows.length) {s:Nat} (hs:s<t.rows.length):∀x∈toI (Yn t.rows c s),0≤x∧x≤2000:=fun x hx=>by
 unfold toI at hx
 obtain ⟨y,hy,rfl⟩:=Xk.1 hx
 have hn:=ht.n1
 have key:∀z,z<t.rows.length→c z≤2000:=fun z hz=>by have:=hc z hz;omega
 unfold Yn at hy
 rcases Xs.1 hy with rfl|hy
 · have:=key s hs;omega
 · obtain ⟨z,hz,rfl⟩:=Xk.1 hy;obtain ⟨r,hr⟩:=Zt hs;rw [hr] at hz;have:=key z (ht.to r (Xc hr) z hz);omega
theorem Zc8 {rows:List (List Nat)} {c:Nat→Nat} {s:Nat} (hs:s<rows.length):KI rows c s=posK id (YC (Yn rows c) (s+1)) (Yn rows c s):=(SF (k:=Yn rows c) hs).1
theorem ζK {rows:List (List Nat)} {c:Nat→Nat} {s:Nat} (hs:s<rows.length) (h:posK id (YC (Yn rows c) s) (Yn rows c s)<(YC (Yn rows c) s).length):KI rows c s=posK id (YC (Yn rows c) s) (Yn rows c s):=by rw [Zc8 hs,Ey h]
theorem ζL {rows:List (List Nat)} {c:Nat→Nat} {s:Nat} (hs:s<rows.length) (h:¬posK id (YC (Yn rows c) s) (Yn rows c s)<(YC (Yn rows c) s).length):KI rows c s=(YC (Yn rows c) s).length:=by
 rw [Zc8 hs,Ez h];exact P1 h
theorem EL {rows:List (List Nat)} {f:Nat} {c:Nat→Nat} {k:Nat} (h:TM rows c=k):Tf rows (f+1) c k=KI rows c:=by rw [Tf,UT h]
theorem EM {rows:List (List Nat)} {f:Nat} {c:Nat→Nat} {k:Nat} (h:¬TM rows c=k):Tf rows (f+1) c k=Tf rows f (KI rows c) (TM rows c):=by rw [Tf,US h]
set_option maxHeartbeats 4000000 in
theorem Ze6 (t :Tab) (ht:TOk t):AF prog 232 [Zc4 t] (· = .own 3 1 t.rows.length (vec t.rows.length fun s=>pInt (Yu t s:Nat))):=by
 have hn1:=ht.n1
 have hfl:=ht.fl
 have hm1:=ht.m1
 refine AF.of_body 92 func232 rfl ntmps232 (Xa rfl) ?_
 intro w0 M0 vs hl hv
 obtain ⟨v0,rfl⟩:=Wl hl
 clear hl hv
 refine Ze ?_
 (refine ZB 1 3 fun h1=>?_<;>refine xL 2 Za ?_<;>refine Zi ?_)
 (refine xL 16 (Zd 1 W3) ?_<;>(refine yL 17 (Zk 1 Yy) fun v17 h=>?_;cases h)<;>refine xL 18 (ZT Z') ?_<;>refine Jm 19 Zn fun h19 ho19=>?_<;>refine xL 3 Za ?_<;>refine Zc ?_)
 refine Zq (ZC (l:=19) 303 rfl rfl) fun _=>?_
 rw [Rm _ (Lq t.fin)]
 (refine Zv ?_<;>refine xL 20 (Zd 1 Kv) ?_<;>(refine yL 21 (Zk 1 YJ) fun v21 h=>?_;cases h)<;>refine xL 22 (ZT Yx) (xL 23 Zb ?_)<;>refine Zc ?_)
 refine ZD (ι:={s:Nat//s≤t.fin.length}) (fun k=>⟨[(1,_,_),(3,_,_),(21,_,_),(22,_,_),(23, .int .i64 k.1,pInt k.1)],[(1,_,_),(303,h19, .own 3 1 t.rows.length (vec t.rows.length fun j=>pInt (Sa k.1 (Lq t.fin) j)))]⟩) (fun k=>t.fin.length-k.1) ⟨0,Xd _⟩ (fun a w H=>H.weaken ⟨rfl,rfl,rfl,rfl,rfl,trivial⟩ ⟨rfl,rfl,trivial⟩) ?_
 rintro ⟨s,hs⟩
 dsimp only
 refine Ze ?_
 (refine xL 24 ZP ?_<;>refine Zc ?_)
 refine cX ?_ ?_<;>intro hb24
 · first |exact bN hb24|(
 obtain ⟨b,hb⟩:=Zt (show s<t.fin.length by omega);have e1:=Z7 (f:=ZM) hb;have e2:=KH t.rows.length (fun j=>pInt (Sa s (Lq t.fin) j));refine Ze ?_;(refine xL 25 Zb (xL 26 (ZI Yx) ?_)<;>(refine yL 27 (Z9 Wa) fun v27 h=>?_;cases h)<;>refine xL 4 Za (xL 5 Za ?_)<;>refine Zi ?_)
 (refine xL 28 Zb ?_<;>refine Zc ?_)
 refine cX ?_ ?_<;>intro hb28
 · first|exact bN hb28|(
 refine Ze ?_;(refine xL 29 Zb (xL 30 Zb (xL 31 (Yh 303 Zp) ?_))<;>refine YL 303 Zg Wp ?_<;>refine Zi ?_)
 (refine xL 32 ZG (xL 23 Zb ?_)<;>refine Zc ?_)
 try rw [Ky (x:=1) (by unfold Lq;rw [hb];show (1:Int)=((if b=true then 1 else 0:Nat):Int);rw [UT hb28];rfl)]
 try rw [Rn (by unfold Lq;rw [hb];show (if b=true then 1 else 0)=0;rw [US (by simpa using hb28)])]
 refine Zm (
  ⟨s+1,oM⟩
  ) (by dsimp only;omega) ⟨rfl,rfl,rfl,rfl,rfl,trivial⟩ ⟨rfl,rfl,trivial⟩)
 · first|exact bN hb28|(
 refine Ze ?_;(refine xL 32 ZG (xL 23 Zb ?_)<;>refine Zc ?_)
 try rw [Ky (x:=1) (by unfold Lq;rw [hb];show (1:Int)=((if b=true then 1 else 0:Nat):Int);rw [UT hb28];rfl)]
 try rw [Rn (by unfold Lq;rw [hb];show (if b=true then 1 else 0)=0;rw [US (by simpa using hb28)])]
 refine Zm (
  ⟨s+1,oM⟩
  ) (by dsimp only;omega) ⟨rfl,rfl,rfl,rfl,rfl,trivial⟩ ⟨rfl,rfl,trivial⟩))
 · first | exact bN hb24|(
 have hsn:s=t.rows.length:=oM;subst hsn;rw [Ro];refine Ze ?_;(refine xL 6 Za ?_<;>refine Zc ?_)
 refine ZD (ι:={q:Value×(Nat→Nat)×Nat×Nat//COk t.rows.length q.2.1 q.2.2.1∧Tf t.rows q.2.2.2 q.2.1 q.2.2.1=Yu t∧t.rows.length+2≤q.2.2.2+q.2.2.1∧q.1.oneCell'=true}) (fun k=>⟨[(1,_,_),(3,k.1.1, .val k.1.1),(6, .int .i64 k.1.2.2.1,pInt k.1.2.2.1)],[(1,_,_),(303,k.1.1, .own 3 1 t.rows.length (vec t.rows.length fun j=>pInt (k.1.2.1 j:Nat)))]⟩) (fun k=>t.rows.length+2-k.1.2.2.1) ⟨(h19,Lq t.fin,0,t.rows.length+2),COk.start _ _,rfl,by dsimp only;omega,ho19⟩ (fun a w H=>H.weaken ⟨rfl,rfl,rfl,trivial⟩ ⟨rfl,rfl,trivial⟩) ?_;rintro ⟨⟨hv3,c,cnt,fuel⟩,hC,hit,hfu,hv3o⟩;dsimp only;dsimp only at hC hit hfu hv3o;have hle:=hC.le;have hbd:=hC.bd;obtain ⟨f,rfl⟩:∃f,fuel=f+1:=⟨fuel-1,oM⟩;have hgr:=hC.grow;have hnx:=hC.next
 refine Ze ?_;(refine GI 33 fun h33 ho33=>?_<;>refine xL 7 Za ?_<;>refine Zi ?_)
 (refine xL 34 Zb (xL 35 (YF 303 Zp) ?_)<;>refine Jm 36 Zn fun h36 ho36=>?_<;>refine xL 8 Za ?_<;>refine Zc ?_)
 refine Zq (ZC (l:=33) 304 rfl rfl) fun _=>?_;refine Zq (ZC (l:=36) 305 rfl rfl) fun _=>?_;rw [Rm _ (KI t.rows c)];refine Zq (ZH (l:=304) (p':= .omap (skv (YM Od 0 (YC (Yn t.rows c) 0)))) rfl rfl) fun _=>?_;(refine Zv ?_<;>refine xL 37 (Zd 1 W3) ?_<;>(refine yL 38 (Zk 1 Yy) fun v38 h=>?_;cases h)<;>refine xL 39 (ZT Z') (xL 40 Zb ?_)<;>refine Zc ?_)
 refine ZD (ι:={s:Nat//s≤t.rows.length}) (fun k=>⟨[(1,_,_),(3,_,_),(6,_,_),(7,_,_),(8,_,_),(38,_,_),(39,_,_),(40, .int .i64 k.1,pInt k.1)],[(1,_,_),(303,_,_),(304,h33, .omap (skv (YM Od 0 (YC (Yn t.rows c) k.1)))),(305,h36, .own 3 1 t.rows.length (vec t.rows.length fun j=>pInt (Sa k.1 (KI t.rows c) j)))]⟩) (fun k=>t.rows.length-k.1) ⟨0,Xd _⟩ (fun a w H=>H.weaken ⟨rfl,rfl,rfl,rfl,rfl,rfl,rfl,rfl,trivial⟩ ⟨rfl,rfl,rfl,rfl,trivial⟩) ?_;rintro ⟨s,hs⟩;dsimp only;refine Ze ?_;(refine xL 41 ZP ?_<;>refine Zc ?_)
 refine cX ?_ ?_<;>intro hb41
 · first | exact bN hb41|(
 have hlt:s<t.rows.length:=oM;obtain ⟨r,hr⟩:=Zt hlt;have e1:=Z7 (f:=K8) hr;have hrl:=ht.rl r (Xc hr);have hrt:=ht.to r (Xc hr);have htl:=Wu r;have e2:=Kt (fun j=>pInt (c j:Nat)) hlt;have e3:=KH t.rows.length (fun j=>pInt (Sa s (KI t.rows c) j));have hkl:=SE (Yn t.rows c) s;refine Ze ?_;(refine xL 42 Zb (xL 43 (ZI Z') ?_)<;>(refine yL 44 (Z9 Zy) fun v44 h=>?_;cases h)<;>refine xL 9 Za (xL 10 Za ?_)<;>refine Zi ?_)
 (refine xL 45 Zb (xL 46 Zb (xL 47 (Yh 303 Zp) ?_))<;>(refine yL 48 (Zk 303 Zg) fun v48 h=>?_;cases h)<;>refine ZO (kk:=1) 49 Zn fun h49 ho49=>?_<;>refine xL 11 Za ?_<;>refine Zc ?_)
 refine Zq (ZC (l:=49) 306 rfl rfl) fun _=>?_;refine Zq (ZH (l:=306) (p':= .own 3 1 (SQ c s r 0).length ((toI (SQ c s r 0)).map pInt)) rfl rfl) fun _=>?_;refine YZ 10 rfl fun hlen10=>?_;(refine Zv ?_<;>refine xL 50 Zb (xL 51 (ZT Zp) (xL 52 Zb ?_))<;>refine Zc ?_)
 refine ZD (ι:={q:Nat×Value//q.1≤r.length∧q.2.oneCell'=true}) (fun k=>⟨[(1,_,_),(3,_,_),(6,_,_),(7,_,_),(8,_,_),(9,_,_),(38,_,_),(39,_,_),(40,_,_),(50,_,_),(51,_,_),(11,k.1.2, .val k.1.2),(52, .int .i64 k.1.1,pInt k.1.1)],[(1,_,_),(303,_,_),(304,_,_),(305,_,_),(306,k.1.2, .own 3 1 (SQ c s r k.1.1).length ((toI (SQ c s r k.1.1)).map pInt))]⟩) (fun k=>r.length-k.1.1) ⟨(0,h49),Xd _,ho49⟩ (fun a w H=>H.weaken ⟨rfl,rfl,rfl,rfl,rfl,rfl,rfl,rfl,rfl,rfl,rfl,rfl,rfl,trivial⟩ ⟨rfl,rfl,rfl,rfl,rfl,trivial⟩) ?_;rintro ⟨⟨u,hv⟩,hu,hvo⟩;dsimp only;dsimp only at hu hvo;have hkpl:=Zc7 c s r u hu;refine Ze ?_;(refine xL 53 ZP ?_<;>refine Zc ?_)
 refine cX ?_ ?_<;>intro hb53
 · first|exact bN hb53|(
 obtain ⟨x,hx⟩:=Zt (show u<r.length by omega);have hxn:=hrt x (Xc hx);(have e4:((toI r).map pInt)[u*1]? =some (pInt (x:Nat)):=by rw [Xq,Xh];unfold toI;rw [Xh,hx];rfl);have e5:=Kt (fun j=>pInt (c j:Nat)) hxn;refine Ze ?_;(refine xL 54 (ZI Zp) ?_<;>(refine yL 55 (Z9 Zg) fun v55 h=>?_;cases h)<;>refine xL 13 Za ?_<;>refine Zi ?_)
 (refine xL 56 Zb (xL 57 Zb (xL 58 Zb (xL 59 (Yh 303 Zp) ?_)))<;>(refine yL 60 (Zk 303 Zg) fun v60 h=>?_;cases h)<;>refine ZO (kk:=1) 61 Zn fun h61 ho61=>?_<;>(refine ZW 306 61 62 Zn fun h62 ho62=>?_;refine Zs (ZC (l:=62) 306 rfl rfl) fun _=>?_;refine Zs (ZH (l:=306) rfl ((Kk _ (SQ c s r u) (c x)).trans (by rw [ζI hx]))) fun _=>?_)<;>refine xL 11 Za ?_<;>refine Zi ?_)
 (refine xL 63 ZG (xL 52 Zb ?_)<;>refine Zc ?_)
 refine Zm (
  ⟨(u+1,h62),Zf hx,ho62⟩
  ) (by dsimp only;omega) ⟨rfl,rfl,rfl,rfl,rfl,rfl,rfl,rfl,rfl,rfl,rfl,rfl,rfl,trivial⟩ ⟨rfl,rfl,rfl,rfl,rfl,trivial⟩)
 · first |exact bN hb53|(
 have hK:=ζJ (c:=c) hr (show r.length≤u by omega);rw [hK];have hkb:=Zba ht hbd hlt;(have hkl2:(Yn t.rows c s).length≤1000:=by rw [←hK,hkpl];omega);have hid:=Zme (YC (Yn t.rows c) s) (Yn t.rows c s);refine nav ?_;refine Zq (En.freeze (l:=306) (t:=11) rfl rfl) fun _=>?_;rw [ZS _ _ _ (by rw [Wu])];(refine Zv ?_<;>refine xL 65 Zb (xL 66 Zb ?_)<;>(refine cS 67 (cA call231 (EJ (toI (Yn t.rows c s)) (by rw [Wu];omega) (fun x hx=>by have:=hkb x hx;omega))) fun v67 h=>?_;cases h)<;>refine xL 68 (ZjQ (f:=Od) (L:=YC (Yn t.rows c) s) (a:=Yn t.rows c s) 304 W7 rfl rfl) ?_<;>refine xL 64 Zb (xL 69 Zj (xL 70 Zj (xL 14 Za (xL 15 Za ?_))))<;>refine Zi ?_)
 (refine xL 71 Zb (xL 72 Ya ?_)<;>refine Zc ?_)
 refine cX ?_ ?_<;>intro hb72
 · first|exact bN hb72|(
 (have hnew:¬posK Od (YC (Yn t.rows c) s) (Od (Yn t.rows c s))<(YC (Yn t.rows c) s).length:=by simpa using hb72);have hnew2:=hnew;rw [hid] at hnew2;have hnn:=ζL hlt hnew2;have hff:=Ez hnew2;refine Ze ?_;(refine xL 73 Zb (xL 74 (Hr 304 underlying251) (xL 14 Za ?_))<;>refine Zi ?_)
 (refine xL 75 Zb (xL 76 Zb ?_)<;>(refine cS 77 (cA call231 (EJ (toI (Yn t.rows c s)) (by rw [Wu];omega) (fun x hx=>by have:=hkb x hx;omega))) fun v77 h=>?_;cases h)<;>refine xL 78 Zb ?_<;>(refine LN 304 W7 ?_;rw [show K' (skv (YM Od 0 (YC (Yn t.rows c) s))) (.string (Tg (toI (Yn t.rows c s)))) (.int .i64 ((skv (YM Od 0 (YC (Yn t.rows c) s))).length:Nat))=skv (YM Od 0 (YC (Yn t.rows c) (s+1))) by rw [hff];exact ZjT hnew])<;>refine Zi ?_)
 (refine xL 79 Zb (xL 80 Zb (xL 81 Zb (xL 82 (Yh 305 Zp) ?_)))<;>refine YL 305 Zg Wp ?_<;>refine Zi ?_)
 (refine xL 83 ZG (xL 40 Zb ?_)<;>refine Zc ?_)
 try rw [Ky (by rw [K5,hnn])]
 try rw [Ky hnum,←hfo]
 refine Zm (
  ⟨s+1,oM⟩
  ) (by dsimp only;omega) ⟨rfl,rfl,rfl,rfl,rfl,rfl,rfl,rfl,trivial⟩ ⟨rfl,rfl,rfl,rfl,trivial⟩)
 · first|exact bN hb72|(
 (have hold:posK Od (YC (Yn t.rows c) s) (Od (Yn t.rows c s))<(YC (Yn t.rows c) s).length:=by simpa using hb72);have hold2:=hold;rw [hid] at hold2;have hno:=ζK hlt hold2;have hfo:=Ey hold2;(have hnum:(SP Od (YC (Yn t.rows c) s) (Yn t.rows c s):Int)=(KI t.rows c s:Nat):=by unfold SP;rw [UT hold,hid,hno]);refine Ze ?_;(refine xL 79 Zb (xL 80 Zb (xL 81 Zb (xL 82 (Yh 305 Zp) ?_)))<;>refine YL 305 Zg Wp ?_<;>refine Zi ?_)
 (refine xL 83 ZG (xL 40 Zb ?_)<;>refine Zc ?_)
 try rw [Ky (by rw [K5,hnn])]
 try rw [Ky hnum,←hfo]
 refine Zm (
  ⟨s+1,oM⟩
  ) (by dsimp only;omega) ⟨rfl,rfl,rfl,rfl,rfl,rfl,rfl,rfl,trivial⟩ ⟨rfl,rfl,rfl,rfl,trivial⟩)))
 · first |exact bN hb41|(
 have hsn:s=t.rows.length:=oM;subst hsn;rw [Ro];refine nav ?_;refine Zq (ZC (l:=303) 302 rfl rfl) fun _=>?_;refine Zq (ZC (l:=305) 303 rfl rfl) fun _=>?_;(refine Zv ?_<;>refine xL 84 Zb (xL 3 Za ?_)<;>refine Zi ?_)
 (refine xL 85 Zb (xL 86 (Hr 304 underlying251) (xL 87 Zb (xL 88 Ye ?_)))<;>refine Zc ?_)
 refine cX ?_ ?_<;>intro hb88
 · first|exact bN hb88|(
 (have hcc:TM t.rows c=cnt:=by rw [K5] at hb88;unfold TM;omega);refine Ze ?_;(refine xL 89 Zb (xL 2 Za ?_)<;>refine Zc ?_)
 refine Kb 303 (results232) rfl rfl ?_;rw [←hit,EL hcc])
 · first|exact bN hb88|(
 (have hcc:¬TM t.rows c=cnt:=by rw [K5] at hb88;unfold TM;omega);refine Ze ?_;(refine xL 90 Zb (xL 91 (Hr 304 underlying251) (xL 6 Za ?_))<;>refine Zc ?_)
 rw [K5];refine Zm (
  ⟨(h36,KI t.rows c,TM t.rows c,f),hnx,by dsimp only;rw [←hit,EM hcc],by dsimp only;omega,ho36⟩
  ) (by have:=hnx.le;dsimp only;omega) ⟨rfl,rfl,rfl,trivial⟩ ⟨rfl,rfl,trivial⟩)))
end Go.Proofs.YtgfabnhpllkebaaGreatDoor
