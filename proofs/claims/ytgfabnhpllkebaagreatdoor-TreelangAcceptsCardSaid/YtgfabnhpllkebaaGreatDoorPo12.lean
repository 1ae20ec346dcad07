/-
  Walks of functions and plain laws of the chapter, as the claim needs them.
-/
import Derived.Test.YtgfabnhpllkebaaGreatDoorPo11
import Derived.Test.YtgfabnhpllkebaaGreatDoorPo10
import Derived.Test.YtgfabnhpllkebaaGreatDoorPo09
import Derived.Test.YtgfabnhpllkebaaGreatDoorPo01
namespace Go.Proofs.YtgfabnhpllkebaaGreatDoor
open Go.RowKit Go.Cb Go.En Tryz
set_option linter.all false
set_option maxRecDepth 100000
theorem ZkZ {l:List Mv} {k:Nat} {x:Mv} (h:l[k]? =some x):(l.flatMap cMv)[k*3+0]? =some (pInt x.src)∧(l.flatMap cMv)[k*3+1]? =some (pInt x.dst)∧(l.flatMap cMv)[k*3+2]? =some (pInt x.sym):=by
 have e:=Ym Z2 l k x h
 have key:∀i,i<3→(l.flatMap cMv)[k*3+i]? =(cMv x)[i]? :=fun i hi=>by
  rw [←e,XZ hi,Vm]
 exact ⟨key 0 oM,key 1 oM,key 2 oM⟩
theorem ZdT (a b:Aut) (hla:a.moves.length≤1000000) (hlb:b.moves.length≤1000000) (ha:Z4 a=false) (hb:Z4 b=false) (hs:True):AF prog 196 [ZN a,ZN b] (· =pInt 1):=by
 have hva:=YU a hla
 have hvb:=YU b hlb
 rw [ha] at hva
 rw [hb] at hvb
 refine AF.of_body 18 func196 rfl ntmps196 (Xa rfl) ?_
 intro w0 M0 vs hl hv
 obtain ⟨v0,v1,rfl⟩:=YI hl
 clear hl hv
 refine Ze ?_
 (refine ZB 2 5 fun h2=>?_<;>refine ZB 3 5 fun h3=>?_<;>refine xL 4 Za ?_<;>refine Zi ?_)
 ((refine yL 5 (Zu 2 Zh) fun v5 h=>?_;cases h)<;>(refine cS 6 (cA call192 (hva)) fun v6 h=>?_;cases h)<;>refine xL 7 Ya (xL 8 Zb ?_)<;>refine kL 9 ?_<;>refine kL 10 ?_<;>refine kL 11 ?_<;>refine xL 12 ZF ?_<;>refine Zc ?_)<;>(
 refine cX ?_ ?_<;>intro hb12
 · first|exact bN hb12|(
 refine Ze ?_;(refine xL 4 Za ?_<;>refine Zc ?_)
 exact Zz (results196) rfl rfl)
 · first
   |exact bN hb12
   |skip)
theorem ZdU (a b:Aut) (hla:a.moves.length≤1000000) (hlb:b.moves.length≤1000000) (ha:Z4 a=false) (hb:Z4 b=true) (hs:True):AF prog 196 [ZN a,ZN b] (· =pInt 1):=by
 have hva:=YU a hla
 have hvb:=YU b hlb
 rw [ha] at hva
 rw [hb] at hvb
 refine AF.of_body 18 func196 rfl ntmps196 (Xa rfl) ?_
 intro w0 M0 vs hl hv
 obtain ⟨v0,v1,rfl⟩:=YI hl
 clear hl hv
 refine Ze ?_
 (refine ZB 2 5 fun h2=>?_<;>refine ZB 3 5 fun h3=>?_<;>refine xL 4 Za ?_<;>refine Zi ?_)
 ((refine yL 5 (Zu 2 Zh) fun v5 h=>?_;cases h)<;>(refine cS 6 (cA call192 (hva)) fun v6 h=>?_;cases h)<;>refine xL 7 Ya (xL 8 Zb ?_)<;>refine kL 9 ?_<;>refine kL 10 ?_<;>refine kL 11 ?_<;>refine xL 12 ZF ?_<;>refine Zc ?_)<;>(
 refine cX ?_ ?_<;>intro hb12
 · first|exact bN hb12|(
 refine Ze ?_;(refine xL 4 Za ?_<;>refine Zc ?_)
 exact Zz (results196) rfl rfl)
 · first
   |exact bN hb12
   |skip)
theorem ZdV (a b:Aut) (hla:a.moves.length≤1000000) (hlb:b.moves.length≤1000000) (ha:Z4 a=true) (hb:Z4 b=false) (hs:True):AF prog 196 [ZN a,ZN b] (· =pInt 1):=by
 have hva:=YU a hla
 have hvb:=YU b hlb
 rw [ha] at hva
 rw [hb] at hvb
 refine AF.of_body 18 func196 rfl ntmps196 (Xa rfl) ?_
 intro w0 M0 vs hl hv
 obtain ⟨v0,v1,rfl⟩:=YI hl
 clear hl hv
 refine Ze ?_
 (refine ZB 2 5 fun h2=>?_<;>refine ZB 3 5 fun h3=>?_<;>refine xL 4 Za ?_<;>refine Zi ?_)
 ((refine yL 5 (Zu 2 Zh) fun v5 h=>?_;cases h)<;>(refine cS 6 (cA call192 (hva)) fun v6 h=>?_;cases h)<;>refine xL 7 Ya (xL 8 Zb ?_)<;>(refine yL 9 (Zu 3 Zh) fun v9 h=>?_;cases h)<;>(refine cS 10 (cA call192 (hvb)) fun v10 h=>?_;cases h)<;>refine xL 11 Ya (xL 12 ZF ?_)<;>refine Zc ?_)<;>(
 refine cX ?_ ?_<;>intro hb12
 · first|exact bN hb12|(
 refine Ze ?_;(refine xL 4 Za ?_<;>refine Zc ?_)
 exact Zz (results196) rfl rfl)
 · first
   |exact bN hb12
   |skip)
theorem ZdW (a b:Aut) (hla:a.moves.length≤1000000) (hlb:b.moves.length≤1000000) (ha:Z4 a=true) (hb:Z4 b=true) (hs:¬a.syms=b.syms):AF prog 196 [ZN a,ZN b] (· =pInt 29):=by
 have hva:=YU a hla
 have hvb:=YU b hlb
 rw [ha] at hva
 rw [hb] at hvb
 refine AF.of_body 18 func196 rfl ntmps196 (Xa rfl) ?_
 intro w0 M0 vs hl hv
 obtain ⟨v0,v1,rfl⟩:=YI hl
 clear hl hv
 refine Ze ?_
 (refine ZB 2 5 fun h2=>?_<;>refine ZB 3 5 fun h3=>?_<;>refine xL 4 Za ?_<;>refine Zi ?_)
 ((refine yL 5 (Zu 2 Zh) fun v5 h=>?_;cases h)<;>(refine cS 6 (cA call192 (hva)) fun v6 h=>?_;cases h)<;>refine xL 7 Ya (xL 8 Zb ?_)<;>(refine yL 9 (Zu 3 Zh) fun v9 h=>?_;cases h)<;>(refine cS 10 (cA call192 (hvb)) fun v10 h=>?_;cases h)<;>refine xL 11 Ya (xL 12 ZF ?_)<;>refine Zc ?_)<;>(
 refine cX ?_ ?_<;>intro hb12
 · first|exact bN hb12|(
 refine Ze ?_;(refine xL 4 Za ?_<;>refine Zc ?_)
 exact Zz (results196) rfl rfl)
 · first|exact bN hb12|(
 refine Ze ?_;(refine xL 13 (Zd 2 Z3) ?_<;>(refine yL 14 (Zk 2 Zg) fun v14 h=>?_;cases h)<;>refine xL 15 (Zd 3 Z3) ?_<;>(refine yL 16 (Zk 3 Zg) fun v16 h=>?_;cases h)<;>refine xL 17 Yv ?_<;>refine Zc ?_)
 refine cX ?_ ?_<;>intro hb17
 · first|exact bN hb17|(
 refine Ze ?_;(refine xL 4 Za ?_<;>refine Zc ?_)
 first|exact Zz (results196) rfl rfl|exact UU hs (by simpa using hb17))
 · first|exact bN hb17|(
 refine Ze ?_;(refine xL 4 Za ?_<;>refine Zc ?_)
 first|exact Zz (results196) rfl rfl|exact UU (by simpa using hb17) hs)))
theorem ZdX (a b:Aut) (hla:a.moves.length≤1000000) (hlb:b.moves.length≤1000000) (ha:Z4 a=true) (hb:Z4 b=true) (hs:a.syms=b.syms):AF prog 196 [ZN a,ZN b] (· =pInt 0):=by
 have hva:=YU a hla
 have hvb:=YU b hlb
 rw [ha] at hva
 rw [hb] at hvb
 refine AF.of_body 18 func196 rfl ntmps196 (Xa rfl) ?_
 intro w0 M0 vs hl hv
 obtain ⟨v0,v1,rfl⟩:=YI hl
 clear hl hv
 refine Ze ?_
 (refine ZB 2 5 fun h2=>?_<;>refine ZB 3 5 fun h3=>?_<;>refine xL 4 Za ?_<;>refine Zi ?_)
 ((refine yL 5 (Zu 2 Zh) fun v5 h=>?_;cases h)<;>(refine cS 6 (cA call192 (hva)) fun v6 h=>?_;cases h)<;>refine xL 7 Ya (xL 8 Zb ?_)<;>(refine yL 9 (Zu 3 Zh) fun v9 h=>?_;cases h)<;>(refine cS 10 (cA call192 (hvb)) fun v10 h=>?_;cases h)<;>refine xL 11 Ya (xL 12 ZF ?_)<;>refine Zc ?_)<;>(
 refine cX ?_ ?_<;>intro hb12
 · first|exact bN hb12|(
 refine Ze ?_;(refine xL 4 Za ?_<;>refine Zc ?_)
 exact Zz (results196) rfl rfl)
 · first|exact bN hb12|(
 refine Ze ?_;(refine xL 13 (Zd 2 Z3) ?_<;>(refine yL 14 (Zk 2 Zg) fun v14 h=>?_;cases h)<;>refine xL 15 (Zd 3 Z3) ?_<;>(refine yL 16 (Zk 3 Zg) fun v16 h=>?_;cases h)<;>refine xL 17 Yv ?_<;>refine Zc ?_)
 refine cX ?_ ?_<;>intro hb17
 · first|exact bN hb17|(
 refine Ze ?_;(refine xL 4 Za ?_<;>refine Zc ?_)
 first|exact Zz (results196) rfl rfl|exact UU hs (by simpa using hb17))
 · first|exact bN hb17|(
 refine Ze ?_;(refine xL 4 Za ?_<;>refine Zc ?_)
 first|exact Zz (results196) rfl rfl|exact UU (by simpa using hb17) hs)))
theorem Ge (a b:Aut) (hla:a.moves.length≤1000000) (hlb:b.moves.length≤1000000):AF prog 196 [ZN a,ZN b] (· =pInt (WK a b)):=by
 cases ha:Z4 a
 · rw [Zgq ha]
   cases hb:Z4 b
   · exact ZdT a b hla hlb ha hb trivial
   · exact ZdU a b hla hlb ha hb trivial
 · cases hb:Z4 b
   · rw [Zgr hb];exact ZdV a b hla hlb ha hb trivial
   · by_cases hs:a.syms=b.syms
     · rw [ZkE ha hb hs];exact ZdX a b hla hlb ha hb hs
     · rw [ZkD ha hb hs];exact ZdW a b hla hlb ha hb hs
theorem T1 (l:List Int) (n:Int) (hl:l.length≤1000000) (hn:0≤n∧n≤1000000) (hb:∀x∈l,0≤x∧x≤1000000):AF prog 197 [pInts l,pInt n] (· = .own 3 1 (YV n l).length ((YV n l).map pInt)):=by
 refine AF.of_body 24 func197 rfl ntmps197 (Xa rfl) ?_
 intro w0 M0 vs hl hv
 obtain ⟨v0,v1,rfl⟩:=YI hl
 obtain rfl:=hv 1 _ _ rfl rfl
 clear hl hv
 refine Ze ?_
 (refine xL 4 Za ?_<;>refine Zi ?_)
 (refine LM 7 Zn fun h7 ho7=>?_<;>refine xL 5 Za ?_<;>refine Zc ?_)
 refine Zq (ZC (l:=7) 200 rfl rfl) fun _=>?_
 (refine Zv ?_<;>refine xL 6 Za ?_<;>refine Zc ?_)
 refine ZD (ι:={q:Nat×Value//q.1≤l.length∧q.2.oneCell'=true}) (fun k=>⟨[(0,_,_),(1,_,_),(5,k.1.2, .val k.1.2),(6, .int .i64 k.1.1,pInt k.1.1)],[(200,k.1.2, .own 3 1 (YV n (l.take k.1.1)).length ((YV n (l.take k.1.1)).map pInt))]⟩) (fun k=>l.length-k.1.1) ⟨(0,h7),Xd _,ho7⟩ (fun a w H=>H.weaken ⟨rfl,rfl,rfl,rfl,trivial⟩ ⟨rfl,trivial⟩) ?_
 rintro ⟨⟨k,hO⟩,hk,hOo⟩
 dsimp only
 dsimp only at hk hOo
 have hal:(YV n (l.take k)).length≤1000000:=by rw [KV,Xo];omega
 refine Ze ?_
 (refine xL 8 Zb (xL 9 Zb (xL 10 (ZT Zp) (xL 11 ZP ?_)))<;>refine Zc ?_)
 refine cX ?_ ?_<;>intro hb11
 · first|exact bN hb11|(
 obtain ⟨x,hx⟩:=Zt (show k<l.length by omega);have e1:=Z7 (f:=pInt) hx;have hxb:=hb x (Xc hx);refine Ze ?_;(refine xL 14 Zb (xL 15 Zb (xL 16 Zb (xL 17 (ZI Zp) ?_)))<;>(refine yL 18 (Z9 Zg) fun v18 h=>?_;cases h)<;>refine xL 19 Zb (xL 20 ZG ?_)<;>refine ZO (kk:=1) 21 Zn fun h21 ho21=>?_<;>(refine ZW 200 21 22 Zn fun h22 ho22=>?_;refine Zs (ZC (l:=22) 200 rfl rfl) fun _=>?_;refine Zs (ZH (l:=200) rfl ((Kn _ (YV n (l.take k)) (x+n)).trans (by rw [←ζC n hx]))) fun _=>?_)<;>refine xL 5 Za ?_<;>refine Zi ?_)
 (refine xL 12 Zb (xL 13 ZG (xL 6 Za ?_))<;>refine Zc ?_)
 refine Zm (
  ⟨(k+1,h22),Zf hx,ho22⟩
  ) (by dsimp only;omega) ⟨rfl,rfl,rfl,rfl,trivial⟩ ⟨rfl,trivial⟩)
 · first|exact bN hb11|(
 rw [Xj (show l.length≤k by omega)];refine Ze ?_;(refine xL 23 Zb (xL 4 Za ?_)<;>refine Zc ?_)
 exact Kb 200 (results197) rfl rfl rfl)
theorem Cn (b:Aut) (n:Int) (hb:AOk b) (hn:0≤n∧n≤1000000):AF prog 198 [pMvs b.moves,pInt n] (· = .own 93 3 (KM n b.moves).length ((KM n b.moves).flatMap cMv)):=by
 have hn1:=hb.n1
 have hbl:=hb.ml
 refine AF.of_body 38 func198 rfl ntmps198 (Xa rfl) ?_
 intro w0 M0 vs hl hv
 obtain ⟨v0,v1,rfl⟩:=YI hl
 obtain rfl:=hv 1 _ _ rfl rfl
 clear hl hv
 refine Ze ?_
 (refine xL 4 Za ?_<;>refine Zi ?_)
 (refine LM 7 ZU fun h7 ho7=>?_<;>refine xL 5 Za ?_<;>refine Zc ?_)
 refine Zq (ZC (l:=7) 200 rfl rfl) fun _=>?_
 (refine Zv ?_<;>refine xL 6 Za ?_<;>refine Zc ?_)
 refine ZD (ι:={q:Nat×Value//q.1≤b.moves.length∧q.2.oneCell'=true}) (fun k=>⟨[(0,_,_),(1,_,_),(5,k.1.2, .val k.1.2),(6, .int .i64 k.1.1,pInt k.1.1)],[(200,k.1.2, .own 93 3 (KM n (b.moves.take k.1.1)).length ((KM n (b.moves.take k.1.1)).flatMap cMv))]⟩) (fun k=>b.moves.length-k.1.1) ⟨(0,h7),Xd _,ho7⟩ (fun a w H=>H.weaken ⟨rfl,rfl,rfl,rfl,trivial⟩ ⟨rfl,trivial⟩) ?_
 rintro ⟨⟨k,hO⟩,hk,hOo⟩
 dsimp only
 dsimp only at hk hOo
 have hal:(KM n (b.moves.take k)).length≤1000000:=by rw [Ld,Xo];omega
 refine Ze ?_
 (refine xL 8 Zb (xL 9 Zb (xL 10 (ZT ZK) (xL 11 ZP ?_)))<;>refine Zc ?_)
 refine cX ?_ ?_<;>intro hb11
 · first|exact bN hb11|(
 obtain ⟨x,hx⟩:=Zt (show k<b.moves.length by omega);obtain ⟨e0,e1,e2⟩:=ZkZ hx;have hxb:=hb.mv x (Xc hx);refine nav ?_;(refine ZZ (fun i=>([]:List Nat).elem i) [] kR ?_<;>refine xD 0 14 rfl Zb ?_<;>refine xD 1 15 rfl Zb ?_<;>refine xD 2 16 rfl Zb ?_<;>refine xD 3 17 rfl (ZI ZK) ?_<;>refine xD 4 18 rfl (Js Yb) ?_<;>(refine yD 5 19 rfl (Z9 Zg) fun v19 h=>?_;cases h)<;>refine xD 6 20 rfl Zb ?_<;>refine xD 7 21 rfl ZG ?_<;>refine xD 8 22 rfl Zb ?_<;>refine xD 9 23 rfl Zb ?_<;>refine xD 10 24 rfl (ZI ZK) ?_<;>refine xD 11 25 rfl (Js Yg) ?_<;>(refine yD 12 26 rfl (Z9 Zg) fun v26 h=>?_;cases h)<;>refine xD 13 27 rfl Zb ?_<;>refine xD 14 28 rfl ZG ?_<;>refine xD 15 29 rfl Zb ?_<;>refine xE 16 30 rfl Zb ?_<;>refine xE 17 31 rfl (ZI ZK) ?_<;>refine xE 18 32 rfl (Js Yj) ?_<;>(refine yE 19 33 rfl (Z9 Zg) fun v33 h=>?_;cases h)<;>refine xE 20 34 rfl (ZL YW) ?_<;>(refine Zr 21 kR ?_)<;>(refine Zo rfl fun w9 M9 N9 DQ back=>?_)<;>refine YB 35 ZU fun h35 ho35=>?_<;>refine Zl (back _ (nrm ?_))<;>(refine Zr 22 kR ?_)<;>(refine Zo rfl fun w9 M9 N9 DQ back=>?_)<;>(refine ZW 200 35 36 ZU fun h36 ho36=>?_;refine Zs (ZC (l:=36) 200 rfl rfl) fun _=>?_;refine Zs (ZH (l:=200) rfl ((WR _ (KM n (b.moves.take k)) ⟨x.src+n,x.dst+n,x.sym⟩).trans (by rw [←ζD n hx]))) fun _=>?_)<;>refine Zl (back _ (nrm ?_))<;>refine xE 23 5 rfl Za ?_<;>refine Yw kR (nav ?_)<;>try dsimp only)
 (refine Zv ?_<;>refine xL 12 Zb (xL 13 ZG (xL 6 Za ?_))<;>refine Zc ?_)
 refine Zm (
  ⟨(k+1,h36),Zf hx,ho36⟩
  ) (by dsimp only;omega) ⟨rfl,rfl,rfl,rfl,trivial⟩ ⟨rfl,trivial⟩)
 · first|exact bN hb11|(
 rw [Xj (show b.moves.length≤k by omega)];refine Ze ?_;(refine xL 37 Zb (xL 4 Za ?_)<;>refine Zc ?_)
 exact Kb 200 (results198) rfl rfl rfl)
theorem Gy (l : List Mv) (m:Mv) (hl:l.length≤1000000) (ha:AscM l):AF prog 133 [pMvs l, .agg (cMv m)] (· =pMvs (RF m l)):=by
 refine AF.of_body 47 func133 rfl ntmps133 (Xa rfl) ?_
 intro w0 M0 vs hl hv
 obtain ⟨v0,v1,rfl⟩:=YI hl
 clear hl hv
 refine YZ 0 rfl fun hlen=>?_
 refine Ze ?_
 (refine ZB 3 3 fun h3=>?_<;>refine xL 4 Za ?_<;>refine Zi ?_)
 (refine xL 7 Zb (xL 8 (ZT ZK) (xL 5 Za ?_))<;>refine Zc ?_)
 refine ZD (ι:={i:Nat//i≤l.length∧∀(j:Nat) (x:Mv),i≤j→l[j]? =some x→Ka m x=true}) (fun k=>⟨[(0,_,_),(3,_,_),(5, .int .i64 k.1,pInt k.1)],[(3,_,_)]⟩) (fun k=>k.1) ⟨l.length,Xg _,fun j x h1 h2=>by have:=Zf h2;omega⟩ (fun a w H=>H.weaken ⟨rfl,rfl,rfl,trivial⟩ ⟨rfl,trivial⟩) ?_
 rintro ⟨i,hi,hp⟩
 dsimp only
 obtain ⟨x,hx⟩:∃x:Mv,0<i→l[((i:Int)-1).toNat]? =some x:=by
  rcases X7 i with h0|h0
  · exact ⟨m,fun h=>oM⟩
  · obtain ⟨x,hx⟩:=Zt (show ((i:Int)-1).toNat<l.length by omega);exact ⟨x,fun _=>hx⟩
 have hi1:((i:Int)-1).toNat=i-1:=oM
 refine nav ?_
 (refine ZZ (fun i=>([]:List Nat).elem i) [3] kR ?_<;>refine xE 0 9 rfl Zb ?_<;>refine xE 1 10 rfl Yr ?_<;>refine xE 2 11 rfl Zb ?_<;>(refine bDd 11 (fun hb11=>?_) (fun hb11=>?_)<;>(first|refine kD 3 12 rfl ?_|(have hx2:=hx oM;have e1:=Ym Z2 l ((i:Int)-1).toNat x hx2;have e2:=YK Z2 hx2;refine yD 3 12 rfl (Zu (k:=3) (ps:=cMv m) 3 kR) fun v12 h=>?_;cases h)))<;>(first|refine kD 4 13 rfl ?_|refine xD 4 13 rfl Zb ?_)<;>(first|refine kD 5 14 rfl ?_|refine xD 5 14 rfl Zb ?_)<;>(first|refine kD 6 15 rfl ?_|refine xD 6 15 rfl K7 ?_)<;>(first|refine kD 7 16 rfl ?_|refine xD 7 16 rfl (Sg ZK) ?_)<;>(first|refine kD 8 17 rfl ?_|(refine yD 8 17 rfl (Wn ZX) fun v17 h=>?_;cases h))<;>(refine Zr 9 kR ?_)<;>(first|(refine WO (d:=18) rfl (cA call187 (DN m x)) fun v18 h=>?_;cases h)|(refine Zo rfl fun w9 M9 N9 DQ back=>?_;refine kL 18 ?_;refine Zl (back _ (nrm ?_))))<;>refine xE 10 19 rfl ZF ?_<;>refine Yw kR (nav ?_)<;>try dsimp only)<;>(
 refine cX ?_ ?_<;>intro hb19
 · first |exact bN hb19|(
 refine Ze ?_;(refine xL 20 Zb (xL 21 K7 (xL 5 Za ?_))<;>refine Zc ?_)
 have hi0:0<i:=oM;rw [show ((i:Int)-1)=((i-1:Nat):Int) by omega];refine Zm (
  ⟨i -1,oM,fun j y h1 h2=>by
   by_cases e:j=i-1
   · have hx3:=hx hi0;rw [hi1,←e,h2] at hx3;cases hx3;exact JU.1 hb19
   · exact hp j y oM h2⟩
  ) (by dsimp only;omega) ⟨rfl,rfl,rfl,trivial⟩ ⟨rfl,trivial⟩)
 · first | exact bN hb19|(
 refine nav ?_;(refine ZZ (fun i=>([]:List Nat).elem i) [3] kR ?_<;>refine xE 0 22 rfl Zb ?_<;>refine xE 1 23 rfl Yr ?_<;>refine xE 2 24 rfl Zb ?_<;>(refine bDd 24 (fun hb24=>?_) (fun hb24=>?_)<;>(first|refine kD 3 25 rfl ?_|(have hx2:=hx oM;have e1:=Ym Z2 l ((i:Int)-1).toNat x hx2;have e2:=YK Z2 hx2;refine xD 3 25 rfl Zb ?_)))<;>(first|refine kD 4 26 rfl ?_|refine xD 4 26 rfl Zb ?_)<;>(first|refine kD 5 27 rfl ?_|refine xD 5 27 rfl K7 ?_)<;>(first|refine kD 6 28 rfl ?_|refine xD 6 28 rfl (Sg ZK) ?_)<;>(first|refine kD 7 29 rfl ?_|(refine yD 7 29 rfl (Wn ZX) fun v29 h=>?_;cases h))<;>(first|refine kD 8 30 rfl ?_|(refine yD 8 30 rfl (Zu 3 ZX) fun v30 h=>?_;cases h))<;>(first|refine kD 9 31 rfl ?_|refine xD 9 31 rfl ((ZiY (us:=vMv x) (us':=vMv m) Zmh Zmi Zmj (Rp x m) rfl rfl)) ?_)<;>refine xE 10 32 rfl ZF ?_<;>refine Yw kR (nav ?_)<;>try dsimp only)<;>(
 refine cX ?_ ?_<;>intro hb32
 · first |exact bN hb32|(
 refine Ze ?_;(refine xL 33 Zb (xL 4 Za ?_)<;>refine Zc ?_)
 refine Zz (results133) rfl ?_
 first
  |(exfalso;simp at hb32;done)
  | (have hxm:=Gh.1 hb32
     rw [Zmk ha (hxm▸Xc (hx oM))]))
 · first | exact bN hb32|(
 refine nav ?_;have g1:=Pm Z2 l;have f5:(l.flatMap cMv).length=l.length*3:=flat_len Z2 l;(have f1:(((l.flatMap cMv).drop (0*3)).take ((i-0)*3)).length=(i-0)*3:=by rw [Xo,Ug,f5];omega);(have f3:(((l.flatMap cMv).drop (i*3)).take ((l.length-i)*3)).length=(l.length-i)*3:=by rw [Xo,Ug,f5];omega);have f0:∀q∈l.flatMap cMv,En.one q=true:=XB.1 (LC l);have f2:(((l.flatMap cMv).drop (0*3)).take ((i-0)*3)).all En.one=true:=XB.2 fun q hq=>f0 q (List.mem_of_mem_drop (VJ hq));have f4:(((l.flatMap cMv).drop (i*3)).take ((l.length-i)*3)).all En.one=true:=XB.2 fun q hq=>f0 q (List.mem_of_mem_drop (VJ hq));(refine ZZ (fun i=>([]:List Nat).elem i) [3] kR ?_<;>refine xD 1 35 rfl Zb ?_<;>refine xD 2 36 rfl Zb ?_<;>refine xD 3 37 rfl (OF (i:=0) (j:=i) ZK rfl rfl rfl rfl (Xd _) hi f5) ?_<;>(refine yD 5 39 rfl (Zu 3 ZX) fun v39 h=>?_;cases h)<;>(refine Y' 0 6 kR ?_ ?_;rotate_right;(focus ((refine Zo rfl fun w9 M9 N9 DQ back=>?_)<;>refine YB 40 ZU fun h40 ho40=>?_<;>refine Zl (back _ (nrm ?_))<;>(refine Zr 0 kR ?_)<;>(refine Zo rfl fun w9 M9 N9 DQ back=>?_)<;>refine LM 34 ZU fun h34 ho34=>?_<;>refine Zl (back _ (nrm ?_))<;>(refine Zr 4 kR ?_)<;>(refine Zo rfl fun w9 M9 N9 DQ back=>?_)<;>refine Kf 34 38 ZU (fun h38 ho38=>?_) f1 f2<;>refine Zl (back _ (nrm ?_))<;>(refine Zr 7 kR ?_)<;>(refine Zo rfl fun w9 M9 N9 DQ back=>?_)<;>refine ZW 38 40 41 ZU fun h41 ho41=>?_<;>refine Zl (back _ (nrm ?_))<;>refine xE 8 6 rfl Za ?_));rotate_right;(focus ((refine Zo rfl fun w9 M9 N9 DQ back=>?_)<;>refine LM 34 ZU fun h34 ho34=>?_<;>refine Zl (back _ (nrm ?_))<;>(refine Y' 4 6 kR ?_ ?_;rotate_right;(focus ((refine Zo rfl fun w9 M9 N9 DQ back=>?_)<;>refine YB 40 ZU fun h40 ho40=>?_<;>refine Zl (back _ (nrm ?_))<;>(refine Zr 4 kR ?_)<;>(refine Zo rfl fun w9 M9 N9 DQ back=>?_)<;>refine Kf 34 38 ZU (fun h38 ho38=>?_) f1 f2<;>refine Zl (back _ (nrm ?_))<;>(refine Zr 7 kR ?_)<;>(refine Zo rfl fun w9 M9 N9 DQ back=>?_)<;>refine ZW 38 40 41 ZU fun h41 ho41=>?_<;>refine Zl (back _ (nrm ?_))<;>refine xE 8 6 rfl Za ?_));rotate_right;(focus ((refine Zo rfl fun w9 M9 N9 DQ back=>?_)<;>refine Kf 34 38 ZU (fun h38 ho38=>?_) f1 f2<;>refine Zl (back _ (nrm ?_))<;>(refine Zr 6 kR ?_)<;>(refine Zo rfl fun w9 M9 N9 DQ back=>?_)<;>refine YB 40 ZU fun h40 ho40=>?_<;>refine Zl (back _ (nrm ?_))<;>(refine Zr 7 kR ?_)<;>(refine Zo rfl fun w9 M9 N9 DQ back=>?_)<;>refine ZW 38 40 41 ZU fun h41 ho41=>?_<;>refine Zl (back _ (nrm ?_))<;>refine xE 8 6 rfl Za ?_))))))<;>refine Yw kR (nav ?_)<;>try dsimp only)<;>(
 (refine Zv ?_<;>refine xL 42 Zb (xL 43 Zb (xL 44 Zb ?_))<;>refine xL 45 (OF (i:=i) (j:=l.length) ZK rfl rfl rfl rfl hi (Xg _) f5) ?_<;>refine Kf 41 46 ZU (fun h46 ho46=>?_) f3 f4<;>refine xL 4 Za ?_<;>refine Zc ?_)
 have hn :∀y,0<i→l[i-1]? =some y→Ka m y=false∧y≠m:=fun y h0 hy=>by
  first
   |(exfalso;omega)
   | (have hx3:=hx h0
      rw [hi1,hy] at hx3;cases hx3;refine ⟨?_,fun e=>?_⟩
      · cases hc:Ka m x with
        |false=>rfl
        |true=>exact UU (JU.2 hc) hb19
      · simp [Gh.2 e] at hb32)
 have hcells:[]++((l.flatMap cMv).drop (0*3)).take ((i-0)*3)++cMv m++((l.flatMap cMv).drop (i*3)).take ((l.length-i)*3)=(RF m l).flatMap cMv:=by
  rw [Zgc ha hi hp hn,XN,XN,VS,VB,VY,V4,Pk Z2,Pm Z2,Xj (show ((l.drop i).flatMap cMv).length≤(l.length-i)*3 by rw [flat_len Z2,Ug];exact Xg _),X3]
 have hlen2:0+(i-0)+1+(l.length-i)=(RF m l).length:=by
  rw [Zgc ha hi hp hn,Xb,Xb,Xo,Ug,Xx];omega
 refine Y3 (ZH (l:=46) (p':= .own 93 3 (RF m l).length ((RF m l).flatMap cMv)) rfl (by rw [←hcells,←hlen2];rfl)) fun _=>?_;refine Y3 (En.freeze (l:=46) (t:=4) rfl rfl) fun _=>?_;rw [Km _ _ _ rfl];exact Zz (results133) rfl rfl)))))
theorem D1 (a:Aut) (hl:a.moves.length≤1000000) {p0 p1 p2 p3 p4:PV} {E:Int} (r5:R5 p0 p1 p2 p3 p4) (hm:AF prog 143 [ZN a] (· = .tup [.agg [p0,p1,p2,p3,p4],pInt E])):AF prog 199 [ZN a] (· =if 2000<a.n∨20000<a.moves.length then .tup [KL,pInt 13] else .tup [.agg [p0,p1,p2,p3,p4],pInt E]):=by
 obtain ⟨o0,o1,o2,o3,o4⟩:=r5.o
 refine AF.of_body 20 func199 rfl ntmps199 (Xa rfl) ?_
 intro w0 M0 vs hl hv
 obtain ⟨v0,rfl⟩:=Wl hl
 clear hl hv
 refine Ze ?_
 (refine ZB 1 5 fun h1=>?_<;>refine Zw [(.int .i64 0),(.int .i64 0),(.slice none 0 0),(.slice none 0 0),(.slice none 0 0)] 5 2 ZJ fun h2=>?_<;>refine xL 3 Za ?_<;>refine Zi ?_)
 (refine xL 4 (Zd 1 ZQ) ?_<;>(refine yL 5 (Zk 1 Zg) fun v5 h=>?_;cases h)<;>refine xL 6 Yr (xL 7 Zb ?_)<;>(refine bLd 7 (fun hb7=>?_) (fun hb7=>?_)<;>(first|refine kL 8 ?_|refine xL 8 (Zd 1 Zx) ?_))<;>(first|refine kL 9 ?_|(refine yL 9 (Zk 1 ZA) fun v9 h=>?_;cases h))<;>(first|refine kL 10 ?_|refine xL 10 (ZT ZK) ?_)<;>(first|refine kL 11 ?_|refine xL 11 Yr ?_)<;>refine xL 12 ZF ?_<;>refine Zc ?_)<;>(
 refine cX ?_ ?_<;>intro hb12
 · first|exact bN hb12|(
 refine Ze ?_;((refine cP 13 (cA call194 (Ga)) fun va13 vb13 hva13 h=>?_;cases h)<;>refine xL 14 Zj (xL 15 Zj ?_)<;>refine ZE 2 Zh ?_<;>refine xL 3 Za ?_<;>refine Zc ?_)
 exact Z5 (k:=5) 2 kR (results199) rfl rfl rfl (Xa rfl) dC rfl (by rw [UT oM];rfl))
 · first|exact bN hb12|(
 refine Ze ?_;((refine yL 16 (Zu 1 Zh) fun v16 h=>?_;cases h)<;>(refine cP 17 (cA call143 hm) (fun va17 vb17 hva17 hvb17=>?_) (hsh:=r5.t E);cases hvb17)<;>refine xL 18 Zj (xL 19 Zj ?_)<;>refine ZE 2 Zh ?_<;>refine xL 3 Za ?_<;>refine Zc ?_)
 exact Z5 (k:=5) 2 kR (results199) rfl rfl rfl (Xa rfl) dC r5.s (by rw [US oM];rfl)))
theorem LK (a:Aut) (hl:a.moves.length≤1000000):AF prog 199 [ZN a] (· =resW (GD a)):=by
 have h:=Of a hl
 unfold GD
 cases hx:Jd a with
 | ok A=>
   rw [hx] at h;have:=D1 a hl (R5.aut A) h;refine this.mono fun p hp=>?_;rw [hp];split<;>rfl
 | error e=>
   rw [hx] at h;have:=D1 a hl R5.raw h;refine this.mono fun p hp=>?_;rw [hp];split<;>rfl
theorem Zgz (x:Except Int Aut):∃(p0 p1 p2 p3 p4:PV) (E:Int),R5 p0 p1 p2 p3 p4∧resW x= .tup [.agg [p0,p1,p2,p3,p4],pInt E]:=by
 cases x with
 |ok A=>exact ⟨_,_,_,_,_,_,R5.aut A,rfl⟩
 |error e=>exact ⟨_,_,_,_,_,_,R5.raw,rfl⟩
theorem Tu (l:List Mv):(l.flatMap cMv).length=l.length*3:=flat_len Z2 l
theorem ZbC (a b:Aut) (e:Int) (he:¬e=0) (hf:AF prog 196 [ZN a,ZN b] (· =pInt e)):AF prog 146 [ZN a,ZN b] (· = .tup [KL,pInt e]):=by
 refine AF.of_body 62 func146 rfl ntmps146 (Xa rfl) ?_
 intro w0 M0 vs hl hv
 obtain ⟨v0,v1,rfl⟩:=YI hl
 clear hl hv
 refine Ze ?_
 (refine ZB 2 5 fun h2=>?_<;>refine ZB 3 5 fun h3=>?_<;>refine Zw [(.int .i64 0),(.int .i64 0),(.slice none 0 0),(.slice none 0 0),(.slice none 0 0)] 5 4 ZJ fun h4=>?_<;>refine xL 5 Za ?_<;>refine Zi ?_)
 ((refine yL 9 (Zu 2 Zh) fun v9 h=>?_;cases h)<;>(refine yL 10 (Zu 3 Zh) fun v10 h=>?_;cases h)<;>(refine cS 11 (cA call196 (hf)) fun v11 h=>?_;cases h)<;>refine xL 6 Za ?_<;>refine Zi ?_)
 (refine xL 12 Zb (xL 13 Yv ?_)<;>refine Zc ?_)
 refine cX ?_ ?_<;>intro hb13
 · refine Ze ?_;(refine xL 14 (ZL ZV) (xL 15 Zb ?_)<;>refine ZE 4 Zh ?_<;>refine xL 5 Za ?_<;>refine Zc ?_)
   exact Z5 (k:=5) 4 kR (results146) rfl rfl rfl (Xa rfl) dC rfl rfl
 · exact UU (by simpa using hb13) he
set_option maxHeartbeats 2000000 in
theorem Zft (a b:Aut) (hla:a.moves.length≤1000000) (hlb:b.moves.length≤1000000) (hf0:WK a b=0) {p0 p1 p2 p3 p4:PV} {E:Int} (r5:R5 p0 p1 p2 p3 p4) (hr:AF prog 199 [ZN (W6 a b)] (· = .tup [.agg [p0,p1,p2,p3,p4],pInt E])):AF prog 146 [ZN a,ZN b] (· = .tup [.agg [p0,p1,p2,p3,p4],pInt E]):=by
 obtain ⟨o0,o1,o2,o3,o4⟩:=r5.o
 obtain ⟨ha,hb,hs⟩:=Jk hf0
 have hf:=Ge a b hla hlb
 rw [hf0] at hf
 have hn0:=ha.n0
 have hn1:=ha.n1
 have k0:=ha.ml
 have k1:=ha.sl
 have k2:=hb.sl
 have k3:=ha.fl
 have k4:=hb.fl
 have m0:=hb.n0
 have m1:=hb.n1
 have kml:=Rw ha.toAOk hb.toAOk
 have kmb:=hb.ml
 have l1:=KV a.n b.start
 have l2:=KV a.n b.fin
 have l3:=Ld a.n b.moves
 refine AF.of_body 62 func146 rfl ntmps146 (Xa rfl) ?_
 intro w0 M0 vs hl hv
 obtain ⟨v0,v1,rfl⟩:=YI hl
 clear hl hv
 refine Ze ?_
 (refine ZB 2 5 fun h2=>?_<;>refine ZB 3 5 fun h3=>?_<;>refine Zw [(.int .i64 0),(.int .i64 0),(.slice none 0 0),(.slice none 0 0),(.slice none 0 0)] 5 4 ZJ fun h4=>?_<;>refine xL 5 Za ?_<;>refine Zi ?_)
 ((refine yL 9 (Zu 2 Zh) fun v9 h=>?_;cases h)<;>(refine yL 10 (Zu 3 Zh) fun v10 h=>?_;cases h)<;>(refine cS 11 (cA call196 (hf)) fun v11 h=>?_;cases h)<;>refine xL 6 Za ?_<;>refine Zi ?_)
 (refine xL 12 Zb (xL 13 Yv ?_)<;>refine Zc ?_)
 refine cX ?_ ?_<;>intro hb13
 · first|omega|exact UU rfl hb13|exact bN hb13
 · refine Ze ?_;(refine xL 16 (Zd 2 ZQ) ?_<;>(refine yL 17 (Zk 2 Zg) fun v17 h=>?_;cases h)<;>refine xL 7 Za ?_<;>refine Zi ?_)
   (refine xL 18 Zb (xL 19 (Zd 3 ZQ) ?_)<;>(refine yL 20 (Zk 3 Zg) fun v20 h=>?_;cases h)<;>refine xL 21 ZG (xL 22 (Zd 2 Z3) ?_)<;>(refine yL 23 (Zk 2 Zg) fun v23 h=>?_;cases h)<;>refine xL 24 (ZL ZV) ?_<;>refine Zw [(.int .i64 0),(.int .i64 0),(.slice none 0 0),(.slice none 0 0),(.slice none 0 0)] 5 8 ZJ fun h8=>?_<;>refine ZE 8 Zh ?_<;>refine Zc ?_)
   refine Zq (W1 (l:=8) [pInt (a.n+b.n),pInt a.syms, .own 3 1 0 [], .own 3 1 0 [], .own 93 3 0 []] rfl rfl (fun i p p' h1 h2=>by
    match i with
    |0=>cases h1;cases h2;exact .inl rfl
    |1=>cases h1;cases h2;exact .inl rfl
    |2=>cases h1;cases h2;exact .inr ⟨rfl,_,_,rfl⟩
    |3=>cases h1;cases h2;exact .inr ⟨rfl,_,_,rfl⟩
    |4=>cases h1;cases h2;exact .inr ⟨rfl,_,_,rfl⟩
    |i+5=>simp at h2)) fun _=>?_
   refine Zq (Ww (l:=8) (l':=301) (j:=2) rfl rfl rfl rfl) fun i=>?_;obtain ⟨v301,ho301⟩:=i;dsimp only [List.set];refine Zq (Ww (l:=8) (l':=302) (j:=3) rfl rfl rfl rfl) fun i=>?_;obtain ⟨v302,ho302⟩:=i;dsimp only [List.set];refine Zq (Ww (l:=8) (l':=303) (j:=4) rfl rfl rfl rfl) fun i=>?_;obtain ⟨v303,ho303⟩:=i;dsimp only [List.set];(refine ZZ (fun i=>([11]:List Nat).elem i) [2,3,8] kR ?_<;>refine xD 0 25 rfl (Zd 8 Z1) ?_<;>(refine yD 1 26 rfl (Zk 8 Zy) fun v26 h=>?_;cases h)<;>refine xD 2 27 rfl (Zd 2 Z1) ?_<;>(refine yD 3 28 rfl (Zk 2 Zy) fun v28 h=>?_;cases h)<;>refine xD 5 30 rfl (Zd 3 Z1) ?_<;>(refine yD 6 31 rfl (Zk 3 Zy) fun v31 h=>?_;cases h)<;>refine xD 7 32 rfl Zb ?_<;>(refine Zr 4 kR ?_)<;>(refine Zo rfl fun w9 M9 N9 DQ back=>?_)<;>refine Kf 301 29 Zn (fun h29 ho29=>?_) (JE a.start) (Gw a.start)<;>refine Zl (back _ (nrm ?_))<;>(refine Zr 8 kR ?_)<;>(refine Zo rfl fun w9 M9 N9 DQ back=>?_)<;>(refine cO 33 (cA call197 (T1 b.start a.n oM oM (fun x hx=>by have:=hb.st x hx;omega))) fun v33 ho33=>?_;refine Zs (En.freeze (l:=33) (t:=33) rfl rfl) fun _=>?_;rw [ZS _ _ _ rfl])<;>refine Zl (back _ (nrm ?_))<;>(refine Zr 9 kR ?_)<;>(refine Zo rfl fun w9 M9 N9 DQ back=>?_)<;>(refine Kf 29 34 Zn (fun h34 ho34=>?_) (JE (YV a.n b.start)) (Gw (YV a.n b.start));have q34:En.one (PV.val h34)=true:=ho34)<;>refine Zl (back _ (nrm ?_))<;>refine xE 10 35 rfl (Zd 8 Z1) ?_<;>(refine Zr 11 kR ?_)<;>(refine Kr rfl rfl kR fun DQ back=>?_)<;>refine YL 8 Zy We ?_<;>refine Zl (back _ (nav ?_))<;>try dsimp only)
   refine Zq (ZH (l:=34) (p':= .own 3 1 (a.start++YV a.n b.start).length ((a.start++YV a.n b.start).map pInt)) rfl (by (try rw [Xv]);(try rw [X3]);exact Ts _ a.start (YV a.n b.start))) fun _=>?_;refine Zq (Z6 (l:=8) (l':=34) (j:=2) rfl rfl rfl rfl) fun _=>?_;rw [ZS _ _ _ rfl];(refine ZZ (fun i=>([11]:List Nat).elem i) [2,3,8] kR ?_<;>refine xD 0 36 rfl (Zd 8 Z0) ?_<;>(refine yD 1 37 rfl (Zk 8 Zy) fun v37 h=>?_;cases h)<;>refine xD 2 38 rfl (Zd 2 Z0) ?_<;>(refine yD 3 39 rfl (Zk 2 Zy) fun v39 h=>?_;cases h)<;>refine xD 5 41 rfl (Zd 3 Z0) ?_<;>(refine yD 6 42 rfl (Zk 3 Zy) fun v42 h=>?_;cases h)<;>refine xD 7 43 rfl Zb ?_<;>(refine Zr 4 kR ?_)<;>(refine Zo rfl fun w9 M9 N9 DQ back=>?_)<;>refine Kf 302 40 Zn (fun h40 ho40=>?_) (JE a.fin) (Gw a.fin)<;>refine Zl (back _ (nrm ?_))<;>(refine Zr 8 kR ?_)<;>(refine Zo rfl fun w9 M9 N9 DQ back=>?_)<;>(refine cO 44 (cA call197 (T1 b.fin a.n oM oM (fun x hx=>by have:=hb.fi x hx;omega))) fun v44 ho44=>?_;refine Zs (En.freeze (l:=44) (t:=44) rfl rfl) fun _=>?_;rw [ZS _ _ _ rfl])<;>refine Zl (back _ (nrm ?_))<;>(refine Zr 9 kR ?_)<;>(refine Zo rfl fun w9 M9 N9 DQ back=>?_)<;>(refine Kf 40 45 Zn (fun h45 ho45=>?_) (JE (YV a.n b.fin)) (Gw (YV a.n b.fin));have q45:En.one (PV.val h45)=true:=ho45)<;>refine Zl (back _ (nrm ?_))<;>refine xE 10 46 rfl (Zd 8 Z0) ?_<;>(refine Zr 11 kR ?_)<;>(refine Kr rfl rfl kR fun DQ back=>?_)<;>refine YL 8 Zy We ?_<;>refine Zl (back _ (nav ?_))<;>try dsimp only)
   refine Zq (ZH (l:=45) (p':= .own 3 1 (a.fin++YV a.n b.fin).length ((a.fin++YV a.n b.fin).map pInt)) rfl (by (try rw [Xv]);(try rw [X3]);exact Ts _ a.fin (YV a.n b.fin))) fun _=>?_;refine Zq (Z6 (l:=8) (l':=45) (j:=3) rfl rfl rfl rfl) fun _=>?_;rw [ZS _ _ _ rfl];(refine ZZ (fun i=>([11]:List Nat).elem i) [2,3,8] kR ?_<;>refine xD 0 47 rfl (Zd 8 Zx) ?_<;>(refine yD 1 48 rfl (Zk 8 ZA) fun v48 h=>?_;cases h)<;>refine xD 2 49 rfl (Zd 2 Zx) ?_<;>(refine yD 3 50 rfl (Zk 2 ZA) fun v50 h=>?_;cases h)<;>refine xD 5 52 rfl (Zd 3 Zx) ?_<;>(refine yD 6 53 rfl (Zk 3 ZA) fun v53 h=>?_;cases h)<;>refine xD 7 54 rfl Zb ?_<;>(refine Zr 4 kR ?_)<;>(refine Zo rfl fun w9 M9 N9 DQ back=>?_)<;>refine Kf 303 51 ZU (fun h51 ho51=>?_) (Tu a.moves) (LC a.moves)<;>refine Zl (back _ (nrm ?_))<;>(refine Zr 8 kR ?_)<;>(refine Zo rfl fun w9 M9 N9 DQ back=>?_)<;>(refine cO 55 (cA call198 (Cn b a.n hb.toAOk oM)) fun v55 ho55=>?_;refine Zs (En.freeze (l:=55) (t:=55) rfl rfl) fun _=>?_;rw [Km _ _ _ rfl])<;>refine Zl (back _ (nrm ?_))<;>(refine Zr 9 kR ?_)<;>(refine Zo rfl fun w9 M9 N9 DQ back=>?_)<;>(refine Kf 51 56 ZU (fun h56 ho56=>?_) (Tu (KM a.n b.moves)) (LC (KM a.n b.moves));have q56:En.one (PV.val h56)=true:=ho56)<;>refine Zl (back _ (nrm ?_))<;>refine xE 10 57 rfl (Zd 8 Zx) ?_<;>(refine Zr 11 kR ?_)<;>(refine Kr rfl rfl kR fun DQ back=>?_)<;>refine YL 8 ZA YA ?_<;>refine Zl (back _ (nav ?_))<;>try dsimp only)
   refine Zq (ZH (l:=56) (p':= .own 93 3 (bsM a b).length ((bsM a b).flatMap cMv)) rfl (by (try rw [Xv]);(try rw [X3]);rw [←XN,←Xb];rfl)) fun _=>?_;refine Zq (Z6 (l:=8) (l':=56) (j:=4) rfl rfl rfl rfl) fun _=>?_;rw [Km _ _ _ rfl];(refine Zv ?_<;>(refine yL 58 (Zu 8 Zh) fun v58 h=>?_;cases h)<;>(refine cP 59 (cA call199 hr) (fun va59 vb59 hva59 hvb59=>?_) (hsh:=r5.t E);cases hvb59)<;>refine xL 60 Zj (xL 61 Zj ?_)<;>refine ZE 4 Zh ?_<;>refine xL 5 Za ?_<;>refine Zc ?_)
   exact Z5 (k:=5) 4 kR (results146) rfl rfl rfl (Xa rfl) dC r5.s rfl
theorem Zfu (a b:Aut) (hla:a.moves.length≤1000000) (hlb:b.moves.length≤1000000):AF prog 146 [ZN a,ZN b] (· =resW (J9 a b)):=by
 unfold J9
 by_cases h0:WK a b=0
 · rw [US (fun h=>h h0)];obtain ⟨ha,hb,hs⟩:=Jk h0;have hr:=LK (W6 a b) (by have:=Rw ha.toAOk hb.toAOk;show (bsM a b).length≤1000000;omega);rw [Zfd ha hb hs];obtain ⟨p0,p1,p2,p3,p4,E,h5,h2⟩:=Zgz (GD (W6 a b));rw [h2] at hr ⊢;exact Zft a b hla hlb h0 h5 hr
 · rw [UT h0];exact ZbC a b _ h0 (Ge a b hla hlb)
theorem ZdY (a:Aut) (hla:a.moves.length≤1000000) (hv:Z4 a=false):AF prog 145 [ZN a] (· = .tup [KL,pInt 1]):=by
 refine AF.of_body 70 func145 rfl ntmps145 (Xa rfl) ?_
 intro w0 M0 vs hl hv
 obtain ⟨v0,rfl⟩:=Wl hl
 clear hl hv
 refine Ze ?_
 (refine ZB 1 5 fun h1=>?_<;>refine Zw [(.int .i64 0),(.int .i64 0),(.slice none 0 0),(.slice none 0 0),(.slice none 0 0)] 5 2 ZJ fun h2=>?_<;>refine xL 3 Za ?_<;>refine Zi ?_)
 ((refine yL 8 (Zu 1 Zh) fun v8 h=>?_;cases h)<;>(refine cS 9 (cA call192 (YU a hla)) fun v9 h=>?_;cases h)<;>refine xL 10 Ya ?_<;>refine Zc ?_)
 refine cX ?_ ?_<;>intro hb10
 · refine Ze ?_;(refine xL 11 (ZL ZV) ?_<;>refine ZE 2 Zh ?_<;>refine xL 3 Za ?_<;>refine Zc ?_)
   exact Z5 (k:=5) 2 kR (results145) rfl rfl rfl (Xa rfl) dC rfl rfl
 · rw [hv] at hb10;simp at hb10
set_option maxHeartbeats 2000000 in
theorem Zh6 (a:Aut) (hla:a.moves.length≤1000000) (hv:Z4 a=true) {p0 p1 p2 p3 p4:PV} {E:Int} (r5:R5 p0 p1 p2 p3 p4) (hr:AF prog 199 [ZN (mkA (KU a))] (· = .tup [.agg [p0,p1,p2,p3,p4],pInt E])):AF prog 145 [ZN a] (· = .tup [.agg [p0,p1,p2,p3,p4],pInt E]):=by
 obtain ⟨o0,o1,o2,o3,o4⟩:=r5.o
 have h:=WV hv
 have hn0:=h.n0
 have hn1:=h.n1
 have hml:=h.ml
 have hsl:=h.sl
 have hfl:=h.fl
 refine AF.of_body 70 func145 rfl ntmps145 (Xa rfl) ?_
 intro w0 M0 vs hl hv
 obtain ⟨v0,rfl⟩:=Wl hl
 clear hl hv
 refine Ze ?_
 (refine ZB 1 5 fun h1=>?_<;>refine Zw [(.int .i64 0),(.int .i64 0),(.slice none 0 0),(.slice none 0 0),(.slice none 0 0)] 5 2 ZJ fun h2=>?_<;>refine xL 3 Za ?_<;>refine Zi ?_)
 ((refine yL 8 (Zu 1 Zh) fun v8 h=>?_;cases h)<;>(refine cS 9 (cA call192 (YU a hla)) fun v9 h=>?_;cases h)<;>refine xL 10 Ya ?_<;>refine Zc ?_)
 refine cX ?_ ?_<;>intro hb10
 · rw [hv] at hb10;simp at hb10
 · refine Ze ?_;(refine xL 12 (Zd 1 ZQ) ?_<;>(refine yL 13 (Zk 1 Zg) fun v13 h=>?_;cases h)<;>refine xL 4 Za ?_<;>refine Zi ?_)
   (refine xL 14 Zb (xL 15 ZG (xL 16 (Zd 1 Z3) ?_))<;>(refine yL 17 (Zk 1 Zg) fun v17 h=>?_;cases h)<;>refine xL 18 Zb ?_<;>(refine ZO (kk:=1) 19 Zn fun h19 ho19=>?_;refine Zs (En.freeze (l:=19) (t:=19) rfl rfl) fun _=>?_;rw [show share (PV.own 3 1 1 [PV.val (.int .i64 a.n)])=pInts [a.n] from rfl])<;>refine xL 20 Zb ?_<;>(refine ZO (kk:=1) 21 Zn fun h21 ho21=>?_;refine Zs (En.freeze (l:=21) (t:=21) rfl rfl) fun _=>?_;rw [show share (PV.own 3 1 1 [PV.val (.int .i64 a.n)])=pInts [a.n] from rfl])<;>refine xL 22 (ZL ZV) ?_<;>refine Zw [(.int .i64 0),(.int .i64 0),(.slice none 0 0),(.slice none 0 0),(.slice none 0 0)] 5 5 ZJ fun h5=>?_<;>refine ZE 5 Zh ?_<;>refine Zc ?_)
   refine Zq (W1 (l:=5) [pInt (a.n+1),pInt a.syms,pInts [a.n],pInts [a.n], .own 93 3 0 []] rfl rfl (fun i p p' h1 h2=>by
    match i with
    |0=>cases h1;cases h2;exact .inl rfl
    |1=>cases h1;cases h2;exact .inl rfl
    |2=>cases h1;cases h2;exact .inl rfl
    |3=>cases h1;cases h2;exact .inl rfl
    |4=>cases h1;cases h2;exact .inr ⟨rfl,_,_,rfl⟩
    |i+5=>simp at h2)) fun _=>?_
   refine Zq (Ww (l:=5) (l':=301) (j:=4) rfl rfl rfl rfl) fun i=>?_;obtain ⟨v301,ho301⟩:=i;dsimp only [List.set];(refine Zv ?_<;>refine xL 23 (Zd 5 Zx) ?_<;>(refine yL 24 (Zk 5 ZA) fun v24 h=>?_;cases h)<;>refine xL 25 (Zd 1 Zx) ?_<;>(refine yL 26 (Zk 1 ZA) fun v26 h=>?_;cases h)<;>(refine Kf 301 27 ZU (fun h27 ho27=>?_) (Tu a.moves) (LC a.moves);have q27:En.one (PV.val h27)=true:=ho27)<;>refine xL 28 (Zd 5 Zx) ?_<;>refine YL 5 ZA YA ?_<;>refine Zc ?_)
   refine Zq (ZC (l:=27) 301 rfl rfl) fun _=>?_;refine Zq (ZH (l:=301) (p':= .own 93 3 (a.moves++Kz a.n (a.start.take 0)).length ((a.moves++Kz a.n (a.start.take 0)).flatMap cMv)) rfl (by (try rw [Xv]);(try rw [X3]);rw [show Kz a.n (a.start.take 0)=[] from rfl,Xr])) fun _=>?_;(refine Zv ?_<;>refine xL 6 Za ?_<;>refine Zc ?_)
   refine ZD (ι:={q:Nat×Value//q.1≤a.start.length∧q.2.oneCell'=true}) (fun k=>⟨[(1,_,_),(2,_,_),(4,_,_),(5,_,_),(6, .int .i64 k.1.1,pInt k.1.1)],[(1,_,_),(2,_,_),(5,h5, .own 39 5 1 [pInt (a.n+1),pInt a.syms,pInts [a.n],pInts [a.n], .val k.1.2]),(301,k.1.2, .own 93 3 (a.moves++Kz a.n (a.start.take k.1.1)).length ((a.moves++Kz a.n (a.start.take k.1.1)).flatMap cMv))]⟩) (fun k=>a.start.length-k.1.1) ⟨(0,h27),Xd _,ho27⟩ (fun a w H=>H.weaken ⟨rfl,rfl,rfl,rfl,rfl,trivial⟩ ⟨rfl,rfl,rfl,rfl,trivial⟩) ?_;rintro ⟨⟨k,hM⟩,hk,hMo⟩;dsimp only;dsimp only at hk hMo;have hl1:(a.moves++Kz a.n (a.start.take k)).length≤30000:=by unfold Kz;rw [Xb,Xe,Xo];omega
   have q5:En.one (PV.val hM)=true:=hMo;refine Ze ?_;(refine xL 29 Zb (xL 30 (Zd 1 Z1) ?_)<;>(refine yL 31 (Zk 1 Zy) fun v31 h=>?_;cases h)<;>refine xL 32 (ZT Zp) (xL 33 ZP ?_)<;>refine Zc ?_)
   refine cX ?_ ?_<;>intro hb33
   · first|exact bN hb33|(
 obtain ⟨x,hx⟩:=Zt (show k<a.start.length by omega);have e1:=Z7 (f:=pInt) hx;refine nav ?_;(refine ZZ (fun i=>([12]:List Nat).elem i) [1,5] kR ?_<;>refine xD 0 36 rfl (Zd 5 Zx) ?_<;>(refine yD 1 37 rfl (Zk 5 ZA) fun v37 h=>?_;cases h)<;>refine xD 2 38 rfl Zb ?_<;>refine xD 3 39 rfl (Zd 1 Z1) ?_<;>(refine yD 4 40 rfl (Zk 1 Zy) fun v40 h=>?_;cases h)<;>refine xE 5 41 rfl Zb ?_<;>refine xE 6 42 rfl (ZI Zp) ?_<;>(refine yE 7 43 rfl (Z9 Zg) fun v43 h=>?_;cases h)<;>refine xE 8 44 rfl (ZL YW) ?_<;>(refine Zr 9 kR ?_)<;>(refine Zo rfl fun w9 M9 N9 DQ back=>?_)<;>refine YB 45 ZU fun h45 ho45=>?_<;>refine Zl (back _ (nrm ?_))<;>(refine Zr 10 kR ?_)<;>(refine Zo rfl fun w9 M9 N9 DQ back=>?_)<;>(refine ZW 301 45 46 ZU fun h46 ho46=>?_;refine Zs (ZC (l:=46) 301 rfl rfl) fun _=>?_;refine Zs (ZH (l:=301) rfl ((WR _ (a.moves++Kz a.n (a.start.take k)) ⟨a.n,x,-1⟩).trans (by rw [Xy,←ζ6 a.n hx]))) fun _=>?_;have q46:En.one (PV.val h46)=true:=ho46)<;>refine Zl (back _ (nrm ?_))<;>refine xE 11 47 rfl (Zd 5 Zx) ?_<;>(refine Zr 12 kR ?_)<;>(refine Kr rfl rfl kR fun DQ back=>?_)<;>refine YL 5 ZA YA ?_<;>refine Zl (back _ (nav ?_))<;>try dsimp only)
 (refine Zv ?_<;>refine xL 34 Zb (xL 35 ZG (xL 6 Za ?_))<;>refine Zc ?_)
 refine Zm (
  ⟨(k+1,h46),Zf hx,ho46⟩
  ) (by dsimp only;omega) ⟨rfl,rfl,rfl,rfl,rfl,trivial⟩ ⟨rfl,rfl,rfl,rfl,trivial⟩)
   · first |exact bN hb33|(
 rw [Xj (show a.start.length≤k by omega)];refine nav ?_;refine Zq (Z6 (l:=5) (l':=301) (j:=4) rfl rfl rfl rfl) fun _=>?_;rw [Km _ _ _ rfl];refine Zq (ZH (l:=5) (p':= .own 39 5 1 [pInt (a.n+1),pInt a.syms,pInts [a.n],pInts [a.n],pMvs (mkM (a.moves++Kz a.n a.start++Sb a.n (a.fin.take 0)))]) rfl (by rw [show Sb a.n (a.fin.take 0)=[] from rfl,Xr,show mkM (a.moves++Kz a.n a.start)=a.moves++Kz a.n a.start from Zfc (Zj0 h)];rfl)) fun _=>?_;(refine Zv ?_<;>refine xL 7 Za ?_<;>refine Zc ?_)
 refine ZD (ι:={k:Nat//k≤a.fin.length}) (fun k=>⟨[(1,_,_),(2,_,_),(4,_,_),(5,_,_),(7, .int .i64 k.1,pInt k.1)],[(1,_,_),(2,_,_),(5,h5, .own 39 5 1 [pInt (a.n+1),pInt a.syms,pInts [a.n],pInts [a.n],pMvs (mkM (a.moves++Kz a.n a.start++Sb a.n (a.fin.take k.1)))])]⟩) (fun k=>a.fin.length-k.1) ⟨0,Xd _⟩ (fun a w H=>H.weaken ⟨rfl,rfl,rfl,rfl,rfl,trivial⟩ ⟨rfl,rfl,rfl,trivial⟩) ?_;rintro ⟨j,hj⟩;dsimp only;refine Ze ?_;(refine xL 48 Zb (xL 49 (Zd 1 Z0) ?_)<;>(refine yL 50 (Zk 1 Zy) fun v50 h=>?_;cases h)<;>refine xL 51 (ZT Zp) (xL 52 ZP ?_)<;>refine Zc ?_)
 refine cX ?_ ?_<;>intro hb52
 · first|exact bN hb52|(
 obtain ⟨y,hy⟩:=Zt (show j<a.fin.length by omega);have e1:=Z7 (f:=pInt) hy;have hins:AF prog 133 [pMvs (mkM (a.moves++Kz a.n a.start++Sb a.n (a.fin.take j))), .agg (cMv ⟨y,a.n,-1⟩)] (· =pMvs (mkM (a.moves++Kz a.n a.start++Sb a.n (a.fin.take (j+1))))):=by
  have h1:=Gy (mkM (a.moves++Kz a.n a.start++Sb a.n (a.fin.take j))) ⟨y,a.n,-1⟩ (XL (Gi _) (by unfold Kz Sb;rw [Xb,Xb,Xe,Xe,Xo];omega)) (Kc _);rw [Zbh,Xy (a.moves++Kz a.n a.start),←ζ7 a.n hy] at h1;exact h1
 refine nav ?_;(refine ZZ (fun i=>([11]:List Nat).elem i) [1,5] kR ?_<;>refine xD 0 55 rfl (Zd 5 Zx) ?_<;>(refine yD 1 56 rfl (Zk 5 ZA) fun v56 h=>?_;cases h)<;>refine xD 2 57 rfl (Zd 1 Z0) ?_<;>(refine yD 3 58 rfl (Zk 1 Zy) fun v58 h=>?_;cases h)<;>refine xD 4 59 rfl Zb ?_<;>refine xD 5 60 rfl (ZI Zp) ?_<;>(refine yD 6 61 rfl (Z9 Zg) fun v61 h=>?_;cases h)<;>refine xE 7 62 rfl Zb ?_<;>refine xE 8 63 rfl (ZL YW) ?_<;>(refine Zr 9 kR ?_)<;>(refine Zo rfl fun w9 M9 N9 DQ back=>?_)<;>(refine cS 64 (cA call133 (hins)) fun v64 h=>?_;cases h)<;>refine Zl (back _ (nrm ?_))<;>refine xE 10 65 rfl (Zd 5 Zx) ?_<;>(refine Zr 11 kR ?_)<;>(refine Kr rfl rfl kR fun DQ back=>?_)<;>refine YL 5 ZA YA ?_<;>refine Zl (back _ (nav ?_))<;>try dsimp only)
 (refine Zv ?_<;>refine xL 53 Zb (xL 54 ZG (xL 7 Za ?_))<;>refine Zc ?_)
 refine Zm (
  ⟨j+1,Zf hy⟩
  ) (by dsimp only;omega) ⟨rfl,rfl,rfl,rfl,rfl,trivial⟩ ⟨rfl,rfl,rfl,trivial⟩)
 · first|exact bN hb52|(
 rw [Xj (show a.fin.length≤j by omega)];refine Ze ?_;((refine yL 66 (Zu 5 Zh) fun v66 h=>?_;cases h)<;>(refine cP 67 (cA call199 hr) (fun va67 vb67 hva67 hvb67=>?_) (hsh:=r5.t E);cases hvb67)<;>refine xL 68 Zj (xL 69 Zj ?_)<;>refine ZE 2 Zh ?_<;>refine xL 3 Za ?_<;>refine Zc ?_)
 exact Z5 (k:=5) 2 kR (results145) rfl rfl rfl (Xa rfl) dC r5.s rfl))
theorem Zh7 (a:Aut) (hla:a.moves.length≤1000000):AF prog 145 [ZN a] (· =resW (JC a)):=by
 unfold JC
 cases hv:Z4 a with
 |false=>rw [US sM];exact ZdY a hla hv
 | true=>
   rw [UT rfl];have h:=WV hv;have hr:=LK (mkA (KU a)) (XL (Gi _) (Cf h.toAOk));rw [ZhF h];obtain ⟨p0,p1,p2,p3,p4,E,h5,h2⟩:=Zgz (GD (mkA (KU a)));rw [h2] at hr ⊢;exact Zh6 a hla hv h5 hr
theorem CQ (a b:Aut) (e:Int) (he:¬e=0) (hf:AF prog 196 [ZN a,ZN b] (· =pInt e)):AF prog 144 [ZN a,ZN b] (· = .tup [KL,pInt e]):=by
 refine AF.of_body 103 func144 rfl ntmps144 (Xa rfl) ?_
 intro w0 M0 vs hl hv
 obtain ⟨v0,v1,rfl⟩:=YI hl
 clear hl hv
 refine Ze ?_
 (refine ZB 2 5 fun h2=>?_<;>refine ZB 3 5 fun h3=>?_<;>refine Zw [(.int .i64 0),(.int .i64 0),(.slice none 0 0),(.slice none 0 0),(.slice none 0 0)] 5 4 ZJ fun h4=>?_<;>refine xL 5 Za ?_<;>refine Zi ?_)
 ((refine yL 11 (Zu 2 Zh) fun v11 h=>?_;cases h)<;>(refine yL 12 (Zu 3 Zh) fun v12 h=>?_;cases h)<;>(refine cS 13 (cA call196 (hf)) fun v13 h=>?_;cases h)<;>refine xL 6 Za ?_<;>refine Zi ?_)
 (refine xL 14 Zb (xL 15 Yv ?_)<;>refine Zc ?_)
 refine cX ?_ ?_<;>intro hb15
 · refine Ze ?_;(refine xL 16 (ZL ZV) (xL 17 Zb ?_)<;>refine ZE 4 Zh ?_<;>refine xL 5 Za ?_<;>refine Zc ?_)
   exact Z5 (k:=5) 4 kR (results144) rfl rfl rfl (Xa rfl) dC rfl rfl
 · exact UU (by simpa using hb15) he
set_option maxHeartbeats 4000000 in
theorem ZdZ (a b :Aut) (hla:a.moves.length≤1000000) (hlb:b.moves.length≤1000000) (hf0:WK a b=0) {p0 p1 p2 p3 p4:PV} {E:Int} (r5:R5 p0 p1 p2 p3 p4) (hr:(Kp a b).moves.length≤20000→AF prog 199 [ZN (mkA (Kp a b))] (· = .tup [.agg [p0,p1,p2,p3,p4],pInt E])):AF prog 144 [ZN a,ZN b] (· =if 2000<a.n+b.n∨20000<(Kp a b).moves.length then .tup [KL,pInt 13] else .tup [.agg [p0,p1,p2,p3,p4],pInt E]):=by
 obtain ⟨o0,o1,o2,o3,o4⟩:=r5.o
 obtain ⟨ha,hb,hs⟩:=Jk hf0
 have hf:=Ge a b hla hlb
 rw [hf0] at hf
 have hn0:=ha.n0
 have hn1:=ha.n1
 have k0:=ha.ml
 have k1:=ha.sl
 have k2:=hb.sl
 have k3:=ha.fl
 have k4:=hb.fl
 have m0:=hb.n0
 have m1:=hb.n1
 have kml:=Rw ha.toAOk hb.toAOk
 have kmb:=hb.ml
 have l2:=KV a.n b.fin
 have l3:=Ld a.n b.moves
 have hFS:a.fin.length*b.start.length≤2000*2000:=VI k3 k2
 have hFI:((a.fin.length*b.start.length:Nat):Int)=(a.fin.length:Int)*(b.start.length:Int):=VC _ _
 have hcl:=Og a b
 refine AF.of_body 103 func144 rfl ntmps144 (Xa rfl) ?_
 intro w0 M0 vs hl hv
 obtain ⟨v0,v1,rfl⟩:=YI hl
 clear hl hv
 refine Ze ?_
 (refine ZB 2 5 fun h2=>?_<;>refine ZB 3 5 fun h3=>?_<;>refine Zw [(.int .i64 0),(.int .i64 0),(.slice none 0 0),(.slice none 0 0),(.slice none 0 0)] 5 4 ZJ fun h4=>?_<;>refine xL 5 Za ?_<;>refine Zi ?_)
 ((refine yL 11 (Zu 2 Zh) fun v11 h=>?_;cases h)<;>(refine yL 12 (Zu 3 Zh) fun v12 h=>?_;cases h)<;>(refine cS 13 (cA call196 (hf)) fun v13 h=>?_;cases h)<;>refine xL 6 Za ?_<;>refine Zi ?_)
 (refine xL 14 Zb (xL 15 Yv ?_)<;>refine Zc ?_)
 refine cX ?_ ?_<;>intro hb15
 · first|omega|exact UU rfl hb15|exact bN hb15
 · refine Ze ?_;(refine xL 18 (Zd 2 ZQ) ?_<;>(refine yL 19 (Zk 2 Zg) fun v19 h=>?_;cases h)<;>refine xL 7 Za ?_<;>refine Zc ?_)
   refine OI (fun h8:Value=>⟨[(2,padd (sbase h2) 0, .val (padd (sbase h2) 0)),(3,padd (sbase h3) 0, .val (padd (sbase h3) 0)),(4,padd (sbase h4) 0, .val (padd (sbase h4) 0)),(7, .int .i64 a.n,pInt a.n),(8,padd (sbase h8) 0, .val (padd (sbase h8) 0))],[(2,h2, .own 39 5 1 [pInt a.n,pInt a.syms,pInts a.start,pInts a.fin,pMvs a.moves]),(3,h3, .own 39 5 1 [pInt b.n,pInt b.syms,pInts b.start,pInts b.fin,pMvs b.moves]),(4,h4, .own 39 5 1 [pInt 0,pInt 0, .val (.slice none 0 0), .val (.slice none 0 0), .val (.slice none 0 0)]),(8,h8, .own 39 5 1 [pInt (a.n+b.n),pInt a.syms,pInts a.start,pInts (YV a.n b.fin), .val (.slice none 0 0)])]⟩) ?_ ?_
   · (refine ZZ (fun i=>([]:List Nat).elem i) [2,3] kR ?_<;>refine xD 0 20 rfl Zb ?_<;>refine xD 1 21 rfl (Zd 3 ZQ) ?_<;>(refine yD 2 22 rfl (Zk 3 Zg) fun v22 h=>?_;cases h)<;>refine xD 3 23 rfl ZG ?_<;>refine xD 4 24 rfl (Zd 2 Z3) ?_<;>(refine yD 5 25 rfl (Zk 2 Zg) fun v25 h=>?_;cases h)<;>refine xD 6 26 rfl (Zd 2 Z1) ?_<;>(refine yD 7 27 rfl (Zk 2 Zy) fun v27 h=>?_;cases h)<;>refine xD 8 28 rfl (Zd 3 Z0) ?_<;>(refine yD 9 29 rfl (Zk 3 Zy) fun v29 h=>?_;cases h)<;>refine xD 10 30 rfl Zb ?_<;>(refine Y' 11 13 kR ?_ ?_;rotate_right;(focus ((refine Zo rfl fun w9 M9 N9 DQ back=>?_)<;>refine Zw [(.int .i64 0),(.int .i64 0),(.slice none 0 0),(.slice none 0 0),(.slice none 0 0)] 5 8 ZJ fun h8=>?_<;>refine Zl (back _ (nrm ?_))<;>(refine Zr 11 kR ?_)<;>(refine Zo rfl fun w9 M9 N9 DQ back=>?_)<;>(refine cO 31 (cA call197 (T1 b.fin a.n oM oM (fun x hx=>by have:=hb.fi x hx;omega))) fun v31 ho31=>?_;refine Zs (En.freeze (l:=31) (t:=31) rfl rfl) fun _=>?_;rw [ZS _ _ _ rfl])<;>refine Zl (back _ (nrm ?_))<;>refine xE 12 32 rfl (ZL ZV) ?_<;>(refine Zr 14 kR ?_)<;>(refine Zo rfl fun w9 M9 N9 DQ back=>?_)<;>refine ZE 8 Zh ?_<;>refine Zl (back _ (nrm ?_))));rotate_right;(focus ((refine Zo rfl fun w9 M9 N9 DQ back=>?_)<;>(refine cO 31 (cA call197 (T1 b.fin a.n oM oM (fun x hx=>by have:=hb.fi x hx;omega))) fun v31 ho31=>?_;refine Zs (En.freeze (l:=31) (t:=31) rfl rfl) fun _=>?_;rw [ZS _ _ _ rfl])<;>refine Zl (back _ (nrm ?_))<;>refine xD 12 32 rfl (ZL ZV) ?_<;>(refine Zr 13 kR ?_)<;>(refine Zo rfl fun w9 M9 N9 DQ back=>?_)<;>refine Zw [(.int .i64 0),(.int .i64 0),(.slice none 0 0),(.slice none 0 0),(.slice none 0 0)] 5 8 ZJ fun h8=>?_<;>refine Zl (back _ (nrm ?_))<;>(refine Zr 14 kR ?_)<;>(refine Zo rfl fun w9 M9 N9 DQ back=>?_)<;>refine ZE 8 Zh ?_<;>refine Zl (back _ (nrm ?_)))))<;>refine Yw kR (nav ?_)<;>try dsimp only)<;>(
 exact WP _ ⟨rfl,rfl,rfl,rfl,rfl,trivial⟩ ⟨rfl,rfl,rfl,rfl,trivial⟩)
   · rintro h8;skip
     refine Ze ?_;(refine xL 33 (Zd 8 ZQ) ?_<;>(refine yL 34 (Zk 8 Zg) fun v34 h=>?_;cases h)<;>refine xL 35 Yr (xL 36 Zb ?_)<;>(refine bLd 36 (fun hb36=>?_) (fun hb36=>?_)<;>(first|refine kL 37 ?_|refine xL 37 (Zd 2 Zx) ?_))<;>(first|refine kL 38 ?_|(refine yL 38 (Zk 2 ZA) fun v38 h=>?_;cases h))<;>(first|refine kL 39 ?_|refine xL 39 (ZT ZK) ?_)<;>(first|refine kL 40 ?_|refine xL 40 (Zd 3 Zx) ?_)<;>(first|refine kL 41 ?_|(refine yL 41 (Zk 3 ZA) fun v41 h=>?_;cases h))<;>(first|refine kL 42 ?_|refine xL 42 (ZT ZK) ?_)<;>(first|refine kL 43 ?_|refine xL 43 ZG ?_)<;>(first|refine kL 44 ?_|refine xL 44 (Zd 2 Z0) ?_)<;>(first|refine kL 45 ?_|(refine yL 45 (Zk 2 Zy) fun v45 h=>?_;cases h))<;>(first|refine kL 46 ?_|refine xL 46 (ZT Zp) ?_)<;>(first|refine kL 47 ?_|refine xL 47 (Zd 3 Z1) ?_)<;>(first|refine kL 48 ?_|(refine yL 48 (Zk 3 Zy) fun v48 h=>?_;cases h))<;>(first|refine kL 49 ?_|refine xL 49 (ZT Zp) ?_)<;>(first|refine kL 50 ?_|refine xL 50 Jr ?_)<;>(first|refine kL 51 ?_|refine xL 51 ZG ?_)<;>(first|refine kL 52 ?_|refine xL 52 Yr ?_)<;>refine xL 53 ZF ?_<;>refine Zc ?_)<;>(
 refine cX ?_ ?_<;>intro hb53
 · first|exact bN hb53|(
 refine Ze ?_;((refine cP 54 (cA call194 (Ga)) fun va54 vb54 hva54 h=>?_;cases h)<;>refine xL 55 Zj (xL 56 Zj ?_)<;>refine ZE 4 Zh ?_<;>refine xL 5 Za ?_<;>refine Zc ?_)
 exact Z5 (k:=5) 4 kR (results144) rfl rfl rfl (Xa rfl) dC rfl (by rw [UT oM];rfl))
 · first | exact bN hb53|(
 refine nav ?_;have hnl:¬2000<a.n+b.n∧(Kp a b).moves.length≤20000:=oM;have hr:=hr hnl.2;refine Zq (W1 (l:=8) [pInt (a.n+b.n),pInt a.syms,pInts a.start,pInts (YV a.n b.fin), .own 93 3 0 []] rfl rfl (fun i p p' h1 h2=>by
  match i with
  |0=>cases h1;cases h2;exact .inl rfl
  |1=>cases h1;cases h2;exact .inl rfl
  |2=>cases h1;cases h2;exact .inl rfl
  |3=>cases h1;cases h2;exact .inl rfl
  |4=>cases h1;cases h2;exact .inr ⟨rfl,_,_,rfl⟩
  |i+5=>simp at h2)) fun _=>?_
 refine Zq (Ww (l:=8) (l':=301) (j:=4) rfl rfl rfl rfl) fun i=>?_;obtain ⟨v301,ho301⟩:=i;dsimp only [List.set];(refine ZZ (fun i=>([11]:List Nat).elem i) [2,3,8] kR ?_<;>refine xD 0 57 rfl (Zd 8 Zx) ?_<;>(refine yD 1 58 rfl (Zk 8 ZA) fun v58 h=>?_;cases h)<;>refine xD 2 59 rfl (Zd 2 Zx) ?_<;>(refine yD 3 60 rfl (Zk 2 ZA) fun v60 h=>?_;cases h)<;>refine xD 5 62 rfl (Zd 3 Zx) ?_<;>(refine yD 6 63 rfl (Zk 3 ZA) fun v63 h=>?_;cases h)<;>refine xD 7 64 rfl Zb ?_<;>(refine Zr 4 kR ?_)<;>(refine Zo rfl fun w9 M9 N9 DQ back=>?_)<;>refine Kf 301 61 ZU (fun h61 ho61=>?_) (Tu a.moves) (LC a.moves)<;>refine Zl (back _ (nrm ?_))<;>(refine Zr 8 kR ?_)<;>(refine Zo rfl fun w9 M9 N9 DQ back=>?_)<;>(refine cO 65 (cA call198 (Cn b a.n hb.toAOk oM)) fun v65 ho65=>?_;refine Zs (En.freeze (l:=65) (t:=65) rfl rfl) fun _=>?_;rw [Km _ _ _ rfl])<;>refine Zl (back _ (nrm ?_))<;>(refine Zr 9 kR ?_)<;>(refine Zo rfl fun w9 M9 N9 DQ back=>?_)<;>(refine Kf 61 66 ZU (fun h66 ho66=>?_) (Tu (KM a.n b.moves)) (LC (KM a.n b.moves));have q66:En.one (PV.val h66)=true:=ho66)<;>refine Zl (back _ (nrm ?_))<;>refine xE 10 67 rfl (Zd 8 Zx) ?_<;>(refine Zr 11 kR ?_)<;>(refine Kr rfl rfl kR fun DQ back=>?_)<;>refine YL 8 ZA YA ?_<;>refine Zl (back _ (nav ?_))<;>try dsimp only)
 refine Zq (ZH (l:=66) (p':= .own 93 3 (bsM a b).length ((bsM a b).flatMap cMv)) rfl (by (try rw [Xv]);(try rw [X3]);rw [←XN,←Xb];rfl)) fun _=>?_;refine Zq (Z6 (l:=8) (l':=66) (j:=4) rfl rfl rfl rfl) fun _=>?_;rw [Km _ _ _ rfl];refine Zq (ZH (l:=8) (p':= .own 39 5 1 [pInt (a.n+b.n),pInt a.syms,pInts a.start,pInts (YV a.n b.fin),pMvs (mkM (ctM a b 0))]) rfl (by rw [Ci,show mkM (bsM a b)=bsM a b from Zfc (Zdm ha hb)];rfl)) fun _=>?_;(refine Zv ?_<;>refine xL 9 Za ?_<;>refine Zc ?_)
 refine ZD (ι:={k:Nat//k≤a.fin.length}) (fun k=>⟨[(2,_,_),(3,_,_),(4,_,_),(7,_,_),(8,_,_),(9, .int .i64 k.1,pInt k.1)],[(2,_,_),(3,_,_),(4,_,_),(8,h8, .own 39 5 1 [pInt (a.n+b.n),pInt a.syms,pInts a.start,pInts (YV a.n b.fin),pMvs (mkM (ctM a b k.1))])]⟩) (fun k=>a.fin.length-k.1) ⟨0,Xd _⟩ (fun a w H=>H.weaken ⟨rfl,rfl,rfl,rfl,rfl,rfl,trivial⟩ ⟨rfl,rfl,rfl,rfl,trivial⟩) ?_;rintro ⟨i,hi⟩;dsimp only;refine Ze ?_;(refine xL 68 Zb (xL 69 (Zd 2 Z0) ?_)<;>(refine yL 70 (Zk 2 Zy) fun v70 h=>?_;cases h)<;>refine xL 71 (ZT Zp) (xL 72 ZP ?_)<;>refine Zc ?_)
 refine cX ?_ ?_<;>intro hb72
 · first |exact bN hb72|(
 obtain ⟨f,hf⟩:=Zt (show i<a.fin.length by omega);have e1:=Z7 (f:=pInt) hf;have hfin:=ha.fi f (Xc hf);refine Ze ?_;(refine xL 10 Za ?_<;>refine Zc ?_)
 refine Zq (ZH (l:=8) (p':= .own 39 5 1 [pInt (a.n+b.n),pInt a.syms,pInts a.start,pInts (YV a.n b.fin),pMvs (mkM (ctM a b i++JW a.n f (b.start.take 0)))]) rfl (by rw [show JW a.n f (b.start.take 0)=[] from rfl,Xr])) fun _=>?_;refine ZD (ι:={k:Nat//k≤b.start.length}) (fun k=>⟨[(2,_,_),(3,_,_),(4,_,_),(7,_,_),(8,_,_),(9,_,_),(10, .int .i64 k.1,pInt k.1)],[(2,_,_),(3,_,_),(4,_,_),(8,h8, .own 39 5 1 [pInt (a.n+b.n),pInt a.syms,pInts a.start,pInts (YV a.n b.fin),pMvs (mkM (ctM a b i++JW a.n f (b.start.take k.1)))])]⟩) (fun k=>b.start.length-k.1) ⟨0,Xd _⟩ (fun a w H=>H.weaken ⟨rfl,rfl,rfl,rfl,rfl,rfl,rfl,trivial⟩ ⟨rfl,rfl,rfl,rfl,trivial⟩) ?_;rintro ⟨j,hj⟩;dsimp only;refine Ze ?_;(refine xL 75 Zb (xL 76 (Zd 3 Z1) ?_)<;>(refine yL 77 (Zk 3 Zy) fun v77 h=>?_;cases h)<;>refine xL 78 (ZT Zp) (xL 79 ZP ?_)<;>refine Zc ?_)
 refine cX ?_ ?_<;>intro hb79
 · first|exact bN hb79|(
 obtain ⟨s,hs⟩:=Zt (show j<b.start.length by omega);have e2:=Z7 (f:=pInt) hs;have hsin:=hb.st s (Xc hs);have hpart:=Zgt f (Zf hf) hj;have hins:AF prog 133 [pMvs (mkM (ctM a b i++JW a.n f (b.start.take j))), .agg (cMv ⟨f,a.n+s,-1⟩)] (· =pMvs (mkM (ctM a b i++JW a.n f (b.start.take (j+1))))):=by
  have h1:=Gy (mkM (ctM a b i++JW a.n f (b.start.take j))) ⟨f,a.n+s,-1⟩ (XL (Gi _) oM) (Kc _);rw [Zbh,Xy,Int.add_comm a.n s,←OZ a.n f hs] at h1;rw [Int.add_comm a.n s];exact h1
 refine nav ?_;(refine ZZ (fun i=>([17]:List Nat).elem i) [2,3,8] kR ?_<;>refine xD 0 82 rfl (Zd 8 Zx) ?_<;>(refine yD 1 83 rfl (Zk 8 ZA) fun v83 h=>?_;cases h)<;>refine xD 2 84 rfl (Zd 2 Z0) ?_<;>(refine yD 3 85 rfl (Zk 2 Zy) fun v85 h=>?_;cases h)<;>refine xD 4 86 rfl Zb ?_<;>refine xD 5 87 rfl (ZI Zp) ?_<;>(refine yD 6 88 rfl (Z9 Zg) fun v88 h=>?_;cases h)<;>refine xD 7 89 rfl Zb ?_<;>refine xD 8 90 rfl (Zd 3 Z1) ?_<;>(refine yD 9 91 rfl (Zk 3 Zy) fun v91 h=>?_;cases h)<;>refine xE 10 92 rfl Zb ?_<;>refine xE 11 93 rfl (ZI Zp) ?_<;>(refine yE 12 94 rfl (Z9 Zg) fun v94 h=>?_;cases h)<;>refine xE 13 95 rfl ZG ?_<;>refine xE 14 96 rfl (ZL YW) ?_<;>(refine Zr 15 kR ?_)<;>(refine Zo rfl fun w9 M9 N9 DQ back=>?_)<;>(refine cS 97 (cA call133 (hins)) fun v97 h=>?_;cases h)<;>refine Zl (back _ (nrm ?_))<;>refine xE 16 98 rfl (Zd 8 Zx) ?_<;>(refine Zr 17 kR ?_)<;>(refine Kr rfl rfl kR fun DQ back=>?_)<;>refine YL 8 ZA YA ?_<;>refine Zl (back _ (nav ?_))<;>try dsimp only)
 (refine Zv ?_<;>refine xL 80 Zb (xL 81 ZG (xL 10 Za ?_))<;>refine Zc ?_)
 refine Zm (
  ⟨j+1,Zf hs⟩
  ) (by dsimp only;omega) ⟨rfl,rfl,rfl,rfl,rfl,rfl,rfl,trivial⟩ ⟨rfl,rfl,rfl,rfl,trivial⟩)
 · first|exact bN hb79|(
 refine Zq (ZH (l:=8) (p':= .own 39 5 1 [pInt (a.n+b.n),pInt a.syms,pInts a.start,pInts (YV a.n b.fin),pMvs (mkM (ctM a b (i+1)))]) rfl (by rw [show ctM a b i++JW a.n f (b.start.take j)=ctM a b (i+1) by rw [Xj (show b.start.length≤j by omega),ZdE hf]])) fun _=>?_;refine Ze ?_;(refine xL 73 Zb (xL 74 ZG (xL 9 Za ?_))<;>refine Zc ?_)
 refine Zm (
  ⟨i+1,Zf hf⟩
  ) (by dsimp only;omega) ⟨rfl,rfl,rfl,rfl,rfl,rfl,trivial⟩ ⟨rfl,rfl,rfl,rfl,trivial⟩))
 · first|exact bN hb72|(
 rw [Zgs a b (show a.fin.length≤i by omega)];refine Ze ?_;((refine yL 99 (Zu 8 Zh) fun v99 h=>?_;cases h)<;>(refine cP 100 (cA call199 hr) (fun va100 vb100 hva100 hvb100=>?_) (hsh:=r5.t E);cases hvb100)<;>refine xL 101 Zj (xL 102 Zj ?_)<;>refine ZE 4 Zh ?_<;>refine xL 5 Za ?_<;>refine Zc ?_)
 exact Z5 (k:=5) 4 kR (results144) rfl rfl rfl (Xa rfl) dC r5.s (by rw [US oM];rfl))))
theorem S0 (a b:Aut) (hla:a.moves.length≤1000000) (hlb:b.moves.length≤1000000):AF prog 144 [ZN a,ZN b] (· =resW (Gs a b)):=by
 unfold Gs
 by_cases h0:WK a b=0
 · rw [US (fun h=>h h0)];obtain ⟨ha,hb,hs⟩:=Jk h0;rw [Zdn ha hb hs];obtain ⟨p0,p1,p2,p3,p4,E,h5,h2⟩:=Zgz (GD (mkA (Kp a b)));refine (ZdZ a b hla hlb h0 h5 (E:=E) fun hl=>?_).mono fun p hp=>?_
   · have hr:=LK (mkA (Kp a b)) (XL (Gi _) oM);rw [h2] at hr;exact hr
   · rw [hp];split
     · rename_i h;rw [ζU ha hb (by rw [←Og];exact h)];rfl
     · exact h2.symm
 · rw [UT h0];exact CQ a b _ h0 (Ge a b hla hlb)
theorem Zm1 (e:Nat) (l m:List Mv):PV.own e 3 (l.length+m.length) (l.flatMap cMv++m.flatMap cMv)= .own e 3 (l++m).length ((l++m).flatMap cMv):=by rw [Xb,XN]
theorem Tv (m:Int) (l k:List Int) (i j:Nat):Jf m l k i (j+1)=Jf m l k i j++Lk m l k i j:=flat_snoc _ _
theorem Df (m:Int) (l k:List Int) (i:Nat):KE m l k (i+1)=KE m l k i++Jf m l k i m.toNat:=flat_snoc _ _
theorem Zao (a b:Aut) (i j:Nat):Lj a b i (j+1)=Lj a b i j++Hd a b i j:=flat_snoc _ _
theorem Zap (a b:Aut) (i:Nat):Gb a b (i+1)=Gb a b i++Lj a b i b.n.toNat:=flat_snoc _ _
theorem Oy (m:Int) (l k:List Int) (i:Nat):∀j,(Jf m l k i j).length≤j
 |0=>Xg _
 | j+1=>by
   have h:=Oy m l k i j;rw [Tv,Xb];have:(Lk m l k i j).length≤1:=by unfold Lk;split<;>simp
   omega
theorem Co (m:Int) (l k:List Int):∀i,(KE m l k i).length≤i*m.toNat
 |0=>Xd _
 | i+1=>by
   have h:=Co m l k i;have h2:=Oy m l k i m.toNat;rw [Df,Xb,X8];omega
theorem Zd0 {m:Int} {l k:List Int} {i j:Nat} (h1:LQ l (i:Nat)=true) (h2:LQ k (j:Nat)=true):Lk m l k i j=[(i:Nat)*m+(j:Nat)]:=by unfold Lk;rw [h1,h2];rfl
theorem Zd1 {m:Int} {l k:List Int} {i j:Nat} (h1:LQ l (i:Nat)=false):Lk m l k i j=[]:=by unfold Lk;rw [h1];rfl
theorem Zd2 {m:Int} {l k:List Int} {i j:Nat} (h1:LQ k (j:Nat)=false):Lk m l k i j=[]:=by unfold Lk;rw [h1,Bool.and_false];rfl
theorem Zk0 (a b:Aut) (i j:Nat):(Hd a b i j).length≤a.moves.length+b.moves.length:=by
 unfold Hd
 refine XL (Gi _) ?_
 unfold apA apB
 rw [Xb,Xe,Xe]
 exact Nat.add_le_add (Vg _ _) (Vg _ _)
theorem Cp (a b:Aut) (e:Int) (he:¬e=0) (hf:AF prog 196 [ZN a,ZN b] (· =pInt e)):AF prog 147 [ZN a,ZN b] (· = .tup [KL,pInt e]):=by
 refine AF.of_body 182 func147 rfl ntmps147 (Xa rfl) ?_
 intro w0 M0 vs hl hv
 obtain ⟨v0,v1,rfl⟩:=YI hl
 clear hl hv
 refine Ze ?_
 (refine ZB 2 5 fun h2=>?_<;>refine ZB 3 5 fun h3=>?_<;>refine Zw [(.int .i64 0),(.int .i64 0),(.slice none 0 0),(.slice none 0 0),(.slice none 0 0)] 5 4 ZJ fun h4=>?_<;>refine xL 5 Za ?_<;>refine Zi ?_)
 ((refine yL 14 (Zu 2 Zh) fun v14 h=>?_;cases h)<;>(refine yL 15 (Zu 3 Zh) fun v15 h=>?_;cases h)<;>(refine cS 16 (cA call196 (hf)) fun v16 h=>?_;cases h)<;>refine xL 6 Za ?_<;>refine Zi ?_)
 (refine xL 17 Zb (xL 18 Yv ?_)<;>refine Zc ?_)
 refine cX ?_ ?_<;>intro hb18
 · refine Ze ?_;(refine xL 19 (ZL ZV) (xL 20 Zb ?_)<;>refine ZE 4 Zh ?_<;>refine xL 5 Za ?_<;>refine Zc ?_)
   exact Z5 (k:=5) 4 kR (results147) rfl rfl rfl (Xa rfl) dC rfl rfl
 · exact UU (by simpa using hb18) he
set_option maxHeartbeats 8000000 in
theorem ZbD (a b : Aut) (hla : a.moves.length≤1000000) (hlb:b.moves.length≤1000000) (hf0:WK a b=0) {p0 p1 p2 p3 p4:PV} {E:Int} (r5:R5 p0 p1 p2 p3 p4) (hr:(mkM (Wj a b).moves).length≤20000→AF prog 199 [ZN (mkA (Wj a b))] (· = .tup [.agg [p0,p1,p2,p3,p4],pInt E])):AF prog 147 [ZN a,ZN b] (· =if 2000<a.n*b.n∨20000<(mkM (Wj a b).moves).length then .tup [KL,pInt 13] else .tup [.agg [p0,p1,p2,p3,p4],pInt E]):=by
 obtain ⟨o0,o1,o2,o3,o4⟩:=r5.o
 obtain ⟨ha,hb,hs⟩:=Jk hf0
 have hf:=Ge a b hla hlb
 rw [hf0] at hf
 have hn0:=ha.n0
 have hn1:=ha.n1
 have m0:=hb.n0
 have m1:=hb.n1
 have k5:=ha.ml
 have k6:=hb.ml
 have q1:=Lm (x:=a.n) (y:=b.n) ⟨hn0,hn1⟩ ⟨m0,m1⟩
 have eN:((a.n.toNat:Nat):Int)=a.n:=X4 hn0
 have eM:((b.n.toNat:Nat):Int)=b.n:=X4 m0
 have hall:=Zml ha hb
 refine AF.of_body 182 func147 rfl ntmps147 (Xa rfl) ?_
 intro w0 M0 vs hl hv
 obtain ⟨v0,v1,rfl⟩:=YI hl
 clear hl hv
 refine Ze ?_
 (refine ZB 2 5 fun h2=>?_<;>refine ZB 3 5 fun h3=>?_<;>refine Zw [(.int .i64 0),(.int .i64 0),(.slice none 0 0),(.slice none 0 0),(.slice none 0 0)] 5 4 ZJ fun h4=>?_<;>refine xL 5 Za ?_<;>refine Zi ?_)
 ((refine yL 14 (Zu 2 Zh) fun v14 h=>?_;cases h)<;>(refine yL 15 (Zu 3 Zh) fun v15 h=>?_;cases h)<;>(refine cS 16 (cA call196 (hf)) fun v16 h=>?_;cases h)<;>refine xL 6 Za ?_<;>refine Zi ?_)
 (refine xL 17 Zb (xL 18 Yv ?_)<;>refine Zc ?_)
 refine cX ?_ ?_<;>intro hb18
 · first|omega|exact UU rfl hb18|exact bN hb18
 · refine Ze ?_;(refine xL 21 (Zd 3 ZQ) ?_<;>(refine yL 22 (Zk 3 Zg) fun v22 h=>?_;cases h)<;>refine xL 7 Za ?_<;>refine Zi ?_)
   (refine xL 23 (Zd 2 ZQ) ?_<;>(refine yL 24 (Zk 2 Zg) fun v24 h=>?_;cases h)<;>refine xL 25 Zb (xL 26 Jr (xL 27 (Zd 2 Z3) ?_))<;>(refine yL 28 (Zk 2 Zg) fun v28 h=>?_;cases h)<;>refine xL 29 (ZL ZV) ?_<;>refine Zw [(.int .i64 0),(.int .i64 0),(.slice none 0 0),(.slice none 0 0),(.slice none 0 0)] 5 8 ZJ fun h8=>?_<;>refine ZE 8 Zh ?_<;>refine Zi ?_)
   (refine xL 30 (Zd 8 ZQ) ?_<;>(refine yL 31 (Zk 8 Zg) fun v31 h=>?_;cases h)<;>refine xL 32 Yr ?_<;>refine Zc ?_)
   refine cX ?_ ?_<;>intro hb32
   · first|exact bN hb32|(
 refine Ze ?_;((refine cP 33 (cA call194 (Ga)) fun va33 vb33 hva33 h=>?_;cases h)<;>refine xL 34 Zj (xL 35 Zj ?_)<;>refine ZE 4 Zh ?_<;>refine xL 5 Za ?_<;>refine Zc ?_)
 exact Z5 (k:=5) 4 kR (results147) rfl rfl rfl (Xa rfl) dC rfl (by rw [UT oM];rfl))
   · first | exact bN hb32 | (
 refine nav ?_;refine Zq (W1 (l:=8) [pInt (a.n*b.n),pInt a.syms, .own 3 1 0 [], .own 3 1 0 [], .own 93 3 0 []] rfl rfl (fun i p p' h1 h2=>by
  match i with
  |0=>cases h1;cases h2;exact .inl rfl
  |1=>cases h1;cases h2;exact .inl rfl
  |2=>cases h1;cases h2;exact .inr ⟨rfl,_,_,rfl⟩
  |3=>cases h1;cases h2;exact .inr ⟨rfl,_,_,rfl⟩
  |4=>cases h1;cases h2;exact .inr ⟨rfl,_,_,rfl⟩
  |i+5=>simp at h2)) fun _=>?_
 refine Zq (Ww (l:=8) (l':=302) (j:=2) rfl rfl rfl rfl) fun i=>?_;obtain ⟨v302,ho302⟩:=i;dsimp only [List.set];refine Zq (Ww (l:=8) (l':=303) (j:=3) rfl rfl rfl rfl) fun i=>?_;obtain ⟨v303,ho303⟩:=i;dsimp only [List.set];refine Zq (Ww (l:=8) (l':=304) (j:=4) rfl rfl rfl rfl) fun i=>?_;obtain ⟨v304,ho304⟩:=i;dsimp only [List.set];(refine Zv ?_<;>refine xL 9 Za ?_<;>refine Zc ?_)
 refine ZD (ι:={q:Nat×Value×Value×Value//q.1≤a.n.toNat∧q.2.1.oneCell'=true∧q.2.2.1.oneCell'=true∧q.2.2.2.oneCell'=true∧(Gb a b q.1).length≤20000}) (fun k=>⟨[(2,_,_),(3,_,_),(4,_,_),(7,_,_),(8,_,_),(9, .int .i64 k.1.1,pInt k.1.1)],[(2,_,_),(3,_,_),(4,_,_),(8,h8, .own 39 5 1 [pInt (a.n*b.n),pInt a.syms, .val k.1.2.1, .val k.1.2.2.1, .val k.1.2.2.2]),(302,k.1.2.1, .own 3 1 (KE b.n a.start b.start k.1.1).length ((KE b.n a.start b.start k.1.1).map pInt)),(303,k.1.2.2.1, .own 3 1 (KE b.n a.fin b.fin k.1.1).length ((KE b.n a.fin b.fin k.1.1).map pInt)),(304,k.1.2.2.2, .own 93 3 (Gb a b k.1.1).length ((Gb a b k.1.1).flatMap cMv))]⟩) (fun k=>a.n.toNat-k.1.1) ⟨(0,v302,v303,v304),Xd _,ho302,ho303,ho304,Xd _⟩ (fun a w H=>H.weaken ⟨rfl,rfl,rfl,rfl,rfl,rfl,trivial⟩ ⟨rfl,rfl,rfl,rfl,rfl,rfl,rfl,trivial⟩) ?_;rintro ⟨⟨i,hS,hF,hM⟩,hi,hSo,hFo,hMo,hMl⟩;dsimp only;dsimp only at hi hSo hFo hMo hMl;have hx3:=Lm (x:=(i:Int)) (y:=b.n) (X:=2000) ⟨oM,oM⟩ ⟨m0,m1⟩;have hi2:i*b.n.toNat≤2000*2000:=VI oM oM;have hl1:=Co b.n a.start b.start i;have hl2:=Co b.n a.fin b.fin i;refine Ze ?_;(refine xL 36 Zb (xL 37 (Zd 2 ZQ) ?_)<;>(refine yL 38 (Zk 2 Zg) fun v38 h=>?_;cases h)<;>refine xL 39 ZP ?_<;>refine Zc ?_)
 refine cX ?_ ?_<;>intro hb39
 · first | exact bN hb39 | (
 have hilt:i<a.n.toNat:=oM;refine Ze ?_;(refine xL 10 Za ?_<;>refine Zc ?_)
 refine Zq (ZH (l:=302) (p':= .own 3 1 (KE b.n a.start b.start i++Jf b.n a.start b.start i 0).length ((KE b.n a.start b.start i++Jf b.n a.start b.start i 0).map pInt)) rfl (by rw [show Jf b.n a.start b.start i 0=[] from rfl,Xr])) fun _=>?_;refine Zq (ZH (l:=303) (p':= .own 3 1 (KE b.n a.fin b.fin i++Jf b.n a.fin b.fin i 0).length ((KE b.n a.fin b.fin i++Jf b.n a.fin b.fin i 0).map pInt)) rfl (by rw [show Jf b.n a.fin b.fin i 0=[] from rfl,Xr])) fun _=>?_;refine Zq (ZH (l:=304) (p':= .own 93 3 (Gb a b i++Lj a b i 0).length ((Gb a b i++Lj a b i 0).flatMap cMv)) rfl (by rw [show Lj a b i 0=[] from rfl,Xr])) fun _=>?_;refine ZD (ι:={q:Nat×Value×Value×Value//q.1≤b.n.toNat∧q.2.1.oneCell'=true∧q.2.2.1.oneCell'=true∧q.2.2.2.oneCell'=true∧(Gb a b i++Lj a b i q.1).length≤20000}) (fun k=>⟨[(2,_,_),(3,_,_),(4,_,_),(7,_,_),(8,_,_),(9,_,_),(10, .int .i64 k.1.1,pInt k.1.1)],[(2,_,_),(3,_,_),(4,_,_),(8,h8, .own 39 5 1 [pInt (a.n*b.n),pInt a.syms, .val k.1.2.1, .val k.1.2.2.1, .val k.1.2.2.2]),(302,k.1.2.1, .own 3 1 (KE b.n a.start b.start i++Jf b.n a.start b.start i k.1.1).length ((KE b.n a.start b.start i++Jf b.n a.start b.start i k.1.1).map pInt)),(303,k.1.2.2.1, .own 3 1 (KE b.n a.fin b.fin i++Jf b.n a.fin b.fin i k.1.1).length ((KE b.n a.fin b.fin i++Jf b.n a.fin b.fin i k.1.1).map pInt)),(304,k.1.2.2.2, .own 93 3 (Gb a b i++Lj a b i k.1.1).length ((Gb a b i++Lj a b i k.1.1).flatMap cMv))]⟩) (fun k=>b.n.toNat-k.1.1) ⟨(0,hS,hF,hM),Xd _,hSo,hFo,hMo,by show (Gb a b i++[]).length≤20000;rw [Xr];exact hMl⟩ (fun a w H=>H.weaken ⟨rfl,rfl,rfl,rfl,rfl,rfl,rfl,trivial⟩ ⟨rfl,rfl,rfl,rfl,rfl,rfl,rfl,trivial⟩) ?_;rintro ⟨⟨j,hS2,hF2,hM2⟩,hj,hS2o,hF2o,hM2o,hM2l⟩;dsimp only;dsimp only at hj hS2o hF2o hM2o hM2l;have qS2:En.one (PV.val hS2)=true:=hS2o;have qF2:En.one (PV.val hF2)=true:=hF2o;have qM2:En.one (PV.val hM2)=true:=hM2o;have hl3:=Oy b.n a.start b.start i j;have hl4:=Oy b.n a.fin b.fin i j;(have hl5:(KE b.n a.start b.start i++Jf b.n a.start b.start i j).length≤4002000:=by rw [Xb];omega);(have hl6:(KE b.n a.fin b.fin i++Jf b.n a.fin b.fin i j).length≤4002000:=by rw [Xb];omega);refine Ze ?_;(refine xL 42 Zb (xL 43 Zb (xL 44 ZP ?_))<;>refine Zc ?_)
 refine cX ?_ ?_<;>intro hb44
 · first | exact bN hb44 |(
 have hjlt:j<b.n.toNat:=oM;refine Ze ?_;(refine xL 47 (Zd 2 Z1) ?_<;>(refine yL 48 (Zk 2 Zy) fun v48 h=>?_;cases h)<;>refine xL 49 Zb ?_<;>(refine cS 50 (cA call116 (SA a.start (i:Nat))) fun v50 h=>?_;cases h)<;>refine xL 51 Zb ?_<;>(refine bL 51 (fun hb51=>?_) (fun hb51=>?_)<;>(first|refine kL 52 ?_|refine xL 52 (Zd 3 Z1) ?_))<;>(first|refine kL 53 ?_|(refine yL 53 (Zk 3 Zy) fun v53 h=>?_;cases h))<;>(first|refine kL 54 ?_|refine xL 54 Zb ?_)<;>(first|refine kL 55 ?_|(refine cS 55 (cA call116 (SA b.start (j:Nat))) fun v55 h=>?_;cases h))<;>refine xL 56 ZF ?_<;>refine Zc ?_)<;>(
 refine OI (fun x:{x:Value//x.oneCell'=true}=>⟨[(2,padd (sbase h2) 0, .val (padd (sbase h2) 0)),(3,padd (sbase h3) 0, .val (padd (sbase h3) 0)),(4,padd (sbase h4) 0, .val (padd (sbase h4) 0)),(7, .int .i64 b.n,pInt b.n),(8,padd (sbase h8) 0, .val (padd (sbase h8) 0)),(9, .int .i64 (i:Nat),pInt (i:Nat)),(10, .int .i64 (j:Nat),pInt (j:Nat))],[(2,h2, .own 39 5 1 [pInt a.n,pInt a.syms,pInts a.start,pInts a.fin,pMvs a.moves]),(3,h3, .own 39 5 1 [pInt b.n,pInt b.syms,pInts b.start,pInts b.fin,pMvs b.moves]),(4,h4, .own 39 5 1 [pInt 0,pInt 0, .val (.slice none 0 0), .val (.slice none 0 0), .val (.slice none 0 0)]),(8,h8, .own 39 5 1 [pInt (a.n*b.n),pInt a.syms, .val x.1, .val hF2, .val hM2]),(302,x.1, .own 3 1 (KE b.n a.start b.start i++Jf b.n a.start b.start i (j+1)).length ((KE b.n a.start b.start i++Jf b.n a.start b.start i (j+1)).map pInt)),(303,hF2, .own 3 1 (KE b.n a.fin b.fin i++Jf b.n a.fin b.fin i j).length ((KE b.n a.fin b.fin i++Jf b.n a.fin b.fin i j).map pInt)),(304,hM2, .own 93 3 (Gb a b i++Lj a b i j).length ((Gb a b i++Lj a b i j).flatMap cMv))]⟩) ?_ ?_
 · refine cX ?_ ?_<;>intro hb56
   · first|exact bN hb56|(
 have hc:=Zd0 (m:=b.n) (l:=a.start) (k:=b.start) (i:=i) (j:=j) (by first|assumption|simpa using hb51) (by first|assumption|simpa using hb56);refine Ze ?_;(refine xL 57 (Zd 8 Z1) ?_<;>(refine yL 58 (Zk 8 Zy) fun v58 h=>?_;cases h)<;>refine xL 59 Zb (xL 60 Zb (xL 61 Jr (xL 62 Zb (xL 63 ZG ?_))))<;>refine ZO (kk:=1) 64 Zn fun h64 ho64=>?_<;>(refine ZW 302 64 65 Zn fun h65 ho65=>?_;refine Zs (ZC (l:=65) 302 rfl rfl) fun _=>?_;refine Zs (ZH (l:=302) rfl ((Kn _ (KE b.n a.start b.start i++Jf b.n a.start b.start i j) ((i:Nat)*b.n+(j:Nat))).trans (by rw [Xy,←hc,←Tv]))) fun _=>?_;have q65:En.one (PV.val h65)=true:=ho65)<;>refine xL 66 (Zd 8 Z1) ?_<;>refine YL 8 Zy We ?_<;>refine Zc ?_)
 first
  |exact WP ⟨h65,ho65⟩ ⟨rfl,rfl,rfl,rfl,rfl,rfl,rfl,trivial⟩ ⟨rfl,rfl,rfl,rfl,rfl,rfl,rfl,trivial⟩
  |exact WP ⟨hS2,hS2o⟩ ⟨rfl,rfl,rfl,rfl,rfl,rfl,rfl,trivial⟩ ⟨rfl,rfl,rfl,rfl,rfl,rfl,rfl,trivial⟩)
   · first|exact bN hb56|(
 have hc:Lk b.n a.start b.start i j=[]:=by
  first
   |exact Zd1 (by first|assumption|simpa using hb51)
   |exact Zd2 (by first|assumption|simpa using hb56)
 refine Zq (ZH (l:=302) (p':= .own 3 1 (KE b.n a.start b.start i++Jf b.n a.start b.start i (j+1)).length ((KE b.n a.start b.start i++Jf b.n a.start b.start i (j+1)).map pInt)) rfl (by rw [Tv,hc,Xr])) fun _=>?_;refine nav ?_
 first
  |exact WP ⟨h65,ho65⟩ ⟨rfl,rfl,rfl,rfl,rfl,rfl,rfl,trivial⟩ ⟨rfl,rfl,rfl,rfl,rfl,rfl,rfl,trivial⟩
  |exact WP ⟨hS2,hS2o⟩ ⟨rfl,rfl,rfl,rfl,rfl,rfl,rfl,trivial⟩ ⟨rfl,rfl,rfl,rfl,rfl,rfl,rfl,trivial⟩)
 · rintro ⟨hS3, hS3o⟩;dsimp only at hS3o ⊢;have qS3:En.one (PV.val hS3)=true:=hS3o;refine Ze ?_;(refine xL 67 (Zd 2 Z0) ?_<;>(refine yL 68 (Zk 2 Zy) fun v68 h=>?_;cases h)<;>refine xL 69 Zb ?_<;>(refine cS 70 (cA call116 (SA a.fin (i:Nat))) fun v70 h=>?_;cases h)<;>refine xL 71 Zb ?_<;>(refine bL 71 (fun hb71=>?_) (fun hb71=>?_)<;>(first|refine kL 72 ?_|refine xL 72 (Zd 3 Z0) ?_))<;>(first|refine kL 73 ?_|(refine yL 73 (Zk 3 Zy) fun v73 h=>?_;cases h))<;>(first|refine kL 74 ?_|refine xL 74 Zb ?_)<;>(first|refine kL 75 ?_|(refine cS 75 (cA call116 (SA b.fin (j:Nat))) fun v75 h=>?_;cases h))<;>refine xL 76 ZF ?_<;>refine Zc ?_)<;>(
 refine OI (fun x:{x:Value//x.oneCell'=true}=>⟨[(2,padd (sbase h2) 0, .val (padd (sbase h2) 0)),(3,padd (sbase h3) 0, .val (padd (sbase h3) 0)),(4,padd (sbase h4) 0, .val (padd (sbase h4) 0)),(7, .int .i64 b.n,pInt b.n),(8,padd (sbase h8) 0, .val (padd (sbase h8) 0)),(9, .int .i64 (i:Nat),pInt (i:Nat)),(10, .int .i64 (j:Nat),pInt (j:Nat))],[(2,h2, .own 39 5 1 [pInt a.n,pInt a.syms,pInts a.start,pInts a.fin,pMvs a.moves]),(3,h3, .own 39 5 1 [pInt b.n,pInt b.syms,pInts b.start,pInts b.fin,pMvs b.moves]),(4,h4, .own 39 5 1 [pInt 0,pInt 0, .val (.slice none 0 0), .val (.slice none 0 0), .val (.slice none 0 0)]),(8,h8, .own 39 5 1 [pInt (a.n*b.n),pInt a.syms, .val hS3, .val x.1, .val hM2]),(302,hS3, .own 3 1 (KE b.n a.start b.start i++Jf b.n a.start b.start i (j+1)).length ((KE b.n a.start b.start i++Jf b.n a.start b.start i (j+1)).map pInt)),(303,x.1, .own 3 1 (KE b.n a.fin b.fin i++Jf b.n a.fin b.fin i (j+1)).length ((KE b.n a.fin b.fin i++Jf b.n a.fin b.fin i (j+1)).map pInt)),(304,hM2, .own 93 3 (Gb a b i++Lj a b i j).length ((Gb a b i++Lj a b i j).flatMap cMv))]⟩) ?_ ?_
 · refine cX ?_ ?_<;>intro hb76
   · first|exact bN hb76|(
 have hc:=Zd0 (m:=b.n) (l:=a.fin) (k:=b.fin) (i:=i) (j:=j) (by first|assumption|simpa using hb71) (by first|assumption|simpa using hb76);refine Ze ?_;(refine xL 77 (Zd 8 Z0) ?_<;>(refine yL 78 (Zk 8 Zy) fun v78 h=>?_;cases h)<;>refine xL 79 Zb (xL 80 Zb (xL 81 Jr (xL 82 Zb (xL 83 ZG ?_))))<;>refine ZO (kk:=1) 84 Zn fun h84 ho84=>?_<;>(refine ZW 303 84 85 Zn fun h85 ho85=>?_;refine Zs (ZC (l:=85) 303 rfl rfl) fun _=>?_;refine Zs (ZH (l:=303) rfl ((Kn _ (KE b.n a.fin b.fin i++Jf b.n a.fin b.fin i j) ((i:Nat)*b.n+(j:Nat))).trans (by rw [Xy,←hc,←Tv]))) fun _=>?_;have q85:En.one (PV.val h85)=true:=ho85)<;>refine xL 86 (Zd 8 Z0) ?_<;>refine YL 8 Zy We ?_<;>refine Zc ?_)
 first
  |exact WP ⟨h85,ho85⟩ ⟨rfl,rfl,rfl,rfl,rfl,rfl,rfl,trivial⟩ ⟨rfl,rfl,rfl,rfl,rfl,rfl,rfl,trivial⟩
  |exact WP ⟨hF2,hF2o⟩ ⟨rfl,rfl,rfl,rfl,rfl,rfl,rfl,trivial⟩ ⟨rfl,rfl,rfl,rfl,rfl,rfl,rfl,trivial⟩)
   · first|exact bN hb76|(
 have hc:Lk b.n a.fin b.fin i j=[]:=by
  first
   |exact Zd1 (by first|assumption|simpa using hb71)
   |exact Zd2 (by first|assumption|simpa using hb76)
 refine Zq (ZH (l:=303) (p':= .own 3 1 (KE b.n a.fin b.fin i++Jf b.n a.fin b.fin i (j+1)).length ((KE b.n a.fin b.fin i++Jf b.n a.fin b.fin i (j+1)).map pInt)) rfl (by rw [Tv,hc,Xr])) fun _=>?_;refine nav ?_
 first
  |exact WP ⟨h85,ho85⟩ ⟨rfl,rfl,rfl,rfl,rfl,rfl,rfl,trivial⟩ ⟨rfl,rfl,rfl,rfl,rfl,rfl,rfl,trivial⟩
  |exact WP ⟨hF2,hF2o⟩ ⟨rfl,rfl,rfl,rfl,rfl,rfl,rfl,trivial⟩ ⟨rfl,rfl,rfl,rfl,rfl,rfl,rfl,trivial⟩)
 · rintro ⟨hF3, hF3o⟩;dsimp only at hF3o ⊢;have qF3:En.one (PV.val hF3)=true:=hF3o;refine Ze ?_;(refine LM 87 ZU fun h87 ho87=>?_<;>refine xL 11 Za ?_<;>refine Zc ?_)
   refine Zq (En.freeze (l:=87) (t:=11) rfl rfl) fun _=>?_;refine Zq (Wx (t:=11) (p':=pMvs (mkM (apA b.n i j (a.moves.take 0)))) rfl rfl) fun _=>?_;(refine Zv ?_<;>refine xL 12 Za ?_<;>refine Zc ?_)
   refine ZD (ι:={q:Nat×Value//q.1≤a.moves.length}) (fun k=>⟨[(2,_,_),(3,_,_),(4,_,_),(7,_,_),(8,_,_),(9,_,_),(10,_,_),(11,k.1.2,pMvs (mkM (apA b.n i j (a.moves.take k.1.1)))),(12, .int .i64 k.1.1,pInt k.1.1)],[(2,_,_),(3,_,_),(4,_,_),(8,_,_),(302,_,_),(303,_,_),(304,_,_)]⟩) (fun k=>a.moves.length-k.1.1) ⟨(0,h87),Xd _⟩ (fun a w H=>H.weaken ⟨rfl,rfl,rfl,rfl,rfl,rfl,rfl,rfl,rfl,trivial⟩ ⟨rfl,rfl,rfl,rfl,rfl,rfl,rfl,trivial⟩) ?_;rintro ⟨⟨u,V⟩,hu⟩;dsimp only;dsimp only at hu;refine Ze ?_;(refine xL 88 Zb (xL 89 (Zd 2 Zx) ?_)<;>(refine yL 90 (Zk 2 ZA) fun v90 h=>?_;cases h)<;>refine xL 91 (ZT ZK) (xL 92 ZP ?_)<;>refine Zc ?_)
   refine cX ?_ ?_<;>intro hb92
   · first | exact bN hb92|(
 obtain ⟨x,hx⟩:=Zt (show u<a.moves.length by omega);obtain ⟨e0,e1,e2⟩:=ZkZ hx;have hxb:=ha.mv x (Xc hx);have hx2:=Lm (x:=x.dst) (y:=b.n) (X:=2000) ⟨hxb.2.2.1,oM⟩ ⟨m0,m1⟩;refine Ze ?_;(refine xL 95 (Zd 2 Zx) ?_<;>(refine yL 96 (Zk 2 ZA) fun v96 h=>?_;cases h)<;>refine xL 97 Zb (xL 98 (ZI ZK) (xL 99 (Js Yb) ?_))<;>(refine yL 100 (Z9 Zg) fun v100 h=>?_;cases h)<;>refine xL 101 Zb (xL 102 Ye ?_)<;>refine Zc ?_)
 refine cX ?_ ?_<;>intro hb102
 · first |exact bN hb102|(
 have hins:AF prog 133 [pMvs (mkM (apA b.n i j (a.moves.take u))), .agg (cMv ⟨(i:Nat)*b.n+(j:Nat),x.dst*b.n+(j:Nat),x.sym⟩)] (· =pMvs (mkM (apA b.n i j (a.moves.take (u+1))))):=by
  have h1:=Gy (mkM (apA b.n i j (a.moves.take u))) ⟨(i:Nat)*b.n+(j:Nat),x.dst*b.n+(j:Nat),x.sym⟩ (XL (Gi _) (by unfold apA;rw [Xe];exact XL (Vg _ _) (by rw [Xo];omega))) (Kc _);rw [Zbh,←Zmm hx hb102] at h1;exact h1
 refine nav ?_;(refine ZZ (fun i=>([]:List Nat).elem i) [2] kR ?_<;>refine xD 0 103 rfl Zb ?_<;>refine xD 1 104 rfl Zb ?_<;>refine xD 2 105 rfl Zb ?_<;>refine xD 3 106 rfl Jr ?_<;>refine xD 4 107 rfl Zb ?_<;>refine xD 5 108 rfl ZG ?_<;>refine xD 6 109 rfl (Zd 2 Zx) ?_<;>(refine yD 7 110 rfl (Zk 2 ZA) fun v110 h=>?_;cases h)<;>refine xD 8 111 rfl Zb ?_<;>refine xD 9 112 rfl (ZI ZK) ?_<;>refine xD 10 113 rfl (Js Yg) ?_<;>(refine yD 11 114 rfl (Z9 Zg) fun v114 h=>?_;cases h)<;>refine xD 12 115 rfl Zb ?_<;>refine xD 13 116 rfl Jr ?_<;>refine xD 14 117 rfl Zb ?_<;>refine xD 15 118 rfl ZG ?_<;>refine xD 16 119 rfl (Zd 2 Zx) ?_<;>(refine yD 17 120 rfl (Zk 2 ZA) fun v120 h=>?_;cases h)<;>refine xE 18 121 rfl Zb ?_<;>refine xE 19 122 rfl (ZI ZK) ?_<;>refine xE 20 123 rfl (Js Yj) ?_<;>(refine yE 21 124 rfl (Z9 Zg) fun v124 h=>?_;cases h)<;>refine xE 22 125 rfl (ZL YW) ?_<;>(refine Zr 23 kR ?_)<;>(refine Zo rfl fun w9 M9 N9 DQ back=>?_)<;>(refine cS 126 (cA call133 (hins)) fun v126 h=>?_;cases h)<;>refine Zl (back _ (nrm ?_))<;>refine xE 24 11 rfl Za ?_<;>refine Yw kR (nav ?_)<;>try dsimp only)
 (refine Zv ?_<;>refine xL 93 Zb (xL 94 ZG (xL 12 Za ?_))<;>refine Zc ?_)
 first
  | (exact Zm (
      ⟨(u+1,v126),Zf hx⟩
      ) (by dsimp only;omega) ⟨rfl,rfl,rfl,rfl,rfl,rfl,rfl,rfl,rfl,trivial⟩ ⟨rfl,rfl,rfl,rfl,rfl,rfl,rfl,trivial⟩)
  | (exact Zm (
      ⟨(u+1,V),Zf hx⟩
      ) (by dsimp only;omega) ⟨rfl,rfl,rfl,rfl,rfl,rfl,rfl,rfl,rfl,trivial⟩ ⟨rfl,rfl,rfl,rfl,rfl,rfl,rfl,trivial⟩))
 · first |exact bN hb102|(
 refine Zq (Wx (t:=11) (p':=pMvs (mkM (apA b.n i j (a.moves.take (u+1))))) rfl (by rw [Zok hx hb102])) fun _=>?_;refine Ze ?_;(refine xL 93 Zb (xL 94 ZG (xL 12 Za ?_))<;>refine Zc ?_)
 first
  | (exact Zm (
      ⟨(u+1,v126),Zf hx⟩
      ) (by dsimp only;omega) ⟨rfl,rfl,rfl,rfl,rfl,rfl,rfl,rfl,rfl,trivial⟩ ⟨rfl,rfl,rfl,rfl,rfl,rfl,rfl,trivial⟩)
  | (exact Zm (
      ⟨(u+1,V),Zf hx⟩
      ) (by dsimp only;omega) ⟨rfl,rfl,rfl,rfl,rfl,rfl,rfl,rfl,rfl,trivial⟩ ⟨rfl,rfl,rfl,rfl,rfl,rfl,rfl,trivial⟩)))
   · first | exact bN hb92|(
 refine Zq (Wx (t:=11) (p':=pMvs (mkM (apA b.n i j a.moves++apB b.n i j (b.moves.take 0)))) rfl (by rw [Xj (show a.moves.length≤u by omega),show apB b.n i j (b.moves.take 0)=[] from rfl,Xr])) fun _=>?_;refine Ze ?_;(refine xL 13 Za ?_<;>refine Zc ?_)
 refine ZD (ι:={q:Nat×Value//q.1≤b.moves.length}) (fun k=>⟨[(2,_,_),(3,_,_),(4,_,_),(7,_,_),(8,_,_),(9,_,_),(10,_,_),(11,k.1.2,pMvs (mkM (apA b.n i j a.moves++apB b.n i j (b.moves.take k.1.1)))),(13, .int .i64 k.1.1,pInt k.1.1)],[(2,_,_),(3,_,_),(4,_,_),(8,_,_),(302,_,_),(303,_,_),(304,_,_)]⟩) (fun k=>b.moves.length-k.1.1) ⟨(0,V),Xd _⟩ (fun a w H=>H.weaken ⟨rfl,rfl,rfl,rfl,rfl,rfl,rfl,rfl,rfl,trivial⟩ ⟨rfl,rfl,rfl,rfl,rfl,rfl,rfl,trivial⟩) ?_;rintro ⟨⟨w,W⟩,hw⟩;dsimp only;dsimp only at hw;refine Ze ?_;(refine xL 127 Zb (xL 128 (Zd 3 Zx) ?_)<;>(refine yL 129 (Zk 3 ZA) fun v129 h=>?_;cases h)<;>refine xL 130 (ZT ZK) (xL 131 ZP ?_)<;>refine Zc ?_)
 refine cX ?_ ?_<;>intro hb131
 · first | exact bN hb131|(
 obtain ⟨y,hy⟩:=Zt (show w<b.moves.length by omega);obtain ⟨f0,f1,f2⟩:=ZkZ hy;have hyb:=hb.mv y (Xc hy);refine Ze ?_;(refine xL 134 (Zd 3 Zx) ?_<;>(refine yL 135 (Zk 3 ZA) fun v135 h=>?_;cases h)<;>refine xL 136 Zb (xL 137 (ZI ZK) (xL 138 (Js Yb) ?_))<;>(refine yL 139 (Z9 Zg) fun v139 h=>?_;cases h)<;>refine xL 140 Zb (xL 141 Ye ?_)<;>refine Zc ?_)
 refine cX ?_ ?_<;>intro hb141
 · first |exact bN hb141|(
 have hins:AF prog 133 [pMvs (mkM (apA b.n i j a.moves++apB b.n i j (b.moves.take w))), .agg (cMv ⟨(i:Nat)*b.n+(j:Nat),(i:Nat)*b.n+y.dst,y.sym⟩)] (· =pMvs (mkM (apA b.n i j a.moves++apB b.n i j (b.moves.take (w+1))))):=by
  have h1:=Gy (mkM (apA b.n i j a.moves++apB b.n i j (b.moves.take w))) ⟨(i:Nat)*b.n+(j:Nat),(i:Nat)*b.n+y.dst,y.sym⟩ (XL (Gi _) (by
   rw [Xb];(have g1:(apA b.n i j a.moves).length≤a.moves.length:=by unfold apA;rw [Xe];exact Vg _ _);(have g2:(apB b.n i j (b.moves.take w)).length≤(b.moves.take w).length:=by unfold apB;rw [Xe];exact Vg _ _);rw [Xo] at g2;omega)) (Kc _)
  rw [Zbh,Xy,←Zmn hy hb141] at h1;exact h1
 refine nav ?_;(refine ZZ (fun i=>([]:List Nat).elem i) [3] kR ?_<;>refine xD 0 142 rfl Zb ?_<;>refine xD 1 143 rfl Zb ?_<;>refine xD 2 144 rfl Zb ?_<;>refine xD 3 145 rfl Jr ?_<;>refine xD 4 146 rfl Zb ?_<;>refine xD 5 147 rfl ZG ?_<;>refine xD 6 148 rfl Zb ?_<;>refine xD 7 149 rfl Zb ?_<;>refine xD 8 150 rfl Jr ?_<;>refine xD 9 151 rfl (Zd 3 Zx) ?_<;>(refine yD 10 152 rfl (Zk 3 ZA) fun v152 h=>?_;cases h)<;>refine xD 11 153 rfl Zb ?_<;>refine xD 12 154 rfl (ZI ZK) ?_<;>refine xD 13 155 rfl (Js Yg) ?_<;>(refine yD 14 156 rfl (Z9 Zg) fun v156 h=>?_;cases h)<;>refine xD 15 157 rfl ZG ?_<;>refine xD 16 158 rfl (Zd 3 Zx) ?_<;>(refine yD 17 159 rfl (Zk 3 ZA) fun v159 h=>?_;cases h)<;>refine xE 18 160 rfl Zb ?_<;>refine xE 19 161 rfl (ZI ZK) ?_<;>refine xE 20 162 rfl (Js Yj) ?_<;>(refine yE 21 163 rfl (Z9 Zg) fun v163 h=>?_;cases h)<;>refine xE 22 164 rfl (ZL YW) ?_<;>(refine Zr 23 kR ?_)<;>(refine Zo rfl fun w9 M9 N9 DQ back=>?_)<;>(refine cS 165 (cA call133 (hins)) fun v165 h=>?_;cases h)<;>refine Zl (back _ (nrm ?_))<;>refine xE 24 11 rfl Za ?_<;>refine Yw kR (nav ?_)<;>try dsimp only)
 (refine Zv ?_<;>refine xL 132 Zb (xL 133 ZG (xL 13 Za ?_))<;>refine Zc ?_)
 first
  | (exact Zm (
      ⟨(w+1,v165),Zf hy⟩
      ) (by dsimp only;omega) ⟨rfl,rfl,rfl,rfl,rfl,rfl,rfl,rfl,rfl,trivial⟩ ⟨rfl,rfl,rfl,rfl,rfl,rfl,rfl,trivial⟩)
  | (exact Zm (
      ⟨(w+1,W),Zf hy⟩
      ) (by dsimp only;omega) ⟨rfl,rfl,rfl,rfl,rfl,rfl,rfl,rfl,rfl,trivial⟩ ⟨rfl,rfl,rfl,rfl,rfl,rfl,rfl,trivial⟩))
 · first |exact bN hb141|(
 refine Zq (Wx (t:=11) (p':=pMvs (mkM (apA b.n i j a.moves++apB b.n i j (b.moves.take (w+1))))) rfl (by rw [Zol hy hb141])) fun _=>?_;refine Ze ?_;(refine xL 132 Zb (xL 133 ZG (xL 13 Za ?_))<;>refine Zc ?_)
 first
  | (exact Zm (
      ⟨(w+1,v165),Zf hy⟩
      ) (by dsimp only;omega) ⟨rfl,rfl,rfl,rfl,rfl,rfl,rfl,rfl,rfl,trivial⟩ ⟨rfl,rfl,rfl,rfl,rfl,rfl,rfl,trivial⟩)
  | (exact Zm (
      ⟨(w+1,W),Zf hy⟩
      ) (by dsimp only;omega) ⟨rfl,rfl,rfl,rfl,rfl,rfl,rfl,rfl,rfl,trivial⟩ ⟨rfl,rfl,rfl,rfl,rfl,rfl,rfl,trivial⟩)))
 · first |exact bN hb131|(
 refine Zq (Wx (t:=11) (p':=pMvs (Hd a b i j)) rfl (by rw [Xj (show b.moves.length≤w by omega)];rfl)) fun _=>?_;have hol:=Zk0 a b i j;refine Ze ?_;(refine xL 166 (Zd 8 Zx) ?_<;>(refine yL 167 (Zk 8 ZA) fun v167 h=>?_;cases h)<;>refine xL 168 Zb ?_<;>(refine Kf 304 169 ZU (fun h169 ho169=>?_) (Tu (Hd a b i j)) (LC (Hd a b i j));have q169:En.one (PV.val h169)=true:=ho169;refine Zs (ZC (l:=169) 304 rfl rfl) fun _=>?_;refine Zs (ZH (l:=304) (p':= .own 93 3 (Gb a b i++Lj a b i (j+1)).length ((Gb a b i++Lj a b i (j+1)).flatMap cMv)) rfl (by rw [Zao,←Xy];exact Zm1 _ (Gb a b i++Lj a b i j) (Hd a b i j))) fun _=>?_)<;>refine xL 170 (Zd 8 Zx) ?_<;>refine YL 8 ZA YA ?_<;>refine Zc ?_)
 have hmore:=Zj2 (a:=a) (b:=b) hilt (show j+1≤b.n.toNat from hjlt);(have hl7:(Gb a b i++Lj a b i (j+1)).length≤100000:=by rw [Zao,←Xy,Xb];omega);rw [hall] at hmore;(refine Zv ?_<;>refine xL 171 (Zd 8 Zx) ?_<;>(refine yL 172 (Zk 8 ZA) fun v172 h=>?_;cases h)<;>refine xL 173 (YF 304 ZK) (xL 174 Yr ?_)<;>refine Zc ?_)
 refine cX ?_ ?_<;>intro hb174
 · first|exact bN hb174|(
 refine Ze ?_;((refine cP 175 (cA call194 (Ga)) fun va175 vb175 hva175 h=>?_;cases h)<;>refine xL 176 Zj (xL 177 Zj ?_)<;>refine ZE 4 Zh ?_<;>refine xL 5 Za ?_<;>refine Zc ?_)
 exact Z5 (k:=5) 4 kR (results147) rfl rfl rfl (Xa rfl) dC rfl (by rw [UT oM];rfl))
 · first|exact bN hb174|(
 refine Ze ?_;(refine xL 45 Zb (xL 46 ZG (xL 10 Za ?_))<;>refine Zc ?_)
 refine Zm (
  ⟨(j+1,hS3,hF3,h169),hjlt,hS3o,hF3o,ho169,by dsimp only;omega⟩
  ) (by dsimp only;omega) ⟨rfl,rfl,rfl,rfl,rfl,rfl,rfl,trivial⟩ ⟨rfl,rfl,rfl,rfl,rfl,rfl,rfl,trivial⟩))))))
 · first|exact bN hb44|(
 have hjm:j=b.n.toNat:=oM;subst hjm;rw [←Zap] at hM2l;refine Zq (ZH (l:=302) (p':= .own 3 1 (KE b.n a.start b.start (i+1)).length ((KE b.n a.start b.start (i+1)).map pInt)) rfl (by rw [Df])) fun _=>?_;refine Zq (ZH (l:=303) (p':= .own 3 1 (KE b.n a.fin b.fin (i+1)).length ((KE b.n a.fin b.fin (i+1)).map pInt)) rfl (by rw [Df])) fun _=>?_;refine Zq (ZH (l:=304) (p':= .own 93 3 (Gb a b (i+1)).length ((Gb a b (i+1)).flatMap cMv)) rfl (by rw [Zap])) fun _=>?_;refine Ze ?_;(refine xL 40 Zb (xL 41 ZG (xL 9 Za ?_))<;>refine Zc ?_)
 refine Zm (
  ⟨(i+1,hS2,hF2,hM2),hilt,hS2o,hF2o,hM2o,hM2l⟩
  ) (by dsimp only;omega) ⟨rfl,rfl,rfl,rfl,rfl,rfl,trivial⟩ ⟨rfl,rfl,rfl,rfl,rfl,rfl,rfl,trivial⟩))
 · first|exact bN hb39|(
 have hin:i=a.n.toNat:=oM;subst hin;rw [hall] at hMl;have hr:=hr hMl;refine nav ?_;refine Zq (Z6 (l:=8) (l':=302) (j:=2) rfl rfl rfl rfl) fun _=>?_;refine Zq (Z6 (l:=8) (l':=303) (j:=3) rfl rfl rfl rfl) fun _=>?_;refine Zq (Z6 (l:=8) (l':=304) (j:=4) rfl rfl rfl rfl) fun _=>?_;refine Zq (ZH (l:=8) (p':= .own 39 5 1 [pInt (a.n*b.n),pInt a.syms,pInts (shI b.n a.start b.start),pInts (shI b.n a.fin b.fin),pMvs (mkM (Wj a b).moves)]) rfl (by
  rw [ZS _ _ _ rfl,ZS _ _ _ rfl,Km _ _ _ rfl,Zge ha.st hb.st ha.ss hb.ss,Zge ha.fi hb.fi ha.fs hb.fs,hall];rfl)) fun _=>?_
 (refine Zv ?_<;>(refine yL 178 (Zu 8 Zh) fun v178 h=>?_;cases h)<;>(refine cP 179 (cA call199 hr) (fun va179 vb179 hva179 hvb179=>?_) (hsh:=r5.t E);cases hvb179)<;>refine xL 180 Zj (xL 181 Zj ?_)<;>refine ZE 4 Zh ?_<;>refine xL 5 Za ?_<;>refine Zc ?_)
 exact Z5 (k:=5) 4 kR (results147) rfl rfl rfl (Xa rfl) dC r5.s (by rw [US oM];rfl)))
theorem ZbE (a b:Aut) (hla:a.moves.length≤1000000) (hlb:b.moves.length≤1000000):AF prog 147 [ZN a,ZN b] (· =resW (Li a b)):=by
 by_cases h0:WK a b=0
 · obtain ⟨ha,hb,hs⟩:=Jk h0;rw [ZhH ha hb hs h0];obtain ⟨p0,p1,p2,p3,p4,E,h5,h2⟩:=Zgz (GD (mkA (Wj a b)));refine (ZbD a b hla hlb h0 h5 (E:=E) fun hl=>?_).mono fun p hp=>?_
   · have hr:=LK (mkA (Wj a b)) (XL hl oM);rw [h2] at hr;exact hr
   · rw [hp];by_cases h1:2000<a.n*b.n
     · rw [UT (.inl h1),UT h1];rfl
     · rw [US h1];by_cases h3:20000<(mkM (Wj a b).moves).length
       · rw [UT (.inr h3)];have:GD (mkA (Wj a b))= .error 13:=by
          unfold GD;rw [UT (.inr h3)]
         rw [this];rfl
       · rw [US (fun h=>h.elim h1 h3)];exact h2.symm
 · unfold Li;rw [UT h0];exact Cp a b _ h0 (Ge a b hla hlb)
theorem Yo:AggT prog 39 5=true:=by kernel_rfl
theorem Zfv:ElT prog 117 36 1 24 (.slice none 0 0):=⟨underlying117,by kernel_rfl,rfl,dC⟩
theorem Pv:ElT prog 139 4 1 1 (.bool false):=⟨underlying139,by kernel_rfl,rfl,dC⟩
theorem Dg:ElT prog 36 3 1 8 (.int .i64 0):=⟨underlying36,by kernel_rfl,rfl,dC⟩
theorem S1:FldT prog 39 0 0=true:=by kernel_rfl
theorem D2:FldT prog 39 3 3=true:=by kernel_rfl
theorem S2:FldT prog 39 4 4=true:=by kernel_rfl
theorem Rz:NoAgg prog 36=true:=by kernel_rfl
theorem Dh:NoAgg prog 37=true:=by kernel_rfl
theorem Oz:NoAgg prog 3=true:=by kernel_rfl
theorem Zd3:NoAgg prog 4=true:=by kernel_rfl
theorem Pw:SlT prog 117 36 1=true:=by kernel_rfl
theorem Px:SlT prog 139 4 1=true:=by kernel_rfl
theorem Zaq:SlT prog 36 3 1=true:=by kernel_rfl
theorem Zh8:SlT prog 37 93 3=true:=by kernel_rfl
theorem Di:WU prog 39=some ((.agg #[(.int .i64 0),(.int .i64 0),(.slice none 0 0),(.slice none 0 0),(.slice none 0 0)]),([0,1,2,3,4]:List Nat).map fun o=>(o,1)):=by kernel_rfl
theorem Zh9:WU prog 93=some ((.agg #[(.int .i64 0),(.int .i64 0),(.int .i64 0)]),([0,1,2]:List Nat).map fun o=>(o,1)):=by kernel_rfl
theorem Zia:(prog.info? 36).map (·.size)=some 1:=by kernel_rfl
theorem Zib:(prog.info? 37).map (·.size)=some 1:=by kernel_rfl
theorem Zk1:(prog.info? 3).map (·.size)=some 1:=by kernel_rfl
theorem Zk2:(prog.info? 4).map (·.size)=some 1:=by kernel_rfl
theorem K6:ZeroT prog 39 (.agg #[(.int .i64 0),(.int .i64 0),(.slice none 0 0),(.slice none 0 0),(.slice none 0 0)]):=by unfold ZeroT;kernel_rfl
def D3 (w:List Int) (n:Int):Aut:=⟨(1+w.length:Nat),n,[0],[(w.length:Nat)],w.map fun k=>⟨0,1,k⟩⟩
theorem Zic (n:Nat) (k:Int):D3 [k] n=GF n k:=rfl
theorem Zk3 (n:Nat):D3 [] n=RI n:=rfl
def CR (w:List Int) (i:Nat):List Bool:=if i=0 then [false] else (List.replicate (w.length+1) false).set w.length true
theorem Zk4 {w:List Int} {i:Nat} (hi:i≤1):(CR w i).length=if i=0 then 1 else w.length+1:=by
 unfold CR
 split<;>simp
def S3 (w:List Int) (i:Nat):List Int:=if w.length<i then [((w.length:Nat):Int)] else []
theorem Zk5 (w:List Int) (i:Nat):(S3 w i).length≤1:=by unfold S3;split<;>simp
theorem Zm2 {w:List Int} {m:Nat} (h:m<w.length+1):((CR w 1).map ZM)[m*1]? =some (ZM (decide (m=w.length))):=by
 unfold CR
 rw [US dC,Xq,Xh]
 by_cases e:m=w.length
 · subst e;rw [Va sM,UQ rfl];rfl
 · rw [Vi (fun h=>e h.symm),List.getElem?_replicate_of_lt h,UR e];rfl
theorem Zm3 (n:Int):Rr (.agg [pInt 1,pInt n,pInts [0], .val (.slice none 0 0), .val (.slice none 0 0)]) (.agg [pInt 1,pInt n,pInts [0], .val (.slice none 0 0),pMvs []]):=Rr.agg rfl fun i p p' h1 h2=>by
 match i with
 |0=>cases h1;cases h2;exact Rr.rfl' _
 |1=>cases h1;cases h2;exact Rr.rfl' _
 |2=>cases h1;cases h2;exact Rr.rfl' _
 |3=>cases h1;cases h2;exact Rr.rfl' _
 |4=>cases h1;cases h2;exact Rr.nil
 |i+5=>simp at h1
set_option maxHeartbeats 4000000 in
theorem Zid (w :List Int) (n:Int) (hw:w.length≤1):AF prog 85 [RX [w],pInt n] (· =ZN (D3 w n)):=by
 refine AF.of_body 115 func85 rfl ntmps85 (Xa rfl) ?_
 intro w0 M0 vs hl hv
 obtain ⟨v0,v1,rfl⟩:=YI hl
 obtain rfl:=hv 1 _ _ rfl rfl
 clear hl hv
 refine Ze ?_
 (refine Zw [(.int .i64 0),(.int .i64 0),(.slice none 0 0),(.slice none 0 0),(.slice none 0 0)] 5 4 K6 fun h4=>?_<;>refine Zi ?_)
 (refine xL 13 Zb ?_<;>(refine ZO (kk:=1) 14 Dg fun h14 ho14=>?_;refine Zs (En.freeze (l:=14) (t:=14) rfl rfl) fun _=>?_;refine Zs (Wx (t:=14) (p':=pInts [0]) rfl rfl) fun _=>?_)<;>(refine xL 15 (ZL Di) ?_;refine Zs (Zi0 (t:=15) (p':= .agg [pInt 1,pInt n,pInts [0], .val (.slice none 0 0),pMvs []]) rfl (Zm3 n)) fun _=>?_)<;>refine Zw [(.int .i64 0),(.int .i64 0),(.slice none 0 0),(.slice none 0 0),(.slice none 0 0)] 5 5 K6 fun h5=>?_<;>refine ZE 5 Yo ?_<;>refine Zi ?_)
 (refine ZO (kk:=1) 16 Pv fun h16 ho16=>?_<;>refine xL 6 Za ?_<;>refine Zc ?_)
 refine Zq (ZC (l:=16) 200 rfl rfl) fun _=>?_
 (refine Zv ?_<;>refine xL 7 Za ?_<;>refine Zc ?_)
 refine ZD (ι:={q:Nat×Value//q.1≤1∧q.2.oneCell'=true}) (fun k=>⟨[(0,_,_),(1,_,_),(4,_,_),(5,_,_),(6,k.1.2, .val k.1.2),(7, .int .i64 k.1.1,pInt k.1.1)],[(4,_,_),(5,h5, .own 39 5 1 [pInt (1+(w.take k.1.1).length:Nat),pInt n,pInts [0], .val (.slice none 0 0),pMvs ((w.take k.1.1).map fun k=>⟨0,1,k⟩)]),(200,k.1.2, .own 4 1 (CR w k.1.1).length ((CR w k.1.1).map ZM))]⟩) (fun k=>1-k.1.1) ⟨(0,h16),Xd _,ho16⟩ (fun a w H=>H.weaken ⟨rfl,rfl,rfl,rfl,rfl,rfl,trivial⟩ ⟨rfl,rfl,rfl,trivial⟩) ?_
 rintro ⟨⟨i,hb⟩,hi,ho⟩
 dsimp only
 dsimp only at hi ho
 refine Ze ?_
 (refine xL 17 Zb (xL 18 Zb (xL 19 (ZT Pw) (xL 20 ZP ?_)))<;>refine Zc ?_)
 refine cX ?_ ?_<;>intro hb20
 · first | exact bN hb20|(
 obtain rfl:i=0:=by
  (have h:(i:Int)<1:=by simpa using hb20);omega
 have e1:([w].map pInts)[0*1]? =some (pInts w):=rfl;refine Ze ?_;(refine xL 8 Za ?_<;>refine Zi ?_)
 (refine xL 9 Za ?_<;>refine Zc ?_)
 refine ZD (ι:={q:Nat×Value//q.1≤w.length∧q.2.oneCell'=true}) (fun k=>⟨[(0,_,_),(1,_,_),(4,_,_),(5,_,_),(7,_,_),(6,k.1.2, .val k.1.2),(8, .int .i64 k.1.1,pInt k.1.1),(9, .int .i64 k.1.1,pInt k.1.1)],[(4,_,_),(5,h5, .own 39 5 1 [pInt (1+(w.take k.1.1).length:Nat),pInt n,pInts [0], .val (.slice none 0 0),pMvs ((w.take k.1.1).map fun k=>⟨0,1,k⟩)]),(200,k.1.2, .own 4 1 (List.replicate (k.1.1+1) false).length ((List.replicate (k.1.1+1) false).map ZM))]⟩) (fun k=>w.length-k.1.1) ⟨(0,hb),Xd _,ho⟩ (fun a w H=>H.weaken ⟨rfl,rfl,rfl,rfl,rfl,rfl,rfl,rfl,trivial⟩ ⟨rfl,rfl,rfl,trivial⟩) ?_;rintro ⟨⟨j,hc⟩,hj,hco⟩;dsimp only;dsimp only at hj hco;refine Ze ?_;(refine xL 23 Zb (xL 24 Zb (xL 25 Zb (xL 26 (ZI Pw) ?_)))<;>(refine yL 27 (Z9 Rz) fun v27 h=>?_;cases h)<;>refine xL 28 (ZT Zaq) (xL 29 ZP ?_)<;>refine Zc ?_)
 refine cX ?_ ?_<;>intro hb29
 · first |exact bN hb29|(
 obtain rfl:j=0:=oM;obtain ⟨x,rfl⟩:∃x,w=[x]:=by
  match w,hw,hb29 with
  |[],_,h=>simp at h
  |[x],_,_=>exact ⟨x,rfl⟩
 have e2:([x].map pInt)[0*1]? =some (pInt x):=rfl;refine Zq (ZH (l:=5) (p':= .own 39 5 1 [pInt 1,pInt n,pInts [0], .val (.slice none 0 0),pMvs []]) rfl rfl) fun _=>?_;refine Ze ?_;(refine xL 10 Za ?_<;>refine Zi ?_)
 (refine xL 11 Za ?_<;>refine Zc ?_)
 refine ZD (ι:={k:Nat//k=0}) (fun k=>⟨[(0,_,_),(1,_,_),(4,_,_),(5,_,_),(6,_,_),(7,_,_),(8,_,_),(9,_,_),(10,_,_),(11, .int .i64 k.1,pInt k.1)],[(4,_,_),(5,_,_),(200,_,_)]⟩) (fun k=>0) ⟨0,rfl⟩ (fun a w H=>H.weaken ⟨rfl,rfl,rfl,rfl,rfl,rfl,rfl,rfl,rfl,rfl,trivial⟩ ⟨rfl,rfl,rfl,trivial⟩) ?_;rintro ⟨_,rfl⟩;dsimp only;refine Ze ?_;(refine xL 32 Zb (xL 33 (Zd 5 S2) ?_)<;>(refine yL 34 (Zk 5 Dh) fun v34 h=>?_;cases h)<;>refine xL 35 (ZT Zh8) (xL 36 ZP ?_)<;>refine Zc ?_)
 refine cX ?_ ?_<;>intro hb36
 · exact UU hb36 sM
 · refine Ze ?_;(refine xL 69 Zb (xL 70 ZP ?_)<;>refine Zc ?_)
   refine cX ?_ ?_<;>intro hb70
   · refine Ze ?_;(refine xL 71 (Zd 5 S1) ?_<;>(refine yL 72 (Zk 5 Oz) fun v72 h=>?_;cases h)<;>refine xL 10 Za ?_<;>refine Zi ?_)
     (refine xL 73 (Zd 5 S1) ?_<;>(refine yL 74 (Zk 5 Oz) fun v74 h=>?_;cases h)<;>refine xL 75 ZG (xL 76 (Zd 5 S1) ?_)<;>refine YL 5 Oz Zk1 ?_<;>refine Zi ?_)
     (refine xL 77 Zb ?_<;>refine ZO (kk:=1) 78 Pv fun h78 ho78=>?_<;>(refine ZW 200 78 79 Pv fun h79 ho79=>?_;refine Zs (ZC (l:=79) 200 rfl rfl) fun _=>?_)<;>refine xL 6 Za ?_<;>refine Zc ?_)
     (refine ZZ (fun i=>([14]:List Nat).elem i) [5] kR ?_<;>refine xD 0 80 rfl (Zd 5 S2) ?_<;>(refine yD 1 81 rfl (Zk 5 Dh) fun v81 h=>?_;cases h)<;>refine xD 2 82 rfl Zb ?_<;>refine xD 3 83 rfl Zb ?_<;>refine xD 4 84 rfl Zb ?_<;>refine xD 5 85 rfl Zb ?_<;>refine xD 6 86 rfl (ZI Pw) ?_<;>(refine yD 7 87 rfl (Z9 Rz) fun v87 h=>?_;cases h)<;>refine xE 8 88 rfl Zb ?_<;>refine xE 9 89 rfl (ZI Zaq) ?_<;>(refine yE 10 90 rfl (Z9 Oz) fun v90 h=>?_;cases h)<;>refine xE 11 91 rfl (ZL Zh9) ?_<;>(refine Zr 12 kR ?_)<;>(refine Zo rfl fun w9 M9 N9 DQ back=>?_)<;>(refine cS 92 (cA call133 (Gy [] ⟨0,1,x⟩ (Xd _) List.Pairwise.nil)) fun v92 h=>?_;cases h)<;>refine Zl (back _ (nrm ?_))<;>refine xE 13 93 rfl (Zd 5 S2) ?_<;>(refine Zr 14 kR ?_)<;>(refine Kr rfl rfl kR fun DQ back=>?_)<;>refine YL 5 Dh Zib ?_<;>refine Zl (back _ (nav ?_))<;>try dsimp only)
     (refine Zv ?_<;>refine xL 94 Zb (xL 8 Za ?_)<;>refine Zi ?_)
     (refine xL 30 Zb (xL 31 ZG (xL 9 Za ?_))<;>refine Zc ?_)
     refine Zm (
      ⟨(1,h79),Xg _,ho79⟩
      ) (by dsimp only;omega) ⟨rfl,rfl,rfl,rfl,rfl,rfl,rfl,rfl,trivial⟩ ⟨rfl,rfl,rfl,trivial⟩
   · exact UU dC hb70)
 · first|exact bN hb29|(
 obtain rfl:j=w.length:=oM;have htk:w.take 1=w:=Xj hw;refine Ze ?_;(refine xL 95 Zb (xL 96 Zb (xL 97 (Yh 200 Px) ?_))<;>refine YL 200 Zd3 Zk2 ?_<;>refine Zc ?_)
 refine Zq (ZH (l:=200) (p':= .own 4 1 (CR w 1).length ((CR w 1).map ZM)) rfl (by unfold CR;rw [US dC,Xt,VU,Xq])) fun _=>?_;refine Zq (ZH (l:=5) (p':= .own 39 5 1 [pInt (1+(w.take 1).length:Nat),pInt n,pInts [0], .val (.slice none 0 0),pMvs ((w.take 1).map fun k=>⟨0,1,k⟩)]) rfl (by rw [htk,Vy])) fun _=>?_;(refine Zv ?_<;>refine xL 21 Zb (xL 22 ZG (xL 7 Za ?_))<;>refine Zc ?_)
 refine Zm (
  ⟨(1,hc),Xg _,hco⟩
  ) (by dsimp only;omega) ⟨rfl,rfl,rfl,rfl,rfl,rfl,trivial⟩ ⟨rfl,rfl,rfl,trivial⟩))
 · first | exact bN hb20|(
 obtain rfl:i=1:=by
  have h:¬(i:Int)<1:=fun h=>hb20 (by simpa using h);omega
 have htk:w.take 1=w:=Xj hw;refine Zq (ZH (l:=5) (p':= .own 39 5 1 [pInt (1+w.length:Nat),pInt n,pInts [0], .val (.slice none 0 0),pMvs (w.map fun k=>⟨0,1,k⟩)]) rfl (by rw [htk])) fun _=>?_;have hfl:(CR w 1).length=w.length+1:=Zk4 (i:=1) (Xg _);refine Ze ?_;(refine xL 12 Za ?_<;>refine Zc ?_)
 refine Zq (W1 (l:=5) [pInt (1+w.length:Nat),pInt n,pInts [0], .own 3 1 0 [],pMvs (w.map fun k=>⟨0,1,k⟩)] rfl rfl (fun i p p' h1 h2=>by
  match i with
  |0=>cases h1;cases h2;exact .inl rfl
  |1=>cases h1;cases h2;exact .inl rfl
  |2=>cases h1;cases h2;exact .inl rfl
  |3=>cases h1;cases h2;exact .inr ⟨rfl,_,_,rfl⟩
  |4=>cases h1;cases h2;exact .inl rfl
  |i+5=>simp at h2)) fun _=>?_
 refine Zq (Ww (l:=5) (l':=301) (j:=3) rfl rfl rfl rfl) fun i=>?_;obtain ⟨v301,ho301⟩:=i;dsimp only [List.set];refine ZD (ι:={q:Nat×Value//q.1≤w.length+1∧q.2.oneCell'=true}) (fun k=>⟨[(4,_,_),(5,_,_),(6,_,_),(12, .int .i64 k.1.1,pInt k.1.1)],[(4,_,_),(200,_,_),(5,h5, .own 39 5 1 [pInt (1+w.length:Nat),pInt n,pInts [0], .val k.1.2,pMvs (w.map fun k=>⟨0,1,k⟩)]),(301,k.1.2, .own 3 1 (S3 w k.1.1).length ((S3 w k.1.1).map pInt))]⟩) (fun k=>w.length+1-k.1.1) ⟨(0,v301),Xd _,ho301⟩ (fun a w H=>H.weaken ⟨rfl,rfl,rfl,rfl,trivial⟩ ⟨rfl,rfl,rfl,rfl,trivial⟩) ?_;rintro ⟨⟨m,hF⟩,hm,hFo⟩;dsimp only;dsimp only at hm hFo;have hll:=Zk5 w m;refine Ze ?_;(refine xL 98 Zb (xL 99 Zb (xL 100 (YF 200 Px) (xL 101 ZP ?_)))<;>refine Zc ?_)
 refine cX ?_ ?_<;>intro hb101
 · first | exact bN hb101|(
 have hml:m<w.length+1:=oM;have e3:=Zm2 hml;refine Ze ?_;(refine xL 104 Zb (xL 105 Zb (xL 106 (Yh 200 Px) ?_))<;>(refine yL 107 (Zk 200 Zd3) fun v107 h=>?_;cases h)<;>refine Zc ?_)
 refine cX ?_ ?_<;>intro hb107
 · first |exact bN hb107|(
 (have hmw:m=w.length:=by simpa using hb107);(have hT1:S3 w m=[]:=by unfold S3;rw [US oM]);(have hT2:S3 w (m+1)=[((m:Nat):Int)]:=by unfold S3;rw [UT oM,hmw]);refine Ze ?_;(refine xL 108 (Zd 5 D2) ?_<;>(refine yL 109 (Zk 5 Rz) fun v109 h=>?_;cases h)<;>refine xL 110 Zb ?_<;>refine ZO (kk:=1) 111 Dg fun h111 ho111=>?_<;>(refine ZW 301 111 112 Dg fun h112 ho112=>?_;refine Zs (ZC (l:=112) 301 rfl rfl) fun _=>?_;refine Zs (ZH (l:=301) (p':= .own 3 1 (S3 w (m+1)).length ((S3 w (m+1)).map pInt)) rfl (by rw [hT1,hT2];rfl)) fun _=>?_)<;>refine xL 113 (Zd 5 D2) ?_<;>refine YL 5 Rz Zia ?_<;>refine Zi ?_)
 (refine xL 102 Zb (xL 103 ZG (xL 12 Za ?_))<;>refine Zc ?_)
 first
  | (exact Zm (
      ⟨(m+1,h112),by dsimp only;omega,ho112⟩
      ) (by dsimp only;omega) ⟨rfl,rfl,rfl,rfl,trivial⟩ ⟨rfl,rfl,rfl,rfl,trivial⟩)
  | (exact Zm (
      ⟨(m+1,hF),by dsimp only;omega,hFo⟩
      ) (by dsimp only;omega) ⟨rfl,rfl,rfl,rfl,trivial⟩ ⟨rfl,rfl,rfl,rfl,trivial⟩))
 · first |exact bN hb107|(
 (have hmw:m≠w.length:=by simpa using hb107);(have hT:S3 w (m+1)=S3 w m:=by unfold S3;rw [US oM,US oM]);refine Zq (ZH (l:=301) (p':= .own 3 1 (S3 w (m+1)).length ((S3 w (m+1)).map pInt)) rfl (by rw [hT])) fun _=>?_;refine Ze ?_;(refine xL 102 Zb (xL 103 ZG (xL 12 Za ?_))<;>refine Zc ?_)
 first
  | (exact Zm (
      ⟨(m+1,h112),by dsimp only;omega,ho112⟩
      ) (by dsimp only;omega) ⟨rfl,rfl,rfl,rfl,trivial⟩ ⟨rfl,rfl,rfl,rfl,trivial⟩)
  | (exact Zm (
      ⟨(m+1,hF),by dsimp only;omega,hFo⟩
      ) (by dsimp only;omega) ⟨rfl,rfl,rfl,rfl,trivial⟩ ⟨rfl,rfl,rfl,rfl,trivial⟩)))
 · first|exact bN hb101|(
 (have hT:S3 w m=[((w.length:Nat):Int)]:=by unfold S3;rw [UT oM]);refine Zq (ZH (l:=301) (p':= .own 3 1 [((w.length:Nat):Int)].length ([((w.length:Nat):Int)].map pInt)) rfl (by rw [hT])) fun _=>?_;refine nav ?_;refine Zq (Z6 (l:=5) (l':=301) (j:=3) rfl rfl rfl rfl) fun _=>?_;(refine Zv ?_<;>(refine yL 114 (Zu 5 Yo) fun v114 h=>?_;cases h)<;>refine ZE 4 Yo ?_<;>refine Zc ?_)
 exact PM (k:=5) 4 kR (results85) rfl rfl (Xa rfl) dC rfl rfl))
theorem Zar (x:Except Int Aut):∃p0 p1 p2 p3 p4 E,R5 p0 p1 p2 p3 p4∧resW x= .tup [.agg [p0,p1,p2,p3,p4],pInt E]:=by
 rcases O1 x with ⟨A,_,h⟩|⟨e,_,h⟩
 · exact ⟨_,_,_,_,_,_,R5.aut A,h⟩
 · exact ⟨_,_,_,_,_,_,R5.raw,h⟩
theorem Zas (w:List Int) (n:Int) (hw:w.length≤1):AF prog 98 [pInts w,pInt n] (· =resW (Jd (D3 w n))):=by
 obtain ⟨p0,p1,p2,p3,p4,E,r5,hres⟩:=Zar (Jd (D3 w n))
 have hj:=Of (D3 w n) (by show (w.map _).length≤_;rw [Xe];omega)
 rw [hres] at hj ⊢
 obtain ⟨o0,o1,o2,o3,o4⟩:=r5.o
 refine AF.of_body 13 func98 rfl ntmps98 (Xa rfl) ?_
 intro w0 M0 vs hl hv
 obtain ⟨v0,v1,rfl⟩:=YI hl
 obtain rfl:=hv 1 _ _ rfl rfl
 clear hl hv
 refine Ze ?_
 (refine Zw [(.int .i64 0),(.int .i64 0),(.slice none 0 0),(.slice none 0 0),(.slice none 0 0)] 5 4 K6 fun h4=>?_<;>refine xL 5 Za ?_<;>refine Zi ?_)
 (refine xL 6 Zb ?_<;>(refine ZO (kk:=1) 7 Zfv fun h7 ho7=>?_;refine Zs (En.freeze (l:=7) (t:=7) rfl rfl) fun _=>?_;refine Zs (Wx (t:=7) (p':=RX [w]) rfl rfl) fun _=>?_)<;>refine xL 8 Zb ?_<;>(refine cD 9 (cA call85 (Zid w n hw)) fun v9 hv9=>?_;clear hv9)<;>(refine cP 10 (cA (call143) hj) (fun va10 vb10 hva10 hvb10=>?_) (hsh:=r5.t E);cases hvb10)<;>refine xL 11 Zj (xL 12 Zj ?_)<;>refine ZE 4 Yo ?_<;>refine xL 5 Za ?_<;>refine Zc ?_)
 exact Z5 (k:=5) 4 kR (results98) rfl rfl rfl (Xa rfl) dC r5.s rfl
theorem Zd4 (a b:Aut) (ha:a.moves.length≤1000000) (hb:b.moves.length≤1000000):AF prog 100 [pInt 3,ZN a,ZN b] (· =resW (Wk 3 a b)):=by
 rw [show Wk 3 a b=Gs a b from rfl]
 obtain ⟨p0,p1,p2,p3,p4,E,r5,hres⟩:=Zar (Gs a b)
 have hj:=S0 a b ha hb
 rw [hres] at hj ⊢
 obtain ⟨o0,o1,o2,o3,o4⟩:=r5.o
 refine AF.of_body 28 func100 rfl ntmps100 (Xa rfl) ?_
 intro w0 M0 vs hl hv
 obtain ⟨v0,v1,v2,rfl⟩:=LX hl
 obtain rfl:=hv 0 _ _ rfl rfl
 clear hl hv
 refine Ze ?_
 (refine ZB 4 5 fun h4=>?_<;>refine ZB 5 5 fun h5=>?_<;>refine Zw [(.int .i64 0),(.int .i64 0),(.slice none 0 0),(.slice none 0 0),(.slice none 0 0)] 5 6 K6 fun h6=>?_<;>refine xL 7 Za ?_<;>refine Zi ?_)
 (refine xL 8 Zb ?_<;>refine Zi ?_)
 (refine xL 10 Ye (xL 9 Za ?_)<;>refine Zc ?_)
 refine cX ?_ ?_<;>intro hb9
 · try (exact UU hb9 dC)
   refine Ze ?_;((refine yL 11 (Zu 4 Yo) fun v11 h=>?_;cases h)<;>(refine yL 12 (Zu 5 Yo) fun v12 h=>?_;cases h)<;>(refine cP 13 (cA (call144) hj) (fun va13 vb13 hva13 hvb13=>?_) (hsh:=r5.t E);cases hvb13)<;>refine xL 14 Zj (xL 15 Zj ?_)<;>refine ZE 6 Yo ?_<;>refine xL 7 Za ?_<;>refine Zc ?_)
   exact Z5 (k:=5) 6 kR (results100) rfl rfl rfl (Xa rfl) dC r5.s rfl
 · try (exact UU rfl hb9)
theorem Zd5 (a b:Aut) (ha:a.moves.length≤1000000) (hb:b.moves.length≤1000000):AF prog 100 [pInt 4,ZN a,ZN b] (· =resW (Wk 4 a b)):=by
 rw [show Wk 4 a b=J9 a b from rfl]
 obtain ⟨p0,p1,p2,p3,p4,E,r5,hres⟩:=Zar (J9 a b)
 have hj:=Zfu a b ha hb
 rw [hres] at hj ⊢
 obtain ⟨o0,o1,o2,o3,o4⟩:=r5.o
 refine AF.of_body 28 func100 rfl ntmps100 (Xa rfl) ?_
 intro w0 M0 vs hl hv
 obtain ⟨v0,v1,v2,rfl⟩:=LX hl
 obtain rfl:=hv 0 _ _ rfl rfl
 clear hl hv
 refine Ze ?_
 (refine ZB 4 5 fun h4=>?_<;>refine ZB 5 5 fun h5=>?_<;>refine Zw [(.int .i64 0),(.int .i64 0),(.slice none 0 0),(.slice none 0 0),(.slice none 0 0)] 5 6 K6 fun h6=>?_<;>refine xL 7 Za ?_<;>refine Zi ?_)
 (refine xL 8 Zb ?_<;>refine Zi ?_)
 (refine xL 10 Ye (xL 9 Za ?_)<;>refine Zc ?_)
 refine cX ?_ ?_<;>intro hb9
 · try (exact UU hb9 dC)
 · try (exact UU rfl hb9)
   refine Ze ?_;(refine xL 17 Ye (xL 16 Za ?_)<;>refine Zc ?_)
   refine cX ?_ ?_<;>intro hb16
   · try (exact UU hb16 dC)
     refine Ze ?_;((refine yL 18 (Zu 4 Yo) fun v18 h=>?_;cases h)<;>(refine yL 19 (Zu 5 Yo) fun v19 h=>?_;cases h)<;>(refine cP 20 (cA (call146) hj) (fun va20 vb20 hva20 hvb20=>?_) (hsh:=r5.t E);cases hvb20)<;>refine xL 21 Zj (xL 22 Zj ?_)<;>refine ZE 6 Yo ?_<;>refine xL 7 Za ?_<;>refine Zc ?_)
     exact Z5 (k:=5) 6 kR (results100) rfl rfl rfl (Xa rfl) dC r5.s rfl
   · try (exact UU rfl hb16)
theorem Zd6 (a b:Aut) (ha:a.moves.length≤1000000) (hb:b.moves.length≤1000000):AF prog 100 [pInt 5,ZN a,ZN b] (· =resW (Wk 5 a b)):=by
 rw [show Wk 5 a b=Li a b from rfl]
 obtain ⟨p0,p1,p2,p3,p4,E,r5,hres⟩:=Zar (Li a b)
 have hj:=ZbE a b ha hb
 rw [hres] at hj ⊢
 obtain ⟨o0,o1,o2,o3,o4⟩:=r5.o
 refine AF.of_body 28 func100 rfl ntmps100 (Xa rfl) ?_
 intro w0 M0 vs hl hv
 obtain ⟨v0,v1,v2,rfl⟩:=LX hl
 obtain rfl:=hv 0 _ _ rfl rfl
 clear hl hv
 refine Ze ?_
 (refine ZB 4 5 fun h4=>?_<;>refine ZB 5 5 fun h5=>?_<;>refine Zw [(.int .i64 0),(.int .i64 0),(.slice none 0 0),(.slice none 0 0),(.slice none 0 0)] 5 6 K6 fun h6=>?_<;>refine xL 7 Za ?_<;>refine Zi ?_)
 (refine xL 8 Zb ?_<;>refine Zi ?_)
 (refine xL 10 Ye (xL 9 Za ?_)<;>refine Zc ?_)
 refine cX ?_ ?_<;>intro hb9
 · try (exact UU hb9 dC)
 · try (exact UU rfl hb9)
   refine Ze ?_;(refine xL 17 Ye (xL 16 Za ?_)<;>refine Zc ?_)
   refine cX ?_ ?_<;>intro hb16
   · try (exact UU hb16 dC)
   · try (exact UU rfl hb16)
     refine Ze ?_;((refine yL 23 (Zu 4 Yo) fun v23 h=>?_;cases h)<;>(refine yL 24 (Zu 5 Yo) fun v24 h=>?_;cases h)<;>(refine cP 25 (cA (call147) hj) (fun va25 vb25 hva25 hvb25=>?_) (hsh:=r5.t E);cases hvb25)<;>refine xL 26 Zj (xL 27 Zj ?_)<;>refine ZE 6 Yo ?_<;>refine xL 7 Za ?_<;>refine Zc ?_)
     exact Z5 (k:=5) 6 kR (results100) rfl rfl rfl (Xa rfl) dC r5.s rfl
set_option maxHeartbeats 1000000 in
theorem Zie {acts:List ByteArray} (a b:Aut) (ha:IsMin a∧a.syms=acts.length) (hb:IsMin b∧b.syms=acts.length):AF prog 99 [ZN a,ZN b] (· =resW (Wk 6 a b)):=by
 rw [show Wk 6 a b=Jg a b from rfl]
 have mX:=Ox hb ha
 have la:=ha.1.aok.ml
 have lb:=hb.1.aok.ml
 obtain ⟨p0,p1,p2,p3,p4,E,r5,hres,hc⟩:=Hf (okO (Gs b a))
 have hj:=S0 b a oM oM
 rw [mX.lim,hres] at hj
 obtain ⟨o0,o1,o2,o3,o4⟩:=r5.o
 refine AF.of_body 33 func99 rfl ntmps99 (Xa rfl) ?_
 intro w0 M0 vs hl hv
 obtain ⟨v0,v1,rfl⟩:=YI hl
 clear hl hv
 refine Ze ?_
 (refine ZB 2 5 fun h2=>?_<;>refine ZB 3 5 fun h3=>?_<;>refine Zw [(.int .i64 0),(.int .i64 0),(.slice none 0 0),(.slice none 0 0),(.slice none 0 0)] 5 4 K6 fun h4=>?_<;>refine xL 5 Za ?_<;>refine Zi ?_)
 ((refine yL 10 (Zu 3 Yo) fun v10 h=>?_;cases h)<;>(refine yL 11 (Zu 2 Yo) fun v11 h=>?_;cases h)<;>(refine cP 12 (cA (call144) hj) (fun va12 vb12 hva12 hvb12=>?_) (hsh:=r5.t E);cases hvb12)<;>refine xL 9 Zb (xL 13 Zj (xL 14 Zj ?_))<;>refine Zw [(.int .i64 0),(.int .i64 0),(.slice none 0 0),(.slice none 0 0),(.slice none 0 0)] 5 6 K6 fun h6=>?_<;>refine ZE 6 Yo ?_<;>refine xL 7 Za ?_<;>refine Zi ?_)
 (refine xL 15 Zb (xL 16 Yv ?_)<;>refine Zc ?_)
 refine cX ?_ ?_<;>intro hb16
 · first|exact bN hb16|(
 have hn:okO (Gs b a)=none∧E=13:=by
  rcases hc with h|⟨A,_,h,_⟩
  · exact h
  · exact UU h (by simpa using hb16)
 obtain ⟨hn,rfl⟩:=hn;(have hlp:Jg a b= .error 13:=by unfold Jg;rw [mX.lim,hn];rfl);rw [hlp];refine Ze ?_;(refine xL 17 (ZL Di) (xL 18 Zb ?_)<;>refine ZE 4 Yo ?_<;>refine xL 5 Za ?_<;>refine Zc ?_)
 exact Z5 (k:=5) 4 kR (results99) rfl rfl rfl (Xa rfl) dC rfl rfl)
 · first |exact bN hb16|(
 have hC:∃C,okO (Gs b a)=some C∧E=0∧p0=pInt C.n∧p1=pInt C.syms∧p2=pInts C.start∧p3=pInts C.fin∧p4=pMvs C.moves:=by
  rcases hc with ⟨_,h⟩|h
  · exact UU h (by simp at hb16;omega)
  · exact h
 clear hc;obtain ⟨C,hC,rfl,rfl,rfl,rfl,rfl,rfl⟩:=hC;obtain ⟨hC1,hC2⟩:=mX.ok hC;have mS:=Ru hC2.1 hC2.2;have lC:=hC2.1.aok.ml;obtain ⟨p0,p1,p2,p3,p4,E,r5,hres,hc⟩:=Hf (okO (JC C));have hj:=Zh7 C oM;rw [mS.lim,hres] at hj;obtain ⟨o0,o1,o2,o3,o4⟩:=r5.o;refine Ze ?_;((refine yL 20 (Zu 6 Yo) fun v20 h=>?_;cases h)<;>(refine cP 21 (cA (call145) hj) (fun va21 vb21 hva21 hvb21=>?_) (hsh:=r5.t E);cases hvb21)<;>refine xL 19 Zb (xL 22 Zj (xL 23 Zj ?_))<;>refine Zw [(.int .i64 0),(.int .i64 0),(.slice none 0 0),(.slice none 0 0),(.slice none 0 0)] 5 8 K6 fun h8=>?_<;>refine ZE 8 Yo ?_<;>refine xL 7 Za ?_<;>refine Zi ?_)
 (refine xL 24 Zb (xL 25 Yv ?_)<;>refine Zc ?_)
 refine cX ?_ ?_<;>intro hb25
 · first|exact bN hb25|(
 have hn:okO (JC C)=none∧E=13:=by
  rcases hc with h|⟨A,_,h,_⟩
  · exact h
  · exact UU h (by simpa using hb25)
 obtain ⟨hn,rfl⟩:=hn;(have hlp:Jg a b= .error 13:=by unfold Jg;rw [hC1];dsimp only;rw [mS.lim,hn];rfl);rw [hlp];refine Ze ?_;(refine xL 26 (ZL Di) (xL 27 Zb ?_)<;>refine ZE 4 Yo ?_<;>refine xL 5 Za ?_<;>refine Zc ?_)
 exact Z5 (k:=5) 4 kR (results99) rfl rfl rfl (Xa rfl) dC rfl rfl)
 · first|exact bN hb25|(
 have hS:∃S,okO (JC C)=some S∧E=0∧p0=pInt S.n∧p1=pInt S.syms∧p2=pInts S.start∧p3=pInts S.fin∧p4=pMvs S.moves:=by
  rcases hc with ⟨_,h⟩|h
  · exact UU h (by simp at hb25;omega)
  · exact h
 clear hc;obtain ⟨S,hS,rfl,rfl,rfl,rfl,rfl,rfl⟩:=hS;obtain ⟨hS1,hS2⟩:=mS.ok hS;have mT:=Ox ha hS2;have lS:=hS2.1.aok.ml;(have hlp:Jg a b=Gs a S:=by unfold Jg;rw [hC1];dsimp only;rw [hS1]);rw [hlp];obtain ⟨p0,p1,p2,p3,p4,E,r5,hres,hc⟩:=Hf (okO (Gs a S));have hj:=S0 a S oM oM;rw [mT.lim,hres] at hj;rw [mT.lim,hres];obtain ⟨o0,o1,o2,o3,o4⟩:=r5.o;refine Ze ?_;((refine yL 28 (Zu 2 Yo) fun v28 h=>?_;cases h)<;>(refine yL 29 (Zu 8 Yo) fun v29 h=>?_;cases h)<;>(refine cP 30 (cA (call144) hj) (fun va30 vb30 hva30 hvb30=>?_) (hsh:=r5.t E);cases hvb30)<;>refine xL 31 Zj (xL 32 Zj ?_)<;>refine ZE 4 Yo ?_<;>refine xL 5 Za ?_<;>refine Zc ?_)
 exact Z5 (k:=5) 4 kR (results99) rfl rfl rfl (Xa rfl) dC r5.s rfl))
theorem Cq:AggT prog 24 3=true:=by kernel_rfl
theorem Y6:AggT prog 39 5=true:=by kernel_rfl
theorem Zif:ElT prog 36 3 1 8 (.int .i64 0):=⟨underlying36,by kernel_rfl,rfl,dC⟩
theorem KW:FldT prog 24 0 0=true:=by kernel_rfl
theorem Zd7:FldT prog 24 1 1=true:=by kernel_rfl
theorem S4:FldT prog 24 2 2=true:=by kernel_rfl
theorem Dj:NoAgg prog 22=true:=by kernel_rfl
theorem Ln:NoAgg prog 3=true:=by kernel_rfl
theorem Zk6:NoAgg prog 9=true:=by kernel_rfl
theorem Dk:SlT prog 22 24 3=true:=by kernel_rfl
theorem Zat:SlT prog 27 9 1=true:=by kernel_rfl
theorem Zau:WU prog 39=some ((.agg #[(.int .i64 0),(.int .i64 0),(.slice none 0 0),(.slice none 0 0),(.slice none 0 0)]),([0,1,2,3,4]:List Nat).map fun o=>(o,1)):=by kernel_rfl
theorem Tw:ZeroT prog 39 (.agg #[(.int .i64 0),(.int .i64 0),(.slice none 0 0),(.slice none 0 0),(.slice none 0 0)]):=by unfold ZeroT;kernel_rfl
structure RS (r:Option Aut) (p0 p1 p2 p3 p4:PV) (E:Int):Prop where
 r5:R5 p0 p1 p2 p3 p4
 eq:resW (lim r)= .tup [.agg [p0,p1,p2,p3,p4],pInt E]
 hc:(r=none∧E=13)∨∃A,r=some A∧E=0∧p0=pInt A.n∧p1=pInt A.syms∧p2=pInts A.start∧p3=pInts A.fin∧p4=pMvs A.moves
theorem Cr (r:Option Aut):∃p0 p1 p2 p3 p4 E,RS r p0 p1 p2 p3 p4 E:=by
 obtain ⟨p0,p1,p2,p3,p4,E,r5,hres,hc⟩:=Hf r
 exact ⟨p0,p1,p2,p3,p4,E,r5,hres,hc⟩
theorem RS.no {r:Option Aut} {p0 p1 p2 p3 p4:PV} {E:Int} (h:RS r p0 p1 p2 p3 p4 E) (hE:¬E=0):r=none∧E=13:=by
 rcases h.hc with h1|⟨A,_,h1,_⟩
 · exact h1
 · exact UU h1 hE
theorem RS.yes {r:Option Aut} {p0 p1 p2 p3 p4:PV} {E:Int} (h:RS r p0 p1 p2 p3 p4 E) (hE:E=0):∃A,r=some A∧E=0∧p0=pInt A.n∧p1=pInt A.syms∧p2=pInts A.start∧p3=pInts A.fin∧p4=pMvs A.moves:=by
 rcases h.hc with ⟨_,h1⟩|h1
 · omega
 · exact h1
theorem Cs {acts:List ByteArray} {o:Int} {l:List Nd} {i:Nat} (h1:1≤i) (hl:1≤l.length) (h:foldX o ((l.take i).map (bldT acts))=none):foldX o (l.map (bldT acts))=none:=by
 have:=Zan (n:=(l.drop i).map (bldT acts)) (by cases l with|nil=>simp at hl|cons x l=>cases i with|zero=>omega|succ i=>simp) h
 rwa [←Xu,VF] at this
theorem Ct {acts:List ByteArray} {o:Int} {l:List Nd} {i:Nat} {x:Nd} {R B:Aut} (h1:1≤i) (hx:l[i]? =some x) (hR:foldX o ((l.take i).map (bldT acts))=some R) (hB:bldT acts x=some B):foldX o ((l.take (i+1)).map (bldT acts))=okO (Wk o R B):=by
 have hne:(l.take i).map (bldT acts)≠[]:=by
  cases l with
  |nil=>simp at hx
  | cons y l=>cases i with
    |zero=>omega
    |succ i=>simp
 rw [ZR hx,Xu,UI,E5 hne,hR,hB];rfl
theorem ZbF (acts:List ByteArray) (a:ByteArray):AF prog 56 [.agg [pInt 1,Yl a,Y0 []],Yq acts] (· =resW (Jd (GF acts.length (YO acts a)))):=by
 obtain ⟨p0,p1,p2,p3,p4,E,r5,hres⟩:=Zar (Jd (D3 [YO acts a] acts.length))
 have hj:=Zas [YO acts a] acts.length (Xg _)
 rw [hres] at hj
 rw [←Zic,hres]
 obtain ⟨o0,o1,o2,o3,o4⟩:=r5.o
 refine AF.of_body 88 func56 rfl ntmps56 (Xa rfl) ?_
 intro w0 M0 vs hl hv
 obtain ⟨v0,v1,rfl⟩:=YI hl
 clear hl hv
 refine Ze ?_
 (refine ZB 2 3 fun h2=>?_<;>refine Zw [(.int .i64 0),(.int .i64 0),(.slice none 0 0),(.slice none 0 0),(.slice none 0 0)] 5 4 Tw fun h4=>?_<;>refine xL 5 Za ?_<;>refine Zi ?_)
 (refine xL 11 (Zd 2 KW) ?_<;>(refine yL 12 (Zk 2 Ln) fun v12 h=>?_;cases h)<;>refine xL 13 Ye ?_<;>refine Zc ?_)
 refine cX ?_ ?_<;>intro hb13
 · exact UU hb13 dC
 · refine Ze ?_;(refine xL 19 (Zd 2 KW) ?_<;>(refine yL 20 (Zk 2 Ln) fun v20 h=>?_;cases h)<;>refine xL 21 Ye ?_<;>refine Zc ?_)
   refine cX ?_ ?_<;>intro hb21
   · refine Ze ?_;(refine xL 22 Zb (xL 23 (Zd 2 Zd7) ?_)<;>(refine yL 24 (Zk 2 Zk6) fun v24 h=>?_;cases h)<;>(refine cS 25 (cA call22 (Zb0 acts a)) fun v25 h=>?_;cases h)<;>(refine ZO (kk:=1) 26 Zif fun h26 ho26=>?_;refine Zs (En.freeze (l:=26) (t:=26) rfl rfl) fun _=>?_;refine Zs (Wx (t:=26) (p':=pInts [YO acts a]) rfl rfl) fun _=>?_)<;>refine xL 27 Zb (xL 28 (ZT Zat) ?_)<;>(refine cP 29 (cA (call98) hj) (fun va29 vb29 hva29 hvb29=>?_) (hsh:=r5.t E);cases hvb29)<;>refine xL 30 Zj (xL 31 Zj ?_)<;>refine ZE 4 Y6 ?_<;>refine xL 5 Za ?_<;>refine Zc ?_)
     exact Z5 (k:=5) 4 kR (results56) rfl rfl rfl (Xa rfl) dC r5.s rfl
   · exact UU rfl hb21
theorem ZbG (acts:List ByteArray) (a:ByteArray):AF prog 56 [.agg [pInt 2,Yl a,Y0 []],Yq acts] (· =resW (Jd (RI acts.length))):=by
 obtain ⟨p0,p1,p2,p3,p4,E,r5,hres⟩:=Zar (Jd (D3 [] acts.length))
 have hj:=AF.nil0 (Zas [] acts.length (Xd _))
 rw [hres] at hj
 rw [←Zk3,hres]
 obtain ⟨o0,o1,o2,o3,o4⟩:=r5.o
 refine AF.of_body 88 func56 rfl ntmps56 (Xa rfl) ?_
 intro w0 M0 vs hl hv
 obtain ⟨v0,v1,rfl⟩:=YI hl
 clear hl hv
 refine Ze ?_
 (refine ZB 2 3 fun h2=>?_<;>refine Zw [(.int .i64 0),(.int .i64 0),(.slice none 0 0),(.slice none 0 0),(.slice none 0 0)] 5 4 Tw fun h4=>?_<;>refine xL 5 Za ?_<;>refine Zi ?_)
 (refine xL 11 (Zd 2 KW) ?_<;>(refine yL 12 (Zk 2 Ln) fun v12 h=>?_;cases h)<;>refine xL 13 Ye ?_<;>refine Zc ?_)
 refine cX ?_ ?_<;>intro hb13
 · refine Ze ?_;(refine xL 14 Zb (xL 15 (ZT Zat) ?_)<;>(refine cP 16 (cA (call98) hj) (fun va16 vb16 hva16 hvb16=>?_) (hsh:=r5.t E);cases hvb16)<;>refine xL 17 Zj (xL 18 Zj ?_)<;>refine ZE 4 Y6 ?_<;>refine xL 5 Za ?_<;>refine Zc ?_)
   exact Z5 (k:=5) 4 kR (results56) rfl rfl rfl (Xa rfl) dC r5.s rfl
 · exact UU rfl hb13
set_option maxHeartbeats 4000000 in
theorem OA (o : Int) (ho:o=3∨o=4∨o=5∨o=6) (acts:List ByteArray) (a:ByteArray) (x0:Nd) (l0 l:List Nd) (hl0:l=x0::l0) (hl:l.length≤1000000) (ih:∀x∈l,AF prog 56 [pTr x,Yq acts] (· =resW (lim (bldT acts x)))) (hb:∀x∈l,BldOk acts.length (bldT acts x)):AF prog 56 [.agg [pInt o,Yl a,Y0 l],Yq acts] (· =resW (lim (foldX o (l.map (bldT acts))))):=by
 have hlen0:l.length=l0.length+1:=by rw [hl0];rfl
 have hx0:l[0]? =some x0:=by rw [hl0];rfl
 have e1:((Lo l).drop (0*3)).take 3=[pInt x0.op,Yl x0.act,Y0 x0.l]:=KF hx0
 have e2:=JO hx0
 obtain ⟨p0,p1,p2,p3,p4,E,hR0⟩:=Cr (bldT acts x0)
 have hxa:=ih x0 (Xc hx0)
 rw [hR0.eq] at hxa
 have r5:=hR0.r5
 obtain ⟨o0,o1,o2,o3,o4⟩:=hR0.r5.o
 have hRS:RS (foldX o ((l.take 1).map (bldT acts))) p0 p1 p2 p3 p4 E:=by rw [hl0];exact hR0
 have hok:∀i,BldOk acts.length (foldX o ((l.take i).map (bldT acts))):=fun i=>Zdw o fun r hr=>by
  obtain ⟨y,hy,rfl⟩:=Xk.1 hr;exact hb y (VJ hy)
 refine AF.of_body 88 func56 rfl ntmps56 (Xa rfl) ?_
 intro w0 M0 vs hl hv
 obtain ⟨v0,v1,rfl⟩:=YI hl
 clear hl hv
 refine Ze ?_
 (refine ZB 2 3 fun h2=>?_<;>refine Zw [(.int .i64 0),(.int .i64 0),(.slice none 0 0),(.slice none 0 0),(.slice none 0 0)] 5 4 Tw fun h4=>?_<;>refine xL 5 Za ?_<;>refine Zi ?_)
 (refine xL 11 (Zd 2 KW) ?_<;>(refine yL 12 (Zk 2 Ln) fun v12 h=>?_;cases h)<;>refine xL 13 Ye ?_<;>refine Zc ?_)
 refine cX ?_ ?_<;>intro hb13
 · exact UU (show o=2 by simpa using hb13) oM
 · refine Ze ?_;(refine xL 19 (Zd 2 KW) ?_<;>(refine yL 20 (Zk 2 Ln) fun v20 h=>?_;cases h)<;>refine xL 21 Ye ?_<;>refine Zc ?_)
   refine cX ?_ ?_<;>intro hb21
   · exact UU (show o=1 by simpa using hb21) oM
   · refine Ze ?_;(refine xL 33 (Zd 2 S4) ?_<;>(refine yL 34 (Zk 2 Dj) fun v34 h=>?_;cases h)<;>refine xL 35 (ZI Dk) ?_<;>(refine yL 36 (Wn Cq) fun v36 h=>?_;cases h)<;>refine xL 37 Zb ?_<;>(refine cP 38 (cA (call56) hxa) (fun va38 vb38 hva38 hvb38=>?_) (hsh:=r5.t E);cases hvb38)<;>refine xL 32 Zb (xL 39 Zj (xL 40 Zj ?_))<;>refine Zw [(.int .i64 0),(.int .i64 0),(.slice none 0 0),(.slice none 0 0),(.slice none 0 0)] 5 6 Tw fun h6=>?_<;>refine ZE 6 Y6 ?_<;>refine xL 7 Za ?_<;>refine Zi ?_)
     (refine xL 8 Za ?_<;>refine Zc ?_)
     clear r5 o0 o1 o2 o3 o4 hxa e1 e2 hR0;refine ZD (ι:={q:Nat×(PV×PV×PV×PV×PV)×Int//1≤q.1∧q.1≤l.length∧RS (foldX o ((l.take q.1).map (bldT acts))) q.2.1.1 q.2.1.2.1 q.2.1.2.2.1 q.2.1.2.2.2.1 q.2.1.2.2.2.2 q.2.2}) (fun k=>⟨[(1,_,_),(2,_,_),(4,_,_),(5,_,_),(6,_,_),(7, .int .i64 k.1.2.2,pInt k.1.2.2),(8, .int .i64 k.1.1,pInt k.1.1)],[(2,_,_),(4,_,_),(6,h6, .own 39 5 1 [k.1.2.1.1,k.1.2.1.2.1,k.1.2.1.2.2.1,k.1.2.1.2.2.2.1,k.1.2.1.2.2.2.2])]⟩) (fun k=>l.length-k.1.1) ⟨(1,(p0,p1,p2,p3,p4),E),Xg _,by show 1≤l.length;omega,hRS⟩ (fun a w H=>H.weaken ⟨rfl,rfl,rfl,rfl,rfl,rfl,rfl,trivial⟩ ⟨rfl,rfl,rfl,trivial⟩) ?_;rintro ⟨⟨i,⟨p0,p1,p2,p3,p4⟩,E⟩,hi1,hi2,hR⟩;dsimp only;dsimp only at hi1 hi2 hR;obtain ⟨o0,o1,o2,o3,o4⟩:=hR.r5.o;refine Ze ?_;(refine xL 41 Zb (xL 42 (Zd 2 S4) ?_)<;>(refine yL 43 (Zk 2 Dj) fun v43 h=>?_;cases h)<;>refine xL 44 (ZT Dk) (xL 45 ZP (xL 46 Zb ?_))<;>(refine bLd 46 (fun hb46=>?_) (fun hb46=>?_)<;>(first|refine kL 47 ?_|refine xL 47 Zb ?_))<;>(first|refine kL 48 ?_|refine xL 48 Ye ?_)<;>refine xL 49 ZF ?_<;>refine Zc ?_)<;>(
 refine cX ?_ ?_<;>intro hb49
 · first | exact bN hb49|(
 obtain ⟨R,hRe,rfl,rfl,rfl,rfl,rfl,rfl⟩:=hR.yes hb49;have hRm:=hok i R hRe;have lR:=hRm.1.aok.ml;obtain ⟨x,hx⟩:=Zt (show i<l.length by omega);have e1:((Lo l).drop (i*3)).take 3=[pInt x.op,Yl x.act,Y0 x.l]:=KF hx;have e2:=JO hx;obtain ⟨q0,q1,q2,q3,q4,F,hQ⟩:=Cr (bldT acts x);have hxa:=ih x (Xc hx);rw [hQ.eq] at hxa;have r5:=hQ.r5;obtain ⟨u0,u1,u2,u3,u4⟩:=r5.o;refine Ze ?_;(refine xL 53 (Zd 2 S4) ?_<;>(refine yL 54 (Zk 2 Dj) fun v54 h=>?_;cases h)<;>refine xL 55 Zb (xL 56 (ZI Dk) ?_)<;>(refine yL 57 (Wn Cq) fun v57 h=>?_;cases h)<;>refine xL 58 Zb ?_<;>(refine cP 59 (cA (call56) hxa) (fun va59 vb59 hva59 hvb59=>?_) (hsh:=r5.t F);cases hvb59)<;>refine xL 52 Zb (xL 60 Zj (xL 61 Zj ?_))<;>refine Zw [(.int .i64 0),(.int .i64 0),(.slice none 0 0),(.slice none 0 0),(.slice none 0 0)] 5 9 Tw fun h9=>?_<;>refine ZE 9 Y6 ?_<;>refine xL 10 Za ?_<;>refine Zi ?_)
 (refine xL 62 Zb (xL 63 Yv ?_)<;>refine Zc ?_)
 refine cX ?_ ?_<;>intro hb63
 · first|exact bN hb63|(
 obtain ⟨hn,rfl⟩:=hQ.no hb63;have hF:foldX o (l.map (bldT acts))=none:=O5 (Xk.2 ⟨x,Xc hx,hn⟩);rw [hF];refine Ze ?_;(refine xL 64 (ZL Zau) (xL 65 Zb ?_)<;>refine ZE 4 Y6 ?_<;>refine xL 5 Za ?_<;>refine Zc ?_)
 exact Z5 (k:=5) 4 kR (results56) rfl rfl rfl (Xa rfl) dC rfl rfl)
 · first |exact bN hb63|(
 obtain ⟨B,hBe,rfl,rfl,rfl,rfl,rfl,rfl⟩:=hQ.yes (by simpa using hb63);have hBm:=hb x (Xc hx) B hBe;have lB:=hBm.1.aok.ml;have hnx:=Ct (o:=o) hi1 hx hRe hBe;obtain ⟨t0,t1,t2,t3,t4,G,hT⟩:=Cr (okO (Wk o R B));have hjo:=congrArg resW (Zgy o hRm hBm);rw [hT.eq] at hjo;have s5:=hT.r5;obtain ⟨z0,z1,z2,z3,z4⟩:=s5.o;rw [←hnx] at hT;refine Ze ?_;(refine xL 66 (Zd 2 KW) ?_<;>(refine yL 67 (Zk 2 Ln) fun v67 h=>?_;cases h)<;>refine xL 68 Ye ?_<;>refine Zc ?_)
 refine cX ?_ ?_<;>intro hb68
 · first|exact bN hb68|(
 (have hj:AF prog 99 [ZN R,ZN B] (· =resW (Wk o R B)):=by rw [show o=6 by simpa using hb68];exact Zie R B hRm hBm);rw [hjo] at hj;refine Ze ?_;((refine yL 70 (Zu 6 Y6) fun v70 h=>?_;cases h)<;>(refine yL 71 (Zu 9 Y6) fun v71 h=>?_;cases h)<;>(refine cP 72 (cA (call99) hj) (fun va72 vb72 hva72 hvb72=>?_) (hsh:=s5.t G);cases hvb72)<;>refine xL 69 Zb (xL 73 Zj (xL 74 Zj ?_))<;>refine ZE 6 Y6 ?_<;>refine xL 7 Za ?_<;>refine Zi ?_)
 (refine xL 50 Zb (xL 51 ZG (xL 8 Za ?_))<;>refine Zc ?_)
 refine Zm (
  ⟨(i+1,(t0,t1,t2,t3,t4),G),by dsimp only;omega,Zf hx,hT⟩
  ) (by dsimp only;omega) ⟨rfl,rfl,rfl,rfl,rfl,rfl,rfl,trivial⟩ ⟨rfl,rfl,rfl,trivial⟩)
 · first|exact bN hb68|(
 have hj:AF prog 100 [pInt o,ZN R,ZN B] (· =resW (Wk o R B)):=by
  (have h6:¬o=6:=by simpa using hb68);have h3:o=3∨o=4∨o=5:=oM;clear hjo hT hR;rcases h3 with rfl|rfl|rfl
  · exact Zd4 R B oM oM
  · exact Zd5 R B oM oM
  · exact Zd6 R B oM oM
 rw [hjo] at hj;refine Ze ?_;(refine xL 76 (Zd 2 KW) ?_<;>(refine yL 77 (Zk 2 Ln) fun v77 h=>?_;cases h)<;>(refine yL 78 (Zu 6 Y6) fun v78 h=>?_;cases h)<;>(refine yL 79 (Zu 9 Y6) fun v79 h=>?_;cases h)<;>(refine cP 80 (cA (call100) hj) (fun va80 vb80 hva80 hvb80=>?_) (hsh:=s5.t G);cases hvb80)<;>refine xL 75 Zb (xL 81 Zj (xL 82 Zj ?_))<;>refine ZE 6 Y6 ?_<;>refine xL 7 Za ?_<;>refine Zi ?_)
 (refine xL 50 Zb (xL 51 ZG (xL 8 Za ?_))<;>refine Zc ?_)
 refine Zm (
  ⟨(i+1,(t0,t1,t2,t3,t4),G),by dsimp only;omega,Zf hx,hT⟩
  ) (by dsimp only;omega) ⟨rfl,rfl,rfl,rfl,rfl,rfl,rfl,trivial⟩ ⟨rfl,rfl,rfl,trivial⟩)))
 · first|exact bN hb49|(
 refine Ze ?_;(refine xL 83 Zb (xL 84 Yv ?_)<;>refine Zc ?_)
 refine cX ?_ ?_<;>intro hb84
 · first|exact bN hb84|(
 obtain ⟨hn,rfl⟩:=hR.no hb84;rw [Cs hi1 oM hn];refine Ze ?_;(refine xL 85 (ZL Zau) (xL 86 Zb ?_)<;>refine ZE 4 Y6 ?_<;>refine xL 5 Za ?_<;>refine Zc ?_)
 exact Z5 (k:=5) 4 kR (results56) rfl rfl rfl (Xa rfl) dC rfl rfl)
 · first|exact bN hb84|(
 have hil:l.length≤i:=by first|omega|exact UU (by simpa using hb84) hb49
 have hR2:=hR.eq;rw [Xj hil] at hR2;rw [hR2];obtain ⟨R,hRe,rfl,rfl,rfl,rfl,rfl,rfl⟩:=hR.yes (by simpa using hb84);refine Ze ?_;((refine yL 87 (Zu 6 Y6) fun v87 h=>?_;cases h)<;>refine ZE 4 Y6 ?_<;>refine xL 5 Za ?_<;>refine Zc ?_)
 exact Z5 (k:=5) 4 kR (results56) rfl rfl rfl (Xa rfl) dC rfl rfl)))
theorem Zfw (acts:List ByteArray) (hm:acts.length≤40):∀t:Nd,okT t=true→szT t≤1000→(∀s∈YY t,s∈acts)→AF prog 56 [pTr t,Yq acts] (· =resW (lim (bldT acts t))):=Nd.ind fun o a l ih hok hsz ha=>by
 have e0:pTr (.mk o a l)= .agg [pInt o,Yl a,Y0 l]:=rfl
 rw [e0]
 obtain ⟨hr,hp⟩:=Jh.1 hok
 have hops:=S9 hr
 simp only [Nd.op,Nd.l] at hops hp
 rw [szT] at hsz
 have hlz:=Rb l
 have hpa:∀x∈l,o≠1→∀s∈YY x,s∈acts:=fun x hx h1 s hs=>ha s (by rw [YY,US h1];exact Sp.2 ⟨x,hx,hs⟩)
 have hih:o≠1→∀x∈l,AF prog 56 [pTr x,Yq acts] (· =resW (lim (bldT acts x))):=fun h1 x hx=>ih x hx (hp x hx) (by have:=Lw hx;omega) (hpa x hx h1)
 have hbo:o≠1→∀x∈l,BldOk acts.length (bldT acts x):=fun h1 x hx=>Zke hm x (hpa x hx h1)
 by_cases h1:o=1
 · subst h1;have hmem:a∈acts:=ha a (by rw [YY,UT rfl];exact Xm ..);obtain ⟨i,h2,h3,_⟩:=Tq hmem;have hi:=Zf h3;have hM:=Gv (m:=acts.length) (Om hm (k:=YO acts a) (by rw [h2];omega)) rfl;have hl:l=[]:=by unfold rightT at hr;simp [Nd.op,Nd.l] at hr;exact hr.1
   subst hl;have hb:bldT acts (.mk 1 a [])=okO (Jd (GF acts.length (YO acts a))):=by rw [bldT,UT rfl];rfl
   rw [hb,←hM.lim];exact ZbF acts a
 by_cases h2:o=2
 · subst h2;have hM:=Gv (m:=acts.length) (E7 hm) rfl;have hl:l=[]:=by unfold rightT at hr;simp [Nd.op,Nd.l] at hr;exact hr.1
   subst hl;have hb:bldT acts (.mk 2 a [])=okO (Jd (RI acts.length)):=by rw [bldT,US dC,UT rfl]
   rw [hb,←hM.lim];exact ZbG acts a
 rw [Zfh acts o a l h1 h2]
 by_cases h6:o=6
 · subst h6;obtain ⟨x,y,hxy⟩:=O8 hr;exact OA 6 oM acts a x [y] l hxy oM (hih h1) (hbo h1)
 have ho:o=3∨o=4∨o=5:=oM
 obtain ⟨x,m,hxm⟩:=E' ho hr
 exact OA o oM acts a x m l hxm oM (hih h1) (hbo h1)
end Go.Proofs.YtgfabnhpllkebaaGreatDoor
