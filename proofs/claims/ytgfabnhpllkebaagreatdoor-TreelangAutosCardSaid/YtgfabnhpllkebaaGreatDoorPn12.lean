/-
  Walks of functions and plain laws of the chapter, as the claim needs them.
-/
import Derived.Test.YtgfabnhpllkebaaGreatDoorPn11
import Derived.Test.YtgfabnhpllkebaaGreatDoorPn10
import Derived.Test.YtgfabnhpllkebaaGreatDoorPn09
import Derived.Test.YtgfabnhpllkebaaGreatDoorPn01
namespace Go.Proofs.YtgfabnhpllkebaaGreatDoor
open Go.RowKit Go.Cb Go.En Tryz
set_option linter.all false
set_option maxRecDepth 100000
theorem Zkk {l:List Mv} {k:Nat} {x:Mv} (h:l[k]? =some x):(l.flatMap cMv)[k*3+0]? =some (pInt x.src)∧(l.flatMap cMv)[k*3+1]? =some (pInt x.dst)∧(l.flatMap cMv)[k*3+2]? =some (pInt x.sym):=by
 have e:=Yh Z0 l k x h
 have key:∀i,i<3→(l.flatMap cMv)[k*3+i]? =(cMv x)[i]? :=fun i hi=>by
  rw [←e,X0 hi,Vj]
 exact ⟨key 0 oM,key 1 oM,key 2 oM⟩
theorem Zdl (a b:Aut) (hla:a.moves.length≤1000000) (hlb:b.moves.length≤1000000) (ha:Z5 a=false) (hb:Z5 b=false) (hs:True):AF prog 196 [ZN a,ZN b] (· =pInt 1):=by
 have hva:=YV a hla
 have hvb:=YV b hlb
 rw [ha] at hva
 rw [hb] at hvb
 refine AF.of_body 18 func196 rfl ntmps196 (Xa rfl) ?_
 intro w0 M0 vs hl hv
 obtain ⟨v0,v1,rfl⟩:=YG hl
 clear hl hv
 refine Ze ?_
 (refine ZC 2 5 fun h2=>?_<;>refine ZC 3 5 fun h3=>?_<;>refine xL 4 Za ?_<;>refine Zi ?_)
 ((refine yL 5 (Zu 2 Zh) fun v5 h=>?_;cases h)<;>(refine cS 6 (cA call192 (hva)) fun v6 h=>?_;cases h)<;>refine xL 7 Z8 (xL 8 Zb ?_)<;>refine kL 9 ?_<;>refine kL 10 ?_<;>refine kL 11 ?_<;>refine xL 12 ZG ?_<;>refine Zc ?_)<;>(
 refine cX ?_ ?_<;>intro hb12
 · first|exact bN hb12|(
 refine Ze ?_;(refine xL 4 Za ?_<;>refine Zc ?_)
 exact Zy (results196) rfl rfl)
 · first
   |exact bN hb12
   |skip)
theorem Zdm (a b:Aut) (hla:a.moves.length≤1000000) (hlb:b.moves.length≤1000000) (ha:Z5 a=false) (hb:Z5 b=true) (hs:True):AF prog 196 [ZN a,ZN b] (· =pInt 1):=by
 have hva:=YV a hla
 have hvb:=YV b hlb
 rw [ha] at hva
 rw [hb] at hvb
 refine AF.of_body 18 func196 rfl ntmps196 (Xa rfl) ?_
 intro w0 M0 vs hl hv
 obtain ⟨v0,v1,rfl⟩:=YG hl
 clear hl hv
 refine Ze ?_
 (refine ZC 2 5 fun h2=>?_<;>refine ZC 3 5 fun h3=>?_<;>refine xL 4 Za ?_<;>refine Zi ?_)
 ((refine yL 5 (Zu 2 Zh) fun v5 h=>?_;cases h)<;>(refine cS 6 (cA call192 (hva)) fun v6 h=>?_;cases h)<;>refine xL 7 Z8 (xL 8 Zb ?_)<;>refine kL 9 ?_<;>refine kL 10 ?_<;>refine kL 11 ?_<;>refine xL 12 ZG ?_<;>refine Zc ?_)<;>(
 refine cX ?_ ?_<;>intro hb12
 · first|exact bN hb12|(
 refine Ze ?_;(refine xL 4 Za ?_<;>refine Zc ?_)
 exact Zy (results196) rfl rfl)
 · first
   |exact bN hb12
   |skip)
theorem Zdn (a b:Aut) (hla:a.moves.length≤1000000) (hlb:b.moves.length≤1000000) (ha:Z5 a=true) (hb:Z5 b=false) (hs:True):AF prog 196 [ZN a,ZN b] (· =pInt 1):=by
 have hva:=YV a hla
 have hvb:=YV b hlb
 rw [ha] at hva
 rw [hb] at hvb
 refine AF.of_body 18 func196 rfl ntmps196 (Xa rfl) ?_
 intro w0 M0 vs hl hv
 obtain ⟨v0,v1,rfl⟩:=YG hl
 clear hl hv
 refine Ze ?_
 (refine ZC 2 5 fun h2=>?_<;>refine ZC 3 5 fun h3=>?_<;>refine xL 4 Za ?_<;>refine Zi ?_)
 ((refine yL 5 (Zu 2 Zh) fun v5 h=>?_;cases h)<;>(refine cS 6 (cA call192 (hva)) fun v6 h=>?_;cases h)<;>refine xL 7 Z8 (xL 8 Zb ?_)<;>(refine yL 9 (Zu 3 Zh) fun v9 h=>?_;cases h)<;>(refine cS 10 (cA call192 (hvb)) fun v10 h=>?_;cases h)<;>refine xL 11 Z8 (xL 12 ZG ?_)<;>refine Zc ?_)<;>(
 refine cX ?_ ?_<;>intro hb12
 · first|exact bN hb12|(
 refine Ze ?_;(refine xL 4 Za ?_<;>refine Zc ?_)
 exact Zy (results196) rfl rfl)
 · first
   |exact bN hb12
   |skip)
theorem Zdo (a b:Aut) (hla:a.moves.length≤1000000) (hlb:b.moves.length≤1000000) (ha:Z5 a=true) (hb:Z5 b=true) (hs:¬a.syms=b.syms):AF prog 196 [ZN a,ZN b] (· =pInt 29):=by
 have hva:=YV a hla
 have hvb:=YV b hlb
 rw [ha] at hva
 rw [hb] at hvb
 refine AF.of_body 18 func196 rfl ntmps196 (Xa rfl) ?_
 intro w0 M0 vs hl hv
 obtain ⟨v0,v1,rfl⟩:=YG hl
 clear hl hv
 refine Ze ?_
 (refine ZC 2 5 fun h2=>?_<;>refine ZC 3 5 fun h3=>?_<;>refine xL 4 Za ?_<;>refine Zi ?_)
 ((refine yL 5 (Zu 2 Zh) fun v5 h=>?_;cases h)<;>(refine cS 6 (cA call192 (hva)) fun v6 h=>?_;cases h)<;>refine xL 7 Z8 (xL 8 Zb ?_)<;>(refine yL 9 (Zu 3 Zh) fun v9 h=>?_;cases h)<;>(refine cS 10 (cA call192 (hvb)) fun v10 h=>?_;cases h)<;>refine xL 11 Z8 (xL 12 ZG ?_)<;>refine Zc ?_)<;>(
 refine cX ?_ ?_<;>intro hb12
 · first|exact bN hb12|(
 refine Ze ?_;(refine xL 4 Za ?_<;>refine Zc ?_)
 exact Zy (results196) rfl rfl)
 · first|exact bN hb12|(
 refine Ze ?_;(refine xL 13 (Zd 2 Z3) ?_<;>(refine yL 14 (Zj 2 Zg) fun v14 h=>?_;cases h)<;>refine xL 15 (Zd 3 Z3) ?_<;>(refine yL 16 (Zj 3 Zg) fun v16 h=>?_;cases h)<;>refine xL 17 Yx ?_<;>refine Zc ?_)
 refine cX ?_ ?_<;>intro hb17
 · first|exact bN hb17|(
 refine Ze ?_;(refine xL 4 Za ?_<;>refine Zc ?_)
 first|exact Zy (results196) rfl rfl|exact UT hs (by simpa using hb17))
 · first|exact bN hb17|(
 refine Ze ?_;(refine xL 4 Za ?_<;>refine Zc ?_)
 first|exact Zy (results196) rfl rfl|exact UT (by simpa using hb17) hs)))
theorem Zdp (a b:Aut) (hla:a.moves.length≤1000000) (hlb:b.moves.length≤1000000) (ha:Z5 a=true) (hb:Z5 b=true) (hs:a.syms=b.syms):AF prog 196 [ZN a,ZN b] (· =pInt 0):=by
 have hva:=YV a hla
 have hvb:=YV b hlb
 rw [ha] at hva
 rw [hb] at hvb
 refine AF.of_body 18 func196 rfl ntmps196 (Xa rfl) ?_
 intro w0 M0 vs hl hv
 obtain ⟨v0,v1,rfl⟩:=YG hl
 clear hl hv
 refine Ze ?_
 (refine ZC 2 5 fun h2=>?_<;>refine ZC 3 5 fun h3=>?_<;>refine xL 4 Za ?_<;>refine Zi ?_)
 ((refine yL 5 (Zu 2 Zh) fun v5 h=>?_;cases h)<;>(refine cS 6 (cA call192 (hva)) fun v6 h=>?_;cases h)<;>refine xL 7 Z8 (xL 8 Zb ?_)<;>(refine yL 9 (Zu 3 Zh) fun v9 h=>?_;cases h)<;>(refine cS 10 (cA call192 (hvb)) fun v10 h=>?_;cases h)<;>refine xL 11 Z8 (xL 12 ZG ?_)<;>refine Zc ?_)<;>(
 refine cX ?_ ?_<;>intro hb12
 · first|exact bN hb12|(
 refine Ze ?_;(refine xL 4 Za ?_<;>refine Zc ?_)
 exact Zy (results196) rfl rfl)
 · first|exact bN hb12|(
 refine Ze ?_;(refine xL 13 (Zd 2 Z3) ?_<;>(refine yL 14 (Zj 2 Zg) fun v14 h=>?_;cases h)<;>refine xL 15 (Zd 3 Z3) ?_<;>(refine yL 16 (Zj 3 Zg) fun v16 h=>?_;cases h)<;>refine xL 17 Yx ?_<;>refine Zc ?_)
 refine cX ?_ ?_<;>intro hb17
 · first|exact bN hb17|(
 refine Ze ?_;(refine xL 4 Za ?_<;>refine Zc ?_)
 first|exact Zy (results196) rfl rfl|exact UT hs (by simpa using hb17))
 · first|exact bN hb17|(
 refine Ze ?_;(refine xL 4 Za ?_<;>refine Zc ?_)
 first|exact Zy (results196) rfl rfl|exact UT (by simpa using hb17) hs)))
theorem Gf (a b:Aut) (hla:a.moves.length≤1000000) (hlb:b.moves.length≤1000000):AF prog 196 [ZN a,ZN b] (· =pInt (WH a b)):=by
 cases ha:Z5 a
 · rw [Zf1 ha]
   cases hb:Z5 b
   · exact Zdl a b hla hlb ha hb trivial
   · exact Zdm a b hla hlb ha hb trivial
 · cases hb:Z5 b
   · rw [Zf2 hb];exact Zdn a b hla hlb ha hb trivial
   · by_cases hs:a.syms=b.syms
     · rw [Zj5 ha hb hs];exact Zdp a b hla hlb ha hb hs
     · rw [Zj4 ha hb hs];exact Zdo a b hla hlb ha hb hs
theorem TV (l:List Int) (n:Int) (hl:l.length≤1000000) (hn:0≤n∧n≤1000000) (hb:∀x∈l,0≤x∧x≤1000000):AF prog 197 [pInts l,pInt n] (· = .own 3 1 (YW n l).length ((YW n l).map pInt)):=by
 refine AF.of_body 24 func197 rfl ntmps197 (Xa rfl) ?_
 intro w0 M0 vs hl hv
 obtain ⟨v0,v1,rfl⟩:=YG hl
 obtain rfl:=hv 1 _ _ rfl rfl
 clear hl hv
 refine Ze ?_
 (refine xL 4 Za ?_<;>refine Zi ?_)
 (refine LD 7 Zn fun h7 ho7=>?_<;>refine xL 5 Za ?_<;>refine Zc ?_)
 refine Zs (ZE (l:=7) 200 rfl rfl) fun _=>?_
 (refine Zv ?_<;>refine xL 6 Za ?_<;>refine Zc ?_)
 refine ZB (ι:={q:Nat×Value//q.1≤l.length∧q.2.oneCell'=true}) (fun k=>⟨[(0,_,_),(1,_,_),(5,k.1.2, .val k.1.2),(6, .int .i64 k.1.1,pInt k.1.1)],[(200,k.1.2, .own 3 1 (YW n (l.take k.1.1)).length ((YW n (l.take k.1.1)).map pInt))]⟩) (fun k=>l.length-k.1.1) ⟨(0,h7),Xd _,ho7⟩ (fun a w H=>H.weaken ⟨rfl,rfl,rfl,rfl,trivial⟩ ⟨rfl,trivial⟩) ?_
 rintro ⟨⟨k,hO⟩,hk,hOo⟩
 dsimp only
 dsimp only at hk hOo
 have hal:(YW n (l.take k)).length≤1000000:=by rw [KU,Xo];omega
 refine Ze ?_
 (refine xL 8 Zb (xL 9 Zb (xL 10 (ZR Zp) (xL 11 ZP ?_)))<;>refine Zc ?_)
 refine cX ?_ ?_<;>intro hb11
 · first|exact bN hb11|(
 obtain ⟨x,hx⟩:=Zq (show k<l.length by omega);have e1:=Z7 (f:=pInt) hx;have hxb:=hb x (Xb hx);refine Ze ?_;(refine xL 14 Zb (xL 15 Zb (xL 16 Zb (xL 17 (ZI Zp) ?_)))<;>(refine yL 18 (Ya Zg) fun v18 h=>?_;cases h)<;>refine xL 19 Zb (xL 20 ZH ?_)<;>refine ZO (kk:=1) 21 Zn fun h21 ho21=>?_<;>(refine Z1 200 21 22 Zn fun h22 ho22=>?_;refine Zt (ZE (l:=22) 200 rfl rfl) fun _=>?_;refine Zt (ZL (l:=200) rfl ((KV _ (YW n (l.take k)) (x+n)).trans (by rw [←ζk n hx]))) fun _=>?_)<;>refine xL 5 Za ?_<;>refine Zi ?_)
 (refine xL 12 Zb (xL 13 ZH (xL 6 Za ?_))<;>refine Zc ?_)
 refine Zm (
  ⟨(k+1,h22),Zf hx,ho22⟩
  ) (by dsimp only;omega) ⟨rfl,rfl,rfl,rfl,trivial⟩ ⟨rfl,trivial⟩)
 · first|exact bN hb11|(
 rw [Xk (show l.length≤k by omega)];refine Ze ?_;(refine xL 23 Zb (xL 4 Za ?_)<;>refine Zc ?_)
 exact W9 200 (results197) rfl rfl rfl)
theorem E7 (b:Aut) (n:Int) (hb:AOk b) (hn:0≤n∧n≤1000000):AF prog 198 [pMvs b.moves,pInt n] (· = .own 93 3 (KH n b.moves).length ((KH n b.moves).flatMap cMv)):=by
 have hn1:=hb.n1
 have hbl:=hb.ml
 refine AF.of_body 38 func198 rfl ntmps198 (Xa rfl) ?_
 intro w0 M0 vs hl hv
 obtain ⟨v0,v1,rfl⟩:=YG hl
 obtain rfl:=hv 1 _ _ rfl rfl
 clear hl hv
 refine Ze ?_
 (refine xL 4 Za ?_<;>refine Zi ?_)
 (refine LD 7 ZS fun h7 ho7=>?_<;>refine xL 5 Za ?_<;>refine Zc ?_)
 refine Zs (ZE (l:=7) 200 rfl rfl) fun _=>?_
 (refine Zv ?_<;>refine xL 6 Za ?_<;>refine Zc ?_)
 refine ZB (ι:={q:Nat×Value//q.1≤b.moves.length∧q.2.oneCell'=true}) (fun k=>⟨[(0,_,_),(1,_,_),(5,k.1.2, .val k.1.2),(6, .int .i64 k.1.1,pInt k.1.1)],[(200,k.1.2, .own 93 3 (KH n (b.moves.take k.1.1)).length ((KH n (b.moves.take k.1.1)).flatMap cMv))]⟩) (fun k=>b.moves.length-k.1.1) ⟨(0,h7),Xd _,ho7⟩ (fun a w H=>H.weaken ⟨rfl,rfl,rfl,rfl,trivial⟩ ⟨rfl,trivial⟩) ?_
 rintro ⟨⟨k,hO⟩,hk,hOo⟩
 dsimp only
 dsimp only at hk hOo
 have hal:(KH n (b.moves.take k)).length≤1000000:=by rw [La,Xo];omega
 refine Ze ?_
 (refine xL 8 Zb (xL 9 Zb (xL 10 (ZR ZF) (xL 11 ZP ?_)))<;>refine Zc ?_)
 refine cX ?_ ?_<;>intro hb11
 · first|exact bN hb11|(
 obtain ⟨x,hx⟩:=Zq (show k<b.moves.length by omega);obtain ⟨e0,e1,e2⟩:=Zkk hx;have hxb:=hb.mv x (Xb hx);refine nav ?_;(refine ZY (fun i=>([]:List Nat).elem i) [] kR ?_<;>refine xD 0 14 rfl Zb ?_<;>refine xD 1 15 rfl Zb ?_<;>refine xD 2 16 rfl Zb ?_<;>refine xD 3 17 rfl (ZI ZF) ?_<;>refine xD 4 18 rfl (JY Yb) ?_<;>(refine yD 5 19 rfl (Ya Zg) fun v19 h=>?_;cases h)<;>refine xD 6 20 rfl Zb ?_<;>refine xD 7 21 rfl ZH ?_<;>refine xD 8 22 rfl Zb ?_<;>refine xD 9 23 rfl Zb ?_<;>refine xD 10 24 rfl (ZI ZF) ?_<;>refine xD 11 25 rfl (JY Yg) ?_<;>(refine yD 12 26 rfl (Ya Zg) fun v26 h=>?_;cases h)<;>refine xD 13 27 rfl Zb ?_<;>refine xD 14 28 rfl ZH ?_<;>refine xD 15 29 rfl Zb ?_<;>refine xE 16 30 rfl Zb ?_<;>refine xE 17 31 rfl (ZI ZF) ?_<;>refine xE 18 32 rfl (JY Yk) ?_<;>(refine yE 19 33 rfl (Ya Zg) fun v33 h=>?_;cases h)<;>refine xE 20 34 rfl (ZM YX) ?_<;>(refine Zr 21 kR ?_)<;>(refine Zo rfl fun w9 M9 N9 DQ back=>?_)<;>refine YD 35 ZS fun h35 ho35=>?_<;>refine Zl (back _ (nrm ?_))<;>(refine Zr 22 kR ?_)<;>(refine Zo rfl fun w9 M9 N9 DQ back=>?_)<;>(refine Z1 200 35 36 ZS fun h36 ho36=>?_;refine Zt (ZE (l:=36) 200 rfl rfl) fun _=>?_;refine Zt (ZL (l:=200) rfl ((WO _ (KH n (b.moves.take k)) ⟨x.src+n,x.dst+n,x.sym⟩).trans (by rw [←ζl n hx]))) fun _=>?_)<;>refine Zl (back _ (nrm ?_))<;>refine xE 23 5 rfl Za ?_<;>refine Yr kR (nav ?_)<;>try dsimp only)
 (refine Zv ?_<;>refine xL 12 Zb (xL 13 ZH (xL 6 Za ?_))<;>refine Zc ?_)
 refine Zm (
  ⟨(k+1,h36),Zf hx,ho36⟩
  ) (by dsimp only;omega) ⟨rfl,rfl,rfl,rfl,trivial⟩ ⟨rfl,trivial⟩)
 · first|exact bN hb11|(
 rw [Xk (show b.moves.length≤k by omega)];refine Ze ?_;(refine xL 37 Zb (xL 4 Za ?_)<;>refine Zc ?_)
 exact W9 200 (results198) rfl rfl rfl)
theorem GB (l : List Mv) (m:Mv) (hl:l.length≤1000000) (ha:AscM l):AF prog 133 [pMvs l, .agg (cMv m)] (· =pMvs (Rx m l)):=by
 refine AF.of_body 47 func133 rfl ntmps133 (Xa rfl) ?_
 intro w0 M0 vs hl hv
 obtain ⟨v0,v1,rfl⟩:=YG hl
 clear hl hv
 refine YO 0 rfl fun hlen=>?_
 refine Ze ?_
 (refine ZC 3 3 fun h3=>?_<;>refine xL 4 Za ?_<;>refine Zi ?_)
 (refine xL 7 Zb (xL 8 (ZR ZF) (xL 5 Za ?_))<;>refine Zc ?_)
 refine ZB (ι:={i:Nat//i≤l.length∧∀(j:Nat) (x:Mv),i≤j→l[j]? =some x→W8 m x=true}) (fun k=>⟨[(0,_,_),(3,_,_),(5, .int .i64 k.1,pInt k.1)],[(3,_,_)]⟩) (fun k=>k.1) ⟨l.length,Xg _,fun j x h1 h2=>by have:=Zf h2;omega⟩ (fun a w H=>H.weaken ⟨rfl,rfl,rfl,trivial⟩ ⟨rfl,trivial⟩) ?_
 rintro ⟨i,hi,hp⟩
 dsimp only
 obtain ⟨x,hx⟩:∃x:Mv,0<i→l[((i:Int)-1).toNat]? =some x:=by
  rcases X4 i with h0|h0
  · exact ⟨m,fun h=>oM⟩
  · obtain ⟨x,hx⟩:=Zq (show ((i:Int)-1).toNat<l.length by omega);exact ⟨x,fun _=>hx⟩
 have hi1:((i:Int)-1).toNat=i-1:=oM
 refine nav ?_
 (refine ZY (fun i=>([]:List Nat).elem i) [3] kR ?_<;>refine xE 0 9 rfl Zb ?_<;>refine xE 1 10 rfl Yw ?_<;>refine xE 2 11 rfl Zb ?_<;>(refine bDd 11 (fun hb11=>?_) (fun hb11=>?_)<;>(first|refine kD 3 12 rfl ?_|(have hx2:=hx oM;have e1:=Yh Z0 l ((i:Int)-1).toNat x hx2;have e2:=YA Z0 hx2;refine yD 3 12 rfl (Zu (k:=3) (ps:=cMv m) 3 kR) fun v12 h=>?_;cases h)))<;>(first|refine kD 4 13 rfl ?_|refine xD 4 13 rfl Zb ?_)<;>(first|refine kD 5 14 rfl ?_|refine xD 5 14 rfl Zb ?_)<;>(first|refine kD 6 15 rfl ?_|refine xD 6 15 rfl KD ?_)<;>(first|refine kD 7 16 rfl ?_|refine xD 7 16 rfl (LQ ZF) ?_)<;>(first|refine kD 8 17 rfl ?_|(refine yD 8 17 rfl (Y' ZW) fun v17 h=>?_;cases h))<;>(refine Zr 9 kR ?_)<;>(first|(refine WL (d:=18) rfl (cA call187 (Dr m x)) fun v18 h=>?_;cases h)|(refine Zo rfl fun w9 M9 N9 DQ back=>?_;refine kL 18 ?_;refine Zl (back _ (nrm ?_))))<;>refine xE 10 19 rfl ZG ?_<;>refine Yr kR (nav ?_)<;>try dsimp only)<;>(
 refine cX ?_ ?_<;>intro hb19
 · first |exact bN hb19|(
 refine Ze ?_;(refine xL 20 Zb (xL 21 KD (xL 5 Za ?_))<;>refine Zc ?_)
 have hi0:0<i:=oM;rw [show ((i:Int)-1)=((i-1:Nat):Int) by omega];refine Zm (
  ⟨i -1,oM,fun j y h1 h2=>by
   by_cases e:j=i-1
   · have hx3:=hx hi0;rw [hi1,←e,h2] at hx3;cases hx3;exact JR.1 hb19
   · exact hp j y oM h2⟩
  ) (by dsimp only;omega) ⟨rfl,rfl,rfl,trivial⟩ ⟨rfl,trivial⟩)
 · first | exact bN hb19|(
 refine nav ?_;(refine ZY (fun i=>([]:List Nat).elem i) [3] kR ?_<;>refine xE 0 22 rfl Zb ?_<;>refine xE 1 23 rfl Yw ?_<;>refine xE 2 24 rfl Zb ?_<;>(refine bDd 24 (fun hb24=>?_) (fun hb24=>?_)<;>(first|refine kD 3 25 rfl ?_|(have hx2:=hx oM;have e1:=Yh Z0 l ((i:Int)-1).toNat x hx2;have e2:=YA Z0 hx2;refine xD 3 25 rfl Zb ?_)))<;>(first|refine kD 4 26 rfl ?_|refine xD 4 26 rfl Zb ?_)<;>(first|refine kD 5 27 rfl ?_|refine xD 5 27 rfl KD ?_)<;>(first|refine kD 6 28 rfl ?_|refine xD 6 28 rfl (LQ ZF) ?_)<;>(first|refine kD 7 29 rfl ?_|(refine yD 7 29 rfl (Y' ZW) fun v29 h=>?_;cases h))<;>(first|refine kD 8 30 rfl ?_|(refine yD 8 30 rfl (Zu 3 ZW) fun v30 h=>?_;cases h))<;>(first|refine kD 9 31 rfl ?_|refine xD 9 31 rfl ((Zio (us:=vMv x) (us':=vMv m) Zjo Zjp Zjq (Td x m) rfl rfl)) ?_)<;>refine xE 10 32 rfl ZG ?_<;>refine Yr kR (nav ?_)<;>try dsimp only)<;>(
 refine cX ?_ ?_<;>intro hb32
 · first |exact bN hb32|(
 refine Ze ?_;(refine xL 33 Zb (xL 4 Za ?_)<;>refine Zc ?_)
 refine Zy (results133) rfl ?_
 first
  |(exfalso;simp at hb32;done)
  | (have hxm:=Ji.1 hb32
     rw [ZlI ha (hxm▸Xb (hx oM))]))
 · first | exact bN hb32|(
 refine nav ?_;have g1:=R9 Z0 l;have f5:(l.flatMap cMv).length=l.length*3:=flat_len Z0 l;(have f1:(((l.flatMap cMv).drop (0*3)).take ((i-0)*3)).length=(i-0)*3:=by rw [Xo,Ue,f5];omega);(have f3:(((l.flatMap cMv).drop (i*3)).take ((l.length-i)*3)).length=(l.length-i)*3:=by rw [Xo,Ue,f5];omega);have f0:∀q∈l.flatMap cMv,En.one q=true:=XB.1 (Lu l);have f2:(((l.flatMap cMv).drop (0*3)).take ((i-0)*3)).all En.one=true:=XB.2 fun q hq=>f0 q (List.mem_of_mem_drop (VO hq));have f4:(((l.flatMap cMv).drop (i*3)).take ((l.length-i)*3)).all En.one=true:=XB.2 fun q hq=>f0 q (List.mem_of_mem_drop (VO hq));(refine ZY (fun i=>([]:List Nat).elem i) [3] kR ?_<;>refine xD 1 35 rfl Zb ?_<;>refine xD 2 36 rfl Zb ?_<;>refine xD 3 37 rfl (On (i:=0) (j:=i) ZF rfl rfl rfl rfl (Xd _) hi f5) ?_<;>(refine yD 5 39 rfl (Zu 3 ZW) fun v39 h=>?_;cases h)<;>(refine Y8 0 6 kR ?_ ?_;rotate_right;(focus ((refine Zo rfl fun w9 M9 N9 DQ back=>?_)<;>refine YD 40 ZS fun h40 ho40=>?_<;>refine Zl (back _ (nrm ?_))<;>(refine Zr 0 kR ?_)<;>(refine Zo rfl fun w9 M9 N9 DQ back=>?_)<;>refine LD 34 ZS fun h34 ho34=>?_<;>refine Zl (back _ (nrm ?_))<;>(refine Zr 4 kR ?_)<;>(refine Zo rfl fun w9 M9 N9 DQ back=>?_)<;>refine Kc 34 38 ZS (fun h38 ho38=>?_) f1 f2<;>refine Zl (back _ (nrm ?_))<;>(refine Zr 7 kR ?_)<;>(refine Zo rfl fun w9 M9 N9 DQ back=>?_)<;>refine Z1 38 40 41 ZS fun h41 ho41=>?_<;>refine Zl (back _ (nrm ?_))<;>refine xE 8 6 rfl Za ?_));rotate_right;(focus ((refine Zo rfl fun w9 M9 N9 DQ back=>?_)<;>refine LD 34 ZS fun h34 ho34=>?_<;>refine Zl (back _ (nrm ?_))<;>(refine Y8 4 6 kR ?_ ?_;rotate_right;(focus ((refine Zo rfl fun w9 M9 N9 DQ back=>?_)<;>refine YD 40 ZS fun h40 ho40=>?_<;>refine Zl (back _ (nrm ?_))<;>(refine Zr 4 kR ?_)<;>(refine Zo rfl fun w9 M9 N9 DQ back=>?_)<;>refine Kc 34 38 ZS (fun h38 ho38=>?_) f1 f2<;>refine Zl (back _ (nrm ?_))<;>(refine Zr 7 kR ?_)<;>(refine Zo rfl fun w9 M9 N9 DQ back=>?_)<;>refine Z1 38 40 41 ZS fun h41 ho41=>?_<;>refine Zl (back _ (nrm ?_))<;>refine xE 8 6 rfl Za ?_));rotate_right;(focus ((refine Zo rfl fun w9 M9 N9 DQ back=>?_)<;>refine Kc 34 38 ZS (fun h38 ho38=>?_) f1 f2<;>refine Zl (back _ (nrm ?_))<;>(refine Zr 6 kR ?_)<;>(refine Zo rfl fun w9 M9 N9 DQ back=>?_)<;>refine YD 40 ZS fun h40 ho40=>?_<;>refine Zl (back _ (nrm ?_))<;>(refine Zr 7 kR ?_)<;>(refine Zo rfl fun w9 M9 N9 DQ back=>?_)<;>refine Z1 38 40 41 ZS fun h41 ho41=>?_<;>refine Zl (back _ (nrm ?_))<;>refine xE 8 6 rfl Za ?_))))))<;>refine Yr kR (nav ?_)<;>try dsimp only)<;>(
 (refine Zv ?_<;>refine xL 42 Zb (xL 43 Zb (xL 44 Zb ?_))<;>refine xL 45 (On (i:=i) (j:=l.length) ZF rfl rfl rfl rfl hi (Xg _) f5) ?_<;>refine Kc 41 46 ZS (fun h46 ho46=>?_) f3 f4<;>refine xL 4 Za ?_<;>refine Zc ?_)
 have hn :∀y,0<i→l[i-1]? =some y→W8 m y=false∧y≠m:=fun y h0 hy=>by
  first
   |(exfalso;omega)
   | (have hx3:=hx h0
      rw [hi1,hy] at hx3;cases hx3;refine ⟨?_,fun e=>?_⟩
      · cases hc:W8 m x with
        |false=>rfl
        |true=>exact UT (JR.2 hc) hb19
      · simp [Ji.2 e] at hb32)
 have hcells:[]++((l.flatMap cMv).drop (0*3)).take ((i-0)*3)++cMv m++((l.flatMap cMv).drop (i*3)).take ((l.length-i)*3)=(Rx m l).flatMap cMv:=by
  rw [ZfJ ha hi hp hn,XN,XN,VM,Vx,VW,V3,R8 Z0,R9 Z0,Xk (show ((l.drop i).flatMap cMv).length≤(l.length-i)*3 by rw [flat_len Z0,Ue];exact Xg _),X9]
 have hlen2:0+(i-0)+1+(l.length-i)=(Rx m l).length:=by
  rw [ZfJ ha hi hp hn,Xc,Xc,Xo,Ue,Xx];omega
 refine Wr (ZL (l:=46) (p':= .own 93 3 (Rx m l).length ((Rx m l).flatMap cMv)) rfl (by rw [←hcells,←hlen2];rfl)) fun _=>?_;refine Wr (En.freeze (l:=46) (t:=4) rfl rfl) fun _=>?_;rw [Kj _ _ _ rfl];exact Zy (results133) rfl rfl)))))
theorem DF (a:Aut) (hl:a.moves.length≤1000000) {p0 p1 p2 p3 p4:PV} {E:Int} (r5:R5 p0 p1 p2 p3 p4) (hm:AF prog 143 [ZN a] (· = .tup [.agg [p0,p1,p2,p3,p4],pInt E])):AF prog 199 [ZN a] (· =if 2000<a.n∨20000<a.moves.length then .tup [KS,pInt 13] else .tup [.agg [p0,p1,p2,p3,p4],pInt E]):=by
 obtain ⟨o0,o1,o2,o3,o4⟩:=r5.o
 refine AF.of_body 20 func199 rfl ntmps199 (Xa rfl) ?_
 intro w0 M0 vs hl hv
 obtain ⟨v0,rfl⟩:=Wj hl
 clear hl hv
 refine Ze ?_
 (refine ZC 1 5 fun h1=>?_<;>refine Zx [(.int .i64 0),(.int .i64 0),(.slice none 0 0),(.slice none 0 0),(.slice none 0 0)] 5 2 ZJ fun h2=>?_<;>refine xL 3 Za ?_<;>refine Zi ?_)
 (refine xL 4 (Zd 1 ZQ) ?_<;>(refine yL 5 (Zj 1 Zg) fun v5 h=>?_;cases h)<;>refine xL 6 Yw (xL 7 Zb ?_)<;>(refine bLd 7 (fun hb7=>?_) (fun hb7=>?_)<;>(first|refine kL 8 ?_|refine xL 8 (Zd 1 Zw) ?_))<;>(first|refine kL 9 ?_|(refine yL 9 (Zj 1 ZA) fun v9 h=>?_;cases h))<;>(first|refine kL 10 ?_|refine xL 10 (ZR ZF) ?_)<;>(first|refine kL 11 ?_|refine xL 11 Yw ?_)<;>refine xL 12 ZG ?_<;>refine Zc ?_)<;>(
 refine cX ?_ ?_<;>intro hb12
 · first|exact bN hb12|(
 refine Ze ?_;((refine cP 13 (cA call194 (Gc)) fun va13 vb13 hva13 h=>?_;cases h)<;>refine xL 14 Zk (xL 15 Zk ?_)<;>refine ZD 2 Zh ?_<;>refine xL 3 Za ?_<;>refine Zc ?_)
 exact Z2 (k:=5) 2 kR (results199) rfl rfl rfl (Xa rfl) dC rfl (by rw [US oM];rfl))
 · first|exact bN hb12|(
 refine Ze ?_;((refine yL 16 (Zu 1 Zh) fun v16 h=>?_;cases h)<;>(refine cP 17 (cA call143 hm) (fun va17 vb17 hva17 hvb17=>?_) (hsh:=r5.t E);cases hvb17)<;>refine xL 18 Zk (xL 19 Zk ?_)<;>refine ZD 2 Zh ?_<;>refine xL 3 Za ?_<;>refine Zc ?_)
 exact Z2 (k:=5) 2 kR (results199) rfl rfl rfl (Xa rfl) dC r5.s (by rw [UR oM];rfl)))
theorem LB (a:Aut) (hl:a.moves.length≤1000000):AF prog 199 [ZN a] (· =resW (GI a)):=by
 have h:=P4 a hl
 unfold GI
 cases hx:Jd a with
 | ok A=>
   rw [hx] at h;have:=DF a hl (R5.aut A) h;refine this.mono fun p hp=>?_;rw [hp];split<;>rfl
 | error e=>
   rw [hx] at h;have:=DF a hl R5.raw h;refine this.mono fun p hp=>?_;rw [hp];split<;>rfl
theorem Zf8 (x:Except Int Aut):∃(p0 p1 p2 p3 p4:PV) (E:Int),R5 p0 p1 p2 p3 p4∧resW x= .tup [.agg [p0,p1,p2,p3,p4],pInt E]:=by
 cases x with
 |ok A=>exact ⟨_,_,_,_,_,_,R5.aut A,rfl⟩
 |error e=>exact ⟨_,_,_,_,_,_,R5.raw,rfl⟩
theorem Tm (l:List Mv):(l.flatMap cMv).length=l.length*3:=flat_len Z0 l
theorem Za7 (a b:Aut) (e:Int) (he:¬e=0) (hf:AF prog 196 [ZN a,ZN b] (· =pInt e)):AF prog 146 [ZN a,ZN b] (· = .tup [KS,pInt e]):=by
 refine AF.of_body 62 func146 rfl ntmps146 (Xa rfl) ?_
 intro w0 M0 vs hl hv
 obtain ⟨v0,v1,rfl⟩:=YG hl
 clear hl hv
 refine Ze ?_
 (refine ZC 2 5 fun h2=>?_<;>refine ZC 3 5 fun h3=>?_<;>refine Zx [(.int .i64 0),(.int .i64 0),(.slice none 0 0),(.slice none 0 0),(.slice none 0 0)] 5 4 ZJ fun h4=>?_<;>refine xL 5 Za ?_<;>refine Zi ?_)
 ((refine yL 9 (Zu 2 Zh) fun v9 h=>?_;cases h)<;>(refine yL 10 (Zu 3 Zh) fun v10 h=>?_;cases h)<;>(refine cS 11 (cA call196 (hf)) fun v11 h=>?_;cases h)<;>refine xL 6 Za ?_<;>refine Zi ?_)
 (refine xL 12 Zb (xL 13 Yx ?_)<;>refine Zc ?_)
 refine cX ?_ ?_<;>intro hb13
 · refine Ze ?_;(refine xL 14 (ZM ZU) (xL 15 Zb ?_)<;>refine ZD 4 Zh ?_<;>refine xL 5 Za ?_<;>refine Zc ?_)
   exact Z2 (k:=5) 4 kR (results146) rfl rfl rfl (Xa rfl) dC rfl rfl
 · exact UT (by simpa using hb13) he
set_option maxHeartbeats 2000000 in
theorem Ze3 (a b:Aut) (hla:a.moves.length≤1000000) (hlb:b.moves.length≤1000000) (hf0:WH a b=0) {p0 p1 p2 p3 p4:PV} {E:Int} (r5:R5 p0 p1 p2 p3 p4) (hr:AF prog 199 [ZN (W5 a b)] (· = .tup [.agg [p0,p1,p2,p3,p4],pInt E])):AF prog 146 [ZN a,ZN b] (· = .tup [.agg [p0,p1,p2,p3,p4],pInt E]):=by
 obtain ⟨o0,o1,o2,o3,o4⟩:=r5.o
 obtain ⟨ha,hb,hs⟩:=Jk hf0
 have hf:=Gf a b hla hlb
 rw [hf0] at hf
 have hn0:=ha.n0
 have hn1:=ha.n1
 have k0:=ha.ml
 have k1:=ha.sl
 have k2:=hb.sl
 have k3:=ha.fl
 have k4:=hb.fl
 have m0:=hb.n0
 have m1:=hb.n1
 have kml:=Rl ha.toAOk hb.toAOk
 have kmb:=hb.ml
 have l1:=KU a.n b.start
 have l2:=KU a.n b.fin
 have l3:=La a.n b.moves
 refine AF.of_body 62 func146 rfl ntmps146 (Xa rfl) ?_
 intro w0 M0 vs hl hv
 obtain ⟨v0,v1,rfl⟩:=YG hl
 clear hl hv
 refine Ze ?_
 (refine ZC 2 5 fun h2=>?_<;>refine ZC 3 5 fun h3=>?_<;>refine Zx [(.int .i64 0),(.int .i64 0),(.slice none 0 0),(.slice none 0 0),(.slice none 0 0)] 5 4 ZJ fun h4=>?_<;>refine xL 5 Za ?_<;>refine Zi ?_)
 ((refine yL 9 (Zu 2 Zh) fun v9 h=>?_;cases h)<;>(refine yL 10 (Zu 3 Zh) fun v10 h=>?_;cases h)<;>(refine cS 11 (cA call196 (hf)) fun v11 h=>?_;cases h)<;>refine xL 6 Za ?_<;>refine Zi ?_)
 (refine xL 12 Zb (xL 13 Yx ?_)<;>refine Zc ?_)
 refine cX ?_ ?_<;>intro hb13
 · first|omega|exact UT rfl hb13|exact bN hb13
 · refine Ze ?_;(refine xL 16 (Zd 2 ZQ) ?_<;>(refine yL 17 (Zj 2 Zg) fun v17 h=>?_;cases h)<;>refine xL 7 Za ?_<;>refine Zi ?_)
   (refine xL 18 Zb (xL 19 (Zd 3 ZQ) ?_)<;>(refine yL 20 (Zj 3 Zg) fun v20 h=>?_;cases h)<;>refine xL 21 ZH (xL 22 (Zd 2 Z3) ?_)<;>(refine yL 23 (Zj 2 Zg) fun v23 h=>?_;cases h)<;>refine xL 24 (ZM ZU) ?_<;>refine Zx [(.int .i64 0),(.int .i64 0),(.slice none 0 0),(.slice none 0 0),(.slice none 0 0)] 5 8 ZJ fun h8=>?_<;>refine ZD 8 Zh ?_<;>refine Zc ?_)
   refine Zs (WY (l:=8) [pInt (a.n+b.n),pInt a.syms, .own 3 1 0 [], .own 3 1 0 [], .own 93 3 0 []] rfl rfl (fun i p p' h1 h2=>by
    match i with
    |0=>cases h1;cases h2;exact .inl rfl
    |1=>cases h1;cases h2;exact .inl rfl
    |2=>cases h1;cases h2;exact .inr ⟨rfl,_,_,rfl⟩
    |3=>cases h1;cases h2;exact .inr ⟨rfl,_,_,rfl⟩
    |4=>cases h1;cases h2;exact .inr ⟨rfl,_,_,rfl⟩
    |i+5=>simp at h2)) fun _=>?_
   refine Zs (Ws (l:=8) (l':=301) (j:=2) rfl rfl rfl rfl) fun i=>?_;obtain ⟨v301,ho301⟩:=i;dsimp only [List.set];refine Zs (Ws (l:=8) (l':=302) (j:=3) rfl rfl rfl rfl) fun i=>?_;obtain ⟨v302,ho302⟩:=i;dsimp only [List.set];refine Zs (Ws (l:=8) (l':=303) (j:=4) rfl rfl rfl rfl) fun i=>?_;obtain ⟨v303,ho303⟩:=i;dsimp only [List.set];(refine ZY (fun i=>([11]:List Nat).elem i) [2,3,8] kR ?_<;>refine xD 0 25 rfl (Zd 8 Z4) ?_<;>(refine yD 1 26 rfl (Zj 8 Zz) fun v26 h=>?_;cases h)<;>refine xD 2 27 rfl (Zd 2 Z4) ?_<;>(refine yD 3 28 rfl (Zj 2 Zz) fun v28 h=>?_;cases h)<;>refine xD 5 30 rfl (Zd 3 Z4) ?_<;>(refine yD 6 31 rfl (Zj 3 Zz) fun v31 h=>?_;cases h)<;>refine xD 7 32 rfl Zb ?_<;>(refine Zr 4 kR ?_)<;>(refine Zo rfl fun w9 M9 N9 DQ back=>?_)<;>refine Kc 301 29 Zn (fun h29 ho29=>?_) (JE a.start) (Gz a.start)<;>refine Zl (back _ (nrm ?_))<;>(refine Zr 8 kR ?_)<;>(refine Zo rfl fun w9 M9 N9 DQ back=>?_)<;>(refine cO 33 (cA call197 (TV b.start a.n oM oM (fun x hx=>by have:=hb.st x hx;omega))) fun v33 ho33=>?_;refine Zt (En.freeze (l:=33) (t:=33) rfl rfl) fun _=>?_;rw [ZV _ _ _ rfl])<;>refine Zl (back _ (nrm ?_))<;>(refine Zr 9 kR ?_)<;>(refine Zo rfl fun w9 M9 N9 DQ back=>?_)<;>(refine Kc 29 34 Zn (fun h34 ho34=>?_) (JE (YW a.n b.start)) (Gz (YW a.n b.start));have q34:En.one (PV.val h34)=true:=ho34)<;>refine Zl (back _ (nrm ?_))<;>refine xE 10 35 rfl (Zd 8 Z4) ?_<;>(refine Zr 11 kR ?_)<;>(refine Ko rfl rfl kR fun DQ back=>?_)<;>refine YM 8 Zz Wd ?_<;>refine Zl (back _ (nav ?_))<;>try dsimp only)
   refine Zs (ZL (l:=34) (p':= .own 3 1 (a.start++YW a.n b.start).length ((a.start++YW a.n b.start).map pInt)) rfl (by (try rw [Xv]);(try rw [X9]);exact Tj _ a.start (YW a.n b.start))) fun _=>?_;refine Zs (Z6 (l:=8) (l':=34) (j:=2) rfl rfl rfl rfl) fun _=>?_;rw [ZV _ _ _ rfl];(refine ZY (fun i=>([11]:List Nat).elem i) [2,3,8] kR ?_<;>refine xD 0 36 rfl (Zd 8 ZX) ?_<;>(refine yD 1 37 rfl (Zj 8 Zz) fun v37 h=>?_;cases h)<;>refine xD 2 38 rfl (Zd 2 ZX) ?_<;>(refine yD 3 39 rfl (Zj 2 Zz) fun v39 h=>?_;cases h)<;>refine xD 5 41 rfl (Zd 3 ZX) ?_<;>(refine yD 6 42 rfl (Zj 3 Zz) fun v42 h=>?_;cases h)<;>refine xD 7 43 rfl Zb ?_<;>(refine Zr 4 kR ?_)<;>(refine Zo rfl fun w9 M9 N9 DQ back=>?_)<;>refine Kc 302 40 Zn (fun h40 ho40=>?_) (JE a.fin) (Gz a.fin)<;>refine Zl (back _ (nrm ?_))<;>(refine Zr 8 kR ?_)<;>(refine Zo rfl fun w9 M9 N9 DQ back=>?_)<;>(refine cO 44 (cA call197 (TV b.fin a.n oM oM (fun x hx=>by have:=hb.fi x hx;omega))) fun v44 ho44=>?_;refine Zt (En.freeze (l:=44) (t:=44) rfl rfl) fun _=>?_;rw [ZV _ _ _ rfl])<;>refine Zl (back _ (nrm ?_))<;>(refine Zr 9 kR ?_)<;>(refine Zo rfl fun w9 M9 N9 DQ back=>?_)<;>(refine Kc 40 45 Zn (fun h45 ho45=>?_) (JE (YW a.n b.fin)) (Gz (YW a.n b.fin));have q45:En.one (PV.val h45)=true:=ho45)<;>refine Zl (back _ (nrm ?_))<;>refine xE 10 46 rfl (Zd 8 ZX) ?_<;>(refine Zr 11 kR ?_)<;>(refine Ko rfl rfl kR fun DQ back=>?_)<;>refine YM 8 Zz Wd ?_<;>refine Zl (back _ (nav ?_))<;>try dsimp only)
   refine Zs (ZL (l:=45) (p':= .own 3 1 (a.fin++YW a.n b.fin).length ((a.fin++YW a.n b.fin).map pInt)) rfl (by (try rw [Xv]);(try rw [X9]);exact Tj _ a.fin (YW a.n b.fin))) fun _=>?_;refine Zs (Z6 (l:=8) (l':=45) (j:=3) rfl rfl rfl rfl) fun _=>?_;rw [ZV _ _ _ rfl];(refine ZY (fun i=>([11]:List Nat).elem i) [2,3,8] kR ?_<;>refine xD 0 47 rfl (Zd 8 Zw) ?_<;>(refine yD 1 48 rfl (Zj 8 ZA) fun v48 h=>?_;cases h)<;>refine xD 2 49 rfl (Zd 2 Zw) ?_<;>(refine yD 3 50 rfl (Zj 2 ZA) fun v50 h=>?_;cases h)<;>refine xD 5 52 rfl (Zd 3 Zw) ?_<;>(refine yD 6 53 rfl (Zj 3 ZA) fun v53 h=>?_;cases h)<;>refine xD 7 54 rfl Zb ?_<;>(refine Zr 4 kR ?_)<;>(refine Zo rfl fun w9 M9 N9 DQ back=>?_)<;>refine Kc 303 51 ZS (fun h51 ho51=>?_) (Tm a.moves) (Lu a.moves)<;>refine Zl (back _ (nrm ?_))<;>(refine Zr 8 kR ?_)<;>(refine Zo rfl fun w9 M9 N9 DQ back=>?_)<;>(refine cO 55 (cA call198 (E7 b a.n hb.toAOk oM)) fun v55 ho55=>?_;refine Zt (En.freeze (l:=55) (t:=55) rfl rfl) fun _=>?_;rw [Kj _ _ _ rfl])<;>refine Zl (back _ (nrm ?_))<;>(refine Zr 9 kR ?_)<;>(refine Zo rfl fun w9 M9 N9 DQ back=>?_)<;>(refine Kc 51 56 ZS (fun h56 ho56=>?_) (Tm (KH a.n b.moves)) (Lu (KH a.n b.moves));have q56:En.one (PV.val h56)=true:=ho56)<;>refine Zl (back _ (nrm ?_))<;>refine xE 10 57 rfl (Zd 8 Zw) ?_<;>(refine Zr 11 kR ?_)<;>(refine Ko rfl rfl kR fun DQ back=>?_)<;>refine YM 8 ZA YB ?_<;>refine Zl (back _ (nav ?_))<;>try dsimp only)
   refine Zs (ZL (l:=56) (p':= .own 93 3 (bsM a b).length ((bsM a b).flatMap cMv)) rfl (by (try rw [Xv]);(try rw [X9]);rw [←XN,←Xc];rfl)) fun _=>?_;refine Zs (Z6 (l:=8) (l':=56) (j:=4) rfl rfl rfl rfl) fun _=>?_;rw [Kj _ _ _ rfl];(refine Zv ?_<;>(refine yL 58 (Zu 8 Zh) fun v58 h=>?_;cases h)<;>(refine cP 59 (cA call199 hr) (fun va59 vb59 hva59 hvb59=>?_) (hsh:=r5.t E);cases hvb59)<;>refine xL 60 Zk (xL 61 Zk ?_)<;>refine ZD 4 Zh ?_<;>refine xL 5 Za ?_<;>refine Zc ?_)
   exact Z2 (k:=5) 4 kR (results146) rfl rfl rfl (Xa rfl) dC r5.s rfl
theorem Ze4 (a b:Aut) (hla:a.moves.length≤1000000) (hlb:b.moves.length≤1000000):AF prog 146 [ZN a,ZN b] (· =resW (Ga a b)):=by
 unfold Ga
 by_cases h0:WH a b=0
 · rw [UR (fun h=>h h0)];obtain ⟨ha,hb,hs⟩:=Jk h0;have hr:=LB (W5 a b) (by have:=Rl ha.toAOk hb.toAOk;show (bsM a b).length≤1000000;omega);rw [ZeN ha hb hs];obtain ⟨p0,p1,p2,p3,p4,E,h5,h2⟩:=Zf8 (GI (W5 a b));rw [h2] at hr ⊢;exact Ze3 a b hla hlb h0 h5 hr
 · rw [US h0];exact Za7 a b _ h0 (Gf a b hla hlb)
theorem Zdq (a:Aut) (hla:a.moves.length≤1000000) (hv:Z5 a=false):AF prog 145 [ZN a] (· = .tup [KS,pInt 1]):=by
 refine AF.of_body 70 func145 rfl ntmps145 (Xa rfl) ?_
 intro w0 M0 vs hl hv
 obtain ⟨v0,rfl⟩:=Wj hl
 clear hl hv
 refine Ze ?_
 (refine ZC 1 5 fun h1=>?_<;>refine Zx [(.int .i64 0),(.int .i64 0),(.slice none 0 0),(.slice none 0 0),(.slice none 0 0)] 5 2 ZJ fun h2=>?_<;>refine xL 3 Za ?_<;>refine Zi ?_)
 ((refine yL 8 (Zu 1 Zh) fun v8 h=>?_;cases h)<;>(refine cS 9 (cA call192 (YV a hla)) fun v9 h=>?_;cases h)<;>refine xL 10 Z8 ?_<;>refine Zc ?_)
 refine cX ?_ ?_<;>intro hb10
 · refine Ze ?_;(refine xL 11 (ZM ZU) ?_<;>refine ZD 2 Zh ?_<;>refine xL 3 Za ?_<;>refine Zc ?_)
   exact Z2 (k:=5) 2 kR (results145) rfl rfl rfl (Xa rfl) dC rfl rfl
 · rw [hv] at hb10;simp at hb10
set_option maxHeartbeats 2000000 in
theorem Zhz (a:Aut) (hla:a.moves.length≤1000000) (hv:Z5 a=true) {p0 p1 p2 p3 p4:PV} {E:Int} (r5:R5 p0 p1 p2 p3 p4) (hr:AF prog 199 [ZN (mkA (KT a))] (· = .tup [.agg [p0,p1,p2,p3,p4],pInt E])):AF prog 145 [ZN a] (· = .tup [.agg [p0,p1,p2,p3,p4],pInt E]):=by
 obtain ⟨o0,o1,o2,o3,o4⟩:=r5.o
 have h:=WS hv
 have hn0:=h.n0
 have hn1:=h.n1
 have hml:=h.ml
 have hsl:=h.sl
 have hfl:=h.fl
 refine AF.of_body 70 func145 rfl ntmps145 (Xa rfl) ?_
 intro w0 M0 vs hl hv
 obtain ⟨v0,rfl⟩:=Wj hl
 clear hl hv
 refine Ze ?_
 (refine ZC 1 5 fun h1=>?_<;>refine Zx [(.int .i64 0),(.int .i64 0),(.slice none 0 0),(.slice none 0 0),(.slice none 0 0)] 5 2 ZJ fun h2=>?_<;>refine xL 3 Za ?_<;>refine Zi ?_)
 ((refine yL 8 (Zu 1 Zh) fun v8 h=>?_;cases h)<;>(refine cS 9 (cA call192 (YV a hla)) fun v9 h=>?_;cases h)<;>refine xL 10 Z8 ?_<;>refine Zc ?_)
 refine cX ?_ ?_<;>intro hb10
 · rw [hv] at hb10;simp at hb10
 · refine Ze ?_;(refine xL 12 (Zd 1 ZQ) ?_<;>(refine yL 13 (Zj 1 Zg) fun v13 h=>?_;cases h)<;>refine xL 4 Za ?_<;>refine Zi ?_)
   (refine xL 14 Zb (xL 15 ZH (xL 16 (Zd 1 Z3) ?_))<;>(refine yL 17 (Zj 1 Zg) fun v17 h=>?_;cases h)<;>refine xL 18 Zb ?_<;>(refine ZO (kk:=1) 19 Zn fun h19 ho19=>?_;refine Zt (En.freeze (l:=19) (t:=19) rfl rfl) fun _=>?_;rw [show share (PV.own 3 1 1 [PV.val (.int .i64 a.n)])=pInts [a.n] from rfl])<;>refine xL 20 Zb ?_<;>(refine ZO (kk:=1) 21 Zn fun h21 ho21=>?_;refine Zt (En.freeze (l:=21) (t:=21) rfl rfl) fun _=>?_;rw [show share (PV.own 3 1 1 [PV.val (.int .i64 a.n)])=pInts [a.n] from rfl])<;>refine xL 22 (ZM ZU) ?_<;>refine Zx [(.int .i64 0),(.int .i64 0),(.slice none 0 0),(.slice none 0 0),(.slice none 0 0)] 5 5 ZJ fun h5=>?_<;>refine ZD 5 Zh ?_<;>refine Zc ?_)
   refine Zs (WY (l:=5) [pInt (a.n+1),pInt a.syms,pInts [a.n],pInts [a.n], .own 93 3 0 []] rfl rfl (fun i p p' h1 h2=>by
    match i with
    |0=>cases h1;cases h2;exact .inl rfl
    |1=>cases h1;cases h2;exact .inl rfl
    |2=>cases h1;cases h2;exact .inl rfl
    |3=>cases h1;cases h2;exact .inl rfl
    |4=>cases h1;cases h2;exact .inr ⟨rfl,_,_,rfl⟩
    |i+5=>simp at h2)) fun _=>?_
   refine Zs (Ws (l:=5) (l':=301) (j:=4) rfl rfl rfl rfl) fun i=>?_;obtain ⟨v301,ho301⟩:=i;dsimp only [List.set];(refine Zv ?_<;>refine xL 23 (Zd 5 Zw) ?_<;>(refine yL 24 (Zj 5 ZA) fun v24 h=>?_;cases h)<;>refine xL 25 (Zd 1 Zw) ?_<;>(refine yL 26 (Zj 1 ZA) fun v26 h=>?_;cases h)<;>(refine Kc 301 27 ZS (fun h27 ho27=>?_) (Tm a.moves) (Lu a.moves);have q27:En.one (PV.val h27)=true:=ho27)<;>refine xL 28 (Zd 5 Zw) ?_<;>refine YM 5 ZA YB ?_<;>refine Zc ?_)
   refine Zs (ZE (l:=27) 301 rfl rfl) fun _=>?_;refine Zs (ZL (l:=301) (p':= .own 93 3 (a.moves++Ky a.n (a.start.take 0)).length ((a.moves++Ky a.n (a.start.take 0)).flatMap cMv)) rfl (by (try rw [Xv]);(try rw [X9]);rw [show Ky a.n (a.start.take 0)=[] from rfl,Xq])) fun _=>?_;(refine Zv ?_<;>refine xL 6 Za ?_<;>refine Zc ?_)
   refine ZB (ι:={q:Nat×Value//q.1≤a.start.length∧q.2.oneCell'=true}) (fun k=>⟨[(1,_,_),(2,_,_),(4,_,_),(5,_,_),(6, .int .i64 k.1.1,pInt k.1.1)],[(1,_,_),(2,_,_),(5,h5, .own 39 5 1 [pInt (a.n+1),pInt a.syms,pInts [a.n],pInts [a.n], .val k.1.2]),(301,k.1.2, .own 93 3 (a.moves++Ky a.n (a.start.take k.1.1)).length ((a.moves++Ky a.n (a.start.take k.1.1)).flatMap cMv))]⟩) (fun k=>a.start.length-k.1.1) ⟨(0,h27),Xd _,ho27⟩ (fun a w H=>H.weaken ⟨rfl,rfl,rfl,rfl,rfl,trivial⟩ ⟨rfl,rfl,rfl,rfl,trivial⟩) ?_;rintro ⟨⟨k,hM⟩,hk,hMo⟩;dsimp only;dsimp only at hk hMo;have hl1:(a.moves++Ky a.n (a.start.take k)).length≤30000:=by unfold Ky;rw [Xc,Xe,Xo];omega
   have q5:En.one (PV.val hM)=true:=hMo;refine Ze ?_;(refine xL 29 Zb (xL 30 (Zd 1 Z4) ?_)<;>(refine yL 31 (Zj 1 Zz) fun v31 h=>?_;cases h)<;>refine xL 32 (ZR Zp) (xL 33 ZP ?_)<;>refine Zc ?_)
   refine cX ?_ ?_<;>intro hb33
   · first|exact bN hb33|(
 obtain ⟨x,hx⟩:=Zq (show k<a.start.length by omega);have e1:=Z7 (f:=pInt) hx;refine nav ?_;(refine ZY (fun i=>([12]:List Nat).elem i) [1,5] kR ?_<;>refine xD 0 36 rfl (Zd 5 Zw) ?_<;>(refine yD 1 37 rfl (Zj 5 ZA) fun v37 h=>?_;cases h)<;>refine xD 2 38 rfl Zb ?_<;>refine xD 3 39 rfl (Zd 1 Z4) ?_<;>(refine yD 4 40 rfl (Zj 1 Zz) fun v40 h=>?_;cases h)<;>refine xE 5 41 rfl Zb ?_<;>refine xE 6 42 rfl (ZI Zp) ?_<;>(refine yE 7 43 rfl (Ya Zg) fun v43 h=>?_;cases h)<;>refine xE 8 44 rfl (ZM YX) ?_<;>(refine Zr 9 kR ?_)<;>(refine Zo rfl fun w9 M9 N9 DQ back=>?_)<;>refine YD 45 ZS fun h45 ho45=>?_<;>refine Zl (back _ (nrm ?_))<;>(refine Zr 10 kR ?_)<;>(refine Zo rfl fun w9 M9 N9 DQ back=>?_)<;>(refine Z1 301 45 46 ZS fun h46 ho46=>?_;refine Zt (ZE (l:=46) 301 rfl rfl) fun _=>?_;refine Zt (ZL (l:=301) rfl ((WO _ (a.moves++Ky a.n (a.start.take k)) ⟨a.n,x,-1⟩).trans (by rw [Xy,←ζN a.n hx]))) fun _=>?_;have q46:En.one (PV.val h46)=true:=ho46)<;>refine Zl (back _ (nrm ?_))<;>refine xE 11 47 rfl (Zd 5 Zw) ?_<;>(refine Zr 12 kR ?_)<;>(refine Ko rfl rfl kR fun DQ back=>?_)<;>refine YM 5 ZA YB ?_<;>refine Zl (back _ (nav ?_))<;>try dsimp only)
 (refine Zv ?_<;>refine xL 34 Zb (xL 35 ZH (xL 6 Za ?_))<;>refine Zc ?_)
 refine Zm (
  ⟨(k+1,h46),Zf hx,ho46⟩
  ) (by dsimp only;omega) ⟨rfl,rfl,rfl,rfl,rfl,trivial⟩ ⟨rfl,rfl,rfl,rfl,trivial⟩)
   · first |exact bN hb33|(
 rw [Xk (show a.start.length≤k by omega)];refine nav ?_;refine Zs (Z6 (l:=5) (l':=301) (j:=4) rfl rfl rfl rfl) fun _=>?_;rw [Kj _ _ _ rfl];refine Zs (ZL (l:=5) (p':= .own 39 5 1 [pInt (a.n+1),pInt a.syms,pInts [a.n],pInts [a.n],pMvs (mkM (a.moves++Ky a.n a.start++T6 a.n (a.fin.take 0)))]) rfl (by rw [show T6 a.n (a.fin.take 0)=[] from rfl,Xq,show mkM (a.moves++Ky a.n a.start)=a.moves++Ky a.n a.start from ZeM (Zjt h)];rfl)) fun _=>?_;(refine Zv ?_<;>refine xL 7 Za ?_<;>refine Zc ?_)
 refine ZB (ι:={k:Nat//k≤a.fin.length}) (fun k=>⟨[(1,_,_),(2,_,_),(4,_,_),(5,_,_),(7, .int .i64 k.1,pInt k.1)],[(1,_,_),(2,_,_),(5,h5, .own 39 5 1 [pInt (a.n+1),pInt a.syms,pInts [a.n],pInts [a.n],pMvs (mkM (a.moves++Ky a.n a.start++T6 a.n (a.fin.take k.1)))])]⟩) (fun k=>a.fin.length-k.1) ⟨0,Xd _⟩ (fun a w H=>H.weaken ⟨rfl,rfl,rfl,rfl,rfl,trivial⟩ ⟨rfl,rfl,rfl,trivial⟩) ?_;rintro ⟨j,hj⟩;dsimp only;refine Ze ?_;(refine xL 48 Zb (xL 49 (Zd 1 ZX) ?_)<;>(refine yL 50 (Zj 1 Zz) fun v50 h=>?_;cases h)<;>refine xL 51 (ZR Zp) (xL 52 ZP ?_)<;>refine Zc ?_)
 refine cX ?_ ?_<;>intro hb52
 · first|exact bN hb52|(
 obtain ⟨y,hy⟩:=Zq (show j<a.fin.length by omega);have e1:=Z7 (f:=pInt) hy;have hins:AF prog 133 [pMvs (mkM (a.moves++Ky a.n a.start++T6 a.n (a.fin.take j))), .agg (cMv ⟨y,a.n,-1⟩)] (· =pMvs (mkM (a.moves++Ky a.n a.start++T6 a.n (a.fin.take (j+1))))):=by
  have h1:=GB (mkM (a.moves++Ky a.n a.start++T6 a.n (a.fin.take j))) ⟨y,a.n,-1⟩ (XL (Gj _) (by unfold Ky T6;rw [Xc,Xc,Xe,Xe,Xo];omega)) (Ka _);rw [ZaR,Xy (a.moves++Ky a.n a.start),←ζO a.n hy] at h1;exact h1
 refine nav ?_;(refine ZY (fun i=>([11]:List Nat).elem i) [1,5] kR ?_<;>refine xD 0 55 rfl (Zd 5 Zw) ?_<;>(refine yD 1 56 rfl (Zj 5 ZA) fun v56 h=>?_;cases h)<;>refine xD 2 57 rfl (Zd 1 ZX) ?_<;>(refine yD 3 58 rfl (Zj 1 Zz) fun v58 h=>?_;cases h)<;>refine xD 4 59 rfl Zb ?_<;>refine xD 5 60 rfl (ZI Zp) ?_<;>(refine yD 6 61 rfl (Ya Zg) fun v61 h=>?_;cases h)<;>refine xE 7 62 rfl Zb ?_<;>refine xE 8 63 rfl (ZM YX) ?_<;>(refine Zr 9 kR ?_)<;>(refine Zo rfl fun w9 M9 N9 DQ back=>?_)<;>(refine cS 64 (cA call133 (hins)) fun v64 h=>?_;cases h)<;>refine Zl (back _ (nrm ?_))<;>refine xE 10 65 rfl (Zd 5 Zw) ?_<;>(refine Zr 11 kR ?_)<;>(refine Ko rfl rfl kR fun DQ back=>?_)<;>refine YM 5 ZA YB ?_<;>refine Zl (back _ (nav ?_))<;>try dsimp only)
 (refine Zv ?_<;>refine xL 53 Zb (xL 54 ZH (xL 7 Za ?_))<;>refine Zc ?_)
 refine Zm (
  ⟨j+1,Zf hy⟩
  ) (by dsimp only;omega) ⟨rfl,rfl,rfl,rfl,rfl,trivial⟩ ⟨rfl,rfl,rfl,trivial⟩)
 · first|exact bN hb52|(
 rw [Xk (show a.fin.length≤j by omega)];refine Ze ?_;((refine yL 66 (Zu 5 Zh) fun v66 h=>?_;cases h)<;>(refine cP 67 (cA call199 hr) (fun va67 vb67 hva67 hvb67=>?_) (hsh:=r5.t E);cases hvb67)<;>refine xL 68 Zk (xL 69 Zk ?_)<;>refine ZD 2 Zh ?_<;>refine xL 3 Za ?_<;>refine Zc ?_)
 exact Z2 (k:=5) 2 kR (results145) rfl rfl rfl (Xa rfl) dC r5.s rfl))
theorem ZhA (a:Aut) (hla:a.moves.length≤1000000):AF prog 145 [ZN a] (· =resW (JD a)):=by
 unfold JD
 cases hv:Z5 a with
 |false=>rw [UR sM];exact Zdq a hla hv
 | true=>
   rw [US rfl];have h:=WS hv;have hr:=LB (mkA (KT a)) (XL (Gj _) (EZ h.toAOk));rw [Zhc h];obtain ⟨p0,p1,p2,p3,p4,E,h5,h2⟩:=Zf8 (GI (mkA (KT a)));rw [h2] at hr ⊢;exact Zhz a hla hv h5 hr
theorem Cx (a b:Aut) (e:Int) (he:¬e=0) (hf:AF prog 196 [ZN a,ZN b] (· =pInt e)):AF prog 144 [ZN a,ZN b] (· = .tup [KS,pInt e]):=by
 refine AF.of_body 103 func144 rfl ntmps144 (Xa rfl) ?_
 intro w0 M0 vs hl hv
 obtain ⟨v0,v1,rfl⟩:=YG hl
 clear hl hv
 refine Ze ?_
 (refine ZC 2 5 fun h2=>?_<;>refine ZC 3 5 fun h3=>?_<;>refine Zx [(.int .i64 0),(.int .i64 0),(.slice none 0 0),(.slice none 0 0),(.slice none 0 0)] 5 4 ZJ fun h4=>?_<;>refine xL 5 Za ?_<;>refine Zi ?_)
 ((refine yL 11 (Zu 2 Zh) fun v11 h=>?_;cases h)<;>(refine yL 12 (Zu 3 Zh) fun v12 h=>?_;cases h)<;>(refine cS 13 (cA call196 (hf)) fun v13 h=>?_;cases h)<;>refine xL 6 Za ?_<;>refine Zi ?_)
 (refine xL 14 Zb (xL 15 Yx ?_)<;>refine Zc ?_)
 refine cX ?_ ?_<;>intro hb15
 · refine Ze ?_;(refine xL 16 (ZM ZU) (xL 17 Zb ?_)<;>refine ZD 4 Zh ?_<;>refine xL 5 Za ?_<;>refine Zc ?_)
   exact Z2 (k:=5) 4 kR (results144) rfl rfl rfl (Xa rfl) dC rfl rfl
 · exact UT (by simpa using hb15) he
set_option maxHeartbeats 4000000 in
theorem Zdr (a b :Aut) (hla:a.moves.length≤1000000) (hlb:b.moves.length≤1000000) (hf0:WH a b=0) {p0 p1 p2 p3 p4:PV} {E:Int} (r5:R5 p0 p1 p2 p3 p4) (hr:(Km a b).moves.length≤20000→AF prog 199 [ZN (mkA (Km a b))] (· = .tup [.agg [p0,p1,p2,p3,p4],pInt E])):AF prog 144 [ZN a,ZN b] (· =if 2000<a.n+b.n∨20000<(Km a b).moves.length then .tup [KS,pInt 13] else .tup [.agg [p0,p1,p2,p3,p4],pInt E]):=by
 obtain ⟨o0,o1,o2,o3,o4⟩:=r5.o
 obtain ⟨ha,hb,hs⟩:=Jk hf0
 have hf:=Gf a b hla hlb
 rw [hf0] at hf
 have hn0:=ha.n0
 have hn1:=ha.n1
 have k0:=ha.ml
 have k1:=ha.sl
 have k2:=hb.sl
 have k3:=ha.fl
 have k4:=hb.fl
 have m0:=hb.n0
 have m1:=hb.n1
 have kml:=Rl ha.toAOk hb.toAOk
 have kmb:=hb.ml
 have l2:=KU a.n b.fin
 have l3:=La a.n b.moves
 have hFS:a.fin.length*b.start.length≤2000*2000:=VD k3 k2
 have hFI:((a.fin.length*b.start.length:Nat):Int)=(a.fin.length:Int)*(b.start.length:Int):=Vy _ _
 have hcl:=P5 a b
 refine AF.of_body 103 func144 rfl ntmps144 (Xa rfl) ?_
 intro w0 M0 vs hl hv
 obtain ⟨v0,v1,rfl⟩:=YG hl
 clear hl hv
 refine Ze ?_
 (refine ZC 2 5 fun h2=>?_<;>refine ZC 3 5 fun h3=>?_<;>refine Zx [(.int .i64 0),(.int .i64 0),(.slice none 0 0),(.slice none 0 0),(.slice none 0 0)] 5 4 ZJ fun h4=>?_<;>refine xL 5 Za ?_<;>refine Zi ?_)
 ((refine yL 11 (Zu 2 Zh) fun v11 h=>?_;cases h)<;>(refine yL 12 (Zu 3 Zh) fun v12 h=>?_;cases h)<;>(refine cS 13 (cA call196 (hf)) fun v13 h=>?_;cases h)<;>refine xL 6 Za ?_<;>refine Zi ?_)
 (refine xL 14 Zb (xL 15 Yx ?_)<;>refine Zc ?_)
 refine cX ?_ ?_<;>intro hb15
 · first|omega|exact UT rfl hb15|exact bN hb15
 · refine Ze ?_;(refine xL 18 (Zd 2 ZQ) ?_<;>(refine yL 19 (Zj 2 Zg) fun v19 h=>?_;cases h)<;>refine xL 7 Za ?_<;>refine Zc ?_)
   refine Ot (fun h8:Value=>⟨[(2,padd (sbase h2) 0, .val (padd (sbase h2) 0)),(3,padd (sbase h3) 0, .val (padd (sbase h3) 0)),(4,padd (sbase h4) 0, .val (padd (sbase h4) 0)),(7, .int .i64 a.n,pInt a.n),(8,padd (sbase h8) 0, .val (padd (sbase h8) 0))],[(2,h2, .own 39 5 1 [pInt a.n,pInt a.syms,pInts a.start,pInts a.fin,pMvs a.moves]),(3,h3, .own 39 5 1 [pInt b.n,pInt b.syms,pInts b.start,pInts b.fin,pMvs b.moves]),(4,h4, .own 39 5 1 [pInt 0,pInt 0, .val (.slice none 0 0), .val (.slice none 0 0), .val (.slice none 0 0)]),(8,h8, .own 39 5 1 [pInt (a.n+b.n),pInt a.syms,pInts a.start,pInts (YW a.n b.fin), .val (.slice none 0 0)])]⟩) ?_ ?_
   · (refine ZY (fun i=>([]:List Nat).elem i) [2,3] kR ?_<;>refine xD 0 20 rfl Zb ?_<;>refine xD 1 21 rfl (Zd 3 ZQ) ?_<;>(refine yD 2 22 rfl (Zj 3 Zg) fun v22 h=>?_;cases h)<;>refine xD 3 23 rfl ZH ?_<;>refine xD 4 24 rfl (Zd 2 Z3) ?_<;>(refine yD 5 25 rfl (Zj 2 Zg) fun v25 h=>?_;cases h)<;>refine xD 6 26 rfl (Zd 2 Z4) ?_<;>(refine yD 7 27 rfl (Zj 2 Zz) fun v27 h=>?_;cases h)<;>refine xD 8 28 rfl (Zd 3 ZX) ?_<;>(refine yD 9 29 rfl (Zj 3 Zz) fun v29 h=>?_;cases h)<;>refine xD 10 30 rfl Zb ?_<;>(refine Y8 11 13 kR ?_ ?_;rotate_right;(focus ((refine Zo rfl fun w9 M9 N9 DQ back=>?_)<;>refine Zx [(.int .i64 0),(.int .i64 0),(.slice none 0 0),(.slice none 0 0),(.slice none 0 0)] 5 8 ZJ fun h8=>?_<;>refine Zl (back _ (nrm ?_))<;>(refine Zr 11 kR ?_)<;>(refine Zo rfl fun w9 M9 N9 DQ back=>?_)<;>(refine cO 31 (cA call197 (TV b.fin a.n oM oM (fun x hx=>by have:=hb.fi x hx;omega))) fun v31 ho31=>?_;refine Zt (En.freeze (l:=31) (t:=31) rfl rfl) fun _=>?_;rw [ZV _ _ _ rfl])<;>refine Zl (back _ (nrm ?_))<;>refine xE 12 32 rfl (ZM ZU) ?_<;>(refine Zr 14 kR ?_)<;>(refine Zo rfl fun w9 M9 N9 DQ back=>?_)<;>refine ZD 8 Zh ?_<;>refine Zl (back _ (nrm ?_))));rotate_right;(focus ((refine Zo rfl fun w9 M9 N9 DQ back=>?_)<;>(refine cO 31 (cA call197 (TV b.fin a.n oM oM (fun x hx=>by have:=hb.fi x hx;omega))) fun v31 ho31=>?_;refine Zt (En.freeze (l:=31) (t:=31) rfl rfl) fun _=>?_;rw [ZV _ _ _ rfl])<;>refine Zl (back _ (nrm ?_))<;>refine xD 12 32 rfl (ZM ZU) ?_<;>(refine Zr 13 kR ?_)<;>(refine Zo rfl fun w9 M9 N9 DQ back=>?_)<;>refine Zx [(.int .i64 0),(.int .i64 0),(.slice none 0 0),(.slice none 0 0),(.slice none 0 0)] 5 8 ZJ fun h8=>?_<;>refine Zl (back _ (nrm ?_))<;>(refine Zr 14 kR ?_)<;>(refine Zo rfl fun w9 M9 N9 DQ back=>?_)<;>refine ZD 8 Zh ?_<;>refine Zl (back _ (nrm ?_)))))<;>refine Yr kR (nav ?_)<;>try dsimp only)<;>(
 exact WM _ ⟨rfl,rfl,rfl,rfl,rfl,trivial⟩ ⟨rfl,rfl,rfl,rfl,trivial⟩)
   · rintro h8;skip
     refine Ze ?_;(refine xL 33 (Zd 8 ZQ) ?_<;>(refine yL 34 (Zj 8 Zg) fun v34 h=>?_;cases h)<;>refine xL 35 Yw (xL 36 Zb ?_)<;>(refine bLd 36 (fun hb36=>?_) (fun hb36=>?_)<;>(first|refine kL 37 ?_|refine xL 37 (Zd 2 Zw) ?_))<;>(first|refine kL 38 ?_|(refine yL 38 (Zj 2 ZA) fun v38 h=>?_;cases h))<;>(first|refine kL 39 ?_|refine xL 39 (ZR ZF) ?_)<;>(first|refine kL 40 ?_|refine xL 40 (Zd 3 Zw) ?_)<;>(first|refine kL 41 ?_|(refine yL 41 (Zj 3 ZA) fun v41 h=>?_;cases h))<;>(first|refine kL 42 ?_|refine xL 42 (ZR ZF) ?_)<;>(first|refine kL 43 ?_|refine xL 43 ZH ?_)<;>(first|refine kL 44 ?_|refine xL 44 (Zd 2 ZX) ?_)<;>(first|refine kL 45 ?_|(refine yL 45 (Zj 2 Zz) fun v45 h=>?_;cases h))<;>(first|refine kL 46 ?_|refine xL 46 (ZR Zp) ?_)<;>(first|refine kL 47 ?_|refine xL 47 (Zd 3 Z4) ?_)<;>(first|refine kL 48 ?_|(refine yL 48 (Zj 3 Zz) fun v48 h=>?_;cases h))<;>(first|refine kL 49 ?_|refine xL 49 (ZR Zp) ?_)<;>(first|refine kL 50 ?_|refine xL 50 Ju ?_)<;>(first|refine kL 51 ?_|refine xL 51 ZH ?_)<;>(first|refine kL 52 ?_|refine xL 52 Yw ?_)<;>refine xL 53 ZG ?_<;>refine Zc ?_)<;>(
 refine cX ?_ ?_<;>intro hb53
 · first|exact bN hb53|(
 refine Ze ?_;((refine cP 54 (cA call194 (Gc)) fun va54 vb54 hva54 h=>?_;cases h)<;>refine xL 55 Zk (xL 56 Zk ?_)<;>refine ZD 4 Zh ?_<;>refine xL 5 Za ?_<;>refine Zc ?_)
 exact Z2 (k:=5) 4 kR (results144) rfl rfl rfl (Xa rfl) dC rfl (by rw [US oM];rfl))
 · first | exact bN hb53|(
 refine nav ?_;have hnl:¬2000<a.n+b.n∧(Km a b).moves.length≤20000:=oM;have hr:=hr hnl.2;refine Zs (WY (l:=8) [pInt (a.n+b.n),pInt a.syms,pInts a.start,pInts (YW a.n b.fin), .own 93 3 0 []] rfl rfl (fun i p p' h1 h2=>by
  match i with
  |0=>cases h1;cases h2;exact .inl rfl
  |1=>cases h1;cases h2;exact .inl rfl
  |2=>cases h1;cases h2;exact .inl rfl
  |3=>cases h1;cases h2;exact .inl rfl
  |4=>cases h1;cases h2;exact .inr ⟨rfl,_,_,rfl⟩
  |i+5=>simp at h2)) fun _=>?_
 refine Zs (Ws (l:=8) (l':=301) (j:=4) rfl rfl rfl rfl) fun i=>?_;obtain ⟨v301,ho301⟩:=i;dsimp only [List.set];(refine ZY (fun i=>([11]:List Nat).elem i) [2,3,8] kR ?_<;>refine xD 0 57 rfl (Zd 8 Zw) ?_<;>(refine yD 1 58 rfl (Zj 8 ZA) fun v58 h=>?_;cases h)<;>refine xD 2 59 rfl (Zd 2 Zw) ?_<;>(refine yD 3 60 rfl (Zj 2 ZA) fun v60 h=>?_;cases h)<;>refine xD 5 62 rfl (Zd 3 Zw) ?_<;>(refine yD 6 63 rfl (Zj 3 ZA) fun v63 h=>?_;cases h)<;>refine xD 7 64 rfl Zb ?_<;>(refine Zr 4 kR ?_)<;>(refine Zo rfl fun w9 M9 N9 DQ back=>?_)<;>refine Kc 301 61 ZS (fun h61 ho61=>?_) (Tm a.moves) (Lu a.moves)<;>refine Zl (back _ (nrm ?_))<;>(refine Zr 8 kR ?_)<;>(refine Zo rfl fun w9 M9 N9 DQ back=>?_)<;>(refine cO 65 (cA call198 (E7 b a.n hb.toAOk oM)) fun v65 ho65=>?_;refine Zt (En.freeze (l:=65) (t:=65) rfl rfl) fun _=>?_;rw [Kj _ _ _ rfl])<;>refine Zl (back _ (nrm ?_))<;>(refine Zr 9 kR ?_)<;>(refine Zo rfl fun w9 M9 N9 DQ back=>?_)<;>(refine Kc 61 66 ZS (fun h66 ho66=>?_) (Tm (KH a.n b.moves)) (Lu (KH a.n b.moves));have q66:En.one (PV.val h66)=true:=ho66)<;>refine Zl (back _ (nrm ?_))<;>refine xE 10 67 rfl (Zd 8 Zw) ?_<;>(refine Zr 11 kR ?_)<;>(refine Ko rfl rfl kR fun DQ back=>?_)<;>refine YM 8 ZA YB ?_<;>refine Zl (back _ (nav ?_))<;>try dsimp only)
 refine Zs (ZL (l:=66) (p':= .own 93 3 (bsM a b).length ((bsM a b).flatMap cMv)) rfl (by (try rw [Xv]);(try rw [X9]);rw [←XN,←Xc];rfl)) fun _=>?_;refine Zs (Z6 (l:=8) (l':=66) (j:=4) rfl rfl rfl rfl) fun _=>?_;rw [Kj _ _ _ rfl];refine Zs (ZL (l:=8) (p':= .own 39 5 1 [pInt (a.n+b.n),pInt a.syms,pInts a.start,pInts (YW a.n b.fin),pMvs (mkM (ctM a b 0))]) rfl (by rw [E2,show mkM (bsM a b)=bsM a b from ZeM (ZcS ha hb)];rfl)) fun _=>?_;(refine Zv ?_<;>refine xL 9 Za ?_<;>refine Zc ?_)
 refine ZB (ι:={k:Nat//k≤a.fin.length}) (fun k=>⟨[(2,_,_),(3,_,_),(4,_,_),(7,_,_),(8,_,_),(9, .int .i64 k.1,pInt k.1)],[(2,_,_),(3,_,_),(4,_,_),(8,h8, .own 39 5 1 [pInt (a.n+b.n),pInt a.syms,pInts a.start,pInts (YW a.n b.fin),pMvs (mkM (ctM a b k.1))])]⟩) (fun k=>a.fin.length-k.1) ⟨0,Xd _⟩ (fun a w H=>H.weaken ⟨rfl,rfl,rfl,rfl,rfl,rfl,trivial⟩ ⟨rfl,rfl,rfl,rfl,trivial⟩) ?_;rintro ⟨i,hi⟩;dsimp only;refine Ze ?_;(refine xL 68 Zb (xL 69 (Zd 2 ZX) ?_)<;>(refine yL 70 (Zj 2 Zz) fun v70 h=>?_;cases h)<;>refine xL 71 (ZR Zp) (xL 72 ZP ?_)<;>refine Zc ?_)
 refine cX ?_ ?_<;>intro hb72
 · first |exact bN hb72|(
 obtain ⟨f,hf⟩:=Zq (show i<a.fin.length by omega);have e1:=Z7 (f:=pInt) hf;have hfin:=ha.fi f (Xb hf);refine Ze ?_;(refine xL 10 Za ?_<;>refine Zc ?_)
 refine Zs (ZL (l:=8) (p':= .own 39 5 1 [pInt (a.n+b.n),pInt a.syms,pInts a.start,pInts (YW a.n b.fin),pMvs (mkM (ctM a b i++JW a.n f (b.start.take 0)))]) rfl (by rw [show JW a.n f (b.start.take 0)=[] from rfl,Xq])) fun _=>?_;refine ZB (ι:={k:Nat//k≤b.start.length}) (fun k=>⟨[(2,_,_),(3,_,_),(4,_,_),(7,_,_),(8,_,_),(9,_,_),(10, .int .i64 k.1,pInt k.1)],[(2,_,_),(3,_,_),(4,_,_),(8,h8, .own 39 5 1 [pInt (a.n+b.n),pInt a.syms,pInts a.start,pInts (YW a.n b.fin),pMvs (mkM (ctM a b i++JW a.n f (b.start.take k.1)))])]⟩) (fun k=>b.start.length-k.1) ⟨0,Xd _⟩ (fun a w H=>H.weaken ⟨rfl,rfl,rfl,rfl,rfl,rfl,rfl,trivial⟩ ⟨rfl,rfl,rfl,rfl,trivial⟩) ?_;rintro ⟨j,hj⟩;dsimp only;refine Ze ?_;(refine xL 75 Zb (xL 76 (Zd 3 Z4) ?_)<;>(refine yL 77 (Zj 3 Zz) fun v77 h=>?_;cases h)<;>refine xL 78 (ZR Zp) (xL 79 ZP ?_)<;>refine Zc ?_)
 refine cX ?_ ?_<;>intro hb79
 · first|exact bN hb79|(
 obtain ⟨s,hs⟩:=Zq (show j<b.start.length by omega);have e2:=Z7 (f:=pInt) hs;have hsin:=hb.st s (Xb hs);have hpart:=Zf4 f (Zf hf) hj;have hins:AF prog 133 [pMvs (mkM (ctM a b i++JW a.n f (b.start.take j))), .agg (cMv ⟨f,a.n+s,-1⟩)] (· =pMvs (mkM (ctM a b i++JW a.n f (b.start.take (j+1))))):=by
  have h1:=GB (mkM (ctM a b i++JW a.n f (b.start.take j))) ⟨f,a.n+s,-1⟩ (XL (Gj _) oM) (Ka _);rw [ZaR,Xy,Int.add_comm a.n s,←OK a.n f hs] at h1;rw [Int.add_comm a.n s];exact h1
 refine nav ?_;(refine ZY (fun i=>([17]:List Nat).elem i) [2,3,8] kR ?_<;>refine xD 0 82 rfl (Zd 8 Zw) ?_<;>(refine yD 1 83 rfl (Zj 8 ZA) fun v83 h=>?_;cases h)<;>refine xD 2 84 rfl (Zd 2 ZX) ?_<;>(refine yD 3 85 rfl (Zj 2 Zz) fun v85 h=>?_;cases h)<;>refine xD 4 86 rfl Zb ?_<;>refine xD 5 87 rfl (ZI Zp) ?_<;>(refine yD 6 88 rfl (Ya Zg) fun v88 h=>?_;cases h)<;>refine xD 7 89 rfl Zb ?_<;>refine xD 8 90 rfl (Zd 3 Z4) ?_<;>(refine yD 9 91 rfl (Zj 3 Zz) fun v91 h=>?_;cases h)<;>refine xE 10 92 rfl Zb ?_<;>refine xE 11 93 rfl (ZI Zp) ?_<;>(refine yE 12 94 rfl (Ya Zg) fun v94 h=>?_;cases h)<;>refine xE 13 95 rfl ZH ?_<;>refine xE 14 96 rfl (ZM YX) ?_<;>(refine Zr 15 kR ?_)<;>(refine Zo rfl fun w9 M9 N9 DQ back=>?_)<;>(refine cS 97 (cA call133 (hins)) fun v97 h=>?_;cases h)<;>refine Zl (back _ (nrm ?_))<;>refine xE 16 98 rfl (Zd 8 Zw) ?_<;>(refine Zr 17 kR ?_)<;>(refine Ko rfl rfl kR fun DQ back=>?_)<;>refine YM 8 ZA YB ?_<;>refine Zl (back _ (nav ?_))<;>try dsimp only)
 (refine Zv ?_<;>refine xL 80 Zb (xL 81 ZH (xL 10 Za ?_))<;>refine Zc ?_)
 refine Zm (
  ⟨j+1,Zf hs⟩
  ) (by dsimp only;omega) ⟨rfl,rfl,rfl,rfl,rfl,rfl,rfl,trivial⟩ ⟨rfl,rfl,rfl,rfl,trivial⟩)
 · first|exact bN hb79|(
 refine Zs (ZL (l:=8) (p':= .own 39 5 1 [pInt (a.n+b.n),pInt a.syms,pInts a.start,pInts (YW a.n b.fin),pMvs (mkM (ctM a b (i+1)))]) rfl (by rw [show ctM a b i++JW a.n f (b.start.take j)=ctM a b (i+1) by rw [Xk (show b.start.length≤j by omega),Zda hf]])) fun _=>?_;refine Ze ?_;(refine xL 73 Zb (xL 74 ZH (xL 9 Za ?_))<;>refine Zc ?_)
 refine Zm (
  ⟨i+1,Zf hf⟩
  ) (by dsimp only;omega) ⟨rfl,rfl,rfl,rfl,rfl,rfl,trivial⟩ ⟨rfl,rfl,rfl,rfl,trivial⟩))
 · first|exact bN hb72|(
 rw [Zf3 a b (show a.fin.length≤i by omega)];refine Ze ?_;((refine yL 99 (Zu 8 Zh) fun v99 h=>?_;cases h)<;>(refine cP 100 (cA call199 hr) (fun va100 vb100 hva100 hvb100=>?_) (hsh:=r5.t E);cases hvb100)<;>refine xL 101 Zk (xL 102 Zk ?_)<;>refine ZD 4 Zh ?_<;>refine xL 5 Za ?_<;>refine Zc ?_)
 exact Z2 (k:=5) 4 kR (results144) rfl rfl rfl (Xa rfl) dC r5.s (by rw [UR oM];rfl))))
theorem SQ (a b:Aut) (hla:a.moves.length≤1000000) (hlb:b.moves.length≤1000000):AF prog 144 [ZN a,ZN b] (· =resW (Gv a b)):=by
 unfold Gv
 by_cases h0:WH a b=0
 · rw [UR (fun h=>h h0)];obtain ⟨ha,hb,hs⟩:=Jk h0;rw [ZcT ha hb hs];obtain ⟨p0,p1,p2,p3,p4,E,h5,h2⟩:=Zf8 (GI (mkA (Km a b)));refine (Zdr a b hla hlb h0 h5 (E:=E) fun hl=>?_).mono fun p hp=>?_
   · have hr:=LB (mkA (Km a b)) (XL (Gj _) oM);rw [h2] at hr;exact hr
   · rw [hp];split
     · rename_i h;rw [ζC ha hb (by rw [←P5];exact h)];rfl
     · exact h2.symm
 · rw [US h0];exact Cx a b _ h0 (Gf a b hla hlb)
theorem Zmn (e:Nat) (l m:List Mv):PV.own e 3 (l.length+m.length) (l.flatMap cMv++m.flatMap cMv)= .own e 3 (l++m).length ((l++m).flatMap cMv):=by rw [Xc,XN]
theorem Tn (m:Int) (l k:List Int) (i j:Nat):Jf m l k i (j+1)=Jf m l k i j++Lh m l k i j:=flat_snoc _ _
theorem O1 (m:Int) (l k:List Int) (i:Nat):KC m l k (i+1)=KC m l k i++Jf m l k i m.toNat:=flat_snoc _ _
theorem ζ2 (a b:Aut) (i j:Nat):Lf a b i (j+1)=Lf a b i j++DX a b i j:=flat_snoc _ _
theorem ζ3 (a b:Aut) (i:Nat):Gd a b (i+1)=Gd a b i++Lf a b i b.n.toNat:=flat_snoc _ _
theorem Og (m:Int) (l k:List Int) (i:Nat):∀j,(Jf m l k i j).length≤j
 |0=>Xg _
 | j+1=>by
   have h:=Og m l k i j;rw [Tn,Xc];have:(Lh m l k i j).length≤1:=by unfold Lh;split<;>simp
   omega
theorem E8 (m:Int) (l k:List Int):∀i,(KC m l k i).length≤i*m.toNat
 |0=>Xd _
 | i+1=>by
   have h:=E8 m l k i;have h2:=Og m l k i m.toNat;rw [O1,Xc,X5];omega
theorem Zds {m:Int} {l k:List Int} {i j:Nat} (h1:LI l (i:Nat)=true) (h2:LI k (j:Nat)=true):Lh m l k i j=[(i:Nat)*m+(j:Nat)]:=by unfold Lh;rw [h1,h2];rfl
theorem Zdt {m:Int} {l k:List Int} {i j:Nat} (h1:LI l (i:Nat)=false):Lh m l k i j=[]:=by unfold Lh;rw [h1];rfl
theorem Zdu {m:Int} {l k:List Int} {i j:Nat} (h1:LI k (j:Nat)=false):Lh m l k i j=[]:=by unfold Lh;rw [h1,Bool.and_false];rfl
theorem Zkl (a b:Aut) (i j:Nat):(DX a b i j).length≤a.moves.length+b.moves.length:=by
 unfold DX
 refine XL (Gj _) ?_
 unfold apA apB
 rw [Xc,Xe,Xe]
 exact Nat.add_le_add (Vp _ _) (Vp _ _)
theorem E9 (a b:Aut) (e:Int) (he:¬e=0) (hf:AF prog 196 [ZN a,ZN b] (· =pInt e)):AF prog 147 [ZN a,ZN b] (· = .tup [KS,pInt e]):=by
 refine AF.of_body 182 func147 rfl ntmps147 (Xa rfl) ?_
 intro w0 M0 vs hl hv
 obtain ⟨v0,v1,rfl⟩:=YG hl
 clear hl hv
 refine Ze ?_
 (refine ZC 2 5 fun h2=>?_<;>refine ZC 3 5 fun h3=>?_<;>refine Zx [(.int .i64 0),(.int .i64 0),(.slice none 0 0),(.slice none 0 0),(.slice none 0 0)] 5 4 ZJ fun h4=>?_<;>refine xL 5 Za ?_<;>refine Zi ?_)
 ((refine yL 14 (Zu 2 Zh) fun v14 h=>?_;cases h)<;>(refine yL 15 (Zu 3 Zh) fun v15 h=>?_;cases h)<;>(refine cS 16 (cA call196 (hf)) fun v16 h=>?_;cases h)<;>refine xL 6 Za ?_<;>refine Zi ?_)
 (refine xL 17 Zb (xL 18 Yx ?_)<;>refine Zc ?_)
 refine cX ?_ ?_<;>intro hb18
 · refine Ze ?_;(refine xL 19 (ZM ZU) (xL 20 Zb ?_)<;>refine ZD 4 Zh ?_<;>refine xL 5 Za ?_<;>refine Zc ?_)
   exact Z2 (k:=5) 4 kR (results147) rfl rfl rfl (Xa rfl) dC rfl rfl
 · exact UT (by simpa using hb18) he
set_option maxHeartbeats 8000000 in
theorem Za8 (a b : Aut) (hla : a.moves.length≤1000000) (hlb:b.moves.length≤1000000) (hf0:WH a b=0) {p0 p1 p2 p3 p4:PV} {E:Int} (r5:R5 p0 p1 p2 p3 p4) (hr:(mkM (Wh a b).moves).length≤20000→AF prog 199 [ZN (mkA (Wh a b))] (· = .tup [.agg [p0,p1,p2,p3,p4],pInt E])):AF prog 147 [ZN a,ZN b] (· =if 2000<a.n*b.n∨20000<(mkM (Wh a b).moves).length then .tup [KS,pInt 13] else .tup [.agg [p0,p1,p2,p3,p4],pInt E]):=by
 obtain ⟨o0,o1,o2,o3,o4⟩:=r5.o
 obtain ⟨ha,hb,hs⟩:=Jk hf0
 have hf:=Gf a b hla hlb
 rw [hf0] at hf
 have hn0:=ha.n0
 have hn1:=ha.n1
 have m0:=hb.n0
 have m1:=hb.n1
 have k5:=ha.ml
 have k6:=hb.ml
 have q1:=Lj (x:=a.n) (y:=b.n) ⟨hn0,hn1⟩ ⟨m0,m1⟩
 have eN:((a.n.toNat:Nat):Int)=a.n:=X1 hn0
 have eM:((b.n.toNat:Nat):Int)=b.n:=X1 m0
 have hall:=ZlJ ha hb
 refine AF.of_body 182 func147 rfl ntmps147 (Xa rfl) ?_
 intro w0 M0 vs hl hv
 obtain ⟨v0,v1,rfl⟩:=YG hl
 clear hl hv
 refine Ze ?_
 (refine ZC 2 5 fun h2=>?_<;>refine ZC 3 5 fun h3=>?_<;>refine Zx [(.int .i64 0),(.int .i64 0),(.slice none 0 0),(.slice none 0 0),(.slice none 0 0)] 5 4 ZJ fun h4=>?_<;>refine xL 5 Za ?_<;>refine Zi ?_)
 ((refine yL 14 (Zu 2 Zh) fun v14 h=>?_;cases h)<;>(refine yL 15 (Zu 3 Zh) fun v15 h=>?_;cases h)<;>(refine cS 16 (cA call196 (hf)) fun v16 h=>?_;cases h)<;>refine xL 6 Za ?_<;>refine Zi ?_)
 (refine xL 17 Zb (xL 18 Yx ?_)<;>refine Zc ?_)
 refine cX ?_ ?_<;>intro hb18
 · first|omega|exact UT rfl hb18|exact bN hb18
 · refine Ze ?_;(refine xL 21 (Zd 3 ZQ) ?_<;>(refine yL 22 (Zj 3 Zg) fun v22 h=>?_;cases h)<;>refine xL 7 Za ?_<;>refine Zi ?_)
   (refine xL 23 (Zd 2 ZQ) ?_<;>(refine yL 24 (Zj 2 Zg) fun v24 h=>?_;cases h)<;>refine xL 25 Zb (xL 26 Ju (xL 27 (Zd 2 Z3) ?_))<;>(refine yL 28 (Zj 2 Zg) fun v28 h=>?_;cases h)<;>refine xL 29 (ZM ZU) ?_<;>refine Zx [(.int .i64 0),(.int .i64 0),(.slice none 0 0),(.slice none 0 0),(.slice none 0 0)] 5 8 ZJ fun h8=>?_<;>refine ZD 8 Zh ?_<;>refine Zi ?_)
   (refine xL 30 (Zd 8 ZQ) ?_<;>(refine yL 31 (Zj 8 Zg) fun v31 h=>?_;cases h)<;>refine xL 32 Yw ?_<;>refine Zc ?_)
   refine cX ?_ ?_<;>intro hb32
   · first|exact bN hb32|(
 refine Ze ?_;((refine cP 33 (cA call194 (Gc)) fun va33 vb33 hva33 h=>?_;cases h)<;>refine xL 34 Zk (xL 35 Zk ?_)<;>refine ZD 4 Zh ?_<;>refine xL 5 Za ?_<;>refine Zc ?_)
 exact Z2 (k:=5) 4 kR (results147) rfl rfl rfl (Xa rfl) dC rfl (by rw [US oM];rfl))
   · first | exact bN hb32 | (
 refine nav ?_;refine Zs (WY (l:=8) [pInt (a.n*b.n),pInt a.syms, .own 3 1 0 [], .own 3 1 0 [], .own 93 3 0 []] rfl rfl (fun i p p' h1 h2=>by
  match i with
  |0=>cases h1;cases h2;exact .inl rfl
  |1=>cases h1;cases h2;exact .inl rfl
  |2=>cases h1;cases h2;exact .inr ⟨rfl,_,_,rfl⟩
  |3=>cases h1;cases h2;exact .inr ⟨rfl,_,_,rfl⟩
  |4=>cases h1;cases h2;exact .inr ⟨rfl,_,_,rfl⟩
  |i+5=>simp at h2)) fun _=>?_
 refine Zs (Ws (l:=8) (l':=302) (j:=2) rfl rfl rfl rfl) fun i=>?_;obtain ⟨v302,ho302⟩:=i;dsimp only [List.set];refine Zs (Ws (l:=8) (l':=303) (j:=3) rfl rfl rfl rfl) fun i=>?_;obtain ⟨v303,ho303⟩:=i;dsimp only [List.set];refine Zs (Ws (l:=8) (l':=304) (j:=4) rfl rfl rfl rfl) fun i=>?_;obtain ⟨v304,ho304⟩:=i;dsimp only [List.set];(refine Zv ?_<;>refine xL 9 Za ?_<;>refine Zc ?_)
 refine ZB (ι:={q:Nat×Value×Value×Value//q.1≤a.n.toNat∧q.2.1.oneCell'=true∧q.2.2.1.oneCell'=true∧q.2.2.2.oneCell'=true∧(Gd a b q.1).length≤20000}) (fun k=>⟨[(2,_,_),(3,_,_),(4,_,_),(7,_,_),(8,_,_),(9, .int .i64 k.1.1,pInt k.1.1)],[(2,_,_),(3,_,_),(4,_,_),(8,h8, .own 39 5 1 [pInt (a.n*b.n),pInt a.syms, .val k.1.2.1, .val k.1.2.2.1, .val k.1.2.2.2]),(302,k.1.2.1, .own 3 1 (KC b.n a.start b.start k.1.1).length ((KC b.n a.start b.start k.1.1).map pInt)),(303,k.1.2.2.1, .own 3 1 (KC b.n a.fin b.fin k.1.1).length ((KC b.n a.fin b.fin k.1.1).map pInt)),(304,k.1.2.2.2, .own 93 3 (Gd a b k.1.1).length ((Gd a b k.1.1).flatMap cMv))]⟩) (fun k=>a.n.toNat-k.1.1) ⟨(0,v302,v303,v304),Xd _,ho302,ho303,ho304,Xd _⟩ (fun a w H=>H.weaken ⟨rfl,rfl,rfl,rfl,rfl,rfl,trivial⟩ ⟨rfl,rfl,rfl,rfl,rfl,rfl,rfl,trivial⟩) ?_;rintro ⟨⟨i,hS,hF,hM⟩,hi,hSo,hFo,hMo,hMl⟩;dsimp only;dsimp only at hi hSo hFo hMo hMl;have hx3:=Lj (x:=(i:Int)) (y:=b.n) (X:=2000) ⟨oM,oM⟩ ⟨m0,m1⟩;have hi2:i*b.n.toNat≤2000*2000:=VD oM oM;have hl1:=E8 b.n a.start b.start i;have hl2:=E8 b.n a.fin b.fin i;refine Ze ?_;(refine xL 36 Zb (xL 37 (Zd 2 ZQ) ?_)<;>(refine yL 38 (Zj 2 Zg) fun v38 h=>?_;cases h)<;>refine xL 39 ZP ?_<;>refine Zc ?_)
 refine cX ?_ ?_<;>intro hb39
 · first | exact bN hb39 | (
 have hilt:i<a.n.toNat:=oM;refine Ze ?_;(refine xL 10 Za ?_<;>refine Zc ?_)
 refine Zs (ZL (l:=302) (p':= .own 3 1 (KC b.n a.start b.start i++Jf b.n a.start b.start i 0).length ((KC b.n a.start b.start i++Jf b.n a.start b.start i 0).map pInt)) rfl (by rw [show Jf b.n a.start b.start i 0=[] from rfl,Xq])) fun _=>?_;refine Zs (ZL (l:=303) (p':= .own 3 1 (KC b.n a.fin b.fin i++Jf b.n a.fin b.fin i 0).length ((KC b.n a.fin b.fin i++Jf b.n a.fin b.fin i 0).map pInt)) rfl (by rw [show Jf b.n a.fin b.fin i 0=[] from rfl,Xq])) fun _=>?_;refine Zs (ZL (l:=304) (p':= .own 93 3 (Gd a b i++Lf a b i 0).length ((Gd a b i++Lf a b i 0).flatMap cMv)) rfl (by rw [show Lf a b i 0=[] from rfl,Xq])) fun _=>?_;refine ZB (ι:={q:Nat×Value×Value×Value//q.1≤b.n.toNat∧q.2.1.oneCell'=true∧q.2.2.1.oneCell'=true∧q.2.2.2.oneCell'=true∧(Gd a b i++Lf a b i q.1).length≤20000}) (fun k=>⟨[(2,_,_),(3,_,_),(4,_,_),(7,_,_),(8,_,_),(9,_,_),(10, .int .i64 k.1.1,pInt k.1.1)],[(2,_,_),(3,_,_),(4,_,_),(8,h8, .own 39 5 1 [pInt (a.n*b.n),pInt a.syms, .val k.1.2.1, .val k.1.2.2.1, .val k.1.2.2.2]),(302,k.1.2.1, .own 3 1 (KC b.n a.start b.start i++Jf b.n a.start b.start i k.1.1).length ((KC b.n a.start b.start i++Jf b.n a.start b.start i k.1.1).map pInt)),(303,k.1.2.2.1, .own 3 1 (KC b.n a.fin b.fin i++Jf b.n a.fin b.fin i k.1.1).length ((KC b.n a.fin b.fin i++Jf b.n a.fin b.fin i k.1.1).map pInt)),(304,k.1.2.2.2, .own 93 3 (Gd a b i++Lf a b i k.1.1).length ((Gd a b i++Lf a b i k.1.1).flatMap cMv))]⟩) (fun k=>b.n.toNat-k.1.1) ⟨(0,hS,hF,hM),Xd _,hSo,hFo,hMo,by show (Gd a b i++[]).length≤20000;rw [Xq];exact hMl⟩ (fun a w H=>H.weaken ⟨rfl,rfl,rfl,rfl,rfl,rfl,rfl,trivial⟩ ⟨rfl,rfl,rfl,rfl,rfl,rfl,rfl,trivial⟩) ?_;rintro ⟨⟨j,hS2,hF2,hM2⟩,hj,hS2o,hF2o,hM2o,hM2l⟩;dsimp only;dsimp only at hj hS2o hF2o hM2o hM2l;have qS2:En.one (PV.val hS2)=true:=hS2o;have qF2:En.one (PV.val hF2)=true:=hF2o;have qM2:En.one (PV.val hM2)=true:=hM2o;have hl3:=Og b.n a.start b.start i j;have hl4:=Og b.n a.fin b.fin i j;(have hl5:(KC b.n a.start b.start i++Jf b.n a.start b.start i j).length≤4002000:=by rw [Xc];omega);(have hl6:(KC b.n a.fin b.fin i++Jf b.n a.fin b.fin i j).length≤4002000:=by rw [Xc];omega);refine Ze ?_;(refine xL 42 Zb (xL 43 Zb (xL 44 ZP ?_))<;>refine Zc ?_)
 refine cX ?_ ?_<;>intro hb44
 · first | exact bN hb44 |(
 have hjlt:j<b.n.toNat:=oM;refine Ze ?_;(refine xL 47 (Zd 2 Z4) ?_<;>(refine yL 48 (Zj 2 Zz) fun v48 h=>?_;cases h)<;>refine xL 49 Zb ?_<;>(refine cS 50 (cA call116 (Su a.start (i:Nat))) fun v50 h=>?_;cases h)<;>refine xL 51 Zb ?_<;>(refine bL 51 (fun hb51=>?_) (fun hb51=>?_)<;>(first|refine kL 52 ?_|refine xL 52 (Zd 3 Z4) ?_))<;>(first|refine kL 53 ?_|(refine yL 53 (Zj 3 Zz) fun v53 h=>?_;cases h))<;>(first|refine kL 54 ?_|refine xL 54 Zb ?_)<;>(first|refine kL 55 ?_|(refine cS 55 (cA call116 (Su b.start (j:Nat))) fun v55 h=>?_;cases h))<;>refine xL 56 ZG ?_<;>refine Zc ?_)<;>(
 refine Ot (fun x:{x:Value//x.oneCell'=true}=>⟨[(2,padd (sbase h2) 0, .val (padd (sbase h2) 0)),(3,padd (sbase h3) 0, .val (padd (sbase h3) 0)),(4,padd (sbase h4) 0, .val (padd (sbase h4) 0)),(7, .int .i64 b.n,pInt b.n),(8,padd (sbase h8) 0, .val (padd (sbase h8) 0)),(9, .int .i64 (i:Nat),pInt (i:Nat)),(10, .int .i64 (j:Nat),pInt (j:Nat))],[(2,h2, .own 39 5 1 [pInt a.n,pInt a.syms,pInts a.start,pInts a.fin,pMvs a.moves]),(3,h3, .own 39 5 1 [pInt b.n,pInt b.syms,pInts b.start,pInts b.fin,pMvs b.moves]),(4,h4, .own 39 5 1 [pInt 0,pInt 0, .val (.slice none 0 0), .val (.slice none 0 0), .val (.slice none 0 0)]),(8,h8, .own 39 5 1 [pInt (a.n*b.n),pInt a.syms, .val x.1, .val hF2, .val hM2]),(302,x.1, .own 3 1 (KC b.n a.start b.start i++Jf b.n a.start b.start i (j+1)).length ((KC b.n a.start b.start i++Jf b.n a.start b.start i (j+1)).map pInt)),(303,hF2, .own 3 1 (KC b.n a.fin b.fin i++Jf b.n a.fin b.fin i j).length ((KC b.n a.fin b.fin i++Jf b.n a.fin b.fin i j).map pInt)),(304,hM2, .own 93 3 (Gd a b i++Lf a b i j).length ((Gd a b i++Lf a b i j).flatMap cMv))]⟩) ?_ ?_
 · refine cX ?_ ?_<;>intro hb56
   · first|exact bN hb56|(
 have hc:=Zds (m:=b.n) (l:=a.start) (k:=b.start) (i:=i) (j:=j) (by first|assumption|simpa using hb51) (by first|assumption|simpa using hb56);refine Ze ?_;(refine xL 57 (Zd 8 Z4) ?_<;>(refine yL 58 (Zj 8 Zz) fun v58 h=>?_;cases h)<;>refine xL 59 Zb (xL 60 Zb (xL 61 Ju (xL 62 Zb (xL 63 ZH ?_))))<;>refine ZO (kk:=1) 64 Zn fun h64 ho64=>?_<;>(refine Z1 302 64 65 Zn fun h65 ho65=>?_;refine Zt (ZE (l:=65) 302 rfl rfl) fun _=>?_;refine Zt (ZL (l:=302) rfl ((KV _ (KC b.n a.start b.start i++Jf b.n a.start b.start i j) ((i:Nat)*b.n+(j:Nat))).trans (by rw [Xy,←hc,←Tn]))) fun _=>?_;have q65:En.one (PV.val h65)=true:=ho65)<;>refine xL 66 (Zd 8 Z4) ?_<;>refine YM 8 Zz Wd ?_<;>refine Zc ?_)
 first
  |exact WM ⟨h65,ho65⟩ ⟨rfl,rfl,rfl,rfl,rfl,rfl,rfl,trivial⟩ ⟨rfl,rfl,rfl,rfl,rfl,rfl,rfl,trivial⟩
  |exact WM ⟨hS2,hS2o⟩ ⟨rfl,rfl,rfl,rfl,rfl,rfl,rfl,trivial⟩ ⟨rfl,rfl,rfl,rfl,rfl,rfl,rfl,trivial⟩)
   · first|exact bN hb56|(
 have hc:Lh b.n a.start b.start i j=[]:=by
  first
   |exact Zdt (by first|assumption|simpa using hb51)
   |exact Zdu (by first|assumption|simpa using hb56)
 refine Zs (ZL (l:=302) (p':= .own 3 1 (KC b.n a.start b.start i++Jf b.n a.start b.start i (j+1)).length ((KC b.n a.start b.start i++Jf b.n a.start b.start i (j+1)).map pInt)) rfl (by rw [Tn,hc,Xq])) fun _=>?_;refine nav ?_
 first
  |exact WM ⟨h65,ho65⟩ ⟨rfl,rfl,rfl,rfl,rfl,rfl,rfl,trivial⟩ ⟨rfl,rfl,rfl,rfl,rfl,rfl,rfl,trivial⟩
  |exact WM ⟨hS2,hS2o⟩ ⟨rfl,rfl,rfl,rfl,rfl,rfl,rfl,trivial⟩ ⟨rfl,rfl,rfl,rfl,rfl,rfl,rfl,trivial⟩)
 · rintro ⟨hS3, hS3o⟩;dsimp only at hS3o ⊢;have qS3:En.one (PV.val hS3)=true:=hS3o;refine Ze ?_;(refine xL 67 (Zd 2 ZX) ?_<;>(refine yL 68 (Zj 2 Zz) fun v68 h=>?_;cases h)<;>refine xL 69 Zb ?_<;>(refine cS 70 (cA call116 (Su a.fin (i:Nat))) fun v70 h=>?_;cases h)<;>refine xL 71 Zb ?_<;>(refine bL 71 (fun hb71=>?_) (fun hb71=>?_)<;>(first|refine kL 72 ?_|refine xL 72 (Zd 3 ZX) ?_))<;>(first|refine kL 73 ?_|(refine yL 73 (Zj 3 Zz) fun v73 h=>?_;cases h))<;>(first|refine kL 74 ?_|refine xL 74 Zb ?_)<;>(first|refine kL 75 ?_|(refine cS 75 (cA call116 (Su b.fin (j:Nat))) fun v75 h=>?_;cases h))<;>refine xL 76 ZG ?_<;>refine Zc ?_)<;>(
 refine Ot (fun x:{x:Value//x.oneCell'=true}=>⟨[(2,padd (sbase h2) 0, .val (padd (sbase h2) 0)),(3,padd (sbase h3) 0, .val (padd (sbase h3) 0)),(4,padd (sbase h4) 0, .val (padd (sbase h4) 0)),(7, .int .i64 b.n,pInt b.n),(8,padd (sbase h8) 0, .val (padd (sbase h8) 0)),(9, .int .i64 (i:Nat),pInt (i:Nat)),(10, .int .i64 (j:Nat),pInt (j:Nat))],[(2,h2, .own 39 5 1 [pInt a.n,pInt a.syms,pInts a.start,pInts a.fin,pMvs a.moves]),(3,h3, .own 39 5 1 [pInt b.n,pInt b.syms,pInts b.start,pInts b.fin,pMvs b.moves]),(4,h4, .own 39 5 1 [pInt 0,pInt 0, .val (.slice none 0 0), .val (.slice none 0 0), .val (.slice none 0 0)]),(8,h8, .own 39 5 1 [pInt (a.n*b.n),pInt a.syms, .val hS3, .val x.1, .val hM2]),(302,hS3, .own 3 1 (KC b.n a.start b.start i++Jf b.n a.start b.start i (j+1)).length ((KC b.n a.start b.start i++Jf b.n a.start b.start i (j+1)).map pInt)),(303,x.1, .own 3 1 (KC b.n a.fin b.fin i++Jf b.n a.fin b.fin i (j+1)).length ((KC b.n a.fin b.fin i++Jf b.n a.fin b.fin i (j+1)).map pInt)),(304,hM2, .own 93 3 (Gd a b i++Lf a b i j).length ((Gd a b i++Lf a b i j).flatMap cMv))]⟩) ?_ ?_
 · refine cX ?_ ?_<;>intro hb76
   · first|exact bN hb76|(
 have hc:=Zds (m:=b.n) (l:=a.fin) (k:=b.fin) (i:=i) (j:=j) (by first|assumption|simpa using hb71) (by first|assumption|simpa using hb76);refine Ze ?_;(refine xL 77 (Zd 8 ZX) ?_<;>(refine yL 78 (Zj 8 Zz) fun v78 h=>?_;cases h)<;>refine xL 79 Zb (xL 80 Zb (xL 81 Ju (xL 82 Zb (xL 83 ZH ?_))))<;>refine ZO (kk:=1) 84 Zn fun h84 ho84=>?_<;>(refine Z1 303 84 85 Zn fun h85 ho85=>?_;refine Zt (ZE (l:=85) 303 rfl rfl) fun _=>?_;refine Zt (ZL (l:=303) rfl ((KV _ (KC b.n a.fin b.fin i++Jf b.n a.fin b.fin i j) ((i:Nat)*b.n+(j:Nat))).trans (by rw [Xy,←hc,←Tn]))) fun _=>?_;have q85:En.one (PV.val h85)=true:=ho85)<;>refine xL 86 (Zd 8 ZX) ?_<;>refine YM 8 Zz Wd ?_<;>refine Zc ?_)
 first
  |exact WM ⟨h85,ho85⟩ ⟨rfl,rfl,rfl,rfl,rfl,rfl,rfl,trivial⟩ ⟨rfl,rfl,rfl,rfl,rfl,rfl,rfl,trivial⟩
  |exact WM ⟨hF2,hF2o⟩ ⟨rfl,rfl,rfl,rfl,rfl,rfl,rfl,trivial⟩ ⟨rfl,rfl,rfl,rfl,rfl,rfl,rfl,trivial⟩)
   · first|exact bN hb76|(
 have hc:Lh b.n a.fin b.fin i j=[]:=by
  first
   |exact Zdt (by first|assumption|simpa using hb71)
   |exact Zdu (by first|assumption|simpa using hb76)
 refine Zs (ZL (l:=303) (p':= .own 3 1 (KC b.n a.fin b.fin i++Jf b.n a.fin b.fin i (j+1)).length ((KC b.n a.fin b.fin i++Jf b.n a.fin b.fin i (j+1)).map pInt)) rfl (by rw [Tn,hc,Xq])) fun _=>?_;refine nav ?_
 first
  |exact WM ⟨h85,ho85⟩ ⟨rfl,rfl,rfl,rfl,rfl,rfl,rfl,trivial⟩ ⟨rfl,rfl,rfl,rfl,rfl,rfl,rfl,trivial⟩
  |exact WM ⟨hF2,hF2o⟩ ⟨rfl,rfl,rfl,rfl,rfl,rfl,rfl,trivial⟩ ⟨rfl,rfl,rfl,rfl,rfl,rfl,rfl,trivial⟩)
 · rintro ⟨hF3, hF3o⟩;dsimp only at hF3o ⊢;have qF3:En.one (PV.val hF3)=true:=hF3o;refine Ze ?_;(refine LD 87 ZS fun h87 ho87=>?_<;>refine xL 11 Za ?_<;>refine Zc ?_)
   refine Zs (En.freeze (l:=87) (t:=11) rfl rfl) fun _=>?_;refine Zs (Wx (t:=11) (p':=pMvs (mkM (apA b.n i j (a.moves.take 0)))) rfl rfl) fun _=>?_;(refine Zv ?_<;>refine xL 12 Za ?_<;>refine Zc ?_)
   refine ZB (ι:={q:Nat×Value//q.1≤a.moves.length}) (fun k=>⟨[(2,_,_),(3,_,_),(4,_,_),(7,_,_),(8,_,_),(9,_,_),(10,_,_),(11,k.1.2,pMvs (mkM (apA b.n i j (a.moves.take k.1.1)))),(12, .int .i64 k.1.1,pInt k.1.1)],[(2,_,_),(3,_,_),(4,_,_),(8,_,_),(302,_,_),(303,_,_),(304,_,_)]⟩) (fun k=>a.moves.length-k.1.1) ⟨(0,h87),Xd _⟩ (fun a w H=>H.weaken ⟨rfl,rfl,rfl,rfl,rfl,rfl,rfl,rfl,rfl,trivial⟩ ⟨rfl,rfl,rfl,rfl,rfl,rfl,rfl,trivial⟩) ?_;rintro ⟨⟨u,V⟩,hu⟩;dsimp only;dsimp only at hu;refine Ze ?_;(refine xL 88 Zb (xL 89 (Zd 2 Zw) ?_)<;>(refine yL 90 (Zj 2 ZA) fun v90 h=>?_;cases h)<;>refine xL 91 (ZR ZF) (xL 92 ZP ?_)<;>refine Zc ?_)
   refine cX ?_ ?_<;>intro hb92
   · first | exact bN hb92|(
 obtain ⟨x,hx⟩:=Zq (show u<a.moves.length by omega);obtain ⟨e0,e1,e2⟩:=Zkk hx;have hxb:=ha.mv x (Xb hx);have hx2:=Lj (x:=x.dst) (y:=b.n) (X:=2000) ⟨hxb.2.2.1,oM⟩ ⟨m0,m1⟩;refine Ze ?_;(refine xL 95 (Zd 2 Zw) ?_<;>(refine yL 96 (Zj 2 ZA) fun v96 h=>?_;cases h)<;>refine xL 97 Zb (xL 98 (ZI ZF) (xL 99 (JY Yb) ?_))<;>(refine yL 100 (Ya Zg) fun v100 h=>?_;cases h)<;>refine xL 101 Zb (xL 102 Yd ?_)<;>refine Zc ?_)
 refine cX ?_ ?_<;>intro hb102
 · first |exact bN hb102|(
 have hins:AF prog 133 [pMvs (mkM (apA b.n i j (a.moves.take u))), .agg (cMv ⟨(i:Nat)*b.n+(j:Nat),x.dst*b.n+(j:Nat),x.sym⟩)] (· =pMvs (mkM (apA b.n i j (a.moves.take (u+1))))):=by
  have h1:=GB (mkM (apA b.n i j (a.moves.take u))) ⟨(i:Nat)*b.n+(j:Nat),x.dst*b.n+(j:Nat),x.sym⟩ (XL (Gj _) (by unfold apA;rw [Xe];exact XL (Vp _ _) (by rw [Xo];omega))) (Ka _);rw [ZaR,←ZlK hx hb102] at h1;exact h1
 refine nav ?_;(refine ZY (fun i=>([]:List Nat).elem i) [2] kR ?_<;>refine xD 0 103 rfl Zb ?_<;>refine xD 1 104 rfl Zb ?_<;>refine xD 2 105 rfl Zb ?_<;>refine xD 3 106 rfl Ju ?_<;>refine xD 4 107 rfl Zb ?_<;>refine xD 5 108 rfl ZH ?_<;>refine xD 6 109 rfl (Zd 2 Zw) ?_<;>(refine yD 7 110 rfl (Zj 2 ZA) fun v110 h=>?_;cases h)<;>refine xD 8 111 rfl Zb ?_<;>refine xD 9 112 rfl (ZI ZF) ?_<;>refine xD 10 113 rfl (JY Yg) ?_<;>(refine yD 11 114 rfl (Ya Zg) fun v114 h=>?_;cases h)<;>refine xD 12 115 rfl Zb ?_<;>refine xD 13 116 rfl Ju ?_<;>refine xD 14 117 rfl Zb ?_<;>refine xD 15 118 rfl ZH ?_<;>refine xD 16 119 rfl (Zd 2 Zw) ?_<;>(refine yD 17 120 rfl (Zj 2 ZA) fun v120 h=>?_;cases h)<;>refine xE 18 121 rfl Zb ?_<;>refine xE 19 122 rfl (ZI ZF) ?_<;>refine xE 20 123 rfl (JY Yk) ?_<;>(refine yE 21 124 rfl (Ya Zg) fun v124 h=>?_;cases h)<;>refine xE 22 125 rfl (ZM YX) ?_<;>(refine Zr 23 kR ?_)<;>(refine Zo rfl fun w9 M9 N9 DQ back=>?_)<;>(refine cS 126 (cA call133 (hins)) fun v126 h=>?_;cases h)<;>refine Zl (back _ (nrm ?_))<;>refine xE 24 11 rfl Za ?_<;>refine Yr kR (nav ?_)<;>try dsimp only)
 (refine Zv ?_<;>refine xL 93 Zb (xL 94 ZH (xL 12 Za ?_))<;>refine Zc ?_)
 first
  | (exact Zm (
      ⟨(u+1,v126),Zf hx⟩
      ) (by dsimp only;omega) ⟨rfl,rfl,rfl,rfl,rfl,rfl,rfl,rfl,rfl,trivial⟩ ⟨rfl,rfl,rfl,rfl,rfl,rfl,rfl,trivial⟩)
  | (exact Zm (
      ⟨(u+1,V),Zf hx⟩
      ) (by dsimp only;omega) ⟨rfl,rfl,rfl,rfl,rfl,rfl,rfl,rfl,rfl,trivial⟩ ⟨rfl,rfl,rfl,rfl,rfl,rfl,rfl,trivial⟩))
 · first |exact bN hb102|(
 refine Zs (Wx (t:=11) (p':=pMvs (mkM (apA b.n i j (a.moves.take (u+1))))) rfl (by rw [ZnK hx hb102])) fun _=>?_;refine Ze ?_;(refine xL 93 Zb (xL 94 ZH (xL 12 Za ?_))<;>refine Zc ?_)
 first
  | (exact Zm (
      ⟨(u+1,v126),Zf hx⟩
      ) (by dsimp only;omega) ⟨rfl,rfl,rfl,rfl,rfl,rfl,rfl,rfl,rfl,trivial⟩ ⟨rfl,rfl,rfl,rfl,rfl,rfl,rfl,trivial⟩)
  | (exact Zm (
      ⟨(u+1,V),Zf hx⟩
      ) (by dsimp only;omega) ⟨rfl,rfl,rfl,rfl,rfl,rfl,rfl,rfl,rfl,trivial⟩ ⟨rfl,rfl,rfl,rfl,rfl,rfl,rfl,trivial⟩)))
   · first | exact bN hb92|(
 refine Zs (Wx (t:=11) (p':=pMvs (mkM (apA b.n i j a.moves++apB b.n i j (b.moves.take 0)))) rfl (by rw [Xk (show a.moves.length≤u by omega),show apB b.n i j (b.moves.take 0)=[] from rfl,Xq])) fun _=>?_;refine Ze ?_;(refine xL 13 Za ?_<;>refine Zc ?_)
 refine ZB (ι:={q:Nat×Value//q.1≤b.moves.length}) (fun k=>⟨[(2,_,_),(3,_,_),(4,_,_),(7,_,_),(8,_,_),(9,_,_),(10,_,_),(11,k.1.2,pMvs (mkM (apA b.n i j a.moves++apB b.n i j (b.moves.take k.1.1)))),(13, .int .i64 k.1.1,pInt k.1.1)],[(2,_,_),(3,_,_),(4,_,_),(8,_,_),(302,_,_),(303,_,_),(304,_,_)]⟩) (fun k=>b.moves.length-k.1.1) ⟨(0,V),Xd _⟩ (fun a w H=>H.weaken ⟨rfl,rfl,rfl,rfl,rfl,rfl,rfl,rfl,rfl,trivial⟩ ⟨rfl,rfl,rfl,rfl,rfl,rfl,rfl,trivial⟩) ?_;rintro ⟨⟨w,W⟩,hw⟩;dsimp only;dsimp only at hw;refine Ze ?_;(refine xL 127 Zb (xL 128 (Zd 3 Zw) ?_)<;>(refine yL 129 (Zj 3 ZA) fun v129 h=>?_;cases h)<;>refine xL 130 (ZR ZF) (xL 131 ZP ?_)<;>refine Zc ?_)
 refine cX ?_ ?_<;>intro hb131
 · first | exact bN hb131|(
 obtain ⟨y,hy⟩:=Zq (show w<b.moves.length by omega);obtain ⟨f0,f1,f2⟩:=Zkk hy;have hyb:=hb.mv y (Xb hy);refine Ze ?_;(refine xL 134 (Zd 3 Zw) ?_<;>(refine yL 135 (Zj 3 ZA) fun v135 h=>?_;cases h)<;>refine xL 136 Zb (xL 137 (ZI ZF) (xL 138 (JY Yb) ?_))<;>(refine yL 139 (Ya Zg) fun v139 h=>?_;cases h)<;>refine xL 140 Zb (xL 141 Yd ?_)<;>refine Zc ?_)
 refine cX ?_ ?_<;>intro hb141
 · first |exact bN hb141|(
 have hins:AF prog 133 [pMvs (mkM (apA b.n i j a.moves++apB b.n i j (b.moves.take w))), .agg (cMv ⟨(i:Nat)*b.n+(j:Nat),(i:Nat)*b.n+y.dst,y.sym⟩)] (· =pMvs (mkM (apA b.n i j a.moves++apB b.n i j (b.moves.take (w+1))))):=by
  have h1:=GB (mkM (apA b.n i j a.moves++apB b.n i j (b.moves.take w))) ⟨(i:Nat)*b.n+(j:Nat),(i:Nat)*b.n+y.dst,y.sym⟩ (XL (Gj _) (by
   rw [Xc];(have g1:(apA b.n i j a.moves).length≤a.moves.length:=by unfold apA;rw [Xe];exact Vp _ _);(have g2:(apB b.n i j (b.moves.take w)).length≤(b.moves.take w).length:=by unfold apB;rw [Xe];exact Vp _ _);rw [Xo] at g2;omega)) (Ka _)
  rw [ZaR,Xy,←ZlL hy hb141] at h1;exact h1
 refine nav ?_;(refine ZY (fun i=>([]:List Nat).elem i) [3] kR ?_<;>refine xD 0 142 rfl Zb ?_<;>refine xD 1 143 rfl Zb ?_<;>refine xD 2 144 rfl Zb ?_<;>refine xD 3 145 rfl Ju ?_<;>refine xD 4 146 rfl Zb ?_<;>refine xD 5 147 rfl ZH ?_<;>refine xD 6 148 rfl Zb ?_<;>refine xD 7 149 rfl Zb ?_<;>refine xD 8 150 rfl Ju ?_<;>refine xD 9 151 rfl (Zd 3 Zw) ?_<;>(refine yD 10 152 rfl (Zj 3 ZA) fun v152 h=>?_;cases h)<;>refine xD 11 153 rfl Zb ?_<;>refine xD 12 154 rfl (ZI ZF) ?_<;>refine xD 13 155 rfl (JY Yg) ?_<;>(refine yD 14 156 rfl (Ya Zg) fun v156 h=>?_;cases h)<;>refine xD 15 157 rfl ZH ?_<;>refine xD 16 158 rfl (Zd 3 Zw) ?_<;>(refine yD 17 159 rfl (Zj 3 ZA) fun v159 h=>?_;cases h)<;>refine xE 18 160 rfl Zb ?_<;>refine xE 19 161 rfl (ZI ZF) ?_<;>refine xE 20 162 rfl (JY Yk) ?_<;>(refine yE 21 163 rfl (Ya Zg) fun v163 h=>?_;cases h)<;>refine xE 22 164 rfl (ZM YX) ?_<;>(refine Zr 23 kR ?_)<;>(refine Zo rfl fun w9 M9 N9 DQ back=>?_)<;>(refine cS 165 (cA call133 (hins)) fun v165 h=>?_;cases h)<;>refine Zl (back _ (nrm ?_))<;>refine xE 24 11 rfl Za ?_<;>refine Yr kR (nav ?_)<;>try dsimp only)
 (refine Zv ?_<;>refine xL 132 Zb (xL 133 ZH (xL 13 Za ?_))<;>refine Zc ?_)
 first
  | (exact Zm (
      ⟨(w+1,v165),Zf hy⟩
      ) (by dsimp only;omega) ⟨rfl,rfl,rfl,rfl,rfl,rfl,rfl,rfl,rfl,trivial⟩ ⟨rfl,rfl,rfl,rfl,rfl,rfl,rfl,trivial⟩)
  | (exact Zm (
      ⟨(w+1,W),Zf hy⟩
      ) (by dsimp only;omega) ⟨rfl,rfl,rfl,rfl,rfl,rfl,rfl,rfl,rfl,trivial⟩ ⟨rfl,rfl,rfl,rfl,rfl,rfl,rfl,trivial⟩))
 · first |exact bN hb141|(
 refine Zs (Wx (t:=11) (p':=pMvs (mkM (apA b.n i j a.moves++apB b.n i j (b.moves.take (w+1))))) rfl (by rw [ZnL hy hb141])) fun _=>?_;refine Ze ?_;(refine xL 132 Zb (xL 133 ZH (xL 13 Za ?_))<;>refine Zc ?_)
 first
  | (exact Zm (
      ⟨(w+1,v165),Zf hy⟩
      ) (by dsimp only;omega) ⟨rfl,rfl,rfl,rfl,rfl,rfl,rfl,rfl,rfl,trivial⟩ ⟨rfl,rfl,rfl,rfl,rfl,rfl,rfl,trivial⟩)
  | (exact Zm (
      ⟨(w+1,W),Zf hy⟩
      ) (by dsimp only;omega) ⟨rfl,rfl,rfl,rfl,rfl,rfl,rfl,rfl,rfl,trivial⟩ ⟨rfl,rfl,rfl,rfl,rfl,rfl,rfl,trivial⟩)))
 · first |exact bN hb131|(
 refine Zs (Wx (t:=11) (p':=pMvs (DX a b i j)) rfl (by rw [Xk (show b.moves.length≤w by omega)];rfl)) fun _=>?_;have hol:=Zkl a b i j;refine Ze ?_;(refine xL 166 (Zd 8 Zw) ?_<;>(refine yL 167 (Zj 8 ZA) fun v167 h=>?_;cases h)<;>refine xL 168 Zb ?_<;>(refine Kc 304 169 ZS (fun h169 ho169=>?_) (Tm (DX a b i j)) (Lu (DX a b i j));have q169:En.one (PV.val h169)=true:=ho169;refine Zt (ZE (l:=169) 304 rfl rfl) fun _=>?_;refine Zt (ZL (l:=304) (p':= .own 93 3 (Gd a b i++Lf a b i (j+1)).length ((Gd a b i++Lf a b i (j+1)).flatMap cMv)) rfl (by rw [ζ2,←Xy];exact Zmn _ (Gd a b i++Lf a b i j) (DX a b i j))) fun _=>?_)<;>refine xL 170 (Zd 8 Zw) ?_<;>refine YM 8 ZA YB ?_<;>refine Zc ?_)
 have hmore:=Zjv (a:=a) (b:=b) hilt (show j+1≤b.n.toNat from hjlt);(have hl7:(Gd a b i++Lf a b i (j+1)).length≤100000:=by rw [ζ2,←Xy,Xc];omega);rw [hall] at hmore;(refine Zv ?_<;>refine xL 171 (Zd 8 Zw) ?_<;>(refine yL 172 (Zj 8 ZA) fun v172 h=>?_;cases h)<;>refine xL 173 (YH 304 ZF) (xL 174 Yw ?_)<;>refine Zc ?_)
 refine cX ?_ ?_<;>intro hb174
 · first|exact bN hb174|(
 refine Ze ?_;((refine cP 175 (cA call194 (Gc)) fun va175 vb175 hva175 h=>?_;cases h)<;>refine xL 176 Zk (xL 177 Zk ?_)<;>refine ZD 4 Zh ?_<;>refine xL 5 Za ?_<;>refine Zc ?_)
 exact Z2 (k:=5) 4 kR (results147) rfl rfl rfl (Xa rfl) dC rfl (by rw [US oM];rfl))
 · first|exact bN hb174|(
 refine Ze ?_;(refine xL 45 Zb (xL 46 ZH (xL 10 Za ?_))<;>refine Zc ?_)
 refine Zm (
  ⟨(j+1,hS3,hF3,h169),hjlt,hS3o,hF3o,ho169,by dsimp only;omega⟩
  ) (by dsimp only;omega) ⟨rfl,rfl,rfl,rfl,rfl,rfl,rfl,trivial⟩ ⟨rfl,rfl,rfl,rfl,rfl,rfl,rfl,trivial⟩))))))
 · first|exact bN hb44|(
 have hjm:j=b.n.toNat:=oM;subst hjm;rw [←ζ3] at hM2l;refine Zs (ZL (l:=302) (p':= .own 3 1 (KC b.n a.start b.start (i+1)).length ((KC b.n a.start b.start (i+1)).map pInt)) rfl (by rw [O1])) fun _=>?_;refine Zs (ZL (l:=303) (p':= .own 3 1 (KC b.n a.fin b.fin (i+1)).length ((KC b.n a.fin b.fin (i+1)).map pInt)) rfl (by rw [O1])) fun _=>?_;refine Zs (ZL (l:=304) (p':= .own 93 3 (Gd a b (i+1)).length ((Gd a b (i+1)).flatMap cMv)) rfl (by rw [ζ3])) fun _=>?_;refine Ze ?_;(refine xL 40 Zb (xL 41 ZH (xL 9 Za ?_))<;>refine Zc ?_)
 refine Zm (
  ⟨(i+1,hS2,hF2,hM2),hilt,hS2o,hF2o,hM2o,hM2l⟩
  ) (by dsimp only;omega) ⟨rfl,rfl,rfl,rfl,rfl,rfl,trivial⟩ ⟨rfl,rfl,rfl,rfl,rfl,rfl,rfl,trivial⟩))
 · first|exact bN hb39|(
 have hin:i=a.n.toNat:=oM;subst hin;rw [hall] at hMl;have hr:=hr hMl;refine nav ?_;refine Zs (Z6 (l:=8) (l':=302) (j:=2) rfl rfl rfl rfl) fun _=>?_;refine Zs (Z6 (l:=8) (l':=303) (j:=3) rfl rfl rfl rfl) fun _=>?_;refine Zs (Z6 (l:=8) (l':=304) (j:=4) rfl rfl rfl rfl) fun _=>?_;refine Zs (ZL (l:=8) (p':= .own 39 5 1 [pInt (a.n*b.n),pInt a.syms,pInts (shI b.n a.start b.start),pInts (shI b.n a.fin b.fin),pMvs (mkM (Wh a b).moves)]) rfl (by
  rw [ZV _ _ _ rfl,ZV _ _ _ rfl,Kj _ _ _ rfl,ZfL ha.st hb.st ha.ss hb.ss,ZfL ha.fi hb.fi ha.fs hb.fs,hall];rfl)) fun _=>?_
 (refine Zv ?_<;>(refine yL 178 (Zu 8 Zh) fun v178 h=>?_;cases h)<;>(refine cP 179 (cA call199 hr) (fun va179 vb179 hva179 hvb179=>?_) (hsh:=r5.t E);cases hvb179)<;>refine xL 180 Zk (xL 181 Zk ?_)<;>refine ZD 4 Zh ?_<;>refine xL 5 Za ?_<;>refine Zc ?_)
 exact Z2 (k:=5) 4 kR (results147) rfl rfl rfl (Xa rfl) dC r5.s (by rw [UR oM];rfl)))
theorem Za9 (a b:Aut) (hla:a.moves.length≤1000000) (hlb:b.moves.length≤1000000):AF prog 147 [ZN a,ZN b] (· =resW (Le a b)):=by
 by_cases h0:WH a b=0
 · obtain ⟨ha,hb,hs⟩:=Jk h0;rw [Zhe ha hb hs h0];obtain ⟨p0,p1,p2,p3,p4,E,h5,h2⟩:=Zf8 (GI (mkA (Wh a b)));refine (Za8 a b hla hlb h0 h5 (E:=E) fun hl=>?_).mono fun p hp=>?_
   · have hr:=LB (mkA (Wh a b)) (XL hl oM);rw [h2] at hr;exact hr
   · rw [hp];by_cases h1:2000<a.n*b.n
     · rw [US (.inl h1),US h1];rfl
     · rw [UR h1];by_cases h3:20000<(mkM (Wh a b).moves).length
       · rw [US (.inr h3)];have:GI (mkA (Wh a b))= .error 13:=by
          unfold GI;rw [US (.inr h3)]
         rw [this];rfl
       · rw [UR (fun h=>h.elim h1 h3)];exact h2.symm
 · unfold Le;rw [US h0];exact E9 a b _ h0 (Gf a b hla hlb)
theorem Yn:AggT prog 39 5=true:=by kernel_rfl
theorem Ze5:ElT prog 117 36 1 24 (.slice none 0 0):=⟨underlying117,by kernel_rfl,rfl,dC⟩
theorem Pe:ElT prog 139 4 1 1 (.bool false):=⟨underlying139,by kernel_rfl,rfl,dC⟩
theorem O2:ElT prog 36 3 1 8 (.int .i64 0):=⟨underlying36,by kernel_rfl,rfl,dC⟩
theorem SR:FldT prog 39 0 0=true:=by kernel_rfl
theorem DG:FldT prog 39 3 3=true:=by kernel_rfl
theorem SS:FldT prog 39 4 4=true:=by kernel_rfl
theorem Rp:NoAgg prog 36=true:=by kernel_rfl
theorem O3:NoAgg prog 37=true:=by kernel_rfl
theorem Oh:NoAgg prog 3=true:=by kernel_rfl
theorem Zdv:NoAgg prog 4=true:=by kernel_rfl
theorem Pg:SlT prog 117 36 1=true:=by kernel_rfl
theorem Ph:SlT prog 139 4 1=true:=by kernel_rfl
theorem ζ4:SlT prog 36 3 1=true:=by kernel_rfl
theorem ZhB:SlT prog 37 93 3=true:=by kernel_rfl
theorem O4:WR prog 39=some ((.agg #[(.int .i64 0),(.int .i64 0),(.slice none 0 0),(.slice none 0 0),(.slice none 0 0)]),([0,1,2,3,4]:List Nat).map fun o=>(o,1)):=by kernel_rfl
theorem ZhC:WR prog 93=some ((.agg #[(.int .i64 0),(.int .i64 0),(.int .i64 0)]),([0,1,2]:List Nat).map fun o=>(o,1)):=by kernel_rfl
theorem ZhD:(prog.info? 36).map (·.size)=some 1:=by kernel_rfl
theorem ZhE:(prog.info? 37).map (·.size)=some 1:=by kernel_rfl
theorem Zkm:(prog.info? 3).map (·.size)=some 1:=by kernel_rfl
theorem Zkn:(prog.info? 4).map (·.size)=some 1:=by kernel_rfl
theorem K6:ZeroT prog 39 (.agg #[(.int .i64 0),(.int .i64 0),(.slice none 0 0),(.slice none 0 0),(.slice none 0 0)]):=by unfold ZeroT;kernel_rfl
def DI (w:List Int) (n:Int):Aut:=⟨(1+w.length:Nat),n,[0],[(w.length:Nat)],w.map fun k=>⟨0,1,k⟩⟩
theorem ZhF (n:Nat) (k:Int):DI [k] n=GJ n k:=rfl
theorem Zko (n:Nat):DI [] n=Rz n:=rfl
def Cy (w:List Int) (i:Nat):List Bool:=if i=0 then [false] else (List.replicate (w.length+1) false).set w.length true
theorem Zkp {w:List Int} {i:Nat} (hi:i≤1):(Cy w i).length=if i=0 then 1 else w.length+1:=by
 unfold Cy
 split<;>simp
def SU (w:List Int) (i:Nat):List Int:=if w.length<i then [((w.length:Nat):Int)] else []
theorem Zkq (w:List Int) (i:Nat):(SU w i).length≤1:=by unfold SU;split<;>simp
theorem Zmo {w:List Int} {m:Nat} (h:m<w.length+1):((Cy w 1).map ZK)[m*1]? =some (ZK (decide (m=w.length))):=by
 unfold Cy
 rw [UR dC,Xp,Xh]
 by_cases e:m=w.length
 · subst e;rw [X8 sM,UP rfl];rfl
 · rw [Ve (fun h=>e h.symm),List.getElem?_replicate_of_lt h,UQ e];rfl
theorem Zmp (n:Int):Rr (.agg [pInt 1,pInt n,pInts [0], .val (.slice none 0 0), .val (.slice none 0 0)]) (.agg [pInt 1,pInt n,pInts [0], .val (.slice none 0 0),pMvs []]):=Rr.agg rfl fun i p p' h1 h2=>by
 match i with
 |0=>cases h1;cases h2;exact Rr.rfl' _
 |1=>cases h1;cases h2;exact Rr.rfl' _
 |2=>cases h1;cases h2;exact Rr.rfl' _
 |3=>cases h1;cases h2;exact Rr.rfl' _
 |4=>cases h1;cases h2;exact Rr.nil
 |i+5=>simp at h1
set_option maxHeartbeats 4000000 in
theorem ZhG (w :List Int) (n:Int) (hw:w.length≤1):AF prog 85 [RL [w],pInt n] (· =ZN (DI w n)):=by
 refine AF.of_body 115 func85 rfl ntmps85 (Xa rfl) ?_
 intro w0 M0 vs hl hv
 obtain ⟨v0,v1,rfl⟩:=YG hl
 obtain rfl:=hv 1 _ _ rfl rfl
 clear hl hv
 refine Ze ?_
 (refine Zx [(.int .i64 0),(.int .i64 0),(.slice none 0 0),(.slice none 0 0),(.slice none 0 0)] 5 4 K6 fun h4=>?_<;>refine Zi ?_)
 (refine xL 13 Zb ?_<;>(refine ZO (kk:=1) 14 O2 fun h14 ho14=>?_;refine Zt (En.freeze (l:=14) (t:=14) rfl rfl) fun _=>?_;refine Zt (Wx (t:=14) (p':=pInts [0]) rfl rfl) fun _=>?_)<;>(refine xL 15 (ZM O4) ?_;refine Zt (Ziq (t:=15) (p':= .agg [pInt 1,pInt n,pInts [0], .val (.slice none 0 0),pMvs []]) rfl (Zmp n)) fun _=>?_)<;>refine Zx [(.int .i64 0),(.int .i64 0),(.slice none 0 0),(.slice none 0 0),(.slice none 0 0)] 5 5 K6 fun h5=>?_<;>refine ZD 5 Yn ?_<;>refine Zi ?_)
 (refine ZO (kk:=1) 16 Pe fun h16 ho16=>?_<;>refine xL 6 Za ?_<;>refine Zc ?_)
 refine Zs (ZE (l:=16) 200 rfl rfl) fun _=>?_
 (refine Zv ?_<;>refine xL 7 Za ?_<;>refine Zc ?_)
 refine ZB (ι:={q:Nat×Value//q.1≤1∧q.2.oneCell'=true}) (fun k=>⟨[(0,_,_),(1,_,_),(4,_,_),(5,_,_),(6,k.1.2, .val k.1.2),(7, .int .i64 k.1.1,pInt k.1.1)],[(4,_,_),(5,h5, .own 39 5 1 [pInt (1+(w.take k.1.1).length:Nat),pInt n,pInts [0], .val (.slice none 0 0),pMvs ((w.take k.1.1).map fun k=>⟨0,1,k⟩)]),(200,k.1.2, .own 4 1 (Cy w k.1.1).length ((Cy w k.1.1).map ZK))]⟩) (fun k=>1-k.1.1) ⟨(0,h16),Xd _,ho16⟩ (fun a w H=>H.weaken ⟨rfl,rfl,rfl,rfl,rfl,rfl,trivial⟩ ⟨rfl,rfl,rfl,trivial⟩) ?_
 rintro ⟨⟨i,hb⟩,hi,ho⟩
 dsimp only
 dsimp only at hi ho
 refine Ze ?_
 (refine xL 17 Zb (xL 18 Zb (xL 19 (ZR Pg) (xL 20 ZP ?_)))<;>refine Zc ?_)
 refine cX ?_ ?_<;>intro hb20
 · first | exact bN hb20|(
 obtain rfl:i=0:=by
  (have h:(i:Int)<1:=by simpa using hb20);omega
 have e1:([w].map pInts)[0*1]? =some (pInts w):=rfl;refine Ze ?_;(refine xL 8 Za ?_<;>refine Zi ?_)
 (refine xL 9 Za ?_<;>refine Zc ?_)
 refine ZB (ι:={q:Nat×Value//q.1≤w.length∧q.2.oneCell'=true}) (fun k=>⟨[(0,_,_),(1,_,_),(4,_,_),(5,_,_),(7,_,_),(6,k.1.2, .val k.1.2),(8, .int .i64 k.1.1,pInt k.1.1),(9, .int .i64 k.1.1,pInt k.1.1)],[(4,_,_),(5,h5, .own 39 5 1 [pInt (1+(w.take k.1.1).length:Nat),pInt n,pInts [0], .val (.slice none 0 0),pMvs ((w.take k.1.1).map fun k=>⟨0,1,k⟩)]),(200,k.1.2, .own 4 1 (List.replicate (k.1.1+1) false).length ((List.replicate (k.1.1+1) false).map ZK))]⟩) (fun k=>w.length-k.1.1) ⟨(0,hb),Xd _,ho⟩ (fun a w H=>H.weaken ⟨rfl,rfl,rfl,rfl,rfl,rfl,rfl,rfl,trivial⟩ ⟨rfl,rfl,rfl,trivial⟩) ?_;rintro ⟨⟨j,hc⟩,hj,hco⟩;dsimp only;dsimp only at hj hco;refine Ze ?_;(refine xL 23 Zb (xL 24 Zb (xL 25 Zb (xL 26 (ZI Pg) ?_)))<;>(refine yL 27 (Ya Rp) fun v27 h=>?_;cases h)<;>refine xL 28 (ZR ζ4) (xL 29 ZP ?_)<;>refine Zc ?_)
 refine cX ?_ ?_<;>intro hb29
 · first |exact bN hb29|(
 obtain rfl:j=0:=oM;obtain ⟨x,rfl⟩:∃x,w=[x]:=by
  match w,hw,hb29 with
  |[],_,h=>simp at h
  |[x],_,_=>exact ⟨x,rfl⟩
 have e2:([x].map pInt)[0*1]? =some (pInt x):=rfl;refine Zs (ZL (l:=5) (p':= .own 39 5 1 [pInt 1,pInt n,pInts [0], .val (.slice none 0 0),pMvs []]) rfl rfl) fun _=>?_;refine Ze ?_;(refine xL 10 Za ?_<;>refine Zi ?_)
 (refine xL 11 Za ?_<;>refine Zc ?_)
 refine ZB (ι:={k:Nat//k=0}) (fun k=>⟨[(0,_,_),(1,_,_),(4,_,_),(5,_,_),(6,_,_),(7,_,_),(8,_,_),(9,_,_),(10,_,_),(11, .int .i64 k.1,pInt k.1)],[(4,_,_),(5,_,_),(200,_,_)]⟩) (fun k=>0) ⟨0,rfl⟩ (fun a w H=>H.weaken ⟨rfl,rfl,rfl,rfl,rfl,rfl,rfl,rfl,rfl,rfl,trivial⟩ ⟨rfl,rfl,rfl,trivial⟩) ?_;rintro ⟨_,rfl⟩;dsimp only;refine Ze ?_;(refine xL 32 Zb (xL 33 (Zd 5 SS) ?_)<;>(refine yL 34 (Zj 5 O3) fun v34 h=>?_;cases h)<;>refine xL 35 (ZR ZhB) (xL 36 ZP ?_)<;>refine Zc ?_)
 refine cX ?_ ?_<;>intro hb36
 · exact UT hb36 sM
 · refine Ze ?_;(refine xL 69 Zb (xL 70 ZP ?_)<;>refine Zc ?_)
   refine cX ?_ ?_<;>intro hb70
   · refine Ze ?_;(refine xL 71 (Zd 5 SR) ?_<;>(refine yL 72 (Zj 5 Oh) fun v72 h=>?_;cases h)<;>refine xL 10 Za ?_<;>refine Zi ?_)
     (refine xL 73 (Zd 5 SR) ?_<;>(refine yL 74 (Zj 5 Oh) fun v74 h=>?_;cases h)<;>refine xL 75 ZH (xL 76 (Zd 5 SR) ?_)<;>refine YM 5 Oh Zkm ?_<;>refine Zi ?_)
     (refine xL 77 Zb ?_<;>refine ZO (kk:=1) 78 Pe fun h78 ho78=>?_<;>(refine Z1 200 78 79 Pe fun h79 ho79=>?_;refine Zt (ZE (l:=79) 200 rfl rfl) fun _=>?_)<;>refine xL 6 Za ?_<;>refine Zc ?_)
     (refine ZY (fun i=>([14]:List Nat).elem i) [5] kR ?_<;>refine xD 0 80 rfl (Zd 5 SS) ?_<;>(refine yD 1 81 rfl (Zj 5 O3) fun v81 h=>?_;cases h)<;>refine xD 2 82 rfl Zb ?_<;>refine xD 3 83 rfl Zb ?_<;>refine xD 4 84 rfl Zb ?_<;>refine xD 5 85 rfl Zb ?_<;>refine xD 6 86 rfl (ZI Pg) ?_<;>(refine yD 7 87 rfl (Ya Rp) fun v87 h=>?_;cases h)<;>refine xE 8 88 rfl Zb ?_<;>refine xE 9 89 rfl (ZI ζ4) ?_<;>(refine yE 10 90 rfl (Ya Oh) fun v90 h=>?_;cases h)<;>refine xE 11 91 rfl (ZM ZhC) ?_<;>(refine Zr 12 kR ?_)<;>(refine Zo rfl fun w9 M9 N9 DQ back=>?_)<;>(refine cS 92 (cA call133 (GB [] ⟨0,1,x⟩ (Xd _) List.Pairwise.nil)) fun v92 h=>?_;cases h)<;>refine Zl (back _ (nrm ?_))<;>refine xE 13 93 rfl (Zd 5 SS) ?_<;>(refine Zr 14 kR ?_)<;>(refine Ko rfl rfl kR fun DQ back=>?_)<;>refine YM 5 O3 ZhE ?_<;>refine Zl (back _ (nav ?_))<;>try dsimp only)
     (refine Zv ?_<;>refine xL 94 Zb (xL 8 Za ?_)<;>refine Zi ?_)
     (refine xL 30 Zb (xL 31 ZH (xL 9 Za ?_))<;>refine Zc ?_)
     refine Zm (
      ⟨(1,h79),Xg _,ho79⟩
      ) (by dsimp only;omega) ⟨rfl,rfl,rfl,rfl,rfl,rfl,rfl,rfl,trivial⟩ ⟨rfl,rfl,rfl,trivial⟩
   · exact UT dC hb70)
 · first|exact bN hb29|(
 obtain rfl:j=w.length:=oM;have htk:w.take 1=w:=Xk hw;refine Ze ?_;(refine xL 95 Zb (xL 96 Zb (xL 97 (Yi 200 Ph) ?_))<;>refine YM 200 Zdv Zkn ?_<;>refine Zc ?_)
 refine Zs (ZL (l:=200) (p':= .own 4 1 (Cy w 1).length ((Cy w 1).map ZK)) rfl (by unfold Cy;rw [UR dC,Xr,VQ,Xp])) fun _=>?_;refine Zs (ZL (l:=5) (p':= .own 39 5 1 [pInt (1+(w.take 1).length:Nat),pInt n,pInts [0], .val (.slice none 0 0),pMvs ((w.take 1).map fun k=>⟨0,1,k⟩)]) rfl (by rw [htk,VN])) fun _=>?_;(refine Zv ?_<;>refine xL 21 Zb (xL 22 ZH (xL 7 Za ?_))<;>refine Zc ?_)
 refine Zm (
  ⟨(1,hc),Xg _,hco⟩
  ) (by dsimp only;omega) ⟨rfl,rfl,rfl,rfl,rfl,rfl,trivial⟩ ⟨rfl,rfl,rfl,trivial⟩))
 · first | exact bN hb20|(
 obtain rfl:i=1:=by
  have h:¬(i:Int)<1:=fun h=>hb20 (by simpa using h);omega
 have htk:w.take 1=w:=Xk hw;refine Zs (ZL (l:=5) (p':= .own 39 5 1 [pInt (1+w.length:Nat),pInt n,pInts [0], .val (.slice none 0 0),pMvs (w.map fun k=>⟨0,1,k⟩)]) rfl (by rw [htk])) fun _=>?_;have hfl:(Cy w 1).length=w.length+1:=Zkp (i:=1) (Xg _);refine Ze ?_;(refine xL 12 Za ?_<;>refine Zc ?_)
 refine Zs (WY (l:=5) [pInt (1+w.length:Nat),pInt n,pInts [0], .own 3 1 0 [],pMvs (w.map fun k=>⟨0,1,k⟩)] rfl rfl (fun i p p' h1 h2=>by
  match i with
  |0=>cases h1;cases h2;exact .inl rfl
  |1=>cases h1;cases h2;exact .inl rfl
  |2=>cases h1;cases h2;exact .inl rfl
  |3=>cases h1;cases h2;exact .inr ⟨rfl,_,_,rfl⟩
  |4=>cases h1;cases h2;exact .inl rfl
  |i+5=>simp at h2)) fun _=>?_
 refine Zs (Ws (l:=5) (l':=301) (j:=3) rfl rfl rfl rfl) fun i=>?_;obtain ⟨v301,ho301⟩:=i;dsimp only [List.set];refine ZB (ι:={q:Nat×Value//q.1≤w.length+1∧q.2.oneCell'=true}) (fun k=>⟨[(4,_,_),(5,_,_),(6,_,_),(12, .int .i64 k.1.1,pInt k.1.1)],[(4,_,_),(200,_,_),(5,h5, .own 39 5 1 [pInt (1+w.length:Nat),pInt n,pInts [0], .val k.1.2,pMvs (w.map fun k=>⟨0,1,k⟩)]),(301,k.1.2, .own 3 1 (SU w k.1.1).length ((SU w k.1.1).map pInt))]⟩) (fun k=>w.length+1-k.1.1) ⟨(0,v301),Xd _,ho301⟩ (fun a w H=>H.weaken ⟨rfl,rfl,rfl,rfl,trivial⟩ ⟨rfl,rfl,rfl,rfl,trivial⟩) ?_;rintro ⟨⟨m,hF⟩,hm,hFo⟩;dsimp only;dsimp only at hm hFo;have hll:=Zkq w m;refine Ze ?_;(refine xL 98 Zb (xL 99 Zb (xL 100 (YH 200 Ph) (xL 101 ZP ?_)))<;>refine Zc ?_)
 refine cX ?_ ?_<;>intro hb101
 · first | exact bN hb101|(
 have hml:m<w.length+1:=oM;have e3:=Zmo hml;refine Ze ?_;(refine xL 104 Zb (xL 105 Zb (xL 106 (Yi 200 Ph) ?_))<;>(refine yL 107 (Zj 200 Zdv) fun v107 h=>?_;cases h)<;>refine Zc ?_)
 refine cX ?_ ?_<;>intro hb107
 · first |exact bN hb107|(
 (have hmw:m=w.length:=by simpa using hb107);(have hT1:SU w m=[]:=by unfold SU;rw [UR oM]);(have hT2:SU w (m+1)=[((m:Nat):Int)]:=by unfold SU;rw [US oM,hmw]);refine Ze ?_;(refine xL 108 (Zd 5 DG) ?_<;>(refine yL 109 (Zj 5 Rp) fun v109 h=>?_;cases h)<;>refine xL 110 Zb ?_<;>refine ZO (kk:=1) 111 O2 fun h111 ho111=>?_<;>(refine Z1 301 111 112 O2 fun h112 ho112=>?_;refine Zt (ZE (l:=112) 301 rfl rfl) fun _=>?_;refine Zt (ZL (l:=301) (p':= .own 3 1 (SU w (m+1)).length ((SU w (m+1)).map pInt)) rfl (by rw [hT1,hT2];rfl)) fun _=>?_)<;>refine xL 113 (Zd 5 DG) ?_<;>refine YM 5 Rp ZhD ?_<;>refine Zi ?_)
 (refine xL 102 Zb (xL 103 ZH (xL 12 Za ?_))<;>refine Zc ?_)
 first
  | (exact Zm (
      ⟨(m+1,h112),by dsimp only;omega,ho112⟩
      ) (by dsimp only;omega) ⟨rfl,rfl,rfl,rfl,trivial⟩ ⟨rfl,rfl,rfl,rfl,trivial⟩)
  | (exact Zm (
      ⟨(m+1,hF),by dsimp only;omega,hFo⟩
      ) (by dsimp only;omega) ⟨rfl,rfl,rfl,rfl,trivial⟩ ⟨rfl,rfl,rfl,rfl,trivial⟩))
 · first |exact bN hb107|(
 (have hmw:m≠w.length:=by simpa using hb107);(have hT:SU w (m+1)=SU w m:=by unfold SU;rw [UR oM,UR oM]);refine Zs (ZL (l:=301) (p':= .own 3 1 (SU w (m+1)).length ((SU w (m+1)).map pInt)) rfl (by rw [hT])) fun _=>?_;refine Ze ?_;(refine xL 102 Zb (xL 103 ZH (xL 12 Za ?_))<;>refine Zc ?_)
 first
  | (exact Zm (
      ⟨(m+1,h112),by dsimp only;omega,ho112⟩
      ) (by dsimp only;omega) ⟨rfl,rfl,rfl,rfl,trivial⟩ ⟨rfl,rfl,rfl,rfl,trivial⟩)
  | (exact Zm (
      ⟨(m+1,hF),by dsimp only;omega,hFo⟩
      ) (by dsimp only;omega) ⟨rfl,rfl,rfl,rfl,trivial⟩ ⟨rfl,rfl,rfl,rfl,trivial⟩)))
 · first|exact bN hb101|(
 (have hT:SU w m=[((w.length:Nat):Int)]:=by unfold SU;rw [US oM]);refine Zs (ZL (l:=301) (p':= .own 3 1 [((w.length:Nat):Int)].length ([((w.length:Nat):Int)].map pInt)) rfl (by rw [hT])) fun _=>?_;refine nav ?_;refine Zs (Z6 (l:=5) (l':=301) (j:=3) rfl rfl rfl rfl) fun _=>?_;(refine Zv ?_<;>(refine yL 114 (Zu 5 Yn) fun v114 h=>?_;cases h)<;>refine ZD 4 Yn ?_<;>refine Zc ?_)
 exact Py (k:=5) 4 kR (results85) rfl rfl (Xa rfl) dC rfl rfl))
theorem ζ5 (x:Except Int Aut):∃p0 p1 p2 p3 p4 E,R5 p0 p1 p2 p3 p4∧resW x= .tup [.agg [p0,p1,p2,p3,p4],pInt E]:=by
 rcases OM x with ⟨A,_,h⟩|⟨e,_,h⟩
 · exact ⟨_,_,_,_,_,_,R5.aut A,h⟩
 · exact ⟨_,_,_,_,_,_,R5.raw,h⟩
theorem ζ6 (w:List Int) (n:Int) (hw:w.length≤1):AF prog 98 [pInts w,pInt n] (· =resW (Jd (DI w n))):=by
 obtain ⟨p0,p1,p2,p3,p4,E,r5,hres⟩:=ζ5 (Jd (DI w n))
 have hj:=P4 (DI w n) (by show (w.map _).length≤_;rw [Xe];omega)
 rw [hres] at hj ⊢
 obtain ⟨o0,o1,o2,o3,o4⟩:=r5.o
 refine AF.of_body 13 func98 rfl ntmps98 (Xa rfl) ?_
 intro w0 M0 vs hl hv
 obtain ⟨v0,v1,rfl⟩:=YG hl
 obtain rfl:=hv 1 _ _ rfl rfl
 clear hl hv
 refine Ze ?_
 (refine Zx [(.int .i64 0),(.int .i64 0),(.slice none 0 0),(.slice none 0 0),(.slice none 0 0)] 5 4 K6 fun h4=>?_<;>refine xL 5 Za ?_<;>refine Zi ?_)
 (refine xL 6 Zb ?_<;>(refine ZO (kk:=1) 7 Ze5 fun h7 ho7=>?_;refine Zt (En.freeze (l:=7) (t:=7) rfl rfl) fun _=>?_;refine Zt (Wx (t:=7) (p':=RL [w]) rfl rfl) fun _=>?_)<;>refine xL 8 Zb ?_<;>(refine cD 9 (cA call85 (ZhG w n hw)) fun v9 hv9=>?_;clear hv9)<;>(refine cP 10 (cA (call143) hj) (fun va10 vb10 hva10 hvb10=>?_) (hsh:=r5.t E);cases hvb10)<;>refine xL 11 Zk (xL 12 Zk ?_)<;>refine ZD 4 Yn ?_<;>refine xL 5 Za ?_<;>refine Zc ?_)
 exact Z2 (k:=5) 4 kR (results98) rfl rfl rfl (Xa rfl) dC r5.s rfl
theorem Zdw (a b:Aut) (ha:a.moves.length≤1000000) (hb:b.moves.length≤1000000):AF prog 100 [pInt 3,ZN a,ZN b] (· =resW (Wi 3 a b)):=by
 rw [show Wi 3 a b=Gv a b from rfl]
 obtain ⟨p0,p1,p2,p3,p4,E,r5,hres⟩:=ζ5 (Gv a b)
 have hj:=SQ a b ha hb
 rw [hres] at hj ⊢
 obtain ⟨o0,o1,o2,o3,o4⟩:=r5.o
 refine AF.of_body 28 func100 rfl ntmps100 (Xa rfl) ?_
 intro w0 M0 vs hl hv
 obtain ⟨v0,v1,v2,rfl⟩:=LO hl
 obtain rfl:=hv 0 _ _ rfl rfl
 clear hl hv
 refine Ze ?_
 (refine ZC 4 5 fun h4=>?_<;>refine ZC 5 5 fun h5=>?_<;>refine Zx [(.int .i64 0),(.int .i64 0),(.slice none 0 0),(.slice none 0 0),(.slice none 0 0)] 5 6 K6 fun h6=>?_<;>refine xL 7 Za ?_<;>refine Zi ?_)
 (refine xL 8 Zb ?_<;>refine Zi ?_)
 (refine xL 10 Yd (xL 9 Za ?_)<;>refine Zc ?_)
 refine cX ?_ ?_<;>intro hb9
 · try (exact UT hb9 dC)
   refine Ze ?_;((refine yL 11 (Zu 4 Yn) fun v11 h=>?_;cases h)<;>(refine yL 12 (Zu 5 Yn) fun v12 h=>?_;cases h)<;>(refine cP 13 (cA (call144) hj) (fun va13 vb13 hva13 hvb13=>?_) (hsh:=r5.t E);cases hvb13)<;>refine xL 14 Zk (xL 15 Zk ?_)<;>refine ZD 6 Yn ?_<;>refine xL 7 Za ?_<;>refine Zc ?_)
   exact Z2 (k:=5) 6 kR (results100) rfl rfl rfl (Xa rfl) dC r5.s rfl
 · try (exact UT rfl hb9)
theorem Zdx (a b:Aut) (ha:a.moves.length≤1000000) (hb:b.moves.length≤1000000):AF prog 100 [pInt 4,ZN a,ZN b] (· =resW (Wi 4 a b)):=by
 rw [show Wi 4 a b=Ga a b from rfl]
 obtain ⟨p0,p1,p2,p3,p4,E,r5,hres⟩:=ζ5 (Ga a b)
 have hj:=Ze4 a b ha hb
 rw [hres] at hj ⊢
 obtain ⟨o0,o1,o2,o3,o4⟩:=r5.o
 refine AF.of_body 28 func100 rfl ntmps100 (Xa rfl) ?_
 intro w0 M0 vs hl hv
 obtain ⟨v0,v1,v2,rfl⟩:=LO hl
 obtain rfl:=hv 0 _ _ rfl rfl
 clear hl hv
 refine Ze ?_
 (refine ZC 4 5 fun h4=>?_<;>refine ZC 5 5 fun h5=>?_<;>refine Zx [(.int .i64 0),(.int .i64 0),(.slice none 0 0),(.slice none 0 0),(.slice none 0 0)] 5 6 K6 fun h6=>?_<;>refine xL 7 Za ?_<;>refine Zi ?_)
 (refine xL 8 Zb ?_<;>refine Zi ?_)
 (refine xL 10 Yd (xL 9 Za ?_)<;>refine Zc ?_)
 refine cX ?_ ?_<;>intro hb9
 · try (exact UT hb9 dC)
 · try (exact UT rfl hb9)
   refine Ze ?_;(refine xL 17 Yd (xL 16 Za ?_)<;>refine Zc ?_)
   refine cX ?_ ?_<;>intro hb16
   · try (exact UT hb16 dC)
     refine Ze ?_;((refine yL 18 (Zu 4 Yn) fun v18 h=>?_;cases h)<;>(refine yL 19 (Zu 5 Yn) fun v19 h=>?_;cases h)<;>(refine cP 20 (cA (call146) hj) (fun va20 vb20 hva20 hvb20=>?_) (hsh:=r5.t E);cases hvb20)<;>refine xL 21 Zk (xL 22 Zk ?_)<;>refine ZD 6 Yn ?_<;>refine xL 7 Za ?_<;>refine Zc ?_)
     exact Z2 (k:=5) 6 kR (results100) rfl rfl rfl (Xa rfl) dC r5.s rfl
   · try (exact UT rfl hb16)
theorem Zdy (a b:Aut) (ha:a.moves.length≤1000000) (hb:b.moves.length≤1000000):AF prog 100 [pInt 5,ZN a,ZN b] (· =resW (Wi 5 a b)):=by
 rw [show Wi 5 a b=Le a b from rfl]
 obtain ⟨p0,p1,p2,p3,p4,E,r5,hres⟩:=ζ5 (Le a b)
 have hj:=Za9 a b ha hb
 rw [hres] at hj ⊢
 obtain ⟨o0,o1,o2,o3,o4⟩:=r5.o
 refine AF.of_body 28 func100 rfl ntmps100 (Xa rfl) ?_
 intro w0 M0 vs hl hv
 obtain ⟨v0,v1,v2,rfl⟩:=LO hl
 obtain rfl:=hv 0 _ _ rfl rfl
 clear hl hv
 refine Ze ?_
 (refine ZC 4 5 fun h4=>?_<;>refine ZC 5 5 fun h5=>?_<;>refine Zx [(.int .i64 0),(.int .i64 0),(.slice none 0 0),(.slice none 0 0),(.slice none 0 0)] 5 6 K6 fun h6=>?_<;>refine xL 7 Za ?_<;>refine Zi ?_)
 (refine xL 8 Zb ?_<;>refine Zi ?_)
 (refine xL 10 Yd (xL 9 Za ?_)<;>refine Zc ?_)
 refine cX ?_ ?_<;>intro hb9
 · try (exact UT hb9 dC)
 · try (exact UT rfl hb9)
   refine Ze ?_;(refine xL 17 Yd (xL 16 Za ?_)<;>refine Zc ?_)
   refine cX ?_ ?_<;>intro hb16
   · try (exact UT hb16 dC)
   · try (exact UT rfl hb16)
     refine Ze ?_;((refine yL 23 (Zu 4 Yn) fun v23 h=>?_;cases h)<;>(refine yL 24 (Zu 5 Yn) fun v24 h=>?_;cases h)<;>(refine cP 25 (cA (call147) hj) (fun va25 vb25 hva25 hvb25=>?_) (hsh:=r5.t E);cases hvb25)<;>refine xL 26 Zk (xL 27 Zk ?_)<;>refine ZD 6 Yn ?_<;>refine xL 7 Za ?_<;>refine Zc ?_)
     exact Z2 (k:=5) 6 kR (results100) rfl rfl rfl (Xa rfl) dC r5.s rfl
set_option maxHeartbeats 1000000 in
theorem ZhH {acts:List ByteArray} (a b:Aut) (ha:IsMin a∧a.syms=acts.length) (hb:IsMin b∧b.syms=acts.length):AF prog 99 [ZN a,ZN b] (· =resW (Wi 6 a b)):=by
 rw [show Wi 6 a b=Jg a b from rfl]
 have mX:=Of hb ha
 have la:=ha.1.aok.ml
 have lb:=hb.1.aok.ml
 obtain ⟨p0,p1,p2,p3,p4,E,r5,hres,hc⟩:=DZ (okO (Gv b a))
 have hj:=SQ b a oM oM
 rw [mX.lim,hres] at hj
 obtain ⟨o0,o1,o2,o3,o4⟩:=r5.o
 refine AF.of_body 33 func99 rfl ntmps99 (Xa rfl) ?_
 intro w0 M0 vs hl hv
 obtain ⟨v0,v1,rfl⟩:=YG hl
 clear hl hv
 refine Ze ?_
 (refine ZC 2 5 fun h2=>?_<;>refine ZC 3 5 fun h3=>?_<;>refine Zx [(.int .i64 0),(.int .i64 0),(.slice none 0 0),(.slice none 0 0),(.slice none 0 0)] 5 4 K6 fun h4=>?_<;>refine xL 5 Za ?_<;>refine Zi ?_)
 ((refine yL 10 (Zu 3 Yn) fun v10 h=>?_;cases h)<;>(refine yL 11 (Zu 2 Yn) fun v11 h=>?_;cases h)<;>(refine cP 12 (cA (call144) hj) (fun va12 vb12 hva12 hvb12=>?_) (hsh:=r5.t E);cases hvb12)<;>refine xL 9 Zb (xL 13 Zk (xL 14 Zk ?_))<;>refine Zx [(.int .i64 0),(.int .i64 0),(.slice none 0 0),(.slice none 0 0),(.slice none 0 0)] 5 6 K6 fun h6=>?_<;>refine ZD 6 Yn ?_<;>refine xL 7 Za ?_<;>refine Zi ?_)
 (refine xL 15 Zb (xL 16 Yx ?_)<;>refine Zc ?_)
 refine cX ?_ ?_<;>intro hb16
 · first|exact bN hb16|(
 have hn:okO (Gv b a)=none∧E=13:=by
  rcases hc with h|⟨A,_,h,_⟩
  · exact h
  · exact UT h (by simpa using hb16)
 obtain ⟨hn,rfl⟩:=hn;(have hlp:Jg a b= .error 13:=by unfold Jg;rw [mX.lim,hn];rfl);rw [hlp];refine Ze ?_;(refine xL 17 (ZM O4) (xL 18 Zb ?_)<;>refine ZD 4 Yn ?_<;>refine xL 5 Za ?_<;>refine Zc ?_)
 exact Z2 (k:=5) 4 kR (results99) rfl rfl rfl (Xa rfl) dC rfl rfl)
 · first |exact bN hb16|(
 have hC:∃C,okO (Gv b a)=some C∧E=0∧p0=pInt C.n∧p1=pInt C.syms∧p2=pInts C.start∧p3=pInts C.fin∧p4=pMvs C.moves:=by
  rcases hc with ⟨_,h⟩|h
  · exact UT h (by simp at hb16;omega)
  · exact h
 clear hc;obtain ⟨C,hC,rfl,rfl,rfl,rfl,rfl,rfl⟩:=hC;obtain ⟨hC1,hC2⟩:=mX.ok hC;have mS:=Rj hC2.1 hC2.2;have lC:=hC2.1.aok.ml;obtain ⟨p0,p1,p2,p3,p4,E,r5,hres,hc⟩:=DZ (okO (JD C));have hj:=ZhA C oM;rw [mS.lim,hres] at hj;obtain ⟨o0,o1,o2,o3,o4⟩:=r5.o;refine Ze ?_;((refine yL 20 (Zu 6 Yn) fun v20 h=>?_;cases h)<;>(refine cP 21 (cA (call145) hj) (fun va21 vb21 hva21 hvb21=>?_) (hsh:=r5.t E);cases hvb21)<;>refine xL 19 Zb (xL 22 Zk (xL 23 Zk ?_))<;>refine Zx [(.int .i64 0),(.int .i64 0),(.slice none 0 0),(.slice none 0 0),(.slice none 0 0)] 5 8 K6 fun h8=>?_<;>refine ZD 8 Yn ?_<;>refine xL 7 Za ?_<;>refine Zi ?_)
 (refine xL 24 Zb (xL 25 Yx ?_)<;>refine Zc ?_)
 refine cX ?_ ?_<;>intro hb25
 · first|exact bN hb25|(
 have hn:okO (JD C)=none∧E=13:=by
  rcases hc with h|⟨A,_,h,_⟩
  · exact h
  · exact UT h (by simpa using hb25)
 obtain ⟨hn,rfl⟩:=hn;(have hlp:Jg a b= .error 13:=by unfold Jg;rw [hC1];dsimp only;rw [mS.lim,hn];rfl);rw [hlp];refine Ze ?_;(refine xL 26 (ZM O4) (xL 27 Zb ?_)<;>refine ZD 4 Yn ?_<;>refine xL 5 Za ?_<;>refine Zc ?_)
 exact Z2 (k:=5) 4 kR (results99) rfl rfl rfl (Xa rfl) dC rfl rfl)
 · first|exact bN hb25|(
 have hS:∃S,okO (JD C)=some S∧E=0∧p0=pInt S.n∧p1=pInt S.syms∧p2=pInts S.start∧p3=pInts S.fin∧p4=pMvs S.moves:=by
  rcases hc with ⟨_,h⟩|h
  · exact UT h (by simp at hb25;omega)
  · exact h
 clear hc;obtain ⟨S,hS,rfl,rfl,rfl,rfl,rfl,rfl⟩:=hS;obtain ⟨hS1,hS2⟩:=mS.ok hS;have mT:=Of ha hS2;have lS:=hS2.1.aok.ml;(have hlp:Jg a b=Gv a S:=by unfold Jg;rw [hC1];dsimp only;rw [hS1]);rw [hlp];obtain ⟨p0,p1,p2,p3,p4,E,r5,hres,hc⟩:=DZ (okO (Gv a S));have hj:=SQ a S oM oM;rw [mT.lim,hres] at hj;rw [mT.lim,hres];obtain ⟨o0,o1,o2,o3,o4⟩:=r5.o;refine Ze ?_;((refine yL 28 (Zu 2 Yn) fun v28 h=>?_;cases h)<;>(refine yL 29 (Zu 8 Yn) fun v29 h=>?_;cases h)<;>(refine cP 30 (cA (call144) hj) (fun va30 vb30 hva30 hvb30=>?_) (hsh:=r5.t E);cases hvb30)<;>refine xL 31 Zk (xL 32 Zk ?_)<;>refine ZD 4 Yn ?_<;>refine xL 5 Za ?_<;>refine Zc ?_)
 exact Z2 (k:=5) 4 kR (results99) rfl rfl rfl (Xa rfl) dC r5.s rfl))
theorem Lk:AggT prog 24 3=true:=by kernel_rfl
theorem Y4:AggT prog 39 5=true:=by kernel_rfl
theorem ZhI:ElT prog 36 3 1 8 (.int .i64 0):=⟨underlying36,by kernel_rfl,rfl,dC⟩
theorem W1:FldT prog 24 0 0=true:=by kernel_rfl
theorem SV:FldT prog 24 1 1=true:=by kernel_rfl
theorem JG:FldT prog 24 2 2=true:=by kernel_rfl
theorem GY:NoAgg prog 22=true:=by kernel_rfl
theorem ζ7:NoAgg prog 27=true:=by kernel_rfl
theorem JU:NoAgg prog 3=true:=by kernel_rfl
theorem E':NoAgg prog 9=true:=by kernel_rfl
theorem Gg:SlT prog 22 24 3=true:=by kernel_rfl
theorem ζ8:SlT prog 27 9 1=true:=by kernel_rfl
theorem ζ9:WR prog 39=some ((.agg #[(.int .i64 0),(.int .i64 0),(.slice none 0 0),(.slice none 0 0),(.slice none 0 0)]),([0,1,2,3,4]:List Nat).map fun o=>(o,1)):=by kernel_rfl
theorem To:ZeroT prog 39 (.agg #[(.int .i64 0),(.int .i64 0),(.slice none 0 0),(.slice none 0 0),(.slice none 0 0)]):=by unfold ZeroT;kernel_rfl
structure RS (r:Option Aut) (p0 p1 p2 p3 p4:PV) (E:Int):Prop where
 r5:R5 p0 p1 p2 p3 p4
 eq:resW (lim r)= .tup [.agg [p0,p1,p2,p3,p4],pInt E]
 hc:(r=none∧E=13)∨∃A,r=some A∧E=0∧p0=pInt A.n∧p1=pInt A.syms∧p2=pInts A.start∧p3=pInts A.fin∧p4=pMvs A.moves
theorem Ca (r:Option Aut):∃p0 p1 p2 p3 p4 E,RS r p0 p1 p2 p3 p4 E:=by
 obtain ⟨p0,p1,p2,p3,p4,E,r5,hres,hc⟩:=DZ r
 exact ⟨p0,p1,p2,p3,p4,E,r5,hres,hc⟩
theorem RS.no {r:Option Aut} {p0 p1 p2 p3 p4:PV} {E:Int} (h:RS r p0 p1 p2 p3 p4 E) (hE:¬E=0):r=none∧E=13:=by
 rcases h.hc with h1|⟨A,_,h1,_⟩
 · exact h1
 · exact UT h1 hE
theorem RS.yes {r:Option Aut} {p0 p1 p2 p3 p4:PV} {E:Int} (h:RS r p0 p1 p2 p3 p4 E) (hE:E=0):∃A,r=some A∧E=0∧p0=pInt A.n∧p1=pInt A.syms∧p2=pInts A.start∧p3=pInts A.fin∧p4=pMvs A.moves:=by
 rcases h.hc with ⟨_,h1⟩|h1
 · omega
 · exact h1
theorem Cc {acts:List ByteArray} {o:Int} {l:List Nd} {i:Nat} (h1:1≤i) (hl:1≤l.length) (h:foldX o ((l.take i).map (bldT acts))=none):foldX o (l.map (bldT acts))=none:=by
 have:=ζ1 (n:=(l.drop i).map (bldT acts)) (by cases l with|nil=>simp at hl|cons x l=>cases i with|zero=>omega|succ i=>simp) h
 rwa [←Xu,VJ] at this
theorem Cd {acts:List ByteArray} {o:Int} {l:List Nd} {i:Nat} {x:Nd} {R B:Aut} (h1:1≤i) (hx:l[i]? =some x) (hR:foldX o ((l.take i).map (bldT acts))=some R) (hB:bldT acts x=some B):foldX o ((l.take (i+1)).map (bldT acts))=okO (Wi o R B):=by
 have hne:(l.take i).map (bldT acts)≠[]:=by
  cases l with
  |nil=>simp at hx
  | cons y l=>cases i with
    |zero=>omega
    |succ i=>simp
 rw [ZT hx,Xu,UH,EQ hne,hR,hB];rfl
theorem Zba (acts:List ByteArray) (a:ByteArray):AF prog 56 [.agg [pInt 1,Yq a,YZ []],Yv acts] (· =resW (Jd (GJ acts.length (Y0 acts a)))):=by
 obtain ⟨p0,p1,p2,p3,p4,E,r5,hres⟩:=ζ5 (Jd (DI [Y0 acts a] acts.length))
 have hj:=ζ6 [Y0 acts a] acts.length (Xg _)
 rw [hres] at hj
 rw [←ZhF,hres]
 obtain ⟨o0,o1,o2,o3,o4⟩:=r5.o
 refine AF.of_body 88 func56 rfl ntmps56 (Xa rfl) ?_
 intro w0 M0 vs hl hv
 obtain ⟨v0,v1,rfl⟩:=YG hl
 clear hl hv
 refine Ze ?_
 (refine ZC 2 3 fun h2=>?_<;>refine Zx [(.int .i64 0),(.int .i64 0),(.slice none 0 0),(.slice none 0 0),(.slice none 0 0)] 5 4 To fun h4=>?_<;>refine xL 5 Za ?_<;>refine Zi ?_)
 (refine xL 11 (Zd 2 W1) ?_<;>(refine yL 12 (Zj 2 JU) fun v12 h=>?_;cases h)<;>refine xL 13 Yd ?_<;>refine Zc ?_)
 refine cX ?_ ?_<;>intro hb13
 · exact UT hb13 dC
 · refine Ze ?_;(refine xL 19 (Zd 2 W1) ?_<;>(refine yL 20 (Zj 2 JU) fun v20 h=>?_;cases h)<;>refine xL 21 Yd ?_<;>refine Zc ?_)
   refine cX ?_ ?_<;>intro hb21
   · refine Ze ?_;(refine xL 22 Zb (xL 23 (Zd 2 SV) ?_)<;>(refine yL 24 (Zj 2 E') fun v24 h=>?_;cases h)<;>(refine cS 25 (cA call22 (Zbx acts a)) fun v25 h=>?_;cases h)<;>(refine ZO (kk:=1) 26 ZhI fun h26 ho26=>?_;refine Zt (En.freeze (l:=26) (t:=26) rfl rfl) fun _=>?_;refine Zt (Wx (t:=26) (p':=pInts [Y0 acts a]) rfl rfl) fun _=>?_)<;>refine xL 27 Zb (xL 28 (ZR ζ8) ?_)<;>(refine cP 29 (cA (call98) hj) (fun va29 vb29 hva29 hvb29=>?_) (hsh:=r5.t E);cases hvb29)<;>refine xL 30 Zk (xL 31 Zk ?_)<;>refine ZD 4 Y4 ?_<;>refine xL 5 Za ?_<;>refine Zc ?_)
     exact Z2 (k:=5) 4 kR (results56) rfl rfl rfl (Xa rfl) dC r5.s rfl
   · exact UT rfl hb21
theorem Zbb (acts:List ByteArray) (a:ByteArray):AF prog 56 [.agg [pInt 2,Yq a,YZ []],Yv acts] (· =resW (Jd (Rz acts.length))):=by
 obtain ⟨p0,p1,p2,p3,p4,E,r5,hres⟩:=ζ5 (Jd (DI [] acts.length))
 have hj:=AF.nil0 (ζ6 [] acts.length (Xd _))
 rw [hres] at hj
 rw [←Zko,hres]
 obtain ⟨o0,o1,o2,o3,o4⟩:=r5.o
 refine AF.of_body 88 func56 rfl ntmps56 (Xa rfl) ?_
 intro w0 M0 vs hl hv
 obtain ⟨v0,v1,rfl⟩:=YG hl
 clear hl hv
 refine Ze ?_
 (refine ZC 2 3 fun h2=>?_<;>refine Zx [(.int .i64 0),(.int .i64 0),(.slice none 0 0),(.slice none 0 0),(.slice none 0 0)] 5 4 To fun h4=>?_<;>refine xL 5 Za ?_<;>refine Zi ?_)
 (refine xL 11 (Zd 2 W1) ?_<;>(refine yL 12 (Zj 2 JU) fun v12 h=>?_;cases h)<;>refine xL 13 Yd ?_<;>refine Zc ?_)
 refine cX ?_ ?_<;>intro hb13
 · refine Ze ?_;(refine xL 14 Zb (xL 15 (ZR ζ8) ?_)<;>(refine cP 16 (cA (call98) hj) (fun va16 vb16 hva16 hvb16=>?_) (hsh:=r5.t E);cases hvb16)<;>refine xL 17 Zk (xL 18 Zk ?_)<;>refine ZD 4 Y4 ?_<;>refine xL 5 Za ?_<;>refine Zc ?_)
   exact Z2 (k:=5) 4 kR (results56) rfl rfl rfl (Xa rfl) dC r5.s rfl
 · exact UT rfl hb13
set_option maxHeartbeats 4000000 in
theorem Oi (o : Int) (ho:o=3∨o=4∨o=5∨o=6) (acts:List ByteArray) (a:ByteArray) (x0:Nd) (l0 l:List Nd) (hl0:l=x0::l0) (hl:l.length≤1000000) (ih:∀x∈l,AF prog 56 [pTr x,Yv acts] (· =resW (lim (bldT acts x)))) (hb:∀x∈l,BldOk acts.length (bldT acts x)):AF prog 56 [.agg [pInt o,Yq a,YZ l],Yv acts] (· =resW (lim (foldX o (l.map (bldT acts))))):=by
 have hlen0:l.length=l0.length+1:=by rw [hl0];rfl
 have hx0:l[0]? =some x0:=by rw [hl0];rfl
 have e1:((Ll l).drop (0*3)).take 3=[pInt x0.op,Yq x0.act,YZ x0.l]:=Kp hx0
 have e2:=Jo hx0
 obtain ⟨p0,p1,p2,p3,p4,E,hR0⟩:=Ca (bldT acts x0)
 have hxa:=ih x0 (Xb hx0)
 rw [hR0.eq] at hxa
 have r5:=hR0.r5
 obtain ⟨o0,o1,o2,o3,o4⟩:=hR0.r5.o
 have hRS:RS (foldX o ((l.take 1).map (bldT acts))) p0 p1 p2 p3 p4 E:=by rw [hl0];exact hR0
 have hok:∀i,BldOk acts.length (foldX o ((l.take i).map (bldT acts))):=fun i=>Zc2 o fun r hr=>by
  obtain ⟨y,hy,rfl⟩:=Xj.1 hr;exact hb y (VO hy)
 refine AF.of_body 88 func56 rfl ntmps56 (Xa rfl) ?_
 intro w0 M0 vs hl hv
 obtain ⟨v0,v1,rfl⟩:=YG hl
 clear hl hv
 refine Ze ?_
 (refine ZC 2 3 fun h2=>?_<;>refine Zx [(.int .i64 0),(.int .i64 0),(.slice none 0 0),(.slice none 0 0),(.slice none 0 0)] 5 4 To fun h4=>?_<;>refine xL 5 Za ?_<;>refine Zi ?_)
 (refine xL 11 (Zd 2 W1) ?_<;>(refine yL 12 (Zj 2 JU) fun v12 h=>?_;cases h)<;>refine xL 13 Yd ?_<;>refine Zc ?_)
 refine cX ?_ ?_<;>intro hb13
 · exact UT (show o=2 by simpa using hb13) oM
 · refine Ze ?_;(refine xL 19 (Zd 2 W1) ?_<;>(refine yL 20 (Zj 2 JU) fun v20 h=>?_;cases h)<;>refine xL 21 Yd ?_<;>refine Zc ?_)
   refine cX ?_ ?_<;>intro hb21
   · exact UT (show o=1 by simpa using hb21) oM
   · refine Ze ?_;(refine xL 33 (Zd 2 JG) ?_<;>(refine yL 34 (Zj 2 GY) fun v34 h=>?_;cases h)<;>refine xL 35 (ZI Gg) ?_<;>(refine yL 36 (Y' Lk) fun v36 h=>?_;cases h)<;>refine xL 37 Zb ?_<;>(refine cP 38 (cA (call56) hxa) (fun va38 vb38 hva38 hvb38=>?_) (hsh:=r5.t E);cases hvb38)<;>refine xL 32 Zb (xL 39 Zk (xL 40 Zk ?_))<;>refine Zx [(.int .i64 0),(.int .i64 0),(.slice none 0 0),(.slice none 0 0),(.slice none 0 0)] 5 6 To fun h6=>?_<;>refine ZD 6 Y4 ?_<;>refine xL 7 Za ?_<;>refine Zi ?_)
     (refine xL 8 Za ?_<;>refine Zc ?_)
     clear r5 o0 o1 o2 o3 o4 hxa e1 e2 hR0;refine ZB (ι:={q:Nat×(PV×PV×PV×PV×PV)×Int//1≤q.1∧q.1≤l.length∧RS (foldX o ((l.take q.1).map (bldT acts))) q.2.1.1 q.2.1.2.1 q.2.1.2.2.1 q.2.1.2.2.2.1 q.2.1.2.2.2.2 q.2.2}) (fun k=>⟨[(1,_,_),(2,_,_),(4,_,_),(5,_,_),(6,_,_),(7, .int .i64 k.1.2.2,pInt k.1.2.2),(8, .int .i64 k.1.1,pInt k.1.1)],[(2,_,_),(4,_,_),(6,h6, .own 39 5 1 [k.1.2.1.1,k.1.2.1.2.1,k.1.2.1.2.2.1,k.1.2.1.2.2.2.1,k.1.2.1.2.2.2.2])]⟩) (fun k=>l.length-k.1.1) ⟨(1,(p0,p1,p2,p3,p4),E),Xg _,by show 1≤l.length;omega,hRS⟩ (fun a w H=>H.weaken ⟨rfl,rfl,rfl,rfl,rfl,rfl,rfl,trivial⟩ ⟨rfl,rfl,rfl,trivial⟩) ?_;rintro ⟨⟨i,⟨p0,p1,p2,p3,p4⟩,E⟩,hi1,hi2,hR⟩;dsimp only;dsimp only at hi1 hi2 hR;obtain ⟨o0,o1,o2,o3,o4⟩:=hR.r5.o;refine Ze ?_;(refine xL 41 Zb (xL 42 (Zd 2 JG) ?_)<;>(refine yL 43 (Zj 2 GY) fun v43 h=>?_;cases h)<;>refine xL 44 (ZR Gg) (xL 45 ZP (xL 46 Zb ?_))<;>(refine bLd 46 (fun hb46=>?_) (fun hb46=>?_)<;>(first|refine kL 47 ?_|refine xL 47 Zb ?_))<;>(first|refine kL 48 ?_|refine xL 48 Yd ?_)<;>refine xL 49 ZG ?_<;>refine Zc ?_)<;>(
 refine cX ?_ ?_<;>intro hb49
 · first | exact bN hb49|(
 obtain ⟨R,hRe,rfl,rfl,rfl,rfl,rfl,rfl⟩:=hR.yes hb49;have hRm:=hok i R hRe;have lR:=hRm.1.aok.ml;obtain ⟨x,hx⟩:=Zq (show i<l.length by omega);have e1:((Ll l).drop (i*3)).take 3=[pInt x.op,Yq x.act,YZ x.l]:=Kp hx;have e2:=Jo hx;obtain ⟨q0,q1,q2,q3,q4,F,hQ⟩:=Ca (bldT acts x);have hxa:=ih x (Xb hx);rw [hQ.eq] at hxa;have r5:=hQ.r5;obtain ⟨u0,u1,u2,u3,u4⟩:=r5.o;refine Ze ?_;(refine xL 53 (Zd 2 JG) ?_<;>(refine yL 54 (Zj 2 GY) fun v54 h=>?_;cases h)<;>refine xL 55 Zb (xL 56 (ZI Gg) ?_)<;>(refine yL 57 (Y' Lk) fun v57 h=>?_;cases h)<;>refine xL 58 Zb ?_<;>(refine cP 59 (cA (call56) hxa) (fun va59 vb59 hva59 hvb59=>?_) (hsh:=r5.t F);cases hvb59)<;>refine xL 52 Zb (xL 60 Zk (xL 61 Zk ?_))<;>refine Zx [(.int .i64 0),(.int .i64 0),(.slice none 0 0),(.slice none 0 0),(.slice none 0 0)] 5 9 To fun h9=>?_<;>refine ZD 9 Y4 ?_<;>refine xL 10 Za ?_<;>refine Zi ?_)
 (refine xL 62 Zb (xL 63 Yx ?_)<;>refine Zc ?_)
 refine cX ?_ ?_<;>intro hb63
 · first|exact bN hb63|(
 obtain ⟨hn,rfl⟩:=hQ.no hb63;have hF:foldX o (l.map (bldT acts))=none:=OQ (Xj.2 ⟨x,Xb hx,hn⟩);rw [hF];refine Ze ?_;(refine xL 64 (ZM ζ9) (xL 65 Zb ?_)<;>refine ZD 4 Y4 ?_<;>refine xL 5 Za ?_<;>refine Zc ?_)
 exact Z2 (k:=5) 4 kR (results56) rfl rfl rfl (Xa rfl) dC rfl rfl)
 · first |exact bN hb63|(
 obtain ⟨B,hBe,rfl,rfl,rfl,rfl,rfl,rfl⟩:=hQ.yes (by simpa using hb63);have hBm:=hb x (Xb hx) B hBe;have lB:=hBm.1.aok.ml;have hnx:=Cd (o:=o) hi1 hx hRe hBe;obtain ⟨t0,t1,t2,t3,t4,G,hT⟩:=Ca (okO (Wi o R B));have hjo:=congrArg resW (Zf7 o hRm hBm);rw [hT.eq] at hjo;have s5:=hT.r5;obtain ⟨z0,z1,z2,z3,z4⟩:=s5.o;rw [←hnx] at hT;refine Ze ?_;(refine xL 66 (Zd 2 W1) ?_<;>(refine yL 67 (Zj 2 JU) fun v67 h=>?_;cases h)<;>refine xL 68 Yd ?_<;>refine Zc ?_)
 refine cX ?_ ?_<;>intro hb68
 · first|exact bN hb68|(
 (have hj:AF prog 99 [ZN R,ZN B] (· =resW (Wi o R B)):=by rw [show o=6 by simpa using hb68];exact ZhH R B hRm hBm);rw [hjo] at hj;refine Ze ?_;((refine yL 70 (Zu 6 Y4) fun v70 h=>?_;cases h)<;>(refine yL 71 (Zu 9 Y4) fun v71 h=>?_;cases h)<;>(refine cP 72 (cA (call99) hj) (fun va72 vb72 hva72 hvb72=>?_) (hsh:=s5.t G);cases hvb72)<;>refine xL 69 Zb (xL 73 Zk (xL 74 Zk ?_))<;>refine ZD 6 Y4 ?_<;>refine xL 7 Za ?_<;>refine Zi ?_)
 (refine xL 50 Zb (xL 51 ZH (xL 8 Za ?_))<;>refine Zc ?_)
 refine Zm (
  ⟨(i+1,(t0,t1,t2,t3,t4),G),by dsimp only;omega,Zf hx,hT⟩
  ) (by dsimp only;omega) ⟨rfl,rfl,rfl,rfl,rfl,rfl,rfl,trivial⟩ ⟨rfl,rfl,rfl,trivial⟩)
 · first|exact bN hb68|(
 have hj:AF prog 100 [pInt o,ZN R,ZN B] (· =resW (Wi o R B)):=by
  (have h6:¬o=6:=by simpa using hb68);have h3:o=3∨o=4∨o=5:=oM;clear hjo hT hR;rcases h3 with rfl|rfl|rfl
  · exact Zdw R B oM oM
  · exact Zdx R B oM oM
  · exact Zdy R B oM oM
 rw [hjo] at hj;refine Ze ?_;(refine xL 76 (Zd 2 W1) ?_<;>(refine yL 77 (Zj 2 JU) fun v77 h=>?_;cases h)<;>(refine yL 78 (Zu 6 Y4) fun v78 h=>?_;cases h)<;>(refine yL 79 (Zu 9 Y4) fun v79 h=>?_;cases h)<;>(refine cP 80 (cA (call100) hj) (fun va80 vb80 hva80 hvb80=>?_) (hsh:=s5.t G);cases hvb80)<;>refine xL 75 Zb (xL 81 Zk (xL 82 Zk ?_))<;>refine ZD 6 Y4 ?_<;>refine xL 7 Za ?_<;>refine Zi ?_)
 (refine xL 50 Zb (xL 51 ZH (xL 8 Za ?_))<;>refine Zc ?_)
 refine Zm (
  ⟨(i+1,(t0,t1,t2,t3,t4),G),by dsimp only;omega,Zf hx,hT⟩
  ) (by dsimp only;omega) ⟨rfl,rfl,rfl,rfl,rfl,rfl,rfl,trivial⟩ ⟨rfl,rfl,rfl,trivial⟩)))
 · first|exact bN hb49|(
 refine Ze ?_;(refine xL 83 Zb (xL 84 Yx ?_)<;>refine Zc ?_)
 refine cX ?_ ?_<;>intro hb84
 · first|exact bN hb84|(
 obtain ⟨hn,rfl⟩:=hR.no hb84;rw [Cc hi1 oM hn];refine Ze ?_;(refine xL 85 (ZM ζ9) (xL 86 Zb ?_)<;>refine ZD 4 Y4 ?_<;>refine xL 5 Za ?_<;>refine Zc ?_)
 exact Z2 (k:=5) 4 kR (results56) rfl rfl rfl (Xa rfl) dC rfl rfl)
 · first|exact bN hb84|(
 have hil:l.length≤i:=by first|omega|exact UT (by simpa using hb84) hb49
 have hR2:=hR.eq;rw [Xk hil] at hR2;rw [hR2];obtain ⟨R,hRe,rfl,rfl,rfl,rfl,rfl,rfl⟩:=hR.yes (by simpa using hb84);refine Ze ?_;((refine yL 87 (Zu 6 Y4) fun v87 h=>?_;cases h)<;>refine ZD 4 Y4 ?_<;>refine xL 5 Za ?_<;>refine Zc ?_)
 exact Z2 (k:=5) 4 kR (results56) rfl rfl rfl (Xa rfl) dC rfl rfl)))
theorem Ze6 (acts:List ByteArray) (hm:acts.length≤40):∀t:Nd,okT t=true→szT t≤1000→(∀s∈YI t,s∈acts)→AF prog 56 [pTr t,Yv acts] (· =resW (lim (bldT acts t))):=Nd.ind fun o a l ih hok hsz ha=>by
 have e0:pTr (.mk o a l)= .agg [pInt o,Yq a,YZ l]:=rfl
 rw [e0]
 obtain ⟨hr,hp⟩:=K1.1 hok
 have hops:=S0 hr
 simp only [Nd.op,Nd.l] at hops hp
 rw [szT] at hsz
 have hlz:=Tw l
 have hpa:∀x∈l,o≠1→∀s∈YI x,s∈acts:=fun x hx h1 s hs=>ha s (by rw [YI,UR h1];exact Sg.2 ⟨x,hx,hs⟩)
 have hih:o≠1→∀x∈l,AF prog 56 [pTr x,Yv acts] (· =resW (lim (bldT acts x))):=fun h1 x hx=>ih x hx (hp x hx) (by have:=Gi hx;omega) (hpa x hx h1)
 have hbo:o≠1→∀x∈l,BldOk acts.length (bldT acts x):=fun h1 x hx=>ZeU hm x (hpa x hx h1)
 by_cases h1:o=1
 · subst h1;have hmem:a∈acts:=ha a (by rw [YI,US rfl];exact Xm ..);obtain ⟨i,h2,h3,_⟩:=Ti hmem;have hi:=Zf h3;have hM:=Gy (m:=acts.length) (P' hm (k:=Y0 acts a) (by rw [h2];omega)) rfl;have hl:l=[]:=by unfold rightT at hr;simp [Nd.op,Nd.l] at hr;exact hr.1
   subst hl;have hb:bldT acts (.mk 1 a [])=okO (Jd (GJ acts.length (Y0 acts a))):=by rw [bldT,US rfl];rfl
   rw [hb,←hM.lim];exact Zba acts a
 by_cases h2:o=2
 · subst h2;have hM:=Gy (m:=acts.length) (ES hm) rfl;have hl:l=[]:=by unfold rightT at hr;simp [Nd.op,Nd.l] at hr;exact hr.1
   subst hl;have hb:bldT acts (.mk 2 a [])=okO (Jd (Rz acts.length)):=by rw [bldT,UR dC,US rfl]
   rw [hb,←hM.lim];exact Zbb acts a
 rw [ZeR acts o a l h1 h2]
 by_cases h6:o=6
 · subst h6;obtain ⟨x,y,hxy⟩:=OU hr;exact Oi 6 oM acts a x [y] l hxy oM (hih h1) (hbo h1)
 have ho:o=3∨o=4∨o=5:=oM
 obtain ⟨x,m,hxm⟩:=EW ho hr
 exact Oi o oM acts a x m l hxm oM (hih h1) (hbo h1)
def GF (acts:List ByteArray) (l:List ByteArray):Bool:= !(l.any fun s=>decide (Y0 acts s<0))
theorem O5 (acts:List ByteArray) (s:ByteArray) (l:List ByteArray):GF acts (s::l)=(decide (0≤Y0 acts s)&&GF acts l):=by
 unfold GF
 rw [VP,Bool.not_or]
 congr 1
 by_cases h:Y0 acts s<0
 · rw [UP h,UQ oM];rfl
 · rw [UQ h,UP oM];rfl
theorem Zdz (acts l m:List ByteArray):GF acts (l++m)=(GF acts l&&GF acts m):=by
 unfold GF
 rw [Ug,Bool.not_or]
theorem ZoM (acts:List ByteArray) (l:List Nd):GF acts (JV l)= !(l.any fun x=> !GF acts (YI x)):=by
 induction l with
 |nil=>rfl
 |cons x l ih=>rw [JV,Zdz,ih,VP,Bool.not_or,Bool.not_not]
theorem ZdA (f:Nat) (caps:List PV) (p:Nd→Bool) (l:List Nd) (hl:l.length≤140737488355328) (hc:∀args w,(callFunc f args).run prog w= .ok (.enter f args) w) (hf:∀s∈l,AF prog f (pTr s::caps) (· =ZK (p s))):AF prog 93 [YZ l, .fn f caps] (· =pInt (idx p l)):=by
 refine AF.of_body 19 func93 rfl ntmps93 (Xa rfl) ?_
 intro w0 M0 vs hl hv
 obtain ⟨v0,v1,rfl⟩:=YG hl
 clear hl hv
 refine Ze ?_
 (refine xL 4 Za ?_<;>refine Zi ?_)
 (refine xL 6 Zb (xL 7 (ZR Gg) (xL 8 Zb ?_))<;>refine Zc ?_)
 refine ZB (ι:={k:Nat//k≤l.length∧∀i y,i<k→l[i]? =some y→p y=false}) (fun k=>⟨[(0,_,_),(1,_,_),(7,_,_),(8, .int .i64 k.1,pInt k.1)],[]⟩) (fun k=>l.length-k.1) ⟨0,oM,oM⟩ (fun a w H=>H.weaken ⟨rfl,rfl,rfl,rfl,trivial⟩ trivial) ?_
 rintro ⟨k,hk,hp⟩
 dsimp only
 refine Ze ?_
 (refine xL 9 ZP ?_<;>refine Zc ?_)
 refine cX ?_ ?_<;>intro hb9
 · first |exact bN hb9|(
 obtain ⟨x,hx⟩:=Zq (show k<l.length by omega);have e1:=Kp hx;have e2:=Jo hx;refine Ze ?_;(refine xL 10 Zb (xL 5 Za ?_)<;>refine Zi ?_)
 (refine xL 11 Zb (xL 12 Zb (xL 13 Zb (xL 14 (ZI Gg) ?_)))<;>(refine yL 15 (Y' Lk) fun v15 h=>?_;cases h)<;>(refine cS 16 (JX (f:=f) (ps:=caps) rfl ⟨_,rfl⟩ hc rfl (hf x (Xb hx))) fun v16 h=>?_;cases h)<;>refine Zc ?_)
 refine cX ?_ ?_<;>intro hb16
 · first|exact bN hb16|(
 refine Ze ?_;(refine xL 17 Zb (xL 4 Za ?_)<;>refine Zc ?_)
 refine Zy (results93) rfl ?_;rw [Gl hp hx hb16])
 · first|exact bN hb16|(
 refine Ze ?_;(refine xL 18 ZH (xL 8 Zb ?_)<;>refine Zc ?_)
 refine Zm (
  ⟨k+1,oM,fun i y hi hy=>by
   by_cases e:i=k
   · subst e;rw [hx] at hy;cases hy;exact hb16
   · exact hp i y oM hy⟩
  ) (by dsimp only;omega) ⟨rfl,rfl,rfl,rfl,trivial⟩ trivial))
 · first|exact bN hb9|(
 refine Ze ?_;(refine xL 4 Za ?_<;>refine Zc ?_)
 refine Zy (results93) rfl ?_;rw [Gm fun i y hi hy=>hp i y oM hy])
theorem Ce (f:Nat) (caps:List PV) (p:Nd→Bool) (l:List Nd) (hl:l.length≤140737488355328) (hc:∀args w,(callFunc f args).run prog w= .ok (.enter f args) w) (hf:∀s∈l,AF prog f (pTr s::caps) (· =ZK (p s))):AF prog 45 [YZ l, .fn f caps] (· =ZK (l.any p)):=by
 refine AF.of_body 9 func45 rfl ntmps45 (Xa rfl) ?_
 intro w0 M0 vs hl hv
 obtain ⟨v0,v1,rfl⟩:=YG hl
 clear hl hv
 refine Ze ?_
 (refine xL 4 Za ?_<;>refine Zi ?_)
 (refine xL 5 Zb (xL 6 Zb ?_)<;>(refine cS 7 (cA call93 (ZdA f caps p l hl hc hf)) fun v7 h=>?_;cases h)<;>refine xL 8 Y9 (xL 4 Za ?_)<;>refine Zc ?_)
 refine Zy (results45) rfl ?_
 rw [D2]
theorem ZdB (x:Nd) (acts:List ByteArray) (h:AF prog 62 [pTr x,Yv acts] (· =ZK (GF acts (YI x)))):AF prog 104 [pTr x, .sptr 0 [Yv acts]] (· =ZK (!GF acts (YI x))):=by
 have e0:pTr x= .agg [pInt x.op,Yq x.act,YZ x.l]:=rfl
 rw [e0] at h ⊢
 refine AF.of_body 8 func104 rfl ntmps104 (Xa rfl) ?_
 intro w0 M0 vs hl hv
 obtain ⟨v0,v1,rfl⟩:=YG hl
 clear hl hv
 refine Ze ?_
 (refine ZC 2 3 fun h2=>?_<;>refine xL 3 Za ?_<;>refine Zi ?_)
 ((refine yL 4 (Zu 2 Lk) fun v4 h=>?_;cases h)<;>(refine yL 5 (Ya ζ7) fun v5 h=>?_;cases h)<;>(refine cS 6 (cA call62 (h)) fun v6 h=>?_;cases h)<;>refine xL 7 Z8 (xL 3 Za ?_)<;>refine Zc ?_)
 exact Zy results104 rfl rfl
theorem Ze7 (acts:List ByteArray):∀t:Nd,okT t=true→szT t≤1000→AF prog 62 [pTr t,Yv acts] (· =ZK (GF acts (YI t))):=Nd.ind fun o a l ih hok hsz=>by
 have e0:pTr (.mk o a l)= .agg [pInt o,Yq a,YZ l]:=rfl
 rw [e0]
 obtain ⟨hr,hp⟩:=K1.1 hok
 rw [szT] at hsz
 have hlz:=Tw l
 refine AF.of_body 18 func62 rfl ntmps62 (Xa rfl) ?_
 intro w0 M0 vs hl hv
 obtain ⟨v0,v1,rfl⟩:=YG hl
 clear hl hv
 refine Ze ?_
 (refine ZC 2 3 fun h2=>?_<;>refine Zfj 3 fun h3=>?_<;>refine xL 4 Za ?_<;>refine Zi ?_)
 (refine xL 5 (Zd 2 W1) ?_<;>(refine yL 6 (Zj 2 JU) fun v6 h=>?_;cases h)<;>refine xL 7 Yd ?_<;>refine Zc ?_)
 refine cX ?_ ?_<;>intro hb7
 · first|exact bN hb7|(
 refine Ze ?_;((refine yL 8 (Zj 3 ζ7) fun v8 h=>?_;cases h)<;>refine xL 9 (Zd 2 SV) ?_<;>(refine yL 10 (Zj 2 E') fun v10 h=>?_;cases h)<;>(refine cS 11 (cA call67 (ζX acts a)) fun v11 h=>?_;cases h)<;>refine xL 12 Y9 (xL 4 Za ?_)<;>refine Zc ?_)
 refine Zy (results62) rfl ?_;rw [Zdj hr hb7,O5];show _=ZK (_&&true);rw [XE])
 · first|exact bN hb7|(
 refine Zs (Px (l:=3) (t:=3) (j:=0) rfl Nat.one_pos rfl) fun _=>?_;refine Ze ?_;(refine xL 13 (Zd 2 JG) ?_<;>(refine yL 14 (Zj 2 GY) fun v14 h=>?_;cases h)<;>refine xL 15 Zaj ?_<;>(refine cS 16 (cA call45 (Ce 104 [.sptr 0 [Yv acts]] (fun x=> !GF acts (YI x)) l oM (call104) (fun x hx=>ZdB x acts (ih x hx (hp x hx) (by have:=Gi hx;omega))))) fun v16 h=>?_;cases h)<;>refine xL 17 Z8 (xL 4 Za ?_)<;>refine Zc ?_)
 refine Zy (results62) rfl ?_;rw [show YI (.mk o a l)=JV l by rw [YI,UR hb7],ZoM])
theorem ZdC (acts:List ByteArray):∀t:Nd,okT t=true→szT t≤1000→AF prog 64 [pTr t,Yv acts] (· =ZK (GF acts (YI t))):=Nd.ind fun o a l ih hok hsz=>by
 have e0:pTr (.mk o a l)= .agg [pInt o,Yq a,YZ l]:=rfl
 rw [e0]
 obtain ⟨hr,hp⟩:=K1.1 hok
 rw [szT] at hsz
 have hlz:=Tw l
 refine AF.of_body 31 func64 rfl ntmps64 (Xa rfl) ?_
 intro w0 M0 vs hl hv
 obtain ⟨v0,v1,rfl⟩:=YG hl
 clear hl hv
 refine Ze ?_
 (refine ZC 2 3 fun h2=>?_<;>refine xL 4 Za ?_<;>refine Zi ?_)
 (refine xL 6 (Zd 2 W1) ?_<;>(refine yL 7 (Zj 2 JU) fun v7 h=>?_;cases h)<;>refine xL 8 Yd (xL 9 Zb ?_)<;>(refine bLd 9 (fun hb9=>?_) (fun hb9=>?_)<;>(first|refine kL 10 ?_|refine xL 10 Zb ?_))<;>(first|refine kL 11 ?_|refine xL 11 (Zd 2 SV) ?_)<;>(first|refine kL 12 ?_|(refine yL 12 (Zj 2 E') fun v12 h=>?_;cases h))<;>(first|refine kL 13 ?_|(refine cS 13 (cA call22 (Zbx acts a)) fun v13 h=>?_;cases h))<;>(first|refine kL 14 ?_|refine xL 14 ZP ?_)<;>refine xL 15 ZG ?_<;>refine Zc ?_)<;>(
 refine cX ?_ ?_<;>intro hb15
 · first|exact bN hb15|(
 (have ho:o=1:=by simpa using hb9);have hneg:Y0 acts a<0:=hb15;refine Ze ?_;(refine xL 4 Za ?_<;>refine Zc ?_)
 refine Zy (results64) rfl ?_;rw [Zdj hr ho,O5,UQ oM];rfl)
 · first | exact bN hb15|(
 have hfst:o=1→0≤Y0 acts a:=fun h=>by first|exact UT h (by simpa using hb9)|(have h2:¬Y0 acts a<0:=hb15;omega)
 refine Ze ?_;(refine xL 5 Za ?_<;>refine Zc ?_)
 refine ZB (ι:={k:Nat//k≤l.length∧GF acts (JV (l.take k))=true}) (fun k=>⟨[(1,_,_),(2,_,_),(5, .int .i64 k.1,pInt k.1)],[(2,_,_)]⟩) (fun k=>l.length-k.1) ⟨0,Xd _,rfl⟩ (fun a w H=>H.weaken ⟨rfl,rfl,rfl,trivial⟩ ⟨rfl,trivial⟩) ?_;rintro ⟨i,hi,hw⟩;dsimp only;refine Ze ?_;(refine xL 16 Zb (xL 17 (Zd 2 JG) ?_)<;>(refine yL 18 (Zj 2 GY) fun v18 h=>?_;cases h)<;>refine xL 19 (ZR Gg) (xL 20 ZP ?_)<;>refine Zc ?_)
 refine cX ?_ ?_<;>intro hb20
 · first |exact bN hb20|(
 obtain ⟨x,hx⟩:=Zq (show i<l.length by omega);have e1:((Ll l).drop (i*3)).take 3=[pInt x.op,Yq x.act,YZ x.l]:=Kp hx;have e2:=Jo hx;have hxm:=Xb hx;have hne:o≠1:=fun h=>by
  subst h;unfold rightT at hr;simp [Nd.op,Nd.l] at hr;rw [hr.1] at hx;simp at hx
 refine Ze ?_;(refine xL 23 (Zd 2 JG) ?_<;>(refine yL 24 (Zj 2 GY) fun v24 h=>?_;cases h)<;>refine xL 25 Zb (xL 26 (ZI Gg) ?_)<;>(refine yL 27 (Y' Lk) fun v27 h=>?_;cases h)<;>refine xL 28 Zb ?_<;>(refine cS 29 (cA call64 (ih x hxm (hp x hxm) (by have:=Gi hxm;omega))) fun v29 h=>?_;cases h)<;>refine xL 30 Z8 ?_<;>refine Zc ?_)
 refine cX ?_ ?_<;>intro hb30
 · first|exact bN hb30|(
 refine Ze ?_;(refine xL 4 Za ?_<;>refine Zc ?_)
 refine Zy (results64) rfl ?_;rw [show YI (.mk o a l)=JV l by rw [YI,UR hne],ZoM,VS.2 ⟨x,hxm,hb30⟩];rfl)
 · first|exact bN hb30|(
 refine Ze ?_;(refine xL 21 Zb (xL 22 ZH (xL 5 Za ?_))<;>refine Zc ?_)
 refine Zm (
  ⟨i+1,Zf hx,by rw [LX hx,Zdz,hw];simpa using hb30⟩
  ) (by dsimp only;omega) ⟨rfl,rfl,rfl,trivial⟩ ⟨rfl,trivial⟩))
 · first|exact bN hb20|(
 refine Ze ?_;(refine xL 4 Za ?_<;>refine Zc ?_)
 refine Zy (results64) rfl ?_;rw [Xk (show l.length≤i by omega)] at hw;by_cases h1:o=1
 · rw [YI,US h1,O5,hw,UP (hfst h1)];rfl
 · rw [YI,UR h1,hw])))
end Go.Proofs.YtgfabnhpllkebaaGreatDoor
