/-
  Walks of functions and plain laws of the chapter, as the claim needs them.
-/
import Derived.Test.YtgfabnhpllkebaaGreatDoorPz10
import Derived.Test.YtgfabnhpllkebaaGreatDoorPz13
import Derived.Test.YtgfabnhpllkebaaGreatDoorPz04
import Derived.Test.YtgfabnhpllkebaaGreatDoorPz01
namespace Go.Proofs.YtgfabnhpllkebaaGreatDoor
open Go.RowKit Go.Cb Go.En Tryz
set_option linter.all false
set_option maxRecDepth 100000
theorem Wd:AggT prog 24 3=true:=by kernel_rfl
theorem Zgc:ElT prog 27 9 1 16 (.string ByteArray.empty):=⟨underlying27,by kernel_rfl,rfl,dC⟩
theorem WG:FldT prog 24 0 0=true:=by kernel_rfl
theorem Zb2:FldT prog 24 1 1=true:=by kernel_rfl
theorem Yr:FldT prog 24 2 2=true:=by kernel_rfl
theorem YW:NoAgg prog 22=true:=by kernel_rfl
theorem Je:NoAgg prog 3=true:=by kernel_rfl
theorem ZiY:NoAgg prog 9=true:=by kernel_rfl
theorem YX:SlT prog 22 24 3=true:=by kernel_rfl
theorem ζP {last:Bool}:∀{l:List Nd},(∀x∈l,(edgT last x).length≤szT x)→((l.map fun x=>(nulT x,edgT last x)).flatMap (·.2)).length≤szL l
 |[],_=>sM
 | x::l,h=>by
   have h1:=h x (Xi ..);have h2:=ζP (l:=l) fun y hy=>h y (Xn _ hy);rw [Xp,Xu,Xb,szL];dsimp only at h1 ⊢;omega
theorem ζQ:∀m:List (Bool×List ByteArray),(seqE m).length≤(m.flatMap (·.2)).length
 |[]=>Xj _
 | (b,e)::m=>by
   have h1:=ζQ m;show (e++(if b=true then seqE m else [])).length≤_;rw [Xu,Xb,Xb]
   cases b
   · simp
   · rw [UT rfl];dsimp only;omega
theorem Zk6:∀m:List (Bool×List ByteArray),(Ci m).length≤(m.flatMap (·.2)).length
 |[]=>Xj _
 |[(b,e)]=>Xf _
 | (b,e)::(b2,e2)::m=>by
   show (e++(if b=true then e2 else [])).length≤_;rw [Xu,Xu,Xb,Xb,Xb]
   cases b
   · simp
   · rw [UT rfl];dsimp only;omega
theorem TV (last:Bool):∀t:Nd,(edgT last t).length≤szT t:=Nd.ind fun o a l ih=>by
 have h1:=ζP ih
 rw [Hx,szT]
 unfold opE
 split
 · simp
 split
 · simp
 split
 · have:=Zk6 (l.map fun x=>(nulT x,edgT last x));omega
 split
 · cases last
   · have:=ζQ (l.map fun x=>(nulT x,edgT false x));rw [US dC];omega
   · have:=ζQ (l.map fun x=>(nulT x,edgT true x)).reverse;rw [UT rfl];have h2:((l.map fun x=>(nulT x,edgT true x)).reverse.flatMap (·.2)).length=((l.map fun x=>(nulT x,edgT true x)).flatMap (·.2)).length:=((List.reverse_perm _).flatMap_right _).length_eq;omega
 · omega
set_option maxHeartbeats 2000000 in
theorem CI : ∀ (t : Nd),okT t=true→szT t≤1000000→AF prog 32 [pTr t] (· =ZM (nulT t)):=Nd.ind fun o a l ih hok hs=>by
 have hsz:szT (.mk o a l)=1+szL l:=by rw [szT]
 have hll:=TO l
 have hps:∀y∈l,szT y≤1000000:=fun y hy=>by have:=KJ hy;omega
 have ea:pTr (.mk o a l)= .agg [pInt o,Z' a,Wb l]:=rfl
 have hcat:=T' (Wx.1 hok).1
 have hpo:∀y∈l,okT y=true:=fun y hy=>(Wx.1 hok).2 y hy
 have hm:=Zig o a l
 generalize nulT (.mk o a l)=R at hm ⊢
 rw [ea]
 refine AF.of_body 40 func32 rfl ntmps32 (Xa rfl) ?_
 intro w0 M0 vs hl hv
 obtain ⟨v0,rfl⟩:=WL hl
 clear hl hv
 refine Ze ?_
 (refine ZG 1 3 fun h1=>?_<;>refine xL 2 Za ?_<;>refine Zg ?_)
 (refine xL 4 (Zd 1 WG) ?_<;>(refine yL 5 (Zk 1 Je) fun v5 h=>?_;cases h)<;>refine Zg ?_)
 (refine xL 7 Z3 (xL 6 Za ?_)<;>refine Zc ?_)
 refine cX ?_ ?_<;>intro hb6
 · first|exact bN hb6|(
 (have ho:o=2:=by simpa using hb6);rw [UT ho] at hm;subst hm;refine Ze ?_;(refine xL 2 Za ?_<;>refine Zc ?_)
 exact Zv results32 rfl rfl)
 · first | exact bN hb6|(
 refine Ze ?_;(refine xL 9 Z3 (xL 8 Za ?_)<;>refine Zc ?_)
 refine cX ?_ ?_<;>intro hb8
 · first|exact bN hb8|(
 (have ho:o=1:=by simpa using hb8);rw [US oM,UT ho] at hm;subst hm;refine Ze ?_;(refine xL 2 Za ?_<;>refine Zc ?_)
 exact Zv results32 rfl rfl)
 · first | exact bN hb8|(
 refine Ze ?_;(refine xL 11 Z3 (xL 10 Za ?_)<;>refine Zc ?_)
 refine cX ?_ ?_<;>intro hb10
 · first|exact bN hb10|(
 (have ho:o=6:=by simpa using hb10);have hl2:=hcat.2.2.1 ho;obtain ⟨x0,hx0⟩:=Zp (show 0<l.length by omega);have e1:((K0 l).drop (0*3)).take 3=[pInt x0.op,Z' x0.act,Wb x0.l]:=Wh hx0;have e2:=W0 hx0;have hR:R=nulT x0:=by
  rw [hm,US oM,US oM,UT ho]
  cases l with
  |nil=>cases hx0
  |cons y l=>cases hx0;rfl
 subst hR;refine Ze ?_;(refine xL 12 (Zd 1 Yr) ?_<;>(refine yL 13 (Zk 1 YW) fun v13 h=>?_;cases h)<;>refine xL 14 (ZF YX) ?_<;>(refine yL 15 (YI Wd) fun v15 h=>?_;cases h)<;>(refine cS 16 (cA call32 (ih x0 (Xc hx0) (hpo x0 (Xc hx0)) (hps x0 (Xc hx0)))) fun v16 h=>?_;cases h)<;>refine xL 2 Za ?_<;>refine Zc ?_)
 exact Zv results32 rfl rfl)
 · first | exact bN hb10|(
 refine Ze ?_;(refine xL 3 Za ?_<;>refine Zc ?_)
 refine ZD (ι:={i:Nat//i≤l.length∧∀j x,j<i→l[j]? =some x→nulT x= !decide (o=4)}) (fun k=>⟨[(1,_,_),(3, .int .i64 k.1,pInt k.1)],[(1,_,_)]⟩) (fun k=>l.length-k.1) ⟨0,Xf _,fun j x h=>oM⟩ (fun a w H=>H.weaken ⟨rfl,rfl,trivial⟩ ⟨rfl,trivial⟩) ?_;rintro ⟨i,hi,hall⟩;dsimp only;refine Ze ?_;(refine xL 17 Zb (xL 18 (Zd 1 Yr) ?_)<;>(refine yL 19 (Zk 1 YW) fun v19 h=>?_;cases h)<;>refine xL 20 (ZR YX) (xL 21 ZQ ?_)<;>refine Zc ?_)
 refine cX ?_ ?_<;>intro hb21
 · first | exact bN hb21|(
 obtain ⟨x,hx⟩:=Zp (show i<l.length by omega);have e1:((K0 l).drop (i*3)).take 3=[pInt x.op,Z' x.act,Wb x.l]:=Wh hx;have e2:=W0 hx;refine nav ?_;(refine Z5 (fun i=>([]:List Nat).elem i) [1] kR ?_<;>refine xD 0 24 rfl (Zd 1 Yr) ?_<;>(refine yD 1 25 rfl (Zk 1 YW) fun v25 h=>?_;cases h)<;>refine xD 2 26 rfl Zb ?_<;>refine xD 3 27 rfl (ZF YX) ?_<;>(refine yD 4 28 rfl (YI Wd) fun v28 h=>?_;cases h)<;>refine xD 6 30 rfl (Zd 1 WG) ?_<;>(refine yD 7 31 rfl (Zk 1 Je) fun v31 h=>?_;cases h)<;>refine xD 8 32 rfl Z3 ?_<;>(refine Zq 5 kR ?_)<;>(refine WE (d:=29) rfl (cA call32 (ih x (Xc hx) (hpo x (Xc hx)) (hps x (Xc hx)))) fun v29 h=>?_;cases h)<;>refine xE 9 33 rfl (Zgr underlying4) ?_<;>refine YC kR (nav ?_)<;>try dsimp only)
 refine cX ?_ ?_<;>intro hb33
 · first|exact bN hb33|(
 have hR:R=decide (o=4):=by
  (have h9:nulT x=decide (o=4):=by simpa using hb33);rw [hm,US (by simpa using hb6),US (by simpa using hb8),US (by simpa using hb10)];by_cases h4:o=4
  · rw [UT h4,UQ h4];exact VW.2 ⟨_,Xg.2 ⟨x,Xc hx,rfl⟩,by rw [h9,UQ h4];rfl⟩
  · rw [US h4,UR h4];refine Ux.2 fun h=>?_;have:=XB.1 h _ (Xg.2 ⟨x,Xc hx,rfl⟩);rw [h9,UR h4] at this;cases this
 subst hR;refine Ze ?_;(refine xL 34 (Zd 1 WG) ?_<;>(refine yL 35 (Zk 1 Je) fun v35 h=>?_;cases h)<;>refine xL 36 Z3 (xL 2 Za ?_)<;>refine Zc ?_)
 exact Zv results32 rfl rfl)
 · first |exact bN hb33|(
 refine Ze ?_;(refine xL 22 Zb (xL 23 ZH (xL 3 Za ?_))<;>refine Zc ?_)
 refine Zn (
  ⟨i +1,Zf hx,fun j y hj hy=>by
   rcases XF j i with h|h
   · exact hall j y h hy
   · obtain rfl:j=i:=oM;rw [hx] at hy;cases hy;have h9:¬nulT x=decide (o=4):=by simpa using hb33
     cases h10:nulT x<;>rw [h10] at h9<;>cases h11:decide (o=4)<;>rw [h11] at h9<;>simp at h9<;>rfl⟩
  ) (by dsimp only;omega) ⟨rfl,rfl,trivial⟩ ⟨rfl,trivial⟩))
 · first|exact bN hb21|(
 have hR:R=decide (o≠4):=by
  rw [hm,US (by simpa using hb6),US (by simpa using hb8),US (by simpa using hb10)];by_cases h4:o=4
  · rw [UT h4,UR (fun h=>h h4)];refine Ux.2 fun h=>?_;obtain ⟨b,hb,h⟩:=VW.1 h;obtain ⟨x,hx,rfl⟩:=Xg.1 hb;obtain ⟨j,hj⟩:=X4 hx;have:=hall j x (by have:=Zf hj;omega) hj;rw [UQ h4] at this;rw [this] at h;cases h
  · rw [US h4,UQ h4];refine XB.2 fun b hb=>?_;obtain ⟨x,hx,rfl⟩:=Xg.1 hb;obtain ⟨j,hj⟩:=X4 hx;have:=hall j x (by have:=Zf hj;omega) hj;rw [this,UR h4];rfl
 subst hR;refine Ze ?_;(refine xL 37 (Zd 1 WG) ?_<;>(refine yL 38 (Zk 1 Je) fun v38 h=>?_;cases h)<;>refine xL 39 YH (xL 2 Za ?_)<;>refine Zc ?_)
 exact Zv results32 rfl rfl))))
theorem Zej:∀(m:List Nd) (j:Nat) (k:Int),0≤k→k≤((m.take j).map shoT).foldl (· + ·) k∧((m.take j).map shoT).foldl (· + ·) k≤k+(szL m:Int)
 |[],j,k,hk=>by rw [szL];simp
 |x::m,0,k,hk=>by rw [XQ,szL];simp;omega
 | x::m,j+1,k,hk=>by
   have h1:=Py x;have:=Zej m j (k+shoT x) oM;rw [Uj,Xp,X',szL];omega
theorem Zek:∀(m:List Nd) (j:Nat) (k:Int),0≤k→0≤((m.take j).map shoT).foldl min k∧((m.take j).map shoT).foldl min k≤k
 |[],j,k,hk=>by simp;omega
 |x::m,0,k,hk=>by rw [XQ];simp;omega
 | x::m,j+1,k,hk=>by
   have h1:=Py x;have:=Zek m j (min k (shoT x)) oM;rw [Uj,Xp,X'];omega
theorem LG {β:Type} (g:β→Int→β) (z:β) {m:List Nd} {j:Nat} {x:Nd} (h:m[j]? =some x):((m.take (j+1)).map shoT).foldl g z=g (((m.take j).map shoT).foldl g z) (shoT x):=by rw [ZE h,Xr,Vn];rfl
set_option maxHeartbeats 2000000 in
theorem Zdm : ∀ (t : Nd),okT t=true→szT t≤1000000→AF prog 33 [pTr t] (· =pInt (shoT t)):=Nd.ind fun o a l ih hok hs=>by
 have hsz:szT (.mk o a l)=1+szL l:=by rw [szT]
 have hll:=TO l
 have hps:∀y∈l,szT y≤1000000:=fun y hy=>by have:=KJ hy;omega
 have ea:pTr (.mk o a l)= .agg [pInt o,Z' a,Wb l]:=rfl
 have hcat:=T' (Wx.1 hok).1
 have hpo:∀y∈l,okT y=true:=fun y hy=>(Wx.1 hok).2 y hy
 have hm:=Zc7 o a l
 generalize shoT (.mk o a l)=R at hm ⊢
 rw [ea]
 refine AF.of_body 48 func33 rfl ntmps33 (Xa rfl) ?_
 intro w0 M0 vs hl hv
 obtain ⟨v0,rfl⟩:=WL hl
 clear hl hv
 refine Ze ?_
 (refine ZG 1 3 fun h1=>?_<;>refine xL 2 Za ?_<;>refine Zg ?_)
 (refine xL 6 (Zd 1 WG) ?_<;>(refine yL 7 (Zk 1 Je) fun v7 h=>?_;cases h)<;>refine Zg ?_)
 (refine xL 9 Z3 (xL 8 Za ?_)<;>refine Zc ?_)
 refine cX ?_ ?_<;>intro hb8
 · first|exact bN hb8|(
 (have ho:o=2:=by simpa using hb8);rw [UT ho] at hm;subst hm;refine Ze ?_;(refine xL 2 Za ?_<;>refine Zc ?_)
 exact Zv results33 rfl rfl)
 · first | exact bN hb8|(
 refine Ze ?_;(refine xL 11 Z3 (xL 10 Za ?_)<;>refine Zc ?_)
 refine cX ?_ ?_<;>intro hb10
 · first|exact bN hb10|(
 (have ho:o=1:=by simpa using hb10);rw [US oM,UT ho] at hm;subst hm;refine Ze ?_;(refine xL 2 Za ?_<;>refine Zc ?_)
 exact Zv results33 rfl rfl)
 · first | exact bN hb10|(
 refine Ze ?_;(refine xL 13 Z3 (xL 12 Za ?_)<;>refine Zc ?_)
 refine cX ?_ ?_<;>intro hb12
 · first|exact bN hb12|(
 (have ho:o=6:=by simpa using hb12);have hl2:=hcat.2.2.1 ho;obtain ⟨x0,hx0⟩:=Zp (show 0<l.length by omega);have e1:((K0 l).drop (0*3)).take 3=[pInt x0.op,Z' x0.act,Wb x0.l]:=Wh hx0;have e2:=W0 hx0;have hR:R=shoT x0:=by
  rw [hm,US oM,US oM,UT ho]
  cases l with
  |nil=>cases hx0
  |cons y l=>cases hx0;rfl
 subst hR;refine Ze ?_;(refine xL 14 (Zd 1 Yr) ?_<;>(refine yL 15 (Zk 1 YW) fun v15 h=>?_;cases h)<;>refine xL 16 (ZF YX) ?_<;>(refine yL 17 (YI Wd) fun v17 h=>?_;cases h)<;>(refine cS 18 (cA call33 (ih x0 (Xc hx0) (hpo x0 (Xc hx0)) (hps x0 (Xc hx0)))) fun v18 h=>?_;cases h)<;>refine xL 2 Za ?_<;>refine Zc ?_)
 exact Zv results33 rfl rfl)
 · first | exact bN hb12|(
 refine nav ?_;have ho345:o=3∨o=4∨o=5:=by
  (have h1:¬o=2:=by simpa using hb8);(have h2:¬o=1:=by simpa using hb10);(have h3:¬o=6:=by simpa using hb12);omega
 obtain ⟨x0,l',rfl⟩:∃x0 l',l=x0::l':=by
  cases l with
  |nil=>exact UU rfl (hcat.2.1 ho345)
  |cons x0 l'=>exact ⟨x0,l',rfl⟩
 have hx0:(x0::l')[0]? =some x0:=rfl;have e1:((K0 (x0::l')).drop (0*3)).take 3=[pInt x0.op,Z' x0.act,Wb x0.l]:=Wh hx0;have e2:=W0 hx0;(refine Zt ?_<;>refine xL 19 (Zd 1 Yr) ?_<;>(refine yL 20 (Zk 1 YW) fun v20 h=>?_;cases h)<;>refine xL 21 (ZF YX) ?_<;>(refine yL 22 (YI Wd) fun v22 h=>?_;cases h)<;>(refine cS 23 (cA call33 (ih x0 (Xi ..) (hpo x0 (Xi ..)) (hps x0 (Xi ..)))) fun v23 h=>?_;cases h)<;>refine xL 3 Za ?_<;>refine Zg ?_)
 (refine xL 4 Za ?_<;>refine Zc ?_)
 refine ZD (ι:={q:Nat×Int//1≤q.1∧q.1≤l'.length+1∧(o=4→q.2=((l'.take (q.1-1)).map shoT).foldl min (shoT x0))∧(o≠4→q.2=((l'.take (q.1-1)).map shoT).foldl (· + ·) (shoT x0))}) (fun k=>⟨[(1,_,_),(3, .int .i64 k.1.2,pInt k.1.2),(4, .int .i64 k.1.1,pInt k.1.1)],[(1,_,_)]⟩) (fun k=>l'.length+1-k.1.1) ⟨(1,shoT x0),oM,oM,fun _=>rfl,fun _=>rfl⟩ (fun a w H=>H.weaken ⟨rfl,rfl,rfl,trivial⟩ ⟨rfl,trivial⟩) ?_;rintro ⟨⟨i,S⟩,hi1,hi2,h4,hn4⟩;dsimp only;dsimp only at hi1 hi2 h4 hn4;obtain ⟨j,rfl⟩:∃j,i=j+1:=⟨i-1,oM⟩;rw [VL] at h4 hn4;refine Ze ?_;(refine xL 24 Zb (xL 25 (Zd 1 Yr) ?_)<;>(refine yL 26 (Zk 1 YW) fun v26 h=>?_;cases h)<;>refine xL 27 (ZR YX) (xL 28 ZQ ?_)<;>refine Zc ?_)
 refine cX ?_ ?_<;>intro hb28
 · first | exact bN hb28|(
 obtain ⟨x,hx'⟩:=Zp (show j<l'.length by simp at hb28;omega);(have hx:(x0::l')[j+1]? =some x:=by rw [Vr];exact hx');have e3:((K0 (x0::l')).drop ((j+1)*3)).take 3=[pInt x.op,Z' x.act,Wb x.l]:=Wh hx;have e4:=W0 hx;have hxm:=Xc hx;have hxb:=Py x;have hx0b:=Py x0;(have hszl:szL (x0::l')=szT x0+szL l':=by rw [szL]);have hSb:0≤S∧S≤1000000:=by
  by_cases h:o=4
  · rw [h4 h];have:=Zek l' j (shoT x0) hx0b.1;omega
  · rw [hn4 h];have:=Zej l' j (shoT x0) hx0b.1;omega
 have hxz:=hps x hxm;have hjl:=Zf hx';refine Ze ?_;(refine xL 31 (Zd 1 Yr) ?_<;>(refine yL 32 (Zk 1 YW) fun v32 h=>?_;cases h)<;>refine xL 33 Zb (xL 34 (ZF YX) ?_)<;>(refine yL 35 (YI Wd) fun v35 h=>?_;cases h)<;>(refine cS 36 (cA call33 (ih x hxm (hpo x hxm) (hps x hxm))) fun v36 h=>?_;cases h)<;>refine xL 5 Za ?_<;>refine Zg ?_)
 (refine xL 37 (Zd 1 WG) ?_<;>(refine yL 38 (Zk 1 Je) fun v38 h=>?_;cases h)<;>refine xL 39 YH ?_<;>refine Zc ?_)
 refine cX ?_ ?_<;>intro hb39
 · first|exact bN hb39|(
 refine Ze ?_;(refine xL 40 Zb (xL 41 Zb (xL 42 ZH (xL 3 Za ?_)))<;>refine Zg ?_)
 (refine xL 29 Zb (xL 30 ZH (xL 4 Za ?_))<;>refine Zc ?_)
 refine Zn (
  ⟨(j+1+1,_),(by dsimp only;omega),(by dsimp only;omega),(fun ho=>by dsimp only;(rw [VL,LG min (shoT x0) hx',←h4 ho])<;>first|rfl|omega|(simp at hb39;omega)),(fun ho=>by dsimp only;(rw [VL,LG (· + ·) (shoT x0) hx',←hn4 ho])<;>first|rfl|(simp at hb39;omega))⟩
  ) (by dsimp only;omega) ⟨rfl,rfl,rfl,trivial⟩ ⟨rfl,trivial⟩)
 · first |exact bN hb39|(
 refine Ze ?_;(refine xL 43 Zb (xL 44 Zb (xL 45 ZQ ?_))<;>refine Zc ?_)
 refine cX ?_ ?_<;>intro hb45
 · first|exact bN hb45|(
 refine Ze ?_;(refine xL 46 Zb (xL 3 Za ?_)<;>refine Zg ?_)
 (refine xL 29 Zb (xL 30 ZH (xL 4 Za ?_))<;>refine Zc ?_)
 refine Zn (
  ⟨(j+1+1,_),(by dsimp only;omega),(by dsimp only;omega),(fun ho=>by dsimp only;(rw [VL,LG min (shoT x0) hx',←h4 ho])<;>first|rfl|omega|(simp at hb39;omega)),(fun ho=>by dsimp only;(rw [VL,LG (· + ·) (shoT x0) hx',←hn4 ho])<;>first|rfl|(simp at hb39;omega))⟩
  ) (by dsimp only;omega) ⟨rfl,rfl,rfl,trivial⟩ ⟨rfl,trivial⟩)
 · first|exact bN hb45|(
 refine Ze ?_;(refine xL 29 Zb (xL 30 ZH (xL 4 Za ?_))<;>refine Zc ?_)
 refine Zn (
  ⟨(j+1+1,_),(by dsimp only;omega),(by dsimp only;omega),(fun ho=>by dsimp only;(rw [VL,LG min (shoT x0) hx',←h4 ho])<;>first|rfl|omega|(simp at hb39;omega)),(fun ho=>by dsimp only;(rw [VL,LG (· + ·) (shoT x0) hx',←hn4 ho])<;>first|rfl|(simp at hb39;omega))⟩
  ) (by dsimp only;omega) ⟨rfl,rfl,rfl,trivial⟩ ⟨rfl,trivial⟩)))
 · first|exact bN hb28|(
 (have hj:l'.length≤j:=by simp at hb28;omega);rw [Xo hj] at h4 hn4;have hR:R=S:=by
  rw [hm,US oM,US oM,US oM];by_cases h:o=4
  · rw [UT h,h4 h];rfl
  · rw [US h,hn4 h];show List.foldl _ (0+shoT x0) _=_;rw [Int.zero_add]
 subst hR;refine Ze ?_;(refine xL 47 Zb (xL 2 Za ?_)<;>refine Zc ?_)
 exact Zv results33 rfl rfl))))
theorem ZiZ (s:ByteArray):canB [s]=[s]:=(RH (l:=[s]) (by unfold Sk;exact VI _ _) fun _=>Iff.rfl).symm
def LH (last:Bool) (l:List Nd):List (Bool×List ByteArray):=if last=true then (l.map fun x=>(nulT x,edgT last x)).reverse else l.map fun x=>(nulT x,edgT last x)
theorem Zi0 (last:Bool) (l:List Nd):(LH last l).length=l.length:=by unfold LH;split<;>simp
theorem Zi1 {l:List Nd} {k:Nat} {x:Nd} (h:l[k]? =some x):(LH false l)[k]? =some (nulT x,edgT false x):=by
 unfold LH;rw [US dC,Xm,h];rfl
theorem Zi2 {l:List Nd} {k:Nat} {x:Nd} (hk:k<l.length) (h:l[l.length-1-k]? =some x):(LH true l)[k]? =some (nulT x,edgT true x):=by
 unfold LH;rw [UT rfl,List.getElem?_reverse (by rw [Xd];exact hk),Xd,Xm,h];rfl
theorem Zi3 (last:Bool) (l:List Nd) (s:ByteArray):(∃p∈LH last l,s∈p.2)↔s∈(l.map fun x=>(nulT x,edgT last x)).flatMap (·.2):=by
 rw [XT]
 unfold LH
 split
 · simp only [List.mem_reverse]
 · exact Iff.rfl
theorem Zk7 (last:Bool) (l:List Nd) (k:Nat):(((LH last l).take k).flatMap (·.2)).length≤szL l:=by
 have h1:((LH last l).flatMap (·.2)).length≤szL l:=by
  have h2:=ζP (last:=last) (l:=l) fun x _=>TV last x;unfold LH;split
  · rw [((List.reverse_perm _).flatMap_right _).length_eq];exact h2
  · exact h2
 have h2:((LH last l).flatMap (·.2)).length=(((LH last l).take k).flatMap (·.2)).length+(((LH last l).drop k).flatMap (·.2)).length:=by
  rw [←Xb,←XR,Vy]
 omega
theorem Sf {E:List (Bool×List ByteArray)} {k:Nat} {b:Bool} {e:List ByteArray} (h:E[k]? =some (b,e)):canB ((E.take k).flatMap (·.2)++canB e)=canB ((E.take (k+1)).flatMap (·.2)):=GC fun s=>by
 rw [ZE h,XR,Xh,Xh,Ly];simp
theorem Zb3 {E:List (Bool×List ByteArray)} {k:Nat} {e:List ByteArray} (h:E[k]? =some (false,e)) (hall:∀p∈E.take k,p.1=true):canB ((E.take (k+1)).flatMap (·.2))=canB (seqE E):=GC fun s=>by
 have h1:E=E.take k++(false,e)::E.drop (k+1):=by
  obtain ⟨hk,he⟩:=XM.1 h;rw [←he,←VC hk,Vy]
 conv=>rhs;rw [h1,Pz hall]
 rw [ZE h,XR,Xh,XT];simp
theorem Zk8 {E:List (Bool×List ByteArray)} (hall:∀p∈E,p.1=true):canB (E.flatMap (·.2))=canB (seqE E):=GC fun s=>by rw [Hy hall,XT]
set_option maxHeartbeats 2000000 in
theorem CJ (last : Bool):∀(t:Nd),okT t=true→szT t≤10000→AF prog 34 [pTr t,ZM last] (· =Yj (canB (edgT last t))):=Nd.ind fun o a l ih hok hs=>by
 have hsz:szT (.mk o a l)=1+szL l:=by rw [szT]
 have hll:=TO l
 have hps:∀y∈l,szT y≤10000:=fun y hy=>by have:=KJ hy;omega
 have ea:pTr (.mk o a l)= .agg [pInt o,Z' a,Wb l]:=rfl
 have hcat:=T' (Wx.1 hok).1
 have hpo:∀y∈l,okT y=true:=fun y hy=>(Wx.1 hok).2 y hy
 have hN:∀y∈l,AF prog 32 [pTr y] (· =ZM (nulT y)):=fun y hy=>CI y (hpo y hy) (by have:=hps y hy;omega)
 have hm:=Hx last o a l
 have hel:=TV last (.mk o a l)
 generalize edgT last (.mk o a l)=R at hm hel ⊢
 unfold opE at hm
 rw [ea]
 refine AF.of_body 77 func34 rfl ntmps34 (Xa rfl) ?_
 intro w0 M0 vs hl hv
 obtain ⟨v0,v1,rfl⟩:=WO hl
 obtain rfl:=hv 1 _ _ rfl rfl
 clear hl hv
 refine Ze ?_
 (refine ZG 2 3 fun h2=>?_<;>refine xL 4 Za ?_<;>refine Zg ?_)
 (refine xL 9 (Zd 2 WG) ?_<;>(refine yL 10 (Zk 2 Je) fun v10 h=>?_;cases h)<;>refine Zg ?_)
 (refine xL 12 Z3 (xL 11 Za ?_)<;>refine Zc ?_)
 refine cX ?_ ?_<;>intro hb11
 · first|exact bN hb11|(
 (have ho:o=2:=by simpa using hb11);rw [UT ho] at hm;subst hm;refine Ze ?_;(refine xL 4 Za ?_<;>refine Zc ?_)
 refine YR (W1 (t:=4) rfl) fun _=>?_;rw [Zbw];exact Zv (results34) rfl rfl)
 · first | exact bN hb11|(
 refine Ze ?_;(refine xL 14 Z3 (xL 13 Za ?_)<;>refine Zc ?_)
 refine cX ?_ ?_<;>intro hb13
 · first|exact bN hb13|(
 (have ho:o=1:=by simpa using hb13);rw [US oM,UT ho] at hm;subst hm;refine Ze ?_;(refine xL 15 (Zd 2 Zb2) ?_<;>(refine yL 16 (Zk 2 ZiY) fun v16 h=>?_;cases h)<;>refine ZJ (kk:=1) 17 Zgc fun h17 ho17=>?_<;>refine xL 4 Za ?_<;>refine Zc ?_)
 refine YR (En.freeze (l:=17) (t:=4) rfl rfl) fun _=>?_;rw [show share (PV.own 9 1 1 [Z' a])=Yj (canB [a]) from (by rw [ZiZ];rfl)];exact Zv (results34) rfl rfl)
 · first | exact bN hb13|(
 refine Ze ?_;(refine xL 19 Z3 (xL 18 Za ?_)<;>refine Zc ?_)
 refine cX ?_ ?_<;>intro hb18
 · first | exact bN hb18|(
 (have ho:o=6:=by simpa using hb18);have hl2:=hcat.2.2.1 ho;obtain ⟨x0,x1,rfl⟩:∃x0 x1,l=[x0,x1]:=by
  match l,hl2 with
  |[x0,x1],_=>exact ⟨x0,x1,rfl⟩
 have e1:((K0 [x0,x1]).drop (0*3)).take 3=[pInt x0.op,Z' x0.act,Wb x0.l]:=Wh (l:=[x0,x1]) rfl;have e2:0*3+3≤(K0 [x0,x1]).length:=W0 (l:=[x0,x1]) (k:=0) rfl;have e3:((K0 [x0,x1]).drop (1*3)).take 3=[pInt x1.op,Z' x1.act,Wb x1.l]:=Wh (l:=[x0,x1]) rfl;have e4:1*3+3≤(K0 [x0,x1]).length:=W0 (l:=[x0,x1]) (k:=1) rfl;have m0:x0∈[x0,x1]:=sM;have m1:x1∈[x0,x1]:=sM;have b0:=TV last x0;have b1:=TV last x1;have b2:=TS (edgT last x1);have b3:=hps x0 m0;have b4:=hps x1 m1;have hR:R=edgT last x0++(if nulT x0=true then edgT last x1 else []):=by
  rw [hm,US oM,US oM,UT ho];rfl
 subst hR;refine Ze ?_;(refine xL 20 (Zd 2 Yr) ?_<;>(refine yL 21 (Zk 2 YW) fun v21 h=>?_;cases h)<;>refine xL 22 (ZF YX) ?_<;>(refine yL 23 (YI Wd) fun v23 h=>?_;cases h)<;>refine xL 24 Zb ?_<;>(refine cS 25 (cA call34 (ih x0 m0 (hpo x0 m0) (hps x0 m0))) fun v25 h=>?_;cases h)<;>refine xL 5 Za ?_<;>refine Zg ?_)
 (refine xL 26 (Zd 2 Yr) ?_<;>(refine yL 27 (Zk 2 YW) fun v27 h=>?_;cases h)<;>refine xL 28 (ZF YX) ?_<;>(refine yL 29 (YI Wd) fun v29 h=>?_;cases h)<;>(refine cS 30 (cA call32 (hN x0 m0)) fun v30 h=>?_;cases h)<;>refine Zc ?_)
 refine cX ?_ ?_<;>intro hb30
 · first |exact bN hb30|(
 refine Ze ?_;(refine xL 31 Zb (xL 32 (Zd 2 Yr) ?_)<;>(refine yL 33 (Zk 2 YW) fun v33 h=>?_;cases h)<;>refine xL 34 (ZF YX) ?_<;>(refine yL 35 (YI Wd) fun v35 h=>?_;cases h)<;>refine xL 36 Zb ?_<;>(refine cS 37 (cA call34 (ih x1 m1 (hpo x1 m1) (hps x1 m1))) fun v37 h=>?_;cases h)<;>(refine cS 38 (cA call55 (PI (edgT last x0) (canB (edgT last x1)) oM oM)) fun v38 h=>?_;cases h)<;>refine xL 5 Za ?_<;>refine Zg ?_)
 (refine xL 39 Zb (xL 4 Za ?_)<;>refine Zc ?_)
 first
  | (rw [show canB (edgT last x0++canB (edgT last x1))=canB (edgT last x0++(if nulT x0=true then edgT last x1 else [])) from GC fun s=>by rw [UT (by simpa using hb30),Xh,Xh,Ly]]
     exact Zv (results34) rfl rfl)
  | (rw [US (by simpa using hb30),Xy]
     exact Zv (results34) rfl rfl))
 · first |exact bN hb30|(
 refine Ze ?_;(refine xL 39 Zb (xL 4 Za ?_)<;>refine Zc ?_)
 first
  | (rw [show canB (edgT last x0++canB (edgT last x1))=canB (edgT last x0++(if nulT x0=true then edgT last x1 else [])) from GC fun s=>by rw [UT (by simpa using hb30),Xh,Xh,Ly]]
     exact Zv (results34) rfl rfl)
  | (rw [US (by simpa using hb30),Xy]
     exact Zv (results34) rfl rfl)))
 · first | exact bN hb18|(
 refine Ze ?_;(refine xL 6 Za ?_<;>refine Zg ?_)
 (refine xL 7 Za ?_<;>refine Zc ?_)
 refine Zx (W1 (t:=6) rfl) fun _=>?_;rw [show PV.sl 0 []=Yj (canB (((LH last l).take 0).flatMap (·.2))) from (by rw [XQ];show _=Yj (canB []);rw [Zbw];rfl)];refine ZD (ι:={q:Nat×Value//q.1≤l.length∧(o=3→∀p∈(LH last l).take q.1,p.1=true)}) (fun k=>⟨[(1,_,_),(2,_,_),(6,k.1.2,Yj (canB (((LH last l).take k.1.1).flatMap (·.2)))),(7, .int .i64 k.1.1,pInt k.1.1)],[(2,_,_)]⟩) (fun k=>l.length-k.1.1) ⟨(0, .slice none 0 0),Xf _,fun _ p h=>by simp at h⟩ (fun a w H=>H.weaken ⟨rfl,rfl,rfl,rfl,trivial⟩ ⟨rfl,trivial⟩) ?_;rintro ⟨⟨i,V⟩,hi,hall⟩;dsimp only;dsimp only at hi hall;have hbd:=Zk7 last l i;refine nav ?_;have ho345:o=3∨o=4∨o=5:=by
  (have h1:¬o=2:=by simpa using hb11);(have h2:¬o=1:=by simpa using hb13);(have h3:¬o=6:=by simpa using hb18);have h4:=hcat.2.2.2;omega
 rw [US oM,US oM,US oM] at hm;(refine Zt ?_<;>refine xL 40 Zb (xL 41 (Zd 2 Yr) ?_)<;>(refine yL 42 (Zk 2 YW) fun v42 h=>?_;cases h)<;>refine xL 43 (ZR YX) (xL 44 ZQ ?_)<;>refine Zc ?_)
 refine cX ?_ ?_<;>intro hb44
 · first | exact bN hb44|(
 have hil:i<l.length:=oM;refine Ze ?_;(refine xL 47 Zb (xL 8 Za ?_)<;>refine Zg ?_)
 (refine xL 48 Zb ?_<;>refine Zc ?_)
 refine cX ?_ ?_<;>intro hb48
 · first | exact bN hb48|(
 (obtain rfl:last=true:=by simpa using hb48);obtain ⟨x,hx⟩:=Zp (show l.length-1-i<l.length by omega);have e1:((K0 l).drop ((l.length-1-i)*3)).take 3=[pInt x.op,Z' x.act,Wb x.l]:=Wh hx;have e2:=W0 hx;have hxm:=Xc hx;have hE:=Zi2 hil hx;have hbx:=TV true x;have hcx:=TS (edgT true x);have hsx:=hps x hxm;have hB:=PI (((LH true l).take i).flatMap (·.2)) (canB (edgT true x)) oM oM;refine Ze ?_;(refine xL 49 (Zd 2 Yr) ?_<;>(refine yL 50 (Zk 2 YW) fun v50 h=>?_;cases h)<;>refine xL 51 (ZR YX) ?_<;>refine xL 52 ((ZgO (c:=((l.length-1:Nat):Int)))) ?_<;>refine xL 53 Zb ?_<;>refine xL 54 ((ZgO (c:=((l.length-1-i:Nat):Int)))) ?_<;>refine xL 8 Za ?_<;>refine Zg ?_)
 (refine xL 55 Zb (xL 56 (Zd 2 Yr) ?_)<;>(refine yL 57 (Zk 2 YW) fun v57 h=>?_;cases h)<;>refine xL 58 Zb (xL 59 (ZF YX) ?_)<;>(refine yL 60 (YI Wd) fun v60 h=>?_;cases h)<;>refine xL 61 Zb ?_<;>(refine cS 62 (cA call34 (ih x hxm (hpo x hxm) (hps x hxm))) fun v62 h=>?_;cases h)<;>(refine cS 63 (cA call55 (hB)) fun v63 h=>?_;cases h)<;>refine xL 6 Za ?_<;>refine Zg ?_)
 (refine xL 64 (Zd 2 WG) ?_<;>(refine yL 65 (Zk 2 Je) fun v65 h=>?_;cases h)<;>refine xL 66 Z3 (xL 67 Zb ?_)<;>(refine bLd 67 (fun hb67=>?_) (fun hb67=>?_)<;>(first|refine kL 68 ?_|refine xL 68 (Zd 2 Yr) ?_))<;>(first|refine kL 69 ?_|(refine yL 69 (Zk 2 YW) fun v69 h=>?_;cases h))<;>(first|refine kL 70 ?_|refine xL 70 Zb ?_)<;>(first|refine kL 71 ?_|refine xL 71 (ZF YX) ?_)<;>(first|refine kL 72 ?_|(refine yL 72 (YI Wd) fun v72 h=>?_;cases h))<;>(first|refine kL 73 ?_|(refine cS 73 (cA call32 (hN x hxm)) fun v73 h=>?_;cases h))<;>(first|refine kL 74 ?_|refine xL 74 Yg ?_)<;>refine xL 75 Zz ?_<;>refine Zc ?_)<;>(
 refine cX ?_ ?_<;>intro hb75
 · first|exact bN hb75|(
 (have ho3:o=3:=by simpa using hb67);(have hnx:nulT x=false:=by simpa using hb75);rw [hnx] at hE;have hfin:=(Sf hE).trans ((Zb3 hE (hall ho3)).trans (show _=canB R by rw [hm,UT ho3];rfl));rw [hfin];refine Ze ?_;(refine xL 76 Zb (xL 4 Za ?_)<;>refine Zc ?_)
 exact Zv results34 rfl rfl)
 · first|exact bN hb75|(
 refine Ze ?_;(refine xL 45 Zb (xL 46 ZH (xL 7 Za ?_))<;>refine Zc ?_)
 rw [Sf hE];refine Zn (
  ⟨(i+1,_),hil,fun ho=>by
    have hnx:nulT x=true:=by first|(simpa using hb75)|exact UU ho hb67|exact UU ho (by simpa using hb67)
    intro p hp;rw [ZE hE] at hp;rcases Xh.1 hp with hp|hp
    · exact hall ho p hp
    · rw [Xl] at hp;subst hp;exact hnx⟩
  ) (by dsimp only;omega) ⟨rfl,rfl,rfl,rfl,trivial⟩ ⟨rfl,trivial⟩)))
 · first | exact bN hb48|(
 (obtain rfl:last=false:=by simpa using hb48);obtain ⟨x,hx⟩:=Zp hil;have e1:((K0 l).drop (i*3)).take 3=[pInt x.op,Z' x.act,Wb x.l]:=Wh hx;have e2:=W0 hx;have hxm:=Xc hx;have hE:=Zi1 hx;have hbx:=TV false x;have hcx:=TS (edgT false x);have hsx:=hps x hxm;have hB:=PI (((LH false l).take i).flatMap (·.2)) (canB (edgT false x)) oM oM;refine Ze ?_;(refine xL 55 Zb (xL 56 (Zd 2 Yr) ?_)<;>(refine yL 57 (Zk 2 YW) fun v57 h=>?_;cases h)<;>refine xL 58 Zb (xL 59 (ZF YX) ?_)<;>(refine yL 60 (YI Wd) fun v60 h=>?_;cases h)<;>refine xL 61 Zb ?_<;>(refine cS 62 (cA call34 (ih x hxm (hpo x hxm) (hps x hxm))) fun v62 h=>?_;cases h)<;>(refine cS 63 (cA call55 (hB)) fun v63 h=>?_;cases h)<;>refine xL 6 Za ?_<;>refine Zg ?_)
 (refine xL 64 (Zd 2 WG) ?_<;>(refine yL 65 (Zk 2 Je) fun v65 h=>?_;cases h)<;>refine xL 66 Z3 (xL 67 Zb ?_)<;>(refine bLd 67 (fun hb67=>?_) (fun hb67=>?_)<;>(first|refine kL 68 ?_|refine xL 68 (Zd 2 Yr) ?_))<;>(first|refine kL 69 ?_|(refine yL 69 (Zk 2 YW) fun v69 h=>?_;cases h))<;>(first|refine kL 70 ?_|refine xL 70 Zb ?_)<;>(first|refine kL 71 ?_|refine xL 71 (ZF YX) ?_)<;>(first|refine kL 72 ?_|(refine yL 72 (YI Wd) fun v72 h=>?_;cases h))<;>(first|refine kL 73 ?_|(refine cS 73 (cA call32 (hN x hxm)) fun v73 h=>?_;cases h))<;>(first|refine kL 74 ?_|refine xL 74 Yg ?_)<;>refine xL 75 Zz ?_<;>refine Zc ?_)<;>(
 refine cX ?_ ?_<;>intro hb75
 · first|exact bN hb75|(
 (have ho3:o=3:=by simpa using hb67);(have hnx:nulT x=false:=by simpa using hb75);rw [hnx] at hE;have hfin:=(Sf hE).trans ((Zb3 hE (hall ho3)).trans (show _=canB R by rw [hm,UT ho3];rfl));rw [hfin];refine Ze ?_;(refine xL 76 Zb (xL 4 Za ?_)<;>refine Zc ?_)
 exact Zv results34 rfl rfl)
 · first|exact bN hb75|(
 refine Ze ?_;(refine xL 45 Zb (xL 46 ZH (xL 7 Za ?_))<;>refine Zc ?_)
 rw [Sf hE];refine Zn (
  ⟨(i+1,_),hil,fun ho=>by
    have hnx:nulT x=true:=by first|(simpa using hb75)|exact UU ho hb67|exact UU ho (by simpa using hb67)
    intro p hp;rw [ZE hE] at hp;rcases Xh.1 hp with hp|hp
    · exact hall ho p hp
    · rw [Xl] at hp;subst hp;exact hnx⟩
  ) (by dsimp only;omega) ⟨rfl,rfl,rfl,rfl,trivial⟩ ⟨rfl,trivial⟩))))
 · first|exact bN hb44|(
 have hfin:canB (((LH last l).take i).flatMap (·.2))=canB R:=by
  rw [Xo (by rw [Zi0];omega)] at hall ⊢;by_cases ho3:o=3
  · rw [hm,UT ho3];exact Zk8 (hall ho3)
  · rw [hm,US ho3];exact GC fun s=>by rw [←Zi3,XT]
 rw [hfin];refine Ze ?_;(refine xL 76 Zb (xL 4 Za ?_)<;>refine Zc ?_)
 exact Zv results34 rfl rfl))))
theorem Z7:AggT prog 24 3=true:=by kernel_rfl
theorem ζR:ZeO prog 105 0 0=true:=by kernel_rfl
theorem ζS:ZeO prog 105 1 1=true:=by kernel_rfl
theorem ζT:ZeO prog 105 2 2=true:=by kernel_rfl
theorem ζU:ZeO prog 105 3 3=true:=by kernel_rfl
theorem CK:SlT prog 27 9 1=true:=by kernel_rfl
theorem Zb4:∀{m:List (Bool×List ByteArray)} {s:ByteArray},s∈seqE m→∃p∈m,s∈p.2
 |[],s,h=>by simp [seqE] at h
 | (b, e)::m,s,h=>by
   have h:s∈e++(if b=true then seqE m else []):=h;rcases Xh.1 h with h|h
   · exact ⟨_,Xi ..,h⟩
   · split at h
     · obtain ⟨p,hp,h⟩:=Zb4 h;exact ⟨p,Xn _ hp,h⟩
     · simp at h
theorem Zk9 {last:Bool} {o:Int} {a:ByteArray} {m:List (Bool×List ByteArray)} {s:ByteArray} (h:s∈opE last o a m):(o=1∧s=a)∨∃p∈m,s∈p.2:=by
 unfold opE at h
 by_cases h1:o=2
 · rw [UT h1] at h;simp at h
 rw [US h1] at h
 by_cases h2:o=1
 · rw [UT h2,Xl] at h;exact .inl ⟨h2,h⟩
 rw [US h2] at h
 by_cases h3:o=6
 · rw [UT h3] at h;match m,h with
   |[],h=>simp [Ci] at h
   |[_],h=>simp [Ci] at h
   | (b,e)::(b2,e2)::m,h=>
     have h:s∈e++(if b=true then e2 else []):=h;rcases Xh.1 h with h|h
     · exact .inr ⟨_,Xi ..,h⟩
     · split at h
       · exact .inr ⟨_,Xn _ (Xi ..),h⟩
       · simp at h
 rw [US h3] at h
 by_cases h4:o=3
 · rw [UT h4] at h;obtain ⟨p,hp,h⟩:=Zb4 h;split at hp
   · exact .inr ⟨p,List.mem_reverse.1 hp,h⟩
   · exact .inr ⟨p,hp,h⟩
 · rw [US h4,XT] at h;exact .inr h
theorem Zb5 (last:Bool):∀t:Nd,FitT t→∀s∈edgT last t,s.size≤140737488355328:=Nd.ind fun o a l ih hf s hs=>by
 rw [Hx] at hs
 rcases Zk9 hs with ⟨_,rfl⟩|⟨p,hp,h⟩
 · exact hf.sz
 · obtain ⟨x,hx,rfl⟩:=Xg.1 hp;exact ih x hx (hf.p x hx) s h
theorem HX {α:Type} [DecidableEq α]:∀{l m:List α},l.Nodup→(∀x∈l,x∈m)→l.length≤m.length
 |[],_,_,_=>Xf _
 | x::l,m,h,hs=>by
   have h1:=Vc.1 h;have hx:=hs x (Xi ..);have ih:=HX (l:=l) (m:=m.erase x) h1.2 fun y hy=>(UG (fun e:y=x=>h1.1 (by rw [←e];exact hy))).2 (hs y (Xn _ hy));rw [UH hx] at ih;have:=UI hx;rw [Xk];omega
theorem Zb6 {ks l:List ByteArray} (h:ks.Nodup) (hm:∀s,s∈ks↔s∈l):ks.length≤l.length:=HX h fun s hs=>(hm s).1 hs
theorem Zel {ks l:List ByteArray} (h:ks.Nodup) (hm:∀s,s∈ks↔s∈l):K1 ks=canB l:=RH (Zbx h) fun s=>by rw [RG,hm]
theorem Zem (t:Nd) (hf:FitT t):AF prog 28 [pTr t] (· = .tup [ZM (Y3 t&&nulT t),pInt (if Y3 t=true then 0 else 1)]):=by
 refine AF.of_body 10 func28 rfl ntmps28 (Xa rfl) ?_
 intro w0 M0 vs hl hv
 obtain ⟨v0,rfl⟩:=WL hl
 clear hl hv
 refine Ze ?_
 (refine ZG 1 3 fun h1=>?_<;>refine xL 2 Za (xL 3 Za ?_)<;>refine Zg ?_)
 ((refine yL 4 (Zs 1 Z7) fun v4 h=>?_;cases h)<;>(refine cS 5 (cA call24 (JJ t hf)) fun v5 h=>?_;cases h)<;>refine xL 6 Yg ?_<;>refine Zc ?_)
 refine cX ?_ ?_<;>intro hb6
 · first|exact bN hb6|(
 (have hv:Y3 t=false:=by simpa using hb6);rw [hv];refine Ze ?_;(refine xL 2 Za (xL 3 Za ?_)<;>refine Zc ?_)
 exact Wr (results28) rfl rfl rfl)
 · first|exact bN hb6|(
 (have hv:Y3 t=true:=by simpa using hb6);rw [hv];have hof:=ζC t (K' hv) (by have:=GV hv;omega);refine Ze ?_;((refine yL 7 (Zs 1 Z7) fun v7 h=>?_;cases h)<;>(refine cDx (ι:={x:Fx//FxOk x t}) (p:=fun i=> .agg (cFx i.1)) 8 (cA (call77) (hof.mono fun p ⟨x,h1,h2⟩=>⟨⟨x,h1⟩,h2⟩)) (fun i v8 _=>?_) (fun _=>rfl);obtain ⟨x,hx⟩:=i;dsimp only [cFx])<;>(refine yL 9 (S9 ζR) fun v9 h=>?_;cases h)<;>refine xL 2 Za (xL 3 Za ?_)<;>refine Zc ?_)
 rw [hx.nul];exact Wr (results28) rfl rfl rfl)
theorem Zen (t:Nd) (hf:FitT t):AF prog 29 [pTr t] (· = .tup [pInt (if Y3 t=true then shoT t else 0),pInt (if Y3 t=true then 0 else 1)]):=by
 refine AF.of_body 10 func29 rfl ntmps29 (Xa rfl) ?_
 intro w0 M0 vs hl hv
 obtain ⟨v0,rfl⟩:=WL hl
 clear hl hv
 refine Ze ?_
 (refine ZG 1 3 fun h1=>?_<;>refine xL 2 Za (xL 3 Za ?_)<;>refine Zg ?_)
 ((refine yL 4 (Zs 1 Z7) fun v4 h=>?_;cases h)<;>(refine cS 5 (cA call24 (JJ t hf)) fun v5 h=>?_;cases h)<;>refine xL 6 Yg ?_<;>refine Zc ?_)
 refine cX ?_ ?_<;>intro hb6
 · first|exact bN hb6|(
 (have hv:Y3 t=false:=by simpa using hb6);rw [hv];refine Ze ?_;(refine xL 2 Za (xL 3 Za ?_)<;>refine Zc ?_)
 exact Wr (results29) rfl rfl rfl)
 · first|exact bN hb6|(
 (have hv:Y3 t=true:=by simpa using hb6);rw [hv];have hof:=ζC t (K' hv) (by have:=GV hv;omega);refine Ze ?_;((refine yL 7 (Zs 1 Z7) fun v7 h=>?_;cases h)<;>(refine cDx (ι:={x:Fx//FxOk x t}) (p:=fun i=> .agg (cFx i.1)) 8 (cA (call77) (hof.mono fun p ⟨x,h1,h2⟩=>⟨⟨x,h1⟩,h2⟩)) (fun i v8 _=>?_) (fun _=>rfl);obtain ⟨x,hx⟩:=i;dsimp only [cFx])<;>(refine yL 9 (S9 ζU) fun v9 h=>?_;cases h)<;>refine xL 2 Za (xL 3 Za ?_)<;>refine Zc ?_)
 rw [hx.sho];exact Wr (results29) rfl rfl rfl)
theorem Zeo (t:Nd) (hf:FitT t):AF prog 30 [pTr t] (· = .tup [Yj (if Y3 t=true then canB (edgT false t) else []),pInt (if Y3 t=true then 0 else 1)]):=by
 refine AF.of_body 12 func30 rfl ntmps30 (Xa rfl) ?_
 intro w0 M0 vs hl hv
 obtain ⟨v0,rfl⟩:=WL hl
 clear hl hv
 refine Ze ?_
 (refine ZG 1 3 fun h1=>?_<;>refine xL 2 Za (xL 3 Za ?_)<;>refine Zg ?_)
 ((refine yL 4 (Zs 1 Z7) fun v4 h=>?_;cases h)<;>(refine cS 5 (cA call24 (JJ t hf)) fun v5 h=>?_;cases h)<;>refine xL 6 Yg ?_<;>refine Zc ?_)
 refine cX ?_ ?_<;>intro hb6
 · first|exact bN hb6|(
 (have hv:Y3 t=false:=by simpa using hb6);rw [hv];refine Ze ?_;(refine xL 2 Za (xL 3 Za ?_)<;>refine Zc ?_)
 refine YR (W1 (t:=2) rfl) fun _=>?_;exact Wr (results30) rfl rfl rfl)
 · first|exact bN hb6|(
 (have hv:Y3 t=true:=by simpa using hb6);rw [hv];have hvz:=GV hv;have hof:=ζC t (K' hv) oM;refine Ze ?_;((refine yL 7 (Zs 1 Z7) fun v7 h=>?_;cases h)<;>(refine cDx (ι:={x:Fx//FxOk x t}) (p:=fun i=> .agg (cFx i.1)) 8 (cA (call77) (hof.mono fun p ⟨x,h1,h2⟩=>⟨⟨x,h1⟩,h2⟩)) (fun i v8 _=>?_) (fun _=>rfl);obtain ⟨x,hx⟩:=i;dsimp only [cFx];have hkf:=Zb6 hx.fn hx.fm;have hke:=TV false t)<;>(refine yL 9 (S9 ζS) fun v9 h=>?_;cases h)<;>refine Zcx (k1:=95) (t:=76) 10 ZgZ (call50) (fun g10 b10 c10 es10 hkv10 hWf10=>?_)<;>refine R6 (ks:=x.fs) 10 11 Do (call49) (fun h=>h) hWf10 hkv10.symm hx.fn oM (fun s hs=>Zb5 false t hf s ((hx.fm s).1 hs)) (fun v11 ho11=>?_)<;>refine xL 2 Za (xL 3 Za ?_)<;>refine Zc ?_)
 refine YR (En.freeze (l:=11) (t:=2) rfl rfl) fun _=>?_;rw [show share (PV.own 9 1 x.fs.length ((K1 x.fs).map Z'))=Yj (canB (edgT false t)) from (by rw [←Zel hx.fn hx.fm,Jn];unfold Yj;rw [JK])];exact Wr (results30) rfl rfl rfl)
theorem Zep (t:Nd) (hf:FitT t):AF prog 31 [pTr t] (· = .tup [Yj (if Y3 t=true then canB (edgT true t) else []),pInt (if Y3 t=true then 0 else 1)]):=by
 refine AF.of_body 12 func31 rfl ntmps31 (Xa rfl) ?_
 intro w0 M0 vs hl hv
 obtain ⟨v0,rfl⟩:=WL hl
 clear hl hv
 refine Ze ?_
 (refine ZG 1 3 fun h1=>?_<;>refine xL 2 Za (xL 3 Za ?_)<;>refine Zg ?_)
 ((refine yL 4 (Zs 1 Z7) fun v4 h=>?_;cases h)<;>(refine cS 5 (cA call24 (JJ t hf)) fun v5 h=>?_;cases h)<;>refine xL 6 Yg ?_<;>refine Zc ?_)
 refine cX ?_ ?_<;>intro hb6
 · first|exact bN hb6|(
 (have hv:Y3 t=false:=by simpa using hb6);rw [hv];refine Ze ?_;(refine xL 2 Za (xL 3 Za ?_)<;>refine Zc ?_)
 refine YR (W1 (t:=2) rfl) fun _=>?_;exact Wr (results31) rfl rfl rfl)
 · first|exact bN hb6|(
 (have hv:Y3 t=true:=by simpa using hb6);rw [hv];have hvz:=GV hv;have hof:=ζC t (K' hv) oM;refine Ze ?_;((refine yL 7 (Zs 1 Z7) fun v7 h=>?_;cases h)<;>(refine cDx (ι:={x:Fx//FxOk x t}) (p:=fun i=> .agg (cFx i.1)) 8 (cA (call77) (hof.mono fun p ⟨x,h1,h2⟩=>⟨⟨x,h1⟩,h2⟩)) (fun i v8 _=>?_) (fun _=>rfl);obtain ⟨x,hx⟩:=i;dsimp only [cFx];have hkf:=Zb6 hx.ln hx.lm;have hke:=TV true t)<;>(refine yL 9 (S9 ζT) fun v9 h=>?_;cases h)<;>refine Zcx (k1:=95) (t:=76) 10 ZgZ (call50) (fun g10 b10 c10 es10 hkv10 hWf10=>?_)<;>refine R6 (ks:=x.ls) 10 11 Do (call49) (fun h=>h) hWf10 hkv10.symm hx.ln oM (fun s hs=>Zb5 true t hf s ((hx.lm s).1 hs)) (fun v11 ho11=>?_)<;>refine xL 2 Za (xL 3 Za ?_)<;>refine Zc ?_)
 refine YR (En.freeze (l:=11) (t:=2) rfl rfl) fun _=>?_;rw [show share (PV.own 9 1 x.ls.length ((K1 x.ls).map Z'))=Yj (canB (edgT true t)) from (by rw [←Zel hx.ln hx.lm,Jn];unfold Yj;rw [JK])];exact Wr (results31) rfl rfl rfl)
theorem Zmt {P:Program} {st:St} {o:Oper} {x y:Operand} {t t':TypeId} {a:Bool} {q q':PV} (hu:P.underlying t=some .bool) (ho:o.op= .binOp .eql t x y t':=by exact rfl) (hx:ev st.slots x=some (.bool a,q):=by exact rfl) (hy:ev st.slots y=some (.bool a,q'):=by exact rfl):YE P st o (· = .bool true) (.val (.bool true)):=by
 have:=Zgg hu ho hx hy
 rw [beq_self_eq_true] at this
 exact this
set_option maxHeartbeats 2000000 in
theorem Zdn (t:Nd) (hf:FitT t) (hv:Y3 t=false):AF prog 7 [pTr t] (· =ZM true):=by
 have hN:=Zem t hf
 have hS:=Zen t hf
 have hA:=Zeo t hf
 have hB:=Zep t hf
 have hV:=Em t hf
 rw [hv] at hN hS hA hB hV
 rw [US dC] at hN
 rw [US dC,US dC] at hS hA hB
 refine AF.of_body 112 func7 rfl ntmps7 (Xa rfl) ?_
 intro w0 M0 vs hl hv
 obtain ⟨v0,rfl⟩:=WL hl
 clear hl hv
 refine Ze ?_
 (refine ZG 1 3 fun h1=>?_<;>refine xL 2 Za ?_<;>refine Zg ?_)
 ((refine cS 11 (cA call10 (Tb)) fun v11 h=>?_;cases h)<;>refine xL (v:= .bool false) (p:= .val (.bool false)) 12 (Yg (b:=true)) ?_<;>refine xL 13 Zb ?_<;>(refine yL 14 (Zs 1 Z7) fun v14 h=>?_;cases h)<;>(refine cS 15 (cA call27 (HW t hf 60 1 dC dC dC dC)) fun v15 h=>?_;cases h)<;>refine xL 16 WK (xL 17 Zz ?_)<;>refine Zc ?_)<;>(
 refine cX ?_ ?_<;>intro hb17
 · first|exact bN hb17|(
 refine Ze ?_;((refine cS 18 (cA call10 (Tb)) fun v18 h=>?_;cases h)<;>refine xL 2 Za ?_<;>refine Zc ?_)
 exact Zv results7 rfl rfl)
 · first|exact bN hb17|(
 refine Ze ?_;((refine yL 20 (Zs 1 Z7) fun v20 h=>?_;cases h)<;>(refine cP 21 (cA call28 (hN)) fun va21 vb21 hva21 hvb21=>?_;cases hva21;cases hvb21)<;>refine xL 19 Zb (xL 22 Zi (xL 23 Zi (xL 3 Za (xL 4 Za ?_))))<;>refine Zg ?_)
 ((refine yL 25 (Zs 1 Z7) fun v25 h=>?_;cases h)<;>(refine cP 26 (cA call29 (hS)) fun va26 vb26 hva26 hvb26=>?_;cases hva26;cases hvb26)<;>refine xL 24 Zb (xL 27 Zi (xL 28 Zi (xL 5 Za (xL 6 Za ?_))))<;>refine Zg ?_)
 ((refine yL 30 (Zs 1 Z7) fun v30 h=>?_;cases h)<;>(refine cP 31 (cA call30 (hA)) fun va31 vb31 hva31 h=>?_;cases h)<;>refine xL 29 Zb (xL 32 Zi (xL 33 Zi (xL 7 Za (xL 8 Za ?_))))<;>refine Zg ?_)
 ((refine yL 35 (Zs 1 Z7) fun v35 h=>?_;cases h)<;>(refine cP 36 (cA call31 (hB)) fun va36 vb36 hva36 h=>?_;cases h)<;>refine xL 34 Zb (xL 37 Zi (xL 38 Zi (xL 9 Za (xL 10 Za ?_))))<;>refine Zg ?_)
 ((refine yL 39 (Zs 1 Z7) fun v39 h=>?_;cases h)<;>(refine cS 40 (cA call20 (hV)) fun v40 h=>?_;cases h)<;>refine xL (v:= .bool true) (p:= .val (.bool true)) 41 (Yg (b:=false)) ?_<;>refine Zc ?_)
 refine cCt ?_;refine Ze ?_;(refine xL 42 Zb ?_<;>refine xL (v:= .bool true) (p:= .val (.bool true)) 43 (Yg (b:=false)) ?_<;>refine xL 44 Zb (xL 45 Zb (xL 46 Ja (xL 47 Zz (xL 48 Zb (xL 49 Zb (xL 50 Ja (xL 51 Zz (xL 52 Zb (xL 53 Zb (xL 54 Ja (xL 55 Zz (xL 56 Zb (xL 57 Zb (xL 58 (ZR CK) ?_))))))))))))))<;>refine xL 59 ((Ja (a:=0))) ?_<;>refine xL 60 Zz (xL 61 Zb (xL 62 Zb (xL 63 Ja (xL 64 Zz (xL 65 Zb (xL 66 Zb (xL 67 (ZR CK) ?_)))))))<;>refine xL 68 ((Ja (a:=0))) ?_<;>refine xL 69 Zz (xL 70 Zb (xL 71 Zb (xL 72 Ja (xL 73 Zz (xL 2 Za ?_)))))<;>refine Zc ?_)<;>(
 exact Zv results7 rfl rfl)))
set_option maxHeartbeats 2000000 in
theorem Zb7 (t:Nd) (hf:FitT t) (hv:Y3 t=true):AF prog 7 [pTr t] (· =ZM true):=by
 have hN:=Zem t hf
 have hS:=Zen t hf
 have hA:=Zeo t hf
 have hB:=Zep t hf
 have hV:=Em t hf
 have hvz:=GV hv
 rw [hv] at hN hS hA hB hV
 rw [UT rfl] at hN
 rw [UT rfl,UT rfl] at hS hA hB
 refine AF.of_body 112 func7 rfl ntmps7 (Xa rfl) ?_
 intro w0 M0 vs hl hv
 obtain ⟨v0,rfl⟩:=WL hl
 clear hl hv
 refine Ze ?_
 (refine ZG 1 3 fun h1=>?_<;>refine xL 2 Za ?_<;>refine Zg ?_)
 ((refine cS 11 (cA call10 (Tb)) fun v11 h=>?_;cases h)<;>refine xL (v:= .bool false) (p:= .val (.bool false)) 12 (Yg (b:=true)) ?_<;>refine xL 13 Zb ?_<;>(refine yL 14 (Zs 1 Z7) fun v14 h=>?_;cases h)<;>(refine cS 15 (cA call27 (HW t hf 60 1 dC dC dC dC)) fun v15 h=>?_;cases h)<;>refine xL 16 WK (xL 17 Zz ?_)<;>refine Zc ?_)<;>(
 refine cX ?_ ?_<;>intro hb17
 · first|exact bN hb17|(
 refine Ze ?_;((refine cS 18 (cA call10 (Tb)) fun v18 h=>?_;cases h)<;>refine xL 2 Za ?_<;>refine Zc ?_)
 exact Zv results7 rfl rfl)
 · first|exact bN hb17|(
 refine Ze ?_;((refine yL 20 (Zs 1 Z7) fun v20 h=>?_;cases h)<;>(refine cP 21 (cA call28 (hN)) fun va21 vb21 hva21 hvb21=>?_;cases hva21;cases hvb21)<;>refine xL 19 Zb (xL 22 Zi (xL 23 Zi (xL 3 Za (xL 4 Za ?_))))<;>refine Zg ?_)
 ((refine yL 25 (Zs 1 Z7) fun v25 h=>?_;cases h)<;>(refine cP 26 (cA call29 (hS)) fun va26 vb26 hva26 hvb26=>?_;cases hva26;cases hvb26)<;>refine xL 24 Zb (xL 27 Zi (xL 28 Zi (xL 5 Za (xL 6 Za ?_))))<;>refine Zg ?_)
 ((refine yL 30 (Zs 1 Z7) fun v30 h=>?_;cases h)<;>(refine cP 31 (cA call30 (hA)) fun va31 vb31 hva31 h=>?_;cases h)<;>refine xL 29 Zb (xL 32 Zi (xL 33 Zi (xL 7 Za (xL 8 Za ?_))))<;>refine Zg ?_)
 ((refine yL 35 (Zs 1 Z7) fun v35 h=>?_;cases h)<;>(refine cP 36 (cA call31 (hB)) fun va36 vb36 hva36 h=>?_;cases h)<;>refine xL 34 Zb (xL 37 Zi (xL 38 Zi (xL 9 Za (xL 10 Za ?_))))<;>refine Zg ?_)
 ((refine yL 39 (Zs 1 Z7) fun v39 h=>?_;cases h)<;>(refine cS 40 (cA call20 (hV)) fun v40 h=>?_;cases h)<;>refine xL (v:= .bool false) (p:= .val (.bool false)) 41 (Yg (b:=true)) ?_<;>refine Zc ?_)
 refine cCf ?_;refine Ze ?_;(refine xL 74 Zb ?_<;>(refine yL 75 (Zs 1 Z7) fun v75 h=>?_;cases h)<;>(refine cS 76 (cA call32 (CI t (K' hv) oM)) fun v76 h=>?_;cases h)<;>refine xL 77 (Zmt underlying4) (xL 78 Zb (xL 79 Zb (xL 80 Ja (xL 81 Zz (xL 82 Zb (xL 83 Zb ?_))))))<;>(refine yL 84 (Zs 1 Z7) fun v84 h=>?_;cases h)<;>(refine cS 85 (cA call33 (Zdm t (K' hv) oM)) fun v85 h=>?_;cases h)<;>refine xL 86 Ja (xL 87 Zz (xL 88 Zb (xL 89 Zb (xL 90 Ja (xL 91 Zz (xL 92 Zb (xL 93 Zb ?_)))))))<;>(refine yL 94 (Zs 1 Z7) fun v94 h=>?_;cases h)<;>(refine cS 95 (cA call34 (CJ false t (K' hv) oM)) fun v95 h=>?_;cases h)<;>(refine cS 96 (cA call14 (TU _)) fun v96 h=>?_;cases h)<;>refine xL 97 Zz (xL 98 Zb (xL 99 Zb (xL 100 Ja (xL 101 Zz (xL 102 Zb (xL 103 Zb ?_))))))<;>(refine yL 104 (Zs 1 Z7) fun v104 h=>?_;cases h)<;>(refine cS 105 (cA call34 (CJ true t (K' hv) oM)) fun v105 h=>?_;cases h)<;>(refine cS 106 (cA call14 (TU _)) fun v106 h=>?_;cases h)<;>refine xL 107 Zz (xL 108 Zb (xL 109 Zb (xL 110 Ja (xL 111 Zz (xL 2 Za ?_)))))<;>refine Zc ?_)<;>(
 exact Zv results7 rfl rfl)))
theorem Zi4 (t:Nd) (hf:FitT t):AF prog 7 [pTr t] (· =ZM true):=by
 cases hv:Y3 t
 · exact Zdn t hf hv
 · exact Zb7 t hf hv
end Go.Proofs.YtgfabnhpllkebaaGreatDoor
