/-
  Walks of functions and plain laws of the chapter, as the claim needs them.
-/
import Derived.WalkKit
import Derived.ProofKit
import Derived.OpenShut
import Derived.ShutString
import Derived.ChangeOld
import Derived.Below
import Derived.Carry
import Derived.Deep.Slices
import Derived.Deep.AppendSrc
import Derived.Test.YtpiemogpblmiiaaGreatDoorPa06
import Derived.Test.YtpiemogpblmiiaaGreatDoorPa03
import Derived.Test.YtpiemogpblmiiaaGreatDoorPa05
import Derived.Test.YtpiemogpblmiiaaGreatDoorPa07
import Derived.Test.YtpiemogpblmiiaaGreatDoorPa04
import Derived.Test.YtpiemogpblmiiaaGreatDoorPa02
import Derived.Test.YtpiemogpblmiiaaGreatDoorPa01
namespace Go.Proofs.YtpiemogpblmiiaaGreatDoor
open Go.RowKit Go.Cb Go.En Tryz
set_option linter.all false
set_option maxRecDepth 100000
theorem KE:ElT prog 27 69 3 64 (.agg #[(.string ByteArray.empty),(.slice none 0 0),(.slice none 0 0)]):=⟨underlying27,by kernel_rfl,rfl,dC⟩
theorem RN:FldT prog 24 0 0=true:=by kernel_rfl
theorem LS:FldT prog 24 1 1=true:=by kernel_rfl
theorem WV:FldT prog 72 0 0=true:=by kernel_rfl
theorem WP:FldT prog 77 0 0=true:=by kernel_rfl
theorem YB:SlT prog 22 24 3=true:=by kernel_rfl
theorem J1:Y9 prog 69=some ((.agg #[(.string ByteArray.empty),(.slice none 0 0),(.slice none 0 0)]),([0,1,2]:List Nat).map fun o=>(o,1)):=by kernel_rfl
theorem GP:(prog.info? 27).map (·.size)=some 1:=by kernel_rfl
theorem W9:(prog.info? 3).map (·.size)=some 1:=by kernel_rfl
def BdH (e b:Nat) (v:Value) (x:Bd):List (Nat×Ent):=[(1000,Yd b, .own e 4 1 [Zc x.pl, .val v,Zc 0,Zc 1]),(1001,v, .own 69 3 x.tr.length (x.tr.flatMap cTn))]
theorem ZdV (l:List Tn) (s:ByteArray) (i o:List Int):l.flatMap cTn++[ZZ s,pInts i,pInts o]=(l++[(⟨s,i,o⟩:Tn)]).flatMap cTn:=by rw [Xt];rfl
theorem ZaA (e:Nat) (x:Bd) (s:ByteArray) (i o:List Int):PV.own e 3 (x.tr.length+1) (x.tr.flatMap cTn++[ZZ s,pInts i,pInts o])= .own e 3 (x.add s i o).tr.length ((x.add s i o).tr.flatMap cTn):=by
 rw [ZdV];simp [Bd.add]
theorem Tj (x:Bd):x.more (0:Nat)=x:=by unfold Bd.more;simp
theorem Dv (x:Bd) (k:Nat):(x.more (k:Nat)).more 1=x.more ((k+1:Nat)):=by unfold Bd.more;simp [Int.add_assoc]
theorem E9 (x:Bd) (k:Nat):((x.more (2*k:Nat)).more 1).more 1=x.more ((2*(k+1):Nat)):=by unfold Bd.more;simp;omega
theorem ZaB (x:Bd):(x.more 1).more 1=x.more 2:=by unfold Bd.more;simp;omega
theorem Dw {o:Int} {a:ByteArray} {l:List Nd} (h:rightT (.mk o a l)=true) (h3:o=3∨o=4∨o=5):0<l.length:=by
 rw [TD h3,Xf] at h
 have:=Ur h.1
 omega
theorem Dx {o:Int} {a:ByteArray} {l:List Nd} (h:rightT (.mk o a l)=true) (h6:o=6):l.length=2:=by
 rw [TE h6,Xf] at h
 have:=Ur h.1
 omega
theorem LU (b:Nat) (v:Value) (x:Bd) (h0:0≤x.pl) (h1:x.pl≤1000000) (hv:v.oneCell'=true):AFh False prog 79 [(0,ZX b, .val (ZX b))] (BdH 72 b v x) (fun u q h=>u= .int .i64 x.pl∧q=Zc x.pl∧h=BdH 72 b v (x.more 1)):=by
 have hone:En.one (PV.val v)=true:=hv
 unfold BdH
 refine AFh.of_body 18 func79 rfl ntmps79 (Xa rfl) rfl ?_
 intro w0 M0 N0
 refine Zf ?_
 (refine xL 2 Zb ?_;refine Zn ?_)
 (refine xL 3 Za (xL 4 (ZC 1000) (xL 5 (Zd 1000 WV) (xL 6 (Zd 1000 Z2) ?_)));refine yL 7 (Zi 1000 Zo) fun v7 hv7=>?_;cases hv7;refine xL 8 ZO (xL 9 (ZC 1000) (xL 10 (Zd 1000 WV) (xL 11 (Zd 1000 Z2) ?_)));refine Y3 1000 Zo W9 ?_;refine Zn ?_)
 (refine xL 12 Za (xL 13 (ZC 1000) (xL 14 (Zd 1000 WV) (xL 15 (Zd 1000 Z2) ?_)));refine yL 16 (Zi 1000 Zo) fun v16 hv16=>?_;cases hv16;refine xL 17 Gf (xL 2 Zb ?_);refine Ze ?_)
 rw [show x.pl+1-1=x.pl by omega]
 exact WQ (BdH 72 b v (x.more 1)) (results79) rfl ⟨rfl,rfl,trivial⟩ ⟨rfl,rfl,rfl⟩
theorem Ow (b:Nat) (v ui uo:Value) (x:Bd) (s:ByteArray) (i o:List Int) (h1:x.tr.length≤1000000) (hv:v.oneCell'=true):AFh False prog 60 [(0,ZX b, .val (ZX b)),(1, .string s,ZZ s),(2,ui,pInts i),(3,uo,pInts o)] (BdH 72 b v x) (fun _ _ h=>∃v',v'.oneCell'=true∧h=BdH 72 b v' (x.add s i o)):=by
 have hone:En.one (PV.val v)=true:=hv
 unfold BdH
 refine AFh.of_body 23 func60 rfl ntmps60 (Xa rfl) rfl ?_
 intro w0 M0 N0
 refine Zf ?_
 (refine xL 8 Za (xL 9 Za (xL 10 (ZC 1000) (xL 11 (Zd 1000 WV) (xL 12 (Zd 1000 ZD) ?_))));refine yL 13 (Zi 1000 ZN) fun v13 hv13=>?_;cases hv13;refine xL 14 Za (xL 15 Za (xL 16 Za (xL 17 (Z3 J1) ?_)));refine K1 18 KE fun h18 ho18=>?_;(refine Kk 1001 18 19 KE fun h19 ho19=>?_;have hone19:En.one (PV.val h19)=true:=ho19;refine Zp (Z0 (l:=19) 1001 rfl rfl) fun _=>?_;refine Zp (ZF (l:=1001) rfl (ZaA 69 x s i o)) fun _=>?_);refine xL 20 (ZC 1000) (xL 21 (Zd 1000 WV) (xL 22 (Zd 1000 ZD) ?_));refine Y3 1000 ZN GP ?_;refine Ze ?_)
 exact Z8 (BdH 72 b h19 (x.add s i o)) (results60) ⟨rfl,rfl,trivial⟩ ⟨h19,ho19,rfl⟩
theorem GQ (b:Nat) (v:Value) (x:Bd) (h0:0≤x.pl) (h1:x.pl≤1000000) (hv:v.oneCell'=true):AFh False prog 81 [(0,ZX b, .val (ZX b))] (BdH 77 b v x) (fun u q h=>u= .int .i64 x.pl∧q=Zc x.pl∧h=BdH 77 b v (x.more 1)):=by
 have hone:En.one (PV.val v)=true:=hv
 unfold BdH
 refine AFh.of_body 19 func81 rfl ntmps81 (Xa rfl) rfl ?_
 intro w0 M0 N0
 refine Zf ?_
 (refine xL 2 Zb ?_;refine Zn ?_)
 (refine xL 3 Za (xL 4 Za (xL 5 (ZC 1000) (xL 6 (Zd 1000 WP) (xL 7 (Zd 1000 Z2) ?_))));refine yL 8 (Zi 1000 Zo) fun v8 hv8=>?_;cases hv8;refine xL 9 ZO (xL 10 (ZC 1000) (xL 11 (Zd 1000 WP) (xL 12 (Zd 1000 Z2) ?_)));refine Y3 1000 Zo W9 ?_;refine Zn ?_)
 (refine xL 13 Za (xL 14 (ZC 1000) (xL 15 (Zd 1000 WP) (xL 16 (Zd 1000 Z2) ?_)));refine yL 17 (Zi 1000 Zo) fun v17 hv17=>?_;cases hv17;refine xL 18 Gf (xL 2 Zb ?_);refine Ze ?_)
 rw [show x.pl+1-1=x.pl by omega]
 exact WQ (BdH 77 b v (x.more 1)) (results81) rfl ⟨rfl,rfl,trivial⟩ ⟨rfl,rfl,rfl⟩
theorem SB (b:Nat) (v ui uo:Value) (x:Bd) (s:ByteArray) (i o:List Int) (h1:x.tr.length≤1000000) (hv:v.oneCell'=true):AFh False prog 62 [(0,ZX b, .val (ZX b)),(1, .string s,ZZ s),(2,ui,pInts i),(3,uo,pInts o)] (BdH 77 b v x) (fun _ _ h=>∃v',v'.oneCell'=true∧h=BdH 77 b v' (x.add s i o)):=by
 have hone:En.one (PV.val v)=true:=hv
 unfold BdH
 refine AFh.of_body 23 func62 rfl ntmps62 (Xa rfl) rfl ?_
 intro w0 M0 N0
 refine Zf ?_
 (refine xL 8 Za (xL 9 Za (xL 10 (ZC 1000) (xL 11 (Zd 1000 WP) (xL 12 (Zd 1000 ZD) ?_))));refine yL 13 (Zi 1000 ZN) fun v13 hv13=>?_;cases hv13;refine xL 14 Za (xL 15 Za (xL 16 Za (xL 17 (Z3 J1) ?_)));refine K1 18 KE fun h18 ho18=>?_;(refine Kk 1001 18 19 KE fun h19 ho19=>?_;have hone19:En.one (PV.val h19)=true:=ho19;refine Zp (Z0 (l:=19) 1001 rfl rfl) fun _=>?_;refine Zp (ZF (l:=1001) rfl (ZaA 69 x s i o)) fun _=>?_);refine xL 20 (ZC 1000) (xL 21 (Zd 1000 WP) (xL 22 (Zd 1000 ZD) ?_));refine Y3 1000 ZN GP ?_;refine Ze ?_)
 exact Z8 (BdH 77 b h19 (x.add s i o)) (results62) ⟨rfl,rfl,trivial⟩ ⟨h19,ho19,rfl⟩
set_option maxHeartbeats 4000000 in
theorem ZfW : ∀ t : Nd, okT t =true→∀(b:Nat) (p q:Int) (v V:Value) (x:Bd),v.oneCell'=true→0≤x.pl→x.pl+2*szT t≤900000→x.tr.length+2*szT t≤900000→AFh False prog 33 [(0,ZX b, .val (ZX b)),(1,V,pTr t),(2, .int .i64 p,Zc p),(3, .int .i64 q,Zc q)] (BdH 72 b v x) (fun _ _ h=>∃v',v'.oneCell'=true∧h=BdH 72 b v' (Yt t p q x)):=Nd.ind fun o a l ih hok b p q v V x hv h0 h1 h2=>by
 obtain ⟨hr,hp⟩:=Kz.1 hok
 have hops:=GB hr
 have hsz:szT (.mk o a l)=1+szL l:=by rw [szT]
 have hlz:=Hq l
 have hone:En.one (PV.val v)=true:=hv
 simp only [Nd.l,Nd.act,Nd.op] at hp hops
 have e0:pTr (.mk o a l)= .agg [Zc o,ZZ a,YK l]:=rfl
 rw [e0]
 unfold BdH
 refine AFh.of_body 185 func33 rfl ntmps33 (Xa rfl) rfl ?_
 intro w0 M0 N0
 refine Zf ?_
 (refine Yv 5 3 fun h5=>?_;refine Zn ?_)
 (refine xL 19 Za (xL 20 (ZC 1000) (xL 21 (Zd 1000 WV) (xL 22 (Zd 1000 ZD) ?_)))<;>(refine yL 23 (Zi 1000 ZN) fun v23 h=>?_;cases h)<;>refine xL 24 (YV 1001 ZI) (xL 25 Wy (xL 26 Za ?_))<;>(refine bLd 26 (fun hb26=>?_) (fun hb26=>?_)<;>(first|refine kL 27 ?_|refine xL 27 Za ?_))<;>(first|refine kL 28 ?_|refine xL 28 (ZC 1000) ?_)<;>(first|refine kL 29 ?_|refine xL 29 (Zd 1000 WV) ?_)<;>(first|refine kL 30 ?_|refine xL 30 (Zd 1000 Z2) ?_)<;>(first|refine kL 31 ?_|(refine yL 31 (Zi 1000 Zo) fun v31 h=>?_;cases h))<;>(first|refine kL 32 ?_|refine xL 32 Wy ?_)<;>refine xL 33 Zu ?_<;>refine Ze ?_)<;>(
 refine cX ?_ ?_<;>intro hb33
 · first|exact bN hb33|(
 refine nav ?_;refine G3 (BdH 72 b v x) (results33) ⟨rfl,rfl,trivial⟩ ⟨v,hv,?_⟩;rw [Yt,Up oM];rfl)
 · first | exact bN hb33 | (
 have hbig:¬(60<x.tr.length∨40<x.pl):=oM;refine Zf ?_;(refine xL 34 (Zd 5 RN) ?_;refine yL 35 (Zi 5 Zo) fun v35 hv35=>?_;cases hv35;refine Zn ?_)
 (refine xL 37 ZQ (xL 36 Zb ?_);refine Ze ?_)
 refine Kj (fun c:{c:Bool//c=true↔(o=1∨o=2)}=>⟨[(0,ZX b, .val (ZX b)),(2, .int .i64 p,Zc p),(3, .int .i64 q,Zc q),(5,padd (sbase h5) 0, .val (padd (sbase h5) 0)),(35, .int .i64 o,Zc o),(36, .bool c.1, .val (.bool c.1))],[(5,h5, .own 24 3 1 [Zc o,ZZ a,YK l]),(1000,Yd b,PV.own 72 4 1 [Zc (x).pl,PV.val v,Zc 0,Zc 1]),(1001,v,PV.own 69 3 (x).tr.length ((x).tr.flatMap cTn))]⟩) ?_ ?_
 · refine cX ?_ ?_<;>intro hb36
   · first|exact bN hb36|(
 refine nav ?_
 first
  |exact ZW ⟨decide (o=1),by simp [hb36]⟩ ⟨rfl,rfl,rfl,rfl,rfl,rfl,trivial⟩ ⟨rfl,rfl,rfl,trivial⟩
  |exact ZW ⟨decide (o=2),by simp [hb36]⟩ ⟨rfl,rfl,rfl,rfl,rfl,rfl,trivial⟩ ⟨rfl,rfl,rfl,trivial⟩)
   · first|exact bN hb36|(
 refine Zf ?_;(refine xL 38 ZQ (xL 36 Zb ?_);refine Ze ?_)
 first
  |exact ZW ⟨decide (o=1),by simp [hb36]⟩ ⟨rfl,rfl,rfl,rfl,rfl,rfl,trivial⟩ ⟨rfl,rfl,rfl,trivial⟩
  |exact ZW ⟨decide (o=2),by simp [hb36]⟩ ⟨rfl,rfl,rfl,rfl,rfl,rfl,trivial⟩ ⟨rfl,rfl,rfl,trivial⟩)
 · rintro ⟨c, hc⟩;dsimp only;refine nav ?_;refine cX ?_ ?_<;>intro hb36
   · first |exact bN hb36|(
 refine Zf ?_;(refine xL 39 Za (xL 40 (Zd 5 LS) ?_);refine yL 41 (Zi 5 WC) fun v41 hv41=>?_;cases hv41;refine xL 42 Za ?_;(refine Ye (kk:=1) 43 ZB fun h43 ho43=>?_;refine Zp (En.freeze (l:=43) (t:=43) rfl rfl) fun _=>?_);refine xL 44 Za ?_;(refine Ye (kk:=1) 45 ZB fun h45 ho45=>?_;refine Zp (En.freeze (l:=45) (t:=45) rfl rfl) fun _=>?_);(refine ZL [(1000,Yd b,PV.own 72 4 1 [Zc (x).pl,PV.val v,Zc 0,Zc 1]),(1001,v,PV.own 69 3 (x).tr.length ((x).tr.flatMap cTn)),(5,_,_)] ⟨rfl,rfl,rfl,trivial⟩ ?_;refine ZT [5] 46 (call60) (Ow b v _ _ x a [p] [q] oM hv) (fun v46 p46 h46 hR46=>?_);obtain ⟨w1,hw1,rfl⟩:=hR46;dsimp only [BdH];have honew1:En.one (PV.val w1)=true:=hw1);refine Ze ?_)
 refine K0 (ZF (l:=1001) rfl (show PV.own 69 3 (x.add a [p] [q]).tr.length ((x.add a [p] [q]).tr.flatMap cTn)= .own 69 3 (Yt (.mk o a l) p q x).tr.length ((Yt (.mk o a l) p q x).tr.flatMap cTn) by rw [Yt,Uo hbig,Up (hc.1 hb36)])) fun _=>?_;refine K0 (ZF (l:=1000) rfl (show PV.own 72 4 1 [Zc (x.add a [p] [q]).pl, .val w1,Zc 0,Zc 1]= .own 72 4 1 [Zc (Yt (.mk o a l) p q x).pl, .val w1,Zc 0,Zc 1] by rw [Yt,Uo hbig,Up (hc.1 hb36)])) fun _=>?_
 first
  |exact Z8 (BdH 72 b w1 (Yt (.mk o a l) p q x)) (results33) ⟨rfl,rfl,trivial⟩ ⟨w1,hw1,rfl⟩
  |exact Z8 (BdH 72 b w3 (Yt (.mk o a l) p q x)) (results33) ⟨rfl,rfl,trivial⟩ ⟨w3,hw3,rfl⟩
  |exact Z8 (BdH 72 b w4 (Yt (.mk o a l) p q x)) (results33) ⟨rfl,rfl,trivial⟩ ⟨w4,hw4,rfl⟩
  | (obtain rfl:j=l.length:=oM
     rw [hB];exact Z8 (BdH 72 b y (Yt (.mk o a l) p q x)) (results33) ⟨rfl,rfl,trivial⟩ ⟨y,hy,rfl⟩)
  |exact Uq (show o=1∨o=2 by omega) fun h=>by rw [hc.2 h] at hb36;cases hb36)
   · first | exact bN hb36|(
 refine Zf ?_;(refine xL 48 ZQ (xL 47 Zb ?_);refine Ze ?_)
 refine cX ?_ ?_<;>intro hb47
 · first | exact bN hb47|(
 refine Zf ?_;(refine xL 49 Za ?_;refine Ye (kk:=1) 50 ZB fun h50 ho50=>?_;refine xL 8 Zb ?_;refine Ze ?_)
 refine Zz (Z0 (l:=50) 200 rfl rfl) fun _=>?_;(refine Zm ?_;refine xL 51 (Zd 5 Ya) ?_;refine yL 52 (Zi 5 Yq) fun v52 hv52=>?_;cases hv52;refine xL 53 (Z1 YB) (xL 54 Gf (xL 55 Za ?_));refine Ze ?_)
 (have hc12:¬(o=1∨o=2):=fun h=>by rw [hc.2 h] at hb36;cases hb36);have hl3:=Dw hr oM;obtain ⟨m,hm⟩:∃m,l.length=m+1:=⟨l.length-1,oM⟩;refine Zz (ZF (l:=1000) rfl (show PV.own 72 4 1 [Zc x.pl, .val v,Zc 0,Zc 1]= .own 72 4 1 [Zc (x.more (0:Nat)).pl, .val v,Zc 0,Zc 1] by rw [Tj])) fun _=>?_;refine ZE (ι:={q:Nat×Value//q.1≤m∧q.2.oneCell'=true}) (fun k=>⟨[(0,_,_),(3,_,_),(5,_,_),(54,_,_),(55, .int .i64 k.1.1,Zc k.1.1),(8,k.1.2, .val k.1.2)],[(5,_,_),(200,k.1.2, .own 3 1 (p::Wa x.pl 1 k.1.1).length ((p::Wa x.pl 1 k.1.1).map Zc)),(1000,Yd b, .own 72 4 1 [Zc (x.more (k.1.1:Nat)).pl, .val v,Zc 0,Zc 1]),(1001,v, .own 69 3 x.tr.length (x.tr.flatMap cTn))]⟩) (fun k=>m-k.1.1) ⟨(0,_),Xh _,ho50⟩ (fun a w H=>H.weaken ⟨rfl,rfl,rfl,rfl,rfl,rfl,trivial⟩ ⟨rfl,rfl,rfl,rfl,trivial⟩) ?_;rintro ⟨⟨k,u⟩,hk,hu⟩;dsimp only;dsimp only at hk hu;have hrz:=W8 x.pl 1 k;have honeu:En.one (PV.val u)=true:=hu;refine Zf ?_;(refine xL 56 ZR ?_;refine Ze ?_)
 refine cX ?_ ?_<;>intro hb56
 · first|exact bN hb56|(
 refine Zf ?_;(refine xL 57 Za (xL 58 Za ?_);(refine ZL [(1000,Yd b,PV.own 72 4 1 [Zc (x.more (k:Nat)).pl,PV.val v,Zc 0,Zc 1]),(1001,v,PV.own 69 3 (x.more (k:Nat)).tr.length ((x.more (k:Nat)).tr.flatMap cTn)),(5,_,_),(200,_,_)] ⟨rfl,rfl,rfl,rfl,trivial⟩ ?_;refine ZT [5,200] 59 (call79) (LU b v (x.more (k:Nat)) (by show 0≤x.pl+_;omega) (by show x.pl+_≤_;omega) hv) (fun v59 p59 h59 hR59=>?_);obtain ⟨rfl,rfl,rfl⟩:=hR59;dsimp only [BdH];rw [Dv]);refine Ye (kk:=1) 60 ZB fun h60 ho60=>?_;(refine Kk 200 60 61 ZB fun h61 ho61=>?_;refine Zp (Z0 (l:=61) 200 rfl rfl) fun _=>?_;refine Zp (ZF (l:=200) rfl (Gp 3 (p::Wa x.pl 1 k) (z:=x.pl+1*k) (by show x.pl+(k:Int)=_;omega))) fun _=>?_;rw [Vm,←JZ]);refine xL 8 Zb ?_;refine Zn ?_)
 (refine xL 62 ZO (xL 55 Za ?_);refine Ze ?_)
 refine Zk (
  ⟨(k+1,h61),by show k+1≤m;omega,ho61⟩
  ) (by dsimp only;omega) ⟨rfl,rfl,rfl,rfl,rfl,rfl,trivial⟩ ⟨rfl,rfl,rfl,rfl,trivial⟩)
 · first | exact bN hb56|(
 refine Zf ?_;(refine xL 63 Za (xL 64 Za ?_);refine Ye (kk:=1) 65 ZB fun h65 ho65=>?_;(refine Kk 200 65 66 ZB fun h66 ho66=>?_;refine Zp (Z0 (l:=66) 200 rfl rfl) fun _=>?_;refine Zp (ZF (l:=200) rfl (Gp 3 (p::Wa x.pl 1 k) rfl)) fun _=>?_);refine xL 8 Zb ?_;refine Ze ?_)
 refine Zz (En.freeze (l:=200) (t:=8) rfl rfl) fun _=>?_;refine Zz (Yk (t:=8) rfl (WO 3 _ _ rfl)) fun _=>?_;obtain rfl:k=m:=oM;obtain ⟨Q,hP⟩:∃Q,Q=Wa x.pl 1 k++[q]:=⟨_,rfl⟩;(have hPl:Q.length=l.length:=by rw [hP];simp [W8];omega);rw [Vm,←hP];clear hk hrz;obtain ⟨Y,hY0,hYs,hYb,hYl,hYe⟩:=EU hp (p::Q) Q (x.more (k:Nat));(have hB:Y l.length=Yt (.mk o a l) p q x:=by rw [hYl,Yt,Uo hbig,Uo hc12,Up oM,hP,show l.length-1=k by omega];rfl);refine Zz (ZF (l:=1000) rfl (show PV.own 72 4 1 [Zc (x.more (k:Nat)).pl, .val v,Zc 0,Zc 1]= .own 72 4 1 [Zc (Y 0).pl, .val v,Zc 0,Zc 1] by rw [←hY0])) fun _=>?_;refine Zz (ZF (l:=1001) rfl (show PV.own 69 3 (x.more (k:Nat)).tr.length ((x.more (k:Nat)).tr.flatMap cTn)= .own 69 3 (Y 0).tr.length ((Y 0).tr.flatMap cTn) by rw [←hY0])) fun _=>?_;(refine Zm ?_;refine xL 67 (Zd 5 Ya) ?_;refine yL 68 (Zi 5 Yq) fun v68 hv68=>?_;cases hv68;refine xL 69 (Z1 YB) (xL 70 Za ?_);refine Ze ?_)
 refine ZE (ι:={q:Nat×Value//q.1≤l.length∧q.2.oneCell'=true}) (fun k=>⟨[(0,_,_),(5,_,_),(8,_,_),(68,_,_),(69,_,_),(70, .int .i64 k.1.1,Zc k.1.1)],[(5,_,_),(1000,Yd b, .own 72 4 1 [Zc (Y k.1.1).pl, .val k.1.2,Zc 0,Zc 1]),(1001,k.1.2, .own 69 3 (Y k.1.1).tr.length ((Y k.1.1).tr.flatMap cTn))]⟩) (fun k=>l.length-k.1.1) ⟨(0,_),Xh _,by assumption⟩ (fun a w H=>H.weaken ⟨rfl,rfl,rfl,rfl,rfl,rfl,trivial⟩ ⟨rfl,rfl,rfl,trivial⟩) ?_;rintro ⟨⟨j,y⟩,hj,hy⟩;dsimp only;dsimp only at hj hy;have honey:En.one (PV.val y)=true:=hy;refine Zf ?_;(refine xL 71 ZR ?_;refine Ze ?_)
 refine cX ?_ ?_<;>intro hb71
 · first|exact bN hb71|(
 obtain ⟨z,hz⟩:=Zw (show j<l.length by omega);have e1:((Z6 l).drop (j*3)).take 3=[Zc z.op,ZZ z.act,YK z.l]:=Z5 hz;have e2:=Yj hz;have hzm:=Xd hz;obtain ⟨hy1,hy2,hy3⟩:=hYb j z hz;obtain ⟨pk,hpk⟩:=Zw (show j<(p::Q).length by rw [Xc];omega);obtain ⟨qk,hqk⟩:=Zw (show j<Q.length by omega);have e3:=Y2 (f:=Zc) hpk;have e4:=Zag (l:=p::Q) (k:=j) (y:=qk) hqk;simp only [Bd.more] at hy1 hy2 hy3;refine Zf ?_;(refine xL 72 Za (xL 73 (ZP YB) ?_);refine yL 74 (Yz ZH) fun v74 hv74=>?_;cases hv74;refine ZA [(.int .i64 0),(.string ByteArray.empty),(.slice none 0 0)] 3 10 Kg fun h10=>?_;refine xL 9 Zb ?_;refine Zv 10 ZH ?_;refine Ze ?_)
 (refine ZS (fun i=>([11,11]:List Nat).elem i) [10] kR ?_<;>refine xDT 0 75 rfl Za ?_<;>(refine yDT 1 76 rfl (Zq 10 ZH) fun v76 h=>?_;cases h)<;>refine xDT 2 77 rfl Za ?_<;>refine xDT 3 78 rfl Za ?_<;>refine xDT 4 79 rfl (ZP Zs) ?_<;>(refine yDT 5 80 rfl (Yy Zo) fun v80 h=>?_;cases h)<;>refine xDT 6 81 rfl Za ?_<;>refine xE 7 82 rfl Za ?_<;>refine xE 8 83 rfl ZO ?_<;>refine xE 9 84 rfl (ZP Zs) ?_<;>(refine yE 10 85 rfl (Yy Zo) fun v85 h=>?_;cases h)<;>(refine Zl 11 kR ?_)<;>(refine WX rfl rfl kR fun DQ back=>?_)<;>(refine ZL [(1000,Yd b,PV.own 72 4 1 [Zc (Y j).pl,PV.val y,Zc 0,Zc 1]),(1001,y,PV.own 69 3 (Y j).tr.length ((Y j).tr.flatMap cTn)),(5,_,_)] ⟨rfl,rfl,rfl,trivial⟩ ?_;refine ZT [5] 86 (call33) (ih z hzm (hp z hzm) b pk qk y _ (Y j) hy oM oM oM) (fun v86 p86 h86 hR86=>?_);obtain ⟨w2,hw2,rfl⟩:=hR86;dsimp only [BdH];have honew2:En.one (PV.val w2)=true:=hw2;rw [hYs j z pk qk hz hpk hqk])<;>refine Zh (back _ (nav ?_))<;>try dsimp only)
 (refine Zm ?_;refine xL 87 ZO (xL 70 Za ?_);refine Ze ?_)
 refine Zk (
  ⟨(j+1,w2),Zg hz,hw2⟩
  ) (by dsimp only;omega) ⟨rfl,rfl,rfl,rfl,rfl,rfl,trivial⟩ ⟨rfl,rfl,rfl,trivial⟩)
 · first |exact bN hb71|(
 refine nav ?_
 first
  |exact Z8 (BdH 72 b w1 (Yt (.mk o a l) p q x)) (results33) ⟨rfl,rfl,trivial⟩ ⟨w1,hw1,rfl⟩
  |exact Z8 (BdH 72 b w3 (Yt (.mk o a l) p q x)) (results33) ⟨rfl,rfl,trivial⟩ ⟨w3,hw3,rfl⟩
  |exact Z8 (BdH 72 b w4 (Yt (.mk o a l) p q x)) (results33) ⟨rfl,rfl,trivial⟩ ⟨w4,hw4,rfl⟩
  | (obtain rfl:j=l.length:=oM
     rw [hB];exact Z8 (BdH 72 b y (Yt (.mk o a l) p q x)) (results33) ⟨rfl,rfl,trivial⟩ ⟨y,hy,rfl⟩)
  |exact Uq (show o=1∨o=2 by omega) fun h=>by rw [hc.2 h] at hb36;cases hb36)))
 · first | exact bN hb47|(
 refine Zf ?_;(refine xL 89 ZQ (xL 88 Zb ?_);refine Ze ?_)
 refine cX ?_ ?_<;>intro hb88
 · first | exact bN hb88|(
 refine Zf ?_;(refine xL 90 (Zd 5 Ya) ?_;refine yL 91 (Zi 5 Yq) fun v91 hv91=>?_;cases hv91;refine xL 92 (Z1 YB) (xL 93 Za ?_);refine Ze ?_)
 (have hc12:¬(o=1∨o=2):=fun h=>by rw [hc.2 h] at hb36;cases hb36);obtain ⟨Y,hY0,hYs,hYb,hYl,hYe⟩:=EU hp (List.replicate l.length p) (List.replicate l.length q) (x);(have hB:Y l.length=Yt (.mk o a l) p q x:=by rw [hYl,Yt,Uo hbig,Uo hc12,Uo oM,Up oM]);refine Zz (ZF (l:=1000) rfl (show PV.own 72 4 1 [Zc (x).pl, .val v,Zc 0,Zc 1]= .own 72 4 1 [Zc (Y 0).pl, .val v,Zc 0,Zc 1] by rw [←hY0])) fun _=>?_;refine Zz (ZF (l:=1001) rfl (show PV.own 69 3 (x).tr.length ((x).tr.flatMap cTn)= .own 69 3 (Y 0).tr.length ((Y 0).tr.flatMap cTn) by rw [←hY0])) fun _=>?_;refine ZE (ι:={q:Nat×Value//q.1≤l.length∧q.2.oneCell'=true}) (fun k=>⟨[(0,_,_),(2,_,_),(3,_,_),(5,_,_),(91,_,_),(92,_,_),(93, .int .i64 k.1.1,Zc k.1.1)],[(5,_,_),(1000,Yd b, .own 72 4 1 [Zc (Y k.1.1).pl, .val k.1.2,Zc 0,Zc 1]),(1001,k.1.2, .own 69 3 (Y k.1.1).tr.length ((Y k.1.1).tr.flatMap cTn))]⟩) (fun k=>l.length-k.1.1) ⟨(0,_),Xh _,by assumption⟩ (fun a w H=>H.weaken ⟨rfl,rfl,rfl,rfl,rfl,rfl,rfl,trivial⟩ ⟨rfl,rfl,rfl,trivial⟩) ?_;rintro ⟨⟨j,y⟩,hj,hy⟩;dsimp only;dsimp only at hj hy;have honey:En.one (PV.val y)=true:=hy;refine Zf ?_;(refine xL 94 ZR ?_;refine Ze ?_)
 refine cX ?_ ?_<;>intro hb94
 · first|exact bN hb94|(
 obtain ⟨z,hz⟩:=Zw (show j<l.length by omega);have e1:((Z6 l).drop (j*3)).take 3=[Zc z.op,ZZ z.act,YK z.l]:=Z5 hz;have e2:=Yj hz;have hzm:=Xd hz;obtain ⟨hy1,hy2,hy3⟩:=hYb j z hz;(have hpk:(List.replicate l.length p)[j]? =some p:=by rw [V5,Up (Zg hz)]);(have hqk:(List.replicate l.length q)[j]? =some q:=by rw [V5,Up (Zg hz)]);refine Zf ?_;(refine xL 95 (ZP YB) ?_;refine yL 96 (Yz ZH) fun v96 hv96=>?_;cases hv96;refine ZA [(.int .i64 0),(.string ByteArray.empty),(.slice none 0 0)] 3 12 Kg fun h12=>?_;refine Zv 12 ZH ?_;refine Zn ?_)
 (refine xL 97 Za ?_;refine yL 98 (Zq 12 ZH) fun v98 hv98=>?_;cases hv98;refine xL 99 Za (xL 100 Za ?_);(refine ZL [(1000,Yd b,PV.own 72 4 1 [Zc (Y j).pl,PV.val y,Zc 0,Zc 1]),(1001,y,PV.own 69 3 (Y j).tr.length ((Y j).tr.flatMap cTn)),(5,_,_),(12,_,_)] ⟨rfl,rfl,rfl,rfl,trivial⟩ ?_;refine ZT [5,12] 101 (call33) (ih z hzm (hp z hzm) b p q y _ (Y j) hy oM oM oM) (fun v101 p101 h101 hR101=>?_);obtain ⟨w2,hw2,rfl⟩:=hR101;dsimp only [BdH];have honew2:En.one (PV.val w2)=true:=hw2;rw [hYs j z p q hz hpk hqk]);refine Zn ?_)
 (refine xL 102 ZO (xL 93 Za ?_);refine Ze ?_)
 refine Zk (
  ⟨(j+1,w2),Zg hz,hw2⟩
  ) (by dsimp only;omega) ⟨rfl,rfl,rfl,rfl,rfl,rfl,rfl,trivial⟩ ⟨rfl,rfl,rfl,trivial⟩)
 · first |exact bN hb94|(
 refine nav ?_
 first
  |exact Z8 (BdH 72 b w1 (Yt (.mk o a l) p q x)) (results33) ⟨rfl,rfl,trivial⟩ ⟨w1,hw1,rfl⟩
  |exact Z8 (BdH 72 b w3 (Yt (.mk o a l) p q x)) (results33) ⟨rfl,rfl,trivial⟩ ⟨w3,hw3,rfl⟩
  |exact Z8 (BdH 72 b w4 (Yt (.mk o a l) p q x)) (results33) ⟨rfl,rfl,trivial⟩ ⟨w4,hw4,rfl⟩
  | (obtain rfl:j=l.length:=oM
     rw [hB];exact Z8 (BdH 72 b y (Yt (.mk o a l) p q x)) (results33) ⟨rfl,rfl,trivial⟩ ⟨y,hy,rfl⟩)
  |exact Uq (show o=1∨o=2 by omega) fun h=>by rw [hc.2 h] at hb36;cases hb36))
 · first | exact bN hb88|(
 refine Zf ?_;(refine xL 104 ZQ (xL 103 Zb ?_);refine Ze ?_)
 refine cX ?_ ?_<;>intro hb103
 · first | exact bN hb103|(
 refine Zf ?_;(refine xL 13 Zb (xL 14 Zb ?_);refine Ze ?_)
 refine Zz (WF 200 3 1 rfl) fun _=>?_;refine Zz (WF 201 3 1 rfl) fun _=>?_;(refine Zm ?_;refine xL 105 (Zd 5 Ya) ?_;refine yL 106 (Zi 5 Yq) fun v106 hv106=>?_;cases hv106;refine xL 107 (Z1 YB) (xL 108 Za ?_);refine Ze ?_)
 (have hc12:¬(o=1∨o=2):=fun h=>by rw [hc.2 h] at hb36;cases hb36);refine Zz (ZF (l:=1000) rfl (show PV.own 72 4 1 [Zc x.pl, .val v,Zc 0,Zc 1]= .own 72 4 1 [Zc (x.more (2*0:Nat)).pl, .val v,Zc 0,Zc 1] by rw [Nat.mul_zero,Tj])) fun _=>?_;refine ZE (ι:={q:Nat×Value×Value//q.1≤l.length∧q.2.1.oneCell'=true∧q.2.2.oneCell'=true}) (fun k=>⟨[(0,_,_),(2,_,_),(3,_,_),(5,_,_),(107,_,_),(108, .int .i64 k.1.1,Zc k.1.1),(13,k.1.2.1, .val k.1.2.1),(14,k.1.2.2, .val k.1.2.2)],[(5,_,_),(200,k.1.2.1, .own 3 1 (Wa x.pl 2 k.1.1).length ((Wa x.pl 2 k.1.1).map Zc)),(201,k.1.2.2, .own 3 1 (Wa (x.pl+1) 2 k.1.1).length ((Wa (x.pl+1) 2 k.1.1).map Zc)),(1000,Yd b, .own 72 4 1 [Zc (x.more (2*k.1.1:Nat)).pl, .val v,Zc 0,Zc 1]),(1001,v, .own 69 3 x.tr.length (x.tr.flatMap cTn))]⟩) (fun k=>l.length-k.1.1) ⟨(0, .slice none 0 0, .slice none 0 0),Xh _,rfl,rfl⟩ (fun a w H=>H.weaken ⟨rfl,rfl,rfl,rfl,rfl,rfl,rfl,rfl,trivial⟩ ⟨rfl,rfl,rfl,rfl,rfl,trivial⟩) ?_;rintro ⟨⟨k,u,s⟩,hk,hu,hs⟩;dsimp only;dsimp only at hk hu hs;have hrz:=W8 x.pl 2 k;have hrz':=W8 (x.pl+1) 2 k;have honeu:En.one (PV.val u)=true:=hu;have hones:En.one (PV.val s)=true:=hs;refine Zf ?_;(refine xL 109 ZR ?_;refine Ze ?_)
 refine cX ?_ ?_<;>intro hb109
 · first|exact bN hb109|(
 refine Zf ?_;(refine xL 110 Za (xL 111 Za ?_);(refine ZL [(1000,Yd b,PV.own 72 4 1 [Zc (x.more (2*k:Nat)).pl,PV.val v,Zc 0,Zc 1]),(1001,v,PV.own 69 3 (x.more (2*k:Nat)).tr.length ((x.more (2*k:Nat)).tr.flatMap cTn)),(5,_,_),(200,_,_),(201,_,_)] ⟨rfl,rfl,rfl,rfl,rfl,trivial⟩ ?_;refine ZT [5,200,201] 112 (call79) (LU b v (x.more (2*k:Nat)) (by show 0≤x.pl+_;omega) (by show x.pl+_≤_;omega) hv) (fun v112 p112 h112 hR112=>?_);obtain ⟨rfl,rfl,rfl⟩:=hR112;dsimp only [BdH]);refine Ye (kk:=1) 113 ZB fun h113 ho113=>?_;(refine Kk 200 113 114 ZB fun h114 ho114=>?_;refine Zp (Z0 (l:=114) 200 rfl rfl) fun _=>?_;refine Zp (ZF (l:=200) rfl (Gp 3 (Wa x.pl 2 k) (z:=x.pl+2*k) (by show x.pl+((2*k:Nat):Int)=_;omega))) fun _=>?_;rw [←JZ];have hone114:En.one (PV.val h114)=true:=ho114);refine xL 13 Zb ?_;refine Zn ?_)
 (refine xL 115 Za (xL 116 Za ?_);(refine ZL [(1000,Yd b,PV.own 72 4 1 [Zc ((x.more (2*k:Nat)).more 1).pl,PV.val v,Zc 0,Zc 1]),(1001,v,PV.own 69 3 ((x.more (2*k:Nat)).more 1).tr.length (((x.more (2*k:Nat)).more 1).tr.flatMap cTn)),(5,_,_),(200,_,_),(201,_,_)] ⟨rfl,rfl,rfl,rfl,rfl,trivial⟩ ?_;refine ZT [5,200,201] 117 (call79) (LU b v ((x.more (2*k:Nat)).more 1) (by show 0≤x.pl+_+1;omega) (by show x.pl+_+1≤_;omega) hv) (fun v117 p117 h117 hR117=>?_);obtain ⟨rfl,rfl,rfl⟩:=hR117;dsimp only [BdH];rw [E9]);refine Ye (kk:=1) 118 ZB fun h118 ho118=>?_;(refine Kk 201 118 119 ZB fun h119 ho119=>?_;refine Zp (Z0 (l:=119) 201 rfl rfl) fun _=>?_;refine Zp (ZF (l:=201) rfl (Gp 3 (Wa (x.pl+1) 2 k) (z:=x.pl+1+2*k) (by show x.pl+((2*k:Nat):Int)+1=_;omega))) fun _=>?_;rw [←JZ]);refine xL 14 Zb ?_;refine Zn ?_)
 (refine xL 120 ZO (xL 108 Za ?_);refine Ze ?_)
 refine Zk (
  ⟨(k+1,h114,h119),by show k+1≤l.length;omega,ho114,ho119⟩
  ) (by dsimp only;omega) ⟨rfl,rfl,rfl,rfl,rfl,rfl,rfl,rfl,trivial⟩ ⟨rfl,rfl,rfl,rfl,rfl,trivial⟩)
 · first | exact bN hb109|(
 refine nav ?_;obtain rfl:k=l.length:=oM;refine Zz (En.freeze (l:=200) (t:=13) rfl rfl) fun _=>?_;refine Zz (Yk (t:=13) rfl (WO 3 _ _ rfl)) fun _=>?_;refine Zz (En.freeze (l:=201) (t:=14) rfl rfl) fun _=>?_;refine Zz (Yk (t:=14) rfl (WO 3 _ _ rfl)) fun _=>?_;(refine Zm ?_;refine xL 121 Za (xL 122 Za ?_);(refine Ye (kk:=1) 123 ZB fun h123 ho123=>?_;refine Zp (En.freeze (l:=123) (t:=123) rfl rfl) fun _=>?_);refine xL 124 Za ?_;(refine ZL [(1000,Yd b,PV.own 72 4 1 [Zc (x.more (2*l.length:Nat)).pl,PV.val v,Zc 0,Zc 1]),(1001,v,PV.own 69 3 (x.more (2*l.length:Nat)).tr.length ((x.more (2*l.length:Nat)).tr.flatMap cTn)),(5,_,_)] ⟨rfl,rfl,rfl,trivial⟩ ?_;refine ZT [5] 125 (call60) (Ow b v _ _ (x.more (2*l.length:Nat)) ByteArray.empty [p] (Wa x.pl 2 l.length) (by show x.tr.length≤_;omega) hv) (fun v125 p125 h125 hR125=>?_);obtain ⟨w1,hw1,rfl⟩:=hR125;dsimp only [BdH];have honew1:En.one (PV.val w1)=true:=hw1);refine Ze ?_)
 obtain ⟨Y,hY0,hYs,hYb,hYl,hYe⟩:=EU hp (Wa x.pl 2 l.length) (Wa (x.pl+1) 2 l.length) ((x.more (2*l.length:Nat)).add ByteArray.empty [p] (Wa x.pl 2 l.length));(have hB:(Y l.length).add ByteArray.empty (Wa (x.pl+1) 2 l.length) [q]=Yt (.mk o a l) p q x:=by rw [hYl,Yt,Uo hbig,Uo hc12,Uo oM,Uo oM,Up oM]);refine Zz (ZF (l:=1000) rfl (show PV.own 72 4 1 [Zc ((x.more (2*l.length:Nat)).add ByteArray.empty [p] (Wa x.pl 2 l.length)).pl, .val w1,Zc 0,Zc 1]= .own 72 4 1 [Zc (Y 0).pl, .val w1,Zc 0,Zc 1] by rw [←hY0])) fun _=>?_;refine Zz (ZF (l:=1001) rfl (show PV.own 69 3 ((x.more (2*l.length:Nat)).add ByteArray.empty [p] (Wa x.pl 2 l.length)).tr.length (((x.more (2*l.length:Nat)).add ByteArray.empty [p] (Wa x.pl 2 l.length)).tr.flatMap cTn)= .own 69 3 (Y 0).tr.length ((Y 0).tr.flatMap cTn) by rw [←hY0])) fun _=>?_;(refine Zm ?_;refine xL 126 (Zd 5 Ya) ?_;refine yL 127 (Zi 5 Yq) fun v127 hv127=>?_;cases hv127;refine xL 128 (Z1 YB) (xL 129 Za ?_);refine Ze ?_)
 clear hk hrz hrz';refine ZE (ι:={q:Nat×Value//q.1≤l.length∧q.2.oneCell'=true}) (fun k=>⟨[(0,_,_),(3,_,_),(5,_,_),(13,_,_),(14,_,_),(127,_,_),(128,_,_),(129, .int .i64 k.1.1,Zc k.1.1)],[(5,_,_),(1000,Yd b, .own 72 4 1 [Zc (Y k.1.1).pl, .val k.1.2,Zc 0,Zc 1]),(1001,k.1.2, .own 69 3 (Y k.1.1).tr.length ((Y k.1.1).tr.flatMap cTn))]⟩) (fun k=>l.length-k.1.1) ⟨(0,_),Xh _,by assumption⟩ (fun a w H=>H.weaken ⟨rfl,rfl,rfl,rfl,rfl,rfl,rfl,rfl,trivial⟩ ⟨rfl,rfl,rfl,trivial⟩) ?_;rintro ⟨⟨j,y⟩,hj,hy⟩;dsimp only;dsimp only at hj hy;have honey:En.one (PV.val y)=true:=hy;refine Zf ?_;(refine xL 130 ZR ?_;refine Ze ?_)
 refine cX ?_ ?_<;>intro hb130
 · first|exact bN hb130|(
 obtain ⟨z,hz⟩:=Zw (show j<l.length by omega);have e1:((Z6 l).drop (j*3)).take 3=[Zc z.op,ZZ z.act,YK z.l]:=Z5 hz;have e2:=Yj hz;have hzm:=Xd hz;obtain ⟨hy1,hy2,hy3⟩:=hYb j z hz;have hpk:=Pk (p:=x.pl) (d:=2) (Zg hz);have hrl:=W8 x.pl 2 l.length;have hrl':=W8 (x.pl+1) 2 l.length;have hqk:=Pk (p:=x.pl+1) (d:=2) (Zg hz);have e3:=Y2 (f:=Zc) hpk;have e4:=Y2 (f:=Zc) hqk;simp only [Bd.more,Bd.add,Xg,Xc,Xk] at hy1 hy2 hy3;refine Zf ?_;(refine xL 131 Za (xL 132 (ZP YB) ?_);refine yL 133 (Yz ZH) fun v133 hv133=>?_;cases hv133;refine ZA [(.int .i64 0),(.string ByteArray.empty),(.slice none 0 0)] 3 16 Kg fun h16=>?_;refine xL 15 Zb ?_;refine Zv 16 ZH ?_;refine Ze ?_)
 (refine ZS (fun i=>([10,10]:List Nat).elem i) [16] kR ?_<;>refine xDT 0 134 rfl Za ?_<;>(refine yDT 1 135 rfl (Zq 16 ZH) fun v135 h=>?_;cases h)<;>refine xDT 2 136 rfl Za ?_<;>refine xDT 3 137 rfl Za ?_<;>refine xDT 4 138 rfl (ZP Zs) ?_<;>(refine yDT 5 139 rfl (Yy Zo) fun v139 h=>?_;cases h)<;>refine xDT 6 140 rfl Za ?_<;>refine xE 7 141 rfl Za ?_<;>refine xE 8 142 rfl (ZP Zs) ?_<;>(refine yE 9 143 rfl (Yy Zo) fun v143 h=>?_;cases h)<;>(refine Zl 10 kR ?_)<;>(refine WX rfl rfl kR fun DQ back=>?_)<;>(refine ZL [(1000,Yd b,PV.own 72 4 1 [Zc (Y j).pl,PV.val y,Zc 0,Zc 1]),(1001,y,PV.own 69 3 (Y j).tr.length ((Y j).tr.flatMap cTn)),(5,_,_)] ⟨rfl,rfl,rfl,trivial⟩ ?_;refine ZT [5] 144 (call33) (ih z hzm (hp z hzm) b (x.pl+2*j) (x.pl+1+2*j) y _ (Y j) hy oM oM oM) (fun v144 p144 h144 hR144=>?_);obtain ⟨w2,hw2,rfl⟩:=hR144;dsimp only [BdH];have honew2:En.one (PV.val w2)=true:=hw2;rw [hYs j z (x.pl+2*j) (x.pl+1+2*j) hz hpk hqk])<;>refine Zh (back _ (nav ?_))<;>try dsimp only)
 (refine Zm ?_;refine xL 145 ZO (xL 129 Za ?_);refine Ze ?_)
 refine Zk (
  ⟨(j+1,w2),Zg hz,hw2⟩
  ) (by dsimp only;omega) ⟨rfl,rfl,rfl,rfl,rfl,rfl,rfl,rfl,trivial⟩ ⟨rfl,rfl,rfl,trivial⟩)
 · first |exact bN hb130|(
 refine nav ?_;obtain rfl:j=l.length:=oM;simp only [Bd.more,Bd.add,Xg,Xc,Xk] at hYe;(refine Zm ?_;refine xL 146 Za (xL 147 Za (xL 148 Za ?_));(refine Ye (kk:=1) 149 ZB fun h149 ho149=>?_;refine Zp (En.freeze (l:=149) (t:=149) rfl rfl) fun _=>?_);(refine ZL [(1000,Yd b,PV.own 72 4 1 [Zc (Y l.length).pl,PV.val y,Zc 0,Zc 1]),(1001,y,PV.own 69 3 (Y l.length).tr.length ((Y l.length).tr.flatMap cTn)),(5,_,_)] ⟨rfl,rfl,rfl,trivial⟩ ?_;refine ZT [5] 150 (call60) (Ow b y _ _ (Y l.length) ByteArray.empty (Wa (x.pl+1) 2 l.length) [q] oM hy) (fun v150 p150 h150 hR150=>?_);obtain ⟨w3,hw3,rfl⟩:=hR150;dsimp only [BdH];have honew3:En.one (PV.val w3)=true:=hw3;rw [hB]);refine Ze ?_)
 first
  |exact Z8 (BdH 72 b w1 (Yt (.mk o a l) p q x)) (results33) ⟨rfl,rfl,trivial⟩ ⟨w1,hw1,rfl⟩
  |exact Z8 (BdH 72 b w3 (Yt (.mk o a l) p q x)) (results33) ⟨rfl,rfl,trivial⟩ ⟨w3,hw3,rfl⟩
  |exact Z8 (BdH 72 b w4 (Yt (.mk o a l) p q x)) (results33) ⟨rfl,rfl,trivial⟩ ⟨w4,hw4,rfl⟩
  | (obtain rfl:j=l.length:=oM
     rw [hB];exact Z8 (BdH 72 b y (Yt (.mk o a l) p q x)) (results33) ⟨rfl,rfl,trivial⟩ ⟨y,hy,rfl⟩)
  |exact Uq (show o=1∨o=2 by omega) fun h=>by rw [hc.2 h] at hb36;cases hb36)))
 · first | exact bN hb103|(
 refine Zf ?_;(refine xL 152 ZQ (xL 151 Zb ?_);refine Ze ?_)
 refine cX ?_ ?_<;>intro hb151
 · first |exact bN hb151|(
 refine Zf ?_;(refine xL 153 Za ?_;(refine ZL [(1000,Yd b,PV.own 72 4 1 [Zc (x).pl,PV.val v,Zc 0,Zc 1]),(1001,v,PV.own 69 3 (x).tr.length ((x).tr.flatMap cTn)),(5,_,_)] ⟨rfl,rfl,rfl,trivial⟩ ?_;refine ZT [5] 154 (call79) (LU b v (x) h0 oM hv) (fun v154 p154 h154 hR154=>?_);obtain ⟨rfl,rfl,rfl⟩:=hR154;dsimp only [BdH]);refine xL 155 Za ?_;(refine ZL [(1000,Yd b,PV.own 72 4 1 [Zc (x.more 1).pl,PV.val v,Zc 0,Zc 1]),(1001,v,PV.own 69 3 (x.more 1).tr.length ((x.more 1).tr.flatMap cTn)),(5,_,_)] ⟨rfl,rfl,rfl,trivial⟩ ?_;refine ZT [5] 156 (call79) (LU b v (x.more 1) (by show 0≤x.pl+1;omega) (by show x.pl+1≤_;omega) hv) (fun v156 p156 h156 hR156=>?_);obtain ⟨rfl,rfl,rfl⟩:=hR156;dsimp only [BdH];rw [ZaB]);refine xL 17 Zb (xL 18 Zb ?_);refine Zn ?_)
 (refine xL 157 Za (xL 158 Za ?_);(refine Ye (kk:=1) 159 ZB fun h159 ho159=>?_;refine Zp (En.freeze (l:=159) (t:=159) rfl rfl) fun _=>?_);refine xL 160 Za ?_;(refine Ye (kk:=1) 161 ZB fun h161 ho161=>?_;refine Zp (En.freeze (l:=161) (t:=161) rfl rfl) fun _=>?_);(refine ZL [(1000,Yd b,PV.own 72 4 1 [Zc (x.more 2).pl,PV.val v,Zc 0,Zc 1]),(1001,v,PV.own 69 3 (x.more 2).tr.length ((x.more 2).tr.flatMap cTn)),(5,_,_)] ⟨rfl,rfl,rfl,trivial⟩ ?_;refine ZT [5] 162 (call60) (Ow b v _ _ (x.more 2) ByteArray.empty [p] [x.pl] (by show x.tr.length≤_;omega) hv) (fun v162 p162 h162 hR162=>?_);obtain ⟨w1,hw1,rfl⟩:=hR162;dsimp only [BdH];have honew1:En.one (PV.val w1)=true:=hw1);refine Ze ?_)
 (have hc12:¬(o=1∨o=2):=fun h=>by rw [hc.2 h] at hb36;cases hb36);have hl2:=Dx hr oM;obtain ⟨z0,hz0⟩:=Zw (show 0<l.length by omega);obtain ⟨z1,hz1⟩:=Zw (show 1<l.length by omega);have e1:((Z6 l).drop (0*3)).take 3=[Zc z0.op,ZZ z0.act,YK z0.l]:=Z5 hz0;have e2:0*3+3≤(Z6 l).length:=Yj hz0;have e3:((Z6 l).drop (1*3)).take 3=[Zc z1.op,ZZ z1.act,YK z1.l]:=Z5 hz1;have e4:1*3+3≤(Z6 l).length:=Yj hz1;have hz0m:=Xd hz0;have hz1m:=Xd hz1;obtain ⟨Y,hY0,hYs,hYb,hYl,hYe⟩:=EU hp [x.pl,x.pl+1] [x.pl+1,x.pl] ((x.more 2).add ByteArray.empty [p] [x.pl]);(have hB:(Y 2).add ByteArray.empty [x.pl+1] [q]=Yt (.mk o a l) p q x:=by rw [←hl2,hYl,Yt,Uo hbig,Uo hc12,Uo oM,Uo oM,Uo oM,Up oM]);obtain ⟨a1,a2,a3⟩:=hYb 0 z0 hz0;obtain ⟨b1,b2,b3⟩:=hYb 1 z1 hz1;rw [hl2] at hYe;simp only [Bd.more,Bd.add,Xg,Xc,Xk] at a1 a2 a3 b1 b2 b3 hYe;refine Zz (ZF (l:=1000) rfl (show PV.own 72 4 1 [Zc ((x.more 2).add ByteArray.empty [p] [x.pl]).pl, .val w1,Zc 0,Zc 1]= .own 72 4 1 [Zc (Y 0).pl, .val w1,Zc 0,Zc 1] by rw [←hY0])) fun _=>?_;refine Zz (ZF (l:=1001) rfl (show PV.own 69 3 ((x.more 2).add ByteArray.empty [p] [x.pl]).tr.length (((x.more 2).add ByteArray.empty [p] [x.pl]).tr.flatMap cTn)= .own 69 3 (Y 0).tr.length ((Y 0).tr.flatMap cTn) by rw [←hY0])) fun _=>?_;(refine Zm ?_;refine xL 163 Za (xL 164 (Zd 5 Ya) ?_);refine yL 165 (Zi 5 Yq) fun v165 hv165=>?_;cases hv165;refine xL 166 (ZP YB) ?_;refine yL 167 (Yz ZH) fun v167 hv167=>?_;cases hv167;refine xL 168 Za (xL 169 Za ?_);(refine ZL [(1000,Yd b,PV.own 72 4 1 [Zc (Y 0).pl,PV.val w1,Zc 0,Zc 1]),(1001,w1,PV.own 69 3 (Y 0).tr.length ((Y 0).tr.flatMap cTn)),(5,_,_)] ⟨rfl,rfl,rfl,trivial⟩ ?_;refine ZT [5] 170 (call33) (ih z0 hz0m (hp z0 hz0m) b x.pl (x.pl+1) w1 _ (Y 0) hw1 oM oM oM) (fun v170 p170 h170 hR170=>?_);obtain ⟨w2,hw2,rfl⟩:=hR170;dsimp only [BdH];have honew2:En.one (PV.val w2)=true:=hw2;rw [hYs 0 z0 x.pl (x.pl+1) hz0 rfl rfl]);refine Zn ?_)
 (refine xL 171 Za (xL 172 (Zd 5 Ya) ?_);refine yL 173 (Zi 5 Yq) fun v173 hv173=>?_;cases hv173;refine xL 174 (ZP YB) ?_;refine yL 175 (Yz ZH) fun v175 hv175=>?_;cases hv175;refine xL 176 Za (xL 177 Za ?_);(refine ZL [(1000,Yd b,PV.own 72 4 1 [Zc (Y 1).pl,PV.val w2,Zc 0,Zc 1]),(1001,w2,PV.own 69 3 (Y 1).tr.length ((Y 1).tr.flatMap cTn)),(5,_,_)] ⟨rfl,rfl,rfl,trivial⟩ ?_;refine ZT [5] 178 (call33) (ih z1 hz1m (hp z1 hz1m) b (x.pl+1) x.pl w2 _ (Y 1) hw2 oM oM oM) (fun v178 p178 h178 hR178=>?_);obtain ⟨w3,hw3,rfl⟩:=hR178;dsimp only [BdH];have honew3:En.one (PV.val w3)=true:=hw3;rw [hYs 1 z1 (x.pl+1) x.pl hz1 rfl rfl]);refine Zn ?_)
 (refine xL 179 Za (xL 180 Za ?_);(refine Ye (kk:=1) 181 ZB fun h181 ho181=>?_;refine Zp (En.freeze (l:=181) (t:=181) rfl rfl) fun _=>?_);refine xL 182 Za ?_;(refine Ye (kk:=1) 183 ZB fun h183 ho183=>?_;refine Zp (En.freeze (l:=183) (t:=183) rfl rfl) fun _=>?_);(refine ZL [(1000,Yd b,PV.own 72 4 1 [Zc (Y 2).pl,PV.val w3,Zc 0,Zc 1]),(1001,w3,PV.own 69 3 (Y 2).tr.length ((Y 2).tr.flatMap cTn)),(5,_,_)] ⟨rfl,rfl,rfl,trivial⟩ ?_;refine ZT [5] 184 (call60) (Ow b w3 _ _ (Y 2) ByteArray.empty [x.pl+1] [q] oM hw3) (fun v184 p184 h184 hR184=>?_);obtain ⟨w4,hw4,rfl⟩:=hR184;dsimp only [BdH];have honew4:En.one (PV.val w4)=true:=hw4;rw [hB]);refine Ze ?_)
 first
  |exact Z8 (BdH 72 b w1 (Yt (.mk o a l) p q x)) (results33) ⟨rfl,rfl,trivial⟩ ⟨w1,hw1,rfl⟩
  |exact Z8 (BdH 72 b w3 (Yt (.mk o a l) p q x)) (results33) ⟨rfl,rfl,trivial⟩ ⟨w3,hw3,rfl⟩
  |exact Z8 (BdH 72 b w4 (Yt (.mk o a l) p q x)) (results33) ⟨rfl,rfl,trivial⟩ ⟨w4,hw4,rfl⟩
  | (obtain rfl:j=l.length:=oM
     rw [hB];exact Z8 (BdH 72 b y (Yt (.mk o a l) p q x)) (results33) ⟨rfl,rfl,trivial⟩ ⟨y,hy,rfl⟩)
  |exact Uq (show o=1∨o=2 by omega) fun h=>by rw [hc.2 h] at hb36;cases hb36)
 · first |exact bN hb151|(
 refine nav ?_
 first
  |exact Z8 (BdH 72 b w1 (Yt (.mk o a l) p q x)) (results33) ⟨rfl,rfl,trivial⟩ ⟨w1,hw1,rfl⟩
  |exact Z8 (BdH 72 b w3 (Yt (.mk o a l) p q x)) (results33) ⟨rfl,rfl,trivial⟩ ⟨w3,hw3,rfl⟩
  |exact Z8 (BdH 72 b w4 (Yt (.mk o a l) p q x)) (results33) ⟨rfl,rfl,trivial⟩ ⟨w4,hw4,rfl⟩
  | (obtain rfl:j=l.length:=oM
     rw [hB];exact Z8 (BdH 72 b y (Yt (.mk o a l) p q x)) (results33) ⟨rfl,rfl,trivial⟩ ⟨y,hy,rfl⟩)
  |exact Uq (show o=1∨o=2 by omega) fun h=>by rw [hc.2 h] at hb36;cases hb36)))))))
set_option maxHeartbeats 4000000 in
theorem ZbY : ∀ t : Nd, okT t =true→∀(b:Nat) (p q:Int) (v V:Value) (x:Bd),v.oneCell'=true→0≤x.pl→x.pl+2*szT t≤900000→x.tr.length+2*szT t≤900000→AFh False prog 36 [(0,ZX b, .val (ZX b)),(1,V,pTr t),(2, .int .i64 p,Zc p),(3, .int .i64 q,Zc q)] (BdH 77 b v x) (fun _ _ h=>∃v',v'.oneCell'=true∧h=BdH 77 b v' (Yt t p q x)):=Nd.ind fun o a l ih hok b p q v V x hv h0 h1 h2=>by
 obtain ⟨hr,hp⟩:=Kz.1 hok
 have hops:=GB hr
 have hsz:szT (.mk o a l)=1+szL l:=by rw [szT]
 have hlz:=Hq l
 have hone:En.one (PV.val v)=true:=hv
 simp only [Nd.l,Nd.act,Nd.op] at hp hops
 have e0:pTr (.mk o a l)= .agg [Zc o,ZZ a,YK l]:=rfl
 rw [e0]
 unfold BdH
 refine AFh.of_body 190 func36 rfl ntmps36 (Xa rfl) rfl ?_
 intro w0 M0 N0
 refine Zf ?_
 (refine Yv 5 3 fun h5=>?_;refine Zn ?_)
 (refine xL 18 Za (xL 19 (ZC 1000) (xL 20 (Zd 1000 WP) (xL 21 (Zd 1000 Z2) ?_)))<;>(refine yL 22 (Zi 1000 Zo) fun v22 h=>?_;cases h)<;>refine xL 23 Wy (xL 24 Za ?_)<;>(refine bLd 24 (fun hb24=>?_) (fun hb24=>?_)<;>(first|refine kL 25 ?_|refine xL 25 Za ?_))<;>(first|refine kL 26 ?_|refine xL 26 (ZC 1000) ?_)<;>(first|refine kL 27 ?_|refine xL 27 (Zd 1000 WP) ?_)<;>(first|refine kL 28 ?_|refine xL 28 (Zd 1000 ZD) ?_)<;>(first|refine kL 29 ?_|(refine yL 29 (Zi 1000 ZN) fun v29 h=>?_;cases h))<;>(first|refine kL 30 ?_|refine xL 30 (YV 1001 ZI) ?_)<;>(first|refine kL 31 ?_|refine xL 31 Wy ?_)<;>refine xL 32 Zu ?_<;>refine Ze ?_)<;>(
 refine cX ?_ ?_<;>intro hb32
 · first|exact bN hb32|(
 refine nav ?_;refine G3 (BdH 77 b v x) (results36) ⟨rfl,rfl,trivial⟩ ⟨v,hv,?_⟩;rw [Yt,Up oM];rfl)
 · first | exact bN hb32 | (
 have hbig:¬(60<x.tr.length∨40<x.pl):=oM;refine Zf ?_;(refine xL 33 (Zd 5 RN) ?_;refine yL 34 (Zi 5 Zo) fun v34 hv34=>?_;cases hv34;refine Zn ?_)
 (refine xL 68 ZQ (xL 67 Zb ?_);refine Ze ?_)
 refine Kj (fun c:{c:Bool//c=true↔(o=1∨o=2)}=>⟨[(0,ZX b, .val (ZX b)),(2, .int .i64 p,Zc p),(3, .int .i64 q,Zc q),(5,padd (sbase h5) 0, .val (padd (sbase h5) 0)),(34, .int .i64 o,Zc o),(67, .bool c.1, .val (.bool c.1))],[(5,h5, .own 24 3 1 [Zc o,ZZ a,YK l]),(1000,Yd b,PV.own 77 4 1 [Zc (x).pl,PV.val v,Zc 0,Zc 1]),(1001,v,PV.own 69 3 (x).tr.length ((x).tr.flatMap cTn))]⟩) ?_ ?_
 · refine cX ?_ ?_<;>intro hb67
   · first|exact bN hb67|(
 refine nav ?_
 first
  |exact ZW ⟨decide (o=1),by simp [hb67]⟩ ⟨rfl,rfl,rfl,rfl,rfl,rfl,trivial⟩ ⟨rfl,rfl,rfl,trivial⟩
  |exact ZW ⟨decide (o=2),by simp [hb67]⟩ ⟨rfl,rfl,rfl,rfl,rfl,rfl,trivial⟩ ⟨rfl,rfl,rfl,trivial⟩)
   · first|exact bN hb67|(
 refine Zf ?_;(refine xL 69 ZQ (xL 67 Zb ?_);refine Ze ?_)
 first
  |exact ZW ⟨decide (o=1),by simp [hb67]⟩ ⟨rfl,rfl,rfl,rfl,rfl,rfl,trivial⟩ ⟨rfl,rfl,rfl,trivial⟩
  |exact ZW ⟨decide (o=2),by simp [hb67]⟩ ⟨rfl,rfl,rfl,rfl,rfl,rfl,trivial⟩ ⟨rfl,rfl,rfl,trivial⟩)
 · rintro ⟨c, hc⟩;dsimp only;refine nav ?_;refine cX ?_ ?_<;>intro hb67
   · first |exact bN hb67|(
 refine Zf ?_;(refine xL 70 Za (xL 71 (Zd 5 LS) ?_);refine yL 72 (Zi 5 WC) fun v72 hv72=>?_;cases hv72;refine xL 73 Za ?_;(refine Ye (kk:=1) 74 ZB fun h74 ho74=>?_;refine Zp (En.freeze (l:=74) (t:=74) rfl rfl) fun _=>?_);refine xL 75 Za ?_;(refine Ye (kk:=1) 76 ZB fun h76 ho76=>?_;refine Zp (En.freeze (l:=76) (t:=76) rfl rfl) fun _=>?_);(refine ZL [(1000,Yd b,PV.own 77 4 1 [Zc (x).pl,PV.val v,Zc 0,Zc 1]),(1001,v,PV.own 69 3 (x).tr.length ((x).tr.flatMap cTn)),(5,_,_)] ⟨rfl,rfl,rfl,trivial⟩ ?_;refine ZT [5] 77 (call62) (SB b v _ _ x a [p] [q] oM hv) (fun v77 p77 h77 hR77=>?_);obtain ⟨w1,hw1,rfl⟩:=hR77;dsimp only [BdH];have honew1:En.one (PV.val w1)=true:=hw1);refine Ze ?_)
 refine K0 (ZF (l:=1001) rfl (show PV.own 69 3 (x.add a [p] [q]).tr.length ((x.add a [p] [q]).tr.flatMap cTn)= .own 69 3 (Yt (.mk o a l) p q x).tr.length ((Yt (.mk o a l) p q x).tr.flatMap cTn) by rw [Yt,Uo hbig,Up (hc.1 hb67)])) fun _=>?_;refine K0 (ZF (l:=1000) rfl (show PV.own 77 4 1 [Zc (x.add a [p] [q]).pl, .val w1,Zc 0,Zc 1]= .own 77 4 1 [Zc (Yt (.mk o a l) p q x).pl, .val w1,Zc 0,Zc 1] by rw [Yt,Uo hbig,Up (hc.1 hb67)])) fun _=>?_
 first
  |exact Z8 (BdH 77 b w1 (Yt (.mk o a l) p q x)) (results36) ⟨rfl,rfl,trivial⟩ ⟨w1,hw1,rfl⟩
  |exact Z8 (BdH 77 b w3 (Yt (.mk o a l) p q x)) (results36) ⟨rfl,rfl,trivial⟩ ⟨w3,hw3,rfl⟩
  |exact Z8 (BdH 77 b w4 (Yt (.mk o a l) p q x)) (results36) ⟨rfl,rfl,trivial⟩ ⟨w4,hw4,rfl⟩
  | (obtain rfl:j=l.length:=oM
     rw [hB];exact Z8 (BdH 77 b y (Yt (.mk o a l) p q x)) (results36) ⟨rfl,rfl,trivial⟩ ⟨y,hy,rfl⟩)
  |exact Uq (show o=1∨o=2 by omega) fun h=>by rw [hc.2 h] at hb67;cases hb67)
   · first | exact bN hb67|(
 refine Zf ?_;(refine xL 79 ZQ (xL 78 Zb ?_);refine Ze ?_)
 refine cX ?_ ?_<;>intro hb78
 · first | exact bN hb78|(
 refine Zf ?_;(refine xL 80 Za ?_;refine Ye (kk:=1) 81 ZB fun h81 ho81=>?_;refine xL 8 Zb ?_;refine Ze ?_)
 refine Zz (Z0 (l:=81) 200 rfl rfl) fun _=>?_;(refine Zm ?_;refine xL 9 Zb ?_;refine Ze ?_)
 (have hc12:¬(o=1∨o=2):=fun h=>by rw [hc.2 h] at hb67;cases hb67);have hl3:=Dw hr oM;obtain ⟨m,hm⟩:∃m,l.length=m+1:=⟨l.length-1,oM⟩;refine Zz (ZF (l:=1000) rfl (show PV.own 77 4 1 [Zc x.pl, .val v,Zc 0,Zc 1]= .own 77 4 1 [Zc (x.more (0:Nat)).pl, .val v,Zc 0,Zc 1] by rw [Tj])) fun _=>?_;refine ZE (ι:={q:Nat×Value//q.1≤m∧q.2.oneCell'=true}) (fun k=>⟨[(0,_,_),(3,_,_),(5,_,_),(9, .int .i64 (k.1.1+1),Zc (k.1.1+1)),(8,k.1.2, .val k.1.2)],[(5,_,_),(200,k.1.2, .own 3 1 (p::Wa x.pl 1 k.1.1).length ((p::Wa x.pl 1 k.1.1).map Zc)),(1000,Yd b, .own 77 4 1 [Zc (x.more (k.1.1:Nat)).pl, .val v,Zc 0,Zc 1]),(1001,v, .own 69 3 x.tr.length (x.tr.flatMap cTn))]⟩) (fun k=>m-k.1.1) ⟨(0,_),Xh _,ho81⟩ (fun a w H=>H.weaken ⟨rfl,rfl,rfl,rfl,rfl,trivial⟩ ⟨rfl,rfl,rfl,rfl,trivial⟩) ?_;rintro ⟨⟨k,u⟩,hk,hu⟩;dsimp only;dsimp only at hk hu;have hrz:=W8 x.pl 1 k;have honeu:En.one (PV.val u)=true:=hu;refine Zf ?_;(refine xL 82 Za (xL 83 (Zd 5 Ya) ?_);refine yL 84 (Zi 5 Yq) fun v84 hv84=>?_;cases hv84;refine xL 85 (Z1 YB) (xL 86 ZR ?_);refine Ze ?_)
 refine cX ?_ ?_<;>intro hb86
 · first|exact bN hb86|(
 refine Zf ?_;(refine xL 89 Za (xL 90 Za ?_);(refine ZL [(1000,Yd b,PV.own 77 4 1 [Zc (x.more (k:Nat)).pl,PV.val v,Zc 0,Zc 1]),(1001,v,PV.own 69 3 (x.more (k:Nat)).tr.length ((x.more (k:Nat)).tr.flatMap cTn)),(5,_,_),(200,_,_)] ⟨rfl,rfl,rfl,rfl,trivial⟩ ?_;refine ZT [5,200] 91 (call81) (GQ b v (x.more (k:Nat)) (by show 0≤x.pl+_;omega) (by show x.pl+_≤_;omega) hv) (fun v91 p91 h91 hR91=>?_);obtain ⟨rfl,rfl,rfl⟩:=hR91;dsimp only [BdH];rw [Dv]);refine Ye (kk:=1) 92 ZB fun h92 ho92=>?_;(refine Kk 200 92 93 ZB fun h93 ho93=>?_;refine Zp (Z0 (l:=93) 200 rfl rfl) fun _=>?_;refine Zp (ZF (l:=200) rfl (Gp 3 (p::Wa x.pl 1 k) (z:=x.pl+1*k) (by show x.pl+(k:Int)=_;omega))) fun _=>?_;rw [Vm,←JZ]);refine xL 8 Zb ?_;refine Zn ?_)
 (refine xL 87 Za (xL 88 ZO (xL 9 Zb ?_));refine Ze ?_)
 refine Zk (
  ⟨(k+1,h93),by show k+1≤m;omega,ho93⟩
  ) (by dsimp only;omega) ⟨rfl,rfl,rfl,rfl,rfl,trivial⟩ ⟨rfl,rfl,rfl,rfl,trivial⟩)
 · first | exact bN hb86|(
 refine Zf ?_;(refine xL 94 Za (xL 95 Za ?_);refine Ye (kk:=1) 96 ZB fun h96 ho96=>?_;(refine Kk 200 96 97 ZB fun h97 ho97=>?_;refine Zp (Z0 (l:=97) 200 rfl rfl) fun _=>?_;refine Zp (ZF (l:=200) rfl (Gp 3 (p::Wa x.pl 1 k) rfl)) fun _=>?_);refine xL 8 Zb ?_;refine Ze ?_)
 refine Zz (En.freeze (l:=200) (t:=8) rfl rfl) fun _=>?_;refine Zz (Yk (t:=8) rfl (WO 3 _ _ rfl)) fun _=>?_;obtain rfl:k=m:=oM;obtain ⟨Q,hP⟩:∃Q,Q=Wa x.pl 1 k++[q]:=⟨_,rfl⟩;(have hPl:Q.length=l.length:=by rw [hP];simp [W8];omega);rw [Vm,←hP];clear hk hrz;obtain ⟨Y,hY0,hYs,hYb,hYl,hYe⟩:=EU hp (p::Q) Q (x.more (k:Nat));(have hB:Y l.length=Yt (.mk o a l) p q x:=by rw [hYl,Yt,Uo hbig,Uo hc12,Up oM,hP,show l.length-1=k by omega];rfl);refine Zz (ZF (l:=1000) rfl (show PV.own 77 4 1 [Zc (x.more (k:Nat)).pl, .val v,Zc 0,Zc 1]= .own 77 4 1 [Zc (Y 0).pl, .val v,Zc 0,Zc 1] by rw [←hY0])) fun _=>?_;refine Zz (ZF (l:=1001) rfl (show PV.own 69 3 (x.more (k:Nat)).tr.length ((x.more (k:Nat)).tr.flatMap cTn)= .own 69 3 (Y 0).tr.length ((Y 0).tr.flatMap cTn) by rw [←hY0])) fun _=>?_;(refine Zm ?_;refine xL 10 Zb ?_;refine Ze ?_)
 refine ZE (ι:={q:Nat×Value//q.1≤l.length∧q.2.oneCell'=true}) (fun k=>⟨[(0,_,_),(5,_,_),(8,_,_),(10, .int .i64 k.1.1,Zc k.1.1)],[(5,_,_),(1000,Yd b, .own 77 4 1 [Zc (Y k.1.1).pl, .val k.1.2,Zc 0,Zc 1]),(1001,k.1.2, .own 69 3 (Y k.1.1).tr.length ((Y k.1.1).tr.flatMap cTn))]⟩) (fun k=>l.length-k.1.1) ⟨(0,_),Xh _,by assumption⟩ (fun a w H=>H.weaken ⟨rfl,rfl,rfl,rfl,trivial⟩ ⟨rfl,rfl,rfl,trivial⟩) ?_;rintro ⟨⟨j,y⟩,hj,hy⟩;dsimp only;dsimp only at hj hy;have honey:En.one (PV.val y)=true:=hy;refine Zf ?_;(refine xL 98 Za (xL 99 (Zd 5 Ya) ?_);refine yL 100 (Zi 5 Yq) fun v100 hv100=>?_;cases hv100;refine xL 101 (Z1 YB) (xL 102 ZR ?_);refine Ze ?_)
 refine cX ?_ ?_<;>intro hb102
 · first|exact bN hb102|(
 obtain ⟨z,hz⟩:=Zw (show j<l.length by omega);have e1:((Z6 l).drop (j*3)).take 3=[Zc z.op,ZZ z.act,YK z.l]:=Z5 hz;have e2:=Yj hz;have hzm:=Xd hz;obtain ⟨hy1,hy2,hy3⟩:=hYb j z hz;obtain ⟨pk,hpk⟩:=Zw (show j<(p::Q).length by rw [Xc];omega);obtain ⟨qk,hqk⟩:=Zw (show j<Q.length by omega);have e3:=Y2 (f:=Zc) hpk;have e4:=Zag (l:=p::Q) (k:=j) (y:=qk) hqk;simp only [Bd.more] at hy1 hy2 hy3;refine nav ?_;(refine ZS (fun i=>([15,15]:List Nat).elem i) [5] kR ?_<;>refine xDT 0 105 rfl Za ?_<;>refine xDT 1 106 rfl (Zd 5 Ya) ?_<;>(refine yDT 2 107 rfl (Zi 5 Yq) fun v107 h=>?_;cases h)<;>refine xDT 3 108 rfl Za ?_<;>refine xDT 4 109 rfl (ZP YB) ?_<;>(refine yDT 5 110 rfl (Yz ZH) fun v110 h=>?_;cases h)<;>refine xDT 6 111 rfl Za ?_<;>refine xDT 7 112 rfl Za ?_<;>refine xDT 8 113 rfl (ZP Zs) ?_<;>(refine yDT 9 114 rfl (Yy Zo) fun v114 h=>?_;cases h)<;>refine xDT 10 115 rfl Za ?_<;>refine xE 11 116 rfl Za ?_<;>refine xE 12 117 rfl ZO ?_<;>refine xE 13 118 rfl (ZP Zs) ?_<;>(refine yE 14 119 rfl (Yy Zo) fun v119 h=>?_;cases h)<;>(refine Zl 15 kR ?_)<;>(refine WX rfl rfl kR fun DQ back=>?_)<;>(refine ZL [(1000,Yd b,PV.own 77 4 1 [Zc (Y j).pl,PV.val y,Zc 0,Zc 1]),(1001,y,PV.own 69 3 (Y j).tr.length ((Y j).tr.flatMap cTn)),(5,_,_)] ⟨rfl,rfl,rfl,trivial⟩ ?_;refine ZT [5] 120 (call36) (ih z hzm (hp z hzm) b pk qk y _ (Y j) hy oM oM oM) (fun v120 p120 h120 hR120=>?_);obtain ⟨w2,hw2,rfl⟩:=hR120;dsimp only [BdH];have honew2:En.one (PV.val w2)=true:=hw2;rw [hYs j z pk qk hz hpk hqk])<;>refine Zh (back _ (nav ?_))<;>try dsimp only)
 (refine Zm ?_;refine xL 103 Za (xL 104 ZO (xL 10 Zb ?_));refine Ze ?_)
 refine Zk (
  ⟨(j+1,w2),Zg hz,hw2⟩
  ) (by dsimp only;omega) ⟨rfl,rfl,rfl,rfl,trivial⟩ ⟨rfl,rfl,rfl,trivial⟩)
 · first |exact bN hb102|(
 refine nav ?_
 first
  |exact Z8 (BdH 77 b w1 (Yt (.mk o a l) p q x)) (results36) ⟨rfl,rfl,trivial⟩ ⟨w1,hw1,rfl⟩
  |exact Z8 (BdH 77 b w3 (Yt (.mk o a l) p q x)) (results36) ⟨rfl,rfl,trivial⟩ ⟨w3,hw3,rfl⟩
  |exact Z8 (BdH 77 b w4 (Yt (.mk o a l) p q x)) (results36) ⟨rfl,rfl,trivial⟩ ⟨w4,hw4,rfl⟩
  | (obtain rfl:j=l.length:=oM
     rw [hB];exact Z8 (BdH 77 b y (Yt (.mk o a l) p q x)) (results36) ⟨rfl,rfl,trivial⟩ ⟨y,hy,rfl⟩)
  |exact Uq (show o=1∨o=2 by omega) fun h=>by rw [hc.2 h] at hb67;cases hb67)))
 · first | exact bN hb78|(
 refine Zf ?_;(refine xL 122 ZQ (xL 121 Zb ?_);refine Ze ?_)
 refine cX ?_ ?_<;>intro hb121
 · first | exact bN hb121|(
 refine Zf ?_;(refine xL 11 Zb ?_;refine Ze ?_)
 (have hc12:¬(o=1∨o=2):=fun h=>by rw [hc.2 h] at hb67;cases hb67);obtain ⟨Y,hY0,hYs,hYb,hYl,hYe⟩:=EU hp (List.replicate l.length p) (List.replicate l.length q) (x);(have hB:Y l.length=Yt (.mk o a l) p q x:=by rw [hYl,Yt,Uo hbig,Uo hc12,Uo oM,Up oM]);refine Zz (ZF (l:=1000) rfl (show PV.own 77 4 1 [Zc (x).pl, .val v,Zc 0,Zc 1]= .own 77 4 1 [Zc (Y 0).pl, .val v,Zc 0,Zc 1] by rw [←hY0])) fun _=>?_;refine Zz (ZF (l:=1001) rfl (show PV.own 69 3 (x).tr.length ((x).tr.flatMap cTn)= .own 69 3 (Y 0).tr.length ((Y 0).tr.flatMap cTn) by rw [←hY0])) fun _=>?_;refine ZE (ι:={q:Nat×Value//q.1≤l.length∧q.2.oneCell'=true}) (fun k=>⟨[(0,_,_),(2,_,_),(3,_,_),(5,_,_),(11, .int .i64 k.1.1,Zc k.1.1)],[(5,_,_),(1000,Yd b, .own 77 4 1 [Zc (Y k.1.1).pl, .val k.1.2,Zc 0,Zc 1]),(1001,k.1.2, .own 69 3 (Y k.1.1).tr.length ((Y k.1.1).tr.flatMap cTn))]⟩) (fun k=>l.length-k.1.1) ⟨(0,_),Xh _,by assumption⟩ (fun a w H=>H.weaken ⟨rfl,rfl,rfl,rfl,rfl,trivial⟩ ⟨rfl,rfl,rfl,trivial⟩) ?_;rintro ⟨⟨j,y⟩,hj,hy⟩;dsimp only;dsimp only at hj hy;have honey:En.one (PV.val y)=true:=hy;refine Zf ?_;(refine xL 123 Za (xL 124 (Zd 5 Ya) ?_);refine yL 125 (Zi 5 Yq) fun v125 hv125=>?_;cases hv125;refine xL 126 (Z1 YB) (xL 127 ZR ?_);refine Ze ?_)
 refine cX ?_ ?_<;>intro hb127
 · first|exact bN hb127|(
 obtain ⟨z,hz⟩:=Zw (show j<l.length by omega);have e1:((Z6 l).drop (j*3)).take 3=[Zc z.op,ZZ z.act,YK z.l]:=Z5 hz;have e2:=Yj hz;have hzm:=Xd hz;obtain ⟨hy1,hy2,hy3⟩:=hYb j z hz;(have hpk:(List.replicate l.length p)[j]? =some p:=by rw [V5,Up (Zg hz)]);(have hqk:(List.replicate l.length q)[j]? =some q:=by rw [V5,Up (Zg hz)]);refine Zf ?_;(refine xL 130 Za (xL 131 (Zd 5 Ya) ?_);refine yL 132 (Zi 5 Yq) fun v132 hv132=>?_;cases hv132;refine xL 133 Za (xL 134 (ZP YB) ?_);refine yL 135 (Yz ZH) fun v135 hv135=>?_;cases hv135;refine xL 136 Za (xL 137 Za ?_);(refine ZL [(1000,Yd b,PV.own 77 4 1 [Zc (Y j).pl,PV.val y,Zc 0,Zc 1]),(1001,y,PV.own 69 3 (Y j).tr.length ((Y j).tr.flatMap cTn)),(5,_,_)] ⟨rfl,rfl,rfl,trivial⟩ ?_;refine ZT [5] 138 (call36) (ih z hzm (hp z hzm) b p q y _ (Y j) hy oM oM oM) (fun v138 p138 h138 hR138=>?_);obtain ⟨w2,hw2,rfl⟩:=hR138;dsimp only [BdH];have honew2:En.one (PV.val w2)=true:=hw2;rw [hYs j z p q hz hpk hqk]);refine Zn ?_)
 (refine xL 128 Za (xL 129 ZO (xL 11 Zb ?_));refine Ze ?_)
 refine Zk (
  ⟨(j+1,w2),Zg hz,hw2⟩
  ) (by dsimp only;omega) ⟨rfl,rfl,rfl,rfl,rfl,trivial⟩ ⟨rfl,rfl,rfl,trivial⟩)
 · first |exact bN hb127|(
 refine nav ?_
 first
  |exact Z8 (BdH 77 b w1 (Yt (.mk o a l) p q x)) (results36) ⟨rfl,rfl,trivial⟩ ⟨w1,hw1,rfl⟩
  |exact Z8 (BdH 77 b w3 (Yt (.mk o a l) p q x)) (results36) ⟨rfl,rfl,trivial⟩ ⟨w3,hw3,rfl⟩
  |exact Z8 (BdH 77 b w4 (Yt (.mk o a l) p q x)) (results36) ⟨rfl,rfl,trivial⟩ ⟨w4,hw4,rfl⟩
  | (obtain rfl:j=l.length:=oM
     rw [hB];exact Z8 (BdH 77 b y (Yt (.mk o a l) p q x)) (results36) ⟨rfl,rfl,trivial⟩ ⟨y,hy,rfl⟩)
  |exact Uq (show o=1∨o=2 by omega) fun h=>by rw [hc.2 h] at hb67;cases hb67))
 · first | exact bN hb121|(
 refine Zf ?_;(refine xL 140 ZQ (xL 139 Zb ?_);refine Ze ?_)
 refine cX ?_ ?_<;>intro hb139
 · first | exact bN hb139|(
 refine Zf ?_;(refine xL 12 Zb (xL 13 Zb ?_);refine Ze ?_)
 refine Zz (WF 200 3 1 rfl) fun _=>?_;refine Zz (WF 201 3 1 rfl) fun _=>?_;(refine Zm ?_;refine xL 14 Zb ?_;refine Ze ?_)
 (have hc12:¬(o=1∨o=2):=fun h=>by rw [hc.2 h] at hb67;cases hb67);refine Zz (ZF (l:=1000) rfl (show PV.own 77 4 1 [Zc x.pl, .val v,Zc 0,Zc 1]= .own 77 4 1 [Zc (x.more (2*0:Nat)).pl, .val v,Zc 0,Zc 1] by rw [Nat.mul_zero,Tj])) fun _=>?_;refine ZE (ι:={q:Nat×Value×Value//q.1≤l.length∧q.2.1.oneCell'=true∧q.2.2.oneCell'=true}) (fun k=>⟨[(0,_,_),(2,_,_),(3,_,_),(5,_,_),(14, .int .i64 k.1.1,Zc k.1.1),(12,k.1.2.1, .val k.1.2.1),(13,k.1.2.2, .val k.1.2.2)],[(5,_,_),(200,k.1.2.1, .own 3 1 (Wa x.pl 2 k.1.1).length ((Wa x.pl 2 k.1.1).map Zc)),(201,k.1.2.2, .own 3 1 (Wa (x.pl+1) 2 k.1.1).length ((Wa (x.pl+1) 2 k.1.1).map Zc)),(1000,Yd b, .own 77 4 1 [Zc (x.more (2*k.1.1:Nat)).pl, .val v,Zc 0,Zc 1]),(1001,v, .own 69 3 x.tr.length (x.tr.flatMap cTn))]⟩) (fun k=>l.length-k.1.1) ⟨(0, .slice none 0 0, .slice none 0 0),Xh _,rfl,rfl⟩ (fun a w H=>H.weaken ⟨rfl,rfl,rfl,rfl,rfl,rfl,rfl,trivial⟩ ⟨rfl,rfl,rfl,rfl,rfl,trivial⟩) ?_;rintro ⟨⟨k,u,s⟩,hk,hu,hs⟩;dsimp only;dsimp only at hk hu hs;have hrz:=W8 x.pl 2 k;have hrz':=W8 (x.pl+1) 2 k;have honeu:En.one (PV.val u)=true:=hu;have hones:En.one (PV.val s)=true:=hs;refine Zf ?_;(refine xL 141 Za (xL 142 (Zd 5 Ya) ?_);refine yL 143 (Zi 5 Yq) fun v143 hv143=>?_;cases hv143;refine xL 144 (Z1 YB) (xL 145 ZR ?_);refine Ze ?_)
 refine cX ?_ ?_<;>intro hb145
 · first|exact bN hb145|(
 refine Zf ?_;(refine xL 148 Za (xL 149 Za ?_);(refine ZL [(1000,Yd b,PV.own 77 4 1 [Zc (x.more (2*k:Nat)).pl,PV.val v,Zc 0,Zc 1]),(1001,v,PV.own 69 3 (x.more (2*k:Nat)).tr.length ((x.more (2*k:Nat)).tr.flatMap cTn)),(5,_,_),(200,_,_),(201,_,_)] ⟨rfl,rfl,rfl,rfl,rfl,trivial⟩ ?_;refine ZT [5,200,201] 150 (call81) (GQ b v (x.more (2*k:Nat)) (by show 0≤x.pl+_;omega) (by show x.pl+_≤_;omega) hv) (fun v150 p150 h150 hR150=>?_);obtain ⟨rfl,rfl,rfl⟩:=hR150;dsimp only [BdH]);refine Ye (kk:=1) 151 ZB fun h151 ho151=>?_;(refine Kk 200 151 152 ZB fun h152 ho152=>?_;refine Zp (Z0 (l:=152) 200 rfl rfl) fun _=>?_;refine Zp (ZF (l:=200) rfl (Gp 3 (Wa x.pl 2 k) (z:=x.pl+2*k) (by show x.pl+((2*k:Nat):Int)=_;omega))) fun _=>?_;rw [←JZ];have hone152:En.one (PV.val h152)=true:=ho152);refine xL 12 Zb ?_;refine Zn ?_)
 (refine xL 153 Za (xL 154 Za ?_);(refine ZL [(1000,Yd b,PV.own 77 4 1 [Zc ((x.more (2*k:Nat)).more 1).pl,PV.val v,Zc 0,Zc 1]),(1001,v,PV.own 69 3 ((x.more (2*k:Nat)).more 1).tr.length (((x.more (2*k:Nat)).more 1).tr.flatMap cTn)),(5,_,_),(200,_,_),(201,_,_)] ⟨rfl,rfl,rfl,rfl,rfl,trivial⟩ ?_;refine ZT [5,200,201] 155 (call81) (GQ b v ((x.more (2*k:Nat)).more 1) (by show 0≤x.pl+_+1;omega) (by show x.pl+_+1≤_;omega) hv) (fun v155 p155 h155 hR155=>?_);obtain ⟨rfl,rfl,rfl⟩:=hR155;dsimp only [BdH];rw [E9]);refine Ye (kk:=1) 156 ZB fun h156 ho156=>?_;(refine Kk 201 156 157 ZB fun h157 ho157=>?_;refine Zp (Z0 (l:=157) 201 rfl rfl) fun _=>?_;refine Zp (ZF (l:=201) rfl (Gp 3 (Wa (x.pl+1) 2 k) (z:=x.pl+1+2*k) (by show x.pl+((2*k:Nat):Int)+1=_;omega))) fun _=>?_;rw [←JZ]);refine xL 13 Zb ?_;refine Zn ?_)
 (refine xL 146 Za (xL 147 ZO (xL 14 Zb ?_));refine Ze ?_)
 refine Zk (
  ⟨(k+1,h152,h157),by show k+1≤l.length;omega,ho152,ho157⟩
  ) (by dsimp only;omega) ⟨rfl,rfl,rfl,rfl,rfl,rfl,rfl,trivial⟩ ⟨rfl,rfl,rfl,rfl,rfl,trivial⟩)
 · first | exact bN hb145|(
 refine nav ?_;obtain rfl:k=l.length:=oM;refine Zz (En.freeze (l:=200) (t:=12) rfl rfl) fun _=>?_;refine Zz (Yk (t:=12) rfl (WO 3 _ _ rfl)) fun _=>?_;refine Zz (En.freeze (l:=201) (t:=13) rfl rfl) fun _=>?_;refine Zz (Yk (t:=13) rfl (WO 3 _ _ rfl)) fun _=>?_;(refine Zm ?_;refine xL 158 Za (xL 159 Za ?_);(refine Ye (kk:=1) 160 ZB fun h160 ho160=>?_;refine Zp (En.freeze (l:=160) (t:=160) rfl rfl) fun _=>?_);refine xL 161 Za ?_;(refine ZL [(1000,Yd b,PV.own 77 4 1 [Zc (x.more (2*l.length:Nat)).pl,PV.val v,Zc 0,Zc 1]),(1001,v,PV.own 69 3 (x.more (2*l.length:Nat)).tr.length ((x.more (2*l.length:Nat)).tr.flatMap cTn)),(5,_,_)] ⟨rfl,rfl,rfl,trivial⟩ ?_;refine ZT [5] 162 (call62) (SB b v _ _ (x.more (2*l.length:Nat)) ByteArray.empty [p] (Wa x.pl 2 l.length) (by show x.tr.length≤_;omega) hv) (fun v162 p162 h162 hR162=>?_);obtain ⟨w1,hw1,rfl⟩:=hR162;dsimp only [BdH];have honew1:En.one (PV.val w1)=true:=hw1);refine Ze ?_)
 obtain ⟨Y,hY0,hYs,hYb,hYl,hYe⟩:=EU hp (Wa x.pl 2 l.length) (Wa (x.pl+1) 2 l.length) ((x.more (2*l.length:Nat)).add ByteArray.empty [p] (Wa x.pl 2 l.length));(have hB:(Y l.length).add ByteArray.empty (Wa (x.pl+1) 2 l.length) [q]=Yt (.mk o a l) p q x:=by rw [hYl,Yt,Uo hbig,Uo hc12,Uo oM,Uo oM,Up oM]);refine Zz (ZF (l:=1000) rfl (show PV.own 77 4 1 [Zc ((x.more (2*l.length:Nat)).add ByteArray.empty [p] (Wa x.pl 2 l.length)).pl, .val w1,Zc 0,Zc 1]= .own 77 4 1 [Zc (Y 0).pl, .val w1,Zc 0,Zc 1] by rw [←hY0])) fun _=>?_;refine Zz (ZF (l:=1001) rfl (show PV.own 69 3 ((x.more (2*l.length:Nat)).add ByteArray.empty [p] (Wa x.pl 2 l.length)).tr.length (((x.more (2*l.length:Nat)).add ByteArray.empty [p] (Wa x.pl 2 l.length)).tr.flatMap cTn)= .own 69 3 (Y 0).tr.length ((Y 0).tr.flatMap cTn) by rw [←hY0])) fun _=>?_;(refine Zm ?_;refine xL 15 Zb ?_;refine Ze ?_)
 clear hk hrz hrz';refine ZE (ι:={q:Nat×Value//q.1≤l.length∧q.2.oneCell'=true}) (fun k=>⟨[(0,_,_),(3,_,_),(5,_,_),(12,_,_),(13,_,_),(15, .int .i64 k.1.1,Zc k.1.1)],[(5,_,_),(1000,Yd b, .own 77 4 1 [Zc (Y k.1.1).pl, .val k.1.2,Zc 0,Zc 1]),(1001,k.1.2, .own 69 3 (Y k.1.1).tr.length ((Y k.1.1).tr.flatMap cTn))]⟩) (fun k=>l.length-k.1.1) ⟨(0,_),Xh _,by assumption⟩ (fun a w H=>H.weaken ⟨rfl,rfl,rfl,rfl,rfl,rfl,trivial⟩ ⟨rfl,rfl,rfl,trivial⟩) ?_;rintro ⟨⟨j,y⟩,hj,hy⟩;dsimp only;dsimp only at hj hy;have honey:En.one (PV.val y)=true:=hy;refine Zf ?_;(refine xL 163 Za (xL 164 (Zd 5 Ya) ?_);refine yL 165 (Zi 5 Yq) fun v165 hv165=>?_;cases hv165;refine xL 166 (Z1 YB) (xL 167 ZR ?_);refine Ze ?_)
 refine cX ?_ ?_<;>intro hb167
 · first|exact bN hb167|(
 obtain ⟨z,hz⟩:=Zw (show j<l.length by omega);have e1:((Z6 l).drop (j*3)).take 3=[Zc z.op,ZZ z.act,YK z.l]:=Z5 hz;have e2:=Yj hz;have hzm:=Xd hz;obtain ⟨hy1,hy2,hy3⟩:=hYb j z hz;have hpk:=Pk (p:=x.pl) (d:=2) (Zg hz);have hrl:=W8 x.pl 2 l.length;have hrl':=W8 (x.pl+1) 2 l.length;have hqk:=Pk (p:=x.pl+1) (d:=2) (Zg hz);have e3:=Y2 (f:=Zc) hpk;have e4:=Y2 (f:=Zc) hqk;simp only [Bd.more,Bd.add,Xg,Xc,Xk] at hy1 hy2 hy3;refine nav ?_;(refine ZS (fun i=>([14,14]:List Nat).elem i) [5] kR ?_<;>refine xDT 0 170 rfl Za ?_<;>refine xDT 1 171 rfl (Zd 5 Ya) ?_<;>(refine yDT 2 172 rfl (Zi 5 Yq) fun v172 h=>?_;cases h)<;>refine xDT 3 173 rfl Za ?_<;>refine xDT 4 174 rfl (ZP YB) ?_<;>(refine yDT 5 175 rfl (Yz ZH) fun v175 h=>?_;cases h)<;>refine xDT 6 176 rfl Za ?_<;>refine xDT 7 177 rfl Za ?_<;>refine xDT 8 178 rfl (ZP Zs) ?_<;>(refine yDT 9 179 rfl (Yy Zo) fun v179 h=>?_;cases h)<;>refine xDT 10 180 rfl Za ?_<;>refine xE 11 181 rfl Za ?_<;>refine xE 12 182 rfl (ZP Zs) ?_<;>(refine yE 13 183 rfl (Yy Zo) fun v183 h=>?_;cases h)<;>(refine Zl 14 kR ?_)<;>(refine WX rfl rfl kR fun DQ back=>?_)<;>(refine ZL [(1000,Yd b,PV.own 77 4 1 [Zc (Y j).pl,PV.val y,Zc 0,Zc 1]),(1001,y,PV.own 69 3 (Y j).tr.length ((Y j).tr.flatMap cTn)),(5,_,_)] ⟨rfl,rfl,rfl,trivial⟩ ?_;refine ZT [5] 184 (call36) (ih z hzm (hp z hzm) b (x.pl+2*j) (x.pl+1+2*j) y _ (Y j) hy oM oM oM) (fun v184 p184 h184 hR184=>?_);obtain ⟨w2,hw2,rfl⟩:=hR184;dsimp only [BdH];have honew2:En.one (PV.val w2)=true:=hw2;rw [hYs j z (x.pl+2*j) (x.pl+1+2*j) hz hpk hqk])<;>refine Zh (back _ (nav ?_))<;>try dsimp only)
 (refine Zm ?_;refine xL 168 Za (xL 169 ZO (xL 15 Zb ?_));refine Ze ?_)
 refine Zk (
  ⟨(j+1,w2),Zg hz,hw2⟩
  ) (by dsimp only;omega) ⟨rfl,rfl,rfl,rfl,rfl,rfl,trivial⟩ ⟨rfl,rfl,rfl,trivial⟩)
 · first |exact bN hb167|(
 refine nav ?_;obtain rfl:j=l.length:=oM;simp only [Bd.more,Bd.add,Xg,Xc,Xk] at hYe;(refine Zm ?_;refine xL 185 Za (xL 186 Za (xL 187 Za ?_));(refine Ye (kk:=1) 188 ZB fun h188 ho188=>?_;refine Zp (En.freeze (l:=188) (t:=188) rfl rfl) fun _=>?_);(refine ZL [(1000,Yd b,PV.own 77 4 1 [Zc (Y l.length).pl,PV.val y,Zc 0,Zc 1]),(1001,y,PV.own 69 3 (Y l.length).tr.length ((Y l.length).tr.flatMap cTn)),(5,_,_)] ⟨rfl,rfl,rfl,trivial⟩ ?_;refine ZT [5] 189 (call62) (SB b y _ _ (Y l.length) ByteArray.empty (Wa (x.pl+1) 2 l.length) [q] oM hy) (fun v189 p189 h189 hR189=>?_);obtain ⟨w3,hw3,rfl⟩:=hR189;dsimp only [BdH];have honew3:En.one (PV.val w3)=true:=hw3;rw [hB]);refine Ze ?_)
 first
  |exact Z8 (BdH 77 b w1 (Yt (.mk o a l) p q x)) (results36) ⟨rfl,rfl,trivial⟩ ⟨w1,hw1,rfl⟩
  |exact Z8 (BdH 77 b w3 (Yt (.mk o a l) p q x)) (results36) ⟨rfl,rfl,trivial⟩ ⟨w3,hw3,rfl⟩
  |exact Z8 (BdH 77 b w4 (Yt (.mk o a l) p q x)) (results36) ⟨rfl,rfl,trivial⟩ ⟨w4,hw4,rfl⟩
  | (obtain rfl:j=l.length:=oM
     rw [hB];exact Z8 (BdH 77 b y (Yt (.mk o a l) p q x)) (results36) ⟨rfl,rfl,trivial⟩ ⟨y,hy,rfl⟩)
  |exact Uq (show o=1∨o=2 by omega) fun h=>by rw [hc.2 h] at hb67;cases hb67)))
 · first |exact bN hb139|(
 refine Zf ?_;(refine xL 35 Za ?_;(refine ZL [(1000,Yd b,PV.own 77 4 1 [Zc (x).pl,PV.val v,Zc 0,Zc 1]),(1001,v,PV.own 69 3 (x).tr.length ((x).tr.flatMap cTn)),(5,_,_)] ⟨rfl,rfl,rfl,trivial⟩ ?_;refine ZT [5] 36 (call81) (GQ b v (x) h0 oM hv) (fun v36 p36 h36 hR36=>?_);obtain ⟨rfl,rfl,rfl⟩:=hR36;dsimp only [BdH]);refine xL 16 Zb ?_;refine Zn ?_)
 (refine xL 37 Za ?_;(refine ZL [(1000,Yd b,PV.own 77 4 1 [Zc (x.more 1).pl,PV.val v,Zc 0,Zc 1]),(1001,v,PV.own 69 3 (x.more 1).tr.length ((x.more 1).tr.flatMap cTn)),(5,_,_)] ⟨rfl,rfl,rfl,trivial⟩ ?_;refine ZT [5] 38 (call81) (GQ b v (x.more 1) (by show 0≤x.pl+1;omega) (by show x.pl+1≤_;omega) hv) (fun v38 p38 h38 hR38=>?_);obtain ⟨rfl,rfl,rfl⟩:=hR38;dsimp only [BdH];rw [ZaB]);refine xL 17 Zb ?_;refine Zn ?_)
 (refine xL 39 Za (xL 40 Za ?_);(refine Ye (kk:=1) 41 ZB fun h41 ho41=>?_;refine Zp (En.freeze (l:=41) (t:=41) rfl rfl) fun _=>?_);refine xL 42 Za ?_;(refine Ye (kk:=1) 43 ZB fun h43 ho43=>?_;refine Zp (En.freeze (l:=43) (t:=43) rfl rfl) fun _=>?_);(refine ZL [(1000,Yd b,PV.own 77 4 1 [Zc (x.more 2).pl,PV.val v,Zc 0,Zc 1]),(1001,v,PV.own 69 3 (x.more 2).tr.length ((x.more 2).tr.flatMap cTn)),(5,_,_)] ⟨rfl,rfl,rfl,trivial⟩ ?_;refine ZT [5] 44 (call62) (SB b v _ _ (x.more 2) ByteArray.empty [p] [x.pl] (by show x.tr.length≤_;omega) hv) (fun v44 p44 h44 hR44=>?_);obtain ⟨w1,hw1,rfl⟩:=hR44;dsimp only [BdH];have honew1:En.one (PV.val w1)=true:=hw1);refine Ze ?_)
 (have hc12:¬(o=1∨o=2):=fun h=>by rw [hc.2 h] at hb67;cases hb67);have hl2:=Dx hr oM;obtain ⟨z0,hz0⟩:=Zw (show 0<l.length by omega);obtain ⟨z1,hz1⟩:=Zw (show 1<l.length by omega);have e1:((Z6 l).drop (0*3)).take 3=[Zc z0.op,ZZ z0.act,YK z0.l]:=Z5 hz0;have e2:0*3+3≤(Z6 l).length:=Yj hz0;have e3:((Z6 l).drop (1*3)).take 3=[Zc z1.op,ZZ z1.act,YK z1.l]:=Z5 hz1;have e4:1*3+3≤(Z6 l).length:=Yj hz1;have hz0m:=Xd hz0;have hz1m:=Xd hz1;obtain ⟨Y,hY0,hYs,hYb,hYl,hYe⟩:=EU hp [x.pl,x.pl+1] [x.pl+1,x.pl] ((x.more 2).add ByteArray.empty [p] [x.pl]);(have hB:(Y 2).add ByteArray.empty [x.pl+1] [q]=Yt (.mk o a l) p q x:=by rw [←hl2,hYl,Yt,Uo hbig,Uo hc12,Uo oM,Uo oM,Uo oM,Up oM]);obtain ⟨a1,a2,a3⟩:=hYb 0 z0 hz0;obtain ⟨b1,b2,b3⟩:=hYb 1 z1 hz1;rw [hl2] at hYe;simp only [Bd.more,Bd.add,Xg,Xc,Xk] at a1 a2 a3 b1 b2 b3 hYe;refine Zz (ZF (l:=1000) rfl (show PV.own 77 4 1 [Zc ((x.more 2).add ByteArray.empty [p] [x.pl]).pl, .val w1,Zc 0,Zc 1]= .own 77 4 1 [Zc (Y 0).pl, .val w1,Zc 0,Zc 1] by rw [←hY0])) fun _=>?_;refine Zz (ZF (l:=1001) rfl (show PV.own 69 3 ((x.more 2).add ByteArray.empty [p] [x.pl]).tr.length (((x.more 2).add ByteArray.empty [p] [x.pl]).tr.flatMap cTn)= .own 69 3 (Y 0).tr.length ((Y 0).tr.flatMap cTn) by rw [←hY0])) fun _=>?_;(refine Zm ?_;refine xL 45 Za (xL 46 (Zd 5 Ya) ?_);refine yL 47 (Zi 5 Yq) fun v47 hv47=>?_;cases hv47;refine xL 48 (ZP YB) ?_;refine yL 49 (Yz ZH) fun v49 hv49=>?_;cases hv49;refine xL 50 Za (xL 51 Za ?_);(refine ZL [(1000,Yd b,PV.own 77 4 1 [Zc (Y 0).pl,PV.val w1,Zc 0,Zc 1]),(1001,w1,PV.own 69 3 (Y 0).tr.length ((Y 0).tr.flatMap cTn)),(5,_,_)] ⟨rfl,rfl,rfl,trivial⟩ ?_;refine ZT [5] 52 (call36) (ih z0 hz0m (hp z0 hz0m) b x.pl (x.pl+1) w1 _ (Y 0) hw1 oM oM oM) (fun v52 p52 h52 hR52=>?_);obtain ⟨w2,hw2,rfl⟩:=hR52;dsimp only [BdH];have honew2:En.one (PV.val w2)=true:=hw2;rw [hYs 0 z0 x.pl (x.pl+1) hz0 rfl rfl]);refine Zn ?_)
 (refine xL 53 Za (xL 54 (Zd 5 Ya) ?_);refine yL 55 (Zi 5 Yq) fun v55 hv55=>?_;cases hv55;refine xL 56 (ZP YB) ?_;refine yL 57 (Yz ZH) fun v57 hv57=>?_;cases hv57;refine xL 58 Za (xL 59 Za ?_);(refine ZL [(1000,Yd b,PV.own 77 4 1 [Zc (Y 1).pl,PV.val w2,Zc 0,Zc 1]),(1001,w2,PV.own 69 3 (Y 1).tr.length ((Y 1).tr.flatMap cTn)),(5,_,_)] ⟨rfl,rfl,rfl,trivial⟩ ?_;refine ZT [5] 60 (call36) (ih z1 hz1m (hp z1 hz1m) b (x.pl+1) x.pl w2 _ (Y 1) hw2 oM oM oM) (fun v60 p60 h60 hR60=>?_);obtain ⟨w3,hw3,rfl⟩:=hR60;dsimp only [BdH];have honew3:En.one (PV.val w3)=true:=hw3;rw [hYs 1 z1 (x.pl+1) x.pl hz1 rfl rfl]);refine Zn ?_)
 (refine xL 61 Za (xL 62 Za ?_);(refine Ye (kk:=1) 63 ZB fun h63 ho63=>?_;refine Zp (En.freeze (l:=63) (t:=63) rfl rfl) fun _=>?_);refine xL 64 Za ?_;(refine Ye (kk:=1) 65 ZB fun h65 ho65=>?_;refine Zp (En.freeze (l:=65) (t:=65) rfl rfl) fun _=>?_);(refine ZL [(1000,Yd b,PV.own 77 4 1 [Zc (Y 2).pl,PV.val w3,Zc 0,Zc 1]),(1001,w3,PV.own 69 3 (Y 2).tr.length ((Y 2).tr.flatMap cTn)),(5,_,_)] ⟨rfl,rfl,rfl,trivial⟩ ?_;refine ZT [5] 66 (call62) (SB b w3 _ _ (Y 2) ByteArray.empty [x.pl+1] [q] oM hw3) (fun v66 p66 h66 hR66=>?_);obtain ⟨w4,hw4,rfl⟩:=hR66;dsimp only [BdH];have honew4:En.one (PV.val w4)=true:=hw4;rw [hB]);refine Ze ?_)
 first
  |exact Z8 (BdH 77 b w1 (Yt (.mk o a l) p q x)) (results36) ⟨rfl,rfl,trivial⟩ ⟨w1,hw1,rfl⟩
  |exact Z8 (BdH 77 b w3 (Yt (.mk o a l) p q x)) (results36) ⟨rfl,rfl,trivial⟩ ⟨w3,hw3,rfl⟩
  |exact Z8 (BdH 77 b w4 (Yt (.mk o a l) p q x)) (results36) ⟨rfl,rfl,trivial⟩ ⟨w4,hw4,rfl⟩
  | (obtain rfl:j=l.length:=oM
     rw [hB];exact Z8 (BdH 77 b y (Yt (.mk o a l) p q x)) (results36) ⟨rfl,rfl,trivial⟩ ⟨y,hy,rfl⟩)
  |exact Uq (show o=1∨o=2 by omega) fun h=>by rw [hc.2 h] at hb67;cases hb67))))))
theorem ZbZ:Y9 prog 72=some ((.agg #[(.int .i64 0),(.slice none 0 0),(.int .i64 0),(.int .i64 0)]),[(0,4)]):=by kernel_rfl
theorem Zb0:Y9 prog 77=some ((.agg #[(.int .i64 0),(.slice none 0 0),(.int .i64 0),(.int .i64 0)]),[(0,4)]):=by kernel_rfl
theorem KF:Y9 prog 29=some ((.agg #[(.int .i64 0),(.slice none 0 0),(.int .i64 0),(.int .i64 0)]),([0,1,2,3]:List Nat).map fun o=>(o,1)):=by kernel_rfl
theorem YC:ZeroT prog 29 (.agg #[(.int .i64 0),(.slice none 0 0),(.int .i64 0),(.int .i64 0)]):=by unfold ZeroT;kernel_rfl
def nt0:Nt:=⟨0,[],0,0⟩
theorem J2 (e n:Nat) (l:List Tn) (hn:n=l.length):share (.own e 3 n (l.flatMap cTn))=JS l:=by
 subst hn
 unfold JS
 rw [share,Yf,List.map_flatMap]
 rfl
theorem Rh:Rr (.agg [Zc 0, .val (.slice none 0 0),Zc 0,Zc 0]) (pNt nt0):=Rr.agg rfl fun i x b ha hb=>by
 match i with
 |0=>cases ha;cases hb;exact Rr.rfl' _
 |1=>cases ha;cases hb;exact Rr.nil
 |2=>cases ha;cases hb;exact Rr.rfl' _
 |3=>cases ha;cases hb;exact Rr.rfl' _
 |i+4=>simp at ha
def Ox (n:Nt):Nt×Int:=if ntOk n=true then (n,0) else (nt0,5)
def Ku (t:Nd):Nt:=⟨(Yt t 0 1 ⟨2,[]⟩).pl,(Yt t 0 1 ⟨2,[]⟩).tr,0,1⟩
def frX (t:Nd):Nt×Int:=if Jf t=true then Ox (Ku t) else (nt0,1)
def Lab40 (l:List Tn):Prop:=∀x∈l,x.lab.size≤40
theorem Lab40.add {b:Bd} (h:Lab40 b.tr) {s:ByteArray} (hs:s.size≤40) (i o:List Int):Lab40 (b.add s i o).tr:=fun x hx=>by
 rcases XW.1 hx with hx|hx
 · exact h x hx
 · rw [Xr] at hx;subst hx;exact hs
theorem E':∀(l:List Nd),(∀x∈l,∀p q b,Lab40 b.tr→Lab40 (Yt x p q b).tr)→∀ps qs b,Lab40 b.tr→Lab40 (Jl l ps qs b).tr
 |[],_,ps,qs,b,h=>by rw [Jl];exact h
 | x::l,hl,ps,qs,b,h=>by
   rw [Jl];exact E' l (fun y hy=>hl y (XI _ hy)) _ _ _ (hl x (XD ..) _ _ b h)
theorem ZdW:∀t:Nd,okT t=true→∀p q b,Lab40 b.tr→Lab40 (Yt t p q b).tr:=Nd.ind fun o a l ih hok p q b h=>by
 have hok':=Kz.1 hok
 have ha:a.size≤40:=EB hok'.1
 have h0:ByteArray.empty.size≤40:=dC
 have hL:=E' l fun x hx=>ih x hx (hok'.2 x hx)
 rw [Yt]
 split
 · exact h
 split
 · exact h.add ha _ _
 split
 · exact hL _ _ _ h
 split
 · exact hL _ _ _ h
 split
 · exact Lab40.add (hL _ _ _ (Lab40.add (b:=b.more (2*l.length:Nat)) h h0 _ _)) h0 _ _
 split
 · exact Lab40.add (hL _ _ _ (Lab40.add (b:=b.more 2) h h0 _ _)) h0 _ _
 · exact h
theorem HA {t:Nd} (h:okT t=true):Hr (Ku t).tr:=fun x hx=>by
 have:=ZdW t h 0 1 ⟨2,[]⟩ (fun x hx=>by cases hx) x hx
 omega
theorem Zb1 (n:Nt) (hf:Hr n.tr):AF prog 34 [pNt n] (· = .tup [pNt (Ox n).1,Zc (Ox n).2]):=by
 refine AF.of_body 9 func34 rfl ntmps34 (Xa rfl) ?_
 intro w0 M0 vs hl hv
 obtain ⟨v0,rfl⟩:=Kl hl
 clear hl hv
 refine Zf ?_
 (refine Yv 1 4 fun h1=>?_;refine ZA [(.int .i64 0),(.slice none 0 0),(.int .i64 0),(.int .i64 0)] 4 2 YC fun h2=>?_;refine xL 3 Zb ?_;refine Zn ?_)
 (refine yL 4 (Zq 1 Zr) fun v4 hv4=>?_;cases hv4;refine cS 5 (cA call41 (Tf n hf)) fun v5 hv5=>?_;cases hv5;refine xL 6 Ym ?_;refine Ze ?_)
 refine cX ?_ ?_<;>intro hb6
 · first|exact bN hb6|(
 refine Zf ?_;(refine xL 7 (Z3 KF) ?_;(refine Zp (WT (t:=7) (p':=pNt nt0) rfl Rh) fun _=>?_;refine Zv 2 Zr ?_);refine xL 3 Zb ?_;refine Ze ?_)
 refine Wo (k:=4) 2 kR (results34) rfl rfl rfl (Xa rfl) dC rfl ?_;rw [Ox,Uo (by simpa using hb6)];rfl)
 · first|exact bN hb6|(
 refine Zf ?_;(refine yL 8 (Zq 1 Zr) fun v8 hv8=>?_;cases hv8;refine Zv 2 Zr ?_;refine xL 3 Zb ?_;refine Ze ?_)
 refine Wo (k:=4) 2 kR (results34) rfl rfl rfl (Xa rfl) dC rfl ?_;rw [Ox,Up (by simpa using hb6)];rfl)
theorem RO (t:Nd) (hf:FitT t):AF prog 10 [pTr t] (· = .tup [pNt (frX t).1,Zc (frX t).2]):=by
 have e0:pTr t= .agg [Zc t.op,ZZ t.act,YK t.l]:=rfl
 refine AF.of_body 22 func10 rfl ntmps10 (Xa rfl) ?_
 intro w0 M0 vs hl hv
 obtain ⟨v0,rfl⟩:=Kl hl
 clear hl hv
 refine Zf ?_
 (refine Yv 1 3 fun h1=>?_;refine ZA [(.int .i64 0),(.slice none 0 0),(.int .i64 0),(.int .i64 0)] 4 2 YC fun h2=>?_;refine xL 3 Zb ?_;refine Zn ?_)
 (refine yL 5 (Zq 1 ZH) fun v5 hv5=>?_;cases hv5;refine cS 6 (cA call32 (T1 t hf)) fun v6 hv6=>?_;cases hv6;refine xL 7 Ym ?_;refine Ze ?_)
 refine cX ?_ ?_<;>intro hb7
 · first|exact bN hb7|(
 refine Zf ?_;(refine xL 8 (Z3 KF) ?_;(refine Zp (WT (t:=8) (p':=pNt nt0) rfl Rh) fun _=>?_;refine Zv 2 Zr ?_);refine xL 3 Zb ?_;refine Ze ?_)
 refine Wo (k:=4) 2 kR (results10) rfl rfl rfl (Xa rfl) dC rfl ?_;rw [frX,Uo (by simpa using hb7)];rfl)
 · first|exact bN hb7|(
 (have hv:Jf t=true:=by simpa using hb7);have hok:=TA hv;have hsz:=SV hv;(have hfr:frX t=Ox (Ku t):=by rw [frX,Up hv]);refine Zf ?_;(refine xL 9 (Z3 KF) ?_;refine yL 10 (W7 ZbZ) fun v10 hv10=>?_;cases hv10;refine Tb 11 4 fun b=>?_;refine xL 4 Zb ?_;refine Ze ?_)
 refine Zz (Z0 (l:=11) 1000 rfl rfl) fun _=>?_;refine Zz (WF 1001 69 3 rfl) fun _=>?_;(refine Zm ?_;refine xL 12 Za ?_;refine yL 13 (Zq 1 ZH) fun v13 hv13=>?_;cases hv13;(refine ZL [(1000,Yd b,PV.own 72 4 1 [Zc (⟨2,[]⟩:Bd).pl,PV.val (.slice none 0 0),Zc 0,Zc 1]),(1001, .slice none 0 0,PV.own 69 3 (⟨2,[]⟩:Bd).tr.length ((⟨2,[]⟩:Bd).tr.flatMap cTn)),(1,_,_),(2,_,_)] ⟨rfl,rfl,rfl,rfl,trivial⟩ ?_;refine ZT [1,2] 14 (call33) (ZfW t hok b 0 1 (.slice none 0 0) _ ⟨2,[]⟩ rfl dC (by show (2:Int)+_≤_;omega) (by show 0+_≤_;omega)) (fun v14 p14 h14 hR14=>?_);obtain ⟨w1,hw1,rfl⟩:=hR14;dsimp only [BdH]);refine Ze ?_)
 refine Zz (Wl (l:=1000) (l':=1001) (j:=1) rfl rfl rfl rfl) fun _=>?_;refine Zz (ZF (l:=1000) (p':= .own 72 4 1 (cNt (Ku t))) rfl (show PV.own 72 4 1 [Zc (Ku t).pl,share (.own 69 3 (Ku t).tr.length ((Ku t).tr.flatMap cTn)),Zc 0,Zc 1]=_ by rw [J2 _ _ _ rfl];rfl)) fun _=>?_;have en:cNt (Ku t)=[Zc (Ku t).pl,JS (Ku t).tr,Zc (Ku t).src,Zc (Ku t).snk]:=rfl;(refine Zm ?_;refine xL 15 Za (xL 16 (ZC 1000) (xL 17 (Zd 1000 WV) ?_));refine yL 18 (Zq 1000 Zr) fun v18 hv18=>?_;cases hv18;refine cP 19 (cA call34 (Zb1 (Ku t) (HA hok))) fun va19 vb19 hva19 hvb19=>?_;cases hvb19;refine xL 20 ZK (xL 21 ZK ?_);refine Zv 2 Zr ?_;refine xL 3 Zb ?_;refine Ze ?_)
 refine Wo (k:=4) 2 kR (results10) rfl rfl rfl (Xa rfl) dC rfl ?_;rw [hfr];rfl)
theorem OX (t:Nd) (hf:FitT t):AF prog 11 [pTr t] (· = .tup [pNt (frX t).1,Zc (frX t).2]):=by
 have e0:pTr t= .agg [Zc t.op,ZZ t.act,YK t.l]:=rfl
 refine AF.of_body 26 func11 rfl ntmps11 (Xa rfl) ?_
 intro w0 M0 vs hl hv
 obtain ⟨v0,rfl⟩:=Kl hl
 clear hl hv
 refine Zf ?_
 (refine Yv 1 3 fun h1=>?_;refine ZA [(.int .i64 0),(.slice none 0 0),(.int .i64 0),(.int .i64 0)] 4 2 YC fun h2=>?_;refine xL 3 Zb ?_;refine Zn ?_)
 (refine yL 5 (Zq 1 ZH) fun v5 hv5=>?_;cases hv5;refine cS 6 (cA call35 (Zbe t hf)) fun v6 hv6=>?_;cases hv6;refine xL 7 Ym ?_;refine Ze ?_)
 refine cX ?_ ?_<;>intro hb7
 · first|exact bN hb7|(
 refine Zf ?_;(refine xL 8 (Z3 KF) ?_;(refine Zp (WT (t:=8) (p':=pNt nt0) rfl Rh) fun _=>?_;refine Zv 2 Zr ?_);refine xL 3 Zb ?_;refine Ze ?_)
 refine Wo (k:=4) 2 kR (results11) rfl rfl rfl (Xa rfl) dC rfl ?_;rw [frX,Uo (by simpa using hb7)];rfl)
 · first|exact bN hb7|(
 (have hv:Jf t=true:=by simpa using hb7);have hok:=TA hv;have hsz:=SV hv;(have hfr:frX t=Ox (Ku t):=by rw [frX,Up hv]);refine Zf ?_;(refine xL 9 (Z3 KF) ?_;refine yL 10 (W7 Zb0) fun v10 hv10=>?_;cases hv10;refine Tb 11 4 fun b=>?_;refine xL 4 Zb ?_;refine Ze ?_)
 refine Zz (Z0 (l:=11) 1000 rfl rfl) fun _=>?_;refine Zz (WF 1001 69 3 rfl) fun _=>?_;(refine Zm ?_;refine xL 12 Za ?_;refine yL 13 (Zq 1 ZH) fun v13 hv13=>?_;cases hv13;(refine ZL [(1000,Yd b,PV.own 77 4 1 [Zc (⟨2,[]⟩:Bd).pl,PV.val (.slice none 0 0),Zc 0,Zc 1]),(1001, .slice none 0 0,PV.own 69 3 (⟨2,[]⟩:Bd).tr.length ((⟨2,[]⟩:Bd).tr.flatMap cTn)),(1,_,_),(2,_,_)] ⟨rfl,rfl,rfl,rfl,trivial⟩ ?_;refine ZT [1,2] 14 (call36) (ZbY t hok b 0 1 (.slice none 0 0) _ ⟨2,[]⟩ rfl dC (by show (2:Int)+_≤_;omega) (by show 0+_≤_;omega)) (fun v14 p14 h14 hR14=>?_);obtain ⟨w1,hw1,rfl⟩:=hR14;dsimp only [BdH]);refine Ze ?_)
 refine Zz (Wl (l:=1000) (l':=1001) (j:=1) rfl rfl rfl rfl) fun _=>?_;refine Zz (ZF (l:=1000) (p':= .own 77 4 1 (cNt (Ku t))) rfl (show PV.own 77 4 1 [Zc (Ku t).pl,share (.own 69 3 (Ku t).tr.length ((Ku t).tr.flatMap cTn)),Zc 0,Zc 1]=_ by rw [J2 _ _ _ rfl];rfl)) fun _=>?_;have en:cNt (Ku t)=[Zc (Ku t).pl,JS (Ku t).tr,Zc (Ku t).src,Zc (Ku t).snk]:=rfl;(refine Zm ?_;refine xL 15 Za (xL 16 (ZC 1000) (xL 17 (Zd 1000 WP) ?_));refine yL 18 (Zq 1000 Zr) fun v18 hv18=>?_;cases hv18;refine cS 19 (cA call37 (ζf (Ku t) (HA hok))) fun v19 hv19=>?_;cases hv19;refine xL 20 Ym ?_;refine Ze ?_)
 refine cX ?_ ?_<;>intro hb20
 · first|exact bN hb20|(
 refine Zf ?_;(refine xL 21 (Z3 KF) ?_;(refine Zp (WT (t:=21) (p':=pNt nt0) rfl Rh) fun _=>?_;refine Zv 2 Zr ?_);refine xL 3 Zb ?_;refine Ze ?_)
 refine Wo (k:=4) 2 kR (results11) rfl rfl rfl (Xa rfl) dC rfl ?_;rw [hfr,Ox,Uo (by simpa using hb20)];rfl)
 · first|exact bN hb20|(
 refine Zf ?_;(refine xL 22 Za (xL 23 (ZC 1000) (xL 24 (Zd 1000 WP) ?_));refine yL 25 (Zq 1000 Zr) fun v25 hv25=>?_;cases hv25;refine Zv 2 Zr ?_;refine xL 3 Zb ?_;refine Ze ?_)
 refine Wo (k:=4) 2 kR (results11) rfl rfl rfl (Xa rfl) dC rfl ?_;rw [hfr,Ox,Up (by simpa using hb20)];rfl))
theorem Oy:AggT prog 86 4=true:=by kernel_rfl
theorem Zb2:Y9 prog 83=some ((.agg #[(.int .i64 0),(.slice none 0 0),(.int .i64 0),(.int .i64 0),(.slice none 0 0),(.bool false)]),[(0,4),(4,1),(5,1)]):=by kernel_rfl
theorem Zb3:ZeroT prog 86 (.agg #[.nilFunc, .nilFunc, .nilFunc, .nilFunc]):=by unfold ZeroT;kernel_rfl
noncomputable def toX (n:Nt):Nd×Int:=if ntOk n=true then (if wfD n=true then toR n else (nd0,19)) else (nd0,1)
theorem Dy:∀{l:List Int},Ko ltZ l=true→l.Pairwise (· < ·)
 |[],_=>List.Pairwise.nil
 |[x],_=>VE ..
 | x ::y::l,h=>by
   rw [Ko,Xf] at h;have ih:=Dy h.2;have hxy:x<y:=Ur h.1;refine XQ.2 ⟨fun z hz=>?_,ih⟩;rcases Xn.1 hz with rfl|hz
   · exact hxy
   · have:=(XQ.1 ih).1 z hz;omega
theorem ZhD {n:Int} {l:List Int} (h:KR n l=true):l.Pairwise (· < ·):=by
 unfold KR at h
 rw [Xf] at h
 exact Dy h.2
theorem ZhE {n:Int} {l:List Int} (h:KR n l=true):l.length≤n.toNat:=by
 have:=Pn n l 0 (fun x hx=>Ou h hx) (ZhD h)
 simpa using this
theorem ZhF {n:Nt} (hn:ntOk n=true) (hf:Hr n.tr):ItOk n (n.tr.map it0):=by
 have hin:=ZdT hn
 refine ⟨by rw [Xe];omega,fun x hx=>?_,fun x hx=>?_⟩
 · obtain ⟨t,ht,rfl⟩:=Xq.1 hx;unfold it0;dsimp only;split
   · exact .mk _ dC dC dC dC fun x hx=>(by cases hx)
   · exact .mk _ (by show 0≤_;omega) (by show t.lab.size≤_;exact hf t ht) (by show _≤(1:Int);omega) (by show (1:Int)≤_;omega) fun x hx=>(by cases hx)
 · obtain ⟨t,ht,rfl⟩:=Xq.1 hx;unfold ntOk at hn;simp only [Xf,Xj] at hn;have h2:=hn.2 t ht;unfold GN at h2;rw [Xf] at h2;have:=ZhE h2.2;show t.outs.length≤_;omega
def RdS (n:Nt) (l:List It) (k:Nat) (l':List It) (fl ag:Bool):Prop:=(fl=false∧ag=false∧l'=l∧∀j,j<k→JC n l j=none)∨(fl=false∧ag=true∧∃a,Gm n l=some a∧Gn l a=some l')∨(fl=true∧ag=false∧l'=l∧∃a,Gm n l=some a∧Gn l a=none)
theorem RdS.rule {n:Nt} {l:List It} {k:Nat} (hk:k<4) (h:∀j,j<k→JC n l j=none):RdS n l (k+1) (ruX l (JC n l k)).2.1 (ruX l (JC n l k)).2.2 (ruX l (JC n l k)).1:=by
 cases ho:JC n l k with
 | none=>
   refine .inl ⟨rfl,rfl,rfl,fun j hj=>?_⟩;by_cases e:j=k
   · rw [e];exact ho
   · exact h j oM
 | some a=>
   have hs:=ZdP hk ho h
   cases hj:Gn l a with
   | none=>
     (have:jnX l a=(false,l,true):=by unfold jnX;rw [hj]);unfold ruX;dsimp only;rw [this];exact .inr (.inr ⟨rfl,rfl,rfl,a,hs,hj⟩)
   | some m=>
     (have:jnX l a=(true,m,false):=by unfold jnX;rw [hj]);unfold ruX;dsimp only;rw [this];exact .inr (.inl ⟨rfl,rfl,a,hs,hj⟩)
theorem RdS.skip {n:Nt} {l l':List It} {k:Nat} {fl ag:Bool} (h:RdS n l k l' fl ag) (hn:ag=true∨fl=true):RdS n l (k+1) l' fl ag:=by
 rcases h with h|h|h
 · rw [h.1,h.2.1] at hn;simp at hn
 · exact .inr (.inl h)
 · exact .inr (.inr h)
theorem RdS.now {n:Nt} {l l':List It} {k:Nat} {fl ag:Bool} (h:RdS n l k l' fl ag) (h1:ag=false) (h2:fl=false):l'=l∧∀j,j<k→JC n l j=none:=by
 rcases h with h|h|h
 · exact ⟨h.2.2.1,h.2.2.2⟩
 · rw [h.2.1] at h1;cases h1
 · rw [h.1] at h2;cases h2
theorem RdS.end {n:Nt} {l l':List It} {fl ag:Bool} {its:List It} (h:RdS n l 4 l' fl ag) (hl:ItOk n l) (h0:LO n its=LO n l):(ItOk n l'∧(fl=false→LO n its=LO n l')∧(fl=true→LO n its=none)∧(ag=false→fl=false→Gm n l'=none))∧2*l'.length+ag.toNat<2*l.length+true.toNat:=by
 rcases h with ⟨rfl,rfl,rfl,h⟩|⟨rfl,rfl,a,h1,h2⟩|⟨rfl,rfl,rfl,a,h1,h2⟩
 · exact ⟨⟨hl,fun _=>h0,fun h=>(by cases h),fun _ _=>Om h⟩,sM⟩
 · have hok:=Oo h1;have:=Pm hok h2;exact ⟨⟨hl.join hok h2,fun _=>h0.trans (ZfQ h1 h2),fun h=>(by cases h),fun h=>(by cases h)⟩,by simp;omega⟩
 · exact ⟨⟨hl,fun h=>(by cases h),fun _=>h0.trans (ZbV h1 h2),fun _ h=>(by cases h)⟩,sM⟩
def HB (n:Nt) (l:List It):Nd×Int:=match l with
 |[x]=>if x.ins=[n.src]∧x.outs=[n.snk] then (x.t,0) else (nd0,19)
 |_=>(nd0,19)
theorem ZhG {n:Nt} {l:List It} (h:LO n (n.tr.map it0)=some l):toR n=HB n l:=by
 unfold toR
 rw [h]
 unfold HB
 match l with
 |[]=>rfl
 |[x]=>rfl
 |_::_::_=>rfl
theorem ZhH (l:List It):∃x,l.length=1→l=[x]:=by
 match l with
 |[x]=>exact ⟨x,fun _=>rfl⟩
 |[]=>exact ⟨⟨[],[],To⟩,fun h=>by cases h⟩
 |_::_::_=>exact ⟨⟨[],[],To⟩,fun h=>by simp at h⟩
theorem ZdX {n:Nt} {l:List It} (h:l.length≠1):HB n l=(nd0,19):=by
 unfold HB
 match l,h with
 |[],_=>rfl
 |[x],h=>exact Uq rfl h
 |_::_::_,_=>rfl
theorem ZfX {n:Nt} {l:List It} {x:It} (hl:l=[x]) (h:¬(x.ins=[n.src]∧x.outs=[n.snk])):HB n l=(nd0,19):=by
 subst hl;unfold HB;dsimp only;rw [Uo h]
theorem ZdY {n:Nt} {l:List It} {x:It} (hl:l=[x]) (h:x.ins=[n.src]∧x.outs=[n.snk]):HB n l=(x.t,0):=by
 subst hl;unfold HB;dsimp only;rw [Up h]
def fkR:Nat→Nat
 |0=>43
 |1=>44
 |2=>45
 |_=>46
theorem Zip (k:Nat) (args:Array Value) (w:World):(callFunc (fkR k) args).run prog w= .ok (.enter (fkR k) args) w:=by
 match k with
 |0=>exact call43 args w
 |1=>exact call44 args w
 |2=>exact call45 args w
 |k+3=>exact call46 args w
theorem Ziq (k:Nat) (b:Nat) (v:Value) (n:Nt) (l:List It) (hv:v.oneCell'=true) (hl:ItOk n l) (hn0:0≤n.pl) (hn1:n.pl≤1000):AFh False prog (fkR k) [(0,ZX b, .val (ZX b))] (PrH b v n l false) (RuR b n l (JC n l k)):=by
 match k with
 |0=>exact ZbS b v n l hv hl.len hl.fit
 |1=>exact EZ b v n l hv hl.len hl.fit hn0 hn1
 |2=>exact ZfL b v n l hv hl.len hl.fit
 |k+3=>exact E4 b v n l hv hl.len hl.fit hl.out
def fkV (b k:Nat):Value:= .func (.func (fkR k)) #[ZX b] #[]
theorem ZhI (b:Nat) {k:Nat} (hk:k<4):[PV.val (fkV b 0), .val (fkV b 1), .val (fkV b 2), .val (fkV b 3)][k]? =some (.val (fkV b k)):=by
 match k,hk with
 |0,_=>rfl
 |1,_=>rfl
 |2,_=>rfl
 |3,_=>rfl
theorem ZfY (a:ByteArray):Rr (.agg [Zc 1,ZZ a, .val (.slice none 0 0)]) (pTr (.mk 1 a [])):=Rr.agg rfl fun i x y ha hb=>by
 match i with
 |0=>cases ha;cases hb;exact Rr.rfl' _
 |1=>cases ha;cases hb;exact Rr.rfl' _
 |2=>cases ha;cases hb;exact Rr.nil
 |i+3=>simp at ha
theorem ZdZ {tr:List Tn} {k:Nat} {x:Tn} (hx:tr[k]? =some x):(tr.take (k+1)).map it0=(tr.take k).map it0++[it0 x]:=by rw [Yo hx,X2];rfl
theorem ZaC {x:Tn} (h:¬x.lab=ByteArray.empty):(it0 x).t= .mk 1 x.lab []:=by unfold it0;rw [Uo h]
theorem Zd0 {x:Tn} (h:x.lab=ByteArray.empty):(it0 x).t=To:=by unfold it0;rw [Up h]
set_option maxHeartbeats 4000000 in
theorem Zb4 (n : Nt) (hf : Hr n.tr):AF prog 14 [pNt n] (· = .tup [pTr (toX n).1,Zc (toX n).2]):=by
 refine AF.of_body 135 func14 rfl ntmps14 (Xa rfl) ?_
 intro w0 M0 vs hl hv
 obtain ⟨v0,rfl⟩:=Kl hl
 clear hl hv
 refine Zf ?_
 (refine Yv 1 4 fun h1=>?_;refine ZA [(.int .i64 0),(.string ByteArray.empty),(.slice none 0 0)] 3 2 Kg fun h2=>?_;refine xL 3 Zb ?_;refine Zn ?_)
 (refine yL 13 (Zq 1 Zr) fun v13 hv13=>?_;cases hv13;refine cS 14 (cA call41 (Tf n hf)) fun v14 hv14=>?_;cases hv14;refine xL 15 Ym (xL 12 Zb ?_);refine Ze ?_)
 refine cX ?_ ?_<;>intro hb12
 · first|exact bN hb12|(
 refine Zf ?_;(refine xL 16 (Z3 KD) ?_;(refine Zp (WT (t:=16) (p':=pTr nd0) rfl GG) fun _=>?_;refine Zv 2 ZH ?_);refine xL 3 Zb ?_;refine Ze ?_)
 refine Wo (k:=3) 2 kR (results14) rfl rfl rfl (Xa rfl) dC rfl ?_;rw [toX,Uo (by simpa using hb12)];rfl)
 · first | exact bN hb12 | (
 refine Zf ?_;(refine yL 18 (Zq 1 Zr) fun v18 hv18=>?_;cases hv18;refine cS 19 (cA call42 (SA n hf)) fun v19 hv19=>?_;cases hv19;refine xL 20 Ym (xL 17 Zb ?_);refine Ze ?_)
 refine cX ?_ ?_<;>intro hb17
 · first|exact bN hb17|(
 refine Zf ?_;(refine xL 21 (Z3 KD) ?_;(refine Zp (WT (t:=21) (p':=pTr nd0) rfl GG) fun _=>?_;refine Zv 2 ZH ?_);refine xL 3 Zb ?_;refine Ze ?_)
 refine Wo (k:=3) 2 kR (results14) rfl rfl rfl (Xa rfl) dC rfl ?_;rw [toX,Up (by simpa using hb12),Uo (by simpa using hb17)];rfl)
 · first | exact bN hb17 |(
 refine Zf ?_;(refine yL 22 (Zq 1 Zr) fun v22 hv22=>?_;cases hv22;refine yL 23 (W7 Zb2) fun v23 hv23=>?_;cases hv23;refine Tb 24 6 fun b=>?_;refine xL 4 Zb ?_;refine Ze ?_)
 (have hok:ntOk n=true:=by simpa using hb12);(have hwf:wfD n=true:=by simpa using hb17);have hin:=ZdT hok;(have hto:toX n=toR n:=by rw [toX,Up hok,Up hwf]);refine Zz (Z0 (l:=24) 1000 rfl rfl) fun _=>?_;refine Zz (WF 1001 85 5 rfl) fun _=>?_;(refine Zm ?_;refine xL 25 (Zd 1 ZD) ?_;refine yL 26 (Zi 1 ZN) fun v26 hv26=>?_;cases hv26;refine xL 27 (Z1 ZI) (xL 28 Za ?_);refine Ze ?_)
 refine ZE (ι:={q:Nat×Value//q.1≤n.tr.length∧q.2.oneCell'=true}) (fun k=>⟨[(1,_,_),(2,_,_),(4,_,_),(26,_,_),(27,_,_),(28, .int .i64 k.1.1,Zc k.1.1)],[(1,_,_),(2,_,_),(1000,Yd b, .own 83 6 1 [Zc n.pl,JS n.tr,Zc n.src,Zc n.snk, .val k.1.2, .val (.bool false)]),(1001,k.1.2, .own 85 5 ((n.tr.take k.1.1).map it0).length (((n.tr.take k.1.1).map it0).flatMap cIt))]⟩) (fun k=>n.tr.length-k.1.1) ⟨(0, .slice none 0 0),Xh _,rfl⟩ (fun a w H=>H.weaken ⟨rfl,rfl,rfl,rfl,rfl,rfl,trivial⟩ ⟨rfl,rfl,rfl,rfl,trivial⟩) ?_;rintro ⟨⟨k,u⟩,hk,hu⟩;dsimp only;dsimp only at hk hu;have honeu:En.one (PV.val u)=true:=hu;refine Zf ?_;(refine xL 29 ZR ?_;refine Ze ?_)
 refine cX ?_ ?_<;>intro hb29
 · first | exact bN hb29|(
 obtain ⟨x,hx⟩:=Zw (show k<n.tr.length by omega);have e1:=Z' Yr n.tr k x hx;have e2:=Yp Yr hx;(have hil:((n.tr.take k).map it0).length≤k:=by rw [Xe,Xl];omega);refine Zf ?_;(refine xL 30 (ZP ZI) ?_;refine yL 31 (Yz Z9) fun v31 hv31=>?_;cases hv31;refine ZA [(.string ByteArray.empty),(.slice none 0 0),(.slice none 0 0)] 3 6 Wb fun h6=>?_;refine Zv 6 Z9 ?_;refine Zn ?_)
 (refine xL 32 (Z3 KD) ?_;refine ZA [(.int .i64 0),(.string ByteArray.empty),(.slice none 0 0)] 3 7 Kg fun h7=>?_;(refine Zp (WT (t:=32) (p':=pTr To) rfl Zaq) fun _=>?_;refine Zv 7 ZH ?_);refine Zn ?_)
 (refine xL 33 (Zd 6 Y7) ?_;refine yL 34 (Zi 6 WC) fun v34 hv34=>?_;cases hv34;refine xL 35 Lv ?_;refine Ze ?_)
 refine Kj (fun T:{T:Nd//T=(it0 x).t}=>⟨[(1,padd (sbase h1) 0, .val (padd (sbase h1) 0)),(2,padd (sbase h2) 0, .val (padd (sbase h2) 0)),(4,padd (sbase (Yd b)) 0, .val (padd (sbase (Yd b)) 0)),(6,padd (sbase h6) 0, .val (padd (sbase h6) 0)),(7,padd (sbase h7) 0, .val (padd (sbase h7) 0)),(26,v26,JS n.tr),(27, .int .i64 (n.tr.length:Nat), .val (.int .i64 (n.tr.length:Nat))),(28, .int .i64 k,Zc k)],[(1,h1, .own 29 4 1 (cNt n)),(2,h2, .own 24 3 1 [.val (.int .i64 0), .val (.string ByteArray.empty), .val (.slice none 0 0)]),(6,h6, .own 69 3 1 (cTn x)),(7,h7, .own 24 3 1 (cN T.1)),(1000,Yd b, .own 83 6 1 [Zc n.pl,JS n.tr,Zc n.src,Zc n.snk, .val u, .val (.bool false)]),(1001,u, .own 85 5 ((n.tr.take k).map it0).length (((n.tr.take k).map it0).flatMap cIt))]⟩) ?_ ?_
 · refine cX ?_ ?_<;>intro hb35
   · first|exact bN hb35|(
 refine Zf ?_;(refine xL 36 (Zd 6 Y7) ?_;refine yL 37 (Zi 6 WC) fun v37 hv37=>?_;cases hv37;refine xL 38 (Z3 KD) ?_;(refine Zp (WT (t:=38) (p':=pTr (.mk 1 x.lab [])) rfl (ZfY x.lab)) fun _=>?_;refine Zv 7 ZH ?_);refine Ze ?_)
 first
  |exact ZW ⟨.mk 1 x.lab [],(ZaC (fun e=>by rw [Js,e] at hb35;simp at hb35)).symm⟩ ⟨rfl,rfl,rfl,rfl,rfl,rfl,rfl,rfl,trivial⟩ ⟨rfl,rfl,rfl,rfl,rfl,rfl,trivial⟩
  |exact ZW ⟨To,(Zd0 (by rw [Js] at hb35;simpa using hb35)).symm⟩ ⟨rfl,rfl,rfl,rfl,rfl,rfl,rfl,rfl,trivial⟩ ⟨rfl,rfl,rfl,rfl,rfl,rfl,trivial⟩)
   · first|exact bN hb35|(
 refine nav ?_
 first
  |exact ZW ⟨.mk 1 x.lab [],(ZaC (fun e=>by rw [Js,e] at hb35;simp at hb35)).symm⟩ ⟨rfl,rfl,rfl,rfl,rfl,rfl,rfl,rfl,trivial⟩ ⟨rfl,rfl,rfl,rfl,rfl,rfl,trivial⟩
  |exact ZW ⟨To,(Zd0 (by rw [Js] at hb35;simpa using hb35)).symm⟩ ⟨rfl,rfl,rfl,rfl,rfl,rfl,rfl,rfl,trivial⟩ ⟨rfl,rfl,rfl,rfl,rfl,rfl,trivial⟩)
 · rintro ⟨T,hT⟩;dsimp only;refine nav ?_;(refine ZS (fun i=>([15]:List Nat).elem i) [6,7,1000] kR ?_<;>refine xD 0 39 rfl Za ?_<;>refine xD 1 40 rfl Za ?_<;>refine xD 2 41 rfl (ZC 1000) ?_<;>refine xD 3 42 rfl (Zd 1000 Yc) ?_<;>(refine yD 4 43 rfl (Zi 1000 YA) fun v43 h=>?_;cases h)<;>refine xD 5 44 rfl (Zd 6 Yi) ?_<;>(refine yD 6 45 rfl (Zi 6 Zy) fun v45 h=>?_;cases h)<;>refine xD 7 46 rfl (Zd 6 Yb) ?_<;>(refine yD 8 47 rfl (Zi 6 Zy) fun v47 h=>?_;cases h)<;>(refine yE 9 48 rfl (Zq 7 ZH) fun v48 h=>?_;cases h)<;>(refine yE 10 49 rfl (W7 Dq) fun v49 h=>?_;cases h)<;>(refine Zl 11 kR ?_)<;>(refine Zj rfl fun w9 M9 N9 DQ back=>?_)<;>refine K1 50 Tg fun h50 ho50=>?_<;>refine Zh (back _ (nrm ?_))<;>(refine Zl 12 kR ?_)<;>(refine Zj rfl fun w9 M9 N9 DQ back=>?_)<;>(refine Kk 1001 50 51 Tg fun h51 ho51=>?_;have hone51:En.one (PV.val h51)=true:=ho51;refine Zp (Z0 (l:=51) 1001 rfl rfl) fun _=>?_;refine Zp (ZF (l:=1001) rfl (show PV.own 85 5 (((n.tr.take k).map it0).length+1) (((n.tr.take k).map it0).flatMap cIt++cIt ⟨x.ins,x.outs,T⟩)= .own 85 5 ((n.tr.take (k+1)).map it0).length (((n.tr.take (k+1)).map it0).flatMap cIt) by rw [ZdH,ZdZ hx,hT];rfl)) fun _=>?_)<;>refine Zh (back _ (nrm ?_))<;>refine xE 13 52 rfl (ZC 1000) ?_<;>refine xE 14 53 rfl (Zd 1000 Yc) ?_<;>(refine Zl 15 kR ?_)<;>(refine WX rfl rfl kR fun DQ back=>?_)<;>refine Y3 1000 YA Dr ?_<;>refine Zh (back _ (nav ?_))<;>try dsimp only)
   (refine Zm ?_;refine xL 54 ZO (xL 28 Za ?_);refine Ze ?_)
   refine Zk (
    ⟨(k+1,h51),Zg hx,ho51⟩
    ) (by dsimp only;omega) ⟨rfl,rfl,rfl,rfl,rfl,rfl,trivial⟩ ⟨rfl,rfl,rfl,rfl,trivial⟩)
 · first | exact bN hb29|(
 refine nav ?_;obtain rfl:k=n.tr.length:=oM;rw [Vz];(refine Zm ?_;refine xL 55 Za (xL 56 Pq (xL 57 Za (xL 58 Pq (xL 59 Za (xL 60 Pq (xL 61 Za (xL 62 Pq ?_)))))));(refine xL 63 ((ZdU (z:= .agg #[.nilFunc, .nilFunc, .nilFunc, .nilFunc]) kR (by unfold ZeroT;kernel_rfl))) ?_);refine ZA [.nilFunc, .nilFunc, .nilFunc, .nilFunc] 4 8 Zb3 fun h8=>?_;refine Zv 8 Oy ?_;refine Zn ?_)
 (refine xL 9 Zb ?_;refine Ze ?_)
 refine ZE (ι:={q:List It×Bool×Bool×Value//ItOk n q.1∧q.2.2.2.oneCell'=true∧(q.2.1=false→LO n (n.tr.map it0)=LO n q.1)∧(q.2.1=true→LO n (n.tr.map it0)=none)∧(q.2.2.1=false→q.2.1=false→Gm n q.1=none)}) (fun k=>⟨[(1,_,_),(2,_,_),(4,_,_),(8,_,_),(9, .bool k.1.2.2.1, .val (.bool k.1.2.2.1))],[(1,_,_),(2,_,_),(8,_,_),(1000,Yd b, .own 83 6 1 [Zc n.pl,JS n.tr,Zc n.src,Zc n.snk, .val k.1.2.2.2, .val (.bool k.1.2.1)]),(1001,k.1.2.2.2, .own 85 5 k.1.1.length (k.1.1.flatMap cIt))]⟩) (fun k=>2*k.1.1.length+k.1.2.2.1.toNat) ⟨(n.tr.map it0,false,true,u),ZhF hok hf,hu,fun _=>rfl,fun h=>(by cases h),fun h=>(by cases h)⟩ (fun a w H=>H.weaken ⟨rfl,rfl,rfl,rfl,rfl,trivial⟩ ⟨rfl,rfl,rfl,rfl,rfl,trivial⟩) ?_;rintro ⟨⟨l,fl,ag,v⟩,hl,hv,hfl0,hfl1,hst⟩;dsimp only;dsimp only at hl hv hfl0 hfl1 hst;refine Zf ?_;(refine xL 64 Za (xL 65 Za ?_)<;>(refine bL 65 (fun hb65=>?_) (fun hb65=>?_)<;>(first|refine kL 66 ?_|refine xL 66 Za ?_))<;>(first|refine kL 67 ?_|refine xL 67 (ZC 1000) ?_)<;>(first|refine kL 68 ?_|refine xL 68 (Zd 1000 Gq) ?_)<;>(first|refine kL 69 ?_|(refine yL 69 (Zi 1000 Ks) fun v69 h=>?_;cases h))<;>(first|refine kL 70 ?_|refine xL 70 Ym ?_)<;>refine xL 71 Zu ?_<;>refine Ze ?_)<;>(
 refine cX ?_ ?_<;>intro hb71
 · first | exact bN hb71|(
 subst hb65;(obtain rfl:fl=false:=by simpa using hb71);refine Zf ?_;(refine xL 9 Zb ?_;refine Zn ?_)
 (refine yL 72 (Zq 8 Oy) fun v72 hv72=>?_;cases hv72;refine xL 73 Za ?_;refine Ze ?_)
 refine ZE (ι:={q:Nat×List It×Bool×Bool×Value//q.1≤4∧q.2.2.2.2.oneCell'=true∧RdS n l q.1 q.2.1 q.2.2.1 q.2.2.2.1}) (fun k=>⟨[(1,_,_),(2,_,_),(4,_,_),(8,_,_),(72,_,_),(73, .int .i64 k.1.1,Zc k.1.1),(9, .bool k.1.2.2.2.1, .val (.bool k.1.2.2.2.1))],[(1,_,_),(2,_,_),(8,_,_),(1000,Yd b, .own 83 6 1 [Zc n.pl,JS n.tr,Zc n.src,Zc n.snk, .val k.1.2.2.2.2, .val (.bool k.1.2.2.1)]),(1001,k.1.2.2.2.2, .own 85 5 k.1.2.1.length (k.1.2.1.flatMap cIt))]⟩) (fun k=>4-k.1.1) ⟨(0,l,false,false,v),Xh _,hv, .inl ⟨rfl,rfl,rfl,fun j hj=>Uq hj (VZ j)⟩⟩ (fun a w H=>H.weaken ⟨rfl,rfl,rfl,rfl,rfl,rfl,rfl,trivial⟩ ⟨rfl,rfl,rfl,rfl,rfl,trivial⟩) ?_;rintro ⟨⟨k,l',fl,ag,v'⟩,hk,hv',hrd⟩;dsimp only;dsimp only at hk hv' hrd;refine Zf ?_;(refine xL 74 ZR ?_;refine Ze ?_)
 refine cX ?_ ?_<;>intro hb74
 · first | exact bN hb74|(
 have hk4:k<4:=oM;refine Zf ?_;(refine xL 75 ((ZhB (n:=4) kR (underlying86) kR hk4 (ZhI b hk4))) ?_;refine xL 11 Zb ?_;refine Zn ?_)
 (refine xL 76 Za (xL 77 Ym (xL 78 Za ?_))<;>(refine bL 78 (fun hb78=>?_) (fun hb78=>?_)<;>(first|refine kL 79 ?_|refine xL 79 Za ?_))<;>(first|refine kL 80 ?_|refine xL 80 (ZC 1000) ?_)<;>(first|refine kL 81 ?_|refine xL 81 (Zd 1000 Gq) ?_)<;>(first|refine kL 82 ?_|(refine yL 82 (Zi 1000 Ks) fun v82 h=>?_;cases h))<;>(first|refine kL 83 ?_|refine xL 83 Ym ?_)<;>refine xL 84 Zu ?_<;>refine Ze ?_)<;>(
 refine cX ?_ ?_<;>intro hb84
 · first |exact bN hb84|(
 (obtain rfl:ag=false:=by simpa using hb78);(obtain rfl:fl=false:=by simpa using hb84);obtain ⟨hll,hnone⟩:=hrd.now rfl rfl;have hll:=hll.symm;subst hll;refine Zf ?_;(refine xL 85 Za ?_;(refine ZL [(1000,_,_),(1001,_,_),(1,_,_),(2,_,_),(8,_,_)] ⟨rfl,rfl,rfl,rfl,rfl,trivial⟩ ?_;refine ZhC [1,2,8] 86 (Zip k) (Ziq k b v' n l hv' hl oM oM) (fun v86 p86 h86 hR86=>?_);obtain ⟨w,hw,rfl,rfl,rfl⟩:=hR86;dsimp only [PrH]);refine xL 9 Zb ?_;refine Zn ?_)
 (refine xL 87 ZO (xL 73 Za ?_);refine Ze ?_)
 first
  | (exact Zk (
      ⟨(k+1,(ruX l (JC n l k)).2.1,(ruX l (JC n l k)).2.2,(ruX l (JC n l k)).1,w),hk4,hw,RdS.rule hk4 hnone⟩
      ) (by dsimp only;omega) ⟨rfl,rfl,rfl,rfl,rfl,rfl,rfl,trivial⟩ ⟨rfl,rfl,rfl,rfl,rfl,trivial⟩)
  | (exact Zk (
      ⟨(k+1,l',fl,ag,v'),hk4,hv',hrd.skip hsk⟩
      ) (by dsimp only;omega) ⟨rfl,rfl,rfl,rfl,rfl,rfl,rfl,trivial⟩ ⟨rfl,rfl,rfl,rfl,rfl,trivial⟩))
 · first |exact bN hb84|(
 have hsk:ag=true∨fl=true:=by
  first
   |exact .inr (by simpa using hb84)
   |exact .inl (by simpa using hb78)
 refine Zf ?_;(refine xL 87 ZO (xL 73 Za ?_);refine Ze ?_)
 first
  | (exact Zk (
      ⟨(k+1,(ruX l (JC n l k)).2.1,(ruX l (JC n l k)).2.2,(ruX l (JC n l k)).1,w),hk4,hw,RdS.rule hk4 hnone⟩
      ) (by dsimp only;omega) ⟨rfl,rfl,rfl,rfl,rfl,rfl,rfl,trivial⟩ ⟨rfl,rfl,rfl,rfl,rfl,trivial⟩)
  | (exact Zk (
      ⟨(k+1,l',fl,ag,v'),hk4,hv',hrd.skip hsk⟩
      ) (by dsimp only;omega) ⟨rfl,rfl,rfl,rfl,rfl,rfl,rfl,trivial⟩ ⟨rfl,rfl,rfl,rfl,rfl,trivial⟩))))
 · first|exact bN hb74|(
 obtain rfl:k=4:=oM;obtain ⟨⟨q1,q2,q3,q4⟩,q5⟩:=hrd.end hl (hfl0 rfl);refine nav ?_;refine Zk (
  ⟨(l',fl,ag,v'),q1,hv',q2,q3,q4⟩
  ) (q5) ⟨rfl,rfl,rfl,rfl,rfl,trivial⟩ ⟨rfl,rfl,rfl,rfl,rfl,trivial⟩))
 · first | exact bN hb71|(
 have hcase:fl=true∨ag=false:=by
  first
   |exact .inr hb65
   |exact .inl (by simpa using hb71)
 refine Zf ?_;(refine xL 89 Za (xL 90 (ZC 1000) (xL 91 (Zd 1000 Gq) ?_));refine yL 92 (Zi 1000 Ks) fun v92 hv92=>?_;cases hv92;refine xL 88 Zb ?_;refine Ze ?_)
 refine cX ?_ ?_<;>intro hb88
 · first|exact bN hb88|(
 refine Zf ?_;(refine xL 93 (Z3 KD) ?_;(refine Zp (WT (t:=93) (p':=pTr nd0) rfl GG) fun _=>?_;refine Zv 2 ZH ?_);refine xL 3 Zb ?_;refine Ze ?_)
 refine Wo (k:=3) 2 kR (results14) rfl rfl rfl (Xa rfl) dC rfl ?_;rw [hto,show toR n=(nd0,5) by unfold toR;rw [hfl1 hb88]];rfl)
 · first | exact bN hb88|(
 have hag:ag=false:=hcase.resolve_left (by rw [hb88];decide);have htr:toR n=HB n l:=ZhG ((hfl0 hb88).trans (ZdQ (hst hag hb88)));obtain ⟨x,hx1⟩:=ZhH l;rw [htr] at hto;refine nav ?_;(refine ZS (fun i=>([]:List Nat).elem i) [1,1000,1001] kR ?_<;>refine xE 0 95 rfl Za ?_<;>refine xE 1 96 rfl (ZC 1000) ?_<;>refine xE 2 97 rfl (Zd 1000 Yc) ?_<;>(refine yE 3 98 rfl (Zi 1000 YA) fun v98 h=>?_;cases h)<;>refine xE 4 99 rfl (YV 1001 Yl) ?_<;>refine xE 5 100 rfl YN ?_<;>refine xE 6 101 rfl Za ?_<;>(refine bDd 101 (fun hb101=>?_) (fun hb101=>?_)<;>(first|refine kD 7 102 rfl ?_|refine xD 7 102 rfl Za ?_))<;>(first|refine kD 8 103 rfl ?_|refine xD 8 103 rfl (ZC 1000) ?_)<;>(first|refine kD 9 104 rfl ?_|refine xD 9 104 rfl (Zd 1000 Yc) ?_)<;>(first|refine kD 10 105 rfl ?_|(refine yD 10 105 rfl (Zi 1000 YA) fun v105 h=>?_;cases h))<;>(first|refine kD 11 106 rfl ?_|refine xD 11 106 rfl (Zt 1001 Yl) ?_)<;>(first|refine kD 12 107 rfl ?_|refine xD 12 107 rfl (Zd 1001 YQ) ?_)<;>(first|refine kD 13 108 rfl ?_|(have e7:(l.flatMap cIt)[0*5+0]? =some (pInts x.ins):=(congrArg (fun c:List It=>(c.flatMap cIt)[0*5+0]?) (hx1 oM)).trans rfl;refine yD 13 108 rfl (Zi 1001 Zy) fun v108 h=>?_;cases h))<;>(first|refine kD 14 109 rfl ?_|refine xD 14 109 rfl (Zd 1 YP) ?_)<;>(first|refine kD 15 110 rfl ?_|(refine yD 15 110 rfl (Zi 1 Zo) fun v110 h=>?_;cases h))<;>(refine Zl 16 kR ?_)<;>(refine Zj rfl fun w9 M9 N9 DQ back=>?_)<;>(first|refine kL 111 ?_|(refine cS 111 (cA call47 (Jo x.ins n.src)) fun v111 h=>?_;cases h))<;>refine Zh (back _ (nrm ?_))<;>(first|refine kD 17 112 rfl ?_|refine xD 17 112 rfl Ym ?_)<;>refine xE 18 113 rfl Zu ?_<;>refine xE 19 114 rfl Za ?_<;>(first|refine kD 20 115 rfl ?_|(refine bD 114 (fun hb114=>?_) (fun hb114=>?_)<;>(first|refine kD 20 115 rfl ?_|refine xD 20 115 rfl Za ?_)))<;>(first|refine kD 21 116 rfl ?_|refine xD 21 116 rfl (ZC 1000) ?_)<;>(first|refine kD 22 117 rfl ?_|refine xD 22 117 rfl (Zd 1000 Yc) ?_)<;>(first|refine kD 23 118 rfl ?_|(refine yD 23 118 rfl (Zi 1000 YA) fun v118 h=>?_;cases h))<;>(first|refine kD 24 119 rfl ?_|refine xD 24 119 rfl (Zt 1001 Yl) ?_)<;>(first|refine kD 25 120 rfl ?_|refine xD 25 120 rfl (Zd 1001 Yx) ?_)<;>(first|refine kD 26 121 rfl ?_|(have e8:(l.flatMap cIt)[0*5+1]? =some (pInts x.outs):=(congrArg (fun c:List It=>(c.flatMap cIt)[0*5+1]?) (hx1 oM)).trans rfl;refine yD 26 121 rfl (Zi 1001 Zy) fun v121 h=>?_;cases h))<;>(first|refine kD 27 122 rfl ?_|refine xD 27 122 rfl (Zd 1 YW) ?_)<;>(first|refine kD 28 123 rfl ?_|(refine yD 28 123 rfl (Zi 1 Zo) fun v123 h=>?_;cases h))<;>(refine Zl 29 kR ?_)<;>(refine Zj rfl fun w9 M9 N9 DQ back=>?_)<;>(first|refine kL 124 ?_|(refine cS 124 (cA call47 (Jo x.outs n.snk)) fun v124 h=>?_;cases h))<;>refine Zh (back _ (nrm ?_))<;>(first|refine kD 30 125 rfl ?_|refine xD 30 125 rfl Ym ?_)<;>refine xE 31 126 rfl Zu ?_<;>refine xE 32 94 rfl Zb ?_<;>refine Yu kR (nav ?_)<;>try dsimp only)<;>(
 refine cX ?_ ?_<;>intro hb94
 · first | exact bN hb94|(
 refine Zf ?_;(refine xL 127 (Z3 KD) ?_;(refine Zp (WT (t:=127) (p':=pTr nd0) rfl GG) fun _=>?_;refine Zv 2 ZH ?_);refine xL 3 Zb ?_;refine Ze ?_)
 refine Wo (k:=3) 2 kR (results14) rfl rfl rfl (Xa rfl) dC rfl ?_;rw [hto]
 first
  |(rw [ZdX oM];rfl)
  | (have hno:¬(x.ins=[n.src]∧x.outs=[n.snk]):=by
      rintro ⟨g1,g2⟩
      first
       |(rw [g1] at hb114;simp at hb114;done)
       |(rw [g2] at hb94;simp at hb94;done)
     rw [ZfX (hx1 oM) hno];rfl))
 · first|exact bN hb94|(
 refine nav ?_;obtain rfl:=hx1 oM;have e1:=Zap (l:=[x]) (k:=0) rfl;have e2:=Oj (l:=[x]) (k:=0) rfl;(refine Zm ?_;refine xL 128 Za (xL 129 (ZC 1000) (xL 130 (Zd 1000 Yc) ?_));refine yL 131 (Zi 1000 YA) fun v131 hv131=>?_;cases hv131;refine xL 132 (Zt 1001 Yl) (xL 133 (Zd 1001 Wu) ?_);refine yL 134 (Zq 1001 ZH) fun v134 hv134=>?_;cases hv134;refine Zv 2 ZH ?_;refine xL 3 Zb ?_;refine Ze ?_)
 refine Wo (k:=3) 2 kR (results14) rfl rfl rfl (Xa rfl) dC rfl ?_;rw [hto,ZdY rfl ⟨by simpa using hb114,by simpa using hb94⟩];rfl))))))))
def Yg (p x:Int):Int:=if p<x then x-1 else x
def noZ (p:Int) (l:List Int):List Int:=(l.filter (· ≠p)).map (Yg p)
def SC (n:Nt) (p:Int):Nt:=⟨n.pl-1,n.tr.map fun t=>⟨t.lab,noZ p t.ins,noZ p t.outs⟩,Yg p n.src,Yg p n.snk⟩
def OY (n:Nt) (k:Nat):Nt:=⟨n.pl,n.tr.eraseIdx k,n.src,n.snk⟩
def ζj (q:Int):List Int→List Int
 |[]=>[q]
 |x::l=>if x<q then x::ζj q l else if x=q then x::l else q::x::l
def Gb (p q:Int) (l:List Int):List Int:=if p∈l then ζj q (l.filter (· ≠p)) else l
def Ri (n:Nt) (p:Int) (out:Bool):Nat:=(n.tr.filter fun t=>if out=true then t.outs.contains p else t.ins.contains p).length
def Dz (t u:Tn):Bool:=decide (t.lab=u.lab)&&decide (t.ins=u.ins)&&decide (t.outs=u.outs)
def ζk (a b:Int) (t:Tn):Bool:=(t.ins.contains a==t.ins.contains b)&&(t.outs.contains a==t.outs.contains b)
def Ka (n:Nt) (r:Int) (a b:Nat):Option Nt:=
 if r=1 then match n.tr[a]?,n.tr[b]? with
  |some t,some u=>if a<b∧Dz t u=true then some (OY n b) else none
  |_,_=>none
 else if r=2 then if a<b∧(a:Int)≠n.src∧(a:Int)≠n.snk∧(b:Int)≠n.src∧(b:Int)≠n.snk∧n.tr.all (ζk a b)=true then some (SC n b) else none
 else match n.tr[a]? with
  |none=>none
  | some t=>match t.ins,t.outs with
    | [p],[q]=>if t.lab≠ByteArray.empty then none
      else if r=3 then if p≠q∧p≠n.src∧Ri n p false=1∧n.tr.all (fun t=> !(t.outs.contains p&&t.outs.contains q))=true then
       some (SC ⟨n.pl,(n.tr.eraseIdx a).map fun t=>⟨t.lab,t.ins,Gb p q t.outs⟩,n.src,n.snk⟩ p) else none
      else if r=4 then if p=n.src∧q≠n.snk∧Ri n p false=1∧Ri n q true=1 then
       some (SC ⟨n.pl,(n.tr.eraseIdx a).map fun t=>⟨t.lab,Gb q p t.ins,t.outs⟩,n.src,n.snk⟩ q) else none
      else if p=q then some (OY n a) else none
    |_,_=>none
abbrev Stp:=Nat×Nat×Nat
def WU (n:Nt) (r:Nat):Nat:=if r=2 then n.pl.toNat else n.tr.length
def Ja (n:Nt):Option (Nt×Stp):=LM 5 fun r=>LM (WU n (r+1)) fun a=>LM (if r+1≤2 then WU n (r+1) else 1) fun b=>(Ka n ((r:Int)+1) a b).map (·,r+1,a,b)
def HC:Nat→Nt→Nt×List Int
 |0,n=>(n,[])
 | f+1,n=>match Ja n with
   |none=>(n,[])
   |some (m,r,a,b)=>((HC f m).1,[(r:Int),(a:Int),(b:Int)]++(HC f m).2)
def Lq (n:Nt):Nat:=n.pl.toNat+n.tr.length
def Gc (l:List Int):List Int:=l.foldl (fun m x=>if m.getLast? =some x then m else m++[x]) []
theorem Rj (l:List Int) (x:Int):Gc (l++[x])=if (Gc l).getLast? =some x then Gc l else Gc l++[x]:=by unfold Gc;rw [List.foldl_append];rfl
theorem DC (l:List Int) (x:Int):(Gc (l++[x])).getLast? =some x:=by
 rw [Rj]
 split
 · assumption
 · simp
theorem Ca {l:List Int} {p:Nat} {x y:Int} (hy:l[p]? =some y) (hx:l[p+1]? =some x) (he:x=y):Gc (l.take (p+1+1))=Gc (l.take (p+1)):=by
 rw [Yo hx,Rj,Up]
 rw [Yo hy,DC,he]
theorem ZaD {l:List Int} {p:Nat} {x y:Int} (hy:l[p]? =some y) (hx:l[p+1]? =some x) (he:x≠y):Gc (l.take (p+1+1))=Gc (l.take (p+1))++[x]:=by
 rw [Yo hx,Rj,Uo]
 rw [Yo hy,DC]
 intro h;cases h;exact he rfl
theorem ZfZ {l:List Int} (h:1≤l.length):Gc (l.take 1)=l.take 1:=by
 cases l with
 |nil=>simp at h
 |cons x l=>rfl
theorem ζl :∀(l m:List Int),(m++l).Pairwise (· ≤ ·)→m.Pairwise (· < ·)→(l.foldl (fun m x=>if m.getLast? =some x then m else m++[x]) m).Pairwise (· < ·)∧∀x,x∈l.foldl (fun m x=>if m.getLast? =some x then m else m++[x]) m↔x∈m∨x∈l
 |[],m,_,h=>⟨h,fun x=>sM⟩
 | y :: l, m,h1,h2=>by
   rw [Vt];by_cases hy:m.getLast? =some y
   · rw [Up hy];obtain ⟨a,b⟩:=ζl l m (h1.sublist (List.Sublist.append_left (List.sublist_cons_self ..) _)) h2;refine ⟨a,fun x=>(b x).trans ?_⟩;have hm:y∈m:=List.mem_of_getLast? hy;rw [Xn];exact ⟨fun h=>h.elim .inl fun h=> .inr (.inr h),fun h=>h.elim .inl fun h=>h.elim (fun h=> .inl (h▸hm)) .inr⟩
   · rw [Uo hy];have h3:(m++[y]).Pairwise (· < ·):=by
      refine V3.2 ⟨h2,VE ..,fun a ha b hb=>?_⟩;rw [Xr.1 hb];have hle:a≤y:=(V3.1 h1).2.2 a ha y (XD ..);rcases Int.lt_or_eq_of_le hle with h|h
      · exact h
      · exfalso;subst h;apply hy;obtain ⟨z,hz⟩:∃z,m.getLast? =some z:=by
         cases hm:m.getLast? with
         |some z=>exact ⟨z,rfl⟩
         |none=>rw [List.getLast?_eq_none_iff] at hm;subst hm;cases ha
        rw [hz];have hzm:z∈m:=List.mem_of_getLast? hz;have hz2:z≤a:=(V3.1 h1).2.2 z hzm a (XD ..);obtain ⟨t,rfl⟩:=List.getLast?_eq_some_iff.1 hz;rcases XW.1 ha with ha|ha
        · have:=(V3.1 h2).2.2 a ha z (Xr.2 rfl);omega
        · rw [Xr.1 ha]
     obtain ⟨a,b⟩:=ζl l (m++[y]) (by rw [XC];exact h1) h3;refine ⟨a,fun x=>(b x).trans ?_⟩;rw [XW,Xr,Xn,or_assoc]
theorem Zf0 {l:List Int} (h:l.Pairwise (· ≤ ·)):(Gc l).Pairwise (· < ·)∧∀x,x∈Gc l↔x∈l:=by
 obtain ⟨a,b⟩:=ζl l [] h List.Pairwise.nil
 exact ⟨a,fun x=>(b x).trans sM⟩
theorem Oz (q x:Int):∀l:List Int,x∈ζj q l↔x=q∨x∈l
 |[]=>by simp [ζj]
 | y :: l=>by
   rw [ζj];split
   · rw [Xn,Oz q x l,Xn];exact ⟨fun h=>h.elim (fun h=> .inr (.inl h)) fun h=>h.elim .inl fun h=> .inr (.inr h),fun h=>h.elim (fun h=> .inr (.inl h)) fun h=>h.elim .inl fun h=> .inr (.inr h)⟩
   · split
     · rename_i h;subst h;rw [Xn];exact ⟨.inr,fun h=>h.elim .inl id⟩
     · rw [Xn]
theorem Cc (q:Int):∀{l:List Int},l.Pairwise (· < ·)→(ζj q l).Pairwise (· < ·)
 |[],_=>VE ..
 | y :: l,h=>by
   obtain ⟨h1,h2⟩:=XQ.1 h;rw [ζj];split
   · rename_i hl;refine XQ.2 ⟨fun z hz=>?_,Cc q h2⟩;rcases (Oz q z l).1 hz with rfl|hz
     · exact hl
     · exact h1 z hz
   · split
     · exact h
     · refine XQ.2 ⟨fun z hz=>?_,h⟩;rcases Xn.1 hz with rfl|hz
       · omega
       · have:=h1 z hz;omega
theorem OA {p q:Int} {l:List Int} (h:l.Pairwise (· < ·)):(Gb p q l).Pairwise (· < ·):=by
 unfold Gb
 split
 · exact Cc q (h.filter _)
 · exact h
theorem OB {p q:Int} {l:List Int} (x:Int):x∈Gb p q l↔∃y∈l,x=if y=p then q else y:=by
 unfold Gb
 split
 · rename_i hp;rw [Oz,Vj];constructor
   · rintro (rfl|⟨h1,h2⟩)
     · exact ⟨p,hp,by rw [Up rfl]⟩
     · exact ⟨x,h1,by rw [Uo (by simpa using h2)]⟩
   · rintro ⟨y,hy,rfl⟩;by_cases h:y=p
     · rw [Up h];exact .inl rfl
     · rw [Uo h];exact .inr ⟨hy,by simpa using h⟩
 · rename_i hp;constructor
   · exact fun h=>⟨x,h,by rw [Uo (fun e:x=p=>hp (e▸h))]⟩
   · rintro ⟨y,hy,rfl⟩;rw [Uo (fun e:y=p=>hp (e▸hy))];exact hy
theorem Zf1 {p q:Int} {l m:List Int} (h:l.Pairwise (· < ·)) (hm:m.Pairwise (· ≤ ·)) (hp:m.Perm (l.map fun y=>if y=p then q else y)):Gc m=Gb p q l:=by
 obtain ⟨h1,h2⟩:=Zf0 hm
 refine Zaz h1 (OA h) fun x=>?_
 rw [h2,hp.mem_iff,OB,Xq]
 exact ⟨fun ⟨y,hy,e⟩=>⟨y,hy,e.symm⟩,fun ⟨y,hy,e⟩=>⟨y,hy,e.symm⟩⟩
theorem Cd {hv:Value} (h:hv.oneCell'=true) (i j k:Nat):(slc hv i j k).oneCell'=true:=by
 unfold slc;split
 · rfl
 · exact h
theorem Zir {l:List Int} {k:Nat} {y:Int} (hy:l[k]? =some y):(l.map Zc)[(((k+1:Nat):Int)-1).toNat*1]? =some (Zc y):=by rw [show (((k+1:Nat):Int)-1).toNat*1=k by omega,Xo,hy];rfl
set_option maxHeartbeats 2000000 in
theorem HD (l : List Int) (hl:l.length≤1000000) (hv:Value) (hvo:hv.oneCell'=true):AFh False prog 148 [(0,hv, .val hv)] [(1000,hv, .own 3 1 l.length (l.map Zc))] (fun v q h=>v.oneCell'=true∧q= .val v∧h=[(1000,v, .own 3 1 (Gc l).length ((Gc l).map Zc))]):=by
 refine AFh.of_body 61 func148 rfl ntmps148 (Xa rfl) rfl ?_
 intro w0 M0 N0
 refine Zf ?_
 (refine xL 2 Zb ?_;refine Zn ?_)
 (refine xL 6 Za (xL 7 (YV 1000 Zs) (xL 8 ZR ?_));refine Ze ?_)
 refine cX ?_ ?_<;>intro hb8
 · first|exact bN hb8|(
 refine Zf ?_;(refine xL 9 Za (xL 2 Zb ?_);refine Ze ?_)
 refine WQ [(1000,hv,PV.own 3 1 l.length (l.map Zc))] (results148) rfl ⟨rfl,trivial⟩ ⟨hvo,rfl,?_⟩;have hm:Gc l=l:=by
  match l,hl,hb8 with
  |[],_,_=>rfl
  |[_],_,_=>rfl
  |_::_::_,_,h=>simp at h;omega
 rw [hm])
 · first | exact bN hb8|(
 refine Zf ?_;(refine xL 3 Zb ?_;refine Ze ?_)
 refine ZE (ι:={k:Nat//1≤k∧k≤l.length∧Gc (l.take k)=l.take k}) (fun k=>⟨[(0,_,_),(3, .int .i64 k.1,Zc k.1)],[(1000,_,_)]⟩) (fun k=>l.length-k.1) ⟨1,Xb _,oM,ZfZ oM⟩ (fun a w H=>H.weaken ⟨rfl,rfl,trivial⟩ ⟨rfl,trivial⟩) ?_;rintro ⟨k1,hk1,hk,hmk⟩;dsimp only;obtain ⟨k,rfl⟩:∃k,k1=k+1:=⟨k1-1,oM⟩;refine Zf ?_;(refine xL 10 Za (xL 11 Za (xL 12 (YV 1000 Zs) (xL 13 ZR ?_)));refine Ze ?_)
 refine cX ?_ ?_<;>intro hb13
 · first | exact bN hb13|(
 obtain ⟨x,hx⟩:=Zw (show k+1<l.length by omega);obtain ⟨y,hy⟩:=Zw (show k<l.length by omega);have e1:=Y2 (f:=Zc) hx;have e3:=Zir hy;have hlt:k+1<l.length:=Zg hx;refine nav ?_;(refine ZS (fun i=>([]:List Nat).elem i) [1000] kR ?_<;>refine xD 0 16 rfl Za ?_<;>refine xD 1 17 rfl Za ?_<;>refine xD 2 18 rfl (Zt 1000 Zs) ?_<;>(refine yD 3 19 rfl (Zi 1000 Zo) fun v19 h=>?_;cases h)<;>refine xD 4 20 rfl Za ?_<;>refine xE 5 21 rfl Za ?_<;>refine xE 6 22 rfl Gf ?_<;>refine xE 7 23 rfl (ZgT 1000 Zs) ?_<;>(refine yE 8 24 rfl (Zi 1000 Zo) fun v24 h=>?_;cases h)<;>refine xE 9 25 rfl ZQ ?_<;>refine Yu kR (nav ?_)<;>try dsimp only)
 refine cX ?_ ?_<;>intro hb25
 · first | exact bN hb25|(
 have hsm:=Ca hy hx oM;(have hl1:(Gc (l.take (k+1+1))).length=k+1:=by rw [hsm,hmk,Xl];omega);refine Zf ?_;(refine xL 26 Za (xL 27 Za ?_);refine xL 28 (Kc (i:=k+1) (j:=l.length) 1000 Zs rfl rfl rfl rfl rfl (Nat.le_of_lt hlt) (Xb _)) ?_;refine xL 4 Zb ?_;refine Zn ?_)
 (refine xL 5 Zb ?_;refine Ze ?_)
 refine ZE (ι:={q:Nat×Nat×List Int//1≤q.1∧k+1+q.1≤l.length∧q.2.1=(Gc (l.take (k+1+q.1))).length∧q.2.2.length=l.length∧q.2.2.take q.2.1=Gc (l.take (k+1+q.1))∧q.2.1≤k+q.1∧∀i,k+q.1≤i→q.2.2[i]? =l[i]? }) (fun k=>⟨[(0,_,_),(4,_,_),(3, .int .i64 k.1.2.1,Zc k.1.2.1),(5, .int .i64 k.1.1,Zc k.1.1)],[(1000,hv, .own 3 1 l.length (k.1.2.2.map Zc))]⟩) (fun k=>l.length-k.1.1) ⟨(1,k+1,l),Xb _,by dsimp only;omega,hl1.symm,rfl,by dsimp only;rw [hsm,hmk],Xb _,fun i _=>rfl⟩ (fun a w H=>H.weaken ⟨rfl,rfl,rfl,rfl,trivial⟩ ⟨rfl,trivial⟩) ?_;rintro ⟨⟨j,K,L⟩,hj1,hj,hK,hLl,hLt,hKj,hLr⟩;dsimp only;dsimp only at hj1 hj hK hLl hLt hKj hLr;obtain ⟨j',rfl⟩:∃j',j=j'+1:=⟨j-1,oM⟩;have hK2:(K:Int)≤1000000:=oM;rw [show k+1+(j'+1)=k+1+j'+1 from rfl] at hK hLt;refine Zf ?_;(refine xL 29 Za (xL 30 Za ?_);refine xL 31 ((De (a:=k+1) (m:=l.length-(k+1)) 1000 Zs rfl rfl rfl rfl)) ?_;refine xL 32 ZR ?_;refine Ze ?_)
 refine cX ?_ ?_<;>intro hb32
 · first | exact bN hb32|(
 obtain ⟨u,hu⟩:=Zw (show k+1+(j'+1)<l.length by omega);obtain ⟨v,hv2⟩:=Zw (show k+1+j'<l.length by omega);(have hu':L[k+1+(j'+1)]? =some u:=by rw [hLr _ oM];exact hu);(have hv':L[k+1+j']? =some v:=by rw [hLr _ oM];exact hv2);have g1:=Y2 (f:=Zc) hu';have g3:=Y2 (f:=Zc) hv';have g5:K<L.length:=oM;(have g6:K<(L.map Zc).length:=by rw [Xe];omega);refine nav ?_;(refine ZS (fun i=>([]:List Nat).elem i) [1000] kR ?_<;>refine xD 0 35 rfl Za ?_<;>refine xD 1 36 rfl Za ?_<;>refine xD 2 37 rfl ((JW (a:=k+1) (m:=(k+1+(j'+1))*1) 1000 Zs rfl rfl rfl rfl oM oM oM)) ?_<;>(refine yD 3 38 rfl (Zi 1000 Zo) fun v38 h=>?_;cases h)<;>refine xD 4 39 rfl Za ?_<;>refine xE 5 40 rfl Za ?_<;>refine xE 6 41 rfl Gf ?_<;>refine xE 7 42 rfl ((JW (a:=k+1) (m:=(k+1+j')*1) 1000 Zs rfl rfl rfl rfl oM oM oM)) ?_<;>(refine yE 8 43 rfl (Zi 1000 Zo) fun v43 h=>?_;cases h)<;>refine xE 9 44 rfl YN ?_<;>refine Yu kR (nav ?_)<;>try dsimp only)
 refine cX ?_ ?_<;>intro hb44
 · first |exact bN hb44|(
 have hnw2:=ZaD hv2 hu oM;(have hset:(L.map Zc).set (K*1) (Zc u)=(L.set K u).map Zc:=by rw [XF,List.map_set]);(have hlen2:K+1=(Gc (l.take (k+1+j'+1+1))).length:=by rw [hnw2,Xg,Xu,hK]);have htk2:(L.set K u).take (K+1)=Gc (l.take (k+1+j'+1+1)):=by
  rw [hnw2,←hLt,List.take_set,Yo (Xx g5),Vy _ _ (by rw [Xl];omega),Xl,XJ oM,Vp];rfl
 refine Zf ?_;(refine xL 45 Za (xL 46 Za (xL 47 Za (xL 48 Za ?_)));refine xL 49 ((JW (a:=k+1) (m:=(k+1+(j'+1))*1) 1000 Zs rfl rfl rfl rfl oM oM oM)) ?_;refine yL 50 (Zi 1000 Zo) fun v50 hv50=>?_;cases hv50;refine xL 51 (Zt 1000 Zs) ?_;refine Y3 1000 Zo W9 ?_;refine Zn ?_)
 (refine xL 52 Za (xL 53 ZO (xL 3 Zb ?_));refine Zn ?_)
 (refine xL 33 Za (xL 34 ZO (xL 5 Zb ?_));refine Ze ?_)
 try rw [hset]
 first
  | (exact Zk (
      ⟨(j'+1+1,K+1,L.set K u),by dsimp only;omega,by dsimp only;omega,hlen2,by dsimp only;rw [Xi];exact hLl,htk2,by dsimp only;omega,fun i hi=>by dsimp only at hi ⊢;rw [Va oM];exact hLr i oM⟩
      ) (by dsimp only;omega) ⟨rfl,rfl,rfl,rfl,trivial⟩ ⟨rfl,trivial⟩)
  | (exact Zk (
      ⟨(j'+1+1,K,L),by dsimp only;omega,by dsimp only;omega,hK.trans (by rw [show k+1+(j'+1+1)=k+1+j'+1+1 by omega,hsm2]),hLl,hLt.trans (by rw [show k+1+(j'+1+1)=k+1+j'+1+1 by omega,hsm2]),by dsimp only;omega,fun i hi=>hLr i (by dsimp only at hi;omega)⟩
      ) (by dsimp only;omega) ⟨rfl,rfl,rfl,rfl,trivial⟩ ⟨rfl,trivial⟩))
 · first |exact bN hb44|(
 have hsm2:=Ca hv2 hu oM;refine Zf ?_;(refine xL 33 Za (xL 34 ZO (xL 5 Zb ?_));refine Ze ?_)
 try rw [hset]
 first
  | (exact Zk (
      ⟨(j'+1+1,K+1,L.set K u),by dsimp only;omega,by dsimp only;omega,hlen2,by dsimp only;rw [Xi];exact hLl,htk2,by dsimp only;omega,fun i hi=>by dsimp only at hi ⊢;rw [Va oM];exact hLr i oM⟩
      ) (by dsimp only;omega) ⟨rfl,rfl,rfl,rfl,trivial⟩ ⟨rfl,trivial⟩)
  | (exact Zk (
      ⟨(j'+1+1,K,L),by dsimp only;omega,by dsimp only;omega,hK.trans (by rw [show k+1+(j'+1+1)=k+1+j'+1+1 by omega,hsm2]),hLl,hLt.trans (by rw [show k+1+(j'+1+1)=k+1+j'+1+1 by omega,hsm2]),by dsimp only;omega,fun i hi=>hLr i (by dsimp only at hi;omega)⟩
      ) (by dsimp only;omega) ⟨rfl,rfl,rfl,rfl,trivial⟩ ⟨rfl,trivial⟩)))
 · first|exact bN hb32|(
 have hall:l.take (k+1+j'+1)=l:=Xs oM;rw [hall] at hK hLt;have hKl:K≤l.length:=oM;refine Zf ?_;(refine xL 54 Za (xL 55 Za ?_);refine xL 56 (Kc (i:=K) (j:=l.length) 1000 Zs rfl rfl rfl rfl rfl hKl (Xb _)) ?_;(refine T2 1000 ZB dC rfl rfl rfl rfl rfl hKl ?_;intro cs2 hcs1 hcs2);refine Zn ?_)
 (refine xL 57 Za (xL 58 Za ?_);refine xL 59 (Kc (i:=0) (j:=K) 1000 Zs rfl rfl rfl rfl rfl (Xh _) hKl) ?_;refine xL 2 Zb ?_;refine Ze ?_)
 refine Wm (ZeU (l:=1000) K rfl hKl) fun _=>?_;refine WQ [(1000,slc hv 0 K 1,PV.own 3 1 K (cs2.take (K*1)))] (results148) rfl ⟨rfl,trivial⟩ ⟨Cd hvo _ _ _,rfl,?_⟩;rw [hcs2,←hLt,XF,←List.map_take];rw [show (L.take K).length=K by rw [Xl];omega]))
 · first|exact bN hb25|(
 have hnw:=ZaD hy hx oM;rw [hmk,←Yo hx] at hnw;refine Zf ?_;(refine xL 14 Za (xL 15 ZO (xL 3 Zb ?_));refine Ze ?_)
 refine Zk (
  ⟨k+1+1,oM,oM,hnw⟩
  ) (by dsimp only;omega) ⟨rfl,rfl,trivial⟩ ⟨rfl,trivial⟩))
 · first|exact bN hb13|(
 refine Zf ?_;(refine xL 60 Za (xL 2 Zb ?_);refine Ze ?_)
 refine WQ [(1000,hv,PV.own 3 1 l.length (l.map Zc))] (results148) rfl ⟨rfl,trivial⟩ ⟨hvo,rfl,?_⟩;rw [Xs (show l.length≤k+1 by omega)] at hmk;rw [hmk]))
end Go.Proofs.YtpiemogpblmiiaaGreatDoor
namespace Go.En
open Go.RowKit Go.Cb Go.WideShapes Go.ChangeShapes Go.ChangeAt Go.Deep
set_option linter.all false
theorem LV {H:Type} (P:Program) (e:TypeId) {d:DataW H} {n:Nat}:∀{l:List (DataW H)},d∈l→n∈d.weights P e→n∈DataW.weightsAll P e l
 | x::l,h,hn=>by
   rw [DataW.weightsAll,XW];rcases Xn.1 h with rfl|h
   · exact .inl hn
   · exact .inr (LV P e h hn)
theorem Kb {H:Type} (P:Program) {d:DataW H} {t:TypeId} {n:Nat}:∀{ts:List TypeId} {l:List (DataW H)} (i:Nat),ts[i]? =some t→l[i]? =some d→n∈d.weights P t→n∈DataW.weightsEach P ts l
 | t'::ts,x::l,0,h1,h2,hn=>by
   simp at h1 h2;subst h1 h2;rw [DataW.weightsEach,XW];exact .inl hn
 | t'::ts,x::l,i+1,h1,h2,hn=>by
   rw [DataW.weightsEach,XW];exact .inr (Kb P i (by simpa using h1) (by simpa using h2) hn)
structure Dec (P:Program) (t:TypeId) (k:Nat) {α:Type} (enc:α→List PV) (fit:α→Prop):Prop where
 size:P.cellsOf t=k
 len:∀a,(enc a).length=k
 dec:∀{H:Type} (e:TypeId×Value→H) (w:World) (spare:Nat→Bool) (held:Bool) (fuel:Nat) (cs:List Value) (x:DataW H×List MemPlace),DataW.trod e P w 0 spare held fuel t cs=some x→(∀n∈x.1.weights P t,n≤reachBytes)→
  ∃a,fit a∧cs.length=k∧∀(i:Nat) (v:Value) (p:PV),cs[i]? =some v→(enc a)[i]? =some p→Shr (fun _=>False) w v p
section
variable {P:Program} {t:TypeId}
theorem OC {v u:Value} {p q:PV} {w:World} (h:Shr (fun _=>False) w v p) (i:Nat) (h1:[v][i]? =some u) (h2:[p][i]? =some q):Shr (fun _=>False) w u q:=by
 cases i with
 |zero=>simp at h1 h2;subst h1 h2;exact h
 |succ i=>simp at h1
theorem Zf2 (ht:P.underlying t=some (.int .i64)) (hs:P.cellsOf t=1):Dec P t 1 (fun n:Int=>[Zc n]) (fun n=> -9223372036854775808≤n∧n≤9223372036854775807) where
 size:=hs
 len:=fun _=>rfl
 dec:=fun e w spare held fuel cs x h=>by
  intro hwt;obtain ⟨n,rfl,_,hw⟩:=DataW.trod_int ht h;refine ⟨n,?_,rfl,fun i v p h1 h2=>OC (.val _) i h1 h2⟩;simpa [Lit.wf,IntKind.min,IntKind.max,IntKind.signed,IntKind.bits] using hw
theorem Zf3 (ht:P.underlying t=some .string) (hs:P.cellsOf t=1):Dec P t 1 (fun s:ByteArray=>[ZZ s]) (fun s=>s.size≤140737488355328) where
 size:=hs
 len:=fun _=>rfl
 dec:=fun e w spare held fuel cs x h=>by
  intro hwt;obtain ⟨s,rfl,rfl,hw⟩:=DataW.trod_string ht h;have hsz:s.size≤reachBytes:=hwt s.size (by show s.size∈DataW.weights P t (.lit (.string s.data.toList));rw [DataW.weights];exact Xr.2 (by rw [V9];rfl));exact ⟨s,by unfold reachBytes at hsz;omega,rfl,fun i v p h1 h2=>OC (.val _) i h1 h2⟩
section
variable {H:Type} {en:TypeId×Value→H} {w:World} {spare:Nat→Bool} {held:Bool} {r:Reach} {base:Nat} {v:Value} {d:DataW H} {ps:List MemPlace}
theorem ZiF {α:Type} {k:Nat} {enc:α→List PV} {fit:α→Prop} (D:Dec P t k enc fit) (hT:Zh3 P t=true) (hv:Value.okWide P w r base t v) (h:DataW.Trod en P w 0 spare held t v d ps) (hwt:∀n∈d.weights P t,n≤reachBytes):∃a,fit a∧Shr (fun _=>False) w v (.agg (enc a)):=by
 obtain ⟨fuel,hf⟩:=h
 have:∃fs,P.underlying t=some (.struct fs):=by
  unfold Zh3 at hT;split at hT
  · rename_i fs hfs;exact ⟨fs,hfs⟩
  · cases hT
 obtain ⟨fs,hfs⟩:=this
 obtain ⟨cs,rfl,hsz⟩:=okWide_struct hfs hv
 obtain ⟨a,h1,h2,h3⟩:=D.dec en w spare held fuel _ _ hf hwt
 refine ⟨a,h1,?_⟩
 have:=Shr.agg (M:=fun _=>False) (w:=w) cs.toList (enc a) (by rw [D.len a];exact h2) h3
 simpa using this
end
theorem SD {H:Type} {enc:TypeId×Value→H} {P:Program} (hl:laidOutB P=true) {W W':World} (hb:Below W.heap.size W W'):∀{ts:List TypeId} {vs:List Value} {ds:List (DataW H)} {ps:List MemPlace},(ts.all fun t=>P.readableRec t&&decide (t<P.types.size))=true→
 DataW.TrodAll enc P W 0 (fun _=>true) true ts vs ds ps→DataW.TrodAll enc P W' 0 (fun b=>decide (b<W.heap.size)) true ts vs ds ps
 |[],[],[],ps,_,h=>h
 | t::ts,v::vs,d::ds,ps,ht,⟨p,q,h1,h2,h3⟩=>by
   rw [XH,Xf,Xf] at ht;refine ⟨p,q,Below.trod hl ht.1.1 (Ur ht.1.2) h1 hb ?_,SD hl hb ht.2 h2,h3⟩;obtain ⟨m,hm⟩:=h1;exact DataW.trod_lt m _ _ _ hm
theorem AF.law {P:Program} {f:FuncId} {ps:List PV} (hA:AF P f ps (· = .val (.bool true))) {W:World} {vs:List Value} (hl:vs.length=ps.length) (hv:∀(i:Nat) (v:Value) (p:PV),vs[i]? =some v→ps[i]? =some p→Shr (fun _=>False) W v p) (hT:TabW W (fun _=>False) (fun _=>False)) (hE:ErrW W (fun _=>False) (fun _=>False):=by intro g hg;cases hg):
 Calls P f vs.toArray W fun e w'=>e= .returned (.bool true)∧Below W.heap.size W w':=
 (hA (fun _=>False) W vs ⟨fun _ h=>h.elim,fun _=>hT,fun _=>hE⟩ hl hv).mono fun e w' ⟨v,p,F,h1,h2,h3,h4,_⟩=>by
   subst h2;have:=(h4.sh rfl).vOf;subst this;exact ⟨h1,h3⟩
end
def HE (P:Program) (t:TypeId) (k:Nat) {α:Type} (enc:α→List PV) (fit:α→Prop) (fuel:Nat):Prop:=
 ∀ {H:Type} (e:TypeId×Value→H) (w:World) (spare:Nat→Bool) (held:Bool) (cs:List Value) (x:DataW H×List MemPlace),DataW.trod e P w 0 spare held fuel t cs=some x→(∀n∈x.1.weights P t,n≤reachBytes)→
  ∃a,fit a∧cs.length=k∧∀(i:Nat) (v:Value) (p:PV),cs[i]? =some v→(enc a)[i]? =some p→Shr (fun _=>False) w v p
section
variable {P:Program} {t:TypeId}
theorem Dec.toF {α:Type} {k:Nat} {enc:α→List PV} {fit:α→Prop} (D:Dec P t k enc fit) (fuel:Nat):HE P t k enc fit fuel:=fun e w spare held cs x h hw=>D.dec e w spare held fuel cs x h hw
theorem TK {H:Type} {α:Type} {e k o fuel:Nat} {enc:α→List PV} {fit:α→Prop} (hsz:P.cellsOf e=k) (hlen:∀a,(enc a).length=k) (D:HE P e k enc fit fuel) {en:TypeId×Value→H} {w:World} {spare:Nat→Bool} {held:Bool} {cs:List Value} {y:DataW H×List MemPlace}
 (h:DataW.trod en P w 0 spare held fuel e ((cs.drop o).take (P.cellsOf e))=some y) (hwt:∀n∈y.1.weights P e,n≤reachBytes):∃a,fit a∧∀(i:Nat) (v:Value) (p:PV),cs[o+i]? =some v→(enc a)[i]? =some p→Shr (fun _=>False) w v p:=by
 obtain ⟨a,h1,_,h3⟩:=D en w spare held _ y h hwt
 refine ⟨a,h1,fun i v p hv hp=>h3 i v p ?_ hp⟩
 have hi:i<k:=by rw [←hlen a];exact Zg hp
 rw [hsz,X5 hi,XT];exact hv
theorem ζm {α:Type} {e k fuel:Nat} {enc:α→List PV} {fit:α→Prop} (ht:P.underlying t=some (.slice e)) (hk:0<k) (hby:0<P.bytesOf e) (hsz:P.cellsOf e=k) (hln:∀a,(enc a).length=k) (D:∀n,n<fuel→HE P e k enc fit n):
 HE P t 1 (fun l:List α=>[PV.sl l.length (l.flatMap enc)]) (fun l=>l.length≤140737488355328∧∀x∈l,fit x) fuel:=fun en w spare held cs x h hwt=>by
 rcases DataW.trod_slice ht h with ⟨rfl,_⟩|⟨a,len,cap,elems,more,n,rfl,rfl,rfl,_,hl,hm,hel,hx,_,_⟩
 · exact ⟨[],⟨sM,sM⟩,rfl,fun i v p h1 h2=>OC (.emp none 0 (by unfold maxLen;omega) (fun _=>rfl)) i h1 h2⟩
 · rcases Nat.eq_zero_or_pos len with h0|h0
   · subst h0;exact ⟨[],⟨sM,sM⟩,rfl,fun i v p h1 h2=>OC (.emp (some a) cap hm (fun h=>by cases h)) i h1 h2⟩
   simp only [DataW.weights,ht] at hwt;have hlen:len≤reachBytes:=by
    have:=hwt _ (XD ..);simp only [Xe,hel] at this;exact XG (XG (VX len _) (Nat.le_mul_of_pos_right _ hby)) this
   have hDn:HE P e k enc fit n:=D n (Nat.lt_succ_self n);have hone:∀i,i<len→∃(y:α×(Nat→Value)),fit y.1∧∀(j:Nat) (p:PV),(enc y.1)[j]? =some p→w.cell? ((a.add (i*k)).add j)=some (y.2 j)∧Shr (fun _=>False) w (y.2 j) p:=fun i hi=>by
    have h1:=hx i hi;obtain ⟨z,hz⟩:=YL (show i<elems.length by omega);rw [hz] at h1;obtain ⟨cs',h2,h3⟩:=Option.bind_eq_some_iff.1 h1;rw [hsz] at h2;obtain ⟨_,hlen',hcell⟩:=World.cells?_some h2;obtain ⟨y,hy,_,hS⟩:=hDn en w spare held cs' _ h3 (fun m hm=>hwt m (XI _ (XW.2 (.inl (LV P e (Xq.2 ⟨z,Xd hz,rfl⟩) hm)))));refine ⟨(y,fun j=>(cs'[j]?).getD undef),hy,fun j p hp=>?_⟩;(have hj:j<k:=by rw [←hln y];exact Zg hp);obtain ⟨u,hu⟩:=YL (show j<cs'.length by omega);have:=hcell j hj;simp only [hu,VV];exact ⟨by rw [this,hu],hS j u p hu hp⟩
   obtain ⟨y0,hy0⟩:=hone 0 h0;have key:∀i:Nat,∃(y:α×(Nat→Value)),i<len→fit y.1∧∀(j:Nat) (p:PV),(enc y.1)[j]? =some p→w.cell? ((a.add (i*k)).add j)=some (y.2 j)∧Shr (fun _=>False) w (y.2 j) p:=fun i=>by
    by_cases hi:i<len
    · obtain ⟨y,hy⟩:=hone i hi;exact ⟨y,fun _=>hy⟩
    · exact ⟨y0,fun h=>Uq h hi⟩
   obtain ⟨Y,hY⟩:=Classical.skolem.1 key;have hspot:∃b off,a=⟨b,off,none⟩:=by
    obtain ⟨hf,hc⟩:=hY 0 h0;obtain ⟨p,hp⟩:=YL (show 0<(enc (Y 0).1).length by rw [hln];exact hk);have:=(hc 0 p hp).1;obtain ⟨b,off,spot⟩:=a;(have hspot:spot=none:=by simpa [Addr.add] using World.cell?_spot this);subst hspot;exact ⟨b,off,rfl⟩
   obtain ⟨b,off,rfl⟩:=hspot;have hflen:((List.range len).map fun i=>(Y i).1).length=len:=sM;refine ⟨(List.range len).map fun i=>(Y i).1,⟨by rw [hflen];unfold reachBytes at hlen;omega,fun x hx=>?_⟩,rfl,fun i v p h1 h2=>OC ?_ i h1 h2⟩
   · obtain ⟨i,hi,rfl⟩:=Xq.1 hx;exact (hY i (by simpa using hi)).1
   · rw [hflen];have hat:∀(c:Nat) (p:PV),(((List.range len).map fun i=>(Y i).1).flatMap enc)[c]? =some p→c / k<len∧(enc (Y (c / k)).1)[c % k]? =some p:=fun c p hp=>by
      (have hc:c<len*k:=by have:=Zg hp;rw [WR hln,hflen] at this;exact this);have hq:c / k<len:=Nat.div_lt_of_lt_mul (by rw [VO];exact hc);(have hget:((List.range len).map fun i=>(Y i).1)[c / k]? =some (Y (c / k)).1:=by simp [hq]);have:=R8 hln hget (Nat.mod_lt c hk);rw [VO,Nat.div_add_mod] at this;exact ⟨hq,by rw [←this];exact hp⟩
     refine .sl b off len cap _ (fun c=>(Y (c / k)).2 (c % k)) hl hm (fun c hc=>⟨?_,fun h=>h⟩) (fun c p hp=>?_)
     · obtain ⟨p,hp⟩:=YL hc;obtain ⟨hq,hp'⟩:=hat c p hp;have:=((hY (c / k) hq).2 (c % k) p hp').1;rw [Y0,Y0,Vk,VO,Nat.div_add_mod] at this;exact this
     · obtain ⟨hq,hp'⟩:=hat c p hp;exact ((hY (c / k) hq).2 (c % k) p hp').2
end
open Go.RowKit Go.Cb
section
variable {sL hP:List (Nat×Ent)}
end
section
variable {P:Program} {c:Ctx} {ops:Array Oper} {Q:Exit→Act→World→Prop} {rest:List Oper} {st:St} {sL hP:List (Nat×Ent)} {o:Oper}
theorem Zf4 {l e k n:Nat} {h:Value} {cs:List PV} (hl:lk hP l=some (h, .own e k n cs)):Lo (⟨sL,hP⟩:St) (fun _:Unit=>⟨sL,put l (h, .own e k n (WW cs)) hP⟩):=fun c a w ⟨F,H⟩=>by
 obtain ⟨xs,Fs,hrow,hlen,hT,hd,hb,hF⟩:=(H.tr l _ _ hl).row
 refine ⟨(),fun x=>if x=l then (fun b=>h.ownBlock=some b) else F x,?_⟩
 refine H.retell (fun x=>x=l) (fun x y hnT hx=>?_) (fun x y b hTx hx hb'=>?_) (fun hmm x u q hTx hx=>?_) (fun x1 x2 y1 y2 b h1 h2 hne'=>Uq (h1.trans h2.symm) hne')
 · have n1:x≠l:=hnT;rw [YR (Ne.symm n1)] at hx;exact ⟨hx,by simp [n1]⟩
 · subst hTx;simp only [if_true] at hb';exact ⟨x,_,rfl,hl,(hF b).2 (.inl hb')⟩
 · subst hTx;rw [YH] at hx
   cases hx;simp only [if_true];refine .own xs (fun _ _=>False) hrow (by rw [Yf,Xe];exact hlen) (fun i x' p hx9 hq=>?_) (fun _ _ _ _ _ _ h=>h.elim) (fun _ _ _ h=>h.elim) (fun b=>sM);rw [Yf,Xo,XS] at hq;obtain ⟨q,hq,rfl⟩:=hq;refine .shr ((hT i x' q hx9 hq).share hmm fun b hb1 hm=>?_) (fun _ h=>h);rcases hm with h1|⟨l0,x0,h1,h2⟩
   · exact H.apart h1 hl ((hF b).2 (.inr ⟨i,Zg hq,hb1⟩))
   · by_cases e1:l0=x
     · subst e1;simp only [if_true] at h2;exact hb i b (Zg hq) hb1 h2
     · simp only [e1,if_false] at h2;rw [YR (Ne.symm e1)] at h1;exact H.dj x l0 _ _ b (Ne.symm e1) hl h1 ((hF b).2 (.inr ⟨i,Zg hq,hb1⟩)) h2
theorem ZhJ {F:Nat→BS} {a:Act} {w:World} (H:HoldsF c (⟨sL,hP⟩:St) F a w) {lx:Nat} (hlx:lk hP lx=none) {v:Value} {p:PV} (hS:Shr (mof c hP F) w v p):∃F',HoldsF c ⟨sL,put lx (v,p) hP⟩ F' a w:=by
 refine ⟨fun x=>if x=lx then (fun _=>False) else F x,H.retell (fun x=>x=lx) (fun x y hnT hx=>?_) (fun x y b hTx hx hb'=>?_) (fun hmm x u q hTx hx=>?_) (fun x1 x2 y1 y2 b h1 h2 hne'=>Uq (h1.trans h2.symm) hne')⟩
 · have n1:x≠lx:=hnT;rw [YR (Ne.symm n1)] at hx;exact ⟨hx,by simp [n1]⟩
 · subst hTx;simp only [if_true] at hb'
 · subst hTx;rw [YH] at hx
   cases hx;simp only [if_true];exact .shr (hS.anti hmm) (fun _ h=>h)
theorem RP {l lx e k n g cap:Nat} {h:Value} {zs:List Value} {ps0:List PV} {a:Act} (hh:h= .slice (some ⟨g,0,none⟩) n cap) (hne0:lx≠l) (hone:ps0.all one=true):
 ∀ (m i j:Nat) (cs:List PV) (w:World) (F:Nat→BS) (hp:List (Nat×Ent)),HoldsF c ⟨sL,hp⟩ F a w→lk hp l=some (h, .own e k n cs)→lk hp lx=some (.agg zs.toArray, .agg ps0)→zs.length=ps0.length→i+m=ps0.length→j+i+m≤cs.length→
  ∃w' F' hp',(storeCells ⟨g,j,none⟩ (zs.drop i) i).run P w= .ok () w'∧HoldsF c ⟨sL,hp'⟩ F' a w'∧lk hp' l=some (h, .own e k n (Kx cs (j+i) (ps0.drop i)))∧∀l',l'≠l→lk hp' l'=lk hp l'
 | 0,i,j,cs,w,F,hp,H,hl,hx,hz,hi,hj=>by
   refine ⟨w,F,hp,?_,H,?_,fun _ _=>rfl⟩
   · rw [XZ oM];rfl
   · rw [XZ (by omega:ps0.length≤i)];exact hl
 | m + 1,i,j,cs,w,F,hp,H,hl,hx,hzl,hi,hj=>by
   have hi':i<ps0.length:=oM;obtain ⟨p,hp'⟩:=YL hi';obtain ⟨v,hv⟩:=YJ hp' hzl.symm;have h1:one p=true:=Xj.1 hone p (Xd hp');have hSv:Shr (mof c hp F) w v p:=by
    have hT:=H.tr lx _ _ hx;generalize hu:Value.agg zs.toArray=u at hT
    cases hT with
    | shr hS _=>
      cases hS with
      | agg vs' ps' hl' hT=>
        injection hu with hu;(have:vs'=zs:=by simpa using hu.symm);subst this;exact hT i v p hv hp'
    | agg vs' Fs hl' hT=>
      injection hu with hu;(have:vs'=zs:=by simpa using hu.symm);subst this;exact (hT i v p hv hp').sh (by cases p<;>first|rfl|simp [one] at h1)
   obtain ⟨F1,H1⟩:=LZ H hl hh (show j+i<cs.length by omega) hSv;obtain ⟨w',F',hp2,hr,H2,hl2,hsame⟩:=RP hh hne0 hone m (i+1) j (cs.set (j+i) p) _ F1 _ H1 (YH _ _ _) (by rw [YR (Ne.symm hne0)];exact hx) hzl oM (by simp;omega);refine ⟨w',F',hp2,?_,H2,?_,fun l' hne=>by rw [hsame l' hne,YR (Ne.symm hne)]⟩
   · obtain ⟨xs,Fs,hrow,hlen,_⟩:=(H.tr l _ _ hl).row;subst hh;obtain ⟨z,hz⟩:=YL (show j+i<xs.length by omega);have hcell:=WK hrow hz;have hfr:=hrow.frozenAt (j+i);rw [XN (Zg hv),show zs[i]'(Zg hv)=v from (Xz.1 hv).2,storeCells];simp only [Sem.run_bind,run_store _ _ _ _ _ (hSv.one h1),Y0,hcell,hfr,Vl,if_false,Result.andThen_ok];exact hr
   · rw [hl2,XN hi',show ps0[i]'hi'=p from (Xz.1 hp').2,Kx,Vk]
theorem Zd1 (g n cap i j k:Nat) (h:¬cap=i):slc (.slice (some ⟨g,0,none⟩) n cap) i j k= .slice (some ⟨g,i*k,none⟩) (j-i) (cap-i):=by
 simp only [slc,h,if_false,VM,Y0,Xv]
theorem OD (g n cap j k:Nat):slc (.slice (some ⟨g,0,none⟩) n cap) 0 j k= .slice (some ⟨g,0,none⟩) j cap:=by
 simp only [slc,Vr,VM,Y0,XL,Vd,ite_self]
theorem OE {w:World} {e k n g cap:Nat} {xs:List Value} (h:w.ownsRow 0 e k (.slice (some ⟨g,0,none⟩) n cap) n xs) (i:Nat):w.frozen? ⟨g,i,none⟩=false:=h.frozenAt i
theorem ZhK {t e kk bytes n i j:Nat} {z:Value} {x y:Operand} {h:Value} {q q2:PV} {cs:List PV} (l d:Nat) (hT:ElT P t e kk bytes z) (hn0:0<n) (hij:i≤j) (hj:j≤n) (hone:cs.all one=true)
 (k:aL P c ops Q rest ⟨put d (slc h 0 (i+(n-j)) kk, .val (slc h 0 (i+(n-j)) kk)) sL,put l (h, .own e kk n (Kx cs (i*kk) (cs.drop (j*kk)))) hP⟩)
 (hw:Z7 ops sL o=some true:=by exact rfl) (hd:o.dst=some d:=by exact rfl) (hn:d<c.nt:=by exact Xa rfl) (ho:o.op= .call {callee:= .builtin .append,args:= #[x,y],argTypes:= #[t,t]}:=by exact rfl)
 (hx:ev sL x=some (slc h 0 i kk,q):=by exact rfl) (hy:ev sL y=some (slc h j n kk,q2):=by exact rfl) (hl:lk hP l=some (h, .own e kk n cs):=by exact rfl) (hlx:lk hP 99999=none:=by exact rfl) (hll:(99999:Nat)≠l:=by decide):aL P c ops Q (o::rest) (⟨sL,hP⟩:St):=
 Y8 hw fun a w F H=>by
  have hxv:=(H.rd.ev hx).1;have hyv:=(H.rd.ev hy).1;have hTr:=H.tr l _ _ hl;obtain ⟨g,cap,rfl,hc1,hc2,hc3⟩:=Jq hTr hn0;obtain ⟨xs,Fs,hrow,hlen,hTc,_⟩:=hTr.row;obtain ⟨inf,hi1,hi2,hi3,hi4⟩:=hT.info;have hcl:cs.length=n*kk:=by rw [hlen,hrow.1]
  have hsh:∀(m:Nat) (u:Value) (p:PV),xs[m]? =some u→cs[m]? =some p→Shr (mof c hP F) w u p:=fun m u p hu hp=>(hTc m u p hu hp).sh (by
   have h1:one p=true:=Xj.1 hone p (Xd hp)
   cases p<;>first|rfl|simp [one] at h1)
  have hmul:(n-j)*kk=n*kk-j*kk:=Nat.sub_mul ..;have hjn:j*kk≤n*kk:=Ve kk hj;have hzl:(xs.drop (j*kk)).length=(cs.drop (j*kk)).length:=by rw [Xw,Xw,hlen]
  obtain ⟨F1,H1⟩:=ZhJ (lx:=99999) H hlx (v:= .agg (xs.drop (j*kk)).toArray) (p:= .agg (cs.drop (j*kk))) (.agg _ _ hzl fun m u p hu hp=>by
   rw [XT] at hu hp;exact hsh _ u p hu hp)
  have hijk:i*kk+(n-j)*kk≤n*kk:=by rw [←XY];exact Ve kk oM
  have honed:(cs.drop (j*kk)).all one=true:=Xj.2 fun p hp=>Xj.1 hone p (List.mem_of_mem_drop hp);obtain ⟨w',F',hp',hr,H',hl',hsame⟩:=RP (P:=P) (l:=l) (lx:=99999) rfl hll honed (cs.drop (j*kk)).length 0 (i*kk) cs w F1 _ H1 (by rw [YR hll];exact hl) (YH _ _ _) hzl (Xv _) (by rw [Xw,hcl];omega);simp only [Vs,XL] at hr hl';have hnews:∀u∈xs.drop (j*kk),u.oneCell'=true:=fun u hu=>by
   obtain ⟨m,hm⟩:=X8 hu;rw [XT] at hm;obtain ⟨p,hp⟩:=YJ hm hlen.symm;exact (hsh _ u p hm hp).one (Xj.1 hone p (Xd hp))
  have hsrc:Src P inf.size t (slc (.slice (some ⟨g,0,none⟩) n cap) j n kk) (n-j) (xs.drop (j*kk)) w:=by
   have hnl:(xs.drop (j*kk)).length=(n-j)*inf.size:=by rw [hi3,Xw,←hlen,hcl,hmul]
   by_cases hcj:cap=j
   · (have:slc (.slice (some ⟨g,0,none⟩) n cap) j n kk= .slice (some ⟨g,0,none⟩) (n-j) (cap-j):=by simp only [slc,hcj,if_true]);rw [this];refine Src.ofSlice w hT.ht _ _ _ _ hnl (fun m u hu=>?_) hnews;have:=Zg hu;rw [hnl,show n-j=0 by omega] at this;omega
   · rw [Zd1 _ _ _ _ _ _ hcj];refine Src.ofSlice w hT.ht _ _ _ _ hnl (fun m u hu=>?_) hnews;rw [Y0];rw [XT] at hu;exact WK hrow hu
  have hcell:∀m,m<(xs.drop (j*kk)).length→∃u,w.cell? ⟨g,0+i*inf.size+m,none⟩=some u:=fun m hm=>by
   rw [hi3,Xv];rw [Xw,←hlen,hcl] at hm;obtain ⟨u,hu⟩:=YL (show i*kk+m<xs.length by rw [←hlen,hcl];omega);exact ⟨u,WK hrow hu⟩
  have happ:=run_append_room_src (P:=P) w t t o.type e inf hT.ht hi1 g 0 i cap _ (n-j) (xs.drop (j*kk)) hsrc oM (fun m hm=>by obtain ⟨u,hu⟩:=hcell m hm;rw [hu];rfl) (fun m _=>OE hrow _);have hst:=run_storeCells_cells (P:=P) g (0+i*inf.size) (xs.drop (j*kk)) 0 w (fun m hm=>by obtain ⟨u,hu⟩:=hcell m hm;rw [XL,hu];rfl) (fun m _=>OE hrow _) hnews;rw [hi3] at hst;simp only [Xv,XL] at hst;rw [hst] at hr;injection hr with _ hw';rw [hi3] at happ;simp only [Xv] at happ;rw [hw'] at happ;unfold Oper.wp execOp;rw [OD] at hxv;simp only [ho,resolve,invoke,builtin,Sem.run_bind,Sem.run_pure,Result.andThen_ok,VB,XM,Vb,hxv,hyv,happ,Oper.upon,hd];have H2:HoldsF c ⟨sL,put l (.slice (some ⟨g,0,none⟩) n cap, .own e kk n (Kx cs (i*kk) (cs.drop (j*kk)))) hP⟩ F' a w':=H'.less (fun _ _ h=>h) fun t x hx=>by
   rcases YS hx with ⟨rfl,rfl⟩|⟨hne,e1⟩
   · exact hl'
   · rw [hsame t (Ne.symm hne)];by_cases h9:t=99999
     · subst h9;rw [hlx] at e1;cases e1
     · rw [YR (Ne.symm h9)];exact e1
  rw [OD] at k;exact k _ _ ⟨F',H2.put hn (.val _)⟩
theorem Zf5 {t e k e' k' n i m:Nat} {x lo hi:Operand} {h:Value} {q q1 q2:PV} {cs:List PV} (l:Nat) (hT:SlT P t e k=true) (him:i≤m) (hm:m≤n) (ho:o.op= .slice t x (some lo) (some hi) none:=by exact rfl) (hx:ev sL x=some (slc h 0 i k,q):=by exact rfl) (hlo:ev sL lo=some (.int .i64 i,q1):=by exact rfl) (hhi:ev sL hi=some (.int .i64 m,q2):=by exact rfl) (hl:lk hP l=some (h, .own e' k' n cs):=by exact rfl):YE P (⟨sL,hP⟩:St) o (· =slc h i m k) (.val (slc h i m k)):=
 .exact fun M F a w H=>by
  have hv:=(H.ev hx).1;have h1:=(H.ev hlo).1;have h2:=(H.ev hhi).1;obtain ⟨xs,Fs,hrow,hlen,_⟩:=(H.tr l _ _ hl).row;refine ⟨.val _,?_⟩;rcases YZ hrow with ⟨rfl,rfl,_⟩|⟨g,cap,rfl,hc1,hc2,hc3⟩
  · obtain rfl:m=0:=oM;obtain rfl:i=0:=oM;simp [execOp,ho,hv,h1,h2,Instr.sliceAt,Instr.slice,run_underlying (SlT.und hT),Instr.sliceBounds,Instr.sliceBound,asIntOf,SlT.size hT,slc]
  · have hmc:m≤cap:=oM;rw [OD] at hv;simp [execOp,ho,hv,h1,h2,Instr.sliceAt,Instr.slice,run_underlying (SlT.und hT),Instr.sliceBounds,Instr.sliceBound,asIntOf,SlT.size hT,slc,hmc,him]
def Zf6 (v:Value) (lo hi mx k:Nat):Value:=match v with
 | .slice a _ _=> .slice (if mx=lo then a else a.map (·.add (lo*k))) (hi-lo) (mx-lo)
 |v=>v
theorem ZhL {t e k e' k' n i j m:Nat} {x lo hi mx:Operand} {h:Value} {q q1 q2 q3:PV} {cs:List PV} (l:Nat) (hT:SlT P t e k=true) (hij:i≤j) (hjm:j≤m) (hm:m≤n) (ho:o.op= .slice t x (some lo) (some hi) (some mx):=by exact rfl) (hx:ev sL x=some (h,q):=by exact rfl) (hlo:ev sL lo=some (.int .i64 i,q1):=by exact rfl) (hhi:ev sL hi=some (.int .i64 j,q2):=by exact rfl) (hmx:ev sL mx=some (.int .i64 m,q3):=by exact rfl) (hl:lk hP l=some (h, .own e' k' n cs):=by exact rfl):YE P (⟨sL,hP⟩:St) o (· =Zf6 h i j m k) (.val (Zf6 h i j m k)):=
 .exact fun M F a w H=>by
  have hv:=(H.ev hx).1;have h1:=(H.ev hlo).1;have h2:=(H.ev hhi).1;have h3:=(H.ev hmx).1;obtain ⟨xs,Fs,hrow,hlen,_⟩:=(H.tr l _ _ hl).row;refine ⟨.val _,?_⟩;rcases YZ hrow with ⟨rfl,rfl,_⟩|⟨g,cap,rfl,hc1,hc2,hc3⟩
  · obtain rfl:m=0:=oM;obtain rfl:j=0:=oM;obtain rfl:i=0:=oM;simp [execOp,ho,hv,h1,h2,h3,Instr.sliceAt,Instr.slice,run_underlying (SlT.und hT),Instr.sliceBounds,Instr.sliceBound,asIntOf,SlT.size hT,Zf6]
  · have hmc:m≤cap:=oM;simp [execOp,ho,hv,h1,h2,h3,Instr.sliceAt,Instr.slice,run_underlying (SlT.und hT),Instr.sliceBounds,Instr.sliceBound,asIntOf,SlT.size hT,Zf6,hmc,hij,hjm]
theorem Zb5 {t e k e' k' n m:Nat} {x:Operand} {h:Value} {p:PV} {cs:List PV} (l:Nat) (hT:SlT P t e k=true) (hm:m≤n) (ho:o.op= .call {callee:= .builtin .len,args:= #[x],argTypes:= #[t]}:=by exact rfl) (hx:ev sL x=some (slc h 0 m k,p):=by exact rfl) (hl:lk hP l=some (h, .own e' k' n cs):=by exact rfl):YE P (⟨sL,hP⟩:St) o (· = .int .i64 m) (.val (.int .i64 m)):=
 .exact fun M F w' w H=>by
  have hv:=(H.ev hx).1;obtain ⟨xs,Fs,hrow,hlen,_⟩:=(H.tr l _ _ hl).row;rcases YZ hrow with ⟨rfl,rfl,_⟩|⟨g,cap,rfl,h1,h2,h3⟩
  · obtain rfl:m=0:=oM;exact ⟨.val _,by simp [execOp,ho,hv,resolve,invoke,builtin,Builtin.len_,run_underlying (SlT.und hT),goInt,slc]⟩
  · exact ⟨.val _,by simp [execOp,ho,hv,resolve,invoke,builtin,Builtin.len_,run_underlying (SlT.und hT),goInt,slc]⟩
end
end Go.En
namespace Go.Proofs.YtpiemogpblmiiaaGreatDoor
open Go.RowKit Go.Cb Go.En Tryz
set_option linter.all false
theorem OF {α β:Type} {f:α→List β} {m:Nat} (hf:∀x,(f x).length=m):∀(L:List α) (k:Nat),(L.flatMap f).take (k*m)=(L.take k).flatMap f
 |[],k=>sM
 |x::L,0=>sM
 | x::L,k+1=>by
   rw [XP,Xp,Xp,←OF hf L k,List.take_append,Xs (by rw [hf,XY];omega),hf,show (k+1)*m-m=k*m by rw [XY];omega]
theorem OG {α β:Type} {f:α→List β} {m:Nat} (hf:∀x,(f x).length=m):∀(L:List α) (k:Nat),(L.flatMap f).drop (k*m)=(L.drop k).flatMap f
 |[],k=>sM
 |x::L,0=>sM
 | x::L,k+1=>by
   rw [List.drop_succ_cons,Xp,←OG hf L k,List.drop_append,List.drop_of_length_le (by rw [hf,XY];omega),hf,show (k+1)*m-m=k*m by rw [XY];omega,VH]
set_option maxRecDepth 100000
theorem DD:∀(ps cs:List PV) (j:Nat),j+ps.length≤cs.length→(Kx cs j ps).take (j+ps.length)=cs.take j++ps
 |[],cs,j,_=>by simp [Kx]
 | p::ps,cs,j,h=>by
   rw [Xc] at h;rw [Kx,Xc,show j+(ps.length+1)=j+1+ps.length by omega,DD ps _ (j+1) (by rw [Xi];omega),Yo (show (cs.set j p)[j]? =some p by rw [X' oM]),List.take_set,List.set_eq_of_length_le (by rw [Xl];omega),XC];rfl
theorem Zf7 (L:List Tn):(L.flatMap cTn).all En.one=true:=by
 rw [Xj]
 intro p hp
 obtain ⟨t,_,ht⟩:=V8.1 hp
 unfold cTn at ht
 simp only [Xn,List.not_mem_nil,or_false] at ht
 rcases ht with rfl|rfl|rfl<;>rfl
theorem Ce (L:List Tn) (a:Nat) (h:a<L.length):(Kx (L.flatMap cTn) (a*3) ((L.flatMap cTn).drop ((a+1)*3))).take ((a+(L.length-(a+1)))*3)=(L.eraseIdx a).flatMap cTn:=by
 have hl:(L.flatMap cTn).length=L.length*3:=WR Yr L
 have hd:((L.flatMap cTn).drop ((a+1)*3)).length=(L.length-(a+1))*3:=by rw [Xw,hl,Nat.sub_mul]
 have:=DD ((L.flatMap cTn).drop ((a+1)*3)) (L.flatMap cTn) (a*3) (by rw [hd,hl];omega)
 rw [hd,←XY] at this
 rw [this,OF Yr,OG Yr,List.eraseIdx_eq_take_drop_succ,Xt]
theorem Zb6 (L:List Tn) (a:Nat) (h:a<L.length):(L.eraseIdx a).length=a+(L.length-(a+1)):=by rw [List.length_eraseIdx,Up h];omega
set_option maxHeartbeats 2000000 in
theorem Zf8 (L:List Tn) (a:Nat) (ha:a<L.length) (hL:L.length≤1000) (hv:Value) (hvo:hv.oneCell'=true):AFh False prog 143 [(0,hv, .val hv),(1, .int .i64 a,Zc a),(2, .int .i64 (a+1:Nat),Zc (a+1:Nat))] [(1000,hv, .own 69 3 L.length (L.flatMap cTn))] (fun v q h=>v.oneCell'=true∧q= .val v∧h=[(1000,v, .own 69 3 (L.eraseIdx a).length ((L.eraseIdx a).flatMap cTn))]):=by
 have h1:=Zf7 L
 refine AFh.of_body 33 func143 rfl ntmps143 (Xa rfl) rfl ?_
 intro w0 M0 N0
 refine Zf ?_
 (refine xL 6 Zb ?_;refine Zn ?_)
 (refine xL 8 Za (xL 9 Za (xL 10 Za (xL 11 Za (xL 12 (YV 1000 ZI) ?_))));refine xL 13 ((ZhL 1000 (i:=a) (j:=a+1) (m:=L.length) (n:=L.length) ZI oM oM oM)) ?_;refine Zn ?_)
 (refine xL 14 Za (xL 15 Za (xL 16 ZQ ?_));refine Ze ?_)
 refine cX ?_ ?_<;>intro hb16
 · exact Uq hb16 oM
 · refine Zf ?_;(refine xL 18 Za (xL 19 (YV 1000 ZI) (xL 7 Zb ?_));refine Ze ?_)
   (refine ZS (fun i=>([6,7]:List Nat).elem i) [1000] kR ?_<;>refine xDT 0 20 rfl Za ?_<;>refine xDT 1 21 rfl Za ?_<;>refine xDT 2 22 rfl (Kc (i:=0) (j:=a) 1000 ZI rfl rfl rfl rfl rfl (Xh _) (Nat.le_of_lt ha)) ?_<;>refine xDT 3 23 rfl Za ?_<;>refine xE 4 24 rfl Za ?_<;>refine xE 5 25 rfl (Kc (i:=a+1) (j:=L.length) 1000 ZI rfl rfl rfl rfl rfl ha (Xb _)) ?_<;>(refine Zl 6 kR ?_)<;>(refine K6 rfl rfl fun DQ back=>?_)<;>refine ZhK (n:=L.length) (i:=a) (j:=a+1) 1000 26 KE oM oM oM h1 ?_<;>refine Zh (back _ ?_)<;>(refine KO 7 kR rfl rfl fun DQ back=>?_)<;>refine xL 0 Zb ?_<;>refine Zh (back _ ?_)<;>refine JM kR (nav ?_)<;>try dsimp only)
   (refine Zm ?_;refine xL 27 Za (xL 28 Za ?_);refine xL 29 ((Zb5 1000 (m:=a+(L.length-(a+1))) (n:=L.length) ZI oM)) ?_;refine xL 30 Za ?_;refine xL 31 ((Zf5 1000 (i:=a+(L.length-(a+1))) (m:=L.length) (n:=L.length) ZI oM (Xb _))) ?_;(refine T2 (i:=a+(L.length-(a+1))) 1000 KE dC rfl rfl rfl rfl rfl oM ?_;intro cs2 hcs1 hcs2);refine Zn ?_)
   (refine xL 32 Za (xL 6 Zb ?_);refine Ze ?_)
   refine Wm (ZeU (l:=1000) (a+(L.length-(a+1))) rfl oM) fun _=>?_;refine WQ [(1000,slc hv 0 (a+(L.length-(a+1))) 3,PV.own 69 3 (a+(L.length-(a+1))) (cs2.take ((a+(L.length-(a+1)))*3)))] (results143) rfl ⟨rfl,trivial⟩ ⟨Cd hvo _ _ _,rfl,?_⟩;rw [hcs2,Ce L a ha,Zb6 L a ha]
def uF (p:Int) (out:Bool) (t:Tn):Bool:=if out=true then t.outs.contains p else t.ins.contains p
theorem Zd2 {l:List Tn} {k:Nat} {x:Tn} (hx:l[k]? =some x) (f:Tn→Bool):((l.take (k+1)).filter f).length=((l.take k).filter f).length+if f x=true then 1 else 0:=by
 rw [Yo hx,V4,Xg,List.filter_cons]
 cases f x<;>rfl
theorem Rk (n:Nt) (hn:n.tr.length≤1000) (p:Int) (out:Bool):AF prog 107 [pNt n,Zc p,ZV out] (· =Zc (Ri n p out:Nat)):=by
 refine AF.of_body 38 func107 rfl ntmps107 (Xa rfl) ?_
 intro w0 M0 vs hl hv
 obtain ⟨v0,v1,v2,rfl⟩:=OM hl
 obtain rfl:=hv 1 _ _ rfl rfl
 obtain rfl:=hv 2 _ _ rfl rfl
 clear hl hv
 refine Zf ?_
 (refine Yv 3 4 fun h3=>?_;refine xL 6 Zb ?_;refine Zn ?_)
 (refine xL 7 Zb ?_;refine Zn ?_)
 (refine xL 10 (Zd 3 ZD) ?_;refine yL 11 (Zi 3 ZN) fun v11 hv11=>?_;cases hv11;refine xL 12 (Z1 ZI) (xL 13 Za ?_);refine Ze ?_)
 refine ZE (ι:={k:Nat//k≤n.tr.length}) (fun k=>⟨[(1,_,_),(2,_,_),(11,_,_),(12,_,_),(13, .int .i64 k.1,Zc k.1),(7, .int .i64 (((n.tr.take k.1).filter (uF p out)).length:Nat),Zc (((n.tr.take k.1).filter (uF p out)).length:Nat))],[]⟩) (fun k=>n.tr.length-k.1) ⟨0,oM⟩ (fun a w H=>H.weaken ⟨rfl,rfl,rfl,rfl,rfl,rfl,trivial⟩ trivial) ?_
 rintro ⟨k,hk⟩
 dsimp only
 refine Zf ?_
 (refine xL 14 ZR ?_;refine Ze ?_)
 refine cX ?_ ?_<;>intro hb14
 · first | exact bN hb14|(
 obtain ⟨x,hx⟩:=Zw (show k<n.tr.length by omega);have e1:=Z' Yr n.tr k x hx;have e2:=Yp Yr hx;have hu:=Zd2 hx (uF p out);have hle:((n.tr.take k).filter (uF p out)).length≤k:=XG (VS _ _) (by rw [Xl];omega);refine Zf ?_;(refine xL 15 (ZP ZI) ?_;refine yL 16 (Yz Z9) fun v16 hv16=>?_;cases hv16;refine ZA [(.string ByteArray.empty),(.slice none 0 0),(.slice none 0 0)] 3 9 Wb fun h9=>?_;refine Zv 9 Z9 ?_;refine Zn ?_)
 (refine xL 17 Za (xL 18 Ym (xL 19 Za ?_))<;>(refine bL 19 (fun hb19=>?_) (fun hb19=>?_)<;>(first|refine kL 20 ?_|refine xL 20 (Zd 9 Yi) ?_))<;>(first|refine kL 21 ?_|(refine yL 21 (Zi 9 Zy) fun v21 h=>?_;cases h))<;>(first|refine kL 22 ?_|refine xL 22 Za ?_)<;>(first|refine kL 23 ?_|(refine cS 23 (cA call86 (YG x.ins p)) fun v23 h=>?_;cases h))<;>refine xL 24 Zu (xL 25 Za ?_)<;>(first|refine xL 26 Za ?_|(refine bL 25 (fun hb25=>?_) (fun hb25=>?_)<;>(first|refine kL 26 ?_|refine xL 26 Za ?_)))<;>(first|refine kL 27 ?_|refine xL 27 Za ?_)<;>(first|refine kL 28 ?_|(refine bL 27 (fun hb27=>?_) (fun hb27=>?_)<;>(first|refine kL 28 ?_|refine xL 28 (Zd 9 Yb) ?_)))<;>(first|refine kL 29 ?_|(refine yL 29 (Zi 9 Zy) fun v29 h=>?_;cases h))<;>(first|refine kL 30 ?_|refine xL 30 Za ?_)<;>(first|refine kL 31 ?_|(refine cS 31 (cA call86 (YG x.outs p)) fun v31 h=>?_;cases h))<;>(first|refine kL 32 ?_|refine xL 32 Zu ?_)<;>refine xL 33 Zu ?_<;>refine Ze ?_)<;>(
 refine cX ?_ ?_<;>intro hb33
 · first|exact bN hb33|(
 have hw:uF p out x=true:=by
  unfold uF
  first
   |(rw [Up hb27];exact hb33)
   |(rw [Uo (by rw [show out=false by simpa using hb19];decide)];exact hb25)
 rw [Up hw] at hu;refine Zf ?_;(refine xL 34 Za ?_;refine xL 35 ((W0 (c:=(((n.tr.take (k+1)).filter (uF p out)).length:Nat)))) ?_;refine xL 7 Zb ?_;refine Zn ?_)
 (refine xL 36 ZO (xL 13 Za ?_);refine Ze ?_)
 refine Zk (
  ⟨k+1,Zg hx⟩
  ) (by dsimp only;omega) ⟨rfl,rfl,rfl,rfl,rfl,rfl,trivial⟩ trivial)
 · first|exact bN hb33|(
 have hw:¬uF p out x=true:=by
  unfold uF
  first
   |(rw [Up hb27,hb33];decide)
   |(rw [Uo (by rw [hb27];decide),hb25];decide)
   |exact Uq hb19 (by rw [hb27];decide)
 (have hu2:((n.tr.take k).filter (uF p out)).length=((n.tr.take (k+1)).filter (uF p out)).length:=by rw [hu,Uo hw];rfl);rw [hu2];refine Zf ?_;(refine xL 36 ZO (xL 13 Za ?_);refine Ze ?_)
 refine Zk (
  ⟨k+1,Zg hx⟩
  ) (by dsimp only;omega) ⟨rfl,rfl,rfl,rfl,rfl,rfl,trivial⟩ trivial)))
 · first|exact bN hb14|(
 refine Zf ?_;(refine xL 37 Za (xL 6 Zb ?_);refine Ze ?_)
 refine Zx (results107) rfl ?_;rw [Xs (show n.tr.length≤k by omega)];rfl)
theorem ZaE {α:Type}:∀(ps:List PV) (a b c:List PV) (j:Nat),a.length=j→b.length=ps.length→Kx (a++b++c) j ps=a++ps++c
 | [],a,b,c,j,ha,hb=>by
   have:b=[]:=XK hb;subst this;rfl
 | p ::ps,a,x::b,c,j,ha,hb=>by
   rw [Kx];have h1:(a++(x::b)++c).set j p=(a++[p])++b++c:=by
    subst ha;rw [XC,Vy _ _ (Xb _),Vp];simp
   rw [h1,ZaE (α:=α) ps (a++[p]) b c (j+1) (by simp [ha]) (by simpa using hb)];simp
def Kv {α:Type} (p:α→Bool) (l:List α) (k:Nat):List α:=(l.take k).filter fun s=> !p s
theorem GR {α:Type} {p:α→Bool} {l:List α} {k:Nat} {x:α} (hx:l[k]? =some x) (h:p x=true):Kv p l (k+1)=Kv p l k:=by
 unfold Kv;rw [Yo hx,V4];simp [h]
theorem OH {α:Type} {p:α→Bool} {l:List α} {k:Nat} {x:α} (hx:l[k]? =some x) (h:p x=false):Kv p l (k+1)=Kv p l k++[x]:=by
 unfold Kv;rw [Yo hx,V4];simp [h]
theorem SE {α:Type} (p:α→Bool) (l:List α) (k:Nat):(Kv p l k).length≤k:=by
 unfold Kv
 have h1:=VS (fun s=> !p s) (l.take k)
 rw [Xl] at h1
 omega
def Tp {α:Type} (p:α→Bool) (l:List α) (k:Nat):List α:=Kv p l k++l.drop (Kv p l k).length
theorem Zf9 {α:Type} {p:α→Bool} {l:List α} {k:Nat} {x:α} (hx:l[k]? =some x):(Tp p l k)[k]? =some x:=by
 have h:=SE p l k
 unfold Tp
 rw [X0 h,XT,show (Kv p l k).length+(k-(Kv p l k).length)=k by omega]
 exact hx
theorem Zd3 {α:Type} (p:α→Bool) (l:List α) {k:Nat} (hk:k≤l.length):(Tp p l k).length=l.length:=by
 have h:=SE p l k
 unfold Tp
 rw [Xg,Xw];omega
theorem Zd4 {α:Type} {f:α→List PV} {m:Nat} (hf:∀x,(f x).length=m) {p:α→Bool} {l:List α} {k:Nat} {x:α} (hx:l[k]? =some x) (h:p x=false):
 Kx ((Tp p l k).flatMap f) ((Kv p l k).length*m) (f x)=(Tp p l (k+1)).flatMap f:=by
 have hl:=SE p l k
 have hlt:=Zg hx
 unfold Tp
 rw [OH hx h,Xg,Xu,XN (show (Kv p l k).length<l.length by omega)]
 rw [Xt,Xp,←XC,ZaE (α:=α) _ _ _ _ _ (WR hf _) (by rw [hf,hf]),Xt,Xt]
 simp
theorem ZaF {α:Type} {p:α→Bool} {l:List α}:(idx p l= -1∧∀s∈l,p s=false)∨∃i x,idx p l=(i:Nat)∧l[i]? =some x∧p x=true∧∀j y,j<i→l[j]? =some y→p y=false:=by
 unfold idx
 cases h:l.findIdx? p with
 |none=>exact .inl ⟨rfl,by rw [Ue] at h;exact h⟩
 | some i=>
   rw [Uf] at h;obtain ⟨hi,hp,hn⟩:=h;exact .inr ⟨i,l[i],rfl,sM,hp,fun j y hj hy=>by
    have:=hn j hj;obtain ⟨hj',rfl⟩:=Xz.1 hy;simpa using this⟩
theorem Zb7 {α:Type} {p:α→Bool} {l:List α} {k:Nat} (h:∀j y,j<k→l[j]? =some y→p y=false):Kv p l k=l.take k:=by
 unfold Kv
 rw [List.filter_eq_self]
 intro a ha
 obtain ⟨i,hi,rfl⟩:=VU ha
 rw [Xl] at hi
 have:=h i _ oM (by rw [Xx (by omega:i<l.length)])
 simp [List.getElem_take,this]
def cI (x:Int):List PV:=[Zc x]
theorem ZhM (x:Int):(cI x).length=1:=rfl
theorem Zd5 (l:List Int):l.map Zc=l.flatMap cI:=by
 induction l with
 |nil=>rfl
 |cons x l ih=>rw [XM,Xp,ih];rfl
theorem ζn (e n:Nat) (l:List Int) (hn:n=l.length):share (.own e 1 n (l.map Zc))=pInts l:=by
 subst hn
 rw [share,Yf,Vx];rfl
theorem DF {p:Int→Bool} {l:List Int} {k:Nat} {x:Int} (hx:l[k]? =some x) (h:p x=false):((Tp p l k).map Zc).set (Kv p l k).length (Zc x)=(Tp p l (k+1)).map Zc:=by
 have h1:=Zd4 (f:=cI) ZhM hx h
 rw [XF,←Zd5,←Zd5] at h1
 exact h1
theorem Cf (f : Nat) (caps:List PV) (p:Int→Bool) (l:List Int) (hl:l.length≤1000000) (hv g:Value) (hc:∀args w,(callFunc f args).run prog w= .ok (.enter f args) w) (hf:∀s∈l,AF prog f (Zc s::caps) (· =ZV (p s))):
 AFh False prog 146 [(0,hv, .val hv),(1,g, .fn f caps)] [(1000,hv, .own 3 1 l.length (l.map Zc))] (fun v q h=>q= .val v∧h=[(1000,v, .own 3 1 (l.filter fun s=> !p s).length ((l.filter fun s=> !p s).map Zc))]):=by
 refine AFh.of_body 42 func146 rfl ntmps146 (Xa rfl) rfl ?_
 intro w0 M0 N0
 have hq:=ζn 3 l.length l rfl
 refine Zf ?_
 (refine xL 4 Zb ?_;refine Zn ?_)
 (refine xL 8 Za (xL 9 Za ?_);refine cS 10 (cB rfl call166 (Lz f caps p l hc hf) ⟨⟨_,_,rfl,hq▸Za0 (l:=1000) rfl⟩,⟨_,_,rfl,Tv (x:= .tmp 9) rfl⟩,trivial⟩) fun v10 hv10=>?_;cases hv10;refine xL 5 Zb ?_;refine Zn ?_)
 (refine xL 11 Za (xL 12 ZQ ?_);refine Ze ?_)
 refine cX ?_ ?_<;>intro hb12
 · first|exact bN hb12|(
 refine Zf ?_;(refine xL 13 Za (xL 4 Zb ?_);refine Ze ?_)
 refine WQ [(1000,hv,PV.own 3 1 l.length (l.map Zc))] (results146) rfl ⟨rfl,trivial⟩ ⟨rfl,?_⟩;rw [List.filter_eq_self.2 fun s hs=>?_];rcases ZaF (p:=p) (l:=l) with ⟨_,h⟩|⟨i0,x0,h,_⟩
 · rw [h s hs];rfl
 · exfalso;omega)
 · first | exact bN hb12|(
 obtain ⟨i0,x0,hi0,hx0,hp0,hn0⟩:=(ZaF (p:=p) (l:=l)).resolve_left fun h=>hb12 h.1;have hlt0:=Zg hx0;(have hk0:Kv p l (i0+1)=l.take i0:=by rw [GR hx0 hp0,Zb7 hn0]);rw [hi0];refine Zf ?_;(refine xL 14 Za (xL 15 ZO (xL 6 Zb ?_));refine Ze ?_)
 refine ZE (ι:={q:Nat×Nat×List PV//q.1≤l.length∧q.2.1=(Kv p l q.1).length∧q.2.2=(Tp p l q.1).map Zc}) (fun k=>⟨[(0,_,_),(1,_,_),(5, .int .i64 k.1.2.1,Zc k.1.2.1),(6, .int .i64 k.1.1,Zc k.1.1)],[(1000,hv, .own 3 1 l.length k.1.2.2)]⟩) (fun k=>l.length-k.1.1) ⟨(i0+1,i0,l.map Zc),hlt0,(by dsimp only;rw [hk0,Xl];omega),(by dsimp only;unfold Tp;rw [hk0,Xl,XJ oM,Vw])⟩ (fun a w H=>H.weaken ⟨rfl,rfl,rfl,rfl,trivial⟩ ⟨rfl,trivial⟩) ?_;rintro ⟨⟨k,j,row⟩,hk,hj,hr⟩;dsimp only;dsimp only at hk hj hr;have hle:=SE p l k;have hjl:j≤l.length:=oM;have hjl2:(j:Int)≤1000000:=oM;(have hrl:row.length=l.length:=by rw [hr,Xe,Zd3 p l hk]);refine Zf ?_;(refine xL 16 Za (xL 17 Za (xL 18 (YV 1000 Zs) (xL 19 ZR ?_)));refine Ze ?_)
 refine cX ?_ ?_<;>intro hb19
 · first | exact bN hb19|(
 obtain ⟨x,hx⟩:=Zw (show k<l.length by omega);(have e1:row[k*1]? =some (Zc x):=by rw [hr,XF,Xo,Zf9 hx];rfl);(have e3:j<row.length:=by rw [hrl];have:=Zg hx;omega);refine Zf ?_;(refine xL 22 Za (xL 23 Za (xL 24 (Zt 1000 Zs) ?_));refine yL 25 (Zi 1000 Zo) fun v25 hv25=>?_;cases hv25;refine xL 7 Zb ?_;refine Zn ?_)
 (refine xL 26 Za (xL 27 Za ?_);refine cS 28 (Jb (f:=f) (ps:=caps) rfl ⟨_,rfl⟩ hc rfl (hf x (Xd hx))) fun v28 hv28=>?_;cases hv28;refine xL 29 Ym ?_;refine Ze ?_)
 refine cX ?_ ?_<;>intro hb29
 · first |exact bN hb29|(
 refine Zf ?_;(refine xL 30 Za (xL 31 Za (xL 32 Za (xL 33 (Zt 1000 Zs) ?_)));refine Y3 1000 Zo W9 ?_;refine Zn ?_)
 (refine xL 34 Za (xL 35 ZO (xL 5 Zb ?_));refine Zn ?_)
 (refine xL 20 Za (xL 21 ZO (xL 6 Zb ?_));refine Ze ?_)
 first
  | (exact Zk (
      ⟨(k+1,j,row),Zg hx,(by dsimp only;rw [GR hx (by simpa using hb29)];exact hj),(by dsimp only;rw [hr];unfold Tp;rw [GR hx (by simpa using hb29)])⟩
      ) (by dsimp only;omega) ⟨rfl,rfl,rfl,rfl,trivial⟩ ⟨rfl,trivial⟩)
  | (exact Zk (
      ⟨(k+1,j+1,row.set (j*1) (Zc x)),Zg hx,(by show j+1=(Kv p l (k+1)).length;rw [OH hx (by simpa using hb29)];simp [hj]),(by show row.set (j*1) (Zc x)=(Tp p l (k+1)).map Zc;rw [hr,hj,XF];exact DF hx (by simpa using hb29))⟩
      ) (by dsimp only;omega) ⟨rfl,rfl,rfl,rfl,trivial⟩ ⟨rfl,trivial⟩))
 · first |exact bN hb29|(
 refine Zf ?_;(refine xL 20 Za (xL 21 ZO (xL 6 Zb ?_));refine Ze ?_)
 first
  | (exact Zk (
      ⟨(k+1,j,row),Zg hx,(by dsimp only;rw [GR hx (by simpa using hb29)];exact hj),(by dsimp only;rw [hr];unfold Tp;rw [GR hx (by simpa using hb29)])⟩
      ) (by dsimp only;omega) ⟨rfl,rfl,rfl,rfl,trivial⟩ ⟨rfl,trivial⟩)
  | (exact Zk (
      ⟨(k+1,j+1,row.set (j*1) (Zc x)),Zg hx,(by show j+1=(Kv p l (k+1)).length;rw [OH hx (by simpa using hb29)];simp [hj]),(by show row.set (j*1) (Zc x)=(Tp p l (k+1)).map Zc;rw [hr,hj,XF];exact DF hx (by simpa using hb29))⟩
      ) (by dsimp only;omega) ⟨rfl,rfl,rfl,rfl,trivial⟩ ⟨rfl,trivial⟩)))
 · first|exact bN hb19|(
 have hkl:k=l.length:=oM;refine Zf ?_;(refine xL 36 Za (xL 37 Za ?_);refine xL 38 (Kc (i:=j) (j:=l.length) 1000 Zs rfl rfl rfl rfl rfl hjl (Xb _)) ?_;(refine T2 1000 ZB dC rfl rfl rfl rfl rfl hjl ?_;intro cs2 hcs1 hcs2);refine Zn ?_)
 (refine xL 39 Za (xL 40 Za ?_);refine xL 41 (Kc (i:=0) (j:=j) 1000 Zs rfl rfl rfl rfl rfl (Xh _) hjl) ?_;refine xL 4 Zb ?_;refine Ze ?_)
 refine Wm (ZeU (l:=1000) j rfl hjl) fun _=>?_;refine WQ [(1000,slc hv 0 j 1,PV.own 3 1 j (cs2.take (j*1)))] (results146) rfl ⟨rfl,trivial⟩ ⟨rfl,?_⟩;(have hF:(l.filter fun s=> !p s)=Kv p l k:=by unfold Kv;rw [hkl,Vz]);rw [hcs2,hr,hF,←hj];congr 4;unfold Tp;rw [X2,XF,List.take_left' (by rw [Xe,hj])]))
theorem LW (l:List Int) (hl:l.length≤1000000):AF prog 117 [pInts l] (· = .own 3 1 l.length (l.map Zc)):=by
 refine AF.of_body 8 func117 rfl ntmps117 (Xa rfl) ?_
 intro w0 M0 vs hl hv
 obtain ⟨v0,rfl⟩:=Kl hl
 clear hl hv
 have f3:(l.map Zc).length=l.length*1:=by rw [Xe,XF]
 have f4:(l.map Zc).all En.one=true:=by rw [List.all_map,Xj];intro x _;rfl
 refine Zf ?_
 (refine xL 2 Zb ?_;refine Zn ?_)
 (refine xL 3 Za ?_<;>(refine yL 4 (ZeW Zs) fun v4 hv4=>?_;rcases hv4 with rfl|⟨rfl,hn0⟩)<;>refine Ze ?_)<;>(
 refine cX ?_ ?_<;>intro hb4
 · first|exact bN hb4|(
 refine Zf ?_;(refine xL 2 Zb ?_;refine Ze ?_)
 have hl0:l=[]:=XK hn0;subst hl0;refine Wm (WF 200 3 1 rfl) fun _=>?_;exact ζA 200 (results117) rfl rfl rfl)
 · first|exact bN hb4|(
 refine Zf ?_;(refine ZgU 5 ZB fun h5 ho5=>?_;refine xL 6 Za ?_;refine CB 5 7 ZB (fun h7 ho7=>?_) f3 f4;refine xL 2 Zb ?_;refine Ze ?_)
 refine ζA 7 (results117) rfl rfl ?_;rw [Xv,VH]))
def cTo (t:Tn):List PV:=[ZZ t.lab, .own 3 1 t.ins.length (t.ins.map Zc), .own 3 1 t.outs.length (t.outs.map Zc)]
theorem ZaG (t:Tn):(cTo t).length=3:=rfl
theorem Zd6 (t:Tn):WW (cTo t)=cTn t:=by
 rw [Yf]
 show [share _,share _,share _]=_
 rw [WO 3 _ _ rfl,WO 3 _ _ rfl];rfl
theorem Cg (l:List Tn):WW (l.flatMap cTo)=l.flatMap cTn:=by
 induction l with
 |nil=>rfl
 | cons t l ih=>
   rw [Xp,Xp,←ih,←Zd6 t,Yf,Yf,Yf,X2]
theorem ZhN (e:Nat) (l:List Tn) (x:Tn):PV.own e 3 (l.length+1) (l.flatMap cTo++cTo x)= .own e 3 (l++[x]).length ((l++[x]).flatMap cTo):=by
 rw [Xt,Xg];simp
def FitP (l:List Tn):Prop:=∀t∈l,t.ins.length≤100000∧t.outs.length≤100000
set_option maxHeartbeats 2000000 in
theorem Lj (n:Nt) (V:Value) (hn:n.tr.length≤1000) (hp:FitP n.tr):AFh False prog 53 [(0,V,pNt n)] [] (fun _ q h=>∃u:Value,u.oneCell'=true∧q= .agg [Zc n.pl, .val u,Zc n.src,Zc n.snk]∧h=[(1000,u, .own 69 3 n.tr.length (n.tr.flatMap cTo))]):=by
 refine AFh.of_body 31 func53 rfl ntmps53 (Xa rfl) rfl ?_
 intro w0 M0 N0
 refine Zf ?_
 (refine Yv 1 4 fun h1=>?_;refine ZA [(.int .i64 0),(.slice none 0 0),(.int .i64 0),(.int .i64 0)] 4 2 YC fun h2=>?_;refine Zn ?_)
 (refine yL 6 (Zq 1 Zr) fun v6 hv6=>?_;cases hv6;refine ZA [(.int .i64 0),(.slice none 0 0),(.int .i64 0),(.int .i64 0)] 4 3 YC fun h3=>?_;refine Zv 3 Zr ?_;refine Zn ?_)
 (refine xL 7 (Zd 3 ZD) ?_;refine Y3 3 ZN GP ?_;refine Ze ?_)
 refine Zz (WF 200 69 3 rfl) fun _=>?_
 (refine Zm ?_;refine xL 8 (Zd 1 ZD) ?_;refine yL 9 (Zi 1 ZN) fun v9 hv9=>?_;cases hv9;refine xL 10 (Z1 ZI) (xL 11 Za ?_);refine Ze ?_)
 refine ZE (ι:={q:Nat×Value//q.1≤n.tr.length∧q.2.oneCell'=true}) (fun k=>⟨[(2,_,_),(3,_,_),(9,_,_),(10,_,_),(11, .int .i64 k.1.1,Zc k.1.1)],[(2,_,_),(3,h3, .own 29 4 1 [Zc n.pl, .val k.1.2,Zc n.src,Zc n.snk]),(200,k.1.2, .own 69 3 (n.tr.take k.1.1).length ((n.tr.take k.1.1).flatMap cTo))]⟩) (fun k=>n.tr.length-k.1.1) ⟨(0, .slice none 0 0),Xh _,rfl⟩ (fun a w H=>H.weaken ⟨rfl,rfl,rfl,rfl,rfl,trivial⟩ ⟨rfl,rfl,rfl,trivial⟩) ?_
 rintro ⟨⟨k,u⟩,hk,hu⟩
 dsimp only
 dsimp only at hk hu;have honeu:En.one (PV.val u)=true:=hu
 refine Zf ?_
 (refine xL 12 ZR ?_;refine Ze ?_)
 refine cX ?_ ?_<;>intro hb12
 · first|exact bN hb12|(
 obtain ⟨x,hx⟩:=Zw (show k<n.tr.length by omega);have e1:=Z' Yr n.tr k x hx;have e2:=Yp Yr hx;have hxp:=hp x (Xd hx);(have htk:(n.tr.take k).length≤k:=by rw [Xl];omega);refine Zf ?_;(refine xL 13 (ZP ZI) ?_;refine yL 14 (Yz Z9) fun v14 hv14=>?_;cases hv14;refine ZA [(.string ByteArray.empty),(.slice none 0 0),(.slice none 0 0)] 3 5 Wb fun h5=>?_;refine Zv 5 Z9 ?_;refine Ze ?_)
 (refine ZS (fun i=>([14]:List Nat).elem i) [3,5] kR ?_<;>refine xD 0 15 rfl (Zd 3 ZD) ?_<;>(refine yD 1 16 rfl (Zi 3 ZN) fun v16 h=>?_;cases h)<;>refine xD 2 17 rfl (Zd 5 Y7) ?_<;>(refine yD 3 18 rfl (Zi 5 WC) fun v18 h=>?_;cases h)<;>refine xD 4 19 rfl (Zd 5 Yi) ?_<;>(refine yD 5 20 rfl (Zi 5 Zy) fun v20 h=>?_;cases h)<;>refine xD 7 22 rfl (Zd 5 Yb) ?_<;>(refine yD 8 23 rfl (Zi 5 Zy) fun v23 h=>?_;cases h)<;>(refine Zl 6 kR ?_)<;>(refine Zj rfl fun w9 M9 N9 DQ back=>?_)<;>(refine cO 21 (cA (call117) (LW x.ins oM)) fun v21 ho21=>?_;have hone21:En.one (PV.val v21)=true:=ho21)<;>refine Zh (back _ (nrm ?_))<;>(refine Zl 9 kR ?_)<;>(refine Zj rfl fun w9 M9 N9 DQ back=>?_)<;>(refine cO 24 (cA (call117) (LW x.outs oM)) fun v24 ho24=>?_;have hone24:En.one (PV.val v24)=true:=ho24)<;>refine Zh (back _ (nrm ?_))<;>refine xE 10 25 rfl (Z3 J1) ?_<;>(refine Zl 11 kR ?_)<;>(refine Zj rfl fun w9 M9 N9 DQ back=>?_)<;>(refine K1 26 KE fun h26 ho26=>?_;refine Zp (HK (l:=26) (l':=21) (j:=1) rfl rfl rfl rfl) fun _=>?_;refine Zp (HK (l:=26) (l':=24) (j:=2) rfl rfl rfl rfl) fun _=>?_)<;>refine Zh (back _ (nrm ?_))<;>(refine Zl 12 kR ?_)<;>(refine Zj rfl fun w9 M9 N9 DQ back=>?_)<;>(refine Kk 200 26 27 KE fun h27 ho27=>?_;have hone27:En.one (PV.val h27)=true:=ho27;refine Zp (Z0 (l:=27) 200 rfl rfl) fun _=>?_;refine Zp (ZF (l:=200) rfl (ZhN 69 (n.tr.take k) x)) fun _=>?_;rw [←Yo hx])<;>refine Zh (back _ (nrm ?_))<;>refine xE 13 28 rfl (Zd 3 ZD) ?_<;>(refine Zl 14 kR ?_)<;>(refine WX rfl rfl kR fun DQ back=>?_)<;>refine Y3 3 ZN GP ?_<;>refine Zh (back _ (nav ?_))<;>try dsimp only)
 (refine Zm ?_;refine xL 29 ZO (xL 11 Za ?_);refine Ze ?_)
 refine Zk (
  ⟨(k+1,h27),Zg hx,ho27⟩
  ) (by dsimp only;omega) ⟨rfl,rfl,rfl,rfl,rfl,trivial⟩ ⟨rfl,rfl,rfl,trivial⟩)
 · first|exact bN hb12|(
 refine nav ?_;obtain rfl:k=n.tr.length:=oM;rw [Vz];(refine Zm ?_;refine yL 30 (Zq 3 Zr) fun v30 hv30=>?_;cases hv30;(refine Zv (ps:=[Zc n.pl, .val u,Zc n.src,Zc n.snk]) 2 Zr ?_ (h1:=by simp only [XH,XU,honeu];rfl));refine Ze ?_)
 refine Wm (Z0 (l:=200) 1000 rfl rfl) fun _=>?_;exact PK (k:=4) 2 [(1000,u, .own 69 3 n.tr.length (n.tr.flatMap cTo))] kR (results53) rfl rfl (Xa rfl) dC rfl ⟨rfl,trivial⟩ fun _=>⟨u,hu,rfl,rfl⟩)
set_option maxHeartbeats 2000000 in
theorem SF (n:Nt) (a:Nat) (V:Value) (ha:a<n.tr.length) (hn:n.tr.length≤1000) (hp:FitP n.tr):AFh False prog 101 [(0,V,pNt n),(1, .int .i64 a,Zc a)] [] (fun _ q h=>∃u:Value,u.oneCell'=true∧q= .agg [Zc n.pl, .val u,Zc n.src,Zc n.snk]∧h=[(1000,u, .own 69 3 (n.tr.eraseIdx a).length ((n.tr.eraseIdx a).flatMap cTn))]):=by
 refine AFh.of_body 16 func101 rfl ntmps101 (Xa rfl) rfl ?_
 intro w0 M0 N0
 refine Zf ?_
 (refine Yv 2 4 fun h2=>?_;refine ZA [(.int .i64 0),(.slice none 0 0),(.int .i64 0),(.int .i64 0)] 4 4 YC fun h4=>?_;refine Zn ?_)
 (refine yL 6 (Zq 2 Zr) fun v6 hv6=>?_;cases hv6;(refine ZT [2,4] 7 (call53) (Lj n _ hn hp) (fun v7 p7 h7 hR7=>?_);obtain ⟨u,hu,rfl,rfl⟩:=hR7;have honeu:En.one (PV.val u)=true:=hu;refine ZL [(1000,_,_),(2,_,_),(4,_,_)] ⟨rfl,rfl,rfl,trivial⟩ ?_;refine Zp (Zf4 (l:=1000) rfl) fun _=>?_;refine Zp (ZF (l:=1000) rfl (show PV.own 69 3 n.tr.length (WW (n.tr.flatMap cTo))= .own 69 3 n.tr.length (n.tr.flatMap cTn) by rw [Cg])) fun _=>?_);refine ZA [(.int .i64 0),(.slice none 0 0),(.int .i64 0),(.int .i64 0)] 4 5 YC fun h5=>?_;(refine Zv (ps:=[Zc n.pl, .val u,Zc n.src,Zc n.snk]) 5 Zr ?_ (h1:=by simp only [XH,XU,honeu];rfl));refine Zn ?_)
 (refine xL 8 (Zd 5 ZD) ?_;refine yL 9 (Zi 5 ZN) fun v9 hv9=>?_;cases hv9;refine xL 10 Za (xL 11 Za ?_);refine xL 12 ((W0 (c:=((a+1:Nat):Int)))) ?_;(refine ZL [(1000,_,_),(2,_,_),(4,_,_),(5,_,_)] ⟨rfl,rfl,rfl,rfl,trivial⟩ ?_;refine ZT [2,4,5] 13 (call143) (Zf8 n.tr a ha hn u hu) (fun v13 p13 h13 hR13=>?_);obtain ⟨hv13,rfl,rfl⟩:=hR13;have hone13:En.one (PV.val v13)=true:=hv13);refine xL 14 (Zd 5 ZD) ?_;refine Y3 5 ZN GP ?_;refine Zn ?_)
 (refine yL 15 (Zq 5 Zr) fun v15 hv15=>?_;cases hv15;(refine Zv (ps:=[Zc n.pl, .val v13,Zc n.src,Zc n.snk]) 4 Zr ?_ (h1:=by simp only [XH,XU,hone13];rfl));refine Ze ?_)
 exact PK (k:=4) 4 [(1000,v13, .own 69 3 (n.tr.eraseIdx a).length ((n.tr.eraseIdx a).flatMap cTn))] kR (results101) rfl rfl (Xa rfl) dC rfl ⟨rfl,trivial⟩ fun _=>⟨v13,hv13,rfl,rfl⟩
end Go.Proofs.YtpiemogpblmiiaaGreatDoor
