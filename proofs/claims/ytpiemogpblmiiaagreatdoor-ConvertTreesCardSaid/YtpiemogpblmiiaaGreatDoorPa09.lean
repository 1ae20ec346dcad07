/-
  Walks of functions and plain laws of the chapter, as the claim needs them.
-/
import Derived.Test.YtpiemogpblmiiaaGreatDoorPa08
import Derived.Test.YtpiemogpblmiiaaGreatDoorPa05
import Derived.Test.YtpiemogpblmiiaaGreatDoorPa02
import Derived.Test.YtpiemogpblmiiaaGreatDoorPa04
import Derived.Test.YtpiemogpblmiiaaGreatDoorPa07
import Derived.Test.YtpiemogpblmiiaaGreatDoorPa03
import Derived.Test.YtpiemogpblmiiaaGreatDoorMShelfD
import Derived.Test.YtpiemogpblmiiaaGreatDoorPa06
import Derived.Test.YtpiemogpblmiiaaGreatDoorPa01
namespace Go.En
open Go.RowKit Go.Cb
set_option linter.all false
section
variable {P:Program} {c:Ctx} {ops:Array Oper} {Q:Exit→Act→World→Prop} {rest:List Oper} {sL hP:List (Nat×Ent)}
theorem Zd7 {l e k n:Nat} {h:Value} {cs:List PV} (hl:lk hP l=some (h, .own e k n cs)) (kk:h.oneCell'=true→aL P c ops Q rest ⟨sL,hP⟩):aL P c ops Q rest (⟨sL,hP⟩:St):=fun a w ⟨F,H⟩=>kk ((H.tr l _ _ hl).cellOne rfl) a w ⟨F,H⟩
end
end Go.En
namespace Go.Proofs.YtpiemogpblmiiaaGreatDoor
open Go.RowKit Go.Cb Go.En Tryz
set_option linter.all false
set_option maxRecDepth 100000
def Wt {α:Type} (f:α→α) (l:List α) (k:Nat):List α:=(l.take k).map f++l.drop k
theorem SG {α:Type} (f:α→α) (l:List α) (k:Nat):(Wt f l k).length=l.length:=by
 unfold Wt;rw [Xg,Xe,Xl,Xw];omega
theorem Pr {α:Type} {f:α→α} {l:List α} {k:Nat} {x:α} (hx:l[k]? =some x):(Wt f l k)[k]? =some x:=by
 have h1:((l.take k).map f).length=k:=by rw [Xe,Xl];have:=Zg hx;omega
 unfold Wt
 rw [X0 oM,h1,Vp,XT,XL,hx]
theorem Ch {α:Type} {f:α→α} {l:List α} {k:Nat} {x:α} (hx:l[k]? =some x):(Wt f l k).set k (f x)=Wt f l (k+1):=by
 have h1:((l.take k).map f).length=k:=by rw [Xe,Xl];have:=Zg hx;omega
 unfold Wt
 rw [Vy _ _ oM,h1,Vp,Yo hx,X2,Uc,XC]
 congr 1
 have h2:=XN (Zg hx)
 rw [h2,show l[k]'(Zg hx)=x from (Xz.1 hx).2];rfl
theorem GU {α:Type} (f:α→α) (l:List α):Wt f l l.length=l.map f:=by
 unfold Wt;rw [Vz,List.drop_length,Vc]
theorem SH {α:Type} (f:α→α) {l:List α} {k:Nat} {x:α} (hx:l[k]? =some x):Wt f l k=(l.take k).map f++[x]++l.drop (k+1):=by
 unfold Wt
 have h2:=XN (Zg hx)
 rw [h2,show l[k]'(Zg hx)=x from (Xz.1 hx).2,XC];rfl
theorem Tl {α:Type} (f:α→α) {l:List α} {k:Nat} {x:α} (hx:l[k]? =some x):Wt f l (k+1)=(l.take k).map f++[f x]++l.drop (k+1):=by
 unfold Wt
 rw [Yo hx,X2,Uc]
theorem Ps {A C:List PV} {i:Nat} {a b c:PV} (h:A.length=i):(A++[a,b,c]++C)[i+1]? =some b:=by
 rw [XC,X0 oM,h,Ud];rfl
theorem Pt {A C:List PV} {i:Nat} {a b c:PV} (h:A.length=i):(A++[a,b,c]++C)[i+2]? =some c:=by
 rw [XC,X0 oM,h,Ud];rfl
theorem GV {A C:List PV} {i:Nat} {a b c v:PV} (h:A.length=i):(A++[a,b,c]++C).set (i+1) v=A++[a,v,c]++C:=by
 rw [XC,Vy _ _ oM,h,Ud,XC];rfl
theorem GW {A C:List PV} {i:Nat} {a b c v:PV} (h:A.length=i):(A++[a,b,c]++C).set (i+2) v=A++[a,b,v]++C:=by
 rw [XC,Vy _ _ oM,h,Ud,XC];rfl
theorem Zd8 {A C:List PV} {i:Nat} {a b c:PV} (h:A.length=i):((A++[a,b,c]++C).drop i).take 3=[a,b,c]:=by
 rw [XC,List.drop_append_of_le_length oM,List.drop_of_length_le oM];rfl
theorem ZaH {A C:List PV} {i:Nat} {a b c:PV} (h:A.length=i):i+3≤(A++[a,b,c]++C).length:=by
 simp only [Xg,Xc,Xk];omega
structure NtF (n:Nt):Prop where
 len:n.tr.length≤1000
 fit:FitP n.tr
 pl:0≤n.pl∧n.pl≤1000
 src:0≤n.src∧n.src≤1000
 snk:0≤n.snk∧n.snk≤1000
 ins:∀t∈n.tr,∀x∈t.ins,0≤x∧x≤1000
 outs:∀t∈n.tr,∀x∈t.outs,0≤x∧x≤1000
def ζo (p:Int) (t:Tn):Tn:=⟨t.lab,t.ins.map (Yg p),t.outs.map (Yg p)⟩
def noP (n:Nt) (p:Int):Nt:=⟨n.pl-1,n.tr.map (ζo p),Yg p n.src,Yg p n.snk⟩
theorem Rm (e n:Nat) (L:List Tn) (hn:n=L.length):share (.own e 3 n (L.flatMap cTo))=JS L:=by
 subst hn
 rw [share,Cg];rfl
theorem Tm (p x:Int) (h:0≤x∧x≤1000):AF prog 149 [Zc x, .sptr 0 [Zc p]] (· =Zc (Yg p x)):=by
 refine AF.of_body 10 func149 rfl ntmps149 (Xa rfl) ?_
 intro w0 M0 vs hl hv
 obtain ⟨v0,v1,rfl⟩:=KG hl
 obtain rfl:=hv 0 _ _ rfl rfl
 clear hl hv
 refine Zf ?_
 (refine xL 3 Zb ?_;refine Zn ?_)
 (refine xL 4 Za ?_;refine yL 5 (Yy Zo) fun v5 hv5=>?_;cases hv5;refine xL 6 Wy ?_;refine Ze ?_)
 refine cX ?_ ?_<;>intro hb6
 · first|exact bN hb6|(
 refine Zf ?_;(refine xL 7 Za (xL 8 Gf (xL 3 Zb ?_));refine Ze ?_)
 refine Zx (results149) rfl ?_;unfold Yg;rw [Up hb6])
 · first|exact bN hb6|(
 refine Zf ?_;(refine xL 9 Za (xL 3 Zb ?_);refine Ze ?_)
 refine Zx (results149) rfl ?_;unfold Yg;rw [Uo hb6])
set_option maxHeartbeats 4000000 in
theorem Gw (n:Nt) (p:Int) (h:NtF n):AF prog 109 [pNt n,Zc p] (· =pNt (noP n p)):=by
 have hpl:=h.pl
 have hsrc:=h.src
 have hsnk:=h.snk
 have hlen:=h.len
 refine AF.of_body 85 func109 rfl ntmps109 (Xa rfl) ?_
 intro w0 M0 vs hl hv
 obtain ⟨v0,v1,rfl⟩:=KG hl
 obtain rfl:=hv 1 _ _ rfl rfl
 clear hl hv
 refine Zf ?_
 (refine Yv 2 4 fun h2=>?_;refine ζB 3 fun h3=>?_;refine ZA [(.int .i64 0),(.slice none 0 0),(.int .i64 0),(.int .i64 0)] 4 4 YC fun h4=>?_;refine Ze ?_)
 refine Zz (TW (l:=3) (t:=3) (j:=0) rfl VI rfl) fun _=>?_
 refine Zz (Yk (t:=3) (p':= .sptr 0 [Zc p]) rfl (by rw [Yf];rfl)) fun _=>?_
 (refine Zm ?_;refine xL 12 Ty (xL 5 Zb ?_);refine Zn ?_)
 (refine yL 13 (Zq 2 Zr) fun v13 hv13=>?_;cases hv13;(refine ZT [2,4] 14 (call53) (Lj n _ h.len h.fit) (fun v14 p14 h14 hR14=>?_);obtain ⟨u,hu,rfl,rfl⟩:=hR14;have honeu:En.one (PV.val u)=true:=hu;refine ZL [(1000,_,_),(2,_,_),(4,_,_)] ⟨rfl,rfl,rfl,trivial⟩ ?_;refine Zp (Z0 (l:=1000) 600 rfl rfl) fun _=>?_);refine ZA [(.int .i64 0),(.slice none 0 0),(.int .i64 0),(.int .i64 0)] 4 6 YC fun h6=>?_;(refine Zv (ps:=[Zc n.pl, .val u,Zc n.src,Zc n.snk]) 6 Zr ?_ (h1:=by simp only [XH,XU,honeu];rfl));refine Ze ?_)
 (refine ZS (fun i=>([12,13,14,15,16]:List Nat).elem i) [2,6] kR ?_<;>refine xDT 0 15 rfl (Zd 2 Z2) ?_<;>(refine yDT 1 16 rfl (Zi 2 Zo) fun v16 h=>?_;cases h)<;>refine xDT 2 17 rfl Gf ?_<;>refine xDT 3 18 rfl Za ?_<;>refine xDT 4 19 rfl (Zd 2 YP) ?_<;>(refine yDT 5 20 rfl (Zi 2 Zo) fun v20 h=>?_;cases h)<;>refine xDT 7 22 rfl Za ?_<;>refine xDT 8 23 rfl (Zd 2 YW) ?_<;>(refine yDT 9 24 rfl (Zi 2 Zo) fun v24 h=>?_;cases h)<;>refine xDT 11 26 rfl (Zd 6 Z2) ?_<;>(refine Zl 6 kR ?_)<;>(refine Zj rfl fun w9 M9 N9 DQ back=>?_)<;>(refine cS 21 (Jb (f:=149) (ps:=[.sptr 0 [Zc p]]) rfl ⟨_,rfl⟩ (call149) rfl (Tm p n.src hsrc)) fun v21 h=>?_;cases h)<;>refine Zh (back _ (nrm ?_))<;>(refine Zl 10 kR ?_)<;>(refine Zj rfl fun w9 M9 N9 DQ back=>?_)<;>(refine cS 25 (Jb (f:=149) (ps:=[.sptr 0 [Zc p]]) rfl ⟨_,rfl⟩ (call149) rfl (Tm p n.snk hsnk)) fun v25 h=>?_;cases h)<;>refine Zh (back _ (nrm ?_))<;>(refine Zl 12 kR ?_)<;>(refine K6 rfl rfl fun DQ back=>?_)<;>refine Y3 6 Zo W9 ?_<;>refine Zh (back _ ?_)<;>(refine KO 13 kR rfl rfl fun DQ back=>?_)<;>refine xL 27 (Zd 6 YP) ?_<;>refine Zh (back _ ?_)<;>(refine KO 14 kR rfl rfl fun DQ back=>?_)<;>refine Y3 6 Zo W9 ?_<;>refine Zh (back _ ?_)<;>(refine KO 15 kR rfl rfl fun DQ back=>?_)<;>refine xL 28 (Zd 6 YW) ?_<;>refine Zh (back _ ?_)<;>(refine KO 16 kR rfl rfl fun DQ back=>?_)<;>refine Y3 6 Zo W9 ?_<;>refine Zh (back _ ?_)<;>refine JM kR (nav ?_)<;>try dsimp only)
 (refine Zm ?_;refine xL 29 (Zd 6 ZD) ?_;refine yL 30 (Zi 6 ZN) fun v30 hv30=>?_;cases hv30;refine xL 31 (YV 600 ZI) (xL 32 Za ?_);refine Ze ?_)
 refine ZE (ι:={q:Nat//q≤n.tr.length}) (fun k=>⟨[(4,_,_),(5,_,_),(6,_,_),(30,_,_),(31,_,_),(32, .int .i64 k.1,Zc k.1)],[(4,_,_),(6,h6, .own 29 4 1 [Zc (n.pl-1), .val u,Zc (Yg p n.src),Zc (Yg p n.snk)]),(600,u, .own 69 3 n.tr.length ((Wt (ζo p) n.tr k.1).flatMap cTo))]⟩) (fun k=>n.tr.length-k.1) ⟨0,Xh _⟩ (fun a w H=>H.weaken ⟨rfl,rfl,rfl,rfl,rfl,rfl,trivial⟩ ⟨rfl,rfl,rfl,trivial⟩) ?_
 rintro ⟨i,hi⟩
 dsimp only
 refine Zf ?_
 (refine xL 33 ZR ?_;refine Ze ?_)
 refine cX ?_ ?_<;>intro hb33
 · first | exact bN hb33|(
 obtain ⟨x,hx⟩:=Zw (show i<n.tr.length by omega);have hxm:=Xd hx;have hxf:=h.fit x hxm;obtain ⟨A,hA⟩:∃A,A=((n.tr.take i).map (ζo p)).flatMap cTo:=⟨_,rfl⟩;obtain ⟨C,hC⟩:∃C,C=(n.tr.drop (i+1)).flatMap cTo:=⟨_,rfl⟩;(have hAl:A.length=i*3:=by rw [hA,WR ZaG,Xe,Xl,XJ hi]);(have hcut:(Wt (ζo p) n.tr i).flatMap cTo=(A++[ZZ x.lab,(PV.own 3 1 x.ins.length (x.ins.map Zc)),(PV.own 3 1 x.outs.length (x.outs.map Zc))]++C):=by rw [SH _ hx,Xt,Xt,X1,hA,hC];rfl);(have hcut2:(Wt (ζo p) n.tr (i+1)).flatMap cTo=(A++[ZZ x.lab,(PV.own 3 1 (x.ins.map (Yg p)).length ((x.ins.map (Yg p)).map Zc)),(PV.own 3 1 (x.outs.map (Yg p)).length ((x.outs.map (Yg p)).map Zc))]++C):=by rw [Tl _ hx,Xt,Xt,X1,hA,hC];rfl);refine Zz (ZF (l:=600) (p':=PV.own 69 3 n.tr.length (A++[ZZ x.lab,(PV.own 3 1 x.ins.length (x.ins.map Zc)),(PV.own 3 1 x.outs.length (x.outs.map Zc))]++C)) rfl (by rw [hcut])) fun _=>?_;(have hfit:i*3+3≤n.tr.length*3:=by have:=Zg hx;omega);refine Zf ?_;(refine xL 34 Za (xL 7 Zb ?_);refine Ze ?_)
 refine Zz (SS (l:=600) (l':=601) (j:=i*3+1) rfl (Ps hAl) rfl rfl) fun v601=>?_;obtain ⟨w,hw⟩:=v601;dsimp only;refine Zz (ZF (l:=600) rfl (show PV.own 69 3 n.tr.length ((A++[ZZ x.lab,(PV.own 3 1 x.ins.length (x.ins.map Zc)),(PV.own 3 1 x.outs.length (x.outs.map Zc))]++C).set (i*3+1) (.val w))=PV.own 69 3 n.tr.length (A++[ZZ x.lab, .val w,(PV.own 3 1 x.outs.length (x.outs.map Zc))]++C) by rw [GV hAl])) fun _=>?_;have e1:(A++[ZZ x.lab,PV.val w,(PV.own 3 1 x.outs.length (x.outs.map Zc))]++C)[i*3+1]? =some (.val w):=Ps hAl;(refine Zm ?_;refine xL 35 (Zd 6 ZD) ?_;refine yL 36 (Zi 6 ZN) fun v36 hv36=>?_;cases hv36;refine xL 37 Za (xL 38 (Zt 600 ZI) (xL 39 (Zd 600 Yi) ?_));refine yL 40 (Zi 600 Zy) fun v40 hv40=>?_;cases hv40;refine xL 41 (YV 601 Zs) (xL 42 Za ?_);refine Ze ?_)
 refine ZE (ι:={q:Nat//q≤x.ins.length}) (fun k=>⟨[(4,_,_),(5,_,_),(6,_,_),(7,_,_),(30,_,_),(31,_,_),(32,_,_),(40,_,_),(41,_,_),(42, .int .i64 k.1,Zc k.1)],[(4,_,_),(6,_,_),(600,_,_),(601,w, .own 3 1 x.ins.length ((Wt (Yg p) x.ins k.1).map Zc))]⟩) (fun k=>x.ins.length-k.1) ⟨0,Xh _⟩ (fun a w H=>H.weaken ⟨rfl,rfl,rfl,rfl,rfl,rfl,rfl,rfl,rfl,rfl,trivial⟩ ⟨rfl,rfl,rfl,rfl,trivial⟩) ?_;rintro ⟨k,hk⟩;dsimp only;refine Zf ?_;(refine xL 43 ZR ?_;refine Ze ?_)
 refine cX ?_ ?_<;>intro hb43
 · first|exact bN hb43|(
 obtain ⟨y,hy⟩:=Zw (show k<x.ins.length by omega);have g1:=Y2 (f:=Zc) (Pr (f:=Yg p) hy);have g2:=SG (Yg p) x.ins k;(have g3:((Wt (Yg p) x.ins k).map Zc).length=x.ins.length:=by rw [Xe,g2]);have hset:=Ch (f:=Yg p) hy;have hyb:=h.ins x hxm y (Xd hy);refine Zf ?_;(refine xL 44 Za (xL 45 (Zt 601 Zs) ?_);refine yL 46 (Zi 601 Zo) fun v46 hv46=>?_;cases hv46;refine xL 8 Zb (xL 9 Zb ?_);refine Ze ?_)
 (refine ZS (fun i=>([11]:List Nat).elem i) [6,600,601] kR ?_<;>refine xD 0 47 rfl (Zd 6 ZD) ?_<;>(refine yD 1 48 rfl (Zi 6 ZN) fun v48 h=>?_;cases h)<;>refine xD 2 49 rfl Za ?_<;>refine xD 3 50 rfl (Zt 600 ZI) ?_<;>refine xD 4 51 rfl (Zd 600 Yi) ?_<;>(refine yD 5 52 rfl (Zi 600 Zy) fun v52 h=>?_;cases h)<;>refine xD 6 53 rfl Za ?_<;>refine xD 7 54 rfl Za ?_<;>refine xE 8 55 rfl Za ?_<;>(refine Zl 9 kR ?_)<;>(refine Zj rfl fun w9 M9 N9 DQ back=>?_)<;>(refine cS 56 (Jb (f:=149) (ps:=[.sptr 0 [Zc p]]) rfl ⟨_,rfl⟩ (call149) rfl (Tm p y hyb)) fun v56 h=>?_;cases h)<;>refine Zh (back _ (nrm ?_))<;>refine xE 10 57 rfl (Zt 601 Zs) ?_<;>(refine Zl 11 kR ?_)<;>(refine WX rfl rfl kR fun DQ back=>?_)<;>(refine Y3 601 Zo W9 ?_ (hj:=by omega);refine Zp (ZF (l:=601) rfl (show PV.own 3 1 x.ins.length (((Wt (Yg p) x.ins k).map Zc).set (k*1) (Zc (Yg p y)))= .own 3 1 x.ins.length ((Wt (Yg p) x.ins (k+1)).map Zc) by rw [XF,←hset,List.map_set])) fun _=>?_)<;>refine Zh (back _ (nav ?_))<;>try dsimp only)
 (refine Zm ?_;refine xL 58 ZO (xL 42 Za ?_);refine Ze ?_)
 refine Zk (
  ⟨k+1,Zg hy⟩
  ) (by dsimp only;omega) ⟨rfl,rfl,rfl,rfl,rfl,rfl,rfl,rfl,rfl,rfl,trivial⟩ ⟨rfl,rfl,rfl,rfl,trivial⟩)
 · first |exact bN hb43|(
 refine nav ?_;obtain rfl:k=x.ins.length:=oM;refine Zz (ZF (l:=601) rfl (show PV.own 3 1 x.ins.length ((Wt (Yg p) x.ins x.ins.length).map Zc)=PV.own 3 1 (x.ins.map (Yg p)).length ((x.ins.map (Yg p)).map Zc) by rw [GU,Xe])) fun _=>?_;refine Zz (HK (l:=600) (l':=601) (j:=i*3+1) rfl e1 rfl rfl) fun _=>?_;refine Zz (ZF (l:=600) rfl (show PV.own 69 3 n.tr.length ((A++[ZZ x.lab, .val w,(PV.own 3 1 x.outs.length (x.outs.map Zc))]++C).set (i*3+1) (PV.own 3 1 (x.ins.map (Yg p)).length ((x.ins.map (Yg p)).map Zc)))=PV.own 69 3 n.tr.length (A++[ZZ x.lab,(PV.own 3 1 (x.ins.map (Yg p)).length ((x.ins.map (Yg p)).map Zc)),(PV.own 3 1 x.outs.length (x.outs.map Zc))]++C) by rw [GV hAl])) fun _=>?_;refine Zz (SS (l:=600) (l':=601) (j:=i*3+2) rfl (Pt hAl) rfl rfl) fun v602=>?_;obtain ⟨w2,hw2⟩:=v602;dsimp only;refine Zz (ZF (l:=600) rfl (show PV.own 69 3 n.tr.length ((A++[ZZ x.lab,(PV.own 3 1 (x.ins.map (Yg p)).length ((x.ins.map (Yg p)).map Zc)),(PV.own 3 1 x.outs.length (x.outs.map Zc))]++C).set (i*3+2) (.val w2))=PV.own 69 3 n.tr.length (A++[ZZ x.lab,(PV.own 3 1 (x.ins.map (Yg p)).length ((x.ins.map (Yg p)).map Zc)), .val w2]++C) by rw [GW hAl])) fun _=>?_;have e2:(A++[ZZ x.lab,(PV.own 3 1 (x.ins.map (Yg p)).length ((x.ins.map (Yg p)).map Zc)),PV.val w2]++C)[i*3+2]? =some (.val w2):=Pt hAl;(refine Zm ?_;refine xL 59 (Zd 6 ZD) ?_;refine yL 60 (Zi 6 ZN) fun v60 hv60=>?_;cases hv60;refine xL 61 Za (xL 62 (Zt 600 ZI) (xL 63 (Zd 600 Yb) ?_));refine yL 64 (Zi 600 Zy) fun v64 hv64=>?_;cases hv64;refine xL 65 (YV 601 Zs) (xL 66 Za ?_);refine Ze ?_)
 refine ZE (ι:={q:Nat//q≤x.outs.length}) (fun k=>⟨[(4,_,_),(5,_,_),(6,_,_),(7,_,_),(30,_,_),(31,_,_),(32,_,_),(64,_,_),(65,_,_),(66, .int .i64 k.1,Zc k.1)],[(4,_,_),(6,_,_),(600,_,_),(601,w2, .own 3 1 x.outs.length ((Wt (Yg p) x.outs k.1).map Zc))]⟩) (fun k=>x.outs.length-k.1) ⟨0,Xh _⟩ (fun a w H=>H.weaken ⟨rfl,rfl,rfl,rfl,rfl,rfl,rfl,rfl,rfl,rfl,trivial⟩ ⟨rfl,rfl,rfl,rfl,trivial⟩) ?_;rintro ⟨k,hk⟩;dsimp only;refine Zf ?_;(refine xL 67 ZR ?_;refine Ze ?_)
 refine cX ?_ ?_<;>intro hb67
 · first|exact bN hb67|(
 obtain ⟨y,hy⟩:=Zw (show k<x.outs.length by omega);have g1:=Y2 (f:=Zc) (Pr (f:=Yg p) hy);have g2:=SG (Yg p) x.outs k;(have g3:((Wt (Yg p) x.outs k).map Zc).length=x.outs.length:=by rw [Xe,g2]);have hset:=Ch (f:=Yg p) hy;have hyb:=h.outs x hxm y (Xd hy);refine Zf ?_;(refine xL 68 Za (xL 69 (Zt 601 Zs) ?_);refine yL 70 (Zi 601 Zo) fun v70 hv70=>?_;cases hv70;refine xL 10 Zb (xL 11 Zb ?_);refine Ze ?_)
 (refine ZS (fun i=>([11]:List Nat).elem i) [6,600,601] kR ?_<;>refine xD 0 71 rfl (Zd 6 ZD) ?_<;>(refine yD 1 72 rfl (Zi 6 ZN) fun v72 h=>?_;cases h)<;>refine xD 2 73 rfl Za ?_<;>refine xD 3 74 rfl (Zt 600 ZI) ?_<;>refine xD 4 75 rfl (Zd 600 Yb) ?_<;>(refine yD 5 76 rfl (Zi 600 Zy) fun v76 h=>?_;cases h)<;>refine xD 6 77 rfl Za ?_<;>refine xD 7 78 rfl Za ?_<;>refine xE 8 79 rfl Za ?_<;>(refine Zl 9 kR ?_)<;>(refine Zj rfl fun w9 M9 N9 DQ back=>?_)<;>(refine cS 80 (Jb (f:=149) (ps:=[.sptr 0 [Zc p]]) rfl ⟨_,rfl⟩ (call149) rfl (Tm p y hyb)) fun v80 h=>?_;cases h)<;>refine Zh (back _ (nrm ?_))<;>refine xE 10 81 rfl (Zt 601 Zs) ?_<;>(refine Zl 11 kR ?_)<;>(refine WX rfl rfl kR fun DQ back=>?_)<;>(refine Y3 601 Zo W9 ?_ (hj:=by omega);refine Zp (ZF (l:=601) rfl (show PV.own 3 1 x.outs.length (((Wt (Yg p) x.outs k).map Zc).set (k*1) (Zc (Yg p y)))= .own 3 1 x.outs.length ((Wt (Yg p) x.outs (k+1)).map Zc) by rw [XF,←hset,List.map_set])) fun _=>?_)<;>refine Zh (back _ (nav ?_))<;>try dsimp only)
 (refine Zm ?_;refine xL 82 ZO (xL 66 Za ?_);refine Ze ?_)
 refine Zk (
  ⟨k+1,Zg hy⟩
  ) (by dsimp only;omega) ⟨rfl,rfl,rfl,rfl,rfl,rfl,rfl,rfl,rfl,rfl,trivial⟩ ⟨rfl,rfl,rfl,rfl,trivial⟩)
 · first|exact bN hb67|(
 obtain rfl:k=x.outs.length:=oM;refine Zz (ZF (l:=601) rfl (show PV.own 3 1 x.outs.length ((Wt (Yg p) x.outs x.outs.length).map Zc)=PV.own 3 1 (x.outs.map (Yg p)).length ((x.outs.map (Yg p)).map Zc) by rw [GU,Xe])) fun _=>?_;refine Zz (HK (l:=600) (l':=601) (j:=i*3+2) rfl e2 rfl rfl) fun _=>?_;refine Zz (ZF (l:=600) rfl (show PV.own 69 3 n.tr.length ((A++[ZZ x.lab,(PV.own 3 1 (x.ins.map (Yg p)).length ((x.ins.map (Yg p)).map Zc)), .val w2]++C).set (i*3+2) (PV.own 3 1 (x.outs.map (Yg p)).length ((x.outs.map (Yg p)).map Zc)))=PV.own 69 3 n.tr.length ((Wt (ζo p) n.tr (i+1)).flatMap cTo) by rw [GW hAl,hcut2])) fun _=>?_;refine Zf ?_;(refine xL 83 ZO (xL 32 Za ?_);refine Ze ?_)
 refine Zk (
  ⟨i+1,Zg hx⟩
  ) (by dsimp only;omega) ⟨rfl,rfl,rfl,rfl,rfl,rfl,trivial⟩ ⟨rfl,rfl,rfl,trivial⟩)))
 · first|exact bN hb33|(
 refine nav ?_;obtain rfl:i=n.tr.length:=oM;refine Zz (Wl (l:=6) (l':=600) (j:=1) rfl rfl rfl rfl) fun _=>?_;refine Zz (ZF (l:=6) rfl (show PV.own 29 4 1 [Zc (n.pl-1),share (PV.own 69 3 n.tr.length ((Wt (ζo p) n.tr n.tr.length).flatMap cTo)),Zc (Yg p n.src),Zc (Yg p n.snk)]= .own 29 4 1 (cNt (noP n p)) by rw [GU,Rm _ _ _ (by rw [Xe])];rfl)) fun _=>?_;(refine Zm ?_;refine yL 84 (Zq 6 Zr) fun v84 hv84=>?_;cases hv84;refine Zv 4 Zr ?_;refine Ze ?_)
 refine WL (k:=4) 4 kR (results109) rfl rfl (Xa rfl) dC rfl ?_;rfl)
theorem Lk:(prog.info? 46).map (·.size)=some 1:=by kernel_rfl
def TL (p:Int) (t:Tn):Tn:=⟨t.lab,t.ins.filter (· ≠p),t.outs.filter (· ≠p)⟩
theorem ZaI (n:Nt) (p:Int):SC n p=noP ⟨n.pl,n.tr.map (TL p),n.src,n.snk⟩ p:=by
 unfold SC noP noZ
 dsimp only
 rw [Vx];rfl
theorem NtF.rem {n:Nt} (h:NtF n) (p:Int):NtF ⟨n.pl,n.tr.map (TL p),n.src,n.snk⟩:=by
 have key:∀t∈n.tr.map (TL p),∃u∈n.tr,t=TL p u:=fun t ht=>by
  obtain ⟨u,hu,e⟩:=Xq.1 ht;exact ⟨u,hu,e.symm⟩
 refine ⟨by show (n.tr.map (TL p)).length≤_;rw [Xe];exact h.len,fun t ht=>?_,h.pl,h.src,h.snk,fun t ht x hx=>?_,fun t ht x hx=>?_⟩
 · obtain ⟨u,hu,rfl⟩:=key t ht;have:=h.fit u hu;exact ⟨XG (VS _ _) this.1,XG (VS _ _) this.2⟩
 · obtain ⟨u,hu,rfl⟩:=key t ht;exact h.ins u hu x ((Vj.1 hx).1)
 · obtain ⟨u,hu,rfl⟩:=key t ht;exact h.outs u hu x ((Vj.1 hx).1)
theorem Zd9 (p:Int) (l:List Int):(l.filter fun s=> !decide (s=p))=l.filter (· ≠p):=by
 congr 1
 funext s
 simp
theorem SI (p x:Int):AF prog 145 [Zc x, .sptr 0 [Zc p]] (· =ZV (decide (x=p))):=by
 refine AF.of_body 7 func145 rfl ntmps145 (Xa rfl) ?_
 intro w0 M0 vs hl hv
 obtain ⟨v0,v1,rfl⟩:=KG hl
 obtain rfl:=hv 0 _ _ rfl rfl
 clear hl hv
 refine Zf ?_
 (refine xL 3 Zb ?_;refine Zn ?_)
 (refine xL 4 Za ?_;refine yL 5 (Yy Zo) fun v5 hv5=>?_;cases hv5;refine xL 6 ZQ (xL 3 Zb ?_);refine Ze ?_)
 exact Zx results145 rfl rfl
set_option maxHeartbeats 4000000 in
theorem Ci (n:Nt) (p:Int) (h:NtF n):AF prog 104 [pNt n,Zc p] (· =pNt (SC n p)):=by
 have hlen:=h.len
 refine AF.of_body 42 func104 rfl ntmps104 (Xa rfl) ?_
 intro w0 M0 vs hl hv
 obtain ⟨v0,v1,rfl⟩:=KG hl
 obtain rfl:=hv 1 _ _ rfl rfl
 clear hl hv
 refine Zf ?_
 (refine Yv 2 4 fun h2=>?_;refine ζB 3 fun h3=>?_;refine ZA [(.int .i64 0),(.slice none 0 0),(.int .i64 0),(.int .i64 0)] 4 4 YC fun h4=>?_;refine Ze ?_)
 refine Zz (TW (l:=3) (t:=3) (j:=0) rfl VI rfl) fun _=>?_
 refine Zz (Yk (t:=3) (p':= .sptr 0 [Zc p]) rfl (by rw [Yf];rfl)) fun _=>?_
 (refine Zm ?_;refine yL 9 (Zq 2 Zr) fun v9 hv9=>?_;cases hv9;(refine ZT [2,4] 10 (call53) (Lj n _ h.len h.fit) (fun v10 p10 h10 hR10=>?_);obtain ⟨u,hu,rfl,rfl⟩:=hR10;have honeu:En.one (PV.val u)=true:=hu;refine ZL [(1000,_,_),(2,_,_),(4,_,_)] ⟨rfl,rfl,rfl,trivial⟩ ?_;refine Zp (Z0 (l:=1000) 600 rfl rfl) fun _=>?_);refine ZA [(.int .i64 0),(.slice none 0 0),(.int .i64 0),(.int .i64 0)] 4 5 YC fun h5=>?_;(refine Zv (ps:=[Zc n.pl, .val u,Zc n.src,Zc n.snk]) 5 Zr ?_ (h1:=by simp only [XH,XU,honeu];rfl));refine Zn ?_)
 (refine xL 11 Ty (xL 6 Zb ?_);refine Zn ?_)
 (refine xL 12 (Zd 5 ZD) ?_;refine yL 13 (Zi 5 ZN) fun v13 hv13=>?_;cases hv13;refine xL 14 (YV 600 ZI) (xL 15 Za ?_);refine Ze ?_)
 refine ZE (ι:={q:Nat//q≤n.tr.length}) (fun k=>⟨[(3,_,_),(4,_,_),(5,_,_),(6,_,_),(13,_,_),(14,_,_),(15, .int .i64 k.1,Zc k.1)],[(4,_,_),(5,h5, .own 29 4 1 [Zc n.pl, .val u,Zc n.src,Zc n.snk]),(600,u, .own 69 3 n.tr.length ((Wt (TL p) n.tr k.1).flatMap cTo))]⟩) (fun k=>n.tr.length-k.1) ⟨0,Xh _⟩ (fun a w H=>H.weaken ⟨rfl,rfl,rfl,rfl,rfl,rfl,rfl,trivial⟩ ⟨rfl,rfl,rfl,trivial⟩) ?_
 rintro ⟨i,hi⟩
 dsimp only
 refine Zf ?_
 (refine xL 16 ZR ?_;refine Ze ?_)
 refine cX ?_ ?_<;>intro hb16
 · first|exact bN hb16|(
 obtain ⟨x,hx⟩:=Zw (show i<n.tr.length by omega);have hxm:=Xd hx;have hxf:=h.fit x hxm;obtain ⟨A,hA⟩:∃A,A=((n.tr.take i).map (TL p)).flatMap cTo:=⟨_,rfl⟩;obtain ⟨C,hC⟩:∃C,C=(n.tr.drop (i+1)).flatMap cTo:=⟨_,rfl⟩;(have hAl:A.length=i*3:=by rw [hA,WR ZaG,Xe,Xl,XJ hi]);(have hcut:(Wt (TL p) n.tr i).flatMap cTo=(A++[ZZ x.lab,(PV.own 3 1 x.ins.length (x.ins.map Zc)),(PV.own 3 1 x.outs.length (x.outs.map Zc))]++C):=by rw [SH _ hx,Xt,Xt,X1,hA,hC];rfl);(have hcut2:(Wt (TL p) n.tr (i+1)).flatMap cTo=(A++[ZZ x.lab,(PV.own 3 1 (x.ins.filter (· ≠p)).length ((x.ins.filter (· ≠p)).map Zc)),(PV.own 3 1 (x.outs.filter (· ≠p)).length ((x.outs.filter (· ≠p)).map Zc))]++C):=by rw [Tl _ hx,Xt,Xt,X1,hA,hC];rfl);refine Zz (ZF (l:=600) (p':=PV.own 69 3 n.tr.length (A++[ZZ x.lab,(PV.own 3 1 x.ins.length (x.ins.map Zc)),(PV.own 3 1 x.outs.length (x.outs.map Zc))]++C)) rfl (by rw [hcut])) fun _=>?_;refine Zz (SS (l:=600) (l':=601) (j:=i*3+1) rfl (Ps hAl) rfl rfl) fun v601=>?_;obtain ⟨w,hw⟩:=v601;dsimp only;refine Zz (ZF (l:=600) rfl (show PV.own 69 3 n.tr.length ((A++[ZZ x.lab,(PV.own 3 1 x.ins.length (x.ins.map Zc)),(PV.own 3 1 x.outs.length (x.outs.map Zc))]++C).set (i*3+1) (.val w))=PV.own 69 3 n.tr.length (A++[ZZ x.lab, .val w,(PV.own 3 1 x.outs.length (x.outs.map Zc))]++C) by rw [GV hAl])) fun _=>?_;refine Zz (SS (l:=600) (l':=602) (j:=i*3+2) rfl (Pt hAl) rfl rfl) fun v602=>?_;obtain ⟨w2,hw2⟩:=v602;dsimp only;refine Zz (ZF (l:=600) rfl (show PV.own 69 3 n.tr.length ((A++[ZZ x.lab,PV.val w,(PV.own 3 1 x.outs.length (x.outs.map Zc))]++C).set (i*3+2) (.val w2))=PV.own 69 3 n.tr.length (A++[ZZ x.lab, .val w, .val w2]++C) by rw [GW hAl])) fun _=>?_;have honew:En.one (PV.val w)=true:=hw;have honew2:En.one (PV.val w2)=true:=hw2;have e1:((A++[ZZ x.lab,PV.val w,PV.val w2]++C).drop (i*3)).take 3=[ZZ x.lab,PV.val w,PV.val w2]:=Zd8 hAl;have e2:i*3+3≤(A++[ZZ x.lab,PV.val w,PV.val w2]++C).length:=ZaH hAl;refine Zf ?_;(refine xL 17 Za (xL 18 (Zt 600 ZI) ?_);refine yL 19 (Zq 600 Z9) fun v19 hv19=>?_;cases hv19;refine ZA [(.string ByteArray.empty),(.slice none 0 0),(.slice none 0 0)] 3 8 Wb fun h8=>?_;refine xL 7 Zb ?_;(refine Zv (ps:=[ZZ x.lab, .val w, .val w2]) 8 Z9 ?_ (h1:=by simp only [XH,XU,honew,honew2];rfl));refine Ze ?_)
 (refine ZS (fun i=>([]:List Nat).elem i) [5,8] kR ?_<;>refine xD 0 20 rfl (Zd 5 ZD) ?_<;>(refine yD 1 21 rfl (Zi 5 ZN) fun v21 h=>?_;cases h)<;>refine xD 2 22 rfl Za ?_<;>refine xD 3 23 rfl (Zd 5 ZD) ?_<;>(refine yD 4 24 rfl (Zi 5 ZN) fun v24 h=>?_;cases h)<;>refine xD 5 25 rfl Za ?_<;>refine xD 6 26 rfl (Zd 8 Yi) ?_<;>(refine yD 7 27 rfl (Zi 8 Zy) fun v27 h=>?_;cases h)<;>refine xD 8 28 rfl Za ?_<;>refine xD 10 30 rfl (Zd 8 Yb) ?_<;>(refine yD 11 31 rfl (Zi 8 Zy) fun v31 h=>?_;cases h)<;>refine xD 12 32 rfl Za ?_<;>(refine Zl 9 kR ?_)<;>(refine Zj rfl fun w9 M9 N9 DQ back=>?_)<;>(refine Zp (Z0 (l:=601) 1000 rfl rfl) fun _=>?_;refine ZL [(1000,_,_),(4,_,_),(600,_,_),(602,_,_)] ⟨rfl,rfl,rfl,rfl,trivial⟩ ?_;refine ZT [4,600,602] 29 (call146) (Cf 145 [.sptr 0 [Zc p]] (fun y=>decide (y=p)) x.ins oM w _ (call145) (fun s _=>SI p s)) ?_;rintro v29 _ _ ⟨rfl,rfl⟩;rw [Zd9];refine Zd7 (l:=1000) rfl fun ho29=>?_;have hone29:En.one (PV.val v29)=true:=ho29;refine Zp (Z0 (l:=1000) 601 rfl rfl) fun _=>?_)<;>refine Zh (back _ (nrm ?_))<;>(refine Zl 13 kR ?_)<;>(refine Zj rfl fun w9 M9 N9 DQ back=>?_)<;>(refine Zp (Z0 (l:=602) 1000 rfl rfl) fun _=>?_;refine ZL [(1000,_,_),(4,_,_),(600,_,_),(601,_,_)] ⟨rfl,rfl,rfl,rfl,trivial⟩ ?_;refine ZT [4,600,601] 33 (call146) (Cf 145 [.sptr 0 [Zc p]] (fun y=>decide (y=p)) x.outs oM w2 _ (call145) (fun s _=>SI p s)) ?_;rintro v33 _ _ ⟨rfl,rfl⟩;rw [Zd9];refine Zd7 (l:=1000) rfl fun ho33=>?_;have hone33:En.one (PV.val v33)=true:=ho33;refine Zp (Z0 (l:=1000) 602 rfl rfl) fun _=>?_)<;>refine Zh (back _ (nrm ?_))<;>(refine Zl 14 kR ?_)<;>(refine Zj rfl fun w9 M9 N9 DQ back=>?_)<;>refine xL 34 (Zt 600 ZI) ?_<;>refine Zh (back _ (nrm ?_))<;>(refine Zl 15 kR ?_)<;>(refine Zj rfl fun w9 M9 N9 DQ back=>?_)<;>refine xL 35 (Zd 600 Yi) ?_<;>refine Zh (back _ (nrm ?_))<;>(refine Zl 16 kR ?_)<;>(refine Zj rfl fun w9 M9 N9 DQ back=>?_)<;>(refine Y3 600 Zy Lk ?_ (hj:=by omega);refine Zp (ZF (l:=600) rfl (show PV.own 69 3 n.tr.length ((A++[ZZ x.lab,PV.val w,PV.val w2]++C).set (i*3+1) (.val v29))=PV.own 69 3 n.tr.length (A++[ZZ x.lab, .val v29, .val w2]++C) by rw [GV hAl])) fun _=>?_)<;>refine Zh (back _ (nrm ?_))<;>(refine Zl 17 kR ?_)<;>(refine Zj rfl fun w9 M9 N9 DQ back=>?_)<;>refine xL 36 (Zt 600 ZI) ?_<;>refine Zh (back _ (nrm ?_))<;>(refine Zl 18 kR ?_)<;>(refine Zj rfl fun w9 M9 N9 DQ back=>?_)<;>refine xL 37 (Zd 600 Yb) ?_<;>refine Zh (back _ (nrm ?_))<;>(refine Zl 19 kR ?_)<;>(refine Zj rfl fun w9 M9 N9 DQ back=>?_)<;>(refine Y3 600 Zy Lk ?_ (hj:=by have:=ZaH (C:=C) (a:=ZZ x.lab) (b:=PV.val v29) (c:=PV.val w2) hAl;omega);refine Zp (ZF (l:=600) rfl (show PV.own 69 3 n.tr.length ((A++[ZZ x.lab,PV.val v29,PV.val w2]++C).set (i*3+2) (.val v33))=PV.own 69 3 n.tr.length (A++[ZZ x.lab, .val v29, .val v33]++C) by rw [GW hAl])) fun _=>?_)<;>refine Zh (back _ (nrm ?_))<;>refine Yu kR (nav ?_)<;>try dsimp only)
 have e3:(A++[ZZ x.lab,PV.val v29,PV.val v33]++C)[i*3+1]? =some (.val v29):=Ps hAl;refine Zz (HK (l:=600) (l':=601) (j:=i*3+1) rfl e3 rfl rfl) fun _=>?_;refine Zz (ZF (l:=600) rfl (show PV.own 69 3 n.tr.length ((A++[ZZ x.lab,PV.val v29,PV.val v33]++C).set (i*3+1) (PV.own 3 1 (x.ins.filter (· ≠p)).length ((x.ins.filter (· ≠p)).map Zc)))=PV.own 69 3 n.tr.length (A++[ZZ x.lab,(PV.own 3 1 (x.ins.filter (· ≠p)).length ((x.ins.filter (· ≠p)).map Zc)),PV.val v33]++C) by rw [GV hAl])) fun _=>?_;have e4:(A++[ZZ x.lab,(PV.own 3 1 (x.ins.filter (· ≠p)).length ((x.ins.filter (· ≠p)).map Zc)),PV.val v33]++C)[i*3+2]? =some (.val v33):=Pt hAl;refine Zz (HK (l:=600) (l':=602) (j:=i*3+2) rfl e4 rfl rfl) fun _=>?_;refine Zz (ZF (l:=600) rfl (show PV.own 69 3 n.tr.length ((A++[ZZ x.lab,(PV.own 3 1 (x.ins.filter (· ≠p)).length ((x.ins.filter (· ≠p)).map Zc)),PV.val v33]++C).set (i*3+2) (PV.own 3 1 (x.outs.filter (· ≠p)).length ((x.outs.filter (· ≠p)).map Zc)))=PV.own 69 3 n.tr.length ((Wt (TL p) n.tr (i+1)).flatMap cTo) by rw [GW hAl,hcut2])) fun _=>?_;(refine Zm ?_;refine xL 38 ZO (xL 15 Za ?_);refine Ze ?_)
 refine Zk (
  ⟨i+1,Zg hx⟩
  ) (by dsimp only;omega) ⟨rfl,rfl,rfl,rfl,rfl,rfl,rfl,trivial⟩ ⟨rfl,rfl,rfl,trivial⟩)
 · first|exact bN hb16|(
 refine nav ?_;obtain rfl:i=n.tr.length:=oM;refine Zz (Wl (l:=5) (l':=600) (j:=1) rfl rfl rfl rfl) fun _=>?_;refine Zz (ZF (l:=5) rfl (show PV.own 29 4 1 [Zc n.pl,share (PV.own 69 3 n.tr.length ((Wt (TL p) n.tr n.tr.length).flatMap cTo)),Zc n.src,Zc n.snk]= .own 29 4 1 (cNt ⟨n.pl,n.tr.map (TL p),n.src,n.snk⟩) by rw [GU,Rm _ _ _ (by rw [Xe])];rfl)) fun _=>?_;(refine Zm ?_;refine yL 39 (Zq 5 Zr) fun v39 hv39=>?_;cases hv39;refine yL 40 (Yy Zo) fun v40 hv40=>?_;cases hv40;refine cD 41 (cA call109 (Gw ⟨n.pl,n.tr.map (TL p),n.src,n.snk⟩ p (h.rem p))) fun v41 hv41=>?_;clear hv41;refine Zv 4 Zr ?_;refine Ze ?_)
 refine WL (k:=4) 4 kR (results104) rfl rfl (Xa rfl) dC rfl ?_;rw [ZaI];rfl)
theorem HG {n:Int} {l:List Int} (h:l.length=1):∃x,l=[x]:=by
 match l,h with
 |[x],_=>exact ⟨x,rfl⟩
theorem OZ (f:Nat) (caps:List PV) (p:Tn→Bool) (l:List Tn) (hc:∀args w,(callFunc f args).run prog w= .ok (.enter f args) w) (hf:∀s∈l,AF prog f (.agg (cTn s)::caps) (· =ZV (p s))):AF prog 84 [JS l, .fn f caps] (· =Zc (idx p l)):=by
 refine AF.of_body 19 func84 rfl ntmps84 (Xa rfl) ?_
 intro w0 M0 vs hl hv
 obtain ⟨v0,v1,rfl⟩:=KG hl
 clear hl hv
 refine Jr 0 rfl fun hlen=>?_
 refine Zf ?_
 (refine xL 4 Zb ?_;refine Zn ?_)
 (refine xL 6 Za (xL 7 (Z1 ZI) (xL 8 Za ?_));refine Ze ?_)
 refine ZE (ι:={k:Nat//k≤l.length∧∀i y,i<k→l[i]? =some y→p y=false}) (fun k=>⟨[(0,_,_),(1,_,_),(7,_,_),(8, .int .i64 k.1,Zc k.1)],[]⟩) (fun k=>l.length-k.1) ⟨0,oM,oM⟩ (fun a w H=>H.weaken ⟨rfl,rfl,rfl,rfl,trivial⟩ trivial) ?_
 rintro ⟨k,hk,hp⟩
 dsimp only
 refine Zf ?_
 (refine xL 9 ZR ?_;refine Ze ?_)
 refine cX ?_ ?_<;>intro hb9
 · first |exact bN hb9|(
 obtain ⟨x,hx⟩:=Zw (show k<l.length by omega);have e1:=Z' Yr l k x hx;have e2:=Yp Yr hx;refine Zf ?_;(refine xL 10 Za (xL 5 Zb ?_);refine Zn ?_)
 (refine xL 11 Za (xL 12 Za (xL 13 Za (xL 14 (ZP ZI) ?_)));refine yL 15 (Yz Z9) fun v15 hv15=>?_;cases hv15;refine cS 16 (Jb (f:=f) (ps:=caps) rfl ⟨_,rfl⟩ hc rfl (hf x (Xd hx))) fun v16 hv16=>?_;cases hv16;refine Ze ?_)
 refine cX ?_ ?_<;>intro hb16
 · first|exact bN hb16|(
 refine Zf ?_;(refine xL 17 Za (xL 4 Zb ?_);refine Ze ?_)
 refine Zx (results84) rfl ?_;rw [TM hp hx hb16])
 · first|exact bN hb16|(
 refine Zf ?_;(refine xL 18 ZO (xL 8 Za ?_);refine Ze ?_)
 refine Zk (
  ⟨k+1,oM,fun i y hi hy=>by
   by_cases e:i=k
   · subst e;rw [hx] at hy;cases hy;exact hb16
   · exact hp i y oM hy⟩
  ) (by dsimp only;omega) ⟨rfl,rfl,rfl,rfl,trivial⟩ trivial))
 · first|exact bN hb9|(
 refine Zf ?_;(refine xL 4 Zb ?_;refine Ze ?_)
 refine Zx (results84) rfl ?_;rw [TN fun i y hi hy=>hp i y oM hy])
theorem GX (f:Nat) (caps:List PV) (p:Tn→Bool) (l:List Tn) (hc:∀args w,(callFunc f args).run prog w= .ok (.enter f args) w) (hf:∀s∈l,AF prog f (.agg (cTn s)::caps) (· =ZV (p s))):AF prog 39 [JS l, .fn f caps] (· =ZV (l.any p)):=by
 refine AF.of_body 9 func39 rfl ntmps39 (Xa rfl) ?_
 intro w0 M0 vs hl hv
 obtain ⟨v0,v1,rfl⟩:=KG hl
 clear hl hv
 refine Zf ?_
 (refine xL 4 Zb ?_;refine Zn ?_)
 (refine xL 5 Za (xL 6 Za ?_);refine cS 7 (cA call84 (OZ f caps p l hc hf)) fun v7 hv7=>?_;cases hv7;refine xL 8 WE (xL 4 Zb ?_);refine Ze ?_)
 refine Zx (results39) rfl ?_
 rw [R1]
theorem ζp (t:Tn) (a b:Int):AF prog 144 [.agg (cTn t), .sptr 0 [Zc a], .sptr 0 [Zc b]] (· =ZV (!ζk a b t)):=by
 have e0:cTn t=[ZZ t.lab,pInts t.ins,pInts t.outs]:=rfl
 refine AF.of_body 25 func144 rfl ntmps144 (Xa rfl) ?_
 intro w0 M0 vs hl hv
 obtain ⟨v0,v1,v2,rfl⟩:=OM hl
 clear hl hv
 refine Zf ?_
 (refine Yv 3 3 fun h3=>?_;refine xL 4 Zb ?_;refine Ze ?_)
 (refine ZS (fun i=>([]:List Nat).elem i) [3] kR ?_<;>refine xD 0 5 rfl (Zd 3 Yi) ?_<;>(refine yD 1 6 rfl (Zi 3 Zy) fun v6 h=>?_;cases h)<;>(refine yD 2 7 rfl (Yy Zo) fun v7 h=>?_;cases h)<;>refine xD 4 9 rfl (Zd 3 Yi) ?_<;>(refine yD 5 10 rfl (Zi 3 Zy) fun v10 h=>?_;cases h)<;>(refine yD 6 11 rfl (Yy Zo) fun v11 h=>?_;cases h)<;>(refine Zl 3 kR ?_)<;>(refine Zj rfl fun w9 M9 N9 DQ back=>?_)<;>(refine cS 8 (cA call86 (YG t.ins a)) fun v8 h=>?_;cases h)<;>refine Zh (back _ (nrm ?_))<;>(refine Zl 7 kR ?_)<;>(refine Zj rfl fun w9 M9 N9 DQ back=>?_)<;>(refine cS 12 (cA call86 (YG t.ins b)) fun v12 h=>?_;cases h)<;>refine Zh (back _ (nrm ?_))<;>refine xE 8 13 rfl (Zcq underlying4) ?_<;>refine xE 9 14 rfl Za ?_<;>(refine bD 14 (fun hb14=>?_) (fun hb14=>?_)<;>(first|refine kD 10 15 rfl ?_|refine xD 10 15 rfl (Zd 3 Yb) ?_))<;>(first|refine kD 11 16 rfl ?_|(refine yD 11 16 rfl (Zi 3 Zy) fun v16 h=>?_;cases h))<;>(first|refine kD 12 17 rfl ?_|(refine yD 12 17 rfl (Yy Zo) fun v17 h=>?_;cases h))<;>(first|refine kD 14 19 rfl ?_|refine xD 14 19 rfl (Zd 3 Yb) ?_)<;>(first|refine kD 15 20 rfl ?_|(refine yD 15 20 rfl (Zi 3 Zy) fun v20 h=>?_;cases h))<;>(first|refine kD 16 21 rfl ?_|(refine yD 16 21 rfl (Yy Zo) fun v21 h=>?_;cases h))<;>(refine Zl 13 kR ?_)<;>(refine Zj rfl fun w9 M9 N9 DQ back=>?_)<;>(first|refine kL 18 ?_|(refine cS 18 (cA call86 (YG t.outs a)) fun v18 h=>?_;cases h))<;>refine Zh (back _ (nrm ?_))<;>(refine Zl 17 kR ?_)<;>(refine Zj rfl fun w9 M9 N9 DQ back=>?_)<;>(first|refine kL 22 ?_|(refine cS 22 (cA call86 (YG t.outs b)) fun v22 h=>?_;cases h))<;>refine Zh (back _ (nrm ?_))<;>(first|refine kD 18 23 rfl ?_|refine xD 18 23 rfl (Zcq underlying4) ?_)<;>refine xE 19 24 rfl Zu ?_<;>refine xE 20 4 rfl Zb ?_<;>refine Yu kR (nav ?_)<;>try dsimp only)<;>(
 refine Zx (results144) rfl ?_;unfold ζk
 first
  |(rw [show (t.ins.contains a==t.ins.contains b)=false by simpa using hb14];rfl)
  |(rw [show (t.ins.contains a==t.ins.contains b)=true by simpa using hb14];rfl))
theorem Zga {l:List Tn} {p:Tn→Bool}:(!(l.any fun t=> !p t))=l.all p:=by
 rw [List.any_eq_not_all_not];simp
theorem Zb8 (n:Nt) (a b:Int):AF prog 103 [pNt n,Zc a,Zc b] (· =ZV (n.tr.all (ζk a b))):=by
 refine AF.of_body 12 func103 rfl ntmps103 (Xa rfl) ?_
 intro w0 M0 vs hl hv
 obtain ⟨v0,v1,v2,rfl⟩:=OM hl
 obtain rfl:=hv 1 _ _ rfl rfl
 obtain rfl:=hv 2 _ _ rfl rfl
 clear hl hv
 refine Zf ?_
 (refine Yv 3 4 fun h3=>?_;refine ζB 4 fun h4=>?_;refine ζB 5 fun h5=>?_;refine xL 6 Zb ?_;refine Zn ?_)
 (refine xL 7 (Zd 3 ZD) ?_;refine yL 8 (Zi 3 ZN) fun v8 hv8=>?_;cases hv8;refine xL 9 Ty ?_;refine cS 10 (cB rfl (call39) (GX 144 [.sptr 0 [Zc a], .sptr 0 [Zc b]] (fun t=> !ζk a b t) n.tr (call144) (fun t _=>ζp t a b)) ⟨⟨_,_,rfl,Tv (x:= .tmp 8) rfl⟩,⟨_,_,rfl,Za6 (l1:=4) (l2:=5) rfl rfl rfl rfl⟩,trivial⟩) fun v10 hv10=>?_;cases hv10;refine xL 11 Ym (xL 6 Zb ?_);refine Ze ?_)
 refine Zx (results103) rfl ?_
 rw [Zga]
def Gx (t:Tn):Int×Int×Bool:=if t.lab=ByteArray.empty∧t.ins.length=1∧t.outs.length=1 then (t.ins.headD 0,t.outs.headD 0,true) else (0,0,false)
theorem ζq (n:Nt) (a:Nat) (t:Tn) (ht:n.tr[a]? =some t):AF prog 105 [pNt n,Zc a] (· = .tup [Zc (Gx t).1,Zc (Gx t).2.1,ZV (Gx t).2.2]):=by
 have e1:=Z' Yr n.tr a t ht
 have e2:=Yp Yr ht
 have hlt:=Zg ht
 refine AF.of_body 36 func105 rfl ntmps105 (Xa rfl) ?_
 intro w0 M0 vs hl hv
 obtain ⟨v0,v1,rfl⟩:=KG hl
 obtain rfl:=hv 1 _ _ rfl rfl
 clear hl hv
 refine Zf ?_
 (refine Yv 2 4 fun h2=>?_;refine xL 4 Zb (xL 5 Zb (xL 6 Zb ?_));refine Zn ?_)
 (refine xL 8 (Zd 2 ZD) ?_;refine yL 9 (Zi 2 ZN) fun v9 hv9=>?_;cases hv9;refine xL 10 Za (xL 11 (ZP ZI) ?_);refine yL 12 (Yz Z9) fun v12 hv12=>?_;cases hv12;refine ZA [(.string ByteArray.empty),(.slice none 0 0),(.slice none 0 0)] 3 7 Wb fun h7=>?_;refine Zv 7 Z9 ?_;refine Zn ?_)
 (refine xL 13 (Zd 7 Y7) ?_<;>(refine yL 14 (Zi 7 WC) fun v14 h=>?_;cases h)<;>refine xL 15 Lv (xL 16 Za ?_)<;>(refine bL 16 (fun hb16=>?_) (fun hb16=>?_)<;>(first|refine kL 17 ?_|refine xL 17 (Zd 7 Yi) ?_))<;>(first|refine kL 18 ?_|(refine yL 18 (Zi 7 Zy) fun v18 h=>?_;cases h))<;>(first|refine kL 19 ?_|refine xL 19 (Z1 Zs) ?_)<;>(first|refine kL 20 ?_|refine xL 20 YN ?_)<;>refine xL 21 Zu (xL 22 Za ?_)<;>(first|refine kL 23 ?_|(refine bLd 22 (fun hb22=>?_) (fun hb22=>?_)<;>(first|refine kL 23 ?_|refine xL 23 (Zd 7 Yb) ?_)))<;>(first|refine kL 24 ?_|(refine yL 24 (Zi 7 Zy) fun v24 h=>?_;cases h))<;>(first|refine kL 25 ?_|refine xL 25 (Z1 Zs) ?_)<;>(first|refine kL 26 ?_|refine xL 26 YN ?_)<;>refine xL 27 Zu ?_<;>refine Ze ?_)<;>(
 refine cX ?_ ?_<;>intro hb27
 · first|exact bN hb27|(
 refine Zf ?_;(refine xL 4 Zb (xL 5 Zb (xL 6 Zb ?_));refine Ze ?_)
 refine ζP (results105) rfl rfl rfl ?_;have hno:¬(t.lab=ByteArray.empty∧t.ins.length=1∧t.outs.length=1):=by
  rintro ⟨g1,g2,g3⟩
  first
   |omega
   |(rw [Js,g1] at hb16;simp at hb16;done)
 rw [show Gx t=(0,0,false) from Uo hno])
 · first|exact bN hb27|(
 refine nav ?_;obtain ⟨p,hp⟩:=HG (n:=0) (show t.ins.length=1 by omega);obtain ⟨q,hq⟩:=HG (n:=0) (show t.outs.length=1 by omega);have e3:(t.ins.map Zc)[0*1]? =some (Zc p):=(congrArg (fun c:List Int=>(c.map Zc)[0*1]?) hp).trans rfl;have e4:(t.outs.map Zc)[0*1]? =some (Zc q):=(congrArg (fun c:List Int=>(c.map Zc)[0*1]?) hq).trans rfl;(have hl:t.lab=ByteArray.empty:=by rw [Js] at hb16;simpa using hb16);(have hs:Gx t=(p,q,true):=by unfold Gx;rw [Up ⟨hl,oM,oM⟩,hp,hq];rfl);(refine ZS (fun i=>([]:List Nat).elem i) [7] kR ?_<;>refine xD 0 28 rfl (Zd 7 Yi) ?_<;>(refine yD 1 29 rfl (Zi 7 Zy) fun v29 h=>?_;cases h)<;>refine xD 2 30 rfl (ZP Zs) ?_<;>(refine yD 3 31 rfl (Yy Zo) fun v31 h=>?_;cases h)<;>refine xD 4 32 rfl (Zd 7 Yb) ?_<;>(refine yD 5 33 rfl (Zi 7 Zy) fun v33 h=>?_;cases h)<;>refine xD 6 34 rfl (ZP Zs) ?_<;>(refine yD 7 35 rfl (Yy Zo) fun v35 h=>?_;cases h)<;>refine xE 8 4 rfl Zb ?_<;>refine xE 9 5 rfl Zb ?_<;>refine xE 10 6 rfl Zb ?_<;>refine Yu kR (nav ?_)<;>try dsimp only)
 refine ζP (results105) rfl rfl rfl ?_;rw [hs]))
structure RdN (n:Nt):Prop where
 ok:ntOk n=true
 src:∀t∈n.tr,n.src∉t.outs
 snk:∀t∈n.tr,n.snk∉t.ins
theorem DG {n:Int} {l:List Int} (h:KR n l=true):l.Pairwise (· < ·):=by
 have aux:∀{l:List Int},Ko ltZ l=true→l.Pairwise (· < ·):=by
  intro l;induction l with
  |nil=>exact fun _=>List.Pairwise.nil
  | cons x l ih=>
    intro h
    cases l with
    |nil=>exact VE ..
    | cons y l=>
      rw [Ko,Xf] at h;have ih:=ih h.2;have hxy:x<y:=Ur h.1;refine XQ.2 ⟨fun z hz=>?_,ih⟩;rcases Xn.1 hz with rfl|hz
      · exact hxy
      · have:=(XQ.1 ih).1 z hz;omega
 unfold KR at h
 rw [Xf] at h
 exact aux h.2
theorem Cj:∀{l:List Int},l.Pairwise (· < ·)→Ko ltZ l=true
 |[],_=>rfl
 |[x],_=>rfl
 | x::y::l,h=>by
   obtain ⟨h1,h2⟩:=XQ.1 h;rw [Ko,Xf];exact ⟨Um (h1 y (XD ..)),Cj h2⟩
theorem ZgE {n:Int} {l:List Int} (h1:∀x∈l,0≤x∧x<n) (h2:l.Pairwise (· < ·)):KR n l=true:=by
 unfold KR
 rw [Xf,Xj]
 exact ⟨fun x hx=>by simp [h1 x hx],Cj h2⟩
theorem ZaJ {n:Int} {l:List Int} (h:KR n l=true):l.length≤n.toNat:=by
 have:=Pn n l 0 (fun x hx=>Ou h hx) (DG h)
 simpa using this
theorem SJ {n:Nt} (h:ntOk n=true) {t:Tn} (ht:t∈n.tr):GN n.pl t=true:=by
 unfold ntOk at h
 simp only [Xf,Xj] at h
 exact h.2 t ht
theorem KS {n:Nt} (h:ntOk n=true):(1≤n.pl∧n.pl≤40∧n.tr.length≤60)∧(0≤n.src∧n.src<n.pl)∧0≤n.snk∧n.snk<n.pl:=by
 unfold ntOk inB at h
 simp only [Xf,Ul] at h
 obtain ⟨⟨⟨⟨⟨h1,h2⟩,h3⟩,h4⟩,h5⟩,h6⟩:=h
 exact ⟨⟨h1,h2,h3⟩,h4,h5⟩
theorem RdN.fit {n:Nt} (h:RdN n):NtF n:=by
 have hr:=KS h.ok
 have hin:=fun t ht=>E6 h.ok (t:=t) ht
 refine ⟨oM,fun t ht=>?_,oM,oM,oM,fun t ht x hx=>?_,fun t ht x hx=>?_⟩
 · have:=SJ h.ok ht;unfold GN at this;simp only [Xf] at this;have h1:=ZaJ this.1.2;have h2:=ZaJ this.2;omega
 · have:=(hin t ht).1 x hx;omega
 · have:=(hin t ht).2 x hx;omega
def apJ (n:Nt) (r:Int) (a:Nat):Nt:=match n.tr[a]? with
 |some t=>if r≠1∧r≠2∧r≠3∧r≠4∧(Gx t).2.2=true then OY n a else n
 |none=>n
def apX (n:Nt) (r:Int) (a b:Nat):Nt×Bool:=match Ka n r a b with
 |some m=>(m,true)
 |none=>(apJ n r a,false)
theorem LX {n m:Nt} {r:Int} {a b:Nat} (h:Ka n r a b=some m):apX n r a b=(m,true):=by unfold apX;rw [h]
theorem SK {n:Nt} {r:Int} {a b:Nat} (h:Ka n r a b=none) (hr:r=1∨r=2∨r=3∨r=4):apX n r a b=(n,false):=by
 unfold apX apJ
 rw [h]
 dsimp only
 split
 · rw [Uo oM]
 · rfl
theorem Zb9 {n:Nt} {r:Int} {a b:Nat} {t:Tn} (h:Ka n r a b=none) (ht:n.tr[a]? =some t) (hs:(Gx t).2.2=false):apX n r a b=(n,false):=by
 unfold apX apJ
 rw [h,ht]
 dsimp only
 rw [Uo (by rw [hs];simp)]
theorem Zea {n:Nt} {r:Int} {a b:Nat} {t:Tn} (h:Ka n r a b=none) (ht:n.tr[a]? =some t) (hs:(Gx t).2.2=true) (hr:r≠1∧r≠2∧r≠3∧r≠4):apX n r a b=(OY n a,false):=by
 unfold apX apJ
 rw [h,ht]
 dsimp only
 rw [Up ⟨hr.1,hr.2.1,hr.2.2.1,hr.2.2.2,hs⟩]
theorem Zeb {n:Nt} {a b:Nat} {t u:Tn} (ht:n.tr[a]? =some t) (hu:n.tr[b]? =some u):Ka n 1 a b=if a<b∧Dz t u=true then some (OY n b) else none:=by
 unfold Ka
 rw [Up rfl,ht,hu]
theorem Zec (n:Nt) (a b:Nat):Ka n 2 a b=if a<b∧(a:Int)≠n.src∧(a:Int)≠n.snk∧(b:Int)≠n.src∧(b:Int)≠n.snk∧n.tr.all (ζk a b)=true then some (SC n b) else none:=by
 unfold Ka
 rw [Uo dC,Up rfl]
theorem OI {n:Nt} {r:Int} {a b:Nat} {t:Tn} (ht:n.tr[a]? =some t) (h1:r≠1) (h2:r≠2) (hs:(Gx t).2.2=false):Ka n r a b=none:=by
 unfold Ka
 rw [Uo h1,Uo h2,ht]
 dsimp only
 split
 · rename_i p q hp hq;split
   · rfl
   · rename_i hl;exfalso;unfold Gx at hs;rw [Up ⟨Classical.byContradiction fun h=>hl h,by rw [hp];rfl,by rw [hq];rfl⟩] at hs
     cases hs
 · rfl
theorem ZaK {t:Tn} (h:(Gx t).2.2=true):t.lab=ByteArray.empty∧t.ins=[(Gx t).1]∧t.outs=[(Gx t).2.1]:=by
 unfold Gx at h ⊢
 split at h
 · rename_i hc;rw [Up hc];obtain ⟨p,hp⟩:=HG (n:=0) hc.2.1;obtain ⟨q,hq⟩:=HG (n:=0) hc.2.2;refine ⟨hc.1,?_,?_⟩
   · rw [hp];rfl
   · rw [hq];rfl
 · cases h
theorem Ck {n:Nt} {r:Int} {a b:Nat} {t:Tn} {p q:Int} (ht:n.tr[a]? =some t) (h1:r≠1) (h2:r≠2) (hl:t.lab=ByteArray.empty) (hp:t.ins=[p]) (hq:t.outs=[q]):Ka n r a b=
 if r=3 then (if p≠q∧p≠n.src∧Ri n p false=1∧n.tr.all (fun t=> !(t.outs.contains p&&t.outs.contains q))=true then some (SC ⟨n.pl,(n.tr.eraseIdx a).map fun t=>⟨t.lab,t.ins,Gb p q t.outs⟩,n.src,n.snk⟩ p) else none)
 else if r=4 then (if p=n.src∧q≠n.snk∧Ri n p false=1∧Ri n q true=1 then some (SC ⟨n.pl,(n.tr.eraseIdx a).map fun t=>⟨t.lab,Gb q p t.ins,t.outs⟩,n.src,n.snk⟩ q) else none)
 else if p=q then some (OY n a) else none:=by
 unfold Ka
 rw [Uo h1,Uo h2,ht]
 dsimp only
 rw [hp,hq]
 dsimp only
 rw [Uo (fun h=>h hl)]
theorem Rn {f:Tn→Bool}:∀{l:List Tn} {a:Nat} {t:Tn},(l.filter f).length=1→l[a]? =some t→f t=true→∀u∈l.eraseIdx a,f u=false
 |[],a,t,_,h,_,u,hu=>by simp at h
 | x ::l,0,t,h1,h,ht,u,hu=>by
   simp only [Vq,Option.some.injEq] at h;subst h;rw [List.eraseIdx_cons_zero] at hu;rw [List.filter_cons,Up ht,Xc] at h1;have h2:l.filter f=[]:=XK oM
   cases hf:f u with
   |false=>rfl
   | true=>
     have:u∈l.filter f:=Vj.2 ⟨hu,hf⟩;rw [h2] at this;cases this
 | x ::l,a+1,t,h1,h,ht,u,hu=>by
   have h:l[a]? =some t:=by simpa using h
   have hm:t∈l.filter f:=Vj.2 ⟨Xd h,ht⟩;have hpos:=List.length_pos_of_mem hm;rw [List.filter_cons] at h1;rw [List.eraseIdx_cons_succ] at hu
   cases hx:f x with
   | true=>
     rw [hx,Up rfl,Xc] at h1;omega
   | false=>
     rw [hx,Uo dC] at h1;rcases Xn.1 hu with rfl|hu
     · exact hx
     · exact Rn h1 h ht u hu
theorem OJ {p:Int} {l:List Int} (h:p∉l):l.filter (· ≠p)=l:=List.filter_eq_self.2 fun x hx=>by
 have:x≠p:=fun e=>h (e▸hx)
 simpa using this
theorem Zed {n:Nt} {p:Int} (h:∀t∈n.tr,p∉t.ins∧p∉t.outs):noP n p=SC n p:=by
 rw [ZaI]
 have:n.tr.map (TL p)=n.tr:=by
  conv=>rhs;rw [←List.map_id n.tr]
  refine List.map_congr_left fun t ht=>?_;obtain ⟨h1,h2⟩:=h t ht;unfold TL;rw [OJ h1,OJ h2];rfl
 rw [this]
theorem ZaL (n:Nt) (p:Int) (out:Bool):Ri n p out=(n.tr.filter (uF p out)).length:=rfl
theorem ZaM {p q:Int} {l:List Int} (h:p≠q):p∉Gb p q l:=fun hm=>by
 obtain ⟨y,hy,e⟩:=(OB p).1 hm
 split at e
 · exact h e
 · rename_i hne;exact hne e.symm
theorem Ro {p q:Int} {l:List Int} {x:Int} (hx:x∈Gb p q l):x=q∨x∈l:=by
 obtain ⟨y,hy,e⟩:=(OB x).1 hx
 split at e
 · exact .inl e
 · exact .inr (e▸hy)
def mvO (p q:Int) (t:Tn):Tn:=⟨t.lab,t.ins,Gb p q t.outs⟩
def mvI (p q:Int) (t:Tn):Tn:=⟨t.lab,Gb p q t.ins,t.outs⟩
theorem Zca {n:Nt} {a:Nat} {t:Tn} {p q:Int} (ht:n.tr[a]? =some t) (hp:t.ins=[p]) (hne:p≠q) (hu:Ri n p false=1):noP ⟨n.pl,(n.tr.eraseIdx a).map (mvO p q),n.src,n.snk⟩ p=SC ⟨n.pl,(n.tr.eraseIdx a).map (mvO p q),n.src,n.snk⟩ p:=Zed fun u hu'=>by
 obtain ⟨v,hv,rfl⟩:=Xq.1 hu'
 have h1:=Rn (f:=uF p false) (by rw [←ZaL];exact hu) ht (by unfold uF;rw [Uo dC,hp];simp) v hv
 refine ⟨fun hm=>?_,ZaM hne⟩
 unfold uF at h1
 have hm':p∈v.ins:=hm
 rw [Uo dC,Vi.2 hm'] at h1
 cases h1
theorem Zcb {n:Nt} {a:Nat} {t:Tn} {p q:Int} (ht:n.tr[a]? =some t) (hq:t.outs=[q]) (hne:q≠p) (hu:Ri n q true=1):noP ⟨n.pl,(n.tr.eraseIdx a).map (mvI q p),n.src,n.snk⟩ q=SC ⟨n.pl,(n.tr.eraseIdx a).map (mvI q p),n.src,n.snk⟩ q:=Zed fun u hu'=>by
 obtain ⟨v,hv,rfl⟩:=Xq.1 hu'
 have h1:=Rn (f:=uF q true) (by rw [←ZaL];exact hu) ht (by unfold uF;rw [Up rfl,hq];simp) v hv
 refine ⟨ZaM hne,fun hm=>?_⟩
 unfold uF at h1
 have hm':q∈v.outs:=hm
 rw [Up rfl,Vi.2 hm'] at h1
 cases h1
theorem ZaN {p q N:Int} {l:List Int} (hl:KR N l=true) (hq:0≤q∧q<N):(Gb p q l).length≤N.toNat:=by
 have:=Pn N (Gb p q l) 0 (fun x hx=>(Ro hx).elim (fun e=>e▸hq) fun h=>Ou hl h) (OA (DG hl))
 simpa using this
theorem W5 {l:List Tn} {a:Nat} {t:Tn} (h:t∈l.eraseIdx a):t∈l:=List.mem_of_mem_eraseIdx h
theorem RdN.mvO {n:Nt} (h:RdN n) {a:Nat} {p q:Int} (hq:0≤q∧q<n.pl):NtF ⟨n.pl,(n.tr.eraseIdx a).map (mvO p q),n.src,n.snk⟩:=by
 have hF:=h.fit
 have hr:=KS h.ok
 have hel:(n.tr.eraseIdx a).length≤n.tr.length:=VT ..
 refine ⟨by show ((n.tr.eraseIdx a).map _).length≤_;rw [Xe];omega,fun t ht=>?_,hF.pl,hF.src,hF.snk,fun t ht x hx=>?_,fun t ht x hx=>?_⟩
 · obtain ⟨u,hu,rfl⟩:=Xq.1 ht;have h1:=SJ h.ok (W5 hu);unfold GN at h1;simp only [Xf] at h1;have h2:=ZaN (p:=p) h1.2 hq;have h3:=hF.fit u (W5 hu);exact ⟨h3.1,by show (Gb p q u.outs).length≤_;omega⟩
 · obtain ⟨u,hu,rfl⟩:=Xq.1 ht;exact hF.ins u (W5 hu) x hx
 · obtain ⟨u,hu,rfl⟩:=Xq.1 ht;rcases Ro hx with rfl|h2
   · omega
   · exact hF.outs u (W5 hu) x h2
theorem RdN.mvI {n:Nt} (h:RdN n) {a:Nat} {p q:Int} (hq:0≤q∧q<n.pl):NtF ⟨n.pl,(n.tr.eraseIdx a).map (mvI p q),n.src,n.snk⟩:=by
 have hF:=h.fit
 have hr:=KS h.ok
 have hel:(n.tr.eraseIdx a).length≤n.tr.length:=VT ..
 refine ⟨by show ((n.tr.eraseIdx a).map _).length≤_;rw [Xe];omega,fun t ht=>?_,hF.pl,hF.src,hF.snk,fun t ht x hx=>?_,fun t ht x hx=>?_⟩
 · obtain ⟨u,hu,rfl⟩:=Xq.1 ht;have h1:=SJ h.ok (W5 hu);unfold GN at h1;simp only [Xf] at h1;have h2:=ZaN (p:=p) h1.1.2 hq;have h3:=hF.fit u (W5 hu);exact ⟨by show (Gb p q u.ins).length≤_;omega,h3.2⟩
 · obtain ⟨u,hu,rfl⟩:=Xq.1 ht;rcases Ro hx with rfl|h2
   · omega
   · exact hF.ins u (W5 hu) x h2
 · obtain ⟨u,hu,rfl⟩:=Xq.1 ht;exact hF.outs u (W5 hu) x hx
def swZ (p q y:Int):Int:=if y=p then q else y
def Ll (p q:Int) (l:List Int) (k:Nat):List Int:=(l.take k).map (swZ p q)++l.drop k
theorem Cl (p q:Int) (l:List Int) (k:Nat):(Ll p q l k).length=l.length:=by
 unfold Ll;rw [Xg,Xe,Xl,Xw];omega
theorem ZaO {p q:Int} {l:List Int} {k:Nat} {x:Int} (hx:l[k]? =some x):(Ll p q l k)[k]? =some x:=by
 have h1:((l.take k).map (swZ p q)).length=k:=by rw [Xe,Xl];have:=Zg hx;omega
 unfold Ll
 rw [X0 oM,h1,Vp,XT,XL,hx]
theorem Zee {p q:Int} {l:List Int} {k:Nat} {x:Int} (hx:l[k]? =some x):(Ll p q l k).set k (swZ p q x)=Ll p q l (k+1):=by
 have h1:((l.take k).map (swZ p q)).length=k:=by rw [Xe,Xl];have:=Zg hx;omega
 unfold Ll
 rw [Vy _ _ oM,h1,Vp,Yo hx,X2,Uc,XC]
 congr 1
 have h2:=XN (Zg hx)
 rw [h2];rfl
theorem Zef (p q:Int) (l:List Int):Ll p q l l.length=l.map (swZ p q):=by
 unfold Ll;rw [Vz,List.drop_length,Vc]
theorem ζr:Zgu prog 147:=fun blk cap zs w hH hb hn=>Tryz.slices_Sort_int blk 0 cap zs w hH hb hn
theorem Cm:ZcC prog 147:=fun p cap w=>Tryz.slices_Sort_int_none p cap w
theorem Zeg (l:List Int):(l.mergeSort fun x y=>decide (x≤y)).Pairwise (· ≤ ·):=by
 have:=List.pairwise_mergeSort (le:=fun x y:Int=>decide (x≤y)) (fun a b c h1 h2=>by simp at h1 h2 ⊢;omega) (fun a b=>by simp;omega) l
 exact this.imp fun h=>by simpa using h
set_option maxHeartbeats 2000000 in
theorem DI (l:List Int) (p q:Int) (hl:l.length≤100000) (ha:l.Pairwise (· < ·)):AF prog 108 [pInts l,Zc p,Zc q] (· =pInts (Gb p q l)):=by
 refine AF.of_body 31 func108 rfl ntmps108 (Xa rfl) ?_
 intro w0 M0 vs hl hv
 obtain ⟨v0,v1,v2,rfl⟩:=OM hl
 obtain rfl:=hv 1 _ _ rfl rfl
 obtain rfl:=hv 2 _ _ rfl rfl
 clear hl hv
 refine Zf ?_
 (refine xL 6 Zb ?_;refine Zn ?_)
 (refine xL 10 Za ?_;(refine cO 11 (cA (call117) (LW l oM)) fun v11 ho11=>?_;have hone11:En.one (PV.val v11)=true:=ho11;refine Zp (Z0 (l:=11) 1000 rfl rfl) fun _=>?_);refine xL 7 Zb ?_;refine Zn ?_)
 (refine xL 12 Za (xL 13 (YV 1000 Zs) (xL 14 Za ?_));refine Ze ?_)
 refine ZE (ι:={k:Nat//k≤l.length}) (fun k=>⟨[(1,_,_),(2,_,_),(7,_,_),(12,_,_),(13,_,_),(14, .int .i64 k.1,Zc k.1)],[(1000,v11, .own 3 1 l.length ((Ll p q l k.1).map Zc))]⟩) (fun k=>l.length-k.1) ⟨0,Xh _⟩ (fun a w H=>H.weaken ⟨rfl,rfl,rfl,rfl,rfl,rfl,trivial⟩ ⟨rfl,trivial⟩) ?_
 rintro ⟨k,hk⟩
 dsimp only
 refine Zf ?_
 (refine xL 15 ZR ?_;refine Ze ?_)
 refine cX ?_ ?_<;>intro hb15
 · first |exact bN hb15|(
 obtain ⟨x,hx⟩:=Zw (show k<l.length by omega);have e1:=Y2 (f:=Zc) (ZaO (p:=p) (q:=q) hx);have e2:=Cl p q l k;(have e3:((Ll p q l k).map Zc).length=l.length:=by rw [Xe,e2]);have hset:=Zee (p:=p) (q:=q) hx;have hset2:(Ll p q l k).set k x=Ll p q l k:=by
  obtain ⟨g1,g2⟩:=Xz.1 (ZaO (p:=p) (q:=q) hx);rw [←g2];exact List.set_getElem_self g1
 refine Zf ?_;(refine xL 16 Za (xL 17 (Zt 1000 Zs) ?_);refine yL 18 (Zi 1000 Zo) fun v18 hv18=>?_;cases hv18;refine xL 8 Zb (xL 9 Zb ?_);refine Zn ?_)
 (refine xL 19 Za (xL 20 Za (xL 21 ZQ ?_));refine Ze ?_)
 refine cX ?_ ?_<;>intro hb21
 · first|exact bN hb21|(
 refine Zf ?_;(refine xL 22 Za (xL 23 Za (xL 24 Za (xL 25 (Zt 1000 Zs) ?_)));(refine Y3 1000 Zo W9 ?_ (hj:=by omega);refine Zp (ZF (l:=1000) rfl (show PV.own 3 1 l.length (((Ll p q l k).map Zc).set (k*1) (Zc q))= .own 3 1 l.length ((Ll p q l (k+1)).map Zc) by rw [XF,←hset,List.map_set];unfold swZ;rw [Up hb21])) fun _=>?_);refine Zn ?_)
 (refine xL 26 ZO (xL 14 Za ?_);refine Ze ?_)
 refine Zk (
  ⟨k+1,Zg hx⟩
  ) (by dsimp only;omega) ⟨rfl,rfl,rfl,rfl,rfl,rfl,trivial⟩ ⟨rfl,trivial⟩)
 · first|exact bN hb21|(
 refine Zz (ZF (l:=1000) rfl (show PV.own 3 1 l.length ((Ll p q l k).map Zc)= .own 3 1 l.length ((Ll p q l (k+1)).map Zc) by rw [←hset];unfold swZ;rw [Uo hb21,hset2])) fun _=>?_;refine Zf ?_;(refine xL 26 ZO (xL 14 Za ?_);refine Ze ?_)
 refine Zk (
  ⟨k+1,Zg hx⟩
  ) (by dsimp only;omega) ⟨rfl,rfl,rfl,rfl,rfl,rfl,trivial⟩ ⟨rfl,trivial⟩))
 · first|exact bN hb15|(
 refine nav ?_;obtain rfl:k=l.length:=oM;have hrl:=Cl p q l l.length;obtain ⟨Z,hZ⟩:∃Z,Z=Ll p q l l.length:=⟨_,rfl⟩;rw [←hZ] at hrl;refine Zz (ZF (l:=1000) rfl (show PV.own 3 1 l.length ((Ll p q l l.length).map Zc)= .own 3 1 Z.length (Z.map Zc) by rw [←hZ,hrl])) fun _=>?_;(refine Zm ?_<;>refine xL 27 Za ?_<;>(rcases Nat.eq_zero_or_pos Z.length with h0|h0<;>first|(refine ZeV (zs:=Z) 1000 ζr (call147) ?_ h0)|(rw [XK h0];refine ZcD 1000 Cm (call147) ?_))<;>refine Ze ?_)<;>(
 obtain ⟨M,hM⟩:∃M,M=Z.mergeSort fun x y=>decide (x≤y):=⟨_,rfl⟩;(have hMl:M.length=Z.length:=by rw [hM,List.length_mergeSort]);refine Zz (ZF (l:=1000) (p':=PV.own 3 1 M.length (M.map Zc)) rfl (by
  first
   |(rw [hMl,hM];done)
   |(rw [XK (show M.length=0 by omega)];done)
   |(rw [XK (show M.length=0 by omega)];rfl))) fun _=>?_
 (refine Zm ?_;refine xL 29 Za ?_;(refine ZL [(1000,_,_)] ⟨rfl,trivial⟩ ?_;refine ZT [] 30 (call148) (HD M oM v11 ho11) (fun v30 p30 h30 hR30=>?_);obtain ⟨hv30,rfl,rfl⟩:=hR30);refine xL 6 Zb ?_;refine Ze ?_)
 refine Wm (En.freeze (l:=1000) (t:=6) rfl rfl) fun _=>?_;refine Zx (results108) rfl ?_;rw [WO 3 _ _ rfl,Zf1 ha (show M.Pairwise (· ≤ ·) by rw [hM];exact Zeg Z) (show M.Perm (l.map fun y=>if y=p then q else y) by rw [hM];refine (List.mergeSort_perm Z _).trans ?_;rw [hZ,Zef];exact List.Perm.refl _)]))
theorem DJ:ZeroT prog 3 (.int .i64 0):=by unfold ZeroT;kernel_rfl
theorem OK (n:Nt) (p:Int):AF prog 102 [Zc p, .sptr 0 (cNt n)] (· =ZV (decide (p=n.src)||decide (p=n.snk))):=by
 have ec:cNt n=[Zc n.pl,JS n.tr,Zc n.src,Zc n.snk]:=rfl
 refine AF.of_body 14 func102 rfl ntmps102 (Xa rfl) ?_
 intro w0 M0 vs hl hv
 obtain ⟨v0,v1,rfl⟩:=KG hl
 obtain rfl:=hv 0 _ _ rfl rfl
 clear hl hv
 refine Zf ?_
 (refine xL 3 Zb ?_;refine Zn ?_)
 (refine xL 4 Za (xL 5 (Jv YP) ?_)<;>(refine yL 6 (Yy Zo) fun v6 h=>?_;cases h)<;>refine xL 7 ZQ (xL 8 Za ?_)<;>(refine bLd 8 (fun hb8=>?_) (fun hb8=>?_)<;>(first|refine kL 9 ?_|refine xL 9 Za ?_))<;>(first|refine kL 10 ?_|refine xL 10 (Jv YW) ?_)<;>(first|refine kL 11 ?_|(refine yL 11 (Yy Zo) fun v11 h=>?_;cases h))<;>(first|refine kL 12 ?_|refine xL 12 ZQ ?_)<;>refine xL 13 Zu (xL 3 Zb ?_)<;>refine Ze ?_)<;>(
 refine Zx (results102) rfl ?_
 first
  |(rw [Um hb8];rfl)
  |(rw [Un hb8];rfl))
theorem ζs (p q:Int) (t:Tn):AF prog 106 [.agg (cTn t), .sptr 0 [Zc p], .sptr 0 [Zc q]] (· =ZV (t.outs.contains p&&t.outs.contains q)):=by
 have e0:cTn t=[ZZ t.lab,pInts t.ins,pInts t.outs]:=rfl
 refine AF.of_body 15 func106 rfl ntmps106 (Xa rfl) ?_
 intro w0 M0 vs hl hv
 obtain ⟨v0,v1,v2,rfl⟩:=OM hl
 clear hl hv
 refine Zf ?_
 (refine Yv 3 3 fun h3=>?_;refine xL 4 Zb ?_;refine Zn ?_)
 (refine xL 5 (Zd 3 Yb) ?_<;>(refine yL 6 (Zi 3 Zy) fun v6 h=>?_;cases h)<;>(refine yL 7 (Yy Zo) fun v7 h=>?_;cases h)<;>(refine cS 8 (cA call86 (YG t.outs p)) fun v8 h=>?_;cases h)<;>refine xL 9 Za ?_<;>(refine bL 9 (fun hb9=>?_) (fun hb9=>?_)<;>(first|refine kL 10 ?_|refine xL 10 (Zd 3 Yb) ?_))<;>(first|refine kL 11 ?_|(refine yL 11 (Zi 3 Zy) fun v11 h=>?_;cases h))<;>(first|refine kL 12 ?_|(refine yL 12 (Yy Zo) fun v12 h=>?_;cases h))<;>(first|refine kL 13 ?_|(refine cS 13 (cA call86 (YG t.outs q)) fun v13 h=>?_;cases h))<;>refine xL 14 Zu (xL 4 Zb ?_)<;>refine Ze ?_)<;>(
 refine Zx (results106) rfl ?_;rw [hb9];rfl)
theorem Zgb (a b:ByteArray):(a.toList==b.toList)=decide (a=b):=by
 by_cases h:a=b
 · subst h;simp
 · rw [Un h]
   cases hc:(a.toList==b.toList) with
   |false=>rfl
   | true=>
     rw [beq_iff_eq,ByteArray.toList_eq,ByteArray.toList_eq] at hc;exact Uq (WideShapes.bytes_inj hc) h
theorem Zeh (n:Nt):WW (cNt n)=cNt n:=by rw [Yf];rfl
set_option maxHeartbeats 8000000 in
theorem Zcc (n : Nt) (r :Int) (a b:Nat) (h:RdN n) (hr:1≤r∧r≤5) (ha:if r=2 then (a:Int)<n.pl else a<n.tr.length) (hb:if r=2 then (b:Int)<n.pl else if r=1 then b<n.tr.length else True):AF prog 51 [pNt n,Zc r,Zc a,Zc b] (· = .tup [pNt (apX n r a b).1,ZV (apX n r a b).2]):=by
 have hF:=h.fit
 have hlen:=hF.len
 have ec:cNt n=[Zc n.pl,JS n.tr,Zc n.src,Zc n.snk]:=rfl
 refine AF.of_body 210 func51 rfl ntmps51 (Xa rfl) ?_
 intro w0 M0 vs hl hv
 obtain ⟨v0,v1,v2,v3,rfl⟩:=ZiA hl
 obtain rfl:=hv 1 _ _ rfl rfl
 obtain rfl:=hv 2 _ _ rfl rfl
 obtain rfl:=hv 3 _ _ rfl rfl
 clear hl hv
 refine Zf ?_
 (refine Yv 4 4 fun h4=>?_;refine ZA [(.int .i64 0),(.slice none 0 0),(.int .i64 0),(.int .i64 0)] 4 8 YC fun h8=>?_;refine xL 9 Zb ?_;refine Ze ?_)
 refine Zz (TW (l:=4) (t:=4) (j:=0) rfl VI rfl) fun _=>?_
 refine Zz (Yk (t:=4) (p':= .sptr 0 (cNt n)) rfl (by rw [Zeh])) fun _=>?_
 (refine Zm ?_;refine xL 23 Za ?_;refine Zn ?_)
 (refine xL 25 ZQ (xL 24 Zb ?_);refine Ze ?_)
 refine cX ?_ ?_<;>intro hb24
 · first | exact bN hb24|(
 subst hb24;rw [Uo dC] at ha hb;rw [Up rfl] at hb;obtain ⟨t,ht⟩:=Zw ha;obtain ⟨u,hu⟩:=Zw hb;have e1:=Z' Yr n.tr a t ht;have e2:=Yp Yr ht;have e3:=Z' Yr n.tr b u hu;have e4:=Yp Yr hu;have hru:=Zeb ht hu;refine nav ?_;(refine ZS (fun i=>([13]:List Nat).elem i) [] kR ?_<;>refine xD 0 26 rfl (Jv ZD) ?_<;>(refine yD 1 27 rfl (Yy ZN) fun v27 h=>?_;cases h)<;>refine xD 2 28 rfl Za ?_<;>refine xD 3 29 rfl (ZP ZI) ?_<;>(refine yD 4 30 rfl (Yz Z9) fun v30 h=>?_;cases h)<;>refine xD 5 31 rfl (Jv ZD) ?_<;>(refine yD 6 32 rfl (Yy ZN) fun v32 h=>?_;cases h)<;>refine xD 7 33 rfl Za ?_<;>refine xD 8 34 rfl (ZP ZI) ?_<;>(refine yD 9 35 rfl (Yz Z9) fun v35 h=>?_;cases h)<;>(refine YD 10 11 kR ?_ ?_;rotate_right;(focus ((refine Zj rfl fun w9 M9 N9 DQ back=>?_)<;>refine ZA [(.string ByteArray.empty),(.slice none 0 0),(.slice none 0 0)] 3 11 Wb fun h11=>?_<;>refine Zh (back _ (nrm ?_))<;>(refine Zl 10 kR ?_)<;>(refine Zj rfl fun w9 M9 N9 DQ back=>?_)<;>refine ZA [(.string ByteArray.empty),(.slice none 0 0),(.slice none 0 0)] 3 10 Wb fun h10=>?_<;>refine Zh (back _ (nrm ?_))<;>(refine Zl 12 kR ?_)<;>(refine Zj rfl fun w9 M9 N9 DQ back=>?_)<;>refine Zv 10 Z9 ?_<;>refine Zh (back _ (nrm ?_))));rotate_right;(focus ((refine Zj rfl fun w9 M9 N9 DQ back=>?_)<;>refine ZA [(.string ByteArray.empty),(.slice none 0 0),(.slice none 0 0)] 3 10 Wb fun h10=>?_<;>refine Zh (back _ (nrm ?_))<;>(refine Zl 11 kR ?_)<;>(refine Zj rfl fun w9 M9 N9 DQ back=>?_)<;>refine ZA [(.string ByteArray.empty),(.slice none 0 0),(.slice none 0 0)] 3 11 Wb fun h11=>?_<;>refine Zh (back _ (nrm ?_))<;>(refine Zl 12 kR ?_)<;>(refine Zj rfl fun w9 M9 N9 DQ back=>?_)<;>refine Zv 10 Z9 ?_<;>refine Zh (back _ (nrm ?_)))))<;>(refine Zl 13 kR ?_)<;>(refine WX rfl rfl kR fun DQ back=>?_)<;>refine Zv 11 Z9 ?_<;>refine Zh (back _ (nav ?_))<;>try dsimp only)<;>(
 (refine Zm ?_<;>refine xL 36 Za (xL 37 Za (xL 38 WE (xL 39 Za ?_)))<;>(refine bLd 39 (fun hb39=>?_) (fun hb39=>?_)<;>(first|refine kL 40 ?_|refine xL 40 (Zd 10 Y7) ?_))<;>(first|refine kL 41 ?_|(refine yL 41 (Zi 10 WC) fun v41 h=>?_;cases h))<;>(first|refine kL 42 ?_|refine xL 42 (Zd 11 Y7) ?_)<;>(first|refine kL 43 ?_|(refine yL 43 (Zi 11 WC) fun v43 h=>?_;cases h))<;>(first|refine kL 44 ?_|refine xL 44 Lv ?_)<;>refine xL 45 Zu (xL 46 Za ?_)<;>(first|refine kL 47 ?_|(refine bL 46 (fun hb46=>?_) (fun hb46=>?_)<;>(first|refine kL 47 ?_|refine xL 47 (Zd 10 Yi) ?_)))<;>(first|refine kL 48 ?_|(refine yL 48 (Zi 10 Zy) fun v48 h=>?_;cases h))<;>(first|refine kL 49 ?_|refine xL 49 (Zd 11 Yi) ?_)<;>(first|refine kL 50 ?_|(refine yL 50 (Zi 11 Zy) fun v50 h=>?_;cases h))<;>(first|refine kL 51 ?_|(refine cS 51 (cA call21 (KX t.ins u.ins)) fun v51 h=>?_;cases h))<;>(first|refine kL 52 ?_|refine xL 52 Ym ?_)<;>refine xL 53 Zu (xL 54 Za ?_)<;>(first|refine kL 55 ?_|(refine bL 54 (fun hb54=>?_) (fun hb54=>?_)<;>(first|refine kL 55 ?_|refine xL 55 (Zd 10 Yb) ?_)))<;>(first|refine kL 56 ?_|(refine yL 56 (Zi 10 Zy) fun v56 h=>?_;cases h))<;>(first|refine kL 57 ?_|refine xL 57 (Zd 11 Yb) ?_)<;>(first|refine kL 58 ?_|(refine yL 58 (Zi 11 Zy) fun v58 h=>?_;cases h))<;>(first|refine kL 59 ?_|(refine cS 59 (cA call21 (KX t.outs u.outs)) fun v59 h=>?_;cases h))<;>(first|refine kL 60 ?_|refine xL 60 Ym ?_)<;>refine xL 61 Zu ?_<;>refine Ze ?_)<;>(
 refine cX ?_ ?_<;>intro hb61
 · first|exact bN hb61|(
 refine Zf ?_;(refine yL 62 (Yz Zr) fun v62 hv62=>?_;cases hv62;refine Zv 8 Zr ?_;refine xL 9 Zb ?_;refine Ze ?_)
 refine Wo (k:=4) 8 kR (results51) rfl rfl rfl (Xa rfl) dC rfl ?_;have hno:¬(a<b∧Dz t u=true):=by
  rintro ⟨g1,g2⟩;unfold Dz at g2;simp only [Xf,Ul] at g2;obtain ⟨⟨g3,g4⟩,g5⟩:=g2
  first
   |omega
   |(rw [g3] at hb46;simp at hb46;done)
   |(rw [g4] at hb54;simp at hb54;done)
   |(rw [g5] at hb61;simp at hb61;done)
 rw [SK (by rw [hru,Uo hno]) (.inl rfl)];rfl)
 · first|exact bN hb61|(
 refine Zf ?_;(refine yL 63 (Yz Zr) fun v63 hv63=>?_;cases hv63;refine xL 64 Za ?_;(refine ZT [8,10,11] 65 (call101) (SF n b _ hb hlen hF.fit) (fun v65 p65 h65 hR65=>?_);obtain ⟨w,hw,rfl,rfl⟩:=hR65;have honew:En.one (PV.val w)=true:=hw);(refine Zv (ps:=[Zc n.pl, .val w,Zc n.src,Zc n.snk]) 8 Zr ?_ (h1:=by simp only [XH,XU,honew];rfl);refine Zp (Wl (l:=8) (l':=1000) (j:=1) rfl rfl rfl rfl) fun _=>?_;refine Zp (ZF (l:=8) rfl (show PV.own 29 4 1 [Zc n.pl,share (.own 69 3 (n.tr.eraseIdx b).length ((n.tr.eraseIdx b).flatMap cTn)),Zc n.src,Zc n.snk]= .own 29 4 1 (cNt (OY n b)) by rw [J2 _ _ _ rfl];rfl)) fun _=>?_);refine xL 9 Zb ?_;refine Ze ?_)
 refine Wo (k:=4) 8 kR (results51) rfl rfl rfl (Xa rfl) dC rfl ?_;have hyes:Dz t u=true:=by
  unfold Dz;rw [Zgb] at hb46;simp only [Xf,Ul];exact ⟨⟨by simpa using hb46,by simpa using hb54⟩,by simpa using hb61⟩
 rw [LX (by rw [hru,Up ⟨oM,hyes⟩])];rfl))))
 · first | exact bN hb24 |(
 refine Zf ?_;(refine xL 67 ZQ (xL 66 Zb ?_);refine Ze ?_)
 refine cX ?_ ?_<;>intro hb66
 · first | exact bN hb66|(
 subst hb66;rw [Up rfl] at ha hb;have hru:=Zec n a b;refine Zf ?_;(refine xL 68 Ty (xL 12 Zb ?_);refine Zn ?_)
 (refine xL 69 Za (xL 70 Za (xL 71 WE (xL 72 Za ?_)))<;>(refine bLd 72 (fun hb72=>?_) (fun hb72=>?_)<;>(first|refine kL 73 ?_|refine xL 73 Za ?_))<;>(first|refine kL 74 ?_|refine xL 74 Za ?_)<;>(first|refine kL 75 ?_|(refine cS 75 (Jb (f:=102) (ps:=[.sptr 0 (cNt n)]) rfl ⟨_,rfl⟩ (call102) rfl (OK n a)) fun v75 h=>?_;cases h))<;>refine xL 76 Zu (xL 77 Za ?_)<;>(first|refine kL 78 ?_|(refine bL 77 (fun hb77=>?_) (fun hb77=>?_)<;>(first|refine kL 78 ?_|refine xL 78 Za ?_)))<;>(first|refine kL 79 ?_|refine xL 79 Za ?_)<;>(first|refine kL 80 ?_|(refine cS 80 (Jb (f:=102) (ps:=[.sptr 0 (cNt n)]) rfl ⟨_,rfl⟩ (call102) rfl (OK n b)) fun v80 h=>?_;cases h))<;>refine xL 81 Zu (xL 82 Za ?_)<;>(first|refine kL 83 ?_|(refine bL 82 (fun hb82=>?_) (fun hb82=>?_)<;>(first|refine kL 83 ?_|(refine yL 83 (Yz Zr) fun v83 h=>?_;cases h))))<;>(first|refine kL 84 ?_|refine xL 84 Za ?_)<;>(first|refine kL 85 ?_|refine xL 85 Za ?_)<;>(first|refine kL 86 ?_|(refine cS 86 (cA call103 (Zb8 n a b)) fun v86 h=>?_;cases h))<;>(first|refine kL 87 ?_|refine xL 87 Ym ?_)<;>refine xL 88 Zu ?_<;>refine Ze ?_)<;>(
 refine cX ?_ ?_<;>intro hb88
 · first|exact bN hb88|(
 refine Zf ?_;(refine yL 89 (Yz Zr) fun v89 hv89=>?_;cases hv89;refine Zv 8 Zr ?_;refine xL 9 Zb ?_;refine Ze ?_)
 refine Wo (k:=4) 8 kR (results51) rfl rfl rfl (Xa rfl) dC rfl ?_;have hno:¬(a<b∧(a:Int)≠n.src∧(a:Int)≠n.snk∧(b:Int)≠n.src∧(b:Int)≠n.snk∧n.tr.all (ζk a b)=true):=by
  rintro ⟨g1,g2,g3,g4,g5,g6⟩
  first
   |omega
   |(rw [Un g2,Un g3] at hb77;simp at hb77;done)
   |(rw [Un g4,Un g5] at hb82;simp at hb82;done)
   |(rw [g6] at hb88;simp at hb88;done)
 rw [SK (by rw [hru,Uo hno]) (.inr (.inl rfl))];rfl)
 · first|exact bN hb88|(
 refine Zf ?_;(refine yL 90 (Yz Zr) fun v90 hv90=>?_;cases hv90;refine xL 91 Za ?_;refine cD 92 (cA call104 (Ci n b hF)) fun v92 hv92=>?_;clear hv92;refine Zv 8 Zr ?_;refine xL 9 Zb ?_;refine Ze ?_)
 refine Wo (k:=4) 8 kR (results51) rfl rfl rfl (Xa rfl) dC rfl ?_;(have q1:¬(a:Int)=n.src∧¬(a:Int)=n.snk:=by simpa using hb77);(have q2:¬(b:Int)=n.src∧¬(b:Int)=n.snk:=by simpa using hb82);rw [LX (by rw [hru,Up ⟨oM,q1.1,q1.2,q2.1,q2.2,by simpa using hb88⟩])];rfl)))
 · first | exact bN hb66|(
 refine nav ?_;have h1:r≠1:=hb24;have h2:r≠2:=hb66;rw [Uo h2] at ha;obtain ⟨t,ht⟩:=Zw ha;have hsil:=ζq n a t ht;obtain ⟨P,Q,B,hS⟩:∃P Q B,Gx t=(P,Q,B):=⟨_,_,_,rfl⟩;rw [hS] at hsil;dsimp only at hsil;(refine Zm ?_;refine yL 94 (Yz Zr) fun v94 hv94=>?_;cases hv94;refine xL 95 Za ?_;refine Zbn 96 (cA (call105) hsil) (fun va96 vb96 vc96 hva96 hvb96 hvc96=>?_);cases hva96;cases hvb96;cases hvc96;refine xL 93 Za (xL 97 ZK (xL 98 ZK (xL 99 ZK ?_)));refine ZA [(.int .i64 0)] 1 13 DJ fun h13=>?_;refine ZA [(.int .i64 0)] 1 14 DJ fun h14=>?_;refine Y3 13 Zo W9 ?_;refine Y3 14 Zo W9 ?_;refine xL 15 Zb ?_;refine Ze ?_)
 refine Zz (TW (l:=13) (t:=13) (j:=0) rfl VI rfl) fun _=>?_;refine Zz (Yk (t:=13) (p':= .sptr 0 [Zc P]) rfl (by rw [Yf];rfl)) fun _=>?_;refine Zz (TW (l:=14) (t:=14) (j:=0) rfl VI rfl) fun _=>?_;refine Zz (Yk (t:=14) (p':= .sptr 0 [Zc Q]) rfl (by rw [Yf];rfl)) fun _=>?_;(refine Zm ?_;refine xL 100 Za (xL 101 Ym ?_);refine Ze ?_)
 refine cX ?_ ?_<;>intro hb101
 · first|exact bN hb101|(
 refine Zf ?_;(refine yL 102 (Yz Zr) fun v102 hv102=>?_;cases hv102;refine Zv 8 Zr ?_;refine xL 9 Zb ?_;refine Ze ?_)
 refine Wo (k:=4) 8 kR (results51) rfl rfl rfl (Xa rfl) dC rfl ?_;(have hsf:(Gx t).2.2=false:=by rw [hS];simpa using hb101);rw [Zb9 (OI ht h1 h2 hsf) ht hsf];rfl)
 · first | exact bN hb101|(
 (have hst:(Gx t).2.2=true:=by rw [hS];simpa using hb101);obtain ⟨hl,hpi,hqo⟩:=ZaK hst;rw [hS] at hpi hqo;dsimp only at hpi hqo;have hrs:=Ck (r:=r) (b:=b) ht h1 h2 hl hpi hqo;have htm:=Xd ht;have hin:=E6 h.ok htm;have hP:=hin.1 P (by rw [hpi];exact Xr.2 rfl);have hQ:=hin.2 Q (by rw [hqo];exact Xr.2 rfl);have hQs:Q≠n.src:=fun e=>h.src t htm (by rw [hqo,e];exact Xr.2 rfl);obtain ⟨L,hL⟩:∃L,L=n.tr.eraseIdx a:=⟨_,rfl⟩;(have hLl:L.length≤n.tr.length:=by rw [hL];exact VT ..);refine Zf ?_;(refine xL 103 Za ?_;refine Zn ?_)
 (refine xL 105 ZQ (xL 104 Zb ?_);refine Ze ?_)
 refine cX ?_ ?_<;>intro hb104
 · first | exact bN hb104|(
 refine Zf ?_;(refine xL 106 Ty (xL 16 Zb ?_);refine Zn ?_)
 ((refine yL 107 (Yy Zo) fun v107 h=>?_;cases h)<;>(refine yL 108 (Yy Zo) fun v108 h=>?_;cases h)<;>refine xL 109 ZQ (xL 110 Za ?_)<;>(refine bLd 110 (fun hb110=>?_) (fun hb110=>?_)<;>(first|refine kL 111 ?_|(refine yL 111 (Yy Zo) fun v111 h=>?_;cases h)))<;>(first|refine kL 112 ?_|refine xL 112 (Jv YP) ?_)<;>(first|refine kL 113 ?_|(refine yL 113 (Yy Zo) fun v113 h=>?_;cases h))<;>(first|refine kL 114 ?_|refine xL 114 ZQ ?_)<;>refine xL 115 Zu (xL 116 Za ?_)<;>(first|refine kL 117 ?_|(refine bLd 116 (fun hb116=>?_) (fun hb116=>?_)<;>(first|refine kL 117 ?_|(refine yL 117 (Yz Zr) fun v117 h=>?_;cases h))))<;>(first|refine kL 118 ?_|(refine yL 118 (Yy Zo) fun v118 h=>?_;cases h))<;>(first|refine kL 119 ?_|(refine cS 119 (cA call107 (Rk n hlen P false)) fun v119 h=>?_;cases h))<;>(first|refine kL 120 ?_|refine xL 120 YN ?_)<;>refine xL 121 Zu (xL 122 Za ?_)<;>(first|refine kL 123 ?_|(refine bLd 122 (fun hb122=>?_) (fun hb122=>?_)<;>(first|refine kL 123 ?_|refine xL 123 (Jv ZD) ?_)))<;>(first|refine kL 124 ?_|(refine yL 124 (Yy ZN) fun v124 h=>?_;cases h))<;>(first|refine kL 125 ?_|refine xL 125 Za ?_)<;>(first|refine kL 126 ?_|(refine cS 126 (cA call39 (GX 106 [.sptr 0 [Zc P], .sptr 0 [Zc Q]] (fun t=>t.outs.contains P&&t.outs.contains Q) n.tr (call106) (fun t _=>ζs P Q t))) fun v126 h=>?_;cases h))<;>refine xL 127 Zu ?_<;>refine Ze ?_)<;>(
 refine cX ?_ ?_<;>intro hb127
 · first |exact bN hb127|(
 refine Zf ?_;(refine yL 128 (Yz Zr) fun v128 hv128=>?_;cases hv128;refine Zv 8 Zr ?_;refine xL 9 Zb ?_;refine Ze ?_)
 refine Wo (k:=4) 8 kR (results51) rfl rfl rfl (Xa rfl) dC rfl ?_;have hno:¬(P≠Q∧P≠n.src∧Ri n P false=1∧n.tr.all (fun t=> !(t.outs.contains P&&t.outs.contains Q))=true):=by
  rintro ⟨g1,g2,g3,g4⟩
  first
   |exact g1 hb110
   |exact g2 hb116
   |omega
   | (obtain ⟨v,hv,hf⟩:=VQ.1 hb127
      have h5:=Xj.1 g4 v hv;rw [hf] at h5
      cases h5)
 rw [SK (by rw [hrs,Up hb104,Uo hno]) (.inr (.inr (.inl hb104)))];rfl)
 · first |exact bN hb127|(
 refine Zf ?_;(refine yL 129 (Yz Zr) fun v129 hv129=>?_;cases hv129;refine xL 130 Za ?_;(refine ZT [8] 131 (call101) (SF n a _ ha hlen hF.fit) (fun v131 p131 h131 hR131=>?_);obtain ⟨w,hw,rfl,rfl⟩:=hR131;have honew:En.one (PV.val w)=true:=hw;refine ZL [(1000,_,_),(8,_,_)] ⟨rfl,rfl,trivial⟩ ?_;refine Zp (Z0 (l:=1000) 600 rfl rfl) fun _=>?_;rw [←hL]);refine ZA [(.int .i64 0),(.slice none 0 0),(.int .i64 0),(.int .i64 0)] 4 17 YC fun h17=>?_;(refine Zv (ps:=[Zc n.pl, .val w,Zc n.src,Zc n.snk]) 17 Zr ?_ (h1:=by simp only [XH,XU,honew];rfl));refine Zn ?_)
 (refine xL 132 (Zd 17 ZD) ?_;refine yL 133 (Zi 17 ZN) fun v133 hv133=>?_;cases hv133;refine xL 134 (YV 600 ZI) (xL 135 Za ?_);refine Ze ?_)
 refine ZE (ι:={q:Nat//q≤L.length}) (fun k=>⟨[(4,_,_),(8,_,_),(13,_,_),(14,_,_),(17,_,_),(133,_,_),(134,_,_),(135, .int .i64 k.1,Zc k.1)],[(8,_,_),(17,h17, .own 29 4 1 [Zc n.pl, .val w,Zc n.src,Zc n.snk]),(600,w, .own 69 3 L.length ((Wt (mvO P Q) L k.1).flatMap cTn))]⟩) (fun k=>L.length-k.1) ⟨0,Xh _⟩ (fun a w H=>H.weaken ⟨rfl,rfl,rfl,rfl,rfl,rfl,rfl,rfl,trivial⟩ ⟨rfl,rfl,rfl,trivial⟩) ?_;rintro ⟨k,hk⟩;dsimp only;refine Zf ?_;(refine xL 136 ZR ?_;refine Ze ?_)
 refine cX ?_ ?_<;>intro hb136
 · first|exact bN hb136|(
 obtain ⟨x,hx⟩:=Zw (show k<L.length by omega);have hg:=Pr (f:=mvO P Q) hx;have e1:=Z' Yr (Wt (mvO P Q) L k) k x hg;have e2:=Yp Yr hg;have e3:(Wt (mvO P Q) L k).length=L.length:=SG _ _ _;have hxm:x∈n.tr:=W5 (a:=a) (by rw [←hL];exact Xd hx);have hxo:=SJ h.ok hxm;unfold GN at hxo;simp only [Xf] at hxo;have hxf:=hF.fit x hxm;obtain ⟨A,hA⟩:∃A,A=((L.take k).map (mvO P Q)).flatMap cTn:=⟨_,rfl⟩;obtain ⟨C,hC⟩:∃C,C=(L.drop (k+1)).flatMap cTn:=⟨_,rfl⟩;(have hAl:A.length=k*3:=by rw [hA,WR Yr,Xe,Xl,XJ hk]);(have hcut:(Wt (mvO P Q) L k).flatMap cTn=A++[ZZ x.lab,pInts x.ins,pInts x.outs]++C:=by rw [SH _ hx,Xt,Xt,X1,hA,hC];rfl);(have hcut2:(Wt (mvO P Q) L (k+1)).flatMap cTn=A++[ZZ x.lab,pInts x.ins,pInts (Gb P Q x.outs)]++C:=by rw [Tl _ hx,Xt,Xt,X1,hA,hC];rfl);refine Zf ?_;(refine xL 137 Za (xL 138 (Zt 600 ZI) ?_);refine yL 139 (Zq 600 Z9) fun v139 hv139=>?_;cases hv139;refine ZA [(.string ByteArray.empty),(.slice none 0 0),(.slice none 0 0)] 3 19 Wb fun h19=>?_;refine xL 18 Zb ?_;refine Zv 19 Z9 ?_;refine Ze ?_)
 (refine ZS (fun i=>([10]:List Nat).elem i) [17,19,600] kR ?_<;>refine xD 0 140 rfl (Zd 17 ZD) ?_<;>(refine yD 1 141 rfl (Zi 17 ZN) fun v141 h=>?_;cases h)<;>refine xD 2 142 rfl Za ?_<;>refine xD 3 143 rfl (Zd 19 Yb) ?_<;>(refine yD 4 144 rfl (Zi 19 Zy) fun v144 h=>?_;cases h)<;>(refine yD 5 145 rfl (Yy Zo) fun v145 h=>?_;cases h)<;>(refine yE 6 146 rfl (Yy Zo) fun v146 h=>?_;cases h)<;>(refine Zl 7 kR ?_)<;>(refine Zj rfl fun w9 M9 N9 DQ back=>?_)<;>(refine cS 147 (cA call108 (DI x.outs P Q oM (DG hxo.2))) fun v147 h=>?_;cases h)<;>refine Zh (back _ (nrm ?_))<;>refine xE 8 148 rfl (Zt 600 ZI) ?_<;>refine xE 9 149 rfl (Zd 600 Yb) ?_<;>(refine Zl 10 kR ?_)<;>(refine WX rfl rfl kR fun DQ back=>?_)<;>(refine Y3 600 Zy Lk ?_ (hj:=by omega);refine Zp (ZF (l:=600) rfl (show PV.own 69 3 L.length (((Wt (mvO P Q) L k).flatMap cTn).set (k*3+2) (pInts (Gb P Q x.outs)))= .own 69 3 L.length ((Wt (mvO P Q) L (k+1)).flatMap cTn) by rw [hcut,GW hAl,hcut2])) fun _=>?_)<;>refine Zh (back _ (nav ?_))<;>try dsimp only)
 (refine Zm ?_;refine xL 150 ZO (xL 135 Za ?_);refine Ze ?_)
 refine Zk (
  ⟨k+1,Zg hx⟩
  ) (by dsimp only;omega) ⟨rfl,rfl,rfl,rfl,rfl,rfl,rfl,rfl,trivial⟩ ⟨rfl,rfl,rfl,trivial⟩)
 · first|exact bN hb136|(
 refine nav ?_;obtain rfl:k=L.length:=oM;refine Zz (Wl (l:=17) (l':=600) (j:=1) rfl rfl rfl rfl) fun _=>?_;refine Zz (ZF (l:=17) rfl (show PV.own 29 4 1 [Zc n.pl,share (.own 69 3 L.length ((Wt (mvO P Q) L L.length).flatMap cTn)),Zc n.src,Zc n.snk]= .own 29 4 1 (cNt ⟨n.pl,L.map (mvO P Q),n.src,n.snk⟩) by rw [GU,J2 _ _ _ (by rw [Xe])];rfl)) fun _=>?_;(refine Zm ?_;refine yL 151 (Zq 17 Zr) fun v151 hv151=>?_;cases hv151;refine yL 152 (Yy Zo) fun v152 hv152=>?_;cases hv152;refine cD 153 (cA call109 (Gw ⟨n.pl,L.map (mvO P Q),n.src,n.snk⟩ P (hL▸h.mvO hQ))) fun v153 hv153=>?_;clear hv153;refine Zv 8 Zr ?_;refine xL 9 Zb ?_;refine Ze ?_)
 refine Wo (k:=4) 8 kR (results51) rfl rfl rfl (Xa rfl) dC rfl ?_;have h5:n.tr.all (fun t=> !(t.outs.contains P&&t.outs.contains Q))=true:=by
  rw [Xj];intro v hv
  cases hf:(v.outs.contains P&&v.outs.contains Q) with
  |false=>rfl
  |true=>rw [VQ.2 ⟨v,hv,hf⟩] at hb127;cases hb127
 rw [LX (by rw [hrs,Up hb104,Up ⟨hb110,hb116,oM,h5⟩]),hL,Zca ht hpi hb110 oM];rfl))))
 · first | exact bN hb104|(
 refine Zf ?_;(refine xL 155 ZQ (xL 154 Zb ?_);refine Ze ?_)
 refine cX ?_ ?_<;>intro hb154
 · first | exact bN hb154|(
 refine Zf ?_;((refine yL 156 (Yy Zo) fun v156 h=>?_;cases h)<;>refine xL 157 (Jv YP) ?_<;>(refine yL 158 (Yy Zo) fun v158 h=>?_;cases h)<;>refine xL 159 YN (xL 160 Za ?_)<;>(refine bLd 160 (fun hb160=>?_) (fun hb160=>?_)<;>(first|refine kL 161 ?_|(refine yL 161 (Yy Zo) fun v161 h=>?_;cases h)))<;>(first|refine kL 162 ?_|refine xL 162 (Jv YW) ?_)<;>(first|refine kL 163 ?_|(refine yL 163 (Yy Zo) fun v163 h=>?_;cases h))<;>(first|refine kL 164 ?_|refine xL 164 ZQ ?_)<;>refine xL 165 Zu (xL 166 Za ?_)<;>(first|refine kL 167 ?_|(refine bLd 166 (fun hb166=>?_) (fun hb166=>?_)<;>(first|refine kL 167 ?_|(refine yL 167 (Yz Zr) fun v167 h=>?_;cases h))))<;>(first|refine kL 168 ?_|(refine yL 168 (Yy Zo) fun v168 h=>?_;cases h))<;>(first|refine kL 169 ?_|(refine cS 169 (cA call107 (Rk n hlen P false)) fun v169 h=>?_;cases h))<;>(first|refine kL 170 ?_|refine xL 170 YN ?_)<;>refine xL 171 Zu (xL 172 Za ?_)<;>(first|refine kL 173 ?_|(refine bLd 172 (fun hb172=>?_) (fun hb172=>?_)<;>(first|refine kL 173 ?_|(refine yL 173 (Yz Zr) fun v173 h=>?_;cases h))))<;>(first|refine kL 174 ?_|(refine yL 174 (Yy Zo) fun v174 h=>?_;cases h))<;>(first|refine kL 175 ?_|(refine cS 175 (cA call107 (Rk n hlen Q true)) fun v175 h=>?_;cases h))<;>(first|refine kL 176 ?_|refine xL 176 YN ?_)<;>refine xL 177 Zu ?_<;>refine Ze ?_)<;>(
 refine cX ?_ ?_<;>intro hb177
 · first|exact bN hb177|(
 refine Zf ?_;(refine yL 178 (Yz Zr) fun v178 hv178=>?_;cases hv178;refine Zv 8 Zr ?_;refine xL 9 Zb ?_;refine Ze ?_)
 refine Wo (k:=4) 8 kR (results51) rfl rfl rfl (Xa rfl) dC rfl ?_;have hno:¬(P=n.src∧Q≠n.snk∧Ri n P false=1∧Ri n Q true=1):=by
  rintro ⟨g1,g2,g3,g4⟩
  first
   |exact hb160 g1
   |exact g2 hb166
   |omega
 rw [SK (by rw [hrs,Uo oM,Up hb154,Uo hno]) (.inr (.inr (.inr hb154)))];rfl)
 · first |exact bN hb177|(
 refine Zf ?_;(refine yL 179 (Yz Zr) fun v179 hv179=>?_;cases hv179;refine xL 180 Za ?_;(refine ZT [8] 181 (call101) (SF n a _ ha hlen hF.fit) (fun v181 p181 h181 hR181=>?_);obtain ⟨w,hw,rfl,rfl⟩:=hR181;have honew:En.one (PV.val w)=true:=hw;refine ZL [(1000,_,_),(8,_,_)] ⟨rfl,rfl,trivial⟩ ?_;refine Zp (Z0 (l:=1000) 600 rfl rfl) fun _=>?_;rw [←hL]);refine ZA [(.int .i64 0),(.slice none 0 0),(.int .i64 0),(.int .i64 0)] 4 20 YC fun h20=>?_;(refine Zv (ps:=[Zc n.pl, .val w,Zc n.src,Zc n.snk]) 20 Zr ?_ (h1:=by simp only [XH,XU,honew];rfl));refine Zn ?_)
 (refine xL 182 (Zd 20 ZD) ?_;refine yL 183 (Zi 20 ZN) fun v183 hv183=>?_;cases hv183;refine xL 184 (YV 600 ZI) (xL 185 Za ?_);refine Ze ?_)
 refine ZE (ι:={q:Nat//q≤L.length}) (fun k=>⟨[(4,_,_),(8,_,_),(13,_,_),(14,_,_),(20,_,_),(183,_,_),(184,_,_),(185, .int .i64 k.1,Zc k.1)],[(8,_,_),(20,h20, .own 29 4 1 [Zc n.pl, .val w,Zc n.src,Zc n.snk]),(600,w, .own 69 3 L.length ((Wt (mvI Q P) L k.1).flatMap cTn))]⟩) (fun k=>L.length-k.1) ⟨0,Xh _⟩ (fun a w H=>H.weaken ⟨rfl,rfl,rfl,rfl,rfl,rfl,rfl,rfl,trivial⟩ ⟨rfl,rfl,rfl,trivial⟩) ?_;rintro ⟨k,hk⟩;dsimp only;refine Zf ?_;(refine xL 186 ZR ?_;refine Ze ?_)
 refine cX ?_ ?_<;>intro hb186
 · first|exact bN hb186|(
 obtain ⟨x,hx⟩:=Zw (show k<L.length by omega);have hg:=Pr (f:=mvI Q P) hx;have e1:=Z' Yr (Wt (mvI Q P) L k) k x hg;have e2:=Yp Yr hg;have e3:(Wt (mvI Q P) L k).length=L.length:=SG _ _ _;have hxm:x∈n.tr:=W5 (a:=a) (by rw [←hL];exact Xd hx);have hxo:=SJ h.ok hxm;unfold GN at hxo;simp only [Xf] at hxo;have hxf:=hF.fit x hxm;obtain ⟨A,hA⟩:∃A,A=((L.take k).map (mvI Q P)).flatMap cTn:=⟨_,rfl⟩;obtain ⟨C,hC⟩:∃C,C=(L.drop (k+1)).flatMap cTn:=⟨_,rfl⟩;(have hAl:A.length=k*3:=by rw [hA,WR Yr,Xe,Xl,XJ hk]);(have hcut:(Wt (mvI Q P) L k).flatMap cTn=A++[ZZ x.lab,pInts x.ins,pInts x.outs]++C:=by rw [SH _ hx,Xt,Xt,X1,hA,hC];rfl);(have hcut2:(Wt (mvI Q P) L (k+1)).flatMap cTn=A++[ZZ x.lab,pInts (Gb Q P x.ins),pInts x.outs]++C:=by rw [Tl _ hx,Xt,Xt,X1,hA,hC];rfl);refine Zf ?_;(refine xL 187 Za (xL 188 (Zt 600 ZI) ?_);refine yL 189 (Zq 600 Z9) fun v189 hv189=>?_;cases hv189;refine ZA [(.string ByteArray.empty),(.slice none 0 0),(.slice none 0 0)] 3 22 Wb fun h22=>?_;refine xL 21 Zb ?_;refine Zv 22 Z9 ?_;refine Ze ?_)
 (refine ZS (fun i=>([10]:List Nat).elem i) [20,22,600] kR ?_<;>refine xD 0 190 rfl (Zd 20 ZD) ?_<;>(refine yD 1 191 rfl (Zi 20 ZN) fun v191 h=>?_;cases h)<;>refine xD 2 192 rfl Za ?_<;>refine xD 3 193 rfl (Zd 22 Yi) ?_<;>(refine yD 4 194 rfl (Zi 22 Zy) fun v194 h=>?_;cases h)<;>(refine yD 5 195 rfl (Yy Zo) fun v195 h=>?_;cases h)<;>(refine yE 6 196 rfl (Yy Zo) fun v196 h=>?_;cases h)<;>(refine Zl 7 kR ?_)<;>(refine Zj rfl fun w9 M9 N9 DQ back=>?_)<;>(refine cS 197 (cA call108 (DI x.ins Q P oM (DG hxo.1.2))) fun v197 h=>?_;cases h)<;>refine Zh (back _ (nrm ?_))<;>refine xE 8 198 rfl (Zt 600 ZI) ?_<;>refine xE 9 199 rfl (Zd 600 Yi) ?_<;>(refine Zl 10 kR ?_)<;>(refine WX rfl rfl kR fun DQ back=>?_)<;>(refine Y3 600 Zy Lk ?_ (hj:=by omega);refine Zp (ZF (l:=600) rfl (show PV.own 69 3 L.length (((Wt (mvI Q P) L k).flatMap cTn).set (k*3+1) (pInts (Gb Q P x.ins)))= .own 69 3 L.length ((Wt (mvI Q P) L (k+1)).flatMap cTn) by rw [hcut,GV hAl,hcut2])) fun _=>?_)<;>refine Zh (back _ (nav ?_))<;>try dsimp only)
 (refine Zm ?_;refine xL 200 ZO (xL 185 Za ?_);refine Ze ?_)
 refine Zk (
  ⟨k+1,Zg hx⟩
  ) (by dsimp only;omega) ⟨rfl,rfl,rfl,rfl,rfl,rfl,rfl,rfl,trivial⟩ ⟨rfl,rfl,rfl,trivial⟩)
 · first|exact bN hb186|(
 refine nav ?_;obtain rfl:k=L.length:=oM;refine Zz (Wl (l:=20) (l':=600) (j:=1) rfl rfl rfl rfl) fun _=>?_;refine Zz (ZF (l:=20) rfl (show PV.own 29 4 1 [Zc n.pl,share (.own 69 3 L.length ((Wt (mvI Q P) L L.length).flatMap cTn)),Zc n.src,Zc n.snk]= .own 29 4 1 (cNt ⟨n.pl,L.map (mvI Q P),n.src,n.snk⟩) by rw [GU,J2 _ _ _ (by rw [Xe])];rfl)) fun _=>?_;(refine Zm ?_;refine yL 201 (Zq 20 Zr) fun v201 hv201=>?_;cases hv201;refine yL 202 (Yy Zo) fun v202 hv202=>?_;cases hv202;refine cD 203 (cA call109 (Gw ⟨n.pl,L.map (mvI Q P),n.src,n.snk⟩ Q (hL▸h.mvI hP))) fun v203 hv203=>?_;clear hv203;refine Zv 8 Zr ?_;refine xL 9 Zb ?_;refine Ze ?_)
 refine Wo (k:=4) 8 kR (results51) rfl rfl rfl (Xa rfl) dC rfl ?_;have hPs:P=n.src:=oM;rw [LX (by rw [hrs,Uo oM,Up hb154,Up ⟨hPs,oM,oM,oM⟩]),hL,Zcb ht hqo oM oM];rfl))))
 · first|exact bN hb154|(
 refine nav ?_;(refine ZS (fun i=>([]:List Nat).elem i) [] kR ?_<;>(refine yD 0 204 rfl (Yz Zr) fun v204 h=>?_;cases h)<;>refine xD 1 205 rfl Za ?_<;>(refine yD 3 207 rfl (Yy Zo) fun v207 h=>?_;cases h)<;>(refine yD 4 208 rfl (Yy Zo) fun v208 h=>?_;cases h)<;>refine xD 5 209 rfl ZQ ?_<;>(refine Zl 2 kR ?_)<;>(refine Zj rfl fun w9 M9 N9 DQ back=>?_)<;>(refine ZT [8] 206 (call101) (SF n a _ ha hlen hF.fit) (fun v206 p206 h206 hR206=>?_);obtain ⟨w,hw,rfl,rfl⟩:=hR206;have honew:En.one (PV.val w)=true:=hw)<;>refine Zh (back _ (nrm ?_))<;>(refine Zl 6 kR ?_)<;>(refine Zj rfl fun w9 M9 N9 DQ back=>?_)<;>(refine Zv (ps:=[Zc n.pl, .val w,Zc n.src,Zc n.snk]) 8 Zr ?_ (h1:=by simp only [XH,XU,honew];rfl);refine Zp (Wl (l:=8) (l':=1000) (j:=1) rfl rfl rfl rfl) fun _=>?_;refine Zp (ZF (l:=8) rfl (show PV.own 29 4 1 [Zc n.pl,share (.own 69 3 (n.tr.eraseIdx a).length ((n.tr.eraseIdx a).flatMap cTn)),Zc n.src,Zc n.snk]= .own 29 4 1 (cNt (OY n a)) by rw [J2 _ _ _ rfl];rfl)) fun _=>?_)<;>refine Zh (back _ (nrm ?_))<;>refine xE 7 9 rfl Zb ?_<;>refine Yu kR (nav ?_)<;>try dsimp only)
 refine Wo (k:=4) 8 kR (results51) rfl rfl rfl (Xa rfl) dC rfl ?_;have h5:apX n r a b=(OY n a,decide (P=Q)):=by
  rw [Uo hb104,Uo hb154] at hrs;by_cases e:P=Q
  · rw [Up e] at hrs;rw [LX hrs,Um e]
  · rw [Uo e] at hrs;rw [Zea hrs ht hst ⟨h1,h2,hb104,hb154⟩,Un e]
 rw [h5];rfl)))))
theorem Pu {n:Nt} (h1:1≤n.pl∧n.pl≤40∧n.tr.length≤60) (h2:0≤n.src∧n.src<n.pl) (h3:0≤n.snk∧n.snk<n.pl) (h4:∀t∈n.tr,(t.lab=ByteArray.empty∨Ki t.lab=true)∧KR n.pl t.ins=true∧KR n.pl t.outs=true):ntOk n=true:=by
 have h5:n.tr.all (GN n.pl)=true:=Xj.2 fun t ht=>by
  obtain ⟨a,b,c⟩:=h4 t ht;unfold GN;rw [b,c];rcases a with a|a
  · rw [Um a];rfl
  · rw [a];simp
 unfold ntOk inB
 rw [h5,Um h1.1,Um h1.2.1,Um h1.2.2,Um h2.1,Um h2.2,Um h3.1,Um h3.2];rfl
theorem SL {N:Int} {t:Tn} (h:GN N t=true):(t.lab=ByteArray.empty∨Ki t.lab=true)∧KR N t.ins=true∧KR N t.outs=true:=by
 unfold GN at h
 simp only [Xf,XO,Ul] at h
 exact ⟨h.1.1,h.1.2,h.2⟩
theorem RdN.dropT {n:Nt} (h:RdN n) (a:Nat):RdN (OY n a):=by
 have hr:=KS h.ok
 have hel:(n.tr.eraseIdx a).length≤n.tr.length:=VT ..
 exact ⟨Pu ⟨hr.1.1,hr.1.2.1,by show (n.tr.eraseIdx a).length≤_;omega⟩ hr.2.1 hr.2.2 fun t ht=>SL (SJ h.ok (W5 ht)),fun t ht=>h.src t (W5 ht),fun t ht=>h.snk t (W5 ht)⟩
theorem Zei {p x y:Int} (hx:x≠p) (hy:y≠p) (h:Yg p x=Yg p y):x=y:=by
 unfold Yg at h
 split at h<;>split at h<;>omega
theorem ZaP {p x:Int} {l:List Int} (hx:x≠p) (h:Yg p x∈noZ p l):x∈l:=by
 unfold noZ at h
 obtain ⟨y,hy,e⟩:=Xq.1 h
 obtain ⟨h1,h2⟩:=Vj.1 hy
 rw [Zei hx (by simpa using h2) e.symm];exact h1
theorem Zej {p N:Int} {l:List Int} (h:KR N l=true) (hp:0≤p∧p<N):KR (N-1) (noZ p l)=true:=by
 refine ZgE (fun x hx=>?_) ?_
 · unfold noZ at hx;obtain ⟨y,hy,rfl⟩:=Xq.1 hx;obtain ⟨h1,h2⟩:=Vj.1 hy;have h2:y≠p:=by simpa using h2
   have:=Ou h h1;unfold Yg;split<;>omega
 · unfold noZ;rw [List.pairwise_map];refine ((DG h).filter (· ≠p)).imp_of_mem fun {x y} hx hy hxy=>?_;have hx2:x≠p:=by simpa using (Vj.1 hx).2
   have hy2:y≠p:=by simpa using (Vj.1 hy).2
   unfold Yg;split<;>split<;>omega
theorem RdN.lessP {n:Nt} (h:RdN n) {p:Int} (hp:0≤p∧p<n.pl) (h1:p≠n.src) (h2:p≠n.snk):RdN (SC n p):=by
 have hr:=KS h.ok
 have key:∀t∈(SC n p).tr,∃u∈n.tr,t=⟨u.lab,noZ p u.ins,noZ p u.outs⟩:=fun t ht=>by
  obtain ⟨u,hu,e⟩:=Xq.1 ht;exact ⟨u,hu,e.symm⟩
 refine ⟨Pu ⟨?_,?_,?_⟩ ?_ ?_ fun t ht=>?_,fun t ht hm=>?_,fun t ht hm=>?_⟩
 · show 1≤n.pl-1;omega
 · show n.pl-1≤40;omega
 · show (n.tr.map _).length≤60;rw [Xe];omega
 · show 0≤Yg p n.src∧Yg p n.src<n.pl-1;unfold Yg;split<;>omega
 · show 0≤Yg p n.snk∧Yg p n.snk<n.pl-1;unfold Yg;split<;>omega
 · obtain ⟨u,hu,rfl⟩:=key t ht;obtain ⟨a,b,c⟩:=SL (SJ h.ok hu);exact ⟨a,Zej b hp,Zej c hp⟩
 · obtain ⟨u,hu,rfl⟩:=key t ht;exact h.src u hu (ZaP (Ne.symm h1) hm)
 · obtain ⟨u,hu,rfl⟩:=key t ht;exact h.snk u hu (ZaP (Ne.symm h2) hm)
theorem Zek {p q N:Int} {l:List Int} (hl:KR N l=true) (hq:0≤q∧q<N):KR N (Gb p q l)=true:=ZgE (fun x hx=>(Ro hx).elim (fun e=>e▸hq) fun h=>Ou hl h) (OA (DG hl))
theorem RdN.movO {n:Nt} (h:RdN n) {a:Nat} {p q:Int} (hq:0≤q∧q<n.pl) (hs:q≠n.src):RdN ⟨n.pl,(n.tr.eraseIdx a).map (Go.Proofs.YtpiemogpblmiiaaGreatDoor.mvO p q),n.src,n.snk⟩:=by
 have hr:=KS h.ok
 have hel:(n.tr.eraseIdx a).length≤n.tr.length:=VT ..
 refine ⟨Pu ⟨hr.1.1,hr.1.2.1,by show ((n.tr.eraseIdx a).map _).length≤_;rw [Xe];omega⟩ hr.2.1 hr.2.2 fun t ht=>?_,fun t ht hm=>?_,fun t ht hm=>?_⟩
 · obtain ⟨u,hu,rfl⟩:=Xq.1 ht;obtain ⟨x,y,z⟩:=SL (SJ h.ok (W5 hu));exact ⟨x,y,Zek z hq⟩
 · obtain ⟨u,hu,rfl⟩:=Xq.1 ht;rcases Ro hm with e|e
   · exact hs e.symm
   · exact h.src u (W5 hu) e
 · obtain ⟨u,hu,rfl⟩:=Xq.1 ht;exact h.snk u (W5 hu) hm
theorem RdN.movI {n:Nt} (h:RdN n) {a:Nat} {p q:Int} (hq:0≤q∧q<n.pl) (hs:q≠n.snk):RdN ⟨n.pl,(n.tr.eraseIdx a).map (Go.Proofs.YtpiemogpblmiiaaGreatDoor.mvI p q),n.src,n.snk⟩:=by
 have hr:=KS h.ok
 have hel:(n.tr.eraseIdx a).length≤n.tr.length:=VT ..
 refine ⟨Pu ⟨hr.1.1,hr.1.2.1,by show ((n.tr.eraseIdx a).map _).length≤_;rw [Xe];omega⟩ hr.2.1 hr.2.2 fun t ht=>?_,fun t ht hm=>?_,fun t ht hm=>?_⟩
 · obtain ⟨u,hu,rfl⟩:=Xq.1 ht;obtain ⟨x,y,z⟩:=SL (SJ h.ok (W5 hu));exact ⟨x,Zek y hq,z⟩
 · obtain ⟨u,hu,rfl⟩:=Xq.1 ht;exact h.src u (W5 hu) hm
 · obtain ⟨u,hu,rfl⟩:=Xq.1 ht;rcases Ro hm with e|e
   · exact hs e.symm
   · exact h.snk u (W5 hu) e
theorem Zgc {n m:Nt} {r:Int} {a b:Nat} (h:RdN n) (hr:1≤r∧r≤5) (ha:if r=2 then (a:Int)<n.pl else a<n.tr.length) (hb:if r=2 then (b:Int)<n.pl else if r=1 then b<n.tr.length else True) (he:Ka n r a b=some m):RdN m∧Lq m<Lq n:=by
 have hg:=KS h.ok
 have herase:∀c,c<n.tr.length→(n.tr.eraseIdx c).length+1=n.tr.length:=fun c hc=>by rw [List.length_eraseIdx,Up hc];omega
 by_cases h1:r=1
 · subst h1;rw [Uo dC] at ha hb;rw [Up rfl] at hb;obtain ⟨t,ht⟩:=Zw ha;obtain ⟨u,hu⟩:=Zw hb;rw [Zeb ht hu] at he;split at he
   · cases he;refine ⟨h.dropT b,?_⟩;have:=herase b hb;show n.pl.toNat+(n.tr.eraseIdx b).length<n.pl.toNat+n.tr.length;omega
   · cases he
 by_cases h2:r=2
 · subst h2;rw [Up rfl] at ha hb;rw [Zec] at he;split at he
   · rename_i hc
     cases he;refine ⟨h.lessP ⟨oM,hb⟩ hc.2.2.2.1 hc.2.2.2.2.1,?_⟩;show (n.pl-1).toNat+(n.tr.map _).length<n.pl.toNat+n.tr.length;rw [Xe];omega
   · cases he
 rw [Uo h2] at ha
 obtain ⟨t,ht⟩:=Zw ha
 have htm:=Xd ht
 cases hs:(Gx t).2.2 with
 |false=>rw [OI ht h1 h2 hs] at he;cases he
 | true =>
   obtain ⟨hl,hp,hq⟩:=ZaK hs;have hin:=E6 h.ok htm;generalize (Gx t).1=p at hp;generalize (Gx t).2.1=q at hq;have hP:=hin.1 p (by rw [hp];exact Xr.2 rfl);have hQ:=hin.2 q (by rw [hq];exact Xr.2 rfl);have hQs:q≠n.src:=fun e=>h.src t htm (by rw [hq,e];exact Xr.2 rfl);have hPs:p≠n.snk:=fun e=>h.snk t htm (by rw [hp,e];exact Xr.2 rfl);have hea:=herase a ha;rw [Ck ht h1 h2 hl hp hq] at he;split at he
   · split at he
     · rename_i hc
       cases he;refine ⟨(h.movO hQ hQs).lessP hP hc.2.1 hPs,?_⟩;show (n.pl-1).toNat+(((n.tr.eraseIdx a).map _).map _).length<n.pl.toNat+n.tr.length;rw [Xe,Xe];omega
     · cases he
   · split at he
     · split at he
       · rename_i hc
         cases he;refine ⟨(h.movI hP hPs).lessP hQ hQs hc.2.1,?_⟩;show (n.pl-1).toNat+(((n.tr.eraseIdx a).map _).map _).length<n.pl.toNat+n.tr.length;rw [Xe,Xe];omega
       · cases he
     · split at he
       · cases he;refine ⟨h.dropT a,?_⟩;show n.pl.toNat+(n.tr.eraseIdx a).length<n.pl.toNat+n.tr.length;omega
       · cases he
def ZhO (n:Nt) (q:Nat):Option (Nt×Stp):=LM (WU n (q+1)) fun a=>LM (if q+1≤2 then WU n (q+1) else 1) fun b=>(Ka n ((q:Int)+1) a b).map (·,q+1,a,b)
theorem Rq (n:Nt):Ja n=LM 5 (ZhO n):=rfl
theorem Zcd {n m:Nt} {r a b:Nat} (h:Ja n=some (m,r,a,b)):∃q,q<5∧r=q+1∧a<WU n (q+1)∧b<(if q+1≤2 then WU n (q+1) else 1)∧Ka n ((q:Int)+1) a b=some m:=by
 rw [Rq] at h
 obtain ⟨q,hq,h1⟩:=GO h
 obtain ⟨a',ha,h2⟩:=GO h1
 obtain ⟨b',hb,h3⟩:=GO h2
 rw [XS] at h3
 obtain ⟨m',h4,h5⟩:=h3
 cases h5
 exact ⟨q,hq,rfl,ha,hb,h4⟩
theorem Zel {n:Nt} {q a:Nat} (h:RdN n) (ha:a<WU n (q+1)):if (q:Int)+1=2 then (a:Int)<n.pl else a<n.tr.length:=by
 have:=KS h.ok
 unfold WU at ha
 split at ha
 · rw [Up oM];omega
 · rw [Uo oM];exact ha
theorem Zem {n:Nt} {q b:Nat} (h:RdN n) (hb:b<(if q+1≤2 then WU n (q+1) else 1)):if (q:Int)+1=2 then (b:Int)<n.pl else if (q:Int)+1=1 then b<n.tr.length else True:=by
 have:=KS h.ok
 unfold WU at hb
 split
 · rw [Up oM,Up oM] at hb;omega
 · split
   · rw [Up oM,Uo oM] at hb;exact hb
   · trivial
theorem OL {n m:Nt} {s:Stp} (h:RdN n) (he:Ja n=some (m,s)):RdN m∧Lq m<Lq n:=by
 obtain ⟨r,a,b⟩:=s
 obtain ⟨q,hq,rfl,ha,hb,h1⟩:=Zcd he
 exact Zgc h oM (Zel h ha) (Zem h hb) h1
theorem SN:∀(f:Nat) (n:Nt) (g:Nat),RdN n→Lq n≤f→Lq n≤g→HC f n=HC g n
 | 0,n,g,h,hf,_=>by
   have:=KS h.ok;unfold Lq at hf;omega
 | f+1,n,0,h,_,hg=>by
   have:=KS h.ok;unfold Lq at hg;omega
 | f +1,n,g+1,h,hf,hg=>by
   rw [HC,HC]
   cases he:Ja n with
   |none=>rfl
   | some p=>
     obtain ⟨m,r,a,b⟩:=p;obtain ⟨h1,h2⟩:=OL h he;dsimp only;rw [SN f m g h1 oM oM]
def Lr (n:Nt):Nt×List Int:=HC (Lq n) n
theorem Zen {n:Nt} (h:RdN n) (he:Ja n=none):Lr n=(n,[]):=by
 unfold Lr
 rw [SN (Lq n) n (Lq n+1) h (Xb _) (X3 _),HC,he]
theorem Zgd {n m:Nt} {r a b:Nat} (h:RdN n) (he:Ja n=some (m,r,a,b)):Lr n=((Lr m).1,[(r:Int),(a:Int),(b:Int)]++(Lr m).2):=by
 obtain ⟨h1,h2⟩:=OL h he
 unfold Lr
 rw [SN (Lq n) n (Lq n+1) h (Xb _) (X3 _),HC,he]
 dsimp only
 rw [SN (Lq n) m (Lq m) h1 oM (Xb _)]
theorem Zis {n:Nt} (h:wfP n):RdN n:=⟨h.1,fun t ht=>(h.2.2.1 t ht).1,fun t ht=>(h.2.2.1 t ht).2⟩
def fsX (n:Nt):Nt×List Int×Bool:=match Ja n with
 |some (m,r,a,b)=>(m,[(r:Int),(a:Int),(b:Int)],true)
 |none=>(n,[],false)
theorem Zge {n:Nt} {r:Int} {a b:Nat} (h:(apX n r a b).2=true):Ka n r a b=some (apX n r a b).1:=by
 unfold apX at h ⊢
 cases hr:Ka n r a b with
 |some m=>rfl
 |none=>rw [hr] at h;cases h
theorem Zgf {n:Nt} {r:Int} {a b:Nat} (h:(apX n r a b).2=false):Ka n r a b=none:=by
 unfold apX at h
 cases hr:Ka n r a b with
 |some m=>rw [hr] at h;cases h
 |none=>rfl
theorem Cn {n m:Nt} {r a b:Nat} (h:Ja n=some (m,r,a,b)):fsX n=(m,[(r:Int),(a:Int),(b:Int)],true):=by unfold fsX;rw [h]
theorem Zeo {n:Nt} (h:Ja n=none):fsX n=(n,[],false):=by unfold fsX;rw [h]
def RZ (n:Nt) (q:Nat):Nat:=if q+1≤2 then WU n (q+1) else 1
set_option maxHeartbeats 4000000 in
theorem Zce (n : Nt) (h:RdN n):AF prog 54 [pNt n] (· = .tup [pNt (fsX n).1,pInts (fsX n).2.1,ZV (fsX n).2.2]):=by
 have hr:=KS h.ok
 have hm2:WU n 2=n.pl.toNat:=by unfold WU;rw [Up rfl]
 refine AF.of_body 51 func54 rfl ntmps54 (Xa rfl) ?_
 intro w0 M0 vs hl hv
 obtain ⟨v0,rfl⟩:=Kl hl
 clear hl hv
 refine Zf ?_
 (refine Yv 1 4 fun h1=>?_;refine ZA [(.int .i64 0),(.slice none 0 0),(.int .i64 0),(.int .i64 0)] 4 2 YC fun h2=>?_;refine xL 3 Zb (xL 4 Zb ?_);refine Zn ?_)
 (refine xL 5 Zb ?_;refine Ze ?_)
 refine ZE (ι:={q:Nat//q≤5∧∀i,i<q→ZhO n i=none}) (fun k=>⟨[(1,_,_),(2,_,_),(5, .int .i64 (k.1+1:Nat),Zc (k.1+1:Nat))],[(1,_,_),(2,_,_)]⟩) (fun k=>5-k.1) ⟨0,oM,oM⟩ (fun a w H=>H.weaken ⟨rfl,rfl,rfl,trivial⟩ ⟨rfl,rfl,trivial⟩) ?_
 rintro ⟨q,hq,hqn⟩
 dsimp only
 refine Zf ?_
 (refine xL 12 Za (xL 13 J5 ?_);refine Ze ?_)
 refine cX ?_ ?_<;>intro hb13
 · first | exact bN hb13|(
 refine Zf ?_;(refine xL 16 (Zd 1 ZD) ?_;refine yL 17 (Zi 1 ZN) fun v17 hv17=>?_;cases hv17;refine xL 18 (Z1 ZI) (xL 6 Zb (xL 7 Zb ?_));refine Zn ?_)
 (refine xL 19 Za (xL 20 ZQ ?_);refine Ze ?_)
 refine Kj (fun c:{c:Int//c=(WU n (q+1):Nat)}=>⟨[(1,padd (sbase h1) 0, .val (padd (sbase h1) 0)),(2,padd (sbase h2) 0, .val (padd (sbase h2) 0)),(5, .int .i64 (q+1:Nat),Zc (q+1:Nat)),(6, .int .i64 c.1,Zc c.1),(7, .int .i64 1,Zc 1)],[(1,h1, .own 29 4 1 (cNt n)),(2,h2, .own 29 4 1 [.val (.int .i64 0), .val (.slice none 0 0), .val (.int .i64 0), .val (.int .i64 0)])]⟩) ?_ ?_
 · refine cX ?_ ?_<;>intro hb20
   · first|exact bN hb20|(
 refine Zf ?_;(refine xL 21 (Zd 1 Z2) ?_;refine yL 22 (Zi 1 Zo) fun v22 hv22=>?_;cases hv22;refine xL 6 Zb ?_;refine Ze ?_)
 first
  |exact ZW ⟨n.pl,by unfold WU;rw [Up oM];omega⟩ ⟨rfl,rfl,rfl,rfl,rfl,trivial⟩ ⟨rfl,rfl,trivial⟩
  |exact ZW ⟨(n.tr.length:Nat),by unfold WU;rw [Uo oM]⟩ ⟨rfl,rfl,rfl,rfl,rfl,trivial⟩ ⟨rfl,rfl,trivial⟩)
   · first|exact bN hb20|(
 refine nav ?_
 first
  |exact ZW ⟨n.pl,by unfold WU;rw [Up oM];omega⟩ ⟨rfl,rfl,rfl,rfl,rfl,trivial⟩ ⟨rfl,rfl,trivial⟩
  |exact ZW ⟨(n.tr.length:Nat),by unfold WU;rw [Uo oM]⟩ ⟨rfl,rfl,rfl,rfl,rfl,trivial⟩ ⟨rfl,rfl,trivial⟩)
 · rintro ⟨c, hc⟩;dsimp only;subst hc;(have hcb:WU n (q+1)≤60:=by unfold WU;split<;>omega);refine Zf ?_;(refine xL 23 Za (xL 24 J5 ?_);refine Ze ?_)
   refine Kj (fun c:{c:Int//c=(RZ n q:Nat)}=>⟨[(1,padd (sbase h1) 0, .val (padd (sbase h1) 0)),(2,padd (sbase h2) 0, .val (padd (sbase h2) 0)),(5, .int .i64 (q+1:Nat),Zc (q+1:Nat)),(6, .int .i64 (WU n (q+1):Nat),Zc (WU n (q+1):Nat)),(7, .int .i64 c.1,Zc c.1)],[(1,h1, .own 29 4 1 (cNt n)),(2,h2, .own 29 4 1 [.val (.int .i64 0), .val (.slice none 0 0), .val (.int .i64 0), .val (.int .i64 0)])]⟩) ?_ ?_
   · refine cX ?_ ?_<;>intro hb24
     · first|exact bN hb24|(
 refine Zf ?_;(refine xL 25 Za (xL 7 Zb ?_);refine Ze ?_)
 first
  |exact ZW ⟨(WU n (q+1):Nat),by unfold RZ;rw [Up oM]⟩ ⟨rfl,rfl,rfl,rfl,rfl,trivial⟩ ⟨rfl,rfl,trivial⟩
  |exact ZW ⟨1,by unfold RZ;rw [Uo oM];rfl⟩ ⟨rfl,rfl,rfl,rfl,rfl,trivial⟩ ⟨rfl,rfl,trivial⟩)
     · first|exact bN hb24|(
 refine nav ?_
 first
  |exact ZW ⟨(WU n (q+1):Nat),by unfold RZ;rw [Up oM]⟩ ⟨rfl,rfl,rfl,rfl,rfl,trivial⟩ ⟨rfl,rfl,trivial⟩
  |exact ZW ⟨1,by unfold RZ;rw [Uo oM];rfl⟩ ⟨rfl,rfl,rfl,rfl,rfl,trivial⟩ ⟨rfl,rfl,trivial⟩)
   · rintro ⟨c, hc⟩;dsimp only;subst hc;(have hob:RZ n q≤60:=by unfold RZ;split<;>omega);have hq5:q<5:=oM;have hq1:((q+1:Nat):Int)=(q:Int)+1:=oM;refine Zf ?_;(refine xL 26 Za (xL 27 Za ?_);refine Ze ?_)
     refine ZE (ι:={a:Nat//a≤WU n (q+1)∧∀i,i<a→LM (RZ n q) (fun b=>(Ka n ((q:Int)+1) i b).map fun m=>((m,q+1,i,b):Nt×Stp))=none}) (fun k=>⟨[(1,_,_),(2,_,_),(5,_,_),(7,_,_),(26,_,_),(27, .int .i64 k.1,Zc k.1)],[(1,_,_),(2,_,_)]⟩) (fun k=>WU n (q+1)-k.1) ⟨0,oM,oM⟩ (fun a w H=>H.weaken ⟨rfl,rfl,rfl,rfl,rfl,rfl,trivial⟩ ⟨rfl,rfl,trivial⟩) ?_;rintro ⟨a,ha,han⟩;dsimp only;refine Zf ?_;(refine xL 28 ZR ?_;refine Ze ?_)
     refine cX ?_ ?_<;>intro hb28
     · first | exact bN hb28|(
 refine Zf ?_;(refine xL 29 Za (xL 8 Zb ?_);refine Zn ?_)
 (refine xL 30 Za (xL 31 Za ?_);refine Ze ?_)
 refine ZE (ι:={b:Nat//b≤RZ n q∧∀i,i<b→Ka n ((q:Int)+1) a i=none}) (fun k=>⟨[(1,_,_),(2,_,_),(5,_,_),(7,_,_),(8,_,_),(26,_,_),(27,_,_),(30,_,_),(31, .int .i64 k.1,Zc k.1)],[(1,_,_),(2,_,_)]⟩) (fun k=>RZ n q-k.1) ⟨0,oM,oM⟩ (fun a w H=>H.weaken ⟨rfl,rfl,rfl,rfl,rfl,rfl,rfl,rfl,rfl,trivial⟩ ⟨rfl,rfl,trivial⟩) ?_;rintro ⟨b,hb,hbn⟩;dsimp only;refine Zf ?_;(refine xL 32 ZR ?_;refine Ze ?_)
 refine cX ?_ ?_<;>intro hb32
 · first |exact bN hb32|(
 have hap:=Zcc n ((q:Int)+1) a b h oM (Zel h oM) (Zem h (show b<RZ n q by omega));rw [←hq1] at hap;(have hbz:∀X,Ka n ((q+1:Nat):Int) a b=X→Ka n ((q:Int)+1) a b=X:=fun X hX=>by rw [←hq1];exact hX);refine Zf ?_;(refine xL 33 Za (xL 9 Zb ?_);refine Zn ?_)
 (refine yL 35 (Zq 1 Zr) fun v35 hv35=>?_;cases hv35;refine xL 36 Za (xL 37 Za (xL 38 Za ?_));refine cP 39 (cA call51 (hap)) fun va39 vb39 hva39 hvb39=>?_;cases hvb39;refine xL 34 Za (xL 40 ZK (xL 41 ZK ?_));refine ZA [(.int .i64 0),(.slice none 0 0),(.int .i64 0),(.int .i64 0)] 4 10 YC fun h10=>?_;refine Zv 10 Zr ?_;refine xL 11 Zb ?_;refine Zn ?_)
 (refine xL 42 Za ?_;refine Ze ?_)
 refine cX ?_ ?_<;>intro hb42
 · first|exact bN hb42|(
 refine Zf ?_;(refine yL 43 (Zq 10 Zr) fun v43 hv43=>?_;cases hv43;refine xL 44 Za (xL 45 Za (xL 46 Za ?_));refine Px (xs:=[_,_,_]) 47 ZB fun h47 ho47=>?_;refine Zv 2 Zr ?_;refine xL 3 Zb (xL 4 Zb ?_);refine Ze ?_)
 refine Wm (En.freeze (l:=47) (t:=3) rfl rfl) fun _=>?_;have h1:=hbz _ (Zge hb42);have h2:ZhO n q=some ((apX n ((q+1:Nat):Int) a b).1,q+1,a,b):=J0 (show a<WU n (q+1) by omega) (J0 (show b<RZ n q by omega) (by rw [h1];rfl) fun i hi=>by rw [hbn i hi];rfl) han;have h3:=Cn ((Rq n).trans (J0 hq5 h2 hqn));refine T5 (k:=4) 2 kR (results54) rfl rfl rfl rfl (Xa rfl) dC rfl ?_;rw [h3];rfl)
 · first|exact bN hb42|(
 refine Zf ?_;(refine xL 48 ZO (xL 31 Za ?_);refine Ze ?_)
 refine Zk (
  ⟨b+1,oM,fun i hi=>by
   by_cases e:i=b
   · subst e;exact hbz _ (Zgf hb42)
   · exact hbn i oM⟩
  ) (by dsimp only;omega) ⟨rfl,rfl,rfl,rfl,rfl,rfl,rfl,rfl,rfl,trivial⟩ ⟨rfl,rfl,trivial⟩))
 · first|exact bN hb32|(
 refine Zf ?_;(refine xL 49 ZO (xL 27 Za ?_);refine Ze ?_)
 refine Zk (
  ⟨a+1,oM,fun i hi=>by
   by_cases e:i=a
   · subst e;exact Jm fun b' hb'=>by rw [hbn b' oM];rfl
   · exact han i oM⟩
  ) (by dsimp only;omega) ⟨rfl,rfl,rfl,rfl,rfl,rfl,trivial⟩ ⟨rfl,rfl,trivial⟩))
     · first|exact bN hb28|(
 refine Zf ?_;(refine xL 14 Za (xL 15 ZO (xL 5 Zb ?_));refine Ze ?_)
 refine Zk (
  ⟨q+1,oM,fun i hi=>by
   by_cases e:i=q
   · subst e;exact Jm fun a' ha'=>han a' oM
   · exact hqn i oM⟩
  ) (by dsimp only;omega) ⟨rfl,rfl,rfl,trivial⟩ ⟨rfl,rfl,trivial⟩))
 · first|exact bN hb13|(
 refine Zf ?_;(refine yL 50 (Zq 1 Zr) fun v50 hv50=>?_;cases hv50;refine Zv 2 Zr ?_;refine xL 3 Zb (xL 4 Zb ?_);refine Ze ?_)
 refine Wm (CC (t:=3) rfl) fun _=>?_;have h3:=Zeo ((Rq n).trans (Jm fun i hi=>hqn i oM));refine T5 (k:=4) 2 kR (results54) rfl rfl rfl rfl (Xa rfl) dC rfl ?_;rw [h3];rfl)
noncomputable def rdX (n:Nt):Nt×List Int×Int:=if ntOk n=true then (if wfD n=true then ((Lr n).1,(Lr n).2,0) else (nt0,[],19)) else (nt0,[],1)
set_option maxHeartbeats 4000000 in
theorem ζt (n:Nt) (hf:Hr n.tr):AF prog 19 [pNt n] (· = .tup [pNt (rdX n).1,pInts (rdX n).2.1,Zc (rdX n).2.2]):=by
 refine AF.of_body 35 func19 rfl ntmps19 (Xa rfl) ?_
 intro w0 M0 vs hl hv
 obtain ⟨v0,rfl⟩:=Kl hl
 clear hl hv
 refine Zf ?_
 (refine Yv 1 4 fun h1=>?_;refine ZA [(.int .i64 0),(.slice none 0 0),(.int .i64 0),(.int .i64 0)] 4 2 YC fun h2=>?_;refine xL 3 Zb (xL 4 Zb ?_);refine Zn ?_)
 (refine yL 10 (Zq 1 Zr) fun v10 hv10=>?_;cases hv10;refine cS 11 (cA call41 (Tf n hf)) fun v11 hv11=>?_;cases hv11;refine xL 12 Ym (xL 9 Zb ?_);refine Ze ?_)
 refine cX ?_ ?_<;>intro hb9
 · first|exact bN hb9|(
 refine Zf ?_;(refine xL 13 (Z3 KF) ?_;(refine Zp (WT (t:=13) (p':=pNt nt0) rfl Rh) fun _=>?_;refine Zv 2 Zr ?_);refine xL 3 Zb (xL 4 Zb ?_);refine Ze ?_)
 refine Wm (CC (t:=3) rfl) fun _=>?_;refine T5 (k:=4) 2 kR (results19) rfl rfl rfl rfl (Xa rfl) dC rfl ?_;rw [rdX,Uo (by simpa using hb9)];rfl)
 · first | exact bN hb9|(
 refine Zf ?_;(refine yL 15 (Zq 1 Zr) fun v15 hv15=>?_;cases hv15;refine cS 16 (cA call42 (SA n hf)) fun v16 hv16=>?_;cases hv16;refine xL 17 Ym (xL 14 Zb ?_);refine Ze ?_)
 refine cX ?_ ?_<;>intro hb14
 · first|exact bN hb14|(
 refine Zf ?_;(refine xL 18 (Z3 KF) ?_;(refine Zp (WT (t:=18) (p':=pNt nt0) rfl Rh) fun _=>?_;refine Zv 2 Zr ?_);refine xL 3 Zb (xL 4 Zb ?_);refine Ze ?_)
 refine Wm (CC (t:=3) rfl) fun _=>?_;refine T5 (k:=4) 2 kR (results19) rfl rfl rfl rfl (Xa rfl) dC rfl ?_;rw [rdX,Up (by simpa using hb9),Uo (by simpa using hb14)];rfl)
 · first |exact bN hb14|(
 refine nav ?_;(have hok:ntOk n=true:=by simpa using hb9);(have hwf:wfD n=true:=by simpa using hb14);have hrd:=Zis (ZfV.1 hwf);have hF:=hrd.fit;(have hto:rdX n=((Lr n).1,(Lr n).2,0):=by rw [rdX,Up hok,Up hwf]);(refine Zm ?_;refine yL 19 (Zq 1 Zr) fun v19 hv19=>?_;cases hv19;(refine ZT [1,2] 20 (call53) (Lj n _ hF.len hF.fit) (fun v20 p20 h20 hR20=>?_);obtain ⟨u,hu,rfl,rfl⟩:=hR20;have honeu:En.one (PV.val u)=true:=hu);(refine Zv (ps:=[Zc n.pl, .val u,Zc n.src,Zc n.snk]) 1 Zr ?_ (h1:=by simp only [XH,XU,honeu];rfl);refine Zp (Wl (l:=1) (l':=1000) (j:=1) rfl rfl rfl rfl) fun _=>?_;refine Zp (ZF (l:=1) rfl (show PV.own 29 4 1 [Zc n.pl,share (.own 69 3 n.tr.length (n.tr.flatMap cTo)),Zc n.src,Zc n.snk]= .own 29 4 1 (cNt n) by rw [Rm _ _ _ rfl];rfl)) fun _=>?_);refine Zn ?_)
 (refine xL 5 Zb ?_;refine Ze ?_)
 refine Zz (WF 200 3 1 rfl) fun _=>?_;refine ZE (ι:={q:Nt×List Int×Value//RdN q.1∧q.2.2.oneCell'=true∧Lr n=((Lr q.1).1,q.2.1++(Lr q.1).2)∧q.2.1.length≤1000-3*Lq q.1∧Lq q.1≤100}) (fun k=>⟨[(1,_,_),(2,_,_),(5,k.1.2.2, .val k.1.2.2)],[(2,_,_),(1,h1, .own 29 4 1 (cNt k.1.1)),(200,k.1.2.2, .own 3 1 k.1.2.1.length (k.1.2.1.map Zc))]⟩) (fun k=>Lq k.1.1) ⟨(n,[], .slice none 0 0),hrd,rfl,rfl,Xh _,by have:=KS hok;show n.pl.toNat+n.tr.length≤100;omega⟩ (fun a w H=>H.weaken ⟨rfl,rfl,rfl,trivial⟩ ⟨rfl,rfl,rfl,trivial⟩) ?_;rintro ⟨⟨m,l,u2⟩,hm,hu2,hrel,hll,hbm⟩;dsimp only;dsimp only at hm hu2 hrel hll hbm;have honeu2:En.one (PV.val u2)=true:=hu2;refine Zf ?_;(refine yL 22 (Zq 1 Zr) fun v22 hv22=>?_;cases hv22;refine Zbn 23 (cA (call54) (Zce m hm)) (fun va23 vb23 vc23 hva23 hvb23 hvc23=>?_);cases hvc23;refine xL 21 Za (xL 24 ZK (xL 25 ZK (xL 26 ZK ?_)));refine ZA [(.int .i64 0),(.slice none 0 0),(.int .i64 0),(.int .i64 0)] 4 6 YC fun h6=>?_;refine Zv 6 Zr ?_;refine xL 7 Zb (xL 8 Zb ?_);refine Zn ?_)
 (refine xL 27 Za (xL 28 Ym ?_);refine Ze ?_)
 refine cX ?_ ?_<;>intro hb28
 · first|exact bN hb28|(
 refine Zf ?_;(refine yL 29 (Zq 1 Zr) fun v29 hv29=>?_;cases hv29;refine xL 30 Za ?_;refine Zv 2 Zr ?_;refine xL 3 Zb (xL 4 Zb ?_);refine Ze ?_)
 have hfn:Ja m=none:=by
  unfold fsX at hb28
  cases hc:Ja m with
  |none=>rfl
  |some p=>obtain ⟨m',r,a,b⟩:=p;rw [hc] at hb28;cases hb28
 refine Wm (En.freeze (l:=200) (t:=3) rfl rfl) fun _=>?_;refine Wm (Yk (t:=3) rfl (WO 3 _ _ rfl)) fun _=>?_;refine T5 (k:=4) 2 kR (results19) rfl rfl rfl rfl (Xa rfl) dC rfl ?_;rw [hto,hrel,Zen hm hfn,Vc];rfl)
 · first|exact bN hb28|(
 obtain ⟨m',r,a,b,hfs⟩:∃m' r a b,Ja m=some (m',r,a,b):=by
  unfold fsX at hb28
  cases hc:Ja m with
  |none=>rw [hc] at hb28;cases hb28
  |some p=>obtain ⟨m',r,a,b⟩:=p;exact ⟨m',r,a,b,rfl⟩
 rw [Cn hfs];dsimp only;obtain ⟨hm',hlt⟩:=OL hm hfs;have hgo:=Zgd hm hfs;refine nav ?_;(refine ZS (fun i=>([]:List Nat).elem i) [6] kR ?_<;>(refine yD 0 31 rfl (Zq 6 Zr) fun v31 h=>?_;cases h)<;>refine xD 1 32 rfl Za ?_<;>refine xE 2 33 rfl Za ?_<;>(refine Zl 3 kR ?_)<;>(refine Zj rfl fun w9 M9 N9 DQ back=>?_)<;>(refine CB 200 34 ZB (fun h34 ho34=>?_) rfl rfl (hlen:=by simp only [Xc,Xk];omega) (hb:=by simp only [Xc,Xk];omega);have hone34:En.one (PV.val h34)=true:=ho34;refine Zp (Z0 (l:=34) 200 rfl rfl) fun _=>?_;refine Zp (ZF (l:=200) rfl (show PV.own 3 1 (l.length+[(r:Int),(a:Int),(b:Int)].length) (l.map Zc++[(r:Int),(a:Int),(b:Int)].map Zc)= .own 3 1 (l++[(r:Int),(a:Int),(b:Int)]).length ((l++[(r:Int),(a:Int),(b:Int)]).map Zc) by rw [X2,Xg])) fun _=>?_)<;>refine Zh (back _ (nrm ?_))<;>(refine Zl 4 kR ?_)<;>(refine Zj rfl fun w9 M9 N9 DQ back=>?_)<;>refine Zv 1 Zr ?_<;>refine Zh (back _ (nrm ?_))<;>refine xE 5 5 rfl Zb ?_<;>refine Yu kR (nav ?_)<;>try dsimp only)
 refine Zk (
  ⟨(m',l++[(r:Int),(a:Int),(b:Int)],h34),hm',ho34,by dsimp only;rw [hrel,hgo];dsimp only;rw [XC],by dsimp only;rw [Xg];simp only [Xc,Xk];omega,by dsimp only;omega⟩
  ) (by dsimp only;omega) ⟨rfl,rfl,rfl,trivial⟩ ⟨rfl,rfl,rfl,trivial⟩)))
open Go.RowKit Go.Cb Go.En Go.ChangeShapes Go.WideShapes Go.ChangeAt
theorem ζu:AggT prog 65 2=true:=by kernel_rfl
theorem Zcf:ZeroT prog 65 (.agg #[(.int .i64 0),(.int .i64 0)]):=by unfold ZeroT;kernel_rfl
def JH:List UInt8:=[115,101,113,40,97,44,32,97,110,100,40,98,44,32,99,41,41]
theorem ZhP:(K5 JH).2=((0,0),0):=by decide+kernel
theorem Rs:Jf (K5 JH).1=true:=by decide+kernel
theorem ZaQ:ntOk (Ku (K5 JH).1)=true:=by decide+kernel
theorem Zgg:wfB (Ku (K5 JH).1)=true:=by decide+kernel
theorem Zgh:(Ku (K5 JH).1).pl=7:=by decide+kernel
theorem Zgi:(Ku (K5 JH).1).tr.length=5:=by decide+kernel
theorem Zgj:JJ (toR (Ku (K5 JH).1)).1 (K5 JH).1=true:=by decide+kernel
theorem Zep:(toR (Ku (K5 JH).1)).2=0:=by decide+kernel
def Ln:Nt:=⟨4,[⟨⟨#[97]⟩,[0],[2]⟩,⟨ByteArray.empty,[2],[3]⟩,⟨⟨#[98]⟩,[3],[1]⟩],0,1⟩
theorem Zeq:ntOk Ln=true:=by decide+kernel
theorem Zer:wfB Ln=true:=by decide+kernel
theorem Zes:(Lr Ln).1.pl=3:=by decide+kernel
theorem Zet:(Lr Ln).1.tr.length=2:=by decide+kernel
theorem Zeu:(Lr Ln).2=[3,1,0]:=by decide+kernel
theorem Zcg:Hr Ln.tr:=fun x hx=>by
 have h:∀y∈Ln.tr,y.lab.size≤40:=by decide+kernel
 have:=h x hx
 omega
theorem Zgk:AF prog 31 [pB JH] (· = .tup [pTr (K5 JH).1, .agg [Zc 0,Zc 0],Zc 0]):=by
 have:=Zdx JH (fun ⟨c,hc,hd⟩=>by
  have h1:JH.all (fun c=> !KI c)=true:=dC;have:=Xj.1 h1 c hc;rw [hd] at this;cases this) dC
 rw [show K5 JH=((K5 JH).1,((0,0),0)) from Prod.ext rfl ZhP] at this
 exact this
theorem ZhQ:AF prog 10 [pTr (K5 JH).1] (· = .tup [pNt (Ku (K5 JH).1),Zc 0]):=by
 have:=RO (K5 JH).1 (Sa _ (TA Rs) (by have:=SV Rs;omega))
 rw [frX,Up Rs,Ox,Up ZaQ] at this
 exact this
theorem ZhR:AF prog 14 [pNt (Ku (K5 JH).1)] (· = .tup [pTr (K5 JH).1,Zc 0]):=by
 have:=Zb4 (Ku (K5 JH).1) (HA (TA Rs))
 rw [toX,Up ZaQ,Up (Po (ZdC Zgg)),Zep,Ww.1 Zgj] at this
 exact this
theorem ZhS:AF prog 19 [pNt Ln] (· = .tup [pNt (Lr Ln).1,pInts [3,1,0],Zc 0]):=by
 have:=ζt Ln Zcg
 rw [rdX,Up Zeq,Up (Po (ZdC Zer)),Zeu] at this
 exact this
theorem Zev:AF prog 16 [pTr (K5 JH).1,pTr (K5 JH).1] (· =ZV true):=by
 have hf:=Sa _ (TA Rs) (by have:=SV Rs;omega)
 have h1:=ZcJ _ _ hf hf
 rwa [Ww.2 rfl] at h1
theorem ZhT:AF prog 21 [pInts [3,1,0],pInts [3,1,0]] (· =ZV true):=KX [3,1,0] [3,1,0]
theorem ζv:AF prog 8 [] (· =ZV true):=by
 have hP:=Zgk
 have hF:=ZhQ
 have hT:=ZhR
 have hR:=ZhS
 have hS:=Zev
 have hN1:=Zgh
 have hN2:=Zgi
 have hM1:=Zes
 have hM2:=Zet
 generalize Ku (K5 JH).1=NN at hF hT hN1 hN2
 generalize (Lr Ln).1=MM at hR hM1 hM2
 generalize (K5 JH).1=TT at hP hF hT hS
 refine AF.of_body 88 func8 rfl ntmps8 (Xa rfl) ?_
 intro w0 M0 vs hl hv
 obtain rfl:=XK hl
 clear hl hv
 refine Zf ?_
 (refine xL 0 Zb ?_;refine Zn ?_)
 (refine Zbn 12 (cA (call31) hP) (fun va12 vb12 vc12 hva12 hvb12 hvc12=>?_);cases hvc12;refine xL 11 Za (xL 13 ZK (xL 14 ZK (xL 15 ZK ?_)));refine ZA [(.int .i64 0),(.string ByteArray.empty),(.slice none 0 0)] 3 1 Kg fun h1=>?_;refine ZA [(.int .i64 0),(.int .i64 0)] 2 2 Zcf fun h2=>?_;refine Zv 1 ZH ?_;refine Zv 2 ζu ?_;refine xL 3 Zb ?_;refine Zn ?_)
 (refine yL 17 (Zq 1 ZH) fun v17 hv17=>?_;cases hv17;refine cP 18 (cA call10 (hF)) fun va18 vb18 hva18 hvb18=>?_;cases hvb18;refine xL 16 Za (xL 19 ZK (xL 20 ZK ?_));refine ZA [(.int .i64 0),(.slice none 0 0),(.int .i64 0),(.int .i64 0)] 4 4 YC fun h4=>?_;refine Zv 4 Zr ?_;refine xL 5 Zb ?_;refine Zn ?_)
 (refine yL 22 (Zq 4 Zr) fun v22 hv22=>?_;cases hv22;refine cP 23 (cA call14 (hT)) fun va23 vb23 hva23 hvb23=>?_;cases hvb23;refine xL 21 Za (xL 24 ZK (xL 25 ZK ?_));refine ZA [(.int .i64 0),(.string ByteArray.empty),(.slice none 0 0)] 3 6 Kg fun h6=>?_;refine Zv 6 ZH ?_;refine xL 7 Zb ?_;refine Zn ?_)
 ((refine Ye (kk:=1) 27 ZB fun h27 ho27=>?_;refine Zp (En.freeze (l:=27) (t:=27) rfl rfl) fun _=>?_;refine Zp (Yk (t:=27) (p':=pInts [0]) rfl rfl) fun _=>?_);(refine Ye (kk:=1) 28 ZB fun h28 ho28=>?_;refine Zp (En.freeze (l:=28) (t:=28) rfl rfl) fun _=>?_;refine Zp (Yk (t:=28) (p':=pInts [2]) rfl rfl) fun _=>?_);refine xL 29 (Z3 J1) ?_;(refine Ye (kk:=1) 30 ZB fun h30 ho30=>?_;refine Zp (En.freeze (l:=30) (t:=30) rfl rfl) fun _=>?_;refine Zp (Yk (t:=30) (p':=pInts [2]) rfl rfl) fun _=>?_);(refine Ye (kk:=1) 31 ZB fun h31 ho31=>?_;refine Zp (En.freeze (l:=31) (t:=31) rfl rfl) fun _=>?_;refine Zp (Yk (t:=31) (p':=pInts [3]) rfl rfl) fun _=>?_);refine xL 32 (Z3 J1) ?_;(refine Ye (kk:=1) 33 ZB fun h33 ho33=>?_;refine Zp (En.freeze (l:=33) (t:=33) rfl rfl) fun _=>?_;refine Zp (Yk (t:=33) (p':=pInts [3]) rfl rfl) fun _=>?_);(refine Ye (kk:=1) 34 ZB fun h34 ho34=>?_;refine Zp (En.freeze (l:=34) (t:=34) rfl rfl) fun _=>?_;refine Zp (Yk (t:=34) (p':=pInts [1]) rfl rfl) fun _=>?_);refine xL 35 (Z3 J1) ?_;(refine Jh (kk:=3) (xs:=[_,_,_]) (cs:=[[_,_,_],[_,_,_],[_,_,_]]) 36 KE fun h36 ho36=>?_;refine Zp (En.freeze (l:=36) (t:=36) rfl rfl) fun _=>?_;refine Zp (Yk (t:=36) (p':=JS Ln.tr) rfl rfl) fun _=>?_);refine xL 37 (Z3 KF) ?_;refine Zbn 38 (cA (call19) hR) (fun va38 vb38 vc38 hva38 hvb38 hvc38=>?_);cases hvc38;refine xL 26 Za (xL 39 ZK (xL 40 ZK (xL 41 ZK ?_)));refine ZA [(.int .i64 0),(.slice none 0 0),(.int .i64 0),(.int .i64 0)] 4 8 YC fun h8=>?_;refine Zv 8 Zr ?_;refine xL 9 Zb (xL 10 Zb ?_);refine Ze ?_)
 obtain ⟨pN,tN,sN,kN⟩:=NN
 dsimp only at hN1 hN2
 subst hN1
 obtain ⟨pM,tM,sM,kM⟩:=MM
 dsimp only at hM1 hM2
 subst hM1
 (refine Zm ?_<;>refine xL 42 Za (xL 43 G5 (xL 44 Za (xL 45 Za (xL 46 G5 (xL 47 Zu (xL 48 Za (xL 49 (Zd 4 Z2) ?_)))))))<;>(refine yL 50 (Zi 4 Zo) fun v50 h=>?_;cases h)<;>refine xL 51 G5 (xL 52 Zu (xL 53 Za (xL 54 (Zd 4 ZD) ?_)))<;>(refine yL 55 (Zi 4 ZN) fun v55 h=>?_;cases h)<;>refine xL 56 (Z1 ZI) ?_<;>(rw [show ((tN.length:Nat):Int)=5 by rw [hN2];rfl];refine xL 57 G5 ?_)<;>refine xL 58 Zu (xL 59 Za (xL 60 Za (xL 61 G5 (xL 62 Zu (xL 63 Za ?_)))))<;>(refine yL 64 (Zq 1 ZH) fun v64 h=>?_;cases h)<;>(refine yL 65 (Zq 6 ZH) fun v65 h=>?_;cases h)<;>(refine cS 66 (cA call16 (hS)) fun v66 h=>?_;cases h)<;>refine xL 67 Zu (xL 68 Za (xL 69 Za (xL 70 G5 (xL 71 Zu (xL 72 Za (xL 73 (Zd 8 Z2) ?_))))))<;>(refine yL 74 (Zi 8 Zo) fun v74 h=>?_;cases h)<;>refine xL 75 G5 (xL 76 Zu (xL 77 Za (xL 78 (Zd 8 ZD) ?_)))<;>(refine yL 79 (Zi 8 ZN) fun v79 h=>?_;cases h)<;>refine xL 80 (Z1 ZI) ?_<;>(rw [show ((tM.length:Nat):Int)=2 by rw [hM2];rfl];refine xL 81 G5 ?_)<;>refine xL 82 Zu (xL 83 Za (xL 84 Za ?_))<;>(refine Px (xs:=[_,_,_]) 85 ZB fun h85 ho85=>?_;refine Zp (En.freeze (l:=85) (t:=85) rfl rfl) fun _=>?_;refine Zp (Yk (t:=85) (p':=pInts [3,1,0]) rfl rfl) fun _=>?_)<;>(refine cS 86 (cA call21 (ZhT)) fun v86 h=>?_;cases h)<;>refine xL 87 Zu (xL 0 Zb ?_)<;>refine Ze ?_)<;>(
 exact Zx (results8) rfl rfl)
theorem Zit:Dec prog 3 1 (fun n:Int=>[Zc n]) (fun n=> -9223372036854775808≤n∧n≤9223372036854775807):=Zf2 underlying3 kR
theorem Ziu:Dec prog 9 1 (fun s:ByteArray=>[ZZ s]) (fun s=>s.size≤140737488355328):=Zf3 underlying9 kR
theorem Zch (fuel:Nat):HE prog 24 3 cN FitT fuel:=by
 induction fuel using Nat.strongRecOn with
 | _ fuel ih=>
   intro H e w spare held cs x h hwt;obtain ⟨xs,n,rfl,rfl,hlen,hxl,hf⟩:=DataW.trod_struct underlying24 h;simp only [DataW.weights,underlying24] at hwt;match xs,hxl with
   |[y0,y1,y2],_=>
   have g0:DataW.trod e prog w 0 spare held n 3 ((cs.drop 0).take (prog.cellsOf 3))=some y0:=hf 0 _ rfl;have g1:DataW.trod e prog w 0 spare held n 9 ((cs.drop 1).take (prog.cellsOf 9))=some y1:=hf 1 _ rfl;have g2:DataW.trod e prog w 0 spare held n 22 ((cs.drop 2).take (prog.cellsOf 22))=some y2:=hf 2 _ rfl;have hD0:HE prog 3 1 (fun n:Int=>[Zc n]) (fun n=> -9223372036854775808≤n∧n≤9223372036854775807) n:=Dec.toF Zit n;have hD1:HE prog 9 1 (fun s:ByteArray=>[ZZ s]) (fun s=>s.size≤140737488355328) n:=Dec.toF Ziu n;have hsl:HE prog 22 1 (fun l:List Nd=>[PV.sl l.length (l.flatMap cN)]) (fun l=>l.length≤140737488355328∧∀x∈l,FitT x) n:=
    ζm underlying22 dC (Xa kR) kR TC (fun m hm=>ih m oM)
   obtain ⟨a,ha,A⟩:=TK (k:=1) (enc:=fun n:Int=>[Zc n]) (fit:=fun n:Int=> -9223372036854775808≤n∧n≤9223372036854775807) kR (fun _=>rfl) hD0 g0 (fun n hn=>hwt n (Kb prog 0 rfl rfl hn));obtain ⟨b,hb,B⟩:=TK (k:=1) (enc:=fun s:ByteArray=>[ZZ s]) (fit:=fun s:ByteArray=>s.size≤140737488355328) kR (fun _=>rfl) hD1 g1 (fun n hn=>hwt n (Kb prog 1 rfl rfl hn));obtain ⟨l,hl,C⟩:=TK (k:=1) (enc:=fun l:List Nd=>[PV.sl l.length (l.flatMap cN)]) (fit:=fun l:List Nd=>l.length≤140737488355328∧∀x∈l,FitT x) kR (fun _=>rfl) hsl g2 (fun n hn=>hwt n (Kb prog 2 rfl rfl hn));refine ⟨.mk a b l, .mk _ hl.1 hb ha.1 ha.2 hl.2,by rw [hlen];kernel_rfl,fun i v p hv hp=>?_⟩;match i with
   |0=>exact A 0 v p hv (by simpa [cN,Nd.op] using hp)
   |1=>exact B 0 v p hv (by simpa [cN,Nd.act] using hp)
   |2=>exact C 0 v p hv (by rw [←hp];show some _=some _;unfold YK;rw [We];rfl)
   |i+3=>simp [cN] at hp
theorem Ziv:Dec prog 24 3 cN FitT where
 size:=by kernel_rfl
 len:=TC
 dec:=fun e w spare held fuel cs x h hw=>Zch fuel e w spare held cs x h hw
theorem Rt {P:Program} {st:St} {o:Oper} {x y:Operand} {q q':PV} {t t':TypeId} {a:Int} (ho:o.op= .binOp .neq t x y t':=by exact rfl) (hx:ev st.slots x=some (.int .i64 a,q):=by exact rfl) (hy:ev st.slots y=some (.int .i64 a,q'):=by exact rfl):YE P st o (· = .bool false) (.val (.bool false)):=by
 have h:=YN (P:=P) ho hx hy
 rwa [show decide (a≠a)=false from by simp] at h
theorem Zgl {P:Program} {st:St} {o:Oper} {x y:Operand} {q q':PV} {t t':TypeId} {a:ByteArray} (ho:o.op= .binOp .neq t x y t':=by exact rfl) (hx:ev st.slots x=some (.string a,q):=by exact rfl) (hy:ev st.slots y=some (.string a,q'):=by exact rfl):YE P st o (· = .bool false) (.val (.bool false)):=by
 have h:=Lv (P:=P) ho hx hy
 rwa [show (!(a.toList==a.toList))=false from by simp] at h
theorem ζw :∀(t:Nd),FitT t→∀(d:Int),0≤d→d≤4611686018427387904→AF prog 9 [pTr t,Zc d] (· =Zc (PH t d)):=Nd.ind fun o a l ih hf d hd1 hd2=>by
 have hl:=hf.len
 have hp:=hf.p
 have ha:=hf.sz
 simp only [Nd.l,Nd.act] at hl hp ha
 refine AF.of_body 38 func9 rfl ntmps9 (Xa rfl) ?_
 intro w0 M0 vs hl hv
 obtain ⟨v0,v1,rfl⟩:=KG hl
 obtain rfl:=hv 1 _ _ rfl rfl
 clear hl hv
 have e0:pTr (.mk o a l)= .agg [Zc o,ZZ a, .sl l.length (Z6 l)]:=rfl
 rw [e0]
 refine Zf ?_
 (refine Yv 2 3 fun h2=>?_;refine xL 4 Zb ?_;refine Zn ?_)
 (refine xL 5 Zb ?_;refine Zn ?_)
 (refine xL 7 Za (xL 8 Wy (xL 9 Za ?_))<;>(refine bLd 9 (fun hb9=>?_) (fun hb9=>?_)<;>(first|refine kL 10 ?_|refine xL 10 (Zd 2 LS) ?_))<;>(first|refine kL 11 ?_|(refine yL 11 (Zi 2 WC) fun v11 h=>?_;cases h))<;>(first|refine kL 12 ?_|refine xL 12 (Wn underlying9) ?_)<;>(first|refine kL 13 ?_|refine xL 13 Wy ?_)<;>refine xL 14 Zu ?_<;>refine Ze ?_)<;>(
 refine cX ?_ ?_<;>intro hb14
 · first|exact bN hb14|(
 refine Zf ?_;(refine xL 4 Zb ?_;refine Ze ?_)
 refine Zx (results9) rfl ?_;rw [PH,Up oM])
 · first |exact bN hb14|(
 have hb:¬(80<d∨100<(a.size:Int)):=oM;refine Zf ?_;(refine xL 6 Zb ?_;refine Ze ?_)
 refine ZE (ι:={q:Nat×Int//q.1≤l.length∧0≤q.2∧q.2≤1600∧TG l (d+1) 1=TG (l.drop q.1) (d+1) q.2}) (fun k=>⟨[(1,_,_),(2,_,_),(6, .int .i64 k.1.1,Zc k.1.1),(5, .int .i64 k.1.2,Zc k.1.2)],[(2,_,_)]⟩) (fun k=>l.length-k.1.1) ⟨(0,1),by dsimp only;omega,by dsimp only;omega,by dsimp only;omega,rfl⟩ (fun a w H=>H.weaken ⟨rfl,rfl,rfl,rfl,trivial⟩ ⟨rfl,trivial⟩) ?_;rintro ⟨⟨k,n⟩,hk,hn1,hn2,hq⟩;dsimp only;dsimp only at hk hn1 hn2 hq;refine Zf ?_;(refine xL 15 Za (xL 16 (Zd 2 Ya) ?_)<;>(refine yL 17 (Zi 2 Yq) fun v17 h=>?_;cases h)<;>refine xL 18 (Z1 YB) (xL 19 ZR (xL 20 Za ?_))<;>(refine bLd 20 (fun hb20=>?_) (fun hb20=>?_)<;>(first|refine kL 21 ?_|refine xL 21 Za ?_))<;>(first|refine kL 22 ?_|refine xL 22 ZR ?_)<;>refine xL 23 Zu ?_<;>refine Ze ?_)<;>(
 refine cX ?_ ?_<;>intro hb23
 · first|exact bN hb23|(
 obtain ⟨x,hx⟩:=Zw (show k<l.length by omega);have e1:=Z5 hx;have e2:=Yj hx;have hxm:=Xd hx;have hbd:=ZeY x (d+1);refine Zf ?_;(refine xL 26 Za (xL 27 (Zd 2 Ya) ?_);refine yL 28 (Zi 2 Yq) fun v28 hv28=>?_;cases hv28;refine xL 29 Za (xL 30 (ZP YB) ?_);refine yL 31 (Yz ZH) fun v31 hv31=>?_;cases hv31;refine xL 32 Za (xL 33 ZO ?_);refine cS 34 (cA call9 (ih x hxm (hp x hxm) (d+1) oM oM)) fun v34 hv34=>?_;cases hv34;refine xL 35 ZO (xL 5 Zb ?_);refine Zn ?_)
 (refine xL 24 Za (xL 25 ZO (xL 6 Zb ?_));refine Ze ?_)
 refine Zk (
  ⟨(k+1,n+PH x (d+1)),by dsimp only;omega,by dsimp only;omega,by dsimp only;omega,by dsimp only;rw [hq,Zbk hx,Up oM]⟩
  ) (by dsimp only;omega) ⟨rfl,rfl,rfl,rfl,trivial⟩ ⟨rfl,trivial⟩)
 · first|exact bN hb23|(
 refine Zf ?_;(refine xL 36 Za (xL 37 Zid (xL 4 Zb ?_));refine Ze ?_)
 refine Zx (results9) rfl ?_;have he:TG (l.drop k) (d+1) n=n:=by
  by_cases h:n<600
  · rw [XZ oM,TG]
  · exact Zbl h
 rw [PH,Uo hb,hq,he];(have hmn:(if (1000:Int)<n then 1000 else n)=min n 1000:=by split<;>omega);rw [←hmn]))))
theorem SO (a:List Int):AF prog 38 [pInts a,pInts a] (· =ZV true):=by
 refine AF.of_body 26 func38 rfl ntmps38 (Xa rfl) ?_
 intro w0 M0 vs hl hv
 obtain ⟨v0,v1,rfl⟩:=KG hl
 clear hl hv
 refine Jr 0 rfl fun hla=>?_
 refine Zf ?_
 (refine xL 4 Zb ?_;refine Zn ?_)
 (refine xL 6 Za (xL 7 (Z1 Zs) (xL 8 Za (xL 9 (Z1 Zs) (xL 10 Rt ?_))));refine Ze ?_)
 refine cCf ?_
 refine Zf ?_
 (refine xL 5 Zb ?_;refine Ze ?_)
 refine ZE (ι:={k:Nat//k≤a.length}) (fun k=>⟨[(0,_,_),(1,_,_),(5, .int .i64 k.1,Zc k.1)],[]⟩) (fun k=>a.length-k.1) ⟨0,oM⟩ (fun a w H=>H.weaken ⟨rfl,rfl,rfl,trivial⟩ trivial) ?_
 rintro ⟨k,hk⟩
 dsimp only
 refine Zf ?_
 (refine xL 11 Za (xL 12 Za (xL 13 (Z1 Zs) (xL 14 ZR ?_)));refine Ze ?_)
 refine cX ?_ ?_<;>intro hb14
 · first|exact bN hb14|(
 obtain ⟨x,hx⟩:=Zw (show k<a.length by omega);have e1:=Y2 (f:=Zc) hx;refine nav ?_;(refine ZS (fun i=>([]:List Nat).elem i) [] kR ?_<;>refine xD 0 17 rfl Za ?_<;>refine xD 1 18 rfl Za ?_<;>refine xD 2 19 rfl (ZP Zs) ?_<;>(refine yD 3 20 rfl (Yy Zo) fun v20 h=>?_;cases h)<;>refine xD 4 21 rfl Za ?_<;>refine xE 5 22 rfl Za ?_<;>refine xE 6 23 rfl (ZP Zs) ?_<;>(refine yE 7 24 rfl (Yy Zo) fun v24 h=>?_;cases h)<;>refine xE 8 25 rfl Rt ?_<;>refine Yu kR (nav ?_)<;>try dsimp only)
 refine cCf ?_;refine Zf ?_;(refine xL 15 Za (xL 16 ZO (xL 5 Zb ?_));refine Ze ?_)
 refine Zk (
  ⟨k+1,Zg hx⟩
  ) (by dsimp only;omega) ⟨rfl,rfl,rfl,trivial⟩ trivial)
 · first|exact bN hb14|(
 refine Zf ?_;(refine xL 4 Zb ?_;refine Ze ?_)
 exact Zx (results38) rfl rfl)
theorem Zci (n:Nt) (hl:n.tr.length≤1000):AF prog 12 [pNt n,pNt n] (· =ZV true):=by
 refine AF.of_body 86 func12 rfl ntmps12 (Xa rfl) ?_
 intro w0 M0 vs hl hv
 obtain ⟨v0,v1,rfl⟩:=KG hl
 clear hl hv
 refine Zf ?_
 (refine Yv 2 4 fun h2=>?_;refine Yv 3 4 fun h3=>?_;refine xL 4 Zb ?_;refine Zn ?_)
 (refine xL 6 (Zd 2 Z2) ?_<;>(refine yL 7 (Zi 2 Zo) fun v7 h=>?_;cases h)<;>refine xL 8 (Zd 3 Z2) ?_<;>(refine yL 9 (Zi 3 Zo) fun v9 h=>?_;cases h)<;>refine xL 10 Rt (xL 11 Za (xL 12 (Zd 2 YP) ?_))<;>(refine yL 13 (Zi 2 Zo) fun v13 h=>?_;cases h)<;>refine xL 14 (Zd 3 YP) ?_<;>(refine yL 15 (Zi 3 Zo) fun v15 h=>?_;cases h)<;>refine xL 16 Rt (xL 17 Zu (xL 18 Za (xL 19 (Zd 2 YW) ?_)))<;>(refine yL 20 (Zi 2 Zo) fun v20 h=>?_;cases h)<;>refine xL 21 (Zd 3 YW) ?_<;>(refine yL 22 (Zi 3 Zo) fun v22 h=>?_;cases h)<;>refine xL 23 Rt (xL 24 Zu (xL 25 Za (xL 26 (Zd 2 ZD) ?_)))<;>(refine yL 27 (Zi 2 ZN) fun v27 h=>?_;cases h)<;>refine xL 28 (Z1 ZI) (xL 29 (Zd 3 ZD) ?_)<;>(refine yL 30 (Zi 3 ZN) fun v30 h=>?_;cases h)<;>refine xL 31 (Z1 ZI) (xL 32 Rt (xL 33 Zu ?_))<;>refine Ze ?_)<;>(
 refine cCf ?_;refine Zf ?_;(refine xL 5 Zb ?_;refine Ze ?_)
 refine ZE (ι:={k:Nat//k≤n.tr.length}) (fun k=>⟨[(2,_,_),(3,_,_),(5, .int .i64 k.1,Zc k.1)],[(2,_,_),(3,_,_)]⟩) (fun k=>n.tr.length-k.1) ⟨0,oM⟩ (fun a w H=>H.weaken ⟨rfl,rfl,rfl,trivial⟩ ⟨rfl,rfl,trivial⟩) ?_;rintro ⟨k,hk⟩;dsimp only;refine Zf ?_;(refine xL 34 Za (xL 35 (Zd 2 ZD) ?_);refine yL 36 (Zi 2 ZN) fun v36 hv36=>?_;cases hv36;refine xL 37 (Z1 ZI) (xL 38 ZR ?_);refine Ze ?_)
 refine cX ?_ ?_<;>intro hb38
 · first|exact bN hb38|(
 obtain ⟨x,hx⟩:=Zw (show k<n.tr.length by omega);have e1:(n.tr.flatMap cTn)[k*3+0]? =some (ZZ x.lab):=R8 Yr hx dC;have e2:(n.tr.flatMap cTn)[k*3+1]? =some (pInts x.ins):=R8 Yr hx dC;have e3:(n.tr.flatMap cTn)[k*3+2]? =some (pInts x.outs):=R8 Yr hx dC;refine nav ?_;(refine ZS (fun i=>([]:List Nat).elem i) [2,3] kR ?_<;>refine xD 0 41 rfl (Zd 2 ZD) ?_<;>(refine yD 1 42 rfl (Zi 2 ZN) fun v42 h=>?_;cases h)<;>refine xD 2 43 rfl Za ?_<;>refine xD 3 44 rfl (ZP ZI) ?_<;>refine xD 4 45 rfl (Jv Y7) ?_<;>(refine yD 5 46 rfl (Yy WC) fun v46 h=>?_;cases h)<;>refine xD 6 47 rfl (Zd 3 ZD) ?_<;>(refine yD 7 48 rfl (Zi 3 ZN) fun v48 h=>?_;cases h)<;>refine xE 8 49 rfl Za ?_<;>refine xE 9 50 rfl (ZP ZI) ?_<;>refine xE 10 51 rfl (Jv Y7) ?_<;>(refine yE 11 52 rfl (Yy WC) fun v52 h=>?_;cases h)<;>refine xE 12 53 rfl Zgl ?_<;>refine xE 13 54 rfl Za ?_<;>refine xD 14 55 rfl (Zd 2 ZD) ?_<;>(refine yD 15 56 rfl (Zi 2 ZN) fun v56 h=>?_;cases h)<;>refine xD 16 57 rfl Za ?_<;>refine xD 17 58 rfl (ZP ZI) ?_<;>refine xD 18 59 rfl (Jv Yi) ?_<;>(refine yD 19 60 rfl (Yy Zy) fun v60 h=>?_;cases h)<;>refine xD 20 61 rfl (Zd 3 ZD) ?_<;>(refine yD 21 62 rfl (Zi 3 ZN) fun v62 h=>?_;cases h)<;>refine xD 22 63 rfl Za ?_<;>refine xD 23 64 rfl (ZP ZI) ?_<;>refine xD 24 65 rfl (Jv Yi) ?_<;>(refine yD 25 66 rfl (Yy Zy) fun v66 h=>?_;cases h)<;>(refine Zl 26 kR ?_)<;>(refine Zj rfl fun w9 M9 N9 DQ back=>?_)<;>(refine cS 67 (cA call38 (SO x.ins)) fun v67 h=>?_;cases h)<;>refine Zh (back _ (nrm ?_))<;>refine xD 27 68 rfl Ym ?_<;>refine xE 28 69 rfl Zu ?_<;>refine xE 29 70 rfl Za ?_<;>refine xD 30 71 rfl (Zd 2 ZD) ?_<;>(refine yD 31 72 rfl (Zi 2 ZN) fun v72 h=>?_;cases h)<;>refine xD 32 73 rfl Za ?_<;>refine xD 33 74 rfl (ZP ZI) ?_<;>refine xD 34 75 rfl (Jv Yb) ?_<;>(refine yD 35 76 rfl (Yy Zy) fun v76 h=>?_;cases h)<;>refine xD 36 77 rfl (Zd 3 ZD) ?_<;>(refine yD 37 78 rfl (Zi 3 ZN) fun v78 h=>?_;cases h)<;>refine xD 38 79 rfl Za ?_<;>refine xD 39 80 rfl (ZP ZI) ?_<;>refine xD 40 81 rfl (Jv Yb) ?_<;>(refine yD 41 82 rfl (Yy Zy) fun v82 h=>?_;cases h)<;>(refine Zl 42 kR ?_)<;>(refine Zj rfl fun w9 M9 N9 DQ back=>?_)<;>(refine cS 83 (cA call38 (SO x.outs)) fun v83 h=>?_;cases h)<;>refine Zh (back _ (nrm ?_))<;>refine xD 43 84 rfl Ym ?_<;>refine xE 44 85 rfl Zu ?_<;>refine Yu kR (nav ?_)<;>try dsimp only)<;>(
 refine cCf ?_;refine Zf ?_;(refine xL 39 Za (xL 40 ZO (xL 5 Zb ?_));refine Ze ?_)
 refine Zk (
  ⟨k+1,Zg hx⟩
  ) (by dsimp only;omega) ⟨rfl,rfl,rfl,trivial⟩ ⟨rfl,rfl,trivial⟩))
 · first|exact bN hb38|(
 refine Zf ?_;(refine xL 4 Zb ?_;refine Ze ?_)
 exact Zx (results12) rfl rfl))
theorem Zgm (t:Nd):(frX t).1.tr.length≤1000:=by
 unfold frX
 split
 · unfold Ox;split
   · rename_i hok;have:=KS hok;show (Ku t).tr.length≤1000;omega
   · exact Xh _
 · exact Xh _
theorem Zcj (t:Nd) (hf:FitT t):AF prog 3 [pTr t] (· =ZV true):=by
 have hNd:=ζw t hf 1 dC dC
 have hF:=RO t hf
 have hG:=OX t hf
 have hS:=Zci (frX t).1 (Zgm t)
 generalize (frX t).1=n at hF hG hS
 generalize (frX t).2=e at hF hG
 have e0:pTr t= .agg [Zc t.op,ZZ t.act,YK t.l]:=rfl
 rw [e0] at hF hG hNd ⊢
 refine AF.of_body 30 func3 rfl ntmps3 (Xa rfl) ?_
 intro w0 M0 vs hl hv
 obtain ⟨v0,rfl⟩:=Kl hl
 clear hl hv
 refine Zf ?_
 (refine Yv 1 3 fun h1=>?_;refine xL 2 Zb ?_;refine Zn ?_)
 (refine cS 7 (cA call8 (ζv)) fun v7 hv7=>?_;cases hv7;refine xL 8 Ym ?_;refine Ze ?_)
 refine cX ?_ ?_<;>intro hb8
 · first|exact bN hb8|(
 refine Zf ?_;(refine xL 2 Zb ?_;refine Ze ?_)
 exfalso;simp at hb8)
 · first |exact bN hb8|(
 refine Zf ?_;(refine yL 9 (Zq 1 ZH) fun v9 hv9=>?_;cases hv9;refine cS 10 (cA call9 (hNd)) fun v10 hv10=>?_;cases hv10;refine xL 11 Wy ?_;refine Ze ?_)
 refine cX ?_ ?_<;>intro hb11
 · first|exact bN hb11|(
 refine Zf ?_;(refine xL 2 Zb ?_;refine Ze ?_)
 exact Zx (Tryz.results3) rfl rfl)
 · first|exact bN hb11|(
 refine Zf ?_;(refine yL 13 (Zq 1 ZH) fun v13 hv13=>?_;cases hv13;refine cP 14 (cA call10 (hF)) fun va14 vb14 hva14 hvb14=>?_;cases hvb14;refine xL 12 Za (xL 15 ZK (xL 16 ZK ?_));refine ZA [(.int .i64 0),(.slice none 0 0),(.int .i64 0),(.int .i64 0)] 4 3 YC fun h3=>?_;refine Zv 3 Zr ?_;refine xL 4 Zb ?_;refine Zn ?_)
 (refine yL 18 (Zq 1 ZH) fun v18 hv18=>?_;cases hv18;refine cP 19 (cA call11 (hG)) fun va19 vb19 hva19 hvb19=>?_;cases hvb19;refine xL 17 Za (xL 20 ZK (xL 21 ZK ?_));refine ZA [(.int .i64 0),(.slice none 0 0),(.int .i64 0),(.int .i64 0)] 4 5 YC fun h5=>?_;refine Zv 5 Zr ?_;refine xL 6 Zb ?_;refine Zn ?_)
 ((refine yL 22 (Zq 3 Zr) fun v22 h=>?_;cases h)<;>(refine yL 23 (Zq 5 Zr) fun v23 h=>?_;cases h)<;>(refine cS 24 (cA call12 (hS)) fun v24 h=>?_;cases h)<;>refine xL 25 Za (xL 26 Za (xL 27 Za (xL 28 G5 (xL 29 Zu (xL 2 Zb ?_)))))<;>refine Ze ?_)<;>(
 exact Zx (Tryz.results3) rfl rfl)))
end Go.Proofs.YtpiemogpblmiiaaGreatDoor
