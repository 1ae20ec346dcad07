/-
  Walks of functions and plain laws of the chapter, as the claim needs them.
-/
import Derived.RangeFuncNested
import Derived.RangeFuncBound
import Derived.RangeFuncCalls
import Derived.RangeFuncLeaves
import Derived.Shelf.Abstract
import Derived.Shelf.RegionOpen
import Derived.WalkKit
import Derived.OwnWalkIn
import Derived.TacticsInMore
import Derived.LoopNIn
import Derived.LoopIn
import Derived.Test.YteiincihiagidaaGreatPf07
import Derived.Test.YteiincihiagidaaGreatPf06
import Derived.Test.YteiincihiagidaaGreatMShelfU
import Derived.Test.YteiincihiagidaaGreatMShelfW
import Derived.Test.YteiincihiagidaaGreatPf05
import Derived.Test.YteiincihiagidaaGreatPf03
import Derived.Test.YteiincihiagidaaGreatPf01
set_option linter.all false
set_option maxRecDepth 100000
set_option maxHeartbeats 8000000
namespace Go.Proofs.YteiincihiagidaaGreat
open Go.RowKit Go.Cb Go.En Tryz
theorem To:AggT prog 24 3=true:=kR
theorem ZjN:ElT prog 22 24 3 48 (.agg #[(.int .i64 0),(.string ByteArray.empty),(.slice none 0 0)]):=⟨underlying22,by kernel_rfl,rfl,dC⟩
theorem KF:SlT prog 22 24 3=true:=kR
def Zd0 (w n:Nat) (l:List Nd):Prop:=∀c,SrtS leT (c*w) (min (c*w+w) n) l
theorem Hm {w n a:Nat} {l:List Nd} (ha:∃c,a=c*w) (hn:n<a+w) (h:∀c,c*w+w≤a→SrtS leT (c*w) (c*w+w) l) (hs:SrtS leT a n l):Zd0 w n l:=fun c=>by
 obtain ⟨c0,rfl⟩:=ha
 rcases VG c c0 with h1|h1|h1
 · have:(c+1)*w≤c0*w:=Vn w h1;rw [Vi] at this;exact (h c this).sub leT (Xe _) (Nat.min_le_left _ _)
 · subst h1;rw [U1 oM];exact hs
 · have:(c0+1)*w≤c*w:=Vn w h1;rw [Vi] at this;exact SrtS.small leT l (by have:=Nat.min_le_right (c*w+w) n;omega)
theorem Zpj {w n a:Nat} {l:List Nd} (h:Zd0 w n l) (ha:∃c,a=c*(w*2)) (hn:a+w*2≤n):SrtS leT a (a+w) l∧SrtS leT (a+w) (a+w*2) l:=by
 obtain ⟨c,rfl⟩:=ha
 have e1:c*2*w=c*(w*2):=by rw [Nat.mul_assoc,VC 2 w]
 have h1:=h (c*2)
 have h2:=h (c*2+1)
 rw [Vi] at h2
 rw [e1] at h1 h2
 rw [Vc oM] at h1 h2
 exact ⟨h1,by rw [show c*(w*2)+w*2=c*(w*2)+w+w by omega];exact h2⟩
theorem ZmL {w n a:Nat} {l:List Nd} (h:Zd0 w n l) (ha:∃c,a=c*(w*2)) (hn:n<a+w*2) (hw:0<w):SrtS leT a (min (a+w) n) l∧SrtS leT (a+w) n l:=by
 obtain ⟨c,rfl⟩:=ha
 have e1:c*2*w=c*(w*2):=by rw [Nat.mul_assoc,VC 2 w]
 have h1:=h (c*2)
 have h2:=h (c*2+1)
 rw [Vi] at h2
 rw [e1] at h1 h2
 exact ⟨h1,by rw [U1 oM] at h2;exact h2⟩
theorem Zpk {w n:Nat} {l:List Nd} (h:Zd0 w n l) (hw:n≤w):SrtS leT 0 n l:=by
 have:=h 0
 rw [X8,XE,U1 hw] at this;exact this
theorem Zpl {l:List Nd} (h:SrtS leT 0 l.length l):AscT l:=by
 rw [AscT,XS]
 intro i j hi hj hij
 exact h i j _ _ (Xg _) hij hj (Xx hi) (Xx hj)
theorem ZjO (f : Nat) (hc:∀args w,(callFunc f args).run prog w= .ok (.enter f args) w) (hv:Value) (fv:Value) (l:List Nd) (hl:l.length≤1000000) (hf:∀x∈l,∀y∈l,AF prog f [pTr x,pTr y] (· =Zc (Kc x y))):AFh False prog 184 [(0,hv, .val hv),(1, .int .i64 (l.length:Int),Zc l.length),(2,fv, .fn f [])] (W9 hv l) (fun v q h=>h=W9 hv (ZbX l)):=by
 have hfp:∀{L:List Nd},Sw 0 l.length l L→∀x∈L,∀y∈L,AF prog f [pTr x,pTr y] (· =Zc (Kc x y)):=fun hS x hx y hy=>hf x (PZ hS hx) y (PZ hS hy)
 have hn:l.length≤l.length:=Xe _
 unfold W9
 refine AFh.of_body 63 func184 rfl ntmps184 (Xa rfl) rfl ?_
 intro w0 M0 N0
 refine YK ?_;refine DK ?_
 refine Yd (ι:={q:Nat×List Nd//(∃c,q.1=c*20)∧q.1≤l.length∧Sw 0 l.length l q.2∧∀c,c*20+20≤q.1→SrtS leT (c*20) (c*20+20) q.2}) (fun k=>⟨[(0,_,_),(1,_,_),(2,_,_),(6,_,_),(7, .int .i64 k.1.1,Zc k.1.1),(8, .int .i64 ((k.1.1+20:Nat):Int),Zc ((k.1.1+20:Nat):Int))],[(1000,hv, .own 24 3 l.length (Z9 k.1.2))]⟩) (fun k=>l.length-k.1.1) ⟨(0,l),⟨0,rfl⟩,Xg _, .refl _,fun c h=>by dsimp only at h;omega⟩ ?_
 rintro ⟨⟨a,L⟩,ha,han,hS,hO⟩
 dsimp only
 dsimp only at ha han hS hO;have hLl:=hS.len
 refine Jy ?_;refine ZR ?_ ?_<;>intro hb13
 · (
 refine OZ ?_;(refine JZ (W9 hv L) ⟨by rw [←hLl];rfl,trivial⟩ ?_;refine WA [] 18 (call225) (ZmI f hc L oM (hfp hS) a (a+20) oM oM hv fv) (fun v18 p18 h18 hR18=>?_);obtain ⟨L2,hS2,hO2,rfl⟩:=hR18;have hL2l:=hS2.len;dsimp only [W9];rw [hL2l,hLl]);refine Yc ?_;refine Jn ?_;refine YW ?_;refine xM ((J' (c:=((a+20+20:Nat):Int)))) ?_;refine ZB ?_;refine Yh (
  ⟨(a +20,L2),by obtain ⟨c,hc'⟩:=ha;exact ⟨c+1,by dsimp only;omega⟩,by dsimp only;omega,hS.trans (hS2.mono (Xg _) oM oM),fun c h=>by
    dsimp only at h ⊢;obtain ⟨c0,hc0⟩:=ha;rcases XD c c0 with h1|h1
    · exact (hO c oM).ext leT fun k k1 k2=>hS2.out (.inl oM)
    · have:c=c0:=oM;subst this;rw [←hc0];exact hO2⟩
  ))
 · (
 have hna:l.length<a+20:=oM;refine OZ ?_;(refine JZ (W9 hv L) ⟨by rw [←hLl];rfl,trivial⟩ ?_;refine WA [] 27 (call225) (ZmI f hc L oM (hfp hS) a l.length oM oM hv fv) (fun v27 p27 h27 hR27=>?_);obtain ⟨L1,hS1,hO1,rfl⟩:=hR27;have hL1l:=hS1.len;dsimp only [W9];rw [hL1l,hLl];have hS1':Sw 0 l.length l L1:=hS.trans (hS1.mono (Xg _) (Xe _) oM);have hB1:Zd0 20 l.length L1:=Hm ha hna (fun c h=>(hO c h).ext leT fun k k1 k2=>hS1.out (.inl oM)) hO1);refine ZF ?_;refine Yd (ι:={q:Nat×List Nd//1≤q.1∧q.1≤2000000∧Sw 0 l.length l q.2∧Zd0 q.1 l.length q.2}) (fun k=>⟨[(0,_,_),(1,_,_),(2,_,_),(6, .int .i64 k.1.1,Zc k.1.1)],[(1000,hv, .own 24 3 l.length (Z9 k.1.2))]⟩) (fun k=>l.length-k.1.1) ⟨(20,L1),by dsimp only;omega,by dsimp only;omega,hS1',hB1⟩ ?_;rintro ⟨⟨w,L⟩,hw1,hw2,hS,hB⟩;dsimp only;dsimp only at hw1 hw2 hS hB;have hLl:=hS.len;refine Jy ?_;refine ZR ?_ ?_<;>intro hb30
 · (
 refine Wh ?_;refine xM ((Zca (c:=((w*2:Nat):Int)))) ?_;refine YJ ?_;refine Yd (ι:={q:Nat×List Nd//(∃c,q.1=c*(w*2))∧q.1≤l.length∧Sw 0 l.length l q.2∧(∀c,c*(w*2)+w*2≤q.1→SrtS leT (c*(w*2)) (c*(w*2)+w*2) q.2)∧∀k,q.1≤k→q.2[k]? =L[k]? }) (fun k=>⟨[(0,_,_),(1,_,_),(2,_,_),(6,_,_),(7, .int .i64 k.1.1,Zc k.1.1),(8, .int .i64 ((w*2+k.1.1:Nat):Int),Zc ((w*2+k.1.1:Nat):Int))],[(1000,hv, .own 24 3 l.length (Z9 k.1.2))]⟩) (fun k=>l.length-k.1.1) ⟨(0,L),⟨0,(X8 _).symm⟩,Xg _,hS,fun c h=>by dsimp only at h;omega,fun _ _=>rfl⟩ ?_;rintro ⟨⟨a,K⟩,ha,han,hSK,hO,hU⟩;dsimp only;dsimp only at ha han hSK hO hU;have hKl:=hSK.len;refine Jy ?_;refine ZR ?_ ?_<;>intro hb35
 · (
 have hab:a+w*2≤l.length:=oM;have hb2:=Zpj hB ha hab;have g1:SrtS leT a (a+w) K:=hb2.1.ext leT fun k k1 k2=>hU k k1;(have g2:SrtS leT (a+w) (w*2+a) K:=by rw [Nat.add_comm (w*2) a];exact hb2.2.ext leT fun k k1 k2=>hU k oM);refine OZ ?_;refine xM ((J' (c:=((a+w:Nat):Int)))) ?_;refine YW ?_;(refine JZ (W9 hv K) ⟨by rw [←hKl];rfl,trivial⟩ ?_;refine WA [] 43 (call226) (ZmK f hc hv fv _ K oM (hfp hSK) a (a+w) (w*2+a) (Xe _) oM oM oM g1 g2) (fun v43 p43 h43 hR43=>?_);obtain ⟨K2,hS2,hO2,rfl⟩:=hR43;have hK2l:=hS2.len;dsimp only [W9];rw [hK2l,hKl]);refine Yc ?_;refine Jn ?_;refine YW ?_;refine xM ((Zca (c:=((w*2:Nat):Int)))) ?_;refine xM ((J' (c:=((w*2+(w*2+a):Nat):Int)))) ?_;refine ZB ?_;refine Yh (
  ⟨(w *2+a,K2),by obtain ⟨c,hc'⟩:=ha;exact ⟨c+1,by dsimp only;rw [Vi];omega⟩,by dsimp only;omega,hSK.trans (hS2.mono (Xg _) oM oM),fun c h=>by
    dsimp only at h ⊢;obtain ⟨c0,hc0⟩:=ha;rcases VG c c0 with h1|h1|h1
    · have:(c+1)*(w*2)≤c0*(w*2):=Vn _ h1;rw [Vi] at this;exact (hO c oM).ext leT fun k k1 k2=>hS2.out (.inl oM)
    · subst h1;rw [←hc0,Nat.add_comm a (w*2)];exact hO2
    · have:(c0+1)*(w*2)≤c*(w*2):=Vn _ h1;rw [Vi] at this;omega,fun k hk=>by dsimp only at hk ⊢;rw [hS2.out (.inr hk)];exact hU k oM⟩
  ))
 · (
 have hna:l.length<a+w*2:=oM;have hb3:=ZmL hB ha hna hw1;have g1:SrtS leT a (min (a+w) l.length) K:=hb3.1.ext leT fun k k1 k2=>hU k k1;have g2:SrtS leT (a+w) l.length K:=hb3.2.ext leT fun k k1 k2=>hU k oM;refine Wn ?_;refine xM ((J' (c:=((a+w:Nat):Int)))) ?_;refine ZQ ?_;refine Y' ?_;refine ZR ?_ ?_<;>intro hb54
 · (
 rw [Vc oM] at g1;refine Zh ?_;refine JY ?_;(refine JZ (W9 hv K) ⟨by rw [←hKl];rfl,trivial⟩ ?_;refine WA [] 60 (call226) (ZmK f hc hv fv _ K oM (hfp hSK) a (a+w) l.length (Xe _) oM oM oM g1 g2) (fun v60 p60 h60 hR60=>?_);obtain ⟨K2,hS2,hO2,rfl⟩:=hR60;have hK2l:=hS2.len;dsimp only [W9];rw [hK2l,hKl]);refine OX ?_;refine xM ((Zca (c:=((w*2:Nat):Int)))) ?_;refine ZB ?_
 first
  | (exact Yh (
      ⟨(w*2,K),by dsimp only;omega,by dsimp only;omega,hSK,Hm ha hna hO g1⟩
      ))
  | (exact Yh (
      ⟨(w*2,K2),by dsimp only;omega,by dsimp only;omega,hSK.trans (hS2.mono (Xg _) oM oM),show Zd0 (w*2) l.length K2 from Hm ha hna (fun c h=>(hO c h).ext leT fun k k1 k2=>hS2.out (.inl oM)) hO2⟩
      )))
 · (
 rw [U1 oM] at g1;refine Wh ?_;refine xM ((Zca (c:=((w*2:Nat):Int)))) ?_;refine ZB ?_
 first
  | (exact Yh (
      ⟨(w*2,K),by dsimp only;omega,by dsimp only;omega,hSK,Hm ha hna hO g1⟩
      ))
  | (exact Yh (
      ⟨(w*2,K2),by dsimp only;omega,by dsimp only;omega,hSK.trans (hS2.mono (Xg _) oM oM),show Zd0 (w*2) l.length K2 from Hm ha hna (fun c h=>(hO c h).ext leT fun k k1 k2=>hS2.out (.inl oM)) hO2⟩
      )))))
 · (
 refine nav ?_;have hso:=Zpk hB oM;rw [←hLl] at hso;refine TR [(1000,hv, .own 24 3 l.length (Z9 L))] results184 sB ?_;rw [←Zo2 (Zpl hso) hS.perm];rw [hLl]))
theorem ZjP (f:Nat) (hc:∀args w,(callFunc f args).run prog w= .ok (.enter f args) w) (hv:Value) (fv:Value) (l:List Nd) (hl:l.length≤1000000) (hf:∀x∈l,∀y∈l,AF prog f [pTr x,pTr y] (· =Zc (Kc x y))):AFh False prog 163 [(0,hv, .val hv),(1,fv, .fn f [])] (W9 hv l) (fun v q h=>h=W9 hv (ZbX l)):=by
 unfold W9
 refine AFh.of_body 9 func163 rfl ntmps163 (Xa rfl) rfl ?_
 intro w0 M0 N0
 refine Zh ?_
 refine xL 4 Za (xL 5 Za (xL 6 (WQ 1000 KF) (xL 7 Za ?_)));refine JZ (W9 hv l) sB ?_;refine WA [] 8 (call184) (ZjO f hc hv fv l hl hf) (fun v8 p8 h8 hR8=>?_);subst hR8;dsimp only [W9];refine ZF ?_
 exact TR (W9 hv (ZbX l)) results163 sB rfl
theorem Zpm {l:List Nd} (h:1≤l.length):TD (l.take 1)=l.take 1:=by
 cases l with
 |nil=>simp at h
 |cons x l=>rfl
theorem Zd1 {l:List Nd} (hs:AscT l) {p:Nat} {x y:Nd} (hy:l[p]? =some y) (hx:l[p+1]? =some x) (he:SX x y=true):TD (l.take (p+1+1))=TD (l.take (p+1)):=by
 have e:=Lc.1 he
 subst e
 refine ZdL (Su _ (hs.sublist (UG _ _))) (Su _ (hs.sublist (UG _ _))) fun z=>?_
 rw [LN,LN,Zw hx,Xd,Xn]
 exact ⟨fun h=>h.elim id fun h=>by subst h;rw [Zw hy];exact List.mem_append_right _ (Xn.2 rfl), .inl⟩
theorem ZhF {l:List Nd} (hs:AscT l) {i j:Nat} {x y:Nd} (hij:i<j) (hx:l[i]? =some x) (hy:l[j]? =some y):leT x y:=by
 obtain ⟨h1,rfl⟩:=Xr.1 hx
 obtain ⟨h2,rfl⟩:=Xr.1 hy
 exact XS.1 hs i j h1 h2 hij
theorem ZhG {l:List Nd} (hs:AscT l) {p:Nat} {x y:Nd} (hy:l[p]? =some y) (hx:l[p+1]? =some x) (he:SX x y=false):TD (l.take (p+1+1))=TD (l.take (p+1))++[x]:=by
 have hyx:Kc y x<0:=ζt (ZhF hs oM hy hx) fun e=>by rw [Lc.2 e.symm] at he;cases he
 refine ZdL (Su _ (hs.sublist (UG _ _))) ?_ fun z=>?_
 · refine US.2 ⟨Su _ (hs.sublist (UG _ _)),Vu ..,fun z hz w hw=>?_⟩;rw [Xn.1 hw];rw [LN] at hz;obtain ⟨i,hi⟩:=XR hz;have hi':=Zd hi;rw [XG] at hi';rw [X9 oM] at hi;by_cases e:i=p
   · subst e;rw [hi] at hy;cases hy;exact hyx
   · have h:=ZhF hs (show i<p by omega) hi hy;by_cases e2:z=y
     · subst e2;exact hyx
     · have:=ζt h e2;have t1:=PR z y;have t2:=PR y x;have:=Zhi z y x oM oM;omega
 · rw [Xd,LN,Xn,Zw hx,LN,Xd,Xn]
theorem ζI {α β:Type} {f:α→List β} {m:Nat} (hf:∀x,(f x).length=m):∀(L:List α) (k:Nat),(L.flatMap f).take (k*m)=(L.take k).flatMap f
 |[],k=>sM
 |x::L,0=>sM
 | x::L,k+1=>by
   rw [Uv,Xv,Xv,←ζI hf L k,List.take_append,Xq (by rw [hf,X1];omega),hf,show (k+1)*m-m=k*m by rw [X1];omega]
theorem ZmM {hv:Value} (h:hv.oneCell'=true) (i j k:Nat):(slc hv i j k).oneCell'=true:=by
 unfold slc;split
 · rfl
 · exact h
theorem Zcd (f : Nat) (hc:∀args w,(callFunc f args).run prog w= .ok (.enter f args) w) (fv:Value) (l:List Nd) (hl:l.length≤1000000) (hs:AscT l) (hf:∀x∈l,∀y∈l,AF prog f [pTr x,pTr y] (· =Zv (SX x y))) (hv:Value) (hvo:hv.oneCell'=true):AFh False prog 165 [(0,hv, .val hv),(1,fv, .fn f [])] [(1000,hv, .own 24 3 l.length (Z9 l))] (fun v q h=>v.oneCell'=true∧q= .val v∧h=[(1000,v, .own 24 3 (TD l).length (Z9 (TD l)))]):=by
 refine AFh.of_body 66 func165 rfl ntmps165 (Xa rfl) rfl ?_
 intro w0 M0 N0
 refine YK ?_
 refine xL 8 Za (xL 9 (WQ 1000 KF) (xL 10 Wq ?_));refine ZR ?_ ?_<;>intro hb10
 · (
 refine ZE ?_;refine Pd [(1000,hv,PV.own 24 3 l.length (Z9 l))] results165 rfl sB ⟨hvo,rfl,?_⟩;have hm:TD l=l:=by
  match l,hl,hb10 with
  |[],_,_=>rfl
  |[_],_,_=>rfl
  |_::_::_,_,h=>simp at h;omega
 rw [hm])
 · (
 refine ZI ?_;refine Yd (ι:={k:Nat//1≤k∧k≤l.length∧TD (l.take k)=l.take k}) (fun k=>⟨[(0,_,_),(1,_,_),(5, .int .i64 k.1,Zc k.1)],[(1000,_,_)]⟩) (fun k=>l.length-k.1) ⟨1,Xe _,oM,Zpm oM⟩ ?_;rintro ⟨k1,hk1,hk,hmk⟩;dsimp only;obtain ⟨k,rfl⟩:∃k,k1=k+1:=⟨k1-1,oM⟩;refine Zh ?_;refine xL 12 Za (xL 13 Za (xL 14 (WQ 1000 KF) (xL 15 Wq ?_)));refine ZR ?_ ?_<;>intro hb15
 · (
 obtain ⟨x,hx⟩:=gS l (k+1);obtain ⟨y,hy⟩:=gS l k;have e1:=ZT hx;have e2:=Yg hx;have e3:=ZT hy;have e4:=Yg hy;have hlt:k+1<l.length:=Zd hx;refine nav ?_;refine We [] [1000] ?_<;>refine gDx 0 ?_<;>refine gDx 1 ?_<;>refine gDx 2 ?_<;>refine xD 3 rfl (Zo 1000 KF) ?_<;>(refine yD 4 rfl (Zj 1000 To) fun v22 h=>?_;cases h)<;>refine gDx 5 ?_<;>refine gEx 6 ?_<;>refine xE 7 rfl ((WJ (c:=((k:Nat):Int)))) ?_<;>refine xE 8 rfl (Zo 1000 KF) ?_<;>(refine yE 9 rfl (Zj 1000 To) fun v27 h=>?_;cases h)<;>(refine Z6 10 kR ?_)<;>(refine Yz (d:=28) rfl (LV (f:=f) (ps:=[]) rfl ⟨_,rfl⟩ hc rfl (hf x (Xc hx) y (Xc hy))) fun v28 h=>?_;cases h)<;>refine Kz ?_;refine cX ?_ ?_<;>intro hb28
 · (
 have hsm:=Zd1 hs hy hx (by unfold SX;simpa using hb28);(have hl1:(TD (l.take (k+1+1))).length=k+1:=by rw [hsm,hmk,XG];omega);refine Wn ?_;refine xM (L5 (i:=k+1) (j:=l.length) 1000 KF rfl rfl rfl rfl rfl (Nat.le_of_lt hlt) (Xe _)) ?_;refine Ta ?_;refine Yd (ι:={q:Nat×Nat×List Nd//1≤q.1∧k+1+q.1≤l.length∧q.2.1=(TD (l.take (k+1+q.1))).length∧q.2.2.length=l.length∧q.2.2.take q.2.1=TD (l.take (k+1+q.1))∧q.2.1≤k+q.1∧∀i,k+q.1≤i→q.2.2[i]? =l[i]? }) (fun k=>⟨[(0,_,_),(1,_,_),(6,_,_),(5, .int .i64 k.1.2.1,Zc k.1.2.1),(7, .int .i64 k.1.1,Zc k.1.1)],[(1000,hv, .own 24 3 l.length (Z9 k.1.2.2))]⟩) (fun k=>l.length-k.1.1) ⟨(1,k+1,l),Xe _,by dsimp only;omega,hl1.symm,rfl,by dsimp only;rw [hsm,hmk],Xe _,fun i _=>rfl⟩ ?_;rintro ⟨⟨j,K,L⟩,hj1,hj,hK,hLl,hLt,hKj,hLr⟩;dsimp only;dsimp only at hj1 hj hK hLl hLt hKj hLr;obtain ⟨j',rfl⟩:∃j',j=j'+1:=⟨j-1,oM⟩;have hK2:(K:Int)≤1000000:=oM;rw [show k+1+(j'+1)=k+1+j'+1 from rfl] at hK hLt;refine Wn ?_;refine xM ((Zbc (a:=k+1) (m:=l.length-(k+1)) 1000 KF rfl rfl rfl rfl)) ?_;refine YX ?_ ?_<;>intro hb35
 · (
 obtain ⟨u,hu⟩:=gS l (k+1+(j'+1));obtain ⟨v,hv2⟩:=gS l (k+1+j');(have hu':L[k+1+(j'+1)]? =some u:=by rw [hLr _ oM];exact hu);(have hv':L[k+1+j']? =some v:=by rw [hLr _ oM];exact hv2);have g1:=ZT hu';have g2:=Yg hu';have g3:=ZT hv';have g4:=Yg hv';have g5:K<L.length:=oM;(have g6:K*3+3≤(Z9 L).length:=by rw [ζG];omega);refine nav ?_;refine We [] [1000] ?_<;>refine gDx 0 ?_<;>refine gDx 1 ?_<;>refine gDx 2 ?_<;>refine xD 3 rfl ((Se (a:=k+1) (m:=(k+1+(j'+1))*3) 1000 KF rfl rfl rfl rfl oM oM oM)) ?_<;>(refine yD 4 rfl (Zj 1000 To) fun v42 h=>?_;cases h)<;>refine gDx 5 ?_<;>refine gEx 6 ?_<;>refine xE 7 rfl ((WJ (c:=((j':Nat):Int)))) ?_<;>refine xE 8 rfl ((Se (a:=k+1) (m:=(k+1+j')*3) 1000 KF rfl rfl rfl rfl oM oM oM)) ?_<;>(refine yE 9 rfl (Zj 1000 To) fun v47 h=>?_;cases h)<;>(refine Z6 10 kR ?_)<;>(refine Yz (d:=48) rfl (LV (f:=f) (ps:=[]) rfl ⟨_,rfl⟩ hc rfl (hf u (Xc hu) v (Xc hv2))) fun v48 h=>?_;cases h)<;>refine gEx 11 ?_<;>refine Kz ?_;refine cX ?_ ?_<;>intro hb49
 · (
 have hnw2:=ZhG hs hv2 hu (by simpa using hb49);have hset:=Zcc L K u g5;(have hlen2:K+1=(TD (l.take (k+1+j'+1+1))).length:=by rw [hnw2,Xf,XF,hK]);have htk2:(L.set K u).take (K+1)=TD (l.take (k+1+j'+1+1)):=by
  rw [hnw2,←hLt,List.take_set,Zw (Xx g5),VE _ _ (by rw [XG];omega),XG,Vc oM,Vm];rfl
 refine OZ ?_;refine xM ((Se (a:=k+1) (m:=(k+1+(j'+1))*3) 1000 KF rfl rfl rfl rfl oM oM oM)) ?_;refine yU (Zj 1000 To) fun v55=>?_;refine xM (Zo 1000 KF) ?_;refine Zu 1000 To ?_;refine Yc ?_;refine Y' ?_;refine Yc ?_;refine DK ?_;try rw [hset]
 first
  | (exact Yh (
      ⟨(j'+1+1,K+1,L.set K u),by dsimp only;omega,by dsimp only;omega,hlen2,by dsimp only;rw [Xp];exact hLl,htk2,by dsimp only;omega,fun i hi=>by dsimp only at hi ⊢;rw [XZ oM];exact hLr i oM⟩
      ))
  | (exact Yh (
      ⟨(j'+1+1,K,L),by dsimp only;omega,by dsimp only;omega,hK.trans (by rw [show k+1+(j'+1+1)=k+1+j'+1+1 by omega,hsm2]),hLl,hLt.trans (by rw [show k+1+(j'+1+1)=k+1+j'+1+1 by omega,hsm2]),by dsimp only;omega,fun i hi=>hLr i (by dsimp only at hi;omega)⟩
      )))
 · (
 have hsm2:=Zd1 hs hv2 hu (by simpa using hb49);refine Y5 ?_;try rw [hset]
 first
  | (exact Yh (
      ⟨(j'+1+1,K+1,L.set K u),by dsimp only;omega,by dsimp only;omega,hlen2,by dsimp only;rw [Xp];exact hLl,htk2,by dsimp only;omega,fun i hi=>by dsimp only at hi ⊢;rw [XZ oM];exact hLr i oM⟩
      ))
  | (exact Yh (
      ⟨(j'+1+1,K,L),by dsimp only;omega,by dsimp only;omega,hK.trans (by rw [show k+1+(j'+1+1)=k+1+j'+1+1 by omega,hsm2]),hLl,hLt.trans (by rw [show k+1+(j'+1+1)=k+1+j'+1+1 by omega,hsm2]),by dsimp only;omega,fun i hi=>hLr i (by dsimp only at hi;omega)⟩
      ))))
 · (
 have hall:l.take (k+1+j'+1)=l:=Xq oM;rw [hall] at hK hLt;have hKl:K≤l.length:=oM;refine Wn ?_;refine xM (L5 (i:=K) (j:=l.length) 1000 KF rfl rfl rfl rfl rfl hKl (Xe _)) ?_;refine Zdz 1000 ZjN dC rfl rfl rfl rfl rfl hKl ?_;intro cs2 hcs1 hcs2;refine OW ?_;refine xM (L5 (i:=0) (j:=K) 1000 KF rfl rfl rfl rfl rfl (Xg _) hKl) ?_;refine ZB ?_;refine Z5 (Zox (l:=1000) K rfl hKl) fun _=>?_;refine Pd [(1000,slc hv 0 K 3,PV.own 24 3 K (cs2.take (K*3)))] results165 rfl sB ⟨ZmM hvo _ _ _,rfl,?_⟩;rw [hcs2,←hLt,WV,ζI Sy,←WV];rw [show (L.take K).length=K by rw [XG];omega]))
 · (
 have hnw:=ZhG hs hy hx (by unfold SX;simpa using hb28);rw [hmk,←Zw hx] at hnw;refine Y5 ?_;refine Yh (
  ⟨k+1+1,oM,oM,hnw⟩
  )))
 · (
 refine ZE ?_;refine Pd [(1000,hv,PV.own 24 3 l.length (Z9 l))] results165 rfl sB ⟨hvo,rfl,?_⟩;rw [Xq (show l.length≤k+1 by omega)] at hmk;rw [hmk]))
theorem G5:AggT prog 24 3=true:=kR
theorem Eb:ElT prog 22 24 3 48 (.agg #[(.int .i64 0),(.string ByteArray.empty),(.slice none 0 0)]):=⟨underlying22,by kernel_rfl,rfl,dC⟩
theorem EL:FldT prog 24 0 0=true:=kR
theorem Zd2:FldT prog 24 2 2=true:=kR
theorem ZjQ:NoAgg prog 22=true:=kR
theorem Zd3:NoAgg prog 3=true:=kR
theorem Ow:SlT prog 22 24 3=true:=kR
theorem Zbd:J2 prog 24=some ((.agg #[(.int .i64 0),(.string ByteArray.empty),(.slice none 0 0)]),([0,1,2]:List Nat).map fun o=>(o,1)):=kR
theorem Zbe:ZeroT prog 24 (.agg #[(.int .i64 0),(.string ByteArray.empty),(.slice none 0 0)]):=by unfold ZeroT;kernel_rfl
theorem P0 (t:Nd):szT t=1+szL t.l:=by cases t;rw [szT];rfl
theorem Zd4 {l m:List Nd} (h:l.Perm m):szL l=szL m:=by
 induction h with
 |nil=>rfl
 |cons x _ ih=>rw [szL,szL,ih]
 |swap x y l=>simp only [szL];omega
 |trans _ _ h1 h2=>exact h1.trans h2
theorem ZhH:∀l:List Nd,szL (TD l)≤szL l
 |[]=>Xe _
 |[x]=>Xe _
 | x::y::m=>by
   have:=ZhH (y::m);rw [TD];split
   · rw [szL];omega
   · rw [szL,szL];omega
theorem Zce (op:Int) (l:List Nd):szL (Ki op l)≤szL l:=by
 induction l with
 |nil=>exact Xe _
 | cons x l ih=>
   unfold Ki at ih ⊢;rw [Xv,Ss,szL];have:szL (if x.op=op then x.l else if x.op≠2∨op=4 then [x] else [])≤szT x:=by
    split
    · rw [P0];omega
    · split
      · simp [szL]
      · simp [szL]
   omega
theorem Ox (l:List Nd):l.length≤szL l:=by
 induction l with
 |nil=>exact Xe _
 |cons x l ih=>have:=Zhl x;rw [szL,Xl];omega
theorem ZhI (op:Int) (p:List Nd):szL (Rm op p)≤szL p:=by
 unfold Rm
 split
 · exact Xe _
 · split
   · exact XJ (ZhH _) (Nat.le_of_eq (Zd4 (Tm p)))
   · exact Nat.le_of_eq (Zd4 (Tm p))
theorem Zrm (op:Int):∀p:List Nd,szT (Zaa op p)≤1+szL p
 |[]=>by rw [Zaa];exact Xe _
 |[x]=>by rw [Zaa,szL];omega
 |x::y::l=>by rw [Zaa,szT];exact Xe _
theorem ZhJ (op:Int) (l:List Nd):szT (Hf op l)≤1+szL l:=by
 unfold Hf
 have h1:=Zrm op (Rm op (Ki op l))
 have h2:=ZhI op (Ki op l)
 have h3:=Zce op l
 omega
theorem Zpn (f s:Nd):szT (Gt f s).1+szT (Gt f s).2≤szT f+szT s:=by
 unfold Gt
 split
 · split
   · rename_i a b r hl;have h1:=ZhJ 4 [b,s];have h2:=P0 f;rw [hl] at h2;simp only [szL] at h1 h2 ⊢;omega
   · exact Xe _
 · exact Xe _
theorem Zrn (l:List Nd):szT (Zre l)≤1+szL l:=by
 match l with
 |[]=>exact VX 1 _
 |[x]=>exact VX 1 _
 | f::s::r=>
   have h:=Zpn f s;rw [Zre,ZdM];split
   · exact VX 1 _
   · rw [szT];simp only [szL];omega
theorem Zro (o:Int) (a:BA) (l:List Nd):szT (Zab o a l)≤1+szL l:=by
 unfold Zab
 split
 · rw [szT,szL];omega
 · split
   · exact Zrn l
   · exact ZhJ o l
theorem Dh:∀t:Nd,szT (YF t)≤szT t:=Nd.ind fun o a l ih=>by
 rw [YF,szT]
 have h1:=Zro o a (JC l)
 have h2:szL (JC l)≤szL l:=by
  clear h1;induction l with
  |nil=>exact Xe _
  | cons x l ih2=>
    rw [JC,szL,szL];have h3:=ih x (Xs ..);have h4:=ih2 fun y hy=>ih y (Xw _ hy);omega
 omega
theorem ZjR {s:BA} (h:isName s=true):s.size≤40:=by
 rcases XD 40 s.size with h1|h1
 · rw [RI (.inr h1)] at h;cases h
 · exact h1
theorem Zd5 {t:Nd} (h:rightT t=true):t.act.size≤40:=by
 unfold rightT at h
 split at h
 · simp only [Xi] at h;exact ZjR h.2
 · split at h
   · simp only [Xi,U8] at h;rw [h.2];decide
   · split at h
     · simp only [Xi,U8] at h;rw [h.2];decide
     · split at h
       · simp only [Xi,U8] at h;rw [h.2];decide
       · cases h
theorem Oy:∀t:Nd,okT t=true→szT t≤1000000→FitT t:=Nd.ind fun o a l ih hok hs=>by
 obtain ⟨h1,h2⟩:=Y3.1 hok
 have h3:=P0 (.mk o a l)
 have h4:=Ox l
 have h5:=Zd5 h1
 have h6:=H6 h1
 simp only [Nd.l,Nd.act,Nd.op] at h3 h5 h6 h2
 refine .mk _ (by show l.length≤_;omega) (by show a.size≤_;omega) (by show _≤o;omega) (by show o≤_;omega) fun x hx=>?_
 have h7:=Jh (show x∈l from hx)
 exact ih x hx (h2 x hx) oM
theorem ζJ {t:Nd} (h:okT t=true):okT (YF t)=true:=(Zrg t h).ok
theorem Oz {t:Nd} (h:okT t=true) (hs:szT t≤1000000):FitT (YF t):=Oy _ (ζJ h) (XJ (Dh t) hs)
theorem ZmN (op:Int) {l:List Nd} {k:Nat} {x:Nd} (h:l[k]? =some x):Ki op (l.take (k+1))=Ki op (l.take k)++(if x.op=op then x.l else if x.op≠2∨op=4 then [x] else []):=by
 unfold Ki
 rw [Zw h,XT,U0]
theorem ZmO {op:Int} {l:List Nd} {y:Nd} (h:y∈Ki op l):∃x∈l,y=x∨y∈x.l:=by
 unfold Ki at h
 obtain ⟨x,hx,hy⟩:=X7.1 h
 split at hy
 · exact ⟨x,hx, .inr hy⟩
 · split at hy
   · exact ⟨x,hx, .inl (Xn.1 hy)⟩
   · cases hy
theorem Zpo {op:Int} {l:List Nd} (h:∀x∈l,FitT x):∀y∈Ki op l,FitT y:=fun y hy=>by
 obtain ⟨x,hx,h1|h1⟩:=ZmO hy
 · rw [h1];exact h x hx
 · exact (h x hx).p y h1
theorem Hn (op:Int) (l:List Nd) (k:Nat):(Ki op (l.take k)).length≤szL l:=by
 have h1:=Ox (Ki op (l.take k))
 have h2:=Zce op (l.take k)
 have h3:szL (l.take k)≤szL l:=by
  conv=>rhs;rw [←X5 k l]
  rw [Ss];omega
 omega
theorem Zcf (l:List Nd):(Z9 l).all En.one=true:=by
 rw [WV,Xm]
 intro p hp
 obtain ⟨x,_,hx⟩:=X7.1 hp
 rcases Xk.1 hx with h|hx
 · subst h;rfl
 · rcases Xk.1 hx with h|hx
   · subst h;rfl
   · rcases Xk.1 hx with h|hx
     · subst h;rfl
     · cases hx
theorem Zbf (l:List Nd) (x:Nd):Z9 l++cN x=Z9 (l++[x]):=by
 rw [WV,WV,XT,U0]
theorem ZmP (l m:List Nd):Z9 l++Z9 m=Z9 (l++m):=by
 rw [WV,WV,WV,XT]
theorem Zf4:Rr (.agg [.val (.int .i64 2), .val (.string ByteArray.empty), .val (.slice none 0 0)]) (pTr ζ9):=Rr.agg rfl fun i a b ha hb=>by
 match i with
 |0=>cases ha;cases hb;exact Rr.rfl' _
 |1=>cases ha;cases hb;exact Rr.rfl' _
 |2=>cases ha;cases hb;exact Rr.nil
 |i+3=>simp at ha
theorem Rq (e n:Nat) (l:List Nd) (hn:n=l.length):share (.own e 3 n (Z9 l))=Yt l:=by
 subst hn
 rw [share,Z7,WV,Uw]
 unfold Yt
 rw [WV];rfl
def sS (op:Int) (p:List Nd):List Nd:=if op=3 then p else ZbX p
theorem Zrp (op:Int) (p:List Nd):(sS op p).length=p.length:=by
 unfold sS;split
 · rfl
 · exact (Tm p).length_eq
theorem Zrq {op:Int} {p:List Nd} (h:op≠4):sS op p=Rm op p:=by
 unfold sS Rm
 by_cases h3:op=3
 · rw [Qb h3,Qb h3]
 · rw [Qa h3,Qa h3,Qa h]
theorem ZmQ {op:Int} {p:List Nd} {x:Nd}:x∈sS op p→x∈p:=by
 unfold sS;split
 · exact id
 · exact (Tm p).mem_iff.1
theorem Ca (op : Int) (l:List Nd) (h1: -9223372036854775808≤op) (h2:op≤9223372036854775807) (hF:∀x∈l,FitT x) (hn:szL l≤1000000):AF prog 120 [Zc op,Yt l] (· =pTr (Hf op l)):=by
 have hll:l.length≤1000000:=XJ (Ox l) hn
 refine AF.b2 57 func120 rfl ntmps120 (Xa rfl) ?_
 rintro w0 M0 _ v1 rfl-
 refine Zh ?_
 refine Zx zT 3 4 Zbe fun h4=>?_;refine Yc ?_;refine ZB ?_
 refine Zq (Wr 1000 24 3 rfl) fun _=>?_
 refine Zi ?_;refine xL 8 Za (xL 9 (Zy Ow) (xL 10 Za ?_));refine ZF ?_
 refine Yd (ι:={q:Nat×Value//q.1≤l.length∧q.2.oneCell'=true}) (fun k=>⟨[(0,_,_),(4,_,_),(8,_,_),(9,_,_),(5,k.1.2, .val k.1.2),(10, .int .i64 k.1.1,Zc k.1.1)],[(4,_,_),(1000,k.1.2, .own 24 3 (Ki op (l.take k.1.1)).length (Z9 (Ki op (l.take k.1.1))))]⟩) (fun k=>l.length-k.1.1) ⟨(0, .slice none 0 0),Xg _,rfl⟩ ?_
 rintro ⟨⟨k,hO⟩,hk,hOo⟩
 dsimp only
 dsimp only at hk hOo
 have hpl:=Hn op l k
 have hpl2:=Hn op l (k+1)
 refine Ys ?_ ?_<;>intro hb11
 · (
 obtain ⟨x,hx⟩:=gS l k;have e1:((Z9 l).drop (k*3)).take 3=[Zc x.op,Zt x.act,Yt x.l]:=ZT hx;have e2:=Yg hx;have hsn:=ZmN op hx;have hxf:=hF x (Xc hx);have f1:(Z9 x.l).length=x.l.length*3:=ζG _;have f2:=Zcf x.l;refine Zh ?_;refine xM (Zg Ow) ?_;refine yU (YD G5) fun v13=>?_;refine Zx zT 3 7 Zbe fun h7=>?_;refine Zu 7 G5 ?_;refine Yc ?_;refine xM (Zb 7 EL) ?_;refine yV (Ze 7 Zd3) ?_;refine Y' ?_;refine ZR ?_ ?_<;>intro hb14
 · (
 rw [Qb hb14] at hsn;(have hsl:(Ki op (l.take (k+1))).length=(Ki op (l.take k)).length+x.l.length:=by rw [hsn,Xf]);refine Zh ?_;refine xL 19 Za (xL 20 (Zb 7 Zd2) ?_);refine yU (Ze 7 ZjQ) fun v21=>?_;refine G1 1000 22 Eb (fun h22 ho22=>?_) f1 f2;refine Zp (Zz (l:=22) 1000 rfl rfl) fun _=>?_;refine Zp (Y1 (l:=1000) (p':= .own 24 3 (Ki op (l.take (k+1))).length (Z9 (Ki op (l.take (k+1))))) rfl (by rw [ZmP,←hsn,hsl])) fun _=>?_;refine Wy ?_
 first
  | (exact Yh (
      ⟨(k+1,h22),Zd hx,ho22⟩
      ))
  | (exact Yh (
      ⟨(k+1,h34),Zd hx,ho34⟩
      ))
  | (exact Yh (
      ⟨(k+1,hO),Zd hx,hOo⟩
      )))
 · (
 rw [Qa hb14] at hsn;refine Zh ?_;(refine xM (Zb 7 EL) ?_<;>refine yV (Ze 7 Zd3) ?_<;>refine YW ?_<;>(refine bLd 27 (fun hb27=>?_) (fun hb27=>?_)<;>refine kZ ?_)<;>refine KL ?_)<;>(
 refine cX ?_ ?_<;>intro hb23
 · (
 rw [Qb oM] at hsn;(have hsl:(Ki op (l.take (k+1))).length=(Ki op (l.take k)).length+1:=by rw [hsn,Xf];rfl);refine Wh ?_;refine yU (Zj 7 G5) fun v32=>?_;refine JW 33 Eb fun h33 ho33=>?_;refine WN 1000 33 34 Eb fun h34 ho34=>?_;refine Zp (Zz (l:=34) 1000 rfl rfl) fun _=>?_;refine Zp (Y1 (l:=1000) (p':= .own 24 3 (Ki op (l.take (k+1))).length (Z9 (Ki op (l.take (k+1))))) rfl (Eq.trans (congrArg (PV.own 24 3 _) (show _=Z9 (Ki op (l.take k))++cN x from rfl)) (by rw [Zbf,←hsn,hsl]))) fun _=>?_;refine Wy ?_
 first
  | (exact Yh (
      ⟨(k+1,h22),Zd hx,ho22⟩
      ))
  | (exact Yh (
      ⟨(k+1,h34),Zd hx,ho34⟩
      ))
  | (exact Yh (
      ⟨(k+1,hO),Zd hx,hOo⟩
      )))
 · first |exact bN hb23|(
 rw [Qa oM,Xu] at hsn;refine Zq (Y1 (l:=1000) (p':= .own 24 3 (Ki op (l.take (k+1))).length (Z9 (Ki op (l.take (k+1))))) rfl (by rw [hsn])) fun _=>?_;refine ZE ?_
 first
  | (exact Yh (
      ⟨(k+1,h22),Zd hx,ho22⟩
      ))
  | (exact Yh (
      ⟨(k+1,h34),Zd hx,ho34⟩
      ))
  | (exact Yh (
      ⟨(k+1,hO),Zd hx,hOo⟩
      ))))))
 · (
 rw [Xq (show l.length≤k by omega)];rw [Xq (show l.length≤k by omega)] at hpl;have hFp:=Zpo (op:=op) hF;refine ZE ?_;refine KI (fun h4:Value=>⟨[(0, .int .i64 op,Zc op),(4,ZD (Zr h4) 0, .val (ZD (Zr h4) 0)),(5,hO, .val hO)],[(1000,hO, .own 24 3 (sS op (Ki op l)).length (Z9 (sS op (Ki op l)))),(4,h4, .own 24 3 1 [.val (.int .i64 0), .val (.string ByteArray.empty), .val (.slice none 0 0)])]⟩) ?_ ?_
 · refine cX ?_ ?_<;>intro hb37
   · (
 refine Wh ?_;refine JZ [(1000,hO,PV.own 24 3 (Ki op l).length (Z9 (Ki op l))),(4,_,_)] sB ?_;refine WA [4] 39 (call163) (ZjP 164 (call164) hO (.func (.func 164) #[] #[]) (Ki op l) oM (fun x hx y hy=>Zrj x y (hFp x hx) (hFp y hy))) (fun v39 p39 h39 hR39=>?_);subst hR39;dsimp only [W9];refine Zp (Y1 (l:=1000) (p':= .own 24 3 (sS op (Ki op l)).length (Z9 (sS op (Ki op l)))) rfl (by unfold sS;rw [Qa hb37])) fun _=>?_;refine ZF ?_;exact ZS _ sB sB)
   · (
 refine Zq (Y1 (l:=1000) (p':= .own 24 3 (sS op (Ki op l)).length (Z9 (sS op (Ki op l)))) rfl (by unfold sS;rw [Qb oM])) fun _=>?_;refine nav ?_;exact ZS _ sB sB)
 · rintro h4;have hsl:=Zrp op (Ki op l);refine ZE ?_;refine KI (fun q:Value×{h:Value//h.oneCell'=true}=>⟨[(0, .int .i64 op,Zc op),(4,ZD (Zr q.1) 0, .val (ZD (Zr q.1) 0)),(5,q.2.1, .val q.2.1)],[(1000,q.2.1, .own 24 3 (Rm op (Ki op l)).length (Z9 (Rm op (Ki op l)))),(4,q.1, .own 24 3 1 [.val (.int .i64 0), .val (.string ByteArray.empty), .val (.slice none 0 0)])]⟩) ?_ ?_
   · refine cX ?_ ?_<;>intro hb41
     · (
 (have hasc:AscT (sS op (Ki op l)):=by unfold sS;rw [Qa oM];exact He _);(have hord:TD (sS op (Ki op l))=Rm op (Ki op l):=by unfold sS Rm;rw [Qa oM,Qa oM,Qb oM]);refine Wh ?_;refine JZ [(1000,hO,PV.own 24 3 (sS op (Ki op l)).length (Z9 (sS op (Ki op l)))),(4,_,_)] sB ?_;refine WA [4] 43 (call165) (Zcd 166 (call166) (.func (.func 166) #[] #[]) (sS op (Ki op l)) oM hasc (fun x hx y hy=>Zpe x y (hFp x (ZmQ hx)) (hFp y (ZmQ hy))) hO hOo) ?_;rintro v43 _ _ ⟨hv43,rfl,rfl⟩;refine Zp (Y1 (l:=1000) (p':= .own 24 3 (Rm op (Ki op l)).length (Z9 (Rm op (Ki op l)))) rfl (by rw [hord])) fun _=>?_;refine ZB ?_
 first
 |exact ZS (h4,⟨v43,hv43⟩) sB sB
 |exact ZS (h4,⟨hO,hOo⟩) sB sB)
     · (
 refine Zq (Y1 (l:=1000) (p':= .own 24 3 (Rm op (Ki op l)).length (Z9 (Rm op (Ki op l)))) rfl (by rw [Zrq oM])) fun _=>?_;refine nav ?_
 first
 |exact ZS (h4,⟨v43,hv43⟩) sB sB
 |exact ZS (h4,⟨hO,hOo⟩) sB sB)
   · rintro ⟨h4,hP,hPo⟩;dsimp only;have hol:(Rm op (Ki op l)).length≤1000000:=XJ (Ox _) (XJ (ZhI _ _) (XJ (Zce _ _) hn));unfold Hf;generalize Rm op (Ki op l)=p at hol ⊢;refine Zh ?_;refine xL 44 Za (xL 45 (WQ 1000 Ow) ?_);refine GG ?_ ?_<;>intro hb46
     · (
 obtain rfl:p=[]:=XB oM;refine Zh ?_;refine xM (ZX Zbd) ?_;refine Zp (ZdT (t:=48) (p':=pTr ζ9) rfl Zf4) fun _=>?_;refine Zu 4 G5 ?_;refine ZF ?_;exact Z4 (k:=3) 4 results120 rfl)
     · (
 refine Wa ?_ ?_<;>intro hb49
 · (
 obtain ⟨x,rfl⟩:∃x,p=[x]:=by
  match p,hb49 with
  |[],h=>simp at h
  |[x],_=>exact ⟨x,rfl⟩
  |_::_::_,h=>simp at h;omega
 have e1:((Z9 [x]).drop (0*3)).take 3=cN x:=ZT (k:=0) rfl;have e2:0*3+3≤(Z9 [x]).length:=Yg (k:=0) (x:=x) rfl;refine Zh ?_;refine xL 51 Za (xL 52 (Zo 1000 Ow) ?_);refine yU (Zj 1000 G5) fun v53=>?_;refine Zu 4 G5 ?_;refine ZF ?_;exact Z4 (k:=3) 4 results120 rfl)
 · (
 refine nav ?_;refine Zq (En.freeze (l:=1000) (t:=5) rfl rfl) fun _=>?_;rw [Rq _ _ _ rfl];refine Zi ?_;refine xL 54 Za (xL 55 Za (xL 56 (ZX Zbd) ?_));refine Zu 4 G5 ?_;refine ZF ?_;refine Z4 (k:=3) 4 results120 ?_;match p,hb46,hb49 with
 |[],h,_=>simp at h
 |[x],_,h=>simp at h
 |x::y::r,_,_=>rfl)))
open Classical in
noncomputable def setK (ks:List BA) (s:BA):List BA:=if s∈ks then ks else ks++[s]
noncomputable def colS (ks:List BA) (l:List BA):List BA:=l.foldl setK ks
theorem SA (ks:List BA) (s x:BA):x∈setK ks s↔x∈ks∨x=s:=by
 unfold setK
 split
 · rename_i h;exact ⟨.inl,fun h2=>h2.elim id fun e=>e▸h⟩
 · rw [Xd,Xn]
theorem Cc {ks:List BA} (h:ks.Nodup) (s:BA):(setK ks s).Nodup:=by
 unfold setK
 split
 · exact h
 · rename_i hn;exact VB.2 ⟨h,Vu _ s,fun a ha b hb e=>hn (by rw [Xn] at hb;rw [←hb,←e];exact ha)⟩
theorem P1:∀(l ks:List BA) (x:BA),x∈colS ks l↔x∈ks∨x∈l
 |[],ks,x=>by simp [colS]
 | s::l,ks,x=>by
   show x∈colS (setK ks s) l↔_;rw [P1 l,SA,Xk,or_assoc]
theorem OA:∀(l ks:List BA),ks.Nodup→(colS ks l).Nodup
 |[],_,h=>h
 |s::l,ks,h=>OA l (setK ks s) (Cc h s)
theorem Zd6 (ks l m:List BA):colS ks (l++m)=colS (colS ks l) m:=Vp
theorem ζK:∀(l ks:List BA),(colS ks l).length≤ks.length+l.length
 |[],ks=>Xe _
 | s ::l,ks=>by
   show (colS (setK ks s) l).length≤_;have h1:=ζK l (setK ks s);have h2:(setK ks s).length≤ks.length+1:=by
    unfold setK;split
    · omega
    · rw [Xf];simp
   rw [Xl];omega
def Wp (ks:List BA):List (BA×Value):=ks.map fun s=>(s, .bool true)
theorem Ho (ks:List BA) (s:BA):TO (skv (Wp ks)) (.string s) (.bool true)=skv (Wp (setK ks s)):=by
 rw [Ps]
 congr 1
 unfold setK
 induction ks with
 |nil=>simp [Wp,KS]
 | cons x ks ih=>
   unfold Wp at ih ⊢;rw [Xj,KS];by_cases h:s=x
   · subst h;simp
   · simp only [h,if_false,Ne.symm h] at ih ⊢;by_cases h2:s∈ks
     · simp [h2,h] at ih ⊢;exact ih
     · simp [h2,h] at ih ⊢;exact ih
def toB (s:BA):List UInt8:=s.data.toList
def ofB (l:List UInt8):BA:=⟨l.toArray⟩
theorem OB (s:BA):ofB (toB s)=s:=by cases s;simp [ofB,toB]
theorem Cd (l:List UInt8):toB (ofB l)=l:=by simp [ofB,toB]
def Gv (ks:List BA):List BA:=((ks.map toB).mergeSort fun x y=>decide (x≤y)).map ofB
theorem ZmR (ks:List BA):((ks.map toB).mergeSort fun x y=>decide (x≤y)).map ZfY=(Gv ks).map Zt:=by
 unfold Gv
 rw [Xt];rfl
theorem Zpp (ks:List BA):(ks.map toB).map ZfY=ks.map Zt:=by
 rw [Xt]
 refine Uq fun s _=>?_
 show PV.val (.string (ofB (toB s)))=Zt s
 rw [OB]
theorem Rs (ks:List BA):(Gv ks).length=ks.length:=by unfold Gv;simp
theorem Zf5 (ks:List BA):(Gv ks).Perm ks:=by
 have h:=(Ue (ks.map toB) fun x y=>decide (x≤y)).map ofB
 have e:(ks.map toB).map ofB=ks:=by rw [Xt];exact (Uq fun s _=>OB s).trans (VP ks)
 rw [e] at h
 exact h
theorem Zd7 {ks:List BA} {s:BA}:s∈Gv ks↔s∈ks:=(Zf5 ks).mem_iff
theorem ZhK {ks:List BA} (h:ks.Nodup):(Gv ks).Nodup:=(Zf5 ks).nodup_iff.2 h
theorem ZjS {l m:List BA} (h:l.Perm m):Gv l=Gv m:=by
 unfold Gv
 congr 1
 have htr:∀a b c:List UInt8,decide (a≤b)=true→decide (b≤c)=true→decide (a≤c)=true:=fun a b c h1 h2=>by
  simp only [U8] at*;exact List.le_trans h1 h2
 have hto:∀a b:List UInt8,(decide (a≤b)||decide (b≤a))=true:=fun a b=>by
  simp only [X3,U8];exact List.le_total a b
 refine List.Perm.eq_of_pairwise (le:=fun x y=>decide (x≤y)=true) (fun a b _ _ h1 h2=>?_) (UC htr hto _) (UC htr hto _) (((Ue _ _).trans (h.map toB)).trans (Ue _ _).symm)
 simp only [U8] at h1 h2
 exact List.le_antisymm h1 h2
theorem ZjT {l m:List BA} (h:∀s,s∈l↔s∈m):(colS [] l).Perm (colS [] m):=
 (U6 (OA l [] X6) (OA m [] X6)).2 fun s=>by rw [P1,P1,h]
theorem Zd8 {t x:Nd} (h:WH t=true) (hx:x∈t.l):WH x=true:=by
 unfold WH LS at h ⊢
 simp only [Xi,U8] at h ⊢
 obtain ⟨⟨h1,h2⟩,h3⟩:=h
 have e1:=P0 t
 have e2:=Jh hx
 have e5:dpT t=1+dpL t.l:=by cases t;rw [dpT];rfl
 have e6:=Zhm hx
 exact ⟨⟨(Y3.1 h1).2 x hx,oM⟩,oM⟩
theorem ZmS {ks:List BA} {k v:Value} (h:(k,v)∈skv (Wp ks)):∃s,s∈ks∧k= .string s∧v= .bool true:=by
 unfold skv Wp at h
 rw [Xt] at h
 obtain ⟨s,hs,e⟩:=Xh.1 h
 cases e
 exact ⟨s,hs,rfl,rfl⟩
def kyv (k1 g:Nat):Value:= .func (.func k1) #[] #[.pointer (some ⟨g,0,none⟩)]
def kyP (g b clock t:Nat) (es:Array MapEntry):PV:= .oblk (itv g) g (.cells #[.map (some b)] t) [(b, .map es clock)]
def kyE (g b clock t:Nat) (es:Array MapEntry):Ent:=(itv g,kyP g b clock t es)
def Zqs (P:Program) (f k1 t:Nat):Prop:=∀(b:Nat) (w:World),Calls P f #[.map (some b)] w fun e w'=>e= .returned (kyv k1 w.heap.size)∧w'=w.alloc (.cells #[.map (some b)] t)
def Zd9 (P:Program) (f k1 t T:Nat):Prop:=∀(g b clock:Nat) (es:Array MapEntry) (ks:List BA) (w:World),w.heap[g]? =some (.cells #[.map (some b)] t)→w.heap[b]? =some (.map es clock)→WfM es clock→kvOf es=skv (Wp ks)→ks.Nodup→ks.length≤1000000→(∀s∈ks,s.size≤140737488355328)→
 Calls P f #[kyv k1 g] w fun e w'=>∃v,e= .returned v∧w'.ownsRow w.heap.size T 1 v ks.length ((Gv ks).map Value.string)∧Below w.heap.size w w'
section
variable {P:Program} {c:Ctx} {ops:Array Oper} {Q:Exit→Act→World→Prop} {rest:List Oper} {sL hP:List (Nat×Ent)} {o:Oper}
theorem Zf6 {f k1 t:Nat} {x:Operand} {m:Value} {kv:List (Value×Value)} {ats:Array TypeId} (d:Nat) (hA:Zqs P f k1 t) (hc:∀args w,(callFunc f args).run P w= .ok (.enter f args) w)
 (k:∀(g b clock:Nat) (es:Array MapEntry),kv=kvOf es→WfM es clock→aL P c ops Q rest ⟨put d (kyv k1 g, .val (kyv k1 g)) sL,put d (kyE g b clock t es) hP⟩)
 (hw:ZP ops sL o=some true:=by exact rfl) (hd:o.dst=some d:=by exact rfl) (hn:d<c.nt:=by exact Xa rfl) (ho:o.op= .call {callee:= .value (.func f),args:= #[x],argTypes:=ats}:=by exact rfl) (hx:ev sL x=some (m, .smap kv):=by exact rfl) (hl:lk hP d=none:=by exact rfl):aL P c ops Q (o::rest) (⟨sL,hP⟩:St):=
 Y4 hw fun a w F H=>by
  obtain ⟨hv,hS⟩:=H.rd.ev hx
  cases hS with
  | smap b es clock hM h hW=>
    have key:HoldsF c ⟨put d (kyv k1 w.heap.size, .val (kyv k1 w.heap.size)) sL,put d (kyE w.heap.size b clock t es) hP⟩ (fun l'=>if l'=d then (fun x=>x=w.heap.size) else F l') (a.put (some d) (kyv k1 w.heap.size)) (w.alloc (.cells #[.map (some b)] t)):=by
     refine H.change (fun l'=>l'=d) hn ((Ext.alloc _ _).chg) (fun l' x hne hx'=>?_) (fun l' x b' hT hx' hb=>?_) (fun hm l' u q hT hx'=>?_) (fun l1 l2 _ _ _ h1 h2 hne=>Qc (h1.trans h2.symm) hne) (fun hm=> .val _)
     · rcases ZZ hx' with ⟨e1,_⟩|⟨_,e1⟩
       · exact Qc e1.symm hne
       · exact ⟨e1,by simp [hne]⟩
     · subst hT;simp only [if_true] at hb;exact .inr (by rw [hb];exact Xe _)
     · subst hT;rw [ZJ] at hx';unfold kyE kyP at hx'
       cases hx';simp only [if_true];refine .oblk w.heap.size rfl ?_ (fun p hp=>?_) (fun x=>Iff.rfl)
       · show (w.heap.push _)[w.heap.size]? =_;simp
       · rw [Xn] at hp;subst hp;exact ⟨(Ext.alloc w _).block h,fun hb=>hM (hm b (Y8 h) hb)⟩
    have hrun:(execOp a.eval o).run P w= .ok (.enter f #[.map (some b)]) w:=by
     have hev:a.eval (.func f)= .func (.func f) #[] #[]:=rfl;simp [execOp,ho,resolve,Deferred.ofValue,hev,invoke,hv,hc]
    unfold Oper.wp;rw [hrun,Oper.upon_enter];refine (hA b w).mono fun e' w' ⟨he,hw'⟩=>?_;subst he hw';rw [hd];exact k _ _ _ _ rfl hW _ _ ⟨_,key⟩
theorem Ec {f k1 t T g b clock:Nat} {es:Array MapEntry} {q:PV} {x:Operand} {ats:Array TypeId} {ks:List BA} (l d:Nat) (hA:Zd9 P f k1 t T) (hc:∀args w,(callFunc f args).run P w= .ok (.enter f args) w) (hdr:¬c.dr)
 (hW:WfM es clock) (hkv:kvOf es=skv (Wp ks)) (hnd:ks.Nodup) (hlen:ks.length≤1000000) (hsz:∀s∈ks,s.size≤140737488355328)
 (k:∀v:Value,v.oneCell'=true→aL P c ops Q rest ⟨put d (v, .val v) sL,put d (v, .own T 1 ks.length ((Gv ks).map Zt)) hP⟩)
 (hw:ZP ops sL o=some true:=by exact rfl) (hd:o.dst=some d:=by exact rfl) (hn:d<c.nt:=by exact Xa rfl) (ho:o.op= .call {callee:= .value (.func f),args:= #[x],argTypes:=ats}:=by exact rfl) (hx:ev sL x=some (kyv k1 g,q):=by exact rfl) (hl:lk hP l=some (kyE g b clock t es):=by exact rfl) (hld:lk hP d=none:=by exact rfl):aL P c ops Q (o::rest) (⟨sL,hP⟩:St):=
 Y4 hw fun a w F H=>by
  have hv:=(H.rd.ev hx).1;obtain ⟨h,hs,hF⟩:=(H.tr l _ _ hl).blk;obtain ⟨hb,_⟩:=hs (b, .map es clock) sM;dsimp only at hb;have hrun:(execOp a.eval o).run P w= .ok (.enter f #[kyv k1 g]) w:=by
   have hev:a.eval (.func f)= .func (.func f) #[] #[]:=rfl;simp [execOp,ho,resolve,Deferred.ofValue,hev,invoke,hv,hc]
  unfold Oper.wp;rw [hrun,Oper.upon_enter];refine (hA g b clock es ks w h hb hW hkv hnd hlen hsz).mono fun e' w' ⟨v,he,hown,hbel⟩=>?_;subst he;rw [hd];have hone:v.oneCell'=true:=by
   rcases hown.2 with ⟨h1,_⟩|⟨g',cap',cur,e1,_⟩
   · rw [h1];rfl
   · rw [e1];rfl
  have hlow:∀b,v.ownBlock=some b→w.heap.size≤b:=fun b hb'=>by
   rcases hown.2 with ⟨h1,_⟩|⟨g',cap',cur,e1,e2,_⟩
   · rw [h1] at hb';simp [Value.ownBlock] at hb'
   · rw [e1] at hb';simp [Value.ownBlock] at hb';omega
  have hown0:w'.ownsRow 0 T 1 v ks.length ((Gv ks).map Value.string):=by
   refine ⟨hown.1,?_⟩;rcases hown.2 with h1|⟨g',cap,cur,e1,e2,r⟩
   · exact .inl h1
   · exact .inr ⟨g',cap,cur,e1,Xg _,r⟩
  have hch:Chg (fun b=>∃l x,l=d∧lk hP l=some x∧F l b) w w':=⟨hbel.os,hbel.tape,hbel.output,hbel.size,fun i hi _=>hbel.block i hi⟩;refine k v hone _ _ ⟨fun l'=>if l'=d then (fun b=>v.ownBlock=some b) else F l',H.change (fun l'=>l'=d) hn hch (fun l' x hne hx'=>?_) (fun l' x b' hT hx' hb=>?_) (fun hm l' u q hT hx'=>?_) (fun l1 l2 _ _ _ h1 h2 hne=>Qc (h1.trans h2.symm) hne) (fun hm=> .val _) (fun h=>Qc h hdr)⟩
  · rcases ZZ hx' with ⟨e1,_⟩|⟨_,e1⟩
    · exact Qc e1.symm hne
    · exact ⟨e1,by simp [hne]⟩
  · subst hT;simp only [if_true] at hb;exact .inr (hlow b' hb)
  · subst hT;rw [ZJ] at hx'
    cases hx';simp only [if_true];refine .own ((Gv ks).map Value.string) (fun _ _=>False) hown0 sM (fun t v p hv hp=>?_) (fun _ _ _ _ _ _ h=>h.elim) (fun _ _ _ h=>h.elim) (fun b=>sM);rw [Xo,XP] at hv hp;obtain ⟨b1,hb1,rfl⟩:=hv;obtain ⟨b2,hb2,rfl⟩:=hp;rw [hb1] at hb2;cases hb2;exact .shr (.val _) (fun _ h=>h)
end
open Go.Maps Go.Sort Go.Shelf in
def rdK (_:Value):Option (DataW Unit×List MemPlace):=some (.lit (.bool true),[])
section
open Go.WideElems Go.MapKept Go.WideMaps
theorem Zrr {P:Program} {k:TypeId} (hk:P.underlying k=some .string) {s:BA} (hs:s.size≤maxLen):rg P k rdK ⟨.string s, .bool true,0⟩=(.string s.data.toList, .lit (.bool true)):=by
 have:rd P k rdK ⟨.string s, .bool true,0⟩=some (.string s.data.toList, .lit (.bool true)):=rd_mk (R:=rdK) (val:= .bool true) (born:=0) (yv:=(.lit (.bool true),[])) (keyOf_string_mk hk hs) rfl
 exact rg_of this
theorem Zpq {P:Program} {k:TypeId} (hk:P.underlying k=some .string) {w:World} {b clock:Nat} {es:Array MapEntry} {ks:List BA} (hb:w.heap[b]? =some (.map es clock)) (hW:WfM es clock) (hkv:kvOf es=skv (Wp ks)) (hnd:ks.Nodup) (hlen:ks.length≤1000000) (hsz:∀s∈ks,s.size≤140737488355328):∃D0,w.ownsMap P k rdK b ks.length D0∧(strKeys D0).Perm (ks.map toB)∧Maps.size D0=ks.length:=by
 have hml:∀s∈ks,s.size≤maxLen:=fun s hs=>by have:=hsz s hs;unfold maxLen;omega
 have hkv2:es.toList.map (fun x=>(x.key,x.val))=ks.map fun s=>(Value.string s,Value.bool true):=by
  have:kvOf es=ks.map fun s=>(Value.string s,Value.bool true):=by rw [hkv];unfold skv Wp;rw [Xt];rfl
  exact this
 have hsize:es.size=ks.length:=by have:=congrArg List.length hkv2;simpa using this
 have hrg:es.toList.map (rg P k rdK)=ks.map fun s=>(Lit.string s.data.toList,(.lit (.bool true):DataW Unit)):=by
  have h1:es.toList.map (rg P k rdK)=(es.toList.map fun x=>(x.key,x.val)).map fun p=>rg P k rdK ⟨p.1,p.2,0⟩:=by
   rw [Xt];rfl
  rw [h1,hkv2,Xt];exact Uq fun s hs=>Zrr hk (hml s hs)
 have hread:∀x∈es.toList,∃y,rd P k rdK x=some y:=fun x hx=>by
  have:(x.key,x.val)∈es.toList.map (fun x=>(x.key,x.val)):=Xh.2 ⟨x,hx,rfl⟩;rw [hkv2] at this;obtain ⟨s,hs,e⟩:=Xh.1 this;obtain ⟨xk,xv,xb⟩:=x
  cases e;exact ⟨_,rd_mk (R:=rdK) (yv:=(.lit (.bool true),[])) (keyOf_string_mk hk (hml s hs)) rfl⟩
 refine ⟨.map ((es.toList.map (rg P k rdK)).foldr DataW.insert []),⟨es,clock,hb,⟨by rw [hsize];unfold maxLen;omega,?_,hread⟩,by rw [hsize];exact Xe _,rfl⟩,?_,?_⟩
 · refine ⟨hW.1,hW.2,?_⟩;have h3:es.toList.map (·.key)=ks.map Value.string:=by
    have:=congrArg (List.map Prod.fst) hkv2;rw [Xt,Xt] at this;exact this
   rw [h3];exact Vq.2 (hnd.imp fun h e=>h (by cases e;rfl))
 · rw [hrg];have h2:=(WideShapes.sorted_perm (ks.map fun s=>(Lit.string s.data.toList,(.lit (.bool true):DataW Unit)))).map fun p=>strOf p.1;rw [Xt] at h2;exact h2
 · show List.length _=_;rw [(WideShapes.sorted_perm _).length_eq,Xb,XX,hsize]
end
theorem ZmT:Zqs prog 63 107 88:=fun b w=>callsIn_wide.1 (AnyZ.keys_in (ρ:=Tryz.keysA_ren) Tryz.keysA Fence.wide 5 trivial rfl (some b) w)
theorem Zrs (m:Nat):AnyZ.SortsIn prog Tryz.sortedA_ren Fence.wide m:=
 ⟨fun blk off cap ss W hH hblk hsz=>callsIn_wide.2 (Tryz.slices_Sort_string blk off cap ss W hH hblk hsz),fun p cap W=>callsIn_wide.2 (Tryz.slices_Sort_string_none p cap W)⟩
theorem ζL:Zd9 prog 62 107 88 9:=fun g b clock es ks w hg hb hW hkv hnd hlen hsz=>by
 obtain ⟨D0,hown,hperm,hsize⟩:=Zpq (P:=prog) (k:=9) underlying9 hb hW hkv hnd hlen hsz
 have hseq:SeqGives Fence.wide 2 prog 107 #[.pointer (some ⟨g,0,none⟩)] encStr (fun ss=>ss.Perm (strKeys D0)) (Maps.size D0) w:=
  AnyZ.keys_gives (ρ:=Tryz.keysA_ren) {Tryz.keysA with} Fence.wide _ trivial rfl oM g b _ D0 w (Y8 hg) (by simp [World.cell?,hg]) hown
 have cS:=AnyZ.sorted_in (ρ:=Tryz.sortedA_ren) Tryz.sortedA Fence.wide 5 trivial trivial trivial trivial rfl oM (Zrs _) (call18) 107 #[.pointer (some ⟨g,0,none⟩)] trivial (call107) _ _ (by rw [hsize];unfold maxLen;omega) (by rw [hsize];omega) _ hseq
 refine (callsIn_wide.1 cS).mono ?_
 rintro e w' ⟨v,ss,rfl,hS,hrow,_,hbel⟩
 have hp:=hS.trans hperm
 refine ⟨v,rfl,?_,hbel⟩
 have e1:(ss.mergeSort fun x y=>decide (x≤y)).map encStr=(Gv ks).map Value.string:=by
  rw [mergeSort_of_perm hp];unfold Gv;rw [Xt];rfl
 have e2:ss.length=ks.length:=by rw [hp.length_eq,Xb]
 rw [e1,e2] at hrow
 exact hrow
open Go.RowKit Go.Shelf
attribute [local go_sem] Oper.semAt_some
def ZmU (V:Nat→Nat→Value) (k:Nat):Array Value:= #[.int .i64 k, .agg #[V k 0,V k 1,V k 2,V k 3]]
def GK (n k:Nat):List Nat:=(List.range k).map fun j=>n-1-j
theorem EM (n k:Nat):GK n (k+1)=GK n k++[n-1-k]:=by simp [GK,List.range_succ]
theorem Zf7 (n k:Nat):(GK n k).length=k:=by simp [GK]
def KpB (Bs b:Nat) (W W':World):Prop:=∀(p:Addr) (v:Value),(p.block=Bs∨p.block=b)→W.cell? p=some v→W'.cell? p=some v
theorem KpB.trans {Bs b:Nat} {A B C:World} (h:KpB Bs b A B) (k:KpB Bs b B C):KpB Bs b A C:=fun p v hp hv=>k p v hp (h p v hp hv)
theorem ZmV (n l Bs b off len cap:Nat) (V:Nat→Nat→Value) (hreach:len≤1000000) (hcap:cap≤maxLen) (hlc:len≤cap) (J Jx:List Nat→World→Prop)
 (hY:∀pre x W,x<len→J pre W→pre.length<len→YieldAt Fence.wide (n-1) prog l (ZmU V x) W fun e W'=>
   (e= .returned (.bool true)∧J (pre++[x]) W'∧KpB Bs b W W')∨(e= .returned (.bool false)∧Jx (pre++[x]) W'))
 (W:World) (hBs:W.cell? ⟨Bs,0,none⟩=some (.slice (some ⟨b,off,none⟩) len cap)) (hc:∀k j,k<len→j<4→W.cell? ⟨b,off+k*4+j,none⟩=some (V k j)) (h0:J [] W):
 CallsIn Fence.wide n prog 169 #[.func (.yield l) #[] #[], .pointer (some ⟨Bs,0,none⟩)] W fun e W'=>(∃v,e= .returned v)∧
  ((∃ys,ys=GK len len∧J ys W')∨(∃pre,(∃k,k≤len∧pre=GK len k)∧Jx pre W')):=by
 refine callsIn_of_wp func169 rfl trivial ?_ rfl
 simp only [ntmps169,Vz,Xl,Xz,Nat.reduceAdd,Nat.reduceSub,Array.replicate_succ,Array.replicate_zero,List.push_toArray,List.append_toArray,XQ,XV]
 gi_wp2
 gi_loopw [3] (fun i wr=>∃k:Nat,k≤len∧i= .int .i64 ((len:Int)-1-k)∧J (GK len k) wr∧KpB Bs b W wr)
  (fun i _=>(intOf i+1).toNat)
 case atStart=>exact ⟨0,Xg _,sM,h0,fun _ _ _ h=>h⟩
 case round=>
  obtain ⟨k,hk,rfl,hJs,hnx⟩:=hrel;have hBx:wr.cell? ⟨Bs,0,none⟩=some (.slice (some ⟨b,off,none⟩) len cap):=hnx ⟨Bs,0,none⟩ _ (.inl rfl) hBs;by_cases hlt:k<len
  · obtain ⟨m,hmi,hm1,hm2⟩:∃m:Nat,(len:Int)-1-k=m∧m+k+1≤len∧len≤m+k+1:=⟨len-1-k,oM,oM,oM⟩;rw [hmi];clear hmi;have hcx:∀j,j<4→wr.cell? ⟨b,off+m*4+j,none⟩=some (V m j):=fun j hj=>hnx ⟨b,off+m*4+j,none⟩ _ (.inr rfl) (hc m j oM hj);have c0:wr.cell? ⟨b,off+m*4,none⟩=some (V m 0):=hcx 0 oM;have c1:=hcx 1 oM;have c2:=hcx 2 oM;have c3:=hcx 3 oM;obtain ⟨fn,tmps,assign,body,hy,hR⟩:=hY _ m wr oM hJs (by rw [Zf7];exact hlt);unfold ZmU at hy;have hml:m<len:=oM;(have hdn:GK len k++[m]=GK len (k+1):=by rw [EM,show len-1-k=m by omega]);gi_wp2
    refine ⟨fun h=>Qc h dC,?_⟩;refine hR.mono ?_;rintro e W3 (⟨rfl,hJ3,hk3⟩|⟨rfl,hJx3⟩)
    · gi_wp2
      go_roundw
      case rel=>exact ⟨k+1,oM,by simp;omega,by rw [←hdn];exact hJ3,hnx.trans hk3⟩
      case measure=>simp [intOf]
    · gi_wp2
      refine bodyPost_ret (results_none rfl _ _ _) rfl ?_;exact ⟨⟨_,rfl⟩, .inr ⟨_,⟨k+1,oM,hdn⟩,hJx3⟩⟩
  · obtain rfl:k=len:=oM;gi_wp2
    go_end0
    exact ⟨⟨_,rfl⟩, .inl ⟨_,rfl,hJs⟩⟩
theorem Zf8 (n Bs b off len cap:Nat) (V:Nat→Nat→Value) (w:World) (hreach:len≤1000000) (hcap:cap≤maxLen) (hlc:len≤cap) (hb:b<w.heap.size) (hBs0:Bs<w.heap.size)
 (hBs:w.cell? ⟨Bs,0,none⟩=some (.slice (some ⟨b,off,none⟩) len cap)) (hc:∀k j,k<len→j<4→w.cell? ⟨b,off+k*4+j,none⟩=some (V k j)):
 SeqStopsK Fence.wide n prog 169 #[.pointer (some ⟨Bs,0,none⟩)] (fun x:{k:Nat//k<len}=>ZmU V x.1) (KpB Bs b) (fun ys=>ys.map (·.1)=GK len len) (fun pre=>∃k,k≤len∧pre.map (·.1)=GK len k) len w:=fun l J Jx W hW _ _ hY h0=>by
 refine (ZmV n l Bs b off len cap V hreach hcap hlc (fun l W=>∃l':List {k:Nat//k<len},l'.map (·.1)=l∧J l' W) (fun l W=>∃l':List {k:Nat//k<len},l'.map (·.1)=l∧Jx l' W) ?_ W ((hW.cell (p:=⟨Bs,0,none⟩) hBs0).trans hBs) (fun k j hk hj=>(hW.cell (p:=⟨b,off+k*4+j,none⟩) (by show b<_;omega)).trans (hc k j hk hj)) ⟨[],rfl,h0⟩).mono ?_
 · rintro pre x W hx ⟨l',rfl,hJ⟩ hlen;obtain ⟨fn,tmps,assign,body,hy,hR⟩:=hY l' ⟨x,hx⟩ W hJ (by rw [Xb] at hlen;exact hlen);refine ⟨fn,tmps,assign,body,hy,hR.mono ?_⟩;rintro e W' (⟨h1,h2,h3⟩|⟨h1,h2⟩)
   · exact .inl ⟨h1,⟨l'++[⟨x,hx⟩],sM,h2⟩,h3⟩
   · exact .inr ⟨h1,⟨l'++[⟨x,hx⟩],sM,h2⟩⟩
 · rintro e W' ⟨h1,h2⟩;refine ⟨h1,?_⟩;rcases h2 with ⟨ys,rfl,l',h3,h4⟩|⟨pre,⟨k,hk,rfl⟩,l',h3,h4⟩
   · exact .inl ⟨l',h3,h4⟩
   · exact .inr ⟨l',⟨k,hk,h3⟩,h4⟩
theorem Zr8 (v:Value) (w:World) (hv:v.oneCell'=true):CallsIn Fence.wide 5 prog 127 #[v] w fun e w'=>e= .returned (.func (.func 169) #[] #[.pointer (some ⟨w.heap.size,0,none⟩)])∧w'=w.alloc (.cells #[v] 166):=by
 refine callsIn_of_wp func127 rfl trivial ?_ rfl
 simp only [ntmps127,Vz,Xl,Xz,Nat.reduceAdd,Nat.reduceSub,Array.replicate_succ,Array.replicate_zero,List.push_toArray,List.append_toArray,XQ,XV]
 gi_wp2
 exact ⟨rfl,_,by simp [results,show Tryz.f127.results= #[.tmp 2] from rfl],rfl,rfl⟩
theorem ZjU:MpT prog 88 9 4 .string (.bool false):=⟨underlying88,underlying9, .inl rfl,by show ZeroT _ _ _;unfold ZeroT;kernel_rfl⟩
def ZmW (g:Value) (ks ls:List BA) (v:Value) (p:PV) (h:List (Nat×Ent)):Prop:=∃ms:List BA,ms.Nodup∧(∀s,s∈ms↔s∈ks∨s∈ls)∧v= .tuple #[]∧p= .val (.tuple #[])∧h=[(1000,g, .omap (skv (Wp ms)))]
theorem Zpr (g u:Value) (ks ls:List BA) (hn:ks.Nodup):AFh False prog 168 [(0,g, .val g),(1,u, .smap (skv (Wp ls)))] [(1000,g, .omap (skv (Wp ks)))] (ZmW g ks ls):=by
 refine AFh.of_body 16 func168 rfl ntmps168 (Xa rfl) rfl ?_
 intro w0 M0 N0
 refine Wh ?_;refine Jr 7 underlying88 (fun b7 r7 c7 es7 hkv7 hWf7=>?_);refine ZF ?_
 refine Yd (ι:={q:Array Nat×List BA//q.2.Nodup∧(∀s,s∈q.2→s∈ks∨s∈ls)∧(∀s,s∈ks→s∈q.2)∧∀s,s∈ls→s∈q.2∨(Value.string s,Value.bool true)∈kvOf (leftOf es7 q.1)}) (fun k=>⟨[(0,_,_),(7,_,_)],[(7,itv r7,itP b7 r7 c7 es7 k.1.1),(1000,g, .omap (skv (Wp k.1.2)))]⟩) (fun k=>(leftOf es7 k.1.1).size) ⟨(#[],ks),hn,fun s h=> .inl h,fun s h=>h,fun s h=> .inr (by rw [D',←hkv7];exact Xh.2 ⟨(s, .bool true),Xh.2 ⟨s,h,rfl⟩,rfl⟩)⟩ ?_
 rintro ⟨⟨seen,K⟩,h1,h2,h3,h4⟩
 dsimp only
 dsimp only at h1 h2 h3 h4
 refine Zh ?_
 (refine Gn 7 8 hWf7 (fun hlf7=>?_) (fun e7 hle7=>?_)<;>refine ZB ?_)<;>(
 refine cX ?_ ?_<;>intro hb9
 · first | exact bN hb9|(
 refine nav ?_;obtain ⟨s,hs,hks,hvs⟩:=ZmS (ks:=ls) (hkv7▸Xh.2 ⟨e7,Km hle7,rfl⟩:(e7.key,e7.val)∈skv (Wp ls));refine Zi ?_;refine xM (Gp 7 hWf7 (Km hle7)) ?_;refine OK ?_;refine ZF ?_;rw [hks,hvs];refine Zi ?_;refine Y' ?_;refine L9 1000 ZjU ?_;rw [Ho];refine ZF ?_;refine Zm (
  ⟨(seen.push e7.born,setK K s),Cc h1 s,fun t ht=>by
    rcases (SA K s t).1 ht with ht|rfl
    · exact h2 t ht
    · exact .inr hs,fun t ht=>(SA K s t).2 (.inl (h3 t ht)),fun t ht=>by
    rcases h4 t ht with h5|h5
    · exact .inl ((SA K s t).2 (.inl h5))
    · have h6:=(Tg hWf7 hle7).mem_iff.1 h5;rcases Xk.1 h6 with h7|h7
      · refine .inl ((SA K s t).2 (.inr ?_));have h8:=congrArg Prod.fst h7;rw [hks] at h8;injection h8 with h8
      · exact .inr h7⟩
  ) (by have h9:=(Tg hWf7 hle7).length_eq;unfold kvOf at h9;rw [Xl,Xb,Xb,XX,XX] at h9;dsimp only;omega) sB sB)
 · first|exact bN hb9|(
 refine nav ?_;have hm:ZmW g ks ls (.tuple #[]) (.val (.tuple #[])) [(1000,g, .omap (skv (Wp K)))]:=⟨K,h1,fun s=>⟨h2 s,fun h=>h.elim (h3 s) fun h=>(h4 s h).resolve_right (by rw [hlf7];simp [kvOf])⟩,rfl,rfl,rfl⟩;exact TR [(1000,g, .omap (skv (Wp K)))] results168 sB hm))
theorem GO (g u:Value) (ks ls:List BA) (hn:ks.Nodup):AFh False prog 126 [(0,g, .val g),(1,u, .smap (skv (Wp ls)))] [(1000,g, .omap (skv (Wp ks)))] (ZmW g ks ls):=by
 refine AFh.of_body 7 func126 rfl ntmps126 (Xa rfl) rfl ?_
 intro w0 M0 N0
 refine Wn ?_;refine WA [] 6 (call168) (Zpr g u ks ls hn) (fun v6 p6 h6 hR6=>?_);obtain ⟨ms,m1,m2,rfl,rfl,rfl⟩:=hR6;refine ZF ?_
 exact TR [(1000,g, .omap (skv (Wp ms)))] results126 sB ⟨ms,m1,m2,rfl,rfl,rfl⟩
theorem ZjV:MpT prog 50 9 39 .string (.slice none 0 0):=⟨underlying50,underlying9, .inl rfl,by show ZeroT _ _ _;unfold ZeroT;kernel_rfl⟩
theorem Ym:SlT prog 56 39 1=true:=kR
theorem ζM (l:List BA):(l.map Zt).all En.one=true:=by
 rw [VF,Xm];intro x _;rfl
theorem Zf9 (l:List BA):(l.map Zt).length=l.length*1:=by rw [Xb,Xy]
theorem OQ (l:List (List BA)) (k:Nat):((l.take k).flatten).length≤l.flatten.length:=by
 have:l.flatten=(l.take k).flatten++(l.drop k).flatten:=by rw [←VH,X5]
 rw [this,Xf]
 omega
theorem SB {l:List (List BA)} {k:Nat} {p:List BA} (h:l[k]? =some p):(l.take (k+1)).flatten=(l.take k).flatten++p:=by
 rw [Zw h];simp
theorem ZjW (n:Nat) (hn:n≤1000000):AF prog 131 [.val (.slice none 0 0),Zc n] (· = .own 9 1 0 []):=by
 refine AF.b2 27 func131 rfl ntmps131 (Xa rfl) ?_
 rintro w0 M0 _ _ rfl rfl
 refine YK ?_;refine YJ ?_;refine cX ?_ ?_<;>intro hb6
 · exfalso;omega
 · refine Zh ?_;refine xL 8 Za (xL 9 Za (xL 10 (Zc6 Zn) (xL 11 Za (xL 12 (Zc7 Zn) (xL 13 DJ (xL 14 DJ (xL 1 Wv ?_)))))));refine GG ?_ ?_<;>intro hb16
   · (
 have h0:0<n:=oM;rw [show (n:Int)-(0-0)=(n:Int) by omega];refine Zh ?_;refine xL 17 Za (xL 18 Za (xL 19 (Zc6 Zn) (xL 20 (Zlq Zn) (xL 21 Za ?_))));refine ZqT 22 ZW underlying3 (fun h22 ho22=>?_);refine xL 23 Za (xL 24 (Zc7 Zn) ?_);refine xM (L5 (i:=0) (j:=0) 22 Zn rfl rfl rfl rfl rfl (Xe _) (Xg _)) ?_;refine Wy ?_
 first
  | (refine Z5 (Zox (l:=22) 0 rfl (Xg _)) fun _=>?_
     refine K3 22 results131 rfl rfl ?_;rw [X8,XM])
  | (refine Z5 (Wr 200 9 1 rfl) fun _=>?_
     exact K3 200 results131 rfl rfl rfl))
   · (
 refine ZE ?_
 first
  | (refine Z5 (Zox (l:=22) 0 rfl (Xg _)) fun _=>?_
     refine K3 22 results131 rfl rfl ?_;rw [X8,XM])
  | (refine Z5 (Wr 200 9 1 rfl) fun _=>?_
     exact K3 200 results131 rfl rfl rfl))
theorem Zea (l:List (List BA)) (hl:l.flatten.length≤1000000):AF prog 91 [WF l] (· = .own 9 1 l.flatten.length (l.flatten.map Zt)):=by
 refine AF.b1 36 func91 rfl ntmps91 (Xa rfl) fun w0 M0 v0 _=>?_
 refine WE 0 rfl fun hlen=>?_
 refine Px ?_
 refine xL 9 Za (xL 10 (Zy Ym) (xL 11 Za ?_));refine ZF ?_
 refine Y7 (ι:={k:Nat//k≤l.length}) (fun k=>⟨[(0,_,_),(9,_,_),(10,_,_),(3, .int .i64 ((l.take k.1).flatten.length:Nat),Zc ((l.take k.1).flatten.length:Nat)),(11, .int .i64 k.1,Zc k.1)],[]⟩) (fun k=>l.length-k.1) ⟨0,oM⟩ (fun a w H=>H.weaken sB trivial) ?_
 rintro ⟨k,hk⟩
 dsimp only
 refine Ys ?_ ?_<;>intro hb12
 · (
 obtain ⟨x,hx⟩:=gS l k;have e1:=Z8 (f:=Zs) hx;have hle:=OQ l (k+1);rw [SB hx,Xf] at hle;refine Zh ?_;refine xM (Zg Ym) ?_;refine yU (ZG ZN) fun v14=>?_;refine ZQ ?_;refine xL 15 Za (xL 16 Za (xL 17 (Zy Zn) (xL 18 Eu (xL 3 Wv ?_))));refine GG ?_ ?_<;>intro hb20
 · exfalso;omega
 · refine Zh ?_;refine YJ ?_;rw [show (((l.take k).flatten.length:Nat):Int)+(x.length:Int)=(((l.take (k+1)).flatten.length:Nat):Int) by rw [SB hx,Xf];omega];refine Zm (
    ⟨k+1,oM⟩
    ) (by dsimp only;omega) sB trivial)
 · (
 refine nav ?_;rw [show k=l.length by omega,XH];refine GH ?_;refine cO 24 (cA call131 (ZjW l.flatten.length oM)) fun v24 ho24=>?_;refine ZQ ?_;refine xL 25 Za (xL 26 (Zy Ym) (xL 27 Za ?_));refine ZF ?_;refine Zq (Zz (l:=24) 200 rfl rfl) fun _=>?_;refine Yd (ι:={x:Nat×Value//x.1≤l.length}) (fun k=>⟨[(25,_,_),(26,_,_),(6,k.1.2, .val k.1.2),(27, .int .i64 k.1.1,Zc k.1.1)],[(200,k.1.2, .own 9 1 (l.take k.1.1).flatten.length ((l.take k.1.1).flatten.map Zt))]⟩) (fun k=>l.length-k.1.1) ⟨(0,v24),Xg _⟩ ?_;rintro ⟨⟨k,h66⟩,hk2⟩;dsimp only;dsimp only at hk2;refine Ys ?_ ?_<;>intro hb28
 · (
 obtain ⟨x,hx⟩:=gS l k;have e1:=Z8 (f:=Zs) hx;have hle:=OQ l (k+1);rw [SB hx,Xf] at hle;have e2:=Zf9 x;have e3:=ζM x;refine Zh ?_;refine xM (Zg Ym) ?_;refine yU (ZG ZN) fun v30=>?_;refine ZQ ?_;refine YW ?_;refine G1 200 33 ZW fun h33 ho33=>?_;refine Wy ?_;refine Yq (Zz (l:=33) 200 rfl rfl) fun _=>?_;rw [show (l.take k).flatten.map Zt++x.map Zt=(l.take (k+1)).flatten.map Zt by rw [SB hx,XC],show (l.take k).flatten.length+x.length=(l.take (k+1)).flatten.length by rw [SB hx,Xf]];refine Zm (
  ⟨(k+1,h33),by show k+1≤l.length;omega⟩
  ) (by show l.length-(k+1)<l.length-k;omega) sB sB)
 · (
 refine ZE ?_;refine K3 200 results91 rfl rfl ?_;rw [show k=l.length by omega,XH]))
theorem Zps (s:BA):∀(ws:List (List BA)) (vs:List Value),kok .string (.string s) ((wks ws).zip vs):=fun ws vs x hx=>by
 obtain ⟨w,_,h⟩:=Xh.1 (List.of_mem_zip hx).1
 obtain ⟨a,b⟩:=x
 simp only at h
 subst h
 rfl
theorem Zrt {sL hP:List (Nat×Ent)} {t l g:Nat} {m u:Value} {ws:List (List BA)} {vs:List Value} {w:List BA} (ht:lk sL t=some (u,Zs w)) (hl:lk hP l=some (m, .omap (TO ((wks ws).zip vs) (.string (KU w)) u))) (hg:lk hP g=some (.agg vs.toArray, .agg (ws.map Zs))) (hlg:l≠g) (hlen:vs.length=ws.length) (hn:NmS ws) (hw:NmW w):
 J1 (⟨sL,hP⟩:St) (fun vs':{vs':List Value//vs'.length=(S5 ws w).length}=>⟨sL,put g (.agg vs'.1.toArray, .agg ((S5 ws w).map Zs)) (put l (m, .omap ((wks (S5 ws w)).zip vs'.1)) hP)⟩):=fun c a W H=>by
 have mv:∀{vs':List Value} {ps:List PV} {kv:List (Value×Value)},kv=TO ((wks ws).zip vs) (.string (KU w)) u→Holds c (⟨sL,put g (.agg vs'.toArray, .agg ps) hP⟩:St) a W→Holds c (⟨sL,put g (.agg vs'.toArray, .agg ps) (put l (m, .omap kv) hP)⟩:St) a W:=fun e ⟨F,H⟩=>⟨F,H.less (fun _ _ h=>h) fun x y hx=>by
  show lk (put g _ hP) x=some y;rcases ZZ hx with ⟨rfl,rfl⟩|⟨hne,hx⟩
  · exact ZJ _ _ _
  · rw [ZY hne];rcases ZZ hx with ⟨rfl,rfl⟩|⟨_,hx⟩
    · rw [e];exact hl
    · exact hx⟩
 rcases Zhv (u:=u) hw ws vs hlen hn with ⟨h1,h2⟩|⟨i,h1,h2⟩
 · obtain ⟨_,H1⟩:=Zpb ht hg (WI ws) c a W H;rw [Zpc h1];refine ⟨⟨vs++[u],by simp [hlen]⟩,?_⟩;rw [XC];exact mv h2.symm H1
 · obtain ⟨_,H1⟩:=Zrh (i:=i) ht hg (WI ws) (by rw [Xo,h1];rfl) c a W H;rw [Zpd (Xc h1)];exact ⟨⟨vs.set i u,by simp [hlen]⟩,mv h2.symm H1⟩
def hpS (m:Value) (ws:List (List BA)) (vs:List Value):List (Nat×Ent):=[(1001, .agg vs.toArray, .agg (ws.map Zs)),(1000,m, .omap ((wks ws).zip vs))]
def Zga (m:Value) (S:List (List BA)) (v:Value) (p:PV) (h:List (Nat×Ent)):Prop:=∃(ws':List (List BA)) (vs':List Value) (b:Bool),vs'.length=ws'.length∧NmS ws'∧(if b=true then SetM S ws' else BigW S)∧v= .bool b∧p= .val (.bool b)∧h=hpS m ws' vs'
theorem Zru {ws:List (List BA)} {w:List BA} (hn:NmS ws) (hw:NmW w):NmS (S5 ws w):=fun x hx=>by
 rcases Xd.1 (PW.1 hx) with h|h
 · exact hn x h
 · rw [Xn] at h;subst h;exact hw
theorem SC (m u:Value) {S ws:List (List BA)} (hS:SetM S ws) (vs:List Value) (w:List BA) (hlen:vs.length=ws.length) (hn:NmS ws) (hw:NmW w) (h2:w.length≤1000):AFh False prog 49 [(0,m, .val m),(1,u,Zs w)] [(1001, .agg vs.toArray, .agg (ws.map Zs)),(1000,m, .omap ((wks ws).zip vs))] (Zga m (S++[w])):=by
 have hk:=Zps (KU w) ws vs
 refine AFh.of_body 17 func49 rfl ntmps49 (Xa rfl) rfl ?_
 intro w0 M0 N0
 refine Sk ?_;refine cV (cA call90 (ZlE w oM (Zdl h2 hw))) ?_;refine Yv ?_;refine L9 1000 ZjV ?_;refine Zp (Zrt (t:=8) (l:=1000) (g:=1001) rfl rfl rfl dC hlen hn hw) fun vs'=>?_;obtain ⟨vs',hlen'⟩:=vs';dsimp only;refine Yc ?_
 (refine xL 9 Za (xL 10 (ZgF 1000 underlying50) (xL 11 Zat (xL 12 Za ?_)))<;>(refine bLd 12 (fun hb12=>?_) (fun hb12=>?_)<;>refine kZ ?_)<;>(first|refine kL ?_|refine xM (Zy Zn) ?_)<;>refine KL ?_)<;>(
 have hz:((wks (S5 ws w)).zip vs').length=(S5 ws w).length:=by rw [List.length_zip,J0,hlen',Nat.min_self]
 rw [hz] at hb12;refine Pd (hpS m (S5 ws w) vs') results49 rfl sB ⟨S5 ws w,vs',_,hlen',Zru hn hw,?_,rfl,rfl,rfl⟩
 first
  | (by_cases hb:w.length≤200
     · rw [Qb (U9 oM)];exact hS.add oM hb
     · rw [Qa (by rw [U8];omega)];exact hS.not oM)
  |(rw [Qa dC];exact hS.not oM))
theorem ZjX {S D B:List (List BA)} {x:List BA} {w:List BA}:w∈S++Gu (D++[x]) B↔w∈S++Gu D B++B.map (x++ ·):=by
 unfold Gu
 rw [XT,XA,Xv,XO,Xu]
theorem ZjY {S D A B:List (List BA)} (h:D.Perm A) {w:List BA}:w∈S++Gu D B↔w∈S++Gu A B:=by
 rw [Xd,Xd,Wd,Wd]
 simp only [h.mem_iff]
theorem P2 {T D B:List (List BA)} {f:List BA→List BA} (h:D.Perm B) {w:List BA}:w∈T++D.map f↔w∈T++B.map f:=by
 rw [Xd,Xd,(h.map f).mem_iff]
theorem Zpt {S D A B D2:List (List BA)} {x y:List BA} (hD:∀d∈D,d∈A) (hx:x∈A) (h2:∀d∈D2,d∈B) (hy:y∈B) (h:BigW (S++Gu D B++D2.map (x++ ·)++[x++y])):BigW (S++Gu A B):=h.sub fun w hw=>by
 simp only [Xd,Xn,Wd,Xh] at hw ⊢
 rcases hw with ((h|⟨a,ha,b,hb,e⟩)|⟨b,hb,e⟩)|e
 · exact .inl h
 · exact .inr ⟨a,hD a ha,b,hb,e⟩
 · exact .inr ⟨x,hx,b,h2 b hb,e.symm⟩
 · exact .inr ⟨x,hx,y,hy,e⟩
theorem Zcg (m ua ub:Value) {S ws:List (List BA)} (hS:SetM S ws) (vs:List Value) (A B:List (List BA)) (hlen:vs.length=ws.length) (hn:NmS ws) (hA:NmS A) (hB:NmS B) (hAl:∀a∈A,a.length≤500) (hBl:∀b∈B,b.length≤500):AFh False prog 50 [(0,m, .val m),(1,ua,SJ A),(2,ub,SJ B)] [(1001, .agg vs.toArray, .agg (ws.map Zs)),(1000,m, .omap ((wks ws).zip vs))] (Zga m (S++Gu A B)):=by
 refine AFh.of_body 30 func50 rfl ntmps50 (Xa rfl) rfl ?_
 intro w0 M0 N0
 refine Pw ?_;refine Zp (Tu (t:=11) 1002 rfl) fun vsA=>?_;obtain ⟨vsA,hA1,hA2⟩:=vsA;dsimp only;refine Jr 12 underlying50 (fun b12 r12 c12 es12 hkv12 hWf12=>?_);refine ZF ?_
 refine Yd (ι:={q:Array Nat×List (List BA)×List (List BA)×List Value//Sx A es12 q.1 q.2.1∧SetM (S++Gu q.2.1 B) q.2.2.1∧NmS q.2.2.1∧q.2.2.2.length=q.2.2.1.length}) (fun k=>⟨[(0,_,_),(2,_,_),(12,_,_)],[(1002,_,_),(12,itv r12,itP b12 r12 c12 es12 k.1.1),(1001, .agg k.1.2.2.2.toArray, .agg (k.1.2.2.1.map Zs)),(1000,m, .omap ((wks k.1.2.2.1).zip k.1.2.2.2))]⟩) (fun k=>(leftOf es12 k.1.1).size) ⟨(#[],[],ws,vs),JP hkv12 (by rw [hA1,Xb]),hS.congr fun w=>by simp [Gu],hn,hlen⟩ ?_
 rintro ⟨⟨seen,D,W,V⟩,hI,hM,hN,hV⟩
 dsimp only
 dsimp only at hI hM hN hV
 refine Zh ?_
 (refine Gn 12 13 hWf12 (fun hlf12=>?_) (fun e12 hle12=>?_)<;>refine ZB ?_)<;>(
 refine cX ?_ ?_<;>intro hb14
 · first | exact bN hb14|(
 refine nav ?_;obtain ⟨i,x,hx1,hx2,hx3,hxA,hI'⟩:=JQ hA hWf12 hkv12 hI hle12;refine Zi ?_;refine xM (Gp 12 hWf12 (Km hle12)) ?_;refine YJ ?_;refine Zq (Tv (t:=8) (g:=1002) rfl rfl hx2 (by rw [Xo,hx1];rfl) (WI A)) fun _=>?_;refine GH ?_;refine Zp (Tu (t:=17) 1003 rfl) fun vsB=>?_;obtain ⟨vsB,hB1,hB2⟩:=vsB;dsimp only;refine Jr 18 underlying50 (fun b18 r18 c18 es18 hkv18 hWf18=>?_);refine ZF ?_;refine Yd (ι:={q:Array Nat×List (List BA)×List (List BA)×List Value//Sx B es18 q.1 q.2.1∧SetM (S++Gu D B++q.2.1.map (x++ ·)) q.2.2.1∧NmS q.2.2.1∧q.2.2.2.length=q.2.2.1.length}) (fun k=>⟨[(0,_,_),(2,_,_),(8,_,_),(12,_,_),(18,_,_)],[(12,_,_),(1002,_,_),(1003,_,_),(18,itv r18,itP b18 r18 c18 es18 k.1.1),(1001, .agg k.1.2.2.2.toArray, .agg (k.1.2.2.1.map Zs)),(1000,m, .omap ((wks k.1.2.2.1).zip k.1.2.2.2))]⟩) (fun k=>(leftOf es18 k.1.1).size) ⟨(#[],[],W,V),JP hkv18 (by rw [hB1,Xb]),hM.congr fun w=>sM,hN,hV⟩ ?_;rintro ⟨⟨seen2,D2,W2,V2⟩,hI2,hM2,hN2,hV2⟩;dsimp only;dsimp only at hI2 hM2 hN2 hV2;refine Zh ?_;(refine Gn 18 19 hWf18 (fun hlf18=>?_) (fun e18 hle18=>?_)<;>refine ZB ?_)<;>(
 refine cX ?_ ?_<;>intro hb20
 · first | exact bN hb20|(
 refine nav ?_;obtain ⟨j,y,hy1,hy2,hy3,hyB,hI2'⟩:=JQ hB hWf18 hkv18 hI2 hle18;refine Zi ?_;refine xM (Gp 18 hWf18 (Km hle18)) ?_;refine YJ ?_;refine Zq (Tv (t:=10) (g:=1003) rfl rfl hy2 (by rw [Xo,hy1];rfl) (WI B)) fun _=>?_;have hxl:=hAl x hxA;have hyl:=hBl y hyB;have hxy:NmW (x++y):=fun s hs=>(Xd.1 hs).elim (hA x hxA s) (hB y hyB s);have hC:AF prog 91 [WF [x,y]] (· = .own 9 1 (x++y).length ((x++y).map Zt)):=by
  have h:=Zea [x,y] (by simp;omega);rw [show [x,y].flatten=x++y by simp] at h;exact h
 refine Zi ?_;refine Y' ?_;refine Ly (xs:=[_,_]) 26 Jq fun h26 ho26=>?_;refine Zp (En.freeze (l:=26) (t:=26) rfl rfl) fun _=>?_;refine Zp (Kt (t:=26) (p':=WF [x,y]) rfl rfl) fun _=>?_;refine cO 27 (cA call91 hC) fun v27 ho27=>?_;refine Zp (En.freeze (l:=27) (t:=27) rfl rfl) fun _=>?_;rw [Wb,show PV.sl (x++y).length ((x++y).map Zt)=Zs (x++y) from rfl];refine WA [12,18,1002,1003] 28 (call49) (SC m v27 hM2 V2 (x++y) hV2 hN2 hxy (by rw [Xf];omega)) (fun v28 p28 h28 hR28=>?_);obtain ⟨W3,V3,b,hV3,hN3,hM3,rfl,rfl,rfl⟩:=hR28;refine YX ?_ ?_<;>intro hb29
 · (
 refine ZI ?_;(have hb:b=false:=by simpa using hb29);rw [hb,Qa dC] at hM3;refine Pd (hpS m W3 V3) results50 rfl sB ⟨W3,V3,false,hV3,hN3,?_,rfl,rfl,rfl⟩;rw [Qa dC];exact Zpt (LO hI) hxA (LO hI2) hyB hM3)
 · (
 refine nav ?_;refine Zm (
  ⟨(seen2.push e18.born,D2++[y],W3,V3),hI2',by
    (have hb:b=true:=by simpa using hb29);rw [hb,Qb rfl] at hM3;dsimp only;rw [XC,←XA];exact hM3,hN3,hV3⟩
  ) (Js hWf18 hle18) sB sB))
 · first|exact bN hb20|(
 refine nav ?_;refine Zm (
  ⟨(seen.push e12.born,D++[x],W2,V2),hI',(hM2.congr fun w=>P2 (JN hI2 hlf18)).congr fun w=>ZjX.symm,hN2,hV2⟩
  ) (Js hWf12 hle12) sB sB)))
 · first|exact bN hb14|(
 refine ZI ?_;refine Pd (hpS m W V) results50 rfl sB ⟨W,V,true,hV,hN,?_,rfl,rfl,rfl⟩;rw [Qb rfl];exact hM.congr fun w=>ZjY (JN hI hlf12)))
theorem Ed:ElT prog 79 50 1 8 (.map none):=⟨underlying79,by kernel_rfl,rfl,dC⟩
theorem JR:NoAgg prog 50=true:=kR
theorem KX:SlT prog 79 50 1=true:=kR
theorem ZjZ:(prog.info? 50).map (·.size)=some 1:=kR
def T0S (i j:Nat):List (List BA):=if i=0∧j=0 then [[]] else []
def T1S (a b:List BA) (i j:Nat):List (List BA):=if 0<i then (mixW (a.take (i-1)) (b.take j)).map (· ++a[i-1]?.toList) else []
def T2S (a b:List BA) (i j:Nat):List (List BA):=if 0<j then (mixW (a.take i) (b.take (j-1))).map (· ++b[j-1]?.toList) else []
theorem Rt {a b:List BA} {i j:Nat} (hi:i≤a.length) (hj:j≤b.length) (w:List BA):w∈T0S i j++T1S a b i j++T2S a b i j↔w∈mixW (a.take i) (b.take j):=by
 match i,j,hi,hj with
 |0,0,_,_=>simp [T0S,T1S,T2S,mixW]
 | 0,j+1,_,hj=>
   obtain ⟨y,hy⟩:=gS b j;rw [Zw hy];simp [T0S,T1S,T2S,hy,JE]
 | i+1,0,hi,_=>
   obtain ⟨x,hx⟩:=gS a i;rw [Zw hx];simp [T0S,T1S,T2S,hx,J6]
 | i +1,j+1,hi,hj=>
   obtain ⟨x,hx⟩:=gS a i;obtain ⟨y,hy⟩:=gS b j;rw [Zw hx,Zw hy,Zjx _ _ _ _ _ _ rfl];simp only [T0S,T1S,T2S,Uu,hx,hy,Zw hx,Zw hy,Vj,if_true,Option.toList_some,Xd,Xh];constructor
   · rintro ((h|⟨u,hu,rfl⟩)|⟨u,hu,rfl⟩)
     · simp at h
     · exact .inl ⟨u,hu,rfl⟩
     · exact .inr ⟨u,hu,rfl⟩
   · rintro (⟨u,hu,rfl⟩|⟨u,hu,rfl⟩)
     · exact .inl (.inr ⟨u,hu,rfl⟩)
     · exact .inr ⟨u,hu,rfl⟩
theorem SetM.len {S ws:List (List BA)} (h:SetM S ws) {w:List BA} (hw:w∈ws):w.length≤200:=UH fun hk=>h.small (.inr ⟨w,(h.mem w).1 hw,hk⟩)
def OkI (S TT W:List (List BA)) (ok:Bool):Prop:=if ok=true then SetM S W else BigW TT
theorem OkI.next {S S' TT W':List (List BA)} {b:Bool} (h:if b=true then SetM S W' else BigW S) (h1:∀w,w∈S↔w∈S') (h2:∀w∈S,w∈TT):OkI S' TT W' b:=by
 unfold OkI
 cases b with
 |true=>rw [Qb rfl] at h ⊢;exact h.congr h1
 |false=>rw [Qa dC] at h ⊢;exact h.sub h2
theorem OkI.congr {S S' TT W:List (List BA)} {b:Bool} (h:OkI S TT W b) (h1:∀w,w∈S↔w∈S'):OkI S' TT W b:=by
 unfold OkI at h ⊢
 cases b with
 |true=>rw [Qb rfl] at h ⊢;exact SetM.congr h1 h
 |false=>rw [Qa dC] at h ⊢;exact h
theorem OkI.or {S TT W:List (List BA)} {b:Bool} (h:OkI S TT W b):(b=true∧SetM S W)∨(b=false∧BigW TT):=by
 unfold OkI at h
 cases b with
 |true=>exact .inl ⟨rfl,h⟩
 |false=>exact .inr ⟨rfl,h⟩
def CellM (p:PV) (S:List (List BA)):Prop:=∃W,p=SJ W∧SetM S W∧NmS W
structure RowI (a b:List BA) (i j:Nat) (Cs:List PV):Prop where
 len:Cs.length=b.length+1
 fst:∀k p,k<j→Cs[k]? =some p→CellM p (mixW (a.take i) (b.take k))
 snd:∀k p,j≤k→0<i→Cs[k]? =some p→CellM p (mixW (a.take (i-1)) (b.take k))
theorem RowI.step {a b:List BA} {i j:Nat} {Cs:List PV} {W:List (List BA)} (h:RowI a b i j Cs) (hj:j≤b.length) (hM:SetM (mixW (a.take i) (b.take j)) W) (hN:NmS W):RowI a b i (j+1) (Cs.set j (SJ W)):=by
 refine ⟨by rw [Xp];exact h.len,fun k p hk hp=>?_,fun k p hk h0 hp=>?_⟩
 · by_cases e:j=k
   · subst e;rw [XI (by have:=h.len;omega)] at hp
     cases hp;exact ⟨W,rfl,hM,hN⟩
   · rw [XZ e] at hp;exact h.fst k p oM hp
 · rw [XZ oM] at hp;exact h.snd k p oM h0 hp
theorem RowI.turn {a b:List BA} {i:Nat} {Cs:List PV} (h:RowI a b i (b.length+1) Cs):RowI a b (i+1) 0 Cs:=⟨h.len,fun k p hk=>Qc hk (Ut k),fun k p _ _ hp=>by
 have:=Zd hp
 rw [Uu]
 exact h.fst k p (by have:=h.len;omega) hp⟩
theorem TK (l:List BA) (hl:l.length≤1000000):AF prog 21 [Zs l] (· = .own 9 1 l.length (l.map Zt)):=by
 refine AF.b1 8 func21 rfl ntmps21 (Xa rfl) fun w0 M0 v0 _=>?_
 have f3:(l.map Zt).length=l.length*1:=by rw [Xb,Xy]
 have f4:(l.map Zt).all En.one=true:=by rw [VF,Xm];intro x _;rfl
 refine YK ?_
 (refine Yv ?_<;>(refine yL 4 (Zhe Zn) fun v4 hv4=>?_;rcases hv4 with rfl|⟨rfl,hn0⟩)<;>refine ZF ?_)<;>(
 refine cX ?_ ?_<;>intro hb4
 · first|exact bN hb4|(
 refine ZI ?_;have hl0:l=[]:=XB hn0;subst hl0;refine Z5 (Wr 200 9 1 rfl) fun _=>?_;exact K3 200 results21 rfl rfl rfl)
 · first|exact bN hb4|(
 refine Zh ?_;refine HG 5 ZW fun h5 ho5=>?_;refine Yv ?_;refine G1 5 7 ZW (fun h7 ho7=>?_) f3 f4;refine ZB ?_;refine K3 7 results21 rfl rfl ?_;rw [XE,XQ]))
theorem SZ (e n m:Nat) (l:List BA) (x:BA):share (.own e 1 (n+m) (l.map Zt++[Zt x]))= .sl (n+m) (l.map Zt++[Zt x]):=by
 rw [show l.map Zt++[Zt x]=(l++[x]).map Zt by simp,Wb]
theorem Zrv (m ua ub : Value) {S ws:List (List BA)} (hS:SetM S ws) (vs:List Value) (a b:List BA) (hlen:vs.length=ws.length) (hn:NmS ws) (ha:NmW a) (hb:NmW b) (hal:a.length≤200) (hbl:b.length≤200):AFh False prog 51 [(0,m, .val m),(1,ua,Zs a),(2,ub,Zs b)] [(1001, .agg vs.toArray, .agg (ws.map Zs)),(1000,m, .omap ((wks ws).zip vs))] (Zga m (S++mixW a b)):=by
 refine AFh.of_body 114 func51 rfl ntmps51 (Xa rfl) rfl ?_
 intro w0 M0 N0
 refine Zq (Zz (l:=1000) 1500 rfl rfl) fun _=>?_
 refine Zq (Zz (l:=1001) 1501 rfl rfl) fun _=>?_
 refine YK ?_
 refine xL 18 Za (xL 19 (Zy Zn) (xL 20 Eu ?_));refine GY 21 Ed fun h21 ho21=>?_;refine Ta ?_
 refine Yd (ι:={q:Nat×List PV//q.1≤a.length+1∧RowI a b q.1 0 q.2}) (fun k=>⟨[(0,_,_),(1,_,_),(2,_,_),(7,_,_),(8, .int .i64 k.1.1,Zc k.1.1)],[(1500,_,_),(1501,_,_),(21,h21, .own 50 1 (b.length+1) k.1.2)]⟩) (fun k=>a.length+1-k.1.1) ⟨(0,List.replicate (b.length+1) (.val (.map none))),Xg _,⟨List.length_replicate,fun k p hk=>Qc hk (Ut k),fun k p _ h=>Qc h (Nat.lt_irrefl 0)⟩⟩ ?_
 rintro ⟨⟨i,Cs⟩,hi,hR⟩
 dsimp only
 dsimp only at hi hR
 refine Zh ?_
 refine xL 22 Za (xL 23 Za (xL 24 (Zy Zn) (xL 25 Zat ?_)));refine ZR ?_ ?_<;>intro hb25
 · (
 refine ZI ?_;refine Yd (ι:={q:Nat×List PV//q.1≤b.length+1∧RowI a b i q.1 q.2}) (fun k=>⟨[(0,_,_),(1,_,_),(2,_,_),(7,_,_),(8,_,_),(9, .int .i64 k.1.1,Zc k.1.1)],[(1500,_,_),(1501,_,_),(21,h21, .own 50 1 (b.length+1) k.1.2)]⟩) (fun k=>b.length+1-k.1.1) ⟨(0,Cs),Xg _,hR⟩ ?_;rintro ⟨⟨j,Ds⟩,hj,hQ⟩;dsimp only;dsimp only at hj hQ;refine Zh ?_;refine xL 28 Za (xL 29 Za (xL 30 (Zy Zn) (xL 31 Zat ?_)));refine ZR ?_ ?_<;>intro hb31
 · (
 have hil:i≤a.length:=oM;have hjl:j≤b.length:=oM;have hTa:NmW a:=ha;obtain ⟨pj,hpj⟩:=get_some (show j<Ds.length by rw [hQ.len];omega);refine Zh ?_;refine JX 34 fun h34 ho34=>?_;refine ZB ?_;refine Zq (Zz (l:=34) 1000 rfl rfl) fun _=>?_;refine Zq (Zb3 1001) fun _=>?_;(refine Zi ?_ <;> refine Y' ?_<;>(refine bLd 37 (fun hb37=>?_) (fun hb37=>?_)<;>refine kZ ?_)<;>refine Wz ?_)<;>(
 refine KI (fun q:{q:List (List BA)×List Value×Unit//SetM (T0S i j) q.1∧NmS q.1∧q.2.1.length=q.1.length}=>⟨[(0,m, .val m),(1,ua,Zs a),(2,ub,Zs b),(7,h21, .val h21),(8, .int .i64 (i:Int),Zc i),(9, .int .i64 (j:Int),Zc j),(10,h34, .val h34)],[(21,h21, .own 50 1 (b.length+1) Ds),(1500,m, .omap ((wks ws).zip vs)),(1501, .agg vs.toArray, .agg (ws.map Zs)),(1001, .agg q.1.2.1.toArray, .agg (q.1.1.map Zs)),(1000,h34, .omap ((wks q.1.1).zip q.1.2.1))]⟩) ?_ ?_
 · refine cX ?_ ?_<;>intro hb40
   · first | exact bN hb40|(
 refine Wh ?_;refine WA [21,1500,1501] 42 (call49) (AFh.nil1 (SC h34 (.slice none 0 0) SetM.nil [] [] rfl (fun w h=>by cases h) (fun s h=>by cases h) (Xg _))) (fun v42 p42 h42 hR42=>?_);obtain ⟨W0,V0,b0,hV0,hN0,hM0,rfl,rfl,rfl⟩:=hR42;refine ZF ?_
 first
  | exact ZS ⟨(W0,V0,()),by
     obtain rfl:i=0:=oM;obtain rfl:j=0:=oM;have hb1:b0=true:=by
      cases b0 with
      |true=>rfl
      | false=>
        rw [Qa dC] at hM0;rcases (Sv (l:=[]++[[]]) sM).1 hM0 with h|⟨w,hw,h⟩
        · simp at h
        · simp at hw;subst hw;simp at h
     rw [hb1,Qb rfl] at hM0;exact ⟨hM0.congr fun w=>by simp [T0S],hN0,hV0⟩⟩ sB sB
  |exact ZS ⟨([],[],()),SetM.nil.congr fun w=>by unfold T0S;rw [Qa oM],fun w h=>(by cases h),rfl⟩ sB sB)
   · (
 refine nav ?_
 first
  | exact ZS ⟨(W0,V0,()),by
     obtain rfl:i=0:=oM;obtain rfl:j=0:=oM;have hb1:b0=true:=by
      cases b0 with
      |true=>rfl
      | false=>
        rw [Qa dC] at hM0;rcases (Sv (l:=[]++[[]]) sM).1 hM0 with h|⟨w,hw,h⟩
        · simp at h
        · simp at hw;subst hw;simp at h
     rw [hb1,Qb rfl] at hM0;exact ⟨hM0.congr fun w=>by simp [T0S],hN0,hV0⟩⟩ sB sB
  |exact ZS ⟨([],[],()),SetM.nil.congr fun w=>by unfold T0S;rw [Qa oM],fun w h=>(by cases h),rfl⟩ sB sB)
 · rintro ⟨⟨W1, V1, _⟩,hM1,hN1,hV1⟩;dsimp only at hM1 hN1 hV1 ⊢;refine YK ?_;refine YJ ?_;refine KI (fun q:{q:List (List BA)×List Value×Bool//OkI (T0S i j++T1S a b i j) (mixW (a.take i) (b.take j)) q.1 q.2.2∧NmS q.1∧q.2.1.length=q.1.length}=>⟨[(0,m, .val m),(1,ua,Zs a),(2,ub,Zs b),(7,h21, .val h21),(8, .int .i64 (i:Int),Zc i),(9, .int .i64 (j:Int),Zc j),(10,h34, .val h34),(11, .bool q.1.2.2,Zv q.1.2.2)],[(21,h21, .own 50 1 (b.length+1) Ds),(1500,m, .omap ((wks ws).zip vs)),(1501, .agg vs.toArray, .agg (ws.map Zs)),(1001, .agg q.1.2.1.toArray, .agg (q.1.1.map Zs)),(1000,h34, .omap ((wks q.1.1).zip q.1.2.1))]⟩) ?_ ?_
   · refine cX ?_ ?_ <;>intro hb44
     · (
 obtain ⟨x,hx⟩:=gS a (i-1);obtain ⟨Wc,rfl,hMc,hNc⟩:=hQ.snd j pj (Xe _) oM hpj;(have e1:Ds[j*1]? =some (SJ Wc):=by rw [Xy];exact hpj);have ex:=Z8 (f:=Zt) hx;(have hT1:T1S a b i j=(mixW (a.take (i-1)) (b.take j)).map (· ++[x]):=by unfold T1S;rw [Qb oM,hx];rfl);refine Zh ?_;refine xL 45 Za (xL 46 Za (xL 47 (Zo 21 KX) ?_));refine yU (Ze 21 JR) fun v48=>?_;refine Zp (Tu (t:=48) 1002 rfl) fun vsA=>?_;obtain ⟨vsA,hA1,hA2⟩:=vsA;dsimp only;refine Jr 49 underlying50 (fun b49 r49 c49 es49 hkv49 hWf49=>?_);refine ZF ?_;refine Yd (ι:={q:Array Nat×List (List BA)×List (List BA)×List Value×Bool//Sx Wc es49 q.1 q.2.1∧OkI (T0S i j++q.2.1.map (· ++[x])) (mixW (a.take i) (b.take j)) q.2.2.1 q.2.2.2.2∧NmS q.2.2.1∧q.2.2.2.1.length=q.2.2.1.length}) (fun k=>⟨[(0,_,_),(1,_,_),(2,_,_),(7,_,_),(8,_,_),(9,_,_),(10,_,_),(49,_,_),(11, .bool k.1.2.2.2.2,Zv k.1.2.2.2.2)],[(21,_,_),(1002,_,_),(1500,_,_),(1501,_,_),(49,itv r49,itP b49 r49 c49 es49 k.1.1),(1001, .agg k.1.2.2.2.1.toArray, .agg (k.1.2.2.1.map Zs)),(1000,h34, .omap ((wks k.1.2.2.1).zip k.1.2.2.2.1))]⟩) (fun k=>(leftOf es49 k.1.1).size) ⟨(#[],[],W1,V1,true),JP hkv49 (by rw [hA1,Xb]),by unfold OkI;rw [Qb rfl];exact hM1.congr fun w=>sM,hN1,hV1⟩ ?_;rintro ⟨⟨seen,D,W2,V2,ok⟩,hI,hM2,hN2,hV2⟩;dsimp only;dsimp only at hI hM2 hN2 hV2;refine Zh ?_;(refine Gn 49 50 hWf49 (fun hlf49=>?_) (fun e49 hle49=>?_)<;>refine ZB ?_)<;>(
 refine cX ?_ ?_<;>intro hb51
 · first | exact bN hb51|(
 refine nav ?_;obtain ⟨n,y,hy1,hy2,hy3,hyW,hI'⟩:=JQ hNc hWf49 hkv49 hI hle49;have hyl:=hMc.len hyW;(have hyn:NmW (y++[x]):=fun s hs=>(Xd.1 hs).elim (hNc y hyW s) fun h=>by rw [Xn.1 h];exact ha x (Xc hx));refine Zi ?_;refine xM (Gp 49 hWf49 (Km hle49)) ?_;refine YJ ?_;refine Zq (Tv (t:=13) (g:=1002) rfl rfl hy2 (by rw [Xo,hy1];rfl) (WI Wc)) fun _=>?_;(refine We [] [21,49,1002,1500,1501] ?_<;>(rcases hM2.or with ⟨rfl,hM2g⟩|⟨rfl,hM2b⟩<;>refine gDx 0 ?_)<;>refine gEx 1 ?_<;>(first|refine kD 2 ?_|refine gDx 2 ?_)<;>(first|refine kD 3 ?_|refine gDx 3 ?_)<;>(first|refine kD 5 ?_|refine gDx 5 ?_)<;>(first|refine kD 6 ?_|refine gDx 6 ?_)<;>(first|refine kD 7 ?_|refine xD 7 rfl ((WJ (c:=((i-1:Nat):Int)))) ?_)<;>(first|refine kD 8 ?_|refine xD 8 rfl (Zg Zn) ?_)<;>(first|refine kD 9 ?_|(refine yD 9 rfl (ZG ZK) fun v63 h=>?_;cases h))<;>(refine Wm 4 10 kR ?_ ?_;rotate_right;(focus ((refine aWr fun bk=>?_)<;>(first|refine kL ?_|refine Wx (kk:=1) 64 ZW fun h64 ho64=>?_)<;>refine bE bk ?_<;>(refine aDr 4 fun bk=>?_)<;>(first|refine kL ?_|refine cO 58 (cA call21 (TK y oM)) fun v58 ho58=>?_)<;>refine bE bk ?_<;>(refine aDr 11 fun bk=>?_)<;>(first|refine kL ?_|refine WN 58 64 65 ZW fun h65 ho65=>?_)<;>refine bE bk ?_<;>(refine aDr 12 fun bk=>?_)<;>(first|refine kL ?_|(refine Zp (En.freeze (l:=65) (t:=65) rfl rfl) fun _=>?_;refine Zp (Kt (t:=65) (p':=Zs (y++[x])) rfl (by rw [SZ];unfold Zs;rw [Xf,XC];rfl)) fun _=>?_;refine WA [] 66 (call49) (SC h34 h65 hM2g V2 (y++[x]) hV2 hN2 hyn (by rw [Xf];simp;omega)) (fun v66 p66 h66 hR66=>?_);obtain ⟨W3,V3,b3,hV3,hN3,hM3,rfl,rfl,rfl⟩:=hR66))<;>refine bE bk ?_<;>refine gEx 13 ?_<;>refine gEx 14 ?_));rotate_right;(focus ((refine aWr fun bk=>?_)<;>(first|refine kL ?_|refine cO 58 (cA call21 (TK y oM)) fun v58 ho58=>?_)<;>refine bE bk ?_<;>(refine aDr 10 fun bk=>?_)<;>(first|refine kL ?_|refine Wx (kk:=1) 64 ZW fun h64 ho64=>?_)<;>refine bE bk ?_<;>(refine aDr 11 fun bk=>?_)<;>(first|refine kL ?_|refine WN 58 64 65 ZW fun h65 ho65=>?_)<;>refine bE bk ?_<;>(refine aDr 12 fun bk=>?_)<;>(first|refine kL ?_|(refine Zp (En.freeze (l:=65) (t:=65) rfl rfl) fun _=>?_;refine Zp (Kt (t:=65) (p':=Zs (y++[x])) rfl (by rw [SZ];unfold Zs;rw [Xf,XC];rfl)) fun _=>?_;refine WA [] 66 (call49) (SC h34 h65 hM2g V2 (y++[x]) hV2 hN2 hyn (by rw [Xf];simp;omega)) (fun v66 p66 h66 hR66=>?_);obtain ⟨W3,V3,b3,hV3,hN3,hM3,rfl,rfl,rfl⟩:=hR66))<;>refine bE bk ?_<;>refine gEx 13 ?_<;>refine gEx 14 ?_)))<;>refine Kz ?_)<;>(
 first
  | (exact Zm (
      ⟨(seen.push e49.born,D++[y],W2,V2,false),hI',hM2b,hN2,hV2⟩
      ) (Js hWf49 hle49) sB sB)
  | (exact Zm (
      ⟨(seen.push e49.born,D++[y],W3,V3,b3),hI',OkI.next hM3 (fun w=>by rw [XC,←XA];exact Iff.rfl) (fun w hw=>(Rt hil hjl w).1 (by
        rw [hT1];simp only [Xd,Xn,Xh] at hw ⊢;rcases hw with (h|⟨d,hd,h⟩)|h
        · exact .inl (.inl h)
        · exact .inl (.inr ⟨d,(hMc.mem d).1 (LO hI d hd),h⟩)
        · exact .inl (.inr ⟨y,(hMc.mem y).1 hyW,h.symm⟩))),hN3,hV3⟩
      ) (Js hWf49 hle49) sB sB)))
 · first|exact bN hb51|(
 refine nav ?_
 first
  |exact ZS ⟨(W2,V2,ok),hM2.congr fun w=>(P2 (JN hI hlf49)).trans (by rw [hT1,Xd,Xd,Xh,Xh];simp only [hMc.mem]),hN2,hV2⟩ sB sB
  |exact ZS ⟨(W1,V1,true),by unfold OkI;rw [Qb rfl];exact hM1.congr fun w=>by unfold T1S;rw [Qa oM,Xu],hN1,hV1⟩ sB sB)))
     · (
 refine nav ?_
 first
  |exact ZS ⟨(W2,V2,ok),hM2.congr fun w=>(P2 (JN hI hlf49)).trans (by rw [hT1,Xd,Xd,Xh,Xh];simp only [hMc.mem]),hN2,hV2⟩ sB sB
  |exact ZS ⟨(W1,V1,true),by unfold OkI;rw [Qb rfl];exact hM1.congr fun w=>by unfold T1S;rw [Qa oM,Xu],hN1,hV1⟩ sB sB)
   · rintro ⟨⟨W4, V4, ok4⟩,hM4,hN4,hV4⟩;dsimp only at hM4 hN4 hV4 ⊢;refine ZE ?_;refine KI (fun q:{q:List (List BA)×List Value×Bool//OkI (mixW (a.take i) (b.take j)) (mixW (a.take i) (b.take j)) q.1 q.2.2∧NmS q.1∧q.2.1.length=q.1.length}=>⟨[(0,m, .val m),(1,ua,Zs a),(2,ub,Zs b),(7,h21, .val h21),(8, .int .i64 (i:Int),Zc i),(9, .int .i64 (j:Int),Zc j),(10,h34, .val h34),(11, .bool q.1.2.2,Zv q.1.2.2)],[(21,h21, .own 50 1 (b.length+1) Ds),(1500,m, .omap ((wks ws).zip vs)),(1501, .agg vs.toArray, .agg (ws.map Zs)),(1001, .agg q.1.2.1.toArray, .agg (q.1.1.map Zs)),(1000,h34, .omap ((wks q.1.1).zip q.1.2.1))]⟩) ?_ ?_
     · refine cX ?_ ?_ <;>intro hb69
       · (
 obtain ⟨x,hx⟩:=gS b (j-1);obtain ⟨pj1,hpj1⟩:=get_some (show j-1<Ds.length by rw [hQ.len];omega);obtain ⟨Wc,rfl,hMc,hNc⟩:=hQ.fst (j-1) pj1 oM hpj1;(have e1:Ds[(j-1)*1]? =some (SJ Wc):=by rw [Xy];exact hpj1);have ex:=Z8 (f:=Zt) hx;(have hT2:T2S a b i j=(mixW (a.take i) (b.take (j-1))).map (· ++[x]):=by unfold T2S;rw [Qb oM,hx];rfl);refine Wn ?_;refine xM ((WJ (c:=((j-1:Nat):Int)))) ?_;refine xM (Zo 21 KX) ?_;refine yU (Ze 21 JR) fun v74=>?_;refine Zp (Tu (t:=74) 1003 rfl) fun vsA=>?_;obtain ⟨vsA,hA1,hA2⟩:=vsA;dsimp only;refine Jr 75 underlying50 (fun b75 r75 c75 es75 hkv75 hWf75=>?_);refine ZF ?_;refine Yd (ι:={q:Array Nat×List (List BA)×List (List BA)×List Value×Bool//Sx Wc es75 q.1 q.2.1∧OkI (T0S i j++T1S a b i j++q.2.1.map (· ++[x])) (mixW (a.take i) (b.take j)) q.2.2.1 q.2.2.2.2∧NmS q.2.2.1∧q.2.2.2.1.length=q.2.2.1.length}) (fun k=>⟨[(0,_,_),(1,_,_),(2,_,_),(7,_,_),(8,_,_),(9,_,_),(10,_,_),(75,_,_),(11, .bool k.1.2.2.2.2,Zv k.1.2.2.2.2)],[(21,_,_),(1003,_,_),(1500,_,_),(1501,_,_),(75,itv r75,itP b75 r75 c75 es75 k.1.1),(1001, .agg k.1.2.2.2.1.toArray, .agg (k.1.2.2.1.map Zs)),(1000,h34, .omap ((wks k.1.2.2.1).zip k.1.2.2.2.1))]⟩) (fun k=>(leftOf es75 k.1.1).size) ⟨(#[],[],W4,V4,ok4),JP hkv75 (by rw [hA1,Xb]),hM4.congr fun w=>sM,hN4,hV4⟩ ?_;rintro ⟨⟨seen,D,W2,V2,ok⟩,hI,hM2,hN2,hV2⟩;dsimp only;dsimp only at hI hM2 hN2 hV2;refine Zh ?_;(refine Gn 75 76 hWf75 (fun hlf75=>?_) (fun e75 hle75=>?_)<;>refine ZB ?_)<;>(
 refine cX ?_ ?_<;>intro hb77
 · first | exact bN hb77|(
 refine nav ?_;obtain ⟨n,y,hy1,hy2,hy3,hyW,hI'⟩:=JQ hNc hWf75 hkv75 hI hle75;have hyl:=hMc.len hyW;(have hyn:NmW (y++[x]):=fun s hs=>(Xd.1 hs).elim (hNc y hyW s) fun h=>by rw [Xn.1 h];exact hb x (Xc hx));refine Zi ?_;refine xM (Gp 75 hWf75 (Km hle75)) ?_;refine YJ ?_;refine Zq (Tv (t:=15) (g:=1003) rfl rfl hy2 (by rw [Xo,hy1];rfl) (WI Wc)) fun _=>?_;(refine We [] [21,75,1003,1500,1501] ?_<;>(rcases hM2.or with ⟨rfl,hM2g⟩|⟨rfl,hM2b⟩<;>refine gDx 0 ?_)<;>refine gEx 1 ?_<;>(first|refine kD 2 ?_|refine gDx 2 ?_)<;>(first|refine kD 3 ?_|refine gDx 3 ?_)<;>(first|refine kD 5 ?_|refine gDx 5 ?_)<;>(first|refine kD 6 ?_|refine gDx 6 ?_)<;>(first|refine kD 7 ?_|refine xD 7 rfl ((WJ (c:=((j-1:Nat):Int)))) ?_)<;>(first|refine kD 8 ?_|refine xD 8 rfl (Zg Zn) ?_)<;>(first|refine kD 9 ?_|(refine yD 9 rfl (ZG ZK) fun v89 h=>?_;cases h))<;>(refine Wm 4 10 kR ?_ ?_;rotate_right;(focus ((refine aWr fun bk=>?_)<;>(first|refine kL ?_|refine Wx (kk:=1) 90 ZW fun h90 ho90=>?_)<;>refine bE bk ?_<;>(refine aDr 4 fun bk=>?_)<;>(first|refine kL ?_|refine cO 84 (cA call21 (TK y oM)) fun v84 ho84=>?_)<;>refine bE bk ?_<;>(refine aDr 11 fun bk=>?_)<;>(first|refine kL ?_|refine WN 84 90 91 ZW fun h91 ho91=>?_)<;>refine bE bk ?_<;>(refine aDr 12 fun bk=>?_)<;>(first|refine kL ?_|(refine Zp (En.freeze (l:=91) (t:=91) rfl rfl) fun _=>?_;refine Zp (Kt (t:=91) (p':=Zs (y++[x])) rfl (by rw [SZ];unfold Zs;rw [Xf,XC];rfl)) fun _=>?_;refine WA [] 92 (call49) (SC h34 h91 hM2g V2 (y++[x]) hV2 hN2 hyn (by rw [Xf];simp;omega)) (fun v92 p92 h92 hR92=>?_);obtain ⟨W3,V3,b3,hV3,hN3,hM3,rfl,rfl,rfl⟩:=hR92))<;>refine bE bk ?_<;>refine gEx 13 ?_<;>refine gEx 14 ?_));rotate_right;(focus ((refine aWr fun bk=>?_)<;>(first|refine kL ?_|refine cO 84 (cA call21 (TK y oM)) fun v84 ho84=>?_)<;>refine bE bk ?_<;>(refine aDr 10 fun bk=>?_)<;>(first|refine kL ?_|refine Wx (kk:=1) 90 ZW fun h90 ho90=>?_)<;>refine bE bk ?_<;>(refine aDr 11 fun bk=>?_)<;>(first|refine kL ?_|refine WN 84 90 91 ZW fun h91 ho91=>?_)<;>refine bE bk ?_<;>(refine aDr 12 fun bk=>?_)<;>(first|refine kL ?_|(refine Zp (En.freeze (l:=91) (t:=91) rfl rfl) fun _=>?_;refine Zp (Kt (t:=91) (p':=Zs (y++[x])) rfl (by rw [SZ];unfold Zs;rw [Xf,XC];rfl)) fun _=>?_;refine WA [] 92 (call49) (SC h34 h91 hM2g V2 (y++[x]) hV2 hN2 hyn (by rw [Xf];simp;omega)) (fun v92 p92 h92 hR92=>?_);obtain ⟨W3,V3,b3,hV3,hN3,hM3,rfl,rfl,rfl⟩:=hR92))<;>refine bE bk ?_<;>refine gEx 13 ?_<;>refine gEx 14 ?_)))<;>refine Kz ?_)<;>(
 first
  | (exact Zm (
      ⟨(seen.push e75.born,D++[y],W2,V2,false),hI',hM2b,hN2,hV2⟩
      ) (Js hWf75 hle75) sB sB)
  | (exact Zm (
      ⟨(seen.push e75.born,D++[y],W3,V3,b3),hI',OkI.next hM3 (fun w=>by rw [XC,←XA];exact Iff.rfl) (fun w hw=>(Rt hil hjl w).1 (by
        rw [hT2];simp only [Xd,Xn,Xh] at hw ⊢;rcases hw with ((h|h)|⟨d,hd,h⟩)|h
        · exact .inl (.inl h)
        · exact .inl (.inr h)
        · exact .inr ⟨d,(hMc.mem d).1 (LO hI d hd),h⟩
        · exact .inr ⟨y,(hMc.mem y).1 hyW,h.symm⟩)),hN3,hV3⟩
      ) (Js hWf75 hle75) sB sB)))
 · first|exact bN hb77|(
 refine nav ?_
 first
  |exact ZS ⟨(W2,V2,ok),hM2.congr fun w=>(P2 (JN hI hlf75)).trans ((show _↔w∈T0S i j++T1S a b i j++T2S a b i j by rw [hT2,Xd,Xd (t:=List.map _ _),Xh,Xh];simp only [hMc.mem]).trans (Rt hil hjl w)),hN2,hV2⟩ sB sB
  |exact ZS ⟨(W4,V4,ok4),hM4.congr fun w=>(show _↔w∈T0S i j++T1S a b i j++T2S a b i j by unfold T2S;rw [Qa oM,Xu]).trans (Rt hil hjl w),hN4,hV4⟩ sB sB)))
       · (
 refine nav ?_
 first
  |exact ZS ⟨(W2,V2,ok),hM2.congr fun w=>(P2 (JN hI hlf75)).trans ((show _↔w∈T0S i j++T1S a b i j++T2S a b i j by rw [hT2,Xd,Xd (t:=List.map _ _),Xh,Xh];simp only [hMc.mem]).trans (Rt hil hjl w)),hN2,hV2⟩ sB sB
  |exact ZS ⟨(W4,V4,ok4),hM4.congr fun w=>(show _↔w∈T0S i j++T1S a b i j++T2S a b i j by unfold T2S;rw [Qa oM,Xu]).trans (Rt hil hjl w),hN4,hV4⟩ sB sB)
     · rintro ⟨⟨W5,V5,ok5⟩,hM5,hN5,hV5⟩;dsimp only at hM5 hN5 hV5 ⊢;refine Wa ?_ ?_<;>intro hb95
       · (
 refine ZI ?_;(have hk:ok5=false:=by simpa using hb95);subst hk;have hB:BigW (mixW (a.take i) (b.take j)):=hM5;refine Z5 (Zr5 [(1500,m, .omap ((wks ws).zip vs)),(1501, .agg vs.toArray, .agg (ws.map Zs))] sB) fun _=>?_;refine Z5 (Zz (l:=1500) 1000 rfl rfl) fun _=>?_;refine Z5 (Zz (l:=1501) 1001 rfl rfl) fun _=>?_;refine Pd (hpS m ws vs) results51 rfl sB ⟨ws,vs,false,hlen,hn,?_,rfl,rfl,rfl⟩;rw [Qa dC];exact (Zjy a b i j hB).sub fun w hw=>Xd.2 (.inr hw))
       · (
 (have hk:ok5=true:=by simpa using hb95);subst hk;have hG:SetM (mixW (a.take i) (b.take j)) W5:=hM5;have hDl:=hQ.len;refine Zh ?_;refine xL 96 Za (xL 97 Za (xL 98 Za (xL 99 (Zo 21 KX) ?_)));refine Zp (J8 (t:=98) (l:=1000) (g:=1001) rfl rfl rfl (WI W5) (by rw [J0,Xb])) fun _=>?_;refine Zk9 21 j JR ZjZ ?_;refine Yc ?_;refine DK ?_;refine Yh (
  ⟨(j+1,Ds.set j (SJ W5)),by show j+1≤b.length+1;omega,hQ.step hjl hG hN5⟩
  ))))
 · (
 refine Y5 ?_;refine Yh (
  ⟨(i+1,Ds),by show i+1≤a.length+1;omega,by
    obtain rfl:j=b.length+1:=oM;exact hQ.turn⟩
  )))
 · (
 obtain rfl:i=a.length+1:=oM;obtain ⟨pj,hpj⟩:=get_some (show b.length<Cs.length by rw [hR.len];omega);obtain ⟨Wc,rfl,hMc,hNc⟩:=hR.snd b.length pj (Xg _) (Vj _) hpj;rw [Uu,XH,XH] at hMc;(have e1:Cs[b.length*1]? =some (SJ Wc):=by rw [Xy];exact hpj);refine nav ?_;refine Zq (Zz (l:=1500) 1000 rfl rfl) fun _=>?_;refine Zq (Zz (l:=1501) 1001 rfl rfl) fun _=>?_;refine Zi ?_;refine xL 100 Za (xL 101 Za (xL 102 (Zy Zn) (xL 103 (Zo 21 KX) ?_)));refine yU (Ze 21 JR) fun v104=>?_;refine Zp (Tu (t:=104) 1002 rfl) fun vsA=>?_;obtain ⟨vsA,hA1,hA2⟩:=vsA;dsimp only;refine Jr 105 underlying50 (fun b105 r105 c105 es105 hkv105 hWf105=>?_);refine ZF ?_;refine Yd (ι:={q:Array Nat×List (List BA)×List (List BA)×List Value//Sx Wc es105 q.1 q.2.1∧SetM (S++q.2.1) q.2.2.1∧NmS q.2.2.1∧q.2.2.2.length=q.2.2.1.length}) (fun k=>⟨[(0,_,_),(105,_,_)],[(1002,_,_),(105,itv r105,itP b105 r105 c105 es105 k.1.1),(1001, .agg k.1.2.2.2.toArray, .agg (k.1.2.2.1.map Zs)),(1000,m, .omap ((wks k.1.2.2.1).zip k.1.2.2.2))]⟩) (fun k=>(leftOf es105 k.1.1).size) ⟨(#[],[],ws,vs),JP hkv105 (by rw [hA1,Xb]),hS.congr fun w=>sM,hn,hlen⟩ ?_;rintro ⟨⟨seen,D,W2,V2⟩,hI,hM2,hN2,hV2⟩;dsimp only;dsimp only at hI hM2 hN2 hV2;refine Zh ?_;(refine Gn 105 106 hWf105 (fun hlf105=>?_) (fun e105 hle105=>?_)<;>refine ZB ?_)<;>(
 refine cX ?_ ?_<;>intro hb107
 · first | exact bN hb107|(
 refine nav ?_;obtain ⟨n,y,hy1,hy2,hy3,hyW,hI'⟩:=JQ hNc hWf105 hkv105 hI hle105;have hyl:=hMc.len hyW;refine Zi ?_;refine xM (Gp 105 hWf105 (Km hle105)) ?_;refine YJ ?_;refine Zq (Tv (t:=17) (g:=1002) rfl rfl hy2 (by rw [Xo,hy1];rfl) (WI Wc)) fun _=>?_;refine Zi ?_;refine YW ?_;refine WA [105,1002] 112 (call49) (SC m e105.val hM2 V2 y hV2 hN2 (hNc y hyW) oM) (fun v112 p112 h112 hR112=>?_);obtain ⟨W3,V3,b3,hV3,hN3,hM3,rfl,rfl,rfl⟩:=hR112;refine YX ?_ ?_<;>intro hb113
 · (
 refine ZI ?_;(have hk:b3=false:=by simpa using hb113);rw [hk,Qa dC] at hM3;refine Pd (hpS m W3 V3) results51 rfl sB ⟨W3,V3,false,hV3,hN3,?_,rfl,rfl,rfl⟩;rw [Qa dC];refine hM3.sub fun w hw=>?_;simp only [Xd,Xn] at hw ⊢;rcases hw with (h|h)|rfl
 · exact .inl h
 · exact .inr ((hMc.mem w).1 (LO hI w h))
 · exact .inr ((hMc.mem w).1 hyW))
 · (
 refine nav ?_;refine Zm (
  ⟨(seen.push e105.born,D++[y],W3,V3),hI',by
    (have hk:b3=true:=by simpa using hb113);rw [hk,Qb rfl] at hM3;rw [←XA];exact hM3,hN3,hV3⟩
  ) (Js hWf105 hle105) sB sB))
 · first|exact bN hb107|(
 refine ZI ?_;refine Pd (hpS m W2 V2) results51 rfl sB ⟨W2,V2,true,hV2,hN2,?_,rfl,rfl,rfl⟩;rw [Qb rfl];refine hM2.congr fun w=>?_;rw [Xd,Xd,(JN hI hlf105).mem_iff,hMc.mem])))
end Go.Proofs.YteiincihiagidaaGreat
namespace Go.En
open Go.RowKit Go.Cb
section
variable {P:Program}
theorem AF.of_bodyM {f:FuncId} {fn:Func} {code:Code} {ps:List PV} {R:PV→Prop} (nt:Nat) (hf:P.funcs[f]? =some fn) (hb:fn.body=some code) (hnt:fn.ntmps=nt) (hn:ps.length≤nt)
 (h:∀(w0:World) (M0:BS) (vs:List Value),vs.length=ps.length→(∀(i:Nat) (v:Value) (p:PV),vs[i]? =some v→ps[i]? =some p→vOf p v)→aC P ⟨w0,M0,fun _=>False,nt,False,[]⟩ code (bodyPostM Fence.wide 9 P fn (Gy ⟨w0,M0,fun _=>False,nt,False,[]⟩ R)) ⟨K1 0 vs ps,[]⟩):AF P f ps R:=fun M w vs hM hl hv=>by
 subst hnt
 refine (callsIn_wide (n:=9)).1 (callsIn_of_wp_marks hf hb trivial (wpIn_wide.2 ?_) rfl)
 refine wp_mono (h w M vs hl (fun i v p h1 h2=>(hv i v p h1 h2).vOf) _ w ⟨fun _ _=>False,⟨⟨by simp [lk],by simp [lk],by simp [lk],hM,Chg.rfl' _ _,fun _=>Xe _⟩,fun t v p ht=>?_,?_,rfl⟩⟩) fun e a w' hq=>?_
 · obtain ⟨_,h1,h2⟩:=Pn vs ps 0 t v p ht;simp only [Vx] at h1 h2;refine ⟨?_,(hv t v p h1 h2).anti fun b _ hb=>?_⟩
   · have:=Zd h1;rw [Vr (by simpa using this)];simpa using h1
   · rcases hb with hb|⟨l,x,h3,_⟩
     · exact hb
     · simp [lk] at h3
 · simp;omega
 · cases e<;>exact hq
theorem Zbg {c:Ctx} {fn:Func} {R:Ending→World→Prop} {st:St} (hdf:c.df=[]) (h:aR c (bodyPost P fn R) st):aR c (bodyPostM Fence.wide 9 P fn R) st:=fun a w H=>by
 have hd:a.defers=[]:=by obtain ⟨F,H⟩:=H;exact H.df.trans hdf
 obtain ⟨_,v,h1,h2⟩:=h a w H
 show LeavesInM Fence.wide 9 P fn a.tmps R a.defers .returning w
 rw [hd]
 exact ⟨v,h1,h2⟩
theorem OC {w0:World} {M0 N0:BS} {nt:Nat} {dr:Prop} {fn:Func} {R:Ending→World→Prop} {sL hP:List (Nat×Ent)} {u v:Value} {D:Nat} (l:Nat) (hl:lk hP l=some (u, .oblk v D (.deferred (some [])) []))
 (h:aR ⟨w0,M0,N0,nt,dr,[]⟩ (bodyPost P fn R) (⟨sL,del l hP⟩:St)):aR ⟨w0,M0,N0,nt,dr,[{target:= .collected D,args:= #[]}]⟩ (bodyPostM Fence.wide 9 P fn R) (⟨sL,hP⟩:St):=fun a w ⟨F,H⟩=>by
 obtain ⟨hD,_,hF⟩:=(H.tr l _ _ hl).blk
 have hDl:=Y8 hD
 have hch:Chg (fun b=>∃l' x,l'=l∧lk hP l'=some x∧F l' b) w (w.putObj D (.deferred none)):=by
  refine ⟨rfl,rfl,rfl,by simp [World.putObj],fun k hk hn=>?_⟩;have hne:D≠k:=fun e=>hn ⟨l,_,rfl,hl,(hF k).2 e.symm⟩;simp [World.putObj,Ux,hne]
 have key:HoldsF ⟨w0,M0,N0,nt,dr,a.defers⟩ (⟨sL,del l hP⟩:St) F a (w.putObj D (.deferred none)):=by
  have H':HoldsF ⟨w0,M0,N0,nt,dr,a.defers⟩ (⟨sL,hP⟩:St) F a w:=⟨⟨H.tr,H.lo,H.dj,H.m0,H.ext,H.dw⟩,H.sl,H.size,rfl⟩;refine H'.change0 (fun l'=>l'=l) hch (fun l' x hne hx=>?_) (fun l' x b hT hx hb=>?_) (fun _ l' u q hT hx=>?_) (fun l1 l2 _ _ _ h1 h2 hne=>Qc (h1.trans h2.symm) hne) (fun _=>Xe _)
  · exact ⟨(YC hx).2,rfl⟩
  · subst hT;rw [Ty] at hx;cases hx
  · subst hT;rw [Ty] at hx;cases hx
 have hk:=h {a with defers:=[]} (w.putObj D (.deferred none)) ⟨F,⟨⟨key.tr,key.lo,key.dj,key.m0,key.ext,key.dw⟩,key.sl,key.size,rfl⟩⟩
 obtain ⟨_,v',h1,h2⟩:=hk
 show LeavesInM Fence.wide 9 P fn a.tmps R a.defers .returning w
 rw [show a.defers=[{target:= .collected D,args:= #[]}] from H.df]
 exact ⟨sM, .inl ⟨_,_,rfl,run_takeDeferred hD,⟨v',h1,h2⟩⟩⟩
theorem Zpu {n:Nat} {row:String} {args:Array Value} {w:World} {R:Value→World→Prop} (h:Rows P row args w R):RowsIn Fence.wide n P row args w R:=fun c cs _=>let ⟨v,w',r,s⟩:=h c cs;⟨v,w',r,stepsIn_wide.2 s⟩
theorem Zpv {r n:Nat} {o:Oper} {a:Act} {next:Act→World→Prop} {Q:Exit→Act→World→Prop} {res:Result Next} (h:o.upon P a next Q res):o.uponIn (Fence.wide.inRound r) n P a next Q res:=by
 cases res with
 | ok x w'=>
   cases x<;>first
    |exact h
    |exact ⟨fun h=>Qc (show false=true from h) dC,(CallsIn.inRound r (callsIn_wide.2 h)).mono fun e w h=>by cases e<;>exact h⟩
    |exact ⟨fun h=>Qc (show false=true from h) dC,fun c cs _=>Zpu (n:=n-1) h c cs (room_wide _)⟩
    |exact h.elim
 |halt x w'=>cases x<;>first|exact h|exact h.elim
theorem Zbh {r n:Nat} {ops:Array Oper} {Q:Exit→Act→World→Prop} (hQ:¬LetsOut Q):∀(l:List Oper) (a:Act) (w:World),(∀o∈l,∀c,o.op≠ .defer c)→wpList P ops Q l a w→wpListIn (Fence.wide.inRound r) n P ops Q l a w
 |[],_,_,_,h=>h
 | o :: l, a,w,hd,h=>by
   have ih:=fun a w=>Zbh (r:=r) (n:=n) (ops:=ops) hQ l a w fun o ho=>hd o (Xw _ ho);unfold wpListIn;unfold wpList at h;split
   · rename_i hw;rw [Qb hw] at h;rcases h with h|⟨_,h⟩
     · refine ⟨fun _ _=>trivial,?_⟩;rw [Oper.semAt_eq _ _ _ (hd o (Xs ..))];have h1:o.upon P a (wpList P ops Q l) Q ((execOp a.eval o).run P w):=h;have h2:=Zpv (r:=r) (n:=n) h1;revert h2;generalize (execOp a.eval o).run P w=res;intro h2
       cases res with
       | ok x w'=>
         cases x<;>first
          |exact ih _ _ h2
          |exact ⟨h2.1,h2.2.mono fun e w'' he=>by cases e<;>first|exact ih _ _ he|exact he⟩
          |exact ⟨h2.1,h2.2.mono fun v w'' he=>ih _ _ he⟩
          |exact h2
       |halt x w'=>cases x<;>exact h2
     · exact Qc h hQ
   · rename_i hw;rw [Qa hw] at h;exact ⟨fun _ _=>trivial,ih _ _ h⟩
def aCr (P:Program) (c:Ctx) (r n:Nat) (code:Code) (Q:Exit→Act→World→Prop) (st:St):Prop:=∀a w,Holds c st a w→code.wpIn (Fence.wide.inRound r) n P Q a w
theorem Di {c:Ctx} {r n id:Nat} {l:List Oper} {Q:Exit→Act→World→Prop} {st:St} (hQ:¬LetsOut Q) (hd:∀o∈l,∀c,o.op≠ .defer c) (h:aL P c l.toArray Q l st):aCr P c r n (.region id l.toArray false) Q st:=fun a w H=>wpIn_region_lit (Zbh hQ l a w hd (h a w H))
theorem ZhL {c:Ctx} {r n:Nat} {x y:Code} {Q:Exit→Act→World→Prop} {st:St} (h:aCr P c r n x (Exit.then (y.wpIn (Fence.wide.inRound r) n P Q) Q) st):aCr P c r n (x.seq y) Q st:=fun a w H=>wpIn_seq (h a w H)
theorem Zeb {c:Ctx} {r n:Nat} {y:Code} {Q:Exit→Act→World→Prop} {st:St} (h:aCr P c r n y Q st):aN c (Exit.then (y.wpIn (Fence.wide.inRound r) n P Q) Q) st:=fun a w H=>h a w H
theorem Zj0 {c:Ctx} {r n id:Nat} {x:Code} {Q:Exit→Act→World→Prop} {st:St} (h:aCr P c r n x (Exit.inBlock id Q) st):aCr P c r n (.block id x) Q st:=fun a w H=>wpIn_block (h a w H)
theorem ZmX {c:Ctx} {r n t:Nat} {x y:Code} {b:Bool} {p:PV} {Q:Exit→Act→World→Prop} {sL hP:List (Nat×Ent)} (ht:lk sL t=some (.bool b,p)) (h1:b=true→aCr P c r n x Q ⟨sL,hP⟩) (h2:b=false→aCr P c r n y Q ⟨sL,hP⟩):aCr P c r n (.cond (.tmp t) x y) Q ⟨sL,hP⟩:=fun a w H=>by
 have he:a.eval (.tmp t)= .bool b:=by
  obtain ⟨F,H'⟩:=H;exact (H'.rd.ev (x:= .tmp t) ht).1
 exact wpIn_cond_split he (fun hb=>h1 hb a w H) (fun hb=>h2 hb a w H)
theorem ZmY {c:Ctx} {r n:Nat} {Q:Exit→Act→World→Prop} {st:St} (h:aN c Q st):aCr P c r n .skip Q st:=fun a w H=>wpIn_skip (h a w H)
theorem ZmZ {c:Ctx} {r n id:Nat} {Q:Exit→Act→World→Prop} {st:St} (h:aX c Q id st):aCr P c r n (.exit id) Q st:=fun a w H=>wpIn_exit (h a w H)
end
end Go.En
namespace Go.Proofs.YteiincihiagidaaGreat
open Go.RowKit Go.Cb Go.En Tryz
mutual
def nulT:Nd→Bool
 | .mk o _ l=>if o=2 then true else if o=1 then false else if o=6 then (Zj1 l).headD false else if o=4 then (Zj1 l).any id else (Zj1 l).all id
def Zj1:List Nd→List Bool
 |[]=>[]
 |x::l=>nulT x::Zj1 l
end
mutual
def shoT:Nd→Int
 | .mk o _ l=>if o=2 then 0 else if o=1 then 1 else if o=6 then (Zj2 l).headD 0 else if o=4 then (match Zj2 l with|[]=>0|n::m=>m.foldl min n) else (Zj2 l).foldl (· + ·) 0
def Zj2:List Nd→List Int
 |[]=>[]
 |x::l=>shoT x::Zj2 l
end
def seqE:List (Bool×List BA)→List BA
 |[]=>[]
 |(b,e)::m=>e++(if b=true then seqE m else [])
def Zbi:List (Bool×List BA)→List BA
 |(b,e)::(_,e2)::_=>e++(if b=true then e2 else [])
 |_=>[]
def opE (last:Bool) (o:Int) (a:BA) (ps:List (Bool×List BA)):List BA:=if o=2 then [] else if o=1 then [a] else if o=6 then Zbi ps else if o=3 then seqE (if last=true then ps.reverse else ps) else ps.flatMap (·.2)
mutual
def edgT (last:Bool):Nd→List BA
 | .mk o a l=>opE last o a (Zpw last l)
def Zpw (last:Bool):List Nd→List (Bool×List BA)
 |[]=>[]
 |x::l=>(nulT x,edgT last x)::Zpw last l
end
theorem Zpx (l:List Nd):Zj1 l=l.map nulT:=by
 induction l with
 |nil=>rfl
 |cons x l ih=>rw [Zj1,ih];rfl
theorem Zpy (l:List Nd):Zj2 l=l.map shoT:=by
 induction l with
 |nil=>rfl
 |cons x l ih=>rw [Zj2,ih];rfl
theorem Zpz (last:Bool) (l:List Nd):Zpw last l=l.map fun x=>(nulT x,edgT last x):=by
 induction l with
 |nil=>rfl
 |cons x l ih=>rw [Zpw,ih];rfl
theorem Zm0 (o:Int) (a:BA) (l:List Nd):nulT (.mk o a l)=if o=2 then true else if o=1 then false else if o=6 then (l.map nulT).headD false else if o=4 then (l.map nulT).any id else (l.map nulT).all id:=by rw [nulT,Zpx]
theorem Zm1 (o:Int) (a:BA) (l:List Nd):shoT (.mk o a l)=if o=2 then 0 else if o=1 then 1 else if o=6 then (l.map shoT).headD 0 else if o=4 then (match l.map shoT with|[]=>0|n::m=>m.foldl min n) else (l.map shoT).foldl (· + ·) 0:=by rw [shoT,Zpy]
theorem ζN (last:Bool) (o:Int) (a:BA) (l:List Nd):edgT last (.mk o a l)=opE last o a (l.map fun x=>(nulT x,edgT last x)):=by rw [edgT,Zpz]
theorem Zm2:∀t:Nd,0≤shoT t∧shoT t≤szT t:=Nd.ind fun o a l ih=>by
 rw [Zm1,szT]
 have hs:0≤(szL l:Int):=Int.natCast_nonneg _
 have hsum:∀(m:List Nd),(∀x∈m,0≤shoT x∧shoT x≤szT x)→∀k:Int,0≤k→k≤(m.map shoT).foldl (· + ·) k∧(m.map shoT).foldl (· + ·) k≤k+szL m:=fun m=>by
  induction m with
  |nil=>intro _ k hk;rw [szL];simp
  | cons x m ihm=>
    intro h k hk;have h1:=h x (Xs ..);have:=ihm (fun y hy=>h y (Xw _ hy)) (k+shoT x) oM;rw [szL,Xj,Vg];omega
 have hmin:∀(m:List Int) (k:Int),0≤k→(∀x∈m,0≤x)→0≤m.foldl min k∧m.foldl min k≤k:=fun m=>by
  induction m with
  |nil=>intro k hk _;exact ⟨hk,Int.le_refl _⟩
  | cons x m ihm=>
    intro k hk h;have h1:=h x (Xs ..);have:=ihm (min k x) oM fun y hy=>h y (Xw _ hy);rw [Vg];omega
 split
 · omega
 split
 · omega
 split
 · cases l with
   |nil=>simp;omega
   | cons x l=>
     have:=ih x (Xs ..);rw [Xj,szL];show 0≤shoT x∧_;simp only [List.headD_cons];omega
 split
 · cases l with
   |nil=>simp;omega
   | cons x l=>
     have h1:=ih x (Xs ..);have h2:=hmin (l.map shoT) (shoT x) h1.1 fun y hy=>by
      obtain ⟨z,hz,rfl⟩:=Xh.1 hy;exact (ih z (Xw _ hz)).1
     rw [Xj,szL];dsimp only;omega
 · have:=hsum l ih 0 (Int.le_refl _);omega
theorem Zm3 (a b:List (Bool×List BA)):∀s,s∈seqE (a++b)↔s∈seqE a∨((a.all (·.1))=true∧s∈seqE b):=fun s=>by
 induction a with
 |nil=>simp [seqE]
 | cons x a ih=>
   obtain ⟨c,e⟩:=x;rw [XV];show s∈e++(if c=true then seqE (a++b) else [])↔s∈e++(if c=true then seqE a else [])∨_
   cases c
   · simp
   · simp only [if_true,Xd,ih,VU,Uo];exact ⟨fun h=>h.elim (fun h=> .inl (.inl h)) fun h=>h.elim (fun h=> .inl (.inr h)) .inr,fun h=>h.elim (fun h=>h.elim .inl fun h=> .inr (.inl h)) fun h=> .inr (.inr h)⟩
structure Fx where
 nul:Bool
 fs:List BA
 ls:List BA
 sho:Int
def cFx (x:Fx):List PV:=[Zv x.nul, .smap (skv (Wp x.fs)), .smap (skv (Wp x.ls)),Zc x.sho]
def bkv (g:Nat):Value:= .func (.func 169) #[] #[.pointer (some ⟨g,0,none⟩)]
def bkE (g:Nat) (hd:Value):Ent:=(itv g, .oblk (itv g) g (.cells #[hd] 166) [])
section
variable {c:Ctx} {ops:Array Oper} {Q:Exit→Act→World→Prop} {rest:List Oper} {sL hP:List (Nat×Ent)} {o:Oper}
theorem Zrw {x:Operand} {v:Value} {p:PV} {ats:Array TypeId} (d:Nat) (hv1:∀M w,Shr M w v p→v.oneCell'=true) (k:∀g:Nat,aL prog c ops Q rest ⟨put d (bkv g, .val (bkv g)) sL,put d (bkE g v) hP⟩)
 (hw:ZP ops sL o=some true:=by exact rfl) (hd:o.dst=some d:=by exact rfl) (hn:d<c.nt:=by exact Xa rfl) (ho:o.op= .call {callee:= .value (.func 127),args:= #[x],argTypes:=ats}:=by exact rfl) (hx:ev sL x=some (v,p):=by exact rfl) (hl:lk hP d=none:=by exact rfl):aL prog c ops Q (o::rest) (⟨sL,hP⟩:St):=
 Y4 hw fun a w F H=>by
  obtain ⟨hv,hS⟩:=H.rd.ev hx;have key:HoldsF c ⟨put d (bkv w.heap.size, .val (bkv w.heap.size)) sL,put d (bkE w.heap.size v) hP⟩ (fun l'=>if l'=d then (fun x=>x=w.heap.size) else F l') (a.put (some d) (bkv w.heap.size)) (w.alloc (.cells #[v] 166)):=by
   refine H.change (fun l'=>l'=d) hn ((Ext.alloc _ _).chg) (fun l' x hne hx'=>?_) (fun l' x b' hT hx' hb=>?_) (fun hm l' u q hT hx'=>?_) (fun l1 l2 _ _ _ h1 h2 hne=>Qc (h1.trans h2.symm) hne) (fun hm=> .val _)
   · rcases ZZ hx' with ⟨e1,_⟩|⟨_,e1⟩
     · exact Qc e1.symm hne
     · exact ⟨e1,by simp [hne]⟩
   · subst hT;simp only [if_true] at hb;exact .inr (by rw [hb];exact Xe _)
   · subst hT;rw [ZJ] at hx';unfold bkE at hx'
     cases hx';simp only [if_true];refine .oblk w.heap.size rfl ?_ (fun p hp=>by cases hp) (fun x=>Iff.rfl);show (w.heap.push _)[w.heap.size]? =_;simp
  have hrun:(execOp a.eval o).run prog w= .ok (.enter 127 #[v]) w:=by
   have hev:a.eval (.func 127)= .func (.func 127) #[] #[]:=rfl;simp [execOp,ho,resolve,Deferred.ofValue,hev,invoke,hv,call127]
  unfold Oper.wp;rw [hrun,Oper.upon_enter];refine (callsIn_wide.1 (Zr8 v w (hv1 _ _ hS))).mono fun e' w' ⟨he,hw'⟩=>?_;subst he hw';rw [hd];exact k _ _ _ ⟨_,key⟩
end
theorem ζO:∀{m:List (Bool×List BA)},(∀p∈m,p.1=true)→∀s,s∈seqE m↔∃p∈m,s∈p.2
 |[],_,s=>by simp [seqE]
 | (b,e)::m,h,s=>by
   have hb:b=true:=h _ (Xs ..);subst hb;show s∈e++(if true=true then seqE m else [])↔_;rw [Qb rfl,Xd,ζO fun p hp=>h p (Xw _ hp)];constructor
   · rintro (h1|⟨p,hp,h1⟩)
     · exact ⟨_,Xs ..,h1⟩
     · exact ⟨p,Xw _ hp,h1⟩
   · rintro ⟨p,hp,h1⟩;rcases Xk.1 hp with rfl|hp
     · exact .inl h1
     · exact .inr ⟨p,hp,h1⟩
theorem Ee:∀{m r:List (Bool×List BA)} {e:List BA},(∀p∈m,p.1=true)→∀s,s∈seqE (m++(false,e)::r)↔(∃p∈m,s∈p.2)∨s∈e
 | [],r,e,_,s=>by
   show s∈e++(if false=true then seqE r else [])↔_;simp
 | (b, e')::m,r,e,h,s=>by
   have hb:b=true:=h _ (Xs ..);subst hb;show s∈e'++(if true=true then seqE (m++(false,e)::r) else [])↔_;rw [Qb rfl,Xd,Ee fun p hp=>h p (Xw _ hp)];constructor
   · rintro (h1|⟨p,hp,h1⟩|h1)
     · exact .inl ⟨_,Xs ..,h1⟩
     · exact .inl ⟨p,Xw _ hp,h1⟩
     · exact .inr h1
   · rintro (⟨p,hp,h1⟩|h1)
     · rcases Xk.1 hp with rfl|hp
       · exact .inl h1
       · exact .inr (.inl ⟨p,hp,h1⟩)
     · exact .inr (.inr h1)
def SD (xs:List Fx) (k:Nat):Bool×List BA:=match xs[k]? with|some x=>(x.nul,x.ls)|none=>(true,[])
def ζP (xs:List Fx):List (Bool×List BA):=xs.map fun x=>(x.nul,x.ls)
theorem ζQ (xs:List Fx):∀k,k≤xs.length→(ζP xs).reverse.take k=(GK xs.length k).map (SD xs)
 |0,_=>by simp [GK]
 | k +1,h=>by
   have h1:(ζP xs).reverse[k]? =some (SD xs (xs.length-1-k)):=by
    unfold ζP SD;rw [List.getElem?_reverse (by rw [Xb];omega),Xb,Xo];rw [Xx (show xs.length-1-k<xs.length by omega)];rfl
   rw [Zw h1,ζQ xs k oM,EM,XC];rfl
theorem Zm4 {xs:List Fx} {ys:List {k:Nat//k<xs.length}} (h:ys.map (·.1)=GK xs.length xs.length) (hn:∀k∈ys,(SD xs k.1).1=true) (s:BA):s∈seqE (ζP xs).reverse↔∃k∈ys,s∈(SD xs k.1).2:=by
 have h1:=ζQ xs xs.length (Xe _)
 rw [Xq (by unfold ζP;simp),←h,Xt] at h1
 rw [h1,ζO]
 · constructor
   · rintro ⟨p,hp,hs⟩;obtain ⟨k,hk,rfl⟩:=Xh.1 hp;exact ⟨k,hk,hs⟩
   · rintro ⟨k,hk,hs⟩;exact ⟨_,Xh.2 ⟨k,hk,rfl⟩,hs⟩
 · intro p hp;obtain ⟨k,hk,rfl⟩:=Xh.1 hp;exact hn k hk
theorem Zj3 {xs:List Fx} {pre:List {k:Nat//k<xs.length}} {x:{k:Nat//k<xs.length}} {n:Nat} (hn0:n≤xs.length) (h:(pre++[x]).map (·.1)=GK xs.length n) (hn:∀k∈pre,(SD xs k.1).1=true) (hx:(SD xs x.1).1=false) (s:BA):
 s∈seqE (ζP xs).reverse↔∃k∈pre++[x],s∈(SD xs k.1).2:=by
 have h1:=ζQ xs n hn0
 rw [←h,Xt,XC] at h1
 have h2:(ζP xs).reverse=pre.map (SD xs∘fun x=>x.1)++(false,(SD xs x.1).2)::(ζP xs).reverse.drop n:=by
  conv=>lhs;rw [←X5 n (ζP xs).reverse,h1]
  rw [XA];have:(SD xs∘fun x:{k:Nat//k<xs.length}=>x.1) x=(false,(SD xs x.1).2):=by
   show SD xs x.1=_;rw [←hx]
  rw [List.map_singleton,this];rfl
 rw [h2,Ee]
 · constructor
   · rintro (⟨p,hp,hs⟩|hs)
     · obtain ⟨k,hk,rfl⟩:=Xh.1 hp;exact ⟨k,List.mem_append_left _ hk,hs⟩
     · exact ⟨x,sM,hs⟩
   · rintro ⟨k,hk,hs⟩;rcases Xd.1 hk with hk|hk
     · exact .inl ⟨_,Xh.2 ⟨k,hk,rfl⟩,hs⟩
     · rw [Xn] at hk;subst hk;exact .inr hs
 · intro p hp;obtain ⟨k,hk,rfl⟩:=Xh.1 hp;exact hn k hk
theorem Zec {M:BS} {w:World} {v:Value} {kv:List (Value×Value)} {F:BS} (h:Tr M w v (.omap kv) F):∃b es clock,v= .map (some b)∧w.heap[b]? =some (.map es clock)∧(∀x,F x↔x=b)∧WfM es clock∧kvOf es=kv:=by
 generalize hp:PV.omap kv=p at h
 cases h with
 |shr h _=>subst hp;cases h
 |omap b es clock h hF hW=>injection hp with hp;exact ⟨b,es,clock,rfl,h,hF,hW,hp.symm⟩
 |_=>cases hp
theorem ZpA {M:BS} {w:World} {v:Value} {n:Nat} {cs:List PV} (h:Shr M w v (.sl n cs)) (hn:0<n):∃(b off c:Nat) (vs:Nat→Value),v= .slice (some ⟨b,off,none⟩) n c∧n≤c∧c≤maxLen∧(∀i:Nat,i<cs.length→w.cell? ⟨b,off+i,none⟩=some (vs i)∧¬M b)∧∀(i:Nat) (p:PV),cs[i]? =some p→Shr M w (vs i) p:=by
 cases h with
 |emp a c hc ha=>omega
 |sl b off n c cs vs h1 h2 h3 h4=>exact ⟨b,off,c,vs,rfl,h1,h2,h3,h4⟩
theorem Zbj {w:World} {e k n b:Nat} {v:Value} {ys:List Value} (h:w.ownsRow 0 e k v n ys) (hb:v.ownBlock=some b):∃o:Obj,w.heap[b]? =some o∧o.isCells=true:=by
 rcases h.2 with ⟨h1,_⟩|⟨g,cap,cur,h1,_,hh,_⟩
 · rw [h1] at hb;simp [Value.ownBlock] at hb
 · rw [h1] at hb;simp [Value.ownBlock] at hb;subst hb;exact ⟨_,hh,rfl⟩
def BkI (xs:List Fx) (w:World) (N:BS) (b18:Nat) (pre:List {k:Nat//k<xs.length}) (W:World):Prop:=∃(ks:List BA) (es:Array MapEntry) (clock:Nat),ks.Nodup∧(∀s,s∈ks↔∃k∈pre,s∈(SD xs k.1).2)∧Chg N w W∧W.heap[b18]? =some (.map es clock)∧WfM es clock∧kvOf es=skv (Wp ks)
theorem BkI.from {xs:List Fx} {w:World} {N:BS} {b18:Nat} (hb:b18<w.heap.size) (P:List {k:Nat//k<xs.length}→Prop):OwnFrom w.heap.size (fun pre W=>P pre∧BkI xs w N b18 pre W):=fun pre W W' row ⟨hP,ks,es,clock,h1,h2,h3,h4,h5,h6⟩ hg hr=>by
 have hlt:∀k,k<w.heap.size→W'.heap[k]? =W.heap[k]? :=fun k hk=>hg.block k (VY hk h3.size) fun e=>by
  have:=(hr k e.symm).1;omega
 exact ⟨hP,ks,es,clock,h1,h2,⟨hg.os.trans h3.os,hg.tape.trans h3.tape,hg.output.trans h3.output,XJ h3.size hg.size,fun k hk hn=>(hlt k hk).trans (h3.block k hk hn)⟩,(hlt b18 hb).trans h4,h5,h6⟩
theorem ZhM {N:BS} {g b:Nat} {W W':World} (h:Chg N W W') (hg:¬N g) (hb:¬N b):KpB g b W W':=fun p v hp hv=>by
 have hlt:=World.block_lt_of_cell? _ _ hv
 have:W'.heap[p.block]? =W.heap[p.block]? :=h.block _ hlt (by rcases hp with hp|hp<;>rw [hp]<;>assumption)
 exact (World.cell?_of_block this).trans hv
theorem Zbk {N:BS} {B:Nat} {W W':World} (h:Chg N W W') (hN:∀k,N k→B≤k→∃o:Obj,W.heap[k]? =some o∧o.isCells=true):KeepsFrom B W W':=⟨h.size,fun k o hB hk ho=>by
 have hlt:=Y8 hk
 by_cases hn:N k
 · obtain ⟨o',h1,h2⟩:=hN k hn hB;rw [hk] at h1;cases h1;rw [ho] at h2;cases h2
 · exact (h.block k hlt hn).trans hk⟩
theorem Zj4 {w0:World} {M0 N0:BS} {nt g:Nat} {Q0:Exit→Act→World→Prop} {sL hP:List (Nat×Ent)} {xs:List Fx} {h3 hd m17 m18:Value} {q3:PV} {N:Bool} {S:Int} {la:List Oper} {ida:Nat} {body:Code} (hnt:82<nt) (hne:0<xs.length) (hle:xs.length≤1000000)
 (hs80:lk sL 80=some (bkv g, .val (bkv g))) (hh80:lk hP 80=some (bkE g hd)) (hs79:lk sL 79=some (hd, .sl xs.length (xs.flatMap cFx))) (hs3:lk sL 3=some (ZD (Zr h3) 0,q3)) (hh3:lk hP 3=some (h3, .own 129 4 1 [Zv N, .val m17, .val m18,Zc S])) (hh18:lk hP 18=some (m18, .omap (skv (Wp [])))) (hh5:lk hP 5000=none)
 (hda:∀o∈la,∀c,o.op≠ .defer c)
 (hA:∀(w0:World) (M0 N0:BS) (Q:Exit→Act→World→Prop) (e3 v0 v1 v2 v3:Value),v0.oneCell'=true→v1.oneCell'=true→v2.oneCell'=true→v3.oneCell'=true→(∀h10:Value,aN ⟨w0,M0,N0,nt,False,[]⟩ Q ⟨[(3,e3, .val e3),(10,ZD (Zr h10) 0, .val (ZD (Zr h10) 0))],[(10,h10, .own 129 4 1 [.val v0, .val v1, .val v2, .val v3])]⟩)→aL prog ⟨w0,M0,N0,nt,False,[]⟩ la.toArray Q la ⟨[(3,e3, .val e3),(82, .agg #[v0,v1,v2,v3], .agg [.val v0, .val v1, .val v2, .val v3])],[]⟩)
 (hB:∀(w0:World) (M0 N0:BS) (r n:Nat) (Q:Exit→Act→World→Prop) (ks:List BA) (x:Fx) (h10 e3:Value),ks.Nodup→¬LetsOut Q→(∀(ms:List BA) (sL:List (Nat×Ent)),ms.Nodup→(∀s,s∈ms↔s∈ks∨s∈x.ls)→(x.nul=true→aN ⟨w0,M0,N0,nt,False,[]⟩ Q ⟨sL,[(1000,m18, .omap (skv (Wp ms)))]⟩)∧(x.nul=false→aX ⟨w0,M0,N0,nt,False,[]⟩ Q 5 ⟨sL,[(1000,m18, .omap (skv (Wp ms)))]⟩))→
   aCr prog ⟨w0,M0,N0,nt,False,[]⟩ r n body Q ⟨[(3,e3, .sptr 0 [Zv N, .val m17, .val m18,Zc S]),(10,ZD (Zr h10) 0, .val (ZD (Zr h10) 0))],[(1000,m18, .omap (skv (Wp ks))),(10,h10, .own 129 4 1 (cFx x))]⟩)
 (k:∀(D:Nat) (ms:List BA),ms.Nodup→(∀s,s∈ms↔s∈seqE (ζP xs).reverse)→aN ⟨w0,M0,N0,nt,False,[{target:= .collected D,args:= #[]}]⟩ Q0 ⟨sL,put 5000 (itv D, .oblk (itv D) D (.deferred (some [])) []) (put 18 (m18, .omap (skv (Wp ms))) hP)⟩):
 aC prog ⟨w0,M0,N0,nt,False,[]⟩ (.rangeFunc (.tmp 80) #[81,82] (.region ida la.toArray false) body) (Exit.inBlock 5 Q0) ⟨sL,hP⟩:=fun a w ⟨F,H⟩=>by
 have hev:a.eval (.tmp 80)=bkv g:=(H.rd.ev (x:= .tmp 80) hs80).1
 obtain ⟨hgc,_,hFg⟩:=(H.tr 80 _ _ hh80).blk
 have hgl:=Y8 hgc
 obtain ⟨_,hS79⟩:=H.sl 79 _ _ hs79
 obtain ⟨b18,es0,ck0,hm18,hb18,hF18,hW0,hkv0⟩:=Zec (H.tr 18 _ _ hh18)
 have hb18l:=Y8 hb18
 have hclen:(xs.flatMap cFx).length=xs.length*4:=Yr (fun x=>show (cFx x).length=4 from rfl) xs
 have hdf:a.defers=[]:=H.df
 have hin:∀b,F 18 b→mof ⟨w0,M0,N0,nt,False,[]⟩ hP F b:=fun b hb=> .inr ⟨18,_,hh18,hb⟩
 obtain ⟨b,off,c,vs,hhd,hnc,hc,hcell,hT⟩:=ZpA hS79 hne
 subst hhd
 have hbl:b<w.heap.size:=World.block_lt_of_cell? _ _ (hcell 0 oM).1
 have hgb:¬F 18 g:=fun h=>H.dj 18 80 _ _ g dC hh18 hh80 h ((hFg g).2 rfl)
 have hbb:¬F 18 b:=fun h=>(hcell 0 oM).2 (hin b h)
 have hcV:∀k j,k<xs.length→j<4→w.cell? ⟨b,off+k*4+j,none⟩=some (vs (k*4+j)):=fun k j hk hj=>by
  have:=(hcell (k*4+j) oM).1;rw [←Vw] at this;exact this
 have hseq:=Zf8 7 g b off xs.length c (fun k j=>vs (k*4+j)) w hle hc hnc hbl hgl (by simp [World.cell?,hgc]) hcV
 have hxk:∀(x:{k:Nat//k<xs.length}),∃y:Fx,xs[x.1]? =some y∧SD xs x.1=(y.nul,y.ls)∧∀j p,(cFx y)[j]? =some p→(xs.flatMap cFx)[x.1*4+j]? =some p∧j<4:=fun x=>by
  obtain ⟨y,hy⟩:=get_some x.2;refine ⟨y,hy,by unfold SD;rw [hy],fun j p hp=>?_⟩;have hj:j<4:=Zd hp;refine ⟨?_,hj⟩;have h1:=Yu (fun x=>show (cFx x).length=4 from rfl) xs x.1 y hy;rw [←h1,List.getElem?_take,Qb hj,VJ] at hp;exact hp
 have hone:∀(x:{k:Nat//k<xs.length}) j,j<4→(vs (x.1*4+j)).oneCell'=true:=fun x j hj=>by
  obtain ⟨y,_,_,hp⟩:=hxk x;match j,hj with
  |0,_=>have h1:=hT _ _ (hp 0 _ rfl).1;generalize vs (x.1*4+0)=u at h1;cases h1;rfl
  |1,_=>have h1:=hT _ _ (hp 1 _ rfl).1;generalize vs (x.1*4+1)=u at h1;generalize hq:PV.smap (skv (Wp y.fs))=q at h1;cases h1<;>first|rfl|cases hq
  |2,_=>have h1:=hT _ _ (hp 2 _ rfl).1;generalize vs (x.1*4+2)=u at h1;generalize hq:PV.smap (skv (Wp y.ls))=q at h1;cases h1<;>first|rfl|cases hq
  |3,_=>have h1:=hT _ _ (hp 3 _ rfl).1;generalize vs (x.1*4+3)=u at h1;cases h1;rfl
 have htab:∀W,Chg (fun b=>F 18 b) w W→∀N:BS,(∀k,N k→F 18 k∨w.heap.size≤k)→M0k W (fun _=>False) N False:=fun W hW N hN=>by
  have hm:=H.toHeapF.mok;refine ⟨fun _ h=>h.elim,fun hn q hq=>?_,fun hn q hq=>?_⟩
  · obtain ⟨⟨ty,at',h1⟩,h2,_⟩:=hm.tb hn q hq;have hq18:¬F 18 q:=fun h=>h2 (hin q h);exact ⟨⟨ty,at',(hW.block q (Y8 h1) hq18).trans h1⟩,fun h=>h,fun h=>(hN q h).elim hq18 fun h=>by have:=Y8 h1;omega⟩
  · obtain ⟨⟨ev,ty,at',h1,h1'⟩,h2,_⟩:=hm.er hn q hq;have hq18:¬F 18 q:=fun h=>h2 (hin q h);exact ⟨⟨ev,ty,at',(hW.block q (Y8 h1) hq18).trans h1,h1'⟩,fun h=>h,fun h=>(hN q h).elim hq18 fun h=>by have:=Y8 h1;omega⟩
 have hfin:∀(D:Nat) (W:World) (pre:List {k:Nat//k<xs.length}),w.heap.size≤D→W.heap[D]? =some (.deferred (some []))→BkI xs w (fun b=>F 18 b) b18 pre W→(∀s,s∈seqE (ζP xs).reverse↔∃k∈pre,s∈(SD xs k.1).2)→Q0 .normal {a with defers:={target:= .collected D,args:= #[]}::a.defers} W:=fun D W pre hD hDW ⟨ms,es,ck,m1,m2,m3,m4,m5,m6⟩ hm=>by
  have hne5:∀l:Nat,lk hP l≠none→l≠5000:=fun l h e=>h (e▸hh5);let F':Nat→BS:=fun l b'=>if l=5000 then b'=D else F l b';have hch:Chg (fun b=>∃l x,(l=18∨l=5000)∧lk hP l=some x∧F l b) w W:=m3.wid fun q hq=> .inl ⟨18,_, .inl rfl,hh18,hq⟩;have H':HoldsF ⟨w0,M0,N0,nt,False,[]⟩ ⟨sL,put 5000 (itv D, .oblk (itv D) D (.deferred (some [])) []) (put 18 (m18, .omap (skv (Wp ms))) hP)⟩ F' a W:=by
   refine H.change0 (fun l=>l=18∨l=5000) hch (fun l e hl he=>?_) (fun l e b' hl he hb'=>?_) (fun _ l v p hl he=>?_) (fun l l' e e' b' hl hl' hne he he' hb' hb''=>?_) (fun h=>h.elim)
   · have h1:l≠18:=fun h=>hl (.inl h);have h2:l≠5000:=fun h=>hl (.inr h);rw [ZY (Ne.symm h2),ZY (Ne.symm h1)] at he;exact ⟨he,by simp [F',h2]⟩
   · rcases hl with rfl|rfl
     · exact .inl ⟨18,_, .inl rfl,hh18,by simpa [F'] using hb'⟩
     · (have:b'=D:=by simpa [F'] using hb');exact .inr oM
   · rcases hl with rfl|rfl
     · rw [ZY dC,ZJ] at he
       cases he;rw [hm18,←m6];exact .omap b18 es ck m4 (fun q=>by simp [F',hF18]) m5
     · rw [ZJ] at he
       cases he;exact .oblk D rfl hDW (fun p hp=>by cases hp) (fun q=>by simp [F'])
   · have hap:∀q,F' 18 q→F' 5000 q→False:=fun q h1 h2=>by
      (have h3:F 18 q:=by simpa [F'] using h1);(have h4:q=D:=by simpa [F'] using h2);rw [hF18] at h3;omega
     rcases hl with rfl|rfl<;>rcases hl' with rfl|rfl
     · exact hne rfl
     · exact hap b' hb' hb''
     · exact hap b' hb'' hb'
     · exact hne rfl
  refine k D ms m1 (fun s=>by rw [m2,hm]) _ W ⟨F',⟨⟨H'.tr,H'.lo,H'.dj,H'.m0,H'.ext,H'.dw⟩,H'.sl,H'.size,?_⟩⟩;show _::a.defers=_;rw [hdf]
 refine (wpIn_wide (n:=8)).1 (wpIn_rangeFunc_ownH (F:=Fence.wide) rfl dC (gf:=169) (lb:= #[.pointer (some ⟨g,0,none⟩)]) hev trivial (call169) hseq KpB.trans ?hKb (Below.refl _ _) (fun _=>rfl)
  (fun pre W=>(∀k∈pre,(SD xs k.1).1=true)∧BkI xs w (fun b=>F 18 b) b18 pre W)
  (fun c pre W=>(c= .exit 5∧∃pre0 x,pre=pre0++[x]∧(∀k∈pre0,(SD xs k.1).1=true)∧(SD xs x.1).1=false)∧BkI xs w (fun b=>F 18 b) b18 pre W)
  (BkI.from hb18l _) (fun c=>BkI.from hb18l _) ?h0
  (fun x a' W=>∃h10:Value,W.ownsRow 0 129 4 h10 1 [vs (x.1*4+0),vs (x.1*4+1),vs (x.1*4+2),vs (x.1*4+3)]∧(∀b,h10.ownBlock=some b→w.heap.size≤b)∧a'.tmps[3]? =some (ZD (Zr h3) 0)∧a'.tmps[10]? =some (ZD (Zr h10) 0)∧a'.tmps.size=nt∧a'.defers=[])
  ?hAx ?assign ?body ?done ?stop)
 case hKb=>
  intro W l o o' hl h _ _ p v hp hv;have hlt:=World.block_lt_of_cell? _ _ hv;have hne:l≠p.block:=by rcases hp with hp|hp<;>omega
  have:(W.putObj l o').heap[p.block]? =W.heap[p.block]? :=by simp [World.putObj,Ux,hne]
  exact (World.cell?_of_block this).trans hv
 case h0=>exact ⟨fun _ h=>by simp at h,[],es0,ck0,X6,fun s=>sM,Chg.rfl' _ _,hb18,hW0,hkv0⟩
 case hAx=>
  rintro x a' s W W' row ⟨h10,h1,h2,h3',h4,h5,h6⟩ hg hr;refine ⟨h10,ZkP (N:=fun b=>some b=row) ⟨hg.os,hg.tape,hg.output,hg.size,fun k hk hn=>hg.block k hk hn⟩ h1 fun b hb e=>?_,h2,h3',h4,h5,h6⟩;obtain ⟨o,ho,hc'⟩:=Zbj h1 hb;obtain ⟨_,o',ho',hc''⟩:=hr b e.symm;rw [ho] at ho';cases ho';rw [hc'] at hc'';cases hc''
 case assign=>
  have etm:∀x:{k:Nat//k<xs.length},((#[81,82]:Array Nat).zip (ZmU (fun k j=>vs (k*4+j)) x.1)).foldl (fun t (p,v)=>t.setIfInBounds p v) a.tmps=(a.tmps.setIfInBounds 81 (.int .i64 x.1)).setIfInBounds 82 (.agg #[vs (x.1*4+0),vs (x.1*4+1),vs (x.1*4+2),vs (x.1*4+3)]):=fun x=>by unfold ZmU;simp
  rintro l pre x W K ⟨hn,ks,es,ck,k1,k2,k3,k4,k5,k6⟩ hK;rw [etm x];have hQ:¬LetsOut (Exit.then K (fun _ _ _=>False)):=by rintro ⟨_,_,h⟩;exact h
  refine Di (c:=⟨W,fun _=>False,fun _=>False,nt,False,[]⟩) (st:=⟨[(3,ZD (Zr h3) 0, .val (ZD (Zr h3) 0)),(82, .agg #[vs (x.1*4+0),vs (x.1*4+1),vs (x.1*4+2),vs (x.1*4+3)], .agg [.val (vs (x.1*4+0)), .val (vs (x.1*4+1)), .val (vs (x.1*4+2)), .val (vs (x.1*4+3))])],[]⟩) hQ hda
   (hA W _ _ _ _ _ _ _ _ (hone x 0 dC) (hone x 1 dC) (hone x 2 dC) (hone x 3 dC) fun h10 a' W' ⟨F',H'⟩=>?_) _ W ⟨fun _ _=>False,⟨⟨fun l v p h=>by simp [lk] at h,fun l x b h=>by simp [lk] at h,fun l l' x x' b _ h=>by simp [lk] at h,htab W k3 _ (fun _ h=>h.elim),Chg.rfl' _ _,fun h=>h.elim⟩,fun t v p ht=>?_,?_,rfl⟩⟩
  · have hch:Chg (fun _=>False) W W':=H'.ext;obtain ⟨ys,Fs,hrow,hlen,hTr,_,_,hFF⟩:=(H'.tr 10 _ _ rfl).row;have hys:ys=[vs (x.1*4+0),vs (x.1*4+1),vs (x.1*4+2),vs (x.1*4+3)]:=by
     have hv:∀i u q,ys[i]? =some u→([PV.val (vs (x.1*4+0)), .val (vs (x.1*4+1)), .val (vs (x.1*4+2)), .val (vs (x.1*4+3))]:List PV)[i]? =some (PV.val q)→u=q:=fun i u q h1 h2=>by
      have h3:=(hTr i u _ h1 h2).sh rfl
      cases h3;rfl
     match ys,hlen with
     |[y0,y1,y2,y3],_=>rw [hv 0 y0 _ rfl rfl,hv 1 y1 _ rfl rfl,hv 2 y2 _ rfl rfl,hv 3 y3 _ rfl rfl]
    rw [hys] at hrow;refine hK a' W' (Zbk hch fun _ h=>h.elim) (ZhM hch (fun h=>h) (fun h=>h)) ⟨hn,ks,es,ck,k1,k2,k3.tr hch (fun _ h=>h.elim),(hch.block b18 (Y8 k4) (fun h=>h)).trans k4,k5,k6⟩ ⟨h10,hrow,fun b' hb'=>?_,(H'.sl 3 _ _ rfl).1,(H'.sl 10 _ _ rfl).1,H'.size,H'.df⟩;have h7:F' 10 b':=(hFF b').2 (.inl hb');rcases H'.lo 10 _ b' rfl h7 with h8|h8
    · exact XJ k3.size h8
    · exact h8.elim
  · simp only [lk] at ht
    cases hb3:Nat.beq 3 t
    · rw [hb3,cond_false] at ht
      cases hb4:Nat.beq 82 t
      · rw [hb4] at ht;cases ht
      · rw [hb4,cond_true] at ht
        cases ht;obtain rfl:=XK hb4;refine ⟨?_, .agg [vs (x.1*4+0),vs (x.1*4+1),vs (x.1*4+2),vs (x.1*4+3)] _ rfl fun i u q h1 h2=>?_⟩
        · show ((a.tmps.setIfInBounds 81 _).setIfInBounds 82 _)[82]? =_;rw [Ux,Qb rfl,Qb (by rw [U7,H.size];exact hnt)]
        · match i,h1,h2 with
          |0,h1,h2=>cases h1;cases h2;exact .val _
          |1,h1,h2=>cases h1;cases h2;exact .val _
          |2,h1,h2=>cases h1;cases h2;exact .val _
          |3,h1,h2=>cases h1;cases h2;exact .val _
          |i+4,h1,h2=>simp at h1
    · rw [hb3,cond_true] at ht
      cases ht;obtain rfl:=XK hb3;refine ⟨?_, .val _⟩;show ((a.tmps.setIfInBounds 81 _).setIfInBounds 82 _)[3]? =_;rw [Ux,Qa dC,Ux,Qa dC];exact (H.sl 3 _ _ hs3).1
  · show ((a.tmps.setIfInBounds 81 _).setIfInBounds 82 _).size=nt;rw [U7,U7,H.size]
 case body =>
  rintro l pre x a' W hl _ ⟨hn,ks,es,ck,k1,k2,k3,k4,k5,k6⟩ ⟨h10,r1,r2,r3,r4,r5,r6⟩ _;have hQ:¬LetsOut (ownPostG w.heap.size (KpB g b) (fun pre W=>(∀k∈pre,(SD xs k.1).1=true)∧BkI xs w (fun b=>F 18 b) b18 pre W) (fun c pre W=>(c= .exit 5∧∃pre0 x,pre=pre0++[x]∧(∀k∈pre0,(SD xs k.1).1=true)∧(SD xs x.1).1=false)∧BkI xs w (fun b=>F 18 b) b18 pre W) (pre++[x]) W):=by rintro ⟨_,_,h⟩;exact h
  obtain ⟨y,hy,hye,hyp⟩:=hxk x;let Fb:Nat→BS:=fun t b'=>if t=1000 then F 18 b' else if t=10 then h10.ownBlock=some b' else False;let Nb:BS:=fun b'=>F 18 b'∨h10.ownBlock=some b';have hmof:∀b',mof ⟨W,fun _=>False,Nb,nt,False,[]⟩ [(1000,(m18,PV.omap (skv (Wp ks)))),(10,(h10, .own 129 4 1 (cFx y)))] Fb b'→F 18 b'∨h10.ownBlock=some b':=by
   rintro b' (h|⟨t,e,h1,h2⟩)
   · exact h.elim
   · show Nb b';simp only [Fb] at h2;split at h2
     · exact .inl h2
     · split at h2
       · exact .inr h2
       · exact h2.elim
  have hlow:∀b',b'<w.heap.size→mof ⟨W,fun _=>False,Nb,nt,False,[]⟩ [(1000,(m18,PV.omap (skv (Wp ks)))),(10,(h10, .own 129 4 1 (cFx y)))] Fb b'→mof ⟨w0,M0,N0,nt,False,[]⟩ hP F b':=fun b' hlt hb'=>by
   rcases hmof b' hb' with h|h
   · exact hin b' h
   · have:=r2 b' h;omega
  have hgx:¬Nb g:=fun h=>h.elim hgb fun h=>by have:=r2 g h;omega
  have hbx:¬Nb b:=fun h=>h.elim hbb fun h=>by have:=r2 b h;omega
  have hkeep:∀W',Chg Nb W W'→KeepsFrom w.heap.size W W'∧KpB g b W W'∧Chg (fun b=>F 18 b) w W':=fun W' hch=>⟨Zbk hch fun q hq hB=>by
   rcases hq with hq|hq
   · rw [hF18] at hq;omega
   · exact Zbj r1 hq,ZhM hch hgx hbx,k3.tr hch fun q hq=>hq.imp id fun hq=>r2 q hq⟩
  obtain ⟨zs,Gs,zrow,zlen,zTr,_,_,zF⟩:=(H.tr 3 _ _ hh3).row;have hh3s:∃g3 cap,h3= .slice (some ⟨g3,0,none⟩) 1 cap:=by
   rcases Wu zrow with ⟨_,h,_⟩|⟨g3,cap,h,_⟩
   · omega
   · exact ⟨g3,cap,h⟩
  obtain ⟨g3,cap3,rfl⟩:=hh3s;have hg3:F 3 g3:=(zF g3).2 (.inl rfl);have hg3l:g3<w.heap.size:=(H.tr 3 _ _ hh3).lt g3 hg3;have hg318:¬F 18 g3:=fun h=>H.dj 18 3 _ _ g3 dC hh18 hh3 h hg3;have hout:Shr (mof ⟨W,fun _=>False,Nb,nt,False,[]⟩ [(1000,(m18,PV.omap (skv (Wp ks)))),(10,(h10, .own 129 4 1 (cFx y)))] Fb) W (ZD (Zr (.slice (some ⟨g3,0,none⟩) 1 cap3)) 0) (.sptr 0 [Zv N, .val m17, .val m18,Zc S]):=by
   refine .sptr g3 0 0 [Zv N, .val m17, .val m18,Zc S] (fun i=>(zs[i]?).getD undef) (fun i hi=>?_) fun i q hq=>?_
   · obtain ⟨z,hz⟩:=Yl (show i<zs.length by rw [←zlen];exact hi);refine ⟨?_,fun h=>?_⟩
     · rw [XE,hz];have hblk:W.heap[g3]? =w.heap[g3]? :=k3.block g3 hg3l hg318;exact (World.cell?_of_block (a:=⟨g3,i,none⟩) hblk).trans (KG zrow hz)
     · rcases hmof g3 h with h|h
       · exact hg318 h
       · have:=r2 g3 h;omega
   · obtain ⟨z,hz⟩:=YB hq zlen;have hs:GU q=true:=by
      match i,hq with
      |0,hq=>cases hq;rfl
      |1,hq=>cases hq;rfl
      |2,hq=>cases hq;rfl
      |3,hq=>cases hq;rfl
      |i+4,hq=>simp at hq
     simp only [hz,Uk];exact ((zTr i z q hz hq).sh hs).to k3 (fun q _ hq=>hin q hq) (fun q hq h=>hlow q hq h)
  have hHold:HoldsF ⟨W,fun _=>False,Nb,nt,False,[]⟩ ⟨[(3,ZD (Zr (.slice (some ⟨g3,0,none⟩) 1 cap3)) 0, .sptr 0 [Zv N, .val m17, .val m18,Zc S]),(10,ZD (Zr h10) 0, .val (ZD (Zr h10) 0))],[(1000,m18, .omap (skv (Wp ks))),(10,h10, .own 129 4 1 (cFx y))]⟩ Fb a' W:=by
   refine ⟨⟨fun t v p ht=>?_,fun t e b' ht hb'=> .inr ?_,fun t t' e e' b' hne ht ht' hb' hb''=>?_,htab W k3 _ (fun q hq=>hq.imp id fun hq=>r2 q hq),Chg.rfl' _ _,fun h=>h.elim⟩,fun t v p ht=>?_,r5,r6⟩
   · simp only [lk] at ht
     cases hb3:Nat.beq 1000 t
     · rw [hb3,cond_false] at ht
       cases hb4:Nat.beq 10 t
       · rw [hb4] at ht;cases ht
       · rw [hb4,cond_true] at ht
         cases ht;obtain rfl:=XK hb4;refine .own _ (fun _ _=>False) r1 rfl (fun i u p hu hp=> .shr ?_ (fun _ h=>h)) (fun _ _ _ _ _ _ h=>h.elim) (fun _ _ _ h=>h.elim) (fun q=>by simp [Fb]);have hj:=(hyp i p hp).2;have hu':u=vs (x.1*4+i):=by
          match i,hj,hu with
          |0,_,hu=>cases hu;rfl
          |1,_,hu=>cases hu;rfl
          |2,_,hu=>cases hu;rfl
          |3,_,hu=>cases hu;rfl
         rw [hu'];exact (hT _ _ (hyp i p hp).1).to k3 (fun q _ hq=>hin q hq) (fun q hq h=>hlow q hq h)
     · rw [hb3,cond_true] at ht
       cases ht;obtain rfl:=XK hb3;rw [hm18,←k6];exact .omap b18 es ck k4 (fun q=>by simp [Fb,hF18]) k5
   · have:=hmof b' (.inr ⟨t,e,ht,hb'⟩);exact this
   · have key:∀t,lk [(1000,(m18,PV.omap (skv (Wp ks)))),(10,(h10, .own 129 4 1 (cFx y)))] t≠none→t=1000∨t=10:=fun t h=>by
      simp only [lk] at h
      cases hb3:Nat.beq 1000 t
      · rw [hb3,cond_false] at h
        cases hb4:Nat.beq 10 t
        · rw [hb4] at h;exact Qc rfl h
        · exact .inr (XK hb4).symm
      · exact .inl (XK hb3).symm
     have h1:=key t (by rw [ht];simp);have h2:=key t' (by rw [ht'];simp);have hap:∀q,F 18 q→h10.ownBlock=some q→False:=fun q h1 h2=>by
      have:=r2 q h2;rw [hF18] at h1;omega
     rcases h1 with rfl|rfl
     · rcases h2 with rfl|rfl
       · exact hne rfl
       · exact hap b' (by simpa [Fb] using hb') (by simpa [Fb] using hb'')
     · rcases h2 with rfl|rfl
       · exact hap b' (by simpa [Fb] using hb'') (by simpa [Fb] using hb')
       · exact hne rfl
   · simp only [lk] at ht
     cases hb3:Nat.beq 3 t
     · rw [hb3,cond_false] at ht
       cases hb4:Nat.beq 10 t
       · rw [hb4] at ht;cases ht
       · rw [hb4,cond_true] at ht
         cases ht;obtain rfl:=XK hb4;exact ⟨r4, .val _⟩
     · rw [hb3,cond_true] at ht
       cases ht;obtain rfl:=XK hb3;exact ⟨r3,hout⟩
  refine hB W _ Nb l _ _ ks y h10 _ k1 hQ (fun ms sL' hms hmm=>?_) a' W ⟨Fb,hHold⟩;have hnew:∀W'',Chg Nb W W''→(∃es ck,W''.heap[b18]? =some (.map es ck)∧WfM es ck∧kvOf es=skv (Wp ms))→BkI xs w (fun b=>F 18 b) b18 (pre++[x]) W'':=fun W'' hch ⟨es',ck',m1,m2,m3⟩=>⟨ms,es',ck',hms,fun s=>by
   rw [hmm,k2];constructor
   · rintro (⟨q,hq,h⟩|h)
     · exact ⟨q,List.mem_append_left _ hq,h⟩
     · exact ⟨x,sM,by rw [hye];exact h⟩
   · rintro ⟨q,hq,h⟩;rcases Xd.1 hq with hq|hq
     · exact .inl ⟨q,hq,h⟩
     · rw [Xn] at hq;subst hq;rw [hye] at h;exact .inr h,(hkeep W'' hch).2.2,m1,m2,m3⟩
  have hend:∀(a'':Act) (W'':World),Holds ⟨W,fun _=>False,Nb,nt,False,[]⟩ ⟨sL',[(1000,m18, .omap (skv (Wp ms)))]⟩ a'' W''→Chg Nb W W''∧∃es ck,W''.heap[b18]? =some (.map es ck)∧WfM es ck∧kvOf es=skv (Wp ms):=fun a'' W'' ⟨F'',H''⟩=>by
   obtain ⟨b2,es2,ck2,e1,e2,_,e3,e4⟩:=Zec (H''.tr 1000 _ _ rfl);rw [hm18] at e1
   cases e1;exact ⟨H''.ext,es2,ck2,e2,e3,e4⟩
  constructor
  · intro hnul a'' W'' Hh;obtain ⟨h1,h2⟩:=hend a'' W'' Hh;obtain ⟨h4,h5,h6⟩:=hkeep W'' h1;refine ⟨h4,h5,fun q hq=>?_,hnew W'' h1 h2⟩;rcases Xd.1 hq with hq|hq
    · exact hn q hq
    · rw [Xn] at hq;subst hq;rw [hye];exact hnul
  · intro hnul a'' W'' Hh;obtain ⟨h1,h2⟩:=hend a'' W'' Hh;obtain ⟨h4,h5,h6⟩:=hkeep W'' h1;exact ⟨h4,⟨rfl,pre,x,rfl,hn,by rw [hye];exact hnul⟩,hnew W'' h1 h2⟩
 case done=>
  rintro D ys W hD hS ⟨hn,hI⟩ hDW;exact hfin D W ys hD hDW hI (fun s=>Zm4 hS hn s)
 case stop=>
  rintro D cd pre W hD ⟨n,hn0,hS⟩ ⟨⟨rfl,pre0,x,rfl,hn,hx⟩,hI⟩ hDW;exact wpIn_exit (hfin D W _ hD hDW hI (fun s=>Zj3 hn0 hS hn hx s))
theorem Z':AggT prog 129 4=true:=kR
theorem Dj:AggT prog 24 3=true:=kR
theorem ζR:ElT prog 166 129 4 32 (.agg #[(.bool false),(.map none),(.map none),(.int .i64 0)]):=⟨underlying166,by kernel_rfl,rfl,dC⟩
theorem Yo:FldT prog 129 0 0=true:=kR
theorem WK:FldT prog 129 1 1=true:=kR
theorem Ku:FldT prog 129 2 2=true:=kR
theorem YI:FldT prog 129 3 3=true:=kR
theorem Zed:FldT prog 24 0 0=true:=kR
theorem EN:FldT prog 24 1 1=true:=kR
theorem Zee:FldT prog 24 2 2=true:=kR
theorem Zbl:MpT prog 88 9 4 .string (.bool false):=⟨underlying88,underlying9, .inl rfl,by show ZeroT _ _ _;unfold ZeroT;kernel_rfl⟩
theorem Zj5:NoAgg prog 22=true:=kR
theorem WW:NoAgg prog 3=true:=kR
theorem WL:NoAgg prog 4=true:=kR
theorem Y6:NoAgg prog 88=true:=kR
theorem Zef:NoAgg prog 9=true:=kR
theorem JF:SlT prog 166 129 4=true:=kR
theorem Zbm:SlT prog 22 24 3=true:=kR
theorem Zgb:J2 prog 129=some ((.agg #[(.bool false),(.map none),(.map none),(.int .i64 0)]),([0,1,2,3]:List Nat).map fun o=>(o,1)):=kR
theorem SE:(prog.info? 3).map (·.size)=some 1:=kR
theorem TL:(prog.info? 4).map (·.size)=some 1:=kR
theorem JG:ZeroT prog 129 (.agg #[(.bool false),(.map none),(.map none),(.int .i64 0)]):=by unfold ZeroT;kernel_rfl
theorem Zj6:ZeroT prog 24 (.agg #[(.int .i64 0),(.string ByteArray.empty),(.slice none 0 0)]):=by unfold ZeroT;kernel_rfl
structure FxOk (x:Fx) (t:Nd):Prop where
 nul:x.nul=nulT t
 sho:x.sho=shoT t
 fn:x.fs.Nodup
 ln:x.ls.Nodup
 fm:∀s,s∈x.fs↔s∈edgT false t
 lm:∀s,s∈x.ls↔s∈edgT true t
def FacsOk (l:List Nd) (xs:List Fx):Prop:=xs.length≤l.length∧∀(j:Nat) (x:Fx) (t:Nd),xs[j]? =some x→l[j]? =some t→FxOk x t
theorem FacsOk.snoc {l:List Nd} {xs:List Fx} {x:Fx} {t:Nd} (h:FacsOk l xs) (ht:l[xs.length]? =some t) (hx:FxOk x t):FacsOk l (xs++[x]):=by
 refine ⟨by rw [Xf,XF];exact Zd ht,fun j y u hy hu=>?_⟩
 rcases VG j xs.length with h1|h1|h1
 · rw [X0 h1] at hy;exact h.2 j y u hy hu
 · subst h1;rw [X' (Xe _)] at hy;rw [Vm] at hy
   cases hy;rw [ht] at hu;cases hu;exact hx
 · rw [Vo (by rw [Xf,XF];omega)] at hy;cases hy
theorem T8 (x:Fx):(cFx x).length=4:=rfl
theorem ZpB (xs:List Fx) (x:Fx):PV.own 129 4 (xs.length+1) (xs.flatMap cFx++cFx x)= .own 129 4 (xs++[x]).length ((xs++[x]).flatMap cFx):=by
 rw [Xf,XF,XT];simp
def Zeg (o:Int) (bs:List Bool):Bool:=if o=2 then true else if o=1 then false else if o=6 then bs.headD false else if o=4 then bs.any id else bs.all id
def Zeh (o:Int) (ns:List Int):Int:=if o=2 then 0 else if o=1 then 1 else if o=6 then ns.headD 0 else if o=4 then (match ns with|[]=>0|n::m=>m.foldl min n) else ns.foldl (· + ·) 0
def fstX (xs:List Fx):List (Bool×List BA):=xs.map fun x=>(x.nul,x.fs)
def lstX (xs:List Fx):List (Bool×List BA):=xs.map fun x=>(x.nul,x.ls)
inductive AlkE:List (Bool×List BA)→List (Bool×List BA)→Prop
 |nil:AlkE [] []
 |cons {b:Bool} {e e':List BA} {m m':List (Bool×List BA)} (h:∀s,s∈e↔s∈e') (k:AlkE m m'):AlkE ((b,e)::m) ((b,e')::m')
theorem AlkE.app {a a' b b':List (Bool×List BA)} (h:AlkE a a') (k:AlkE b b'):AlkE (a++b) (a'++b'):=by
 induction h with
 |nil=>exact k
 |cons h1 _ ih=>exact .cons h1 ih
theorem AlkE.rev {a a':List (Bool×List BA)} (h:AlkE a a'):AlkE a.reverse a'.reverse:=by
 induction h with
 |nil=>exact .nil
 |cons h1 _ ih=>rw [List.reverse_cons,List.reverse_cons];exact ih.app (.cons h1 .nil)
theorem AlkE.seq {a a':List (Bool×List BA)} (h:AlkE a a'):∀s,s∈seqE a↔s∈seqE a':=by
 induction h with
 |nil=>exact fun _=>Iff.rfl
 | @cons b e e' m m' h1 _ ih=>
   intro s;show s∈e++(if b=true then seqE m else [])↔s∈e'++(if b=true then seqE m' else []);rw [Xd,Xd,h1]
   cases b
   · exact Iff.rfl
   · rw [Qb rfl,Qb rfl,ih]
theorem AlkE.flat {a a':List (Bool×List BA)} (h:AlkE a a'):∀s,s∈a.flatMap (·.2)↔s∈a'.flatMap (·.2):=by
 induction h with
 |nil=>exact fun _=>Iff.rfl
 |cons h1 _ ih=>intro s;rw [Xv,Xv,Xd,Xd,ih,h1]
theorem AlkE.lop {a a':List (Bool×List BA)} (h:AlkE a a'):∀s,s∈Zbi a↔s∈Zbi a':=by
 cases h with
 |nil=>exact fun _=>Iff.rfl
 | @cons b e e' m m' h1 k=>
   cases k with
   |nil=>exact fun _=>Iff.rfl
   | @cons b2 e2 e2' _ _ h2 _=>
     intro s;show s∈e++(if b=true then e2 else [])↔s∈e'++(if b=true then e2' else []);rw [Xd,Xd,h1]
     cases b
     · exact Iff.rfl
     · rw [Qb rfl,Qb rfl,h2]
theorem AlkE.op {a a':List (Bool×List BA)} (h:AlkE a a') (last:Bool) (o:Int) (x:BA):∀s,s∈opE last o x a↔s∈opE last o x a':=fun s=>by
 unfold opE
 split
 · exact Iff.rfl
 split
 · exact Iff.rfl
 split
 · exact h.lop s
 split
 · cases last
   · exact h.seq s
   · exact h.rev.seq s
 · exact h.flat s
theorem FacsOk.all:∀{l:List Nd} {xs:List Fx},FacsOk l xs→xs.length=l.length→xs.map (·.nul)=l.map nulT∧xs.map (·.sho)=l.map shoT∧AlkE (fstX xs) (l.map fun x=>(nulT x,edgT false x))∧AlkE (lstX xs) (l.map fun x=>(nulT x,edgT true x))
 |[],[],_,_=>⟨rfl,rfl, .nil, .nil⟩
 |[],_::_,_,h=>by simp at h
 |_::_,[],_,h=>by simp at h
 | t ::l,x::xs,h,hl=>by
   have h0:=h.2 0 x t rfl rfl;obtain ⟨i1,i2,i3,i4⟩:=FacsOk.all (l:=l) (xs:=xs) ⟨by simpa using h.1,fun j y u hy hu=>h.2 (j+1) y u (by rw [VO];exact hy) (by rw [VO];exact hu)⟩ (by simpa using hl);refine ⟨by rw [Xj,Xj,i1,h0.nul],by rw [Xj,Xj,i2,h0.sho],?_,?_⟩
   · show AlkE ((x.nul,x.fs)::fstX xs) ((nulT t,edgT false t)::_);rw [h0.nul];exact .cons h0.fm i3
   · show AlkE ((x.nul,x.ls)::lstX xs) ((nulT t,edgT true t)::_);rw [h0.nul];exact .cons h0.lm i4
theorem Dk {o:Int} {a:BA} {l:List Nd} {xs:List Fx} (hX:FacsOk l xs) (hlen:xs.length=l.length) {N:Bool} {F L:List BA} {s:Int} (hF:F.Nodup) (hL:L.Nodup) (hN:N=Zeg o (xs.map (·.nul))) (hs:s=Zeh o (xs.map (·.sho)))
 (hFm:∀t,t∈F↔t∈opE false o a (fstX xs)) (hLm:∀t,t∈L↔t∈opE true o a (lstX xs)):FxOk ⟨N,F,L,s⟩ (.mk o a l):=by
 obtain ⟨h1,h2,h3,h4⟩:=hX.all hlen
 refine ⟨?_,?_,hF,hL,fun t=>?_,fun t=>?_⟩
 · show N=_;rw [hN,Zm0,h1];rfl
 · show s=_;rw [hs,Zm1,h2];rfl
 · show t∈F↔_;rw [hFm,ζN];exact h3.op false o a t
 · show t∈L↔_;rw [hLm,ζN];exact h4.op true o a t
theorem Zbn {a:List (Bool×List BA)} {b:Bool} {e:List BA} (s:BA):s∈seqE (a++[(b,e)])↔s∈seqE a∨(a.all (·.1)=true∧s∈e):=by
 rw [Zm3]
 show _∨(_∧s∈e++(if b=true then [] else []))↔_
 cases b<;>simp
theorem LP:∀l:List Nd,l.length≤szL l
 |[]=>Xg _
 | x::l=>by
   have h1:=LP l;have h2:1≤szT x:=by cases x;rw [szT];omega
   rw [szL,Xl];omega
theorem Zm5 (n:Nat) (xs:List Fx) (hn:n=xs.length):share (.own 129 4 n (xs.flatMap cFx))= .sl xs.length (xs.flatMap cFx):=by
 subst hn
 rw [share,Z7,Uw];rfl
theorem ζS {xs:List Fx} {i:Nat} {x:Fx} (h:xs[i]? =some x):fstX (xs.take (i+1))=fstX (xs.take i)++[(x.nul,x.fs)]:=by unfold fstX;rw [Zw h,XC];rfl
theorem Zm6 {xs:List Fx} {i:Nat} {x:Fx} (h:xs[i]? =some x):lstX (xs.take (i+1))=lstX (xs.take i)++[(x.nul,x.ls)]:=by unfold lstX;rw [Zw h,XC];rfl
theorem ζT {a:List (Bool×List BA)} {b:Bool} {e:List BA} (s:BA):s∈(a++[(b,e)]).flatMap (·.2)↔s∈a.flatMap (·.2)∨s∈e:=by rw [XT,Xd];simp
theorem ZhN (xs:List Fx):(fstX xs).all (·.1)=(xs.map (·.nul)).all id:=by unfold fstX;rw [VF,VF];rfl
theorem ZhO {l:List Nd} {xs:List Fx} (hX:FacsOk l xs) (hlen:xs.length=l.length) (i:Nat):0≤((xs.take i).map (·.sho)).foldl (· + ·) (0:Int)∧((xs.take i).map (·.sho)).foldl (· + ·) (0:Int)≤szL l:=by
 rw [List.map_take,(hX.all hlen).2.1,←List.map_take]
 have hsum:∀(m:List Nd) (k:Int),0≤k→k≤(m.map shoT).foldl (· + ·) k∧(m.map shoT).foldl (· + ·) k≤k+(szL m:Int):=fun m=>by
  induction m with
  |nil=>intro k hk;rw [szL];simp
  | cons x m ih=>
    intro k hk;have h1:=Zm2 x;have:=ih (k+shoT x) oM;rw [szL,Xj,Vg];omega
 have h1:=hsum (l.take i) 0 (Int.le_refl _)
 have h2:szL (l.take i)≤szL l:=by
  clear h1 hsum hX hlen;induction l generalizing i with
  |nil=>simp
  | cons x l ih=>
    cases i with
    |zero=>rw [XM,szL];omega
    |succ i=>rw [Uv,szL,szL];have:=ih i;omega
 omega
theorem Zqt {l:List Nd} {xs:List Fx} (hX:FacsOk l xs) {i:Nat} {x:Fx} (hx:xs[i]? =some x) (hlen:xs.length=l.length):0≤x.sho∧x.sho≤szL l:=by
 obtain ⟨t,ht⟩:=get_some (show i<l.length by rw [←hlen];exact Zd hx)
 have h1:=hX.2 i x t hx ht
 have h2:=Zm2 t
 have h3:=Jh (Xc ht)
 rw [h1.sho];omega
structure MixI (xs:List Fx) (i:Nat) (F L:List BA):Prop where
 le:i≤xs.length
 fn:F.Nodup
 ln:L.Nodup
 fm:∀s,s∈F↔s∈(fstX (xs.take i)).flatMap (·.2)
 lm:∀s,s∈L↔s∈(lstX (xs.take i)).flatMap (·.2)
theorem MixI.step {xs:List Fx} {i:Nat} {F L F' L':List BA} {x:Fx} (h:MixI xs i F L) (hx:xs[i]? =some x) (f1:F'.Nodup) (f2:∀s,s∈F'↔s∈F∨s∈x.fs) (l1:L'.Nodup) (l2:∀s,s∈L'↔s∈L∨s∈x.ls):MixI xs (i+1) F' L':=
 ⟨Zd hx,f1,l1,fun s=>by rw [f2,h.fm,ζS hx,ζT],fun s=>by rw [l2,h.lm,Zm6 hx,ζT]⟩
theorem MixI.zero (xs:List Fx):MixI xs 0 [] []:=⟨Xg _,X6,X6,fun s=>by rw [XM];exact Iff.rfl,fun s=>by rw [XM];exact Iff.rfl⟩
theorem MixI.all {xs:List Fx} {i:Nat} {F L:List BA} (h:MixI xs i F L) (hi:xs.length≤i):(∀s,s∈F↔s∈(fstX xs).flatMap (·.2))∧∀s,s∈L↔s∈(lstX xs).flatMap (·.2):=by
 have:=h.fm
 have h2:=h.lm
 rw [Xq hi] at this h2
 exact ⟨this,h2⟩
structure SeqI (xs:List Fx) (i:Nat) (F:List BA):Prop where
 le:i≤xs.length
 fn:F.Nodup
 fm:∀s,s∈F↔s∈seqE (fstX (xs.take i))
theorem SeqI.zero (xs:List Fx):SeqI xs 0 []:=⟨Xg _,X6,fun s=>by rw [XM];exact Iff.rfl⟩
theorem SeqI.yes {xs:List Fx} {i:Nat} {F F':List BA} {x:Fx} (h:SeqI xs i F) (hx:xs[i]? =some x) (hN:((xs.take i).map (·.nul)).all id=true) (f1:F'.Nodup) (f2:∀s,s∈F'↔s∈F∨s∈x.fs):SeqI xs (i+1) F':=
 ⟨Zd hx,f1,fun s=>by rw [f2,h.fm,ζS hx,Zbn,ZhN,hN];simp⟩
theorem SeqI.no {xs:List Fx} {i:Nat} {F:List BA} {x:Fx} (h:SeqI xs i F) (hx:xs[i]? =some x) (hN:((xs.take i).map (·.nul)).all id=false):SeqI xs (i+1) F:=
 ⟨Zd hx,h.fn,fun s=>by rw [h.fm,ζS hx,Zbn,ZhN,hN];simp⟩
theorem Ru {xs:List Fx} {i:Nat} {x:Fx} (h:xs[i]? =some x):((xs.take (i+1)).map (·.nul)).all id=(((xs.take i).map (·.nul)).all id&&x.nul):=by rw [Zw h,XC,List.all_append];simp
theorem Zj7 {xs:List Fx} {i:Nat} {x:Fx} (h:xs[i]? =some x):((xs.take (i+1)).map (·.nul)).any id=(((xs.take i).map (·.nul)).any id||x.nul):=by rw [Zw h,XC,VD];simp
theorem Tp {β:Type} (g:β→Int→β) (z:β) {xs:List Fx} {i:Nat} {x:Fx} (h:xs[i]? =some x):((xs.take (i+1)).map (·.sho)).foldl g z=g (((xs.take i).map (·.sho)).foldl g z) x.sho:=by rw [Zw h,XC,Vp];rfl
theorem Ef {o:Int} {a:BA} {l:List Nd} (h:rightT (.mk o a l)=true):(o=1∨o=2→l=[])∧(o=3∨o=4∨o=5→l≠[])∧(o=6→l.length=2)∧(o=1∨o=2∨o=3∨o=4∨o=5∨o=6):=by
 have h:(if o=1 then l.isEmpty&&isName a else if o=2 then l.isEmpty&&decide (a=ByteArray.empty) else if o=3∨o=4∨o=5 then !l.isEmpty&&decide (a=ByteArray.empty) else if o=6 then decide (l.length=2)&&decide (a=ByteArray.empty) else false)=true:=h
 by_cases h1:o=1
 · rw [Qb h1,Xi,UY] at h;exact ⟨fun _=>h.1,fun h=>oM,fun h=>oM,oM⟩
 rw [Qa h1] at h
 by_cases h2:o=2
 · rw [Qb h2,Xi,UY] at h;exact ⟨fun _=>h.1,fun h=>oM,fun h=>oM,oM⟩
 rw [Qa h2] at h
 by_cases h3:o=3∨o=4∨o=5
 · rw [Qb h3] at h;refine ⟨fun h=>oM,fun _ he=>?_,fun h=>oM,oM⟩;subst he;simp at h
 rw [Qa h3] at h
 by_cases h4:o=6
 · rw [Qb h4,Xi] at h;exact ⟨fun h=>oM,fun h=>oM,fun _=>Qd h.1,oM⟩
 · rw [Qa h4] at h;cases h
theorem Zm7 : ∀ (t : Nd), okT t=true→szT t≤1000000→AF prog 87 [pTr t] (fun p=>∃x,FxOk x t∧p= .agg (cFx x)):=Nd.ind fun o a l ih hok hs=>by
 have ea:pTr (.mk o a l)= .agg [Zc o,Zt a,Yt l]:=rfl
 have hsz:szT (.mk o a l)=1+szL l:=by rw [szT]
 have hll:=LP l
 rw [ea]
 refine AF.of_bodyM 198 func87 rfl ntmps87 (Xa rfl) ?_
 intro w0 M0 vs hl hv
 obtain ⟨v0,rfl⟩:=Zij hl
 clear hl hv
 refine Zh ?_
 refine ZV 1 3 fun h1=>?_;refine Zx [(.bool false),(.map none),(.map none),(.int .i64 0)] 4 2 JG fun h2=>?_;refine Yc ?_
 refine JX 17 fun h17 ho17=>?_;refine JX 18 fun h18 ho18=>?_;refine xM (ZX Zgb) ?_;refine Zx [(.bool false),(.map none),(.map none),(.int .i64 0)] 4 3 JG fun h3=>?_;refine Zu (ps:=[Zv false, .val h17, .val h18,Zc 0]) 3 Z' ?_ (h1:=by simp only [VU,List.all_nil,VV,Xi];exact ⟨rfl,ho17,ho18,rfl⟩);refine Yc ?_;refine ZQ ?_
 refine xM (Zb 1 Zee) ?_;refine yU (Ze 1 Zj5) fun v21=>?_;refine xL 22 (Zy Zbm) (xL 23 Za ?_);refine ZF ?_
 refine Zq (Wr 200 129 4 rfl) fun _=>?_
 refine Yd (ι:={q:Nat×Value×List Fx//FacsOk l q.2.2∧q.2.2.length=q.1∧q.2.1.oneCell'=true}) (fun k=>⟨[(1,_,_),(2,_,_),(3,_,_),(17,_,_),(18,_,_),(21,_,_),(22,_,_),(4,k.1.2.1, .val k.1.2.1),(23, .int .i64 k.1.1,Zc k.1.1)],[(1,_,_),(2,_,_),(3,_,_),(17,h17, .omap (skv (Wp []))),(18,h18, .omap (skv (Wp []))),(200,k.1.2.1, .own 129 4 k.1.2.2.length (k.1.2.2.flatMap cFx))]⟩) (fun k=>l.length-k.1.1) ⟨(0, .slice none 0 0,[]),⟨Xg _,fun j x t h=>by simp at h⟩,rfl,rfl⟩ ?_
 rintro ⟨⟨i,hv,xs⟩,hX,hxi,ho⟩
 dsimp only
 dsimp only at hX hxi ho
 have hXl:=hX.1
 have hXc:(xs.flatMap cFx).length=xs.length*4:=Yr T8 xs
 refine Ys ?_ ?_<;>intro hb24
 · (
 obtain ⟨y,hy⟩:=gS l i;have e1:((Z9 l).drop (i*3)).take 3=[Zc y.op,Zt y.act,Yt y.l]:=ZT hy;have e2:=Yg hy;have hym:=Xc hy;have hys:=Jh hym;have hyo:=(Y3.1 hok).2 y hym;refine Zh ?_;refine xM (Zg Zbm) ?_;refine yU (YD Dj) fun v26=>?_;refine Zx zT 3 6 Zj6 fun h6=>?_;refine Zu 6 Dj ?_;refine OX ?_;refine yU (Zj 6 Dj) fun v28=>?_;refine cDx (ι:={x:Fx//FxOk x y}) (p:=fun i=> .agg (cFx i.1)) 29 (cA (call87) ((ih y hym hyo oM).mono fun p ⟨x,h1,h2⟩=>⟨⟨x,h1⟩,h2⟩)) (fun i v29 _=>?_) (fun _=>rfl);obtain ⟨x29,hx29⟩:=i;dsimp only;refine JW 30 ζR fun h30 ho30=>?_;refine WN 200 30 31 ζR fun h31 ho31=>?_;refine Zp (Zz (l:=31) 200 rfl rfl) fun _=>?_;refine Zp (Y1 (l:=200) rfl (ZpB xs x29)) fun _=>?_;refine Wy ?_;refine Yh (
  ⟨(i+1,h31,xs++[x29]),hX.snoc (by rw [hxi];exact hy) hx29,by rw [Xf,XF,hxi],ho31⟩
  ))
 · (
 have hXl2:xs.length=l.length:=oM;refine Zq (En.freeze (l:=200) (t:=4) rfl rfl) fun _=>?_;rw [Zm5 _ _ rfl];have hXs:xs.length≤1000000:=oM;have hcat:=Ef (Y3.1 hok).1;refine Zh ?_;refine xM (Zb 1 Zed) ?_;refine yV (Ze 1 WW) ?_;refine GG ?_ ?_<;>intro hb35
 · (
 (have ho1:o=1:=by simpa using hb35);have hl0:l=[]:=hcat.1 (.inl ho1);have hx0:xs=[]:=XB (by rw [hXl2,hl0];rfl);refine nav ?_;refine We [] [1,3] ?_<;>refine xD 0 rfl (Zb 3 WK) ?_<;>(refine yD 1 rfl (Ze 3 Y6) fun v38 h=>?_;cases h)<;>refine xD 2 rfl (Zb 1 EN) ?_<;>(refine yD 3 rfl (Ze 1 Zef) fun v40 h=>?_;cases h)<;>refine xD 4 rfl (Zb 3 Ku) ?_<;>(refine yD 5 rfl (Ze 3 Y6) fun v42 h=>?_;cases h)<;>refine xD 6 rfl (Zb 1 EN) ?_<;>(refine yD 7 rfl (Ze 1 Zef) fun v44 h=>?_;cases h)<;>(refine aDr 8 fun bk=>?_)<;>(refine L9 17 Zbl ?_;rw [Ho])<;>refine bE bk ?_<;>(refine aDr 9 fun bk=>?_)<;>(refine L9 18 Zbl ?_;rw [Ho])<;>refine bE bk ?_<;>refine Kz ?_;refine Zi ?_;refine xM (Zb 3 YI) ?_;refine GC 3 WW SE ?_;refine ZF ?_;have hfin:FxOk ⟨false,setK [] a,setK [] a,1⟩ (.mk o a l):=by
  refine Dk hX hXl2 (Cc X6 a) (Cc X6 a) ?_ ?_ (fun t=>?_) (fun t=>?_)
  · unfold Zeg;rw [Qa oM,Qb ho1]
  · unfold Zeh;rw [Qa oM,Qb ho1]
  · rw [SA];unfold opE;rw [Qa oM,Qb ho1];simp
  · rw [SA];unfold opE;rw [Qa oM,Qb ho1];simp
 refine Zq (YU (l:=3) (l':=17) (j:=1) rfl rfl rfl rfl) fun _=>?_;refine Zq (YU (l:=3) (l':=18) (j:=2) rfl rfl rfl rfl) fun _=>?_;refine Zi ?_;refine yU (Zj 3 Z') fun v197=>?_;refine Zu 2 Z' ?_;refine ZF ?_
 first|refine Zbg rfl ?_|refine OC 5000 rfl ?_
 exact Z4 (k:=4) 2 results87 ⟨_,hfin,rfl⟩)
 · (
 refine Wa ?_ ?_<;>intro hb46
 · (
 (have ho2:o=2:=by simpa using hb46);have hl0:l=[]:=hcat.1 (.inr ho2);have hx0:xs=[]:=XB (by rw [hXl2,hl0];rfl);refine Zh ?_;refine xM (Zb 3 Yo) ?_;refine GC 3 WL TL ?_;refine ZF ?_;have hfin:FxOk ⟨true,[],[],0⟩ (.mk o a l):=by
  refine Dk hX hXl2 X6 X6 ?_ ?_ (fun t=>?_) (fun t=>?_)
  · unfold Zeg;rw [Qb ho2]
  · unfold Zeh;rw [Qb ho2]
  · unfold opE;rw [Qb ho2]
  · unfold opE;rw [Qb ho2]
 refine Zq (YU (l:=3) (l':=17) (j:=1) rfl rfl rfl rfl) fun _=>?_;refine Zq (YU (l:=3) (l':=18) (j:=2) rfl rfl rfl rfl) fun _=>?_;refine Zi ?_;refine yU (Zj 3 Z') fun v197=>?_;refine Zu 2 Z' ?_;refine ZF ?_
 first|refine Zbg rfl ?_|refine OC 5000 rfl ?_
 exact Z4 (k:=4) 2 results87 ⟨_,hfin,rfl⟩)
 · (
 refine Wa ?_ ?_<;>intro hb49
 · (
 refine nav ?_;(have ho3:o=3:=by simpa using hb49);have hlp:0<l.length:=Vd.2 (hcat.2.1 (.inl ho3));refine Zi ?_;refine xM (Zb 3 Yo) ?_;refine GC 3 WL TL ?_;refine Yc ?_;refine xL 52 Za (xL 53 (Zy JF) (xL 54 Za ?_));refine ZF ?_;refine Yd (ι:={q:Nat×List BA×Bool×Int//SeqI xs q.1 q.2.1∧q.2.2.1=((xs.take q.1).map (·.nul)).all id∧q.2.2.2=((xs.take q.1).map (·.sho)).foldl (· + ·) 0}) (fun k=>⟨[(1,_,_),(2,_,_),(3,_,_),(17,_,_),(18,_,_),(4,_,_),(52,_,_),(53,_,_),(54, .int .i64 k.1.1,Zc k.1.1)],[(1,_,_),(2,_,_),(3,h3, .own 129 4 1 [Zv k.1.2.2.1, .val h17, .val h18,Zc k.1.2.2.2]),(17,h17, .omap (skv (Wp k.1.2.1))),(18,h18, .omap (skv (Wp [])))]⟩) (fun k=>xs.length-k.1.1) ⟨(0,[],true,0),SeqI.zero xs,by rw [XM];rfl,by rw [XM];rfl⟩ ?_;rintro ⟨⟨j,F,N,S⟩,hM,hN,hS⟩;dsimp only;dsimp only at hM hN hS;have hMl:=hM.le;have hMf:=hM.fn;have hSb:=ZhO hX hXl2 j;rw [←hS] at hSb;refine Ys ?_ ?_<;>intro hb55
 · (
 obtain ⟨y,hy⟩:=gS xs j;have e1:((xs.flatMap cFx).drop (j*4)).take 4=[Zv y.nul, .smap (skv (Wp y.fs)), .smap (skv (Wp y.ls)),Zc y.sho]:=Yu (f:=cFx) T8 xs j y hy;have e2:=Y9 (f:=cFx) T8 hy;have hyb:=Zqt hX hy hXl2;refine Zh ?_;refine xM (Zg JF) ?_;refine yU (YD Z') fun v57=>?_;refine Zx [(.bool false),(.map none),(.map none),(.int .i64 0)] 4 8 JG fun h8=>?_;refine Zu 8 Z' ?_;refine Yc ?_;refine xM (Zb 3 Yo) ?_;refine yV (Ze 3 WL) ?_;refine ZR ?_ ?_<;>intro hb59
 · (
 refine Zh ?_;refine xM (Zb 3 WK) ?_;refine yV (Ze 3 Y6) ?_;refine xM (Zb 8 WK) ?_;refine yU (Ze 8 Y6) fun v63=>?_;refine Zp (Zz (l:=17) 1000 rfl rfl) fun _=>?_;refine WA [1,2,3,8,18] 64 (call126) (GO h17 v63 F y.fs hMf) (fun v64 p64 h64 hR64=>?_);obtain ⟨F',hf1,hf2,rfl,rfl,rfl⟩:=hR64;refine Zp (Zz (l:=1000) 17 rfl rfl) fun _=>?_;refine Yc ?_;(refine xM (Zb 3 Yo) ?_<;>refine yV (Ze 3 WL) ?_<;>refine Yv ?_<;>(refine bL 67 (fun hb67=>?_) (fun hb67=>?_)<;>(first|refine kL ?_|refine xM (Zb 8 Yo) ?_))<;>(first|refine kL ?_|refine yV (Ze 8 WL) ?_)<;>refine xL 70 GW (xL 71 (Zb 3 Yo) ?_)<;>refine GC 3 WL TL ?_<;>refine ZF ?_)<;>(
 refine Zi ?_;refine xM (Zb 3 YI) ?_;refine yV (Ze 3 WW) ?_;refine xM (Zb 8 YI) ?_;refine yV (Ze 8 WW) ?_;refine xL 76 Eu (xL 77 (Zb 3 YI) ?_);refine GC 3 WW SE ?_;refine GF ?_
 first
  | (exact Zm (
      ⟨(j+1,F',_,_),hM.yes hy (by rw [←hN];simpa using hb59) hf1 hf2,(by dsimp only;rw [Ru hy,←hN];first|(rw [hb67];rfl)|(simp at hb67;simp [hb67])),(by dsimp only;rw [Tp (· + ·) 0 hy,←hS])⟩
      ) (by dsimp only;omega) ⟨rfl,rfl,rfl,rfl,rfl,rfl,rfl,rfl,rfl,trivial⟩ ⟨rfl,rfl,rfl,rfl,rfl,trivial⟩)
  | (exact Zm (
      ⟨(j+1,F,_,_),hM.no hy (by rw [←hN];simpa using hb59),(by dsimp only;rw [Ru hy,←hN];first|(rw [hb67];rfl)|(simp at hb67;simp [hb67])),(by dsimp only;rw [Tp (· + ·) 0 hy,←hS])⟩
      ) (by dsimp only;omega) ⟨rfl,rfl,rfl,rfl,rfl,rfl,rfl,rfl,rfl,trivial⟩ ⟨rfl,rfl,rfl,rfl,rfl,trivial⟩)))
 · (
 refine Zh ?_;(refine xM (Zb 3 Yo) ?_<;>refine yV (Ze 3 WL) ?_<;>refine Yv ?_<;>(refine bL 67 (fun hb67=>?_) (fun hb67=>?_)<;>(first|refine kL ?_|refine xM (Zb 8 Yo) ?_))<;>(first|refine kL ?_|refine yV (Ze 8 WL) ?_)<;>refine xL 70 GW (xL 71 (Zb 3 Yo) ?_)<;>refine GC 3 WL TL ?_<;>refine ZF ?_)<;>(
 refine Zi ?_;refine xM (Zb 3 YI) ?_;refine yV (Ze 3 WW) ?_;refine xM (Zb 8 YI) ?_;refine yV (Ze 8 WW) ?_;refine xL 76 Eu (xL 77 (Zb 3 YI) ?_);refine GC 3 WW SE ?_;refine GF ?_
 first
  | (exact Zm (
      ⟨(j+1,F',_,_),hM.yes hy (by rw [←hN];simpa using hb59) hf1 hf2,(by dsimp only;rw [Ru hy,←hN];first|(rw [hb67];rfl)|(simp at hb67;simp [hb67])),(by dsimp only;rw [Tp (· + ·) 0 hy,←hS])⟩
      ) (by dsimp only;omega) ⟨rfl,rfl,rfl,rfl,rfl,rfl,rfl,rfl,rfl,trivial⟩ ⟨rfl,rfl,rfl,rfl,rfl,trivial⟩)
  | (exact Zm (
      ⟨(j+1,F,_,_),hM.no hy (by rw [←hN];simpa using hb59),(by dsimp only;rw [Ru hy,←hN];first|(rw [hb67];rfl)|(simp at hb67;simp [hb67])),(by dsimp only;rw [Tp (· + ·) 0 hy,←hS])⟩
      ) (by dsimp only;omega) ⟨rfl,rfl,rfl,rfl,rfl,rfl,rfl,rfl,rfl,trivial⟩ ⟨rfl,rfl,rfl,rfl,rfl,trivial⟩))))
 · (
 have hfm:=hM.fm;rw [show xs.take j=xs from Xq oM] at hN hS hfm;refine Wh ?_;refine Zrw 80 (fun _ _ _=>ho) fun g=>?_;refine ZF ?_;refine Zj4 dC (show 0<xs.length by omega) hXs rfl rfl rfl rfl rfl rfl rfl ?hda ?hA ?hB fun D ms hms hmm=>?_
 case hda=>intro o ho c;simp at ho;rcases ho with rfl|rfl<;>simp
 case hA=>
  intro w0 M0 N0 Q e3 u0 u1 u2 u3 g0 g1 g2 g3 kk;refine Zx [.bool false, .map none, .map none, .int .i64 0] 4 10 (show ZeroT prog 129 (.agg #[.bool false, .map none, .map none, .int .i64 0]) by unfold ZeroT;kernel_rfl) fun h10=>?_;refine Zu (m:=4) (ps:=[.val u0, .val u1, .val u2, .val u3]) 10 kR ?_ (h1:=by simp only [VU,List.all_nil,VV,Xi];exact ⟨g0,g1,g2,g3⟩);refine Ww fun a w H=>kk h10 a w (H.weaken sB sB)
 case hB=>
  intro w0 M0 N0 r n Q ks x h10 e3 hks hQ kk;refine Zj0 (ZhL (Di (fun h=>hQ h) (fun o ho c=>by simp at ho;rcases ho with rfl|rfl|rfl|rfl|rfl<;>simp) ?_));refine xM (YP (show FldT prog 129 2 2=true by kernel_rfl)) ?_;refine yL 84 (ZG (show NoAgg prog 88=true by kernel_rfl)) fun v84 hv84=>?_
  cases hv84;refine xM (Zb 10 (show FldT prog 129 2 2=true by kernel_rfl)) ?_;refine yL 86 (Ze 10 (show NoAgg prog 88=true by kernel_rfl)) fun v86 hv86=>?_;refine WA [10] 87 (call126) (GO h18 v86 ks x.ls hks) (fun v87 p87 h87 hR87=>?_);obtain ⟨ms,hms,hmm,rfl,rfl,rfl⟩:=hR87;obtain ⟨kn,kx⟩:=kk ms [] hms hmm;refine Ww (Zeb (ZhL (Di (fun h=>hQ h) (fun o ho c=>by simp at ho;rcases ho with rfl|rfl|rfl<;>simp) ?_)));refine xM (Zb 10 (show FldT prog 129 0 0=true by kernel_rfl)) ?_;refine yL 89 (Ze 10 (show NoAgg prog 4=true by kernel_rfl)) fun v89 hv89=>?_
  cases hv89;refine Yv ?_;refine Ww (Zeb (ZmX rfl (fun hb=>ZmZ fun a w H=>?_) (fun hb=>ZmY fun a w H=>?_)))
  · show Exit.inBlock 6 Q (.exit 5) a w;simp only [Exit.inBlock];rw [Qa dC];exact kx (by simpa using hb) a w (H.weaken trivial sB)
  · exact kn (by simpa using hb) a w (H.weaken trivial sB)
 have hfin:FxOk ⟨N,F,ms,S⟩ (.mk o a l):=by
  refine Dk hX hXl2 hMf hms ?_ ?_ (fun t=>?_) (fun t=>?_)
  · rw [hN];unfold Zeg;rw [Qa oM,Qa oM,Qa oM,Qa oM]
  · rw [hS];unfold Zeh;rw [Qa oM,Qa oM,Qa oM,Qa oM]
  · rw [hfm];unfold opE;rw [Qa oM,Qa oM,Qa oM,Qb ho3,Qa dC]
  · rw [hmm];unfold opE;rw [Qa oM,Qa oM,Qa oM,Qb ho3,Qb rfl];exact Iff.rfl
 refine nav ?_;refine Zq (YU (l:=3) (l':=17) (j:=1) rfl rfl rfl rfl) fun _=>?_;refine Zq (YU (l:=3) (l':=18) (j:=2) rfl rfl rfl rfl) fun _=>?_;refine Zi ?_;refine yU (Zj 3 Z') fun v197=>?_;refine Zu 2 Z' ?_;refine ZF ?_
 first|refine Zbg rfl ?_|refine OC 5000 rfl ?_
 exact Z4 (k:=4) 2 results87 ⟨_,hfin,rfl⟩))
 · (
 refine Wa ?_ ?_<;>intro hb91
 · (
 refine nav ?_;(have ho4:o=4:=by simpa using hb91);have hlp:0<l.length:=Vd.2 (hcat.2.1 (.inr (.inl ho4)));obtain ⟨y0,hy0⟩:=gS xs 0;have g0:=Y9 (f:=cFx) T8 hy0;have g1:(xs.flatMap cFx)[0*4+3]? =some (Zc y0.sho):=by
  have h9:=congrArg (fun m:List PV=>m[3]?) (Yu (f:=cFx) T8 xs 0 y0 hy0);simpa [cFx] using h9
 refine Zi ?_;refine xL 93 Za (xL 94 (Zg JF) (xL 95 (YP YI) ?_));refine yV (ZG WW) ?_;refine xM (Zb 3 YI) ?_;refine GC 3 WW SE ?_;refine Yc ?_;refine xL 98 Za (xL 99 (Zy JF) (xL 100 Za ?_));refine ZF ?_;refine Yd (ι:={q:Nat×List BA×List BA×Bool×Int//MixI xs q.1 q.2.1 q.2.2.1∧q.2.2.2.1=((xs.take q.1).map (·.nul)).any id∧q.2.2.2.2=((xs.take q.1).map (·.sho)).foldl min y0.sho}) (fun k=>⟨[(1,_,_),(2,_,_),(3,_,_),(17,_,_),(18,_,_),(98,_,_),(99,_,_),(100, .int .i64 k.1.1,Zc k.1.1)],[(1,_,_),(2,_,_),(3,h3, .own 129 4 1 [Zv k.1.2.2.2.1, .val h17, .val h18,Zc k.1.2.2.2.2]),(17,h17, .omap (skv (Wp k.1.2.1))),(18,h18, .omap (skv (Wp k.1.2.2.1)))]⟩) (fun k=>xs.length-k.1.1) ⟨(0,[],[],false,y0.sho),MixI.zero xs,by rw [XM];rfl,by rw [XM];rfl⟩ ?_;rintro ⟨⟨j,F,L,N,S⟩,hM,hN,hS⟩;dsimp only;dsimp only at hM hN hS;have hMl:=hM.le;have hMf:=hM.fn;have hMg:=hM.ln;refine Ys ?_ ?_<;>intro hb101
 · (
 obtain ⟨y,hy⟩:=gS xs j;have e1:((xs.flatMap cFx).drop (j*4)).take 4=[Zv y.nul, .smap (skv (Wp y.fs)), .smap (skv (Wp y.ls)),Zc y.sho]:=Yu (f:=cFx) T8 xs j y hy;have e2:=Y9 (f:=cFx) T8 hy;refine Zh ?_;refine xM (Zg JF) ?_;refine yU (YD Z') fun v103=>?_;refine Zx [(.bool false),(.map none),(.map none),(.int .i64 0)] 4 12 JG fun h12=>?_;refine Zu 12 Z' ?_;refine Yc ?_;refine xM (Zb 3 WK) ?_;refine yV (Ze 3 Y6) ?_;refine xM (Zb 12 WK) ?_;refine yU (Ze 12 Y6) fun v107=>?_;refine Zp (Zz (l:=17) 1000 rfl rfl) fun _=>?_;refine WA [1,2,3,12,18] 108 (call126) (GO h17 v107 F y.fs hMf) (fun v108 p108 h108 hR108=>?_);obtain ⟨F',hf1,hf2,rfl,rfl,rfl⟩:=hR108;refine Zp (Zz (l:=1000) 17 rfl rfl) fun _=>?_;refine Yc ?_;refine xM (Zb 3 Ku) ?_;refine yV (Ze 3 Y6) ?_;refine xM (Zb 12 Ku) ?_;refine yU (Ze 12 Y6) fun v112=>?_;refine Zp (Zz (l:=18) 1000 rfl rfl) fun _=>?_;refine WA [1,2,3,12,17] 113 (call126) (GO h18 v112 L y.ls hMg) (fun v113 p113 h113 hR113=>?_);obtain ⟨L',hl1,hl2,rfl,rfl,rfl⟩:=hR113;refine Zp (Zz (l:=1000) 18 rfl rfl) fun _=>?_;refine Yc ?_;(refine xM (Zb 3 Yo) ?_<;>refine yV (Ze 3 WL) ?_<;>refine Yv ?_<;>(refine bL 116 (fun hb116=>?_) (fun hb116=>?_)<;>(first|refine kL ?_|refine xM (Zb 12 Yo) ?_))<;>(first|refine kL ?_|refine yV (Ze 12 WL) ?_)<;>refine xL 119 GW (xL 120 (Zb 3 Yo) ?_)<;>refine GC 3 WL TL ?_<;>refine ZF ?_)<;>(
 refine Zi ?_;refine xM (Zb 3 YI) ?_;refine yV (Ze 3 WW) ?_;refine xM (Zb 12 YI) ?_;refine yV (Ze 12 WW) ?_;refine xL 125 Zr6 (xL 126 (Zb 3 YI) ?_);refine GC 3 WW SE ?_;refine GF ?_;refine Zm (
  ⟨(j+1,F',L',_,_),hM.step hy hf1 hf2 hl1 hl2,(by dsimp only;rw [Zj7 hy,←hN];first|(rw [hb116];rfl)|(simp at hb116;simp [hb116])),(by dsimp only;rw [Tp min y0.sho hy,←hS];show (if y.sho<S then y.sho else S)=min S y.sho;split<;>omega)⟩
  ) (by dsimp only;omega) ⟨rfl,rfl,rfl,rfl,rfl,rfl,rfl,rfl,trivial⟩ ⟨rfl,rfl,rfl,rfl,rfl,trivial⟩))
 · (
 have hjl:j=xs.length:=oM;have hMa:=hM.all (show xs.length≤j by omega);rw [show xs.take j=xs from Xq oM] at hN hS;have hfin:FxOk ⟨N,F,L,S⟩ (.mk o a l):=by
  refine Dk hX hXl2 hMf hMg ?_ ?_ (fun t=>?_) (fun t=>?_)
  · rw [hN];unfold Zeg;rw [Qa oM,Qa oM,Qa oM,Qb ho4]
  · rw [hS];unfold Zeh;rw [Qa oM,Qa oM,Qa oM,Qb ho4]
    cases xs with
    |nil=>cases hy0
    |cons x xs=>cases hy0;show List.foldl min (min y0.sho y0.sho) _=_;rw [Int.min_self];rfl
  · rw [hMa.1];unfold opE;rw [Qa oM,Qa oM,Qa oM,Qa oM]
  · rw [hMa.2];unfold opE;rw [Qa oM,Qa oM,Qa oM,Qa oM]
 refine nav ?_;refine Zq (YU (l:=3) (l':=17) (j:=1) rfl rfl rfl rfl) fun _=>?_;refine Zq (YU (l:=3) (l':=18) (j:=2) rfl rfl rfl rfl) fun _=>?_;refine Zi ?_;refine yU (Zj 3 Z') fun v197=>?_;refine Zu 2 Z' ?_;refine ZF ?_
 first|refine Zbg rfl ?_|refine OC 5000 rfl ?_
 exact Z4 (k:=4) 2 results87 ⟨_,hfin,rfl⟩))
 · (
 refine Wa ?_ ?_<;>intro hb128
 · (
 refine nav ?_;(have ho5:o=5:=by simpa using hb128);refine Zi ?_;refine xM (Zb 3 Yo) ?_;refine GC 3 WL TL ?_;refine Yc ?_;refine xL 131 Za (xL 132 (Zy JF) (xL 133 Za ?_));refine ZF ?_;refine Yd (ι:={q:Nat×List BA×List BA×Bool×Int//MixI xs q.1 q.2.1 q.2.2.1∧q.2.2.2.1=((xs.take q.1).map (·.nul)).all id∧q.2.2.2.2=((xs.take q.1).map (·.sho)).foldl (· + ·) 0}) (fun k=>⟨[(1,_,_),(2,_,_),(3,_,_),(17,_,_),(18,_,_),(131,_,_),(132,_,_),(133, .int .i64 k.1.1,Zc k.1.1)],[(1,_,_),(2,_,_),(3,h3, .own 129 4 1 [Zv k.1.2.2.2.1, .val h17, .val h18,Zc k.1.2.2.2.2]),(17,h17, .omap (skv (Wp k.1.2.1))),(18,h18, .omap (skv (Wp k.1.2.2.1)))]⟩) (fun k=>xs.length-k.1.1) ⟨(0,[],[],true,0),MixI.zero xs,by rw [XM];rfl,by rw [XM];rfl⟩ ?_;rintro ⟨⟨j,F,L,N,S⟩,hM,hN,hS⟩;dsimp only;dsimp only at hM hN hS;have hMl:=hM.le;have hMf:=hM.fn;have hMg:=hM.ln;have hSb:=ZhO hX hXl2 j;rw [←hS] at hSb;refine Ys ?_ ?_<;>intro hb134
 · (
 obtain ⟨y,hy⟩:=gS xs j;have e1:((xs.flatMap cFx).drop (j*4)).take 4=[Zv y.nul, .smap (skv (Wp y.fs)), .smap (skv (Wp y.ls)),Zc y.sho]:=Yu (f:=cFx) T8 xs j y hy;have e2:=Y9 (f:=cFx) T8 hy;have hyb:=Zqt hX hy hXl2;refine Zh ?_;refine xM (Zg JF) ?_;refine yU (YD Z') fun v136=>?_;refine Zx [(.bool false),(.map none),(.map none),(.int .i64 0)] 4 14 JG fun h14=>?_;refine Zu 14 Z' ?_;refine Yc ?_;refine xM (Zb 3 WK) ?_;refine yV (Ze 3 Y6) ?_;refine xM (Zb 14 WK) ?_;refine yU (Ze 14 Y6) fun v140=>?_;refine Zp (Zz (l:=17) 1000 rfl rfl) fun _=>?_;refine WA [1,2,3,14,18] 141 (call126) (GO h17 v140 F y.fs hMf) (fun v141 p141 h141 hR141=>?_);obtain ⟨F',hf1,hf2,rfl,rfl,rfl⟩:=hR141;refine Zp (Zz (l:=1000) 17 rfl rfl) fun _=>?_;refine Yc ?_;refine xM (Zb 3 Ku) ?_;refine yV (Ze 3 Y6) ?_;refine xM (Zb 14 Ku) ?_;refine yU (Ze 14 Y6) fun v145=>?_;refine Zp (Zz (l:=18) 1000 rfl rfl) fun _=>?_;refine WA [1,2,3,14,17] 146 (call126) (GO h18 v145 L y.ls hMg) (fun v146 p146 h146 hR146=>?_);obtain ⟨L',hl1,hl2,rfl,rfl,rfl⟩:=hR146;refine Zp (Zz (l:=1000) 18 rfl rfl) fun _=>?_;refine Yc ?_;(refine xM (Zb 3 Yo) ?_<;>refine yV (Ze 3 WL) ?_<;>refine Yv ?_<;>(refine bL 149 (fun hb149=>?_) (fun hb149=>?_)<;>(first|refine kL ?_|refine xM (Zb 14 Yo) ?_))<;>(first|refine kL ?_|refine yV (Ze 14 WL) ?_)<;>refine xL 152 GW (xL 153 (Zb 3 Yo) ?_)<;>refine GC 3 WL TL ?_<;>refine ZF ?_)<;>(
 refine Zi ?_;refine xM (Zb 3 YI) ?_;refine yV (Ze 3 WW) ?_;refine xM (Zb 14 YI) ?_;refine yV (Ze 14 WW) ?_;refine xL 158 Eu (xL 159 (Zb 3 YI) ?_);refine GC 3 WW SE ?_;refine GF ?_;refine Zm (
  ⟨(j+1,F',L',_,_),hM.step hy hf1 hf2 hl1 hl2,(by dsimp only;rw [Ru hy,←hN];first|(rw [hb149];rfl)|(simp at hb149;simp [hb149])),(by dsimp only;rw [Tp (· + ·) 0 hy,←hS])⟩
  ) (by dsimp only;omega) ⟨rfl,rfl,rfl,rfl,rfl,rfl,rfl,rfl,trivial⟩ ⟨rfl,rfl,rfl,rfl,rfl,trivial⟩))
 · (
 have hMa:=hM.all (show xs.length≤j by omega);rw [show xs.take j=xs from Xq oM] at hN hS;have hfin:FxOk ⟨N,F,L,S⟩ (.mk o a l):=by
  refine Dk hX hXl2 hMf hMg ?_ ?_ (fun t=>?_) (fun t=>?_)
  · rw [hN];unfold Zeg;rw [Qa oM,Qa oM,Qa oM,Qa oM]
  · rw [hS];unfold Zeh;rw [Qa oM,Qa oM,Qa oM,Qa oM]
  · rw [hMa.1];unfold opE;rw [Qa oM,Qa oM,Qa oM,Qa oM]
  · rw [hMa.2];unfold opE;rw [Qa oM,Qa oM,Qa oM,Qa oM]
 refine nav ?_;refine Zq (YU (l:=3) (l':=17) (j:=1) rfl rfl rfl rfl) fun _=>?_;refine Zq (YU (l:=3) (l':=18) (j:=2) rfl rfl rfl rfl) fun _=>?_;refine Zi ?_;refine yU (Zj 3 Z') fun v197=>?_;refine Zu 2 Z' ?_;refine ZF ?_
 first|refine Zbg rfl ?_|refine OC 5000 rfl ?_
 exact Z4 (k:=4) 2 results87 ⟨_,hfin,rfl⟩))
 · (
 refine Wa ?_ ?_<;>intro hb161
 · (have ho6 :o=6:=by simpa using hb161);have hl2:=hcat.2.2.1 ho6;obtain ⟨x1,x2,rfl⟩:∃x1 x2,xs=[x1,x2]:=by
    match xs,hXl2.trans hl2 with
    |[x1,x2],_=>exact ⟨x1,x2,rfl⟩
   have e1:(([x1,x2].flatMap cFx).drop (0*4)).take 4=[Zv x1.nul, .smap (skv (Wp x1.fs)), .smap (skv (Wp x1.ls)),Zc x1.sho]:=rfl;have e2:(([x1,x2].flatMap cFx).drop (1*4)).take 4=[Zv x2.nul, .smap (skv (Wp x2.fs)), .smap (skv (Wp x2.ls)),Zc x2.sho]:=rfl;(have e3:0*4+4≤([x1,x2].flatMap cFx).length:=by show 4≤8;decide);(have e4:1*4+4≤([x1,x2].flatMap cFx).length:=by show 8≤8;decide);refine nav ?_;(refine We [] [] ?_<;>refine gDx 0 ?_<;>refine xD 1 rfl (Zg JF) ?_<;>(refine yD 2 rfl (YD Z') fun v165 h=>?_;cases h)<;>refine gDx 3 ?_<;>refine xD 4 rfl (Zg JF) ?_<;>(refine yD 5 rfl (YD Z') fun v168 h=>?_;cases h)<;>(refine Wm 6 7 kR ?_ ?_;rotate_right;(focus ((refine aWr fun bk=>?_)<;>refine Zx [(.bool false),(.map none),(.map none),(.int .i64 0)] 4 16 JG fun h16=>?_<;>refine bE bk ?_<;>(refine aDr 6 fun bk=>?_)<;>refine Zx [(.bool false),(.map none),(.map none),(.int .i64 0)] 4 15 JG fun h15=>?_<;>refine bE bk ?_<;>(refine aDr 8 fun bk=>?_)<;>refine Zu 15 Z' ?_<;>refine bE bk ?_<;>(refine aDr 9 fun bk=>?_)<;>refine Zu 16 Z' ?_<;>refine bE bk ?_));rotate_right;(focus ((refine aWr fun bk=>?_)<;>refine Zx [(.bool false),(.map none),(.map none),(.int .i64 0)] 4 15 JG fun h15=>?_<;>refine bE bk ?_<;>(refine aDr 7 fun bk=>?_)<;>refine Zx [(.bool false),(.map none),(.map none),(.int .i64 0)] 4 16 JG fun h16=>?_<;>refine bE bk ?_<;>(refine aDr 8 fun bk=>?_)<;>refine Zu 15 Z' ?_<;>refine bE bk ?_<;>(refine aDr 9 fun bk=>?_)<;>refine Zu 16 Z' ?_<;>refine bE bk ?_)))<;>refine Kz ?_)<;>(
 refine Zi ?_;refine xM (Zb 3 WK) ?_;refine yV (Ze 3 Y6) ?_;refine xM (Zb 15 WK) ?_;refine yU (Ze 15 Y6) fun v172=>?_;refine Zp (Zz (l:=17) 1000 rfl rfl) fun _=>?_;refine WA [1,2,3,15,16,18] 173 (call126) (GO h17 v172 [] x1.fs X6) (fun v173 p173 h173 hR173=>?_);obtain ⟨F1,hf1,hf2,rfl,rfl,rfl⟩:=hR173;refine Zp (Zz (l:=1000) 17 rfl rfl) fun _=>?_;refine Yc ?_;refine xM (Zb 3 Ku) ?_;refine yV (Ze 3 Y6) ?_;refine xM (Zb 15 Ku) ?_;refine yU (Ze 15 Y6) fun v177=>?_;refine Zp (Zz (l:=18) 1000 rfl rfl) fun _=>?_;refine WA [1,2,3,15,16,17] 178 (call126) (GO h18 v177 [] x1.ls X6) (fun v178 p178 h178 hR178=>?_);obtain ⟨L1,hl1,hl2',rfl,rfl,rfl⟩:=hR178;refine Zp (Zz (l:=1000) 18 rfl rfl) fun _=>?_;refine Yc ?_;refine xM (Zb 15 Yo) ?_;refine yV (Ze 15 WL) ?_;refine ZF ?_;refine KI (fun q:{q:List BA×List BA//FxOk ⟨x1.nul,q.1,q.2,x1.sho⟩ (.mk o a l)}=>⟨[(2,ZD (Zr h2) 0, .val (ZD (Zr h2) 0)),(3,ZD (Zr h3) 0, .val (ZD (Zr h3) 0)),(15,ZD (Zr h15) 0, .val (ZD (Zr h15) 0))],[(2,h2, .own 129 4 1 ([.bool false, .map none, .map none, .int .i64 0].map PV.val)),(3,h3, .own 129 4 1 [Zv false, .val h17, .val h18,Zc 0]),(15,h15, .own 129 4 1 [Zv x1.nul, .smap (skv (Wp x1.fs)), .smap (skv (Wp x1.ls)),Zc x1.sho]),(17,h17, .omap (skv (Wp q.1.1))),(18,h18, .omap (skv (Wp q.1.2)))]⟩) ?_ ?_
 · refine cX ?_ ?_<;>intro hb180
   · (
 refine Zh ?_;refine xM (Zb 3 WK) ?_;refine yV (Ze 3 Y6) ?_;refine xM (Zb 16 WK) ?_;refine yU (Ze 16 Y6) fun v184=>?_;refine Zp (Zz (l:=17) 1000 rfl rfl) fun _=>?_;refine WA [1,2,3,15,16,18] 185 (call126) (GO h17 v184 F1 x2.fs hf1) (fun v185 p185 h185 hR185=>?_);obtain ⟨F2,hf3,hf4,rfl,rfl,rfl⟩:=hR185;refine Zp (Zz (l:=1000) 17 rfl rfl) fun _=>?_;refine Yc ?_;refine xM (Zb 3 Ku) ?_;refine yV (Ze 3 Y6) ?_;refine xM (Zb 16 Ku) ?_;refine yU (Ze 16 Y6) fun v189=>?_;refine Zp (Zz (l:=18) 1000 rfl rfl) fun _=>?_;refine WA [1,2,3,15,16,17] 190 (call126) (GO h18 v189 L1 x2.ls hl1) (fun v190 p190 h190 hR190=>?_);obtain ⟨L2,hl3,hl4,rfl,rfl,rfl⟩:=hR190;refine Zp (Zz (l:=1000) 18 rfl rfl) fun _=>?_;refine ZF ?_;have hfin:FxOk ⟨x1.nul,F2,L2,x1.sho⟩ (.mk o a l):=by
  refine Dk hX hXl2 hf3 hl3 ?_ ?_ (fun t=>?_) (fun t=>?_)
  · unfold Zeg;rw [Qa oM,Qa oM,Qb ho6];rfl
  · unfold Zeh;rw [Qa oM,Qa oM,Qb ho6];rfl
  · rw [hf4,hf2];unfold opE;rw [Qa oM,Qa oM,Qb ho6];show _↔t∈x1.fs++(if x1.nul=true then x2.fs else []);rw [Qb (by simpa using hb180),Xd];simp
  · rw [hl4,hl2'];unfold opE;rw [Qa oM,Qa oM,Qb ho6];show _↔t∈x1.ls++(if x1.nul=true then x2.ls else []);rw [Qb (by simpa using hb180),Xd];simp
 exact ZS ⟨(_,_),hfin⟩ ⟨rfl,rfl,rfl,trivial⟩ ⟨rfl,rfl,rfl,rfl,rfl,trivial⟩)
   · (
 have hfin:FxOk ⟨x1.nul,F1,L1,x1.sho⟩ (.mk o a l):=by
  refine Dk hX hXl2 hf1 hl1 ?_ ?_ (fun t=>?_) (fun t=>?_)
  · unfold Zeg;rw [Qa oM,Qa oM,Qb ho6];rfl
  · unfold Zeh;rw [Qa oM,Qa oM,Qb ho6];rfl
  · rw [hf2];unfold opE;rw [Qa oM,Qa oM,Qb ho6];show _↔t∈x1.fs++(if x1.nul=true then x2.fs else []);rw [Qa (by simpa using hb180)];simp
  · rw [hl2'];unfold opE;rw [Qa oM,Qa oM,Qb ho6];show _↔t∈x1.ls++(if x1.nul=true then x2.ls else []);rw [Qa (by simpa using hb180)];simp
 refine nav ?_;exact ZS ⟨(_,_),hfin⟩ ⟨rfl,rfl,rfl,trivial⟩ ⟨rfl,rfl,rfl,rfl,rfl,trivial⟩)
 · rintro ⟨⟨F,L⟩,hfin⟩;dsimp only at hfin ⊢;refine nav ?_;refine We [] [15] ?_<;>refine xD 0 rfl (Zb 15 Yo) ?_<;>(refine yD 1 rfl (Ze 15 WL) fun v192 h=>?_;cases h)<;>refine xD 2 rfl (Zb 15 YI) ?_<;>(refine yD 3 rfl (Ze 15 WW) fun v194 h=>?_;cases h)<;>(refine aDr 4 fun bk=>?_)<;>refine xM (Zb 3 Yo) ?_<;>refine bE bk ?_<;>(refine aDr 5 fun bk=>?_)<;>refine GC 3 WL TL ?_<;>refine bE bk ?_<;>(refine aDr 6 fun bk=>?_)<;>refine xM (Zb 3 YI) ?_<;>refine bE bk ?_<;>(refine aDr 7 fun bk=>?_)<;>refine GC 3 WW SE ?_<;>refine bE bk ?_<;>refine Kz ?_;refine Zq (YU (l:=3) (l':=17) (j:=1) rfl rfl rfl rfl) fun _=>?_;refine Zq (YU (l:=3) (l':=18) (j:=2) rfl rfl rfl rfl) fun _=>?_;refine Zi ?_;refine yU (Zj 3 Z') fun v197=>?_;refine Zu 2 Z' ?_;refine ZF ?_
   first|refine Zbg rfl ?_|refine OC 5000 rfl ?_
   exact Z4 (k:=4) 2 results87 ⟨_,hfin,rfl⟩)
 · exfalso;omega))))))
end Go.Proofs.YteiincihiagidaaGreat
