/-
  Walks of functions and plain laws of the chapter, as the claim needs them.
-/
import Derived.Test.YteiincihiagidaaGreatPf08
import Derived.Test.YteiincihiagidaaGreatPf04
import Derived.Test.YteiincihiagidaaGreatPf05
import Derived.Test.YteiincihiagidaaGreatPf02
import Derived.Test.YteiincihiagidaaGreatPf07
import Derived.Test.YteiincihiagidaaGreatMShelfU
import Derived.Test.YteiincihiagidaaGreatPf06
import Derived.Test.YteiincihiagidaaGreatPf01
set_option linter.all false
set_option maxRecDepth 100000
set_option maxHeartbeats 8000000
namespace Go.Proofs.YteiincihiagidaaGreat
open Go.RowKit Go.Cb Go.En Tryz
theorem Zk:AggT prog 24 3=true:=kR
theorem YS:FldT prog 24 0 0=true:=kR
theorem Ld:FldT prog 24 1 1=true:=kR
theorem Yj:FldT prog 24 2 2=true:=kR
theorem YT:NoAgg prog 22=true:=kR
theorem Yw:SlT prog 22 24 3=true:=kR
theorem Wl:ZeroT prog 24 (.agg #[(.int .i64 0),(.string ByteArray.empty),(.slice none 0 0)]):=by unfold ZeroT;kernel_rfl
def ZpC (t:Nd):Type:={q:Option (List (List BA))//match q with|some W=>SetM (wT t) W∧NmS W|none=>BigW (wT t)}
def cpP:Option (List (List BA))→PV
 |some W=>SJ W
 |none=> .val (.map none)
theorem Zm8 (t:Nd) (i:ZpC t):shD (.tup [cpP i.1,Zv i.1.isSome])=true:=by
 obtain ⟨q,_⟩:=i
 cases q<;>rfl
theorem Le {S W:List (List BA)} {b:Bool} (h:if b=true then SetM S W else BigW S):(b=true∧SetM S W)∨(b=false∧BigW S):=OkI.or (TT:=S) h
structure PrtI (l:List Nd) (Ws:List (List (List BA))):Prop where
 le:Ws.length≤l.length
 ok:∀(i:Nat) (x:Nd) (W:List (List BA)),l[i]? =some x→Ws[i]? =some W→SetM (wT x) W∧NmS W
theorem PrtI.snoc {l:List Nd} {Ws:List (List (List BA))} {x:Nd} {W:List (List BA)} (h:PrtI l Ws) (hx:l[Ws.length]? =some x) (hW:SetM (wT x) W∧NmS W):PrtI l (Ws++[W]):=by
 refine ⟨by rw [Xf,XF];exact Zd hx,fun i y V hy hV=>?_⟩
 rcases XD i Ws.length with hlt|hge
 · rw [X0 hlt] at hV;exact h.ok i y V hy hV
 · rw [X' hge] at hV;have:=Zd hV;simp only [XF] at this;obtain rfl:i=Ws.length:=oM;rw [hx] at hy;simp at hV
   cases hy;subst hV;exact hW
theorem Zj8 (e:Nat) (Ws:List (List (List BA))) (W:List (List BA)):PV.own e 1 (Ws.length+1) (Ws.map SJ++[SJ W])= .own e 1 (Ws++[W]).length ((Ws++[W]).map SJ):=sM
theorem Zgc (e n:Nat) (Ws:List (List (List BA))):share (.own e 1 n (Ws.map SJ))= .sl n (Ws.map SJ):=by
 rw [share,Z7,Xt];rfl
theorem Zbo {S:List (List BA)} {w:List BA} (h:w.length≤200) (hS:S=[]++[w]):¬BigW S:=fun hb=>by
 subst hS
 rcases (Sv (l:=[]++[w]) sM).1 hb with h1|⟨v,hv,h1⟩
 · simp at h1
 · simp at hv;subst hv;omega
def Q5 (o:Int) (D P:List (List BA)):List (List BA):=if o=5 then EU D P else []
def Q5x (o:Int) (x:List BA) (D:List (List BA)):List (List BA):=if o=5 then D.flatMap (mixW x) else []
def N3 (o:Int) (S P:List (List BA)):List (List BA):=if o=3 then Gu S P else []
theorem ZpD {o:Int} {T D P:List (List BA)} {x w:List BA}:w∈T++Q5 o (D++[x]) P↔w∈T++Q5 o D P++Q5x o x P:=by
 unfold Q5 Q5x
 split
 · unfold EU;rw [XT,XA];simp
 · simp
theorem Zm9 {o:Int} {T D P:List (List BA)} {x w:List BA} (h:D.Perm P):w∈T++Q5x o x D↔w∈T++Q5x o x P:=by
 unfold Q5x
 split
 · simp only [Xd,X7,h.mem_iff]
 · rfl
theorem Zj9 {o:Int} {S P:List (List BA)} (h:o=3):Jf o S P=Gu S P:=by unfold Jf;exact Qb h
theorem Zka {o:Int} {S P:List (List BA)} (h:¬o=3):Jf o S P=EU S P:=by unfold Jf;exact Qa h
theorem Zna {o:Int} (ho:o=3∨o=5) {S W P X D:List (List BA)} (hW:∀w,w∈W↔w∈S) (hP:∀w,w∈P↔w∈X) (hD:D.Perm W) {w:List BA}:w∈N3 o W P++Q5 o D P↔w∈Jf o S X:=by
 rcases ho with rfl|rfl
 · simp [N3,Q5,Jf,Wd,hW,hP]
 · simp [N3,Q5,Jf,TE,hD.mem_iff,hW,hP]
theorem Zei {o:Int} (ho:o=3∨o=5) {a:BA} {l:List Nd} {i:Nat} {x:Nd} (hx:l[i]? =some x) (hne:∀y∈l,wT y≠[]) (h:BigW (Jf o (((l.take i).map wT).foldl (Jf o) [[]]) (wT x))):BigW (wT (.mk o a l)):=by
 rw [wT,R6,Qa oM]
 unfold ζv
 rw [Qa oM,Qa oM]
 have e:l.map wT=((l.take i).map wT++[wT x])++(l.drop (i+1)).map wT:=by
  conv=>lhs;rw [←X5 (i+1) l,Zw hx]
  simp
 rw [e,Vp,Vp]
 exact BigW.fold_l (fun p hp=>by
  obtain ⟨y,hy,rfl⟩:=Xh.1 hp;exact hne y (UA hy)) h
theorem ZpE {a:BA} {l:List Nd} {S:List (List BA)} (hS:∀w∈S,∃x∈l,w∈wT x) (h:BigW S):BigW (wT (.mk 4 a l)):=by
 rw [wT,R6,Qa dC]
 exact h.sub fun w hw=>by
  obtain ⟨x,hx,hw⟩:=hS w hw;exact Vb.2 ⟨_,Xh.2 ⟨x,hx,rfl⟩,hw⟩
theorem ZpF (a:BA) (x y:Nd):wT (.mk 6 a [x,y])=Gu (Gu (wT x) (wT y)) (wT x)++wT x:=by
 rw [wT,R6];rfl
theorem Zrx : ∀ (t : Nd), okT t = true →Ln t=false→szT t≤1000000→AF prog 23 [pTr t] (fun p=>∃i:ZpC t,p= .tup [cpP i.1,Zv i.1.isSome]):=Nd.ind fun o a l ih hok hs hsz0=>by
 have ea:pTr (.mk o a l)= .agg [Zc o,Zt a,Yt l]:=rfl
 have hsz:szT (.mk o a l)=1+szL l:=by rw [szT]
 have hll:=LP l
 have hpart:=Zhs (.mk o a l) hok hs
 obtain ⟨hr,hp⟩:=Y3.1 hok
 obtain ⟨h2,hq⟩:=PT.1 hs
 have hcat:=J7 hr
 simp only [Nd.op,Nd.l] at hp h2 hq hpart hcat
 have hne:∀x∈l,wT x≠[]:=fun x hx=>Zhr x (hp x hx) (hq x hx)
 rw [ea]
 refine AF.b1 151 func23 rfl ntmps23 (Xa rfl) fun w0 M0 v0 _=>?_
 refine Zh ?_
 refine ZV 1 3 fun h1=>?_;refine Jn ?_
 refine JX 24 fun h24 ho24=>?_;refine ZB ?_
 refine Zq (Zz (l:=24) 1000 rfl rfl) fun _=>?_
 refine Zq (Zb3 1001) fun _=>?_
 refine Zi ?_;refine xM (Zb 1 YS) ?_;refine yV (Ze 1 ZM) ?_;refine YX ?_ ?_<;>intro hb27
 · (
 (have ho1:o=1:=by simpa using hb27);have hna:isName a=true:=by
  subst ho1;have h9:rightT (.mk 1 a l)=(l.isEmpty&&isName a):=rfl;rw [h9,Xi] at hr;exact hr.2
 refine Zh ?_;(refine xL 28 Za (xL 29 Za (xL 30 (Zb 1 Ld) ?_))<;>refine yV (Ze 1 ZK) ?_<;>(refine Ly (xs:=[_]) 32 ZW fun h32 ho32=>?_;refine Zp (En.freeze (l:=32) (t:=32) rfl rfl) fun _=>?_;refine Zp (Kt (t:=32) (p':=Zs [a]) rfl rfl) fun _=>?_)<;>(refine WA [1] 33 (call49) (SC h24 h32 SetM.nil [] [a] rfl (fun w h=>by cases h) (fun s h=>by rw [Xn.1 h];exact hna) (show 1≤1000 by decide)) (fun v33 p33 h33 hR33=>?_);obtain ⟨W0,V0,b0,hV0,hN0,hM0,rfl,rfl,rfl⟩:=hR33;rcases Le hM0 with ⟨rfl,hG0⟩|⟨rfl,hB0⟩)<;>refine YJ ?_)<;>(try (exact Qc hB0 (Zbo (w:=[a]) (show 1≤200 by decide) rfl)))<;>(
 refine Z5 (J8 (t:=2) (l:=1000) (g:=1001) rfl rfl rfl (WI W0) (by rw [J0,Xb])) fun _=>?_;exact Z1 results23 rfl rfl ⟨⟨some W0,by rw [wT,Qb ho1];exact ⟨hG0,hN0⟩⟩,rfl⟩))
 · (
 (have ho1:¬o=1:=by simpa using hb27);refine YK ?_;refine xM (Zb 1 Yj) ?_;refine yU (Ze 1 YT) fun v35=>?_;refine xL 36 (Zy Yw) (xL 37 Za ?_);refine ZF ?_;refine Zq (Wr 200 50 1 rfl) fun _=>?_;refine Yd (ι:={q:Nat×Value×List (List (List BA))//PrtI l q.2.2∧q.2.2.length=q.1∧q.2.1.oneCell'=true}) (fun k=>⟨[(1,_,_),(4,_,_),(35,_,_),(36,_,_),(5,k.1.2.1, .val k.1.2.1),(37, .int .i64 k.1.1,Zc k.1.1)],[(1,_,_),(1001,_,_),(1000,_,_),(200,k.1.2.1, .own 50 1 k.1.2.2.length (k.1.2.2.map SJ))]⟩) (fun k=>l.length-k.1.1) ⟨(0, .slice none 0 0,[]),⟨Xg _,fun j x W _ h=>by simp at h⟩,rfl,rfl⟩ ?_;rintro ⟨⟨i,hv,Ws⟩,hX,hxi,hov⟩;dsimp only;dsimp only at hX hxi hov;have hXl:=hX.1;(have hXc:(Ws.map SJ).length=Ws.length*1:=by rw [Xb,Xy]);refine Ys ?_ ?_<;>intro hb38
 · (
 obtain ⟨y,hy⟩:=gS l i;have e1:((Z9 l).drop (i*3)).take 3=[Zc y.op,Zt y.act,Yt y.l]:=ZT hy;have e2:=Yg hy;have hym:=Xc hy;have hys:=Jh hym;refine Zh ?_;refine xM (Zg Yw) ?_;refine yU (YD Zk) fun v40=>?_;refine Zx zT 3 7 Wl fun h7=>?_;refine Zu 7 Zk ?_;refine Yc ?_;(refine yU (Zj 7 Zk) fun v42=>?_<;>(refine cPx (ι:=ZpC y) (p1:=fun i=>cpP i.1) (p2:=fun i=>Zv i.1.isSome) 43 (cA (call23) (ih y hym (hp y hym) (hq y hym) oM)) (fun i v43 u43 hv43 hu43=>?_) (fun i=>Zm8 y i);obtain ⟨q43,hq43⟩:=i;rcases q43 with _|W43<;>dsimp only [cpP,Option.isSome] at hv43 hu43 hq43 ⊢<;>cases hu43<;>(try cases hv43))<;>refine JY ?_<;>refine ZF ?_)<;>(
 refine KJ ?_;refine cX ?_ ?_<;>intro hb47
 · first|exact bN hb47|(
 refine ZE ?_;exact Z1 results23 rfl rfl ⟨⟨none,hpart y hym hq43⟩,rfl⟩)
 · first|exact bN hb47|(
 refine Wn ?_;refine Wx (kk:=1) 50 Ed fun h50 ho50=>?_;refine WN 200 50 51 Ed fun h51 ho51=>?_;refine Zp (Zz (l:=51) 200 rfl rfl) fun _=>?_;refine Zp (Y1 (l:=200) rfl (Zj8 _ Ws W43)) fun _=>?_;refine Wy ?_;refine Yh (
  ⟨(i+1,h51,Ws++[W43]),hX.snoc (by rw [hxi];exact hy) hq43,by rw [Xf,XF,hxi],ho51⟩
  ))))
 · (
 have hXl2:Ws.length=l.length:=oM;refine Zq (En.freeze (l:=200) (t:=5) rfl rfl) fun _=>?_;rw [Zgc];have hP:∀(i:Nat) (x:Nd),l[i]? =some x→∃W,Ws[i]? =some W∧(Ws.map SJ)[i*1]? =some (SJ W)∧SetM (wT x) W∧NmS W:=fun i x hx=>by
  obtain ⟨W,hW⟩:=get_some (show i<Ws.length by have:=Zd hx;omega);exact ⟨W,hW,by rw [Xy,Xo,hW];rfl,hX.ok i x W hx hW⟩
 refine Zh ?_;refine xM (Zb 1 YS) ?_;refine yV (Ze 1 ZM) ?_;refine GG ?_ ?_<;>intro hb98
 · (
 (obtain rfl:o=4:=by simpa using hb98);refine Zh ?_;refine xL 100 Za (xL 101 (Zy KX) (xL 102 Za ?_));refine ZF ?_;refine Yd (ι:={q:Nat×List (List BA)×List Value//q.1≤l.length∧SetM ((l.take q.1).map wT).flatten q.2.1∧NmS q.2.1∧q.2.2.length=q.2.1.length}) (fun k=>⟨[(4,_,_),(100,_,_),(101,_,_),(102, .int .i64 k.1.1,Zc k.1.1)],[(1,_,_),(1001, .agg k.1.2.2.toArray, .agg (k.1.2.1.map Zs)),(1000,h24, .omap ((wks k.1.2.1).zip k.1.2.2))]⟩) (fun k=>l.length-k.1.1) ⟨(0,[],[]),Xg _,SetM.nil,fun w h=>(by cases h),rfl⟩ ?_;rintro ⟨⟨i,W1,V1⟩,hi,hM1,hN1,hV1⟩;dsimp only;dsimp only at hi hM1 hN1 hV1;refine Ys ?_ ?_<;>intro hb103
 · (
 obtain ⟨x,hx⟩:=gS l i;obtain ⟨Wi,hWi,e1,hMi,hNi⟩:=hP i x hx;have hS1:∀w∈((l.take i).map wT).flatten,∃x∈l,w∈wT x:=fun w hw=>by
  obtain ⟨p,hp,hw⟩:=Vb.1 hw;obtain ⟨y,hy,rfl⟩:=Xh.1 hp;exact ⟨y,VA hy,hw⟩
 refine Zh ?_;refine xM (Zg KX) ?_;refine yU (ZG JR) fun v105=>?_;refine LA ?_;refine Zp (Tu (t:=106) 1002 rfl) fun vsA=>?_;obtain ⟨vsA,hA1,hA2⟩:=vsA;dsimp only;refine Jr 107 underlying50 (fun b107 r107 c107 es107 hkv107 hWf107=>?_);refine ZF ?_;refine Yd (ι:={q:Array Nat×List (List BA)×List (List BA)×List Value//Sx Wi es107 q.1 q.2.1∧SetM (((l.take i).map wT).flatten++q.2.1) q.2.2.1∧NmS q.2.2.1∧q.2.2.2.length=q.2.2.1.length}) (fun k=>⟨[(4,_,_),(100,_,_),(101,_,_),(102,_,_),(107,_,_)],[(1,_,_),(1002,_,_),(107,itv r107,itP b107 r107 c107 es107 k.1.1),(1001, .agg k.1.2.2.2.toArray, .agg (k.1.2.2.1.map Zs)),(1000,h24, .omap ((wks k.1.2.2.1).zip k.1.2.2.2))]⟩) (fun k=>(leftOf es107 k.1.1).size) ⟨(#[],[],W1,V1),JP hkv107 (by rw [hA1,Xb]),hM1.congr fun w=>sM,hN1,hV1⟩ ?_;rintro ⟨⟨seen,D,W2,V2⟩,hI,hM2,hN2,hV2⟩;dsimp only;dsimp only at hI hM2 hN2 hV2;refine Zh ?_;(refine Gn 107 108 hWf107 (fun hlf107=>?_) (fun e107 hle107=>?_)<;>refine ZB ?_)<;>(
 refine cX ?_ ?_<;>intro hb109
 · first |exact bN hb109|(
 refine nav ?_;obtain ⟨n,y,hy1,hy2,hy3,hyW,hI'⟩:=JQ hNi hWf107 hkv107 hI hle107;have hyl:=hMi.len hyW;refine Zi ?_;refine xM (Gp 107 hWf107 (Km hle107)) ?_;refine YJ ?_;refine Zq (Tv (t:=13) (g:=1002) rfl rfl hy2 (by rw [Xo,hy1];rfl) (WI Wi)) fun _=>?_;(refine Zi ?_<;>refine YW ?_<;>(refine WA [1,107,1002] 114 (call49) (SC h24 e107.val hM2 V2 y hV2 hN2 (hNi y hyW) oM) (fun v114 p114 h114 hR114=>?_);obtain ⟨W3,V3,b3,hV3,hN3,hM3,rfl,rfl,rfl⟩:=hR114;rcases Le hM3 with ⟨rfl,hG3⟩|⟨rfl,hB3⟩)<;>refine ZB ?_)<;>(
 refine cX ?_ ?_<;>intro hb115
 · first|exact bN hb115|(
 refine ZE ?_;exact Z1 results23 rfl rfl ⟨⟨none,ZpE (fun w hw=>by
  simp only [Xd,Xn] at hw;rcases hw with (h|h)|rfl
  · exact hS1 w h
  · exact ⟨x,Xc hx,(hMi.mem w).1 (LO hI w h)⟩
  · exact ⟨x,Xc hx,(hMi.mem w).1 hyW⟩) hB3⟩,rfl⟩)
 · first|exact bN hb115|(
 refine nav ?_;refine Zm (
  ⟨(seen.push e107.born,D++[y],W3,V3),hI',by dsimp only;rw [←XA];exact hG3,hN3,hV3⟩
  ) (Js hWf107 hle107) sB sB)))
 · first|exact bN hb109|(
 refine ZE ?_;refine Yh (
  ⟨(i+1,W2,V2),by show i+1≤l.length;omega,hM2.congr fun w=>by
    dsimp only;rw [Zw hx,XC,VH,Xd,Xd,(JN hI hlf107).mem_iff,hMi.mem];simp,hN2,hV2⟩
  ))))
 · (
 obtain rfl:i=l.length:=oM;rw [XH] at hM1;(have hfin:SetM (wT (.mk 4 a l)) W1:=by rw [wT,R6];exact hM1);refine Y5 ?_
 first
  | (refine Z5 (J8 (t:=2) (l:=1000) (g:=1001) rfl rfl rfl (WI W1) (by rw [J0,Xb])) fun _=>?_
     exact Z1 results23 rfl rfl ⟨⟨some W1,hfin,hN1⟩,rfl⟩)
  | (refine Z5 (J8 (t:=2) (l:=1000) (g:=1001) rfl rfl rfl (WI W2) (by rw [J0,Xb])) fun _=>?_
     exact Z1 results23 rfl rfl ⟨⟨some W2,hfin,hN2⟩,rfl⟩)
  |exact Z1 results23 rfl rfl ⟨⟨some So,hfin,hNo⟩,rfl⟩))
 · (
 refine Wa ?_ ?_<;>intro hb117
 · (
 (obtain rfl:o=6:=by simpa using hb117);obtain ⟨x1,x2,rfl⟩:∃x1 x2,l=[x1,x2]:=by
  rcases hcat with ⟨h,_⟩|⟨h,_⟩|⟨h,_⟩|⟨_,h⟩
  · omega
  · omega
  · omega
  · match l,h with
    |[x1,x2],_=>exact ⟨x1,x2,rfl⟩
 obtain ⟨P,_,e1,hMp,hNp⟩:=hP 0 x1 rfl;obtain ⟨Q,_,e2,hMq,hNq⟩:=hP 1 x2 rfl;have hn1:=hne x1 sM;have hW6:=ZpF a x1 x2;have hPm:∀w,w∈P↔w∈wT x1:=hMp.mem;have hQm:∀w,w∈Q↔w∈wT x2:=hMq.mem;refine Zq (Zz (l:=1000) 1500 rfl rfl) fun _=>?_;refine Zq (Zz (l:=1001) 1501 rfl rfl) fun _=>?_;refine Zh ?_;refine JX 119 fun h119 ho119=>?_;refine ZB ?_;refine Zq (Zz (l:=119) 1000 rfl rfl) fun _=>?_;refine Zq (Zb3 1001) fun _=>?_;(refine We [] [1] ?_<;>refine gDx 0 ?_<;>refine gDx 1 ?_<;>refine xD 2 rfl (Zg KX) ?_<;>(refine yD 3 rfl (ZG JR) fun v123 h=>?_;cases h)<;>refine gEx 4 ?_<;>refine xE 5 rfl (Zg KX) ?_<;>(refine yE 6 rfl (ZG JR) fun v126 h=>?_;cases h)<;>(refine aDr 7 fun bk=>?_)<;>(refine WA [1500,1501] 127 (call50) (Zcg h119 v123 v126 SetM.nil [] P Q rfl (fun w h=>by cases h) hNp hNq (fun w h=>XJ (hMp.len h) dC) (fun w h=>XJ (hMq.len h) dC)) (fun v127 p127 h127 hR127=>?_);obtain ⟨B1,VB1,bb1,hVB1,hNB1,hMB1,rfl,rfl,rfl⟩:=hR127;refine Zp (J8 (t:=14) (l:=1000) (g:=1001) rfl rfl rfl (WI B1) (by rw [J0,Xb])) fun _=>?_;refine Zp (Zz (l:=1500) 1000 rfl rfl) fun _=>?_;refine Zp (Zz (l:=1501) 1001 rfl rfl) fun _=>?_;rcases Le hMB1 with ⟨rfl,hG1⟩|⟨rfl,hB1⟩)<;>refine bE bk ?_<;>refine gEx 8 ?_<;>refine gEx 9 ?_<;>(first|refine kD 10 ?_|refine gDx 10 ?_)<;>(first|refine kD 11 ?_|refine gDx 11 ?_)<;>(first|refine kD 12 ?_|refine gDx 12 ?_)<;>(first|refine kD 13 ?_|refine xD 13 rfl (Zg KX) ?_)<;>(first|refine kD 14 ?_|(refine yD 14 rfl (ZG JR) fun v134 h=>?_;cases h))<;>(refine aDr 15 fun bk=>?_)<;>(first|refine kL ?_|(refine WA [] 135 (call50) (Zcg h24 h119 v134 SetM.nil [] B1 P rfl (fun w h=>by cases h) hNB1 hNp (fun w h=>XJ (hG1.len h) dC) (fun w h=>XJ (hMp.len h) dC)) (fun v135 p135 h135 hR135=>?_);obtain ⟨B2,VB2,bb2,hVB2,hNB2,hMB2,rfl,rfl,rfl⟩:=hR135;rcases Le hMB2 with ⟨rfl,hG2⟩|⟨rfl,hB2⟩))<;>refine bE bk ?_<;>(first|refine kD 16 ?_|refine gDx 16 ?_)<;>refine gEx 17 ?_<;>refine Kz ?_)<;>(
 refine cX ?_ ?_<;>intro hb137
 · first |exact bN hb137|(
 refine ZE ?_;refine Z1 results23 rfl rfl ⟨⟨none,?_⟩,rfl⟩;show BigW _;rw [hW6]
 first
  |exact (BigW.cat_l hn1 (hB1.sub fun w hw=>by rw [XQ,Wd] at hw;rw [Wd];simpa only [hPm,hQm] using hw)).sub fun w hw=>Xd.2 (.inl hw)
  | exact hB2.sub fun w hw=>by
     rw [XQ,Wd] at hw;obtain ⟨u,hu,v,hv,rfl⟩:=hw;have hu2:=(hG1.mem u).1 hu;rw [XQ,Wd] at hu2;obtain ⟨c,hc,d,hd,rfl⟩:=hu2;exact Xd.2 (.inl (Wd.2 ⟨_,Wd.2 ⟨c,(hPm c).1 hc,d,(hQm d).1 hd,rfl⟩,v,(hPm v).1 hv,rfl⟩)))
 · first | exact bN hb137|(
 refine Zh ?_;refine xL 138 Za (xL 139 (Zg KX) ?_);refine yU (ZG JR) fun v140=>?_;refine Zp (Tu (t:=140) 1002 rfl) fun vsA=>?_;obtain ⟨vsA,hA1,hA2⟩:=vsA;dsimp only;refine Jr 141 underlying50 (fun b141 r141 c141 es141 hkv141 hWf141=>?_);refine ZF ?_;have hB2m:∀w,w∈Gu B1 P↔w∈Gu (Gu (wT x1) (wT x2)) (wT x1):=fun w=>by
  (have h9:∀u,u∈B1↔u∈Gu (wT x1) (wT x2):=fun u=>by rw [hG1.mem,XQ,Wd,Wd];simp only [hPm,hQm]);rw [Wd,Wd];simp only [h9,hPm]
 refine Yd (ι:={q:Array Nat×List (List BA)×List (List BA)×List Value//Sx P es141 q.1 q.2.1∧SetM (Gu (Gu (wT x1) (wT x2)) (wT x1)++q.2.1) q.2.2.1∧NmS q.2.2.1∧q.2.2.2.length=q.2.2.1.length}) (fun k=>⟨[(4,_,_),(141,_,_)],[(1,_,_),(1002,_,_),(141,itv r141,itP b141 r141 c141 es141 k.1.1),(1001, .agg k.1.2.2.2.toArray, .agg (k.1.2.2.1.map Zs)),(1000,h24, .omap ((wks k.1.2.2.1).zip k.1.2.2.2))]⟩) (fun k=>(leftOf es141 k.1.1).size) ⟨(#[],[],B2,VB2),JP hkv141 (by rw [hA1,Xb]),hG2.congr fun w=>by rw [Xu,XQ];exact hB2m w,hNB2,hVB2⟩ ?_;rintro ⟨⟨seen,D,W2,V2⟩,hI,hM2,hN2,hV2⟩;dsimp only;dsimp only at hI hM2 hN2 hV2;refine Zh ?_;(refine Gn 141 142 hWf141 (fun hlf141=>?_) (fun e141 hle141=>?_)<;>refine ZB ?_)<;>(
 refine cX ?_ ?_<;>intro hb143
 · first |exact bN hb143|(
 refine nav ?_;obtain ⟨n,y,hy1,hy2,hy3,hyW,hI'⟩:=JQ hNp hWf141 hkv141 hI hle141;have hyl:=hMp.len hyW;refine Zi ?_;refine xM (Gp 141 hWf141 (Km hle141)) ?_;refine YJ ?_;refine Zq (Tv (t:=16) (g:=1002) rfl rfl hy2 (by rw [Xo,hy1];rfl) (WI P)) fun _=>?_;(refine Zi ?_<;>refine YW ?_<;>(refine WA [1,141,1002] 148 (call49) (SC h24 e141.val hM2 V2 y hV2 hN2 (hNp y hyW) oM) (fun v148 p148 h148 hR148=>?_);obtain ⟨W3,V3,b3,hV3,hN3,hM3,rfl,rfl,rfl⟩:=hR148;rcases Le hM3 with ⟨rfl,hG3⟩|⟨rfl,hB3⟩)<;>refine ZB ?_)<;>(
 refine cX ?_ ?_<;>intro hb149
 · first|exact bN hb149|(
 refine ZE ?_;refine Z1 results23 rfl rfl ⟨⟨none,?_⟩,rfl⟩;show BigW _;rw [hW6];refine hB3.sub fun w hw=>?_;simp only [Xd,Xn] at hw ⊢;rcases hw with (h|h)|rfl
 · exact .inl h
 · exact .inr ((hPm w).1 (LO hI w h))
 · exact .inr ((hPm w).1 hyW))
 · first|exact bN hb149|(
 refine nav ?_;refine Zm (
  ⟨(seen.push e141.born,D++[y],W3,V3),hI',by dsimp only;rw [←XA];exact hG3,hN3,hV3⟩
  ) (Js hWf141 hle141) sB sB)))
 · first |exact bN hb143|(
 (have hfin:SetM (wT (.mk 6 a [x1,x2])) W2:=hM2.congr fun w=>by rw [hW6,Xd,Xd,(JN hI hlf141).mem_iff,hPm]);refine Y5 ?_
 first
  | (refine Z5 (J8 (t:=2) (l:=1000) (g:=1001) rfl rfl rfl (WI W1) (by rw [J0,Xb])) fun _=>?_
     exact Z1 results23 rfl rfl ⟨⟨some W1,hfin,hN1⟩,rfl⟩)
  | (refine Z5 (J8 (t:=2) (l:=1000) (g:=1001) rfl rfl rfl (WI W2) (by rw [J0,Xb])) fun _=>?_
     exact Z1 results23 rfl rfl ⟨⟨some W2,hfin,hN2⟩,rfl⟩)
  |exact Z1 results23 rfl rfl ⟨⟨some So,hfin,hNo⟩,rfl⟩)))))
 · (
 (have ho6:¬o=6:=by simpa using hb117);(have ho4:¬o=4:=by simpa using hb98);have ho35:o=3∨o=5:=oM;refine Wh ?_;refine WA [1] 56 (call49) (AFh.nil1 (SC h24 (.slice none 0 0) SetM.nil [] [] rfl (fun w h=>by cases h) (fun s h=>by cases h) (Xg _))) (fun v56 p56 h56 hR56=>?_);obtain ⟨W0,V0,b0,hV0,hN0,hM0,rfl,rfl,rfl⟩:=hR56;refine ZF ?_;have hG0:SetM [[]] W0:=(Le hM0).elim (fun h=>h.2) fun h=>Qc h.2 (Zbo (w:=[]) (Xg _) rfl);refine Zq (J8 (t:=4) (l:=1000) (g:=1001) rfl rfl rfl (WI W0) (by rw [J0,Xb])) fun _=>?_;refine Zi ?_;refine xL 57 Za (xL 58 (Zy KX) (xL 59 Za ?_));refine ZF ?_;refine Yd (ι:={q:Nat×Value×List (List BA)//q.1≤l.length∧SetM (((l.take q.1).map wT).foldl (Jf o) [[]]) q.2.2∧NmS q.2.2}) (fun k=>⟨[(1,_,_),(57,_,_),(58,_,_),(4,k.1.2.1,SJ k.1.2.2),(59, .int .i64 k.1.1,Zc k.1.1)],[(1,_,_)]⟩) (fun k=>l.length-k.1.1) ⟨(0,h24,W0),Xg _,hG0,hN0⟩ ?_;rintro ⟨⟨i,ov,So⟩,hi,hSo,hNo⟩;dsimp only;dsimp only at hi hSo hNo;refine Ys ?_ ?_<;>intro hb60
 · (
 obtain ⟨x,hx⟩:=gS l i;obtain ⟨Wi,hWi,e1,hMi,hNi⟩:=hP i x hx;have hSl:∀w∈So,w.length≤500:=fun w h=>XJ (hSo.len h) dC;have hWl:∀w∈Wi,w.length≤500:=fun w h=>XJ (hMi.len h) dC;refine Zh ?_;refine xM (Zg KX) ?_;refine yU (ZG JR) fun v62=>?_;refine ZQ ?_;refine JX 63 fun h63 ho63=>?_;refine ZB ?_;refine Zq (Zz (l:=63) 1000 rfl rfl) fun _=>?_;refine Zq (Zb3 1001) fun _=>?_;(refine Zi ?_ <;> refine xM (Zb 1 YS) ?_<;>refine yV (Ze 1 ZM) ?_<;>refine YW ?_<;>(refine bLd 67 (fun hb67=>?_) (fun hb67=>?_)<;>refine kZ ?_)<;>refine Jz ?_<;>(first|refine kL ?_|(refine WA [1] 71 (call50) (Zcg h63 ov v62 SetM.nil [] So Wi rfl (fun w h=>by cases h) hNo hNi hSl hWl) (fun v71 p71 h71 hR71=>?_);obtain ⟨W3,V3,b3,hV3,hN3,hM3,rfl,rfl,rfl⟩:=hR71;rcases Le hM3 with ⟨rfl,hG3⟩|⟨rfl,hB3⟩))<;>refine Wz ?_)<;>(
 refine KI (fun q:{q:List (List BA)×List Value//SetM (N3 o So Wi) q.1∧NmS q.1∧q.2.length=q.1.length}=>⟨[(1,ZD (Zr h1) 0, .val (ZD (Zr h1) 0)),(4,ov,SJ So),(18,v62,SJ Wi),(19,h63, .val h63),(57,hv, .sl Ws.length (Ws.map SJ)),(58, .int .i64 (Ws.length:Int),Zc Ws.length),(59, .int .i64 (i:Int),Zc i)],[(1,h1, .own 24 3 1 [Zc o,Zt a,Yt l]),(1001, .agg q.1.2.toArray, .agg (q.1.1.map Zs)),(1000,h63, .omap ((wks q.1.1).zip q.1.2))]⟩) ?_ ?_
 · refine cX ?_ ?_<;>intro hb73
   · first|exact bN hb73|(
 refine ZE ?_;exact Z1 results23 rfl rfl ⟨⟨none,Zei ho35 hx hne (by
  (have h3:o=3:=by simpa using hb67);rw [Zj9 h3];exact hB3.sub fun w hw=>by rw [XQ,Wd] at hw;rw [Wd];simpa only [hSo.mem,hMi.mem] using hw)⟩,rfl⟩)
   · first|exact bN hb73|(
 refine nav ?_
 first
  |exact ZS ⟨(W3,V3),by unfold N3;rw [Qb (by simpa using hb67)];exact hG3,hN3,hV3⟩ sB sB
  |exact ZS ⟨([],[]),by unfold N3;rw [Qa (by simpa using hb67)];exact SetM.nil,fun w h=>(by cases h),rfl⟩ sB sB)
 · rintro ⟨⟨W4, V4⟩, hM4,hN4,hV4⟩;dsimp only at hM4 hN4 hV4 ⊢;refine Wh ?_;refine Zp (Tu (t:=74) 1002 rfl) fun vsA=>?_;obtain ⟨vsA,hA1,hA2⟩:=vsA;dsimp only;refine Jr 75 underlying50 (fun b75 r75 c75 es75 hkv75 hWf75=>?_);refine ZF ?_;refine Yd (ι:={q:Array Nat×List (List BA)×List (List BA)×List Value//Sx So es75 q.1 q.2.1∧SetM (N3 o So Wi++Q5 o q.2.1 Wi) q.2.2.1∧NmS q.2.2.1∧q.2.2.2.length=q.2.2.1.length}) (fun k=>⟨[(1,_,_),(18,_,_),(19,_,_),(57,_,_),(58,_,_),(59,_,_),(75,_,_)],[(1,_,_),(1002,_,_),(75,itv r75,itP b75 r75 c75 es75 k.1.1),(1001, .agg k.1.2.2.2.toArray, .agg (k.1.2.2.1.map Zs)),(1000,h63, .omap ((wks k.1.2.2.1).zip k.1.2.2.2))]⟩) (fun k=>(leftOf es75 k.1.1).size) ⟨(#[],[],W4,V4),JP hkv75 (by rw [hA1,Xb]),hM4.congr fun w=>by simp [Q5,EU],hN4,hV4⟩ ?_;rintro ⟨⟨seen,D,W5,V5⟩,hI,hM5,hN5,hV5⟩;dsimp only;dsimp only at hI hM5 hN5 hV5;refine Zh ?_;(refine Gn 75 76 hWf75 (fun hlf75=>?_) (fun e75 hle75=>?_)<;>refine ZB ?_)<;>(
 refine cX ?_ ?_<;>intro hb77
 · first | exact bN hb77|(
 refine nav ?_;obtain ⟨n,y,hy1,hy2,hy3,hyW,hI'⟩:=JQ hNo hWf75 hkv75 hI hle75;have hyl:=hSo.len hyW;refine Zi ?_;refine xM (Gp 75 hWf75 (Km hle75)) ?_;refine YJ ?_;refine Zq (Tv (t:=21) (g:=1002) rfl rfl hy2 (by rw [Xo,hy1];rfl) (WI So)) fun _=>?_;refine GH ?_;refine Zp (Tu (t:=80) 1003 rfl) fun vsB=>?_;obtain ⟨vsB,hB1,hB2⟩:=vsB;dsimp only;refine Jr 81 underlying50 (fun b81 r81 c81 es81 hkv81 hWf81=>?_);refine ZF ?_;refine Yd (ι:={q:Array Nat×List (List BA)×List (List BA)×List Value//Sx Wi es81 q.1 q.2.1∧SetM (N3 o So Wi++Q5 o D Wi++Q5x o y q.2.1) q.2.2.1∧NmS q.2.2.1∧q.2.2.2.length=q.2.2.1.length}) (fun k=>⟨[(1,_,_),(18,_,_),(19,_,_),(21,_,_),(57,_,_),(58,_,_),(59,_,_),(75,_,_),(81,_,_)],[(1,_,_),(75,_,_),(1002,_,_),(1003,_,_),(81,itv r81,itP b81 r81 c81 es81 k.1.1),(1001, .agg k.1.2.2.2.toArray, .agg (k.1.2.2.1.map Zs)),(1000,h63, .omap ((wks k.1.2.2.1).zip k.1.2.2.2))]⟩) (fun k=>(leftOf es81 k.1.1).size) ⟨(#[],[],W5,V5),JP hkv81 (by rw [hB1,Xb]),hM5.congr fun w=>by simp [Q5x],hN5,hV5⟩ ?_;rintro ⟨⟨seen2,D2,W6,V6⟩,hI2,hM6,hN6,hV6⟩;dsimp only;dsimp only at hI2 hM6 hN6 hV6;refine Zh ?_;(refine Gn 81 82 hWf81 (fun hlf81=>?_) (fun e81 hle81=>?_)<;>refine ZB ?_)<;>(
 refine cX ?_ ?_<;>intro hb83
 · first | exact bN hb83|(
 refine nav ?_;obtain ⟨n2,z,hz1,hz2,hz3,hzW,hI2'⟩:=JQ hNi hWf81 hkv81 hI2 hle81;have hzl:=hMi.len hzW;refine Zi ?_;refine xM (Gp 81 hWf81 (Km hle81)) ?_;refine YJ ?_;refine Zq (Tv (t:=23) (g:=1003) rfl rfl hz2 (by rw [Xo,hz1];rfl) (WI Wi)) fun _=>?_;(refine Zi ?_<;>refine xM (Zb 1 YS) ?_<;>refine yV (Ze 1 ZM) ?_<;>refine YW ?_<;>(refine bLd 89 (fun hb89=>?_) (fun hb89=>?_)<;>refine kZ ?_)<;>refine Jz ?_<;>(first|refine kL ?_|(refine WA [1,75,81,1002,1003] 93 (call51) (Zrv h63 e75.val e81.val hM6 V6 y z hV6 hN6 (hNo y hyW) (hNi z hzW) hyl hzl) (fun v93 p93 h93 hR93=>?_);obtain ⟨W7,V7,b7,hV7,hN7,hM7,rfl,rfl,rfl⟩:=hR93;rcases Le hM7 with ⟨rfl,hG7⟩|⟨rfl,hB7⟩))<;>refine Wz ?_)<;>(
 refine cX ?_ ?_<;>intro hb95
 · first|exact bN hb95|(
 refine ZE ?_;exact Z1 results23 rfl rfl ⟨⟨none,Zei ho35 hx hne (by
  (have h5:o=5:=by simpa using hb89);rw [Zka (show ¬o=3 by omega)];refine hB7.sub fun w hw=>?_;unfold N3 Q5 Q5x at hw;rw [Qa oM,Qb h5,Qb h5] at hw;simp only [XQ,Xd,TE,X7] at hw;rw [TE];rcases hw with (⟨c,hc,d,hd,h⟩|⟨d,hd,h⟩)|h
  · exact ⟨c,(hSo.mem c).1 (LO hI c hc),d,(hMi.mem d).1 hd,h⟩
  · exact ⟨y,(hSo.mem y).1 hyW,d,(hMi.mem d).1 (LO hI2 d hd),h⟩
  · exact ⟨y,(hSo.mem y).1 hyW,z,(hMi.mem z).1 hzW,h⟩)⟩,rfl⟩)
 · first | exact bN hb95|(
 refine nav ?_
 first
  | (exact Zm (
      ⟨(seen2.push e81.born,D2++[z],W7,V7),hI2',hG7.congr fun w=>by
        (have h5:o=5:=by simpa using hb89);dsimp only;unfold Q5x;rw [Qb h5,Qb h5,XT,XA (N3 o So Wi++Q5 o D Wi)];simp,hN7,hV7⟩
      ) (Js hWf81 hle81) sB sB)
  | (exact Zm (
      ⟨(seen2.push e81.born,D2++[z],W6,V6),hI2',hM6.congr fun w=>by
        (have h5:¬o=5:=by simpa using hb89);dsimp only;unfold Q5x;rw [Qa h5,Qa h5],hN6,hV6⟩
      ) (Js hWf81 hle81) sB sB))))
 · first|exact bN hb83|(
 refine nav ?_;refine Zm (
  ⟨(seen.push e75.born,D++[y],W6,V6),hI',(hM6.congr fun w=>Zm9 (JN hI2 hlf81)).congr fun w=>ZpD.symm,hN6,hV6⟩
  ) (Js hWf75 hle75) sB sB)))
 · first|exact bN hb77|(
 refine Wh ?_;refine Zp (J8 (t:=96) (l:=1000) (g:=1001) rfl rfl rfl (WI W5) (by rw [J0,Xb])) fun _=>?_;refine Wy ?_;refine Yh (
  ⟨(i+1,h63,W5),by show i+1≤l.length;omega,hM5.congr fun w=>by
    dsimp only;rw [Zw hx,XC,Vp];exact Zna ho35 hSo.mem hMi.mem (JN hI hlf75),hN5⟩
  )))))
 · (
 obtain rfl:i=l.length:=oM;rw [XH] at hSo;have hfin:SetM (wT (.mk o a l)) So:=by
  rw [wT,R6,Qa ho1];unfold ζv;rw [Qa ho4,Qa ho6];exact hSo
 refine Y5 ?_
 first
  | (refine Z5 (J8 (t:=2) (l:=1000) (g:=1001) rfl rfl rfl (WI W1) (by rw [J0,Xb])) fun _=>?_
     exact Z1 results23 rfl rfl ⟨⟨some W1,hfin,hN1⟩,rfl⟩)
  | (refine Z5 (J8 (t:=2) (l:=1000) (g:=1001) rfl rfl rfl (WI W2) (by rw [J0,Xb])) fun _=>?_
     exact Z1 results23 rfl rfl ⟨⟨some W2,hfin,hN2⟩,rfl⟩)
  |exact Z1 results23 rfl rfl ⟨⟨some So,hfin,hNo⟩,rfl⟩)))))
theorem ZH:AggT prog 24 3=true:=kR
theorem Sf:ElT prog 22 24 3 48 (.agg #[(.int .i64 0),(.string ByteArray.empty),(.slice none 0 0)]):=⟨underlying22,by kernel_rfl,rfl,dC⟩
theorem Kh:FldT prog 24 0 0=true:=kR
theorem EO:FldT prog 24 1 1=true:=kR
theorem TM:FldT prog 24 2 2=true:=kR
theorem Rv:NoAgg prog 22=true:=kR
theorem Ga:NoAgg prog 3=true:=kR
theorem Zej:NoAgg prog 9=true:=kR
theorem JS:SlT prog 22 24 3=true:=kR
theorem Lg:J2 prog 24=some ((.agg #[(.int .i64 0),(.string ByteArray.empty),(.slice none 0 0)]),([0,1,2]:List Nat).map fun o=>(o,1)):=kR
theorem KY:ZeroT prog 24 (.agg #[(.int .i64 0),(.string ByteArray.empty),(.slice none 0 0)]):=by unfold ZeroT;kernel_rfl
theorem Ce (x y:Nd):PV.sl 2 ([x,y].flatMap cN)=Yt [x,y]:=by
 unfold Yt
 rw [WV];rfl
theorem ZhP (o:Int) (a:BA):Rr (.agg [Zc o,Zt a, .val (.slice none 0 0)]) (pTr (.mk o a [])):=Rr.agg rfl fun i x b ha hb=>by
 match i with
 |0=>cases ha;cases hb;exact Rr.rfl' _
 |1=>cases ha;cases hb;exact Rr.rfl' _
 |2=>cases ha;cases hb;exact Rr.nil
 |i+3=>simp at ha
theorem Znb {l:List Nd} {k:Nat} {x:Nd} (h:l[k]? =some x):(JC l)[k]? =some (YF x):=by
 rw [E6,Xo,h];rfl
theorem Znc (l:List Nd):(JC l).length=l.length:=by rw [E6,Xb]
theorem Hp {t:Nd} (h:rightT t=true) (h6:t.op=6):∃x y,t.l=[x,y]:=by
 unfold rightT at h
 rw [h6] at h
 simp at h
 match t.l,h.1 with
 |[x,y],_=>exact ⟨x,y,rfl⟩
theorem OD {x y:Nd}:szL [x,y]=szT x+szT y:=by simp only [szL];omega
theorem Zkb : ∀ t : Nd,okT t=true→szT t≤1000000→AF prog 72 [pTr t] (· =pTr (YF t)):=Nd.ind fun o a l ih hok hs=>by
 have e0:pTr (.mk o a l)= .agg [Zc o,Zt a,Yt l]:=rfl
 rw [e0]
 obtain ⟨hr,hp⟩:=Y3.1 hok
 have hf:=Oy _ hok hs
 have hsz:=P0 (.mk o a l)
 have hlz:=Ox l
 have hops:=H6 hr
 simp only [Nd.l,Nd.op] at hp hsz hops
 have hnl:=Znc l
 have hnz:szL (JC l)≤szL l:=by
  have:=Dh (.mk o a l);clear this e0 hr hf hsz hlz hnl;clear ih hok hs;induction l with
  |nil=>exact Xe _
  | cons x l ih2=>
    have h3:=Dh x;have h4:=ih2 (fun y hy=>hp y (Xw _ hy));rw [JC,szL,szL];omega
 have hnf:∀y∈JC l,FitT y:=fun y hy=>by
  rw [E6] at hy;obtain ⟨x,hx,rfl⟩:=Xh.1 hy;have:=Jh hx;exact Oz (hp x hx) oM
 refine AF.b1 70 func72 rfl ntmps72 (Xa rfl) fun w0 M0 v0 _=>?_
 refine Zh ?_
 refine ZV 1 3 fun h1=>?_;refine Zx zT 3 2 KY fun h2=>?_;refine Yc ?_;refine ZB ?_
 refine Zq (Wr 200 24 3 rfl) fun _=>?_
 refine Zi ?_;refine xM (Zb 1 TM) ?_;refine yU (Ze 1 Rv) fun v9=>?_;refine xL 10 (Zy JS) (xL 11 Za ?_);refine ZF ?_
 refine Yd (ι:={q:Nat×Value//q.1≤l.length∧q.2.oneCell'=true}) (fun k=>⟨[(1,_,_),(2,_,_),(9,_,_),(10,_,_),(3,k.1.2, .val k.1.2),(11, .int .i64 k.1.1,Zc k.1.1)],[(1,_,_),(2,_,_),(200,k.1.2, .own 24 3 ((JC l).take k.1.1).length (Z9 ((JC l).take k.1.1)))]⟩) (fun k=>l.length-k.1.1) ⟨(0, .slice none 0 0),Xg _,rfl⟩ ?_
 rintro ⟨⟨k,hO⟩,hk,hOo⟩
 dsimp only
 dsimp only at hk hOo
 refine Ys ?_ ?_<;>intro hb12
 · (
 obtain ⟨x,hx⟩:=gS l k;have e1:((Z9 l).drop (k*3)).take 3=[Zc x.op,Zt x.act,Yt x.l]:=ZT hx;have e2:=Yg hx;have hxm:=Xc hx;have hxs:=Jh hxm;have hsn:=Zw (Znb hx);(have hsl:((JC l).take (k+1)).length=((JC l).take k).length+1:=by rw [hsn,Xf];rfl);(have hsl2:((JC l).take k).length≤1000000:=by rw [XG];omega);refine Zh ?_;refine xM (Zg JS) ?_;refine yU (YD ZH) fun v14=>?_;refine Zx zT 3 5 KY fun h5=>?_;refine Zu 5 ZH ?_;refine OX ?_;refine yU (Zj 5 ZH) fun v16=>?_;refine cD (cA call72 (ih x hxm (hp x hxm) oM)) fun v17 hv17=>?_;clear hv17;refine JW 18 Sf fun h18 ho18=>?_;refine WN 200 18 19 Sf fun h19 ho19=>?_;refine Zp (Zz (l:=19) 200 rfl rfl) fun _=>?_;refine Zp (Y1 (l:=200) (p':= .own 24 3 ((JC l).take (k+1)).length (Z9 ((JC l).take (k+1)))) rfl (Eq.trans (congrArg (PV.own 24 3 _) (show _=Z9 ((JC l).take k)++cN (YF x) from rfl)) (by rw [Zbf,←hsn,hsl]))) fun _=>?_;refine Wy ?_;refine Yh (
  ⟨(k+1,h19),Zd hx,ho19⟩
  ))
 · (
 rw [Xq (show (JC l).length≤k by omega)];refine Zh ?_;refine xM (Zb 1 Kh) ?_;refine yV (Ze 1 Ga) ?_;refine GG ?_ ?_<;>intro hb23
 · (
 refine nav ?_;refine cX ?_ ?_<;>intro hb23
 · (
 refine Zh ?_;refine xM (Zb 1 Kh) ?_;refine yV (Ze 1 Ga) ?_;refine xM (Zb 1 EO) ?_;refine yV (Ze 1 Zej) ?_;refine xM (ZX Lg) ?_;refine Zp (ZdT (t:=30) (p':=pTr (.mk o a [])) rfl (ZhP o a)) fun _=>?_;refine Zu 2 ZH ?_;refine ZF ?_;refine Z4 (k:=3) 2 results72 ?_;rw [YF,Zab,Qb oM];rfl)
 · (
 refine Wa ?_ ?_<;>intro hb31
 · (
 obtain ⟨f0,s0,hl2⟩:=Hp hr (show o=6 from by omega);obtain rfl:l=[f0,s0]:=hl2;have ho6:o=6:=oM;(have hres:YF (.mk o a [f0,s0])=ZdM (Gt (YF f0) (YF s0)):=by rw [YF,Zab,Qa oM,Qb ho6];rfl);have hF1:=ζJ (hp f0 sM);have hS1:=ζJ (hp s0 sM);have hFz:=Dh f0;have hSz:=Dh s0;have hfF:=hnf (YF f0) (by simp [JC]);have hfS:=hnf (YF s0) (by simp [JC]);rw [OD] at hsz;have e3:((Z9 (JC [f0,s0])).drop (0*3)).take 3=[Zc (YF f0).op,Zt (YF f0).act,Yt (YF f0).l]:=ZT (k:=0) rfl;have e4:0*3+3≤(Z9 (JC [f0,s0])).length:=Yg (k:=0) (x:=YF f0) rfl;have e5:((Z9 (JC [f0,s0])).drop (1*3)).take 3=[Zc (YF s0).op,Zt (YF s0).act,Yt (YF s0).l]:=ZT (k:=1) rfl;have e6:1*3+3≤(Z9 (JC [f0,s0])).length:=Yg (k:=1) (x:=YF s0) rfl;refine nav ?_;refine KI (fun q:Value×Value×Value=>⟨[(2,ZD (Zr q.1) 0, .val (ZD (Zr q.1) 0)),(6,ZD (Zr q.2.1) 0, .val (ZD (Zr q.2.1) 0)),(7,ZD (Zr q.2.2) 0, .val (ZD (Zr q.2.2) 0))],[(2,q.1, .own 24 3 1 [.val (.int .i64 0), .val (.string ByteArray.empty), .val (.slice none 0 0)]),(6,q.2.1, .own 24 3 1 [Zc (YF f0).op,Zt (YF f0).act,Yt (YF f0).l]),(7,q.2.2, .own 24 3 1 [Zc (YF s0).op,Zt (YF s0).act,Yt (YF s0).l])]⟩) ?_ ?_
 · (refine We [] [200] ?_<;>refine gDx 0 ?_<;>refine xD 1 rfl (Zo 200 JS) ?_<;>(refine yD 2 rfl (Zj 200 ZH) fun v35 h=>?_;cases h)<;>refine gDx 3 ?_<;>refine xD 4 rfl (Zo 200 JS) ?_<;>(refine yD 5 rfl (Zj 200 ZH) fun v38 h=>?_;cases h)<;>(refine Wm 6 7 kR ?_ ?_;rotate_right;(focus ((refine aWr fun bk=>?_)<;>refine Zx zT 3 7 KY fun h7=>?_<;>refine bE bk ?_<;>(refine aDr 6 fun bk=>?_)<;>refine Zx zT 3 6 KY fun h6=>?_<;>refine bE bk ?_<;>(refine aDr 8 fun bk=>?_)<;>refine Zu 6 ZH ?_<;>refine bE bk ?_<;>(refine aDr 9 fun bk=>?_)<;>refine Zu 7 ZH ?_<;>refine bE bk ?_));rotate_right;(focus ((refine aWr fun bk=>?_)<;>refine Zx zT 3 6 KY fun h6=>?_<;>refine bE bk ?_<;>(refine aDr 7 fun bk=>?_)<;>refine Zx zT 3 7 KY fun h7=>?_<;>refine bE bk ?_<;>(refine aDr 8 fun bk=>?_)<;>refine Zu 6 ZH ?_<;>refine bE bk ?_<;>(refine aDr 9 fun bk=>?_)<;>refine Zu 7 ZH ?_<;>refine bE bk ?_)))<;>refine Kz ?_)<;>(
 exact ZS (_,_,_) ⟨rfl,rfl,rfl,trivial⟩ ⟨rfl,rfl,rfl,trivial⟩)
 · rintro ⟨h2,h6,h7⟩;dsimp only;clear e3 e4 e5 e6;generalize YF f0=F at hres hF1 hFz hfF ⊢;generalize YF s0=S at hres hS1 hSz hfS ⊢;refine Zh ?_;refine xM (Zb 6 Kh) ?_;refine yV (Ze 6 Ga) ?_;refine ZB ?_;refine KI (fun _:Unit=>⟨[(2,ZD (Zr h2) 0, .val (ZD (Zr h2) 0)),(6,ZD (Zr h6) 0, .val (ZD (Zr h6) 0)),(7,ZD (Zr h7) 0, .val (ZD (Zr h7) 0))],[(2,h2, .own 24 3 1 [.val (.int .i64 0), .val (.string ByteArray.empty), .val (.slice none 0 0)]),(6,h6, .own 24 3 1 (cN (Gt F S).1)),(7,h7, .own 24 3 1 (cN (Gt F S).2))]⟩) ?_ ?_
   · refine cX ?_ ?_<;>intro hb41
     · (
 obtain ⟨A,B,hAB⟩:=Hp (Y3.1 hF1).1 hb41;(have hlop:Gt F S=(A,Hf 4 [B,S]):=by unfold Gt;rw [Qb hb41,hAB]);have hfA:=hfF.p A (by rw [hAB];simp);have hfB:=hfF.p B (by rw [hAB];simp);have hFe:=P0 F;rw [hAB,OD] at hFe;rw [hAB];have e3:((Z9 [A,B]).drop (0*3)).take 3=[Zc A.op,Zt A.act,Yt A.l]:=ZT (k:=0) rfl;have e4:0*3+3≤(Z9 [A,B]).length:=Yg (k:=0) (x:=A) rfl;have e5:((Z9 [A,B]).drop (1*3)).take 3=[Zc B.op,Zt B.act,Yt B.l]:=ZT (k:=1) rfl;have e6:1*3+3≤(Z9 [A,B]).length:=Yg (k:=1) (x:=B) rfl;have hj:=Ca 4 [B,S] dC dC (fun x hx=>by simp only [Xk,List.not_mem_nil,or_false] at hx;rcases hx with h|h<;>rw [h]<;>assumption) (by rw [OD];omega);refine nav ?_;(refine We [11,12] [6,7] ?_<;>refine xDT 0 42 rfl (Zb 6 TM) ?_<;>(refine yDT 1 43 rfl (Ze 6 Rv) fun v43 h=>?_;cases h)<;>refine xDT 2 44 rfl (Zg JS) ?_<;>(refine yDT 3 45 rfl (YD ZH) fun v45 h=>?_;cases h)<;>refine xDT 4 46 rfl (Zb 6 TM) ?_<;>(refine yDT 5 47 rfl (Ze 6 Rv) fun v47 h=>?_;cases h)<;>refine xDT 6 48 rfl (Zg JS) ?_<;>(refine yDT 7 49 rfl (YD ZH) fun v49 h=>?_;cases h)<;>(refine yE 8 rfl (Zj 7 ZH) fun v50 h=>?_;cases h)<;>(refine aDr 9 fun bk=>?_)<;>(refine Sz (kk:=3) (xs:=[_,_]) (cs:=[[_,_,_],[_,_,_]]) 51 Sf fun h51 ho51=>?_;refine Zp (En.freeze (l:=51) (t:=51) rfl rfl) fun _=>?_;refine Zp (Kt (t:=51) (p':=Yt [B,S]) rfl (Eq.trans (show _=PV.sl 2 ([B,S].flatMap cN) from rfl) (Ce B S))) fun _=>?_)<;>refine bE bk ?_<;>(refine Z6 10 kR ?_)<;>(refine Yz (d:=52) rfl (cA (call120) hj) fun v52 h=>?_;cases h)<;>(refine Z6 11 kR ?_)<;>(refine ZdY rfl rfl fun DQ bk=>?_)<;>refine Zu 6 ZH ?_<;>refine Ww (bk _ ?_)<;>(refine Zhz 12 kR rfl rfl fun DQ bk=>?_)<;>refine Zu 7 ZH ?_<;>refine Ww (bk _ ?_)<;>refine ZhA kR (nav ?_)<;>try dsimp only)
 refine Yq (Y1 (l:=6) (p':= .own 24 3 1 (cN (Gt F S).1)) rfl (by rw [hlop];rfl)) fun _=>?_;refine Yq (Y1 (l:=7) (p':= .own 24 3 1 (cN (Gt F S).2)) rfl (by rw [hlop];rfl)) fun _=>?_;exact ZS () sB sB)
     · (
 (have hlop:Gt F S=(F,S):=by unfold Gt;rw [Qa hb41]);refine Zq (Y1 (l:=6) (p':= .own 24 3 1 (cN (Gt F S).1)) rfl (by rw [hlop];rfl)) fun _=>?_;refine Zq (Y1 (l:=7) (p':= .own 24 3 1 (cN (Gt F S).2)) rfl (by rw [hlop];rfl)) fun _=>?_;refine nav ?_;exact ZS () sB sB)
   · rintro _;unfold ZdM at hres;generalize (Gt F S).1=X at hres ⊢;generalize (Gt F S).2=Y at hres ⊢;have ec:∀t:Nd,cN t=[Zc t.op,Zt t.act,Yt t.l]:=fun _=>rfl;rw [ec,ec];refine Zh ?_;(refine xM (Zb 6 Kh) ?_<;>refine yV (Ze 6 Ga) ?_<;>refine YW ?_<;>(refine bLd 56 (fun hb56=>?_) (fun hb56=>?_)<;>(first|refine kL ?_|refine xM (Zb 7 Kh) ?_))<;>(first|refine kL ?_|refine yV (Ze 7 Ga) ?_)<;>refine Wz ?_)<;>(
 refine cX ?_ ?_<;>intro hb60
 · first|exact bN hb60|(
 rw [Qb oM] at hres;refine Zh ?_;refine xM (ZX Lg) ?_;refine Zp (ZdT (t:=61) (p':=pTr ζ9) rfl Zf4) fun _=>?_;refine Zu 2 ZH ?_;refine ZF ?_;refine Z4 (k:=3) 2 results72 ?_;rw [hres];rfl)
 · (
 rw [Qa oM] at hres;refine Zh ?_;refine yU (Zj 6 ZH) fun v62=>?_;refine yU (Zj 7 ZH) fun v63=>?_;refine Sz (kk:=3) (xs:=[_,_]) (cs:=[[_,_,_],[_,_,_]]) 64 Sf fun h64 ho64=>?_;refine Zp (En.freeze (l:=64) (t:=64) rfl rfl) fun _=>?_;refine Zp (Kt (t:=64) (p':=Yt [X,Y]) rfl (Eq.trans (show _=PV.sl 2 ([X,Y].flatMap cN) from rfl) (Ce X Y))) fun _=>?_;refine xM (ZX Lg) ?_;refine Zu 2 ZH ?_;refine ZF ?_;refine Z4 (k:=3) 2 results72 ?_;rw [hres];rfl)))
 · (
 refine nav ?_;refine Zq (En.freeze (l:=200) (t:=3) rfl rfl) fun _=>?_;rw [Rq _ _ _ rfl];refine Zi ?_;refine xM (Zb 1 Kh) ?_;refine yV (Ze 1 Ga) ?_;refine Yv ?_;refine cD (cA call120 (Ca o (JC l) oM oM hnf oM)) fun v69 hv69=>?_;clear hv69;refine Zu 2 ZH ?_;refine ZF ?_;refine Z4 (k:=3) 2 results72 ?_;rw [YF,Zab,Qa oM,Qa oM];rfl)))
 · (
 refine Wa ?_ ?_<;>intro hb23
 · (
 refine Zh ?_;refine xM (Zb 1 Kh) ?_;refine yV (Ze 1 Ga) ?_;refine xM (Zb 1 EO) ?_;refine yV (Ze 1 Zej) ?_;refine xM (ZX Lg) ?_;refine Zp (ZdT (t:=30) (p':=pTr (.mk o a [])) rfl (ZhP o a)) fun _=>?_;refine Zu 2 ZH ?_;refine ZF ?_;refine Z4 (k:=3) 2 results72 ?_;rw [YF,Zab,Qb oM];rfl)
 · (
 refine Wa ?_ ?_<;>intro hb31
 · (
 obtain ⟨f0,s0,hl2⟩:=Hp hr (show o=6 from by omega);obtain rfl:l=[f0,s0]:=hl2;have ho6:o=6:=oM;(have hres:YF (.mk o a [f0,s0])=ZdM (Gt (YF f0) (YF s0)):=by rw [YF,Zab,Qa oM,Qb ho6];rfl);have hF1:=ζJ (hp f0 sM);have hS1:=ζJ (hp s0 sM);have hFz:=Dh f0;have hSz:=Dh s0;have hfF:=hnf (YF f0) (by simp [JC]);have hfS:=hnf (YF s0) (by simp [JC]);rw [OD] at hsz;have e3:((Z9 (JC [f0,s0])).drop (0*3)).take 3=[Zc (YF f0).op,Zt (YF f0).act,Yt (YF f0).l]:=ZT (k:=0) rfl;have e4:0*3+3≤(Z9 (JC [f0,s0])).length:=Yg (k:=0) (x:=YF f0) rfl;have e5:((Z9 (JC [f0,s0])).drop (1*3)).take 3=[Zc (YF s0).op,Zt (YF s0).act,Yt (YF s0).l]:=ZT (k:=1) rfl;have e6:1*3+3≤(Z9 (JC [f0,s0])).length:=Yg (k:=1) (x:=YF s0) rfl;refine nav ?_;refine KI (fun q:Value×Value×Value=>⟨[(2,ZD (Zr q.1) 0, .val (ZD (Zr q.1) 0)),(6,ZD (Zr q.2.1) 0, .val (ZD (Zr q.2.1) 0)),(7,ZD (Zr q.2.2) 0, .val (ZD (Zr q.2.2) 0))],[(2,q.1, .own 24 3 1 [.val (.int .i64 0), .val (.string ByteArray.empty), .val (.slice none 0 0)]),(6,q.2.1, .own 24 3 1 [Zc (YF f0).op,Zt (YF f0).act,Yt (YF f0).l]),(7,q.2.2, .own 24 3 1 [Zc (YF s0).op,Zt (YF s0).act,Yt (YF s0).l])]⟩) ?_ ?_
 · (refine We [] [200] ?_<;>refine gDx 0 ?_<;>refine xD 1 rfl (Zo 200 JS) ?_<;>(refine yD 2 rfl (Zj 200 ZH) fun v35 h=>?_;cases h)<;>refine gDx 3 ?_<;>refine xD 4 rfl (Zo 200 JS) ?_<;>(refine yD 5 rfl (Zj 200 ZH) fun v38 h=>?_;cases h)<;>(refine Wm 6 7 kR ?_ ?_;rotate_right;(focus ((refine aWr fun bk=>?_)<;>refine Zx zT 3 7 KY fun h7=>?_<;>refine bE bk ?_<;>(refine aDr 6 fun bk=>?_)<;>refine Zx zT 3 6 KY fun h6=>?_<;>refine bE bk ?_<;>(refine aDr 8 fun bk=>?_)<;>refine Zu 6 ZH ?_<;>refine bE bk ?_<;>(refine aDr 9 fun bk=>?_)<;>refine Zu 7 ZH ?_<;>refine bE bk ?_));rotate_right;(focus ((refine aWr fun bk=>?_)<;>refine Zx zT 3 6 KY fun h6=>?_<;>refine bE bk ?_<;>(refine aDr 7 fun bk=>?_)<;>refine Zx zT 3 7 KY fun h7=>?_<;>refine bE bk ?_<;>(refine aDr 8 fun bk=>?_)<;>refine Zu 6 ZH ?_<;>refine bE bk ?_<;>(refine aDr 9 fun bk=>?_)<;>refine Zu 7 ZH ?_<;>refine bE bk ?_)))<;>refine Kz ?_)<;>(
 exact ZS (_,_,_) ⟨rfl,rfl,rfl,trivial⟩ ⟨rfl,rfl,rfl,trivial⟩)
 · rintro ⟨h2,h6,h7⟩;dsimp only;clear e3 e4 e5 e6;generalize YF f0=F at hres hF1 hFz hfF ⊢;generalize YF s0=S at hres hS1 hSz hfS ⊢;refine Zh ?_;refine xM (Zb 6 Kh) ?_;refine yV (Ze 6 Ga) ?_;refine ZB ?_;refine KI (fun _:Unit=>⟨[(2,ZD (Zr h2) 0, .val (ZD (Zr h2) 0)),(6,ZD (Zr h6) 0, .val (ZD (Zr h6) 0)),(7,ZD (Zr h7) 0, .val (ZD (Zr h7) 0))],[(2,h2, .own 24 3 1 [.val (.int .i64 0), .val (.string ByteArray.empty), .val (.slice none 0 0)]),(6,h6, .own 24 3 1 (cN (Gt F S).1)),(7,h7, .own 24 3 1 (cN (Gt F S).2))]⟩) ?_ ?_
   · refine cX ?_ ?_<;>intro hb41
     · (
 obtain ⟨A,B,hAB⟩:=Hp (Y3.1 hF1).1 hb41;(have hlop:Gt F S=(A,Hf 4 [B,S]):=by unfold Gt;rw [Qb hb41,hAB]);have hfA:=hfF.p A (by rw [hAB];simp);have hfB:=hfF.p B (by rw [hAB];simp);have hFe:=P0 F;rw [hAB,OD] at hFe;rw [hAB];have e3:((Z9 [A,B]).drop (0*3)).take 3=[Zc A.op,Zt A.act,Yt A.l]:=ZT (k:=0) rfl;have e4:0*3+3≤(Z9 [A,B]).length:=Yg (k:=0) (x:=A) rfl;have e5:((Z9 [A,B]).drop (1*3)).take 3=[Zc B.op,Zt B.act,Yt B.l]:=ZT (k:=1) rfl;have e6:1*3+3≤(Z9 [A,B]).length:=Yg (k:=1) (x:=B) rfl;have hj:=Ca 4 [B,S] dC dC (fun x hx=>by simp only [Xk,List.not_mem_nil,or_false] at hx;rcases hx with h|h<;>rw [h]<;>assumption) (by rw [OD];omega);refine nav ?_;(refine We [11,12] [6,7] ?_<;>refine xDT 0 42 rfl (Zb 6 TM) ?_<;>(refine yDT 1 43 rfl (Ze 6 Rv) fun v43 h=>?_;cases h)<;>refine xDT 2 44 rfl (Zg JS) ?_<;>(refine yDT 3 45 rfl (YD ZH) fun v45 h=>?_;cases h)<;>refine xDT 4 46 rfl (Zb 6 TM) ?_<;>(refine yDT 5 47 rfl (Ze 6 Rv) fun v47 h=>?_;cases h)<;>refine xDT 6 48 rfl (Zg JS) ?_<;>(refine yDT 7 49 rfl (YD ZH) fun v49 h=>?_;cases h)<;>(refine yE 8 rfl (Zj 7 ZH) fun v50 h=>?_;cases h)<;>(refine aDr 9 fun bk=>?_)<;>(refine Sz (kk:=3) (xs:=[_,_]) (cs:=[[_,_,_],[_,_,_]]) 51 Sf fun h51 ho51=>?_;refine Zp (En.freeze (l:=51) (t:=51) rfl rfl) fun _=>?_;refine Zp (Kt (t:=51) (p':=Yt [B,S]) rfl (Eq.trans (show _=PV.sl 2 ([B,S].flatMap cN) from rfl) (Ce B S))) fun _=>?_)<;>refine bE bk ?_<;>(refine Z6 10 kR ?_)<;>(refine Yz (d:=52) rfl (cA (call120) hj) fun v52 h=>?_;cases h)<;>(refine Z6 11 kR ?_)<;>(refine ZdY rfl rfl fun DQ bk=>?_)<;>refine Zu 6 ZH ?_<;>refine Ww (bk _ ?_)<;>(refine Zhz 12 kR rfl rfl fun DQ bk=>?_)<;>refine Zu 7 ZH ?_<;>refine Ww (bk _ ?_)<;>refine ZhA kR (nav ?_)<;>try dsimp only)
 refine Yq (Y1 (l:=6) (p':= .own 24 3 1 (cN (Gt F S).1)) rfl (by rw [hlop];rfl)) fun _=>?_;refine Yq (Y1 (l:=7) (p':= .own 24 3 1 (cN (Gt F S).2)) rfl (by rw [hlop];rfl)) fun _=>?_;exact ZS () sB sB)
     · (
 (have hlop:Gt F S=(F,S):=by unfold Gt;rw [Qa hb41]);refine Zq (Y1 (l:=6) (p':= .own 24 3 1 (cN (Gt F S).1)) rfl (by rw [hlop];rfl)) fun _=>?_;refine Zq (Y1 (l:=7) (p':= .own 24 3 1 (cN (Gt F S).2)) rfl (by rw [hlop];rfl)) fun _=>?_;refine nav ?_;exact ZS () sB sB)
   · rintro _;unfold ZdM at hres;generalize (Gt F S).1=X at hres ⊢;generalize (Gt F S).2=Y at hres ⊢;have ec:∀t:Nd,cN t=[Zc t.op,Zt t.act,Yt t.l]:=fun _=>rfl;rw [ec,ec];refine Zh ?_;(refine xM (Zb 6 Kh) ?_<;>refine yV (Ze 6 Ga) ?_<;>refine YW ?_<;>(refine bLd 56 (fun hb56=>?_) (fun hb56=>?_)<;>(first|refine kL ?_|refine xM (Zb 7 Kh) ?_))<;>(first|refine kL ?_|refine yV (Ze 7 Ga) ?_)<;>refine Wz ?_)<;>(
 refine cX ?_ ?_<;>intro hb60
 · first|exact bN hb60|(
 rw [Qb oM] at hres;refine Zh ?_;refine xM (ZX Lg) ?_;refine Zp (ZdT (t:=61) (p':=pTr ζ9) rfl Zf4) fun _=>?_;refine Zu 2 ZH ?_;refine ZF ?_;refine Z4 (k:=3) 2 results72 ?_;rw [hres];rfl)
 · (
 rw [Qa oM] at hres;refine Zh ?_;refine yU (Zj 6 ZH) fun v62=>?_;refine yU (Zj 7 ZH) fun v63=>?_;refine Sz (kk:=3) (xs:=[_,_]) (cs:=[[_,_,_],[_,_,_]]) 64 Sf fun h64 ho64=>?_;refine Zp (En.freeze (l:=64) (t:=64) rfl rfl) fun _=>?_;refine Zp (Kt (t:=64) (p':=Yt [X,Y]) rfl (Eq.trans (show _=PV.sl 2 ([X,Y].flatMap cN) from rfl) (Ce X Y))) fun _=>?_;refine xM (ZX Lg) ?_;refine Zu 2 ZH ?_;refine ZF ?_;refine Z4 (k:=3) 2 results72 ?_;rw [hres];rfl)))
 · (
 refine nav ?_;refine Zq (En.freeze (l:=200) (t:=3) rfl rfl) fun _=>?_;rw [Rq _ _ _ rfl];refine Zi ?_;refine xM (Zb 1 Kh) ?_;refine yV (Ze 1 Ga) ?_;refine Yv ?_;refine cD (cA call120 (Ca o (JC l) oM oM hnf oM)) fun v69 hv69=>?_;clear hv69;refine Zu 2 ZH ?_;refine ZF ?_;refine Z4 (k:=3) 2 results72 ?_;rw [YF,Zab,Qa oM,Qa oM];rfl))))
def P3 (t:Nd):PV×Int:=if WH t=true then (if WH (YF t)=true then (pTr (YF t),0) else (SY,5)) else (SY,1)
theorem Zgd (t:Nd) (hf:FitT t):AF prog 38 [pTr t] (· = .tup [(P3 t).1,Zc (P3 t).2]):=by
 refine AF.b1 16 func38 rfl ntmps38 (Xa rfl) fun w0 M0 v0 _=>?_
 have e0:pTr t= .agg [Zc t.op,Zt t.act,Yt t.l]:=rfl
 rw [e0]
 refine Zh ?_
 refine ZV 1 3 fun h1=>?_;refine Zx zT 3 2 KY fun h2=>?_;refine ZQ ?_
 refine yU (Zj 1 ZH) fun v5=>?_;refine cV (cA call16 (TJ t hf)) ?_;refine YX ?_ ?_<;>intro hb7
 · (
 refine Zh ?_;refine xM (ZX Lg) ?_;refine Zu 2 ZH ?_;refine ZB ?_;refine YG (k:=3) 2 results38 ?_;rw [show P3 t=(SY,1) by unfold P3;rw [Qa (by simpa using hb7)]];rfl)
 · (
 (have hv:WH t=true:=by simpa using hb7);have hsz:=R5 hv;have hok:=JU hv;have hfn:=Oz hok oM;refine Zh ?_;refine yU (Zj 1 ZH) fun v9=>?_;refine cD (cA call72 (Zkb t hok oM)) fun v10 hv10=>?_;clear hv10;refine Zx zT 3 4 KY fun h4=>?_;refine Zu 4 ZH ?_;refine ZF ?_;have e1:cN (YF t)=[Zc (YF t).op,Zt (YF t).act,Yt (YF t).l]:=rfl;refine Zi ?_;refine yU (Zj 4 ZH) fun v11=>?_;refine cV (cA call16 (TJ (YF t) hfn)) ?_;refine YX ?_ ?_<;>intro hb13
 · (
 refine Zh ?_;refine xM (ZX Lg) ?_;refine Zu 2 ZH ?_;refine ZB ?_;refine YG (k:=3) 2 results38 ?_;rw [show P3 t=(SY,5) by unfold P3;rw [Qb hv,Qa (by simpa using hb13)]];rfl)
 · (
 refine Zh ?_;refine yU (Zj 4 ZH) fun v15=>?_;refine Zu 2 ZH ?_;refine ZB ?_;refine YG (k:=3) 2 results38 ?_;rw [show P3 t=(pTr (YF t),0) by unfold P3;rw [Qb hv,Qb (by simpa using hb13)]];rfl))
theorem Gw:J2 prog 41=some ((.agg #[(.slice none 0 0),(.int .i64 0)]),([0,1]:List Nat).map fun o=>(o,1)):=kR
theorem ZpG (a b:Var):AFg prog 25 [.agg (WM a), .agg (WM b)] (· =Zc (cmpStrs a.acts b.acts)):=by
 refine AFg.of_body 10 func25 rfl ntmps25 (Xa rfl) ?_
 intro w0 M0 vs hl hv
 obtain ⟨v0,v1,rfl⟩:=HE hl
 clear hl hv
 refine Zh ?_
 refine ZV 2 2 fun h2=>?_;refine ZV 3 2 fun h3=>?_;refine ZQ ?_
 refine xM (Zb 2 YL) ?_;refine yU (Ze 2 ZN) fun v6=>?_;refine xM (Zb 3 YL) ?_;refine yU (Ze 3 ZN) fun v8=>?_;refine cV (cA call26 (OL a.acts b.acts)) ?_;refine ZB ?_
 exact Zf results25 rfl rfl
theorem Zkc:Zc5 prog 24 25 2:=fun enc hk h1 cf hO blk cap d w hcmp hH hblk hsz=>
 AnyQ.slices_SortFunc Tryz.sortVarL 2 (fun w=>AggT.run E4 w) (fun w=>AggT.size E4 w) enc hk h1 cf hO 25 #[] blk 0 cap d w (call25) hcmp hH hblk hsz
theorem ZpH (l:List Nd):ZfU l=l.any Ln:=by
 induction l with
 |nil=>rfl
 |cons x l ih=>rw [ZfU,ih,Ud]
theorem Znd (o:Int) (a:BA) (l:List Nd):Ln (.mk o a l)=(decide (o=2)||l.any Ln):=by rw [Ln,ZpH]
theorem EP:∀t:Nd,FitT t→AF prog 19 [pTr t] (· =Zv (Ln t)):=Nd.ind fun o a l ih hf=>by
 have ea:pTr (.mk o a l)= .agg [Zc o,Zt a,Yt l]:=rfl
 rw [ea,Znd]
 refine AF.b1 11 func19 rfl ntmps19 (Xa rfl) fun w0 M0 v0 _=>?_
 refine Zh ?_
 refine ZV 1 3 fun h1=>?_;refine ZQ ?_
 (refine xM (Zb 1 YS) ?_<;>refine yV (Ze 1 ZM) ?_<;>refine YW ?_<;>(refine bLd 6 (fun hb6=>?_) (fun hb6=>?_)<;>(first|refine kL ?_|refine xM (Zb 1 Yj) ?_))<;>(first|refine kL ?_|refine yU (Ze 1 YT) fun v8=>?_)<;>(first|refine kL ?_|(refine cV (cA call43 (OP 19 Ln l hf.len (call19) (fun t ht=>ih t ht (hf.p t ht)))) ?_))<;>refine YJ ?_)<;>(
 refine Zf results19 rfl ?_
 first
  |(rw [U9 hb6];rfl)
  |rw [U' hb6,V'])
def Ph (w:List BA):Var:=⟨w,1⟩
def Hq (t:Nd):List Var×Int:=if WH t=true then (if Ln t=true then ([],19) else if (Z3 t).2=true then ([],5) else ((Z3 t).1.map Ph,0)) else ([],1)
theorem Zne {t:Nd} (h:WH t=false):Hq t=([],1):=by unfold Hq;rw [h,Qa dC]
theorem ZhQ {t:Nd} (h:WH t=true) (hq:Ln t=true):Hq t=([],19):=by unfold Hq;rw [Qb h,Qb hq]
theorem Znf {t:Nd} (h:WH t=true) (hq:Ln t=false) (hc:(Z3 t).2=true):Hq t=([],5):=by unfold Hq;rw [Qb h,hq,Qa dC,Qb hc]
theorem Zng {t:Nd} {l:List (List BA)} (h:WH t=true) (hq:Ln t=false) (hc:Z3 t=(l,false)):Hq t=(l.map Ph,0):=by unfold Hq;rw [Qb h,hq,Qa dC,hc,Qa Bool.false_ne_true]
theorem ZpI {t:Nd} (h:WH t=true) (hq:Ln t=false) (hb:BigW (wT t)):(Z3 t).2=true:=by
 rcases ZbY t (JU h) hq with ⟨h1,_⟩|⟨_,_,_,h1⟩
 · exact h1
 · exact Qc hb h1
theorem Zge {t:Nd} {W D:List (List BA)} {r:List Var} (h:WH t=true) (hq:Ln t=false) (hM:SetM (wT t) W) (hD:D.Perm W) (hp:r.Perm (D.map Ph)) (hs:∀(i j:Nat) (a b:Var),i<j→r[i]? =some a→r[j]? =some b→¬cmpStrs b.acts a.acts<0):∃l,Z3 t=(l,false)∧r=l.map Ph:=by
 have e1:(D.map Ph).map (·.acts)=D:=by rw [Xt];exact List.map_id' D
 have hp2:(r.map (·.acts)).Perm W:=by
  have:=hp.map (·.acts);rw [e1] at this;exact this.trans hD
 have hnd:=hp2.nodup_iff.2 hM.nd
 refine ⟨r.map (·.acts),hM.sorted hp2 ?_ (ZbY t (JU h) hq),?_⟩
 · rw [XS];intro i j hi hj hij;rw [Xb] at hi hj;have h1:=hs i j r[i] r[j] hij sM sM;have h2:=XS.1 (Ui.1 hnd) i j (by simpa using hi) (by simpa using hj) hij;simp only [List.getElem_map] at h2 ⊢;exact Zht h1 fun e=>h2 (YH.1 e).symm
 · rw [Xt];refine (List.map_id' r).symm.trans (Uq fun x hx=>?_);obtain ⟨w,_,rfl⟩:=Xh.1 (hp.mem_iff.1 hx);rfl
theorem Zbp (e:Nat) (D:List (List BA)) (w:List BA):PV.own e 2 (D.length+1) ((D.map Ph).flatMap WM++WM (Ph w))= .own e 2 (D++[w]).length (((D++[w]).map Ph).flatMap WM):=sM
theorem Zek (t : Nd) (hf:FitT t):AF prog 7 [pTr t] (· = .tup [Yx (Hq t).1,Zc (Hq t).2]):=by
 have ea:pTr t= .agg [Zc t.op,Zt t.act,Yt t.l]:=rfl
 rw [ea]
 refine AF.b1 37 func7 rfl ntmps7 (Xa rfl) fun w0 M0 v0 _=>?_
 refine Zh ?_
 refine ZV 1 3 fun h1=>?_;refine Jn ?_
 refine yU (Zj 1 Zk) fun v10=>?_;refine cV (cA call16 (TJ t hf)) ?_;refine YJ ?_;refine cX ?_ ?_<;>intro hb9
 · (
 refine ZE ?_;refine Z5 (TS (t:=2) rfl) fun _=>?_;refine Z1 results7 rfl rfl ?_;rw [Zne (by simpa using hb9)];rfl)
 · (
 (have hv:WH t=true:=by simpa using hb9);have hvz:=R5 hv;refine Zh ?_;refine yU (Zj 1 Zk) fun v14=>?_;refine cV (cA call19 (EP t hf)) ?_;refine YX ?_ ?_<;>intro hb13
 · (
 refine ZE ?_;refine Z5 (TS (t:=2) rfl) fun _=>?_;refine Z1 results7 rfl rfl ?_;rw [ZhQ hv (by simpa using hb13)];rfl)
 · (
 (have hq:Ln t=false:=by simpa using hb13);have hne:=Zhr t (JU hv) hq;refine Zh ?_;(refine yU (Zj 1 Zk) fun v17=>?_<;>(refine cPx (ι:=ZpC t) (p1:=fun i=>cpP i.1) (p2:=fun i=>Zv i.1.isSome) 18 (cA (call23) (Zrx t (JU hv) hq oM)) (fun i v18 u18 hv18 hu18=>?_) (fun i=>Zm8 t i);obtain ⟨q18,hq18⟩:=i;rcases q18 with _|W18<;>dsimp only [cpP,Option.isSome] at hv18 hu18 hq18 ⊢<;>cases hu18<;>(try cases hv18))<;>refine JY ?_<;>refine ZF ?_)<;>(
 refine KJ ?_;refine cX ?_ ?_<;>intro hb22
 · first|exact bN hb22|(
 refine ZE ?_;refine Z5 (TS (t:=2) rfl) fun _=>?_;refine Z1 results7 rfl rfl ?_;rw [Znf hv hq (ZpI hv hq hq18)];rfl)
 · first |exact bN hb22|(
 refine Pw ?_;refine Zp (Tu (t:=23) 1002 rfl) fun vsA=>?_;obtain ⟨vsA,hA1,hA2⟩:=vsA;dsimp only;refine Jr 24 underlying50 (fun b24 r24 c24 es24 hkv24 hWf24=>?_);refine ZF ?_;refine Zq (Wr 200 41 2 rfl) fun _=>?_;obtain ⟨hM,hN⟩:=hq18;have hW3:=hM.nd;have hWc:W18.length≤300:=UH fun hk=>hM.small (.inl ⟨W18,hM.nd,fun w hw=>(hM.mem w).1 hw,hk⟩);refine Yd (ι:={q:Value×Array Nat×List (List BA)//q.1.oneCell'=true∧Sx W18 es24 q.2.1 q.2.2}) (fun k=>⟨[(24,_,_),(6,k.1.1, .val k.1.1)],[(1002,_,_),(24,itv r24,itP b24 r24 c24 es24 k.1.2.1),(200,k.1.1, .own 41 2 k.1.2.2.length ((k.1.2.2.map Ph).flatMap WM))]⟩) (fun k=>(leftOf es24 k.1.2.1).size) ⟨(.slice none 0 0,#[],[]),rfl,JP hkv24 (by rw [hA1,Xb])⟩ ?_;rintro ⟨⟨ov,seen,D⟩,hov,hI⟩;dsimp only;dsimp only at hov hI;have hDl:D.length≤300:=by
  obtain ⟨L,hL,_⟩:=hI;have:=hL.length_eq;rw [Xf] at this;omega
 (have hDc:((D.map Ph).flatMap WM).length=D.length*2:=by rw [Yr Yy,Xb]);refine Zh ?_;(refine Gn 24 25 hWf24 (fun hlf24=>?_) (fun e24 hle24=>?_)<;>refine ZB ?_)<;>(
 refine cX ?_ ?_<;>intro hb26
 · first|exact bN hb26|(
 refine nav ?_;obtain ⟨n,y,hy1,hy2,hy3,hyW,hI'⟩:=JQ hN hWf24 hkv24 hI hle24;refine Zi ?_;refine xM (Gp 24 hWf24 (Km hle24)) ?_;refine YJ ?_;refine Zq (Tv (t:=8) (g:=1002) rfl rfl hy2 (by rw [Xo,hy1];rfl) (WI W18)) fun _=>?_;refine Zi ?_;refine xL 29 Za (xL 30 Za (xL 31 (ZX Gw) ?_));refine JW 32 Gq fun h32 ho32=>?_;refine WN 200 32 33 Gq fun h33 ho33=>?_;refine Zp (Zz (l:=33) 200 rfl rfl) fun _=>?_;refine Zp (Y1 (l:=200) rfl (Zbp _ D y)) fun _=>?_;refine ZB ?_;refine Zm (
  ⟨(h33,seen.push e24.born,D++[y]),ho33,hI'⟩
  ) (Js hWf24 hle24) sB sB)
 · first|exact bN hb26|(
 have hDW:=JN hI hlf24;have hpos:0<(D.map Ph).length:=by
  rw [Xb,hDW.length_eq];obtain ⟨w,hw⟩:=Vy _ hne;exact UR ((hM.mem w).2 hw)
 have hlm:(D.map Ph).length=D.length:=Xb ..;refine Wh ?_;refine Zp (Y1 (l:=200) (p':= .own 41 2 (D.map Ph).length ((D.map Ph).flatMap WM)) rfl (by rw [hlm])) fun _=>?_;refine E2 (l:=200) (f:=WM) (rows:=D.map Ph) (cmp:=fun a b:Var=>cmpStrs a.acts b.acts) Zkc Yy dC (fun _=>rfl) Zg4 ZlP ZlQ (fun x y M W u v hx hy hu hv=>(ZpG x y).exact2 hu hv) hpos oM rfl rfl (Xa rfl) rfl (call24) rfl rfl rfl ?_;intro r2 hp2 hs2;refine Yc ?_;refine DK ?_;obtain ⟨wl,hc,rfl⟩:=Zge hv hq hM hDW hp2 hs2;refine Z5 (En.freeze (l:=200) (t:=2) rfl rfl) fun _=>?_;refine Z1 results7 rfl rfl ?_;rw [Zng hv hq hc,hp2.length_eq.symm,Dc];rfl))))))
def Eg (acts:List BA) (a:BA):Int:=idx (fun x=>Kv x a) acts
theorem Dl {a b:BA}:Kv a b=true↔a=b:=KB
theorem Zel {acts:List BA} {a:BA} (h:a∈acts):∃i:Nat,Eg acts a=i∧acts[i]? =some a∧∀j y,j<i→acts[j]? =some y→y≠a:=by
 unfold Eg
 obtain ⟨k,hk⟩:=XR h
 have key:∀n:Nat,(∃i:Nat,i≤n∧acts[i]? =some a)→∃i:Nat,acts[i]? =some a∧∀(j:Nat) (y:BA),j<i→acts[j]? =some y→y≠a:=by
  intro n;induction n with
  |zero=>rintro ⟨i,hi,h⟩;exact ⟨i,h,fun j y hj=>oM⟩
  | succ n ih=>
    rintro ⟨i,hi,h⟩;by_cases h2:∃i:Nat,i≤n∧acts[i]? =some a
    · exact ih h2
    · exact ⟨i,h,fun j y hj hy e=>h2 ⟨j,oM,by rw [hy,e]⟩⟩
 obtain ⟨i,hi,hb⟩:=key k ⟨k,Xe _,hk⟩
 refine ⟨i,Lp (fun j y hj hy=>?_) hi (Dl.2 rfl),hi,hb⟩
 cases hs:Kv y a
 · rfl
 · exact Qc (Dl.1 hs) (hb j y hj hy)
theorem Znh {acts:List BA} {s:BA} (h:Eg acts s<0):s∉acts:=fun hs=>by
 obtain ⟨i,h1,_⟩:=Zel hs
 omega
theorem Zry {acts:List BA} {s:BA} (h:¬Eg acts s<0):∃i:Nat,Eg acts s=i∧acts[i]? =some s:=by
 by_cases hs:s∈acts
 · obtain ⟨i,h1,h2,_⟩:=Zel hs;exact ⟨i,h1,h2⟩
 · exfalso;refine h ?_;unfold Eg;rw [Lq (fun i y _ hy=>?_)]
   · decide
   · cases h2:Kv y s with
     |false=>rfl
     |true=>exact Qc (Dl.1 h2▸Xc hy) hs
theorem Zbq:∀a b:List UInt8,Op.bytesLess a b=decide (a<b)
 |_,[]=>by simp [Op.bytesLess]
 |[],_::_=>by simp [Op.bytesLess]
 | x::a,y::b=>by
   rw [Op.bytesLess,Zbq a b,VM];simp [List.cons_lt_cons_iff]
noncomputable def canB (l:List BA):List BA:=Gv (colS [] l)
theorem SF {l m:List BA} (h:∀s,s∈l↔s∈m):canB l=canB m:=ZjS (ZjT h)
theorem SG {l:List BA} {s:BA}:s∈canB l↔s∈l:=by unfold canB;rw [Zd7,P1];simp
theorem ZpJ (l:List BA):(canB l).Nodup:=ZhK (OA _ _ X6)
theorem Zem:canB []=[]:=by unfold canB Gv colS;simp
def EW (l:List BA):Prop:=l.Pairwise fun x y=>strLt x y=true
theorem Zni {x y:BA}:strLt x y=decide (toB x<toB y):=by
 unfold strLt toB
 rw [Zbq,ByteArray.toList_eq,ByteArray.toList_eq]
theorem Zen {ks:List BA} (h:ks.Nodup):EW (Gv ks):=by
 have htr:∀a b c:List UInt8,decide (a≤b)=true→decide (b≤c)=true→decide (a≤c)=true:=fun a b c h1 h2=>by
  simp only [U8] at*;exact List.le_trans h1 h2
 have hto:∀a b:List UInt8,(decide (a≤b)||decide (b≤a))=true:=fun a b=>by
  simp only [X3,U8];exact List.le_total a b
 have h1:=UC htr hto (ks.map toB)
 have h2:(Gv ks).Pairwise fun x y=>decide (toB x≤toB y)=true:=by
  unfold Gv;rw [Vq];exact h1.imp fun {a b} h=>by rw [Cd,Cd];exact h
 have h3:=ZhK h
 exact List.Pairwise.imp₂ (fun {a b} k1 k2=>by
  rw [Zni];simp only [U8] at k1 ⊢;refine Decidable.byContradiction fun hn=>k2 ?_;have e:toB a=toB b:=List.le_antisymm k1 (List.not_lt.1 hn);rw [←OB a,e,OB]) h2 h3
theorem ζU (l:List BA):EW (canB l):=Zen (OA _ _ X6)
theorem Znj:∀{l m:List BA},EW l→EW m→(∀s,s∈l↔s∈m)→l=m:=fun {l m} hl hm h=>by
 have nd:∀{l:List BA},EW l→l.Nodup:=fun h=>h.imp fun {a b} h e=>by rw [e,Y2] at h;cases h
 refine List.Perm.eq_of_pairwise (le:=fun x y=>strLt x y=true) (fun a b _ _ h1 h2=>?_) hl hm ((U6 (nd hl) (nd hm)).2 h)
 exact Qc (YY h1 h2) (by rw [Y2];decide)
theorem Zch {l m:List BA} (h:EW l) (hm:∀s,s∈l↔s∈m):l=canB m:=Znj h (ζU m) fun s=>by rw [hm,SG]
def Tq (s:BA) (m:List BA):List BA:=m.filter (strLt · s)++(if m.any (strLt s ·)=true then [s] else [])++m.filter (strLt s ·)
def P4 (s:BA) (m:List BA):List BA:=m.filter (strLt · s)++[s]++m.filter (strLt s ·)
theorem Lh {α:Type} (p:α→Bool) (l:List α) (x:α):(l++[x]).filter p=l.filter p++(if p x=true then [x] else []):=by
 rw [UD]
 congr 1
 cases h:p x<;>simp [UV,h]
theorem Zci {s:BA} {m:List BA} (h:m.any (strLt s ·)=false):m.filter (strLt s ·)=[]:=List.filter_eq_nil_iff.2 fun x hx hl=>by
 rw [UF] at h;exact h x hx hl
theorem Zkd {s x:BA} {m:List BA} (h:m.any (strLt s ·)=false) (hx:strLt s x=true):Tq s (m++[x])=Tq s m++[s]++[x]:=by
 have h2:strLt x s=false:=by
  cases h3:strLt x s
  · rfl
  · exact Qc (YY hx h3) (by rw [Y2];decide)
 unfold Tq
 rw [Lh,Lh,VD,h,Zci h]
 simp [hx,h2]
theorem Zke {s x:BA} {m:List BA} (h:m.any (strLt s ·)=false) (hx:strLt s x=false) (hne:x≠s):Tq s (m++[x])=Tq s m++[x]:=by
 have h2:strLt x s=true:=by
  cases h3:strLt x s
  · exact Qc (Kw h3 hx) hne
  · rfl
 unfold Tq
 rw [Lh,Lh,VD,h,Zci h]
 simp [hx,h2]
theorem Zkf {s x:BA} {m:List BA} (h:m.any (strLt s ·)=true) (hm:∀y∈m,strLt y x=true):Tq s (m++[x])=Tq s m++[x]∧(m++[x]).any (strLt s ·)=true:=by
 obtain ⟨y,hy,h1⟩:=X4.1 h
 have hx:strLt s x=true:=YY h1 (hm y hy)
 have h2:strLt x s=false:=by
  cases h3:strLt x s
  · rfl
  · exact Qc (YY hx h3) (by rw [Y2];decide)
 refine ⟨?_,by rw [VD,h];rfl⟩
 unfold Tq
 rw [Lh,Lh,VD,h]
 simp [hx,h2]
theorem Znk {s:BA} {m:List BA} (h:m.any (strLt s ·)=true):Tq s m=P4 s m:=by unfold Tq P4;rw [Qb h]
theorem Zkg {s:BA} {m:List BA} (h:m.any (strLt s ·)=false):Tq s m++[s]=P4 s m:=by unfold Tq P4;rw [h,Zci h];simp
theorem Znl {s:BA} {m:List BA} (h:EW m):EW (P4 s m):=by
 unfold P4 EW
 rw [US,US]
 refine ⟨⟨h.filter _,Vu ..,fun a ha b hb=>?_⟩,h.filter _,fun a ha b hb=>?_⟩
 · rw [Xn.1 hb];exact (Vh.1 ha).2
 · have hb:=(Vh.1 hb).2;rcases Xd.1 ha with ha|ha
   · exact YY (Vh.1 ha).2 hb
   · rw [Xn.1 ha];exact hb
theorem Znm {s x:BA} {m:List BA}:x∈P4 s m↔x∈m∨x=s:=by
 unfold P4
 rw [Xd,Xd,Vh,Vh,Xn]
 constructor
 · rintro ((h|h)|h)
   · exact .inl h.1
   · exact .inr h
   · exact .inl h.1
 · rintro (h|h)
   · cases h1:strLt x s
     · cases h2:strLt s x
       · exact .inl (.inr (Kw h1 h2))
       · exact .inr ⟨h,rfl⟩
     · exact .inl (.inl ⟨h,rfl⟩)
   · exact .inl (.inr h)
theorem Znn {s:BA} {l:List BA}:P4 s (canB l)=canB (l++[s]):=Zch (Znl (ζU l)) fun x=>by rw [Znm,SG,Xd,Xn]
theorem ZhR {s:BA} {l:List BA} (h:s∈canB l):canB l=canB (l++[s]):=SF fun x=>by
 rw [Xd,Xn]
 exact ⟨.inl,fun h1=>h1.elim id fun e=>by rw [e];exact SG.1 h⟩
theorem Je:ElT prog 39 9 1 16 (.string ByteArray.empty):=⟨underlying39,by kernel_rfl,rfl,dC⟩
theorem Sg:NoAgg prog 9=true:=kR
theorem Gb:SlT prog 39 9 1=true:=kR
theorem Zno {a b:BA} (h:(a.toList==b.toList)=true):a=b:=by
 rw [beq_iff_eq,ByteArray.toList_eq,ByteArray.toList_eq] at h
 exact WideShapes.bytes_inj h
theorem ZhS {a b:BA} (h:(a.toList==b.toList)=false):a≠b:=fun e=>by
 subst e
 simp at h
theorem Zr9 {x s:BA} (h:(!(Op.bytesLess x.toList s.toList||x.toList==s.toList))=true):strLt s x=true:=by
 simp only [UQ,Uc] at h
 cases h2:strLt s x
 · exact Qc (Kw h.1 h2) (ZhS h.2)
 · rfl
theorem Zqu {x s:BA} (h:(!(Op.bytesLess x.toList s.toList||x.toList==s.toList))=false) (hne:x≠s):strLt s x=false:=by
 cases h2:strLt s x
 · rfl
 · exfalso;simp only [Bool.not_eq_false',X3] at h;rcases h with h|h
   · have h3:strLt x s=true:=h;have:=YY h2 h3;rw [Y2] at this;cases this
   · exact hne (Zno h)
theorem Hr (e:Nat) (L:List BA) (x:BA):PV.own e 1 (L.length+1) (L.map Zt++[Zt x])= .own e 1 (L++[x]).length ((L++[x]).map Zt):=sM
theorem Zeo {α:Type} {p:α→Bool} {l:List α} {k:Nat} {x:α} (h:l[k]? =some x):(l.take (k+1)).any p=((l.take k).any p||p x):=by
 rw [Zw h,VD,Ud,List.any_nil,Bool.or_false]
theorem Znp {l:List BA} (h:EW l) {k:Nat} {x:BA} (hx:l[k]? =some x):∀y∈l.take k,strLt y x=true:=fun y hy=>by
 obtain ⟨j,hj⟩:=XR hy
 have hjk:j<k:=by have:=Zd hj;rw [XG] at this;omega
 rw [X9 hjk] at hj
 obtain ⟨h1,e1⟩:=Xr.1 hj
 obtain ⟨h2,e2⟩:=Xr.1 hx
 have:=XS.1 h j k h1 h2 hjk
 rw [e1,e2] at this
 exact this
theorem Zep (s:BA) (m:List BA):(Tq s m).length≤2*m.length+1:=by
 unfold Tq
 rw [Xf,Xf]
 have h1:=UE (strLt · s) m
 have h2:=UE (strLt s ·) m
 split<;>simp<;>omega
noncomputable def insR (s:BA) (l:List BA):List BA:=open Classical in if s∈l then l else P4 s l
theorem ZhT {s:BA} {l:List BA} (h:s∈l):insR s l=l:=by unfold insR;rw [Qb h]
theorem Zcj {s:BA} {l:List BA} (h:s∉l):insR s l=P4 s l:=by unfold insR;rw [Qa h]
theorem ZhU {l:List BA} {s:BA}:insR s (canB l)=canB (l++[s]):=by
 by_cases h:s∈canB l
 · rw [ZhT h];exact ZhR h
 · rw [Zcj h];exact Znn
theorem Zeq (l : List BA) (s:BA) (hl:l.length≤100000) (ha:EW l):AF prog 136 [Zs l,Zt s] (· =Zs (insR s l)):=by
 refine AF.b2 49 func136 rfl ntmps136 (Xa rfl) ?_
 rintro w0 M0 v0 _-rfl
 refine Px ?_;refine Ta ?_
 refine Zq (Wr 200 9 1 rfl) fun _=>?_
 refine Yd (ι:={q:Nat×Value×Bool//q.1≤l.length∧q.2.1.oneCell'=true∧s∉l.take q.1∧q.2.2=(l.take q.1).any (strLt s ·)}) (fun k=>⟨[(0,_,_),(1,_,_),(5,k.1.2.1, .val k.1.2.1),(6, .bool k.1.2.2,Zv k.1.2.2),(7, .int .i64 k.1.1,Zc k.1.1)],[(200,k.1.2.1, .own 9 1 (Tq s (l.take k.1.1)).length ((Tq s (l.take k.1.1)).map Zt))]⟩) (fun k=>l.length-k.1.1) ⟨(0, .slice none 0 0,false),Xg _,rfl,fun h=>(by cases h),rfl⟩ ?_
 rintro ⟨⟨i,hv,b⟩,hi,ho,hnm,hB⟩
 dsimp only
 dsimp only at hi ho hnm hB
 have hil:=Zep s (l.take i)
 have htl:(l.take i).length≤l.length:=by rw [XG];omega
 refine Zh ?_
 refine xL 8 Za (xL 9 Za (xL 10 (Zy Gb) (xL 11 Wq ?_)));refine ZR ?_ ?_<;>intro hb11
 · (
 obtain ⟨x,hx⟩:=gS l i;have e1:=Z8 (f:=Zt) hx;have hlow:=Znp ha hx;refine Zh ?_;refine xL 14 Za (xL 15 Za (xL 16 (Zg Gb) ?_));refine yV (ZG Sg) ?_;refine YJ ?_;refine cX ?_ ?_<;>intro hb19
 · (
 refine ZE ?_;refine Zf results136 rfl ?_;rw [ZhT (by rw [←Zno hb19];exact Xc hx)])
 · (
 have hne:x≠s:=ZhS hb19;have hnm2:s∉l.take (i+1):=by
  rw [Zw hx,Xd,Xn];rintro (h|h)
  · exact hnm h
  · exact hne h.symm
 have hil2:=Zep s (l.take (i+1));(have htl2:(l.take (i+1)).length≤l.length:=by rw [XG];omega);refine Zh ?_;(refine Y' ?_<;>(refine bL 23 (fun hb23=>?_) (fun hb23=>?_)<;>refine kZ ?_)<;>refine kZ ?_<;>(first|refine kL ?_|refine xM (Zg Gb) ?_)<;>(first|refine kL ?_|refine yV (ZG Sg) ?_)<;>refine kZ ?_<;>(first|refine kL ?_|refine xM ZeZ ?_)<;>refine ZB ?_)<;>(
 refine cX ?_ ?_<;>intro hb30
 · first |exact bN hb30|(
 (have hbf:b=false:=by simpa using hb23);have hgt:strLt s x=true:=Zr9 hb30;(have hI:Tq s (l.take i)++[s]++[x]=Tq s (l.take (i+1)):=by rw [Zw hx,Zkd (by rw [←hB,hbf]) hgt]);(have hB2:true=(l.take (i+1)).any (strLt s ·):=by rw [Zeo hx,hgt,Bool.or_true]);refine Wn ?_;refine Wx (kk:=1) 33 Je fun h33 ho33=>?_;refine WN 200 33 34 Je fun h34 ho34=>?_;refine Zp (Zz (l:=34) 200 rfl rfl) fun _=>?_;refine Zp (Y1 (l:=200) rfl (Hr _ (Tq s (l.take i)) s)) fun _=>?_;refine ZQ ?_;refine ZQ ?_;refine xL 35 Za (xL 36 Za (xL 37 Za (xL 38 (Zg Gb) ?_)));refine yV (ZG Sg) ?_;refine Wx (kk:=1) 40 Je fun h40 ho40=>?_;refine WN 200 40 41 Je fun h41 ho41=>?_;refine Zp (Zz (l:=41) 200 rfl rfl) fun _=>?_;refine Zp (Y1 (l:=200) rfl (Hr _ (Tq s (l.take i)++[s]) x)) fun _=>?_;refine Py ?_;rw [hI]
 first
  | (exact Yh (
      ⟨(i+1,h41,true),Zd hx,ho41,hnm2,hB2⟩
      ))
  | (exact Yh (
      ⟨(i+1,h41,b),Zd hx,ho41,hnm2,hB2⟩
      )))
 · (
 have hI:Tq s (l.take i)++[x]=Tq s (l.take (i+1)):=by
  rw [Zw hx]
  cases hbc:b with
  |true=>exact (Zkf (by rw [←hB,hbc]) hlow).1.symm
  |false=>first|exact (Zke (by rw [←hB,hbc]) (Zqu hb30 hne) hne).symm|(exfalso;rw [hbc] at hb23;simp at hb23)
 have hB2:b=(l.take (i+1)).any (strLt s ·):=by
  rw [Zeo hx]
  cases hbc:b with
  |true=>rw [←hB,hbc];rfl
  |false=>first|(rw [←hB,hbc,Zqu hb30 hne];rfl)|(exfalso;rw [hbc] at hb23;simp at hb23)
 refine Zh ?_;refine xL 35 Za (xL 36 Za (xL 37 Za (xL 38 (Zg Gb) ?_)));refine yV (ZG Sg) ?_;refine Wx (kk:=1) 40 Je fun h40 ho40=>?_;refine WN 200 40 41 Je fun h41 ho41=>?_;refine Zp (Zz (l:=41) 200 rfl rfl) fun _=>?_;refine Zp (Y1 (l:=200) rfl (Hr _ (Tq s (l.take i)) x)) fun _=>?_;refine Py ?_;rw [hI]
 first
  | (exact Yh (
      ⟨(i+1,h41,true),Zd hx,ho41,hnm2,hB2⟩
      ))
  | (exact Yh (
      ⟨(i+1,h41,b),Zd hx,ho41,hnm2,hB2⟩
      ))))))
 · (
 have hall:l.take i=l:=Xq oM;rw [hall] at hnm hB;refine Wa ?_ ?_<;>intro hb43
 · (
 (have hI:Tq s (l.take i)++[s]=P4 s l:=by rw [hall];exact Zkg (by rw [←hB];simpa using hb43));refine Wn ?_;refine Wx (kk:=1) 46 Je fun h46 ho46=>?_;refine WN 200 46 47 Je fun h47 ho47=>?_;refine Zp (Zz (l:=47) 200 rfl rfl) fun _=>?_;refine Zp (Y1 (l:=200) rfl (Hr _ (Tq s (l.take i)) s)) fun _=>?_;refine ZB ?_;refine Zq (Y1 (l:=200) (p':= .own 9 1 (P4 s l).length ((P4 s l).map Zt)) rfl (by rw [hI])) fun _=>?_;refine Zq (En.freeze (l:=200) (t:=5) rfl rfl) fun _=>?_;rw [Wb];refine KJ ?_;refine Zf results136 rfl ?_;rw [Zcj hnm];rfl)
 · (
 (have hI:Tq s (l.take i)=P4 s l:=by rw [hall];exact Znk (by rw [←hB];simpa using hb43));refine nav ?_;refine Zq (Y1 (l:=200) (p':= .own 9 1 (P4 s l).length ((P4 s l).map Zt)) rfl (by rw [hI])) fun _=>?_;refine Zq (En.freeze (l:=200) (t:=5) rfl rfl) fun _=>?_;rw [Wb];refine KJ ?_;refine Zf results136 rfl ?_;rw [Zcj hnm];rfl))
theorem P5 (l:List BA):(canB l).length≤l.length:=by
 have h:=ζK l []
 unfold canB
 rw [Rs]
 simpa using h
theorem Eh (l m:List BA) (hl:l.length≤10000) (hm:m.length≤10000):AF prog 103 [Zs (canB l),Zs m] (· =Zs (canB (l++m))):=by
 have hcl:=P5 l
 have hq1:((canB l).map Zt).length=(canB l).length*1:=by rw [Xb,Xy]
 have hq2:((canB l).map Zt).all En.one=true:=Xm.2 fun p hp=>by
  obtain ⟨x,_,rfl⟩:=Xh.1 hp;rfl
 refine AF.b2 30 func103 rfl ntmps103 (Xa rfl) fun w0 M0 v0 v1 _ _=>?_
 refine YK ?_
 refine HG 7 Je fun h7 ho7=>?_;refine Yv ?_;refine G1 7 9 Je fun h9 ho9=>?_;refine ZB ?_
 refine Zq (En.freeze (l:=9) (t:=5) rfl rfl) fun _=>?_
 rw [show share (PV.own 9 1 (0+(canB l).length) ([]++(canB l).map Zt))=Zs (canB (l++m.take 0)) from (by rw [XE,XQ,Wb,XM,Xu];rfl)]
 refine Zi ?_;refine ZB ?_
 refine Y7 (ι:={q:Nat×Value//q.1≤m.length}) (fun k=>⟨[(1,_,_),(5,k.1.2,Zs (canB (l++m.take k.1.1))),(6, .int .i64 k.1.1,Zc k.1.1)],[]⟩) (fun k=>m.length-k.1.1) ⟨(0,h9),Xg _⟩ (fun a w H=>H.weaken sB trivial) ?_
 rintro ⟨⟨i,V⟩,hi⟩
 dsimp only
 dsimp only at hi
 have hcl2:=P5 (l++m.take i)
 have htk:(m.take i).length≤m.length:=by rw [XG];omega
 rw [Xf] at hcl2
 refine Zh ?_
 refine xL 10 Za (xL 11 Za (xL 12 (Zy Gb) (xL 13 Wq ?_)));refine ZR ?_ ?_<;>intro hb13
 · (
 obtain ⟨x,hx⟩:=gS m i;have e1:=Z8 (f:=Zt) hx;refine Zh ?_;refine xL 16 Za (xL 17 Za (xL 18 Za (xL 19 (Zg Gb) ?_)));refine yV (ZG Sg) ?_;refine cV (cA call32 (Cu (canB (l++m.take i)) x)) ?_;refine YX ?_ ?_<;>intro hb22
 · (
 have hno:x∉canB (l++m.take i):=Znh (acts:=canB (l++m.take i)) hb22;refine Zh ?_;refine xL 23 Za (xL 24 Za (xL 25 Za (xL 26 (Zg Gb) ?_)));refine yV (ZG Sg) ?_;refine cU (cA call136 (Zeq (canB (l++m.take i)) x oM (ζU _))) fun v28=>?_;refine Py ?_
 first|rw [ZhU,XA,←Zw hx]|rw [hsame]
 first
  | (exact Zm (
      ⟨(i+1,v28),Zd hx⟩
      ) (by dsimp only;omega) sB trivial)
  | (exact Zm (
      ⟨(i+1,V),Zd hx⟩
      ) (by dsimp only;omega) sB trivial))
 · (
 have hin:x∈canB (l++m.take i):=by
  obtain ⟨j,_,h⟩:=Zry (acts:=canB (l++m.take i)) hb22;exact Xc h
 (have hsame:canB (l++m.take i)=canB (l++m.take (i+1)):=by rw [ZhR hin,XA,←Zw hx]);refine Y5 ?_
 first|rw [ZhU,XA,←Zw hx]|rw [hsame]
 first
  | (exact Zm (
      ⟨(i+1,v28),Zd hx⟩
      ) (by dsimp only;omega) sB trivial)
  | (exact Zm (
      ⟨(i+1,V),Zd hx⟩
      ) (by dsimp only;omega) sB trivial)))
 · (
 rw [Xq (show m.length≤i by omega)];refine ZE ?_;exact Zf results103 rfl rfl)
theorem JH:AggT prog 24 3=true:=kR
theorem Zkh:ElT prog 39 9 1 16 (.string ByteArray.empty):=⟨underlying39,by kernel_rfl,rfl,dC⟩
theorem Gc:FldT prog 24 0 0=true:=kR
theorem Zer:FldT prog 24 1 1=true:=kR
theorem WP:FldT prog 24 2 2=true:=kR
theorem KZ:NoAgg prog 22=true:=kR
theorem SH:NoAgg prog 3=true:=kR
theorem Znq:NoAgg prog 9=true:=kR
theorem K0:SlT prog 22 24 3=true:=kR
theorem Zck {last:Bool}:∀{l:List Nd},(∀x∈l,(edgT last x).length≤szT x)→((l.map fun x=>(nulT x,edgT last x)).flatMap (·.2)).length≤szL l
 |[],_=>sM
 | x::l,h=>by
   have h1:=h x (Xs ..);have h2:=Zck (l:=l) fun y hy=>h y (Xw _ hy);rw [Xj,Xv,Xf,szL];dsimp only at h1 ⊢;omega
theorem Zcl:∀m:List (Bool×List BA),(seqE m).length≤(m.flatMap (·.2)).length
 |[]=>Xe _
 | (b,e)::m=>by
   have h1:=Zcl m;show (e++(if b=true then seqE m else [])).length≤_;rw [Xv,Xf,Xf]
   cases b
   · simp
   · rw [Qb rfl];dsimp only;omega
theorem ZpK:∀m:List (Bool×List BA),(Zbi m).length≤(m.flatMap (·.2)).length
 |[]=>Xe _
 |[(b,e)]=>Xg _
 | (b,e)::(b2,e2)::m=>by
   show (e++(if b=true then e2 else [])).length≤_;rw [Xv,Xv,Xf,Xf,Xf]
   cases b
   · simp
   · rw [Qb rfl];dsimp only;omega
theorem R9 (last:Bool):∀t:Nd,(edgT last t).length≤szT t:=Nd.ind fun o a l ih=>by
 have h1:=Zck ih
 rw [ζN,szT]
 unfold opE
 split
 · simp
 split
 · simp
 split
 · have:=ZpK (l.map fun x=>(nulT x,edgT last x));omega
 split
 · cases last
   · have:=Zcl (l.map fun x=>(nulT x,edgT false x));rw [Qa dC];omega
   · have:=Zcl (l.map fun x=>(nulT x,edgT true x)).reverse;rw [Qb rfl];have h2:((l.map fun x=>(nulT x,edgT true x)).reverse.flatMap (·.2)).length=((l.map fun x=>(nulT x,edgT true x)).flatMap (·.2)).length:=((List.reverse_perm _).flatMap_right _).length_eq;omega
 · omega
theorem Zki : ∀ (t : Nd),okT t=true→szT t≤1000000→AF prog 102 [pTr t] (· =Zv (nulT t)):=Nd.ind fun o a l ih hok hs=>by
 have hsz:szT (.mk o a l)=1+szL l:=by rw [szT]
 have hll:=LP l
 have hps:∀y∈l,szT y≤1000000:=fun y hy=>by have:=Jh hy;omega
 have ea:pTr (.mk o a l)= .agg [Zc o,Zt a,Yt l]:=rfl
 have hcat:=Ef (Y3.1 hok).1
 have hpo:∀y∈l,okT y=true:=fun y hy=>(Y3.1 hok).2 y hy
 have hm:=Zm0 o a l
 generalize nulT (.mk o a l)=R at hm ⊢
 rw [ea]
 refine AF.b1 40 func102 rfl ntmps102 (Xa rfl) fun w0 M0 v0 _=>?_
 refine Zh ?_
 refine ZV 1 3 fun h1=>?_;refine ZQ ?_
 refine xM (Zb 1 Gc) ?_;refine yV (Ze 1 SH) ?_;refine GG ?_ ?_<;>intro hb6
 · (
 (have ho:o=2:=by simpa using hb6);rw [Qb ho] at hm;subst hm;refine ZI ?_;exact Zf results102 rfl rfl)
 · (
 refine Wa ?_ ?_<;>intro hb8
 · (
 (have ho:o=1:=by simpa using hb8);rw [Qa oM,Qb ho] at hm;subst hm;refine ZI ?_;exact Zf results102 rfl rfl)
 · (
 refine Wa ?_ ?_<;>intro hb10
 · (
 (have ho:o=6:=by simpa using hb10);have hl2:=hcat.2.2.1 ho;obtain ⟨x0,hx0⟩:=gS l 0;have e1:((Z9 l).drop (0*3)).take 3=[Zc x0.op,Zt x0.act,Yt x0.l]:=ZT hx0;have e2:=Yg hx0;have hR:R=nulT x0:=by
  rw [hm,Qa oM,Qa oM,Qb ho]
  cases l with
  |nil=>cases hx0
  |cons y l=>cases hx0;rfl
 subst hR;refine Zh ?_;refine xM (Zb 1 WP) ?_;refine yU (Ze 1 KZ) fun v13=>?_;refine xM (Zg K0) ?_;refine yU (YD JH) fun v15=>?_;refine cV (cA call102 (ih x0 (Xc hx0) (hpo x0 (Xc hx0)) (hps x0 (Xc hx0)))) ?_;refine ZB ?_;exact Zf results102 rfl rfl)
 · (
 refine ZI ?_;refine Yd (ι:={i:Nat//i≤l.length∧∀j x,j<i→l[j]? =some x→nulT x= !decide (o=4)}) (fun k=>⟨[(1,_,_),(3, .int .i64 k.1,Zc k.1)],[(1,_,_)]⟩) (fun k=>l.length-k.1) ⟨0,Xg _,fun j x h=>oM⟩ ?_;rintro ⟨i,hi,hall⟩;dsimp only;refine Zh ?_;refine xL 17 Za (xL 18 (Zb 1 WP) ?_);refine yU (Ze 1 KZ) fun v19=>?_;refine xL 20 (Zy K0) (xL 21 Wq ?_);refine ZR ?_ ?_<;>intro hb21
 · (
 obtain ⟨x,hx⟩:=gS l i;have e1:((Z9 l).drop (i*3)).take 3=[Zc x.op,Zt x.act,Yt x.l]:=ZT hx;have e2:=Yg hx;refine nav ?_;refine We [] [1] ?_<;>refine xD 0 rfl (Zb 1 WP) ?_<;>(refine yD 1 rfl (Ze 1 KZ) fun v25 h=>?_;cases h)<;>refine gDx 2 ?_<;>refine xD 3 rfl (Zg K0) ?_<;>(refine yD 4 rfl (YD JH) fun v28 h=>?_;cases h)<;>refine xD 6 rfl (Zb 1 Gc) ?_<;>(refine yD 7 rfl (Ze 1 SH) fun v31 h=>?_;cases h)<;>refine gDx 8 ?_<;>(refine Z6 5 kR ?_)<;>(refine Yz (d:=29) rfl (cA call102 (ih x (Xc hx) (hpo x (Xc hx)) (hps x (Xc hx)))) fun v29 h=>?_;cases h)<;>refine xE 9 rfl (Zk7 underlying4) ?_<;>refine Kz ?_;refine cX ?_ ?_<;>intro hb33
 · (
 have hR:R=decide (o=4):=by
  (have h9:nulT x=decide (o=4):=by simpa using hb33);rw [hm,Qa (by simpa using hb6),Qa (by simpa using hb8),Qa (by simpa using hb10)];by_cases h4:o=4
  · rw [Qb h4,U9 h4];exact X4.2 ⟨_,Xh.2 ⟨x,Xc hx,rfl⟩,by rw [h9,U9 h4];rfl⟩
  · rw [Qa h4,U' h4];refine VN.2 fun h=>?_;have:=Xm.1 h _ (Xh.2 ⟨x,Xc hx,rfl⟩);rw [h9,U' h4] at this;cases this
 subst hR;refine Zh ?_;refine xM (Zb 1 Gc) ?_;refine yV (Ze 1 SH) ?_;refine YJ ?_;exact Zf results102 rfl rfl)
 · (
 refine Y5 ?_;refine Yh (
  ⟨i +1,Zd hx,fun j y hj hy=>by
   rcases XD j i with h|h
   · exact hall j y h hy
   · obtain rfl:j=i:=oM;rw [hx] at hy;cases hy;have h9:¬nulT x=decide (o=4):=by simpa using hb33
     cases h10:nulT x<;>rw [h10] at h9<;>cases h11:decide (o=4)<;>rw [h11] at h9<;>simp at h9<;>rfl⟩
  )))
 · (
 have hR:R=decide (o≠4):=by
  rw [hm,Qa (by simpa using hb6),Qa (by simpa using hb8),Qa (by simpa using hb10)];by_cases h4:o=4
  · rw [Qb h4,U' (fun h=>h h4)];refine VN.2 fun h=>?_;obtain ⟨b,hb,h⟩:=X4.1 h;obtain ⟨x,hx,rfl⟩:=Xh.1 hb;obtain ⟨j,hj⟩:=XR hx;have:=hall j x (by have:=Zd hj;omega) hj;rw [U9 h4] at this;rw [this] at h;cases h
  · rw [Qa h4,U9 h4];refine Xm.2 fun b hb=>?_;obtain ⟨x,hx,rfl⟩:=Xh.1 hb;obtain ⟨j,hj⟩:=XR hx;have:=hall j x (by have:=Zd hj;omega) hj;rw [this,U' h4];rfl
 subst hR;refine Zh ?_;refine xM (Zb 1 Gc) ?_;refine yV (Ze 1 SH) ?_;refine YJ ?_;exact Zf results102 rfl rfl))))
theorem Znr (s:BA):canB [s]=[s]:=(Zch (l:=[s]) (by unfold EW;exact Vu _ _) fun _=>Iff.rfl).symm
def Rw (last:Bool) (l:List Nd):List (Bool×List BA):=if last=true then (l.map fun x=>(nulT x,edgT last x)).reverse else l.map fun x=>(nulT x,edgT last x)
theorem Zns (last:Bool) (l:List Nd):(Rw last l).length=l.length:=by unfold Rw;split<;>simp
theorem Znt {l:List Nd} {k:Nat} {x:Nd} (h:l[k]? =some x):(Rw false l)[k]? =some (nulT x,edgT false x):=by
 unfold Rw;rw [Qa dC,Xo,h];rfl
theorem Znu {l:List Nd} {k:Nat} {x:Nd} (hk:k<l.length) (h:l[l.length-1-k]? =some x):(Rw true l)[k]? =some (nulT x,edgT true x):=by
 unfold Rw;rw [Qb rfl,List.getElem?_reverse (by rw [Xb];exact hk),Xb,Xo,h];rfl
theorem Znv (last:Bool) (l:List Nd) (s:BA):(∃p∈Rw last l,s∈p.2)↔s∈(l.map fun x=>(nulT x,edgT last x)).flatMap (·.2):=by
 rw [X7]
 unfold Rw
 split
 · simp only [List.mem_reverse]
 · exact Iff.rfl
theorem ZpL (last:Bool) (l:List Nd) (k:Nat):(((Rw last l).take k).flatMap (·.2)).length≤szL l:=by
 have h1:((Rw last l).flatMap (·.2)).length≤szL l:=by
  have h2:=Zck (last:=last) (l:=l) fun x _=>R9 last x;unfold Rw;split
  · rw [((List.reverse_perm _).flatMap_right _).length_eq];exact h2
  · exact h2
 have h2:((Rw last l).flatMap (·.2)).length=(((Rw last l).take k).flatMap (·.2)).length+(((Rw last l).drop k).flatMap (·.2)).length:=by
  rw [←Xf,←XT,X5]
 omega
theorem OE {E:List (Bool×List BA)} {k:Nat} {b:Bool} {e:List BA} (h:E[k]? =some (b,e)):canB ((E.take k).flatMap (·.2)++canB e)=canB ((E.take (k+1)).flatMap (·.2)):=SF fun s=>by
 rw [Zw h,XT,Xd,Xd,SG];simp
theorem Zes {E:List (Bool×List BA)} {k:Nat} {e:List BA} (h:E[k]? =some (false,e)) (hall:∀p∈E.take k,p.1=true):canB ((E.take (k+1)).flatMap (·.2))=canB (seqE E):=SF fun s=>by
 have h1:E=E.take k++(false,e)::E.drop (k+1):=by
  obtain ⟨hk,he⟩:=Xr.1 h;rw [←he,←Vf hk,X5]
 conv=>rhs;rw [h1,Ee hall]
 rw [Zw h,XT,Xd,X7];simp
theorem ZpM {E:List (Bool×List BA)} (hall:∀p∈E,p.1=true):canB (E.flatMap (·.2))=canB (seqE E):=SF fun s=>by rw [ζO hall,X7]
theorem Zbr (last : Bool):∀(t:Nd),okT t=true→szT t≤10000→AF prog 59 [pTr t,Zv last] (· =Zs (canB (edgT last t))):=Nd.ind fun o a l ih hok hs=>by
 have hsz:szT (.mk o a l)=1+szL l:=by rw [szT]
 have hll:=LP l
 have hps:∀y∈l,szT y≤10000:=fun y hy=>by have:=Jh hy;omega
 have ea:pTr (.mk o a l)= .agg [Zc o,Zt a,Yt l]:=rfl
 have hcat:=Ef (Y3.1 hok).1
 have hpo:∀y∈l,okT y=true:=fun y hy=>(Y3.1 hok).2 y hy
 have hN:∀y∈l,AF prog 102 [pTr y] (· =Zv (nulT y)):=fun y hy=>Zki y (hpo y hy) (by have:=hps y hy;omega)
 have hm:=ζN last o a l
 have hel:=R9 last (.mk o a l)
 generalize edgT last (.mk o a l)=R at hm hel ⊢
 unfold opE at hm
 rw [ea]
 refine AF.b2 77 func59 rfl ntmps59 (Xa rfl) ?_
 rintro w0 M0 v0 _-rfl
 refine Zh ?_
 refine ZV 2 3 fun h2=>?_;refine ZQ ?_
 refine xM (Zb 2 Gc) ?_;refine yV (Ze 2 SH) ?_;refine GG ?_ ?_<;>intro hb11
 · (
 (have ho:o=2:=by simpa using hb11);rw [Qb ho] at hm;subst hm;refine ZI ?_;refine Z5 (TS (t:=4) rfl) fun _=>?_;rw [Zem];exact Zf results59 rfl rfl)
 · (
 refine Wa ?_ ?_<;>intro hb13
 · (
 (have ho:o=1:=by simpa using hb13);rw [Qa oM,Qb ho] at hm;subst hm;refine Zh ?_;refine xM (Zb 2 Zer) ?_;refine yV (Ze 2 Znq) ?_;refine Wx (kk:=1) 17 Zkh fun h17 ho17=>?_;refine ZB ?_;refine Z5 (En.freeze (l:=17) (t:=4) rfl rfl) fun _=>?_;rw [show share (PV.own 9 1 1 [Zt a])=Zs (canB [a]) from (by rw [Znr];rfl)];exact Zf results59 rfl rfl)
 · (
 refine Wa ?_ ?_<;>intro hb18
 · (
 (have ho:o=6:=by simpa using hb18);have hl2:=hcat.2.2.1 ho;obtain ⟨x0,x1,rfl⟩:∃x0 x1,l=[x0,x1]:=by
  match l,hl2 with
  |[x0,x1],_=>exact ⟨x0,x1,rfl⟩
 have e1:((Z9 [x0,x1]).drop (0*3)).take 3=[Zc x0.op,Zt x0.act,Yt x0.l]:=ZT (l:=[x0,x1]) rfl;have e2:0*3+3≤(Z9 [x0,x1]).length:=Yg (l:=[x0,x1]) (k:=0) rfl;have e3:((Z9 [x0,x1]).drop (1*3)).take 3=[Zc x1.op,Zt x1.act,Yt x1.l]:=ZT (l:=[x0,x1]) rfl;have e4:1*3+3≤(Z9 [x0,x1]).length:=Yg (l:=[x0,x1]) (k:=1) rfl;have m0:x0∈[x0,x1]:=sM;have m1:x1∈[x0,x1]:=sM;have b0:=R9 last x0;have b1:=R9 last x1;have b2:=P5 (edgT last x1);have b3:=hps x0 m0;have b4:=hps x1 m1;have hR:R=edgT last x0++(if nulT x0=true then edgT last x1 else []):=by
  rw [hm,Qa oM,Qa oM,Qb ho];rfl
 subst hR;refine Zh ?_;refine xM (Zb 2 WP) ?_;refine yU (Ze 2 KZ) fun v21=>?_;refine xM (Zg K0) ?_;refine yU (YD JH) fun v23=>?_;refine Yv ?_;refine cU (cA call59 (ih x0 m0 (hpo x0 m0) (hps x0 m0))) fun v25=>?_;refine ZQ ?_;refine xM (Zb 2 WP) ?_;refine yU (Ze 2 KZ) fun v27=>?_;refine xM (Zg K0) ?_;refine yU (YD JH) fun v29=>?_;refine cV (cA call102 (hN x0 m0)) ?_;refine ZR ?_ ?_<;>intro hb30
 · (
 refine Zh ?_;refine xL 31 Za (xL 32 (Zb 2 WP) ?_);refine yU (Ze 2 KZ) fun v33=>?_;refine xM (Zg K0) ?_;refine yU (YD JH) fun v35=>?_;refine Yv ?_;refine cU (cA call59 (ih x1 m1 (hpo x1 m1) (hps x1 m1))) fun v37=>?_;refine cU (cA call103 (Eh (edgT last x0) (canB (edgT last x1)) oM oM)) fun v38=>?_;refine Wy ?_
 first
  | (rw [show canB (edgT last x0++canB (edgT last x1))=canB (edgT last x0++(if nulT x0=true then edgT last x1 else [])) from SF fun s=>by rw [Qb (by simpa using hb30),Xd,Xd,SG]]
     exact Zf results59 rfl rfl)
  | (rw [Qa (by simpa using hb30),Xu]
     exact Zf results59 rfl rfl))
 · (
 refine ZE ?_
 first
  | (rw [show canB (edgT last x0++canB (edgT last x1))=canB (edgT last x0++(if nulT x0=true then edgT last x1 else [])) from SF fun s=>by rw [Qb (by simpa using hb30),Xd,Xd,SG]]
     exact Zf results59 rfl rfl)
  | (rw [Qa (by simpa using hb30),Xu]
     exact Zf results59 rfl rfl)))
 · (
 refine YK ?_;refine ZB ?_;refine Zq (TS (t:=6) rfl) fun _=>?_;rw [show PV.sl 0 []=Zs (canB (((Rw last l).take 0).flatMap (·.2))) from (by rw [XM];show _=Zs (canB []);rw [Zem];rfl)];refine Yd (ι:={q:Nat×Value//q.1≤l.length∧(o=3→∀p∈(Rw last l).take q.1,p.1=true)}) (fun k=>⟨[(1,_,_),(2,_,_),(6,k.1.2,Zs (canB (((Rw last l).take k.1.1).flatMap (·.2)))),(7, .int .i64 k.1.1,Zc k.1.1)],[(2,_,_)]⟩) (fun k=>l.length-k.1.1) ⟨(0, .slice none 0 0),Xg _,fun _ p h=>by simp at h⟩ ?_;rintro ⟨⟨i,V⟩,hi,hall⟩;dsimp only;dsimp only at hi hall;have hbd:=ZpL last l i;refine nav ?_;have ho345:o=3∨o=4∨o=5:=by
  (have h1:¬o=2:=by simpa using hb11);(have h2:¬o=1:=by simpa using hb13);(have h3:¬o=6:=by simpa using hb18);have h4:=hcat.2.2.2;omega
 rw [Qa oM,Qa oM,Qa oM] at hm;refine Zi ?_;refine xL 40 Za (xL 41 (Zb 2 WP) ?_);refine yU (Ze 2 KZ) fun v42=>?_;refine xL 43 (Zy K0) (xL 44 Wq ?_);refine ZR ?_ ?_<;>intro hb44
 · (
 have hil:i<l.length:=oM;refine Jm ?_;refine YX ?_ ?_<;>intro hb48
 · (
 (obtain rfl:last=true:=by simpa using hb48);obtain ⟨x,hx⟩:=gS l (l.length-1-i);have e1:((Z9 l).drop ((l.length-1-i)*3)).take 3=[Zc x.op,Zt x.act,Yt x.l]:=ZT hx;have e2:=Yg hx;have hxm:=Xc hx;have hE:=Znu hil hx;have hbx:=R9 true x;have hcx:=P5 (edgT true x);have hsx:=hps x hxm;have hB:=Eh (((Rw true l).take i).flatMap (·.2)) (canB (edgT true x)) oM oM;refine Zh ?_;refine xM (Zb 2 WP) ?_;refine yU (Ze 2 KZ) fun v50=>?_;refine xM (Zy K0) ?_;refine xM ((WJ (c:=((l.length-1:Nat):Int)))) ?_;refine Yv ?_;refine xM ((WJ (c:=((l.length-1-i:Nat):Int)))) ?_;refine ZQ ?_;refine xL 55 Za (xL 56 (Zb 2 WP) ?_);refine yU (Ze 2 KZ) fun v57=>?_;refine xL 58 Za (xL 59 (Zg K0) ?_);refine yU (YD JH) fun v60=>?_;refine Yv ?_;refine cU (cA call59 (ih x hxm (hpo x hxm) (hps x hxm))) fun v62=>?_;refine cU (cA call103 (hB)) fun v63=>?_;refine ZQ ?_;(refine xM (Zb 2 Gc) ?_<;>refine yV (Ze 2 SH) ?_<;>refine YW ?_<;>(refine bLd 67 (fun hb67=>?_) (fun hb67=>?_)<;>(first|refine kL ?_|refine xM (Zb 2 WP) ?_))<;>(first|refine kL ?_|refine yU (Ze 2 KZ) fun v69=>?_)<;>refine kZ ?_<;>(first|refine kL ?_|refine xM (Zg K0) ?_)<;>(first|refine kL ?_|refine yU (YD JH) fun v72=>?_)<;>(first|refine kL ?_|(refine cV (cA call102 (hN x hxm)) ?_))<;>refine Wz ?_)<;>(
 refine cX ?_ ?_<;>intro hb75
 · first|exact bN hb75|(
 (have ho3:o=3:=by simpa using hb67);(have hnx:nulT x=false:=by simpa using hb75);rw [hnx] at hE;have hfin:=(OE hE).trans ((Zes hE (hall ho3)).trans (show _=canB R by rw [hm,Qb ho3];rfl));rw [hfin];refine ZE ?_;exact Zf results59 rfl rfl)
 · (
 refine Y5 ?_;rw [OE hE];refine Zm (
  ⟨(i+1,_),hil,fun ho=>by
    have hnx:nulT x=true:=by first|(simpa using hb75)|exact Qc ho hb67|exact Qc ho (by simpa using hb67)
    intro p hp;rw [Zw hE] at hp;rcases Xd.1 hp with hp|hp
    · exact hall ho p hp
    · rw [Xn] at hp;subst hp;exact hnx⟩
  ) (by dsimp only;omega) ⟨rfl,rfl,rfl,rfl,trivial⟩ ⟨rfl,trivial⟩)))
 · (
 (obtain rfl:last=false:=by simpa using hb48);obtain ⟨x,hx⟩:=get_some hil;have e1:((Z9 l).drop (i*3)).take 3=[Zc x.op,Zt x.act,Yt x.l]:=ZT hx;have e2:=Yg hx;have hxm:=Xc hx;have hE:=Znt hx;have hbx:=R9 false x;have hcx:=P5 (edgT false x);have hsx:=hps x hxm;have hB:=Eh (((Rw false l).take i).flatMap (·.2)) (canB (edgT false x)) oM oM;refine Zh ?_;refine xL 55 Za (xL 56 (Zb 2 WP) ?_);refine yU (Ze 2 KZ) fun v57=>?_;refine xL 58 Za (xL 59 (Zg K0) ?_);refine yU (YD JH) fun v60=>?_;refine Yv ?_;refine cU (cA call59 (ih x hxm (hpo x hxm) (hps x hxm))) fun v62=>?_;refine cU (cA call103 (hB)) fun v63=>?_;refine ZQ ?_;(refine xM (Zb 2 Gc) ?_<;>refine yV (Ze 2 SH) ?_<;>refine YW ?_<;>(refine bLd 67 (fun hb67=>?_) (fun hb67=>?_)<;>(first|refine kL ?_|refine xM (Zb 2 WP) ?_))<;>(first|refine kL ?_|refine yU (Ze 2 KZ) fun v69=>?_)<;>refine kZ ?_<;>(first|refine kL ?_|refine xM (Zg K0) ?_)<;>(first|refine kL ?_|refine yU (YD JH) fun v72=>?_)<;>(first|refine kL ?_|(refine cV (cA call102 (hN x hxm)) ?_))<;>refine Wz ?_)<;>(
 refine cX ?_ ?_<;>intro hb75
 · first|exact bN hb75|(
 (have ho3:o=3:=by simpa using hb67);(have hnx:nulT x=false:=by simpa using hb75);rw [hnx] at hE;have hfin:=(OE hE).trans ((Zes hE (hall ho3)).trans (show _=canB R by rw [hm,Qb ho3];rfl));rw [hfin];refine ZE ?_;exact Zf results59 rfl rfl)
 · (
 refine Y5 ?_;rw [OE hE];refine Zm (
  ⟨(i+1,_),hil,fun ho=>by
    have hnx:nulT x=true:=by first|(simpa using hb75)|exact Qc ho hb67|exact Qc ho (by simpa using hb67)
    intro p hp;rw [Zw hE] at hp;rcases Xd.1 hp with hp|hp
    · exact hall ho p hp
    · rw [Xn] at hp;subst hp;exact hnx⟩
  ) (by dsimp only;omega) ⟨rfl,rfl,rfl,rfl,trivial⟩ ⟨rfl,trivial⟩))))
 · (
 have hfin:canB (((Rw last l).take i).flatMap (·.2))=canB R:=by
  rw [Xq (by rw [Zns];omega)] at hall ⊢;by_cases ho3:o=3
  · rw [hm,Qb ho3];exact ZpM (hall ho3)
  · rw [hm,Qa ho3];exact SF fun s=>by rw [←Znv,X7]
 rw [hfin];refine ZE ?_;exact Zf results59 rfl rfl))))
theorem S0:AggT prog 24 3=true:=kR
theorem Zaf:Zpi prog 129 1 1=true:=kR
theorem Zag:Zpi prog 129 2 2=true:=kR
theorem Zet:∀{m:List (Bool×List BA)} {s:BA},s∈seqE m→∃p∈m,s∈p.2
 |[],s,h=>by simp [seqE] at h
 | (b, e)::m,s,h=>by
   have h:s∈e++(if b=true then seqE m else []):=h;rcases Xd.1 h with h|h
   · exact ⟨_,Xs ..,h⟩
   · split at h
     · obtain ⟨p,hp,h⟩:=Zet h;exact ⟨p,Xw _ hp,h⟩
     · simp at h
theorem ZpN {last:Bool} {o:Int} {a:BA} {m:List (Bool×List BA)} {s:BA} (h:s∈opE last o a m):(o=1∧s=a)∨∃p∈m,s∈p.2:=by
 unfold opE at h
 by_cases h1:o=2
 · rw [Qb h1] at h;simp at h
 rw [Qa h1] at h
 by_cases h2:o=1
 · rw [Qb h2,Xn] at h;exact .inl ⟨h2,h⟩
 rw [Qa h2] at h
 by_cases h3:o=6
 · rw [Qb h3] at h;match m,h with
   |[],h=>simp [Zbi] at h
   |[_],h=>simp [Zbi] at h
   | (b,e)::(b2,e2)::m,h=>
     have h:s∈e++(if b=true then e2 else []):=h;rcases Xd.1 h with h|h
     · exact .inr ⟨_,Xs ..,h⟩
     · split at h
       · exact .inr ⟨_,Xw _ (Xs ..),h⟩
       · simp at h
 rw [Qa h3] at h
 by_cases h4:o=3
 · rw [Qb h4] at h;obtain ⟨p,hp,h⟩:=Zet h;split at hp
   · exact .inr ⟨p,List.mem_reverse.1 hp,h⟩
   · exact .inr ⟨p,hp,h⟩
 · rw [Qa h4,X7] at h;exact .inr h
theorem Zeu (last:Bool):∀t:Nd,FitT t→∀s∈edgT last t,s.size≤140737488355328:=Nd.ind fun o a l ih hf s hs=>by
 rw [ζN] at hs
 rcases ZpN hs with ⟨_,rfl⟩|⟨p,hp,h⟩
 · exact hf.sz
 · obtain ⟨x,hx,rfl⟩:=Xh.1 hp;exact ih x hx (hf.p x hx) s h
theorem Dm {α:Type} [DecidableEq α]:∀{l m:List α},l.Nodup→(∀x∈l,x∈m)→l.length≤m.length
 |[],_,_,_=>Xg _
 | x::l,m,h,hs=>by
   have h1:=Vt.1 h;have hx:=hs x (Xs ..);have ih:=Dm (l:=l) (m:=m.erase x) h1.2 fun y hy=>(List.mem_erase_of_ne (fun e:y=x=>h1.1 (by rw [←e];exact hy))).2 (hs y (Xw _ hy));rw [List.length_erase_of_mem hx] at ih;have:=UR hx;rw [Xl];omega
theorem Zev {ks l:List BA} (h:ks.Nodup) (hm:∀s,s∈ks↔s∈l):ks.length≤l.length:=Dm h fun s hs=>(hm s).1 hs
theorem ZhV {ks l:List BA} (h:ks.Nodup) (hm:∀s,s∈ks↔s∈l):Gv ks=canB l:=Zch (Zen h) fun s=>by rw [Zd7,hm]
theorem ZpO (t:Nd) (hf:FitT t):AF prog 44 [pTr t] (· = .tup [Zs (if WH t=true then canB (edgT false t) else []),Zc (if WH t=true then 0 else 1)]):=by
 refine AF.b1 12 func44 rfl ntmps44 (Xa rfl) fun w0 M0 v0 _=>?_
 refine Zh ?_
 refine ZV 1 3 fun h1=>?_;refine Jn ?_
 refine yU (Zj 1 S0) fun v4=>?_;refine cV (cA call16 (TJ t hf)) ?_;refine YX ?_ ?_<;>intro hb6
 · (
 (have hv:WH t=false:=by simpa using hb6);rw [hv];refine ZE ?_;refine Z5 (TS (t:=2) rfl) fun _=>?_;exact Z1 results44 rfl rfl rfl)
 · (
 (have hv:WH t=true:=by simpa using hb6);rw [hv];have hvz:=R5 hv;have hof:=Zm7 t (JU hv) oM;refine Zh ?_;refine yU (Zj 1 S0) fun v7=>?_;(refine cDx (ι:={x:Fx//FxOk x t}) (p:=fun i=> .agg (cFx i.1)) 8 (cA (call87) (hof.mono fun p ⟨x,h1,h2⟩=>⟨⟨x,h1⟩,h2⟩)) (fun i v8 _=>?_) (fun _=>rfl);obtain ⟨x,hx⟩:=i;dsimp only [cFx];have hkf:=Zev hx.fn hx.fm;have hke:=R9 false t);refine yU (ZdX Zaf) fun v9=>?_;refine Zf6 (k1:=107) (t:=88) 10 ZmT (call63) (fun g10 b10 c10 es10 hkv10 hWf10=>?_);refine Ec (ks:=x.fs) 10 11 ζL (call62) (fun h=>h) hWf10 hkv10.symm hx.fn oM (fun s hs=>Zeu false t hf s ((hx.fm s).1 hs)) (fun v11 ho11=>?_);refine YJ ?_;refine Z5 (En.freeze (l:=11) (t:=2) rfl rfl) fun _=>?_;rw [show share (PV.own 9 1 x.fs.length ((Gv x.fs).map Zt))=Zs (canB (edgT false t)) from (by rw [←ZhV hx.fn hx.fm,Wb];unfold Zs;rw [Rs])];exact Z1 results44 rfl rfl rfl)
theorem ZpP (t:Nd) (hf:FitT t):AF prog 45 [pTr t] (· = .tup [Zs (if WH t=true then canB (edgT true t) else []),Zc (if WH t=true then 0 else 1)]):=by
 refine AF.b1 12 func45 rfl ntmps45 (Xa rfl) fun w0 M0 v0 _=>?_
 refine Zh ?_
 refine ZV 1 3 fun h1=>?_;refine Jn ?_
 refine yU (Zj 1 S0) fun v4=>?_;refine cV (cA call16 (TJ t hf)) ?_;refine YX ?_ ?_<;>intro hb6
 · (
 (have hv:WH t=false:=by simpa using hb6);rw [hv];refine ZE ?_;refine Z5 (TS (t:=2) rfl) fun _=>?_;exact Z1 results45 rfl rfl rfl)
 · (
 (have hv:WH t=true:=by simpa using hb6);rw [hv];have hvz:=R5 hv;have hof:=Zm7 t (JU hv) oM;refine Zh ?_;refine yU (Zj 1 S0) fun v7=>?_;(refine cDx (ι:={x:Fx//FxOk x t}) (p:=fun i=> .agg (cFx i.1)) 8 (cA (call87) (hof.mono fun p ⟨x,h1,h2⟩=>⟨⟨x,h1⟩,h2⟩)) (fun i v8 _=>?_) (fun _=>rfl);obtain ⟨x,hx⟩:=i;dsimp only [cFx];have hkf:=Zev hx.ln hx.lm;have hke:=R9 true t);refine yU (ZdX Zag) fun v9=>?_;refine Zf6 (k1:=107) (t:=88) 10 ZmT (call63) (fun g10 b10 c10 es10 hkv10 hWf10=>?_);refine Ec (ks:=x.ls) 10 11 ζL (call62) (fun h=>h) hWf10 hkv10.symm hx.ln oM (fun s hs=>Zeu true t hf s ((hx.lm s).1 hs)) (fun v11 ho11=>?_);refine YJ ?_;refine Z5 (En.freeze (l:=11) (t:=2) rfl rfl) fun _=>?_;rw [show share (PV.own 9 1 x.ls.length ((Gv x.ls).map Zt))=Zs (canB (edgT true t)) from (by rw [←ZhV hx.ln hx.lm,Wb];unfold Zs;rw [Rs])];exact Z1 results45 rfl rfl rfl)
theorem Znw:(prog.info? 9).map (·.size)=some 1:=kR
theorem Zkj:ZeroT prog 39 (.slice none 0 0):=by unfold ZeroT;kernel_rfl
def Zqv (l:List BA):Prop:=∀(i:Nat) (x y:BA),l[i]? =some x→l[i+1]? =some y→x≠y
theorem Znx {hv:Value} (h:hv.oneCell'=true) (i j k:Nat):(slc hv i j k).oneCell'=true:=by
 unfold slc;split
 · rfl
 · exact h
theorem ZpQ {a b:BA} (h:(a.toList==b.toList)=true):a=b:=by
 rw [beq_iff_eq,ByteArray.toList_eq,ByteArray.toList_eq] at h
 exact WideShapes.bytes_inj h
theorem ZpR {a b:BA} (h:(a.toList==b.toList)=false):a≠b:=fun e=>by
 subst e
 simp at h
def Zsq (e:Nat) (l:List BA) (v:Value) (q:PV) (h:List (Nat×Ent)):Prop:=∃(n:Nat) (cs:List PV),v.oneCell'=true∧q= .val v∧h=[(1000,v, .own e 1 n cs)]∧(n=l.length↔Zqv l)
theorem Zcm (l : List BA) (hl:l.length≤1000000) (hv:Value) (hvo:hv.oneCell'=true):AFh False prog 20 [(0,hv, .val hv)] [(1000,hv, .own 9 1 l.length (l.map Zt))] (Zsq 9 l):=by
 refine AFh.of_body 61 func20 rfl ntmps20 (Xa rfl) rfl ?_
 intro w0 M0 N0
 refine YK ?_
 refine xL 6 Za (xL 7 (WQ 1000 Zn) (xL 8 Wq ?_));refine ZR ?_ ?_<;>intro hb8
 · (
 refine ZE ?_;refine Pd [(1000,hv,PV.own 9 1 l.length (l.map Zt))] results20 rfl sB ⟨_,_,hvo,rfl,rfl,fun _ i x y hx hy=>?_,fun _=>rfl⟩;have h1:=Zd hy;omega)
 · (
 refine ZI ?_;refine Yd (ι:={k:Nat//k+1≤l.length∧∀(i:Nat) (x y:BA),i<k→l[i]? =some x→l[i+1]? =some y→x≠y}) (fun k=>⟨[(0,_,_),(3, .int .i64 (k.1+1:Nat),Zc (k.1+1:Nat))],[(1000,_,_)]⟩) (fun k=>l.length-k.1) ⟨0,oM,fun i x y h=>Qc h (Ut i)⟩ ?_;rintro ⟨k,hk,hno⟩;dsimp only;refine Zh ?_;refine xL 10 Za (xL 11 Za (xL 12 (WQ 1000 Zn) (xL 13 Wq ?_)));refine ZR ?_ ?_<;>intro hb13
 · (
 obtain ⟨x,hx⟩:=gS l (k+1);obtain ⟨y,hy⟩:=gS l k;have e1:=Z8 (f:=Zt) hx;have e3:=Z8 (f:=Zt) hy;have hlt:k+1<l.length:=Zd hx;refine nav ?_;refine We [] [1000] ?_<;>refine gDx 0 ?_<;>refine gDx 1 ?_<;>refine xD 2 rfl (Zo 1000 Zn) ?_<;>(refine yD 3 rfl (Ze 1000 ZK) fun v19 h=>?_;cases h)<;>refine gDx 4 ?_<;>refine gEx 5 ?_<;>refine xE 6 rfl ((WJ (c:=((k:Nat):Int)))) ?_<;>refine xE 7 rfl (Zo 1000 Zn) ?_<;>(refine yE 8 rfl (Ze 1000 ZK) fun v24 h=>?_;cases h)<;>refine gEx 9 ?_<;>refine Kz ?_;refine cX ?_ ?_<;>intro hb25
 · (
 refine Wn ?_;refine xM (L5 (i:=k+1) (j:=l.length) 1000 Zn rfl rfl rfl rfl rfl (Nat.le_of_lt hlt) (Xe _)) ?_;refine Ta ?_;refine Yd (ι:={q:Nat×Nat×List BA//1≤q.1∧k+1+q.1≤l.length∧q.2.1≤k+q.1∧q.2.2.length=l.length}) (fun k=>⟨[(0,_,_),(4,_,_),(3, .int .i64 k.1.2.1,Zc k.1.2.1),(5, .int .i64 k.1.1,Zc k.1.1)],[(1000,hv, .own 9 1 l.length (k.1.2.2.map Zt))]⟩) (fun k=>l.length-k.1.1) ⟨(1,k+1,l),Xe _,by dsimp only;omega,Xe _,rfl⟩ ?_;rintro ⟨⟨j,K,L⟩,hj1,hj,hKj,hLl⟩;dsimp only;dsimp only at hj1 hj hKj hLl;refine Wn ?_;refine xM ((Zbc (a:=k+1) (m:=l.length-(k+1)) 1000 Zn rfl rfl rfl rfl)) ?_;refine YX ?_ ?_<;>intro hb32
 · (
 obtain ⟨u,hu⟩:=gS L (k+1+j);obtain ⟨v,hv2⟩:=gS L (k+1+(j-1));have g1:=Z8 (f:=Zt) hu;have g3:=Z8 (f:=Zt) hv2;have g5:K<L.length:=oM;(have g6:K*1<(L.map Zt).length:=by rw [Xb];omega);(have hset:(L.map Zt).set (K*1) (Zt u)=(L.set K u).map Zt:=by rw [Xy,Up]);refine nav ?_;refine We [] [1000] ?_<;>refine gDx 0 ?_<;>refine gDx 1 ?_<;>refine xD 2 rfl ((Se (a:=k+1) (m:=(k+1+j)*1) 1000 Zn rfl rfl rfl rfl oM oM oM)) ?_<;>(refine yD 3 rfl (Ze 1000 ZK) fun v38 h=>?_;cases h)<;>refine gDx 4 ?_<;>refine gEx 5 ?_<;>refine xE 6 rfl ((WJ (c:=((j-1:Nat):Int)))) ?_<;>refine xE 7 rfl ((Se (a:=k+1) (m:=(k+1+(j-1))*1) 1000 Zn rfl rfl rfl rfl oM oM oM)) ?_<;>(refine yE 8 rfl (Ze 1000 ZK) fun v43 h=>?_;cases h)<;>refine gEx 9 ?_<;>refine Kz ?_;refine cX ?_ ?_<;>intro hb44
 · (
 refine OZ ?_;refine xM ((Se (a:=k+1) (m:=(k+1+j)*1) 1000 Zn rfl rfl rfl rfl oM oM oM)) ?_;refine yV (Ze 1000 ZK) ?_;refine xM (Zo 1000 Zn) ?_;refine GC 1000 ZK Znw ?_;refine Yc ?_;refine Y' ?_;refine Yc ?_;refine DK ?_;try rw [hset]
 first
  | (exact Yh (
      ⟨(j+1,K+1,L.set K u),by dsimp only;omega,by dsimp only;omega,by dsimp only;omega,by dsimp only;rw [Xp];exact hLl⟩
      ))
  | (exact Yh (
      ⟨(j+1,K,L),by dsimp only;omega,by dsimp only;omega,by dsimp only;omega,hLl⟩
      )))
 · (
 refine Y5 ?_;exact Yh (
      ⟨(j+1,K,L),by dsimp only;omega,by dsimp only;omega,by dsimp only;omega,hLl⟩
      )))
 · (
 have hKl:K≤l.length:=oM;have hKlt:K<l.length:=oM;refine Wn ?_;refine xM (L5 (i:=K) (j:=l.length) 1000 Zn rfl rfl rfl rfl rfl hKl (Xe _)) ?_;refine Zdz 1000 ZW dC rfl rfl rfl rfl rfl hKl ?_;intro cs2 hcs1 hcs2;refine OW ?_;refine xM (L5 (i:=0) (j:=K) 1000 Zn rfl rfl rfl rfl rfl (Xg _) hKl) ?_;refine ZB ?_;refine Z5 (Zox (l:=1000) K rfl hKl) fun _=>?_;refine Pd [(1000,slc hv 0 K 1,PV.own 9 1 K (cs2.take (K*1)))] results20 rfl sB ⟨_,_,Znx hvo _ _ _,rfl,rfl,fun h=>Qc h oM,fun h=>?_⟩;exact Qc (ZpQ (by simpa using hb25)).symm (h k y x hy hx)))
 · (
 refine Y5 ?_;refine Yh (
  ⟨k +1,oM,fun i u v hi hu hv2=>by
   by_cases e:i=k
   · subst e;rw [hy] at hu;rw [hx] at hv2;cases hu;cases hv2;exact fun e=>ZpR (by simpa using hb25) e.symm
   · exact hno i u v oM hu hv2⟩
  )))
 · (
 refine ZE ?_;refine Pd [(1000,hv,PV.own 9 1 l.length (l.map Zt))] results20 rfl sB ⟨_,_,hvo,rfl,rfl,fun _ i x y hx hy=>hno i x y (by have:=Zd hy;omega) hx hy,fun _=>rfl⟩))
theorem ZpS (ks:List BA):(Gv ks).Pairwise fun x y=>toB x≤toB y:=by
 have htr:∀a b c:List UInt8,decide (a≤b)=true→decide (b≤c)=true→decide (a≤c)=true:=fun a b c h1 h2=>by
  simp only [U8] at*;exact List.le_trans h1 h2
 have hto:∀a b:List UInt8,(decide (a≤b)||decide (b≤a))=true:=fun a b=>by
  simp only [X3,U8];exact List.le_total a b
 unfold Gv
 rw [Vq]
 exact (UC htr hto (ks.map toB)).imp fun {a b} h=>by rw [Cd,Cd];exact Qd h
theorem Zkk (ks:List BA):Zqv (Gv ks)↔ks.Nodup:=by
 rw [←(Zf5 ks).nodup_iff]
 have hle:=ZpS ks
 generalize Gv ks=l at hle ⊢
 rw [XS] at hle
 constructor
 · intro h;rw [Ui,XS];intro i j hi hj hij e;have hi1:i+1<l.length:=oM;refine h i l[i] l[i+1] sM sM ?_;have h1:=hle i (i+1) hi hi1 (UL _);have h2:toB l[i+1]≤toB l[j]:=by
    rcases Nat.eq_or_lt_of_le (show i+1≤j by omega) with e2|e2
    · simp only [e2];exact List.le_refl _
    · exact hle (i+1) j hi1 hj e2
   rw [←e] at h2;rw [←OB l[i],←OB l[i+1],List.le_antisymm h1 h2]
 · intro h i x y hx hy e;obtain ⟨hi,rfl⟩:=Xr.1 hx;obtain ⟨hj,rfl⟩:=Xr.1 hy;exact XS.1 (Ui.1 h) i (i+1) hi hj (UL _) e
theorem Zny (l m:List Nd):GN (l++m)=GN l++GN m:=by
 induction l with
 |nil=>rfl
 |cons x l ih=>rw [XV,GN,ih,GN,XA]
theorem Zbs {l:List Nd} {k:Nat} {x:Nd} (h:l[k]? =some x):GN (l.take (k+1))=GN (l.take k)++Jd x:=by
 rw [Zw h,Zny,GN,GN,Xu]
theorem Zbt {o:Int} {a:BA} {l:List Nd} (hr:rightT (.mk o a l)=true) (h:o=1):Jd (.mk o a l)=[a]:=by
 subst h
 unfold rightT at hr
 simp [Nd.op,Nd.l] at hr
 rw [Jd,Qb rfl,hr.1];rfl
theorem P6:∀t:Nd,okT t=true→(Jd t).length≤szT t:=Nd.ind fun o a l ih h=>by
 obtain ⟨hr,hp⟩:=Y3.1 h
 have key:∀m:List Nd,(∀x∈m,x∈l)→(GN m).length≤szL m:=fun m=>by
  induction m with
  |nil=>intro _;exact Xg _
  | cons x m ihm=>
    intro hm;have h1:=ih x (hm x (Xs ..)) (hp x (hm x (Xs ..)));have h2:=ihm fun y hy=>hm y (Xw _ hy);rw [GN,szL,Xf];omega
 have:=key l fun _ h=>h
 rw [Jd,szT]
 split
 · rename_i h1;have h2:=Zbt hr h1;rw [Jd,Qb h1] at h2;have h3:GN l=[]:=by injection h2
   rw [h3];simp
 · omega
theorem ZpT {o:Int} {a:BA} {l:List Nd} (h:¬o=1):Jd (.mk o a l)=GN l:=by rw [Jd,Qa h]
theorem Zbu (l:List Nd) (k:Nat):szL (l.take k)≤szL l:=by
 induction l generalizing k with
 |nil=>simp
 | cons x l ih=>
   cases k with
   |zero=>exact Xg _
   |succ k=>rw [Uv,szL,szL];have:=ih k;omega
theorem ZhW {l:List Nd} (h:∀x∈l,okT x=true):(GN l).length≤szL l:=by
 induction l with
 |nil=>exact Xg _
 | cons x l ih=>
   have h1:=P6 x (h x (Xs ..));have h2:=ih fun y hy=>h y (Xw _ hy);rw [GN,szL,Xf];omega
theorem Zkl:∀t:Nd,okT t=true→szT t≤1000000→AF prog 17 [pTr t] (· = .own 9 1 (Jd t).length ((Jd t).map Zt)):=Nd.ind fun o a l ih hok hs0=>by
 have ea:pTr (.mk o a l)= .agg [Zc o,Zt a,Yt l]:=rfl
 have hsz:szT (.mk o a l)=1+szL l:=by rw [szT]
 have hll:=LP l
 obtain ⟨hr,hp⟩:=Y3.1 hok
 simp only [Nd.l] at hp
 rw [ea]
 refine AF.b1 25 func17 rfl ntmps17 (Xa rfl) fun w0 M0 v0 _=>?_
 refine Zh ?_
 refine ZV 1 3 fun h1=>?_;refine ZQ ?_
 refine xM (Zb 1 YS) ?_;refine yV (Ze 1 ZM) ?_;refine YX ?_ ?_<;>intro hb8
 · (
 refine Zh ?_;refine xM (Zb 1 Ld) ?_;refine yV (Ze 1 ZK) ?_;refine Wx (kk:=1) 11 ZW fun h11 ho11=>?_;refine ZB ?_;refine K3 11 results17 rfl rfl ?_;rw [Zbt hr (by simpa using hb8)];rfl)
 · (
 (have ho1:¬o=1:=by simpa using hb8);rw [ZpT ho1];refine YK ?_;refine xM (Zb 1 Yj) ?_;refine yU (Ze 1 YT) fun v13=>?_;refine xL 14 (Zy Yw) (xL 15 Za ?_);refine ZF ?_;refine Zq (Wr 200 9 1 rfl) fun _=>?_;refine Yd (ι:={q:Nat×Value//q.1≤l.length∧q.2.oneCell'=true}) (fun k=>⟨[(13,_,_),(14,_,_),(3,k.1.2, .val k.1.2),(15, .int .i64 k.1.1,Zc k.1.1)],[(200,k.1.2, .own 9 1 (GN (l.take k.1.1)).length ((GN (l.take k.1.1)).map Zt))]⟩) (fun k=>l.length-k.1.1) ⟨(0, .slice none 0 0),Xg _,rfl⟩ ?_;rintro ⟨⟨i,hv⟩,hi,hov⟩;dsimp only;dsimp only at hi hov;refine Ys ?_ ?_<;>intro hb16
 · (
 obtain ⟨y,hy⟩:=gS l i;have e1:((Z9 l).drop (i*3)).take 3=[Zc y.op,Zt y.act,Yt y.l]:=ZT hy;have e2:=Yg hy;have hym:=Xc hy;have hys:=Jh hym;have h7:=P6 y (hp y hym);have h8:=ZhW (l:=l.take i) fun x hx=>hp x (VA hx);have h9:=Zbu l i;(have f3:((Jd y).map Zt).length=(Jd y).length*1:=by rw [Xb,Xy]);have f4:=ζM (Jd y);refine Zh ?_;refine xM (Zg Yw) ?_;refine yU (YD Zk) fun v18=>?_;refine Zx zT 3 5 Wl fun h5=>?_;refine Zu 5 Zk ?_;refine OX ?_;refine yU (Zj 5 Zk) fun v20=>?_;refine cO 21 (cA (call17) (ih y hym (hp y hym) oM)) fun v21 ho21=>?_;refine Zp (En.freeze (l:=21) (t:=21) rfl rfl) fun _=>?_;rw [Wb];refine G1 200 22 ZW (fun h22 ho22=>?_) f3 f4;refine Zp (Zz (l:=22) 200 rfl rfl) fun _=>?_;refine Zp (Y1 (l:=200) (p':= .own 9 1 (GN (l.take (i+1))).length ((GN (l.take (i+1))).map Zt)) rfl (by rw [Zbs hy,Xf,XC])) fun _=>?_;refine Wy ?_;refine Yh (
  ⟨(i+1,h22),by show i+1≤l.length;omega,ho22⟩
  ))
 · (
 obtain rfl:i=l.length:=oM;refine ZE ?_;refine K3 200 results17 rfl rfl ?_;rw [XH]))
noncomputable def hitT (x:Nd):Bool:=(canB (edgT false x)).any (hasStr (canB (edgT true x)))
noncomputable def hitL:List Nd→Bool
 |x::_=>hitT x
 |[]=>false
mutual
noncomputable def turT:Nd→Bool
 | .mk o _ l=>(decide (o=6)&&hitL l)||turL l
noncomputable def turL:List Nd→Bool
 |[]=>false
 |x::l=>turT x||turL l
end
theorem Znz (l:List Nd):turL l=l.any turT:=by
 induction l with
 |nil=>rfl
 |cons x l ih=>rw [turL,ih,Ud]
theorem ZnA (o:Int) (a:BA) (l:List Nd):turT (.mk o a l)=((decide (o=6)&&hitL l)||l.any turT):=by rw [turT,Znz]
theorem Zkm (b:List BA) (s:BA):AF prog 47 [Zt s, .sptr 0 [Zs b]] (· =Zv (hasStr b s)):=by
 refine AF.b2 7 func47 rfl ntmps47 (Xa rfl) ?_
 rintro w0 M0 _ v1 rfl-
 refine YK ?_
 refine yU (ZG ZN) fun v4=>?_;refine Yv ?_;refine cV (cA call48 (LC b s)) ?_;refine ZB ?_
 exact Zf results47 rfl rfl
theorem ZnB:∀t:Nd,FitT t→WH t=true→AF prog 22 [pTr t] (· =Zv (turT t)):=Nd.ind fun o a l ih hf hval=>by
 have ea:pTr (.mk o a l)= .agg [Zc o,Zt a,Yt l]:=rfl
 have hr:=(Y3.1 (JU hval)).1
 have hcat:=J7 hr
 simp only [Nd.op,Nd.l] at hcat
 have hC:=OP 22 turT l hf.len (call22) (fun t ht=>ih t ht (hf.p t ht) (Zd8 hval ht))
 rw [ea,ZnA]
 refine AF.b1 32 func22 rfl ntmps22 (Xa rfl) fun w0 M0 v0 _=>?_
 refine Zh ?_
 refine ZV 1 3 fun h1=>?_;refine ZQ ?_
 refine xM (Zb 1 YS) ?_;refine yV (Ze 1 ZM) ?_;refine YX ?_ ?_<;>intro hb9
 · (
 (have ho6:o=6:=by simpa using hb9);obtain ⟨x,hx⟩:=gS l 0;have e1:((Z9 l).drop (0*3)).take 3=[Zc x.op,Zt x.act,Yt x.l]:=ZT hx;have e2:=Yg hx;have hxm:=Xc hx;have hvx:=Zd8 hval hxm;have hF:=ZpO x (hf.p x hxm);have hL:=ZpP x (hf.p x hxm);rw [hvx,Qb rfl,Qb rfl] at hF hL;have hh:hitL l=hitT x:=by
  cases l with
  |nil=>simp at hx
  |cons y l=>cases hx;rfl
 have hK:=LD 47 [.sptr 0 [Zs (canB (edgT true x))]] (hasStr (canB (edgT true x))) (canB (edgT false x)) (call47) (fun s _=>Zkm _ s);have hK2:AF prog 46 [Zs (canB (edgT false x)), .fn 47 [.sptr 0 [Zs (canB (edgT true x))]]] (· =Zv (hitT x)):=hK;refine Zh ?_;refine xM (Zb 1 Yj) ?_;refine yU (Ze 1 YT) fun v12=>?_;refine xM (Zg Yw) ?_;refine yU (YD Zk) fun v14=>?_;refine cP 15 (cA call44 (hF)) fun va15 vb15 hva15 hvb15=>?_;cases hvb15;refine JY ?_;refine Yc ?_;refine xM (Zb 1 Yj) ?_;refine yU (Ze 1 YT) fun v20=>?_;refine xM (Zg Yw) ?_;refine yU (YD Zk) fun v22=>?_;refine cP 23 (cA call45 (hL)) fun va23 vb23 hva23 hvb23=>?_;cases hvb23;refine Y' ?_;refine Zx [(.slice none 0 0)] 1 5 Zkj fun h5=>?_;refine GC 5 ZN Zaz ?_;refine LA ?_;refine Zp (T0 (l:=5) (t:=5) (j:=0) rfl (Vj 0) rfl) fun _=>?_;refine xM (TP) ?_;refine cV (cA call46 (hK2)) ?_;refine ZR ?_ ?_<;>intro hb28
 · (
 refine ZI ?_;refine Zf results22 rfl ?_;rw [U9 ho6,hh,hb28];rfl)
 · (
 refine Zh ?_;refine xM (Zb 1 Yj) ?_;refine yU (Ze 1 YT) fun v30=>?_;refine cV (cA call43 (hC)) ?_;refine ZB ?_;refine Zf results22 rfl ?_
 first
  |(rw [U' (show ¬o=6 by simpa using hb9)];rfl)
  |(rw [U9 (show o=6 by simpa using hb9),hh,hb28];rfl)
  |(rw [U9 (show o=6 by simpa using hb9),hh,show hitT x=false by simpa using hb28];rfl)))
 · (
 refine Zh ?_;refine xM (Zb 1 Yj) ?_;refine yU (Ze 1 YT) fun v30=>?_;refine cV (cA call43 (hC)) ?_;refine ZB ?_;refine Zf results22 rfl ?_
 first
  |(rw [U' (show ¬o=6 by simpa using hb9)];rfl)
  |(rw [U9 (show o=6 by simpa using hb9),hh,hb28];rfl)
  |(rw [U9 (show o=6 by simpa using hb9),hh,show hitT x=false by simpa using hb28];rfl))
theorem ζV {α β:Type} {f:α→List β} {m:Nat} (hf:∀x,(f x).length=m):∀(L:List α) (k:Nat),(L.flatMap f).drop (k*m)=(L.drop k).flatMap f
 |[],k=>sM
 |x::L,0=>sM
 | x::L,k+1=>by
   rw [List.drop_succ_cons,Xv,←ζV hf L k,List.drop_append,List.drop_of_length_le (by rw [hf,X1];omega),hf,show (k+1)*m-m=k*m by rw [X1];omega,XQ]
theorem ZnC {m:List Nd} {k:Nat} (hk:k≤m.length):PV.sl (m.length-k) (((Z9 m).drop (k*3)).take ((m.length-k)*3))=Yt (m.drop k):=by
 unfold Yt
 rw [WV,ζV Sy,Xq (by rw [Yr Sy,UB];omega),←WV,UB]
def Zew (t:Nd):Nd:=if WH t=true then (if WH (YF t)=true then YF t else nd0) else nd0
theorem ZhX {p q:PV} {r:PV} (h:Rr p q):Rr (.tup [p,r]) (.tup [q,r]):=Rr.tup rfl fun i a b ha hb=>by
 match i with
 |0=>cases ha;cases hb;exact h
 |1=>cases ha;cases hb;exact Rr.rfl' _
 |i+2=>simp at ha
theorem ZpU (t:Nd):Rr (P3 t).1 (pTr (Zew t)):=by
 unfold P3 Zew
 split
 · split
   · exact Rr.rfl' _
   · exact ζE
 · exact ζE
theorem ZpV (t:Nd):shD (.tup [(P3 t).1,Zc (P3 t).2])=true:=by
 unfold P3
 split
 · split<;>rfl
 · rfl
theorem ZnD {t:Nd} (hf:FitT t):FitT (Zew t):=by
 unfold Zew
 split
 · rename_i h;split
   · exact Oz (JU h) (by have:=R5 h;omega)
   · exact Zhx
 · exact Zhx
theorem Li:J2 prog 24=some ((.agg #[(.int .i64 0),(.string ByteArray.empty),(.slice none 0 0)]),([0,1,2]:List Nat).map fun o=>(o,1)):=kR
def Ky (o:Int) (l:List Nd):Nd:= .mk o ByteArray.empty l
def lf (s:BA):Nd:= .mk 1 s []
def sil:Nd:=Ky 2 []
def ZnE (acts:List BA):Nd:=match acts with
 |[s]=>Ky 6 [lf s,sil]
 |l=>Ky 6 [Ky 4 (l.map lf),sil]
theorem ZnF {l:List BA} (h:l.length≠1):ZnE l=Ky 6 [Ky 4 (l.map lf),sil]:=by
 match l with
 |[]=>rfl
 |[s]=>simp at h
 |_::_::_=>rfl
theorem ZhY (o:Int) (a:BA):Rr (.agg [Zc o,Zt a, .val (.slice none 0 0)]) (pTr (.mk o a [])):=Rr.agg rfl fun i x y ha hb=>by
 match i with
 |0=>cases ha;cases hb;exact Rr.rfl' _
 |1=>cases ha;cases hb;exact Rr.rfl' _
 |2=>cases ha;cases hb;exact Rr.nil
 |i+3=>simp at ha
theorem Ht (x y:Nd):PV.sl 2 [Zc x.op,Zt x.act,Yt x.l,Zc y.op,Zt y.act,Yt y.l]=Yt [x,y]:=by
 show PV.sl 2 (cN x++(cN y++[]))=PV.sl 2 (Z9 [x,y])
 rw [WV];rfl
theorem Tw (o:Int) (l:List Nd):AF prog 65 [Zc o,Yt l] (· =pTr (Ky o l)):=by
 refine AF.b2 8 func65 rfl ntmps65 (Xa rfl) ?_
 rintro w0 M0 _ v1 rfl-
 refine Zh ?_
 refine Zx zT 3 4 Wl fun h4=>?_;refine Yc ?_
 refine xL 5 Za (xL 6 Za (xL 7 (ZX Li) ?_));refine Zu 4 Zk ?_;refine ZF ?_
 exact Z4 (k:=3) 4 results65 rfl
theorem ZpW (s:BA):AF prog 108 [Zt s] (· = .agg [Zc 1,Zt s, .val (.slice none 0 0)]):=by
 refine AF.b1 5 func108 rfl ntmps108 (Xa rfl) ?_
 rintro w0 M0 _ rfl
 refine Zh ?_
 refine Zx zT 3 2 Wl fun h2=>?_;refine Yc ?_
 refine xL 3 Za (xL 4 (ZX Li) ?_);refine Zu 2 Zk ?_;refine ZF ?_
 exact Z4 (k:=3) 2 results108 rfl
theorem ZhZ (s:BA):AF prog 108 [Zt s] (· =pTr (lf s)):=(ZpW s).reread rfl (ZhY 1 s)
theorem Zkn:AF prog 66 [] (· = .agg [Zc 2,Zt ByteArray.empty, .val (.slice none 0 0)]):=by
 refine AF.of_body 2 func66 rfl ntmps66 (Xa rfl) ?_
 intro w0 M0 vs hl hv
 obtain rfl:=XB hl
 clear hl hv
 refine Zh ?_
 refine Zx zT 3 0 Wl fun h0=>?_;refine Yc ?_
 refine xM (ZX Li) ?_;refine Zu 0 Zk ?_;refine ZF ?_
 exact Z4 (k:=3) 0 results66 rfl
theorem Rx:AF prog 66 [] (· =pTr sil):=Zkn.reread rfl (ZhY 2 _)
theorem Lj:ElT prog 22 24 3 48 (.agg #[(.int .i64 0),(.string ByteArray.empty),(.slice none 0 0)]):=⟨underlying22,by kernel_rfl,rfl,dC⟩
theorem Zrz (l:List BA) (k:Nat) {x:BA} (hx:l[k]? =some x):((l.take k).map lf).flatMap cN++cN (lf x)=((l.take (k+1)).map lf).flatMap cN:=by
 rw [Zw hx,XC,XT];simp
theorem ZrA (l:List BA) (k:Nat) (h:k≤l.length):(((l.take k).map lf).flatMap cN).length=k*3:=by
 rw [Yr Sy,Xb,XG,Vc h]
theorem Zko (l:List BA) (hl:l.length≤1000000):AF prog 69 [Zs l] (· =pTr (ZnE l)):=by
 refine AF.b1 32 func69 rfl ntmps69 (Xa rfl) fun w0 M0 v0 _=>?_
 refine Zh ?_
 refine Zx zT 3 2 Wl fun h2=>?_;refine Yc ?_;refine ZQ ?_
 refine xL 6 Za (xL 7 (Zy Zn) (xL 8 Za ?_));refine ZF ?_
 refine Zq (Wr 200 24 3 rfl) fun _=>?_
 refine Yd (ι:={x:Nat×Value//x.1≤l.length}) (fun k=>⟨[(2,_,_),(6,_,_),(7,_,_),(3,k.1.2, .val k.1.2),(8, .int .i64 k.1.1,Zc k.1.1)],[(2,_,_),(200,k.1.2, .own 24 3 k.1.1 (((l.take k.1.1).map lf).flatMap cN))]⟩) (fun k=>l.length-k.1.1) ⟨(0, .slice none 0 0),oM⟩ ?_
 rintro ⟨⟨k,h3⟩,hk⟩
 dsimp only
 dsimp only at hk
 refine Ys ?_ ?_<;>intro hb9
 · (
 obtain ⟨x,hx⟩:=gS l k;have e1:=Z8 (f:=Zt) hx;have e3:=ZrA l k hk;refine Zh ?_;refine xM (Zg Zn) ?_;refine yV (ZG ZK) ?_;refine ZQ ?_;refine YW ?_;refine cD (cA call108 (ZhZ x)) fun v14 hv14=>?_;clear hv14;refine JW 15 Lj fun h15 ho15=>?_;refine WN 200 15 16 Lj fun h16 ho16=>?_;refine Wy ?_;refine Yq (Zz (l:=16) 200 rfl rfl) fun _=>?_;rw [show ((l.take k).map lf).flatMap cN++_=((l.take (k+1)).map lf).flatMap cN from Zrz l k hx];refine Yh (
  ⟨(k+1,h16),by show k+1≤l.length;omega⟩
  ))
 · (
 obtain rfl:k=l.length:=oM;rw [XH];refine nav ?_;refine Zq (En.freeze (l:=200) (t:=3) rfl rfl) fun _=>?_;rw [←WV,Rq _ _ _ (by rw [Xb])];refine Zi ?_;refine xL 18 Za (xL 19 (Zy Yw) (xL 20 SN ?_));refine ZR ?_ ?_<;>intro hb20
 · (
 obtain ⟨x,rfl⟩:∃x,l=[x]:=U2.1 (by have:=hb20;rw [Xb] at this;omega);have e1:((Z9 ([x].map lf)).drop (0*3)).take 3=cN (lf x):=rfl;have e2:0<([x].map lf).length:=Vs;refine nav ?_;refine We [] [] ?_<;>refine gDx 0 ?_<;>refine xD 1 rfl (Zg Yw) ?_<;>(refine yD 2 rfl (YD Zk) fun v23 h=>?_;cases h)<;>(refine Z6 3 kR ?_)<;>(refine Yz (d:=24) rfl (cA call66 Rx) fun v24 h=>?_;cases h)<;>(refine aDr 4 fun bk=>?_)<;>(refine Sz (kk:=3) (xs:=[_,_]) (cs:=[[_,_,_],[_,_,_]]) 25 Lj fun h25 ho25=>?_;refine Zp (En.freeze (l:=25) (t:=25) rfl rfl) fun _=>?_;refine Zp (Kt (t:=25) (p':=Yt [lf x,sil]) rfl (Eq.trans (show _=PV.sl 2 ([lf x,sil].flatMap cN) from rfl) (Ht (lf x) sil))) fun _=>?_)<;>refine bE bk ?_<;>(refine Z6 5 kR ?_)<;>(refine Yz (d:=26) rfl (cA call65 (Tw 6 [lf x,sil])) fun v26 h=>?_;cases h)<;>(refine aDr 6 fun bk=>?_)<;>refine Zu 2 Zk ?_<;>refine bE bk ?_<;>refine Kz ?_;refine Z4 (k:=3) 2 results69 ?_;rfl)
 · (
 refine Wh ?_;refine cD (cA call65 (Tw 4 (l.map lf))) fun v28 hv28=>?_;clear hv28;refine cD (cA call66 (Rx)) fun v29 hv29=>?_;clear hv29;refine Sz (kk:=3) (xs:=[_,_]) (cs:=[[_,_,_],[_,_,_]]) 30 Lj fun h30 ho30=>?_;refine Zp (En.freeze (l:=30) (t:=30) rfl rfl) fun _=>?_;refine Zp (Kt (t:=30) (p':=Yt [Ky 4 (l.map lf),sil]) rfl (Eq.trans (show _=PV.sl 2 ([Ky 4 (l.map lf),sil].flatMap cN) from rfl) (Ht (Ky 4 (l.map lf)) sil))) fun _=>?_;refine cD (cA call65 (Tw 6 [Ky 4 (l.map lf),sil])) fun v31 hv31=>?_;clear hv31;refine Zu 2 Zk ?_;refine ZF ?_;refine Z4 (k:=3) 2 results69 ?_;rw [ZnF (by have:=hb20;rw [Xb] at this;omega)];rfl))
theorem Zbv {α:Type} {r:α→α→Prop} (hr:∀a b,r a b→¬r b a):∀{l m:List α},l.Perm m→l.Pairwise r→m.Pairwise r→l=m
 |[],m,h,_,_=>(List.nil_perm.1 h).symm
 |a::l,[],h,_,_=>by simp at h
 | a ::l,b::m,h,hl,hm=>by
   have h1:=XL.1 hl;have h2:=XL.1 hm;have e:a=b:=by
    rcases Xk.1 (h.mem_iff.1 (Xs ..)) with h3|h3
    · exact h3
    · rcases Xk.1 (h.mem_iff.2 (Xs ..)) with h4|h4
      · exact h4.symm
      · exact Qc (h2.1 a h3) (hr _ _ (h1.1 b h4))
   subst e;rw [Zbv hr (List.perm_cons a |>.1 h) h1.2 h2.2]
theorem Zkp {n:Nat} {E:Nat→Nat→Bool} {cs:List (List Int)} (h:SeqCs n (WZ n E) cs):cs.Pairwise (Zly (WZ n E)):=by
 obtain ⟨⟨ds,hds,hp⟩,ho⟩:=h
 have hP:=ZdC (Zju hds) hp
 rw [XS]
 intro i j hi hj hij
 have h1:=ho i j _ _ hij (Xx hi) (Xx hj)
 have hcm:=hp.mem_iff.1 (Ve hi)
 have hdm:=hp.mem_iff.1 (Ve hj)
 have hne:hdI cs[i]≠hdI cs[j]:=fun he=>by
  have:=hP.apart (Xx hi) (Xx hj) (Hd (hP.ne _ (Ve hi))) (he▸Hd (hP.ne _ (Ve hj)));omega
 rw [RS] at h1
 have h2:=Tf hds hcm hdm hne
 show WZ n E (hdI cs[i]).toNat (hdI cs[j]).toNat=true
 cases h3:WZ n E (hdI cs[j]).toNat (hdI cs[i]).toNat
 · rw [h3] at h2
   cases h4:WZ n E (hdI cs[i]).toNat (hdI cs[j]).toNat
   · exact Qc h4 h2
   · rfl
 · exact Qc ⟨Ne.symm hne,h3⟩ h1
theorem Zgf {n:Nat} {E:Nat→Nat→Bool} {cs ds:List (List Int)} (h:SeqCs n (WZ n E) cs) (k:SeqCs n (WZ n E) ds):cs=ds:=by
 obtain ⟨qs,hq,hp⟩:=h.cl
 exact ZoH hq hp (Zkp h) k
theorem Zgg {n:Nat} {r:Int→Int→Bool} {cs ds es:List (List Int)} {i0:Nat} {c0:List Int} {W:List Int→Bool} (hP:Ptn n ds) (h:AndCs cs i0 c0 W ds) (k:AndCs cs i0 c0 W es):ds=es:=by
 have hp:ds.Perm es:=h.perm.trans k.perm.symm
 have hPe:=ZdC hP hp.symm
 have hlt:∀{ds:List (List Int)},Ptn n ds→headsLe ds→ds.Pairwise fun c d=>WG c<WG d:=fun {ds} hP ho=>by
  rw [XS];intro i j hi hj hij;have h1:=ho i j _ _ hij (Xx hi) (Xx hj);have hne:WG ds[i]≠WG ds[j]:=fun he=>by
   have:=hP.apart (Xx hi) (Xx hj) (Hd (hP.ne _ (Ve hi))) ((show hdI ds[i]=hdI ds[j] from he)▸Hd (hP.ne _ (Ve hj)));omega
  omega
 exact Zbv (fun a b h1 h2=>oM) hp (hlt hP h.ord) (hlt hPe k.ord)
theorem Zah {n:Nat} {E:Nat→Nat→Bool} {W:List Int→Bool} {cs ds:List (List Int)} {i0:Nat} {c0:List Int} (h:Comps (upTo n) (Zfl E) cs) (h0:cs[i0]? =some c0) (hi:idx W cs=(i0:Nat)) (hd:AndCs cs i0 c0 W ds):Ptn n ds:=by
 have hpre:=ZoI hi
 have hW:W c0=true:=hpre.2 c0 h0
 have h3:=ZaJ (i0:=i0) (W:=W) (cs:=cs) hpre.2 cs.length (Xe _)
 have h4:=Zdd h0 hW hpre.1 cs.length (Xe _)
 rw [XH] at h3 h4
 rw [Qb (Xr.1 h0).1] at h4
 have hp:=hd.perm
 rw [h3] at hp
 generalize hA:selA i0 W true cs=A at hp h4
 have hfl:(A++[(c0++(cs.filter fun c=> !W c).flatten).mergeSort fun x y=>decide (x≤y)]).flatten.Perm cs.flatten:=by
  refine List.Perm.trans ?_ (ZaK (Oh W cs));rw [h4,VH,VH,VH,List.flatten_singleton,List.flatten_singleton];refine ((Ue (c0++(cs.filter fun c=> !W c).flatten) (fun x y=>decide (x≤y))).append_left A.flatten).trans ?_;rw [←XA];exact (List.perm_append_comm).append_right _
 have hflat:ds.flatten.Perm cs.flatten:=hp.flatten.trans hfl
 have hAm:∀c∈A,c∈cs:=fun c hc=>by
  have:c∈cs.filter W:=by rw [h4];exact List.mem_append_right _ hc
  exact (Vh.1 this).1
 have hnd:(c0++(cs.filter fun c=> !W c).flatten).Nodup:=by
  have h5:((cs.filter W++cs.filter fun c=> !W c).flatten).Nodup:=((ZaK (Oh W cs)).pairwise_iff fun h=>Ne.symm h).2 h.nd;rw [h4,VH,VH,List.flatten_singleton,XA] at h5;exact h5.sublist (List.Sublist.append_left (List.sublist_append_right _ _) c0)
 refine ⟨fun x=>by rw [hflat.mem_iff,h.mem,K9],(hflat.pairwise_iff fun h=>Ne.symm h).2 h.nd,fun c hc=>?_,fun c hc=>?_⟩
 · rcases Zmc hp hc with h5|h5
   · exact h.ne c (hAm c h5)
   · rw [h5];intro he;have h6:=congrArg List.length he;rw [Ug,Xf] at h6;have h7:=h.ne c0 (Xc h0)
     cases c0 with
     |nil=>exact h7 rfl
     |cons=>simp at h6
 · rcases Zmc hp hc with h5|h5
   · exact h.asc c (hAm c h5)
   · rw [h5];exact ZoY hnd
theorem Zkq {l:List BA} {n:Nat} {E:Nat→Nat→Bool} {S F:Nat→Bool} {o o':Option Cut}:∀{k:Nat},OH l n E S F k o→OH l n E S F k o'→o=o'
 | 0,h,h'=>by
   obtain ⟨cs,h1,h2⟩:=h;obtain ⟨ds,h3,h4⟩:=h';rw [h2,h4,h1.unique h3 fun _ _ _ _=>Iff.rfl]
 | 1,h,h'=>by
   obtain ⟨cs,h1,h2⟩:=h;obtain ⟨ds,h3,h4⟩:=h';rw [h2,h4,Zgf h1 h3]
 | 2, h,h'=>by
   obtain ⟨cs,h1,h2⟩:=h;obtain ⟨cs',h3,h4⟩:=h';have e:=h1.unique h3 fun _ _ _ _=>Iff.rfl;subst e;rcases h2 with ⟨h5,h6⟩|⟨i0,c0,ds,g1,g2,g3,g4⟩
   · rcases h4 with ⟨_,h8⟩|⟨i1,c1,es,k1,k2,k3,k4⟩
     · rw [h6,h8]
     · omega
   · rcases h4 with ⟨h7,h8⟩|⟨i1,c1,es,k1,k2,k3,k4⟩
     · omega
     · have:i0=i1:=oM;subst this;rw [g1] at k1;cases k1;rw [g4,k4,Zgg (r:=Zfl E) (Zah h1 g1 g2 g3) g3 k3]
 | k +3,h,h'=>by
   rcases h with ⟨h1,h2⟩|⟨cs,h1,h2,h3⟩
   · rcases h' with ⟨h4,h5⟩|⟨ds,h4,h5,h6⟩
     · rw [h2,h5]
     · exact Qc h1 h4
   · rcases h' with ⟨h4,h5⟩|⟨ds,h4,h5,h6⟩
     · exact Qc h4 h1
     · rw [h3,h6,h2.unique h5 fun _ _ _ _=>Iff.rfl]
theorem Zgh {Q:Nat→Option Cut→Prop} (h:∀{k o o'},Q k o→Q k o'→o=o') {o o':Option Cut} (h1:D5 Q o) (h2:D5 Q o'):o=o':=by
 rcases h1 with ⟨k,c,hk,h3,h4,rfl⟩|⟨h3,rfl⟩
 · rcases h2 with ⟨j,d,hj,h5,h6,rfl⟩|⟨h5,rfl⟩
   · have:k=j:=by
      rcases VG k j with h7|h7|h7
      · cases h h4 (h5 k h7)
      · exact h7
      · cases h h6 (h3 j h7)
     subst this;exact h h4 h6
   · cases h h4 (h5 k hk)
 · rcases h2 with ⟨j,d,hj,h5,h6,rfl⟩|⟨h5,rfl⟩
   · cases h h6 (h3 j hj)
   · rfl
def Zh0 (r:Int→Int→Bool) (l:List Int):Nat→List Int→List Int
 |0,c=>c
 |k+1,c=>Zh0 r l k (c++l.filter fun y=>c.any fun x=>r x y||r y x)
theorem Dn {r:Int→Int→Bool} {l:List Int} {a:Int}:∀(k:Nat) (c:List Int),(∀x∈c,x∈l∧Conn l r a x)→∀x∈Zh0 r l k c,x∈l∧Conn l r a x
 |0,c,h=>h
 | k +1,c,h=>by
   rw [Zh0];refine Dn k _ fun x hx=>?_;rcases Xd.1 hx with hx|hx
   · exact h x hx
   · obtain ⟨h1,h2⟩:=Vh.1 hx;obtain ⟨y,hy,h3⟩:=X4.1 h2;rw [X3] at h3;exact ⟨h1,(h y hy).2.trans (Conn.step (h y hy).1 h1 h3)⟩
def Zgi (l:List Int) (r:Int→Int→Bool) (cs:List (List Int)):Bool:=
 l.all (fun x=>cs.flatten.contains x)&&cs.flatten.all (fun x=>l.contains x)&&decide cs.flatten.Nodup&&cs.all (fun c=> !c.isEmpty)&&cs.all (fun c=>decide (c.Pairwise (· < ·)))&&
  cs.all (fun c=>c.all fun x=>(Zh0 r l c.length (c.take 1)).contains x)&&cs.all (fun c=>c.all fun x=>l.all fun y=> !(r x y||r y x)||c.contains y)&&decide ((cs.map WG).Pairwise (· < ·))
theorem Lk {l:List Int} {r:Int→Int→Bool} {cs:List (List Int)} (h:Zgi l r cs=true):Comps l r cs:=by
 unfold Zgi at h
 simp only [Xi,Xm,U8,List.contains_iff_mem] at h
 obtain ⟨⟨⟨⟨⟨⟨⟨h1,h2⟩,h3⟩,h4⟩,h5⟩,h6⟩,h7⟩,h8⟩:=h
 refine ⟨fun x=>⟨h2 x,h1 x⟩,h3,fun c hc he=>?_,h5,fun c hc x hx y hy=>?_,fun c hc x hx y hy hr=>?_,?_⟩
 · have:=h4 c hc;rw [he] at this;simp at this
 · have hin:∀z∈c.take 1,z∈l∧Conn l r (WG c) z:=fun z hz=>by
    cases c with
    |nil=>simp at hx
    | cons a c=>
      rw [Uv,XM,Xn] at hz;subst hz;exact ⟨h2 z (Vb.2 ⟨_,hc,Xs ..⟩),Conn.refl l r z⟩
   have g1:=(Dn c.length _ hin x (h6 c hc x hx)).2;have g2:=(Dn c.length _ hin y (h6 c hc y hy)).2;exact g1.symm.trans g2
 · have:=h7 c hc x hx y hy;rw [X3,UQ,Uc] at this;rcases this with ⟨g1,g2⟩|g
   · rcases hr with hr|hr
     · rw [g1] at hr;cases hr
     · rw [g2] at hr;cases hr
   · exact List.contains_iff_mem.1 g
 · rw [Vq] at h8;refine h8.imp fun {c d} h x y hx hy=>?_;unfold WG at h;rw [List.head?_eq_getElem?] at hx hy;rw [hx,hy] at h;exact h
def TW (l:List Var):List Var:=l.map fun v=>⟨v.acts,1⟩
theorem Ei (l:List Var):(TW l).length=l.length:=by unfold TW;rw [Xb]
structure GoodL (l:List Var):Prop where
 val:validVars l=true
 one:∀v∈l,v.count=1
 few:sumV (fun x=>x.acts.length) l≤300
 act:(makeM l).a.length≤40
theorem Hu:(prog.info? 3).map (·.size)=some 1:=kR
def TN (l:List Var):Option Nd:=match l with
 |[]=>some sil
 | [x]=>match x.acts with
   |[]=>some sil
   |[s]=>some (lf s)
   |_=>none
 |_=>none
theorem Zkr {l:List Var} (h:l.length=0∨∃x,l[0]? =some x∧l.length=1∧x.acts.length=0):TN l=some sil:=by
 rcases h with h|⟨x,hx,h1,h2⟩
 · have:=XB h;subst this;rfl
 · obtain ⟨y,rfl⟩:=U2.1 h1
   cases hx;have:=XB h2;unfold TN;dsimp only;rw [this]
theorem ZnG {l:List Var} {x:Var} {s:BA} (hx:l[0]? =some x) (h1:l.length=1) (h2:x.acts=[s]):TN l=some (lf s):=by
 obtain ⟨y,rfl⟩:=U2.1 h1
 cases hx
 unfold TN;dsimp only;rw [h2]
theorem Zgj {l:List Var} (h0:l.length≠0) (h:l.length=1→∀x,l[0]? =some x→2≤x.acts.length):TN l=none:=by
 match l with
 |[]=>simp at h0
 | [x]=>
   have:=h rfl x rfl;unfold TN;dsimp only;match hx:x.acts with
   |[]=>rw [hx] at this;simp at this
   |[s]=>rw [hx] at this;simp at this
   |_::_::_=>rfl
 |_::_::_=>rfl
def OS (l:List Var):PV:=match TN l with
 |some t=> .tup [pTr t,Zv true]
 |none=> .tup [SY,Zv false]
theorem Zks:AF prog 64 [Yx []] (· =OS []):=by
 refine AF.b1 42 func64 rfl ntmps64 (Xa rfl) fun w0 M0 v0 _=>?_
 refine Zh ?_
 refine Zx zT 3 2 Wl fun h2=>?_;refine ZQ ?_
 (refine xL 5 Za (xL 6 (Zy Yi) (xL 7 SN (xL 8 Za ?_)))<;>refine kL ?_<;>refine kL ?_<;>refine kL ?_<;>refine kL ?_<;>refine kL ?_<;>refine kL ?_<;>refine kL ?_<;>refine kL ?_<;>refine kL ?_<;>refine kL ?_<;>refine kL ?_<;>refine YJ ?_)<;>(try (exact Qc rfl hb8))<;>(
 refine cX ?_ ?_<;>intro hb4
 · (
 refine Zh ?_;refine cD (cA call66 (Rx)) fun v21 hv21=>?_;clear hv21;refine Zu 2 Zk ?_;refine ZB ?_;exact YG (k:=3) 2 results64 rfl)
 · exact bN hb4)
theorem Zgk (x:Var) (l:List Var):AF prog 64 [Yx (x::l)] (· =OS (x::l)):=by
 have e1:((x::l).flatMap WM)[0*2+0]? =some (Zs x.acts):=rfl
 have e2:0*2+2≤((x::l).flatMap WM).length:=by rw [Xv,Xf];show 2≤2+_;omega
 have e3:0<(x::l).length:=Vj _
 refine AF.b1 42 func64 rfl ntmps64 (Xa rfl) fun w0 M0 v0 _=>?_
 refine Zh ?_
 refine Zx zT 3 2 Wl fun h2=>?_;refine ZQ ?_
 (refine xL 5 Za (xL 6 (Zy Yi) (xL 7 SN (xL 8 Za (xL 9 Za (xL 10 (Zy Yi) (xL 11 SN (xL 12 Za ?_)))))))<;>(refine bLd 12 (fun hb12=>?_) (fun hb12=>?_)<;>refine kZ ?_)<;>(first|refine kL ?_|refine xM (Zg Yi) ?_)<;>(first|refine kL ?_|refine xM (YP YL) ?_)<;>(first|refine kL ?_|refine yU (ZG ZN) fun v16=>?_)<;>(first|refine kL ?_|refine xM (Zy Zn) ?_)<;>refine kZ ?_<;>refine DK ?_)<;>(
 refine cX ?_ ?_<;>intro hb4
 · first|exact bN hb4|(
 refine Zh ?_;refine cD (cA call66 (Rx)) fun v21 hv21=>?_;clear hv21;refine Zu 2 Zk ?_;refine ZB ?_;refine YG (k:=3) 2 results64 ?_;unfold OS;rw [Zkr (.inr ⟨x,rfl,oM,oM⟩)];rfl)
 · (
 refine Zh ?_;(refine xL 23 Za (xL 24 (Zy Yi) (xL 25 SN (xL 26 Za ?_)))<;>(refine bLd 26 (fun hb26=>?_) (fun hb26=>?_)<;>refine kZ ?_)<;>(first|refine kL ?_|refine xM (Zg Yi) ?_)<;>(first|refine kL ?_|refine xM (YP YL) ?_)<;>(first|refine kL ?_|refine yU (ZG ZN) fun v30=>?_)<;>(first|refine kL ?_|refine xM (Zy Zn) ?_)<;>refine KL ?_)<;>(
 refine cX ?_ ?_<;>intro hb22
 · first|exact bN hb22|(
 obtain ⟨s,hs⟩:∃s,x.acts=[s]:=U2.1 oM;(have e4:(x.acts.map Zt)[0]? =some (Zt s):=by rw [hs];rfl);have e5:0<x.acts.length:=oM;refine Zh ?_;refine xL 34 Za (xL 35 (Zg Yi) (xL 36 (YP YL) ?_));refine yU (ZG ZN) fun v37=>?_;refine xM (Zg Zn) ?_;refine yV (ZG ZK) ?_;refine cD (cA call108 (ZhZ s)) fun v40 hv40=>?_;clear hv40;refine Zu 2 Zk ?_;refine ZB ?_;refine YG (k:=3) 2 results64 ?_;unfold OS;rw [ZnG (x:=x) (s:=s) rfl oM hs];rfl)
 · (
 refine Zh ?_;refine xM (ZX Li) ?_;refine Zu 2 Zk ?_;refine ZB ?_;refine YG (k:=3) 2 results64 ?_;unfold OS;rw [Zgj sM fun h1 y hy=>by cases hy;omega];rfl))))
theorem ZpX (l:List Var):AF prog 64 [Yx l] (· =OS l):=by
 cases l with
 |nil=>exact Zks
 |cons x l=>exact Zgk x l
theorem Zgl {l:List Var} {k:Nat} {x:Var} (hx:l[k]? =some x):TW (l.take (k+1))=TW (l.take k)++[⟨x.acts,1⟩]:=by
 unfold TW;rw [Zw hx,XC];rfl
theorem ZnH {l:List Var} {k:Nat} {x:Var} (hx:l[k]? =some x):((TW (l.take k)++l.drop k).flatMap WM).set (k*2+1) (Zc 1)=(TW (l.take (k+1))++l.drop (k+1)).flatMap WM:=by
 have hk:=Zd hx
 have hA:((TW (l.take k)).flatMap WM).length=k*2:=by rw [Yr Yy,Ei,XG,Vc oM]
 have hd:l.drop k=x::l.drop (k+1):=by rw [Vf hk];rw [Xx hk] at hx;injection hx with hx;rw [hx]
 rw [Zgl hx,hd,XT,Xv,XT,XT,VE _ _ oM,hA,show k*2+1-k*2=1 by omega]
 simp [WM]
theorem Zh1 (l:List Var) (hl:l.length≤1000000):AF prog 37 [Yx l] (· =Yx (TW l)):=by
 refine AF.b1 18 func37 rfl ntmps37 (Xa rfl) fun w0 M0 v0 _=>?_
 refine Pw ?_;refine cO 6 (cA call71 (ζn l hl)) fun v6 ho6=>?_;refine ZB ?_
 refine Zq (Zz (l:=6) 200 rfl rfl) fun _=>?_
 refine Zi ?_;refine xL 7 Za (xL 8 (WQ 200 Yi) (xL 9 Za ?_));refine ZF ?_
 refine Yd (ι:={q:Nat×List PV//q.1≤l.length∧q.2=(TW (l.take q.1)++l.drop q.1).flatMap WM}) (fun k=>⟨[(3,_,_),(7,_,_),(8,_,_),(9, .int .i64 k.1.1,Zc k.1.1)],[(200,v6, .own 41 2 l.length k.1.2)]⟩) (fun k=>l.length-k.1.1) ⟨(0,l.flatMap WM),Xg _,rfl⟩ ?_
 rintro ⟨⟨k,row⟩,hk,hr⟩
 dsimp only
 dsimp only at hk hr
 have hrl:row.length=l.length*2:=by rw [hr,Yr Yy,Xf,Ei,XG,UB];omega
 refine Ys ?_ ?_<;>intro hb10
 · (
 obtain ⟨x,hx⟩:=gS l k;refine Jm ?_;refine xL 12 Za (xL 13 Za (xL 14 (Zo 200 Yi) (xL 15 (Zb 200 K7) ?_)));refine GC 200 ZM Hu ?_;refine GF ?_;refine Yh (
  ⟨(k+1,row.set (k*2+1) (Zc 1)),by show k+1≤l.length;omega,by dsimp only;rw [hr];exact ZnH hx⟩
  ))
 · (
 obtain rfl:k=l.length:=oM;(have hr2:row=(TW l).flatMap WM:=by rw [hr,XH,List.drop_length,Xu]);refine ZE ?_;refine Z5 (En.freeze (l:=200) (t:=2) rfl rfl) fun _=>?_;refine Zf results37 rfl ?_;rw [hr2];exact Dc _ _ _ (Ei l).symm)
def g0:Dfg:=⟨[],[],[],[]⟩
theorem ZnI:Rr ζp (GJ g0):=Rr.agg rfl fun i a b ha hb=>by
 match i with
 |0=>cases ha;cases hb;exact Rr.nil
 |1=>cases ha;cases hb;exact Rr.nil
 |2=>cases ha;cases hb;exact Rr.nil
 |3=>cases ha;cases hb;exact Rr.nil
 |i+4=>simp [ζp] at ha
theorem Zbw (e:Int):Rr (.tup [ζp,Zc e]) (.tup [GJ g0,Zc e]):=Rr.tup2 ZnI
def Zbx (l:List Var) (g:Dfg) (e:Int):Prop:=(validVars l=false∧g=g0∧e=1)∨(validVars l=true∧40<(makeM l).a.length∧g=g0∧e=5)∨(validVars l=true∧(makeM l).a.length≤40∧Za0 g (makeM l)∧e=0)
theorem ZpY {f:Nat} {l:List Var} {g:Dfg} {e:Int} (h:AF prog f [Yx l] (Zqo l)) (hm:Zbx l g e):AF prog f [Yx l] (· = .tup [GJ g,Zc e]):=by
 rcases hm with ⟨h1,rfl,rfl⟩|⟨h1,h2,rfl,rfl⟩|⟨h1,h2,h3,rfl⟩
 · refine AF.reread (p:= .tup [ζp,Zc 1]) (h.mono fun p hp=>?_) rfl (Zbw 1);rcases hp with ⟨_,hp⟩|⟨h4,_⟩|⟨h4,_⟩
   · exact hp
   · rw [h1] at h4;cases h4
   · rw [h1] at h4;cases h4
 · refine AF.reread (p:= .tup [ζp,Zc 5]) (h.mono fun p hp=>?_) rfl (Zbw 5);rcases hp with ⟨h4,_⟩|⟨_,_,hp⟩|⟨_,h4,_⟩
   · rw [h1] at h4;cases h4
   · exact hp
   · omega
 · refine h.mono fun p hp=>?_;rcases hp with ⟨h4,_⟩|⟨_,h4,_⟩|⟨_,_,g',h4,hp⟩
   · rw [h1] at h4;cases h4
   · omega
   · rw [hp,ZbW h4 h3]
theorem Zex {l:List BA} {s:BA} (h:hasStr l s=true):s∈l:=by
 unfold hasStr at h
 obtain ⟨x,hx,hs⟩:=X4.1 h
 rw [←KB.1 hs];exact hx
theorem ZpZ {g:Dfg} (h:TV g=true):ZqO g∧g.acts.length≤1000000∧g.starts.length≤1000000∧g.ends.length≤1000000∧g.follows.length≤1000000:=by
 have hG:=Zq9 h
 have h40:=hG.n40
 have h1:=Zhg hG hG.st hG.stA
 have h2:=Zhg hG hG.en hG.enA
 have h3:=hG.flen
 unfold TV LB at h
 simp only [Xi,Xm] at h
 obtain ⟨⟨⟨⟨⟨⟨⟨⟨⟨g1,g2⟩,g3⟩,g4⟩,g5⟩,g6⟩,g7⟩,g8⟩,g9⟩,g10⟩:=h
 have nm:∀s,hasStr (cnames g.acts) s=true→s.size≤140737488355328:=fun s hs=>by
  have:=T6 (g2 s (Zex hs));omega
 have ct:∀n,Kl n=true→-9223372036854775808≤n∧n≤9223372036854775807:=fun n hn=>by
  unfold Kl at hn;simp only [Xi,U8] at hn;omega
 refine ⟨⟨⟨oM,fun c hc=>⟨nm _ (ZoX (Xh.2 ⟨c,hc,rfl⟩)),ct _ (g6 c hc)⟩⟩,⟨oM,fun c hc=>⟨nm _ (hG.st c hc),ct _ (g7 c hc)⟩⟩,⟨oM,fun c hc=>⟨nm _ (hG.en c hc),ct _ (g8 c hc)⟩⟩,⟨oM,fun c hc=>?_⟩⟩,oM,oM,oM,oM⟩
 have h5:=g9 c hc
 unfold Rh at h5
 simp only [Xi] at h5
 exact ⟨nm _ (hG.fl c hc).1,nm _ (hG.fl c hc).2,ct _ h5.1.1⟩
end Go.Proofs.YteiincihiagidaaGreat
