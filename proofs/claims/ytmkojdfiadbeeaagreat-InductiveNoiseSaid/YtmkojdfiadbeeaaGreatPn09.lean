/-
  Walks and laws.
-/
import Derived.Test.YtmkojdfiadbeeaaGreatPn08
import Derived.Test.YtmkojdfiadbeeaaGreatPn03
import Derived.Test.YtmkojdfiadbeeaaGreatPn05
import Derived.Test.YtmkojdfiadbeeaaGreatPn07
import Derived.Test.YtmkojdfiadbeeaaGreatPn06
import Derived.Test.YtmkojdfiadbeeaaGreatPn01
set_option linter.all false
set_option maxRecDepth 100000
set_option maxHeartbeats 0
namespace Go.Proofs.YtmkojdfiadbeeaaGreat
open Go.RowKit Go.Cb Go.En Tryz
def DL:(prog.info? 31).map (·.size)=some 1:=kR
def G1 (l : List Var) (hf:RJ l):AF prog 31 [ZV l] (· =Zr (validVars l)):=by
 refine AF.b1 62 func31 rfl ntmps31 (Xa rfl) fun w0 M0 v0 _=>?_
 refine Km 0 rfl fun hlen=>?_
 refine WK ?_
 refine xL 4 Za (xL 5 (Zu Zv) (xL 6 G3 ?_));refine ZC ?_ ?_<;>intro hb6
 . (
 refine ZF ?_;refine Zg results31 rfl ?_;rw [show validVars l=false by unfold validVars;rw [Qb (show ¬l.length<=300 by omega)];simp])
 refine ZF ?_;refine Y0 (ι:={k:Nat//k<=l.length/\∀j,j<k->Lm l j=true}) (fun k=>⟨[(0,_,_),(3, .int .i64 k.1,Zb k.1)],[]⟩) (fun k=>l.length-k.1) ⟨0,oM,oM⟩ (fun a w H=>H.weaken sB trivial) ?_;rintro ⟨k,hk,hp⟩;dsimp only;refine Zi ?_;refine xL 7 Za (xL 8 Za (xL 9 (Zu Zv) (xL 10 Yn ?_)));refine ZC ?_ ?_<;>intro hb10
 . (
 have hlt:k<l.length:=oM;obtain ⟨x,hx⟩:=get_some hlt;obtain ⟨y,hy⟩:=gS l (k-1);(have e1:(l.flatMap YL)[k*2+0]? =some (ZX x.acts):=by rw [Yr ZM hx (j:=0) dC];rfl);(have e2:(l.flatMap YL)[k*2+1]? =some (Zb x.count):=by rw [Yr ZM hx (j:=1) dC];rfl);(have e3:(l.flatMap YL)[((k:Int)-1).toNat*2+0]? =some (ZX y.acts):=by rw [show ((k:Int)-1).toNat*2+0=(k-1)*2+0 by omega];exact Yr ZM hy dC);have hfx:=hf.2 x (Xb hx);have hxl:=hfx.1.1;refine Zi ?_;(refine xL 13 Za (xL 14 Za (xL 15 (Ze Zv) (xL 16 (Yg Z8) ?_)))<;>refine yU (Zw ZG) fun v17=>?_<;>refine xL 18 (Zu Zo) (xL 19 G3 (xL 20 Za ?_))<;>(refine bLd 20 (fun hb20=>?_) (fun hb20=>?_)<;>refine kZ ?_)<;>refine kZ ?_<;>(first|refine kL ?_|refine xM (Ze Zv) ?_)<;>(first|refine kL ?_|refine xM (Yg Z8) ?_)<;>(first|refine kL ?_|refine yU (Zw ZG) fun v25=>?_)<;>(first|refine kL ?_|(refine cV (cA call88 (Zes x.acts hfx.1.2)) ?_))<;>refine Kg ?_<;>(first|refine kL ?_|(refine bL 29 (fun hb29=>?_) (fun hb29=>?_)<;>refine kZ ?_))<;>refine kZ ?_<;>(first|refine kL ?_|refine xM (Ze Zv) ?_)<;>(first|refine kL ?_|refine xM (Yg YH) ?_)<;>(first|refine kL ?_|refine yV (Zw Zq) ?_)<;>refine Kg ?_<;>(first|refine kL ?_|(refine bLd 37 (fun hb37=>?_) (fun hb37=>?_)<;>refine kZ ?_))<;>refine kZ ?_<;>(first|refine kL ?_|refine xM (Ze Zv) ?_)<;>(first|refine kL ?_|refine xM (Yg YH) ?_)<;>(first|refine kL ?_|refine yV (Zw Zq) ?_)<;>refine WF ?_)<;>(
 refine cX ?_ ?_<;>intro hb44
 . (
 refine ZF ?_;refine Zg results31 rfl ?_;rw [SG hlt]
 first
  |exact J4 hx (Tb (.inl oM))
  |exact J4 hx (Tb (.inr (.inl (by simpa using hb28))))
  |exact J4 hx (Tb (.inr (.inl (by simpa using hb29))))
  |exact J4 hx (Tb (.inr (.inr (.inl oM))))
  |exact J4 hx (Tb (.inr (.inr (.inr oM)))))
 . first | exact bN hb44|(
 refine nav ?_;(refine Yx [] [] ?_<;>refine gEx 0 ?_<;>refine gEx 1 ?_<;>refine gEx 2 ?_<;>(refine bDd 47 (fun hb47=>?_) (fun hb47=>?_)<;>(first|refine kD 3 ?_|refine gDx 3 ?_))<;>(first|refine kD 4 ?_|refine gDx 4 ?_)<;>(first|refine kD 5 ?_|refine gDx 5 ?_)<;>(first|refine kD 6 ?_|refine xD 6 rfl (Sa Zv) ?_)<;>(first|refine kD 7 ?_|refine xD 7 rfl (Yg Z8) ?_)<;>(first|refine kD 8 ?_|(refine yD 8 rfl (Zw ZG) fun v53 h=>?_;cases h))<;>(first|refine kD 9 ?_|refine gDx 9 ?_)<;>(first|refine kD 10 ?_|refine gDx 10 ?_)<;>(first|refine kD 11 ?_|refine xD 11 rfl (Ze Zv) ?_)<;>(first|refine kD 12 ?_|refine xD 12 rfl (Yg Z8) ?_)<;>(first|refine kD 13 ?_|(refine yD 13 rfl (Zw ZG) fun v58 h=>?_;cases h))<;>(refine ZY 14 kR ?_)<;>(first|(refine Ym (d:=59) rfl (cA call89 (D8 y.acts x.acts)) fun v59 h=>?_;cases h)|(refine aWr fun bk=>?_;refine kL ?_;refine bE bk ?_))<;>(first|refine kD 15 ?_|refine gDx 15 ?_)<;>refine gEx 16 ?_<;>refine Wo ?_)<;>(
 refine cX ?_ ?_<;>intro hb61
 . first|exact bN hb61|(
 refine ZF ?_;refine Zg results31 rfl ?_;rw [SG hlt];exact ζ9 hx hy oM oM)
 refine YQ ?_;refine Zh (
  ⟨k + 1,oM,fun j hj=>by
   by_cases e:j=k
   . subst e
     first
      |exact OD hx hy (EM oM (by simpa using hb28) oM oM) oM
      |exact OD hx hy (EM oM (by simpa using hb29) oM oM) oM
   . exact hp j oM⟩
  ) (by dsimp only;omega) sB trivial))))
 refine ZF ?_;refine Zg results31 rfl ?_;rw [RD oM (fun j hj=>hp j oM)]
def Ep {L:List Cnt} {m:List (BA×Int)} {b:Nat} (h:SameC L m) (k:MOk m b):L.length<=b/\∀c∈L,0<=c.n/\c.n<=b*1048576:=by
 refine ⟨by have:=h.1.length_eq;rw [Xc] at this;have:=k.len;omega,fun c hc=>?_⟩
 obtain ⟨y,hy,rfl⟩:=Xp.1 (h.1.mem_iff.1 hc)
 exact k.bd y hy
def ZoD {L:List Flw} {m:List (Pr×Int)} {b:Nat} (h:SameF L m) (k:MOk m b):L.length<=b/\∀c∈L,0<=c.n/\c.n<=b*1048576:=by
 refine ⟨by have:=h.1.length_eq;rw [Xc] at this;have:=k.len;omega,fun c hc=>?_⟩
 obtain ⟨y,hy,rfl⟩:=Xp.1 (h.1.mem_iff.1 hc)
 exact k.bd y hy
structure MidG (st:M4) (x:Var) (j:Nat) (g:Dfg):Prop where
 a:SameC g.acts (midA st x j)
 s:SameC g.starts (if j=0 then st.s else (mk1 st x).s)
 f:SameC g.ends (if j=x.acts.length then (mk1 st x).f else st.f)
 q:SameF g.follows (midQ st x j)
def Ztl {st:M4} {x:Var} {s:BA} (hs:x.acts[0]? =some s):(mk1 st x).s=G' st.s s x.count:=by
 unfold mk1
 cases hc:x.acts with
 |nil=>rw [hc] at hs;simp at hs
 |cons z t=>rw [hc] at hs;simp at hs;subst hs;rfl
def Ztm {st:M4} {x:Var} {j:Nat} {s:BA} (hs:x.acts[j]? =some s) (hj:j+1=x.acts.length):(mk1 st x).f=G' st.f s x.count:=by
 unfold mk1
 rw [U8,show x.acts.length-1=j by omega,hs]
def MidG.start {st:M4} {x:Var} {g:Dfg} (h:T4 g st):MidG st x 0 g:=by
 refine ⟨h.1,by rw [Qd rfl];exact h.2.1,?_,h.2.2.2⟩
 split
 . rename_i h0;have h1:(mk1 st x).f=st.f:=by unfold mk1;rw [Xv h0.symm];rfl
   rw [h1];exact h.2.2.1
 exact h.2.2.1
def MidG.step {st:M4} {x:Var} {j b:Nat} {g:Dfg} {s:BA} (h:MidG st x j g) (hK:KOk st b) (hxo:Kc x=true) (hs:x.acts[j]? =some s) {S' F':List Cnt} {Q':List Flw}
 (hS:(j=0/\S'=Jy g.starts s x.count)\/(j≠0/\S'=g.starts)) (hQ:(j=0/\Q'=g.follows)\/(∃(j':Nat) (a:BA),j=j'+1/\x.acts[j']? =some a/\Q'=OZ g.follows (a,s) x.count)) (hF:(j+1=x.acts.length/\F'=Jy g.ends s x.count)\/(j+1≠x.acts.length/\F'=g.ends)):MidG st x (j+1) ⟨Jy g.acts s x.count,S',F',Q'⟩:=by
 have hjl:=Zd hs
 have hf:=h.f
 rw [Qc oM] at hf
 refine ⟨?_,?_,?_,?_⟩
 . rw [ZcG hs];exact DK h.a (ZdM hK hxo).nd s x.count
 . rw [Qc (Nat.succ_ne_zero j)];have h1:=h.s;rcases hS with ⟨h0,rfl⟩|⟨h0,rfl⟩
   . subst h0;rw [Qd rfl] at h1;rw [Ztl hs];exact DK h1 hK.s.nd s x.count
   rw [Qc h0] at h1;exact h1
 . rcases hF with ⟨h0,rfl⟩|⟨h0,rfl⟩
   . rw [Qd h0,Ztm hs h0];exact DK hf hK.f.nd s x.count
   rw [Qc h0];exact hf
 rcases hQ with ⟨h0,rfl⟩|⟨j',a,rfl,ha,rfl⟩
 . subst h0;rw [Ce hs];exact h.q
 rw [Cf ha hs];exact ZcK h.q (ZdN hK hxo).1.nd (a,s) x.count
def MidG.done {st:M4} {x:Var} {g:Dfg} (h:MidG st x x.acts.length g):T4 g (mk1 st x):=by
 have eA:midA st x x.acts.length=(mk1 st x).a:=by unfold midA mk1;rw [Xx]
 have eQ:midQ st x x.acts.length=(mk1 st x).q:=by unfold midQ mk1;rw [Xx]
 have h2:=h.s
 have h3:=h.f
 rw [Qd rfl] at h3
 refine ⟨eA▸h.a,?_,h3,eQ▸h.q⟩
 split at h2
 . rename_i h0;have h1:(mk1 st x).s=st.s:=by unfold mk1;rw [Xv h0]
   rw [h1];exact h2
 exact h2
def ZlQ:T4 ⟨[],[],[],[]⟩ (makeM []):=⟨⟨.refl _,List.Pairwise.nil⟩,⟨.refl _,List.Pairwise.nil⟩,⟨.refl _,List.Pairwise.nil⟩,⟨.refl _,List.Pairwise.nil⟩⟩
def ZdP {g g':Dfg} {st:M4} (h:T4 g st) (k:T4 g' st):g=g':=by
 obtain ⟨a,s,f,q⟩:=g
 obtain ⟨a',s',f',q'⟩:=g'
 have e1:=P5 h.1 k.1
 have e2:=P5 h.2.1 k.2.1
 have e3:=P5 h.2.2.1 k.2.2.1
 have e4:=ZdO h.2.2.2 k.2.2.2
 dsimp only at e1 e2 e3 e4
 rw [e1,e2,e3,e4]
def ZcM (l : List Var) (hf:RJ l):AF prog 124 [ZV l] (Zou l):=by
 refine AF.b1 99 func124 rfl ntmps124 (Xa rfl) fun w0 M0 v0 _=>?_
 refine Zi ?_
 refine Zt [(.slice none 0 0),(.slice none 0 0),(.slice none 0 0),(.slice none 0 0)] 4 2 JW fun h2=>?_;refine JG ?_;refine cV (cA call31 (G1 l hf)) ?_;refine Wg ?_ ?_<;>intro hb10
 . (
 refine Zi ?_;refine xM (ZA LM) ?_;refine Zn 2 Yu ?_;refine ZD ?_;exact ZN (k:=4) 2 results124 (.inl ⟨by simpa using hb10,rfl⟩))
 (have hV:validVars l=true:=by simpa using hb10);(have hl300:l.length<=300:=by have h:=hV;simp only [validVars,Xf,U'] at h;exact h.1);have hok:∀x∈l,Kc x=true:=fun x hx=>by
  obtain ⟨i,hi⟩:=XM hx;exact Se hV hi
 have hK:=KOk.all hok;refine Zi ?_;refine Zt [(.slice none 0 0),(.slice none 0 0),(.slice none 0 0),(.slice none 0 0)] 4 4 JW fun h4=>?_;refine ZZ ?_;refine Zs (YO 301 169 2 rfl) fun _=>?_;refine Zs (YD (l:=4) (l':=301) (j:=0) rfl rfl rfl rfl) fun _=>?_;refine Zs (YO 301 169 2 rfl) fun _=>?_;refine Zs (YD (l:=4) (l':=301) (j:=1) rfl rfl rfl rfl) fun _=>?_;refine Zs (YO 301 169 2 rfl) fun _=>?_;refine Zs (YD (l:=4) (l':=301) (j:=2) rfl rfl rfl rfl) fun _=>?_;refine Zs (YO 301 136 3 rfl) fun _=>?_;refine Zs (YD (l:=4) (l':=301) (j:=3) rfl rfl rfl rfl) fun _=>?_;rw [show share (.own 169 2 0 [])=Jf [] from WX _ 0 [] rfl,show share (.own 136 3 0 [])=HN [] from P4 _ 0 [] rfl];dsimp only [List.set,List.map];refine Zp ?_;refine ZD ?_;refine Yl (ι:={x:Nat×Dfg//x.1<=l.length/\T4 x.2 (makeM (l.take x.1))}) (fun k=>⟨[(0,_,_),(2,_,_),(4,_,_),(5, .int .i64 k.1.1,Zb k.1.1)],[(2,_,_),(4,h4, .own 34 4 1 [Jf k.1.2.acts,Jf k.1.2.starts,Jf k.1.2.ends,HN k.1.2.follows])]⟩) (fun k=>l.length-k.1.1) ⟨(0,⟨[],[],[],[]⟩),Xg _,ZlQ⟩ ?_;rintro ⟨⟨k,g⟩,hk,hg⟩;dsimp only;dsimp only at hk hg;have hKk:=hK k hk;obtain ⟨st,hst⟩:∃st,st=makeM (l.take k):=⟨_,rfl⟩;rw [<-hst] at hKk hg;refine Zi ?_;refine xL 12 Za (xL 13 Za (xL 14 (Zu Zv) (xL 15 Yn ?_)));refine ZC ?_ ?_<;>intro hb15
 . (
 obtain ⟨x,hx⟩:=gS l k;(have e1:(l.flatMap YL)[k*2+0]? =some (ZX x.acts):=by rw [Yr ZM hx (j:=0) dC];rfl);(have e2:(l.flatMap YL)[k*2+1]? =some (Zb x.count):=by rw [Yr ZM hx (j:=1) dC];rfl);have hxo:=hok x (Xb hx);have hxo2:=hxo;unfold Kc at hxo2;simp only [Xf,U',Xj] at hxo2;obtain ⟨⟨⟨hxl,hxn⟩,hx1⟩,hx2⟩:=hxo2;have hnx:=Hl hx;rw [<-hst] at hnx;refine Zi ?_;refine xL 18 Za (xL 19 Za (xL 20 (Ze Zv) (xL 21 (Yg Z8) ?_)));refine yU (Zw ZG) fun v22=>?_;refine KG ?_;refine Yl (ι:={y:Nat×Dfg//y.1<=x.acts.length/\MidG st x y.1 y.2}) (fun k=>⟨[(0,_,_),(2,_,_),(4,_,_),(5,_,_),(6,_,_),(7, .int .i64 k.1.1,Zb k.1.1)],[(2,_,_),(4,h4, .own 34 4 1 [Jf k.1.2.acts,Jf k.1.2.starts,Jf k.1.2.ends,HN k.1.2.follows])]⟩) (fun k=>x.acts.length-k.1.1) ⟨(0,g),Xg _,MidG.start hg⟩ ?_;rintro ⟨⟨j,d⟩,hj,hd⟩;dsimp only;dsimp only at hj hd;have bA:=Ep hd.a (ZdM hKk hxo);have bQ:=ZoD hd.q (ZdN hKk hxo).1;refine Zi ?_;refine xL 23 Za (xL 24 Za (xL 25 (Zu Zo) (xL 26 Yn ?_)));refine ZC ?_ ?_<;>intro hb26
 . (
 obtain ⟨s,hs⟩:=gS x.acts j;have e3:=Yf (f:=Zx) hs;refine nav ?_;(refine Yx [13] [4] ?_<;>refine xD 0 rfl (Zc 4 KL) ?_<;>(refine yD 1 rfl (Zf 4 YN) fun v30 h=>?_;cases h)<;>refine gDx 2 ?_<;>refine gDx 3 ?_<;>refine xD 4 rfl (Ze Zo) ?_<;>(refine yD 5 rfl (Zw ZE) fun v34 h=>?_;cases h)<;>refine gDx 6 ?_<;>refine gEx 7 ?_<;>refine xE 8 rfl (Ze Zv) ?_<;>refine xE 9 rfl (Yg YH) ?_<;>(refine yE 10 rfl (Zw Zq) fun v39 h=>?_;cases h)<;>(refine aDr 11 fun bk=>?_)<;>(refine cO 40 (cA call184 (Eo d.acts s x.count oM (fun c hc=>by have:=bA.2 c hc;omega))) fun v40 ho40=>?_;refine Zz (En.freeze (l:=40) (t:=40) rfl rfl) fun _=>?_;rw [WX _ _ _ rfl])<;>refine bE bk ?_<;>refine xE 12 rfl (Zc 4 KL) ?_<;>(refine ZY 13 kR ?_)<;>(refine Wx rfl rfl kR fun DQ bk=>?_)<;>refine JY 4 YN DL ?_<;>refine WC (bk _ (nav ?_))<;>try dsimp only)
 refine Zp ?_;refine Wv ?_ ?_<;>intro hb43
 . (
 have hj0:j=0:=oM;have bS:=Ep (by have h:=hd.s;rw [Qd hj0] at h;exact h) hKk.s;refine nav ?_;(refine Yx [13] [4] ?_<;>refine xD 0 rfl (Zc 4 GC) ?_<;>(refine yD 1 rfl (Zf 4 YN) fun v45 h=>?_;cases h)<;>refine gDx 2 ?_<;>refine gDx 3 ?_<;>refine xD 4 rfl (Ze Zo) ?_<;>(refine yD 5 rfl (Zw ZE) fun v49 h=>?_;cases h)<;>refine gDx 6 ?_<;>refine gEx 7 ?_<;>refine xE 8 rfl (Ze Zv) ?_<;>refine xE 9 rfl (Yg YH) ?_<;>(refine yE 10 rfl (Zw Zq) fun v54 h=>?_;cases h)<;>(refine aDr 11 fun bk=>?_)<;>(refine cO 55 (cA call184 (Eo d.starts s x.count oM (fun c hc=>by have:=bS.2 c hc;omega))) fun v55 ho55=>?_;refine Zz (En.freeze (l:=55) (t:=55) rfl rfl) fun _=>?_;rw [WX _ _ _ rfl])<;>refine bE bk ?_<;>refine xE 12 rfl (Zc 4 GC) ?_<;>(refine ZY 13 kR ?_)<;>(refine Wx rfl rfl kR fun DQ bk=>?_)<;>refine JY 4 YN DL ?_<;>refine WC (bk _ (nav ?_))<;>try dsimp only)
 refine Zp ?_;refine xL 75 Za (xL 76 Za (xL 77 (Zu Zo) (xL 78 DV (xL 79 Jb ?_))));refine ZC ?_ ?_<;>intro hb79
 . (
 have bF:=Ep (by have h:=hd.f;rw [Qc oM] at h;exact h) hKk.f;refine nav ?_;(refine Yx [13] [4] ?_<;>refine xD 0 rfl (Zc 4 Jq) ?_<;>(refine yD 1 rfl (Zf 4 YN) fun v81 h=>?_;cases h)<;>refine gDx 2 ?_<;>refine gDx 3 ?_<;>refine xD 4 rfl (Ze Zo) ?_<;>(refine yD 5 rfl (Zw ZE) fun v85 h=>?_;cases h)<;>refine gDx 6 ?_<;>refine gEx 7 ?_<;>refine xE 8 rfl (Ze Zv) ?_<;>refine xE 9 rfl (Yg YH) ?_<;>(refine yE 10 rfl (Zw Zq) fun v90 h=>?_;cases h)<;>(refine aDr 11 fun bk=>?_)<;>(refine cO 91 (cA call184 (Eo d.ends s x.count oM (fun c hc=>by have:=bF.2 c hc;omega))) fun v91 ho91=>?_;refine Zz (En.freeze (l:=91) (t:=91) rfl rfl) fun _=>?_;rw [WX _ _ _ rfl])<;>refine bE bk ?_<;>refine xE 12 rfl (Zc 4 Jq) ?_<;>(refine ZY 13 kR ?_)<;>(refine Wx rfl rfl kR fun DQ bk=>?_)<;>refine JY 4 YN DL ?_<;>refine WC (bk _ (nav ?_))<;>try dsimp only)
 refine G8 ?_
 first
  | (exact Zh (
      ⟨(j+1,⟨Jy d.acts s x.count,Jy d.starts s x.count,Jy d.ends s x.count,d.follows⟩),by show j+1<=_;omega,hd.step hKk hxo hs (.inl ⟨hj0,rfl⟩) (.inl ⟨hj0,rfl⟩) (.inl ⟨oM,rfl⟩)⟩
      ) (by show x.acts.length-(j+1)<x.acts.length-j;omega) sB sB)
  | (exact Zh (
      ⟨(j+1,⟨Jy d.acts s x.count,Jy d.starts s x.count,d.ends,d.follows⟩),by show j+1<=_;omega,hd.step hKk hxo hs (.inl ⟨hj0,rfl⟩) (.inl ⟨hj0,rfl⟩) (.inr ⟨oM,rfl⟩)⟩
      ) (by show x.acts.length-(j+1)<x.acts.length-j;omega) sB sB)
  | (exact Zh (
      ⟨(j+1,⟨Jy d.acts s x.count,d.starts,Jy d.ends s x.count,OZ d.follows (a,s) x.count⟩),by show j+1<=_;omega,hd.step hKk hxo hs (.inr ⟨hj0,rfl⟩) (.inr ⟨j-1,a,oM,ha,rfl⟩) (.inl ⟨oM,rfl⟩)⟩
      ) (by show x.acts.length-(j+1)<x.acts.length-j;omega) sB sB)
  | (exact Zh (
      ⟨(j+1,⟨Jy d.acts s x.count,d.starts,d.ends,OZ d.follows (a,s) x.count⟩),by show j+1<=_;omega,hd.step hKk hxo hs (.inr ⟨hj0,rfl⟩) (.inr ⟨j-1,a,oM,ha,rfl⟩) (.inr ⟨oM,rfl⟩)⟩
      ) (by show x.acts.length-(j+1)<x.acts.length-j;omega) sB sB))
 refine YQ ?_
 first
  | (exact Zh (
      ⟨(j+1,⟨Jy d.acts s x.count,Jy d.starts s x.count,Jy d.ends s x.count,d.follows⟩),by show j+1<=_;omega,hd.step hKk hxo hs (.inl ⟨hj0,rfl⟩) (.inl ⟨hj0,rfl⟩) (.inl ⟨oM,rfl⟩)⟩
      ) (by show x.acts.length-(j+1)<x.acts.length-j;omega) sB sB)
  | (exact Zh (
      ⟨(j+1,⟨Jy d.acts s x.count,Jy d.starts s x.count,d.ends,d.follows⟩),by show j+1<=_;omega,hd.step hKk hxo hs (.inl ⟨hj0,rfl⟩) (.inl ⟨hj0,rfl⟩) (.inr ⟨oM,rfl⟩)⟩
      ) (by show x.acts.length-(j+1)<x.acts.length-j;omega) sB sB)
  | (exact Zh (
      ⟨(j+1,⟨Jy d.acts s x.count,d.starts,Jy d.ends s x.count,OZ d.follows (a,s) x.count⟩),by show j+1<=_;omega,hd.step hKk hxo hs (.inr ⟨hj0,rfl⟩) (.inr ⟨j-1,a,oM,ha,rfl⟩) (.inl ⟨oM,rfl⟩)⟩
      ) (by show x.acts.length-(j+1)<x.acts.length-j;omega) sB sB)
  | (exact Zh (
      ⟨(j+1,⟨Jy d.acts s x.count,d.starts,d.ends,OZ d.follows (a,s) x.count⟩),by show j+1<=_;omega,hd.step hKk hxo hs (.inr ⟨hj0,rfl⟩) (.inr ⟨j-1,a,oM,ha,rfl⟩) (.inr ⟨oM,rfl⟩)⟩
      ) (by show x.acts.length-(j+1)<x.acts.length-j;omega) sB sB))
 have hj0:j≠0:=oM;obtain ⟨a,ha⟩:=gS x.acts (j-1);(have e4:(x.acts.map Zx)[((j:Int)-1).toNat*1]? =some (Zx a):=by rw [show ((j:Int)-1).toNat=j-1 by omega];exact Yf (f:=Zx) ha);refine nav ?_;(refine Yx [18] [4] ?_<;>refine xD 0 rfl (Zc 4 KM) ?_<;>(refine yD 1 rfl (Zf 4 JL) fun v58 h=>?_;cases h)<;>refine gDx 2 ?_<;>refine gDx 3 ?_<;>refine gDx 4 ?_<;>refine xD 5 rfl (Sa Zo) ?_<;>(refine yD 6 rfl (Zw ZE) fun v63 h=>?_;cases h)<;>refine gDx 7 ?_<;>refine gDx 8 ?_<;>refine xD 9 rfl (Ze Zo) ?_<;>(refine yD 10 rfl (Zw ZE) fun v67 h=>?_;cases h)<;>refine gDx 11 ?_<;>refine gEx 12 ?_<;>refine xE 13 rfl (Ze Zv) ?_<;>refine xE 14 rfl (Yg YH) ?_<;>(refine yE 15 rfl (Zw Zq) fun v72 h=>?_;cases h)<;>(refine aDr 16 fun bk=>?_)<;>(refine cO 73 (cA call185 (Zf7 d.follows a s x.count oM (fun c hc=>by have:=bQ.2 c hc;omega))) fun v73 ho73=>?_;refine Zz (En.freeze (l:=73) (t:=73) rfl rfl) fun _=>?_;rw [P4 _ _ _ rfl])<;>refine bE bk ?_<;>refine xE 17 rfl (Zc 4 KM) ?_<;>(refine ZY 18 kR ?_)<;>(refine Wx rfl rfl kR fun DQ bk=>?_)<;>refine JY 4 JL ZcE ?_<;>refine WC (bk _ (nav ?_))<;>try dsimp only)
 refine Zp ?_;refine xL 75 Za (xL 76 Za (xL 77 (Zu Zo) (xL 78 DV (xL 79 Jb ?_))));refine ZC ?_ ?_<;>intro hb79
 . (
 have bF:=Ep (by have h:=hd.f;rw [Qc oM] at h;exact h) hKk.f;refine nav ?_;(refine Yx [13] [4] ?_<;>refine xD 0 rfl (Zc 4 Jq) ?_<;>(refine yD 1 rfl (Zf 4 YN) fun v81 h=>?_;cases h)<;>refine gDx 2 ?_<;>refine gDx 3 ?_<;>refine xD 4 rfl (Ze Zo) ?_<;>(refine yD 5 rfl (Zw ZE) fun v85 h=>?_;cases h)<;>refine gDx 6 ?_<;>refine gEx 7 ?_<;>refine xE 8 rfl (Ze Zv) ?_<;>refine xE 9 rfl (Yg YH) ?_<;>(refine yE 10 rfl (Zw Zq) fun v90 h=>?_;cases h)<;>(refine aDr 11 fun bk=>?_)<;>(refine cO 91 (cA call184 (Eo d.ends s x.count oM (fun c hc=>by have:=bF.2 c hc;omega))) fun v91 ho91=>?_;refine Zz (En.freeze (l:=91) (t:=91) rfl rfl) fun _=>?_;rw [WX _ _ _ rfl])<;>refine bE bk ?_<;>refine xE 12 rfl (Zc 4 Jq) ?_<;>(refine ZY 13 kR ?_)<;>(refine Wx rfl rfl kR fun DQ bk=>?_)<;>refine JY 4 YN DL ?_<;>refine WC (bk _ (nav ?_))<;>try dsimp only)
 refine G8 ?_
 first
  | (exact Zh (
      ⟨(j+1,⟨Jy d.acts s x.count,Jy d.starts s x.count,Jy d.ends s x.count,d.follows⟩),by show j+1<=_;omega,hd.step hKk hxo hs (.inl ⟨hj0,rfl⟩) (.inl ⟨hj0,rfl⟩) (.inl ⟨oM,rfl⟩)⟩
      ) (by show x.acts.length-(j+1)<x.acts.length-j;omega) sB sB)
  | (exact Zh (
      ⟨(j+1,⟨Jy d.acts s x.count,Jy d.starts s x.count,d.ends,d.follows⟩),by show j+1<=_;omega,hd.step hKk hxo hs (.inl ⟨hj0,rfl⟩) (.inl ⟨hj0,rfl⟩) (.inr ⟨oM,rfl⟩)⟩
      ) (by show x.acts.length-(j+1)<x.acts.length-j;omega) sB sB)
  | (exact Zh (
      ⟨(j+1,⟨Jy d.acts s x.count,d.starts,Jy d.ends s x.count,OZ d.follows (a,s) x.count⟩),by show j+1<=_;omega,hd.step hKk hxo hs (.inr ⟨hj0,rfl⟩) (.inr ⟨j-1,a,oM,ha,rfl⟩) (.inl ⟨oM,rfl⟩)⟩
      ) (by show x.acts.length-(j+1)<x.acts.length-j;omega) sB sB)
  | (exact Zh (
      ⟨(j+1,⟨Jy d.acts s x.count,d.starts,d.ends,OZ d.follows (a,s) x.count⟩),by show j+1<=_;omega,hd.step hKk hxo hs (.inr ⟨hj0,rfl⟩) (.inr ⟨j-1,a,oM,ha,rfl⟩) (.inr ⟨oM,rfl⟩)⟩
      ) (by show x.acts.length-(j+1)<x.acts.length-j;omega) sB sB))
 refine YQ ?_
 first
  | (exact Zh (
      ⟨(j+1,⟨Jy d.acts s x.count,Jy d.starts s x.count,Jy d.ends s x.count,d.follows⟩),by show j+1<=_;omega,hd.step hKk hxo hs (.inl ⟨hj0,rfl⟩) (.inl ⟨hj0,rfl⟩) (.inl ⟨oM,rfl⟩)⟩
      ) (by show x.acts.length-(j+1)<x.acts.length-j;omega) sB sB)
  | (exact Zh (
      ⟨(j+1,⟨Jy d.acts s x.count,Jy d.starts s x.count,d.ends,d.follows⟩),by show j+1<=_;omega,hd.step hKk hxo hs (.inl ⟨hj0,rfl⟩) (.inl ⟨hj0,rfl⟩) (.inr ⟨oM,rfl⟩)⟩
      ) (by show x.acts.length-(j+1)<x.acts.length-j;omega) sB sB)
  | (exact Zh (
      ⟨(j+1,⟨Jy d.acts s x.count,d.starts,Jy d.ends s x.count,OZ d.follows (a,s) x.count⟩),by show j+1<=_;omega,hd.step hKk hxo hs (.inr ⟨hj0,rfl⟩) (.inr ⟨j-1,a,oM,ha,rfl⟩) (.inl ⟨oM,rfl⟩)⟩
      ) (by show x.acts.length-(j+1)<x.acts.length-j;omega) sB sB)
  | (exact Zh (
      ⟨(j+1,⟨Jy d.acts s x.count,d.starts,d.ends,OZ d.follows (a,s) x.count⟩),by show j+1<=_;omega,hd.step hKk hxo hs (.inr ⟨hj0,rfl⟩) (.inr ⟨j-1,a,oM,ha,rfl⟩) (.inr ⟨oM,rfl⟩)⟩
      ) (by show x.acts.length-(j+1)<x.acts.length-j;omega) sB sB))
 refine YQ ?_;refine Zh (
  ⟨(k+1,d),by show k+1<=l.length;omega,by show T4 d _;rw [hnx];rw [show j=x.acts.length by omega] at hd;exact hd.done⟩
  ) (by show l.length-(k+1)<l.length-k;omega) sB sB)
 refine nav ?_;obtain rfl:k=l.length:=oM;try rw [hst] at hg
 rw [Xx] at hg;(have hAl:g.acts.length=(makeM l).a.length:=by have:=hg.1.1.length_eq;rw [Xc] at this;exact this);refine Zp ?_;refine xM (Zc 4 KL) ?_;refine yU (Zf 4 YN) fun v94=>?_;refine xL 95 (Zu YA) (xL 96 G3 ?_);refine ZC ?_ ?_<;>intro hb96
 . (
 refine Zi ?_;refine xM (ZA LM) ?_;refine Zn 2 Yu ?_;refine ZD ?_;exact ZN (k:=4) 2 results124 (.inr (.inl ⟨hV,oM,rfl⟩)))
 refine Zi ?_;refine yU (Zm 4 Yu) fun v98=>?_;refine Zn 2 Yu ?_;refine ZD ?_;exact ZN (k:=4) 2 results124 (.inr (.inr ⟨hV,oM,g,hg,rfl⟩))
def ζu {l:List BA} {s:BA} (h:hasStr l s=true):l[ixN l s]? =some s:=by
 obtain ⟨i,x,h1,h2,h3⟩:=ZqO (p:=fun x=>W7 x s) (l:=l) h
 unfold ixN
 rw [h1,XH,h2,Y'.1 h3]
def Zf8 {l:List BA} (h:chainB strLt l=true):l.Pairwise fun a b=>strLt a b=true:=by
 induction l with
 |nil=>exact .nil
 | cons x l ih=>
   have h1:∀i a b,(x::l)[i]? =some a->(x::l)[i+1]? =some b->strLt a b=true:=(J0 strLt _).1 h;have h2:=ih ((J0 strLt l).2 fun i a b ha hb=>h1 (i+1) a b ha hb);refine Xy.2 ⟨fun y hy=>?_,h2⟩
   cases l with
   |nil=>simp at hy
   | cons z l=>
     have h3:=h1 0 x z rfl rfl;rcases Xi.1 hy with rfl|hy
     . exact h3
     exact KH h3 ((Xy.1 h2).1 y hy)
def ZoE {acts:List BA} (hc:chainB strLt acts=true) {s t:BA} (hs:hasStr acts s=true) (ht:hasStr acts t=true) (hlt:strLt s t=true):ixN acts s<ixN acts t:=by
 have h1:=ζu hs
 have h2:=ζu ht
 rcases VB (ixN acts s) (ixN acts t) with h3|h3|h3
 . exact h3
 . rw [h3,h2] at h1
   cases h1;rw [W4] at hlt;cases hlt
 exfalso;have h4:=XW.1 (Zf8 hc) _ _ (Zd h2) (Zd h1) h3;rw [Xr (Zd h1)] at h1;rw [Xr (Zd h2)] at h2;injection h1 with h1;injection h2 with h2;rw [h1,h2] at h4;have:=KH hlt h4;rw [W4] at this;cases this
def Zjw {acts:List BA} {s t:BA} (hs:hasStr acts s=true) (ht:hasStr acts t=true) (h:ixN acts s=ixN acts t):s=t:=by
 have h1:=ζu hs
 rw [h,ζu ht] at h1
 injection h1 with h1;exact h1.symm
structure GOk (g:Dfg):Prop where
 n40:g.acts.length<=40
 asc:chainB strLt (cnames g.acts)=true
 st:∀c∈g.starts,hasStr (cnames g.acts) c.name=true
 en:∀c∈g.ends,hasStr (cnames g.acts) c.name=true
 fl:∀f∈g.follows,hasStr (cnames g.acts) f.src=true/\hasStr (cnames g.acts) f.dst=true
 stA:chainB strLt (cnames g.starts)=true
 enA:chainB strLt (cnames g.ends)=true
 flA:chainB flwLt g.follows=true
def ZsG {g:Dfg} (h:JM g=true):GOk g:=by
 have h0:=Dn h
 have hl:(cnames g.acts).length=g.acts.length:=by simp [cnames]
 unfold JM JH EW at h
 simp only [Xf] at h
 obtain ⟨⟨⟨⟨⟨⟨⟨h1,h2⟩,h3⟩,h4⟩,h5⟩,h6⟩,h7⟩,h8⟩:=h
 exact ⟨oM,h1.2,h0.2.1,h0.2.2.1,h0.2.2.2,h2.1,h3.1,h8⟩
def GOk.ix {g:Dfg} (h:GOk g) {s:BA} (hs:hasStr (cnames g.acts) s=true):ixN (cnames g.acts) s<g.acts.length:=by
 have:=(SV hs).2
 simpa [cnames] using this
def ZsH {l:List Flw} (h:chainB flwLt l=true):l.Pairwise fun a b=>Jc a b<0:=by
 have h1:=Za0 h (fun a _=>by unfold flwLt;exact Qb (TN a)) (fun a _ b _ c _ h1 h2=>by
  unfold flwLt at*;exact Qa (Te (Qf h1) (Qf h2)))
 exact h1.imp fun h=>Qf h
def GOk.flen {g:Dfg} (h:GOk g):g.follows.length<=1600:=by
 have h1:(g.follows.map fun f=>(ixN (cnames g.acts) f.src,ixN (cnames g.acts) f.dst)).Nodup:=by
  refine X7.2 (List.Pairwise.imp_of_mem (fun {a b} ha hb hlt e=>?_) (ZsH h.flA));have ha':=h.fl a ha;have hb':=h.fl b hb;have e1:=Zjw ha'.1 hb'.1 (congrArg Prod.fst e);have e2:=Zjw ha'.2 hb'.2 (congrArg Prod.snd e);rw [CY.2 ⟨e1,e2⟩] at hlt;omega
 have h2:=ZlN (n:=g.acts.length) h1 fun p hp=>by
  obtain ⟨f,hf,rfl⟩:=Xp.1 hp;exact ⟨h.ix (h.fl f hf).1,h.ix (h.fl f hf).2⟩
 rw [Xc] at h2
 have:=Nat.mul_le_mul h.n40 h.n40
 omega
def Zjx {g:Dfg} (h:GOk g) {l:List Cnt} (hin:∀c∈l,hasStr (cnames g.acts) c.name=true) (hA:chainB strLt (cnames l)=true):l.length<=g.acts.length:=by
 have h1:(l.map fun c=>((ixN (cnames g.acts) c.name:Nat):Int)).Nodup:=by
  have hp:=Zf8 hA;unfold cnames at hp;refine X7.2 (List.Pairwise.imp_of_mem (fun {a b} ha hb hlt e=>?_) (X7.1 hp));have:=ZoE h.asc (hin a ha) (hin b hb) hlt;omega
 have h2:=S4 g.acts.length _ h1 fun s hs=>by
  obtain ⟨c,hc,rfl⟩:=Xp.1 hs;have:=h.ix (hin c hc);omega
 simpa using h2
def ZdQ {α:Type} {p:α->Bool} {l:List α} (h:∀x∈l,p x=true):l.all p=true:=Xj.2 h
def ZqP:∀{m:List (BA×Int)},(m.map (·.1)).Nodup->∃L,SameC L m
 |[],_=>⟨[], .refl _, .nil⟩
 | x ::m,h=>by
   have h':=Vk.1 h;obtain ⟨L,hL⟩:=ZqP h'.2;have h2:=DK hL h'.2 x.1 x.2;have h3:G' m x.1 x.2=m++[x]:=by
    have hn:∀y∈m,y.1≠x.1:=fun y hy e=>h'.1 (Xp.2 ⟨y,hy,e⟩);unfold G';rw [Cg hn,Ch hn,Int.zero_add]
   rw [h3] at h2;exact ⟨_,h2.1.trans ((UI x m).map mkC),h2.2⟩
def exF:∀{m:List (Pr×Int)},(m.map (·.1)).Nodup->∃L,SameF L m
 |[],_=>⟨[], .refl _, .nil⟩
 | x ::m,h=>by
   have h':=Vk.1 h;obtain ⟨L,hL⟩:=exF h'.2;have h2:=ZcK hL h'.2 x.1 x.2;have h3:G' m x.1 x.2=m++[x]:=by
    have hn:∀y∈m,y.1≠x.1:=fun y hy e=>h'.1 (Xp.2 ⟨y,hy,e⟩);unfold G';rw [Cg hn,Ch hn,Int.zero_add]
   rw [h3] at h2;exact ⟨_,h2.1.trans ((UI x m).map mkF),h2.2⟩
def exG {st:M4} {b:Nat} (h:KOk st b):∃g,T4 g st:=by
 obtain ⟨A,hA⟩:=ZqP h.a.nd
 obtain ⟨S,hS⟩:=ZqP h.s.nd
 obtain ⟨F,hF⟩:=ZqP h.f.nd
 obtain ⟨Q,hQ⟩:=exF h.q.nd
 exact ⟨⟨A,S,F,Q⟩,hA,hS,hF,hQ⟩
section
variable {κ:Type} [DecidableEq κ]
def Ci (m:List (κ×Int)) (k j:κ) (n:Int):iget (G' m k n) j=iget m j+if j=k then n else 0:=by
 induction m with
 | nil=>
   show iget [(k,0+n)] j=0+_;unfold iget iget;split<;>simp_all
 | cons x m ih=>
   rw [G0];by_cases h:k=x.1
   . rw [Qd h];subst h;rw [iget,iget];by_cases hj:j=x.1
     . rw [Qd hj,Qd hj,Qd hj]
     rw [Qc hj,Qc hj,Qc hj];omega
   rw [Qc h,iget,iget];by_cases hj:j=x.1
   . rw [Qd hj,Qd hj,Qc (fun e=>h (e.symm.trans hj))];omega
   rw [Qc hj,Qc hj];exact ih
def sumIf (p:κ->Bool) (m:List (κ×Int)):Int:=(m.map fun x=>if p x.1 then x.2 else 0).sum
def S5 (p:κ->Bool) (x:κ×Int) (m:List (κ×Int)):sumIf p (x::m)=(if p x.1 then x.2 else 0)+sumIf p m:=by unfold sumIf;rw [Xn,VC]
def ZhP (p:κ->Bool) (m:List (κ×Int)) (k:κ) (n:Int):sumIf p (G' m k n)=sumIf p m+if p k then n else 0:=by
 induction m with
 | nil=>
   show sumIf p [(k,0+n)]=0+_;rw [S5];unfold sumIf;simp
 | cons x m ih=>
   rw [G0];by_cases h:k=x.1
   . rw [Qd h,S5,S5];subst h;dsimp only;split<;>omega
   rw [Qc h,S5,S5,ih];omega
def Er (p:κ->Bool) (l:List κ):Int:=(l.countP p:Nat)
def O0 (j:κ) (n:Int):∀(ks:List κ) (m:List (κ×Int)),iget (addAll m ks n) j=iget m j+n*Er (fun k=>decide (j=k)) ks
 |[],m=>by unfold addAll Er;simp
 | k ::ks,m=>by
   show iget (addAll (G' m k n) ks n) j=_;rw [O0 j n ks,Ci];unfold Er;rw [Uy];by_cases h:j=k
   . rw [Qd h,Qa h,Qd rfl];rw [show ((List.countP (fun k=>decide (j=k)) ks+1:Nat):Int)=(List.countP (fun k=>decide (j=k)) ks:Nat)+1 by omega,Int.mul_add];omega
   rw [Qc h,Qb h];simp
def P6 (p:κ->Bool) (n:Int):∀(ks:List κ) (m:List (κ×Int)),sumIf p (addAll m ks n)=sumIf p m+n*Er p ks
 |[],m=>by unfold addAll Er;simp
 | k ::ks,m=>by
   show sumIf p (addAll (G' m k n) ks n)=_;rw [P6 p n ks,ZhP];unfold Er;rw [Uy];by_cases h:p k=true
   . rw [Qd h];simp only [h,if_true];rw [show ((List.countP p ks+1:Nat):Int)=(List.countP p ks:Nat)+1 by omega,Int.mul_add];omega
   rw [Qc h];simp [h]
def S6 {m:List (κ×Int)} {k:κ} {n:Int} {x:κ}:x∈(G' m k n).map (·.1)↔x=k\/x∈m.map (·.1):=ZcC x
def WW {n:Int}:∀{ks:List κ} {m:List (κ×Int)} {x:κ},x∈(addAll m ks n).map (·.1)↔x∈ks\/x∈m.map (·.1)
 |[],m,x=>by unfold addAll;simp
 | k::ks,m,x=>by
   show x∈(addAll (G' m k n) ks n).map (·.1)↔_;rw [WW,S6,Xi];exact ⟨by rintro (h|h|h)<;>simp [h],by rintro ((h|h)|h)<;>simp [h]⟩
def PosI (m:List (κ×Int)):Prop:=∀x∈m,1<=x.2
def PosI.get {m:List (κ×Int)} (h:PosI m) (k:κ):0<=iget m k:=by
 induction m with
 |nil=>exact Uj _
 | cons x m ih=>
   rw [iget];split
   . have:=h x sM;omega
   exact ih fun y hy=>h y (by simp [hy])
def PosI.add {m:List (κ×Int)} (h:PosI m) {k:κ} {n:Int} (hn:1<=n):PosI (G' m k n):=fun x hx=>by
 rcases ZaX hx with rfl|hx
 . have:=h.get k;dsimp only;omega
 exact h x hx
def PosI.addAll {n:Int} (hn:1<=n):∀{ks:List κ} {m:List (κ×Int)},PosI m->PosI (addAll m ks n)
 |[],_,h=>h
 |k::ks,_,h=>PosI.addAll hn (ks:=ks) (h.add (k:=k) hn)
end
def Zf9 (k:BA):∀(a:BA) (l:List BA),Er (fun x=>decide (k=x)) (a::l)=(if k=a then 1 else 0)+Er (fun p:Pr=>decide (k=p.2)) (WB (a::l))
 | a,[]=>by
   unfold Er WB;by_cases h:k=a<;>simp [h]
 | a, b::l=>by
   have ih:=Zf9 k b l;rw [WB];unfold Er at ih ⊢;rw [Uy,Uy (p:=fun p:Pr=>decide (k=p.2))];by_cases h1:k=a
   . by_cases h2:k=b
     . simp only [h1,h2,decide_true,if_true] at ih ⊢;subst h1;subst h2;simp at ih ⊢;omega
     subst h1;simp [h2] at ih ⊢;omega
   by_cases h2:k=b
   . subst h2;simp [h1] at ih ⊢;omega
   simp [h1,h2] at ih ⊢;omega
def ZcN (k:BA):∀(a:BA) (l:List BA) (z:BA),(a::l).getLast? =some z->Er (fun x=>decide (k=x)) (a::l)=(if k=z then 1 else 0)+Er (fun p:Pr=>decide (k=p.1)) (WB (a::l))
 | a,[],z,hz=>by
   simp at hz;subst hz;unfold Er WB;by_cases h:k=a<;>simp [h]
 | a,b::l,z,hz=>by
   have ih:=ZcN k b l z (by rw [U3] at hz;exact hz);rw [WB];unfold Er at ih ⊢;rw [Uy,Uy (p:=fun p:Pr=>decide (k=p.1))];by_cases h1:k=a
   . subst h1;simp at ih ⊢;omega
   simp [h1] at ih ⊢;omega
structure MInv (st:M4):Prop where
 na:∀x∈st.a.map (·.1),isName x=true
 pa:PosI st.a
 ps:PosI st.s
 pf:PosI st.f
 pq:PosI st.q
 ks:∀x∈st.s.map (·.1),x∈st.a.map (·.1)
 kf:∀x∈st.f.map (·.1),x∈st.a.map (·.1)
 kq:∀x∈st.q.map (·.1),x.1∈st.a.map (·.1)/\x.2∈st.a.map (·.1)
 fin:∀k,iget st.s k+sumIf (fun p:Pr=>decide (k=p.2)) st.q=iget st.a k
 fout:∀k,iget st.f k+sumIf (fun p:Pr=>decide (k=p.1)) st.q=iget st.a k
def MInv.nil:MInv ⟨[],[],[],[]⟩:=⟨sM,by simp [PosI],by simp [PosI],by simp [PosI],by simp [PosI],sM,sM,sM,fun k=>rfl,fun k=>rfl⟩
def MInv.step {st:M4} {x:Var} (h:MInv st) (hx:Kc x=true):MInv (mk1 st x):=by
 unfold Kc at hx
 simp only [Xf,U',Xj] at hx
 obtain ⟨⟨⟨h1,h2⟩,h3⟩,h4⟩:=hx
 cases hw:x.acts with
 | nil=>
   have:mk1 st x=st:=by unfold mk1;rw [hw];rfl
   rw [this];exact h
 | cons a l=>
   obtain ⟨z,hz⟩:∃z,(a::l).getLast? =some z:=by
    cases hz:(a::l).getLast? with
    |none=>simp at hz
    |some z=>exact ⟨z,rfl⟩
   have hzm:z∈a::l:=List.mem_of_getLast? hz;have e:mk1 st x=⟨addAll st.a (a::l) x.count,G' st.s a x.count,G' st.f z x.count,addAll st.q (WB (a::l)) x.count⟩:=by unfold mk1;rw [hw,hz]
   rw [hw] at h2;rw [e];refine ⟨fun k hk=>?_,h.pa.addAll h3,h.ps.add h3,h.pf.add h3,h.pq.addAll h3,fun k hk=>?_,fun k hk=>?_,fun k hk=>?_,fun k=>?_,fun k=>?_⟩
   . rcases WW.1 hk with h5|h5
     . exact h2 k h5
     exact h.na k h5
   . rcases S6.1 hk with rfl|h5
     . exact WW.2 (.inl sM)
     exact WW.2 (.inr (h.ks k h5))
   . rcases S6.1 hk with rfl|h5
     . exact WW.2 (.inl hzm)
     exact WW.2 (.inr (h.kf k h5))
   . rcases WW.1 hk with h5|h5
     . have:=DJ h5;exact ⟨WW.2 (.inl this.1),WW.2 (.inl this.2)⟩
     have:=h.kq k h5;exact ⟨WW.2 (.inr this.1),WW.2 (.inr this.2)⟩
   . show iget (G' st.s a x.count) k+sumIf _ (addAll st.q (WB (a::l)) x.count)=iget (addAll st.a (a::l) x.count) k;rw [Ci,P6,O0,Zf9,<-h.fin k,Int.mul_add];split<;>omega
   show iget (G' st.f z x.count) k+sumIf _ (addAll st.q (WB (a::l)) x.count)=iget (addAll st.a (a::l) x.count) k;rw [Ci,P6,O0,ZcN k a l z hz,<-h.fout k,Int.mul_add];split<;>omega
def MInv.all {l:List Var} (hl:∀x∈l,Kc x=true):MInv (makeM l):=by
 have key:∀(l:List Var) (st:M4),(∀x∈l,Kc x=true)->MInv st->MInv (l.foldl mk1 st):=fun l=>by
  induction l with
  |nil=>intro st _ h;exact h
  |cons x l ih=>intro st hl h;exact ih _ (fun y hy=>hl y (Xt _ hy)) (h.step (hl x (Xu ..)))
 exact key l _ hl MInv.nil
def TE {l:List Var} (h:validVars l=true):∀x∈l,Kc x=true:=fun x hx=>by
 obtain ⟨i,hi⟩:=XM hx
 exact Se h hi
def ZdR {l:List Var} (h:validVars l=true):KOk (makeM l) 60000:=by
 have hl:l.length<=300:=by have h2:=h;simp only [validVars,Xf,U'] at h2;exact h2.1
 have:=KOk.all (TE h) l.length (Xd _)
 rw [Xx] at this
 exact ⟨this.a.mono oM,this.s.mono oM,this.f.mono oM,this.q.mono oM,this.k⟩
def ZlR {L:List Cnt} {m:List (BA×Int)} (h:SameC L m) {c:Cnt} (hc:c∈L):(c.name,c.n)∈m:=by
 obtain ⟨x,hx,rfl⟩:=Xp.1 (h.1.mem_iff.1 hc)
 exact hx
def ZlS {L:List Flw} {m:List (Pr×Int)} (h:SameF L m) {c:Flw} (hc:c∈L):((c.src,c.dst),c.n)∈m:=by
 obtain ⟨x,hx,rfl⟩:=Xp.1 (h.1.mem_iff.1 hc)
 exact hx
def S7 {L:List Cnt} {m:List (BA×Int)} (h:SameC L m) {s:BA}:s∈cnames L↔s∈m.map (·.1):=by
 unfold cnames
 rw [(h.1.map (·.name)).mem_iff,XB];rfl
def O1 {α:Type} {r:α->α->Bool} {l:List α} (h:l.Pairwise fun a b=>r a b=true):chainB r l=true:=by
 refine (J0 r l).2 fun i x y hx hy=>?_
 have h1:=Zd hy
 have h2:=XW.1 h i (i+1) oM h1 oM
 rw [Xr oM] at hx
 rw [Xr h1] at hy
 injection hx with hx
 injection hy with hy
 rw [<-hx,<-hy];exact h2
def C4 {L:List Cnt} {m:List (BA×Int)} (h:SameC L m):chainB strLt (cnames L)=true:=by
 refine O1 ?_
 unfold cnames
 exact X7.2 h.2
def Za6 {n:Int} (h1:1<=n) (h2:n<=4503599627370496):Ko n=true:=by unfold Ko;rw [Qa h1,Qa h2];rfl
def ζv {l:List BA} {s:BA} (h:s∈l):hasStr l s=true:=CL h
def ZqQ {st:M4} {b:Nat} {g:Dfg} (hK:KOk st b) (hb:b*1048576<=4503599627370496) (hI:MInv st) (h40:st.a.length<=40) (h:T4 g st):JM g=true:=by
 obtain ⟨hA,hS,hF,hQ⟩:=h
 have hal:(cnames g.acts).length<=40:=by
  have:=hA.1.length_eq;rw [Xc] at this;unfold cnames;rw [Xc];omega
 have cnt:∀{m:List (BA×Int)} {L:List Cnt},MOk m b->PosI m->SameC L m->L.all (fun c=>Ko c.n)=true:=fun hm hp hL=>ZdQ fun c hc=>by
  have h1:=ZlR hL hc;have h2:=hp _ h1;have h3:=(hm.bd _ h1).2;dsimp only at h2 h3;exact Za6 h2 oM
 have asc:∀{m:List (BA×Int)} {L:List Cnt},(∀x∈m.map (·.1),x∈st.a.map (·.1))->SameC L m->EW (cnames L) (cnames g.acts)=true:=fun hk hL=>by
  unfold EW;rw [C4 hL,Uq];exact ZdQ fun s hs=>ζv ((S7 hA).2 (hk s ((S7 hL).1 hs)))
 unfold JM
 rw [show JH (cnames g.acts)=true by
  unfold JH;rw [Qa hal,C4 hA,ZdQ fun s hs=>hI.na s ((S7 hA).1 hs)];rfl]
 rw [asc hI.ks hS,asc hI.kf hF,cnt hK.a hI.pa hA,cnt hK.s hI.ps hS,cnt hK.f hI.pf hF]
 rw [show g.follows.all (SU (cnames g.acts))=true from ZdQ fun f hf=>by
  have h1:=ZlS hQ hf;have h2:=hI.pq _ h1;have h3:=(hK.q.bd _ h1).2;dsimp only at h2 h3;have h4:=hI.kq (f.src,f.dst) (Xp.2 ⟨_,h1,rfl⟩);unfold SU;rw [Za6 h2 oM,ζv ((S7 hA).2 h4.1),ζv ((S7 hA).2 h4.2)];rfl]
 rw [show chainB flwLt g.follows=true from O1 (hQ.2.imp fun h=>Qa h)];rfl
structure Ptn (n:Nat) (cs:List (List Int)):Prop where
 mem:∀x,x∈cs.flatten↔0<=x/\x<n
 nd:cs.flatten.Nodup
 ne:∀c∈cs,c≠[]
 asc:∀c∈cs,c.Pairwise (· < ·)
def Zjy:∀{l:List BA},chainB strLt l=true->l.Pairwise fun a b=>strLt a b=true
 |[],_=> .nil
 |[a],_=>Ua _ _
 | a::b::l,h=>by
   simp only [chainB,Xf] at h;have ih:=Zjy h.2;refine Xy.2 ⟨fun c hc=>?_,ih⟩;rcases Xi.1 hc with rfl|hc
   . exact h.1
   exact KH h.1 ((Xy.1 ih).1 c hc)
def P7 {l:List BA} {x:Int} (h:0<=x/\x<l.length):l[x.toNat]? =some (Wn l x):=by
 obtain ⟨y,hy⟩:∃y,l[x.toNat]? =some y:=⟨l[x.toNat]'oM,Xr oM⟩
 unfold Wn;rw [hy];rfl
def Cj {l:List BA} (hl:chainB strLt l=true) {x y:Int} (hx:0<=x/\x<l.length) (hy:0<=y/\y<l.length) (h:x<y):strLt (Wn l x) (Wn l y)=true:=by
 have h1:=XW.1 (Zjy hl) x.toNat y.toNat oM oM oM
 have e1:=P7 hx
 have e2:=P7 hy
 rw [Xr oM] at e1 e2
 injection e1 with e1
 injection e2 with e2
 rw [e1,e2] at h1
 exact h1
def ZhQ {l:List BA} (hl:chainB strLt l=true) {x y:Int} (hx:0<=x/\x<l.length) (hy:0<=y/\y<l.length) (h:Wn l x=Wn l y):x=y:=by
 rcases Int.lt_trichotomy x y with h1|h1|h1
 . have:=Cj hl hx hy h1;rw [h,W4] at this;cases this
 . exact h1
 have:=Cj hl hy hx h1;rw [h,W4] at this;cases this
def ZlT {l:List BA} (hn:l.all isName=true) (hl:chainB strLt l=true) {c:List Int} (hc:c≠[]) (hr:∀x∈c,0<=x/\x<l.length) (ha:c.Pairwise (· < ·)):LY (c.map (Wn l))=true:=by
 unfold LY
 rw [Xf,Xf]
 refine ⟨⟨?_,?_⟩,?_⟩
 . cases c with
   |nil=>exact Qe rfl hc
   |cons=>rfl
 . rw [Xj];intro s hs;obtain ⟨x,hx,rfl⟩:=Xp.1 hs;exact Xj.1 hn _ (Xb (P7 (hr x hx)))
 refine O1 (X7.2 (List.Pairwise.imp_of_mem (fun {a b} ha hb h=>?_) ha));exact Cj hl (hr a ha) (hr b hb) h
def Zga:∀{p seen:List BA},(seen++p).Nodup->JE seen p=true
 |[],_,_=>rfl
 | s ::p,seen,h=>by
   rw [JE,Xf];constructor
   . cases hb:hasStr seen s
     . rfl
     exact Qe rfl ((X6.1 h).2.2 s (PY.1 hb) s (Xu ..))
   refine Zga ?_;rw [XG];exact h
def C5:∀{ps:List (List BA)} {seen:List BA},(∀p∈ps,LY p=true)->(seen++ps.flatten).Nodup->Kd seen ps=true
 |[],_,_,_=>rfl
 | p::ps,seen,h,hn=>by
   rw [XS,<-XG] at hn;rw [Kd,Xf,Xf];exact ⟨⟨h p (Xu ..),Zga (X6.1 hn).1⟩,C5 (fun q hq=>h q (Xt _ hq)) hn⟩
def Za7 (l:List BA) (cs:List (List Int)):(ZB l cs).flatten=cs.flatten.map (Wn l):=by
 unfold ZB;rw [List.map_flatten]
def C6 {l:List BA} (hl:chainB strLt l=true) {cs:List (List Int)} (h:Ptn l.length cs):(ZB l cs).flatten.Nodup:=by
 rw [Za7]
 refine X7.2 (List.Pairwise.imp_of_mem (fun {a b} ha hb h1 h2=>?_) h.nd)
 exact h1 (ZhQ hl ((h.mem a).1 ha) ((h.mem b).1 hb) h2)
def ZdS {l:List BA} (hn:l.all isName=true) (hl:chainB strLt l=true) {cs:List (List Int)} (h:Ptn l.length cs) (h2:2<=cs.length) {k:Int} (hk:1<=k/\k<=4):Y1 ⟨k,ZB l cs⟩=true:=by
 unfold Y1
 simp only [Xf,U']
 refine ⟨⟨⟨hk.1,hk.2⟩,by unfold ZB;rw [Xc];exact h2⟩,C5 (fun p hp=>?_) (by rw [XY];exact C6 hl h)⟩
 unfold ZB at hp
 obtain ⟨c,hc,rfl⟩:=Xp.1 hp
 exact ZlT hn hl (h.ne c hc) (fun x hx=>(h.mem x).1 (XQ.2 ⟨c,hc,hx⟩)) (h.asc c hc)
def Zjz {l:List BA} (hl:chainB strLt l=true) {cs:List (List Int)} (h:Ptn l.length cs) {k:Nat} {c:List Int} (hc:cs[k]? =some c) {x:Int} (hx:x∈c):partOf (ZB l cs) (Wn l x)=k:=
 ZfH (C6 hl h) (p:=c.map (Wn l)) (by unfold ZB;rw [Xl,hc];rfl) (Xp.2 ⟨x,hx,rfl⟩)
def ZoF {l:List BA} (hl:chainB strLt l=true) {cs:List (List Int)} (h:Ptn l.length cs) {k:Nat} {c:List Int} (hc:cs[k]? =some c) {i:Nat} (hx:(i:Int)∈c) (kd:Int):atF ⟨kd,ZB l cs⟩ l i=k:=by
 have:=Zjz hl h hc hx
 exact this
def ZoG {n:Nat} {cs:List (List Int)} (h:Ptn n cs) {i:Nat} (hi:i<n):∃k c,cs[k]? =some c/\(i:Int)∈c/\k<cs.length:=by
 obtain ⟨c,hc,hx⟩:=XQ.1 ((h.mem i).2 ⟨oM,oM⟩)
 obtain ⟨k,hk⟩:=XM hc
 exact ⟨k,c,hk,hx,(Xk.1 hk).1⟩
def ZdT {l:List BA} (hl:chainB strLt l=true) {cs:List (List Int)} (h:Ptn l.length cs) {i:Nat} (hi:i<l.length) (kd:Int):∃k c,cs[k]? =some c/\(i:Int)∈c/\k<cs.length/\atF ⟨kd,ZB l cs⟩ l i=k:=by
 obtain ⟨k,c,h1,h2,h3⟩:=ZoG h hi
 exact ⟨k,c,h1,h2,h3,ZoF hl h h1 h2 kd⟩
def Ptn.apart {n:Nat} {cs:List (List Int)} (h:Ptn n cs) {i j:Nat} {c d:List Int} (hc:cs[i]? =some c) (hd:cs[j]? =some d) {x:Int} (hx:x∈c) (hy:x∈d):i=j:=by
 have aux:∀{i j:Nat} {c d:List Int},i<j->cs[i]? =some c->cs[j]? =some d->x∈c->x∈d->False:=fun {i j c d} hij hc hd hx hy=>by
  have h1:=XW.1 (Ug.1 h.nd).2 i j (Xk.1 hc).1 (Xk.1 hd).1 hij;rw [(Xk.1 hc).2,(Xk.1 hd).2] at h1;exact h1 x hx x hy rfl
 rcases VB i j with h1|h1|h1
 . exact (aux h1 hc hd hx hy).elim
 . exact h1
 exact (aux h1 hd hc hy hx).elim
def ZjA {n:Nat} {cs:List (List Int)} (h:Ptn n cs):cs.flatten.length=n:=by
 have h1:cs.flatten.Perm (upTo n):=by
  refine (U6 h.nd ?_).2 fun x=>?_
  . exact (Tc n).imp fun h=>oM
  rw [h.mem,YR]
 rw [h1.length_eq,JR]
def ZqR {l:List BA} (hl:chainB strLt l=true) {cs:List (List Int)} (h:Ptn l.length cs) {E:Nat->Nat->Bool} {S F:Nat->Bool} {kd:Int}
 (hends:∀(k:Nat) (c:List Int),cs[k]? =some c->(kd=3->K9 c S=true/\K9 c F=true)/\(kd=4->0<k->K9 c S=false/\K9 c F=false))
 (hpair:∀(i j:Nat) (c d:List Int),i<j->cs[i]? =some c->cs[j]? =some d->∀x∈c,∀y∈d,P9 l.length E (ZU l.length E) S F kd x.toNat y.toNat (decide (i=0))=true):
 Zsn l l.length E S F ⟨kd,ZB l cs⟩=true:=by
 unfold Zsn
 simp only [Xf]
 have hall:∀(p:Nat->Bool) (n:Nat),(∀i,i<n->p i=true)->Zdz n p=true:=fun p n hp=>Xj.2 fun i hi=>hp i (XT.1 hi)
 refine ⟨⟨hall _ _ fun i hi=>?_,?_,hall _ _ fun k hk=>?_⟩,hall _ _ fun a ha=>hall _ _ fun b hb=>?_⟩
 . obtain ⟨k,c,_,_,_,h4⟩:=ZdT hl h hi kd;rw [h4];exact Qa oM
 . rw [U',Za7,Xc,ZjA h]
 . have hk:k<cs.length:=by unfold ZB at hk;rw [Xc] at hk;exact hk
   obtain ⟨c,hc⟩:∃c,cs[k]? =some c:=⟨_,Xr hk⟩;have h1:=hends k c hc;have conv:∀f:Nat->Bool,ZkZ l.length (fun a=>decide (atF ⟨kd,ZB l cs⟩ l a=k)&&f a)=K9 c f:=fun f=>by
    rw [VI];unfold ZkZ K9;rw [X2,X2];constructor
    . rintro ⟨a,ha,hb⟩;rw [Xf,U'] at hb;obtain ⟨k',c',h2,h3,_,h4⟩:=ZdT hl h (XT.1 ha) kd;rw [h4] at hb;(have:k'=k:=by have:=hb.1;omega);subst this;rw [h2] at hc;cases hc;exact ⟨a,h3,by simpa using hb.2⟩
    rintro ⟨x,hx,hb⟩;have hr:=(h.mem x).1 (XQ.2 ⟨c,Xb hc,hx⟩);have hxe:((x.toNat:Nat):Int)=x:=oM;refine ⟨x.toNat,XT.2 oM,?_⟩;rw [Xf,U'];exact ⟨ZoF hl h hc (by rw [hxe];exact hx) kd,hb⟩
   unfold ZrE;rw [conv S,conv F];by_cases h3:kd=3
   . rw [(h1.1 h3).1,(h1.1 h3).2];subst h3;simp
   by_cases h4:kd=4
   . by_cases h0:0<k
     . rw [(h1.2 h4 h0).1,(h1.2 h4 h0).2];subst h4;simp
     subst h4;simp;omega
   simp [h3,h4]
 obtain ⟨i,c,h1,h2,_,h4⟩:=ZdT hl h ha kd;obtain ⟨j,d,h5,h6,_,h8⟩:=ZdT hl h hb kd;rw [h4,h8];by_cases hij:(i:Int)<j
 . have:=hpair i j c d oM h1 h5 _ h2 _ h6;rw [XH,XH] at this;rw [show decide ((i:Int)=0)=decide (i=0) from decide_eq_decide.2 oM,this];simp
 rw [Qb hij];rfl
def Ck {n:Nat} {r:Int->Int->Bool} {cs:List (List Int)} (h:Comps (upTo n) r cs):Ptn n cs:=⟨fun x=>(h.mem x).trans YR,h.nd,h.ne,h.asc⟩
def Za8 {n:Nat} {cs ds:List (List Int)} (h:Ptn n cs) (hp:ds.Perm cs):Ptn n ds:=
 ⟨fun x=>(hp.flatten.mem_iff).trans (h.mem x),(hp.flatten.pairwise_iff fun h=>Ne.symm h).2 h.nd,fun c hc=>h.ne c (hp.mem_iff.1 hc),fun c hc=>h.asc c (hp.mem_iff.1 hc)⟩
def ZoH {l:List Int} {r:Int->Int->Bool} {cs:List (List Int)} (h:Comps l r cs) {i j:Nat} {c d:List Int} (hij:i≠j) (hc:cs[i]? =some c) (hd:cs[j]? =some d) {x y:Int} (hx:x∈c) (hy:y∈d):r x y=false/\r y x=false:=by
 have key:¬(r x y=true\/r y x=true):=fun hr=>by
  have hyl:y∈l:=(h.mem y).1 (XQ.2 ⟨d,Xb hd,hy⟩);have h1:=h.clos c (Xb hc) x hx y hyl hr;have aux:∀{i j:Nat} {c d:List Int},i<j->cs[i]? =some c->cs[j]? =some d->y∈c->y∈d->False:=fun {i j c d} hij hc hd hx hy=>by
   have h1:=XW.1 (Ug.1 h.nd).2 i j (Xk.1 hc).1 (Xk.1 hd).1 hij;rw [(Xk.1 hc).2,(Xk.1 hd).2] at h1;exact h1 y hx y hy rfl
  rcases Nat.lt_or_gt_of_ne hij with h2|h2
  . exact aux h2 hc hd h1 hy
  exact aux h2 hd hc hy h1
 constructor
 . cases hb:r x y
   . rfl
   exact Qe (.inl hb) key
 cases hb:r y x
 . rfl
 exact Qe (.inr hb) key
def Rx {l:List BA} {k:Int} {cs:List (List Int)} {c:Cut} (h:some c=G9 l k cs):2<=cs.length/\c=⟨k,ZB l cs⟩:=by
 unfold G9 at h
 split at h
 . cases h
 cases h;exact ⟨oM,rfl⟩
def Ry (l:List BA) (E:Nat->Nat->Bool) (S F:Nat->Bool) (kd:Int) (cs:List (List Int)):Prop:=
 Ptn l.length cs/\2<=cs.length/\(1<=kd/\kd<=4)/\(∀(k:Nat) (c:List Int),cs[k]? =some c->(kd=3->K9 c S=true/\K9 c F=true)/\(kd=4->0<k->K9 c S=false/\K9 c F=false))/\
  ∀(i j:Nat) (c d:List Int),i<j->cs[i]? =some c->cs[j]? =some d->∀x∈c,∀y∈d,P9 l.length E (ZU l.length E) S F kd x.toNat y.toNat (decide (i=0))=true
def ZlU {l:List BA} {E:Nat->Nat->Bool} {S F:Nat->Bool} {cs:List (List Int)} (h:Comps (upTo l.length) (Oc E) cs) (h2:2<=cs.length):Ry l E S F 1 cs:=by
 refine ⟨Ck h,h2,dC,fun k c hc=>⟨fun h=>oM,fun h=>oM⟩,fun i j c d hij hc hd x hx y hy=>?_⟩
 have:=ZoH h oM hc hd hx hy
 unfold Oc at this
 unfold P9
 rw [Qd rfl,this.1,this.2];rfl
def ZjB {n:Nat} {E:Nat->Nat->Bool} {ds:List (List Int)} (h:Comps (upTo n) (relS (ZU n E)) ds) {c:List Int} (hc:c∈ds) {b:Int} (hb:0<=b/\b<n) (hbc:b∉c) {x y:Int} (hx:x∈c) (hy:y∈c) (hxb:ZU n E x.toNat b.toNat=true):ZU n E y.toNat b.toNat=true:=by
 have hcl:=(GR n E).2
 have hin:∀{z},z∈c->0<=z/\z<n:=fun hz=>YR.1 ((h.mem _).1 (XQ.2 ⟨c,hc,hz⟩))
 have hne:∀{z},z∈c->ZU n E z.toNat b.toNat≠ZU n E b.toNat z.toNat:=fun hz he=>hbc (h.clos c hc _ hz b (YR.2 hb) (.inl (by unfold relS;rw [he];exact beq_self_eq_true _)))
 refine (h.conn c hc x hx y hy (fun z=>z∈c/\ZU n E z.toNat b.toNat=true) (fun u v hu hv hr ⟨h1,h2⟩=>?_) ⟨hx,hxb⟩).2
 have hvc:v∈c:=h.clos c hc u h1 v hv hr
 refine ⟨hvc,?_⟩
 have hr':ZU n E u.toNat v.toNat=ZU n E v.toNat u.toNat:=by
  unfold relS at hr;rcases hr with h3|h3
  . exact eq_of_beq h3
  exact (eq_of_beq h3).symm
 cases h3:ZU n E v.toNat b.toNat
 . exfalso;have h4:ZU n E b.toNat v.toNat=true:=by
    have:=hne hvc;rw [h3] at this
    cases h5:ZU n E b.toNat v.toNat
    . exact Qe h5.symm this
    rfl
   have iu:=hin h1;have iv:=hin hvc;have h5:=hcl u.toNat b.toNat v.toNat oM oM oM h2 h4;have h6:=hcl b.toNat v.toNat u.toNat oM oM oM h4 (hr'▸h5);exact hne h1 (h2.trans h6.symm)
 rfl
def GJ {c:List Int} (h:c≠[]):hdI c∈c:=by
 cases c with
 |nil=>exact Qe rfl h
 |cons x c=>exact Xu ..
def ZlV {l:List BA} {E:Nat->Nat->Bool} {S F:Nat->Bool} {cs:List (List Int)} (h:SeqCs l.length (ZU l.length E) cs) (h2:2<=cs.length):Ry l E S F 2 cs:=by
 obtain ⟨⟨ds,hds,hp⟩,ho⟩:=h
 have hP:=Za8 (Ck hds) hp
 refine ⟨hP,h2,dC,fun k c hc=>⟨fun h=>oM,fun h=>oM⟩,fun i j c d hij hc hd x hx y hy=>?_⟩
 have hcm:c∈ds:=hp.mem_iff.1 (Xb hc)
 have hdm:d∈ds:=hp.mem_iff.1 (Xb hd)
 have hcn:=hP.ne c (Xb hc)
 have hdn:=hP.ne d (Xb hd)
 have hin:∀{c:List Int},c∈ds->∀{z},z∈c->0<=z/\z<l.length:=fun hc _ hz=>YR.1 ((hds.mem _).1 (XQ.2 ⟨_,hc,hz⟩))
 have hapc:∀{z},z∈c->z∉d:=fun hz hz'=>by have:=hP.apart hc hd hz hz';omega
 have hhne:hdI c≠hdI d:=fun he=>hapc (GJ hcn) (he▸GJ hdn)
 have h3:=ho i j c d hij hc hd
 rw [SZ] at h3
 have h4:ZU l.length E (hdI d).toNat (hdI c).toNat=false:=by
  cases h5:ZU l.length E (hdI d).toNat (hdI c).toNat
  . rfl
  exact Qe ⟨Ne.symm hhne,h5⟩ h3
 have h5:ZU l.length E (hdI c).toNat (hdI d).toNat=true:=by
  have h6:=GV hds hcm hdm hhne;rw [h4] at h6
  cases h7:ZU l.length E (hdI c).toNat (hdI d).toNat
  . exact Qe h7 h6
  rfl
 have h6:ZU l.length E x.toNat (hdI d).toNat=true:=ZjB hds hcm (hin hdm (GJ hdn)) (fun hz=>hapc hz (GJ hdn)) (GJ hcn) hx h5
 have hne:∀{z w:Int},z∈c->w∈d->ZU l.length E z.toNat w.toNat≠ZU l.length E w.toNat z.toNat:=fun {z w} hz hw he=>by
  have:=hds.clos c hcm z hz w (YR.2 (hin hdm hw)) (.inl (by unfold relS;rw [he];exact beq_self_eq_true _));exact hapc this hw
 have h7:ZU l.length E y.toNat x.toNat=false:=by
  cases h8:ZU l.length E y.toNat x.toNat
  . rfl
  have h9:=ZjB hds hdm (hin hcm hx) (hapc hx) hy (GJ hdn) h8;exact Qe (h6.trans h9.symm) (hne hx (GJ hdn))
 have h8:ZU l.length E x.toNat y.toNat=true:=by
  have:=hne hx hy;rw [h7] at this
  cases h9:ZU l.length E x.toNat y.toNat
  . exact Qe h9 this
  rfl
 unfold P9
 rw [Qc dC,Qd rfl,h8,h7];rfl
def Pv {c:List Int} {f:Nat->Bool}:K9 c f=true↔∃x∈c,f x.toNat=true:=by unfold K9;rw [X2]
def ZdU {cl:List Int} (h:cl.Nodup):(cl.mergeSort fun x y=>decide (x<=y)).Pairwise (· < ·):=Zav h
def Cl {α:Type} {ds A:List α} {x:α} (hp:ds.Perm (A++[x])) {c:α} (hc:c∈ds):c∈A\/c=x:=by
 have:=hp.mem_iff.1 hc
 rw [XD,XE] at this
 exact this
def ZlW {l:List BA} {E:Nat->Nat->Bool} {S F:Nat->Bool} {cs ds:List (List Int)} {i0:Nat} {c0:List Int} (h:Comps (upTo l.length) (PU E) cs) (h0:cs[i0]? =some c0) (hi:idx (Ya S F) cs=(i0:Nat)) (hd:AndCs cs i0 c0 (Ya S F) ds) (h2:2<=ds.length):Ry l E S F 3 ds:=by
 have hpre:=ζs hi
 have hW:Ya S F c0=true:=hpre.2 c0 h0
 have h3:=DD (i0:=i0) (W:=Ya S F) (cs:=cs) hpre.2 cs.length (Xd _)
 have h4:=Ef h0 hW hpre.1 cs.length (Xd _)
 rw [Xx] at h3 h4
 rw [Qd (Xk.1 h0).1] at h4
 have hp:=hd.perm
 rw [h3] at hp
 generalize hA:selA i0 (Ya S F) true cs=A at hp h4
 have hfl:(A++[(c0++(cs.filter fun c=> !Ya S F c).flatten).mergeSort fun x y=>decide (x<=y)]).flatten.Perm cs.flatten:=by
  refine List.Perm.trans ?_ (Gg (Jo (Ya S F) cs));rw [h4,XZ,XZ,XZ,Ui,Ui];refine ((VL (c0++(cs.filter fun c=> !Ya S F c).flatten) (fun x y=>decide (x<=y))).append_left A.flatten).trans ?_;rw [<-XG];exact (V2).append_right _
 have hflat:ds.flatten.Perm cs.flatten:=hp.flatten.trans hfl
 have hAm:∀c∈A,c∈cs/\Ya S F c=true:=fun c hc=>by
  have:c∈cs.filter (Ya S F):=by rw [h4];exact List.mem_append_right _ hc
  exact XF.1 this
 have hc0:c0∈cs:=Xb h0
 have hnd:(c0++(cs.filter fun c=> !Ya S F c).flatten).Nodup:=by
  have h5:((cs.filter (Ya S F)++cs.filter fun c=> !Ya S F c).flatten).Nodup:=((Gg (Jo (Ya S F) cs)).pairwise_iff fun h=>Ne.symm h).2 h.nd;rw [h4,XZ,XZ,Ui,XG] at h5;exact h5.sublist (List.Sublist.append_left (List.sublist_append_right _ _) c0)
 have hP:Ptn l.length ds:=by
  refine ⟨fun x=>?_,(hflat.pairwise_iff fun h=>Ne.symm h).2 h.nd,fun c hc=>?_,fun c hc=>?_⟩
  . rw [hflat.mem_iff,h.mem,YR]
  . rcases Cl hp hc with h5|h5
    . exact h.ne c (hAm c h5).1
    rw [h5];intro he;have h6:=congrArg List.length he;rw [V3,Xe] at h6;have h7:=h.ne c0 hc0
    cases c0 with
    |nil=>exact h7 rfl
    |cons=>simp at h6
  rcases Cl hp hc with h5|h5
  . exact h.asc c (hAm c h5).1
  rw [h5];exact ZdU hnd
 have hclos:∀c∈ds,∀x∈c,∀y:Int,0<=y/\y<l.length->(PU E x y=true\/PU E y x=true)->y∈c:=fun c hc x hx y hy hr=>by
  rcases Cl hp hc with h5|h5
  . exact h.clos c (hAm c h5).1 x hx y (YR.2 hy) hr
  rw [h5,(VL _ _).mem_iff,XD] at hx ⊢;rcases hx with hx|hx
  . exact .inl (h.clos c0 hc0 x hx y (YR.2 hy) hr)
  obtain ⟨q,hq,hx⟩:=XQ.1 hx;exact .inr (XQ.2 ⟨q,hq,h.clos q (XF.1 hq).1 x hx y (YR.2 hy) hr⟩)
 refine ⟨hP,h2,dC,fun k c hc=>⟨fun _=>?_,fun h=>oM⟩,fun i j c d hij hc hdj x hx y hy=>?_⟩
 . have hwh:∀c,Ya S F c=true->K9 c S=true/\K9 c F=true:=fun c hc=>by unfold Ya at hc;rw [Xf] at hc;exact hc
   rcases Cl hp (Xb hc) with h5|h5
   . exact hwh c (hAm c h5).2
   obtain ⟨h6,h7⟩:=hwh c0 hW;rw [Pv] at h6 h7 ⊢;rw [Pv];obtain ⟨x,hx,hx'⟩:=h6;obtain ⟨y,hy,hy'⟩:=h7;rw [h5];exact ⟨⟨x,(VL _ _).mem_iff.2 (U4 _ hx),hx'⟩,⟨y,(VL _ _).mem_iff.2 (U4 _ hy),hy'⟩⟩
 have hin:0<=y/\y<l.length:=(hP.mem y).1 (XQ.2 ⟨d,Xb hdj,hy⟩);have hne:¬(PU E x y=true\/PU E y x=true):=fun hr=>by
  have:=hP.apart hc hdj (hclos c (Xb hc) x hx y hin hr) hy;omega
 have hxy:x≠y:=fun he=>by
  have:=hP.apart hc hdj hx (he▸hy);omega
 have h5:PU E x y=false:=by
  cases h6:PU E x y
  . rfl
  exact Qe (.inl h6) hne
 unfold PU at h5;rw [Qa hxy,Uq] at h5;unfold P9;rw [Qc dC,Qc dC,Qd rfl];simpa using h5
def ZjC {n:Nat} {S F:Nat->Bool} {x:Int}:x∈inL n S F↔(0<=x/\x<n)/\(S x.toNat=true\/F x.toNat=true):=by
 unfold inL Zay;rw [XF,YR,Vj]
def Za9 {n:Nat} {S F:Nat->Bool} {x:Int}:x∈Rf n S F↔(0<=x/\x<n)/\S x.toNat=false/\F x.toNat=false:=by
 unfold Rf Zay;rw [XF,YR]
 simp
def ZhR {l:List BA} {E:Nat->Nat->Bool} {S F:Nat->Bool} {cs:List (List Int)} (hin:inL l.length S F≠[]) (h:Comps (Rf l.length S F) (Oc E) cs) (h2:2<=(GG l.length E S F cs).length):Ry l E S F 4 (GG l.length E S F cs):=by
 have hfp:=Gg (Jo (fun c=>Gq l.length E S F c) cs)
 have hperm:(GG l.length E S F cs).flatten.Perm (inL l.length S F++cs.flatten):=by
  unfold GG;rw [XS];refine ((VL _ _).append_right _).trans ?_;rw [XG];refine List.Perm.append_left _ (List.Perm.trans ?_ hfp);rw [XZ];exact V2
 have hndin:(inL l.length S F).Nodup:=by
  unfold inL;exact ((Tc l.length).imp fun h=>by omega:(upTo l.length).Nodup).sublist List.filter_sublist
 have hnd:(inL l.length S F++cs.flatten).Nodup:=by
  refine X6.2 ⟨hndin,h.nd,fun x hx y hy he=>?_⟩;subst he;have h3:=(ZjC.1 hx).2;have h4:=(Za9.1 ((h.mem x).1 hy)).2;rw [h4.1,h4.2] at h3;simp at h3
 have hrow0:(inL l.length S F++(cs.filter fun c=> !Gq l.length E S F c).flatten).Nodup:=by
  have h5:((cs.filter (fun c=>Gq l.length E S F c)).flatten++(inL l.length S F++(cs.filter fun c=> !Gq l.length E S F c).flatten)).Nodup:=by
   refine (List.Perm.pairwise_iff (fun h=>Ne.symm h) ?_).2 hnd;refine List.Perm.trans ?_ (hfp.append_left _);rw [XZ,<-XG,<-XG];exact (V2).append_right _
  exact (X6.1 h5).2.1
 have hP :Ptn l.length (GG l.length E S F cs):=by
  refine ⟨fun x=>?_,(hperm.pairwise_iff fun h=>Ne.symm h).2 hnd,fun c hc=>?_,fun c hc=>?_⟩
  . rw [hperm.mem_iff,XD,ZjC,h.mem,Za9];constructor
    . rintro (h3|h3)
      . exact h3.1
      exact h3.1
    intro h3
    cases hs:S x.toNat
    . cases hf:F x.toNat
      . exact .inr ⟨h3,rfl,rfl⟩
      exact .inl ⟨h3, .inr rfl⟩
    exact .inl ⟨h3, .inl rfl⟩
  . unfold GG at hc;rcases Xi.1 hc with rfl|hc
    . intro he;have h6:=congrArg List.length he;rw [V3,Xe] at h6
      cases hi:inL l.length S F with
      |nil=>exact hin hi
      |cons a b=>rw [hi] at h6;simp at h6
    exact h.ne c (XF.1 hc).1
  unfold GG at hc;rcases Xi.1 hc with rfl|hc
  . exact ZdU hrow0
  exact h.asc c (XF.1 hc).1
 have hget:∀(k:Nat) (c:List Int),(GG l.length E S F cs)[k]? =some c->0<k->c∈cs/\Gq l.length E S F c=true:=fun k c hc hk=>by
  obtain ⟨k',rfl⟩:∃k',k=k'+1:=⟨k-1,oM⟩;unfold GG at hc;rw [XV] at hc;exact XF.1 (Xb hc)
 have hsep:∀{c d:List Int},c∈cs->d∈cs->∀{x y:Int},x∈c->y∈d->(∀{z},z∈c->z∉d)->E x.toNat y.toNat=false/\E y.toNat x.toNat=false:=fun {c d} hc hd {x y} hx hy hap=>by
  have key:¬(Oc E x y=true\/Oc E y x=true):=fun hr=>hap (h.clos c hc x hx y ((h.mem y).1 (XQ.2 ⟨d,hd,hy⟩)) hr) hy;unfold Oc at key;constructor
  . cases hb:E x.toNat y.toNat
    . rfl
    exact Qe (.inl hb) key
  cases hb:E y.toNat x.toNat
  . rfl
  exact Qe (.inr hb) key
 refine ⟨hP,h2,dC,fun k c hc=>⟨fun h=>oM,fun _ hk=>?_⟩,fun i j c d hij hc hdj x hx y hy=>?_⟩
 . obtain ⟨h3,_⟩:=hget k c hc hk;have h4:∀x∈c,S x.toNat=false/\F x.toNat=false:=fun x hx=>(Za9.1 ((h.mem x).1 (XQ.2 ⟨c,h3,hx⟩))).2;constructor
   . cases hb:K9 c S
     . rfl
     obtain ⟨x,hx,hx'⟩:=Pv.1 hb;rw [(h4 x hx).1] at hx';cases hx'
   cases hb:K9 c F
   . rfl
   obtain ⟨x,hx,hx'⟩:=Pv.1 hb;rw [(h4 x hx).2] at hx';cases hx'
 obtain ⟨h3,h4⟩:=hget j d hdj oM;unfold P9;rw [Qc dC,Qc dC,Qc dC];by_cases hi:i=0
 . subst hi;rw [Qd (Qa rfl)];unfold GG at hc;rw [U9] at hc
   cases hc;rw [(VL _ _).mem_iff,XD] at hx;rcases hx with hx|hx
   . unfold Gq at h4;exact Xj.1 (Xj.1 h4 y hy) x hx
   obtain ⟨q,hq,hx⟩:=XQ.1 hx;have hq':=XF.1 hq;have h5:=hsep hq'.1 h3 hx hy fun {z} hz hz'=>by
    have e:q=d:=by
     obtain ⟨a,ha⟩:=XM hq'.1;obtain ⟨b,hb⟩:=XM h3;have hab:a=b:=by
      rcases VB a b with h6|h6|h6
      . have h7:=XW.1 (Ug.1 h.nd).2 a b (Xk.1 ha).1 (Xk.1 hb).1 h6;rw [(Xk.1 ha).2,(Xk.1 hb).2] at h7;exact Qe rfl (h7 z hz z hz')
      . exact h6
      have h7:=XW.1 (Ug.1 h.nd).2 b a (Xk.1 hb).1 (Xk.1 ha).1 h6;rw [(Xk.1 ha).2,(Xk.1 hb).2] at h7;exact Qe rfl (h7 z hz' z hz)
     subst hab;rw [ha] at hb;cases hb;rfl
    subst e;rw [h4] at hq';exact Qe hq'.2 dC
   unfold Y9 endsB OJ;rw [h5.1,h5.2];rfl
 rw [Qc (by simp [hi])];obtain ⟨h5,_⟩:=hget i c hc oM;(have:=hsep h5 h3 hx hy fun {z} hz hz'=>by have:=hP.apart hc hdj hz hz';omega);rw [this.1,this.2];rfl
def ZhS {l:List BA} {E:Nat->Nat->Bool} {S F:Nat->Bool} {c:Cut}:∀{k:Nat},k<4->RO l l.length E S F k (some c)->∃cs,c=⟨((k+1:Nat):Int),ZB l cs⟩/\Ry l E S F ((k+1:Nat):Int) cs
 | 0,_,h=>by
   obtain ⟨cs,h1,h2⟩:=h;obtain ⟨h3,rfl⟩:=Rx h2;exact ⟨cs,rfl,ZlU h1 h3⟩
 | 1,_,h=>by
   obtain ⟨cs,h1,h2⟩:=h;obtain ⟨h3,rfl⟩:=Rx h2;exact ⟨cs,rfl,ZlV h1 h3⟩
 | 2, _,h=>by
   obtain ⟨cs,h1,h2⟩:=h;rcases h2 with ⟨_,h2⟩|⟨i0,c0,ds,h4,h5,h6,h7⟩
   . cases h2
   obtain ⟨h3,rfl⟩:=Rx h7;exact ⟨ds,rfl,ZlW h1 h4 h5 h6 h3⟩
 | 3, _,h=>by
   rcases h with ⟨_,h2⟩|⟨cs,h4,h5,h7⟩
   . cases h2
   obtain ⟨h3,rfl⟩:=Rx h7;exact ⟨_,rfl,ZhR h4 h5 h3⟩
 |k+4,hk,_=>Qe hk oM
def Zgb {l:List BA} {E:Nat->Nat->Bool} {S F:Nat->Bool} {c:Cut} (h:Pk (RO l l.length E S F) (some c)):∃k,k<4/\RO l l.length E S F k (some c):=by
 rcases h with ⟨k,c',hk,_,h2,h3⟩|⟨_,h2⟩
 . cases h3;exact ⟨k,hk,h2⟩
 cases h2
def ZlX {g:Dfg} {E:Nat->Nat->Bool} {S F:Nat->Bool} {kd:Int} {cs:List (List Int)} (hg:JM g=true) (hE:E=W3 (cnames g.acts) g.follows) (hS:S=Y5 (cnames g.acts) g.starts) (hF:F=Y5 (cnames g.acts) g.ends) (h:Ry (cnames g.acts) E S F kd cs):Zjo g ⟨kd,ZB (cnames g.acts) cs⟩=true:=by
 have ha:JH (cnames g.acts)=true:=by
  unfold JM at hg;simp only [Xf] at hg;exact hg.1.1.1.1.1.1.1
 unfold JH at ha
 simp only [Xf] at ha
 obtain ⟨h1,h2,h3,h4,h5⟩:=h
 have hl:(cnames g.acts).length=g.acts.length:=by unfold cnames;rw [Xc]
 unfold Zjo
 rw [hg,ZdS ha.1.2 ha.2 h1 h2 h3,<-hE,<-hS,<-hF]
 have:=ZqR (kd:=kd) ha.2 h1 h4 h5
 rw [hl] at this
 rw [this];rfl
def ZlY {P:M4->Prop} {l:List Var} (h1:∀st x,P st->P (mk1 st x)):∀st,P st->P (l.foldl mk1 st):=by
 induction l with
 |nil=>exact fun _ h=>h
 |cons x l ih=>exact fun st h=>ih _ (h1 st x h)
def DN {P:M4->Prop} {l:List Var} {x:Var} (hx:x∈l) (h1:∀st y,P st->P (mk1 st y)) (h2:∀st,P (mk1 st x)):P (makeM l):=by
 unfold makeM
 generalize (⟨[],[],[],[]⟩:M4)=st
 induction l generalizing st with
 |nil=>simp at hx
 | cons y l ih=>
   rw [Vq];rcases Xi.1 hx with rfl|hx
   . exact ZlY h1 _ (h2 st)
   exact ih hx _
def ZrH {l:List Var} {x:Var} (hx:x∈l) {s:BA} (hs:s∈x.acts):s∈(makeM l).a.map (·.1):=
 DN (P:=fun st=>s∈st.a.map (·.1)) hx (fun st y h=>WW.2 (.inr h)) fun st=>WW.2 (.inl hs)
def Ztn {l:List Var} {x:Var} (hx:x∈l) {p:Pr} (hs:p∈WB x.acts):p∈(makeM l).q.map (·.1):=
 DN (P:=fun st=>p∈st.q.map (·.1)) hx (fun st y h=>WW.2 (.inr h)) fun st=>WW.2 (.inl hs)
def ZtF {l:List Var} {x:Var} (hx:x∈l) {s:BA} (hs:x.acts[0]? =some s):s∈(makeM l).s.map (·.1):=
 DN (P:=fun st=>s∈st.s.map (·.1)) hx (fun st y h=>by
  unfold mk1;dsimp only;split
  . exact h
  . exact S6.2 (.inr h)) fun st=>by
  unfold mk1;dsimp only
  cases ha:x.acts with
  |nil=>rw [ha] at hs;cases hs
  |cons a t=>rw [ha] at hs;cases hs;exact S6.2 (.inl rfl)
def ZtG {l:List Var} {x:Var} (hx:x∈l) {s:BA} (hs:x.acts.getLast? =some s):s∈(makeM l).f.map (·.1):=
 DN (P:=fun st=>s∈st.f.map (·.1)) hx (fun st y h=>by
  unfold mk1;dsimp only;split
  . exact S6.2 (.inr h)
  . exact h) fun st=>by
  unfold mk1;dsimp only;rw [hs];exact S6.2 (.inl rfl)
def Zgc:∀{l:List BA} {i:Nat} {a b:BA},l[i]? =some a->l[i+1]? =some b->(a,b)∈WB l
 |[],i,a,b,h,_=>by simp at h
 |[x],i,a,b,_,h=>by simp at h
 | x::y::l,0,a,b,h,k=>by
   cases h;cases k;rw [WB];exact Xu ..
 | x::y::l,i+1,a,b,h,k=>by
   rw [XV] at h k;rw [WB];exact Xt _ (Zgc h k)
structure WordOk (l:List BA) (E:Nat->Nat->Bool) (S F:Nat->Bool) (w:List BA):Prop where
 mem:∀s∈w,s∈l
 e:∀(i:Nat) (a b:BA),w[i]? =some a->w[i+1]? =some b->E (ixN l a) (ixN l b)=true
 s:∀a,w[0]? =some a->S (ixN l a)=true
 f:∀a,w.getLast? =some a->F (ixN l a)=true
def ZcO {l:List Var} {g:Dfg} (h:T4 g (makeM l)) {x:Var} (hx:x∈l):WordOk (cnames g.acts) (W3 (cnames g.acts) g.follows) (Y5 (cnames g.acts) g.starts) (Y5 (cnames g.acts) g.ends) x.acts:=by
 obtain ⟨h1,h2,h3,h4⟩:=h
 have inC:∀{L:List Cnt} {m:List (BA×Int)},SameC L m->∀{s},s∈m.map (·.1)->∃c∈L,c.name=s:=fun {L m} h {s} hs=>by
  obtain ⟨y,hy,rfl⟩:=Xp.1 hs;exact ⟨mkC y,h.1.mem_iff.2 (Xp.2 ⟨y,hy,rfl⟩),rfl⟩
 refine ⟨fun s hs=>?_,fun i a b ha hb=>?_,fun a ha=>?_,fun a ha=>?_⟩
 . obtain ⟨c,hc,rfl⟩:=inC h1 (ZrH hx hs);exact Xp.2 ⟨c,hc,rfl⟩
 . obtain ⟨y,hy,hye⟩:=Xp.1 (Ztn hx (Zgc ha hb));unfold W3;rw [X2];refine ⟨mkF y,h4.1.mem_iff.2 (Xp.2 ⟨y,hy,rfl⟩),?_⟩;obtain ⟨⟨y1,y2⟩,yn⟩:=y
   cases hye;unfold mkF;simp
 . obtain ⟨c,hc,rfl⟩:=inC h2 (ZtF hx ha);unfold Y5;rw [X2];exact ⟨c,hc,sM⟩
 obtain ⟨c,hc,rfl⟩:=inC h3 (ZtG hx ha);unfold Y5;rw [X2];exact ⟨c,hc,sM⟩
def Zba {l:List BA} {s:BA} (h:s∈l):ixN l s<l.length/\Wn l (ixN l s:Nat)=s:=by
 have h1:0<=idx (fun x=>W7 x s) l:=by
  have:=LS (fun x=>W7 x s) l;have h2:(l.any fun x=>W7 x s)=true:=X2.2 ⟨s,h,Y'.2 rfl⟩;rw [h2] at this;exact Qf this
 have h2:=ζs (p:=fun x=>W7 x s) (l:=l) (i0:=ixN l s) (by unfold ixN;omega)
 have h3:ixN l s<l.length:=by
  unfold ixN idx at*
  cases hf:l.findIdx? (fun x=>W7 x s) with
  |none=>rw [hf] at h1;dsimp only at h1;omega
  | some i=>
    obtain ⟨hi,_⟩:=V6.1 hf;dsimp only;omega
 refine ⟨h3,?_⟩
 obtain ⟨y,hy⟩:∃y,l[ixN l s]? =some y:=⟨_,Xr h3⟩
 unfold Wn
 rw [XH,hy]
 exact Y'.1 (h2.2 y hy)
def O2 {l:List BA} (hl:chainB strLt l=true) {cs:List (List Int)} (h:Ptn l.length cs) {s:BA} (hs:s∈l):∃(k:Nat) (c:List Int),cs[k]? =some c/\((ixN l s:Nat):Int)∈c/\k<cs.length/\partOf (ZB l cs) s=k:=by
 obtain ⟨h1,h2⟩:=Zba hs
 obtain ⟨k,c,h3,h4,h5⟩:=ZoG h h1
 have h6:=Zjz hl h h3 h4
 rw [h2] at h6
 exact ⟨k,c,h3,h4,h5,h6⟩
def ZhT {l:List BA} {E:Nat->Nat->Bool} {S F:Nat->Bool} {kd:Int} {cs:List (List Int)} (hl:chainB strLt l=true) (h:Ry l E S F kd cs) {a b:BA} (ha:a∈l) (hb:b∈l) (he:E (ixN l a) (ixN l b)=true):
 (kd=1->partOf (ZB l cs) a=partOf (ZB l cs) b)/\(kd=2->partOf (ZB l cs) a<=partOf (ZB l cs) b)/\(kd=4->partOf (ZB l cs) a≠partOf (ZB l cs) b->partOf (ZB l cs) a=0\/partOf (ZB l cs) b=0):=by
 obtain ⟨i,c,hc,hac,_,hpa⟩:=O2 hl h.1 ha
 obtain ⟨j,d,hd,hbd,_,hpb⟩:=O2 hl h.1 hb
 rw [hpa,hpb]
 have h5:=h.2.2.2.2
 have l1:i<j->P9 l.length E (ZU l.length E) S F kd (ixN l a) (ixN l b) (decide (i=0))=true:=fun hij=>by
  have:=h5 i j c d hij hc hd _ hac _ hbd;rw [XH,XH] at this;exact this
 have l2:j<i->P9 l.length E (ZU l.length E) S F kd (ixN l b) (ixN l a) (decide (j=0))=true:=fun hij=>by
  have:=h5 j i d c hij hd hc _ hbd _ hac;rw [XH,XH] at this;exact this
 refine ⟨fun hk=>?_,fun hk=>?_,fun hk hne=>?_⟩
 . subst hk;unfold P9 at l1 l2;rw [Qd rfl,he] at l1 l2;rcases VB i j with h6|h6|h6
   . have:=l1 h6;simp at this
   . rw [h6]
   have:=l2 h6;simp at this
 . subst hk;unfold P9 at l2;rw [Qc dC,Qd rfl] at l2;have hr:ZU l.length E (ixN l a) (ixN l b)=true:=(GR l.length E).1 _ _ (Zba ha).1 (Zba hb).1 he;rw [hr] at l2;rcases XL j i with h6|h6
   . have:=l2 h6;simp at this
   omega
 subst hk;unfold P9 at l1 l2;rw [Qc dC,Qc dC,Qc dC,he] at l1 l2;by_cases h0:i=0
 . exact .inl oM
 by_cases h1:j=0
 . exact .inr oM
 exfalso;rcases Nat.lt_or_gt_of_ne (show i≠j by omega) with h6|h6
 . have:=l1 h6;rw [Qc (by simp [h0])] at this;simp at this
 have:=l2 h6;rw [Qc (by simp [h1])] at this;simp at this
def ZcP {l:List BA} {E:Nat->Nat->Bool} {S F:Nat->Bool} {cs:List (List Int)} (hl:chainB strLt l=true) (h:Ry l E S F 4 cs) {a:BA} (ha:a∈l) (he:S (ixN l a)=true\/F (ixN l a)=true):partOf (ZB l cs) a=0:=by
 obtain ⟨i,c,hc,hac,_,hpa⟩:=O2 hl h.1 ha
 rw [hpa]
 rcases V1 i with h0|h0
 . omega
 have:=(h.2.2.2.1 i c hc).2 rfl h0;rcases he with he|he
 . have h1:K9 c S=true:=Pv.2 ⟨_,hac,by rw [XH];exact he⟩;rw [this.1] at h1;cases h1
 have h1:K9 c F=true:=Pv.2 ⟨_,hac,by rw [XH];exact he⟩;rw [this.2] at h1;cases h1
def psum (f:Int->List BA->Int) (ps:List Piece):Int:=(ps.map fun p=>f p.part p.word).sum
def Pw (f:Int->List BA->Int) (p:Piece) (ps:List Piece):psum f (p::ps)=f p.part p.word+psum f ps:=by unfold psum;rw [Xn,VC]
def O3 (f:Int->List BA->Int) (ps qs:List Piece):psum f (ps++qs)=psum f ps+psum f qs:=by unfold psum;rw [XX,List.sum_append]
def Lj (f:Int->List BA->Int) (p:Piece):psum f [p]=f p.part p.word:=by rw [Pw];show _+0=_;omega
def PcOk (parts:List (List BA)) (w:List BA) (p:Piece):Prop:=0<=p.part/\p.part<parts.length/\p.word.length<=w.length/\∀s∈p.word,s∈w/\partOf parts s=p.part
def fLen (_:Int) (w:List BA):Int:=w.length
def fAt (i:Int) (k:Int) (_:List BA):Int:=if k=i then 1 else 0
def fOne (_:Int) (_:List BA):Int:=1
def fLoop (k:Int) (_:List BA):Int:=if k=0 then-1 else 1
structure Pcs (c:Cut) (w:List BA) (ps:List Piece):Prop where
 ok:∀p∈ps,PcOk c.parts w p
 len:psum fLen ps=w.length
 le:∀i,psum (fAt i) ps<=w.length
 one:c.kind=1->psum fOne ps=1
 all:(c.kind=2\/c.kind=3)->∀i:Nat,i<c.parts.length->psum (fAt i) ps=1
 loop:c.kind=4->psum fLoop ps= -1
def ZlZ {ps:List Piece} {i:Nat} {s:BA} (k:Nat) {q:Piece} (hq:ps[k]? =some q):(Jz ps i s)[k]? =some ⟨q.part,q.word++(if i=k then [s] else [])⟩:=by
 unfold Jz
 by_cases h:i=k
 . subst h;rw [hq,Qd rfl];dsimp only;rw [XK (Xk.1 hq).1]
 rw [Qc h,Xo]
 cases hi:ps[i]? with
 |none=>exact hq
 | some p=>
   dsimp only;rw [X9 h];exact hq
def ZjD {kd:Int} {parts:List (List BA)}:∀{ws:List BA} {ps:List Piece} {first:Bool} {last:Int},(∀s∈ws,0<=partOf parts s)->
 (∀s,ws[0]? =some s->JZ kd first (partOf parts s) last=false)->(∀(i:Nat) (a b:BA),ws[i]? =some a->ws[i+1]? =some b->JZ kd false (partOf parts b) (partOf parts a)=false)->
 ∃ps' last',splitGo kd parts first last ps ws=some (ps',last')/\ps'.length=ps.length/\(∀(k:Nat) (q:Piece),ps[k]? =some q->ps'[k]? =some ⟨q.part,q.word++ws.filter fun s=>decide (partOf parts s=k)⟩)/\last'=(match ws.getLast? with|some s=>partOf parts s|none=>last)
 |[],ps,first,last,_,_,_=>⟨ps,last,rfl,rfl,fun k q hq=>by rw [List.filter_nil,Xo];exact hq,rfl⟩
 | s :: ws,ps,first,last,h0,h1,h2=>by
   rw [splitGo,h1 s rfl,Qc dC];obtain ⟨ps',last',e1,e2,e3,e4⟩:=ZjD (kd:=kd) (ws:=ws) (ps:=Jz ps (partOf parts s).toNat s) (first:=false) (last:=partOf parts s) (fun t ht=>h0 t (Xt _ ht)) (fun t ht=>h2 0 s t rfl (by rw [XV];exact ht)) (fun i a b ha hb=>h2 (i+1) a b (by rw [XV];exact ha) (by rw [XV];exact hb));refine ⟨ps',last',e1,by rw [e2,EC],fun k q hq=>?_,?_⟩
   . rw [e3 k _ (ZlZ k hq)];have hs:=h0 s (Xu ..);by_cases hk:(partOf parts s).toNat=k
     . rw [Qd hk,V4 (by rw [U'];omega),XG];rfl
     rw [Qc hk,Xo,VW (by rw [U'];omega)]
   rw [e4]
   cases ws with
   |nil=>rfl
   | cons t ws=>
     rw [U3]
     cases hl:(t::ws).getLast? with
     |some u=>rfl
     |none=>simp at hl
def ZoI {n k:Nat} (h:k<n):(initPs n)[k]? =some ⟨k,[]⟩:=by
 unfold initPs;rw [Xl,List.getElem?_range h];rfl
def ZoJ (n:Nat):(initPs n).length=n:=by unfold initPs;rw [Xc,VP]
def ZqS {parts:List (List BA)} {ws:List BA} {ps':List Piece} (h1:ps'.length=(initPs parts.length).length) (h2:∀(k:Nat) (q:Piece),(initPs parts.length)[k]? =some q->ps'[k]? =some ⟨q.part,q.word++ws.filter fun s=>decide (partOf parts s=k)⟩):
 ps'=(List.range parts.length).map fun k:Nat=>(⟨(k:Int),ws.filter fun s=>decide (partOf parts s=k)⟩:Piece):=by
 rw [ZoJ] at h1
 refine VT fun k=>?_
 by_cases hk:k<parts.length
 . rw [h2 k _ (ZoI hk),Xl,List.getElem?_range hk];rfl
 rw [X' oM,X' (by rw [Xc,VP];omega)]
def S8 (n:Nat) (f:Nat->Int):Int:=((List.range n).map f).sum
def LN (n:Nat) (f:Nat->Int):S8 (n+1) f=S8 n f+f n:=by
 unfold S8;rw [VS,XX,List.sum_append];simp
def ZoK (n:Nat) (f g:Nat->Int):S8 n (fun k=>f k+g k)=S8 n f+S8 n g:=by
 induction n with
 |zero=>rfl
 |succ n ih=>rw [LN,LN,LN,ih];omega
def ZjE (n:Nat) (a:Int) (h:0<=a):S8 n (fun k=>if a=k then 1 else 0)=if a<n then 1 else 0:=by
 induction n with
 |zero=>rw [Qc oM];rfl
 | succ n ih=>
   rw [LN,ih];by_cases h1:a=n
   . rw [Qc oM,Qd h1,Qd oM];rfl
   rw [Qc h1];by_cases h2:a<n
   . rw [Qd h2,Qd oM];rfl
   rw [Qc h2,Qc oM];rfl
def Ho {n:Nat} {f g:Nat->Int} (h:∀k,k<n->f k=g k):S8 n f=S8 n g:=by
 induction n with
 |zero=>rfl
 |succ n ih=>rw [LN,LN,ih fun k hk=>h k oM,h n oM]
def Zbb (f:Int->List BA->Int) (n:Nat) (g:Nat->List BA):psum f ((List.range n).map fun k:Nat=>(⟨(k:Int),g k⟩:Piece))=S8 n fun k=>f k (g k):=by
 unfold psum S8;rw [XB];rfl
def Zgd {parts:List (List BA)} {n:Nat}:∀{ws:List BA},(∀s∈ws,0<=partOf parts s/\partOf parts s<n)->S8 n (fun k=>((ws.filter fun s=>decide (partOf parts s=k)).length:Int))=ws.length
 | [],_=>by
   have:∀n,S8 n (fun _=>(0:Int))=0:=fun n=>by
    induction n with
    |zero=>rfl
    |succ n ih=>rw [LN,ih];rfl
   exact this n
 | s ::ws,h=>by
   have hs:=h s (Xu ..);have ih:=Zgd (ws:=ws) fun t ht=>h t (Xt _ ht);rw [Ho (g:=fun k=>(if partOf parts s=(k:Int) then 1 else 0)+((ws.filter fun s=>decide (partOf parts s=k)).length:Int)),ZoK,ih,ZjE n _ hs.1,Qd hs.2,Xh]
   . omega
   intro k _;by_cases hk:partOf parts s=(k:Int)
   . rw [Qd hk,V4 (by rw [U'];exact hk),Xh];omega
   rw [Qc hk,VW (by rw [U'];exact hk)];omega
def ZqT {c:Cut} {ws:List BA} (hw:ws≠[]) (hk:c.kind=2\/c.kind=3) (h:∀s∈ws,0<=partOf c.parts s/\partOf c.parts s<c.parts.length):Pcs c ws ((List.range c.parts.length).map fun k:Nat=>(⟨(k:Int),ws.filter fun s=>decide (partOf c.parts s=k)⟩:Piece)):=by
 have hone:∀i:Int,0<=i->psum (fAt i) ((List.range c.parts.length).map fun k:Nat=>(⟨(k:Int),ws.filter fun s=>decide (partOf c.parts s=k)⟩:Piece))=if i<c.parts.length then 1 else 0:=fun i hi=>by
  rw [Zbb,<-ZjE _ _ hi];refine Ho fun k _=>?_;unfold fAt;by_cases h1:(k:Int)=i
  . rw [Qd h1,Qd h1.symm]
  rw [Qc h1,Qc (Ne.symm h1)]
 have hpos:(1:Int)<=ws.length:=by
  cases ws with
  |nil=>exact Qe rfl hw
  |cons=>rw [Xh];omega
 refine ⟨fun p hp=>?_,?_,fun i=>?_,fun h=>oM,fun _ i hi=>?_,fun h=>oM⟩
 . obtain ⟨k,hk,rfl⟩:=Xp.1 hp;have:=XT.1 hk;refine ⟨by show 0<=(k:Int);omega,by show (k:Int)<_;omega,Vl _ _,fun s hs=>?_⟩;have:=XF.1 hs;exact ⟨this.1,Qf this.2⟩
 . rw [Zbb];exact Zgd h
 . by_cases hi:0<=i
   . rw [hone i hi];split<;>omega
   have:psum (fAt i) ((List.range c.parts.length).map fun k:Nat=>(⟨(k:Int),ws.filter fun s=>decide (partOf c.parts s=k)⟩:Piece))=S8 c.parts.length fun _=>0:=by
    rw [Zbb];refine Ho fun k _=>?_;unfold fAt;rw [Qc oM]
   rw [this];have:∀n,S8 n (fun _=>(0:Int))=0:=fun n=>by
    induction n with
    |zero=>rfl
    |succ n ih=>rw [LN,ih];rfl
   rw [this];omega
 rw [hone i oM,Qd oM]
def ZcQ (A:List Piece) (q:Piece):(A++[q])[(A++[q]).length-1]? =some q:=by
 rw [Xe,Xz,UJ,Vp (Xd _)];simp
def Zl0 (A:List Piece) (q r:Piece):(A++[q]).set ((A++[q]).length-1) r=A++[r]:=by
 rw [Xe,Xz,UJ,Vr _ _ (Xd _)];simp
def Cm {parts : List (List BA)} {w:List BA}:∀{ws:List BA} {A:List Piece} {q:Piece},(∀s∈ws,s∈w/\0<=partOf parts s/\partOf parts s<parts.length)->
 (∀s,ws[0]? =some s->q.part≠partOf parts s->q.part=0\/partOf parts s=0)->(∀(i:Nat) (a b:BA),ws[i]? =some a->ws[i+1]? =some b->partOf parts a≠partOf parts b->partOf parts a=0\/partOf parts b=0)->
 (∀p∈A++[q],PcOk parts w p)->psum fLoop (A++[q])=(if q.part=0 then-1 else 0)->psum fLen (A++[q])+ws.length=w.length->(A++[q]).length+ws.length<=w.length->
 (∀p,(A++[q])[0]? =some p->p.part=0)->
 ∃A' q',Wb parts (A++[q]) ws=some (A'++[q'])/\(∀p∈A'++[q'],PcOk parts w p)/\psum fLoop (A'++[q'])=(if q'.part=0 then-1 else 0)/\psum fLen (A'++[q'])=w.length/\(A'++[q']).length<=w.length/\(∀p,(A'++[q'])[0]? =some p->p.part=0)/\q'.part=(match ws.getLast? with|some s=>partOf parts s|none=>q.part)
 |[],A,q,_,_,_,h1,h2,h3,h4,h5=>⟨A,q,rfl,h1,h2,by rw [Xw] at h3;omega,by rw [Xw] at h4;omega,h5,rfl⟩
 | s :: ws, A, q, g1, g2,g3,h1,h2,h3,h4,h5=>by
   have hs:=g1 s (Xu ..);have n1:∀t∈ws,t∈w/\0<=partOf parts t/\partOf parts t<parts.length:=fun t ht=>g1 t (Xt _ ht);have n3:∀(i:Nat) (a b:BA),ws[i]? =some a->ws[i+1]? =some b->partOf parts a≠partOf parts b->partOf parts a=0\/partOf parts b=0:=fun i a b ha hb=>g3 (i+1) a b (by rw [XV];exact ha) (by rw [XV];exact hb);have n2:∀t,ws[0]? =some t->partOf parts s≠partOf parts t->partOf parts s=0\/partOf parts t=0:=fun t ht=>g3 0 s t rfl (by rw [XV];exact ht);have hlast:∀x:Int,(match (s::ws).getLast? with|some s=>partOf parts s|none=>x)=(match ws.getLast? with|some s=>partOf parts s|none=>partOf parts s):=fun x=>by
    cases ws with
    |nil=>rfl
    | cons t ws=>
      rw [U3]
      cases hl:(t::ws).getLast? with
      |some u=>rfl
      |none=>simp at hl
   rw [Wb,pieceStep,ZcQ];dsimp only;rw [Xh] at h3 h4;by_cases hp:q.part=partOf parts s
   . rw [Qd hp, Zl0];dsimp only;have hq:=h1 q sM;have hlen : q.word.length+1<=w.length:=by
      rw [O3,Lj] at h3;have h6 : 0 <= psum fLen A:=by
       clear h1 h2 h3 h4 h5;induction A with
       |nil=>exact Uj _
       | cons a A ih => rw [Pw];have:0<=fLen a.part a.word:=by unfold fLen;omega
                        omega
      unfold fLen at h3 h6;omega
     obtain ⟨A',q',e1,e2,e3,e4,e5,e6,e7⟩:=Cm (ws:=ws) (A:=A) (q:=⟨q.part,q.word++[s]⟩) n1 (fun t ht=>by rw [hp];exact n2 t ht) n3
      (fun p hp'=>by
        rcases XD.1 hp' with h6|h6
        . exact h1 p (U4 _ h6)
        rw [XE] at h6;subst h6;refine ⟨hq.1,hq.2.1,by rw [Xe];exact hlen,fun t ht=>?_⟩;rcases XD.1 ht with h7|h7
        . exact hq.2.2.2 t h7
        rw [XE] at h7;subst h7;exact ⟨hs.1,hp.symm⟩)
      (by rw [O3,Lj] at h2 ⊢;exact h2)
      (by rw [O3,Lj] at h3 ⊢;unfold fLen at h3 ⊢;rw [Xe,Xz];omega)
      (by rw [Xe,Xz] at h4 ⊢;omega)
      (fun p hp'=>by
        cases A with
        |nil=>cases hp';exact h5 q rfl
        |cons a A=>exact h5 p hp')
     exact ⟨A',q',e1,e2,e3,e4,e5,e6,by rw [e7,hlast];cases ws.getLast? with|none=>exact hp|some _=>rfl⟩
   have hz:=g2 s rfl hp;rw [Qc hp,Qc (by rcases hz with h|h<;>simp [h])];dsimp only;obtain ⟨A',q',e1,e2,e3,e4,e5,e6,e7⟩:=Cm (ws:=ws) (A:=A++[q]) (q:=⟨partOf parts s,[s]⟩) n1 n2 n3
    (fun p hp'=>by
      rcases XD.1 hp' with h6|h6
      . exact h1 p h6
      rw [XE] at h6;subst h6;refine ⟨hs.2.1,hs.2.2,?_,fun t ht=>?_⟩
      . rw [Xz];have:=List.length_pos_of_mem hs.1;omega
      rw [XE] at ht;subst ht;exact ⟨hs.1,rfl⟩)
    (by
      rw [O3,Lj,h2];unfold fLoop;dsimp only;by_cases h0:partOf parts s=0
      . rw [Qc (by rw [<-h0];exact hp),Qd h0,Qd h0];rfl
      rcases hz with h|h
      . rw [Qd h,Qc h0,Qc h0];rfl
      exact Qe h h0)
    (by rw [O3,Lj];show _+(([s].length:Nat):Int)+_=_;rw [Xz];omega)
    (by rw [Xe (bs:=[_]),Xz];omega)
    (fun p hp'=>by
      refine h5 p ?_;rw [Vo (by rw [Xe,Xz];omega)] at hp';exact hp')
   exact ⟨A',q',e1,e2,e3,e4,e5,e6,by rw [e7,hlast]⟩
def ZoL (l:List BA) (cs:List (List Int)):(ZB l cs).length=cs.length:=by unfold ZB;rw [Xc]
def Zge {l:List BA} {E:Nat->Nat->Bool} {S F:Nat->Bool} {kd:Int} {cs:List (List Int)} (hl:chainB strLt l=true) (h:Ry l E S F kd cs) {w:List BA} (hw:WordOk l E S F w) (hne:w≠[]):
 ∃ps,Wh ⟨kd,ZB l cs⟩ w=some ps/\Pcs ⟨kd,ZB l cs⟩ w ps:=by
 have hin:∀s∈w,0<=partOf (ZB l cs) s/\partOf (ZB l cs) s<(ZB l cs).length:=fun s hs=>by
  obtain ⟨k,c,_,_,h1,h2⟩:=O2 hl h.1 (hw.mem s hs);rw [h2,ZoL];omega
 have hstep:∀(i:Nat) (a b:BA),w[i]? =some a->w[i+1]? =some b->(kd=1->partOf (ZB l cs) a=partOf (ZB l cs) b)/\(kd=2->partOf (ZB l cs) a<=partOf (ZB l cs) b)/\(kd=4->partOf (ZB l cs) a≠partOf (ZB l cs) b->partOf (ZB l cs) a=0\/partOf (ZB l cs) b=0):=fun i a b ha hb=>
  ZhT hl h (hw.mem a (Xb ha)) (hw.mem b (Xb hb)) (hw.e i a b ha hb)
 by_cases h4:kd=4
 . subst h4
   cases w with
   |nil=>exact Qe rfl hne
   | cons s ws=>
     have hs:=hin s (Xu ..);have hs0:partOf (ZB l cs) s=0:=ZcP hl h (hw.mem s (Xu ..)) (.inl (hw.s s rfl));obtain ⟨A',q',e1,e2,e3,e4,e5,e6,e7⟩:=Cm (parts:=ZB l cs) (w:=s::ws) (ws:=ws) (A:=[]) (q:=⟨partOf (ZB l cs) s,[s]⟩)
      (fun t ht=>⟨Xt _ ht,hin t (Xt _ ht)⟩)
      (fun t ht=>(hstep 0 s t rfl (by rw [XV];exact ht)).2.2 rfl)
      (fun i a b ha hb=>(hstep (i+1) a b (by rw [XV];exact ha) (by rw [XV];exact hb)).2.2 rfl)
      (fun p hp=>by
        rw [XY,XE] at hp;subst hp;exact ⟨hs.1,hs.2,by rw [Xz,Xh];omega,fun t ht=>by rw [XE] at ht;subst ht;exact ⟨Xu ..,rfl⟩⟩)
      (by rw [XY,Lj];unfold fLoop;dsimp only;rw [Qd hs0,Qd hs0])
      (by rw [XY,Lj];show (([s].length:Nat):Int)+_=_;rw [Xz,Xh];omega)
      (by rw [XY,Xz,Xh];omega)
      (fun p hp=>by rw [XY] at hp;cases hp;exact hs0)
     have hq0:q'.part=0:=by
      rw [e7]
      cases hg:ws.getLast? with
      |none=>exact hs0
      | some t=>
        dsimp only;have hgl:(s::ws).getLast? =some t:=by
         cases ws with
         |nil=>simp at hg
         |cons u ws=>rw [U3];exact hg
        exact ZcP hl h (hw.mem t (List.mem_of_getLast? hgl)) (.inr (hw.f t hgl))
     refine ⟨A'++[q'],?_,e2,e4,fun i=>?_,fun h=>Qe (show (4:Int)=1 from h) dC,fun h=>Qe (show (4:Int)=2\/(4:Int)=3 from h) dC,fun _=>(by rw [e3,Qd hq0])⟩
     . unfold Wh;rw [Qd rfl];unfold LZ;rw [Qc hne,Wb];show (match (match pieceStep (ZB l cs) [] s with|none=>none|some ps'=>Wb (ZB l cs) ps' ws) with|none=>none|some ps=>if Go.Cb.endsB ps then some ps else none)=_;have e0:pieceStep (ZB l cs) [] s=some ([]++[⟨partOf (ZB l cs) s,[s]⟩]):=rfl;rw [e0];dsimp only;rw [e1];dsimp only;have hb:Go.Cb.endsB (A'++[q'])=true:=by
        unfold Go.Cb.endsB;rw [ZcQ];obtain ⟨p,hp⟩:∃p,(A'++[q'])[0]? =some p:=⟨(A'++[q'])[0]'sM,Xr sM⟩;rw [hp];dsimp only;rw [e6 p hp,hq0];rfl
       rw [hb,Qd rfl]
     refine Int.le_trans (?_:_<=((A'++[q']).length:Int)) (by exact_mod_cast e5);clear e1 e2 e3 e4 e5 e6 e7;generalize A'++[q']=L;induction L with
     |nil=>exact Uj _
     | cons p L ih=>
       rw [Pw,Xh];(have:fAt i p.part p.word<=1:=by unfold fAt;split<;>omega);omega
 have hkd:=h.2.2.1;obtain ⟨ps',last',e1,e2,e3,e4⟩:=ZjD (kd:=kd) (parts:=ZB l cs) (ws:=w) (ps:=initPs (ZB l cs).length) (first:=true) (last:=0) (fun s hs=>(hin s hs).1)
  (fun s hs=>by
    have:=hin s (Xb hs);unfold JZ;rw [Qb oM];simp)
  (fun i a b ha hb=>by
    obtain ⟨g1,g2,_⟩:=hstep i a b ha hb;unfold JZ;by_cases k1:kd=1
    . rw [g1 k1];subst k1;simp
    by_cases k2:kd=2
    . have:=g2 k2;rw [Qb oM];subst k2;simp
    simp [k1,k2])
 have e5:=ZqS e2 e3;by_cases k1:kd=1
 . subst k1;obtain ⟨s,ws,rfl⟩:∃s ws,w=s::ws:=by
    cases w with
    |nil=>exact Qe rfl hne
    |cons s ws=>exact ⟨s,ws,rfl⟩
   have hsame:∀t∈s::ws,partOf (ZB l cs) t=partOf (ZB l cs) s:=fun t ht=>by
    obtain ⟨i,hi⟩:=XM ht;clear ht e4 e1;induction i generalizing t with
    |zero=>cases hi;rfl
    | succ i ih=>
      obtain ⟨u,hu⟩:∃u,(s::ws)[i]? =some u:=⟨_,Xr (by have:=(Xk.1 hi).1;omega)⟩;rw [<-ih u hu];exact ((hstep i u t hu hi).1 rfl).symm
   have hs:=hin s (Xu ..);have hlast:last'=partOf (ZB l cs) s:=by
    rw [e4]
    cases hg:(s::ws).getLast? with
    |none=>simp at hg
    |some t=>exact hsame t (List.mem_of_getLast? hg)
   have hpc:(ps'.drop last'.toNat).take 1=[⟨partOf (ZB l cs) s,s::ws⟩]:=by
    have h6:ps'[last'.toNat]? =some ⟨partOf (ZB l cs) s,s::ws⟩:=by
     rw [e5,Xl,List.getElem?_range (by rw [hlast];omega),hlast];show some (Piece.mk _ _)=_;rw [show (((partOf (ZB l cs) s).toNat:Nat):Int)=partOf (ZB l cs) s by omega,Ur.2 fun t ht=>Qa (hsame t ht)]
    have h7:last'.toNat<ps'.length:=(Xk.1 h6).1;rw [Ve h7,UF,Um];rw [Xr h7] at h6;injection h6 with h6;rw [h6]
   refine ⟨[⟨partOf (ZB l cs) s,s::ws⟩],?_,fun p hp=>?_,?_,fun i=>?_,fun _=>?_,fun h=>Qe (show (1:Int)=2\/(1:Int)=3 from h) dC,fun h=>Qe (show (1:Int)=4 from h) dC⟩
   . unfold Wh;rw [Qc (show ¬((1:Int)=4) by decide)];dsimp only;rw [e1];dsimp only;rw [Qd rfl,Qc sM,hpc]
   . rw [XE] at hp;subst hp;exact ⟨hs.1,hs.2,Xd _,fun t ht=>⟨ht,hsame t ht⟩⟩
   . rw [Lj];rfl
   . rw [Lj];unfold fAt;rw [Xh];split<;>omega
   rw [Lj];rfl
 refine ⟨ps',?_,by rw [e5];exact ZqT (c:=⟨kd,ZB l cs⟩) hne (show kd=2\/kd=3 by omega) hin⟩;unfold Wh;rw [Qc h4];dsimp only;rw [e1];dsimp only;rw [Qc k1]
def wtR (f:List BA->Int) (r:List Var):Int:=(r.map fun v=>v.count*f v.acts).sum
def S9 (f:List BA->Int) (x:Var) (r:List Var):wtR f (x::r)=x.count*f x.acts+wtR f r:=by unfold wtR;rw [Xn,VC]
def wtO (f:Int->List BA->Int):Nat->List (List Var)->Int
 |_,[]=>0
 |k,r::rs=>wtR (f k) r+wtO f (k+1) rs
def ZjF (f:List BA->Int) (w:List BA) (n:Int):∀r:List Var,wtR f (YS r w n)=wtR f r+n*f w
 |[]=>by rw [YS,S9];unfold wtR;simp
 | x :: r=>by
   rw [YS];split
   . rw [S9,S9,ZjF f w n r];omega
   split
   . rename_i h1 h2;have:=Kn.1 h2;rw [S9,S9,this];show (x.count+n)*f w+_=_;rw [Int.add_mul];omega
   rw [S9];show n*f w+_=_;omega
def ZjG (f:Int->List BA->Int):∀(out:List (List Var)) (k0 i:Nat) (r r':List Var),out[i]? =some r->wtO f k0 (out.set i r')=wtO f k0 out+(wtR (f ((k0+i:Nat):Int)) r'-wtR (f ((k0+i:Nat):Int)) r)
 |[],_,_,_,_,h=>by simp at h
 | r0::out,k0,0,r,r',h=>by
   cases h;rw [U1,wtO,wtO];show _=_+(wtR (f (k0:Int)) r'-wtR (f (k0:Int)) r0);omega
 | r0::out,k0,i+1,r,r',h=>by
   rw [XV] at h;rw [UV,wtO,wtO,ZjG f out (k0+1) i r r' h,show k0+1+i=k0+(i+1) by omega];omega
structure RowG (parts:List (List BA)) (k:Nat) (b:Int) (r:List Var):Prop where
 asc:r.Pairwise fun v w=>cmpStrs v.acts w.acts<0
 len:(r.length:Int)<=b
 ok:∀v∈r,v.acts.length<=200/\v.acts.all isName=true/\1<=v.count/\∀s∈v.acts,partOf parts s=k
def Zbc {a b c:List BA} (h1:cmpStrs a b<0) (h2:cmpStrs b c<0):cmpStrs a c<0:=Qf (Tu (Qa h1) (Qa h2))
def ZdV {w:List BA} {n:Int}:∀{r:List Var} {v:Var},v∈YS r w n->v∈r\/(v.acts=w/\(v.count=n\/∃x∈r,v.count=x.count+n))
 | [],v,h=>by
   rw [YS,XE] at h;subst h;exact .inr ⟨rfl, .inl rfl⟩
 | x :: r,v,h=>by
   rw [YS] at h;split at h
   . rcases Xi.1 h with rfl|h
     . exact .inl (Xu ..)
     rcases ZdV h with h|⟨h1,h2⟩
     . exact .inl (Xt _ h)
     exact .inr ⟨h1,h2.imp id fun ⟨y,hy,h⟩=>⟨y,Xt _ hy,h⟩⟩
   split at h
   . rcases Xi.1 h with rfl|h
     . exact .inr ⟨rfl, .inr ⟨x,Xu ..,rfl⟩⟩
     exact .inl (Xt _ h)
   rcases Xi.1 h with rfl|h
   . exact .inr ⟨rfl, .inl rfl⟩
   exact .inl h
def Zbd (w:List BA) (n:Int):∀r:List Var,(YS r w n).length<=r.length+1
 |[]=>by rw [YS];simp
 | x::r=>by
   rw [YS];have:=Zbd w n r;split
   . rw [Xh,Xh];omega
   split<;>simp
def ZjH {w:List BA} {n:Int}:∀{r:List Var},(r.Pairwise fun v w=>cmpStrs v.acts w.acts<0)->(YS r w n).Pairwise fun v w=>cmpStrs v.acts w.acts<0
 |[],_=>by rw [YS];exact Ua _ _
 | x :: r,h=>by
   have h1:=Xy.1 h;rw [YS];split
   . rename_i hx;refine Xy.2 ⟨fun v hv=>?_,ZjH h1.2⟩;rcases ZdV hv with hv|⟨hv,_⟩
     . exact h1.1 v hv
     rw [hv];exact hx
   rename_i hx;split
   . rename_i hz;have:=Kn.1 hz;exact Xy.2 ⟨fun v hv=>by show cmpStrs w v.acts<0;rw [<-this];exact h1.1 v hv,h1.2⟩
   rename_i hz;have hlt:cmpStrs w x.acts<0:=by
    by_cases h2:cmpStrs w x.acts<0
    . exact h2
    exact Qe (Kn.2 (Ss (Qb hx) (Qb h2))) hz
   refine Xy.2 ⟨fun v hv=>?_,h⟩;rcases Xi.1 hv with rfl|hv
   . exact hlt
   exact Zbc hlt (h1.1 v hv)
def RowG.add {parts:List (List BA)} {k:Nat} {b:Int} {r:List Var} (h:RowG parts k b r) {w:List BA} {n:Int} (hn:1<=n) (hl:w.length<=200) (hw:w.all isName=true) (hp:∀s∈w,partOf parts s=k):RowG parts k (b+1) (YS r w n):=by
 refine ⟨ZjH h.asc,?_,fun v hv=>?_⟩
 . have:=Zbd w n r;have:=h.len;omega
 rcases ZdV hv with hv|⟨h1,h2⟩
 . exact h.ok v hv
 refine ⟨by rw [h1];exact hl,by rw [h1];exact hw,?_,by rw [h1];exact hp⟩;rcases h2 with h2|⟨x,hx,h2⟩
 . omega
 have:=(h.ok x hx).2.2.1;omega
def RowG.mono {parts:List (List BA)} {k:Nat} {b b':Int} {r:List Var} (h:RowG parts k b r) (hb:b<=b'):RowG parts k b' r:=⟨h.asc,Int.le_trans h.len hb,h.ok⟩
def ZhU (parts:List (List BA)) (B:Nat->Int) (out:List (List Var)):Prop:=out.length=parts.length/\∀(k:Nat) (r:List Var),out[k]? =some r->RowG parts k (B k) r
def ZoM {parts:List (List BA)} {B:Nat->Int} {out:List (List Var)} (h:ZhU parts B out) {w:List BA} (hw:w.length<=200/\w.all isName=true) {n:Int} (hn:1<=n) {p:Piece} (hp:PcOk parts w p):
 ZhU parts (fun k=>B k+fAt k p.part p.word) (putPiece n out p)/\∀f,wtO f 0 (putPiece n out p)=wtO f 0 out+n*f p.part p.word:=by
 obtain ⟨h1,h2,h3,h4⟩:=hp
 obtain ⟨r,hr⟩:∃r,out[p.part.toNat]? =some r:=get_some (by rw [h.1];omega)
 have e0:putPiece n out p=out.set p.part.toNat (YS r p.word n):=by unfold putPiece;rw [hr]
 have e1:((p.part.toNat:Nat):Int)=p.part:=oM
 rw [e0]
 refine ⟨⟨by rw [Xm];exact h.1,fun k r' hr'=>?_⟩,fun f=>?_⟩
 . by_cases hk:p.part.toNat=k
   . subst hk;rw [XK (Xk.1 hr).1] at hr'
     cases hr';(have:fAt ((p.part.toNat:Nat):Int) p.part p.word=1:=by unfold fAt;rw [Qd e1.symm]);dsimp only;rw [this];refine (h.2 _ r hr).add hn oM (Xj.2 fun s hs=>Xj.1 hw.2 s (h4 s hs).1) fun s hs=>?_;rw [e1];exact (h4 s hs).2
   rw [X9 hk] at hr';refine (h.2 k r' hr').mono ?_;dsimp only;unfold fAt;split<;>omega
 rw [ZjG f out 0 _ r _ hr,ZjF,XC,e1];omega
def ZcR {parts:List (List BA)} {w:List BA} (hw:w.length<=200/\w.all isName=true) {n:Int} (hn:1<=n):∀{ps:List Piece} {B:Nat->Int} {out:List (List Var)},ZhU parts B out->(∀p∈ps,PcOk parts w p)->
 ZhU parts (fun k=>B k+psum (fAt k) ps) (ps.foldl (putPiece n) out)/\∀f,wtO f 0 (ps.foldl (putPiece n) out)=wtO f 0 out+n*psum f ps
 |[],B,out,h,_=>⟨⟨h.1,fun k r hr=>(h.2 k r hr).mono (by show _<=_+0;omega)⟩,fun f=>by show _=_+n*0;rw [Int.mul_zero];exact (Int.add_zero _).symm⟩
 | p::ps,B,out,h,hp=>by
   obtain ⟨h1,h2⟩:=ZoM h hw hn (hp p (Xu ..));obtain ⟨h3,h4⟩:=ZcR hw hn h1 fun q hq=>hp q (Xt _ hq);rw [Vq];refine ⟨⟨h3.1,fun k r hr=>(h3.2 k r hr).mono ?_⟩,fun f=>?_⟩
   . dsimp only;rw [Pw];omega
   rw [h4,h2,Pw,Int.mul_add];omega
def sumV (g:Var->Int) (l:List Var):Int:=(l.map g).sum
def SC (g:Var->Int) (x:Var) (l:List Var):sumV g (x::l)=g x+sumV g l:=by unfold sumV;rw [Xn,VC]
def Zgf {c:Cut}:∀{l:List Var} {B:Nat->Int} {out:List (List Var)},(∀x∈l,Kc x=true/\∃ps,Wh c x.acts=some ps/\Pcs c x.acts ps)->ZhU c.parts B out->
 ∃out',splitAll c out l=some out'/\ZhU c.parts (fun k=>B k+sumV (fun x=>x.acts.length) l) out'/\(∀f (g:Var->Int),(∀x∈l,∀ps,Pcs c x.acts ps->psum f ps=g x)->wtO f 0 out'=wtO f 0 out+sumV (fun x=>x.count*g x) l)/\∀f (g:Var->Int),(∀x∈l,∀ps,Pcs c x.acts ps->psum f ps<=g x)->wtO f 0 out'<=wtO f 0 out+sumV (fun x=>x.count*g x) l
 |[],B,out,_,h=>⟨out,rfl,⟨h.1,fun k r hr=>(h.2 k r hr).mono (by show _<=_+0;omega)⟩,fun f g _=>(by show _=_+0;omega),fun f g _=>(by show _<=_+0;omega)⟩
 | x ::l,B,out,hx,h=>by
   obtain ⟨hok,ps,hs,hP⟩:=hx x (Xu ..);unfold Kc at hok;simp only [Xf,U'] at hok;obtain ⟨h1,h2⟩:=ZcR (parts:=c.parts) ⟨hok.1.1.1,hok.1.1.2⟩ hok.1.2 h hP.ok;obtain ⟨out',e1,e2,e3,e4⟩:=Zgf (l:=l) (fun y hy=>hx y (Xt _ hy)) h1;refine ⟨out',by rw [splitAll,hs];exact e1,⟨e2.1,fun k r hr=>(e2.2 k r hr).mono ?_⟩,fun f g hg=>?_,fun f g hg=>?_⟩
   . dsimp only;rw [SC];have:=hP.le k;omega
   . rw [e3 f g fun y hy=>hg y (Xt _ hy),h2,SC,hg x (Xu ..) ps hP];omega
   have h3:=e4 f g fun y hy=>hg y (Xt _ hy);rw [h2] at h3;rw [SC];have h4:x.count*psum f ps<=x.count*g x:=Int.mul_le_mul_of_nonneg_left (hg x (Xu ..) ps hP) oM;omega
def ZhV (i:Int):∀(out:List (List Var)) (k0:Nat),(k0:Int)<=i->wtO (fAt i) k0 out=(match out[i.toNat-k0]? with|some r=>wtR (fun _=>1) r|none=>0)
 |[],k0,_=>rfl
 | r :: out,k0,h=>by
   rw [wtO];by_cases hk:(k0:Int)=i
   . have h0:wtO (fAt i) (k0+1) out=0:=by
      have aux:∀(out:List (List Var)) (k1:Nat),i<(k1:Int)->wtO (fAt i) k1 out=0:=fun out=>by
       induction out with
       |nil=>intro _ _;rfl
       | cons r out ih=>
         intro k1 h1;rw [wtO,ih (k1+1) oM];have:wtR (fAt i (k1:Int)) r=0:=by
          unfold wtR fAt;rw [Qc oM];induction r with
          |nil=>rfl
          |cons v r ihr=>rw [Xn,VC,ihr];omega
         rw [this];rfl
      exact aux out (k0+1) oM
     rw [h0,show i.toNat-k0=0 by omega,U9];(have:wtR (fAt i (k0:Int)) r=wtR (fun _=>1) r:=by unfold wtR fAt;rw [Qd hk]);rw [this];show _+0=wtR _ r;omega
   rw [ZhV i out (k0+1) oM,show i.toNat-k0=(i.toNat-(k0+1))+1 by omega,XV];have:wtR (fAt i (k0:Int)) r=0:=by
    unfold wtR fAt;rw [Qc hk];induction r with
    |nil=>rfl
    |cons v r ihr=>rw [Xn,VC,ihr];omega
   rw [this];omega
structure SplitG (l:List Var) (c:Cut) (out:List (List Var)):Prop where
 len:out.length=c.parts.length
 val:∀r∈out,bigVars r=false->validVars r=true
 inn:∀(k:Nat) (r:List Var),out[k]? =some r->∀v∈r,∀s∈v.acts,∃p,c.parts[k]? =some p/\s∈p
 wds:∀r∈out,∀v∈r,v.acts.length<=200/\1<=v.count
 few:∀r∈out,(r.length:Int)<=sumV (fun x=>x.acts.length) l
 tot:∀r∈out,wtR (fun _=>1) r<=sumV (fun x=>x.count*x.acts.length) l
 acts:wtO fLen 0 out=sumV (fun x=>x.count*x.acts.length) l
 one:c.kind=1->wtO fOne 0 out=sumV (fun x=>x.count*1) l
 all:(c.kind=2\/c.kind=3)->∀r∈out,wtR (fun _=>1) r=sumV (fun x=>x.count*1) l
 loop:c.kind=4->wtO fLoop 0 out=sumV (fun x=>x.count* -1) l
def Es {r:List Var} (h3:r.length<=300) (ha:r.Pairwise fun v w=>cmpStrs v.acts w.acts<0) (ho:∀v∈r,Kc v=true):validVars r=true:=RD h3 fun j hj=>by
 obtain ⟨x,hx⟩:=get_some hj
 rcases V1 j with h0|h0
 . subst h0;unfold Lm;rw [hx];dsimp only;rw [ho x (Xb hx)];rfl
 obtain ⟨y,hy⟩:=gS r (j-1);rw [Pz hx hy h0,ho x (Xb hx)];have:=XW.1 ha (j-1) j oM hj oM;rw [(Xk.1 hx).2,(Xk.1 hy).2] at this;rw [Qa this];rfl
def ZdW {l:List Var} {c:Cut} (hv:validVars l=true) (hf:Y1 c=true) (hx:∀x∈l,∃ps,Wh c x.acts=some ps/\Pcs c x.acts ps) (hin:JB c.parts l=true) (hfew:sumV (fun x=>x.acts.length) l<=300):
 ∃out,SplitG l c out/\((out.any bigVars=true/\KW l c=([],6))\/(out.any bigVars=false/\KW l c=(out,0))):=by
 have hB0:ZhU c.parts (fun _=>0) (List.replicate c.parts.length []):=⟨XN,fun k r hr=>by
  have:=Xb hr;rw [VE this];exact ⟨.nil,sM,fun v hv=>by simp at hv⟩⟩
 have hw0:∀(f:Int->List BA->Int) (n k:Nat),wtO f k (List.replicate n [])=0:=fun f n=>by
  induction n with
  |zero=>intro k;rfl
  |succ n ih=>intro k;rw [List.replicate_succ,wtO,ih];rfl
 obtain ⟨out,e1,e2,e3,e4⟩:=Zgf (fun x hxl=>⟨TE hv x hxl,hx x hxl⟩) hB0
 have hrow:∀r∈out,∃k,RowG c.parts k (0+sumV (fun x=>x.acts.length) l) r:=fun r hr=>by
  obtain ⟨k,hk⟩:=XM hr;exact ⟨k,e2.2 k r hk⟩
 have hmany:out.any Kl=false:=by
  rw [Ux];intro r hr;obtain ⟨k,hk⟩:=hrow r hr;have:=hk.len;unfold Kl;rw [U'];omega
 refine ⟨out,⟨e2.1,fun r hr hb=>?_,fun k r hr v hvr s hs=>?_,fun r hr v hvr=>?_,fun r hr=>?_,fun r hr=>?_,?_,fun hk=>?_,fun hk r hr=>?_,fun hk=>?_⟩,?_⟩
 . obtain ⟨k,hk⟩:=hrow r hr;have:=hk.len;refine Es oM hk.asc fun v hvr=>?_;have h1:=hk.ok v hvr;have h2:¬1048576<v.count:=fun h=>by
    have:bigVars r=true:=X2.2 ⟨v,hvr,Qa h⟩;rw [hb] at this;cases this
   unfold Kc;simp only [Xf,U'];exact ⟨⟨⟨h1.1,h1.2.1⟩,h1.2.2.1⟩,oM⟩
 . have h1:=((e2.2 k r hr).ok v hvr).2.2.2 s hs;have h2:=Zhy (ps:=c.parts) (s:=s) oM;rw [h1,XH] at h2;obtain ⟨p,hp⟩:=get_some (show k<c.parts.length by rw [<-e2.1];exact (Xk.1 hr).1);rw [hp] at h2;exact ⟨p,hp,PY.1 h2⟩
 . obtain ⟨k,hk⟩:=hrow r hr;exact ⟨(hk.ok v hvr).1,(hk.ok v hvr).2.2.1⟩
 . obtain ⟨k,hk⟩:=hrow r hr;have:=hk.len;omega
 . obtain ⟨k,hkr⟩:=XM hr;have h1:=e4 (fAt k) (fun x=>x.acts.length) fun x _ ps h=>h.le k;rw [hw0,ZhV _ _ _ oM,show ((k:Int).toNat-0)=k by omega,hkr] at h1;have h2:wtR (fun _=>1) r<=0+sumV (fun x=>x.count*x.acts.length) l:=h1;omega
 . rw [e3 fLen (fun x=>x.acts.length) fun x _ ps h=>h.len,hw0];omega
 . rw [e3 fOne (fun _=>1) fun x _ ps h=>h.one hk,hw0];omega
 . obtain ⟨k,hkr⟩:=XM hr;have h1:=e3 (fAt k) (fun _=>1) fun x _ ps h=>h.all hk k (by rw [<-e2.1];exact (Xk.1 hkr).1);rw [hw0,ZhV _ _ _ oM,show ((k:Int).toNat-0)=k by omega,hkr] at h1;have h2:wtR (fun _=>1) r=0+sumV (fun x=>x.count*1) l:=h1;omega
 . rw [e3 fLoop (fun _=> -1) fun x _ ps h=>h.loop hk,hw0];omega
 unfold KW;rw [hv,hf,hin,e1];dsimp only
 cases hb:out.any bigVars
 . exact .inr ⟨rfl,by simp [hmany]⟩
 exact .inl ⟨rfl,sM⟩
def Et {l:List Var} (h:validVars l=true):l.Pairwise fun v w=>cmpStrs v.acts w.acts<0:=by
 have hst:∀j x y,l[j]? =some x->l[j+1]? =some y->cmpStrs x.acts y.acts<0:=fun j x y hx hy=>by
  unfold validVars at h;rw [Xf,Xj] at h;have:=h.2 (j+1) (XT.2 (Xk.1 hy).1);rw [Pz hy (by rw [UJ];exact hx) oM,Xf] at this;exact Qf this.2
 clear h
 induction l with
 |nil=>exact .nil
 | cons v l ih=>
   have ih':=ih fun j x y hx hy=>hst (j+1) x y (by rw [XV];exact hx) (by rw [XV];exact hy);refine Xy.2 ⟨fun w hw=>?_,ih'⟩
   cases l with
   |nil=>simp at hw
   | cons u l=>
     have h0:=hst 0 v u rfl rfl;rcases Xi.1 hw with rfl|hw
     . exact h0
     exact Zbc h0 ((Xy.1 ih').1 w hw)
def ZjI {g:Var->Int} {b:Int}:∀{l:List Var},(∀x∈l,g x<=b)->sumV g l<=l.length*b
 |[],_=>by unfold sumV;simp
 | x::l,h=>by
   rw [SC,Xh];have h1:=ZjI (l:=l) fun y hy=>h y (Xt _ hy);have h2:=h x (Xu ..);have:((l.length+1:Nat):Int)*b=l.length*b+b:=by rw [Int.natCast_add,Int.add_mul];omega
   rw [this];omega
def Zl1 {l:List Var} {g:Dfg} {c:Cut} {kd:Int} {cs:List (List Int)} (hv:validVars l=true) (hne:∀x∈l,x.acts≠[]) (hfew:sumV (fun x=>x.acts.length) l<=300) (hg:T4 g (makeM l)) (hok:JM g=true)
 (hc:c=⟨kd,ZB (cnames g.acts) cs⟩) (hF:Ry (cnames g.acts) (W3 (cnames g.acts) g.follows) (Y5 (cnames g.acts) g.starts) (Y5 (cnames g.acts) g.ends) kd cs):
 Zjo g c=true/\Y1 c=true/\∃out,SplitG l c out/\((out.any bigVars=true/\KW l c=([],6))\/(out.any bigVars=false/\KW l c=(out,0))):=by
 subst hc
 have h1:=ZlX hok rfl rfl rfl hF
 have hf:Y1 ⟨kd,ZB (cnames g.acts) cs⟩=true:=by
  unfold Zjo at h1;rw [Xf,Xf] at h1;exact h1.1.2
 have hl:chainB strLt (cnames g.acts)=true:=by
  unfold JM JH at hok;simp only [Xf] at hok;exact hok.1.1.1.1.1.1.1.2
 refine ⟨h1,hf,ZdW hv hf (fun x hx=>Zge hl hF (ZcO hg hx) (hne x hx)) ?_ hfew⟩
 unfold JB
 rw [Xj]
 intro x hx
 rw [Xj]
 intro s hs
 obtain ⟨k,_,_,_,_,h2⟩:=O2 hl hF.1 ((ZcO hg hx).mem s hs)
 rw [h2]
 exact Qa oM
def ZcS {α:Type} {r:α->α->Prop} (hr:∀a b,r a b->¬r b a):∀{l m:List α},l.Perm m->l.Pairwise r->m.Pairwise r->l=m
 |[],m,h,_,_=>(List.nil_perm.1 h).symm
 |a::l,[],h,_,_=>by simp at h
 | a ::l,b::m,h,hl,hm=>by
   have h1:=Xy.1 hl;have h2:=Xy.1 hm;have e:a=b:=by
    rcases Xi.1 (h.mem_iff.1 (Xu ..)) with h3|h3
    . exact h3
    rcases Xi.1 (h.mem_iff.2 (Xu ..)) with h4|h4
    . exact h4.symm
    exact Qe (h2.1 a h3) (hr _ _ (h1.1 b h4))
   subst e;rw [ZcS hr (List.perm_cons a |>.1 h) h1.2 h2.2]
def Zl2 {n:Nat} {E:Nat->Nat->Bool} {cs:List (List Int)} (h:SeqCs n (ZU n E) cs):cs.Pairwise (He (ZU n E)):=by
 obtain ⟨⟨ds,hds,hp⟩,ho⟩:=h
 have hP:=Za8 (Ck hds) hp
 rw [XW]
 intro i j hi hj hij
 have h1:=ho i j _ _ hij (Xr hi) (Xr hj)
 have hcm:=hp.mem_iff.1 (Vm hi)
 have hdm:=hp.mem_iff.1 (Vm hj)
 have hne:hdI cs[i]≠hdI cs[j]:=fun he=>by
  have:=hP.apart (Xr hi) (Xr hj) (GJ (hP.ne _ (Vm hi))) (he▸GJ (hP.ne _ (Vm hj)));omega
 rw [SZ] at h1
 have h2:=GV hds hcm hdm hne
 show ZU n E (hdI cs[i]).toNat (hdI cs[j]).toNat=true
 cases h3:ZU n E (hdI cs[j]).toNat (hdI cs[i]).toNat
 . rw [h3] at h2
   cases h4:ZU n E (hdI cs[i]).toNat (hdI cs[j]).toNat
   . exact Qe h4 h2
   rfl
 exact Qe ⟨Ne.symm hne,h3⟩ h1
def ZhW {n:Nat} {E:Nat->Nat->Bool} {cs ds:List (List Int)} (h:SeqCs n (ZU n E) cs) (k:SeqCs n (ZU n E) ds):cs=ds:=by
 obtain ⟨qs,hq,hp⟩:=h.cl
 exact Zjg hq hp (Zl2 h) k
def ZhX {n:Nat} {r:Int->Int->Bool} {cs ds es:List (List Int)} {i0:Nat} {c0:List Int} {W:List Int->Bool} (hP:Ptn n ds) (h:AndCs cs i0 c0 W ds) (k:AndCs cs i0 c0 W es):ds=es:=by
 have hp:ds.Perm es:=h.perm.trans k.perm.symm
 have hPe:=Za8 hP hp.symm
 have hlt:∀{ds:List (List Int)},Ptn n ds->headsLe ds->ds.Pairwise fun c d=>YI c<YI d:=fun {ds} hP ho=>by
  rw [XW];intro i j hi hj hij;have h1:=ho i j _ _ hij (Xr hi) (Xr hj);have hne:YI ds[i]≠YI ds[j]:=fun he=>by
   have:=hP.apart (Xr hi) (Xr hj) (GJ (hP.ne _ (Vm hi))) ((show hdI ds[i]=hdI ds[j] from he)▸GJ (hP.ne _ (Vm hj)));omega
  omega
 exact ZcS (fun a b h1 h2=>oM) hp (hlt hP h.ord) (hlt hPe k.ord)
def ZbF {n:Nat} {E:Nat->Nat->Bool} {W:List Int->Bool} {cs ds:List (List Int)} {i0:Nat} {c0:List Int} (h:Comps (upTo n) (PU E) cs) (h0:cs[i0]? =some c0) (hi:idx W cs=(i0:Nat)) (hd:AndCs cs i0 c0 W ds):Ptn n ds:=by
 have hpre:=ζs hi
 have hW:W c0=true:=hpre.2 c0 h0
 have h3:=DD (i0:=i0) (W:=W) (cs:=cs) hpre.2 cs.length (Xd _)
 have h4:=Ef h0 hW hpre.1 cs.length (Xd _)
 rw [Xx] at h3 h4
 rw [Qd (Xk.1 h0).1] at h4
 have hp:=hd.perm
 rw [h3] at hp
 generalize hA:selA i0 W true cs=A at hp h4
 have hfl:(A++[(c0++(cs.filter fun c=> !W c).flatten).mergeSort fun x y=>decide (x<=y)]).flatten.Perm cs.flatten:=by
  refine List.Perm.trans ?_ (Gg (Jo W cs));rw [h4,XZ,XZ,XZ,Ui,Ui];refine ((VL (c0++(cs.filter fun c=> !W c).flatten) (fun x y=>decide (x<=y))).append_left A.flatten).trans ?_;rw [<-XG];exact (V2).append_right _
 have hflat:ds.flatten.Perm cs.flatten:=hp.flatten.trans hfl
 have hAm:∀c∈A,c∈cs:=fun c hc=>by
  have:c∈cs.filter W:=by rw [h4];exact List.mem_append_right _ hc
  exact (XF.1 this).1
 have hnd:(c0++(cs.filter fun c=> !W c).flatten).Nodup:=by
  have h5:((cs.filter W++cs.filter fun c=> !W c).flatten).Nodup:=((Gg (Jo W cs)).pairwise_iff fun h=>Ne.symm h).2 h.nd;rw [h4,XZ,XZ,Ui,XG] at h5;exact h5.sublist (List.Sublist.append_left (List.sublist_append_right _ _) c0)
 refine ⟨fun x=>by rw [hflat.mem_iff,h.mem,YR],(hflat.pairwise_iff fun h=>Ne.symm h).2 h.nd,fun c hc=>?_,fun c hc=>?_⟩
 . rcases Cl hp hc with h5|h5
   . exact h.ne c (hAm c h5)
   rw [h5];intro he;have h6:=congrArg List.length he;rw [V3,Xe] at h6;have h7:=h.ne c0 (Xb h0)
   cases c0 with
   |nil=>exact h7 rfl
   |cons=>simp at h6
 rcases Cl hp hc with h5|h5
 . exact h.asc c (hAm c h5)
 rw [h5];exact ZdU hnd
def ZcT {l:List BA} {n:Nat} {E:Nat->Nat->Bool} {S F:Nat->Bool} {o o':Option Cut}:∀{k:Nat},RO l n E S F k o->RO l n E S F k o'->o=o'
 | 0,h,h'=>by
   obtain ⟨cs,h1,h2⟩:=h;obtain ⟨ds,h3,h4⟩:=h';rw [h2,h4,h1.unique h3 fun _ _ _ _=>Iff.rfl]
 | 1,h,h'=>by
   obtain ⟨cs,h1,h2⟩:=h;obtain ⟨ds,h3,h4⟩:=h';rw [h2,h4,ZhW h1 h3]
 | 2, h,h'=>by
   obtain ⟨cs,h1,h2⟩:=h;obtain ⟨cs',h3,h4⟩:=h';have e:=h1.unique h3 fun _ _ _ _=>Iff.rfl;subst e;rcases h2 with ⟨h5,h6⟩|⟨i0,c0,ds,g1,g2,g3,g4⟩
   . rcases h4 with ⟨_,h8⟩|⟨i1,c1,es,k1,k2,k3,k4⟩
     . rw [h6,h8]
     omega
   rcases h4 with ⟨h7,h8⟩|⟨i1,c1,es,k1,k2,k3,k4⟩
   . omega
   have:i0=i1:=oM;subst this;rw [g1] at k1;cases k1;rw [g4,k4,ZhX (r:=PU E) (ZbF h1 g1 g2 g3) g3 k3]
 | k +3,h,h'=>by
   rcases h with ⟨h1,h2⟩|⟨cs,h1,h2,h3⟩
   . rcases h' with ⟨h4,h5⟩|⟨ds,h4,h5,h6⟩
     . rw [h2,h5]
     exact Qe h1 h4
   rcases h' with ⟨h4,h5⟩|⟨ds,h4,h5,h6⟩
   . exact Qe h4 h1
   rw [h3,h6,h2.unique h5 fun _ _ _ _=>Iff.rfl]
def Zbe {Q:Nat->Option Cut->Prop} (h:∀{k o o'},Q k o->Q k o'->o=o') {o o':Option Cut} (h1:Pk Q o) (h2:Pk Q o'):o=o':=by
 rcases h1 with ⟨k,c,hk,h3,h4,rfl⟩|⟨h3,rfl⟩
 . rcases h2 with ⟨j,d,hj,h5,h6,rfl⟩|⟨h5,rfl⟩
   . have:k=j:=by
      rcases VB k j with h7|h7|h7
      . cases h h4 (h5 k h7)
      . exact h7
      cases h h6 (h3 j h7)
     subst this;exact h h4 h6
   cases h h4 (h5 k hk)
 rcases h2 with ⟨j,d,hj,h5,h6,rfl⟩|⟨h5,rfl⟩
 . cases h h6 (h3 j hj)
 rfl
def ZjJ (r:Int->Int->Bool) (l:List Int):Nat->List Int->List Int
 |0,c=>c
 |k+1,c=>ZjJ r l k (c++l.filter fun y=>c.any fun x=>r x y||r y x)
def Hp {r:Int->Int->Bool} {l:List Int} {a:Int}:∀(k:Nat) (c:List Int),(∀x∈c,x∈l/\Conn l r a x)->∀x∈ZjJ r l k c,x∈l/\Conn l r a x
 |0,c,h=>h
 | k +1,c,h=>by
   rw [ZjJ];refine Hp k _ fun x hx=>?_;rcases XD.1 hx with hx|hx
   . exact h x hx
   obtain ⟨h1,h2⟩:=XF.1 hx;obtain ⟨y,hy,h3⟩:=X2.1 h2;rw [Vj] at h3;exact ⟨h1,(h y hy).2.trans (Conn.step (h y hy).1 h1 h3)⟩
def ZhY (l:List Int) (r:Int->Int->Bool) (cs:List (List Int)):Bool:=
 l.all (fun x=>cs.flatten.contains x)&&cs.flatten.all (fun x=>l.contains x)&&decide cs.flatten.Nodup&&cs.all (fun c=> !c.isEmpty)&&cs.all (fun c=>decide (c.Pairwise (· < ·)))&&
  cs.all (fun c=>c.all fun x=>(ZjJ r l c.length (c.take 1)).contains x)&&cs.all (fun c=>c.all fun x=>l.all fun y=> !(r x y||r y x)||c.contains y)&&decide ((cs.map YI).Pairwise (· < ·))
def LO {l:List Int} {r:Int->Int->Bool} {cs:List (List Int)} (h:ZhY l r cs=true):Comps l r cs:=by
 unfold ZhY at h
 simp only [Xf,Xj,U',List.contains_iff_mem] at h
 obtain ⟨⟨⟨⟨⟨⟨⟨h1,h2⟩,h3⟩,h4⟩,h5⟩,h6⟩,h7⟩,h8⟩:=h
 refine ⟨fun x=>⟨h2 x,h1 x⟩,h3,fun c hc he=>?_,h5,fun c hc x hx y hy=>?_,fun c hc x hx y hy hr=>?_,?_⟩
 . have:=h4 c hc;rw [he] at this;simp at this
 . have hin:∀z∈c.take 1,z∈l/\Conn l r (YI c) z:=fun z hz=>by
    cases c with
    |nil=>simp at hx
    | cons a c=>
      rw [UF,Um,XE] at hz;subst hz;exact ⟨h2 z (XQ.2 ⟨_,hc,Xu ..⟩),Conn.refl l r z⟩
   have g1:=(Hp c.length _ hin x (h6 c hc x hx)).2;have g2:=(Hp c.length _ hin y (h6 c hc y hy)).2;exact g1.symm.trans g2
 . have:=h7 c hc x hx y hy;rw [Vj,Bool.not_eq_true',UD] at this;rcases this with ⟨g1,g2⟩|g
   . rcases hr with hr|hr
     . rw [g1] at hr;cases hr
     rw [g2] at hr;cases hr
   exact List.contains_iff_mem.1 g
 rw [X7] at h8;refine h8.imp fun {c d} h x y hx hy=>?_;unfold YI at h;rw [List.head?_eq_getElem?] at hx hy;rw [hx,hy] at h;exact h
def Y6 (l:List Var):List Var:=l.map fun v=>⟨v.acts,1⟩
def LP (l:List Var):(Y6 l).length=l.length:=by unfold Y6;rw [Xc]
def Rz {l:List Var} (h:validVars l=true):validVars (Y6 l)=true:=by
 have h3:l.length<=300:=by
  unfold validVars at h;rw [Xf] at h;exact Qf h.1
 refine Es (by rw [LP];exact h3) (X7.2 (Et h)) fun v hv=>?_
 unfold Y6 at hv
 obtain ⟨x,hx,rfl⟩:=Xp.1 hv
 have:=TE h x hx
 unfold Kc at this ⊢
 simp only [Xf,U'] at this ⊢
 exact ⟨⟨this.1.1,oM⟩,oM⟩
structure GoodL (l:List Var):Prop where
 val:validVars l=true
 one:∀v∈l,v.count=1
 few:sumV (fun x=>x.acts.length) l<=300
 act:(makeM l).a.length<=40
def DO {s:BA} {l:List Var}:s∈(makeM l).a.map (·.1)↔∃x∈l,s∈x.acts:=by
 constructor
 . intro h;have aux:∀(l:List Var) (st:M4),s∈(l.foldl mk1 st).a.map (·.1)->s∈st.a.map (·.1)\/∃x∈l,s∈x.acts:=fun l=>by
    induction l with
    |nil=>exact fun st h=> .inl h
    | cons x l ih=>
      intro st h;rcases ih _ h with h|⟨y,hy,h⟩
      . rcases WW.1 h with h|h
        . exact .inr ⟨x,Xu ..,h⟩
        exact .inl h
      exact .inr ⟨y,Xt _ hy,h⟩
   rcases aux l _ h with h|h
   . simp at h
   exact h
 rintro ⟨x,hx,hs⟩;exact ZrH hx hs
def RA {l:List Var} (h:validVars l=true):((makeM l).a.map (·.1)).Nodup:=(ZdR h).a.nd
def Ly (l:List Var):Nat:=match l with|x::_=>if x.acts=[] then 1 else 0|[]=>0
def ZbG (l:List Var):Nat:=2*(makeM l).a.length+Ly l
def ZbH (l:List Var):Ly l<=1:=by
 unfold Ly;split
 . split<;>omega
 omega
def Hq {α:Type} [DecidableEq α] {l m:List α} (h:l.Nodup) (hs:∀x∈l,x∈m):l.length<=m.length:= @JP α instBEqOfDecidableEq inferInstance l m h hs
def ZqU {l:List Var} (h:validVars l=true) {p:List BA} (hp:∀x∈l,∀s∈x.acts,s∈p):(makeM l).a.length<=p.length:=by
 have:=Hq (RA h) (m:=p) fun s hs=>by
  obtain ⟨x,hx,h⟩:=DO.1 hs;exact hp x hx s h
 rw [Xc] at this
 exact this
def Zl3 {x:Var} {l:List Var} (h:GoodL (x::l)) (hx:x.acts=[]):GoodL l/\ZbG l<ZbG (x::l):=by
 have hpw:=Et h.val
 have h1:=Xy.1 hpw
 have h3:(x::l).length<=300:=by
  have:=h.val;unfold validVars at this;rw [Xf] at this;exact Qf this.1
 rw [Xh] at h3
 have hv:validVars l=true:=Es oM h1.2 fun v hv=>TE h.val v (Xt _ hv)
 have hk:(makeM l).a.length=(makeM (x::l)).a.length:=by
  have e1:∀s,s∈(makeM l).a.map (·.1)↔s∈(makeM (x::l)).a.map (·.1):=fun s=>by
   rw [DO,DO];constructor
   . rintro ⟨y,hy,hs⟩;exact ⟨y,Xt _ hy,hs⟩
   rintro ⟨y,hy,hs⟩;rcases Xi.1 hy with rfl|hy
   . rw [hx] at hs;simp at hs
   exact ⟨y,hy,hs⟩
  have g1:=Hq (RA hv) fun s hs=>(e1 s).1 hs;have g2:=Hq (RA h.val) fun s hs=>(e1 s).2 hs;rw [Xc,Xc] at g1 g2;omega
 have hf:=h.few
 rw [SC] at hf
 refine ⟨⟨hv,fun v hv=>h.one v (Xt _ hv),oM,by rw [hk];exact h.act⟩,?_⟩
 unfold ZbG
 rw [hk]
 have e1:Ly (x::l)=1:=by unfold Ly;dsimp only;rw [Qd hx]
 have e2:Ly l=0:=by
  unfold Ly
  cases l with
  |nil=>rfl
  | cons y l=>
    dsimp only;have:=h1.1 y (Xu ..);rw [Qc fun hy=>by rw [hx,hy] at this;rw [cmpStrs] at this;omega]
 rw [e1,e2];omega
def ZoN {l:List Var} (h:validVars l=true) {x:Var} (hx:l[0]? =some x) (hne:x.acts≠[]):∀y∈l,y.acts≠[]:=by
 cases l with
 |nil=>simp at hx
 | cons z l=>
   cases hx;intro y hy he;rcases Xi.1 hy with rfl|hy
   . exact hne he
   have:=(Xy.1 (Et h)).1 y hy;rw [he] at this
   cases hx:x.acts with
   |nil=>exact hne hx
   |cons a t=>rw [hx,cmpStrs] at this;omega
def ZsI {n a:Int} (h1:1<=n) (h2:0<=a):a<=n*a:=by
 have:=U7 h1 h2
 omega
def ZdX {f:List BA->Int} (hf:∀w,0<=f w):∀{r:List Var},(∀v∈r,1<=v.count)->0<=wtR f r/\sumV (fun v=>f v.acts) r<=wtR f r/\∀v∈r,v.count*f v.acts<=wtR f r
 |[],_=>by unfold wtR sumV;simp
 | x::r,h=>by
   obtain ⟨h1,h2,h3⟩:=ZdX hf (r:=r) fun v hv=>h v (Xt _ hv);have h4:=ZsI (h x (Xu ..)) (hf x.acts);have h5:=hf x.acts;rw [S9,SC];refine ⟨oM,oM,fun v hv=>?_⟩;rcases Xi.1 hv with rfl|hv
   . omega
   have:=h3 v hv;omega
def ZjK {f:Int->List BA->Int} (hf:∀k w,0<=f k w):∀{out:List (List Var)} {k0:Nat},(∀r∈out,∀v∈r,1<=v.count)->0<=wtO f k0 out/\∀(i:Nat) (r:List Var),out[i]? =some r->wtR (f ((k0+i:Nat):Int)) r<=wtO f k0 out
 |[],k0,_=>⟨Uj _,fun i r h=>by simp at h⟩
 | r0 ::out,k0,h=>by
   obtain ⟨h1,h2⟩:=ZjK hf (out:=out) (k0:=k0+1) fun r hr=>h r (Xt _ hr);have h3:=(ZdX (f:=f k0) (hf k0) (h r0 (Xu ..))).1;rw [wtO];refine ⟨oM,fun i r hr=>?_⟩
   cases i with
   |zero=>cases hr;show wtR (f ((k0:Nat):Int)) r0<=_;omega
   | succ i=>
     rw [XV] at hr;have:=h2 i r hr;rw [show k0+1+i=k0+(i+1) by omega] at this;omega
def Zl4 {l:List Var} {g:Dfg} {c:Cut} {kd:Int} {cs:List (List Int)} {out:List (List Var)} (h:GoodL l) (hg:T4 g (makeM l)) (hc:c=⟨kd,ZB (cnames g.acts) cs⟩)
 (hF:Ry (cnames g.acts) (W3 (cnames g.acts) g.follows) (Y5 (cnames g.acts) g.starts) (Y5 (cnames g.acts) g.ends) kd cs) (hS:SplitG l c out) {r:List Var} (hr:r∈out):bigVars r=false/\validVars r=true/\GoodL (Y6 r)/\ZbG (Y6 r)<ZbG l:=by
 have hsum:sumV (fun x=>x.count*x.acts.length) l=sumV (fun x=>x.acts.length) l:=by
  unfold sumV;refine congrArg List.sum (VV fun v hv=>?_);rw [h.one v hv,Int.one_mul]
 have hcnt:∀v∈r,1<=v.count:=fun v hv=>(hS.wds r hr v hv).2
 have hb:bigVars r=false:=by
  cases hb:bigVars r
  . rfl
  obtain ⟨v,hv,h1⟩:=X2.1 hb;have h2:=(ZdX (f:=fun _=>1) (fun _=>dC) hcnt).2.2 v hv;have h3:=hS.tot r hr;have h4:=h.few;rw [hsum] at h3;have h5:=Qf h1;omega
 have hv:=hS.val r hr hb
 have hov:=Rz hv
 obtain ⟨k,hk⟩:=XM hr
 obtain ⟨p,hp⟩:=get_some (show k<c.parts.length by rw [<-hS.len];exact (Xk.1 hk).1)
 have hin:∀x∈Y6 r,∀s∈x.acts,s∈p:=fun x hx s hs=>by
  unfold Y6 at hx;obtain ⟨v,hv,rfl⟩:=Xp.1 hx;obtain ⟨p',hp',h1⟩:=hS.inn k r hk v hv s hs;rw [hp] at hp';cases hp';exact h1
 have hkl:=ZqU hov hin
 have hn:(makeM l).a.length=(cnames g.acts).length:=by
  have:=hg.1.1.length_eq;rw [Xc] at this;unfold cnames;rw [Xc,this]
 have hlt:p.length<(cnames g.acts).length:=by
  subst hc;dsimp only at hp;unfold ZB at hp;rw [Xl,XU] at hp;obtain ⟨d,hd,rfl⟩:=hp;rw [Xc,<-ZjA hF.1];have h2:=hF.2.1;have hne:=hF.1.ne;clear hS hkl hin;generalize cs=cs at hd h2 hne;have aux:∀(cs:List (List Int)) (k:Nat) (d:List Int),cs[k]? =some d->(∀c∈cs,c≠[])->d.length+(cs.length-1)<=cs.flatten.length:=fun cs=>by
   induction cs with
   |nil=>intro k d h _;simp at h
   | cons c cs ih=>
     intro k d hd hne;rw [XS,Xe,Xh];have hall:∀(m:List (List Int)),(∀c∈m,c≠[])->m.length<=m.flatten.length:=fun m=>by
      induction m with
      |nil=>intro _;exact Xd _
      | cons a m ihm=>
        intro hm;have h1:=ihm fun c hc=>hm c (Xt _ hc);have h2:0<a.length:=X5.2 (hm a (Xu ..));rw [XS,Xe,Xh];omega
     cases k with
     | zero=>
       cases hd;have:=hall cs fun c hc=>hne c (Xt _ hc);omega
     | succ k=>
       rw [XV] at hd;have h1:=ih k d hd fun c hc=>hne c (Xt _ hc);have h2:0<c.length:=X5.2 (hne c (Xu ..));have h3:=(Xk.1 hd).1;omega
  have:=aux cs k d hd hne;omega
 have hfew:sumV (fun x=>x.acts.length) (Y6 r)<=300:=by
  have e1:sumV (fun x=>(x.acts.length:Int)) (Y6 r)=sumV (fun x=>x.acts.length) r:=by unfold sumV Y6;rw [XB];rfl
  rw [e1];have h1:=(ZdX (f:=fun w=>(w.length:Int)) (fun _=>oM) hcnt).2.1;have h2:=(ZjK (f:=fLen) (fun _ _=>by unfold fLen;omega) (out:=out) (k0:=0) fun r hr v hv=>(hS.wds r hr v hv).2).2 k r hk;have h3:wtR (fun w=>(w.length:Int)) r<=wtO fLen 0 out:=h2;rw [hS.acts,hsum] at h3;have:=h.few;omega
 refine ⟨hb,hv,⟨hov,fun v hv=>?_,hfew,?_⟩,?_⟩
 . unfold Y6 at hv;obtain ⟨x,_,rfl⟩:=Xp.1 hv;rfl
 . have:=h.act;omega
 unfold ZbG;have:=ZbH (Y6 r);omega
def Gj:Gk prog 28=some ((.agg #[(.slice none 0 0),(.int .i64 0)]),([0,1]:List Nat).map fun o=>(o,1)):=kR
def Jg (l:List Var):Option Nd:=match l with
 |[]=>some sil
 | [x]=>match x.acts with
   |[]=>some sil
   |[s]=>some (lf s)
   |_=>none
 |_=>none
def ZcU {l:List Var} (h:l.length=0\/∃x,l[0]? =some x/\l.length=1/\x.acts.length=0):Jg l=some sil:=by
 rcases h with h|⟨x,hx,h1,h2⟩
 . have:=Xv h;subst this;rfl
 obtain ⟨y,rfl⟩:=Uf.1 h1
 cases hx;have:=Xv h2;unfold Jg;dsimp only;rw [this]
def Zgg {l:List Var} {x:Var} {s:BA} (hx:l[0]? =some x) (h1:l.length=1) (h2:x.acts=[s]):Jg l=some (lf s):=by
 obtain ⟨y,rfl⟩:=Uf.1 h1
 cases hx
 unfold Jg;dsimp only;rw [h2]
def Zbf {l:List Var} (h0:l.length≠0) (h:l.length=1->∀x,l[0]? =some x->2<=x.acts.length):Jg l=none:=by
 match l with
 |[]=>simp at h0
 | [x]=>
   have:=h rfl x rfl;unfold Jg;dsimp only;match hx:x.acts with
   |[]=>rw [hx] at this;simp at this
   |[s]=>rw [hx] at this;simp at this
   |_::_::_=>rfl
 |_::_::_=>rfl
def Sc (l:List Var):PV:=match Jg l with
 |some t=> .tup [pTr t,Zr true]
 |none=> .tup [JA,Zr false]
def Zl5:AF prog 85 [ZV []] (· =Sc []):=by
 refine AF.b1 42 func85 rfl ntmps85 (Xa rfl) fun w0 M0 v0 _=>?_
 refine Zi ?_
 refine Zt zT 3 2 Yh fun h2=>?_;refine ZW ?_
 (refine xL 5 Za (xL 6 (Zu Zv) (xL 7 Jb (xL 8 Za ?_)))<;>refine kL ?_<;>refine kL ?_<;>refine kL ?_<;>refine kL ?_<;>refine kL ?_<;>refine kL ?_<;>refine kL ?_<;>refine kL ?_<;>refine kL ?_<;>refine kL ?_<;>refine kL ?_<;>refine W2 ?_)<;>(try (exact Qe rfl hb8))<;>(
 refine cX ?_ ?_<;>intro hb4
 . (
 refine Zi ?_;refine cD (cA call121 Pf) fun v21 hv21=>?_;clear hv21;refine Zn 2 Zj ?_;refine ZD ?_;exact ZN (k:=3) 2 results85 rfl)
 exact bN hb4)
def ZhZ (x:Var) (l:List Var):AF prog 85 [ZV (x::l)] (· =Sc (x::l)):=by
 have e1:((x::l).flatMap YL)[0*2+0]? =some (ZX x.acts):=rfl
 have e2:0*2+2<=((x::l).flatMap YL).length:=by rw [Xq,Xe];show 2<=2+_;omega
 have e3:0<(x::l).length:=Vc _
 refine AF.b1 42 func85 rfl ntmps85 (Xa rfl) fun w0 M0 v0 _=>?_
 refine Zi ?_
 refine Zt zT 3 2 Yh fun h2=>?_;refine ZW ?_
 (refine xL 5 Za (xL 6 (Zu Zv) (xL 7 Jb (xL 8 Za (xL 9 Za (xL 10 (Zu Zv) (xL 11 Jb (xL 12 Za ?_)))))))<;>(refine bLd 12 (fun hb12=>?_) (fun hb12=>?_)<;>refine kZ ?_)<;>(first|refine kL ?_|refine xM (Ze Zv) ?_)<;>(first|refine kL ?_|refine xM (Yg Z8) ?_)<;>(first|refine kL ?_|refine yU (Zw ZG) fun v16=>?_)<;>(first|refine kL ?_|refine xM (Zu Zo) ?_)<;>refine kZ ?_<;>refine Zip ?_)<;>(
 refine cX ?_ ?_<;>intro hb4
 . first|exact bN hb4|(
 refine Zi ?_;refine cD (cA call121 Pf) fun v21 hv21=>?_;clear hv21;refine Zn 2 Zj ?_;refine ZD ?_;refine ZN (k:=3) 2 results85 ?_;unfold Sc;rw [ZcU (.inr ⟨x,rfl,oM,oM⟩)];rfl)
 refine Zi ?_;(refine xL 23 Za (xL 24 (Zu Zv) (xL 25 Jb (xL 26 Za ?_)))<;>(refine bLd 26 (fun hb26=>?_) (fun hb26=>?_)<;>refine kZ ?_)<;>(first|refine kL ?_|refine xM (Ze Zv) ?_)<;>(first|refine kL ?_|refine xM (Yg Z8) ?_)<;>(first|refine kL ?_|refine yU (Zw ZG) fun v30=>?_)<;>(first|refine kL ?_|refine xM (Zu Zo) ?_)<;>refine KR ?_)<;>(
 refine cX ?_ ?_<;>intro hb22
 . first|exact bN hb22|(
 obtain ⟨s,hs⟩:∃s,x.acts=[s]:=Uf.1 oM;(have e4:(x.acts.map Zx)[0]? =some (Zx s):=by rw [hs];rfl);have e5:0<x.acts.length:=oM;refine Zi ?_;refine xL 34 Za (xL 35 (Ze Zv) (xL 36 (Yg Z8) ?_));refine yU (Zw ZG) fun v37=>?_;refine xM (Ze Zo) ?_;refine yV (Zw ZE) ?_;refine cD (cA call131 (ZiX s)) fun v40 hv40=>?_;clear hv40;refine Zn 2 Zj ?_;refine ZD ?_;refine ZN (k:=3) 2 results85 ?_;unfold Sc;rw [Zgg (x:=x) (s:=s) rfl oM hs];rfl)
 refine Zi ?_;refine xM (ZA YB) ?_;refine Zn 2 Zj ?_;refine ZD ?_;refine ZN (k:=3) 2 results85 ?_;unfold Sc;rw [Zbf sM fun h1 y hy=>by cases hy;omega];rfl))
def ZqV (l:List Var):AF prog 85 [ZV l] (· =Sc l):=by
 cases l with
 |nil=>exact Zl5
 |cons x l=>exact ZhZ x l
def Zgh:AF prog 32 [ZV []] (· =Sc []):=by
 refine AF.b1 40 func32 rfl ntmps32 (Xa rfl) fun w0 M0 v0 _=>?_
 refine Zi ?_
 refine Zt zT 3 2 Yh fun h2=>?_;refine ZW ?_
 (refine xL 4 Za (xL 5 (Zu Zv) (xL 6 Jb (xL 7 Za ?_)))<;>refine kL ?_<;>refine kL ?_<;>refine kL ?_<;>refine kL ?_<;>refine kL ?_<;>refine kL ?_<;>refine kL ?_<;>refine kL ?_<;>refine kL ?_<;>refine kL ?_<;>refine kL ?_<;>refine ZD ?_)<;>(try (exact Qe rfl hb7))<;>(
 refine cX ?_ ?_<;>intro hb19
 . (
 refine Zi ?_;refine cD (cA call90 TY) fun v20 hv20=>?_;clear hv20;refine Zn 2 Zj ?_;refine ZD ?_;exact ZN (k:=3) 2 results32 rfl)
 exact bN hb19)
def ZdY (x:Var) (l:List Var):AF prog 32 [ZV (x::l)] (· =Sc (x::l)):=by
 have e1:((x::l).flatMap YL)[0*2+0]? =some (ZX x.acts):=rfl
 have e2:0*2+2<=((x::l).flatMap YL).length:=by rw [Xq,Xe];show 2<=2+_;omega
 have e3:0<(x::l).length:=Vc _
 refine AF.b1 40 func32 rfl ntmps32 (Xa rfl) fun w0 M0 v0 _=>?_
 refine Zi ?_
 refine Zt zT 3 2 Yh fun h2=>?_;refine ZW ?_
 (refine xL 4 Za (xL 5 (Zu Zv) (xL 6 Jb (xL 7 Za (xL 8 Za (xL 9 (Zu Zv) (xL 10 Jb (xL 11 Za ?_)))))))<;>(refine bLd 11 (fun hb11=>?_) (fun hb11=>?_)<;>refine kZ ?_)<;>(first|refine kL ?_|refine xM (Ze Zv) ?_)<;>(first|refine kL ?_|refine xM (Yg Z8) ?_)<;>(first|refine kL ?_|refine yU (Zw ZG) fun v15=>?_)<;>(first|refine kL ?_|refine xM (Zu Zo) ?_)<;>refine KR ?_)<;>(
 refine cX ?_ ?_<;>intro hb19
 . first|exact bN hb19|(
 refine Zi ?_;refine cD (cA call90 TY) fun v20 hv20=>?_;clear hv20;refine Zn 2 Zj ?_;refine ZD ?_;refine ZN (k:=3) 2 results32 ?_;unfold Sc;rw [ZcU (.inr ⟨x,rfl,oM,oM⟩)];rfl)
 refine Zi ?_;(refine xL 21 Za (xL 22 (Zu Zv) (xL 23 Jb (xL 24 Za ?_)))<;>(refine bLd 24 (fun hb24=>?_) (fun hb24=>?_)<;>refine kZ ?_)<;>(first|refine kL ?_|refine xM (Ze Zv) ?_)<;>(first|refine kL ?_|refine xM (Yg Z8) ?_)<;>(first|refine kL ?_|refine yU (Zw ZG) fun v28=>?_)<;>(first|refine kL ?_|refine xM (Zu Zo) ?_)<;>refine WF ?_)<;>(
 refine cX ?_ ?_<;>intro hb31
 . first|exact bN hb31|(
 obtain ⟨s,hs⟩:∃s,x.acts=[s]:=Uf.1 oM;(have e4:(x.acts.map Zx)[0]? =some (Zx s):=by rw [hs];rfl);have e5:0<x.acts.length:=oM;refine Zi ?_;refine xL 32 Za (xL 33 (Ze Zv) (xL 34 (Yg Z8) ?_));refine yU (Zw ZG) fun v35=>?_;refine xM (Ze Zo) ?_;refine yV (Zw ZE) ?_;refine cD (cA call91 (Zan s)) fun v38 hv38=>?_;clear hv38;refine Zn 2 Zj ?_;refine ZD ?_;refine ZN (k:=3) 2 results32 ?_;unfold Sc;rw [Zgg (x:=x) (s:=s) rfl oM hs];rfl)
 refine Zi ?_;refine xM (ZA YB) ?_;refine Zn 2 Zj ?_;refine ZD ?_;refine ZN (k:=3) 2 results32 ?_;unfold Sc;rw [Zbf sM fun h1 y hy=>by cases hy;omega];rfl))
def ZcV (l:List Var):AF prog 32 [ZV l] (· =Sc l):=by
 cases l with
 |nil=>exact Zgh
 |cons x l=>exact ZdY x l
def Zbg {l:List Var} {k:Nat} {x:Var} (hx:l[k]? =some x):Y6 (l.take (k+1))=Y6 (l.take k)++[⟨x.acts,1⟩]:=by
 unfold Y6;rw [ZR hx,XX];rfl
def ZoO {l:List Var} {k:Nat} {x:Var} (hx:l[k]? =some x):((Y6 (l.take k)++l.drop k).flatMap YL).set (k*2+1) (Zb 1)=(Y6 (l.take (k+1))++l.drop (k+1)).flatMap YL:=by
 have hk:=Zd hx
 have hA:((Y6 (l.take k)).flatMap YL).length=k*2:=by rw [Z1 ZM,LP,XA,Vb oM]
 have hd:l.drop k=x::l.drop (k+1):=by rw [Ve hk];rw [Xr hk] at hx;injection hx with hx;rw [hx]
 rw [Zbg hx,hd,XR,Xq,XR,XR,Vr _ _ oM,hA,show k*2+1-k*2=1 by omega]
 simp [YL]
def ZjL (l:List Var) (hl:l.length<=1000000):AF prog 78 [ZV l] (· =ZV (Y6 l)):=by
 refine AF.b1 18 func78 rfl ntmps78 (Xa rfl) fun w0 M0 v0 _=>?_
 refine PH ?_;refine cO 6 (cA call11 (OY l hl)) fun v6 ho6=>?_;refine ZD ?_
 refine Zs (ZK (l:=6) 200 rfl rfl) fun _=>?_
 refine Zp ?_;refine xL 7 Za (xL 8 (Wu 200 Zv) (xL 9 Za ?_));refine ZZ ?_
 refine Yl (ι:={q:Nat×List PV//q.1<=l.length/\q.2=(Y6 (l.take q.1)++l.drop q.1).flatMap YL}) (fun k=>⟨[(3,_,_),(7,_,_),(8,_,_),(9, .int .i64 k.1.1,Zb k.1.1)],[(200,v6, .own 28 2 l.length k.1.2)]⟩) (fun k=>l.length-k.1.1) ⟨(0,l.flatMap YL),Xg _,rfl⟩ ?_
 rintro ⟨⟨k,row⟩,hk,hr⟩
 dsimp only
 dsimp only at hk hr
 have hrl:row.length=l.length*2:=by rw [hr,Z1 ZM,Xe,LP,XA,Vu];omega
 refine Ys ?_ ?_<;>intro hb10
 . (
 obtain ⟨x,hx⟩:=gS l k;refine Jh ?_;refine xL 12 Za (xL 13 Za (xL 14 (Zk 200 Zv) (xL 15 (Zc 200 YH) ?_)));refine JY 200 Zq Po ?_;refine Ox ?_;refine Yk (
  ⟨(k+1,row.set (k*2+1) (Zb 1)),by show k+1<=l.length;omega,by dsimp only;rw [hr];exact ZoO hx⟩
  ))
 obtain rfl:k=l.length:=oM;(have hr2:row=(Y6 l).flatMap YL:=by rw [hr,Xx,List.drop_length,Xo]);refine ZP ?_;refine YK (En.freeze (l:=200) (t:=2) rfl rfl) fun _=>?_;refine Zg results78 rfl ?_;rw [hr2];exact S3 _ _ _ (LP l).symm
def Cn (l:List Var) (hl:l.length<=1000000):AF prog 125 [ZV l] (· =ZV (Y6 l)):=by
 refine AF.b1 21 func125 rfl ntmps125 (Xa rfl) fun w0 M0 v0 _=>?_
 refine WK ?_;refine KG ?_
 refine Zs (YO 200 28 2 rfl) fun _=>?_
 refine Yl (ι:={x:Nat×Value//x.1<=l.length}) (fun k=>⟨[(0,_,_),(3,k.1.2, .val k.1.2),(4, .int .i64 k.1.1,Zb k.1.1)],[(200,k.1.2, .own 28 2 k.1.1 ((Y6 (l.take k.1.1)).flatMap YL))]⟩) (fun k=>l.length-k.1.1) ⟨(0, .slice none 0 0),oM⟩ ?_
 rintro ⟨⟨k,h3⟩,hk⟩
 dsimp only
 dsimp only at hk
 refine Zi ?_
 refine xL 5 Za (xL 6 Za (xL 7 (Zu Zv) (xL 8 Yn ?_)));refine ZC ?_ ?_<;>intro hb8
 . (
 obtain ⟨x,hx⟩:=gS l k;have e1:(l.flatMap YL)[k*2+0]? =some (ZX x.acts):=Yr ZM hx dC;have e2:=Ww ZM hx;(have e3:((Y6 (l.take k)).flatMap YL).length=k*2:=by rw [Z1 ZM,LP,XA,Vb hk]);refine Zi ?_;refine xL 11 Za (xL 12 Za (xL 13 Za (xL 14 (Ze Zv) (xL 15 (Yg Z8) ?_))));refine yU (Zw ZG) fun v16=>?_;refine xM (ZA Gj) ?_;refine Wy 18 WI fun h18 ho18=>?_;refine Y7 200 18 19 WI fun h19 ho19=>?_;refine KQ ?_;refine ZJ (ZK (l:=19) 200 rfl rfl) fun _=>?_;rw [show (Y6 (l.take k)).flatMap YL++_=(Y6 (l.take (k+1))).flatMap YL by rw [Zbg hx,XR];rfl];refine Yk (
  ⟨(k+1,h19),by show k+1<=l.length;omega⟩
  ))
 obtain rfl:k=l.length:=oM;refine ZP ?_;refine YK (En.freeze (l:=200) (t:=2) rfl rfl) fun _=>?_;refine Zg results125 rfl ?_;rw [Xx];exact S3 _ _ _ (LP l).symm
def g0:Dfg:=⟨[],[],[],[]⟩
def ZoP:Rr Za1 (Ji g0):=Rr.agg rfl fun i a b ha hb=>by
 match i with
 |0=>cases ha;cases hb;exact Rr.nil
 |1=>cases ha;cases hb;exact Rr.nil
 |2=>cases ha;cases hb;exact Rr.nil
 |3=>cases ha;cases hb;exact Rr.nil
 |i+4=>simp [Za1] at ha
def ZcW (e:Int):Rr (.tup [Za1,Zb e]) (.tup [Ji g0,Zb e]):=Rr.tup2 ZoP
def C7 (l:List Var) (g:Dfg) (e:Int):Prop:=(validVars l=false/\g=g0/\e=1)\/(validVars l=true/\40<(makeM l).a.length/\g=g0/\e=5)\/(validVars l=true/\(makeM l).a.length<=40/\T4 g (makeM l)/\e=0)
def ZqW (l:List Var):∃g e,C7 l g e:=by
 cases hv:validVars l with
 |false=>exact ⟨g0,1, .inl ⟨hv,rfl,rfl⟩⟩
 | true=>
   by_cases h:40<(makeM l).a.length
   . exact ⟨g0,5, .inr (.inl ⟨hv,h,rfl,rfl⟩)⟩
   obtain ⟨g,hg⟩:=exG (ZdR hv);exact ⟨g,0, .inr (.inr ⟨hv,oM,hg,rfl⟩)⟩
def ζw {f:Nat} {l:List Var} {g:Dfg} {e:Int} (h:AF prog f [ZV l] (Zou l)) (hm:C7 l g e):AF prog f [ZV l] (· = .tup [Ji g,Zb e]):=by
 rcases hm with ⟨h1,rfl,rfl⟩|⟨h1,h2,rfl,rfl⟩|⟨h1,h2,h3,rfl⟩
 . refine AF.reread (p:= .tup [Za1,Zb 1]) (h.mono fun p hp=>?_) rfl (ZcW 1);rcases hp with ⟨_,hp⟩|⟨h4,_⟩|⟨h4,_⟩
   . exact hp
   . rw [h1] at h4;cases h4
   rw [h1] at h4;cases h4
 . refine AF.reread (p:= .tup [Za1,Zb 5]) (h.mono fun p hp=>?_) rfl (ZcW 5);rcases hp with ⟨h4,_⟩|⟨_,_,hp⟩|⟨_,h4,_⟩
   . rw [h1] at h4;cases h4
   . exact hp
   omega
 refine h.mono fun p hp=>?_;rcases hp with ⟨h4,_⟩|⟨_,h4,_⟩|⟨_,_,g',h4,hp⟩
 . rw [h1] at h4;cases h4
 . omega
 rw [hp,ZdP h4 h3]
def ZoQ {l:List Var} {g:Dfg} (h:C7 l g 0):JM g=true/\validVars l=true/\T4 g (makeM l):=by
 rcases h with ⟨_,_,h⟩|⟨_,_,_,h⟩|⟨h1,h2,h3,_⟩
 . cases h
 . cases h
 exact ⟨ZqQ (ZdR h1) dC (MInv.all (TE h1)) h2 h3,h1,h3⟩
def Zgi {l:List BA} {s:BA} (h:hasStr l s=true):s∈l:=by
 unfold hasStr at h
 obtain ⟨x,hx,hs⟩:=X2.1 h
 rw [<-Y'.1 hs];exact hx
def ZdZ {g:Dfg} (h:JM g=true):Zqp g/\g.acts.length<=1000000/\g.starts.length<=1000000/\g.ends.length<=1000000/\g.follows.length<=1000000:=by
 have hG:=ZsG h
 have h40:=hG.n40
 have h1:=Zjx hG hG.st hG.stA
 have h2:=Zjx hG hG.en hG.enA
 have h3:=hG.flen
 unfold JM JH at h
 simp only [Xf,Xj] at h
 obtain ⟨⟨⟨⟨⟨⟨⟨⟨⟨g1,g2⟩,g3⟩,g4⟩,g5⟩,g6⟩,g7⟩,g8⟩,g9⟩,g10⟩:=h
 have nm:∀s,hasStr (cnames g.acts) s=true->s.size<=140737488355328:=fun s hs=>by
  have:=TO (g2 s (Zgi hs));omega
 have ct:∀n,Ko n=true→-9223372036854775808<=n/\n<=9223372036854775807:=fun n hn=>by
  unfold Ko at hn;simp only [Xf,U'] at hn;omega
 refine ⟨⟨⟨oM,fun c hc=>⟨nm _ (ζv (Xp.2 ⟨c,hc,rfl⟩)),ct _ (g6 c hc)⟩⟩,⟨oM,fun c hc=>⟨nm _ (hG.st c hc),ct _ (g7 c hc)⟩⟩,⟨oM,fun c hc=>⟨nm _ (hG.en c hc),ct _ (g8 c hc)⟩⟩,⟨oM,fun c hc=>?_⟩⟩,oM,oM,oM,oM⟩
 have h5:=g9 c hc
 unfold SU at h5
 simp only [Xf] at h5
 exact ⟨nm _ (hG.fl c hc).1,nm _ (hG.fl c hc).2,ct _ h5.1.1⟩
def TF:NoAgg prog 22=true:=kR
def JX:SlT prog 45 22 1=true:=kR
def Hr (kd:Int) (ts:List Nd):Nd:=if kd=1 then WT 4 ts else if kd=2 then WT 3 ts else if kd=3 then WT 5 ts else
 match ts with
 |a::b::c::l=>WT 6 [a,WT 4 (b::c::l)]
 |l=>WT 6 l
def Zbh {kd:Int} {a:Nd} {l:List Nd} (h:kd≠1/\kd≠2/\kd≠3) (h2:2<(a::l).length):Hr kd (a::l)=WT 6 [a,WT 4 l]:=by
 unfold Hr;rw [Qc h.1,Qc h.2.1,Qc h.2.2]
 match l with
 |[]=>simp at h2
 |[b]=>simp at h2
 |b::c::l=>rfl
def Zbi {kd:Int} {l:List Nd} (h:kd≠1/\kd≠2/\kd≠3) (h2:l.length<=2):Hr kd l=WT 6 l:=by
 unfold Hr;rw [Qc h.1,Qc h.2.1,Qc h.2.2]
 match l with
 |[]=>rfl
 |[_]=>rfl
 |[_,_]=>rfl
 |_::_::_::_=>simp at h2
def Co (l:List Var):Rr (Sc l) (.tup [pTr ((Jg l).getD nd0),Zr (Jg l).isSome]):=by
 unfold Sc
 cases Jg l with
 |none=>exact PR Lh
 |some t=>exact Rr.rfl' _
def Zbj (l:List Var):shD (Sc l)=true:=by
 unfold Sc
 cases Jg l<;>rfl
def ZrI (fT fM fF fS:Nat) (once:List Var->List Var) (lm:List Var) (c0:Option Cut->PV) (t:Nd) (x:Var) (l':List Var):Prop:=
 (x.acts=[]->∃t1,AF prog fT [ZV l'] (· = .tup [pTr t1,Zb 0])/\t=WT 4 [sil,t1])/\
 (x.acts≠[]->∃g:Dfg,AF prog fM [ZV lm] (· = .tup [Ji g,Zb 0])/\g.acts.length<=1000000/\
   ((AF prog fF [Ji g] (· = .tup [J' none,c0 none])/\t=Zcf (cnames g.acts))\/
     ∃ c out ts,AF prog fF [Ji g] (· = .tup [PC c,c0 (some c)])/\AF prog fS [ZV lm,PC c] (· = .tup [Zc7 out,Zb 0])/\ts.length=out.length/\2<=ts.length/\ts.length<=1000000/\(∀r∈out,r.length<=1000000)/\
      (∀(i:Nat) (r:List Var) (u:Nd),out[i]? =some r->ts[i]? =some u->AF prog fT [ZV (once r)] (· = .tup [pTr u,Zb 0]))/\t=Hr c.kind ts))
def ZjM (ts:List Nd) (k:Nat) {x:Nd} (hx:ts[k]? =some x):(ts.take k).flatMap cN++cN x=(ts.take (k+1)).flatMap cN:=by
 rw [ZR hx,XR];simp
def C8 (ts:List Nd) (k:Nat) (h:k<=ts.length):((ts.take k).flatMap cN).length=k*3:=by
 rw [Z1 RL,XA,Vb h]
def Cp (x:Var) (l:List Var):PV.sl ((x::l).length-1) ((((x::l).flatMap YL).drop (1*2)).take (((x::l).length-1)*2))=ZV l:=by
 unfold ZV
 rw [Xq,show 1*2=(YL x).length from rfl,List.drop_left,Xh,UJ,Xs (by rw [Z1 ZM];exact Xd _)]
def Lz (l : List Var) (t : Nd) (hl:l.length<=1000000) (h0:∀u,Jg l=some u->t=u) (h1:∀x l',l=x::l'->Jg l=none->ZrI 77 13 18 20 Y6 l Ru t x l'):AF prog 77 [ZV l] (· = .tup [pTr t,Zb 0]):=by
 have hB:=(ZqV l).reread (Zbj l) (Co l)
 obtain ⟨bt,hbt⟩:∃bt,bt=Jg l:=⟨_,rfl⟩
 rw [<-hbt] at hB
 have eB:∀u:Nd,pTr u= .agg [Zb u.op,Zx u.act,YJ u.l]:=fun _=>rfl
 refine AF.b1 132 func77 rfl ntmps77 (Xa rfl) fun w0 M0 v0 _=>?_
 refine Zi ?_
 refine Zt zT 3 2 Yh fun h2=>?_;refine ZW ?_
 (refine YU ?_ <;> (rcases bt with _|bt<;>(dsimp only [Option.getD,Option.isSome] at hB;refine cP 22 (cA call85 hB) fun va22 vb22 hva22 h=>?_;cases h))<;>refine Y8 ?_<;>refine Zt zT 3 4 Yh fun h4=>?_<;>refine Zn 4 Zj ?_<;>refine ZD ?_)<;>(
 refine Zp ?_;refine Wg ?_ ?_<;>intro hb25
 . first|exact bN hb25|(
 refine Zi ?_;refine yU (Zm 4 Zj) fun v26=>?_;refine Zn 2 Zj ?_;refine ZD ?_;refine ZN (k:=3) 2 results77 ?_;rw [h0 _ hbt.symm];rfl)
 . first | exact bN hb25 | (
 (obtain ⟨x,l',rfl⟩:∃x l',l=x::l':=by cases l with|nil=>cases hbt|cons x l'=>exact ⟨x,l',rfl⟩);obtain ⟨h2,h3⟩:=h1 x l' rfl hbt.symm;have e1:((x::l').flatMap YL)[0*2+0]? =some (ZX x.acts):=rfl;(have e2:0*2+2<=((x::l').flatMap YL).length:=by rw [Xq,Xe];show 2<=2+_;omega);have e3:0<(x::l').length:=Vc _;have hcl:((x::l').flatMap YL).length=(x::l').length*2:=Z1 ZM _;refine Zi ?_;refine xL 27 Za (xL 28 (Ze Zv) (xL 29 (Yg Z8) ?_));refine yU (Zw ZG) fun v30=>?_;refine xL 31 (Zu Zo) (xL 32 Jb ?_);refine ZC ?_ ?_<;>intro hb32
 . (
 obtain ⟨t1,hT1,ht⟩:=h2 (Xv oM);refine Wp ?_;refine xM (Wd (i:=1) (j:=(x::l').length) Zv rfl rfl rfl rfl (Vc _) (Xd _) hcl) ?_;refine Zz (Ki (t:=35) (p':=ZV l') rfl (Cp x l')) fun _=>?_;refine cP 36 (cA call77 hT1) fun va36 vb36 hva36 hvb36=>?_;cases hvb36;refine Y8 ?_;refine Zt zT 3 6 Yh fun h6=>?_;refine Zn 6 Zj ?_;refine ZD ?_;refine Yx [] [6] ?_<;>(refine yD 1 rfl (Zm 6 Zj) fun v40 h=>?_;cases h)<;>refine gDx 4 ?_<;>(refine ZY 0 kR ?_)<;>(refine Ym (d:=39) rfl (cA call121 Pf) fun v39 h=>?_;cases h)<;>(refine aDr 2 fun bk=>?_)<;>(refine J5 (kk:=3) (xs:=[_,_]) (cs:=[[_,_,_],[_,_,_]]) 41 Kf fun h41 ho41=>?_;refine Zz (En.freeze (l:=41) (t:=41) rfl rfl) fun _=>?_;refine Zz (Ki (t:=41) (p':=YJ [sil,t1]) rfl (Eq.trans (show _=PV.sl 2 ([sil,t1].flatMap cN) from rfl) (GB sil t1))) fun _=>?_)<;>refine bE bk ?_<;>(refine ZY 3 kR ?_)<;>(refine Ym (d:=42) rfl (cA call120 (TJ 4 [sil,t1])) fun v42 h=>?_;cases h)<;>(refine aDr 5 fun bk=>?_)<;>refine Zn 2 Zj ?_<;>refine bE bk ?_<;>refine gEx 6 ?_<;>refine Wo ?_;refine ZN (k:=3) 2 results77 ?_;rw [ht];rfl)
 obtain ⟨g,hM,hgl,hFS⟩:=h3 (fun h=>hb32 (by rw [h];rfl));refine Wp ?_;refine cP 46 (cA call13 hM) fun va46 vb46 hva46 hvb46=>?_;cases hvb46;refine Y8 ?_;refine Zt [(.slice none 0 0),(.slice none 0 0),(.slice none 0 0),(.slice none 0 0)] 4 8 JW fun h8=>?_;refine Zn 8 Yu ?_;refine JG ?_;refine xL (v:= .bool false) (p:= .val (.bool false)) 50 (T' (a:=0) (b:=0)) ?_;refine ZC ?_ ?_<;>intro hb50
 . exact bN hb50
 refine Zi ?_;(refine yU (Zm 8 Yu) fun v54=>?_<;>(rcases hFS with ⟨hF,ht⟩|⟨c,out,ts,hF,hS,hts,hts2,htl,hol,hT,ht⟩<;>(dsimp only [J',Ru,PC] at hF;refine cP 55 (cA call18 hF) fun va55 vb55 hva55 h=>?_;cases h))<;>refine Y8 ?_<;>refine Zt [(.int .i64 0),(.slice none 0 0)] 2 10 WZ fun h10=>?_<;>refine Zn 10 Z6 ?_<;>refine ZD ?_)<;>(
 refine J2 ?_<;>(first|refine xL (v:= .bool true) (p:= .val (.bool true)) 59 (T' (a:=10) (b:=0)) ?_|refine xL (v:= .bool false) (p:= .val (.bool false)) 59 (T' (a:=0) (b:=0)) ?_)<;>refine ZZ ?_;refine cX ?_ ?_<;>intro hb59
 . first |exact bN hb59|(
 refine WK ?_;refine xM (Zc 8 KL) ?_;refine yU (Zf 8 YN) fun v61=>?_;refine xL 62 (Zu YA) (xL 63 Za ?_);refine ZZ ?_;refine Zs (YO 200 9 1 rfl) fun _=>?_;refine Yl (ι:={x:Nat×Value//x.1<=g.acts.length}) (fun k=>⟨[(2,_,_),(61,_,_),(62,_,_),(11,k.1.2, .val k.1.2),(63, .int .i64 k.1.1,Zb k.1.1)],[(2,_,_),(200,k.1.2, .own 9 1 k.1.1 ((cnames (g.acts.take k.1.1)).map Zx))]⟩) (fun k=>g.acts.length-k.1.1) ⟨(0, .slice none 0 0),oM⟩ ?_;rintro ⟨⟨k,h11⟩,hk⟩;dsimp only;dsimp only at hk;refine Ys ?_ ?_<;>intro hb64
 . (
 obtain ⟨y,hy⟩:=gS g.acts k;have e4:=Y4 YM g.acts k y hy;have e5:=Ww YM hy;(have e6:((cnames (g.acts.take k)).map Zx).length=k:=by simp [cnames];omega);refine Zi ?_;refine xM (Ze YA) ?_;refine yU (We KI) fun v66=>?_;refine Zt [(.string ByteArray.empty),(.int .i64 0)] 2 13 SS fun h13=>?_;refine Zn 13 KI ?_;refine YT ?_;refine xL 67 Za (xL 68 (Zc 13 WP) ?_);refine yV (Zf 13 ZE) ?_;refine WE (kk:=1) 70 YX fun h70 ho70=>?_;refine Y7 200 70 71 YX fun h71 ho71=>?_;refine J1 ?_;refine ZJ (ZK (l:=71) 200 rfl rfl) fun _=>?_;rw [show (cnames (g.acts.take k)).map Zx++[Zx y.name]=(cnames (g.acts.take (k+1))).map Zx by rw [T0 hy,XX];rfl];refine Yk (
  ⟨(k+1,h71),by show k+1<=g.acts.length;omega⟩
  ))
 obtain rfl:k=g.acts.length:=oM;rw [Xx];refine nav ?_;refine Zs (En.freeze (l:=200) (t:=11) rfl rfl) fun _=>?_;rw [J6,show PV.sl g.acts.length ((cnames g.acts).map Zx)=ZX (cnames g.acts) by unfold ZX cnames;rw [Xc]];refine J2 ?_;refine cD (cA call87 (ZkP (cnames g.acts) (by unfold cnames;rw [Xc];exact hgl))) fun v74 hv74=>?_;clear hv74;refine Zn 2 Zj ?_;refine ZD ?_;refine ZN (k:=3) 2 results77 ?_;rw [ht];rfl)
 . first | exact bN hb59|(
 refine Wp ?_;refine yU (Zm 10 Z6) fun v77=>?_;refine cP 78 (cA call20 hS) fun va78 vb78 hva78 hvb78=>?_;cases hvb78;refine Ts ?_;refine YU ?_;refine xL (v:= .bool false) (p:= .val (.bool false)) 82 (T' (a:=0) (b:=0)) ?_;refine ZC ?_ ?_<;>intro hb82
 . exact bN hb82
 refine WK ?_;refine xL 84 Za (xL 85 (Zu JX) (xL 86 Za ?_));refine ZZ ?_;refine Zs (YO 201 51 3 rfl) fun _=>?_;refine Yl (ι:={x:Nat×Value//x.1<=out.length}) (fun k=>⟨[(2,_,_),(10,_,_),(84,_,_),(85,_,_),(15,k.1.2, .val k.1.2),(86, .int .i64 k.1.1,Zb k.1.1)],[(2,_,_),(10,_,_),(201,k.1.2, .own 51 3 k.1.1 ((ts.take k.1.1).flatMap cN))]⟩) (fun k=>out.length-k.1.1) ⟨(0, .slice none 0 0),oM⟩ ?_;rintro ⟨⟨k,h15⟩,hk⟩;dsimp only;dsimp only at hk;refine Ys ?_ ?_<;>intro hb87
 . (
 obtain ⟨r,hr⟩:=gS out k;obtain ⟨u,hu⟩:=gS ts k;have e4:=Yf (f:=ZV) hr;have e5:=C8 ts k oM;have hTu:=hT k r u hr hu;refine Zi ?_;refine xM (Ze JX) ?_;refine yU (Zw TF) fun v89=>?_;refine JG ?_;refine cU (cA call78 (ZjL r (hol r (Xb hr)))) fun v92=>?_;refine cP 93 (cA call77 hTu) fun va93 vb93 hva93 hvb93=>?_;cases hvb93;refine Y8 ?_;refine Zt zT 3 18 Yh fun h18=>?_;refine Zn 18 Zj ?_;refine JG ?_;refine xL (v:= .bool false) (p:= .val (.bool false)) 97 (T' (a:=0) (b:=0)) ?_;refine ZC ?_ ?_<;>intro hb97
 . exact bN hb97
 refine Wp ?_;refine yU (Zm 18 Zj) fun v101=>?_;refine Wy 102 Kf fun h102 ho102=>?_;refine Y7 201 102 103 Kf fun h103 ho103=>?_;refine J1 ?_;refine ZJ (ZK (l:=103) 201 rfl rfl) fun _=>?_;refine ZJ (Wm (l:=201) rfl (show PV.own 51 3 (k+1) ((ts.take k).flatMap cN++cN u)=PV.own 51 3 (k+1) ((ts.take (k+1)).flatMap cN) by rw [ZjM ts k hu])) fun _=>?_;refine Yk (
  ⟨(k+1,h103),by show k+1<=out.length;omega⟩
  ))
 obtain rfl:k=out.length:=oM;rw [show ts.take out.length=ts by rw [<-hts];exact Xx];refine nav ?_;refine Zs (En.freeze (l:=201) (t:=15) rfl rfl) fun _=>?_;rw [<-W5,JK _ _ _ hts.symm];refine Zp ?_;refine xM (Zc 10 Ju) ?_;refine yV (Zf 10 Zq) ?_;refine YT ?_;refine Wv ?_ ?_<;>intro hb107
 . (
 refine Wp ?_;refine cD (cA call120 (TJ 4 ts)) fun v110 hv110=>?_;clear hv110;refine Zn 2 Zj ?_;refine ZD ?_;refine ZN (k:=3) 2 results77 ?_;rw [ht];unfold Hr;rw [Qd oM];rfl)
 refine W8 ?_ ?_<;>intro hb111
 . (
 refine Wp ?_;refine cD (cA call120 (TJ 3 ts)) fun v114 hv114=>?_;clear hv114;refine Zn 2 Zj ?_;refine ZD ?_;refine ZN (k:=3) 2 results77 ?_;rw [ht];unfold Hr;rw [Qc oM,Qd oM];rfl)
 refine W8 ?_ ?_<;>intro hb115
 . (
 refine Wp ?_;refine cD (cA call120 (TJ 5 ts)) fun v118 hv118=>?_;clear hv118;refine Zn 2 Zj ?_;refine ZD ?_;refine ZN (k:=3) 2 results77 ?_;rw [ht];unfold Hr;rw [Qc oM,Qc oM,Qd oM];rfl)
 refine Zi ?_;refine xL 119 Za (xL 120 (Zu K8) (xL 121 G3 ?_));refine ZC ?_ ?_<;>intro hb121
 . (
 (obtain ⟨a,ts',rfl⟩:∃a ts',ts=a::ts':=by cases ts with|nil=>simp at hts2|cons a b=>exact ⟨a,b,rfl⟩);have e4:=Yd (l:=a::ts') (k:=0) (x:=a) rfl;have e5:0<(a::ts').length:=Vc _;have e6:=TU (a::ts');(have hN:AF prog 120 [Zb 4,PV.sl ((a::ts').length-1) (((Z9 (a::ts')).drop (1*3)).take (((a::ts').length-1)*3))] (· =pTr (WT 4 ts')):=by rw [Zaj (m:=a::ts') (k:=1) oM];exact TJ 4 _);refine nav ?_;refine Yx [] [] ?_<;>refine gDx 0 ?_<;>refine xD 1 rfl (Ze K8) ?_<;>(refine yD 2 rfl (We Zj) fun v124 h=>?_;cases h)<;>refine gEx 3 ?_<;>refine xE 4 rfl (Wd (i:=1) (j:=(a::ts').length) K8 rfl rfl rfl rfl (Vc _) (Xd _) e6) ?_<;>(refine ZY 5 kR ?_)<;>(refine Ym (d:=127) rfl (cA call120 hN) fun v127 h=>?_;cases h)<;>(refine aDr 6 fun bk=>?_)<;>(refine J5 (kk:=3) (xs:=[_,_]) (cs:=[[_,_,_],[_,_,_]]) 128 Kf fun h128 ho128=>?_;refine Zz (En.freeze (l:=128) (t:=128) rfl rfl) fun _=>?_;refine Zz (Ki (t:=128) (p':=YJ [a,WT 4 ts']) rfl (Eq.trans (show _=PV.sl 2 ([a,WT 4 ts'].flatMap cN) from rfl) (GB a (WT 4 ts')))) fun _=>?_)<;>refine bE bk ?_<;>(refine ZY 7 kR ?_)<;>(refine Ym (d:=129) rfl (cA call120 (TJ 6 [a,WT 4 ts'])) fun v129 h=>?_;cases h)<;>(refine aDr 8 fun bk=>?_)<;>refine Zn 2 Zj ?_<;>refine bE bk ?_<;>refine gEx 9 ?_<;>refine Wo ?_;refine ZN (k:=3) 2 results77 ?_;rw [ht,Zbh ⟨oM,oM,oM⟩ oM];rfl)
 refine Wp ?_;refine cD (cA call120 (TJ 6 ts)) fun v131 hv131=>?_;clear hv131;refine Zn 2 Zj ?_;refine ZD ?_;refine ZN (k:=3) 2 results77 ?_;rw [ht,Zbi ⟨oM,oM,oM⟩ oM];rfl))))
