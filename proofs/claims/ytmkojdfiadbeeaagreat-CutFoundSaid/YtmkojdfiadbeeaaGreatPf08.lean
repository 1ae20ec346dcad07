/-
  Walks of functions and plain laws of the chapter, as the claim needs them.
-/
import Derived.Test.YtmkojdfiadbeeaaGreatPf05
import Derived.Test.YtmkojdfiadbeeaaGreatPf03
import Derived.Test.YtmkojdfiadbeeaaGreatPf07
import Derived.Test.YtmkojdfiadbeeaaGreatPf06
import Derived.Test.YtmkojdfiadbeeaaGreatPf01
namespace Go.Proofs.YtmkojdfiadbeeaaGreat
open Go.RowKit Go.Cb Go.En Tryz
set_option linter.all false
set_option maxRecDepth 100000
def ZeI (g:Dfg) (o:Option Cut):Prop:=∀c,o=some c→∃kd cs,c=⟨kd,Zq (cnames g.acts) cs⟩∧G' (cnames g.acts) (KR (cnames g.acts) g.follows) (Wn (cnames g.acts) g.starts) (Wn (cnames g.acts) g.ends) kd cs
theorem Zdy {n:Nat} {cs:List (List Int)} (h:Ptn n cs):cs.length≤n:=by
 have key:∀ds:List (List Int),(∀c∈ds,c≠[])→ds.length≤ds.flatten.length:=fun ds=>by
  induction ds with
  |nil=>intro _;exact Xg _
  | cons d ds ih=>
    intro hd;have h1:=ih fun c hc=>hd c (XE _ hc);have h2:=X5.2 (hd d (XG ..));rw [XT,Xe,Xi];omega
 exact XP (key cs h.ne) (G5 n _ h.nd fun s hs=>(h.mem s).1 hs)
theorem ZbX {l:List ByteArray} {E:Nat→Nat→Bool} {S F:Nat→Bool} {kd:Int} {cs:List (List Int)} (hn:l.all isName=true) (h:G' l E S F kd cs):(Zq l cs).length≤l.length∧∀p∈Zq l cs,∀s∈p,s.size≤140737488355328:=by
 refine ⟨by rw [Zdp];exact Zdy h.1,fun p hp s hs=>?_⟩
 unfold Zq at hp
 obtain ⟨c,hc,rfl⟩:=Xm.1 hp
 obtain ⟨x,hx,rfl⟩:=Xm.1 hs
 have:=Jt (Xf.1 hn _ (Xb (G8 ((h.1.mem x).1 (XN.2 ⟨c,hc,hx⟩)))))
 omega
theorem ZbY {l:List Var} (h:TS l=true):l.length≤12∧∀x∈l,x.acts.length≤15:=by
 unfold TS at h
 simp only [Xd,Uw,Vy,Ub] at h
 refine ⟨oM,fun x hx=>?_⟩
 have:=h.2 x hx
 unfold TR at this
 simp only [X9,Uw,not_or] at this
 omega
theorem EU {x:Var} (h:YQ x=true):1≤x.count∧x.count≤1048576∧x.acts.length≤200:=by
 unfold YQ at h
 simp only [Xd,Uw] at h
 exact ⟨h.1.2,h.2,h.1.1.1⟩
theorem ZbZ {x:Var} (h:YQ x=true):DK x.acts∧-9223372036854775808≤x.count∧x.count≤9223372036854775807:=by
 have hb:=EU h
 unfold YQ at h
 simp only [Xd,Uw] at h
 exact ⟨⟨oM,fun s hs=>by have:=Jt (Xf.1 h.1.1.2 s hs);omega⟩,oM,oM⟩
theorem C6 (g:Dfg) (hf:Zcl g) (hd:WU g=true) (ha:g.acts.length≤1000) (hs:g.starts.length≤1000000) (he:g.ends.length≤1000000):∀k:Nat,k<5→∃f,[PV.fn 14 [],PV.fn 15 [],PV.fn 16 [],PV.fn 17 [],PV.fn 18 []][k*1]? =some (.fn f [])∧(∀args w,(callFunc f args).run prog w= .ok (.enter f args) w)∧(AF prog f [WS g] fun p=>∃i:{o//ZeI g o},p= .tup [J9 i.1,J' i.1]):=fun k hk=>by
 have hbg:=HS g hf oM oM oM
 unfold Ps at hbg
 rw [hd,UA rfl] at hbg
 have hna:(cnames g.acts).length=g.acts.length:=by simp [cnames]
 have hbg':AF prog 46 [WS g] (· = .tup [W1 (cnames g.acts) (cnames g.acts).length (KR (cnames g.acts) g.follows) (Wn (cnames g.acts) g.starts) (Wn (cnames g.acts) g.ends),Zg 0]):=by rw [hna];exact hbg
 have hG:=OW g _ _ _ _ _ hbg' rfl oM
 have hFd:=Cw g _ _ _ _ _ hbg' rfl oM
 have up:∀{f:Nat} {j:Nat},j<4→(AF prog f [WS g] fun p=>∃i:{o//PF (cnames g.acts) (cnames g.acts).length (KR (cnames g.acts) g.follows) (Wn (cnames g.acts) g.starts) (Wn (cnames g.acts) g.ends) j o},p= .tup [J9 i.1,J' i.1])→AF prog f [WS g] fun p=>∃i:{o//ZeI g o},p= .tup [J9 i.1,J' i.1]:=fun hj h=>h.mono fun p ⟨⟨o,ho⟩,hp⟩=>⟨⟨o,fun c hc=>by
  subst hc;obtain ⟨cs,h1,h2⟩:=Ob hj ho;exact ⟨_,cs,h1,h2⟩⟩,hp⟩
 match k,hk with
 |0,_=>exact ⟨_,rfl,call14,up dC hG.1⟩
 |1,_=>exact ⟨_,rfl,call15,up dC hG.2.1⟩
 |2,_=>exact ⟨_,rfl,call16,up dC hG.2.2.1⟩
 |3,_=>exact ⟨_,rfl,call17,up dC hG.2.2.2⟩
 | 4,_=>exact ⟨_,rfl,call18,hFd.mono fun p ⟨o,h1,h2⟩=>⟨⟨o,fun c hc=>by
   subst hc;obtain ⟨j,hj,h3⟩:=EL h1;obtain ⟨cs,h4,h5⟩:=Ob hj h3;exact ⟨_,cs,h4,h5⟩⟩,h2⟩⟩
set_option maxHeartbeats 2000000 in
theorem C7 (l : List Var) (hf:Ru l):AF prog 3 [Wi l] (· =Zo true):=by
 refine AF.of_body 86 func3 rfl ntmps3 (Xa rfl) ?_
 intro w0 M0 vs hl hv
 obtain ⟨v0,rfl⟩:=WO hl
 clear hl hv
 refine Zd ?_
 (refine xL 2 Zb ?_<;>refine Zh ?_)
 ((refine cS 11 (cA call7 (ζI)) fun v11 h=>?_;cases h)<;>refine xL 12 Yj (xL 13 Za (xL 14 Za ?_))<;>(refine cS 15 (cA call8 (Om l)) fun v15 h=>?_;cases h)<;>refine xL 16 Yj (xL 17 Zv (xL 18 Za ?_))<;>(refine bL 18 (fun hb18=>?_) (fun hb18=>?_)<;>(first|refine kL 19 ?_|refine xL 19 Za ?_))<;>(first|refine kL 20 ?_|(refine cS 20 (cA call9 (Ks l hf)) fun v20 h=>?_;cases h))<;>(first|refine kL 21 ?_|refine xL 21 Yj ?_)<;>refine xL 22 Zv ?_<;>refine Zc ?_)<;>(
 refine cX ?_ ?_<;>intro hb22
 · first|exact bN hb22|(
 refine Zd ?_;((refine cS 23 (cA call7 (ζI)) fun v23 h=>?_;cases h)<;>refine xL 2 Zb ?_<;>refine Zc ?_)
 exact Zi results3 rfl rfl)
 · first | exact bN hb22 |(
 (have hV:validVars l=true:=by simpa using hb22);have hfw:=ZbY (l:=l) (by simpa using hb18);have hok:=P8 hV;obtain ⟨l',hl'⟩:∃l',l'=l.filter fun s=> !decide (s.acts.length=0):=⟨_,rfl⟩;(have hV':validVars l'=true:=by rw [hl'];exact Hh hV _);have hmem:∀x∈l',x∈l∧x.acts≠[]:=fun x hx=>by
  rw [hl',XU] at hx;exact ⟨hx.1,fun h0=>by rw [h0] at hx;simp at hx⟩
 have hl12:l'.length≤12:=XP (by rw [hl'];exact VP _ _) hfw.1;have hfit:Ru l':=⟨oM,fun x hx=>ZbZ (hok x (hmem x hx).1)⟩;have hsum:sumV (fun x=>(x.acts.length:Int)) l'≤300:=by
  (have:=RN (l:=l') (g:=fun x=>(x.acts.length:Int)) (b:=15) fun x hx=>by have:=hfw.2 x (hmem x hx).1;show (x.acts.length:Int)≤15;omega);omega
 obtain ⟨g,e,hm⟩:=Zew l';have hM:=Zex (Zeo l' hfit) hm;refine Zd ?_;(refine xL 24 Za ?_<;>refine cO 25 (cA call11 (P4 l oM)) fun v25 ho25=>?_<;>(refine Yg (Yb (l:=25) 1000 rfl rfl) fun _=>?_;refine Zek [(1000,_,_)] ⟨rfl,trivial⟩ ?_;refine ZfP [] 26 (call10) (D9 12 [] (fun s=>decide (s.acts.length=0)) l oM v25 _ (call12) (fun s _=>ER s)) ?_;rintro v26 _ _ ⟨rfl,rfl⟩)<;>refine xL 0 Zb ?_<;>refine Zc ?_)
 rw [←hl'];refine Zz (En.freeze (l:=1000) (t:=0) rfl rfl) fun _=>?_;rw [P3 _ _ _ rfl];(refine Zk ?_<;>refine xL 28 Za ?_<;>(refine cP 29 (cA call13 (hM)) fun va29 vb29 hva29 h=>?_;cases h)<;>refine xL 27 Za (xL 30 Zl (xL 31 Zl ?_))<;>refine ZV [(.slice none 0 0),(.slice none 0 0),(.slice none 0 0),(.slice none 0 0)] 4 3 K8 fun h3=>?_<;>refine YN 3 Z9 ?_<;>refine xL 4 Zb ?_<;>refine Zh ?_)
 (refine xL 32 Za (xL 33 Y9 ?_)<;>refine Zc ?_)
 refine cX ?_ ?_<;>intro hb33
 · first|exact bN hb33|(
 refine Zd ?_;(refine xL 2 Zb ?_<;>refine Zc ?_)
 exact Zi results3 rfl rfl)
 · first | exact bN hb33|(
 have he0:e=0:=by first|assumption|simpa using hb33|omega
 subst he0;have hgok:=Zdx hm;have hdf:=Zey hgok.1;have h40:=(LV hgok.1).1;have hnm:(cnames g.acts).all isName=true:=by
  have h:=hgok.1;unfold WU WG at h;simp only [Xd] at h;exact h.1.1.1.1.1.1.1.1.2
 (have hna:(cnames g.acts).length=g.acts.length:=by simp [cnames]);have hfs:=C6 g hdf.1 hgok.1 oM hdf.2.2.1 hdf.2.2.2.1;refine Zd ?_;((refine Tz (xs:=[_,_,_,_,_]) 34 OU rfl rfl (Xa rfl) rfl rfl rfl rfl rfl dC dC rfl ?_;intro h34 ho34;refine Yg (En.freeze (l:=34) (t:=34) rfl rfl) fun _=>?_)<;>refine xL 35 (ZF L5) (xL 36 Za ?_)<;>refine Zc ?_)
 refine Zw (ι:={x:Nat//x≤5}) (fun k=>⟨[(0,_,_),(2,_,_),(3,_,_),(34,_,_),(35,_,_),(36, .int .i64 k.1,Zg k.1)],[(3,_,_)]⟩) (fun k=>5-k.1) ⟨0,XA _⟩ (fun a w H=>H.weaken ⟨rfl,rfl,rfl,rfl,rfl,rfl,trivial⟩ ⟨rfl,trivial⟩) ?_;rintro ⟨k,hk⟩;dsimp only;refine Zd ?_;(refine xL 37 ZN ?_<;>refine Zc ?_)
 refine cX ?_ ?_<;>intro hb37
 · first | exact bN hb37|(
 have hk5:k<5:=oM;obtain ⟨f,e1,hfc,hfa⟩:=hfs k hk5;refine Zd ?_;(refine xL 38 (Zn L5) ?_<;>(refine yL 39 (Zt OV) fun v39 h=>?_;cases h)<;>refine xL 6 Zb ?_<;>refine Zh ?_)
 (refine xL 41 Za ?_<;>(refine yL 42 (YG 3 Z9) fun v42 h=>?_;cases h)<;>(refine cPx 43 (Li (f:=f) (ps:=[]) rfl ⟨_,rfl⟩ hfc rfl hfa) (fun i va43 vb43 hva43 hvb43=>?_) (fun i=>DZ i.1);rcases i with ⟨_|cc,hq⟩<;>(dsimp only [J9,J'] at hva43 hvb43 ⊢;cases hvb43))<;>refine xL 40 Za (xL 44 Zl (xL 45 Zl ?_))<;>refine ZV [(.int .i64 0),(.slice none 0 0)] 2 7 WM fun h7=>?_<;>refine YN 7 Z5 ?_<;>refine xL 8 Zb ?_<;>refine Zc ?_)<;>(
 (refine Zk ?_<;>refine xL 46 Za ?_<;>(first|refine xL (v:= .bool true) (p:= .val (.bool true)) 47 (Y9 (a:=10) (b:=0)) ?_|refine xL (v:= .bool false) (p:= .val (.bool false)) 47 (Y9 (a:=0) (b:=0)) ?_)<;>refine Zc ?_)
 refine cX ?_ ?_<;>intro hb47
 · first |exact bN hb47|(
 refine Zd ?_;(refine xL 48 Za ?_<;>refine xL (v:= .bool false) (p:= .val (.bool false)) 49 (Y9 (a:=10) (b:=10)) ?_<;>refine xL 50 Za (xL 51 (Zm 7 KG) ?_)<;>(refine yL 52 (Zp 7 JC) fun v52 h=>?_;cases h)<;>(refine Yg (Kl 200 26 1 rfl) fun _=>?_;refine Yg (En.freeze (l:=200) (t:=52) rfl rfl) fun _=>?_;refine xL 53 (ZF L0) ?_)<;>refine xL 54 Y9 (xL 55 Zv ?_)<;>refine Zc ?_)<;>(
 refine cX ?_ ?_<;>intro hb55
 · exact UB rfl hb55
 · refine Zd ?_;(refine xL 85 ZB (xL 36 Za ?_)<;>refine Zc ?_)
   refine Zf (
    ⟨k+1,oM⟩
    ) (by dsimp only;omega) ⟨rfl,rfl,rfl,rfl,rfl,rfl,trivial⟩ ⟨rfl,trivial⟩))
 · first | exact bN hb47|(
 obtain ⟨kd,cs,hcc,hFo⟩:=hq cc rfl;have hlaw:=ZbV hV' (fun x hx=>(hmem x hx).2) hsum hgok.2.2 hgok.1 hcc hFo;obtain ⟨hcv,hcf,out,hSG,hsp⟩:=hlaw;have hff:=ZbX hnm hFo;rw [show Zq (cnames g.acts) cs=cc.parts by rw [hcc]] at hff;have hpl:cc.parts.length≤1000000:=oM;have hSp:=Ev l' cc hfit hff.2 hpl;unfold RSp at hSp;refine Zd ?_;((refine yL 56 (YG 3 Z9) fun v56 h=>?_;cases h)<;>(refine yL 57 (YG 7 Z5) fun v57 h=>?_;cases h)<;>(refine cS 58 (cA call19 ((Zc1 g cc hdf.1 hdf.2.1 hdf.2.2.1 hdf.2.2.2.1 hff.2 hpl).mono (R':=(· =Zo true)) fun p hp=>by rw [hp,hcv])) fun v58 h=>?_;cases h)<;>refine xL 59 Yj ?_<;>refine Zc ?_)
 refine cX ?_ ?_<;>intro hb59
 · first|exact bN hb59|(
 exact UB hb59 dC
 refine Zd ?_;(refine xL 2 Zb ?_<;>refine Zc ?_)
 exact Zi results3 rfl rfl)
 · first | exact bN hb59|(
 refine Zd ?_;(refine xL 61 Za ?_<;>(refine yL 62 (YG 7 Z5) fun v62 h=>?_;cases h)<;>(rcases hsp with ⟨hbg,hsp⟩|⟨hbg,hsp⟩<;>(rw [hsp] at hSp;refine cP 63 (cA call20 hSp) fun va63 vb63 hva63 h=>?_;cases h))<;>refine xL 60 Za (xL 64 Zl (xL 65 Zl (xL 9 Zb (xL 10 Zb ?_))))<;>refine Zc ?_)<;>(
 (refine Zk ?_<;>refine xL 66 Za ?_<;>(first|refine xL (v:= .bool true) (p:= .val (.bool true)) 67 (YY (a:=6) (b:=6)) ?_|refine xL (v:= .bool false) (p:= .val (.bool false)) 67 (YY (a:=0) (b:=6)) ?_)<;>refine Zc ?_)
 refine cX ?_ ?_<;>intro hb67
 · first|exact bN hb67|(
 refine Zd ?_;(refine xL 85 ZB (xL 36 Za ?_)<;>refine Zc ?_)
 refine Zf (
  ⟨k+1,oM⟩
  ) (by dsimp only;omega) ⟨rfl,rfl,rfl,rfl,rfl,rfl,trivial⟩ ⟨rfl,trivial⟩)
 · first |exact bN hb67|(
 refine Zd ?_;(refine xL 68 Za ?_<;>refine xL (v:= .bool false) (p:= .val (.bool false)) 69 (Y9 (a:=0) (b:=0)) ?_<;>refine xL 70 Za (xL 71 Za (xL 72 (ZF SP) (xL 73 (Zm 7 KG) ?_)))<;>(refine yL 74 (Zp 7 JC) fun v74 h=>?_;cases h)<;>refine xL 75 (ZF L0) (xL 76 Y9 (xL 77 Zv (xL 78 Za ?_)))<;>(refine bLd 78 (fun hb78=>?_) (fun hb78=>?_)<;>(first|refine kL 79 ?_|refine xL 79 Za ?_))<;>(first|refine kL 80 ?_|refine xL 80 Za ?_)<;>(first|refine kL 81 ?_|(refine yL 81 (YG 7 Z5) fun v81 h=>?_;cases h))<;>(first|refine kL 82 ?_|(refine cS 82 (cA call21 (C5 l' out cc hSG hbg hl12 (fun x hx=>EU (hok x (hmem x hx).1)) hpl hff.2)) fun v82 h=>?_;cases h))<;>(first|refine kL 83 ?_|refine xL 83 Yj ?_)<;>refine xL 84 Zv ?_<;>refine Zc ?_)<;>(
 refine cX ?_ ?_<;>intro hb84
 · first|exact Bool.noConfusion hb84|exact UB hb84 dC|(exfalso;have:=hSG.len;omega)
 · refine Zd ?_;(refine xL 85 ZB (xL 36 Za ?_)<;>refine Zc ?_)
   refine Zf (
    ⟨k+1,oM⟩
    ) (by dsimp only;omega) ⟨rfl,rfl,rfl,rfl,rfl,rfl,trivial⟩ ⟨rfl,trivial⟩)))))))
 · first|exact bN hb37|(
 refine Zd ?_;(refine xL 2 Zb ?_<;>refine Zc ?_)
 exact Zi results3 rfl rfl))))
open Go.RowKit Go.Cb Go.En Go.ChangeShapes Go.WideShapes Go.ChangeAt
theorem Zga:Dec prog 28 2 Wd (fun x=>DK x.acts∧-9223372036854775808≤x.count∧x.count≤9223372036854775807):=
 D7 (fun x=>⟨x.1,x.2⟩) (Ew underlying28 kR ZfO Zf7 rfl rfl) (fun _=>rfl) (fun _=>rfl) (fun _ h=>h)
theorem ZfU:Dec prog 22 1 (fun l=>[Wi l]) Ru:=
 D7 id (O8 underlying22 kR dC (Xa kR) Zga) (fun _=>rfl) (fun _=>rfl) (fun _ h=>h)
end Go.Proofs.YtmkojdfiadbeeaaGreat
