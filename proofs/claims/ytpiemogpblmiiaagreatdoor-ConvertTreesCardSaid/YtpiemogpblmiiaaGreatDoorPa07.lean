/-
  Walks of functions and plain laws of the chapter, as the claim needs them.
-/
import Derived.Test.YtpiemogpblmiiaaGreatDoorPa06
import Derived.Test.YtpiemogpblmiiaaGreatDoorPa05
import Derived.Test.YtpiemogpblmiiaaGreatDoorPa03
import Derived.Test.YtpiemogpblmiiaaGreatDoorPa02
import Derived.Test.YtpiemogpblmiiaaGreatDoorPa04
import Derived.Test.YtpiemogpblmiiaaGreatDoorPa01
namespace Go.Proofs.YtpiemogpblmiiaaGreatDoor
open Go.RowKit Go.Cb Go.En Tryz
set_option linter.all false
set_option maxRecDepth 100000
theorem JU {l:List Int} {x:Int} (hx:l.length=1→l[0]? =some x) (h:l.length=1):l=[x]:=by
 match l,h with
 | [y],_=>
   have:=hx rfl;simp only [Vq,Option.some.injEq] at this;rw [this]
theorem Re {l:List It} {i k:Nat} {x:It} {a b:Int} (hx:l[i]? =some x) (ha:x.ins=[a]) (hb:x.outs=[b]) (h:a=b∨(YU l a false).length≠1∨(YU l b true).length≠1):rlL l i k=none:=by
 unfold rlL
 rw [hx]
 split
 · rename_i x' y e1 e2
   cases e1;rw [ha,hb];dsimp only;rw [Uo fun hh=>h.elim hh.1 fun h=>h.elim (fun h=>h hh.2.1) fun h=>h hh.2.2.1]
 · rfl
set_option maxHeartbeats 2000000 in
theorem ZfL (b : Nat) (v : Value) (n:Nt) (l:List It) (hv:v.oneCell'=true) (hl:l.length≤1000) (hf:ItF l):AFh False prog 45 [(0,ZX b, .val (ZX b))] (PrH b v n l false) (RuR b n l (RX l.length (rlL l))):=by
 have hone:En.one (PV.val v)=true:=hv
 unfold PrH
 refine AFh.of_body 102 func45 rfl ntmps45 (Xa rfl) rfl ?_
 intro w0 M0 N0
 refine Zf ?_
 (refine xL 2 Zb ?_;refine Zn ?_)
 (refine xL 9 Za (xL 10 (ZC 1000) (xL 11 (Zd 1000 Yc) ?_));refine yL 12 (Zi 1000 YA) fun v12 hv12=>?_;cases hv12;refine xL 13 (YV 1001 Yl) (xL 14 Za ?_);refine Ze ?_)
 refine ZE (ι:={k:Nat//k≤l.length∧∀i j,i<k→j<l.length→rlL l i j=none}) (fun k=>⟨[(0,_,_),(12,_,_),(13,_,_),(14, .int .i64 k.1,Zc k.1)],[(1000,_,_),(1001,_,_)]⟩) (fun k=>l.length-k.1) ⟨0,oM,oM⟩ (fun a w H=>H.weaken ⟨rfl,rfl,rfl,rfl,trivial⟩ ⟨rfl,rfl,trivial⟩) ?_
 rintro ⟨k,hk,hp⟩
 dsimp only
 refine Zf ?_
 (refine xL 15 ZR ?_;refine Ze ?_)
 refine cX ?_ ?_<;>intro hb15
 · first | exact bN hb15 | (
 obtain ⟨x,hx⟩:=Zw (show k<l.length by omega);have e1:=Z' YF l k x hx;have e2:=Yp YF hx;obtain ⟨a0,ha0⟩:=Ss x.ins;obtain ⟨b0,hb0⟩:=Ss x.outs;have hlt:=Zg hx;refine Zf ?_;(refine xL 16 Za (xL 17 (Zt 1001 Yl) ?_);refine yL 18 (Zq 1001 Z4) fun v18 hv18=>?_;cases hv18;refine ZA [(.slice none 0 0),(.slice none 0 0),(.int .i64 0),(.string ByteArray.empty),(.slice none 0 0)] 5 4 Y1 fun h4=>?_;refine xL 3 Zb ?_;refine Zv 4 Z4 ?_;refine Ze ?_)
 (refine ZS (fun i => ([]:List Nat).elem i) [4] kR ?_<;>refine xE 0 19 rfl (Zd 4 YQ) ?_<;>(refine yE 1 20 rfl (Zi 4 Zy) fun v20 h=>?_;cases h)<;>refine xE 2 21 rfl (Z1 Zs) ?_<;>refine xE 3 22 rfl YN ?_<;>refine xE 4 23 rfl Za ?_<;>(refine bDd 23 (fun hb23=>?_) (fun hb23=>?_)<;>(first|refine kD 5 24 rfl ?_|refine xD 5 24 rfl (Zd 4 Yx) ?_))<;>(first|refine kD 6 25 rfl ?_|(refine yD 6 25 rfl (Zi 4 Zy) fun v25 h=>?_;cases h))<;>(first|refine kD 7 26 rfl ?_|refine xD 7 26 rfl (Z1 Zs) ?_)<;>(first|refine kD 8 27 rfl ?_|refine xD 8 27 rfl YN ?_)<;>refine xE 9 28 rfl Zu ?_<;>refine xE 10 29 rfl Za ?_<;>(first|refine kD 11 30 rfl ?_|(refine bDd 29 (fun hb29=>?_) (fun hb29=>?_)<;>(first|refine kD 11 30 rfl ?_|refine xD 11 30 rfl (Zd 4 YQ) ?_)))<;>(first|refine kD 12 31 rfl ?_|(refine yD 12 31 rfl (Zi 4 Zy) fun v31 h=>?_;cases h))<;>(first|refine kD 13 32 rfl ?_|(have e3:=Y2 (f:=Zc) (ha0 oM);refine xD 13 32 rfl (ZP Zs) ?_))<;>(first|refine kD 14 33 rfl ?_|(refine yD 14 33 rfl (Yy Zo) fun v33 h=>?_;cases h))<;>(first|refine kD 15 34 rfl ?_|refine xD 15 34 rfl (Zd 4 Yx) ?_)<;>(first|refine kD 16 35 rfl ?_|(refine yD 16 35 rfl (Zi 4 Zy) fun v35 h=>?_;cases h))<;>(first|refine kD 17 36 rfl ?_|(have e4:=Y2 (f:=Zc) (hb0 oM);refine xD 17 36 rfl (ZP Zs) ?_))<;>(first|refine kD 18 37 rfl ?_|(refine yD 18 37 rfl (Yy Zo) fun v37 h=>?_;cases h))<;>(first|refine kD 19 38 rfl ?_|refine xD 19 38 rfl ZQ ?_)<;>refine xE 20 39 rfl Zu ?_<;>refine Yu kR (nav ?_)<;>try dsimp only)<;>(
 refine cX ?_ ?_<;>intro hb39
 · first |exact bN hb39|(
 refine Zf ?_;(refine xL 101 ZO (xL 14 Za ?_);refine Ze ?_)
 refine Zk (
  ⟨k + 1,Zg hx,fun i j hi hj=>by
   by_cases e:i=k
   · subst e
     first
      |exact hq j oM
      |exact Hv hx oM
      |exact Re hx (JU ha0 oM) (JU hb0 oM) (.inl oM)
      |exact Re hx hxi hxo (.inr (by rw [←hW1,←hW2];omega))
   · exact hp i j oM hj⟩
  ) (by dsimp only;omega) ⟨rfl,rfl,rfl,rfl,trivial⟩ ⟨rfl,rfl,trivial⟩)
 · first | exact bN hb39|(
 refine nav ?_;have hxi:=JU ha0 oM;have hxo:=JU hb0 oM;have e3:=Y2 (f:=Zc) (ha0 oM);have e4:=Y2 (f:=Zc) (hb0 oM);(refine ZS (fun i=>([]:List Nat).elem i) [4] kR ?_<;>refine xD 0 40 rfl (Zd 4 YQ) ?_<;>(refine yD 1 41 rfl (Zi 4 Zy) fun v41 h=>?_;cases h)<;>refine xD 2 42 rfl (ZP Zs) ?_<;>(refine yD 3 43 rfl (Yy Zo) fun v43 h=>?_;cases h)<;>refine xD 4 44 rfl (Zd 4 Yx) ?_<;>(refine yD 5 45 rfl (Zi 4 Zy) fun v45 h=>?_;cases h)<;>refine xD 6 46 rfl (ZP Zs) ?_<;>(refine yD 7 47 rfl (Yy Zo) fun v47 h=>?_;cases h)<;>refine xE 8 5 rfl Zb ?_<;>refine xE 9 6 rfl Zb ?_<;>refine Yu kR (nav ?_)<;>try dsimp only)
 obtain ⟨W1,hW1⟩:∃W,W=YU l a0 false:=⟨_,rfl⟩;obtain ⟨W2,hW2⟩:∃W,W=YU l b0 true:=⟨_,rfl⟩;have hz1:=Gv W1;have hz2:=Gv W2;(refine Zm ?_ <;> refine xL 48 Za (xL 49 Za ?_)<;>(refine ZL [(1000,_,_),(1001,_,_),(4,_,_)] ⟨rfl,rfl,rfl,trivial⟩ ?_;refine ZT [4] 50 (call91) (Gr b v n l false a0 false hv hl) (fun v50 p50 h50 hR50=>?_);obtain ⟨rfl,rfl⟩:=hR50;dsimp only [PrH];rw [←hW1])<;>refine xL 51 (Z1 Zs) (xL 52 YN (xL 53 Za ?_))<;>(refine bLd 53 (fun hb53=>?_) (fun hb53=>?_)<;>(first|refine kL 54 ?_|refine xL 54 Za ?_))<;>(first|refine kL 55 ?_|refine xL 55 Za ?_)<;>(first|refine kL 56 ?_|(refine ZL [(1000,_,_),(1001,_,_),(4,_,_)] ⟨rfl,rfl,rfl,trivial⟩ ?_;refine ZT [4] 56 (call91) (Gr b v n l false b0 true hv hl) (fun v56 p56 h56 hR56=>?_);obtain ⟨rfl,rfl⟩:=hR56;dsimp only [PrH];rw [←hW2]))<;>(first|refine kL 57 ?_|refine xL 57 (Z1 Zs) ?_)<;>(first|refine kL 58 ?_|refine xL 58 YN ?_)<;>refine xL 59 Zu ?_<;>refine Ze ?_)<;>(
 refine cX ?_ ?_<;>intro hb59
 · first |exact bN hb59|(
 refine Zf ?_;(refine xL 101 ZO (xL 14 Za ?_);refine Ze ?_)
 refine Zk (
  ⟨k + 1,Zg hx,fun i j hi hj=>by
   by_cases e:i=k
   · subst e
     first
      |exact hq j oM
      |exact Hv hx oM
      |exact Re hx (JU ha0 oM) (JU hb0 oM) (.inl oM)
      |exact Re hx hxi hxo (.inr (by rw [←hW1,←hW2];omega))
   · exact hp i j oM hj⟩
  ) (by dsimp only;omega) ⟨rfl,rfl,rfl,rfl,trivial⟩ ⟨rfl,rfl,trivial⟩)
 · first | exact bN hb59|(
 refine Zf ?_;(refine xL 60 Za (xL 61 (ZC 1000) (xL 62 (Zd 1000 Yc) ?_));refine yL 63 (Zi 1000 YA) fun v63 hv63=>?_;cases hv63;refine xL 64 (YV 1001 Yl) (xL 65 Za ?_);refine Ze ?_)
 refine ZE (ι:={q:Nat//q≤l.length∧∀j,j<q→rlL l k j=none}) (fun k=>⟨[(0,_,_),(3,_,_),(4,_,_),(5,_,_),(6,_,_),(12,_,_),(13,_,_),(14,_,_),(63,_,_),(64,_,_),(65, .int .i64 k.1,Zc k.1)],[(4,_,_),(1000,_,_),(1001,_,_)]⟩) (fun k=>l.length-k.1) ⟨0,oM,oM⟩ (fun a w H=>H.weaken ⟨rfl,rfl,rfl,rfl,rfl,rfl,rfl,rfl,rfl,rfl,rfl,trivial⟩ ⟨rfl,rfl,rfl,trivial⟩) ?_;rintro ⟨q,hq1,hq⟩;dsimp only;refine Zf ?_;(refine xL 66 ZR ?_;refine Ze ?_)
 refine cX ?_ ?_<;>intro hb66
 · first | exact bN hb66|(
 obtain ⟨y,hy⟩:=Zw (show q<l.length by omega);have e5:=Z' YF l q y hy;have e6:=Yp YF hy;have hft:FitT (WB 6 [x.t,y.t]):=Ti dC dC (hf x (Xd hx)) (hf y (Xd hy));have hr:=Zhq hx hy hxi hxo;refine Zf ?_;(refine xL 67 Za (xL 68 (Zt 1001 Yl) ?_);refine yL 69 (Zq 1001 Z4) fun v69 hv69=>?_;cases hv69;refine ZA [(.slice none 0 0),(.slice none 0 0),(.int .i64 0),(.string ByteArray.empty),(.slice none 0 0)] 5 8 Y1 fun h8=>?_;refine xL 7 Zb ?_;refine Zv 8 Z4 ?_;refine Zn ?_)
 (refine xL 70 Za (xL 71 Za (xL 72 YN (xL 73 Za ?_)))<;>(refine bLd 73 (fun hb73=>?_) (fun hb73=>?_)<;>(first|refine kL 74 ?_|refine xL 74 (Zd 8 YQ) ?_))<;>(first|refine kL 75 ?_|(refine yL 75 (Zi 8 Zy) fun v75 h=>?_;cases h))<;>(first|refine kL 76 ?_|refine xL 76 Za ?_)<;>(first|refine kL 77 ?_|(refine cS 77 (cA call47 (Jo y.ins b0)) fun v77 h=>?_;cases h))<;>refine xL 78 Zu (xL 79 Za ?_)<;>(first|refine kL 80 ?_|(refine bLd 79 (fun hb79=>?_) (fun hb79=>?_)<;>(first|refine kL 80 ?_|refine xL 80 (Zd 8 Yx) ?_)))<;>(first|refine kL 81 ?_|(refine yL 81 (Zi 8 Zy) fun v81 h=>?_;cases h))<;>(first|refine kL 82 ?_|refine xL 82 Za ?_)<;>(first|refine kL 83 ?_|(refine cS 83 (cA call47 (Jo y.outs a0)) fun v83 h=>?_;cases h))<;>refine xL 84 Zu ?_<;>refine Ze ?_)<;>(
 refine cX ?_ ?_<;>intro hb84
 · first|exact bN hb84|(
 refine nav ?_;(refine ZS (fun i=>([14,15]:List Nat).elem i) [4,8] kR ?_<;>refine xDT 0 85 rfl Za ?_<;>refine xDT 1 86 rfl Za ?_<;>refine xDT 2 87 rfl (Zd 4 YQ) ?_<;>(refine yDT 3 88 rfl (Zi 4 Zy) fun v88 h=>?_;cases h)<;>refine xDT 4 89 rfl (Zd 4 Yx) ?_<;>(refine yDT 5 90 rfl (Zi 4 Zy) fun v90 h=>?_;cases h)<;>refine xDT 6 91 rfl (Zd 4 Wu) ?_<;>(refine yDT 7 92 rfl (Zq 4 ZH) fun v92 h=>?_;cases h)<;>refine xDT 8 93 rfl (Zd 8 Wu) ?_<;>(refine yDT 9 94 rfl (Zq 8 ZH) fun v94 h=>?_;cases h)<;>refine xDT 12 97 rfl Za ?_<;>(refine YD 10 13 kR ?_ ?_;rotate_right;(focus ((refine Zj rfl fun w9 M9 N9 DQ back=>?_)<;>(refine Ye (kk:=1) 98 ZB fun h98 ho98=>?_;refine Zp (En.freeze (l:=98) (t:=98) rfl rfl) fun _=>?_;refine Zp (Yk (t:=98) (p':=pInts (zs [q])) rfl rfl) fun _=>?_)<;>refine Zh (back _ (nrm ?_))<;>(refine Zl 10 kR ?_)<;>(refine Zj rfl fun w9 M9 N9 DQ back=>?_)<;>(refine Jh (kk:=3) (xs:=[_,_]) (cs:=[[_,_,_],[_,_,_]]) 95 Kh fun h95 ho95=>?_;refine Zp (En.freeze (l:=95) (t:=95) rfl rfl) fun _=>?_;refine Zp (Yk (t:=95) (p':=YK [x.t,y.t]) rfl (Ju x.t y.t)) fun _=>?_)<;>refine Zh (back _ (nrm ?_))<;>(refine Zl 11 kR ?_)<;>(refine Zj rfl fun w9 M9 N9 DQ back=>?_)<;>(refine cD 96 (cA call90 (KP 6 [x.t,y.t])) fun v96 hv96=>?_;clear hv96)<;>refine Zh (back _ (nrm ?_))));rotate_right;(focus ((refine Zj rfl fun w9 M9 N9 DQ back=>?_)<;>(refine Jh (kk:=3) (xs:=[_,_]) (cs:=[[_,_,_],[_,_,_]]) 95 Kh fun h95 ho95=>?_;refine Zp (En.freeze (l:=95) (t:=95) rfl rfl) fun _=>?_;refine Zp (Yk (t:=95) (p':=YK [x.t,y.t]) rfl (Ju x.t y.t)) fun _=>?_)<;>refine Zh (back _ (nrm ?_))<;>(refine YD 11 13 kR ?_ ?_;rotate_right;(focus ((refine Zj rfl fun w9 M9 N9 DQ back=>?_)<;>(refine Ye (kk:=1) 98 ZB fun h98 ho98=>?_;refine Zp (En.freeze (l:=98) (t:=98) rfl rfl) fun _=>?_;refine Zp (Yk (t:=98) (p':=pInts (zs [q])) rfl rfl) fun _=>?_)<;>refine Zh (back _ (nrm ?_))<;>(refine Zl 11 kR ?_)<;>(refine Zj rfl fun w9 M9 N9 DQ back=>?_)<;>(refine cD 96 (cA call90 (KP 6 [x.t,y.t])) fun v96 hv96=>?_;clear hv96)<;>refine Zh (back _ (nrm ?_))));rotate_right;(focus ((refine Zj rfl fun w9 M9 N9 DQ back=>?_)<;>(refine cD 96 (cA call90 (KP 6 [x.t,y.t])) fun v96 hv96=>?_;clear hv96)<;>refine Zh (back _ (nrm ?_))<;>(refine Zl 13 kR ?_)<;>(refine Zj rfl fun w9 M9 N9 DQ back=>?_)<;>(refine Ye (kk:=1) 98 ZB fun h98 ho98=>?_;refine Zp (En.freeze (l:=98) (t:=98) rfl rfl) fun _=>?_;refine Zp (Yk (t:=98) (p':=pInts (zs [q])) rfl rfl) fun _=>?_)<;>refine Zh (back _ (nrm ?_))))))))<;>(refine Zl 14 kR ?_)<;>(refine K6 rfl rfl fun DQ back=>?_)<;>(refine ZL [(1000,_,_),(1001,_,_),(4,_,_),(8,_,_)] ⟨rfl,rfl,rfl,rfl,trivial⟩ ?_;refine ZT [4,8] 99 (call89) (Pl b v n l ⟨k,x.ins,x.outs,WB 6 [x.t,y.t],[q]⟩ hv hl hlt hft _ _ _ _) (fun v99 p99 h99 hR99=>?_);obtain ⟨v',hv',rfl,rfl,rfl⟩:=hR99;dsimp only [PrH])<;>refine Zh (back _ ?_)<;>(refine KO 15 kR rfl rfl fun DQ back=>?_)<;>refine xL 2 Zb ?_<;>refine Zh (back _ ?_)<;>refine JM kR (nav ?_)<;>try dsimp only)<;>(
 refine WQ (PrH b v' n (ruX l (some ⟨k,x.ins,x.outs,WB 6 [x.t,y.t],[q]⟩)).2.1 (ruX l (some ⟨k,x.ins,x.outs,WB 6 [x.t,y.t],[q]⟩)).2.2) (results45) rfl ⟨rfl,rfl,trivial⟩ ?_;rw [Rb hlt (Zg hy) (by rw [hr,Up ⟨oM,by rw [←hW1];omega,by rw [←hW2];omega,by assumption,by assumption⟩]) hp hq];exact ⟨v',hv',rfl,rfl,rfl⟩))
 · first | exact bN hb84|(
 refine Zf ?_;(refine xL 100 ZO (xL 65 Za ?_);refine Ze ?_)
 refine Zk (
  ⟨q + 1, Zg hy,fun j hj=>by
   by_cases e:j=q
   · subst e;rw [hr,Uo]
     first
      |exact fun h=>hb84 h.2.2.2.2
      |exact fun h=>hb79 h.2.2.2.1
      | (intro h
         have e1:=h.2.2.2.1;rw [show k=j by omega] at hx;rw [hx] at hy
         cases hy;rw [hxi] at e1
         cases e1;exact h.1 rfl)
   · exact hq j oM⟩
  ) (by dsimp only;omega) ⟨rfl,rfl,rfl,rfl,rfl,rfl,rfl,rfl,rfl,rfl,rfl,trivial⟩ ⟨rfl,rfl,rfl,trivial⟩)))
 · first |exact bN hb66|(
 refine Zf ?_;(refine xL 101 ZO (xL 14 Za ?_);refine Ze ?_)
 refine Zk (
  ⟨k + 1,Zg hx,fun i j hi hj=>by
   by_cases e:i=k
   · subst e
     first
      |exact hq j oM
      |exact Hv hx oM
      |exact Re hx (JU ha0 oM) (JU hb0 oM) (.inl oM)
      |exact Re hx hxi hxo (.inr (by rw [←hW1,←hW2];omega))
   · exact hp i j oM hj⟩
  ) (by dsimp only;omega) ⟨rfl,rfl,rfl,rfl,trivial⟩ ⟨rfl,rfl,trivial⟩))))))
 · first|exact bN hb15|(
 refine Zf ?_;(refine xL 2 Zb ?_;refine Ze ?_)
 refine WQ (PrH b v n l false) (results45) rfl ⟨rfl,rfl,trivial⟩ ?_;rw [Ra fun i j hi hj=>hp i j oM hj];exact ⟨v,hv,rfl,rfl,rfl⟩)
def brX (l:List It) (i k:Nat) (x y:It):Option (List Nat):=if i≠k∧2≤x.outs.length∧x.outs.length=y.ins.length then brL l i k x.outs else none
theorem ZdL {l:List It} {i k:Nat} {x y:It} (hx:l[i]? =some x) (hy:l[k]? =some y):rlP l i k=(brX l i k x y).map fun m=>⟨i,x.ins,y.outs,WB 3 [x.t,S9 l m,y.t],m++[k]⟩:=by
 unfold rlP brX
 rw [hx,hy]
 by_cases hc:i≠k∧2≤x.outs.length∧x.outs.length=y.ins.length
 · rw [Up hc];show (if _ then _ else _)=_;rw [Up hc]
   cases brL l i k x.outs<;>rfl
 · rw [Uo hc];show (if _ then _ else _)=_;rw [Uo hc];rfl
def BrH (b:Nat) (v:Value) (n:Nt) (l:List It) (v':Value) (m:List Nat):List (Nat×Ent):=[(1000,Yd b, .own 83 6 1 [Zc n.pl,JS n.tr,Zc n.src,Zc n.snk, .val v, .val (.bool false)]),(1001,v, .own 85 5 l.length (l.flatMap cIt)),(1002,v', .own 3 1 (zs m).length ((zs m).map Zc))]
def BrR (b:Nat) (v:Value) (n:Nt) (l:List It) (o:Option (List Nat)):Value→PV→List (Nat×Ent)→Prop:=fun u q h=>∃v':Value,v'.oneCell'=true∧u= .tuple #[v', .bool o.isSome]∧q= .tup [.val v',ZV o.isSome]∧h=BrH b v n l v' (o.getD [])
theorem Oi:∀(l:List It) (i k:Nat) (m:List Int) (j:Nat) (a:Int),m[j]? =some a→brL l i k (m.take (j+1))=(match brL l i k (m.take j),brP l i k a with|some t,some none=>some t|some t,some (some z)=>some (t++[z])|_,_=>none)
 |l,i,k,[],j,a,h=>by simp at h
 | l,i,k,b::m,0,a,h=>by
   simp only [Vq,Option.some.injEq] at h;subst h;rw [XP,VC,VC,brL,brL]
   cases brP l i k b with
   |none=>rfl
   |some z=>cases z<;>rfl
 | l, i, k,b::m,j+1,a,h=>by
   have ih:=Oi l i k m j a (by simpa using h);rw [XP,XP,brL,brL,ih]
   cases brP l i k b with
   |none=>rfl
   | some z=>
     cases z with
     |none=>rfl
     | some z=>
       cases brL l i k (m.take j) with
       |none=>rfl
       | some t=>
         cases brP l i k a with
         |none=>rfl
         |some y=>cases y<;>rfl
theorem Su {l:List It} {i k:Nat}:∀{m:List Int} {j:Nat} {a:Int},m[j]? =some a→brP l i k a=none→brL l i k m=none
 |[],j,a,h,_=>by simp at h
 | b::m,0,a,h,hb=>by
   simp only [Vq,Option.some.injEq] at h;subst h;rw [brL,hb]
 | b::m,j+1,a,h,hb=>by
   have ih:=Su (m:=m) (j:=j) (by simpa using h) hb;rw [brL,ih]
   cases brP l i k b with
   |none=>rfl
   |some z=>cases z<;>rfl
theorem ZfM {l:List It} {i k:Nat} {a:Int} (h:(YU l a true).length≠1∨(YU l a false).length≠1):brP l i k a=none:=by
 unfold brP
 split
 · rename_i h1 h2;rw [h1,h2] at h;simp at h
 · rfl
theorem ZgD {l:List It} {i k:Nat} {a:Int} (h1:(YU l a true).length=1) (h2:YU l a false=[k]):brP l i k a=some none:=by
 obtain ⟨z,hz⟩:=Zan h1
 unfold brP
 rw [hz,h2];dsimp only;rw [Up rfl]
theorem ZdM {l:List It} {i k j:Nat} {z:It} {a:Int} (h1:(YU l a true).length=1) (h2:YU l a false=[j]) (hj:j≠k) (hz:l[j]? =some z):brP l i k a=match z.outs with
 |[b]=>if j≠i∧z.ins=[a]∧(YU l b true).length=1∧YU l b false=[k] then some (some j) else none
 |_=>none:=by
 obtain ⟨y,hy⟩:=Zan h1
 unfold brP
 rw [hy,h2];dsimp only;rw [Uo hj,hz];rfl
theorem ZfN {l:List It} {i k j:Nat} {z:It} {a:Int} (h1:(YU l a true).length=1) (h2:YU l a false=[j]) (hj:j≠k) (hz:l[j]? =some z) (h:j=i∨z.ins≠[a]∨z.outs.length≠1):brP l i k a=none:=by
 rw [ZdM h1 h2 hj hz]
 split
 · rename_i b hb;rw [Uo fun hh=>h.elim hh.1 fun h=>h.elim (fun h=>h hh.2.1) fun h=>h (by rw [hb];rfl)]
 · rfl
theorem ZfO {l:List It} {i k j:Nat} {z:It} {a b:Int} (h1:(YU l a true).length=1) (h2:YU l a false=[j]) (hj:j≠k) (hz:l[j]? =some z) (hb:z.outs=[b]):brP l i k a=if j≠i∧z.ins=[a]∧(YU l b true).length=1∧YU l b false=[k] then some (some j) else none:=by
 rw [ZdM h1 h2 hj hz,hb]
theorem Zhr {W:List Nat} {k:Nat} (h:zs W=[(k:Int)]):W=[k]:=by
 match W,h with
 | [j],h=>
   unfold zs at h;simp only [XM,Vb,List.cons.injEq,and_true] at h;rw [show j=k by omega]
theorem ZdN {l:List It} {i k:Nat} {x y:It} (h:i=k∨x.outs.length<2∨x.outs.length≠y.ins.length):brX l i k x y=none:=by
 unfold brX
 rw [Uo fun hh=>h.elim hh.1 fun h=>h.elim (fun h=>oM) fun h=>h hh.2.2]
theorem Zhs {l:List It} {i k:Nat} {x y:It} (h:¬(i=k∨x.outs.length<2∨x.outs.length≠y.ins.length)):brX l i k x y=brL l i k x.outs:=by
 unfold brX
 rw [Up ⟨fun e=>h (.inl e),oM,oM⟩]
theorem E0 {l:List It} {i k:Nat} {m:List Int} {j:Nat} {a:Int} {t:List Nat} (ha:m[j]? =some a) (ht:brL l i k (m.take j)=some t) (h:brP l i k a=some none):brL l i k (m.take (j+1))=some t:=by
 rw [Oi l i k m j a ha,ht,h]
theorem E1 {l:List It} {i k:Nat} {m:List Int} {j z:Nat} {a:Int} {t:List Nat} (ha:m[j]? =some a) (ht:brL l i k (m.take j)=some t) (h:brP l i k a=some (some z)):brL l i k (m.take (j+1))=some (t++[z]):=by
 rw [Oi l i k m j a ha,ht,h]
set_option maxHeartbeats 4000000 in
theorem E2 (b : Nat) (v : Value) (n:Nt) (l:List It) (i k:Nat) (x y:It) (hv:v.oneCell'=true) (hl:l.length≤1000) (hx:l[i]? =some x) (hy:l[k]? =some y) (hxl:x.outs.length≤100000):AFh False prog 92 [(0,ZX b, .val (ZX b)),(1, .int .i64 i,Zc i),(2, .int .i64 k,Zc k)] (PrH b v n l false) (BrR b v n l (brX l i k x y)):=by
 have hone:En.one (PV.val v)=true:=hv
 have e1:=Z' YF l i x hx
 have e2:=Yp YF hx
 have e3:=Z' YF l k y hy
 have e4:=Yp YF hy
 have hli:=Zg hx
 have hlk:=Zg hy
 obtain ⟨o,ho⟩:∃o,o=brX l i k x y:=⟨_,rfl⟩
 rw [←ho]
 unfold PrH
 refine AFh.of_body 122 func92 rfl ntmps92 (Xa rfl) rfl ?_
 intro w0 M0 N0
 refine Zf ?_
 (refine xL 6 Zb (xL 7 Zb ?_);refine Ze ?_)
 (refine ZS (fun i => ([17] : List Nat).elem i) [1000,1001] kR ?_<;>refine xD 0 17 rfl Za ?_<;>refine xD 1 18 rfl (ZC 1000) ?_<;>refine xD 2 19 rfl (Zd 1000 Yc) ?_<;>(refine yD 3 20 rfl (Zi 1000 YA) fun v20 h=>?_;cases h)<;>refine xD 4 21 rfl Za ?_<;>refine xD 5 22 rfl (Zt 1001 Yl) ?_<;>(refine yD 6 23 rfl (Zq 1001 Z4) fun v23 h=>?_;cases h)<;>refine xD 7 24 rfl Za ?_<;>refine xD 8 25 rfl (ZC 1000) ?_<;>refine xD 9 26 rfl (Zd 1000 Yc) ?_<;>(refine yD 10 27 rfl (Zi 1000 YA) fun v27 h=>?_;cases h)<;>refine xD 11 28 rfl Za ?_<;>refine xD 12 29 rfl (Zt 1001 Yl) ?_<;>(refine yD 13 30 rfl (Zq 1001 Z4) fun v30 h=>?_;cases h)<;>(refine YD 14 15 kR ?_ ?_;rotate_right;(focus ((refine Zj rfl fun w9 M9 N9 DQ back=>?_)<;>refine ZA [(.slice none 0 0),(.slice none 0 0),(.int .i64 0),(.string ByteArray.empty),(.slice none 0 0)] 5 9 Y1 fun h9=>?_<;>refine Zh (back _ (nrm ?_))<;>(refine Zl 14 kR ?_)<;>(refine Zj rfl fun w9 M9 N9 DQ back=>?_)<;>refine ZA [(.slice none 0 0),(.slice none 0 0),(.int .i64 0),(.string ByteArray.empty),(.slice none 0 0)] 5 8 Y1 fun h8=>?_<;>refine Zh (back _ (nrm ?_))<;>(refine Zl 16 kR ?_)<;>(refine Zj rfl fun w9 M9 N9 DQ back=>?_)<;>refine Zv 8 Z4 ?_<;>refine Zh (back _ (nrm ?_))));rotate_right;(focus ((refine Zj rfl fun w9 M9 N9 DQ back=>?_)<;>refine ZA [(.slice none 0 0),(.slice none 0 0),(.int .i64 0),(.string ByteArray.empty),(.slice none 0 0)] 5 8 Y1 fun h8=>?_<;>refine Zh (back _ (nrm ?_))<;>(refine Zl 15 kR ?_)<;>(refine Zj rfl fun w9 M9 N9 DQ back=>?_)<;>refine ZA [(.slice none 0 0),(.slice none 0 0),(.int .i64 0),(.string ByteArray.empty),(.slice none 0 0)] 5 9 Y1 fun h9=>?_<;>refine Zh (back _ (nrm ?_))<;>(refine Zl 16 kR ?_)<;>(refine Zj rfl fun w9 M9 N9 DQ back=>?_)<;>refine Zv 8 Z4 ?_<;>refine Zh (back _ (nrm ?_)))))<;>(refine Zl 17 kR ?_)<;>(refine WX rfl rfl kR fun DQ back=>?_)<;>refine Zv 9 Z4 ?_<;>refine Zh (back _ (nav ?_))<;>try dsimp only)<;>(
 (refine Zm ?_ <;> refine xL 31 Za (xL 32 Za (xL 33 ZQ (xL 34 Za ?_)))<;>(refine bLd 34 (fun hb34=>?_) (fun hb34=>?_)<;>(first|refine kL 35 ?_|refine xL 35 (Zd 8 Yx) ?_))<;>(first|refine kL 36 ?_|(refine yL 36 (Zi 8 Zy) fun v36 h=>?_;cases h))<;>(first|refine kL 37 ?_|refine xL 37 (Z1 Zs) ?_)<;>(first|refine kL 38 ?_|refine xL 38 ZR ?_)<;>refine xL 39 Zu (xL 40 Za ?_)<;>(first|refine kL 41 ?_|(refine bLd 40 (fun hb40=>?_) (fun hb40=>?_)<;>(first|refine kL 41 ?_|refine xL 41 (Zd 8 Yx) ?_)))<;>(first|refine kL 42 ?_|(refine yL 42 (Zi 8 Zy) fun v42 h=>?_;cases h))<;>(first|refine kL 43 ?_|refine xL 43 (Z1 Zs) ?_)<;>(first|refine kL 44 ?_|refine xL 44 (Zd 9 YQ) ?_)<;>(first|refine kL 45 ?_|(refine yL 45 (Zi 9 Zy) fun v45 h=>?_;cases h))<;>(first|refine kL 46 ?_|refine xL 46 (Z1 Zs) ?_)<;>(first|refine kL 47 ?_|refine xL 47 YN ?_)<;>refine xL 48 Zu ?_<;>refine Ze ?_)<;>(
 refine cX ?_ ?_<;>intro hb48
 · first|exact bN hb48|(
 refine Zf ?_;(refine xL 6 Zb (xL 7 Zb ?_);refine Ze ?_)
 rw [ho,ZdN oM];refine Wm (WF 1002 3 1 rfl) fun _=>?_;exact L' (BrH b v n l (.slice none 0 0) []) (results92) rfl rfl ⟨rfl,rfl,rfl,trivial⟩ ⟨.slice none 0 0,rfl,rfl,rfl,rfl⟩)
 · first | exact bN hb48 | (
 refine Zf ?_;(refine xL 10 Zb ?_;refine Ze ?_)
 (have hgo:o=brL l i k x.outs:=by rw [ho,Zhs oM]);refine Zz (WF 200 3 1 rfl) fun _=>?_;(refine Zm ?_;refine xL 49 (Zd 8 Yx) ?_;refine yL 50 (Zi 8 Zy) fun v50 hv50=>?_;cases hv50;refine xL 51 (Z1 Zs) (xL 52 Za ?_);refine Ze ?_)
 refine ZE (ι:={q:Nat×List Nat×Value//q.1≤x.outs.length∧brL l i k (x.outs.take q.1)=some q.2.1∧q.2.2.oneCell'=true∧q.2.1.length≤q.1}) (fun k=>⟨[(0,_,_),(1,_,_),(2,_,_),(50,_,_),(51,_,_),(52, .int .i64 k.1.1,Zc k.1.1),(10,k.1.2.2, .val k.1.2.2)],[(1000,_,_),(1001,_,_),(200,k.1.2.2, .own 3 1 (zs k.1.2.1).length ((zs k.1.2.1).map Zc))]⟩) (fun k=>x.outs.length-k.1.1) ⟨(0,[],_),Xh _,rfl,rfl,Xh _⟩ (fun a w H=>H.weaken ⟨rfl,rfl,rfl,rfl,rfl,rfl,rfl,trivial⟩ ⟨rfl,rfl,rfl,trivial⟩) ?_;rintro ⟨⟨j,m,u⟩,hj,hm,hu,hml⟩;dsimp only;dsimp only at hj hm hu hml;have honeu:En.one (PV.val u)=true:=hu;have hzm:=Gv m;refine Zf ?_;(refine xL 53 ZR ?_;refine Ze ?_)
 refine cX ?_ ?_<;>intro hb53
 · first | exact bN hb53 |(
 obtain ⟨a,ha⟩:=Zw (show j<x.outs.length by omega);have f1:=Y2 (f:=Zc) ha;obtain ⟨U,hU⟩:∃W,W=YU l a false:=⟨_,rfl⟩;obtain ⟨M,hM⟩:∃W,W=YU l a true:=⟨_,rfl⟩;have hzU:=Gv U;have hzM:=Gv M;obtain ⟨j0,hj0⟩:=ζh U;refine Zf ?_;(refine xL 54 (ZP Zs) ?_;refine yL 55 (Yy Zo) fun v55 hv55=>?_;cases hv55;refine xL 12 Zb ?_;refine Zn ?_)
 (refine xL 56 Za (xL 57 Za ?_);(refine ZL [(1000,_,_),(1001,_,_),(200,_,_)] ⟨rfl,rfl,rfl,trivial⟩ ?_;refine ZT [200] 58 (call91) (Gr b v n l false a false hv hl) (fun v58 p58 h58 hR58=>?_);obtain ⟨rfl,rfl⟩:=hR58;dsimp only [PrH];rw [←hU]);refine xL 13 Zb ?_;refine Zn ?_)
 (refine xL 59 Za (xL 60 Za ?_)<;>(refine ZL [(1000,_,_),(1001,_,_),(200,_,_)] ⟨rfl,rfl,rfl,trivial⟩ ?_;refine ZT [200] 61 (call91) (Gr b v n l false a true hv hl) (fun v61 p61 h61 hR61=>?_);obtain ⟨rfl,rfl⟩:=hR61;dsimp only [PrH];rw [←hM])<;>refine xL 62 (Z1 Zs) (xL 63 YN (xL 64 Za ?_))<;>(refine bLd 64 (fun hb64=>?_) (fun hb64=>?_)<;>(first|refine kL 65 ?_|refine xL 65 Za ?_))<;>(first|refine kL 66 ?_|refine xL 66 (Z1 Zs) ?_)<;>(first|refine kL 67 ?_|refine xL 67 YN ?_)<;>refine xL 68 Zu ?_<;>refine Ze ?_)<;>(
 refine cX ?_ ?_<;>intro hb68
 · first|exact bN hb68|(
 refine Zf ?_;(refine xL 6 Zb (xL 7 Zb ?_);refine Ze ?_)
 rw [hgo,Su ha (ZfM (by rw [←hU,←hM];omega))];refine Wm (WF 1002 3 1 rfl) fun _=>?_;exact L' (BrH b v n l (.slice none 0 0) []) (results92) rfl rfl ⟨rfl,rfl,rfl,trivial⟩ ⟨.slice none 0 0,rfl,rfl,rfl,rfl⟩)
 · first | exact bN hb68|(
 refine nav ?_;have hU1:=hj0 oM;have g1:=Og hU1;(have hM1:(YU l a true).length=1:=by rw [←hM];omega);have hU2:YU l a false=[j0]:=hU.symm.trans hU1;have hj0l:j0<l.length:=Oe (p:=a) (out:=false) (by rw [hU2];exact Xr.2 rfl);obtain ⟨z,hz⟩:=Zw hj0l;have e5:=Z' YF l j0 z hz;have e6:=Yp YF hz;obtain ⟨b0,hb0⟩:=Ss z.outs;(refine Zm ?_;refine xL 69 Za (xL 70 (ZP Zs) ?_);refine yL 71 (Yy Zo) fun v71 hv71=>?_;cases hv71;refine xL 14 Zb ?_;refine Zn ?_)
 (refine xL 72 Za (xL 73 Za (xL 74 ZQ ?_));refine Ze ?_)
 refine cX ?_ ?_<;>intro hb74
 · first |exact bN hb74|(
 refine Zf ?_;(refine xL 120 ZO (xL 52 Za ?_);refine Ze ?_)
 first
  | (exact Zk (
      ⟨(j+1,m++[j0],h119),Zg ha,E1 ha hm hgood,ho119,by simp;omega⟩
      ) (by dsimp only;omega) ⟨rfl,rfl,rfl,rfl,rfl,rfl,rfl,trivial⟩ ⟨rfl,rfl,rfl,trivial⟩)
  | (exact Zk (
      ⟨(j+1,m,u),Zg ha,E0 ha hm (ZgD hM1 (by rw [hU2,show j0=k by omega])),hu,by dsimp only;omega⟩
      ) (by dsimp only;omega) ⟨rfl,rfl,rfl,rfl,rfl,rfl,rfl,trivial⟩ ⟨rfl,rfl,rfl,trivial⟩))
 · first | exact bN hb74|(
 refine Zf ?_;(refine xL 75 Za (xL 76 (ZC 1000) (xL 77 (Zd 1000 Yc) ?_));refine yL 78 (Zi 1000 YA) fun v78 hv78=>?_;cases hv78;refine xL 79 Za (xL 80 (Zt 1001 Yl) ?_);refine yL 81 (Zq 1001 Z4) fun v81 hv81=>?_;cases hv81;refine ZA [(.slice none 0 0),(.slice none 0 0),(.int .i64 0),(.string ByteArray.empty),(.slice none 0 0)] 5 15 Y1 fun h15=>?_;refine Zv 15 Z4 ?_;refine Zn ?_)
 (refine xL 82 Za (xL 83 Za (xL 84 ZQ (xL 85 Za ?_)))<;>(refine bLd 85 (fun hb85=>?_) (fun hb85=>?_)<;>(first|refine kL 86 ?_|refine xL 86 (Zd 15 YQ) ?_))<;>(first|refine kL 87 ?_|(refine yL 87 (Zi 15 Zy) fun v87 h=>?_;cases h))<;>(first|refine kL 88 ?_|refine xL 88 Za ?_)<;>(first|refine kL 89 ?_|(refine cS 89 (cA call47 (Jo z.ins a)) fun v89 h=>?_;cases h))<;>(first|refine kL 90 ?_|refine xL 90 Ym ?_)<;>refine xL 91 Zu (xL 92 Za ?_)<;>(first|refine kL 93 ?_|(refine bL 92 (fun hb92=>?_) (fun hb92=>?_)<;>(first|refine kL 93 ?_|refine xL 93 (Zd 15 Yx) ?_)))<;>(first|refine kL 94 ?_|(refine yL 94 (Zi 15 Zy) fun v94 h=>?_;cases h))<;>(first|refine kL 95 ?_|refine xL 95 (Z1 Zs) ?_)<;>(first|refine kL 96 ?_|refine xL 96 YN ?_)<;>refine xL 97 Zu ?_<;>refine Ze ?_)<;>(
 refine cX ?_ ?_<;>intro hb97
 · first|exact bN hb97|(
 refine Zf ?_;(refine xL 6 Zb (xL 7 Zb ?_);refine Ze ?_)
 rw [hgo,Su ha (ZfN (z:=z) hM1 hU2 oM hz (by first|exact .inl oM|exact .inr (.inl (by simpa using hb92))|exact .inr (.inr oM)|exact .inr (.inl (by assumption))))];refine Wm (WF 1002 3 1 rfl) fun _=>?_;exact L' (BrH b v n l (.slice none 0 0) []) (results92) rfl rfl ⟨rfl,rfl,rfl,trivial⟩ ⟨.slice none 0 0,rfl,rfl,rfl,rfl⟩)
 · first | exact bN hb97|(
 refine nav ?_;have hzo:=JU hb0 oM;have e7:=Y2 (f:=Zc) (hb0 oM);obtain ⟨U3,hU3⟩:∃W,W=YU l b0 true:=⟨_,rfl⟩;obtain ⟨U4,hU4⟩:∃W,W=YU l b0 false:=⟨_,rfl⟩;have hzU3:=Gv U3;have hbt:=ZfO (i:=i) (k:=k) hM1 hU2 oM hz hzo;(refine Zm ?_;refine xL 98 (Zd 15 Yx) ?_;refine yL 99 (Zi 15 Zy) fun v99 hv99=>?_;cases hv99;refine xL 100 (ZP Zs) ?_;refine yL 101 (Yy Zo) fun v101 hv101=>?_;cases hv101;refine xL 16 Zb ?_;refine Zn ?_)
 (refine xL 102 Za (xL 103 Za ?_)<;>(refine ZL [(1000,_,_),(1001,_,_),(200,_,_)] ⟨rfl,rfl,rfl,trivial⟩ ?_;refine ZT [200] 104 (call91) (Gr b v n l false b0 true hv hl) (fun v104 p104 h104 hR104=>?_);obtain ⟨rfl,rfl⟩:=hR104;dsimp only [PrH];rw [←hU3])<;>refine xL 105 (Z1 Zs) (xL 106 YN (xL 107 Za ?_))<;>(refine bLd 107 (fun hb107=>?_) (fun hb107=>?_)<;>(first|refine kL 108 ?_|refine xL 108 Za ?_))<;>(first|refine kL 109 ?_|refine xL 109 Za ?_)<;>(first|refine kL 110 ?_|(refine ZL [(1000,_,_),(1001,_,_),(200,_,_)] ⟨rfl,rfl,rfl,trivial⟩ ?_;refine ZT [200] 110 (call91) (Gr b v n l false b0 false hv hl) (fun v110 p110 h110 hR110=>?_);obtain ⟨rfl,rfl⟩:=hR110;dsimp only [PrH];rw [←hU4]))<;>(first|refine kL 111 ?_|refine xL 111 Za ?_)<;>(first|refine kL 112 ?_|(refine Ye (kk:=1) 112 ZB fun h112 ho112=>?_;refine Zp (En.freeze (l:=112) (t:=112) rfl rfl) fun _=>?_;refine Zp (Yk (t:=112) (p':=pInts [(k:Int)]) rfl rfl) fun _=>?_))<;>(first|refine kL 113 ?_|(refine cS 113 (cA call21 (KX (zs U4) [(k:Int)])) fun v113 h=>?_;cases h))<;>(first|refine kL 114 ?_|refine xL 114 Ym ?_)<;>refine xL 115 Zu ?_<;>refine Ze ?_)<;>(
 refine cX ?_ ?_<;>intro hb115
 · first |exact bN hb115|(
 refine Zf ?_;(refine xL 6 Zb (xL 7 Zb ?_);refine Ze ?_)
 rw [hgo,Su ha (by
  rw [hbt,Uo]
  first
   |exact fun h=>hb107 (by have h3:=h.2.2.1;rw [←hU3] at h3;omega)
   | (intro h
      have h4:=h.2.2.2;rw [←hU4] at h4;rw [h4] at hb115;simp [zs] at hb115))]
 refine Wm (WF 1002 3 1 rfl) fun _=>?_;exact L' (BrH b v n l (.slice none 0 0) []) (results92) rfl rfl ⟨rfl,rfl,rfl,trivial⟩ ⟨.slice none 0 0,rfl,rfl,rfl,rfl⟩)
 · first |exact bN hb115|(
 refine nav ?_;have hz4:U4=[k]:=Zhr (by simpa using hb115);(have hgood:brP l i k a=some (some j0):=by rw [hbt,Up ⟨oM,by simpa using hb92,by rw [←hU3];omega,by rw [←hU4];exact hz4⟩]);(refine Zm ?_;refine xL 116 Za (xL 117 Za ?_);refine Ye (kk:=1) 118 ZB fun h118 ho118=>?_;(refine Kk 200 118 119 ZB fun h119 ho119=>?_;refine Zp (Z0 (l:=119) 200 rfl rfl) fun _=>?_;refine Zp (ZF (l:=200) rfl (Od 3 m j0)) fun _=>?_);refine xL 10 Zb ?_;refine Zn ?_)
 (refine xL 120 ZO (xL 52 Za ?_);refine Ze ?_)
 first
  | (exact Zk (
      ⟨(j+1,m++[j0],h119),Zg ha,E1 ha hm hgood,ho119,by simp;omega⟩
      ) (by dsimp only;omega) ⟨rfl,rfl,rfl,rfl,rfl,rfl,rfl,trivial⟩ ⟨rfl,rfl,rfl,trivial⟩)
  | (exact Zk (
      ⟨(j+1,m,u),Zg ha,E0 ha hm (ZgD hM1 (by rw [hU2,show j0=k by omega])),hu,by dsimp only;omega⟩
      ) (by dsimp only;omega) ⟨rfl,rfl,rfl,rfl,rfl,rfl,rfl,trivial⟩ ⟨rfl,rfl,rfl,trivial⟩)))))))))
 · first|exact bN hb53|(
 refine Zf ?_;(refine xL 121 Za (xL 6 Zb (xL 7 Zb ?_));refine Ze ?_)
 rw [hgo,show brL l i k x.outs=some m by rw [←hm,Xs oM]];refine Wm (Z0 (l:=200) 1002 rfl rfl) fun _=>?_;exact L' (BrH b v n l u m) (results92) rfl rfl ⟨rfl,rfl,rfl,trivial⟩ ⟨u,hu,rfl,rfl,rfl⟩))))
theorem Ya:FldT prog 24 2 2=true:=by kernel_rfl
theorem Yq:NoAgg prog 22=true:=by kernel_rfl
theorem ζi:(prog.info? 22).map (·.size)=some 1:=by kernel_rfl
def Sv (l:List It) (m:List Nat):List Nd:=m.map fun j=>(l[j]?.map It.t).getD To
theorem ZdO (l:List It) (m:List Nat):(Sv l m).length=m.length:=by simp [Sv]
theorem ZbT {l:List It} {m:List Nat} {k j:Nat} {z:It} (hj:m[k]? =some j) (hz:l[j]? =some z):Sv l (m.take (k+1))=Sv l (m.take k)++[z.t]:=by
 rw [Yo hj];unfold Sv;rw [X2,Uc,hz];rfl
theorem Zao (l:List It) {m:List Nat} (h:m.length=0):S9 l m=To:=by unfold S9;rw [Up (XK h)]
theorem E3 (l:List It) {m:List Nat} (h:0<m.length):S9 l m=WB 5 (Sv l m):=by unfold S9;rw [Uo (fun e=>by subst e;simp at h)];rfl
theorem Zap {l:List It} {k:Nat} {z:It} (h:l[k]? =some z):((l.flatMap cIt).drop (k*5+2)).take 3=[Zc z.t.op,ZZ z.t.act,YK z.t.l]:=by
 have h1:=Z' YF l k z h
 have h2:(((((l.flatMap cIt).drop (k*5)).take 5).drop 2).take 3)=((cIt z).drop 2).take 3:=by rw [h1]
 rw [List.drop_take,List.take_take,Xy] at h2
 exact h2
theorem Oj {l:List It} {k:Nat} {z:It} (h:l[k]? =some z):k*5+2+3≤(l.flatMap cIt).length:=by
 have:=Yp YF h
 omega
theorem Zio {m:List Nat} {k j:Nat} (h:m[k]? =some j):((zs m).map Zc)[k*1]? =some (Zc (j:Int)):=by
 unfold zs
 rw [XF,Vx,Xo,h];rfl
theorem Zaq:Rr (.agg [Zc 2,ZZ ByteArray.empty, .val (.slice none 0 0)]) (pTr To):=Rr.agg rfl fun i a b ha hb=>by
 match i with
 |0=>cases ha;cases hb;exact Rr.rfl' _
 |1=>cases ha;cases hb;exact Rr.rfl' _
 |2=>cases ha;cases hb;exact Rr.nil
 |i+3=>simp at ha
theorem Zht (e:Nat) (L:List Nd) (z:Nd):PV.own e 3 (L.length+1) (Z6 L++[Zc z.op,ZZ z.act,YK z.l])= .own e 3 (L++[z]).length (Z6 (L++[z])):=by
 rw [We,We,Xt,Xg];simp [cN]
theorem Hw {l : List It} {i k:Nat}:∀{m:List Int} {t:List Nat},brL l i k m=some t→(∀j∈t,j<l.length)∧t.length≤m.length
 | [],t,h=>by
   cases h;exact ⟨fun _ h=>(by cases h),Xb _⟩
 | a :: m, t, h => by
   rw [brL] at h
   cases hb:brP l i k a with
   |none=>rw [hb] at h;cases h
   | some o =>
     rw [hb] at h
     cases o with
     | none=>
       obtain ⟨h1,h2⟩:=Hw (m:=m) h;exact ⟨h1,by rw [Xc];omega⟩
     | some j =>
       cases hm:brL l i k m with
       |none=>rw [hm] at h;cases h
       | some t' =>
         rw [hm] at h
         cases h;obtain ⟨h1,h2⟩:=Hw hm;refine ⟨fun x hx=>?_,by rw [Xc,Xc];omega⟩;rcases Xn.1 hx with rfl|hx
         · unfold brP at hb;split at hb
           · split at hb
             · cases hb
             · split at hb
               · rename_i z hz;split at hb
                 · split at hb
                   · cases hb;exact Zg hz
                   · cases hb
                 · cases hb
               · cases hb
           · cases hb
         · exact h1 x hx
theorem Zar {l:List It} {i k:Nat} {x y:It} {m:List Nat} (h:brX l i k x y=some m):(∀j∈m,j<l.length)∧m.length≤x.outs.length:=by
 unfold brX at h
 split at h
 · exact Hw h
 · cases h
theorem Zas {l:List It} {m:List Nat} (hf:ItF l) (hm:m.length≤100000):FitT (S9 l m):=by
 have h0:FitT To:= .mk _ dC dC dC dC fun x hx=>by cases hx
 unfold S9
 split
 · exact h0
 · refine Of dC dC (by simpa using hm) fun z hz=>?_;obtain ⟨j,_,rfl⟩:=Xq.1 hz
   cases hj:l[j]? with
   |none=>exact h0
   |some z=>exact hf z (Xd hj)
theorem Ds {op:Int} {x y z:Nd} (h0:0≤op) (h1:op≤100) (hx:FitT x) (hy:FitT y) (hz:FitT z):FitT (WB op [x,y,z]):=Of h0 h1 (by show 3≤_;omega) fun w hw=>by
 rcases Xn.1 hw with rfl|hw
 · exact hx
 · rcases Xn.1 hw with rfl|hw
   · exact hy
   · rw [Xr.1 hw];exact hz
set_option maxHeartbeats 4000000 in
theorem E4 (b : Nat) (v:Value) (n:Nt) (l:List It) (hv:v.oneCell'=true) (hl:l.length≤1000) (hf:ItF l) (hxl:∀x∈l,x.outs.length≤100000):AFh False prog 46 [(0,ZX b, .val (ZX b))] (PrH b v n l false) (RuR b n l (RX l.length (rlP l))):=by
 have hone:En.one (PV.val v)=true:=hv
 unfold PrH
 refine AFh.of_body 86 func46 rfl ntmps46 (Xa rfl) rfl ?_
 intro w0 M0 N0
 refine Zf ?_
 (refine xL 2 Zb ?_;refine Zn ?_)
 (refine xL 12 Za (xL 13 (ZC 1000) (xL 14 (Zd 1000 Yc) ?_));refine yL 15 (Zi 1000 YA) fun v15 hv15=>?_;cases hv15;refine xL 16 (YV 1001 Yl) (xL 17 Za ?_);refine Ze ?_)
 refine ZE (ι:={k:Nat//k≤l.length∧∀i j,i<k→j<l.length→rlP l i j=none}) (fun k=>⟨[(0,_,_),(15,_,_),(16,_,_),(17, .int .i64 k.1,Zc k.1)],[(1000,_,_),(1001,_,_)]⟩) (fun k=>l.length-k.1) ⟨0,oM,oM⟩ (fun a w H=>H.weaken ⟨rfl,rfl,rfl,rfl,trivial⟩ ⟨rfl,rfl,trivial⟩) ?_
 rintro ⟨k,hk,hp⟩
 dsimp only
 refine Zf ?_
 (refine xL 18 ZR ?_;refine Ze ?_)
 refine cX ?_ ?_<;>intro hb18
 · first | exact bN hb18|(
 obtain ⟨x,hx⟩:=Zw (show k<l.length by omega);have e1:=Z' YF l k x hx;have e2:=Yp YF hx;have hlt:=Zg hx;refine Zf ?_;(refine xL 19 Za (xL 20 (Zt 1001 Yl) ?_);refine yL 21 (Zq 1001 Z4) fun v21 hv21=>?_;cases hv21;refine ZA [(.slice none 0 0),(.slice none 0 0),(.int .i64 0),(.string ByteArray.empty),(.slice none 0 0)] 5 4 Y1 fun h4=>?_;refine xL 3 Zb ?_;refine Zv 4 Z4 ?_;refine Zn ?_)
 (refine xL 22 Za (xL 23 (ZC 1000) (xL 24 (Zd 1000 Yc) ?_));refine yL 25 (Zi 1000 YA) fun v25 hv25=>?_;cases hv25;refine xL 26 (YV 1001 Yl) (xL 27 Za ?_);refine Ze ?_)
 refine ZE (ι:={q:Nat//q≤l.length∧∀j,j<q→rlP l k j=none}) (fun k=>⟨[(0,_,_),(3,_,_),(4,_,_),(15,_,_),(16,_,_),(17,_,_),(25,_,_),(26,_,_),(27, .int .i64 k.1,Zc k.1)],[(4,_,_),(1000,_,_),(1001,_,_)]⟩) (fun k=>l.length-k.1) ⟨0,oM,oM⟩ (fun a w H=>H.weaken ⟨rfl,rfl,rfl,rfl,rfl,rfl,rfl,rfl,rfl,trivial⟩ ⟨rfl,rfl,rfl,trivial⟩) ?_;rintro ⟨q,hq1,hq⟩;dsimp only;refine Zf ?_;(refine xL 28 ZR ?_;refine Ze ?_)
 refine cX ?_ ?_<;>intro hb28
 · first | exact bN hb28|(
 obtain ⟨y,hy⟩:=Zw (show q<l.length by omega);have e5:=Z' YF l q y hy;have e6:=Yp YF hy;have hr:=ZdL hx hy;obtain ⟨o,ho⟩:∃o,o=brX l k q x y:=⟨_,rfl⟩;have hbr:=E2 b v n l k q x y hv hl hx hy (hxl x (Xd hx));rw [←ho] at hbr hr;refine Zf ?_;(refine xL 29 Za (xL 30 (Zt 1001 Yl) ?_);refine yL 31 (Zq 1001 Z4) fun v31 hv31=>?_;cases hv31;refine ZA [(.slice none 0 0),(.slice none 0 0),(.int .i64 0),(.string ByteArray.empty),(.slice none 0 0)] 5 6 Y1 fun h6=>?_;refine xL 5 Zb ?_;refine Zv 6 Z4 ?_;refine Zn ?_)
 (refine xL 33 Za (xL 34 Za (xL 35 Za ?_));(refine ZL [(1000,_,_),(1001,_,_),(4,_,_),(6,_,_)] ⟨rfl,rfl,rfl,rfl,trivial⟩ ?_;refine ZT [4,6] 36 (call92) hbr (fun v36 p36 h36 hR36=>?_);obtain ⟨u,hu,rfl,rfl,rfl⟩:=hR36;have honeu:En.one (PV.val u)=true:=hu;dsimp only [BrH];refine Zp (Z0 (l:=1002) 300 rfl rfl) fun _=>?_;refine ZL [(4,_,_),(6,_,_),(300,_,_),(1000,_,_),(1001,_,_)] ⟨rfl,rfl,rfl,rfl,rfl,trivial⟩ ?_);refine xL 32 Za (xL 37 ZK (xL 38 ZK (xL 7 Zb (xL 8 Zb ?_))));refine Zn ?_)
 (refine xL 39 Za (xL 40 Ym ?_);refine Ze ?_)
 refine cX ?_ ?_<;>intro hb40
 · first |exact bN hb40|(
 refine Zf ?_;(refine xL 84 ZO (xL 27 Za ?_);refine Ze ?_)
 refine Zk (
  ⟨q +1,Zg hy,fun j hj=>by
   by_cases e:j=q
   · subst e;rw [hr]
     cases o with
     |none=>rfl
     |some m=>cases hb40
   · exact hq j oM⟩
  ) (by dsimp only;omega) ⟨rfl,rfl,rfl,rfl,rfl,rfl,rfl,rfl,rfl,trivial⟩ ⟨rfl,rfl,rfl,trivial⟩)
 · first | exact bN hb40|(
 obtain ⟨m,rfl⟩:∃m,o=some m:=by
  cases o with
  |none=>cases hb40
  |some m=>exact ⟨m,rfl⟩
 obtain ⟨hm1,hm2⟩:=Zar ho.symm;have hm3:=hxl x (Xd hx);have hzm:=Gv m;dsimp only [Option.getD,Option.isSome];refine Zf ?_;(refine xL 41 (Z3 KD) ?_;refine ZA [(.int .i64 0),(.string ByteArray.empty),(.slice none 0 0)] 3 9 Kg fun h9=>?_;(refine Zp (WT (t:=41) (p':=pTr To) rfl Zaq) fun _=>?_;refine Zv 9 ZH ?_);refine Zn ?_)
 (refine xL 42 Za (xL 43 (YV 300 Zs) (xL 44 Wy ?_));refine Ze ?_)
 refine Kj (fun T:{T:Nd//T=S9 l m}=>⟨[(0,ZX b, .val (ZX b)),(3, .int .i64 k,Zc k),(4,padd (sbase h4) 0, .val (padd (sbase h4) 0)),(5, .int .i64 q,Zc q),(6,padd (sbase h6) 0, .val (padd (sbase h6) 0)),(7,u, .val u),(9,padd (sbase h9) 0, .val (padd (sbase h9) 0))],[(4,h4, .own 85 5 1 (cIt x)),(6,h6, .own 85 5 1 (cIt y)),(9,h9, .own 24 3 1 (cN T.1)),(300,u, .own 3 1 (zs m).length ((zs m).map Zc)),(1000,Yd b, .own 83 6 1 [Zc n.pl,JS n.tr,Zc n.src,Zc n.snk, .val v, .val (.bool false)]),(1001,v, .own 85 5 l.length (l.flatMap cIt))]⟩) ?_ ?_
 · refine cX ?_ ?_<;>intro hb44
   · first | exact bN hb44|(
 refine Zf ?_;(refine xL 45 (Z3 KD) ?_;refine Zv 9 ZH ?_;refine Ze ?_)
 refine Zz (WF 301 24 3 rfl) fun _=>?_;(refine Zm ?_;refine xL 46 Za (xL 47 (YV 300 Zs) (xL 48 Za ?_));refine Ze ?_)
 refine ZE (ι:={w:Nat×Value//w.1≤m.length∧w.2.oneCell'=true}) (fun k=>⟨[(0,_,_),(3,_,_),(4,_,_),(5,_,_),(6,_,_),(7,_,_),(9,_,_),(46,_,_),(47,_,_),(48, .int .i64 k.1.1,Zc k.1.1)],[(4,_,_),(6,_,_),(300,_,_),(1000,_,_),(1001,_,_),(9,h9, .own 24 3 1 [Zc 5,ZZ ByteArray.empty, .val k.1.2]),(301,k.1.2, .own 24 3 (Sv l (m.take k.1.1)).length (Z6 (Sv l (m.take k.1.1))))]⟩) (fun k=>m.length-k.1.1) ⟨(0, .slice none 0 0),Xh _,rfl⟩ (fun a w H=>H.weaken ⟨rfl,rfl,rfl,rfl,rfl,rfl,rfl,rfl,rfl,rfl,trivial⟩ ⟨rfl,rfl,rfl,rfl,rfl,rfl,rfl,trivial⟩) ?_;rintro ⟨⟨w,s⟩,hw,hs⟩;dsimp only;dsimp only at hw hs;have hones:En.one (PV.val s)=true:=hs;refine Zf ?_;(refine xL 49 ZR ?_;refine Ze ?_)
 refine cX ?_ ?_<;>intro hb49
 · first|exact bN hb49|(
 obtain ⟨j,hj⟩:=Zw (show w<m.length by omega);obtain ⟨z,hz⟩:=Zw (hm1 j (Xd hj));have e8:=Zio hj;have e9:=Zap hz;have e10:=Oj hz;have hjl:=Zg hz;(have htl:(Sv l (m.take w)).length≤w:=by rw [ZdO,Xl];omega);refine Zf ?_;(refine xL 50 (Zt 300 Zs) ?_;refine yL 51 (Zi 300 Zo) fun v51 hv51=>?_;cases hv51;refine xL 11 Zb ?_;refine Ze ?_)
 (refine ZS (fun i=>([13]:List Nat).elem i) [9,1000,1001] kR ?_<;>refine xD 0 52 rfl (Zd 9 Ya) ?_<;>(refine yD 1 53 rfl (Zi 9 Yq) fun v53 h=>?_;cases h)<;>refine xD 2 54 rfl Za ?_<;>refine xD 3 55 rfl (ZC 1000) ?_<;>refine xD 4 56 rfl (Zd 1000 Yc) ?_<;>(refine yD 5 57 rfl (Zi 1000 YA) fun v57 h=>?_;cases h)<;>refine xE 6 58 rfl Za ?_<;>refine xE 7 59 rfl (Zt 1001 Yl) ?_<;>refine xE 8 60 rfl (Zd 1001 Wu) ?_<;>(refine yE 9 61 rfl (Zq 1001 ZH) fun v61 h=>?_;cases h)<;>(refine Zl 10 kR ?_)<;>(refine Zj rfl fun w9 M9 N9 DQ back=>?_)<;>refine K1 62 Kh fun h62 ho62=>?_<;>refine Zh (back _ (nrm ?_))<;>(refine Zl 11 kR ?_)<;>(refine Zj rfl fun w9 M9 N9 DQ back=>?_)<;>(refine Kk 301 62 63 Kh fun h63 ho63=>?_;have hone63:En.one (PV.val h63)=true:=ho63;refine Zp (Z0 (l:=63) 301 rfl rfl) fun _=>?_;refine Zp (ZF (l:=301) rfl (Zht 24 (Sv l (m.take w)) z.t)) fun _=>?_;rw [←ZbT hj hz])<;>refine Zh (back _ (nrm ?_))<;>refine xE 12 64 rfl (Zd 9 Ya) ?_<;>(refine Zl 13 kR ?_)<;>(refine WX rfl rfl kR fun DQ back=>?_)<;>refine Y3 9 Yq ζi ?_<;>refine Zh (back _ (nav ?_))<;>try dsimp only)
 (refine Zm ?_;refine xL 65 ZO (xL 48 Za ?_);refine Ze ?_)
 refine Zk (
  ⟨(w+1,h63),Zg hj,ho63⟩
  ) (by dsimp only;omega) ⟨rfl,rfl,rfl,rfl,rfl,rfl,rfl,rfl,rfl,rfl,trivial⟩ ⟨rfl,rfl,rfl,rfl,rfl,rfl,rfl,trivial⟩)
 · first |exact bN hb49|(
 refine nav ?_
 first
  |exact ZW ⟨To,(Zao l oM).symm⟩ ⟨rfl,rfl,rfl,rfl,rfl,rfl,rfl,trivial⟩ ⟨rfl,rfl,rfl,rfl,rfl,rfl,trivial⟩
  | (refine K0 (Wl (l:=9) (l':=301) (j:=2) rfl rfl rfl rfl) fun _=>?_
     refine K0 (ZF (l:=9) rfl (show PV.own 24 3 1 [Zc 5,ZZ ByteArray.empty,share (.own 24 3 (Sv l (m.take w)).length (Z6 (Sv l (m.take w))))]= .own 24 3 1 (cN (S9 l m)) by rw [JX _ _ _ rfl,Xs oM,E3 l oM];rfl)) fun _=>?_;exact ZW ⟨S9 l m,rfl⟩ ⟨rfl,rfl,rfl,rfl,rfl,rfl,rfl,trivial⟩ ⟨rfl,rfl,rfl,rfl,rfl,rfl,trivial⟩)))
   · first |exact bN hb44|(
 refine nav ?_
 first
  |exact ZW ⟨To,(Zao l oM).symm⟩ ⟨rfl,rfl,rfl,rfl,rfl,rfl,rfl,trivial⟩ ⟨rfl,rfl,rfl,rfl,rfl,rfl,trivial⟩
  | (refine K0 (Wl (l:=9) (l':=301) (j:=2) rfl rfl rfl rfl) fun _=>?_
     refine K0 (ZF (l:=9) rfl (show PV.own 24 3 1 [Zc 5,ZZ ByteArray.empty,share (.own 24 3 (Sv l (m.take w)).length (Z6 (Sv l (m.take w))))]= .own 24 3 1 (cN (S9 l m)) by rw [JX _ _ _ rfl,Xs oM,E3 l oM];rfl)) fun _=>?_;exact ZW ⟨S9 l m,rfl⟩ ⟨rfl,rfl,rfl,rfl,rfl,rfl,rfl,trivial⟩ ⟨rfl,rfl,rfl,rfl,rfl,rfl,trivial⟩))
 · rintro ⟨T,hT⟩;dsimp only;have hft:FitT (WB 3 [x.t,T,y.t]):=Ds dC dC (hf x (Xd hx)) (hT▸Zas hf oM) (hf y (Xd hy));refine nav ?_;(refine ZS (fun i=>([17,18]:List Nat).elem i) [4,6,9] kR ?_<;>refine xDT 0 66 rfl Za ?_<;>refine xDT 1 67 rfl Za ?_<;>refine xDT 2 68 rfl (Zd 4 YQ) ?_<;>(refine yDT 3 69 rfl (Zi 4 Zy) fun v69 h=>?_;cases h)<;>refine xDT 4 70 rfl (Zd 6 Yx) ?_<;>(refine yDT 5 71 rfl (Zi 6 Zy) fun v71 h=>?_;cases h)<;>refine xDT 6 72 rfl (Zd 4 Wu) ?_<;>(refine yDT 7 73 rfl (Zq 4 ZH) fun v73 h=>?_;cases h)<;>(refine yDT 8 74 rfl (Zq 9 ZH) fun v74 h=>?_;cases h)<;>refine xDT 9 75 rfl (Zd 6 Wu) ?_<;>(refine yDT 10 76 rfl (Zq 6 ZH) fun v76 h=>?_;cases h)<;>refine xDT 13 79 rfl Za ?_<;>refine xDT 14 80 rfl Za ?_<;>(refine YD 11 15 kR ?_ ?_;rotate_right;(focus ((refine Zj rfl fun w9 M9 N9 DQ back=>?_)<;>refine Ye (kk:=1) 81 ZB fun h81 ho81=>?_<;>refine Zh (back _ (nrm ?_))<;>(refine Zl 11 kR ?_)<;>(refine Zj rfl fun w9 M9 N9 DQ back=>?_)<;>(refine Jh (kk:=3) (xs:=[_,_,_]) (cs:=[[_,_,_],[_,_,_],[_,_,_]]) 77 Kh fun h77 ho77=>?_;refine Zp (En.freeze (l:=77) (t:=77) rfl rfl) fun _=>?_;refine Zp (Yk (t:=77) (p':=YK [x.t,T,y.t]) rfl (Dp x.t T y.t)) fun _=>?_)<;>refine Zh (back _ (nrm ?_))<;>(refine Zl 12 kR ?_)<;>(refine Zj rfl fun w9 M9 N9 DQ back=>?_)<;>(refine cD 78 (cA call90 (KP 3 [x.t,T,y.t])) fun v78 hv78=>?_;clear hv78)<;>refine Zh (back _ (nrm ?_))<;>(refine Zl 16 kR ?_)<;>(refine Zj rfl fun w9 M9 N9 DQ back=>?_)<;>(refine Kk 300 81 82 ZB fun h82 ho82=>?_;refine Zp (ZF (l:=82) rfl (Od 3 m q)) fun _=>?_;refine Zp (En.freeze (l:=82) (t:=82) rfl rfl) fun _=>?_;refine Zp (Yk (t:=82) (p':=pInts (zs (m++[q]))) rfl (WO 3 _ _ rfl)) fun _=>?_)<;>refine Zh (back _ (nrm ?_))));rotate_right;(focus ((refine Zj rfl fun w9 M9 N9 DQ back=>?_)<;>(refine Jh (kk:=3) (xs:=[_,_,_]) (cs:=[[_,_,_],[_,_,_],[_,_,_]]) 77 Kh fun h77 ho77=>?_;refine Zp (En.freeze (l:=77) (t:=77) rfl rfl) fun _=>?_;refine Zp (Yk (t:=77) (p':=YK [x.t,T,y.t]) rfl (Dp x.t T y.t)) fun _=>?_)<;>refine Zh (back _ (nrm ?_))<;>(refine YD 12 15 kR ?_ ?_;rotate_right;(focus ((refine Zj rfl fun w9 M9 N9 DQ back=>?_)<;>refine Ye (kk:=1) 81 ZB fun h81 ho81=>?_<;>refine Zh (back _ (nrm ?_))<;>(refine Zl 12 kR ?_)<;>(refine Zj rfl fun w9 M9 N9 DQ back=>?_)<;>(refine cD 78 (cA call90 (KP 3 [x.t,T,y.t])) fun v78 hv78=>?_;clear hv78)<;>refine Zh (back _ (nrm ?_))<;>(refine Zl 16 kR ?_)<;>(refine Zj rfl fun w9 M9 N9 DQ back=>?_)<;>(refine Kk 300 81 82 ZB fun h82 ho82=>?_;refine Zp (ZF (l:=82) rfl (Od 3 m q)) fun _=>?_;refine Zp (En.freeze (l:=82) (t:=82) rfl rfl) fun _=>?_;refine Zp (Yk (t:=82) (p':=pInts (zs (m++[q]))) rfl (WO 3 _ _ rfl)) fun _=>?_)<;>refine Zh (back _ (nrm ?_))));rotate_right;(focus ((refine Zj rfl fun w9 M9 N9 DQ back=>?_)<;>(refine cD 78 (cA call90 (KP 3 [x.t,T,y.t])) fun v78 hv78=>?_;clear hv78)<;>refine Zh (back _ (nrm ?_))<;>(refine Zl 15 kR ?_)<;>(refine Zj rfl fun w9 M9 N9 DQ back=>?_)<;>refine Ye (kk:=1) 81 ZB fun h81 ho81=>?_<;>refine Zh (back _ (nrm ?_))<;>(refine Zl 16 kR ?_)<;>(refine Zj rfl fun w9 M9 N9 DQ back=>?_)<;>(refine Kk 300 81 82 ZB fun h82 ho82=>?_;refine Zp (ZF (l:=82) rfl (Od 3 m q)) fun _=>?_;refine Zp (En.freeze (l:=82) (t:=82) rfl rfl) fun _=>?_;refine Zp (Yk (t:=82) (p':=pInts (zs (m++[q]))) rfl (WO 3 _ _ rfl)) fun _=>?_)<;>refine Zh (back _ (nrm ?_))))))))<;>(refine Zl 17 kR ?_)<;>(refine K6 rfl rfl fun DQ back=>?_)<;>(refine ZL [(1000,_,_),(1001,_,_),(4,_,_),(6,_,_),(9,_,_)] ⟨rfl,rfl,rfl,rfl,rfl,trivial⟩ ?_;refine ZT [4,6,9] 83 (call89) (Pl b v n l ⟨k,x.ins,y.outs,WB 3 [x.t,T,y.t],m++[q]⟩ hv hl hlt hft _ _ _ _) (fun v83 p83 h83 hR83=>?_);obtain ⟨v',hv',rfl,rfl,rfl⟩:=hR83;dsimp only [PrH])<;>refine Zh (back _ ?_)<;>(refine KO 18 kR rfl rfl fun DQ back=>?_)<;>refine xL 2 Zb ?_<;>refine Zh (back _ ?_)<;>refine JM kR (nav ?_)<;>try dsimp only)<;>(
 refine WQ (PrH b v' n (ruX l (some ⟨k,x.ins,y.outs,WB 3 [x.t,T,y.t],m++[q]⟩)).2.1 (ruX l (some ⟨k,x.ins,y.outs,WB 3 [x.t,T,y.t],m++[q]⟩)).2.2) (results46) rfl ⟨rfl,rfl,trivial⟩ ?_;(have hr2:rlP l k q=some ⟨k,x.ins,y.outs,WB 3 [x.t,T,y.t],m++[q]⟩:=by rw [hr,VM,hT]);rw [Rb hlt (Zg hy) hr2 hp hq];exact ⟨v',hv',rfl,rfl,rfl⟩)))
 · first |exact bN hb28|(
 refine Zf ?_;(refine xL 85 ZO (xL 17 Za ?_);refine Ze ?_)
 refine Zk (
  ⟨k +1,Zg hx,fun i j hi hj=>by
   by_cases e:i=k
   · subst e;exact hq j oM
   · exact hp i j oM hj⟩
  ) (by dsimp only;omega) ⟨rfl,rfl,rfl,rfl,trivial⟩ ⟨rfl,rfl,trivial⟩))
 · first|exact bN hb18|(
 refine Zf ?_;(refine xL 2 Zb ?_;refine Ze ?_)
 refine WQ (PrH b v n l false) (results46) rfl ⟨rfl,rfl,trivial⟩ ?_;rw [Ra fun i j hi hj=>hp i j oM hj];exact ⟨v,hv,rfl,rfl,rfl⟩)
def JC (n:Nt) (l:List It):Nat→Option Rl
 |0=>RX l.length (rlC l)
 |1=>LM n.pl.toNat (rlS n l)
 |2=>RX l.length (rlL l)
 |_=>RX l.length (rlP l)
theorem Ol (n:Nt) (l:List It):Gm n l=(JC n l 0).or ((JC n l 1).or ((JC n l 2).or (JC n l 3))):=rfl
theorem Om {n:Nt} {l:List It} (h:∀j,j<4→JC n l j=none):Gm n l=none:=by
 rw [Ol,h 0 oM,h 1 oM,h 2 oM,h 3 oM];rfl
theorem ZdP {n:Nt} {l:List It} {k:Nat} {a:Rl} (hk:k<4) (h:JC n l k=some a) (h0:∀j,j<k→JC n l j=none):Gm n l=some a:=by
 rw [Ol]
 match k,hk with
 |0,_=>rw [h];rfl
 |1,_=>rw [h0 0 oM,h];rfl
 |2,_=>rw [h0 0 oM,h0 1 oM,h];rfl
 |3,_=>rw [h0 0 oM,h0 1 oM,h0 2 oM,h];rfl
theorem GO {α:Type} {n:Nat} {f:Nat→Option α} {a:α} (h:LM n f=some a):∃k,k<n∧f k=some a:=by
 unfold LM at h
 obtain ⟨k,hk,h1⟩:=List.exists_of_findSome?_eq_some h
 exact ⟨k,Vf.1 hk,h1⟩
theorem On {α:Type} {n:Nat} {f:Nat→Nat→Option α} {a:α} (h:RX n f=some a):∃i k,i<n∧k<n∧f i k=some a:=by
 obtain ⟨i,hi,h1⟩:=GO h
 obtain ⟨k,hk,h2⟩:=GO h1
 exact ⟨i,k,hi,hk,h2⟩
structure RlOk (l:List It) (a:Rl):Prop where
 lt:a.i<l.length
 out:∃x∈l,a.outs=x.outs
 gone:∃j,j<l.length∧a.gone.contains j=true
 fit:ItF l→(∀x∈l,x.outs.length≤100000)→FitT a.t
theorem Hx (k:Nat):[k].contains k=true:=sM
theorem Zhu {l:List It} {i k:Nat} {a:Rl} (h:rlC l i k=some a):RlOk l a:=by
 unfold rlC at h
 split at h
 · rename_i x y hx hy;split at h
   · cases h;exact ⟨Zg hx,⟨x,Xd hx,rfl⟩,⟨k,Zg hy,Hx k⟩,fun hf _=>Ti dC dC (hf x (Xd hx)) (hf y (Xd hy))⟩
   · cases h
 · cases h
theorem Zhv {n:Nt} {l:List It} {p:Nat} {a:Rl} (h:rlS n l p=some a):RlOk l a:=by
 unfold rlS at h
 split at h
 · split at h
   · rename_i x y hx hy;split at h
     · cases h;exact ⟨Zg hx,⟨y,Xd hy,rfl⟩,⟨_,Zg hy,Hx _⟩,fun hf _=>Ti dC dC (hf x (Xd hx)) (hf y (Xd hy))⟩
     · cases h
   · cases h
 · cases h
theorem Zhw {l:List It} {i k:Nat} {a:Rl} (h:rlL l i k=some a):RlOk l a:=by
 unfold rlL at h
 split at h
 · rename_i x y hx hy;split at h
   · rename_i c d h1 h2;split at h
     · cases h;exact ⟨Zg hx,⟨x,Xd hx,h2.symm⟩,⟨k,Zg hy,Hx k⟩,fun hf _=>Ti dC dC (hf x (Xd hx)) (hf y (Xd hy))⟩
     · cases h
   · cases h
 · cases h
theorem Zhx {l:List It} {i k:Nat} {a:Rl} (h:rlP l i k=some a):RlOk l a:=by
 cases hx:l[i]? with
 |none=>unfold rlP at h;rw [hx] at h;cases h
 | some x=>
   cases hy:l[k]? with
   |none=>unfold rlP at h;rw [hx,hy] at h;cases h
   | some y=>
     rw [ZdL hx hy,XS] at h;obtain ⟨m,hm,rfl⟩:=h;obtain ⟨h1,h2⟩:=Zar hm;exact ⟨Zg hx,⟨y,Xd hy,rfl⟩,⟨k,Zg hy,sM⟩,fun hf hxl=>Ds dC dC (hf x (Xd hx)) (Zas hf (by have:=hxl x (Xd hx);omega)) (hf y (Xd hy))⟩
theorem Sx {n:Nt} {l:List It} {k:Nat} {a:Rl} (h:JC n l k=some a):RlOk l a:=by
 match k with
 |0=>obtain ⟨_,_,_,_,h⟩:=On h;exact Zhu h
 |1=>obtain ⟨_,_,h⟩:=GO h;exact Zhv h
 |2=>obtain ⟨_,_,_,_,h⟩:=On h;exact Zhw h
 |k+3=>obtain ⟨_,_,_,_,h⟩:=On h;exact Zhx h
theorem Oo {n:Nt} {l:List It} {a:Rl} (h:Gm n l=some a):RlOk l a:=by
 rw [Ol] at h
 cases h0:JC n l 0 with
 |some b=>rw [h0] at h;cases h;exact Sx h0
 | none=>
   rw [h0,Option.none_or] at h
   cases h1:JC n l 1 with
   |some b=>rw [h1] at h;cases h;exact Sx h1
   | none=>
     rw [h1,Option.none_or] at h
     cases h2:JC n l 2 with
     |some b=>rw [h2] at h;cases h;exact Sx h2
     |none=>rw [h2,Option.none_or] at h;exact Sx h
theorem ZbU (l:List It) (gone:List Nat) (k:Nat):(Lp l gone (k+1)).length≤(Lp l gone k).length+1:=by
 unfold Lp
 rw [VP,List.filterMap_append,Xg]
 have:=List.length_filterMap_le (fun j=>if gone.contains j then none else l[j]?) [k]
 simp only [Xu] at this
 omega
theorem Zat {l:List It} {gone:List Nat} {j:Nat} (hj:gone.contains j=true):∀k,j<k→(Lp l gone k).length<k
 |0,h=>oM
 | k +1,h=>by
   by_cases e:j=k
   · subst e;rw [Zal hj];have:=Zam l gone j;omega
   · have:=Zat (l:=l) hj k oM;have:=ZbU l gone k;omega
theorem ZfP {l:List It} {gone:List Nat} {x:It} (h:x∈EX l gone):x∈l:=by
 unfold EX at h
 obtain ⟨j,_,hj⟩:=List.mem_filterMap.1 h
 split at hj
 · cases hj
 · exact Xd hj
structure ItOk (n:Nt) (l:List It):Prop where
 len:l.length≤1000
 fit:ItF l
 out:∀x∈l,x.outs.length≤100000
theorem Dt {l:List It} {a:Rl} {m:List It} (h:Gn l a=some m):Jf (Yw a.t)=true∧m=EX (l.set a.i ⟨a.ins,a.outs,Yw a.t⟩) a.gone:=by
 unfold Gn at h
 split at h
 · rename_i hc;cases h;exact ⟨hc.2,rfl⟩
 · cases h
theorem Pm {l:List It} {a:Rl} {m:List It} (ha:RlOk l a) (h:Gn l a=some m):m.length<l.length:=by
 obtain ⟨_,rfl⟩:=Dt h
 obtain ⟨j,hj,hg⟩:=ha.gone
 have:=Zat (l:=l.set a.i ⟨a.ins,a.outs,Yw a.t⟩) hg (l.set a.i ⟨a.ins,a.outs,Yw a.t⟩).length (by rw [Xi];exact hj)
 rw [Xi] at this
 show (Lp _ _ (l.set a.i ⟨a.ins,a.outs,Yw a.t⟩).length).length<_
 rw [Xi];exact this
theorem ItOk.join {n:Nt} {l:List It} {a:Rl} {m:List It} (hl:ItOk n l) (ha:RlOk l a) (h:Gn l a=some m):ItOk n m:=by
 have hlt:=Pm ha h
 obtain ⟨hv,rfl⟩:=Dt h
 have key:∀x∈EX (l.set a.i ⟨a.ins,a.outs,Yw a.t⟩) a.gone,x∈l∨x=⟨a.ins,a.outs,Yw a.t⟩:=fun x hx=>(List.mem_or_eq_of_mem_set (ZfP hx))
 refine ⟨by have:=hl.len;omega,fun x hx=>?_,fun x hx=>?_⟩
 · rcases key x hx with h1|rfl
   · exact hl.fit x h1
   · exact Sa _ (TA hv) (by have:=SV hv;show szT (Yw a.t)≤_;omega)
 · rcases key x hx with h1|rfl
   · exact hl.out x h1
   · obtain ⟨y,hy,e⟩:=ha.out;show a.outs.length≤_;rw [e];exact hl.out y hy
theorem step_nil (n:Nt):Gm n []=none:=Om fun j hj=>by
 cases h:JC n [] j with
 |none=>rfl
 | some a=>
   have:=(Sx h).lt;simp at this
theorem Sy {n:Nt}:∀(f:Nat) (l:List It) (g:Nat),l.length≤f→l.length≤g→Jn n f l=Jn n g l
 | 0,l,g,hf,hg=>by
   have:l=[]:=XK oM;subst this
   cases g with
   |zero=>rfl
   |succ g=>rw [Jn,Jn,step_nil]
 | f+1,l,0,hf,hg=>by
   have:l=[]:=XK oM;subst this;rw [Jn,Jn,step_nil]
 | f + 1,l,g+1,hf,hg=>by
   rw [Jn,Jn]
   cases hs:Gm n l with
   |none=>rfl
   | some a=>
     dsimp only
     cases hj:Gn l a with
     |none=>rfl
     | some m=>
       dsimp only;have:=Pm (Oo hs) hj;exact Sy f m g oM oM
def LO (n:Nt) (l:List It):Option (List It):=Jn n l.length l
theorem ZdQ {n:Nt} {l:List It} (h:Gm n l=none):LO n l=some l:=by
 unfold LO
 rw [Sy l.length l (l.length+1) (Xb _) (X3 _),Jn,h]
theorem ZbV {n:Nt} {l:List It} {a:Rl} (h:Gm n l=some a) (hj:Gn l a=none):LO n l=none:=by
 unfold LO
 rw [Sy l.length l (l.length+1) (Xb _) (X3 _),Jn,h]
 dsimp only;rw [hj]
theorem ZfQ {n:Nt} {l m:List It} {a:Rl} (h:Gm n l=some a) (hj:Gn l a=some m):LO n l=LO n m:=by
 have hlt:=Pm (Oo h) hj
 unfold LO
 rw [Sy l.length l (l.length+1) (Xb _) (X3 _),Jn,h]
 dsimp only;rw [hj]
 exact Sy _ _ _ oM (Xb _)
def toR (n:Nt):Nd×Int:=match LO n (n.tr.map it0) with
 |none=>(nd0,5)
 |some [x]=>if x.ins=[n.src]∧x.outs=[n.snk] then (x.t,0) else (nd0,19)
 |some _=>(nd0,19)
theorem Pn (n:Int):∀(l:List Int) (lo:Int),(∀x∈l,lo≤x∧x<n)→l.Pairwise (· < ·)→l.length≤(n-lo).toNat
 |[],lo,_,_=>Xh _
 | x::l,lo,h,hp=>by
   obtain ⟨h1,h2⟩:=XQ.1 hp;have hx:=h x (XD ..);have:=Pn n l (x+1) (fun y hy=>⟨by have:=h1 y hy;omega,(h y (XI _ hy)).2⟩) h2;rw [Xc];omega
end Go.Proofs.YtpiemogpblmiiaaGreatDoor
namespace Go.Cb
set_option linter.all false
open Go.En
def vec {α:Type} (n:Nat) (f:Nat→α):List α:=(List.range n).map f
theorem Li {α:Type} (n:Nat) (f:Nat→α):(vec n f).length=n:=by simp [vec]
theorem Sz {α:Type} {n i:Nat} (f:Nat→α) (h:i<n):(vec n f)[i]? =some (f i):=by simp [vec,h]
theorem Zau {α:Type} {n:Nat} {l:List α} {f:Nat→α} (hl:l.length=n) (h:∀i x,l[i]? =some x→x=f i):l=vec n f:=by
 apply VN
 intro i
 rcases Xm i n with hi|hi
 · obtain ⟨x,hx⟩:=YL (show i<l.length by omega);rw [hx,Sz f hi,h i x hx]
 · rw [Vn oM,Vn (by rw [Li];exact hi)]
theorem ZfR {α:Type} {n a:Nat} (f:Nat→α) (b:α):(vec n f).set a b=vec n (fun i=>if i=a then b else f i):=by
 refine Zau (by simp [vec]) fun i x hx=>?_
 have hi:=Zg hx
 rw [Xi,Li] at hi
 rw [List.getElem?_set] at hx
 split at hx
 · rename_i e;subst e;split at hx
   · cases hx;simp
   · cases hx
 · rename_i e;rw [Sz f hi] at hx
   cases hx;rw [Uo (fun h=>e h.symm)]
theorem ZbW {α:Type} {n:Nat} {f g:Nat→α} (h:∀i,i<n→f i=g i):vec n f=vec n g:=
 List.map_congr_left fun i hi=>h i (Vf.1 hi)
theorem Du {α:Type} (n:Nat) (x:α):List.replicate n x=vec n (fun _=>x):=by
 refine Zau sM fun i y hy=>?_
 rw [V5] at hy
 split at hy
 · cases hy;rfl
 · cases hy
theorem Zav {α β:Type} (n:Nat) (f:Nat→α) (g:α→β):(vec n f).map g=vec n (fun i=>g (f i)):=by simp [vec,Function.comp_def]
abbrev LP (n:Nat) (f:Nat→Bool):PV:= .sl n (vec n fun i=>ZV (f i))
abbrev Jp (e n:Nat) (f:Nat→Bool):PV:= .own e 1 n (vec n fun i=>ZV (f i))
theorem LQ (e n:Nat) (f:Nat→Bool):share (Jp e n f)=LP n f:=by
 rw [share,Yf,Zav];rfl
def Closed (n:Nat) (f T:Nat→Nat→Bool):Prop:=(∀i j,i<n→j<n→f i j=true→T i j=true)∧∀i j k,i<n→j<n→k<n→T i j=true→T j k=true→T i k=true
def cntF (n:Nat) (f:Nat→Bool):Nat:=((List.range n).filter fun i=> !f i).length
theorem cntF_le (n:Nat) (f:Nat→Bool):cntF n f≤n:=by
 unfold cntF
 have:=VS (fun i=> !f i) (List.range n)
 simpa using this
def cntM (n:Nat) (f:Nat→Nat→Bool):Nat:=((List.range n).map fun i=>cntF n (f i)).sum
end Go.Cb
namespace Go.Proofs.YtpiemogpblmiiaaGreatDoor
open Go.RowKit Go.Cb Go.En Tryz
set_option linter.all false
set_option maxRecDepth 100000
theorem Wc:ElT prog 126 4 1 1 (.bool false):=⟨underlying126,by kernel_rfl,rfl,dC⟩
theorem Wp:NoAgg prog 126=true:=by kernel_rfl
theorem W4:SlT prog 126 4 1=true:=by kernel_rfl
theorem Kt:(prog.info? 126).map (·.size)=some 1:=by kernel_rfl
theorem Ga:ZeroT prog 126 (.slice none 0 0):=by unfold ZeroT;kernel_rfl
def onF (S:Nat→Bool) (k:Nat):Nat→Bool:=fun i=>if i=k then true else S i
theorem Oq {S:Nat→Bool} {k:Nat}:onF S k k=true:=by simp [onF]
theorem Ot {S:Nat→Bool} {k i:Nat} (h:S i=true):onF S k i=true:=by unfold onF;split<;>simp [h]
def cntF (T:Nat→Bool):Nat→Nat
 |0=>0
 |m+1=>cntF T m+if T m=true then 0 else 1
theorem cntF_le {T U:Nat→Bool} (h:∀i,T i=true→U i=true):∀m,cntF U m≤cntF T m
 |0=>Xb _
 | m+1=>by
   have:=cntF_le h m;rw [cntF,cntF];by_cases ht:T m=true
   · rw [Up ht,Up (h m ht)];omega
   · rw [Uo ht];split<;>omega
theorem Zaw {T U:Nat→Bool} (h:∀i,T i=true→U i=true) {k:Nat} (h1:T k=false) (h2:U k=true):∀m,k<m→cntF U m<cntF T m
 |0,hk=>oM
 | m +1,hk=>by
   rw [cntF,cntF];by_cases e:k=m
   · subst e;have:=cntF_le h k;rw [h1,h2];simp;omega
   · have:=Zaw h h1 h2 m oM;by_cases ht:T m=true
     · rw [Up ht,Up (h m ht)];omega
     · rw [Uo ht];split<;>omega
structure RI (E:List Tn) (f:Nat) (S T:Nat→Bool):Prop where
 snd:∀i:Nat,S i=true→Rp E f i
 here:S f=true
 tr:∀(i:Nat) (t:Tn),E[i]? =some t→T i=true→(∃p∈t.ins,Rp E f p)∧∀q∈t.outs,S q.toNat=true
def RC (E:List Tn) (S T:Nat→Bool) (k:Nat):Prop:=∀(i:Nat) (t:Tn),i<k→E[i]? =some t→T i=false→t.ins.any (fun p=>S p.toNat)=false
theorem RI.all {E:List Tn} {f:Nat} {S T:Nat→Bool} (h:RI E f S T) (hc:RC E S T E.length) (h0:∀t∈E,∀p∈t.ins,0≤p) {p:Int} (hp:Rp E f p):S p.toNat=true:=by
 induction hp with
 |base=>exact h.here
 | @step t p q ht hp _ hq ih=>
   obtain ⟨i,hi⟩:=X8 ht
   cases hT:T i with
   |true=>exact (h.tr i t hi hT).2 q hq
   | false=>
     have:=hc i t (Zg hi) hi hT;rw [List.any_eq_false] at this;exact Uq ih (this p hp)
theorem RI.tri {E:List Tn} {f:Nat} {S T:Nat→Bool} (h:RI E f S T) (hc:RC E S T E.length) (h0:∀t∈E,∀p∈t.ins,0≤p) {i:Nat} {t:Tn} (hi:E[i]? =some t):T i=true↔∃p∈t.ins,Rp E f p:=by
 constructor
 · exact fun hT=>(h.tr i t hi hT).1
 · rintro ⟨p,hp,hr⟩
   cases hT:T i with
   |true=>rfl
   | false=>
     have:=hc i t (Zg hi) hi hT;rw [List.any_eq_false] at this;exact Uq (h.all hc h0 hr) (this p hp)
def ZdR (n:Nt) (E:List Tn) (f:Nat) (p:PV):Prop:=∃S T:Nat→Bool,p= .tup [LP n.pl.toNat S,LP n.tr.length T]∧(∀i,i<n.pl.toNat→(S i=true↔Rp E f i))∧∀(i:Nat) (t:Tn),E[i]? =some t→(T i=true↔∃p∈t.ins,Rp E f p)
def RY (back:Bool) (t:Tn):Tn:=if back=true then t.rev else t
theorem ZfS {E:List Tn} {back:Bool} {k:Nat} {t:Tn} (h:E[k]? =some t):(OW E back)[k]? =some (RY back t):=by
 unfold OW RY
 cases back
 · exact h
 · simp only [if_true];rw [Xo,h];rfl
theorem E5 (E:List Tn) (back:Bool):(OW E back).length=E.length:=by unfold OW;split<;>simp
theorem Ou {n:Int} {l:List Int} (h:KR n l=true) {p:Int} (hp:p∈l):0≤p∧p<n:=by
 unfold KR at h
 rw [Xf,Xj] at h
 have:=h.1 p hp
 simpa using this
theorem E6 {n:Nt} (h:ntOk n=true) {t:Tn} (ht:t∈n.tr):(∀p∈t.ins,0≤p∧p<n.pl)∧∀p∈t.outs,0≤p∧p<n.pl:=by
 unfold ntOk at h
 simp only [Xf,Xj] at h
 have:=h.2 t ht
 unfold GN at this
 simp only [Xf] at this
 exact ⟨fun p=>Ou this.1.2,fun p=>Ou this.2⟩
theorem Zhy {n:Nt} (h:ntOk n=true) {back:Bool} {t:Tn} (ht:t∈OW n.tr back):(∀p∈t.ins,0≤p∧p<n.pl)∧∀p∈t.outs,0≤p∧p<n.pl:=by
 unfold OW at ht
 cases back
 · exact E6 h ht
 · simp only [if_true] at ht;obtain ⟨u,hu,rfl⟩:=Xq.1 ht;have:=E6 h hu;exact ⟨this.2,this.1⟩
structure RL (E:List Tn) (f:Nat) (T0:Nat→Bool) (m k:Nat) (S T:Nat→Bool) (ch:Bool):Prop where
 ri:RI E f S T
 le:k≤m
 no:ch=false→RC E S T k∧cntF T m≤cntF T0 m
 yes:ch=true→cntF T m<cntF T0 m
theorem RL.skip {E:List Tn} {f:Nat} {T0 S T:Nat→Bool} {m k:Nat} {ch:Bool} (h:RL E f T0 m k S T ch) (hk:k<m) {t:Tn} (ht:E[k]? =some t) (hs:T k=true∨t.ins.any (fun p=>S p.toNat)=false):RL E f T0 m (k+1) S T ch where
 ri:=h.ri
 le:=hk
 no :=fun hc=>⟨fun i u hi hu hT=>by
  by_cases e:i=k
  · subst e;rw [ht] at hu;cases hu;rcases hs with hs|hs
    · rw [hs] at hT;cases hT
    · exact hs
  · exact (h.no hc).1 i u oM hu hT,(h.no hc).2⟩
 yes:=h.yes
theorem RL.mark {E:List Tn} {f:Nat} {T0 S T U:Nat→Bool} {m k:Nat} {ch:Bool} (h:RL E f T0 m k S T ch) (hk:k<m) {t:Tn} (ht:E[k]? =some t) (h0:∀p∈t.ins,0≤p) (hT:T k=false) (hs:t.ins.any (fun p=>S p.toNat)=true) (hU:∀i:Nat,U i=true→Rp E f i) (hSU:∀i,S i=true→U i=true) (hq:∀q∈t.outs,U q.toNat=true):RL E f T0 m (k+1) U (onF T k) true where
 ri :=⟨hU,hSU _ h.ri.here,fun i u hu hT'=>by
  by_cases e:i=k
  · subst e;rw [ht] at hu;cases hu;obtain ⟨p,hp,hS⟩:=VQ.1 hs;have:=h.ri.snd _ hS;rw [show ((p.toNat:Nat):Int)=p by have:=h0 p hp;omega] at this;exact ⟨⟨p,hp,this⟩,hq⟩
  · (have hT2:T i=true:=by unfold onF at hT';rwa [Uo e] at hT');exact ⟨(h.ri.tr i u hu hT2).1,fun q hq=>hSU _ ((h.ri.tr i u hu hT2).2 q hq)⟩⟩
 le:=hk
 no:=fun h=>by cases h
 yes:=fun _=>by
  have h1:=Zaw (T:=T) (U:=onF T k) (fun i hi=>Ot hi) hT Oq m hk
  cases ch with
  |true=>have:=h.yes rfl;omega
  |false=>have:=(h.no rfl).2;omega
theorem Rf (e N:Nat) (S:Nat→Bool) (k:Nat):PV.own e 1 N ((vec N fun i=>ZV (S i)).set (k*1) (ZV true))=Jp e N (onF S k):=by
 rw [XF,ZfR]
 show PV.own e 1 N _=PV.own e 1 N _
 congr 1
 refine ZbW fun i _=>?_
 unfold onF
 split<;>rfl
theorem ZdS (E:List Tn) (f:Nat):RI E f (onF (fun _=>false) f) (fun _=>false) where
 snd:=fun i hi=>by
  unfold onF at hi;split at hi
  · rename_i h;subst h;exact .base
  · cases hi
 here:=Oq
 tr:=fun i t _ h=>by cases h
theorem ZfT {E:List Tn} {f:Nat} {S T:Nat→Bool} {t:Tn} (h:RI E f S T) (ht:t∈E) (h0:∀p∈t.ins,0≤p) (hs:t.ins.any (fun p=>S p.toNat)=true):∀q∈t.outs,Rp E f q:=fun q hq=>by
 obtain ⟨p,hp,hS⟩:=VQ.1 hs
 have:=h.snd _ hS
 rw [show ((p.toNat:Nat):Int)=p by have:=h0 p hp;omega] at this
 exact .step ht hp this hq
theorem ZfU {E:List Tn} {f:Nat} {T S' T':Nat→Bool} {m k:Nat} {ch:Bool} (h:RL E f T m k S' T' ch):2*cntF T' m+ch.toNat<2*cntF T m+true.toNat:=by
 cases ch with
 |true=>have:=h.yes rfl;simp only [Bool.toNat_true];omega
 |false=>have:=(h.no rfl).2;simp only [Bool.toNat_true,Bool.toNat_false];omega
theorem Zax {α:Type} {n i:Nat} (f:Nat→α) (h:i<n):(vec n f)[i*1]? =some (f i):=by rw [XF];exact Sz f h
theorem Hy (N:Nat) (S:Nat→Bool) (p:Int) (h:0≤p∧p<N):AF prog 135 [Zc p, .sptr 0 [LP N S]] (· =ZV (S p.toNat)):=by
 obtain ⟨k,rfl⟩:∃k:Nat,p=k:=⟨p.toNat,oM⟩
 have e1:=Zax (fun i=>ZV (S i)) (show k<N by omega)
 refine AF.of_body 8 func135 rfl ntmps135 (Xa rfl) ?_
 intro w0 M0 vs hl hv
 obtain ⟨v0,v1,rfl⟩:=KG hl
 obtain rfl:=hv 0 _ _ rfl rfl
 clear hl hv
 refine Zf ?_
 (refine xL 3 Zb ?_;refine Zn ?_)
 (refine yL 4 (Yy Wp) fun v4 hv4=>?_;cases hv4;refine xL 5 Za (xL 6 (ZP W4) ?_);refine yL 7 (Yy Ks) fun v7 hv7=>?_;cases hv7;refine xL 3 Zb ?_;refine Ze ?_)
 exact Zx results135 rfl rfl
set_option maxHeartbeats 4000000 in
theorem E7 (n : Nt) (hok:ntOk n=true) (f:Nat) (hf:f<n.pl.toNat) (back:Bool):AF prog 87 [pNt n,Zc f,ZV back] (ZdR n (OW n.tr back) f):=by
 have hn1:1≤n.pl∧n.pl≤40∧n.tr.length≤60:=by
  unfold ntOk at hok;simp only [Xf,Ul] at hok;obtain ⟨⟨⟨⟨⟨h1,h2⟩,h3⟩,h4⟩,h5⟩,h6⟩:=hok;exact ⟨h1,h2,h3⟩
 have hdir:∀t∈OW n.tr back,_:=fun t ht=>Zhy hok ht
 have hel:=E5 n.tr back
 obtain ⟨pl,tr,src,snk⟩:=n
 dsimp only at hn1 hel hf hdir
 obtain ⟨N,rfl⟩:∃N:Nat,pl=N:=⟨pl.toNat,oM⟩
 rw [X4] at hf
 have ec:cNt ⟨(N:Int),tr,src,snk⟩=[Zc (N:Int),JS tr,Zc src,Zc snk]:=rfl
 have e0:pNt ⟨(N:Int),tr,src,snk⟩= .agg [Zc (N:Int),JS tr,Zc src,Zc snk]:=rfl
 rw [e0]
 unfold ZdR
 rw [X4]
 obtain ⟨E,hE⟩:∃E,E=OW tr back:=⟨_,rfl⟩
 rw [←hE] at hel hdir ⊢
 refine AF.of_body 69 func87 rfl ntmps87 (Xa rfl) ?_
 intro w0 M0 vs hl hv
 obtain ⟨v0,v1,v2,rfl⟩:=OM hl
 obtain rfl:=hv 1 _ _ rfl rfl
 obtain rfl:=hv 2 _ _ rfl rfl
 clear hl hv
 refine Zf ?_
 (refine Yv 3 4 fun h3=>?_;refine xL 6 Zb (xL 7 Zb ?_);refine Ze ?_)
 refine Kj (fun c:{c:Value×Value×Value//c.2.1.oneCell'=true∧c.2.2.oneCell'=true}=>⟨[(1, .int .i64 f,Zc f),(2, .bool back,ZV back),(3,padd (sbase h3) 0, .val (padd (sbase h3) 0)),(8,padd (sbase c.1.1) 0, .val (padd (sbase c.1.1) 0)),(9,c.1.2.2, .val c.1.2.2)],[(3,h3, .own 29 4 1 [Zc N,JS tr,Zc src,Zc snk]),(8,c.1.1, .own 126 1 1 [.val c.1.2.1]),(19,c.1.2.1,Jp 4 N fun _=>false),(23,c.1.2.2,Jp 4 tr.length fun _=>false)]⟩) ?_ ?_
 · (refine ZS (fun i=>([9]:List Nat).elem i) [3] kR ?_<;>refine xD 0 17 rfl (Zd 3 Z2) ?_<;>(refine yD 1 18 rfl (Zi 3 Zo) fun v18 h=>?_;cases h)<;>refine xD 3 20 rfl (Zd 3 ZD) ?_<;>(refine yD 4 21 rfl (Zi 3 ZN) fun v21 h=>?_;cases h)<;>refine xD 5 22 rfl (Z1 ZI) ?_<;>(refine Zcr 2 6 7 kR ?_ ?_ ?_;rotate_right;(focus ((refine Zj rfl fun w9 M9 N9 DQ back=>?_)<;>refine ZA [(.slice none 0 0)] 1 8 Ga fun h8=>?_<;>refine Zh (back _ (nrm ?_))<;>(refine YD 2 6 kR ?_ ?_;rotate_right;(focus ((refine Zj rfl fun w9 M9 N9 DQ back=>?_)<;>refine JE 23 Wc fun h23 ho23=>?_<;>refine Zh (back _ (nrm ?_))<;>(refine Zl 2 kR ?_)<;>(refine Zj rfl fun w9 M9 N9 DQ back=>?_)<;>refine JE 19 Wc fun h19 ho19=>?_<;>refine Zh (back _ (nrm ?_))<;>(refine Zl 8 kR ?_)<;>(refine Zj rfl fun w9 M9 N9 DQ back=>?_)<;>refine Y3 8 Wp Kt ?_<;>refine Zh (back _ (nrm ?_))));rotate_right;(focus ((refine Zj rfl fun w9 M9 N9 DQ back=>?_)<;>refine JE 19 Wc fun h19 ho19=>?_<;>refine Zh (back _ (nrm ?_))<;>(refine YD 6 8 kR ?_ ?_;rotate_right;(focus ((refine Zj rfl fun w9 M9 N9 DQ back=>?_)<;>refine Y3 8 Wp Kt ?_<;>refine Zh (back _ (nrm ?_))<;>(refine Zl 6 kR ?_)<;>(refine Zj rfl fun w9 M9 N9 DQ back=>?_)<;>refine JE 23 Wc fun h23 ho23=>?_<;>refine Zh (back _ (nrm ?_))));rotate_right;(focus ((refine Zj rfl fun w9 M9 N9 DQ back=>?_)<;>refine JE 23 Wc fun h23 ho23=>?_<;>refine Zh (back _ (nrm ?_))<;>(refine Zl 8 kR ?_)<;>(refine Zj rfl fun w9 M9 N9 DQ back=>?_)<;>refine Y3 8 Wp Kt ?_<;>refine Zh (back _ (nrm ?_))))))))));rotate_right;(focus ((refine Zj rfl fun w9 M9 N9 DQ back=>?_)<;>refine JE 23 Wc fun h23 ho23=>?_<;>refine Zh (back _ (nrm ?_))<;>(refine YD 2 7 kR ?_ ?_;rotate_right;(focus ((refine Zj rfl fun w9 M9 N9 DQ back=>?_)<;>refine ZA [(.slice none 0 0)] 1 8 Ga fun h8=>?_<;>refine Zh (back _ (nrm ?_))<;>(refine Zl 2 kR ?_)<;>(refine Zj rfl fun w9 M9 N9 DQ back=>?_)<;>refine JE 19 Wc fun h19 ho19=>?_<;>refine Zh (back _ (nrm ?_))<;>(refine Zl 8 kR ?_)<;>(refine Zj rfl fun w9 M9 N9 DQ back=>?_)<;>refine Y3 8 Wp Kt ?_<;>refine Zh (back _ (nrm ?_))));rotate_right;(focus ((refine Zj rfl fun w9 M9 N9 DQ back=>?_)<;>refine JE 19 Wc fun h19 ho19=>?_<;>refine Zh (back _ (nrm ?_))<;>(refine Zl 7 kR ?_)<;>(refine Zj rfl fun w9 M9 N9 DQ back=>?_)<;>refine ZA [(.slice none 0 0)] 1 8 Ga fun h8=>?_<;>refine Zh (back _ (nrm ?_))<;>(refine Zl 8 kR ?_)<;>(refine Zj rfl fun w9 M9 N9 DQ back=>?_)<;>refine Y3 8 Wp Kt ?_<;>refine Zh (back _ (nrm ?_)))))));rotate_right;(focus ((refine Zj rfl fun w9 M9 N9 DQ back=>?_)<;>refine JE 19 Wc fun h19 ho19=>?_<;>refine Zh (back _ (nrm ?_))<;>(refine YD 6 7 kR ?_ ?_;rotate_right;(focus ((refine Zj rfl fun w9 M9 N9 DQ back=>?_)<;>refine ZA [(.slice none 0 0)] 1 8 Ga fun h8=>?_<;>refine Zh (back _ (nrm ?_))<;>(refine YD 6 8 kR ?_ ?_;rotate_right;(focus ((refine Zj rfl fun w9 M9 N9 DQ back=>?_)<;>refine Y3 8 Wp Kt ?_<;>refine Zh (back _ (nrm ?_))<;>(refine Zl 6 kR ?_)<;>(refine Zj rfl fun w9 M9 N9 DQ back=>?_)<;>refine JE 23 Wc fun h23 ho23=>?_<;>refine Zh (back _ (nrm ?_))));rotate_right;(focus ((refine Zj rfl fun w9 M9 N9 DQ back=>?_)<;>refine JE 23 Wc fun h23 ho23=>?_<;>refine Zh (back _ (nrm ?_))<;>(refine Zl 8 kR ?_)<;>(refine Zj rfl fun w9 M9 N9 DQ back=>?_)<;>refine Y3 8 Wp Kt ?_<;>refine Zh (back _ (nrm ?_)))))));rotate_right;(focus ((refine Zj rfl fun w9 M9 N9 DQ back=>?_)<;>refine JE 23 Wc fun h23 ho23=>?_<;>refine Zh (back _ (nrm ?_))<;>(refine Zl 7 kR ?_)<;>(refine Zj rfl fun w9 M9 N9 DQ back=>?_)<;>refine ZA [(.slice none 0 0)] 1 8 Ga fun h8=>?_<;>refine Zh (back _ (nrm ?_))<;>(refine Zl 8 kR ?_)<;>(refine Zj rfl fun w9 M9 N9 DQ back=>?_)<;>refine Y3 8 Wp Kt ?_<;>refine Zh (back _ (nrm ?_))))))))<;>refine xE 9 9 rfl Zb ?_<;>refine Yu kR (nav ?_)<;>try dsimp only)<;>(
 refine K0 (ZF (l:=19) rfl (show PV.own 4 1 N (List.replicate N (PV.val (.bool false)))=Jp 4 N (fun _=>false) by rw [Du])) fun _=>?_;refine K0 (ZF (l:=23) rfl (show PV.own 4 1 tr.length (List.replicate tr.length (PV.val (.bool false)))=Jp 4 tr.length (fun _=>false) by rw [Du])) fun _=>?_;exact ZW ⟨(h8,h19,h23),ho19,ho23⟩ ⟨rfl,rfl,rfl,rfl,rfl,trivial⟩ ⟨rfl,rfl,rfl,rfl,trivial⟩)
 · rintro ⟨⟨h8, h19, h23⟩,ho19,ho23⟩;dsimp only at ho19 ho23 ⊢;refine Zf ?_;(refine yL 24 (Zi 8 Wp) fun v24 hv24=>?_;cases hv24;refine xL 25 Za (xL 26 (Zt 19 W4) ?_);(refine Y3 19 Ks Sr ?_ (hj:=by rw [Li];omega));refine Ze ?_)
   refine Zz (ZF (l:=19) rfl (Rf 4 N (fun _=>false) f)) fun _=>?_;refine Zz (HK (l:=8) (l':=19) (j:=0) rfl rfl rfl rfl) fun _=>?_;(refine Zm ?_;refine xL 10 Zb ?_;refine Ze ?_)
   refine ZE (ι:={q:(Nat→Bool)×(Nat→Bool)×Bool//RI E f q.1 q.2.1∧(q.2.2=false→RC E q.1 q.2.1 tr.length)}) (fun k=>⟨[(2,_,_),(3,_,_),(8,_,_),(9,_,_),(10, .bool k.1.2.2, .val (.bool k.1.2.2))],[(3,_,_),(8,h8, .own 126 1 1 [Jp 4 N k.1.1]),(23,h23,Jp 4 tr.length k.1.2.1)]⟩) (fun k=>2*cntF k.1.2.1 tr.length+k.1.2.2.toNat) ⟨(onF (fun _=>false) f,fun _=>false,true),ZdS E f,fun h=>by cases h⟩ (fun a w H=>H.weaken ⟨rfl,rfl,rfl,rfl,rfl,trivial⟩ ⟨rfl,rfl,rfl,trivial⟩) ?_;rintro ⟨⟨S,T,ch0⟩,hri,hrc⟩;dsimp only;dsimp only at hri hrc;refine Zf ?_;(refine xL 27 Za ?_;refine Ze ?_)
   refine cX ?_ ?_<;>intro hb27
   · first | exact bN hb27|(
 subst hb27;refine Zf ?_;(refine xL 10 Zb ?_;refine Zn ?_)
 (refine xL 28 (Zd 3 ZD) ?_;refine yL 29 (Zi 3 ZN) fun v29 hv29=>?_;cases hv29;refine xL 30 (Z1 ZI) (xL 31 Za ?_);refine Ze ?_)
 refine ZE (ι:={q:Nat×(Nat→Bool)×(Nat→Bool)×Bool//RL E f T tr.length q.1 q.2.1 q.2.2.1 q.2.2.2}) (fun k=>⟨[(2,_,_),(3,_,_),(8,_,_),(9,_,_),(29,_,_),(30,_,_),(31, .int .i64 k.1.1,Zc k.1.1),(10, .bool k.1.2.2.2, .val (.bool k.1.2.2.2))],[(3,_,_),(8,h8, .own 126 1 1 [Jp 4 N k.1.2.1]),(23,h23,Jp 4 tr.length k.1.2.2.1)]⟩) (fun k=>tr.length-k.1.1) ⟨(0,S,T,false),⟨hri,Xh _,fun _=>⟨fun i u h=>Uq h (VZ i),Xb _⟩,fun h=>by cases h⟩⟩ (fun a w H=>H.weaken ⟨rfl,rfl,rfl,rfl,rfl,rfl,rfl,rfl,trivial⟩ ⟨rfl,rfl,rfl,trivial⟩) ?_;rintro ⟨⟨k,S',T',ch⟩,hrl⟩;dsimp only;dsimp only at hrl;have hkm:=hrl.le;refine Zf ?_;(refine xL 32 ZR ?_;refine Ze ?_)
 refine cX ?_ ?_<;>intro hb32
 · first | exact bN hb32|(
 obtain ⟨x,hx⟩:=Zw (show k<tr.length by omega);have e1:=Z' Yr tr k x hx;have e2:=Yp Yr hx;have hEx:E[k]? =some (RY back x):=hE▸ZfS hx;obtain ⟨hdi,hdo⟩:=hdir _ (Xd hEx);refine Zf ?_;(refine xL 33 Za (xL 34 (ZP ZI) ?_);refine yL 35 (Yz Z9) fun v35 hv35=>?_;cases hv35;refine ZA [(.string ByteArray.empty),(.slice none 0 0),(.slice none 0 0)] 3 12 Wb fun h12=>?_;refine xL 11 Zb ?_;refine Zv 12 Z9 ?_;refine Ze ?_)
 (refine ZS (fun i=>([]:List Nat).elem i) [12] kR ?_<;>refine xD 0 36 rfl (Zd 12 Yi) ?_<;>(refine yD 1 37 rfl (Zi 12 Zy) fun v37 h=>?_;cases h)<;>refine xD 2 38 rfl (Zd 12 Yb) ?_<;>(refine yD 3 39 rfl (Zi 12 Zy) fun v39 h=>?_;cases h)<;>refine xE 4 13 rfl Zb ?_<;>refine xE 5 14 rfl Zb ?_<;>refine Yu kR (nav ?_)<;>try dsimp only)
 (refine Zm ?_;refine xL 40 Za ?_;refine Ze ?_)
 refine Kj (fun c:{c:Value×Value//True}=>⟨[(2, .bool back,ZV back),(3,padd (sbase h3) 0, .val (padd (sbase h3) 0)),(8,padd (sbase h8) 0, .val (padd (sbase h8) 0)),(9,h23, .val h23),(10, .bool ch, .val (.bool ch)),(11, .int .i64 k,Zc k),(13,c.1.1,pInts (RY back x).ins),(14,c.1.2,pInts (RY back x).outs),(29,v29,JS tr),(30, .int .i64 (tr.length:Nat), .val (.int .i64 (tr.length:Nat))),(31, .int .i64 k,Zc k)],[(3,h3, .own 29 4 1 [Zc N,JS tr,Zc src,Zc snk]),(8,h8, .own 126 1 1 [Jp 4 N S']),(23,h23,Jp 4 tr.length T')]⟩) ?_ ?_
 · refine cX ?_ ?_<;>intro hb40
   · first|exact bN hb40|(
 refine Zf ?_;(refine xL 41 Za (xL 42 Za (xL 13 Zb (xL 14 Zb ?_)));refine Ze ?_)
 cases back
 · first
    |exact bN hb40
    |exact ZW ⟨(_,_),trivial⟩ ⟨rfl,rfl,rfl,rfl,rfl,rfl,rfl,rfl,rfl,rfl,rfl,trivial⟩ ⟨rfl,rfl,rfl,trivial⟩
 · first
    |exact bN hb40
    |exact ZW ⟨(_,_),trivial⟩ ⟨rfl,rfl,rfl,rfl,rfl,rfl,rfl,rfl,rfl,rfl,rfl,trivial⟩ ⟨rfl,rfl,rfl,trivial⟩)
   · first|exact bN hb40|(
 refine nav ?_
 cases back
 · first
    |exact bN hb40
    |exact ZW ⟨(_,_),trivial⟩ ⟨rfl,rfl,rfl,rfl,rfl,rfl,rfl,rfl,rfl,rfl,rfl,trivial⟩ ⟨rfl,rfl,rfl,trivial⟩
 · first
    |exact bN hb40
    |exact ZW ⟨(_,_),trivial⟩ ⟨rfl,rfl,rfl,rfl,rfl,rfl,rfl,rfl,rfl,rfl,rfl,trivial⟩ ⟨rfl,rfl,rfl,trivial⟩)
 · rintro ⟨⟨vi, vo⟩,_⟩;dsimp only;have e3:=Zax (fun i=>ZV (T' i)) (Zg hx);refine Zf ?_;(refine xL 43 Za (xL 44 Za (xL 45 (Zt 23 W4) ?_))<;>(refine yL 46 (Zi 23 Ks) fun v46 h=>?_;cases h)<;>refine xL 47 Za ?_<;>(refine bL 47 (fun hb47=>?_) (fun hb47=>?_)<;>(first|refine kL 48 ?_|refine xL 48 Za ?_))<;>(first|refine kL 49 ?_|refine xL 49 Ty ?_)<;>(first|refine kL 50 ?_|(refine cS 50 (cB rfl (call134) (TZ 135 [.sptr 0 [LP N S']] (fun p=>S' p.toNat) (RY back x).ins (call135) (fun p hp=>Hy N S' p (hdi p hp))) ⟨⟨_,_,rfl,Tv (x:= .tmp 48) rfl⟩,⟨_,_,rfl,Za5 (l1:=8) rfl (LQ 4 N S')⟩,trivial⟩) fun v50 h=>?_;cases h))<;>(first|refine kL 51 ?_|refine xL 51 Ym ?_)<;>refine xL 52 Zu ?_<;>refine Ze ?_)<;>(
 refine cX ?_ ?_<;>intro hb52
 · first |exact bN hb52|(
 refine Zf ?_;(refine xL 66 ZO (xL 31 Za ?_);refine Ze ?_)
 first
  | (exact Zk (
      ⟨(k+1,S',T',ch),hrl.skip (Zg hx) hEx (by first|exact .inl hb47|exact .inr (by simpa using hb52))⟩
      ) (by dsimp only;omega) ⟨rfl,rfl,rfl,rfl,rfl,rfl,rfl,rfl,trivial⟩ ⟨rfl,rfl,rfl,trivial⟩)
  | (exact Zk (
      ⟨(k+1,U,onF T' k,true),hrl.mark (Zg hx) hEx (fun p hp=>(hdi p hp).1) hb47 hany hU1 hU2 hU4⟩
      ) (by dsimp only;omega) ⟨rfl,rfl,rfl,rfl,rfl,rfl,rfl,rfl,trivial⟩ ⟨rfl,rfl,rfl,trivial⟩))
 · first | exact bN hb52|(
 (have hany:(RY back x).ins.any (fun p=>S' p.toNat)=true:=by simpa using hb52);have hstep:=ZfT hrl.ri (Xd hEx) (fun p hp=>(hdi p hp).1) hany;refine Zf ?_;(refine xL 53 Za (xL 54 Za (xL 55 (Zt 23 W4) ?_));(refine Y3 23 Ks Sr ?_ (hj:=by rw [Li];omega));refine xL 10 Zb ?_;refine Ze ?_)
 refine Zz (ZF (l:=23) rfl (Rf 4 tr.length T' k)) fun _=>?_;refine Zz (SS (l:=8) (l':=200) (j:=0) rfl rfl rfl rfl) fun v200=>?_;obtain ⟨u,hu⟩:=v200;dsimp only;(refine Zm ?_;refine xL 56 Za (xL 57 (Z1 Zs) (xL 58 Za ?_));refine Ze ?_)
 refine Jr 56 rfl fun hlen=>?_;refine ZE (ι:={q:Nat×(Nat→Bool)//q.1≤(RY back x).outs.length∧(∀i:Nat,q.2 i=true→Rp E f i)∧(∀i,S' i=true→q.2 i=true)∧∀p∈(RY back x).outs.take q.1,q.2 p.toNat=true}) (fun k=>⟨[(2,_,_),(3,_,_),(8,_,_),(9,_,_),(10,_,_),(11,_,_),(29,_,_),(30,_,_),(31,_,_),(56,_,_),(57,_,_),(58, .int .i64 k.1.1,Zc k.1.1)],[(3,_,_),(8,_,_),(23,_,_),(200,u,Jp 4 N k.1.2)]⟩) (fun k=>(RY back x).outs.length-k.1.1) ⟨(0,S'),Xh _,hrl.ri.snd,fun _ h=>h,fun p h=>by simp at h⟩ (fun a w H=>H.weaken ⟨rfl,rfl,rfl,rfl,rfl,rfl,rfl,rfl,rfl,rfl,rfl,rfl,trivial⟩ ⟨rfl,rfl,rfl,rfl,trivial⟩) ?_;rintro ⟨⟨j,U⟩,hj,hU1,hU2,hU3⟩;dsimp only;dsimp only at hj hU1 hU2 hU3;refine Zf ?_;(refine xL 59 ZR ?_;refine Ze ?_)
 refine cX ?_ ?_<;>intro hb59
 · first|exact bN hb59|(
 obtain ⟨p,hp⟩:=Zw (show j<(RY back x).outs.length by omega);have e4:=Y2 (f:=Zc) hp;have hpN:=hdo p (Xd hp);obtain ⟨pn,rfl⟩:∃pn:Nat,p=pn:=⟨p.toNat,oM⟩;refine Zf ?_;(refine xL 60 (ZP Zs) ?_;refine yL 61 (Yy Zo) fun v61 hv61=>?_;cases hv61;refine xL 16 Zb ?_;refine Zn ?_)
 (refine yL 62 (Zi 8 Wp) fun v62 hv62=>?_;cases hv62;refine xL 63 Za (xL 64 (Zt 200 W4) ?_);(refine Y3 200 Ks Sr ?_ (hj:=by rw [Li];omega));refine Ze ?_)
 refine Zz (ZF (l:=200) rfl (Rf 4 N U pn)) fun _=>?_;(refine Zm ?_;refine xL 65 ZO (xL 58 Za ?_);refine Ze ?_)
 refine Zk (
  ⟨(j+1,onF U pn),Zg hp,fun i hi=>by
    dsimp only at hi;unfold onF at hi;split at hi
    · rename_i h;subst h;exact hstep _ (Xd hp)
    · exact hU1 i hi,fun i hi=>Ot (hU2 i hi),fun p hp'=>by
    dsimp only at hp' ⊢;rw [Yo hp,XW,Xr] at hp';rcases hp' with hp'|rfl
    · exact Ot (hU3 p hp')
    · rw [X4];exact Oq⟩
  ) (by dsimp only;omega) ⟨rfl,rfl,rfl,rfl,rfl,rfl,rfl,rfl,rfl,rfl,rfl,rfl,trivial⟩ ⟨rfl,rfl,rfl,rfl,trivial⟩)
 · first |exact bN hb59|(
 have hU4:∀q∈(RY back x).outs,U q.toNat=true:=fun q hq=>hU3 q (by rw [Xs oM];exact hq);refine Zz (HK (l:=8) (l':=200) (j:=0) rfl rfl rfl rfl) fun _=>?_;refine Zf ?_;(refine xL 66 ZO (xL 31 Za ?_);refine Ze ?_)
 first
  | (exact Zk (
      ⟨(k+1,S',T',ch),hrl.skip (Zg hx) hEx (by first|exact .inl hb47|exact .inr (by simpa using hb52))⟩
      ) (by dsimp only;omega) ⟨rfl,rfl,rfl,rfl,rfl,rfl,rfl,rfl,trivial⟩ ⟨rfl,rfl,rfl,trivial⟩)
  | (exact Zk (
      ⟨(k+1,U,onF T' k,true),hrl.mark (Zg hx) hEx (fun p hp=>(hdi p hp).1) hb47 hany hU1 hU2 hU4⟩
      ) (by dsimp only;omega) ⟨rfl,rfl,rfl,rfl,rfl,rfl,rfl,rfl,trivial⟩ ⟨rfl,rfl,rfl,trivial⟩)))))
 · first|exact bN hb32|(
 refine nav ?_;refine Zk (
  ⟨(S',T',ch),hrl.ri,fun h=>by
    have hk2:k=tr.length:=oM;subst hk2;exact (hrl.no h).1⟩
  ) (ZfU hrl) ⟨rfl,rfl,rfl,rfl,rfl,trivial⟩ ⟨rfl,rfl,rfl,trivial⟩))
   · first|exact bN hb27|(
 refine nav ?_;refine Zz (SS (l:=8) (l':=200) (j:=0) rfl rfl rfl rfl) fun v200=>?_;obtain ⟨u,hu⟩:=v200;dsimp only;(refine Zm ?_;refine yL 67 (Zi 8 Wp) fun v67 hv67=>?_;cases hv67;refine xL 68 Za (xL 6 Zb (xL 7 Zb ?_));refine Ze ?_)
 refine Wm (En.freeze (l:=200) (t:=6) rfl rfl) fun _=>?_;refine Wm (En.freeze (l:=23) (t:=7) rfl rfl) fun _=>?_;have hc:=hrc hb27;rw [←hel] at hc;have h0:∀t∈E,∀p∈t.ins,0≤p:=fun t ht p hp=>((hdir t ht).1 p hp).1;refine JD (results87) rfl rfl ⟨S,T,?_,fun i _=>⟨hri.snd i,fun h=>?_⟩,fun i t hi=>hri.tri hc h0 hi⟩
 · rw [LQ,LQ]
 · have:=hri.all hc h0 h;rwa [X4] at this)
theorem E8 (l:List Bool) (a:Bool):AF prog 136 [.sl l.length (l.map ZV),ZV a] (· =Zc (idx (fun x=>x==a) l)):=by
 refine AF.of_body 19 func136 rfl ntmps136 (Xa rfl) ?_
 intro w0 M0 vs hl hv
 obtain ⟨v0,v1,rfl⟩:=KG hl
 obtain rfl:=hv 1 _ _ rfl rfl
 clear hl hv
 refine Jr 0 rfl fun hlen=>?_
 refine Zf ?_
 (refine xL 4 Zb ?_;refine Zn ?_)
 (refine xL 6 Za (xL 7 (Z1 W4) (xL 8 Za ?_));refine Ze ?_)
 refine ZE (ι:={k:Nat//k≤l.length∧∀i y,i<k→l[i]? =some y→(y==a)=false}) (fun k=>⟨[(0,_,_),(1,_,_),(7,_,_),(8, .int .i64 k.1,Zc k.1)],[]⟩) (fun k=>l.length-k.1) ⟨0,oM,oM⟩ (fun a w H=>H.weaken ⟨rfl,rfl,rfl,rfl,trivial⟩ trivial) ?_
 rintro ⟨k,hk,hp⟩
 dsimp only
 refine Zf ?_
 (refine xL 9 ZR ?_;refine Ze ?_)
 refine cX ?_ ?_<;>intro hb9
 · first |exact bN hb9|(
 obtain ⟨x,hx⟩:=Zw (show k<l.length by omega);have e1:=Y2 (f:=ZV) hx;refine Zf ?_;(refine xL 10 Za (xL 5 Zb ?_);refine Zn ?_)
 (refine xL 11 Za (xL 12 Za (xL 13 Za (xL 14 (ZP W4) ?_)));refine yL 15 (Yy Ks) fun v15 hv15=>?_;cases hv15;refine xL 16 (ZgS underlying4) ?_;refine Ze ?_)
 refine cX ?_ ?_<;>intro hb16
 · first|exact bN hb16|(
 refine Zf ?_;(refine xL 17 Za (xL 4 Zb ?_);refine Ze ?_)
 refine Zx (results136) rfl ?_;rw [TM hp hx (by rw [hb16];simp)])
 · first|exact bN hb16|(
 refine Zf ?_;(refine xL 18 ZO (xL 8 Za ?_);refine Ze ?_)
 refine Zk (
  ⟨k+1,oM,fun i y hi hy=>by
   by_cases e:i=k
   · subst e;rw [hx] at hy;cases hy;exact beq_eq_false_iff_ne.2 fun e=>hb16 e.symm
   · exact hp i y oM hy⟩
  ) (by dsimp only;omega) ⟨rfl,rfl,rfl,rfl,trivial⟩ trivial))
 · first|exact bN hb9|(
 refine Zf ?_;(refine xL 4 Zb ?_;refine Ze ?_)
 refine Zx (results136) rfl ?_;rw [TN fun i y hi hy=>hp i y oM hy])
theorem Ov (l:List Bool) (a:Bool):AF prog 88 [.sl l.length (l.map ZV),ZV a] (· =ZV (l.contains a)):=by
 refine AF.of_body 9 func88 rfl ntmps88 (Xa rfl) ?_
 intro w0 M0 vs hl hv
 obtain ⟨v0,v1,rfl⟩:=KG hl
 obtain rfl:=hv 1 _ _ rfl rfl
 clear hl hv
 refine Zf ?_
 (refine xL 4 Zb ?_;refine Zn ?_)
 (refine xL 5 Za (xL 6 Za ?_);refine cS 7 (cA call136 (E8 l a)) fun v7 hv7=>?_;cases hv7;refine xL 8 WE (xL 4 Zb ?_);refine Ze ?_)
 refine Zx (results88) rfl ?_
 rw [R1,List.contains_eq_any_beq]
 rw [show (fun x:Bool=>x==a)=fun x=>a==x by funext x;cases x<;>cases a<;>rfl]
noncomputable def wfD (n:Nt):Bool:= @decide (wfP n) (Classical.propDecidable _)
theorem Hz {n:Nt} (h:¬wfP n):wfD n=false:=by unfold wfD;exact @decide_eq_false _ (Classical.propDecidable _) h
theorem Po {n:Nt} (h:wfP n):wfD n=true:=by unfold wfD;exact @decide_eq_true _ (Classical.propDecidable _) h
theorem ZfV {n:Nt}:wfD n=true↔wfP n:=⟨fun h=>Classical.byContradiction fun hn=>(by rw [Hz hn] at h;cases h),Po⟩
theorem Zay {N:Nat} {S:Nat→Bool}:(vec N S).contains false=false↔∀i,i<N→S i=true:=by
 constructor
 · intro h i hi
   cases hS:S i with
   |true=>rfl
   | false=>
     have:(vec N S).contains false=true:=Vi.2 (by rw [←hS];exact Xd (Sz S hi));rw [h] at this;cases this
 · intro h
   cases hc:(vec N S).contains false with
   |false=>rfl
   | true=>
     obtain ⟨i,hi⟩:=X8 (Vi.1 hc);have hlt:=Zg hi;rw [Li] at hlt;rw [Sz S hlt,h i hlt] at hi
     cases hi
theorem ZbX {n:Nt} {E:List Tn} {f:Int} {S T:Nat→Bool} (hS:∀i,i<n.pl.toNat→(S i=true↔Rp E f i)) (hT:∀(i:Nat) (t:Tn),E[i]? =some t→(T i=true↔∃p∈t.ins,Rp E f p)):EW n E f↔((vec n.pl.toNat S).contains false=false∧(vec E.length T).contains false=false):=by
 rw [Zay,Zay]
 constructor
 · rintro ⟨h1,h2⟩;refine ⟨fun i hi=>(hS i hi).2 (h1 i oM oM),fun i hi=>?_⟩;obtain ⟨t,ht⟩:=Zw hi;exact (hT i t ht).2 (h2 t (Xd ht))
 · rintro ⟨h1,h2⟩;refine ⟨fun p hp0 hp1=>?_,fun t ht=>?_⟩
   · have:=(hS p.toNat oM).1 (h1 _ oM);rwa [show ((p.toNat:Nat):Int)=p by omega] at this
   · obtain ⟨i,hi⟩:=X8 ht;exact (hT i t hi).1 (h2 i (Zg hi))
def frW (n:Nt) (k:Nat):Int:=if k=1 then n.snk else n.src
def eW (n:Nt) (k:Nat):List Tn:=OW n.tr (decide (k=1))
theorem Zhz (n:Nt) (k:Nat):(eW n k).length=n.tr.length:=E5 _ _
theorem ZhA {n:Nt} (h0:ntOk n=true) (h1:¬n.src=n.snk) (h2:∀(j:Nat) (t:Tn),n.tr[j]? =some t→n.src∉t.outs∧n.snk∉t.ins) (h3:EW n (eW n 0) (frW n 0)) (h4:EW n (eW n 1) (frW n 1)):wfP n:=
 ⟨h0,h1,fun t ht=>by obtain ⟨j,hj⟩:=X8 ht;exact h2 j t hj,h3,h4⟩
theorem ZiE {n:Nt} (h:wfP n) {k:Nat} (hk:k<2):EW n (eW n k) (frW n k):=by
 match k,hk with
 |0,_=>exact h.2.2.2.1
 |1,_=>exact h.2.2.2.2
theorem ZdT {n:Nt} (h:ntOk n=true):(1≤n.pl∧n.pl≤40∧n.tr.length≤60)∧(0≤n.src∧n.src<n.pl)∧0≤n.snk∧n.snk<n.pl:=by
 unfold ntOk inB at h
 simp only [Xf,Ul] at h
 obtain ⟨⟨⟨⟨⟨h1,h2⟩,h3⟩,h4⟩,h5⟩,h6⟩:=h
 exact ⟨⟨h1,h2,h3⟩,h4,h5⟩
theorem LR (N:Nat) (S:Nat→Bool) (a:Bool):AF prog 88 [LP N S,ZV a] (· =ZV ((vec N S).contains a)):=by
 have:=Ov (vec N S) a
 rwa [Li,Zav] at this
set_option maxHeartbeats 2000000 in
theorem SA (n : Nt) (hf:Hr n.tr):AF prog 42 [pNt n] (· =ZV (wfD n)):=by
 refine AF.of_body 65 func42 rfl ntmps42 (Xa rfl) ?_
 intro w0 M0 vs hl hv
 obtain ⟨v0,rfl⟩:=Kl hl
 clear hl hv
 refine Zf ?_
 (refine Yv 1 4 fun h1=>?_;refine xL 2 Zb ?_;refine Zn ?_)
 ((refine yL 10 (Zq 1 Zr) fun v10 h=>?_;cases h)<;>(refine cS 11 (cA call41 (Tf n hf)) fun v11 h=>?_;cases h)<;>refine xL 12 Ym (xL 13 Za ?_)<;>(refine bL 13 (fun hb13=>?_) (fun hb13=>?_)<;>(first|refine kL 14 ?_|refine xL 14 (Zd 1 YP) ?_))<;>(first|refine kL 15 ?_|(refine yL 15 (Zi 1 Zo) fun v15 h=>?_;cases h))<;>(first|refine kL 16 ?_|refine xL 16 (Zd 1 YW) ?_)<;>(first|refine kL 17 ?_|(refine yL 17 (Zi 1 Zo) fun v17 h=>?_;cases h))<;>(first|refine kL 18 ?_|refine xL 18 ZQ ?_)<;>refine xL 19 Zu ?_<;>refine Ze ?_)<;>(
 refine cX ?_ ?_<;>intro hb19
 · first|exact bN hb19|(
 refine Zf ?_;(refine xL 2 Zb ?_;refine Ze ?_)
 refine Zx (results42) rfl ?_;rw [Hz fun h=>?_]
 first
  |exact hb18 h.2.1
  |exact Uq h.1 (by simpa using hb13)
  |exact h.2.1 hb19)
 · first | exact bN hb19|(
 refine nav ?_;(have hok:ntOk n=true:=by simpa using hb13);have hin:=ZdT hok;(refine Zm ?_;refine xL 20 (Zd 1 ZD) ?_;refine yL 21 (Zi 1 ZN) fun v21 hv21=>?_;cases hv21;refine xL 22 (Z1 ZI) (xL 23 Za ?_);refine Ze ?_)
 refine ZE (ι:={k:Nat//k≤n.tr.length∧∀(j:Nat) (t:Tn),j<k→n.tr[j]? =some t→n.src∉t.outs∧n.snk∉t.ins}) (fun k=>⟨[(1,_,_),(21,_,_),(22,_,_),(23, .int .i64 k.1,Zc k.1)],[(1,_,_)]⟩) (fun k=>n.tr.length-k.1) ⟨0,oM,oM⟩ (fun a w H=>H.weaken ⟨rfl,rfl,rfl,rfl,trivial⟩ ⟨rfl,trivial⟩) ?_;rintro ⟨k,hk,hp⟩;dsimp only;refine Zf ?_;(refine xL 24 ZR ?_;refine Ze ?_)
 refine cX ?_ ?_<;>intro hb24
 · first | exact bN hb24|(
 obtain ⟨x,hx⟩:=Zw (show k<n.tr.length by omega);have e1:=Z' Yr n.tr k x hx;have e2:=Yp Yr hx;refine Zf ?_;(refine xL 25 (ZP ZI) ?_;refine yL 26 (Yz Z9) fun v26 hv26=>?_;cases hv26;refine ZA [(.string ByteArray.empty),(.slice none 0 0),(.slice none 0 0)] 3 4 Wb fun h4=>?_;refine Zv 4 Z9 ?_;refine Zn ?_)
 (refine xL 27 (Zd 4 Yb) ?_<;>(refine yL 28 (Zi 4 Zy) fun v28 h=>?_;cases h)<;>refine xL 29 (Zd 1 YP) ?_<;>(refine yL 30 (Zi 1 Zo) fun v30 h=>?_;cases h)<;>(refine cS 31 (cA call86 (YG x.outs n.src)) fun v31 h=>?_;cases h)<;>refine xL 32 Za ?_<;>(refine bL 32 (fun hb32=>?_) (fun hb32=>?_)<;>(first|refine kL 33 ?_|refine xL 33 (Zd 4 Yi) ?_))<;>(first|refine kL 34 ?_|(refine yL 34 (Zi 4 Zy) fun v34 h=>?_;cases h))<;>(first|refine kL 35 ?_|refine xL 35 (Zd 1 YW) ?_)<;>(first|refine kL 36 ?_|(refine yL 36 (Zi 1 Zo) fun v36 h=>?_;cases h))<;>(first|refine kL 37 ?_|(refine cS 37 (cA call86 (YG x.ins n.snk)) fun v37 h=>?_;cases h))<;>refine xL 38 Zu ?_<;>refine Ze ?_)<;>(
 refine cX ?_ ?_<;>intro hb38
 · first|exact bN hb38|(
 refine Zf ?_;(refine xL 2 Zb ?_;refine Ze ?_)
 refine Zx (results42) rfl ?_;rw [Hz fun h=>?_];have h3:=h.2.2.1 x (Xd hx)
 first
  |exact h3.1 (Vi.1 hb32)
  |exact h3.2 (Vi.1 hb38))
 · first |exact bN hb38|(
 refine Zf ?_;(refine xL 39 ZO (xL 23 Za ?_);refine Ze ?_)
 refine Zk (
  ⟨k +1,Zg hx,fun j t hj ht=>by
   by_cases e:j=k
   · subst e;rw [hx] at ht;cases ht;refine ⟨fun h=>?_,fun h=>?_⟩
     · rw [Vi.2 h] at hb32;cases hb32
     · rw [Vi.2 h] at hb38;cases hb38
   · exact hp j t oM ht⟩
  ) (by dsimp only;omega) ⟨rfl,rfl,rfl,rfl,trivial⟩ ⟨rfl,trivial⟩)))
 · first | exact bN hb24|(
 refine Zf ?_;(refine Px (xs:=[_,_]) 40 Wc fun h40 ho40=>?_;refine xL 41 (YV 40 W4) (xL 42 Za ?_);refine Ze ?_)
 have hne:¬n.src=n.snk:=by first|exact hb18|exact hb19
 have hall:∀(j:Nat) (t:Tn),n.tr[j]? =some t→n.src∉t.outs∧n.snk∉t.ins:=fun j t ht=>hp j t (by have:=Zg ht;omega) ht;refine ZE (ι:={k:Nat//k≤2∧∀j,j<k→EW n (eW n j) (frW n j)}) (fun k=>⟨[(1,_,_),(40,_,_),(41,_,_),(42, .int .i64 k.1,Zc k.1)],[(1,_,_),(40,_,_)]⟩) (fun k=>2-k.1) ⟨0,oM,oM⟩ (fun a w H=>H.weaken ⟨rfl,rfl,rfl,rfl,trivial⟩ ⟨rfl,rfl,trivial⟩) ?_;rintro ⟨r,hr,hq⟩;dsimp only;refine Zf ?_;(refine xL 43 ZR ?_;refine Ze ?_)
 refine cX ?_ ?_<;>intro hb43
 · first | exact bN hb43|(
 have e3:[ZV false,ZV true][r*1]? =some (ZV (decide (r=1))):=by
  match r,show r<2 by omega with
  |0,_=>rfl
  |1,_=>rfl
 refine Zf ?_;(refine xL 44 (Zt 40 W4) ?_;refine yL 45 (Zi 40 Ks) fun v45 hv45=>?_;cases hv45;refine xL 6 Zb ?_;refine Zn ?_)
 (refine xL 46 (Zd 1 YP) ?_;refine yL 47 (Zi 1 Zo) fun v47 hv47=>?_;cases hv47;refine xL 7 Zb ?_;refine Zn ?_)
 (refine xL 48 Za ?_;refine Ze ?_)
 refine Kj (fun c:{z:Int//z=frW n r}=>⟨[(1,padd (sbase h1) 0, .val (padd (sbase h1) 0)),(6, .bool (decide (r=1)),ZV (decide (r=1))),(7, .int .i64 c.1,Zc c.1),(40,h40, .val h40),(41, .int .i64 (2:Nat), .val (.int .i64 (2:Nat))),(42, .int .i64 r,Zc r)],[(1,h1, .own 29 4 1 (cNt n)),(40,h40, .own 4 1 2 [ZV false,ZV true])]⟩) ?_ ?_
 · refine cX ?_ ?_<;>intro hb48
   · first|exact bN hb48|(
 refine Zf ?_;(refine xL 49 (Zd 1 YW) ?_;refine yL 50 (Zi 1 Zo) fun v50 hv50=>?_;cases hv50;refine xL 7 Zb ?_;refine Ze ?_)
 first
  |exact ZW ⟨n.snk,by unfold frW;rw [Up hb48]⟩ ⟨rfl,rfl,rfl,rfl,rfl,rfl,trivial⟩ ⟨rfl,rfl,trivial⟩
  |exact ZW ⟨n.src,by unfold frW;rw [Uo hb48]⟩ ⟨rfl,rfl,rfl,rfl,rfl,rfl,trivial⟩ ⟨rfl,rfl,trivial⟩)
   · first|exact bN hb48|(
 refine nav ?_
 first
  |exact ZW ⟨n.snk,by unfold frW;rw [Up hb48]⟩ ⟨rfl,rfl,rfl,rfl,rfl,rfl,trivial⟩ ⟨rfl,rfl,trivial⟩
  |exact ZW ⟨n.src,by unfold frW;rw [Uo hb48]⟩ ⟨rfl,rfl,rfl,rfl,rfl,rfl,trivial⟩ ⟨rfl,rfl,trivial⟩)
 · rintro ⟨z,hz⟩;dsimp only;(have hfr:0≤frW n r∧frW n r<n.pl:=by unfold frW;split<;>omega);obtain ⟨f,hfN⟩:∃f:Nat,z=f:=⟨z.toNat,oM⟩;subst hfN;have hel:=Zhz n r;refine Zf ?_;(refine yL 52 (Zq 1 Zr) fun v52 hv52=>?_;cases hv52;refine xL 53 Za (xL 54 Za ?_);(refine cPx (ι:={q:(Nat→Bool)×(Nat→Bool)//(∀i,i<n.pl.toNat→(q.1 i=true↔Rp (eW n r) f i))∧∀(i:Nat) (t:Tn),(eW n r)[i]? =some t→(q.2 i=true↔∃p∈t.ins,Rp (eW n r) f p)}) (p1:=fun q=>LP n.pl.toNat q.1.1) (p2:=fun q=>LP n.tr.length q.1.2) 55 (cA (call87) ((E7 n hok f oM (decide (r=1))).mono fun p ⟨S,T,h1,h2,h3⟩=>⟨⟨(S,T),h2,h3⟩,h1⟩)) (fun i va55 vb55 hva55 hvb55=>?_) (fun i=>rfl);obtain ⟨⟨S,T⟩,hS,hT⟩:=i;dsimp only at hS hT hva55 hvb55 ⊢);refine xL 51 Za (xL 56 ZK (xL 57 ZK (xL 8 Zb (xL 9 Zb ?_))));refine Ze ?_)
   have hri:=ZbX hS hT;rw [hel] at hri;(refine Zm ?_<;>refine xL 58 Za ?_<;>(refine cS 59 (cA call88 (LR n.pl.toNat S false)) fun v59 h=>?_;cases h)<;>refine xL 60 Za ?_<;>(refine bL 60 (fun hb60=>?_) (fun hb60=>?_)<;>(first|refine kL 61 ?_|refine xL 61 Za ?_))<;>(first|refine kL 62 ?_|(refine cS 62 (cA call88 (LR n.tr.length T false)) fun v62 h=>?_;cases h))<;>refine xL 63 Zu ?_<;>refine Ze ?_)<;>(
 refine cX ?_ ?_<;>intro hb63
 · first|exact bN hb63|(
 refine Zf ?_;(refine xL 2 Zb ?_;refine Ze ?_)
 refine Zx (results42) rfl ?_;rw [Hz fun h=>?_];have h3:=hri.1 (hz▸ZiE h (show r<2 by omega))
 first
  |exact Uq hb60 (by rw [h3.1];decide)
  |exact Uq hb63 (by rw [h3.2];decide)
  |exact Uq hb63 (by rw [h3.1];decide))
 · first |exact bN hb63|(
 refine Zf ?_;(refine xL 64 ZO (xL 42 Za ?_);refine Ze ?_)
 refine Zk (
  ⟨r +1,oM,fun j hj=>by
   by_cases e:j=r
   · subst e;rw [←hz];exact hri.2 ⟨hb60,hb63⟩
   · exact hq j oM⟩
  ) (by dsimp only;omega) ⟨rfl,rfl,rfl,rfl,trivial⟩ ⟨rfl,rfl,trivial⟩)))
 · first|exact bN hb43|(
 refine Zf ?_;(refine xL 2 Zb ?_;refine Ze ?_)
 refine Zx (results42) rfl ?_;rw [Po (ZhA hok hne hall (hq 0 oM) (hq 1 oM))]))))
end Go.Proofs.YtpiemogpblmiiaaGreatDoor
namespace Go.Cb
open Go.En
set_option linter.all false
structure Grows (n:Nat) (E R:Nat→Nat→Bool):Prop where
 lo:∀i j,i<n→j<n→E i j=true→R i j=true
 hi:∀T,Closed n E T→∀i j,i<n→j<n→R i j=true→T i j=true
def Before (a b c a' b' c':Nat):Prop:=a'<a∨(a'=a∧(b'<b∨(b'=b∧c'<c)))
structure Pass (n:Nat) (E R0 R:Nat→Nat→Bool) (ag:Bool) (a b c:Nat):Prop where
 gr:Grows n E R
 dn:ag=true→cntM n R<cntM n R0
 st:ag=false→R=R0∧∀a' b' c',a'<n→b'<n→c'<n→Before a b c a' b' c'→R0 a' b'=true→R0 b' c'=true→R0 a' c'=true
def Conn (l:List Int) (r:Int→Int→Bool) (x y:Int):Prop:=∀P:Int→Prop,(∀a b,a∈l→b∈l→(r a b=true∨r b a=true)→P a→P b)→P x→P y
structure Comps (l:List Int) (r:Int→Int→Bool) (cs:List (List Int)):Prop where
 mem:∀x,x∈cs.flatten↔x∈l
 nd:cs.flatten.Nodup
 ne:∀c∈cs,c≠[]
 asc:∀c∈cs,c.Pairwise (· < ·)
 conn:∀c∈cs,∀x∈c,∀y∈c,Conn l r x y
 clos:∀c∈cs,∀x∈c,∀y∈l,(r x y=true∨r y x=true)→y∈c
 ord:cs.Pairwise fun c d=>∀x y,c.head? =some x→d.head? =some y→x<y
structure Part (l:List Int) (r:Int→Int→Bool) (cs:List (List Int)) (k:Nat):Prop where
 sub:∀x∈cs.flatten,x∈l
 did:∀j x,j<k→l[j]? =some x→x∈cs.flatten
 nd:cs.flatten.Nodup
 ne:∀c∈cs,c≠[]
 asc:∀c∈cs,c.Pairwise (· < ·)
 conn:∀c∈cs,∀x∈c,∀y∈c,Conn l r x y
 clos:∀c∈cs,∀x∈c,∀y∈l,(r x y=true∨r y x=true)→y∈c
 ord:cs.Pairwise fun c d=>∀x y,c.head? =some x→d.head? =some y→x<y
 hd:∀c∈cs,∀x,c.head? =some x→∃j,j<k∧l[j]? =some x
structure Mk (l:List Int) (r:Int→Int→Bool) (cs:List (List Int)) (first:Int) (tk cl:List Int) (i q:Nat):Prop where
 tkm:∀z,z∈tk↔z∈cs.flatten∨z∈cl
 nd:(cs.flatten++cl).Nodup
 sub:∀z∈cl,z∈l
 con:∀z∈cl,Conn l r first z
 fst:first∈cl
 il:i≤cl.length
 did:∀j x,j<i→cl[j]? =some x→∀y∈l,(r x y=true∨r y x=true)→y∈tk
 now:∀x,cl[i]? =some x→∀p y,p<q→l[p]? =some y→(r x y=true∨r y x=true)→y∈tk
theorem Zaz:∀{l m:List Int},l.Pairwise (· < ·)→m.Pairwise (· < ·)→(∀x,x∈l↔x∈m)→l=m
 |[],[],_,_,_=>rfl
 |[],b::m,_,_,h=>by have:=(h b).2 sM;simp at this
 |a::l,[],_,_,h=>by have:=(h a).1 sM;simp at this
 | a :: l,b::m,hl,hm,h=>by
   rw [XQ] at hl hm;have hab:a=b:=by
    have h1:=(h a).1 sM;have h2:=(h b).2 sM;rcases Xn.1 h1 with e|e
    · exact e
    · rcases Xn.1 h2 with e2|e2
      · exact e2.symm
      · have:=hl.1 b e2;have:=hm.1 a e;omega
   subst hab;rw [Zaz hl.2 hm.2 fun x=>?_];constructor
   · intro hx;have:=(h x).1 (by simp [hx]);rcases Xn.1 this with e|e
     · subst e;have:=hl.1 _ hx;omega
     · exact e
   · intro hx;have:=(h x).2 (by simp [hx]);rcases Xn.1 this with e|e
     · subst e;have:=hm.1 _ hx;omega
     · exact e
end Go.Cb
namespace Go.En
open Go.RowKit Go.Cb
set_option linter.all false
section
variable {P:Program} {st:St} {o:Oper} {c:Ctx} {ops:Array Oper} {Q:Exit→Act→World→Prop} {rest:List Oper} {sL hP:List (Nat×Ent)}
theorem Pq {f:Nat} {x:Operand} {v:Value} {q:PV} (ho:o.op= .makeFunc (.func f) #[x] #[]:=by exact rfl) (hx:ev st.slots x=some (v,q):=by exact rfl):YE P st o (· = .func (.func f) #[v] #[]) (.val (.func (.func f) #[v] #[])):=
 y1 hx (fun _ _ _=> .val _) fun ρ w h=>by simp [execOp,ho,h,Instr.makeFunc]
theorem ZdU {t:Nat} {x y x2 x3:Operand} {v0 v1 v2 v3:Value} {p0 p1 p2 p3:PV} {z:Value} (hT:ArrT P t 4=true) (hz:ZeroT P t z) (ho:o.op= .build t #[(0,x),(1,y),(2,x2),(3,x3)]:=by exact rfl) (hx:ev st.slots x=some (v0,p0):=by exact rfl) (hy:ev st.slots y=some (v1,p1):=by exact rfl) (hx2:ev st.slots x2=some (v2,p2):=by exact rfl) (hx3:ev st.slots x3=some (v3,p3):=by exact rfl) (h0:v0.oneCell'=true:=by exact rfl) (h1:v1.oneCell'=true:=by exact rfl) (h2:v2.oneCell'=true:=by exact rfl) (h3:v3.oneCell'=true:=by exact rfl) (hzs:z.cells.size=4:=by exact rfl):YE P st o (· = .agg [v0,v1,v2,v3].toArray) (.agg [p0,p1,p2,p3]):=
 .exact fun M F a w H=>by
  obtain ⟨hv,hS0⟩:=H.ev hx;obtain ⟨hyv,hS1⟩:=H.ev hy;obtain ⟨hv2,hS2⟩:=H.ev hx2;obtain ⟨hv3,hS3⟩:=H.ev hx3;obtain ⟨e,inf,hu,hinf,hs1⟩:=ArrT.run hT;have c0:=WH h0;have c1:=WH h1;have c2:=WH h2;have c3:=WH h3;obtain ⟨a0,a1,a2,a3,hza⟩:∃a0 a1 a2 a3,z.cells= #[a0,a1,a2,a3]:=by
   generalize z.cells=A at hzs;obtain ⟨L⟩:=A;match L,hzs with
   |[a0,a1,a2,a3],_=>exact ⟨a0,a1,a2,a3,rfl⟩
  refine ⟨.agg _ _ rfl fun i u r hu hr=>?_,?_⟩
  · match i with
    |0=>simp at hu hr;subst hu hr;exact hS0
    |1=>simp at hu hr;subst hu hr;exact hS1
    |2=>simp at hu hr;subst hu hr;exact hS2
    |3=>simp at hu hr;subst hu hr;exact hS3
    |i+4=>simp at hu
  · simp [execOp,ho,hv,hyv,hv2,hv3,Instr.build,run_underlying hu,ZeroT.run hz,sizeOf,typeInfo,hinf,hs1,Instr.fill,c0,c1,c2,c3,hza]
theorem ZhB {t n e:Nat} {i:Nat} {x y:Operand} {V v:Value} {ps:List PV} {q:PV} (hT:ArrT P t n=true) (hu:P.underlying t=some (.array n e)) (hn:NoAgg P e=true) (hi:i<n) (hp:ps[i]? =some (.val v)) (ho:o.op= .index t x y:=by exact rfl) (hx:ev st.slots x=some (V, .agg ps):=by exact rfl) (hy:ev st.slots y=some (.int .i64 i,q):=by exact rfl):YE P st o (· =v) (.val v):=
 .exact fun M F a w H=>by
  obtain ⟨hv,hS⟩:=H.ev hx;have hyv:=(H.ev hy).1;obtain ⟨e',inf,hu',hinf,hs1⟩:=ArrT.run hT;rw [hu] at hu'
  cases hu';refine ⟨.val _,?_⟩
  cases hS with
  | agg vs ps hl h=>
    obtain ⟨u,hu1⟩:=YJ hp hl.symm;have:u=v:=(h i u _ hu1 hp).vOf;subst this;simp [execOp,ho,hv,hyv,Instr.index,asIntOf,run_underlying hu,hi,sizeOf,typeInfo,hinf,hs1,part,NoAgg.run hn,hu1]
theorem ZhC {dd:Prop} {f:Nat} {r:Value} {h0:List (Nat×Ent)} {R:Value→PV→List (Nat×Ent)→Prop} {x:Operand} {q:PV} {ats:Array TypeId} (K:List Nat) (d:Nat) (hc:∀args w,(callFunc f args).run P w= .ok (.enter f args) w) (hA:AFh dd P f [(0,r, .val r)] h0 R)
 (k:∀v p h,R v p h→aL P c ops Q rest ⟨put d (v,p) sL,h++YM K hP⟩) (hw:Z7 ops sL o=some true:=by exact rfl) (hd:o.dst=some d:=by exact rfl) (hn:d<c.nt:=by exact Xa rfl)
 (ho:o.op= .call {callee:= .value x,args:= #[],argTypes:=ats}:=by exact rfl) (hf:ev sL x=some (.func (.func f) #[r] #[],q):=by exact rfl) (hh0:h0=Wr K hP:=by exact rfl) (hdd:c.dr→dd:=by first|exact id|exact fun h=>h.elim|exact fun _=>trivial):aL P c ops Q (o::rest) (⟨sL,hP⟩:St):=by
 subst hh0
 refine ZcB K d hw hd hn (fun a w F H=>?_) hA rfl hdd k
 have h3:=(H.rd.ev hf).1
 refine ⟨?_,fun i x q hi hq=>?_⟩
 · simp [execOp,ho,resolve,h3,Deferred.ofValue,invoke,hc]
 · match i with
   |0=>simp at hi hq;subst hi hq;exact .val _
   |i+1=>simp at hi
end
end Go.En
