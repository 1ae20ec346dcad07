/-
  Walks and laws.
-/
import Derived.Shelf.SlSortCmp.InsertionK
import Derived.Shelf.SlSortCmp.Kit1
import Derived.Maps.RangeRun
import Derived.DeepKeys3
import Derived.Lib.SliceRun
import Derived.Laws.StructEq
import Derived.Lib.Bytealg
import Derived.Test.YtmkojdfiadbeeaaGreatPn02
import Derived.Test.YtmkojdfiadbeeaaGreatPn01
set_option linter.all false
set_option maxRecDepth 100000
set_option maxHeartbeats 0
namespace Go.Proofs.YtmkojdfiadbeeaaGreat
open Go.RowKit Go.Cb Go.En Tryz
def KI:AggT prog 169 2=true:=kR
def W9:AggT prog 28 2=true:=kR
def Zq:NoAgg prog 3=true:=kR
def Yz:NoAgg prog 90=true:=kR
def Zv:SlT prog 22 28 2=true:=kR
def YA:SlT prog 31 169 2=true:=kR
def ZO:SlT prog 88 90 1=true:=kR
def ZS:SlT prog 90 3 1=true:=kR
structure Cnt where
 name:BA
 n:Int
structure Flw where
 src:BA
 dst:BA
 n:Int
structure Dfg where
 acts:List Cnt
 starts:List Cnt
 ends:List Cnt
 follows:List Flw
def Lp (x:Cnt):List PV:=[Zx x.name,Zb x.n]
def LQ (x:Flw):List PV:=[Zx x.src,Zx x.dst,Zb x.n]
def YM (x:Cnt):(Lp x).length=2:=rfl
def Wk (x:Flw):(LQ x).length=3:=rfl
def Jf (l:List Cnt):PV:= .sl l.length (l.flatMap Lp)
def HN (l:List Flw):PV:= .sl l.length (l.flatMap LQ)
def Ji (g:Dfg):PV:= .agg [Jf g.acts,Jf g.starts,Jf g.ends,HN g.follows]
def pInts (l:List Int):PV:= .sl l.length (l.map Zb)
def KX (l:List (List Int)):PV:= .sl l.length (l.map pInts)
def ζ7 (f:Nat) (caps:List PV) (p:BA->Bool) (l:List BA) (hc:∀args w,(callFunc f args).run prog w= .ok (.enter f args) w) (hf:∀s∈l,AF prog f (Zx s::caps) (· =Zr (p s))):AF prog 84 [ZX l, .fn f caps] (· =Zb (idx p l)):=by
 refine AF.b2 19 func84 rfl ntmps84 (Xa rfl) fun w0 M0 v0 v1 _ _=>?_
 refine Km 0 rfl fun hlen=>?_
 refine WK ?_
 refine xL 6 Za (xL 7 (Zu Zo) (xL 8 Za ?_));refine ZZ ?_
 refine Y0 (ι:={k:Nat//k<=l.length/\∀i y,i<k->l[i]? =some y->p y=false}) (fun k=>⟨[(0,_,_),(1,_,_),(7,_,_),(8, .int .i64 k.1,Zb k.1)],[]⟩) (fun k=>l.length-k.1) ⟨0,oM,oM⟩ (fun a w H=>H.weaken sB trivial) ?_
 rintro ⟨k,hk,hp⟩
 dsimp only
 refine Ys ?_ ?_<;>intro hb9
 . (
 obtain ⟨x,hx⟩:=gS l k;have e1:=Yf (f:=Zx) hx;refine Jh ?_;refine xL 11 Za (xL 12 Za (xL 13 Za (xL 14 (Ze Zo) ?_)));refine yV (Zw ZE) ?_;refine cV (LW (f:=f) (ps:=caps) rfl ⟨_,rfl⟩ hc rfl (hf x (Xb hx))) ?_;refine ZC ?_ ?_<;>intro hb16
 . (
 refine ZP ?_;refine Zg results84 rfl ?_;rw [Lb hp hx hb16])
 refine ZP ?_;refine Zh (
  ⟨k+1,oM,fun i y hi hy=>by
   by_cases e:i=k
   . subst e;rw [hx] at hy;cases hy;exact hb16
   . exact hp i y oM hy⟩
  ) (by dsimp only;omega) sB trivial)
 refine ZF ?_;refine Zg results84 rfl ?_;rw [LU fun i y hi hy=>hp i y oM hy]
def Ta (f:Nat) (caps:List PV) (p:BA->Bool) (l:List BA) (hc:∀args w,(callFunc f args).run prog w= .ok (.enter f args) w) (hf:∀s∈l,AF prog f (Zx s::caps) (· =Zr (p s))):AF prog 27 [ZX l, .fn f caps] (· =Zr (l.any p)):=by
 refine AF.b2 9 func27 rfl ntmps27 (Xa rfl) fun w0 M0 v0 v1 _ _=>?_
 refine RF ?_;refine cV (cA call84 (ζ7 f caps p l hc hf)) ?_;refine W2 ?_
 refine Zg results27 rfl ?_
 rw [LS]
def ζ8 (f:Nat) (caps:List PV) (p:Int->Bool) (l:List Int) (hc:∀args w,(callFunc f args).run prog w= .ok (.enter f args) w) (hf:∀s∈l,AF prog f (Zb s::caps) (· =Zr (p s))):AF prog 158 [pInts l, .fn f caps] (· =Zb (idx p l)):=by
 refine AF.b2 19 func158 rfl ntmps158 (Xa rfl) fun w0 M0 v0 v1 _ _=>?_
 refine Km 0 rfl fun hlen=>?_
 refine WK ?_
 refine xL 6 Za (xL 7 (Zu ZS) (xL 8 Za ?_));refine ZZ ?_
 refine Y0 (ι:={k:Nat//k<=l.length/\∀i y,i<k->l[i]? =some y->p y=false}) (fun k=>⟨[(0,_,_),(1,_,_),(7,_,_),(8, .int .i64 k.1,Zb k.1)],[]⟩) (fun k=>l.length-k.1) ⟨0,oM,oM⟩ (fun a w H=>H.weaken sB trivial) ?_
 rintro ⟨k,hk,hp⟩
 dsimp only
 refine Ys ?_ ?_<;>intro hb9
 . (
 obtain ⟨x,hx⟩:=gS l k;have e1:=Yf (f:=Zb) hx;refine Jh ?_;refine xL 11 Za (xL 12 Za (xL 13 Za (xL 14 (Ze ZS) ?_)));refine yV (Zw Zq) ?_;refine cV (LW (f:=f) (ps:=caps) rfl ⟨_,rfl⟩ hc rfl (hf x (Xb hx))) ?_;refine ZC ?_ ?_<;>intro hb16
 . (
 refine ZP ?_;refine Zg results158 rfl ?_;rw [Lb hp hx hb16])
 refine ZP ?_;refine Zh (
  ⟨k+1,oM,fun i y hi hy=>by
   by_cases e:i=k
   . subst e;rw [hx] at hy;cases hy;exact hb16
   . exact hp i y oM hy⟩
  ) (by dsimp only;omega) sB trivial)
 refine ZF ?_;refine Zg results158 rfl ?_;rw [LU fun i y hi hy=>hp i y oM hy]
def HO (f:Nat) (caps:List PV) (p:Int->Bool) (l:List Int) (hc:∀args w,(callFunc f args).run prog w= .ok (.enter f args) w) (hf:∀s∈l,AF prog f (Zb s::caps) (· =Zr (p s))):AF prog 108 [pInts l, .fn f caps] (· =Zr (l.any p)):=by
 refine AF.b2 9 func108 rfl ntmps108 (Xa rfl) fun w0 M0 v0 v1 _ _=>?_
 refine RF ?_;refine cV (cA call158 (ζ8 f caps p l hc hf)) ?_;refine W2 ?_
 refine Zg results108 rfl ?_
 rw [LS]
def ζb (f:Nat) (caps:List PV) (p:List Int->Bool) (l:List (List Int)) (hc:∀args w,(callFunc f args).run prog w= .ok (.enter f args) w) (hf:∀s∈l,AF prog f (pInts s::caps) (· =Zr (p s))):AF prog 58 [KX l, .fn f caps] (· =Zb (idx p l)):=by
 refine AF.b2 19 func58 rfl ntmps58 (Xa rfl) fun w0 M0 v0 v1 _ _=>?_
 refine Km 0 rfl fun hlen=>?_
 refine WK ?_
 refine xL 6 Za (xL 7 (Zu ZO) (xL 8 Za ?_));refine ZZ ?_
 refine Y0 (ι:={k:Nat//k<=l.length/\∀i y,i<k->l[i]? =some y->p y=false}) (fun k=>⟨[(0,_,_),(1,_,_),(7,_,_),(8, .int .i64 k.1,Zb k.1)],[]⟩) (fun k=>l.length-k.1) ⟨0,oM,oM⟩ (fun a w H=>H.weaken sB trivial) ?_
 rintro ⟨k,hk,hp⟩
 dsimp only
 refine Ys ?_ ?_<;>intro hb9
 . (
 obtain ⟨x,hx⟩:=gS l k;have e1:=Yf (f:=pInts) hx;refine Jh ?_;refine xL 11 Za (xL 12 Za (xL 13 Za (xL 14 (Ze ZO) ?_)));refine yU (Zw Yz) fun v15=>?_;refine cV (LW (f:=f) (ps:=caps) rfl ⟨_,rfl⟩ hc rfl (hf x (Xb hx))) ?_;refine ZC ?_ ?_<;>intro hb16
 . (
 refine ZP ?_;refine Zg results58 rfl ?_;rw [Lb hp hx hb16])
 refine ZP ?_;refine Zh (
  ⟨k+1,oM,fun i y hi hy=>by
   by_cases e:i=k
   . subst e;rw [hx] at hy;cases hy;exact hb16
   . exact hp i y oM hy⟩
  ) (by dsimp only;omega) sB trivial)
 refine ZF ?_;refine Zg results58 rfl ?_;rw [LU fun i y hi hy=>hp i y oM hy]
def OC (f:Nat) (caps:List PV) (p:Var->Bool) (l:List Var) (hc:∀args w,(callFunc f args).run prog w= .ok (.enter f args) w) (hf:∀s∈l,AF prog f (.agg (YL s)::caps) (· =Zr (p s))):AF prog 43 [ZV l, .fn f caps] (· =Zb (idx p l)):=by
 refine AF.b2 19 func43 rfl ntmps43 (Xa rfl) fun w0 M0 v0 v1 _ _=>?_
 refine Km 0 rfl fun hlen=>?_
 refine WK ?_
 refine xL 6 Za (xL 7 (Zu Zv) (xL 8 Za ?_));refine ZZ ?_
 refine Y0 (ι:={k:Nat//k<=l.length/\∀i y,i<k->l[i]? =some y->p y=false}) (fun k=>⟨[(0,_,_),(1,_,_),(7,_,_),(8, .int .i64 k.1,Zb k.1)],[]⟩) (fun k=>l.length-k.1) ⟨0,oM,oM⟩ (fun a w H=>H.weaken sB trivial) ?_
 rintro ⟨k,hk,hp⟩
 dsimp only
 refine Ys ?_ ?_<;>intro hb9
 . (
 obtain ⟨x,hx⟩:=gS l k;have e1:=Y4 ZM l k x hx;have e2:=Ww ZM hx;refine Jh ?_;refine xL 11 Za (xL 12 Za (xL 13 Za (xL 14 (Ze Zv) ?_)));refine yU (We W9) fun v15=>?_;refine cV (LW (f:=f) (ps:=caps) rfl ⟨_,rfl⟩ hc rfl (hf x (Xb hx))) ?_;refine ZC ?_ ?_<;>intro hb16
 . (
 refine ZP ?_;refine Zg results43 rfl ?_;rw [Lb hp hx hb16])
 refine ZP ?_;refine Zh (
  ⟨k+1,oM,fun i y hi hy=>by
   by_cases e:i=k
   . subst e;rw [hx] at hy;cases hy;exact hb16
   . exact hp i y oM hy⟩
  ) (by dsimp only;omega) sB trivial)
 refine ZF ?_;refine Zg results43 rfl ?_;rw [LU fun i y hi hy=>hp i y oM hy]
def Ro (f:Nat) (caps:List PV) (p:Var->Bool) (l:List Var) (hc:∀args w,(callFunc f args).run prog w= .ok (.enter f args) w) (hf:∀s∈l,AF prog f (.agg (YL s)::caps) (· =Zr (p s))):AF prog 38 [ZV l, .fn f caps] (· =Zr (l.any p)):=by
 refine AF.b2 9 func38 rfl ntmps38 (Xa rfl) fun w0 M0 v0 v1 _ _=>?_
 refine RF ?_;refine cV (cA call43 (OC f caps p l hc hf)) ?_;refine W2 ?_
 refine Zg results38 rfl ?_
 rw [LS]
def EL (f:Nat) (caps:List PV) (p:Cnt->Bool) (l:List Cnt) (hc:∀args w,(callFunc f args).run prog w= .ok (.enter f args) w) (hf:∀s∈l,AF prog f (.agg (Lp s)::caps) (· =Zr (p s))):AF prog 208 [Jf l, .fn f caps] (· =Zb (idx p l)):=by
 refine AF.b2 19 func208 rfl ntmps208 (Xa rfl) fun w0 M0 v0 v1 _ _=>?_
 refine Km 0 rfl fun hlen=>?_
 refine WK ?_
 refine xL 6 Za (xL 7 (Zu YA) (xL 8 Za ?_));refine ZZ ?_
 refine Y0 (ι:={k:Nat//k<=l.length/\∀i y,i<k->l[i]? =some y->p y=false}) (fun k=>⟨[(0,_,_),(1,_,_),(7,_,_),(8, .int .i64 k.1,Zb k.1)],[]⟩) (fun k=>l.length-k.1) ⟨0,oM,oM⟩ (fun a w H=>H.weaken sB trivial) ?_
 rintro ⟨k,hk,hp⟩
 dsimp only
 refine Ys ?_ ?_<;>intro hb9
 . (
 obtain ⟨x,hx⟩:=gS l k;have e1:=Y4 YM l k x hx;have e2:=Ww YM hx;refine Jh ?_;refine xL 11 Za (xL 12 Za (xL 13 Za (xL 14 (Ze YA) ?_)));refine yU (We KI) fun v15=>?_;refine cV (LW (f:=f) (ps:=caps) rfl ⟨_,rfl⟩ hc rfl (hf x (Xb hx))) ?_;refine ZC ?_ ?_<;>intro hb16
 . (
 refine ZP ?_;refine Zg results208 rfl ?_;rw [Lb hp hx hb16])
 refine ZP ?_;refine Zh (
  ⟨k+1,oM,fun i y hi hy=>by
   by_cases e:i=k
   . subst e;rw [hx] at hy;cases hy;exact hb16
   . exact hp i y oM hy⟩
  ) (by dsimp only;omega) sB trivial)
 refine ZF ?_;refine Zg results208 rfl ?_;rw [LU fun i y hi hy=>hp i y oM hy]
def DU (f:Nat) (caps:List PV) (p:Cnt->Bool) (l:List Cnt) (hc:∀args w,(callFunc f args).run prog w= .ok (.enter f args) w) (hf:∀s∈l,AF prog f (.agg (Lp s)::caps) (· =Zr (p s))):AF prog 144 [Jf l, .fn f caps] (· =Zr (l.any p)):=by
 refine AF.b2 9 func144 rfl ntmps144 (Xa rfl) fun w0 M0 v0 v1 _ _=>?_
 refine RF ?_;refine cV (cA call208 (EL f caps p l hc hf)) ?_;refine W2 ?_
 refine Zg results144 rfl ?_
 rw [LS]
def Z8:FldT prog 28 0 0=true:=kR
def YH:FldT prog 28 1 1=true:=kR
def ZG:NoAgg prog 26=true:=kR
def R7:ZeroT prog 28 (.agg #[(.slice none 0 0),(.int .i64 0)]):=by unfold ZeroT;kernel_rfl
def Zdf (l:List BA):Prop:=l.length<=140737488355328/\∀s∈l,s.size<=140737488355328
def RJ (l:List Var):Prop:=l.length<=140737488355328/\∀x∈l,Zdf x.acts∧-9223372036854775808<=x.count/\x.count<=9223372036854775807
def ZeJ {α β:Type} (f:α->β) (l:List α):l.map f=l.flatMap fun x=>[f x]:=by
 induction l with
 |nil=>rfl
 |cons x l ih=>rw [Xn,ih];rfl
def Zg1 (s:BA) (hs:s.size<=9223372036854775807):AF prog 97 [Zx s] (· =Zr (!isName s)):=by
 refine AF.b1 6 func97 rfl ntmps97 (Xa rfl) ?_
 rintro w0 M0 _ rfl
 refine PH ?_;refine cV (cA call98 (HK s hs)) ?_;refine W2 ?_
 exact Zg results97 rfl rfl
def Zkm (l:List BA) (hf:Zdf l):AF prog 41 [ZX l] (· =Zr (l.all isName)):=by
 refine AF.b1 6 func41 rfl ntmps41 (Xa rfl) fun w0 M0 v0 _=>?_
 refine PH ?_;refine cV (cA call27 (Ta 97 [] (fun s=> !isName s) l call97 (fun s hs=>Zg1 s (by have:=hf.2 s hs;omega)))) ?_;refine W2 ?_
 refine Zg results41 rfl (RZ ?_)
 simp
def Tb {x:Var} (h:200<x.acts.length\/x.acts.all isName=false\/x.count<1\/1048576<x.count):Kc x=false:=by
 unfold Kc
 rcases h with h|h|h|h
 . rw [Qb (show ¬x.acts.length<=200 by omega)];simp
 . rw [h];simp
 . rw [Qb (show ¬1<=x.count by omega)];simp
 rw [Qb (show ¬x.count<=1048576 by omega)];simp
def EM {x:Var} (h1:x.acts.length<=200) (h2:x.acts.all isName=true) (h3:1<=x.count) (h4:x.count<=1048576):Kc x=true:=by
 unfold Kc;rw [Qa h1,h2,Qa h3,Qa h4];rfl
def J4 {l:List Var} {k:Nat} {x:Var} (h:l[k]? =some x) (ho:Kc x=false):Lm l k=false:=by
 unfold Lm;rw [h];simp [ho]
def ζ9 {l:List Var} {k:Nat} {x y:Var} (h:l[k]? =some x) (hy:l[k-1]? =some y) (hk:0<k) (hc:0<=cmpStrs y.acts x.acts):Lm l k=false:=by
 rw [Pz h hy hk,Qb (show ¬cmpStrs y.acts x.acts<0 by omega)];simp
def OD {l:List Var} {k:Nat} {x y:Var} (h:l[k]? =some x) (hy:l[k-1]? =some y) (ho:Kc x=true) (hc:0<k->cmpStrs y.acts x.acts<0):Lm l k=true:=by
 rcases V1 k with h0|h0
 . subst h0;rw [Zee h];exact ho
 rw [Pz h hy h0,ho,Qa (hc h0)];rfl
def J8 (l : List Var) (hf:RJ l):AF prog 9 [ZV l] (· =Zr (validVars l)):=by
 refine AF.b1 52 func9 rfl ntmps9 (Xa rfl) fun w0 M0 v0 _=>?_
 refine Km 0 rfl fun hlen=>?_
 refine WK ?_
 refine xL 5 Za (xL 6 (Zu Zv) (xL 7 G3 ?_));refine ZC ?_ ?_<;>intro hb7
 . (
 refine ZF ?_;refine Zg results9 rfl ?_;rw [show validVars l=false by unfold validVars;rw [Qb (show ¬l.length<=300 by omega)];simp])
 refine Zi ?_;refine xL 8 Za (xL 9 (Zu Zv) (xL 10 Za ?_));refine ZZ ?_;refine Y0 (ι:={k:Nat//k<=l.length/\∀j,j<k->Lm l j=true}) (fun k=>⟨[(0,_,_),(8,_,_),(9,_,_),(10, .int .i64 k.1,Zb k.1)],[]⟩) (fun k=>l.length-k.1) ⟨0,oM,oM⟩ (fun a w H=>H.weaken sB trivial) ?_;rintro ⟨k,hk,hp⟩;dsimp only;refine Ys ?_ ?_<;>intro hb11
 . (
 have hlt:k<l.length:=oM;obtain ⟨x,hx⟩:=get_some hlt;obtain ⟨y,hy⟩:=gS l (k-1);have e1:=Y4 ZM l k x hx;have e2:=Ww ZM hx;(have e3:(l.flatMap YL)[((k:Int)-1).toNat*2+0]? =some (ZX y.acts):=by rw [show ((k:Int)-1).toNat*2+0=(k-1)*2+0 by omega];exact Yr ZM hy dC);have hfx:=hf.2 x (Xb hx);have hxl:=hfx.1.1;refine Zi ?_;refine xL 12 Za (xL 13 (Ze Zv) ?_);refine yU (We W9) fun v14=>?_;refine Zt [(.slice none 0 0),(.int .i64 0)] 2 4 R7 fun h4=>?_;refine YU ?_;refine Zn 4 W9 ?_;refine ZZ ?_;(refine Yx [] [4] ?_<;>refine xE 0 rfl (Zc 4 Z8) ?_<;>(refine yE 1 rfl (Zf 4 ZG) fun v16 h=>?_;cases h)<;>refine xE 2 rfl (Zu Zo) ?_<;>refine gEx 3 ?_<;>refine gEx 4 ?_<;>(refine bDd 19 (fun hb19=>?_) (fun hb19=>?_)<;>(first|refine kD 5 ?_|refine xD 5 rfl (Zc 4 Z8) ?_))<;>(first|refine kD 6 ?_|(refine yD 6 rfl (Zf 4 ZG) fun v21 h=>?_;cases h))<;>(refine aDr 7 fun bk=>?_)<;>(first|refine kL ?_|(refine cV (cA call41 (Zkm x.acts hfx.1)) ?_))<;>refine bE bk ?_<;>(first|refine kD 8 ?_|refine gDx 8 ?_)<;>refine gEx 9 ?_<;>refine gEx 10 ?_<;>(first|refine kD 11 ?_|(refine bD 25 (fun hb25=>?_) (fun hb25=>?_)<;>(first|refine kD 11 ?_|refine xD 11 rfl (Zc 4 YH) ?_)))<;>(first|refine kD 12 ?_|(refine yD 12 rfl (Zf 4 Zq) fun v27 h=>?_;cases h))<;>(first|refine kD 13 ?_|refine gDx 13 ?_)<;>refine gEx 14 ?_<;>refine gEx 15 ?_<;>(first|refine kD 16 ?_|(refine bDd 30 (fun hb30=>?_) (fun hb30=>?_)<;>(first|refine kD 16 ?_|refine xD 16 rfl (Zc 4 YH) ?_)))<;>(first|refine kD 17 ?_|(refine yD 17 rfl (Zf 4 Zq) fun v32 h=>?_;cases h))<;>(first|refine kD 18 ?_|refine gDx 18 ?_)<;>refine gEx 19 ?_<;>refine gEx 20 ?_<;>(first|refine kD 21 ?_|(refine bDd 35 (fun hb35=>?_) (fun hb35=>?_)<;>(first|refine kD 21 ?_|refine gDx 21 ?_)))<;>(first|refine kD 22 ?_|refine gDx 22 ?_)<;>(first|refine kD 23 ?_|refine gDx 23 ?_)<;>(first|refine kD 24 ?_|(refine bDd 38 (fun hb38=>?_) (fun hb38=>?_)<;>(first|refine kD 24 ?_|refine gDx 24 ?_)))<;>(first|refine kD 25 ?_|refine gDx 25 ?_)<;>(first|refine kD 26 ?_|refine gDx 26 ?_)<;>(first|refine kD 27 ?_|refine xD 27 rfl (Sa Zv) ?_)<;>(first|refine kD 28 ?_|refine xD 28 rfl (Yg Z8) ?_)<;>(first|refine kD 29 ?_|(refine yD 29 rfl (Zw ZG) fun v44 h=>?_;cases h))<;>(first|refine kD 30 ?_|refine xD 30 rfl (Zc 4 Z8) ?_)<;>(first|refine kD 31 ?_|(refine yD 31 rfl (Zf 4 ZG) fun v46 h=>?_;cases h))<;>(refine aDr 32 fun bk=>?_)<;>(first|refine kL ?_|(refine cV (cA call42 (Zby y.acts x.acts)) ?_))<;>refine bE bk ?_<;>(first|refine kD 33 ?_|refine gDx 33 ?_)<;>(first|refine kD 34 ?_|refine gDx 34 ?_)<;>refine gEx 35 ?_<;>refine Wo ?_)<;>(
 refine cX ?_ ?_<;>intro hb50
 . first|exact bN hb50|(
 refine ZF ?_;refine Zg results9 rfl ?_;rw [SG hlt]
 first
  |exact J4 hx (Tb (.inl oM))
  |exact J4 hx (Tb (.inr (.inl (by simpa using hb25))))
  |exact J4 hx (Tb (.inr (.inr (.inl oM))))
  |exact J4 hx (Tb (.inr (.inr (.inr oM))))
  |exact ζ9 hx hy oM oM)
 . first |exact bN hb50|(
 refine ZP ?_;refine Zh (
  ⟨k +1,oM,fun j hj=>by
   by_cases e:j=k
   . subst e;exact OD hx hy (EM oM (by simpa using hb25) oM oM) oM
   . exact hp j oM⟩
  ) (by dsimp only;omega) sB trivial)))
 refine ZF ?_;refine Zg results9 rfl ?_;rw [RD oM (fun j hj=>hp j oM)]
def Gw:AggT prog 51 3=true:=kR
def CC:FldT prog 51 0 0=true:=kR
def Ws:FldT prog 51 1 1=true:=kR
def Kr:FldT prog 51 2 2=true:=kR
def ZeK:NoAgg prog 3=true:=kR
def Jl:NoAgg prog 49=true:=kR
def KT:NoAgg prog 9=true:=kR
def K6:SlT prog 49 51 3=true:=kR
def Zkn:ZeroT prog 51 (.agg #[(.int .i64 0),(.string ByteArray.empty),(.slice none 0 0)]):=by unfold ZeroT;kernel_rfl
mutual
def cTr:Nd->List PV
 | .mk o a l=>[Zb o,Zx a, .sl l.length (Z9 l)]
def Z9:List Nd->List PV
 |[]=>[]
 |x::l=>cTr x++Z9 l
end
def YJ (l:List Nd):PV:= .sl l.length (Z9 l)
def cN (t:Nd):List PV:=[Zb t.op,Zx t.act,YJ t.l]
def pTr (t:Nd):PV:= .agg (cN t)
def RL (t:Nd):(cN t).length=3:=rfl
def W5 (l:List Nd):Z9 l=l.flatMap cN:=by
 induction l with
 |nil=>rfl
 | cons x l ih=>
   rw [Z9,ih,Xq];congr 1
   cases x;rfl
def Yd {l:List Nd} {k:Nat} {x:Nd} (h:l[k]? =some x):((Z9 l).drop (k*3)).take 3=cN x:=by rw [W5];exact Y4 RL l k x h
def YF {l:List Nd} {k:Nat} {x:Nd} (h:l[k]? =some x):k*3+3<=(Z9 l).length:=by rw [W5];exact Ww RL h
inductive FitT:Nd->Prop
 |mk (t:Nd) (h1:t.l.length<=140737488355328) (h2:t.act.size<=140737488355328) (h3: -9223372036854775808<=t.op) (h4:t.op<=9223372036854775807) (h:∀x∈t.l,FitT x):FitT t
def FitT.len {t:Nd}:FitT t->t.l.length<=140737488355328
 | .mk _ h _ _ _ _=>h
def FitT.sz {t:Nd}:FitT t->t.act.size<=140737488355328
 | .mk _ _ h _ _ _=>h
def FitT.p {t:Nd}:FitT t->∀x∈t.l,FitT x
 | .mk _ _ _ _ _ h=>h
def Zdg (a:BA):(a.toList==ByteArray.toList {data:= #[]})=decide (a=ByteArray.empty):=by
 rw [VI,U']
 exact Y' (a:=a) (b:=ByteArray.empty)
section
variable {o:Int} {a:BA} {l:List Nd}
def R8:rightT (.mk o a l)=if o=1 then l.isEmpty&&isName a else if o=2 then l.isEmpty&&decide (a=ByteArray.empty) else if o=3\/o=4\/o=5 then !l.isEmpty&&decide (a=ByteArray.empty)
 else if o=6 then decide (l.length=2)&&decide (a=ByteArray.empty) else false:=rfl
def Zm3 (h:o=1):rightT (.mk o a l)=(decide ((l.length:Int)=0)&&isName a):=by
 rw [R8,Qd h]
 congr 1
 cases l<;>simp<;>omega
def Zm4 (h:o=2):rightT (.mk o a l)=(decide ((l.length:Int)=0)&&(a.toList==ByteArray.toList {data:= #[]})):=by
 rw [R8,Zdg,Qc oM,Qd h]
 congr 1
 cases l<;>simp<;>omega
def EN (h:o=3\/o=4\/o=5):rightT (.mk o a l)=(decide (1<=(l.length:Int))&&(a.toList==ByteArray.toList {data:= #[]})):=by
 rw [R8,Zdg,Qc oM,Qc oM,Qd h]
 congr 1
 cases l<;>simp<;>omega
def EO (h:o=6):rightT (.mk o a l)=(decide ((l.length:Int)=2)&&(a.toList==ByteArray.toList {data:= #[]})):=by
 rw [R8,Zdg,Qc oM,Qc oM,Qc oM,Qd h]
 congr 1
 rw [VI,U',U'];omega
def EP (h1:o≠1) (h2:o≠2) (h3:o≠3) (h4:o≠4) (h5:o≠5) (h6:o≠6):rightT (.mk o a l)=false:=by
 rw [R8,Qc h1,Qc h2,Qc oM,Qc h6]
end
def TS {a b:Bool} (h:a=true):Zr b=Zr (a&&b):=by rw [h];rfl
def Rp {a b:Bool} (h:a=false):Zr false=Zr (a&&b):=by rw [h];rfl
def LD {a b:Bool} (h:a=true):Zr b=Zr (b&&a):=by rw [h,Up]
def TT {a b:Bool} (h:a=false):Zr false=Zr (b&&a):=by rw [h,VJ]
def Zm5 (t : Nd) (hf:FitT t):AF prog 182 [pTr t] (· =Zr (rightT t)):=by
 obtain ⟨o,a,l⟩:=t
 have hl:=hf.len
 have ha:=hf.sz
 simp only [Nd.l,Nd.act] at hl ha
 refine AF.b1 47 func182 rfl ntmps182 (Xa rfl) fun w0 M0 v0 _=>?_
 have e0:pTr (.mk o a l)= .agg [Zb o,Zx a, .sl l.length (Z9 l)]:=rfl
 rw [e0]
 refine Zi ?_
 refine Z4 1 3 fun h1=>?_;refine ZW ?_
 refine xM (Zc 1 Kr) ?_;refine yU (Zf 1 Jl) fun v5=>?_;refine xL 6 (Zu K6) (xL 3 Wj ?_);refine YT ?_
 refine xM (Zc 1 CC) ?_;refine yV (Zf 1 ZeK) ?_;refine YT ?_;refine Wv ?_ ?_<;>intro hb9
 . (
 refine Zi ?_;(refine Y8 ?_<;>(refine bLd 13 (fun hb13=>?_) (fun hb13=>?_)<;>(first|refine kL ?_|refine xM (Zc 1 Ws) ?_))<;>(first|refine kL ?_|refine yV (Zf 1 KT) ?_)<;>(first|refine kL ?_|(refine cV (cA call98 (HK a oM)) ?_))<;>refine W2 ?_)<;>(
 refine Zg results182 rfl ?_;rw [Zm3 hb9]
 first
  |exact TS (Qa hb13)
  |exact Rp (Qb hb13)))
 refine W8 ?_ ?_<;>intro hb18
 . (
 refine Zi ?_;(refine Y8 ?_<;>(refine bLd 22 (fun hb22=>?_) (fun hb22=>?_)<;>(first|refine kL ?_|refine xM (Zc 1 Ws) ?_))<;>(first|refine kL ?_|refine yV (Zf 1 KT) ?_)<;>refine KR ?_)<;>(
 refine Zg results182 rfl ?_;rw [Zm4 hb18]
 first
  |exact TS (Qa hb22)
  |exact Rp (Qb hb22)))
 refine W8 ?_ ?_<;>intro hb27
 . (
 refine nav ?_;refine cX ?_ ?_<;>intro hb27
 . (
 refine Zi ?_;(refine Y8 ?_<;>(refine bLd 33 (fun hb33=>?_) (fun hb33=>?_)<;>(first|refine kL ?_|refine xM (Zc 1 Ws) ?_))<;>(first|refine kL ?_|refine yV (Zf 1 KT) ?_)<;>refine KR ?_)<;>(
 refine Zg results182 rfl ?_;rw [EN oM]
 first
  |exact TS (Qa hb33)
  |exact Rp (Qb hb33)))
 refine W8 ?_ ?_<;>intro hb38
 . (
 refine Zi ?_;(refine Y8 ?_<;>(refine bLd 42 (fun hb42=>?_) (fun hb42=>?_)<;>(first|refine kL ?_|refine xM (Zc 1 Ws) ?_))<;>(first|refine kL ?_|refine yV (Zf 1 KT) ?_)<;>refine KR ?_)<;>(
 refine Zg results182 rfl ?_;rw [EO hb38]
 first
  |exact TS (Qa hb42)
  |exact Rp (Qb hb42)))
 refine ZF ?_;refine Zg results182 rfl ?_;rw [EP oM oM oM oM oM oM])
 refine W8 ?_ ?_<;>intro hb27
 . (
 refine nav ?_;refine cX ?_ ?_<;>intro hb27
 . (
 refine Zi ?_;(refine Y8 ?_<;>(refine bLd 33 (fun hb33=>?_) (fun hb33=>?_)<;>(first|refine kL ?_|refine xM (Zc 1 Ws) ?_))<;>(first|refine kL ?_|refine yV (Zf 1 KT) ?_)<;>refine KR ?_)<;>(
 refine Zg results182 rfl ?_;rw [EN oM]
 first
  |exact TS (Qa hb33)
  |exact Rp (Qb hb33)))
 refine W8 ?_ ?_<;>intro hb38
 . (
 refine Zi ?_;(refine Y8 ?_<;>(refine bLd 42 (fun hb42=>?_) (fun hb42=>?_)<;>(first|refine kL ?_|refine xM (Zc 1 Ws) ?_))<;>(first|refine kL ?_|refine yV (Zf 1 KT) ?_)<;>refine KR ?_)<;>(
 refine Zg results182 rfl ?_;rw [EO hb38]
 first
  |exact TS (Qa hb42)
  |exact Rp (Qb hb42)))
 refine ZF ?_;refine Zg results182 rfl ?_;rw [EP oM oM oM oM oM oM])
 refine W8 ?_ ?_<;>intro hb27
 . (
 refine Zi ?_;(refine Y8 ?_<;>(refine bLd 33 (fun hb33=>?_) (fun hb33=>?_)<;>(first|refine kL ?_|refine xM (Zc 1 Ws) ?_))<;>(first|refine kL ?_|refine yV (Zf 1 KT) ?_)<;>refine KR ?_)<;>(
 refine Zg results182 rfl ?_;rw [EN oM]
 first
  |exact TS (Qa hb33)
  |exact Rp (Qb hb33)))
 refine W8 ?_ ?_<;>intro hb38
 . (
 refine Zi ?_;(refine Y8 ?_<;>(refine bLd 42 (fun hb42=>?_) (fun hb42=>?_)<;>(first|refine kL ?_|refine xM (Zc 1 Ws) ?_))<;>(first|refine kL ?_|refine yV (Zf 1 KT) ?_)<;>refine KR ?_)<;>(
 refine Zg results182 rfl ?_;rw [EO hb38]
 first
  |exact TS (Qa hb42)
  |exact Rp (Qb hb42)))
 refine ZF ?_;refine Zg results182 rfl ?_;rw [EP oM oM oM oM oM oM]
def Zko (t : Nd) (hf:FitT t):AF prog 192 [pTr t] (· =Zr (rightT t)):=by
 obtain ⟨o,a,l⟩:=t
 have hl:=hf.len
 have ha:=hf.sz
 simp only [Nd.l,Nd.act] at hl ha
 refine AF.b1 51 func192 rfl ntmps192 (Xa rfl) fun w0 M0 v0 _=>?_
 have e0:pTr (.mk o a l)= .agg [Zb o,Zx a, .sl l.length (Z9 l)]:=rfl
 rw [e0]
 refine Zi ?_
 refine Z4 1 3 fun h1=>?_;refine ZW ?_
 refine xM (Zc 1 CC) ?_;refine yV (Zf 1 ZeK) ?_;refine YT ?_;refine Wv ?_ ?_<;>intro hb5
 . (
 refine Zi ?_;(refine xM (Zc 1 Ws) ?_<;>refine yV (Zf 1 KT) ?_<;>(refine cV (cA call132 (ZbW a oM)) ?_)<;>refine YU ?_<;>(refine bL 10 (fun hb10=>?_) (fun hb10=>?_)<;>(first|refine kL ?_|refine xM (Zc 1 Kr) ?_))<;>(first|refine kL ?_|refine yU (Zf 1 Jl) fun v12=>?_)<;>(first|refine kL ?_|refine xM (Zu K6) ?_)<;>refine KR ?_)<;>(
 refine Zg results192 rfl ?_;rw [Zm3 hb5]
 first
  |exact LD hb10
  |exact TT hb10))
 refine W8 ?_ ?_<;>intro hb16
 . (
 refine Zi ?_;(refine xM (Zc 1 Ws) ?_<;>refine yV (Zf 1 KT) ?_<;>refine YW ?_<;>(refine bL 21 (fun hb21=>?_) (fun hb21=>?_)<;>(first|refine kL ?_|refine xM (Zc 1 Kr) ?_))<;>(first|refine kL ?_|refine yU (Zf 1 Jl) fun v23=>?_)<;>(first|refine kL ?_|refine xM (Zu K6) ?_)<;>refine KR ?_)<;>(
 refine Zg results192 rfl ?_;rw [Zm4 hb16]
 first
  |exact LD hb21
  |exact TT hb21))
 refine W8 ?_ ?_<;>intro hb27
 . (
 refine nav ?_;refine cX ?_ ?_<;>intro hb27
 . (
 refine Zi ?_;(refine xM (Zc 1 Ws) ?_<;>refine yV (Zf 1 KT) ?_<;>refine YW ?_<;>(refine bL 34 (fun hb34=>?_) (fun hb34=>?_)<;>(first|refine kL ?_|refine xM (Zc 1 Kr) ?_))<;>(first|refine kL ?_|refine yU (Zf 1 Jl) fun v36=>?_)<;>(first|refine kL ?_|refine xM (Zu K6) ?_)<;>refine KR ?_)<;>(
 refine Zg results192 rfl ?_;rw [EN oM]
 first
  |exact LD hb34
  |exact TT hb34))
 refine W8 ?_ ?_<;>intro hb40
 . (
 refine Zi ?_;(refine xM (Zc 1 Ws) ?_<;>refine yV (Zf 1 KT) ?_<;>refine YW ?_<;>(refine bL 45 (fun hb45=>?_) (fun hb45=>?_)<;>(first|refine kL ?_|refine xM (Zc 1 Kr) ?_))<;>(first|refine kL ?_|refine yU (Zf 1 Jl) fun v47=>?_)<;>(first|refine kL ?_|refine xM (Zu K6) ?_)<;>refine KR ?_)<;>(
 refine Zg results192 rfl ?_;rw [EO hb40]
 first
  |exact LD hb45
  |exact TT hb45))
 refine ZF ?_;refine Zg results192 rfl ?_;rw [EP oM oM oM oM oM oM])
 refine W8 ?_ ?_<;>intro hb27
 . (
 refine nav ?_;refine cX ?_ ?_<;>intro hb27
 . (
 refine Zi ?_;(refine xM (Zc 1 Ws) ?_<;>refine yV (Zf 1 KT) ?_<;>refine YW ?_<;>(refine bL 34 (fun hb34=>?_) (fun hb34=>?_)<;>(first|refine kL ?_|refine xM (Zc 1 Kr) ?_))<;>(first|refine kL ?_|refine yU (Zf 1 Jl) fun v36=>?_)<;>(first|refine kL ?_|refine xM (Zu K6) ?_)<;>refine KR ?_)<;>(
 refine Zg results192 rfl ?_;rw [EN oM]
 first
  |exact LD hb34
  |exact TT hb34))
 refine W8 ?_ ?_<;>intro hb40
 . (
 refine Zi ?_;(refine xM (Zc 1 Ws) ?_<;>refine yV (Zf 1 KT) ?_<;>refine YW ?_<;>(refine bL 45 (fun hb45=>?_) (fun hb45=>?_)<;>(first|refine kL ?_|refine xM (Zc 1 Kr) ?_))<;>(first|refine kL ?_|refine yU (Zf 1 Jl) fun v47=>?_)<;>(first|refine kL ?_|refine xM (Zu K6) ?_)<;>refine KR ?_)<;>(
 refine Zg results192 rfl ?_;rw [EO hb40]
 first
  |exact LD hb45
  |exact TT hb45))
 refine ZF ?_;refine Zg results192 rfl ?_;rw [EP oM oM oM oM oM oM])
 refine W8 ?_ ?_<;>intro hb27
 . (
 refine Zi ?_;(refine xM (Zc 1 Ws) ?_<;>refine yV (Zf 1 KT) ?_<;>refine YW ?_<;>(refine bL 34 (fun hb34=>?_) (fun hb34=>?_)<;>(first|refine kL ?_|refine xM (Zc 1 Kr) ?_))<;>(first|refine kL ?_|refine yU (Zf 1 Jl) fun v36=>?_)<;>(first|refine kL ?_|refine xM (Zu K6) ?_)<;>refine KR ?_)<;>(
 refine Zg results192 rfl ?_;rw [EN oM]
 first
  |exact LD hb34
  |exact TT hb34))
 refine W8 ?_ ?_<;>intro hb40
 . (
 refine Zi ?_;(refine xM (Zc 1 Ws) ?_<;>refine yV (Zf 1 KT) ?_<;>refine YW ?_<;>(refine bL 45 (fun hb45=>?_) (fun hb45=>?_)<;>(first|refine kL ?_|refine xM (Zc 1 Kr) ?_))<;>(first|refine kL ?_|refine yU (Zf 1 Jl) fun v47=>?_)<;>(first|refine kL ?_|refine xM (Zu K6) ?_)<;>refine KR ?_)<;>(
 refine Zg results192 rfl ?_;rw [EO hb40]
 first
  |exact LD hb45
  |exact TT hb45))
 refine ZF ?_;refine Zg results192 rfl ?_;rw [EP oM oM oM oM oM oM]
def Zg2 : ∀(t:Nd),FitT t->∀(most d:Int),-4611686018427387904<=most->most<=4611686018427387904→-4611686018427387904<=d->d<=4611686018427387904->AF prog 122 [pTr t,Zb most,Zb d] (· = .tup [Zb (if Tv t most d=true then (szT t:Int) else 0),Zr (Tv t most d)]):=Nd.ind fun o a l ih hf most d hm1 hm2 hd1 hd2=>by
 have hl:=hf.len
 have hp:=hf.p
 simp only [Nd.l] at hl hp
 refine AF.b3 48 func122 rfl ntmps122 (Xa rfl) ?_
 rintro w0 M0 v0 _ _-rfl rfl
 have e0:pTr (.mk o a l)= .agg [Zb o,Zx a, .sl l.length (Z9 l)]:=rfl
 rw [e0]
 refine Zi ?_
 refine Z4 3 3 fun h3=>?_;refine JF ?_
 (refine Y8 ?_<;>(refine bLd 15 (fun hb15=>?_) (fun hb15=>?_)<;>refine kZ ?_)<;>refine Kg ?_<;>(first|refine kL ?_|(refine bLd 19 (fun hb19=>?_) (fun hb19=>?_)<;>(first|refine kL ?_|refine yU (Zm 3 Gw) fun v20=>?_)))<;>(first|refine kL ?_|(refine cV (cA call182 (Zm5 (.mk o a l) hf)) ?_))<;>refine WF ?_)<;>(
 refine cX ?_ ?_<;>intro hb23
 . (
 refine ZP ?_;refine Y3 results122 rfl rfl ?_;rw [ZmY (by first|exact .inl oM|exact .inr (.inl oM)|exact .inr (.inr (by simpa using hb23)))];rfl)
 . first | exact bN hb23|(
 (have hrt:rightT (.mk o a l)=true:=by simpa using hb23);refine WK ?_;refine xM (Zc 3 Kr) ?_;refine yU (Zf 3 Jl) fun v25=>?_;refine xL 26 (Zu K6) (xL 27 Za ?_);refine ZZ ?_;refine Yl (ι:={k:Nat//k<=l.length/\((1+szL (l.take k):Nat):Int)<=most/\∀j x,j<k->l[j]? =some x->Tv x (most-((1+szL (l.take j):Nat):Int)) (d+1)=true}) (fun k=>⟨[(1,_,_),(2,_,_),(25,_,_),(26,_,_),(27, .int .i64 k.1,Zb k.1),(8, .int .i64 ((1+szL (l.take k.1):Nat):Int),Zb ((1+szL (l.take k.1):Nat):Int))],[(3,_,_)]⟩) (fun k=>l.length-k.1) ⟨0,oM,by simp [szL];omega,oM⟩ ?_;rintro ⟨k,hk,hsz,hp2⟩;dsimp only;refine Ys ?_ ?_<;>intro hb28
 . (
 obtain ⟨x,hx⟩:=gS l k;have hxm:=Xb hx;have e1:=Yd hx;have e2:=YF hx;refine Zi ?_;refine xM (Ze K6) ?_;refine yU (We Gw) fun v30=>?_;refine Zt zT 3 10 Zkn fun h10=>?_;refine Zn 10 Gw ?_;refine YT ?_;refine yU (Zm 10 Gw) fun v32=>?_;refine ZbT ?_;refine cP 38 (cA call122 (ih x hxm (hp x hxm) (most-((1+szL (l.take k):Nat):Int)) (d+1) oM oM oM oM)) fun va38 vb38 hva38 hvb38=>?_;cases hva38;cases hvb38;refine Ts ?_;refine Wv ?_ ?_<;>intro hb42
 . (
 refine ZP ?_;refine Y3 results122 rfl rfl ?_;rw [ZeC (t:= .mk o a l) hx (by simpa [Nd.l] using hb42)];rfl)
 (have hmx:Tv x (most-((1+szL (l.take k):Nat):Int)) (d+1)=true:=by simpa using hb42);have hsn:=ζZ hx;have hbd:(szT x:Int)<=most-((1+szL (l.take k):Nat):Int):=by
  have:=hmx;unfold Tv at this;simp only [Xf,U'] at this;exact this.1.2
 have hn2:((1+szL (l.take k):Nat):Int)+(szT x:Int)=((1+szL (l.take (k+1)):Nat):Int):=oM;rw [Qd hmx];refine Kt ?_;refine YU ?_;rw [hn2];refine J1 ?_;refine Yk (
  ⟨k+1,oM,oM,fun j y hj hy=>by
   by_cases e:j=k
   . subst e;rw [hx] at hy;cases hy;exact hmx
   . exact hp2 j y oM hy⟩
  ))
 refine YQ ?_;refine Y3 results122 rfl rfl ?_;have hkl:k=l.length:=oM;subst hkl;rw [Ziv (t:= .mk o a l) hrt oM oM fun j x hx=>hp2 j x (Zd hx) hx];rw [Xs (Xd _),Qd rfl,szT]))
def HQ (t:Nd) (hf:FitT t):AF prog 79 [pTr t] (· =Zr (Gp t)):=by
 refine AF.b1 11 func79 rfl ntmps79 (Xa rfl) fun w0 M0 v0 _=>?_
 have e0:pTr t= .agg [Zb t.op,Zx t.act,YJ t.l]:=rfl
 rw [e0]
 refine Zi ?_
 refine Z4 1 3 fun h1=>?_;refine ZW ?_
 refine yU (Zm 1 Gw) fun v6=>?_;refine cP 7 (cA call122 (Zg2 t hf 400 1 oM oM oM oM)) fun va7 vb7 hva7 hvb7=>?_;cases hva7;cases hvb7;refine Ts ?_;refine W2 ?_
 exact Zg results79 rfl rfl
def Zg3 {t:Nd} {most d:Int} (h:Tv t most d=true):(szT t:Int)<=most:=by
 unfold Tv at h
 simp only [Xf,U'] at h
 exact h.1.2
def Zdh (t:Nd) (d left:Int):Int:=if Tv t left d=true then left-(szT t:Int) else-1
def Zkp : ∀(t:Nd),FitT t->∀(d left:Int),-4611686018427387904<=left->left<=4611686018427387904→-4611686018427387904<=d->d<=4611686018427387904->AF prog 129 [pTr t,Zb d,Zb left] (· =Zb (Zdh t d left)):=Nd.ind fun o a l ih hf d left hm1 hm2 hd1 hd2=>by
 have hl:=hf.len
 have hp:=hf.p
 simp only [Nd.l] at hl hp
 refine AF.b3 41 func129 rfl ntmps129 (Xa rfl) ?_
 rintro w0 M0 v0 _ _-rfl rfl
 have e0:pTr (.mk o a l)= .agg [Zb o,Zx a, .sl l.length (Z9 l)]:=rfl
 rw [e0]
 refine Zi ?_
 refine Z4 3 3 fun h3=>?_;refine ZW ?_
 (refine Y8 ?_<;>(refine bLd 10 (fun hb10=>?_) (fun hb10=>?_)<;>refine kZ ?_)<;>refine Kg ?_<;>(first|refine kL ?_|(refine bLd 14 (fun hb14=>?_) (fun hb14=>?_)<;>(first|refine kL ?_|refine yU (Zm 3 Gw) fun v15=>?_)))<;>(first|refine kL ?_|(refine cV (cA call192 (Zko (.mk o a l) hf)) ?_))<;>refine WF ?_)<;>(
 refine cX ?_ ?_<;>intro hb18
 . (
 refine ZF ?_;refine Zg results129 rfl ?_;unfold Zdh;rw [ZmY (by first|exact .inl oM|exact .inr (.inl oM)|exact .inr (.inr (by simpa using hb18)))];rfl)
 . first | exact bN hb18|(
 (have hrt:rightT (.mk o a l)=true:=by simpa using hb18);(have hc0:left-1=left-((1+szL (l.take 0):Nat):Int):=by simp [szL]);refine Wp ?_;refine YU ?_;rw [hc0];refine KG ?_;refine Yl (ι:={k:Nat//k<=l.length/\((1+szL (l.take k):Nat):Int)<=left/\∀j x,j<k->l[j]? =some x->Tv x (left-((1+szL (l.take j):Nat):Int)) (d+1)=true}) (fun k=>⟨[(1,_,_),(3,_,_),(7, .int .i64 k.1,Zb k.1),(2, .int .i64 (left-((1+szL (l.take k.1):Nat):Int)),Zb (left-((1+szL (l.take k.1):Nat):Int)))],[(3,_,_)]⟩) (fun k=>l.length-k.1) ⟨0,oM,by simp [szL];omega,oM⟩ ?_;rintro ⟨k,hk,hsz,hp2⟩;dsimp only;refine Zi ?_;refine xL 21 Za (xL 22 (Zc 3 Kr) ?_);refine yU (Zf 3 Jl) fun v23=>?_;refine xL 24 (Zu K6) (xL 25 Yn ?_);refine ZC ?_ ?_<;>intro hb25
 . (
 obtain ⟨x,hx⟩:=gS l k;have hxm:=Xb hx;have e1:=Yd hx;have e2:=YF hx;refine Zi ?_;refine xM (Zc 3 Kr) ?_;refine yU (Zf 3 Jl) fun v29=>?_;refine xL 30 Za (xL 31 (Ze K6) ?_);refine yU (We Gw) fun v32=>?_;refine Y8 ?_;refine cS 36 (cA call129 (ih x hxm (hp x hxm) (d+1) (left-((1+szL (l.take k):Nat):Int)) oM oM oM oM)) fun v36 hv36=>?_;cases hv36;refine ZD ?_;have hcx:Zdh x (d+1) (left-((1+szL (l.take k):Nat):Int))<0↔Tv x (left-((1+szL (l.take k):Nat):Int)) (d+1)=false:=by
  unfold Zdh
  cases hmx:Tv x (left-((1+szL (l.take k):Nat):Int)) (d+1) with
  |true=>have:=Zg3 hmx;simp;omega
  |false=>simp
 refine Zp ?_;refine Wv ?_ ?_<;>intro hb38
 . (
 refine ZP ?_;refine Zg results129 rfl ?_;have hmx:=hcx.1 hb38;unfold Zdh;rw [ZeC (t:= .mk o a l) hx hmx,hmx];rfl)
 have hmx:Tv x (left-((1+szL (l.take k):Nat):Int)) (d+1)=true:=by
  cases h:Tv x (left-((1+szL (l.take k):Nat):Int)) (d+1) with
  |true=>rfl
  |false=>exact Qe (hcx.2 h) hb38
 have hsn:=ζZ hx;have hbd:=Zg3 hmx;have hn2:Zdh x (d+1) (left-((1+szL (l.take k):Nat):Int))=left-((1+szL (l.take (k+1)):Nat):Int):=by
  unfold Zdh;rw [Qd hmx];omega
 rw [hn2];refine YQ ?_;refine Yk (
  ⟨k+1,oM,oM,fun j y hj hy=>by
   by_cases e:j=k
   . subst e;rw [hx] at hy;cases hy;exact hmx
   . exact hp2 j y oM hy⟩
  ))
 refine ZP ?_;refine Zg results129 rfl ?_;have hkl:k=l.length:=oM;subst hkl;unfold Zdh;rw [Ziv (t:= .mk o a l) hrt oM oM fun j x hx=>hp2 j x (Zd hx) hx];rw [Xs (Xd _),Qd rfl,szT]))
def Dd (t:Nd) (hf:FitT t):AF prog 82 [pTr t] (· =Zr (Gp t)):=by
 refine AF.b1 6 func82 rfl ntmps82 (Xa rfl) fun w0 M0 v0 _=>?_
 have e0:pTr t= .agg [Zb t.op,Zx t.act,YJ t.l]:=rfl
 rw [e0]
 refine Zi ?_
 refine Z4 1 3 fun h1=>?_;refine ZW ?_
 refine yU (Zm 1 Gw) fun v3=>?_;refine cV (cA call129 (Zkp t hf 1 400 oM oM oM oM)) ?_;refine W2 ?_
 refine Zg results82 rfl (RZ ?_)
 rw [U']
 unfold Zdh Gp
 cases h:Tv t 400 1 with
 |true=>have:=Zg3 h;simp;omega
 |false=>simp
end Go.Proofs.YtmkojdfiadbeeaaGreat
namespace Go.En
open Go.RowKit Go.Cb Go.Proofs Go.Sort
def Ziz (P:Program) (fs g k:Nat):Prop:=∀{α:Type} [Inhabited α] (enc:α->List Value),(∀x,(enc x).length=k)->(∀x,∀v∈enc x,v.oneCell'=true)->∀(cf:α->α->Int),SWO (ltOf cf)->∀(blk cap:Nat) (d:Array α) (w:World),
 CmpLays P g #[] enc k cf blk 0 d.size w->HoldsK enc k w blk 0 d->blk<w.heap.size->d.size<4611686018427387904->
 Calls P fs #[.slice (some ⟨blk,0,none⟩) d.size cap, .func (.func g) #[] #[]] w fun e w'=>e= .returned (.tuple #[])/\∃d' n os,PermIn 0 d.size d d'/\SortedIn (ltOf cf) 0 d.size d'/\w'=sortWorldK enc k w blk 0 n d' os
def Zm6 {α:Type} [Inhabited α] (enc:α->List Value) (k:Nat) (w:World) (blk m:Nat) (d:Array α) (os:Array Obj):Chg (fun b=>b=blk) w (sortWorldK enc k w blk 0 m d os):=by
 refine ⟨rfl,rfl,rfl,?_,fun i hi hne=>?_⟩
 . simp [sortWorldK,grow,putRowK,putRow,mapBlock,ahead]
 have:(sortWorldK enc k w blk 0 m d os).heap=(w.heap.modify blk (onCells (putCells id 0 (flatK enc k d))))++os:=rfl;rw [this,VQ (by simpa using hi),Ut,Qc (fun e=>hne e.symm)]
def Zr9 {α:Type} [Inhabited α] (enc:α->List Value) (k:Nat) (w:World) (blk m:Nat) (d:Array α) (os:Array Obj) {cur:Array Value} {e:TypeId} (h:w.heap[blk]? =some (.cells cur e (0,0))):
 (sortWorldK enc k w blk 0 m d os).heap[blk]? =some (.cells (putCells id 0 (flatK enc k d) cur) e (0,0)):=by
 have hlt:=KV h
 have:(sortWorldK enc k w blk 0 m d os).heap=(w.heap.modify blk (onCells (putCells id 0 (flatK enc k d))))++os:=rfl
 rw [this,VQ (by simpa using hlt),Ut,Qd rfl,h]
 rfl
def Zm7 (f cur:Array Value) (h:f.size<=cur.size):(putCells id 0 f cur).toList.take f.size=f.toList:=by
 apply VT
 intro j
 by_cases hj:j<f.size
 . rw [X1 hj];have hjc:j<cur.size:=oM;simp [putCells,hj,hjc]
 rw [X' (by simp;omega),X' (by simp;omega)]
variable {P:Program} {c:Ctx} {ops:Array Oper} {Q:Exit->Act->World->Prop} {rest:List Oper} {sL hP:List (Nat×Ent)} {o:Oper}
def Zdi {β:Type} {fs g k e d l:Nat} {f:β->List PV} {cmp:β->β->Int} {rows:List β} {h:Value} {q q':PV} {x y:Operand} {ats:Array TypeId} (hS:Ziz P fs g k) (hf:∀x,(f x).length=k) (hk:0<k) (hsh:∀x,(f x).all (fun p=>isSh p&&one p)=true)
 (hirr:∀a,¬cmp a a<0) (htr:∀a b c,cmp a b<0->cmp b c<0->cmp a c<0) (hnt:∀a b c,¬cmp a b<0->¬cmp b c<0->¬cmp a c<0)
 (hcmp:∀(x y:β) (M:BS) (W:World) (u v:Value),x∈rows->y∈rows->Shr M W u (.agg (f x))->Shr M W v (.agg (f y))->Calls P g #[u,v] W fun e w'=>e= .returned (.int .i64 (cmp x y))/\∃q os',w'=grow (W.drewN q) os')
 (hn:0<rows.length) (hn2:rows.length<4611686018427387904)
 (hw:Yb ops sL o=some true) (hd:o.dst=some d) (hdn:d<c.nt) (ho:o.op= .call {callee:= .value (.func fs),args:= #[x,y],argTypes:=ats}) (hc:∀args w,(callFunc fs args).run P w= .ok (.enter fs args) w) (hx:ev sL x=some (h,q)) (hy:ev sL y=some (.func (.func g) #[] #[],q')) (hl:lk hP l=some (h, .own e k rows.length (rows.flatMap f)))
 (kk:∀rows':List β,rows'.Perm rows->(∀(i j:Nat) (a b:β),i<j->rows'[i]? =some a->rows'[j]? =some b->¬cmp b a<0)->aL P c ops Q rest ⟨put d (.tuple #[], .val (.tuple #[])) sL,put l (h, .own e k rows.length (rows'.flatMap f)) hP⟩):aL P c ops Q (o::rest) (⟨sL,hP⟩:St):=
 W1 hw fun a w F H=>by
  have hxv:=(H.rd.ev hx).1;have hyv:=(H.rd.ev hy).1;have hTr:=H.tr l _ _ hl;obtain ⟨xs,Fs,hrow,hlen,hT,hdj,hb,hF⟩:=hTr.row;obtain ⟨blk,cap,hh,hc1,hc2,hc3⟩:=GM hTr hn;have hfl:=Z1 hf rows;have hblkF:F l blk:=(hF blk).2 (.inl (by rw [hh];rfl));have hblkM:mof c hP F blk:= .inr ⟨l,_,hl,hblkF⟩;haveI:Inhabited (Fin rows.length):=⟨⟨0,hn⟩⟩
  let enc:Fin rows.length->List Value:=fun i=>(xs.drop (i.1*k)).take k;have hxl:xs.length=rows.length*k:=oM;have henc:∀i:Fin rows.length,(enc i).length=k:=fun i=>by
   have h1:(i.1+1)*k<=rows.length*k:=Vx k i.2;rw [X3,Nat.one_mul] at h1;simp [enc];omega
  have hget:∀(i:Fin rows.length) (j:Nat),j<k->(enc i)[j]? =xs[i.1*k+j]? :=fun i j hj=>by
   simp only [enc];rw [X1 hj,Vn]
  have hrd:∀(i:Fin rows.length) (j:Nat) (v:Value) (p:PV),(enc i)[j]? =some v->(f rows[i.1])[j]? =some p->Shr (mof c hP F) w v p/\isSh p=true/\one p=true:=fun i j v p hv hp=>by
   have hj:j<k:=by rw [<-hf];exact Zd hp
   rw [hget i j hj] at hv;have hp2:(rows.flatMap f)[i.1*k+j]? =some p:=by rw [Yr hf (Xr i.2) hj];exact hp
   have:=Xj.1 (hsh rows[i.1]) p (Xb hp);rw [Xf] at this;exact ⟨(hT _ v p hv hp2).sh this.1,this.1,this.2⟩
  have hone:∀(i:Fin rows.length),∀v∈enc i,v.oneCell'=true:=fun i v hv=>by
   obtain ⟨j,hj,rfl⟩:=V7 hv;have hjk:j<k:=by rw [<-henc i];exact hj
   obtain ⟨p,hp⟩:=YV (show j<(f rows[i.1]).length by rw [hf];exact hjk);obtain ⟨h1,_,h3⟩:=hrd i j _ p (Xr hj) hp;exact h1.one h3
  let cf:Fin rows.length->Fin rows.length->Int:=fun i j=>cmp rows[i.1] rows[j.1];have hO:SWO (ltOf cf):=⟨fun i=>Qb (hirr _),fun i j m h1 h2=>Qa (htr _ _ _ (Qf h1) (Qf h2)),fun i j m h1 h2=>Qb (hnt _ _ _ (Qg h1) (Qg h2))⟩;let ds:Array (Fin rows.length):=Array.ofFn id;have hds:ds.size=rows.length:=by simp [ds]
  have hdg:∀j (hj:j<rows.length),ds[j]! =⟨j,hj⟩:=fun j hj=>by simp [ds,hj]
  have hagg:∀(i:Fin rows.length) (W:World),Chg (fun b=>b=blk) w W->Shr (mof c hP F) W (.agg (enc i).toArray) (.agg (f rows[i.1])):=fun i W hW=>by
   refine .agg _ _ (by rw [henc,hf]) fun j v p hv hp=>?_;exact (hrd i j v p hv hp).1.to hW (fun b _ hb=>by rw [hb];exact hblkM) (fun _ _ h=>h)
  have hcl:CmpLays P g #[] enc k cf blk 0 ds.size w:=fun m os dk _ i j=>by
   have hW:=Zm6 enc k w blk m dk os;exact hcmp rows[i.1] rows[j.1] _ _ _ _ (Vm _) (Vm _) (hagg i _ hW) (hagg j _ hW)
  have hHold:HoldsK enc k w blk 0 ds:=fun t ht=>by
   rw [size_flatK,hds] at ht;have hdiv:t / k<rows.length:=by rw [UR hk];exact ht
   have hmod:t % k<k:=V0 _ hk;have he:t / k*k+t % k=t:=by rw [VH];exact Uo _ _
   rw [get_flatK _ _ _ _ (by rw [hds];exact ht),hdg _ hdiv];have hg2:=hget ⟨t / k,hdiv⟩ (t % k) hmod;simp only at hg2;rw [he] at hg2;obtain ⟨v,hv⟩:=YV (show t<xs.length by omega);rw [hv] at hg2;have hrow':=hrow;rw [hh] at hrow';refine ⟨?_,by rw [XC];exact hrow'.frozenAt t⟩;rw [XC,JC hrow' hv];have:(enc ⟨t / k,hdiv⟩)[t % k]! =v:=by
    rw [getElem!_def,hg2]
   rw [id,this]
  have hcall:=hS enc henc hone cf hO blk cap ds w hcl hHold hc3 (by rw [hds];exact hn2);rw [hds] at hcall;unfold Oper.wp;have hrun:(execOp a.eval o).run P w= .ok (.enter fs #[h, .func (.func g) #[] #[]]) w:=by
   have hev:a.eval (.func fs)= .func (.func fs) #[] #[]:=rfl;simp [execOp,ho,resolve,Deferred.ofValue,hev,invoke,hxv,hyv,hc]
  rw [hrun,Oper.upon_enter,hh];refine hcall.mono fun e' w' ⟨he',d',m,os,hperm,hsorted,hw'⟩=>?_;subst he';have hd's:d'.size=rows.length:=by rw [hperm.1,hds]
  have hpl:d'.toList.Perm ds.toList:=by
   have h2:=hperm.2.2;have e1:(ds.extract 0 rows.length).toList=ds.toList:=by
    rw [US];simp only [UT,Vf,VA];exact Xs (by rw [Va,hds];exact Xd _)
   have e2:(d'.extract 0 rows.length).toList=d'.toList:=by
    rw [US];simp only [UT,Vf,VA];exact Xs (by rw [Va,hd's];exact Xd _)
   rw [e1,e2] at h2;exact h2
  let rows':List β:=d'.toList.map fun i=>rows[i.1];have hr's:rows'.length=rows.length:=by simp [rows',hd's]
  have hdl:ds.toList.map (fun i:Fin rows.length=>rows[i.1])=rows:=by
   apply List.ext_getElem
   . simp [ds]
   intro j h1 h2;simp [ds]
  have hrp:rows'.Perm rows:=by
   have:=hpl.map fun i:Fin rows.length=>rows[i.1];rw [hdl] at this;exact this
  have hat:∀j (hj:j<rows.length),∃i:Fin rows.length,d'[j]! =i/\rows'[j]? =some rows[i.1]:=fun j hj=>by
   have hj':j<d'.size:=oM;refine ⟨d'[j],by simp [hj'],?_⟩;simp [rows',hj']
  rw [hd];refine kk rows' hrp (fun i j x y hij hx' hy'=>?_) _ _ ⟨fun l'=>if l'=l then (fun b=>b=blk) else F l',?_⟩
  . (have hjl:j<rows.length:=by have:=Zd hy';omega);obtain ⟨i1,h1,h2⟩:=hat i oM;obtain ⟨j1,h3,h4⟩:=hat j hjl;rw [h2] at hx';cases hx';rw [h4] at hy';cases hy';have h5:=hsorted i j (Xg _) hij hjl;rw [h1,h3] at h5;simpa [ltOf,cf] using h5
  have hch0:=Zm6 enc k w blk m d' os;rw [<-hw'] at hch0;refine H.change (fun l'=>l'=l) hdn (hch0.wid fun b hb'=> .inl ⟨l,_,rfl,hl,by rw [hb'];exact hblkF⟩) (fun l' z hne hz=>?_) (fun l' z b hT' hz hb'=>?_) (fun hmm l' u p hT' hz=>?_) (fun l1 l2 _ _ _ h1 h2 hne=>Qe (h1.trans h2.symm) hne) (fun _=> .val _) (fun _=>by rw [hw'];exact Ub _ _)
  . rcases YC hz with ⟨e1,_⟩|⟨_,e1⟩
    . exact Qe e1.symm hne
    exact ⟨e1,by simp [hne]⟩
  . subst hT';simp only [if_true] at hb';exact .inl ⟨l',_,rfl,hl,by rw [hb'];exact hblkF⟩
  subst hT';rw [Z3] at hz
  cases hz;simp only [if_true];rcases hrow.2 with ⟨e1,_⟩|⟨g',cap',cur,e1,_,e3,e4,e5,e6,e7⟩
  . rw [hh] at e1;cases e1
  rw [hh] at e1
  cases e1;(have hfs:(flatK enc k d').size=rows.length*k:=by rw [size_flatK,hd's]);refine .own (flatK enc k d').toList (fun _ _=>False) ⟨by rw [Va,hfs], .inr ⟨blk,cap,putCells id 0 (flatK enc k d') cur,hh,Xg _,by rw [hw'];exact Zr9 enc k w blk m d' os e3,e4,e5,by simp [putCells];exact e6,?_⟩⟩ ((Z1 hf rows').trans ((congrArg (· *k) hr's).trans ((Va (xs:=flatK enc k d')).trans hfs).symm)) (fun t v p hv hp=>?_) (fun _ _ _ _ _ _ h=>h.elim) (fun _ _ _ h=>h.elim) (fun b=>by rw [hh];simp [Value.ownBlock,eq_comm])
  . rw [<-hfs];exact Zm7 _ _ (by rw [hfs,e6];exact Vx k e4)
  (have ht:t<rows.length*k:=by have:=Zd hv;rw [Va,hfs] at this;exact this);(have hdiv:t / k<rows.length:=by rw [UR hk];exact ht);have hmod:t % k<k:=V0 _ hk;(have he:t / k*k+t % k=t:=by rw [VH];exact Uo _ _);obtain ⟨i1,h1,h2⟩:=hat (t / k) hdiv;have hp2:=Yr hf h2 hmod;rw [he,hp] at hp2;have hv2:v=(enc i1)[t % k]! :=by
   have h3:=get_flatK enc k d' t (by rw [hd's];exact ht);rw [h1] at h3;rw [<-h3,getElem!_def,<-Uc,hv]
  (have hlt:t % k<(enc i1).length:=by rw [henc];exact hmod);have hv3:(enc i1)[t % k]? =some v:=by
   rw [hv2,getElem!_def,Xr hlt]
  exact .shr ((hrd i1 (t % k) v p hv3 hp2.symm).1.to (hch0.wid (N:=fun b=>b=blk) fun b hb'=> .inl hb') (fun b _ hb'=>by rw [hb'];exact hblkM) hmm) (fun _ h=>h)
open Go.RowKit Go.Cb
section
variable {P:Program} {c:Ctx} {ops:Array Oper} {Q:Exit->Act->World->Prop} {rest:List Oper} {st:St} {sL hP:List (Nat×Ent)} {o:Oper}
def Zp4 {w:World} {e k n m:Nat} {h:Value} {xs:List Value} (hrow:w.ownsRow 0 e k h n xs) (hm:m<=n):w.ownsRow 0 e k (slc h 0 m k) m (xs.take (m*k))/\(slc h 0 m k).ownBlock=h.ownBlock:=by
 rcases hrow.2 with ⟨rfl,rfl⟩|⟨g,cap,cur,rfl,hg,hh,h1,h2,h3,h4⟩
 . obtain rfl:m=0:=oM;refine ⟨⟨sM, .inl ⟨by simp [slc],rfl⟩⟩,by simp [slc]⟩
 have hs:slc (.slice (some ⟨g,0,none⟩) n cap) 0 m k= .slice (some ⟨g,0,none⟩) m cap:=by
  simp only [slc,X8,VY,Kk,VO,VA,ite_self]
 rw [hs];refine ⟨⟨?_, .inr ⟨g,cap,cur,rfl,hg,hh,oM,h2,h3,?_⟩⟩,rfl⟩
 . rw [XA,hrow.1];exact Vb (Vx k hm)
 rw [<-h4,List.take_take,Vb (Vx k hm)]
def Zta {l e k n:Nat} {h:Value} {cs:List PV} (m:Nat) (hl:lk hP l=some (h, .own e k n cs)) (hm:m<=n):Tn (⟨sL,hP⟩:St) (fun _:Unit=>⟨sL,put l (slc h 0 m k, .own e k m (cs.take (m*k))) hP⟩):=fun c a w ⟨F,H⟩=>by
 have hTr:=H.tr l _ _ hl
 obtain ⟨xs,Fs,hrow,hlen,hT,hd,hb,hF⟩:=hTr.row
 obtain ⟨hrow',hown⟩:=Zp4 hrow hm
 refine ⟨(),fun x=>if x=l then (fun b=>h.ownBlock=some b\/∃i,i<(cs.take (m*k)).length/\Fs i b) else F x,?_⟩
 have hle:(cs.take (m*k)).length<=cs.length:=by rw [XA];exact Nat.min_le_right _ _
 refine H.retell (fun x=>x=l) (fun x y hnT hx=>?_) (fun x y b hTx hx hb'=>?_) (fun hmm x u q hTx hx=>?_) (fun x1 x2 y1 y2 b h1 h2 hne'=>Qe (h1.trans h2.symm) hne')
 . have n1:x≠l:=hnT;rw [Yy (Ne.symm n1)] at hx;exact ⟨hx,by simp [n1]⟩
 . subst hTx;simp only [if_true] at hb';refine ⟨x,_,rfl,hl,(hF b).2 ?_⟩;rcases hb' with h1|⟨i,hi,h1⟩
   . exact .inl h1
   exact .inr ⟨i,oM,h1⟩
 subst hTx;rw [Z3] at hx
 cases hx;simp only [if_true];refine .own _ Fs hrow' (by rw [XA,XA,hlen]) (fun i x p hx9 hp=>?_) (fun i j b hi hj=>hd i j b oM oM) (fun i b hi h1 h2=>hb i b oM h1 (by rw [<-hown];exact h2)) (fun b=>by rw [hown]);have hi:i<m*k:=by have:=Zd hx9;rw [XA] at this;omega
 rw [X1 hi] at hx9 hp;exact (hT i x p hx9 hp).anti hmm
def Ka {t e kk bytes n m:Nat} {z:Value} {x y:Operand} {h v2:Value} {q:PV} {cs cs2:List PV} (l d:Nat) (hT:ElT P t e kk bytes z) (k:∀h':Value,h'.oneCell'=true->aL P c ops Q rest ⟨put d (h', .val h') sL,put d (h', .own e kk (n+m) (cs++cs2)) (del l hP)⟩)
 (hlen2:cs2.length=m*kk:=by first|assumption|exact rfl) (hok:cs2.all one=true:=by first|assumption|exact rfl) (hw:Yb ops sL o=some true:=by exact rfl) (hd:o.dst=some d:=by exact rfl) (hn:d<c.nt:=by exact Xa rfl) (ho:o.op= .call {callee:= .builtin .append,args:= #[x,y],argTypes:= #[t,t]}:=by exact rfl)
 (hx:ev sL x=some (h,q):=by exact rfl) (hy:ev sL y=some (v2, .sl m cs2):=by exact rfl) (hl:lk hP l=some (h, .own e kk n cs):=by exact rfl) (hdl:lk (del l hP) d=none:=by exact rfl) (hlen:n+m<=9223372036854775807:=by exact Ll) (hb:(n+m)*bytes<=140737488355328:=by exact Ll) (hdr:¬c.dr:=by exact id):aL P c ops Q (o::rest) (⟨sL,hP⟩:St):=fun a w ⟨F,H⟩=>by
 have h1:h.oneCell'=true:=(H.tr l _ _ hl).cellOne rfl
 rcases V1 m with h0|h0
 . subst h0;have:cs2=[]:=Xv (by rw [hlen2,X8]);subst this;refine ZpF l d hT hw hd hn ho hx hy hl (Zz (ZK d hl hdl) fun _=>?_) a w ⟨F,H⟩;have:=k h h1;rw [Xo] at this;exact this
 exact ZgJ l d hT hw hd hn ho hx hy hl (ZpE hy h0) hlen2 hdl hok hlen hb hdr k a w ⟨F,H⟩
end
def Zrz (P:Program) (fs:Nat):Prop:=∀(blk cap:Nat) (zs:List Int) (w:World),Go.Sort.Holds (Value.int .i64) w blk 0 zs.toArray->blk<w.heap.size->zs.length<4611686018427387904->
 Calls P fs #[.slice (some ⟨blk,0,none⟩) zs.length cap] w fun e w'=>e= .returned (.tuple #[])/\∃n os,w'=grow (putRow (Value.int .i64) (Go.Sort.ahead w n) blk 0 (zs.mergeSort fun x y=>decide (x<=y)).toArray) os
def Zb2 {α:Type} [Inhabited α] (enc:α->Value) (f:Array α) (cur:Array Value) (h:f.size<=cur.size):(putCells enc 0 f cur).toList.take f.size=f.toList.map enc:=by
 apply VT
 intro j
 by_cases hj:j<f.size
 . rw [X1 hj];have hjc:j<cur.size:=oM;simp [putCells,hj,hjc]
 rw [X' (by simp;omega),X' (by simp;omega)]
def Zdj {fs e d:Nat} {zs:List Int} {h:Value} {q:PV} {x:Operand} {ats:Array TypeId} (l:Nat) (hS:Zrz P fs) (hc:∀args w,(callFunc fs args).run P w= .ok (.enter fs args) w)
 (kk:aL P c ops Q rest ⟨put d (.tuple #[], .val (.tuple #[])) sL,put l (h, .own e 1 zs.length ((zs.mergeSort fun x y=>decide (x<=y)).map Zb)) hP⟩)
 (hn:0<zs.length) (hn2:zs.length<4611686018427387904:=by omega) (hw:Yb ops sL o=some true:=by exact rfl) (hd:o.dst=some d:=by exact rfl) (hdn:d<c.nt:=by exact Xa rfl) (ho:o.op= .call {callee:= .value (.func fs),args:= #[x],argTypes:=ats}:=by exact rfl) (hx:ev sL x=some (h,q):=by exact rfl) (hl:lk hP l=some (h, .own e 1 zs.length (zs.map Zb)):=by exact rfl):aL P c ops Q (o::rest) (⟨sL,hP⟩:St):=
 W1 hw fun a w F H=>by
  have hxv:=(H.rd.ev hx).1;have hTr:=H.tr l _ _ hl;obtain ⟨xs,Fs,hrow,hlen,hT,hdj,hb,hF⟩:=hTr.row;obtain ⟨blk,cap,hh,hc1,hc2,hc3⟩:=GM hTr hn;have hblkF:F l blk:=(hF blk).2 (.inl (by rw [hh];rfl));have hxs:∀(j:Nat) (v:Value),xs[j]? =some v->∃z,zs[j]? =some z/\v= .int .i64 z:=fun j v hv=>by
   obtain ⟨p,hp⟩:=Wc hv hlen.symm;have h1:=hp;rw [Xl,XU] at h1;obtain ⟨z,hz,rfl⟩:=h1;exact ⟨z,hz,((hT j v _ hv hp).sh rfl).vOf⟩
  have hHold:Go.Sort.Holds (Value.int .i64) w blk 0 zs.toArray:=fun j hj=>by
   simp only [Uz] at hj;have hrow':=hrow;rw [hh] at hrow';obtain ⟨v,hv⟩:=YV (show j<xs.length by rw [<-hlen,Xc];exact hj);obtain ⟨z,hz,rfl⟩:=hxs j v hv;refine ⟨?_,by rw [XC];exact hrow'.frozenAt j⟩;rw [XC,JC hrow' hv];have:zs.toArray[j]! =z:=by
    have hz':=(Xk.1 hz).2;simp [hj,hz']
   rw [this]
  have hcall:=hS blk cap zs w hHold hc3 hn2;unfold Oper.wp;have hrun:(execOp a.eval o).run P w= .ok (.enter fs #[h]) w:=by
   have hev:a.eval (.func fs)= .func (.func fs) #[] #[]:=rfl;simp [execOp,ho,resolve,Deferred.ofValue,hev,invoke,hxv,hc]
  rw [hrun,Oper.upon_enter,hh];refine hcall.mono fun e' w' ⟨he',m,os,hw'⟩=>?_;subst he';have hsl:(zs.mergeSort fun x y=>decide (x<=y)).length=zs.length:=V3 _;generalize hsd:(zs.mergeSort fun x y=>decide (x<=y))=sd at hsl hw' kk;have hch0:Chg (fun b=>b=blk) w w':=by
   rw [hw'];refine ⟨rfl,rfl,rfl,?_,fun i hi hne=>?_⟩
   . simp [grow,putRow,mapBlock,Go.Sort.ahead]
   have:(grow (putRow (Value.int .i64) (Go.Sort.ahead w m) blk 0 sd.toArray) os).heap=(w.heap.modify blk (onCells (putCells (Value.int .i64) 0 sd.toArray)))++os:=rfl;rw [this,VQ (by simpa using hi),Ut,Qc (fun e=>hne e.symm)]
  rw [hd];refine kk _ _ ⟨fun l'=>if l'=l then (fun b=>b=blk) else F l',?_⟩;refine H.change (fun l'=>l'=l) hdn (hch0.wid fun b hb'=> .inl ⟨l,_,rfl,hl,by rw [hb'];exact hblkF⟩) (fun l' z hne hz=>?_) (fun l' z b hT' hz hb'=>?_) (fun hmm l' u p hT' hz=>?_) (fun l1 l2 _ _ _ h1 h2 hne=>Qe (h1.trans h2.symm) hne) (fun _=> .val _) (fun _=>by rw [hw'];exact Ub _ _)
  . rcases YC hz with ⟨e1,_⟩|⟨_,e1⟩
    . exact Qe e1.symm hne
    exact ⟨e1,by simp [hne]⟩
  . subst hT';simp only [if_true] at hb';exact .inl ⟨l',_,rfl,hl,by rw [hb'];exact hblkF⟩
  subst hT';rw [Z3] at hz
  cases hz;simp only [if_true];rcases hrow.2 with ⟨e1,_⟩|⟨g',cap',cur,e1,_,e3,e4,e5,e6,e7⟩
  . rw [hh] at e1;cases e1
  rw [hh] at e1
  cases e1;have hlt:=KV e3;refine .own (sd.map (Value.int .i64)) (fun _ _=>False) ⟨by rw [Xc,hsl,XJ], .inr ⟨blk,cap,putCells (Value.int .i64) 0 sd.toArray cur,hh,Xg _,?_,e4,e5,by simp [putCells];omega,?_⟩⟩ sM (fun t v p hv hp=>?_) (fun _ _ _ _ _ _ h=>h.elim) (fun _ _ _ h=>h.elim) (fun b=>by rw [hh];simp [Value.ownBlock,eq_comm])
  . rw [hw'];have:(grow (putRow (Value.int .i64) (Go.Sort.ahead w m) blk 0 sd.toArray) os).heap=(w.heap.modify blk (onCells (putCells (Value.int .i64) 0 sd.toArray)))++os:=rfl;rw [this,VQ (by simpa using hlt),Ut,Qd rfl,e3];rfl
  . have:=Zb2 (Value.int .i64) sd.toArray cur (by simp only [Uz];rw [hsl,e6];omega);simp only [Uz] at this;rw [XJ,<-hsl];exact this
  rw [Xl,XU] at hv hp;obtain ⟨z,hz,rfl⟩:=hv;obtain ⟨z',hz',rfl⟩:=hp;rw [hz] at hz';cases hz';exact .shr (.val _) (fun _ h=>h)
def Zm8 {w w':World} (h:Ext w w') (hd:w.drawn<=w'.drawn):∃q os',w'=Go.Sort.grow (w.drewN q) os':=by
 refine ⟨w'.drawn-w.drawn,w'.heap.extract w.heap.size w'.heap.size,?_⟩
 have hh:w'.heap=w.heap++w'.heap.extract w.heap.size w'.heap.size:=by
  apply Array.ext_getElem?;intro i;rcases XL i w.heap.size with hi|hi
  . rw [VQ hi];exact Below.block h i hi
  rw [Array.getElem?_append_right hi,Array.getElem?_extract];have hs:=h.size;rcases XL i w'.heap.size with hi2|hi2
  . rw [Qd (by simp;omega),show w.heap.size+(i-w.heap.size)=i by omega]
  rw [VD hi2,Qc (by simp;omega)]
 have h1:=h.os
 have h2:=h.tape
 have h3:=h.output
 cases w' with
 | mk heap' tape' drawn' os' output'=>
   simp only at h1 h2 h3 hh hd;simp only [Go.Sort.grow,World.drewN];rw [<-hh,h1,h2,h3,show w.drawn+(drawn'-w.drawn)=drawn' by omega]
def AFg.exact {P:Program} {g:Nat} {ps:List PV} {x:Value} (h:AFg P g ps (· = .val x)) {M:BS} {W:World} {vs:List Value} (hl:vs.length=ps.length) (hv:∀(i:Nat) (v:Value) (p:PV),vs[i]? =some v->ps[i]? =some p->Shr M W v p):
 Calls P g vs.toArray W fun e w'=>e= .returned x/\∃q os',w'=Go.Sort.grow (W.drewN q) os':=
 (h (fun _=>False) W vs (M0k.true W) hl (fun i v p h1 h2=>(hv i v p h1 h2).anti fun _ _ h=>h.elim)).mono fun e w' ⟨v,p,F,h1,h2,h3,h4,_,h6⟩=>by
   subst h2;have:=(h4.sh rfl).vOf;subst this;exact ⟨h1,Zm8 h3 (h6 trivial)⟩
def Zg4 (P:Program) (fs g:Nat):Prop:=∀{α:Type} [Inhabited α] (enc:α->Value),OneCell enc->∀(cf:α->α->Int),SWO (ltOf cf)->∀(cb:Array Value) (blk cap:Nat) (d:Array α) (w:World),
 CmpLays1 P g cb enc cf blk 0 d.size w->Go.Sort.Holds enc w blk 0 d->blk<w.heap.size->d.size<4611686018427387904->
 Calls P fs #[.slice (some ⟨blk,0,none⟩) d.size cap, .func (.func g) #[] cb] w fun e w'=>e= .returned (.tuple #[])/\∃d' n os,PermIn 0 d.size d d'/\SortedIn (ltOf cf) 0 d.size d'/\w'=sortWorld enc w blk 0 n d' os
def Zaa {α:Type} [Inhabited α] (enc:α->Value) (w:World) (blk m:Nat) (d:Array α) (os:Array Obj):(sortWorld enc w blk 0 m d os).heap=(w.heap.modify blk (onCells (putCells enc 0 d)))++os:=rfl
def ZiA {α:Type} [Inhabited α] (enc:α->Value) (w:World) (blk m:Nat) (d:Array α) (os:Array Obj):Chg (fun b=>b=blk) w (sortWorld enc w blk 0 m d os):=by
 refine ⟨rfl,rfl,rfl,?_,fun i hi hne=>?_⟩
 . rw [Zaa];simp
 rw [Zaa,VQ (by simpa using hi),Ut,Qc (fun e=>hne e.symm)]
def Zp5 {α:Type} [Inhabited α] (enc:α->Value) (w:World) (blk m:Nat) (d:Array α) (os:Array Obj) {cur:Array Value} {e:TypeId} (h:w.heap[blk]? =some (.cells cur e (0,0))):
 (sortWorld enc w blk 0 m d os).heap[blk]? =some (.cells (putCells enc 0 d cur) e (0,0)):=by
 have hlt:=KV h
 rw [Zaa,VQ (by simpa using hlt),Ut,Qd rfl,h]
 rfl
def ZiB {β:Type} {fs g e d:Nat} {f:β->PV} {cmp:β->β->Int} {rows:List β} {h fv:Value} {caps:List PV} {q:PV} {x y:Operand} {ats:Array TypeId} (l:Nat) (hS:Zg4 P fs g) (hc:∀args w,(callFunc fs args).run P w= .ok (.enter fs args) w) (hsh:∀x,(isSh (f x)&&one (f x))=true)
 (hirr:∀a,¬cmp a a<0) (htr:∀a b c,cmp a b<0->cmp b c<0->cmp a c<0) (hnt:∀a b c,¬cmp a b<0->¬cmp b c<0->¬cmp a c<0)
 (hcmp:∀x∈rows,∀y∈rows,AFg P g (f x::f y::caps) (· = .val (.int .i64 (cmp x y)))) (hn:0<rows.length) (hn2:rows.length<4611686018427387904)
 (kk:∀rows':List β,rows'.Perm rows->(∀(i j:Nat) (a b:β),i<j->rows'[i]? =some a->rows'[j]? =some b->¬cmp b a<0)->aL P c ops Q rest ⟨put d (.tuple #[], .val (.tuple #[])) sL,put l (h, .own e 1 rows.length (rows'.map f)) hP⟩)
 (hw:Yb ops sL o=some true:=by exact rfl) (hd:o.dst=some d:=by exact rfl) (hdn:d<c.nt:=by exact Xa rfl) (ho:o.op= .call {callee:= .value (.func fs),args:= #[x,y],argTypes:=ats}:=by exact rfl) (hx:ev sL x=some (h,q):=by exact rfl) (hy:ev sL y=some (fv, .fn g caps):=by exact rfl) (hl:lk hP l=some (h, .own e 1 rows.length (rows.map f)):=by exact rfl):aL P c ops Q (o::rest) (⟨sL,hP⟩:St):=
 W1 hw fun a w F H=>by
  have hxv:=(H.rd.ev hx).1;obtain ⟨hyv,hfn⟩:=H.rd.ev hy;have hTr:=H.tr l _ _ hl;obtain ⟨xs,Fs,hrow,hlen,hT,hdj,hb,hF⟩:=hTr.row;obtain ⟨blk,cap,hh,hc1,hc2,hc3⟩:=GM hTr hn;have hblkF:F l blk:=(hF blk).2 (.inl (by rw [hh];rfl));have hblkM:mof c hP F blk:= .inr ⟨l,_,hl,hblkF⟩;have hxl:xs.length=rows.length:=by rw [<-hlen,Xc]
  obtain ⟨cv,hcvl,hcv,rfl⟩:∃cv:List Value,cv.length=caps.length/\(∀(i:Nat) (v:Value) (p:PV),cv[i]? =some v->caps[i]? =some p->Shr (mof c hP F) w v p)/\fv= .func (.func g) #[] cv.toArray:=by
   cases hfn with
   |fn _ vs _ hl' hT'=>exact ⟨vs,hl',hT',rfl⟩
  haveI:Inhabited (Fin rows.length):=⟨⟨0,hn⟩⟩
  let enc:Fin rows.length->Value:=fun i=>xs[i.1]'(by rw [hxl];exact i.2);have hrd:∀(i:Fin rows.length),Shr (mof c hP F) w (enc i) (f rows[i.1])/\one (f rows[i.1])=true:=fun i=>by
   have h1:=hsh rows[i.1];rw [Xf] at h1;exact ⟨(hT i.1 _ _ (Xr _) (by rw [Xl,Xr i.2];rfl)).sh h1.1,h1.2⟩
  have hone:OneCell enc:=fun i=>(hrd i).1.one (hrd i).2;let cf:Fin rows.length->Fin rows.length->Int:=fun i j=>cmp rows[i.1] rows[j.1];have hO:SWO (ltOf cf):=⟨fun i=>Qb (hirr _),fun i j m h1 h2=>Qa (htr _ _ _ (Qf h1) (Qf h2)),fun i j m h1 h2=>Qb (hnt _ _ _ (Qg h1) (Qg h2))⟩;let ds:Array (Fin rows.length):=Array.ofFn id;have hds:ds.size=rows.length:=by simp [ds]
  have hdg:∀j (hj:j<rows.length),ds[j]! =⟨j,hj⟩:=fun j hj=>by simp [ds,hj]
  have hcl:CmpLays1 P g cv.toArray enc cf blk 0 ds.size w:=fun m os dk _ i j=>by
   have hW:=ZiA enc w blk m dk os;have key:∀{v:Value} {p:PV},Shr (mof c hP F) w v p->Shr (mof c hP F) (sortWorld enc w blk 0 m dk os) v p:=fun h=>h.to hW (fun b _ hb=>by rw [hb];exact hblkM) (fun _ _ h=>h);have:=(hcmp rows[i.1] (Vm _) rows[j.1] (Vm _)).exact (M:=mof c hP F) (W:=sortWorld enc w blk 0 m dk os) (vs:=enc i::enc j::cv) (by simp [hcvl]) (fun t v p hv hp=>by
    match t with
    |0=>simp at hv hp;subst hv hp;exact key (hrd i).1
    |1=>simp at hv hp;subst hv hp;exact key (hrd j).1
    |t+2=>exact key (hcv t v p (by simpa using hv) (by simpa using hp)))
   have e1:(#[enc i,enc j]++cv.toArray)=(enc i::enc j::cv).toArray:=sM;rw [e1];exact this
  have hHold:Go.Sort.Holds enc w blk 0 ds:=fun t ht=>by
   rw [hds] at ht;have hrow':=hrow;rw [hh] at hrow';refine ⟨?_,by rw [XC];exact hrow'.frozenAt t⟩;rw [XC,hdg t ht];exact JC hrow' (Xr _)
  have hcall:=hS enc hone cf hO cv.toArray blk cap ds w hcl hHold hc3 (by rw [hds];exact hn2);rw [hds] at hcall;unfold Oper.wp;have hrun:(execOp a.eval o).run P w= .ok (.enter fs #[h, .func (.func g) #[] cv.toArray]) w:=by
   have hev:a.eval (.func fs)= .func (.func fs) #[] #[]:=rfl;simp [execOp,ho,resolve,Deferred.ofValue,hev,invoke,hxv,hyv,hc]
  rw [hrun,Oper.upon_enter,hh];refine hcall.mono fun e' w' ⟨he',d',m,os,hperm,hsorted,hw'⟩=>?_;subst he';have hd's:d'.size=rows.length:=by rw [hperm.1,hds]
  have hpl:d'.toList.Perm ds.toList:=by
   have h2:=hperm.2.2;have e1:(ds.extract 0 rows.length).toList=ds.toList:=by
    rw [US];simp only [UT,Vf,VA];exact Xs (by rw [Va,hds];exact Xd _)
   have e2:(d'.extract 0 rows.length).toList=d'.toList:=by
    rw [US];simp only [UT,Vf,VA];exact Xs (by rw [Va,hd's];exact Xd _)
   rw [e1,e2] at h2;exact h2
  let rows':List β:=d'.toList.map fun i=>rows[i.1];have hr's:rows'.length=rows.length:=by simp [rows',hd's]
  have hdl:ds.toList.map (fun i:Fin rows.length=>rows[i.1])=rows:=by
   apply List.ext_getElem
   . simp [ds]
   intro j h1 h2;simp [ds]
  have hrp:rows'.Perm rows:=by
   have:=hpl.map fun i:Fin rows.length=>rows[i.1];rw [hdl] at this;exact this
  have hat:∀j (hj:j<rows.length),∃i:Fin rows.length,d'[j]! =i/\d'.toList[j]? =some i/\rows'[j]? =some rows[i.1]:=fun j hj=>by
   have hj':j<d'.size:=oM;refine ⟨d'[j],by simp [hj'],by simp [hj'],?_⟩;simp [rows',hj']
  rw [hd];refine kk rows' hrp (fun i j x y hij hx' hy'=>?_) _ _ ⟨fun l'=>if l'=l then (fun b=>b=blk) else F l',?_⟩
  . (have hjl:j<rows.length:=by have:=Zd hy';omega);obtain ⟨i1,h1,_,h2⟩:=hat i oM;obtain ⟨j1,h3,_,h4⟩:=hat j hjl;rw [h2] at hx';cases hx';rw [h4] at hy';cases hy';have h5:=hsorted i j (Xg _) hij hjl;rw [h1,h3] at h5;simpa [ltOf,cf] using h5
  have hch0:=ZiA enc w blk m d' os;rw [<-hw'] at hch0;refine H.change (fun l'=>l'=l) hdn (hch0.wid fun b hb'=> .inl ⟨l,_,rfl,hl,by rw [hb'];exact hblkF⟩) (fun l' z hne hz=>?_) (fun l' z b hT' hz hb'=>?_) (fun hmm l' u p hT' hz=>?_) (fun l1 l2 _ _ _ h1 h2 hne=>Qe (h1.trans h2.symm) hne) (fun _=> .val _) (fun _=>by rw [hw'];exact Ub _ _)
  . rcases YC hz with ⟨e1,_⟩|⟨_,e1⟩
    . exact Qe e1.symm hne
    exact ⟨e1,by simp [hne]⟩
  . subst hT';simp only [if_true] at hb';exact .inl ⟨l',_,rfl,hl,by rw [hb'];exact hblkF⟩
  subst hT';rw [Z3] at hz
  cases hz;simp only [if_true];rcases hrow.2 with ⟨e1,_⟩|⟨g',cap',cur,e1,_,e3,e4,e5,e6,e7⟩
  . rw [hh] at e1;cases e1
  rw [hh] at e1
  cases e1;refine .own (d'.toList.map enc) (fun _ _=>False) ⟨by rw [Xc,Va,hd's,XJ], .inr ⟨blk,cap,putCells enc 0 d' cur,hh,Xg _,by rw [hw'];exact Zp5 enc w blk m d' os e3,e4,e5,by simp [putCells];omega,?_⟩⟩ (by simp [rows']) (fun t v p hv hp=>?_) (fun _ _ _ _ _ _ h=>h.elim) (fun _ _ _ h=>h.elim) (fun b=>by rw [hh];simp [Value.ownBlock,eq_comm])
  . have:=Zb2 enc d' cur (by rw [hd's,e6];omega);rw [hd's] at this;rw [XJ];exact this
  (have ht:t<rows.length:=by have:=Zd hv;rw [Xc,Va,hd's] at this;exact this);obtain ⟨i1,_,h1,h2⟩:=hat t ht;rw [Xl,h1] at hv;rw [Xl,h2] at hp
  cases hv
  cases hp;exact .shr ((hrd i1).1.to (hch0.wid (N:=fun b=>b=blk) fun b hb'=> .inl hb') (fun b _ hb'=>by rw [hb'];exact hblkM) hmm) (fun _ h=>h)
open Go.ChangeMaps (setBlock)
def itv (r:Nat):Value:= .pointer (some ⟨r,0,none⟩)
def itP (b r clock:Nat) (es:Array MapEntry) (seen:Array Nat):PV:= .oblk (itv r) r (.mapIter (some b) clock seen clock) [(b, .map es clock)]
def itE (b r clock:Nat) (es:Array MapEntry) (seen:Array Nat):Ent:=(itv r,itP b r clock es seen)
def Tr.blk {M:BS} {w:World} {v u:Value} {r:Nat} {ob:Obj} {sh:List (Nat×Obj)} {F:BS} (H:Tr M w v (.oblk u r ob sh) F):w.heap[r]? =some ob/\(∀p∈sh,w.heap[p.1]? =some p.2/\¬M p.1)/\∀x,F x↔x=r:=by
 cases H with
 |shr h _=>cases h
 |oblk _ h1 h hs hF=>exact ⟨h,hs,hF⟩
def ZeL {t ks e:Nat} {x:Operand} {m:Value} {kv:List (Value×Value)} (d:Nat) (ht:P.underlying t=some (.map ks e)) (k:∀(b r clock:Nat) (es:Array MapEntry),kv=kvOf es->WfM es clock->aL P c ops Q rest ⟨put d (itv r, .val (itv r)) sL,put d (itE b r clock es #[]) hP⟩)
 (hw:Yb ops sL o=some true:=by exact rfl) (hd:o.dst=some d:=by exact rfl) (hn:d<c.nt:=by exact Xa rfl) (ho:o.op= .range t x:=by exact rfl) (hx:ev sL x=some (m, .smap kv):=by exact rfl) (hl:lk hP d=none:=by exact rfl):aL P c ops Q (o::rest) (⟨sL,hP⟩:St):=
 W1 hw fun a w F H=>by
  obtain ⟨hv,hS⟩:=H.rd.ev hx
  cases hS with
  | smap b es clock hM h hW=>
    have key:HoldsF c ⟨put d (itv w.heap.size, .val (itv w.heap.size)) sL,put d (itE b w.heap.size clock es #[]) hP⟩ (fun l'=>if l'=d then (fun x=>x=w.heap.size) else F l') (a.put (some d) (itv w.heap.size)) (w.alloc (.mapIter (some b) clock #[] clock)):=by
     refine H.change (fun l'=>l'=d) hn ((Ext.alloc _ _).chg) (fun l' x hne hx'=>?_) (fun l' x b' hT hx' hb=>?_) (fun hm l' u q hT hx'=>?_) (fun l1 l2 _ _ _ h1 h2 hne=>Qe (h1.trans h2.symm) hne) (fun hm=> .val _)
     . rcases YC hx' with ⟨e1,_⟩|⟨_,e1⟩
       . exact Qe e1.symm hne
       exact ⟨e1,by simp [hne]⟩
     . subst hT;simp only [if_true] at hb;exact .inr (by rw [hb];exact Xd _)
     subst hT;rw [Z3] at hx';unfold itE itP at hx'
     cases hx';simp only [if_true];refine .oblk w.heap.size rfl ?_ (fun p hp=>?_) (fun x=>Iff.rfl)
     . show (w.heap.push _)[w.heap.size]? =_;simp
     rw [XE] at hp;subst hp;exact ⟨(Ext.alloc w _).block h,fun hb=>hM (hm b (KV h) hb)⟩
    have hrun:(execOp a.eval o).run P w= .ok (.value (itv w.heap.size)) (w.alloc (.mapIter (some b) clock #[] clock)):=by
     simp [execOp,ho,hv,Instr.range,run_underlying ht,getObj,newObj,Sem.run,h,itv]
    unfold Oper.wp;rw [hrun,Oper.upon_value,hd];exact k _ _ _ _ rfl hW _ _ ⟨_,key⟩
def ZiC {x:Operand} {q:PV} {b r clock:Nat} {es:Array MapEntry} {seen:Array Nat} (l d:Nat) (hW:WfM es clock)
 (k0:leftOf es seen= #[]->aL P c ops Q rest ⟨put d (.tuple [.bool false].toArray, .tup [.val (.bool false)]) sL,hP⟩)
 (k1:∀e∈(leftOf es seen).toList,aL P c ops Q rest ⟨put d (.tuple [.bool true,e.key,e.val].toArray, .tup [.val (.bool true), .val e.key, .val e.val]) sL,put l (itE b r clock es (seen.push e.born)) hP⟩)
 (hw:Yb ops sL o=some true:=by exact rfl) (hd:o.dst=some d:=by exact rfl) (hn:d<c.nt:=by exact Xa rfl) (ho:o.op= .next x false:=by exact rfl) (hx:ev sL x=some (itv r,q):=by exact rfl) (hl:lk hP l=some (itE b r clock es seen):=by exact rfl):aL P c ops Q (o::rest) (⟨sL,hP⟩:St):=
 W1 hw fun a w F H=>by
  have hv:=(H.rd.ev hx).1;obtain ⟨h,hs,hF⟩:=(H.tr l _ _ hl).blk;obtain ⟨hb,hMb⟩:=hs (b, .map es clock) sM;dsimp only at hb hMb;rcases run_next_at (P:=P) w o.type r b clock clock seen es clock h hb (fun x hx=>hW.1 x hx) (Xd _) with ⟨h0,hr⟩|⟨e,he,w1,hw1,hr⟩
  . have hrun:(execOp a.eval o).run P w= .ok (.value (.tuple [.bool false].toArray)) w:=by
     simp [execOp,ho,hv,itv,hr]
    unfold Oper.wp;rw [hrun,Oper.upon_value,hd];refine k0 (Array.eq_empty_of_size_eq_zero h0) _ _ ⟨F,H.put hn (.tup _ _ rfl fun i x p hx hp=>?_)⟩;match i with
    |0=>simp at hx hp;subst hx hp;exact .val _
    |i+1=>simp at hx
  have hrun:(execOp a.eval o).run P w= .ok (.value (.tuple [.bool true,e.key,e.val].toArray)) (setBlock w1 r (.mapIter (some b) clock (seen.push e.born) clock)):=by
   simp [execOp,ho,hv,itv,hr]
  unfold Oper.wp;rw [hrun,Oper.upon_value,hd];have hlt:=KV h;have hh:w1.heap=w.heap:=by rcases hw1 with rfl|rfl<;>rfl
  (have hbr:b≠r:=fun e=>by subst e;exact hMb (.inr ⟨l,_,hl,(hF b).2 rfl⟩));have hch:Chg (fun x=>x=r) w (setBlock w1 r (.mapIter (some b) clock (seen.push e.born) clock)):=by
   refine ⟨by rcases hw1 with rfl|rfl<;>rfl,by rcases hw1 with rfl|rfl<;>rfl,by rcases hw1 with rfl|rfl<;>rfl,?_,fun i hi hne=>?_⟩
   . show _<=(w1.heap.setIfInBounds r _).size;rw [hh];simp
   show (w1.heap.setIfInBounds r _)[i]? =_;rw [hh,UQ (fun e=>hne e.symm)]
  refine k1 e he _ _ ⟨F,H.change (fun l'=>l'=l) hn (hch.wid fun x hx=> .inl ⟨l,_,rfl,hl,(hF x).2 hx⟩) (fun l' x hne hx'=>?_) (fun l' x b' hT' hx' hb'=>?_) (fun hmm l' u q hT' hx'=>?_) (fun l1 l2 _ _ _ h1 h2 hne=>Qe (h1.trans h2.symm) hne) (fun _=> .tup _ _ rfl fun i x p hx hp=>?_) (fun _=>?_)⟩
  . rcases YC hx' with ⟨e1,_⟩|⟨_,e1⟩
    . exact Qe e1.symm hne
    exact ⟨e1,rfl⟩
  . subst hT';exact .inl ⟨l',_,rfl,hl,hb'⟩
  . subst hT';rw [Z3] at hx';unfold itE itP at hx'
    cases hx';refine .oblk r rfl ?_ (fun p hp=>?_) hF
    . show (w1.heap.setIfInBounds r _)[r]? =_;rw [hh];simp [hlt]
    rw [XE] at hp;subst hp;exact ⟨(hch.block b (KV hb) hbr).trans hb,fun hm=>hMb (hmm b (KV hb) hm)⟩
  . match i with
    |0=>simp at hx hp;subst hx hp;exact .val _
    |1=>simp at hx hp;subst hx hp;exact .val _
    |2=>simp at hx hp;subst hx hp;exact .val _
    |i+3=>simp at hx
  rcases hw1 with rfl|rfl
  . exact Xd _
  exact VM _
def ZiD {st:St} {x:Operand} {q:PV} {b r clock:Nat} {es:Array MapEntry} {seen:Array Nat} {e:MapEntry} (l:Nat) (hW:WfM es clock) (he:e∈es.toList) (ho:o.op= .entry x:=by exact rfl) (hx:ev st.slots x=some (itv r,q):=by exact rfl) (hl:lk st.heap l=some (itE b r clock es (seen.push e.born)):=by exact rfl):YE P st o (· = .tuple [e.key,e.val].toArray) (.tup [.val e.key, .val e.val]):= .exact fun M F a w H=>by
 have hv:=(H.ev hx).1
 obtain ⟨h,hs,hF⟩:=(H.tr l _ _ hl).blk
 obtain ⟨hb,hMb⟩:=hs (b, .map es clock) sM
 have hr:=run_entry_at (P:=P) w r b clock seen es clock e h hb he hW.2
 refine ⟨.tup _ _ rfl fun i x p hx hp=>?_,by simp [execOp,ho,hv,itv,hr]⟩
 match i with
 |0=>simp at hx hp;subst hx hp;exact .val _
 |1=>simp at hx hp;subst hx hp;exact .val _
 |i+2=>simp at hx
def ZeM (es:Array MapEntry):leftOf es #[]=es:=by
 unfold leftOf
 exact Array.filter_eq_self.2 fun x _=>sM
def Zab {es:Array MapEntry} {seen:Array Nat} {e:MapEntry} (h:e∈(leftOf es seen).toList):e∈es.toList:=by
 unfold leftOf at h
 rw [UU] at h
 exact (XF.1 h).1
def Zb3 {e:MapEntry}:∀{L:List MapEntry},(L.map (·.born)).Nodup->e∈L->L.Perm (e::L.filter fun x=> !(x.born==e.born))
 | a ::L,hn,he=>by
   rw [Xn,Vk] at hn;rcases Xi.1 he with rfl|he
   . rw [VW sM];rw [Ur.2 fun x hx=>?_];have:x.born≠e.born:=fun h=>hn.1 (Xp.2 ⟨x,hx,h⟩);simpa using this
   have:a.born≠e.born:=fun h=>hn.1 (Xp.2 ⟨e,he,h.symm⟩);rw [V4 (by simpa using this)];exact ((Zb3 hn.2 he).cons a).trans (List.Perm.swap _ _ _)
def EQ {es:Array MapEntry} {seen:Array Nat} {e:MapEntry} {clock:Nat} (hW:WfM es clock) (he:e∈(leftOf es seen).toList):(kvOf (leftOf es seen)).Perm ((e.key,e.val)::kvOf (leftOf es (seen.push e.born))):=by
 have h1:((leftOf es seen).toList.map (·.born)).Nodup:=by
  unfold leftOf;rw [UU];exact hW.2.sublist (List.filter_sublist.map _)
 have h2:=(Zb3 h1 he).map fun x=>(x.key,x.val)
 unfold kvOf
 refine h2.trans ?_
 rw [Xn]
 refine List.Perm.cons _ (List.Perm.of_eq ?_)
 congr 1
 unfold leftOf
 rw [UU,UU,List.filter_filter]
 refine List.filter_congr fun x _=>?_
 rw [Array.contains_push]
 cases seen.contains x.born<;>simp [Bool.beq_comm]
def ArrT (P:Program) (t len:Nat):Bool:=match P.underlying t with
 |some (.array n e)=>Nat.beq n len&&(match P.info? e with|some i=>Nat.beq i.size 1|none=>false)
 |_=>false
def ArrT.run {P:Program} {t len:Nat} (h:ArrT P t len=true):∃e i,P.underlying t=some (.array len e)/\P.info? e=some i/\i.size=1:=by
 unfold ArrT at h
 split at h
 . rename_i n e hu;rw [Xf] at h;obtain ⟨h1,h2⟩:=h;split at h2
   . rename_i i hi;have e1:=X0 h1;subst e1;exact ⟨e,i,hu,hi,X0 h2⟩
   cases h2
 cases h
section
variable {P:Program} {st:St} {o:Oper}
def Zm9 {t len j e' k' n i:Nat} {x y:Operand} {h:Value} {kd:IntKind} {p q:PV} {cs:List PV} (l:Nat) (hT:ArrT P t len=true) (ho:o.op= .indexAddr t x y:=by exact rfl) (hx:ev st.slots x=some (padd (sbase h) j,p):=by exact rfl) (hy:ev st.slots y=some (.int kd (i:Int),q):=by exact rfl) (hl:lk st.heap l=some (h, .own e' k' n cs):=by exact rfl) (hn:0<n:=by first|omega|exact Xa rfl) (hi:i<len:=by first|omega|exact Xa rfl):YE P st o (· =padd (sbase h) (j+i)) (.val (padd (sbase h) (j+i))):=
 .exact fun M F a w H=>by
  have hv:=(H.ev hx).1;have hyv:=(H.ev hy).1;obtain ⟨g,cap,rfl,_⟩:=GM (H.tr l _ _ hl) hn;obtain ⟨e,inf,hu,hinf,hs1⟩:=ArrT.run hT;refine ⟨.val _,?_⟩;simp only [sbase,padd] at hv ⊢;simp [execOp,ho,hv,hyv,Instr.indexAt,asIntOf,run_underlying hu,Instr.sureAddr,sizeOf,typeInfo,hinf,hs1,hi,Kk]
def Zna {t:Nat} {x y:Operand} {v0 v1:Value} {p0 p1:PV} {z:Value} (hT:ArrT P t 2=true) (hz:ZeroT P t z) (ho:o.op= .build t #[(0,x),(1,y)]:=by exact rfl) (hx:ev st.slots x=some (v0,p0):=by exact rfl) (hy:ev st.slots y=some (v1,p1):=by exact rfl) (h0:v0.oneCell'=true:=by exact rfl) (h1:v1.oneCell'=true:=by exact rfl) (hzs:z.cells.size=2:=by exact rfl):YE P st o (· = .agg [v0,v1].toArray) (.agg [p0,p1]):=
 .exact fun M F a w H=>by
  obtain ⟨hv,hS0⟩:=H.ev hx;obtain ⟨hyv,hS1⟩:=H.ev hy;obtain ⟨e,inf,hu,hinf,hs1⟩:=ArrT.run hT;have c0:=Gb h0;have c1:=Gb h1;obtain ⟨a0,a1,hza⟩:∃a0 a1,z.cells= #[a0,a1]:=by
   generalize z.cells=A at hzs;obtain ⟨L⟩:=A;match L,hzs with
   |[a0,a1],_=>exact ⟨a0,a1,rfl⟩
  refine ⟨.agg _ _ rfl fun i u r hu hr=>?_,?_⟩
  . match i with
    |0=>simp at hu hr;subst hu hr;exact hS0
    |1=>simp at hu hr;subst hu hr;exact hS1
    |i+2=>simp at hu
  simp [execOp,ho,hv,hyv,Instr.build,run_underlying hu,ZeroT.run hz,sizeOf,typeInfo,hinf,hs1,Instr.fill,c0,c1,hza]
end
abbrev Pr:=BA×BA
def Ti (k:Pr):Value:= .agg #[.string k.1, .string k.2]
def Znb {a b:Pr} (h:Ti a=Ti b):a=b:=by
 simp [Ti] at h
 exact Prod.ext h.1 h.2
def akv (m:List (Pr×Value)):List (Value×Value):=m.map fun x=>(Ti x.1,x.2)
def prOk (k:Pr):Prop:=k.1.size<=140737488355328/\k.2.size<=140737488355328
structure PkT (P:Program) (t ks s e:Nat) (z:Value):Prop where
 ht:P.underlying t=some (.map ks e)
 hu:P.underlying ks=some (.array 2 s)
 hs:P.underlying s=some .string
 hk:P.keyType ks=true
 hk2:P.keyTypeAt 2 ks=true
 hti:P.tiled 2 ks=true
 hc2:P.cellsOf ks=2
 hc1:P.cellsOf s=1
 hf:∀a b:BA,(Value.agg #[.string a, .string b]).formed P ks=true
 hsz:∃n,P.types.size=n+1
 hz:ZeroT P e z
def PkT.law {P:Program} {t ks s e:Nat} {z:Value} (h:PkT P t ks s e z):WideMaps.KeyLaw P ks:=deep_law (m:=2) dC h.hk2 h.hti (by rw [h.hu])
def PkT.key {P:Program} {t ks s e:Nat} {z:Value} (h:PkT P t ks s e z) {k:Pr} (hk:prOk k):∃l,keyOf P ks (Ti k)=some l:=by
 obtain ⟨n,hn⟩:=h.hsz
 have hl:∀c:BA,c.size<=140737488355328->P.keyLits (n+1) s [.string c]=some [.string c.data.toList]:=fun c hc=>by
  unfold Program.keyLits;rw [h.hs];dsimp only;rw [Qd (XI hc dC)]
 unfold keyOf
 rw [h.hu]
 dsimp only
 rw [h.hk,show (Ti k).formed P ks=true from h.hf _ _,hn]
 refine ⟨.string (keyBytes [.string k.1.data.toList, .string k.2.data.toList]),?_⟩
 rw [Qd (show (true&&true)=true from rfl)]
 unfold Program.keyLits
 rw [h.hu]
 dsimp only [Ti,Value.cells]
 rw [h.hc2,h.hc1]
 rw [Qd (by rfl)]
 rw [show List.range 2=[0,1] from rfl]
 simp only [List.mapM_cons,List.mapM_nil,X8,Nat.one_mul,Vf,List.drop_succ_cons,UF,Um,hl _ hk.1,hl _ hk.2]
 rfl
def Zkq {m:List (Pr×Value)} {k:Pr} (h:∀x∈m,x.1≠k):Kx m k=none:=by
 induction m with
 |nil=>rfl
 | cons x m ih=>
   rw [Kx,Qc (fun e=>h x sM e.symm)];exact ih fun y hy=>h y (by simp [hy])
def Zkr {m:List (Pr×Value)} (hn:(m.map (·.1)).Nodup) {j:Nat} {k:Pr} {v:Value} (h:m[j]? =some (k,v)):Kx m k=some v:=by
 induction m generalizing j with
 |nil=>simp at h
 | cons x m ih=>
   rw [Xn,Vk] at hn
   cases j with
   |zero=>simp at h;subst h;rw [Kx,Qd rfl]
   | succ j=>
     rw [XV] at h;rw [Kx,Qc (fun e=>hn.1 (Xp.2 ⟨_,Xb h,e⟩))];exact ih hn.2 h
def Znc {m:List (Pr×Value)} {k:Pr} {v:Value} (h:Kx m k=none):Je m k v=m++[(k,v)]:=by
 induction m with
 |nil=>rfl
 | cons x m ih=>
   rw [Kx] at h;split at h
   . cases h
   rename_i hne;rw [Je,Qc hne,Vh,ih h]
def ZiE {m:List (Pr×Value)} (hn:(m.map (·.1)).Nodup) {j:Nat} {k:Pr} {u v:Value} (h:m[j]? =some (k,u)):Je m k v=m.set j (k,v):=by
 induction m generalizing j with
 |nil=>simp at h
 | cons x m ih=>
   rw [Xn,Vk] at hn
   cases j with
   |zero=>simp at h;subst h;rw [Je,Qd rfl];rfl
   | succ j=>
     rw [XV] at h;rw [Je,Qc (fun e=>hn.1 (Xp.2 ⟨_,Xb h,e⟩)),UV,ih hn.2 h]
def Zb4 {m:List (Pr×Value)} {k:Pr} {v:Value}:∀x,x∈(Je m k v).map (·.1)↔x=k\/x∈m.map (·.1):=by
 induction m with
 |nil=>intro x;simp [Je]
 | cons y m ih=>
   intro x;rw [Je];split
   . rename_i e;subst e;simp
   rw [Xn,Xi,ih,Xn,Xi];constructor
   . rintro (h|h|h)
     . exact .inr (.inl h)
     . exact .inl h
     exact .inr (.inr h)
   rintro (h|h|h)
   . exact .inr (.inl h)
   . exact .inl h
   exact .inr (.inr h)
def D9 {m:List (Pr×Value)} {k:Pr} {v:Value} (hn:(m.map (·.1)).Nodup):((Je m k v).map (·.1)).Nodup:=by
 induction m with
 |nil=>simp [Je]
 | cons y m ih=>
   rw [Je];rw [Xn,Vk] at hn;split
   . rename_i e;rw [Xn,Vk];dsimp only;rw [e];exact hn
   rename_i e;rw [Xn,Vk];refine ⟨fun h=>?_,ih hn.2⟩;rcases (Zb4 _).1 h with h|h
   . exact e h.symm
   exact hn.1 h
def Zb5 {m:List (Pr×Value)} {k:Pr} {v:Value}:Kx (Je m k v) k=some v:=by
 induction m with
 |nil=>rw [Je,Kx,Qd rfl]
 | cons y m ih=>
   rw [Je];split
   . rw [Kx,Qd rfl]
   rename_i e;rw [Kx,Qc e];exact ih
def Zks {m:List (Pr×Value)} {k:Pr} {u v:Value}:Je (Je m k u) k v=Je m k v:=by
 induction m with
 |nil=>show Je [(k,u)] k v=[(k,v)];rw [Je,Qd rfl]
 | cons y m ih=>
   rw [Je];split
   . rename_i e;rw [Je,Qd rfl,Je,Qd e]
   rename_i e;rw [Je,Qc e,ih,Je,Qc e]
def Zg5 {es:Array MapEntry} {m:List (Pr×Value)} (h:kvOf es=akv m) {j:Nat} {e:MapEntry} {k:Pr} (he:es[j]? =some e) (hk:e.key=Ti k):m[j]? =some (k,e.val):=by
 have h1:(kvOf es)[j]? =some (Ti k,e.val):=by
  unfold kvOf;rw [Xl,Uc,he,<-hk];rfl
 rw [h] at h1
 unfold akv at h1
 rw [Xl,XU] at h1
 obtain ⟨⟨k',v'⟩,h2,h3⟩:=h1
 obtain ⟨h4,h5⟩:=Prod.mk.inj h3
 dsimp only at h4 h5
 rw [h2,Znb h4,h5]
def Znd {es:Array MapEntry} {m:List (Pr×Value)} (h:kvOf es=akv m):∀e∈es.toList,∃x∈m,e.key=Ti x.1:=fun e he=>by
 have h1:(e.key,e.val)∈kvOf es:=Xp.2 ⟨e,he,rfl⟩
 rw [h] at h1
 obtain ⟨x,hx,hxe⟩:=Xp.1 h1
 exact ⟨x,hx,(Prod.mk.inj hxe).1.symm⟩
def ZiF {P:Program} {t ks s e:Nat} {z:Value} (hT:PkT P t ks s e z) {es:Array MapEntry} {m:List (Pr×Value)} (h:kvOf es=akv m) (hm:∀x∈m,prOk x.1) (hn:(m.map (·.1)).Nodup) {k:Pr} (hk:prOk k) (w:World):
 (Kx m k=none/\(Instr.findKey ks (Ti k) es.toList).run P w= .ok none w)\/∃(j:Nat) (e0:MapEntry),es[j]? =some e0/\e0.key=Ti k/\Kx m k=some e0.val/\(Instr.findKey ks (Ti k) es.toList).run P w= .ok (some (j,e0.val)) w:=by
 obtain ⟨l,hl⟩:=hT.key hk
 have hall:∀e∈es.toList,∃l,keyOf P ks e.key=some l:=fun e he=>by
  obtain ⟨x,hx,hxe⟩:=Znd h e he;rw [hxe];exact hT.key (hm x hx)
 rcases hT.law.find w hl es.toList hall with ⟨h1,h2⟩|⟨j,e0,h1,h2,h3⟩
 . refine .inl ⟨Zkq fun x hx e=>?_,h1⟩;obtain ⟨i,hi⟩:=XM hx;have h4:(kvOf es)[i]? =some (Ti x.1,x.2):=by rw [h];unfold akv;rw [Xl,hi];rfl
   unfold kvOf at h4;rw [Xl,XU] at h4;obtain ⟨e0,h5,h6⟩:=h4;exact h2 e0 (Xb h5) (by rw [(Prod.mk.inj h6).1,e])
 have h4:es[j]? =some e0:=by rw [<-Uc];exact h2
 exact .inr ⟨j,e0,h4,h3,Zkr hn (Zg5 h h4 h3),h1⟩
def ZiG {t ks s e:Nat} {z:Value} (hT:PkT P t ks s e z) {b clock:Nat} {es:Array MapEntry} {m:List (Pr×Value)} (h:kvOf es=akv m) (hm:∀x∈m,prOk x.1) (hn:(m.map (·.1)).Nodup) {k:Pr} (hk:prOk k) {w:World} (hb:w.heap[b]? =some (.map es clock)):(Instr.lookup t (.map (some b)) (Ti k) false).run P w= .ok ((Kx m k).getD z) w:=by
 obtain ⟨l,hl⟩:=hT.key hk
 have hck:=fun em=>hT.law.check w em hl
 unfold Instr.lookup
 simp only [Sem.run_bind,run_underlying hT.ht,Result.andThen_ok,getObj,Sem.run,hb,hck]
 rcases ZiF hT h hm hn hk w with ⟨h1,h2⟩|⟨j,e0,h3,h4,h1,h2⟩
 . simp [h1,h2,hck,ZeroT.run hT.hz]
 simp [h1,h2,hck]
def ZiH {st:St} {t ks s e:Nat} {z u:Value} {x y:Operand} {mv:Value} {m:List (Pr×Value)} {k:Pr} {p q:PV} (l:Nat) (hT:PkT P t ks s e z) (hm:∀x∈m,prOk x.1) (hn:(m.map (·.1)).Nodup) (hk:prOk k) (hu:(Kx m k).getD z=u) (ho:o.op= .lookup t x y false:=by exact rfl) (hx:ev st.slots x=some (mv,p):=by exact rfl) (hl:lk st.heap l=some (mv, .omap (akv m)):=by exact rfl) (hy:ev st.slots y=some (Ti k,q):=by exact rfl):YE P st o (· =u) (.val u):= .exact fun M F a w H=>by
 subst hu
 have hv:=(H.ev hx).1
 have hkv:=(H.ev hy).1
 obtain ⟨b,es,clock,rfl,he,h,_⟩:=(H.tr l _ _ hl).map
 exact ⟨.val _,by simp [execOp,ho,hv,hkv,ZiG hT he.symm hm hn hk h]⟩
def ZeN {st:St} {t ks s e b clock:Nat} {es:Array MapEntry} {z u:Value} {x y:Operand} {m:List (Pr×Value)} {k:Pr} {p q:PV} (l:Nat) (hT:PkT P t ks s e z) (he:kvOf es=akv m) (hm:∀x∈m,prOk x.1) (hn:(m.map (·.1)).Nodup) (hk:prOk k) (hu:(Kx m k).getD z=u) (ho:o.op= .lookup t x y false:=by exact rfl) (hx:ev st.slots x=some (.map (some b),p):=by exact rfl) (hl:lk st.heap l=some (.map (some b), .oblk (.map (some b)) b (.map es clock) []):=by exact rfl) (hy:ev st.slots y=some (Ti k,q):=by exact rfl):YE P st o (· =u) (.val u):= .exact fun M F a w H=>by
 subst hu
 have hv:=(H.ev hx).1
 have hkv:=(H.ev hy).1
 obtain ⟨h,_,_⟩:=(H.tr l _ _ hl).blk
 exact ⟨.val _,by simp [execOp,ho,hv,hkv,ZiG hT he hm hn hk h]⟩
def ZeO {es:Array MapEntry} {j:Nat} {e0:MapEntry} {f:MapEntry->MapEntry} (h:es[j]? =some e0) (hf:f e0=e0):es.modify j f=es:=by
 apply Array.ext'
 rw [UO]
 rw [<-Uc] at h
 have key:∀(l:List MapEntry) (j:Nat),l[j]? =some e0->l.modify j f=l:=fun l=>by
  induction l with
  |nil=>intro j h;simp
  | cons a l ih=>
    intro j h
    cases j with
    |zero=>simp at h;subst h;simp [hf]
    |succ j=>rw [XV] at h;rw [UP,ih j h]
 exact key _ _ h
def Zkt {es:Array MapEntry} {m:List (Pr×Value)} {j:Nat} {e0:MapEntry} {k:Pr} {v:Value} (he:kvOf es=akv m) (hn:(m.map (·.1)).Nodup) (h:es[j]? =some e0) (hk:e0.key=Ti k):kvOf (es.modify j fun e=>{e with val:=v})=akv (Je m k v):=by
 rw [ZiE hn (Zg5 he h hk)]
 have h1:kvOf (es.modify j fun e=>{e with val:=v})=(kvOf es).set j (Ti k,v):=by
  unfold kvOf;rw [UO];rw [<-Uc] at h;have key:∀(l:List MapEntry) (j:Nat),l[j]? =some e0->(l.modify j fun e=>{e with val:=v}).map (fun x=>(x.key,x.val))=(l.map fun x=>(x.key,x.val)).set j (Ti k,v):=fun l=>by
   induction l with
   |nil=>intro j h;simp at h
   | cons a l ih=>
     intro j h
     cases j with
     |zero=>simp at h;subst h;simp [hk]
     |succ j=>rw [XV] at h;rw [UP,Xn,ih j h,Xn,UV]
  exact key _ _ h
 rw [h1,he]
 unfold akv
 rw [Uu]
def Zku {es:Array MapEntry} {j:Nat} {e0:MapEntry} (hn:(es.toList.map (·.born)).Nodup) (h:es[j]? =some e0):es.findIdx? (fun e=>(e.born:Int)==(e0.born:Int))=some j:=by
 rw [<-Uc] at h
 obtain ⟨L⟩:=es
 rw [List.findIdx?_toArray]
 have key:∀(l:List MapEntry) (j:Nat),(l.map (·.born)).Nodup->l[j]? =some e0->l.findIdx? (fun e=>(e.born:Int)==(e0.born:Int))=some j:=fun l=>by
  induction l with
  |nil=>intro j _ h;simp at h
  | cons a l ih=>
    intro j hn h;rw [Xn,Vk] at hn
    cases j with
    |zero=>simp at h;subst h;simp [List.findIdx?_cons]
    | succ j=>
      rw [XV] at h;have hne:a.born≠e0.born:=fun e=>hn.1 (Xp.2 ⟨e0,Xb h,e.symm⟩);have hf:((a.born:Int)==(e0.born:Int))=false:=beq_eq_false_iff_ne.2 fun e=>hne (by exact_mod_cast e);rw [List.findIdx?_cons,hf];simp [ih j hn.2 h]
 exact key _ _ hn h
def Zac {t ks s e:Nat} {z:Value} {x y:Operand} {mv:Value} {m:List (Pr×Value)} {k:Pr} {p q:PV} (l d:Nat) (hT:PkT P t ks s e z) (hm:∀x∈m,prOk x.1) (hn:(m.map (·.1)).Nodup) (hk:prOk k)
 (kk:∀(b clock born:Nat) (es:Array MapEntry),mv= .map (some b)->WfM es clock->kvOf es=akv (Je m k ((Kx m k).getD z))->(∃(j:Nat) (e0:MapEntry),es[j]? =some e0/\e0.key=Ti k/\e0.born=born)->aL P c ops Q rest ⟨put d (.tuple [(Kx m k).getD z, .int .i64 born].toArray, .tup [.val ((Kx m k).getD z), .val (.int .i64 born)]) sL,put l (mv, .oblk mv b (.map es clock) []) hP⟩)
 (hw:Yb ops sL o=some true:=by exact rfl) (hd:o.dst=some d:=by exact rfl) (hdn:d<c.nt:=by exact Xa rfl) (ho:o.op= .mapEntry t x y:=by exact rfl) (hx:ev sL x=some (mv,p):=by exact rfl) (hl:lk hP l=some (mv, .omap (akv m)):=by exact rfl) (hy:ev sL y=some (Ti k,q):=by exact rfl):aL P c ops Q (o::rest) (⟨sL,hP⟩:St):=
 W1 hw fun a w F H=>by
  have hxv:=(H.rd.ev hx).1;have hyv:=(H.rd.ev hy).1;obtain ⟨b,es,clock,rfl,he,hb,hFb,hWf⟩:=(H.tr l _ _ hl).mapW;obtain ⟨lt',hlt'⟩:=hT.key hk;have hck:=hT.law.check w false hlt';have hst:=hT.law.stays w hlt';have hblt:=KV hb;have main:∀(es':Array MapEntry) (clock' born:Nat),WfM es' clock'->kvOf es'=akv (Je m k ((Kx m k).getD z))->(∃(j:Nat) (e0:MapEntry),es'[j]? =some e0/\e0.key=Ti k/\e0.born=born)->wpList P ops Q rest (a.put (some d) (.tuple [(Kx m k).getD z, .int .i64 born].toArray)) {w with heap:=w.heap.setIfInBounds b (.map es' clock')}:=fun es' clock' born hW' he' hj=>by
   have hch:Chg (fun x=>x=b) w {w with heap:=w.heap.setIfInBounds b (.map es' clock')}:=⟨rfl,rfl,rfl,sM,fun i hi hne=>by
    rw [UQ (fun e=>hne e.symm)]⟩
   refine kk b clock' born es' rfl hW' he' hj _ _ ⟨F,H.change (fun l'=>l'=l) hdn (hch.wid fun x hx=> .inl ⟨l,_,rfl,hl,(hFb x).2 hx⟩) (fun l' x hne hx'=>?_) (fun l' x b' hT' hx' hb'=>?_) (fun hmm l' u q hT' hx'=>?_) (fun l1 l2 _ _ _ h1 h2 hne=>Qe (h1.trans h2.symm) hne) (fun _=> .tup _ _ rfl fun i x p hx hp=>?_)⟩
   . rcases YC hx' with ⟨e1,_⟩|⟨_,e1⟩
     . exact Qe e1.symm hne
     exact ⟨e1,rfl⟩
   . subst hT';exact .inl ⟨l',_,rfl,hl,hb'⟩
   . subst hT';rw [Z3] at hx'
     cases hx';exact .oblk b rfl (by simp [hblt]) (fun p hp=>by simp at hp) hFb
   match i with
   |0=>simp at hx hp;subst hx hp;exact .val _
   |1=>simp at hx hp;subst hx hp;exact .val _
   |i+2=>simp at hx
  rcases ZiF hT he.symm hm hn hk w with ⟨h1,h2⟩|⟨j,e0,h3,h4,h1,h2⟩
  . have hrun:(execOp a.eval o).run P w= .ok (.value (.tuple [(Kx m k).getD z, .int .i64 clock].toArray)) {w with heap:=w.heap.setIfInBounds b (.map (es.push {key:=Ti k,val:=z,born:=clock}) (clock+1))}:=by
     simp [execOp,ho,hxv,hyv,Instr.mapEntry,run_underlying hT.ht,getObj,setObj,Sem.run,hb,hck,h1,h2,ZeroT.run hT.hz,goInt]
    unfold Oper.wp;rw [hrun,Oper.upon_value,hd];refine main _ _ _ (Zim hWf) ?_ ⟨es.size,{key:=Ti k,val:=z,born:=clock},sM,rfl,rfl⟩;rw [h1,Option.getD_none,Znc h1];unfold akv at he ⊢;rw [XX,he];simp [kvOf]
  have hmod:es.modify j (fun e=>{e with key:=Ti k})=es:=ZeO h3 (by rw [<-h4]);have hrun:(execOp a.eval o).run P w= .ok (.value (.tuple [(Kx m k).getD z, .int .i64 e0.born].toArray)) {w with heap:=w.heap.setIfInBounds b (.map es clock)}:=by
   simp [execOp,ho,hxv,hyv,Instr.mapEntry,run_underlying hT.ht,getObj,setObj,Sem.run,hb,hck,h1,h2,h3,h4,hst,hmod,goInt]
  unfold Oper.wp;rw [hrun,Oper.upon_value,hd];refine main _ _ _ hWf ?_ ⟨j,e0,h3,h4,rfl⟩;have h5:=Zg5 he.symm h3 h4;obtain ⟨hj5,hje⟩:=Xk.1 h5;rw [h1,Uk,ZiE hn h5,<-hje,List.set_getElem_self,he]
def Zg6 {t b clock born:Nat} {es:Array MapEntry} {x y u:Operand} {m:List (Pr×Value)} {k:Pr} {v:Value} {p q r:PV} (l:Nat) (hW:WfM es clock) (he:kvOf es=akv m) (hn:(m.map (·.1)).Nodup) (hj:∃(j:Nat) (e0:MapEntry),es[j]? =some e0/\e0.key=Ti k/\e0.born=born)
 (kk:aL P c ops Q rest ⟨sL,put l (.map (some b), .omap (akv (Je m k v))) hP⟩)
 (hw:Yb ops sL o=some true:=by exact rfl) (hd:o.dst=none:=by exact rfl) (ho:o.op= .entryStore t x y u:=by exact rfl) (hx:ev sL x=some (.map (some b),p):=by exact rfl) (hl:lk hP l=some (.map (some b), .oblk (.map (some b)) b (.map es clock) []):=by exact rfl) (hy:ev sL y=some (.int .i64 born,q):=by exact rfl) (hu:ev sL u=some (v,r):=by exact rfl):aL P c ops Q (o::rest) (⟨sL,hP⟩:St):=
 W1 hw fun a w F H=>by
  have hxv:=(H.rd.ev hx).1;have hyv:=(H.rd.ev hy).1;have huv:=(H.rd.ev hu).1;obtain ⟨hb,_,hFb⟩:=(H.tr l _ _ hl).blk;have hblt:=KV hb;obtain ⟨j,e0,h3,h4,rfl⟩:=hj;have hfi:=Zku hW.2 h3;have hkv:=Zkt (v:=v) he hn h3 h4;have hch:Chg (fun x=>x=b) w {w with heap:=w.heap.setIfInBounds b (.map (es.modify j fun e=>{e with val:=v}) clock)}:=⟨rfl,rfl,rfl,sM,fun i hi hne=>by
   rw [UQ (fun e=>hne e.symm)]⟩
  have key:HoldsF c ⟨sL,put l (.map (some b), .omap (akv (Je m k v))) hP⟩ F a {w with heap:=w.heap.setIfInBounds b (.map (es.modify j fun e=>{e with val:=v}) clock)}:=by
   refine H.change0 (fun l'=>l'=l) (hch.wid fun x hx=> .inl ⟨l,_,rfl,hl,(hFb x).2 hx⟩) (fun l' x hne hx'=>?_) (fun l' x b' hT' hx' hb'=>?_) (fun hmm l' u q hT' hx'=>?_) (fun l1 l2 _ _ _ h1 h2 hne=>Qe (h1.trans h2.symm) hne)
   . rcases YC hx' with ⟨e1,_⟩|⟨_,e1⟩
     . exact Qe e1.symm hne
     exact ⟨e1,rfl⟩
   . subst hT';exact .inl ⟨l',_,rfl,hl,hb'⟩
   subst hT';rw [Z3] at hx'
   cases hx';rw [<-hkv];exact .omap b _ clock (by simp [hblt]) hFb (ZbQ _ (fun _=>rfl) hW)
  unfold Oper.wp execOp;simp [ho,hxv,hyv,huv,Instr.entryStore,getObj,setObj,Sem.run,hb,hfi,asInt,asIntOf,Oper.upon,hd,Act.put];exact kk _ _ ⟨F,key⟩
def Zne {fn:Func} {R:PV->Prop} {t e k:Nat} {h:Value} {q:PV} {cs:List PV} (l:Nat) (hr:fn.results= #[.tmp t]) (ht:lk sL t=some (padd (sbase h) 0,q)) (hl:lk hP l=some (h, .own e k 1 cs)) (hR:R (.obox e k cs)) (hN:∀b,¬c.N0 b:=by intro _ h;exact h) (hdf:c.df=[]:=by exact rfl):aR c (bodyPost P fn (Lc c R)) (⟨sL,hP⟩:St):=fun a w ⟨F,H⟩=>by
 obtain ⟨h1,h2⟩:=H.sl t _ q ht
 have hT:=H.tr l _ _ hl
 obtain ⟨g,cap,rfl,_⟩:=GM hT Vi
 refine ⟨H.df.trans hdf,padd (sbase (.slice (some ⟨g,0,none⟩) 1 cap)) 0,?_,_, .obox e k cs,F l,rfl,hR,H.ext.ext (fun b _=>hN b),(Tr.obox g cap hT).anti fun b _ hb=>?_,fun b hb=>(H.lo l _ b hl hb).resolve_right (hN b),H.dw⟩
 . simp [results,hr,VN,h1]
 rcases hb with hb|hb
 . exact .inl hb
 exact .inr ⟨l,_,hl,hb⟩
def Zp6 {l e k:Nat} {v:Value} {cs:List PV} (hl:lk hP l=some (v, .obox e k cs)):Tn (⟨sL,hP⟩:St) (fun h:{h:Value//v=padd (sbase h) 0}=>⟨sL,put l (h.1, .own e k 1 cs) hP⟩):=fun c a w ⟨F,H⟩=>by
 have hT:=H.tr l _ _ hl
 cases hT with
 |shr h _=>cases h
 | obox g cap h=>
   refine ⟨⟨.slice (some ⟨g,0,none⟩) 1 cap,rfl⟩,F,?_⟩;refine H.retell (fun x=>x=l) (fun x y hnT hx=>?_) (fun x y b hTx hx hb'=>?_) (fun hmm x u q hTx hx=>?_) (fun x1 x2 y1 y2 b h1 h2 hne'=>Qe (h1.trans h2.symm) hne')
   . have n1:x≠l:=hnT;rw [Yy (Ne.symm n1)] at hx;exact ⟨hx,rfl⟩
   . subst hTx;exact ⟨x,_,rfl,hl,hb'⟩
   subst hTx;rw [Z3] at hx
   cases hx;exact h.anti hmm
def Zg7 (c:Ctx) (R:Value->PV->List (Nat×Ent)->Prop) (e:Ending) (w':World):Prop:=∃v p h F,e= .returned v/\R v p h/\HeapF c h F w'/\Shr (mof c h F) w' v p
def AFh (dd:Prop) (P:Program) (f:FuncId) (ar h:List (Nat×Ent)) (R:Value->PV->List (Nat×Ent)->Prop):Prop:=
 ∀(M N:BS) (w:World) (F:Nat->BS),HeapF ⟨w,M,N,0,dd,[]⟩ h F w->(∀i x,lk ar i=some x->Shr (mof ⟨w,M,N,0,dd,[]⟩ h F) w x.1 x.2)->Calls P f (ar.map (·.2.1)).toArray w (Zg7 ⟨w,M,N,0,dd,[]⟩ R)
def HeapF.nt {c c':Ctx} {h:List (Nat×Ent)} {F:Nat->BS} {w:World} (H:HeapF c h F w) (h0:c'.w0=c.w0) (h1:c'.M0=c.M0) (h2:c'.N0=c.N0) (h3:c'.dr->c.dr) (hm:M0k c'.w0 c'.M0 c'.N0 c'.dr):HeapF c' h F w:=by
 obtain ⟨w0,M0,N0,nt,dr,df⟩:=c
 obtain ⟨w0',M0',N0',nt',dr'⟩:=c'
 simp only at h0 h1 h2 h3
 subst h0 h1 h2
 exact ⟨H.tr,H.lo,H.dj,hm,H.ext,fun h=>H.dw (h3 h)⟩
def Rq:Nat->List (Nat×Ent)->Bool
 |_,[]=>true
 |i,(j,_)::l=>Nat.beq i j&&Rq (i+1) l
def Zad:∀(l:List (Nat×Ent)) (i t:Nat) (x:Ent),Rq i l=true->lk l t=some x->i<=t/\(l.map (·.2.1))[t-i]? =some x.1
 |[],_,_,_,_,h=>by simp [lk] at h
 | (j,y)::l,i,t,x,ho,h=>by
   simp only [Rq,Xf] at ho;obtain ⟨h1,h2⟩:=ho;have h1:=X0 h1;subst h1;simp only [lk] at h
   cases hb:Nat.beq i t
   . rw [hb] at h;obtain ⟨h3,h4⟩:=Zad l (i+1) t x h2 h;have:t-i=(t-(i+1))+1:=oM;exact ⟨oM,by rw [this];simpa using h4⟩
   rw [hb] at h;have:i=t:=X0 hb;subst this
   cases h;simp
def CE:∀(l:List (Nat×Ent)) (i t:Nat) (x:Ent),Rq i l=true->lk l t=some x->i<=t/\(l[t-i]?).map (·.2)=some x
 |[],_,_,_,_,h=>by simp [lk] at h
 | (j,y)::l,i,t,x,ho,h=>by
   simp only [Rq,Xf] at ho;obtain ⟨h1,h2⟩:=ho;have h1:=X0 h1;subst h1;simp only [lk] at h
   cases hb:Nat.beq i t
   . rw [hb] at h;obtain ⟨h3,h4⟩:=CE l (i+1) t x h2 h;have:t-i=(t-(i+1))+1:=oM;exact ⟨oM,by rw [this];simpa using h4⟩
   rw [hb] at h;have:i=t:=X0 hb;subst this
   cases h;simp
section
variable {P:Program}
def AFh.of_body {dd:Prop} {f:FuncId} {fn:Func} {code:Code} {ar h:List (Nat×Ent)} {R:Value->PV->List (Nat×Ent)->Prop} (nt:Nat) (hf:P.funcs[f]? =some fn) (hb:fn.body=some code) (hnt:fn.ntmps=nt) (hn:ar.length<=nt) (ho:Rq 0 ar=true)
 (H:∀(w0:World) (M0 N0:BS),aC P ⟨w0,M0,N0,nt,dd,[]⟩ code (bodyPost P fn (Zg7 ⟨w0,M0,N0,nt,dd,[]⟩ R)) ⟨ar,h⟩):AFh dd P f ar h R:=fun M N w F HF hv=>by
 subst hnt
 refine calls_of_wp hf hb ?_
 refine wp_mono (H w M N _ w ⟨F,⟨HF.nt rfl rfl rfl id HF.m0,fun t v p ht=>?_,?_,rfl⟩⟩) fun e a w' hq=>?_
 . obtain ⟨_,h1⟩:=Zad ar 0 t (v,p) ho ht;refine ⟨?_,hv t (v,p) ht⟩;simp only [VA] at h1;have:=Zd h1;rw [VQ (by simpa using this)];simpa using h1
 . simp;omega
 have key:∀e w',Zg7 ⟨w,M,N,fn.ntmps,dd,[]⟩ R e w'->Zg7 ⟨w,M,N,0,dd,[]⟩ R e w':=fun _ _ ⟨v',p,h',F',h3,h4,h5,h6⟩=>⟨v',p,h',F',h3,h4,h5.nt rfl rfl rfl id h5.m0,h6⟩
 cases e with
 |ret=>obtain ⟨h1,v,h2,h3⟩:=hq;exact ⟨h1,v,h2,key _ _ h3⟩
 |normal=>obtain ⟨h1,v,h2,h3⟩:=hq;exact ⟨h1,v,h2,key _ _ h3⟩
 |panic ch=>obtain ⟨h1,h3⟩:=hq;exact ⟨h1,key _ _ h3⟩
 |outgrown=>exact key _ _ hq
 |_=>exact hq.elim
end
def ZeP {fn:Func} {R:Value->PV->List (Nat×Ent)->Prop} {t:Nat} {v:Value} {p:PV} (h:List (Nat×Ent)) (hr:fn.results= #[.tmp t]) (ht:lk sL t=some (v,p)) (hs:Sub h hP) (hR:R v p h) (hdf:c.df=[]:=by exact rfl):aR c (bodyPost P fn (Zg7 c R)) (⟨sL,hP⟩:St):=fun a w ⟨F,H0⟩=>by
 have H:HoldsF c (⟨sL,h⟩:St) F a w:=H0.less (fun _ _ h=>h) fun t x hx=>hs.lk hx
 obtain ⟨h1,h2⟩:=H.sl t v p ht
 refine ⟨H.df.trans hdf,v,?_,v,p,h,F,rfl,hR,H.toHeapF,h2⟩
 simp [results,hr,VN,h1]
def Zg8 {fn:Func} {R:Value->PV->List (Nat×Ent)->Prop} (h:List (Nat×Ent)) (hr:fn.results= #[]) (hs:Sub h hP) (hR:R (.tuple #[]) (.val (.tuple #[])) h) (hdf:c.df=[]:=by exact rfl):aR c (bodyPost P fn (Zg7 c R)) (⟨sL,hP⟩:St):=fun a w ⟨F,H0⟩=>by
 have H:HoldsF c (⟨sL,h⟩:St) F a w:=H0.less (fun _ _ h=>h) fun t x hx=>hs.lk hx
 refine ⟨H.df.trans hdf, .tuple #[],?_, .tuple #[], .val (.tuple #[]),h,F,rfl,hR,H.toHeapF, .val _⟩
 simp [results,hr]
def PN {fn:Func} {R:Value->PV->List (Nat×Ent)->Prop} (h:List (Nat×Ent)) (hr:fn.results= #[]) (hs:Sub h hP) (hR:R (.tuple #[]) (.val (.tuple #[])) h) (hdf:c.df=[]:=by exact rfl):aN c (bodyPost P fn (Zg7 c R)) (⟨sL,hP⟩:St):=Zg8 h hr hs hR hdf
def Zsa {dd:Prop} {f:Nat} {ar:List (Nat×Ent)} {R:Value->PV->List (Nat×Ent)->Prop} (K:List Nat) (d:Nat) (hw:Yb ops sL o=some true) (hd:o.dst=some d) (hn:d<c.nt)
 (hE:∀a w F,HoldsF c (⟨sL,hP⟩:St) F a w->(execOp a.eval o).run P w= .ok (.enter f (ar.map (·.2.1)).toArray) w/\∀(i:Nat) (x:Value) (q:PV),((ar.map (·.2)).map (·.1))[i]? =some x->((ar.map (·.2)).map (·.2))[i]? =some q->Shr (mof c hP F) w x q)
 (hA:AFh dd P f ar (L6 K hP) R) (hio:Rq 0 ar=true) (hdd:c.dr->dd)
 (k:∀v p h,R v p h->aL P c ops Q rest ⟨put d (v,p) sL,h++J7 K hP⟩):aL P c ops Q (o::rest) (⟨sL,hP⟩:St):=
 W1 hw fun a w F H=>by
  obtain ⟨hr,h2⟩:=hE a w F H;have hfr:=H.frame K;have hin:∀b,mof ⟨w,fun b=>c.M0 b\/∃l x,K.elem l=true/\lk hP l=some x/\F l b,nK K hP F,c.nt,c.dr,c.df⟩ (L6 K hP) F b->mof c hP F b:=by
   rintro b ((h|⟨l,x,_,h1,h2⟩)|⟨l,x,h1,h2⟩)
   . exact .inl h
   . exact .inr ⟨l,x,h1,h2⟩
   exact .inr ⟨l,x,(GN.1 h1).2,h2⟩
  have hcall:=hA (fun b=>c.M0 b\/∃l x,K.elem l=true/\lk hP l=some x/\F l b) (nK K hP F) w F
   ⟨hfr.tr,hfr.lo,hfr.dj,hfr.m0.up hdd,hfr.ext,fun _=>Xd _⟩
   (fun i x hi=>by
     obtain ⟨_,h3⟩:=CE ar 0 i x hio hi;rw [VA] at h3;exact (h2 i x.1 x.2 (by rw [Xl,Xl,h3];rfl) (by rw [Xl,Xl,h3];rfl)).anti fun b _ hb=>hin b hb)
  unfold Oper.wp;rw [hr,Oper.upon_enter];refine hcall.mono fun e w' ⟨v,p,h,F',e1,e2,e3,e4⟩=>?_;subst e1;have hch:Chg (nK K hP F) w w':=e3.ext;have hlow:∀b,b<w.heap.size->mof ⟨w,fun b=>c.M0 b\/∃l x,K.elem l=true/\lk hP l=some x/\F l b,nK K hP F,0,dd,[]⟩ h F' b->mof c hP F b:=by
   rintro b hlt ((h1|⟨l,x,_,h1,h2⟩)|⟨l,x,h1,h2⟩)
   . exact .inl h1
   . exact .inr ⟨l,x,h1,h2⟩
   rcases e3.lo l x b h1 h2 with h3|⟨l',x',_,h3,h4⟩
   . exact Qe hlt (by simp only at h3;omega)
   exact .inr ⟨l',x',h3,h4⟩
  have H':HoldsF ⟨w,fun b=>c.M0 b\/∃l x,K.elem l=true/\lk hP l=some x/\F l b,nK K hP F,c.nt,c.dr,c.df⟩ (⟨put d (v,p) sL,h⟩:St) F' (a.put o.dst v) w':=by
   refine ⟨e3.nt rfl rfl rfl hdd hfr.m0,fun t u q ht=>?_,by rw [hd];simpa [Act.put] using H.size,by rw [hd];exact H.df⟩;rw [hd];rcases YC ht with ⟨rfl,e⟩|⟨hne,e⟩
   . cases e;refine ⟨?_,e4⟩;simp [Act.put,H.size,hn]
   obtain ⟨h3,h4⟩:=H.sl t u q e;refine ⟨?_,h4.to hch (fun b _ ⟨l,x,_,h5,h6⟩=> .inr ⟨l,x,h5,h6⟩) (fun b hlt hb=>hlow b hlt hb)⟩;simpa [Act.put,Array.getElem?_setIfInBounds,hne] using h3
  obtain ⟨H2,_,_⟩:=H.unframe H';exact k v p h e2 _ _ ⟨_,H2⟩
def Rs {dd:Prop} {f:Nat} {ar h0:List (Nat×Ent)} {R:Value->PV->List (Nat×Ent)->Prop} {xs:Array Operand} {ats:Array TypeId} (K:List Nat) (d:Nat) (hc:∀args w,(callFunc f args).run P w= .ok (.enter f args) w) (hA:AFh dd P f ar h0 R)
 (k:∀v p h,R v p h->aL P c ops Q rest ⟨put d (v,p) sL,h++J7 K hP⟩) (hw:Yb ops sL o=some true:=by exact rfl) (hd:o.dst=some d:=by exact rfl) (hn:d<c.nt:=by exact Xa rfl)
 (ho:o.op= .call {callee:= .value (.func f),args:=xs,argTypes:=ats}:=by exact rfl) (hx:evL sL xs.toList=some (ar.map (·.2)):=by exact rfl) (hh0:h0=L6 K hP:=by exact rfl) (hio:Rq 0 ar=true:=by exact rfl) (hdd:c.dr->dd:=by first|exact id|exact fun h=>h.elim|exact fun _=>trivial):aL P c ops Q (o::rest) (⟨sL,hP⟩:St):=by
 subst hh0
 refine Zsa K d hw hd hn (fun a w F H=>?_) hA hio hdd k
 obtain ⟨h1,h2⟩:=SE H.rd hx
 refine ⟨?_,h2⟩
 have hargs:xs.map a.eval=(ar.map (·.2.1)).toArray:=by
  rw [show ar.map (·.2.1)=(ar.map (·.2)).map (·.1) by rw [XB];rfl,<-h1,<-V8,VX]
 simp [execOp,ho,resolve,Act.eval,Deferred.ofValue,invoke,hargs,hc]
def CF {l e k n g cap:Nat} {h:Value} {a:Act} (hh:h= .slice (some ⟨g,0,none⟩) n cap) (zs:List Value) (h1:zs.all Value.oneCell'=true):
 ∀ (m i j:Nat) (cs:List PV) (w:World) (F:Nat->BS) (hp:List (Nat×Ent)),HoldsF c ⟨sL,hp⟩ F a w->lk hp l=some (h, .own e k n cs)->i+m=zs.length->j+i+m<=cs.length->
  ∃w' F' hp',(storeCells ⟨g,j,none⟩ (zs.drop i) i).run P w= .ok () w'/\HoldsF c ⟨sL,hp'⟩ F' a w'/\lk hp' l=some (h, .own e k n (G7 cs (j+i) ((zs.drop i).map PV.val)))/\∀l',l'≠l->lk hp' l'=lk hp l'
 | 0,i,j,cs,w,F,hp,H,hl,hi,hj=>by
   refine ⟨w,F,hp,?_,H,?_,fun _ _=>rfl⟩
   . rw [XO oM];rfl
   rw [XO (by omega:zs.length<=i)];exact hl
 | m +1,i,j,cs,w,F,hp,H,hl,hi,hj=>by
   have hi':i<zs.length:=oM;obtain ⟨v,hv⟩:=YV hi';have hv1:v.oneCell'=true:=Xj.1 h1 v (Xb hv);obtain ⟨F1,H1⟩:=O8 H hl hh (show j+i<cs.length by omega) (Shr.val v);obtain ⟨w',F',hp2,hr,H2,hl2,hsame⟩:=CF hh zs h1 m (i+1) j (cs.set (j+i) (.val v)) _ F1 _ H1 (Z3 _ _ _) oM (by simp;omega);refine ⟨w',F',hp2,?_,H2,?_,fun l' hne=>by rw [hsame l' hne,Yy (Ne.symm hne)]⟩
   . obtain ⟨xs,Fs,hrow,hlen,_⟩:=(H.tr l _ _ hl).row;subst hh;obtain ⟨z,hz⟩:=YV (show j+i<xs.length by omega);have hcell:=JC hrow hz;have hfr:=hrow.frozenAt (j+i);rw [Ve (Zd hv),show zs[i]'(Zd hv)=v from (Xk.1 hv).2,storeCells];simp only [Sem.run_bind,run_store _ _ _ _ _ hv1,Kk,hcell,hfr,VG,if_false,Result.andThen_ok];exact hr
   rw [hl2,Ve hi',show zs[i]'hi'=v from (Xk.1 hv).2,Xn,G7,Vy]
def Zb6:∀(ps cs:List PV) (j:Nat),(G7 cs j ps).take j=cs.take j
 |[],_,_=>rfl
 | p::ps,cs,j=>by
   rw [G7];have h:=Zb6 ps (cs.set j p) (j+1);have h2:=congrArg (List.take j) h;rw [List.take_take,List.take_take,Vb (VM j)] at h2;rw [h2,UM (Xd j)]
def Zkv {z:Value} (h:z.cells.toList.all Value.oneCell'=true) (m:Nat):(Builtin.zeroCells z.cells m).toList.all Value.oneCell'=true:=by
 rw [Xj]
 intro v hv
 unfold Builtin.zeroCells at hv
 rw [V8,Xp] at hv
 obtain ⟨i,_,rfl⟩:=hv
 rw [getElem!_def]
 cases hc:z.cells[i % z.cells.size]? with
 |none=>rfl
 |some u=>exact Xj.1 h u (by rw [<-Uc] at hc;exact Xb hc)
def ZeQ {t e kk bytes n i:Nat} {z:Value} {x:Operand} {h:Value} {q:PV} {cs:List PV} (l:Nat) (hT:ElT P t e kk bytes z) (hz0:z.cells.toList.all Value.oneCell'=true) (hw:Yb ops sL o=some true) (hd:o.dst=none)
 (ho:o.op= .call {callee:= .builtin .clear,args:= #[x],argTypes:= #[t]}) (hx:ev sL x=some (slc h i n kk,q)) (hl:lk hP l=some (h, .own e kk n cs)) (hi:i<=n)
 (k:∀cs',cs'.length=cs.length->cs'.take (i*kk)=cs.take (i*kk)->aL P c ops Q rest ⟨sL,put l (h, .own e kk n cs') hP⟩):aL P c ops Q (o::rest) (⟨sL,hP⟩:St):=
 W1 hw fun a w F H=>by
  have hxv:=(H.rd.ev hx).1;obtain ⟨xs,Fs,hrow,hlen,_⟩:=(H.tr l _ _ hl).row;obtain ⟨inf,hi1,hi2,hi3,hi4⟩:=hT.info;have hback:Holds c ⟨sL,put l (h, .own e kk n cs) hP⟩ a w:=⟨F,H.less (fun _ _ h=>h) fun t x hx=>by
   rcases YC hx with ⟨rfl,rfl⟩|⟨hne,e1⟩
   . exact hl
   . exact e1⟩
  rcases Kv hrow with ⟨rfl,rfl,rfl⟩|⟨g,cap,rfl,hc1,hc2,hc3⟩
  . have hi0:i=0:=oM;subst hi0;unfold Oper.wp execOp;simp [ho,hxv,resolve,invoke,builtin,Builtin.clear_,slc,run_underlying hT.ht,Oper.upon,hd,Act.put];exact k cs rfl rfl _ _ hback
  rcases XL i n with hlt|hge
  . (have hlen':cs.length=n*kk:=by rw [hlen,hrow.1]);(have hzs:(Builtin.zeroCells z.cells (n-i)).toList.length=(n-i)*kk:=by rw [Va,size_zeroCells,hT.hz]);(have hmul:i*kk+(n-i)*kk=n*kk:=by rw [<-X3];congr 1;omega);obtain ⟨w',F',hp',hr,H',hl',hsame⟩:=CF (P:=P) rfl (Builtin.zeroCells z.cells (n-i)).toList (Zkv hz0 _) _ 0 (i*kk) cs w F hP H hl (XC _) oM;simp only [Vf,VO] at hr hl';have hcap:cap≠i:=oM;obtain ⟨m,hm⟩:∃m,n-i=m+1:=⟨n-i-1,oM⟩;simp only [slc,hcap,if_false,VY,Kk,XC,hm] at hxv;rw [hm] at hr hl';unfold Oper.wp execOp;simp [ho,hxv,resolve,invoke,builtin,Builtin.clear_,run_underlying hT.ht,zeroValue,typeInfo,hi1,hi2,hr,Oper.upon,hd,Act.put];refine k (G7 cs (i*kk) ((Builtin.zeroCells z.cells (m+1)).toList.map PV.val)) (RR _ _ _) (Zb6 _ _ _) _ _ ⟨F',H'.less (fun _ _ h=>h) fun t x hx=>?_⟩;rcases YC hx with ⟨rfl,rfl⟩|⟨hne,e1⟩
    . exact hl'
    show lk hp' t=_;rw [hsame t (Ne.symm hne)];exact e1
  have hin:i=n:=oM;subst hin;by_cases hca:cap=i
  all_goals
   unfold Oper.wp execOp;simp [ho,hxv,resolve,invoke,builtin,Builtin.clear_,slc,hca,run_underlying hT.ht,Oper.upon,hd,Act.put];exact k cs rfl rfl _ _ hback
def Zp7 {t e k r n:Nat} {x y:Operand} {v:Value} {q:PV} {cs:List PV} {st:St} (hT:SlT P t e k=true) (ho:o.op= .binOp .eql t x y r:=by exact rfl) (hx:ev st.slots x=some (v, .sl n cs):=by exact rfl) (hy:ev st.slots y=some (.slice none 0 0,q):=by exact rfl):
 YE P st o (fun u=>u= .bool false\/(u= .bool true/\n=0)) (.val (.bool (match v with| .slice a _ _=>a.isNone|_=>false))):=fun M F a w H=>by
 obtain ⟨hv,hS⟩:=H.ev hx
 have hyv:=(H.ev hy).1
 cases hS with
 | emp ad cp hc ha=>
   refine ⟨.bool ad.isNone,?_, .val _,fun N W _ _ _=>?_⟩
   . cases ad with
     |none=>exact .inr ⟨rfl,rfl⟩
     |some _=>exact .inl rfl
   simp [execOp,ho,hv,hyv,eqGuard,Go.Lib.run_eql_slice_nil W t e ad _ _ 0 0 (SlT.und hT)]
 | sl b off n cp cs vs hn hc hcell hT'=>
   refine ⟨.bool false, .inl rfl, .val _,fun N W _ _ _=>?_⟩;simp [execOp,ho,hv,hyv,eqGuard,Go.Lib.run_eql_slice_nil W t e (some ⟨b,off,none⟩) _ _ 0 0 (SlT.und hT)]
def Gn {l:List Oper} (h:List (Nat×Ent)) (hs:Sub h hP) (k:aL P c ops Q l ⟨sL,h⟩):aL P c ops Q l (⟨sL,hP⟩:St):=fun a w ⟨F,H⟩=>k a w ⟨F,H.less (fun _ _ h=>h) fun t x hx=>hs.lk hx⟩
section
variable {P:Program} {st:St} {o:Oper}
def Zb7 {M:BS} {w:World} {v:Value} {us:List Value} (h:Shr M w v (.agg (us.map PV.val))):v= .agg us.toArray:=by
 generalize hp:PV.agg (us.map PV.val)=p at h
 cases h with
 | agg vs ps hl hT=>
   cases hp;congr 2;apply VT;intro i;rw [Xc] at hl;rcases XL i us.length with hi|hi
   . obtain ⟨u,hu⟩:=YV hi;obtain ⟨x,hx⟩:=Wc hu hl.symm;have h1:=hT i x (.val u) hx (by rw [Xl,hu];rfl);have h2:x=u:=h1.vOf;rw [hx,hu,h2]
   rw [X' hi,X' oM]
 |_=>cases hp
def Ztb {t r:Nat} {x y:Operand} {v v':Value} {us us':List Value} {b:Bool} (ht:P.underlying t=some (.struct (P.fieldsOf t))) (hp:P.stoodInHeld t=false) (hg:P.eqGuardType P.depth t=false)
 (hE:∀w,(Op.eqFields 9999 us.toArray us'.toArray (P.fieldsOf t).toList).run P w= .ok b w) (hx:ev st.slots x=some (v, .agg (us.map PV.val))) (hy:ev st.slots y=some (v', .agg (us'.map PV.val))) (ho:o.op= .binOp .eql t x y r:=by exact rfl):YE P st o (· = .bool b) (.val (.bool b)):=
 .exact fun M F a w H=>⟨.val _,by
  obtain ⟨h1,h2⟩:=H.ev hx;obtain ⟨h3,h4⟩:=H.ev hy;have e1:=Zb7 h2;have e2:=Zb7 h4;subst e1 e2;have hr:(Op.equalIn 10000 t (.agg us.toArray) (.agg us'.toArray)).run P w= .ok b w:=by rw [run_equalIn_struct w 9999 t _ _ ht hp];exact hE w
  simp [execOp,ho,h1,h3,run_eqGuard_agg w .eql t x y us.toArray us'.toArray hg,run_eql_struct,hr]⟩
end
def Wm {sL hP:List (Nat×Ent)} {l:Nat} {h:Value} {p p':PV} (hl:lk hP l=some (h,p)) (e:p=p'):Tn (⟨sL,hP⟩:St) (fun _:Unit=>⟨sL,put l (h,p') hP⟩):=fun c a w ⟨F,H⟩=>by
 subst e
 refine ⟨(),F,H.less (fun t x h=>h) fun t x ht=>?_⟩
 rcases YC ht with ⟨rfl,e1⟩|⟨_,h1⟩
 . rw [hl,e1]
 exact h1
def Ki {sL hP:List (Nat×Ent)} {t:Nat} {v:Value} {p p':PV} (hl:lk sL t=some (v,p)) (e:p=p'):Tn (⟨sL,hP⟩:St) (fun _:Unit=>⟨put t (v,p') sL,hP⟩):=fun c a w ⟨F,H⟩=>by
 subst e
 refine ⟨(),F,H.less (fun s x ht=>?_) (fun t x h=>h)⟩
 rcases YC ht with ⟨rfl,e1⟩|⟨_,h1⟩
 . rw [hl,e1]
 exact h1
def PO {sL hP:List (Nat×Ent)} {t:Nat} {q:PV} (ht:lk sL t=some (.slice none 0 0,q)):Tn (⟨sL,hP⟩:St) (fun _:Unit=>⟨put t (.slice none 0 0, .sl 0 []) sL,hP⟩):=fun c a w ⟨F,H⟩=>by
 refine ⟨(),F,H.toHeapF,fun s u r hs=>?_,H.size,H.df⟩
 rcases YC hs with ⟨rfl,e1⟩|⟨_,hs'⟩
 . cases e1;exact ⟨(H.sl t _ _ ht).1, .emp none 0 (by unfold maxLen;omega) (fun _=>rfl)⟩
 exact H.sl s u r hs'
def ZeR:∀(l:List Value) (j off:Nat) (cells:Array Value),(l.zipIdx j).foldl (fun cs x=>cs.setIfInBounds (off+x.2) x.1) cells=(l.zipIdx (off+j)).foldl (fun cs x=>cs.setIfInBounds (0+x.2) x.1) cells
 |[],j,off,cells=>rfl
 | x::l,j,off,cells=>by
   simp only [Ul,Vq];rw [ZeR l (j+1) off,XC,Vy]
def ZeS:∀(l:List Value) (i:Nat) (cells:Array Value),i+l.length<=cells.size->(l.zipIdx i).foldl (fun cs x=>cs.setIfInBounds (0+x.2) x.1) cells=(cells.toList.take i++l++cells.toList.drop (i+l.length)).toArray
 | [],i,cells,h=>by
   simp only [UB,List.foldl_nil,Xo,Xw,VO,Vw,VX]
 | x::l,i,cells,h=>by
   simp only [Ul,Vq];simp only [Xh] at h;rw [ZeS l (i+1) _ (by simp;omega)];congr 1;rw [XC,Array.toList_setIfInBounds,UL (by simp;omega)];simp only [List.getElem_set_self,Xh];rw [UM oM,List.drop_set_of_lt oM,show i+1+l.length=i+(l.length+1) by omega];simp
def Znf (kk:Nat):∀(vs:List (List Value)) (i:Nat) (cells:Array Value),cells.size=(i+vs.length)*kk->(∀v∈vs,v.length=kk)->Instr.fill (fun i=>some (i*kk,kk)) cells (((vs.map fun v=>Value.agg v.toArray).zipIdx i).map fun x=>(x.2,x.1))=some (cells.toList.take (i*kk)++vs.flatten).toArray
 | [],i,cells,h,_=>by
   simp only [Vz,UB,Instr.fill,List.flatten_nil,Xo];simp only [Xw,VO] at h;rw [Xs (by simp;omega)]
 | v ::vs,i,cells,h,h1=>by
   have hv:=h1 v sM;have hcs:(Value.agg v.toArray).cells=v.toArray:=rfl;have hle:(i+1)*kk<=cells.size:=by rw [h];exact Vx _ sM
   rw [Vt] at hle;have hc:¬((Value.agg v.toArray).cells.size≠kk||decide (i*kk+(Value.agg v.toArray).cells.size>cells.size))=true:=by rw [hcs];simp;omega
   simp only [Xn,Ul,Instr.fill,hc,if_false];rw [hcs,<-Array.foldl_toList,Array.toList_zipIdx,ZeR,ZeS _ _ _ (by simp;omega)];have:=Znf kk vs (i+1) (cells.toList.take (i*kk+0)++v++cells.toList.drop (i*kk+0+v.length)).toArray (by
    simp only [Uz,Xe,XA,Vu,Va];rw [Vb oM];rw [Xh] at h;rw [h,show i+1+vs.length=i+(vs.length+1) by omega] at*;omega) (fun u hu=>h1 u (by simp [hu]))
   simp only [VX] at this ⊢;rw [this];congr 2;rw [XS,<-XG];congr 1;rw [List.take_append_of_le_length (by simp;rw [Vt,Vb oM];omega)];rw [Xs (by simp;rw [Vt,Vb oM];omega)];simp
def J5 {t e kk bytes m:Nat} {z:Value} {xs:List Operand} {parts:Array (Nat×Operand)} {es:List Ent} {cs:List (List PV)} (d:Nat) (hT:ElT P t e kk bytes z)
 (k:∀h:Value,h.oneCell'=true->aL P c ops Q rest ⟨put d (h, .val h) sL,put d (h, .own e kk m cs.flatten) hP⟩) (hw:Yb ops sL o=some true:=by exact rfl) (hd:o.dst=some d:=by exact rfl) (hn:d<c.nt:=by exact Xa rfl) (ho:o.op= .buildSlice t m parts:=by exact rfl) (hpt:parts=((xs.zipIdx).map fun x=>(x.2,x.1)).toArray:=by exact rfl) (hx:evL sL xs=some es:=by exact rfl)
 (hcs:es.map (·.2)=cs.map PV.agg:=by exact rfl) (hck:∀q∈cs,q.length=kk:=by simp) (hm:es.length=m:=by exact rfl) (hm0:0<m:=by decide) (hm1:m<=1000:=by decide) (hk0:kk<=1000:=by decide) (hl:lk hP d=none:=by exact rfl):aL P c ops Q (o::rest) (⟨sL,hP⟩:St):=
 W1 hw fun a w F H=>by
  obtain ⟨i,hi1,hi2,hi3,hi4⟩:=hT.info;obtain ⟨he,hS⟩:=SE H.rd hx;have hkp:=hT.hk;have key : ∀(es:List Ent) (cs:List (List PV)),es.map (·.2)=cs.map PV.agg->(∀q∈cs,q.length=kk)->(∀(i:Nat) (x:Value) (q:PV),(es.map (·.1))[i]? =some x->(es.map (·.2))[i]? =some q->Shr (mof c hP F) w x q)->∃us:List (List Value),es.map (·.1)=us.map (fun v=>Value.agg v.toArray)/\us.length=es.length/\(∀u∈us,u.length=kk)/\us.flatten.length=cs.flatten.length/\∀(i:Nat) (x:Value) (q:PV),us.flatten[i]? =some x->cs.flatten[i]? =some q->Shr (mof c hP F) w x q:=fun es=>by
   induction es with
   | nil=>
     intro cs h1 _ _
     cases cs with
     |nil=>exact ⟨[],rfl,rfl,sM,rfl,sM⟩
     |cons q cs=>simp at h1
   | cons e0 es ih=>
     intro cs h1 h2 h3
     cases cs with
     |nil=>simp at h1
     | cons q cs=>
       simp only [Xn,List.cons.injEq] at h1;obtain ⟨us,g1,g2,g3,g4,g5⟩:=ih cs h1.2 (fun u hu=>h2 u (Xt _ hu)) (fun i x q hx hq=>h3 (i+1) x q (by simpa using hx) (by simpa using hq));have h4:=h3 0 e0.1 e0.2 rfl rfl;rw [h1.1] at h4;generalize hv0:e0.1=v0 at h4;have hqk:=h2 q (Xu ..)
       cases h4 with
       | agg vs ps hvl hTT=>
         refine ⟨vs::us,by rw [Xn,Xn,hv0,g1],by simp [g2],fun u hu=>?_,by rw [XS,XS,Xe,Xe,g4,hvl],fun i x r hx hr=>?_⟩
         . rcases Xi.1 hu with rfl|hu
           . omega
           exact g3 u hu
         rw [XS] at hx hr;rcases XL i vs.length with hi|hi
         . rw [Vo hi] at hx;rw [Vo oM] at hr;exact hTT i x r hx hr
         rw [Vp hi] at hx;rw [Vp oM] at hr;refine g5 (i-vs.length) x r hx ?_;rw [hvl];exact hr
  obtain ⟨us,u1,u2,u3,u4,u5⟩:=key es cs hcs hck hS;have hfl:us.flatten.length=m*kk:=by
   have:∀us:List (List Value),(∀u∈us,u.length=kk)->us.flatten.length=us.length*kk:=fun us=>by
    induction us with
    |nil=>intro _;simp
    | cons u us ih=>
      intro h;rw [XS,Xe,h u (Xu ..),ih fun v hv=>h v (Xt _ hv),Xh,Vt];omega
   rw [this us u3,u2,hm]
  have hmk:m*kk<=1000000:=XI (Nat.mul_le_mul hm1 hk0) dC;have hmk0:0<m*kk:=Nat.mul_pos hm0 hkp;obtain ⟨F',H'⟩:=K0 (e:=e) (k:=kk) (n:=m) (cap:=m) (cur:=us.flatten.toArray) (v:= .slice (some ⟨w.heap.size,0,none⟩) m m) H hl hn (vs:=us.flatten) (ps:=cs.flatten) u4 u5 (by first|omega|exact hfl|(rw [hfl])|(rw [VH];exact hfl)) (Xd _) (by unfold maxLen;omega) (by simp;rw [<-UW,hfl]) (Xs (by simp;rw [<-UW,hfl];omega));have hf:=Znf kk us 0 ((Array.range (m*i.size)).map (z.cells[· % z.cells.size]!)) (by simp [hi3,u2,hm]) u3;have hpe:(parts.map fun (i,x)=>(i,a.eval x)).toList=((us.map fun v=>Value.agg v.toArray).zipIdx 0).map fun x=>(x.2,x.1):=by
   rw [hpt,<-u1,<-he];simp [List.zipIdx_map]
  have hr:=run_buildSlice (P:=P) w t e m (parts.map fun (i,x)=>(i,a.eval x)) us.flatten.toArray i z hT.ht hi1 hi2 (by rw [hi3];omega) (by rw [hi3];omega) (by rw [hpe,hi3];rw [hi3] at hf;simpa using hf);unfold Oper.wp execOp;simp only [ho,Sem.run_bind,hr,Result.andThen_ok,Sem.run_pure,Oper.upon,hd];exact k (.slice (some ⟨w.heap.size,0,none⟩) m m) rfl _ _ ⟨F',H'⟩
def Rr (p p':PV):Prop:=∀(M:BS) (w:World) (v:Value),Shr M w v p->Shr M w v p'
def Rr.rfl' (p:PV):Rr p p:=fun _ _ _ h=>h
def Rr.nil:Rr (.val (.slice none 0 0)) (.sl 0 []):=fun M w v h=>by
 cases h with
 |val=>exact .emp none 0 (by unfold maxLen;omega) (fun _=>rfl)
def Rr.agg {ps ps':List PV} (hl:ps.length=ps'.length) (h:∀(i:Nat) (p p':PV),ps[i]? =some p->ps'[i]? =some p'->Rr p p'):Rr (.agg ps) (.agg ps'):=fun M w v hv=>by
 cases hv with
 | agg vs ps hvl hT=>
   refine .agg vs ps' oM fun i x q hx hq=>?_;obtain ⟨p,hp⟩:=Wc hq hl.symm;exact h i p q hp hq M w x (hT i x p hx hp)
def Rr.tup {ps ps':List PV} (hl:ps.length=ps'.length) (h:∀(i:Nat) (p p':PV),ps[i]? =some p->ps'[i]? =some p'->Rr p p'):Rr (.tup ps) (.tup ps'):=fun M w v hv=>by
 cases hv with
 | tup vs ps hvl hT=>
   refine .tup vs ps' oM fun i x q hx hq=>?_;obtain ⟨p,hp⟩:=Wc hq hl.symm;exact h i p q hp hq M w x (hT i x p hx hp)
def Rr.tup2 {p p' q:PV} (h:Rr p p'):Rr (.tup [p,q]) (.tup [p',q]):=Rr.tup rfl fun i a b ha hb=>by
 match i with
 |0=>cases ha;cases hb;exact h
 |1=>cases ha;cases hb;exact Rr.rfl' _
 |i+2=>simp at ha
def AF.reread {P:Program} {f:Nat} {ps:List PV} {p p':PV} (h:AF P f ps (· =p)) (hs:shD p=true) (hr:Rr p p'):AF P f ps (· =p'):=fun M w vs hM hl hv=>
 (h M w vs hM hl hv).mono fun e w' ⟨v,q,F,h1,h2,h3,h4,h5,h6⟩=>by
   subst h2;refine ⟨v,p',fun _=>False,h1,rfl,h3, .shr (hr _ _ _ ((h4.shD hs).anti fun b _ hb=>?_)) (fun _ h=>h),fun b hb=>hb.elim,h6⟩;rcases hb with hb|hb
   . exact .inl hb
   exact hb.elim
def HR {sL hP:List (Nat×Ent)} {t:Nat} {v:Value} {p p':PV} (hl:lk sL t=some (v,p)) (hr:Rr p p'):Tn (⟨sL,hP⟩:St) (fun _:Unit=>⟨put t (v,p') sL,hP⟩):=fun c a w ⟨F,H⟩=>by
 refine ⟨(),F,H.toHeapF,fun s u r hs=>?_,H.size,H.df⟩
 rcases YC hs with ⟨rfl,e1⟩|⟨_,hs'⟩
 . cases e1;exact ⟨(H.sl t _ _ hl).1,hr _ _ _ (H.sl t _ _ hl).2⟩
 exact H.sl s u r hs'
end Go.En
namespace Go.Proofs.YtmkojdfiadbeeaaGreat
open Go.RowKit Go.Cb Go.En Tryz
def WU:AggT prog 51 3=true:=kR
def Zkw:ElT prog 90 3 1 8 (.int .i64 0):=⟨underlying90,by kernel_rfl,rfl,dC⟩
def K3:FldT prog 51 0 0=true:=kR
def K4:FldT prog 51 1 1=true:=kR
def Wl:FldT prog 51 2 2=true:=kR
def Gx:NoAgg prog 3=true:=kR
def Ke:NoAgg prog 49=true:=kR
def Lg:NoAgg prog 9=true:=kR
def Wa:SlT prog 49 51 3=true:=kR
def Zb8:SlT prog 90 3 1=true:=kR
def De:ZeroT prog 51 (.agg #[(.int .i64 0),(.string ByteArray.empty),(.slice none 0 0)]):=by unfold ZeroT;kernel_rfl
def Zae (s:Int):AF prog 217 [Zb s] (· =Zr false):=by
 refine AF.b1 6 func217 rfl ntmps217 (Xa rfl) ?_
 rintro w0 M0 _ rfl
 refine WK ?_;refine LB ?_;refine ZZ ?_
 refine Zg results217 rfl ?_
 simp
def Zng (a b:Int):AF prog 266 [Zb a,Zb b] (· =Zb (G5 a b)):=by
 refine AF.b2 20 func266 rfl ntmps266 (Xa rfl) ?_
 rintro w0 M0 _ _ rfl rfl
 refine PH ?_;refine cV (cA call217 (Zae a)) ?_;refine JG ?_;refine cV (cA call217 (Zae b)) ?_;refine KG ?_
 refine cCf ?_
 refine ZF ?_
 refine cCf ?_
 refine WL ?_;refine ZC ?_ ?_<;>intro hb16
 . (
 refine ZF ?_;refine Zg results266 rfl ?_;rw [G5,Qd hb16])
 refine WL ?_;refine ZC ?_ ?_<;>intro hb19
 . (
 refine ZF ?_;refine Zg results266 rfl ?_;rw [G5,Qc oM,Qd oM])
 refine ZF ?_;refine Zg results266 rfl ?_;rw [G5,Qc oM,Qc oM]
def orL:List Int->Int
 |[]=>0
 |x::l=>if x≠0 then x else orL l
def Zkx (a b c:Int):orL [a,b,c]=or3 a b c:=by
 unfold or3
 simp only [orL]
 split
 . rfl
 split
 . rfl
 split<;>omega
def Znh (l:List Int) (hl:l.length<=1000):AF prog 141 [pInts l] (· =Zb (orL l)):=by
 refine AF.b1 18 func141 rfl ntmps141 (Xa rfl) fun w0 M0 v0 _=>?_
 refine D4 ?_
 refine xL 6 Za (xL 7 (Zu Zb8) (xL 8 Za ?_));refine ZZ ?_
 refine Y0 (ι:={k:Nat//k<=l.length/\orL l=orL (l.drop k)}) (fun k=>⟨[(3,_,_),(6,_,_),(7,_,_),(8, .int .i64 k.1,Zb k.1)],[]⟩) (fun k=>l.length-k.1) ⟨0,oM,rfl⟩ (fun a w H=>H.weaken sB trivial) ?_
 rintro ⟨k,hk,hp⟩
 dsimp only
 refine Ys ?_ ?_<;>intro hb9
 . (
 obtain ⟨x,hx⟩:=gS l k;have e1:=Yf (f:=Zb) hx;(have hdr:l.drop k=x::l.drop (k+1):=by rw [Ve (Zd hx)];congr 1;exact (Xk.1 hx).2);refine Zi ?_;refine xM (Ze Zb8) ?_;refine yV (Zw Gx) ?_;refine D5 ?_;refine ZC ?_ ?_<;>intro hb14
 . (
 refine ZP ?_;refine Zg results141 rfl ?_;rw [hp,hdr,orL,Qd hb14])
 refine ZP ?_;refine Zh (
  ⟨k+1,oM,by rw [hp,hdr,orL,Qc hb14]⟩
  ) (by dsimp only;omega) sB trivial)
 refine ZP ?_;refine Zg results141 rfl ?_;rw [hp,XO oM];rfl
def ZrA:∀a b:List UInt8,Lib.compareBytes a b=if Op.bytesLess a b=true then-1 else if (a==b)=true then 0 else 1
 |[],[]=>by simp [Lib.compareBytes,Op.bytesLess]
 |[],_::_=>by simp [Lib.compareBytes,Op.bytesLess]
 |_::_,[]=>by simp [Lib.compareBytes,Op.bytesLess]
 | x :: a,y::b=>by
   rw [Lib.compareBytes,ZrA a b];simp only [Op.bytesLess,List.cons_beq_cons];by_cases h1:x<y
   . simp [h1]
   by_cases h2:x=y
   . subst h2;simp [h1]
   have h3:y<x:=UInt8.lt_of_le_of_ne (UInt8.not_lt.1 h1) (Ne.symm h2);simp [h1,h2,h3]
def Zni (a b:BA) (w:World):(callFunc 289 #[.string a, .string b]).run prog w= .ok (.value (.int .i64 (Yc a b))) w:=by
 rw [run_callFunc_extern func289 kR kR kR (e:=Extern.BytealgCompare.compare) kR,Lib.run_compareString]
 simp only [Result.andThen]
 rw [ZrA]
 unfold Yc strLt W7
 rw [ByteArray.toList_eq,ByteArray.toList_eq]
def Zsb {st:St} {o:Oper} {x y:Operand} {f:Nat} {u v r:Value} {p q:PV} {ats:Array TypeId} (hc:∀w,(callFunc f #[u,v]).run prog w= .ok (.value r) w) (ho:o.op= .call {callee:= .value (.func f),args:= #[x,y],argTypes:=ats}:=by exact rfl) (hx:ev st.slots x=some (u,p):=by exact rfl) (hy:ev st.slots y=some (v,q):=by exact rfl):YE prog st o (· =r) (.val r):=
 .exact fun M F a w H=>⟨.val _,by
  have h1:=(H.ev hx).1;have h2:=(H.ev hy).1;have hev:a.eval (.func f)= .func (.func f) #[] #[]:=rfl;simp [execOp,ho,resolve,hev,Deferred.ofValue,invoke,h1,h2,hc]⟩
def ZeT (a b:BA):AF prog 284 [Zx a,Zx b] (· =Zb (Yc a b)):=by
 refine AF.b2 8 func284 rfl ntmps284 (Xa rfl) ?_
 rintro w0 M0 _ _ rfl rfl
 refine RF ?_;refine xM (Zsb (Zni a b)) ?_;refine ZD ?_
 exact Zg results284 rfl rfl
def Zdk (a b:BA):AF prog 267 [Zx a,Zx b] (· =Zb (Yc a b)):=by
 refine AF.b2 8 func267 rfl ntmps267 (Xa rfl) fun w0 M0 v0 v1 _ _=>?_
 refine RF ?_;refine cV (cA call284 (ZeT a b)) ?_;refine ZD ?_
 exact Zg results267 rfl rfl
def Zb9 {l m:List Nd} {k:Nat} {x y:Nd} (hx:l[k]? =some x) (hy:m[k]? =some y):JI (l.drop k) (m.drop k)=if WG x y≠0 then WG x y else JI (l.drop (k+1)) (m.drop (k+1)):=by
 rw [Ve (Zd hx),Ve (Zd hy),(Xk.1 hx).2,(Xk.1 hy).2,JI]
def R9 {l m:List Nd} {k:Nat} (hk:k<=l.length) (hk':k<=m.length) (h:¬(k<l.length/\k<m.length)):JI (l.drop k) (m.drop k)=if l.length<m.length then-1 else if m.length<l.length then 1 else 0:=by
 rcases XL k l.length with h1|h1
 . have h2:k=m.length:=oM;subst h2;rw [XO (Xd m.length),Ve h1,JI,Qc oM,Qd h1]
 have h2:k=l.length:=oM;subst h2;rw [XO (Xd l.length),Qc (by omega:¬m.length<l.length)];rcases XL l.length m.length with h3|h3
 . rw [Ve h3,JI,Qd h3]
 have h4:l.length=m.length:=oM;rw [XO oM,JI,Qc oM]
def Zdl (f:Nat) (l m:List Nd) (hl:l.length<=140737488355328) (hm:m.length<=140737488355328) (hc:∀args w,(callFunc f args).run prog w= .ok (.enter f args) w) (hf:∀x∈l,∀y∈m,AF prog f [pTr x,pTr y] (· =Zb (WG x y))):AF prog 268 [YJ l,YJ m, .fn f []] (· =Zb (JI l m)):=by
 refine AF.b3 39 func268 rfl ntmps268 (Xa rfl) fun w0 M0 v0 v1 v2 _ _ _=>?_
 refine WK ?_
 refine xL 11 Za (xL 12 (Zu Wa) (xL 13 Za ?_));refine ZZ ?_
 refine Y0 (ι:={k:Nat//k<=l.length/\k<=m.length/\JI l m=JI (l.drop k) (m.drop k)}) (fun k=>⟨[(0,_,_),(1,_,_),(2,_,_),(11,_,_),(12,_,_),(13, .int .i64 k.1,Zb k.1)],[]⟩) (fun k=>l.length-k.1) ⟨0,oM,oM,rfl⟩ (fun a w H=>H.weaken sB trivial) ?_
 rintro ⟨k,hk,hkm,hp⟩
 dsimp only
 refine Ys ?_ ?_<;>intro hb14
 . (
 obtain ⟨x,hx⟩:=gS l k;have e1:=Yd hx;have e2:=YF hx;refine Zi ?_;refine xL 15 Za (xL 16 (Ze Wa) ?_);refine yU (We WU) fun v17=>?_;refine Zt zT 3 8 De fun h8=>?_;refine YU ?_;refine Zn 8 WU ?_;refine YT ?_;refine xL 18 Za (xL 19 Za (xL 20 (Zu Wa) (xL 21 Zek ?_)));refine ZC ?_ ?_<;>intro hb21
 . (
 refine ZF ?_;refine Zg results268 rfl ?_;rw [hp,R9 hk hkm oM,Qc oM,Qd oM])
 obtain ⟨y,hy⟩:=gS m k;have e3:=Yd hy;have e4:=YF hy;have hd:=Zb9 hx hy;refine Zi ?_;refine xL 22 Za (xL 23 Za (xL 24 (Ze Wa) ?_));refine yU (We WU) fun v25=>?_;refine Zt zT 3 9 De fun h9=>?_;refine Zn 9 WU ?_;refine YT ?_;refine YU ?_;refine yU (Zm 8 WU) fun v27=>?_;refine yU (Zm 9 WU) fun v28=>?_;refine cV (LW (f:=f) (ps:=[]) rfl ⟨_,rfl⟩ hc rfl (hf x (Xb hx) y (Xb hy))) ?_;refine ZW ?_;refine Wv ?_ ?_<;>intro hb31
 . (
 refine ZP ?_;refine Zg results268 rfl ?_;rw [hp,hd,Qd hb31])
 refine ZP ?_;refine Zh (
  ⟨k+1,oM,oM,by rw [hp,hd,Qc hb31]⟩
  ) (by dsimp only;omega) sB trivial)
 refine Zi ?_;refine xL 34 Za (xL 35 (Zu Wa) (xL 36 Za (xL 37 (Zu Wa) (xL 38 Yn ?_))));refine ZC ?_ ?_<;>intro hb38
 . (
 refine ZF ?_;refine Zg results268 rfl ?_;rw [hp,R9 hk hkm oM,Qd oM])
 refine ZF ?_;refine Zg results268 rfl ?_;rw [hp,R9 hk hkm oM,Qc oM,Qc oM]
def Zsc:∀(t u:Nd),FitT t->FitT u->AF prog 226 [pTr t,pTr u] (· =Zb (WG t u)):=Nd.ind fun o a l ih u hf hg=>by
 obtain ⟨o',a',l'⟩:=u
 have hl:=hf.len
 have hp:=hf.p
 have hl':=hg.len
 have hp':=hg.p
 simp only [Nd.l] at hl hp hl' hp'
 refine AF.b2 22 func226 rfl ntmps226 (Xa rfl) fun w0 M0 v0 v1 _ _=>?_
 have e0:pTr (.mk o a l)= .agg [Zb o,Zx a, .sl l.length (Z9 l)]:=rfl
 have e1:pTr (.mk o' a' l')= .agg [Zb o',Zx a', .sl l'.length (Z9 l')]:=rfl
 rw [e0,e1]
 refine Zi ?_
 refine Z4 2 3 fun h2=>?_;refine Z4 3 3 fun h3=>?_;refine ZD ?_
 refine Yx [] [2,3] ?_<;>refine xD 0 rfl (Zc 2 K3) ?_<;>(refine yD 1 rfl (Zf 2 Gx) fun v6 h=>?_;cases h)<;>refine xD 2 rfl (Zc 3 K3) ?_<;>(refine yD 3 rfl (Zf 3 Gx) fun v8 h=>?_;cases h)<;>refine xD 5 rfl (Zc 2 K4) ?_<;>(refine yD 6 rfl (Zf 2 Lg) fun v11 h=>?_;cases h)<;>refine xD 7 rfl (Zc 3 K4) ?_<;>(refine yD 8 rfl (Zf 3 Lg) fun v13 h=>?_;cases h)<;>refine xD 10 rfl (Zc 2 Wl) ?_<;>(refine yD 11 rfl (Zf 2 Ke) fun v16 h=>?_;cases h)<;>refine xD 12 rfl (Zc 3 Wl) ?_<;>(refine yD 13 rfl (Zf 3 Ke) fun v18 h=>?_;cases h)<;>(refine aDr 4 fun bk=>?_)<;>(refine cV (cA call266 (Zng o o')) ?_)<;>refine bE bk ?_<;>(refine aDr 9 fun bk=>?_)<;>(refine cV (cA call267 (Zdk a a')) ?_)<;>refine bE bk ?_<;>(refine aDr 14 fun bk=>?_)<;>(refine cV (cA call268 (Zdl 226 l l' hl hl' call226 (fun x hx y hy=>ih x hx y (hp x hx) (hp' y hy)))) ?_)<;>refine bE bk ?_<;>(refine aDr 15 fun bk=>?_)<;>(refine PF (xs:=[_,_,_]) 20 Zkw fun h20 ho20=>?_;refine Zz (En.freeze (l:=20) (t:=20) rfl rfl) fun _=>?_)<;>refine bE bk ?_<;>(refine aDr 16 fun bk=>?_)<;>(refine cV (cA call141 (Znh [G5 o o',Yc a a',JI l l'] (by simp only [Xh,Xw];omega))) ?_)<;>refine bE bk ?_<;>refine gEx 17 ?_<;>refine Wo ?_
 refine Zg results226 rfl ?_
 rw [Zkx,WG]
def Zca : ∀ (t u:Nd),FitT t->FitT u->AF prog 274 [pTr t,pTr u] (· =Zb (WG t u)):=Nd.ind fun o a l ih u hf hg=>by
 obtain ⟨o',a',l'⟩:=u
 have hl:=hf.len
 have hp:=hf.p
 have hl':=hg.len
 have hp':=hg.p
 simp only [Nd.l] at hl hp hl' hp'
 refine AF.b2 69 func274 rfl ntmps274 (Xa rfl) fun w0 M0 v0 v1 _ _=>?_
 have e0:pTr (.mk o a l)= .agg [Zb o,Zx a, .sl l.length (Z9 l)]:=rfl
 have e1:pTr (.mk o' a' l')= .agg [Zb o',Zx a', .sl l'.length (Z9 l')]:=rfl
 rw [e0,e1]
 refine Zi ?_
 refine Z4 2 3 fun h2=>?_;refine Z4 3 3 fun h3=>?_;refine ZW ?_
 refine xM (Zc 2 K3) ?_;refine yV (Zf 2 Gx) ?_;refine xM (Zc 3 K3) ?_;refine yV (Zf 3 Gx) ?_;refine Wg ?_ ?_<;>intro hb11
 . (
 refine Zi ?_;refine xM (Zc 2 K3) ?_;refine yV (Zf 2 Gx) ?_;refine xM (Zc 3 K3) ?_;refine yV (Zf 3 Gx) ?_;refine Wg ?_ ?_<;>intro hb16
 . (
 refine ZF ?_;refine Zg results274 rfl ?_;rw [WG,or3,G5,Qd hb16,Qd dC])
 refine ZF ?_;refine Zg results274 rfl ?_;rw [WG,or3,G5,Qc hb16,Qd (show o'<o by omega),Qd dC])
 have ho:o=o':=oM;subst ho;have hco:G5 o o=0:=(PL o o).2 rfl;refine Zi ?_;refine xM (Zc 2 K4) ?_;refine yV (Zf 2 Lg) ?_;refine xM (Zc 3 K4) ?_;refine yV (Zf 3 Lg) ?_;refine Wg ?_ ?_<;>intro hb21
 . (
 refine Zi ?_;refine xM (Zc 2 K4) ?_;refine yV (Zf 2 Lg) ?_;refine xM (Zc 3 K4) ?_;refine yV (Zf 3 Lg) ?_;refine Wg ?_ ?_<;>intro hb26
 . (
 refine ZF ?_;refine Zg results274 rfl ?_;rw [WG,or3,hco,Qc dC,Dc.2 (show strLt a a'=true from hb26),Qd dC])
 refine ZF ?_;refine Zg results274 rfl ?_;(have hne:a≠a':=fun h=>by subst h;simp at hb21);have h1:Yc a a'=1:=by
  rcases Si a a' with ⟨h1,_⟩|⟨h1,_⟩|⟨_,_,_,h1,_⟩
  . rw [show strLt a a'=false from hb26] at h1;cases h1
  . exact Qe h1 hne
  exact h1
 rw [WG,or3,hco,Qc dC,h1,Qd dC])
 have ha:a=a':=by
  (have:(a.toList==a'.toList)=true:=by simpa using hb21);exact Y'.1 this
 subst ha;have hca:Yc a a=0:=(Sj a a).2 rfl;(have hct:WG (.mk o a l) (.mk o a l')=JI l l':=by rw [WG,or3,hco,hca,Qc dC,Qc dC]);rw [hct];refine ZF ?_;refine Yl (ι:={k:Nat//k<=l.length/\k<=l'.length/\JI l l'=JI (l.drop k) (l'.drop k)}) (fun k=>⟨[(2,_,_),(3,_,_),(5, .int .i64 k.1,Zb k.1)],[(2,_,_),(3,_,_)]⟩) (fun k=>l.length-k.1) ⟨0,oM,oM,rfl⟩ ?_;rintro ⟨k,hk,hkm,hp3⟩;dsimp only;refine Zi ?_;(refine xL 27 Za (xL 28 (Zc 2 Wl) ?_)<;>refine yU (Zf 2 Ke) fun v29=>?_<;>refine xL 30 (Zu Wa) (xL 31 Yn (xL 32 Za ?_))<;>(refine bLd 32 (fun hb32=>?_) (fun hb32=>?_)<;>refine kZ ?_)<;>(first|refine kL ?_|refine xM (Zc 3 Wl) ?_)<;>(first|refine kL ?_|refine yU (Zf 3 Ke) fun v35=>?_)<;>(first|refine kL ?_|refine xM (Zu Wa) ?_)<;>refine WF ?_)<;>(
 refine cX ?_ ?_<;>intro hb38
 . first |exact bN hb38|(
 obtain ⟨x,hx⟩:=gS l k;obtain ⟨y,hy⟩:=get_some (show k<l'.length by omega);have e1:=Yd hx;have e2:=YF hx;have e3:=Yd hy;have e4:=YF hy;have hd:=Zb9 hx hy;have hxm:=Xb hx;have hym:=Xb hy;refine nav ?_;refine Yx [] [2,3] ?_<;>refine xD 0 rfl (Zc 2 Wl) ?_<;>(refine yD 1 rfl (Zf 2 Ke) fun v42 h=>?_;cases h)<;>refine gDx 2 ?_<;>refine xD 3 rfl (Ze Wa) ?_<;>(refine yD 4 rfl (We WU) fun v45 h=>?_;cases h)<;>refine xD 5 rfl (Zc 3 Wl) ?_<;>(refine yD 6 rfl (Zf 3 Ke) fun v47 h=>?_;cases h)<;>refine gEx 7 ?_<;>refine xE 8 rfl (Ze Wa) ?_<;>(refine yE 9 rfl (We WU) fun v50 h=>?_;cases h)<;>(refine aDr 10 fun bk=>?_)<;>(refine cV (cA call274 (ih x hxm y (hp x hxm) (hp' y hym))) ?_)<;>refine bE bk ?_<;>refine gEx 11 ?_<;>refine Wo ?_;refine Zp ?_;refine Wv ?_ ?_<;>intro hb53
 . (
 refine ZP ?_;refine Zg results274 rfl ?_;rw [hp3,hd,Qd hb53])
 refine YQ ?_;refine Yk (
  ⟨k+1,oM,oM,by rw [hp3,hd,Qc hb53]⟩
  ))
 refine Zi ?_;refine xM (Zc 2 Wl) ?_;refine yU (Zf 2 Ke) fun v56=>?_;refine xL 57 (Zu Wa) (xL 58 (Zc 3 Wl) ?_);refine yU (Zf 3 Ke) fun v59=>?_;refine xL 60 (Zu Wa) (xL 61 Yn ?_);refine ZC ?_ ?_<;>intro hb61
 . (
 refine ZF ?_;refine Zg results274 rfl ?_;rw [hp3,R9 hk hkm oM,Qd oM])
 refine Zi ?_;refine xM (Zc 2 Wl) ?_;refine yU (Zf 2 Ke) fun v63=>?_;refine xL 64 (Zu Wa) (xL 65 (Zc 3 Wl) ?_);refine yU (Zf 3 Ke) fun v66=>?_;refine xL 67 (Zu Wa) (xL 68 G3 ?_);refine ZC ?_ ?_<;>intro hb68
 . (
 refine ZF ?_;refine Zg results274 rfl ?_;rw [hp3,R9 hk hkm oM,Qc oM,Qd oM])
 refine ZF ?_;refine Zg results274 rfl ?_;rw [hp3,R9 hk hkm oM,Qc oM,Qc oM])
def SP (t u:Nd):Bool:=decide (WG t u=0)
def Jm {t u:Nd}:SP t u=true↔t=u:=by unfold SP;rw [U',JJ]
def Pa {t u:Nd} (h:t≠u):SP t u=false:=by
 cases hs:SP t u with
 |false=>rfl
 |true=>exact Qe (Jm.1 hs) h
def Znj {o o':Int} {a a':BA} {l l':List Nd} (h1:o=o') (h2:a=a') (h3:l.length=l'.length) (h4:∀(j:Nat) (x y:Nd),l[j]? =some x->l'[j]? =some y->x=y):Nd.mk o a l=Nd.mk o' a' l':=by
 have:l=l':=by
  apply VT;intro i;rcases XL i l.length with h|h
  . obtain ⟨x,hx⟩:=get_some h;obtain ⟨y,hy⟩:=get_some (show i<l'.length by omega);rw [hx,hy,h4 i x y hx hy]
  rw [X' h,X' oM]
 rw [h1,h2,this]
def Znk : ∀ (t u:Nd),FitT t->FitT u->AF prog 26 [pTr t,pTr u] (· =Zr (SP t u)):=Nd.ind fun o a l ih u hf hg=>by
 obtain ⟨o',a',l'⟩:=u
 have hl:=hf.len
 have hp:=hf.p
 have hl':=hg.len
 have hp':=hg.p
 simp only [Nd.l] at hl hp hl' hp'
 refine AF.b2 46 func26 rfl ntmps26 (Xa rfl) fun w0 M0 v0 v1 _ _=>?_
 have e0:pTr (.mk o a l)= .agg [Zb o,Zx a, .sl l.length (Z9 l)]:=rfl
 have e1:pTr (.mk o' a' l')= .agg [Zb o',Zx a', .sl l'.length (Z9 l')]:=rfl
 rw [e0,e1]
 refine Zi ?_
 refine Z4 2 3 fun h2=>?_;refine Z4 3 3 fun h3=>?_;refine ZW ?_
 (refine xM (Zc 2 K3) ?_<;>refine yV (Zf 2 Gx) ?_<;>refine xM (Zc 3 K3) ?_<;>refine yV (Zf 3 Gx) ?_<;>refine YW ?_<;>(refine bLd 11 (fun hb11=>?_) (fun hb11=>?_)<;>(first|refine kL ?_|refine xM (Zc 2 K4) ?_))<;>(first|refine kL ?_|refine yV (Zf 2 Lg) ?_)<;>(first|refine kL ?_|refine xM (Zc 3 K4) ?_)<;>(first|refine kL ?_|refine yV (Zf 3 Lg) ?_)<;>refine Kg ?_<;>(first|refine kL ?_|(refine bL 18 (fun hb18=>?_) (fun hb18=>?_)<;>(first|refine kL ?_|refine xM (Zc 2 Wl) ?_)))<;>(first|refine kL ?_|refine yU (Zf 2 Ke) fun v20=>?_)<;>(first|refine kL ?_|refine xM (Zu Wa) ?_)<;>(first|refine kL ?_|refine xM (Zc 3 Wl) ?_)<;>(first|refine kL ?_|refine yU (Zf 3 Ke) fun v23=>?_)<;>(first|refine kL ?_|refine xM (Zu Wa) ?_)<;>refine WF ?_)<;>(
 refine cX ?_ ?_<;>intro hb26
 . (
 refine ZF ?_;refine Zg results26 rfl ?_;rw [Pa fun h=>?_];injection h with h1 h2 h3;subst h1 h2 h3
 first
  |omega
  |(simp at hb18;done)
  |(simp at hb26;done))
 . first | exact bN hb26|(
 have ho:o=o':=oM;have ha:a=a':=by
  (have:(a.toList==a'.toList)=true:=by simpa using hb18);exact Y'.1 this
 have hll:l.length=l'.length:=oM;refine ZF ?_;refine Yl (ι:={k:Nat//k<=l.length/\∀j x y,j<k->l[j]? =some x->l'[j]? =some y->x=y}) (fun k=>⟨[(2,_,_),(3,_,_),(5, .int .i64 k.1,Zb k.1)],[(2,_,_),(3,_,_)]⟩) (fun k=>l.length-k.1) ⟨0,oM,oM⟩ ?_;rintro ⟨k,hk,hp3⟩;dsimp only;refine Zi ?_;refine xL 27 Za (xL 28 (Zc 2 Wl) ?_);refine yU (Zf 2 Ke) fun v29=>?_;refine xL 30 (Zu Wa) (xL 31 Yn ?_);refine ZC ?_ ?_<;>intro hb31
 . (
 obtain ⟨x,hx⟩:=gS l k;obtain ⟨y,hy⟩:=get_some (show k<l'.length by omega);have e1:=Yd hx;have e2:=YF hx;have e3:=Yd hy;have e4:=YF hy;have hxm:=Xb hx;have hym:=Xb hy;refine nav ?_;refine Yx [] [2,3] ?_<;>refine xD 0 rfl (Zc 2 Wl) ?_<;>(refine yD 1 rfl (Zf 2 Ke) fun v35 h=>?_;cases h)<;>refine gDx 2 ?_<;>refine xD 3 rfl (Ze Wa) ?_<;>(refine yD 4 rfl (We WU) fun v38 h=>?_;cases h)<;>refine xD 5 rfl (Zc 3 Wl) ?_<;>(refine yD 6 rfl (Zf 3 Ke) fun v40 h=>?_;cases h)<;>refine gEx 7 ?_<;>refine xE 8 rfl (Ze Wa) ?_<;>(refine yE 9 rfl (We WU) fun v43 h=>?_;cases h)<;>(refine aDr 10 fun bk=>?_)<;>(refine cV (cA call26 (ih x hxm y (hp x hxm) (hp' y hym))) ?_)<;>refine bE bk ?_<;>refine gEx 11 ?_<;>refine Wo ?_;refine cX ?_ ?_<;>intro hb45
 . (
 refine ZF ?_;refine Zg results26 rfl ?_;rw [Pa fun h=>?_];injection h with h1 h2 h3;subst h3;rw [hx] at hy
 cases hy;rw [Jm.2 rfl] at hb45
 cases hb45)
 refine YQ ?_;refine Yk (
  ⟨k +1,oM,fun j u v hj hu hv=>by
   by_cases e:j=k
   . subst e;rw [hx] at hu;rw [hy] at hv;cases hu;cases hv;exact Jm.1 (by simpa using hb45)
   . exact hp3 j u v oM hu hv⟩
  ))
 refine ZF ?_;refine Zg results26 rfl ?_;rw [Jm.2 (Znj ho ha hll fun j u v hu hv=>hp3 j u v (by have:=Zd hu;omega) hu hv)]))
def nd0:Nd:= .mk 0 ByteArray.empty []
def TI:FitT nd0:= .mk _ (Xg _) (Xg _) dC dC (fun x hx=>by cases hx)
def JA:PV:= .agg [.val (.int .i64 0), .val (.string ByteArray.empty), .val (.slice none 0 0)]
def Lh:Rr JA (pTr nd0):=Rr.agg rfl fun i a b ha hb=>by
 match i with
 |0=>cases ha;cases hb;exact Rr.rfl' _
 |1=>cases ha;cases hb;exact Rr.rfl' _
 |2=>cases ha;cases hb;exact Rr.nil
 |i+3=>simp at ha
def ZeU {o o':Int} {a a':BA} {l l':List Nd} (h1:o=o') (h2:a=a'):SP (.mk 0 ByteArray.empty l) (.mk 0 ByteArray.empty l')=SP (.mk o a l) (.mk o' a' l'):=by
 subst h1 h2
 rw [VI,Jm,Jm]
 exact ⟨fun h=>by injection h with h1 h2 h3;rw [h3],fun h=>by injection h with h1 h2 h3;rw [h3]⟩
def Zg9 (f :Nat) (l m:List Nd) (hl:l.length<=140737488355328) (hm:m.length<=140737488355328) (hc:∀args w,(callFunc f args).run prog w= .ok (.enter f args) w) (hf:∀x∈l,∀y∈m,AF prog f [pTr x,pTr y] (· =Zr (SP x y))):AF prog 269 [YJ l,YJ m, .fn f []] (· =Zr (SP (.mk 0 ByteArray.empty l) (.mk 0 ByteArray.empty m))):=by
 refine AF.b3 32 func269 rfl ntmps269 (Xa rfl) fun w0 M0 v0 v1 v2 _ _ _=>?_
 refine WK ?_
 refine xL 10 Za (xL 11 (Zu Wa) (xL 12 Za (xL 13 (Zu Wa) (xL 14 T' ?_))));refine ZC ?_ ?_<;>intro hb14
 . (
 refine ZF ?_;refine Zg results269 rfl ?_;rw [Pa fun h=>?_];injection h with h1 h2 h3;subst h3;omega)
 have hll:l.length=m.length:=oM;refine Zi ?_;refine xL 15 Za (xL 16 (Zu Wa) (xL 17 Za ?_));refine ZZ ?_;refine Y0 (ι:={k:Nat//k<=l.length/\∀j x y,j<k->l[j]? =some x->m[j]? =some y->x=y}) (fun k=>⟨[(1,_,_),(2,_,_),(15,_,_),(16,_,_),(17, .int .i64 k.1,Zb k.1)],[]⟩) (fun k=>l.length-k.1) ⟨0,oM,oM⟩ (fun a w H=>H.weaken sB trivial) ?_;rintro ⟨k,hk,hp3⟩;dsimp only;refine Ys ?_ ?_<;>intro hb18
 . (
 obtain ⟨x,hx⟩:=gS l k;obtain ⟨y,hy⟩:=gS m k;have e1:=Yd hx;have e2:=YF hx;have e3:=Yd hy;have e4:=YF hy;refine Zi ?_;refine xL 19 Za (xL 20 (Ze Wa) ?_);refine yU (We WU) fun v21=>?_;refine Zt zT 3 8 De fun h8=>?_;refine YU ?_;refine Zn 8 WU ?_;refine YT ?_;refine xL 22 Za (xL 23 Za (xL 24 (Ze Wa) ?_));refine yU (We WU) fun v25=>?_;refine Zt zT 3 9 De fun h9=>?_;refine Zn 9 WU ?_;refine YT ?_;refine YU ?_;refine yU (Zm 8 WU) fun v27=>?_;refine yU (Zm 9 WU) fun v28=>?_;refine cV (LW (f:=f) (ps:=[]) rfl ⟨_,rfl⟩ hc rfl (hf x (Xb hx) y (Xb hy))) ?_;refine Wg ?_ ?_<;>intro hb30
 . (
 refine ZF ?_;refine Zg results269 rfl ?_;rw [Pa fun h=>?_];injection h with h1 h2 h3;subst h3;rw [hx] at hy
 cases hy;rw [Jm.2 rfl] at hb30
 cases hb30)
 refine ZP ?_;refine Zh (
  ⟨k +1,oM,fun j u v hj hu hv=>by
   by_cases e:j=k
   . subst e;rw [hx] at hu;rw [hy] at hv;cases hu;cases hv;exact Jm.1 (by simpa using hb30)
   . exact hp3 j u v oM hu hv⟩
  ) (by dsimp only;omega) sB trivial)
 refine ZF ?_;refine Zg results269 rfl ?_;rw [Jm.2 (Znj rfl rfl hll fun j u v hu hv=>hp3 j u v (by have:=Zd hu;omega) hu hv)]
def Zp8:∀(t u:Nd),FitT t->FitT u->AF prog 228 [pTr t,pTr u] (· =Zr (SP t u)):=Nd.ind fun o a l ih u hf hg=>by
 obtain ⟨o',a',l'⟩:=u
 have hl:=hf.len
 have hp:=hf.p
 have hl':=hg.len
 have hp':=hg.p
 simp only [Nd.l] at hl hp hl' hp'
 refine AF.b2 24 func228 rfl ntmps228 (Xa rfl) fun w0 M0 v0 v1 _ _=>?_
 have e0:pTr (.mk o a l)= .agg [Zb o,Zx a, .sl l.length (Z9 l)]:=rfl
 have e1:pTr (.mk o' a' l')= .agg [Zb o',Zx a', .sl l'.length (Z9 l')]:=rfl
 rw [e0,e1]
 refine Zi ?_
 refine Z4 2 3 fun h2=>?_;refine Z4 3 3 fun h3=>?_;refine ZW ?_
 (refine xM (Zc 2 K3) ?_<;>refine yV (Zf 2 Gx) ?_<;>refine xM (Zc 3 K3) ?_<;>refine yV (Zf 3 Gx) ?_<;>refine YW ?_<;>(refine bLd 10 (fun hb10=>?_) (fun hb10=>?_)<;>(first|refine kL ?_|refine xM (Zc 2 K4) ?_))<;>(first|refine kL ?_|refine yV (Zf 2 Lg) ?_)<;>(first|refine kL ?_|refine xM (Zc 3 K4) ?_)<;>(first|refine kL ?_|refine yV (Zf 3 Lg) ?_)<;>refine Kg ?_<;>(first|refine kL ?_|(refine bL 17 (fun hb17=>?_) (fun hb17=>?_)<;>(first|refine kL ?_|refine xM (Zc 2 Wl) ?_)))<;>(first|refine kL ?_|refine yU (Zf 2 Ke) fun v19=>?_)<;>(first|refine kL ?_|refine xM (Zc 3 Wl) ?_)<;>(first|refine kL ?_|refine yU (Zf 3 Ke) fun v21=>?_)<;>(first|refine kL ?_|(refine cV (cA call269 (Zg9 228 l l' hl hl' call228 (fun x hx y hy=>ih x hx y (hp x hx) (hp' y hy)))) ?_))<;>refine W2 ?_)<;>(
 refine Zg results228 rfl ?_
 first
  |(rw [Pa fun h=>by injection h with h1 h2 h3;omega];done)
  |(rw [Pa fun h=>by injection h with h1 h2 h3;subst h2;simp at hb17];done)
  |(rw [ZeU hb10 (Y'.1 hb17)];done))
section
variable {α:Type}
def swp (l:List α) (i j:Nat):List α:=match l[i]?,l[j]? with
 |some x,some y=>(l.set i y).set j x
 |_,_=>l
def Znl {l:List α} {i j:Nat} {x y:α} (hi:l[i]? =some x) (hj:l[j]? =some y):swp l i j=(l.set i y).set j x:=by unfold swp;rw [hi,hj]
def Zp9 (l:List α) (i j:Nat):(swp l i j).length=l.length:=by unfold swp;split<;>simp
def Df {l:List α} {i j:Nat} (hi:i<l.length) (hj:j<l.length) (k:Nat):(swp l i j)[k]? =if k=j then l[i]? else if k=i then l[j]? else l[k]? :=by
 rw [Znl (Xr hi) (Xr hj),List.getElem?_set,List.getElem?_set,Xm]
 by_cases h1:k=j
 . subst h1;simp [hj,Xr hi]
 rw [Qc (fun h=>h1 h.symm),Qc h1];by_cases h2:k=i
 . subst h2;simp [hi,Xr hj]
 rw [Qc (fun h=>h2 h.symm),Qc h2]
def Znm (l:List α) (i j:Nat):(swp l i j).Perm l:=by
 unfold swp
 split
 . rename_i x y hx hy;obtain ⟨hi,rfl⟩:=Xk.1 hx;obtain ⟨hj,rfl⟩:=Xk.1 hy;exact List.set_set_perm hi hj
 exact List.Perm.refl _
inductive Sw (a b:Nat):List α->List α->Prop
 |refl (l:List α):Sw a b l l
 |step {l m:List α} (i j:Nat) (h:Sw a b l m) (hi:a<=i) (hi':i<b) (hj:a<=j) (hj':j<b) (hb:b<=l.length):Sw a b l (swp m i j)
def Sw.len {a b:Nat} {l m:List α} (h:Sw a b l m):m.length=l.length:=by
 induction h with
 |refl=>rfl
 |step i j h _ _ _ _ _ ih=>rw [Zp9,ih]
def Sw.perm {a b:Nat} {l m:List α} (h:Sw a b l m):m.Perm l:=by
 induction h with
 |refl=>exact List.Perm.refl _
 |step i j h _ _ _ _ _ ih=>exact (Znm _ _ _).trans ih
def Sw.out {a b:Nat} {l m:List α} (h:Sw a b l m) {k:Nat} (hk:k<a\/b<=k):m[k]? =l[k]? :=by
 induction h with
 |refl=>rfl
 | step i j h hi hi' hj hj' hb ih=>
   rw [Df (by rw [h.len];omega) (by rw [h.len];omega),Qc oM,Qc oM,ih]
def Sw.mem {a b:Nat} {l m:List α} (h:Sw a b l m):∀{k:Nat} {x:α},a<=k->k<b->m[k]? =some x->∃k',a<=k'/\k'<b/\l[k']? =some x:=by
 induction h with
 |refl=>exact fun h1 h2 h3=>⟨_,h1,h2,h3⟩
 | step i j h hi hi' hj hj' hb ih=>
   intro k x h1 h2 h3;rw [Df (by rw [h.len];omega) (by rw [h.len];omega)] at h3;split at h3
   . exact ih hi hi' h3
   split at h3
   . exact ih hj hj' h3
   exact ih h1 h2 h3
def Sw.mono {a b a' b':Nat} {l m:List α} (h:Sw a b l m) (ha:a'<=a) (hb:b<=b') (hl:b'<=l.length):Sw a' b' l m:=by
 induction h with
 |refl=>exact .refl _
 |step i j h hi hi' hj hj' hb' ih=>exact .step i j ih oM oM oM oM hl
def Sw.trans {a b:Nat} {l m n:List α} (h:Sw a b l m) (h':Sw a b m n):Sw a b l n:=by
 induction h' with
 |refl=>exact h
 |step i j h2 hi hi' hj hj' hb ih=>exact .step i j ih hi hi' hj hj' (by rw [<-h.len];exact hb)
variable (le:α->α->Prop)
def SrtS (a b:Nat) (l:List α):Prop:=∀i j x y,a<=i->i<j->j<b->l[i]? =some x->l[j]? =some y->le x y
def SrtS.sub {a b a' b':Nat} {l:List α} (h:SrtS le a b l) (ha:a<=a') (hb:b'<=b):SrtS le a' b' l:=fun i j x y h1 h2 h3=>h i j x y oM h2 oM
def SrtS.small {a b:Nat} (l:List α) (h:b<=a+1):SrtS le a b l:=fun i j x y h1 h2 h3=>oM
def SrtS.ext {a b:Nat} {l m:List α} (h:SrtS le a b l) (he:∀k,a<=k->k<b->m[k]? =l[k]?):SrtS le a b m:=fun i j x y h1 h2 h3 hx hy=>h i j x y h1 h2 h3 (by rw [<-he i oM oM];exact hx) (by rw [<-he j oM oM];exact hy)
def SrtS.eqv (hr:∀x,le x x) {a b:Nat} {l:List α} (h:SrtS le a b l) {i j:Nat} {x y:α} (h1:a<=i) (h2:i<=j) (h3:j<b) (hx:l[i]? =some x) (hy:l[j]? =some y):le x y:=by
 rcases XL i j with h4|h4
 . exact h i j x y h1 h4 h3 hx hy
 have:i=j:=oM;subst this;rw [hx] at hy;cases hy;exact hr x
def Znn (a i j:Nat) (l:List α):Prop:=(∀p q x y,a<=p->p<q->q<=i->p≠j->q≠j->l[p]? =some x->l[q]? =some y->le x y)/\(∀q x y,j<q->q<=i->l[j]? =some x->l[q]? =some y->le x y)
def Zky {a i:Nat} {l:List α} (h:SrtS le a i l):Znn le a i i l:=⟨fun p q x y h1 h2 h3 h4 h5=>h p q x y h1 h2 oM,fun q x y h1 h2=>oM⟩
def Zno {a i j:Nat} {l:List α} (h:Znn le a i (j+1) l) (ha:a<=j) (hi:j+1<=i) (hl:i<l.length) {x y:α} (hx:l[j+1]? =some x) (hy:l[j]? =some y) (hle:le x y):Znn le a i j (swp l (j+1) j):=by
 have hg:=Df (l:=l) (i:=j+1) (j:=j) oM oM
 refine ⟨fun p q u v h1 h2 h3 h4 h5 hu hv=>?_,fun q u v h1 h2 hu hv=>?_⟩
 . rw [hg] at hu hv;rw [Qc h4] at hu;rw [Qc h5] at hv;by_cases e1:p=j+1
   . rw [Qd e1] at hu;rw [Qc oM] at hv;exact h.1 j q u v ha oM h3 oM oM hu hv
   rw [Qc e1] at hu;by_cases e2:q=j+1
   . rw [Qd e2] at hv;exact h.1 p j u v h1 oM oM oM oM hu hv
   rw [Qc e2] at hv;exact h.1 p q u v h1 h2 h3 oM oM hu hv
 rw [hg,Qd rfl] at hu;rw [hg,Qc oM] at hv;by_cases e2:q=j+1
 . rw [Qd e2] at hv;rw [hu] at hx;rw [hv] at hy;cases hx;cases hy;exact hle
 rw [Qc e2] at hv;exact h.2 q u v oM h2 hu hv
def ZiI (hr:∀x,le x x) (ht:∀x y z,le x y->le y z->le x z) {a i j:Nat} {l:List α} (h:Znn le a i j l) (hj:a<=j) (hji:j<=i) (hl:i<l.length) (he:j=a\/∃k x y,j=k+1/\l[k]? =some x/\l[j]? =some y/\le x y):SrtS le a (i+1) l:=by
 intro p q x y h1 h2 h3 hx hy
 by_cases e1:p=j
 . subst e1;exact h.2 q x y h2 oM hx hy
 by_cases e2:q=j
 . subst e2;rcases he with he|⟨k,u,v,he,hu,hv,hle⟩
   . omega
   rw [hy] at hv;cases hv;by_cases e3:p=k
   . subst e3;rw [hx] at hu;cases hu;exact hle
   exact ht _ _ _ (h.1 p k x u h1 oM oM e1 oM hx hu) hle
 exact h.1 p q x y h1 h2 oM e1 e2 hx hy
def Mov (a b k i:Nat) (l:List α):Prop:=(∀p q x y,a<=p->p<q->q<b->p≠k->q≠k->l[p]? =some x->l[q]? =some y->le x y)/\∀q x y,a<=q->q<b->q≠k->l[k]? =some x->l[q]? =some y->if q<i then le y x else le x y
def Zkz {a b k i:Nat} {l:List α} (h:Mov le a b k i l) (ha:a<=k) (hk:k+1<i) (hi:i<=b) (hl:b<=l.length):Mov le a b (k+1) i (swp l k (k+1)):=by
 have hg:=Df (l:=l) (i:=k) (j:=k+1) oM oM
 refine ⟨fun p q u v h1 h2 h3 h4 h5 hu hv=>?_,fun q u v h1 h2 h3 hu hv=>?_⟩
 . rw [hg,Qc h4] at hu;rw [hg,Qc h5] at hv;by_cases e1:p=k
   . rw [Qd e1] at hu;rw [Qc oM] at hv;exact h.1 (k+1) q u v oM oM h3 oM oM hu hv
   rw [Qc e1] at hu;by_cases e2:q=k
   . rw [Qd e2] at hv;exact h.1 p (k+1) u v h1 oM oM oM oM hu hv
   rw [Qc e2] at hv;exact h.1 p q u v h1 h2 h3 e1 e2 hu hv
 rw [hg,Qd rfl] at hu;rw [hg,Qc h3] at hv;by_cases e2:q=k
 . rw [Qd e2] at hv;have:=h.2 (k+1) u v oM oM oM hu hv;rw [Qd oM] at this;rw [Qd oM];exact this
 rw [Qc e2] at hv;exact h.2 q u v h1 h2 e2 hu hv
def ZbA {a b k i:Nat} {l:List α} (h:Mov le a b k i l) (hk:i=k+1):SrtS le a b l:=by
 intro p q x y h1 h2 h3 hx hy
 by_cases e1:p=k
 . subst e1;have:=h.2 q x y oM h3 oM hx hy;rw [Qc oM] at this;exact this
 by_cases e2:q=k
 . subst e2;have:=h.2 p y x h1 oM oM hy hx;rw [Qd oM] at this;exact this
 exact h.1 p q x y h1 h2 h3 e1 e2 hx hy
def Znp {a b k i:Nat} {l:List α} (h:Mov le a b (k+1) i l) (hi:a<=i) (hik:i<=k) (hk:k+1<b) (hl:b<=l.length):Mov le a b k i (swp l (k+1) k):=by
 have hg:=Df (l:=l) (i:=k+1) (j:=k) oM oM
 refine ⟨fun p q u v h1 h2 h3 h4 h5 hu hv=>?_,fun q u v h1 h2 h3 hu hv=>?_⟩
 . rw [hg,Qc h4] at hu;rw [hg,Qc h5] at hv;by_cases e1:p=k+1
   . rw [Qd e1] at hu;rw [Qc oM] at hv;exact h.1 k q u v oM oM h3 oM oM hu hv
   rw [Qc e1] at hu;by_cases e2:q=k+1
   . rw [Qd e2] at hv;exact h.1 p k u v h1 oM oM oM oM hu hv
   rw [Qc e2] at hv;exact h.1 p q u v h1 h2 h3 e1 e2 hu hv
 rw [hg,Qd rfl] at hu;rw [hg,Qc h3] at hv;by_cases e2:q=k+1
 . rw [Qd e2] at hv;have:=h.2 k u v oM oM oM hu hv;rw [Qc oM] at this;rw [Qc oM];exact this
 rw [Qc e2] at hv;exact h.2 q u v h1 h2 e2 hu hv
def Zdm {a b k:Nat} {l:List α} (h:Mov le a b k k l):SrtS le a b l:=by
 intro p q x y h1 h2 h3 hx hy
 by_cases e1:p=k
 . subst e1;have:=h.2 q x y oM h3 oM hx hy;rw [Qc oM] at this;exact this
 by_cases e2:q=k
 . subst e2;have:=h.2 p y x h1 oM oM hy hx;rw [Qd oM] at this;exact this
 exact h.1 p q x y h1 h2 h3 e1 e2 hx hy
def ZkA {a b i:Nat} {l:List α} (hs:SrtS le (a+1) b l) (hi:a+1<=i) (h1:∀q x y,a+1<=q->q<i->l[a]? =some x->l[q]? =some y->le y x) (h2:∀q x y,i<=q->q<b->l[a]? =some x->l[q]? =some y->le x y):Mov le a b a i l:=
 ⟨fun p q x y h3 h4 h5 h6 h7=>hs p q x y oM h4 h5,fun q x y h3 h4 h5 hx hy=>by
  by_cases h6:q<i
  . rw [Qd h6];exact h1 q x y oM h6 hx hy
  . rw [Qc h6];exact h2 q x y oM h4 hx hy⟩
def Znq {a m i:Nat} {l:List α} (hs:SrtS le a m l) (hi:i<=m) (h1:∀q x y,a<=q->q<i->l[m]? =some x->l[q]? =some y->le y x) (h2:∀q x y,i<=q->q<m->l[m]? =some x->l[q]? =some y->le x y):Mov le a (m+1) m i l:=
 ⟨fun p q x y h3 h4 h5 h6 h7=>hs p q x y h3 h4 oM,fun q x y h3 h4 h5 hx hy=>by
  by_cases h6:q<i
  . rw [Qd h6];exact h1 q x y h3 h6 hx hy
  . rw [Qc h6];exact h2 q x y oM oM hx hy⟩
def PP (a m b k:Nat):Nat:=if k<a\/b<=k then k else if k-a<b-m then m+(k-a) else a+(k-a-(b-m))
def srI (a b n k:Nat):Nat:=if a<=k/\k<a+n then b+(k-a) else if b<=k/\k<b+n then a+(k-b) else k
def Znr {m i j k:Nat} (hij:j<i) (him:i<=m):srI (m-i) m j (PP (m-i+j) m (m+j) k)=PP (m-i) m (m+j) k:=by
 unfold PP srI
 (repeat' split)<;>omega
def Zns {m i j k:Nat} (hij:i<j) (him:i<=m):srI (m-i) (m+j-i) i (PP (m-i) m (m+j-i) k)=PP (m-i) m (m+j) k:=by
 unfold PP srI
 (repeat' split)<;>omega
def Zsd {m i k:Nat} (him:i<=m):srI (m-i) m i k=PP (m-i) m (m+i) k:=by
 unfold PP srI
 split<;>split<;>(try split)<;>(try split)<;>omega
def Zqa {l l0:List α} {a b i n:Nat} (hi:i<n) (hab:a+n<=b) (hb:b+n<=l.length) (h:∀k,l[k]? =l0[srI a b i k]?):∀k,(swp l (a+i) (b+i))[k]? =l0[srI a b (i+1) k]? :=by
 intro k
 rw [Df oM oM,h,h,h]
 unfold srI
 by_cases e1:k=b+i
 . subst e1;rw [Qd rfl,Qc oM,Qc oM,Qc oM,Qd oM];congr 1;omega
 rw [Qc e1];by_cases e2:k=a+i
 . subst e2;rw [Qd rfl,Qc oM,Qc oM,Qd oM];congr 1;omega
 rw [Qc e2];congr 1;split<;>split<;>(try split)<;>(try split)<;>omega
def Zqb (a b k:Nat):srI a b 0 k=k:=by unfold srI;split<;>(try split)<;>omega
def Thr (lo hi p s r:Nat) (l:List α):Prop:=lo<=s/\s<=r/\r<=hi/\(∀c x y,lo<=c->c<s->l[c]? =some x->l[p-c]? =some y->le x y)/\(∀c x y,r<=c->c<hi->l[c]? =some x->l[p-c]? =some y->le y x)
def ZkB {lo hi p:Nat} (l:List α) (h:lo<=hi):Thr le lo hi p lo hi l:=⟨Xd _,h,Xd _,fun c x y h1 h2=>oM,fun c x y h1 h2=>oM⟩
section
variable {le}
def Znt (hr:∀x,le x x) (ht:∀x y z,le x y->le y z->le x z) {a m b lo hi p s r c:Nat} {l:List α} (h:Thr le lo hi p s r l) (h1:SrtS le a m l) (h2:SrtS le m b l) (hc:s<=c) (hc':c<r) (hlo:a<=lo) (hhi:hi<=m) (hp:p<lo+b) (hp':m+hi<=p+1) (hb:b<=l.length) {x y:α} (hx:l[c]? =some x) (hy:l[p-c]? =some y) (hle:le x y):Thr le lo hi p (c+1) r l:=by
 obtain ⟨e1,e2,e3,e4,e5⟩:=h
 refine ⟨oM,oM,e3,fun k u v k1 k2 hu hv=>?_,e5⟩
 have a1:le u x:=h1.eqv le hr oM (show k<=c by omega) oM hu hx
 have a2:le y v:=h2.eqv le hr oM (show p-c<=p-k by omega) oM hy hv
 exact ht _ _ _ a1 (ht _ _ _ hle a2)
def ZeV (hr:∀x,le x x) (ht:∀x y z,le x y->le y z->le x z) {a m b lo hi p s r c:Nat} {l:List α} (h:Thr le lo hi p s r l) (h1:SrtS le a m l) (h2:SrtS le m b l) (hc:s<=c) (hc':c<r) (hlo:a<=lo) (hhi:hi<=m) (hp:p<lo+b) (hp':m+hi<=p+1) (hb:b<=l.length) {x y:α} (hx:l[c]? =some x) (hy:l[p-c]? =some y) (hle:le y x):Thr le lo hi p s c l:=by
 obtain ⟨e1,e2,e3,e4,e5⟩:=h
 refine ⟨e1,oM,oM,e4,fun k u v k1 k2 hu hv=>?_⟩
 have a1:le x u:=h1.eqv le hr oM (show c<=k by omega) oM hx hu
 have a2:le v y:=h2.eqv le hr oM (show p-k<=p-c by omega) oM hv hy
 exact ht _ _ _ a2 (ht _ _ _ hle a1)
def loM (a m b:Nat):Nat:=if (a+b) / 2<m then (a+b) / 2+m-b else a
def hiM (a m b:Nat):Nat:=if (a+b) / 2<m then (a+b) / 2 else m
def Znu {a m b:Nat} (h1:a<m) (h2:m<b):a<=loM a m b/\loM a m b<=hiM a m b/\hiM a m b<=m/\(a+b) / 2+m-1<loM a m b+b/\m+hiM a m b<=(a+b) / 2+m-1+1/\loM a m b<=m/\hiM a m b<=(a+b) / 2:=by
 unfold loM hiM;split<;>omega
def ZkC (hr:∀x,le x x) (ht:∀x y z,le x y->le y z->le x z) {a m b s:Nat} {l l1:List α} (ham:a<m) (hmb:m<b) (hb:b<=l.length) (h1:SrtS le a m l) (h2:SrtS le m b l) (h:Thr le (loM a m b) (hiM a m b) ((a+b) / 2+m-1) s s l)
 (hrot:∀k,l1[k]? =l[PP s m ((a+b) / 2+m-s) k]?):
 SrtS le a s l1/\SrtS le s ((a+b) / 2) l1/\SrtS le ((a+b) / 2) ((a+b) / 2+m-s) l1/\SrtS le ((a+b) / 2+m-s) b l1/\a<=s/\s<=(a+b) / 2/\(a+b) / 2<=(a+b) / 2+m-s/\(a+b) / 2+m-s<=b/\
 ∀p q x y,a<=p->p<(a+b) / 2->(a+b) / 2<=q->q<b->l1[p]? =some x->l1[q]? =some y->le x y:=by
 obtain ⟨o1,o2,o3,o4,o5,o6,o7⟩:=Znu ham hmb
 obtain ⟨e1,e2,e3,e4,e5⟩:=h
 have hM1:a<=(a+b) / 2:=oM
 have hM2:(a+b) / 2<b:=oM
 have hend:loM a m b=a\/loM a m b=(a+b) / 2+m-b:=by unfold loM;split<;>simp
 have hhi:hiM a m b=m\/hiM a m b=(a+b) / 2:=by unfold hiM;split<;>simp
 have hlohi:(loM a m b=a/\hiM a m b=m)\/(loM a m b=(a+b) / 2+m-b/\hiM a m b=(a+b) / 2/\(a+b) / 2<m):=by unfold loM hiM;split<;>omega
 generalize hmid:(a+b) / 2=mid at*
 have hsm:s<=m:=oM
 have hsmid:s<=mid:=oM
 have hE1:mid+m-s<=b:=oM
 have g1:∀k,k<s->l1[k]? =l[k]? :=fun k hk=>by rw [hrot];congr 1;unfold PP;rw [Qd oM]
 have g2:∀k,s<=k->k<mid->l1[k]? =l[m+(k-s)]? :=fun k hk hk'=>by rw [hrot];congr 1;unfold PP;rw [Qc oM,Qd oM]
 have g3:∀k,mid<=k->k<mid+m-s->l1[k]? =l[s+(k-mid)]? :=fun k hk hk'=>by rw [hrot];congr 1;unfold PP;rw [Qc oM,Qc oM];omega
 have g4:∀k,mid+m-s<=k->l1[k]? =l[k]? :=fun k hk=>by rw [hrot];congr 1;unfold PP;rw [Qd oM]
 refine ⟨?_,?_,?_,?_,oM,oM,oM,hE1,?_⟩
 . exact (h1.sub le (Xd _) hsm).ext le fun k h3 h4=>g1 k h4
 . intro i j x y k1 k2 k3 hx hy;rw [g2 i k1 oM] at hx;rw [g2 j oM k3] at hy;exact h2 _ _ x y oM oM oM hx hy
 . intro i j x y k1 k2 k3 hx hy;rw [g3 i k1 oM] at hx;rw [g3 j oM k3] at hy;exact h1 _ _ x y oM oM oM hx hy
 . exact (h2.sub le oM (Xd _)).ext le fun k h3 h4=>g4 k h3
 intro p q x y k1 k2 k3 k4 hx hy;rcases XL p s with hp|hp
 . rw [g1 p hp] at hx;rcases XL q (mid+m-s) with hq|hq
   . rw [g3 q k3 hq] at hy;exact h1 _ _ x y k1 oM oM hx hy
   rw [g4 q hq] at hy;have hlo:loM a m b<s:=by
    rcases XL (loM a m b) s with h6|h6
    . exact h6
    omega
   obtain ⟨u,hu⟩:∃u,l[s-1]? =some u:=⟨_,Xr oM⟩;obtain ⟨v,hv⟩:∃v,l[mid+m-s]? =some v:=⟨_,Xr oM⟩;have a1:le x u:=h1.eqv le hr k1 (show p<=s-1 by omega) oM hx hu;have a2:le u v:=e4 (s-1) u v oM oM hu (by rw [<-hv];congr 1;omega);have a3:le v y:=h2.eqv le hr oM hq k4 hv hy;exact ht _ _ _ a1 (ht _ _ _ a2 a3)
 rw [g2 p hp k2] at hx;rcases XL q (mid+m-s) with hq|hq
 . rw [g3 q k3 hq] at hy;have hhi2:s<hiM a m b:=by
    rcases XL s (hiM a m b) with h6|h6
    . exact h6
    omega
   obtain ⟨u,hu⟩:∃u,l[mid+m-s-1]? =some u:=⟨_,Xr oM⟩;obtain ⟨v,hv⟩:∃v,l[s]? =some v:=⟨_,Xr oM⟩;have a1:le x u:=h2.eqv le hr oM (show m+(p-s)<=mid+m-s-1 by omega) oM hx hu;have a2:le u v:=e5 s v u (Xd _) hhi2 hv (by rw [<-hu];congr 1;omega);have a3:le v y:=h1.eqv le hr oM (show s<=s+(q-mid) by omega) oM hv hy;exact ht _ _ _ a1 (ht _ _ _ a2 a3)
 rw [g4 q hq] at hy;exact h2 _ _ x y oM oM k4 hx hy
def PQ {a mid b:Nat} {l1 l2 l3:List α} (h1:a<=mid) (h2:mid<=b) (hb:b<=l1.length) (hc:∀p q x y,a<=p->p<mid->mid<=q->q<b->l1[p]? =some x->l1[q]? =some y->le x y) (s1:Sw a mid l1 l2) (s2:Sw mid b l2 l3) (g1:SrtS le a mid l2) (g2:SrtS le mid b l3):SrtS le a b l3:=by
 intro i j x y k1 k2 k3 hx hy
 rcases XL j mid with hj|hj
 . rw [s2.out (.inl oM)] at hx hy;exact g1 i j x y k1 k2 hj hx hy
 rcases XL i mid with hi|hi
 . rw [s2.out (.inl hi)] at hx;obtain ⟨p,p1,p2,p3⟩:=s1.mem k1 hi hx;obtain ⟨q,q1,q2,q3⟩:=s2.mem hj k3 hy;rw [s1.out (.inr q1)] at q3;exact hc p q x y p1 p2 q1 q2 p3 q3
 exact g2 i j x y hi k2 k3 hx hy
end
end
end Go.Proofs.YtmkojdfiadbeeaaGreat
namespace Go.En
open Go.RowKit Go.Cb
section
variable {P:Program} {st:St} {o:Oper}
end
section
variable {P:Program} {st:St} {o:Oper} {x y:Operand} {q q':PV} {t t':TypeId}
def Ztc {kd:IntKind} {a b:Int} (ho:o.op= .binOp .rem t x y t':=by exact rfl) (hx:ev st.slots x=some (.int kd a,q):=by exact rfl) (hy:ev st.slots y=some (.int kd b,q'):=by exact rfl) (hb:b≠0:=by first|decide|omega):YE P st o (· = .int kd (a.tmod b)) (.val (.int kd (a.tmod b))):=
 y2 hx hy fun ρ w h3 h4=>by
  simp [execOp,ho,h3,h4,eqGuard,binOp,Op.intDiv,hb]
end
section
variable {P:Program} {st:St} {o:Oper}
def Zdn {x y:Operand} {q q':PV} {t t':TypeId} {k:IntKind} {a:Int} (ho:o.op= .binOp .eql t x y t':=by exact rfl) (hx:ev st.slots x=some (.int k a,q):=by exact rfl) (hy:ev st.slots y=some (.int k a,q'):=by exact rfl):YE P st o (· = .bool true) (.val (.bool true)):=by
 have h:=Jb (P:=P) ho hx hy
 rwa [Qa rfl] at h
end
