/-
  Walks and laws.
-/
import Derived.Test.YtmkojdfiadbeeaaGreatPn11
import Derived.Test.YtmkojdfiadbeeaaGreatPn08
import Derived.Test.YtmkojdfiadbeeaaGreatPn01
set_option linter.all false
set_option maxRecDepth 100000
set_option maxHeartbeats 0
namespace Go.Proofs.YtmkojdfiadbeeaaGreat
open Go.RowKit Go.Cb Go.En Tryz
section
variable {P:Program} {o:Oper} {st:St}
end
def Zpr (s:BA):Bool:=decide ((100:Int)<(s.size:Int))
def Zbt (x:Var):Bool:=decide ((20:Int)<(x.acts.length:Int))||x.acts.any Zpr
def ZjU (l:List Var):Bool:=decide ((12:Int)<(l.length:Int))||l.any Zbt
def Zps {l:List Var} (h:ZjU l=false):l.length<=12/\sumV (fun x=>x.acts.length) l<=300:=by
 unfold ZjU at h
 rw [UD] at h
 have h1:=Qg h.1
 refine ⟨oM,?_⟩
 have h2:=ZjI (l:=l) (g:=fun x=>(x.acts.length:Int)) (b:=20) fun x hx=>by
  have h3:=Ux.1 h.2 x hx;unfold Zbt at h3;rw [U2,UD] at h3;have h4:=Qg h3.1;show (x.acts.length:Int)<=20;omega
 omega
def Zmt {t:Nd} (h:FitT t):AF prog 26 [pTr t,pTr t] (· =Zr true):=by
 have h1:=Znk t t h h
 rwa [Jm.2 rfl] at h1
def Zpt (s:BA):AF prog 28 [Zx s] (· =Zr (Zpr s)):=by
 refine AF.b1 6 func28 rfl ntmps28 (Xa rfl) ?_
 rintro w0 M0 _ rfl
 refine WK ?_
 refine xL 3 Za (xL 4 (Ou underlying9) (xL 5 G3 (xL 2 Wj ?_)));refine ZZ ?_
 exact Zg results28 rfl rfl
def Zmu (x:Var):AF prog 75 [.agg (YL x)] (· =Zr (Zbt x)):=by
 refine AF.b1 12 func75 rfl ntmps75 (Xa rfl) fun w0 M0 v0 _=>?_
 refine Zi ?_
 refine Z4 1 2 fun h1=>?_;refine ZW ?_
 (refine xM (Zc 1 Z8) ?_<;>refine yU (Zf 1 ZG) fun v4=>?_<;>refine xL 5 (Zu Zo) (xL 6 G3 (xL 7 Za ?_))<;>(refine bLd 7 (fun hb7=>?_) (fun hb7=>?_)<;>(first|refine kL ?_|refine xM (Zc 1 Z8) ?_))<;>(first|refine kL ?_|refine yU (Zf 1 ZG) fun v9=>?_)<;>(first|refine kL ?_|(refine cV (cA call27 (Ta 28 [] Zpr x.acts call28 (fun s _=>Zpt s))) ?_))<;>refine W2 ?_)<;>(
 refine Zg results75 rfl ?_;show Zr _=Zr _;unfold Zbt
 first|rw [Qa hb7]|rw [Qb hb7]
 simp)
def Zpu (l:List Var):AF prog 23 [ZV l] (· =Zr (ZjU l)):=by
 refine AF.b1 10 func23 rfl ntmps23 (Xa rfl) fun w0 M0 v0 _=>?_
 refine WK ?_
 (refine xL 3 Za (xL 4 (Zu Zv) (xL 5 G3 (xL 6 Za ?_)))<;>(refine bLd 6 (fun hb6=>?_) (fun hb6=>?_)<;>refine kZ ?_)<;>(first|refine kL ?_|(refine cV (cA call38 (Ro 75 [] Zbt l call75 (fun x _=>Zmu x))) ?_))<;>refine W2 ?_)<;>(
 refine Zg results23 rfl ?_;show Zr _=Zr _;unfold ZjU
 first|rw [Qa hb6]|rw [Qb hb6]
 simp)
def Zif (w1:World) (l:List Var) (s:Int×Int) (hf:RJ l):AF prog 6 [ZV l,pFr s] (· =Zr true):=by
 have e0:∀u:Nd,pTr u= .agg [Zb u.op,Zx u.act,YJ u.l]:=fun _=>rfl
 have e1:pFr s= .agg [Zb s.1,Zb s.2]:=rfl
 rw [e1]
 refine AF.b2 33 func6 rfl ntmps6 (Xa rfl) fun w0 M0 v0 v1 _ _=>?_
 refine Zi ?_
 refine Z4 3 2 fun h3=>?_;refine ZW ?_
 refine cV (cA call22 Zms) ?_;refine xL (v:= .bool false) (p:= .val (.bool false)) 10 (HJ (b:=true)) ?_;refine ZZ ?_
 refine cCf ?_
 refine Wp ?_;refine cV (cA call23 (Zpu l)) ?_;refine ZC ?_ ?_<;>intro hb12
 . (
 refine ZF ?_;exact Zg results6 rfl rfl)
 obtain ⟨hl,hs⟩:=Zps (l:=l) (by simpa using hb12);obtain ⟨u,e,h1,h2,hF⟩:=Zia w1 l s hf oM hs;have hS:=Zmt hF;rw [e0,e1] at h1 h2;refine Wp ?_;refine yU (Zm 3 KB) fun v15=>?_;refine cP 16 (cA call35 h1) fun va16 vb16 hva16 hvb16=>?_;cases hvb16;refine Y8 ?_;refine Zt zT 3 5 Yh fun h5=>?_;refine Zn 5 Zj ?_;refine JG ?_;refine yU (Zm 3 KB) fun v21=>?_;refine cP 22 (cA call36 h2) fun va22 vb22 hva22 hvb22=>?_;cases hvb22;refine Y8 ?_;refine Zt zT 3 7 Yh fun h7=>?_;refine Zn 7 Zj ?_;refine ZW ?_;(refine yU (Zm 5 Zj) fun v25=>?_<;>refine yU (Zm 7 Zj) fun v26=>?_<;>(refine cV (cA call26 hS) ?_)<;>refine xL 28 Za (xL 29 Za (xL 30 Za (xL 31 Zdn (xL 32 RE (xL 4 Wj ?_)))))<;>refine ZZ ?_)<;>(
 exact Zg results6 rfl rfl)
def Zig (l:List Var) (s:Int×Int) (hf:RJ l) (hg:(-9223372036854775808<=s.1/\s.1<=9223372036854775807)∧-9223372036854775808<=s.2/\s.2<=9223372036854775807):AF prog 6 [ZV l,pFr s] (· =Zr true):=fun M w vs=>Zif w l s hf M w vs
open Go.RowKit Go.Cb Go.En Go.ChangeShapes Go.WideShapes Go.ChangeAt
def ZtI:Dec prog 28 2 YL (fun x=>Zdf x.acts∧-9223372036854775808<=x.count/\x.count<=9223372036854775807):=
 ζm (fun x=>⟨x.1,x.2⟩) (CI underlying28 kR Ztk ZsC rfl rfl) (fun _=>rfl) (fun _=>rfl) (fun _ h=>h)
def Ztu:Dec prog 22 1 (fun l=>[ZV l]) RJ:=
 ζm id (Zcd underlying22 kR dC (Xa kR) ZtI) (fun _=>rfl) (fun _=>rfl) (fun _ h=>h)
def dFr:Dec prog 68 2 cFr (fun x=>(-9223372036854775808<=x.1/\x.1<=9223372036854775807)∧-9223372036854775808<=x.2/\x.2<=9223372036854775807):=
 ζm (fun x=>(x.1,x.2)) (CI underlying68 kR ZsC ZsC rfl rfl) (fun _=>rfl) (fun _=>rfl) (fun _ h=>h)
