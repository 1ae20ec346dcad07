/-
  Walks of functions and plain laws of the chapter, as the claim needs them.
-/
import Derived.Test.YtmkojdfiadbeeaaGreatPe11
import Derived.Test.YtmkojdfiadbeeaaGreatPe08
import Derived.Test.YtmkojdfiadbeeaaGreatPe01
set_option linter.all false
set_option maxRecDepth 100000
set_option maxHeartbeats 8000000
namespace Go.Proofs.YtmkojdfiadbeeaaGreat
open Go.RowKit Go.Cb Go.En Tryz
section
variable {P:Program} {o:Oper} {st:St}
end
def Zok (s:BA):Bool:=decide ((100:Int)<(s.size:Int))
def Za2 (x:Var):Bool:=decide ((20:Int)<(x.acts.length:Int))||x.acts.any Zok
def ZiY (l:List Var):Bool:=decide ((12:Int)<(l.length:Int))||l.any Za2
def Zol {l:List Var} (h:ZiY l=false):l.length<=12/\sumV (fun x=>x.acts.length) l<=300:=by
 unfold ZiY at h
 rw [Uz] at h
 have h1:=Qf h.1
 refine ⟨oM,?_⟩
 have h2:=ZiP (l:=l) (g:=fun x=>(x.acts.length:Int)) (b:=20) fun x hx=>by
  have h3:=Ut.1 h.2 x hx;unfold Za2 at h3;rw [U1,Uz] at h3;have h4:=Qf h3.1;show (x.acts.length:Int)<=20;omega
 omega
def Zls {t:Nd} (h:FitT t):AF prog 26 [pTr t,pTr t] (· =Zr true):=by
 have h1:=Zmm t t h h
 rwa [Jf.2 rfl] at h1
def Zom (s:BA):AF prog 28 [Zv s] (· =Zr (Zok s)):=by
 refine AF.b1 6 func28 rfl ntmps28 (Xa rfl) ?_
 rintro w0 M0 _ rfl
 refine YG ?_
 refine xL 3 Za (xL 4 (P7 underlying9) (xL 5 Jw (xL 2 ZJ ?_)));refine Zw ?_
 exact Zg results28 rfl rfl
def Zlt (x:Var):AF prog 75 [.agg (Wo x)] (· =Zr (Za2 x)):=by
 refine AF.b1 12 func75 rfl ntmps75 (Xa rfl) fun w0 M0 v0 _=>?_
 refine Zi ?_
 refine Yi 1 2 fun h1=>?_;refine ZX ?_
 (refine xM (Zc 1 Z8) ?_<;>refine yU (Zh 1 ZF) fun v4=>?_<;>refine xL 5 (Zs Zm) (xL 6 Jw (xL 7 Za ?_))<;>(refine bLd 7 (fun hb7=>?_) (fun hb7=>?_)<;>(first|refine kL ?_|refine xM (Zc 1 Z8) ?_))<;>(first|refine kL ?_|refine yU (Zh 1 ZF) fun v9=>?_)<;>(first|refine kL ?_|(refine cV (cA call27 (LO 28 [] Zok x.acts call28 (fun s _=>Zom s))) ?_))<;>refine ZO ?_<;>refine Zw ?_)<;>(
 refine Zg results75 rfl ?_;show Zr _=Zr _;unfold Za2
 first|rw [U' hb7]|rw [Qa hb7]
 simp)
def Zon (l:List Var):AF prog 23 [Z1 l] (· =Zr (ZiY l)):=by
 refine AF.b1 10 func23 rfl ntmps23 (Xa rfl) fun w0 M0 v0 _=>?_
 refine YG ?_
 (refine xL 3 Za (xL 4 (Zs Zy) (xL 5 Jw (xL 6 Za ?_)))<;>(refine bLd 6 (fun hb6=>?_) (fun hb6=>?_)<;>refine kZ ?_)<;>(first|refine kL ?_|(refine cV (cA call38 (S9 75 [] Za2 l call75 (fun x _=>Zlt x))) ?_))<;>refine ZO ?_<;>refine Zw ?_)<;>(
 refine Zg results23 rfl ?_;show Zr _=Zr _;unfold ZiY
 first|rw [U' hb6]|rw [Qa hb6]
 simp)
def Zlu (w1:World) (l:List Var) (hf:Do l):AF prog 4 [Z1 l] (· =Zr true):=by
 have e0:∀u:Nd,pTr u= .agg [Zb u.op,Zv u.act,YN u.l]:=fun _=>rfl
 refine AF.b1 29 func4 rfl ntmps4 (Xa rfl) fun w0 M0 v0 _=>?_
 refine YG ?_
 refine cV (cA call22 Zlr) ?_;refine xL (v:= .bool false) (p:= .val (.bool false)) 8 (LK (b:=true)) ?_;refine Zw ?_
 refine cCf ?_
 refine Wp ?_;refine cV (cA call23 (Zon l)) ?_;refine ZE ?_ ?_<;>intro hb10
 . (
 refine ZD ?_;exact Zg results4 rfl rfl)
 obtain ⟨hl,hs⟩:=Zol (l:=l) (by simpa using hb10);obtain ⟨u,e,h1,h2,hF⟩:=Zlo w1 l hf oM hs;have hS:=Zls hF;rw [e0] at h1 h2;refine Wp ?_;refine cP 13 (cA call24 h1) fun va13 vb13 hva13 hvb13=>?_;cases hvb13;refine Y1 ?_;refine Zt zT 3 3 Yp fun h3=>?_;refine Zp 3 Zk ?_;refine Jy ?_;refine cP 18 (cA call25 h2) fun va18 vb18 hva18 hvb18=>?_;cases hvb18;refine Y1 ?_;refine Zt zT 3 5 Yp fun h5=>?_;refine Zp 5 Zk ?_;refine ZX ?_;(refine yU (Zn 3 Zk) fun v21=>?_<;>refine yU (Zn 5 Zk) fun v22=>?_<;>(refine cV (cA call26 hS) ?_)<;>refine xL 24 Za (xL 25 Za (xL 26 Za (xL 27 ZcR (xL 28 YY (xL 2 ZJ ?_)))))<;>refine Zw ?_)<;>(
 exact Zg results4 rfl rfl)
def Zlv (l:List Var) (hf:Do l):AF prog 4 [Z1 l] (· =Zr true):=fun M w vs=>Zlu w l hf M w vs
open Go.RowKit Go.Cb Go.En Go.ChangeShapes Go.WideShapes Go.ChangeAt
def Zsn:Dec prog 28 2 Wo (fun x=>ZcJ x.acts∧-9223372036854775808<=x.count/\x.count<=9223372036854775807):=
 Zc0 (fun x=>⟨x.1,x.2⟩) (ZeI underlying28 kR ZrY Zsj rfl rfl) (fun _=>rfl) (fun _=>rfl) (fun _ h=>h)
def Zr8:Dec prog 22 1 (fun l=>[Z1 l]) Do:=
 Zc0 id (ZbJ underlying22 kR dC (Xa kR) Zsn) (fun _=>rfl) (fun _=>rfl) (fun _ h=>h)
end Go.Proofs.YtmkojdfiadbeeaaGreat
