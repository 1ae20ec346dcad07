/-
  Walks of functions and plain laws of the chapter, as the claim needs them.
-/
import Derived.Lib.Bytealg
import Derived.DeepKeys3
import Derived.Lib.AppendIntMem
import Derived.Lib.OthersKept
import Derived.Laws.BytesArg
import Derived.Test.YteiincihiagidaaGreatPf06
import Derived.Test.YteiincihiagidaaGreatPf02
import Derived.Test.YteiincihiagidaaGreatPf01
import Derived.Test.YteiincihiagidaaGreatPf04
set_option linter.all false
set_option maxRecDepth 100000
set_option maxHeartbeats 8000000
namespace Go.Proofs.YteiincihiagidaaGreat
open Go.RowKit Go.Cb Go.En Tryz
mutual
def Jd:Nd→List BA
 | .mk o a l=>if o=1 then a::GN l else GN l
def GN:List Nd→List BA
 |[]=>[]
 |x::l=>Jd x++GN l
end
theorem J9:AggT prog 24 3=true:=kR
theorem EK:FldT prog 24 0 0=true:=kR
theorem YZ:FldT prog 24 1 1=true:=kR
theorem WO:FldT prog 24 2 2=true:=kR
theorem KW:NoAgg prog 22=true:=kR
theorem ZdQ:NoAgg prog 3=true:=kR
theorem Ko:NoAgg prog 9=true:=kR
theorem KD:SlT prog 22 24 3=true:=kR
theorem ZjC:ZeroT prog 24 (.agg #[(.int .i64 0),(.string ByteArray.empty),(.slice none 0 0)]):=by unfold ZeroT;kernel_rfl
mutual
def cTr:Nd→List PV
 | .mk o a l=>[Zc o,Zt a, .sl l.length (Z9 l)]
def Z9:List Nd→List PV
 |[]=>[]
 |x::l=>cTr x++Z9 l
end
def Yt (l:List Nd):PV:= .sl l.length (Z9 l)
def cN (t:Nd):List PV:=[Zc t.op,Zt t.act,Yt t.l]
def pTr (t:Nd):PV:= .agg (cN t)
theorem Sy (t:Nd):(cN t).length=3:=rfl
theorem WV (l:List Nd):Z9 l=l.flatMap cN:=by
 induction l with
 |nil=>rfl
 | cons x l ih=>
   rw [Z9,ih,Xv];congr 1
   cases x;rfl
theorem ZT {l:List Nd} {k:Nat} {x:Nd} (h:l[k]? =some x):((Z9 l).drop (k*3)).take 3=cN x:=by rw [WV];exact Yu Sy l k x h
theorem Yg {l:List Nd} {k:Nat} {x:Nd} (h:l[k]? =some x):k*3+3≤(Z9 l).length:=by rw [WV];exact Y9 Sy h
inductive FitT:Nd→Prop
 |mk (t:Nd) (h1:t.l.length≤140737488355328) (h2:t.act.size≤140737488355328) (h3: -9223372036854775808≤t.op) (h4:t.op≤9223372036854775807) (h:∀x∈t.l,FitT x):FitT t
theorem FitT.len {t:Nd}:FitT t→t.l.length≤140737488355328
 | .mk _ h _ _ _ _=>h
theorem FitT.sz {t:Nd}:FitT t→t.act.size≤140737488355328
 | .mk _ _ h _ _ _=>h
theorem FitT.p {t:Nd}:FitT t→∀x∈t.l,FitT x
 | .mk _ _ _ _ _ h=>h
theorem Zb4 (a:BA):(a.toList==ByteArray.toList {data:= #[]})=decide (a=ByteArray.empty):=by
 rw [VM,U8]
 exact KB (a:=a) (b:=ByteArray.empty)
section
variable {o:Int} {a:BA} {l:List Nd}
theorem Rp:rightT (.mk o a l)=if o=1 then l.isEmpty&&isName a else if o=2 then l.isEmpty&&decide (a=ByteArray.empty) else if o=3∨o=4∨o=5 then !l.isEmpty&&decide (a=ByteArray.empty)
 else if o=6 then decide (l.length=2)&&decide (a=ByteArray.empty) else false:=rfl
theorem Zmr (h:o=1):rightT (.mk o a l)=(decide ((l.length:Int)=0)&&isName a):=by
 rw [Rp,Qb h]
 congr 1
 cases l<;>simp<;>omega
theorem Zms (h:o=2):rightT (.mk o a l)=(decide ((l.length:Int)=0)&&(a.toList==ByteArray.toList {data:= #[]})):=by
 rw [Rp,Zb4,Qa oM,Qb h]
 congr 1
 cases l<;>simp<;>omega
theorem H7 (h:o=3∨o=4∨o=5):rightT (.mk o a l)=(decide (1≤(l.length:Int))&&(a.toList==ByteArray.toList {data:= #[]})):=by
 rw [Rp,Zb4,Qa oM,Qa oM,Qb h]
 congr 1
 cases l<;>simp<;>omega
theorem H8 (h:o=6):rightT (.mk o a l)=(decide ((l.length:Int)=2)&&(a.toList==ByteArray.toList {data:= #[]})):=by
 rw [Rp,Zb4,Qa oM,Qa oM,Qa oM,Qb h]
 congr 1
 rw [VM,U8,U8];omega
theorem H9 (h1:o≠1) (h2:o≠2) (h3:o≠3) (h4:o≠4) (h5:o≠5) (h6:o≠6):rightT (.mk o a l)=false:=by
 rw [Rp,Qa h1,Qa h2,Qa oM,Qa h6]
end
theorem TH {a b:Bool} (h:a=true):Zv b=Zv (a&&b):=by rw [h];rfl
theorem SR {a b:Bool} (h:a=false):Zv false=Zv (a&&b):=by rw [h];rfl
theorem Lb {a b:Bool} (h:a=true):Zv b=Zv (b&&a):=by rw [h,VV]
theorem TI {a b:Bool} (h:a=false):Zv false=Zv (b&&a):=by rw [h,Bool.and_false]
theorem Zmt (t : Nd) (hf:FitT t):AF prog 74 [pTr t] (· =Zv (rightT t)):=by
 obtain ⟨o,a,l⟩:=t
 have hl:=hf.len
 have ha:=hf.sz
 simp only [Nd.l,Nd.act] at hl ha
 refine AF.b1 47 func74 rfl ntmps74 (Xa rfl) fun w0 M0 v0 _=>?_
 have e0:pTr (.mk o a l)= .agg [Zc o,Zt a, .sl l.length (Z9 l)]:=rfl
 rw [e0]
 refine Zh ?_
 refine ZV 1 3 fun h1=>?_;refine ZQ ?_
 refine xM (Zb 1 WO) ?_;refine yU (Ze 1 KW) fun v5=>?_;refine xL 6 (Zy KD) (xL 3 Wv ?_);refine Yc ?_
 refine xM (Zb 1 EK) ?_;refine yV (Ze 1 ZdQ) ?_;refine GG ?_ ?_<;>intro hb9
 · (
 refine Zh ?_;(refine Y' ?_<;>(refine bLd 13 (fun hb13=>?_) (fun hb13=>?_)<;>(first|refine kL ?_|refine xM (Zb 1 YZ) ?_))<;>(first|refine kL ?_|refine yV (Ze 1 Ko) ?_)<;>(first|refine kL ?_|(refine cV (cA call105 (DL a oM)) ?_))<;>refine YJ ?_)<;>(
 refine Zf results74 rfl ?_;rw [Zmr hb9]
 first
  |exact TH (U9 hb13)
  |exact SR (U' hb13)))
 · (
 refine Wa ?_ ?_<;>intro hb18
 · (
 refine Zh ?_;(refine Y' ?_<;>(refine bLd 22 (fun hb22=>?_) (fun hb22=>?_)<;>(first|refine kL ?_|refine xM (Zb 1 YZ) ?_))<;>(first|refine kL ?_|refine yV (Ze 1 Ko) ?_)<;>refine KL ?_)<;>(
 refine Zf results74 rfl ?_;rw [Zms hb18]
 first
  |exact TH (U9 hb22)
  |exact SR (U' hb22)))
 · (
 refine Wa ?_ ?_<;>intro hb27
 · (
 refine nav ?_;refine cX ?_ ?_<;>intro hb27
 · (
 refine Zh ?_;(refine Y' ?_<;>(refine bLd 33 (fun hb33=>?_) (fun hb33=>?_)<;>(first|refine kL ?_|refine xM (Zb 1 YZ) ?_))<;>(first|refine kL ?_|refine yV (Ze 1 Ko) ?_)<;>refine KL ?_)<;>(
 refine Zf results74 rfl ?_;rw [H7 oM]
 first
  |exact TH (U9 hb33)
  |exact SR (U' hb33)))
 · (
 refine Wa ?_ ?_<;>intro hb38
 · (
 refine Zh ?_;(refine Y' ?_<;>(refine bLd 42 (fun hb42=>?_) (fun hb42=>?_)<;>(first|refine kL ?_|refine xM (Zb 1 YZ) ?_))<;>(first|refine kL ?_|refine yV (Ze 1 Ko) ?_)<;>refine KL ?_)<;>(
 refine Zf results74 rfl ?_;rw [H8 hb38]
 first
  |exact TH (U9 hb42)
  |exact SR (U' hb42)))
 · (
 refine ZI ?_;refine Zf results74 rfl ?_;rw [H9 oM oM oM oM oM oM])))
 · (
 refine Wa ?_ ?_<;>intro hb27
 · (
 refine nav ?_;refine cX ?_ ?_<;>intro hb27
 · (
 refine Zh ?_;(refine Y' ?_<;>(refine bLd 33 (fun hb33=>?_) (fun hb33=>?_)<;>(first|refine kL ?_|refine xM (Zb 1 YZ) ?_))<;>(first|refine kL ?_|refine yV (Ze 1 Ko) ?_)<;>refine KL ?_)<;>(
 refine Zf results74 rfl ?_;rw [H7 oM]
 first
  |exact TH (U9 hb33)
  |exact SR (U' hb33)))
 · (
 refine Wa ?_ ?_<;>intro hb38
 · (
 refine Zh ?_;(refine Y' ?_<;>(refine bLd 42 (fun hb42=>?_) (fun hb42=>?_)<;>(first|refine kL ?_|refine xM (Zb 1 YZ) ?_))<;>(first|refine kL ?_|refine yV (Ze 1 Ko) ?_)<;>refine KL ?_)<;>(
 refine Zf results74 rfl ?_;rw [H8 hb38]
 first
  |exact TH (U9 hb42)
  |exact SR (U' hb42)))
 · (
 refine ZI ?_;refine Zf results74 rfl ?_;rw [H9 oM oM oM oM oM oM])))
 · (
 refine Wa ?_ ?_<;>intro hb27
 · (
 refine Zh ?_;(refine Y' ?_<;>(refine bLd 33 (fun hb33=>?_) (fun hb33=>?_)<;>(first|refine kL ?_|refine xM (Zb 1 YZ) ?_))<;>(first|refine kL ?_|refine yV (Ze 1 Ko) ?_)<;>refine KL ?_)<;>(
 refine Zf results74 rfl ?_;rw [H7 oM]
 first
  |exact TH (U9 hb33)
  |exact SR (U' hb33)))
 · (
 refine Wa ?_ ?_<;>intro hb38
 · (
 refine Zh ?_;(refine Y' ?_<;>(refine bLd 42 (fun hb42=>?_) (fun hb42=>?_)<;>(first|refine kL ?_|refine xM (Zb 1 YZ) ?_))<;>(first|refine kL ?_|refine yV (Ze 1 Ko) ?_)<;>refine KL ?_)<;>(
 refine Zf results74 rfl ?_;rw [H8 hb38]
 first
  |exact TH (U9 hb42)
  |exact SR (U' hb42)))
 · (
 refine ZI ?_;refine Zf results74 rfl ?_;rw [H9 oM oM oM oM oM oM]))))))
theorem ZjD (t : Nd) (hf:FitT t):AF prog 58 [pTr t] (· =Zv (rightT t)):=by
 obtain ⟨o,a,l⟩:=t
 have hl:=hf.len
 have ha:=hf.sz
 simp only [Nd.l,Nd.act] at hl ha
 refine AF.b1 51 func58 rfl ntmps58 (Xa rfl) fun w0 M0 v0 _=>?_
 have e0:pTr (.mk o a l)= .agg [Zc o,Zt a, .sl l.length (Z9 l)]:=rfl
 rw [e0]
 refine Zh ?_
 refine ZV 1 3 fun h1=>?_;refine ZQ ?_
 refine xM (Zb 1 EK) ?_;refine yV (Ze 1 ZdQ) ?_;refine GG ?_ ?_<;>intro hb5
 · (
 refine Zh ?_;(refine xM (Zb 1 YZ) ?_<;>refine yV (Ze 1 Ko) ?_<;>(refine cV (cA call101 (Ziu a oM)) ?_)<;>refine Yv ?_<;>(refine bL 10 (fun hb10=>?_) (fun hb10=>?_)<;>(first|refine kL ?_|refine xM (Zb 1 WO) ?_))<;>(first|refine kL ?_|refine yU (Ze 1 KW) fun v12=>?_)<;>(first|refine kL ?_|refine xM (Zy KD) ?_)<;>refine KL ?_)<;>(
 refine Zf results58 rfl ?_;rw [Zmr hb5]
 first
  |exact Lb hb10
  |exact TI hb10))
 · (
 refine Wa ?_ ?_<;>intro hb16
 · (
 refine Zh ?_;(refine xM (Zb 1 YZ) ?_<;>refine yV (Ze 1 Ko) ?_<;>refine YW ?_<;>(refine bL 21 (fun hb21=>?_) (fun hb21=>?_)<;>(first|refine kL ?_|refine xM (Zb 1 WO) ?_))<;>(first|refine kL ?_|refine yU (Ze 1 KW) fun v23=>?_)<;>(first|refine kL ?_|refine xM (Zy KD) ?_)<;>refine KL ?_)<;>(
 refine Zf results58 rfl ?_;rw [Zms hb16]
 first
  |exact Lb hb21
  |exact TI hb21))
 · (
 refine Wa ?_ ?_<;>intro hb27
 · (
 refine nav ?_;refine cX ?_ ?_<;>intro hb27
 · (
 refine Zh ?_;(refine xM (Zb 1 YZ) ?_<;>refine yV (Ze 1 Ko) ?_<;>refine YW ?_<;>(refine bL 34 (fun hb34=>?_) (fun hb34=>?_)<;>(first|refine kL ?_|refine xM (Zb 1 WO) ?_))<;>(first|refine kL ?_|refine yU (Ze 1 KW) fun v36=>?_)<;>(first|refine kL ?_|refine xM (Zy KD) ?_)<;>refine KL ?_)<;>(
 refine Zf results58 rfl ?_;rw [H7 oM]
 first
  |exact Lb hb34
  |exact TI hb34))
 · (
 refine Wa ?_ ?_<;>intro hb40
 · (
 refine Zh ?_;(refine xM (Zb 1 YZ) ?_<;>refine yV (Ze 1 Ko) ?_<;>refine YW ?_<;>(refine bL 45 (fun hb45=>?_) (fun hb45=>?_)<;>(first|refine kL ?_|refine xM (Zb 1 WO) ?_))<;>(first|refine kL ?_|refine yU (Ze 1 KW) fun v47=>?_)<;>(first|refine kL ?_|refine xM (Zy KD) ?_)<;>refine KL ?_)<;>(
 refine Zf results58 rfl ?_;rw [H8 hb40]
 first
  |exact Lb hb45
  |exact TI hb45))
 · (
 refine ZI ?_;refine Zf results58 rfl ?_;rw [H9 oM oM oM oM oM oM])))
 · (
 refine Wa ?_ ?_<;>intro hb27
 · (
 refine nav ?_;refine cX ?_ ?_<;>intro hb27
 · (
 refine Zh ?_;(refine xM (Zb 1 YZ) ?_<;>refine yV (Ze 1 Ko) ?_<;>refine YW ?_<;>(refine bL 34 (fun hb34=>?_) (fun hb34=>?_)<;>(first|refine kL ?_|refine xM (Zb 1 WO) ?_))<;>(first|refine kL ?_|refine yU (Ze 1 KW) fun v36=>?_)<;>(first|refine kL ?_|refine xM (Zy KD) ?_)<;>refine KL ?_)<;>(
 refine Zf results58 rfl ?_;rw [H7 oM]
 first
  |exact Lb hb34
  |exact TI hb34))
 · (
 refine Wa ?_ ?_<;>intro hb40
 · (
 refine Zh ?_;(refine xM (Zb 1 YZ) ?_<;>refine yV (Ze 1 Ko) ?_<;>refine YW ?_<;>(refine bL 45 (fun hb45=>?_) (fun hb45=>?_)<;>(first|refine kL ?_|refine xM (Zb 1 WO) ?_))<;>(first|refine kL ?_|refine yU (Ze 1 KW) fun v47=>?_)<;>(first|refine kL ?_|refine xM (Zy KD) ?_)<;>refine KL ?_)<;>(
 refine Zf results58 rfl ?_;rw [H8 hb40]
 first
  |exact Lb hb45
  |exact TI hb45))
 · (
 refine ZI ?_;refine Zf results58 rfl ?_;rw [H9 oM oM oM oM oM oM])))
 · (
 refine Wa ?_ ?_<;>intro hb27
 · (
 refine Zh ?_;(refine xM (Zb 1 YZ) ?_<;>refine yV (Ze 1 Ko) ?_<;>refine YW ?_<;>(refine bL 34 (fun hb34=>?_) (fun hb34=>?_)<;>(first|refine kL ?_|refine xM (Zb 1 WO) ?_))<;>(first|refine kL ?_|refine yU (Ze 1 KW) fun v36=>?_)<;>(first|refine kL ?_|refine xM (Zy KD) ?_)<;>refine KL ?_)<;>(
 refine Zf results58 rfl ?_;rw [H7 oM]
 first
  |exact Lb hb34
  |exact TI hb34))
 · (
 refine Wa ?_ ?_<;>intro hb40
 · (
 refine Zh ?_;(refine xM (Zb 1 YZ) ?_<;>refine yV (Ze 1 Ko) ?_<;>refine YW ?_<;>(refine bL 45 (fun hb45=>?_) (fun hb45=>?_)<;>(first|refine kL ?_|refine xM (Zb 1 WO) ?_))<;>(first|refine kL ?_|refine yU (Ze 1 KW) fun v47=>?_)<;>(first|refine kL ?_|refine xM (Zy KD) ?_)<;>refine KL ?_)<;>(
 refine Zf results58 rfl ?_;rw [H8 hb40]
 first
  |exact Lb hb45
  |exact TI hb45))
 · (
 refine ZI ?_;refine Zf results58 rfl ?_;rw [H9 oM oM oM oM oM oM]))))))
theorem ZfZ : ∀(t:Nd),FitT t→∀(most d:Int),-4611686018427387904≤most→most≤4611686018427387904→-4611686018427387904≤d→d≤4611686018427387904→AF prog 40 [pTr t,Zc most,Zc d] (· = .tup [Zc (if LS t most d=true then (szT t:Int) else 0),Zv (LS t most d)]):=Nd.ind fun o a l ih hf most d hm1 hm2 hd1 hd2=>by
 have hl:=hf.len
 have hp:=hf.p
 simp only [Nd.l] at hl hp
 refine AF.b3 48 func40 rfl ntmps40 (Xa rfl) ?_
 rintro w0 M0 v0 _ _-rfl rfl
 have e0:pTr (.mk o a l)= .agg [Zc o,Zt a, .sl l.length (Z9 l)]:=rfl
 rw [e0]
 refine Zh ?_
 refine ZV 3 3 fun h3=>?_;refine Jn ?_
 (refine Y' ?_<;>(refine bLd 15 (fun hb15=>?_) (fun hb15=>?_)<;>refine kZ ?_)<;>refine GI ?_<;>(first|refine kL ?_|(refine bLd 19 (fun hb19=>?_) (fun hb19=>?_)<;>(first|refine kL ?_|refine yU (Zj 3 J9) fun v20=>?_)))<;>(first|refine kL ?_|(refine cV (cA call74 (Zmt (.mk o a l) hf)) ?_))<;>refine Wz ?_)<;>(
 refine cX ?_ ?_<;>intro hb23
 · (
 refine ZE ?_;refine Z1 results40 rfl rfl ?_;rw [Zmf (by first|exact .inl oM|exact .inr (.inl oM)|exact .inr (.inr (by simpa using hb23)))];rfl)
 · first | exact bN hb23|(
 (have hrt:rightT (.mk o a l)=true:=by simpa using hb23);refine YK ?_;refine xM (Zb 3 WO) ?_;refine yU (Ze 3 KW) fun v25=>?_;refine xL 26 (Zy KD) (xL 27 Za ?_);refine ZF ?_;refine Yd (ι:={k:Nat//k≤l.length∧((1+szL (l.take k):Nat):Int)≤most∧∀j x,j<k→l[j]? =some x→LS x (most-((1+szL (l.take j):Nat):Int)) (d+1)=true}) (fun k=>⟨[(1,_,_),(2,_,_),(25,_,_),(26,_,_),(27, .int .i64 k.1,Zc k.1),(8, .int .i64 ((1+szL (l.take k.1):Nat):Int),Zc ((1+szL (l.take k.1):Nat):Int))],[(3,_,_)]⟩) (fun k=>l.length-k.1) ⟨0,oM,by simp [szL];omega,oM⟩ ?_;rintro ⟨k,hk,hsz,hp2⟩;dsimp only;refine Ys ?_ ?_<;>intro hb28
 · (
 obtain ⟨x,hx⟩:=gS l k;have hxm:=Xc hx;have e1:=ZT hx;have e2:=Yg hx;refine Zh ?_;refine xM (Zg KD) ?_;refine yU (YD J9) fun v30=>?_;refine Zx zT 3 10 ZjC fun h10=>?_;refine Zu 10 J9 ?_;refine Yc ?_;refine yU (Zj 10 J9) fun v32=>?_;refine JY ?_;refine cP 38 (cA call40 (ih x hxm (hp x hxm) (most-((1+szL (l.take k):Nat):Int)) (d+1) oM oM oM oM)) fun va38 vb38 hva38 hvb38=>?_;cases hva38;cases hvb38;refine JY ?_;refine GG ?_ ?_<;>intro hb42
 · (
 refine ZE ?_;refine Z1 results40 rfl rfl ?_;rw [ZdG (t:= .mk o a l) hx (by simpa [Nd.l] using hb42)];rfl)
 · (
 (have hmx:LS x (most-((1+szL (l.take k):Nat):Int)) (d+1)=true:=by simpa using hb42);have hsn:=ζs hx;have hbd:(szT x:Int)≤most-((1+szL (l.take k):Nat):Int):=by
  have:=hmx;unfold LS at this;simp only [Xi,U8] at this;exact this.1.2
 have hn2:((1+szL (l.take k):Nat):Int)+(szT x:Int)=((1+szL (l.take (k+1)):Nat):Int):=oM;rw [Qb hmx];refine Wn ?_;refine Yv ?_;rw [hn2];refine Wy ?_;refine Yh (
  ⟨k+1,oM,oM,fun j y hj hy=>by
   by_cases e:j=k
   · subst e;rw [hx] at hy;cases hy;exact hmx
   · exact hp2 j y oM hy⟩
  )))
 · (
 refine Y5 ?_;refine Z1 results40 rfl rfl ?_;have hkl:k=l.length:=oM;subst hkl;rw [Zhn (t:= .mk o a l) hrt oM oM fun j x hx=>hp2 j x (Zd hx) hx];rw [Xq (Xe _),Qb rfl,szT])))
theorem TJ (t:Nd) (hf:FitT t):AF prog 16 [pTr t] (· =Zv (WH t)):=by
 refine AF.b1 11 func16 rfl ntmps16 (Xa rfl) fun w0 M0 v0 _=>?_
 have e0:pTr t= .agg [Zc t.op,Zt t.act,Yt t.l]:=rfl
 rw [e0]
 refine Zh ?_
 refine ZV 1 3 fun h1=>?_;refine ZQ ?_
 refine yU (Zj 1 J9) fun v6=>?_;refine cP 7 (cA call40 (ZfZ t hf 400 1 oM oM oM oM)) fun va7 vb7 hva7 hvb7=>?_;cases hva7;cases hvb7;refine JY ?_;refine GF ?_
 exact Zf results16 rfl rfl
theorem Zf0 {t:Nd} {most d:Int} (h:LS t most d=true):(szT t:Int)≤most:=by
 unfold LS at h
 simp only [Xi,U8] at h
 exact h.1.2
def Zb5 (t:Nd) (d left:Int):Int:=if LS t left d=true then left-(szT t:Int) else-1
theorem ZjE : ∀(t:Nd),FitT t→∀(d left:Int),-4611686018427387904≤left→left≤4611686018427387904→-4611686018427387904≤d→d≤4611686018427387904→AF prog 30 [pTr t,Zc d,Zc left] (· =Zc (Zb5 t d left)):=Nd.ind fun o a l ih hf d left hm1 hm2 hd1 hd2=>by
 have hl:=hf.len
 have hp:=hf.p
 simp only [Nd.l] at hl hp
 refine AF.b3 41 func30 rfl ntmps30 (Xa rfl) ?_
 rintro w0 M0 v0 _ _-rfl rfl
 have e0:pTr (.mk o a l)= .agg [Zc o,Zt a, .sl l.length (Z9 l)]:=rfl
 rw [e0]
 refine Zh ?_
 refine ZV 3 3 fun h3=>?_;refine ZQ ?_
 (refine Y' ?_<;>(refine bLd 10 (fun hb10=>?_) (fun hb10=>?_)<;>refine kZ ?_)<;>refine GI ?_<;>(first|refine kL ?_|(refine bLd 14 (fun hb14=>?_) (fun hb14=>?_)<;>(first|refine kL ?_|refine yU (Zj 3 J9) fun v15=>?_)))<;>(first|refine kL ?_|(refine cV (cA call58 (ZjD (.mk o a l) hf)) ?_))<;>refine Wz ?_)<;>(
 refine cX ?_ ?_<;>intro hb18
 · (
 refine ZI ?_;refine Zf results30 rfl ?_;unfold Zb5;rw [Zmf (by first|exact .inl oM|exact .inr (.inl oM)|exact .inr (.inr (by simpa using hb18)))];rfl)
 · first | exact bN hb18|(
 (have hrt:rightT (.mk o a l)=true:=by simpa using hb18);(have hc0:left-1=left-((1+szL (l.take 0):Nat):Int):=by simp [szL]);refine Wh ?_;refine Yv ?_;rw [hc0];refine Ta ?_;refine Yd (ι:={k:Nat//k≤l.length∧((1+szL (l.take k):Nat):Int)≤left∧∀j x,j<k→l[j]? =some x→LS x (left-((1+szL (l.take j):Nat):Int)) (d+1)=true}) (fun k=>⟨[(1,_,_),(3,_,_),(7, .int .i64 k.1,Zc k.1),(2, .int .i64 (left-((1+szL (l.take k.1):Nat):Int)),Zc (left-((1+szL (l.take k.1):Nat):Int)))],[(3,_,_)]⟩) (fun k=>l.length-k.1) ⟨0,oM,by simp [szL];omega,oM⟩ ?_;rintro ⟨k,hk,hsz,hp2⟩;dsimp only;refine Zh ?_;refine xL 21 Za (xL 22 (Zb 3 WO) ?_);refine yU (Ze 3 KW) fun v23=>?_;refine xL 24 (Zy KD) (xL 25 Wq ?_);refine ZR ?_ ?_<;>intro hb25
 · (
 obtain ⟨x,hx⟩:=gS l k;have hxm:=Xc hx;have e1:=ZT hx;have e2:=Yg hx;refine Zh ?_;refine xM (Zb 3 WO) ?_;refine yU (Ze 3 KW) fun v29=>?_;refine xL 30 Za (xL 31 (Zg KD) ?_);refine yU (YD J9) fun v32=>?_;refine Y' ?_;refine cS 36 (cA call30 (ih x hxm (hp x hxm) (d+1) (left-((1+szL (l.take k):Nat):Int)) oM oM oM oM)) fun v36 hv36=>?_;cases hv36;refine ZB ?_;have hcx:Zb5 x (d+1) (left-((1+szL (l.take k):Nat):Int))<0↔LS x (left-((1+szL (l.take k):Nat):Int)) (d+1)=false:=by
  unfold Zb5
  cases hmx:LS x (left-((1+szL (l.take k):Nat):Int)) (d+1) with
  |true=>have:=Zf0 hmx;simp;omega
  |false=>simp
 refine KJ ?_;refine cX ?_ ?_<;>intro hb38
 · (
 refine ZE ?_;refine Zf results30 rfl ?_;have hmx:=hcx.1 hb38;unfold Zb5;rw [ZdG (t:= .mk o a l) hx hmx,hmx];rfl)
 · (
 have hmx:LS x (left-((1+szL (l.take k):Nat):Int)) (d+1)=true:=by
  cases h:LS x (left-((1+szL (l.take k):Nat):Int)) (d+1) with
  |true=>rfl
  |false=>exact Qc (hcx.2 h) hb38
 have hsn:=ζs hx;have hbd:=Zf0 hmx;have hn2:Zb5 x (d+1) (left-((1+szL (l.take k):Nat):Int))=left-((1+szL (l.take (k+1)):Nat):Int):=by
  unfold Zb5;rw [Qb hmx];omega
 rw [hn2];refine Y5 ?_;refine Yh (
  ⟨k+1,oM,oM,fun j y hj hy=>by
   by_cases e:j=k
   · subst e;rw [hx] at hy;cases hy;exact hmx
   · exact hp2 j y oM hy⟩
  )))
 · (
 refine ZE ?_;refine Zf results30 rfl ?_;have hkl:k=l.length:=oM;subst hkl;unfold Zb5;rw [Zhn (t:= .mk o a l) hrt oM oM fun j x hx=>hp2 j x (Zd hx) hx];rw [Xq (Xe _),Qb rfl,szT])))
theorem Ea (t:Nd) (hf:FitT t):AF prog 10 [pTr t] (· =Zv (WH t)):=by
 refine AF.b1 6 func10 rfl ntmps10 (Xa rfl) fun w0 M0 v0 _=>?_
 have e0:pTr t= .agg [Zc t.op,Zt t.act,Yt t.l]:=rfl
 rw [e0]
 refine Zh ?_
 refine ZV 1 3 fun h1=>?_;refine ZQ ?_
 refine yU (Zj 1 J9) fun v3=>?_;refine cV (cA call30 (ZjE t hf 1 400 oM oM oM oM)) ?_;refine YJ ?_
 refine Zf results10 rfl (Re ?_)
 rw [U8]
 unfold Zb5 WH
 cases h:LS t 400 1 with
 |true=>have:=Zf0 h;simp;omega
 |false=>simp
end Go.Proofs.YteiincihiagidaaGreat
namespace Go.En
open Go.RowKit Go.Cb
theorem Y1 {sL hP:List (Nat×Ent)} {l:Nat} {h:Value} {p p':PV} (hl:lk hP l=some (h,p)) (e:p=p'):J1 (⟨sL,hP⟩:St) (fun _:Unit=>⟨sL,put l (h,p') hP⟩):=fun c a w ⟨F,H⟩=>by
 subst e
 refine ⟨(),F,H.less (fun t x h=>h) fun t x ht=>?_⟩
 rcases ZZ ht with ⟨rfl,e1⟩|⟨_,h1⟩
 · rw [hl,e1]
 · exact h1
theorem Kt {sL hP:List (Nat×Ent)} {t:Nat} {v:Value} {p p':PV} (hl:lk sL t=some (v,p)) (e:p=p'):J1 (⟨sL,hP⟩:St) (fun _:Unit=>⟨put t (v,p') sL,hP⟩):=fun c a w ⟨F,H⟩=>by
 subst e
 refine ⟨(),F,H.less (fun s x ht=>?_) (fun t x h=>h)⟩
 rcases ZZ ht with ⟨rfl,e1⟩|⟨_,h1⟩
 · rw [hl,e1]
 · exact h1
theorem TS {sL hP:List (Nat×Ent)} {t:Nat} {q:PV} (ht:lk sL t=some (.slice none 0 0,q)):J1 (⟨sL,hP⟩:St) (fun _:Unit=>⟨put t (.slice none 0 0, .sl 0 []) sL,hP⟩):=fun c a w ⟨F,H⟩=>by
 refine ⟨(),F,H.toHeapF,fun s u r hs=>?_,H.size,H.df⟩
 rcases ZZ hs with ⟨rfl,e1⟩|⟨_,hs'⟩
 · cases e1;exact ⟨(H.sl t _ _ ht).1, .emp none 0 (by unfold maxLen;omega) (fun _=>rfl)⟩
 · exact H.sl s u r hs'
section
variable {P:Program} {c:Ctx} {ops:Array Oper} {Q:Exit→Act→World→Prop} {rest:List Oper} {sL hP:List (Nat×Ent)} {o:Oper}
theorem ZdR:∀(l:List Value) (j off:Nat) (cells:Array Value),(l.zipIdx j).foldl (fun cs x=>cs.setIfInBounds (off+x.2) x.1) cells=(l.zipIdx (off+j)).foldl (fun cs x=>cs.setIfInBounds (0+x.2) x.1) cells
 |[],j,off,cells=>rfl
 | x::l,j,off,cells=>by
   simp only [Um,Vg];rw [ZdR l (j+1) off,XE,Vw]
theorem ZdS:∀(l:List Value) (i:Nat) (cells:Array Value),i+l.length≤cells.size→(l.zipIdx i).foldl (fun cs x=>cs.setIfInBounds (0+x.2) x.1) cells=(cells.toList.take i++l++cells.toList.drop (i+l.length)).toArray
 | [],i,cells,h=>by
   simp only [Uz,List.foldl_nil,Xu,Xz,VZ,X5,VL]
 | x::l,i,cells,h=>by
   simp only [Um,Vg];simp only [Xl] at h;rw [ZdS l (i+1) _ (by simp;omega)];congr 1;rw [XE,Array.toList_setIfInBounds,UJ (by simp;omega)];simp only [List.getElem_set_self,Xl];rw [UK oM,List.drop_set_of_lt oM,show i+1+l.length=i+(l.length+1) by omega];simp
theorem Zmu (kk:Nat):∀(vs:List (List Value)) (i:Nat) (cells:Array Value),cells.size=(i+vs.length)*kk→(∀v∈vs,v.length=kk)→Instr.fill (fun i=>some (i*kk,kk)) cells (((vs.map fun v=>Value.agg v.toArray).zipIdx i).map fun x=>(x.2,x.1))=some (cells.toList.take (i*kk)++vs.flatten).toArray
 | [],i,cells,h,_=>by
   simp only [Vl,Uz,Instr.fill,List.flatten_nil,Xu];simp only [Xz,VZ] at h;rw [Xq (by simp;omega)]
 | v ::vs,i,cells,h,h1=>by
   have hv:=h1 v sM;have hcs:(Value.agg v.toArray).cells=v.toArray:=rfl;have hle:(i+1)*kk≤cells.size:=by rw [h];exact Vn _ sM
   rw [Vi] at hle;have hc:¬((Value.agg v.toArray).cells.size≠kk||decide (i*kk+(Value.agg v.toArray).cells.size>cells.size))=true:=by rw [hcs];simp;omega
   simp only [Xj,Um,Instr.fill,hc,if_false];rw [hcs,←Array.foldl_toList,Array.toList_zipIdx,ZdR,ZdS _ _ _ (by simp;omega)];have:=Zmu kk vs (i+1) (cells.toList.take (i*kk+0)++v++cells.toList.drop (i*kk+0+v.length)).toArray (by
    simp only [Vz,Xf,XG,UB,XX];rw [Vc oM];rw [Xl] at h;rw [h,show i+1+vs.length=i+(vs.length+1) by omega] at*;omega) (fun u hu=>h1 u (by simp [hu]))
   simp only [VL] at this ⊢;rw [this];congr 2;rw [XW,←XA];congr 1;rw [List.take_append_of_le_length (by simp;rw [Vi,Vc oM];omega)];rw [Xq (by simp;rw [Vi,Vc oM];omega)];simp
theorem Sz {t e kk bytes m:Nat} {z:Value} {xs:List Operand} {parts:Array (Nat×Operand)} {es:List Ent} {cs:List (List PV)} (d:Nat) (hT:ElT P t e kk bytes z)
 (k:∀h:Value,h.oneCell'=true→aL P c ops Q rest ⟨put d (h, .val h) sL,put d (h, .own e kk m cs.flatten) hP⟩) (hw:ZP ops sL o=some true:=by exact rfl) (hd:o.dst=some d:=by exact rfl) (hn:d<c.nt:=by exact Xa rfl) (ho:o.op= .buildSlice t m parts:=by exact rfl) (hpt:parts=((xs.zipIdx).map fun x=>(x.2,x.1)).toArray:=by exact rfl) (hx:evL sL xs=some es:=by exact rfl)
 (hcs:es.map (·.2)=cs.map PV.agg:=by exact rfl) (hck:∀q∈cs,q.length=kk:=by simp) (hm:es.length=m:=by exact rfl) (hm0:0<m:=by decide) (hm1:m≤1000:=by decide) (hk0:kk≤1000:=by decide) (hl:lk hP d=none:=by exact rfl):aL P c ops Q (o::rest) (⟨sL,hP⟩:St):=
 Y4 hw fun a w F H=>by
  obtain ⟨i,hi1,hi2,hi3,hi4⟩:=hT.info;obtain ⟨he,hS⟩:=TA H.rd hx;have hkp:=hT.hk;have key : ∀(es:List Ent) (cs:List (List PV)),es.map (·.2)=cs.map PV.agg→(∀q∈cs,q.length=kk)→(∀(i:Nat) (x:Value) (q:PV),(es.map (·.1))[i]? =some x→(es.map (·.2))[i]? =some q→Shr (mof c hP F) w x q)→∃us:List (List Value),es.map (·.1)=us.map (fun v=>Value.agg v.toArray)∧us.length=es.length∧(∀u∈us,u.length=kk)∧us.flatten.length=cs.flatten.length∧∀(i:Nat) (x:Value) (q:PV),us.flatten[i]? =some x→cs.flatten[i]? =some q→Shr (mof c hP F) w x q:=fun es=>by
   induction es with
   | nil=>
     intro cs h1 _ _
     cases cs with
     |nil=>exact ⟨[],rfl,rfl,sM,rfl,sM⟩
     |cons q cs=>simp at h1
   | cons e0 es ih=>
     intro cs h1 h2 h3
     cases cs with
     |nil=>simp at h1
     | cons q cs=>
       simp only [Xj,List.cons.injEq] at h1;obtain ⟨us,g1,g2,g3,g4,g5⟩:=ih cs h1.2 (fun u hu=>h2 u (Xw _ hu)) (fun i x q hx hq=>h3 (i+1) x q (by simpa using hx) (by simpa using hq));have h4:=h3 0 e0.1 e0.2 rfl rfl;rw [h1.1] at h4;generalize hv0:e0.1=v0 at h4;have hqk:=h2 q (Xs ..)
       cases h4 with
       | agg vs ps hvl hTT=>
         refine ⟨vs::us,by rw [Xj,Xj,hv0,g1],by simp [g2],fun u hu=>?_,by rw [XW,XW,Xf,Xf,g4,hvl],fun i x r hx hr=>?_⟩
         · rcases Xk.1 hu with rfl|hu
           · omega
           · exact g3 u hu
         · rw [XW] at hx hr;rcases XD i vs.length with hi|hi
           · rw [X0 hi] at hx;rw [X0 oM] at hr;exact hTT i x r hx hr
           · rw [X' hi] at hx;rw [X' oM] at hr;refine g5 (i-vs.length) x r hx ?_;rw [hvl];exact hr
  obtain ⟨us,u1,u2,u3,u4,u5⟩:=key es cs hcs hck hS;have hfl:us.flatten.length=m*kk:=by
   have:∀us:List (List Value),(∀u∈us,u.length=kk)→us.flatten.length=us.length*kk:=fun us=>by
    induction us with
    |nil=>intro _;simp
    | cons u us ih=>
      intro h;rw [XW,Xf,h u (Xs ..),ih fun v hv=>h v (Xw _ hv),Xl,Vi];omega
   rw [this us u3,u2,hm]
  have hmk:m*kk≤1000000:=XJ (Nat.mul_le_mul hm1 hk0) dC;have hmk0:0<m*kk:=Nat.mul_pos hm0 hkp;obtain ⟨F',H'⟩:=Kd (e:=e) (k:=kk) (n:=m) (cap:=m) (cur:=us.flatten.toArray) (v:= .slice (some ⟨w.heap.size,0,none⟩) m m) H hl hn (vs:=us.flatten) (ps:=cs.flatten) u4 u5 (by first|omega|exact hfl|(rw [hfl])|(rw [VC];exact hfl)) (Xe _) (by unfold maxLen;omega) (by simp;rw [←List.length_flatten,hfl]) (Xq (by simp;rw [←List.length_flatten,hfl];omega));have hf:=Zmu kk us 0 ((Array.range (m*i.size)).map (z.cells[· % z.cells.size]!)) (by simp [hi3,u2,hm]) u3;have hpe:(parts.map fun (i,x)=>(i,a.eval x)).toList=((us.map fun v=>Value.agg v.toArray).zipIdx 0).map fun x=>(x.2,x.1):=by
   rw [hpt,←u1,←he];simp [List.zipIdx_map]
  have hr:=run_buildSlice (P:=P) w t e m (parts.map fun (i,x)=>(i,a.eval x)) us.flatten.toArray i z hT.ht hi1 hi2 (by rw [hi3];omega) (by rw [hi3];omega) (by rw [hpe,hi3];rw [hi3] at hf;simpa using hf);unfold Oper.wp execOp;simp only [ho,Sem.run_bind,hr,Result.andThen_ok,Sem.run_pure,Oper.upon,hd];exact k (.slice (some ⟨w.heap.size,0,none⟩) m m) rfl _ _ ⟨F',H'⟩
end
def Rr (p p':PV):Prop:=∀(M:BS) (w:World) (v:Value),Shr M w v p→Shr M w v p'
theorem Rr.rfl' (p:PV):Rr p p:=fun _ _ _ h=>h
theorem Rr.nil:Rr (.val (.slice none 0 0)) (.sl 0 []):=fun M w v h=>by
 cases h with
 |val=>exact .emp none 0 (by unfold maxLen;omega) (fun _=>rfl)
theorem Rr.agg {ps ps':List PV} (hl:ps.length=ps'.length) (h:∀(i:Nat) (p p':PV),ps[i]? =some p→ps'[i]? =some p'→Rr p p'):Rr (.agg ps) (.agg ps'):=fun M w v hv=>by
 cases hv with
 | agg vs ps hvl hT=>
   refine .agg vs ps' oM fun i x q hx hq=>?_;obtain ⟨p,hp⟩:=YB hq hl.symm;exact h i p q hp hq M w x (hT i x p hx hp)
theorem Rr.tup {ps ps':List PV} (hl:ps.length=ps'.length) (h:∀(i:Nat) (p p':PV),ps[i]? =some p→ps'[i]? =some p'→Rr p p'):Rr (.tup ps) (.tup ps'):=fun M w v hv=>by
 cases hv with
 | tup vs ps hvl hT=>
   refine .tup vs ps' oM fun i x q hx hq=>?_;obtain ⟨p,hp⟩:=YB hq hl.symm;exact h i p q hp hq M w x (hT i x p hx hp)
theorem Rr.tup2 {p p' q:PV} (h:Rr p p'):Rr (.tup [p,q]) (.tup [p',q]):=Rr.tup rfl fun i a b ha hb=>by
 match i with
 |0=>cases ha;cases hb;exact h
 |1=>cases ha;cases hb;exact Rr.rfl' _
 |i+2=>simp at ha
theorem AF.reread {P:Program} {f:Nat} {ps:List PV} {p p':PV} (h:AF P f ps (· =p)) (hs:shD p=true) (hr:Rr p p'):AF P f ps (· =p'):=fun M w vs hM hl hv=>
 (h M w vs hM hl hv).mono fun e w' ⟨v,q,F,h1,h2,h3,h4,h5,h6⟩=>by
   subst h2;refine ⟨v,p',fun _=>False,h1,rfl,h3, .shr (hr _ _ _ ((h4.shD hs).anti fun b _ hb=>?_)) (fun _ h=>h),fun b hb=>hb.elim,h6⟩;rcases hb with hb|hb
   · exact .inl hb
   · exact hb.elim
theorem ZdT {sL hP:List (Nat×Ent)} {t:Nat} {v:Value} {p p':PV} (hl:lk sL t=some (v,p)) (hr:Rr p p'):J1 (⟨sL,hP⟩:St) (fun _:Unit=>⟨put t (v,p') sL,hP⟩):=fun c a w ⟨F,H⟩=>by
 refine ⟨(),F,H.toHeapF,fun s u r hs=>?_,H.size,H.df⟩
 rcases ZZ hs with ⟨rfl,e1⟩|⟨_,hs'⟩
 · cases e1;exact ⟨(H.sl t _ _ hl).1,hr _ _ _ (H.sl t _ _ hl).2⟩
 · exact H.sl s u r hs'
end Go.En
namespace Go.Proofs.YteiincihiagidaaGreat
open Go.RowKit Go.Cb Go.En Tryz
theorem W8:AggT prog 24 3=true:=kR
theorem Zf1:ElT prog 198 3 1 8 (.int .i64 0):=⟨underlying198,by kernel_rfl,rfl,dC⟩
theorem SS:FldT prog 24 0 0=true:=kR
theorem SU:FldT prog 24 1 1=true:=kR
theorem SV:FldT prog 24 2 2=true:=kR
theorem Oq:NoAgg prog 22=true:=kR
theorem PX:NoAgg prog 3=true:=kR
theorem Hi:NoAgg prog 9=true:=kR
theorem ζB:SlT prog 198 3 1=true:=kR
theorem KE:SlT prog 22 24 3=true:=kR
theorem Ot:ZeroT prog 24 (.agg #[(.int .i64 0),(.string ByteArray.empty),(.slice none 0 0)]):=by unfold ZeroT;kernel_rfl
theorem Zr6 {P:Program} {st:St} {o:Oper} {x y:Operand} {t t':TypeId} {a b:Int} {q q':PV} (ho:o.op= .call {callee:= .builtin .min,args:= #[x,y],argTypes:= #[t,t']}:=by exact rfl) (hx:ev st.slots x=some (.int .i64 a,q):=by exact rfl) (hy:ev st.slots y=some (.int .i64 b,q'):=by exact rfl):YE P st o (· = .int .i64 (if b<a then b else a)) (.val (.int .i64 (if b<a then b else a))):=
 y2 hx hy fun ρ w h1 h2=>by
  simp [execOp,ho,h1,h2,resolve,invoke,builtin,Builtin.min_,Builtin.min2]
theorem ζC (s:Int):AF prog 227 [Zc s] (· =Zv false):=by
 refine AF.b1 6 func227 rfl ntmps227 (Xa rfl) ?_
 rintro w0 M0 _ rfl
 refine YK ?_;refine OK ?_;refine ZF ?_
 refine Zf results227 rfl ?_
 simp
theorem Zmv (a b:Int):AF prog 185 [Zc a,Zc b] (· =Zc (LM a b)):=by
 refine AF.b2 20 func185 rfl ntmps185 (Xa rfl) ?_
 rintro w0 M0 _ _ rfl rfl
 refine Pw ?_;refine cV (cA call227 (ζC a)) ?_;refine LA ?_;refine cV (cA call227 (ζC b)) ?_;refine Ta ?_
 refine cCf ?_
 refine ZI ?_
 refine cCf ?_
 refine Jy ?_;refine ZR ?_ ?_<;>intro hb16
 · (
 refine ZI ?_;refine Zf results185 rfl ?_;rw [LM,Qb hb16])
 · (
 refine Jy ?_;refine ZR ?_ ?_<;>intro hb19
 · (
 refine ZI ?_;refine Zf results185 rfl ?_;rw [LM,Qa oM,Qb oM])
 · (
 refine ZI ?_;refine Zf results185 rfl ?_;rw [LM,Qa oM,Qa oM]))
def orL:List Int→Int
 |[]=>0
 |x::l=>if x≠0 then x else orL l
theorem ZjF (a b c:Int):orL [a,b,c]=or3 a b c:=by
 unfold or3
 simp only [orL]
 split
 · rfl
 · split
   · rfl
   · split<;>omega
theorem Zmw (l:List Int) (hl:l.length≤1000):AF prog 176 [pInts l] (· =Zc (orL l)):=by
 refine AF.b1 18 func176 rfl ntmps176 (Xa rfl) fun w0 M0 v0 _=>?_
 refine Px ?_
 refine xL 6 Za (xL 7 (Zy ζB) (xL 8 Za ?_));refine ZF ?_
 refine Y7 (ι:={k:Nat//k≤l.length∧orL l=orL (l.drop k)}) (fun k=>⟨[(3,_,_),(6,_,_),(7,_,_),(8, .int .i64 k.1,Zc k.1)],[]⟩) (fun k=>l.length-k.1) ⟨0,oM,rfl⟩ (fun a w H=>H.weaken sB trivial) ?_
 rintro ⟨k,hk,hp⟩
 dsimp only
 refine Ys ?_ ?_<;>intro hb9
 · (
 obtain ⟨x,hx⟩:=gS l k;have e1:=Z8 (f:=Zc) hx;(have hdr:l.drop k=x::l.drop (k+1):=by rw [Vf (Zd hx)];congr 1;exact (Xr.1 hx).2);refine Zh ?_;refine xM (Zg ζB) ?_;refine yV (ZG PX) ?_;refine ZQ ?_;refine Y' ?_;refine ZR ?_ ?_<;>intro hb14
 · (
 refine ZE ?_;refine Zf results176 rfl ?_;rw [hp,hdr,orL,Qb hb14])
 · (
 refine ZE ?_;refine Zm (
  ⟨k+1,oM,by rw [hp,hdr,orL,Qa hb14]⟩
  ) (by dsimp only;omega) sB trivial))
 · (
 refine ZE ?_;refine Zf results176 rfl ?_;rw [hp,XU oM];rfl)
theorem Zqq:∀a b:List UInt8,Lib.compareBytes a b=if Op.bytesLess a b=true then-1 else if (a==b)=true then 0 else 1
 |[],[]=>by simp [Lib.compareBytes,Op.bytesLess]
 |[],_::_=>by simp [Lib.compareBytes,Op.bytesLess]
 |_::_,[]=>by simp [Lib.compareBytes,Op.bytesLess]
 | x :: a,y::b=>by
   rw [Lib.compareBytes,Zqq a b];simp only [Op.bytesLess,List.cons_beq_cons];by_cases h1:x<y
   · simp [h1]
   · by_cases h2:x=y
     · subst h2;simp [h1]
     · have h3:y<x:=UInt8.lt_of_le_of_ne (UInt8.not_lt.1 h1) (Ne.symm h2);simp [h1,h2,h3]
theorem Zmx (a b:BA) (w:World):(callFunc 248 #[.string a, .string b]).run prog w= .ok (.value (.int .i64 (Z0 a b))) w:=by
 rw [run_callFunc_extern func248 kR kR kR (e:=Extern.BytealgCompare.compare) kR,Lib.run_compareString]
 simp only [Result.andThen]
 rw [Zqq]
 unfold Z0 strLt Kv
 rw [ByteArray.toList_eq,ByteArray.toList_eq]
theorem Zri {st:St} {o:Oper} {x y:Operand} {f:Nat} {u v r:Value} {p q:PV} {ats:Array TypeId} (hc:∀w,(callFunc f #[u,v]).run prog w= .ok (.value r) w) (ho:o.op= .call {callee:= .value (.func f),args:= #[x,y],argTypes:=ats}:=by exact rfl) (hx:ev st.slots x=some (u,p):=by exact rfl) (hy:ev st.slots y=some (v,q):=by exact rfl):YE prog st o (· =r) (.val r):=
 .exact fun M F a w H=>⟨.val _,by
  have h1:=(H.ev hx).1;have h2:=(H.ev hy).1;have hev:a.eval (.func f)= .func (.func f) #[] #[]:=rfl;simp [execOp,ho,resolve,hev,Deferred.ofValue,invoke,h1,h2,hc]⟩
theorem ZdU (a b:BA):AF prog 228 [Zt a,Zt b] (· =Zc (Z0 a b)):=by
 refine AF.b2 8 func228 rfl ntmps228 (Xa rfl) ?_
 rintro w0 M0 _ _ rfl rfl
 refine Sk ?_;refine xM (Zri (Zmx a b)) ?_;refine ZB ?_
 exact Zf results228 rfl rfl
theorem Zb6 (a b:BA):AF prog 186 [Zt a,Zt b] (· =Zc (Z0 a b)):=by
 refine AF.b2 8 func186 rfl ntmps186 (Xa rfl) fun w0 M0 v0 v1 _ _=>?_
 refine Sk ?_;refine cV (cA call228 (ZdU a b)) ?_;refine ZB ?_
 exact Zf results186 rfl rfl
theorem ZjG {l m:List Nd} {k:Nat} {x y:Nd} (hx:l[k]? =some x) (hy:m[k]? =some y):JL (l.drop k) (m.drop k)=if Kc x y≠0 then Kc x y else JL (l.drop (k+1)) (m.drop (k+1)):=by
 rw [Vf (Zd hx),Vf (Zd hy),(Xr.1 hx).2,(Xr.1 hy).2,JL]
theorem ζD {l m:List Nd} {k:Nat} (hk:k≤l.length) (hk':k≤m.length) (h:¬(k<l.length∧k<m.length)):JL (l.drop k) (m.drop k)=if l.length<m.length then-1 else if m.length<l.length then 1 else 0:=by
 rcases XD k l.length with h1|h1
 · have h2:k=m.length:=oM;subst h2;rw [XU (Xe m.length),Vf h1,JL,Qa oM,Qb h1]
 · have h2:k=l.length:=oM;subst h2;rw [XU (Xe l.length),Qa (by omega:¬m.length<l.length)];rcases XD l.length m.length with h3|h3
   · rw [Vf h3,JL,Qb h3]
   · have h4:l.length=m.length:=oM;rw [XU oM,JL,Qa oM]
theorem Zb7 (f:Nat) (l m:List Nd) (hl:l.length≤140737488355328) (hm:m.length≤140737488355328) (hc:∀args w,(callFunc f args).run prog w= .ok (.enter f args) w) (hf:∀x∈l,∀y∈m,AF prog f [pTr x,pTr y] (· =Zc (Kc x y))):AF prog 187 [Yt l,Yt m, .fn f []] (· =Zc (JL l m)):=by
 refine AF.b3 39 func187 rfl ntmps187 (Xa rfl) fun w0 M0 v0 v1 v2 _ _ _=>?_
 refine YK ?_
 refine xL 11 Za (xL 12 (Zy KE) (xL 13 Za ?_));refine ZF ?_
 refine Y7 (ι:={k:Nat//k≤l.length∧k≤m.length∧JL l m=JL (l.drop k) (m.drop k)}) (fun k=>⟨[(0,_,_),(1,_,_),(2,_,_),(11,_,_),(12,_,_),(13, .int .i64 k.1,Zc k.1)],[]⟩) (fun k=>l.length-k.1) ⟨0,oM,oM,rfl⟩ (fun a w H=>H.weaken sB trivial) ?_
 rintro ⟨k,hk,hkm,hp⟩
 dsimp only
 refine Ys ?_ ?_<;>intro hb14
 · (
 obtain ⟨x,hx⟩:=gS l k;have e1:=ZT hx;have e2:=Yg hx;refine Zh ?_;refine xL 15 Za (xL 16 (Zg KE) ?_);refine yU (YD W8) fun v17=>?_;refine Zx zT 3 8 Ot fun h8=>?_;refine Yv ?_;refine Zu 8 W8 ?_;refine Yc ?_;refine xL 18 Za (xL 19 Za (xL 20 (Zy KE) (xL 21 ZcI ?_)));refine ZR ?_ ?_<;>intro hb21
 · (
 refine ZI ?_;refine Zf results187 rfl ?_;rw [hp,ζD hk hkm oM,Qa oM,Qb oM])
 · (
 obtain ⟨y,hy⟩:=gS m k;have e3:=ZT hy;have e4:=Yg hy;have hd:=ZjG hx hy;refine Zh ?_;refine xL 22 Za (xL 23 Za (xL 24 (Zg KE) ?_));refine yU (YD W8) fun v25=>?_;refine Zx zT 3 9 Ot fun h9=>?_;refine Zu 9 W8 ?_;refine OX ?_;refine yU (Zj 8 W8) fun v27=>?_;refine yU (Zj 9 W8) fun v28=>?_;refine cV (LV (f:=f) (ps:=[]) rfl ⟨_,rfl⟩ hc rfl (hf x (Xc hx) y (Xc hy))) ?_;refine Wy ?_;refine cX ?_ ?_<;>intro hb31
 · (
 refine ZE ?_;refine Zf results187 rfl ?_;rw [hp,hd,Qb hb31])
 · (
 refine ZE ?_;refine Zm (
  ⟨k+1,oM,oM,by rw [hp,hd,Qa hb31]⟩
  ) (by dsimp only;omega) sB trivial)))
 · (
 refine Zh ?_;refine xL 34 Za (xL 35 (Zy KE) (xL 36 Za (xL 37 (Zy KE) (xL 38 Wq ?_))));refine ZR ?_ ?_<;>intro hb38
 · (
 refine ZI ?_;refine Zf results187 rfl ?_;rw [hp,ζD hk hkm oM,Qb oM])
 · (
 refine ZI ?_;refine Zf results187 rfl ?_;rw [hp,ζD hk hkm oM,Qa oM,Qa oM]))
theorem Zrj:∀(t u:Nd),FitT t→FitT u→AF prog 164 [pTr t,pTr u] (· =Zc (Kc t u)):=Nd.ind fun o a l ih u hf hg=>by
 obtain ⟨o',a',l'⟩:=u
 have hl:=hf.len
 have hp:=hf.p
 have hl':=hg.len
 have hp':=hg.p
 simp only [Nd.l] at hl hp hl' hp'
 refine AF.b2 22 func164 rfl ntmps164 (Xa rfl) fun w0 M0 v0 v1 _ _=>?_
 have e0:pTr (.mk o a l)= .agg [Zc o,Zt a, .sl l.length (Z9 l)]:=rfl
 have e1:pTr (.mk o' a' l')= .agg [Zc o',Zt a', .sl l'.length (Z9 l')]:=rfl
 rw [e0,e1]
 refine Zh ?_
 refine ZV 2 3 fun h2=>?_;refine ZV 3 3 fun h3=>?_;refine ZB ?_
 refine We [] [2,3] ?_<;>refine xD 0 rfl (Zb 2 SS) ?_<;>(refine yD 1 rfl (Ze 2 PX) fun v6 h=>?_;cases h)<;>refine xD 2 rfl (Zb 3 SS) ?_<;>(refine yD 3 rfl (Ze 3 PX) fun v8 h=>?_;cases h)<;>refine xD 5 rfl (Zb 2 SU) ?_<;>(refine yD 6 rfl (Ze 2 Hi) fun v11 h=>?_;cases h)<;>refine xD 7 rfl (Zb 3 SU) ?_<;>(refine yD 8 rfl (Ze 3 Hi) fun v13 h=>?_;cases h)<;>refine xD 10 rfl (Zb 2 SV) ?_<;>(refine yD 11 rfl (Ze 2 Oq) fun v16 h=>?_;cases h)<;>refine xD 12 rfl (Zb 3 SV) ?_<;>(refine yD 13 rfl (Ze 3 Oq) fun v18 h=>?_;cases h)<;>(refine aDr 4 fun bk=>?_)<;>(refine cV (cA call185 (Zmv o o')) ?_)<;>refine bE bk ?_<;>(refine aDr 9 fun bk=>?_)<;>(refine cV (cA call186 (Zb6 a a')) ?_)<;>refine bE bk ?_<;>(refine aDr 14 fun bk=>?_)<;>(refine cV (cA call187 (Zb7 164 l l' hl hl' (call164) (fun x hx y hy=>ih x hx y (hp x hx) (hp' y hy)))) ?_)<;>refine bE bk ?_<;>(refine aDr 15 fun bk=>?_)<;>(refine Ly (xs:=[_,_,_]) 20 Zf1 fun h20 ho20=>?_;refine Zp (En.freeze (l:=20) (t:=20) rfl rfl) fun _=>?_)<;>refine bE bk ?_<;>(refine aDr 16 fun bk=>?_)<;>(refine cV (cA call176 (Zmw [LM o o',Z0 a a',JL l l'] (by simp only [Xl,Xz];omega))) ?_)<;>refine bE bk ?_<;>refine gEx 17 ?_<;>refine Kz ?_
 refine Zf results164 rfl ?_
 rw [ZjF,Kc]
def SX (t u:Nd):Bool:=decide (Kc t u=0)
theorem Lc {t u:Nd}:SX t u=true↔t=u:=by unfold SX;rw [U8,Gr]
theorem Hj {t u:Nd} (h:t≠u):SX t u=false:=by
 cases hs:SX t u with
 |false=>rfl
 |true=>exact Qc (Lc.1 hs) h
theorem Zrk {o o':Int} {a a':BA} {l l':List Nd} (h1:o=o') (h2:a=a') (h3:l.length=l'.length) (h4:∀(j:Nat) (x y:Nd),l[j]? =some x→l'[j]? =some y→x=y):Nd.mk o a l=Nd.mk o' a' l':=by
 have:l=l':=by
  apply Ua;intro i;rcases XD i l.length with h|h
  · obtain ⟨x,hx⟩:=get_some h;obtain ⟨y,hy⟩:=get_some (show i<l'.length by omega);rw [hx,hy,h4 i x y hx hy]
  · rw [Vo h,Vo oM]
 rw [h1,h2,this]
def nd0:Nd:= .mk 0 ByteArray.empty []
theorem Zhx:FitT nd0:= .mk _ (Xg _) (Xg _) dC dC (fun x hx=>by cases hx)
def SY:PV:= .agg [.val (.int .i64 0), .val (.string ByteArray.empty), .val (.slice none 0 0)]
theorem ζE:Rr SY (pTr nd0):=Rr.agg rfl fun i a b ha hb=>by
 match i with
 |0=>cases ha;cases hb;exact Rr.rfl' _
 |1=>cases ha;cases hb;exact Rr.rfl' _
 |2=>cases ha;cases hb;exact Rr.nil
 |i+3=>simp at ha
theorem ZdV {o o':Int} {a a':BA} {l l':List Nd} (h1:o=o') (h2:a=a'):SX (.mk 0 ByteArray.empty l) (.mk 0 ByteArray.empty l')=SX (.mk o a l) (.mk o' a' l'):=by
 subst h1 h2
 rw [VM,Lc,Lc]
 exact ⟨fun h=>by injection h with h1 h2 h3;rw [h3],fun h=>by injection h with h1 h2 h3;rw [h3]⟩
theorem Zf2 (f :Nat) (l m:List Nd) (hl:l.length≤140737488355328) (hm:m.length≤140737488355328) (hc:∀args w,(callFunc f args).run prog w= .ok (.enter f args) w) (hf:∀x∈l,∀y∈m,AF prog f [pTr x,pTr y] (· =Zv (SX x y))):AF prog 188 [Yt l,Yt m, .fn f []] (· =Zv (SX (.mk 0 ByteArray.empty l) (.mk 0 ByteArray.empty m))):=by
 refine AF.b3 32 func188 rfl ntmps188 (Xa rfl) fun w0 M0 v0 v1 v2 _ _ _=>?_
 refine YK ?_
 refine xL 10 Za (xL 11 (Zy KE) (xL 12 Za (xL 13 (Zy KE) (xL 14 Pa ?_))));refine ZR ?_ ?_<;>intro hb14
 · (
 refine ZI ?_;refine Zf results188 rfl ?_;rw [Hj fun h=>?_];injection h with h1 h2 h3;subst h3;omega)
 · (
 have hll:l.length=m.length:=oM;refine Zh ?_;refine xL 15 Za (xL 16 (Zy KE) (xL 17 Za ?_));refine ZF ?_;refine Y7 (ι:={k:Nat//k≤l.length∧∀j x y,j<k→l[j]? =some x→m[j]? =some y→x=y}) (fun k=>⟨[(1,_,_),(2,_,_),(15,_,_),(16,_,_),(17, .int .i64 k.1,Zc k.1)],[]⟩) (fun k=>l.length-k.1) ⟨0,oM,oM⟩ (fun a w H=>H.weaken sB trivial) ?_;rintro ⟨k,hk,hp3⟩;dsimp only;refine Ys ?_ ?_<;>intro hb18
 · (
 obtain ⟨x,hx⟩:=gS l k;obtain ⟨y,hy⟩:=gS m k;have e1:=ZT hx;have e2:=Yg hx;have e3:=ZT hy;have e4:=Yg hy;refine Zh ?_;refine xL 19 Za (xL 20 (Zg KE) ?_);refine yU (YD W8) fun v21=>?_;refine Zx zT 3 8 Ot fun h8=>?_;refine Yv ?_;refine Zu 8 W8 ?_;refine Yc ?_;refine xL 22 Za (xL 23 Za (xL 24 (Zg KE) ?_));refine yU (YD W8) fun v25=>?_;refine Zx zT 3 9 Ot fun h9=>?_;refine Zu 9 W8 ?_;refine OX ?_;refine yU (Zj 8 W8) fun v27=>?_;refine yU (Zj 9 W8) fun v28=>?_;refine cV (LV (f:=f) (ps:=[]) rfl ⟨_,rfl⟩ hc rfl (hf x (Xc hx) y (Xc hy))) ?_;refine YX ?_ ?_<;>intro hb30
 · (
 refine ZI ?_;refine Zf results188 rfl ?_;rw [Hj fun h=>?_];injection h with h1 h2 h3;subst h3;rw [hx] at hy
 cases hy;rw [Lc.2 rfl] at hb30
 cases hb30)
 · (
 refine ZE ?_;refine Zm (
  ⟨k +1,oM,fun j u v hj hu hv=>by
   by_cases e:j=k
   · subst e;rw [hx] at hu;rw [hy] at hv;cases hu;cases hv;exact Lc.1 (by simpa using hb30)
   · exact hp3 j u v oM hu hv⟩
  ) (by dsimp only;omega) sB trivial))
 · (
 refine ZI ?_;refine Zf results188 rfl ?_;rw [Lc.2 (Zrk rfl rfl hll fun j u v hu hv=>hp3 j u v (by have:=Zd hu;omega) hu hv)]))
theorem Zpe:∀(t u:Nd),FitT t→FitT u→AF prog 166 [pTr t,pTr u] (· =Zv (SX t u)):=Nd.ind fun o a l ih u hf hg=>by
 obtain ⟨o',a',l'⟩:=u
 have hl:=hf.len
 have hp:=hf.p
 have hl':=hg.len
 have hp':=hg.p
 simp only [Nd.l] at hl hp hl' hp'
 refine AF.b2 24 func166 rfl ntmps166 (Xa rfl) fun w0 M0 v0 v1 _ _=>?_
 have e0:pTr (.mk o a l)= .agg [Zc o,Zt a, .sl l.length (Z9 l)]:=rfl
 have e1:pTr (.mk o' a' l')= .agg [Zc o',Zt a', .sl l'.length (Z9 l')]:=rfl
 rw [e0,e1]
 refine Zh ?_
 refine ZV 2 3 fun h2=>?_;refine ZV 3 3 fun h3=>?_;refine ZQ ?_
 (refine xM (Zb 2 SS) ?_<;>refine yV (Ze 2 PX) ?_<;>refine xM (Zb 3 SS) ?_<;>refine yV (Ze 3 PX) ?_<;>refine YW ?_<;>(refine bLd 10 (fun hb10=>?_) (fun hb10=>?_)<;>(first|refine kL ?_|refine xM (Zb 2 SU) ?_))<;>(first|refine kL ?_|refine yV (Ze 2 Hi) ?_)<;>(first|refine kL ?_|refine xM (Zb 3 SU) ?_)<;>(first|refine kL ?_|refine yV (Ze 3 Hi) ?_)<;>refine GI ?_<;>(first|refine kL ?_|(refine bL 17 (fun hb17=>?_) (fun hb17=>?_)<;>(first|refine kL ?_|refine xM (Zb 2 SV) ?_)))<;>(first|refine kL ?_|refine yU (Ze 2 Oq) fun v19=>?_)<;>(first|refine kL ?_|refine xM (Zb 3 SV) ?_)<;>(first|refine kL ?_|refine yU (Ze 3 Oq) fun v21=>?_)<;>(first|refine kL ?_|(refine cV (cA call188 (Zf2 166 l l' hl hl' (call166) (fun x hx y hy=>ih x hx y (hp x hx) (hp' y hy)))) ?_))<;>refine YJ ?_)<;>(
 refine Zf results166 rfl ?_
 first
  |(rw [Hj fun h=>by injection h with h1 h2 h3;omega];done)
  |(rw [Hj fun h=>by injection h with h1 h2 h3;subst h2;simp at hb17];done)
  |(rw [ZdV hb10 (KB.1 hb17)];done))
theorem Zf3 (f:Nat) (p:Nd→Bool) (l:List Nd) (hl:l.length≤140737488355328) (hc:∀args w,(callFunc f args).run prog w= .ok (.enter f args) w) (hf:∀s∈l,AF prog f [pTr s] (· =Zv (p s))):AF prog 86 [Yt l, .fn f []] (· =Zc (idx p l)):=by
 refine AF.b2 19 func86 rfl ntmps86 (Xa rfl) fun w0 M0 v0 v1 _ _=>?_
 refine YK ?_
 refine xL 6 Za (xL 7 (Zy KE) (xL 8 Za ?_));refine ZF ?_
 refine Y7 (ι:={k:Nat//k≤l.length∧∀i y,i<k→l[i]? =some y→p y=false}) (fun k=>⟨[(0,_,_),(1,_,_),(7,_,_),(8, .int .i64 k.1,Zc k.1)],[]⟩) (fun k=>l.length-k.1) ⟨0,oM,oM⟩ (fun a w H=>H.weaken sB trivial) ?_
 rintro ⟨k,hk,hp⟩
 dsimp only
 refine Ys ?_ ?_<;>intro hb9
 · (
 obtain ⟨x,hx⟩:=gS l k;have e1:=ZT hx;have e2:=Yg hx;refine Jm ?_;refine xL 11 Za (xL 12 Za (xL 13 Za (xL 14 (Zg KE) ?_)));refine yU (YD W8) fun v15=>?_;refine cV (LV (f:=f) (ps:=[]) rfl ⟨_,rfl⟩ hc rfl (hf x (Xc hx))) ?_;refine ZR ?_ ?_<;>intro hb16
 · (
 refine ZE ?_;refine Zf results86 rfl ?_;rw [Lp hp hx hb16])
 · (
 refine ZE ?_;refine Zm (
  ⟨k+1,oM,fun i y hi hy=>by
   by_cases e:i=k
   · subst e;rw [hx] at hy;cases hy;exact hb16
   · exact hp i y oM hy⟩
  ) (by dsimp only;omega) sB trivial))
 · (
 refine ZI ?_;refine Zf results86 rfl ?_;rw [Lq fun i y hi hy=>hp i y oM hy])
theorem OP (f:Nat) (p:Nd→Bool) (l:List Nd) (hl:l.length≤140737488355328) (hc:∀args w,(callFunc f args).run prog w= .ok (.enter f args) w) (hf:∀s∈l,AF prog f [pTr s] (· =Zv (p s))):AF prog 43 [Yt l, .fn f []] (· =Zv (l.any p)):=by
 refine AF.b2 9 func43 rfl ntmps43 (Xa rfl) fun w0 M0 v0 v1 _ _=>?_
 refine Sk ?_;refine cV (cA call86 (Zf3 f p l hl hc hf)) ?_;refine YJ ?_
 refine Zf results43 rfl ?_
 rw [Lo]
section
variable {α:Type}
def swp (l:List α) (i j:Nat):List α:=match l[i]?,l[j]? with
 |some x,some y=>(l.set i y).set j x
 |_,_=>l
theorem Zmy {l:List α} {i j:Nat} {x y:α} (hi:l[i]? =some x) (hj:l[j]? =some y):swp l i j=(l.set i y).set j x:=by unfold swp;rw [hi,hj]
theorem Zpf (l:List α) (i j:Nat):(swp l i j).length=l.length:=by unfold swp;split<;>simp
theorem Ou {l:List α} {i j:Nat} (hi:i<l.length) (hj:j<l.length) (k:Nat):(swp l i j)[k]? =if k=j then l[i]? else if k=i then l[j]? else l[k]? :=by
 rw [Zmy (Xx hi) (Xx hj),List.getElem?_set,List.getElem?_set,Xp]
 by_cases h1:k=j
 · subst h1;simp [hj,Xx hi]
 · rw [Qa (fun h=>h1 h.symm),Qa h1];by_cases h2:k=i
   · subst h2;simp [hi,Xx hj]
   · rw [Qa (fun h=>h2 h.symm),Qa h2]
theorem Zmz (l:List α) (i j:Nat):(swp l i j).Perm l:=by
 unfold swp
 split
 · rename_i x y hx hy;obtain ⟨hi,rfl⟩:=Xr.1 hx;obtain ⟨hj,rfl⟩:=Xr.1 hy;exact List.set_set_perm hi hj
 · exact List.Perm.refl _
inductive Sw (a b:Nat):List α→List α→Prop
 |refl (l:List α):Sw a b l l
 |step {l m:List α} (i j:Nat) (h:Sw a b l m) (hi:a≤i) (hi':i<b) (hj:a≤j) (hj':j<b) (hb:b≤l.length):Sw a b l (swp m i j)
theorem Sw.len {a b:Nat} {l m:List α} (h:Sw a b l m):m.length=l.length:=by
 induction h with
 |refl=>rfl
 |step i j h _ _ _ _ _ ih=>rw [Zpf,ih]
theorem Sw.perm {a b:Nat} {l m:List α} (h:Sw a b l m):m.Perm l:=by
 induction h with
 |refl=>exact List.Perm.refl _
 |step i j h _ _ _ _ _ ih=>exact (Zmz _ _ _).trans ih
theorem Sw.out {a b:Nat} {l m:List α} (h:Sw a b l m) {k:Nat} (hk:k<a∨b≤k):m[k]? =l[k]? :=by
 induction h with
 |refl=>rfl
 | step i j h hi hi' hj hj' hb ih=>
   rw [Ou (by rw [h.len];omega) (by rw [h.len];omega),Qa oM,Qa oM,ih]
theorem Sw.mem {a b:Nat} {l m:List α} (h:Sw a b l m):∀{k:Nat} {x:α},a≤k→k<b→m[k]? =some x→∃k',a≤k'∧k'<b∧l[k']? =some x:=by
 induction h with
 |refl=>exact fun h1 h2 h3=>⟨_,h1,h2,h3⟩
 | step i j h hi hi' hj hj' hb ih=>
   intro k x h1 h2 h3;rw [Ou (by rw [h.len];omega) (by rw [h.len];omega)] at h3;split at h3
   · exact ih hi hi' h3
   · split at h3
     · exact ih hj hj' h3
     · exact ih h1 h2 h3
theorem Sw.mono {a b a' b':Nat} {l m:List α} (h:Sw a b l m) (ha:a'≤a) (hb:b≤b') (hl:b'≤l.length):Sw a' b' l m:=by
 induction h with
 |refl=>exact .refl _
 |step i j h hi hi' hj hj' hb' ih=>exact .step i j ih oM oM oM oM hl
theorem Sw.trans {a b:Nat} {l m n:List α} (h:Sw a b l m) (h':Sw a b m n):Sw a b l n:=by
 induction h' with
 |refl=>exact h
 |step i j h2 hi hi' hj hj' hb ih=>exact .step i j ih hi hi' hj hj' (by rw [←h.len];exact hb)
variable (le:α→α→Prop)
def SrtS (a b:Nat) (l:List α):Prop:=∀i j x y,a≤i→i<j→j<b→l[i]? =some x→l[j]? =some y→le x y
theorem SrtS.sub {a b a' b':Nat} {l:List α} (h:SrtS le a b l) (ha:a≤a') (hb:b'≤b):SrtS le a' b' l:=fun i j x y h1 h2 h3=>h i j x y oM h2 oM
theorem SrtS.small {a b:Nat} (l:List α) (h:b≤a+1):SrtS le a b l:=fun i j x y h1 h2 h3=>oM
theorem SrtS.ext {a b:Nat} {l m:List α} (h:SrtS le a b l) (he:∀k,a≤k→k<b→m[k]? =l[k]?):SrtS le a b m:=fun i j x y h1 h2 h3 hx hy=>h i j x y h1 h2 h3 (by rw [←he i oM oM];exact hx) (by rw [←he j oM oM];exact hy)
theorem SrtS.eqv (hr:∀x,le x x) {a b:Nat} {l:List α} (h:SrtS le a b l) {i j:Nat} {x y:α} (h1:a≤i) (h2:i≤j) (h3:j<b) (hx:l[i]? =some x) (hy:l[j]? =some y):le x y:=by
 rcases XD i j with h4|h4
 · exact h i j x y h1 h4 h3 hx hy
 · have:i=j:=oM;subst this;rw [hx] at hy;cases hy;exact hr x
def ZmA (a i j:Nat) (l:List α):Prop:=(∀p q x y,a≤p→p<q→q≤i→p≠j→q≠j→l[p]? =some x→l[q]? =some y→le x y)∧(∀q x y,j<q→q≤i→l[j]? =some x→l[q]? =some y→le x y)
theorem ZjH {a i:Nat} {l:List α} (h:SrtS le a i l):ZmA le a i i l:=⟨fun p q x y h1 h2 h3 h4 h5=>h p q x y h1 h2 oM,fun q x y h1 h2=>oM⟩
theorem ZmB {a i j:Nat} {l:List α} (h:ZmA le a i (j+1) l) (ha:a≤j) (hi:j+1≤i) (hl:i<l.length) {x y:α} (hx:l[j+1]? =some x) (hy:l[j]? =some y) (hle:le x y):ZmA le a i j (swp l (j+1) j):=by
 have hg:=Ou (l:=l) (i:=j+1) (j:=j) oM oM
 refine ⟨fun p q u v h1 h2 h3 h4 h5 hu hv=>?_,fun q u v h1 h2 hu hv=>?_⟩
 · rw [hg] at hu hv;rw [Qa h4] at hu;rw [Qa h5] at hv;by_cases e1:p=j+1
   · rw [Qb e1] at hu;rw [Qa oM] at hv;exact h.1 j q u v ha oM h3 oM oM hu hv
   · rw [Qa e1] at hu;by_cases e2:q=j+1
     · rw [Qb e2] at hv;exact h.1 p j u v h1 oM oM oM oM hu hv
     · rw [Qa e2] at hv;exact h.1 p q u v h1 h2 h3 oM oM hu hv
 · rw [hg,Qb rfl] at hu;rw [hg,Qa oM] at hv;by_cases e2:q=j+1
   · rw [Qb e2] at hv;rw [hu] at hx;rw [hv] at hy;cases hx;cases hy;exact hle
   · rw [Qa e2] at hv;exact h.2 q u v oM h2 hu hv
theorem Zhy (hr:∀x,le x x) (ht:∀x y z,le x y→le y z→le x z) {a i j:Nat} {l:List α} (h:ZmA le a i j l) (hj:a≤j) (hji:j≤i) (hl:i<l.length) (he:j=a∨∃k x y,j=k+1∧l[k]? =some x∧l[j]? =some y∧le x y):SrtS le a (i+1) l:=by
 intro p q x y h1 h2 h3 hx hy
 by_cases e1:p=j
 · subst e1;exact h.2 q x y h2 oM hx hy
 · by_cases e2:q=j
   · subst e2;rcases he with he|⟨k,u,v,he,hu,hv,hle⟩
     · omega
     · rw [hy] at hv;cases hv;by_cases e3:p=k
       · subst e3;rw [hx] at hu;cases hu;exact hle
       · exact ht _ _ _ (h.1 p k x u h1 oM oM e1 oM hx hu) hle
   · exact h.1 p q x y h1 h2 oM e1 e2 hx hy
def Mov (a b k i:Nat) (l:List α):Prop:=(∀p q x y,a≤p→p<q→q<b→p≠k→q≠k→l[p]? =some x→l[q]? =some y→le x y)∧∀q x y,a≤q→q<b→q≠k→l[k]? =some x→l[q]? =some y→if q<i then le y x else le x y
theorem ZjI {a b k i:Nat} {l:List α} (h:Mov le a b k i l) (ha:a≤k) (hk:k+1<i) (hi:i≤b) (hl:b≤l.length):Mov le a b (k+1) i (swp l k (k+1)):=by
 have hg:=Ou (l:=l) (i:=k) (j:=k+1) oM oM
 refine ⟨fun p q u v h1 h2 h3 h4 h5 hu hv=>?_,fun q u v h1 h2 h3 hu hv=>?_⟩
 · rw [hg,Qa h4] at hu;rw [hg,Qa h5] at hv;by_cases e1:p=k
   · rw [Qb e1] at hu;rw [Qa oM] at hv;exact h.1 (k+1) q u v oM oM h3 oM oM hu hv
   · rw [Qa e1] at hu;by_cases e2:q=k
     · rw [Qb e2] at hv;exact h.1 p (k+1) u v h1 oM oM oM oM hu hv
     · rw [Qa e2] at hv;exact h.1 p q u v h1 h2 h3 e1 e2 hu hv
 · rw [hg,Qb rfl] at hu;rw [hg,Qa h3] at hv;by_cases e2:q=k
   · rw [Qb e2] at hv;have:=h.2 (k+1) u v oM oM oM hu hv;rw [Qb oM] at this;rw [Qb oM];exact this
   · rw [Qa e2] at hv;exact h.2 q u v h1 h2 e2 hu hv
theorem Zad {a b k i:Nat} {l:List α} (h:Mov le a b k i l) (hk:i=k+1):SrtS le a b l:=by
 intro p q x y h1 h2 h3 hx hy
 by_cases e1:p=k
 · subst e1;have:=h.2 q x y oM h3 oM hx hy;rw [Qa oM] at this;exact this
 · by_cases e2:q=k
   · subst e2;have:=h.2 p y x h1 oM oM hy hx;rw [Qb oM] at this;exact this
   · exact h.1 p q x y h1 h2 h3 e1 e2 hx hy
theorem ZmC {a b k i:Nat} {l:List α} (h:Mov le a b (k+1) i l) (hi:a≤i) (hik:i≤k) (hk:k+1<b) (hl:b≤l.length):Mov le a b k i (swp l (k+1) k):=by
 have hg:=Ou (l:=l) (i:=k+1) (j:=k) oM oM
 refine ⟨fun p q u v h1 h2 h3 h4 h5 hu hv=>?_,fun q u v h1 h2 h3 hu hv=>?_⟩
 · rw [hg,Qa h4] at hu;rw [hg,Qa h5] at hv;by_cases e1:p=k+1
   · rw [Qb e1] at hu;rw [Qa oM] at hv;exact h.1 k q u v oM oM h3 oM oM hu hv
   · rw [Qa e1] at hu;by_cases e2:q=k+1
     · rw [Qb e2] at hv;exact h.1 p k u v h1 oM oM oM oM hu hv
     · rw [Qa e2] at hv;exact h.1 p q u v h1 h2 h3 e1 e2 hu hv
 · rw [hg,Qb rfl] at hu;rw [hg,Qa h3] at hv;by_cases e2:q=k+1
   · rw [Qb e2] at hv;have:=h.2 k u v oM oM oM hu hv;rw [Qa oM] at this;rw [Qa oM];exact this
   · rw [Qa e2] at hv;exact h.2 q u v h1 h2 e2 hu hv
theorem Zb8 {a b k:Nat} {l:List α} (h:Mov le a b k k l):SrtS le a b l:=by
 intro p q x y h1 h2 h3 hx hy
 by_cases e1:p=k
 · subst e1;have:=h.2 q x y oM h3 oM hx hy;rw [Qa oM] at this;exact this
 · by_cases e2:q=k
   · subst e2;have:=h.2 p y x h1 oM oM hy hx;rw [Qb oM] at this;exact this
   · exact h.1 p q x y h1 h2 h3 e1 e2 hx hy
theorem ZjJ {a b i:Nat} {l:List α} (hs:SrtS le (a+1) b l) (hi:a+1≤i) (h1:∀q x y,a+1≤q→q<i→l[a]? =some x→l[q]? =some y→le y x) (h2:∀q x y,i≤q→q<b→l[a]? =some x→l[q]? =some y→le x y):Mov le a b a i l:=
 ⟨fun p q x y h3 h4 h5 h6 h7=>hs p q x y oM h4 h5,fun q x y h3 h4 h5 hx hy=>by
  by_cases h6:q<i
  · rw [Qb h6];exact h1 q x y oM h6 hx hy
  · rw [Qa h6];exact h2 q x y oM h4 hx hy⟩
theorem ZmD {a m i:Nat} {l:List α} (hs:SrtS le a m l) (hi:i≤m) (h1:∀q x y,a≤q→q<i→l[m]? =some x→l[q]? =some y→le y x) (h2:∀q x y,i≤q→q<m→l[m]? =some x→l[q]? =some y→le x y):Mov le a (m+1) m i l:=
 ⟨fun p q x y h3 h4 h5 h6 h7=>hs p q x y h3 h4 oM,fun q x y h3 h4 h5 hx hy=>by
  by_cases h6:q<i
  · rw [Qb h6];exact h1 q x y h3 h6 hx hy
  · rw [Qa h6];exact h2 q x y oM oM hx hy⟩
def R7 (a m b k:Nat):Nat:=if k<a∨b≤k then k else if k-a<b-m then m+(k-a) else a+(k-a-(b-m))
def srI (a b n k:Nat):Nat:=if a≤k∧k<a+n then b+(k-a) else if b≤k∧k<b+n then a+(k-b) else k
theorem ZmE {m i j k:Nat} (hij:j<i) (him:i≤m):srI (m-i) m j (R7 (m-i+j) m (m+j) k)=R7 (m-i) m (m+j) k:=by
 unfold R7 srI
 (repeat' split)<;>omega
theorem ZmF {m i j k:Nat} (hij:i<j) (him:i≤m):srI (m-i) (m+j-i) i (R7 (m-i) m (m+j-i) k)=R7 (m-i) m (m+j) k:=by
 unfold R7 srI
 (repeat' split)<;>omega
theorem Zrl {m i k:Nat} (him:i≤m):srI (m-i) m i k=R7 (m-i) m (m+i) k:=by
 unfold R7 srI
 split<;>split<;>(try split)<;>(try split)<;>omega
theorem Zpg {l l0:List α} {a b i n:Nat} (hi:i<n) (hab:a+n≤b) (hb:b+n≤l.length) (h:∀k,l[k]? =l0[srI a b i k]?):∀k,(swp l (a+i) (b+i))[k]? =l0[srI a b (i+1) k]? :=by
 intro k
 rw [Ou oM oM,h,h,h]
 unfold srI
 by_cases e1:k=b+i
 · subst e1;rw [Qb rfl,Qa oM,Qa oM,Qa oM,Qb oM];congr 1;omega
 · rw [Qa e1];by_cases e2:k=a+i
   · subst e2;rw [Qb rfl,Qa oM,Qa oM,Qb oM];congr 1;omega
   · rw [Qa e2];congr 1;split<;>split<;>(try split)<;>(try split)<;>omega
theorem Zph (a b k:Nat):srI a b 0 k=k:=by unfold srI;split<;>(try split)<;>omega
def Thr (lo hi p s r:Nat) (l:List α):Prop:=lo≤s∧s≤r∧r≤hi∧(∀c x y,lo≤c→c<s→l[c]? =some x→l[p-c]? =some y→le x y)∧(∀c x y,r≤c→c<hi→l[c]? =some x→l[p-c]? =some y→le y x)
theorem ZjK {lo hi p:Nat} (l:List α) (h:lo≤hi):Thr le lo hi p lo hi l:=⟨Xe _,h,Xe _,fun c x y h1 h2=>oM,fun c x y h1 h2=>oM⟩
section
variable {le}
theorem ZmG (hr:∀x,le x x) (ht:∀x y z,le x y→le y z→le x z) {a m b lo hi p s r c:Nat} {l:List α} (h:Thr le lo hi p s r l) (h1:SrtS le a m l) (h2:SrtS le m b l) (hc:s≤c) (hc':c<r) (hlo:a≤lo) (hhi:hi≤m) (hp:p<lo+b) (hp':m+hi≤p+1) (hb:b≤l.length) {x y:α} (hx:l[c]? =some x) (hy:l[p-c]? =some y) (hle:le x y):Thr le lo hi p (c+1) r l:=by
 obtain ⟨e1,e2,e3,e4,e5⟩:=h
 refine ⟨oM,oM,e3,fun k u v k1 k2 hu hv=>?_,e5⟩
 have a1:le u x:=h1.eqv le hr oM (show k≤c by omega) oM hu hx
 have a2:le y v:=h2.eqv le hr oM (show p-c≤p-k by omega) oM hy hv
 exact ht _ _ _ a1 (ht _ _ _ hle a2)
theorem ZdW (hr:∀x,le x x) (ht:∀x y z,le x y→le y z→le x z) {a m b lo hi p s r c:Nat} {l:List α} (h:Thr le lo hi p s r l) (h1:SrtS le a m l) (h2:SrtS le m b l) (hc:s≤c) (hc':c<r) (hlo:a≤lo) (hhi:hi≤m) (hp:p<lo+b) (hp':m+hi≤p+1) (hb:b≤l.length) {x y:α} (hx:l[c]? =some x) (hy:l[p-c]? =some y) (hle:le y x):Thr le lo hi p s c l:=by
 obtain ⟨e1,e2,e3,e4,e5⟩:=h
 refine ⟨e1,oM,oM,e4,fun k u v k1 k2 hu hv=>?_⟩
 have a1:le x u:=h1.eqv le hr oM (show c≤k by omega) oM hx hu
 have a2:le v y:=h2.eqv le hr oM (show p-k≤p-c by omega) oM hv hy
 exact ht _ _ _ a2 (ht _ _ _ hle a1)
def loM (a m b:Nat):Nat:=if (a+b) / 2<m then (a+b) / 2+m-b else a
def hiM (a m b:Nat):Nat:=if (a+b) / 2<m then (a+b) / 2 else m
theorem ZmH {a m b:Nat} (h1:a<m) (h2:m<b):a≤loM a m b∧loM a m b≤hiM a m b∧hiM a m b≤m∧(a+b) / 2+m-1<loM a m b+b∧m+hiM a m b≤(a+b) / 2+m-1+1∧loM a m b≤m∧hiM a m b≤(a+b) / 2:=by
 unfold loM hiM;split<;>omega
theorem ZjL (hr:∀x,le x x) (ht:∀x y z,le x y→le y z→le x z) {a m b s:Nat} {l l1:List α} (ham:a<m) (hmb:m<b) (hb:b≤l.length) (h1:SrtS le a m l) (h2:SrtS le m b l) (h:Thr le (loM a m b) (hiM a m b) ((a+b) / 2+m-1) s s l)
 (hrot:∀k,l1[k]? =l[R7 s m ((a+b) / 2+m-s) k]?):
 SrtS le a s l1∧SrtS le s ((a+b) / 2) l1∧SrtS le ((a+b) / 2) ((a+b) / 2+m-s) l1∧SrtS le ((a+b) / 2+m-s) b l1∧a≤s∧s≤(a+b) / 2∧(a+b) / 2≤(a+b) / 2+m-s∧(a+b) / 2+m-s≤b∧
 ∀p q x y,a≤p→p<(a+b) / 2→(a+b) / 2≤q→q<b→l1[p]? =some x→l1[q]? =some y→le x y:=by
 obtain ⟨o1,o2,o3,o4,o5,o6,o7⟩:=ZmH ham hmb
 obtain ⟨e1,e2,e3,e4,e5⟩:=h
 have hM1:a≤(a+b) / 2:=oM
 have hM2:(a+b) / 2<b:=oM
 have hend:loM a m b=a∨loM a m b=(a+b) / 2+m-b:=by unfold loM;split<;>simp
 have hhi:hiM a m b=m∨hiM a m b=(a+b) / 2:=by unfold hiM;split<;>simp
 have hlohi:(loM a m b=a∧hiM a m b=m)∨(loM a m b=(a+b) / 2+m-b∧hiM a m b=(a+b) / 2∧(a+b) / 2<m):=by unfold loM hiM;split<;>omega
 generalize hmid:(a+b) / 2=mid at*
 have hsm:s≤m:=oM
 have hsmid:s≤mid:=oM
 have hE1:mid+m-s≤b:=oM
 have g1:∀k,k<s→l1[k]? =l[k]? :=fun k hk=>by rw [hrot];congr 1;unfold R7;rw [Qb oM]
 have g2:∀k,s≤k→k<mid→l1[k]? =l[m+(k-s)]? :=fun k hk hk'=>by rw [hrot];congr 1;unfold R7;rw [Qa oM,Qb oM]
 have g3:∀k,mid≤k→k<mid+m-s→l1[k]? =l[s+(k-mid)]? :=fun k hk hk'=>by rw [hrot];congr 1;unfold R7;rw [Qa oM,Qa oM];omega
 have g4:∀k,mid+m-s≤k→l1[k]? =l[k]? :=fun k hk=>by rw [hrot];congr 1;unfold R7;rw [Qb oM]
 refine ⟨?_,?_,?_,?_,oM,oM,oM,hE1,?_⟩
 · exact (h1.sub le (Xe _) hsm).ext le fun k h3 h4=>g1 k h4
 · intro i j x y k1 k2 k3 hx hy;rw [g2 i k1 oM] at hx;rw [g2 j oM k3] at hy;exact h2 _ _ x y oM oM oM hx hy
 · intro i j x y k1 k2 k3 hx hy;rw [g3 i k1 oM] at hx;rw [g3 j oM k3] at hy;exact h1 _ _ x y oM oM oM hx hy
 · exact (h2.sub le oM (Xe _)).ext le fun k h3 h4=>g4 k h3
 · intro p q x y k1 k2 k3 k4 hx hy;rcases XD p s with hp|hp
   · rw [g1 p hp] at hx;rcases XD q (mid+m-s) with hq|hq
     · rw [g3 q k3 hq] at hy;exact h1 _ _ x y k1 oM oM hx hy
     · rw [g4 q hq] at hy;have hlo:loM a m b<s:=by
        rcases XD (loM a m b) s with h6|h6
        · exact h6
        · omega
       obtain ⟨u,hu⟩:∃u,l[s-1]? =some u:=⟨_,Xx oM⟩;obtain ⟨v,hv⟩:∃v,l[mid+m-s]? =some v:=⟨_,Xx oM⟩;have a1:le x u:=h1.eqv le hr k1 (show p≤s-1 by omega) oM hx hu;have a2:le u v:=e4 (s-1) u v oM oM hu (by rw [←hv];congr 1;omega);have a3:le v y:=h2.eqv le hr oM hq k4 hv hy;exact ht _ _ _ a1 (ht _ _ _ a2 a3)
   · rw [g2 p hp k2] at hx;rcases XD q (mid+m-s) with hq|hq
     · rw [g3 q k3 hq] at hy;have hhi2:s<hiM a m b:=by
        rcases XD s (hiM a m b) with h6|h6
        · exact h6
        · omega
       obtain ⟨u,hu⟩:∃u,l[mid+m-s-1]? =some u:=⟨_,Xx oM⟩;obtain ⟨v,hv⟩:∃v,l[s]? =some v:=⟨_,Xx oM⟩;have a1:le x u:=h2.eqv le hr oM (show m+(p-s)≤mid+m-s-1 by omega) oM hx hu;have a2:le u v:=e5 s v u (Xe _) hhi2 hv (by rw [←hu];congr 1;omega);have a3:le v y:=h1.eqv le hr oM (show s≤s+(q-mid) by omega) oM hv hy;exact ht _ _ _ a1 (ht _ _ _ a2 a3)
     · rw [g4 q hq] at hy;exact h2 _ _ x y oM oM k4 hx hy
theorem R8 {a mid b:Nat} {l1 l2 l3:List α} (h1:a≤mid) (h2:mid≤b) (hb:b≤l1.length) (hc:∀p q x y,a≤p→p<mid→mid≤q→q<b→l1[p]? =some x→l1[q]? =some y→le x y) (s1:Sw a mid l1 l2) (s2:Sw mid b l2 l3) (g1:SrtS le a mid l2) (g2:SrtS le mid b l3):SrtS le a b l3:=by
 intro i j x y k1 k2 k3 hx hy
 rcases XD j mid with hj|hj
 · rw [s2.out (.inl oM)] at hx hy;exact g1 i j x y k1 k2 hj hx hy
 · rcases XD i mid with hi|hi
   · rw [s2.out (.inl hi)] at hx;obtain ⟨p,p1,p2,p3⟩:=s1.mem k1 hi hx;obtain ⟨q,q1,q2,q3⟩:=s2.mem hj k3 hy;rw [s1.out (.inr q1)] at q3;exact hc p q x y p1 p2 q1 q2 p3 q3
   · exact g2 i j x y hi k2 k3 hx hy
end
end
end Go.Proofs.YteiincihiagidaaGreat
namespace Go.En
open Go.RowKit Go.Cb
section
variable {P:Program} {st:St} {o:Oper}
def Zpi (P:Program) (s f fo:Nat):Bool:=match P.underlying s with
 | some (.struct fs)=>match fs[f]? with
   |some fd=>Nat.beq fd.offset fo&&NoAgg P fd.type
   |none=>false
 |_=>false
theorem ZdX {s f fo:Nat} {x:Operand} {v:Value} {ps:List PV} {p:PV} (hT:Zpi P s f fo=true) (ho:o.op= .field s x f:=by exact rfl) (hx:ev st.slots x=some (v, .agg ps):=by exact rfl) (hp:ps[fo]? =some p:=by exact rfl):YE P st o (fun _=>True) p:=fun M F a w H=>by
 obtain ⟨hv,hs⟩:=H.ev hx
 unfold Zpi at hT
 split at hT
 · rename_i fs hfs;split at hT
   · rename_i fd hfd;rw [Xi] at hT;obtain ⟨h1,h2⟩:=hT;have e1:=XK h1;subst e1
     cases hs with
     | agg vs ps hvl hTT=>
       obtain ⟨u,hu⟩:=YB hp hvl.symm;refine ⟨u,trivial,hTT _ u p hu hp,fun N W _ _ _=>?_⟩;simp [execOp,ho,hv,Instr.field,run_underlying hfs,hfd,asAgg,part,NoAgg.run h2,hu]
   · cases hT
 · cases hT
end
section
variable {P:Program} {st:St} {o:Oper} {x y:Operand} {q q':PV} {t t':TypeId}
end
section
variable {P:Program} {st:St} {o:Oper}
theorem ζF {x y:Operand} {q q':PV} {t t':TypeId} {k:IntKind} {a:Int} (ho:o.op= .binOp .eql t x y t':=by exact rfl) (hx:ev st.slots x=some (.int k a,q):=by exact rfl) (hy:ev st.slots y=some (.int k a,q'):=by exact rfl):YE P st o (· = .bool true) (.val (.bool true)):=by
 have h:=SN (P:=P) ho hx hy
 rwa [U9 rfl] at h
end
section
variable {P:Program} {c:Ctx} {ops:Array Oper} {Q:Exit→Act→World→Prop} {rest:List Oper} {sL hP:List (Nat×Ent)} {o:Oper}
end
section
variable {P:Program} {ops:Array Oper} {Q:Exit→Act→World→Prop} {md:Region.Mode} {C:World→Prop} {Z:Nat→Bool}
def PY (md:Region.Mode) (ops:Array Oper):Nat→Nat→Nat→Bool
 |0,_,_=>false
 | n+1,z,i=>match ops[z]? with
   |some oz=>oz.after.any fun e=>Region.binds md e&&(e.on==i||PY md ops n e.on i)
   |none=>false
def Hk (md:Region.Mode) (ops:Array Oper) (Z:Nat→Bool) (i:Nat):Bool:=(List.range ops.size).all fun z=> !Z z||PY md ops ops.size z i
def Hl (md:Region.Mode) (ops:Array Oper) (listed:Array Bool):Bool:=(List.range ops.size).all fun k=> !(listed.getD k false)||(match ops[k]? with
 |some o=>o.after.all fun e=> !Region.binds md e||listed.getD e.on false
 |none=>true)
def ClosedL (md:Region.Mode) (ops:Array Oper) (listed:Array Bool):Prop:=∀(k:Nat) (o:Oper),ops[k]? =some o→listed.getD k false=true→∀e∈o.after,Region.binds md e=true→listed.getD e.on false=true
theorem Zb9 {listed:Array Bool} (h:Hl md ops listed=true):ClosedL md ops listed:=fun k o ho hk e he hb=>by
 have hks:k<ops.size:=by
  rcases XD k ops.size with h'|h'
  · exact h'
  · rw [Vv h'] at ho;cases ho
 have:=Xm.1 h k (Va.2 hks)
 rw [hk,ho] at this
 simp only [Bool.not_true,V'] at this
 have:=(Array.all_eq_true'.1 this) e he
 rw [hb] at this
 simpa using this
theorem ClosedL.reach {listed:Array Bool} (h:ClosedL md ops listed) {i:Nat}:∀(n z:Nat),listed.getD z false=true→PY md ops n z i=true→listed.getD i false=true
 |0,_,_,hr=>by simp [PY] at hr
 | n +1,z,hz,hr=>by
   rw [PY] at hr;split at hr
   · rename_i oz ho;obtain ⟨e,he,hb⟩:=Array.any_eq_true'.1 hr;simp only [Xi,X3,beq_iff_eq] at hb;have h1:=h z oz ho hz e he hb.1;rcases hb.2 with h2|h2
     · rw [←h2];exact h1
     · exact ClosedL.reach h n e.on h1 h2
   · cases hr
theorem ClosedL.ready {listed:Array Bool} (h:ClosedL md ops listed) {i j n:Nat} (hj:j∈Region.ready md ops listed) (hr:PY md ops n j i=true):listed.getD i false=true:=by
 obtain ⟨_,oj,hoj,hall⟩:=mem_ready.1 hj
 cases n with
 |zero=>simp [PY] at hr
 | succ n=>
   rw [PY,hoj] at hr;obtain ⟨e,he,hb⟩:=Array.any_eq_true'.1 hr;simp only [Xi,X3,beq_iff_eq] at hb;have h1:=hall e he hb.1;rcases hb.2 with h2|h2
   · rw [←h2];exact h1
   · exact h.reach n e.on h1 h2
theorem ClosedL.set {listed:Array Bool} (h:ClosedL md ops listed) {j:Nat} (hj:j∈Region.ready md ops listed):ClosedL md ops (listed.setIfInBounds j true):=fun k o ho hk e he hb=>by
 obtain ⟨_,oj,hoj,hall⟩:=mem_ready.1 hj
 by_cases hkj:k=j
 · subst hkj;rw [hoj] at ho;cases ho;exact getD_set_true (hall e he hb)
 · rw [getD_set_ne false (Ne.symm hkj)] at hk;exact getD_set_true (h k o ho hk e he hb)
theorem Zae {i:Nat} {oi:Oper} {v:Value} (hi:ops[i]? =some oi) (hz:Hk md ops Z i=true)
 (hsel:∀(j:Nat) (o:Oper) cs b,ops[j]? =some o→o.op≠ .select cs b):
 ∀ (fuel:Nat) (listed:Array Bool) (a:Act) (w:World),ClosedL md ops listed→
  (∀j oj,ops[j]? =some oj→j≠i→listed.getD j true=false→(∀e∈oj.after,Region.binds md e=true→e.on≠i)→oi.apart ops oj=true)→
  i∈Region.ready md ops listed→YieldsC P ops C oi v a→C w→
  GB P md ops Q C Z fuel (listed.setIfInBounds i true) (a.put oi.dst v) w→GB P md ops Q C Z (fuel+1) listed a w:=by
 intro fuel
 induction fuel with
 | zero=>
   intro listed a w _ _ hr hy hC H;refine ⟨fun h=>(by rw [h] at hr;cases hr),fun j hj=>?_⟩;by_cases hji:j=i
   · subst hji;exact YieldsIf.wpOp hi hy.ifS hC ⟨.inr hC,H⟩
   · have:=ready_mono hj hji;rw [H.1] at this
     cases this
 | succ fuel ih=>
   intro listed a w hcl hfree hr hy hC H;refine ⟨fun h=>(by rw [h] at hr;cases hr),fun j hj=>?_⟩;by_cases hji:j=i
   · subst hji;exact YieldsIf.wpOp hi hy.ifS hC ⟨.inr hC,H⟩
   · have h1:=H.2 j (ready_mono hj hji);obtain ⟨hjun,oj,hoj,hall⟩:=mem_ready.1 hj;have hnot:∀e∈oj.after,Region.binds md e=true→e.on≠i:=fun e he hb heq=>by
      have h1:=hall e he hb;have h0:=(mem_ready.1 hr).1;rw [heq] at h1;rcases XD i listed.size with h'|h'
      · simp [h'] at h0 h1;rw [h0] at h1;cases h1
      · simp [Vv h'] at h1
     have hjz:Z j=false:=by
      cases hZ:Z j
      · rfl
      · exfalso;have hjs:j<ops.size:=by
         rcases XD j ops.size with h'|h'
         · exact h'
         · rw [Vv h'] at hoj;cases hoj
        have:=Xm.1 hz j (Va.2 hjs);rw [hZ] at this;simp only [Bool.not_true,V'] at this;have h0:=(mem_ready.1 hr).1;have h1:=hcl.ready hj this;rcases XD i listed.size with h'|h'
        · simp [h'] at h0 h1;rw [h0] at h1;cases h1
        · simp [Vv h'] at h1
     have h2:=wpOp_putIf hoj (hfree j oj hoj hji hjun hnot) (fun cs b=>hsel i oi cs b hi) (fun cs b=>hsel j oj cs b hoj) (fun c a w h=>h) hy.ifS h1;have hfree':∀k ok,ops[k]? =some ok→k≠i→(listed.setIfInBounds j true).getD k true=false→
      (∀e∈ok.after,Region.binds md e=true→e.on≠i)→oi.apart ops ok=true:=fun k ok hk hki hun hno=>by
      refine hfree k ok hk hki ?_ hno;by_cases hjk:j=k
      · subst hjk;exact hjun
      · rw [getD_set_ne true hjk] at hun;exact hun
     refine wpOp_mono (fun a' w' h3=>?_) h2;obtain ⟨hy',hor,hK⟩:=h3;have hC':C w':=by
      rcases hor with h|h
      · rw [hjz] at h;cases h
      · exact h
     refine ⟨.inr hC',ih (listed.setIfInBounds j true) a' w' (hcl.set hj) hfree' (ready_mono hr (Ne.symm hji)) hy' hC' ?_⟩;rw [Array.setIfInBounds_comm _ _ hji];exact hK
end
section
variable {P:Program} {c:Ctx} {ops:Array Oper} {Q:Exit→Act→World→Prop} {Z:Nat→Bool} {K:List Nat} {fuel:Nat} {listed:Array Bool} {sL hP:List (Nat×Ent)} {o:Oper}
theorem Zqr {V:Value→Prop} {p:PV} (i d:Nat) (ho:ops[i]? =some o) (hck:(Region.noSelect ops&&(Region.ready .any ops listed).contains i&&Region.free .any ops listed i&&Hk .any ops Z i&&Hl .any ops listed)=true) (hw:ZP ops sL o=some true) (hd:o.dst=some d) (hn:d<c.nt) (hy:YE P ⟨sL,Jt K hP⟩ o V p)
 (k:∀v,V v→aD P c ops Q Z K fuel (listed.setIfInBounds i true) ⟨put d (v,p) sL,hP⟩):aD P c ops Q Z K (fuel+1) listed (⟨sL,hP⟩:St):=fun a w F H C hC=>by
 simp only [Xi] at hck
 obtain ⟨⟨⟨⟨hs,hr⟩,hf⟩,hz⟩,hcl⟩:=hck
 obtain ⟨v,hV,hS,hrun⟩:=hy _ F a w (H.rdK K)
 refine TY hC _ _ _ _ ?_
 refine Zae ho hz (Region.noSelect_spec hs) _ listed a w (Zb9 hcl) (Region.free_spec ho hf) (by simpa using hr) (v:=v) (.inl ⟨LZ H.rd hw,fun W hW=>?_⟩) (Chg.rfl' _ _) ?_
 · exact hrun _ W hW (fun b ⟨l,x,_,h1,h2⟩=> .inr ⟨l,x,h1,h2⟩) (fun l x b hl hFb ⟨l',x',h1,h2,h3⟩=>by
    obtain ⟨h4,h5⟩:=Rb.1 hl;exact H.dj l l' _ _ b (fun e=>by rw [e,h1] at h4;cases h4) h5 h2 hFb h3)
 · rw [hd];exact k v hV _ w F (H.put hn hS) _ (fun W h=>h)
theorem Zr7 {v:Value} {p:PV} (i d:Nat) (ho:ops[i]? =some o) (hck:(Region.noSelect ops&&(Region.ready .any ops listed).contains i&&Region.free .any ops listed i&&Hk .any ops Z i&&Hl .any ops listed)=true) (hw:ZP ops sL o=some true) (hd:o.dst=some d) (hn:d<c.nt) (hy:YE P ⟨sL,Jt K hP⟩ o (· =v) p)
 (k:aD P c ops Q Z K fuel (listed.setIfInBounds i true) ⟨put d (v,p) sL,hP⟩):aD P c ops Q Z K (fuel+1) listed (⟨sL,hP⟩:St):=Zqr i d ho hck hw hd hn hy fun u hu=>by cases hu;exact k
theorem xDT {v:Value} {p:PV} (i:Nat) (d:Nat) (ho:ops[i]? =some o) (hy:YE P ⟨sL,Jt K hP⟩ o (· =v) p) (k:aD P c ops Q Z K fuel (listed.setIfInBounds i true) ⟨put d (v,p) sL,hP⟩) (hck:(Region.noSelect ops&&(Region.ready .any ops listed).contains i&&Region.free .any ops listed i&&Hk .any ops Z i&&Hl .any ops listed)=true:=by kernel_rfl) (hw:ZP ops sL o=some true:=by exact rfl) (hd:o.dst=some d:=by exact rfl) (hn:d<c.nt:=by exact Xa rfl):aD P c ops Q Z K (fuel+1) listed (⟨sL,hP⟩:St):=
 Zr7 i d ho hck hw hd hn hy k
theorem yDT {V:Value→Prop} {p:PV} (i:Nat) (d:Nat) (ho:ops[i]? =some o) (hy:YE P ⟨sL,Jt K hP⟩ o V p) (k:∀v,V v→aD P c ops Q Z K fuel (listed.setIfInBounds i true) ⟨put d (v,p) sL,hP⟩) (hck:(Region.noSelect ops&&(Region.ready .any ops listed).contains i&&Region.free .any ops listed i&&Hk .any ops Z i&&Hl .any ops listed)=true:=by kernel_rfl) (hw:ZP ops sL o=some true:=by exact rfl) (hd:o.dst=some d:=by exact rfl) (hn:d<c.nt:=by exact Xa rfl):aD P c ops Q Z K (fuel+1) listed (⟨sL,hP⟩:St):=
 Zqr i d ho hck hw hd hn hy k
end
def aDZ (P:Program) (c:Ctx) (ops:Array Oper) (Q:Exit→Act→World→Prop) (Z:Nat→Bool) (fuel:Nat) (listed:Array Bool) (st:St):Prop:=
 ∀a w F,HoldsF c st F a w→∀C:World→Prop,GB P .any ops Q C Z fuel listed a w
section
variable {P:Program} {c:Ctx} {ops:Array Oper} {Q:Exit→Act→World→Prop} {Z:Nat→Bool} {K:List Nat} {fuel:Nat} {listed:Array Bool} {sL hP:List (Nat×Ent)} {o:Oper}
theorem ZdY {i:Nat} (ho:ops[i]? =some o) (hZ:Z i=true) (h:∀DQ:Exit→Act→World→Prop,(∀st':St,aDZ P c ops Q Z fuel (listed.setIfInBounds i true) st'→aN c DQ st')→aL P c ops DQ [o] (⟨sL,hP⟩:St)):aW P c ops Q Z K fuel listed (⟨sL,hP⟩:St) i:=fun a w F H C hC=>by
 refine Lr (Q':=fun _ a' w'=>(Z i=true∨C w')∧GB P .any ops Q C Z fuel (listed.setIfInBounds i true) a' w') ho (fun a' w' hq=>hq) ?_
 exact h _ (fun st' hN a' w' ⟨F',H'⟩=>⟨.inl hZ,hN a' w' F' H' C⟩) a w ⟨F,H⟩
theorem Zhz (i:Nat) (hr:Region.ready .any ops listed=[i]) (ho:ops[i]? =some o) (hZ:Z i=true) (h:∀DQ:Exit→Act→World→Prop,(∀st':St,aDZ P c ops Q Z fuel (listed.setIfInBounds i true) st'→aN c DQ st')→aL P c ops DQ [o] (⟨sL,hP⟩:St)):aDZ P c ops Q Z (fuel+1) listed (⟨sL,hP⟩:St):=fun a w F H C=>
 ⟨(fun hn=>by rw [hr] at hn;cases hn),fun j hj=>by
   rw [hr] at hj;obtain rfl:j=i:=by simpa using hj
   refine Lr (Q':=fun _ a' w'=>(Z j=true∨C w')∧GB P .any ops Q C Z fuel (listed.setIfInBounds j true) a' w') ho (fun a' w' hq=>hq) ?_;exact h _ (fun st' hN a' w' ⟨F',H'⟩=>⟨.inl hZ,hN a' w' F' H' C⟩) a w ⟨F,H⟩⟩
theorem ZhA (hr:Region.ready .any ops listed=[]) (h:aN c Q (⟨sL,hP⟩:St)):aDZ P c ops Q Z fuel listed (⟨sL,hP⟩:St):=fun a w F H C=>by
 cases fuel with
 |zero=>exact ⟨hr,h a w ⟨F,H⟩⟩
 |succ n=>exact ⟨fun _=>h a w ⟨F,H⟩,fun i hi=>by rw [hr] at hi;cases hi⟩
end
section
variable {P:Program} {st:St} {o:Oper} {x y:Operand} {q q':PV} {t t':TypeId}
end
section
variable {P:Program} {c:Ctx} {sL hP:List (Nat×Ent)}
end
section
variable {P:Program} {c:Ctx} {ops:Array Oper} {Q:Exit→Act→World→Prop} {Z:Nat→Bool} {K:List Nat} {fuel:Nat} {listed:Array Bool} {sL hP:List (Nat×Ent)} {o:Oper}
end
structure PiT (P:Program) (t ks s e:Nat) (z:Value):Prop where
 ht:P.underlying t=some (.map ks e)
 hu:P.underlying ks=some (.array 2 s)
 hs:P.underlying s=some (.int .i64)
 hk:P.keyType ks=true
 hk2:P.keyTypeAt 2 ks=true
 hti:P.tiled 2 ks=true
 hc2:P.cellsOf ks=2
 hc1:P.cellsOf s=1
 hf:∀a b:Int,(Value.agg #[.int .i64 a, .int .i64 b]).formed P ks=true
 hsz:∃n,P.types.size=n+1
 hz:ZeroT P e z
theorem PiT.law {P:Program} {t ks s e:Nat} {z:Value} (h:PiT P t ks s e z):WideMaps.KeyLaw P ks:=deep_law (m:=2) dC h.hk2 h.hti (by rw [h.hu])
section
variable {P:Program} {c:Ctx} {ops:Array Oper} {Q:Exit→Act→World→Prop} {rest:List Oper} {sL hP:List (Nat×Ent)} {o:Oper}
end
section
variable {P:Program} {sL hP:List (Nat×Ent)} {o:Oper}
end
section
variable {P:Program} {c:Ctx} {sL hP:List (Nat×Ent)}
end
open Go.RowKit Go.Cb Go.Proofs Go.Sort
section
variable {P:Program} {c:Ctx} {ops:Array Oper} {Q:Exit→Act→World→Prop} {rest:List Oper} {sL hP:List (Nat×Ent)} {o:Oper}
end
section
variable {P:Program} {sL hP:List (Nat×Ent)} {o:Oper}
end
section
variable {P:Program} {st:St} {o:Oper} {x y:Operand} {t t':TypeId} {q q':PV}
theorem J' {a b c:Int} (ho:o.op= .binOp .add t x y t':=by exact rfl) (hx:ev st.slots x=some (.int .i64 a,q):=by exact rfl) (hy:ev st.slots y=some (.int .i64 b,q'):=by exact rfl) (hc:a+b=c:=by omega) (h1: -9223372036854775808≤c:=by omega) (h2:c≤9223372036854775807:=by omega):YE P st o (· = .int .i64 c) (.val (.int .i64 c)):=by
 subst hc;exact Zqj ho hx hy h1 h2
theorem WJ {a b c:Int} (ho:o.op= .binOp .sub t x y t':=by exact rfl) (hx:ev st.slots x=some (.int .i64 a,q):=by exact rfl) (hy:ev st.slots y=some (.int .i64 b,q'):=by exact rfl) (hc:a-b=c:=by omega) (h1: -9223372036854775808≤c:=by omega) (h2:c≤9223372036854775807:=by omega):YE P st o (· = .int .i64 c) (.val (.int .i64 c)):=by
 subst hc;exact Zqk ho hx hy h1 h2
theorem Zca {a b c:Int} (ho:o.op= .binOp .mul t x y t':=by exact rfl) (hx:ev st.slots x=some (.int .i64 a,q):=by exact rfl) (hy:ev st.slots y=some (.int .i64 b,q'):=by exact rfl) (hc:a*b=c:=by omega) (h1: -9223372036854775808≤c:=by omega) (h2:c≤9223372036854775807:=by omega):YE P st o (· = .int .i64 c) (.val (.int .i64 c)):=by
 subst hc;exact ZrT ho hx hy h1 h2
theorem Zcb {a c:Int} (ho:o.op= .move x:=by exact rfl) (hx:ev st.slots x=some (.int .i64 a,q):=by exact rfl) (hc:a=c:=by omega):YE P st o (· = .int .i64 c) (.val (.int .i64 c)):=by
 subst hc;exact y1 hx (fun _ _ _=> .val _) fun ρ w h=>by simp [execOp,ho,h]
theorem ZhB {a:Nat} {s d:TypeId} {ds:TypeDesc} (hs:P.underlying s=some ds) (hd:P.underlying d=some (.int .u64)) (ha:a≤9223372036854775807) (ho:o.op= .convert s d x:=by exact rfl) (hx:ev st.slots x=some (.int .i64 (a:Int),q):=by exact rfl):YE P st o (· = .int .u64 (a:Int)) (.val (.int .u64 (a:Int))):=
 ZkS hs hd ho hx (IntWalk.u64_in _ oM)
theorem ZhC {a:Nat} {s d:TypeId} {ds:TypeDesc} (hs:P.underlying s=some ds) (hd:P.underlying d=some (.int .i64)) (ha:a≤9223372036854775807) (ho:o.op= .convert s d x:=by exact rfl) (hx:ev st.slots x=some (.int .u64 (a:Int),q):=by exact rfl):YE P st o (· = .int .i64 (a:Int)) (.val (.int .i64 (a:Int))):=
 ZkS hs hd ho hx (IntWalk.i64_in _ oM)
theorem E8 {a:Nat} {b:Int} {kb:IntKind} (hb:b=1) (ho:o.op= .binOp .shr t x y t':=by exact rfl) (hx:ev st.slots x=some (.int .u64 (a:Int),q):=by exact rfl) (hy:ev st.slots y=some (.int kb b,q'):=by exact rfl):YE P st o (· = .int .u64 ((a / 2:Nat):Int)) (.val (.int .u64 ((a / 2:Nat):Int))):=
 y2 hx hy fun ρ w h3 h4=>by
  subst hb;have e:(a:Int).fdiv 2=((a / 2:Nat):Int):=by
   rw [Int.fdiv_eq_ediv_of_nonneg _ dC];rfl
  simp [execOp,ho,h3,h4,eqGuard,binOp,Op.shift];exact e
end
end Go.En
namespace Go.Proofs.YteiincihiagidaaGreat
open Go.RowKit Go.Cb Go.En Tryz
theorem ZC:AggT prog 24 3=true:=kR
theorem ZU:SlT prog 22 24 3=true:=kR
theorem ζG (l:List Nd):(Z9 l).length=l.length*3:=by rw [WV];exact Yr Sy l
theorem ZhD:∀(ps:List PV) (a b c:List PV) (j:Nat),a.length=j→b.length=ps.length→Tz (a++b++c) j ps=a++ps++c
 | [],a,b,c,j,ha,hb=>by
   have:b=[]:=XB hb;subst this;rfl
 | p ::ps,a,x::b,c,j,ha,hb=>by
   rw [Tz];have h1:(a++(x::b)++c).set j p=(a++[p])++b++c:=by
    subst ha;rw [XA,VE _ _ (Xe _),Vm];simp
   rw [h1,ZhD ps (a++[p]) b c (j+1) (by simp [ha]) (by simpa using hb)];simp
theorem Zcc (L:List Nd) (k:Nat) (x:Nd) (h:k<L.length):Tz (Z9 L) (k*3) (cN x)=Z9 (L.set k x):=by
 rw [WV,WV]
 have e:L=L.take k++[L[k]]++L.drop (k+1):=by
  rw [XA,List.singleton_append,List.getElem_cons_drop,X5]
 have e2:L.set k x=L.take k++[x]++L.drop (k+1):=by
  rw [List.set_eq_take_append_cons_drop,Qb h,XA];rfl
 rw [e2]
 conv=>lhs;rw [e]
 simp only [XT,U0]
 exact ZhD (cN x) _ _ _ _ (by rw [Yr Sy,XG,Vc (Nat.le_of_lt h)]) rfl
theorem Ov {L:List Nd} {i j:Nat} {x y:Nd} (hx:L[i]? =some x) (hy:L[j]? =some y):Tz (Tz (Z9 L) (i*3) (cN y)) (j*3) (cN x)=Z9 (swp L i j):=by
 rw [Zcc L i y (Zd hx),Zcc _ j x (by rw [Xp];exact Zd hy),Zmy hx hy]
def W9 (hv:Value) (l:List Nd):List (Nat×Ent):=[(1000,hv, .own 24 3 l.length (Z9 l))]
theorem ζH (l:List Nd) (hl:l.length≤1000000) (a b n:Nat) (h1:a+n≤b) (h2:b+n≤l.length) (hv:Value) (fv:Value) (f:Nat):AFh False prog 255 [(0,hv, .val hv),(1, .int .i64 (a:Int),Zc a),(2, .int .i64 (b:Int),Zc b),(3, .int .i64 (n:Int),Zc n),(4,fv, .fn f [])] (W9 hv l) (fun v q h=>∃l',(∀k,l'[k]? =l[srI a b n k]?)∧Sw a (b+n) l l'∧h=W9 hv l'):=by
 unfold W9
 refine AFh.of_body 38 func255 rfl ntmps255 (Xa rfl) rfl ?_
 intro w0 M0 N0
 refine ZI ?_
 refine Yd (ι:={q:Nat×List Nd//q.1≤n∧(∀k,q.2[k]? =l[srI a b q.1 k]?)∧Sw a (b+n) l q.2}) (fun k=>⟨[(0,_,_),(1,_,_),(2,_,_),(3,_,_),(10, .int .i64 k.1.1,Zc k.1.1)],[(1000,hv, .own 24 3 l.length (Z9 k.1.2))]⟩) (fun k=>n-k.1.1) ⟨(0,l),Xg _,fun k=>by rw [Zph], .refl _⟩ ?_
 rintro ⟨⟨i,L⟩,hi,hL,hS⟩
 dsimp only
 dsimp only at hi hL hS;have hLl:=hS.len
 refine Jy ?_;refine ZR ?_ ?_<;>intro hb13
 · (
 have hin:i<n:=oM;obtain ⟨x,hx⟩:=gS L (a+i);obtain ⟨y,hy⟩:=gS L (b+i);have e1:=ZT hx;have e2:=Yg hx;have e3:=ZT hy;have e4:=Yg hy;have hsw:=Ov hx hy;have e5:(Tz (Z9 L) ((a+i)*3) (cN y)).length=(Z9 L).length:=S7 _ _ _;refine nav ?_;(refine We [] [] ?_<;>refine gDx 0 ?_<;>refine gDx 1 ?_<;>refine gDx 2 ?_<;>refine xD 3 rfl ((J' (c:=((a+i:Nat):Int)))) ?_<;>refine gDx 4 ?_<;>refine gDx 5 ?_<;>refine gDx 6 ?_<;>refine xD 7 rfl ((J' (c:=((b+i:Nat):Int)))) ?_<;>refine gDx 8 ?_<;>refine gDx 9 ?_<;>refine gDx 10 ?_<;>refine xD 11 rfl ((J' (c:=((b+i:Nat):Int)))) ?_<;>refine gDx 14 ?_<;>refine gDx 15 ?_<;>refine gDx 16 ?_<;>refine xD 17 rfl ((J' (c:=((a+i:Nat):Int)))) ?_<;>(refine Wm 12 18 kR ?_ ?_;rotate_right;(focus ((refine aWr fun bk=>?_)<;>refine xM (Zo 1000 ZU) ?_<;>refine bE bk ?_<;>(refine Wm 12 19 kR ?_ ?_;rotate_right;(focus ((refine aWr fun bk=>?_)<;>refine yU (Zj 1000 ZC) fun v35=>?_<;>refine bE bk ?_<;>(refine aDr 12 fun bk=>?_)<;>refine xM (Zo 1000 ZU) ?_<;>refine bE bk ?_<;>(refine aDr 13 fun bk=>?_)<;>refine yU (Zj 1000 ZC) fun v29=>?_<;>refine bE bk ?_<;>refine xE 20 rfl (Zo 1000 ZU) ?_<;>(refine aDr 21 fun bk=>?_)<;>refine Zu 1000 ZC ?_<;>refine bE bk ?_<;>refine xE 22 rfl (Zo 1000 ZU) ?_<;>(refine aDr 23 fun bk=>?_)<;>refine Zu 1000 ZC ?_<;>refine bE bk ?_));rotate_right;(focus ((refine aWr fun bk=>?_)<;>refine xM (Zo 1000 ZU) ?_<;>refine bE bk ?_<;>(refine Wm 13 19 kR ?_ ?_;rotate_right;(focus ((refine aWr fun bk=>?_)<;>refine yU (Zj 1000 ZC) fun v35=>?_<;>refine bE bk ?_<;>(refine aDr 13 fun bk=>?_)<;>refine yU (Zj 1000 ZC) fun v29=>?_<;>refine bE bk ?_<;>refine xE 20 rfl (Zo 1000 ZU) ?_<;>(refine aDr 21 fun bk=>?_)<;>refine Zu 1000 ZC ?_<;>refine bE bk ?_<;>refine xE 22 rfl (Zo 1000 ZU) ?_<;>(refine aDr 23 fun bk=>?_)<;>refine Zu 1000 ZC ?_<;>refine bE bk ?_));rotate_right;(focus ((refine aWr fun bk=>?_)<;>refine yU (Zj 1000 ZC) fun v29=>?_<;>refine bE bk ?_<;>(refine aDr 19 fun bk=>?_)<;>refine yU (Zj 1000 ZC) fun v35=>?_<;>refine bE bk ?_<;>refine xE 20 rfl (Zo 1000 ZU) ?_<;>(refine aDr 21 fun bk=>?_)<;>refine Zu 1000 ZC ?_<;>refine bE bk ?_<;>refine xE 22 rfl (Zo 1000 ZU) ?_<;>(refine aDr 23 fun bk=>?_)<;>refine Zu 1000 ZC ?_<;>refine bE bk ?_))))))));rotate_right;(focus ((refine aWr fun bk=>?_)<;>refine xM (Zo 1000 ZU) ?_<;>refine bE bk ?_<;>(refine Wm 13 18 kR ?_ ?_;rotate_right;(focus ((refine aWr fun bk=>?_)<;>refine xM (Zo 1000 ZU) ?_<;>refine bE bk ?_<;>(refine Wm 13 19 kR ?_ ?_;rotate_right;(focus ((refine aWr fun bk=>?_)<;>refine yU (Zj 1000 ZC) fun v35=>?_<;>refine bE bk ?_<;>(refine aDr 13 fun bk=>?_)<;>refine yU (Zj 1000 ZC) fun v29=>?_<;>refine bE bk ?_<;>refine xE 20 rfl (Zo 1000 ZU) ?_<;>(refine aDr 21 fun bk=>?_)<;>refine Zu 1000 ZC ?_<;>refine bE bk ?_<;>refine xE 22 rfl (Zo 1000 ZU) ?_<;>(refine aDr 23 fun bk=>?_)<;>refine Zu 1000 ZC ?_<;>refine bE bk ?_));rotate_right;(focus ((refine aWr fun bk=>?_)<;>refine yU (Zj 1000 ZC) fun v29=>?_<;>refine bE bk ?_<;>(refine aDr 19 fun bk=>?_)<;>refine yU (Zj 1000 ZC) fun v35=>?_<;>refine bE bk ?_<;>refine xE 20 rfl (Zo 1000 ZU) ?_<;>(refine aDr 21 fun bk=>?_)<;>refine Zu 1000 ZC ?_<;>refine bE bk ?_<;>refine xE 22 rfl (Zo 1000 ZU) ?_<;>(refine aDr 23 fun bk=>?_)<;>refine Zu 1000 ZC ?_<;>refine bE bk ?_)))));rotate_right;(focus ((refine aWr fun bk=>?_)<;>refine yU (Zj 1000 ZC) fun v29=>?_<;>refine bE bk ?_<;>(refine aDr 18 fun bk=>?_)<;>refine xM (Zo 1000 ZU) ?_<;>refine bE bk ?_<;>(refine aDr 19 fun bk=>?_)<;>refine yU (Zj 1000 ZC) fun v35=>?_<;>refine bE bk ?_<;>refine xE 20 rfl (Zo 1000 ZU) ?_<;>(refine aDr 21 fun bk=>?_)<;>refine Zu 1000 ZC ?_<;>refine bE bk ?_<;>refine xE 22 rfl (Zo 1000 ZU) ?_<;>(refine aDr 23 fun bk=>?_)<;>refine Zu 1000 ZC ?_<;>refine bE bk ?_))))))<;>refine Kz ?_)<;>(
 refine OY ?_;rw [hsw];refine Yh (
  ⟨(i+1,swp L (a+i) (b+i)),hin,Zpg hin h1 oM hL, .step _ _ hS oM oM oM oM h2⟩
  )))
 · (
 refine nav ?_;have hin:i=n:=oM;subst hin;refine TR [(1000,hv, .own 24 3 l.length (Z9 L))] results255 sB ⟨L,hL,hS,?_⟩;rw [hLl])
theorem ZjM (l :List Nd) (hl:l.length≤1000000) (a m b:Nat) (h1:a<m) (h2:m<b) (h3:b≤l.length) (hv:Value) (fv:Value) (f:Nat):AFh False prog 247 [(0,hv, .val hv),(1, .int .i64 (a:Int),Zc a),(2, .int .i64 (m:Int),Zc m),(3, .int .i64 (b:Int),Zc b),(4,fv, .fn f [])] (W9 hv l) (fun v q h=>∃l',(∀k,l'[k]? =l[R7 a m b k]?)∧Sw a b l l'∧h=W9 hv l'):=by
 unfold W9
 refine AFh.of_body 58 func247 rfl ntmps247 (Xa rfl) rfl ?_
 intro w0 M0 N0
 refine Wn ?_;refine xM ((WJ (c:=((m-a:Nat):Int)))) ?_;refine ZQ ?_;refine YW ?_;refine xM ((WJ (c:=((b-m:Nat):Int)))) ?_;refine ZB ?_
 refine Yd (ι:={q:Nat×Nat×List Nd//0<q.1∧0<q.2.1∧q.1≤m-a∧q.2.1≤b-m∧(∀k,q.2.2[R7 (m-q.1) m (m+q.2.1) k]? =l[R7 a m b k]?)∧Sw a b l q.2.2}) (fun k=>⟨[(0,_,_),(1,_,_),(2,_,_),(3,_,_),(4,_,_),(10, .int .i64 k.1.1,Zc k.1.1),(11, .int .i64 k.1.2.1,Zc k.1.2.1)],[(1000,hv, .own 24 3 l.length (Z9 k.1.2.2))]⟩) (fun k=>k.1.1+k.1.2.1) ⟨(m-a,b-m,l),by dsimp only;omega,by dsimp only;omega,Xe _,Xe _,fun k=>by dsimp only;rw [show m-(m-a)=a by omega,show m+(b-m)=b by omega], .refl _⟩ ?_
 rintro ⟨⟨i,j,L⟩,hi0,hj0,hi,hj,hL,hS⟩
 dsimp only
 dsimp only at hi0 hj0 hi hj hL hS;have hLl:=hS.len
 refine Jy ?_;refine ZR ?_ ?_<;>intro hb20
 · (
 refine Jy ?_;refine ZR ?_ ?_<;>intro hb23
 · (
 refine Jy ?_;refine xM ((WJ (c:=((m-i:Nat):Int)))) ?_;refine Y' ?_;(refine JZ (W9 hv L) ⟨by rw [←hLl];rfl,trivial⟩ ?_;refine WA [] 31 (call255) (ζH L oM (m-i) m j oM oM hv fv f) (fun v31 p31 h31 hR31=>?_);obtain ⟨L2,hL2,hS2,rfl⟩:=hR31;have hL2l:=hS2.len.trans hLl;dsimp only [W9];rw [hL2l]);refine OW ?_;refine xM ((WJ (c:=((i-j:Nat):Int)))) ?_;refine ZB ?_
 first
  | (exact Yh (
      ⟨(i-j,j,L2),by dsimp only;omega,hj0,by dsimp only;omega,hj,fun k=>by
        dsimp only;rw [hL2,show m-(i-j)=m-i+j by omega,ZmE oM oM];exact hL k,hS.trans (hS2.mono oM oM oM)⟩
      ))
  | (exact Yh (
      ⟨(i,j-i,L2),hi0,by dsimp only;omega,hi,by dsimp only;omega,fun k=>by
        dsimp only;rw [hL2,show m+(j-i)=m+j-i by omega,ZmF oM oM];exact hL k,hS.trans (hS2.mono oM oM oM)⟩
      )))
 · (
 refine Jy ?_;refine xM ((WJ (c:=((m-i:Nat):Int)))) ?_;refine YW ?_;refine xM ((J' (c:=((m+j:Nat):Int)))) ?_;refine Yv ?_;refine xM ((WJ (c:=((m+j-i:Nat):Int)))) ?_;refine YW ?_;(refine JZ (W9 hv L) ⟨by rw [←hLl];rfl,trivial⟩ ?_;refine WA [] 46 (call255) (ζH L oM (m-i) (m+j-i) i oM oM hv fv f) (fun v46 p46 h46 hR46=>?_);obtain ⟨L2,hL2,hS2,rfl⟩:=hR46;have hL2l:=hS2.len.trans hLl;dsimp only [W9];rw [hL2l]);refine OW ?_;refine xM ((WJ (c:=((j-i:Nat):Int)))) ?_;refine ZB ?_
 first
  | (exact Yh (
      ⟨(i-j,j,L2),by dsimp only;omega,hj0,by dsimp only;omega,hj,fun k=>by
        dsimp only;rw [hL2,show m-(i-j)=m-i+j by omega,ZmE oM oM];exact hL k,hS.trans (hS2.mono oM oM oM)⟩
      ))
  | (exact Yh (
      ⟨(i,j-i,L2),hi0,by dsimp only;omega,hi,by dsimp only;omega,fun k=>by
        dsimp only;rw [hL2,show m+(j-i)=m+j-i by omega,ZmF oM oM];exact hL k,hS.trans (hS2.mono oM oM oM)⟩
      ))))
 · (
 have hij:j=i:=oM;subst hij;refine Jy ?_;refine xM ((WJ (c:=((m-j:Nat):Int)))) ?_;refine Y' ?_;(refine JZ (W9 hv L) ⟨by rw [←hLl];rfl,trivial⟩ ?_;refine WA [] 57 (call255) (ζH L oM (m-j) m j oM oM hv fv f) (fun v57 p57 h57 hR57=>?_);obtain ⟨L2,hL2,hS2,rfl⟩:=hR57;have hL2l:=hS2.len.trans hLl;dsimp only [W9]);refine ZF ?_;refine TR (W9 hv L2) results247 sB ⟨L2,fun k=>?_,hS.trans (hS2.mono oM oM oM),rfl⟩;rw [hL2,Zrl oM];exact hL k)
theorem PZ {a b:Nat} {l L:List Nd} (h:Sw a b l L) {x:Nd} (hx:x∈L):x∈l:=h.perm.mem_iff.1 hx
theorem Tn {x y:Nd} (h:¬Kc x y<0):leT y x:=Zhk.1 h
theorem ZmI (f:Nat) (hc:∀args w,(callFunc f args).run prog w= .ok (.enter f args) w) (l:List Nd) (hl:l.length≤1000000) (hf:∀x∈l,∀y∈l,AF prog f [pTr x,pTr y] (· =Zc (Kc x y))) (a b:Nat) (h1:a≤b) (h2:b≤l.length) (hv:Value) (fv:Value):AFh False prog 225 [(0,hv, .val hv),(1, .int .i64 (a:Int),Zc a),(2, .int .i64 (b:Int),Zc b),(3,fv, .fn f [])] (W9 hv l) (fun v q h=>∃l',Sw a b l l'∧SrtS leT a b l'∧h=W9 hv l'):=by
 unfold W9
 refine AFh.of_body 53 func225 rfl ntmps225 (Xa rfl) rfl ?_
 intro w0 M0 N0
 refine Wh ?_;refine xM ((J' (c:=((a+1:Nat):Int)))) ?_;refine ZB ?_
 refine Yd (ι:={q:Nat×List Nd//a+1≤q.1∧(q.1≤b∨b≤a+1)∧Sw a b l q.2∧SrtS leT a q.1 q.2}) (fun k=>⟨[(0,_,_),(1,_,_),(2,_,_),(3,_,_),(8, .int .i64 k.1.1,Zc k.1.1)],[(1000,hv, .own 24 3 l.length (Z9 k.1.2))]⟩) (fun k=>b-k.1.1) ⟨(a+1,l),Xe _,by dsimp only;omega, .refl _, .small leT _ (Xe _)⟩ ?_
 rintro ⟨⟨i,L0⟩,hi1,hi2,hS0,hO0⟩
 dsimp only
 dsimp only at hi1 hi2 hS0 hO0
 refine Jy ?_;refine ZR ?_ ?_<;>intro hb14
 · (
 refine ZE ?_;refine Yd (ι:={q:Nat×List Nd//a≤q.1∧q.1≤i∧Sw a b l q.2∧ZmA leT a i q.1 q.2}) (fun k=>⟨[(0,_,_),(1,_,_),(2,_,_),(3,_,_),(8,_,_),(9, .int .i64 k.1.1,Zc k.1.1)],[(1000,hv, .own 24 3 l.length (Z9 k.1.2))]⟩) (fun k=>k.1.1) ⟨(i,L0),by dsimp only;omega,Xe _,hS0,ZjH leT hO0⟩ ?_;rintro ⟨⟨j,L⟩,hj1,hj2,hS,hI⟩;dsimp only;dsimp only at hj1 hj2 hS hI;have hLl:=hS.len;refine nav ?_;(refine We [] [1000] ?_<;>refine gDx 0 ?_<;>refine gEx 1 ?_<;>refine gEx 2 ?_<;>refine gEx 3 ?_<;>(refine bDd 21 (fun hb21=>?_) (fun hb21=>?_)<;>(first|refine kD 4 ?_|refine gDx 4 ?_))<;>(first|refine kD 5 ?_|(obtain ⟨k,rfl⟩:∃k,j=k+1:=⟨j-1,oM⟩;obtain ⟨x,hx⟩:=gS L (k+1);obtain ⟨y,hy⟩:=gS L k;have e1:=ZT hx;have e2:=Yg hx;have e3:=ZT hy;have e4:=Yg hy;have hsw:=Ov hx hy;have e5:(Tz (Z9 L) ((k+1)*3) (cN y)).length=(Z9 L).length:=S7 _ _ _;refine gDx 5 ?_))<;>(first|refine kD 6 ?_|refine gDx 6 ?_)<;>(first|refine kD 7 ?_|refine xD 7 rfl (Zo 1000 ZU) ?_)<;>(first|refine kD 8 ?_|(refine yD 8 rfl (Zj 1000 ZC) fun v26 h=>?_;cases h))<;>(first|refine kD 9 ?_|refine gDx 9 ?_)<;>(first|refine kD 10 ?_|refine gDx 10 ?_)<;>(first|refine kD 11 ?_|refine xD 11 rfl ((WJ (c:=((k:Nat):Int)))) ?_)<;>(first|refine kD 12 ?_|refine xD 12 rfl (Zo 1000 ZU) ?_)<;>(first|refine kD 13 ?_|(refine yD 13 rfl (Zj 1000 ZC) fun v31 h=>?_;cases h))<;>(refine Z6 14 kR ?_)<;>(first|(refine Yz (d:=32) rfl (LV (f:=f) (ps:=[]) rfl ⟨_,rfl⟩ hc rfl (hf x (PZ hS (Xc hx)) y (PZ hS (Xc hy)))) fun v32 h=>?_;cases h)|(refine aWr fun bk=>?_;refine kL ?_;refine bE bk ?_))<;>(first|refine kD 15 ?_|refine gDx 15 ?_)<;>refine gEx 16 ?_<;>refine Kz ?_)<;>(
 refine cX ?_ ?_<;>intro hb34
 · first|exact bN hb34|(
 refine nav ?_;(refine We [] [] ?_<;>refine gDx 0 ?_<;>refine gDx 1 ?_<;>refine gDx 2 ?_<;>refine gDx 3 ?_<;>refine xD 4 rfl ((WJ (c:=((k:Nat):Int)))) ?_<;>refine gDx 5 ?_<;>refine gDx 6 ?_<;>refine xD 7 rfl ((WJ (c:=((k:Nat):Int)))) ?_<;>refine gDx 10 ?_<;>refine gDx 11 ?_<;>(refine Wm 8 12 kR ?_ ?_;rotate_right;(focus ((refine aWr fun bk=>?_)<;>refine xM (Zo 1000 ZU) ?_<;>refine bE bk ?_<;>(refine Wm 8 13 kR ?_ ?_;rotate_right;(focus ((refine aWr fun bk=>?_)<;>refine yU (Zj 1000 ZC) fun v50=>?_<;>refine bE bk ?_<;>(refine aDr 8 fun bk=>?_)<;>refine xM (Zo 1000 ZU) ?_<;>refine bE bk ?_<;>(refine aDr 9 fun bk=>?_)<;>refine yU (Zj 1000 ZC) fun v46=>?_<;>refine bE bk ?_<;>refine xE 14 rfl (Zo 1000 ZU) ?_<;>(refine aDr 15 fun bk=>?_)<;>refine Zu 1000 ZC ?_<;>refine bE bk ?_<;>refine xE 16 rfl (Zo 1000 ZU) ?_<;>(refine aDr 17 fun bk=>?_)<;>refine Zu 1000 ZC ?_<;>refine bE bk ?_));rotate_right;(focus ((refine aWr fun bk=>?_)<;>refine xM (Zo 1000 ZU) ?_<;>refine bE bk ?_<;>(refine Wm 9 13 kR ?_ ?_;rotate_right;(focus ((refine aWr fun bk=>?_)<;>refine yU (Zj 1000 ZC) fun v50=>?_<;>refine bE bk ?_<;>(refine aDr 9 fun bk=>?_)<;>refine yU (Zj 1000 ZC) fun v46=>?_<;>refine bE bk ?_<;>refine xE 14 rfl (Zo 1000 ZU) ?_<;>(refine aDr 15 fun bk=>?_)<;>refine Zu 1000 ZC ?_<;>refine bE bk ?_<;>refine xE 16 rfl (Zo 1000 ZU) ?_<;>(refine aDr 17 fun bk=>?_)<;>refine Zu 1000 ZC ?_<;>refine bE bk ?_));rotate_right;(focus ((refine aWr fun bk=>?_)<;>refine yU (Zj 1000 ZC) fun v46=>?_<;>refine bE bk ?_<;>(refine aDr 13 fun bk=>?_)<;>refine yU (Zj 1000 ZC) fun v50=>?_<;>refine bE bk ?_<;>refine xE 14 rfl (Zo 1000 ZU) ?_<;>(refine aDr 15 fun bk=>?_)<;>refine Zu 1000 ZC ?_<;>refine bE bk ?_<;>refine xE 16 rfl (Zo 1000 ZU) ?_<;>(refine aDr 17 fun bk=>?_)<;>refine Zu 1000 ZC ?_<;>refine bE bk ?_))))))));rotate_right;(focus ((refine aWr fun bk=>?_)<;>refine xM (Zo 1000 ZU) ?_<;>refine bE bk ?_<;>(refine Wm 9 12 kR ?_ ?_;rotate_right;(focus ((refine aWr fun bk=>?_)<;>refine xM (Zo 1000 ZU) ?_<;>refine bE bk ?_<;>(refine Wm 9 13 kR ?_ ?_;rotate_right;(focus ((refine aWr fun bk=>?_)<;>refine yU (Zj 1000 ZC) fun v50=>?_<;>refine bE bk ?_<;>(refine aDr 9 fun bk=>?_)<;>refine yU (Zj 1000 ZC) fun v46=>?_<;>refine bE bk ?_<;>refine xE 14 rfl (Zo 1000 ZU) ?_<;>(refine aDr 15 fun bk=>?_)<;>refine Zu 1000 ZC ?_<;>refine bE bk ?_<;>refine xE 16 rfl (Zo 1000 ZU) ?_<;>(refine aDr 17 fun bk=>?_)<;>refine Zu 1000 ZC ?_<;>refine bE bk ?_));rotate_right;(focus ((refine aWr fun bk=>?_)<;>refine yU (Zj 1000 ZC) fun v46=>?_<;>refine bE bk ?_<;>(refine aDr 13 fun bk=>?_)<;>refine yU (Zj 1000 ZC) fun v50=>?_<;>refine bE bk ?_<;>refine xE 14 rfl (Zo 1000 ZU) ?_<;>(refine aDr 15 fun bk=>?_)<;>refine Zu 1000 ZC ?_<;>refine bE bk ?_<;>refine xE 16 rfl (Zo 1000 ZU) ?_<;>(refine aDr 17 fun bk=>?_)<;>refine Zu 1000 ZC ?_<;>refine bE bk ?_)))));rotate_right;(focus ((refine aWr fun bk=>?_)<;>refine yU (Zj 1000 ZC) fun v46=>?_<;>refine bE bk ?_<;>(refine aDr 12 fun bk=>?_)<;>refine xM (Zo 1000 ZU) ?_<;>refine bE bk ?_<;>(refine aDr 13 fun bk=>?_)<;>refine yU (Zj 1000 ZC) fun v50=>?_<;>refine bE bk ?_<;>refine xE 14 rfl (Zo 1000 ZU) ?_<;>(refine aDr 15 fun bk=>?_)<;>refine Zu 1000 ZC ?_<;>refine bE bk ?_<;>refine xE 16 rfl (Zo 1000 ZU) ?_<;>(refine aDr 17 fun bk=>?_)<;>refine Zu 1000 ZC ?_<;>refine bE bk ?_))))))<;>refine Kz ?_)<;>(
 refine GH ?_;refine xM ((WJ (c:=((k:Nat):Int)))) ?_;refine ZB ?_;rw [hsw];refine Yh (
  ⟨(k,swp L (k+1) k),by dsimp only;omega,by dsimp only;omega, .step _ _ hS oM oM oM oM h2,ZmB leT hI oM oM oM hx hy (by unfold leT;omega)⟩
  )))
 · (
 refine Y5 ?_
 first
  | (exact Yh (
      ⟨(i+1,L),by dsimp only;omega,by dsimp only;omega,hS,Zhy leT GM (fun _ _ _=>JO) hI oM oM (show i<L.length by omega) (.inr ⟨k,y,x,rfl,hy,hx,Tn oM⟩)⟩
      ))
  | (exact Yh (
      ⟨(i+1,L),by dsimp only;omega,by dsimp only;omega,hS,Zhy leT GM (fun _ _ _=>JO) hI oM oM (show i<L.length by omega) (.inl oM)⟩
      )))))
 · (
 refine nav ?_;refine TR [(1000,hv, .own 24 3 l.length (Z9 L0))] results225 sB ⟨L0,hS0,hO0.sub _ (Xe _) oM,by rw [hS0.len]⟩)
theorem ZA:AggT prog 24 3=true:=kR
theorem ZO:SlT prog 22 24 3=true:=kR
theorem E9 {a s m:Nat} {l:List Nd} (h1:a≤s) (h2:s≤m) (h:¬(a<s∧s<m)) (g1:SrtS leT a s l) (g2:SrtS leT s m l):SrtS leT a m l:=by
 rcases XD a s with h3|h3
 · have:s=m:=oM;subst this;exact g1
 · have:s=a:=oM;subst this;exact g2
theorem ZmJ {s m e k:Nat} (h1:s≤m) (h2:m≤e) (h:¬(s<m∧m<e)):R7 s m e k=k:=by
 unfold R7
 split
 · rfl
 · split<;>omega
def BsT (m b i j:Nat) (x:Nd) (l:List Nd):Prop:=m≤i∧i≤j∧j≤b∧(∀q y,m≤q→q<i→l[q]? =some y→leT y x)∧(∀q y,j≤q→q<b→l[q]? =some y→leT x y)
theorem ZdZ (m b:Nat) (x:Nd) (l:List Nd) (h:m≤b):BsT m b m b x l:=⟨Xe _,h,Xe _,fun q y h1 h2=>oM,fun q y h1 h2=>oM⟩
theorem ZhE {m b i j c:Nat} {x y:Nd} {l:List Nd} (h:BsT m b i j x l) (hs:SrtS leT m b l) (h1:i≤c) (h2:c<j) (hy:l[c]? =some y) (hle:leT y x):BsT m b (c+1) j x l:=by
 obtain ⟨e1,e2,e3,e4,e5⟩:=h
 refine ⟨oM,oM,e3,fun q z k1 k2 hz=>?_,e5⟩
 exact JO (hs.eqv leT GM k1 (show q≤c by omega) oM hz hy) hle
theorem E' {m b i j c:Nat} {x y:Nd} {l:List Nd} (h:BsT m b i j x l) (hs:SrtS leT m b l) (h1:i≤c) (h2:c<j) (hy:l[c]? =some y) (hle:leT x y):BsT m b i c x l:=by
 obtain ⟨e1,e2,e3,e4,e5⟩:=h
 refine ⟨e1,oM,oM,e4,fun q z k1 k2 hz=>?_⟩
 exact JO hle (hs.eqv leT GM (show m≤c by omega) k1 k2 hy hz)
theorem ZmK (f : Nat) (hc:∀args w,(callFunc f args).run prog w= .ok (.enter f args) w) (hv:Value) (fv:Value):∀(n:Nat) (l:List Nd) (hl:l.length≤1000000) (hf:∀x∈l,∀y∈l,AF prog f [pTr x,pTr y] (· =Zc (Kc x y))) (a m b:Nat) (hn:b-a≤n) (h1:a<m) (h2:m<b) (h3:b≤l.length) (s1:SrtS leT a m l) (s2:SrtS leT m b l),AFh False prog 226 [(0,hv, .val hv),(1, .int .i64 (a:Int),Zc a),(2, .int .i64 (m:Int),Zc m),(3, .int .i64 (b:Int),Zc b),(4,fv, .fn f [])] (W9 hv l) (fun v q h=>∃l',Sw a b l l'∧SrtS leT a b l'∧h=W9 hv l'):=fun n=>by
 induction n with
 |zero=>intro l hl hf a m b hn h1 h2;omega
 |succ n ih=>?_
 intro l hl hf a m b hn h1 h2 h3 s1 s2
 unfold W9
 obtain ⟨xa,hxa⟩:=gS l a
 obtain ⟨xm,hxm⟩:=gS l m
 have ea:=ZT hxa
 have ea2:=Yg hxa
 have em:=ZT hxm
 have em2:=Yg hxm
 refine AFh.of_body 220 func226 rfl ntmps226 (Xa rfl) rfl ?_
 intro w0 M0 N0
 refine OZ ?_;refine ZR ?_ ?_<;>intro hb28
 · (
 refine Wn ?_;refine GF ?_;refine Yd (ι:={q:Nat×Nat//BsT m b q.1 q.2 xa l}) (fun k=>⟨[(0,_,_),(1,_,_),(2,_,_),(3,_,_),(4,_,_),(10, .int .i64 k.1.1,Zc k.1.1),(11, .int .i64 k.1.2,Zc k.1.2)],[(1000,hv, .own 24 3 l.length (Z9 l))]⟩) (fun k=>k.1.2-k.1.1) ⟨(m,b),ZdZ m b xa l oM⟩ ?_;rintro ⟨⟨i,j⟩,hB⟩;dsimp only;dsimp only at hB;have hB1:=hB.1;have hB2:=hB.2.1;have hB3:=hB.2.2.1;refine Jy ?_;refine ZR ?_ ?_<;>intro hb33
 · (
 refine Wn ?_;refine xM ((J' (c:=((i+j:Nat):Int)))) ?_;refine xM ((ZhB (a:=i+j) rfl rfl oM)) ?_;refine xM ((E8 (a:=i+j) rfl)) ?_;refine xM ((ZhC (a:=(i+j) / 2) rfl rfl oM)) ?_;refine ZB ?_;obtain ⟨y,hy⟩:=gS l ((i+j) / 2);have e3:=ZT hy;have e4:=Yg hy;refine We [] [1000] ?_<;>refine gDx 0 ?_<;>refine gDx 1 ?_<;>refine gDx 2 ?_<;>refine xD 3 rfl (Zo 1000 ZO) ?_<;>(refine yD 4 rfl (Zj 1000 ZA) fun v44 h=>?_;cases h)<;>refine gDx 5 ?_<;>refine gEx 6 ?_<;>refine xE 7 rfl (Zo 1000 ZO) ?_<;>(refine yE 8 rfl (Zj 1000 ZA) fun v48 h=>?_;cases h)<;>(refine Z6 9 kR ?_)<;>(refine Yz (d:=49) rfl (LV (f:=f) (ps:=[]) rfl ⟨_,rfl⟩ hc rfl (hf y (Xc hy) xa (Xc hxa))) fun v49 h=>?_;cases h)<;>refine gEx 10 ?_<;>refine Kz ?_;refine cX ?_ ?_<;>intro hb50
 · (
 refine Y5 ?_
 first
  | (exact Yh (
      ⟨((i+j) / 2+1,j),ZhE hB s2 oM oM hy (by unfold leT;omega)⟩
      ))
  | (exact Yh (
      ⟨(i,(i+j) / 2),E' hB s2 oM oM hy (Tn oM)⟩
      )))
 · (
 refine ZE ?_
 first
  | (exact Yh (
      ⟨((i+j) / 2+1,j),ZhE hB s2 oM oM hy (by unfold leT;omega)⟩
      ))
  | (exact Yh (
      ⟨(i,(i+j) / 2),E' hB s2 oM oM hy (Tn oM)⟩
      ))))
 · (
 have hij:j=i:=oM;subst hij;have hM:Mov leT a b a j l:=ZjJ leT (by rw [show a+1=m by omega];exact s2) oM (fun q x y h4 h5 hx hy=>by
  rw [hxa] at hx;cases hx;exact hB.2.2.2.1 q y oM h5 hy) (fun q x y h4 h5 hx hy=>by
  rw [hxa] at hx;cases hx;exact hB.2.2.2.2 q y h4 h5 hy)
 refine ZE ?_;refine Yd (ι:={q:Nat×List Nd//a≤q.1∧q.1+1≤j∧Sw a b l q.2∧Mov leT a b q.1 j q.2}) (fun k=>⟨[(0,_,_),(1,_,_),(2,_,_),(3,_,_),(4,_,_),(10,_,_),(13, .int .i64 k.1.1,Zc k.1.1)],[(1000,hv, .own 24 3 l.length (Z9 k.1.2))]⟩) (fun k=>j-k.1.1) ⟨(a,l),by dsimp only;omega,by dsimp only;omega, .refl _,hM⟩ ?_;rintro ⟨⟨k,L⟩,hk1,hk2,hS,hM2⟩;dsimp only;dsimp only at hk1 hk2 hS hM2;have hLl:=hS.len;refine Wn ?_;refine xM ((WJ (c:=((j-1:Nat):Int)))) ?_;refine YX ?_ ?_<;>intro hb58
 · (
 have hkj:k+1<j:=oM;obtain ⟨x,hx⟩:=gS L k;obtain ⟨y,hy⟩:=gS L (k+1);have e1:=ZT hx;have e2:=Yg hx;have e3:=ZT hy;have e4:=Yg hy;have hsw:=Ov hx hy;have e5:(Tz (Z9 L) (k*3) (cN y)).length=(Z9 L).length:=S7 _ _ _;refine nav ?_;(refine We [] [] ?_<;>refine gDx 0 ?_<;>refine gDx 1 ?_<;>refine gDx 2 ?_<;>refine gDx 3 ?_<;>refine xD 4 rfl ((J' (c:=((k+1:Nat):Int)))) ?_<;>refine gDx 5 ?_<;>refine gDx 6 ?_<;>refine xD 7 rfl ((J' (c:=((k+1:Nat):Int)))) ?_<;>refine gDx 10 ?_<;>refine gDx 11 ?_<;>(refine Wm 8 12 kR ?_ ?_;rotate_right;(focus ((refine aWr fun bk=>?_)<;>refine xM (Zo 1000 ZO) ?_<;>refine bE bk ?_<;>(refine Wm 8 13 kR ?_ ?_;rotate_right;(focus ((refine aWr fun bk=>?_)<;>refine yU (Zj 1000 ZA) fun v74=>?_<;>refine bE bk ?_<;>(refine aDr 8 fun bk=>?_)<;>refine xM (Zo 1000 ZO) ?_<;>refine bE bk ?_<;>(refine aDr 9 fun bk=>?_)<;>refine yU (Zj 1000 ZA) fun v70=>?_<;>refine bE bk ?_<;>refine xE 14 rfl (Zo 1000 ZO) ?_<;>(refine aDr 15 fun bk=>?_)<;>refine Zu 1000 ZA ?_<;>refine bE bk ?_<;>refine xE 16 rfl (Zo 1000 ZO) ?_<;>(refine aDr 17 fun bk=>?_)<;>refine Zu 1000 ZA ?_<;>refine bE bk ?_));rotate_right;(focus ((refine aWr fun bk=>?_)<;>refine xM (Zo 1000 ZO) ?_<;>refine bE bk ?_<;>(refine Wm 9 13 kR ?_ ?_;rotate_right;(focus ((refine aWr fun bk=>?_)<;>refine yU (Zj 1000 ZA) fun v74=>?_<;>refine bE bk ?_<;>(refine aDr 9 fun bk=>?_)<;>refine yU (Zj 1000 ZA) fun v70=>?_<;>refine bE bk ?_<;>refine xE 14 rfl (Zo 1000 ZO) ?_<;>(refine aDr 15 fun bk=>?_)<;>refine Zu 1000 ZA ?_<;>refine bE bk ?_<;>refine xE 16 rfl (Zo 1000 ZO) ?_<;>(refine aDr 17 fun bk=>?_)<;>refine Zu 1000 ZA ?_<;>refine bE bk ?_));rotate_right;(focus ((refine aWr fun bk=>?_)<;>refine yU (Zj 1000 ZA) fun v70=>?_<;>refine bE bk ?_<;>(refine aDr 13 fun bk=>?_)<;>refine yU (Zj 1000 ZA) fun v74=>?_<;>refine bE bk ?_<;>refine xE 14 rfl (Zo 1000 ZO) ?_<;>(refine aDr 15 fun bk=>?_)<;>refine Zu 1000 ZA ?_<;>refine bE bk ?_<;>refine xE 16 rfl (Zo 1000 ZO) ?_<;>(refine aDr 17 fun bk=>?_)<;>refine Zu 1000 ZA ?_<;>refine bE bk ?_))))))));rotate_right;(focus ((refine aWr fun bk=>?_)<;>refine xM (Zo 1000 ZO) ?_<;>refine bE bk ?_<;>(refine Wm 9 12 kR ?_ ?_;rotate_right;(focus ((refine aWr fun bk=>?_)<;>refine xM (Zo 1000 ZO) ?_<;>refine bE bk ?_<;>(refine Wm 9 13 kR ?_ ?_;rotate_right;(focus ((refine aWr fun bk=>?_)<;>refine yU (Zj 1000 ZA) fun v74=>?_<;>refine bE bk ?_<;>(refine aDr 9 fun bk=>?_)<;>refine yU (Zj 1000 ZA) fun v70=>?_<;>refine bE bk ?_<;>refine xE 14 rfl (Zo 1000 ZO) ?_<;>(refine aDr 15 fun bk=>?_)<;>refine Zu 1000 ZA ?_<;>refine bE bk ?_<;>refine xE 16 rfl (Zo 1000 ZO) ?_<;>(refine aDr 17 fun bk=>?_)<;>refine Zu 1000 ZA ?_<;>refine bE bk ?_));rotate_right;(focus ((refine aWr fun bk=>?_)<;>refine yU (Zj 1000 ZA) fun v70=>?_<;>refine bE bk ?_<;>(refine aDr 13 fun bk=>?_)<;>refine yU (Zj 1000 ZA) fun v74=>?_<;>refine bE bk ?_<;>refine xE 14 rfl (Zo 1000 ZO) ?_<;>(refine aDr 15 fun bk=>?_)<;>refine Zu 1000 ZA ?_<;>refine bE bk ?_<;>refine xE 16 rfl (Zo 1000 ZO) ?_<;>(refine aDr 17 fun bk=>?_)<;>refine Zu 1000 ZA ?_<;>refine bE bk ?_)))));rotate_right;(focus ((refine aWr fun bk=>?_)<;>refine yU (Zj 1000 ZA) fun v70=>?_<;>refine bE bk ?_<;>(refine aDr 12 fun bk=>?_)<;>refine xM (Zo 1000 ZO) ?_<;>refine bE bk ?_<;>(refine aDr 13 fun bk=>?_)<;>refine yU (Zj 1000 ZA) fun v74=>?_<;>refine bE bk ?_<;>refine xE 14 rfl (Zo 1000 ZO) ?_<;>(refine aDr 15 fun bk=>?_)<;>refine Zu 1000 ZA ?_<;>refine bE bk ?_<;>refine xE 16 rfl (Zo 1000 ZO) ?_<;>(refine aDr 17 fun bk=>?_)<;>refine Zu 1000 ZA ?_<;>refine bE bk ?_))))))<;>refine Kz ?_)<;>(
 refine OY ?_;rw [hsw];refine Yh (
  ⟨(k+1,swp L k (k+1)),by dsimp only;omega,by dsimp only;omega, .step _ _ hS oM oM oM oM h3,ZjI leT hM2 oM oM hB3 oM⟩
  )))
 · (
 refine nav ?_;refine ZfN (W9 hv L) results226 ⟨by rw [←hLl];rfl,trivial⟩ ⟨L,hS,Zad leT hM2 oM,rfl⟩)))
 · (
 refine OZ ?_;refine ZR ?_ ?_<;>intro hb80
 · (
 refine Wn ?_;refine GF ?_;refine Yd (ι:={q:Nat×Nat//BsT a m q.1 q.2 xm l}) (fun k=>⟨[(0,_,_),(1,_,_),(2,_,_),(3,_,_),(4,_,_),(14, .int .i64 k.1.1,Zc k.1.1),(15, .int .i64 k.1.2,Zc k.1.2)],[(1000,hv, .own 24 3 l.length (Z9 l))]⟩) (fun k=>k.1.2-k.1.1) ⟨(a,m),ZdZ a m xm l oM⟩ ?_;rintro ⟨⟨i,j⟩,hB⟩;dsimp only;dsimp only at hB;have hB1:=hB.1;have hB2:=hB.2.1;have hB3:=hB.2.2.1;refine Jy ?_;refine ZR ?_ ?_<;>intro hb85
 · (
 refine Wn ?_;refine xM ((J' (c:=((i+j:Nat):Int)))) ?_;refine xM ((ZhB (a:=i+j) rfl rfl oM)) ?_;refine xM ((E8 (a:=i+j) rfl)) ?_;refine xM ((ZhC (a:=(i+j) / 2) rfl rfl oM)) ?_;refine ZB ?_;obtain ⟨y,hy⟩:=gS l ((i+j) / 2);have e3:=ZT hy;have e4:=Yg hy;refine We [] [1000] ?_<;>refine gDx 0 ?_<;>refine gDx 1 ?_<;>refine gDx 2 ?_<;>refine xD 3 rfl (Zo 1000 ZO) ?_<;>(refine yD 4 rfl (Zj 1000 ZA) fun v96 h=>?_;cases h)<;>refine gDx 5 ?_<;>refine gEx 6 ?_<;>refine xE 7 rfl (Zo 1000 ZO) ?_<;>(refine yE 8 rfl (Zj 1000 ZA) fun v100 h=>?_;cases h)<;>(refine Z6 9 kR ?_)<;>(refine Yz (d:=101) rfl (LV (f:=f) (ps:=[]) rfl ⟨_,rfl⟩ hc rfl (hf xm (Xc hxm) y (Xc hy))) fun v101 h=>?_;cases h)<;>refine gEx 10 ?_<;>refine gEx 11 ?_<;>refine Kz ?_;refine cX ?_ ?_<;>intro hb103
 · (
 refine Y5 ?_
 first
  | (exact Yh (
      ⟨((i+j) / 2+1,j),ZhE hB s1 oM oM hy (Tn (by simpa using hb103))⟩
      ))
  | (exact Yh (
      ⟨(i,(i+j) / 2),E' hB s1 oM oM hy (by unfold leT;simp at hb103;omega)⟩
      )))
 · (
 refine ZE ?_
 first
  | (exact Yh (
      ⟨((i+j) / 2+1,j),ZhE hB s1 oM oM hy (Tn (by simpa using hb103))⟩
      ))
  | (exact Yh (
      ⟨(i,(i+j) / 2),E' hB s1 oM oM hy (by unfold leT;simp at hb103;omega)⟩
      ))))
 · (
 have hij:j=i:=oM;subst hij;have hbm:b=m+1:=oM;subst hbm;have hM:Mov leT a (m+1) m j l:=ZmD leT s1 oM (fun q x y h4 h5 hx hy=>by
  rw [hxm] at hx;cases hx;exact hB.2.2.2.1 q y h4 h5 hy) (fun q x y h4 h5 hx hy=>by
  rw [hxm] at hx;cases hx;exact hB.2.2.2.2 q y h4 h5 hy)
 refine ZE ?_;refine Yd (ι:={q:Nat×List Nd//j≤q.1∧q.1<m+1∧Sw a (m+1) l q.2∧Mov leT a (m+1) q.1 j q.2}) (fun k=>⟨[(0,_,_),(1,_,_),(2,_,_),(3,_,_),(4,_,_),(14,_,_),(17, .int .i64 k.1.1,Zc k.1.1)],[(1000,hv, .own 24 3 l.length (Z9 k.1.2))]⟩) (fun k=>k.1.1) ⟨(m,l),by dsimp only;omega,by dsimp only;omega, .refl _,hM⟩ ?_;rintro ⟨⟨k,L⟩,hk1,hk2,hS,hM2⟩;dsimp only;dsimp only at hk1 hk2 hS hM2;have hLl:=hS.len;refine Jy ?_;refine ZR ?_ ?_<;>intro hb110
 · (
 obtain ⟨k',rfl⟩:∃k',k=k'+1:=⟨k-1,oM⟩;obtain ⟨x,hx⟩:=gS L (k'+1);obtain ⟨y,hy⟩:=gS L (k');have e1:=ZT hx;have e2:=Yg hx;have e3:=ZT hy;have e4:=Yg hy;have hsw:=Ov hx hy;have e5:(Tz (Z9 L) ((k'+1)*3) (cN y)).length=(Z9 L).length:=S7 _ _ _;refine nav ?_;(refine We [] [] ?_<;>refine gDx 0 ?_<;>refine gDx 1 ?_<;>refine gDx 2 ?_<;>refine gDx 3 ?_<;>refine xD 4 rfl ((WJ (c:=((k':Nat):Int)))) ?_<;>refine gDx 5 ?_<;>refine gDx 6 ?_<;>refine xD 7 rfl ((WJ (c:=((k':Nat):Int)))) ?_<;>refine gDx 10 ?_<;>refine gDx 11 ?_<;>(refine Wm 8 12 kR ?_ ?_;rotate_right;(focus ((refine aWr fun bk=>?_)<;>refine xM (Zo 1000 ZO) ?_<;>refine bE bk ?_<;>(refine Wm 8 13 kR ?_ ?_;rotate_right;(focus ((refine aWr fun bk=>?_)<;>refine yU (Zj 1000 ZA) fun v126=>?_<;>refine bE bk ?_<;>(refine aDr 8 fun bk=>?_)<;>refine xM (Zo 1000 ZO) ?_<;>refine bE bk ?_<;>(refine aDr 9 fun bk=>?_)<;>refine yU (Zj 1000 ZA) fun v122=>?_<;>refine bE bk ?_<;>refine xE 14 rfl (Zo 1000 ZO) ?_<;>(refine aDr 15 fun bk=>?_)<;>refine Zu 1000 ZA ?_<;>refine bE bk ?_<;>refine xE 16 rfl (Zo 1000 ZO) ?_<;>(refine aDr 17 fun bk=>?_)<;>refine Zu 1000 ZA ?_<;>refine bE bk ?_));rotate_right;(focus ((refine aWr fun bk=>?_)<;>refine xM (Zo 1000 ZO) ?_<;>refine bE bk ?_<;>(refine Wm 9 13 kR ?_ ?_;rotate_right;(focus ((refine aWr fun bk=>?_)<;>refine yU (Zj 1000 ZA) fun v126=>?_<;>refine bE bk ?_<;>(refine aDr 9 fun bk=>?_)<;>refine yU (Zj 1000 ZA) fun v122=>?_<;>refine bE bk ?_<;>refine xE 14 rfl (Zo 1000 ZO) ?_<;>(refine aDr 15 fun bk=>?_)<;>refine Zu 1000 ZA ?_<;>refine bE bk ?_<;>refine xE 16 rfl (Zo 1000 ZO) ?_<;>(refine aDr 17 fun bk=>?_)<;>refine Zu 1000 ZA ?_<;>refine bE bk ?_));rotate_right;(focus ((refine aWr fun bk=>?_)<;>refine yU (Zj 1000 ZA) fun v122=>?_<;>refine bE bk ?_<;>(refine aDr 13 fun bk=>?_)<;>refine yU (Zj 1000 ZA) fun v126=>?_<;>refine bE bk ?_<;>refine xE 14 rfl (Zo 1000 ZO) ?_<;>(refine aDr 15 fun bk=>?_)<;>refine Zu 1000 ZA ?_<;>refine bE bk ?_<;>refine xE 16 rfl (Zo 1000 ZO) ?_<;>(refine aDr 17 fun bk=>?_)<;>refine Zu 1000 ZA ?_<;>refine bE bk ?_))))))));rotate_right;(focus ((refine aWr fun bk=>?_)<;>refine xM (Zo 1000 ZO) ?_<;>refine bE bk ?_<;>(refine Wm 9 12 kR ?_ ?_;rotate_right;(focus ((refine aWr fun bk=>?_)<;>refine xM (Zo 1000 ZO) ?_<;>refine bE bk ?_<;>(refine Wm 9 13 kR ?_ ?_;rotate_right;(focus ((refine aWr fun bk=>?_)<;>refine yU (Zj 1000 ZA) fun v126=>?_<;>refine bE bk ?_<;>(refine aDr 9 fun bk=>?_)<;>refine yU (Zj 1000 ZA) fun v122=>?_<;>refine bE bk ?_<;>refine xE 14 rfl (Zo 1000 ZO) ?_<;>(refine aDr 15 fun bk=>?_)<;>refine Zu 1000 ZA ?_<;>refine bE bk ?_<;>refine xE 16 rfl (Zo 1000 ZO) ?_<;>(refine aDr 17 fun bk=>?_)<;>refine Zu 1000 ZA ?_<;>refine bE bk ?_));rotate_right;(focus ((refine aWr fun bk=>?_)<;>refine yU (Zj 1000 ZA) fun v122=>?_<;>refine bE bk ?_<;>(refine aDr 13 fun bk=>?_)<;>refine yU (Zj 1000 ZA) fun v126=>?_<;>refine bE bk ?_<;>refine xE 14 rfl (Zo 1000 ZO) ?_<;>(refine aDr 15 fun bk=>?_)<;>refine Zu 1000 ZA ?_<;>refine bE bk ?_<;>refine xE 16 rfl (Zo 1000 ZO) ?_<;>(refine aDr 17 fun bk=>?_)<;>refine Zu 1000 ZA ?_<;>refine bE bk ?_)))));rotate_right;(focus ((refine aWr fun bk=>?_)<;>refine yU (Zj 1000 ZA) fun v122=>?_<;>refine bE bk ?_<;>(refine aDr 12 fun bk=>?_)<;>refine xM (Zo 1000 ZO) ?_<;>refine bE bk ?_<;>(refine aDr 13 fun bk=>?_)<;>refine yU (Zj 1000 ZA) fun v126=>?_<;>refine bE bk ?_<;>refine xE 14 rfl (Zo 1000 ZO) ?_<;>(refine aDr 15 fun bk=>?_)<;>refine Zu 1000 ZA ?_<;>refine bE bk ?_<;>refine xE 16 rfl (Zo 1000 ZO) ?_<;>(refine aDr 17 fun bk=>?_)<;>refine Zu 1000 ZA ?_<;>refine bE bk ?_))))))<;>refine Kz ?_)<;>(
 refine GH ?_;refine xM ((WJ (c:=((k':Nat):Int)))) ?_;refine ZB ?_;rw [hsw];refine Yh (
  ⟨(k',swp L (k'+1) k'),by dsimp only;omega,by dsimp only;omega, .step _ _ hS oM oM oM oM h3,ZmC leT hM2 oM oM oM oM⟩
  )))
 · (
 have hkj:k=j:=oM;subst hkj;refine nav ?_;refine ZfN (W9 hv L) results226 ⟨by rw [←hLl];rfl,trivial⟩ ⟨L,hS,Zb8 leT hM2,rfl⟩)))
 · (
 have hlo:=ZmH h1 h2;have hmid:(a+b) / 2<b:=oM;refine Wn ?_;refine xM ((J' (c:=((a+b:Nat):Int)))) ?_;refine xM ((ZhB (a:=a+b) rfl rfl oM)) ?_;refine xM ((E8 (a:=a+b) rfl)) ?_;refine xM ((ZhC (a:=(a+b) / 2) rfl rfl oM)) ?_;refine ZQ ?_;refine YW ?_;refine xM ((J' (c:=(((a+b) / 2+m:Nat):Int)))) ?_;refine ZQ ?_;refine Jn ?_;refine DK ?_;refine KI (fun _:Unit=>⟨[(0,hv, .val hv),(1, .int .i64 (a:Int),Zc a),(2, .int .i64 (m:Int),Zc m),(3, .int .i64 (b:Int),Zc b),(4,fv, .fn f []),(18, .int .i64 (((a+b) / 2:Nat):Int),Zc (((a+b) / 2:Nat):Int)),(19, .int .i64 (((a+b) / 2+m:Nat):Int),Zc (((a+b) / 2+m:Nat):Int)),(20, .int .i64 (loM a m b:Int),Zc (loM a m b)),(21, .int .i64 (hiM a m b:Int),Zc (hiM a m b))],W9 hv l⟩) ?_ ?_
 · refine cX ?_ ?_<;>intro hb140
   · (
 refine Wn ?_;refine xM ((WJ (c:=((loM a m b:Nat):Int)) (hc:=by unfold loM;rw [Qb oM];omega))) ?_;refine ZQ ?_;refine xM ((Zcb (c:=((hiM a m b:Nat):Int)) (hc:=by unfold hiM;rw [Qb oM]))) ?_;refine ZB ?_;exact ZS () sB sB)
   · (
 refine Zh ?_;refine xM ((Zcb (c:=((loM a m b:Nat):Int)) (hc:=by unfold loM;rw [Qa oM]))) ?_;refine ZQ ?_;refine xM ((Zcb (c:=((hiM a m b:Nat):Int)) (hc:=by unfold hiM;rw [Qa oM]))) ?_;refine ZB ?_;exact ZS () sB sB)
 · intro _;unfold W9;refine Wh ?_;refine xM ((WJ (c:=(((a+b) / 2+m-1:Nat):Int)))) ?_;refine ZB ?_;refine Yd (ι:={q:Nat×Nat//Thr leT (loM a m b) (hiM a m b) ((a+b) / 2+m-1) q.1 q.2 l}) (fun k=>⟨[(0,_,_),(1,_,_),(2,_,_),(3,_,_),(4,_,_),(18,_,_),(19,_,_),(22,_,_),(20, .int .i64 k.1.1,Zc k.1.1),(21, .int .i64 k.1.2,Zc k.1.2)],[(1000,hv, .own 24 3 l.length (Z9 l))]⟩) (fun k=>k.1.2-k.1.1) ⟨(loM a m b,hiM a m b),ZjK leT l hlo.2.1⟩ ?_;rintro ⟨⟨i,j⟩,hT⟩;dsimp only;dsimp only at hT;have hB1:=hT.1;have hB2:=hT.2.1;have hB3:=hT.2.2.1;refine Jy ?_;refine ZR ?_ ?_<;>intro hb151
   · (
 refine Wn ?_;refine xM ((J' (c:=((i+j:Nat):Int)))) ?_;refine xM ((ZhB (a:=i+j) rfl rfl oM)) ?_;refine xM ((E8 (a:=i+j) rfl)) ?_;refine xM ((ZhC (a:=(i+j) / 2) rfl rfl oM)) ?_;refine ZB ?_;obtain ⟨x,hx⟩:=gS l ((i+j) / 2);have e1:=ZT hx;have e2:=Yg hx;obtain ⟨y,hy⟩:=get_some (show (a+b) / 2+m-1-(i+j) / 2<l.length by omega);have e3:=ZT hy;have e4:=Yg hy;refine We [] [1000] ?_<;>refine gDx 0 ?_<;>refine gDx 1 ?_<;>refine gDx 2 ?_<;>refine gDx 3 ?_<;>refine xD 4 rfl ((WJ (c:=(((a+b) / 2+m-1-(i+j) / 2:Nat):Int)))) ?_<;>refine xD 5 rfl (Zo 1000 ZO) ?_<;>(refine yD 6 rfl (Zj 1000 ZA) fun v164 h=>?_;cases h)<;>refine gDx 7 ?_<;>refine gEx 8 ?_<;>refine xE 9 rfl (Zo 1000 ZO) ?_<;>(refine yE 10 rfl (Zj 1000 ZA) fun v168 h=>?_;cases h)<;>(refine Z6 11 kR ?_)<;>(refine Yz (d:=169) rfl (LV (f:=f) (ps:=[]) rfl ⟨_,rfl⟩ hc rfl (hf y (Xc hy) x (Xc hx))) fun v169 h=>?_;cases h)<;>refine gEx 12 ?_<;>refine gEx 13 ?_<;>refine Kz ?_;refine cX ?_ ?_<;>intro hb171
 · (
 refine Y5 ?_
 first
  | (exact Yh (
      ⟨((i+j) / 2+1,j),ZmG GM (fun _ _ _=>JO) hT s1 s2 oM oM hlo.1 hlo.2.2.1 hlo.2.2.2.1 hlo.2.2.2.2.1 h3 hx hy (Tn (by simpa using hb171))⟩
      ))
  | (exact Yh (
      ⟨(i,(i+j) / 2),ZdW GM (fun _ _ _=>JO) hT s1 s2 oM oM hlo.1 hlo.2.2.1 hlo.2.2.2.1 hlo.2.2.2.2.1 h3 hx hy (by unfold leT;simp at hb171;omega)⟩
      )))
 · (
 refine ZE ?_
 first
  | (exact Yh (
      ⟨((i+j) / 2+1,j),ZmG GM (fun _ _ _=>JO) hT s1 s2 oM oM hlo.1 hlo.2.2.1 hlo.2.2.2.1 hlo.2.2.2.2.1 h3 hx hy (Tn (by simpa using hb171))⟩
      ))
  | (exact Yh (
      ⟨(i,(i+j) / 2),ZdW GM (fun _ _ _=>JO) hT s1 s2 oM oM hlo.1 hlo.2.2.1 hlo.2.2.2.1 hlo.2.2.2.2.1 h3 hx hy (by unfold leT;simp at hb171;omega)⟩
      ))))
   · (
 have hij:j=i:=oM;subst hij;have hj1:j≤(a+b) / 2:=oM;have hj2:j≤m:=oM;refine Wn ?_;refine xM ((WJ (c:=(((a+b) / 2+m-j:Nat):Int)))) ?_;refine ZQ ?_;(refine OK ?_<;>(refine bLd 181 (fun hb181=>?_) (fun hb181=>?_)<;>refine kZ ?_)<;>refine kZ ?_<;>refine Wz ?_)<;>(
 refine KI (fun L1:{L1:List Nd//(∀k,L1[k]? =l[R7 j m ((a+b) / 2+m-j) k]?)∧Sw a b l L1}=>⟨[(0,hv, .val hv),(1, .int .i64 (a:Int),Zc a),(2, .int .i64 (m:Int),Zc m),(3, .int .i64 (b:Int),Zc b),(4,fv, .fn f []),(18, .int .i64 (((a+b) / 2:Nat):Int),Zc (((a+b) / 2:Nat):Int)),(20, .int .i64 (j:Int),Zc j),(24, .int .i64 (((a+b) / 2+m-j:Nat):Int),Zc (((a+b) / 2+m-j:Nat):Int))],W9 hv L1.1⟩) ?_ ?_
 · refine cX ?_ ?_<;>intro hb185
   · first|exact bN hb185|(
 refine Zh ?_;refine JY ?_;(refine JZ (W9 hv l) sB ?_;refine WA [] 191 (call247) (ZjM l hl j m ((a+b) / 2+m-j) oM oM oM hv fv f) (fun v191 p191 h191 hR191=>?_);obtain ⟨L1,hL1,hS1,rfl⟩:=hR191;have hL1l:=hS1.len;dsimp only [W9]);refine ZF ?_
 first
 |exact ZS ⟨L1,hL1,hS1.mono oM oM h3⟩ sB sB
 |exact ZS ⟨l,fun k=>by rw [ZmJ oM oM oM], .refl _⟩ sB sB)
   · (
 refine nav ?_
 first
 |exact ZS ⟨L1,hL1,hS1.mono oM oM h3⟩ sB sB
 |exact ZS ⟨l,fun k=>by rw [ZmJ oM oM oM], .refl _⟩ sB sB)
 · rintro ⟨L1,hL1,hS1⟩;dsimp only;have hL1l:=hS1.len;obtain ⟨g1,g2,g3,g4,g5,g6,g7,g8,g9⟩:=ZjL GM (fun _ _ _=>JO) h1 h2 h3 s1 s2 hT hL1;have hf1:∀x∈L1,∀y∈L1,AF prog f [pTr x,pTr y] (· =Zc (Kc x y)):=fun x hx y hy=>hf x (PZ hS1 hx) y (PZ hS1 hy);unfold W9;refine Zh ?_;(refine OK ?_<;>(refine bLd 195 (fun hb195=>?_) (fun hb195=>?_)<;>refine kZ ?_)<;>refine kZ ?_<;>refine Wz ?_)<;>(
 refine KI (fun L2:{L2:List Nd//Sw a ((a+b) / 2) L1 L2∧SrtS leT a ((a+b) / 2) L2}=>⟨[(0,hv, .val hv),(1, .int .i64 (a:Int),Zc a),(2, .int .i64 (m:Int),Zc m),(3, .int .i64 (b:Int),Zc b),(4,fv, .fn f []),(18, .int .i64 (((a+b) / 2:Nat):Int),Zc (((a+b) / 2:Nat):Int)),(20, .int .i64 (j:Int),Zc j),(24, .int .i64 (((a+b) / 2+m-j:Nat):Int),Zc (((a+b) / 2+m-j:Nat):Int))],W9 hv L2.1⟩) ?_ ?_
 · refine cX ?_ ?_<;>intro hb199
   · first|exact bN hb199|(
 refine Zh ?_;refine JY ?_;(refine JZ (W9 hv L1) sB ?_;refine WA [] 205 (call226) (ih L1 oM hf1 a j ((a+b) / 2) oM oM oM oM g1 g2) (fun v205 p205 h205 hR205=>?_);obtain ⟨L2,hS2,hO2,rfl⟩:=hR205;have hL2l:=hS2.len;dsimp only [W9]);refine ZF ?_
 first
 |exact ZS ⟨L2,hS2,hO2⟩ sB sB
 |exact ZS ⟨L1, .refl _,E9 g5 g6 oM g1 g2⟩ sB sB)
   · (
 refine nav ?_
 first
 |exact ZS ⟨L2,hS2,hO2⟩ sB sB
 |exact ZS ⟨L1, .refl _,E9 g5 g6 oM g1 g2⟩ sB sB)
 · rintro ⟨L2,hS2,hO2⟩;dsimp only;have hL2l:=hS2.len;have hf2:∀x∈L2,∀y∈L2,AF prog f [pTr x,pTr y] (· =Zc (Kc x y)):=fun x hx y hy=>hf1 x (PZ hS2 hx) y (PZ hS2 hy);have g3':SrtS leT ((a+b) / 2) ((a+b) / 2+m-j) L2:=g3.ext leT fun k k1 k2=>hS2.out (.inr k1);have g4':SrtS leT ((a+b) / 2+m-j) b L2:=g4.ext leT fun k k1 k2=>hS2.out (.inr oM);unfold W9;refine Zh ?_;(refine OK ?_<;>(refine bLd 209 (fun hb209=>?_) (fun hb209=>?_)<;>refine kZ ?_)<;>refine kZ ?_<;>refine Wz ?_)<;>(
 refine cX ?_ ?_<;>intro hb213
 · first|exact bN hb213|(
 refine Zh ?_;refine JY ?_;(refine JZ (W9 hv L2) sB ?_;refine WA [] 219 (call226) (ih L2 oM hf2 ((a+b) / 2) ((a+b) / 2+m-j) b oM oM oM oM g3' g4') (fun v219 p219 h219 hR219=>?_);obtain ⟨L3,hS3,hO3,rfl⟩:=hR219;have hL3l:=hS3.len;dsimp only [W9]);refine ZF ?_
 first
 |exact TR (W9 hv L3) results226 sB ⟨L3,hS1.trans ((hS2.mono (Xe _) oM oM).trans (hS3.mono oM (Xe _) oM)),R8 oM oM oM g9 hS2 hS3 hO2 hO3,rfl⟩
 |exact TR (W9 hv L2) results226 sB ⟨L2,hS1.trans (hS2.mono (Xe _) oM oM),R8 oM oM oM g9 hS2 (.refl _) hO2 (E9 g7 g8 oM g3' g4'),rfl⟩)
 · (
 refine nav ?_
 first
 |exact TR (W9 hv L3) results226 sB ⟨L3,hS1.trans ((hS2.mono (Xe _) oM oM).trans (hS3.mono oM (Xe _) oM)),R8 oM oM oM g9 hS2 hS3 hO2 hO3,rfl⟩
 |exact TR (W9 hv L2) results226 sB ⟨L2,hS1.trans (hS2.mono (Xe _) oM oM),R8 oM oM oM g9 hS2 (.refl _) hO2 (E9 g7 g8 oM g3' g4'),rfl⟩)))))))
end Go.Proofs.YteiincihiagidaaGreat
namespace Go.En
open Go.RowKit Go.Cb
section
variable {P:Program} {c:Ctx} {sL hP:List (Nat×Ent)}
end
section
variable {P:Program} {c:Ctx} {sL hP:List (Nat×Ent)}
end
section
variable {P:Program} {st:St} {o:Oper}
theorem Se {t e k e' k' n a:Nat} {x y:Operand} {h:Value} {p q:PV} {cs:List PV} {kd:IntKind} {i:Int} (l:Nat) (hT:SlT P t e k=true) (ho:o.op= .indexAddr t x y) (hx:ev st.slots x=some (slc h a n k,p)) (hy:ev st.slots y=some (.int kd i,q)) (hl:lk st.heap l=some (h, .own e' k' n cs)) (h0:0≤i) (h1:(a:Int)+i<n) {m:Nat} (hm:m=(a+i.toNat)*k):
 YE P st o (· =ZD (Zr h) m) (.val (ZD (Zr h) m)):=
 .exact fun M F w' w H=>by
  subst hm;have hv:=(H.ev hx).1;have hi:=(H.ev hy).1;obtain ⟨g,cap,rfl,hc,_⟩:=JV (H.tr l _ _ hl) oM;refine ⟨.val _,?_⟩;have hca:cap≠a:=oM;simp only [slc,hca,if_false,Option.map_some,WB,XE] at hv;simp [execOp,ho,hv,hi,SK hT h0 (show i<((n-a:Nat):Int) by omega),Zr,ZD,X1]
theorem Zbc {t e k e' k' n a:Nat} {x:Operand} {h:Value} {p:PV} {cs:List PV} (l:Nat) (hT:SlT P t e k=true) (ho:o.op= .call {callee:= .builtin .len,args:= #[x],argTypes:= #[t]}) (hx:ev st.slots x=some (slc h a n k,p)) (hl:lk st.heap l=some (h, .own e' k' n cs)) {m:Nat} (hm:m=n-a):YE P st o (· = .int .i64 m) (.val (.int .i64 m)):=
 .exact fun M F w' w H=>by
  subst hm;have hv:=(H.ev hx).1;obtain ⟨xs,Fs,hrow,hlen,_⟩:=(H.tr l _ _ hl).row;rcases Wu hrow with ⟨rfl,rfl,_⟩|⟨g,cap,rfl,h1,h2,h3⟩
  · exact ⟨.val _,by simp [execOp,ho,hv,resolve,invoke,builtin,Builtin.len_,run_underlying (SlT.und hT),goInt,slc]⟩
  · exact ⟨.val _,by simp [execOp,ho,hv,resolve,invoke,builtin,Builtin.len_,run_underlying (SlT.und hT),goInt,slc]⟩
end
end Go.En
