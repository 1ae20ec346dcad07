/-
  Walks of functions and plain laws of the chapter, as the claim needs them.
-/
import Derived.Shelf.SlSortCmp.InsertionK
import Derived.Shelf.SlSortCmp.Kit1
import Derived.Maps.RangeRun
import Derived.DeepKeys3
import Derived.Lib.SliceRun
import Derived.Laws.StructEq
import Derived.Lib.Bytealg
import Derived.Lib.AppendIntMem
import Derived.Lib.OthersKept
import Derived.Laws.BytesArg
import Derived.Test.YtpiemogpblmiiaaGreatDoorPa02
import Derived.Test.YtpiemogpblmiiaaGreatDoorPa01
namespace Go.Proofs.YtpiemogpblmiiaaGreatDoor
open Go.RowKit Go.Cb Go.En Tryz
set_option linter.all false
set_option maxRecDepth 100000
theorem Kp:AggT prog 24 3=true:=by kernel_rfl
theorem RA:FldT prog 24 0 0=true:=by kernel_rfl
theorem YI:FldT prog 24 1 1=true:=by kernel_rfl
theorem Y6:FldT prog 24 2 2=true:=by kernel_rfl
theorem WI:NoAgg prog 22=true:=by kernel_rfl
theorem Ea:NoAgg prog 3=true:=by kernel_rfl
theorem Wq:NoAgg prog 9=true:=by kernel_rfl
theorem Wv:SlT prog 22 24 3=true:=by kernel_rfl
theorem Zbb:ZeroT prog 24 (.agg #[(.int .i64 0),(.string ByteArray.empty),(.slice none 0 0)]):=by unfold ZeroT;kernel_rfl
mutual
def cTr:Nd→List PV
 | .mk o a l=>[Zc o,ZZ a, .sl l.length (Z6 l)]
def Z6:List Nd→List PV
 |[]=>[]
 |x::l=>cTr x++Z6 l
end
def YK (l:List Nd):PV:= .sl l.length (Z6 l)
def cN (t:Nd):List PV:=[Zc t.op,ZZ t.act,YK t.l]
def pTr (t:Nd):PV:= .agg (cN t)
theorem TC (t:Nd):(cN t).length=3:=rfl
theorem We (l:List Nd):Z6 l=l.flatMap cN:=by
 induction l with
 |nil=>rfl
 | cons x l ih=>
   rw [Z6,ih,Xp];congr 1
   cases x;rfl
theorem Z5 {l:List Nd} {k:Nat} {x:Nd} (h:l[k]? =some x):((Z6 l).drop (k*3)).take 3=cN x:=by rw [We];exact Z' TC l k x h
theorem Yj {l:List Nd} {k:Nat} {x:Nd} (h:l[k]? =some x):k*3+3≤(Z6 l).length:=by rw [We];exact Yp TC h
inductive FitT:Nd→Prop
 |mk (t:Nd) (h1:t.l.length≤140737488355328) (h2:t.act.size≤140737488355328) (h3: -9223372036854775808≤t.op) (h4:t.op≤9223372036854775807) (h:∀x∈t.l,FitT x):FitT t
theorem FitT.len {t:Nd}:FitT t→t.l.length≤140737488355328
 | .mk _ h _ _ _ _=>h
theorem FitT.sz {t:Nd}:FitT t→t.act.size≤140737488355328
 | .mk _ _ h _ _ _=>h
theorem FitT.p {t:Nd}:FitT t→∀x∈t.l,FitT x
 | .mk _ _ _ _ _ h=>h
theorem Js (a:ByteArray):(a.toList==ByteArray.toList {data:= #[]})=decide (a=ByteArray.empty):=by
 rw [Vg,Ul]
 exact Jd (a:=a) (b:=ByteArray.empty)
section
variable {o:Int} {a:ByteArray} {l:List Nd}
theorem GC:rightT (.mk o a l)=if o=1 then l.isEmpty&&Ki a else if o=2 then l.isEmpty&&decide (a=ByteArray.empty) else if o=3∨o=4∨o=5 then !l.isEmpty&&decide (a=ByteArray.empty)
 else if o=6 then decide (l.length=2)&&decide (a=ByteArray.empty) else false:=rfl
theorem Zcw (h:o=1):rightT (.mk o a l)=(decide ((l.length:Int)=0)&&Ki a):=by
 rw [GC,Up h]
 congr 1
 cases l<;>simp<;>omega
theorem Zcx (h:o=2):rightT (.mk o a l)=(decide ((l.length:Int)=0)&&(a.toList==ByteArray.toList {data:= #[]})):=by
 rw [GC,Js,Uo oM,Up h]
 congr 1
 cases l<;>simp<;>omega
theorem TD (h:o=3∨o=4∨o=5):rightT (.mk o a l)=(decide (1≤(l.length:Int))&&(a.toList==ByteArray.toList {data:= #[]})):=by
 rw [GC,Js,Uo oM,Uo oM,Up h]
 congr 1
 cases l<;>simp<;>omega
theorem TE (h:o=6):rightT (.mk o a l)=(decide ((l.length:Int)=2)&&(a.toList==ByteArray.toList {data:= #[]})):=by
 rw [GC,Js,Uo oM,Uo oM,Uo oM,Up h]
 congr 1
 rw [Vg,Ul,Ul];omega
theorem SY (h1:o≠1) (h2:o≠2) (h3:o≠3) (h4:o≠4) (h5:o≠5) (h6:o≠6):rightT (.mk o a l)=false:=by
 rw [GC,Uo h1,Uo h2,Uo oM,Uo h6]
end
theorem Jx {a b:Bool} (h:a=true):ZV b=ZV (a&&b):=by rw [h];rfl
theorem Gh {a b:Bool} (h:a=false):ZV false=ZV (a&&b):=by rw [h];rfl
theorem KT {a b:Bool} (h:a=true):ZV b=ZV (b&&a):=by rw [h,VJ]
theorem Jy {a b:Bool} (h:a=false):ZV false=ZV (b&&a):=by rw [h,VL]
theorem Zcy (t : Nd) (hf:FitT t):AF prog 130 [pTr t] (· =ZV (rightT t)):=by
 obtain ⟨o,a,l⟩:=t
 have hl:=hf.len
 have ha:=hf.sz
 simp only [Nd.l,Nd.act] at hl ha
 refine AF.of_body 47 func130 rfl ntmps130 (Xa rfl) ?_
 intro w0 M0 vs hl hv
 obtain ⟨v0,rfl⟩:=Kl hl
 clear hl hv
 have e0:pTr (.mk o a l)= .agg [Zc o,ZZ a, .sl l.length (Z6 l)]:=rfl
 rw [e0]
 refine Zf ?_
 (refine Yv 1 3 fun h1=>?_;refine xL 2 Zb ?_;refine Zn ?_)
 (refine xL 4 (Zd 1 Y6) ?_;refine yL 5 (Zi 1 WI) fun v5 hv5=>?_;cases hv5;refine xL 6 (Z1 Wv) (xL 3 Zb ?_);refine Zn ?_)
 (refine xL 7 (Zd 1 RA) ?_;refine yL 8 (Zi 1 Ea) fun v8 hv8=>?_;cases hv8;refine Zn ?_)
 (refine xL 10 ZQ (xL 9 Zb ?_);refine Ze ?_)
 refine cX ?_ ?_<;>intro hb9
 · first|exact bN hb9|(
 refine Zf ?_;(refine xL 11 Za (xL 12 ZQ (xL 13 Za ?_))<;>(refine bLd 13 (fun hb13=>?_) (fun hb13=>?_)<;>(first|refine kL 14 ?_|refine xL 14 (Zd 1 YI) ?_))<;>(first|refine kL 15 ?_|(refine yL 15 (Zi 1 Wq) fun v15 h=>?_;cases h))<;>(first|refine kL 16 ?_|(refine cS 16 (cA call64 (HS a oM)) fun v16 h=>?_;cases h))<;>refine xL 17 Zu (xL 2 Zb ?_)<;>refine Ze ?_)<;>(
 refine Zx (results130) rfl ?_;rw [Zcw hb9]
 first
  |exact Jx (Um hb13)
  |exact Gh (Un hb13)))
 · first | exact bN hb9|(
 refine Zf ?_;(refine xL 19 ZQ (xL 18 Zb ?_);refine Ze ?_)
 refine cX ?_ ?_<;>intro hb18
 · first|exact bN hb18|(
 refine Zf ?_;(refine xL 20 Za (xL 21 ZQ (xL 22 Za ?_))<;>(refine bLd 22 (fun hb22=>?_) (fun hb22=>?_)<;>(first|refine kL 23 ?_|refine xL 23 (Zd 1 YI) ?_))<;>(first|refine kL 24 ?_|(refine yL 24 (Zi 1 Wq) fun v24 h=>?_;cases h))<;>(first|refine kL 25 ?_|refine xL 25 WY ?_)<;>refine xL 26 Zu (xL 2 Zb ?_)<;>refine Ze ?_)<;>(
 refine Zx (results130) rfl ?_;rw [Zcx hb18]
 first
  |exact Jx (Um hb22)
  |exact Gh (Un hb22)))
 · first | exact bN hb18|(
 refine Zf ?_;(refine xL 28 ZQ (xL 27 Zb ?_);refine Ze ?_)
 refine cX ?_ ?_<;>intro hb27
 · first | exact bN hb27|(
 refine nav ?_;refine cX ?_ ?_<;>intro hb27
 · first|exact bN hb27|(
 refine Zf ?_;(refine xL 31 Za (xL 32 WE (xL 33 Za ?_))<;>(refine bLd 33 (fun hb33=>?_) (fun hb33=>?_)<;>(first|refine kL 34 ?_|refine xL 34 (Zd 1 YI) ?_))<;>(first|refine kL 35 ?_|(refine yL 35 (Zi 1 Wq) fun v35 h=>?_;cases h))<;>(first|refine kL 36 ?_|refine xL 36 WY ?_)<;>refine xL 37 Zu (xL 2 Zb ?_)<;>refine Ze ?_)<;>(
 refine Zx (results130) rfl ?_;rw [TD oM]
 first
  |exact Jx (Um hb33)
  |exact Gh (Un hb33)))
 · first |exact bN hb27|(
 refine Zf ?_;(refine xL 39 ZQ (xL 38 Zb ?_);refine Ze ?_)
 refine cX ?_ ?_<;>intro hb38
 · first|exact bN hb38|(
 refine Zf ?_;(refine xL 40 Za (xL 41 ZQ (xL 42 Za ?_))<;>(refine bLd 42 (fun hb42=>?_) (fun hb42=>?_)<;>(first|refine kL 43 ?_|refine xL 43 (Zd 1 YI) ?_))<;>(first|refine kL 44 ?_|(refine yL 44 (Zi 1 Wq) fun v44 h=>?_;cases h))<;>(first|refine kL 45 ?_|refine xL 45 WY ?_)<;>refine xL 46 Zu (xL 2 Zb ?_)<;>refine Ze ?_)<;>(
 refine Zx (results130) rfl ?_;rw [TE hb38]
 first
  |exact Jx (Um hb42)
  |exact Gh (Un hb42)))
 · first|exact bN hb38|(
 refine Zf ?_;(refine xL 2 Zb ?_;refine Ze ?_)
 refine Zx (results130) rfl ?_;rw [SY oM oM oM oM oM oM])))
 · first | exact bN hb27|(
 refine Zf ?_;(refine xL 29 ZQ (xL 27 Zb ?_);refine Ze ?_)
 refine cX ?_ ?_<;>intro hb27
 · first | exact bN hb27|(
 refine nav ?_;refine cX ?_ ?_<;>intro hb27
 · first|exact bN hb27|(
 refine Zf ?_;(refine xL 31 Za (xL 32 WE (xL 33 Za ?_))<;>(refine bLd 33 (fun hb33=>?_) (fun hb33=>?_)<;>(first|refine kL 34 ?_|refine xL 34 (Zd 1 YI) ?_))<;>(first|refine kL 35 ?_|(refine yL 35 (Zi 1 Wq) fun v35 h=>?_;cases h))<;>(first|refine kL 36 ?_|refine xL 36 WY ?_)<;>refine xL 37 Zu (xL 2 Zb ?_)<;>refine Ze ?_)<;>(
 refine Zx (results130) rfl ?_;rw [TD oM]
 first
  |exact Jx (Um hb33)
  |exact Gh (Un hb33)))
 · first |exact bN hb27|(
 refine Zf ?_;(refine xL 39 ZQ (xL 38 Zb ?_);refine Ze ?_)
 refine cX ?_ ?_<;>intro hb38
 · first|exact bN hb38|(
 refine Zf ?_;(refine xL 40 Za (xL 41 ZQ (xL 42 Za ?_))<;>(refine bLd 42 (fun hb42=>?_) (fun hb42=>?_)<;>(first|refine kL 43 ?_|refine xL 43 (Zd 1 YI) ?_))<;>(first|refine kL 44 ?_|(refine yL 44 (Zi 1 Wq) fun v44 h=>?_;cases h))<;>(first|refine kL 45 ?_|refine xL 45 WY ?_)<;>refine xL 46 Zu (xL 2 Zb ?_)<;>refine Ze ?_)<;>(
 refine Zx (results130) rfl ?_;rw [TE hb38]
 first
  |exact Jx (Um hb42)
  |exact Gh (Un hb42)))
 · first|exact bN hb38|(
 refine Zf ?_;(refine xL 2 Zb ?_;refine Ze ?_)
 refine Zx (results130) rfl ?_;rw [SY oM oM oM oM oM oM])))
 · first | exact bN hb27|(
 refine Zf ?_;(refine xL 30 ZQ (xL 27 Zb ?_);refine Ze ?_)
 refine cX ?_ ?_<;>intro hb27
 · first|exact bN hb27|(
 refine Zf ?_;(refine xL 31 Za (xL 32 WE (xL 33 Za ?_))<;>(refine bLd 33 (fun hb33=>?_) (fun hb33=>?_)<;>(first|refine kL 34 ?_|refine xL 34 (Zd 1 YI) ?_))<;>(first|refine kL 35 ?_|(refine yL 35 (Zi 1 Wq) fun v35 h=>?_;cases h))<;>(first|refine kL 36 ?_|refine xL 36 WY ?_)<;>refine xL 37 Zu (xL 2 Zb ?_)<;>refine Ze ?_)<;>(
 refine Zx (results130) rfl ?_;rw [TD oM]
 first
  |exact Jx (Um hb33)
  |exact Gh (Un hb33)))
 · first |exact bN hb27|(
 refine Zf ?_;(refine xL 39 ZQ (xL 38 Zb ?_);refine Ze ?_)
 refine cX ?_ ?_<;>intro hb38
 · first|exact bN hb38|(
 refine Zf ?_;(refine xL 40 Za (xL 41 ZQ (xL 42 Za ?_))<;>(refine bLd 42 (fun hb42=>?_) (fun hb42=>?_)<;>(first|refine kL 43 ?_|refine xL 43 (Zd 1 YI) ?_))<;>(first|refine kL 44 ?_|(refine yL 44 (Zi 1 Wq) fun v44 h=>?_;cases h))<;>(first|refine kL 45 ?_|refine xL 45 WY ?_)<;>refine xL 46 Zu (xL 2 Zb ?_)<;>refine Ze ?_)<;>(
 refine Zx (results130) rfl ?_;rw [TE hb38]
 first
  |exact Jx (Um hb42)
  |exact Gh (Un hb42)))
 · first|exact bN hb38|(
 refine Zf ?_;(refine xL 2 Zb ?_;refine Ze ?_)
 refine Zx (results130) rfl ?_;rw [SY oM oM oM oM oM oM]))))))
theorem Zbc (t : Nd) (hf:FitT t):AF prog 131 [pTr t] (· =ZV (rightT t)):=by
 obtain ⟨o,a,l⟩:=t
 have hl:=hf.len
 have ha:=hf.sz
 simp only [Nd.l,Nd.act] at hl ha
 refine AF.of_body 51 func131 rfl ntmps131 (Xa rfl) ?_
 intro w0 M0 vs hl hv
 obtain ⟨v0,rfl⟩:=Kl hl
 clear hl hv
 have e0:pTr (.mk o a l)= .agg [Zc o,ZZ a, .sl l.length (Z6 l)]:=rfl
 rw [e0]
 refine Zf ?_
 (refine Yv 1 3 fun h1=>?_;refine xL 2 Zb ?_;refine Zn ?_)
 (refine xL 3 (Zd 1 RA) ?_;refine yL 4 (Zi 1 Ea) fun v4 hv4=>?_;cases hv4;refine Zn ?_)
 (refine xL 6 ZQ (xL 5 Zb ?_);refine Ze ?_)
 refine cX ?_ ?_<;>intro hb5
 · first|exact bN hb5|(
 refine Zf ?_;(refine xL 7 (Zd 1 YI) ?_<;>(refine yL 8 (Zi 1 Wq) fun v8 h=>?_;cases h)<;>(refine cS 9 (cA call82 (O6 a oM)) fun v9 h=>?_;cases h)<;>refine xL 10 Za ?_<;>(refine bL 10 (fun hb10=>?_) (fun hb10=>?_)<;>(first|refine kL 11 ?_|refine xL 11 (Zd 1 Y6) ?_))<;>(first|refine kL 12 ?_|(refine yL 12 (Zi 1 WI) fun v12 h=>?_;cases h))<;>(first|refine kL 13 ?_|refine xL 13 (Z1 Wv) ?_)<;>(first|refine kL 14 ?_|refine xL 14 ZQ ?_)<;>refine xL 15 Zu (xL 2 Zb ?_)<;>refine Ze ?_)<;>(
 refine Zx (results131) rfl ?_;rw [Zcw hb5]
 first
  |exact KT hb10
  |exact Jy hb10))
 · first | exact bN hb5|(
 refine Zf ?_;(refine xL 17 ZQ (xL 16 Zb ?_);refine Ze ?_)
 refine cX ?_ ?_<;>intro hb16
 · first|exact bN hb16|(
 refine Zf ?_;(refine xL 18 (Zd 1 YI) ?_<;>(refine yL 19 (Zi 1 Wq) fun v19 h=>?_;cases h)<;>refine xL 20 WY (xL 21 Za ?_)<;>(refine bL 21 (fun hb21=>?_) (fun hb21=>?_)<;>(first|refine kL 22 ?_|refine xL 22 (Zd 1 Y6) ?_))<;>(first|refine kL 23 ?_|(refine yL 23 (Zi 1 WI) fun v23 h=>?_;cases h))<;>(first|refine kL 24 ?_|refine xL 24 (Z1 Wv) ?_)<;>(first|refine kL 25 ?_|refine xL 25 ZQ ?_)<;>refine xL 26 Zu (xL 2 Zb ?_)<;>refine Ze ?_)<;>(
 refine Zx (results131) rfl ?_;rw [Zcx hb16]
 first
  |exact KT hb21
  |exact Jy hb21))
 · first | exact bN hb16|(
 refine Zf ?_;(refine xL 28 ZQ (xL 27 Zb ?_);refine Ze ?_)
 refine cX ?_ ?_<;>intro hb27
 · first | exact bN hb27|(
 refine nav ?_;refine cX ?_ ?_<;>intro hb27
 · first|exact bN hb27|(
 refine Zf ?_;(refine xL 31 (Zd 1 YI) ?_<;>(refine yL 32 (Zi 1 Wq) fun v32 h=>?_;cases h)<;>refine xL 33 WY (xL 34 Za ?_)<;>(refine bL 34 (fun hb34=>?_) (fun hb34=>?_)<;>(first|refine kL 35 ?_|refine xL 35 (Zd 1 Y6) ?_))<;>(first|refine kL 36 ?_|(refine yL 36 (Zi 1 WI) fun v36 h=>?_;cases h))<;>(first|refine kL 37 ?_|refine xL 37 (Z1 Wv) ?_)<;>(first|refine kL 38 ?_|refine xL 38 WE ?_)<;>refine xL 39 Zu (xL 2 Zb ?_)<;>refine Ze ?_)<;>(
 refine Zx (results131) rfl ?_;rw [TD oM]
 first
  |exact KT hb34
  |exact Jy hb34))
 · first |exact bN hb27|(
 refine Zf ?_;(refine xL 41 ZQ (xL 40 Zb ?_);refine Ze ?_)
 refine cX ?_ ?_<;>intro hb40
 · first|exact bN hb40|(
 refine Zf ?_;(refine xL 42 (Zd 1 YI) ?_<;>(refine yL 43 (Zi 1 Wq) fun v43 h=>?_;cases h)<;>refine xL 44 WY (xL 45 Za ?_)<;>(refine bL 45 (fun hb45=>?_) (fun hb45=>?_)<;>(first|refine kL 46 ?_|refine xL 46 (Zd 1 Y6) ?_))<;>(first|refine kL 47 ?_|(refine yL 47 (Zi 1 WI) fun v47 h=>?_;cases h))<;>(first|refine kL 48 ?_|refine xL 48 (Z1 Wv) ?_)<;>(first|refine kL 49 ?_|refine xL 49 ZQ ?_)<;>refine xL 50 Zu (xL 2 Zb ?_)<;>refine Ze ?_)<;>(
 refine Zx (results131) rfl ?_;rw [TE hb40]
 first
  |exact KT hb45
  |exact Jy hb45))
 · first|exact bN hb40|(
 refine Zf ?_;(refine xL 2 Zb ?_;refine Ze ?_)
 refine Zx (results131) rfl ?_;rw [SY oM oM oM oM oM oM])))
 · first | exact bN hb27|(
 refine Zf ?_;(refine xL 29 ZQ (xL 27 Zb ?_);refine Ze ?_)
 refine cX ?_ ?_<;>intro hb27
 · first | exact bN hb27|(
 refine nav ?_;refine cX ?_ ?_<;>intro hb27
 · first|exact bN hb27|(
 refine Zf ?_;(refine xL 31 (Zd 1 YI) ?_<;>(refine yL 32 (Zi 1 Wq) fun v32 h=>?_;cases h)<;>refine xL 33 WY (xL 34 Za ?_)<;>(refine bL 34 (fun hb34=>?_) (fun hb34=>?_)<;>(first|refine kL 35 ?_|refine xL 35 (Zd 1 Y6) ?_))<;>(first|refine kL 36 ?_|(refine yL 36 (Zi 1 WI) fun v36 h=>?_;cases h))<;>(first|refine kL 37 ?_|refine xL 37 (Z1 Wv) ?_)<;>(first|refine kL 38 ?_|refine xL 38 WE ?_)<;>refine xL 39 Zu (xL 2 Zb ?_)<;>refine Ze ?_)<;>(
 refine Zx (results131) rfl ?_;rw [TD oM]
 first
  |exact KT hb34
  |exact Jy hb34))
 · first |exact bN hb27|(
 refine Zf ?_;(refine xL 41 ZQ (xL 40 Zb ?_);refine Ze ?_)
 refine cX ?_ ?_<;>intro hb40
 · first|exact bN hb40|(
 refine Zf ?_;(refine xL 42 (Zd 1 YI) ?_<;>(refine yL 43 (Zi 1 Wq) fun v43 h=>?_;cases h)<;>refine xL 44 WY (xL 45 Za ?_)<;>(refine bL 45 (fun hb45=>?_) (fun hb45=>?_)<;>(first|refine kL 46 ?_|refine xL 46 (Zd 1 Y6) ?_))<;>(first|refine kL 47 ?_|(refine yL 47 (Zi 1 WI) fun v47 h=>?_;cases h))<;>(first|refine kL 48 ?_|refine xL 48 (Z1 Wv) ?_)<;>(first|refine kL 49 ?_|refine xL 49 ZQ ?_)<;>refine xL 50 Zu (xL 2 Zb ?_)<;>refine Ze ?_)<;>(
 refine Zx (results131) rfl ?_;rw [TE hb40]
 first
  |exact KT hb45
  |exact Jy hb45))
 · first|exact bN hb40|(
 refine Zf ?_;(refine xL 2 Zb ?_;refine Ze ?_)
 refine Zx (results131) rfl ?_;rw [SY oM oM oM oM oM oM])))
 · first | exact bN hb27|(
 refine Zf ?_;(refine xL 30 ZQ (xL 27 Zb ?_);refine Ze ?_)
 refine cX ?_ ?_<;>intro hb27
 · first|exact bN hb27|(
 refine Zf ?_;(refine xL 31 (Zd 1 YI) ?_<;>(refine yL 32 (Zi 1 Wq) fun v32 h=>?_;cases h)<;>refine xL 33 WY (xL 34 Za ?_)<;>(refine bL 34 (fun hb34=>?_) (fun hb34=>?_)<;>(first|refine kL 35 ?_|refine xL 35 (Zd 1 Y6) ?_))<;>(first|refine kL 36 ?_|(refine yL 36 (Zi 1 WI) fun v36 h=>?_;cases h))<;>(first|refine kL 37 ?_|refine xL 37 (Z1 Wv) ?_)<;>(first|refine kL 38 ?_|refine xL 38 WE ?_)<;>refine xL 39 Zu (xL 2 Zb ?_)<;>refine Ze ?_)<;>(
 refine Zx (results131) rfl ?_;rw [TD oM]
 first
  |exact KT hb34
  |exact Jy hb34))
 · first |exact bN hb27|(
 refine Zf ?_;(refine xL 41 ZQ (xL 40 Zb ?_);refine Ze ?_)
 refine cX ?_ ?_<;>intro hb40
 · first|exact bN hb40|(
 refine Zf ?_;(refine xL 42 (Zd 1 YI) ?_<;>(refine yL 43 (Zi 1 Wq) fun v43 h=>?_;cases h)<;>refine xL 44 WY (xL 45 Za ?_)<;>(refine bL 45 (fun hb45=>?_) (fun hb45=>?_)<;>(first|refine kL 46 ?_|refine xL 46 (Zd 1 Y6) ?_))<;>(first|refine kL 47 ?_|(refine yL 47 (Zi 1 WI) fun v47 h=>?_;cases h))<;>(first|refine kL 48 ?_|refine xL 48 (Z1 Wv) ?_)<;>(first|refine kL 49 ?_|refine xL 49 ZQ ?_)<;>refine xL 50 Zu (xL 2 Zb ?_)<;>refine Ze ?_)<;>(
 refine Zx (results131) rfl ?_;rw [TE hb40]
 first
  |exact KT hb45
  |exact Jy hb45))
 · first|exact bN hb40|(
 refine Zf ?_;(refine xL 2 Zb ?_;refine Ze ?_)
 refine Zx (results131) rfl ?_;rw [SY oM oM oM oM oM oM]))))))
theorem Cy : ∀(t:Nd),FitT t→∀(most d:Int),-4611686018427387904≤most→most≤4611686018427387904→-4611686018427387904≤d→d≤4611686018427387904→AF prog 78 [pTr t,Zc most,Zc d] (· = .tup [Zc (if Je t most d=true then (szT t:Int) else 0),ZV (Je t most d)]):=Nd.ind fun o a l ih hf most d hm1 hm2 hd1 hd2=>by
 have hl:=hf.len
 have hp:=hf.p
 simp only [Nd.l] at hl hp
 refine AF.of_body 48 func78 rfl ntmps78 (Xa rfl) ?_
 intro w0 M0 vs hl hv
 obtain ⟨v0,v1,v2,rfl⟩:=OM hl
 obtain rfl:=hv 1 _ _ rfl rfl
 obtain rfl:=hv 2 _ _ rfl rfl
 clear hl hv
 have e0:pTr (.mk o a l)= .agg [Zc o,ZZ a, .sl l.length (Z6 l)]:=rfl
 rw [e0]
 refine Zf ?_
 (refine Yv 3 3 fun h3=>?_;refine xL 6 Zb (xL 7 Zb ?_);refine Zn ?_)
 (refine xL 13 Za (xL 14 ZR (xL 15 Za ?_))<;>(refine bLd 15 (fun hb15=>?_) (fun hb15=>?_)<;>(first|refine kL 16 ?_|refine xL 16 Za ?_))<;>(first|refine kL 17 ?_|refine xL 17 Wy ?_)<;>refine xL 18 Zu (xL 19 Za ?_)<;>(first|refine kL 20 ?_|(refine bLd 19 (fun hb19=>?_) (fun hb19=>?_)<;>(first|refine kL 20 ?_|(refine yL 20 (Zq 3 Kp) fun v20 h=>?_;cases h))))<;>(first|refine kL 21 ?_|(refine cS 21 (cA call130 (Zcy (.mk o a l) hf)) fun v21 h=>?_;cases h))<;>(first|refine kL 22 ?_|refine xL 22 Ym ?_)<;>refine xL 23 Zu ?_<;>refine Ze ?_)<;>(
 refine cX ?_ ?_<;>intro hb23
 · first|exact bN hb23|(
 refine Zf ?_;(refine xL 6 Zb (xL 7 Zb ?_);refine Ze ?_)
 refine JD (results78) rfl rfl ?_;rw [Zcu (by first|exact .inl oM|exact .inr (.inl oM)|exact .inr (.inr (by simpa using hb23)))];rfl)
 · first | exact bN hb23|(
 (have hrt:rightT (.mk o a l)=true:=by simpa using hb23);refine Zf ?_;(refine xL 8 Zb ?_;refine Zn ?_)
 (refine xL 24 (Zd 3 Y6) ?_;refine yL 25 (Zi 3 WI) fun v25 hv25=>?_;cases hv25;refine xL 26 (Z1 Wv) (xL 27 Za ?_);refine Ze ?_)
 refine ZE (ι:={k:Nat//k≤l.length∧((1+szL (l.take k):Nat):Int)≤most∧∀j x,j<k→l[j]? =some x→Je x (most-((1+szL (l.take j):Nat):Int)) (d+1)=true}) (fun k=>⟨[(1,_,_),(2,_,_),(25,_,_),(26,_,_),(27, .int .i64 k.1,Zc k.1),(8, .int .i64 ((1+szL (l.take k.1):Nat):Int),Zc ((1+szL (l.take k.1):Nat):Int))],[(3,_,_)]⟩) (fun k=>l.length-k.1) ⟨0,oM,by simp [szL];omega,oM⟩ (fun a w H=>H.weaken ⟨rfl,rfl,rfl,rfl,rfl,rfl,trivial⟩ ⟨rfl,trivial⟩) ?_;rintro ⟨k,hk,hsz,hp2⟩;dsimp only;refine Zf ?_;(refine xL 28 ZR ?_;refine Ze ?_)
 refine cX ?_ ?_<;>intro hb28
 · first |exact bN hb28|(
 obtain ⟨x,hx⟩:=Zw (show k<l.length by omega);have hxm:=Xd hx;have e1:=Z5 hx;have e2:=Yj hx;refine Zf ?_;(refine xL 29 (ZP Wv) ?_;refine yL 30 (Yz Kp) fun v30 hv30=>?_;cases hv30;refine ZA [(.int .i64 0),(.string ByteArray.empty),(.slice none 0 0)] 3 10 Zbb fun h10=>?_;refine Zv 10 Kp ?_;refine Zn ?_)
 (refine yL 32 (Zq 10 Kp) fun v32 hv32=>?_;cases hv32;refine xL 33 Za (xL 34 Za (xL 35 Gf (xL 36 Za (xL 37 ZO ?_))));refine cP 38 (cA call78 (ih x hxm (hp x hxm) (most-((1+szL (l.take k):Nat):Int)) (d+1) oM oM oM oM)) fun va38 vb38 hva38 hvb38=>?_;cases hva38;cases hvb38;refine xL 31 Za (xL 39 ZK (xL 40 ZK (xL 11 Zb (xL 12 Zb ?_))));refine Zn ?_)
 (refine xL 41 Za (xL 42 Ym ?_);refine Ze ?_)
 refine cX ?_ ?_<;>intro hb42
 · first|exact bN hb42|(
 refine Zf ?_;(refine xL 6 Zb (xL 7 Zb ?_);refine Ze ?_)
 refine JD (results78) rfl rfl ?_;rw [H3 (t:= .mk o a l) hx (by simpa [Nd.l] using hb42)];rfl)
 · first|exact bN hb42|(
 (have hmx:Je x (most-((1+szL (l.take k):Nat):Int)) (d+1)=true:=by simpa using hb42);have hsn:=PD hx;have hbd:(szT x:Int)≤most-((1+szL (l.take k):Nat):Int):=by
  have:=hmx;unfold Je at this;simp only [Xf,Ul] at this;exact this.1.2
 have hn2:((1+szL (l.take k):Nat):Int)+(szT x:Int)=((1+szL (l.take (k+1)):Nat):Int):=oM;rw [Up hmx];refine Zf ?_;(refine xL 43 Za (xL 44 Za ?_);(refine xL 45 ZO ?_;rw [hn2]);refine xL 8 Zb ?_;refine Zn ?_)
 (refine xL 46 ZO (xL 27 Za ?_);refine Ze ?_)
 refine Zk (
  ⟨k+1,oM,oM,fun j y hj hy=>by
   by_cases e:j=k
   · subst e;rw [hx] at hy;cases hy;exact hmx
   · exact hp2 j y oM hy⟩
  ) (by dsimp only;omega) ⟨rfl,rfl,rfl,rfl,rfl,rfl,trivial⟩ ⟨rfl,trivial⟩))
 · first|exact bN hb28|(
 refine Zf ?_;(refine xL 47 Za (xL 6 Zb (xL 7 Zb ?_));refine Ze ?_)
 refine JD (results78) rfl rfl ?_;have hkl:k=l.length:=oM;subst hkl;rw [ζH (t:= .mk o a l) hrt oM oM fun j x hx=>hp2 j x (Zg hx) hx];rw [Xs (Xb _),Up rfl,szT])))
theorem T1 (t:Nd) (hf:FitT t):AF prog 32 [pTr t] (· =ZV (Jf t)):=by
 refine AF.of_body 11 func32 rfl ntmps32 (Xa rfl) ?_
 intro w0 M0 vs hl hv
 obtain ⟨v0,rfl⟩:=Kl hl
 clear hl hv
 have e0:pTr t= .agg [Zc t.op,ZZ t.act,YK t.l]:=rfl
 rw [e0]
 refine Zf ?_
 (refine Yv 1 3 fun h1=>?_;refine xL 2 Zb ?_;refine Zn ?_)
 (refine yL 6 (Zq 1 Kp) fun v6 hv6=>?_;cases hv6;refine cP 7 (cA call78 (Cy t hf 400 1 oM oM oM oM)) fun va7 vb7 hva7 hvb7=>?_;cases hva7;cases hvb7;refine xL 5 Za (xL 8 ZK (xL 9 ZK (xL 3 Zb (xL 4 Zb ?_))));refine Zn ?_)
 (refine xL 10 Za (xL 2 Zb ?_);refine Ze ?_)
 exact Zx results32 rfl rfl
theorem Cz {t:Nd} {most d:Int} (h:Je t most d=true):(szT t:Int)≤most:=by
 unfold Je at h
 simp only [Xf,Ul] at h
 exact h.1.2
def DR (t:Nd) (d left:Int):Int:=if Je t left d=true then left-(szT t:Int) else-1
theorem Zbd : ∀(t:Nd),FitT t→∀(d left:Int),-4611686018427387904≤left→left≤4611686018427387904→-4611686018427387904≤d→d≤4611686018427387904→AF prog 80 [pTr t,Zc d,Zc left] (· =Zc (DR t d left)):=Nd.ind fun o a l ih hf d left hm1 hm2 hd1 hd2=>by
 have hl:=hf.len
 have hp:=hf.p
 simp only [Nd.l] at hl hp
 refine AF.of_body 41 func80 rfl ntmps80 (Xa rfl) ?_
 intro w0 M0 vs hl hv
 obtain ⟨v0,v1,v2,rfl⟩:=OM hl
 obtain rfl:=hv 1 _ _ rfl rfl
 obtain rfl:=hv 2 _ _ rfl rfl
 clear hl hv
 have e0:pTr (.mk o a l)= .agg [Zc o,ZZ a, .sl l.length (Z6 l)]:=rfl
 rw [e0]
 refine Zf ?_
 (refine Yv 3 3 fun h3=>?_;refine xL 6 Zb ?_;refine Zn ?_)
 (refine xL 8 Za (xL 9 J5 (xL 10 Za ?_))<;>(refine bLd 10 (fun hb10=>?_) (fun hb10=>?_)<;>(first|refine kL 11 ?_|refine xL 11 Za ?_))<;>(first|refine kL 12 ?_|refine xL 12 Wy ?_)<;>refine xL 13 Zu (xL 14 Za ?_)<;>(first|refine kL 15 ?_|(refine bLd 14 (fun hb14=>?_) (fun hb14=>?_)<;>(first|refine kL 15 ?_|(refine yL 15 (Zq 3 Kp) fun v15 h=>?_;cases h))))<;>(first|refine kL 16 ?_|(refine cS 16 (cA call131 (Zbc (.mk o a l) hf)) fun v16 h=>?_;cases h))<;>(first|refine kL 17 ?_|refine xL 17 Ym ?_)<;>refine xL 18 Zu ?_<;>refine Ze ?_)<;>(
 refine cX ?_ ?_<;>intro hb18
 · first|exact bN hb18|(
 refine Zf ?_;(refine xL 6 Zb ?_;refine Ze ?_)
 refine Zx (results80) rfl ?_;unfold DR;rw [Zcu (by first|exact .inl oM|exact .inr (.inl oM)|exact .inr (.inr (by simpa using hb18)))];rfl)
 · first | exact bN hb18|(
 (have hrt:rightT (.mk o a l)=true:=by simpa using hb18);(have hc0:left-1=left-((1+szL (l.take 0):Nat):Int):=by simp [szL]);refine Zf ?_;(refine xL 19 Za ?_;(refine xL 20 Gf ?_;rw [hc0]);refine xL 2 Zb ?_;refine Zn ?_)
 (refine xL 7 Zb ?_;refine Ze ?_)
 refine ZE (ι:={k:Nat//k≤l.length∧((1+szL (l.take k):Nat):Int)≤left∧∀j x,j<k→l[j]? =some x→Je x (left-((1+szL (l.take j):Nat):Int)) (d+1)=true}) (fun k=>⟨[(1,_,_),(3,_,_),(7, .int .i64 k.1,Zc k.1),(2, .int .i64 (left-((1+szL (l.take k.1):Nat):Int)),Zc (left-((1+szL (l.take k.1):Nat):Int)))],[(3,_,_)]⟩) (fun k=>l.length-k.1) ⟨0,oM,by simp [szL];omega,oM⟩ (fun a w H=>H.weaken ⟨rfl,rfl,rfl,rfl,trivial⟩ ⟨rfl,trivial⟩) ?_;rintro ⟨k,hk,hsz,hp2⟩;dsimp only;refine Zf ?_;(refine xL 21 Za (xL 22 (Zd 3 Y6) ?_);refine yL 23 (Zi 3 WI) fun v23 hv23=>?_;cases hv23;refine xL 24 (Z1 Wv) (xL 25 ZR ?_);refine Ze ?_)
 refine cX ?_ ?_<;>intro hb25
 · first |exact bN hb25|(
 obtain ⟨x,hx⟩:=Zw (show k<l.length by omega);have hxm:=Xd hx;have e1:=Z5 hx;have e2:=Yj hx;refine Zf ?_;(refine xL 28 (Zd 3 Y6) ?_;refine yL 29 (Zi 3 WI) fun v29 hv29=>?_;cases hv29;refine xL 30 Za (xL 31 (ZP Wv) ?_);refine yL 32 (Yz Kp) fun v32 hv32=>?_;cases hv32;refine xL 33 Za (xL 34 ZO (xL 35 Za ?_));refine cS 36 (cA call80 (ih x hxm (hp x hxm) (d+1) (left-((1+szL (l.take k):Nat):Int)) oM oM oM oM)) fun v36 hv36=>?_;cases hv36;refine xL 2 Zb ?_;refine Ze ?_)
 have hcx:DR x (d+1) (left-((1+szL (l.take k):Nat):Int))<0↔Je x (left-((1+szL (l.take k):Nat):Int)) (d+1)=false:=by
  unfold DR
  cases hmx:Je x (left-((1+szL (l.take k):Nat):Int)) (d+1) with
  |true=>have:=Cz hmx;simp;omega
  |false=>simp
 (refine Zm ?_;refine xL 37 Za (xL 38 ZR ?_);refine Ze ?_)
 refine cX ?_ ?_<;>intro hb38
 · first|exact bN hb38|(
 refine Zf ?_;(refine xL 39 Za (xL 6 Zb ?_);refine Ze ?_)
 refine Zx (results80) rfl ?_;have hmx:=hcx.1 hb38;unfold DR;rw [H3 (t:= .mk o a l) hx hmx,hmx];rfl)
 · first|exact bN hb38|(
 have hmx:Je x (left-((1+szL (l.take k):Nat):Int)) (d+1)=true:=by
  cases h:Je x (left-((1+szL (l.take k):Nat):Int)) (d+1) with
  |true=>rfl
  |false=>exact Uq (hcx.2 h) hb38
 have hsn:=PD hx;have hbd:=Cz hmx;have hn2:DR x (d+1) (left-((1+szL (l.take k):Nat):Int))=left-((1+szL (l.take (k+1)):Nat):Int):=by
  unfold DR;rw [Up hmx];omega
 rw [hn2];refine Zf ?_;(refine xL 26 Za (xL 27 ZO (xL 7 Zb ?_));refine Ze ?_)
 refine Zk (
  ⟨k+1,oM,oM,fun j y hj hy=>by
   by_cases e:j=k
   · subst e;rw [hx] at hy;cases hy;exact hmx
   · exact hp2 j y oM hy⟩
  ) (by dsimp only;omega) ⟨rfl,rfl,rfl,rfl,trivial⟩ ⟨rfl,trivial⟩))
 · first|exact bN hb25|(
 refine Zf ?_;(refine xL 40 Za (xL 6 Zb ?_);refine Ze ?_)
 refine Zx (results80) rfl ?_;have hkl:k=l.length:=oM;subst hkl;unfold DR;rw [ζH (t:= .mk o a l) hrt oM oM fun j x hx=>hp2 j x (Zg hx) hx];rw [Xs (Xb _),Up rfl,szT])))
theorem Zbe (t:Nd) (hf:FitT t):AF prog 35 [pTr t] (· =ZV (Jf t)):=by
 refine AF.of_body 6 func35 rfl ntmps35 (Xa rfl) ?_
 intro w0 M0 vs hl hv
 obtain ⟨v0,rfl⟩:=Kl hl
 clear hl hv
 have e0:pTr t= .agg [Zc t.op,ZZ t.act,YK t.l]:=rfl
 rw [e0]
 refine Zf ?_
 (refine Yv 1 3 fun h1=>?_;refine xL 2 Zb ?_;refine Zn ?_)
 (refine yL 3 (Zq 1 Kp) fun v3 hv3=>?_;cases hv3;refine cS 4 (cA call80 (Zbd t hf 1 400 oM oM oM oM)) fun v4 hv4=>?_;cases hv4;refine xL 5 WE (xL 2 Zb ?_);refine Ze ?_)
 refine Zx (results35) rfl (J6 ?_)
 rw [Ul]
 unfold DR Jf
 cases h:Je t 400 1 with
 |true=>have:=Cz h;simp;omega
 |false=>simp
end Go.Proofs.YtpiemogpblmiiaaGreatDoor
namespace Go.En
open Go.RowKit Go.Cb Go.Proofs Go.Sort
set_option linter.all false
section
variable {P:Program} {c:Ctx} {ops:Array Oper} {Q:Exit→Act→World→Prop} {rest:List Oper} {sL hP:List (Nat×Ent)} {o:Oper}
end
open Go.RowKit Go.Cb
section
variable {P:Program} {c:Ctx} {ops:Array Oper} {Q:Exit→Act→World→Prop} {rest:List Oper} {st:St} {sL hP:List (Nat×Ent)} {o:Oper}
theorem ZeT {w:World} {e k n m:Nat} {h:Value} {xs:List Value} (hrow:w.ownsRow 0 e k h n xs) (hm:m≤n):w.ownsRow 0 e k (slc h 0 m k) m (xs.take (m*k))∧(slc h 0 m k).ownBlock=h.ownBlock:=by
 rcases hrow.2 with ⟨rfl,rfl⟩|⟨g,cap,cur,rfl,hg,hh,h1,h2,h3,h4⟩
 · obtain rfl:m=0:=oM;refine ⟨⟨sM, .inl ⟨by simp [slc],rfl⟩⟩,by simp [slc]⟩
 · have hs:slc (.slice (some ⟨g,0,none⟩) n cap) 0 m k= .slice (some ⟨g,0,none⟩) m cap:=by
    simp only [slc,Vr,VM,Y0,XL,Vd,ite_self]
   rw [hs];refine ⟨⟨?_, .inr ⟨g,cap,cur,rfl,hg,hh,oM,h2,h3,?_⟩⟩,rfl⟩
   · rw [Xl,hrow.1];exact XJ (Ve k hm)
   · rw [←h4,List.take_take,XJ (Ve k hm)]
theorem ZeU {l e k n:Nat} {h:Value} {cs:List PV} (m:Nat) (hl:lk hP l=some (h, .own e k n cs)) (hm:m≤n):Lo (⟨sL,hP⟩:St) (fun _:Unit=>⟨sL,put l (slc h 0 m k, .own e k m (cs.take (m*k))) hP⟩):=fun c a w ⟨F,H⟩=>by
 have hTr:=H.tr l _ _ hl
 obtain ⟨xs,Fs,hrow,hlen,hT,hd,hb,hF⟩:=hTr.row
 obtain ⟨hrow',hown⟩:=ZeT hrow hm
 refine ⟨(),fun x=>if x=l then (fun b=>h.ownBlock=some b∨∃i,i<(cs.take (m*k)).length∧Fs i b) else F x,?_⟩
 have hle:(cs.take (m*k)).length≤cs.length:=by rw [Xl];exact Nat.min_le_right _ _
 refine H.retell (fun x=>x=l) (fun x y hnT hx=>?_) (fun x y b hTx hx hb'=>?_) (fun hmm x u q hTx hx=>?_) (fun x1 x2 y1 y2 b h1 h2 hne'=>Uq (h1.trans h2.symm) hne')
 · have n1:x≠l:=hnT;rw [YR (Ne.symm n1)] at hx;exact ⟨hx,by simp [n1]⟩
 · subst hTx;simp only [if_true] at hb';refine ⟨x,_,rfl,hl,(hF b).2 ?_⟩;rcases hb' with h1|⟨i,hi,h1⟩
   · exact .inl h1
   · exact .inr ⟨i,oM,h1⟩
 · subst hTx;rw [YH] at hx
   cases hx;simp only [if_true];refine .own _ Fs hrow' (by rw [Xl,Xl,hlen]) (fun i x p hx9 hp=>?_) (fun i j b hi hj=>hd i j b oM oM) (fun i b hi h1 h2=>hb i b oM h1 (by rw [←hown];exact h2)) (fun b=>by rw [hown]);have hi:i<m*k:=by have:=Zg hx9;rw [Xl] at this;omega
   rw [X5 hi] at hx9 hp;exact (hT i x p hx9 hp).anti hmm
theorem Zcz {t e k:Nat} {x:Operand} {q:PV} (hT:SlT P t e k=true) (ho:o.op= .call {callee:= .builtin .len,args:= #[x],argTypes:= #[t]}:=by exact rfl) (hx:ev st.slots x=some (.slice none 0 0,q):=by exact rfl):YE P st o (· = .int .i64 0) (.val (.int .i64 0)):=
 y1 hx (fun _ _ _=> .val _) fun ρ w h=>by
  simp [execOp,ho,h,resolve,invoke,builtin,Builtin.len_,run_underlying (SlT.und hT),goInt]
theorem CB {t e kk bytes n m:Nat} {z:Value} {x y:Operand} {h v2:Value} {q:PV} {cs cs2:List PV} (l d:Nat) (hT:ElT P t e kk bytes z) (k:∀h':Value,h'.oneCell'=true→aL P c ops Q rest ⟨put d (h', .val h') sL,put d (h', .own e kk (n+m) (cs++cs2)) (del l hP)⟩)
 (hlen2:cs2.length=m*kk:=by first|assumption|exact rfl) (hok:cs2.all one=true:=by first|assumption|exact rfl) (hw:Z7 ops sL o=some true:=by exact rfl) (hd:o.dst=some d:=by exact rfl) (hn:d<c.nt:=by exact Xa rfl) (ho:o.op= .call {callee:= .builtin .append,args:= #[x,y],argTypes:= #[t,t]}:=by exact rfl)
 (hx:ev sL x=some (h,q):=by exact rfl) (hy:ev sL y=some (v2, .sl m cs2):=by exact rfl) (hl:lk hP l=some (h, .own e kk n cs):=by exact rfl) (hdl:lk (del l hP) d=none:=by exact rfl) (hlen:n+m≤9223372036854775807:=by first|omega|exact Xa rfl|(simp only [Xc,Xk,Xe,Xi,Xg,XA,Xu,Xp,XB];omega)) (hb:(n+m)*bytes≤140737488355328:=by first|omega|exact Xa rfl|(simp only [Xc,Xk,Xe,Xi,Xg,XA,Xu,Xp,XB];omega)) (hdr:¬c.dr:=by exact id):aL P c ops Q (o::rest) (⟨sL,hP⟩:St):=fun a w ⟨F,H⟩=>by
 have h1:h.oneCell'=true:=(H.tr l _ _ hl).cellOne rfl
 rcases Nat.eq_zero_or_pos m with h0|h0
 · subst h0;have:cs2=[]:=XK (by rw [hlen2,Vr]);subst this;refine ZeH l d hT hw hd hn ho hx hy hl (Zp (Z0 d hl hdl) fun _=>?_) a w ⟨F,H⟩;have:=k h h1;rw [Vc] at this;exact this
 · exact Cr l d hT hw hd hn ho hx hy hl (ZeG hy h0) hlen2 hdl hok hlen hb hdr k a w ⟨F,H⟩
end
def Zgu (P:Program) (fs:Nat):Prop:=∀(blk cap:Nat) (zs:List Int) (w:World),Go.Sort.Holds (Value.int .i64) w blk 0 zs.toArray→blk<w.heap.size→zs.length<4611686018427387904→
 Calls P fs #[.slice (some ⟨blk,0,none⟩) zs.length cap] w fun e w'=>e= .returned (.tuple #[])∧∃n os,w'=grow (putRow (Value.int .i64) (Go.Sort.ahead w n) blk 0 (zs.mergeSort fun x y=>decide (x≤y)).toArray) os
section
variable {P:Program} {c:Ctx} {ops:Array Oper} {Q:Exit→Act→World→Prop} {rest:List Oper} {sL hP:List (Nat×Ent)} {o:Oper}
theorem Zbf {α:Type} [Inhabited α] (enc:α→Value) (f:Array α) (cur:Array Value) (h:f.size≤cur.size):(putCells enc 0 f cur).toList.take f.size=f.toList.map enc:=by
 apply VN
 intro j
 by_cases hj:j<f.size
 · rw [X5 hj];have hjc:j<cur.size:=oM;simp [putCells,hj,hjc]
 · rw [Vn (by simp;omega),Vn (by simp;omega)]
theorem ZeV {fs e d:Nat} {zs:List Int} {h:Value} {q:PV} {x:Operand} {ats:Array TypeId} (l:Nat) (hS:Zgu P fs) (hc:∀args w,(callFunc fs args).run P w= .ok (.enter fs args) w)
 (kk:aL P c ops Q rest ⟨put d (.tuple #[], .val (.tuple #[])) sL,put l (h, .own e 1 zs.length ((zs.mergeSort fun x y=>decide (x≤y)).map Zc)) hP⟩)
 (hn:0<zs.length) (hn2:zs.length<4611686018427387904:=by omega) (hw:Z7 ops sL o=some true:=by exact rfl) (hd:o.dst=some d:=by exact rfl) (hdn:d<c.nt:=by exact Xa rfl) (ho:o.op= .call {callee:= .value (.func fs),args:= #[x],argTypes:=ats}:=by exact rfl) (hx:ev sL x=some (h,q):=by exact rfl) (hl:lk hP l=some (h, .own e 1 zs.length (zs.map Zc)):=by exact rfl):aL P c ops Q (o::rest) (⟨sL,hP⟩:St):=
 Y8 hw fun a w F H=>by
  have hxv:=(H.rd.ev hx).1;have hTr:=H.tr l _ _ hl;obtain ⟨xs,Fs,hrow,hlen,hT,hdj,hb,hF⟩:=hTr.row;obtain ⟨blk,cap,hh,hc1,hc2,hc3⟩:=Jq hTr hn;have hblkF:F l blk:=(hF blk).2 (.inl (by rw [hh];rfl));have hxs:∀(j:Nat) (v:Value),xs[j]? =some v→∃z,zs[j]? =some z∧v= .int .i64 z:=fun j v hv=>by
   obtain ⟨p,hp⟩:=YJ hv hlen.symm;have h1:=hp;rw [Xo,XS] at h1;obtain ⟨z,hz,rfl⟩:=h1;exact ⟨z,hz,((hT j v _ hv hp).sh rfl).vOf⟩
  have hHold:Go.Sort.Holds (Value.int .i64) w blk 0 zs.toArray:=fun j hj=>by
   simp only [VW] at hj;have hrow':=hrow;rw [hh] at hrow';obtain ⟨v,hv⟩:=YL (show j<xs.length by rw [←hlen,Xe];exact hj);obtain ⟨z,hz,rfl⟩:=hxs j v hv;refine ⟨?_,by rw [Xv];exact hrow'.frozenAt j⟩;rw [Xv,WK hrow' hv];have:zs.toArray[j]! =z:=by
    have hz':=(Xz.1 hz).2;simp [hj,hz']
   rw [this]
  have hcall:=hS blk cap zs w hHold hc3 hn2;unfold Oper.wp;have hrun:(execOp a.eval o).run P w= .ok (.enter fs #[h]) w:=by
   have hev:a.eval (.func fs)= .func (.func fs) #[] #[]:=rfl;simp [execOp,ho,resolve,Deferred.ofValue,hev,invoke,hxv,hc]
  rw [hrun,Oper.upon_enter,hh];refine hcall.mono fun e' w' ⟨he',m,os,hw'⟩=>?_;subst he';have hsl:(zs.mergeSort fun x y=>decide (x≤y)).length=zs.length:=List.length_mergeSort _;generalize hsd:(zs.mergeSort fun x y=>decide (x≤y))=sd at hsl hw' kk;have hch0:Chg (fun b=>b=blk) w w':=by
   rw [hw'];refine ⟨rfl,rfl,rfl,?_,fun i hi hne=>?_⟩
   · simp [grow,putRow,mapBlock,Go.Sort.ahead]
   · have:(grow (putRow (Value.int .i64) (Go.Sort.ahead w m) blk 0 sd.toArray) os).heap=(w.heap.modify blk (onCells (putCells (Value.int .i64) 0 sd.toArray)))++os:=rfl;rw [this,Vu (by simpa using hi),Array.getElem?_modify,Uo (fun e=>hne e.symm)]
  rw [hd];refine kk _ _ ⟨fun l'=>if l'=l then (fun b=>b=blk) else F l',?_⟩;refine H.change (fun l'=>l'=l) hdn (hch0.wid fun b hb'=> .inl ⟨l,_,rfl,hl,by rw [hb'];exact hblkF⟩) (fun l' z hne hz=>?_) (fun l' z b hT' hz hb'=>?_) (fun hmm l' u p hT' hz=>?_) (fun l1 l2 _ _ _ h1 h2 hne=>Uq (h1.trans h2.symm) hne) (fun _=> .val _) (fun _=>by rw [hw'];exact VX _ _)
  · rcases YS hz with ⟨e1,_⟩|⟨_,e1⟩
    · exact Uq e1.symm hne
    · exact ⟨e1,by simp [hne]⟩
  · subst hT';simp only [if_true] at hb';exact .inl ⟨l',_,rfl,hl,by rw [hb'];exact hblkF⟩
  · subst hT';rw [YH] at hz
    cases hz;simp only [if_true];rcases hrow.2 with ⟨e1,_⟩|⟨g',cap',cur,e1,_,e3,e4,e5,e6,e7⟩
    · rw [hh] at e1;cases e1
    · rw [hh] at e1
      cases e1;have hlt:=KZ e3;refine .own (sd.map (Value.int .i64)) (fun _ _=>False) ⟨by rw [Xe,hsl,XF], .inr ⟨blk,cap,putCells (Value.int .i64) 0 sd.toArray cur,hh,Xh _,?_,e4,e5,by simp [putCells];omega,?_⟩⟩ sM (fun t v p hv hp=>?_) (fun _ _ _ _ _ _ h=>h.elim) (fun _ _ _ h=>h.elim) (fun b=>by rw [hh];simp [Value.ownBlock,eq_comm])
      · rw [hw'];have:(grow (putRow (Value.int .i64) (Go.Sort.ahead w m) blk 0 sd.toArray) os).heap=(w.heap.modify blk (onCells (putCells (Value.int .i64) 0 sd.toArray)))++os:=rfl;rw [this,Vu (by simpa using hlt),Array.getElem?_modify,Up rfl,e3];rfl
      · have:=Zbf (Value.int .i64) sd.toArray cur (by simp only [VW];rw [hsl,e6];omega);simp only [VW] at this;rw [XF,←hsl];exact this
      · rw [Xo,XS] at hv hp;obtain ⟨z,hz,rfl⟩:=hv;obtain ⟨z',hz',rfl⟩:=hp;rw [hz] at hz';cases hz';exact .shr (.val _) (fun _ h=>h)
end
theorem ZcA {w w':World} (h:Ext w w') (hd:w.drawn≤w'.drawn):∃q os',w'=Go.Sort.grow (w.drewN q) os':=by
 refine ⟨w'.drawn-w.drawn,w'.heap.extract w.heap.size w'.heap.size,?_⟩
 have hh:w'.heap=w.heap++w'.heap.extract w.heap.size w'.heap.size:=by
  apply Array.ext_getElem?;intro i;rcases Xm i w.heap.size with hi|hi
  · rw [Vu hi];exact Below.block h i hi
  · rw [Array.getElem?_append_right hi,Array.getElem?_extract];have hs:=h.size;rcases Xm i w'.heap.size with hi2|hi2
    · rw [Up (by simp;omega),show w.heap.size+(i-w.heap.size)=i by omega]
    · rw [XX hi2,Uo (by simp;omega)]
 have h1:=h.os
 have h2:=h.tape
 have h3:=h.output
 cases w' with
 | mk heap' tape' drawn' os' output'=>
   simp only at h1 h2 h3 hh hd;simp only [Go.Sort.grow,World.drewN];rw [←hh,h1,h2,h3,show w.drawn+(drawn'-w.drawn)=drawn' by omega]
theorem AFg.exact {P:Program} {g:Nat} {ps:List PV} {x:Value} (h:AFg P g ps (· = .val x)) {M:BS} {W:World} {vs:List Value} (hl:vs.length=ps.length) (hv:∀(i:Nat) (v:Value) (p:PV),vs[i]? =some v→ps[i]? =some p→Shr M W v p):
 Calls P g vs.toArray W fun e w'=>e= .returned x∧∃q os',w'=Go.Sort.grow (W.drewN q) os':=
 (h (fun _=>False) W vs (M0k.true W) hl (fun i v p h1 h2=>(hv i v p h1 h2).anti fun _ _ h=>h.elim)).mono fun e w' ⟨v,p,F,h1,h2,h3,h4,_,h6⟩=>by
   subst h2;have:=(h4.sh rfl).vOf;subst this;exact ⟨h1,ZcA h3 (h6 trivial)⟩
section
variable {P:Program} {c:Ctx} {ops:Array Oper} {Q:Exit→Act→World→Prop} {rest:List Oper} {sL hP:List (Nat×Ent)} {o:Oper}
end
open Go.ChangeMaps (setBlock)
section
variable {P:Program} {c:Ctx} {ops:Array Oper} {Q:Exit→Act→World→Prop} {rest:List Oper} {sL hP:List (Nat×Ent)} {o:Oper}
end
def ArrT (P:Program) (t len:Nat):Bool:=match P.underlying t with
 |some (.array n e)=>Nat.beq n len&&(match P.info? e with|some i=>Nat.beq i.size 1|none=>false)
 |_=>false
theorem ArrT.run {P:Program} {t len:Nat} (h:ArrT P t len=true):∃e i,P.underlying t=some (.array len e)∧P.info? e=some i∧i.size=1:=by
 unfold ArrT at h
 split at h
 · rename_i n e hu;rw [Xf] at h;obtain ⟨h1,h2⟩:=h;split at h2
   · rename_i i hi;have e1:=XE h1;subst e1;exact ⟨e,i,hu,hi,XE h2⟩
   · cases h2
 · cases h
section
variable {P:Program} {st:St} {o:Oper}
end
structure PkT (P:Program) (t ks s e:Nat) (z:Value):Prop where
 ht:P.underlying t=some (.map ks e)
 hu:P.underlying ks=some (.array 2 s)
 hs:P.underlying s=some .string
 hk:P.keyType ks=true
 hk2:P.keyTypeAt 2 ks=true
 hti:P.tiled 2 ks=true
 hc2:P.cellsOf ks=2
 hc1:P.cellsOf s=1
 hf:∀a b:ByteArray,(Value.agg #[.string a, .string b]).formed P ks=true
 hsz:∃n,P.types.size=n+1
 hz:ZeroT P e z
theorem PkT.law {P:Program} {t ks s e:Nat} {z:Value} (h:PkT P t ks s e z):WideMaps.KeyLaw P ks:=deep_law (m:=2) dC h.hk2 h.hti (by rw [h.hu])
section
variable {P:Program} {c:Ctx} {ops:Array Oper} {Q:Exit→Act→World→Prop} {rest:List Oper} {sL hP:List (Nat×Ent)} {o:Oper}
end
section
variable {P:Program} {c:Ctx} {ops:Array Oper} {Q:Exit→Act→World→Prop} {rest:List Oper} {sL hP:List (Nat×Ent)} {o:Oper}
end
def RR (c:Ctx) (R:Value→PV→List (Nat×Ent)→Prop) (e:Ending) (w':World):Prop:=∃v p h F,e= .returned v∧R v p h∧HeapF c h F w'∧Shr (mof c h F) w' v p
def AFh (dd:Prop) (P:Program) (f:FuncId) (ar h:List (Nat×Ent)) (R:Value→PV→List (Nat×Ent)→Prop):Prop:=
 ∀(M N:BS) (w:World) (F:Nat→BS),HeapF ⟨w,M,N,0,dd,[]⟩ h F w→(∀i x,lk ar i=some x→Shr (mof ⟨w,M,N,0,dd,[]⟩ h F) w x.1 x.2)→Calls P f (ar.map (·.2.1)).toArray w (RR ⟨w,M,N,0,dd,[]⟩ R)
theorem HeapF.nt {c c':Ctx} {h:List (Nat×Ent)} {F:Nat→BS} {w:World} (H:HeapF c h F w) (h0:c'.w0=c.w0) (h1:c'.M0=c.M0) (h2:c'.N0=c.N0) (h3:c'.dr→c.dr) (hm:M0k c'.w0 c'.M0 c'.N0 c'.dr):HeapF c' h F w:=by
 obtain ⟨w0,M0,N0,nt,dr,df⟩:=c
 obtain ⟨w0',M0',N0',nt',dr'⟩:=c'
 simp only at h0 h1 h2 h3
 subst h0 h1 h2
 exact ⟨H.tr,H.lo,H.dj,hm,H.ext,fun h=>H.dw (h3 h)⟩
def KB:Nat→List (Nat×Ent)→Bool
 |_,[]=>true
 |i,(j,_)::l=>Nat.beq i j&&KB (i+1) l
theorem TF:∀(l:List (Nat×Ent)) (i t:Nat) (x:Ent),KB i l=true→lk l t=some x→i≤t∧(l.map (·.2.1))[t-i]? =some x.1
 |[],_,_,_,_,h=>by simp [lk] at h
 | (j,y)::l,i,t,x,ho,h=>by
   simp only [KB,Xf] at ho;obtain ⟨h1,h2⟩:=ho;have h1:=XE h1;subst h1;simp only [lk] at h
   cases hb:Nat.beq i t
   · rw [hb] at h;obtain ⟨h3,h4⟩:=TF l (i+1) t x h2 h;have:t-i=(t-(i+1))+1:=oM;exact ⟨oM,by rw [this];simpa using h4⟩
   · rw [hb] at h;have:i=t:=XE hb;subst this
     cases h;simp
theorem Gi:∀(l:List (Nat×Ent)) (i t:Nat) (x:Ent),KB i l=true→lk l t=some x→i≤t∧(l[t-i]?).map (·.2)=some x
 |[],_,_,_,_,h=>by simp [lk] at h
 | (j,y)::l,i,t,x,ho,h=>by
   simp only [KB,Xf] at ho;obtain ⟨h1,h2⟩:=ho;have h1:=XE h1;subst h1;simp only [lk] at h
   cases hb:Nat.beq i t
   · rw [hb] at h;obtain ⟨h3,h4⟩:=Gi l (i+1) t x h2 h;have:t-i=(t-(i+1))+1:=oM;exact ⟨oM,by rw [this];simpa using h4⟩
   · rw [hb] at h;have:i=t:=XE hb;subst this
     cases h;simp
section
variable {P:Program}
theorem AFh.of_body {dd:Prop} {f:FuncId} {fn:Func} {code:Code} {ar h:List (Nat×Ent)} {R:Value→PV→List (Nat×Ent)→Prop} (nt:Nat) (hf:P.funcs[f]? =some fn) (hb:fn.body=some code) (hnt:fn.ntmps=nt) (hn:ar.length≤nt) (ho:KB 0 ar=true)
 (H:∀(w0:World) (M0 N0:BS),aC P ⟨w0,M0,N0,nt,dd,[]⟩ code (bodyPost P fn (RR ⟨w0,M0,N0,nt,dd,[]⟩ R)) ⟨ar,h⟩):AFh dd P f ar h R:=fun M N w F HF hv=>by
 subst hnt
 refine calls_of_wp hf hb ?_
 refine wp_mono (H w M N _ w ⟨F,⟨HF.nt rfl rfl rfl id HF.m0,fun t v p ht=>?_,?_,rfl⟩⟩) fun e a w' hq=>?_
 · obtain ⟨_,h1⟩:=TF ar 0 t (v,p) ho ht;refine ⟨?_,hv t (v,p) ht⟩;simp only [Vd] at h1;have:=Zg h1;rw [Vu (by simpa using this)];simpa using h1
 · simp;omega
 · have key:∀e w',RR ⟨w,M,N,fn.ntmps,dd,[]⟩ R e w'→RR ⟨w,M,N,0,dd,[]⟩ R e w':=fun _ _ ⟨v',p,h',F',h3,h4,h5,h6⟩=>⟨v',p,h',F',h3,h4,h5.nt rfl rfl rfl id h5.m0,h6⟩
   cases e with
   |ret=>obtain ⟨h1,v,h2,h3⟩:=hq;exact ⟨h1,v,h2,key _ _ h3⟩
   |normal=>obtain ⟨h1,v,h2,h3⟩:=hq;exact ⟨h1,v,h2,key _ _ h3⟩
   |panic ch=>obtain ⟨h1,h3⟩:=hq;exact ⟨h1,key _ _ h3⟩
   |outgrown=>exact key _ _ hq
   |_=>exact hq.elim
end
section
variable {P:Program} {c:Ctx} {ops:Array Oper} {Q:Exit→Act→World→Prop} {rest:List Oper} {sL hP:List (Nat×Ent)} {o:Oper}
theorem WQ {fn:Func} {R:Value→PV→List (Nat×Ent)→Prop} {t:Nat} {v:Value} {p:PV} (h:List (Nat×Ent)) (hr:fn.results= #[.tmp t]) (ht:lk sL t=some (v,p)) (hs:Sub h hP) (hR:R v p h) (hdf:c.df=[]:=by exact rfl):aR c (bodyPost P fn (RR c R)) (⟨sL,hP⟩:St):=fun a w ⟨F,H0⟩=>by
 have H:HoldsF c (⟨sL,h⟩:St) F a w:=H0.less (fun _ _ h=>h) fun t x hx=>hs.lk hx
 obtain ⟨h1,h2⟩:=H.sl t v p ht
 refine ⟨H.df.trans hdf,v,?_,v,p,h,F,rfl,hR,H.toHeapF,h2⟩
 simp [results,hr,XR,h1]
theorem G3 {fn:Func} {R:Value→PV→List (Nat×Ent)→Prop} (h:List (Nat×Ent)) (hr:fn.results= #[]) (hs:Sub h hP) (hR:R (.tuple #[]) (.val (.tuple #[])) h) (hdf:c.df=[]:=by exact rfl):aR c (bodyPost P fn (RR c R)) (⟨sL,hP⟩:St):=fun a w ⟨F,H0⟩=>by
 have H:HoldsF c (⟨sL,h⟩:St) F a w:=H0.less (fun _ _ h=>h) fun t x hx=>hs.lk hx
 refine ⟨H.df.trans hdf, .tuple #[],?_, .tuple #[], .val (.tuple #[]),h,F,rfl,hR,H.toHeapF, .val _⟩
 simp [results,hr]
theorem Z8 {fn:Func} {R:Value→PV→List (Nat×Ent)→Prop} (h:List (Nat×Ent)) (hr:fn.results= #[]) (hs:Sub h hP) (hR:R (.tuple #[]) (.val (.tuple #[])) h) (hdf:c.df=[]:=by exact rfl):aN c (bodyPost P fn (RR c R)) (⟨sL,hP⟩:St):=G3 h hr hs hR hdf
theorem ZcB {dd:Prop} {f:Nat} {ar:List (Nat×Ent)} {R:Value→PV→List (Nat×Ent)→Prop} (K:List Nat) (d:Nat) (hw:Z7 ops sL o=some true) (hd:o.dst=some d) (hn:d<c.nt)
 (hE:∀a w F,HoldsF c (⟨sL,hP⟩:St) F a w→(execOp a.eval o).run P w= .ok (.enter f (ar.map (·.2.1)).toArray) w∧∀(i:Nat) (x:Value) (q:PV),((ar.map (·.2)).map (·.1))[i]? =some x→((ar.map (·.2)).map (·.2))[i]? =some q→Shr (mof c hP F) w x q)
 (hA:AFh dd P f ar (Wr K hP) R) (hio:KB 0 ar=true) (hdd:c.dr→dd)
 (k:∀v p h,R v p h→aL P c ops Q rest ⟨put d (v,p) sL,h++YM K hP⟩):aL P c ops Q (o::rest) (⟨sL,hP⟩:St):=
 Y8 hw fun a w F H=>by
  obtain ⟨hr,h2⟩:=hE a w F H;have hfr:=H.frame K;have hin:∀b,mof ⟨w,fun b=>c.M0 b∨∃l x,K.elem l=true∧lk hP l=some x∧F l b,nK K hP F,c.nt,c.dr,c.df⟩ (Wr K hP) F b→mof c hP F b:=by
   rintro b ((h|⟨l,x,_,h1,h2⟩)|⟨l,x,h1,h2⟩)
   · exact .inl h
   · exact .inr ⟨l,x,h1,h2⟩
   · exact .inr ⟨l,x,(WS.1 h1).2,h2⟩
  have hcall:=hA (fun b=>c.M0 b∨∃l x,K.elem l=true∧lk hP l=some x∧F l b) (nK K hP F) w F
   ⟨hfr.tr,hfr.lo,hfr.dj,hfr.m0.up hdd,hfr.ext,fun _=>Xb _⟩
   (fun i x hi=>by
     obtain ⟨_,h3⟩:=Gi ar 0 i x hio hi;rw [Vd] at h3;exact (h2 i x.1 x.2 (by rw [Xo,Xo,h3];rfl) (by rw [Xo,Xo,h3];rfl)).anti fun b _ hb=>hin b hb)
  unfold Oper.wp;rw [hr,Oper.upon_enter];refine hcall.mono fun e w' ⟨v,p,h,F',e1,e2,e3,e4⟩=>?_;subst e1;have hch:Chg (nK K hP F) w w':=e3.ext;have hlow:∀b,b<w.heap.size→mof ⟨w,fun b=>c.M0 b∨∃l x,K.elem l=true∧lk hP l=some x∧F l b,nK K hP F,0,dd,[]⟩ h F' b→mof c hP F b:=by
   rintro b hlt ((h1|⟨l,x,_,h1,h2⟩)|⟨l,x,h1,h2⟩)
   · exact .inl h1
   · exact .inr ⟨l,x,h1,h2⟩
   · rcases e3.lo l x b h1 h2 with h3|⟨l',x',_,h3,h4⟩
     · exact Uq hlt (by simp only at h3;omega)
     · exact .inr ⟨l',x',h3,h4⟩
  have H':HoldsF ⟨w,fun b=>c.M0 b∨∃l x,K.elem l=true∧lk hP l=some x∧F l b,nK K hP F,c.nt,c.dr,c.df⟩ (⟨put d (v,p) sL,h⟩:St) F' (a.put o.dst v) w':=by
   refine ⟨e3.nt rfl rfl rfl hdd hfr.m0,fun t u q ht=>?_,by rw [hd];simpa [Act.put] using H.size,by rw [hd];exact H.df⟩;rw [hd];rcases YS ht with ⟨rfl,e⟩|⟨hne,e⟩
   · cases e;refine ⟨?_,e4⟩;simp [Act.put,H.size,hn]
   · obtain ⟨h3,h4⟩:=H.sl t u q e;refine ⟨?_,h4.to hch (fun b _ ⟨l,x,_,h5,h6⟩=> .inr ⟨l,x,h5,h6⟩) (fun b hlt hb=>hlow b hlt hb)⟩;simpa [Act.put,Ui,hne] using h3
  obtain ⟨H2,_,_⟩:=H.unframe H';exact k v p h e2 _ _ ⟨_,H2⟩
theorem ZT {dd:Prop} {f:Nat} {ar h0:List (Nat×Ent)} {R:Value→PV→List (Nat×Ent)→Prop} {xs:Array Operand} {ats:Array TypeId} (K:List Nat) (d:Nat) (hc:∀args w,(callFunc f args).run P w= .ok (.enter f args) w) (hA:AFh dd P f ar h0 R)
 (k:∀v p h,R v p h→aL P c ops Q rest ⟨put d (v,p) sL,h++YM K hP⟩) (hw:Z7 ops sL o=some true:=by exact rfl) (hd:o.dst=some d:=by exact rfl) (hn:d<c.nt:=by exact Xa rfl)
 (ho:o.op= .call {callee:= .value (.func f),args:=xs,argTypes:=ats}:=by exact rfl) (hx:evL sL xs.toList=some (ar.map (·.2)):=by exact rfl) (hh0:h0=Wr K hP:=by exact rfl) (hio:KB 0 ar=true:=by exact rfl) (hdd:c.dr→dd:=by first|exact id|exact fun h=>h.elim|exact fun _=>trivial):aL P c ops Q (o::rest) (⟨sL,hP⟩:St):=by
 subst hh0
 refine ZcB K d hw hd hn (fun a w F H=>?_) hA hio hdd k
 obtain ⟨h1,h2⟩:=KJ H.rd hx
 refine ⟨?_,h2⟩
 have hargs:xs.map a.eval=(ar.map (·.2.1)).toArray:=by
  rw [show ar.map (·.2.1)=(ar.map (·.2)).map (·.1) by rw [Vx];rfl,←h1,←X7,X6]
 simp [execOp,ho,resolve,Act.eval,Deferred.ofValue,invoke,hargs,hc]
theorem RB {l e k n g cap:Nat} {h:Value} {a:Act} (hh:h= .slice (some ⟨g,0,none⟩) n cap) (zs:List Value) (h1:zs.all Value.oneCell'=true):
 ∀ (m i j:Nat) (cs:List PV) (w:World) (F:Nat→BS) (hp:List (Nat×Ent)),HoldsF c ⟨sL,hp⟩ F a w→lk hp l=some (h, .own e k n cs)→i+m=zs.length→j+i+m≤cs.length→
  ∃w' F' hp',(storeCells ⟨g,j,none⟩ (zs.drop i) i).run P w= .ok () w'∧HoldsF c ⟨sL,hp'⟩ F' a w'∧lk hp' l=some (h, .own e k n (Kx cs (j+i) ((zs.drop i).map PV.val)))∧∀l',l'≠l→lk hp' l'=lk hp l'
 | 0,i,j,cs,w,F,hp,H,hl,hi,hj=>by
   refine ⟨w,F,hp,?_,H,?_,fun _ _=>rfl⟩
   · rw [XZ oM];rfl
   · rw [XZ (by omega:zs.length≤i)];exact hl
 | m +1,i,j,cs,w,F,hp,H,hl,hi,hj=>by
   have hi':i<zs.length:=oM;obtain ⟨v,hv⟩:=YL hi';have hv1:v.oneCell'=true:=Xj.1 h1 v (Xd hv);obtain ⟨F1,H1⟩:=LZ H hl hh (show j+i<cs.length by omega) (Shr.val v);obtain ⟨w',F',hp2,hr,H2,hl2,hsame⟩:=RB hh zs h1 m (i+1) j (cs.set (j+i) (.val v)) _ F1 _ H1 (YH _ _ _) oM (by simp;omega);refine ⟨w',F',hp2,?_,H2,?_,fun l' hne=>by rw [hsame l' hne,YR (Ne.symm hne)]⟩
   · obtain ⟨xs,Fs,hrow,hlen,_⟩:=(H.tr l _ _ hl).row;subst hh;obtain ⟨z,hz⟩:=YL (show j+i<xs.length by omega);have hcell:=WK hrow hz;have hfr:=hrow.frozenAt (j+i);rw [XN (Zg hv),show zs[i]'(Zg hv)=v from (Xz.1 hv).2,storeCells];simp only [Sem.run_bind,run_store _ _ _ _ _ hv1,Y0,hcell,hfr,Vl,if_false,Result.andThen_ok];exact hr
   · rw [hl2,XN hi',show zs[i]'hi'=v from (Xz.1 hv).2,XM,Kx,Vk]
theorem Db:∀(ps cs:List PV) (j:Nat),(Kx cs j ps).take j=cs.take j
 |[],_,_=>rfl
 | p::ps,cs,j=>by
   rw [Kx];have h:=Db ps (cs.set j p) (j+1);have h2:=congrArg (List.take j) h;rw [List.take_take,List.take_take,XJ (X3 j)] at h2;rw [h2,V7 (Xb j)]
theorem Zbg {z:Value} (h:z.cells.toList.all Value.oneCell'=true) (m:Nat):(Builtin.zeroCells z.cells m).toList.all Value.oneCell'=true:=by
 rw [Xj]
 intro v hv
 unfold Builtin.zeroCells at hv
 rw [X7,Xq] at hv
 obtain ⟨i,_,rfl⟩:=hv
 rw [getElem!_def]
 cases hc:z.cells[i % z.cells.size]? with
 |none=>rfl
 |some u=>exact Xj.1 h u (by rw [←Array.getElem?_toList] at hc;exact Xd hc)
theorem T2 {t e kk bytes n i:Nat} {z:Value} {x:Operand} {h:Value} {q:PV} {cs:List PV} (l:Nat) (hT:ElT P t e kk bytes z) (hz0:z.cells.toList.all Value.oneCell'=true) (hw:Z7 ops sL o=some true) (hd:o.dst=none)
 (ho:o.op= .call {callee:= .builtin .clear,args:= #[x],argTypes:= #[t]}) (hx:ev sL x=some (slc h i n kk,q)) (hl:lk hP l=some (h, .own e kk n cs)) (hi:i≤n)
 (k:∀cs',cs'.length=cs.length→cs'.take (i*kk)=cs.take (i*kk)→aL P c ops Q rest ⟨sL,put l (h, .own e kk n cs') hP⟩):aL P c ops Q (o::rest) (⟨sL,hP⟩:St):=
 Y8 hw fun a w F H=>by
  have hxv:=(H.rd.ev hx).1;obtain ⟨xs,Fs,hrow,hlen,_⟩:=(H.tr l _ _ hl).row;obtain ⟨inf,hi1,hi2,hi3,hi4⟩:=hT.info;have hback:Holds c ⟨sL,put l (h, .own e kk n cs) hP⟩ a w:=⟨F,H.less (fun _ _ h=>h) fun t x hx=>by
   rcases YS hx with ⟨rfl,rfl⟩|⟨hne,e1⟩
   · exact hl
   · exact e1⟩
  rcases YZ hrow with ⟨rfl,rfl,rfl⟩|⟨g,cap,rfl,hc1,hc2,hc3⟩
  · have hi0:i=0:=oM;subst hi0;unfold Oper.wp execOp;simp [ho,hxv,resolve,invoke,builtin,Builtin.clear_,slc,run_underlying hT.ht,Oper.upon,hd,Act.put];exact k cs rfl rfl _ _ hback
  · rcases Xm i n with hlt|hge
    · (have hlen':cs.length=n*kk:=by rw [hlen,hrow.1]);(have hzs:(Builtin.zeroCells z.cells (n-i)).toList.length=(n-i)*kk:=by rw [V9,size_zeroCells,hT.hz]);(have hmul:i*kk+(n-i)*kk=n*kk:=by rw [←XY];congr 1;omega);obtain ⟨w',F',hp',hr,H',hl',hsame⟩:=RB (P:=P) rfl (Builtin.zeroCells z.cells (n-i)).toList (Zbg hz0 _) _ 0 (i*kk) cs w F hP H hl (Xv _) oM;simp only [Vs,XL] at hr hl';have hcap:cap≠i:=oM;obtain ⟨m,hm⟩:∃m,n-i=m+1:=⟨n-i-1,oM⟩;simp only [slc,hcap,if_false,VM,Y0,Xv,hm] at hxv;rw [hm] at hr hl';unfold Oper.wp execOp;simp [ho,hxv,resolve,invoke,builtin,Builtin.clear_,run_underlying hT.ht,zeroValue,typeInfo,hi1,hi2,hr,Oper.upon,hd,Act.put];refine k (Kx cs (i*kk) ((Builtin.zeroCells z.cells (m+1)).toList.map PV.val)) (Gy _ _ _) (Db _ _ _) _ _ ⟨F',H'.less (fun _ _ h=>h) fun t x hx=>?_⟩;rcases YS hx with ⟨rfl,rfl⟩|⟨hne,e1⟩
      · exact hl'
      · show lk hp' t=_;rw [hsame t (Ne.symm hne)];exact e1
    · have hin:i=n:=oM;subst hin;by_cases hca:cap=i
      all_goals
       unfold Oper.wp execOp;simp [ho,hxv,resolve,invoke,builtin,Builtin.clear_,slc,hca,run_underlying hT.ht,Oper.upon,hd,Act.put];exact k cs rfl rfl _ _ hback
theorem ZeW {t e k r n:Nat} {x y:Operand} {v:Value} {q:PV} {cs:List PV} {st:St} (hT:SlT P t e k=true) (ho:o.op= .binOp .eql t x y r:=by exact rfl) (hx:ev st.slots x=some (v, .sl n cs):=by exact rfl) (hy:ev st.slots y=some (.slice none 0 0,q):=by exact rfl):
 YE P st o (fun u=>u= .bool false∨(u= .bool true∧n=0)) (.val (.bool (match v with| .slice a _ _=>a.isNone|_=>false))):=fun M F a w H=>by
 obtain ⟨hv,hS⟩:=H.ev hx
 have hyv:=(H.ev hy).1
 cases hS with
 | emp ad cp hc ha=>
   refine ⟨.bool ad.isNone,?_, .val _,fun N W _ _ _=>?_⟩
   · cases ad with
     |none=>exact .inr ⟨rfl,rfl⟩
     |some _=>exact .inl rfl
   · simp [execOp,ho,hv,hyv,eqGuard,Go.Lib.run_eql_slice_nil W t e ad _ _ 0 0 (SlT.und hT)]
 | sl b off n cp cs vs hn hc hcell hT'=>
   refine ⟨.bool false, .inl rfl, .val _,fun N W _ _ _=>?_⟩;simp [execOp,ho,hv,hyv,eqGuard,Go.Lib.run_eql_slice_nil W t e (some ⟨b,off,none⟩) _ _ 0 0 (SlT.und hT)]
theorem ZL {l:List Oper} (h:List (Nat×Ent)) (hs:Sub h hP) (k:aL P c ops Q l ⟨sL,h⟩):aL P c ops Q l (⟨sL,hP⟩:St):=fun a w ⟨F,H⟩=>k a w ⟨F,H.less (fun _ _ h=>h) fun t x hx=>hs.lk hx⟩
def ZcC (P:Program) (fs:Nat):Prop:=∀(p:Option Addr) (cap:Nat) (w:World),Calls P fs #[.slice p 0 cap] w fun e w'=>e= .returned (.tuple #[])∧w'=w
theorem ZcD {fs e kk d:Nat} {h:Value} {q:PV} {cs:List PV} {x:Operand} {ats:Array TypeId} (l:Nat) (hS:ZcC P fs) (hc:∀args w,(callFunc fs args).run P w= .ok (.enter fs args) w)
 (k:aL P c ops Q rest ⟨put d (.tuple #[], .val (.tuple #[])) sL,hP⟩)
 (hw:Z7 ops sL o=some true:=by exact rfl) (hd:o.dst=some d:=by exact rfl) (hdn:d<c.nt:=by exact Xa rfl) (ho:o.op= .call {callee:= .value (.func fs),args:= #[x],argTypes:=ats}:=by exact rfl) (hx:ev sL x=some (h,q):=by exact rfl) (hl:lk hP l=some (h, .own e kk 0 cs):=by exact rfl):aL P c ops Q (o::rest) (⟨sL,hP⟩:St):=
 Y8 hw fun a w F H=>by
  have hxv:=(H.rd.ev hx).1;obtain ⟨xs,Fs,hrow,_⟩:=(H.tr l _ _ hl).row;have hh:∃p cap,h= .slice p 0 cap:=by
   rcases YZ hrow with ⟨h1,_,_⟩|⟨g,cap,h1,_⟩
   · exact ⟨_,_,h1⟩
   · exact ⟨_,_,h1⟩
  obtain ⟨p,cap,rfl⟩:=hh;unfold Oper.wp;have hr:(execOp a.eval o).run P w= .ok (.enter fs #[.slice p 0 cap]) w:=by
   simp [execOp,ho,resolve,Act.eval,Deferred.ofValue,invoke,hc] at hxv ⊢;simp [hxv]
  rw [hr,Oper.upon_enter];refine (hS p cap w).mono fun e w' ⟨e1,e2⟩=>?_;subst e1 e2;rw [hd];exact k _ _ ⟨F,H.put hdn (.val _)⟩
end
section
variable {P:Program} {st:St} {o:Oper}
end
theorem ZF {sL hP:List (Nat×Ent)} {l:Nat} {h:Value} {p p':PV} (hl:lk hP l=some (h,p)) (e:p=p'):Lo (⟨sL,hP⟩:St) (fun _:Unit=>⟨sL,put l (h,p') hP⟩):=fun c a w ⟨F,H⟩=>by
 subst e
 refine ⟨(),F,H.less (fun t x h=>h) fun t x ht=>?_⟩
 rcases YS ht with ⟨rfl,e1⟩|⟨_,h1⟩
 · rw [hl,e1]
 · exact h1
theorem Yk {sL hP:List (Nat×Ent)} {t:Nat} {v:Value} {p p':PV} (hl:lk sL t=some (v,p)) (e:p=p'):Lo (⟨sL,hP⟩:St) (fun _:Unit=>⟨put t (v,p') sL,hP⟩):=fun c a w ⟨F,H⟩=>by
 subst e
 refine ⟨(),F,H.less (fun s x ht=>?_) (fun t x h=>h)⟩
 rcases YS ht with ⟨rfl,e1⟩|⟨_,h1⟩
 · rw [hl,e1]
 · exact h1
theorem CC {sL hP:List (Nat×Ent)} {t:Nat} {q:PV} (ht:lk sL t=some (.slice none 0 0,q)):Lo (⟨sL,hP⟩:St) (fun _:Unit=>⟨put t (.slice none 0 0, .sl 0 []) sL,hP⟩):=fun c a w ⟨F,H⟩=>by
 refine ⟨(),F,H.toHeapF,fun s u r hs=>?_,H.size,H.df⟩
 rcases YS hs with ⟨rfl,e1⟩|⟨_,hs'⟩
 · cases e1;exact ⟨(H.sl t _ _ ht).1, .emp none 0 (by unfold maxLen;omega) (fun _=>rfl)⟩
 · exact H.sl s u r hs'
section
variable {P:Program} {c:Ctx} {ops:Array Oper} {Q:Exit→Act→World→Prop} {rest:List Oper} {sL hP:List (Nat×Ent)} {o:Oper}
theorem Eb:∀(l:List Value) (j off:Nat) (cells:Array Value),(l.zipIdx j).foldl (fun cs x=>cs.setIfInBounds (off+x.2) x.1) cells=(l.zipIdx (off+j)).foldl (fun cs x=>cs.setIfInBounds (0+x.2) x.1) cells
 |[],j,off,cells=>rfl
 | x::l,j,off,cells=>by
   simp only [VG,Vt];rw [Eb l (j+1) off,Xv,Vk]
theorem Ec:∀(l:List Value) (i:Nat) (cells:Array Value),i+l.length≤cells.size→(l.zipIdx i).foldl (fun cs x=>cs.setIfInBounds (0+x.2) x.1) cells=(cells.toList.take i++l++cells.toList.drop (i+l.length)).toArray
 | [],i,cells,h=>by
   simp only [List.zipIdx_nil,List.foldl_nil,Vc,Xk,XL,Vw,X6]
 | x::l,i,cells,h=>by
   simp only [VG,Vt];simp only [Xc] at h;rw [Ec l (i+1) _ (by simp;omega)];congr 1;rw [Xv,Ug,V6 (by simp;omega)];simp only [List.getElem_set_self,Xc];rw [V7 oM,List.drop_set_of_lt oM,show i+1+l.length=i+(l.length+1) by omega];simp
theorem ZcE (kk:Nat):∀(vs:List (List Value)) (i:Nat) (cells:Array Value),cells.size=(i+vs.length)*kk→(∀v∈vs,v.length=kk)→Instr.fill (fun i=>some (i*kk,kk)) cells (((vs.map fun v=>Value.agg v.toArray).zipIdx i).map fun x=>(x.2,x.1))=some (cells.toList.take (i*kk)++vs.flatten).toArray
 | [],i,cells,h,_=>by
   simp only [Vb,List.zipIdx_nil,Instr.fill,List.flatten_nil,Vc];simp only [Xk,XL] at h;rw [Xs (by simp;omega)]
 | v ::vs,i,cells,h,h1=>by
   have hv:=h1 v sM;have hcs:(Value.agg v.toArray).cells=v.toArray:=rfl;have hle:(i+1)*kk≤cells.size:=by rw [h];exact Ve _ sM
   rw [X9] at hle;have hc:¬((Value.agg v.toArray).cells.size≠kk||decide (i*kk+(Value.agg v.toArray).cells.size>cells.size))=true:=by rw [hcs];simp;omega
   simp only [XM,VG,Instr.fill,hc,if_false];rw [hcs,←Array.foldl_toList,Array.toList_zipIdx,Eb,Ec _ _ _ (by simp;omega)];have:=ZcE kk vs (i+1) (cells.toList.take (i*kk+0)++v++cells.toList.drop (i*kk+0+v.length)).toArray (by
    simp only [VW,Xg,Xl,Xw,V9];rw [XJ oM];rw [Xc] at h;rw [h,show i+1+vs.length=i+(vs.length+1) by omega] at*;omega) (fun u hu=>h1 u (by simp [hu]))
   simp only [X6] at this ⊢;rw [this];congr 2;rw [VY,←XC];congr 1;rw [List.take_append_of_le_length (by simp;rw [X9,XJ oM];omega)];rw [Xs (by simp;rw [X9,XJ oM];omega)];simp
theorem Jh {t e kk bytes m:Nat} {z:Value} {xs:List Operand} {parts:Array (Nat×Operand)} {es:List Ent} {cs:List (List PV)} (d:Nat) (hT:ElT P t e kk bytes z)
 (k:∀h:Value,h.oneCell'=true→aL P c ops Q rest ⟨put d (h, .val h) sL,put d (h, .own e kk m cs.flatten) hP⟩) (hw:Z7 ops sL o=some true:=by exact rfl) (hd:o.dst=some d:=by exact rfl) (hn:d<c.nt:=by exact Xa rfl) (ho:o.op= .buildSlice t m parts:=by exact rfl) (hpt:parts=((xs.zipIdx).map fun x=>(x.2,x.1)).toArray:=by exact rfl) (hx:evL sL xs=some es:=by exact rfl)
 (hcs:es.map (·.2)=cs.map PV.agg:=by exact rfl) (hck:∀q∈cs,q.length=kk:=by simp) (hm:es.length=m:=by exact rfl) (hm0:0<m:=by decide) (hm1:m≤1000:=by decide) (hk0:kk≤1000:=by decide) (hl:lk hP d=none:=by exact rfl):aL P c ops Q (o::rest) (⟨sL,hP⟩:St):=
 Y8 hw fun a w F H=>by
  obtain ⟨i,hi1,hi2,hi3,hi4⟩:=hT.info;obtain ⟨he,hS⟩:=KJ H.rd hx;have hkp:=hT.hk;have key : ∀(es:List Ent) (cs:List (List PV)),es.map (·.2)=cs.map PV.agg→(∀q∈cs,q.length=kk)→(∀(i:Nat) (x:Value) (q:PV),(es.map (·.1))[i]? =some x→(es.map (·.2))[i]? =some q→Shr (mof c hP F) w x q)→∃us:List (List Value),es.map (·.1)=us.map (fun v=>Value.agg v.toArray)∧us.length=es.length∧(∀u∈us,u.length=kk)∧us.flatten.length=cs.flatten.length∧∀(i:Nat) (x:Value) (q:PV),us.flatten[i]? =some x→cs.flatten[i]? =some q→Shr (mof c hP F) w x q:=fun es=>by
   induction es with
   | nil=>
     intro cs h1 _ _
     cases cs with
     |nil=>exact ⟨[],rfl,rfl,sM,rfl,sM⟩
     |cons q cs=>simp at h1
   | cons e0 es ih=>
     intro cs h1 h2 h3
     cases cs with
     |nil=>simp at h1
     | cons q cs=>
       simp only [XM,List.cons.injEq] at h1;obtain ⟨us,g1,g2,g3,g4,g5⟩:=ih cs h1.2 (fun u hu=>h2 u (XI _ hu)) (fun i x q hx hq=>h3 (i+1) x q (by simpa using hx) (by simpa using hq));have h4:=h3 0 e0.1 e0.2 rfl rfl;rw [h1.1] at h4;generalize hv0:e0.1=v0 at h4;have hqk:=h2 q (XD ..)
       cases h4 with
       | agg vs ps hvl hTT=>
         refine ⟨vs::us,by rw [XM,XM,hv0,g1],by simp [g2],fun u hu=>?_,by rw [VY,VY,Xg,Xg,g4,hvl],fun i x r hx hr=>?_⟩
         · rcases Xn.1 hu with rfl|hu
           · omega
           · exact g3 u hu
         · rw [VY] at hx hr;rcases Xm i vs.length with hi|hi
           · rw [VA hi] at hx;rw [VA oM] at hr;exact hTT i x r hx hr
           · rw [X0 hi] at hx;rw [X0 oM] at hr;refine g5 (i-vs.length) x r hx ?_;rw [hvl];exact hr
  obtain ⟨us,u1,u2,u3,u4,u5⟩:=key es cs hcs hck hS;have hfl:us.flatten.length=m*kk:=by
   have:∀us:List (List Value),(∀u∈us,u.length=kk)→us.flatten.length=us.length*kk:=fun us=>by
    induction us with
    |nil=>intro _;simp
    | cons u us ih=>
      intro h;rw [VY,Xg,h u (XD ..),ih fun v hv=>h v (XI _ hv),Xc,X9];omega
   rw [this us u3,u2,hm]
  have hmk:m*kk≤1000000:=XG (Nat.mul_le_mul hm1 hk0) dC;have hmk0:0<m*kk:=Nat.mul_pos hm0 hkp;obtain ⟨F',H'⟩:=Wh (e:=e) (k:=kk) (n:=m) (cap:=m) (cur:=us.flatten.toArray) (v:= .slice (some ⟨w.heap.size,0,none⟩) m m) H hl hn (vs:=us.flatten) (ps:=cs.flatten) u4 u5 (by first|omega|exact hfl|(rw [hfl])|(rw [VO];exact hfl)) (Xb _) (by unfold maxLen;omega) (by simp;rw [←List.length_flatten,hfl]) (Xs (by simp;rw [←List.length_flatten,hfl];omega));have hf:=ZcE kk us 0 ((Array.range (m*i.size)).map (z.cells[· % z.cells.size]!)) (by simp [hi3,u2,hm]) u3;have hpe:(parts.map fun (i,x)=>(i,a.eval x)).toList=((us.map fun v=>Value.agg v.toArray).zipIdx 0).map fun x=>(x.2,x.1):=by
   rw [hpt,←u1,←he];simp [List.zipIdx_map]
  have hr:=run_buildSlice (P:=P) w t e m (parts.map fun (i,x)=>(i,a.eval x)) us.flatten.toArray i z hT.ht hi1 hi2 (by rw [hi3];omega) (by rw [hi3];omega) (by rw [hpe,hi3];rw [hi3] at hf;simpa using hf);unfold Oper.wp execOp;simp only [ho,Sem.run_bind,hr,Result.andThen_ok,Sem.run_pure,Oper.upon,hd];exact k (.slice (some ⟨w.heap.size,0,none⟩) m m) rfl _ _ ⟨F',H'⟩
end
def Rr (p p':PV):Prop:=∀(M:BS) (w:World) (v:Value),Shr M w v p→Shr M w v p'
theorem Rr.rfl' (p:PV):Rr p p:=fun _ _ _ h=>h
theorem Rr.nil:Rr (.val (.slice none 0 0)) (.sl 0 []):=fun M w v h=>by
 cases h with
 |val=>exact .emp none 0 (by unfold maxLen;omega) (fun _=>rfl)
theorem Rr.agg {ps ps':List PV} (hl:ps.length=ps'.length) (h:∀(i:Nat) (p p':PV),ps[i]? =some p→ps'[i]? =some p'→Rr p p'):Rr (.agg ps) (.agg ps'):=fun M w v hv=>by
 cases hv with
 | agg vs ps hvl hT=>
   refine .agg vs ps' oM fun i x q hx hq=>?_;obtain ⟨p,hp⟩:=YJ hq hl.symm;exact h i p q hp hq M w x (hT i x p hx hp)
theorem Rr.tup {ps ps':List PV} (hl:ps.length=ps'.length) (h:∀(i:Nat) (p p':PV),ps[i]? =some p→ps'[i]? =some p'→Rr p p'):Rr (.tup ps) (.tup ps'):=fun M w v hv=>by
 cases hv with
 | tup vs ps hvl hT=>
   refine .tup vs ps' oM fun i x q hx hq=>?_;obtain ⟨p,hp⟩:=YJ hq hl.symm;exact h i p q hp hq M w x (hT i x p hx hp)
theorem AF.reread {P:Program} {f:Nat} {ps:List PV} {p p':PV} (h:AF P f ps (· =p)) (hs:shD p=true) (hr:Rr p p'):AF P f ps (· =p'):=fun M w vs hM hl hv=>
 (h M w vs hM hl hv).mono fun e w' ⟨v,q,F,h1,h2,h3,h4,h5,h6⟩=>by
   subst h2;refine ⟨v,p',fun _=>False,h1,rfl,h3, .shr (hr _ _ _ ((h4.shD hs).anti fun b _ hb=>?_)) (fun _ h=>h),fun b hb=>hb.elim,h6⟩;rcases hb with hb|hb
   · exact .inl hb
   · exact hb.elim
theorem WT {sL hP:List (Nat×Ent)} {t:Nat} {v:Value} {p p':PV} (hl:lk sL t=some (v,p)) (hr:Rr p p'):Lo (⟨sL,hP⟩:St) (fun _:Unit=>⟨put t (v,p') sL,hP⟩):=fun c a w ⟨F,H⟩=>by
 refine ⟨(),F,H.toHeapF,fun s u r hs=>?_,H.size,H.df⟩
 rcases YS hs with ⟨rfl,e1⟩|⟨_,hs'⟩
 · cases e1;exact ⟨(H.sl t _ _ hl).1,hr _ _ _ (H.sl t _ _ hl).2⟩
 · exact H.sl s u r hs'
end Go.En
namespace Go.Proofs.YtpiemogpblmiiaaGreatDoor
open Go.RowKit Go.Cb Go.En Tryz
set_option linter.all false
set_option maxRecDepth 100000
theorem Y4:AggT prog 24 3=true:=by kernel_rfl
theorem Zbh:ElT prog 46 3 1 8 (.int .i64 0):=⟨underlying46,by kernel_rfl,rfl,dC⟩
theorem KU:FldT prog 24 0 0=true:=by kernel_rfl
theorem KV:FldT prog 24 1 1=true:=by kernel_rfl
theorem WM:FldT prog 24 2 2=true:=by kernel_rfl
theorem KC:NoAgg prog 22=true:=by kernel_rfl
theorem J8:NoAgg prog 3=true:=by kernel_rfl
theorem GD:NoAgg prog 9=true:=by kernel_rfl
theorem Y5:SlT prog 22 24 3=true:=by kernel_rfl
theorem Dc:SlT prog 46 3 1=true:=by kernel_rfl
theorem L4:ZeroT prog 24 (.agg #[(.int .i64 0),(.string ByteArray.empty),(.slice none 0 0)]):=by unfold ZeroT;kernel_rfl
theorem Zid {P:Program} {st:St} {o:Oper} {x y:Operand} {t t':TypeId} {a b:Int} {q q':PV} (ho:o.op= .call {callee:= .builtin .min,args:= #[x,y],argTypes:= #[t,t']}:=by exact rfl) (hx:ev st.slots x=some (.int .i64 a,q):=by exact rfl) (hy:ev st.slots y=some (.int .i64 b,q'):=by exact rfl):YE P st o (· = .int .i64 (if b<a then b else a)) (.val (.int .i64 (if b<a then b else a))):=
 y2 hx hy fun ρ w h1 h2=>by
  simp [execOp,ho,h1,h2,resolve,invoke,builtin,Builtin.min_,Builtin.min2]
theorem PF (s:Int):AF prog 219 [Zc s] (· =ZV false):=by
 refine AF.of_body 6 func219 rfl ntmps219 (Xa rfl) ?_
 intro w0 M0 vs hl hv
 obtain ⟨v0,rfl⟩:=Kl hl
 obtain rfl:=hv 0 _ _ rfl rfl
 clear hl hv
 refine Zf ?_
 (refine xL 2 Zb ?_;refine Zn ?_)
 (refine xL 3 Za (xL 4 Za (xL 5 YN (xL 2 Zb ?_)));refine Ze ?_)
 refine Zx (results219) rfl ?_
 simp
theorem ZcF (a b:Int):AF prog 229 [Zc a,Zc b] (· =Zc (K3 a b)):=by
 refine AF.of_body 20 func229 rfl ntmps229 (Xa rfl) ?_
 intro w0 M0 vs hl hv
 obtain ⟨v0,v1,rfl⟩:=KG hl
 obtain rfl:=hv 0 _ _ rfl rfl
 obtain rfl:=hv 1 _ _ rfl rfl
 clear hl hv
 refine Zf ?_
 (refine xL 4 Zb ?_;refine Zn ?_)
 (refine xL 7 Za ?_;refine cS 8 (cA call219 (PF a)) fun v8 hv8=>?_;cases hv8;refine xL 5 Zb ?_;refine Zn ?_)
 (refine xL 9 Za ?_;refine cS 10 (cA call219 (PF b)) fun v10 hv10=>?_;cases hv10;refine xL 6 Zb ?_;refine Zn ?_)
 (refine xL 11 Za ?_;refine Ze ?_)
 refine cCf ?_
 refine Zf ?_
 (refine xL 13 Za ?_;refine Ze ?_)
 refine cCf ?_
 refine Zf ?_
 (refine xL 14 Za (xL 15 Za (xL 16 ZR ?_));refine Ze ?_)
 refine cX ?_ ?_<;>intro hb16
 · first|exact bN hb16|(
 refine Zf ?_;(refine xL 4 Zb ?_;refine Ze ?_)
 refine Zx (results229) rfl ?_;rw [K3,Up hb16])
 · first|exact bN hb16|(
 refine Zf ?_;(refine xL 17 Za (xL 18 Za (xL 19 Wy ?_));refine Ze ?_)
 refine cX ?_ ?_<;>intro hb19
 · first|exact bN hb19|(
 refine Zf ?_;(refine xL 4 Zb ?_;refine Ze ?_)
 refine Zx (results229) rfl ?_;rw [K3,Uo oM,Up oM])
 · first|exact bN hb19|(
 refine Zf ?_;(refine xL 4 Zb ?_;refine Ze ?_)
 refine Zx (results229) rfl ?_;rw [K3,Uo oM,Uo oM]))
def orL:List Int→Int
 |[]=>0
 |x::l=>if x≠0 then x else orL l
theorem Zbi (a b c:Int):orL [a,b,c]=or3 a b c:=by
 unfold or3
 simp only [orL]
 split
 · rfl
 · split
   · rfl
   · split<;>omega
theorem ZcG (l:List Int) (hl:l.length≤1000):AF prog 228 [pInts l] (· =Zc (orL l)):=by
 refine AF.of_body 18 func228 rfl ntmps228 (Xa rfl) ?_
 intro w0 M0 vs hl hv
 obtain ⟨v0,rfl⟩:=Kl hl
 clear hl hv
 refine Zf ?_
 (refine xL 2 Zb ?_;refine Zn ?_)
 (refine xL 3 Zb ?_;refine Zn ?_)
 (refine xL 6 Za (xL 7 (Z1 Dc) (xL 8 Za ?_));refine Ze ?_)
 refine ZE (ι:={k:Nat//k≤l.length∧orL l=orL (l.drop k)}) (fun k=>⟨[(3,_,_),(6,_,_),(7,_,_),(8, .int .i64 k.1,Zc k.1)],[]⟩) (fun k=>l.length-k.1) ⟨0,oM,rfl⟩ (fun a w H=>H.weaken ⟨rfl,rfl,rfl,rfl,trivial⟩ trivial) ?_
 rintro ⟨k,hk,hp⟩
 dsimp only
 refine Zf ?_
 (refine xL 9 ZR ?_;refine Ze ?_)
 refine cX ?_ ?_<;>intro hb9
 · first |exact bN hb9|(
 obtain ⟨x,hx⟩:=Zw (show k<l.length by omega);have e1:=Y2 (f:=Zc) hx;(have hdr:l.drop k=x::l.drop (k+1):=by rw [XN (Zg hx)];congr 1;exact (Xz.1 hx).2);refine Zf ?_;(refine xL 10 (ZP Dc) ?_;refine yL 11 (Yy J8) fun v11 hv11=>?_;cases hv11;refine xL 5 Zb ?_;refine Zn ?_)
 (refine xL 12 Za (xL 13 Za (xL 14 YN ?_));refine Ze ?_)
 refine cX ?_ ?_<;>intro hb14
 · first|exact bN hb14|(
 refine Zf ?_;(refine xL 15 Za (xL 2 Zb ?_);refine Ze ?_)
 refine Zx (results228) rfl ?_;rw [hp,hdr,orL,Up hb14])
 · first|exact bN hb14|(
 refine Zf ?_;(refine xL 16 ZO (xL 8 Za ?_);refine Ze ?_)
 refine Zk (
  ⟨k+1,oM,by rw [hp,hdr,orL,Uo hb14]⟩
  ) (by dsimp only;omega) ⟨rfl,rfl,rfl,rfl,trivial⟩ trivial))
 · first|exact bN hb9|(
 refine Zf ?_;(refine xL 17 Za (xL 2 Zb ?_);refine Ze ?_)
 refine Zx (results228) rfl ?_;rw [hp,XZ oM];rfl)
theorem Zgv:∀a b:List UInt8,Lib.compareBytes a b=if Op.bytesLess a b=true then-1 else if (a==b)=true then 0 else 1
 |[],[]=>by simp [Lib.compareBytes,Op.bytesLess]
 |[],_::_=>by simp [Lib.compareBytes,Op.bytesLess]
 |_::_,[]=>by simp [Lib.compareBytes,Op.bytesLess]
 | x :: a,y::b=>by
   rw [Lib.compareBytes,Zgv a b];simp only [Op.bytesLess,List.cons_beq_cons];by_cases h1:x<y
   · simp [h1]
   · by_cases h2:x=y
     · subst h2;simp [h1]
     · have h3:y<x:=UInt8.lt_of_le_of_ne (UInt8.not_lt.1 h1) (Ne.symm h2);simp [h1,h2,h3]
theorem ZcH (a b:ByteArray) (w:World):(callFunc 244 #[.string a, .string b]).run prog w= .ok (.value (.int .i64 (Wi a b))) w:=by
 rw [run_callFunc_extern func244 kR kR kR (e:=Extern.BytealgCompare.compare) kR,Lib.run_compareString]
 simp only [Result.andThen]
 rw [Zgv]
 unfold Wi Jc Rx
 rw [ByteArray.toList_eq,ByteArray.toList_eq]
theorem Zg1 {st:St} {o:Oper} {x y:Operand} {f:Nat} {u v r:Value} {p q:PV} {ats:Array TypeId} (hc:∀w,(callFunc f #[u,v]).run prog w= .ok (.value r) w) (ho:o.op= .call {callee:= .value (.func f),args:= #[x,y],argTypes:=ats}:=by exact rfl) (hx:ev st.slots x=some (u,p):=by exact rfl) (hy:ev st.slots y=some (v,q):=by exact rfl):YE prog st o (· =r) (.val r):=
 .exact fun M F a w H=>⟨.val _,by
  have h1:=(H.ev hx).1;have h2:=(H.ev hy).1;have hev:a.eval (.func f)= .func (.func f) #[] #[]:=rfl;simp [execOp,ho,resolve,hev,Deferred.ofValue,invoke,h1,h2,hc]⟩
theorem Ed (a b:ByteArray):AF prog 241 [ZZ a,ZZ b] (· =Zc (Wi a b)):=by
 refine AF.of_body 8 func241 rfl ntmps241 (Xa rfl) ?_
 intro w0 M0 vs hl hv
 obtain ⟨v0,v1,rfl⟩:=KG hl
 obtain rfl:=hv 0 _ _ rfl rfl
 obtain rfl:=hv 1 _ _ rfl rfl
 clear hl hv
 refine Zf ?_
 (refine xL 4 Zb ?_;refine Zn ?_)
 (refine xL 5 Za (xL 6 Za ?_);refine xL 7 (Zg1 (ZcH a b)) ?_;refine xL 4 Zb ?_;refine Ze ?_)
 exact Zx results241 rfl rfl
theorem DT (a b:ByteArray):AF prog 230 [ZZ a,ZZ b] (· =Zc (Wi a b)):=by
 refine AF.of_body 8 func230 rfl ntmps230 (Xa rfl) ?_
 intro w0 M0 vs hl hv
 obtain ⟨v0,v1,rfl⟩:=KG hl
 clear hl hv
 refine Zf ?_
 (refine xL 4 Zb ?_;refine Zn ?_)
 (refine xL 5 Za (xL 6 Za ?_);refine cS 7 (cA call241 (Ed a b)) fun v7 hv7=>?_;cases hv7;refine xL 4 Zb ?_;refine Ze ?_)
 exact Zx results230 rfl rfl
theorem Zbj {l m:List Nd} {k:Nat} {x y:Nd} (hx:l[k]? =some x) (hy:m[k]? =some y):W6 (l.drop k) (m.drop k)=if Wd x y≠0 then Wd x y else W6 (l.drop (k+1)) (m.drop (k+1)):=by
 rw [XN (Zg hx),XN (Zg hy),(Xz.1 hx).2,(Xz.1 hy).2,W6]
theorem PG {l m:List Nd} {k:Nat} (hk:k≤l.length) (hk':k≤m.length) (h:¬(k<l.length∧k<m.length)):W6 (l.drop k) (m.drop k)=if l.length<m.length then-1 else if m.length<l.length then 1 else 0:=by
 rcases Xm k l.length with h1|h1
 · have h2:k=m.length:=oM;subst h2;rw [XZ (Xb m.length),XN h1,W6,Uo oM,Up h1]
 · have h2:k=l.length:=oM;subst h2;rw [XZ (Xb l.length),Uo (by omega:¬m.length<l.length)];rcases Xm l.length m.length with h3|h3
   · rw [XN h3,W6,Up h3]
   · have h4:l.length=m.length:=oM;rw [XZ oM,W6,Uo oM]
theorem DU (f:Nat) (l m:List Nd) (hl:l.length≤140737488355328) (hm:m.length≤140737488355328) (hc:∀args w,(callFunc f args).run prog w= .ok (.enter f args) w) (hf:∀x∈l,∀y∈m,AF prog f [pTr x,pTr y] (· =Zc (Wd x y))):AF prog 231 [YK l,YK m, .fn f []] (· =Zc (W6 l m)):=by
 refine AF.of_body 39 func231 rfl ntmps231 (Xa rfl) ?_
 intro w0 M0 vs hl hv
 obtain ⟨v0,v1,v2,rfl⟩:=OM hl
 clear hl hv
 refine Zf ?_
 (refine xL 6 Zb ?_;refine Zn ?_)
 (refine xL 11 Za (xL 12 (Z1 Y5) (xL 13 Za ?_));refine Ze ?_)
 refine ZE (ι:={k:Nat//k≤l.length∧k≤m.length∧W6 l m=W6 (l.drop k) (m.drop k)}) (fun k=>⟨[(0,_,_),(1,_,_),(2,_,_),(11,_,_),(12,_,_),(13, .int .i64 k.1,Zc k.1)],[]⟩) (fun k=>l.length-k.1) ⟨0,oM,oM,rfl⟩ (fun a w H=>H.weaken ⟨rfl,rfl,rfl,rfl,rfl,rfl,trivial⟩ trivial) ?_
 rintro ⟨k,hk,hkm,hp⟩
 dsimp only
 refine Zf ?_
 (refine xL 14 ZR ?_;refine Ze ?_)
 refine cX ?_ ?_<;>intro hb14
 · first | exact bN hb14|(
 obtain ⟨x,hx⟩:=Zw (show k<l.length by omega);have e1:=Z5 hx;have e2:=Yj hx;refine Zf ?_;(refine xL 15 Za (xL 16 (ZP Y5) ?_);refine yL 17 (Yz Y4) fun v17 hv17=>?_;cases hv17;refine ZA [(.int .i64 0),(.string ByteArray.empty),(.slice none 0 0)] 3 8 L4 fun h8=>?_;refine xL 7 Zb ?_;refine Zv 8 Y4 ?_;refine Zn ?_)
 (refine xL 18 Za (xL 19 Za (xL 20 (Z1 Y5) (xL 21 WE ?_)));refine Ze ?_)
 refine cX ?_ ?_<;>intro hb21
 · first|exact bN hb21|(
 refine Zf ?_;(refine xL 6 Zb ?_;refine Ze ?_)
 refine Zx (results231) rfl ?_;rw [hp,PG hk hkm oM,Uo oM,Up oM])
 · first |exact bN hb21|(
 obtain ⟨y,hy⟩:=Zw (show k<m.length by omega);have e3:=Z5 hy;have e4:=Yj hy;have hd:=Zbj hx hy;refine Zf ?_;(refine xL 22 Za (xL 23 Za (xL 24 (ZP Y5) ?_));refine yL 25 (Yz Y4) fun v25 hv25=>?_;cases hv25;refine ZA [(.int .i64 0),(.string ByteArray.empty),(.slice none 0 0)] 3 9 L4 fun h9=>?_;refine Zv 9 Y4 ?_;refine Zn ?_)
 (refine xL 26 Za ?_;refine yL 27 (Zq 8 Y4) fun v27 hv27=>?_;cases hv27;refine yL 28 (Zq 9 Y4) fun v28 hv28=>?_;cases hv28;refine cS 29 (Jb (f:=f) (ps:=[]) rfl ⟨_,rfl⟩ hc rfl (hf x (Xd hx) y (Xd hy))) fun v29 hv29=>?_;cases hv29;refine xL 10 Zb ?_;refine Zn ?_)
 (refine xL 30 Za (xL 31 YN ?_);refine Ze ?_)
 refine cX ?_ ?_<;>intro hb31
 · first|exact bN hb31|(
 refine Zf ?_;(refine xL 32 Za (xL 6 Zb ?_);refine Ze ?_)
 refine Zx (results231) rfl ?_;rw [hp,hd,Up hb31])
 · first|exact bN hb31|(
 refine Zf ?_;(refine xL 33 ZO (xL 13 Za ?_);refine Ze ?_)
 refine Zk (
  ⟨k+1,oM,oM,by rw [hp,hd,Uo hb31]⟩
  ) (by dsimp only;omega) ⟨rfl,rfl,rfl,rfl,rfl,rfl,trivial⟩ trivial)))
 · first|exact bN hb14|(
 refine Zf ?_;(refine xL 34 Za (xL 35 (Z1 Y5) (xL 36 Za (xL 37 (Z1 Y5) (xL 38 ZR ?_))));refine Ze ?_)
 refine cX ?_ ?_<;>intro hb38
 · first|exact bN hb38|(
 refine Zf ?_;(refine xL 6 Zb ?_;refine Ze ?_)
 refine Zx (results231) rfl ?_;rw [hp,PG hk hkm oM,Up oM])
 · first|exact bN hb38|(
 refine Zf ?_;(refine xL 6 Zb ?_;refine Ze ?_)
 refine Zx (results231) rfl ?_;rw [hp,PG hk hkm oM,Uo oM,Uo oM]))
theorem Zg2:∀(t u:Nd),FitT t→FitT u→AF prog 209 [pTr t,pTr u] (· =Zc (Wd t u)):=Nd.ind fun o a l ih u hf hg=>by
 obtain ⟨o',a',l'⟩:=u
 have hl:=hf.len
 have hp:=hf.p
 have hl':=hg.len
 have hp':=hg.p
 simp only [Nd.l] at hl hp hl' hp'
 refine AF.of_body 22 func209 rfl ntmps209 (Xa rfl) ?_
 intro w0 M0 vs hl hv
 obtain ⟨v0,v1,rfl⟩:=KG hl
 clear hl hv
 have e0:pTr (.mk o a l)= .agg [Zc o,ZZ a, .sl l.length (Z6 l)]:=rfl
 have e1:pTr (.mk o' a' l')= .agg [Zc o',ZZ a', .sl l'.length (Z6 l')]:=rfl
 rw [e0,e1]
 refine Zf ?_
 (refine Yv 2 3 fun h2=>?_;refine Yv 3 3 fun h3=>?_;refine xL 4 Zb ?_;refine Ze ?_)
 (refine ZS (fun i=>([]:List Nat).elem i) [2,3] kR ?_<;>refine xD 0 5 rfl (Zd 2 KU) ?_<;>(refine yD 1 6 rfl (Zi 2 J8) fun v6 h=>?_;cases h)<;>refine xD 2 7 rfl (Zd 3 KU) ?_<;>(refine yD 3 8 rfl (Zi 3 J8) fun v8 h=>?_;cases h)<;>refine xD 5 10 rfl (Zd 2 KV) ?_<;>(refine yD 6 11 rfl (Zi 2 GD) fun v11 h=>?_;cases h)<;>refine xD 7 12 rfl (Zd 3 KV) ?_<;>(refine yD 8 13 rfl (Zi 3 GD) fun v13 h=>?_;cases h)<;>refine xD 10 15 rfl (Zd 2 WM) ?_<;>(refine yD 11 16 rfl (Zi 2 KC) fun v16 h=>?_;cases h)<;>refine xD 12 17 rfl (Zd 3 WM) ?_<;>(refine yD 13 18 rfl (Zi 3 KC) fun v18 h=>?_;cases h)<;>(refine Zl 4 kR ?_)<;>(refine Zj rfl fun w9 M9 N9 DQ back=>?_)<;>(refine cS 9 (cA call229 (ZcF o o')) fun v9 h=>?_;cases h)<;>refine Zh (back _ (nrm ?_))<;>(refine Zl 9 kR ?_)<;>(refine Zj rfl fun w9 M9 N9 DQ back=>?_)<;>(refine cS 14 (cA call230 (DT a a')) fun v14 h=>?_;cases h)<;>refine Zh (back _ (nrm ?_))<;>(refine Zl 14 kR ?_)<;>(refine Zj rfl fun w9 M9 N9 DQ back=>?_)<;>(refine cS 19 (cA call231 (DU 209 l l' hl hl' (call209) (fun x hx y hy=>ih x hx y (hp x hx) (hp' y hy)))) fun v19 h=>?_;cases h)<;>refine Zh (back _ (nrm ?_))<;>(refine Zl 15 kR ?_)<;>(refine Zj rfl fun w9 M9 N9 DQ back=>?_)<;>(refine Px (xs:=[_,_,_]) 20 Zbh fun h20 ho20=>?_;refine Zp (En.freeze (l:=20) (t:=20) rfl rfl) fun _=>?_)<;>refine Zh (back _ (nrm ?_))<;>(refine Zl 16 kR ?_)<;>(refine Zj rfl fun w9 M9 N9 DQ back=>?_)<;>(refine cS 21 (cA call228 (ZcG [K3 o o',Wi a a',W6 l l'] (by simp only [Xc,Xk];omega))) fun v21 h=>?_;cases h)<;>refine Zh (back _ (nrm ?_))<;>refine xE 17 4 rfl Zb ?_<;>refine Yu kR (nav ?_)<;>try dsimp only)
 refine Zx (results209) rfl ?_
 rw [Zbi,Wd]
def JJ (t u:Nd):Bool:=decide (Wd t u=0)
theorem Ww {t u:Nd}:JJ t u=true↔t=u:=by unfold JJ;rw [Ul,Ky]
theorem GF {t u:Nd} (h:t≠u):JJ t u=false:=by
 cases hs:JJ t u with
 |false=>rfl
 |true=>exact Uq (Ww.1 hs) h
theorem ZcI {o o':Int} {a a':ByteArray} {l l':List Nd} (h1:o=o') (h2:a=a') (h3:l.length=l'.length) (h4:∀(j:Nat) (x y:Nd),l[j]? =some x→l'[j]? =some y→x=y):Nd.mk o a l=Nd.mk o' a' l':=by
 have:l=l':=by
  apply VN;intro i;rcases Xm i l.length with h|h
  · obtain ⟨x,hx⟩:=Zw h;obtain ⟨y,hy⟩:=Zw (show i<l'.length by omega);rw [hx,hy,h4 i x y hx hy]
  · rw [Vn h,Vn oM]
 rw [h1,h2,this]
theorem ZcJ : ∀ (t u:Nd),FitT t→FitT u→AF prog 16 [pTr t,pTr u] (· =ZV (JJ t u)):=Nd.ind fun o a l ih u hf hg=>by
 obtain ⟨o',a',l'⟩:=u
 have hl:=hf.len
 have hp:=hf.p
 have hl':=hg.len
 have hp':=hg.p
 simp only [Nd.l] at hl hp hl' hp'
 refine AF.of_body 46 func16 rfl ntmps16 (Xa rfl) ?_
 intro w0 M0 vs hl hv
 obtain ⟨v0,v1,rfl⟩:=KG hl
 clear hl hv
 have e0:pTr (.mk o a l)= .agg [Zc o,ZZ a, .sl l.length (Z6 l)]:=rfl
 have e1:pTr (.mk o' a' l')= .agg [Zc o',ZZ a', .sl l'.length (Z6 l')]:=rfl
 rw [e0,e1]
 refine Zf ?_
 (refine Yv 2 3 fun h2=>?_;refine Yv 3 3 fun h3=>?_;refine xL 4 Zb ?_;refine Zn ?_)
 (refine xL 6 (Zd 2 KU) ?_<;>(refine yL 7 (Zi 2 J8) fun v7 h=>?_;cases h)<;>refine xL 8 (Zd 3 KU) ?_<;>(refine yL 9 (Zi 3 J8) fun v9 h=>?_;cases h)<;>refine xL 10 YN (xL 11 Za ?_)<;>(refine bLd 11 (fun hb11=>?_) (fun hb11=>?_)<;>(first|refine kL 12 ?_|refine xL 12 (Zd 2 KV) ?_))<;>(first|refine kL 13 ?_|(refine yL 13 (Zi 2 GD) fun v13 h=>?_;cases h))<;>(first|refine kL 14 ?_|refine xL 14 (Zd 3 KV) ?_)<;>(first|refine kL 15 ?_|(refine yL 15 (Zi 3 GD) fun v15 h=>?_;cases h))<;>(first|refine kL 16 ?_|refine xL 16 Lv ?_)<;>refine xL 17 Zu (xL 18 Za ?_)<;>(first|refine kL 19 ?_|(refine bL 18 (fun hb18=>?_) (fun hb18=>?_)<;>(first|refine kL 19 ?_|refine xL 19 (Zd 2 WM) ?_)))<;>(first|refine kL 20 ?_|(refine yL 20 (Zi 2 KC) fun v20 h=>?_;cases h))<;>(first|refine kL 21 ?_|refine xL 21 (Z1 Y5) ?_)<;>(first|refine kL 22 ?_|refine xL 22 (Zd 3 WM) ?_)<;>(first|refine kL 23 ?_|(refine yL 23 (Zi 3 KC) fun v23 h=>?_;cases h))<;>(first|refine kL 24 ?_|refine xL 24 (Z1 Y5) ?_)<;>(first|refine kL 25 ?_|refine xL 25 YN ?_)<;>refine xL 26 Zu ?_<;>refine Ze ?_)<;>(
 refine cX ?_ ?_<;>intro hb26
 · first|exact bN hb26|(
 refine Zf ?_;(refine xL 4 Zb ?_;refine Ze ?_)
 refine Zx (results16) rfl ?_;rw [GF fun h=>?_];injection h with h1 h2 h3;subst h1 h2 h3
 first
  |omega
  |(simp at hb18;done)
  |(simp at hb26;done))
 · first | exact bN hb26|(
 have ho:o=o':=oM;have ha:a=a':=by
  (have:(a.toList==a'.toList)=true:=by simpa using hb18);exact Jd.1 this
 have hll:l.length=l'.length:=oM;refine Zf ?_;(refine xL 5 Zb ?_;refine Ze ?_)
 refine ZE (ι:={k:Nat//k≤l.length∧∀j x y,j<k→l[j]? =some x→l'[j]? =some y→x=y}) (fun k=>⟨[(2,_,_),(3,_,_),(5, .int .i64 k.1,Zc k.1)],[(2,_,_),(3,_,_)]⟩) (fun k=>l.length-k.1) ⟨0,oM,oM⟩ (fun a w H=>H.weaken ⟨rfl,rfl,rfl,trivial⟩ ⟨rfl,rfl,trivial⟩) ?_;rintro ⟨k,hk,hp3⟩;dsimp only;refine Zf ?_;(refine xL 27 Za (xL 28 (Zd 2 WM) ?_);refine yL 29 (Zi 2 KC) fun v29 hv29=>?_;cases hv29;refine xL 30 (Z1 Y5) (xL 31 ZR ?_);refine Ze ?_)
 refine cX ?_ ?_<;>intro hb31
 · first | exact bN hb31|(
 obtain ⟨x,hx⟩:=Zw (show k<l.length by omega);obtain ⟨y,hy⟩:=Zw (show k<l'.length by omega);have e1:=Z5 hx;have e2:=Yj hx;have e3:=Z5 hy;have e4:=Yj hy;have hxm:=Xd hx;have hym:=Xd hy;refine nav ?_;(refine ZS (fun i=>([]:List Nat).elem i) [2,3] kR ?_<;>refine xD 0 34 rfl (Zd 2 WM) ?_<;>(refine yD 1 35 rfl (Zi 2 KC) fun v35 h=>?_;cases h)<;>refine xD 2 36 rfl Za ?_<;>refine xD 3 37 rfl (ZP Y5) ?_<;>(refine yD 4 38 rfl (Yz Y4) fun v38 h=>?_;cases h)<;>refine xD 5 39 rfl (Zd 3 WM) ?_<;>(refine yD 6 40 rfl (Zi 3 KC) fun v40 h=>?_;cases h)<;>refine xE 7 41 rfl Za ?_<;>refine xE 8 42 rfl (ZP Y5) ?_<;>(refine yE 9 43 rfl (Yz Y4) fun v43 h=>?_;cases h)<;>(refine Zl 10 kR ?_)<;>(refine Zj rfl fun w9 M9 N9 DQ back=>?_)<;>(refine cS 44 (cA call16 (ih x hxm y (hp x hxm) (hp' y hym))) fun v44 h=>?_;cases h)<;>refine Zh (back _ (nrm ?_))<;>refine xE 11 45 rfl Ym ?_<;>refine Yu kR (nav ?_)<;>try dsimp only)
 refine cX ?_ ?_<;>intro hb45
 · first|exact bN hb45|(
 refine Zf ?_;(refine xL 4 Zb ?_;refine Ze ?_)
 refine Zx (results16) rfl ?_;rw [GF fun h=>?_];injection h with h1 h2 h3;subst h3;rw [hx] at hy
 cases hy;rw [Ww.2 rfl] at hb45
 cases hb45)
 · first |exact bN hb45|(
 refine Zf ?_;(refine xL 32 Za (xL 33 ZO (xL 5 Zb ?_));refine Ze ?_)
 refine Zk (
  ⟨k +1,oM,fun j u v hj hu hv=>by
   by_cases e:j=k
   · subst e;rw [hx] at hu;rw [hy] at hv;cases hu;cases hv;exact Ww.1 (by simpa using hb45)
   · exact hp3 j u v oM hu hv⟩
  ) (by dsimp only;omega) ⟨rfl,rfl,rfl,trivial⟩ ⟨rfl,rfl,trivial⟩))
 · first|exact bN hb31|(
 refine Zf ?_;(refine xL 4 Zb ?_;refine Ze ?_)
 refine Zx (results16) rfl ?_;rw [Ww.2 (ZcI ho ha hll fun j u v hu hv=>hp3 j u v (by have:=Zg hu;omega) hu hv)])))
def nd0:Nd:= .mk 0 ByteArray.empty []
def Ee:PV:= .agg [.val (.int .i64 0), .val (.string ByteArray.empty), .val (.slice none 0 0)]
theorem GG:Rr Ee (pTr nd0):=Rr.agg rfl fun i a b ha hb=>by
 match i with
 |0=>cases ha;cases hb;exact Rr.rfl' _
 |1=>cases ha;cases hb;exact Rr.rfl' _
 |2=>cases ha;cases hb;exact Rr.nil
 |i+3=>simp at ha
theorem Ef {o o':Int} {a a':ByteArray} {l l':List Nd} (h1:o=o') (h2:a=a'):JJ (.mk 0 ByteArray.empty l) (.mk 0 ByteArray.empty l')=JJ (.mk o a l) (.mk o' a' l'):=by
 subst h1 h2
 rw [Vg,Ww,Ww]
 exact ⟨fun h=>by injection h with h1 h2 h3;rw [h3],fun h=>by injection h with h1 h2 h3;rw [h3]⟩
theorem CE (f :Nat) (l m:List Nd) (hl:l.length≤140737488355328) (hm:m.length≤140737488355328) (hc:∀args w,(callFunc f args).run prog w= .ok (.enter f args) w) (hf:∀x∈l,∀y∈m,AF prog f [pTr x,pTr y] (· =ZV (JJ x y))):AF prog 232 [YK l,YK m, .fn f []] (· =ZV (JJ (.mk 0 ByteArray.empty l) (.mk 0 ByteArray.empty m))):=by
 refine AF.of_body 32 func232 rfl ntmps232 (Xa rfl) ?_
 intro w0 M0 vs hl hv
 obtain ⟨v0,v1,v2,rfl⟩:=OM hl
 clear hl hv
 refine Zf ?_
 (refine xL 6 Zb ?_;refine Zn ?_)
 (refine xL 10 Za (xL 11 (Z1 Y5) (xL 12 Za (xL 13 (Z1 Y5) (xL 14 YN ?_))));refine Ze ?_)
 refine cX ?_ ?_<;>intro hb14
 · first|exact bN hb14|(
 refine Zf ?_;(refine xL 6 Zb ?_;refine Ze ?_)
 refine Zx (results232) rfl ?_;rw [GF fun h=>?_];injection h with h1 h2 h3;subst h3;omega)
 · first | exact bN hb14|(
 have hll:l.length=m.length:=oM;refine Zf ?_;(refine xL 15 Za (xL 16 (Z1 Y5) (xL 17 Za ?_));refine Ze ?_)
 refine ZE (ι:={k:Nat//k≤l.length∧∀j x y,j<k→l[j]? =some x→m[j]? =some y→x=y}) (fun k=>⟨[(1,_,_),(2,_,_),(15,_,_),(16,_,_),(17, .int .i64 k.1,Zc k.1)],[]⟩) (fun k=>l.length-k.1) ⟨0,oM,oM⟩ (fun a w H=>H.weaken ⟨rfl,rfl,rfl,rfl,rfl,trivial⟩ trivial) ?_;rintro ⟨k,hk,hp3⟩;dsimp only;refine Zf ?_;(refine xL 18 ZR ?_;refine Ze ?_)
 refine cX ?_ ?_<;>intro hb18
 · first | exact bN hb18|(
 obtain ⟨x,hx⟩:=Zw (show k<l.length by omega);obtain ⟨y,hy⟩:=Zw (show k<m.length by omega);have e1:=Z5 hx;have e2:=Yj hx;have e3:=Z5 hy;have e4:=Yj hy;refine Zf ?_;(refine xL 19 Za (xL 20 (ZP Y5) ?_);refine yL 21 (Yz Y4) fun v21 hv21=>?_;cases hv21;refine ZA [(.int .i64 0),(.string ByteArray.empty),(.slice none 0 0)] 3 8 L4 fun h8=>?_;refine xL 7 Zb ?_;refine Zv 8 Y4 ?_;refine Zn ?_)
 (refine xL 22 Za (xL 23 Za (xL 24 (ZP Y5) ?_));refine yL 25 (Yz Y4) fun v25 hv25=>?_;cases hv25;refine ZA [(.int .i64 0),(.string ByteArray.empty),(.slice none 0 0)] 3 9 L4 fun h9=>?_;refine Zv 9 Y4 ?_;refine Zn ?_)
 (refine xL 26 Za ?_;refine yL 27 (Zq 8 Y4) fun v27 hv27=>?_;cases hv27;refine yL 28 (Zq 9 Y4) fun v28 hv28=>?_;cases hv28;refine cS 29 (Jb (f:=f) (ps:=[]) rfl ⟨_,rfl⟩ hc rfl (hf x (Xd hx) y (Xd hy))) fun v29 hv29=>?_;cases hv29;refine xL 30 Ym ?_;refine Ze ?_)
 refine cX ?_ ?_<;>intro hb30
 · first|exact bN hb30|(
 refine Zf ?_;(refine xL 6 Zb ?_;refine Ze ?_)
 refine Zx (results232) rfl ?_;rw [GF fun h=>?_];injection h with h1 h2 h3;subst h3;rw [hx] at hy
 cases hy;rw [Ww.2 rfl] at hb30
 cases hb30)
 · first |exact bN hb30|(
 refine Zf ?_;(refine xL 31 ZO (xL 17 Za ?_);refine Ze ?_)
 refine Zk (
  ⟨k +1,oM,fun j u v hj hu hv=>by
   by_cases e:j=k
   · subst e;rw [hx] at hu;rw [hy] at hv;cases hu;cases hv;exact Ww.1 (by simpa using hb30)
   · exact hp3 j u v oM hu hv⟩
  ) (by dsimp only;omega) ⟨rfl,rfl,rfl,rfl,rfl,trivial⟩ trivial))
 · first|exact bN hb18|(
 refine Zf ?_;(refine xL 6 Zb ?_;refine Ze ?_)
 refine Zx (results232) rfl ?_;rw [Ww.2 (ZcI rfl rfl hll fun j u v hu hv=>hp3 j u v (by have:=Zg hu;omega) hu hv)]))
theorem ZeX:∀(t u:Nd),FitT t→FitT u→AF prog 211 [pTr t,pTr u] (· =ZV (JJ t u)):=Nd.ind fun o a l ih u hf hg=>by
 obtain ⟨o',a',l'⟩:=u
 have hl:=hf.len
 have hp:=hf.p
 have hl':=hg.len
 have hp':=hg.p
 simp only [Nd.l] at hl hp hl' hp'
 refine AF.of_body 24 func211 rfl ntmps211 (Xa rfl) ?_
 intro w0 M0 vs hl hv
 obtain ⟨v0,v1,rfl⟩:=KG hl
 clear hl hv
 have e0:pTr (.mk o a l)= .agg [Zc o,ZZ a, .sl l.length (Z6 l)]:=rfl
 have e1:pTr (.mk o' a' l')= .agg [Zc o',ZZ a', .sl l'.length (Z6 l')]:=rfl
 rw [e0,e1]
 refine Zf ?_
 (refine Yv 2 3 fun h2=>?_;refine Yv 3 3 fun h3=>?_;refine xL 4 Zb ?_;refine Zn ?_)
 (refine xL 5 (Zd 2 KU) ?_<;>(refine yL 6 (Zi 2 J8) fun v6 h=>?_;cases h)<;>refine xL 7 (Zd 3 KU) ?_<;>(refine yL 8 (Zi 3 J8) fun v8 h=>?_;cases h)<;>refine xL 9 ZQ (xL 10 Za ?_)<;>(refine bLd 10 (fun hb10=>?_) (fun hb10=>?_)<;>(first|refine kL 11 ?_|refine xL 11 (Zd 2 KV) ?_))<;>(first|refine kL 12 ?_|(refine yL 12 (Zi 2 GD) fun v12 h=>?_;cases h))<;>(first|refine kL 13 ?_|refine xL 13 (Zd 3 KV) ?_)<;>(first|refine kL 14 ?_|(refine yL 14 (Zi 3 GD) fun v14 h=>?_;cases h))<;>(first|refine kL 15 ?_|refine xL 15 WY ?_)<;>refine xL 16 Zu (xL 17 Za ?_)<;>(first|refine kL 18 ?_|(refine bL 17 (fun hb17=>?_) (fun hb17=>?_)<;>(first|refine kL 18 ?_|refine xL 18 (Zd 2 WM) ?_)))<;>(first|refine kL 19 ?_|(refine yL 19 (Zi 2 KC) fun v19 h=>?_;cases h))<;>(first|refine kL 20 ?_|refine xL 20 (Zd 3 WM) ?_)<;>(first|refine kL 21 ?_|(refine yL 21 (Zi 3 KC) fun v21 h=>?_;cases h))<;>(first|refine kL 22 ?_|(refine cS 22 (cA call232 (CE 211 l l' hl hl' (call211) (fun x hx y hy=>ih x hx y (hp x hx) (hp' y hy)))) fun v22 h=>?_;cases h))<;>refine xL 23 Zu (xL 4 Zb ?_)<;>refine Ze ?_)<;>(
 refine Zx (results211) rfl ?_
 first
  |(rw [GF fun h=>by injection h with h1 h2 h3;omega];done)
  |(rw [GF fun h=>by injection h with h1 h2 h3;subst h2;simp at hb17];done)
  |(rw [Ef hb10 (Jd.1 hb17)];done))
mutual
def PH:Nd→Int→Int
 | .mk _ a l,d=>if 80<d∨100<(a.size:Int) then 1000 else min (TG l (d+1) 1) 1000
def TG:List Nd→Int→Int→Int
 |[],_,n=>n
 |x::l,d,n=>if n<600 then TG l d (n+PH x d) else n
end
theorem Zbk {l:List Nd} {k:Nat} {x:Nd} (hx:l[k]? =some x) (d n:Int):TG (l.drop k) d n=if n<600 then TG (l.drop (k+1)) d (n+PH x d) else n:=by
 rw [XN (Zg hx),(Xz.1 hx).2,TG]
theorem Zbl {l:List Nd} {d n:Int} (h:¬n<600):TG l d n=n:=by
 cases l with
 |nil=>rw [TG]
 |cons x l=>rw [TG,Uo h]
theorem ζL:∀(l:List Nd) (d n:Int),(∀x∈l,∀d,0≤PH x d∧PH x d≤1000)→0≤n→0≤TG l d n
 |[],d,n,_,h=>by rw [TG];exact h
 | x::l,d,n,hx,h=>by
   rw [TG];split
   · exact ζL l d _ (fun y hy=>hx y (XI _ hy)) (by have:=(hx x (XD ..) d).1;omega)
   · exact h
theorem ZeY:∀(t:Nd) (d:Int),0≤PH t d∧PH t d≤1000:=Nd.ind fun o a l ih d=>by
 rw [PH]
 split
 · omega
 · have:=ζL l (d+1) 1 ih oM;omega
def bst (l:List UInt8):ByteArray:=⟨l.toArray⟩
theorem ZeZ (s:ByteArray):bst s.data.toList=s:=by cases s;simp [bst]
theorem GH (l:List UInt8):(bst l).data.toList=l:=by simp [bst]
theorem YO (l:List UInt8):(bst l).size=l.length:=by simp [bst,ByteArray.size]
theorem G4 (l:List UInt8) (i:Nat):(bst l).data[i]? =l[i]? :=by simp [bst]
theorem Ze0 {l m:List UInt8} (h:bst l=bst m):l=m:=by rw [←GH l,h,GH]
theorem ZcK (l:List UInt8) (n:Nat):(bst l).extract n (bst l).size=bst (l.drop n):=by
 apply ByteArray.ext
 apply Array.toList_inj.1
 rw [ByteArray.data_extract,Array.toList_extract,GH,YO]
 simp only [List.extract,bst]
 exact Xs (by rw [Xw];exact Xb _)
theorem ZcL (l:List UInt8) (n:Nat):(bst l).extract 0 n=bst (l.take n):=by
 apply ByteArray.ext
 apply Array.toList_inj.1
 rw [ByteArray.data_extract,Array.toList_extract,GH]
 simp [List.extract,bst]
structure Tk where
 kind:Int
 text:List UInt8
 n:Int
 ln:Int
 col:Int
def SZ (c:UInt8):Bool:=Ge c.toNat
def OP (c:UInt8):Bool:=KN c.toNat
def KI (c:UInt8):Bool:=decide (48≤c.toNat)&&decide (c.toNat≤57)
def Jz (c:UInt8):Bool:=c.toNat==32||c.toNat==9||c.toNat==10||c.toNat==13
def Yn:Bool→List UInt8→Nat
 |_,[]=>0
 |true,c::m=>1+Yn (c.toNat !=10) m
 |false,c::m=>if Jz c then 1+Yn false m else if c.toNat=35 then 1+Yn true m else 0
theorem Pd:∀(m:List UInt8) (b:Bool),Yn b m≤m.length
 |[],b=>by cases b<;>exact Xb _
 |c::m,true=>by have:=Pd m (c.toNat !=10);rw [Yn,Xc];omega
 | c::m,false=>by
   have h1:=Pd m false;have h2:=Pd m true;rw [Yn,Xc];split
   · omega
   · split<;>omega
theorem T3 {c:UInt8} {m:List UInt8} (h1:Jz c=false) (h2:c.toNat≠35):Yn false (c::m)=0:=by rw [Yn,Uo (by rw [h1];exact XV),Uo h2]
def adv (p:Int×Int) (c:UInt8):Int×Int:=if c.toNat=10 then (p.1+1,1) else (p.1,p.2+1)
def Ys (p:Int×Int) (l:List UInt8):Int×Int:=l.foldl adv p
theorem ZcM (p:Int×Int) (l:List UInt8) (n k:Nat):Ys (Ys p (l.take n)) ((l.drop n).take k)=Ys p (l.take (n+k)):=by
 unfold Ys
 rw [←List.foldl_append,List.take_add]
def DV:List (List UInt8):=[[45,62],[61,62],[60,61],[62,61],[33,61],[61,61],[58,61],[46,46],[40],[41],[91],[93],[123],[125],[44],[59],[58],[46],[124],[38],[33],[63],[43],[45],[42],[47],[61],[60],[62],[64],[37],[94],[126]]
def RS (l:List UInt8):Option (List UInt8):=DV.find? (·.isPrefixOf l)
theorem Zbm {l x:List UInt8} (h:RS l=some x):x∈DV∧x.isPrefixOf l=true:=by
 refine ⟨List.mem_of_find?_eq_some h,?_⟩
 have:=List.find?_some (p:=fun x:List UInt8=>x.isPrefixOf l) h
 exact this
theorem Eg {x:List UInt8} (h:x∈DV):1≤x.length∧x.length≤2:=by
 have:DV.all (fun x=>decide (1≤x.length∧x.length≤2))=true:=dC
 simpa using Xj.1 this x h
inductive Lt where
 |ok (n:Nat) (t:List UInt8)
 |err (e:Int)
def YT:List UInt8→Lt
 |[]=> .err 4
 | c ::m=>if c.toNat=34 then .ok 1 [] else if c.toNat<32∨126<c.toNat then .err 3 else if c.toNat=92 then
    match m with
    |[]=> .err 4
    |d::m2=>if d.toNat=34∨d.toNat=92 then (match YT m2 with| .ok n t=> .ok (n+2) (d::t)| .err e=> .err e) else .err 3
   else match YT m with| .ok n t=> .ok (n+1) (c::t)| .err e=> .err e
theorem GI : ∀(m:List UInt8) {n:Nat} {t:List UInt8},YT m= .ok n t→1≤n∧n≤m.length∧t.length+1≤n
 |[],n,t,h=>by simp [YT] at h
 | [c], n,t,h=>by
   rw [YT.eq_def] at h;simp only at h;split at h
   · cases h;simp
   · split at h
     · cases h
     · split at h
       · cases h
       · simp [YT] at h
 | c :: d :: m,n,t,h=>by
   rw [YT.eq_def] at h;simp only at h;split at h
   · cases h;simp
   · split at h
     · cases h
     · split at h
       · split at h
         · cases h2:YT m with
           |err e=>rw [h2] at h;cases h
           | ok n2 t2=>
             rw [h2] at h;cases h;have:=GI m h2;simp only [Xc];omega
         · cases h
       · cases h2:YT (d::m) with
         |err e=>rw [h2] at h;cases h
         | ok n2 t2=>
           rw [h2] at h;cases h;have:=GI (d::m) h2;simp only [Xc] at this ⊢;omega
def LA (l:List UInt8):Nat:=l.foldl (fun n c=>10*n+(c.toNat-48)) 0
inductive Lx where
 |ok (kind:Int) (text:List UInt8) (n:Int) (len:Nat)
 |err (e:Int)
def Gt:List UInt8→Lx
 |[]=> .ok 5 [] 0 0
 | c ::m=>
   if OP c then (if 40<((c::m).takeWhile SZ).length then .err 5 else .ok 1 ((c::m).takeWhile SZ) 0 ((c::m).takeWhile SZ).length)
   else if KI c then (if ((c::m).dropWhile KI).head?.any (fun d=>OP d||d.toNat==95) then .err 3 else if 4503599627370496<LA ((c::m).takeWhile KI) then .err 6 else .ok 2 [] (LA ((c::m).takeWhile KI)) ((c::m).takeWhile KI).length)
   else if c.toNat=34 then (match YT m with| .err e=> .err e| .ok n t=> .ok 3 t 0 (n+1))
   else match RS (c::m) with
    |some x=> .ok 4 x 0 x.length
    |none=> .err 3
theorem CF {p:UInt8→Bool} {c:UInt8} {m:List UInt8} (h:p c=true):1≤((c::m).takeWhile p).length:=by rw [VF,h];simp
theorem ζM (p:UInt8→Bool) (l:List UInt8):(l.takeWhile p).length≤l.length:=(List.takeWhile_sublist p).length_le
theorem Ze1 {c:UInt8} (h:OP c=true):SZ c=true:=by
 unfold SZ Ge
 unfold OP at h
 rw [h];rfl
structure LexOk (l:List UInt8) (kd:Int) (tx:List UInt8) (n:Int) (len:Nat):Prop where
 le:len≤l.length
 endk:l=[]↔kd=5
 pos:l≠[]→1≤len
 tlen:tx.length≤len
 lo:0≤n
 hi:n≤4503599627370496
theorem Pe {l:List UInt8} {kd:Int} {tx:List UInt8} {n:Int} {len:Nat} (h:Gt l= .ok kd tx n len):LexOk l kd tx n len:=by
 cases l with
 |nil=>cases h;exact ⟨Xb _,⟨fun _=>rfl,fun _=>rfl⟩,fun h=>Uq rfl h,Xb _,oM,oM⟩
 | cons c m =>
   rw [Gt] at h;split at h
   · rename_i hc;have h1:=CF (p:=SZ) (m:=m) (Ze1 hc);have h2:=ζM SZ (c::m);split at h
     · cases h
     · cases h;exact ⟨h2,sM,fun _=>h1,Xb _,oM,oM⟩
   · split at h
     · rename_i hc;have h1:=CF (p:=KI) (m:=m) hc;have h2:=ζM KI (c::m);split at h
       · cases h
       · split at h
         · cases h
         · cases h;exact ⟨h2,sM,fun _=>h1,sM,oM,oM⟩
     · split at h
       · cases h2:YT m with
         |err e=>rw [h2] at h;cases h
         | ok n2 t2=>
           rw [h2] at h;cases h;have:=GI m h2;exact ⟨by rw [Xc];omega,sM,fun _=>oM,oM,oM,oM⟩
       · cases h2:RS (c::m) with
         |none=>rw [h2] at h;cases h
         | some x=>
           rw [h2] at h;cases h;obtain ⟨h3,h4⟩:=Zbm h2;have h5:=Eg h3;exact ⟨(Uj.1 h4).length_le,sM,fun _=>h5.1,Xb _,oM,oM⟩
def Lm:Nat→List UInt8→Int×Int→List Tk→List Tk×(Int×Int)×Int
 |0,_,p,_=>([],p,5)
 | f +1,l,p,out=>
   match Gt (l.drop (Yn false l)) with
   | .err e=>([],Ys p (l.take (Yn false l)),e)
   | .ok kd tx n len=>
     if kd≠5∧out.length=4000 then ([],Ys p (l.take (Yn false l)),5)
     else if kd=5 then (out++[⟨kd,tx,n,(Ys p (l.take (Yn false l))).1,(Ys p (l.take (Yn false l))).2⟩],(0,0),0)
     else Lm f (l.drop (Yn false l+len)) (Ys p (l.take (Yn false l+len))) (out++[⟨kd,tx,n,(Ys p (l.take (Yn false l))).1,(Ys p (l.take (Yn false l))).2⟩])
theorem PI:∀(f g:Nat) (l:List UInt8) (p:Int×Int) (out:List Tk),l.length<f→l.length<g→Lm f l p out=Lm g l p out
 |0,_,_,_,_,h,_=>oM
 |_+1,0,_,_,_,_,h=>oM
 | f + 1, g+1,l,p,out,h1,h2=>by
   rw [Lm,Lm]
   cases h:Gt (l.drop (Yn false l)) with
   |err e=>rfl
   | ok kd tx n len=>
     have hk:=Pe h;simp only;split
     · rfl
     · split
       · rfl
       · rename_i h5;have hne:l.drop (Yn false l)≠[]:=fun e=>h5 (hk.endk.1 e);have h6:=hk.pos hne;have h7:=hk.le;rw [Xw] at h7;exact PI f g _ _ _ (by rw [Xw];omega) (by rw [Xw];omega)
def toksB (l:List UInt8) (p:Int×Int) (out:List Tk):List Tk×(Int×Int)×Int:=Lm (l.length+1) l p out
theorem ZcN (l:List UInt8) (p:Int×Int) (out:List Tk):toksB l p out=match Gt (l.drop (Yn false l)) with
 | .err e=>([],Ys p (l.take (Yn false l)),e)
 | .ok kd tx n len=>
   if kd≠5∧out.length=4000 then ([],Ys p (l.take (Yn false l)),5)
   else if kd=5 then (out++[⟨kd,tx,n,(Ys p (l.take (Yn false l))).1,(Ys p (l.take (Yn false l))).2⟩],(0,0),0)
   else toksB (l.drop (Yn false l+len)) (Ys p (l.take (Yn false l+len))) (out++[⟨kd,tx,n,(Ys p (l.take (Yn false l))).1,(Ys p (l.take (Yn false l))).2⟩]):=by
 rw [toksB,Lm]
 cases h:Gt (l.drop (Yn false l)) with
 |err e=>rfl
 | ok kd tx n len=>
   have hk:=Pe h;simp only;split
   · rfl
   · split
     · rfl
     · rename_i h5;have hne:l.drop (Yn false l)≠[]:=fun e=>h5 (hk.endk.1 e);have h6:=hk.pos hne;have h7:=hk.le;rw [Xw] at h7;exact PI _ _ _ _ _ (by rw [Xw];omega) (by rw [Xw];omega)
def EndL (l:List Tk):Prop:=∃a e,l=a++[e]∧e.kind=5∧∀x∈a,x.kind≠5
theorem EndL.ne {l:List Tk} (h:EndL l):l≠[]:=by obtain ⟨a,e,rfl,_⟩:=h;simp
theorem EndL.tail {t:Tk} {m:List Tk} (h:EndL (t::m)) (ht:t.kind≠5):EndL m:=by
 obtain ⟨a,e,h1,h2,h3⟩:=h
 cases a with
 |nil=>simp at h1;rw [h1.1] at ht;exact Uq h2 ht
 | cons b a=>
   rw [Vm,List.cons.injEq] at h1;exact ⟨a,e,h1.2,h2,fun x hx=>h3 x (XI _ hx)⟩
structure TkOk (t:Tk):Prop where
 text:t.text.length≤16384
 lo:0≤t.n
 hi:t.n≤4503599627370496
theorem Eh : ∀ (f : Nat) (l:List UInt8) (p:Int×Int) (out:List Tk),l.length<f→l.length≤16384→out.length≤4000→(∀x∈out,x.kind≠5∧TkOk x)→(Lm f l p out).2.2=0→EndL (Lm f l p out).1∧(Lm f l p out).1.length≤4001∧∀x∈(Lm f l p out).1,TkOk x
 |0,l,p,out,h,_,_,_=>oM
 | f + 1, l, p, out, hf,hl,ho,hx=>by
   rw [Lm]
   cases h:Gt (l.drop (Yn false l)) with
   | err e =>
     intro he;simp only at he;exfalso;subst he
     cases hd:l.drop (Yn false l) with
     |nil=>rw [hd] at h;cases h
     | cons c m =>
       rw [hd,Gt] at h;have key : ∀ (m :List UInt8) (e:Int),YT m= .err e→e=3∨e=4:=fun m=>by
        have : ∀ (k : Nat) (m:List UInt8),m.length≤k→∀e,YT m= .err e→e=3∨e=4:=fun k=>by
         induction k with
         |zero=>intro m hm e he;obtain rfl:m=[]:=XK oM;simp [YT] at he;omega
         | succ k ih =>
           intro m hm e he
           cases m with
           |nil=>simp [YT] at he;omega
           | cons c m =>
             rw [YT.eq_def] at he;simp only at he;rw [Xc] at hm;split at he
             · cases he
             · split at he
               · cases he;omega
               · split at he
                 · cases m with
                   |nil=>cases he;omega
                   | cons d m2=>
                     rw [Xc] at hm;simp only at he;split at he
                     · cases h2:YT m2 with
                       |err e2=>rw [h2] at he;cases he;exact ih m2 oM _ h2
                       |ok n2 t2=>rw [h2] at he;cases he
                     · cases he;omega
                 · cases h2:YT m with
                   |err e2=>rw [h2] at he;cases he;exact ih m oM _ h2
                   |ok n2 t2=>rw [h2] at he;cases he
        exact this m.length m (Xb _)
       split at h
       · split at h<;>cases h
       · split at h
         · split at h
           · cases h
           · split at h<;>cases h
         · split at h
           · cases h2:YT m with
             |err e=>rw [h2] at h;cases h;have:=key m 0 h2;omega
             |ok n2 t2=>rw [h2] at h;cases h
           · cases h2:RS (c::m) with
             |none=>rw [h2] at h;cases h
             |some x=>rw [h2] at h;cases h
   | ok kd tx n len=>
     have hk:=Pe h;have h7:=hk.le;rw [Xw] at h7;have htk:∀a b:Int,TkOk ⟨kd,tx,n,a,b⟩:=fun a b=>⟨by have:=hk.tlen;show tx.length≤_;omega,hk.lo,hk.hi⟩;simp only;split
     · intro he;cases he
     · rename_i h4;split
       · rename_i h5;intro _;refine ⟨⟨out,_,rfl,h5,fun x hx'=>(hx x hx').1⟩,by rw [Xg];simp;omega,fun x hx'=>?_⟩;rcases XW.1 hx' with h8|h8
         · exact (hx x h8).2
         · rw [Xr] at h8;subst h8;exact htk _ _
       · rename_i h5;have hne:l.drop (Yn false l)≠[]:=fun e=>h5 (hk.endk.1 e);have h6:=hk.pos hne;refine Eh f _ _ _ (by rw [Xw];omega) (by rw [Xw];omega) (by rw [Xg];simp;omega) fun x hx'=>?_;rcases XW.1 hx' with h8|h8
         · exact hx x h8
         · rw [Xr] at h8;subst h8;exact ⟨h5,htk _ _⟩
def tk0:Tk:=⟨0,[],0,0,0⟩
def Km (m:List Tk) (s:List UInt8):Bool:=match m with
 |[]=>false
 |t::_=>decide (t.kind=4)&&t.text==s
def RU (s:List UInt8):Int:=if s=[115,101,113] then 3 else if s=[120,111,114] then 4 else if s=[97,110,100] then 5 else if s=[108,111,111,112] then 6 else 0
inductive Rd where
 |ok (t:Nd) (m:List Tk)
 |err (t:Tk)
mutual
def rdT:Nat→List Tk→Rd
 |0,_=> .err tk0
 | f +1,m=>match m with
   |[]=> .err tk0
   | t::m1=>if Km (t::m1) [40] then (if Km m1 [41] then .ok TB m1.tail else .err (m1.headD tk0))
     else if t.kind≠1 then .err t
     else if RU t.text=0 then (if Km m1 [40] then .err (m1.headD tk0) else .ok (.mk 1 (bst t.text) []) m1)
     else if Km m1 [40] then (match rdT f m1.tail with| .err e=> .err e| .ok x m2=>rdL f (RU t.text) [x] m2)
     else .ok (.mk 1 (bst t.text) []) m1
def rdL:Nat→Int→List Nd→List Tk→Rd
 |0,_,_,_=> .err tk0
 | f +1,op,l,m=>if (op=6∧l.length<2)∨(op≠6∧Km m [44]=true) then
    (if Km m [44] then (match rdT f m.tail with| .err e=> .err e| .ok x m2=>rdL f op (l++[x]) m2) else .err (m.headD tk0))
   else if Km m [41] then .ok (.mk op ByteArray.empty l) m.tail else .err (m.headD tk0)
end
theorem Ke {m:List Tk} {s:List UInt8} (h:Km m s=true):∃t m1,m=t::m1∧t.kind=4∧t.text=s:=by
 cases m with
 |nil=>cases h
 | cons t m1=>
   unfold Km at h;simp only [Xf,Ul,beq_iff_eq] at h;exact ⟨t,m1,rfl,h.1,h.2⟩
structure RdOk (m:List Tk) (t:Nd) (m2:List Tk):Prop where
 lt:m2.length<m.length
 suf:m2<:+m
 endl:EndL m2
theorem Dd : ∀ (f :Nat),(∀(m:List Tk) t m2,EndL m→rdT f m= .ok t m2→RdOk m t m2)∧(∀op l (m:List Tk) t m2,EndL m→rdL f op l m= .ok t m2→RdOk m t m2)
 |0=>⟨fun _ _ _ _ h=>by simp [rdT] at h,fun _ _ _ _ _ _ h=>by simp [rdL] at h⟩
 | f + 1 => by
   obtain ⟨ih1,ih2⟩:=Dd f;refine ⟨fun m t m2 he h=>?_,fun op l m t m2 he h=>?_⟩
   · cases m with
     |nil=>exact Uq rfl he.ne
     | cons t0 m1 =>
       rw [rdT] at h;split at h
       · rename_i h40;obtain ⟨t',m',hcons,hk,_⟩:=Ke h40
         cases hcons;have he1:=he.tail oM;split at h
         · rename_i h41;obtain ⟨t',m',hcons,hk,_⟩:=Ke h41;subst hcons
           cases h;exact ⟨by simp only [Xc,Vo];omega,⟨[t0,t'],rfl⟩,he1.tail oM⟩
         · cases h
       · split at h
         · cases h
         · rename_i hk1;(have hk1:t0.kind=1:=by simpa using hk1);have he1:=he.tail oM;split at h
           · split at h
             · cases h
             · cases h;exact ⟨sM,⟨[t0],rfl⟩,he1⟩
           · split at h
             · rename_i h40;obtain ⟨t',m',hcons,hk,_⟩:=Ke h40;subst hcons;have he2:=he1.tail oM
               cases h2:rdT f m' with
               |err e=>simp only [Vo,h2] at h;cases h
               | ok x m3=>
                 simp only [Vo,h2] at h;have r1:=ih1 _ _ _ he2 h2;have r2:=ih2 _ _ _ _ _ r1.endl h;refine ⟨?_,r2.suf.trans (r1.suf.trans ⟨[t0,t'],rfl⟩),r2.endl⟩;have:=r1.lt;have:=r2.lt;simp only [Xc];omega
             · cases h;exact ⟨sM,⟨[t0],rfl⟩,he1⟩
   · rw [rdL] at h;split at h
     · split at h
       · rename_i h44;obtain ⟨t',m',hcons,hk,_⟩:=Ke h44;subst hcons;have he2:=he.tail oM
         cases h2:rdT f m' with
         |err e=>simp only [Vo,h2] at h;cases h
         | ok x m3=>
           simp only [Vo,h2] at h;have r1:=ih1 _ _ _ he2 h2;have r2:=ih2 _ _ _ _ _ r1.endl h;refine ⟨?_,r2.suf.trans (r1.suf.trans ⟨[t'],rfl⟩),r2.endl⟩;have:=r1.lt;have:=r2.lt;simp only [Xc];omega
       · cases h
     · split at h
       · rename_i h41;obtain ⟨t',m',hcons,hk,_⟩:=Ke h41;subst hcons
         cases h;exact ⟨sM,⟨[t'],rfl⟩,he.tail oM⟩
       · cases h
theorem ζN (s:List UInt8):0≤RU s∧RU s≤6:=by
 unfold RU
 split
 · omega
 · split
   · omega
   · split
     · omega
     · split<;>omega
theorem ζO {t:Tk} (h:t.text.length≤16384):FitT (.mk 1 (bst t.text) []):= .mk _ (Xh _) (by show (bst t.text).size≤_;rw [YO];omega) (show (-9223372036854775808:Int)≤1 by decide) (show (1:Int)≤9223372036854775807 by decide) (fun x hx=>by cases hx)
theorem Ze2:FitT TB:= .mk _ (Xh _) (Xh _) dC dC (fun x hx=>by cases hx)
theorem ZcO : ∀ (f:Nat),(∀(m:List Tk) t m2,EndL m→(∀x∈m,x.text.length≤16384)→m.length≤10000→rdT f m= .ok t m2→FitT t)∧(∀op l (m:List Tk) t m2,EndL m→(∀x∈m,x.text.length≤16384)→0≤op→op≤6→(∀x∈l,FitT x)→l.length+m.length≤10000→rdL f op l m= .ok t m2→FitT t)
 |0=>⟨fun _ _ _ _ _ _ h=>by simp [rdT] at h,fun _ _ _ _ _ _ _ _ _ _ _ h=>by simp [rdL] at h⟩
 | f + 1 => by
   obtain ⟨ih1,ih2⟩:=ZcO f;refine ⟨fun m t m2 he hx hl h=>?_,fun op l m t m2 he hx ho1 ho2 hll hl h=>?_⟩
   · cases m with
     |nil=>exact Uq rfl he.ne
     | cons t0 m1 =>
       have hx0:=hx t0 (XD ..);have hob:=ζN t0.text;rw [rdT] at h;split at h
       · split at h
         · cases h;exact Ze2
         · cases h
       · split at h
         · cases h
         · rename_i hk1;(have hk1:t0.kind=1:=by simpa using hk1);have he1:=he.tail oM;split at h
           · split at h
             · cases h
             · cases h;exact ζO hx0
           · split at h
             · rename_i h40;obtain ⟨t',m',hcons,hk,_⟩:=Ke h40;subst hcons;have he2:=he1.tail oM;have hx2:∀x∈m',x.text.length≤16384:=fun x hx'=>hx x (XI _ (XI _ hx'));simp only [Xc] at hl
               cases h2:rdT f m' with
               |err e=>simp only [Vo,h2] at h;cases h
               | ok x m3=>
                 simp only [Vo,h2] at h;have r1:=(Dd f).1 _ _ _ he2 h2;have r2:=ih1 _ _ _ he2 hx2 oM h2;have:=r1.lt;exact ih2 _ _ _ _ _ r1.endl (fun x hx'=>hx2 x (r1.suf.subset hx')) oM oM (fun y hy=>by rw [Xr] at hy;subst hy;exact r2) (by simp only [Xc,Xk];omega) h
             · cases h;exact ζO hx0
   · rw [rdL] at h;split at h
     · split at h
       · rename_i h44;obtain ⟨t',m',hcons,hk,_⟩:=Ke h44;subst hcons;have he2:=he.tail oM;have hx2:∀x∈m',x.text.length≤16384:=fun x hx'=>hx x (XI _ hx');simp only [Xc] at hl
         cases h2:rdT f m' with
         |err e=>simp only [Vo,h2] at h;cases h
         | ok x m3=>
           simp only [Vo,h2] at h;have r1:=(Dd f).1 _ _ _ he2 h2;have r2:=ih1 _ _ _ he2 hx2 oM h2;have:=r1.lt;exact ih2 _ _ _ _ _ r1.endl (fun x hx'=>hx2 x (r1.suf.subset hx')) ho1 ho2 (fun y hy=>by
            rcases XW.1 hy with h8|h8
            · exact hll y h8
            · rw [Xr] at h8;subst h8;exact r2) (by simp only [Xg,Xc,Xk];omega) h
       · cases h
     · split at h
       · cases h;exact .mk _ (by show l.length≤_;omega) (Xh _) (by show _≤op;omega) (by show op≤_;omega) hll
       · cases h
def K5 (s:List UInt8):Nd×(Int×Int)×Int:=
 if 16384<s.length then (nd0,(0,0),5)
 else if (toksB s (1,1) []).2.2≠0 then (nd0,(toksB s (1,1) []).2)
 else match rdT ((toksB s (1,1) []).1.length+1) (toksB s (1,1) []).1 with
  | .err t=>(nd0,(t.ln,t.col),if t.kind=5 then 4 else 3)
  | .ok t m=>if (m.headD tk0).kind≠5 then (nd0,((m.headD tk0).ln,(m.headD tk0).col),3) else if Jf t then (t,(0,0),0) else (nd0,(0,0),5)
end Go.Proofs.YtpiemogpblmiiaaGreatDoor
namespace Go.En
open Go.RowKit Go.Cb
set_option linter.all false
section
variable {P:Program} {st:St} {o:Oper}
end
section
variable {P:Program} {st:St} {o:Oper} {x y:Operand} {q q':PV} {t t':TypeId}
end
section
variable {P:Program} {st:St} {o:Oper}
theorem G5 {x y:Operand} {q q':PV} {t t':TypeId} {k:IntKind} {a:Int} (ho:o.op= .binOp .eql t x y t':=by exact rfl) (hx:ev st.slots x=some (.int k a,q):=by exact rfl) (hy:ev st.slots y=some (.int k a,q'):=by exact rfl):YE P st o (· = .bool true) (.val (.bool true)):=by
 have h:=ZQ (P:=P) ho hx hy
 rwa [Um rfl] at h
end
theorem Ze3 {P:Program} {g:Nat} (hg:P.globalNamed "internal/strconv.uint64pow10"=some g) (ht:ZhU=some g) {w:World} (h:Lib.TabIs P w "internal/strconv.uint64pow10" .u64 Lib.pow10Tab):TabW w (fun _=>False) (fun _=>False):=fun g' hg'=>by
 obtain rfl:g=g':=Option.some.inj (ht.symm.trans hg')
 unfold Lib.TabIs World.var? at h
 rw [hg,Option.bind_some] at h
 split at h
 · rename_i cs ty at' hc
   cases h;exact ⟨⟨ty,at',hc⟩,fun h=>h,fun h=>h⟩
 · cases h
def Tq (b:UInt8):PV:= .val (.int .u8 (b.toNat:Nat))
theorem ZcP {M:BS} {w:World} {bs:List UInt8} {xs:List Value} {Fs:Nat→BS} (hlen:(bs.map Tq).length=xs.length) (hT:∀(i:Nat) (x:Value) (p:PV),xs[i]? =some x→(bs.map Tq)[i]? =some p→Tr M w x p (Fs i)):xs=Lib.byteCells bs:=by
 apply VN
 intro j
 unfold Lib.byteCells
 rw [Xo]
 cases hj:bs[j]? with
 | none=>
   have:=Uk.1 hj;rw [Xe] at hlen;exact Vn oM
 | some b=>
   have hp:(bs.map Tq)[j]? =some (Tq b):=by rw [Xo,hj];rfl
   obtain ⟨v,hv⟩:=YJ hp hlen;rw [hv];have:=((hT j v _ hv hp).sh rfl).vOf;exact congrArg some this
section
variable {P:Program} {c:Ctx} {ops:Array Oper} {Q:Exit→Act→World→Prop} {rest:List Oper} {sL hP:List (Nat×Ent)} {o:Oper}
end
section
variable {P:Program} {ops:Array Oper} {Q:Exit→Act→World→Prop} {md:Region.Mode} {C:World→Prop} {Z:Nat→Bool}
def LB (md:Region.Mode) (ops:Array Oper):Nat→Nat→Nat→Bool
 |0,_,_=>false
 | n+1,z,i=>match ops[z]? with
   |some oz=>oz.after.any fun e=>Region.binds md e&&(e.on==i||LB md ops n e.on i)
   |none=>false
def Jt (md:Region.Mode) (ops:Array Oper) (Z:Nat→Bool) (i:Nat):Bool:=(List.range ops.size).all fun z=> !Z z||LB md ops ops.size z i
def JL (md:Region.Mode) (ops:Array Oper) (listed:Array Bool):Bool:=(List.range ops.size).all fun k=> !(listed.getD k false)||(match ops[k]? with
 |some o=>o.after.all fun e=> !Region.binds md e||listed.getD e.on false
 |none=>true)
def ClosedL (md:Region.Mode) (ops:Array Oper) (listed:Array Bool):Prop:=∀(k:Nat) (o:Oper),ops[k]? =some o→listed.getD k false=true→∀e∈o.after,Region.binds md e=true→listed.getD e.on false=true
theorem T4 {listed:Array Bool} (h:JL md ops listed=true):ClosedL md ops listed:=fun k o ho hk e he hb=>by
 have hks:k<ops.size:=by
  rcases Xm k ops.size with h'|h'
  · exact h'
  · rw [XX h'] at ho;cases ho
 have:=Xj.1 h k (Vf.2 hks)
 rw [hk,ho] at this
 simp only [Vv,Bool.false_or] at this
 have:=(Array.all_eq_true'.1 this) e he
 rw [hb] at this
 simpa using this
theorem ClosedL.reach {listed:Array Bool} (h:ClosedL md ops listed) {i:Nat}:∀(n z:Nat),listed.getD z false=true→LB md ops n z i=true→listed.getD i false=true
 |0,_,_,hr=>by simp [LB] at hr
 | n +1,z,hz,hr=>by
   rw [LB] at hr;split at hr
   · rename_i oz ho;obtain ⟨e,he,hb⟩:=Array.any_eq_true'.1 hr;simp only [Xf,XO,beq_iff_eq] at hb;have h1:=h z oz ho hz e he hb.1;rcases hb.2 with h2|h2
     · rw [←h2];exact h1
     · exact ClosedL.reach h n e.on h1 h2
   · cases hr
theorem ClosedL.ready {listed:Array Bool} (h:ClosedL md ops listed) {i j n:Nat} (hj:j∈Region.ready md ops listed) (hr:LB md ops n j i=true):listed.getD i false=true:=by
 obtain ⟨_,oj,hoj,hall⟩:=mem_ready.1 hj
 cases n with
 |zero=>simp [LB] at hr
 | succ n=>
   rw [LB,hoj] at hr;obtain ⟨e,he,hb⟩:=Array.any_eq_true'.1 hr;simp only [Xf,XO,beq_iff_eq] at hb;have h1:=hall e he hb.1;rcases hb.2 with h2|h2
   · rw [←h2];exact h1
   · exact h.reach n e.on h1 h2
theorem ClosedL.set {listed:Array Bool} (h:ClosedL md ops listed) {j:Nat} (hj:j∈Region.ready md ops listed):ClosedL md ops (listed.setIfInBounds j true):=fun k o ho hk e he hb=>by
 obtain ⟨_,oj,hoj,hall⟩:=mem_ready.1 hj
 by_cases hkj:k=j
 · subst hkj;rw [hoj] at ho;cases ho;exact getD_set_true (hall e he hb)
 · rw [getD_set_ne false (Ne.symm hkj)] at hk;exact getD_set_true (h k o ho hk e he hb)
theorem OQ {i:Nat} {oi:Oper} {v:Value} (hi:ops[i]? =some oi) (hz:Jt md ops Z i=true)
 (hsel:∀(j:Nat) (o:Oper) cs b,ops[j]? =some o→o.op≠ .select cs b):
 ∀ (fuel:Nat) (listed:Array Bool) (a:Act) (w:World),ClosedL md ops listed→
  (∀j oj,ops[j]? =some oj→j≠i→listed.getD j true=false→(∀e∈oj.after,Region.binds md e=true→e.on≠i)→oi.apart ops oj=true)→
  i∈Region.ready md ops listed→YieldsC P ops C oi v a→C w→
  KH P md ops Q C Z fuel (listed.setIfInBounds i true) (a.put oi.dst v) w→KH P md ops Q C Z (fuel+1) listed a w:=by
 intro fuel
 induction fuel with
 | zero=>
   intro listed a w _ _ hr hy hC H;refine ⟨fun h=>(by rw [h] at hr;cases hr),fun j hj=>?_⟩;by_cases hji:j=i
   · subst hji;exact YieldsIf.wpOp hi hy.ifS hC ⟨.inr hC,H⟩
   · have:=ready_mono hj hji;rw [H.1] at this
     cases this
 | succ fuel ih=>
   intro listed a w hcl hfree hr hy hC H;refine ⟨fun h=>(by rw [h] at hr;cases hr),fun j hj=>?_⟩;by_cases hji:j=i
   · subst hji;exact YieldsIf.wpOp hi hy.ifS hC ⟨.inr hC,H⟩
   · have h1:=H.2 j (ready_mono hj hji);obtain ⟨hjun,oj,hoj,hall⟩:=mem_ready.1 hj;have hnot:∀e∈oj.after,Region.binds md e=true→e.on≠i:=fun e he hb heq=>by
      have h1:=hall e he hb;have h0:=(mem_ready.1 hr).1;rw [heq] at h1;rcases Xm i listed.size with h'|h'
      · simp [h'] at h0 h1;rw [h0] at h1;cases h1
      · simp [XX h'] at h1
     have hjz:Z j=false:=by
      cases hZ:Z j
      · rfl
      · exfalso;have hjs:j<ops.size:=by
         rcases Xm j ops.size with h'|h'
         · exact h'
         · rw [XX h'] at hoj;cases hoj
        have:=Xj.1 hz j (Vf.2 hjs);rw [hZ] at this;simp only [Vv,Bool.false_or] at this;have h0:=(mem_ready.1 hr).1;have h1:=hcl.ready hj this;rcases Xm i listed.size with h'|h'
        · simp [h'] at h0 h1;rw [h0] at h1;cases h1
        · simp [XX h'] at h1
     have h2:=wpOp_putIf hoj (hfree j oj hoj hji hjun hnot) (fun cs b=>hsel i oi cs b hi) (fun cs b=>hsel j oj cs b hoj) (fun c a w h=>h) hy.ifS h1;have hfree':∀k ok,ops[k]? =some ok→k≠i→(listed.setIfInBounds j true).getD k true=false→
      (∀e∈ok.after,Region.binds md e=true→e.on≠i)→oi.apart ops ok=true:=fun k ok hk hki hun hno=>by
      refine hfree k ok hk hki ?_ hno;by_cases hjk:j=k
      · subst hjk;exact hjun
      · rw [getD_set_ne true hjk] at hun;exact hun
     refine wpOp_mono (fun a' w' h3=>?_) h2;obtain ⟨hy',hor,hK⟩:=h3;have hC':C w':=by
      rcases hor with h|h
      · rw [hjz] at h;cases h
      · exact h
     refine ⟨.inr hC',ih (listed.setIfInBounds j true) a' w' (hcl.set hj) hfree' (ready_mono hr (Ne.symm hji)) hy' hC' ?_⟩;rw [Uh _ _ hji];exact hK
end
section
variable {P:Program} {c:Ctx} {ops:Array Oper} {Q:Exit→Act→World→Prop} {Z:Nat→Bool} {K:List Nat} {fuel:Nat} {listed:Array Bool} {sL hP:List (Nat×Ent)} {o:Oper}
theorem Zgw {V:Value→Prop} {p:PV} (i d:Nat) (ho:ops[i]? =some o) (hck:(Region.noSelect ops&&(Region.ready .any ops listed).contains i&&Region.free .any ops listed i&&Jt .any ops Z i&&JL .any ops listed)=true) (hw:Z7 ops sL o=some true) (hd:o.dst=some d) (hn:d<c.nt) (hy:YE P ⟨sL,YM K hP⟩ o V p)
 (k:∀v,V v→aD P c ops Q Z K fuel (listed.setIfInBounds i true) ⟨put d (v,p) sL,hP⟩):aD P c ops Q Z K (fuel+1) listed (⟨sL,hP⟩:St):=fun a w F H C hC=>by
 simp only [Xf] at hck
 obtain ⟨⟨⟨⟨hs,hr⟩,hf⟩,hz⟩,hcl⟩:=hck
 obtain ⟨v,hV,hS,hrun⟩:=hy _ F a w (H.rdK K)
 refine JK hC _ _ _ _ ?_
 refine OQ ho hz (Region.noSelect_spec hs) _ listed a w (T4 hcl) (Region.free_spec ho hf) (by simpa using hr) (v:=v) (.inl ⟨Kw H.rd hw,fun W hW=>?_⟩) (Chg.rfl' _ _) ?_
 · exact hrun _ W hW (fun b ⟨l,x,_,h1,h2⟩=> .inr ⟨l,x,h1,h2⟩) (fun l x b hl hFb ⟨l',x',h1,h2,h3⟩=>by
    obtain ⟨h4,h5⟩:=J4.1 hl;exact H.dj l l' _ _ b (fun e=>by rw [e,h1] at h4;cases h4) h5 h2 hFb h3)
 · rw [hd];exact k v hV _ w F (H.put hn hS) _ (fun W h=>h)
theorem Zie {v:Value} {p:PV} (i d:Nat) (ho:ops[i]? =some o) (hck:(Region.noSelect ops&&(Region.ready .any ops listed).contains i&&Region.free .any ops listed i&&Jt .any ops Z i&&JL .any ops listed)=true) (hw:Z7 ops sL o=some true) (hd:o.dst=some d) (hn:d<c.nt) (hy:YE P ⟨sL,YM K hP⟩ o (· =v) p)
 (k:aD P c ops Q Z K fuel (listed.setIfInBounds i true) ⟨put d (v,p) sL,hP⟩):aD P c ops Q Z K (fuel+1) listed (⟨sL,hP⟩:St):=Zgw i d ho hck hw hd hn hy fun u hu=>by cases hu;exact k
theorem xDT {v:Value} {p:PV} (i:Nat) (d:Nat) (ho:ops[i]? =some o) (hy:YE P ⟨sL,YM K hP⟩ o (· =v) p) (k:aD P c ops Q Z K fuel (listed.setIfInBounds i true) ⟨put d (v,p) sL,hP⟩) (hck:(Region.noSelect ops&&(Region.ready .any ops listed).contains i&&Region.free .any ops listed i&&Jt .any ops Z i&&JL .any ops listed)=true:=by kernel_rfl) (hw:Z7 ops sL o=some true:=by exact rfl) (hd:o.dst=some d:=by exact rfl) (hn:d<c.nt:=by exact Xa rfl):aD P c ops Q Z K (fuel+1) listed (⟨sL,hP⟩:St):=
 Zie i d ho hck hw hd hn hy k
theorem yDT {V:Value→Prop} {p:PV} (i:Nat) (d:Nat) (ho:ops[i]? =some o) (hy:YE P ⟨sL,YM K hP⟩ o V p) (k:∀v,V v→aD P c ops Q Z K fuel (listed.setIfInBounds i true) ⟨put d (v,p) sL,hP⟩) (hck:(Region.noSelect ops&&(Region.ready .any ops listed).contains i&&Region.free .any ops listed i&&Jt .any ops Z i&&JL .any ops listed)=true:=by kernel_rfl) (hw:Z7 ops sL o=some true:=by exact rfl) (hd:o.dst=some d:=by exact rfl) (hn:d<c.nt:=by exact Xa rfl):aD P c ops Q Z K (fuel+1) listed (⟨sL,hP⟩:St):=
 Zgw i d ho hck hw hd hn hy k
end
def aDZ (P:Program) (c:Ctx) (ops:Array Oper) (Q:Exit→Act→World→Prop) (Z:Nat→Bool) (fuel:Nat) (listed:Array Bool) (st:St):Prop:=
 ∀a w F,HoldsF c st F a w→∀C:World→Prop,KH P .any ops Q C Z fuel listed a w
section
variable {P:Program} {c:Ctx} {ops:Array Oper} {Q:Exit→Act→World→Prop} {Z:Nat→Bool} {K:List Nat} {fuel:Nat} {listed:Array Bool} {sL hP:List (Nat×Ent)} {o:Oper}
theorem K6 {i:Nat} (ho:ops[i]? =some o) (hZ:Z i=true) (h:∀DQ:Exit→Act→World→Prop,(∀st':St,aDZ P c ops Q Z fuel (listed.setIfInBounds i true) st'→aN c DQ st')→aL P c ops DQ [o] (⟨sL,hP⟩:St)):aW P c ops Q Z K fuel listed (⟨sL,hP⟩:St) i:=fun a w F H C hC=>by
 refine KY (Q':=fun _ a' w'=>(Z i=true∨C w')∧KH P .any ops Q C Z fuel (listed.setIfInBounds i true) a' w') ho (fun a' w' hq=>hq) ?_
 exact h _ (fun st' hN a' w' ⟨F',H'⟩=>⟨.inl hZ,hN a' w' F' H' C⟩) a w ⟨F,H⟩
theorem KO (i:Nat) (hr:Region.ready .any ops listed=[i]) (ho:ops[i]? =some o) (hZ:Z i=true) (h:∀DQ:Exit→Act→World→Prop,(∀st':St,aDZ P c ops Q Z fuel (listed.setIfInBounds i true) st'→aN c DQ st')→aL P c ops DQ [o] (⟨sL,hP⟩:St)):aDZ P c ops Q Z (fuel+1) listed (⟨sL,hP⟩:St):=fun a w F H C=>
 ⟨(fun hn=>by rw [hr] at hn;cases hn),fun j hj=>by
   rw [hr] at hj;obtain rfl:j=i:=by simpa using hj
   refine KY (Q':=fun _ a' w'=>(Z j=true∨C w')∧KH P .any ops Q C Z fuel (listed.setIfInBounds j true) a' w') ho (fun a' w' hq=>hq) ?_;exact h _ (fun st' hN a' w' ⟨F',H'⟩=>⟨.inl hZ,hN a' w' F' H' C⟩) a w ⟨F,H⟩⟩
theorem JM (hr:Region.ready .any ops listed=[]) (h:aN c Q (⟨sL,hP⟩:St)):aDZ P c ops Q Z fuel listed (⟨sL,hP⟩:St):=fun a w F H C=>by
 cases fuel with
 |zero=>exact ⟨hr,h a w ⟨F,H⟩⟩
 |succ n=>exact ⟨fun _=>h a w ⟨F,H⟩,fun i hi=>by rw [hr] at hi;cases hi⟩
end
section
variable {P:Program} {st:St} {o:Oper} {x y:Operand} {q q':PV} {t t':TypeId}
end
section
variable {P:Program} {c:Ctx} {sL hP:List (Nat×Ent)}
end
section
variable {P:Program} {c:Ctx} {ops:Array Oper} {Q:Exit→Act→World→Prop} {Z:Nat→Bool} {K:List Nat} {fuel:Nat} {listed:Array Bool} {sL hP:List (Nat×Ent)} {o:Oper}
end
end Go.En
