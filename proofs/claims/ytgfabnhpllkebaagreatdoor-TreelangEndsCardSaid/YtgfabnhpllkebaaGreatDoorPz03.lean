/-
  Walks of functions and plain laws of the chapter, as the claim needs them.
-/
import Derived.Shelf.SlSortCmp.InsertionK
import Derived.Shelf.SlSortCmp.Kit1
import Derived.Maps.RangeRun
import Derived.DeepKeys3
import Derived.Lib.SliceRun
import Derived.Laws.StructEq
import Derived.Lib.Bytealg
import Derived.Lib.AppendIntMem
import Derived.Lib.OthersKept
import Derived.Laws.BytesArg
import Derived.Test.YtgfabnhpllkebaaGreatDoorPz02
import Derived.Test.YtgfabnhpllkebaaGreatDoorPz01
namespace Go.Proofs.YtgfabnhpllkebaaGreatDoor
open Go.RowKit Go.Cb Go.En Tryz
set_option linter.all false
set_option maxRecDepth 100000
theorem Km:AggT prog 24 3=true:=by kernel_rfl
theorem PY:FldT prog 24 0 0=true:=by kernel_rfl
theorem Yp:FldT prog 24 1 1=true:=by kernel_rfl
theorem YY:FldT prog 24 2 2=true:=by kernel_rfl
theorem WA:NoAgg prog 22=true:=by kernel_rfl
theorem Zaf:NoAgg prog 3=true:=by kernel_rfl
theorem We:NoAgg prog 9=true:=by kernel_rfl
theorem Wo:SlT prog 22 24 3=true:=by kernel_rfl
theorem ZeK:ZeroT prog 24 (.agg #[(.int .i64 0),(.string ByteArray.empty),(.slice none 0 0)]):=by unfold ZeroT;kernel_rfl
mutual
def cTr:Nd→List PV
 | .mk o a l=>[pInt o,Z' a, .sl l.length (K0 l)]
def K0:List Nd→List PV
 |[]=>[]
 |x::l=>cTr x++K0 l
end
def Wb (l:List Nd):PV:= .sl l.length (K0 l)
def cN (t:Nd):List PV:=[pInt t.op,Z' t.act,Wb t.l]
def pTr (t:Nd):PV:= .agg (cN t)
theorem CV (t:Nd):(cN t).length=3:=rfl
theorem S7 (l:List Nd):K0 l=l.flatMap cN:=by
 induction l with
 |nil=>rfl
 | cons x l ih=>
   rw [K0,ih,Xu];congr 1
   cases x;rfl
theorem Wh {l:List Nd} {k:Nat} {x:Nd} (h:l[k]? =some x):((K0 l).drop (k*3)).take 3=cN x:=by rw [S7];exact Yc CV l k x h
theorem W0 {l:List Nd} {k:Nat} {x:Nd} (h:l[k]? =some x):k*3+3≤(K0 l).length:=by rw [S7];exact Yz CV h
inductive FitT:Nd→Prop
 |mk (t:Nd) (h1:t.l.length≤140737488355328) (h2:t.act.size≤140737488355328) (h3: -9223372036854775808≤t.op) (h4:t.op≤9223372036854775807) (h:∀x∈t.l,FitT x):FitT t
theorem FitT.len {t:Nd}:FitT t→t.l.length≤140737488355328
 | .mk _ h _ _ _ _=>h
theorem FitT.sz {t:Nd}:FitT t→t.act.size≤140737488355328
 | .mk _ _ h _ _ _=>h
theorem FitT.p {t:Nd}:FitT t→∀x∈t.l,FitT x
 | .mk _ _ _ _ _ h=>h
theorem CW (a:ByteArray):(a.toList==ByteArray.toList {data:= #[]})=decide (a=ByteArray.empty):=by
 rw [VY,UP]
 exact Ek (a:=a) (b:=ByteArray.empty)
section
variable {o:Int} {a:ByteArray} {l:List Nd}
theorem La:rightT (.mk o a l)=if o=1 then l.isEmpty&&KC a else if o=2 then l.isEmpty&&decide (a=ByteArray.empty) else if o=3∨o=4∨o=5 then !l.isEmpty&&decide (a=ByteArray.empty)
 else if o=6 then decide (l.length=2)&&decide (a=ByteArray.empty) else false:=rfl
theorem Zgy (h:o=1):rightT (.mk o a l)=(decide ((l.length:Int)=0)&&KC a):=by
 rw [La,UT h]
 congr 1
 cases l<;>simp<;>omega
theorem Zgz (h:o=2):rightT (.mk o a l)=(decide ((l.length:Int)=0)&&(a.toList==ByteArray.toList {data:= #[]})):=by
 rw [La,CW,US oM,UT h]
 congr 1
 cases l<;>simp<;>omega
theorem RZ (h:o=3∨o=4∨o=5):rightT (.mk o a l)=(decide (1≤(l.length:Int))&&(a.toList==ByteArray.toList {data:= #[]})):=by
 rw [La,CW,US oM,US oM,UT h]
 congr 1
 cases l<;>simp<;>omega
theorem R1 (h:o=6):rightT (.mk o a l)=(decide ((l.length:Int)=2)&&(a.toList==ByteArray.toList {data:= #[]})):=by
 rw [La,CW,US oM,US oM,US oM,UT h]
 congr 1
 rw [VY,UP,UP];omega
theorem R2 (h1:o≠1) (h2:o≠2) (h3:o≠3) (h4:o≠4) (h5:o≠5) (h6:o≠6):rightT (.mk o a l)=false:=by
 rw [La,US h1,US h2,US oM,US h6]
end
theorem JH {a b:Bool} (h:a=true):ZM b=ZM (a&&b):=by rw [h];rfl
theorem GJ {a b:Bool} (h:a=false):ZM false=ZM (a&&b):=by rw [h];rfl
theorem KT {a b:Bool} (h:a=true):ZM b=ZM (b&&a):=by rw [h,XE]
theorem JI {a b:Bool} (h:a=false):ZM false=ZM (b&&a):=by rw [h,Bool.and_false]
theorem ZgA (t : Nd) (hf:FitT t):AF prog 117 [pTr t] (· =ZM (rightT t)):=by
 obtain ⟨o,a,l⟩:=t
 have hl:=hf.len
 have ha:=hf.sz
 simp only [Nd.l,Nd.act] at hl ha
 refine AF.of_body 47 func117 rfl ntmps117 (Xa rfl) ?_
 intro w0 M0 vs hl hv
 obtain ⟨v0,rfl⟩:=WL hl
 clear hl hv
 have e0:pTr (.mk o a l)= .agg [pInt o,Z' a, .sl l.length (K0 l)]:=rfl
 rw [e0]
 refine Ze ?_
 (refine ZG 1 3 fun h1=>?_<;>refine xL 2 Za ?_<;>refine Zg ?_)
 (refine xL 4 (Zd 1 YY) ?_<;>(refine yL 5 (Zk 1 WA) fun v5 h=>?_;cases h)<;>refine xL 6 (ZR Wo) (xL 3 Za ?_)<;>refine Zg ?_)
 (refine xL 7 (Zd 1 PY) ?_<;>(refine yL 8 (Zk 1 Zaf) fun v8 h=>?_;cases h)<;>refine Zg ?_)
 (refine xL 10 Z3 (xL 9 Za ?_)<;>refine Zc ?_)
 refine cX ?_ ?_<;>intro hb9
 · first|exact bN hb9|(
 refine Ze ?_;(refine xL 11 Zb (xL 12 Z3 (xL 13 Zb ?_))<;>(refine bLd 13 (fun hb13=>?_) (fun hb13=>?_)<;>(first|refine kL 14 ?_|refine xL 14 (Zd 1 Yp) ?_))<;>(first|refine kL 15 ?_|(refine yL 15 (Zk 1 We) fun v15 h=>?_;cases h))<;>(first|refine kL 16 ?_|(refine cS 16 (cA call103 (Zgu a oM)) fun v16 h=>?_;cases h))<;>refine xL 17 Zz (xL 2 Za ?_)<;>refine Zc ?_)<;>(
 refine Zv (results117) rfl ?_;rw [Zgy hb9]
 first
  |exact JH (UQ hb13)
  |exact GJ (UR hb13)))
 · first | exact bN hb9|(
 refine Ze ?_;(refine xL 19 Z3 (xL 18 Za ?_)<;>refine Zc ?_)
 refine cX ?_ ?_<;>intro hb18
 · first|exact bN hb18|(
 refine Ze ?_;(refine xL 20 Zb (xL 21 Z3 (xL 22 Zb ?_))<;>(refine bLd 22 (fun hb22=>?_) (fun hb22=>?_)<;>(first|refine kL 23 ?_|refine xL 23 (Zd 1 Yp) ?_))<;>(first|refine kL 24 ?_|(refine yL 24 (Zk 1 We) fun v24 h=>?_;cases h))<;>(first|refine kL 25 ?_|refine xL 25 Kl ?_)<;>refine xL 26 Zz (xL 2 Za ?_)<;>refine Zc ?_)<;>(
 refine Zv (results117) rfl ?_;rw [Zgz hb18]
 first
  |exact JH (UQ hb22)
  |exact GJ (UR hb22)))
 · first | exact bN hb18|(
 refine Ze ?_;(refine xL 28 Z3 (xL 27 Za ?_)<;>refine Zc ?_)
 refine cX ?_ ?_<;>intro hb27
 · first | exact bN hb27|(
 refine nav ?_;refine cX ?_ ?_<;>intro hb27
 · first|exact bN hb27|(
 refine Ze ?_;(refine xL 31 Zb (xL 32 WK (xL 33 Zb ?_))<;>(refine bLd 33 (fun hb33=>?_) (fun hb33=>?_)<;>(first|refine kL 34 ?_|refine xL 34 (Zd 1 Yp) ?_))<;>(first|refine kL 35 ?_|(refine yL 35 (Zk 1 We) fun v35 h=>?_;cases h))<;>(first|refine kL 36 ?_|refine xL 36 Kl ?_)<;>refine xL 37 Zz (xL 2 Za ?_)<;>refine Zc ?_)<;>(
 refine Zv (results117) rfl ?_;rw [RZ oM]
 first
  |exact JH (UQ hb33)
  |exact GJ (UR hb33)))
 · first |exact bN hb27|(
 refine Ze ?_;(refine xL 39 Z3 (xL 38 Za ?_)<;>refine Zc ?_)
 refine cX ?_ ?_<;>intro hb38
 · first|exact bN hb38|(
 refine Ze ?_;(refine xL 40 Zb (xL 41 Z3 (xL 42 Zb ?_))<;>(refine bLd 42 (fun hb42=>?_) (fun hb42=>?_)<;>(first|refine kL 43 ?_|refine xL 43 (Zd 1 Yp) ?_))<;>(first|refine kL 44 ?_|(refine yL 44 (Zk 1 We) fun v44 h=>?_;cases h))<;>(first|refine kL 45 ?_|refine xL 45 Kl ?_)<;>refine xL 46 Zz (xL 2 Za ?_)<;>refine Zc ?_)<;>(
 refine Zv (results117) rfl ?_;rw [R1 hb38]
 first
  |exact JH (UQ hb42)
  |exact GJ (UR hb42)))
 · first|exact bN hb38|(
 refine Ze ?_;(refine xL 2 Za ?_<;>refine Zc ?_)
 refine Zv (results117) rfl ?_;rw [R2 oM oM oM oM oM oM])))
 · first | exact bN hb27|(
 refine Ze ?_;(refine xL 29 Z3 (xL 27 Za ?_)<;>refine Zc ?_)
 refine cX ?_ ?_<;>intro hb27
 · first | exact bN hb27|(
 refine nav ?_;refine cX ?_ ?_<;>intro hb27
 · first|exact bN hb27|(
 refine Ze ?_;(refine xL 31 Zb (xL 32 WK (xL 33 Zb ?_))<;>(refine bLd 33 (fun hb33=>?_) (fun hb33=>?_)<;>(first|refine kL 34 ?_|refine xL 34 (Zd 1 Yp) ?_))<;>(first|refine kL 35 ?_|(refine yL 35 (Zk 1 We) fun v35 h=>?_;cases h))<;>(first|refine kL 36 ?_|refine xL 36 Kl ?_)<;>refine xL 37 Zz (xL 2 Za ?_)<;>refine Zc ?_)<;>(
 refine Zv (results117) rfl ?_;rw [RZ oM]
 first
  |exact JH (UQ hb33)
  |exact GJ (UR hb33)))
 · first |exact bN hb27|(
 refine Ze ?_;(refine xL 39 Z3 (xL 38 Za ?_)<;>refine Zc ?_)
 refine cX ?_ ?_<;>intro hb38
 · first|exact bN hb38|(
 refine Ze ?_;(refine xL 40 Zb (xL 41 Z3 (xL 42 Zb ?_))<;>(refine bLd 42 (fun hb42=>?_) (fun hb42=>?_)<;>(first|refine kL 43 ?_|refine xL 43 (Zd 1 Yp) ?_))<;>(first|refine kL 44 ?_|(refine yL 44 (Zk 1 We) fun v44 h=>?_;cases h))<;>(first|refine kL 45 ?_|refine xL 45 Kl ?_)<;>refine xL 46 Zz (xL 2 Za ?_)<;>refine Zc ?_)<;>(
 refine Zv (results117) rfl ?_;rw [R1 hb38]
 first
  |exact JH (UQ hb42)
  |exact GJ (UR hb42)))
 · first|exact bN hb38|(
 refine Ze ?_;(refine xL 2 Za ?_<;>refine Zc ?_)
 refine Zv (results117) rfl ?_;rw [R2 oM oM oM oM oM oM])))
 · first | exact bN hb27|(
 refine Ze ?_;(refine xL 30 Z3 (xL 27 Za ?_)<;>refine Zc ?_)
 refine cX ?_ ?_<;>intro hb27
 · first|exact bN hb27|(
 refine Ze ?_;(refine xL 31 Zb (xL 32 WK (xL 33 Zb ?_))<;>(refine bLd 33 (fun hb33=>?_) (fun hb33=>?_)<;>(first|refine kL 34 ?_|refine xL 34 (Zd 1 Yp) ?_))<;>(first|refine kL 35 ?_|(refine yL 35 (Zk 1 We) fun v35 h=>?_;cases h))<;>(first|refine kL 36 ?_|refine xL 36 Kl ?_)<;>refine xL 37 Zz (xL 2 Za ?_)<;>refine Zc ?_)<;>(
 refine Zv (results117) rfl ?_;rw [RZ oM]
 first
  |exact JH (UQ hb33)
  |exact GJ (UR hb33)))
 · first |exact bN hb27|(
 refine Ze ?_;(refine xL 39 Z3 (xL 38 Za ?_)<;>refine Zc ?_)
 refine cX ?_ ?_<;>intro hb38
 · first|exact bN hb38|(
 refine Ze ?_;(refine xL 40 Zb (xL 41 Z3 (xL 42 Zb ?_))<;>(refine bLd 42 (fun hb42=>?_) (fun hb42=>?_)<;>(first|refine kL 43 ?_|refine xL 43 (Zd 1 Yp) ?_))<;>(first|refine kL 44 ?_|(refine yL 44 (Zk 1 We) fun v44 h=>?_;cases h))<;>(first|refine kL 45 ?_|refine xL 45 Kl ?_)<;>refine xL 46 Zz (xL 2 Za ?_)<;>refine Zc ?_)<;>(
 refine Zv (results117) rfl ?_;rw [R1 hb38]
 first
  |exact JH (UQ hb42)
  |exact GJ (UR hb42)))
 · first|exact bN hb38|(
 refine Ze ?_;(refine xL 2 Za ?_<;>refine Zc ?_)
 refine Zv (results117) rfl ?_;rw [R2 oM oM oM oM oM oM]))))))
theorem ZeL (t : Nd) (hf:FitT t):AF prog 114 [pTr t] (· =ZM (rightT t)):=by
 obtain ⟨o,a,l⟩:=t
 have hl:=hf.len
 have ha:=hf.sz
 simp only [Nd.l,Nd.act] at hl ha
 refine AF.of_body 51 func114 rfl ntmps114 (Xa rfl) ?_
 intro w0 M0 vs hl hv
 obtain ⟨v0,rfl⟩:=WL hl
 clear hl hv
 have e0:pTr (.mk o a l)= .agg [pInt o,Z' a, .sl l.length (K0 l)]:=rfl
 rw [e0]
 refine Ze ?_
 (refine ZG 1 3 fun h1=>?_<;>refine xL 2 Za ?_<;>refine Zg ?_)
 (refine xL 3 (Zd 1 PY) ?_<;>(refine yL 4 (Zk 1 Zaf) fun v4 h=>?_;cases h)<;>refine Zg ?_)
 (refine xL 6 Z3 (xL 5 Za ?_)<;>refine Zc ?_)
 refine cX ?_ ?_<;>intro hb5
 · first|exact bN hb5|(
 refine Ze ?_;(refine xL 7 (Zd 1 Yp) ?_<;>(refine yL 8 (Zk 1 We) fun v8 h=>?_;cases h)<;>(refine cS 9 (cA call151 (ZeG a oM)) fun v9 h=>?_;cases h)<;>refine xL 10 Zb ?_<;>(refine bL 10 (fun hb10=>?_) (fun hb10=>?_)<;>(first|refine kL 11 ?_|refine xL 11 (Zd 1 YY) ?_))<;>(first|refine kL 12 ?_|(refine yL 12 (Zk 1 WA) fun v12 h=>?_;cases h))<;>(first|refine kL 13 ?_|refine xL 13 (ZR Wo) ?_)<;>(first|refine kL 14 ?_|refine xL 14 Z3 ?_)<;>refine xL 15 Zz (xL 2 Za ?_)<;>refine Zc ?_)<;>(
 refine Zv (results114) rfl ?_;rw [Zgy hb5]
 first
  |exact KT hb10
  |exact JI hb10))
 · first | exact bN hb5|(
 refine Ze ?_;(refine xL 17 Z3 (xL 16 Za ?_)<;>refine Zc ?_)
 refine cX ?_ ?_<;>intro hb16
 · first|exact bN hb16|(
 refine Ze ?_;(refine xL 18 (Zd 1 Yp) ?_<;>(refine yL 19 (Zk 1 We) fun v19 h=>?_;cases h)<;>refine xL 20 Kl (xL 21 Zb ?_)<;>(refine bL 21 (fun hb21=>?_) (fun hb21=>?_)<;>(first|refine kL 22 ?_|refine xL 22 (Zd 1 YY) ?_))<;>(first|refine kL 23 ?_|(refine yL 23 (Zk 1 WA) fun v23 h=>?_;cases h))<;>(first|refine kL 24 ?_|refine xL 24 (ZR Wo) ?_)<;>(first|refine kL 25 ?_|refine xL 25 Z3 ?_)<;>refine xL 26 Zz (xL 2 Za ?_)<;>refine Zc ?_)<;>(
 refine Zv (results114) rfl ?_;rw [Zgz hb16]
 first
  |exact KT hb21
  |exact JI hb21))
 · first | exact bN hb16|(
 refine Ze ?_;(refine xL 28 Z3 (xL 27 Za ?_)<;>refine Zc ?_)
 refine cX ?_ ?_<;>intro hb27
 · first | exact bN hb27|(
 refine nav ?_;refine cX ?_ ?_<;>intro hb27
 · first|exact bN hb27|(
 refine Ze ?_;(refine xL 31 (Zd 1 Yp) ?_<;>(refine yL 32 (Zk 1 We) fun v32 h=>?_;cases h)<;>refine xL 33 Kl (xL 34 Zb ?_)<;>(refine bL 34 (fun hb34=>?_) (fun hb34=>?_)<;>(first|refine kL 35 ?_|refine xL 35 (Zd 1 YY) ?_))<;>(first|refine kL 36 ?_|(refine yL 36 (Zk 1 WA) fun v36 h=>?_;cases h))<;>(first|refine kL 37 ?_|refine xL 37 (ZR Wo) ?_)<;>(first|refine kL 38 ?_|refine xL 38 WK ?_)<;>refine xL 39 Zz (xL 2 Za ?_)<;>refine Zc ?_)<;>(
 refine Zv (results114) rfl ?_;rw [RZ oM]
 first
  |exact KT hb34
  |exact JI hb34))
 · first |exact bN hb27|(
 refine Ze ?_;(refine xL 41 Z3 (xL 40 Za ?_)<;>refine Zc ?_)
 refine cX ?_ ?_<;>intro hb40
 · first|exact bN hb40|(
 refine Ze ?_;(refine xL 42 (Zd 1 Yp) ?_<;>(refine yL 43 (Zk 1 We) fun v43 h=>?_;cases h)<;>refine xL 44 Kl (xL 45 Zb ?_)<;>(refine bL 45 (fun hb45=>?_) (fun hb45=>?_)<;>(first|refine kL 46 ?_|refine xL 46 (Zd 1 YY) ?_))<;>(first|refine kL 47 ?_|(refine yL 47 (Zk 1 WA) fun v47 h=>?_;cases h))<;>(first|refine kL 48 ?_|refine xL 48 (ZR Wo) ?_)<;>(first|refine kL 49 ?_|refine xL 49 Z3 ?_)<;>refine xL 50 Zz (xL 2 Za ?_)<;>refine Zc ?_)<;>(
 refine Zv (results114) rfl ?_;rw [R1 hb40]
 first
  |exact KT hb45
  |exact JI hb45))
 · first|exact bN hb40|(
 refine Ze ?_;(refine xL 2 Za ?_<;>refine Zc ?_)
 refine Zv (results114) rfl ?_;rw [R2 oM oM oM oM oM oM])))
 · first | exact bN hb27|(
 refine Ze ?_;(refine xL 29 Z3 (xL 27 Za ?_)<;>refine Zc ?_)
 refine cX ?_ ?_<;>intro hb27
 · first | exact bN hb27|(
 refine nav ?_;refine cX ?_ ?_<;>intro hb27
 · first|exact bN hb27|(
 refine Ze ?_;(refine xL 31 (Zd 1 Yp) ?_<;>(refine yL 32 (Zk 1 We) fun v32 h=>?_;cases h)<;>refine xL 33 Kl (xL 34 Zb ?_)<;>(refine bL 34 (fun hb34=>?_) (fun hb34=>?_)<;>(first|refine kL 35 ?_|refine xL 35 (Zd 1 YY) ?_))<;>(first|refine kL 36 ?_|(refine yL 36 (Zk 1 WA) fun v36 h=>?_;cases h))<;>(first|refine kL 37 ?_|refine xL 37 (ZR Wo) ?_)<;>(first|refine kL 38 ?_|refine xL 38 WK ?_)<;>refine xL 39 Zz (xL 2 Za ?_)<;>refine Zc ?_)<;>(
 refine Zv (results114) rfl ?_;rw [RZ oM]
 first
  |exact KT hb34
  |exact JI hb34))
 · first |exact bN hb27|(
 refine Ze ?_;(refine xL 41 Z3 (xL 40 Za ?_)<;>refine Zc ?_)
 refine cX ?_ ?_<;>intro hb40
 · first|exact bN hb40|(
 refine Ze ?_;(refine xL 42 (Zd 1 Yp) ?_<;>(refine yL 43 (Zk 1 We) fun v43 h=>?_;cases h)<;>refine xL 44 Kl (xL 45 Zb ?_)<;>(refine bL 45 (fun hb45=>?_) (fun hb45=>?_)<;>(first|refine kL 46 ?_|refine xL 46 (Zd 1 YY) ?_))<;>(first|refine kL 47 ?_|(refine yL 47 (Zk 1 WA) fun v47 h=>?_;cases h))<;>(first|refine kL 48 ?_|refine xL 48 (ZR Wo) ?_)<;>(first|refine kL 49 ?_|refine xL 49 Z3 ?_)<;>refine xL 50 Zz (xL 2 Za ?_)<;>refine Zc ?_)<;>(
 refine Zv (results114) rfl ?_;rw [R1 hb40]
 first
  |exact KT hb45
  |exact JI hb45))
 · first|exact bN hb40|(
 refine Ze ?_;(refine xL 2 Za ?_<;>refine Zc ?_)
 refine Zv (results114) rfl ?_;rw [R2 oM oM oM oM oM oM])))
 · first | exact bN hb27|(
 refine Ze ?_;(refine xL 30 Z3 (xL 27 Za ?_)<;>refine Zc ?_)
 refine cX ?_ ?_<;>intro hb27
 · first|exact bN hb27|(
 refine Ze ?_;(refine xL 31 (Zd 1 Yp) ?_<;>(refine yL 32 (Zk 1 We) fun v32 h=>?_;cases h)<;>refine xL 33 Kl (xL 34 Zb ?_)<;>(refine bL 34 (fun hb34=>?_) (fun hb34=>?_)<;>(first|refine kL 35 ?_|refine xL 35 (Zd 1 YY) ?_))<;>(first|refine kL 36 ?_|(refine yL 36 (Zk 1 WA) fun v36 h=>?_;cases h))<;>(first|refine kL 37 ?_|refine xL 37 (ZR Wo) ?_)<;>(first|refine kL 38 ?_|refine xL 38 WK ?_)<;>refine xL 39 Zz (xL 2 Za ?_)<;>refine Zc ?_)<;>(
 refine Zv (results114) rfl ?_;rw [RZ oM]
 first
  |exact KT hb34
  |exact JI hb34))
 · first |exact bN hb27|(
 refine Ze ?_;(refine xL 41 Z3 (xL 40 Za ?_)<;>refine Zc ?_)
 refine cX ?_ ?_<;>intro hb40
 · first|exact bN hb40|(
 refine Ze ?_;(refine xL 42 (Zd 1 Yp) ?_<;>(refine yL 43 (Zk 1 We) fun v43 h=>?_;cases h)<;>refine xL 44 Kl (xL 45 Zb ?_)<;>(refine bL 45 (fun hb45=>?_) (fun hb45=>?_)<;>(first|refine kL 46 ?_|refine xL 46 (Zd 1 YY) ?_))<;>(first|refine kL 47 ?_|(refine yL 47 (Zk 1 WA) fun v47 h=>?_;cases h))<;>(first|refine kL 48 ?_|refine xL 48 (ZR Wo) ?_)<;>(first|refine kL 49 ?_|refine xL 49 Z3 ?_)<;>refine xL 50 Zz (xL 2 Za ?_)<;>refine Zc ?_)<;>(
 refine Zv (results114) rfl ?_;rw [R1 hb40]
 first
  |exact KT hb45
  |exact JI hb45))
 · first|exact bN hb40|(
 refine Ze ?_;(refine xL 2 Za ?_<;>refine Zc ?_)
 refine Zv (results114) rfl ?_;rw [R2 oM oM oM oM oM oM]))))))
theorem Zcl : ∀(t:Nd),FitT t→∀(most d:Int),-4611686018427387904≤most→most≤4611686018427387904→-4611686018427387904≤d→d≤4611686018427387904→AF prog 73 [pTr t,pInt most,pInt d] (· = .tup [pInt (if Jm t most d=true then (szT t:Int) else 0),ZM (Jm t most d)]):=Nd.ind fun o a l ih hf most d hm1 hm2 hd1 hd2=>by
 have hl:=hf.len
 have hp:=hf.p
 simp only [Nd.l] at hl hp
 refine AF.of_body 48 func73 rfl ntmps73 (Xa rfl) ?_
 intro w0 M0 vs hl hv
 obtain ⟨v0,v1,v2,rfl⟩:=Sg hl
 obtain rfl:=hv 1 _ _ rfl rfl
 obtain rfl:=hv 2 _ _ rfl rfl
 clear hl hv
 have e0:pTr (.mk o a l)= .agg [pInt o,Z' a, .sl l.length (K0 l)]:=rfl
 rw [e0]
 refine Ze ?_
 (refine ZG 3 3 fun h3=>?_<;>refine xL 6 Za (xL 7 Za ?_)<;>refine Zg ?_)
 (refine xL 13 Zb (xL 14 ZQ (xL 15 Zb ?_))<;>(refine bLd 15 (fun hb15=>?_) (fun hb15=>?_)<;>(first|refine kL 16 ?_|refine xL 16 Zb ?_))<;>(first|refine kL 17 ?_|refine xL 17 YP ?_)<;>refine xL 18 Zz (xL 19 Zb ?_)<;>(first|refine kL 20 ?_|(refine bLd 19 (fun hb19=>?_) (fun hb19=>?_)<;>(first|refine kL 20 ?_|(refine yL 20 (Zs 3 Km) fun v20 h=>?_;cases h))))<;>(first|refine kL 21 ?_|(refine cS 21 (cA call117 (ZgA (.mk o a l) hf)) fun v21 h=>?_;cases h))<;>(first|refine kL 22 ?_|refine xL 22 Yg ?_)<;>refine xL 23 Zz ?_<;>refine Zc ?_)<;>(
 refine cX ?_ ?_<;>intro hb23
 · first|exact bN hb23|(
 refine Ze ?_;(refine xL 6 Za (xL 7 Za ?_)<;>refine Zc ?_)
 refine Wr (results73) rfl rfl ?_;rw [Zgx (by first|exact .inl oM|exact .inr (.inl oM)|exact .inr (.inr (by simpa using hb23)))];rfl)
 · first | exact bN hb23|(
 (have hrt:rightT (.mk o a l)=true:=by simpa using hb23);refine Ze ?_;(refine xL 8 Za ?_<;>refine Zg ?_)
 (refine xL 24 (Zd 3 YY) ?_<;>(refine yL 25 (Zk 3 WA) fun v25 h=>?_;cases h)<;>refine xL 26 (ZR Wo) (xL 27 Zb ?_)<;>refine Zc ?_)
 refine ZD (ι:={k:Nat//k≤l.length∧((1+szL (l.take k):Nat):Int)≤most∧∀j x,j<k→l[j]? =some x→Jm x (most-((1+szL (l.take j):Nat):Int)) (d+1)=true}) (fun k=>⟨[(1,_,_),(2,_,_),(25,_,_),(26,_,_),(27, .int .i64 k.1,pInt k.1),(8, .int .i64 ((1+szL (l.take k.1):Nat):Int),pInt ((1+szL (l.take k.1):Nat):Int))],[(3,_,_)]⟩) (fun k=>l.length-k.1) ⟨0,oM,by simp [szL];omega,oM⟩ (fun a w H=>H.weaken ⟨rfl,rfl,rfl,rfl,rfl,rfl,trivial⟩ ⟨rfl,trivial⟩) ?_;rintro ⟨k,hk,hsz,hp2⟩;dsimp only;refine Ze ?_;(refine xL 28 ZQ ?_<;>refine Zc ?_)
 refine cX ?_ ?_<;>intro hb28
 · first |exact bN hb28|(
 obtain ⟨x,hx⟩:=Zp (show k<l.length by omega);have hxm:=Xc hx;have e1:=Wh hx;have e2:=W0 hx;refine Ze ?_;(refine xL 29 (ZF Wo) ?_<;>(refine yL 30 (YI Km) fun v30 h=>?_;cases h)<;>refine Zw [(.int .i64 0),(.string ByteArray.empty),(.slice none 0 0)] 3 10 ZeK fun h10=>?_<;>refine ZA 10 Km ?_<;>refine Zg ?_)
 ((refine yL 32 (Zs 10 Km) fun v32 h=>?_;cases h)<;>refine xL 33 Zb (xL 34 Zb (xL 35 Tp (xL 36 Zb (xL 37 ZH ?_))))<;>(refine cP 38 (cA call73 (ih x hxm (hp x hxm) (most-((1+szL (l.take k):Nat):Int)) (d+1) oM oM oM oM)) fun va38 vb38 hva38 hvb38=>?_;cases hva38;cases hvb38)<;>refine xL 31 Zb (xL 39 Zi (xL 40 Zi (xL 11 Za (xL 12 Za ?_))))<;>refine Zg ?_)
 (refine xL 41 Zb (xL 42 Yg ?_)<;>refine Zc ?_)
 refine cX ?_ ?_<;>intro hb42
 · first|exact bN hb42|(
 refine Ze ?_;(refine xL 6 Za (xL 7 Za ?_)<;>refine Zc ?_)
 refine Wr (results73) rfl rfl ?_;rw [Zae (t:= .mk o a l) hx (by simpa [Nd.l] using hb42)];rfl)
 · first|exact bN hb42|(
 (have hmx:Jm x (most-((1+szL (l.take k):Nat):Int)) (d+1)=true:=by simpa using hb42);have hsn:=Dc hx;have hbd:(szT x:Int)≤most-((1+szL (l.take k):Nat):Int):=by
  have:=hmx;unfold Jm at this;simp only [Xe,UP] at this;exact this.1.2
 have hn2:((1+szL (l.take k):Nat):Int)+(szT x:Int)=((1+szL (l.take (k+1)):Nat):Int):=oM;rw [UT hmx];refine Ze ?_;(refine xL 43 Zb (xL 44 Zb ?_)<;>(refine xL 45 ZH ?_;rw [hn2])<;>refine xL 8 Za ?_<;>refine Zg ?_)
 (refine xL 46 ZH (xL 27 Zb ?_)<;>refine Zc ?_)
 refine Zn (
  ⟨k+1,oM,oM,fun j y hj hy=>by
   by_cases e:j=k
   · subst e;rw [hx] at hy;cases hy;exact hmx
   · exact hp2 j y oM hy⟩
  ) (by dsimp only;omega) ⟨rfl,rfl,rfl,rfl,rfl,rfl,trivial⟩ ⟨rfl,trivial⟩))
 · first|exact bN hb28|(
 refine Ze ?_;(refine xL 47 Zb (xL 6 Za (xL 7 Za ?_))<;>refine Zc ?_)
 refine Wr (results73) rfl rfl ?_;have hkl:k=l.length:=oM;subst hkl;rw [Zds (t:= .mk o a l) hrt oM oM fun j x hx=>hp2 j x (Zf hx) hx];rw [Xo (Xj _),UT rfl,szT])))
theorem JJ (t:Nd) (hf:FitT t):AF prog 24 [pTr t] (· =ZM (Y3 t)):=by
 refine AF.of_body 11 func24 rfl ntmps24 (Xa rfl) ?_
 intro w0 M0 vs hl hv
 obtain ⟨v0,rfl⟩:=WL hl
 clear hl hv
 have e0:pTr t= .agg [pInt t.op,Z' t.act,Wb t.l]:=rfl
 rw [e0]
 refine Ze ?_
 (refine ZG 1 3 fun h1=>?_<;>refine xL 2 Za ?_<;>refine Zg ?_)
 ((refine yL 6 (Zs 1 Km) fun v6 h=>?_;cases h)<;>(refine cP 7 (cA call73 (Zcl t hf 400 1 oM oM oM oM)) fun va7 vb7 hva7 hvb7=>?_;cases hva7;cases hvb7)<;>refine xL 5 Zb (xL 8 Zi (xL 9 Zi (xL 3 Za (xL 4 Za ?_))))<;>refine Zg ?_)
 (refine xL 10 Zb (xL 2 Za ?_)<;>refine Zc ?_)
 exact Zv results24 rfl rfl
theorem Zcm {t:Nd} {most d:Int} (h:Jm t most d=true):(szT t:Int)≤most:=by
 unfold Jm at h
 simp only [Xe,UP] at h
 exact h.1.2
def CX (t:Nd) (d left:Int):Int:=if Jm t left d=true then left-(szT t:Int) else-1
theorem ZeM : ∀(t:Nd),FitT t→∀(d left:Int),-4611686018427387904≤left→left≤4611686018427387904→-4611686018427387904≤d→d≤4611686018427387904→AF prog 69 [pTr t,pInt d,pInt left] (· =pInt (CX t d left)):=Nd.ind fun o a l ih hf d left hm1 hm2 hd1 hd2=>by
 have hl:=hf.len
 have hp:=hf.p
 simp only [Nd.l] at hl hp
 refine AF.of_body 41 func69 rfl ntmps69 (Xa rfl) ?_
 intro w0 M0 vs hl hv
 obtain ⟨v0,v1,v2,rfl⟩:=Sg hl
 obtain rfl:=hv 1 _ _ rfl rfl
 obtain rfl:=hv 2 _ _ rfl rfl
 clear hl hv
 have e0:pTr (.mk o a l)= .agg [pInt o,Z' a, .sl l.length (K0 l)]:=rfl
 rw [e0]
 refine Ze ?_
 (refine ZG 3 3 fun h3=>?_<;>refine xL 6 Za ?_<;>refine Zg ?_)
 (refine xL 8 Zb (xL 9 O6 (xL 10 Zb ?_))<;>(refine bLd 10 (fun hb10=>?_) (fun hb10=>?_)<;>(first|refine kL 11 ?_|refine xL 11 Zb ?_))<;>(first|refine kL 12 ?_|refine xL 12 YP ?_)<;>refine xL 13 Zz (xL 14 Zb ?_)<;>(first|refine kL 15 ?_|(refine bLd 14 (fun hb14=>?_) (fun hb14=>?_)<;>(first|refine kL 15 ?_|(refine yL 15 (Zs 3 Km) fun v15 h=>?_;cases h))))<;>(first|refine kL 16 ?_|(refine cS 16 (cA call114 (ZeL (.mk o a l) hf)) fun v16 h=>?_;cases h))<;>(first|refine kL 17 ?_|refine xL 17 Yg ?_)<;>refine xL 18 Zz ?_<;>refine Zc ?_)<;>(
 refine cX ?_ ?_<;>intro hb18
 · first|exact bN hb18|(
 refine Ze ?_;(refine xL 6 Za ?_<;>refine Zc ?_)
 refine Zv (results69) rfl ?_;unfold CX;rw [Zgx (by first|exact .inl oM|exact .inr (.inl oM)|exact .inr (.inr (by simpa using hb18)))];rfl)
 · first | exact bN hb18|(
 (have hrt:rightT (.mk o a l)=true:=by simpa using hb18);(have hc0:left-1=left-((1+szL (l.take 0):Nat):Int):=by simp [szL]);refine Ze ?_;(refine xL 19 Zb ?_<;>(refine xL 20 Tp ?_;rw [hc0])<;>refine xL 2 Za ?_<;>refine Zg ?_)
 (refine xL 7 Za ?_<;>refine Zc ?_)
 refine ZD (ι:={k:Nat//k≤l.length∧((1+szL (l.take k):Nat):Int)≤left∧∀j x,j<k→l[j]? =some x→Jm x (left-((1+szL (l.take j):Nat):Int)) (d+1)=true}) (fun k=>⟨[(1,_,_),(3,_,_),(7, .int .i64 k.1,pInt k.1),(2, .int .i64 (left-((1+szL (l.take k.1):Nat):Int)),pInt (left-((1+szL (l.take k.1):Nat):Int)))],[(3,_,_)]⟩) (fun k=>l.length-k.1) ⟨0,oM,by simp [szL];omega,oM⟩ (fun a w H=>H.weaken ⟨rfl,rfl,rfl,rfl,trivial⟩ ⟨rfl,trivial⟩) ?_;rintro ⟨k,hk,hsz,hp2⟩;dsimp only;refine Ze ?_;(refine xL 21 Zb (xL 22 (Zd 3 YY) ?_)<;>(refine yL 23 (Zk 3 WA) fun v23 h=>?_;cases h)<;>refine xL 24 (ZR Wo) (xL 25 ZQ ?_)<;>refine Zc ?_)
 refine cX ?_ ?_<;>intro hb25
 · first |exact bN hb25|(
 obtain ⟨x,hx⟩:=Zp (show k<l.length by omega);have hxm:=Xc hx;have e1:=Wh hx;have e2:=W0 hx;refine Ze ?_;(refine xL 28 (Zd 3 YY) ?_<;>(refine yL 29 (Zk 3 WA) fun v29 h=>?_;cases h)<;>refine xL 30 Zb (xL 31 (ZF Wo) ?_)<;>(refine yL 32 (YI Km) fun v32 h=>?_;cases h)<;>refine xL 33 Zb (xL 34 ZH (xL 35 Zb ?_))<;>(refine cS 36 (cA call69 (ih x hxm (hp x hxm) (d+1) (left-((1+szL (l.take k):Nat):Int)) oM oM oM oM)) fun v36 h=>?_;cases h)<;>refine xL 2 Za ?_<;>refine Zc ?_)
 have hcx:CX x (d+1) (left-((1+szL (l.take k):Nat):Int))<0↔Jm x (left-((1+szL (l.take k):Nat):Int)) (d+1)=false:=by
  unfold CX
  cases hmx:Jm x (left-((1+szL (l.take k):Nat):Int)) (d+1) with
  |true=>have:=Zcm hmx;simp;omega
  |false=>simp
 (refine Zt ?_<;>refine xL 37 Zb (xL 38 ZQ ?_)<;>refine Zc ?_)
 refine cX ?_ ?_<;>intro hb38
 · first|exact bN hb38|(
 refine Ze ?_;(refine xL 39 Zb (xL 6 Za ?_)<;>refine Zc ?_)
 refine Zv (results69) rfl ?_;have hmx:=hcx.1 hb38;unfold CX;rw [Zae (t:= .mk o a l) hx hmx,hmx];rfl)
 · first|exact bN hb38|(
 have hmx:Jm x (left-((1+szL (l.take k):Nat):Int)) (d+1)=true:=by
  cases h:Jm x (left-((1+szL (l.take k):Nat):Int)) (d+1) with
  |true=>rfl
  |false=>exact UU (hcx.2 h) hb38
 have hsn:=Dc hx;have hbd:=Zcm hmx;have hn2:CX x (d+1) (left-((1+szL (l.take k):Nat):Int))=left-((1+szL (l.take (k+1)):Nat):Int):=by
  unfold CX;rw [UT hmx];omega
 rw [hn2];refine Ze ?_;(refine xL 26 Zb (xL 27 ZH (xL 7 Za ?_))<;>refine Zc ?_)
 refine Zn (
  ⟨k+1,oM,oM,fun j y hj hy=>by
   by_cases e:j=k
   · subst e;rw [hx] at hy;cases hy;exact hmx
   · exact hp2 j y oM hy⟩
  ) (by dsimp only;omega) ⟨rfl,rfl,rfl,rfl,trivial⟩ ⟨rfl,trivial⟩))
 · first|exact bN hb25|(
 refine Ze ?_;(refine xL 40 Zb (xL 6 Za ?_)<;>refine Zc ?_)
 refine Zv (results69) rfl ?_;have hkl:k=l.length:=oM;subst hkl;unfold CX;rw [Zds (t:= .mk o a l) hrt oM oM fun j x hx=>hp2 j x (Zf hx) hx];rw [Xo (Xj _),UT rfl,szT])))
theorem Em (t:Nd) (hf:FitT t):AF prog 20 [pTr t] (· =ZM (Y3 t)):=by
 refine AF.of_body 6 func20 rfl ntmps20 (Xa rfl) ?_
 intro w0 M0 vs hl hv
 obtain ⟨v0,rfl⟩:=WL hl
 clear hl hv
 have e0:pTr t= .agg [pInt t.op,Z' t.act,Wb t.l]:=rfl
 rw [e0]
 refine Ze ?_
 (refine ZG 1 3 fun h1=>?_<;>refine xL 2 Za ?_<;>refine Zg ?_)
 ((refine yL 3 (Zs 1 Km) fun v3 h=>?_;cases h)<;>(refine cS 4 (cA call69 (ZeM t hf 1 400 oM oM oM oM)) fun v4 h=>?_;cases h)<;>refine xL 5 WK (xL 2 Za ?_)<;>refine Zc ?_)
 refine Zv (results20) rfl (S4 ?_)
 rw [UP]
 unfold CX Y3
 cases h:Jm t 400 1 with
 |true=>have:=Zcm h;simp;omega
 |false=>simp
end Go.Proofs.YtgfabnhpllkebaaGreatDoor
namespace Go.En
open Go.RowKit Go.Cb Go.Proofs Go.Sort
set_option linter.all false
def Zlf (P:Program) (fs g k:Nat):Prop:=∀{α:Type} [Inhabited α] (enc:α→List Value),(∀x,(enc x).length=k)→(∀x,∀v∈enc x,v.oneCell'=true)→∀(cf:α→α→Int),SWO (ltOf cf)→∀(blk cap:Nat) (d:Array α) (w:World),
 CmpLays P g #[] enc k cf blk 0 d.size w→HoldsK enc k w blk 0 d→blk<w.heap.size→d.size<4611686018427387904→
 Calls P fs #[.slice (some ⟨blk,0,none⟩) d.size cap, .func (.func g) #[] #[]] w fun e w'=>e= .returned (.tuple #[])∧∃d' n os,PermIn 0 d.size d d'∧SortedIn (ltOf cf) 0 d.size d'∧w'=sortWorldK enc k w blk 0 n d' os
theorem ZgB {α:Type} [Inhabited α] (enc:α→List Value) (k:Nat) (w:World) (blk m:Nat) (d:Array α) (os:Array Obj):Chg (fun b=>b=blk) w (sortWorldK enc k w blk 0 m d os):=by
 refine ⟨rfl,rfl,rfl,?_,fun i hi hne=>?_⟩
 · simp [sortWorldK,grow,putRowK,putRow,mapBlock,ahead]
 · have:(sortWorldK enc k w blk 0 m d os).heap=(w.heap.modify blk (onCells (putCells id 0 (flatK enc k d))))++os:=rfl;rw [this,Vh (by simpa using hi),VG,US (fun e=>hne e.symm)]
theorem ZlO {α:Type} [Inhabited α] (enc:α→List Value) (k:Nat) (w:World) (blk m:Nat) (d:Array α) (os:Array Obj) {cur:Array Value} {e:TypeId} (h:w.heap[blk]? =some (.cells cur e (0,0))):
 (sortWorldK enc k w blk 0 m d os).heap[blk]? =some (.cells (putCells id 0 (flatK enc k d) cur) e (0,0)):=by
 have hlt:=Yu h
 have:(sortWorldK enc k w blk 0 m d os).heap=(w.heap.modify blk (onCells (putCells id 0 (flatK enc k d))))++os:=rfl
 rw [this,Vh (by simpa using hlt),VG,UT rfl,h]
 rfl
theorem ZgC (f cur:Array Value) (h:f.size≤cur.size):(putCells id 0 f cur).toList.take f.size=f.toList:=by
 apply Vq
 intro j
 by_cases hj:j<f.size
 · rw [X1 hj];have hjc:j<cur.size:=oM;simp [putCells,hj,hjc]
 · rw [XL (by simp;omega),XL (by simp;omega)]
section
variable {P:Program} {c:Ctx} {ops:Array Oper} {Q:Exit→Act→World→Prop} {rest:List Oper} {sL hP:List (Nat×Ent)} {o:Oper}
theorem Zdt {β:Type} {fs g k e d l:Nat} {f:β→List PV} {cmp:β→β→Int} {rows:List β} {h:Value} {q q':PV} {x y:Operand} {ats:Array TypeId} (hS:Zlf P fs g k) (hf:∀x,(f x).length=k) (hk:0<k) (hsh:∀x,(f x).all (fun p=>isSh p&&one p)=true)
 (hirr:∀a,¬cmp a a<0) (htr:∀a b c,cmp a b<0→cmp b c<0→cmp a c<0) (hnt:∀a b c,¬cmp a b<0→¬cmp b c<0→¬cmp a c<0)
 (hcmp:∀(x y:β) (M:BS) (W:World) (u v:Value),x∈rows→y∈rows→Shr M W u (.agg (f x))→Shr M W v (.agg (f y))→Calls P g #[u,v] W fun e w'=>e= .returned (.int .i64 (cmp x y))∧∃q os',w'=grow (W.drewN q) os')
 (hn:0<rows.length) (hn2:rows.length<4611686018427387904)
 (hw:ZT ops sL o=some true) (hd:o.dst=some d) (hdn:d<c.nt) (ho:o.op= .call {callee:= .value (.func fs),args:= #[x,y],argTypes:=ats}) (hc:∀args w,(callFunc fs args).run P w= .ok (.enter fs args) w) (hx:ev sL x=some (h,q)) (hy:ev sL y=some (.func (.func g) #[] #[],q')) (hl:lk hP l=some (h, .own e k rows.length (rows.flatMap f)))
 (kk:∀rows':List β,rows'.Perm rows→(∀(i j:Nat) (a b:β),i<j→rows'[i]? =some a→rows'[j]? =some b→¬cmp b a<0)→aL P c ops Q rest ⟨put d (.tuple #[], .val (.tuple #[])) sL,put l (h, .own e k rows.length (rows'.flatMap f)) hP⟩):aL P c ops Q (o::rest) (⟨sL,hP⟩:St):=
 Yy hw fun a w F H=>by
  have hxv:=(H.rd.ev hx).1;have hyv:=(H.rd.ev hy).1;have hTr:=H.tr l _ _ hl;obtain ⟨xs,Fs,hrow,hlen,hT,hdj,hb,hF⟩:=hTr.row;obtain ⟨blk,cap,hh,hc1,hc2,hc3⟩:=K3 hTr hn;have hfl:=flat_len hf rows;have hblkF:F l blk:=(hF blk).2 (.inl (by rw [hh];rfl));have hblkM:mof c hP F blk:= .inr ⟨l,_,hl,hblkF⟩;haveI:Inhabited (Fin rows.length):=⟨⟨0,hn⟩⟩
  let enc:Fin rows.length→List Value:=fun i=>(xs.drop (i.1*k)).take k;have hxl:xs.length=rows.length*k:=oM;have henc:∀i:Fin rows.length,(enc i).length=k:=fun i=>by
   have h1:(i.1+1)*k≤rows.length*k:=Vw k i.2;rw [VF,Nat.one_mul] at h1;simp [enc];omega
  have hget:∀(i:Fin rows.length) (j:Nat),j<k→(enc i)[j]? =xs[i.1*k+j]? :=fun i j hj=>by
   simp only [enc];rw [X1 hj,Vo]
  have hrd:∀(i:Fin rows.length) (j:Nat) (v:Value) (p:PV),(enc i)[j]? =some v→(f rows[i.1])[j]? =some p→Shr (mof c hP F) w v p∧isSh p=true∧one p=true:=fun i j v p hv hp=>by
   have hj:j<k:=by rw [←hf];exact Zf hp
   rw [hget i j hj] at hv;have hp2:(rows.flatMap f)[i.1*k+j]? =some p:=by rw [LI hf (XX i.2) hj];exact hp
   have:=XB.1 (hsh rows[i.1]) p (Xc hp);rw [Xe] at this;exact ⟨(hT _ v p hv hp2).sh this.1,this.1,this.2⟩
  have hone:∀(i:Fin rows.length),∀v∈enc i,v.oneCell'=true:=fun i v hv=>by
   obtain ⟨j,hj,rfl⟩:=VM hv;have hjk:j<k:=by rw [←henc i];exact hj
   obtain ⟨p,hp⟩:=Yi (show j<(f rows[i.1]).length by rw [hf];exact hjk);obtain ⟨h1,_,h3⟩:=hrd i j _ p (XX hj) hp;exact h1.one h3
  let cf:Fin rows.length→Fin rows.length→Int:=fun i j=>cmp rows[i.1] rows[j.1];have hO:SWO (ltOf cf):=⟨fun i=>UR (hirr _),fun i j m h1 h2=>UQ (htr _ _ _ (UV h1) (UV h2)),fun i j m h1 h2=>UR (hnt _ _ _ (UW h1) (UW h2))⟩;let ds:Array (Fin rows.length):=Array.ofFn id;have hds:ds.size=rows.length:=by simp [ds]
  have hdg:∀j (hj:j<rows.length),ds[j]! =⟨j,hj⟩:=fun j hj=>by simp [ds,hj]
  have hagg:∀(i:Fin rows.length) (W:World),Chg (fun b=>b=blk) w W→Shr (mof c hP F) W (.agg (enc i).toArray) (.agg (f rows[i.1])):=fun i W hW=>by
   refine .agg _ _ (by rw [henc,hf]) fun j v p hv hp=>?_;exact (hrd i j v p hv hp).1.to hW (fun b _ hb=>by rw [hb];exact hblkM) (fun _ _ h=>h)
  have hcl:CmpLays P g #[] enc k cf blk 0 ds.size w:=fun m os dk _ i j=>by
   have hW:=ZgB enc k w blk m dk os;exact hcmp rows[i.1] rows[j.1] _ _ _ _ (List.getElem_mem _) (List.getElem_mem _) (hagg i _ hW) (hagg j _ hW)
  have hHold:HoldsK enc k w blk 0 ds:=fun t ht=>by
   rw [size_flatK,hds] at ht;have hdiv:t / k<rows.length:=by rw [Nat.div_lt_iff_lt_mul hk];exact ht
   have hmod:t % k<k:=Nat.mod_lt _ hk;have he:t / k*k+t % k=t:=by rw [VZ];exact Nat.div_add_mod _ _
   rw [get_flatK _ _ _ _ (by rw [hds];exact ht),hdg _ hdiv];have hg2:=hget ⟨t / k,hdiv⟩ (t % k) hmod;simp only at hg2;rw [he] at hg2;obtain ⟨v,hv⟩:=Yi (show t<xs.length by omega);rw [hv] at hg2;have hrow':=hrow;rw [hh] at hrow';refine ⟨?_,by rw [Xv];exact hrow'.frozenAt t⟩;rw [Xv,Wq hrow' hv];have:(enc ⟨t / k,hdiv⟩)[t % k]! =v:=by
    rw [getElem!_def,hg2]
   rw [id,this]
  have hcall:=hS enc henc hone cf hO blk cap ds w hcl hHold hc3 (by rw [hds];exact hn2);rw [hds] at hcall;unfold Oper.wp;have hrun:(execOp a.eval o).run P w= .ok (.enter fs #[h, .func (.func g) #[] #[]]) w:=by
   have hev:a.eval (.func fs)= .func (.func fs) #[] #[]:=rfl;simp [execOp,ho,resolve,Deferred.ofValue,hev,invoke,hxv,hyv,hc]
  rw [hrun,Oper.upon_enter,hh];refine hcall.mono fun e' w' ⟨he',d',m,os,hperm,hsorted,hw'⟩=>?_;subst he';have hd's:d'.size=rows.length:=by rw [hperm.1,hds]
  have hpl:d'.toList.Perm ds.toList:=by
   have h2:=hperm.2.2;have e1:(ds.extract 0 rows.length).toList=ds.toList:=by
    rw [Array.toList_extract];simp only [List.extract_eq_take_drop,VX,VS];exact Xo (by rw [Vm,hds];exact Xj _)
   have e2:(d'.extract 0 rows.length).toList=d'.toList:=by
    rw [Array.toList_extract];simp only [List.extract_eq_take_drop,VX,VS];exact Xo (by rw [Vm,hd's];exact Xj _)
   rw [e1,e2] at h2;exact h2
  let rows':List β:=d'.toList.map fun i=>rows[i.1];have hr's:rows'.length=rows.length:=by simp [rows',hd's]
  have hdl:ds.toList.map (fun i:Fin rows.length=>rows[i.1])=rows:=by
   apply List.ext_getElem
   · simp [ds]
   · intro j h1 h2;simp [ds]
  have hrp:rows'.Perm rows:=by
   have:=hpl.map fun i:Fin rows.length=>rows[i.1];rw [hdl] at this;exact this
  have hat:∀j (hj:j<rows.length),∃i:Fin rows.length,d'[j]! =i∧rows'[j]? =some rows[i.1]:=fun j hj=>by
   have hj':j<d'.size:=oM;refine ⟨d'[j],by simp [hj'],?_⟩;simp [rows',hj']
  rw [hd];refine kk rows' hrp (fun i j x y hij hx' hy'=>?_) _ _ ⟨fun l'=>if l'=l then (fun b=>b=blk) else F l',?_⟩
  · (have hjl:j<rows.length:=by have:=Zf hy';omega);obtain ⟨i1,h1,h2⟩:=hat i oM;obtain ⟨j1,h3,h4⟩:=hat j hjl;rw [h2] at hx';cases hx';rw [h4] at hy';cases hy';have h5:=hsorted i j (Xf _) hij hjl;rw [h1,h3] at h5;simpa [ltOf,cf] using h5
  · have hch0:=ZgB enc k w blk m d' os;rw [←hw'] at hch0;refine H.change (fun l'=>l'=l) hdn (hch0.wid fun b hb'=> .inl ⟨l,_,rfl,hl,by rw [hb'];exact hblkF⟩) (fun l' z hne hz=>?_) (fun l' z b hT' hz hb'=>?_) (fun hmm l' u p hT' hz=>?_) (fun l1 l2 _ _ _ h1 h2 hne=>UU (h1.trans h2.symm) hne) (fun _=> .val _) (fun _=>by rw [hw'];exact Ue _ _)
    · rcases Ya hz with ⟨e1,_⟩|⟨_,e1⟩
      · exact UU e1.symm hne
      · exact ⟨e1,by simp [hne]⟩
    · subst hT';simp only [if_true] at hb';exact .inl ⟨l',_,rfl,hl,by rw [hb'];exact hblkF⟩
    · subst hT';rw [ZW] at hz
      cases hz;simp only [if_true];rcases hrow.2 with ⟨e1,_⟩|⟨g',cap',cur,e1,_,e3,e4,e5,e6,e7⟩
      · rw [hh] at e1;cases e1
      · rw [hh] at e1
        cases e1;(have hfs:(flatK enc k d').size=rows.length*k:=by rw [size_flatK,hd's]);refine .own (flatK enc k d').toList (fun _ _=>False) ⟨by rw [Vm,hfs], .inr ⟨blk,cap,putCells id 0 (flatK enc k d') cur,hh,Xf _,by rw [hw'];exact ZlO enc k w blk m d' os e3,e4,e5,by simp [putCells];exact e6,?_⟩⟩ ((flat_len hf rows').trans ((congrArg (· *k) hr's).trans ((Vm (xs:=flatK enc k d')).trans hfs).symm)) (fun t v p hv hp=>?_) (fun _ _ _ _ _ _ h=>h.elim) (fun _ _ _ h=>h.elim) (fun b=>by rw [hh];simp [Value.ownBlock,eq_comm])
        · rw [←hfs];exact ZgC _ _ (by rw [hfs,e6];exact Vw k e4)
        · (have ht:t<rows.length*k:=by have:=Zf hv;rw [Vm,hfs] at this;exact this);(have hdiv:t / k<rows.length:=by rw [Nat.div_lt_iff_lt_mul hk];exact ht);have hmod:t % k<k:=Nat.mod_lt _ hk;(have he:t / k*k+t % k=t:=by rw [VZ];exact Nat.div_add_mod _ _);obtain ⟨i1,h1,h2⟩:=hat (t / k) hdiv;have hp2:=LI hf h2 hmod;rw [he,hp] at hp2;have hv2:v=(enc i1)[t % k]! :=by
           have h3:=get_flatK enc k d' t (by rw [hd's];exact ht);rw [h1] at h3;rw [←h3,getElem!_def,←Uz,hv]
          (have hlt:t % k<(enc i1).length:=by rw [henc];exact hmod);have hv3:(enc i1)[t % k]? =some v:=by
           rw [hv2,getElem!_def,XX hlt]
          exact .shr ((hrd i1 (t % k) v p hv3 hp2.symm).1.to (hch0.wid (N:=fun b=>b=blk) fun b hb'=> .inl hb') (fun b _ hb'=>by rw [hb'];exact hblkM) hmm) (fun _ h=>h)
end
open Go.RowKit Go.Cb
section
variable {P:Program} {c:Ctx} {ops:Array Oper} {Q:Exit→Act→World→Prop} {rest:List Oper} {st:St} {sL hP:List (Nat×Ent)} {o:Oper}
theorem Zjr {w:World} {e k n m:Nat} {h:Value} {xs:List Value} (hrow:w.ownsRow 0 e k h n xs) (hm:m≤n):w.ownsRow 0 e k (slc h 0 m k) m (xs.take (m*k))∧(slc h 0 m k).ownBlock=h.ownBlock:=by
 rcases hrow.2 with ⟨rfl,rfl⟩|⟨g,cap,cur,rfl,hg,hh,h1,h2,h3,h4⟩
 · obtain rfl:m=0:=oM;refine ⟨⟨sM, .inl ⟨by simp [slc],rfl⟩⟩,by simp [slc]⟩
 · have hs:slc (.slice (some ⟨g,0,none⟩) n cap) 0 m k= .slice (some ⟨g,0,none⟩) m cap:=by
    simp only [slc,VB,Uc,Y4,VN,VS,ite_self]
   rw [hs];refine ⟨⟨?_, .inr ⟨g,cap,cur,rfl,hg,hh,oM,h2,h3,?_⟩⟩,rfl⟩
   · rw [Xx,hrow.1];exact Va (Vw k hm)
   · rw [←h4,List.take_take,Va (Vw k hm)]
theorem ZmP {l e k n:Nat} {h:Value} {cs:List PV} (m:Nat) (hl:lk hP l=some (h, .own e k n cs)) (hm:m≤n):Tg (⟨sL,hP⟩:St) (fun _:Unit=>⟨sL,put l (slc h 0 m k, .own e k m (cs.take (m*k))) hP⟩):=fun c a w ⟨F,H⟩=>by
 have hTr:=H.tr l _ _ hl
 obtain ⟨xs,Fs,hrow,hlen,hT,hd,hb,hF⟩:=hTr.row
 obtain ⟨hrow',hown⟩:=Zjr hrow hm
 refine ⟨(),fun x=>if x=l then (fun b=>h.ownBlock=some b∨∃i,i<(cs.take (m*k)).length∧Fs i b) else F x,?_⟩
 have hle:(cs.take (m*k)).length≤cs.length:=by rw [Xx];exact Nat.min_le_right _ _
 refine H.retell (fun x=>x=l) (fun x y hnT hx=>?_) (fun x y b hTx hx hb'=>?_) (fun hmm x u q hTx hx=>?_) (fun x1 x2 y1 y2 b h1 h2 hne'=>UU (h1.trans h2.symm) hne')
 · have n1:x≠l:=hnT;rw [YV (Ne.symm n1)] at hx;exact ⟨hx,by simp [n1]⟩
 · subst hTx;simp only [if_true] at hb';refine ⟨x,_,rfl,hl,(hF b).2 ?_⟩;rcases hb' with h1|⟨i,hi,h1⟩
   · exact .inl h1
   · exact .inr ⟨i,oM,h1⟩
 · subst hTx;rw [ZW] at hx
   cases hx;simp only [if_true];refine .own _ Fs hrow' (by rw [Xx,Xx,hlen]) (fun i x p hx9 hp=>?_) (fun i j b hi hj=>hd i j b oM oM) (fun i b hi h1 h2=>hb i b oM h1 (by rw [←hown];exact h2)) (fun b=>by rw [hown]);have hi:i<m*k:=by have:=Zf hx9;rw [Xx] at this;omega
   rw [X1 hi] at hx9 hp;exact (hT i x p hx9 hp).anti hmm
theorem Sx {t e kk bytes n m:Nat} {z:Value} {x y:Operand} {h v2:Value} {q:PV} {cs cs2:List PV} (l d:Nat) (hT:ElT P t e kk bytes z) (k:∀h':Value,h'.oneCell'=true→aL P c ops Q rest ⟨put d (h', .val h') sL,put d (h', .own e kk (n+m) (cs++cs2)) (del l hP)⟩)
 (hlen2:cs2.length=m*kk:=by first|assumption|exact rfl) (hok:cs2.all one=true:=by first|assumption|exact rfl) (hw:ZT ops sL o=some true:=by exact rfl) (hd:o.dst=some d:=by exact rfl) (hn:d<c.nt:=by exact Xa rfl) (ho:o.op= .call {callee:= .builtin .append,args:= #[x,y],argTypes:= #[t,t]}:=by exact rfl)
 (hx:ev sL x=some (h,q):=by exact rfl) (hy:ev sL y=some (v2, .sl m cs2):=by exact rfl) (hl:lk hP l=some (h, .own e kk n cs):=by exact rfl) (hdl:lk (del l hP) d=none:=by exact rfl) (hlen:n+m≤9223372036854775807:=by first|omega|exact Xa rfl|(simp only [Xk,XC,Xd,Xt,Xb,XJ,Xs,Xu,XK];omega)) (hb:(n+m)*bytes≤140737488355328:=by first|omega|exact Xa rfl|(simp only [Xk,XC,Xd,Xt,Xb,XJ,Xs,Xu,XK];omega)) (hdr:¬c.dr:=by exact id):aL P c ops Q (o::rest) (⟨sL,hP⟩:St):=fun a w ⟨F,H⟩=>by
 have h1:h.oneCell'=true:=(H.tr l _ _ hl).cellOne rfl
 rcases Vb m with h0|h0
 · subst h0;have:cs2=[]:=XO (by rw [hlen2,VB]);subst this;refine Zjh l d hT hw hd hn ho hx hy hl (Zr (Zy d hl hdl) fun _=>?_) a w ⟨F,H⟩;have:=k h h1;rw [Xy] at this;exact this
 · exact Zcb l d hT hw hd hn ho hx hy hl (Zjg hy h0) hlen2 hdl hok hlen hb hdr k a w ⟨F,H⟩
end
def Zlg (P:Program) (fs:Nat):Prop:=∀(blk cap:Nat) (zs:List Int) (w:World),Go.Sort.Holds (Value.int .i64) w blk 0 zs.toArray→blk<w.heap.size→zs.length<4611686018427387904→
 Calls P fs #[.slice (some ⟨blk,0,none⟩) zs.length cap] w fun e w'=>e= .returned (.tuple #[])∧∃n os,w'=grow (putRow (Value.int .i64) (Go.Sort.ahead w n) blk 0 (zs.mergeSort fun x y=>decide (x≤y)).toArray) os
section
variable {P:Program} {c:Ctx} {ops:Array Oper} {Q:Exit→Act→World→Prop} {rest:List Oper} {sL hP:List (Nat×Ent)} {o:Oper}
theorem R3 {α:Type} [Inhabited α] (enc:α→Value) (f:Array α) (cur:Array Value) (h:f.size≤cur.size):(putCells enc 0 f cur).toList.take f.size=f.toList.map enc:=by
 apply Vq
 intro j
 by_cases hj:j<f.size
 · rw [X1 hj];have hjc:j<cur.size:=oM;simp [putCells,hj,hjc]
 · rw [XL (by simp;omega),XL (by simp;omega)]
theorem Zjs {fs e d:Nat} {zs:List Int} {h:Value} {q:PV} {x:Operand} {ats:Array TypeId} (l:Nat) (hS:Zlg P fs) (hc:∀args w,(callFunc fs args).run P w= .ok (.enter fs args) w)
 (kk:aL P c ops Q rest ⟨put d (.tuple #[], .val (.tuple #[])) sL,put l (h, .own e 1 zs.length ((zs.mergeSort fun x y=>decide (x≤y)).map pInt)) hP⟩)
 (hn:0<zs.length) (hn2:zs.length<4611686018427387904:=by omega) (hw:ZT ops sL o=some true:=by exact rfl) (hd:o.dst=some d:=by exact rfl) (hdn:d<c.nt:=by exact Xa rfl) (ho:o.op= .call {callee:= .value (.func fs),args:= #[x],argTypes:=ats}:=by exact rfl) (hx:ev sL x=some (h,q):=by exact rfl) (hl:lk hP l=some (h, .own e 1 zs.length (zs.map pInt)):=by exact rfl):aL P c ops Q (o::rest) (⟨sL,hP⟩:St):=
 Yy hw fun a w F H=>by
  have hxv:=(H.rd.ev hx).1;have hTr:=H.tr l _ _ hl;obtain ⟨xs,Fs,hrow,hlen,hT,hdj,hb,hF⟩:=hTr.row;obtain ⟨blk,cap,hh,hc1,hc2,hc3⟩:=K3 hTr hn;have hblkF:F l blk:=(hF blk).2 (.inl (by rw [hh];rfl));have hxs:∀(j:Nat) (v:Value),xs[j]? =some v→∃z,zs[j]? =some z∧v= .int .i64 z:=fun j v hv=>by
   obtain ⟨p,hp⟩:=Yh hv hlen.symm;have h1:=hp;rw [Xm,XA] at h1;obtain ⟨z,hz,rfl⟩:=h1;exact ⟨z,hz,((hT j v _ hv hp).sh rfl).vOf⟩
  have hHold:Go.Sort.Holds (Value.int .i64) w blk 0 zs.toArray:=fun j hj=>by
   simp only [X8] at hj;have hrow':=hrow;rw [hh] at hrow';obtain ⟨v,hv⟩:=Yi (show j<xs.length by rw [←hlen,Xd];exact hj);obtain ⟨z,hz,rfl⟩:=hxs j v hv;refine ⟨?_,by rw [Xv];exact hrow'.frozenAt j⟩;rw [Xv,Wq hrow' hv];have:zs.toArray[j]! =z:=by
    have hz':=(XM.1 hz).2;simp [hj,hz']
   rw [this]
  have hcall:=hS blk cap zs w hHold hc3 hn2;unfold Oper.wp;have hrun:(execOp a.eval o).run P w= .ok (.enter fs #[h]) w:=by
   have hev:a.eval (.func fs)= .func (.func fs) #[] #[]:=rfl;simp [execOp,ho,resolve,Deferred.ofValue,hev,invoke,hxv,hc]
  rw [hrun,Oper.upon_enter,hh];refine hcall.mono fun e' w' ⟨he',m,os,hw'⟩=>?_;subst he';have hsl:(zs.mergeSort fun x y=>decide (x≤y)).length=zs.length:=UA _;generalize hsd:(zs.mergeSort fun x y=>decide (x≤y))=sd at hsl hw' kk;have hch0:Chg (fun b=>b=blk) w w':=by
   rw [hw'];refine ⟨rfl,rfl,rfl,?_,fun i hi hne=>?_⟩
   · simp [grow,putRow,mapBlock,Go.Sort.ahead]
   · have:(grow (putRow (Value.int .i64) (Go.Sort.ahead w m) blk 0 sd.toArray) os).heap=(w.heap.modify blk (onCells (putCells (Value.int .i64) 0 sd.toArray)))++os:=rfl;rw [this,Vh (by simpa using hi),VG,US (fun e=>hne e.symm)]
  rw [hd];refine kk _ _ ⟨fun l'=>if l'=l then (fun b=>b=blk) else F l',?_⟩;refine H.change (fun l'=>l'=l) hdn (hch0.wid fun b hb'=> .inl ⟨l,_,rfl,hl,by rw [hb'];exact hblkF⟩) (fun l' z hne hz=>?_) (fun l' z b hT' hz hb'=>?_) (fun hmm l' u p hT' hz=>?_) (fun l1 l2 _ _ _ h1 h2 hne=>UU (h1.trans h2.symm) hne) (fun _=> .val _) (fun _=>by rw [hw'];exact Ue _ _)
  · rcases Ya hz with ⟨e1,_⟩|⟨_,e1⟩
    · exact UU e1.symm hne
    · exact ⟨e1,by simp [hne]⟩
  · subst hT';simp only [if_true] at hb';exact .inl ⟨l',_,rfl,hl,by rw [hb'];exact hblkF⟩
  · subst hT';rw [ZW] at hz
    cases hz;simp only [if_true];rcases hrow.2 with ⟨e1,_⟩|⟨g',cap',cur,e1,_,e3,e4,e5,e6,e7⟩
    · rw [hh] at e1;cases e1
    · rw [hh] at e1
      cases e1;have hlt:=Yu e3;refine .own (sd.map (Value.int .i64)) (fun _ _=>False) ⟨by rw [Xd,hsl,Xw], .inr ⟨blk,cap,putCells (Value.int .i64) 0 sd.toArray cur,hh,Xf _,?_,e4,e5,by simp [putCells];omega,?_⟩⟩ sM (fun t v p hv hp=>?_) (fun _ _ _ _ _ _ h=>h.elim) (fun _ _ _ h=>h.elim) (fun b=>by rw [hh];simp [Value.ownBlock,eq_comm])
      · rw [hw'];have:(grow (putRow (Value.int .i64) (Go.Sort.ahead w m) blk 0 sd.toArray) os).heap=(w.heap.modify blk (onCells (putCells (Value.int .i64) 0 sd.toArray)))++os:=rfl;rw [this,Vh (by simpa using hlt),VG,UT rfl,e3];rfl
      · have:=R3 (Value.int .i64) sd.toArray cur (by simp only [X8];rw [hsl,e6];omega);simp only [X8] at this;rw [Xw,←hsl];exact this
      · rw [Xm,XA] at hv hp;obtain ⟨z,hz,rfl⟩:=hv;obtain ⟨z',hz',rfl⟩:=hp;rw [hz] at hz';cases hz';exact .shr (.val _) (fun _ h=>h)
end
theorem ZgD {w w':World} (h:Ext w w') (hd:w.drawn≤w'.drawn):∃q os',w'=Go.Sort.grow (w.drewN q) os':=by
 refine ⟨w'.drawn-w.drawn,w'.heap.extract w.heap.size w'.heap.size,?_⟩
 have hh:w'.heap=w.heap++w'.heap.extract w.heap.size w'.heap.size:=by
  apply Array.ext_getElem?;intro i;rcases XF i w.heap.size with hi|hi
  · rw [Vh hi];exact Below.block h i hi
  · rw [Array.getElem?_append_right hi,Array.getElem?_extract];have hs:=h.size;rcases XF i w'.heap.size with hi2|hi2
    · rw [UT (by simp;omega),show w.heap.size+(i-w.heap.size)=i by omega]
    · rw [Vj hi2,US (by simp;omega)]
 have h1:=h.os
 have h2:=h.tape
 have h3:=h.output
 cases w' with
 | mk heap' tape' drawn' os' output'=>
   simp only at h1 h2 h3 hh hd;simp only [Go.Sort.grow,World.drewN];rw [←hh,h1,h2,h3,show w.drawn+(drawn'-w.drawn)=drawn' by omega]
theorem AFg.exact {P:Program} {g:Nat} {ps:List PV} {x:Value} (h:AFg P g ps (· = .val x)) {M:BS} {W:World} {vs:List Value} (hl:vs.length=ps.length) (hv:∀(i:Nat) (v:Value) (p:PV),vs[i]? =some v→ps[i]? =some p→Shr M W v p):
 Calls P g vs.toArray W fun e w'=>e= .returned x∧∃q os',w'=Go.Sort.grow (W.drewN q) os':=
 (h (fun _=>False) W vs (M0k.true W) hl (fun i v p h1 h2=>(hv i v p h1 h2).anti fun _ _ h=>h.elim)).mono fun e w' ⟨v,p,F,h1,h2,h3,h4,_,h6⟩=>by
   subst h2;have:=(h4.sh rfl).vOf;subst this;exact ⟨h1,ZgD h3 (h6 trivial)⟩
section
variable {P:Program} {c:Ctx} {ops:Array Oper} {Q:Exit→Act→World→Prop} {rest:List Oper} {sL hP:List (Nat×Ent)} {o:Oper}
end
open Go.ChangeMaps (setBlock)
def itv (r:Nat):Value:= .pointer (some ⟨r,0,none⟩)
def itP (b r clock:Nat) (es:Array MapEntry) (seen:Array Nat):PV:= .oblk (itv r) r (.mapIter (some b) clock seen clock) [(b, .map es clock)]
def itE (b r clock:Nat) (es:Array MapEntry) (seen:Array Nat):Ent:=(itv r,itP b r clock es seen)
theorem Tr.blk {M:BS} {w:World} {v u:Value} {r:Nat} {ob:Obj} {sh:List (Nat×Obj)} {F:BS} (H:Tr M w v (.oblk u r ob sh) F):w.heap[r]? =some ob∧(∀p∈sh,w.heap[p.1]? =some p.2∧¬M p.1)∧∀x,F x↔x=r:=by
 cases H with
 |shr h _=>cases h
 |oblk _ h1 h hs hF=>exact ⟨h,hs,hF⟩
section
variable {P:Program} {c:Ctx} {ops:Array Oper} {Q:Exit→Act→World→Prop} {rest:List Oper} {sL hP:List (Nat×Ent)} {o:Oper}
theorem Zag {t ks e:Nat} {x:Operand} {m:Value} {kv:List (Value×Value)} (d:Nat) (ht:P.underlying t=some (.map ks e)) (k:∀(b r clock:Nat) (es:Array MapEntry),kv=kvOf es→WfM es clock→aL P c ops Q rest ⟨put d (itv r, .val (itv r)) sL,put d (itE b r clock es #[]) hP⟩)
 (hw:ZT ops sL o=some true:=by exact rfl) (hd:o.dst=some d:=by exact rfl) (hn:d<c.nt:=by exact Xa rfl) (ho:o.op= .range t x:=by exact rfl) (hx:ev sL x=some (m, .smap kv):=by exact rfl) (hl:lk hP d=none:=by exact rfl):aL P c ops Q (o::rest) (⟨sL,hP⟩:St):=
 Yy hw fun a w F H=>by
  obtain ⟨hv,hS⟩:=H.rd.ev hx
  cases hS with
  | smap b es clock hM h hW=>
    have key:HoldsF c ⟨put d (itv w.heap.size, .val (itv w.heap.size)) sL,put d (itE b w.heap.size clock es #[]) hP⟩ (fun l'=>if l'=d then (fun x=>x=w.heap.size) else F l') (a.put (some d) (itv w.heap.size)) (w.alloc (.mapIter (some b) clock #[] clock)):=by
     refine H.change (fun l'=>l'=d) hn ((Ext.alloc _ _).chg) (fun l' x hne hx'=>?_) (fun l' x b' hT hx' hb=>?_) (fun hm l' u q hT hx'=>?_) (fun l1 l2 _ _ _ h1 h2 hne=>UU (h1.trans h2.symm) hne) (fun hm=> .val _)
     · rcases Ya hx' with ⟨e1,_⟩|⟨_,e1⟩
       · exact UU e1.symm hne
       · exact ⟨e1,by simp [hne]⟩
     · subst hT;simp only [if_true] at hb;exact .inr (by rw [hb];exact Xj _)
     · subst hT;rw [ZW] at hx';unfold itE itP at hx'
       cases hx';simp only [if_true];refine .oblk w.heap.size rfl ?_ (fun p hp=>?_) (fun x=>Iff.rfl)
       · show (w.heap.push _)[w.heap.size]? =_;simp
       · rw [Xl] at hp;subst hp;exact ⟨(Ext.alloc w _).block h,fun hb=>hM (hm b (Yu h) hb)⟩
    have hrun:(execOp a.eval o).run P w= .ok (.value (itv w.heap.size)) (w.alloc (.mapIter (some b) clock #[] clock)):=by
     simp [execOp,ho,hv,Instr.range,run_underlying ht,getObj,newObj,Sem.run,h,itv]
    unfold Oper.wp;rw [hrun,Oper.upon_value,hd];exact k _ _ _ _ rfl hW _ _ ⟨_,key⟩
theorem Zdu {x:Operand} {q:PV} {b r clock:Nat} {es:Array MapEntry} {seen:Array Nat} (l d:Nat) (hW:WfM es clock)
 (k0:leftOf es seen= #[]→aL P c ops Q rest ⟨put d (.tuple [.bool false].toArray, .tup [.val (.bool false)]) sL,hP⟩)
 (k1:∀e∈(leftOf es seen).toList,aL P c ops Q rest ⟨put d (.tuple [.bool true,e.key,e.val].toArray, .tup [.val (.bool true), .val e.key, .val e.val]) sL,put l (itE b r clock es (seen.push e.born)) hP⟩)
 (hw:ZT ops sL o=some true:=by exact rfl) (hd:o.dst=some d:=by exact rfl) (hn:d<c.nt:=by exact Xa rfl) (ho:o.op= .next x false:=by exact rfl) (hx:ev sL x=some (itv r,q):=by exact rfl) (hl:lk hP l=some (itE b r clock es seen):=by exact rfl):aL P c ops Q (o::rest) (⟨sL,hP⟩:St):=
 Yy hw fun a w F H=>by
  have hv:=(H.rd.ev hx).1;obtain ⟨h,hs,hF⟩:=(H.tr l _ _ hl).blk;obtain ⟨hb,hMb⟩:=hs (b, .map es clock) sM;dsimp only at hb hMb;rcases run_next_at (P:=P) w o.type r b clock clock seen es clock h hb (fun x hx=>hW.1 x hx) (Xj _) with ⟨h0,hr⟩|⟨e,he,w1,hw1,hr⟩
  · have hrun:(execOp a.eval o).run P w= .ok (.value (.tuple [.bool false].toArray)) w:=by
     simp [execOp,ho,hv,itv,hr]
    unfold Oper.wp;rw [hrun,Oper.upon_value,hd];refine k0 (Array.eq_empty_of_size_eq_zero h0) _ _ ⟨F,H.put hn (.tup _ _ rfl fun i x p hx hp=>?_)⟩;match i with
    |0=>simp at hx hp;subst hx hp;exact .val _
    |i+1=>simp at hx
  · have hrun:(execOp a.eval o).run P w= .ok (.value (.tuple [.bool true,e.key,e.val].toArray)) (setBlock w1 r (.mapIter (some b) clock (seen.push e.born) clock)):=by
     simp [execOp,ho,hv,itv,hr]
    unfold Oper.wp;rw [hrun,Oper.upon_value,hd];have hlt:=Yu h;have hh:w1.heap=w.heap:=by rcases hw1 with rfl|rfl<;>rfl
    (have hbr:b≠r:=fun e=>by subst e;exact hMb (.inr ⟨l,_,hl,(hF b).2 rfl⟩));have hch:Chg (fun x=>x=r) w (setBlock w1 r (.mapIter (some b) clock (seen.push e.born) clock)):=by
     refine ⟨by rcases hw1 with rfl|rfl<;>rfl,by rcases hw1 with rfl|rfl<;>rfl,by rcases hw1 with rfl|rfl<;>rfl,?_,fun i hi hne=>?_⟩
     · show _≤(w1.heap.setIfInBounds r _).size;rw [hh];simp
     · show (w1.heap.setIfInBounds r _)[i]? =_;rw [hh,Uw (fun e=>hne e.symm)]
    refine k1 e he _ _ ⟨F,H.change (fun l'=>l'=l) hn (hch.wid fun x hx=> .inl ⟨l,_,rfl,hl,(hF x).2 hx⟩) (fun l' x hne hx'=>?_) (fun l' x b' hT' hx' hb'=>?_) (fun hmm l' u q hT' hx'=>?_) (fun l1 l2 _ _ _ h1 h2 hne=>UU (h1.trans h2.symm) hne) (fun _=> .tup _ _ rfl fun i x p hx hp=>?_) (fun _=>?_)⟩
    · rcases Ya hx' with ⟨e1,_⟩|⟨_,e1⟩
      · exact UU e1.symm hne
      · exact ⟨e1,rfl⟩
    · subst hT';exact .inl ⟨l',_,rfl,hl,hb'⟩
    · subst hT';rw [ZW] at hx';unfold itE itP at hx'
      cases hx';refine .oblk r rfl ?_ (fun p hp=>?_) hF
      · show (w1.heap.setIfInBounds r _)[r]? =_;rw [hh];simp [hlt]
      · rw [Xl] at hp;subst hp;exact ⟨(hch.block b (Yu hb) hbr).trans hb,fun hm=>hMb (hmm b (Yu hb) hm)⟩
    · match i with
      |0=>simp at hx hp;subst hx hp;exact .val _
      |1=>simp at hx hp;subst hx hp;exact .val _
      |2=>simp at hx hp;subst hx hp;exact .val _
      |i+3=>simp at hx
    · rcases hw1 with rfl|rfl
      · exact Xj _
      · exact Nat.le_succ _
theorem Zdv {st:St} {x:Operand} {q:PV} {b r clock:Nat} {es:Array MapEntry} {seen:Array Nat} {e:MapEntry} (l:Nat) (hW:WfM es clock) (he:e∈es.toList) (ho:o.op= .entry x:=by exact rfl) (hx:ev st.slots x=some (itv r,q):=by exact rfl) (hl:lk st.heap l=some (itE b r clock es (seen.push e.born)):=by exact rfl):YE P st o (· = .tuple [e.key,e.val].toArray) (.tup [.val e.key, .val e.val]):= .exact fun M F a w H=>by
 have hv:=(H.ev hx).1
 obtain ⟨h,hs,hF⟩:=(H.tr l _ _ hl).blk
 obtain ⟨hb,hMb⟩:=hs (b, .map es clock) sM
 have hr:=run_entry_at (P:=P) w r b clock seen es clock e h hb he hW.2
 refine ⟨.tup _ _ rfl fun i x p hx hp=>?_,by simp [execOp,ho,hv,itv,hr]⟩
 match i with
 |0=>simp at hx hp;subst hx hp;exact .val _
 |1=>simp at hx hp;subst hx hp;exact .val _
 |i+2=>simp at hx
end
theorem Zah (es:Array MapEntry):leftOf es #[]=es:=by
 unfold leftOf
 exact Array.filter_eq_self.2 fun x _=>sM
theorem S8 {es:Array MapEntry} {seen:Array Nat} {e:MapEntry} (h:e∈(leftOf es seen).toList):e∈es.toList:=by
 unfold leftOf at h
 rw [UB] at h
 exact (XY.1 h).1
theorem Eo {e:MapEntry}:∀{L:List MapEntry},(L.map (·.born)).Nodup→e∈L→L.Perm (e::L.filter fun x=> !(x.born==e.born))
 | a ::L,hn,he=>by
   rw [Xp,Vc] at hn;rcases Xq.1 he with rfl|he
   · rw [List.filter_cons_of_neg sM];rw [UC.2 fun x hx=>?_];have:x.born≠e.born:=fun h=>hn.1 (Xg.2 ⟨x,hx,h⟩);simpa using this
   · have:a.born≠e.born:=fun h=>hn.1 (Xg.2 ⟨e,he,h.symm⟩);rw [List.filter_cons_of_pos (by simpa using this)];exact ((Eo hn.2 he).cons a).trans (List.Perm.swap _ _ _)
theorem TY {es:Array MapEntry} {seen:Array Nat} {e:MapEntry} {clock:Nat} (hW:WfM es clock) (he:e∈(leftOf es seen).toList):(kvOf (leftOf es seen)).Perm ((e.key,e.val)::kvOf (leftOf es (seen.push e.born))):=by
 have h1:((leftOf es seen).toList.map (·.born)).Nodup:=by
  unfold leftOf;rw [UB];exact hW.2.sublist (List.filter_sublist.map _)
 have h2:=(Eo h1 he).map fun x=>(x.key,x.val)
 unfold kvOf
 refine h2.trans ?_
 rw [Xp]
 refine List.Perm.cons _ (List.Perm.of_eq ?_)
 congr 1
 unfold leftOf
 rw [UB,UB,List.filter_filter]
 refine List.filter_congr fun x _=>?_
 rw [Array.contains_push]
 cases seen.contains x.born<;>simp [Bool.beq_comm]
def ArrT (P:Program) (t len:Nat):Bool:=match P.underlying t with
 |some (.array n e)=>Nat.beq n len&&(match P.info? e with|some i=>Nat.beq i.size 1|none=>false)
 |_=>false
theorem ArrT.run {P:Program} {t len:Nat} (h:ArrT P t len=true):∃e i,P.underlying t=some (.array len e)∧P.info? e=some i∧i.size=1:=by
 unfold ArrT at h
 split at h
 · rename_i n e hu;rw [Xe] at h;obtain ⟨h1,h2⟩:=h;split at h2
   · rename_i i hi;have e1:=XG h1;subst e1;exact ⟨e,i,hu,hi,XG h2⟩
   · cases h2
 · cases h
section
variable {P:Program} {st:St} {o:Oper}
theorem ZgE {t len j e' k' n i:Nat} {x y:Operand} {h:Value} {kd:IntKind} {p q:PV} {cs:List PV} (l:Nat) (hT:ArrT P t len=true) (ho:o.op= .indexAddr t x y:=by exact rfl) (hx:ev st.slots x=some (padd (sbase h) j,p):=by exact rfl) (hy:ev st.slots y=some (.int kd (i:Int),q):=by exact rfl) (hl:lk st.heap l=some (h, .own e' k' n cs):=by exact rfl) (hn:0<n:=by first|omega|exact Xa rfl) (hi:i<len:=by first|omega|exact Xa rfl):YE P st o (· =padd (sbase h) (j+i)) (.val (padd (sbase h) (j+i))):=
 .exact fun M F a w H=>by
  have hv:=(H.ev hx).1;have hyv:=(H.ev hy).1;obtain ⟨g,cap,rfl,_⟩:=K3 (H.tr l _ _ hl) hn;obtain ⟨e,inf,hu,hinf,hs1⟩:=ArrT.run hT;refine ⟨.val _,?_⟩;simp only [sbase,padd] at hv ⊢;simp [execOp,ho,hv,hyv,Instr.indexAt,asIntOf,run_underlying hu,Instr.sureAddr,sizeOf,typeInfo,hinf,hs1,hi,Y4]
theorem De {t:Nat} {x y:Operand} {v0 v1:Value} {p0 p1:PV} {z:Value} (hT:ArrT P t 2=true) (hz:ZeroT P t z) (ho:o.op= .build t #[(0,x),(1,y)]:=by exact rfl) (hx:ev st.slots x=some (v0,p0):=by exact rfl) (hy:ev st.slots y=some (v1,p1):=by exact rfl) (h0:v0.oneCell'=true:=by exact rfl) (h1:v1.oneCell'=true:=by exact rfl) (hzs:z.cells.size=2:=by exact rfl):YE P st o (· = .agg [v0,v1].toArray) (.agg [p0,p1]):=
 .exact fun M F a w H=>by
  obtain ⟨hv,hS0⟩:=H.ev hx;obtain ⟨hyv,hS1⟩:=H.ev hy;obtain ⟨e,inf,hu,hinf,hs1⟩:=ArrT.run hT;have c0:=WN h0;have c1:=WN h1;obtain ⟨a0,a1,hza⟩:∃a0 a1,z.cells= #[a0,a1]:=by
   generalize z.cells=A at hzs;obtain ⟨L⟩:=A;match L,hzs with
   |[a0,a1],_=>exact ⟨a0,a1,rfl⟩
  refine ⟨.agg _ _ rfl fun i u r hu hr=>?_,?_⟩
  · match i with
    |0=>simp at hu hr;subst hu hr;exact hS0
    |1=>simp at hu hr;subst hu hr;exact hS1
    |i+2=>simp at hu
  · simp [execOp,ho,hv,hyv,Instr.build,run_underlying hu,ZeroT.run hz,sizeOf,typeInfo,hinf,hs1,Instr.fill,c0,c1,hza]
end
abbrev Pr:=ByteArray×ByteArray
def prOk (k:Pr):Prop:=k.1.size≤140737488355328∧k.2.size≤140737488355328
structure PkT (P:Program) (t ks s e:Nat) (z:Value):Prop where
 ht:P.underlying t=some (.map ks e)
 hu:P.underlying ks=some (.array 2 s)
 hs:P.underlying s=some .string
 hk:P.keyType ks=true
 hk2:P.keyTypeAt 2 ks=true
 hti:P.tiled 2 ks=true
 hc2:P.cellsOf ks=2
 hc1:P.cellsOf s=1
 hf:∀a b:ByteArray,(Value.agg #[.string a, .string b]).formed P ks=true
 hsz:∃n,P.types.size=n+1
 hz:ZeroT P e z
theorem PkT.law {P:Program} {t ks s e:Nat} {z:Value} (h:PkT P t ks s e z):WideMaps.KeyLaw P ks:=deep_law (m:=2) dC h.hk2 h.hti (by rw [h.hu])
section
variable {P:Program} {c:Ctx} {ops:Array Oper} {Q:Exit→Act→World→Prop} {rest:List Oper} {sL hP:List (Nat×Ent)} {o:Oper}
end
section
variable {P:Program} {c:Ctx} {ops:Array Oper} {Q:Exit→Act→World→Prop} {rest:List Oper} {sL hP:List (Nat×Ent)} {o:Oper}
end
def CY (c:Ctx) (R:Value→PV→List (Nat×Ent)→Prop) (e:Ending) (w':World):Prop:=∃v p h F,e= .returned v∧R v p h∧HeapF c h F w'∧Shr (mof c h F) w' v p
def AFh (dd:Prop) (P:Program) (f:FuncId) (ar h:List (Nat×Ent)) (R:Value→PV→List (Nat×Ent)→Prop):Prop:=
 ∀(M N:BS) (w:World) (F:Nat→BS),HeapF ⟨w,M,N,0,dd,[]⟩ h F w→(∀i x,lk ar i=some x→Shr (mof ⟨w,M,N,0,dd,[]⟩ h F) w x.1 x.2)→Calls P f (ar.map (·.2.1)).toArray w (CY ⟨w,M,N,0,dd,[]⟩ R)
theorem HeapF.nt {c c':Ctx} {h:List (Nat×Ent)} {F:Nat→BS} {w:World} (H:HeapF c h F w) (h0:c'.w0=c.w0) (h1:c'.M0=c.M0) (h2:c'.N0=c.N0) (h3:c'.dr→c.dr) (hm:M0k c'.w0 c'.M0 c'.N0 c'.dr):HeapF c' h F w:=by
 obtain ⟨w0,M0,N0,nt,dr,df⟩:=c
 obtain ⟨w0',M0',N0',nt',dr'⟩:=c'
 simp only at h0 h1 h2 h3
 subst h0 h1 h2
 exact ⟨H.tr,H.lo,H.dj,hm,H.ext,fun h=>H.dw (h3 h)⟩
def J0:Nat→List (Nat×Ent)→Bool
 |_,[]=>true
 |i,(j,_)::l=>Nat.beq i j&&J0 (i+1) l
theorem Df:∀(l:List (Nat×Ent)) (i t:Nat) (x:Ent),J0 i l=true→lk l t=some x→i≤t∧(l.map (·.2.1))[t-i]? =some x.1
 |[],_,_,_,_,h=>by simp [lk] at h
 | (j,y)::l,i,t,x,ho,h=>by
   simp only [J0,Xe] at ho;obtain ⟨h1,h2⟩:=ho;have h1:=XG h1;subst h1;simp only [lk] at h
   cases hb:Nat.beq i t
   · rw [hb] at h;obtain ⟨h3,h4⟩:=Df l (i+1) t x h2 h;have:t-i=(t-(i+1))+1:=oM;exact ⟨oM,by rw [this];simpa using h4⟩
   · rw [hb] at h;have:i=t:=XG hb;subst this
     cases h;simp
theorem PZ:∀(l:List (Nat×Ent)) (i t:Nat) (x:Ent),J0 i l=true→lk l t=some x→i≤t∧(l[t-i]?).map (·.2)=some x
 |[],_,_,_,_,h=>by simp [lk] at h
 | (j,y)::l,i,t,x,ho,h=>by
   simp only [J0,Xe] at ho;obtain ⟨h1,h2⟩:=ho;have h1:=XG h1;subst h1;simp only [lk] at h
   cases hb:Nat.beq i t
   · rw [hb] at h;obtain ⟨h3,h4⟩:=PZ l (i+1) t x h2 h;have:t-i=(t-(i+1))+1:=oM;exact ⟨oM,by rw [this];simpa using h4⟩
   · rw [hb] at h;have:i=t:=XG hb;subst this
     cases h;simp
section
variable {P:Program}
theorem AFh.of_body {dd:Prop} {f:FuncId} {fn:Func} {code:Code} {ar h:List (Nat×Ent)} {R:Value→PV→List (Nat×Ent)→Prop} (nt:Nat) (hf:P.funcs[f]? =some fn) (hb:fn.body=some code) (hnt:fn.ntmps=nt) (hn:ar.length≤nt) (ho:J0 0 ar=true)
 (H:∀(w0:World) (M0 N0:BS),aC P ⟨w0,M0,N0,nt,dd,[]⟩ code (bodyPost P fn (CY ⟨w0,M0,N0,nt,dd,[]⟩ R)) ⟨ar,h⟩):AFh dd P f ar h R:=fun M N w F HF hv=>by
 subst hnt
 refine calls_of_wp hf hb ?_
 refine wp_mono (H w M N _ w ⟨F,⟨HF.nt rfl rfl rfl id HF.m0,fun t v p ht=>?_,?_,rfl⟩⟩) fun e a w' hq=>?_
 · obtain ⟨_,h1⟩:=Df ar 0 t (v,p) ho ht;refine ⟨?_,hv t (v,p) ht⟩;simp only [VS] at h1;have:=Zf h1;rw [Vh (by simpa using this)];simpa using h1
 · simp;omega
 · have key:∀e w',CY ⟨w,M,N,fn.ntmps,dd,[]⟩ R e w'→CY ⟨w,M,N,0,dd,[]⟩ R e w':=fun _ _ ⟨v',p,h',F',h3,h4,h5,h6⟩=>⟨v',p,h',F',h3,h4,h5.nt rfl rfl rfl id h5.m0,h6⟩
   cases e with
   |ret=>obtain ⟨h1,v,h2,h3⟩:=hq;exact ⟨h1,v,h2,key _ _ h3⟩
   |normal=>obtain ⟨h1,v,h2,h3⟩:=hq;exact ⟨h1,v,h2,key _ _ h3⟩
   |panic ch=>obtain ⟨h1,h3⟩:=hq;exact ⟨h1,key _ _ h3⟩
   |outgrown=>exact key _ _ hq
   |_=>exact hq.elim
end
section
variable {P:Program} {c:Ctx} {ops:Array Oper} {Q:Exit→Act→World→Prop} {rest:List Oper} {sL hP:List (Nat×Ent)} {o:Oper}
theorem Dg {fn:Func} {R:Value→PV→List (Nat×Ent)→Prop} {t:Nat} {v:Value} {p:PV} (h:List (Nat×Ent)) (hr:fn.results= #[.tmp t]) (ht:lk sL t=some (v,p)) (hs:Sub h hP) (hR:R v p h) (hdf:c.df=[]:=by exact rfl):aR c (bodyPost P fn (CY c R)) (⟨sL,hP⟩:St):=fun a w ⟨F,H0⟩=>by
 have H:HoldsF c (⟨sL,h⟩:St) F a w:=H0.less (fun _ _ h=>h) fun t x hx=>hs.lk hx
 obtain ⟨h1,h2⟩:=H.sl t v p ht
 refine ⟨H.df.trans hdf,v,?_,v,p,h,F,rfl,hR,H.toHeapF,h2⟩
 simp [results,hr,X0,h1]
theorem ZlP {fn:Func} {R:Value→PV→List (Nat×Ent)→Prop} (h:List (Nat×Ent)) (hr:fn.results= #[]) (hs:Sub h hP) (hR:R (.tuple #[]) (.val (.tuple #[])) h) (hdf:c.df=[]:=by exact rfl):aR c (bodyPost P fn (CY c R)) (⟨sL,hP⟩:St):=fun a w ⟨F,H0⟩=>by
 have H:HoldsF c (⟨sL,h⟩:St) F a w:=H0.less (fun _ _ h=>h) fun t x hx=>hs.lk hx
 refine ⟨H.df.trans hdf, .tuple #[],?_, .tuple #[], .val (.tuple #[]),h,F,rfl,hR,H.toHeapF, .val _⟩
 simp [results,hr]
theorem GW {fn:Func} {R:Value→PV→List (Nat×Ent)→Prop} (h:List (Nat×Ent)) (hr:fn.results= #[]) (hs:Sub h hP) (hR:R (.tuple #[]) (.val (.tuple #[])) h) (hdf:c.df=[]:=by exact rfl):aN c (bodyPost P fn (CY c R)) (⟨sL,hP⟩:St):=ZlP h hr hs hR hdf
theorem ZgF {dd:Prop} {f:Nat} {ar:List (Nat×Ent)} {R:Value→PV→List (Nat×Ent)→Prop} (K:List Nat) (d:Nat) (hw:ZT ops sL o=some true) (hd:o.dst=some d) (hn:d<c.nt)
 (hE:∀a w F,HoldsF c (⟨sL,hP⟩:St) F a w→(execOp a.eval o).run P w= .ok (.enter f (ar.map (·.2.1)).toArray) w∧∀(i:Nat) (x:Value) (q:PV),((ar.map (·.2)).map (·.1))[i]? =some x→((ar.map (·.2)).map (·.2))[i]? =some q→Shr (mof c hP F) w x q)
 (hA:AFh dd P f ar (Jl K hP) R) (hio:J0 0 ar=true) (hdd:c.dr→dd)
 (k:∀v p h,R v p h→aL P c ops Q rest ⟨put d (v,p) sL,h++Kk K hP⟩):aL P c ops Q (o::rest) (⟨sL,hP⟩:St):=
 Yy hw fun a w F H=>by
  obtain ⟨hr,h2⟩:=hE a w F H;have hfr:=H.frame K;have hin:∀b,mof ⟨w,fun b=>c.M0 b∨∃l x,K.elem l=true∧lk hP l=some x∧F l b,nK K hP F,c.nt,c.dr,c.df⟩ (Jl K hP) F b→mof c hP F b:=by
   rintro b ((h|⟨l,x,_,h1,h2⟩)|⟨l,x,h1,h2⟩)
   · exact .inl h
   · exact .inr ⟨l,x,h1,h2⟩
   · exact .inr ⟨l,x,(Kx.1 h1).2,h2⟩
  have hcall:=hA (fun b=>c.M0 b∨∃l x,K.elem l=true∧lk hP l=some x∧F l b) (nK K hP F) w F
   ⟨hfr.tr,hfr.lo,hfr.dj,hfr.m0.up hdd,hfr.ext,fun _=>Xj _⟩
   (fun i x hi=>by
     obtain ⟨_,h3⟩:=PZ ar 0 i x hio hi;rw [VS] at h3;exact (h2 i x.1 x.2 (by rw [Xm,Xm,h3];rfl) (by rw [Xm,Xm,h3];rfl)).anti fun b _ hb=>hin b hb)
  unfold Oper.wp;rw [hr,Oper.upon_enter];refine hcall.mono fun e w' ⟨v,p,h,F',e1,e2,e3,e4⟩=>?_;subst e1;have hch:Chg (nK K hP F) w w':=e3.ext;have hlow:∀b,b<w.heap.size→mof ⟨w,fun b=>c.M0 b∨∃l x,K.elem l=true∧lk hP l=some x∧F l b,nK K hP F,0,dd,[]⟩ h F' b→mof c hP F b:=by
   rintro b hlt ((h1|⟨l,x,_,h1,h2⟩)|⟨l,x,h1,h2⟩)
   · exact .inl h1
   · exact .inr ⟨l,x,h1,h2⟩
   · rcases e3.lo l x b h1 h2 with h3|⟨l',x',_,h3,h4⟩
     · exact UU hlt (by simp only at h3;omega)
     · exact .inr ⟨l',x',h3,h4⟩
  have H':HoldsF ⟨w,fun b=>c.M0 b∨∃l x,K.elem l=true∧lk hP l=some x∧F l b,nK K hP F,c.nt,c.dr,c.df⟩ (⟨put d (v,p) sL,h⟩:St) F' (a.put o.dst v) w':=by
   refine ⟨e3.nt rfl rfl rfl hdd hfr.m0,fun t u q ht=>?_,by rw [hd];simpa [Act.put] using H.size,by rw [hd];exact H.df⟩;rw [hd];rcases Ya ht with ⟨rfl,e⟩|⟨hne,e⟩
   · cases e;refine ⟨?_,e4⟩;simp [Act.put,H.size,hn]
   · obtain ⟨h3,h4⟩:=H.sl t u q e;refine ⟨?_,h4.to hch (fun b _ ⟨l,x,_,h5,h6⟩=> .inr ⟨l,x,h5,h6⟩) (fun b hlt hb=>hlow b hlt hb)⟩;simpa [Act.put,VT,hne] using h3
  obtain ⟨H2,_,_⟩:=H.unframe H';exact k v p h e2 _ _ ⟨_,H2⟩
theorem WP {dd:Prop} {f:Nat} {ar h0:List (Nat×Ent)} {R:Value→PV→List (Nat×Ent)→Prop} {xs:Array Operand} {ats:Array TypeId} (K:List Nat) (d:Nat) (hc:∀args w,(callFunc f args).run P w= .ok (.enter f args) w) (hA:AFh dd P f ar h0 R)
 (k:∀v p h,R v p h→aL P c ops Q rest ⟨put d (v,p) sL,h++Kk K hP⟩) (hw:ZT ops sL o=some true:=by exact rfl) (hd:o.dst=some d:=by exact rfl) (hn:d<c.nt:=by exact Xa rfl)
 (ho:o.op= .call {callee:= .value (.func f),args:=xs,argTypes:=ats}:=by exact rfl) (hx:evL sL xs.toList=some (ar.map (·.2)):=by exact rfl) (hh0:h0=Jl K hP:=by exact rfl) (hio:J0 0 ar=true:=by exact rfl) (hdd:c.dr→dd:=by first|exact id|exact fun h=>h.elim|exact fun _=>trivial):aL P c ops Q (o::rest) (⟨sL,hP⟩:St):=by
 subst hh0
 refine ZgF K d hw hd hn (fun a w F H=>?_) hA hio hdd k
 obtain ⟨h1,h2⟩:=JE H.rd hx
 refine ⟨?_,h2⟩
 have hargs:xs.map a.eval=(ar.map (·.2.1)).toArray:=by
  rw [show ar.map (·.2.1)=(ar.map (·.2)).map (·.1) by rw [XI];rfl,←h1,←VD,Vv]
 simp [execOp,ho,resolve,Act.eval,Deferred.ofValue,invoke,hargs,hc]
theorem ZgG {dd:Prop} {f:Nat} {es:List Ent} {us:List Value} {h0:List (Nat×Ent)} {ar:List (Nat×Ent)} {R:Value→PV→List (Nat×Ent)→Prop} {x:Operand} {q:PV} {xs:Array Operand} {ats:Array TypeId} (K:List Nat) (d:Nat) (hc:∀args w,(callFunc f args).run P w= .ok (.enter f args) w) (hA:AFh dd P f ar h0 R)
 (k:∀v p h,R v p h→aL P c ops Q rest ⟨put d (v,p) sL,h++Kk K hP⟩) (hw:ZT ops sL o=some true:=by exact rfl) (hd:o.dst=some d:=by exact rfl) (hn:d<c.nt:=by exact Xa rfl)
 (ho:o.op= .call {callee:= .value x,args:=xs,argTypes:=ats}:=by exact rfl) (hf:ev sL x=some (.func (.func f) #[] us.toArray,q):=by exact rfl) (hx:evL sL xs.toList=some es:=by exact rfl) (har:ar.map (·.2)=es++us.map (fun u=>(u, .val u)):=by exact rfl) (hh0:h0=Jl K hP:=by exact rfl) (hio:J0 0 ar=true:=by exact rfl) (hdd:c.dr→dd:=by first|exact id|exact fun h=>h.elim|exact fun _=>trivial):aL P c ops Q (o::rest) (⟨sL,hP⟩:St):=by
 subst hh0
 refine ZgF K d hw hd hn (fun a w F H=>?_) hA hio hdd k
 obtain ⟨h1,h2⟩:=JE H.rd hx
 have h3:=(H.rd.ev hf).1
 have e1:ar.map (·.2.1)=es.map (·.1)++us:=by
  rw [show ar.map (·.2.1)=(ar.map (·.2)).map (·.1) by rw [XI];rfl,har,Xr,XI];congr 1;exact List.map_id' us
 refine ⟨?_,fun i x q hi hq=>?_⟩
 · have:xs.map a.eval=(es.map (·.1)).toArray:=by rw [←h1,←VD,Vv]
   rw [e1];simp [execOp,ho,resolve,h3,Deferred.ofValue,invoke,this,hc]
 · rw [har] at hi hq;rw [Xr] at hi hq;rcases XF i es.length with hlt|hge
   · rw [X9 (by simpa using hlt)] at hi hq;exact h2 i x q hi hq
   · rw [Vf (by simpa using hge)] at hi hq;simp only [Xd,XI,Xm,XA,Function.comp] at hi hq;obtain ⟨u,hu,rfl⟩:=hi;obtain ⟨u',hu',rfl⟩:=hq;rw [hu] at hu'
     cases hu';exact .val _
theorem P0 {l e k n g cap:Nat} {h:Value} {a:Act} (hh:h= .slice (some ⟨g,0,none⟩) n cap) (zs:List Value) (h1:zs.all Value.oneCell'=true):
 ∀ (m i j:Nat) (cs:List PV) (w:World) (F:Nat→BS) (hp:List (Nat×Ent)),HoldsF c ⟨sL,hp⟩ F a w→lk hp l=some (h, .own e k n cs)→i+m=zs.length→j+i+m≤cs.length→
  ∃w' F' hp',(storeCells ⟨g,j,none⟩ (zs.drop i) i).run P w= .ok () w'∧HoldsF c ⟨sL,hp'⟩ F' a w'∧lk hp' l=some (h, .own e k n (Tn cs (j+i) ((zs.drop i).map PV.val)))∧∀l',l'≠l→lk hp' l'=lk hp l'
 | 0,i,j,cs,w,F,hp,H,hl,hi,hj=>by
   refine ⟨w,F,hp,?_,H,?_,fun _ _=>rfl⟩
   · rw [Vu oM];rfl
   · rw [Vu (by omega:zs.length≤i)];exact hl
 | m +1,i,j,cs,w,F,hp,H,hl,hi,hj=>by
   have hi':i<zs.length:=oM;obtain ⟨v,hv⟩:=Yi hi';have hv1:v.oneCell'=true:=XB.1 h1 v (Xc hv);obtain ⟨F1,H1⟩:=RU H hl hh (show j+i<cs.length by omega) (Shr.val v);obtain ⟨w',F',hp2,hr,H2,hl2,hsame⟩:=P0 hh zs h1 m (i+1) j (cs.set (j+i) (.val v)) _ F1 _ H1 (ZW _ _ _) oM (by simp;omega);refine ⟨w',F',hp2,?_,H2,?_,fun l' hne=>by rw [hsame l' hne,YV (Ne.symm hne)]⟩
   · obtain ⟨xs,Fs,hrow,hlen,_⟩:=(H.tr l _ _ hl).row;subst hh;obtain ⟨z,hz⟩:=Yi (show j+i<xs.length by omega);have hcell:=Wq hrow hz;have hfr:=hrow.frozenAt (j+i);rw [VC (Zf hv),show zs[i]'(Zf hv)=v from (XM.1 hv).2,storeCells];simp only [Sem.run_bind,run_store _ _ _ _ _ hv1,Y4,hcell,hfr,VO,if_false,Result.andThen_ok];exact hr
   · rw [hl2,VC hi',show zs[i]'hi'=v from (XM.1 hv).2,Xp,Tn,XV]
theorem Ep:∀(ps cs:List PV) (j:Nat),(Tn cs j ps).take j=cs.take j
 |[],_,_=>rfl
 | p::ps,cs,j=>by
   rw [Tn];have h:=Ep ps (cs.set j p) (j+1);have h2:=congrArg (List.take j) h;rw [List.take_take,List.take_take,Va (Nat.le_succ j)] at h2;rw [h2,Uu (Xj j)]
theorem ZeN {z:Value} (h:z.cells.toList.all Value.oneCell'=true) (m:Nat):(Builtin.zeroCells z.cells m).toList.all Value.oneCell'=true:=by
 rw [XB]
 intro v hv
 unfold Builtin.zeroCells at hv
 rw [VD,Xg] at hv
 obtain ⟨i,_,rfl⟩:=hv
 rw [getElem!_def]
 cases hc:z.cells[i % z.cells.size]? with
 |none=>rfl
 |some u=>exact XB.1 h u (by rw [←Uz] at hc;exact Xc hc)
theorem Zai {t e kk bytes n i:Nat} {z:Value} {x:Operand} {h:Value} {q:PV} {cs:List PV} (l:Nat) (hT:ElT P t e kk bytes z) (hz0:z.cells.toList.all Value.oneCell'=true) (hw:ZT ops sL o=some true) (hd:o.dst=none)
 (ho:o.op= .call {callee:= .builtin .clear,args:= #[x],argTypes:= #[t]}) (hx:ev sL x=some (slc h i n kk,q)) (hl:lk hP l=some (h, .own e kk n cs)) (hi:i≤n)
 (k:∀cs',cs'.length=cs.length→cs'.take (i*kk)=cs.take (i*kk)→aL P c ops Q rest ⟨sL,put l (h, .own e kk n cs') hP⟩):aL P c ops Q (o::rest) (⟨sL,hP⟩:St):=
 Yy hw fun a w F H=>by
  have hxv:=(H.rd.ev hx).1;obtain ⟨xs,Fs,hrow,hlen,_⟩:=(H.tr l _ _ hl).row;obtain ⟨inf,hi1,hi2,hi3,hi4⟩:=hT.info;have hback:Holds c ⟨sL,put l (h, .own e kk n cs) hP⟩ a w:=⟨F,H.less (fun _ _ h=>h) fun t x hx=>by
   rcases Ya hx with ⟨rfl,rfl⟩|⟨hne,e1⟩
   · exact hl
   · exact e1⟩
  rcases YG hrow with ⟨rfl,rfl,rfl⟩|⟨g,cap,rfl,hc1,hc2,hc3⟩
  · have hi0:i=0:=oM;subst hi0;unfold Oper.wp execOp;simp [ho,hxv,resolve,invoke,builtin,Builtin.clear_,slc,run_underlying hT.ht,Oper.upon,hd,Act.put];exact k cs rfl rfl _ _ hback
  · rcases XF i n with hlt|hge
    · (have hlen':cs.length=n*kk:=by rw [hlen,hrow.1]);(have hzs:(Builtin.zeroCells z.cells (n-i)).toList.length=(n-i)*kk:=by rw [Vm,size_zeroCells,hT.hz]);(have hmul:i*kk+(n-i)*kk=n*kk:=by rw [←VF];congr 1;omega);obtain ⟨w',F',hp',hr,H',hl',hsame⟩:=P0 (P:=P) rfl (Builtin.zeroCells z.cells (n-i)).toList (ZeN hz0 _) _ 0 (i*kk) cs w F hP H hl (Xv _) oM;simp only [VX,VN] at hr hl';have hcap:cap≠i:=oM;obtain ⟨m,hm⟩:∃m,n-i=m+1:=⟨n-i-1,oM⟩;simp only [slc,hcap,if_false,Uc,Y4,Xv,hm] at hxv;rw [hm] at hr hl';unfold Oper.wp execOp;simp [ho,hxv,resolve,invoke,builtin,Builtin.clear_,run_underlying hT.ht,zeroValue,typeInfo,hi1,hi2,hr,Oper.upon,hd,Act.put];refine k (Tn cs (i*kk) ((Builtin.zeroCells z.cells (m+1)).toList.map PV.val)) (ζY _ _ _) (Ep _ _ _) _ _ ⟨F',H'.less (fun _ _ h=>h) fun t x hx=>?_⟩;rcases Ya hx with ⟨rfl,rfl⟩|⟨hne,e1⟩
      · exact hl'
      · show lk hp' t=_;rw [hsame t (Ne.symm hne)];exact e1
    · have hin:i=n:=oM;subst hin;by_cases hca:cap=i
      all_goals
       unfold Oper.wp execOp;simp [ho,hxv,resolve,invoke,builtin,Builtin.clear_,slc,hca,run_underlying hT.ht,Oper.upon,hd,Act.put];exact k cs rfl rfl _ _ hback
theorem Zdw {t e k r n:Nat} {x y:Operand} {v:Value} {q:PV} {cs:List PV} {st:St} (hT:SlT P t e k=true) (ho:o.op= .binOp .eql t x y r:=by exact rfl) (hx:ev st.slots x=some (v, .sl n cs):=by exact rfl) (hy:ev st.slots y=some (.slice none 0 0,q):=by exact rfl):
 YE P st o (fun u=>u= .bool false∨(u= .bool true∧n=0)) (.val (.bool (match v with| .slice a _ _=>a.isNone|_=>false))):=fun M F a w H=>by
 obtain ⟨hv,hS⟩:=H.ev hx
 have hyv:=(H.ev hy).1
 cases hS with
 | emp ad cp hc ha=>
   refine ⟨.bool ad.isNone,?_, .val _,fun N W _ _ _=>?_⟩
   · cases ad with
     |none=>exact .inr ⟨rfl,rfl⟩
     |some _=>exact .inl rfl
   · simp [execOp,ho,hv,hyv,eqGuard,Go.Lib.run_eql_slice_nil W t e ad _ _ 0 0 (SlT.und hT)]
 | sl b off n cp cs vs hn hc hcell hT'=>
   refine ⟨.bool false, .inl rfl, .val _,fun N W _ _ _=>?_⟩;simp [execOp,ho,hv,hyv,eqGuard,Go.Lib.run_eql_slice_nil W t e (some ⟨b,off,none⟩) _ _ 0 0 (SlT.und hT)]
theorem Wy {l:List Oper} (h:List (Nat×Ent)) (hs:Sub h hP) (k:aL P c ops Q l ⟨sL,h⟩):aL P c ops Q l (⟨sL,hP⟩:St):=fun a w ⟨F,H⟩=>k a w ⟨F,H.less (fun _ _ h=>h) fun t x hx=>hs.lk hx⟩
def Dh (P:Program) (fs:Nat):Prop:=∀(p:Option Addr) (cap:Nat) (w:World),Calls P fs #[.slice p 0 cap] w fun e w'=>e= .returned (.tuple #[])∧w'=w
theorem Di {fs e kk d:Nat} {h:Value} {q:PV} {cs:List PV} {x:Operand} {ats:Array TypeId} (l:Nat) (hS:Dh P fs) (hc:∀args w,(callFunc fs args).run P w= .ok (.enter fs args) w)
 (k:aL P c ops Q rest ⟨put d (.tuple #[], .val (.tuple #[])) sL,hP⟩)
 (hw:ZT ops sL o=some true:=by exact rfl) (hd:o.dst=some d:=by exact rfl) (hdn:d<c.nt:=by exact Xa rfl) (ho:o.op= .call {callee:= .value (.func fs),args:= #[x],argTypes:=ats}:=by exact rfl) (hx:ev sL x=some (h,q):=by exact rfl) (hl:lk hP l=some (h, .own e kk 0 cs):=by exact rfl):aL P c ops Q (o::rest) (⟨sL,hP⟩:St):=
 Yy hw fun a w F H=>by
  have hxv:=(H.rd.ev hx).1;obtain ⟨xs,Fs,hrow,_⟩:=(H.tr l _ _ hl).row;have hh:∃p cap,h= .slice p 0 cap:=by
   rcases YG hrow with ⟨h1,_,_⟩|⟨g,cap,h1,_⟩
   · exact ⟨_,_,h1⟩
   · exact ⟨_,_,h1⟩
  obtain ⟨p,cap,rfl⟩:=hh;unfold Oper.wp;have hr:(execOp a.eval o).run P w= .ok (.enter fs #[.slice p 0 cap]) w:=by
   simp [execOp,ho,resolve,Act.eval,Deferred.ofValue,invoke,hc] at hxv ⊢;simp [hxv]
  rw [hr,Oper.upon_enter];refine (hS p cap w).mono fun e w' ⟨e1,e2⟩=>?_;subst e1 e2;rw [hd];exact k _ _ ⟨F,H.put hdn (.val _)⟩
end
section
variable {P:Program} {st:St} {o:Oper}
theorem Ga {M:BS} {w:World} {v:Value} {us:List Value} (h:Shr M w v (.agg (us.map PV.val))):v= .agg us.toArray:=by
 generalize hp:PV.agg (us.map PV.val)=p at h
 cases h with
 | agg vs ps hl hT=>
   cases hp;congr 2;apply Vq;intro i;rw [Xd] at hl;rcases XF i us.length with hi|hi
   · obtain ⟨u,hu⟩:=Yi hi;obtain ⟨x,hx⟩:=Yh hu hl.symm;have h1:=hT i x (.val u) hx (by rw [Xm,hu];rfl);have h2:x=u:=h1.vOf;rw [hx,hu,h2]
   · rw [XL hi,XL oM]
 |_=>cases hp
theorem Zlh {t r:Nat} {x y:Operand} {v v':Value} {us us':List Value} {b:Bool} (ht:P.underlying t=some (.struct (P.fieldsOf t))) (hp:P.stoodInHeld t=false) (hg:P.eqGuardType P.depth t=false)
 (hE:∀w,(Op.eqFields 9999 us.toArray us'.toArray (P.fieldsOf t).toList).run P w= .ok b w) (hx:ev st.slots x=some (v, .agg (us.map PV.val))) (hy:ev st.slots y=some (v', .agg (us'.map PV.val))) (ho:o.op= .binOp .eql t x y r:=by exact rfl):YE P st o (· = .bool b) (.val (.bool b)):=
 .exact fun M F a w H=>⟨.val _,by
  obtain ⟨h1,h2⟩:=H.ev hx;obtain ⟨h3,h4⟩:=H.ev hy;have e1:=Ga h2;have e2:=Ga h4;subst e1 e2;have hr:(Op.equalIn 10000 t (.agg us.toArray) (.agg us'.toArray)).run P w= .ok b w:=by rw [run_equalIn_struct w 9999 t _ _ ht hp];exact hE w
  simp [execOp,ho,h1,h3,run_eqGuard_agg w .eql t x y us.toArray us'.toArray hg,run_eql_struct,hr]⟩
theorem ZmQ {t r:Nat} {x y:Operand} {v v':Value} {us us':List Value} {b:Bool} (ht:P.underlying t=some (.struct (P.fieldsOf t))) (hp:P.stoodInHeld t=false) (hg:P.eqGuardType P.depth t=false)
 (hE:∀w,(Op.eqFields 9999 us.toArray us'.toArray (P.fieldsOf t).toList).run P w= .ok b w) (hx:ev st.slots x=some (v, .agg (us.map PV.val))) (hy:ev st.slots y=some (v', .agg (us'.map PV.val))) (ho:o.op= .binOp .neq t x y r:=by exact rfl):YE P st o (· = .bool (!b)) (.val (.bool (!b))):=
 .exact fun M F a w H=>⟨.val _,by
  obtain ⟨h1,h2⟩:=H.ev hx;obtain ⟨h3,h4⟩:=H.ev hy;have e1:=Ga h2;have e2:=Ga h4;subst e1 e2;have hr:(Op.equalIn 10000 t (.agg us.toArray) (.agg us'.toArray)).run P w= .ok b w:=by rw [run_equalIn_struct w 9999 t _ _ ht hp];exact hE w
  simp [execOp,ho,h1,h3,run_eqGuard_agg w .neq t x y us.toArray us'.toArray hg,run_neq_struct,hr]⟩
end
theorem ZP {sL hP:List (Nat×Ent)} {l:Nat} {h:Value} {p p':PV} (hl:lk hP l=some (h,p)) (e:p=p'):Tg (⟨sL,hP⟩:St) (fun _:Unit=>⟨sL,put l (h,p') hP⟩):=fun c a w ⟨F,H⟩=>by
 subst e
 refine ⟨(),F,H.less (fun t x h=>h) fun t x ht=>?_⟩
 rcases Ya ht with ⟨rfl,e1⟩|⟨_,h1⟩
 · rw [hl,e1]
 · exact h1
theorem KO {sL hP:List (Nat×Ent)} {t:Nat} {v:Value} {p p':PV} (hl:lk sL t=some (v,p)) (e:p=p'):Tg (⟨sL,hP⟩:St) (fun _:Unit=>⟨put t (v,p') sL,hP⟩):=fun c a w ⟨F,H⟩=>by
 subst e
 refine ⟨(),F,H.less (fun s x ht=>?_) (fun t x h=>h)⟩
 rcases Ya ht with ⟨rfl,e1⟩|⟨_,h1⟩
 · rw [hl,e1]
 · exact h1
theorem W1 {sL hP:List (Nat×Ent)} {t:Nat} {q:PV} (ht:lk sL t=some (.slice none 0 0,q)):Tg (⟨sL,hP⟩:St) (fun _:Unit=>⟨put t (.slice none 0 0, .sl 0 []) sL,hP⟩):=fun c a w ⟨F,H⟩=>by
 refine ⟨(),F,H.toHeapF,fun s u r hs=>?_,H.size,H.df⟩
 rcases Ya hs with ⟨rfl,e1⟩|⟨_,hs'⟩
 · cases e1;exact ⟨(H.sl t _ _ ht).1, .emp none 0 (by unfold maxLen;omega) (fun _=>rfl)⟩
 · exact H.sl s u r hs'
section
variable {P:Program} {c:Ctx} {ops:Array Oper} {Q:Exit→Act→World→Prop} {rest:List Oper} {sL hP:List (Nat×Ent)} {o:Oper}
theorem Zaj:∀(l:List Value) (j off:Nat) (cells:Array Value),(l.zipIdx j).foldl (fun cs x=>cs.setIfInBounds (off+x.2) x.1) cells=(l.zipIdx (off+j)).foldl (fun cs x=>cs.setIfInBounds (0+x.2) x.1) cells
 |[],j,off,cells=>rfl
 | x::l,j,off,cells=>by
   simp only [VP,X'];rw [Zaj l (j+1) off,Xv,XV]
theorem Zak:∀(l:List Value) (i:Nat) (cells:Array Value),i+l.length≤cells.size→(l.zipIdx i).foldl (fun cs x=>cs.setIfInBounds (0+x.2) x.1) cells=(cells.toList.take i++l++cells.toList.drop (i+l.length)).toArray
 | [],i,cells,h=>by
   simp only [List.zipIdx_nil,List.foldl_nil,Xy,XC,VN,Vy,Vv]
 | x::l,i,cells,h=>by
   simp only [VP,X'];simp only [Xk] at h;rw [Zak l (i+1) _ (by simp;omega)];congr 1;rw [Xv,Array.toList_setIfInBounds,Ut (by simp;omega)];simp only [List.getElem_set_self,Xk];rw [Uu oM,List.drop_set_of_lt oM,show i+1+l.length=i+(l.length+1) by omega];simp
theorem ZgH (kk:Nat):∀(vs:List (List Value)) (i:Nat) (cells:Array Value),cells.size=(i+vs.length)*kk→(∀v∈vs,v.length=kk)→Instr.fill (fun i=>some (i*kk,kk)) cells (((vs.map fun v=>Value.agg v.toArray).zipIdx i).map fun x=>(x.2,x.1))=some (cells.toList.take (i*kk)++vs.flatten).toArray
 | [],i,cells,h,_=>by
   simp only [Vg,List.zipIdx_nil,Instr.fill,List.flatten_nil,Xy];simp only [XC,VN] at h;rw [Xo (by simp;omega)]
 | v ::vs,i,cells,h,h1=>by
   have hv:=h1 v sM;have hcs:(Value.agg v.toArray).cells=v.toArray:=rfl;have hle:(i+1)*kk≤cells.size:=by rw [h];exact Vw _ sM
   rw [X5] at hle;have hc:¬((Value.agg v.toArray).cells.size≠kk||decide (i*kk+(Value.agg v.toArray).cells.size>cells.size))=true:=by rw [hcs];simp;omega
   simp only [Xp,VP,Instr.fill,hc,if_false];rw [hcs,←Array.foldl_toList,Array.toList_zipIdx,Zaj,Zak _ _ _ (by simp;omega)];have:=ZgH kk vs (i+1) (cells.toList.take (i*kk+0)++v++cells.toList.drop (i*kk+0+v.length)).toArray (by
    simp only [X8,Xb,Xx,List.length_drop,Vm];rw [Va oM];rw [Xk] at h;rw [h,show i+1+vs.length=i+(vs.length+1) by omega] at*;omega) (fun u hu=>h1 u (by simp [hu]))
   simp only [Vv] at this ⊢;rw [this];congr 2;rw [Uf,←Xz];congr 1;rw [Uv (by simp;rw [X5,Va oM];omega)];rw [Xo (by simp;rw [X5,Va oM];omega)];simp
theorem Dj {t e kk bytes m:Nat} {z:Value} {xs:List Operand} {parts:Array (Nat×Operand)} {es:List Ent} {cs:List (List PV)} (d:Nat) (hT:ElT P t e kk bytes z)
 (k:∀h:Value,h.oneCell'=true→aL P c ops Q rest ⟨put d (h, .val h) sL,put d (h, .own e kk m cs.flatten) hP⟩) (hw:ZT ops sL o=some true:=by exact rfl) (hd:o.dst=some d:=by exact rfl) (hn:d<c.nt:=by exact Xa rfl) (ho:o.op= .buildSlice t m parts:=by exact rfl) (hpt:parts=((xs.zipIdx).map fun x=>(x.2,x.1)).toArray:=by exact rfl) (hx:evL sL xs=some es:=by exact rfl)
 (hcs:es.map (·.2)=cs.map PV.agg:=by exact rfl) (hck:∀q∈cs,q.length=kk:=by simp) (hm:es.length=m:=by exact rfl) (hm0:0<m:=by decide) (hm1:m≤1000:=by decide) (hk0:kk≤1000:=by decide) (hl:lk hP d=none:=by exact rfl):aL P c ops Q (o::rest) (⟨sL,hP⟩:St):=
 Yy hw fun a w F H=>by
  obtain ⟨i,hi1,hi2,hi3,hi4⟩:=hT.info;obtain ⟨he,hS⟩:=JE H.rd hx;have hkp:=hT.hk;have key : ∀(es:List Ent) (cs:List (List PV)),es.map (·.2)=cs.map PV.agg→(∀q∈cs,q.length=kk)→(∀(i:Nat) (x:Value) (q:PV),(es.map (·.1))[i]? =some x→(es.map (·.2))[i]? =some q→Shr (mof c hP F) w x q)→∃us:List (List Value),es.map (·.1)=us.map (fun v=>Value.agg v.toArray)∧us.length=es.length∧(∀u∈us,u.length=kk)∧us.flatten.length=cs.flatten.length∧∀(i:Nat) (x:Value) (q:PV),us.flatten[i]? =some x→cs.flatten[i]? =some q→Shr (mof c hP F) w x q:=fun es=>by
   induction es with
   | nil=>
     intro cs h1 _ _
     cases cs with
     |nil=>exact ⟨[],rfl,rfl,sM,rfl,sM⟩
     |cons q cs=>simp at h1
   | cons e0 es ih=>
     intro cs h1 h2 h3
     cases cs with
     |nil=>simp at h1
     | cons q cs=>
       simp only [Xp,List.cons.injEq] at h1;obtain ⟨us,g1,g2,g3,g4,g5⟩:=ih cs h1.2 (fun u hu=>h2 u (Xn _ hu)) (fun i x q hx hq=>h3 (i+1) x q (by simpa using hx) (by simpa using hq));have h4:=h3 0 e0.1 e0.2 rfl rfl;rw [h1.1] at h4;generalize hv0:e0.1=v0 at h4;have hqk:=h2 q (Xi ..)
       cases h4 with
       | agg vs ps hvl hTT=>
         refine ⟨vs::us,by rw [Xp,Xp,hv0,g1],by simp [g2],fun u hu=>?_,by rw [Uf,Uf,Xb,Xb,g4,hvl],fun i x r hx hr=>?_⟩
         · rcases Xq.1 hu with rfl|hu
           · omega
           · exact g3 u hu
         · rw [Uf] at hx hr;rcases XF i vs.length with hi|hi
           · rw [X9 hi] at hx;rw [X9 oM] at hr;exact hTT i x r hx hr
           · rw [Vf hi] at hx;rw [Vf oM] at hr;refine g5 (i-vs.length) x r hx ?_;rw [hvl];exact hr
  obtain ⟨us,u1,u2,u3,u4,u5⟩:=key es cs hcs hck hS;have hfl:us.flatten.length=m*kk:=by
   have:∀us:List (List Value),(∀u∈us,u.length=kk)→us.flatten.length=us.length*kk:=fun us=>by
    induction us with
    |nil=>intro _;simp
    | cons u us ih=>
      intro h;rw [Uf,Xb,h u (Xi ..),ih fun v hv=>h v (Xn _ hv),Xk,X5];omega
   rw [this us u3,u2,hm]
  have hmk:m*kk≤1000000:=X6 (Ug hm1 hk0) dC;have hmk0:0<m*kk:=Nat.mul_pos hm0 hkp;obtain ⟨F',H'⟩:=WC (e:=e) (k:=kk) (n:=m) (cap:=m) (cur:=us.flatten.toArray) (v:= .slice (some ⟨w.heap.size,0,none⟩) m m) H hl hn (vs:=us.flatten) (ps:=cs.flatten) u4 u5 (by first|omega|exact hfl|(rw [hfl])|(rw [VZ];exact hfl)) (Xj _) (by unfold maxLen;omega) (by simp;rw [←List.length_flatten,hfl]) (Xo (by simp;rw [←List.length_flatten,hfl];omega));have hf:=ZgH kk us 0 ((Array.range (m*i.size)).map (z.cells[· % z.cells.size]!)) (by simp [hi3,u2,hm]) u3;have hpe:(parts.map fun (i,x)=>(i,a.eval x)).toList=((us.map fun v=>Value.agg v.toArray).zipIdx 0).map fun x=>(x.2,x.1):=by
   rw [hpt,←u1,←he];simp [List.zipIdx_map]
  have hr:=run_buildSlice (P:=P) w t e m (parts.map fun (i,x)=>(i,a.eval x)) us.flatten.toArray i z hT.ht hi1 hi2 (by rw [hi3];omega) (by rw [hi3];omega) (by rw [hpe,hi3];rw [hi3] at hf;simpa using hf);unfold Oper.wp execOp;simp only [ho,Sem.run_bind,hr,Result.andThen_ok,Sem.run_pure,Oper.upon,hd];exact k (.slice (some ⟨w.heap.size,0,none⟩) m m) rfl _ _ ⟨F',H'⟩
end
def Rr (p p':PV):Prop:=∀(M:BS) (w:World) (v:Value),Shr M w v p→Shr M w v p'
theorem Rr.rfl' (p:PV):Rr p p:=fun _ _ _ h=>h
theorem Rr.nil:Rr (.val (.slice none 0 0)) (.sl 0 []):=fun M w v h=>by
 cases h with
 |val=>exact .emp none 0 (by unfold maxLen;omega) (fun _=>rfl)
theorem Rr.agg {ps ps':List PV} (hl:ps.length=ps'.length) (h:∀(i:Nat) (p p':PV),ps[i]? =some p→ps'[i]? =some p'→Rr p p'):Rr (.agg ps) (.agg ps'):=fun M w v hv=>by
 cases hv with
 | agg vs ps hvl hT=>
   refine .agg vs ps' oM fun i x q hx hq=>?_;obtain ⟨p,hp⟩:=Yh hq hl.symm;exact h i p q hp hq M w x (hT i x p hx hp)
theorem AF.reread {P:Program} {f:Nat} {ps:List PV} {p p':PV} (h:AF P f ps (· =p)) (hs:shD p=true) (hr:Rr p p'):AF P f ps (· =p'):=fun M w vs hM hl hv=>
 (h M w vs hM hl hv).mono fun e w' ⟨v,q,F,h1,h2,h3,h4,h5,h6⟩=>by
   subst h2;refine ⟨v,p',fun _=>False,h1,rfl,h3, .shr (hr _ _ _ ((h4.shD hs).anti fun b _ hb=>?_)) (fun _ h=>h),fun b hb=>hb.elim,h6⟩;rcases hb with hb|hb
   · exact .inl hb
   · exact hb.elim
theorem Zli {sL hP:List (Nat×Ent)} {t:Nat} {v:Value} {p p':PV} (hl:lk sL t=some (v,p)) (hr:Rr p p'):Tg (⟨sL,hP⟩:St) (fun _:Unit=>⟨put t (v,p') sL,hP⟩):=fun c a w ⟨F,H⟩=>by
 refine ⟨(),F,H.toHeapF,fun s u r hs=>?_,H.size,H.df⟩
 rcases Ya hs with ⟨rfl,e1⟩|⟨_,hs'⟩
 · cases e1;exact ⟨(H.sl t _ _ hl).1,hr _ _ _ (H.sl t _ _ hl).2⟩
 · exact H.sl s u r hs'
end Go.En
namespace Go.Proofs.YtgfabnhpllkebaaGreatDoor
open Go.RowKit Go.Cb Go.En Tryz
set_option linter.all false
set_option maxRecDepth 100000
theorem Zlj {P:Program} {st:St} {o:Oper} {x y:Operand} {t t':TypeId} {a b:Int} {q q':PV} (ho:o.op= .call {callee:= .builtin .min,args:= #[x,y],argTypes:= #[t,t']}:=by exact rfl) (hx:ev st.slots x=some (.int .i64 a,q):=by exact rfl) (hy:ev st.slots y=some (.int .i64 b,q'):=by exact rfl):YE P st o (· = .int .i64 (if b<a then b else a)) (.val (.int .i64 (if b<a then b else a))):=
 y2 hx hy fun ρ w h1 h2=>by
  simp [execOp,ho,h1,h2,resolve,invoke,builtin,Builtin.min_,Builtin.min2]
def bst (l:List UInt8):ByteArray:=⟨l.toArray⟩
structure Tk where
 kind:Int
 text:List UInt8
 n:Int
 ln:Int
 col:Int
def ZlQ (c:UInt8):Bool:=Tc c.toNat
def ZmR (c:UInt8):Bool:=JC c.toNat
def ZgI (c:UInt8):Bool:=decide (48≤c.toNat)&&decide (c.toNat≤57)
def Zne (c:UInt8):Bool:=c.toNat==32||c.toNat==9||c.toNat==10||c.toNat==13
def Oq:Bool→List UInt8→Nat
 |_,[]=>0
 |true,c::m=>1+Oq (c.toNat !=10) m
 |false,c::m=>if Zne c then 1+Oq false m else if c.toNat=35 then 1+Oq true m else 0
def adv (p:Int×Int) (c:UInt8):Int×Int:=if c.toNat=10 then (p.1+1,1) else (p.1,p.2+1)
def Zcn (p:Int×Int) (l:List UInt8):Int×Int:=l.foldl adv p
def syms:List (List UInt8):=[[45,62],[61,62],[60,61],[62,61],[33,61],[61,61],[58,61],[46,46],[40],[41],[91],[93],[123],[125],[44],[59],[58],[46],[124],[38],[33],[63],[43],[45],[42],[47],[61],[60],[62],[64],[37],[94],[126]]
def Znf (l:List UInt8):Option (List UInt8):=syms.find? (·.isPrefixOf l)
inductive Lt where
 |ok (n:Nat) (t:List UInt8)
 |err (e:Int)
def ZlR:List UInt8→Lt
 |[]=> .err 4
 | c ::m=>if c.toNat=34 then .ok 1 [] else if c.toNat<32∨126<c.toNat then .err 3 else if c.toNat=92 then
    match m with
    |[]=> .err 4
    |d::m2=>if d.toNat=34∨d.toNat=92 then (match ZlR m2 with| .ok n t=> .ok (n+2) (d::t)| .err e=> .err e) else .err 3
   else match ZlR m with| .ok n t=> .ok (n+1) (c::t)| .err e=> .err e
def Zlk (l:List UInt8):Nat:=l.foldl (fun n c=>10*n+(c.toNat-48)) 0
inductive Lx where
 |ok (kind:Int) (text:List UInt8) (n:Int) (len:Nat)
 |err (e:Int)
def Zng:List UInt8→Lx
 |[]=> .ok 5 [] 0 0
 | c ::m=>
   if ZmR c then (if 40<((c::m).takeWhile ZlQ).length then .err 5 else .ok 1 ((c::m).takeWhile ZlQ) 0 ((c::m).takeWhile ZlQ).length)
   else if ZgI c then (if ((c::m).dropWhile ZgI).head?.any (fun d=>ZmR d||d.toNat==95) then .err 3 else if 4503599627370496<Zlk ((c::m).takeWhile ZgI) then .err 6 else .ok 2 [] (Zlk ((c::m).takeWhile ZgI)) ((c::m).takeWhile ZgI).length)
   else if c.toNat=34 then (match ZlR m with| .err e=> .err e| .ok n t=> .ok 3 t 0 (n+1))
   else match Znf (c::m) with
    |some x=> .ok 4 x 0 x.length
    |none=> .err 3
structure LexOk (l:List UInt8) (kd:Int) (tx:List UInt8) (n:Int) (len:Nat):Prop where
 le:len≤l.length
 endk:l=[]↔kd=5
 pos:l≠[]→1≤len
 tlen:tx.length≤len
 lo:0≤n
 hi:n≤4503599627370496
def Zll:Nat→List UInt8→Int×Int→List Tk→List Tk×(Int×Int)×Int
 |0,_,p,_=>([],p,5)
 | f +1,l,p,out=>
   match Zng (l.drop (Oq false l)) with
   | .err e=>([],Zcn p (l.take (Oq false l)),e)
   | .ok kd tx n len=>
     if kd≠5∧out.length=4000 then ([],Zcn p (l.take (Oq false l)),5)
     else if kd=5 then (out++[⟨kd,tx,n,(Zcn p (l.take (Oq false l))).1,(Zcn p (l.take (Oq false l))).2⟩],(0,0),0)
     else Zll f (l.drop (Oq false l+len)) (Zcn p (l.take (Oq false l+len))) (out++[⟨kd,tx,n,(Zcn p (l.take (Oq false l))).1,(Zcn p (l.take (Oq false l))).2⟩])
def toksB (l:List UInt8) (p:Int×Int) (out:List Tk):List Tk×(Int×Int)×Int:=Zll (l.length+1) l p out
def EndL (l:List Tk):Prop:=∃a e,l=a++[e]∧e.kind=5∧∀x∈a,x.kind≠5
structure TkOk (t:Tk):Prop where
 text:t.text.length≤16384
 lo:0≤t.n
 hi:t.n≤4503599627370496
def tk0:Tk:=⟨0,[],0,0,0⟩
def Zal (m:List Tk) (s:List UInt8):Bool:=match m with
 |[]=>false
 |t::_=>decide (t.kind=4)&&t.text==s
def ZmS (s:List UInt8):Int:=if s=[115,101,113] then 3 else if s=[120,111,114] then 4 else if s=[97,110,100] then 5 else if s=[108,111,111,112] then 6 else 0
inductive Rd where
 |ok (t:Nd) (m:List Tk)
 |err (t:Tk)
mutual
def rdT:Nat→List Tk→Rd
 |0,_=> .err tk0
 | f +1,m=>match m with
   |[]=> .err tk0
   | t::m1=>if Zal (t::m1) [40] then (if Zal m1 [41] then .ok ZmO m1.tail else .err (m1.headD tk0))
     else if t.kind≠1 then .err t
     else if ZmS t.text=0 then (if Zal m1 [40] then .err (m1.headD tk0) else .ok (.mk 1 (bst t.text) []) m1)
     else if Zal m1 [40] then (match rdT f m1.tail with| .err e=> .err e| .ok x m2=>rdL f (ZmS t.text) [x] m2)
     else .ok (.mk 1 (bst t.text) []) m1
def rdL:Nat→Int→List Nd→List Tk→Rd
 |0,_,_,_=> .err tk0
 | f +1,op,l,m=>if (op=6∧l.length<2)∨(op≠6∧Zal m [44]=true) then
    (if Zal m [44] then (match rdT f m.tail with| .err e=> .err e| .ok x m2=>rdL f op (l++[x]) m2) else .err (m.headD tk0))
   else if Zal m [41] then .ok (.mk op ByteArray.empty l) m.tail else .err (m.headD tk0)
end
structure RdOk (m:List Tk) (t:Nd) (m2:List Tk):Prop where
 lt:m2.length<m.length
 suf:m2<:+m
 endl:EndL m2
end Go.Proofs.YtgfabnhpllkebaaGreatDoor
namespace Go.En
open Go.RowKit Go.Cb
set_option linter.all false
section
variable {P:Program} {st:St} {o:Oper}
def ZeO (P:Program) (s f fo:Nat):Bool:=match P.underlying s with
 | some (.struct fs)=>match fs[f]? with
   |some fd=>Nat.beq fd.offset fo&&NoAgg P fd.type
   |none=>false
 |_=>false
theorem S9 {s f fo:Nat} {x:Operand} {v:Value} {ps:List PV} {p:PV} (hT:ZeO P s f fo=true) (ho:o.op= .field s x f:=by exact rfl) (hx:ev st.slots x=some (v, .agg ps):=by exact rfl) (hp:ps[fo]? =some p:=by exact rfl):YE P st o (fun _=>True) p:=fun M F a w H=>by
 obtain ⟨hv,hs⟩:=H.ev hx
 unfold ZeO at hT
 split at hT
 · rename_i fs hfs;split at hT
   · rename_i fd hfd;rw [Xe] at hT;obtain ⟨h1,h2⟩:=hT;have e1:=XG h1;subst e1
     cases hs with
     | agg vs ps hvl hTT=>
       obtain ⟨u,hu⟩:=Yh hp hvl.symm;refine ⟨u,trivial,hTT _ u p hu hp,fun N W _ _ _=>?_⟩;simp [execOp,ho,hv,Instr.field,run_underlying hfs,hfd,asAgg,part,NoAgg.run h2,hu]
   · cases hT
 · cases hT
end
section
variable {P:Program} {st:St} {o:Oper} {x y:Operand} {q q':PV} {t t':TypeId}
end
section
variable {P:Program} {st:St} {o:Oper}
theorem Ja {x y:Operand} {q q':PV} {t t':TypeId} {k:IntKind} {a:Int} (ho:o.op= .binOp .eql t x y t':=by exact rfl) (hx:ev st.slots x=some (.int k a,q):=by exact rfl) (hy:ev st.slots y=some (.int k a,q'):=by exact rfl):YE P st o (· = .bool true) (.val (.bool true)):=by
 have h:=Z3 (P:=P) ho hx hy
 rwa [UQ rfl] at h
end
theorem ZeP {P:Program} {g:Nat} (hg:P.globalNamed "internal/strconv.uint64pow10"=some g) (ht:Zge=some g) {w:World} {M N:BS} (h:TabW w M N) {B:Nat} (hB:g<B):Lib.TabBelow P B w "internal/strconv.uint64pow10" .u64 Lib.pow10Tab:=fun w' hb=>by
 obtain ⟨⟨ty,at',h1⟩,_,_⟩:=h g ht
 have h2:=(hb.block g hB).trans h1
 unfold Lib.TabIs World.var?
 rw [hg,Vk,h2]
theorem Zjt {P:Program} {g:Nat} (hg:P.globalNamed "internal/strconv.uint64pow10"=some g) (ht:Zge=some g) {w:World} (h:Lib.TabIs P w "internal/strconv.uint64pow10" .u64 Lib.pow10Tab):TabW w (fun _=>False) (fun _=>False):=fun g' hg'=>by
 obtain rfl:g=g':=Option.some.inj (ht.symm.trans hg')
 unfold Lib.TabIs World.var? at h
 rw [hg,Vk] at h
 split at h
 · rename_i cs ty at' hc
   cases h;exact ⟨⟨ty,at',hc⟩,fun h=>h,fun h=>h⟩
 · cases h
def Er (K:List Nat) (s:List (Nat×Ent)):List (Nat×Ent):=K.filterMap fun t=>(lk s t).map fun x=>(t,x)
theorem Dk {s:List (Nat×Ent)} {t:Nat} {x:Ent}:∀{K:List Nat},lk (Er K s) t=some x→lk s t=some x∧(t,x)∈Er K s
 |[],h=>by simp [Er,lk] at h
 | k :: K,h=>by
   unfold Er at h ⊢;rw [List.filterMap_cons] at h ⊢
   cases hk:lk s k with
   | none=>
     rw [hk] at h;simp only [Option.map_none] at h ⊢;exact Dk (K:=K) h
   | some y=>
     rw [hk] at h;simp only [Uc] at h ⊢;rw [lk] at h
     cases hb:Nat.beq k t
     · rw [hb,cond_false] at h;obtain ⟨h1,h2⟩:=Dk (K:=K) h;exact ⟨h1,Xn _ h2⟩
     · rw [hb,cond_true] at h;have:=XG hb;subst this
       cases h;exact ⟨hk,Xi ..⟩
def ShrL (M:BS) (w:World):List (Nat×Ent)→Prop
 |[]=>True
 |x::l=>Shr M w x.2.1 x.2.2∧ShrL M w l
theorem ShrL.at {M:BS} {w:World}:∀{l:List (Nat×Ent)} {x:Nat×Ent},ShrL M w l→x∈l→Shr M w x.2.1 x.2.2
 | y::l,x,h,hx=>by
   rcases Xq.1 hx with rfl|hx
   · exact h.1
   · exact ShrL.at h.2 hx
def Sm (b:UInt8):PV:= .val (.int .u8 (b.toNat:Nat))
theorem Zam {M:BS} {w:World} {bs:List UInt8} {xs:List Value} {Fs:Nat→BS} (hlen:(bs.map Sm).length=xs.length) (hT:∀(i:Nat) (x:Value) (p:PV),xs[i]? =some x→(bs.map Sm)[i]? =some p→Tr M w x p (Fs i)):xs=Lib.byteCells bs:=by
 apply Vq
 intro j
 unfold Lib.byteCells
 rw [Xm]
 cases hj:bs[j]? with
 | none=>
   have:=Uh.1 hj;rw [Xd] at hlen;exact XL oM
 | some b=>
   have hp:(bs.map Sm)[j]? =some (Sm b):=by rw [Xm,hj];rfl
   obtain ⟨v,hv⟩:=Yh hp hlen;rw [hv];have:=((hT j v _ hv hp).sh rfl).vOf;exact congrArg some this
theorem Zan (bs:List UInt8):strOfNums (bs.map fun b:UInt8=>(b.toNat:Int))=⟨bs.toArray⟩:=by
 unfold strOfNums
 rw [XI]
 congr 2
 conv=>rhs;rw [←List.map_id bs]
 refine VH fun b _=>?_
 simp
theorem ZlS {P:Program} {sL hP:List (Nat×Ent)} {o:Oper} {s d e e' n:Nat} {x:Operand} {h:Value} {q:PV} {bs:List UInt8} (l:Nat) (hs:P.underlying s=some (.slice e')) (he:P.underlying e'=some (.int .u8)) (hd:P.underlying d=some .string) (ho:o.op= .convert s d x:=by exact rfl) (hx:ev sL x=some (h,q):=by exact rfl) (hl:lk hP l=some (h, .own e 1 n (bs.map Sm)):=by exact rfl):YE P (⟨sL,hP⟩:St) o (· = .string ⟨bs.toArray⟩) (.val (.string ⟨bs.toArray⟩)):=fun M F a w H=>by
 have hv:=(H.ev hx).1
 obtain ⟨xs,Fs,hrow,hlen,hTr,hdj,hb,hF'⟩:=(H.tr l _ _ hl).row
 have hxs:=Zam hlen hTr
 subst hxs
 refine ⟨.string ⟨bs.toArray⟩,rfl, .val _,fun N W hch hN hF=>?_⟩
 rcases YG hrow with ⟨h1,h2,h3⟩|⟨g,cap,h1,h2,h3,h4⟩
 · have hbn:bs=[]:=by
    unfold Lib.byteCells at h3;exact Ui.1 h3
   subst hbn;rw [h1] at hv;have:=run_convert_bytes_nil W s e' hs he 0 0 d hd;simp [execOp,ho,hv,this];rfl
 · have hrow2:=hrow;rw [h1] at hrow2;have hn:n=bs.length:=by
    have:=hrow.1;simp [Lib.byteCells] at this;omega
   have:=run_convert_bytes_arg (P:=P) W s e' hs he g 0 n cap (bs.map fun b:UInt8=>(b.toNat:Int)) (by rw [Xd,hn]) (fun i hi=>by
    obtain ⟨b,hb'⟩:=Zp (show i<bs.length by omega);(have hc:(Lib.byteCells bs)[i]? =some (.int .u8 (b.toNat:Nat)):=by unfold Lib.byteCells;rw [Xm,hb'];rfl);have h5:=TW hch (hF l _ g hl ((hF' g).2 (.inl (by rw [h1];rfl)))) (Wq hrow2 hc);rw [Xv,h5];simp [List.getD,hb']) d hd
   rw [Zan] at this;rw [h1] at hv;simp [execOp,ho,hv,this]
def Zdx (P:Program) (f e:Nat):Prop:=∀(B n:Nat) (i:Int) (_: -9223372036854775808≤i) (_:i≤9223372036854775807) (sv:Value) (xs:List Value) (w:World) (_:w.ownsRow B e 1 sv n xs) (_:B≤w.heap.size) (_:n+21≤140737488355328) (_:Lib.TabBelow P B w "internal/strconv.uint64pow10" .u64 Lib.pow10Tab),
 Calls P f #[sv, .int .i64 i, .int .i64 10] w fun q w'=>∃v',q= .returned v'∧w'.ownsRow B e 1 v' (n+(Lib.itoa i).length) (xs++Lib.byteCells (Lib.itoa i))∧Below B w w'∧Lib.OthersKept e none w w'
section
variable {P:Program} {c:Ctx} {ops:Array Oper} {Q:Exit→Act→World→Prop} {rest:List Oper} {sL hP:List (Nat×Ent)} {o:Oper}
theorem ZgJ {f e n g:Nat} {h:Value} {q q2 q3:PV} {x y z:Operand} {ats:Array TypeId} {bs:List UInt8} {i:Int} (l d:Nat) (K:List Nat) (hA:Zdx P f e) (hc:∀args w,(callFunc f args).run P w= .ok (.enter f args) w)
 (hN:∀b,¬c.N0 b) (hdr:¬c.dr) (hg:P.globalNamed "internal/strconv.uint64pow10"=some g) (ht:Zge=some g)
 (hS:ShrL c.M0 c.w0 (Er K sL)) (hi0: -9223372036854775808≤i) (hi1:i≤9223372036854775807) (hlim:n+21≤140737488355328)
 (k:∀h':Value,h'.oneCell'=true→aL P c ops Q rest ⟨put d (h', .val h') (Er K sL),[(d,h', .own e 1 (n+(Lib.itoa i).length) ((bs++Lib.itoa i).map Sm))]⟩)
 (hw:ZT ops sL o=some true:=by exact rfl) (hd:o.dst=some d:=by exact rfl) (hdn:d<c.nt:=by exact Xa rfl) (ho:o.op= .call {callee:= .value (.func f),args:= #[x,y,z],argTypes:=ats}:=by exact rfl)
 (hx:ev sL x=some (h,q):=by exact rfl) (hl:lk hP l=some (h, .own e 1 n (bs.map Sm)):=by exact rfl) (hy:ev sL y=some (.int .i64 i,q2):=by exact rfl) (hz:ev sL z=some (.int .i64 10,q3):=by exact rfl):aL P c ops Q (o::rest) (⟨sL,hP⟩:St):=
 Yy hw fun a w F H=>by
  have hxv:=(H.rd.ev hx).1;have hyv:=(H.rd.ev hy).1;have hzv:=(H.rd.ev hz).1;have hTr:=H.tr l _ _ hl;obtain ⟨xs,Fs,hrow,hlen,hT,hdj,hb,hF⟩:=hTr.row;have hxs:xs=Lib.byteCells bs:=Zam hlen hT;subst hxs;have hw0:c.w0.heap.size≤w.heap.size:=H.ext.size;have hrowB:w.ownsRow c.w0.heap.size e 1 h n (Lib.byteCells bs):=by
   refine ⟨hrow.1,?_⟩;rcases hrow.2 with h1|⟨g',cap,cur,e1,e2,r⟩
   · exact .inl h1
   · refine .inr ⟨g',cap,cur,e1,?_,r⟩;exact (H.lo l _ g' hl ((hF g').2 (.inl (by rw [e1];rfl)))).resolve_right (hN g')
  obtain ⟨⟨ty,at',hgb⟩,_,_⟩:=H.m0.tb hdr g ht;have hcall:=hA c.w0.heap.size n i hi0 hi1 h (Lib.byteCells bs) w hrowB hw0 hlim (ZeP hg ht (H.mok.tb hdr) (Yu hgb));unfold Oper.wp;have hrun:(execOp a.eval o).run P w= .ok (.enter f #[h, .int .i64 i, .int .i64 10]) w:=by
   have hev:a.eval (.func f)= .func (.func f) #[] #[]:=rfl;simp [execOp,ho,resolve,Deferred.ofValue,hev,invoke,hxv,hyv,hzv,hc]
  rw [hrun,Oper.upon_enter];refine hcall.mono fun e' w' ⟨v',he',hown,hbel,_⟩=>?_;subst he';rw [hd];have hch:Chg c.N0 c.w0 w':=⟨hbel.os.trans H.ext.os,hbel.tape.trans H.ext.tape,hbel.output.trans H.ext.output,X6 hw0 hbel.size,fun i hi hne=>(hbel.block i hi).trans (H.ext.block i hi hne)⟩;have hone:v'.oneCell'=true:=by
   rcases hown.2 with ⟨h1,_⟩|⟨g',cap',cur,e1,_⟩
   · rw [h1];rfl
   · rw [e1];rfl
  have hlow:∀b,v'.ownBlock=some b→c.w0.heap.size≤b:=fun b hb'=>by
   rcases hown.2 with ⟨h1,_⟩|⟨g',cap',cur,e1,e2,_⟩
   · rw [h1] at hb';simp [Value.ownBlock] at hb'
   · rw [e1] at hb';simp [Value.ownBlock] at hb';omega
  have hown0:w'.ownsRow 0 e 1 v' (n+(Lib.itoa i).length) (Lib.byteCells (bs++Lib.itoa i)):=by
   rw [show Lib.byteCells (bs++Lib.itoa i)=Lib.byteCells bs++Lib.byteCells (Lib.itoa i) from Xr];refine ⟨hown.1,?_⟩;rcases hown.2 with h1|⟨g',cap,cur,e1,e2,r⟩
   · exact .inl h1
   · exact .inr ⟨g',cap,cur,e1,Xf _,r⟩
  refine k v' hone _ _ ⟨fun l' b=>l'=d∧v'.ownBlock=some b,⟨⟨fun l' u p hl'=>?_,fun l' z b _ hb'=> .inl (hlow b hb'.2),fun l1 l2 z1 z2 b hne h1 h2 hb1 hb2=>hne (hb1.1.trans hb2.1.symm),H.m0,hch,fun h=>UU h hdr⟩,fun t u p ht'=>?_,?_,H.df⟩⟩
  · simp only [lk] at hl'
    cases hb:Nat.beq d l'
    · rw [hb] at hl';cases hl'
    · rw [hb] at hl';have:=XG hb;subst this
      cases hl';refine .own (Lib.byteCells (bs++Lib.itoa i)) (fun _ _=>False) hown0 (by simp [Lib.byteCells]) (fun t v p hv hp=>?_) (fun _ _ _ _ _ _ h=>h.elim) (fun _ _ _ h=>h.elim) (fun b=>sM);unfold Lib.byteCells at hv;rw [Xm,XA] at hv hp;obtain ⟨b1,hb1,rfl⟩:=hv;obtain ⟨b2,hb2,rfl⟩:=hp;rw [hb1] at hb2;cases hb2;exact .shr (.val _) (fun _ h=>h)
  · rcases Ya ht' with ⟨rfl,e1⟩|⟨hne,e1⟩
    · cases e1;exact ⟨by simp [Act.put,H.size,hdn], .val _⟩
    · obtain ⟨h1,h2⟩:=Dk e1;have h3:=(H.sl t u p h1).1;refine ⟨by simpa [Act.put,VT,hne] using h3,(hS.at h2).to hch (fun b _ h=>UU h (hN b)) fun b hb' hm=>?_⟩;rcases hm with h4|⟨l',z,h4,h5⟩
      · exact h4
      · have:=hlow b h5.2;omega
  · simpa [Act.put] using H.size
theorem Zju {t ks e:Nat} {kd:TypeDesc} {z:Value} {x y u:Operand} {m k v:Value} {kv:List (Value×Value)} {p q r:PV} (l:Nat) (hw:ZT ops sL o=some true) (hd:o.dst=none) (hT:MpT P t ks e kd z) (ho:o.op= .insert t x y u) (hx:ev sL x=some (m,p)) (hl:lk hP l=some (m, .omap kv)) (hy:ev sL y=some (k,q)) (hu:ev sL u=some (v,r)) (hk:kok kd k kv) (hbits:bits k=true)
 (kk:aL P c ops Q rest ⟨sL,put l (m, .omap (K5 kv k v)) hP⟩):aL P c ops Q (o::rest) (⟨sL,hP⟩:St):=
 Yy hw fun a w F H=>by
  have hxv:=(H.rd.ev hx).1;have hyv:=(H.rd.ev hy).1;have huv:=(H.rd.ev hu).1;obtain ⟨b,es,clock,rfl,rfl,hb,hFb,hWf⟩:=(H.tr l _ _ hl).mapW;have hm:=CO (kvOf es) k;have main:∀(es':Array MapEntry) (clock':Nat),WfM es' clock'→kvOf es'=K5 (kvOf es) k v→Holds c ⟨sL,put l (.map (some b), .omap (K5 (kvOf es) k v)) hP⟩ a {w with heap:=w.heap.setIfInBounds b (.map es' clock')}:=fun es' clock' hW' he=>by
   have hlt:=Yu hb;have hch:Chg (fun x=>x=b) w {w with heap:=w.heap.setIfInBounds b (.map es' clock')}:=⟨rfl,rfl,rfl,sM,fun i hi hne=>by
    rw [Uw (fun e=>hne e.symm)]⟩
   refine ⟨F,H.change0 (fun l'=>l'=l) (hch.wid fun x hx=> .inl ⟨l,_,rfl,hl,(hFb x).2 hx⟩) (fun l' x hne hx'=>?_) (fun l' x b' hT' hx' hb'=>?_) (fun hmm l' u q hT' hx'=>?_) (fun l1 l2 _ _ _ h1 h2 hne=>UU (h1.trans h2.symm) hne)⟩
   · rcases Ya hx' with ⟨e1,_⟩|⟨_,e1⟩
     · exact UU e1.symm hne
     · exact ⟨e1,rfl⟩
   · subst hT';exact .inl ⟨l',_,rfl,hl,hb'⟩
   · subst hT';rw [ZW] at hx'
     cases hx';rw [←he];exact .omap b es' clock' (by simp [hlt]) hFb hW'
  unfold Oper.wp execOp
  cases h1:JX (kvOf es) k with
  | none=>
    rw [h1] at hm
    cases h2:WZ (kvOf es) k with
    |some v=>rw [h2] at hm;simp at hm
    | none=>
      simp [ho,hxv,hyv,huv,Instr.mapUpdate,run_underlying hT.ht,getObj,setObj,Sem.run,hb,K6 hT.hk hT.hkd,Kj hT.hk hk,h1,h2,Oper.upon,hd,Act.put];exact kk _ _ (main _ _ (OD hWf) (Zdq h1))
  | some j =>
    rw [h1] at hm
    cases h2:WZ (kvOf es) k with
    |none=>rw [h2] at hm;simp at hm
    | some v0=>
      have hj:∃e0,es[j]? =some e0∧keq k e0.key=true:=by
       have key:∀(l:List MapEntry) (j:Nat),JX (l.map fun x=>(x.key,x.val)) k=some j→∃e0,l[j]? =some e0∧keq k e0.key=true:=by
        intro l;induction l with
        |nil=>intro j h;simp [JX] at h
        | cons e l ih=>
          intro j h;simp only [Xp,JX] at h;split at h
          · rename_i hk;cases h;exact ⟨e,rfl,hk⟩
          · rw [XA] at h;obtain ⟨j',h1,rfl⟩:=h;obtain ⟨e0,h3,h4⟩:=ih j' h1;exact ⟨e0,by simpa using h3,h4⟩
       obtain ⟨e0,h3,h4⟩:=key es.toList j h1;exact ⟨e0,by simpa using h3,h4⟩
      obtain ⟨e0,h3,h4⟩:=hj;have hb0:bits e0.key=true:=by
       cases k<;>simp [bits] at hbits<;>(generalize e0.key=y at h4 ⊢;cases y<;>simp_all [keq,bits])
      have hsb:=Eg hb0 h4;simp [ho,hxv,hyv,huv,Instr.mapUpdate,run_underlying hT.ht,getObj,setObj,Sem.run,hb,K6 hT.hk hT.hkd,Kj hT.hk hk,h1,h2,h3,Instr.keyThatStays,hsb,Oper.upon,hd,Act.put];exact kk _ _ (main _ _ (Ee _ (fun _=>rfl) hWf) (Ef h1))
theorem ZgK {t ks e:Nat} {kd:TypeDesc} {z:Value} {x y u:Operand} {m k v:Value} {kv:List (Value×Value)} {p q r:PV} (l:Nat) (hT:MpT P t ks e kd z) (kk:aL P c ops Q rest ⟨sL,put l (m, .omap (K5 kv k v)) hP⟩) (hw:ZT ops sL o=some true:=by exact rfl) (hd:o.dst=none:=by exact rfl) (ho:o.op= .insert t x y u:=by exact rfl) (hx:ev sL x=some (m,p):=by exact rfl) (hl:lk hP l=some (m, .omap kv):=by exact rfl) (hy:ev sL y=some (k,q):=by exact rfl) (hu:ev sL u=some (v,r):=by exact rfl) (hk:kok kd k kv:=by first|exact S1 _ _|exact S2 _ _|exact OE _ _|assumption) (hbits:bits k=true:=by exact rfl):aL P c ops Q (o::rest) (⟨sL,hP⟩:St):=
 Zju l hw hd hT ho hx hl hy hu hk hbits kk
end
section
variable {P:Program} {ops:Array Oper} {Q:Exit→Act→World→Prop} {md:Region.Mode} {C:World→Prop} {Z:Nat→Bool}
def Tu (md:Region.Mode) (ops:Array Oper):Nat→Nat→Nat→Bool
 |0,_,_=>false
 | n+1,z,i=>match ops[z]? with
   |some oz=>oz.after.any fun e=>Region.binds md e&&(e.on==i||Tu md ops n e.on i)
   |none=>false
def Ra (md:Region.Mode) (ops:Array Oper) (Z:Nat→Bool) (i:Nat):Bool:=(List.range ops.size).all fun z=> !Z z||Tu md ops ops.size z i
def Rb (md:Region.Mode) (ops:Array Oper) (listed:Array Bool):Bool:=(List.range ops.size).all fun k=> !(listed.getD k false)||(match ops[k]? with
 |some o=>o.after.all fun e=> !Region.binds md e||listed.getD e.on false
 |none=>true)
def ClosedL (md:Region.Mode) (ops:Array Oper) (listed:Array Bool):Prop:=∀(k:Nat) (o:Oper),ops[k]? =some o→listed.getD k false=true→∀e∈o.after,Region.binds md e=true→listed.getD e.on false=true
theorem CZ {listed:Array Bool} (h:Rb md ops listed=true):ClosedL md ops listed:=fun k o ho hk e he hb=>by
 have hks:k<ops.size:=by
  rcases XF k ops.size with h'|h'
  · exact h'
  · rw [Vj h'] at ho;cases ho
 have:=XB.1 h k (Vi.2 hks)
 rw [hk,ho] at this
 simp only [Bool.not_true,Bool.false_or] at this
 have:=(Array.all_eq_true'.1 this) e he
 rw [hb] at this
 simpa using this
theorem ClosedL.reach {listed:Array Bool} (h:ClosedL md ops listed) {i:Nat}:∀(n z:Nat),listed.getD z false=true→Tu md ops n z i=true→listed.getD i false=true
 |0,_,_,hr=>by simp [Tu] at hr
 | n +1,z,hz,hr=>by
   rw [Tu] at hr;split at hr
   · rename_i oz ho;obtain ⟨e,he,hb⟩:=Array.any_eq_true'.1 hr;simp only [Xe,X3,beq_iff_eq] at hb;have h1:=h z oz ho hz e he hb.1;rcases hb.2 with h2|h2
     · rw [←h2];exact h1
     · exact ClosedL.reach h n e.on h1 h2
   · cases hr
theorem ClosedL.ready {listed:Array Bool} (h:ClosedL md ops listed) {i j n:Nat} (hj:j∈Region.ready md ops listed) (hr:Tu md ops n j i=true):listed.getD i false=true:=by
 obtain ⟨_,oj,hoj,hall⟩:=mem_ready.1 hj
 cases n with
 |zero=>simp [Tu] at hr
 | succ n=>
   rw [Tu,hoj] at hr;obtain ⟨e,he,hb⟩:=Array.any_eq_true'.1 hr;simp only [Xe,X3,beq_iff_eq] at hb;have h1:=hall e he hb.1;rcases hb.2 with h2|h2
   · rw [←h2];exact h1
   · exact h.reach n e.on h1 h2
theorem ClosedL.set {listed:Array Bool} (h:ClosedL md ops listed) {j:Nat} (hj:j∈Region.ready md ops listed):ClosedL md ops (listed.setIfInBounds j true):=fun k o ho hk e he hb=>by
 obtain ⟨_,oj,hoj,hall⟩:=mem_ready.1 hj
 by_cases hkj:k=j
 · subst hkj;rw [hoj] at ho;cases ho;exact getD_set_true (hall e he hb)
 · rw [getD_set_ne false (Ne.symm hkj)] at hk;exact getD_set_true (h k o ho hk e he hb)
theorem HY {i:Nat} {oi:Oper} {v:Value} (hi:ops[i]? =some oi) (hz:Ra md ops Z i=true)
 (hsel:∀(j:Nat) (o:Oper) cs b,ops[j]? =some o→o.op≠ .select cs b):
 ∀ (fuel:Nat) (listed:Array Bool) (a:Act) (w:World),ClosedL md ops listed→
  (∀j oj,ops[j]? =some oj→j≠i→listed.getD j true=false→(∀e∈oj.after,Region.binds md e=true→e.on≠i)→oi.apart ops oj=true)→
  i∈Region.ready md ops listed→YieldsC P ops C oi v a→C w→
  KD P md ops Q C Z fuel (listed.setIfInBounds i true) (a.put oi.dst v) w→KD P md ops Q C Z (fuel+1) listed a w:=by
 intro fuel
 induction fuel with
 | zero=>
   intro listed a w _ _ hr hy hC H;refine ⟨fun h=>(by rw [h] at hr;cases hr),fun j hj=>?_⟩;by_cases hji:j=i
   · subst hji;exact YieldsIf.wpOp hi hy.ifS hC ⟨.inr hC,H⟩
   · have:=ready_mono hj hji;rw [H.1] at this
     cases this
 | succ fuel ih=>
   intro listed a w hcl hfree hr hy hC H;refine ⟨fun h=>(by rw [h] at hr;cases hr),fun j hj=>?_⟩;by_cases hji:j=i
   · subst hji;exact YieldsIf.wpOp hi hy.ifS hC ⟨.inr hC,H⟩
   · have h1:=H.2 j (ready_mono hj hji);obtain ⟨hjun,oj,hoj,hall⟩:=mem_ready.1 hj;have hnot:∀e∈oj.after,Region.binds md e=true→e.on≠i:=fun e he hb heq=>by
      have h1:=hall e he hb;have h0:=(mem_ready.1 hr).1;rw [heq] at h1;rcases XF i listed.size with h'|h'
      · simp [h'] at h0 h1;rw [h0] at h1;cases h1
      · simp [Vj h'] at h1
     have hjz:Z j=false:=by
      cases hZ:Z j
      · rfl
      · exfalso;have hjs:j<ops.size:=by
         rcases XF j ops.size with h'|h'
         · exact h'
         · rw [Vj h'] at hoj;cases hoj
        have:=XB.1 hz j (Vi.2 hjs);rw [hZ] at this;simp only [Bool.not_true,Bool.false_or] at this;have h0:=(mem_ready.1 hr).1;have h1:=hcl.ready hj this;rcases XF i listed.size with h'|h'
        · simp [h'] at h0 h1;rw [h0] at h1;cases h1
        · simp [Vj h'] at h1
     have h2:=wpOp_putIf hoj (hfree j oj hoj hji hjun hnot) (fun cs b=>hsel i oi cs b hi) (fun cs b=>hsel j oj cs b hoj) (fun c a w h=>h) hy.ifS h1;have hfree':∀k ok,ops[k]? =some ok→k≠i→(listed.setIfInBounds j true).getD k true=false→
      (∀e∈ok.after,Region.binds md e=true→e.on≠i)→oi.apart ops ok=true:=fun k ok hk hki hun hno=>by
      refine hfree k ok hk hki ?_ hno;by_cases hjk:j=k
      · subst hjk;exact hjun
      · rw [getD_set_ne true hjk] at hun;exact hun
     refine wpOp_mono (fun a' w' h3=>?_) h2;obtain ⟨hy',hor,hK⟩:=h3;have hC':C w':=by
      rcases hor with h|h
      · rw [hjz] at h;cases h
      · exact h
     refine ⟨.inr hC',ih (listed.setIfInBounds j true) a' w' (hcl.set hj) hfree' (ready_mono hr (Ne.symm hji)) hy' hC' ?_⟩;rw [Array.setIfInBounds_comm _ _ hji];exact hK
end
section
variable {P:Program} {c:Ctx} {ops:Array Oper} {Q:Exit→Act→World→Prop} {Z:Nat→Bool} {K:List Nat} {fuel:Nat} {listed:Array Bool} {sL hP:List (Nat×Ent)} {o:Oper}
theorem Zlm {V:Value→Prop} {p:PV} (i d:Nat) (ho:ops[i]? =some o) (hck:(Region.noSelect ops&&(Region.ready .any ops listed).contains i&&Region.free .any ops listed i&&Ra .any ops Z i&&Rb .any ops listed)=true) (hw:ZT ops sL o=some true) (hd:o.dst=some d) (hn:d<c.nt) (hy:YE P ⟨sL,Kk K hP⟩ o V p)
 (k:∀v,V v→aD P c ops Q Z K fuel (listed.setIfInBounds i true) ⟨put d (v,p) sL,hP⟩):aD P c ops Q Z K (fuel+1) listed (⟨sL,hP⟩:St):=fun a w F H C hC=>by
 simp only [Xe] at hck
 obtain ⟨⟨⟨⟨hs,hr⟩,hf⟩,hz⟩,hcl⟩:=hck
 obtain ⟨v,hV,hS,hrun⟩:=hy _ F a w (H.rdK K)
 refine JY hC _ _ _ _ ?_
 refine HY ho hz (Region.noSelect_spec hs) _ listed a w (CZ hcl) (Region.free_spec ho hf) (by simpa using hr) (v:=v) (.inl ⟨Jk H.rd hw,fun W hW=>?_⟩) (Chg.rfl' _ _) ?_
 · exact hrun _ W hW (fun b ⟨l,x,_,h1,h2⟩=> .inr ⟨l,x,h1,h2⟩) (fun l x b hl hFb ⟨l',x',h1,h2,h3⟩=>by
    obtain ⟨h4,h5⟩:=G5.1 hl;exact H.dj l l' _ _ b (fun e=>by rw [e,h1] at h4;cases h4) h5 h2 hFb h3)
 · rw [hd];exact k v hV _ w F (H.put hn hS) _ (fun W h=>h)
theorem ZmT {v:Value} {p:PV} (i d:Nat) (ho:ops[i]? =some o) (hck:(Region.noSelect ops&&(Region.ready .any ops listed).contains i&&Region.free .any ops listed i&&Ra .any ops Z i&&Rb .any ops listed)=true) (hw:ZT ops sL o=some true) (hd:o.dst=some d) (hn:d<c.nt) (hy:YE P ⟨sL,Kk K hP⟩ o (· =v) p)
 (k:aD P c ops Q Z K fuel (listed.setIfInBounds i true) ⟨put d (v,p) sL,hP⟩):aD P c ops Q Z K (fuel+1) listed (⟨sL,hP⟩:St):=Zlm i d ho hck hw hd hn hy fun u hu=>by cases hu;exact k
theorem xDT {v:Value} {p:PV} (i:Nat) (d:Nat) (ho:ops[i]? =some o) (hy:YE P ⟨sL,Kk K hP⟩ o (· =v) p) (k:aD P c ops Q Z K fuel (listed.setIfInBounds i true) ⟨put d (v,p) sL,hP⟩) (hck:(Region.noSelect ops&&(Region.ready .any ops listed).contains i&&Region.free .any ops listed i&&Ra .any ops Z i&&Rb .any ops listed)=true:=by kernel_rfl) (hw:ZT ops sL o=some true:=by exact rfl) (hd:o.dst=some d:=by exact rfl) (hn:d<c.nt:=by exact Xa rfl):aD P c ops Q Z K (fuel+1) listed (⟨sL,hP⟩:St):=
 ZmT i d ho hck hw hd hn hy k
theorem yDT {V:Value→Prop} {p:PV} (i:Nat) (d:Nat) (ho:ops[i]? =some o) (hy:YE P ⟨sL,Kk K hP⟩ o V p) (k:∀v,V v→aD P c ops Q Z K fuel (listed.setIfInBounds i true) ⟨put d (v,p) sL,hP⟩) (hck:(Region.noSelect ops&&(Region.ready .any ops listed).contains i&&Region.free .any ops listed i&&Ra .any ops Z i&&Rb .any ops listed)=true:=by kernel_rfl) (hw:ZT ops sL o=some true:=by exact rfl) (hd:o.dst=some d:=by exact rfl) (hn:d<c.nt:=by exact Xa rfl):aD P c ops Q Z K (fuel+1) listed (⟨sL,hP⟩:St):=
 Zlm i d ho hck hw hd hn hy k
end
def aDZ (P:Program) (c:Ctx) (ops:Array Oper) (Q:Exit→Act→World→Prop) (Z:Nat→Bool) (fuel:Nat) (listed:Array Bool) (st:St):Prop:=
 ∀a w F,HoldsF c st F a w→∀C:World→Prop,KD P .any ops Q C Z fuel listed a w
section
variable {P:Program} {c:Ctx} {ops:Array Oper} {Q:Exit→Act→World→Prop} {Z:Nat→Bool} {K:List Nat} {fuel:Nat} {listed:Array Bool} {sL hP:List (Nat×Ent)} {o:Oper}
theorem Rc {i:Nat} (ho:ops[i]? =some o) (hZ:Z i=true) (h:∀DQ:Exit→Act→World→Prop,(∀st':St,aDZ P c ops Q Z fuel (listed.setIfInBounds i true) st'→aN c DQ st')→aL P c ops DQ [o] (⟨sL,hP⟩:St)):aW P c ops Q Z K fuel listed (⟨sL,hP⟩:St) i:=fun a w F H C hC=>by
 refine K2 (Q':=fun _ a' w'=>(Z i=true∨C w')∧KD P .any ops Q C Z fuel (listed.setIfInBounds i true) a' w') ho (fun a' w' hq=>hq) ?_
 exact h _ (fun st' hN a' w' ⟨F',H'⟩=>⟨.inl hZ,hN a' w' F' H' C⟩) a w ⟨F,H⟩
theorem J1 (i:Nat) (hr:Region.ready .any ops listed=[i]) (ho:ops[i]? =some o) (hZ:Z i=true) (h:∀DQ:Exit→Act→World→Prop,(∀st':St,aDZ P c ops Q Z fuel (listed.setIfInBounds i true) st'→aN c DQ st')→aL P c ops DQ [o] (⟨sL,hP⟩:St)):aDZ P c ops Q Z (fuel+1) listed (⟨sL,hP⟩:St):=fun a w F H C=>
 ⟨(fun hn=>by rw [hr] at hn;cases hn),fun j hj=>by
   rw [hr] at hj;obtain rfl:j=i:=by simpa using hj
   refine K2 (Q':=fun _ a' w'=>(Z j=true∨C w')∧KD P .any ops Q C Z fuel (listed.setIfInBounds j true) a' w') ho (fun a' w' hq=>hq) ?_;exact h _ (fun st' hN a' w' ⟨F',H'⟩=>⟨.inl hZ,hN a' w' F' H' C⟩) a w ⟨F,H⟩⟩
theorem OJ (hr:Region.ready .any ops listed=[]) (h:aN c Q (⟨sL,hP⟩:St)):aDZ P c ops Q Z fuel listed (⟨sL,hP⟩:St):=fun a w F H C=>by
 cases fuel with
 |zero=>exact ⟨hr,h a w ⟨F,H⟩⟩
 |succ n=>exact ⟨fun _=>h a w ⟨F,H⟩,fun i hi=>by rw [hr] at hi;cases hi⟩
end
section
variable {P:Program} {st:St} {o:Oper} {x y:Operand} {q q':PV} {t t':TypeId}
end
section
variable {P:Program} {c:Ctx} {sL hP:List (Nat×Ent)}
theorem Zdy {fn:Func} {R:Value→PV→List (Nat×Ent)→Prop} {t ty s k e k' n:Nat} {h u:Value} {q p:PV} {cs:List PV} (l:Nat) (H':List (Nat×Ent)) (hT:AggT P ty k=true) (hr:fn.results= #[.cell t ty, .tmp s]) (ht:lk sL t=some (padd (sbase h) 0,q)) (hl:lk hP l=some (h, .own e k' n cs)) (hs:lk sL s=some (u,p)) (hp:k≤cs.length) (hk:0<k) (hsh:(cs.take k).all isSh=true) (hsub:Sub H' hP) (hR:∀V:Value,R (.tuple [V,u].toArray) (.tup [.agg (cs.take k),p]) H') (hdf:c.df=[]:=by exact rfl):aR c (bodyPost P fn (CY c R)) (⟨sL,hP⟩:St):=fun a w ⟨F,H⟩=>by
 obtain ⟨V,A,h0,h1,h2⟩:=G8 H hT ht hl hp hk hsh
 obtain ⟨h3,h4⟩:=H.sl s _ _ hs
 have H2:HoldsF c (⟨sL,H'⟩:St) F a w:=H.less (fun _ _ h=>h) fun t x hx=>hsub.lk hx
 have hM:∀b,b<w.heap.size→mof c H' F b→mof c hP F b:=fun b _ hb=>by
  rcases hb with hb|⟨l,x,h1,h2⟩
  · exact .inl hb
  · exact .inr ⟨l,x,hsub.lk h1,h2⟩
 refine ⟨H.df.trans hdf, .tuple #[V,u],?_, .tuple #[V,u], .tup [.agg (cs.take k),p],H',F,rfl,hR _,H2.toHeapF, .tup [V,u] _ rfl fun i v q' hv hq'=>?_⟩
 · simp only [results,hr];simp at h0;simp [h0,h1,X0,h3]
 · match i with
   |0=>simp at hv hq';subst hv hq';exact h2.anti hM
   |1=>simp at hv hq';subst hv hq';exact h4.anti hM
   |i+2=>simp at hv
end
section
variable {P:Program} {c:Ctx} {ops:Array Oper} {Q:Exit→Act→World→Prop} {Z:Nat→Bool} {K:List Nat} {fuel:Nat} {listed:Array Bool} {sL hP:List (Nat×Ent)} {o:Oper}
theorem Zjv (i j k l:Nat) (hr:Region.ready .any ops listed=[i,j,k,l]) (h:aW P c ops Q Z K fuel listed (⟨sL,hP⟩:St) i) (h':aW P c ops Q Z K fuel listed (⟨sL,hP⟩:St) j) (h'':aW P c ops Q Z K fuel listed (⟨sL,hP⟩:St) k) (h3:aW P c ops Q Z K fuel listed (⟨sL,hP⟩:St) l):aD P c ops Q Z K (fuel+1) listed (⟨sL,hP⟩:St):=fun a w F H C hC=>
 ⟨(fun hn=>by rw [hr] at hn;cases hn),fun m hm=>by
   rw [hr] at hm;rcases (by simpa using hm:m=i∨m=j∨m=k∨m=l) with rfl|rfl|rfl|rfl
   · exact h a w F H C hC
   · exact h' a w F H C hC
   · exact h'' a w F H C hC
   · exact h3 a w F H C hC⟩
end
end Go.En
