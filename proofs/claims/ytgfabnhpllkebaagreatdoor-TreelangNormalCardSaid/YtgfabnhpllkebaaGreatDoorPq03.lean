/-
  Walks: process trees: which nodes are right, how many there are, which trees are valid, in the program and in the reference.
  The engine, fifteenth part: a row is sorted by the library. No program in sight.
  The engine: a row is cut short; new rows of zeros by append. No program in sight.
  The engine: a row of numbers is sorted by the library. No program in sight.
  The engine: rows are sorted by the library, compared by functions that were walked. No program in sight.
  The engine: ranging over a map that is read. No program in sight.
  The engine: maps whose keys are pairs of strings. No program in sight.
  The engine: owned structs behind pointers, handed back and opened. No program in sight.
  The engine: calls that change what the caller owns. No program in sight.
  The engine: structs of plain values are compared. No program in sight.
  The engine: what an owned thing reads as, written otherwise. No program in sight.
  The engine: literals of structs. No program in sight.
  The engine: a contract's result, read otherwise. No program in sight.
  The engine: a slot's value, read otherwise. No program in sight.
  Walks: process trees: comparing them, which are the same, which are great.
  Process trees: tokens and reading, in plain Lean.
  The engine: fields of struct values, elements of arrays that are shared. No program in sight.
  The engine: remainders, bits. No program in sight.
  The engine: arrays of two numbers are compared. No program in sight.
  The engine: numerals are appended to a row of bytes; the library's table. No program in sight.
  The engine: quotients; a struct and a value are handed back beside what is owned. No program in sight.
  The engine: four operations that come up together. No program in sight.
-/
import Derived.Shelf.SlSortCmp.InsertionK
import Derived.Shelf.SlSortCmp.Kit1
import Derived.Maps.RangeRun
import Derived.DeepKeys3
import Derived.Lib.SliceRun
import Derived.Laws.StructEq
import Derived.Lib.Bytealg
import Derived.Lib.AppendIntMem
import Derived.Lib.OthersKept
import Derived.Laws.BytesArg
import Derived.Test.YtgfabnhpllkebaaGreatDoorPq02
import Derived.Test.YtgfabnhpllkebaaGreatDoorPq01
namespace Go.Proofs.YtgfabnhpllkebaaGreatDoor
open Go.RowKit Go.Cb Go.En
set_option linter.all false
set_option maxRecDepth 100000
theorem ZeB:AggT Tryz.prog 24 3=true:=by kernel_rfl
theorem Zp5:FldT Tryz.prog 24 0 0=true:=by kernel_rfl
theorem Zb7:FldT Tryz.prog 24 1 1=true:=by kernel_rfl
theorem Zj0:FldT Tryz.prog 24 2 2=true:=by kernel_rfl
theorem Zm3:NoAgg Tryz.prog 22=true:=by kernel_rfl
theorem ZwY:NoAgg Tryz.prog 3=true:=by kernel_rfl
theorem ZdY:NoAgg Tryz.prog 9=true:=by kernel_rfl
theorem Zjd:SlT Tryz.prog 22 24 3=true:=by kernel_rfl
theorem Zu4:ZeroT Tryz.prog 24 (.agg #[(.int .i64 0),(.string ByteArray.empty),(.slice none 0 0)]):=by unfold ZeroT;kernel_rfl
mutual
def cTr:Nd→List PV
 | .mk o a l=>[pInt o,Zab a, .sl l.length (ζ3 l)]
def ζ3:List Nd→List PV
 |[]=>[]
 |x::l=>cTr x++ζ3 l
end
def Zag (l:List Nd):PV:= .sl l.length (ζ3 l)
def cN (t:Nd):List PV:=[pInt t.op,Zab t.act,Zag t.l]
def pTr (t:Nd):PV:= .agg (cN t)
theorem Zfb (t:Nd):(cN t).length=3:=rfl
theorem ZaV (l:List Nd):ζ3 l=l.flatMap cN:=by
 induction l with
 |nil=>rfl
 | cons x l ih=>
   rw [ζ3,ih,Xr];congr 1
   cases x;rfl
theorem ζ4 {l:List Nd} {k:Nat} {x:Nd} (h:l[k]? =some x):((ζ3 l).drop (k*3)).take 3=cN x:=by rw [ZaV];exact Zaq Zfb l k x h
theorem Zah {l:List Nd} {k:Nat} {x:Nd} (h:l[k]? =some x):k*3+3≤(ζ3 l).length:=by rw [ZaV];exact ZaP Zfb h
inductive FitT:Nd→Prop
 |mk (t:Nd) (h1:t.l.length≤140737488355328) (h2:t.act.size≤140737488355328) (h3: -9223372036854775808≤t.op) (h4:t.op≤9223372036854775807) (h:∀x∈t.l,FitT x):FitT t
theorem FitT.len {t:Nd}:FitT t→t.l.length≤140737488355328
 | .mk _ h _ _ _ _=>h
theorem FitT.sz {t:Nd}:FitT t→t.act.size≤140737488355328
 | .mk _ _ h _ _ _=>h
theorem FitT.p {t:Nd}:FitT t→∀x∈t.l,FitT x
 | .mk _ _ _ _ _ h=>h
theorem Zon (a:ByteArray):(a.toList==ByteArray.toList {data:= #[]})=decide (a=ByteArray.empty):=by
 rw [VI,decide_eq_true_eq]
 exact Zfp (a:=a) (b:=ByteArray.empty)
section
variable {o:Int} {a:ByteArray} {l:List Nd}
theorem Zfr:rightT (.mk o a l)=if o=1 then l.isEmpty&&ZcY a else if o=2 then l.isEmpty&&decide (a=ByteArray.empty) else if o=3∨o=4∨o=5 then !l.isEmpty&&decide (a=ByteArray.empty)
 else if o=6 then decide (l.length=2)&&decide (a=ByteArray.empty) else false:=rfl
theorem ZCS (h:o=1):rightT (.mk o a l)=(decide ((l.length:Int)=0)&&ZcY a):=by
 rw [Zfr,if_pos h]
 congr 1
 cases l<;>simp<;>omega
theorem ZCT (h:o=2):rightT (.mk o a l)=(decide ((l.length:Int)=0)&&(a.toList==ByteArray.toList {data:= #[]})):=by
 rw [Zfr,Zon,if_neg (by omega),if_pos h]
 congr 1
 cases l<;>simp<;>omega
theorem Zsm (h:o=3∨o=4∨o=5):rightT (.mk o a l)=(decide (1≤(l.length:Int))&&(a.toList==ByteArray.toList {data:= #[]})):=by
 rw [Zfr,Zon,if_neg (by omega),if_neg (by omega),if_pos h]
 congr 1
 cases l<;>simp<;>omega
theorem Zsn (h:o=6):rightT (.mk o a l)=(decide ((l.length:Int)=2)&&(a.toList==ByteArray.toList {data:= #[]})):=by
 rw [Zfr,Zon,if_neg (by omega),if_neg (by omega),if_neg (by omega),if_pos h]
 congr 1
 rw [VI,decide_eq_true_eq,decide_eq_true_eq];omega
theorem Zso (h1:o≠1) (h2:o≠2) (h3:o≠3) (h4:o≠4) (h5:o≠5) (h6:o≠6):rightT (.mk o a l)=false:=by
 rw [Zfr,if_neg h1,if_neg h2,if_neg (by omega),if_neg h6]
end
theorem ZdZ {a b:Bool} (h:a=true):ζV b=ζV (a&&b):=by rw [h];rfl
theorem ZeY {a b:Bool} (h:a=false):ζV false=ζV (a&&b):=by rw [h];rfl
theorem ZwZ (t : Nd) (hf:FitT t):AF Tryz.prog 117 [pTr t] (· =ζV (rightT t)):=by
 obtain ⟨o,a,l⟩:=t
 have hl:=hf.len
 have ha:=hf.sz
 simp only [Nd.l,Nd.act] at hl ha
 refine AF.of_body 47 Tryz.func117 rfl Tryz.ntmps117 (Xa rfl) ?_
 intro w0 M0 vs hl hv
 obtain ⟨v0,rfl⟩:=Zco hl
 clear hl hv
 have e0:pTr (.mk o a l)= .agg [pInt o,Zab a, .sl l.length (ζ3 l)]:=rfl
 rw [e0]
 refine nav ?_
 (refine ζa ?_<;>refine ζH 1 3 fun h1=>?_<;>refine xL 2 ζc ?_<;>refine ζd ?_)
 (refine ζa ?_<;>refine xL 4 (ζh 1 Zj0) ?_<;>(refine yL 5 (ζq 1 Zm3) fun v5 h=>?_;cases h)<;>refine xL 6 (ζU Zjd) (xL 3 ζc ?_)<;>refine ζd ?_)
 (refine ζa ?_<;>refine xL 7 (ζh 1 Zp5) ?_<;>(refine yL 8 (ζq 1 ZwY) fun v8 h=>?_;cases h)<;>refine ζd ?_)
 (refine ζa ?_<;>refine xL 10 ζ6 (xL 9 ζc ?_)<;>refine ζd ?_)
 (first|refine cCd ?_ ?_|refine cC ?_ ?_)<;>intro hb9
 · first
   |exact bN hb9
   | (
    refine nav ?_;(refine ζa ?_<;>refine xL 11 ζb (xL 12 ζ6 (xL 13 ζb ?_))<;>(refine bLd 13 (fun hb13=>?_) (fun hb13=>?_)<;>(first|refine kL 14 ?_|refine xL 14 (ζh 1 Zb7) ?_))<;>(first|refine kL 15 ?_|(refine yL 15 (ζq 1 ZdY) fun v15 h=>?_;cases h))<;>(first|refine kL 16 ?_|(refine cS 16 (cA Tryz.call103 (ZwS a (by omega))) fun v16 h=>?_;cases h))<;>refine xL 17 ζJ (xL 2 ζc ?_)<;>refine ζd ?_)<;>(
     refine ζx (Tryz.results117) rfl ?_;rw [ZCS hb9]
     first
      |exact ZdZ (decide_eq_true hb13)
      |exact ZeY (decide_eq_false hb13)))
 · first
   |exact bN hb9
   | (
    refine nav ?_;(refine ζa ?_<;>refine xL 19 ζ6 (xL 18 ζc ?_)<;>refine ζd ?_)
    (first|refine cCd ?_ ?_|refine cC ?_ ?_)<;>intro hb18
    · first
      |exact bN hb18
      | (
       refine nav ?_;(refine ζa ?_<;>refine xL 20 ζb (xL 21 ζ6 (xL 22 ζb ?_))<;>(refine bLd 22 (fun hb22=>?_) (fun hb22=>?_)<;>(first|refine kL 23 ?_|refine xL 23 (ζh 1 Zb7) ?_))<;>(first|refine kL 24 ?_|(refine yL 24 (ζq 1 ZdY) fun v24 h=>?_;cases h))<;>(first|refine kL 25 ?_|refine xL 25 ZfX ?_)<;>refine xL 26 ζJ (xL 2 ζc ?_)<;>refine ζd ?_)<;>(
        refine ζx (Tryz.results117) rfl ?_;rw [ZCT hb18]
        first
         |exact ZdZ (decide_eq_true hb22)
         |exact ZeY (decide_eq_false hb22)))
    · first
      |exact bN hb18
      | (
       refine nav ?_;(refine ζa ?_<;>refine xL 28 ζ6 (xL 27 ζc ?_)<;>refine ζd ?_)
       (first|refine cCd ?_ ?_|refine cC ?_ ?_)<;>intro hb27
       · first
         |exact bN hb27
         | (
          refine nav ?_;(first|refine cCd ?_ ?_|refine cC ?_ ?_)<;>intro hb27
          · first
            |exact bN hb27
            | (
             refine nav ?_;(refine ζa ?_<;>refine xL 31 ζb (xL 32 ZcX (xL 33 ζb ?_))<;>(refine bLd 33 (fun hb33=>?_) (fun hb33=>?_)<;>(first|refine kL 34 ?_|refine xL 34 (ζh 1 Zb7) ?_))<;>(first|refine kL 35 ?_|(refine yL 35 (ζq 1 ZdY) fun v35 h=>?_;cases h))<;>(first|refine kL 36 ?_|refine xL 36 ZfX ?_)<;>refine xL 37 ζJ (xL 2 ζc ?_)<;>refine ζd ?_)<;>(
              refine ζx (Tryz.results117) rfl ?_;rw [Zsm (by omega)]
              first
               |exact ZdZ (decide_eq_true hb33)
               |exact ZeY (decide_eq_false hb33)))
          · first
            |exact bN hb27
            | (
             refine nav ?_;(refine ζa ?_<;>refine xL 39 ζ6 (xL 38 ζc ?_)<;>refine ζd ?_)
             (first|refine cCd ?_ ?_|refine cC ?_ ?_)<;>intro hb38
             · first
               |exact bN hb38
               | (
                refine nav ?_;(refine ζa ?_<;>refine xL 40 ζb (xL 41 ζ6 (xL 42 ζb ?_))<;>(refine bLd 42 (fun hb42=>?_) (fun hb42=>?_)<;>(first|refine kL 43 ?_|refine xL 43 (ζh 1 Zb7) ?_))<;>(first|refine kL 44 ?_|(refine yL 44 (ζq 1 ZdY) fun v44 h=>?_;cases h))<;>(first|refine kL 45 ?_|refine xL 45 ZfX ?_)<;>refine xL 46 ζJ (xL 2 ζc ?_)<;>refine ζd ?_)<;>(
                 refine ζx (Tryz.results117) rfl ?_;rw [Zsn hb38]
                 first
                  |exact ZdZ (decide_eq_true hb42)
                  |exact ZeY (decide_eq_false hb42)))
             · first
               |exact bN hb38
               | (
                refine nav ?_;(refine ζa ?_<;>refine xL 2 ζc ?_<;>refine ζd ?_)
                refine ζx (Tryz.results117) rfl ?_;rw [Zso (by omega) (by omega) (by omega) (by omega) (by omega) (by omega)])))
       · first
         |exact bN hb27
         | (
          refine nav ?_;(refine ζa ?_<;>refine xL 29 ζ6 (xL 27 ζc ?_)<;>refine ζd ?_)
          (first|refine cCd ?_ ?_|refine cC ?_ ?_)<;>intro hb27
          · first
            |exact bN hb27
            | (
             refine nav ?_;(first|refine cCd ?_ ?_|refine cC ?_ ?_)<;>intro hb27
             · first
               |exact bN hb27
               | (
                refine nav ?_;(refine ζa ?_<;>refine xL 31 ζb (xL 32 ZcX (xL 33 ζb ?_))<;>(refine bLd 33 (fun hb33=>?_) (fun hb33=>?_)<;>(first|refine kL 34 ?_|refine xL 34 (ζh 1 Zb7) ?_))<;>(first|refine kL 35 ?_|(refine yL 35 (ζq 1 ZdY) fun v35 h=>?_;cases h))<;>(first|refine kL 36 ?_|refine xL 36 ZfX ?_)<;>refine xL 37 ζJ (xL 2 ζc ?_)<;>refine ζd ?_)<;>(
                 refine ζx (Tryz.results117) rfl ?_;rw [Zsm (by omega)]
                 first
                  |exact ZdZ (decide_eq_true hb33)
                  |exact ZeY (decide_eq_false hb33)))
             · first
               |exact bN hb27
               | (
                refine nav ?_;(refine ζa ?_<;>refine xL 39 ζ6 (xL 38 ζc ?_)<;>refine ζd ?_)
                (first|refine cCd ?_ ?_|refine cC ?_ ?_)<;>intro hb38
                · first
                  |exact bN hb38
                  | (
                   refine nav ?_;(refine ζa ?_<;>refine xL 40 ζb (xL 41 ζ6 (xL 42 ζb ?_))<;>(refine bLd 42 (fun hb42=>?_) (fun hb42=>?_)<;>(first|refine kL 43 ?_|refine xL 43 (ζh 1 Zb7) ?_))<;>(first|refine kL 44 ?_|(refine yL 44 (ζq 1 ZdY) fun v44 h=>?_;cases h))<;>(first|refine kL 45 ?_|refine xL 45 ZfX ?_)<;>refine xL 46 ζJ (xL 2 ζc ?_)<;>refine ζd ?_)<;>(
                    refine ζx (Tryz.results117) rfl ?_;rw [Zsn hb38]
                    first
                     |exact ZdZ (decide_eq_true hb42)
                     |exact ZeY (decide_eq_false hb42)))
                · first
                  |exact bN hb38
                  | (
                   refine nav ?_;(refine ζa ?_<;>refine xL 2 ζc ?_<;>refine ζd ?_)
                   refine ζx (Tryz.results117) rfl ?_;rw [Zso (by omega) (by omega) (by omega) (by omega) (by omega) (by omega)])))
          · first
            |exact bN hb27
            | (
             refine nav ?_;(refine ζa ?_<;>refine xL 30 ζ6 (xL 27 ζc ?_)<;>refine ζd ?_)
             (first|refine cCd ?_ ?_|refine cC ?_ ?_)<;>intro hb27
             · first
               |exact bN hb27
               | (
                refine nav ?_;(refine ζa ?_<;>refine xL 31 ζb (xL 32 ZcX (xL 33 ζb ?_))<;>(refine bLd 33 (fun hb33=>?_) (fun hb33=>?_)<;>(first|refine kL 34 ?_|refine xL 34 (ζh 1 Zb7) ?_))<;>(first|refine kL 35 ?_|(refine yL 35 (ζq 1 ZdY) fun v35 h=>?_;cases h))<;>(first|refine kL 36 ?_|refine xL 36 ZfX ?_)<;>refine xL 37 ζJ (xL 2 ζc ?_)<;>refine ζd ?_)<;>(
                 refine ζx (Tryz.results117) rfl ?_;rw [Zsm (by omega)]
                 first
                  |exact ZdZ (decide_eq_true hb33)
                  |exact ZeY (decide_eq_false hb33)))
             · first
               |exact bN hb27
               | (
                refine nav ?_;(refine ζa ?_<;>refine xL 39 ζ6 (xL 38 ζc ?_)<;>refine ζd ?_)
                (first|refine cCd ?_ ?_|refine cC ?_ ?_)<;>intro hb38
                · first
                  |exact bN hb38
                  | (
                   refine nav ?_;(refine ζa ?_<;>refine xL 40 ζb (xL 41 ζ6 (xL 42 ζb ?_))<;>(refine bLd 42 (fun hb42=>?_) (fun hb42=>?_)<;>(first|refine kL 43 ?_|refine xL 43 (ζh 1 Zb7) ?_))<;>(first|refine kL 44 ?_|(refine yL 44 (ζq 1 ZdY) fun v44 h=>?_;cases h))<;>(first|refine kL 45 ?_|refine xL 45 ZfX ?_)<;>refine xL 46 ζJ (xL 2 ζc ?_)<;>refine ζd ?_)<;>(
                    refine ζx (Tryz.results117) rfl ?_;rw [Zsn hb38]
                    first
                     |exact ZdZ (decide_eq_true hb42)
                     |exact ZeY (decide_eq_false hb42)))
                · first
                  |exact bN hb38
                  | (
                   refine nav ?_;(refine ζa ?_<;>refine xL 2 ζc ?_<;>refine ζd ?_)
                   refine ζx (Tryz.results117) rfl ?_;rw [Zso (by omega) (by omega) (by omega) (by omega) (by omega) (by omega)]))))))
theorem Zsp : ∀(t:Nd),FitT t→∀(most d:Int),-4611686018427387904≤most→most≤4611686018427387904→-4611686018427387904≤d→d≤4611686018427387904→AF Tryz.prog 73 [pTr t,pInt most,pInt d] (· = .tup [pInt (if Zf3 t most d=true then (szT t:Int) else 0),ζV (Zf3 t most d)]):=Nd.ind fun o a l ih hf most d hm1 hm2 hd1 hd2=>by
 have hl:=hf.len
 have hp:=hf.p
 simp only [Nd.l] at hl hp
 refine AF.of_body 48 Tryz.func73 rfl Tryz.ntmps73 (Xa rfl) ?_
 intro w0 M0 vs hl hv
 obtain ⟨v0,v1,v2,rfl⟩:=ZgF hl
 obtain rfl:=hv 1 _ _ rfl rfl
 obtain rfl:=hv 2 _ _ rfl rfl
 clear hl hv
 have e0:pTr (.mk o a l)= .agg [pInt o,Zab a, .sl l.length (ζ3 l)]:=rfl
 rw [e0]
 refine nav ?_
 (refine ζa ?_<;>refine ζH 3 3 fun h3=>?_<;>refine xL 6 ζc (xL 7 ζc ?_)<;>refine ζd ?_)
 (refine ζa ?_<;>refine xL 13 ζb (xL 14 ζK (xL 15 ζb ?_))<;>(refine bLd 15 (fun hb15=>?_) (fun hb15=>?_)<;>(first|refine kL 16 ?_|refine xL 16 ζb ?_))<;>(first|refine kL 17 ?_|refine xL 17 ZaF ?_)<;>refine xL 18 ζJ (xL 19 ζb ?_)<;>(first|refine kL 20 ?_|(refine bLd 19 (fun hb19=>?_) (fun hb19=>?_)<;>(first|refine kL 20 ?_|(refine yL 20 (ζk 3 ZeB) fun v20 h=>?_;cases h))))<;>(first|refine kL 21 ?_|(refine cS 21 (cA Tryz.call117 (ZwZ (.mk o a l) hf)) fun v21 h=>?_;cases h))<;>(first|refine kL 22 ?_|refine xL 22 Zav ?_)<;>refine xL 23 ζJ ?_<;>refine ζd ?_)<;>(
  (first|refine cCd ?_ ?_|refine cC ?_ ?_)<;>intro hb23
  · first
    |exact bN hb23
    | (
     refine nav ?_;(refine ζa ?_<;>refine xL 6 ζc (xL 7 ζc ?_)<;>refine ζd ?_)
     refine Zc8 (Tryz.results73) rfl rfl ?_;rw [ZCQ (by first|exact .inl (by omega)|exact .inr (.inl (by omega))|exact .inr (.inr (by simpa using hb23)))];rfl)
  · first
    |exact bN hb23
    | (
     (have hrt:rightT (.mk o a l)=true:=by simpa using hb23);refine nav ?_;(refine ζa ?_<;>refine xL 8 ζc ?_<;>refine ζd ?_)
     (refine ζa ?_<;>refine xL 24 (ζh 3 Zj0) ?_<;>(refine yL 25 (ζq 3 Zm3) fun v25 h=>?_;cases h)<;>refine xL 26 (ζU Zjd) (xL 27 ζb ?_)<;>refine ζd ?_)
     refine ζy (ι:={k:Nat//k≤l.length∧((1+szL (l.take k):Nat):Int)≤most∧∀j x,j<k→l[j]? =some x→Zf3 x (most-((1+szL (l.take j):Nat):Int)) (d+1)=true}) (fun k=>⟨[(1,_,_),(2,_,_),(25,_,_),(26,_,_),(27, .int .i64 k.1,pInt k.1),(8, .int .i64 ((1+szL (l.take k.1):Nat):Int),pInt ((1+szL (l.take k.1):Nat):Int))],[(3,_,_)]⟩) (fun k=>l.length-k.1) ⟨0,by omega,by simp [szL];omega,by omega⟩ (fun a w H=>H.weaken ⟨rfl,rfl,rfl,rfl,rfl,rfl,trivial⟩ ⟨rfl,trivial⟩) ?_;rintro ⟨k,hk,hsz,hp2⟩;dsimp only;refine nav ?_;(refine ζa ?_<;>refine xL 28 ζK ?_<;>refine ζd ?_)
     (first|refine cCd ?_ ?_|refine cC ?_ ?_)<;>intro hb28
     · first
       |exact bN hb28
       | (
        obtain ⟨x,hx⟩:=ζm (show k<l.length by omega);have hxm:=Xb hx;have e1:=ζ4 hx;have e2:=Zah hx;refine nav ?_;(refine ζa ?_<;>refine xL 29 (ζI Zjd) ?_<;>(refine yL 30 (ZaQ ZeB) fun v30 h=>?_;cases h)<;>refine ζs [(.int .i64 0),(.string ByteArray.empty),(.slice none 0 0)] 3 10 Zu4 fun h10=>?_<;>refine ζt 10 ZeB ?_<;>refine ζd ?_)
        (refine ζa ?_<;>(refine yL 32 (ζk 10 ZeB) fun v32 h=>?_;cases h)<;>refine xL 33 ζb (xL 34 ζb (xL 35 ZeX (xL 36 ζb (xL 37 ζG ?_))))<;>(refine cP 38 (cA Tryz.call73 (ih x hxm (hp x hxm) (most-((1+szL (l.take k):Nat):Int)) (d+1) (by omega) (by omega) (by omega) (by omega))) fun va38 vb38 hva38 hvb38=>?_;cases hva38;cases hvb38)<;>refine xL 31 ζb (xL 39 ζl (xL 40 ζl (xL 11 ζc (xL 12 ζc ?_))))<;>refine ζd ?_)
        (refine ζa ?_<;>refine xL 41 ζb (xL 42 Zav ?_)<;>refine ζd ?_)
        (first|refine cCd ?_ ?_|refine cC ?_ ?_)<;>intro hb42
        · first
          |exact bN hb42
          | (
           refine nav ?_;(refine ζa ?_<;>refine xL 6 ζc (xL 7 ζc ?_)<;>refine ζd ?_)
           refine Zc8 (Tryz.results73) rfl rfl ?_;rw [ZwW (t:= .mk o a l) hx (by simpa [Nd.l] using hb42)];rfl)
        · first
          |exact bN hb42
          | (
           (have hmx:Zf3 x (most-((1+szL (l.take k):Nat):Int)) (d+1)=true:=by simpa using hb42);have hsn:=ZpZ hx;have hbd:(szT x:Int)≤most-((1+szL (l.take k):Nat):Int):=by
            have:=hmx;unfold Zf3 at this;simp only [Xg,decide_eq_true_eq] at this;exact this.1.2
           (have hn2:((1+szL (l.take k):Nat):Int)+(szT x:Int)=((1+szL (l.take (k+1)):Nat):Int):=by omega);rw [if_pos hmx];refine nav ?_;(refine ζa ?_<;>refine xL 43 ζb (xL 44 ζb ?_)<;>(refine xL 45 ζG ?_;rw [hn2])<;>refine xL 8 ζc ?_<;>refine ζd ?_)
           (refine ζa ?_<;>refine xL 46 ζG (xL 27 ζb ?_)<;>refine ζd ?_)
           refine ζj (
            ⟨k+1,by omega,by omega,fun j y hj hy=>by
             by_cases e:j=k
             · subst e;rw [hx] at hy;cases hy;exact hmx
             · exact hp2 j y (by omega) hy⟩
            ) (by dsimp only;omega) ⟨rfl,rfl,rfl,rfl,rfl,rfl,trivial⟩ ⟨rfl,trivial⟩))
     · first
       |exact bN hb28
       | (
        refine nav ?_;(refine ζa ?_<;>refine xL 47 ζb (xL 6 ζc (xL 7 ζc ?_))<;>refine ζd ?_)
        refine Zc8 (Tryz.results73) rfl rfl ?_;(have hkl:k=l.length:=by omega);subst hkl;rw [ZAf (t:= .mk o a l) hrt (by omega) (by omega) fun j x hx=>hp2 j x (ζg hx) hx];rw [Xo (Xd _),if_pos rfl,szT])))
theorem Zfs (t:Nd) (hf:FitT t):AF Tryz.prog 24 [pTr t] (· =ζV (Zbv t)):=by
 refine AF.of_body 11 Tryz.func24 rfl Tryz.ntmps24 (Xa rfl) ?_
 intro w0 M0 vs hl hv
 obtain ⟨v0,rfl⟩:=Zco hl
 clear hl hv
 have e0:pTr t= .agg [pInt t.op,Zab t.act,Zag t.l]:=rfl
 rw [e0]
 refine nav ?_
 (refine ζa ?_<;>refine ζH 1 3 fun h1=>?_<;>refine xL 2 ζc ?_<;>refine ζd ?_)
 (refine ζa ?_<;>(refine yL 6 (ζk 1 ZeB) fun v6 h=>?_;cases h)<;>(refine cP 7 (cA Tryz.call73 (Zsp t hf 400 1 (by omega) (by omega) (by omega) (by omega))) fun va7 vb7 hva7 hvb7=>?_;cases hva7;cases hvb7)<;>refine xL 5 ζb (xL 8 ζl (xL 9 ζl (xL 3 ζc (xL 4 ζc ?_))))<;>refine ζd ?_)
 (refine ζa ?_<;>refine xL 10 ζb (xL 2 ζc ?_)<;>refine ζd ?_)
 exact ζx Tryz.results24 rfl rfl
end Go.Proofs.YtgfabnhpllkebaaGreatDoor
namespace Go.En
open Go.RowKit Go.Cb Go.Proofs Go.Sort
set_option linter.all false
def ZCd (P:Program) (fs g k:Nat):Prop:=∀{α:Type} [Inhabited α] (enc:α→List Value),(∀x,(enc x).length=k)→(∀x,∀v∈enc x,v.oneCell'=true)→∀(cf:α→α→Int),SWO (ltOf cf)→∀(blk cap:Nat) (d:Array α) (w:World),
 CmpLays P g #[] enc k cf blk 0 d.size w→HoldsK enc k w blk 0 d→blk<w.heap.size→d.size<4611686018427387904→
 Calls P fs #[.slice (some ⟨blk,0,none⟩) d.size cap, .func (.func g) #[] #[]] w fun e w'=>e= .returned (.tuple #[])∧∃d' n os,PermIn 0 d.size d d'∧SortedIn (ltOf cf) 0 d.size d'∧w'=sortWorldK enc k w blk 0 n d' os
theorem Zw0 {α:Type} [Inhabited α] (enc:α→List Value) (k:Nat) (w:World) (blk m:Nat) (d:Array α) (os:Array Obj):Chg (fun b=>b=blk) w (sortWorldK enc k w blk 0 m d os):=by
 refine ⟨rfl,rfl,rfl,?_,fun i hi hne=>?_⟩
 · simp [sortWorldK,grow,putRowK,putRow,mapBlock,ahead]
 · have:(sortWorldK enc k w blk 0 m d os).heap=(w.heap.modify blk (onCells (putCells id 0 (flatK enc k d))))++os:=rfl;rw [this,Vm (by simpa using hi),VJ,if_neg (fun e=>hne e.symm)]
theorem ZCU {α:Type} [Inhabited α] (enc:α→List Value) (k:Nat) (w:World) (blk m:Nat) (d:Array α) (os:Array Obj) {cur:Array Value} {e:TypeId} (h:w.heap[blk]? =some (.cells cur e (0,0))):
 (sortWorldK enc k w blk 0 m d os).heap[blk]? =some (.cells (putCells id 0 (flatK enc k d) cur) e (0,0)):=by
 have hlt:=Za8 h
 have:(sortWorldK enc k w blk 0 m d os).heap=(w.heap.modify blk (onCells (putCells id 0 (flatK enc k d))))++os:=rfl
 rw [this,Vm (by simpa using hlt),VJ,if_pos rfl,h]
 rfl
theorem Zw1 (f cur:Array Value) (h:f.size≤cur.size):(putCells id 0 f cur).toList.take f.size=f.toList:=by
 apply Vn
 intro j
 by_cases hj:j<f.size
 · rw [XZ hj];have hjc:j<cur.size:=by omega
   simp [putCells,hj,hjc]
 · rw [XN (by simp;omega),XN (by simp;omega)]
section
variable {P:Program} {c:Ctx} {ops:Array Oper} {Q:Exit→Act→World→Prop} {rest:List Oper} {sL hP:List (Nat×Ent)} {o:Oper}
theorem ZtL {β:Type} {fs g k e d l:Nat} {f:β→List PV} {cmp:β→β→Int} {rows:List β} {h:Value} {q q':PV} {x y:Operand} {ats:Array TypeId} (hS:ZCd P fs g k) (hf:∀x,(f x).length=k) (hk:0<k) (hsh:∀x,(f x).all (fun p=>isSh p&&one p)=true)
 (hirr:∀a,¬cmp a a<0) (htr:∀a b c,cmp a b<0→cmp b c<0→cmp a c<0) (hnt:∀a b c,¬cmp a b<0→¬cmp b c<0→¬cmp a c<0)
 (hcmp:∀(x y:β) (M:BS) (W:World) (u v:Value),x∈rows→y∈rows→Shr M W u (.agg (f x))→Shr M W v (.agg (f y))→Calls P g #[u,v] W fun e w'=>e= .returned (.int .i64 (cmp x y))∧∃q os',w'=grow (W.drewN q) os')
 (hn:0<rows.length) (hn2:rows.length<4611686018427387904)
 (hw:ζZ ops sL o=some true) (hd:o.dst=some d) (hdn:d<c.nt) (ho:o.op= .call {callee:= .value (.func fs),args:= #[x,y],argTypes:=ats}) (hc:∀args w,(callFunc fs args).run P w= .ok (.enter fs args) w) (hx:ev sL x=some (h,q)) (hy:ev sL y=some (.func (.func g) #[] #[],q')) (hl:lk hP l=some (h, .own e k rows.length (rows.flatMap f)))
 (kk:∀rows':List β,rows'.Perm rows→(∀(i j:Nat) (a b:β),i<j→rows'[i]? =some a→rows'[j]? =some b→¬cmp b a<0)→aL P c ops Q rest ⟨put d (.tuple #[], .val (.tuple #[])) sL,put l (h, .own e k rows.length (rows'.flatMap f)) hP⟩):aL P c ops Q (o::rest) (⟨sL,hP⟩:St):=
 ZaG hw fun a w F H=>by
  have hxv:=(H.rd.ev hx).1;have hyv:=(H.rd.ev hy).1;have hTr:=H.tr l _ _ hl;obtain ⟨xs,Fs,hrow,hlen,hT,hdj,hb,hF⟩:=hTr.row;obtain ⟨blk,cap,hh,hc1,hc2,hc3⟩:=Zdk hTr hn;have hfl:=flat_len hf rows;have hblkF:F l blk:=(hF blk).2 (.inl (by rw [hh];rfl));have hblkM:mof c hP F blk:= .inr ⟨l,_,hl,hblkF⟩;haveI:Inhabited (Fin rows.length):=⟨⟨0,hn⟩⟩
  let enc:Fin rows.length→List Value:=fun i=>(xs.drop (i.1*k)).take k;have hxl:xs.length=rows.length*k:=by omega
  have henc:∀i:Fin rows.length,(enc i).length=k:=fun i=>by
   have h1:(i.1+1)*k≤rows.length*k:=X' k i.2;rw [X9,Nat.one_mul] at h1;simp [enc];omega
  have hget:∀(i:Fin rows.length) (j:Nat),j<k→(enc i)[j]? =xs[i.1*k+j]? :=fun i j hj=>by
   simp only [enc];rw [XZ hj,Vv]
  have hrd:∀(i:Fin rows.length) (j:Nat) (v:Value) (p:PV),(enc i)[j]? =some v→(f rows[i.1])[j]? =some p→Shr (mof c hP F) w v p∧isSh p=true∧one p=true:=fun i j v p hv hp=>by
   have hj:j<k:=by rw [←hf];exact ζg hp
   rw [hget i j hj] at hv;have hp2:(rows.flatMap f)[i.1*k+j]? =some p:=by rw [ZfW hf (XM i.2) hj];exact hp
   have:=XD.1 (hsh rows[i.1]) p (Xb hp);rw [Xg] at this;exact ⟨(hT _ v p hv hp2).sh this.1,this.1,this.2⟩
  have hone:∀(i:Fin rows.length),∀v∈enc i,v.oneCell'=true:=fun i v hv=>by
   obtain ⟨j,hj,rfl⟩:=VO hv;have hjk:j<k:=by rw [←henc i];exact hj
   obtain ⟨p,hp⟩:=Zap (show j<(f rows[i.1]).length by rw [hf];exact hjk);obtain ⟨h1,_,h3⟩:=hrd i j _ p (XM hj) hp;exact h1.one h3
  let cf:Fin rows.length→Fin rows.length→Int:=fun i j=>cmp rows[i.1] rows[j.1];have hO:SWO (ltOf cf):=⟨fun i=>decide_eq_false (hirr _),fun i j m h1 h2=>decide_eq_true (htr _ _ _ (of_decide_eq_true h1) (of_decide_eq_true h2)),fun i j m h1 h2=>decide_eq_false (hnt _ _ _ (of_decide_eq_false h1) (of_decide_eq_false h2))⟩;let ds:Array (Fin rows.length):=Array.ofFn id;have hds:ds.size=rows.length:=by simp [ds]
  have hdg:∀j (hj:j<rows.length),ds[j]! =⟨j,hj⟩:=fun j hj=>by simp [ds,hj]
  have hagg:∀(i:Fin rows.length) (W:World),Chg (fun b=>b=blk) w W→Shr (mof c hP F) W (.agg (enc i).toArray) (.agg (f rows[i.1])):=fun i W hW=>by
   refine .agg _ _ (by rw [henc,hf]) fun j v p hv hp=>?_;exact (hrd i j v p hv hp).1.to hW (fun b _ hb=>by rw [hb];exact hblkM) (fun _ _ h=>h)
  have hcl:CmpLays P g #[] enc k cf blk 0 ds.size w:=fun m os dk _ i j=>by
   have hW:=Zw0 enc k w blk m dk os;exact hcmp rows[i.1] rows[j.1] _ _ _ _ (List.getElem_mem _) (List.getElem_mem _) (hagg i _ hW) (hagg j _ hW)
  have hHold:HoldsK enc k w blk 0 ds:=fun t ht=>by
   rw [size_flatK,hds] at ht;have hdiv:t / k<rows.length:=by rw [Nat.div_lt_iff_lt_mul hk];exact ht
   have hmod:t % k<k:=Nat.mod_lt _ hk;have he:t / k*k+t % k=t:=by rw [VK];exact Nat.div_add_mod _ _
   rw [get_flatK _ _ _ _ (by rw [hds];exact ht),hdg _ hdiv];have hg2:=hget ⟨t / k,hdiv⟩ (t % k) hmod;simp only at hg2;rw [he] at hg2;obtain ⟨v,hv⟩:=Zap (show t<xs.length by omega);rw [hv] at hg2;have hrow':=hrow;rw [hh] at hrow';refine ⟨?_,by rw [Xw];exact hrow'.frozenAt t⟩;rw [Xw,ZbM hrow' hv];have:(enc ⟨t / k,hdiv⟩)[t % k]! =v:=by
    rw [getElem!_def,hg2]
   rw [id,this]
  have hcall:=hS enc henc hone cf hO blk cap ds w hcl hHold hc3 (by rw [hds];exact hn2);rw [hds] at hcall;unfold Oper.wp;have hrun:(execOp a.eval o).run P w= .ok (.enter fs #[h, .func (.func g) #[] #[]]) w:=by
   have hev:a.eval (.func fs)= .func (.func fs) #[] #[]:=rfl;simp [execOp,ho,resolve,Deferred.ofValue,hev,invoke,hxv,hyv,hc]
  rw [hrun,Oper.upon_enter,hh];refine hcall.mono fun e' w' ⟨he',d',m,os,hperm,hsorted,hw'⟩=>?_;subst he';have hd's:d'.size=rows.length:=by rw [hperm.1,hds]
  have hpl:d'.toList.Perm ds.toList:=by
   have h2:=hperm.2.2;have e1:(ds.extract 0 rows.length).toList=ds.toList:=by
    rw [Array.toList_extract];simp only [List.extract_eq_take_drop,VQ,VU];exact Xo (by rw [Vo,hds];exact Xd _)
   have e2:(d'.extract 0 rows.length).toList=d'.toList:=by
    rw [Array.toList_extract];simp only [List.extract_eq_take_drop,VQ,VU];exact Xo (by rw [Vo,hd's];exact Xd _)
   rw [e1,e2] at h2;exact h2
  let rows':List β:=d'.toList.map fun i=>rows[i.1];have hr's:rows'.length=rows.length:=by simp [rows',hd's]
  have hdl:ds.toList.map (fun i:Fin rows.length=>rows[i.1])=rows:=by
   apply List.ext_getElem
   · simp [ds]
   · intro j h1 h2;simp [ds]
  have hrp:rows'.Perm rows:=by
   have:=hpl.map fun i:Fin rows.length=>rows[i.1];rw [hdl] at this;exact this
  have hat:∀j (hj:j<rows.length),∃i:Fin rows.length,d'[j]! =i∧rows'[j]? =some rows[i.1]:=fun j hj=>by
   have hj':j<d'.size:=by omega
   refine ⟨d'[j],by simp [hj'],?_⟩;simp [rows',hj']
  rw [hd];refine kk rows' hrp (fun i j x y hij hx' hy'=>?_) _ _ ⟨fun l'=>if l'=l then (fun b=>b=blk) else F l',?_⟩
  · (have hjl:j<rows.length:=by have:=ζg hy';omega);obtain ⟨i1,h1,h2⟩:=hat i (by omega);obtain ⟨j1,h3,h4⟩:=hat j hjl;rw [h2] at hx';cases hx';rw [h4] at hy';cases hy';have h5:=hsorted i j (Xe _) hij hjl;rw [h1,h3] at h5;simpa [ltOf,cf] using h5
  · have hch0:=Zw0 enc k w blk m d' os;rw [←hw'] at hch0;refine H.change (fun l'=>l'=l) hdn (hch0.wid fun b hb'=> .inl ⟨l,_,rfl,hl,by rw [hb'];exact hblkF⟩) (fun l' z hne hz=>?_) (fun l' z b hT' hz hb'=>?_) (fun hmm l' u p hT' hz=>?_) (fun l1 l2 _ _ _ h1 h2 hne=>absurd (h1.trans h2.symm) hne) (fun _=> .val _) (fun _=>by rw [hw'];exact VL _ _)
    · rcases Zak hz with ⟨e1,_⟩|⟨_,e1⟩
      · exact absurd e1.symm hne
      · exact ⟨e1,by simp [hne]⟩
    · subst hT';simp only [if_true] at hb';exact .inl ⟨l',_,rfl,hl,by rw [hb'];exact hblkF⟩
    · subst hT';rw [ζ9] at hz
      cases hz;simp only [if_true];rcases hrow.2 with ⟨e1,_⟩|⟨g',cap',cur,e1,_,e3,e4,e5,e6,e7⟩
      · rw [hh] at e1;cases e1
      · rw [hh] at e1
        cases e1;(have hfs:(flatK enc k d').size=rows.length*k:=by rw [size_flatK,hd's]);refine .own (flatK enc k d').toList (fun _ _=>False) ⟨by rw [Vo,hfs], .inr ⟨blk,cap,putCells id 0 (flatK enc k d') cur,hh,Xe _,by rw [hw'];exact ZCU enc k w blk m d' os e3,e4,e5,by simp [putCells];exact e6,?_⟩⟩ ((flat_len hf rows').trans ((congrArg (· *k) hr's).trans ((Vo (xs:=flatK enc k d')).trans hfs).symm)) (fun t v p hv hp=>?_) (fun _ _ _ _ _ _ h=>h.elim) (fun _ _ _ h=>h.elim) (fun b=>by rw [hh];simp [Value.ownBlock,eq_comm])
        · rw [←hfs];exact Zw1 _ _ (by rw [hfs,e6];exact X' k e4)
        · (have ht:t<rows.length*k:=by have:=ζg hv;rw [Vo,hfs] at this;exact this);(have hdiv:t / k<rows.length:=by rw [Nat.div_lt_iff_lt_mul hk];exact ht);have hmod:t % k<k:=Nat.mod_lt _ hk;(have he:t / k*k+t % k=t:=by rw [VK];exact Nat.div_add_mod _ _);obtain ⟨i1,h1,h2⟩:=hat (t / k) hdiv;have hp2:=ZfW hf h2 hmod;rw [he,hp] at hp2;have hv2:v=(enc i1)[t % k]! :=by
           have h3:=get_flatK enc k d' t (by rw [hd's];exact ht);rw [h1] at h3;rw [←h3,getElem!_def,←Uv,hv]
          (have hlt:t % k<(enc i1).length:=by rw [henc];exact hmod);have hv3:(enc i1)[t % k]? =some v:=by
           rw [hv2,getElem!_def,XM hlt]
          exact .shr ((hrd i1 (t % k) v p hv3 hp2.symm).1.to (hch0.wid (N:=fun b=>b=blk) fun b hb'=> .inl hb') (fun b _ hb'=>by rw [hb'];exact hblkM) hmm) (fun _ h=>h)
end
open Go.RowKit Go.Cb
section
variable {P:Program} {c:Ctx} {ops:Array Oper} {Q:Exit→Act→World→Prop} {rest:List Oper} {st:St} {sL hP:List (Nat×Ent)} {o:Oper}
theorem ZAk {w:World} {e k n m:Nat} {h:Value} {xs:List Value} (hrow:w.ownsRow 0 e k h n xs) (hm:m≤n):w.ownsRow 0 e k (slc h 0 m k) m (xs.take (m*k))∧(slc h 0 m k).ownBlock=h.ownBlock:=by
 rcases hrow.2 with ⟨rfl,rfl⟩|⟨g,cap,cur,rfl,hg,hh,h1,h2,h3,h4⟩
 · obtain rfl:m=0:=by omega
   refine ⟨⟨by simp, .inl ⟨by simp [slc],rfl⟩⟩,by simp [slc]⟩
 · have hs:slc (.slice (some ⟨g,0,none⟩) n cap) 0 m k= .slice (some ⟨g,0,none⟩) m cap:=by
    simp only [slc,X4,Ud,Za9,VP,VU,ite_self]
   rw [hs];refine ⟨⟨?_, .inr ⟨g,cap,cur,rfl,hg,hh,by omega,h2,h3,?_⟩⟩,rfl⟩
   · rw [Xu,hrow.1];exact XU (X' k hm)
   · rw [←h4,List.take_take,XU (X' k hm)]
theorem Zw2 {l e k n:Nat} {h:Value} {cs:List PV} (m:Nat) (hl:lk hP l=some (h, .own e k n cs)) (hm:m≤n):Zgx (⟨sL,hP⟩:St) (fun _:Unit=>⟨sL,put l (slc h 0 m k, .own e k m (cs.take (m*k))) hP⟩):=fun c a w ⟨F,H⟩=>by
 have hTr:=H.tr l _ _ hl
 obtain ⟨xs,Fs,hrow,hlen,hT,hd,hb,hF⟩:=hTr.row
 obtain ⟨hrow',hown⟩:=ZAk hrow hm
 refine ⟨(),fun x=>if x=l then (fun b=>h.ownBlock=some b∨∃i,i<(cs.take (m*k)).length∧Fs i b) else F x,?_⟩
 have hle:(cs.take (m*k)).length≤cs.length:=by rw [Xu];exact Nat.min_le_right _ _
 refine H.retell (fun x=>x=l) (fun x y hnT hx=>?_) (fun x y b hTx hx hb'=>?_) (fun hmm x u q hTx hx=>?_) (fun x1 x2 y1 y2 b h1 h2 hne'=>absurd (h1.trans h2.symm) hne')
 · have n1:x≠l:=hnT;rw [Zbu (Ne.symm n1)] at hx;exact ⟨hx,by simp [n1]⟩
 · subst hTx;simp only [if_true] at hb';refine ⟨x,_,rfl,hl,(hF b).2 ?_⟩;rcases hb' with h1|⟨i,hi,h1⟩
   · exact .inl h1
   · exact .inr ⟨i,by omega,h1⟩
 · subst hTx;rw [ζ9] at hx
   cases hx;simp only [if_true];refine .own _ Fs hrow' (by rw [Xu,Xu,hlen]) (fun i x p hx9 hp=>?_) (fun i j b hi hj=>hd i j b (by omega) (by omega)) (fun i b hi h1 h2=>hb i b (by omega) h1 (by rw [←hown];exact h2)) (fun b=>by rw [hown]);have hi:i<m*k:=by have:=ζg hx9;rw [Xu] at this;omega
   rw [XZ hi] at hx9 hp;exact (hT i x p hx9 hp).anti hmm
theorem Zp6 {t e k:Nat} {x:Operand} {q:PV} (hT:SlT P t e k=true) (ho:o.op= .call {callee:= .builtin .cap,args:= #[x],argTypes:= #[t]}:=by exact rfl) (hx:ev st.slots x=some (.slice none 0 0,q):=by exact rfl):YE P st o (· = .int .i64 0) (.val (.int .i64 0)):=
 y1 hx (fun _ _ _=> .val _) fun ρ w h=>by
  simp [execOp,ho,h,resolve,invoke,builtin,Builtin.cap_,run_underlying (SlT.und hT),goInt]
theorem Zp7 {t e k:Nat} {x:Operand} {q:PV} (hT:SlT P t e k=true) (ho:o.op= .call {callee:= .builtin .len,args:= #[x],argTypes:= #[t]}:=by exact rfl) (hx:ev st.slots x=some (.slice none 0 0,q):=by exact rfl):YE P st o (· = .int .i64 0) (.val (.int .i64 0)):=
 y1 hx (fun _ _ _=> .val _) fun ρ w h=>by
  simp [execOp,ho,h,resolve,invoke,builtin,Builtin.len_,run_underlying (SlT.und hT),goInt]
theorem Zw3 {t e k:Nat} {x hi:Operand} {q q':PV} (hT:SlT P t e k=true) (ho:o.op= .slice t x none (some hi) none:=by exact rfl) (hx:ev st.slots x=some (.slice none 0 0,q):=by exact rfl) (hh:ev st.slots hi=some (.int .i64 0,q'):=by exact rfl):YE P st o (· = .slice none 0 0) (.val (.slice none 0 0)):=
 y2 hx hh fun ρ w h1 h2=>by
  simp [execOp,ho,h1,h2,Instr.sliceAt,Instr.slice,run_underlying (SlT.und hT),Instr.sliceBounds,Instr.sliceBound,asIntOf,SlT.size hT]
theorem Zje (w:World) (t ti ty e:TypeId) (i:TypeInfo) (z:Value) (ht:P.underlying t=some (.slice e)) (hti:P.underlying ti=some (.int .i64)) (hi:P.info? e=some i) (hz:i.zero=some z) (n:Nat) (hs:i.size≠0)
 (h0:0<n) (h63:(n:Int)≤9223372036854775807) (h48:n*i.bytes≤140737488355328):
 (Builtin.append_ #[t,ti] ty #[.slice none 0 0, .int .i64 n]).run P w=
   .ok (.slice (some ⟨w.heap.size,0,none⟩) n (grownCap w n 0 e)) (w.drew.alloc (.cells (Builtin.zeroCells z.cells n++Builtin.zeroCells z.cells (grownCap w n 0 e-n)) e)):=by
 have hn:n≠0:=by omega
 have h63':¬(9223372036854775807<(n:Int)):=by omega
 have h48':¬(281474976710656<Builtin.nextslicecap n 0*i.bytes):=by rw [nextslicecap_zero h0];omega
 have h49:¬(281474976710656<(n:Int)*(i.bytes:Int)):=by
  have:((n*i.bytes:Nat):Int)≤140737488355328:=by omega
  rw [VZ] at this;omega
 have hw:IntKind.i64.wrap (n:Int)=n:=IntWalk.i64_in _ (by omega)
 have hneg:¬((n:Int)<0):=by omega
 simp [Builtin.append_,run_underlying ht,run_underlying hti,sizeOf,typeInfo,zeroValue,hi,hz,Builtin.lenOf,hn,h63',h48',h49,hw,hneg,hs,Question.forced,run_firstCells_none,newRow,grownCap,asInt,asIntOf]
 intro h
 exact absurd h (by have:=Nat.mul_pos h0 (Nat.pos_of_ne_zero hs);omega)
theorem ZCV {t ti e kk bytes n:Nat} {z:Value} {x y:Operand} {q q':PV} (d:Nat) (hT:ElT P t e kk bytes z) (hti:P.underlying ti=some (.int .i64)) (k:∀h:Value,h.oneCell'=true→aL P c ops Q rest ⟨put d (h, .val h) sL,put d (h, .own e kk n ((Builtin.zeroCells z.cells n).toList.map PV.val)) hP⟩)
 (h0:0<n:=by first|omega|assumption) (hn2:n≤9223372036854775807:=by omega) (hb:n*bytes≤140737488355328:=by omega) (hw:ζZ ops sL o=some true:=by exact rfl) (hd:o.dst=some d:=by exact rfl) (hn:d<c.nt:=by exact Xa rfl) (ho:o.op= .call {callee:= .builtin .append,args:= #[x,y],argTypes:= #[t,ti]}:=by exact rfl)
 (hx:ev sL x=some (.slice none 0 0,q):=by exact rfl) (hy:ev sL y=some (.int .i64 n,q'):=by exact rfl) (hl:lk hP d=none:=by exact rfl):aL P c ops Q (o::rest) (⟨sL,hP⟩:St):=
 ZaG hw fun a w F H=>by
  obtain ⟨i,hi1,hi2,hi3,hi4⟩:=hT.info;have hk0:=hT.hk;have hr:=Zje (P:=P) w t ti o.type e i z hT.ht hti hi1 hi2 n (by omega) h0 (by omega) (by rw [hi4];exact hb);have hsz:(Builtin.zeroCells z.cells n).size=n*kk:=by rw [size_zeroCells,hT.hz]
  have hge:=grownCap_ge w n 0 e;obtain ⟨F',H'⟩:=Zbp (e:=e) (k:=kk) (n:=n) (cap:=grownCap w n 0 e) (cur:=Builtin.zeroCells z.cells n++Builtin.zeroCells z.cells (grownCap w n 0 e-n)) (v:= .slice (some ⟨w.heap.size,0,none⟩) n (grownCap w n 0 e)) (H.up (Ext.drew w)) hl hn (vs:=(Builtin.zeroCells z.cells n).toList) (ps:=(Builtin.zeroCells z.cells n).toList.map PV.val) (by simp) (fun j u p hu hp=>by
   rw [Xm,hu] at hp;simp at hp;subst hp;exact .val _) (by rw [Vo,hsz]) hge (grownCap_le_maxLen w n 0 e (by unfold maxLen;omega)) (by rw [Array.size_append,hsz,size_zeroCells,hT.hz,←X9];congr 1;omega) (by rw [Array.toList_append,←hsz];exact List.take_left' (by rw [Vo]))
  unfold Oper.wp execOp;simp only [ho,resolve,invoke,builtin,Sem.run_bind,Sem.run_pure,Result.andThen_ok,V4,Xq,X8,(H.rd.ev hx).1,(H.rd.ev hy).1,hr,Oper.upon,hd];exact k _ rfl _ _ ⟨F',H'⟩
theorem ZgL {t e kk bytes n m:Nat} {z:Value} {x y:Operand} {h v2:Value} {q:PV} {cs cs2:List PV} (l d:Nat) (hT:ElT P t e kk bytes z) (k:∀h':Value,h'.oneCell'=true→aL P c ops Q rest ⟨put d (h', .val h') sL,put d (h', .own e kk (n+m) (cs++cs2)) (del l hP)⟩)
 (hlen2:cs2.length=m*kk:=by first|assumption|exact rfl) (hok:cs2.all one=true:=by first|assumption|exact rfl) (hw:ζZ ops sL o=some true:=by exact rfl) (hd:o.dst=some d:=by exact rfl) (hn:d<c.nt:=by exact Xa rfl) (ho:o.op= .call {callee:= .builtin .append,args:= #[x,y],argTypes:= #[t,t]}:=by exact rfl)
 (hx:ev sL x=some (h,q):=by exact rfl) (hy:ev sL y=some (v2, .sl m cs2):=by exact rfl) (hl:lk hP l=some (h, .own e kk n cs):=by exact rfl) (hdl:lk (del l hP) d=none:=by exact rfl) (hlen:n+m≤9223372036854775807:=by first|omega|exact Xa rfl|(simp only [Xj,Xz,Xf,Xp,Xc,XJ,Xt,Xr,XL];omega)) (hb:(n+m)*bytes≤140737488355328:=by first|omega|exact Xa rfl|(simp only [Xj,Xz,Xf,Xp,Xc,XJ,Xt,Xr,XL];omega)) (hdr:¬c.dr:=by exact id):aL P c ops Q (o::rest) (⟨sL,hP⟩:St):=fun a w ⟨F,H⟩=>by
 have h1:h.oneCell'=true:=(H.tr l _ _ hl).cellOne rfl
 rcases Va m with h0|h0
 · subst h0;have:cs2=[]:=XO (by rw [hlen2,X4]);subst this;refine Zz4 l d hT hw hd hn ho hx hy hl (ζr (ζF d hl hdl) fun _=>?_) a w ⟨F,H⟩;have:=k h h1;rw [XB] at this;exact this
 · exact Zr7 l d hT hw hd hn ho hx hy hl (Zz3 hy h0) hlen2 hdl hok hlen hb hdr k a w ⟨F,H⟩
end
def ZCe (P:Program) (fs:Nat):Prop:=∀(blk cap:Nat) (zs:List Int) (w:World),Go.Sort.Holds (Value.int .i64) w blk 0 zs.toArray→blk<w.heap.size→zs.length<4611686018427387904→
 Calls P fs #[.slice (some ⟨blk,0,none⟩) zs.length cap] w fun e w'=>e= .returned (.tuple #[])∧∃n os,w'=grow (putRow (Value.int .i64) (Go.Sort.ahead w n) blk 0 (zs.mergeSort fun x y=>decide (x≤y)).toArray) os
section
variable {P:Program} {c:Ctx} {ops:Array Oper} {Q:Exit→Act→World→Prop} {rest:List Oper} {sL hP:List (Nat×Ent)} {o:Oper}
theorem Zjf {α:Type} [Inhabited α] (enc:α→Value) (f:Array α) (cur:Array Value) (h:f.size≤cur.size):(putCells enc 0 f cur).toList.take f.size=f.toList.map enc:=by
 apply Vn
 intro j
 by_cases hj:j<f.size
 · rw [XZ hj];have hjc:j<cur.size:=by omega
   simp [putCells,hj,hjc]
 · rw [XN (by simp;omega),XN (by simp;omega)]
theorem ZAl {fs e d:Nat} {zs:List Int} {h:Value} {q:PV} {x:Operand} {ats:Array TypeId} (l:Nat) (hS:ZCe P fs) (hc:∀args w,(callFunc fs args).run P w= .ok (.enter fs args) w)
 (kk:aL P c ops Q rest ⟨put d (.tuple #[], .val (.tuple #[])) sL,put l (h, .own e 1 zs.length ((zs.mergeSort fun x y=>decide (x≤y)).map pInt)) hP⟩)
 (hn:0<zs.length) (hn2:zs.length<4611686018427387904:=by omega) (hw:ζZ ops sL o=some true:=by exact rfl) (hd:o.dst=some d:=by exact rfl) (hdn:d<c.nt:=by exact Xa rfl) (ho:o.op= .call {callee:= .value (.func fs),args:= #[x],argTypes:=ats}:=by exact rfl) (hx:ev sL x=some (h,q):=by exact rfl) (hl:lk hP l=some (h, .own e 1 zs.length (zs.map pInt)):=by exact rfl):aL P c ops Q (o::rest) (⟨sL,hP⟩:St):=
 ZaG hw fun a w F H=>by
  have hxv:=(H.rd.ev hx).1;have hTr:=H.tr l _ _ hl;obtain ⟨xs,Fs,hrow,hlen,hT,hdj,hb,hF⟩:=hTr.row;obtain ⟨blk,cap,hh,hc1,hc2,hc3⟩:=Zdk hTr hn;have hblkF:F l blk:=(hF blk).2 (.inl (by rw [hh];rfl));have hxs:∀(j:Nat) (v:Value),xs[j]? =some v→∃z,zs[j]? =some z∧v= .int .i64 z:=fun j v hv=>by
   obtain ⟨p,hp⟩:=Zar hv hlen.symm;have h1:=hp;rw [Xm,XC] at h1;obtain ⟨z,hz,rfl⟩:=h1;exact ⟨z,hz,((hT j v _ hv hp).sh rfl).vOf⟩
  have hHold:Go.Sort.Holds (Value.int .i64) w blk 0 zs.toArray:=fun j hj=>by
   simp only [Vk] at hj;have hrow':=hrow;rw [hh] at hrow';obtain ⟨v,hv⟩:=Zap (show j<xs.length by rw [←hlen,Xf];exact hj);obtain ⟨z,hz,rfl⟩:=hxs j v hv;refine ⟨?_,by rw [Xw];exact hrow'.frozenAt j⟩;rw [Xw,ZbM hrow' hv];have:zs.toArray[j]! =z:=by
    have hz':=(XI.1 hz).2;simp [hj,hz']
   rw [this]
  have hcall:=hS blk cap zs w hHold hc3 hn2;unfold Oper.wp;have hrun:(execOp a.eval o).run P w= .ok (.enter fs #[h]) w:=by
   have hev:a.eval (.func fs)= .func (.func fs) #[] #[]:=rfl;simp [execOp,ho,resolve,Deferred.ofValue,hev,invoke,hxv,hc]
  rw [hrun,Oper.upon_enter,hh];refine hcall.mono fun e' w' ⟨he',m,os,hw'⟩=>?_;subst he';have hsl:(zs.mergeSort fun x y=>decide (x≤y)).length=zs.length:=Uw _;generalize hsd:(zs.mergeSort fun x y=>decide (x≤y))=sd at hsl hw' kk;have hch0:Chg (fun b=>b=blk) w w':=by
   rw [hw'];refine ⟨rfl,rfl,rfl,?_,fun i hi hne=>?_⟩
   · simp [grow,putRow,mapBlock,Go.Sort.ahead]
   · have:(grow (putRow (Value.int .i64) (Go.Sort.ahead w m) blk 0 sd.toArray) os).heap=(w.heap.modify blk (onCells (putCells (Value.int .i64) 0 sd.toArray)))++os:=rfl;rw [this,Vm (by simpa using hi),VJ,if_neg (fun e=>hne e.symm)]
  rw [hd];refine kk _ _ ⟨fun l'=>if l'=l then (fun b=>b=blk) else F l',?_⟩;refine H.change (fun l'=>l'=l) hdn (hch0.wid fun b hb'=> .inl ⟨l,_,rfl,hl,by rw [hb'];exact hblkF⟩) (fun l' z hne hz=>?_) (fun l' z b hT' hz hb'=>?_) (fun hmm l' u p hT' hz=>?_) (fun l1 l2 _ _ _ h1 h2 hne=>absurd (h1.trans h2.symm) hne) (fun _=> .val _) (fun _=>by rw [hw'];exact VL _ _)
  · rcases Zak hz with ⟨e1,_⟩|⟨_,e1⟩
    · exact absurd e1.symm hne
    · exact ⟨e1,by simp [hne]⟩
  · subst hT';simp only [if_true] at hb';exact .inl ⟨l',_,rfl,hl,by rw [hb'];exact hblkF⟩
  · subst hT';rw [ζ9] at hz
    cases hz;simp only [if_true];rcases hrow.2 with ⟨e1,_⟩|⟨g',cap',cur,e1,_,e3,e4,e5,e6,e7⟩
    · rw [hh] at e1;cases e1
    · rw [hh] at e1
      cases e1;have hlt:=Za8 e3;refine .own (sd.map (Value.int .i64)) (fun _ _=>False) ⟨by rw [Xf,hsl,Xx], .inr ⟨blk,cap,putCells (Value.int .i64) 0 sd.toArray cur,hh,Xe _,?_,e4,e5,by simp [putCells];omega,?_⟩⟩ (by simp) (fun t v p hv hp=>?_) (fun _ _ _ _ _ _ h=>h.elim) (fun _ _ _ h=>h.elim) (fun b=>by rw [hh];simp [Value.ownBlock,eq_comm])
      · rw [hw'];have:(grow (putRow (Value.int .i64) (Go.Sort.ahead w m) blk 0 sd.toArray) os).heap=(w.heap.modify blk (onCells (putCells (Value.int .i64) 0 sd.toArray)))++os:=rfl;rw [this,Vm (by simpa using hlt),VJ,if_pos rfl,e3];rfl
      · have:=Zjf (Value.int .i64) sd.toArray cur (by simp only [Vk];rw [hsl,e6];omega);simp only [Vk] at this;rw [Xx,←hsl];exact this
      · rw [Xm,XC] at hv hp;obtain ⟨z,hz,rfl⟩:=hv;obtain ⟨z',hz',rfl⟩:=hp;rw [hz] at hz';cases hz';exact .shr (.val _) (fun _ h=>h)
end
theorem Zw4 {w w':World} (h:Ext w w') (hd:w.drawn≤w'.drawn):∃q os',w'=Go.Sort.grow (w.drewN q) os':=by
 refine ⟨w'.drawn-w.drawn,w'.heap.extract w.heap.size w'.heap.size,?_⟩
 have hh:w'.heap=w.heap++w'.heap.extract w.heap.size w'.heap.size:=by
  apply Array.ext_getElem?;intro i;rcases Xv i w.heap.size with hi|hi
  · rw [Vm hi];exact Below.block h i hi
  · rw [Array.getElem?_append_right hi,Array.getElem?_extract];have hs:=h.size;rcases Xv i w'.heap.size with hi2|hi2
    · rw [if_pos (by simp;omega),show w.heap.size+(i-w.heap.size)=i by omega]
    · rw [Vi hi2,if_neg (by simp;omega)]
 have h1:=h.os
 have h2:=h.tape
 have h3:=h.output
 cases w' with
 | mk heap' tape' drawn' os' output'=>
   simp only at h1 h2 h3 hh hd;simp only [Go.Sort.grow,World.drewN];rw [←hh,h1,h2,h3,show w.drawn+(drawn'-w.drawn)=drawn' by omega]
theorem AFg.exact {P:Program} {g:Nat} {ps:List PV} {x:Value} (h:AFg P g ps (· = .val x)) {M:BS} {W:World} {vs:List Value} (hl:vs.length=ps.length) (hv:∀(i:Nat) (v:Value) (p:PV),vs[i]? =some v→ps[i]? =some p→Shr M W v p):
 Calls P g vs.toArray W fun e w'=>e= .returned x∧∃q os',w'=Go.Sort.grow (W.drewN q) os':=
 (h (fun _=>False) W vs (M0k.true W) hl (fun i v p h1 h2=>(hv i v p h1 h2).anti fun _ _ h=>h.elim)).mono fun e w' ⟨v,p,F,h1,h2,h3,h4,_,h6⟩=>by
   subst h2;have:=(h4.sh rfl).vOf;subst this;exact ⟨h1,Zw4 h3 (h6 trivial)⟩
section
variable {P:Program} {c:Ctx} {ops:Array Oper} {Q:Exit→Act→World→Prop} {rest:List Oper} {sL hP:List (Nat×Ent)} {o:Oper}
end
open Go.ChangeMaps (setBlock)
def itv (r:Nat):Value:= .pointer (some ⟨r,0,none⟩)
def itP (b r clock:Nat) (es:Array MapEntry) (seen:Array Nat):PV:= .oblk (itv r) r (.mapIter (some b) clock seen clock) [(b, .map es clock)]
def itE (b r clock:Nat) (es:Array MapEntry) (seen:Array Nat):Ent:=(itv r,itP b r clock es seen)
theorem Tr.blk {M:BS} {w:World} {v u:Value} {r:Nat} {ob:Obj} {sh:List (Nat×Obj)} {F:BS} (H:Tr M w v (.oblk u r ob sh) F):w.heap[r]? =some ob∧(∀p∈sh,w.heap[p.1]? =some p.2∧¬M p.1)∧∀x,F x↔x=r:=by
 cases H with
 |shr h _=>cases h
 |oblk _ h1 h hs hF=>exact ⟨h,hs,hF⟩
section
variable {P:Program} {c:Ctx} {ops:Array Oper} {Q:Exit→Act→World→Prop} {rest:List Oper} {sL hP:List (Nat×Ent)} {o:Oper}
theorem Zw5 {t ks e:Nat} {x:Operand} {m:Value} {kv:List (Value×Value)} (d:Nat) (ht:P.underlying t=some (.map ks e)) (k:∀(b r clock:Nat) (es:Array MapEntry),kv=kvOf es→WfM es clock→aL P c ops Q rest ⟨put d (itv r, .val (itv r)) sL,put d (itE b r clock es #[]) hP⟩)
 (hw:ζZ ops sL o=some true:=by exact rfl) (hd:o.dst=some d:=by exact rfl) (hn:d<c.nt:=by exact Xa rfl) (ho:o.op= .range t x:=by exact rfl) (hx:ev sL x=some (m, .smap kv):=by exact rfl) (hl:lk hP d=none:=by exact rfl):aL P c ops Q (o::rest) (⟨sL,hP⟩:St):=
 ZaG hw fun a w F H=>by
  obtain ⟨hv,hS⟩:=H.rd.ev hx
  cases hS with
  | smap b es clock hM h hW=>
    have key:HoldsF c ⟨put d (itv w.heap.size, .val (itv w.heap.size)) sL,put d (itE b w.heap.size clock es #[]) hP⟩ (fun l'=>if l'=d then (fun x=>x=w.heap.size) else F l') (a.put (some d) (itv w.heap.size)) (w.alloc (.mapIter (some b) clock #[] clock)):=by
     refine H.change (fun l'=>l'=d) hn ((Ext.alloc _ _).chg) (fun l' x hne hx'=>?_) (fun l' x b' hT hx' hb=>?_) (fun hm l' u q hT hx'=>?_) (fun l1 l2 _ _ _ h1 h2 hne=>absurd (h1.trans h2.symm) hne) (fun hm=> .val _)
     · rcases Zak hx' with ⟨e1,_⟩|⟨_,e1⟩
       · exact absurd e1.symm hne
       · exact ⟨e1,by simp [hne]⟩
     · subst hT;simp only [if_true] at hb;exact .inr (by rw [hb];exact Xd _)
     · subst hT;rw [ζ9] at hx';unfold itE itP at hx'
       cases hx';simp only [if_true];refine .oblk w.heap.size rfl ?_ (fun p hp=>?_) (fun x=>Iff.rfl)
       · show (w.heap.push _)[w.heap.size]? =_;simp
       · rw [Xi] at hp;subst hp;exact ⟨(Ext.alloc w _).block h,fun hb=>hM (hm b (Za8 h) hb)⟩
    have hrun:(execOp a.eval o).run P w= .ok (.value (itv w.heap.size)) (w.alloc (.mapIter (some b) clock #[] clock)):=by
     simp [execOp,ho,hv,Instr.range,run_underlying ht,getObj,newObj,Sem.run,h,itv]
    unfold Oper.wp;rw [hrun,Oper.upon_value,hd];exact k _ _ _ _ rfl hW _ _ ⟨_,key⟩
theorem ZAm {x:Operand} {q:PV} {b r clock:Nat} {es:Array MapEntry} {seen:Array Nat} (l d:Nat) (hW:WfM es clock)
 (k0:leftOf es seen= #[]→aL P c ops Q rest ⟨put d (.tuple [.bool false].toArray, .tup [.val (.bool false)]) sL,hP⟩)
 (k1:∀e∈(leftOf es seen).toList,aL P c ops Q rest ⟨put d (.tuple [.bool true,e.key,e.val].toArray, .tup [.val (.bool true), .val e.key, .val e.val]) sL,put l (itE b r clock es (seen.push e.born)) hP⟩)
 (hw:ζZ ops sL o=some true:=by exact rfl) (hd:o.dst=some d:=by exact rfl) (hn:d<c.nt:=by exact Xa rfl) (ho:o.op= .next x false:=by exact rfl) (hx:ev sL x=some (itv r,q):=by exact rfl) (hl:lk hP l=some (itE b r clock es seen):=by exact rfl):aL P c ops Q (o::rest) (⟨sL,hP⟩:St):=
 ZaG hw fun a w F H=>by
  have hv:=(H.rd.ev hx).1;obtain ⟨h,hs,hF⟩:=(H.tr l _ _ hl).blk;obtain ⟨hb,hMb⟩:=hs (b, .map es clock) (by simp);dsimp only at hb hMb;rcases run_next_at (P:=P) w o.type r b clock clock seen es clock h hb (fun x hx=>hW.1 x hx) (Xd _) with ⟨h0,hr⟩|⟨e,he,w1,hw1,hr⟩
  · have hrun:(execOp a.eval o).run P w= .ok (.value (.tuple [.bool false].toArray)) w:=by
     simp [execOp,ho,hv,itv,hr]
    unfold Oper.wp;rw [hrun,Oper.upon_value,hd];refine k0 (Array.eq_empty_of_size_eq_zero h0) _ _ ⟨F,H.put hn (.tup _ _ rfl fun i x p hx hp=>?_)⟩;match i with
    |0=>simp at hx hp;subst hx hp;exact .val _
    |i+1=>simp at hx
  · have hrun:(execOp a.eval o).run P w= .ok (.value (.tuple [.bool true,e.key,e.val].toArray)) (setBlock w1 r (.mapIter (some b) clock (seen.push e.born) clock)):=by
     simp [execOp,ho,hv,itv,hr]
    unfold Oper.wp;rw [hrun,Oper.upon_value,hd];have hlt:=Za8 h;have hh:w1.heap=w.heap:=by rcases hw1 with rfl|rfl<;>rfl
    (have hbr:b≠r:=fun e=>by subst e;exact hMb (.inr ⟨l,_,hl,(hF b).2 rfl⟩));have hch:Chg (fun x=>x=r) w (setBlock w1 r (.mapIter (some b) clock (seen.push e.born) clock)):=by
     refine ⟨by rcases hw1 with rfl|rfl<;>rfl,by rcases hw1 with rfl|rfl<;>rfl,by rcases hw1 with rfl|rfl<;>rfl,?_,fun i hi hne=>?_⟩
     · show _≤(w1.heap.setIfInBounds r _).size;rw [hh];simp
     · show (w1.heap.setIfInBounds r _)[i]? =_;rw [hh,Uu (fun e=>hne e.symm)]
    refine k1 e he _ _ ⟨F,H.change (fun l'=>l'=l) hn (hch.wid fun x hx=> .inl ⟨l,_,rfl,hl,(hF x).2 hx⟩) (fun l' x hne hx'=>?_) (fun l' x b' hT' hx' hb'=>?_) (fun hmm l' u q hT' hx'=>?_) (fun l1 l2 _ _ _ h1 h2 hne=>absurd (h1.trans h2.symm) hne) (fun _=> .tup _ _ rfl fun i x p hx hp=>?_) (fun _=>?_)⟩
    · rcases Zak hx' with ⟨e1,_⟩|⟨_,e1⟩
      · exact absurd e1.symm hne
      · exact ⟨e1,rfl⟩
    · subst hT';exact .inl ⟨l',_,rfl,hl,hb'⟩
    · subst hT';rw [ζ9] at hx';unfold itE itP at hx'
      cases hx';refine .oblk r rfl ?_ (fun p hp=>?_) hF
      · show (w1.heap.setIfInBounds r _)[r]? =_;rw [hh];simp [hlt]
      · rw [Xi] at hp;subst hp;exact ⟨(hch.block b (Za8 hb) hbr).trans hb,fun hm=>hMb (hmm b (Za8 hb) hm)⟩
    · match i with
      |0=>simp at hx hp;subst hx hp;exact .val _
      |1=>simp at hx hp;subst hx hp;exact .val _
      |2=>simp at hx hp;subst hx hp;exact .val _
      |i+3=>simp at hx
    · rcases hw1 with rfl|rfl
      · exact Xd _
      · exact Nat.le_succ _
theorem ZAn {st:St} {x:Operand} {q:PV} {b r clock:Nat} {es:Array MapEntry} {seen:Array Nat} {e:MapEntry} (l:Nat) (hW:WfM es clock) (he:e∈es.toList) (ho:o.op= .entry x:=by exact rfl) (hx:ev st.slots x=some (itv r,q):=by exact rfl) (hl:lk st.heap l=some (itE b r clock es (seen.push e.born)):=by exact rfl):YE P st o (· = .tuple [e.key,e.val].toArray) (.tup [.val e.key, .val e.val]):= .exact fun M F a w H=>by
 have hv:=(H.ev hx).1
 obtain ⟨h,hs,hF⟩:=(H.tr l _ _ hl).blk
 obtain ⟨hb,hMb⟩:=hs (b, .map es clock) (by simp)
 have hr:=run_entry_at (P:=P) w r b clock seen es clock e h hb he hW.2
 refine ⟨.tup _ _ rfl fun i x p hx hp=>?_,by simp [execOp,ho,hv,itv,hr]⟩
 match i with
 |0=>simp at hx hp;subst hx hp;exact .val _
 |1=>simp at hx hp;subst hx hp;exact .val _
 |i+2=>simp at hx
end
theorem Zw6 (es:Array MapEntry):leftOf es #[]=es:=by
 unfold leftOf
 exact Array.filter_eq_self.2 fun x _=>by simp
theorem Zp8 {es:Array MapEntry} {seen:Array Nat} {e:MapEntry} (h:e∈(leftOf es seen).toList):e∈es.toList:=by
 unfold leftOf at h
 rw [Ux] at h
 exact (Vr.1 h).1
theorem Zm4 {e:MapEntry}:∀{L:List MapEntry},(L.map (·.born)).Nodup→e∈L→L.Perm (e::L.filter fun x=> !(x.born==e.born))
 | a ::L,hn,he=>by
   rw [Xq,Vf] at hn;rcases Xl.1 he with rfl|he
   · rw [List.filter_cons_of_neg (by simp)];rw [Uy.2 fun x hx=>?_];have:x.born≠e.born:=fun h=>hn.1 (Xh.2 ⟨x,hx,h⟩);simpa using this
   · have:a.born≠e.born:=fun h=>hn.1 (Xh.2 ⟨e,he,h.symm⟩);rw [List.filter_cons_of_pos (by simpa using this)];exact ((Zm4 hn.2 he).cons a).trans (List.Perm.swap _ _ _)
theorem Zm5 {es:Array MapEntry} {seen:Array Nat} {e:MapEntry} {clock:Nat} (hW:WfM es clock) (he:e∈(leftOf es seen).toList):(kvOf (leftOf es seen)).Perm ((e.key,e.val)::kvOf (leftOf es (seen.push e.born))):=by
 have h1:((leftOf es seen).toList.map (·.born)).Nodup:=by
  unfold leftOf;rw [Ux];exact hW.2.sublist (List.filter_sublist.map _)
 have h2:=(Zm4 h1 he).map fun x=>(x.key,x.val)
 unfold kvOf
 refine h2.trans ?_
 rw [Xq]
 refine List.Perm.cons _ (List.Perm.of_eq ?_)
 congr 1
 unfold leftOf
 rw [Ux,Ux,List.filter_filter]
 refine List.filter_congr fun x _=>?_
 rw [Array.contains_push]
 cases seen.contains x.born<;>simp [Bool.beq_comm]
def ArrT (P:Program) (t len:Nat):Bool:=match P.underlying t with
 |some (.array n e)=>Nat.beq n len&&(match P.info? e with|some i=>Nat.beq i.size 1|none=>false)
 |_=>false
theorem ArrT.run {P:Program} {t len:Nat} (h:ArrT P t len=true):∃e i,P.underlying t=some (.array len e)∧P.info? e=some i∧i.size=1:=by
 unfold ArrT at h
 split at h
 · rename_i n e hu;rw [Xg] at h;obtain ⟨h1,h2⟩:=h;split at h2
   · rename_i i hi;have e1:=XP h1;subst e1;exact ⟨e,i,hu,hi,XP h2⟩
   · cases h2
 · cases h
section
variable {P:Program} {st:St} {o:Oper}
theorem Zw7 {t len j e' k' n i:Nat} {x y:Operand} {h:Value} {kd:IntKind} {p q:PV} {cs:List PV} (l:Nat) (hT:ArrT P t len=true) (ho:o.op= .indexAddr t x y:=by exact rfl) (hx:ev st.slots x=some (padd (sbase h) j,p):=by exact rfl) (hy:ev st.slots y=some (.int kd (i:Int),q):=by exact rfl) (hl:lk st.heap l=some (h, .own e' k' n cs):=by exact rfl) (hn:0<n:=by first|omega|exact Xa rfl) (hi:i<len:=by first|omega|exact Xa rfl):YE P st o (· =padd (sbase h) (j+i)) (.val (padd (sbase h) (j+i))):=
 .exact fun M F a w H=>by
  have hv:=(H.ev hx).1;have hyv:=(H.ev hy).1;obtain ⟨g,cap,rfl,_⟩:=Zdk (H.tr l _ _ hl) hn;obtain ⟨e,inf,hu,hinf,hs1⟩:=ArrT.run hT;refine ⟨.val _,?_⟩;simp only [sbase,padd] at hv ⊢;simp [execOp,ho,hv,hyv,Instr.indexAt,asIntOf,run_underlying hu,Instr.sureAddr,sizeOf,typeInfo,hinf,hs1,hi,Za9]
theorem Zk6 {t:Nat} {x y:Operand} {v0 v1:Value} {p0 p1:PV} {z:Value} (hT:ArrT P t 2=true) (hz:ZeroT P t z) (ho:o.op= .build t #[(0,x),(1,y)]:=by exact rfl) (hx:ev st.slots x=some (v0,p0):=by exact rfl) (hy:ev st.slots y=some (v1,p1):=by exact rfl) (h0:v0.oneCell'=true:=by exact rfl) (h1:v1.oneCell'=true:=by exact rfl) (hzs:z.cells.size=2:=by exact rfl):YE P st o (· = .agg [v0,v1].toArray) (.agg [p0,p1]):=
 .exact fun M F a w H=>by
  obtain ⟨hv,hS0⟩:=H.ev hx;obtain ⟨hyv,hS1⟩:=H.ev hy;obtain ⟨e,inf,hu,hinf,hs1⟩:=ArrT.run hT;have c0:=ZbV h0;have c1:=ZbV h1;obtain ⟨a0,a1,hza⟩:∃a0 a1,z.cells= #[a0,a1]:=by
   generalize z.cells=A at hzs;obtain ⟨L⟩:=A;match L,hzs with
   |[a0,a1],_=>exact ⟨a0,a1,rfl⟩
  refine ⟨.agg _ _ rfl fun i u r hu hr=>?_,?_⟩
  · match i with
    |0=>simp at hu hr;subst hu hr;exact hS0
    |1=>simp at hu hr;subst hu hr;exact hS1
    |i+2=>simp at hu
  · simp [execOp,ho,hv,hyv,Instr.build,run_underlying hu,ZeroT.run hz,sizeOf,typeInfo,hinf,hs1,Instr.fill,c0,c1,hza]
end
abbrev Pr:=ByteArray×ByteArray
def prOk (k:Pr):Prop:=k.1.size≤140737488355328∧k.2.size≤140737488355328
structure PkT (P:Program) (t ks s e:Nat) (z:Value):Prop where
 ht:P.underlying t=some (.map ks e)
 hu:P.underlying ks=some (.array 2 s)
 hs:P.underlying s=some .string
 hk:P.keyType ks=true
 hk2:P.keyTypeAt 2 ks=true
 hti:P.tiled 2 ks=true
 hc2:P.cellsOf ks=2
 hc1:P.cellsOf s=1
 hf:∀a b:ByteArray,(Value.agg #[.string a, .string b]).formed P ks=true
 hsz:∃n,P.types.size=n+1
 hz:ZeroT P e z
theorem PkT.law {P:Program} {t ks s e:Nat} {z:Value} (h:PkT P t ks s e z):WideMaps.KeyLaw P ks:=deep_law (m:=2) (by decide) h.hk2 h.hti (by rw [h.hu])
section
variable {P:Program} {c:Ctx} {ops:Array Oper} {Q:Exit→Act→World→Prop} {rest:List Oper} {sL hP:List (Nat×Ent)} {o:Oper}
end
section
variable {P:Program} {c:Ctx} {ops:Array Oper} {Q:Exit→Act→World→Prop} {rest:List Oper} {sL hP:List (Nat×Ent)} {o:Oper}
end
def Zoo (c:Ctx) (R:Value→PV→List (Nat×Ent)→Prop) (e:Ending) (w':World):Prop:=∃v p h F,e= .returned v∧R v p h∧HeapF c h F w'∧Shr (mof c h F) w' v p
def AFh (dd:Prop) (P:Program) (f:FuncId) (ar h:List (Nat×Ent)) (R:Value→PV→List (Nat×Ent)→Prop):Prop:=
 ∀(M N:BS) (w:World) (F:Nat→BS),HeapF ⟨w,M,N,0,dd,[]⟩ h F w→(∀i x,lk ar i=some x→Shr (mof ⟨w,M,N,0,dd,[]⟩ h F) w x.1 x.2)→Calls P f (ar.map (·.2.1)).toArray w (Zoo ⟨w,M,N,0,dd,[]⟩ R)
theorem HeapF.nt {c c':Ctx} {h:List (Nat×Ent)} {F:Nat→BS} {w:World} (H:HeapF c h F w) (h0:c'.w0=c.w0) (h1:c'.M0=c.M0) (h2:c'.N0=c.N0) (h3:c'.dr→c.dr) (hm:M0k c'.w0 c'.M0 c'.N0 c'.dr):HeapF c' h F w:=by
 obtain ⟨w0,M0,N0,nt,dr,df⟩:=c
 obtain ⟨w0',M0',N0',nt',dr'⟩:=c'
 simp only at h0 h1 h2 h3
 subst h0 h1 h2
 exact ⟨H.tr,H.lo,H.dj,hm,H.ext,fun h=>H.dw (h3 h)⟩
def Zee:Nat→List (Nat×Ent)→Bool
 |_,[]=>true
 |i,(j,_)::l=>Nat.beq i j&&Zee (i+1) l
theorem Zk7:∀(l:List (Nat×Ent)) (i t:Nat) (x:Ent),Zee i l=true→lk l t=some x→i≤t∧(l.map (·.2.1))[t-i]? =some x.1
 |[],_,_,_,_,h=>by simp [lk] at h
 | (j,y)::l,i,t,x,ho,h=>by
   simp only [Zee,Xg] at ho;obtain ⟨h1,h2⟩:=ho;have h1:=XP h1;subst h1;simp only [lk] at h
   cases hb:Nat.beq i t
   · rw [hb] at h;obtain ⟨h3,h4⟩:=Zk7 l (i+1) t x h2 h;(have:t-i=(t-(i+1))+1:=by omega);exact ⟨by omega,by rw [this];simpa using h4⟩
   · rw [hb] at h;have:i=t:=XP hb;subst this
     cases h;simp
theorem Zj1:∀(l:List (Nat×Ent)) (i t:Nat) (x:Ent),Zee i l=true→lk l t=some x→i≤t∧(l[t-i]?).map (·.2)=some x
 |[],_,_,_,_,h=>by simp [lk] at h
 | (j,y)::l,i,t,x,ho,h=>by
   simp only [Zee,Xg] at ho;obtain ⟨h1,h2⟩:=ho;have h1:=XP h1;subst h1;simp only [lk] at h
   cases hb:Nat.beq i t
   · rw [hb] at h;obtain ⟨h3,h4⟩:=Zj1 l (i+1) t x h2 h;(have:t-i=(t-(i+1))+1:=by omega);exact ⟨by omega,by rw [this];simpa using h4⟩
   · rw [hb] at h;have:i=t:=XP hb;subst this
     cases h;simp
section
variable {P:Program}
theorem AFh.of_body {dd:Prop} {f:FuncId} {fn:Func} {code:Code} {ar h:List (Nat×Ent)} {R:Value→PV→List (Nat×Ent)→Prop} (nt:Nat) (hf:P.funcs[f]? =some fn) (hb:fn.body=some code) (hnt:fn.ntmps=nt) (hn:ar.length≤nt) (ho:Zee 0 ar=true)
 (H:∀(w0:World) (M0 N0:BS),aC P ⟨w0,M0,N0,nt,dd,[]⟩ code (bodyPost P fn (Zoo ⟨w0,M0,N0,nt,dd,[]⟩ R)) ⟨ar,h⟩):AFh dd P f ar h R:=fun M N w F HF hv=>by
 subst hnt
 refine calls_of_wp hf hb ?_
 refine wp_mono (H w M N _ w ⟨F,⟨HF.nt rfl rfl rfl id HF.m0,fun t v p ht=>?_,?_,rfl⟩⟩) fun e a w' hq=>?_
 · obtain ⟨_,h1⟩:=Zk7 ar 0 t (v,p) ho ht;refine ⟨?_,hv t (v,p) ht⟩;simp only [VU] at h1;have:=ζg h1;rw [Vm (by simpa using this)];simpa using h1
 · simp;omega
 · have key:∀e w',Zoo ⟨w,M,N,fn.ntmps,dd,[]⟩ R e w'→Zoo ⟨w,M,N,0,dd,[]⟩ R e w':=fun _ _ ⟨v',p,h',F',h3,h4,h5,h6⟩=>⟨v',p,h',F',h3,h4,h5.nt rfl rfl rfl id h5.m0,h6⟩
   cases e with
   |ret=>obtain ⟨h1,v,h2,h3⟩:=hq;exact ⟨h1,v,h2,key _ _ h3⟩
   |normal=>obtain ⟨h1,v,h2,h3⟩:=hq;exact ⟨h1,v,h2,key _ _ h3⟩
   |panic ch=>obtain ⟨h1,h3⟩:=hq;exact ⟨h1,key _ _ h3⟩
   |outgrown=>exact key _ _ hq
   |_=>exact hq.elim
end
section
variable {P:Program} {c:Ctx} {ops:Array Oper} {Q:Exit→Act→World→Prop} {rest:List Oper} {sL hP:List (Nat×Ent)} {o:Oper}
theorem ZhL {fn:Func} {R:Value→PV→List (Nat×Ent)→Prop} {t:Nat} {v:Value} {p:PV} (h:List (Nat×Ent)) (hr:fn.results= #[.tmp t]) (ht:lk sL t=some (v,p)) (hs:Sub h hP) (hR:R v p h) (hdf:c.df=[]:=by exact rfl):aR c (bodyPost P fn (Zoo c R)) (⟨sL,hP⟩:St):=fun a w ⟨F,H0⟩=>by
 have H:HoldsF c (⟨sL,h⟩:St) F a w:=H0.less (fun _ _ h=>h) fun t x hx=>hs.lk hx
 obtain ⟨h1,h2⟩:=H.sl t v p ht
 refine ⟨H.df.trans hdf,v,?_,v,p,h,F,rfl,hR,H.toHeapF,h2⟩
 simp [results,hr,XY,h1]
theorem Zsq {fn:Func} {R:Value→PV→List (Nat×Ent)→Prop} (h:List (Nat×Ent)) (hr:fn.results= #[]) (hs:Sub h hP) (hR:R (.tuple #[]) (.val (.tuple #[])) h) (hdf:c.df=[]:=by exact rfl):aR c (bodyPost P fn (Zoo c R)) (⟨sL,hP⟩:St):=fun a w ⟨F,H0⟩=>by
 have H:HoldsF c (⟨sL,h⟩:St) F a w:=H0.less (fun _ _ h=>h) fun t x hx=>hs.lk hx
 refine ⟨H.df.trans hdf, .tuple #[],?_, .tuple #[], .val (.tuple #[]),h,F,rfl,hR,H.toHeapF, .val _⟩
 simp [results,hr]
theorem Zcw {fn:Func} {R:Value→PV→List (Nat×Ent)→Prop} (h:List (Nat×Ent)) (hr:fn.results= #[]) (hs:Sub h hP) (hR:R (.tuple #[]) (.val (.tuple #[])) h) (hdf:c.df=[]:=by exact rfl):aN c (bodyPost P fn (Zoo c R)) (⟨sL,hP⟩:St):=Zsq h hr hs hR hdf
theorem Zw8 {dd:Prop} {f:Nat} {ar:List (Nat×Ent)} {R:Value→PV→List (Nat×Ent)→Prop} (K:List Nat) (d:Nat) (hw:ζZ ops sL o=some true) (hd:o.dst=some d) (hn:d<c.nt)
 (hE:∀a w F,HoldsF c (⟨sL,hP⟩:St) F a w→(execOp a.eval o).run P w= .ok (.enter f (ar.map (·.2.1)).toArray) w∧∀(i:Nat) (x:Value) (q:PV),((ar.map (·.2)).map (·.1))[i]? =some x→((ar.map (·.2)).map (·.2))[i]? =some q→Shr (mof c hP F) w x q)
 (hA:AFh dd P f ar (ZdF K hP) R) (hio:Zee 0 ar=true) (hdd:c.dr→dd)
 (k:∀v p h,R v p h→aL P c ops Q rest ⟨put d (v,p) sL,h++Zcv K hP⟩):aL P c ops Q (o::rest) (⟨sL,hP⟩:St):=
 ZaG hw fun a w F H=>by
  obtain ⟨hr,h2⟩:=hE a w F H;have hfr:=H.frame K;have hin:∀b,mof ⟨w,fun b=>c.M0 b∨∃l x,K.elem l=true∧lk hP l=some x∧F l b,nK K hP F,c.nt,c.dr,c.df⟩ (ZdF K hP) F b→mof c hP F b:=by
   rintro b ((h|⟨l,x,_,h1,h2⟩)|⟨l,x,h1,h2⟩)
   · exact .inl h
   · exact .inr ⟨l,x,h1,h2⟩
   · exact .inr ⟨l,x,(ZcQ.1 h1).2,h2⟩
  have hcall:=hA (fun b=>c.M0 b∨∃l x,K.elem l=true∧lk hP l=some x∧F l b) (nK K hP F) w F
   ⟨hfr.tr,hfr.lo,hfr.dj,hfr.m0.up hdd,hfr.ext,fun _=>Xd _⟩
   (fun i x hi=>by
     obtain ⟨_,h3⟩:=Zj1 ar 0 i x hio hi;rw [VU] at h3;exact (h2 i x.1 x.2 (by rw [Xm,Xm,h3];rfl) (by rw [Xm,Xm,h3];rfl)).anti fun b _ hb=>hin b hb)
  unfold Oper.wp;rw [hr,Oper.upon_enter];refine hcall.mono fun e w' ⟨v,p,h,F',e1,e2,e3,e4⟩=>?_;subst e1;have hch:Chg (nK K hP F) w w':=e3.ext;have hlow:∀b,b<w.heap.size→mof ⟨w,fun b=>c.M0 b∨∃l x,K.elem l=true∧lk hP l=some x∧F l b,nK K hP F,0,dd,[]⟩ h F' b→mof c hP F b:=by
   rintro b hlt ((h1|⟨l,x,_,h1,h2⟩)|⟨l,x,h1,h2⟩)
   · exact .inl h1
   · exact .inr ⟨l,x,h1,h2⟩
   · rcases e3.lo l x b h1 h2 with h3|⟨l',x',_,h3,h4⟩
     · exact absurd hlt (by simp only at h3;omega)
     · exact .inr ⟨l',x',h3,h4⟩
  have H':HoldsF ⟨w,fun b=>c.M0 b∨∃l x,K.elem l=true∧lk hP l=some x∧F l b,nK K hP F,c.nt,c.dr,c.df⟩ (⟨put d (v,p) sL,h⟩:St) F' (a.put o.dst v) w':=by
   refine ⟨e3.nt rfl rfl rfl hdd hfr.m0,fun t u q ht=>?_,by rw [hd];simpa [Act.put] using H.size,by rw [hd];exact H.df⟩;rw [hd];rcases Zak ht with ⟨rfl,e⟩|⟨hne,e⟩
   · cases e;refine ⟨?_,e4⟩;simp [Act.put,H.size,hn]
   · obtain ⟨h3,h4⟩:=H.sl t u q e;refine ⟨?_,h4.to hch (fun b _ ⟨l,x,_,h5,h6⟩=> .inr ⟨l,x,h5,h6⟩) (fun b hlt hb=>hlow b hlt hb)⟩;simpa [Act.put,Array.getElem?_setIfInBounds,hne] using h3
  obtain ⟨H2,_,_⟩:=H.unframe H';exact k v p h e2 _ _ ⟨_,H2⟩
theorem ZbO {dd:Prop} {f:Nat} {ar h0:List (Nat×Ent)} {R:Value→PV→List (Nat×Ent)→Prop} {xs:Array Operand} {ats:Array TypeId} (K:List Nat) (d:Nat) (hc:∀args w,(callFunc f args).run P w= .ok (.enter f args) w) (hA:AFh dd P f ar h0 R)
 (k:∀v p h,R v p h→aL P c ops Q rest ⟨put d (v,p) sL,h++Zcv K hP⟩) (hw:ζZ ops sL o=some true:=by exact rfl) (hd:o.dst=some d:=by exact rfl) (hn:d<c.nt:=by exact Xa rfl)
 (ho:o.op= .call {callee:= .value (.func f),args:=xs,argTypes:=ats}:=by exact rfl) (hx:evL sL xs.toList=some (ar.map (·.2)):=by exact rfl) (hh0:h0=ZdF K hP:=by exact rfl) (hio:Zee 0 ar=true:=by exact rfl) (hdd:c.dr→dd:=by first|exact id|exact fun h=>h.elim|exact fun _=>trivial):aL P c ops Q (o::rest) (⟨sL,hP⟩:St):=by
 subst hh0
 refine Zw8 K d hw hd hn (fun a w F H=>?_) hA hio hdd k
 obtain ⟨h1,h2⟩:=ZdV H.rd hx
 refine ⟨?_,h2⟩
 have hargs:xs.map a.eval=(ar.map (·.2.1)).toArray:=by
  rw [show ar.map (·.2.1)=(ar.map (·.2)).map (·.1) by rw [XE];rfl,←h1,←VH,Vz]
 simp [execOp,ho,resolve,Act.eval,Deferred.ofValue,invoke,hargs,hc]
theorem Zw9 {dd:Prop} {f:Nat} {es:List Ent} {us:List Value} {h0:List (Nat×Ent)} {ar:List (Nat×Ent)} {R:Value→PV→List (Nat×Ent)→Prop} {x:Operand} {q:PV} {xs:Array Operand} {ats:Array TypeId} (K:List Nat) (d:Nat) (hc:∀args w,(callFunc f args).run P w= .ok (.enter f args) w) (hA:AFh dd P f ar h0 R)
 (k:∀v p h,R v p h→aL P c ops Q rest ⟨put d (v,p) sL,h++Zcv K hP⟩) (hw:ζZ ops sL o=some true:=by exact rfl) (hd:o.dst=some d:=by exact rfl) (hn:d<c.nt:=by exact Xa rfl)
 (ho:o.op= .call {callee:= .value x,args:=xs,argTypes:=ats}:=by exact rfl) (hf:ev sL x=some (.func (.func f) #[] us.toArray,q):=by exact rfl) (hx:evL sL xs.toList=some es:=by exact rfl) (har:ar.map (·.2)=es++us.map (fun u=>(u, .val u)):=by exact rfl) (hh0:h0=ZdF K hP:=by exact rfl) (hio:Zee 0 ar=true:=by exact rfl) (hdd:c.dr→dd:=by first|exact id|exact fun h=>h.elim|exact fun _=>trivial):aL P c ops Q (o::rest) (⟨sL,hP⟩:St):=by
 subst hh0
 refine Zw8 K d hw hd hn (fun a w F H=>?_) hA hio hdd k
 obtain ⟨h1,h2⟩:=ZdV H.rd hx
 have h3:=(H.rd.ev hf).1
 have e1:ar.map (·.2.1)=es.map (·.1)++us:=by
  rw [show ar.map (·.2.1)=(ar.map (·.2)).map (·.1) by rw [XE];rfl,har,Xy,XE];congr 1;exact List.map_id' us
 refine ⟨?_,fun i x q hi hq=>?_⟩
 · have:xs.map a.eval=(es.map (·.1)).toArray:=by rw [←h1,←VH,Vz]
   rw [e1];simp [execOp,ho,resolve,h3,Deferred.ofValue,invoke,this,hc]
 · rw [har] at hi hq;rw [Xy] at hi hq;rcases Xv i es.length with hlt|hge
   · rw [Vc (by simpa using hlt)] at hi hq;exact h2 i x q hi hq
   · rw [Vl (by simpa using hge)] at hi hq;simp only [Xf,XE,Xm,XC,Function.comp] at hi hq;obtain ⟨u,hu,rfl⟩:=hi;obtain ⟨u',hu',rfl⟩:=hq;rw [hu] at hu'
     cases hu';exact .val _
theorem Zj2 {l e k n g cap:Nat} {h:Value} {a:Act} (hh:h= .slice (some ⟨g,0,none⟩) n cap) (zs:List Value) (h1:zs.all Value.oneCell'=true):
 ∀ (m i j:Nat) (cs:List PV) (w:World) (F:Nat→BS) (hp:List (Nat×Ent)),HoldsF c ⟨sL,hp⟩ F a w→lk hp l=some (h, .own e k n cs)→i+m=zs.length→j+i+m≤cs.length→
  ∃w' F' hp',(storeCells ⟨g,j,none⟩ (zs.drop i) i).run P w= .ok () w'∧HoldsF c ⟨sL,hp'⟩ F' a w'∧lk hp' l=some (h, .own e k n (ZdU cs (j+i) ((zs.drop i).map PV.val)))∧∀l',l'≠l→lk hp' l'=lk hp l'
 | 0,i,j,cs,w,F,hp,H,hl,hi,hj=>by
   refine ⟨w,F,hp,?_,H,?_,fun _ _=>rfl⟩
   · rw [X0 (by omega)];rfl
   · rw [X0 (by omega:zs.length≤i)];exact hl
 | m +1,i,j,cs,w,F,hp,H,hl,hi,hj=>by
   have hi':i<zs.length:=by omega
   obtain ⟨v,hv⟩:=Zap hi';have hv1:v.oneCell'=true:=XD.1 h1 v (Xb hv);obtain ⟨F1,H1⟩:=Zi7 H hl hh (show j+i<cs.length by omega) (Shr.val v);obtain ⟨w',F',hp2,hr,H2,hl2,hsame⟩:=Zj2 hh zs h1 m (i+1) j (cs.set (j+i) (.val v)) _ F1 _ H1 (ζ9 _ _ _) (by omega) (by simp;omega);refine ⟨w',F',hp2,?_,H2,?_,fun l' hne=>by rw [hsame l' hne,Zbu (Ne.symm hne)]⟩
   · obtain ⟨xs,Fs,hrow,hlen,_⟩:=(H.tr l _ _ hl).row;subst hh;obtain ⟨z,hz⟩:=Zap (show j+i<xs.length by omega);have hcell:=ZbM hrow hz;have hfr:=hrow.frozenAt (j+i);rw [X7 (ζg hv),show zs[i]'(ζg hv)=v from (XI.1 hv).2,storeCells];simp only [Sem.run_bind,run_store _ _ _ _ _ hv1,Za9,hcell,hfr,V3,if_false,Result.andThen_ok];exact hr
   · rw [hl2,X7 hi',show zs[i]'hi'=v from (XI.1 hv).2,Xq,ZdU,XX]
theorem Zm6:∀(ps cs:List PV) (j:Nat),(ZdU cs j ps).take j=cs.take j
 |[],_,_=>rfl
 | p::ps,cs,j=>by
   rw [ZdU];have h:=Zm6 ps (cs.set j p) (j+1);have h2:=congrArg (List.take j) h;rw [List.take_take,List.take_take,XU (Nat.le_succ j)] at h2;rw [h2,Us (Xd j)]
theorem Zu5 {z:Value} (h:z.cells.toList.all Value.oneCell'=true) (m:Nat):(Builtin.zeroCells z.cells m).toList.all Value.oneCell'=true:=by
 rw [XD]
 intro v hv
 unfold Builtin.zeroCells at hv
 rw [VH,Xh] at hv
 obtain ⟨i,_,rfl⟩:=hv
 rw [getElem!_def]
 cases hc:z.cells[i % z.cells.size]? with
 |none=>rfl
 |some u=>exact XD.1 h u (by rw [←Uv] at hc;exact Xb hc)
theorem Zk8 {t e kk bytes n i:Nat} {z:Value} {x:Operand} {h:Value} {q:PV} {cs:List PV} (l:Nat) (hT:ElT P t e kk bytes z) (hz0:z.cells.toList.all Value.oneCell'=true) (hw:ζZ ops sL o=some true) (hd:o.dst=none)
 (ho:o.op= .call {callee:= .builtin .clear,args:= #[x],argTypes:= #[t]}) (hx:ev sL x=some (slc h i n kk,q)) (hl:lk hP l=some (h, .own e kk n cs)) (hi:i≤n)
 (k:∀cs',cs'.length=cs.length→cs'.take (i*kk)=cs.take (i*kk)→aL P c ops Q rest ⟨sL,put l (h, .own e kk n cs') hP⟩):aL P c ops Q (o::rest) (⟨sL,hP⟩:St):=
 ZaG hw fun a w F H=>by
  have hxv:=(H.rd.ev hx).1;obtain ⟨xs,Fs,hrow,hlen,_⟩:=(H.tr l _ _ hl).row;obtain ⟨inf,hi1,hi2,hi3,hi4⟩:=hT.info;have hback:Holds c ⟨sL,put l (h, .own e kk n cs) hP⟩ a w:=⟨F,H.less (fun _ _ h=>h) fun t x hx=>by
   rcases Zak hx with ⟨rfl,rfl⟩|⟨hne,e1⟩
   · exact hl
   · exact e1⟩
  rcases ZaX hrow with ⟨rfl,rfl,rfl⟩|⟨g,cap,rfl,hc1,hc2,hc3⟩
  · (have hi0:i=0:=by omega);subst hi0;unfold Oper.wp execOp;simp [ho,hxv,resolve,invoke,builtin,Builtin.clear_,slc,run_underlying hT.ht,Oper.upon,hd,Act.put];exact k cs rfl rfl _ _ hback
  · rcases Xv i n with hlt|hge
    · (have hlen':cs.length=n*kk:=by rw [hlen,hrow.1]);(have hzs:(Builtin.zeroCells z.cells (n-i)).toList.length=(n-i)*kk:=by rw [Vo,size_zeroCells,hT.hz]);(have hmul:i*kk+(n-i)*kk=n*kk:=by rw [←X9];congr 1;omega);obtain ⟨w',F',hp',hr,H',hl',hsame⟩:=Zj2 (P:=P) rfl (Builtin.zeroCells z.cells (n-i)).toList (Zu5 hz0 _) _ 0 (i*kk) cs w F hP H hl (Xw _) (by omega);simp only [VQ,VP] at hr hl';(have hcap:cap≠i:=by omega);obtain ⟨m,hm⟩:∃m,n-i=m+1:=⟨n-i-1,by omega⟩;simp only [slc,hcap,if_false,Ud,Za9,Xw,hm] at hxv;rw [hm] at hr hl';unfold Oper.wp execOp;simp [ho,hxv,resolve,invoke,builtin,Builtin.clear_,run_underlying hT.ht,zeroValue,typeInfo,hi1,hi2,hr,Oper.upon,hd,Act.put];refine k (ZdU cs (i*kk) ((Builtin.zeroCells z.cells (m+1)).toList.map PV.val)) (Zfh _ _ _) (Zm6 _ _ _) _ _ ⟨F',H'.less (fun _ _ h=>h) fun t x hx=>?_⟩;rcases Zak hx with ⟨rfl,rfl⟩|⟨hne,e1⟩
      · exact hl'
      · show lk hp' t=_;rw [hsame t (Ne.symm hne)];exact e1
    · (have hin:i=n:=by omega);subst hin;by_cases hca:cap=i
      all_goals
       unfold Oper.wp execOp;simp [ho,hxv,resolve,invoke,builtin,Builtin.clear_,slc,hca,run_underlying hT.ht,Oper.upon,hd,Act.put];exact k cs rfl rfl _ _ hback
theorem ZtM {t e k r n:Nat} {x y:Operand} {v:Value} {q:PV} {cs:List PV} {st:St} (hT:SlT P t e k=true) (ho:o.op= .binOp .eql t x y r:=by exact rfl) (hx:ev st.slots x=some (v, .sl n cs):=by exact rfl) (hy:ev st.slots y=some (.slice none 0 0,q):=by exact rfl):
 YE P st o (fun u=>u= .bool false∨(u= .bool true∧n=0)) (.val (.bool (match v with| .slice a _ _=>a.isNone|_=>false))):=fun M F a w H=>by
 obtain ⟨hv,hS⟩:=H.ev hx
 have hyv:=(H.ev hy).1
 cases hS with
 | emp ad cp hc ha=>
   refine ⟨.bool ad.isNone,?_, .val _,fun N W _ _ _=>?_⟩
   · cases ad with
     |none=>exact .inr ⟨rfl,rfl⟩
     |some _=>exact .inl rfl
   · simp [execOp,ho,hv,hyv,eqGuard,Go.Lib.run_eql_slice_nil W t e ad _ _ 0 0 (SlT.und hT)]
 | sl b off n cp cs vs hn hc hcell hT'=>
   refine ⟨.bool false, .inl rfl, .val _,fun N W _ _ _=>?_⟩;simp [execOp,ho,hv,hyv,eqGuard,Go.Lib.run_eql_slice_nil W t e (some ⟨b,off,none⟩) _ _ 0 0 (SlT.und hT)]
theorem Zat {l:List Oper} (h:List (Nat×Ent)) (hs:Sub h hP) (k:aL P c ops Q l ⟨sL,h⟩):aL P c ops Q l (⟨sL,hP⟩:St):=fun a w ⟨F,H⟩=>k a w ⟨F,H.less (fun _ _ h=>h) fun t x hx=>hs.lk hx⟩
def Zk9 (P:Program) (fs:Nat):Prop:=∀(p:Option Addr) (cap:Nat) (w:World),Calls P fs #[.slice p 0 cap] w fun e w'=>e= .returned (.tuple #[])∧w'=w
theorem Zla {fs e kk d:Nat} {h:Value} {q:PV} {cs:List PV} {x:Operand} {ats:Array TypeId} (l:Nat) (hS:Zk9 P fs) (hc:∀args w,(callFunc fs args).run P w= .ok (.enter fs args) w)
 (k:aL P c ops Q rest ⟨put d (.tuple #[], .val (.tuple #[])) sL,hP⟩)
 (hw:ζZ ops sL o=some true:=by exact rfl) (hd:o.dst=some d:=by exact rfl) (hdn:d<c.nt:=by exact Xa rfl) (ho:o.op= .call {callee:= .value (.func fs),args:= #[x],argTypes:=ats}:=by exact rfl) (hx:ev sL x=some (h,q):=by exact rfl) (hl:lk hP l=some (h, .own e kk 0 cs):=by exact rfl):aL P c ops Q (o::rest) (⟨sL,hP⟩:St):=
 ZaG hw fun a w F H=>by
  have hxv:=(H.rd.ev hx).1;obtain ⟨xs,Fs,hrow,_⟩:=(H.tr l _ _ hl).row;have hh:∃p cap,h= .slice p 0 cap:=by
   rcases ZaX hrow with ⟨h1,_,_⟩|⟨g,cap,h1,_⟩
   · exact ⟨_,_,h1⟩
   · exact ⟨_,_,h1⟩
  obtain ⟨p,cap,rfl⟩:=hh;unfold Oper.wp;have hr:(execOp a.eval o).run P w= .ok (.enter fs #[.slice p 0 cap]) w:=by
   simp [execOp,ho,resolve,Act.eval,Deferred.ofValue,invoke,hc] at hxv ⊢;simp [hxv]
  rw [hr,Oper.upon_enter];refine (hS p cap w).mono fun e w' ⟨e1,e2⟩=>?_;subst e1 e2;rw [hd];exact k _ _ ⟨F,H.put hdn (.val _)⟩
end
section
variable {P:Program} {st:St} {o:Oper}
theorem Zeo {M:BS} {w:World} {v:Value} {us:List Value} (h:Shr M w v (.agg (us.map PV.val))):v= .agg us.toArray:=by
 generalize hp:PV.agg (us.map PV.val)=p at h
 cases h with
 | agg vs ps hl hT=>
   cases hp;congr 2;apply Vn;intro i;rw [Xf] at hl;rcases Xv i us.length with hi|hi
   · obtain ⟨u,hu⟩:=Zap hi;obtain ⟨x,hx⟩:=Zar hu hl.symm;have h1:=hT i x (.val u) hx (by rw [Xm,hu];rfl);have h2:x=u:=h1.vOf;rw [hx,hu,h2]
   · rw [XN hi,XN (by omega)]
 |_=>cases hp
theorem ZCf {t r:Nat} {x y:Operand} {v v':Value} {us us':List Value} {b:Bool} (ht:P.underlying t=some (.struct (P.fieldsOf t))) (hp:P.stoodInHeld t=false) (hg:P.eqGuardType P.depth t=false)
 (hE:∀w,(Op.eqFields 9999 us.toArray us'.toArray (P.fieldsOf t).toList).run P w= .ok b w) (hx:ev st.slots x=some (v, .agg (us.map PV.val))) (hy:ev st.slots y=some (v', .agg (us'.map PV.val))) (ho:o.op= .binOp .eql t x y r:=by exact rfl):YE P st o (· = .bool b) (.val (.bool b)):=
 .exact fun M F a w H=>⟨.val _,by
  obtain ⟨h1,h2⟩:=H.ev hx;obtain ⟨h3,h4⟩:=H.ev hy;have e1:=Zeo h2;have e2:=Zeo h4;subst e1 e2;have hr:(Op.equalIn 10000 t (.agg us.toArray) (.agg us'.toArray)).run P w= .ok b w:=by rw [run_equalIn_struct w 9999 t _ _ ht hp];exact hE w
  simp [execOp,ho,h1,h3,run_eqGuard_agg w .eql t x y us.toArray us'.toArray hg,run_eql_struct,hr]⟩
theorem ZD2 {t r:Nat} {x y:Operand} {v v':Value} {us us':List Value} {b:Bool} (ht:P.underlying t=some (.struct (P.fieldsOf t))) (hp:P.stoodInHeld t=false) (hg:P.eqGuardType P.depth t=false)
 (hE:∀w,(Op.eqFields 9999 us.toArray us'.toArray (P.fieldsOf t).toList).run P w= .ok b w) (hx:ev st.slots x=some (v, .agg (us.map PV.val))) (hy:ev st.slots y=some (v', .agg (us'.map PV.val))) (ho:o.op= .binOp .neq t x y r:=by exact rfl):YE P st o (· = .bool (!b)) (.val (.bool (!b))):=
 .exact fun M F a w H=>⟨.val _,by
  obtain ⟨h1,h2⟩:=H.ev hx;obtain ⟨h3,h4⟩:=H.ev hy;have e1:=Zeo h2;have e2:=Zeo h4;subst e1 e2;have hr:(Op.equalIn 10000 t (.agg us.toArray) (.agg us'.toArray)).run P w= .ok b w:=by rw [run_equalIn_struct w 9999 t _ _ ht hp];exact hE w
  simp [execOp,ho,h1,h3,run_eqGuard_agg w .neq t x y us.toArray us'.toArray hg,run_neq_struct,hr]⟩
end
theorem ζM {sL hP:List (Nat×Ent)} {l:Nat} {h:Value} {p p':PV} (hl:lk hP l=some (h,p)) (e:p=p'):Zgx (⟨sL,hP⟩:St) (fun _:Unit=>⟨sL,put l (h,p') hP⟩):=fun c a w ⟨F,H⟩=>by
 subst e
 refine ⟨(),F,H.less (fun t x h=>h) fun t x ht=>?_⟩
 rcases Zak ht with ⟨rfl,e1⟩|⟨_,h1⟩
 · rw [hl,e1]
 · exact h1
theorem Zbh {sL hP:List (Nat×Ent)} {t:Nat} {v:Value} {p p':PV} (hl:lk sL t=some (v,p)) (e:p=p'):Zgx (⟨sL,hP⟩:St) (fun _:Unit=>⟨put t (v,p') sL,hP⟩):=fun c a w ⟨F,H⟩=>by
 subst e
 refine ⟨(),F,H.less (fun s x ht=>?_) (fun t x h=>h)⟩
 rcases Zak ht with ⟨rfl,e1⟩|⟨_,h1⟩
 · rw [hl,e1]
 · exact h1
theorem Zc9 {sL hP:List (Nat×Ent)} {t:Nat} {q:PV} (ht:lk sL t=some (.slice none 0 0,q)):Zgx (⟨sL,hP⟩:St) (fun _:Unit=>⟨put t (.slice none 0 0, .sl 0 []) sL,hP⟩):=fun c a w ⟨F,H⟩=>by
 refine ⟨(),F,H.toHeapF,fun s u r hs=>?_,H.size,H.df⟩
 rcases Zak hs with ⟨rfl,e1⟩|⟨_,hs'⟩
 · cases e1;exact ⟨(H.sl t _ _ ht).1, .emp none 0 (by unfold maxLen;omega) (fun _=>rfl)⟩
 · exact H.sl s u r hs'
section
variable {P:Program} {c:Ctx} {ops:Array Oper} {Q:Exit→Act→World→Prop} {rest:List Oper} {sL hP:List (Nat×Ent)} {o:Oper}
theorem Zp9:∀(l:List Value) (j off:Nat) (cells:Array Value),(l.zipIdx j).foldl (fun cs x=>cs.setIfInBounds (off+x.2) x.1) cells=(l.zipIdx (off+j)).foldl (fun cs x=>cs.setIfInBounds (0+x.2) x.1) cells
 |[],j,off,cells=>rfl
 | x::l,j,off,cells=>by
   simp only [VS,Vw];rw [Zp9 l (j+1) off,Xw,XX]
theorem Zqa:∀(l:List Value) (i:Nat) (cells:Array Value),i+l.length≤cells.size→(l.zipIdx i).foldl (fun cs x=>cs.setIfInBounds (0+x.2) x.1) cells=(cells.toList.take i++l++cells.toList.drop (i+l.length)).toArray
 | [],i,cells,h=>by
   simp only [List.zipIdx_nil,List.foldl_nil,XB,Xz,VP,Vq,Vz]
 | x::l,i,cells,h=>by
   simp only [VS,Vw];simp only [Xj] at h;rw [Zqa l (i+1) _ (by simp;omega)];congr 1;rw [Xw,Array.toList_setIfInBounds,Ur (by simp;omega)];simp only [List.getElem_set_self,Xj];rw [Us (by omega),List.drop_set_of_lt (by omega),show i+1+l.length=i+(l.length+1) by omega];simp
theorem Zxa (kk:Nat):∀(vs:List (List Value)) (i:Nat) (cells:Array Value),cells.size=(i+vs.length)*kk→(∀v∈vs,v.length=kk)→Instr.fill (fun i=>some (i*kk,kk)) cells (((vs.map fun v=>Value.agg v.toArray).zipIdx i).map fun x=>(x.2,x.1))=some (cells.toList.take (i*kk)++vs.flatten).toArray
 | [],i,cells,h,_=>by
   simp only [X8,List.zipIdx_nil,Instr.fill,List.flatten_nil,XB];simp only [Xz,VP] at h;rw [Xo (by simp;omega)]
 | v ::vs,i,cells,h,h1=>by
   have hv:=h1 v (by simp);have hcs:(Value.agg v.toArray).cells=v.toArray:=rfl;have hle:(i+1)*kk≤cells.size:=by rw [h];exact X' _ (by simp)
   rw [XQ] at hle;have hc:¬((Value.agg v.toArray).cells.size≠kk||decide (i*kk+(Value.agg v.toArray).cells.size>cells.size))=true:=by rw [hcs];simp;omega
   simp only [Xq,VS,Instr.fill,hc,if_false];rw [hcs,←Array.foldl_toList,Array.toList_zipIdx,Zp9,Zqa _ _ _ (by simp;omega)];have:=Zxa kk vs (i+1) (cells.toList.take (i*kk+0)++v++cells.toList.drop (i*kk+0+v.length)).toArray (by
    simp only [Vk,Xc,Xu,Uf,Vo];rw [XU (by omega)];rw [Xj] at h;rw [h,show i+1+vs.length=i+(vs.length+1) by omega] at*;omega) (fun u hu=>h1 u (by simp [hu]))
   simp only [Vz] at this ⊢;rw [this];congr 2;rw [V6,←XA];congr 1;rw [Ut (by simp;rw [XQ,XU (by omega)];omega)];rw [Xo (by simp;rw [XQ,XU (by omega)];omega)];simp
theorem Zf5 {t e kk bytes m:Nat} {z:Value} {xs:List Operand} {parts:Array (Nat×Operand)} {es:List Ent} {cs:List (List PV)} (d:Nat) (hT:ElT P t e kk bytes z)
 (k:∀h:Value,h.oneCell'=true→aL P c ops Q rest ⟨put d (h, .val h) sL,put d (h, .own e kk m cs.flatten) hP⟩) (hw:ζZ ops sL o=some true:=by exact rfl) (hd:o.dst=some d:=by exact rfl) (hn:d<c.nt:=by exact Xa rfl) (ho:o.op= .buildSlice t m parts:=by exact rfl) (hpt:parts=((xs.zipIdx).map fun x=>(x.2,x.1)).toArray:=by exact rfl) (hx:evL sL xs=some es:=by exact rfl)
 (hcs:es.map (·.2)=cs.map PV.agg:=by exact rfl) (hck:∀q∈cs,q.length=kk:=by simp) (hm:es.length=m:=by exact rfl) (hm0:0<m:=by decide) (hm1:m≤1000:=by decide) (hk0:kk≤1000:=by decide) (hl:lk hP d=none:=by exact rfl):aL P c ops Q (o::rest) (⟨sL,hP⟩:St):=
 ZaG hw fun a w F H=>by
  obtain ⟨i,hi1,hi2,hi3,hi4⟩:=hT.info;obtain ⟨he,hS⟩:=ZdV H.rd hx;have hkp:=hT.hk;have key : ∀(es:List Ent) (cs:List (List PV)),es.map (·.2)=cs.map PV.agg→(∀q∈cs,q.length=kk)→(∀(i:Nat) (x:Value) (q:PV),(es.map (·.1))[i]? =some x→(es.map (·.2))[i]? =some q→Shr (mof c hP F) w x q)→∃us:List (List Value),es.map (·.1)=us.map (fun v=>Value.agg v.toArray)∧us.length=es.length∧(∀u∈us,u.length=kk)∧us.flatten.length=cs.flatten.length∧∀(i:Nat) (x:Value) (q:PV),us.flatten[i]? =some x→cs.flatten[i]? =some q→Shr (mof c hP F) w x q:=fun es=>by
   induction es with
   | nil=>
     intro cs h1 _ _
     cases cs with
     |nil=>exact ⟨[],rfl,rfl,by simp,rfl,by simp⟩
     |cons q cs=>simp at h1
   | cons e0 es ih=>
     intro cs h1 h2 h3
     cases cs with
     |nil=>simp at h1
     | cons q cs=>
       simp only [Xq,List.cons.injEq] at h1;obtain ⟨us,g1,g2,g3,g4,g5⟩:=ih cs h1.2 (fun u hu=>h2 u (Xn _ hu)) (fun i x q hx hq=>h3 (i+1) x q (by simpa using hx) (by simpa using hq));have h4:=h3 0 e0.1 e0.2 rfl rfl;rw [h1.1] at h4;generalize hv0:e0.1=v0 at h4;have hqk:=h2 q (Xk ..)
       cases h4 with
       | agg vs ps hvl hTT=>
         refine ⟨vs::us,by rw [Xq,Xq,hv0,g1],by simp [g2],fun u hu=>?_,by rw [V6,V6,Xc,Xc,g4,hvl],fun i x r hx hr=>?_⟩
         · rcases Xl.1 hu with rfl|hu
           · omega
           · exact g3 u hu
         · rw [V6] at hx hr;rcases Xv i vs.length with hi|hi
           · rw [Vc hi] at hx;rw [Vc (by omega)] at hr;exact hTT i x r hx hr
           · rw [Vl hi] at hx;rw [Vl (by omega)] at hr;refine g5 (i-vs.length) x r hx ?_;rw [hvl];exact hr
  obtain ⟨us,u1,u2,u3,u4,u5⟩:=key es cs hcs hck hS;have hfl:us.flatten.length=m*kk:=by
   have:∀us:List (List Value),(∀u∈us,u.length=kk)→us.flatten.length=us.length*kk:=fun us=>by
    induction us with
    |nil=>intro _;simp
    | cons u us ih=>
      intro h;rw [V6,Xc,h u (Xk ..),ih fun v hv=>h v (Xn _ hv),Xj,XQ];omega
   rw [this us u3,u2,hm]
  have hmk:m*kk≤1000000:=XV (Ug hm1 hk0) (by decide);have hmk0:0<m*kk:=Nat.mul_pos hm0 hkp;obtain ⟨F',H'⟩:=Zbp (e:=e) (k:=kk) (n:=m) (cap:=m) (cur:=us.flatten.toArray) (v:= .slice (some ⟨w.heap.size,0,none⟩) m m) H hl hn (vs:=us.flatten) (ps:=cs.flatten) u4 u5 (by first|omega|exact hfl|(rw [hfl])|(rw [VK];exact hfl)) (Xd _) (by unfold maxLen;omega) (by simp;rw [←List.length_flatten,hfl]) (Xo (by simp;rw [←List.length_flatten,hfl];omega));have hf:=Zxa kk us 0 ((Array.range (m*i.size)).map (z.cells[· % z.cells.size]!)) (by simp [hi3,u2,hm]) u3;have hpe:(parts.map fun (i,x)=>(i,a.eval x)).toList=((us.map fun v=>Value.agg v.toArray).zipIdx 0).map fun x=>(x.2,x.1):=by
   rw [hpt,←u1,←he];simp [List.zipIdx_map]
  have hr:=run_buildSlice (P:=P) w t e m (parts.map fun (i,x)=>(i,a.eval x)) us.flatten.toArray i z hT.ht hi1 hi2 (by rw [hi3];omega) (by rw [hi3];omega) (by rw [hpe,hi3];rw [hi3] at hf;simpa using hf);unfold Oper.wp execOp;simp only [ho,Sem.run_bind,hr,Result.andThen_ok,Sem.run_pure,Oper.upon,hd];exact k (.slice (some ⟨w.heap.size,0,none⟩) m m) rfl _ _ ⟨F',H'⟩
end
def Rr (p p':PV):Prop:=∀(M:BS) (w:World) (v:Value),Shr M w v p→Shr M w v p'
theorem Rr.rfl' (p:PV):Rr p p:=fun _ _ _ h=>h
theorem Rr.nil:Rr (.val (.slice none 0 0)) (.sl 0 []):=fun M w v h=>by
 cases h with
 |val=>exact .emp none 0 (by unfold maxLen;omega) (fun _=>rfl)
theorem Rr.agg {ps ps':List PV} (hl:ps.length=ps'.length) (h:∀(i:Nat) (p p':PV),ps[i]? =some p→ps'[i]? =some p'→Rr p p'):Rr (.agg ps) (.agg ps'):=fun M w v hv=>by
 cases hv with
 | agg vs ps hvl hT=>
   refine .agg vs ps' (by omega) fun i x q hx hq=>?_;obtain ⟨p,hp⟩:=Zar hq hl.symm;exact h i p q hp hq M w x (hT i x p hx hp)
theorem Rr.tup {ps ps':List PV} (hl:ps.length=ps'.length) (h:∀(i:Nat) (p p':PV),ps[i]? =some p→ps'[i]? =some p'→Rr p p'):Rr (.tup ps) (.tup ps'):=fun M w v hv=>by
 cases hv with
 | tup vs ps hvl hT=>
   refine .tup vs ps' (by omega) fun i x q hx hq=>?_;obtain ⟨p,hp⟩:=Zar hq hl.symm;exact h i p q hp hq M w x (hT i x p hx hp)
theorem AF.reread {P:Program} {f:Nat} {ps:List PV} {p p':PV} (h:AF P f ps (· =p)) (hs:shD p=true) (hr:Rr p p'):AF P f ps (· =p'):=fun M w vs hM hl hv=>
 (h M w vs hM hl hv).mono fun e w' ⟨v,q,F,h1,h2,h3,h4,h5,h6⟩=>by
   subst h2;refine ⟨v,p',fun _=>False,h1,rfl,h3, .shr (hr _ _ _ ((h4.shD hs).anti fun b _ hb=>?_)) (fun _ h=>h),fun b hb=>hb.elim,h6⟩;rcases hb with hb|hb
   · exact .inl hb
   · exact hb.elim
theorem Zlb {sL hP:List (Nat×Ent)} {t:Nat} {v:Value} {p p':PV} (hl:lk sL t=some (v,p)) (hr:Rr p p'):Zgx (⟨sL,hP⟩:St) (fun _:Unit=>⟨put t (v,p') sL,hP⟩):=fun c a w ⟨F,H⟩=>by
 refine ⟨(),F,H.toHeapF,fun s u r hs=>?_,H.size,H.df⟩
 rcases Zak hs with ⟨rfl,e1⟩|⟨_,hs'⟩
 · cases e1;exact ⟨(H.sl t _ _ hl).1,hr _ _ _ (H.sl t _ _ hl).2⟩
 · exact H.sl s u r hs'
end Go.En
namespace Go.Proofs.YtgfabnhpllkebaaGreatDoor
open Go.RowKit Go.Cb Go.En
set_option linter.all false
set_option maxRecDepth 100000
theorem Za5:AggT Tryz.prog 24 3=true:=by kernel_rfl
theorem Zu6:ElT Tryz.prog 36 3 1 8 (.int .i64 0):=⟨Tryz.underlying36,by kernel_rfl,rfl,by decide⟩
theorem ZeZ:FldT Tryz.prog 24 0 0=true:=by kernel_rfl
theorem Ze0:FldT Tryz.prog 24 1 1=true:=by kernel_rfl
theorem Ze1:FldT Tryz.prog 24 2 2=true:=by kernel_rfl
theorem Zhh:NoAgg Tryz.prog 22=true:=by kernel_rfl
theorem ZgM:NoAgg Tryz.prog 3=true:=by kernel_rfl
theorem Zir:NoAgg Tryz.prog 9=true:=by kernel_rfl
theorem Zbw:SlT Tryz.prog 22 24 3=true:=by kernel_rfl
theorem Zm7:SlT Tryz.prog 36 3 1=true:=by kernel_rfl
theorem Zhi:ZeroT Tryz.prog 24 (.agg #[(.int .i64 0),(.string ByteArray.empty),(.slice none 0 0)]):=by unfold ZeroT;kernel_rfl
theorem Zxb {P:Program} {st:St} {o:Oper} {x y:Operand} {t t':TypeId} {a b:Int} {q q':PV} (ho:o.op= .call {callee:= .builtin .min,args:= #[x,y],argTypes:= #[t,t']}:=by exact rfl) (hx:ev st.slots x=some (.int .i64 a,q):=by exact rfl) (hy:ev st.slots y=some (.int .i64 b,q'):=by exact rfl):YE P st o (· = .int .i64 (if b<a then b else a)) (.val (.int .i64 (if b<a then b else a))):=
 y2 hx hy fun ρ w h1 h2=>by
  simp [execOp,ho,h1,h2,resolve,invoke,builtin,Builtin.min_,Builtin.min2]
theorem Zlc (s:Int):AF Tryz.prog 237 [pInt s] (· =ζV false):=by
 refine AF.of_body 6 Tryz.func237 rfl Tryz.ntmps237 (Xa rfl) ?_
 intro w0 M0 vs hl hv
 obtain ⟨v0,rfl⟩:=Zco hl
 obtain rfl:=hv 0 _ _ rfl rfl
 clear hl hv
 refine nav ?_
 (refine ζa ?_<;>refine xL 2 ζc ?_<;>refine ζd ?_)
 (refine ζa ?_<;>refine xL 3 ζb (xL 4 ζb (xL 5 Zaz (xL 2 ζc ?_)))<;>refine ζd ?_)
 refine ζx (Tryz.results237) rfl ?_
 simp
theorem Zxc (a b:Int):AF Tryz.prog 205 [pInt a,pInt b] (· =pInt (Zdr a b)):=by
 refine AF.of_body 20 Tryz.func205 rfl Tryz.ntmps205 (Xa rfl) ?_
 intro w0 M0 vs hl hv
 obtain ⟨v0,v1,rfl⟩:=Zbl hl
 obtain rfl:=hv 0 _ _ rfl rfl
 obtain rfl:=hv 1 _ _ rfl rfl
 clear hl hv
 refine nav ?_
 (refine ζa ?_<;>refine xL 4 ζc ?_<;>refine ζd ?_)
 (refine ζa ?_<;>refine xL 7 ζb ?_<;>(refine cS 8 (cA Tryz.call237 (Zlc a)) fun v8 h=>?_;cases h)<;>refine xL 5 ζc ?_<;>refine ζd ?_)
 (refine ζa ?_<;>refine xL 9 ζb ?_<;>(refine cS 10 (cA Tryz.call237 (Zlc b)) fun v10 h=>?_;cases h)<;>refine xL 6 ζc ?_<;>refine ζd ?_)
 (refine ζa ?_<;>refine xL 11 ζb ?_<;>refine ζd ?_)
 refine cCf ?_
 refine nav ?_
 (refine ζa ?_<;>refine xL 13 ζb ?_<;>refine ζd ?_)
 refine cCf ?_
 refine nav ?_
 (refine ζa ?_<;>refine xL 14 ζb (xL 15 ζb (xL 16 ζK ?_))<;>refine ζd ?_)
 (first|refine cCd ?_ ?_|refine cC ?_ ?_)<;>intro hb16
 · first
   |exact bN hb16
   | (
    refine nav ?_;(refine ζa ?_<;>refine xL 4 ζc ?_<;>refine ζd ?_)
    refine ζx (Tryz.results205) rfl ?_;rw [Zdr,if_pos hb16])
 · first
   |exact bN hb16
   | (
    refine nav ?_;(refine ζa ?_<;>refine xL 17 ζb (xL 18 ζb (xL 19 ZaF ?_))<;>refine ζd ?_)
    (first|refine cCd ?_ ?_|refine cC ?_ ?_)<;>intro hb19
    · first
      |exact bN hb19
      | (
       refine nav ?_;(refine ζa ?_<;>refine xL 4 ζc ?_<;>refine ζd ?_)
       refine ζx (Tryz.results205) rfl ?_;rw [Zdr,if_neg (by omega),if_pos (by omega)])
    · first
      |exact bN hb19
      | (
       refine nav ?_;(refine ζa ?_<;>refine xL 4 ζc ?_<;>refine ζd ?_)
       refine ζx (Tryz.results205) rfl ?_;rw [Zdr,if_neg (by omega),if_neg (by omega)]))
def orL:List Int→Int
 |[]=>0
 |x::l=>if x≠0 then x else orL l
theorem Zu7 (a b c:Int):orL [a,b,c]=or3 a b c:=by
 unfold or3
 simp only [orL]
 split
 · rfl
 · split
   · rfl
   · split<;>omega
theorem Zxd (l:List Int) (hl:l.length≤1000):AF Tryz.prog 204 [pInts l] (· =pInt (orL l)):=by
 refine AF.of_body 18 Tryz.func204 rfl Tryz.ntmps204 (Xa rfl) ?_
 intro w0 M0 vs hl hv
 obtain ⟨v0,rfl⟩:=Zco hl
 clear hl hv
 refine nav ?_
 (refine ζa ?_<;>refine xL 2 ζc ?_<;>refine ζd ?_)
 (refine ζa ?_<;>refine xL 3 ζc ?_<;>refine ζd ?_)
 (refine ζa ?_<;>refine xL 6 ζb (xL 7 (ζU Zm7) (xL 8 ζb ?_))<;>refine ζd ?_)
 refine ζy (ι:={k:Nat//k≤l.length∧orL l=orL (l.drop k)}) (fun k=>⟨[(3,_,_),(6,_,_),(7,_,_),(8, .int .i64 k.1,pInt k.1)],[]⟩) (fun k=>l.length-k.1) ⟨0,by omega,rfl⟩ (fun a w H=>H.weaken ⟨rfl,rfl,rfl,rfl,trivial⟩ trivial) ?_
 rintro ⟨k,hk,hp⟩
 dsimp only
 refine nav ?_
 (refine ζa ?_<;>refine xL 9 ζK ?_<;>refine ζd ?_)
 (first|refine cCd ?_ ?_|refine cC ?_ ?_)<;>intro hb9
 · first
   |exact bN hb9
   | (
    obtain ⟨x,hx⟩:=ζm (show k<l.length by omega);have e1:=Zas (f:=pInt) hx;(have hdr:l.drop k=x::l.drop (k+1):=by rw [X7 (ζg hx)];congr 1;exact (XI.1 hx).2);refine nav ?_;(refine ζa ?_<;>refine xL 10 (ζI Zm7) ?_<;>(refine yL 11 (ZaE ZgM) fun v11 h=>?_;cases h)<;>refine xL 5 ζc ?_<;>refine ζd ?_)
    (refine ζa ?_<;>refine xL 12 ζb (xL 13 ζb (xL 14 Zaz ?_))<;>refine ζd ?_)
    (first|refine cCd ?_ ?_|refine cC ?_ ?_)<;>intro hb14
    · first
      |exact bN hb14
      | (
       refine nav ?_;(refine ζa ?_<;>refine xL 15 ζb (xL 2 ζc ?_)<;>refine ζd ?_)
       refine ζx (Tryz.results204) rfl ?_;rw [hp,hdr,orL,if_pos hb14])
    · first
      |exact bN hb14
      | (
       refine nav ?_;(refine ζa ?_<;>refine xL 16 ζG (xL 8 ζb ?_)<;>refine ζd ?_)
       refine ζj (
        ⟨k+1,by omega,by rw [hp,hdr,orL,if_neg hb14]⟩
        ) (by dsimp only;omega) ⟨rfl,rfl,rfl,rfl,trivial⟩ trivial))
 · first
   |exact bN hb9
   | (
    refine nav ?_;(refine ζa ?_<;>refine xL 17 ζb (xL 2 ζc ?_)<;>refine ζd ?_)
    refine ζx (Tryz.results204) rfl ?_;rw [hp,X0 (by omega)];rfl)
theorem ZCg:∀a b:List UInt8,Lib.compareBytes a b=if Op.bytesLess a b=true then-1 else if (a==b)=true then 0 else 1
 |[],[]=>by simp [Lib.compareBytes,Op.bytesLess]
 |[],_::_=>by simp [Lib.compareBytes,Op.bytesLess]
 |_::_,[]=>by simp [Lib.compareBytes,Op.bytesLess]
 | x :: a,y::b=>by
   rw [Lib.compareBytes,ZCg a b];simp only [Op.bytesLess,List.cons_beq_cons];by_cases h1:x<y
   · simp [h1]
   · by_cases h2:x=y
     · subst h2;simp [h1]
     · have h3:y<x:=UInt8.lt_of_le_of_ne (UInt8.not_lt.1 h1) (Ne.symm h2);simp [h1,h2,h3]
theorem Zxe (a b:ByteArray) (w:World):(callFunc 273 #[.string a, .string b]).run Tryz.prog w= .ok (.value (.int .i64 (Zay a b))) w:=by
 rw [run_callFunc_extern Tryz.func273 kR kR kR (e:=Extern.BytealgCompare.compare) kR,Lib.run_compareString]
 simp only [Result.andThen]
 rw [ZCg]
 unfold Zay Zb6 Zc1
 rw [ByteArray.toList_eq,ByteArray.toList_eq]
theorem ZCW {st:St} {o:Oper} {x y:Operand} {f:Nat} {u v r:Value} {p q:PV} {ats:Array TypeId} (hc:∀w,(callFunc f #[u,v]).run Tryz.prog w= .ok (.value r) w) (ho:o.op= .call {callee:= .value (.func f),args:= #[x,y],argTypes:=ats}:=by exact rfl) (hx:ev st.slots x=some (u,p):=by exact rfl) (hy:ev st.slots y=some (v,q):=by exact rfl):YE Tryz.prog st o (· =r) (.val r):=
 .exact fun M F a w H=>⟨.val _,by
  have h1:=(H.ev hx).1;have h2:=(H.ev hy).1;have hev:a.eval (.func f)= .func (.func f) #[] #[]:=rfl;simp [execOp,ho,resolve,hev,Deferred.ofValue,invoke,h1,h2,hc]⟩
theorem Zqb (a b:ByteArray):AF Tryz.prog 250 [Zab a,Zab b] (· =pInt (Zay a b)):=by
 refine AF.of_body 8 Tryz.func250 rfl Tryz.ntmps250 (Xa rfl) ?_
 intro w0 M0 vs hl hv
 obtain ⟨v0,v1,rfl⟩:=Zbl hl
 obtain rfl:=hv 0 _ _ rfl rfl
 obtain rfl:=hv 1 _ _ rfl rfl
 clear hl hv
 refine nav ?_
 (refine ζa ?_<;>refine xL 4 ζc ?_<;>refine ζd ?_)
 (refine ζa ?_<;>refine xL 5 ζb (xL 6 ζb ?_)<;>refine xL 7 (ZCW (Zxe a b)) ?_<;>refine xL 4 ζc ?_<;>refine ζd ?_)
 exact ζx Tryz.results250 rfl rfl
theorem Zop (a b:ByteArray):AF Tryz.prog 215 [Zab a,Zab b] (· =pInt (Zay a b)):=by
 refine AF.of_body 8 Tryz.func215 rfl Tryz.ntmps215 (Xa rfl) ?_
 intro w0 M0 vs hl hv
 obtain ⟨v0,v1,rfl⟩:=Zbl hl
 clear hl hv
 refine nav ?_
 (refine ζa ?_<;>refine xL 4 ζc ?_<;>refine ζd ?_)
 (refine ζa ?_<;>refine xL 5 ζb (xL 6 ζb ?_)<;>(refine cS 7 (cA Tryz.call250 (Zqb a b)) fun v7 h=>?_;cases h)<;>refine xL 4 ζc ?_<;>refine ζd ?_)
 exact ζx Tryz.results215 rfl rfl
theorem Zu8 {l m:List Nd} {k:Nat} {x y:Nd} (hx:l[k]? =some x) (hy:m[k]? =some y):Zcf (l.drop k) (m.drop k)=if Za7 x y≠0 then Za7 x y else Zcf (l.drop (k+1)) (m.drop (k+1)):=by
 rw [X7 (ζg hx),X7 (ζg hy),(XI.1 hx).2,(XI.1 hy).2,Zcf]
theorem Zld {l m:List Nd} {k:Nat} (hk:k≤l.length) (hk':k≤m.length) (h:¬(k<l.length∧k<m.length)):Zcf (l.drop k) (m.drop k)=if l.length<m.length then-1 else if m.length<l.length then 1 else 0:=by
 rcases Xv k l.length with h1|h1
 · have h2:k=m.length:=by omega
   subst h2;rw [X0 (Xd m.length),X7 h1,Zcf,if_neg (by omega),if_pos h1]
 · have h2:k=l.length:=by omega
   subst h2;rw [X0 (Xd l.length),if_neg (by omega:¬m.length<l.length)];rcases Xv l.length m.length with h3|h3
   · rw [X7 h3,Zcf,if_pos h3]
   · (have h4:l.length=m.length:=by omega);rw [X0 (by omega),Zcf,if_neg (by omega)]
theorem Zoq (f:Nat) (l m:List Nd) (hl:l.length≤140737488355328) (hm:m.length≤140737488355328) (hc:∀args w,(callFunc f args).run Tryz.prog w= .ok (.enter f args) w) (hf:∀x∈l,∀y∈m,AF Tryz.prog f [pTr x,pTr y] (· =pInt (Za7 x y))):AF Tryz.prog 216 [Zag l,Zag m, .fn f []] (· =pInt (Zcf l m)):=by
 refine AF.of_body 39 Tryz.func216 rfl Tryz.ntmps216 (Xa rfl) ?_
 intro w0 M0 vs hl hv
 obtain ⟨v0,v1,v2,rfl⟩:=ZgF hl
 clear hl hv
 refine nav ?_
 (refine ζa ?_<;>refine xL 6 ζc ?_<;>refine ζd ?_)
 (refine ζa ?_<;>refine xL 11 ζb (xL 12 (ζU Zbw) (xL 13 ζb ?_))<;>refine ζd ?_)
 refine ζy (ι:={k:Nat//k≤l.length∧k≤m.length∧Zcf l m=Zcf (l.drop k) (m.drop k)}) (fun k=>⟨[(0,_,_),(1,_,_),(2,_,_),(11,_,_),(12,_,_),(13, .int .i64 k.1,pInt k.1)],[]⟩) (fun k=>l.length-k.1) ⟨0,by omega,by omega,rfl⟩ (fun a w H=>H.weaken ⟨rfl,rfl,rfl,rfl,rfl,rfl,trivial⟩ trivial) ?_
 rintro ⟨k,hk,hkm,hp⟩
 dsimp only
 refine nav ?_
 (refine ζa ?_<;>refine xL 14 ζK ?_<;>refine ζd ?_)
 (first|refine cCd ?_ ?_|refine cC ?_ ?_)<;>intro hb14
 · first
   |exact bN hb14
   | (
    obtain ⟨x,hx⟩:=ζm (show k<l.length by omega);have e1:=ζ4 hx;have e2:=Zah hx;refine nav ?_;(refine ζa ?_<;>refine xL 15 ζb (xL 16 (ζI Zbw) ?_)<;>(refine yL 17 (ZaQ Za5) fun v17 h=>?_;cases h)<;>refine ζs [(.int .i64 0),(.string ByteArray.empty),(.slice none 0 0)] 3 8 Zhi fun h8=>?_<;>refine xL 7 ζc ?_<;>refine ζt 8 Za5 ?_<;>refine ζd ?_)
    (refine ζa ?_<;>refine xL 18 ζb (xL 19 ζb (xL 20 (ζU Zbw) (xL 21 ZcX ?_)))<;>refine ζd ?_)
    (first|refine cCd ?_ ?_|refine cC ?_ ?_)<;>intro hb21
    · first
      |exact bN hb21
      | (
       refine nav ?_;(refine ζa ?_<;>refine xL 6 ζc ?_<;>refine ζd ?_)
       refine ζx (Tryz.results216) rfl ?_;rw [hp,Zld hk hkm (by omega),if_neg (by omega),if_pos (by omega)])
    · first
      |exact bN hb21
      | (
       obtain ⟨y,hy⟩:=ζm (show k<m.length by omega);have e3:=ζ4 hy;have e4:=Zah hy;have hd:=Zu8 hx hy;refine nav ?_;(refine ζa ?_<;>refine xL 22 ζb (xL 23 ζb (xL 24 (ζI Zbw) ?_))<;>(refine yL 25 (ZaQ Za5) fun v25 h=>?_;cases h)<;>refine ζs [(.int .i64 0),(.string ByteArray.empty),(.slice none 0 0)] 3 9 Zhi fun h9=>?_<;>refine ζt 9 Za5 ?_<;>refine ζd ?_)
       (refine ζa ?_<;>refine xL 26 ζb ?_<;>(refine yL 27 (ζk 8 Za5) fun v27 h=>?_;cases h)<;>(refine yL 28 (ζk 9 Za5) fun v28 h=>?_;cases h)<;>(refine cS 29 (Zb5 (f:=f) (ps:=[]) rfl ⟨_,rfl⟩ hc rfl (hf x (Xb hx) y (Xb hy))) fun v29 h=>?_;cases h)<;>refine xL 10 ζc ?_<;>refine ζd ?_)
       (refine ζa ?_<;>refine xL 30 ζb (xL 31 Zaz ?_)<;>refine ζd ?_)
       (first|refine cCd ?_ ?_|refine cC ?_ ?_)<;>intro hb31
       · first
         |exact bN hb31
         | (
          refine nav ?_;(refine ζa ?_<;>refine xL 32 ζb (xL 6 ζc ?_)<;>refine ζd ?_)
          refine ζx (Tryz.results216) rfl ?_;rw [hp,hd,if_pos hb31])
       · first
         |exact bN hb31
         | (
          refine nav ?_;(refine ζa ?_<;>refine xL 33 ζG (xL 13 ζb ?_)<;>refine ζd ?_)
          refine ζj (
           ⟨k+1,by omega,by omega,by rw [hp,hd,if_neg hb31]⟩
           ) (by dsimp only;omega) ⟨rfl,rfl,rfl,rfl,rfl,rfl,trivial⟩ trivial)))
 · first
   |exact bN hb14
   | (
    refine nav ?_;(refine ζa ?_<;>refine xL 34 ζb (xL 35 (ζU Zbw) (xL 36 ζb (xL 37 (ζU Zbw) (xL 38 ζK ?_))))<;>refine ζd ?_)
    (first|refine cCd ?_ ?_|refine cC ?_ ?_)<;>intro hb38
    · first
      |exact bN hb38
      | (
       refine nav ?_;(refine ζa ?_<;>refine xL 6 ζc ?_<;>refine ζd ?_)
       refine ζx (Tryz.results216) rfl ?_;rw [hp,Zld hk hkm (by omega),if_pos (by omega)])
    · first
      |exact bN hb38
      | (
       refine nav ?_;(refine ζa ?_<;>refine xL 6 ζc ?_<;>refine ζd ?_)
       refine ζx (Tryz.results216) rfl ?_;rw [hp,Zld hk hkm (by omega),if_neg (by omega),if_neg (by omega)]))
theorem ZCX:∀(t u:Nd),FitT t→FitT u→AF Tryz.prog 175 [pTr t,pTr u] (· =pInt (Za7 t u)):=Nd.ind fun o a l ih u hf hg=>by
 obtain ⟨o',a',l'⟩:=u
 have hl:=hf.len
 have hp:=hf.p
 have hl':=hg.len
 have hp':=hg.p
 simp only [Nd.l] at hl hp hl' hp'
 refine AF.of_body 22 Tryz.func175 rfl Tryz.ntmps175 (Xa rfl) ?_
 intro w0 M0 vs hl hv
 obtain ⟨v0,v1,rfl⟩:=Zbl hl
 clear hl hv
 have e0:pTr (.mk o a l)= .agg [pInt o,Zab a, .sl l.length (ζ3 l)]:=rfl
 have e1:pTr (.mk o' a' l')= .agg [pInt o',Zab a', .sl l'.length (ζ3 l')]:=rfl
 rw [e0,e1]
 refine nav ?_
 (refine ζa ?_<;>refine ζH 2 3 fun h2=>?_<;>refine ζH 3 3 fun h3=>?_<;>refine xL 4 ζc ?_<;>refine ζd ?_)
 (refine ζY (fun i=>([]:List Nat).elem i) [2,3] kR ?_<;>refine xD 0 5 rfl (ζh 2 ZeZ) ?_<;>(refine yD 1 6 rfl (ζq 2 ZgM) fun v6 h=>?_;cases h)<;>refine xD 2 7 rfl (ζh 3 ZeZ) ?_<;>(refine yD 3 8 rfl (ζq 3 ZgM) fun v8 h=>?_;cases h)<;>refine xD 5 10 rfl (ζh 2 Ze0) ?_<;>(refine yD 6 11 rfl (ζq 2 Zir) fun v11 h=>?_;cases h)<;>refine xD 7 12 rfl (ζh 3 Ze0) ?_<;>(refine yD 8 13 rfl (ζq 3 Zir) fun v13 h=>?_;cases h)<;>refine xD 10 15 rfl (ζh 2 Ze1) ?_<;>(refine yD 11 16 rfl (ζq 2 Zhh) fun v16 h=>?_;cases h)<;>refine xD 12 17 rfl (ζh 3 Ze1) ?_<;>(refine yD 13 18 rfl (ζq 3 Zhh) fun v18 h=>?_;cases h)<;>(refine ζi 4 kR ?_)<;>(refine ζf rfl fun w9 M9 N9 DQ back=>?_)<;>(refine cS 9 (cA Tryz.call205 (Zxc o o')) fun v9 h=>?_;cases h)<;>refine ζe (back _ (nrm ?_))<;>(refine ζi 9 kR ?_)<;>(refine ζf rfl fun w9 M9 N9 DQ back=>?_)<;>(refine cS 14 (cA Tryz.call215 (Zop a a')) fun v14 h=>?_;cases h)<;>refine ζe (back _ (nrm ?_))<;>(refine ζi 14 kR ?_)<;>(refine ζf rfl fun w9 M9 N9 DQ back=>?_)<;>(refine cS 19 (cA Tryz.call216 (Zoq 175 l l' hl hl' (Tryz.call175) (fun x hx y hy=>ih x hx y (hp x hx) (hp' y hy)))) fun v19 h=>?_;cases h)<;>refine ζe (back _ (nrm ?_))<;>(refine ζi 15 kR ?_)<;>(refine ζf rfl fun w9 M9 N9 DQ back=>?_)<;>(refine Zja (xs:=[_,_,_]) 20 Zu6 fun h20 ho20=>?_;refine ζr (En.freeze (l:=20) (t:=20) rfl rfl) fun _=>?_)<;>refine ζe (back _ (nrm ?_))<;>(refine ζi 16 kR ?_)<;>(refine ζf rfl fun w9 M9 N9 DQ back=>?_)<;>(refine cS 21 (cA Tryz.call204 (Zxd [Zdr o o',Zay a a',Zcf l l'] (by simp only [Xj,Xz];omega))) fun v21 h=>?_;cases h)<;>refine ζe (back _ (nrm ?_))<;>refine xE 17 4 rfl ζc ?_<;>refine Zam kR (nav ?_)<;>try dsimp only)
 refine ζx (Tryz.results175) rfl ?_
 rw [Zu7,Za7]
def Ze2 (t u:Nd):Bool:=decide (Za7 t u=0)
theorem Zdd {t u:Nd}:Ze2 t u=true↔t=u:=by unfold Ze2;rw [decide_eq_true_eq,ZcR]
theorem Zis {t u:Nd} (h:t≠u):Ze2 t u=false:=by
 cases hs:Ze2 t u with
 |false=>rfl
 |true=>exact absurd (Zdd.1 hs) h
theorem ZCY {o o':Int} {a a':ByteArray} {l l':List Nd} (h1:o=o') (h2:a=a') (h3:l.length=l'.length) (h4:∀(j:Nat) (x y:Nd),l[j]? =some x→l'[j]? =some y→x=y):Nd.mk o a l=Nd.mk o' a' l':=by
 have:l=l':=by
  apply Vn;intro i;rcases Xv i l.length with h|h
  · obtain ⟨x,hx⟩:=ζm h;obtain ⟨y,hy⟩:=ζm (show i<l'.length by omega);rw [hx,hy,h4 i x y hx hy]
  · rw [XN h,XN (by omega)]
 rw [h1,h2,this]
def nd0:Nd:= .mk 0 ByteArray.empty []
theorem ZtN:FitT nd0:= .mk _ (Xe _) (Xe _) (by decide) (by decide) (fun x hx=>by cases hx)
def Zqc:PV:= .agg [.val (.int .i64 0), .val (.string ByteArray.empty), .val (.slice none 0 0)]
theorem Zqd:Rr Zqc (pTr nd0):=Rr.agg rfl fun i a b ha hb=>by
 match i with
 |0=>cases ha;cases hb;exact Rr.rfl' _
 |1=>cases ha;cases hb;exact Rr.rfl' _
 |2=>cases ha;cases hb;exact Rr.nil
 |i+3=>simp at ha
theorem Zqe {o o':Int} {a a':ByteArray} {l l':List Nd} (h1:o=o') (h2:a=a'):Ze2 (.mk 0 ByteArray.empty l) (.mk 0 ByteArray.empty l')=Ze2 (.mk o a l) (.mk o' a' l'):=by
 subst h1 h2
 rw [VI,Zdd,Zdd]
 exact ⟨fun h=>by injection h with h1 h2 h3;rw [h3],fun h=>by injection h with h1 h2 h3;rw [h3]⟩
theorem Zsr (f :Nat) (l m:List Nd) (hl:l.length≤140737488355328) (hm:m.length≤140737488355328) (hc:∀args w,(callFunc f args).run Tryz.prog w= .ok (.enter f args) w) (hf:∀x∈l,∀y∈m,AF Tryz.prog f [pTr x,pTr y] (· =ζV (Ze2 x y))):AF Tryz.prog 217 [Zag l,Zag m, .fn f []] (· =ζV (Ze2 (.mk 0 ByteArray.empty l) (.mk 0 ByteArray.empty m))):=by
 refine AF.of_body 32 Tryz.func217 rfl Tryz.ntmps217 (Xa rfl) ?_
 intro w0 M0 vs hl hv
 obtain ⟨v0,v1,v2,rfl⟩:=ZgF hl
 clear hl hv
 refine nav ?_
 (refine ζa ?_<;>refine xL 6 ζc ?_<;>refine ζd ?_)
 (refine ζa ?_<;>refine xL 10 ζb (xL 11 (ζU Zbw) (xL 12 ζb (xL 13 (ζU Zbw) (xL 14 Zaz ?_))))<;>refine ζd ?_)
 (first|refine cCd ?_ ?_|refine cC ?_ ?_)<;>intro hb14
 · first
   |exact bN hb14
   | (
    refine nav ?_;(refine ζa ?_<;>refine xL 6 ζc ?_<;>refine ζd ?_)
    refine ζx (Tryz.results217) rfl ?_;rw [Zis fun h=>?_];injection h with h1 h2 h3;subst h3;omega)
 · first
   |exact bN hb14
   | (
    (have hll:l.length=m.length:=by omega);refine nav ?_;(refine ζa ?_<;>refine xL 15 ζb (xL 16 (ζU Zbw) (xL 17 ζb ?_))<;>refine ζd ?_)
    refine ζy (ι:={k:Nat//k≤l.length∧∀j x y,j<k→l[j]? =some x→m[j]? =some y→x=y}) (fun k=>⟨[(1,_,_),(2,_,_),(15,_,_),(16,_,_),(17, .int .i64 k.1,pInt k.1)],[]⟩) (fun k=>l.length-k.1) ⟨0,by omega,by omega⟩ (fun a w H=>H.weaken ⟨rfl,rfl,rfl,rfl,rfl,trivial⟩ trivial) ?_;rintro ⟨k,hk,hp3⟩;dsimp only;refine nav ?_;(refine ζa ?_<;>refine xL 18 ζK ?_<;>refine ζd ?_)
    (first|refine cCd ?_ ?_|refine cC ?_ ?_)<;>intro hb18
    · first
      |exact bN hb18
      | (
       obtain ⟨x,hx⟩:=ζm (show k<l.length by omega);obtain ⟨y,hy⟩:=ζm (show k<m.length by omega);have e1:=ζ4 hx;have e2:=Zah hx;have e3:=ζ4 hy;have e4:=Zah hy;refine nav ?_;(refine ζa ?_<;>refine xL 19 ζb (xL 20 (ζI Zbw) ?_)<;>(refine yL 21 (ZaQ Za5) fun v21 h=>?_;cases h)<;>refine ζs [(.int .i64 0),(.string ByteArray.empty),(.slice none 0 0)] 3 8 Zhi fun h8=>?_<;>refine xL 7 ζc ?_<;>refine ζt 8 Za5 ?_<;>refine ζd ?_)
       (refine ζa ?_<;>refine xL 22 ζb (xL 23 ζb (xL 24 (ζI Zbw) ?_))<;>(refine yL 25 (ZaQ Za5) fun v25 h=>?_;cases h)<;>refine ζs [(.int .i64 0),(.string ByteArray.empty),(.slice none 0 0)] 3 9 Zhi fun h9=>?_<;>refine ζt 9 Za5 ?_<;>refine ζd ?_)
       (refine ζa ?_<;>refine xL 26 ζb ?_<;>(refine yL 27 (ζk 8 Za5) fun v27 h=>?_;cases h)<;>(refine yL 28 (ζk 9 Za5) fun v28 h=>?_;cases h)<;>(refine cS 29 (Zb5 (f:=f) (ps:=[]) rfl ⟨_,rfl⟩ hc rfl (hf x (Xb hx) y (Xb hy))) fun v29 h=>?_;cases h)<;>refine xL 30 Zav ?_<;>refine ζd ?_)
       (first|refine cCd ?_ ?_|refine cC ?_ ?_)<;>intro hb30
       · first
         |exact bN hb30
         | (
          refine nav ?_;(refine ζa ?_<;>refine xL 6 ζc ?_<;>refine ζd ?_)
          refine ζx (Tryz.results217) rfl ?_;rw [Zis fun h=>?_];injection h with h1 h2 h3;subst h3;rw [hx] at hy
          cases hy;rw [Zdd.2 rfl] at hb30
          cases hb30)
       · first
         |exact bN hb30
         | (
          refine nav ?_;(refine ζa ?_<;>refine xL 31 ζG (xL 17 ζb ?_)<;>refine ζd ?_)
          refine ζj (
           ⟨k +1,by omega,fun j u v hj hu hv=>by
            by_cases e:j=k
            · subst e;rw [hx] at hu;rw [hy] at hv;cases hu;cases hv;exact Zdd.1 (by simpa using hb30)
            · exact hp3 j u v (by omega) hu hv⟩
           ) (by dsimp only;omega) ⟨rfl,rfl,rfl,rfl,rfl,trivial⟩ trivial))
    · first
      |exact bN hb18
      | (
       refine nav ?_;(refine ζa ?_<;>refine xL 6 ζc ?_<;>refine ζd ?_)
       refine ζx (Tryz.results217) rfl ?_;rw [Zdd.2 (ZCY rfl rfl hll fun j u v hu hv=>hp3 j u v (by have:=ζg hu;omega) hu hv)]))
theorem ZAo:∀(t u:Nd),FitT t→FitT u→AF Tryz.prog 177 [pTr t,pTr u] (· =ζV (Ze2 t u)):=Nd.ind fun o a l ih u hf hg=>by
 obtain ⟨o',a',l'⟩:=u
 have hl:=hf.len
 have hp:=hf.p
 have hl':=hg.len
 have hp':=hg.p
 simp only [Nd.l] at hl hp hl' hp'
 refine AF.of_body 24 Tryz.func177 rfl Tryz.ntmps177 (Xa rfl) ?_
 intro w0 M0 vs hl hv
 obtain ⟨v0,v1,rfl⟩:=Zbl hl
 clear hl hv
 have e0:pTr (.mk o a l)= .agg [pInt o,Zab a, .sl l.length (ζ3 l)]:=rfl
 have e1:pTr (.mk o' a' l')= .agg [pInt o',Zab a', .sl l'.length (ζ3 l')]:=rfl
 rw [e0,e1]
 refine nav ?_
 (refine ζa ?_<;>refine ζH 2 3 fun h2=>?_<;>refine ζH 3 3 fun h3=>?_<;>refine xL 4 ζc ?_<;>refine ζd ?_)
 (refine ζa ?_<;>refine xL 5 (ζh 2 ZeZ) ?_<;>(refine yL 6 (ζq 2 ZgM) fun v6 h=>?_;cases h)<;>refine xL 7 (ζh 3 ZeZ) ?_<;>(refine yL 8 (ζq 3 ZgM) fun v8 h=>?_;cases h)<;>refine xL 9 ζ6 (xL 10 ζb ?_)<;>(refine bLd 10 (fun hb10=>?_) (fun hb10=>?_)<;>(first|refine kL 11 ?_|refine xL 11 (ζh 2 Ze0) ?_))<;>(first|refine kL 12 ?_|(refine yL 12 (ζq 2 Zir) fun v12 h=>?_;cases h))<;>(first|refine kL 13 ?_|refine xL 13 (ζh 3 Ze0) ?_)<;>(first|refine kL 14 ?_|(refine yL 14 (ζq 3 Zir) fun v14 h=>?_;cases h))<;>(first|refine kL 15 ?_|refine xL 15 ZfX ?_)<;>refine xL 16 ζJ (xL 17 ζb ?_)<;>(first|refine kL 18 ?_|(refine bL 17 (fun hb17=>?_) (fun hb17=>?_)<;>(first|refine kL 18 ?_|refine xL 18 (ζh 2 Ze1) ?_)))<;>(first|refine kL 19 ?_|(refine yL 19 (ζq 2 Zhh) fun v19 h=>?_;cases h))<;>(first|refine kL 20 ?_|refine xL 20 (ζh 3 Ze1) ?_)<;>(first|refine kL 21 ?_|(refine yL 21 (ζq 3 Zhh) fun v21 h=>?_;cases h))<;>(first|refine kL 22 ?_|(refine cS 22 (cA Tryz.call217 (Zsr 177 l l' hl hl' (Tryz.call177) (fun x hx y hy=>ih x hx y (hp x hx) (hp' y hy)))) fun v22 h=>?_;cases h))<;>refine xL 23 ζJ (xL 4 ζc ?_)<;>refine ζd ?_)<;>(
  refine ζx (Tryz.results177) rfl ?_
  first
   |(rw [Zis fun h=>by injection h with h1 h2 h3;omega];done)
   |(rw [Zis fun h=>by injection h with h1 h2 h3;subst h2;simp at hb17];done)
   |(rw [Zqe hb10 (Zfp.1 hb17)];done))
theorem Zss (f:Nat) (p:Nd→Bool) (l:List Nd) (hl:l.length≤140737488355328) (hc:∀args w,(callFunc f args).run Tryz.prog w= .ok (.enter f args) w) (hf:∀s∈l,AF Tryz.prog f [pTr s] (· =ζV (p s))):AF Tryz.prog 93 [Zag l, .fn f []] (· =pInt (idx p l)):=by
 refine AF.of_body 19 Tryz.func93 rfl Tryz.ntmps93 (Xa rfl) ?_
 intro w0 M0 vs hl hv
 obtain ⟨v0,v1,rfl⟩:=Zbl hl
 clear hl hv
 refine nav ?_
 (refine ζa ?_<;>refine xL 4 ζc ?_<;>refine ζd ?_)
 (refine ζa ?_<;>refine xL 6 ζb (xL 7 (ζU Zbw) (xL 8 ζb ?_))<;>refine ζd ?_)
 refine ζy (ι:={k:Nat//k≤l.length∧∀i y,i<k→l[i]? =some y→p y=false}) (fun k=>⟨[(0,_,_),(1,_,_),(7,_,_),(8, .int .i64 k.1,pInt k.1)],[]⟩) (fun k=>l.length-k.1) ⟨0,by omega,by omega⟩ (fun a w H=>H.weaken ⟨rfl,rfl,rfl,rfl,trivial⟩ trivial) ?_
 rintro ⟨k,hk,hp⟩
 dsimp only
 refine nav ?_
 (refine ζa ?_<;>refine xL 9 ζK ?_<;>refine ζd ?_)
 (first|refine cCd ?_ ?_|refine cC ?_ ?_)<;>intro hb9
 · first
   |exact bN hb9
   | (
    obtain ⟨x,hx⟩:=ζm (show k<l.length by omega);have e1:=ζ4 hx;have e2:=Zah hx;refine nav ?_;(refine ζa ?_<;>refine xL 10 ζb (xL 5 ζc ?_)<;>refine ζd ?_)
    (refine ζa ?_<;>refine xL 11 ζb (xL 12 ζb (xL 13 ζb (xL 14 (ζI Zbw) ?_)))<;>(refine yL 15 (ZaQ Za5) fun v15 h=>?_;cases h)<;>(refine cS 16 (Zb5 (f:=f) (ps:=[]) rfl ⟨_,rfl⟩ hc rfl (hf x (Xb hx))) fun v16 h=>?_;cases h)<;>refine ζd ?_)
    (first|refine cCd ?_ ?_|refine cC ?_ ?_)<;>intro hb16
    · first
      |exact bN hb16
      | (
       refine nav ?_;(refine ζa ?_<;>refine xL 17 ζb (xL 4 ζc ?_)<;>refine ζd ?_)
       refine ζx (Tryz.results93) rfl ?_;rw [ZgC hp hx hb16])
    · first
      |exact bN hb16
      | (
       refine nav ?_;(refine ζa ?_<;>refine xL 18 ζG (xL 8 ζb ?_)<;>refine ζd ?_)
       refine ζj (
        ⟨k+1,by omega,fun i y hi hy=>by
         by_cases e:i=k
         · subst e;rw [hx] at hy;cases hy;exact hb16
         · exact hp i y (by omega) hy⟩
        ) (by dsimp only;omega) ⟨rfl,rfl,rfl,rfl,trivial⟩ trivial))
 · first
   |exact bN hb9
   | (
    refine nav ?_;(refine ζa ?_<;>refine xL 4 ζc ?_<;>refine ζd ?_)
    refine ζx (Tryz.results93) rfl ?_;rw [Zif fun i y hi hy=>hp i y (by omega) hy])
theorem ZmE (f:Nat) (p:Nd→Bool) (l:List Nd) (hl:l.length≤140737488355328) (hc:∀args w,(callFunc f args).run Tryz.prog w= .ok (.enter f args) w) (hf:∀s∈l,AF Tryz.prog f [pTr s] (· =ζV (p s))):AF Tryz.prog 45 [Zag l, .fn f []] (· =ζV (l.any p)):=by
 refine AF.of_body 9 Tryz.func45 rfl Tryz.ntmps45 (Xa rfl) ?_
 intro w0 M0 vs hl hv
 obtain ⟨v0,v1,rfl⟩:=Zbl hl
 clear hl hv
 refine nav ?_
 (refine ζa ?_<;>refine xL 4 ζc ?_<;>refine ζd ?_)
 (refine ζa ?_<;>refine xL 5 ζb (xL 6 ζb ?_)<;>(refine cS 7 (cA Tryz.call93 (Zss f p l hl hc hf)) fun v7 h=>?_;cases h)<;>refine xL 8 ZcX (xL 4 ζc ?_)<;>refine ζd ?_)
 refine ζx (Tryz.results45) rfl ?_
 rw [Ztt]
def bst (l:List UInt8):ByteArray:=⟨l.toArray⟩
structure Tk where
 kind:Int
 text:List UInt8
 n:Int
 ln:Int
 col:Int
def ZCZ (c:UInt8):Bool:=ZkU c.toNat
def ZD3 (c:UInt8):Bool:=ZfV c.toNat
def Zxf (c:UInt8):Bool:=decide (48≤c.toNat)&&decide (c.toNat≤57)
def ZEr (c:UInt8):Bool:=c.toNat==32||c.toNat==9||c.toNat==10||c.toNat==13
def Zks:Bool→List UInt8→Nat
 |_,[]=>0
 |true,c::m=>1+Zks (c.toNat !=10) m
 |false,c::m=>if ZEr c then 1+Zks false m else if c.toNat=35 then 1+Zks true m else 0
def adv (p:Int×Int) (c:UInt8):Int×Int:=if c.toNat=10 then (p.1+1,1) else (p.1,p.2+1)
def Zst (p:Int×Int) (l:List UInt8):Int×Int:=l.foldl adv p
def syms:List (List UInt8):=[[45,62],[61,62],[60,61],[62,61],[33,61],[61,61],[58,61],[46,46],[40],[41],[91],[93],[123],[125],[44],[59],[58],[46],[124],[38],[33],[63],[43],[45],[42],[47],[61],[60],[62],[64],[37],[94],[126]]
def ZEs (l:List UInt8):Option (List UInt8):=syms.find? (·.isPrefixOf l)
inductive Lt where
 |ok (n:Nat) (t:List UInt8)
 |err (e:Int)
def ZC0:List UInt8→Lt
 |[]=> .err 4
 | c ::m=>if c.toNat=34 then .ok 1 [] else if c.toNat<32∨126<c.toNat then .err 3 else if c.toNat=92 then
    match m with
    |[]=> .err 4
    |d::m2=>if d.toNat=34∨d.toNat=92 then (match ZC0 m2 with| .ok n t=> .ok (n+2) (d::t)| .err e=> .err e) else .err 3
   else match ZC0 m with| .ok n t=> .ok (n+1) (c::t)| .err e=> .err e
def ZCh (l:List UInt8):Nat:=l.foldl (fun n c=>10*n+(c.toNat-48)) 0
inductive Lx where
 |ok (kind:Int) (text:List UInt8) (n:Int) (len:Nat)
 |err (e:Int)
def ZEt:List UInt8→Lx
 |[]=> .ok 5 [] 0 0
 | c ::m=>
   if ZD3 c then (if 40<((c::m).takeWhile ZCZ).length then .err 5 else .ok 1 ((c::m).takeWhile ZCZ) 0 ((c::m).takeWhile ZCZ).length)
   else if Zxf c then (if ((c::m).dropWhile Zxf).head?.any (fun d=>ZD3 d||d.toNat==95) then .err 3 else if 4503599627370496<ZCh ((c::m).takeWhile Zxf) then .err 6 else .ok 2 [] (ZCh ((c::m).takeWhile Zxf)) ((c::m).takeWhile Zxf).length)
   else if c.toNat=34 then (match ZC0 m with| .err e=> .err e| .ok n t=> .ok 3 t 0 (n+1))
   else match ZEs (c::m) with
    |some x=> .ok 4 x 0 x.length
    |none=> .err 3
structure LexOk (l:List UInt8) (kd:Int) (tx:List UInt8) (n:Int) (len:Nat):Prop where
 le:len≤l.length
 endk:l=[]↔kd=5
 pos:l≠[]→1≤len
 tlen:tx.length≤len
 lo:0≤n
 hi:n≤4503599627370496
def ZCi:Nat→List UInt8→Int×Int→List Tk→List Tk×(Int×Int)×Int
 |0,_,p,_=>([],p,5)
 | f +1,l,p,out=>
   match ZEt (l.drop (Zks false l)) with
   | .err e=>([],Zst p (l.take (Zks false l)),e)
   | .ok kd tx n len=>
     if kd≠5∧out.length=4000 then ([],Zst p (l.take (Zks false l)),5)
     else if kd=5 then (out++[⟨kd,tx,n,(Zst p (l.take (Zks false l))).1,(Zst p (l.take (Zks false l))).2⟩],(0,0),0)
     else ZCi f (l.drop (Zks false l+len)) (Zst p (l.take (Zks false l+len))) (out++[⟨kd,tx,n,(Zst p (l.take (Zks false l))).1,(Zst p (l.take (Zks false l))).2⟩])
def toksB (l:List UInt8) (p:Int×Int) (out:List Tk):List Tk×(Int×Int)×Int:=ZCi (l.length+1) l p out
def EndL (l:List Tk):Prop:=∃a e,l=a++[e]∧e.kind=5∧∀x∈a,x.kind≠5
structure TkOk (t:Tk):Prop where
 text:t.text.length≤16384
 lo:0≤t.n
 hi:t.n≤4503599627370496
def tk0:Tk:=⟨0,[],0,0,0⟩
def Zqf (m:List Tk) (s:List UInt8):Bool:=match m with
 |[]=>false
 |t::_=>decide (t.kind=4)&&t.text==s
def ZD4 (s:List UInt8):Int:=if s=[115,101,113] then 3 else if s=[120,111,114] then 4 else if s=[97,110,100] then 5 else if s=[108,111,111,112] then 6 else 0
inductive Rd where
 |ok (t:Nd) (m:List Tk)
 |err (t:Tk)
mutual
def rdT:Nat→List Tk→Rd
 |0,_=> .err tk0
 | f +1,m=>match m with
   |[]=> .err tk0
   | t::m1=>if Zqf (t::m1) [40] then (if Zqf m1 [41] then .ok Zkp m1.tail else .err (m1.headD tk0))
     else if t.kind≠1 then .err t
     else if ZD4 t.text=0 then (if Zqf m1 [40] then .err (m1.headD tk0) else .ok (.mk 1 (bst t.text) []) m1)
     else if Zqf m1 [40] then (match rdT f m1.tail with| .err e=> .err e| .ok x m2=>rdL f (ZD4 t.text) [x] m2)
     else .ok (.mk 1 (bst t.text) []) m1
def rdL:Nat→Int→List Nd→List Tk→Rd
 |0,_,_,_=> .err tk0
 | f +1,op,l,m=>if (op=6∧l.length<2)∨(op≠6∧Zqf m [44]=true) then
    (if Zqf m [44] then (match rdT f m.tail with| .err e=> .err e| .ok x m2=>rdL f op (l++[x]) m2) else .err (m.headD tk0))
   else if Zqf m [41] then .ok (.mk op ByteArray.empty l) m.tail else .err (m.headD tk0)
end
structure RdOk (m:List Tk) (t:Nd) (m2:List Tk):Prop where
 lt:m2.length<m.length
 suf:m2<:+m
 endl:EndL m2
end Go.Proofs.YtgfabnhpllkebaaGreatDoor
namespace Go.En
open Go.RowKit Go.Cb
set_option linter.all false
section
variable {P:Program} {st:St} {o:Oper}
end
section
variable {P:Program} {st:St} {o:Oper} {x y:Operand} {q q':PV} {t t':TypeId}
theorem ZD5 {kd:IntKind} {a b:Int} (ho:o.op= .binOp .rem t x y t':=by exact rfl) (hx:ev st.slots x=some (.int kd a,q):=by exact rfl) (hy:ev st.slots y=some (.int kd b,q'):=by exact rfl) (hb:b≠0:=by first|decide|omega):YE P st o (· = .int kd (a.tmod b)) (.val (.int kd (a.tmod b))):=
 y2 hx hy fun ρ w h3 h4=>by
  simp [execOp,ho,h3,h4,eqGuard,binOp,Op.intDiv,hb]
end
section
variable {P:Program} {st:St} {o:Oper}
theorem Zxg {x y:Operand} {q q':PV} {t t':TypeId} {k:IntKind} {a:Int} (ho:o.op= .binOp .eql t x y t':=by exact rfl) (hx:ev st.slots x=some (.int k a,q):=by exact rfl) (hy:ev st.slots y=some (.int k a,q'):=by exact rfl):YE P st o (· = .bool true) (.val (.bool true)):=by
 have h:=ζ6 (P:=P) ho hx hy
 rwa [decide_eq_true rfl] at h
end
theorem Zu9 {P:Program} {g:Nat} (hg:P.globalNamed "internal/strconv.uint64pow10"=some g) (ht:ZwC=some g) {w:World} {M N:BS} (h:TabW w M N) {B:Nat} (hB:g<B):Lib.TabBelow P B w "internal/strconv.uint64pow10" .u64 Lib.pow10Tab:=fun w' hb=>by
 obtain ⟨⟨ty,at',h1⟩,_,_⟩:=h g ht
 have h2:=(hb.block g hB).trans h1
 unfold Lib.TabIs World.var?
 rw [hg,Vj,h2]
theorem ZAp {P:Program} {g:Nat} (hg:P.globalNamed "internal/strconv.uint64pow10"=some g) (ht:ZwC=some g) {w:World} (h:Lib.TabIs P w "internal/strconv.uint64pow10" .u64 Lib.pow10Tab):TabW w (fun _=>False) (fun _=>False):=fun g' hg'=>by
 obtain rfl:g=g':=Option.some.inj (ht.symm.trans hg')
 unfold Lib.TabIs World.var? at h
 rw [hg,Vj] at h
 split at h
 · rename_i cs ty at' hc
   cases h;exact ⟨⟨ty,at',hc⟩,fun h=>h,fun h=>h⟩
 · cases h
def Zm8 (K:List Nat) (s:List (Nat×Ent)):List (Nat×Ent):=K.filterMap fun t=>(lk s t).map fun x=>(t,x)
theorem Zle {s:List (Nat×Ent)} {t:Nat} {x:Ent}:∀{K:List Nat},lk (Zm8 K s) t=some x→lk s t=some x∧(t,x)∈Zm8 K s
 |[],h=>by simp [Zm8,lk] at h
 | k :: K,h=>by
   unfold Zm8 at h ⊢;rw [List.filterMap_cons] at h ⊢
   cases hk:lk s k with
   | none=>
     rw [hk] at h;simp only [Option.map_none] at h ⊢;exact Zle (K:=K) h
   | some y=>
     rw [hk] at h;simp only [Ud] at h ⊢;rw [lk] at h
     cases hb:Nat.beq k t
     · rw [hb,cond_false] at h;obtain ⟨h1,h2⟩:=Zle (K:=K) h;exact ⟨h1,Xn _ h2⟩
     · rw [hb,cond_true] at h;have:=XP hb;subst this
       cases h;exact ⟨hk,Xk ..⟩
def ShrL (M:BS) (w:World):List (Nat×Ent)→Prop
 |[]=>True
 |x::l=>Shr M w x.2.1 x.2.2∧ShrL M w l
theorem ShrL.at {M:BS} {w:World}:∀{l:List (Nat×Ent)} {x:Nat×Ent},ShrL M w l→x∈l→Shr M w x.2.1 x.2.2
 | y::l,x,h,hx=>by
   rcases Xl.1 hx with rfl|hx
   · exact h.1
   · exact ShrL.at h.2 hx
def ZhM (b:UInt8):PV:= .val (.int .u8 (b.toNat:Nat))
theorem Zqg {M:BS} {w:World} {bs:List UInt8} {xs:List Value} {Fs:Nat→BS} (hlen:(bs.map ZhM).length=xs.length) (hT:∀(i:Nat) (x:Value) (p:PV),xs[i]? =some x→(bs.map ZhM)[i]? =some p→Tr M w x p (Fs i)):xs=Lib.byteCells bs:=by
 apply Vn
 intro j
 unfold Lib.byteCells
 rw [Xm]
 cases hj:bs[j]? with
 | none=>
   have:=Uh.1 hj;rw [Xf] at hlen;exact XN (by omega)
 | some b=>
   have hp:(bs.map ZhM)[j]? =some (ZhM b):=by rw [Xm,hj];rfl
   obtain ⟨v,hv⟩:=Zar hp hlen;rw [hv];have:=((hT j v _ hv hp).sh rfl).vOf;exact congrArg some this
theorem Zqh (bs:List UInt8):strOfNums (bs.map fun b:UInt8=>(b.toNat:Int))=⟨bs.toArray⟩:=by
 unfold strOfNums
 rw [XE]
 congr 2
 conv=>rhs;rw [←List.map_id bs]
 refine Vs fun b _=>?_
 simp
theorem ZC1 {P:Program} {sL hP:List (Nat×Ent)} {o:Oper} {s d e e' n:Nat} {x:Operand} {h:Value} {q:PV} {bs:List UInt8} (l:Nat) (hs:P.underlying s=some (.slice e')) (he:P.underlying e'=some (.int .u8)) (hd:P.underlying d=some .string) (ho:o.op= .convert s d x:=by exact rfl) (hx:ev sL x=some (h,q):=by exact rfl) (hl:lk hP l=some (h, .own e 1 n (bs.map ZhM)):=by exact rfl):YE P (⟨sL,hP⟩:St) o (· = .string ⟨bs.toArray⟩) (.val (.string ⟨bs.toArray⟩)):=fun M F a w H=>by
 have hv:=(H.ev hx).1
 obtain ⟨xs,Fs,hrow,hlen,hTr,hdj,hb,hF'⟩:=(H.tr l _ _ hl).row
 have hxs:=Zqg hlen hTr
 subst hxs
 refine ⟨.string ⟨bs.toArray⟩,rfl, .val _,fun N W hch hN hF=>?_⟩
 rcases ZaX hrow with ⟨h1,h2,h3⟩|⟨g,cap,h1,h2,h3,h4⟩
 · have hbn:bs=[]:=by
    unfold Lib.byteCells at h3;exact VM.1 h3
   subst hbn;rw [h1] at hv;have:=run_convert_bytes_nil W s e' hs he 0 0 d hd;simp [execOp,ho,hv,this];rfl
 · have hrow2:=hrow;rw [h1] at hrow2;have hn:n=bs.length:=by
    have:=hrow.1;simp [Lib.byteCells] at this;omega
   have:=run_convert_bytes_arg (P:=P) W s e' hs he g 0 n cap (bs.map fun b:UInt8=>(b.toNat:Int)) (by rw [Xf,hn]) (fun i hi=>by
    obtain ⟨b,hb'⟩:=ζm (show i<bs.length by omega);(have hc:(Lib.byteCells bs)[i]? =some (.int .u8 (b.toNat:Nat)):=by unfold Lib.byteCells;rw [Xm,hb'];rfl);have h5:=Zhe hch (hF l _ g hl ((hF' g).2 (.inl (by rw [h1];rfl)))) (ZbM hrow2 hc);rw [Xw,h5];simp [List.getD,hb']) d hd
   rw [Zqh] at this;rw [h1] at hv;simp [execOp,ho,hv,this]
def ZtO (P:Program) (f e:Nat):Prop:=∀(B n:Nat) (i:Int) (_: -9223372036854775808≤i) (_:i≤9223372036854775807) (sv:Value) (xs:List Value) (w:World) (_:w.ownsRow B e 1 sv n xs) (_:B≤w.heap.size) (_:n+21≤140737488355328) (_:Lib.TabBelow P B w "internal/strconv.uint64pow10" .u64 Lib.pow10Tab),
 Calls P f #[sv, .int .i64 i, .int .i64 10] w fun q w'=>∃v',q= .returned v'∧w'.ownsRow B e 1 v' (n+(Lib.itoa i).length) (xs++Lib.byteCells (Lib.itoa i))∧Below B w w'∧Lib.OthersKept e none w w'
section
variable {P:Program} {c:Ctx} {ops:Array Oper} {Q:Exit→Act→World→Prop} {rest:List Oper} {sL hP:List (Nat×Ent)} {o:Oper}
theorem Zxh {f e n g:Nat} {h:Value} {q q2 q3:PV} {x y z:Operand} {ats:Array TypeId} {bs:List UInt8} {i:Int} (l d:Nat) (K:List Nat) (hA:ZtO P f e) (hc:∀args w,(callFunc f args).run P w= .ok (.enter f args) w)
 (hN:∀b,¬c.N0 b) (hdr:¬c.dr) (hg:P.globalNamed "internal/strconv.uint64pow10"=some g) (ht:ZwC=some g)
 (hS:ShrL c.M0 c.w0 (Zm8 K sL)) (hi0: -9223372036854775808≤i) (hi1:i≤9223372036854775807) (hlim:n+21≤140737488355328)
 (k:∀h':Value,h'.oneCell'=true→aL P c ops Q rest ⟨put d (h', .val h') (Zm8 K sL),[(d,h', .own e 1 (n+(Lib.itoa i).length) ((bs++Lib.itoa i).map ZhM))]⟩)
 (hw:ζZ ops sL o=some true:=by exact rfl) (hd:o.dst=some d:=by exact rfl) (hdn:d<c.nt:=by exact Xa rfl) (ho:o.op= .call {callee:= .value (.func f),args:= #[x,y,z],argTypes:=ats}:=by exact rfl)
 (hx:ev sL x=some (h,q):=by exact rfl) (hl:lk hP l=some (h, .own e 1 n (bs.map ZhM)):=by exact rfl) (hy:ev sL y=some (.int .i64 i,q2):=by exact rfl) (hz:ev sL z=some (.int .i64 10,q3):=by exact rfl):aL P c ops Q (o::rest) (⟨sL,hP⟩:St):=
 ZaG hw fun a w F H=>by
  have hxv:=(H.rd.ev hx).1;have hyv:=(H.rd.ev hy).1;have hzv:=(H.rd.ev hz).1;have hTr:=H.tr l _ _ hl;obtain ⟨xs,Fs,hrow,hlen,hT,hdj,hb,hF⟩:=hTr.row;have hxs:xs=Lib.byteCells bs:=Zqg hlen hT;subst hxs;have hw0:c.w0.heap.size≤w.heap.size:=H.ext.size;have hrowB:w.ownsRow c.w0.heap.size e 1 h n (Lib.byteCells bs):=by
   refine ⟨hrow.1,?_⟩;rcases hrow.2 with h1|⟨g',cap,cur,e1,e2,r⟩
   · exact .inl h1
   · refine .inr ⟨g',cap,cur,e1,?_,r⟩;exact (H.lo l _ g' hl ((hF g').2 (.inl (by rw [e1];rfl)))).resolve_right (hN g')
  obtain ⟨⟨ty,at',hgb⟩,_,_⟩:=H.m0.tb hdr g ht;have hcall:=hA c.w0.heap.size n i hi0 hi1 h (Lib.byteCells bs) w hrowB hw0 hlim (Zu9 hg ht (H.mok.tb hdr) (Za8 hgb));unfold Oper.wp;have hrun:(execOp a.eval o).run P w= .ok (.enter f #[h, .int .i64 i, .int .i64 10]) w:=by
   have hev:a.eval (.func f)= .func (.func f) #[] #[]:=rfl;simp [execOp,ho,resolve,Deferred.ofValue,hev,invoke,hxv,hyv,hzv,hc]
  rw [hrun,Oper.upon_enter];refine hcall.mono fun e' w' ⟨v',he',hown,hbel,_⟩=>?_;subst he';rw [hd];have hch:Chg c.N0 c.w0 w':=⟨hbel.os.trans H.ext.os,hbel.tape.trans H.ext.tape,hbel.output.trans H.ext.output,XV hw0 hbel.size,fun i hi hne=>(hbel.block i hi).trans (H.ext.block i hi hne)⟩;have hone:v'.oneCell'=true:=by
   rcases hown.2 with ⟨h1,_⟩|⟨g',cap',cur,e1,_⟩
   · rw [h1];rfl
   · rw [e1];rfl
  have hlow:∀b,v'.ownBlock=some b→c.w0.heap.size≤b:=fun b hb'=>by
   rcases hown.2 with ⟨h1,_⟩|⟨g',cap',cur,e1,e2,_⟩
   · rw [h1] at hb';simp [Value.ownBlock] at hb'
   · rw [e1] at hb';simp [Value.ownBlock] at hb';omega
  have hown0:w'.ownsRow 0 e 1 v' (n+(Lib.itoa i).length) (Lib.byteCells (bs++Lib.itoa i)):=by
   rw [show Lib.byteCells (bs++Lib.itoa i)=Lib.byteCells bs++Lib.byteCells (Lib.itoa i) from Xy];refine ⟨hown.1,?_⟩;rcases hown.2 with h1|⟨g',cap,cur,e1,e2,r⟩
   · exact .inl h1
   · exact .inr ⟨g',cap,cur,e1,Xe _,r⟩
  refine k v' hone _ _ ⟨fun l' b=>l'=d∧v'.ownBlock=some b,⟨⟨fun l' u p hl'=>?_,fun l' z b _ hb'=> .inl (hlow b hb'.2),fun l1 l2 z1 z2 b hne h1 h2 hb1 hb2=>hne (hb1.1.trans hb2.1.symm),H.m0,hch,fun h=>absurd h hdr⟩,fun t u p ht'=>?_,?_,H.df⟩⟩
  · simp only [lk] at hl'
    cases hb:Nat.beq d l'
    · rw [hb] at hl';cases hl'
    · rw [hb] at hl';have:=XP hb;subst this
      cases hl';refine .own (Lib.byteCells (bs++Lib.itoa i)) (fun _ _=>False) hown0 (by simp [Lib.byteCells]) (fun t v p hv hp=>?_) (fun _ _ _ _ _ _ h=>h.elim) (fun _ _ _ h=>h.elim) (fun b=>by simp);unfold Lib.byteCells at hv;rw [Xm,XC] at hv hp;obtain ⟨b1,hb1,rfl⟩:=hv;obtain ⟨b2,hb2,rfl⟩:=hp;rw [hb1] at hb2;cases hb2;exact .shr (.val _) (fun _ h=>h)
  · rcases Zak ht' with ⟨rfl,e1⟩|⟨hne,e1⟩
    · cases e1;exact ⟨by simp [Act.put,H.size,hdn], .val _⟩
    · obtain ⟨h1,h2⟩:=Zle e1;have h3:=(H.sl t u p h1).1;refine ⟨by simpa [Act.put,Array.getElem?_setIfInBounds,hne] using h3,(hS.at h2).to hch (fun b _ h=>absurd h (hN b)) fun b hb' hm=>?_⟩;rcases hm with h4|⟨l',z,h4,h5⟩
      · exact h4
      · have:=hlow b h5.2;omega
  · simpa [Act.put] using H.size
theorem ZAq {t ks e:Nat} {kd:TypeDesc} {z:Value} {x y u:Operand} {m k v:Value} {kv:List (Value×Value)} {p q r:PV} (l:Nat) (hw:ζZ ops sL o=some true) (hd:o.dst=none) (hT:MpT P t ks e kd z) (ho:o.op= .insert t x y u) (hx:ev sL x=some (m,p)) (hl:lk hP l=some (m, .omap kv)) (hy:ev sL y=some (k,q)) (hu:ev sL u=some (v,r)) (hk:kok kd k kv) (hbits:bits k=true)
 (kk:aL P c ops Q rest ⟨sL,put l (m, .omap (Zdn kv k v)) hP⟩):aL P c ops Q (o::rest) (⟨sL,hP⟩:St):=
 ZaG hw fun a w F H=>by
  have hxv:=(H.rd.ev hx).1;have hyv:=(H.rd.ev hy).1;have huv:=(H.rd.ev hu).1;obtain ⟨b,es,clock,rfl,rfl,hb,hFb,hWf⟩:=(H.tr l _ _ hl).mapW;have hm:=Zoi (kvOf es) k;have main:∀(es':Array MapEntry) (clock':Nat),WfM es' clock'→kvOf es'=Zdn (kvOf es) k v→Holds c ⟨sL,put l (.map (some b), .omap (Zdn (kvOf es) k v)) hP⟩ a {w with heap:=w.heap.setIfInBounds b (.map es' clock')}:=fun es' clock' hW' he=>by
   have hlt:=Za8 hb;have hch:Chg (fun x=>x=b) w {w with heap:=w.heap.setIfInBounds b (.map es' clock')}:=⟨rfl,rfl,rfl,by simp,fun i hi hne=>by
    rw [Uu (fun e=>hne e.symm)]⟩
   refine ⟨F,H.change0 (fun l'=>l'=l) (hch.wid fun x hx=> .inl ⟨l,_,rfl,hl,(hFb x).2 hx⟩) (fun l' x hne hx'=>?_) (fun l' x b' hT' hx' hb'=>?_) (fun hmm l' u q hT' hx'=>?_) (fun l1 l2 _ _ _ h1 h2 hne=>absurd (h1.trans h2.symm) hne)⟩
   · rcases Zak hx' with ⟨e1,_⟩|⟨_,e1⟩
     · exact absurd e1.symm hne
     · exact ⟨e1,rfl⟩
   · subst hT';exact .inl ⟨l',_,rfl,hl,hb'⟩
   · subst hT';rw [ζ9] at hx'
     cases hx';rw [←he];exact .omap b es' clock' (by simp [hlt]) hFb hW'
  unfold Oper.wp execOp
  cases h1:Zec (kvOf es) k with
  | none=>
    rw [h1] at hm
    cases h2:Zca (kvOf es) k with
    |some v=>rw [h2] at hm;simp at hm
    | none=>
      simp [ho,hxv,hyv,huv,Instr.mapUpdate,run_underlying hT.ht,getObj,setObj,Sem.run,hb,Zdo hT.hk hT.hkd,Zcu hT.hk hk,h1,h2,Oper.upon,hd,Act.put];exact kk _ _ (main _ _ (Zkz hWf) (ZtB h1))
  | some j =>
    rw [h1] at hm
    cases h2:Zca (kvOf es) k with
    |none=>rw [h2] at hm;simp at hm
    | some v0=>
      have hj:∃e0,es[j]? =some e0∧keq k e0.key=true:=by
       have key:∀(l:List MapEntry) (j:Nat),Zec (l.map fun x=>(x.key,x.val)) k=some j→∃e0,l[j]? =some e0∧keq k e0.key=true:=by
        intro l;induction l with
        |nil=>intro j h;simp [Zec] at h
        | cons e l ih=>
          intro j h;simp only [Xq,Zec] at h;split at h
          · rename_i hk;cases h;exact ⟨e,rfl,hk⟩
          · rw [XC] at h;obtain ⟨j',h1,rfl⟩:=h;obtain ⟨e0,h3,h4⟩:=ih j' h1;exact ⟨e0,by simpa using h3,h4⟩
       obtain ⟨e0,h3,h4⟩:=key es.toList j h1;exact ⟨e0,by simpa using h3,h4⟩
      obtain ⟨e0,h3,h4⟩:=hj;have hb0:bits e0.key=true:=by
       cases k<;>simp [bits] at hbits<;>(generalize e0.key=y at h4 ⊢;cases y<;>simp_all [keq,bits])
      have hsb:=ZmV hb0 h4;simp [ho,hxv,hyv,huv,Instr.mapUpdate,run_underlying hT.ht,getObj,setObj,Sem.run,hb,Zdo hT.hk hT.hkd,Zcu hT.hk hk,h1,h2,h3,Instr.keyThatStays,hsb,Oper.upon,hd,Act.put];exact kk _ _ (main _ _ (ZmT _ (fun _=>rfl) hWf) (ZmU h1))
theorem Zxi {t ks e:Nat} {kd:TypeDesc} {z:Value} {x y u:Operand} {m k v:Value} {kv:List (Value×Value)} {p q r:PV} (l:Nat) (hT:MpT P t ks e kd z) (kk:aL P c ops Q rest ⟨sL,put l (m, .omap (Zdn kv k v)) hP⟩) (hw:ζZ ops sL o=some true:=by exact rfl) (hd:o.dst=none:=by exact rfl) (ho:o.op= .insert t x y u:=by exact rfl) (hx:ev sL x=some (m,p):=by exact rfl) (hl:lk hP l=some (m, .omap kv):=by exact rfl) (hy:ev sL y=some (k,q):=by exact rfl) (hu:ev sL u=some (v,r):=by exact rfl) (hk:kok kd k kv:=by first|exact Zii _ _|exact Zij _ _|exact ZkA _ _|assumption) (hbits:bits k=true:=by exact rfl):aL P c ops Q (o::rest) (⟨sL,hP⟩:St):=
 ZAq l hw hd hT ho hx hl hy hu hk hbits kk
end
section
variable {P:Program} {ops:Array Oper} {Q:Exit→Act→World→Prop} {md:Region.Mode} {C:World→Prop} {Z:Nat→Bool}
def ZgN (md:Region.Mode) (ops:Array Oper):Nat→Nat→Nat→Bool
 |0,_,_=>false
 | n+1,z,i=>match ops[z]? with
   |some oz=>oz.after.any fun e=>Region.binds md e&&(e.on==i||ZgN md ops n e.on i)
   |none=>false
def Zit (md:Region.Mode) (ops:Array Oper) (Z:Nat→Bool) (i:Nat):Bool:=(List.range ops.size).all fun z=> !Z z||ZgN md ops ops.size z i
def Ziu (md:Region.Mode) (ops:Array Oper) (listed:Array Bool):Bool:=(List.range ops.size).all fun k=> !(listed.getD k false)||(match ops[k]? with
 |some o=>o.after.all fun e=> !Region.binds md e||listed.getD e.on false
 |none=>true)
def ClosedL (md:Region.Mode) (ops:Array Oper) (listed:Array Bool):Prop:=∀(k:Nat) (o:Oper),ops[k]? =some o→listed.getD k false=true→∀e∈o.after,Region.binds md e=true→listed.getD e.on false=true
theorem Zor {listed:Array Bool} (h:Ziu md ops listed=true):ClosedL md ops listed:=fun k o ho hk e he hb=>by
 have hks:k<ops.size:=by
  rcases Xv k ops.size with h'|h'
  · exact h'
  · rw [Vi h'] at ho;cases ho
 have:=XD.1 h k (Vd.2 hks)
 rw [hk,ho] at this
 simp only [Bool.not_true,Bool.false_or] at this
 have:=(Array.all_eq_true'.1 this) e he
 rw [hb] at this
 simpa using this
theorem ClosedL.reach {listed:Array Bool} (h:ClosedL md ops listed) {i:Nat}:∀(n z:Nat),listed.getD z false=true→ZgN md ops n z i=true→listed.getD i false=true
 |0,_,_,hr=>by simp [ZgN] at hr
 | n +1,z,hz,hr=>by
   rw [ZgN] at hr;split at hr
   · rename_i oz ho;obtain ⟨e,he,hb⟩:=Array.any_eq_true'.1 hr;simp only [Xg,Vp,beq_iff_eq] at hb;have h1:=h z oz ho hz e he hb.1;rcases hb.2 with h2|h2
     · rw [←h2];exact h1
     · exact ClosedL.reach h n e.on h1 h2
   · cases hr
theorem ClosedL.ready {listed:Array Bool} (h:ClosedL md ops listed) {i j n:Nat} (hj:j∈Region.ready md ops listed) (hr:ZgN md ops n j i=true):listed.getD i false=true:=by
 obtain ⟨_,oj,hoj,hall⟩:=mem_ready.1 hj
 cases n with
 |zero=>simp [ZgN] at hr
 | succ n=>
   rw [ZgN,hoj] at hr;obtain ⟨e,he,hb⟩:=Array.any_eq_true'.1 hr;simp only [Xg,Vp,beq_iff_eq] at hb;have h1:=hall e he hb.1;rcases hb.2 with h2|h2
   · rw [←h2];exact h1
   · exact h.reach n e.on h1 h2
theorem ClosedL.set {listed:Array Bool} (h:ClosedL md ops listed) {j:Nat} (hj:j∈Region.ready md ops listed):ClosedL md ops (listed.setIfInBounds j true):=fun k o ho hk e he hb=>by
 obtain ⟨_,oj,hoj,hall⟩:=mem_ready.1 hj
 by_cases hkj:k=j
 · subst hkj;rw [hoj] at ho;cases ho;exact getD_set_true (hall e he hb)
 · rw [getD_set_ne false (Ne.symm hkj)] at hk;exact getD_set_true (h k o ho hk e he hb)
theorem ZmF {i:Nat} {oi:Oper} {v:Value} (hi:ops[i]? =some oi) (hz:Zit md ops Z i=true)
 (hsel:∀(j:Nat) (o:Oper) cs b,ops[j]? =some o→o.op≠ .select cs b):
 ∀ (fuel:Nat) (listed:Array Bool) (a:Act) (w:World),ClosedL md ops listed→
  (∀j oj,ops[j]? =some oj→j≠i→listed.getD j true=false→(∀e∈oj.after,Region.binds md e=true→e.on≠i)→oi.apart ops oj=true)→
  i∈Region.ready md ops listed→YieldsC P ops C oi v a→C w→
  ZcZ P md ops Q C Z fuel (listed.setIfInBounds i true) (a.put oi.dst v) w→ZcZ P md ops Q C Z (fuel+1) listed a w:=by
 intro fuel
 induction fuel with
 | zero=>
   intro listed a w _ _ hr hy hC H;refine ⟨fun h=>(by rw [h] at hr;cases hr),fun j hj=>?_⟩;by_cases hji:j=i
   · subst hji;exact YieldsIf.wpOp hi hy.ifS hC ⟨.inr hC,H⟩
   · have:=ready_mono hj hji;rw [H.1] at this
     cases this
 | succ fuel ih=>
   intro listed a w hcl hfree hr hy hC H;refine ⟨fun h=>(by rw [h] at hr;cases hr),fun j hj=>?_⟩;by_cases hji:j=i
   · subst hji;exact YieldsIf.wpOp hi hy.ifS hC ⟨.inr hC,H⟩
   · have h1:=H.2 j (ready_mono hj hji);obtain ⟨hjun,oj,hoj,hall⟩:=mem_ready.1 hj;have hnot:∀e∈oj.after,Region.binds md e=true→e.on≠i:=fun e he hb heq=>by
      have h1:=hall e he hb;have h0:=(mem_ready.1 hr).1;rw [heq] at h1;rcases Xv i listed.size with h'|h'
      · simp [h'] at h0 h1;rw [h0] at h1;cases h1
      · simp [Vi h'] at h1
     have hjz:Z j=false:=by
      cases hZ:Z j
      · rfl
      · exfalso;have hjs:j<ops.size:=by
         rcases Xv j ops.size with h'|h'
         · exact h'
         · rw [Vi h'] at hoj;cases hoj
        have:=XD.1 hz j (Vd.2 hjs);rw [hZ] at this;simp only [Bool.not_true,Bool.false_or] at this;have h0:=(mem_ready.1 hr).1;have h1:=hcl.ready hj this;rcases Xv i listed.size with h'|h'
        · simp [h'] at h0 h1;rw [h0] at h1;cases h1
        · simp [Vi h'] at h1
     have h2:=wpOp_putIf hoj (hfree j oj hoj hji hjun hnot) (fun cs b=>hsel i oi cs b hi) (fun cs b=>hsel j oj cs b hoj) (fun c a w h=>h) hy.ifS h1;have hfree':∀k ok,ops[k]? =some ok→k≠i→(listed.setIfInBounds j true).getD k true=false→
      (∀e∈ok.after,Region.binds md e=true→e.on≠i)→oi.apart ops ok=true:=fun k ok hk hki hun hno=>by
      refine hfree k ok hk hki ?_ hno;by_cases hjk:j=k
      · subst hjk;exact hjun
      · rw [getD_set_ne true hjk] at hun;exact hun
     refine wpOp_mono (fun a' w' h3=>?_) h2;obtain ⟨hy',hor,hK⟩:=h3;have hC':C w':=by
      rcases hor with h|h
      · rw [hjz] at h;cases h
      · exact h
     refine ⟨.inr hC',ih (listed.setIfInBounds j true) a' w' (hcl.set hj) hfree' (ready_mono hr (Ne.symm hji)) hy' hC' ?_⟩;rw [Array.setIfInBounds_comm _ _ hji];exact hK
end
section
variable {P:Program} {c:Ctx} {ops:Array Oper} {Q:Exit→Act→World→Prop} {Z:Nat→Bool} {K:List Nat} {fuel:Nat} {listed:Array Bool} {sL hP:List (Nat×Ent)} {o:Oper}
theorem ZCj {V:Value→Prop} {p:PV} (i d:Nat) (ho:ops[i]? =some o) (hck:(Region.noSelect ops&&(Region.ready .any ops listed).contains i&&Region.free .any ops listed i&&Zit .any ops Z i&&Ziu .any ops listed)=true) (hw:ζZ ops sL o=some true) (hd:o.dst=some d) (hn:d<c.nt) (hy:YE P ⟨sL,Zcv K hP⟩ o V p)
 (k:∀v,V v→aD P c ops Q Z K fuel (listed.setIfInBounds i true) ⟨put d (v,p) sL,hP⟩):aD P c ops Q Z K (fuel+1) listed (⟨sL,hP⟩:St):=fun a w F H C hC=>by
 simp only [Xg] at hck
 obtain ⟨⟨⟨⟨hs,hr⟩,hf⟩,hz⟩,hcl⟩:=hck
 obtain ⟨v,hV,hS,hrun⟩:=hy _ F a w (H.rdK K)
 refine Zed hC _ _ _ _ ?_
 refine ZmF ho hz (Region.noSelect_spec hs) _ listed a w (Zor hcl) (Region.free_spec ho hf) (by simpa using hr) (v:=v) (.inl ⟨ZdE H.rd hw,fun W hW=>?_⟩) (Chg.rfl' _ _) ?_
 · exact hrun _ W hW (fun b ⟨l,x,_,h1,h2⟩=> .inr ⟨l,x,h1,h2⟩) (fun l x b hl hFb ⟨l',x',h1,h2,h3⟩=>by
    obtain ⟨h4,h5⟩:=Zfl.1 hl;exact H.dj l l' _ _ b (fun e=>by rw [e,h1] at h4;cases h4) h5 h2 hFb h3)
 · rw [hd];exact k v hV _ w F (H.put hn hS) _ (fun W h=>h)
theorem ZD6 {v:Value} {p:PV} (i d:Nat) (ho:ops[i]? =some o) (hck:(Region.noSelect ops&&(Region.ready .any ops listed).contains i&&Region.free .any ops listed i&&Zit .any ops Z i&&Ziu .any ops listed)=true) (hw:ζZ ops sL o=some true) (hd:o.dst=some d) (hn:d<c.nt) (hy:YE P ⟨sL,Zcv K hP⟩ o (· =v) p)
 (k:aD P c ops Q Z K fuel (listed.setIfInBounds i true) ⟨put d (v,p) sL,hP⟩):aD P c ops Q Z K (fuel+1) listed (⟨sL,hP⟩:St):=ZCj i d ho hck hw hd hn hy fun u hu=>by cases hu;exact k
theorem xDT {v:Value} {p:PV} (i:Nat) (d:Nat) (ho:ops[i]? =some o) (hy:YE P ⟨sL,Zcv K hP⟩ o (· =v) p) (k:aD P c ops Q Z K fuel (listed.setIfInBounds i true) ⟨put d (v,p) sL,hP⟩) (hck:(Region.noSelect ops&&(Region.ready .any ops listed).contains i&&Region.free .any ops listed i&&Zit .any ops Z i&&Ziu .any ops listed)=true:=by kernel_rfl) (hw:ζZ ops sL o=some true:=by exact rfl) (hd:o.dst=some d:=by exact rfl) (hn:d<c.nt:=by exact Xa rfl):aD P c ops Q Z K (fuel+1) listed (⟨sL,hP⟩:St):=
 ZD6 i d ho hck hw hd hn hy k
theorem yDT {V:Value→Prop} {p:PV} (i:Nat) (d:Nat) (ho:ops[i]? =some o) (hy:YE P ⟨sL,Zcv K hP⟩ o V p) (k:∀v,V v→aD P c ops Q Z K fuel (listed.setIfInBounds i true) ⟨put d (v,p) sL,hP⟩) (hck:(Region.noSelect ops&&(Region.ready .any ops listed).contains i&&Region.free .any ops listed i&&Zit .any ops Z i&&Ziu .any ops listed)=true:=by kernel_rfl) (hw:ζZ ops sL o=some true:=by exact rfl) (hd:o.dst=some d:=by exact rfl) (hn:d<c.nt:=by exact Xa rfl):aD P c ops Q Z K (fuel+1) listed (⟨sL,hP⟩:St):=
 ZCj i d ho hck hw hd hn hy k
end
def aDZ (P:Program) (c:Ctx) (ops:Array Oper) (Q:Exit→Act→World→Prop) (Z:Nat→Bool) (fuel:Nat) (listed:Array Bool) (st:St):Prop:=
 ∀a w F,HoldsF c st F a w→∀C:World→Prop,ZcZ P .any ops Q C Z fuel listed a w
section
variable {P:Program} {c:Ctx} {ops:Array Oper} {Q:Exit→Act→World→Prop} {Z:Nat→Bool} {K:List Nat} {fuel:Nat} {listed:Array Bool} {sL hP:List (Nat×Ent)} {o:Oper}
theorem Zft {i:Nat} (ho:ops[i]? =some o) (hZ:Z i=true) (h:∀DQ:Exit→Act→World→Prop,(∀st':St,aDZ P c ops Q Z fuel (listed.setIfInBounds i true) st'→aN c DQ st')→aL P c ops DQ [o] (⟨sL,hP⟩:St)):aW P c ops Q Z K fuel listed (⟨sL,hP⟩:St) i:=fun a w F H C hC=>by
 refine Zdj (Q':=fun _ a' w'=>(Z i=true∨C w')∧ZcZ P .any ops Q C Z fuel (listed.setIfInBounds i true) a' w') ho (fun a' w' hq=>hq) ?_
 exact h _ (fun st' hN a' w' ⟨F',H'⟩=>⟨.inl hZ,hN a' w' F' H' C⟩) a w ⟨F,H⟩
theorem Zdt (i:Nat) (hr:Region.ready .any ops listed=[i]) (ho:ops[i]? =some o) (hZ:Z i=true) (h:∀DQ:Exit→Act→World→Prop,(∀st':St,aDZ P c ops Q Z fuel (listed.setIfInBounds i true) st'→aN c DQ st')→aL P c ops DQ [o] (⟨sL,hP⟩:St)):aDZ P c ops Q Z (fuel+1) listed (⟨sL,hP⟩:St):=fun a w F H C=>
 ⟨(fun hn=>by rw [hr] at hn;cases hn),fun j hj=>by
   rw [hr] at hj;obtain rfl:j=i:=by simpa using hj
   refine Zdj (Q':=fun _ a' w'=>(Z j=true∨C w')∧ZcZ P .any ops Q C Z fuel (listed.setIfInBounds j true) a' w') ho (fun a' w' hq=>hq) ?_;exact h _ (fun st' hN a' w' ⟨F',H'⟩=>⟨.inl hZ,hN a' w' F' H' C⟩) a w ⟨F,H⟩⟩
theorem Zhj (hr:Region.ready .any ops listed=[]) (h:aN c Q (⟨sL,hP⟩:St)):aDZ P c ops Q Z fuel listed (⟨sL,hP⟩:St):=fun a w F H C=>by
 cases fuel with
 |zero=>exact ⟨hr,h a w ⟨F,H⟩⟩
 |succ n=>exact ⟨fun _=>h a w ⟨F,H⟩,fun i hi=>by rw [hr] at hi;cases hi⟩
end
section
variable {P:Program} {st:St} {o:Oper} {x y:Operand} {q q':PV} {t t':TypeId}
end
section
variable {P:Program} {c:Ctx} {sL hP:List (Nat×Ent)}
theorem ZtP {fn:Func} {R:Value→PV→List (Nat×Ent)→Prop} {t ty s k e k' n:Nat} {h u:Value} {q p:PV} {cs:List PV} (l:Nat) (H':List (Nat×Ent)) (hT:AggT P ty k=true) (hr:fn.results= #[.cell t ty, .tmp s]) (ht:lk sL t=some (padd (sbase h) 0,q)) (hl:lk hP l=some (h, .own e k' n cs)) (hs:lk sL s=some (u,p)) (hp:k≤cs.length) (hk:0<k) (hsh:(cs.take k).all isSh=true) (hsub:Sub H' hP) (hR:∀V:Value,R (.tuple [V,u].toArray) (.tup [.agg (cs.take k),p]) H') (hdf:c.df=[]:=by exact rfl):aR c (bodyPost P fn (Zoo c R)) (⟨sL,hP⟩:St):=fun a w ⟨F,H⟩=>by
 obtain ⟨V,A,h0,h1,h2⟩:=Zfn H hT ht hl hp hk hsh
 obtain ⟨h3,h4⟩:=H.sl s _ _ hs
 have H2:HoldsF c (⟨sL,H'⟩:St) F a w:=H.less (fun _ _ h=>h) fun t x hx=>hsub.lk hx
 have hM:∀b,b<w.heap.size→mof c H' F b→mof c hP F b:=fun b _ hb=>by
  rcases hb with hb|⟨l,x,h1,h2⟩
  · exact .inl hb
  · exact .inr ⟨l,x,hsub.lk h1,h2⟩
 refine ⟨H.df.trans hdf, .tuple #[V,u],?_, .tuple #[V,u], .tup [.agg (cs.take k),p],H',F,rfl,hR _,H2.toHeapF, .tup [V,u] _ rfl fun i v q' hv hq'=>?_⟩
 · simp only [results,hr];simp at h0;simp [h0,h1,XY,h3]
 · match i with
   |0=>simp at hv hq';subst hv hq';exact h2.anti hM
   |1=>simp at hv hq';subst hv hq';exact h4.anti hM
   |i+2=>simp at hv
end
section
variable {P:Program} {c:Ctx} {ops:Array Oper} {Q:Exit→Act→World→Prop} {Z:Nat→Bool} {K:List Nat} {fuel:Nat} {listed:Array Bool} {sL hP:List (Nat×Ent)} {o:Oper}
theorem ZAr (i j k l:Nat) (hr:Region.ready .any ops listed=[i,j,k,l]) (h:aW P c ops Q Z K fuel listed (⟨sL,hP⟩:St) i) (h':aW P c ops Q Z K fuel listed (⟨sL,hP⟩:St) j) (h'':aW P c ops Q Z K fuel listed (⟨sL,hP⟩:St) k) (h3:aW P c ops Q Z K fuel listed (⟨sL,hP⟩:St) l):aD P c ops Q Z K (fuel+1) listed (⟨sL,hP⟩:St):=fun a w F H C hC=>
 ⟨(fun hn=>by rw [hr] at hn;cases hn),fun m hm=>by
   rw [hr] at hm;rcases (by simpa using hm:m=i∨m=j∨m=k∨m=l) with rfl|rfl|rfl|rfl
   · exact h a w F H C hC
   · exact h' a w F H C hC
   · exact h'' a w F H C hC
   · exact h3 a w F H C hC⟩
end
end Go.En
