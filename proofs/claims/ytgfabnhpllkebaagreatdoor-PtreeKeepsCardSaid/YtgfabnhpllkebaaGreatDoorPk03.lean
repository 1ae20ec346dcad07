/-
  Walks: names, alphabets; searching lists of strings (package name, the reference's layer 2, package slices).
  Walks: slices.IndexFunc, slices.ContainsFunc, at the element types of the program.
  Walks: lists of variants: which are valid, which are the same; what is small enough for the laws of the cut chapter.
  Walks: directly-follows graphs: which are valid (package dfg).
  The engine: ranging over a map that is read. No program in sight.
  The engine: maps whose keys are pairs of strings. No program in sight.
  The engine: owned structs behind pointers, handed back and opened. No program in sight.
  Plain laws: maps to numbers as lists; counts and pairs in order. No program in sight.
  Walks: comparing of counts and pairs where what is drawn only grows; dfg.list.
  Plain laws: what dfg.Make counts. No program in sight.
  Walks: dfg.newCounter, the counter's graph.
  The engine: calls that change what the caller owns. No program in sight.
  Walks: slices.Clone and slices.DeleteFunc over counts and follows.
  Walks: slices.Clone over counts and follows; dfg.Threshold.
  Walks: automata: comparing moves, which automata are valid.
  Walks: automata: which states are near; which accept.
  Walks: automata: the closure of states: what 'add' does.
  Walks: automata: the closure of states.
  Walks: automata: where a symbol leads.
  Plain laws: automata: what silent moves reach, and how far it is to the end. No program in sight.
  Plain laws: automata: the words up to a length, as the program finds them and as the reference does. No program in sight.
  Plain functions, more: a word is split by a cut, as the program does it. No program in sight.
  Plain functions, more: pieces whose parts are told at the end. No program in sight.
-/
import Derived.Test.YtgfabnhpllkebaaGreatDoorProg
import Derived.Maps.RangeRun
import Derived.DeepKeys3
import Derived.Lib.SliceRun
import Derived.Test.YtgfabnhpllkebaaGreatDoorPk02
import Derived.Test.YtgfabnhpllkebaaGreatDoorMShelfC
import Derived.Test.YtgfabnhpllkebaaGreatDoorMShelfD
import Derived.Test.YtgfabnhpllkebaaGreatDoorPk01
namespace Go.Proofs.YtgfabnhpllkebaaGreatDoor
open Go.RowKit Go.Cb Go.En
set_option linter.all false
set_option maxRecDepth 100000
theorem ZwM:NoAgg Tryz.prog 9=true:=by kernel_rfl
theorem Zme:SlT Tryz.prog 27 9 1=true:=by kernel_rfl
abbrev pU8 (n:Int):PV:= .val (.int .u8 n)
theorem Zd1 {a b:Bool} (h:a=true↔b=true):ζ7 a=ζ7 b:=by rw [Vl.2 h]
theorem Zti {s:ByteArray} {i:Nat} {x:UInt8} (h:s.data[i]? =some x):i<s.size:=by
 rcases Xq i s.size with h1|h1
 · exact h1
 · rw [XZ h1] at h;cases h
theorem ZkR {s:ByteArray} {i:Nat} (h:i<s.size):∃y,s.data[i]? =some y:=⟨s.data[i]'h,Array.getElem?_eq_getElem h⟩
theorem Zdc {s:ByteArray} (h:s.size<1∨40<s.size):ZcN s=false:=by
 unfold ZcN
 rcases h with h|h
 · rw [decide_eq_false (show ¬1≤s.size by omega)];simp
 · rw [decide_eq_false (show ¬s.size≤40 by omega)];simp
theorem ZjJ {s:ByteArray} {y:UInt8} (h0:s.data[0]? =some y) (h:ZcH y.toNat=false):ZcN s=false:=by
 unfold ZcN;rw [h0,Ua,h];simp
theorem ZjK {s:ByteArray} {k:Nat} {y:UInt8} (hy:s.data[k]? =some y) (h:ZfS y.toNat=false):ZcN s=false:=by
 unfold ZcN
 rw [Bool.and_eq_false_iff];right
 rw [List.all_eq_false]
 exact ⟨y,Array.mem_toList_iff.2 (Array.mem_of_getElem? hy),by rw [h];simp⟩
theorem Zik {s:ByteArray} {y:UInt8} (h1:1≤s.size) (h2:s.size≤40) (h0:s.data[0]? =some y) (hl:ZcH y.toNat=true) (h:∀j z,j<s.size→s.data[j]? =some z→ZfS z.toNat=true):ZcN s=true:=by
 unfold ZcN
 rw [h0,Ua,hl,decide_eq_true h1,decide_eq_true h2]
 simp only [Bool.and_self,Bool.true_and,Xy]
 intro x hx
 obtain ⟨i,hi⟩:=Array.getElem?_of_mem (Array.mem_toList_iff.1 hx)
 exact h i x (Zti hi) hi
theorem ZpL (c:Int):AF Tryz.prog 149 [pU8 c] (· =ζ7 (ZcH c)):=by
 refine AF.of_body 17 Tryz.func149 rfl Tryz.ntmps149 (Xa rfl) ?_
 intro w0 M0 vs hl hv
 obtain ⟨v0,rfl⟩:=ZcP hl
 obtain rfl:=hv 0 _ _ rfl rfl
 clear hl hv
 refine nav ?_
 (refine ζa ?_<;>refine xL 2 ζc ?_<;>refine ζd ?_)
 (refine ζa ?_<;>refine xL 3 ζb (xL 4 Zcu (xL 5 ζb ?_))<;>(refine bLd 5 (fun hb5=>?_) (fun hb5=>?_)<;>(first|refine kL 6 ?_|refine xL 6 ζb ?_))<;>(first|refine kL 7 ?_|refine xL 7 ZgA ?_)<;>refine xL 8 ζv (xL 9 ζb ?_)<;>(first|refine xL 10 ζb ?_|(refine bLd 9 (fun hb9=>?_) (fun hb9=>?_)<;>(first|refine kL 10 ?_|refine xL 10 ζb ?_)))<;>(first|refine kL 11 ?_|refine xL 11 Zcu ?_)<;>(first|refine kL 12 ?_|refine xL 12 ζb ?_)<;>(first|refine kL 13 ?_|(refine bLd 12 (fun hb12=>?_) (fun hb12=>?_)<;>(first|refine kL 13 ?_|refine xL 13 ζb ?_)))<;>(first|refine kL 14 ?_|refine xL 14 ZgA ?_)<;>(first|refine kL 15 ?_|refine xL 15 ζv ?_)<;>refine xL 16 ζv (xL 2 ζc ?_)<;>refine ζd ?_)<;>(
  refine ζp (Tryz.results149) rfl (Zd1 ?_);simp only [ZcH,XT,Xe,decide_eq_true_eq,true_iff,false_iff,VA]<;>omega)
theorem ZCt (c:Int):AF Tryz.prog 150 [pU8 c] (· =ζ7 (ZfS c)):=by
 refine AF.of_body 25 Tryz.func150 rfl Tryz.ntmps150 (Xa rfl) ?_
 intro w0 M0 vs hl hv
 obtain ⟨v0,rfl⟩:=ZcP hl
 obtain rfl:=hv 0 _ _ rfl rfl
 clear hl hv
 refine nav ?_
 (refine ζa ?_<;>refine xL 2 ζc ?_<;>refine ζd ?_)
 (refine ζa ?_<;>refine xL 3 ζb ?_<;>(refine cS 4 (cA Tryz.call149 (ZpL c)) fun v4 h=>?_;cases h)<;>refine xL 5 ζb ?_<;>(refine bL 5 (fun hb5=>?_) (fun hb5=>?_)<;>(first|refine kL 6 ?_|refine xL 6 ζb ?_))<;>(first|refine kL 7 ?_|refine xL 7 Zcu ?_)<;>(first|refine kL 8 ?_|refine xL 8 ζb ?_)<;>(first|refine kL 9 ?_|(refine bLd 8 (fun hb8=>?_) (fun hb8=>?_)<;>(first|refine kL 9 ?_|refine xL 9 ζb ?_)))<;>(first|refine kL 10 ?_|refine xL 10 ZgA ?_)<;>(first|refine kL 11 ?_|refine xL 11 ζv ?_)<;>refine xL 12 ζv (xL 13 ζb ?_)<;>(first|refine kL 14 ?_|refine xL 14 ζb ?_|(refine bLd 13 (fun hb13=>?_) (fun hb13=>?_)<;>(first|refine kL 14 ?_|refine xL 14 ζb ?_)))<;>(first|refine kL 15 ?_|refine xL 15 ζY ?_)<;>refine xL 16 ζv (xL 17 ζb ?_)<;>(first|refine kL 18 ?_|(refine bLd 17 (fun hb17=>?_) (fun hb17=>?_)<;>(first|refine kL 18 ?_|refine xL 18 ζb ?_)))<;>(first|refine kL 19 ?_|refine xL 19 ζY ?_)<;>refine xL 20 ζv (xL 21 ζb ?_)<;>(first|refine kL 22 ?_|(refine bLd 21 (fun hb21=>?_) (fun hb21=>?_)<;>(first|refine kL 22 ?_|refine xL 22 ζb ?_)))<;>(first|refine kL 23 ?_|refine xL 23 ζY ?_)<;>refine xL 24 ζv (xL 2 ζc ?_)<;>refine ζd ?_)<;>(
  refine ζp (Tryz.results150) rfl (Zd1 ?_);simp only [ZfS,XT,Xe,decide_eq_true_eq,true_iff,false_iff,VA,beq_iff_eq]<;>simp_all<;>omega)
theorem ZwN (s:ByteArray) (hs:s.size≤9223372036854775807):AF Tryz.prog 103 [Za3 s] (· =ζ7 (ZcN s)):=by
 refine AF.of_body 29 Tryz.func103 rfl Tryz.ntmps103 (Xa rfl) ?_
 intro w0 M0 vs hl hv
 obtain ⟨v0,rfl⟩:=ZcP hl
 obtain rfl:=hv 0 _ _ rfl rfl
 clear hl hv
 refine nav ?_
 (refine ζa ?_<;>refine xL 2 ζc ?_<;>refine ζd ?_)
 (refine ζa ?_<;>refine xL 4 ζb (xL 5 (Zbe Tryz.underlying9) (xL 6 ζP (xL 7 ζb ?_)))<;>(refine bLd 7 (fun hb7=>?_) (fun hb7=>?_)<;>(first|refine kL 8 ?_|refine xL 8 ζb ?_))<;>(first|refine kL 9 ?_|refine xL 9 (Zbe Tryz.underlying9) ?_)<;>(first|refine kL 10 ?_|refine xL 10 ZaQ ?_)<;>refine xL 11 ζv (xL 12 ζb ?_)<;>(first|refine kL 13 ?_|(refine bLd 12 (fun hb12=>?_) (fun hb12=>?_)<;>(first|refine kL 13 ?_|refine xL 13 ζb ?_)))<;>(first|refine kL 14 ?_|(refine (ZkR (i:=0) (s:=s) (by omega)).elim fun y0 hy0=>?_;refine xL 14 (Zbh Tryz.underlying9) ?_))<;>(first|refine kL 15 ?_|(refine cS 15 (cA Tryz.call149 (ZpL y0.toNat)) fun v15 h=>?_;cases h))<;>(first|refine kL 16 ?_|refine xL 16 Zaw ?_)<;>refine xL 17 ζv ?_<;>refine ζd ?_)<;>(
  (first|refine cCd ?_ ?_|refine cC ?_ ?_)<;>intro hb17
  · first
    |exact bN hb17
    | (
     refine nav ?_;(refine ζa ?_<;>refine xL 2 ζc ?_<;>refine ζd ?_)
     refine ζp (Tryz.results103) rfl ?_
     first|rw [Zdc (by omega)]|rw [ZjJ hy0 (by simpa using hb17)])
  · first
    |exact bN hb17
    | (
     refine nav ?_;(refine ζa ?_<;>refine xL 18 ζb (xL 19 (Zbe Tryz.underlying9) (xL 20 ζb ?_))<;>refine ζd ?_)
     refine ζD (ι:={k:Nat//k≤s.size∧∀j y,j<k→s.data[j]? =some y→ZfS y.toNat=true}) (fun k=>⟨[(0,_,_),(19,_,_),(20, .int .i64 k.1,pInt k.1)],[]⟩) (fun k=>s.size-k.1) ⟨0,by omega,by omega⟩ (fun a w H=>H.weaken ⟨rfl,rfl,rfl,trivial⟩ trivial) ?_;rintro ⟨k,hk,hp⟩;dsimp only;refine nav ?_;(refine ζa ?_<;>refine xL 21 ζP ?_<;>refine ζd ?_)
     (first|refine cCd ?_ ?_|refine cC ?_ ?_)<;>intro hb21
     · first
       |exact bN hb21
       | (
        (have hlt:k<s.size:=by omega);obtain ⟨y,hy⟩:=ZkR (s:=s) (i:=k) (by omega);refine nav ?_;(refine ζa ?_<;>refine xL 22 ζb (xL 3 ζc ?_)<;>refine ζd ?_)
        (refine ζa ?_<;>refine xL 23 ζb (xL 24 ζb (xL 25 (Zbh Tryz.underlying9) ?_))<;>(refine cS 26 (cA Tryz.call150 (ZCt y.toNat)) fun v26 h=>?_;cases h)<;>refine xL 27 Zaw ?_<;>refine ζd ?_)
        (first|refine cCd ?_ ?_|refine cC ?_ ?_)<;>intro hb27
        · first
          |exact bN hb27
          | (
           refine nav ?_;(refine ζa ?_<;>refine xL 2 ζc ?_<;>refine ζd ?_)
           refine ζp (Tryz.results103) rfl ?_;rw [ZjK hy (by simpa using hb27)])
        · first
          |exact bN hb27
          | (
           refine nav ?_;(refine ζa ?_<;>refine xL 28 ζM (xL 20 ζb ?_)<;>refine ζd ?_)
           refine ζh (
            ⟨k+1,by omega,fun j z hj hz=>by
             by_cases e:j=k
             · subst e;rw [hy] at hz;cases hz;simpa using hb27
             · exact hp j z (by omega) hz⟩
            ) (by dsimp only;omega) ⟨rfl,rfl,rfl,trivial⟩ trivial))
     · first
       |exact bN hb21
       | (
        refine nav ?_;(refine ζa ?_<;>refine xL 2 ζc ?_<;>refine ζd ?_)
        refine ζp (Tryz.results103) rfl ?_;rw [Zik (by omega) (by omega) hy0 (by simpa using hb17) (fun j z hj hz=>hp j z (by omega) hz)])))
theorem ZpM {α:Type} {p:α→Bool} {l:List α} {k:Nat} {x:α} (hx:l[k]? =some x) (h:p x=false):l.all p=false:=List.all_eq_false.2 ⟨x,Xg hx,by rw [h];simp⟩
theorem Zz4 {α:Type} {p:α→Bool} {l:List α} (h:∀(j:Nat) x,l[j]? =some x→p x=true):l.all p=true:=Xy.2 fun x hx=>by
 obtain ⟨j,hj⟩:=Vc hx
 exact h j x hj
theorem Zmf (c:Int):AF Tryz.prog 203 [pU8 c] (· =ζ7 (ZcH c)):=by
 refine AF.of_body 17 Tryz.func203 rfl Tryz.ntmps203 (Xa rfl) ?_
 intro w0 M0 vs hl hv
 obtain ⟨v0,rfl⟩:=ZcP hl
 obtain rfl:=hv 0 _ _ rfl rfl
 clear hl hv
 refine nav ?_
 (refine ζa ?_<;>refine xL 2 ζc ?_<;>refine ζd ?_)
 (refine ζa ?_<;>refine xL 3 ζb (xL 4 Zcu (xL 5 ζb ?_))<;>(refine bLd 5 (fun hb5=>?_) (fun hb5=>?_)<;>(first|refine kL 6 ?_|refine xL 6 ζb ?_))<;>(first|refine kL 7 ?_|refine xL 7 ZgA ?_)<;>refine xL 8 ζv (xL 9 ζb ?_)<;>(first|refine xL 10 ζb ?_|(refine bLd 9 (fun hb9=>?_) (fun hb9=>?_)<;>(first|refine kL 10 ?_|refine xL 10 ζb ?_)))<;>(first|refine kL 11 ?_|refine xL 11 Zcu ?_)<;>(first|refine kL 12 ?_|refine xL 12 ζb ?_)<;>(first|refine kL 13 ?_|(refine bLd 12 (fun hb12=>?_) (fun hb12=>?_)<;>(first|refine kL 13 ?_|refine xL 13 ζb ?_)))<;>(first|refine kL 14 ?_|refine xL 14 ZgA ?_)<;>(first|refine kL 15 ?_|refine xL 15 ζv ?_)<;>refine xL 16 ζv (xL 2 ζc ?_)<;>refine ζd ?_)<;>(
  refine ζp (Tryz.results203) rfl (Zd1 ?_);simp only [ZcH,XT,Xe,decide_eq_true_eq,true_iff,false_iff,VA]<;>omega)
theorem Ztj (s : ByteArray) (hs:s.size≤9223372036854775807):AF Tryz.prog 151 [Za3 s] (· =ζ7 (ZcN s)):=by
 refine AF.of_body 52 Tryz.func151 rfl Tryz.ntmps151 (Xa rfl) ?_
 intro w0 M0 vs hl hv
 obtain ⟨v0,rfl⟩:=ZcP hl
 obtain rfl:=hv 0 _ _ rfl rfl
 clear hl hv
 refine nav ?_
 (refine ζa ?_<;>refine xL 2 ζc ?_<;>refine ζd ?_)
 (refine ζa ?_ <;>refine xL 5 ζb (xL 6 (Zbe Tryz.underlying9) (xL 7 ζP (xL 8 ζb ?_)))<;>(refine bLd 8 (fun hb8=>?_) (fun hb8=>?_)<;>(first|refine kL 9 ?_|refine xL 9 ζb ?_))<;>(first|refine kL 10 ?_|refine xL 10 (Zbe Tryz.underlying9) ?_)<;>(first|refine kL 11 ?_|refine xL 11 ZaQ ?_)<;>refine xL 12 ζv (xL 13 ζb ?_)<;>(first|refine kL 14 ?_|(refine bLd 13 (fun hb13=>?_) (fun hb13=>?_)<;>(first|refine kL 14 ?_|refine xL 14 ζb ?_)))<;>(first|refine kL 15 ?_|(refine (ZkR (i:=0) (s:=s) (by omega)).elim fun y0 hy0=>?_;refine xL 15 (Zbh Tryz.underlying9) ?_))<;>(first|refine kL 16 ?_|(refine cS 16 (cA Tryz.call203 (Zmf y0.toNat)) fun v16 h=>?_;cases h))<;>(first|refine kL 17 ?_|refine xL 17 Zaw ?_)<;>refine xL 18 ζv ?_<;>refine ζd ?_)<;>(
  (first|refine cCd ?_ ?_|refine cC ?_ ?_)<;>intro hb18
  · first
    |exact bN hb18
    | (
     refine nav ?_;(refine ζa ?_<;>refine xL 2 ζc ?_<;>refine ζd ?_)
     refine ζp (Tryz.results151) rfl ?_
     first|rw [Zdc (by omega)]|rw [ZjJ hy0 (by simpa using hb18)])
  · first
    |exact bN hb18
    | (
     refine nav ?_;(refine ζa ?_<;>refine xL 3 ζc ?_<;>refine ζd ?_)
     have h0:∀(j:Nat) z,j<1→s.data[j]? =some z→ZfS z.toNat=true:=fun j z hj hz=>by
      (obtain rfl:j=0:=by omega);rw [hy0] at hz;cases hz;unfold ZfS;rw [show ZcH y0.toNat=true by simpa using hb18];rfl
     refine ζD (ι:={k:Nat//1≤k∧k≤s.size∧∀j y,j<k→s.data[j]? =some y→ZfS y.toNat=true}) (fun k=>⟨[(0,_,_),(3, .int .i64 k.1,pInt k.1)],[]⟩) (fun k=>s.size-k.1) ⟨1,by omega,by omega,h0⟩ (fun a w H=>H.weaken ⟨rfl,rfl,trivial⟩ trivial) ?_;rintro ⟨k,hk1,hk,hp⟩;dsimp only;refine nav ?_;(refine ζa ?_<;>refine xL 19 ζb (xL 20 ζb (xL 21 (Zbe Tryz.underlying9) (xL 22 ζP ?_)))<;>refine ζd ?_)
     (first|refine cCd ?_ ?_|refine cC ?_ ?_)<;>intro hb22
     · first
       |exact bN hb22
       | (
        (have hlt:k<s.size:=by omega);obtain ⟨y,hy⟩:=ZkR (s:=s) (i:=k) (by omega);refine nav ?_;(refine ζa ?_<;>refine xL 25 ζb (xL 26 ζb (xL 27 (Zbh Tryz.underlying9) (xL 4 ζc ?_)))<;>refine ζd ?_)
        (refine ζa ?_<;>refine xL 28 ζb ?_<;>(refine cS 29 (cA Tryz.call203 (Zmf y.toNat)) fun v29 h=>?_;cases h)<;>refine xL 30 Zaw (xL 31 ζb ?_)<;>(refine bL 31 (fun hb31=>?_) (fun hb31=>?_)<;>(first|refine kL 32 ?_|refine xL 32 ζb ?_))<;>(first|refine kL 33 ?_|refine xL 33 Zcu ?_)<;>(first|refine kL 34 ?_|refine xL 34 ζb ?_)<;>(first|refine kL 35 ?_|(refine bLd 34 (fun hb34=>?_) (fun hb34=>?_)<;>(first|refine kL 35 ?_|refine xL 35 ζb ?_)))<;>(first|refine kL 36 ?_|refine xL 36 ZgA ?_)<;>(first|refine kL 37 ?_|refine xL 37 ζv ?_)<;>(first|refine kL 38 ?_|refine xL 38 Zaw ?_)<;>refine xL 39 ζv (xL 40 ζb ?_)<;>(first|refine kL 41 ?_|refine xL 41 ζb ?_|(refine bL 40 (fun hb40=>?_) (fun hb40=>?_)<;>(first|refine kL 41 ?_|refine xL 41 ζb ?_)))<;>(first|refine kL 42 ?_|refine xL 42 ZaN ?_)<;>refine xL 43 ζv (xL 44 ζb ?_)<;>(first|refine kL 45 ?_|(refine bLd 44 (fun hb44=>?_) (fun hb44=>?_)<;>(first|refine kL 45 ?_|refine xL 45 ζb ?_)))<;>(first|refine kL 46 ?_|refine xL 46 ZaN ?_)<;>refine xL 47 ζv (xL 48 ζb ?_)<;>(first|refine kL 49 ?_|(refine bLd 48 (fun hb48=>?_) (fun hb48=>?_)<;>(first|refine kL 49 ?_|refine xL 49 ζb ?_)))<;>(first|refine kL 50 ?_|refine xL 50 ZaN ?_)<;>refine xL 51 ζv ?_<;>refine ζd ?_)<;>(
         (first|refine cCd ?_ ?_|refine cC ?_ ?_)<;>intro hb51
         · first
           |exact bN hb51
           | (
            refine nav ?_;(refine ζa ?_<;>refine xL 2 ζc ?_<;>refine ζd ?_)
            refine ζp (Tryz.results151) rfl ?_;rw [ZjK hy];rw [Bool.eq_false_iff];intro hpb;simp only [ZfS,XT,Xe,decide_eq_true_eq,beq_iff_eq] at hpb;simp_all
            try omega)
         · first
           |exact bN hb51
           | (
            refine nav ?_;(refine ζa ?_<;>refine xL 23 ζb (xL 24 ζM (xL 3 ζc ?_))<;>refine ζd ?_)
            refine ζh (
             ⟨k +1,by omega,by omega,fun j z hj hz=>by
              by_cases e:j=k
              · subst e;rw [hy] at hz;cases hz;simp only [ZfS,XT,Xe,decide_eq_true_eq,beq_iff_eq];simp_all
                try omega
              · exact hp j z (by omega) hz⟩
             ) (by dsimp only;omega) ⟨rfl,rfl,trivial⟩ trivial)))
     · first
       |exact bN hb22
       | (
        refine nav ?_;(refine ζa ?_<;>refine xL 2 ζc ?_<;>refine ζd ?_)
        refine ζp (Tryz.results151) rfl ?_;rw [Zik (by omega) (by omega) hy0 (by simpa using hb18) (fun j z hj hz=>hp j z (by omega) hz)])))
theorem ZjL (a b:ByteArray):ZdY a b=ZdY b a:=by unfold ZdY;rw [Vl];simp only [beq_iff_eq];exact eq_comm
theorem Zn4 (l:List ByteArray) (s:ByteArray):AF Tryz.prog 86 [Zid l,Za3 s] (· =pInt (idx (fun x=>ZdY x s) l)):=by
 refine AF.of_body 19 Tryz.func86 rfl Tryz.ntmps86 (Xa rfl) ?_
 intro w0 M0 vs hl hv
 obtain ⟨v0,v1,rfl⟩:=ZdW hl
 obtain rfl:=hv 1 _ _ rfl rfl
 clear hl hv
 refine Zc0 0 rfl fun hlen=>?_
 refine nav ?_
 (refine ζa ?_<;>refine xL 4 ζc ?_<;>refine ζd ?_)
 (refine ζa ?_<;>refine xL 6 ζb (xL 7 (ζ9 Zme) (xL 8 ζb ?_))<;>refine ζd ?_)
 refine ζD (ι:={k:Nat//k≤l.length∧∀i y,i<k→l[i]? =some y→ZdY y s=false}) (fun k=>⟨[(0,_,_),(1,_,_),(7,_,_),(8, .int .i64 k.1,pInt k.1)],[]⟩) (fun k=>l.length-k.1) ⟨0,by omega,by omega⟩ (fun a w H=>H.weaken ⟨rfl,rfl,rfl,rfl,trivial⟩ trivial) ?_
 rintro ⟨k,hk,hp⟩
 dsimp only
 refine nav ?_
 (refine ζa ?_<;>refine xL 9 ζP ?_<;>refine ζd ?_)
 (first|refine cCd ?_ ?_|refine cC ?_ ?_)<;>intro hb9
 · first
   |exact bN hb9
   | (
    obtain ⟨x,hx⟩:=ζo (show k<l.length by omega);have e1:=Zbd (f:=Za3) hx;refine nav ?_;(refine ζa ?_<;>refine xL 10 ζb (xL 5 ζc ?_)<;>refine ζd ?_)
    (refine ζa ?_<;>refine xL 11 ζb (xL 12 ζb (xL 13 ζb (xL 14 (ζW Zme) ?_)))<;>(refine yL 15 (Zc6 ZwM) fun v15 h=>?_;cases h)<;>refine xL 16 ZbI ?_<;>refine ζd ?_)
    (first|refine cCd ?_ ?_|refine cC ?_ ?_)<;>intro hb16
    · first
      |exact bN hb16
      | (
       (replace hb16:ZdY x s=true:=by rw [ZjL];exact hb16);refine nav ?_;(refine ζa ?_<;>refine xL 17 ζb (xL 4 ζc ?_)<;>refine ζd ?_)
       refine ζp (Tryz.results86) rfl ?_;rw [ZkD hp hx hb16])
    · first
      |exact bN hb16
      | (
       (replace hb16:ZdY x s=false:=by rw [ZjL];exact hb16);refine nav ?_;(refine ζa ?_<;>refine xL 18 ζM (xL 8 ζb ?_)<;>refine ζd ?_)
       refine ζh (
        ⟨k+1,by omega,fun i y hi hy=>by
         by_cases e:i=k
         · subst e;rw [hx] at hy;cases hy;exact hb16
         · exact hp i y (by omega) hy⟩
        ) (by dsimp only;omega) ⟨rfl,rfl,rfl,rfl,trivial⟩ trivial))
 · first
   |exact bN hb9
   | (
    refine nav ?_;(refine ζa ?_<;>refine xL 4 ζc ?_<;>refine ζd ?_)
    refine ζp (Tryz.results86) rfl ?_;rw [Zpq fun i y hi hy=>hp i y (by omega) hy])
theorem ζn:NoAgg Tryz.prog 3=true:=by kernel_rfl
theorem ζx:SlT Tryz.prog 36 3 1=true:=by kernel_rfl
structure Cnt where
 name:ByteArray
 n:Int
structure Flw where
 src:ByteArray
 dst:ByteArray
 n:Int
structure Dfg where
 acts:List Cnt
 starts:List Cnt
 ends:List Cnt
 follows:List Flw
def pInts (l:List Int):PV:= .sl l.length (l.map pInt)
def Ztk (l:List (List Int)):PV:= .sl l.length (l.map pInts)
theorem Zjt (f:Nat) (caps:List PV) (p:Int→Bool) (l:List (Int)) (hc:∀args w,(callFunc f args).run Tryz.prog w= .ok (.enter f args) w) (hf:∀s∈l,AF Tryz.prog f (pInt s::caps) (· =ζ7 (p s))):AF Tryz.prog 154 [pInts l, .fn f caps] (· =pInt (idx p l)):=by
 refine AF.of_body 19 Tryz.func154 rfl Tryz.ntmps154 (Xa rfl) ?_
 intro w0 M0 vs hl hv
 obtain ⟨v0,v1,rfl⟩:=ZdW hl
 clear hl hv
 refine Zc0 0 rfl fun hlen=>?_
 refine nav ?_
 (refine ζa ?_<;>refine xL 4 ζc ?_<;>refine ζd ?_)
 (refine ζa ?_<;>refine xL 6 ζb (xL 7 (ζ9 ζx) (xL 8 ζb ?_))<;>refine ζd ?_)
 refine ζD (ι:={k:Nat//k≤l.length∧∀i y,i<k→l[i]? =some y→p y=false}) (fun k=>⟨[(0,_,_),(1,_,_),(7,_,_),(8, .int .i64 k.1,pInt k.1)],[]⟩) (fun k=>l.length-k.1) ⟨0,by omega,by omega⟩ (fun a w H=>H.weaken ⟨rfl,rfl,rfl,rfl,trivial⟩ trivial) ?_
 rintro ⟨k,hk,hp⟩
 dsimp only
 refine nav ?_
 (refine ζa ?_<;>refine xL 9 ζP ?_<;>refine ζd ?_)
 (first|refine cCd ?_ ?_|refine cC ?_ ?_)<;>intro hb9
 · first
   |exact bN hb9
   | (
    obtain ⟨x,hx⟩:=ζo (show k<l.length by omega);have e1:=Zbd (f:=pInt) hx;refine nav ?_;(refine ζa ?_<;>refine xL 10 ζb (xL 5 ζc ?_)<;>refine ζd ?_)
    (refine ζa ?_<;>refine xL 11 ζb (xL 12 ζb (xL 13 ζb (xL 14 (ζW ζx) ?_)))<;>(refine yL 15 (Zc6 ζn) fun v15 h=>?_;cases h)<;>(refine cS 16 (Zjr (f:=f) (ps:=caps) rfl ⟨_,rfl⟩ hc rfl (hf x (Xg hx))) fun v16 h=>?_;cases h)<;>refine ζd ?_)
    (first|refine cCd ?_ ?_|refine cC ?_ ?_)<;>intro hb16
    · first
      |exact bN hb16
      | (
       refine nav ?_;(refine ζa ?_<;>refine xL 17 ζb (xL 4 ζc ?_)<;>refine ζd ?_)
       refine ζp (Tryz.results154) rfl ?_;rw [ZkD hp hx hb16])
    · first
      |exact bN hb16
      | (
       refine nav ?_;(refine ζa ?_<;>refine xL 18 ζM (xL 8 ζb ?_)<;>refine ζd ?_)
       refine ζh (
        ⟨k+1,by omega,fun i y hi hy=>by
         by_cases e:i=k
         · subst e;rw [hx] at hy;cases hy;exact hb16
         · exact hp i y (by omega) hy⟩
        ) (by dsimp only;omega) ⟨rfl,rfl,rfl,rfl,trivial⟩ trivial))
 · first
   |exact bN hb9
   | (
    refine nav ?_;(refine ζa ?_<;>refine xL 4 ζc ?_<;>refine ζd ?_)
    refine ζp (Tryz.results154) rfl ?_;rw [Zpq fun i y hi hy=>hp i y (by omega) hy])
theorem ZgC (f:Nat) (caps:List PV) (p:Int→Bool) (l:List (Int)) (hc:∀args w,(callFunc f args).run Tryz.prog w= .ok (.enter f args) w) (hf:∀s∈l,AF Tryz.prog f (pInt s::caps) (· =ζ7 (p s))):AF Tryz.prog 108 [pInts l, .fn f caps] (· =ζ7 (l.any p)):=by
 refine AF.of_body 9 Tryz.func108 rfl Tryz.ntmps108 (Xa rfl) ?_
 intro w0 M0 vs hl hv
 obtain ⟨v0,v1,rfl⟩:=ZdW hl
 clear hl hv
 refine nav ?_
 (refine ζa ?_<;>refine xL 4 ζc ?_<;>refine ζd ?_)
 (refine ζa ?_<;>refine xL 5 ζb (xL 6 ζb ?_)<;>(refine cS 7 (cA Tryz.call154 (Zjt f caps p l hc hf)) fun v7 h=>?_;cases h)<;>refine xL 8 Zcu (xL 4 ζc ?_)<;>refine ζd ?_)
 refine ζp (Tryz.results108) rfl ?_
 rw [ZzM]
def ZcI:List Int→Int
 |[]=>0
 |x::l=>if x=0 then ZcI l else x
end Go.Proofs.YtgfabnhpllkebaaGreatDoor
namespace Go.En
open Go.RowKit Go.Cb
open Go.ChangeMaps (setBlock)
set_option linter.all false
def itv (r:Nat):Value:= .pointer (some ⟨r,0,none⟩)
def itP (b r clock:Nat) (es:Array MapEntry) (seen:Array Nat):PV:= .oblk (itv r) r (.mapIter (some b) clock seen clock) [(b, .map es clock)]
def itE (b r clock:Nat) (es:Array MapEntry) (seen:Array Nat):Ent:=(itv r,itP b r clock es seen)
theorem Tr.blk {M:BS} {w:World} {v u:Value} {r:Nat} {ob:Obj} {sh:List (Nat×Obj)} {F:BS} (H:Tr M w v (.oblk u r ob sh) F):w.heap[r]? =some ob∧(∀p∈sh,w.heap[p.1]? =some p.2∧¬M p.1)∧∀x,F x↔x=r:=by
 cases H with
 |shr h _=>cases h
 |oblk _ h1 h hs hF=>exact ⟨h,hs,hF⟩
section
variable {P:Program} {c:Ctx} {ops:Array Oper} {Q:Exit→Act→World→Prop} {rest:List Oper} {sL hP:List (Nat×Ent)} {o:Oper}
theorem ZwO {t ks e:Nat} {x:Operand} {m:Value} {kv:List (Value×Value)} (d:Nat) (ht:P.underlying t=some (.map ks e)) (k:∀(b r clock:Nat) (es:Array MapEntry),kv=kvOf es→WfM es clock→aL P c ops Q rest ⟨put d (itv r, .val (itv r)) sL,put d (itE b r clock es #[]) hP⟩)
 (hw:ζ2 ops sL o=some true:=by exact rfl) (hd:o.dst=some d:=by exact rfl) (hn:d<c.nt:=by exact Xa rfl) (ho:o.op= .range t x:=by exact rfl) (hx:ev sL x=some (m, .smap kv):=by exact rfl) (hl:lk hP d=none:=by exact rfl):aL P c ops Q (o::rest) (⟨sL,hP⟩:St):=
 Zav hw fun a w F H=>by
  obtain ⟨hv,hS⟩:=H.rd.ev hx
  cases hS with
  | smap b es clock hM h hW=>
    have key:HoldsF c ⟨put d (itv w.heap.size, .val (itv w.heap.size)) sL,put d (itE b w.heap.size clock es #[]) hP⟩ (fun l'=>if l'=d then (fun x=>x=w.heap.size) else F l') (a.put (some d) (itv w.heap.size)) (w.alloc (.mapIter (some b) clock #[] clock)):=by
     refine H.change (fun l'=>l'=d) hn ((Ext.alloc _ _).chg) (fun l' x hne hx'=>?_) (fun l' x b' hT hx' hb=>?_) (fun hm l' u q hT hx'=>?_) (fun l1 l2 _ _ _ h1 h2 hne=>absurd (h1.trans h2.symm) hne) (fun hm=> .val _)
     · rcases Zag hx' with ⟨e1,_⟩|⟨_,e1⟩
       · exact absurd e1.symm hne
       · exact ⟨e1,by simp [hne]⟩
     · subst hT;simp only [if_true] at hb;exact .inr (by rw [hb];exact Xb _)
     · subst hT;rw [ζ8] at hx';unfold itE itP at hx'
       cases hx';simp only [if_true];refine .oblk w.heap.size rfl ?_ (fun p hp=>?_) (fun x=>Iff.rfl)
       · show (w.heap.push _)[w.heap.size]? =_;simp
       · rw [Xi] at hp;subst hp;exact ⟨(Ext.alloc w _).block h,fun hb=>hM (hm b (ZbE h) hb)⟩
    have hrun:(execOp a.eval o).run P w= .ok (.value (itv w.heap.size)) (w.alloc (.mapIter (some b) clock #[] clock)):=by
     simp [execOp,ho,hv,Instr.range,run_underlying ht,getObj,newObj,Sem.run,h,itv]
    unfold Oper.wp;rw [hrun,Oper.upon_value,hd];exact k _ _ _ _ rfl hW _ _ ⟨_,key⟩
theorem Zz5 {x:Operand} {q:PV} {b r clock:Nat} {es:Array MapEntry} {seen:Array Nat} (l d:Nat) (hW:WfM es clock)
 (k0:leftOf es seen= #[]→aL P c ops Q rest ⟨put d (.tuple [.bool false].toArray, .tup [.val (.bool false)]) sL,hP⟩)
 (k1:∀e∈(leftOf es seen).toList,aL P c ops Q rest ⟨put d (.tuple [.bool true,e.key,e.val].toArray, .tup [.val (.bool true), .val e.key, .val e.val]) sL,put l (itE b r clock es (seen.push e.born)) hP⟩)
 (hw:ζ2 ops sL o=some true:=by exact rfl) (hd:o.dst=some d:=by exact rfl) (hn:d<c.nt:=by exact Xa rfl) (ho:o.op= .next x false:=by exact rfl) (hx:ev sL x=some (itv r,q):=by exact rfl) (hl:lk hP l=some (itE b r clock es seen):=by exact rfl):aL P c ops Q (o::rest) (⟨sL,hP⟩:St):=
 Zav hw fun a w F H=>by
  have hv:=(H.rd.ev hx).1;obtain ⟨h,hs,hF⟩:=(H.tr l _ _ hl).blk;obtain ⟨hb,hMb⟩:=hs (b, .map es clock) (by simp);dsimp only at hb hMb;rcases run_next_at (P:=P) w o.type r b clock clock seen es clock h hb (fun x hx=>hW.1 x hx) (Xb _) with ⟨h0,hr⟩|⟨e,he,w1,hw1,hr⟩
  · have hrun:(execOp a.eval o).run P w= .ok (.value (.tuple [.bool false].toArray)) w:=by
     simp [execOp,ho,hv,itv,hr]
    unfold Oper.wp;rw [hrun,Oper.upon_value,hd];refine k0 (Array.eq_empty_of_size_eq_zero h0) _ _ ⟨F,H.put hn (.tup _ _ rfl fun i x p hx hp=>?_)⟩;match i with
    |0=>simp at hx hp;subst hx hp;exact .val _
    |i+1=>simp at hx
  · have hrun:(execOp a.eval o).run P w= .ok (.value (.tuple [.bool true,e.key,e.val].toArray)) (setBlock w1 r (.mapIter (some b) clock (seen.push e.born) clock)):=by
     simp [execOp,ho,hv,itv,hr]
    unfold Oper.wp;rw [hrun,Oper.upon_value,hd];have hlt:=ZbE h;have hh:w1.heap=w.heap:=by rcases hw1 with rfl|rfl<;>rfl
    (have hbr:b≠r:=fun e=>by subst e;exact hMb (.inr ⟨l,_,hl,(hF b).2 rfl⟩));have hch:Chg (fun x=>x=r) w (setBlock w1 r (.mapIter (some b) clock (seen.push e.born) clock)):=by
     refine ⟨by rcases hw1 with rfl|rfl<;>rfl,by rcases hw1 with rfl|rfl<;>rfl,by rcases hw1 with rfl|rfl<;>rfl,?_,fun i hi hne=>?_⟩
     · show _≤(w1.heap.setIfInBounds r _).size;rw [hh];simp
     · show (w1.heap.setIfInBounds r _)[i]? =_;rw [hh,UB (fun e=>hne e.symm)]
    refine k1 e he _ _ ⟨F,H.change (fun l'=>l'=l) hn (hch.wid fun x hx=> .inl ⟨l,_,rfl,hl,(hF x).2 hx⟩) (fun l' x hne hx'=>?_) (fun l' x b' hT' hx' hb'=>?_) (fun hmm l' u q hT' hx'=>?_) (fun l1 l2 _ _ _ h1 h2 hne=>absurd (h1.trans h2.symm) hne) (fun _=> .tup _ _ rfl fun i x p hx hp=>?_) (fun _=>?_)⟩
    · rcases Zag hx' with ⟨e1,_⟩|⟨_,e1⟩
      · exact absurd e1.symm hne
      · exact ⟨e1,rfl⟩
    · subst hT';exact .inl ⟨l',_,rfl,hl,hb'⟩
    · subst hT';rw [ζ8] at hx';unfold itE itP at hx'
      cases hx';refine .oblk r rfl ?_ (fun p hp=>?_) hF
      · show (w1.heap.setIfInBounds r _)[r]? =_;rw [hh];simp [hlt]
      · rw [Xi] at hp;subst hp;exact ⟨(hch.block b (ZbE hb) hbr).trans hb,fun hm=>hMb (hmm b (ZbE hb) hm)⟩
    · match i with
      |0=>simp at hx hp;subst hx hp;exact .val _
      |1=>simp at hx hp;subst hx hp;exact .val _
      |2=>simp at hx hp;subst hx hp;exact .val _
      |i+3=>simp at hx
    · rcases hw1 with rfl|rfl
      · exact Xb _
      · exact Nat.le_succ _
theorem Zz6 {st:St} {x:Operand} {q:PV} {b r clock:Nat} {es:Array MapEntry} {seen:Array Nat} {e:MapEntry} (l:Nat) (hW:WfM es clock) (he:e∈es.toList) (ho:o.op= .entry x:=by exact rfl) (hx:ev st.slots x=some (itv r,q):=by exact rfl) (hl:lk st.heap l=some (itE b r clock es (seen.push e.born)):=by exact rfl):YE P st o (· = .tuple [e.key,e.val].toArray) (.tup [.val e.key, .val e.val]):= .exact fun M F a w H=>by
 have hv:=(H.ev hx).1
 obtain ⟨h,hs,hF⟩:=(H.tr l _ _ hl).blk
 obtain ⟨hb,hMb⟩:=hs (b, .map es clock) (by simp)
 have hr:=run_entry_at (P:=P) w r b clock seen es clock e h hb he hW.2
 refine ⟨.tup _ _ rfl fun i x p hx hp=>?_,by simp [execOp,ho,hv,itv,hr]⟩
 match i with
 |0=>simp at hx hp;subst hx hp;exact .val _
 |1=>simp at hx hp;subst hx hp;exact .val _
 |i+2=>simp at hx
end
theorem ZwP (es:Array MapEntry):leftOf es #[]=es:=by
 unfold leftOf
 exact Array.filter_eq_self.2 fun x _=>by simp
theorem ZpN {es:Array MapEntry} {seen:Array Nat} {e:MapEntry} (h:e∈(leftOf es seen).toList):e∈es.toList:=by
 unfold leftOf at h
 rw [Uq] at h
 exact (VW.1 h).1
theorem Zmg {e:MapEntry}:∀{L:List MapEntry},(L.map (·.born)).Nodup→e∈L→L.Perm (e::L.filter fun x=> !(x.born==e.born))
 | a ::L,hn,he=>by
   rw [Xu,Vs] at hn;rcases Xm.1 he with rfl|he
   · rw [List.filter_cons_of_neg (by simp)];rw [List.filter_eq_self.2 fun x hx=>?_];have:x.born≠e.born:=fun h=>hn.1 (Xo.2 ⟨x,hx,h⟩);simpa using this
   · have:a.born≠e.born:=fun h=>hn.1 (Xo.2 ⟨e,he,h.symm⟩);rw [List.filter_cons_of_pos (by simpa using this)];exact ((Zmg hn.2 he).cons a).trans (List.Perm.swap _ _ _)
theorem Zmh {es:Array MapEntry} {seen:Array Nat} {e:MapEntry} {clock:Nat} (hW:WfM es clock) (he:e∈(leftOf es seen).toList):(kvOf (leftOf es seen)).Perm ((e.key,e.val)::kvOf (leftOf es (seen.push e.born))):=by
 have h1:((leftOf es seen).toList.map (·.born)).Nodup:=by
  unfold leftOf;rw [Uq];exact hW.2.sublist (List.filter_sublist.map _)
 have h2:=(Zmg h1 he).map fun x=>(x.key,x.val)
 unfold kvOf
 refine h2.trans ?_
 rw [Xu]
 refine List.Perm.cons _ (List.Perm.of_eq ?_)
 congr 1
 unfold leftOf
 rw [Uq,Uq,List.filter_filter]
 refine List.filter_congr fun x _=>?_
 rw [Array.contains_push]
 cases seen.contains x.born<;>simp [Bool.beq_comm]
section
variable {P:Program} {st:St} {o:Oper}
end
abbrev Pr:=ByteArray×ByteArray
def prOk (k:Pr):Prop:=k.1.size≤140737488355328∧k.2.size≤140737488355328
structure PkT (P:Program) (t ks s e:Nat) (z:Value):Prop where
 ht:P.underlying t=some (.map ks e)
 hu:P.underlying ks=some (.array 2 s)
 hs:P.underlying s=some .string
 hk:P.keyType ks=true
 hk2:P.keyTypeAt 2 ks=true
 hti:P.tiled 2 ks=true
 hc2:P.cellsOf ks=2
 hc1:P.cellsOf s=1
 hf:∀a b:ByteArray,(Value.agg #[.string a, .string b]).formed P ks=true
 hsz:∃n,P.types.size=n+1
 hz:ZeroT P e z
theorem PkT.law {P:Program} {t ks s e:Nat} {z:Value} (h:PkT P t ks s e z):WideMaps.KeyLaw P ks:=deep_law (m:=2) (by decide) h.hk2 h.hti (by rw [h.hu])
section
variable {P:Program} {c:Ctx} {ops:Array Oper} {Q:Exit→Act→World→Prop} {rest:List Oper} {sL hP:List (Nat×Ent)} {o:Oper}
end
section
variable {P:Program} {c:Ctx} {ops:Array Oper} {Q:Exit→Act→World→Prop} {rest:List Oper} {sL hP:List (Nat×Ent)} {o:Oper}
end
end Go.En
namespace Go.Proofs.YtgfabnhpllkebaaGreatDoor
open Go.RowKit Go.Cb Go.En
set_option linter.all false
section
variable {κ:Type} [DecidableEq κ]
end
end Go.Proofs.YtgfabnhpllkebaaGreatDoor
namespace Go.En
open Go.RowKit Go.Cb
theorem AFg.exact2 {P:Program} {g:Nat} {p q:PV} {x:Value} (h:AFg P g [p,q] (· = .val x)) {M:BS} {W:World} {u v:Value} (hu:Shr M W u p) (hv:Shr M W v q):
 Calls P g #[u,v] W fun e w'=>e= .returned x∧∃q os',w'=Go.Sort.grow (W.drewN q) os':=h.exact (vs:=[u,v]) rfl fun i a r h1 h2=>by
 match i with
 |0=>simp at h1 h2;subst h1 h2;exact hu
 |1=>simp at h1 h2;subst h1 h2;exact hv
 |i+2=>simp at h1
end Go.En
namespace Go.Proofs.YtgfabnhpllkebaaGreatDoor
open Go.RowKit Go.Cb Go.En
set_option linter.all false
set_option maxRecDepth 100000
theorem Zz7 (l:List Int):AFg Tryz.prog 204 [pInts l] (· =pInt (ZcI l)):=by
 refine AFg.of_body 18 Tryz.func204 rfl Tryz.ntmps204 (Xa rfl) ?_
 intro w0 M0 vs hl hv
 obtain ⟨v0,rfl⟩:=ZcP hl
 clear hl hv
 refine Zc0 0 rfl fun hlen=>?_
 refine nav ?_
 (refine ζa ?_<;>refine xL 2 ζc ?_<;>refine ζd ?_)
 (refine ζa ?_<;>refine xL 3 ζc ?_<;>refine ζd ?_)
 (refine ζa ?_<;>refine xL 6 ζb (xL 7 (ζ9 ζx) (xL 8 ζb ?_))<;>refine ζd ?_)
 refine ζD (ι:={k:Nat//k≤l.length∧ZcI l=ZcI (l.drop k)}) (fun k=>⟨[(3,_,_),(6,_,_),(7,_,_),(8, .int .i64 k.1,pInt k.1)],[]⟩) (fun k=>l.length-k.1) ⟨0,by omega,rfl⟩ (fun a w H=>H.weaken ⟨rfl,rfl,rfl,rfl,trivial⟩ trivial) ?_
 rintro ⟨k,hk,hp⟩
 dsimp only
 refine nav ?_
 (refine ζa ?_<;>refine xL 9 ζP ?_<;>refine ζd ?_)
 (first|refine cCd ?_ ?_|refine cC ?_ ?_)<;>intro hb9
 · first
   |exact bN hb9
   | (
    obtain ⟨x,hx⟩:=ζo (show k<l.length by omega);have e1:=Zbd (f:=pInt) hx;(have hs:ZcI (l.drop k)=if x=0 then ZcI (l.drop (k+1)) else x:=by rw [ZzY hx,ZcI]);refine nav ?_;(refine ζa ?_<;>refine xL 10 (ζW ζx) ?_<;>(refine yL 11 (Zc6 ζn) fun v11 h=>?_;cases h)<;>refine xL 5 ζc ?_<;>refine ζd ?_)
    (refine ζa ?_<;>refine xL 12 ζb (xL 13 ζb (xL 14 ZaN ?_))<;>refine ζd ?_)
    (first|refine cCd ?_ ?_|refine cC ?_ ?_)<;>intro hb14
    · first
      |exact bN hb14
      | (
       refine nav ?_;(refine ζa ?_<;>refine xL 15 ζb (xL 2 ζc ?_)<;>refine ζd ?_)
       refine ζp (Tryz.results204) rfl ?_;rw [hp,hs,if_neg hb14])
    · first
      |exact bN hb14
      | (
       refine nav ?_;(refine ζa ?_<;>refine xL 16 ζM (xL 8 ζb ?_)<;>refine ζd ?_)
       refine ζh (
        ⟨k+1,by omega,by rw [hp,hs,if_pos (by simpa using hb14)]⟩
        ) (by dsimp only;omega) ⟨rfl,rfl,rfl,rfl,trivial⟩ trivial))
 · first
   |exact bN hb9
   | (
    refine nav ?_;(refine ζa ?_<;>refine xL 17 ζb (xL 2 ζc ?_)<;>refine ζd ?_)
    refine ζp (Tryz.results204) rfl ?_;rw [hp,Vo (by omega)];rfl)
structure M4 where
 a:List (ByteArray×Int)
 s:List (ByteArray×Int)
 f:List (ByteArray×Int)
 q:List (Pr×Int)
section
variable {κ:Type} [DecidableEq κ]
structure MOk (m:List (κ×Int)) (b:Nat):Prop where
 nd:(m.map (·.1)).Nodup
 len:m.length≤b
 bd:∀x∈m,0≤x.2∧x.2≤b*1048576
end
structure KOk (st:M4) (b:Nat):Prop where
 a:MOk st.a b
 s:MOk st.s b
 f:MOk st.f b
 q:MOk st.q b
 k:∀x∈st.q,prOk x.1
end Go.Proofs.YtgfabnhpllkebaaGreatDoor
namespace Go.En
open Go.RowKit Go.Cb
end Go.En
namespace Go.Proofs.YtgfabnhpllkebaaGreatDoor
open Go.RowKit Go.Cb Go.En
set_option linter.all false
set_option maxRecDepth 100000
end Go.Proofs.YtgfabnhpllkebaaGreatDoor
namespace Go.En
open Go.RowKit Go.Cb
set_option linter.all false
def Zrt (c:Ctx) (R:Value→PV→List (Nat×Ent)→Prop) (e:Ending) (w':World):Prop:=∃v p h F,e= .returned v∧R v p h∧HeapF c h F w'∧Shr (mof c h F) w' v p
def AFh (dd:Prop) (P:Program) (f:FuncId) (ar h:List (Nat×Ent)) (R:Value→PV→List (Nat×Ent)→Prop):Prop:=
 ∀(M N:BS) (w:World) (F:Nat→BS),HeapF ⟨w,M,N,0,dd,[]⟩ h F w→(∀i x,lk ar i=some x→Shr (mof ⟨w,M,N,0,dd,[]⟩ h F) w x.1 x.2)→Calls P f (ar.map (·.2.1)).toArray w (Zrt ⟨w,M,N,0,dd,[]⟩ R)
theorem HeapF.nt {c c':Ctx} {h:List (Nat×Ent)} {F:Nat→BS} {w:World} (H:HeapF c h F w) (h0:c'.w0=c.w0) (h1:c'.M0=c.M0) (h2:c'.N0=c.N0) (h3:c'.dr→c.dr) (hm:M0k c'.w0 c'.M0 c'.N0 c'.dr):HeapF c' h F w:=by
 obtain ⟨w0,M0,N0,nt,dr,df⟩:=c
 obtain ⟨w0',M0',N0',nt',dr'⟩:=c'
 simp only at h0 h1 h2 h3
 subst h0 h1 h2
 exact ⟨H.tr,H.lo,H.dj,hm,H.ext,fun h=>H.dw (h3 h)⟩
def Zca:Nat→List (Nat×Ent)→Bool
 |_,[]=>true
 |i,(j,_)::l=>Nat.beq i j&&Zca (i+1) l
theorem ZgD:∀(l:List (Nat×Ent)) (i t:Nat) (x:Ent),Zca i l=true→lk l t=some x→i≤t∧(l.map (·.2.1))[t-i]? =some x.1
 |[],_,_,_,_,h=>by simp [lk] at h
 | (j,y)::l,i,t,x,ho,h=>by
   simp only [Zca,Xe] at ho;obtain ⟨h1,h2⟩:=ho;have h1:=XR h1;subst h1;simp only [lk] at h
   cases hb:Nat.beq i t
   · rw [hb] at h;obtain ⟨h3,h4⟩:=ZgD l (i+1) t x h2 h;(have:t-i=(t-(i+1))+1:=by omega);exact ⟨by omega,by rw [this];simpa using h4⟩
   · rw [hb] at h;have:i=t:=XR hb;subst this
     cases h;simp
theorem Zd2:∀(l:List (Nat×Ent)) (i t:Nat) (x:Ent),Zca i l=true→lk l t=some x→i≤t∧(l[t-i]?).map (·.2)=some x
 |[],_,_,_,_,h=>by simp [lk] at h
 | (j,y)::l,i,t,x,ho,h=>by
   simp only [Zca,Xe] at ho;obtain ⟨h1,h2⟩:=ho;have h1:=XR h1;subst h1;simp only [lk] at h
   cases hb:Nat.beq i t
   · rw [hb] at h;obtain ⟨h3,h4⟩:=Zd2 l (i+1) t x h2 h;(have:t-i=(t-(i+1))+1:=by omega);exact ⟨by omega,by rw [this];simpa using h4⟩
   · rw [hb] at h;have:i=t:=XR hb;subst this
     cases h;simp
section
variable {P:Program}
theorem AFh.of_body {dd:Prop} {f:FuncId} {fn:Func} {code:Code} {ar h:List (Nat×Ent)} {R:Value→PV→List (Nat×Ent)→Prop} (nt:Nat) (hf:P.funcs[f]? =some fn) (hb:fn.body=some code) (hnt:fn.ntmps=nt) (hn:ar.length≤nt) (ho:Zca 0 ar=true)
 (H:∀(w0:World) (M0 N0:BS),aC P ⟨w0,M0,N0,nt,dd,[]⟩ code (bodyPost P fn (Zrt ⟨w0,M0,N0,nt,dd,[]⟩ R)) ⟨ar,h⟩):AFh dd P f ar h R:=fun M N w F HF hv=>by
 subst hnt
 refine calls_of_wp hf hb ?_
 refine wp_mono (H w M N _ w ⟨F,⟨HF.nt rfl rfl rfl id HF.m0,fun t v p ht=>?_,?_,rfl⟩⟩) fun e a w' hq=>?_
 · obtain ⟨_,h1⟩:=ZgD ar 0 t (v,p) ho ht;refine ⟨?_,hv t (v,p) ht⟩;simp only [Vg] at h1;have:=ζi h1;rw [Vh (by simpa using this)];simpa using h1
 · simp;omega
 · have key:∀e w',Zrt ⟨w,M,N,fn.ntmps,dd,[]⟩ R e w'→Zrt ⟨w,M,N,0,dd,[]⟩ R e w':=fun _ _ ⟨v',p,h',F',h3,h4,h5,h6⟩=>⟨v',p,h',F',h3,h4,h5.nt rfl rfl rfl id h5.m0,h6⟩
   cases e with
   |ret=>obtain ⟨h1,v,h2,h3⟩:=hq;exact ⟨h1,v,h2,key _ _ h3⟩
   |normal=>obtain ⟨h1,v,h2,h3⟩:=hq;exact ⟨h1,v,h2,key _ _ h3⟩
   |panic ch=>obtain ⟨h1,h3⟩:=hq;exact ⟨h1,key _ _ h3⟩
   |outgrown=>exact key _ _ hq
   |_=>exact hq.elim
end
section
variable {P:Program} {c:Ctx} {ops:Array Oper} {Q:Exit→Act→World→Prop} {rest:List Oper} {sL hP:List (Nat×Ent)} {o:Oper}
theorem ZfE {fn:Func} {R:Value→PV→List (Nat×Ent)→Prop} {t:Nat} {v:Value} {p:PV} (h:List (Nat×Ent)) (hr:fn.results= #[.tmp t]) (ht:lk sL t=some (v,p)) (hs:Sub h hP) (hR:R v p h) (hdf:c.df=[]:=by exact rfl):aR c (bodyPost P fn (Zrt c R)) (⟨sL,hP⟩:St):=fun a w ⟨F,H0⟩=>by
 have H:HoldsF c (⟨sL,h⟩:St) F a w:=H0.less (fun _ _ h=>h) fun t x hx=>hs.lk hx
 obtain ⟨h1,h2⟩:=H.sl t v p ht
 refine ⟨H.df.trans hdf,v,?_,v,p,h,F,rfl,hR,H.toHeapF,h2⟩
 simp [results,hr,X0,h1]
theorem ZfX {fn:Func} {R:Value→PV→List (Nat×Ent)→Prop} (h:List (Nat×Ent)) (hr:fn.results= #[]) (hs:Sub h hP) (hR:R (.tuple #[]) (.val (.tuple #[])) h) (hdf:c.df=[]:=by exact rfl):aR c (bodyPost P fn (Zrt c R)) (⟨sL,hP⟩:St):=fun a w ⟨F,H0⟩=>by
 have H:HoldsF c (⟨sL,h⟩:St) F a w:=H0.less (fun _ _ h=>h) fun t x hx=>hs.lk hx
 refine ⟨H.df.trans hdf, .tuple #[],?_, .tuple #[], .val (.tuple #[]),h,F,rfl,hR,H.toHeapF, .val _⟩
 simp [results,hr]
theorem ZbT {fn:Func} {R:Value→PV→List (Nat×Ent)→Prop} (h:List (Nat×Ent)) (hr:fn.results= #[]) (hs:Sub h hP) (hR:R (.tuple #[]) (.val (.tuple #[])) h) (hdf:c.df=[]:=by exact rfl):aN c (bodyPost P fn (Zrt c R)) (⟨sL,hP⟩:St):=ZfX h hr hs hR hdf
theorem Zy2 {dd:Prop} {f:Nat} {ar:List (Nat×Ent)} {R:Value→PV→List (Nat×Ent)→Prop} (K:List Nat) (d:Nat) (hw:ζ2 ops sL o=some true) (hd:o.dst=some d) (hn:d<c.nt)
 (hE:∀a w F,HoldsF c (⟨sL,hP⟩:St) F a w→(execOp a.eval o).run P w= .ok (.enter f (ar.map (·.2.1)).toArray) w∧∀(i:Nat) (x:Value) (q:PV),((ar.map (·.2)).map (·.1))[i]? =some x→((ar.map (·.2)).map (·.2))[i]? =some q→Shr (mof c hP F) w x q)
 (hA:AFh dd P f ar (Zbv K hP) R) (hio:Zca 0 ar=true) (hdd:c.dr→dd)
 (k:∀v p h,R v p h→aL P c ops Q rest ⟨put d (v,p) sL,h++ZaP K hP⟩):aL P c ops Q (o::rest) (⟨sL,hP⟩:St):=
 Zav hw fun a w F H=>by
  obtain ⟨hr,h2⟩:=hE a w F H;have hfr:=H.frame K;have hin:∀b,mof ⟨w,fun b=>c.M0 b∨∃l x,K.elem l=true∧lk hP l=some x∧F l b,nK K hP F,c.nt,c.dr,c.df⟩ (Zbv K hP) F b→mof c hP F b:=by
   rintro b ((h|⟨l,x,_,h1,h2⟩)|⟨l,x,h1,h2⟩)
   · exact .inl h
   · exact .inr ⟨l,x,h1,h2⟩
   · exact .inr ⟨l,x,(ZbA.1 h1).2,h2⟩
  have hcall:=hA (fun b=>c.M0 b∨∃l x,K.elem l=true∧lk hP l=some x∧F l b) (nK K hP F) w F
   ⟨hfr.tr,hfr.lo,hfr.dj,hfr.m0.up hdd,hfr.ext,fun _=>Xb _⟩
   (fun i x hi=>by
     obtain ⟨_,h3⟩:=Zd2 ar 0 i x hio hi;rw [Vg] at h3;exact (h2 i x.1 x.2 (by rw [Xl,Xl,h3];rfl) (by rw [Xl,Xl,h3];rfl)).anti fun b _ hb=>hin b hb)
  unfold Oper.wp;rw [hr,Oper.upon_enter];refine hcall.mono fun e w' ⟨v,p,h,F',e1,e2,e3,e4⟩=>?_;subst e1;have hch:Chg (nK K hP F) w w':=e3.ext;have hlow:∀b,b<w.heap.size→mof ⟨w,fun b=>c.M0 b∨∃l x,K.elem l=true∧lk hP l=some x∧F l b,nK K hP F,0,dd,[]⟩ h F' b→mof c hP F b:=by
   rintro b hlt ((h1|⟨l,x,_,h1,h2⟩)|⟨l,x,h1,h2⟩)
   · exact .inl h1
   · exact .inr ⟨l,x,h1,h2⟩
   · rcases e3.lo l x b h1 h2 with h3|⟨l',x',_,h3,h4⟩
     · exact absurd hlt (by simp only at h3;omega)
     · exact .inr ⟨l',x',h3,h4⟩
  have H':HoldsF ⟨w,fun b=>c.M0 b∨∃l x,K.elem l=true∧lk hP l=some x∧F l b,nK K hP F,c.nt,c.dr,c.df⟩ (⟨put d (v,p) sL,h⟩:St) F' (a.put o.dst v) w':=by
   refine ⟨e3.nt rfl rfl rfl hdd hfr.m0,fun t u q ht=>?_,by rw [hd];simpa [Act.put] using H.size,by rw [hd];exact H.df⟩;rw [hd];rcases Zag ht with ⟨rfl,e⟩|⟨hne,e⟩
   · cases e;refine ⟨?_,e4⟩;simp [Act.put,H.size,hn]
   · obtain ⟨h3,h4⟩:=H.sl t u q e;refine ⟨?_,h4.to hch (fun b _ ⟨l,x,_,h5,h6⟩=> .inr ⟨l,x,h5,h6⟩) (fun b hlt hb=>hlow b hlt hb)⟩;simpa [Act.put,Ur,hne] using h3
  obtain ⟨H2,_,_⟩:=H.unframe H';exact k v p h e2 _ _ ⟨_,H2⟩
theorem Zaa {dd:Prop} {f:Nat} {ar h0:List (Nat×Ent)} {R:Value→PV→List (Nat×Ent)→Prop} {xs:Array Operand} {ats:Array TypeId} (K:List Nat) (d:Nat) (hc:∀args w,(callFunc f args).run P w= .ok (.enter f args) w) (hA:AFh dd P f ar h0 R)
 (k:∀v p h,R v p h→aL P c ops Q rest ⟨put d (v,p) sL,h++ZaP K hP⟩) (hw:ζ2 ops sL o=some true:=by exact rfl) (hd:o.dst=some d:=by exact rfl) (hn:d<c.nt:=by exact Xa rfl)
 (ho:o.op= .call {callee:= .value (.func f),args:=xs,argTypes:=ats}:=by exact rfl) (hx:evL sL xs.toList=some (ar.map (·.2)):=by exact rfl) (hh0:h0=Zbv K hP:=by exact rfl) (hio:Zca 0 ar=true:=by exact rfl) (hdd:c.dr→dd:=by first|exact id|exact fun h=>h.elim|exact fun _=>trivial):aL P c ops Q (o::rest) (⟨sL,hP⟩:St):=by
 subst hh0
 refine Zy2 K d hw hd hn (fun a w F H=>?_) hA hio hdd k
 obtain ⟨h1,h2⟩:=Zb6 H.rd hx
 refine ⟨?_,h2⟩
 have hargs:xs.map a.eval=(ar.map (·.2.1)).toArray:=by
  rw [show ar.map (·.2.1)=(ar.map (·.2)).map (·.1) by rw [XN];rfl,←h1,←Vr,Vq]
 simp [execOp,ho,resolve,Act.eval,Deferred.ofValue,invoke,hargs,hc]
theorem Zy3 {dd:Prop} {f:Nat} {es:List Ent} {us:List Value} {h0:List (Nat×Ent)} {ar:List (Nat×Ent)} {R:Value→PV→List (Nat×Ent)→Prop} {x:Operand} {q:PV} {xs:Array Operand} {ats:Array TypeId} (K:List Nat) (d:Nat) (hc:∀args w,(callFunc f args).run P w= .ok (.enter f args) w) (hA:AFh dd P f ar h0 R)
 (k:∀v p h,R v p h→aL P c ops Q rest ⟨put d (v,p) sL,h++ZaP K hP⟩) (hw:ζ2 ops sL o=some true:=by exact rfl) (hd:o.dst=some d:=by exact rfl) (hn:d<c.nt:=by exact Xa rfl)
 (ho:o.op= .call {callee:= .value x,args:=xs,argTypes:=ats}:=by exact rfl) (hf:ev sL x=some (.func (.func f) #[] us.toArray,q):=by exact rfl) (hx:evL sL xs.toList=some es:=by exact rfl) (har:ar.map (·.2)=es++us.map (fun u=>(u, .val u)):=by exact rfl) (hh0:h0=Zbv K hP:=by exact rfl) (hio:Zca 0 ar=true:=by exact rfl) (hdd:c.dr→dd:=by first|exact id|exact fun h=>h.elim|exact fun _=>trivial):aL P c ops Q (o::rest) (⟨sL,hP⟩:St):=by
 subst hh0
 refine Zy2 K d hw hd hn (fun a w F H=>?_) hA hio hdd k
 obtain ⟨h1,h2⟩:=Zb6 H.rd hx
 have h3:=(H.rd.ev hf).1
 have e1:ar.map (·.2.1)=es.map (·.1)++us:=by
  rw [show ar.map (·.2.1)=(ar.map (·.2)).map (·.1) by rw [XN];rfl,har,XC,XN];congr 1;exact List.map_id' us
 refine ⟨?_,fun i x q hi hq=>?_⟩
 · have:xs.map a.eval=(es.map (·.1)).toArray:=by rw [←h1,←Vr,Vq]
   rw [e1];simp [execOp,ho,resolve,h3,Deferred.ofValue,invoke,this,hc]
 · rw [har] at hi hq;rw [XC] at hi hq;rcases Xq i es.length with hlt|hge
   · rw [X2 (by simpa using hlt)] at hi hq;exact h2 i x q hi hq
   · rw [Vp (by simpa using hge)] at hi hq;simp only [Xh,XN,Xl,XH,Function.comp] at hi hq;obtain ⟨u,hu,rfl⟩:=hi;obtain ⟨u',hu',rfl⟩:=hq;rw [hu] at hu'
     cases hu';exact .val _
theorem Zil {l e k n g cap:Nat} {h:Value} {a:Act} (hh:h= .slice (some ⟨g,0,none⟩) n cap) (zs:List Value) (h1:zs.all Value.oneCell'=true):
 ∀ (m i j:Nat) (cs:List PV) (w:World) (F:Nat→BS) (hp:List (Nat×Ent)),HoldsF c ⟨sL,hp⟩ F a w→lk hp l=some (h, .own e k n cs)→i+m=zs.length→j+i+m≤cs.length→
  ∃w' F' hp',(storeCells ⟨g,j,none⟩ (zs.drop i) i).run P w= .ok () w'∧HoldsF c ⟨sL,hp'⟩ F' a w'∧lk hp' l=some (h, .own e k n (Zhu cs (j+i) ((zs.drop i).map PV.val)))∧∀l',l'≠l→lk hp' l'=lk hp l'
 | 0,i,j,cs,w,F,hp,H,hl,hi,hj=>by
   refine ⟨w,F,hp,?_,H,?_,fun _ _=>rfl⟩
   · rw [Vo (by omega)];rfl
   · rw [Vo (by omega:zs.length≤i)];exact hl
 | m +1,i,j,cs,w,F,hp,H,hl,hi,hj=>by
   have hi':i<zs.length:=by omega
   obtain ⟨v,hv⟩:=Zaj hi';have hv1:v.oneCell'=true:=Xy.1 h1 v (Xg hv);obtain ⟨F1,H1⟩:=Zh8 H hl hh (show j+i<cs.length by omega) (Shr.val v);obtain ⟨w',F',hp2,hr,H2,hl2,hsame⟩:=Zil hh zs h1 m (i+1) j (cs.set (j+i) (.val v)) _ F1 _ H1 (ζ8 _ _ _) (by omega) (by simp;omega);refine ⟨w',F',hp2,?_,H2,?_,fun l' hne=>by rw [hsame l' hne,Za5 (Ne.symm hne)]⟩
   · obtain ⟨xs,Fs,hrow,hlen,_⟩:=(H.tr l _ _ hl).row;subst hh;obtain ⟨z,hz⟩:=Zaj (show j+i<xs.length by omega);have hcell:=Zbu hrow hz;have hfr:=hrow.frozenAt (j+i);rw [Ve (ζi hv),show zs[i]'(ζi hv)=v from (XF.1 hv).2,storeCells];simp only [Sem.run_bind,run_store _ _ _ _ _ hv1,ZaY,hcell,hfr,VA,if_false,Result.andThen_ok];exact hr
   · rw [hl2,Ve hi',show zs[i]'hi'=v from (XF.1 hv).2,Xu,Zhu,X9]
theorem Zmi:∀(ps cs:List PV) (j:Nat),(Zhu cs j ps).take j=cs.take j
 |[],_,_=>rfl
 | p::ps,cs,j=>by
   rw [Zhu];have h:=Zmi ps (cs.set j p) (j+1);have h2:=congrArg (List.take j) h;rw [List.take_take,List.take_take,XV (Nat.le_succ j)] at h2;rw [h2,Ul (Xb j)]
theorem Ztl {z:Value} (h:z.cells.toList.all Value.oneCell'=true) (m:Nat):(Builtin.zeroCells z.cells m).toList.all Value.oneCell'=true:=by
 rw [Xy]
 intro v hv
 unfold Builtin.zeroCells at hv
 rw [Vr,Xo] at hv
 obtain ⟨i,_,rfl⟩:=hv
 rw [getElem!_def]
 cases hc:z.cells[i % z.cells.size]? with
 |none=>rfl
 |some u=>exact Xy.1 h u (by rw [←Array.getElem?_toList] at hc;exact Xg hc)
theorem ZpO {t e kk bytes n i:Nat} {z:Value} {x:Operand} {h:Value} {q:PV} {cs:List PV} (l:Nat) (hT:ElT P t e kk bytes z) (hz0:z.cells.toList.all Value.oneCell'=true) (hw:ζ2 ops sL o=some true) (hd:o.dst=none)
 (ho:o.op= .call {callee:= .builtin .clear,args:= #[x],argTypes:= #[t]}) (hx:ev sL x=some (slc h i n kk,q)) (hl:lk hP l=some (h, .own e kk n cs)) (hi:i≤n)
 (k:∀cs',cs'.length=cs.length→cs'.take (i*kk)=cs.take (i*kk)→aL P c ops Q rest ⟨sL,put l (h, .own e kk n cs') hP⟩):aL P c ops Q (o::rest) (⟨sL,hP⟩:St):=
 Zav hw fun a w F H=>by
  have hxv:=(H.rd.ev hx).1;obtain ⟨xs,Fs,hrow,hlen,_⟩:=(H.tr l _ _ hl).row;obtain ⟨inf,hi1,hi2,hi3,hi4⟩:=hT.info;have hback:Holds c ⟨sL,put l (h, .own e kk n cs) hP⟩ a w:=⟨F,H.less (fun _ _ h=>h) fun t x hx=>by
   rcases Zag hx with ⟨rfl,rfl⟩|⟨hne,e1⟩
   · exact hl
   · exact e1⟩
  rcases ZaD hrow with ⟨rfl,rfl,rfl⟩|⟨g,cap,rfl,hc1,hc2,hc3⟩
  · (have hi0:i=0:=by omega);subst hi0;unfold Oper.wp execOp;simp [ho,hxv,resolve,invoke,builtin,Builtin.clear_,slc,run_underlying hT.ht,Oper.upon,hd,Act.put];exact k cs rfl rfl _ _ hback
  · rcases Xq i n with hlt|hge
    · (have hlen':cs.length=n*kk:=by rw [hlen,hrow.1]);(have hzs:(Builtin.zeroCells z.cells (n-i)).toList.length=(n-i)*kk:=by rw [X3,size_zeroCells,hT.hz]);(have hmul:i*kk+(n-i)*kk=n*kk:=by rw [←Vi];congr 1;omega);obtain ⟨w',F',hp',hr,H',hl',hsame⟩:=Zil (P:=P) rfl (Builtin.zeroCells z.cells (n-i)).toList (Ztl hz0 _) _ 0 (i*kk) cs w F hP H hl (Xx _) (by omega);simp only [Vv,Vd] at hr hl';(have hcap:cap≠i:=by omega);obtain ⟨m,hm⟩:∃m,n-i=m+1:=⟨n-i-1,by omega⟩;simp only [slc,hcap,if_false,Uc,ZaY,Xx,hm] at hxv;rw [hm] at hr hl';unfold Oper.wp execOp;simp [ho,hxv,resolve,invoke,builtin,Builtin.clear_,run_underlying hT.ht,zeroValue,typeInfo,hi1,hi2,hr,Oper.upon,hd,Act.put];refine k (Zhu cs (i*kk) ((Builtin.zeroCells z.cells (m+1)).toList.map PV.val)) (ZeV _ _ _) (Zmi _ _ _) _ _ ⟨F',H'.less (fun _ _ h=>h) fun t x hx=>?_⟩;rcases Zag hx with ⟨rfl,rfl⟩|⟨hne,e1⟩
      · exact hl'
      · show lk hp' t=_;rw [hsame t (Ne.symm hne)];exact e1
    · (have hin:i=n:=by omega);subst hin;by_cases hca:cap=i
      all_goals
       unfold Oper.wp execOp;simp [ho,hxv,resolve,invoke,builtin,Builtin.clear_,slc,hca,run_underlying hT.ht,Oper.upon,hd,Act.put];exact k cs rfl rfl _ _ hback
theorem Ztm {t e k r n:Nat} {x y:Operand} {v:Value} {q:PV} {cs:List PV} {st:St} (hT:SlT P t e k=true) (ho:o.op= .binOp .eql t x y r:=by exact rfl) (hx:ev st.slots x=some (v, .sl n cs):=by exact rfl) (hy:ev st.slots y=some (.slice none 0 0,q):=by exact rfl):
 YE P st o (fun u=>u= .bool false∨(u= .bool true∧n=0)) (.val (.bool (match v with| .slice a _ _=>a.isNone|_=>false))):=fun M F a w H=>by
 obtain ⟨hv,hS⟩:=H.ev hx
 have hyv:=(H.ev hy).1
 cases hS with
 | emp ad cp hc ha=>
   refine ⟨.bool ad.isNone,?_, .val _,fun N W _ _ _=>?_⟩
   · cases ad with
     |none=>exact .inr ⟨rfl,rfl⟩
     |some _=>exact .inl rfl
   · simp [execOp,ho,hv,hyv,eqGuard,Go.Lib.run_eql_slice_nil W t e ad _ _ 0 0 (SlT.und hT)]
 | sl b off n cp cs vs hn hc hcell hT'=>
   refine ⟨.bool false, .inl rfl, .val _,fun N W _ _ _=>?_⟩;simp [execOp,ho,hv,hyv,eqGuard,Go.Lib.run_eql_slice_nil W t e (some ⟨b,off,none⟩) _ _ 0 0 (SlT.und hT)]
theorem ζ3 {l:List Oper} (h:List (Nat×Ent)) (hs:Sub h hP) (k:aL P c ops Q l ⟨sL,h⟩):aL P c ops Q l (⟨sL,hP⟩:St):=fun a w ⟨F,H⟩=>k a w ⟨F,H.less (fun _ _ h=>h) fun t x hx=>hs.lk hx⟩
def ZpP (P:Program) (fs:Nat):Prop:=∀(p:Option Addr) (cap:Nat) (w:World),Calls P fs #[.slice p 0 cap] w fun e w'=>e= .returned (.tuple #[])∧w'=w
theorem ZpQ {fs e kk d:Nat} {h:Value} {q:PV} {cs:List PV} {x:Operand} {ats:Array TypeId} (l:Nat) (hS:ZpP P fs) (hc:∀args w,(callFunc fs args).run P w= .ok (.enter fs args) w)
 (k:aL P c ops Q rest ⟨put d (.tuple #[], .val (.tuple #[])) sL,hP⟩)
 (hw:ζ2 ops sL o=some true:=by exact rfl) (hd:o.dst=some d:=by exact rfl) (hdn:d<c.nt:=by exact Xa rfl) (ho:o.op= .call {callee:= .value (.func fs),args:= #[x],argTypes:=ats}:=by exact rfl) (hx:ev sL x=some (h,q):=by exact rfl) (hl:lk hP l=some (h, .own e kk 0 cs):=by exact rfl):aL P c ops Q (o::rest) (⟨sL,hP⟩:St):=
 Zav hw fun a w F H=>by
  have hxv:=(H.rd.ev hx).1;obtain ⟨xs,Fs,hrow,_⟩:=(H.tr l _ _ hl).row;have hh:∃p cap,h= .slice p 0 cap:=by
   rcases ZaD hrow with ⟨h1,_,_⟩|⟨g,cap,h1,_⟩
   · exact ⟨_,_,h1⟩
   · exact ⟨_,_,h1⟩
  obtain ⟨p,cap,rfl⟩:=hh;unfold Oper.wp;have hr:(execOp a.eval o).run P w= .ok (.enter fs #[.slice p 0 cap]) w:=by
   simp [execOp,ho,resolve,Act.eval,Deferred.ofValue,invoke,hc] at hxv ⊢;simp [hxv]
  rw [hr,Oper.upon_enter];refine (hS p cap w).mono fun e w' ⟨e1,e2⟩=>?_;subst e1 e2;rw [hd];exact k _ _ ⟨F,H.put hdn (.val _)⟩
end
end Go.En
namespace Go.Proofs.YtgfabnhpllkebaaGreatDoor
open Go.RowKit Go.Cb Go.En
set_option linter.all false
set_option maxRecDepth 100000
theorem Ztn {α:Type}:∀(ps:List PV) (a b c:List PV) (j:Nat),a.length=j→b.length=ps.length→Zhu (a++b++c) j ps=a++ps++c
 | [],a,b,c,j,ha,hb=>by
   have:b=[]:=XP hb;subst this;rfl
 | p ::ps,a,x::b,c,j,ha,hb=>by
   rw [Zhu];have h1:(a++(x::b)++c).set j p=(a++[p])++b++c:=by
    subst ha;rw [Xw,Us _ _ (Xb _),VB];simp
   rw [h1,Ztn (α:=α) ps (a++[p]) b c (j+1) (by simp [ha]) (by simpa using hb)];simp
theorem ζT:AggT Tryz.prog 93 3=true:=by kernel_rfl
theorem ζz:ElT Tryz.prog 36 3 1 8 (.int .i64 0):=⟨Tryz.underlying36,by kernel_rfl,rfl,by decide⟩
theorem ζX:FldT Tryz.prog 39 0 0=true:=by kernel_rfl
theorem Zam:FldT Tryz.prog 39 1 1=true:=by kernel_rfl
theorem Zan:FldT Tryz.prog 39 2 2=true:=by kernel_rfl
theorem Zab:FldT Tryz.prog 39 3 3=true:=by kernel_rfl
theorem ζw:FldT Tryz.prog 39 4 4=true:=by kernel_rfl
theorem Zaz:FldT Tryz.prog 93 0 0=true:=by kernel_rfl
theorem ZaR:FldT Tryz.prog 93 1 1=true:=by kernel_rfl
theorem ZaA:FldT Tryz.prog 93 2 2=true:=by kernel_rfl
theorem ζH:NoAgg Tryz.prog 36=true:=by kernel_rfl
theorem ζF:NoAgg Tryz.prog 37=true:=by kernel_rfl
theorem ζG:SlT Tryz.prog 37 93 3=true:=by kernel_rfl
theorem Zc1:ZeroT Tryz.prog 93 (.agg #[(.int .i64 0),(.int .i64 0),(.int .i64 0)]):=by unfold ZeroT;kernel_rfl
structure Mv where
 src:Int
 dst:Int
 sym:Int
structure Aut where
 n:Int
 syms:Int
 start:List Int
 fin:List Int
 moves:List Mv
def cMv (m:Mv):List PV:=[pInt m.src,pInt m.dst,pInt m.sym]
theorem ζ0 (m:Mv):(cMv m).length=3:=rfl
theorem Zto (L:List Mv):(L.flatMap cMv).all En.one=true:=by rw [List.all_flatMap,Xy];intro x _;rfl
def pMvs (l:List Mv):PV:= .sl l.length (l.flatMap cMv)
def Zap (a:Aut):PV:= .agg [pInt a.n,pInt a.syms,pInts a.start,pInts a.fin,pMvs a.moves]
def Zmj (a b:Int):Int:=if a<b then-1 else if b<a then 1 else 0
def Zfs (a b:Mv):Int:=ZcI [Zmj a.src b.src,Zmj a.sym b.sym,Zmj a.dst b.dst]
def ltI (a b:Int):Bool:=decide (a<b)
def Zd3 (a b:Mv):Bool:=decide (Zfs a b<0)
def ZkS (n:Int) (l:List Int):Bool:=l.all (fun x=>decide (0≤x)&&decide (x<n))&&Zbz ltI l
def Ztp (a:Aut) (m:Mv):Bool:=decide (0≤m.src)&&decide (m.src<a.n)&&decide (0≤m.dst)&&decide (m.dst<a.n)&&decide (-1≤m.sym)&&decide (m.sym<a.syms)
def Zas (a:Aut):Bool:=decide (0≤a.n)&&decide (a.n≤2000)&&decide (0≤a.syms)&&decide (a.syms≤40)&&decide (a.moves.length≤20000)&&ZkS a.n a.start&&ZkS a.n a.fin&&a.moves.all (Ztp a)&&Zbz Zd3 a.moves
theorem ZjM (s:Int):AFg Tryz.prog 237 [pInt s] (· =ζ7 false):=by
 refine AFg.of_body 6 Tryz.func237 rfl Tryz.ntmps237 (Xa rfl) ?_
 intro w0 M0 vs hl hv
 obtain ⟨v0,rfl⟩:=ZcP hl
 obtain rfl:=hv 0 _ _ rfl rfl
 clear hl hv
 refine nav ?_
 (refine ζa ?_<;>refine xL 2 ζc ?_<;>refine ζd ?_)
 (refine ζa ?_<;>refine xL 3 ζb (xL 4 ζb (xL 5 ZaN (xL 2 ζc ?_)))<;>refine ζd ?_)
 refine ζp (Tryz.results237) rfl ?_
 simp
theorem ZkT (a b:Int):AFg Tryz.prog 205 [pInt a,pInt b] (· =pInt (Zmj a b)):=by
 refine AFg.of_body 20 Tryz.func205 rfl Tryz.ntmps205 (Xa rfl) ?_
 intro w0 M0 vs hl hv
 obtain ⟨v0,v1,rfl⟩:=ZdW hl
 obtain rfl:=hv 0 _ _ rfl rfl
 obtain rfl:=hv 1 _ _ rfl rfl
 clear hl hv
 refine nav ?_
 (refine ζa ?_<;>refine xL 4 ζc ?_<;>refine ζd ?_)
 (refine ζa ?_<;>refine xL 7 ζb ?_<;>(refine cS 8 (cA Tryz.call237 (ZjM a)) fun v8 h=>?_;cases h)<;>refine xL 5 ζc ?_<;>refine ζd ?_)
 (refine ζa ?_<;>refine xL 9 ζb ?_<;>(refine cS 10 (cA Tryz.call237 (ZjM b)) fun v10 h=>?_;cases h)<;>refine xL 6 ζc ?_<;>refine ζd ?_)
 (refine ζa ?_<;>refine xL 11 ζb ?_<;>refine ζd ?_)
 refine cCf ?_
 refine nav ?_
 (refine ζa ?_<;>refine xL 13 ζb ?_<;>refine ζd ?_)
 refine cCf ?_
 refine nav ?_
 (refine ζa ?_<;>refine xL 14 ζb (xL 15 ζb (xL 16 ζP ?_))<;>refine ζd ?_)
 (first|refine cCd ?_ ?_|refine cC ?_ ?_)<;>intro hb16
 · first
   |exact bN hb16
   | (
    refine nav ?_;(refine ζa ?_<;>refine xL 4 ζc ?_<;>refine ζd ?_)
    refine ζp (Tryz.results205) rfl ?_;rw [Zmj,if_pos hb16])
 · first
   |exact bN hb16
   | (
    refine nav ?_;(refine ζa ?_<;>refine xL 17 ζb (xL 18 ζb (xL 19 ZaQ ?_))<;>refine ζd ?_)
    (first|refine cCd ?_ ?_|refine cC ?_ ?_)<;>intro hb19
    · first
      |exact bN hb19
      | (
       refine nav ?_;(refine ζa ?_<;>refine xL 4 ζc ?_<;>refine ζd ?_)
       refine ζp (Tryz.results205) rfl ?_;rw [Zmj,if_neg (by omega),if_pos (by omega)])
    · first
      |exact bN hb19
      | (
       refine nav ?_;(refine ζa ?_<;>refine xL 4 ζc ?_<;>refine ζd ?_)
       refine ζp (Tryz.results205) rfl ?_;rw [Zmj,if_neg (by omega),if_neg (by omega)]))
theorem Zim (a b:Mv):AFg Tryz.prog 153 [.agg (cMv a), .agg (cMv b)] (· =pInt (Zfs a b)):=by
 refine AFg.of_body 22 Tryz.func153 rfl Tryz.ntmps153 (Xa rfl) ?_
 intro w0 M0 vs hl hv
 obtain ⟨v0,v1,rfl⟩:=ZdW hl
 clear hl hv
 refine nav ?_
 (refine ζa ?_<;>refine ζS 2 3 fun h2=>?_<;>refine ζS 3 3 fun h3=>?_<;>refine xL 4 ζc ?_<;>refine ζd ?_)
 (refine ζV (fun i=>([]:List Nat).elem i) [2,3] kR ?_<;>refine xD 0 5 rfl (ζe 2 Zaz) ?_<;>(refine yD 1 6 rfl (ζk 2 ζn) fun v6 h=>?_;cases h)<;>refine xD 2 7 rfl (ζe 3 Zaz) ?_<;>(refine yD 3 8 rfl (ζk 3 ζn) fun v8 h=>?_;cases h)<;>refine xD 5 10 rfl (ζe 2 ZaA) ?_<;>(refine yD 6 11 rfl (ζk 2 ζn) fun v11 h=>?_;cases h)<;>refine xD 7 12 rfl (ζe 3 ZaA) ?_<;>(refine yD 8 13 rfl (ζk 3 ζn) fun v13 h=>?_;cases h)<;>refine xD 10 15 rfl (ζe 2 ZaR) ?_<;>(refine yD 11 16 rfl (ζk 2 ζn) fun v16 h=>?_;cases h)<;>refine xD 12 17 rfl (ζe 3 ZaR) ?_<;>(refine yD 13 18 rfl (ζk 3 ζn) fun v18 h=>?_;cases h)<;>(refine ζj 4 kR ?_)<;>(refine ζg rfl fun w9 M9 N9 DQ back=>?_)<;>(refine cS 9 (cA Tryz.call205 (ZkT a.src b.src)) fun v9 h=>?_;cases h)<;>refine ζf (back _ (nrm ?_))<;>(refine ζj 9 kR ?_)<;>(refine ζg rfl fun w9 M9 N9 DQ back=>?_)<;>(refine cS 14 (cA Tryz.call205 (ZkT a.sym b.sym)) fun v14 h=>?_;cases h)<;>refine ζf (back _ (nrm ?_))<;>(refine ζj 14 kR ?_)<;>(refine ζg rfl fun w9 M9 N9 DQ back=>?_)<;>(refine cS 19 (cA Tryz.call205 (ZkT a.dst b.dst)) fun v19 h=>?_;cases h)<;>refine ζf (back _ (nrm ?_))<;>(refine ζj 15 kR ?_)<;>(refine ζg rfl fun w9 M9 N9 DQ back=>?_)<;>refine Zte (xs:=[_,_,_]) 20 ζz fun h20 ho20=>?_<;>refine ζf (back _ (nrm ?_))<;>(refine ζj 16 kR ?_)<;>(refine ζg rfl fun w9 M9 N9 DQ back=>?_)<;>(refine ζq (En.freeze (l:=20) (t:=20) rfl rfl) fun _=>?_;refine cS 21 (cA Tryz.call204 (Zz7 [Zmj a.src b.src,Zmj a.sym b.sym,Zmj a.dst b.dst])) fun v21 h=>?_;cases h)<;>refine ζf (back _ (nrm ?_))<;>refine xE 17 4 rfl ζc ?_<;>refine Zae kR (nav ?_)<;>try dsimp only)
 exact ζp Tryz.results153 rfl rfl
theorem Zmk (l:List Int) (n:Int):AF Tryz.prog 152 [pInts l,pInt n] (· =ζ7 (ZkS n l)):=by
 refine AF.of_body 35 Tryz.func152 rfl Tryz.ntmps152 (Xa rfl) ?_
 intro w0 M0 vs hl hv
 obtain ⟨v0,v1,rfl⟩:=ZdW hl
 obtain rfl:=hv 1 _ _ rfl rfl
 clear hl hv
 refine Zc0 0 rfl fun hlen=>?_
 refine nav ?_
 (refine ζa ?_<;>refine xL 4 ζc ?_<;>refine ζd ?_)
 (refine ζa ?_<;>refine xL 7 ζb (xL 8 (ζ9 ζx) (xL 9 ζb ?_))<;>refine ζd ?_)
 refine ζD (ι:={k:Nat//k≤l.length∧∀j x,j<k→l[j]? =some x→(0≤x∧x<n)∧∀y,1≤j→l[j-1]? =some y→ltI y x=true}) (fun k=>⟨[(0,_,_),(1,_,_),(7,_,_),(8,_,_),(9, .int .i64 k.1,pInt k.1)],[]⟩) (fun k=>l.length-k.1) ⟨0,by omega,by omega⟩ (fun a w H=>H.weaken ⟨rfl,rfl,rfl,rfl,rfl,trivial⟩ trivial) ?_
 rintro ⟨k,hk,hp⟩
 dsimp only
 refine nav ?_
 (refine ζa ?_<;>refine xL 10 ζP ?_<;>refine ζd ?_)
 (first|refine cCd ?_ ?_|refine cC ?_ ?_)<;>intro hb10
 · first
   |exact bN hb10
   | (
    obtain ⟨x,hx⟩:=ζo (show k<l.length by omega);obtain ⟨y,hy⟩:=ζo (show k-1<l.length by omega);have e1:=Zbd (f:=pInt) hx;(have e2:(l.map pInt)[((k:Int)-1).toNat*1]? =some (pInt y):=by rw [show ((k:Int)-1).toNat*1=k-1 by omega];exact (by rw [Xl,hy];rfl));refine nav ?_;(refine ζa ?_<;>refine xL 11 ζb (xL 12 (ζW ζx) ?_)<;>(refine yL 13 (Zc6 ζn) fun v13 h=>?_;cases h)<;>refine xL 5 ζc (xL 6 ζc ?_)<;>refine ζd ?_)
    (refine ζa ?_<;>refine xL 14 ζb (xL 15 ζP (xL 16 ζb ?_))<;>(refine bLd 16 (fun hb16=>?_) (fun hb16=>?_)<;>(first|refine kL 17 ?_|refine xL 17 ζb ?_))<;>(first|refine kL 18 ?_|refine xL 18 ζb ?_)<;>(first|refine kL 19 ?_|refine xL 19 Zcu ?_)<;>refine xL 20 ζv (xL 21 ζb ?_)<;>(first|refine kL 22 ?_|(refine bLd 21 (fun hb21=>?_) (fun hb21=>?_)<;>(first|refine kL 22 ?_|refine xL 22 ζb ?_)))<;>(first|refine kL 23 ?_|refine xL 23 ZaQ ?_)<;>(first|refine kL 24 ?_|refine xL 24 ζb ?_)<;>(first|refine kL 25 ?_|(refine bLd 24 (fun hb24=>?_) (fun hb24=>?_)<;>(first|refine kL 25 ?_|refine xL 25 ζb ?_)))<;>(first|refine kL 26 ?_|refine xL 26 ζb ?_)<;>(first|refine kL 27 ?_|refine xL 27 ZgB ?_)<;>(first|refine kL 28 ?_|refine xL 28 (Zn2 ζx) ?_)<;>(first|refine kL 29 ?_|(refine yL 29 (Zc6 ζn) fun v29 h=>?_;cases h))<;>(first|refine kL 30 ?_|refine xL 30 ζb ?_)<;>(first|refine kL 31 ?_|refine xL 31 Zcu ?_)<;>(first|refine kL 32 ?_|refine xL 32 ζv ?_)<;>refine xL 33 ζv ?_<;>refine ζd ?_)<;>(
     (first|refine cCd ?_ ?_|refine cC ?_ ?_)<;>intro hb33
     · first
       |exact bN hb33
       | (
        refine nav ?_;(refine ζa ?_<;>refine xL 4 ζc ?_<;>refine ζd ?_)
        refine ζp (Tryz.results152) rfl ?_;unfold ZkS
        first
         |rw [ZpM hx (by simp;omega)];rfl
         |rw [Zic (by omega) hy hx (by unfold ltI;simpa using hb33),Bool.and_false])
     · first
       |exact bN hb33
       | (
        refine nav ?_;(refine ζa ?_<;>refine xL 34 ζM (xL 9 ζb ?_)<;>refine ζd ?_)
        refine ζh (
         ⟨k + 1,by omega,fun j z hj hz=>by
          by_cases e:j=k
          · subst e;rw [hx] at hz;cases hz;refine ⟨⟨by omega,by omega⟩,fun y' h1 hy'=>?_⟩;rw [hy] at hy';cases hy';unfold ltI
            first
             |omega
             |(simp;omega)
          · exact hp j z (by omega) hz⟩
         ) (by dsimp only;omega) ⟨rfl,rfl,rfl,rfl,rfl,trivial⟩ trivial)))
 · first
   |exact bN hb10
   | (
    refine nav ?_;(refine ζa ?_<;>refine xL 4 ζc ?_<;>refine ζd ?_)
    refine ζp (Tryz.results152) rfl ?_;have h1:l.all (fun x=>decide (0≤x)&&decide (x<n))=true:=by
     rw [Xy];intro z hz;obtain ⟨j,hj,rfl⟩:=V4 hz;have h2:=(hp j _ (by omega) (XE hj)).1;simp [h2.1,h2.2]
    have h2:Zbz ltI l=true:=ZjF fun j x y h1 hy hx=>(hp j x (by have:=ζi hx;omega) hx).2 y h1 hy;unfold ZkS;rw [h1,h2];rfl)
theorem Zml {a:Aut} (h:a.n<0∨2000<a.n∨a.syms<0∨40<a.syms∨20000<a.moves.length∨ZkS a.n a.start=false∨ZkS a.n a.fin=false∨a.moves.all (Ztp a)=false∨Zbz Zd3 a.moves=false):Zas a=false:=by
 unfold Zas
 rcases h with h|h|h|h|h|h|h|h|h
 · rw [decide_eq_false (by omega:¬0≤a.n)];simp
 · rw [decide_eq_false (by omega:¬a.n≤2000)];simp
 · rw [decide_eq_false (by omega:¬0≤a.syms)];simp
 · rw [decide_eq_false (by omega:¬a.syms≤40)];simp
 · rw [decide_eq_false (by omega:¬a.moves.length≤20000)];simp
 · rw [h];simp
 · rw [h];simp
 · rw [h];simp
 · rw [h];simp
theorem Zbj (a : Aut):AF Tryz.prog 107 [Zap a] (· =ζ7 (Zas a)):=by
 refine AF.of_body 103 Tryz.func107 rfl Tryz.ntmps107 (Xa rfl) ?_
 intro w0 M0 vs hl hv
 obtain ⟨v0,rfl⟩:=ZcP hl
 clear hl hv
 refine nav ?_
 (refine ζa ?_<;>refine ζS 1 5 fun h1=>?_<;>refine xL 2 ζc ?_<;>refine ζd ?_)
 (refine ζa ?_ <;>refine xL 5 (ζe 1 ζX) ?_<;>(refine yL 6 (ζk 1 ζn) fun v6 h=>?_;cases h)<;>refine xL 7 ζP (xL 8 ζb ?_)<;>(refine bLd 8 (fun hb8=>?_) (fun hb8=>?_)<;>(first|refine kL 9 ?_|refine xL 9 (ζe 1 ζX) ?_))<;>(first|refine kL 10 ?_|(refine yL 10 (ζk 1 ζn) fun v10 h=>?_;cases h))<;>(first|refine kL 11 ?_|refine xL 11 ZaQ ?_)<;>refine xL 12 ζv (xL 13 ζb ?_)<;>(first|refine kL 14 ?_|(refine bLd 13 (fun hb13=>?_) (fun hb13=>?_)<;>(first|refine kL 14 ?_|refine xL 14 (ζe 1 Zam) ?_)))<;>(first|refine kL 15 ?_|(refine yL 15 (ζk 1 ζn) fun v15 h=>?_;cases h))<;>(first|refine kL 16 ?_|refine xL 16 ζP ?_)<;>refine xL 17 ζv (xL 18 ζb ?_)<;>(first|refine kL 19 ?_|(refine bLd 18 (fun hb18=>?_) (fun hb18=>?_)<;>(first|refine kL 19 ?_|refine xL 19 (ζe 1 Zam) ?_)))<;>(first|refine kL 20 ?_|(refine yL 20 (ζk 1 ζn) fun v20 h=>?_;cases h))<;>(first|refine kL 21 ?_|refine xL 21 ZaQ ?_)<;>refine xL 22 ζv (xL 23 ζb ?_)<;>(first|refine kL 24 ?_|(refine bLd 23 (fun hb23=>?_) (fun hb23=>?_)<;>(first|refine kL 24 ?_|refine xL 24 (ζe 1 ζw) ?_)))<;>(first|refine kL 25 ?_|(refine yL 25 (ζk 1 ζF) fun v25 h=>?_;cases h))<;>(first|refine kL 26 ?_|refine xL 26 (ζ9 ζG) ?_)<;>(first|refine kL 27 ?_|refine xL 27 ZaQ ?_)<;>refine xL 28 ζv (xL 29 ζb ?_)<;>(first|refine kL 30 ?_|(refine bLd 29 (fun hb29=>?_) (fun hb29=>?_)<;>(first|refine kL 30 ?_|refine xL 30 (ζe 1 Zan) ?_)))<;>(first|refine kL 31 ?_|(refine yL 31 (ζk 1 ζH) fun v31 h=>?_;cases h))<;>(first|refine kL 32 ?_|refine xL 32 (ζe 1 ζX) ?_)<;>(first|refine kL 33 ?_|(refine yL 33 (ζk 1 ζn) fun v33 h=>?_;cases h))<;>(first|refine kL 34 ?_|(refine cS 34 (cA Tryz.call152 (Zmk a.start a.n)) fun v34 h=>?_;cases h))<;>(first|refine kL 35 ?_|refine xL 35 Zaw ?_)<;>refine xL 36 ζv (xL 37 ζb ?_)<;>(first|refine kL 38 ?_|(refine bL 37 (fun hb37=>?_) (fun hb37=>?_)<;>(first|refine kL 38 ?_|refine xL 38 (ζe 1 Zab) ?_)))<;>(first|refine kL 39 ?_|(refine yL 39 (ζk 1 ζH) fun v39 h=>?_;cases h))<;>(first|refine kL 40 ?_|refine xL 40 (ζe 1 ζX) ?_)<;>(first|refine kL 41 ?_|(refine yL 41 (ζk 1 ζn) fun v41 h=>?_;cases h))<;>(first|refine kL 42 ?_|(refine cS 42 (cA Tryz.call152 (Zmk a.fin a.n)) fun v42 h=>?_;cases h))<;>(first|refine kL 43 ?_|refine xL 43 Zaw ?_)<;>refine xL 44 ζv ?_<;>refine ζd ?_)<;>(
  (first|refine cCd ?_ ?_|refine cC ?_ ?_)<;>intro hb44
  · first
    |exact bN hb44
    | (
     refine nav ?_;(refine ζa ?_<;>refine xL 2 ζc ?_<;>refine ζd ?_)
     refine ζp (Tryz.results107) rfl ?_
     first
      |(rw [Zml (by omega)])
      |(rw [Zml (.inr (.inr (.inr (.inr (.inr (.inl (by simpa using hb37)))))))])
      |(rw [Zml (.inr (.inr (.inr (.inr (.inr (.inr (.inl (by simpa using hb44))))))))]))
  · first
    |exact bN hb44
    | (
     refine nav ?_;(refine ζa ?_<;>refine xL 45 (ζe 1 ζw) ?_<;>(refine yL 46 (ζk 1 ζF) fun v46 h=>?_;cases h)<;>refine xL 47 (ζ9 ζG) (xL 48 ζb ?_)<;>refine ζd ?_)
     refine ζD (ι:={k:Nat//k≤a.moves.length∧∀j x,j<k→a.moves[j]? =some x→Ztp a x=true∧∀y,1≤j→a.moves[j-1]? =some y→Zd3 y x=true}) (fun k=>⟨[(1,_,_),(45,_,_),(46,_,_),(47,_,_),(48, .int .i64 k.1,pInt k.1)],[(1,_,_)]⟩) (fun k=>a.moves.length-k.1) ⟨0,by omega,by omega⟩ (fun a w H=>H.weaken ⟨rfl,rfl,rfl,rfl,rfl,trivial⟩ ⟨rfl,trivial⟩) ?_;rintro ⟨k,hk,hp⟩;dsimp only;refine nav ?_;(refine ζa ?_<;>refine xL 49 ζP ?_<;>refine ζd ?_)
     (first|refine cCd ?_ ?_|refine cC ?_ ?_)<;>intro hb49
     · first
       |exact bN hb49
       | (
        obtain ⟨x,hx⟩:=ζo (show k<a.moves.length by omega);obtain ⟨y,hy⟩:=ζo (show k-1<a.moves.length by omega);have e1:=Zad ζ0 a.moves k x hx;have e2:=ZaE ζ0 hx;(have e3:((a.moves.flatMap cMv).drop (((k:Int)-1).toNat*3)).take 3=cMv y:=by rw [show ((k:Int)-1).toNat*3=(k-1)*3 by omega];exact Zad ζ0 a.moves (k-1) y hy);have e4:=ZaE ζ0 hy;refine nav ?_;(refine ζa ?_<;>refine xL 50 ζb (xL 51 (ζW ζG) ?_)<;>(refine yL 52 (Zby ζT) fun v52 h=>?_;cases h)<;>refine ζs [(.int .i64 0),(.int .i64 0),(.int .i64 0)] 3 4 Zc1 fun h4=>?_<;>refine xL 3 ζc ?_<;>refine ζt 4 ζT ?_<;>refine ζd ?_)
        (refine ζV (fun i=>([]:List Nat).elem i) [1,4] kR ?_<;>refine xE 0 53 rfl (ζe 4 Zaz) ?_<;>(refine yE 1 54 rfl (ζk 4 ζn) fun v54 h=>?_;cases h)<;>refine xE 2 55 rfl ζP ?_<;>refine xE 3 56 rfl ζb ?_<;>(refine bDd 56 (fun hb56=>?_) (fun hb56=>?_)<;>(first|refine kD 4 57 rfl ?_|refine xD 4 57 rfl (ζe 4 Zaz) ?_))<;>(first|refine kD 5 58 rfl ?_|(refine yD 5 58 rfl (ζk 4 ζn) fun v58 h=>?_;cases h))<;>(first|refine kD 6 59 rfl ?_|refine xD 6 59 rfl (ζe 1 ζX) ?_)<;>(first|refine kD 7 60 rfl ?_|(refine yD 7 60 rfl (ζk 1 ζn) fun v60 h=>?_;cases h))<;>(first|refine kD 8 61 rfl ?_|refine xD 8 61 rfl Zcu ?_)<;>refine xE 9 62 rfl ζv ?_<;>refine xE 10 63 rfl ζb ?_<;>(first|refine kD 11 64 rfl ?_|(refine bDd 63 (fun hb63=>?_) (fun hb63=>?_)<;>(first|refine kD 11 64 rfl ?_|refine xD 11 64 rfl (ζe 4 ZaR) ?_)))<;>(first|refine kD 12 65 rfl ?_|(refine yD 12 65 rfl (ζk 4 ζn) fun v65 h=>?_;cases h))<;>(first|refine kD 13 66 rfl ?_|refine xD 13 66 rfl ζP ?_)<;>refine xE 14 67 rfl ζv ?_<;>refine xE 15 68 rfl ζb ?_<;>(first|refine kD 16 69 rfl ?_|(refine bDd 68 (fun hb68=>?_) (fun hb68=>?_)<;>(first|refine kD 16 69 rfl ?_|refine xD 16 69 rfl (ζe 4 ZaR) ?_)))<;>(first|refine kD 17 70 rfl ?_|(refine yD 17 70 rfl (ζk 4 ζn) fun v70 h=>?_;cases h))<;>(first|refine kD 18 71 rfl ?_|refine xD 18 71 rfl (ζe 1 ζX) ?_)<;>(first|refine kD 19 72 rfl ?_|(refine yD 19 72 rfl (ζk 1 ζn) fun v72 h=>?_;cases h))<;>(first|refine kD 20 73 rfl ?_|refine xD 20 73 rfl Zcu ?_)<;>refine xE 21 74 rfl ζv ?_<;>refine xE 22 75 rfl ζb ?_<;>(first|refine kD 23 76 rfl ?_|(refine bDd 75 (fun hb75=>?_) (fun hb75=>?_)<;>(first|refine kD 23 76 rfl ?_|refine xD 23 76 rfl (ζe 4 ZaA) ?_)))<;>(first|refine kD 24 77 rfl ?_|(refine yD 24 77 rfl (ζk 4 ζn) fun v77 h=>?_;cases h))<;>(first|refine kD 25 78 rfl ?_|refine xD 25 78 rfl ζP ?_)<;>refine xE 26 79 rfl ζv ?_<;>refine xE 27 80 rfl ζb ?_<;>(first|refine kD 28 81 rfl ?_|(refine bDd 80 (fun hb80=>?_) (fun hb80=>?_)<;>(first|refine kD 28 81 rfl ?_|refine xD 28 81 rfl (ζe 4 ZaA) ?_)))<;>(first|refine kD 29 82 rfl ?_|(refine yD 29 82 rfl (ζk 4 ζn) fun v82 h=>?_;cases h))<;>(first|refine kD 30 83 rfl ?_|refine xD 30 83 rfl (ζe 1 Zam) ?_)<;>(first|refine kD 31 84 rfl ?_|(refine yD 31 84 rfl (ζk 1 ζn) fun v84 h=>?_;cases h))<;>(first|refine kD 32 85 rfl ?_|refine xD 32 85 rfl Zcu ?_)<;>refine xE 33 86 rfl ζv ?_<;>refine xE 34 87 rfl ζb ?_<;>(first|refine kD 35 88 rfl ?_|(refine bDd 87 (fun hb87=>?_) (fun hb87=>?_)<;>(first|refine kD 35 88 rfl ?_|refine xD 35 88 rfl ζb ?_)))<;>(first|refine kD 36 89 rfl ?_|refine xD 36 89 rfl ZaQ ?_)<;>(first|refine kD 37 90 rfl ?_|refine xD 37 90 rfl ζb ?_)<;>(first|refine kD 38 91 rfl ?_|(refine bDd 90 (fun hb90=>?_) (fun hb90=>?_)<;>(first|refine kD 38 91 rfl ?_|refine xD 38 91 rfl (ζe 1 ζw) ?_)))<;>(first|refine kD 39 92 rfl ?_|(refine yD 39 92 rfl (ζk 1 ζF) fun v92 h=>?_;cases h))<;>(first|refine kD 40 93 rfl ?_|refine xD 40 93 rfl ζb ?_)<;>(first|refine kD 41 94 rfl ?_|refine xD 41 94 rfl ZgB ?_)<;>(first|refine kD 42 95 rfl ?_|refine xD 42 95 rfl (Zn2 ζG) ?_)<;>(first|refine kD 43 96 rfl ?_|(refine yD 43 96 rfl (Zby ζT) fun v96 h=>?_;cases h))<;>(first|refine kD 44 97 rfl ?_|(refine yD 44 97 rfl (ζm 4 ζT) fun v97 h=>?_;cases h))<;>(refine ζj 45 kR ?_)<;>(refine ζg rfl fun w9 M9 N9 DQ back=>?_)<;>(first|refine kL 98 ?_|(refine cS 98 (cA Tryz.call153 ((Zim y x).af)) fun v98 h=>?_;cases h))<;>refine ζf (back _ (nrm ?_))<;>(first|refine kD 46 99 rfl ?_|refine xD 46 99 rfl Zcu ?_)<;>(first|refine kD 47 100 rfl ?_|refine xD 47 100 rfl ζv ?_)<;>refine xE 48 101 rfl ζv ?_<;>refine Zae kR (nav ?_)<;>try dsimp only)<;>(
         (first|refine cCd ?_ ?_|refine cC ?_ ?_)<;>intro hb101
         · first
           |exact bN hb101
           | (
            refine nav ?_;(refine ζa ?_<;>refine xL 2 ζc ?_<;>refine ζd ?_)
            refine ζp (Tryz.results107) rfl ?_
            first
             |rw [Zml (.inr (.inr (.inr (.inr (.inr (.inr (.inr (.inl (ZpM hx (show Ztp a x=false by unfold Ztp;simp only [Bool.and_eq_false_iff,decide_eq_false_iff_not];omega))))))))))]
             |rw [Zml (.inr (.inr (.inr (.inr (.inr (.inr (.inr (.inr (Zic (by omega) hy hx (show Zd3 y x=false from decide_eq_false (by omega)))))))))))])
         · first
           |exact bN hb101
           | (
            refine nav ?_;(refine ζa ?_<;>refine xL 102 ζM (xL 48 ζb ?_)<;>refine ζd ?_)
            refine ζh (
             ⟨k +1,by omega,fun j z hj hz=>by
              by_cases e:j=k
              · subst e;rw [hx] at hz;cases hz;refine ⟨by unfold Ztp;simp only [Xe,decide_eq_true_eq];omega,fun y' h1 hy'=>?_⟩;rw [hy] at hy';cases hy'
                first|omega|exact decide_eq_true (by omega)
              · exact hp j z (by omega) hz⟩
             ) (by dsimp only;omega) ⟨rfl,rfl,rfl,rfl,rfl,trivial⟩ ⟨rfl,trivial⟩)))
     · first
       |exact bN hb49
       | (
        refine nav ?_;(refine ζa ?_<;>refine xL 2 ζc ?_<;>refine ζd ?_)
        refine ζp (Tryz.results107) rfl ?_;have h7:a.moves.all (Ztp a)=true:=Zz4 fun j x hj=>(hp j x (by have:=ζi hj;omega) hj).1;have h8:Zbz Zd3 a.moves=true:=ZjF fun j x y h1 hy hx=>(hp j x (by have:=ζi hx;omega) hx).2 y h1 hy;(have h1:ZkS a.n a.start=true:=by simpa using hb37);(have h2:ZkS a.n a.fin=true:=by simpa using hb44);unfold Zas;rw [h1,h2,h7,h8,decide_eq_true (by omega:0≤a.n),decide_eq_true (by omega:a.n≤2000),decide_eq_true (by omega:0≤a.syms),decide_eq_true (by omega:a.syms≤40),decide_eq_true (by omega:a.moves.length≤20000)];rfl)))
theorem Zg5:FldT Tryz.prog 196 2 2=true:=by kernel_rfl
theorem Zru:NoAgg Tryz.prog 134=true:=by kernel_rfl
theorem ZcU:NoAgg Tryz.prog 139=true:=by kernel_rfl
theorem ZhI:NoAgg Tryz.prog 4=true:=by kernel_rfl
theorem ZdD:SlT Tryz.prog 139 4 1=true:=by kernel_rfl
theorem Zaq (e n:Nat) (l:List Int) (hn:n=l.length):share (.own e 1 n (l.map pInt))=pInts l:=by
 subst hn
 rw [share,Zac,XN];rfl
theorem ZfF (l:List Int) (hl:l.length≤1000000):AF Tryz.prog 135 [pInts l] (· = .own 3 1 l.length (l.map pInt)):=by
 refine AF.of_body 8 Tryz.func135 rfl Tryz.ntmps135 (Xa rfl) ?_
 intro w0 M0 vs hl hv
 obtain ⟨v0,rfl⟩:=ZcP hl
 clear hl hv
 have f3:(l.map pInt).length=l.length*1:=by rw [Xh,XJ]
 have f4:(l.map pInt).all En.one=true:=by rw [List.all_map,Xy];intro x _;rfl
 refine nav ?_
 (refine ζa ?_<;>refine xL 2 ζc ?_<;>refine ζd ?_)
 (refine ζa ?_<;>refine xL 3 ζb ?_<;>(refine yL 4 (Ztm ζx) fun v4 hv4=>?_;rcases hv4 with rfl|⟨rfl,hn0⟩)<;>refine ζd ?_)<;>(
  (first|refine cCd ?_ ?_|refine cC ?_ ?_)<;>intro hb4
  · first
    |exact bN hb4
    | (
     refine nav ?_;(refine ζa ?_<;>refine xL 2 ζc ?_<;>refine ζd ?_)
     have hl0:l=[]:=XP hn0;subst hl0;refine Zcr (Zek 200 3 1 rfl) fun _=>?_;exact Zet 200 (Tryz.results135) rfl rfl rfl)
  · first
    |exact bN hb4
    | (
     refine nav ?_;(refine ζa ?_<;>refine Zmb 5 ζz fun h5 ho5=>?_<;>refine xL 6 ζb ?_<;>refine Zev 5 7 ζz (fun h7 ho7=>?_) f3 f4<;>refine xL 2 ζc ?_<;>refine ζd ?_)
     refine Zet 7 (Tryz.results135) rfl rfl ?_;rw [Xx,Vf]))
def movesOf (a:Aut) (s:Nat):List Mv:=a.moves.filter fun m=>decide (m.src=(s:Int))
def ZsJ (a:Aut) (s:Int):Bool:=a.fin.any fun t=>decide (t=s)
def Zn5 (a:Aut):PV:= .sl a.n.toNat ((List.range a.n.toNat).map fun s=>pMvs (movesOf a s))
def Zz8 (a:Aut):PV:= .sl a.n.toNat ((List.range a.n.toNat).map fun s=>ζ7 (ZsJ a (s:Nat)))
def pGr (a:Aut):PV:= .sptr 0 [pInt a.syms,Zn5 a,Zz8 a]
theorem ZkU {N k:Nat} (h:k<N) (f:Nat→PV):((List.range N).map f)[k]? =some (f k):=by
 rw [Xl,Ue h];rfl
theorem Zn6 (a:Aut) (s:Int) (h0:0≤s) (h1:s<a.n):AF Tryz.prog 157 [pInt s, .sptr 0 [pGr a]] (· =ζ7 (ZsJ a s)):=by
 refine AF.of_body 11 Tryz.func157 rfl Tryz.ntmps157 (Xa rfl) ?_
 intro w0 M0 vs hl hv
 obtain ⟨v0,v1,rfl⟩:=ZdW hl
 obtain rfl:=hv 0 _ _ rfl rfl
 clear hl hv
 have e1:((List.range a.n.toNat).map fun s=>ζ7 (ZsJ a (s:Nat)))[s.toNat*1]? =some (ζ7 (ZsJ a s)):=by rw [XJ,ZkU (by omega)];rw [show ((s.toNat:Nat):Int)=s by omega]
 have e2:s.toNat<a.n.toNat:=by omega
 refine nav ?_
 (refine ζa ?_<;>refine xL 3 ζc ?_<;>refine ζd ?_)
 (refine ζa ?_<;>(refine yL 4 (Zc6 Zru) fun v4 h=>?_;cases h)<;>refine xL 5 Ztf (xL 6 (Zrs Zg5) ?_)<;>(refine yL 7 (Zc6 ZcU) fun v7 h=>?_;cases h)<;>refine xL 8 ζb (xL 9 (Zn2 ZdD) ?_)<;>(refine yL 10 (Zc6 ZhI) fun v10 h=>?_;cases h)<;>refine xL 3 ζc ?_<;>refine ζd ?_)
 exact ζp Tryz.results157 rfl rfl
theorem Zrv (a:Aut) (l:List Int) (hs:∀s∈l,0≤s∧s<a.n):AF Tryz.prog 113 [pGr a,pInts l] (· =ζ7 (l.any (ZsJ a))):=by
 refine AF.of_body 8 Tryz.func113 rfl Tryz.ntmps113 (Xa rfl) ?_
 intro w0 M0 vs hl hv
 obtain ⟨v0,v1,rfl⟩:=ZdW hl
 clear hl hv
 refine nav ?_
 (refine ζa ?_<;>refine ZDN 2 fun h2=>?_<;>refine xL 4 ζc ?_<;>refine ζd ?_)
 refine ζC (Ztg (l:=2) (t:=2) (j:=0) rfl Nat.one_pos rfl) fun _=>?_
 (refine ζa ?_<;>refine xL 5 ζb (xL 6 Ztd ?_)<;>(refine cS 7 (cA Tryz.call108 (ZgC 157 [.sptr 0 [pGr a]] (ZsJ a) l (Tryz.call157) (fun s hm=>Zn6 a s (hs s hm).1 (hs s hm).2))) fun v7 h=>?_;cases h)<;>refine xL 4 ζc ?_<;>refine ζd ?_)
 exact ζp Tryz.results113 rfl rfl
theorem ZjN:MpT Tryz.prog 197 3 4 (.int .i64) (.bool false):=⟨Tryz.underlying197,Tryz.underlying3, .inr ⟨_,rfl⟩,by show ZeroT _ _ _;unfold ZeroT;kernel_rfl⟩
theorem ZgE:NoAgg Tryz.prog 197=true:=by kernel_rfl
theorem Zcw:(Tryz.prog.info? 36).map (·.size)=some 1:=by kernel_rfl
def ZfY (out:List Int):List (Int×Value):=out.map fun s=>(s, .bool true)
theorem ZwQ (out:List Int) (s:Int):(ZdZ (ikv (ZfY out)) (.int .i64 s)).getD (.bool false)= .bool (out.elem s):=by
 rw [ZpD]
 induction out with
 |nil=>rfl
 | cons x l ih=>
   unfold ZfY at ih ⊢;rw [Xu,ZwF,List.elem_cons];by_cases h:s=x
   · subst h;simp
   · (have h1:(s==x)=false:=by simpa using h);rw [h1];simp [h,Ne.symm h];simpa using ih
theorem ZwR {out:List Int} {s:Int} (h:out.elem s=false):ZfT (ikv (ZfY out)) (.int .i64 s) (.bool true)=ikv (ZfY (out++[s])):=by
 rw [ZpE]
 congr 1
 induction out with
 |nil=>rfl
 | cons x l ih=>
   rw [List.elem_cons] at h;have h1:(s==x)=false:=by cases h2:(s==x)<;>simp_all
   have h2:l.elem s=false:=by simp_all
   have h3:¬s=x:=by simpa using h1
   unfold ZfY at ih ⊢;rw [Xu,Zta];simp [h3,Ne.symm h3];simpa using ih h2
def Zft (out:List Int) (s:Int):List Int:=if out.elem s then out else out++[s]
def clH (h5 h6 m r:Value) (out:List Int):List (Nat×Ent):=[(1001,h5, .own 197 1 1 [.val m]),(1002,h6, .own 36 1 1 [.val r]),(1003,m, .omap (ikv (ZfY out))),(1004,r, .own 3 1 out.length (out.map pInt))]
theorem Zin (s:Int) (h5 h6 m r:Value) (out:List Int) (hl:out.length≤1000000) (hm:m.oneCell'=true) (hr:r.oneCell'=true):AFh False Tryz.prog 155 [(0, .int .i64 s,pInt s),(1,padd (sbase h5) 0, .val (padd (sbase h5) 0)),(2,padd (sbase h6) 0, .val (padd (sbase h6) 0))]
 (clH h5 h6 m r out) (fun v q h=>q= .val v∧∃r':Value,r'.oneCell'=true∧h=clH h5 h6 m r' (Zft out s)):=by
 have hu:=ZwQ out s
 refine AFh.of_body 14 Tryz.func155 rfl Tryz.ntmps155 (Xa rfl) rfl ?_
 intro w0 M0 N0
 refine nav ?_
 (refine ζa ?_<;>(refine yL 4 (ζk 1001 ZgE) fun v4 h=>?_;cases h)<;>refine xL 5 ζb (xL 6 (ZwJ 1003 ZjN) (xL 7 Zaw ?_))<;>refine ζd ?_)
 (first|refine cCd ?_ ?_|refine cC ?_ ?_)<;>intro hb7
 · first
   |exact bN hb7
   | (
    (have hn:out.elem s=false:=by simpa using hb7);have hp:=ZwR hn;refine nav ?_;(refine ζa ?_<;>(refine yL 8 (ζk 1001 ZgE) fun v8 h=>?_;cases h)<;>refine xL 9 ζb ?_<;>(refine ZjI 1003 ZjN ?_;rw [hp])<;>refine ζd ?_)
    (refine ζa ?_<;>(refine yL 10 (ζk 1002 ζH) fun v10 h=>?_;cases h)<;>refine xL 11 ζb ?_<;>refine ζ6 (kk:=1) 12 ζz fun h12 ho12=>?_<;>refine ZbH 1004 12 13 ζz fun h13 ho13=>?_<;>refine Zb7 1002 ζH Zcw ?_<;>refine ζd ?_)
    first
     | (refine Zg2 (ζJ (l:=13) 1004 rfl rfl) fun _=>?_
        refine ZbT (clH h5 h6 m _ (out++[s])) (Tryz.results155) ⟨rfl,rfl,rfl,?_,trivial⟩ ⟨rfl,_,ho13,?_⟩
        · rw [XC,Xd];rfl
        · unfold Zft;rw [hn];rfl)
     | (refine ZbT (clH h5 h6 m r out) (Tryz.results155) ⟨rfl,rfl,rfl,rfl,trivial⟩ ⟨rfl,r,hr,?_⟩
        unfold Zft;rw [if_pos (by simpa using hb7)]))
 · first
   |exact bN hb7
   | (
    refine nav ?_
    first
     | (refine Zg2 (ζJ (l:=13) 1004 rfl rfl) fun _=>?_
        refine ZbT (clH h5 h6 m _ (out++[s])) (Tryz.results155) ⟨rfl,rfl,rfl,?_,trivial⟩ ⟨rfl,_,ho13,?_⟩
        · rw [XC,Xd];rfl
        · unfold Zft;rw [hn];rfl)
     | (refine ZbT (clH h5 h6 m r out) (Tryz.results155) ⟨rfl,rfl,rfl,rfl,trivial⟩ ⟨rfl,r,hr,?_⟩
        unfold Zft;rw [if_pos (by simpa using hb7)]))
theorem Zdd:FldT Tryz.prog 196 1 1=true:=by kernel_rfl
theorem ZeX:NoAgg Tryz.prog 194=true:=by kernel_rfl
theorem ZeY:SlT Tryz.prog 194 37 1=true:=by kernel_rfl
theorem Zrw:(Tryz.prog.info? 197).map (·.size)=some 1:=by kernel_rfl
theorem Zrx:ZeroT Tryz.prog 197 (.map none):=by unfold ZeroT;kernel_rfl
theorem Ztq:ZeroT Tryz.prog 36 (.slice none 0 0):=by unfold ZeroT;kernel_rfl
theorem nodup_len:∀(n:Nat) (L:List Int),L.Nodup→(∀s∈L,0≤s∧s<n)→L.length≤n
 |0,[],_,_=>Xb _
 |0,x::_,_,h=>by have:=h x (Xk ..);omega
 | n +1,L,hn,h=>by
   have h1:=nodup_len n (L.erase (n:Int)) (hn.erase _) fun s hs=>by
    have h2:=(hn.mem_erase_iff).1 hs;have h3:=h s h2.2;have:=h2.1;omega
   have h2:=List.length_erase (a:=(n:Int)) (l:=L);split at h2<;>omega
def OutOk (n:Int) (out:List Int):Prop:=out.Nodup∧∀s∈out,0≤s∧s<n
theorem OutOk.len {n:Int} {out:List Int} (h:OutOk n out):out.length≤n.toNat:=nodup_len _ _ h.1 fun s hs=>by have:=h.2 s hs;omega
theorem OutOk.add {n:Int} {out:List Int} {s:Int} (h:OutOk n out) (hs:0≤s∧s<n):OutOk n (Zft out s):=by
 unfold Zft
 split
 · exact h
 · rename_i h1;refine ⟨?_,fun t ht=>?_⟩
   · rw [VC];refine ⟨h.1,by simp,fun a ha b hb=>?_⟩;simp only [Xi] at hb;subst hb;intro e;subst e;exact h1 (by simpa using ha)
   · rw [Xp,Xi] at ht;rcases ht with ht|rfl
     · exact h.2 t ht
     · exact hs
def Za0 (l:List Int) (out:List Int):List Int:=l.foldl Zft out
theorem OutOk.all {n:Int}:∀(l:List Int) {out:List Int},OutOk n out→(∀s∈l,0≤s∧s<n)→OutOk n (Za0 l out)
 |[],_,h,_=>h
 |x::l,_,h,hl=>OutOk.all l (h.add (hl x (Xk ..))) fun s hs=>hl s (Xj _ hs)
theorem Zn7 {l:List Int} {k:Nat} {x:Int} (h:l[k]? =some x) (out:List Int):Za0 (l.take (k+1)) out=Zft (Za0 (l.take k) out) x:=by
 unfold Za0;rw [ζU h,VN];rfl
def Zbx (ms:List Mv):List Int:=(ms.filter fun m=>decide (m.sym= -1)).map (·.dst)
theorem Zry {ms:List Mv} {k:Nat} {m:Mv} (h:ms[k]? =some m) (hs:m.sym= -1):Zbx (ms.take (k+1))=Zbx (ms.take k)++[m.dst]:=by
 unfold Zbx;rw [ζU h,VF,XC];simp [hs]
theorem Zmm {ms:List Mv} {k:Nat} {m:Mv} (h:ms[k]? =some m) (hs:¬m.sym= -1):Zbx (ms.take (k+1))=Zbx (ms.take k):=by
 unfold Zbx;rw [ζU h,VF,XC];simp [hs]
def Zio (a:Aut) (out:List Int) (i:Nat):List Int:=match out[i]? with
 |some s=>Za0 (Zbx (movesOf a s.toNat)) out
 |none=>out
def Zc2 (a:Aut) (l:List Int):Nat→List Int
 |0=>Za0 l []
 |i+1=>Zio a (Zc2 a l i) i
def ZcJ (a:Aut) (l:List Int):List Int:=(Zc2 a l a.n.toNat).mergeSort fun x y=>decide (x≤y)
def ZpR (a:Aut):Prop:=∀m∈a.moves,0≤m.dst∧m.dst<a.n
theorem Zmn {a:Aut} (h:ZpR a) (s:Nat):∀t∈Zbx (movesOf a s),0≤t∧t<a.n:=fun t ht=>by
 unfold Zbx movesOf at ht
 simp only [Xo,VW] at ht
 obtain ⟨m,⟨⟨h1,_⟩,_⟩,rfl⟩:=ht
 exact h m h1
theorem ZgF {a:Aut} {l:List Int} (h:ZpR a) (hl:∀s∈l,0≤s∧s<a.n):∀i,OutOk a.n (Zc2 a l i)
 |0=>OutOk.all l ⟨VG,by simp⟩ hl
 | i+1=>by
   rw [Zc2,Zio];split
   · exact OutOk.all _ (ZgF h hl i) (Zmn h _)
   · exact ZgF h hl i
theorem Zmo {a:Aut} {l:List Int} {i:Nat} (h:(Zc2 a l i).length≤i):∀j,Zc2 a l (i+j)=Zc2 a l i
 |0=>rfl
 | j+1=>by
   rw [←X9,Zc2,Zmo h j,Zio,XI (by omega)]
theorem ZpS {a:Aut} {l:List Int} {i n:Nat} (h:(Zc2 a l i).length≤i) (hi:i≤n):Zc2 a l n=Zc2 a l i:=by
 have:=Zmo h (n-i)
 rwa [show i+(n-i)=n by omega] at this
theorem Zz9 {ms:List Mv} {k:Nat} {m:Mv} (h:ms[k]? =some m) (hs:m.sym= -1) (out:List Int):Zft (Za0 (Zbx (ms.take k)) out) m.dst=Za0 (Zbx (ms.take (k+1))) out:=by
 rw [Zry h hs];unfold Za0;rw [VN];rfl
theorem ZwS {a:Aut} (h:ZpR a) (s k:Nat):∀t∈Zbx ((movesOf a s).take k),0≤t∧t<a.n:=fun t ht=>by
 refine Zmn h s t ?_
 unfold Zbx at ht ⊢
 simp only [Xo,VW] at ht ⊢
 obtain ⟨m,⟨h1,h2⟩,h3⟩:=ht
 exact ⟨m,⟨VX h1,h2⟩,h3⟩
theorem Zrz:ZCs Tryz.prog 156:=fun blk cap zs w hH hb hn=>Tryz.slices_Sort_int blk 0 cap zs w hH hb hn
theorem Zn8:ZpP Tryz.prog 156:=fun p cap w=>Tryz.slices_Sort_int_none p cap w
set_option maxHeartbeats 2000000 in
theorem ZjO (a : Aut) (l:List Int) (hn:a.n≤2000) (hm:ZpR a) (hl:∀s∈l,0≤s∧s<a.n):AF Tryz.prog 111 [pGr a,pInts l] (· = .own 3 1 (ZcJ a l).length ((ZcJ a l).map pInt)):=by
 refine AF.of_body 57 Tryz.func111 rfl Tryz.ntmps111 (Xa rfl) ?_
 intro w0 M0 vs hl hv
 obtain ⟨v0,v1,rfl⟩:=ZdW hl
 clear hl hv
 refine Zc0 1 rfl fun hlen=>?_
 refine nav ?_
 (refine ζa ?_<;>refine xL 4 ζc ?_<;>refine ζd ?_)
 (refine ζa ?_<;>refine Zii 13 fun h13 ho13=>?_<;>refine ζs [(.map none)] 1 5 Zrx fun h5=>?_<;>refine Zb7 5 ZgE Zrw ?_<;>refine ζd ?_)
 (refine ζa ?_<;>refine ζs [(.slice none 0 0)] 1 6 Ztq fun h6=>?_<;>refine ζd ?_)
 (refine ζa ?_<;>refine xL 14 Ztd (xL 7 ζc ?_)<;>refine ζd ?_)
 refine ζC (Zek 200 3 1 rfl) fun _=>?_
 refine ζC (ζJ (l:=5) 1001 rfl rfl) fun _=>?_
 refine ζC (ζJ (l:=6) 1002 rfl rfl) fun _=>?_
 refine ζC (ζJ (l:=13) 1003 rfl rfl) fun _=>?_
 refine ζC (ζJ (l:=200) 1004 rfl rfl) fun _=>?_
 (refine ζa ?_<;>refine xL 15 ζb (xL 16 (ζ9 ζx) (xL 17 ζb ?_))<;>refine ζd ?_)
 refine ζD (ι:={q:Nat×Value//q.1≤l.length∧q.2.oneCell'=true}) (fun k=>⟨[(0,_,_),(5,_,_),(6,_,_),(7,_,_),(15,_,_),(16,_,_),(17, .int .i64 k.1.1,pInt k.1.1)],[(1001,h5, .own 197 1 1 [.val h13]),(1002,h6, .own 36 1 1 [.val k.1.2]),(1003,h13, .omap (ikv (ZfY (Za0 (l.take k.1.1) [])))),(1004,k.1.2, .own 3 1 (Za0 (l.take k.1.1) []).length ((Za0 (l.take k.1.1) []).map pInt))]⟩) (fun k=>l.length-k.1.1) ⟨(0, .slice none 0 0),Xf _,rfl⟩ (fun a w H=>H.weaken ⟨rfl,rfl,rfl,rfl,rfl,rfl,rfl,trivial⟩ ⟨rfl,rfl,rfl,rfl,trivial⟩) ?_
 rintro ⟨⟨k,r⟩,hk,hr⟩
 dsimp only
 dsimp only at hk hr
 have hok:OutOk a.n (Za0 (l.take k) []):=OutOk.all _ ⟨VG,by simp⟩ (fun s hs=>hl s (VX hs))
 have hol:(Za0 (l.take k) []).length≤1000000:=by have:=hok.len;omega
 refine nav ?_
 (refine ζa ?_<;>refine xL 18 ζP ?_<;>refine ζd ?_)
 (first|refine cCd ?_ ?_|refine cC ?_ ?_)<;>intro hb18
 · first
   |exact bN hb18
   | (
    obtain ⟨x,hx⟩:=ζo (show k<l.length by omega);have e1:=Zbd (f:=pInt) hx;refine nav ?_;(refine ζa ?_<;>refine xL 19 (ζW ζx) ?_<;>(refine yL 20 (Zc6 ζn) fun v20 h=>?_;cases h)<;>refine xL 9 ζc ?_<;>refine ζd ?_)
    (refine ζa ?_<;>refine xL 21 ζb (xL 22 ζb ?_)<;>(refine ζ3 (clH h5 h6 h13 r (Za0 (l.take k) [])) ⟨rfl,rfl,rfl,rfl,trivial⟩ ?_;refine Zy3 [] 23 (Tryz.call155) (Zin x h5 h6 h13 r (Za0 (l.take k) []) hol ho13 hr) ?_;rintro v23 _ _ ⟨rfl,r2,hr2,rfl⟩;rw [←Zn7 hx])<;>refine ζd ?_)
    (refine ζa ?_<;>refine xL 24 ζM (xL 17 ζb ?_)<;>refine ζd ?_)
    refine ζh (
     ⟨(k+1,r2),ζi hx,hr2⟩
     ) (by dsimp only;omega) ⟨rfl,rfl,rfl,rfl,rfl,rfl,rfl,trivial⟩ ⟨rfl,rfl,rfl,rfl,trivial⟩)
 · first
   |exact bN hb18
   | (
    rw [show Za0 (l.take k) []=Zc2 a l 0 by rw [Xn (by omega)];rfl];refine nav ?_;(refine ζa ?_<;>refine xL 10 ζc ?_<;>refine ζd ?_)
    refine ζD (ι:={q:Nat×Value//q.1≤a.n.toNat∧q.2.oneCell'=true}) (fun k=>⟨[(0,_,_),(5,_,_),(6,_,_),(7,_,_),(10, .int .i64 k.1.1,pInt k.1.1)],[(1001,h5, .own 197 1 1 [.val h13]),(1002,h6, .own 36 1 1 [.val k.1.2]),(1003,h13, .omap (ikv (ZfY (Zc2 a l k.1.1)))),(1004,k.1.2, .own 3 1 (Zc2 a l k.1.1).length ((Zc2 a l k.1.1).map pInt))]⟩) (fun k=>a.n.toNat-k.1.1) ⟨(0,r),Xf _,hr⟩ (fun a w H=>H.weaken ⟨rfl,rfl,rfl,rfl,rfl,trivial⟩ ⟨rfl,rfl,rfl,rfl,trivial⟩) ?_;rintro ⟨⟨i,r3⟩,hi,hr3⟩;dsimp only;dsimp only at hi hr3;have hok3:=ZgF hm hl i;have hlen3:=hok3.len;refine nav ?_;(refine ζa ?_<;>refine xL 25 ζb ?_<;>(refine yL 26 (ζk 1002 ζH) fun v26 h=>?_;cases h)<;>refine xL 27 (Zbw 1004 ζx) (xL 28 ζP ?_)<;>refine ζd ?_)
    (first|refine cCd ?_ ?_|refine cC ?_ ?_)<;>intro hb28
    · first
      |exact bN hb28
      | (
       obtain ⟨s,hs⟩:=ζo (show i<(Zc2 a l i).length by omega);have hsr:=hok3.2 s (Xg hs);have e1:=Zbd (f:=pInt) hs;(have e2:((List.range a.n.toNat).map fun s=>pMvs (movesOf a s))[s.toNat*1]? =some (pMvs (movesOf a s.toNat)):=by rw [XJ,ZkU (by omega)]);(have e2':s.toNat<a.n.toNat:=by omega);refine nav ?_;(refine ζV (fun i=>([]:List Nat).elem i) [1001,1002,1003,1004] kR ?_<;>refine xD 0 31 rfl ζb ?_<;>refine xD 1 32 rfl Ztf ?_<;>refine xD 2 33 rfl (Zrs Zdd) ?_<;>(refine yD 3 34 rfl (Zc6 ZeX) fun v34 h=>?_;cases h)<;>(refine yD 4 35 rfl (ζk 1002 ζH) fun v35 h=>?_;cases h)<;>refine xD 5 36 rfl ζb ?_<;>refine xD 6 37 rfl (ζu 1004 ζx) ?_<;>(refine yD 7 38 rfl (ζk 1004 ζn) fun v38 h=>?_;cases h)<;>refine xD 8 39 rfl (Zn2 ZeY) ?_<;>(refine yD 9 40 rfl (Zc6 ζF) fun v40 h=>?_;cases h)<;>refine xD 10 41 rfl (ζ9 ζG) ?_<;>refine xE 11 42 rfl ζb ?_<;>refine Zae kR (nav ?_)<;>try dsimp only)
       refine Zc0 40 rfl fun hlen40=>?_;refine ζD (ι:={q:Nat×Value//q.1≤(movesOf a s.toNat).length∧q.2.oneCell'=true}) (fun k=>⟨[(0,_,_),(5,_,_),(6,_,_),(7,_,_),(10,_,_),(40,_,_),(41,_,_),(42, .int .i64 k.1.1,pInt k.1.1)],[(1001,h5, .own 197 1 1 [.val h13]),(1002,h6, .own 36 1 1 [.val k.1.2]),(1003,h13, .omap (ikv (ZfY (Za0 (Zbx ((movesOf a s.toNat).take k.1.1)) (Zc2 a l i))))),(1004,k.1.2, .own 3 1 (Za0 (Zbx ((movesOf a s.toNat).take k.1.1)) (Zc2 a l i)).length ((Za0 (Zbx ((movesOf a s.toNat).take k.1.1)) (Zc2 a l i)).map pInt))]⟩) (fun k=>(movesOf a s.toNat).length-k.1.1) ⟨(0,r3),Xf _,hr3⟩ (fun a w H=>H.weaken ⟨rfl,rfl,rfl,rfl,rfl,rfl,rfl,rfl,trivial⟩ ⟨rfl,rfl,rfl,rfl,trivial⟩) ?_;rintro ⟨⟨k,r4⟩,hk4,hr4⟩;dsimp only;dsimp only at hk4 hr4;have hok4:OutOk a.n (Za0 (Zbx ((movesOf a s.toNat).take k)) (Zc2 a l i)):=OutOk.all _ hok3 (ZwS hm _ _);(have hol4:(Za0 (Zbx ((movesOf a s.toNat).take k)) (Zc2 a l i)).length≤1000000:=by have:=hok4.len;omega);refine nav ?_;(refine ζa ?_<;>refine xL 43 ζP ?_<;>refine ζd ?_)
       (first|refine cCd ?_ ?_|refine cC ?_ ?_)<;>intro hb43
       · first
         |exact bN hb43
         | (
          obtain ⟨mv,hmv⟩:=ζo (show k<(movesOf a s.toNat).length by omega);have e3:=Zad ζ0 (movesOf a s.toNat) k mv hmv;have e4:=ZaE ζ0 hmv;refine nav ?_;(refine ζa ?_<;>refine xL 44 (ζW ζG) ?_<;>(refine yL 45 (Zby ζT) fun v45 h=>?_;cases h)<;>refine ζs [(.int .i64 0),(.int .i64 0),(.int .i64 0)] 3 12 Zc1 fun h12=>?_<;>refine ζt 12 ζT ?_<;>refine ζd ?_)
          (refine ζa ?_<;>refine xL 46 (ζe 12 ZaA) ?_<;>(refine yL 47 (ζk 12 ζn) fun v47 h=>?_;cases h)<;>refine xL 48 ζY ?_<;>refine ζd ?_)
          (first|refine cCd ?_ ?_|refine cC ?_ ?_)<;>intro hb48
          · first
            |exact bN hb48
            | (
             refine nav ?_;(refine ζa ?_<;>refine xL 49 ζb (xL 50 (ζe 12 ZaR) ?_)<;>(refine yL 51 (ζk 12 ζn) fun v51 h=>?_;cases h)<;>(refine ζ3 (clH h5 h6 h13 r4 (Za0 (Zbx ((movesOf a s.toNat).take k)) (Zc2 a l i))) ⟨rfl,rfl,rfl,rfl,trivial⟩ ?_;refine Zy3 [] 52 (Tryz.call155) (Zin mv.dst h5 h6 h13 r4 (Za0 (Zbx ((movesOf a s.toNat).take k)) (Zc2 a l i)) hol4 ho13 hr4) ?_;rintro v52 _ _ ⟨rfl,r5,hr5,rfl⟩;rw [Zz9 hmv hb48])<;>refine ζd ?_)
             (refine ζa ?_<;>refine xL 53 ζM (xL 42 ζb ?_)<;>refine ζd ?_)
             try rw [←Zmm hmv (by assumption)]
             first
              | (exact ζh (
                  ⟨(k+1,r5),ζi hmv,hr5⟩
                  ) (by dsimp only;omega) ⟨rfl,rfl,rfl,rfl,rfl,rfl,rfl,rfl,trivial⟩ ⟨rfl,rfl,rfl,rfl,trivial⟩)
              | (exact ζh (
                  ⟨(k+1,r4),ζi hmv,hr4⟩
                  ) (by dsimp only;omega) ⟨rfl,rfl,rfl,rfl,rfl,rfl,rfl,rfl,trivial⟩ ⟨rfl,rfl,rfl,rfl,trivial⟩))
          · first
            |exact bN hb48
            | (
             refine nav ?_;(refine ζa ?_<;>refine xL 53 ζM (xL 42 ζb ?_)<;>refine ζd ?_)
             try rw [←Zmm hmv (by assumption)]
             first
              | (exact ζh (
                  ⟨(k+1,r5),ζi hmv,hr5⟩
                  ) (by dsimp only;omega) ⟨rfl,rfl,rfl,rfl,rfl,rfl,rfl,rfl,trivial⟩ ⟨rfl,rfl,rfl,rfl,trivial⟩)
              | (exact ζh (
                  ⟨(k+1,r4),ζi hmv,hr4⟩
                  ) (by dsimp only;omega) ⟨rfl,rfl,rfl,rfl,rfl,rfl,rfl,rfl,trivial⟩ ⟨rfl,rfl,rfl,rfl,trivial⟩)))
       · first
         |exact bN hb43
         | (
          rw [show Za0 (Zbx ((movesOf a s.toNat).take k)) (Zc2 a l i)=Zc2 a l (i+1) by rw [Zc2,Zio,hs,Xn (by omega)]];refine nav ?_;(refine ζa ?_<;>refine xL 29 ζb (xL 30 ζM (xL 10 ζc ?_))<;>refine ζd ?_)
          refine ζh (
           ⟨(i+1,r4),by dsimp only;omega,hr4⟩
           ) (by dsimp only;omega) ⟨rfl,rfl,rfl,rfl,rfl,trivial⟩ ⟨rfl,rfl,rfl,rfl,trivial⟩))
    · first
      |exact bN hb28
      | (
       have hE:Zc2 a l a.n.toNat=Zc2 a l i:=ZpS (by omega) hi;refine nav ?_;(refine ζa ?_<;>(refine yL 54 (ζk 1002 ζH) fun v54 h=>?_;cases h)<;>(rcases VV (Zc2 a l i).length with h0|h0<;>first|(refine Zz3 (zs:=Zc2 a l i) 1004 Zrz (Tryz.call156) ?_ h0)|(rw [XP h0];refine ZpQ 1004 Zn8 (Tryz.call156) ?_))<;>refine ζd ?_)<;>(
        (refine ζa ?_<;>(refine yL 56 (ζk 1002 ζH) fun v56 h=>?_;cases h)<;>refine xL 4 ζc ?_<;>refine ζd ?_)
        refine Zet 1004 (Tryz.results111) rfl rfl ?_;unfold ZcJ;rw [hE,List.length_mergeSort]
        all_goals first
         |rfl
         |(rw [XP h0,List.mergeSort_nil]))))
def ZdE (c:Int) (ms:List Mv):List Int:=(ms.filter fun m=>decide (m.sym=c)).map (·.dst)
theorem Ztr {c:Int} {ms:List Mv} {k:Nat} {m:Mv} (h:ms[k]? =some m) (hs:m.sym=c):ZdE c (ms.take (k+1))=ZdE c (ms.take k)++[m.dst]:=by
 unfold ZdE;rw [ζU h,VF,XC];simp [hs]
theorem ZpT {c:Int} {ms:List Mv} {k:Nat} {m:Mv} (h:ms[k]? =some m) (hs:¬m.sym=c):ZdE c (ms.take (k+1))=ZdE c (ms.take k):=by
 unfold ZdE;rw [ζU h,VF,XC];simp [hs]
def Zdu (a:Aut) (c:Int) (l:List Int):List Int:=l.flatMap fun s=>ZdE c (movesOf a s.toNat)
theorem ZrA (a:Aut) (c:Int) {l:List Int} {k:Nat} {s:Int} (h:l[k]? =some s):Zdu a c (l.take (k+1))=Zdu a c (l.take k)++ZdE c (movesOf a s.toNat):=by
 unfold Zdu;rw [ζU h,XX];simp
theorem Zmp (c:Int) (ms:List Mv):(ZdE c ms).length≤ms.length:=by unfold ZdE;rw [Xh];exact Ut _ _
theorem Zip (a:Aut) (s:Nat):(movesOf a s).length≤a.moves.length:=Ut _ _
theorem Zmq (a:Aut) (c:Int):∀l:List Int,(Zdu a c l).length≤l.length*a.moves.length
 |[]=>by simp [Zdu]
 | x::l=>by
   have h1:=Zmq a c l;have h2:=Zmp c (movesOf a x.toNat);have h3:=Zip a x.toNat;have h4:Zdu a c (x::l)=ZdE c (movesOf a x.toNat)++Zdu a c l:=rfl;rw [h4,Xd,Xc,XS];omega
theorem ZhJ {a:Aut} (h:ZpR a) (c:Int) (l:List Int):∀t∈Zdu a c l,0≤t∧t<a.n:=fun t ht=>by
 unfold Zdu ZdE movesOf at ht
 simp only [X4,Xo,VW] at ht
 obtain ⟨s,_,m,⟨⟨h1,_⟩,_⟩,rfl⟩:=ht
 exact h m h1
theorem ZwT (e:Nat) (L:List Int) (x:Int):PV.own e 1 (L.length+1) (L.map pInt++[pInt x])= .own e 1 (L++[x]).length ((L++[x]).map pInt):=by simp
def ZfG (a:Aut) (c:Int) (l:List Int):List Int:=ZcJ a (Zdu a c l)
set_option maxHeartbeats 2000000 in
theorem ZAa (a :Aut) (l:List Int) (c:Int) (hn:a.n≤2000) (hmv:a.moves.length≤20000) (hm:ZpR a) (hl:∀s∈l,0≤s∧s<a.n) (hll:l.length≤2000):AF Tryz.prog 112 [pGr a,pInts l,pInt c] (· = .own 3 1 (ZfG a c l).length ((ZfG a c l).map pInt)):=by
 refine AF.of_body 44 Tryz.func112 rfl Tryz.ntmps112 (Xa rfl) ?_
 intro w0 M0 vs hl hv
 obtain ⟨v0,v1,v2,rfl⟩:=ZCn hl
 obtain rfl:=hv 2 _ _ rfl rfl
 clear hl hv
 refine nav ?_
 (refine ζa ?_<;>refine xL 6 ζc ?_<;>refine ζd ?_)
 (refine ζa ?_<;>refine xL 7 ζc ?_<;>refine ζd ?_)
 refine ζC (Zek 200 3 1 rfl) fun _=>?_
 (refine ζa ?_<;>refine xL 12 ζb (xL 13 (ζ9 ζx) (xL 14 ζb ?_))<;>refine ζd ?_)
 refine ζD (ι:={q:Nat×Value//q.1≤l.length∧q.2.oneCell'=true}) (fun k=>⟨[(0,_,_),(2,_,_),(12,_,_),(13,_,_),(7,k.1.2, .val k.1.2),(14, .int .i64 k.1.1,pInt k.1.1)],[(200,k.1.2, .own 3 1 (Zdu a c (l.take k.1.1)).length ((Zdu a c (l.take k.1.1)).map pInt))]⟩) (fun k=>l.length-k.1.1) ⟨(0, .slice none 0 0),Xf _,rfl⟩ (fun a w H=>H.weaken ⟨rfl,rfl,rfl,rfl,rfl,rfl,trivial⟩ ⟨rfl,trivial⟩) ?_
 rintro ⟨⟨k,r⟩,hk,hr⟩
 dsimp only
 dsimp only at hk hr
 have hlk:=Zmq a c (l.take k)
 refine nav ?_
 (refine ζa ?_<;>refine xL 15 ζP ?_<;>refine ζd ?_)
 (first|refine cCd ?_ ?_|refine cC ?_ ?_)<;>intro hb15
 · first
   |exact bN hb15
   | (
    obtain ⟨s,hs⟩:=ζo (show k<l.length by omega);have hsr:=hl s (Xg hs);have e1:=Zbd (f:=pInt) hs;(have e2:((List.range a.n.toNat).map fun s=>pMvs (movesOf a s))[s.toNat*1]? =some (pMvs (movesOf a s.toNat)):=by rw [XJ,ZkU (by omega)]);(have e2':s.toNat<a.n.toNat:=by omega);have hml:=Zip a s.toNat;have hlk2:(Zdu a c (l.take k)).length≤40000000:=by
     refine XU hlk ?_;(have h5:(l.take k).length≤2000:=by rw [Xt];omega);exact XU (Uf h5 hmv) (by decide)
    obtain ⟨A,hA⟩:∃A,A=Zdu a c (l.take k):=⟨_,rfl⟩;rw [←hA] at hlk2 ⊢;refine nav ?_;(refine ζa ?_<;>refine xL 16 (ζW ζx) ?_<;>(refine yL 17 (Zc6 ζn) fun v17 h=>?_;cases h)<;>refine xL 9 ζc ?_<;>refine ζd ?_)
    (refine ζa ?_<;>refine xL 18 ζb (xL 19 Ztf (xL 20 (Zrs Zdd) ?_))<;>(refine yL 21 (Zc6 ZeX) fun v21 h=>?_;cases h)<;>refine xL 22 ζb (xL 23 (Zn2 ZeY) ?_)<;>(refine yL 24 (Zc6 ζF) fun v24 h=>?_;cases h)<;>refine xL 25 (ζ9 ζG) (xL 26 ζb ?_)<;>refine ζd ?_)
    rw [show A=A++ZdE c ((movesOf a s.toNat).take 0) from (XA A).symm];refine ζD (ι:={q:Nat×Value//q.1≤(movesOf a s.toNat).length∧q.2.oneCell'=true}) (fun k=>⟨[(0,_,_),(2,_,_),(12,_,_),(13,_,_),(14,_,_),(24,_,_),(25,_,_),(7,k.1.2, .val k.1.2),(26, .int .i64 k.1.1,pInt k.1.1)],[(200,k.1.2, .own 3 1 (A++ZdE c ((movesOf a s.toNat).take k.1.1)).length ((A++ZdE c ((movesOf a s.toNat).take k.1.1)).map pInt))]⟩) (fun k=>(movesOf a s.toNat).length-k.1.1) ⟨(0,r),Xf _,hr⟩ (fun a w H=>H.weaken ⟨rfl,rfl,rfl,rfl,rfl,rfl,rfl,rfl,rfl,trivial⟩ ⟨rfl,trivial⟩) ?_;rintro ⟨⟨j,r4⟩,hj4,hr4⟩;dsimp only;dsimp only at hj4 hr4;have hbl:=Zmp c ((movesOf a s.toNat).take j);rw [Xt] at hbl;(have hol:(A++ZdE c ((movesOf a s.toNat).take j)).length≤41000000:=by rw [Xd];omega);refine nav ?_;(refine ζa ?_<;>refine xL 27 ζP ?_<;>refine ζd ?_)
    (first|refine cCd ?_ ?_|refine cC ?_ ?_)<;>intro hb27
    · first
      |exact bN hb27
      | (
       obtain ⟨mv,hmv2⟩:=ζo (show j<(movesOf a s.toNat).length by omega);have e3:=Zad ζ0 (movesOf a s.toNat) j mv hmv2;have e4:=ZaE ζ0 hmv2;refine nav ?_;(refine ζa ?_<;>refine xL 28 (ζW ζG) ?_<;>(refine yL 29 (Zby ζT) fun v29 h=>?_;cases h)<;>refine ζs [(.int .i64 0),(.int .i64 0),(.int .i64 0)] 3 11 Zc1 fun h11=>?_<;>refine ζt 11 ζT ?_<;>refine ζd ?_)
       (refine ζa ?_<;>refine xL 30 (ζe 11 ZaA) ?_<;>(refine yL 31 (ζk 11 ζn) fun v31 h=>?_;cases h)<;>refine xL 32 ζb (xL 33 ζY ?_)<;>refine ζd ?_)
       (first|refine cCd ?_ ?_|refine cC ?_ ?_)<;>intro hb33
       · first
         |exact bN hb33
         | (
          refine nav ?_;(refine ζa ?_<;>refine xL 34 ζb (xL 35 (ζe 11 ZaR) ?_)<;>(refine yL 36 (ζk 11 ζn) fun v36 h=>?_;cases h)<;>refine ζ6 (kk:=1) 37 ζz fun h37 ho37=>?_<;>(refine ζ3 [(200,_,_),(37,_,_)] ⟨rfl,rfl,trivial⟩ ?_;refine ZbH 200 37 38 ζz fun h38 ho38=>?_;refine ζq (ζJ (l:=38) 200 rfl rfl) fun _=>?_;refine ζ3 [(200,h38,PV.own 3 1 (A++ZdE c ((movesOf a s.toNat).take (j+1))).length ((A++ZdE c ((movesOf a s.toNat).take (j+1))).map pInt))] ⟨(by rw [Ztr hmv2 hb33,←Xw,←ZwT];rfl),trivial⟩ ?_)<;>refine xL 7 ζc ?_<;>refine ζd ?_)
          (refine ζa ?_<;>refine xL 39 ζM (xL 26 ζb ?_)<;>refine ζd ?_)
          try rw [←ZpT hmv2 (by assumption)]
          first
           | (exact ζh (
               ⟨(j+1,h38),ζi hmv2,ho38⟩
               ) (by dsimp only;omega) ⟨rfl,rfl,rfl,rfl,rfl,rfl,rfl,rfl,rfl,trivial⟩ ⟨rfl,trivial⟩)
           | (exact ζh (
               ⟨(j+1,r4),ζi hmv2,hr4⟩
               ) (by dsimp only;omega) ⟨rfl,rfl,rfl,rfl,rfl,rfl,rfl,rfl,rfl,trivial⟩ ⟨rfl,trivial⟩))
       · first
         |exact bN hb33
         | (
          refine nav ?_;(refine ζa ?_<;>refine xL 39 ζM (xL 26 ζb ?_)<;>refine ζd ?_)
          try rw [←ZpT hmv2 (by assumption)]
          first
           | (exact ζh (
               ⟨(j+1,h38),ζi hmv2,ho38⟩
               ) (by dsimp only;omega) ⟨rfl,rfl,rfl,rfl,rfl,rfl,rfl,rfl,rfl,trivial⟩ ⟨rfl,trivial⟩)
           | (exact ζh (
               ⟨(j+1,r4),ζi hmv2,hr4⟩
               ) (by dsimp only;omega) ⟨rfl,rfl,rfl,rfl,rfl,rfl,rfl,rfl,rfl,trivial⟩ ⟨rfl,trivial⟩)))
    · first
      |exact bN hb27
      | (
       rw [show A++ZdE c ((movesOf a s.toNat).take j)=Zdu a c (l.take (k+1)) by rw [Xn (by omega),ZrA a c hs,hA]];refine nav ?_;(refine ζa ?_<;>refine xL 40 ζM (xL 14 ζb ?_)<;>refine ζd ?_)
       refine ζh (
        ⟨(k+1,r4),ζi hs,hr4⟩
        ) (by dsimp only;omega) ⟨rfl,rfl,rfl,rfl,rfl,rfl,trivial⟩ ⟨rfl,trivial⟩))
 · first
   |exact bN hb15
   | (
    refine nav ?_;(refine ζa ?_<;>refine xL 41 ζb (xL 42 ζb ?_)<;>(refine ζq (En.freeze (l:=200) (t:=42) rfl rfl) fun _=>?_;rw [Zaq _ _ _ rfl];refine cO 43 (cA Tryz.call111 (ZjO a (Zdu a c (l.take k)) hn hm (ZhJ hm c _))) fun v43 ho43=>?_)<;>refine xL 6 ζc ?_<;>refine ζd ?_)
    refine Zet 43 (Tryz.results112) rfl rfl ?_;rw [Xn (by omega)];rfl)
def Srt (l:List Int):Prop:=l.Pairwise (· < ·)
theorem Zts:∀{l m:List Int},Srt l→Srt m→(∀x,x∈l↔x∈m)→l=m
 |[],[],_,_,_=>rfl
 |[],y::m,_,_,h=>absurd ((h y).2 (Xk ..)) (by simp)
 |x::l,[],_,_,h=>absurd ((h x).1 (Xk ..)) (by simp)
 | x ::l,y::m,hl,hm,h=>by
   have hl':=XO.1 hl;have hm':=XO.1 hm;have hxy:x=y:=by
    have h1:=(h x).1 (Xk ..);have h2:=(h y).2 (Xk ..);rcases Xm.1 h1 with e|h1
    · exact e
    · rcases Xm.1 h2 with e|h2
      · exact e.symm
      · have:=hm'.1 x h1;have:=hl'.1 y h2;omega
   subst hxy;congr 1;refine Zts hl'.2 hm'.2 fun z=>⟨fun hz=>?_,fun hz=>?_⟩
   · rcases Xm.1 ((h z).1 (Xj _ hz)) with e|h1
     · have:=hl'.1 z hz;omega
     · exact h1
   · rcases Xm.1 ((h z).2 (Xj _ hz)) with e|h1
     · have:=hm'.1 z hz;omega
     · exact h1
inductive Rch (a:Aut) (l:List Int):Int→Prop
 |base {s:Int} (h:s∈l):Rch a l s
 |step {s:Int} {m:Mv} (h:Rch a l s) (hm:m∈a.moves) (hs:m.src=s) (hc:m.sym= -1):Rch a l m.dst
theorem Ztt {out:List Int} {s t:Int}:t∈Zft out s↔t∈out∨t=s:=by
 unfold Zft;split
 · rename_i h;constructor
   · exact .inl
   · rintro (h1|rfl)
     · exact h1
     · simpa using h
 · simp
theorem ZdF:∀(l:List Int) {out:List Int} {t:Int},t∈Za0 l out↔t∈out∨t∈l
 |[],out,t=>by simp [Za0]
 | x::l,out,t=>by
   show t∈Za0 l (Zft out x)↔_;rw [ZdF l,Ztt,Xm];exact or_assoc
theorem Ztu (out:List Int) (s:Int):out<+:Zft out s:=by
 unfold Zft;split
 · exact VM _
 · exact List.prefix_append _ _
theorem ZjP:∀(l out:List Int),out<+:Za0 l out
 |[],out=>VM _
 |x::l,out=>(Ztu out x).trans (ZjP l (Zft out x))
theorem Ztv (a:Aut) (l:List Int) (i:Nat):Zc2 a l i<+:Zc2 a l (i+1):=by
 rw [Zc2,Zio];split
 · exact ZjP _ _
 · exact VM _
theorem ZhK (a:Aut) (l:List Int) (i:Nat):∀j,Zc2 a l i<+:Zc2 a l (i+j)
 |0=>VM _
 |j+1=>(ZhK a l i j).trans (Ztv a l (i+j))
theorem ZAb {l m:List Int} (h:l<+:m) {i:Nat} {x:Int} (hx:l[i]? =some x):m[i]? =some x:=by
 obtain ⟨r,rfl⟩:=h
 rw [X2 (ζi hx)];exact hx
theorem ZjQ {a:Aut} {s:Int} (h0:0≤s) {t:Int}:t∈Zbx (movesOf a s.toNat)↔∃m∈a.moves,m.src=s∧m.sym= -1∧m.dst=t:=by
 unfold Zbx movesOf
 simp only [Xo,VW,decide_eq_true_eq]
 constructor
 · rintro ⟨m,⟨⟨h1,h2⟩,h3⟩,h4⟩;exact ⟨m,h1,by omega,h3,h4⟩
 · rintro ⟨m,h1,h2,h3,h4⟩;exact ⟨m,⟨⟨h1,by omega⟩,h3⟩,h4⟩
theorem ZeZ {a:Aut} {l:List Int} (h:ZpR a) (hl:∀s∈l,0≤s∧s<a.n):∀i t,t∈Zc2 a l i→Rch a l t
 | 0,t,ht=>by
   rw [Zc2,ZdF] at ht;exact .base (by simpa using ht)
 | i + 1,t,ht=>by
   rw [Zc2,Zio] at ht;split at ht
   · rename_i s hs;rcases (ZdF _).1 ht with h1|h1
     · exact ZeZ h hl i t h1
     · have hsm:=Xg hs;obtain ⟨m,h2,h3,h4,rfl⟩:=(ZjQ ((ZgF h hl i).2 s hsm).1).1 h1;exact .step (ZeZ h hl i s hsm) h2 h3 h4
   · exact ZeZ h hl i t ht
theorem Ztw {a:Aut} {l:List Int} (h:ZpR a) (hl:∀s∈l,0≤s∧s<a.n) {t:Int} (ht:Rch a l t):t∈Zc2 a l a.n.toNat:=by
 induction ht with
 | base h1=>
   have h2:Zc2 a l 0<+:Zc2 a l (0+a.n.toNat):=ZhK a l 0 a.n.toNat;rw [Xx] at h2;refine h2.subset ?_;rw [Zc2,ZdF];exact .inr h1
 | @step s m h1 hm hs hc ih=>
   obtain ⟨i,hi⟩:=Vc ih;have hil:=ζi hi;have hok:=ZgF h hl a.n.toNat;have hlen:=hok.len;have h3:i<(Zc2 a l i).length:=by
    rcases Xq i (Zc2 a l i).length with h4|h4
    · exact h4
    · have h5:=ZpS h4 (show i≤a.n.toNat by omega);rw [h5] at hil;omega
   have h4:(Zc2 a l i)[i]? =some s:=by
    have h5:=ZhK a l i (a.n.toNat-i);rw [show i+(a.n.toNat-i)=a.n.toNat by omega] at h5;obtain ⟨x,hx⟩:=ζo h3;rw [hx,←hi];exact (ZAb h5 hx).symm
   have h5:m.dst∈Zc2 a l (i+1):=by
    rw [Zc2,Zio,h4];refine (ZdF _).2 (.inr ((ZjQ (hok.2 s ih).1).2 ⟨m,hm,hs,hc,rfl⟩))
   have h6:=ZhK a l (i+1) (a.n.toNat-(i+1));rw [show i+1+(a.n.toNat-(i+1))=a.n.toNat by omega] at h6;exact h6.subset h5
theorem Zex {a:Aut} {l:List Int} (h:ZpR a) (hl:∀s∈l,0≤s∧s<a.n) (t:Int):t∈ZcJ a l↔Rch a l t:=by
 unfold ZcJ
 rw [List.mem_mergeSort]
 exact ⟨ZeZ h hl _ t,Ztw h hl⟩
theorem Ziq {a:Aut} {l:List Int} (h:ZpR a) (hl:∀s∈l,0≤s∧s<a.n):Srt (ZcJ a l):=by
 have h1:(ZcJ a l).Pairwise (fun x y=>decide (x≤y)=true):=UD (fun a b c h1 h2=>by simp only [decide_eq_true_eq] at*;omega) (fun a b=>by simp only [XT,decide_eq_true_eq];omega) _
 have h2:(ZcJ a l).Nodup:=(Uu _ _).nodup_iff.2 (ZgF h hl _).1
 unfold Srt
 exact (h1.and h2).imp fun {x y} ⟨h3,h4⟩=>by simp only [decide_eq_true_eq] at h3;omega
theorem ZCu {a:Aut} {l:List Int} (h:ZpR a) (hl:∀s∈l,0≤s∧s<a.n) {t:Int} (ht:Rch a l t):0≤t∧t<a.n:=by
 cases ht with
 |base h1=>exact hl t h1
 |step _ hm _ _=>exact h _ hm
theorem ZkV {a:Aut} {l:List Int} (h:ZpR a) (hl:∀s∈l,0≤s∧s<a.n):∀t∈ZcJ a l,0≤t∧t<a.n:=fun t ht=>ZCu h hl ((Zex h hl t).1 ht)
theorem Zir {a:Aut} {c:Int} {l:List Int} (hl:∀s∈l,0≤s∧s<a.n) {t:Int}:t∈Zdu a c l↔∃m∈a.moves,m.src∈l∧m.sym=c∧m.dst=t:=by
 unfold Zdu ZdE movesOf
 simp only [X4,Xo,VW,decide_eq_true_eq]
 constructor
 · rintro ⟨s,hs,m,⟨⟨h1,h2⟩,h3⟩,h4⟩;have:=hl s hs;exact ⟨m,h1,by rw [h2,show ((s.toNat:Nat):Int)=s by omega];exact hs,h3,h4⟩
 · rintro ⟨m,h1,h2,h3,h4⟩;have:=hl _ h2;exact ⟨m.src,h2,m,⟨⟨h1,by omega⟩,h3⟩,h4⟩
def ZCv (m:Mv) (d:Int):Int:=if 0≤m.sym then d+1 else d
def ZDO (far:List Int) (m:Mv):List Int:=
 match far[m.dst.toNat]?,far[m.src.toNat]? with
 |some d,some e=>if 0≤d∧(e<0∨ZCv m d<e) then far.set m.src.toNat (ZCv m d) else far
 |_,_=>far
def passF (ms:List Mv) (far:List Int):List Int:=ms.foldl ZDO far
def cntD (far:List Int):Nat:=far.countP fun d=>decide (0≤d)
def wgt (n:Nat) (d:Int):Nat:=if 0≤d then d.toNat else n
def sumF (n:Nat) (far:List Int):Nat:=(far.map (wgt n)).sum
structure FarOk (n:Nat) (far:List Int):Prop where
 len:far.length=n
 lo:∀d∈far,-1≤d
 hi:∀d∈far,d<cntD far
def Zjn (a:Aut) (S:List Int):Bool:=S.any (ZsJ a)
def InS (a:Aut) (S:List Int):Prop:=∀s∈S,0≤s∧s<a.n
theorem ZAc {a:Aut} (h:ZpR a) (c:Int) (S:List Int):InS a (ZfG a c S):=ZkV h (ZhJ h c S)
end Go.Proofs.YtgfabnhpllkebaaGreatDoor
namespace Go.Cb
set_option linter.all false
end Go.Cb
