/-
  Walks: the reference's automata: the table of the pairs of two automata.
  Walks: the reference's automata: the pairs of two least automata.
  Walks: the reference's automata: Product.
  Walks: the reference's automata: given, added, moved, insert, finish.
  Walks: the reference's automata: Union, Star, Reverse.
  Walks: the reference's automata: Concat.
  Walks: the reference's automata: Shuffle.
  Walks: languages of trees: the reference's automata of words, and of trees out of those of their parts.
  Plain laws: the chapter's automaton, its star, what they are compared with, evaluated. No program in sight.
  Walks: awake (layer 7).
  The engine: a struct of five fields read as an argument. No program in sight.
-/
import Derived.Test.YtgfabnhpllkebaaGreatDoorPk11
import Derived.Test.YtgfabnhpllkebaaGreatDoorPk09
import Derived.Test.YtgfabnhpllkebaaGreatDoorPk07
import Derived.Test.YtgfabnhpllkebaaGreatDoorPk08
import Derived.Test.YtgfabnhpllkebaaGreatDoorPk06
import Derived.Test.YtgfabnhpllkebaaGreatDoorPk04
import Derived.Test.YtgfabnhpllkebaaGreatDoorPk05
import Derived.Test.YtgfabnhpllkebaaGreatDoorPk01
namespace Go.Proofs.YtgfabnhpllkebaaGreatDoor
open Go.RowKit Go.Cb Go.En
set_option linter.all false
set_option maxRecDepth 100000
theorem Zpj (l : List Mv) (m:Mv) (hl:l.length≤1000000) (ha:AscM l):AF Tryz.prog 133 [pMvs l, .agg (cMv m)] (· =pMvs (Zoj m l)):=by
 refine AF.of_body 47 Tryz.func133 rfl Tryz.ntmps133 (Xa rfl) ?_
 intro w0 M0 vs hl hv
 obtain ⟨v0,v1,rfl⟩:=ZdW hl
 clear hl hv
 refine Zc0 0 rfl fun hlen=>?_
 refine nav ?_
 (refine ζa ?_<;>refine ζS 3 3 fun h3=>?_<;>refine xL 4 ζc ?_<;>refine ζd ?_)
 (refine ζa ?_<;>refine xL 7 ζb (xL 8 (ζ9 ζG) (xL 5 ζc ?_))<;>refine ζd ?_)
 refine ζD (ι:={i:Nat//i≤l.length∧∀(j:Nat) (x:Mv),i≤j→l[j]? =some x→Zd3 m x=true}) (fun k=>⟨[(0,_,_),(3,_,_),(5, .int .i64 k.1,pInt k.1)],[(3,_,_)]⟩) (fun k=>k.1) ⟨l.length,Xb _,fun j x h1 h2=>by have:=ζi h2;omega⟩ (fun a w H=>H.weaken ⟨rfl,rfl,rfl,trivial⟩ ⟨rfl,trivial⟩) ?_
 rintro ⟨i,hi,hp⟩
 dsimp only
 obtain ⟨x,hx⟩:∃x:Mv,0<i→l[((i:Int)-1).toNat]? =some x:=by
  rcases VV i with h0|h0
  · exact ⟨m,fun h=>by omega⟩
  · obtain ⟨x,hx⟩:=ζo (show ((i:Int)-1).toNat<l.length by omega);exact ⟨x,fun _=>hx⟩
 have hi1:((i:Int)-1).toNat=i-1:=by omega
 refine nav ?_
 (refine ζV (fun i=>([]:List Nat).elem i) [3] kR ?_<;>refine xE 0 9 rfl ζb ?_<;>refine xE 1 10 rfl ZaQ ?_<;>refine xE 2 11 rfl ζb ?_<;>(refine bDd 11 (fun hb11=>?_) (fun hb11=>?_)<;>(first|refine kD 3 12 rfl ?_|(have hx2:=hx (by omega);have e1:=Zad ζ0 l ((i:Int)-1).toNat x hx2;have e2:=ZaE ζ0 hx2;refine yD 3 12 rfl (ζm (k:=3) (ps:=cMv m) 3 kR) fun v12 h=>?_;cases h)))<;>(first|refine kD 4 13 rfl ?_|refine xD 4 13 rfl ζb ?_)<;>(first|refine kD 5 14 rfl ?_|refine xD 5 14 rfl ζb ?_)<;>(first|refine kD 6 15 rfl ?_|refine xD 6 15 rfl ZgB ?_)<;>(first|refine kD 7 16 rfl ?_|refine xD 7 16 rfl (Zn2 ζG) ?_)<;>(first|refine kD 8 17 rfl ?_|(refine yD 8 17 rfl (Zby ζT) fun v17 h=>?_;cases h))<;>(refine ζj 9 kR ?_)<;>(first|(refine Zdt (d:=18) rfl (cA Tryz.call187 (Zoe m x)) fun v18 h=>?_;cases h)|(refine ζg rfl fun w9 M9 N9 DQ back=>?_;refine kL 18 ?_;refine ζf (back _ (nrm ?_))))<;>refine xE 10 19 rfl ζv ?_<;>refine Zae kR (nav ?_)<;>try dsimp only)<;>(
  (first|refine cCd ?_ ?_|refine cC ?_ ?_)<;>intro hb19
  · first
    |exact bN hb19
    | (
     refine nav ?_;(refine ζa ?_<;>refine xL 20 ζb (xL 21 ZgB (xL 5 ζc ?_))<;>refine ζd ?_)
     (have hi0:0<i:=by omega);rw [show ((i:Int)-1)=((i-1:Nat):Int) by omega];refine ζh (
      ⟨i -1,by omega,fun j y h1 h2=>by
       by_cases e:j=i-1
       · have hx3:=hx hi0;rw [hi1,←e,h2] at hx3;cases hx3;exact ZcR.1 hb19
       · exact hp j y (by omega) h2⟩
      ) (by dsimp only;omega) ⟨rfl,rfl,rfl,trivial⟩ ⟨rfl,trivial⟩)
  · first
    |exact bN hb19
    | (
     refine nav ?_;(refine ζV (fun i=>([]:List Nat).elem i) [3] kR ?_<;>refine xE 0 22 rfl ζb ?_<;>refine xE 1 23 rfl ZaQ ?_<;>refine xE 2 24 rfl ζb ?_<;>(refine bDd 24 (fun hb24=>?_) (fun hb24=>?_)<;>(first|refine kD 3 25 rfl ?_|(have hx2:=hx (by omega);have e1:=Zad ζ0 l ((i:Int)-1).toNat x hx2;have e2:=ZaE ζ0 hx2;refine xD 3 25 rfl ζb ?_)))<;>(first|refine kD 4 26 rfl ?_|refine xD 4 26 rfl ζb ?_)<;>(first|refine kD 5 27 rfl ?_|refine xD 5 27 rfl ZgB ?_)<;>(first|refine kD 6 28 rfl ?_|refine xD 6 28 rfl (Zn2 ζG) ?_)<;>(first|refine kD 7 29 rfl ?_|(refine yD 7 29 rfl (Zby ζT) fun v29 h=>?_;cases h))<;>(first|refine kD 8 30 rfl ?_|(refine yD 8 30 rfl (ζm 3 ζT) fun v30 h=>?_;cases h))<;>(first|refine kD 9 31 rfl ?_|refine xD 9 31 rfl ((ZtA (us:=vMv x) (us':=vMv m) ZCH ZCI ZCJ (ZeG x m) rfl rfl)) ?_)<;>refine xE 10 32 rfl ζv ?_<;>refine Zae kR (nav ?_)<;>try dsimp only)<;>(
      (first|refine cCd ?_ ?_|refine cC ?_ ?_)<;>intro hb32
      · first
        |exact bN hb32
        | (
         refine nav ?_;(refine ζa ?_<;>refine xL 33 ζb (xL 4 ζc ?_)<;>refine ζd ?_)
         refine ζp (Tryz.results133) rfl ?_
         first
          |(exfalso;simp at hb32;done)
          | (have hxm:=ZcK.1 hb32
             rw [ZAs ha (hxm▸Xg (hx (by omega)))]))
      · first
        |exact bN hb32
        | (
         refine nav ?_;have g1:=ZgL ζ0 l;have f5:(l.flatMap cMv).length=l.length*3:=flat_len ζ0 l;(have f1:(((l.flatMap cMv).drop (0*3)).take ((i-0)*3)).length=(i-0)*3:=by rw [Xt,XQ,f5];omega);(have f3:(((l.flatMap cMv).drop (i*3)).take ((l.length-i)*3)).length=(l.length-i)*3:=by rw [Xt,XQ,f5];omega);have f0:∀q∈l.flatMap cMv,En.one q=true:=Xy.1 (Zto l);have f2:(((l.flatMap cMv).drop (0*3)).take ((i-0)*3)).all En.one=true:=Xy.2 fun q hq=>f0 q (Ui (VX hq));have f4:(((l.flatMap cMv).drop (i*3)).take ((l.length-i)*3)).all En.one=true:=Xy.2 fun q hq=>f0 q (Ui (VX hq));(refine ζV (fun i=>([]:List Nat).elem i) [3] kR ?_<;>refine xD 1 35 rfl ζb ?_<;>refine xD 2 36 rfl ζb ?_<;>refine xD 3 37 rfl (Zib (i:=0) (j:=i) ζG rfl rfl rfl rfl (Xf _) hi f5) ?_<;>(refine yD 5 39 rfl (ζm 3 ζT) fun v39 h=>?_;cases h)<;>(refine Zat 0 6 kR ?_ ?_;rotate_right;(focus ((refine ζg rfl fun w9 M9 N9 DQ back=>?_)<;>refine Zbi 40 ζR fun h40 ho40=>?_<;>refine ζf (back _ (nrm ?_))<;>(refine ζj 0 kR ?_)<;>(refine ζg rfl fun w9 M9 N9 DQ back=>?_)<;>refine Zmb 34 ζR fun h34 ho34=>?_<;>refine ζf (back _ (nrm ?_))<;>(refine ζj 4 kR ?_)<;>(refine ζg rfl fun w9 M9 N9 DQ back=>?_)<;>refine Zev 34 38 ζR (fun h38 ho38=>?_) f1 f2<;>refine ζf (back _ (nrm ?_))<;>(refine ζj 7 kR ?_)<;>(refine ζg rfl fun w9 M9 N9 DQ back=>?_)<;>refine ZbH 38 40 41 ζR fun h41 ho41=>?_<;>refine ζf (back _ (nrm ?_))<;>refine xE 8 6 rfl ζc ?_));rotate_right;(focus ((refine ζg rfl fun w9 M9 N9 DQ back=>?_)<;>refine Zmb 34 ζR fun h34 ho34=>?_<;>refine ζf (back _ (nrm ?_))<;>(refine Zat 4 6 kR ?_ ?_;rotate_right;(focus ((refine ζg rfl fun w9 M9 N9 DQ back=>?_)<;>refine Zbi 40 ζR fun h40 ho40=>?_<;>refine ζf (back _ (nrm ?_))<;>(refine ζj 4 kR ?_)<;>(refine ζg rfl fun w9 M9 N9 DQ back=>?_)<;>refine Zev 34 38 ζR (fun h38 ho38=>?_) f1 f2<;>refine ζf (back _ (nrm ?_))<;>(refine ζj 7 kR ?_)<;>(refine ζg rfl fun w9 M9 N9 DQ back=>?_)<;>refine ZbH 38 40 41 ζR fun h41 ho41=>?_<;>refine ζf (back _ (nrm ?_))<;>refine xE 8 6 rfl ζc ?_));rotate_right;(focus ((refine ζg rfl fun w9 M9 N9 DQ back=>?_)<;>refine Zev 34 38 ζR (fun h38 ho38=>?_) f1 f2<;>refine ζf (back _ (nrm ?_))<;>(refine ζj 6 kR ?_)<;>(refine ζg rfl fun w9 M9 N9 DQ back=>?_)<;>refine Zbi 40 ζR fun h40 ho40=>?_<;>refine ζf (back _ (nrm ?_))<;>(refine ζj 7 kR ?_)<;>(refine ζg rfl fun w9 M9 N9 DQ back=>?_)<;>refine ZbH 38 40 41 ζR fun h41 ho41=>?_<;>refine ζf (back _ (nrm ?_))<;>refine xE 8 6 rfl ζc ?_))))))<;>refine Zae kR (nav ?_)<;>try dsimp only)<;>(
          (refine ζa ?_<;>refine xL 42 ζb (xL 43 ζb (xL 44 ζb ?_))<;>refine xL 45 (Zib (i:=i) (j:=l.length) ζG rfl rfl rfl rfl hi (Xb _) f5) ?_<;>refine Zev 41 46 ζR (fun h46 ho46=>?_) f3 f4<;>refine xL 4 ζc ?_<;>refine ζd ?_)
          have hn :∀y,0<i→l[i-1]? =some y→Zd3 m y=false∧y≠m:=fun y h0 hy=>by
           first
            |(exfalso;omega)
            | (have hx3:=hx h0
               rw [hi1,hy] at hx3;cases hx3;refine ⟨?_,fun e=>?_⟩
               · cases hc:Zd3 m x with
                 |false=>rfl
                 |true=>exact absurd (ZcR.2 hc) hb19
               · simp [ZcK.2 e] at hb32)
          have hcells:[]++((l.flatMap cMv).drop (0*3)).take ((i-0)*3)++cMv m++((l.flatMap cMv).drop (i*3)).take ((l.length-i)*3)=(Zoj m l).flatMap cMv:=by
           rw [Zud ha hi hp hn,XX,XX,Vy,Vu,Vv,Vg,ZgK ζ0,ZgL ζ0,Xn (show ((l.drop i).flatMap cMv).length≤(l.length-i)*3 by rw [flat_len ζ0,XQ];exact Xb _),Vf]
          have hlen2:0+(i-0)+1+(l.length-i)=(Zoj m l).length:=by
           rw [Zud ha hi hp hn,Xd,Xd,Xt,XQ,Xz];omega
          refine Zcr (ζI (l:=46) (p':= .own 93 3 (Zoj m l).length ((Zoj m l).flatMap cMv)) rfl (by rw [←hcells,←hlen2];rfl)) fun _=>?_;refine Zcr (En.freeze (l:=46) (t:=4) rfl rfl) fun _=>?_;rw [Zf6 _ _ _ rfl];exact ζp (Tryz.results133) rfl rfl)))))
theorem ZgX:AggT Tryz.prog 39 5=true:=by kernel_rfl
theorem ZgY:ElT Tryz.prog 139 4 1 1 (.bool false):=⟨Tryz.underlying139,by kernel_rfl,rfl,by decide⟩
theorem Zjg:ElT Tryz.prog 36 3 1 8 (.int .i64 0):=⟨Tryz.underlying36,by kernel_rfl,rfl,by decide⟩
theorem ZfP:FldT Tryz.prog 39 0 0=true:=by kernel_rfl
theorem Zjh:FldT Tryz.prog 39 3 3=true:=by kernel_rfl
theorem ZfQ:FldT Tryz.prog 39 4 4=true:=by kernel_rfl
theorem Zgu:NoAgg Tryz.prog 36=true:=by kernel_rfl
theorem Zji:NoAgg Tryz.prog 37=true:=by kernel_rfl
theorem Zh6:NoAgg Tryz.prog 3=true:=by kernel_rfl
theorem Zri:NoAgg Tryz.prog 4=true:=by kernel_rfl
theorem ZgZ:SlT Tryz.prog 117 36 1=true:=by kernel_rfl
theorem Zg0:SlT Tryz.prog 139 4 1=true:=by kernel_rfl
theorem ZnK:SlT Tryz.prog 36 3 1=true:=by kernel_rfl
theorem Zwf:SlT Tryz.prog 37 93 3=true:=by kernel_rfl
theorem Zwg:ZaZ Tryz.prog 39=some ((.agg #[(.int .i64 0),(.int .i64 0),(.slice none 0 0),(.slice none 0 0),(.slice none 0 0)]),([0,1,2,3,4]:List Nat).map fun o=>(o,1)):=by kernel_rfl
theorem Zwh:ZaZ Tryz.prog 93=some ((.agg #[(.int .i64 0),(.int .i64 0),(.int .i64 0)]),([0,1,2]:List Nat).map fun o=>(o,1)):=by kernel_rfl
theorem Zwi:(Tryz.prog.info? 36).map (·.size)=some 1:=by kernel_rfl
theorem Zwj:(Tryz.prog.info? 37).map (·.size)=some 1:=by kernel_rfl
theorem ZyP:(Tryz.prog.info? 3).map (·.size)=some 1:=by kernel_rfl
theorem ZyQ:(Tryz.prog.info? 4).map (·.size)=some 1:=by kernel_rfl
theorem ZnL:ZeroT Tryz.prog 39 (.agg #[(.int .i64 0),(.int .i64 0),(.slice none 0 0),(.slice none 0 0),(.slice none 0 0)]):=by unfold ZeroT;kernel_rfl
def Zwk (w:List Int) (n:Int):Aut:=⟨(1+w.length:Nat),n,[0],[(w.length:Nat)],w.map fun k=>⟨0,1,k⟩⟩
theorem ZnM (n:Nat) (k:Int):Zwk [k] n=Zhz n k:=rfl
theorem Zrj (n:Nat):Zwk [] n=Zuz n:=rfl
def Zwv (w:List Int) (i:Nat):List Bool:=if i=0 then [false] else (List.replicate (w.length+1) false).set w.length true
theorem ZyR {w:List Int} {i:Nat} (hi:i≤1):(Zwv w i).length=if i=0 then 1 else w.length+1:=by
 unfold Zwv
 split<;>simp
def ZnN (w:List Int) (i:Nat):List Int:=if w.length<i then [((w.length:Nat):Int)] else []
theorem ZyS (w:List Int) (i:Nat):(ZnN w i).length≤1:=by unfold ZnN;split<;>simp
theorem ZBZ {w:List Int} {m:Nat} (h:m<w.length+1):((Zwv w 1).map ζ7)[m*1]? =some (ζ7 (decide (m=w.length))):=by
 unfold Zwv
 rw [if_neg (by decide),XJ,Xl]
 by_cases e:m=w.length
 · subst e;rw [X1 (by simp),decide_eq_true rfl];rfl
 · rw [X' (fun h=>e h.symm),List.getElem?_replicate_of_lt h,decide_eq_false e];rfl
theorem ZB0 (n:Int):Rr (.agg [pInt 1,pInt n,pInts [0], .val (.slice none 0 0), .val (.slice none 0 0)]) (.agg [pInt 1,pInt n,pInts [0], .val (.slice none 0 0),pMvs []]):=Rr.agg rfl fun i p p' h1 h2=>by
 match i with
 |0=>cases h1;cases h2;exact Rr.rfl' _
 |1=>cases h1;cases h2;exact Rr.rfl' _
 |2=>cases h1;cases h2;exact Rr.rfl' _
 |3=>cases h1;cases h2;exact Rr.rfl' _
 |4=>cases h1;cases h2;exact Rr.nil
 |i+5=>simp at h1
set_option maxHeartbeats 4000000 in
theorem ZnO (w :List Int) (n:Int) (hw:w.length≤1):AF Tryz.prog 85 [Ztk [w],pInt n] (· =Zap (Zwk w n)):=by
 refine AF.of_body 115 Tryz.func85 rfl Tryz.ntmps85 (Xa rfl) ?_
 intro w0 M0 vs hl hv
 obtain ⟨v0,v1,rfl⟩:=ZdW hl
 obtain rfl:=hv 1 _ _ rfl rfl
 clear hl hv
 refine nav ?_
 (refine ζa ?_<;>refine ζs [(.int .i64 0),(.int .i64 0),(.slice none 0 0),(.slice none 0 0),(.slice none 0 0)] 5 4 ZnL fun h4=>?_<;>refine ζd ?_)
 (refine ζa ?_<;>refine xL 13 ζb ?_<;>(refine ζ6 (kk:=1) 14 Zjg fun h14 ho14=>?_;refine ζq (En.freeze (l:=14) (t:=14) rfl rfl) fun _=>?_;refine ζq (Zel (t:=14) (p':=pInts [0]) rfl rfl) fun _=>?_)<;>(refine xL 15 (ζB Zwg) ?_;refine ζq (Zc9 (t:=15) (p':= .agg [pInt 1,pInt n,pInts [0], .val (.slice none 0 0),pMvs []]) rfl (ZB0 n)) fun _=>?_)<;>refine ζs [(.int .i64 0),(.int .i64 0),(.slice none 0 0),(.slice none 0 0),(.slice none 0 0)] 5 5 ZnL fun h5=>?_<;>refine ζt 5 ZgX ?_<;>refine ζd ?_)
 (refine ζa ?_<;>refine ζ6 (kk:=1) 16 ZgY fun h16 ho16=>?_<;>refine xL 6 ζc ?_<;>refine ζd ?_)
 refine ζC (ζJ (l:=16) 200 rfl rfl) fun _=>?_
 (refine ζa ?_<;>refine xL 7 ζc ?_<;>refine ζd ?_)
 refine ζD (ι:={q:Nat×Value//q.1≤1∧q.2.oneCell'=true}) (fun k=>⟨[(0,_,_),(1,_,_),(4,_,_),(5,_,_),(6,k.1.2, .val k.1.2),(7, .int .i64 k.1.1,pInt k.1.1)],[(4,_,_),(5,h5, .own 39 5 1 [pInt (1+(w.take k.1.1).length:Nat),pInt n,pInts [0], .val (.slice none 0 0),pMvs ((w.take k.1.1).map fun k=>⟨0,1,k⟩)]),(200,k.1.2, .own 4 1 (Zwv w k.1.1).length ((Zwv w k.1.1).map ζ7))]⟩) (fun k=>1-k.1.1) ⟨(0,h16),Xf _,ho16⟩ (fun a w H=>H.weaken ⟨rfl,rfl,rfl,rfl,rfl,rfl,trivial⟩ ⟨rfl,rfl,rfl,trivial⟩) ?_
 rintro ⟨⟨i,hb⟩,hi,ho⟩
 dsimp only
 dsimp only at hi ho
 refine nav ?_
 (refine ζa ?_<;>refine xL 17 ζb (xL 18 ζb (xL 19 (ζ9 ZgZ) (xL 20 ζP ?_)))<;>refine ζd ?_)
 (first|refine cCd ?_ ?_|refine cC ?_ ?_)<;>intro hb20
 · first
   |exact bN hb20
   | (
    obtain rfl:i=0:=by
     (have h:(i:Int)<1:=by simpa using hb20);omega
    have e1:([w].map pInts)[0*1]? =some (pInts w):=rfl;refine nav ?_;(refine ζa ?_<;>refine xL 8 ζc ?_<;>refine ζd ?_)
    (refine ζa ?_<;>refine xL 9 ζc ?_<;>refine ζd ?_)
    refine ζD (ι:={q:Nat×Value//q.1≤w.length∧q.2.oneCell'=true}) (fun k=>⟨[(0,_,_),(1,_,_),(4,_,_),(5,_,_),(7,_,_),(6,k.1.2, .val k.1.2),(8, .int .i64 k.1.1,pInt k.1.1),(9, .int .i64 k.1.1,pInt k.1.1)],[(4,_,_),(5,h5, .own 39 5 1 [pInt (1+(w.take k.1.1).length:Nat),pInt n,pInts [0], .val (.slice none 0 0),pMvs ((w.take k.1.1).map fun k=>⟨0,1,k⟩)]),(200,k.1.2, .own 4 1 (List.replicate (k.1.1+1) false).length ((List.replicate (k.1.1+1) false).map ζ7))]⟩) (fun k=>w.length-k.1.1) ⟨(0,hb),Xf _,ho⟩ (fun a w H=>H.weaken ⟨rfl,rfl,rfl,rfl,rfl,rfl,rfl,rfl,trivial⟩ ⟨rfl,rfl,rfl,trivial⟩) ?_;rintro ⟨⟨j,hc⟩,hj,hco⟩;dsimp only;dsimp only at hj hco;refine nav ?_;(refine ζa ?_<;>refine xL 23 ζb (xL 24 ζb (xL 25 ζb (xL 26 (ζW ZgZ) ?_)))<;>(refine yL 27 (Zc6 Zgu) fun v27 h=>?_;cases h)<;>refine xL 28 (ζ9 ZnK) (xL 29 ζP ?_)<;>refine ζd ?_)
    (first|refine cCd ?_ ?_|refine cC ?_ ?_)<;>intro hb29
    · first
      |exact bN hb29
      | (
       (obtain rfl:j=0:=by omega);obtain ⟨x,rfl⟩:∃x,w=[x]:=by
        match w,hw,hb29 with
        |[],_,h=>simp at h
        |[x],_,_=>exact ⟨x,rfl⟩
       have e2:([x].map pInt)[0*1]? =some (pInt x):=rfl;refine ζC (ζI (l:=5) (p':= .own 39 5 1 [pInt 1,pInt n,pInts [0], .val (.slice none 0 0),pMvs []]) rfl rfl) fun _=>?_;refine nav ?_;(refine ζa ?_<;>refine xL 10 ζc ?_<;>refine ζd ?_)
       (refine ζa ?_<;>refine xL 11 ζc ?_<;>refine ζd ?_)
       refine ζD (ι:={k:Nat//k=0}) (fun k=>⟨[(0,_,_),(1,_,_),(4,_,_),(5,_,_),(6,_,_),(7,_,_),(8,_,_),(9,_,_),(10,_,_),(11, .int .i64 k.1,pInt k.1)],[(4,_,_),(5,_,_),(200,_,_)]⟩) (fun k=>0) ⟨0,rfl⟩ (fun a w H=>H.weaken ⟨rfl,rfl,rfl,rfl,rfl,rfl,rfl,rfl,rfl,rfl,trivial⟩ ⟨rfl,rfl,rfl,trivial⟩) ?_;rintro ⟨_,rfl⟩;dsimp only;refine nav ?_;(refine ζa ?_<;>refine xL 32 ζb (xL 33 (ζe 5 ZfQ) ?_)<;>(refine yL 34 (ζk 5 Zji) fun v34 h=>?_;cases h)<;>refine xL 35 (ζ9 Zwf) (xL 36 ζP ?_)<;>refine ζd ?_)
       (first|refine cCd ?_ ?_|refine cC ?_ ?_)<;>intro hb36
       · exact absurd hb36 (by simp)
       · refine nav ?_;(refine ζa ?_<;>refine xL 69 ζb (xL 70 ζP ?_)<;>refine ζd ?_)
         (first|refine cCd ?_ ?_|refine cC ?_ ?_)<;>intro hb70
         · refine nav ?_;(refine ζa ?_<;>refine xL 71 (ζe 5 ZfP) ?_<;>(refine yL 72 (ζk 5 Zh6) fun v72 h=>?_;cases h)<;>refine xL 10 ζc ?_<;>refine ζd ?_)
           (refine ζa ?_<;>refine xL 73 (ζe 5 ZfP) ?_<;>(refine yL 74 (ζk 5 Zh6) fun v74 h=>?_;cases h)<;>refine xL 75 ζM (xL 76 (ζe 5 ZfP) ?_)<;>refine Zb7 5 Zh6 ZyP ?_<;>refine ζd ?_)
           (refine ζa ?_<;>refine xL 77 ζb ?_<;>refine ζ6 (kk:=1) 78 ZgY fun h78 ho78=>?_<;>(refine ZbH 200 78 79 ZgY fun h79 ho79=>?_;refine ζq (ζJ (l:=79) 200 rfl rfl) fun _=>?_)<;>refine xL 6 ζc ?_<;>refine ζd ?_)
           (refine ζV (fun i=>([14]:List Nat).elem i) [5] kR ?_<;>refine xD 0 80 rfl (ζe 5 ZfQ) ?_<;>(refine yD 1 81 rfl (ζk 5 Zji) fun v81 h=>?_;cases h)<;>refine xD 2 82 rfl ζb ?_<;>refine xD 3 83 rfl ζb ?_<;>refine xD 4 84 rfl ζb ?_<;>refine xD 5 85 rfl ζb ?_<;>refine xD 6 86 rfl (ζW ZgZ) ?_<;>(refine yD 7 87 rfl (Zc6 Zgu) fun v87 h=>?_;cases h)<;>refine xE 8 88 rfl ζb ?_<;>refine xE 9 89 rfl (ζW ZnK) ?_<;>(refine yE 10 90 rfl (Zc6 Zh6) fun v90 h=>?_;cases h)<;>refine xE 11 91 rfl (ζB Zwh) ?_<;>(refine ζj 12 kR ?_)<;>(refine ζg rfl fun w9 M9 N9 DQ back=>?_)<;>(refine cS 92 (cA Tryz.call133 (Zpj [] ⟨0,1,x⟩ (Xf _) List.Pairwise.nil)) fun v92 h=>?_;cases h)<;>refine ζf (back _ (nrm ?_))<;>refine xE 13 93 rfl (ζe 5 ZfQ) ?_<;>(refine ζj 14 kR ?_)<;>(refine ZkJ rfl rfl kR fun DQ back=>?_)<;>refine Zb7 5 Zji Zwj ?_<;>refine ζf (back _ (nav ?_))<;>try dsimp only)
           (refine ζa ?_<;>refine xL 94 ζb (xL 8 ζc ?_)<;>refine ζd ?_)
           (refine ζa ?_<;>refine xL 30 ζb (xL 31 ζM (xL 9 ζc ?_))<;>refine ζd ?_)
           refine ζh (
            ⟨(1,h79),Xb _,ho79⟩
            ) (by dsimp only;omega) ⟨rfl,rfl,rfl,rfl,rfl,rfl,rfl,rfl,trivial⟩ ⟨rfl,rfl,rfl,trivial⟩
         · exact absurd (by decide) hb70)
    · first
      |exact bN hb29
      | (
       (obtain rfl:j=w.length:=by omega);have htk:w.take 1=w:=Xn hw;refine nav ?_;(refine ζa ?_<;>refine xL 95 ζb (xL 96 ζb (xL 97 (ζu 200 Zg0) ?_))<;>refine Zb7 200 Zri ZyQ ?_<;>refine ζd ?_)
       refine ζC (ζI (l:=200) (p':= .own 4 1 (Zwv w 1).length ((Zwv w 1).map ζ7)) rfl (by unfold Zwv;rw [if_neg (by decide),Xr,List.map_set,XJ])) fun _=>?_;refine ζC (ζI (l:=5) (p':= .own 39 5 1 [pInt (1+(w.take 1).length:Nat),pInt n,pInts [0], .val (.slice none 0 0),pMvs ((w.take 1).map fun k=>⟨0,1,k⟩)]) rfl (by rw [htk,List.take_length])) fun _=>?_;(refine ζa ?_<;>refine xL 21 ζb (xL 22 ζM (xL 7 ζc ?_))<;>refine ζd ?_)
       refine ζh (
        ⟨(1,hc),Xb _,hco⟩
        ) (by dsimp only;omega) ⟨rfl,rfl,rfl,rfl,rfl,rfl,trivial⟩ ⟨rfl,rfl,rfl,trivial⟩))
 · first
   |exact bN hb20
   | (
    obtain rfl:i=1:=by
     have h:¬(i:Int)<1:=fun h=>hb20 (by simpa using h);omega
    have htk:w.take 1=w:=Xn hw;refine ζC (ζI (l:=5) (p':= .own 39 5 1 [pInt (1+w.length:Nat),pInt n,pInts [0], .val (.slice none 0 0),pMvs (w.map fun k=>⟨0,1,k⟩)]) rfl (by rw [htk])) fun _=>?_;have hfl:(Zwv w 1).length=w.length+1:=ZyR (i:=1) (Xb _);refine nav ?_;(refine ζa ?_<;>refine xL 12 ζc ?_<;>refine ζd ?_)
    refine ζC (ZfU (l:=5) [pInt (1+w.length:Nat),pInt n,pInts [0], .own 3 1 0 [],pMvs (w.map fun k=>⟨0,1,k⟩)] rfl rfl (fun i p p' h1 h2=>by
     match i with
     |0=>cases h1;cases h2;exact .inl rfl
     |1=>cases h1;cases h2;exact .inl rfl
     |2=>cases h1;cases h2;exact .inl rfl
     |3=>cases h1;cases h2;exact .inr ⟨rfl,_,_,rfl⟩
     |4=>cases h1;cases h2;exact .inl rfl
     |i+5=>simp at h2)) fun _=>?_
    refine ζC (ZfV (l:=5) (l':=301) (j:=3) rfl rfl rfl rfl) fun i=>?_;obtain ⟨v301,ho301⟩:=i;dsimp only [List.set];refine ζD (ι:={q:Nat×Value//q.1≤w.length+1∧q.2.oneCell'=true}) (fun k=>⟨[(4,_,_),(5,_,_),(6,_,_),(12, .int .i64 k.1.1,pInt k.1.1)],[(4,_,_),(200,_,_),(5,h5, .own 39 5 1 [pInt (1+w.length:Nat),pInt n,pInts [0], .val k.1.2,pMvs (w.map fun k=>⟨0,1,k⟩)]),(301,k.1.2, .own 3 1 (ZnN w k.1.1).length ((ZnN w k.1.1).map pInt))]⟩) (fun k=>w.length+1-k.1.1) ⟨(0,v301),Xf _,ho301⟩ (fun a w H=>H.weaken ⟨rfl,rfl,rfl,rfl,trivial⟩ ⟨rfl,rfl,rfl,rfl,trivial⟩) ?_;rintro ⟨⟨m,hF⟩,hm,hFo⟩;dsimp only;dsimp only at hm hFo;have hll:=ZyS w m;refine nav ?_;(refine ζa ?_<;>refine xL 98 ζb (xL 99 ζb (xL 100 (Zbw 200 Zg0) (xL 101 ζP ?_)))<;>refine ζd ?_)
    (first|refine cCd ?_ ?_|refine cC ?_ ?_)<;>intro hb101
    · first
      |exact bN hb101
      | (
       (have hml:m<w.length+1:=by omega);have e3:=ZBZ hml;refine nav ?_;(refine ζa ?_<;>refine xL 104 ζb (xL 105 ζb (xL 106 (ζu 200 Zg0) ?_))<;>(refine yL 107 (ζk 200 Zri) fun v107 h=>?_;cases h)<;>refine ζd ?_)
       (first|refine cCd ?_ ?_|refine cC ?_ ?_)<;>intro hb107
       · first
         |exact bN hb107
         | (
          (have hmw:m=w.length:=by simpa using hb107);(have hT1:ZnN w m=[]:=by unfold ZnN;rw [if_neg (by omega)]);(have hT2:ZnN w (m+1)=[((m:Nat):Int)]:=by unfold ZnN;rw [if_pos (by omega),hmw]);refine nav ?_;(refine ζa ?_<;>refine xL 108 (ζe 5 Zjh) ?_<;>(refine yL 109 (ζk 5 Zgu) fun v109 h=>?_;cases h)<;>refine xL 110 ζb ?_<;>refine ζ6 (kk:=1) 111 Zjg fun h111 ho111=>?_<;>(refine ZbH 301 111 112 Zjg fun h112 ho112=>?_;refine ζq (ζJ (l:=112) 301 rfl rfl) fun _=>?_;refine ζq (ζI (l:=301) (p':= .own 3 1 (ZnN w (m+1)).length ((ZnN w (m+1)).map pInt)) rfl (by rw [hT1,hT2];rfl)) fun _=>?_)<;>refine xL 113 (ζe 5 Zjh) ?_<;>refine Zb7 5 Zgu Zwi ?_<;>refine ζd ?_)
          (refine ζa ?_<;>refine xL 102 ζb (xL 103 ζM (xL 12 ζc ?_))<;>refine ζd ?_)
          first
           | (exact ζh (
               ⟨(m+1,h112),by dsimp only;omega,ho112⟩
               ) (by dsimp only;omega) ⟨rfl,rfl,rfl,rfl,trivial⟩ ⟨rfl,rfl,rfl,rfl,trivial⟩)
           | (exact ζh (
               ⟨(m+1,hF),by dsimp only;omega,hFo⟩
               ) (by dsimp only;omega) ⟨rfl,rfl,rfl,rfl,trivial⟩ ⟨rfl,rfl,rfl,rfl,trivial⟩))
       · first
         |exact bN hb107
         | (
          (have hmw:m≠w.length:=by simpa using hb107);(have hT:ZnN w (m+1)=ZnN w m:=by unfold ZnN;rw [if_neg (by omega),if_neg (by omega)]);refine ζC (ζI (l:=301) (p':= .own 3 1 (ZnN w (m+1)).length ((ZnN w (m+1)).map pInt)) rfl (by rw [hT])) fun _=>?_;refine nav ?_;(refine ζa ?_<;>refine xL 102 ζb (xL 103 ζM (xL 12 ζc ?_))<;>refine ζd ?_)
          first
           | (exact ζh (
               ⟨(m+1,h112),by dsimp only;omega,ho112⟩
               ) (by dsimp only;omega) ⟨rfl,rfl,rfl,rfl,trivial⟩ ⟨rfl,rfl,rfl,rfl,trivial⟩)
           | (exact ζh (
               ⟨(m+1,hF),by dsimp only;omega,hFo⟩
               ) (by dsimp only;omega) ⟨rfl,rfl,rfl,rfl,trivial⟩ ⟨rfl,rfl,rfl,rfl,trivial⟩)))
    · first
      |exact bN hb101
      | (
       (have hT:ZnN w m=[((w.length:Nat):Int)]:=by unfold ZnN;rw [if_pos (by omega)]);refine ζC (ζI (l:=301) (p':= .own 3 1 [((w.length:Nat):Int)].length ([((w.length:Nat):Int)].map pInt)) rfl (by rw [hT])) fun _=>?_;refine nav ?_;refine ζC (ZaW (l:=5) (l':=301) (j:=3) rfl rfl rfl rfl) fun _=>?_;(refine ζa ?_<;>(refine yL 114 (ζm 5 ZgX) fun v114 h=>?_;cases h)<;>refine ζt 4 ZgX ?_<;>refine ζd ?_)
       exact ZbP (k:=5) 4 kR (Tryz.results85) rfl rfl (Xa rfl) (by decide) rfl rfl))
end Go.Proofs.YtgfabnhpllkebaaGreatDoor
namespace Go.En
open Go.RowKit Go.Cb Go.ChangeShapes Go.WideShapes Go.ChangeAt
set_option linter.all false
section
variable {P:Program} {t:TypeId}
end
end Go.En
