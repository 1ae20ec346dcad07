/-
  Walks: process trees: normal forms. Plain: their sizes.
  Process trees: their texts, in plain Lean.
  Walks: process trees: texts.
  Walks: reading a literal's text (package name).
  The engine: a struct in a box of its own with its place told, errors compared with nil, contracts out of the library's summaries. No program in sight.
  Walks: the lexer of the program: blanks and the next token.
  Walks: the lexer of the program: the next token.
  Walks: the lexer of the program: the tokens of a string.
  Process trees: a text is read as its tree. Plain Lean.
  The engine: functions that may panic: their results and their panics. No program in sight.
  Walks: the reader of trees: symbols wanted, trees read, by panics.
  Walks: process trees: the normal form.
-/
import Derived.WideLaws
import Derived.Test.YtgfabnhpllkebaaGreatDoorPq04
import Derived.Test.YtgfabnhpllkebaaGreatDoorPq03
import Derived.Test.YtgfabnhpllkebaaGreatDoorMShelfT
import Derived.Test.YtgfabnhpllkebaaGreatDoorPq01
namespace Go.Proofs.YtgfabnhpllkebaaGreatDoor
open Go.RowKit Go.Cb Go.En
set_option linter.all false
set_option maxRecDepth 100000
theorem Zda:AggT Tryz.prog 24 3=true:=by kernel_rfl
theorem Zjg:ElT Tryz.prog 22 24 3 48 (.agg #[(.int .i64 0),(.string ByteArray.empty),(.slice none 0 0)]):=⟨Tryz.underlying22,by kernel_rfl,rfl,by decide⟩
theorem Zj3:FldT Tryz.prog 24 0 0=true:=by kernel_rfl
theorem Zqm:FldT Tryz.prog 24 2 2=true:=by kernel_rfl
theorem Zvl:NoAgg Tryz.prog 22=true:=by kernel_rfl
theorem Zqn:NoAgg Tryz.prog 3=true:=by kernel_rfl
theorem Zhm:SlT Tryz.prog 22 24 3=true:=by kernel_rfl
theorem Zna:ZbX Tryz.prog 24=some ((.agg #[(.int .i64 0),(.string ByteArray.empty),(.slice none 0 0)]),([0,1,2]:List Nat).map fun o=>(o,1)):=by kernel_rfl
theorem Znb:ZeroT Tryz.prog 24 (.agg #[(.int .i64 0),(.string ByteArray.empty),(.slice none 0 0)]):=by unfold ZeroT;kernel_rfl
theorem Zf8 (t:Nd):szT t=1+szL t.l:=by cases t;rw [szT];rfl
theorem Zlh {l m:List Nd} (h:l.Perm m):szL l=szL m:=by
 induction h with
 |nil=>rfl
 |cons x _ ih=>rw [szL,szL,ih]
 |swap x y l=>simp only [szL];omega
 |trans _ _ h1 h2=>exact h1.trans h2
theorem ZtZ:∀l:List Nd,szL (ZdX l)≤szL l
 |[]=>Xd _
 |[x]=>Xd _
 | x::y::m=>by
   have:=ZtZ (y::m);rw [ZdX];split
   · rw [szL];omega
   · rw [szL,szL];omega
theorem Zox (op:Int) (l:List Nd):szL (ZaR op l)≤szL l:=by
 induction l with
 |nil=>exact Xd _
 | cons x l ih=>
   unfold ZaR at ih ⊢;rw [Xr,Zf2,szL];have:szL (if x.op=op then x.l else if x.op≠2∨op=4 then [x] else [])≤szT x:=by
    split
    · rw [Zf8];omega
    · split
      · simp [szL]
      · simp [szL]
   omega
theorem Zef (l:List Nd):l.length≤szL l:=by
 induction l with
 |nil=>exact Xd _
 |cons x l ih=>have:=ZtI x;rw [szL,Xj];omega
theorem Zt0 (op:Int) (p:List Nd):szL (Zfa op p)≤szL p:=by
 unfold Zfa
 split
 · exact Xd _
 · split
   · exact XV (ZtZ _) (Nat.le_of_eq (Zlh (Zdc p)))
   · exact Nat.le_of_eq (Zlh (Zdc p))
theorem ZC5 (op:Int):∀p:List Nd,szT (Zgy op p)≤1+szL p
 |[]=>by rw [Zgy];exact Xd _
 |[x]=>by rw [Zgy,szL];omega
 |x::y::l=>by rw [Zgy,szT];exact Xd _
theorem Zt1 (op:Int) (l:List Nd):szT (Zfq op l)≤1+szL l:=by
 unfold Zfq
 have h1:=ZC5 op (Zfa op (ZaR op l))
 have h2:=Zt0 op (ZaR op l)
 have h3:=Zox op l
 omega
theorem ZAB (f s:Nd):szT (Zcs f s).1+szT (Zcs f s).2≤szT f+szT s:=by
 unfold Zcs
 split
 · split
   · rename_i a b r hl;have h1:=Zt1 4 [b,s];have h2:=Zf8 f;rw [hl] at h2;simp only [szL] at h1 h2 ⊢;omega
   · exact Xd _
 · exact Xd _
theorem ZC6 (l:List Nd):szT (Zu2 l)≤1+szL l:=by
 match l with
 |[]=>exact VL 1 _
 |[x]=>exact VL 1 _
 | f::s::r=>
   have h:=ZAB f s;rw [Zu2,Zkq];split
   · exact VL 1 _
   · rw [szT];simp only [szL];omega
theorem ZC7 (o:Int) (a:ByteArray) (l:List Nd):szT (Zkr o a l)≤1+szL l:=by
 unfold Zkr
 split
 · rw [szT,szL];omega
 · split
   · exact ZC6 l
   · exact Zt1 o l
theorem ZhZ:∀t:Nd,szT (Zal t)≤szT t:=Nd.ind fun o a l ih=>by
 rw [Zal,szT]
 have h1:=ZC7 o a (ZbN l)
 have h2:szL (ZbN l)≤szL l:=by
  clear h1;induction l with
  |nil=>exact Xd _
  | cons x l ih2=>
    rw [ZbN,szL,szL];have h3:=ih x (Xk ..);have h4:=ih2 fun y hy=>ih y (Xn _ hy);omega
 omega
theorem Zvm {s:ByteArray} (h:ZcY s=true):s.size≤40:=by
 rcases Xv 40 s.size with h1|h1
 · rw [Zin (.inr h1)] at h;cases h
 · exact h1
theorem ZxB {t:Nd} (h:rightT t=true):t.act.size≤40:=by
 unfold rightT at h
 split at h
 · simp only [Xg] at h;exact Zvm h.2
 · split at h
   · simp only [Xg,decide_eq_true_eq] at h;rw [h.2];decide
   · split at h
     · simp only [Xg,decide_eq_true_eq] at h;rw [h.2];decide
     · split at h
       · simp only [Xg,decide_eq_true_eq] at h;rw [h.2];decide
       · cases h
theorem Zoy:∀t:Nd,okT t=true→szT t≤1000000→FitT t:=Nd.ind fun o a l ih hok hs=>by
 obtain ⟨h1,h2⟩:=Zbf.1 hok
 have h3:=Zf8 (.mk o a l)
 have h4:=Zef l
 have h5:=ZxB h1
 have h6:=ZdH h1
 simp only [Nd.l,Nd.act,Nd.op] at h3 h5 h6 h2
 refine .mk _ (by show l.length≤_;omega) (by show a.size≤_;omega) (by show _≤o;omega) (by show o≤_;omega) fun x hx=>?_
 have h7:=ZdT (show x∈l from hx)
 exact ih x hx (h2 x hx) (by omega)
theorem Zli {t:Nd} (h:okT t=true):okT (Zal t)=true:=(Zsl t h).ok
theorem Zoz {t:Nd} (h:okT t=true) (hs:szT t≤1000000):FitT (Zal t):=Zoy _ (Zli h) (XV (ZhZ t) hs)
theorem ZxC (op:Int) {l:List Nd} {k:Nat} {x:Nd} (h:l[k]? =some x):ZaR op (l.take (k+1))=ZaR op (l.take k)++(if x.op=op then x.l else if x.op≠2∨op=4 then [x] else []):=by
 unfold ZaR
 rw [ζQ h,XS,VD]
theorem ZxD {op:Int} {l:List Nd} {y:Nd} (h:y∈ZaR op l):∃x∈l,y=x∨y∈x.l:=by
 unfold ZaR at h
 obtain ⟨x,hx,hy⟩:=XR.1 h
 split at hy
 · exact ⟨x,hx, .inr hy⟩
 · split at hy
   · exact ⟨x,hx, .inl (Xi.1 hy)⟩
   · cases hy
theorem ZAC {op:Int} {l:List Nd} (h:∀x∈l,FitT x):∀y∈ZaR op l,FitT y:=fun y hy=>by
 obtain ⟨x,hx,h1|h1⟩:=ZxD hy
 · rw [h1];exact h x hx
 · exact (h x hx).p y h1
theorem Zix (op:Int) (l:List Nd) (k:Nat):(ZaR op (l.take k)).length≤szL l:=by
 have h1:=Zef (ZaR op (l.take k))
 have h2:=Zox op (l.take k)
 have h3:szL (l.take k)≤szL l:=by
  conv=>rhs;rw [←Vq k l]
  rw [Zf2];omega
 omega
theorem Ziy (l:List Nd):(ζ3 l).all En.one=true:=by
 rw [ZaV,XD]
 intro p hp
 obtain ⟨x,_,hx⟩:=XR.1 hp
 rcases Xl.1 hx with h|hx
 · subst h;rfl
 · rcases Xl.1 hx with h|hx
   · subst h;rfl
   · rcases Xl.1 hx with h|hx
     · subst h;rfl
     · cases hx
theorem Zjh (l:List Nd) (x:Nd):ζ3 l++cN x=ζ3 (l++[x]):=by
 rw [ZaV,ZaV,XS,VD]
theorem Zqo (l m:List Nd):ζ3 l++ζ3 m=ζ3 (l++m):=by
 rw [ZaV,ZaV,ZaV,XS]
theorem ZoA:Rr (.agg [.val (.int .i64 2), .val (.string ByteArray.empty), .val (.slice none 0 0)]) (pTr Zkp):=Rr.agg rfl fun i a b ha hb=>by
 match i with
 |0=>cases ha;cases hb;exact Rr.rfl' _
 |1=>cases ha;cases hb;exact Rr.rfl' _
 |2=>cases ha;cases hb;exact Rr.nil
 |i+3=>simp at ha
theorem Zfu (e n:Nat) (l:List Nd) (hn:n=l.length):share (.own e 3 n (ζ3 l))=Zag l:=by
 subst hn
 rw [share,Zai,ZaV,V8]
 unfold Zag
 rw [ZaV];rfl
def sS (op:Int) (p:List Nd):List Nd:=if op=3 then p else Zol p
theorem ZC8 (op:Int) (p:List Nd):(sS op p).length=p.length:=by
 unfold sS;split
 · rfl
 · exact (Zdc p).length_eq
theorem ZC9 {op:Int} {p:List Nd} (h:op≠4):sS op p=Zfa op p:=by
 unfold sS Zfa
 by_cases h3:op=3
 · rw [if_pos h3,if_pos h3]
 · rw [if_neg h3,if_neg h3,if_neg h]
theorem ZxE {op:Int} {p:List Nd} {x:Nd}:x∈sS op p→x∈p:=by
 unfold sS;split
 · exact id
 · exact (Zdc p).mem_iff.1
set_option maxHeartbeats 4000000 in
theorem ZkH (op :Int) (l:List Nd) (h1: -9223372036854775808≤op) (h2:op≤9223372036854775807) (hF:∀x∈l,FitT x) (hn:szL l≤1000000):AF Tryz.prog 125 [pInt op,Zag l] (· =pTr (Zfq op l)):=by
 have hll:l.length≤1000000:=XV (Zef l) hn
 refine AF.of_body 57 Tryz.func125 rfl Tryz.ntmps125 (Xa rfl) ?_
 intro w0 M0 vs hl hv
 obtain ⟨v0,v1,rfl⟩:=Zbl hl
 obtain rfl:=hv 0 _ _ rfl rfl
 clear hl hv
 refine nav ?_
 (refine ζa ?_<;>refine ζs [(.int .i64 0),(.string ByteArray.empty),(.slice none 0 0)] 3 4 Znb fun h4=>?_<;>refine ζd ?_)
 (refine ζa ?_<;>refine xL 5 ζc ?_<;>refine ζd ?_)
 refine ζw (ZbW 1000 24 3 rfl) fun _=>?_
 (refine ζa ?_<;>refine xL 8 ζb (xL 9 (ζU Zhm) (xL 10 ζb ?_))<;>refine ζd ?_)
 refine ζy (ι:={q:Nat×Value//q.1≤l.length∧q.2.oneCell'=true}) (fun k=>⟨[(0,_,_),(4,_,_),(8,_,_),(9,_,_),(5,k.1.2, .val k.1.2),(10, .int .i64 k.1.1,pInt k.1.1)],[(4,_,_),(1000,k.1.2, .own 24 3 (ZaR op (l.take k.1.1)).length (ζ3 (ZaR op (l.take k.1.1))))]⟩) (fun k=>l.length-k.1.1) ⟨(0, .slice none 0 0),Xe _,rfl⟩ (fun a w H=>H.weaken ⟨rfl,rfl,rfl,rfl,rfl,rfl,trivial⟩ ⟨rfl,rfl,trivial⟩) ?_
 rintro ⟨⟨k,hO⟩,hk,hOo⟩
 dsimp only
 dsimp only at hk hOo
 have hpl:=Zix op l k
 have hpl2:=Zix op l (k+1)
 refine nav ?_
 (refine ζa ?_<;>refine xL 11 ζK ?_<;>refine ζd ?_)
 (first|refine cCd ?_ ?_|refine cC ?_ ?_)<;>intro hb11
 · first
   |exact bN hb11
   | (
    obtain ⟨x,hx⟩:=ζm (show k<l.length by omega);have e1:((ζ3 l).drop (k*3)).take 3=[pInt x.op,Zab x.act,Zag x.l]:=ζ4 hx;have e2:=Zah hx;have hsn:=ZxC op hx;have hxf:=hF x (Xb hx);have f1:(ζ3 x.l).length=x.l.length*3:=ZgO _;have f2:=Ziy x.l;refine nav ?_;(refine ζa ?_<;>refine xL 12 (ζI Zhm) ?_<;>(refine yL 13 (ZaQ Zda) fun v13 h=>?_;cases h)<;>refine ζs [(.int .i64 0),(.string ByteArray.empty),(.slice none 0 0)] 3 7 Znb fun h7=>?_<;>refine ζt 7 Zda ?_<;>refine ζd ?_)
    (refine ζa ?_<;>refine xL 15 (ζh 7 Zj3) ?_<;>(refine yL 16 (ζq 7 Zqn) fun v16 h=>?_;cases h)<;>refine xL 17 ζb (xL 18 ζ6 (xL 14 ζc ?_))<;>refine ζd ?_)
    (first|refine cCd ?_ ?_|refine cC ?_ ?_)<;>intro hb14
    · first
      |exact bN hb14
      | (
       rw [if_pos hb14] at hsn;(have hsl:(ZaR op (l.take (k+1))).length=(ZaR op (l.take k)).length+x.l.length:=by rw [hsn,Xc]);refine nav ?_;(refine ζa ?_<;>refine xL 19 ζb (xL 20 (ζh 7 Zqm) ?_)<;>(refine yL 21 (ζq 7 Zvl) fun v21 h=>?_;cases h)<;>(refine ZgL 1000 22 Zjg (fun h22 ho22=>?_) f1 f2;refine ζr (ζF (l:=22) 1000 rfl rfl) fun _=>?_;refine ζr (ζM (l:=1000) (p':= .own 24 3 (ZaR op (l.take (k+1))).length (ζ3 (ZaR op (l.take (k+1))))) rfl (by rw [Zqo,←hsn,hsl])) fun _=>?_)<;>refine xL 5 ζc ?_<;>refine ζd ?_)
       (refine ζa ?_<;>refine xL 35 ζG (xL 10 ζb ?_)<;>refine ζd ?_)
       first
        | (exact ζj (
            ⟨(k+1,h22),ζg hx,ho22⟩
            ) (by dsimp only;omega) ⟨rfl,rfl,rfl,rfl,rfl,rfl,trivial⟩ ⟨rfl,rfl,trivial⟩)
        | (exact ζj (
            ⟨(k+1,h34),ζg hx,ho34⟩
            ) (by dsimp only;omega) ⟨rfl,rfl,rfl,rfl,rfl,rfl,trivial⟩ ⟨rfl,rfl,trivial⟩)
        | (exact ζj (
            ⟨(k+1,hO),ζg hx,hOo⟩
            ) (by dsimp only;omega) ⟨rfl,rfl,rfl,rfl,rfl,rfl,trivial⟩ ⟨rfl,rfl,trivial⟩))
    · first
      |exact bN hb14
      | (
       rw [if_neg hb14] at hsn;refine nav ?_;(refine ζa ?_<;>refine xL 24 (ζh 7 Zj3) ?_<;>(refine yL 25 (ζq 7 Zqn) fun v25 h=>?_;cases h)<;>refine xL 26 Zaz (xL 27 ζb ?_)<;>(refine bLd 27 (fun hb27=>?_) (fun hb27=>?_)<;>(first|refine kL 28 ?_|refine xL 28 ζb ?_))<;>(first|refine kL 29 ?_|refine xL 29 ζ6 ?_)<;>refine xL 30 ζJ (xL 23 ζc ?_)<;>refine ζd ?_)<;>(
        (first|refine cCd ?_ ?_|refine cC ?_ ?_)<;>intro hb23
        · first
          |exact bN hb23
          | (
           rw [if_pos (by omega)] at hsn;(have hsl:(ZaR op (l.take (k+1))).length=(ZaR op (l.take k)).length+1:=by rw [hsn,Xc];rfl);refine nav ?_;(refine ζa ?_<;>refine xL 31 ζb ?_<;>(refine yL 32 (ζk 7 Zda) fun v32 h=>?_;cases h)<;>refine Zaw 33 Zjg fun h33 ho33=>?_<;>(refine ζ0 1000 33 34 Zjg fun h34 ho34=>?_;refine ζr (ζF (l:=34) 1000 rfl rfl) fun _=>?_;refine ζr (ζM (l:=1000) (p':= .own 24 3 (ZaR op (l.take (k+1))).length (ζ3 (ZaR op (l.take (k+1))))) rfl (Eq.trans (congrArg (PV.own 24 3 _) (show _=ζ3 (ZaR op (l.take k))++cN x from rfl)) (by rw [Zjh,←hsn,hsl]))) fun _=>?_)<;>refine xL 5 ζc ?_<;>refine ζd ?_)
           (refine ζa ?_<;>refine xL 35 ζG (xL 10 ζb ?_)<;>refine ζd ?_)
           first
            | (exact ζj (
                ⟨(k+1,h22),ζg hx,ho22⟩
                ) (by dsimp only;omega) ⟨rfl,rfl,rfl,rfl,rfl,rfl,trivial⟩ ⟨rfl,rfl,trivial⟩)
            | (exact ζj (
                ⟨(k+1,h34),ζg hx,ho34⟩
                ) (by dsimp only;omega) ⟨rfl,rfl,rfl,rfl,rfl,rfl,trivial⟩ ⟨rfl,rfl,trivial⟩)
            | (exact ζj (
                ⟨(k+1,hO),ζg hx,hOo⟩
                ) (by dsimp only;omega) ⟨rfl,rfl,rfl,rfl,rfl,rfl,trivial⟩ ⟨rfl,rfl,trivial⟩))
        · first
          |exact bN hb23
          | (
           rw [if_neg (by omega),XB] at hsn;refine ζw (ζM (l:=1000) (p':= .own 24 3 (ZaR op (l.take (k+1))).length (ζ3 (ZaR op (l.take (k+1))))) rfl (by rw [hsn])) fun _=>?_;refine nav ?_;(refine ζa ?_<;>refine xL 35 ζG (xL 10 ζb ?_)<;>refine ζd ?_)
           first
            | (exact ζj (
                ⟨(k+1,h22),ζg hx,ho22⟩
                ) (by dsimp only;omega) ⟨rfl,rfl,rfl,rfl,rfl,rfl,trivial⟩ ⟨rfl,rfl,trivial⟩)
            | (exact ζj (
                ⟨(k+1,h34),ζg hx,ho34⟩
                ) (by dsimp only;omega) ⟨rfl,rfl,rfl,rfl,rfl,rfl,trivial⟩ ⟨rfl,rfl,trivial⟩)
            | (exact ζj (
                ⟨(k+1,hO),ζg hx,hOo⟩
                ) (by dsimp only;omega) ⟨rfl,rfl,rfl,rfl,rfl,rfl,trivial⟩ ⟨rfl,rfl,trivial⟩)))))
 · first
   |exact bN hb11
   | (
    rw [Xo (show l.length≤k by omega)];rw [Xo (show l.length≤k by omega)] at hpl;have hFp:=ZAC (op:=op) hF;refine nav ?_;(refine ζa ?_<;>refine xL 36 ζb (xL 37 Zaz ?_)<;>refine ζd ?_)
    refine Zd8 (fun h4:Value=>⟨[(0, .int .i64 op,pInt op),(4,padd (sbase h4) 0, .val (padd (sbase h4) 0)),(5,hO, .val hO)],[(1000,hO, .own 24 3 (sS op (ZaR op l)).length (ζ3 (sS op (ZaR op l)))),(4,h4, .own 24 3 1 [.val (.int .i64 0), .val (.string ByteArray.empty), .val (.slice none 0 0)])]⟩) ?_ ?_
    · (first|refine cCd ?_ ?_|refine cC ?_ ?_)<;>intro hb37
      · first
        |exact bN hb37
        | (
         refine nav ?_;(refine ζa ?_<;>refine xL 38 ζb ?_<;>(refine Zat [(1000,hO,PV.own 24 3 (ZaR op l).length (ζ3 (ZaR op l))),(4,_,_)] ⟨rfl,rfl,trivial⟩ ?_;refine ZbO [4] 39 (Tryz.call174) (Zvk 175 (Tryz.call175) hO (.func (.func 175) #[] #[]) (ZaR op l) (by omega) (fun x hx y hy=>ZCX x y (hFp x hx) (hFp y hy))) (fun v39 p39 h39 hR39=>?_);subst hR39;dsimp only [Za6];refine ζr (ζM (l:=1000) (p':= .own 24 3 (sS op (ZaR op l)).length (ζ3 (sS op (ZaR op l)))) rfl (by unfold sS;rw [if_neg hb37])) fun _=>?_)<;>refine ζd ?_)
         exact ZaA _ ⟨rfl,rfl,rfl,trivial⟩ ⟨rfl,rfl,trivial⟩)
      · first
        |exact bN hb37
        | (
         refine ζw (ζM (l:=1000) (p':= .own 24 3 (sS op (ZaR op l)).length (ζ3 (sS op (ZaR op l)))) rfl (by unfold sS;rw [if_pos (by omega)])) fun _=>?_;refine nav ?_;exact ZaA _ ⟨rfl,rfl,rfl,trivial⟩ ⟨rfl,rfl,trivial⟩)
    · rintro h4;have hsl:=ZC8 op (ZaR op l);refine nav ?_;(refine ζa ?_<;>refine xL 40 ζb (xL 41 ζ6 ?_)<;>refine ζd ?_)
      refine Zd8 (fun q:Value×{h:Value//h.oneCell'=true}=>⟨[(0, .int .i64 op,pInt op),(4,padd (sbase q.1) 0, .val (padd (sbase q.1) 0)),(5,q.2.1, .val q.2.1)],[(1000,q.2.1, .own 24 3 (Zfa op (ZaR op l)).length (ζ3 (Zfa op (ZaR op l)))),(4,q.1, .own 24 3 1 [.val (.int .i64 0), .val (.string ByteArray.empty), .val (.slice none 0 0)])]⟩) ?_ ?_
      · (first|refine cCd ?_ ?_|refine cC ?_ ?_)<;>intro hb41
        · first
          |exact bN hb41
          | (
           (have hasc:AscT (sS op (ZaR op l)):=by unfold sS;rw [if_neg (by omega)];exact Zip _);(have hord:ZdX (sS op (ZaR op l))=Zfa op (ZaR op l):=by unfold sS Zfa;rw [if_neg (by omega),if_neg (by omega),if_pos (by omega)]);refine nav ?_;(refine ζa ?_<;>refine xL 42 ζb ?_<;>(refine Zat [(1000,hO,PV.own 24 3 (sS op (ZaR op l)).length (ζ3 (sS op (ZaR op l)))),(4,_,_)] ⟨rfl,rfl,trivial⟩ ?_;refine ZbO [4] 43 (Tryz.call176) (Zow 177 (Tryz.call177) (.func (.func 177) #[] #[]) (sS op (ZaR op l)) (by omega) hasc (fun x hx y hy=>ZAo x y (hFp x (ZxE hx)) (hFp y (ZxE hy))) hO hOo) ?_;rintro v43 _ _ ⟨hv43,rfl,rfl⟩;refine ζr (ζM (l:=1000) (p':= .own 24 3 (Zfa op (ZaR op l)).length (ζ3 (Zfa op (ZaR op l)))) rfl (by rw [hord])) fun _=>?_)<;>refine xL 5 ζc ?_<;>refine ζd ?_)
           first
           |exact ZaA (h4,⟨v43,hv43⟩) ⟨rfl,rfl,rfl,trivial⟩ ⟨rfl,rfl,trivial⟩
           |exact ZaA (h4,⟨hO,hOo⟩) ⟨rfl,rfl,rfl,trivial⟩ ⟨rfl,rfl,trivial⟩)
        · first
          |exact bN hb41
          | (
           refine ζw (ζM (l:=1000) (p':= .own 24 3 (Zfa op (ZaR op l)).length (ζ3 (Zfa op (ZaR op l)))) rfl (by rw [ZC9 (by omega)])) fun _=>?_;refine nav ?_
           first
           |exact ZaA (h4,⟨v43,hv43⟩) ⟨rfl,rfl,rfl,trivial⟩ ⟨rfl,rfl,trivial⟩
           |exact ZaA (h4,⟨hO,hOo⟩) ⟨rfl,rfl,rfl,trivial⟩ ⟨rfl,rfl,trivial⟩)
      · rintro ⟨h4,hP,hPo⟩;dsimp only;have hol:(Zfa op (ZaR op l)).length≤1000000:=XV (Zef _) (XV (Zt0 _ _) (XV (Zox _ _) hn));unfold Zfq;generalize Zfa op (ZaR op l)=p at hol ⊢;refine nav ?_;(refine ζa ?_<;>refine xL 44 ζb (xL 45 (ZaH 1000 Zhm) ?_)<;>refine ζd ?_)
        (refine ζa ?_<;>refine xL 47 ζ6 (xL 46 ζc ?_)<;>refine ζd ?_)
        (first|refine cCd ?_ ?_|refine cC ?_ ?_)<;>intro hb46
        · first
          |exact bN hb46
          | (
           obtain rfl:p=[]:=XO (by omega);refine nav ?_;(refine ζa ?_<;>refine xL 48 (ζB Zna) ?_<;>(refine ζr (Zlb (t:=48) (p':=pTr Zkp) rfl ZoA) fun _=>?_;refine ζt 4 Zda ?_)<;>refine ζd ?_)
           exact ZbA (k:=3) 4 kR (Tryz.results125) rfl rfl (Xa rfl) (by decide) rfl rfl)
        · first
          |exact bN hb46
          | (
           refine nav ?_;(refine ζa ?_<;>refine xL 50 ζ6 (xL 49 ζc ?_)<;>refine ζd ?_)
           (first|refine cCd ?_ ?_|refine cC ?_ ?_)<;>intro hb49
           · first
             |exact bN hb49
             | (
              obtain ⟨x,rfl⟩:∃x,p=[x]:=by
               match p,hb49 with
               |[],h=>simp at h
               |[x],_=>exact ⟨x,rfl⟩
               |_::_::_,h=>simp at h;omega
              have e1:((ζ3 [x]).drop (0*3)).take 3=cN x:=ζ4 (k:=0) rfl;have e2:0*3+3≤(ζ3 [x]).length:=Zah (k:=0) (x:=x) rfl;refine nav ?_;(refine ζa ?_<;>refine xL 51 ζb (xL 52 (ζv 1000 Zhm) ?_)<;>(refine yL 53 (ζk 1000 Zda) fun v53 h=>?_;cases h)<;>refine ζt 4 Zda ?_<;>refine ζd ?_)
              exact ZbA (k:=3) 4 kR (Tryz.results125) rfl rfl (Xa rfl) (by decide) rfl rfl)
           · first
             |exact bN hb49
             | (
              refine nav ?_;refine ζw (En.freeze (l:=1000) (t:=5) rfl rfl) fun _=>?_;rw [Zfu _ _ _ rfl];(refine ζa ?_<;>refine xL 54 ζb (xL 55 ζb (xL 56 (ζB Zna) ?_))<;>refine ζt 4 Zda ?_<;>refine ζd ?_)
              refine ZbA (k:=3) 4 kR (Tryz.results125) rfl rfl (Xa rfl) (by decide) rfl ?_;match p,hb46,hb49 with
              |[],h,_=>simp at h
              |[x],_,h=>simp at h
              |x::y::r,_,_=>rfl)))
end Go.Proofs.YtgfabnhpllkebaaGreatDoor
namespace Go.En
open Go.RowKit Go.Cb
set_option linter.all false
section
variable {P:Program} {c:Ctx} {ops:Array Oper} {Q:Exit→Act→World→Prop} {rest:List Oper} {sL hP:List (Nat×Ent)} {o:Oper}
end
section
variable {P:Program} {st:St} {o:Oper} {x y:Operand} {q q':PV} {t t':TypeId}
end
inductive ResR (P:Program) (sL hP:List (Nat×Ent)):ResultVar→PV→Prop
 |tmp {t:Nat} {v:Value} {p:PV} (ht:lk sL t=some (v,p)):ResR P sL hP (.tmp t) p
 |cell {t ty k e k' n:Nat} {h:Value} {q:PV} {cs:List PV} (l:Nat) (hT:AggT P ty k=true) (ht:lk sL t=some (padd (sbase h) 0,q)) (hl:lk hP l=some (h, .own e k' n cs)) (hp:k≤cs.length) (hk:0<k) (hsh:(cs.take k).all isSh=true):ResR P sL hP (.cell t ty) (.agg (cs.take k))
 |cell1 {t ty e k' n:Nat} {h:Value} {q p:PV} {cs:List PV} (l:Nat) (hT:NoAgg P ty=true) (ht:lk sL t=some (padd (sbase h) 0,q)) (hl:lk hP l=some (h, .own e k' n cs)) (hp:cs[0]? =some p) (hsh:isSh p=true):ResR P sL hP (.cell t ty) p
def Zqp (tmps:Array Value):ResultVar→Sem Value
 | .tmp t=>pure (tmps.getD t undef)
 | .cell a t=>do loadVar t (←asAddr (tmps.getD a undef))
section
variable {P:Program} {c:Ctx} {sL hP:List (Nat×Ent)}
theorem Zvn {F:Nat→BS} {a:Act} {w:World} (H:HoldsF c (⟨sL,hP⟩:St) F a w) {t ty l e k' n:Nat} {h:Value} {q p:PV} {cs:List PV} (hT:NoAgg P ty=true) (ht:lk sL t=some (padd (sbase h) 0,q)) (hl:lk hP l=some (h, .own e k' n cs)) (hp:cs[0]? =some p) (hsh:isSh p=true):
 ∃V A,(asAddr (a.tmps.getD t undef)).run P w= .ok A w∧(loadVar ty A).run P w= .ok V w∧Shr (mof c hP F) w V p:=by
 have hv:=(H.sl t _ _ ht).1
 obtain ⟨xs,Fs,hrow,hlen,hTr,hd,hb,hF'⟩:=(H.tr l _ _ hl).row
 have hj:=ζg hp
 rcases ZaX hrow with ⟨_,_,rfl⟩|⟨g,cap,rfl,h1,h2,h3⟩
 · simp at hlen;rw [hlen] at hj;simp at hj
 obtain ⟨y,hy⟩:=Zar hp hlen
 have hS:=(hTr 0 y p hy hp).sh hsh
 refine ⟨y,⟨g,0,none⟩,?_,?_,hS⟩
 · simp only [sbase,padd,Xw] at hv;simp [XY,hv,asAddr]
 · have:=ZbM hrow hy;simp [loadVar,NoAgg.run hT,load,Sem.run,this]
theorem ResR.run {r:ResultVar} {p:PV} {F:Nat→BS} {a:Act} {w:World} (hr:ResR P sL hP r p) (H:HoldsF c (⟨sL,hP⟩:St) F a w):∃V,(Zqp a.tmps r).run P w= .ok V w∧Shr (mof c hP F) w V p:=by
 cases hr with
 | tmp ht=>
   obtain ⟨h1,h2⟩:=H.sl _ _ _ ht;exact ⟨_,by simp [Zqp,XY,h1],h2⟩
 | cell l hT ht hl hp hk hsh=>
   obtain ⟨V,A,h0,h1,h2⟩:=Zfn H hT ht hl hp hk hsh;exact ⟨V,by simp only [XY] at h0;simp [Zqp,h0,h1],h2⟩
 | cell1 l hT ht hl hp hsh=>
   obtain ⟨V,A,h0,h1,h2⟩:=Zvn H hT ht hl hp hsh;exact ⟨V,by simp only [XY] at h0;simp [Zqp,h0,h1],h2⟩
theorem Zsx (fn:Func) (tmps:Array Value):results fn tmps=(do let vs ←fn.results.mapM (Zqp tmps);pure (if h:vs.size=1 then vs[0] else Value.tuple vs)):=by
 unfold results
 congr 1
theorem ZxF {fn:Func} {r0 r1 r2:ResultVar} {tmps:Array Value} {w:World} {V0 V1 V2:Value} (hr:fn.results= #[r0,r1,r2]) (h0:(Zqp tmps r0).run P w= .ok V0 w) (h1:(Zqp tmps r1).run P w= .ok V1 w) (h2:(Zqp tmps r2).run P w= .ok V2 w):(results fn tmps).run P w= .ok (.tuple #[V0,V1,V2]) w:=by
 rw [Zsx,hr]
 simp [h0,h1,h2]
theorem ZEu {M:BS} {w:World} {V0 V1 V2:Value} {p0 p1 p2:PV} (h0:Shr M w V0 p0) (h1:Shr M w V1 p1) (h2:Shr M w V2 p2):Shr M w (.tuple #[V0,V1,V2]) (.tup [p0,p1,p2]):= .tup [V0,V1,V2] _ rfl fun i v q hv hq=>by
 match i with
 |0=>cases hv;cases hq;exact h0
 |1=>cases hv;cases hq;exact h1
 |2=>cases hv;cases hq;exact h2
 |i+3=>simp at hv
theorem Znc {fn:Func} {R:PV→Prop} {r0 r1 r2:ResultVar} {p0 p1 p2:PV} (hr:fn.results= #[r0,r1,r2]) (h0:ResR P sL hP r0 p0) (h1:ResR P sL hP r1 p1) (h2:ResR P sL hP r2 p2) (hR:R (.tup [p0,p1,p2])) (hN:∀b,¬c.N0 b:=by intro _ h;exact h) (hdf:c.df=[]:=by exact rfl):aR c (bodyPost P fn (Zfj c R)) (⟨sL,hP⟩:St):=fun a w ⟨F,H⟩=>by
 obtain ⟨V0,g0,s0⟩:=h0.run H
 obtain ⟨V1,g1,s1⟩:=h1.run H
 obtain ⟨V2,g2,s2⟩:=h2.run H
 refine ⟨H.df.trans hdf, .tuple #[V0,V1,V2],ZxF hr g0 g1 g2,_,_,fun _=>False,rfl,hR,H.ext.ext (fun b _=>hN b), .shr ((ZEu s0 s1 s2).anti fun b _ hb=>?_) (fun _ h=>h),fun _ h=>h.elim,H.dw⟩
 rcases hb with hb|hb
 · exact .inl hb
 · exact hb.elim
end
end Go.En
namespace Go.Proofs.YtgfabnhpllkebaaGreatDoor
open Go.RowKit Go.Cb Go.En
set_option linter.all false
set_option maxRecDepth 100000
structure TokI (l l':List UInt8) (p:Int×Int) (out:List Tk):Prop where
 eq:toksB l' p out=toksB l (1,1) []
 len:l'.length≤l.length
 suf:∀c∈l',c∈l
 a1:1≤p.1
 a2:p.1+l'.length≤1+l.length
 b1:1≤p.2
 b2:p.2+l'.length≤1+l.length
 out:out.length≤4000
def tkP (t:Tk):Int×List UInt8:=(t.kind,t.text)
def Reads (ks:List (Int×List UInt8)) (x:Nd):Prop:=∀(toks m:List Tk) (f:Nat),toks.map tkP=ks→Zqf m [40]=false→ks.length<f→rdT f (toks++m)= .ok x m
theorem map_cons {α β:Type} {g:α→β} {l:List α} {b:β} {m:List β} (h:l.map g=b::m):∃a l',l=a::l'∧g a=b∧l'.map g=m:=by
 cases l with
 |nil=>cases h
 |cons a l'=>rw [Xq,List.cons.injEq] at h;exact ⟨a,l',rfl,h.1,h.2⟩
end Go.Proofs.YtgfabnhpllkebaaGreatDoor
namespace Go.En
open Go.RowKit Go.Cb
set_option linter.all false
section
variable {P:Program} {c:Ctx} {sL hP:List (Nat×Ent)}
end
section
variable {P:Program} {c:Ctx} {ops:Array Oper} {Q:Exit→Act→World→Prop} {Pp:List PanicEntry→World→Prop} {Z:Nat→Bool} {K:List Nat} {fuel:Nat} {listed:Array Bool} {sL hP:List (Nat×Ent)} {o:Oper}
end
end Go.En
namespace Go.Proofs.YtgfabnhpllkebaaGreatDoor
open Go.RowKit Go.Cb Go.En
set_option linter.all false
set_option maxRecDepth 100000
theorem ζL:AggT Tryz.prog 24 3=true:=by kernel_rfl
theorem Zeq:ElT Tryz.prog 22 24 3 48 (.agg #[(.int .i64 0),(.string ByteArray.empty),(.slice none 0 0)]):=⟨Tryz.underlying22,by kernel_rfl,rfl,by decide⟩
theorem Zba:FldT Tryz.prog 24 0 0=true:=by kernel_rfl
theorem Zj4:FldT Tryz.prog 24 1 1=true:=by kernel_rfl
theorem Zd0:FldT Tryz.prog 24 2 2=true:=by kernel_rfl
theorem Zfv:NoAgg Tryz.prog 22=true:=by kernel_rfl
theorem Zcy:NoAgg Tryz.prog 3=true:=by kernel_rfl
theorem Zqq:NoAgg Tryz.prog 9=true:=by kernel_rfl
theorem Zcl:SlT Tryz.prog 22 24 3=true:=by kernel_rfl
theorem Zde:ZbX Tryz.prog 24=some ((.agg #[(.int .i64 0),(.string ByteArray.empty),(.slice none 0 0)]),([0,1,2]:List Nat).map fun o=>(o,1)):=by kernel_rfl
theorem ZbI:ZeroT Tryz.prog 24 (.agg #[(.int .i64 0),(.string ByteArray.empty),(.slice none 0 0)]):=by unfold ZeroT;kernel_rfl
theorem ZkI (x y:Nd):PV.sl 2 ([x,y].flatMap cN)=Zag [x,y]:=by
 unfold Zag
 rw [ZaV];rfl
theorem Zt2 (o:Int) (a:ByteArray):Rr (.agg [pInt o,Zab a, .val (.slice none 0 0)]) (pTr (.mk o a [])):=Rr.agg rfl fun i x b ha hb=>by
 match i with
 |0=>cases ha;cases hb;exact Rr.rfl' _
 |1=>cases ha;cases hb;exact Rr.rfl' _
 |2=>cases ha;cases hb;exact Rr.nil
 |i+3=>simp at ha
theorem ZxG {l:List Nd} {k:Nat} {x:Nd} (h:l[k]? =some x):(ZbN l)[k]? =some (Zal x):=by
 rw [Zf4,Xm,h];rfl
theorem ZxH (l:List Nd):(ZbN l).length=l.length:=by rw [Zf4,Xf]
theorem Ziz {t:Nd} (h:rightT t=true) (h6:t.op=6):∃x y,t.l=[x,y]:=by
 unfold rightT at h
 rw [h6] at h
 simp at h
 match t.l,h.1 with
 |[x,y],_=>exact ⟨x,y,rfl⟩
theorem Zhn {x y:Nd}:szL [x,y]=szT x+szT y:=by simp only [szL];omega
set_option maxHeartbeats 4000000 in
theorem Zvo : ∀ t : Nd,okT t=true→szT t≤1000000→AF Tryz.prog 78 [pTr t] (· =pTr (Zal t)):=Nd.ind fun o a l ih hok hs=>by
 have e0:pTr (.mk o a l)= .agg [pInt o,Zab a,Zag l]:=rfl
 rw [e0]
 obtain ⟨hr,hp⟩:=Zbf.1 hok
 have hf:=Zoy _ hok hs
 have hsz:=Zf8 (.mk o a l)
 have hlz:=Zef l
 have hops:=ZdH hr
 simp only [Nd.l,Nd.op] at hp hsz hops
 have hnl:=ZxH l
 have hnz:szL (ZbN l)≤szL l:=by
  have:=ZhZ (.mk o a l);clear this e0 hr hf hsz hlz hnl;clear ih hok hs;induction l with
  |nil=>exact Xd _
  | cons x l ih2=>
    have h3:=ZhZ x;have h4:=ih2 (fun y hy=>hp y (Xn _ hy));rw [ZbN,szL,szL];omega
 have hnf:∀y∈ZbN l,FitT y:=fun y hy=>by
  rw [Zf4] at hy;obtain ⟨x,hx,rfl⟩:=Xh.1 hy;have:=ZdT hx;exact Zoz (hp x hx) (by omega)
 refine AF.of_body 70 Tryz.func78 rfl Tryz.ntmps78 (Xa rfl) ?_
 intro w0 M0 vs hl hv
 obtain ⟨v0,rfl⟩:=Zco hl
 clear hl hv
 refine nav ?_
 (refine ζa ?_<;>refine ζH 1 3 fun h1=>?_<;>refine ζs [(.int .i64 0),(.string ByteArray.empty),(.slice none 0 0)] 3 2 ZbI fun h2=>?_<;>refine ζd ?_)
 (refine ζa ?_<;>refine xL 3 ζc ?_<;>refine ζd ?_)
 refine ζw (ZbW 200 24 3 rfl) fun _=>?_
 (refine ζa ?_<;>refine xL 8 (ζh 1 Zd0) ?_<;>(refine yL 9 (ζq 1 Zfv) fun v9 h=>?_;cases h)<;>refine xL 10 (ζU Zcl) (xL 11 ζb ?_)<;>refine ζd ?_)
 refine ζy (ι:={q:Nat×Value//q.1≤l.length∧q.2.oneCell'=true}) (fun k=>⟨[(1,_,_),(2,_,_),(9,_,_),(10,_,_),(3,k.1.2, .val k.1.2),(11, .int .i64 k.1.1,pInt k.1.1)],[(1,_,_),(2,_,_),(200,k.1.2, .own 24 3 ((ZbN l).take k.1.1).length (ζ3 ((ZbN l).take k.1.1)))]⟩) (fun k=>l.length-k.1.1) ⟨(0, .slice none 0 0),Xe _,rfl⟩ (fun a w H=>H.weaken ⟨rfl,rfl,rfl,rfl,rfl,rfl,trivial⟩ ⟨rfl,rfl,rfl,trivial⟩) ?_
 rintro ⟨⟨k,hO⟩,hk,hOo⟩
 dsimp only
 dsimp only at hk hOo
 refine nav ?_
 (refine ζa ?_<;>refine xL 12 ζK ?_<;>refine ζd ?_)
 (first|refine cCd ?_ ?_|refine cC ?_ ?_)<;>intro hb12
 · first
   |exact bN hb12
   | (
    obtain ⟨x,hx⟩:=ζm (show k<l.length by omega);have e1:((ζ3 l).drop (k*3)).take 3=[pInt x.op,Zab x.act,Zag x.l]:=ζ4 hx;have e2:=Zah hx;have hxm:=Xb hx;have hxs:=ZdT hxm;have hsn:=ζQ (ZxG hx);(have hsl:((ZbN l).take (k+1)).length=((ZbN l).take k).length+1:=by rw [hsn,Xc];rfl);(have hsl2:((ZbN l).take k).length≤1000000:=by rw [Xu];omega);refine nav ?_;(refine ζa ?_<;>refine xL 13 (ζI Zcl) ?_<;>(refine yL 14 (ZaQ ζL) fun v14 h=>?_;cases h)<;>refine ζs [(.int .i64 0),(.string ByteArray.empty),(.slice none 0 0)] 3 5 ZbI fun h5=>?_<;>refine ζt 5 ζL ?_<;>refine ζd ?_)
    (refine ζa ?_<;>refine xL 15 ζb ?_<;>(refine yL 16 (ζk 5 ζL) fun v16 h=>?_;cases h)<;>(refine cD 17 (cA Tryz.call78 (ih x hxm (hp x hxm) (by omega))) fun v17 hv17=>?_;clear hv17)<;>refine Zaw 18 Zeq fun h18 ho18=>?_<;>(refine ζ0 200 18 19 Zeq fun h19 ho19=>?_;refine ζr (ζF (l:=19) 200 rfl rfl) fun _=>?_;refine ζr (ζM (l:=200) (p':= .own 24 3 ((ZbN l).take (k+1)).length (ζ3 ((ZbN l).take (k+1)))) rfl (Eq.trans (congrArg (PV.own 24 3 _) (show _=ζ3 ((ZbN l).take k)++cN (Zal x) from rfl)) (by rw [Zjh,←hsn,hsl]))) fun _=>?_)<;>refine xL 3 ζc ?_<;>refine ζd ?_)
    (refine ζa ?_<;>refine xL 20 ζG (xL 11 ζb ?_)<;>refine ζd ?_)
    refine ζj (
     ⟨(k+1,h19),ζg hx,ho19⟩
     ) (by dsimp only;omega) ⟨rfl,rfl,rfl,rfl,rfl,rfl,trivial⟩ ⟨rfl,rfl,rfl,trivial⟩)
 · first
   |exact bN hb12
   | (
    rw [Xo (show (ZbN l).length≤k by omega)];refine nav ?_;(refine ζa ?_<;>refine xL 21 (ζh 1 Zba) ?_<;>(refine yL 22 (ζq 1 Zcy) fun v22 h=>?_;cases h)<;>refine ζd ?_)
    (refine ζa ?_<;>refine xL 24 ζ6 (xL 23 ζc ?_)<;>refine ζd ?_)
    (first|refine cCd ?_ ?_|refine cC ?_ ?_)<;>intro hb23
    · first
      |exact bN hb23
      | (
       refine nav ?_;(first|refine cCd ?_ ?_|refine cC ?_ ?_)<;>intro hb23
       · first
         |exact bN hb23
         | (
          refine nav ?_;(refine ζa ?_<;>refine xL 26 (ζh 1 Zba) ?_<;>(refine yL 27 (ζq 1 Zcy) fun v27 h=>?_;cases h)<;>refine xL 28 (ζh 1 Zj4) ?_<;>(refine yL 29 (ζq 1 Zqq) fun v29 h=>?_;cases h)<;>refine xL 30 (ζB Zde) ?_<;>(refine ζr (Zlb (t:=30) (p':=pTr (.mk o a [])) rfl (Zt2 o a)) fun _=>?_;refine ζt 2 ζL ?_)<;>refine ζd ?_)
          refine ZbA (k:=3) 2 kR (Tryz.results78) rfl rfl (Xa rfl) (by decide) rfl ?_;rw [Zal,Zkr,if_pos (by omega)];rfl)
       · first
         |exact bN hb23
         | (
          refine nav ?_;(refine ζa ?_<;>refine xL 32 ζ6 (xL 31 ζc ?_)<;>refine ζd ?_)
          (first|refine cCd ?_ ?_|refine cC ?_ ?_)<;>intro hb31
          · first
            |exact bN hb31
            | (
             obtain ⟨f0,s0,hl2⟩:=Ziz hr (show o=6 from by omega);obtain rfl:l=[f0,s0]:=hl2;(have ho6:o=6:=by omega);(have hres:Zal (.mk o a [f0,s0])=Zkq (Zcs (Zal f0) (Zal s0)):=by rw [Zal,Zkr,if_neg (by omega),if_pos ho6];rfl);have hF1:=Zli (hp f0 (by simp));have hS1:=Zli (hp s0 (by simp));have hFz:=ZhZ f0;have hSz:=ZhZ s0;have hfF:=hnf (Zal f0) (by simp [ZbN]);have hfS:=hnf (Zal s0) (by simp [ZbN]);rw [Zhn] at hsz;have e3:((ζ3 (ZbN [f0,s0])).drop (0*3)).take 3=[pInt (Zal f0).op,Zab (Zal f0).act,Zag (Zal f0).l]:=ζ4 (k:=0) rfl;have e4:0*3+3≤(ζ3 (ZbN [f0,s0])).length:=Zah (k:=0) (x:=Zal f0) rfl;have e5:((ζ3 (ZbN [f0,s0])).drop (1*3)).take 3=[pInt (Zal s0).op,Zab (Zal s0).act,Zag (Zal s0).l]:=ζ4 (k:=1) rfl;have e6:1*3+3≤(ζ3 (ZbN [f0,s0])).length:=Zah (k:=1) (x:=Zal s0) rfl;refine nav ?_;refine Zd8 (fun q:Value×Value×Value=>⟨[(2,padd (sbase q.1) 0, .val (padd (sbase q.1) 0)),(6,padd (sbase q.2.1) 0, .val (padd (sbase q.2.1) 0)),(7,padd (sbase q.2.2) 0, .val (padd (sbase q.2.2) 0))],[(2,q.1, .own 24 3 1 [.val (.int .i64 0), .val (.string ByteArray.empty), .val (.slice none 0 0)]),(6,q.2.1, .own 24 3 1 [pInt (Zal f0).op,Zab (Zal f0).act,Zag (Zal f0).l]),(7,q.2.2, .own 24 3 1 [pInt (Zal s0).op,Zab (Zal s0).act,Zag (Zal s0).l])]⟩) ?_ ?_
             · (refine ζY (fun i=>([]:List Nat).elem i) [200] kR ?_<;>refine xD 0 33 rfl ζb ?_<;>refine xD 1 34 rfl (ζv 200 Zcl) ?_<;>(refine yD 2 35 rfl (ζk 200 ζL) fun v35 h=>?_;cases h)<;>refine xD 3 36 rfl ζb ?_<;>refine xD 4 37 rfl (ζv 200 Zcl) ?_<;>(refine yD 5 38 rfl (ζk 200 ζL) fun v38 h=>?_;cases h)<;>(refine Zad 6 7 kR ?_ ?_;rotate_right;(focus ((refine ζf rfl fun w9 M9 N9 DQ back=>?_)<;>refine ζs [(.int .i64 0),(.string ByteArray.empty),(.slice none 0 0)] 3 7 ZbI fun h7=>?_<;>refine ζe (back _ (nrm ?_))<;>(refine ζi 6 kR ?_)<;>(refine ζf rfl fun w9 M9 N9 DQ back=>?_)<;>refine ζs [(.int .i64 0),(.string ByteArray.empty),(.slice none 0 0)] 3 6 ZbI fun h6=>?_<;>refine ζe (back _ (nrm ?_))<;>(refine ζi 8 kR ?_)<;>(refine ζf rfl fun w9 M9 N9 DQ back=>?_)<;>refine ζt 6 ζL ?_<;>refine ζe (back _ (nrm ?_))<;>(refine ζi 9 kR ?_)<;>(refine ζf rfl fun w9 M9 N9 DQ back=>?_)<;>refine ζt 7 ζL ?_<;>refine ζe (back _ (nrm ?_))));rotate_right;(focus ((refine ζf rfl fun w9 M9 N9 DQ back=>?_)<;>refine ζs [(.int .i64 0),(.string ByteArray.empty),(.slice none 0 0)] 3 6 ZbI fun h6=>?_<;>refine ζe (back _ (nrm ?_))<;>(refine ζi 7 kR ?_)<;>(refine ζf rfl fun w9 M9 N9 DQ back=>?_)<;>refine ζs [(.int .i64 0),(.string ByteArray.empty),(.slice none 0 0)] 3 7 ZbI fun h7=>?_<;>refine ζe (back _ (nrm ?_))<;>(refine ζi 8 kR ?_)<;>(refine ζf rfl fun w9 M9 N9 DQ back=>?_)<;>refine ζt 6 ζL ?_<;>refine ζe (back _ (nrm ?_))<;>(refine ζi 9 kR ?_)<;>(refine ζf rfl fun w9 M9 N9 DQ back=>?_)<;>refine ζt 7 ζL ?_<;>refine ζe (back _ (nrm ?_)))))<;>refine Zam kR (nav ?_)<;>try dsimp only)<;>(
                exact ZaA (_,_,_) ⟨rfl,rfl,rfl,trivial⟩ ⟨rfl,rfl,rfl,trivial⟩)
             · rintro ⟨h2,h6,h7⟩;dsimp only;clear e3 e4 e5 e6;generalize Zal f0=F at hres hF1 hFz hfF ⊢;generalize Zal s0=S at hres hS1 hSz hfS ⊢;refine nav ?_;(refine ζa ?_<;>refine xL 39 (ζh 6 Zba) ?_<;>(refine yL 40 (ζq 6 Zcy) fun v40 h=>?_;cases h)<;>refine xL 41 ζ6 ?_<;>refine ζd ?_)
               refine Zd8 (fun _:Unit=>⟨[(2,padd (sbase h2) 0, .val (padd (sbase h2) 0)),(6,padd (sbase h6) 0, .val (padd (sbase h6) 0)),(7,padd (sbase h7) 0, .val (padd (sbase h7) 0))],[(2,h2, .own 24 3 1 [.val (.int .i64 0), .val (.string ByteArray.empty), .val (.slice none 0 0)]),(6,h6, .own 24 3 1 (cN (Zcs F S).1)),(7,h7, .own 24 3 1 (cN (Zcs F S).2))]⟩) ?_ ?_
               · (first|refine cCd ?_ ?_|refine cC ?_ ?_)<;>intro hb41
                 · first
                   |exact bN hb41
                   | (
                    obtain ⟨A,B,hAB⟩:=Ziz (Zbf.1 hF1).1 hb41;(have hlop:Zcs F S=(A,Zfq 4 [B,S]):=by unfold Zcs;rw [if_pos hb41,hAB]);have hfA:=hfF.p A (by rw [hAB];simp);have hfB:=hfF.p B (by rw [hAB];simp);have hFe:=Zf8 F;rw [hAB,Zhn] at hFe;rw [hAB];have e3:((ζ3 [A,B]).drop (0*3)).take 3=[pInt A.op,Zab A.act,Zag A.l]:=ζ4 (k:=0) rfl;have e4:0*3+3≤(ζ3 [A,B]).length:=Zah (k:=0) (x:=A) rfl;have e5:((ζ3 [A,B]).drop (1*3)).take 3=[pInt B.op,Zab B.act,Zag B.l]:=ζ4 (k:=1) rfl;have e6:1*3+3≤(ζ3 [A,B]).length:=Zah (k:=1) (x:=B) rfl;have hj:=ZkH 4 [B,S] (by decide) (by decide) (fun x hx=>by simp only [Xl,VW,or_false] at hx;rcases hx with h|h<;>rw [h]<;>assumption) (by rw [Zhn];omega);refine nav ?_;(refine ζY (fun i=>([11,12]:List Nat).elem i) [6,7] kR ?_<;>refine xDT 0 42 rfl (ζh 6 Zd0) ?_<;>(refine yDT 1 43 rfl (ζq 6 Zfv) fun v43 h=>?_;cases h)<;>refine xDT 2 44 rfl (ζI Zcl) ?_<;>(refine yDT 3 45 rfl (ZaQ ζL) fun v45 h=>?_;cases h)<;>refine xDT 4 46 rfl (ζh 6 Zd0) ?_<;>(refine yDT 5 47 rfl (ζq 6 Zfv) fun v47 h=>?_;cases h)<;>refine xDT 6 48 rfl (ζI Zcl) ?_<;>(refine yDT 7 49 rfl (ZaQ ζL) fun v49 h=>?_;cases h)<;>(refine yE 8 50 rfl (ζk 7 ζL) fun v50 h=>?_;cases h)<;>(refine ζi 9 kR ?_)<;>(refine ζf rfl fun w9 M9 N9 DQ back=>?_)<;>(refine Zf5 (kk:=3) (xs:=[_,_]) (cs:=[[_,_,_],[_,_,_]]) 51 Zeq fun h51 ho51=>?_;refine ζr (En.freeze (l:=51) (t:=51) rfl rfl) fun _=>?_;refine ζr (Zbh (t:=51) (p':=Zag [B,S]) rfl (Eq.trans (show _=PV.sl 2 ([B,S].flatMap cN) from rfl) (ZkI B S))) fun _=>?_)<;>refine ζe (back _ (nrm ?_))<;>(refine ζi 10 kR ?_)<;>(refine ZaM (d:=52) rfl (cA (Tryz.call125) hj) fun v52 h=>?_;cases h)<;>(refine ζi 11 kR ?_)<;>(refine Zft rfl rfl fun DQ back=>?_)<;>refine ζt 6 ζL ?_<;>refine ζe (back _ ?_)<;>(refine Zdt 12 kR rfl rfl fun DQ back=>?_)<;>refine ζt 7 ζL ?_<;>refine ζe (back _ ?_)<;>refine Zhj kR (nav ?_)<;>try dsimp only)
                    refine Zbn (ζM (l:=6) (p':= .own 24 3 1 (cN (Zcs F S).1)) rfl (by rw [hlop];rfl)) fun _=>?_;refine Zbn (ζM (l:=7) (p':= .own 24 3 1 (cN (Zcs F S).2)) rfl (by rw [hlop];rfl)) fun _=>?_;exact ZaA () ⟨rfl,rfl,rfl,trivial⟩ ⟨rfl,rfl,rfl,trivial⟩)
                 · first
                   |exact bN hb41
                   | (
                    (have hlop:Zcs F S=(F,S):=by unfold Zcs;rw [if_neg hb41]);refine ζw (ζM (l:=6) (p':= .own 24 3 1 (cN (Zcs F S).1)) rfl (by rw [hlop];rfl)) fun _=>?_;refine ζw (ζM (l:=7) (p':= .own 24 3 1 (cN (Zcs F S).2)) rfl (by rw [hlop];rfl)) fun _=>?_;refine nav ?_;exact ZaA () ⟨rfl,rfl,rfl,trivial⟩ ⟨rfl,rfl,rfl,trivial⟩)
               · rintro _;unfold Zkq at hres;generalize (Zcs F S).1=X at hres ⊢;generalize (Zcs F S).2=Y at hres ⊢;have ec:∀t:Nd,cN t=[pInt t.op,Zab t.act,Zag t.l]:=fun _=>rfl;rw [ec,ec];refine nav ?_;(refine ζa ?_<;>refine xL 53 (ζh 6 Zba) ?_<;>(refine yL 54 (ζq 6 Zcy) fun v54 h=>?_;cases h)<;>refine xL 55 ζ6 (xL 56 ζb ?_)<;>(refine bLd 56 (fun hb56=>?_) (fun hb56=>?_)<;>(first|refine kL 57 ?_|refine xL 57 (ζh 7 Zba) ?_))<;>(first|refine kL 58 ?_|(refine yL 58 (ζq 7 Zcy) fun v58 h=>?_;cases h))<;>(first|refine kL 59 ?_|refine xL 59 ζ6 ?_)<;>refine xL 60 ζJ ?_<;>refine ζd ?_)<;>(
                  (first|refine cCd ?_ ?_|refine cC ?_ ?_)<;>intro hb60
                  · first
                    |exact bN hb60
                    | (
                     rw [if_pos (by omega)] at hres;refine nav ?_;(refine ζa ?_<;>refine xL 61 (ζB Zde) ?_<;>(refine ζr (Zlb (t:=61) (p':=pTr Zkp) rfl ZoA) fun _=>?_;refine ζt 2 ζL ?_)<;>refine ζd ?_)
                     refine ZbA (k:=3) 2 kR (Tryz.results78) rfl rfl (Xa rfl) (by decide) rfl ?_;rw [hres];rfl)
                  · first
                    |exact bN hb60
                    | (
                     rw [if_neg (by omega)] at hres;refine nav ?_;(refine ζa ?_<;>(refine yL 62 (ζk 6 ζL) fun v62 h=>?_;cases h)<;>(refine yL 63 (ζk 7 ζL) fun v63 h=>?_;cases h)<;>(refine Zf5 (kk:=3) (xs:=[_,_]) (cs:=[[_,_,_],[_,_,_]]) 64 Zeq fun h64 ho64=>?_;refine ζr (En.freeze (l:=64) (t:=64) rfl rfl) fun _=>?_;refine ζr (Zbh (t:=64) (p':=Zag [X,Y]) rfl (Eq.trans (show _=PV.sl 2 ([X,Y].flatMap cN) from rfl) (ZkI X Y))) fun _=>?_)<;>refine xL 65 (ζB Zde) ?_<;>refine ζt 2 ζL ?_<;>refine ζd ?_)
                     refine ZbA (k:=3) 2 kR (Tryz.results78) rfl rfl (Xa rfl) (by decide) rfl ?_;rw [hres];rfl)))
          · first
            |exact bN hb31
            | (
             refine nav ?_;refine ζw (En.freeze (l:=200) (t:=3) rfl rfl) fun _=>?_;rw [Zfu _ _ _ rfl];(refine ζa ?_<;>refine xL 66 (ζh 1 Zba) ?_<;>(refine yL 67 (ζq 1 Zcy) fun v67 h=>?_;cases h)<;>refine xL 68 ζb ?_<;>(refine cD 69 (cA Tryz.call125 (ZkH o (ZbN l) (by omega) (by omega) hnf (by omega))) fun v69 hv69=>?_;clear hv69)<;>refine ζt 2 ζL ?_<;>refine ζd ?_)
             refine ZbA (k:=3) 2 kR (Tryz.results78) rfl rfl (Xa rfl) (by decide) rfl ?_;rw [Zal,Zkr,if_neg (by omega),if_neg (by omega)];rfl)))
    · first
      |exact bN hb23
      | (
       refine nav ?_;(refine ζa ?_<;>refine xL 25 ζ6 (xL 23 ζc ?_)<;>refine ζd ?_)
       (first|refine cCd ?_ ?_|refine cC ?_ ?_)<;>intro hb23
       · first
         |exact bN hb23
         | (
          refine nav ?_;(refine ζa ?_<;>refine xL 26 (ζh 1 Zba) ?_<;>(refine yL 27 (ζq 1 Zcy) fun v27 h=>?_;cases h)<;>refine xL 28 (ζh 1 Zj4) ?_<;>(refine yL 29 (ζq 1 Zqq) fun v29 h=>?_;cases h)<;>refine xL 30 (ζB Zde) ?_<;>(refine ζr (Zlb (t:=30) (p':=pTr (.mk o a [])) rfl (Zt2 o a)) fun _=>?_;refine ζt 2 ζL ?_)<;>refine ζd ?_)
          refine ZbA (k:=3) 2 kR (Tryz.results78) rfl rfl (Xa rfl) (by decide) rfl ?_;rw [Zal,Zkr,if_pos (by omega)];rfl)
       · first
         |exact bN hb23
         | (
          refine nav ?_;(refine ζa ?_<;>refine xL 32 ζ6 (xL 31 ζc ?_)<;>refine ζd ?_)
          (first|refine cCd ?_ ?_|refine cC ?_ ?_)<;>intro hb31
          · first
            |exact bN hb31
            | (
             obtain ⟨f0,s0,hl2⟩:=Ziz hr (show o=6 from by omega);obtain rfl:l=[f0,s0]:=hl2;(have ho6:o=6:=by omega);(have hres:Zal (.mk o a [f0,s0])=Zkq (Zcs (Zal f0) (Zal s0)):=by rw [Zal,Zkr,if_neg (by omega),if_pos ho6];rfl);have hF1:=Zli (hp f0 (by simp));have hS1:=Zli (hp s0 (by simp));have hFz:=ZhZ f0;have hSz:=ZhZ s0;have hfF:=hnf (Zal f0) (by simp [ZbN]);have hfS:=hnf (Zal s0) (by simp [ZbN]);rw [Zhn] at hsz;have e3:((ζ3 (ZbN [f0,s0])).drop (0*3)).take 3=[pInt (Zal f0).op,Zab (Zal f0).act,Zag (Zal f0).l]:=ζ4 (k:=0) rfl;have e4:0*3+3≤(ζ3 (ZbN [f0,s0])).length:=Zah (k:=0) (x:=Zal f0) rfl;have e5:((ζ3 (ZbN [f0,s0])).drop (1*3)).take 3=[pInt (Zal s0).op,Zab (Zal s0).act,Zag (Zal s0).l]:=ζ4 (k:=1) rfl;have e6:1*3+3≤(ζ3 (ZbN [f0,s0])).length:=Zah (k:=1) (x:=Zal s0) rfl;refine nav ?_;refine Zd8 (fun q:Value×Value×Value=>⟨[(2,padd (sbase q.1) 0, .val (padd (sbase q.1) 0)),(6,padd (sbase q.2.1) 0, .val (padd (sbase q.2.1) 0)),(7,padd (sbase q.2.2) 0, .val (padd (sbase q.2.2) 0))],[(2,q.1, .own 24 3 1 [.val (.int .i64 0), .val (.string ByteArray.empty), .val (.slice none 0 0)]),(6,q.2.1, .own 24 3 1 [pInt (Zal f0).op,Zab (Zal f0).act,Zag (Zal f0).l]),(7,q.2.2, .own 24 3 1 [pInt (Zal s0).op,Zab (Zal s0).act,Zag (Zal s0).l])]⟩) ?_ ?_
             · (refine ζY (fun i=>([]:List Nat).elem i) [200] kR ?_<;>refine xD 0 33 rfl ζb ?_<;>refine xD 1 34 rfl (ζv 200 Zcl) ?_<;>(refine yD 2 35 rfl (ζk 200 ζL) fun v35 h=>?_;cases h)<;>refine xD 3 36 rfl ζb ?_<;>refine xD 4 37 rfl (ζv 200 Zcl) ?_<;>(refine yD 5 38 rfl (ζk 200 ζL) fun v38 h=>?_;cases h)<;>(refine Zad 6 7 kR ?_ ?_;rotate_right;(focus ((refine ζf rfl fun w9 M9 N9 DQ back=>?_)<;>refine ζs [(.int .i64 0),(.string ByteArray.empty),(.slice none 0 0)] 3 7 ZbI fun h7=>?_<;>refine ζe (back _ (nrm ?_))<;>(refine ζi 6 kR ?_)<;>(refine ζf rfl fun w9 M9 N9 DQ back=>?_)<;>refine ζs [(.int .i64 0),(.string ByteArray.empty),(.slice none 0 0)] 3 6 ZbI fun h6=>?_<;>refine ζe (back _ (nrm ?_))<;>(refine ζi 8 kR ?_)<;>(refine ζf rfl fun w9 M9 N9 DQ back=>?_)<;>refine ζt 6 ζL ?_<;>refine ζe (back _ (nrm ?_))<;>(refine ζi 9 kR ?_)<;>(refine ζf rfl fun w9 M9 N9 DQ back=>?_)<;>refine ζt 7 ζL ?_<;>refine ζe (back _ (nrm ?_))));rotate_right;(focus ((refine ζf rfl fun w9 M9 N9 DQ back=>?_)<;>refine ζs [(.int .i64 0),(.string ByteArray.empty),(.slice none 0 0)] 3 6 ZbI fun h6=>?_<;>refine ζe (back _ (nrm ?_))<;>(refine ζi 7 kR ?_)<;>(refine ζf rfl fun w9 M9 N9 DQ back=>?_)<;>refine ζs [(.int .i64 0),(.string ByteArray.empty),(.slice none 0 0)] 3 7 ZbI fun h7=>?_<;>refine ζe (back _ (nrm ?_))<;>(refine ζi 8 kR ?_)<;>(refine ζf rfl fun w9 M9 N9 DQ back=>?_)<;>refine ζt 6 ζL ?_<;>refine ζe (back _ (nrm ?_))<;>(refine ζi 9 kR ?_)<;>(refine ζf rfl fun w9 M9 N9 DQ back=>?_)<;>refine ζt 7 ζL ?_<;>refine ζe (back _ (nrm ?_)))))<;>refine Zam kR (nav ?_)<;>try dsimp only)<;>(
                exact ZaA (_,_,_) ⟨rfl,rfl,rfl,trivial⟩ ⟨rfl,rfl,rfl,trivial⟩)
             · rintro ⟨h2,h6,h7⟩;dsimp only;clear e3 e4 e5 e6;generalize Zal f0=F at hres hF1 hFz hfF ⊢;generalize Zal s0=S at hres hS1 hSz hfS ⊢;refine nav ?_;(refine ζa ?_<;>refine xL 39 (ζh 6 Zba) ?_<;>(refine yL 40 (ζq 6 Zcy) fun v40 h=>?_;cases h)<;>refine xL 41 ζ6 ?_<;>refine ζd ?_)
               refine Zd8 (fun _:Unit=>⟨[(2,padd (sbase h2) 0, .val (padd (sbase h2) 0)),(6,padd (sbase h6) 0, .val (padd (sbase h6) 0)),(7,padd (sbase h7) 0, .val (padd (sbase h7) 0))],[(2,h2, .own 24 3 1 [.val (.int .i64 0), .val (.string ByteArray.empty), .val (.slice none 0 0)]),(6,h6, .own 24 3 1 (cN (Zcs F S).1)),(7,h7, .own 24 3 1 (cN (Zcs F S).2))]⟩) ?_ ?_
               · (first|refine cCd ?_ ?_|refine cC ?_ ?_)<;>intro hb41
                 · first
                   |exact bN hb41
                   | (
                    obtain ⟨A,B,hAB⟩:=Ziz (Zbf.1 hF1).1 hb41;(have hlop:Zcs F S=(A,Zfq 4 [B,S]):=by unfold Zcs;rw [if_pos hb41,hAB]);have hfA:=hfF.p A (by rw [hAB];simp);have hfB:=hfF.p B (by rw [hAB];simp);have hFe:=Zf8 F;rw [hAB,Zhn] at hFe;rw [hAB];have e3:((ζ3 [A,B]).drop (0*3)).take 3=[pInt A.op,Zab A.act,Zag A.l]:=ζ4 (k:=0) rfl;have e4:0*3+3≤(ζ3 [A,B]).length:=Zah (k:=0) (x:=A) rfl;have e5:((ζ3 [A,B]).drop (1*3)).take 3=[pInt B.op,Zab B.act,Zag B.l]:=ζ4 (k:=1) rfl;have e6:1*3+3≤(ζ3 [A,B]).length:=Zah (k:=1) (x:=B) rfl;have hj:=ZkH 4 [B,S] (by decide) (by decide) (fun x hx=>by simp only [Xl,VW,or_false] at hx;rcases hx with h|h<;>rw [h]<;>assumption) (by rw [Zhn];omega);refine nav ?_;(refine ζY (fun i=>([11,12]:List Nat).elem i) [6,7] kR ?_<;>refine xDT 0 42 rfl (ζh 6 Zd0) ?_<;>(refine yDT 1 43 rfl (ζq 6 Zfv) fun v43 h=>?_;cases h)<;>refine xDT 2 44 rfl (ζI Zcl) ?_<;>(refine yDT 3 45 rfl (ZaQ ζL) fun v45 h=>?_;cases h)<;>refine xDT 4 46 rfl (ζh 6 Zd0) ?_<;>(refine yDT 5 47 rfl (ζq 6 Zfv) fun v47 h=>?_;cases h)<;>refine xDT 6 48 rfl (ζI Zcl) ?_<;>(refine yDT 7 49 rfl (ZaQ ζL) fun v49 h=>?_;cases h)<;>(refine yE 8 50 rfl (ζk 7 ζL) fun v50 h=>?_;cases h)<;>(refine ζi 9 kR ?_)<;>(refine ζf rfl fun w9 M9 N9 DQ back=>?_)<;>(refine Zf5 (kk:=3) (xs:=[_,_]) (cs:=[[_,_,_],[_,_,_]]) 51 Zeq fun h51 ho51=>?_;refine ζr (En.freeze (l:=51) (t:=51) rfl rfl) fun _=>?_;refine ζr (Zbh (t:=51) (p':=Zag [B,S]) rfl (Eq.trans (show _=PV.sl 2 ([B,S].flatMap cN) from rfl) (ZkI B S))) fun _=>?_)<;>refine ζe (back _ (nrm ?_))<;>(refine ζi 10 kR ?_)<;>(refine ZaM (d:=52) rfl (cA (Tryz.call125) hj) fun v52 h=>?_;cases h)<;>(refine ζi 11 kR ?_)<;>(refine Zft rfl rfl fun DQ back=>?_)<;>refine ζt 6 ζL ?_<;>refine ζe (back _ ?_)<;>(refine Zdt 12 kR rfl rfl fun DQ back=>?_)<;>refine ζt 7 ζL ?_<;>refine ζe (back _ ?_)<;>refine Zhj kR (nav ?_)<;>try dsimp only)
                    refine Zbn (ζM (l:=6) (p':= .own 24 3 1 (cN (Zcs F S).1)) rfl (by rw [hlop];rfl)) fun _=>?_;refine Zbn (ζM (l:=7) (p':= .own 24 3 1 (cN (Zcs F S).2)) rfl (by rw [hlop];rfl)) fun _=>?_;exact ZaA () ⟨rfl,rfl,rfl,trivial⟩ ⟨rfl,rfl,rfl,trivial⟩)
                 · first
                   |exact bN hb41
                   | (
                    (have hlop:Zcs F S=(F,S):=by unfold Zcs;rw [if_neg hb41]);refine ζw (ζM (l:=6) (p':= .own 24 3 1 (cN (Zcs F S).1)) rfl (by rw [hlop];rfl)) fun _=>?_;refine ζw (ζM (l:=7) (p':= .own 24 3 1 (cN (Zcs F S).2)) rfl (by rw [hlop];rfl)) fun _=>?_;refine nav ?_;exact ZaA () ⟨rfl,rfl,rfl,trivial⟩ ⟨rfl,rfl,rfl,trivial⟩)
               · rintro _;unfold Zkq at hres;generalize (Zcs F S).1=X at hres ⊢;generalize (Zcs F S).2=Y at hres ⊢;have ec:∀t:Nd,cN t=[pInt t.op,Zab t.act,Zag t.l]:=fun _=>rfl;rw [ec,ec];refine nav ?_;(refine ζa ?_<;>refine xL 53 (ζh 6 Zba) ?_<;>(refine yL 54 (ζq 6 Zcy) fun v54 h=>?_;cases h)<;>refine xL 55 ζ6 (xL 56 ζb ?_)<;>(refine bLd 56 (fun hb56=>?_) (fun hb56=>?_)<;>(first|refine kL 57 ?_|refine xL 57 (ζh 7 Zba) ?_))<;>(first|refine kL 58 ?_|(refine yL 58 (ζq 7 Zcy) fun v58 h=>?_;cases h))<;>(first|refine kL 59 ?_|refine xL 59 ζ6 ?_)<;>refine xL 60 ζJ ?_<;>refine ζd ?_)<;>(
                  (first|refine cCd ?_ ?_|refine cC ?_ ?_)<;>intro hb60
                  · first
                    |exact bN hb60
                    | (
                     rw [if_pos (by omega)] at hres;refine nav ?_;(refine ζa ?_<;>refine xL 61 (ζB Zde) ?_<;>(refine ζr (Zlb (t:=61) (p':=pTr Zkp) rfl ZoA) fun _=>?_;refine ζt 2 ζL ?_)<;>refine ζd ?_)
                     refine ZbA (k:=3) 2 kR (Tryz.results78) rfl rfl (Xa rfl) (by decide) rfl ?_;rw [hres];rfl)
                  · first
                    |exact bN hb60
                    | (
                     rw [if_neg (by omega)] at hres;refine nav ?_;(refine ζa ?_<;>(refine yL 62 (ζk 6 ζL) fun v62 h=>?_;cases h)<;>(refine yL 63 (ζk 7 ζL) fun v63 h=>?_;cases h)<;>(refine Zf5 (kk:=3) (xs:=[_,_]) (cs:=[[_,_,_],[_,_,_]]) 64 Zeq fun h64 ho64=>?_;refine ζr (En.freeze (l:=64) (t:=64) rfl rfl) fun _=>?_;refine ζr (Zbh (t:=64) (p':=Zag [X,Y]) rfl (Eq.trans (show _=PV.sl 2 ([X,Y].flatMap cN) from rfl) (ZkI X Y))) fun _=>?_)<;>refine xL 65 (ζB Zde) ?_<;>refine ζt 2 ζL ?_<;>refine ζd ?_)
                     refine ZbA (k:=3) 2 kR (Tryz.results78) rfl rfl (Xa rfl) (by decide) rfl ?_;rw [hres];rfl)))
          · first
            |exact bN hb31
            | (
             refine nav ?_;refine ζw (En.freeze (l:=200) (t:=3) rfl rfl) fun _=>?_;rw [Zfu _ _ _ rfl];(refine ζa ?_<;>refine xL 66 (ζh 1 Zba) ?_<;>(refine yL 67 (ζq 1 Zcy) fun v67 h=>?_;cases h)<;>refine xL 68 ζb ?_<;>(refine cD 69 (cA Tryz.call125 (ZkH o (ZbN l) (by omega) (by omega) hnf (by omega))) fun v69 hv69=>?_;clear hv69)<;>refine ζt 2 ζL ?_<;>refine ζd ?_)
             refine ZbA (k:=3) 2 kR (Tryz.results78) rfl rfl (Xa rfl) (by decide) rfl ?_;rw [Zal,Zkr,if_neg (by omega),if_neg (by omega)];rfl))))
def Zh0 (t:Nd):PV×Int:=if Zbv t=true then (if Zbv (Zal t)=true then (pTr (Zal t),0) else (Zqc,5)) else (Zqc,1)
theorem Zsy (t:Nd) (hf:FitT t):AF Tryz.prog 35 [pTr t] (· = .tup [(Zh0 t).1,pInt (Zh0 t).2]):=by
 refine AF.of_body 16 Tryz.func35 rfl Tryz.ntmps35 (Xa rfl) ?_
 intro w0 M0 vs hl hv
 obtain ⟨v0,rfl⟩:=Zco hl
 clear hl hv
 have e0:pTr t= .agg [pInt t.op,Zab t.act,Zag t.l]:=rfl
 rw [e0]
 refine nav ?_
 (refine ζa ?_<;>refine ζH 1 3 fun h1=>?_<;>refine ζs [(.int .i64 0),(.string ByteArray.empty),(.slice none 0 0)] 3 2 ZbI fun h2=>?_<;>refine xL 3 ζc ?_<;>refine ζd ?_)
 (refine ζa ?_<;>(refine yL 5 (ζk 1 ζL) fun v5 h=>?_;cases h)<;>(refine cS 6 (cA Tryz.call24 (Zfs t hf)) fun v6 h=>?_;cases h)<;>refine xL 7 Zav ?_<;>refine ζd ?_)
 (first|refine cCd ?_ ?_|refine cC ?_ ?_)<;>intro hb7
 · first
   |exact bN hb7
   | (
    refine nav ?_;(refine ζa ?_<;>refine xL 8 (ζB Zde) ?_<;>refine ζt 2 ζL ?_<;>refine xL 3 ζc ?_<;>refine ζd ?_)
    refine Zaf (k:=3) 2 kR (Tryz.results35) rfl rfl rfl (Xa rfl) (by decide) rfl ?_;rw [show Zh0 t=(Zqc,1) by unfold Zh0;rw [if_neg (by simpa using hb7)]];rfl)
 · first
   |exact bN hb7
   | (
    (have hv:Zbv t=true:=by simpa using hb7);have hsz:=ZhX hv;have hok:=ZdG hv;have hfn:=Zoz hok (by omega);refine nav ?_;(refine ζa ?_<;>(refine yL 9 (ζk 1 ζL) fun v9 h=>?_;cases h)<;>(refine cD 10 (cA Tryz.call78 (Zvo t hok (by omega))) fun v10 hv10=>?_;clear hv10)<;>refine ζs [(.int .i64 0),(.string ByteArray.empty),(.slice none 0 0)] 3 4 ZbI fun h4=>?_<;>refine ζt 4 ζL ?_<;>refine ζd ?_)
    have e1:cN (Zal t)=[pInt (Zal t).op,Zab (Zal t).act,Zag (Zal t).l]:=rfl;(refine ζa ?_<;>(refine yL 11 (ζk 4 ζL) fun v11 h=>?_;cases h)<;>(refine cS 12 (cA Tryz.call24 (Zfs (Zal t) hfn)) fun v12 h=>?_;cases h)<;>refine xL 13 Zav ?_<;>refine ζd ?_)
    (first|refine cCd ?_ ?_|refine cC ?_ ?_)<;>intro hb13
    · first
      |exact bN hb13
      | (
       refine nav ?_;(refine ζa ?_<;>refine xL 14 (ζB Zde) ?_<;>refine ζt 2 ζL ?_<;>refine xL 3 ζc ?_<;>refine ζd ?_)
       refine Zaf (k:=3) 2 kR (Tryz.results35) rfl rfl rfl (Xa rfl) (by decide) rfl ?_;rw [show Zh0 t=(Zqc,5) by unfold Zh0;rw [if_pos hv,if_neg (by simpa using hb13)]];rfl)
    · first
      |exact bN hb13
      | (
       refine nav ?_;(refine ζa ?_<;>(refine yL 15 (ζk 4 ζL) fun v15 h=>?_;cases h)<;>refine ζt 2 ζL ?_<;>refine xL 3 ζc ?_<;>refine ζd ?_)
       refine Zaf (k:=3) 2 kR (Tryz.results35) rfl rfl rfl (Xa rfl) (by decide) rfl ?_;rw [show Zh0 t=(pTr (Zal t),0) by unfold Zh0;rw [if_pos hv,if_pos (by simpa using hb13)]];rfl))
end Go.Proofs.YtgfabnhpllkebaaGreatDoor
