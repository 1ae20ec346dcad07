/-
  Walks: automata: which states are near; which accept.
  Walks: automata: the closure of states: what 'add' does.
  Walks: automata: the closure of states.
  Walks: automata: where a symbol leads.
  Plain laws: automata: what silent moves reach, and how far it is to the end. No program in sight.
  Plain laws: automata: the words up to a length, as the program finds them and as the reference does. No program in sight.
  Plain functions, more: a word is split by a cut, as the program does it. No program in sight.
  Plain functions, more: pieces whose parts are told at the end. No program in sight.
  Plain laws: rows and squares of truths; what is reached, by two ways. No program in sight.
  Plain laws: a square of truths is closed by passes over all triples. No program in sight.
  Plain laws: classes of what is linked, found one after the other. No program in sight.
  Plain laws: the classes are one list; lists of classes in the order of their least elements. No program in sight.
  Plain laws: labels that are pushed along links until nothing changes. No program in sight.
  Plain laws: lists in the order of a relation; a part as an ascending list; the least of a list. No program in sight.
  Plain laws: which automata are in order. No program in sight.
  Walks: automata: distances.
  Walks: automata: the graph of an automaton.
  Walks: automata: the words up to a length.
  Walks: the relation of a graph (package cut): squares, of, at, reach.
  Walks: reach, loops, fits, begin (package cut).
-/
import Derived.Test.YtgfabnhpllkebaaGreatDoorPq06
import Derived.Test.YtgfabnhpllkebaaGreatDoorMShelfD
import Derived.Test.YtgfabnhpllkebaaGreatDoorPq02
import Derived.Test.YtgfabnhpllkebaaGreatDoorPq03
import Derived.Test.YtgfabnhpllkebaaGreatDoorPq01
namespace Go.Proofs.YtgfabnhpllkebaaGreatDoor
open Go.RowKit Go.Cb Go.En
set_option linter.all false
set_option maxRecDepth 100000
theorem Zeg:FldT Tryz.prog 196 2 2=true:=by kernel_rfl
theorem ZsG:NoAgg Tryz.prog 134=true:=by kernel_rfl
theorem ZbB:NoAgg Tryz.prog 139=true:=by kernel_rfl
theorem ZeD:NoAgg Tryz.prog 4=true:=by kernel_rfl
theorem Zcb:SlT Tryz.prog 139 4 1=true:=by kernel_rfl
theorem Zcg:(Tryz.prog.info? 3).map (·.size)=some 1:=by kernel_rfl
def cI (x:Int):List PV:=[pInt x]
theorem ZDf (x:Int):(cI x).length=1:=rfl
theorem ZxY (l:List Int):l.map pInt=l.flatMap cI:=by
 induction l with
 |nil=>rfl
 |cons x l ih=>rw [Xq,Xr,ih];rfl
theorem ζ2 (e n:Nat) (l:List Int) (hn:n=l.length):share (.own e 1 n (l.map pInt))=pInts l:=by
 subst hn
 rw [share,Zai,XE];rfl
theorem Znh {p:Int→Bool} {l:List Int} {k:Nat} {x:Int} (hx:l[k]? =some x) (h:p x=false):((ZhK p l k).map pInt).set (ZcB p l k).length (pInt x)=(ZhK p l (k+1)).map pInt:=by
 have h1:=ZxX (f:=cI) ZDf hx h
 rw [Xx,←ZxY,←ZxY] at h1
 exact h1
theorem ZxZ (f :Nat) (caps:List PV) (p:Int→Bool) (l:List Int) (hl:l.length≤1000000) (hv g:Value) (hc:∀args w,(callFunc f args).run Tryz.prog w= .ok (.enter f args) w) (hf:∀s∈l,AF Tryz.prog f (pInt s::caps) (· =ζV (p s))):
 AFh False Tryz.prog 190 [(0,hv, .val hv),(1,g, .fn f caps)] [(1000,hv, .own 3 1 l.length (l.map pInt))] (fun v q h=>q= .val v∧h=[(1000,v, .own 3 1 (l.filter fun s=> !p s).length ((l.filter fun s=> !p s).map pInt))]):=by
 refine AFh.of_body 42 Tryz.func190 rfl Tryz.ntmps190 (Xa rfl) rfl ?_
 intro w0 M0 N0
 have hq:=ζ2 3 l.length l rfl
 refine nav ?_
 (refine ζa ?_<;>refine xL 4 ζc ?_<;>refine ζd ?_)
 (refine ζa ?_<;>refine xL 8 ζb (xL 9 ζb ?_)<;>(refine cS 10 (cB rfl Tryz.call154 (ZgK f caps p l hc hf) ⟨⟨_,_,rfl,hq▸ZuR (l:=1000) rfl⟩,⟨_,_,rfl,Zr8 (x:= .tmp 9) rfl⟩,trivial⟩) fun v10 h=>?_;cases h)<;>refine xL 5 ζc ?_<;>refine ζd ?_)
 (refine ζa ?_<;>refine xL 11 ζb (xL 12 ζ6 ?_)<;>refine ζd ?_)
 (first|refine cCd ?_ ?_|refine cC ?_ ?_)<;>intro hb12
 · first
   |exact bN hb12
   | (
    refine nav ?_;(refine ζa ?_<;>refine xL 13 ζb (xL 4 ζc ?_)<;>refine ζd ?_)
    refine ZhL [(1000,hv,PV.own 3 1 l.length (l.map pInt))] (Tryz.results190) rfl ⟨rfl,trivial⟩ ⟨rfl,?_⟩;rw [Uy.2 fun s hs=>?_];rcases ZoD (p:=p) (l:=l) with ⟨_,h⟩|⟨i0,x0,h,_⟩
    · rw [h s hs];rfl
    · exfalso;omega)
 · first
   |exact bN hb12
   | (
    obtain ⟨i0,x0,hi0,hx0,hp0,hn0⟩:=(ZoD (p:=p) (l:=l)).resolve_left fun h=>hb12 h.1;have hlt0:=ζg hx0;(have hk0:ZcB p l (i0+1)=l.take i0:=by rw [Zfx hx0 hp0,Zvv hn0]);rw [hi0];refine nav ?_;(refine ζa ?_<;>refine xL 14 ζb (xL 15 ζG (xL 6 ζc ?_))<;>refine ζd ?_)
    refine ζy (ι:={q:Nat×Nat×List PV//q.1≤l.length∧q.2.1=(ZcB p l q.1).length∧q.2.2=(ZhK p l q.1).map pInt}) (fun k=>⟨[(0,_,_),(1,_,_),(5, .int .i64 k.1.2.1,pInt k.1.2.1),(6, .int .i64 k.1.1,pInt k.1.1)],[(1000,hv, .own 3 1 l.length k.1.2.2)]⟩) (fun k=>l.length-k.1.1) ⟨(i0+1,i0,l.map pInt),hlt0,(by dsimp only;rw [hk0,Xu];omega),(by dsimp only;unfold ZhK;rw [hk0,Xu,XU (by omega),Vq])⟩ (fun a w H=>H.weaken ⟨rfl,rfl,rfl,rfl,trivial⟩ ⟨rfl,trivial⟩) ?_;rintro ⟨⟨k,j,row⟩,hk,hj,hr⟩;dsimp only;dsimp only at hk hj hr;have hle:=ZiE p l k;(have hjl:j≤l.length:=by omega);(have hjl2:(j:Int)≤1000000:=by omega);(have hrl:row.length=l.length:=by rw [hr,Xf,ZxW p l hk]);refine nav ?_;(refine ζa ?_<;>refine xL 16 ζb (xL 17 ζb (xL 18 (ZaH 1000 ζu) (xL 19 ζK ?_)))<;>refine ζd ?_)
    (first|refine cCd ?_ ?_|refine cC ?_ ?_)<;>intro hb19
    · first
      |exact bN hb19
      | (
       obtain ⟨x,hx⟩:=ζm (show k<l.length by omega);(have e1:row[k*1]? =some (pInt x):=by rw [hr,Xx,Xm,ZAR hx];rfl);(have e3:j<row.length:=by rw [hrl];have:=ζg hx;omega);refine nav ?_;(refine ζa ?_<;>refine xL 22 ζb (xL 23 ζb (xL 24 (ζv 1000 ζu) ?_))<;>(refine yL 25 (ζq 1000 ζp) fun v25 h=>?_;cases h)<;>refine xL 7 ζc ?_<;>refine ζd ?_)
       (refine ζa ?_<;>refine xL 26 ζb (xL 27 ζb ?_)<;>(refine cS 28 (Zb5 (f:=f) (ps:=caps) rfl ⟨_,rfl⟩ hc rfl (hf x (Xb hx))) fun v28 h=>?_;cases h)<;>refine xL 29 Zav ?_<;>refine ζd ?_)
       (first|refine cCd ?_ ?_|refine cC ?_ ?_)<;>intro hb29
       · first
         |exact bN hb29
         | (
          refine nav ?_;(refine ζa ?_<;>refine xL 30 ζb (xL 31 ζb (xL 32 ζb (xL 33 (ζv 1000 ζu) ?_)))<;>refine ZbQ 1000 ζp Zcg ?_<;>refine ζd ?_)
          (refine ζa ?_<;>refine xL 34 ζb (xL 35 ζG (xL 5 ζc ?_))<;>refine ζd ?_)
          (refine ζa ?_<;>refine xL 20 ζb (xL 21 ζG (xL 6 ζc ?_))<;>refine ζd ?_)
          first
           | (exact ζj (
               ⟨(k+1,j,row),ζg hx,(by dsimp only;rw [Zfx hx (by simpa using hb29)];exact hj),(by dsimp only;rw [hr];unfold ZhK;rw [Zfx hx (by simpa using hb29)])⟩
               ) (by dsimp only;omega) ⟨rfl,rfl,rfl,rfl,trivial⟩ ⟨rfl,trivial⟩)
           | (exact ζj (
               ⟨(k+1,j+1,row.set (j*1) (pInt x)),ζg hx,(by show j+1=(ZcB p l (k+1)).length;rw [Zlp hx (by simpa using hb29)];simp [hj]),(by show row.set (j*1) (pInt x)=(ZhK p l (k+1)).map pInt;rw [hr,hj,Xx];exact Znh hx (by simpa using hb29))⟩
               ) (by dsimp only;omega) ⟨rfl,rfl,rfl,rfl,trivial⟩ ⟨rfl,trivial⟩))
       · first
         |exact bN hb29
         | (
          refine nav ?_;(refine ζa ?_<;>refine xL 20 ζb (xL 21 ζG (xL 6 ζc ?_))<;>refine ζd ?_)
          first
           | (exact ζj (
               ⟨(k+1,j,row),ζg hx,(by dsimp only;rw [Zfx hx (by simpa using hb29)];exact hj),(by dsimp only;rw [hr];unfold ZhK;rw [Zfx hx (by simpa using hb29)])⟩
               ) (by dsimp only;omega) ⟨rfl,rfl,rfl,rfl,trivial⟩ ⟨rfl,trivial⟩)
           | (exact ζj (
               ⟨(k+1,j+1,row.set (j*1) (pInt x)),ζg hx,(by show j+1=(ZcB p l (k+1)).length;rw [Zlp hx (by simpa using hb29)];simp [hj]),(by show row.set (j*1) (pInt x)=(ZhK p l (k+1)).map pInt;rw [hr,hj,Xx];exact Znh hx (by simpa using hb29))⟩
               ) (by dsimp only;omega) ⟨rfl,rfl,rfl,rfl,trivial⟩ ⟨rfl,trivial⟩)))
    · first
      |exact bN hb19
      | (
       (have hkl:k=l.length:=by omega);refine nav ?_;(refine ζa ?_<;>refine xL 36 ζb (xL 37 ζb ?_)<;>refine xL 38 (ZcP (i:=j) (j:=l.length) 1000 ζu rfl rfl rfl rfl rfl hjl (Xd _)) ?_<;>(refine Zk8 1000 ζn (by decide) rfl rfl rfl rfl rfl hjl ?_;intro cs2 hcs1 hcs2)<;>refine ζd ?_)
       (refine ζa ?_<;>refine xL 39 ζb (xL 40 ζb ?_)<;>refine xL 41 (ZcP (i:=0) (j:=j) 1000 ζu rfl rfl rfl rfl rfl (Xe _) hjl) ?_<;>refine xL 4 ζc ?_<;>refine ζd ?_)
       refine Za2 (Zw2 (l:=1000) j rfl hjl) fun _=>?_;refine ZhL [(1000,slc hv 0 j 1,PV.own 3 1 j (cs2.take (j*1)))] (Tryz.results190) rfl ⟨rfl,trivial⟩ ⟨rfl,?_⟩;(have hF:(l.filter fun s=> !p s)=ZcB p l k:=by unfold ZcB;rw [hkl,Ua]);rw [hcs2,hr,hF,←hj];congr 4;unfold ZhK;rw [Xy,Xx,List.take_left' (by rw [Xf,hj])]))
theorem Zdg (l:List Int) (hl:l.length≤1000000):AF Tryz.prog 135 [pInts l] (· = .own 3 1 l.length (l.map pInt)):=by
 refine AF.of_body 8 Tryz.func135 rfl Tryz.ntmps135 (Xa rfl) ?_
 intro w0 M0 vs hl hv
 obtain ⟨v0,rfl⟩:=Zco hl
 clear hl hv
 have f3:(l.map pInt).length=l.length*1:=by rw [Xf,Xx]
 have f4:(l.map pInt).all En.one=true:=by rw [List.all_map,XD];intro x _;rfl
 refine nav ?_
 (refine ζa ?_<;>refine xL 2 ζc ?_<;>refine ζd ?_)
 (refine ζa ?_<;>refine xL 3 ζb ?_<;>(refine yL 4 (ZtM ζu) fun v4 hv4=>?_;rcases hv4 with rfl|⟨rfl,hn0⟩)<;>refine ζd ?_)<;>(
  (first|refine cCd ?_ ?_|refine cC ?_ ?_)<;>intro hb4
  · first
    |exact bN hb4
    | (
     refine nav ?_;(refine ζa ?_<;>refine xL 2 ζc ?_<;>refine ζd ?_)
     have hl0:l=[]:=XO hn0;subst hl0;refine Za2 (ZbW 200 3 1 rfl) fun _=>?_;exact Zb8 200 (Tryz.results135) rfl rfl rfl)
  · first
    |exact bN hb4
    | (
     refine nav ?_;(refine ζa ?_<;>refine ZwR 5 ζn fun h5 ho5=>?_<;>refine xL 6 ζb ?_<;>refine ZgL 5 7 ζn (fun h7 ho7=>?_) f3 f4<;>refine xL 2 ζc ?_<;>refine ζd ?_)
     refine Zb8 7 (Tryz.results135) rfl rfl ?_;rw [Xw,Vy]))
def Zx0 (far:List Int) (n:Int) (s:Int):Bool:=match far[s.toNat]? with
 |some d=>decide (d<0)||decide (n<d)
 |none=>false
def Zbr (l far:List Int) (n:Int):List Int:=l.filter fun s=> !Zx0 far n s
theorem Zx1 (far:List Int) (n s:Int) (h0:0≤s) (h1:s<far.length):AF Tryz.prog 191 [pInt s, .sptr 0 [pInts far], .sptr 0 [pInt n]] (· =ζV (Zx0 far n s)):=by
 refine AF.of_body 18 Tryz.func191 rfl Tryz.ntmps191 (Xa rfl) ?_
 intro w0 M0 vs hl hv
 obtain ⟨v0,v1,v2,rfl⟩:=ZgF hl
 obtain rfl:=hv 0 _ _ rfl rfl
 clear hl hv
 obtain ⟨d,hd⟩:=ζm (show s.toNat<far.length by omega)
 have e1:(far.map pInt)[s.toNat*1]? =some (pInt d):=by rw [Xx,Xm,hd];rfl
 refine nav ?_
 (refine ζa ?_<;>refine xL 4 ζc ?_<;>refine ζd ?_)
 (refine ζY (fun i=>([]:List Nat).elem i) [] kR ?_<;>(refine yD 0 5 rfl (ZaE ζD) fun v5 h=>?_;cases h)<;>refine xE 1 6 rfl ζb ?_<;>refine xE 2 7 rfl (Zk1 ζu) ?_<;>(refine yE 3 8 rfl (ZaE ζp) fun v8 h=>?_;cases h)<;>refine xE 4 9 rfl ζK ?_<;>refine xE 5 10 rfl ζb ?_<;>(refine bDd 10 (fun hb10=>?_) (fun hb10=>?_)<;>(first|refine kD 6 11 rfl ?_|(refine yD 6 11 rfl (ZaE ζD) fun v11 h=>?_;cases h)))<;>(first|refine kD 7 12 rfl ?_|refine xD 7 12 rfl ζb ?_)<;>(first|refine kD 8 13 rfl ?_|refine xD 8 13 rfl (Zk1 ζu) ?_)<;>(first|refine kD 9 14 rfl ?_|(refine yD 9 14 rfl (ZaE ζp) fun v14 h=>?_;cases h))<;>(first|refine kD 10 15 rfl ?_|(refine yD 10 15 rfl (ZaE ζp) fun v15 h=>?_;cases h))<;>(first|refine kD 11 16 rfl ?_|refine xD 11 16 rfl ZaF ?_)<;>refine xE 12 17 rfl ζJ ?_<;>refine xE 13 4 rfl ζc ?_<;>refine Zam kR (nav ?_)<;>try dsimp only)<;>(
  refine ζx (Tryz.results191) rfl ?_;unfold Zx0;rw [hd];show _=ζV (decide (d<0)||decide (n<d))
  first
   |(rw [decide_eq_true hb10];rfl)
   |(rw [decide_eq_false hb10];rfl))
theorem ZoE (l far:List Int) (n:Int) (hl:l.length≤1000000) (hs:∀s∈l,0≤s∧s<far.length):AF Tryz.prog 140 [pInts l,pInts far,pInt n] (· = .own 3 1 (Zbr l far n).length ((Zbr l far n).map pInt)):=by
 refine AF.of_body 11 Tryz.func140 rfl Tryz.ntmps140 (Xa rfl) ?_
 intro w0 M0 vs hl hv
 obtain ⟨v0,v1,v2,rfl⟩:=ZgF hl
 obtain rfl:=hv 2 _ _ rfl rfl
 clear hl hv
 refine nav ?_
 (refine ζa ?_<;>refine ZwQ 4 fun h4=>?_<;>refine ZwQ 5 fun h5=>?_<;>refine xL 6 ζc ?_<;>refine ζd ?_)
 refine ζw (ZkC (l:=4) (t:=4) (j:=0) rfl Nat.one_pos rfl) fun _=>?_
 refine ζw (ZkC (l:=5) (t:=5) (j:=0) rfl Nat.one_pos rfl) fun _=>?_
 (refine ζa ?_<;>refine xL 7 ζb ?_<;>refine cO 8 (cA Tryz.call135 (Zdg l hl)) fun v8 ho8=>?_<;>refine xL 9 Zsc ?_<;>(refine ζr (ζF (l:=8) 1000 rfl rfl) fun _=>?_;refine Zat [(1000,_,_)] ⟨rfl,trivial⟩ ?_;refine ZbO [] 10 (Tryz.call190) (ZxZ 191 [.sptr 0 [pInts far], .sptr 0 [pInt n]] (Zx0 far n) l hl v8 _ (Tryz.call191) (fun s hm=>Zx1 far n s (hs s hm).1 (hs s hm).2)) ?_;rintro v10 _ _ ⟨rfl,rfl⟩)<;>refine xL 6 ζc ?_<;>refine ζd ?_)
 exact Zb8 1000 (Tryz.results140) rfl rfl rfl
def movesOf (a:Aut) (s:Nat):List Mv:=a.moves.filter fun m=>decide (m.src=(s:Int))
def Zeh (a:Aut) (s:Int):Bool:=a.fin.any fun t=>decide (t=s)
def ZoF (a:Aut):PV:= .sl a.n.toNat ((List.range a.n.toNat).map fun s=>pMvs (movesOf a s))
def Zx2 (a:Aut):PV:= .sl a.n.toNat ((List.range a.n.toNat).map fun s=>ζV (Zeh a (s:Nat)))
def pGr (a:Aut):PV:= .sptr 0 [pInt a.syms,ZoF a,Zx2 a]
theorem ZeE {N k:Nat} (h:k<N) (f:Nat→PV):((List.range N).map f)[k]? =some (f k):=by
 rw [Xm,Ub h];rfl
theorem Zqz (a:Aut) (s:Int) (h0:0≤s) (h1:s<a.n):AF Tryz.prog 157 [pInt s, .sptr 0 [pGr a]] (· =ζV (Zeh a s)):=by
 refine AF.of_body 11 Tryz.func157 rfl Tryz.ntmps157 (Xa rfl) ?_
 intro w0 M0 vs hl hv
 obtain ⟨v0,v1,rfl⟩:=Zbl hl
 obtain rfl:=hv 0 _ _ rfl rfl
 clear hl hv
 have e1:((List.range a.n.toNat).map fun s=>ζV (Zeh a (s:Nat)))[s.toNat*1]? =some (ζV (Zeh a s)):=by rw [Xx,ZeE (by omega)];rw [show ((s.toNat:Nat):Int)=s by omega]
 have e2:s.toNat<a.n.toNat:=by omega
 refine nav ?_
 (refine ζa ?_<;>refine xL 3 ζc ?_<;>refine ζd ?_)
 (refine ζa ?_<;>(refine yL 4 (ZaE ZsG) fun v4 h=>?_;cases h)<;>refine xL 5 ZhV (xL 6 (Zim Zeg) ?_)<;>(refine yL 7 (ZaE ZbB) fun v7 h=>?_;cases h)<;>refine xL 8 ζb (xL 9 (Zk1 Zcb) ?_)<;>(refine yL 10 (ZaE ZeD) fun v10 h=>?_;cases h)<;>refine xL 3 ζc ?_<;>refine ζd ?_)
 exact ζx Tryz.results157 rfl rfl
theorem Zlu (a:Aut) (l:List Int) (hs:∀s∈l,0≤s∧s<a.n):AF Tryz.prog 113 [pGr a,pInts l] (· =ζV (l.any (Zeh a))):=by
 refine AF.of_body 8 Tryz.func113 rfl Tryz.ntmps113 (Xa rfl) ?_
 intro w0 M0 vs hl hv
 obtain ⟨v0,v1,rfl⟩:=Zbl hl
 clear hl hv
 refine nav ?_
 (refine ζa ?_<;>refine ZwQ 2 fun h2=>?_<;>refine xL 4 ζc ?_<;>refine ζd ?_)
 refine ζw (ZkC (l:=2) (t:=2) (j:=0) rfl Nat.one_pos rfl) fun _=>?_
 (refine ζa ?_<;>refine xL 5 ζb (xL 6 Zsc ?_)<;>(refine cS 7 (cA Tryz.call108 (Ziq 157 [.sptr 0 [pGr a]] (Zeh a) l (Tryz.call157) (fun s hm=>Zqz a s (hs s hm).1 (hs s hm).2))) fun v7 h=>?_;cases h)<;>refine xL 4 ζc ?_<;>refine ζd ?_)
 exact ζx Tryz.results113 rfl rfl
theorem Zlv:MpT Tryz.prog 197 3 4 (.int .i64) (.bool false):=⟨Tryz.underlying197,Tryz.underlying3, .inr ⟨_,rfl⟩,by show ZeroT _ _ _;unfold ZeroT;kernel_rfl⟩
theorem Zh2:NoAgg Tryz.prog 197=true:=by kernel_rfl
theorem Zcm:(Tryz.prog.info? 36).map (·.size)=some 1:=by kernel_rfl
def Zgb (out:List Int):List (Int×Value):=out.map fun s=>(s, .bool true)
theorem Zx3 (out:List Int) (s:Int):(Zca (ikv (Zgb out)) (.int .i64 s)).getD (.bool false)= .bool (out.elem s):=by
 rw [ZpJ]
 induction out with
 |nil=>rfl
 | cons x l ih=>
   unfold Zgb at ih ⊢;rw [Xq,ZdW,List.elem_cons];by_cases h:s=x
   · subst h;simp
   · (have h1:(s==x)=false:=by simpa using h);rw [h1];simp [h,Ne.symm h];simpa using ih
theorem Zx4 {out:List Int} {s:Int} (h:out.elem s=false):Zdn (ikv (Zgb out)) (.int .i64 s) (.bool true)=ikv (Zgb (out++[s])):=by
 rw [ZpK]
 congr 1
 induction out with
 |nil=>rfl
 | cons x l ih=>
   rw [List.elem_cons] at h;have h1:(s==x)=false:=by cases h2:(s==x)<;>simp_all
   have h2:l.elem s=false:=by simp_all
   have h3:¬s=x:=by simpa using h1
   unfold Zgb at ih ⊢;rw [Xq,ZkZ];simp [h3,Ne.symm h3];simpa using ih h2
def Zeb (out:List Int) (s:Int):List Int:=if out.elem s then out else out++[s]
def clH (h5 h6 m r:Value) (out:List Int):List (Nat×Ent):=[(1001,h5, .own 197 1 1 [.val m]),(1002,h6, .own 36 1 1 [.val r]),(1003,m, .omap (ikv (Zgb out))),(1004,r, .own 3 1 out.length (out.map pInt))]
theorem Zj7 (s:Int) (h5 h6 m r:Value) (out:List Int) (hl:out.length≤1000000) (hm:m.oneCell'=true) (hr:r.oneCell'=true):AFh False Tryz.prog 155 [(0, .int .i64 s,pInt s),(1,padd (sbase h5) 0, .val (padd (sbase h5) 0)),(2,padd (sbase h6) 0, .val (padd (sbase h6) 0))]
 (clH h5 h6 m r out) (fun v q h=>q= .val v∧∃r':Value,r'.oneCell'=true∧h=clH h5 h6 m r' (Zeb out s)):=by
 have hu:=Zx3 out s
 refine AFh.of_body 14 Tryz.func155 rfl Tryz.ntmps155 (Xa rfl) rfl ?_
 intro w0 M0 N0
 refine nav ?_
 (refine ζa ?_<;>(refine yL 4 (ζq 1001 Zh2) fun v4 h=>?_;cases h)<;>refine xL 5 ζb (xL 6 (ZwP 1003 Zlv) (xL 7 Zav ?_))<;>refine ζd ?_)
 (first|refine cCd ?_ ?_|refine cC ?_ ?_)<;>intro hb7
 · first
   |exact bN hb7
   | (
    (have hn:out.elem s=false:=by simpa using hb7);have hp:=Zx4 hn;refine nav ?_;(refine ζa ?_<;>(refine yL 8 (ζq 1001 Zh2) fun v8 h=>?_;cases h)<;>refine xL 9 ζb ?_<;>(refine ZhU 1003 Zlv ?_;rw [hp])<;>refine ζd ?_)
    (refine ζa ?_<;>(refine yL 10 (ζq 1002 ζD) fun v10 h=>?_;cases h)<;>refine xL 11 ζb ?_<;>refine ζP (kk:=1) 12 ζn fun h12 ho12=>?_<;>refine ζ0 1004 12 13 ζn fun h13 ho13=>?_<;>refine ZbQ 1002 ζD Zcm ?_<;>refine ζd ?_)
    first
     | (refine Zbn (ζF (l:=13) 1004 rfl rfl) fun _=>?_
        refine Zcw (clH h5 h6 m _ (out++[s])) (Tryz.results155) ⟨rfl,rfl,rfl,?_,trivial⟩ ⟨rfl,_,ho13,?_⟩
        · rw [Xy,Xc];rfl
        · unfold Zeb;rw [hn];rfl)
     | (refine Zcw (clH h5 h6 m r out) (Tryz.results155) ⟨rfl,rfl,rfl,rfl,trivial⟩ ⟨rfl,r,hr,?_⟩
        unfold Zeb;rw [if_pos (by simpa using hb7)]))
 · first
   |exact bN hb7
   | (
    refine nav ?_
    first
     | (refine Zbn (ζF (l:=13) 1004 rfl rfl) fun _=>?_
        refine Zcw (clH h5 h6 m _ (out++[s])) (Tryz.results155) ⟨rfl,rfl,rfl,?_,trivial⟩ ⟨rfl,_,ho13,?_⟩
        · rw [Xy,Xc];rfl
        · unfold Zeb;rw [hn];rfl)
     | (refine Zcw (clH h5 h6 m r out) (Tryz.results155) ⟨rfl,rfl,rfl,rfl,trivial⟩ ⟨rfl,r,hr,?_⟩
        unfold Zeb;rw [if_pos (by simpa using hb7)]))
theorem ZcS:FldT Tryz.prog 196 1 1=true:=by kernel_rfl
theorem ZdL:NoAgg Tryz.prog 194=true:=by kernel_rfl
theorem ZdM:SlT Tryz.prog 194 37 1=true:=by kernel_rfl
theorem ZsH:(Tryz.prog.info? 197).map (·.size)=some 1:=by kernel_rfl
theorem ZsI:ZeroT Tryz.prog 197 (.map none):=by unfold ZeroT;kernel_rfl
theorem Zvw:ZeroT Tryz.prog 36 (.slice none 0 0):=by unfold ZeroT;kernel_rfl
theorem nodup_len:∀(n:Nat) (L:List Int),L.Nodup→(∀s∈L,0≤s∧s<n)→L.length≤n
 |0,[],_,_=>Xd _
 |0,x::_,_,h=>by have:=h x (Xk ..);omega
 | n +1,L,hn,h=>by
   have h1:=nodup_len n (L.erase (n:Int)) (hn.erase _) fun s hs=>by
    have h2:=(hn.mem_erase_iff).1 hs;have h3:=h s h2.2;have:=h2.1;omega
   have h2:=List.length_erase (a:=(n:Int)) (l:=L);split at h2<;>omega
def OutOk (n:Int) (out:List Int):Prop:=out.Nodup∧∀s∈out,0≤s∧s<n
theorem OutOk.len {n:Int} {out:List Int} (h:OutOk n out):out.length≤n.toNat:=nodup_len _ _ h.1 fun s hs=>by have:=h.2 s hs;omega
theorem OutOk.add {n:Int} {out:List Int} {s:Int} (h:OutOk n out) (hs:0≤s∧s<n):OutOk n (Zeb out s):=by
 unfold Zeb
 split
 · exact h
 · rename_i h1;refine ⟨?_,fun t ht=>?_⟩
   · rw [VB];refine ⟨h.1,by simp,fun a ha b hb=>?_⟩;simp only [Xi] at hb;subst hb;intro e;subst e;exact h1 (by simpa using ha)
   · rw [Xs,Xi] at ht;rcases ht with ht|rfl
     · exact h.2 t ht
     · exact hs
def ZaZ (l:List Int) (out:List Int):List Int:=l.foldl Zeb out
theorem OutOk.all {n:Int}:∀(l:List Int) {out:List Int},OutOk n out→(∀s∈l,0≤s∧s<n)→OutOk n (ZaZ l out)
 |[],_,h,_=>h
 |x::l,_,h,hl=>OutOk.all l (h.add (hl x (Xk ..))) fun s hs=>hl s (Xn _ hs)
theorem ZqA {l:List Int} {k:Nat} {x:Int} (h:l[k]? =some x) (out:List Int):ZaZ (l.take (k+1)) out=Zeb (ZaZ (l.take k) out) x:=by
 unfold ZaZ;rw [ζQ h,VE];rfl
def Zbi (ms:List Mv):List Int:=(ms.filter fun m=>decide (m.sym= -1)).map (·.dst)
theorem ZsJ {ms:List Mv} {k:Nat} {m:Mv} (h:ms[k]? =some m) (hs:m.sym= -1):Zbi (ms.take (k+1))=Zbi (ms.take k)++[m.dst]:=by
 unfold Zbi;rw [ζQ h,Vh,Xy];simp [hs]
theorem Zni {ms:List Mv} {k:Nat} {m:Mv} (h:ms[k]? =some m) (hs:¬m.sym= -1):Zbi (ms.take (k+1))=Zbi (ms.take k):=by
 unfold Zbi;rw [ζQ h,Vh,Xy];simp [hs]
def Zh3 (a:Aut) (out:List Int) (i:Nat):List Int:=match out[i]? with
 |some s=>ZaZ (Zbi (movesOf a s.toNat)) out
 |none=>out
def Zbo (a:Aut) (l:List Int):Nat→List Int
 |0=>ZaZ l []
 |i+1=>Zh3 a (Zbo a l i) i
def Za3 (a:Aut) (l:List Int):List Int:=(Zbo a l a.n.toNat).mergeSort fun x y=>decide (x≤y)
def Zfy (a:Aut):Prop:=∀m∈a.moves,0≤m.dst∧m.dst<a.n
theorem Znj {a:Aut} (h:Zfy a) (s:Nat):∀t∈Zbi (movesOf a s),0≤t∧t<a.n:=fun t ht=>by
 unfold Zbi movesOf at ht
 simp only [Xh,Vr] at ht
 obtain ⟨m,⟨⟨h1,_⟩,_⟩,rfl⟩:=ht
 exact h m h1
theorem Zgc {a:Aut} {l:List Int} (h:Zfy a) (hl:∀s∈l,0≤s∧s<a.n):∀i,OutOk a.n (Zbo a l i)
 |0=>OutOk.all l ⟨Vg,by simp⟩ hl
 | i+1=>by
   rw [Zbo,Zh3];split
   · exact OutOk.all _ (Zgc h hl i) (Znj h _)
   · exact Zgc h hl i
theorem Znk {a:Aut} {l:List Int} {i:Nat} (h:(Zbo a l i).length≤i):∀j,Zbo a l (i+j)=Zbo a l i
 |0=>rfl
 | j+1=>by
   rw [←XX,Zbo,Znk h j,Zh3,XN (by omega)]
theorem ZqB {a:Aut} {l:List Int} {i n:Nat} (h:(Zbo a l i).length≤i) (hi:i≤n):Zbo a l n=Zbo a l i:=by
 have:=Znk h (n-i)
 rwa [show i+(n-i)=n by omega] at this
theorem ZAT {ms:List Mv} {k:Nat} {m:Mv} (h:ms[k]? =some m) (hs:m.sym= -1) (out:List Int):Zeb (ZaZ (Zbi (ms.take k)) out) m.dst=ZaZ (Zbi (ms.take (k+1))) out:=by
 rw [ZsJ h hs];unfold ZaZ;rw [VE];rfl
theorem Zx5 {a:Aut} (h:Zfy a) (s k:Nat):∀t∈Zbi ((movesOf a s).take k),0≤t∧t<a.n:=fun t ht=>by
 refine Znj h s t ?_
 unfold Zbi at ht ⊢
 simp only [Xh,Vr] at ht ⊢
 obtain ⟨m,⟨h1,h2⟩,h3⟩:=ht
 exact ⟨m,⟨List.mem_of_mem_take h1,h2⟩,h3⟩
theorem ZsK:ZCe Tryz.prog 156:=fun blk cap zs w hH hb hn=>Tryz.slices_Sort_int blk 0 cap zs w hH hb hn
theorem ZqC:Zk9 Tryz.prog 156:=fun p cap w=>Tryz.slices_Sort_int_none p cap w
set_option maxHeartbeats 2000000 in
theorem Zh4 (a : Aut) (l:List Int) (hn:a.n≤2000) (hm:Zfy a) (hl:∀s∈l,0≤s∧s<a.n):AF Tryz.prog 111 [pGr a,pInts l] (· = .own 3 1 (Za3 a l).length ((Za3 a l).map pInt)):=by
 refine AF.of_body 57 Tryz.func111 rfl Tryz.ntmps111 (Xa rfl) ?_
 intro w0 M0 vs hl hv
 obtain ⟨v0,v1,rfl⟩:=Zbl hl
 clear hl hv
 refine Zb9 1 rfl fun hlen=>?_
 refine nav ?_
 (refine ζa ?_<;>refine xL 4 ζc ?_<;>refine ζd ?_)
 (refine ζa ?_<;>refine ZfZ 13 fun h13 ho13=>?_<;>refine ζs [(.map none)] 1 5 ZsI fun h5=>?_<;>refine ZbQ 5 Zh2 ZsH ?_<;>refine ζd ?_)
 (refine ζa ?_<;>refine ζs [(.slice none 0 0)] 1 6 Zvw fun h6=>?_<;>refine ζd ?_)
 (refine ζa ?_<;>refine xL 14 Zsc (xL 7 ζc ?_)<;>refine ζd ?_)
 refine ζw (ZbW 200 3 1 rfl) fun _=>?_
 refine ζw (ζF (l:=5) 1001 rfl rfl) fun _=>?_
 refine ζw (ζF (l:=6) 1002 rfl rfl) fun _=>?_
 refine ζw (ζF (l:=13) 1003 rfl rfl) fun _=>?_
 refine ζw (ζF (l:=200) 1004 rfl rfl) fun _=>?_
 (refine ζa ?_<;>refine xL 15 ζb (xL 16 (ζU ζu) (xL 17 ζb ?_))<;>refine ζd ?_)
 refine ζy (ι:={q:Nat×Value//q.1≤l.length∧q.2.oneCell'=true}) (fun k=>⟨[(0,_,_),(5,_,_),(6,_,_),(7,_,_),(15,_,_),(16,_,_),(17, .int .i64 k.1.1,pInt k.1.1)],[(1001,h5, .own 197 1 1 [.val h13]),(1002,h6, .own 36 1 1 [.val k.1.2]),(1003,h13, .omap (ikv (Zgb (ZaZ (l.take k.1.1) [])))),(1004,k.1.2, .own 3 1 (ZaZ (l.take k.1.1) []).length ((ZaZ (l.take k.1.1) []).map pInt))]⟩) (fun k=>l.length-k.1.1) ⟨(0, .slice none 0 0),Xe _,rfl⟩ (fun a w H=>H.weaken ⟨rfl,rfl,rfl,rfl,rfl,rfl,rfl,trivial⟩ ⟨rfl,rfl,rfl,rfl,trivial⟩) ?_
 rintro ⟨⟨k,r⟩,hk,hr⟩
 dsimp only
 dsimp only at hk hr
 have hok:OutOk a.n (ZaZ (l.take k) []):=OutOk.all _ ⟨Vg,by simp⟩ (fun s hs=>hl s (List.mem_of_mem_take hs))
 have hol:(ZaZ (l.take k) []).length≤1000000:=by have:=hok.len;omega
 refine nav ?_
 (refine ζa ?_<;>refine xL 18 ζK ?_<;>refine ζd ?_)
 (first|refine cCd ?_ ?_|refine cC ?_ ?_)<;>intro hb18
 · first
   |exact bN hb18
   | (
    obtain ⟨x,hx⟩:=ζm (show k<l.length by omega);have e1:=Zas (f:=pInt) hx;refine nav ?_;(refine ζa ?_<;>refine xL 19 (ζI ζu) ?_<;>(refine yL 20 (ZaE ζp) fun v20 h=>?_;cases h)<;>refine xL 9 ζc ?_<;>refine ζd ?_)
    (refine ζa ?_<;>refine xL 21 ζb (xL 22 ζb ?_)<;>(refine Zat (clH h5 h6 h13 r (ZaZ (l.take k) [])) ⟨rfl,rfl,rfl,rfl,trivial⟩ ?_;refine Zw9 [] 23 (Tryz.call155) (Zj7 x h5 h6 h13 r (ZaZ (l.take k) []) hol ho13 hr) ?_;rintro v23 _ _ ⟨rfl,r2,hr2,rfl⟩;rw [←ZqA hx])<;>refine ζd ?_)
    (refine ζa ?_<;>refine xL 24 ζG (xL 17 ζb ?_)<;>refine ζd ?_)
    refine ζj (
     ⟨(k+1,r2),ζg hx,hr2⟩
     ) (by dsimp only;omega) ⟨rfl,rfl,rfl,rfl,rfl,rfl,rfl,trivial⟩ ⟨rfl,rfl,rfl,rfl,trivial⟩)
 · first
   |exact bN hb18
   | (
    rw [show ZaZ (l.take k) []=Zbo a l 0 by rw [Xo (by omega)];rfl];refine nav ?_;(refine ζa ?_<;>refine xL 10 ζc ?_<;>refine ζd ?_)
    refine ζy (ι:={q:Nat×Value//q.1≤a.n.toNat∧q.2.oneCell'=true}) (fun k=>⟨[(0,_,_),(5,_,_),(6,_,_),(7,_,_),(10, .int .i64 k.1.1,pInt k.1.1)],[(1001,h5, .own 197 1 1 [.val h13]),(1002,h6, .own 36 1 1 [.val k.1.2]),(1003,h13, .omap (ikv (Zgb (Zbo a l k.1.1)))),(1004,k.1.2, .own 3 1 (Zbo a l k.1.1).length ((Zbo a l k.1.1).map pInt))]⟩) (fun k=>a.n.toNat-k.1.1) ⟨(0,r),Xe _,hr⟩ (fun a w H=>H.weaken ⟨rfl,rfl,rfl,rfl,rfl,trivial⟩ ⟨rfl,rfl,rfl,rfl,trivial⟩) ?_;rintro ⟨⟨i,r3⟩,hi,hr3⟩;dsimp only;dsimp only at hi hr3;have hok3:=Zgc hm hl i;have hlen3:=hok3.len;refine nav ?_;(refine ζa ?_<;>refine xL 25 ζb ?_<;>(refine yL 26 (ζq 1002 ζD) fun v26 h=>?_;cases h)<;>refine xL 27 (ZaH 1004 ζu) (xL 28 ζK ?_)<;>refine ζd ?_)
    (first|refine cCd ?_ ?_|refine cC ?_ ?_)<;>intro hb28
    · first
      |exact bN hb28
      | (
       obtain ⟨s,hs⟩:=ζm (show i<(Zbo a l i).length by omega);have hsr:=hok3.2 s (Xb hs);have e1:=Zas (f:=pInt) hs;(have e2:((List.range a.n.toNat).map fun s=>pMvs (movesOf a s))[s.toNat*1]? =some (pMvs (movesOf a s.toNat)):=by rw [Xx,ZeE (by omega)]);(have e2':s.toNat<a.n.toNat:=by omega);refine nav ?_;(refine ζY (fun i=>([]:List Nat).elem i) [1001,1002,1003,1004] kR ?_<;>refine xD 0 31 rfl ζb ?_<;>refine xD 1 32 rfl ZhV ?_<;>refine xD 2 33 rfl (Zim ZcS) ?_<;>(refine yD 3 34 rfl (ZaE ZdL) fun v34 h=>?_;cases h)<;>(refine yD 4 35 rfl (ζq 1002 ζD) fun v35 h=>?_;cases h)<;>refine xD 5 36 rfl ζb ?_<;>refine xD 6 37 rfl (ζv 1004 ζu) ?_<;>(refine yD 7 38 rfl (ζq 1004 ζp) fun v38 h=>?_;cases h)<;>refine xD 8 39 rfl (Zk1 ZdM) ?_<;>(refine yD 9 40 rfl (ZaE ζO) fun v40 h=>?_;cases h)<;>refine xD 10 41 rfl (ζU ζR) ?_<;>refine xE 11 42 rfl ζb ?_<;>refine Zam kR (nav ?_)<;>try dsimp only)
       refine Zb9 40 rfl fun hlen40=>?_;refine ζy (ι:={q:Nat×Value//q.1≤(movesOf a s.toNat).length∧q.2.oneCell'=true}) (fun k=>⟨[(0,_,_),(5,_,_),(6,_,_),(7,_,_),(10,_,_),(40,_,_),(41,_,_),(42, .int .i64 k.1.1,pInt k.1.1)],[(1001,h5, .own 197 1 1 [.val h13]),(1002,h6, .own 36 1 1 [.val k.1.2]),(1003,h13, .omap (ikv (Zgb (ZaZ (Zbi ((movesOf a s.toNat).take k.1.1)) (Zbo a l i))))),(1004,k.1.2, .own 3 1 (ZaZ (Zbi ((movesOf a s.toNat).take k.1.1)) (Zbo a l i)).length ((ZaZ (Zbi ((movesOf a s.toNat).take k.1.1)) (Zbo a l i)).map pInt))]⟩) (fun k=>(movesOf a s.toNat).length-k.1.1) ⟨(0,r3),Xe _,hr3⟩ (fun a w H=>H.weaken ⟨rfl,rfl,rfl,rfl,rfl,rfl,rfl,rfl,trivial⟩ ⟨rfl,rfl,rfl,rfl,trivial⟩) ?_;rintro ⟨⟨k,r4⟩,hk4,hr4⟩;dsimp only;dsimp only at hk4 hr4;have hok4:OutOk a.n (ZaZ (Zbi ((movesOf a s.toNat).take k)) (Zbo a l i)):=OutOk.all _ hok3 (Zx5 hm _ _);(have hol4:(ZaZ (Zbi ((movesOf a s.toNat).take k)) (Zbo a l i)).length≤1000000:=by have:=hok4.len;omega);refine nav ?_;(refine ζa ?_<;>refine xL 43 ζK ?_<;>refine ζd ?_)
       (first|refine cCd ?_ ?_|refine cC ?_ ?_)<;>intro hb43
       · first
         |exact bN hb43
         | (
          obtain ⟨mv,hmv⟩:=ζm (show k<(movesOf a s.toNat).length by omega);have e3:=Zaq Zac (movesOf a s.toNat) k mv hmv;have e4:=ZaP Zac hmv;refine nav ?_;(refine ζa ?_<;>refine xL 44 (ζI ζR) ?_<;>(refine yL 45 (ZaQ ζ8) fun v45 h=>?_;cases h)<;>refine ζs [(.int .i64 0),(.int .i64 0),(.int .i64 0)] 3 12 Zdf fun h12=>?_<;>refine ζt 12 ζ8 ?_<;>refine ζd ?_)
          (refine ζa ?_<;>refine xL 46 (ζh 12 Zbq) ?_<;>(refine yL 47 (ζq 12 ζp) fun v47 h=>?_;cases h)<;>refine xL 48 ζ6 ?_<;>refine ζd ?_)
          (first|refine cCd ?_ ?_|refine cC ?_ ?_)<;>intro hb48
          · first
            |exact bN hb48
            | (
             refine nav ?_;(refine ζa ?_<;>refine xL 49 ζb (xL 50 (ζh 12 ZaU) ?_)<;>(refine yL 51 (ζq 12 ζp) fun v51 h=>?_;cases h)<;>(refine Zat (clH h5 h6 h13 r4 (ZaZ (Zbi ((movesOf a s.toNat).take k)) (Zbo a l i))) ⟨rfl,rfl,rfl,rfl,trivial⟩ ?_;refine Zw9 [] 52 (Tryz.call155) (Zj7 mv.dst h5 h6 h13 r4 (ZaZ (Zbi ((movesOf a s.toNat).take k)) (Zbo a l i)) hol4 ho13 hr4) ?_;rintro v52 _ _ ⟨rfl,r5,hr5,rfl⟩;rw [ZAT hmv hb48])<;>refine ζd ?_)
             (refine ζa ?_<;>refine xL 53 ζG (xL 42 ζb ?_)<;>refine ζd ?_)
             try rw [←Zni hmv (by assumption)]
             first
              | (exact ζj (
                  ⟨(k+1,r5),ζg hmv,hr5⟩
                  ) (by dsimp only;omega) ⟨rfl,rfl,rfl,rfl,rfl,rfl,rfl,rfl,trivial⟩ ⟨rfl,rfl,rfl,rfl,trivial⟩)
              | (exact ζj (
                  ⟨(k+1,r4),ζg hmv,hr4⟩
                  ) (by dsimp only;omega) ⟨rfl,rfl,rfl,rfl,rfl,rfl,rfl,rfl,trivial⟩ ⟨rfl,rfl,rfl,rfl,trivial⟩))
          · first
            |exact bN hb48
            | (
             refine nav ?_;(refine ζa ?_<;>refine xL 53 ζG (xL 42 ζb ?_)<;>refine ζd ?_)
             try rw [←Zni hmv (by assumption)]
             first
              | (exact ζj (
                  ⟨(k+1,r5),ζg hmv,hr5⟩
                  ) (by dsimp only;omega) ⟨rfl,rfl,rfl,rfl,rfl,rfl,rfl,rfl,trivial⟩ ⟨rfl,rfl,rfl,rfl,trivial⟩)
              | (exact ζj (
                  ⟨(k+1,r4),ζg hmv,hr4⟩
                  ) (by dsimp only;omega) ⟨rfl,rfl,rfl,rfl,rfl,rfl,rfl,rfl,trivial⟩ ⟨rfl,rfl,rfl,rfl,trivial⟩)))
       · first
         |exact bN hb43
         | (
          rw [show ZaZ (Zbi ((movesOf a s.toNat).take k)) (Zbo a l i)=Zbo a l (i+1) by rw [Zbo,Zh3,hs,Xo (by omega)]];refine nav ?_;(refine ζa ?_<;>refine xL 29 ζb (xL 30 ζG (xL 10 ζc ?_))<;>refine ζd ?_)
          refine ζj (
           ⟨(i+1,r4),by dsimp only;omega,hr4⟩
           ) (by dsimp only;omega) ⟨rfl,rfl,rfl,rfl,rfl,trivial⟩ ⟨rfl,rfl,rfl,rfl,trivial⟩))
    · first
      |exact bN hb28
      | (
       have hE:Zbo a l a.n.toNat=Zbo a l i:=ZqB (by omega) hi;refine nav ?_;(refine ζa ?_<;>(refine yL 54 (ζq 1002 ζD) fun v54 h=>?_;cases h)<;>(rcases Va (Zbo a l i).length with h0|h0<;>first|(refine ZAl (zs:=Zbo a l i) 1004 ZsK (Tryz.call156) ?_ h0)|(rw [XO h0];refine Zla 1004 ZqC (Tryz.call156) ?_))<;>refine ζd ?_)<;>(
        (refine ζa ?_<;>(refine yL 56 (ζq 1002 ζD) fun v56 h=>?_;cases h)<;>refine xL 4 ζc ?_<;>refine ζd ?_)
        refine Zb8 1004 (Tryz.results111) rfl rfl ?_;unfold Za3;rw [hE,Uw]
        all_goals first
         |rfl
         |(rw [XO h0,List.mergeSort_nil]))))
def Zdh (c:Int) (ms:List Mv):List Int:=(ms.filter fun m=>decide (m.sym=c)).map (·.dst)
theorem Zvx {c:Int} {ms:List Mv} {k:Nat} {m:Mv} (h:ms[k]? =some m) (hs:m.sym=c):Zdh c (ms.take (k+1))=Zdh c (ms.take k)++[m.dst]:=by
 unfold Zdh;rw [ζQ h,Vh,Xy];simp [hs]
theorem ZqD {c:Int} {ms:List Mv} {k:Nat} {m:Mv} (h:ms[k]? =some m) (hs:¬m.sym=c):Zdh c (ms.take (k+1))=Zdh c (ms.take k):=by
 unfold Zdh;rw [ζQ h,Vh,Xy];simp [hs]
def Zch (a:Aut) (c:Int) (l:List Int):List Int:=l.flatMap fun s=>Zdh c (movesOf a s.toNat)
theorem ZsL (a:Aut) (c:Int) {l:List Int} {k:Nat} {s:Int} (h:l[k]? =some s):Zch a c (l.take (k+1))=Zch a c (l.take k)++Zdh c (movesOf a s.toNat):=by
 unfold Zch;rw [ζQ h,XS];simp
theorem Znl (c:Int) (ms:List Mv):(Zdh c ms).length≤ms.length:=by unfold Zdh;rw [Xf];exact V9 _ _
theorem Zj8 (a:Aut) (s:Nat):(movesOf a s).length≤a.moves.length:=V9 _ _
theorem Znm (a:Aut) (c:Int):∀l:List Int,(Zch a c l).length≤l.length*a.moves.length
 |[]=>by simp [Zch]
 | x::l=>by
   have h1:=Znm a c l;have h2:=Znl c (movesOf a x.toNat);have h3:=Zj8 a x.toNat;have h4:Zch a c (x::l)=Zdh c (movesOf a x.toNat)++Zch a c l:=rfl;rw [h4,Xc,Xj,XQ];omega
theorem ZcC {a:Aut} (h:Zfy a) (c:Int) (l:List Int):∀t∈Zch a c l,0≤t∧t<a.n:=fun t ht=>by
 unfold Zch Zdh movesOf at ht
 simp only [XR,Xh,Vr] at ht
 obtain ⟨s,_,m,⟨⟨h1,_⟩,_⟩,rfl⟩:=ht
 exact h m h1
theorem Zlw (e:Nat) (L:List Int) (x:Int):PV.own e 1 (L.length+1) (L.map pInt++[pInt x])= .own e 1 (L++[x]).length ((L++[x]).map pInt):=by simp
def ZaL (a:Aut) (c:Int) (l:List Int):List Int:=Za3 a (Zch a c l)
set_option maxHeartbeats 2000000 in
theorem ZoG (a :Aut) (l:List Int) (c:Int) (hn:a.n≤2000) (hmv:a.moves.length≤20000) (hm:Zfy a) (hl:∀s∈l,0≤s∧s<a.n) (hll:l.length≤2000):AF Tryz.prog 112 [pGr a,pInts l,pInt c] (· = .own 3 1 (ZaL a c l).length ((ZaL a c l).map pInt)):=by
 refine AF.of_body 44 Tryz.func112 rfl Tryz.ntmps112 (Xa rfl) ?_
 intro w0 M0 vs hl hv
 obtain ⟨v0,v1,v2,rfl⟩:=ZgF hl
 obtain rfl:=hv 2 _ _ rfl rfl
 clear hl hv
 refine nav ?_
 (refine ζa ?_<;>refine xL 6 ζc ?_<;>refine ζd ?_)
 (refine ζa ?_<;>refine xL 7 ζc ?_<;>refine ζd ?_)
 refine ζw (ZbW 200 3 1 rfl) fun _=>?_
 (refine ζa ?_<;>refine xL 12 ζb (xL 13 (ζU ζu) (xL 14 ζb ?_))<;>refine ζd ?_)
 refine ζy (ι:={q:Nat×Value//q.1≤l.length∧q.2.oneCell'=true}) (fun k=>⟨[(0,_,_),(2,_,_),(12,_,_),(13,_,_),(7,k.1.2, .val k.1.2),(14, .int .i64 k.1.1,pInt k.1.1)],[(200,k.1.2, .own 3 1 (Zch a c (l.take k.1.1)).length ((Zch a c (l.take k.1.1)).map pInt))]⟩) (fun k=>l.length-k.1.1) ⟨(0, .slice none 0 0),Xe _,rfl⟩ (fun a w H=>H.weaken ⟨rfl,rfl,rfl,rfl,rfl,rfl,trivial⟩ ⟨rfl,trivial⟩) ?_
 rintro ⟨⟨k,r⟩,hk,hr⟩
 dsimp only
 dsimp only at hk hr
 have hlk:=Znm a c (l.take k)
 refine nav ?_
 (refine ζa ?_<;>refine xL 15 ζK ?_<;>refine ζd ?_)
 (first|refine cCd ?_ ?_|refine cC ?_ ?_)<;>intro hb15
 · first
   |exact bN hb15
   | (
    obtain ⟨s,hs⟩:=ζm (show k<l.length by omega);have hsr:=hl s (Xb hs);have e1:=Zas (f:=pInt) hs;(have e2:((List.range a.n.toNat).map fun s=>pMvs (movesOf a s))[s.toNat*1]? =some (pMvs (movesOf a s.toNat)):=by rw [Xx,ZeE (by omega)]);(have e2':s.toNat<a.n.toNat:=by omega);have hml:=Zj8 a s.toNat;have hlk2:(Zch a c (l.take k)).length≤40000000:=by
     refine XV hlk ?_;(have h5:(l.take k).length≤2000:=by rw [Xu];omega);exact XV (Ug h5 hmv) (by decide)
    obtain ⟨A,hA⟩:∃A,A=Zch a c (l.take k):=⟨_,rfl⟩;rw [←hA] at hlk2 ⊢;refine nav ?_;(refine ζa ?_<;>refine xL 16 (ζI ζu) ?_<;>(refine yL 17 (ZaE ζp) fun v17 h=>?_;cases h)<;>refine xL 9 ζc ?_<;>refine ζd ?_)
    (refine ζa ?_<;>refine xL 18 ζb (xL 19 ZhV (xL 20 (Zim ZcS) ?_))<;>(refine yL 21 (ZaE ZdL) fun v21 h=>?_;cases h)<;>refine xL 22 ζb (xL 23 (Zk1 ZdM) ?_)<;>(refine yL 24 (ZaE ζO) fun v24 h=>?_;cases h)<;>refine xL 25 (ζU ζR) (xL 26 ζb ?_)<;>refine ζd ?_)
    rw [show A=A++Zdh c ((movesOf a s.toNat).take 0) from (XB A).symm];refine ζy (ι:={q:Nat×Value//q.1≤(movesOf a s.toNat).length∧q.2.oneCell'=true}) (fun k=>⟨[(0,_,_),(2,_,_),(12,_,_),(13,_,_),(14,_,_),(24,_,_),(25,_,_),(7,k.1.2, .val k.1.2),(26, .int .i64 k.1.1,pInt k.1.1)],[(200,k.1.2, .own 3 1 (A++Zdh c ((movesOf a s.toNat).take k.1.1)).length ((A++Zdh c ((movesOf a s.toNat).take k.1.1)).map pInt))]⟩) (fun k=>(movesOf a s.toNat).length-k.1.1) ⟨(0,r),Xe _,hr⟩ (fun a w H=>H.weaken ⟨rfl,rfl,rfl,rfl,rfl,rfl,rfl,rfl,rfl,trivial⟩ ⟨rfl,trivial⟩) ?_;rintro ⟨⟨j,r4⟩,hj4,hr4⟩;dsimp only;dsimp only at hj4 hr4;have hbl:=Znl c ((movesOf a s.toNat).take j);rw [Xu] at hbl;(have hol:(A++Zdh c ((movesOf a s.toNat).take j)).length≤41000000:=by rw [Xc];omega);refine nav ?_;(refine ζa ?_<;>refine xL 27 ζK ?_<;>refine ζd ?_)
    (first|refine cCd ?_ ?_|refine cC ?_ ?_)<;>intro hb27
    · first
      |exact bN hb27
      | (
       obtain ⟨mv,hmv2⟩:=ζm (show j<(movesOf a s.toNat).length by omega);have e3:=Zaq Zac (movesOf a s.toNat) j mv hmv2;have e4:=ZaP Zac hmv2;refine nav ?_;(refine ζa ?_<;>refine xL 28 (ζI ζR) ?_<;>(refine yL 29 (ZaQ ζ8) fun v29 h=>?_;cases h)<;>refine ζs [(.int .i64 0),(.int .i64 0),(.int .i64 0)] 3 11 Zdf fun h11=>?_<;>refine ζt 11 ζ8 ?_<;>refine ζd ?_)
       (refine ζa ?_<;>refine xL 30 (ζh 11 Zbq) ?_<;>(refine yL 31 (ζq 11 ζp) fun v31 h=>?_;cases h)<;>refine xL 32 ζb (xL 33 ζ6 ?_)<;>refine ζd ?_)
       (first|refine cCd ?_ ?_|refine cC ?_ ?_)<;>intro hb33
       · first
         |exact bN hb33
         | (
          refine nav ?_;(refine ζa ?_<;>refine xL 34 ζb (xL 35 (ζh 11 ZaU) ?_)<;>(refine yL 36 (ζq 11 ζp) fun v36 h=>?_;cases h)<;>refine ζP (kk:=1) 37 ζn fun h37 ho37=>?_<;>(refine Zat [(200,_,_),(37,_,_)] ⟨rfl,rfl,trivial⟩ ?_;refine ζ0 200 37 38 ζn fun h38 ho38=>?_;refine ζr (ζF (l:=38) 200 rfl rfl) fun _=>?_;refine Zat [(200,h38,PV.own 3 1 (A++Zdh c ((movesOf a s.toNat).take (j+1))).length ((A++Zdh c ((movesOf a s.toNat).take (j+1))).map pInt))] ⟨(by rw [Zvx hmv2 hb33,←XA,←Zlw];rfl),trivial⟩ ?_)<;>refine xL 7 ζc ?_<;>refine ζd ?_)
          (refine ζa ?_<;>refine xL 39 ζG (xL 26 ζb ?_)<;>refine ζd ?_)
          try rw [←ZqD hmv2 (by assumption)]
          first
           | (exact ζj (
               ⟨(j+1,h38),ζg hmv2,ho38⟩
               ) (by dsimp only;omega) ⟨rfl,rfl,rfl,rfl,rfl,rfl,rfl,rfl,rfl,trivial⟩ ⟨rfl,trivial⟩)
           | (exact ζj (
               ⟨(j+1,r4),ζg hmv2,hr4⟩
               ) (by dsimp only;omega) ⟨rfl,rfl,rfl,rfl,rfl,rfl,rfl,rfl,rfl,trivial⟩ ⟨rfl,trivial⟩))
       · first
         |exact bN hb33
         | (
          refine nav ?_;(refine ζa ?_<;>refine xL 39 ζG (xL 26 ζb ?_)<;>refine ζd ?_)
          try rw [←ZqD hmv2 (by assumption)]
          first
           | (exact ζj (
               ⟨(j+1,h38),ζg hmv2,ho38⟩
               ) (by dsimp only;omega) ⟨rfl,rfl,rfl,rfl,rfl,rfl,rfl,rfl,rfl,trivial⟩ ⟨rfl,trivial⟩)
           | (exact ζj (
               ⟨(j+1,r4),ζg hmv2,hr4⟩
               ) (by dsimp only;omega) ⟨rfl,rfl,rfl,rfl,rfl,rfl,rfl,rfl,rfl,trivial⟩ ⟨rfl,trivial⟩)))
    · first
      |exact bN hb27
      | (
       rw [show A++Zdh c ((movesOf a s.toNat).take j)=Zch a c (l.take (k+1)) by rw [Xo (by omega),ZsL a c hs,hA]];refine nav ?_;(refine ζa ?_<;>refine xL 40 ζG (xL 14 ζb ?_)<;>refine ζd ?_)
       refine ζj (
        ⟨(k+1,r4),ζg hs,hr4⟩
        ) (by dsimp only;omega) ⟨rfl,rfl,rfl,rfl,rfl,rfl,trivial⟩ ⟨rfl,trivial⟩))
 · first
   |exact bN hb15
   | (
    refine nav ?_;(refine ζa ?_<;>refine xL 41 ζb (xL 42 ζb ?_)<;>(refine ζr (En.freeze (l:=200) (t:=42) rfl rfl) fun _=>?_;rw [ζ2 _ _ _ rfl];refine cO 43 (cA Tryz.call111 (Zh4 a (Zch a c (l.take k)) hn hm (ZcC hm c _))) fun v43 ho43=>?_)<;>refine xL 6 ζc ?_<;>refine ζd ?_)
    refine Zb8 43 (Tryz.results112) rfl rfl ?_;rw [Xo (by omega)];rfl)
def Srt (l:List Int):Prop:=l.Pairwise (· < ·)
theorem ZoH:∀{l m:List Int},Srt l→Srt m→(∀x,x∈l↔x∈m)→l=m
 |[],[],_,_,_=>rfl
 |[],y::m,_,_,h=>absurd ((h y).2 (Xk ..)) (by simp)
 |x::l,[],_,_,h=>absurd ((h x).1 (Xk ..)) (by simp)
 | x ::l,y::m,hl,hm,h=>by
   have hl':=XK.1 hl;have hm':=XK.1 hm;have hxy:x=y:=by
    have h1:=(h x).1 (Xk ..);have h2:=(h y).2 (Xk ..);rcases Xl.1 h1 with e|h1
    · exact e
    · rcases Xl.1 h2 with e|h2
      · exact e.symm
      · have:=hm'.1 x h1;have:=hl'.1 y h2;omega
   subst hxy;congr 1;refine ZoH hl'.2 hm'.2 fun z=>⟨fun hz=>?_,fun hz=>?_⟩
   · rcases Xl.1 ((h z).1 (Xn _ hz)) with e|h1
     · have:=hl'.1 z hz;omega
     · exact h1
   · rcases Xl.1 ((h z).2 (Xn _ hz)) with e|h1
     · have:=hm'.1 z hz;omega
     · exact h1
theorem Srt.filter {l:List Int} (h:Srt l) (p:Int→Bool):Srt (l.filter p):=List.Pairwise.filter p h
inductive Rch (a:Aut) (l:List Int):Int→Prop
 |base {s:Int} (h:s∈l):Rch a l s
 |step {s:Int} {m:Mv} (h:Rch a l s) (hm:m∈a.moves) (hs:m.src=s) (hc:m.sym= -1):Rch a l m.dst
theorem Zvy {out:List Int} {s t:Int}:t∈Zeb out s↔t∈out∨t=s:=by
 unfold Zeb;split
 · rename_i h;constructor
   · exact .inl
   · rintro (h1|rfl)
     · exact h1
     · simpa using h
 · simp
theorem ZeF:∀(l:List Int) {out:List Int} {t:Int},t∈ZaZ l out↔t∈out∨t∈l
 |[],out,t=>by simp [ZaZ]
 | x::l,out,t=>by
   show t∈ZaZ l (Zeb out x)↔_;rw [ZeF l,Zvy,Xl];exact or_assoc
theorem Zvz (out:List Int) (s:Int):out<+:Zeb out s:=by
 unfold Zeb;split
 · exact Vu _
 · exact Um _ _
theorem Zlx:∀(l out:List Int),out<+:ZaZ l out
 |[],out=>Vu _
 |x::l,out=>(Zvz out x).trans (Zlx l (Zeb out x))
theorem ZvA (a:Aut) (l:List Int) (i:Nat):Zbo a l i<+:Zbo a l (i+1):=by
 rw [Zbo,Zh3];split
 · exact Zlx _ _
 · exact Vu _
theorem ZiF (a:Aut) (l:List Int) (i:Nat):∀j,Zbo a l i<+:Zbo a l (i+j)
 |0=>Vu _
 |j+1=>(ZiF a l i j).trans (ZvA a l (i+j))
theorem ZAU {l m:List Int} (h:l<+:m) {i:Nat} {x:Int} (hx:l[i]? =some x):m[i]? =some x:=by
 obtain ⟨r,rfl⟩:=h
 rw [Vc (ζg hx)];exact hx
theorem Zly {a:Aut} {s:Int} (h0:0≤s) {t:Int}:t∈Zbi (movesOf a s.toNat)↔∃m∈a.moves,m.src=s∧m.sym= -1∧m.dst=t:=by
 unfold Zbi movesOf
 simp only [Xh,Vr,decide_eq_true_eq]
 constructor
 · rintro ⟨m,⟨⟨h1,h2⟩,h3⟩,h4⟩;exact ⟨m,h1,by omega,h3,h4⟩
 · rintro ⟨m,h1,h2,h3,h4⟩;exact ⟨m,⟨⟨h1,by omega⟩,h3⟩,h4⟩
theorem Zgd {a:Aut} {l:List Int} (h:Zfy a) (hl:∀s∈l,0≤s∧s<a.n):∀i t,t∈Zbo a l i→Rch a l t
 | 0,t,ht=>by
   rw [Zbo,ZeF] at ht;exact .base (by simpa using ht)
 | i + 1,t,ht=>by
   rw [Zbo,Zh3] at ht;split at ht
   · rename_i s hs;rcases (ZeF _).1 ht with h1|h1
     · exact Zgd h hl i t h1
     · have hsm:=Xb hs;obtain ⟨m,h2,h3,h4,rfl⟩:=(Zly ((Zgc h hl i).2 s hsm).1).1 h1;exact .step (Zgd h hl i s hsm) h2 h3 h4
   · exact Zgd h hl i t ht
theorem ZvB {a:Aut} {l:List Int} (h:Zfy a) (hl:∀s∈l,0≤s∧s<a.n) {t:Int} (ht:Rch a l t):t∈Zbo a l a.n.toNat:=by
 induction ht with
 | base h1=>
   have h2:Zbo a l 0<+:Zbo a l (0+a.n.toNat):=ZiF a l 0 a.n.toNat;rw [Xw] at h2;refine h2.subset ?_;rw [Zbo,ZeF];exact .inr h1
 | @step s m h1 hm hs hc ih=>
   obtain ⟨i,hi⟩:=Ve ih;have hil:=ζg hi;have hok:=Zgc h hl a.n.toNat;have hlen:=hok.len;have h3:i<(Zbo a l i).length:=by
    rcases Xv i (Zbo a l i).length with h4|h4
    · exact h4
    · have h5:=ZqB h4 (show i≤a.n.toNat by omega);rw [h5] at hil;omega
   have h4:(Zbo a l i)[i]? =some s:=by
    have h5:=ZiF a l i (a.n.toNat-i);rw [show i+(a.n.toNat-i)=a.n.toNat by omega] at h5;obtain ⟨x,hx⟩:=ζm h3;rw [hx,←hi];exact (ZAU h5 hx).symm
   have h5:m.dst∈Zbo a l (i+1):=by
    rw [Zbo,Zh3,h4];refine (ZeF _).2 (.inr ((Zly (hok.2 s ih).1).2 ⟨m,hm,hs,hc,rfl⟩))
   have h6:=ZiF a l (i+1) (a.n.toNat-(i+1));rw [show i+1+(a.n.toNat-(i+1))=a.n.toNat by omega] at h6;exact h6.subset h5
theorem Zer {a:Aut} {l:List Int} (h:Zfy a) (hl:∀s∈l,0≤s∧s<a.n) (t:Int):t∈Za3 a l↔Rch a l t:=by
 unfold Za3
 rw [List.mem_mergeSort]
 exact ⟨Zgd h hl _ t,ZvB h hl⟩
theorem ZdN {a:Aut} {l:List Int} (h:Zfy a) (hl:∀s∈l,0≤s∧s<a.n):Srt (Za3 a l):=by
 have h1:(Za3 a l).Pairwise (fun x y=>decide (x≤y)=true):=Uj (fun a b c h1 h2=>by simp only [decide_eq_true_eq] at*;omega) (fun a b=>by simp only [Vp,decide_eq_true_eq];omega) _
 have h2:(Za3 a l).Nodup:=(Uk _ _).nodup_iff.2 (Zgc h hl _).1
 unfold Srt
 exact (h1.and h2).imp fun {x y} ⟨h3,h4⟩=>by simp only [decide_eq_true_eq] at h3;omega
theorem Zx6 {a:Aut} {l:List Int} (h:Zfy a) (hl:∀s∈l,0≤s∧s<a.n) {t:Int} (ht:Rch a l t):0≤t∧t<a.n:=by
 cases ht with
 |base h1=>exact hl t h1
 |step _ hm _ _=>exact h _ hm
theorem ZgX {a:Aut} {l:List Int} (h:Zfy a) (hl:∀s∈l,0≤s∧s<a.n):∀t∈Za3 a l,0≤t∧t<a.n:=fun t ht=>Zx6 h hl ((Zer h hl t).1 ht)
theorem Zjk {a:Aut} {l:List Int} (h:Zfy a) (hl:∀s∈l,0≤s∧s<a.n):(Za3 a l).length≤a.n.toNat:=by
 unfold Za3
 rw [Uw];exact (Zgc h hl _).len
theorem ZdO {a:Aut} {c:Int} {l:List Int} (hl:∀s∈l,0≤s∧s<a.n) {t:Int}:t∈Zch a c l↔∃m∈a.moves,m.src∈l∧m.sym=c∧m.dst=t:=by
 unfold Zch Zdh movesOf
 simp only [XR,Xh,Vr,decide_eq_true_eq]
 constructor
 · rintro ⟨s,hs,m,⟨⟨h1,h2⟩,h3⟩,h4⟩;have:=hl s hs;exact ⟨m,h1,by rw [h2,show ((s.toNat:Nat):Int)=s by omega];exact hs,h3,h4⟩
 · rintro ⟨m,h1,h2,h3,h4⟩;have:=hl _ h2;exact ⟨m.src,h2,m,⟨⟨h1,by omega⟩,h3⟩,h4⟩
def Zc3 (m:Mv) (d:Int):Int:=if 0≤m.sym then d+1 else d
def Zd2 (far:List Int) (m:Mv):List Int:=
 match far[m.dst.toNat]?,far[m.src.toNat]? with
 |some d,some e=>if 0≤d∧(e<0∨Zc3 m d<e) then far.set m.src.toNat (Zc3 m d) else far
 |_,_=>far
def passF (ms:List Mv) (far:List Int):List Int:=ms.foldl Zd2 far
def Ze3 (a:Aut):List Int:=(List.range a.n.toNat).map fun s=>if Zeh a (s:Nat) then 0 else-1
def Zbs (a:Aut):Nat→List Int
 |0=>Ze3 a
 |k+1=>passF a.moves (Zbs a k)
def Zbe (a:Aut):List Int:=Zbs a (a.n.toNat*a.n.toNat+1)
def cntD (far:List Int):Nat:=far.countP fun d=>decide (0≤d)
def wgt (n:Nat) (d:Int):Nat:=if 0≤d then d.toNat else n
def sumF (n:Nat) (far:List Int):Nat:=(far.map (wgt n)).sum
structure FarOk (n:Nat) (far:List Int):Prop where
 len:far.length=n
 lo:∀d∈far,-1≤d
 hi:∀d∈far,d<cntD far
theorem ZoI (far:List Int):cntD far≤far.length:=List.countP_le_length
theorem ZqE:∀(far:List Int) (i:Nat) (e d:Int),far[i]? =some e→0≤d→cntD (far.set i d)=cntD far+(if 0≤e then 0 else 1)
 |[],i,e,d,h,_=>by simp at h
 | x::far,0,e,d,h,hd=>by
   simp only [Vt,Option.some.injEq] at h;subst h;unfold cntD;rw [List.set_cons_zero,UE,UE,decide_eq_true hd];by_cases hx:0≤x<;>simp [hx]
 | x::far,i+1,e,d,h,hd=>by
   simp only [VV] at h;have:=ZqE far i e d h hd;unfold cntD at this ⊢;rw [List.set_cons_succ,UE,UE,this];omega
theorem ZqF:∀(n:Nat) (far:List Int) (i:Nat) (e d:Int),far[i]? =some e→sumF n (far.set i d)+wgt n e=sumF n far+wgt n d
 |n,[],i,e,d,h=>by simp at h
 | n,x::far,0,e,d,h=>by
   simp only [Vt,Option.some.injEq] at h;subst h;unfold sumF;rw [List.set_cons_zero,Xq,Xq,Un,Un];omega
 | n,x::far,i+1,e,d,h=>by
   simp only [VV] at h;have:=ZqF n far i e d h;unfold sumF at this ⊢;rw [List.set_cons_succ,Xq,Xq,Un,Un];omega
theorem Zx7 (m:Mv) (d:Int):d≤Zc3 m d∧Zc3 m d≤d+1:=by unfold Zc3;split<;>omega
theorem Zjl {n:Nat} {far:List Int} (h:FarOk n far) {m:Mv} {d e:Int} (hd:far[m.dst.toNat]? =some d) (he:far[m.src.toNat]? =some e) (h0:0≤d) (h1:e<0∨Zc3 m d<e):
 FarOk n (far.set m.src.toNat (Zc3 m d))∧sumF n (far.set m.src.toNat (Zc3 m d))<sumF n far:=by
 have hs:=Zx7 m d
 have hdc:=h.hi d (Xb hd)
 have hec:=h.hi e (Xb he)
 have hc:=ZqE far m.src.toNat e (Zc3 m d) he (by omega)
 have hsum:=ZqF n far m.src.toNat e (Zc3 m d) he
 have hcl:=ZoI (far.set m.src.toNat (Zc3 m d))
 rw [Xp,h.len] at hcl
 refine ⟨⟨by rw [Xp];exact h.len,fun x hx=>?_,fun x hx=>?_⟩,?_⟩
 · rcases List.mem_or_eq_of_mem_set hx with h2|rfl
   · exact h.lo x h2
   · omega
 · rw [hc];rcases List.mem_or_eq_of_mem_set hx with h2|rfl
   · have:=h.hi x h2;split<;>omega
   · split<;>omega
 · unfold wgt at hsum;rw [if_pos (show 0≤Zc3 m d by omega)] at hsum;rcases h1 with h1|h1
   · rw [if_neg (by omega)] at hsum hc;omega
   · rw [if_pos (by omega)] at hsum;omega
theorem Zj9 {n:Nat} {far:List Int} (h:FarOk n far) (m:Mv):FarOk n (Zd2 far m)∧(Zd2 far m=far∨sumF n (Zd2 far m)<sumF n far):=by
 unfold Zd2
 split
 · rename_i d e hd he;split
   · rename_i h1;have:=Zjl h hd he h1.1 h1.2;exact ⟨this.1, .inr this.2⟩
   · exact ⟨h, .inl rfl⟩
 · exact ⟨h, .inl rfl⟩
theorem Ze4 {n:Nat}:∀(ms:List Mv) {far:List Int},FarOk n far→FarOk n (passF ms far)∧(passF ms far=far∨sumF n (passF ms far)<sumF n far)
 |[],far,h=>⟨h, .inl rfl⟩
 | m ::ms,far,h=>by
   obtain ⟨h1,h2⟩:=Zj9 h m;obtain ⟨h3,h4⟩:=Ze4 ms h1;refine ⟨h3,?_⟩;show passF ms (Zd2 far m)=far∨_;rcases h2 with h2|h2
   · rw [h2] at h4;show passF ms (Zd2 far m)=far∨sumF n (passF ms (Zd2 far m))<sumF n far;rw [h2];exact h4
   · right
     show sumF n (passF ms (Zd2 far m))<sumF n far;rcases h4 with h4|h4
     · rw [h4];exact h2
     · omega
theorem Zka {n:Nat}:∀(ms:List Mv) {far:List Int},FarOk n far→passF ms far=far→∀m∈ms,Zd2 far m=far
 |[],far,h,_,m,hm=>by simp at hm
 | x ::ms,far,h,he,m,hm=>by
   obtain ⟨h1,h2⟩:=Zj9 h x;obtain ⟨h3,h4⟩:=Ze4 ms h1;have he':passF ms (Zd2 far x)=far:=he;have hx:Zd2 far x=far:=by
    rcases h2 with h2|h2
    · exact h2
    · rcases h4 with h4|h4
      · rw [he'] at h4;exact h4.symm
      · rw [he'] at h4;omega
   rcases Xl.1 hm with rfl|hm
   · exact hx
   · rw [hx] at he';exact Zka ms h he' m hm
theorem ZsM {a:Aut} {s:Nat} (h:s<a.n.toNat):(Ze3 a)[s]? =some (if Zeh a (s:Nat) then 0 else-1):=by
 unfold Ze3;rw [Xm,Ub h];rfl
theorem ZsN (a:Aut):FarOk a.n.toNat (Ze3 a):=by
 refine ⟨by unfold Ze3;simp,fun d hd=>?_,fun d hd=>?_⟩
 · unfold Ze3 at hd;obtain ⟨s,_,rfl⟩:=Xh.1 hd;split<;>omega
 · have hd2:=hd;unfold Ze3 at hd2;obtain ⟨s,_,hs⟩:=Xh.1 hd2;by_cases h0:0≤d
   · have h1:0<cntD (Ze3 a):=List.countP_pos_iff.2 ⟨d,hd,decide_eq_true h0⟩;split at hs<;>omega
   · omega
theorem Zfz (a:Aut):∀k,FarOk a.n.toNat (Zbs a k)
 |0=>ZsN a
 |k+1=>(Ze4 a.moves (Zfz a k)).1
theorem ZAV {n:Nat} {far:List Int} (h:FarOk n far):sumF n far≤n*n:=by
 have hc:=ZoI far
 rw [h.len] at hc
 have key:∀(l:List Int),(∀d∈l,d<(n:Int))→(l.map (wgt n)).sum≤l.length*n:=fun l=>by
  induction l with
  |nil=>intro _;simp
  | cons x l ih=>
    intro hx;have h1:=ih fun d hd=>hx d (Xn _ hd);have h2:=hx x (Xk ..);rw [Xq,Un,Xj,XQ];(have h3:wgt n x≤n:=by unfold wgt;split<;>omega);omega
 have:=key far fun d hd=>by have:=h.hi d hd;omega
 rw [h.len] at this;exact this
theorem Zge {a:Aut} {k:Nat} (h:passF a.moves (Zbs a k)=Zbs a k):∀j,Zbs a (k+j)=Zbs a k
 |0=>rfl
 |j+1=>by rw [←XX,Zbs,Zge h j,h]
theorem Znn (a:Aut):passF a.moves (Zbe a)=Zbe a:=by
 have key:∀k,(∃j,j≤k∧passF a.moves (Zbs a j)=Zbs a j)∨sumF a.n.toNat (Zbs a k)+k≤a.n.toNat*a.n.toNat:=fun k=>by
  induction k with
  |zero=>exact .inr (ZAV (Zfz a 0))
  | succ k ih=>
    rcases ih with ⟨j,h1,h2⟩|h
    · exact .inl ⟨j,by omega,h2⟩
    · rcases (Ze4 a.moves (Zfz a k)).2 with h1|h1
      · exact .inl ⟨k,by omega,h1⟩
      · right;rw [Zbs];omega
 rcases key (a.n.toNat*a.n.toNat+1) with ⟨j,h1,h2⟩|h
 · have h3:=Zge h2 (a.n.toNat*a.n.toNat+1-j);rw [show j+(a.n.toNat*a.n.toNat+1-j)=a.n.toNat*a.n.toNat+1 by omega] at h3;unfold Zbe;rw [h3,h2]
 · omega
theorem ZAW {a:Aut} {k:Nat} (h:passF a.moves (Zbs a k)=Zbs a k):Zbe a=Zbs a k:=by
 have h1:=Znn a
 unfold Zbe at h1 ⊢
 rcases Nat.le_total k (a.n.toNat*a.n.toNat+1) with h2|h2
 · have h3:=Zge h (a.n.toNat*a.n.toNat+1-k);rwa [show k+(a.n.toNat*a.n.toNat+1-k)=a.n.toNat*a.n.toNat+1 by omega] at h3
 · have h3:=Zge h1 (k-(a.n.toNat*a.n.toNat+1));rw [show a.n.toNat*a.n.toNat+1+(k-(a.n.toNat*a.n.toNat+1))=k by omega] at h3;exact h3.symm
theorem ZkL (a:Aut):FarOk a.n.toNat (Zbe a):=Zfz a _
theorem ZqG {a:Aut} {m:Mv} (hm:m∈a.moves) {d e:Int} (hd:(Zbe a)[m.dst.toNat]? =some d) (he:(Zbe a)[m.src.toNat]? =some e) (h0:0≤d):0≤e∧e≤Zc3 m d:=by
 have h1:=Zka a.moves (ZkL a) (Znn a) m hm
 unfold Zd2 at h1
 rw [hd,he] at h1
 dsimp only at h1
 split at h1
 · rename_i h2;have h3:=Zjl (ZkL a) hd he h2.1 h2.2;rw [h1] at h3;omega
 · rename_i h2;omega
abbrev Pf:=List Int×List Int
def Zc0 (a:Aut) (S:List Int):Bool:=S.any (Zeh a)
def InS (a:Aut) (S:List Int):Prop:=∀s∈S,0≤s∧s<a.n
def Zfc (a:Aut) (n:Int) (p:Pf) (c:Nat):List Pf:=if (Zbr (ZaL a c p.2) (Zbe a) (n-1)).length=0 then [] else [(p.1++[(c:Int)],Zbr (ZaL a c p.2) (Zbe a) (n-1))]
def ZhN (a:Aut) (n:Int) (p:Pf):List Pf:=(List.range a.syms.toNat).flatMap (Zfc a n p)
def lvP (a:Aut) (n:Nat):Nat→List Pf
 |0=>[([],Zbr (Za3 a a.start) (Zbe a) n)]
 |k+1=>(lvP a n k).flatMap (ZhN a ((n:Int)-k))
def ZiG (a:Aut) (l:List Pf):List (List Int):=(l.filter fun p=>Zc0 a p.2).map (·.1)
def ZfA (a:Aut) (n k:Nat):List (List Int):=(List.range k).flatMap fun i=>ZiG a (lvP a n i)
def ZAX (a:Aut) (n:Nat):Prop:=(∃k,k≤n∧2000<(lvP a n (k+1)).length)∨2000<(ZfA a n (n+1)).length
def Zdz (far:List Int) (b s:Int):Int:=match far[s.toNat]? with
 |some d=>if 0≤d∧(b<0∨d<b) then d else b
 |none=>b
def Zh5 (far S:List Int):Int:=S.foldl (Zdz far) (-1)
def Zx8 (a:Aut) (n:Int) (p:Pf) (c:Nat):List Pf:=if 0≤Zh5 (Zbe a) (ZaL a c p.2)∧Zh5 (Zbe a) (ZaL a c p.2)≤n-1 then [(p.1++[(c:Int)],ZaL a c p.2)] else []
def ZCl (a:Aut) (n:Int) (p:Pf):List Pf:=(List.range a.syms.toNat).flatMap (Zx8 a n p)
def lvR (a:Aut) (n:Nat):Nat→List Pf
 |0=>[([],Za3 a a.start)]
 |k+1=>(lvR a n k).flatMap (ZCl a ((n:Int)-k))
theorem Zlz {a:Aut} {s:Int} (h:0≤s∧s<a.n):∃d,(Zbe a)[s.toNat]? =some d:=ζm (by rw [(ZkL a).len];omega)
theorem ZgY {a:Aut} {S:List Int} (hS:InS a S) {n:Int} {s:Int}:s∈Zbr S (Zbe a) n↔s∈S∧∃d,(Zbe a)[s.toNat]? =some d∧0≤d∧d≤n:=by
 unfold Zbr Zx0
 rw [Vr]
 constructor
 · rintro ⟨h1,h2⟩;obtain ⟨d,hd⟩:=Zlz (hS s h1);rw [hd] at h2;simp only [Bool.not_eq_true',Ue,decide_eq_false_iff_not] at h2;exact ⟨h1,d,hd,by omega,by omega⟩
 · rintro ⟨h1,d,hd,h2,h3⟩;rw [hd];simp only [Bool.not_eq_true',Ue,decide_eq_false_iff_not];exact ⟨h1,by omega,by omega⟩
theorem ZkM {a:Aut} {S:List Int} (hS:InS a S) (far:List Int) (n:Int):InS a (Zbr S far n):=fun s hs=>hS s ((Vr.1 hs).1)
theorem Zgf {a:Aut} (h:Zfy a) (c:Int) (S:List Int):InS a (ZaL a c S):=ZgX h (ZcC h c S)
theorem ZqH {a:Aut} (h:Zfy a) {c:Int} {S:List Int} {t:Int}:t∈ZaL a c S↔Rch a (Zch a c S) t:=Zer h (ZcC h c S) t
theorem ZlA {a:Aut} {S:List Int} (h:Srt S) (far:List Int) (n:Int):Srt (Zbr S far n):=h.filter _
theorem ZvC {a:Aut} (h:Zfy a) {S:List Int} (hS:InS a S) {c:Int} (hc:0≤c) (n:Int):Zbr (ZaL a c (Zbr S (Zbe a) n)) (Zbe a) (n-1)=Zbr (ZaL a c S) (Zbe a) (n-1):=by
 refine ZoH (ZlA (a:=a) (ZdN h (ZcC h c _)) _ _) (ZlA (a:=a) (ZdN h (ZcC h c _)) _ _) fun t=>?_
 rw [ZgY (Zgf h c _),ZgY (Zgf h c _),ZqH h,ZqH h]
 constructor
 · rintro ⟨h1,h2⟩;refine ⟨?_,h2⟩;clear h2;induction h1 with
   | base h3=>
     obtain ⟨m,h4,h5,h6,h7⟩:=(ZdO (ZkM hS _ _)).1 h3;exact .base ((ZdO hS).2 ⟨m,h4,(Vr.1 h5).1,h6,h7⟩)
   |step _ hm hs hc ih=>exact .step ih hm hs hc
 · rintro ⟨h1,d,hd,h2,h3⟩;refine ⟨?_,d,hd,h2,h3⟩;induction h1 generalizing d with
   | base h3'=>
     obtain ⟨m,h4,h5,h6,rfl⟩:=(ZdO hS).1 h3';obtain ⟨e,he⟩:=Zlz (hS _ h5);have h8:=ZqG h4 hd he h2;unfold Zc3 at h8;rw [if_pos (by omega)] at h8;exact .base ((ZdO (ZkM hS _ _)).2 ⟨m,h4,(ZgY hS).2 ⟨h5,e,he,h8.1,by omega⟩,h6,rfl⟩)
   | @step s m hr hm hs hcc ih=>
     subst hs;obtain ⟨e,he⟩:=Zlz (Zx6 h (ZcC h c _) hr);have h8:=ZqG hm hd he h2;unfold Zc3 at h8;rw [if_neg (by omega)] at h8;exact .step (ih e he h8.1 (by omega)) hm rfl hcc
theorem ZlB (far:List Int):∀(S:List Int) (b:Int),-1≤b→
 (S.foldl (Zdz far) b=b∨∃s∈S,far[s.toNat]? =some (S.foldl (Zdz far) b)∧0≤S.foldl (Zdz far) b)∧
 (0≤b→0≤S.foldl (Zdz far) b∧S.foldl (Zdz far) b≤b)∧
 (∀s∈S,∀d,far[s.toNat]? =some d→0≤d→0≤S.foldl (Zdz far) b∧S.foldl (Zdz far) b≤d)
 |[],b,_=>⟨.inl rfl,fun h=>⟨h,by simp⟩,fun s hs=>by simp at hs⟩
 | x :: S,b,hb=>by
   have hb': -1≤Zdz far b x∧(Zdz far b x=b∨(far[x.toNat]? =some (Zdz far b x)∧0≤Zdz far b x))∧(0≤b→0≤Zdz far b x∧Zdz far b x≤b)∧(∀d,far[x.toNat]? =some d→0≤d→0≤Zdz far b x∧Zdz far b x≤d):=by
    unfold Zdz;split
    · rename_i d hd;split
      · rename_i h1;refine ⟨by omega, .inr ⟨by first|exact hd|rfl,h1.1⟩,fun h=>by omega,fun d' hd' h=>?_⟩
        first
         |(rw [hd] at hd';cases hd';omega)
         |(cases hd';omega)
      · rename_i h1;refine ⟨hb, .inl rfl,fun h=>by omega,fun d' hd' h=>?_⟩
        first
         |(rw [hd] at hd';cases hd';omega)
         |(cases hd';omega)
    · rename_i hd;refine ⟨hb, .inl rfl,fun h=>by omega,fun d' hd' h=>?_⟩
      first
       |(rw [hd] at hd';cases hd')
       |cases hd'
   obtain ⟨h1,h2,h3⟩:=ZlB far S (Zdz far b x) hb'.1;simp only [Vw];refine ⟨?_,fun h=>?_,fun s hs d hd h=>?_⟩
   · rcases h1 with h1|⟨s,hs,h4⟩
     · rcases hb'.2.1 with h5|h5
       · exact .inl (by rw [h1,h5])
       · exact .inr ⟨x,Xk ..,by rw [h1];exact h5⟩
     · exact .inr ⟨s,Xn _ hs,h4⟩
   · have h4:=hb'.2.2.1 h;have h5:=h2 h4.1;omega
   · rcases Xl.1 hs with rfl|hs
     · have h4:=hb'.2.2.2 d hd h;have h5:=h2 h4.1;omega
     · exact h3 s hs d hd h
theorem ZsO {a:Aut} {S:List Int} (hS:InS a S) (n:Int):(Zbr S (Zbe a) n).length=0↔¬(0≤Zh5 (Zbe a) S∧Zh5 (Zbe a) S≤n):=by
 obtain ⟨h1,_,h3⟩:=ZlB (Zbe a) S (-1) (by omega)
 unfold Zh5
 constructor
 · rintro h ⟨h4,h5⟩;rcases h1 with h1|⟨s,hs,h6,h7⟩
   · omega
   · have:s∈Zbr S (Zbe a) n:=(ZgY hS).2 ⟨hs,_,h6,h7,h5⟩;rw [XO h] at this;simp at this
 · intro h;rcases Va (Zbr S (Zbe a) n).length with h4|h4
   · exact h4
   · exfalso;obtain ⟨s,hs⟩:=List.exists_mem_of_length_pos h4;obtain ⟨h5,d,hd,h6,h7⟩:=(ZgY hS).1 hs;have:=h3 s h5 d hd h6;exact h ⟨this.1,by omega⟩
def ZqI (a:Aut) (n:Int) (p:Pf):Pf:=(p.1,Zbr p.2 (Zbe a) n)
theorem Zx9 {a:Aut} (h:Zfy a) {p:Pf} (hp:InS a p.2) (n:Int) (c:Nat):Zfc a n (ZqI a n p) c=(Zx8 a n p c).map (ZqI a (n-1)):=by
 unfold Zfc Zx8 ZqI
 dsimp only
 rw [ZvC h hp (by omega)]
 have h1:=ZsO (Zgf h c p.2) (n-1)
 by_cases h2:(Zbr (ZaL a c p.2) (Zbe a) (n-1)).length=0
 · rw [if_pos h2,if_neg (h1.1 h2)];rfl
 · rw [if_neg h2,if_pos (by rcases Classical.em (0≤Zh5 (Zbe a) (ZaL a c p.2)∧Zh5 (Zbe a) (ZaL a c p.2)≤n-1) with h3|h3;exact h3;exact absurd (h1.2 h3) h2)];rfl
theorem Zya {a:Aut} (h:Zfy a) (hs:InS a a.start) (n:Nat):∀k,∀p∈lvR a n k,InS a p.2
 | 0,p,hp=>by
   simp only [lvR,Xi] at hp;subst hp;exact ZgX h hs
 | k +1,p,hp=>by
   rw [lvR] at hp;obtain ⟨q,_,hq⟩:=XR.1 hp;obtain ⟨c,_,hc⟩:=XR.1 hq;unfold Zx8 at hc;split at hc
   · simp only [Xi] at hc;subst hc;exact Zgf h c _
   · simp at hc
theorem ZgZ {α β:Type} {l:List α} {f g:α→List β} (h:∀x∈l,f x=g x):l.flatMap f=l.flatMap g:=by
 induction l with
 |nil=>rfl
 |cons x l ih=>rw [Xr,Xr,h x (Xk ..),ih fun y hy=>h y (Xn _ hy)]
theorem Zt5 {a:Aut} (h:Zfy a) (hs:InS a a.start) (n:Nat):∀k,lvP a n k=(lvR a n k).map (ZqI a ((n:Int)-k))
 | 0=>by
   show [_]=[_];unfold ZqI;simp
 | k+1=>by
   rw [lvP,lvR,Zt5 h hs n k,List.flatMap_map,V8];refine ZgZ fun p hp=>?_;unfold ZhN ZCl;rw [V8];refine ZgZ fun c _=>?_;rw [Zx9 h (Zya h hs n k p hp)];congr 2;omega
theorem ZfB (a:Aut) (n k:Nat):ZfA a n (k+1)=ZfA a n k++ZiG a (lvP a n k):=by
 unfold ZfA;rw [Uo,XS];simp
theorem Zno (a:Aut) (n:Nat) {j k:Nat} (h:j≤k):(ZfA a n j).length≤(ZfA a n k).length:=by
 obtain ⟨i,rfl⟩:∃i,k=j+i:=⟨k-j,by omega⟩
 clear h
 induction i with
 |zero=>exact Xd _
 |succ i ih=>rw [←XX,ZfB,Xc];omega
theorem ZvD {a:Aut} {l:List Pf} {i:Nat} {p:Pf} (h:l[i]? =some p):ZiG a (l.take (i+1))=ZiG a (l.take i)++(if Zc0 a p.2 then [p.1] else []):=by
 unfold ZiG
 rw [ζQ h,Vh,Xy]
 congr 1
 cases hb:Zc0 a p.2<;>simp [hb]
theorem ZqJ (a:Aut) (l:List Pf):(ZiG a l).length≤l.length:=by unfold ZiG;rw [Xf];exact V9 _ _
theorem ZqK (a:Aut) (l:List Pf) (i:Nat):(ZiG a (l.take i)).length≤(ZiG a l).length:=by
 unfold ZiG
 rw [Xf,Xf]
 exact (List.Sublist.filter _ (Ui i l)).length_le
theorem ZhO {α β:Type} (f:α→List β) (l:List α) (i:Nat):((l.take i).flatMap f).length≤(l.flatMap f).length:=by
 have:l.flatMap f=(l.take i).flatMap f++(l.drop i).flatMap f:=by rw [←XS,Vq]
 rw [this,Xc];omega
theorem ZlC {α β:Type} (f:α→List β) {l:List α} {i:Nat} {x:α} (h:l[i]? =some x):(l.take (i+1)).flatMap f=(l.take i).flatMap f++f x:=by
 rw [ζQ h,XS];simp
theorem Zh6 {β:Type} (f:Nat→List β) (k:Nat):(List.range (k+1)).flatMap f=(List.range k).flatMap f++f k:=by
 rw [Uo,XS];simp
end Go.Proofs.YtgfabnhpllkebaaGreatDoor
namespace Go.Cb
set_option linter.all false
open Go.En
def vec {α:Type} (n:Nat) (f:Nat→α):List α:=(List.range n).map f
theorem Zhq {α:Type} (n:Nat) (f:Nat→α):(vec n f).length=n:=by simp [vec]
theorem ZoJ {α:Type} {n i:Nat} (f:Nat→α) (h:i<n):(vec n f)[i]? =some (f i):=by simp [vec,h]
theorem ZoK {α:Type} {n:Nat} {l:List α} {f:Nat→α} (hl:l.length=n) (h:∀i x,l[i]? =some x→x=f i):l=vec n f:=by
 apply Vn
 intro i
 rcases Xv i n with hi|hi
 · obtain ⟨x,hx⟩:=Zap (show i<l.length by omega);rw [hx,ZoJ f hi,h i x hx]
 · rw [XN (by omega),XN (by rw [Zhq];exact hi)]
theorem Zt6 {α:Type} {n a:Nat} (f:Nat→α) (b:α):(vec n f).set a b=vec n (fun i=>if i=a then b else f i):=by
 refine ZoK (by simp [vec]) fun i x hx=>?_
 have hi:=ζg hx
 rw [Xp,Zhq] at hi
 rw [List.getElem?_set] at hx
 split at hx
 · rename_i e;subst e;split at hx
   · cases hx;simp
   · cases hx
 · rename_i e;rw [ZoJ f hi] at hx
   cases hx;rw [if_neg (fun h=>e h.symm)]
theorem ZfC {α:Type} {n:Nat} {f g:Nat→α} (h:∀i,i<n→f i=g i):vec n f=vec n g:=
 Vs fun i hi=>h i (Vd.1 hi)
theorem Znp {α:Type} (n:Nat) (x:α):List.replicate n x=vec n (fun _=>x):=by
 refine ZoK (by simp) fun i y hy=>?_
 rw [UL] at hy
 split at hy
 · cases hy;rfl
 · cases hy
theorem ZAY {α β:Type} (n:Nat) (f:Nat→α) (g:α→β):(vec n f).map g=vec n (fun i=>g (f i)):=by simp [vec,Function.comp_def]
def Closed (n:Nat) (f T:Nat→Nat→Bool):Prop:=(∀i j,i<n→j<n→f i j=true→T i j=true)∧∀i j k,i<n→j<n→k<n→T i j=true→T j k=true→T i k=true
def cntF (n:Nat) (f:Nat→Bool):Nat:=((List.range n).filter fun i=> !f i).length
def cntM (n:Nat) (f:Nat→Nat→Bool):Nat:=((List.range n).map fun i=>cntF n (f i)).sum
structure Grows (n:Nat) (E R:Nat→Nat→Bool):Prop where
 lo:∀i j,i<n→j<n→E i j=true→R i j=true
 hi:∀T,Closed n E T→∀i j,i<n→j<n→R i j=true→T i j=true
def Before (a b c a' b' c':Nat):Prop:=a'<a∨(a'=a∧(b'<b∨(b'=b∧c'<c)))
structure Pass (n:Nat) (E R0 R:Nat→Nat→Bool) (ag:Bool) (a b c:Nat):Prop where
 gr:Grows n E R
 dn:ag=true→cntM n R<cntM n R0
 st:ag=false→R=R0∧∀a' b' c',a'<n→b'<n→c'<n→Before a b c a' b' c'→R0 a' b'=true→R0 b' c'=true→R0 a' c'=true
def Conn (l:List Int) (r:Int→Int→Bool) (x y:Int):Prop:=∀P:Int→Prop,(∀a b,a∈l→b∈l→(r a b=true∨r b a=true)→P a→P b)→P x→P y
theorem nodup_len {α:Type} [BEq α] [LawfulBEq α]:∀{l m:List α},l.Nodup→(∀x∈l,x∈m)→l.length≤m.length
 |[],m,_,_=>Xe _
 | x ::l,m,h,hs=>by
   rw [Vf] at h;have hx:=hs x (by simp);have h1:=nodup_len (l:=l) (m:=m.erase x) h.2 fun y hy=>by
    have hne:y≠x:=fun e=>h.1 (e▸hy);exact (List.mem_erase_of_ne hne).2 (hs y (by simp [hy]))
   rw [UM hx] at h1;have:=List.length_pos_of_mem hx;simp only [Xj];omega
structure Comps (l:List Int) (r:Int→Int→Bool) (cs:List (List Int)):Prop where
 mem:∀x,x∈cs.flatten↔x∈l
 nd:cs.flatten.Nodup
 ne:∀c∈cs,c≠[]
 asc:∀c∈cs,c.Pairwise (· < ·)
 conn:∀c∈cs,∀x∈c,∀y∈c,Conn l r x y
 clos:∀c∈cs,∀x∈c,∀y∈l,(r x y=true∨r y x=true)→y∈c
 ord:cs.Pairwise fun c d=>∀x y,c.head? =some x→d.head? =some y→x<y
structure Part (l:List Int) (r:Int→Int→Bool) (cs:List (List Int)) (k:Nat):Prop where
 sub:∀x∈cs.flatten,x∈l
 did:∀j x,j<k→l[j]? =some x→x∈cs.flatten
 nd:cs.flatten.Nodup
 ne:∀c∈cs,c≠[]
 asc:∀c∈cs,c.Pairwise (· < ·)
 conn:∀c∈cs,∀x∈c,∀y∈c,Conn l r x y
 clos:∀c∈cs,∀x∈c,∀y∈l,(r x y=true∨r y x=true)→y∈c
 ord:cs.Pairwise fun c d=>∀x y,c.head? =some x→d.head? =some y→x<y
 hd:∀c∈cs,∀x,c.head? =some x→∃j,j<k∧l[j]? =some x
structure Mk (l:List Int) (r:Int→Int→Bool) (cs:List (List Int)) (first:Int) (tk cl:List Int) (i q:Nat):Prop where
 tkm:∀z,z∈tk↔z∈cs.flatten∨z∈cl
 nd:(cs.flatten++cl).Nodup
 sub:∀z∈cl,z∈l
 con:∀z∈cl,Conn l r first z
 fst:first∈cl
 il:i≤cl.length
 did:∀j x,j<i→cl[j]? =some x→∀y∈l,(r x y=true∨r y x=true)→y∈tk
 now:∀x,cl[i]? =some x→∀p y,p<q→l[p]? =some y→(r x y=true∨r y x=true)→y∈tk
def sumTo:Nat→(Nat→Nat)→Nat
 |0,_=>0
 |n+1,f=>sumTo n f+f n
def marked (n:Nat) (I:Nat→Bool):List Int:=((List.range n).map fun i:Nat=>(i:Int)).filter fun x=>I x.toNat
structure LabOk (n:Nat) (I:Nat→Bool) (r:Int→Int→Bool) (lab:Nat→Nat):Prop where
 le:∀i,i<n→lab i≤i
 inn:∀i,i<n→I i=true→I (lab i)=true
 conn:∀i,i<n→I i=true→Conn (marked n I) r (lab i) i
def good (n:Nat) (I:Nat→Bool) (t:Nat→Nat→Bool) (lab:Nat→Nat) (a b:Nat):Prop:=a≠b→I a=true→I b=true→t a b=true→lab a=lab b
structure LabPass (n:Nat) (I:Nat→Bool) (r:Int→Int→Bool) (t:Nat→Nat→Bool) (lab0 lab:Nat→Nat) (ag:Bool) (a b:Nat):Prop where
 ok:LabOk n I r lab
 les:ag=true→sumTo n lab<sumTo n lab0
 eq:ag=false→lab=lab0∧∀x y,(x<a∧y<n∨x=a∧y<b)→good n I t lab x y
structure Fix (n:Nat) (I:Nat→Bool) (r:Int→Int→Bool) (t:Nat→Nat→Bool) (lab:Nat→Nat):Prop where
 ok:LabOk n I r lab
 st:∀x y,x<n→y<n→good n I t lab x y
end Go.Cb
namespace Go.Proofs.YtgfabnhpllkebaaGreatDoor
open Go.RowKit Go.Cb Go.En
set_option linter.all false
theorem ZlD {a b:Int}:ZgW a b<0↔a<b:=by unfold ZgW;split<;>(try split)<;>omega
theorem ZfD {a b:Int}:ZgW a b=0↔a=b:=by unfold ZgW;split<;>(try split)<;>omega
theorem ZfE {a b:Mv}:ZdK a b=true↔a.src<b.src∨(a.src=b.src∧(a.sym<b.sym∨(a.sym=b.sym∧a.dst<b.dst))):=by
 unfold ZdK Zea
 rw [decide_eq_true_eq]
 by_cases h1:ZgW a.src b.src=0
 · have e1:=ZfD.1 h1;by_cases h2:ZgW a.sym b.sym=0
   · have e2:=ZfD.1 h2;have h3:=ZlD (a:=a.dst) (b:=b.dst);by_cases h4:ZgW a.dst b.dst=0
     · have e4:=ZfD.1 h4;simp only [Zc5,h1,h2,h4,if_true];omega
     · simp only [Zc5,h1,h2,h4,if_true,if_false];omega
   · have h3:=ZlD (a:=a.sym) (b:=b.sym);have h4:¬a.sym=b.sym:=fun e=>h2 (ZfD.2 e);simp only [Zc5,h1,h2,if_true,if_false];omega
 · have h3:=ZlD (a:=a.src) (b:=b.src);have h4:¬a.src=b.src:=fun e=>h1 (ZfD.2 e);simp only [Zc5,h1,if_false];omega
theorem ZlE {α:Type} {r:α→α→Bool} {l:List α} (h:Zbz r l=true) (hi:∀a∈l,r a a=false) (ht:∀a∈l,∀b∈l,∀c∈l,r a b=true→r b c=true→r a c=true):l.Pairwise fun a b=>r a b=true:=by
 induction l with
 |nil=>exact .nil
 | cons x l ih=>
   have h1:∀i a b,(x::l)[i]? =some a→(x::l)[i+1]? =some b→r a b=true:=(Zex r _).1 h;have h2:=ih ((Zex r l).2 fun i a b ha hb=>h1 (i+1) a b ha hb) (fun a ha=>hi a (Xn _ ha)) (fun a ha b hb c hc=>ht a (Xn _ ha) b (Xn _ hb) c (Xn _ hc));refine XK.2 ⟨fun y hy=>?_,h2⟩
   cases l with
   |nil=>simp at hy
   | cons z l=>
     have h3:=h1 0 x z rfl rfl;rcases Xl.1 hy with rfl|hy2
     · exact h3
     · exact ht x (by simp) z (by simp) y (Xn _ hy) h3 ((XK.1 h2).1 y hy2)
structure AOk (a:Aut):Prop where
 n0:0≤a.n
 n1:a.n≤2000
 s0:0≤a.syms
 s1:a.syms≤40
 ml:a.moves.length≤20000
 st:InS a a.start
 fi:InS a a.fin
 sl:a.start.length≤2000
 fl:a.fin.length≤2000
 mv:∀m∈a.moves,0≤m.src∧m.src<a.n∧0≤m.dst∧m.dst<a.n∧-1≤m.sym∧m.sym<a.syms
theorem AOk.mi {a:Aut} (h:AOk a):Zfy a:=fun m hm=>by have:=h.mv m hm;omega
theorem ZoL {n:Int} {l:List Int} (h:Zga n l=true):∀s∈l,0≤s∧s<n:=fun s hs=>by
 unfold Zga at h
 simp only [Xg,XD,decide_eq_true_eq] at h
 exact h.1 s hs
theorem ZqL {n:Int} {l:List Int} (h:Zga n l=true) (h0:0≤n) (hn:n≤2000):l.length≤2000:=by
 have h1:=ZoL h
 unfold Zga at h
 simp only [Xg] at h
 have h2:=ZlE h.2 (fun a _=>by unfold ltI;exact decide_eq_false (by omega)) (fun a _ b _ c _ h1 h2=>by
  unfold ltI at*;simp only [decide_eq_true_eq] at*;omega)
 have:=nodup_len 2000 l (h2.imp fun h=>by unfold ltI at h;simp only [decide_eq_true_eq] at h;omega) fun s hs=>by have:=h1 s hs;omega
 exact this
theorem Zfd {a:Aut} (h:Zaa a=true):AOk a:=by
 unfold Zaa at h
 simp only [Xg,decide_eq_true_eq] at h
 obtain ⟨⟨⟨⟨⟨⟨⟨⟨h1,h2⟩,h3⟩,h4⟩,h5⟩,h6⟩,h7⟩,h8⟩,h9⟩:=h
 refine ⟨h1,h2,h3,h4,h5,ZoL h6,ZoL h7,ZqL h6 h1 h2,ZqL h7 h1 h2,fun m hm=>?_⟩
 have:=XD.1 h8 m hm
 unfold Zlq at this
 simp only [Xg,decide_eq_true_eq] at this
 omega
set_option maxRecDepth 100000
theorem Zyb {a:Aut} (h:0≤a.n):ζS a= .agg [pInt (a.n.toNat:Nat),pInt a.syms,pInts a.start,pInts a.fin,pMvs a.moves]:=by
 unfold ζS;rw [show ((a.n.toNat:Nat):Int)=a.n by omega]
def FinK (a:Aut) (k:Nat) (L:List Int):Prop:=L.length=a.n.toNat∧∀s,s<a.n.toNat→L[s]? =some (if (a.fin.take k).any (fun t=>decide (t=(s:Nat))) then 0 else-1)
theorem FinK.start {a:Aut} {L:List Int} (hl:L.length=a.n.toNat) (h:∀j,j<L.length→L[j]? =some (-1)):FinK a 0 L:=⟨hl,fun s hs=>by rw [h s (by omega)];rfl⟩
theorem FinK.step {a:Aut} {k:Nat} {L:List Int} {t:Int} (h:FinK a k L) (ht:a.fin[k]? =some t) (h0:0≤t):FinK a (k+1) (L.set t.toNat 0):=by
 refine ⟨by rw [Xp];exact h.1,fun s hs=>?_⟩
 rw [ζQ ht,List.any_append]
 by_cases e:t.toNat=s
 · subst e;rw [X5 (by rw [h.1];exact hs)];simp only [List.any_cons,List.any_nil,VF];rw [decide_eq_true (show t=((t.toNat:Nat):Int) by omega),Bool.or_true];rfl
 · rw [X6 e,h.2 s hs];simp only [List.any_cons,List.any_nil,VF];rw [decide_eq_false (show ¬t=(s:Int) by omega),VF]
theorem FinK.done {a:Aut} {k:Nat} {L:List Int} (h:FinK a k L) (hk:a.fin.length≤k):L=Zbs a 0:=by
 apply Vn
 intro s
 rcases Xv s a.n.toNat with hs|hs
 · rw [h.2 s hs,show (Zbs a 0)[s]? =_ from ZsM hs,Xo hk];rfl
 · rw [XN (by rw [h.1];exact hs),XN (by rw [(Zfz a 0).len];exact hs)]
structure PassI (a:Aut) (far0 L:List Int) (fl:Bool) (i:Nat):Prop where
 eq:L=passF (a.moves.take i) far0
 ok:FarOk a.n.toNat L
 no:fl=false→L=far0
 yes:fl=true→sumF a.n.toNat L<sumF a.n.toNat far0
theorem PassI.start {a:Aut} {far0:List Int} (h:FarOk a.n.toNat far0):PassI a far0 far0 false 0:=⟨rfl,h,fun _=>rfl,fun h=>Bool.noConfusion h⟩
theorem PassI.set {a:Aut} {far0 L:List Int} {fl:Bool} {i:Nat} {m:Mv} {d e d':Int} (h:PassI a far0 L fl i) (hm:a.moves[i]? =some m) (hd:L[m.dst.toNat]? =some d) (he:L[m.src.toNat]? =some e) (h0:0≤d) (h1:e<0∨d'<e) (hs:d'=Zc3 m d):PassI a far0 (L.set m.src.toNat d') true (i+1):=by
 subst hs
 have h2:=Zjl h.ok hd he h0 h1
 refine ⟨?_,h2.1,fun h=>Bool.noConfusion h,fun _=>?_⟩
 · rw [ζQ hm];unfold passF;rw [VE];show _=Zd2 (passF (a.moves.take i) far0) m;rw [←h.eq];unfold Zd2;rw [hd,he];dsimp only;rw [if_pos ⟨h0,h1⟩]
 · cases hfl:fl
   · rw [←h.no hfl];exact h2.2
   · exact Nat.lt_trans h2.2 (h.yes hfl)
theorem PassI.skip {a:Aut} {far0 L:List Int} {fl:Bool} {i:Nat} {m:Mv} {d e:Int} (h:PassI a far0 L fl i) (hm:a.moves[i]? =some m) (hd:L[m.dst.toNat]? =some d) (he:L[m.src.toNat]? =some e) (h1:¬(0≤d∧(e<0∨Zc3 m d<e))):PassI a far0 L fl (i+1):=by
 refine ⟨?_,h.ok,h.no,h.yes⟩
 rw [ζQ hm]
 unfold passF
 rw [VE]
 show _=Zd2 (passF (a.moves.take i) far0) m
 rw [←h.eq]
 unfold Zd2
 rw [hd,he]
 dsimp only
 rw [if_neg h1]
theorem PassI.done {a:Aut} {far0 L:List Int} {fl:Bool} {i:Nat} (h:PassI a far0 L fl i) (hi:a.moves.length≤i):L=passF a.moves far0:=by rw [h.eq,Xo hi]
theorem PassI.less {a:Aut} {j i:Nat} {L:List Int} {fl:Bool} (h:PassI a (Zbs a j) L fl i) (hL:L=Zbs a (j+1)):sumF a.n.toNat (Zbs a (j+1))+(if fl then 1 else 0)<sumF a.n.toNat (Zbs a j)+(if true then 1 else 0):=by
 cases hf:fl
 · have h1:=h.no hf;rw [hL] at h1;rw [h1];simp
 · have h1:=h.yes hf;rw [hL] at h1;simp;omega
theorem Zyc {n:Nat} {L:List Int} (h:FarOk n L) {i:Nat} {d:Int} (hd:L[i]? =some d): -1≤d∧d<n:=by
 have h1:=h.lo d (Xb hd)
 have h2:=h.hi d (Xb hd)
 have h3:=ZoI L
 rw [h.len] at h3
 omega
set_option maxHeartbeats 2000000 in
theorem ZoM (a : Aut) (h : AOk a):AF Tryz.prog 139 [ζS a] (· = .own 3 1 a.n.toNat ((Zbe a).map pInt)):=by
 have hn0:=h.n0
 have hn1:=h.n1
 have hml:=h.ml
 have hfl:=h.fl
 rw [Zyb h.n0]
 refine AF.of_body 80 Tryz.func139 rfl Tryz.ntmps139 (Xa rfl) ?_
 intro w0 M0 vs hl hv
 obtain ⟨v0,rfl⟩:=Zco hl
 clear hl hv
 refine nav ?_
 (refine ζa ?_<;>refine ζH 1 5 fun h1=>?_<;>refine xL 2 ζc ?_<;>refine ζd ?_)
 (refine ζa ?_<;>refine xL 11 (ζh 1 ζ5) ?_<;>(refine yL 12 (ζq 1 ζp) fun v12 h=>?_;cases h)<;>refine ZfY 13 ζn fun h13 ho13=>?_<;>refine xL 3 ζc ?_<;>refine ζd ?_)
 rw [show List.replicate a.n.toNat (PV.val (.int .i64 0))=(List.replicate a.n.toNat (0:Int)).map pInt by rw [List.map_replicate]]
 (refine ζa ?_<;>refine xL 14 ζb (xL 15 (ZaH 13 ζu) (xL 16 ζb ?_))<;>refine ζd ?_)
 refine ζy (ι:={q:Nat×List Int//q.1≤a.n.toNat∧q.2.length=a.n.toNat∧∀j,j<q.1→q.2[j]? =some (-1)}) (fun k=>⟨[(1,_,_),(2,_,_),(3,_,_),(15,_,_),(16, .int .i64 k.1.1,pInt k.1.1)],[(1,_,_),(13,h13, .own 3 1 a.n.toNat (k.1.2.map pInt))]⟩) (fun k=>a.n.toNat-k.1.1) ⟨(0,List.replicate a.n.toNat 0),Xe _,XJ,fun j hj=>by omega⟩ (fun a w H=>H.weaken ⟨rfl,rfl,rfl,rfl,rfl,trivial⟩ ⟨rfl,rfl,trivial⟩) ?_
 rintro ⟨⟨k,L⟩,hk,hLl,hL⟩
 dsimp only
 dsimp only at hk hLl hL
 have hLm:(L.map pInt).length=a.n.toNat:=by rw [Xf];exact hLl
 refine nav ?_
 (refine ζa ?_<;>refine xL 17 ζK ?_<;>refine ζd ?_)
 (first|refine cCd ?_ ?_|refine cC ?_ ?_)<;>intro hb17
 · first
   |exact bN hb17
   | (
    refine nav ?_;(refine ζa ?_<;>refine xL 18 ζb (xL 4 ζc ?_)<;>refine ζd ?_)
    (refine ζa ?_<;>refine xL 19 ζb (xL 20 ζb (xL 21 (ζv 13 ζu) ?_))<;>refine ZbQ 13 ζp Zcg ?_<;>refine ζd ?_)
    (refine ζa ?_<;>refine xL 22 ζG (xL 16 ζb ?_)<;>refine ζd ?_)
    rw [Xx,←VY];refine ζj (
     ⟨(k+1,L.set k (-1)),by dsimp only;omega,by rw [Xp];exact hLl,fun j hj=>by
       dsimp only at hj ⊢;by_cases e:k=j
       · subst e;rw [X5 (by omega)]
       · rw [X6 e];exact hL j (by omega)⟩
     ) (by dsimp only;omega) ⟨rfl,rfl,rfl,rfl,rfl,trivial⟩ ⟨rfl,rfl,trivial⟩)
 · first
   |exact bN hb17
   | (
    have hF0:FinK a 0 L:=FinK.start hLl fun j hj=>hL j (by omega);refine nav ?_;(refine ζa ?_<;>refine xL 23 (ζh 1 Zau) ?_<;>(refine yL 24 (ζq 1 ζD) fun v24 h=>?_;cases h)<;>refine xL 25 (ζU ζu) (xL 26 ζb ?_)<;>refine ζd ?_)
    refine ζy (ι:={q:Nat×List Int//q.1≤a.fin.length∧FinK a q.1 q.2}) (fun k=>⟨[(1,_,_),(2,_,_),(3,_,_),(24,_,_),(25,_,_),(26, .int .i64 k.1.1,pInt k.1.1)],[(1,_,_),(13,h13, .own 3 1 a.n.toNat (k.1.2.map pInt))]⟩) (fun k=>a.fin.length-k.1.1) ⟨(0,L),Xe _,hF0⟩ (fun a w H=>H.weaken ⟨rfl,rfl,rfl,rfl,rfl,rfl,trivial⟩ ⟨rfl,rfl,trivial⟩) ?_;rintro ⟨⟨k8,L8⟩,hk8,hF8⟩;dsimp only;dsimp only at hk8 hF8;(have hLm8:(L8.map pInt).length=a.n.toNat:=by rw [Xf];exact hF8.1);refine nav ?_;(refine ζa ?_<;>refine xL 27 ζK ?_<;>refine ζd ?_)
    (first|refine cCd ?_ ?_|refine cC ?_ ?_)<;>intro hb27
    · first
      |exact bN hb27
      | (
       obtain ⟨t,ht⟩:=ζm (show k8<a.fin.length by omega);have e1:=Zas (f:=pInt) ht;have ht2:=h.fi t (Xb ht);refine nav ?_;(refine ζa ?_<;>refine xL 28 (ζI ζu) ?_<;>(refine yL 29 (ZaE ζp) fun v29 h=>?_;cases h)<;>refine xL 6 ζc ?_<;>refine ζd ?_)
       (refine ζa ?_<;>refine xL 30 ζb (xL 31 ζb (xL 32 (Zdp 13 ζu) ?_))<;>refine ZbQ 13 ζp Zcg ?_<;>refine ζd ?_)
       (refine ζa ?_<;>refine xL 33 ζG (xL 26 ζb ?_)<;>refine ζd ?_)
       rw [Xx,←VY];refine ζj (
        ⟨(k8+1,L8.set t.toNat 0),ζg ht,hF8.step ht ht2.1⟩
        ) (by dsimp only;omega) ⟨rfl,rfl,rfl,rfl,rfl,rfl,trivial⟩ ⟨rfl,rfl,trivial⟩)
    · first
      |exact bN hb27
      | (
       have hF9:=hF8.done (by omega);subst hF9;refine nav ?_;(refine ζa ?_<;>refine xL 7 ζc ?_<;>refine ζd ?_)
       refine ζy (ι:={q:Nat×Bool//q.2=false→passF a.moves (Zbs a q.1)=Zbs a q.1}) (fun k=>⟨[(1,_,_),(2,_,_),(3,_,_),(7, .bool k.1.2,ζV k.1.2)],[(1,_,_),(13,h13, .own 3 1 a.n.toNat ((Zbs a k.1.1).map pInt))]⟩) (fun k=>sumF a.n.toNat (Zbs a k.1.1)+(if k.1.2 then 1 else 0)) ⟨(0,true),fun h=>Bool.noConfusion h⟩ (fun a w H=>H.weaken ⟨rfl,rfl,rfl,rfl,trivial⟩ ⟨rfl,rfl,trivial⟩) ?_;rintro ⟨⟨j,ag⟩,hag⟩;dsimp only;dsimp only at hag;refine nav ?_;(refine ζa ?_<;>refine xL 34 ζb ?_<;>refine ζd ?_)
       (first|refine cCd ?_ ?_|refine cC ?_ ?_)<;>intro hb34
       · first
         |exact bN hb34
         | (
          refine nav ?_;(refine ζa ?_<;>refine xL 7 ζc ?_<;>refine ζd ?_)
          (refine ζa ?_<;>refine xL 35 (ζh 1 ζE) ?_<;>(refine yL 36 (ζq 1 ζO) fun v36 h=>?_;cases h)<;>refine xL 37 (ζU ζR) (xL 38 ζb ?_)<;>refine ζd ?_)
          refine ζy (ι:={q:Nat×List Int×Bool//q.1≤a.moves.length∧PassI a (Zbs a j) q.2.1 q.2.2 q.1}) (fun k=>⟨[(1,_,_),(2,_,_),(3,_,_),(36,_,_),(37,_,_),(7, .bool k.1.2.2,ζV k.1.2.2),(38, .int .i64 k.1.1,pInt k.1.1)],[(1,_,_),(13,h13, .own 3 1 a.n.toNat (k.1.2.1.map pInt))]⟩) (fun k=>a.moves.length-k.1.1) ⟨(0,Zbs a j,false),Xe _,PassI.start (Zfz a j)⟩ (fun a w H=>H.weaken ⟨rfl,rfl,rfl,rfl,rfl,rfl,rfl,trivial⟩ ⟨rfl,rfl,trivial⟩) ?_;rintro ⟨⟨i,L2,fl⟩,hi,hP⟩;dsimp only;dsimp only at hi hP;refine nav ?_;(refine ζa ?_<;>refine xL 39 ζK ?_<;>refine ζd ?_)
          (first|refine cCd ?_ ?_|refine cC ?_ ?_)<;>intro hb39
          · first
            |exact bN hb39
            | (
             obtain ⟨m,hm⟩:=ζm (show i<a.moves.length by omega);have e1:=Zaq Zac a.moves i m hm;have e2:=ZaP Zac hm;have hmv:=h.mv m (Xb hm);have hLl:=hP.ok.len;obtain ⟨d,hd⟩:=ζm (show m.dst.toNat<L2.length by omega);obtain ⟨e,he⟩:=ζm (show m.src.toNat<L2.length by omega);have hdb:=Zyc hP.ok hd;have heb:=Zyc hP.ok he;have e3:=Zas (f:=pInt) hd;have e4:=Zas (f:=pInt) he;(have hLm2:(L2.map pInt).length=a.n.toNat:=by rw [Xf];exact hLl);refine nav ?_;(refine ζa ?_<;>refine xL 40 (ζI ζR) ?_<;>(refine yL 41 (ZaQ ζ8) fun v41 h=>?_;cases h)<;>refine ζs [(.int .i64 0),(.int .i64 0),(.int .i64 0)] 3 9 Zdf fun h9=>?_<;>refine ζt 9 ζ8 ?_<;>refine ζd ?_)
             (refine ζa ?_<;>refine xL 42 ζb (xL 43 (ζh 9 ZaU) ?_)<;>(refine yL 44 (ζq 9 ζp) fun v44 h=>?_;cases h)<;>refine xL 45 (Zdp 13 ζu) ?_<;>(refine yL 46 (ζq 13 ζp) fun v46 h=>?_;cases h)<;>refine xL 47 ζK ?_<;>refine ζd ?_)
             (first|refine cCd ?_ ?_|refine cC ?_ ?_)<;>intro hb47
             · first
               |exact bN hb47
               | (
                refine nav ?_;(refine ζa ?_<;>refine xL 78 ζG (xL 38 ζb ?_)<;>refine ζd ?_)
                try rw [Xx,←VY]
                first
                 | (exact ζj (
                     ⟨(i+1,L2.set m.src.toNat (d+1),true),ζg hm,hP.set hm hd he (by omega) (by first|omega|(simp at hb72;omega)) (by omega)⟩
                     ) (by dsimp only;omega) ⟨rfl,rfl,rfl,rfl,rfl,rfl,rfl,trivial⟩ ⟨rfl,rfl,trivial⟩)
                 | (exact ζj (
                     ⟨(i+1,L2.set m.src.toNat d,true),ζg hm,hP.set hm hd he (by omega) (by first|omega|(simp at hb72;omega)) (by omega)⟩
                     ) (by dsimp only;omega) ⟨rfl,rfl,rfl,rfl,rfl,rfl,rfl,trivial⟩ ⟨rfl,rfl,trivial⟩)
                 | (exact ζj (
                     ⟨(i+1,L2,fl),ζg hm,hP.skip hm hd he (by first|omega|(simp at hb72;omega))⟩
                     ) (by dsimp only;omega) ⟨rfl,rfl,rfl,rfl,rfl,rfl,rfl,trivial⟩ ⟨rfl,rfl,trivial⟩))
             · first
               |exact bN hb47
               | (
                refine nav ?_;(refine ζa ?_<;>refine xL 48 ζb (xL 49 (ζh 9 ZaU) ?_)<;>(refine yL 50 (ζq 9 ζp) fun v50 h=>?_;cases h)<;>refine xL 51 (Zdp 13 ζu) ?_<;>(refine yL 52 (ζq 13 ζp) fun v52 h=>?_;cases h)<;>refine xL 10 ζc ?_<;>refine ζd ?_)
                (refine ζa ?_<;>refine xL 53 (ζh 9 Zbq) ?_<;>(refine yL 54 (ζq 9 ζp) fun v54 h=>?_;cases h)<;>refine xL 55 ZcX ?_<;>refine ζd ?_)
                (first|refine cCd ?_ ?_|refine cC ?_ ?_)<;>intro hb55
                · first
                  |exact bN hb55
                  | (
                   (have hst:Zc3 m d=d+1:=by unfold Zc3;rw [if_pos (by omega)]);refine nav ?_;(refine ζa ?_<;>refine xL 56 ζb (xL 57 ζG (xL 10 ζc ?_))<;>refine ζd ?_)
                   (refine ζa ?_<;>refine xL 58 ζb (xL 59 (ζh 9 ZaB) ?_)<;>(refine yL 60 (ζq 9 ζp) fun v60 h=>?_;cases h)<;>refine xL 61 (Zdp 13 ζu) ?_<;>(refine yL 62 (ζq 13 ζp) fun v62 h=>?_;cases h)<;>refine xL 63 ζK (xL 64 ζb ?_)<;>(refine bLd 64 (fun hb64=>?_) (fun hb64=>?_)<;>(first|refine kL 65 ?_|refine xL 65 ζb ?_))<;>(first|refine kL 66 ?_|refine xL 66 ζb ?_)<;>(first|refine kL 67 ?_|refine xL 67 (ζh 9 ZaB) ?_)<;>(first|refine kL 68 ?_|(refine yL 68 (ζq 9 ζp) fun v68 h=>?_;cases h))<;>(first|refine kL 69 ?_|refine xL 69 (Zdp 13 ζu) ?_)<;>(first|refine kL 70 ?_|(refine yL 70 (ζq 13 ζp) fun v70 h=>?_;cases h))<;>(first|refine kL 71 ?_|refine xL 71 ζK ?_)<;>refine xL 72 ζJ ?_<;>refine ζd ?_)<;>(
                    (first|refine cCd ?_ ?_|refine cC ?_ ?_)<;>intro hb72
                    · first
                      |exact bN hb72
                      | (
                       refine nav ?_;(refine ζa ?_<;>refine xL 73 ζb (xL 74 (ζh 9 ZaB) ?_)<;>(refine yL 75 (ζq 9 ζp) fun v75 h=>?_;cases h)<;>refine xL 76 ζb (xL 77 (Zdp 13 ζu) ?_)<;>refine ZbQ 13 ζp Zcg ?_<;>refine ζd ?_)
                       (refine ζa ?_<;>refine xL 7 ζc ?_<;>refine ζd ?_)
                       (refine ζa ?_<;>refine xL 78 ζG (xL 38 ζb ?_)<;>refine ζd ?_)
                       try rw [Xx,←VY]
                       first
                        | (exact ζj (
                            ⟨(i+1,L2.set m.src.toNat (d+1),true),ζg hm,hP.set hm hd he (by omega) (by first|omega|(simp at hb72;omega)) (by omega)⟩
                            ) (by dsimp only;omega) ⟨rfl,rfl,rfl,rfl,rfl,rfl,rfl,trivial⟩ ⟨rfl,rfl,trivial⟩)
                        | (exact ζj (
                            ⟨(i+1,L2.set m.src.toNat d,true),ζg hm,hP.set hm hd he (by omega) (by first|omega|(simp at hb72;omega)) (by omega)⟩
                            ) (by dsimp only;omega) ⟨rfl,rfl,rfl,rfl,rfl,rfl,rfl,trivial⟩ ⟨rfl,rfl,trivial⟩)
                        | (exact ζj (
                            ⟨(i+1,L2,fl),ζg hm,hP.skip hm hd he (by first|omega|(simp at hb72;omega))⟩
                            ) (by dsimp only;omega) ⟨rfl,rfl,rfl,rfl,rfl,rfl,rfl,trivial⟩ ⟨rfl,rfl,trivial⟩))
                    · first
                      |exact bN hb72
                      | (
                       refine nav ?_;(refine ζa ?_<;>refine xL 78 ζG (xL 38 ζb ?_)<;>refine ζd ?_)
                       try rw [Xx,←VY]
                       first
                        | (exact ζj (
                            ⟨(i+1,L2.set m.src.toNat (d+1),true),ζg hm,hP.set hm hd he (by omega) (by first|omega|(simp at hb72;omega)) (by omega)⟩
                            ) (by dsimp only;omega) ⟨rfl,rfl,rfl,rfl,rfl,rfl,rfl,trivial⟩ ⟨rfl,rfl,trivial⟩)
                        | (exact ζj (
                            ⟨(i+1,L2.set m.src.toNat d,true),ζg hm,hP.set hm hd he (by omega) (by first|omega|(simp at hb72;omega)) (by omega)⟩
                            ) (by dsimp only;omega) ⟨rfl,rfl,rfl,rfl,rfl,rfl,rfl,trivial⟩ ⟨rfl,rfl,trivial⟩)
                        | (exact ζj (
                            ⟨(i+1,L2,fl),ζg hm,hP.skip hm hd he (by first|omega|(simp at hb72;omega))⟩
                            ) (by dsimp only;omega) ⟨rfl,rfl,rfl,rfl,rfl,rfl,rfl,trivial⟩ ⟨rfl,rfl,trivial⟩))))
                · first
                  |exact bN hb55
                  | (
                   (have hst:Zc3 m d=d:=by unfold Zc3;rw [if_neg (by omega)]);refine nav ?_;(refine ζa ?_<;>refine xL 58 ζb (xL 59 (ζh 9 ZaB) ?_)<;>(refine yL 60 (ζq 9 ζp) fun v60 h=>?_;cases h)<;>refine xL 61 (Zdp 13 ζu) ?_<;>(refine yL 62 (ζq 13 ζp) fun v62 h=>?_;cases h)<;>refine xL 63 ζK (xL 64 ζb ?_)<;>(refine bLd 64 (fun hb64=>?_) (fun hb64=>?_)<;>(first|refine kL 65 ?_|refine xL 65 ζb ?_))<;>(first|refine kL 66 ?_|refine xL 66 ζb ?_)<;>(first|refine kL 67 ?_|refine xL 67 (ζh 9 ZaB) ?_)<;>(first|refine kL 68 ?_|(refine yL 68 (ζq 9 ζp) fun v68 h=>?_;cases h))<;>(first|refine kL 69 ?_|refine xL 69 (Zdp 13 ζu) ?_)<;>(first|refine kL 70 ?_|(refine yL 70 (ζq 13 ζp) fun v70 h=>?_;cases h))<;>(first|refine kL 71 ?_|refine xL 71 ζK ?_)<;>refine xL 72 ζJ ?_<;>refine ζd ?_)<;>(
                    (first|refine cCd ?_ ?_|refine cC ?_ ?_)<;>intro hb72
                    · first
                      |exact bN hb72
                      | (
                       refine nav ?_;(refine ζa ?_<;>refine xL 73 ζb (xL 74 (ζh 9 ZaB) ?_)<;>(refine yL 75 (ζq 9 ζp) fun v75 h=>?_;cases h)<;>refine xL 76 ζb (xL 77 (Zdp 13 ζu) ?_)<;>refine ZbQ 13 ζp Zcg ?_<;>refine ζd ?_)
                       (refine ζa ?_<;>refine xL 7 ζc ?_<;>refine ζd ?_)
                       (refine ζa ?_<;>refine xL 78 ζG (xL 38 ζb ?_)<;>refine ζd ?_)
                       try rw [Xx,←VY]
                       first
                        | (exact ζj (
                            ⟨(i+1,L2.set m.src.toNat (d+1),true),ζg hm,hP.set hm hd he (by omega) (by first|omega|(simp at hb72;omega)) (by omega)⟩
                            ) (by dsimp only;omega) ⟨rfl,rfl,rfl,rfl,rfl,rfl,rfl,trivial⟩ ⟨rfl,rfl,trivial⟩)
                        | (exact ζj (
                            ⟨(i+1,L2.set m.src.toNat d,true),ζg hm,hP.set hm hd he (by omega) (by first|omega|(simp at hb72;omega)) (by omega)⟩
                            ) (by dsimp only;omega) ⟨rfl,rfl,rfl,rfl,rfl,rfl,rfl,trivial⟩ ⟨rfl,rfl,trivial⟩)
                        | (exact ζj (
                            ⟨(i+1,L2,fl),ζg hm,hP.skip hm hd he (by first|omega|(simp at hb72;omega))⟩
                            ) (by dsimp only;omega) ⟨rfl,rfl,rfl,rfl,rfl,rfl,rfl,trivial⟩ ⟨rfl,rfl,trivial⟩))
                    · first
                      |exact bN hb72
                      | (
                       refine nav ?_;(refine ζa ?_<;>refine xL 78 ζG (xL 38 ζb ?_)<;>refine ζd ?_)
                       try rw [Xx,←VY]
                       first
                        | (exact ζj (
                            ⟨(i+1,L2.set m.src.toNat (d+1),true),ζg hm,hP.set hm hd he (by omega) (by first|omega|(simp at hb72;omega)) (by omega)⟩
                            ) (by dsimp only;omega) ⟨rfl,rfl,rfl,rfl,rfl,rfl,rfl,trivial⟩ ⟨rfl,rfl,trivial⟩)
                        | (exact ζj (
                            ⟨(i+1,L2.set m.src.toNat d,true),ζg hm,hP.set hm hd he (by omega) (by first|omega|(simp at hb72;omega)) (by omega)⟩
                            ) (by dsimp only;omega) ⟨rfl,rfl,rfl,rfl,rfl,rfl,rfl,trivial⟩ ⟨rfl,rfl,trivial⟩)
                        | (exact ζj (
                            ⟨(i+1,L2,fl),ζg hm,hP.skip hm hd he (by first|omega|(simp at hb72;omega))⟩
                            ) (by dsimp only;omega) ⟨rfl,rfl,rfl,rfl,rfl,rfl,rfl,trivial⟩ ⟨rfl,rfl,trivial⟩))))))
          · first
            |exact bN hb39
            | (
             have hL2:L2=Zbs a (j+1):=hP.done (by omega);(have hms:sumF a.n.toNat (Zbs a (j+1))+(if fl then 1 else 0)<sumF a.n.toNat (Zbs a j)+(if ag then 1 else 0):=by rw [show ag=true from hb34];exact hP.less hL2);refine nav ?_;rw [hL2];refine ζj (
              ⟨(j+1,fl),fun hf=>by
                have h1:=hP.no hf;rw [hL2] at h1;show passF a.moves (Zbs a (j+1))=Zbs a (j+1);rw [h1];exact h1⟩
              ) (hms) ⟨rfl,rfl,rfl,rfl,trivial⟩ ⟨rfl,rfl,trivial⟩))
       · first
         |exact bN hb34
         | (
          refine nav ?_;(refine ζa ?_<;>refine xL 79 ζb (xL 2 ζc ?_)<;>refine ζd ?_)
          refine Zb8 13 (Tryz.results139) rfl rfl ?_;rw [ZAW (hag (by simpa using hb34))])))
theorem ZdP:ElT Tryz.prog 139 4 1 1 (.bool false):=⟨Tryz.underlying139,by kernel_rfl,rfl,by decide⟩
theorem ZlF:ElT Tryz.prog 194 37 1 24 (.slice none 0 0):=⟨Tryz.underlying194,by kernel_rfl,rfl,by decide⟩
theorem Zaj:ElT Tryz.prog 37 93 3 24 (.agg #[(.int .i64 0),(.int .i64 0),(.int .i64 0)]):=⟨Tryz.underlying37,by kernel_rfl,rfl,by decide⟩
theorem ZlG:ZbX Tryz.prog 196=some ((.agg #[(.int .i64 0),(.slice none 0 0),(.slice none 0 0)]),([0,1,2]:List Nat).map fun o=>(o,1)):=by kernel_rfl
theorem Zby:(Tryz.prog.info? 37).map (·.size)=some 1:=by kernel_rfl
theorem Zyd:(Tryz.prog.info? 4).map (·.size)=some 1:=by kernel_rfl
def ZqM (e:Nat) (l:List Mv):PV:= .own e 3 l.length (l.flatMap cMv)
theorem ZvE (e:Nat) (l:List Mv):share (ZqM e l)=pMvs l:=by
 unfold ZqM
 rw [share,Zai,V8];rfl
def Zei (ms:List Mv) (s:Nat):List Mv:=ms.filter fun m=>decide (m.src=(s:Int))
def ZdQ (e n:Nat) (ms:List Mv):List PV:=(List.range n).map fun s=>ZqM e (Zei ms s)
theorem ZcD (e n:Nat) (ms:List Mv):(ZdQ e n ms).length=n:=by unfold ZdQ;simp
theorem Zhr (e:Nat) {n s:Nat} (ms:List Mv) (h:s<n):(ZdQ e n ms)[s]? =some (ZqM e (Zei ms s)):=by
 unfold ZdQ;rw [Xm,Ub h];rfl
theorem ZqN (e:Nat) {n:Nat} {ms:List Mv} {m:Mv} (h0:0≤m.src) (h:m.src<n):(ZdQ e n ms).set m.src.toNat (ZqM e (Zei ms m.src.toNat++[m]))=ZdQ e n (ms++[m]):=by
 apply Vn
 intro s
 rcases Xv s n with hs|hs
 · rw [Zhr e _ hs];by_cases e1:m.src.toNat=s
   · subst e1;rw [X5 (by rw [ZcD];exact hs)];congr 2;unfold Zei;rw [Vh];congr 1;simp only [List.filter_cons,List.filter_nil];rw [decide_eq_true (show m.src=((m.src.toNat:Nat):Int) by omega)];rfl
   · rw [X6 e1,Zhr e _ hs];congr 2;unfold Zei;rw [Vh];simp only [List.filter_cons,List.filter_nil];rw [decide_eq_false (show ¬m.src=(s:Int) by omega)];simp
 · rw [XN (by rw [Xp,ZcD];exact hs),XN (by rw [ZcD];exact hs)]
theorem Zye (e n:Nat):∀(i:Nat) (p p':PV),(List.replicate n (PV.val (.slice none 0 0)))[i]? =some p→(ZdQ e n [])[i]? =some p'→ZCb p p':=fun i p p' h1 h2=>by
 have hi:=ζg h2
 rw [ZcD] at hi
 rw [Zhr e _ hi] at h2
 rw [UL,if_pos hi] at h1
 cases h1;cases h2
 exact .inr ⟨rfl,e,3,rfl⟩
theorem ZqO (ms:List Mv) (s:Nat):(Zei ms s).length≤ms.length:=V9 _ _
def ZhP (a:Aut) (k:Nat):List PV:=(List.range a.n.toNat).map fun s=>ζV ((a.fin.take k).any fun t=>decide (t=(s:Nat)))
theorem ZfF (a:Aut) (k:Nat):(ZhP a k).length=a.n.toNat:=by unfold ZhP;simp
theorem ZlH {a:Aut} {k s:Nat} (h:s<a.n.toNat):(ZhP a k)[s]? =some (ζV ((a.fin.take k).any fun t=>decide (t=(s:Nat)))):=by
 unfold ZhP;rw [Xm,Ub h];rfl
theorem ZsP {a:Aut} {k:Nat} {t:Int} (ht:a.fin[k]? =some t) (h0:0≤t):(ZhP a k).set t.toNat (ζV true)=ZhP a (k+1):=by
 apply Vn
 intro s
 rcases Xv s a.n.toNat with hs|hs
 · rw [ZlH hs];rw [ζQ ht,List.any_append];simp only [List.any_cons,List.any_nil,VF];by_cases e:t.toNat=s
   · subst e;rw [X5 (by rw [ZfF];exact hs),decide_eq_true (show t=((t.toNat:Nat):Int) by omega),Bool.or_true]
   · rw [X6 e,ZlH hs,decide_eq_false (show ¬t=(s:Int) by omega),VF]
 · rw [XN (by rw [Xp,ZfF];exact hs),XN (by rw [ZfF];exact hs)]
theorem ZsQ (a:Aut):List.replicate a.n.toNat (PV.val (.bool false))=ZhP a 0:=by
 apply Vn
 intro s
 rcases Xv s a.n.toNat with hs|hs
 · rw [ZlH hs,UL,if_pos hs];rfl
 · rw [XN (by rw [XJ];exact hs),XN (by rw [ZfF];exact hs)]
theorem Zyf (e0 e1 e2:Nat) (a:Aut) {k1 k2:Nat} (h1:a.moves.length≤k1) (h2:a.fin.length≤k2):ZdD [pInt a.syms,PV.own e0 1 a.n.toNat (ZdQ e1 a.n.toNat (a.moves.take k1)),PV.own e2 1 a.n.toNat (ZhP a k2)]=[pInt a.syms,ZoF a,Zx2 a]:=by
 rw [Xo h1]
 simp only [ZdD,share]
 congr 1
 congr 1
 · unfold ZoF ZdQ;rw [Zai,XE];congr 1;exact Vs fun s _=>ZvE e1 _
 · congr 1;unfold Zx2 ZhP;rw [Zai,XE,Xo h2];rfl
theorem Zyg (e:Nat) (L:List Mv) (x:Mv):PV.own e 3 (L.length+1) (L.flatMap cMv++cMv x)=ZqM e (L++[x]):=by unfold ZqM;simp
set_option maxHeartbeats 2000000 in
theorem Zgg (a:Aut) (h:AOk a):AF Tryz.prog 110 [ζS a] (· =pGr a):=by
 have hn0:=h.n0
 have hn1:=h.n1
 have hml:=h.ml
 have hfl:=h.fl
 rw [Zyb h.n0]
 refine AF.of_body 59 Tryz.func110 rfl Tryz.ntmps110 (Xa rfl) ?_
 intro w0 M0 vs hl hv
 obtain ⟨v0,rfl⟩:=Zco hl
 clear hl hv
 refine nav ?_
 (refine ζa ?_<;>refine ζH 1 5 fun h1=>?_<;>refine xL 2 ζc ?_<;>refine ζd ?_)
 (refine ζY (fun i=>([]:List Nat).elem i) [1] kR ?_<;>refine xD 0 8 rfl (ζh 1 Zao) ?_<;>(refine yD 1 9 rfl (ζq 1 ζp) fun v9 h=>?_;cases h)<;>refine xD 2 10 rfl (ζh 1 ζ5) ?_<;>(refine yD 3 11 rfl (ζq 1 ζp) fun v11 h=>?_;cases h)<;>refine xD 5 13 rfl (ζh 1 ζ5) ?_<;>(refine yD 6 14 rfl (ζq 1 ζp) fun v14 h=>?_;cases h)<;>(refine Zad 4 7 kR ?_ ?_;rotate_right;(focus ((refine ζf rfl fun w9 M9 N9 DQ back=>?_)<;>refine ZfY 15 ZdP fun h15 ho15=>?_<;>refine ζe (back _ (nrm ?_))<;>(refine ζi 4 kR ?_)<;>(refine ζf rfl fun w9 M9 N9 DQ back=>?_)<;>refine ZfY 12 ZlF fun h12 ho12=>?_<;>refine ζe (back _ (nrm ?_))<;>refine xE 8 16 rfl (ζB ZlG) ?_<;>(refine ζi 9 kR ?_)<;>(refine ζf rfl fun w9 M9 N9 DQ back=>?_)<;>refine ζH 17 3 fun h17=>?_<;>refine ζe (back _ (nrm ?_))<;>(refine ζi 10 kR ?_)<;>(refine ζf rfl fun w9 M9 N9 DQ back=>?_)<;>refine xL 3 ζc ?_<;>refine ζe (back _ (nrm ?_))));rotate_right;(focus ((refine ζf rfl fun w9 M9 N9 DQ back=>?_)<;>refine ZfY 12 ZlF fun h12 ho12=>?_<;>refine ζe (back _ (nrm ?_))<;>(refine ζi 7 kR ?_)<;>(refine ζf rfl fun w9 M9 N9 DQ back=>?_)<;>refine ZfY 15 ZdP fun h15 ho15=>?_<;>refine ζe (back _ (nrm ?_))<;>refine xE 8 16 rfl (ζB ZlG) ?_<;>(refine ζi 9 kR ?_)<;>(refine ζf rfl fun w9 M9 N9 DQ back=>?_)<;>refine ζH 17 3 fun h17=>?_<;>refine ζe (back _ (nrm ?_))<;>(refine ζi 10 kR ?_)<;>(refine ζf rfl fun w9 M9 N9 DQ back=>?_)<;>refine xL 3 ζc ?_<;>refine ζe (back _ (nrm ?_)))))<;>refine Zam kR (nav ?_)<;>try dsimp only)<;>(
  refine ζw (Zey (l:=12) (ZdQ 93 a.n.toNat []) rfl (by rw [ZcD,XJ]) (Zye _ _)) fun _=>?_;rw [ZsQ a];(refine ζa ?_<;>refine xL 18 (ζh 1 ζE) ?_<;>(refine yL 19 (ζq 1 ζO) fun v19 h=>?_;cases h)<;>refine xL 20 (ζU ζR) (xL 21 ζb ?_)<;>refine ζd ?_)
  refine ζy (ι:={q:Nat//q≤a.moves.length}) (fun k=>⟨[(1,_,_),(2,_,_),(3,_,_),(19,_,_),(20,_,_),(21, .int .i64 k.1,pInt k.1)],[(1,_,_),(15,_,_),(17,h17, .own 196 3 1 [pInt a.syms, .val h12, .val h15]),(12,h12, .own 37 1 a.n.toNat (ZdQ 93 a.n.toNat (a.moves.take k.1)))]⟩) (fun k=>a.moves.length-k.1) ⟨0,Xe _⟩ (fun a w H=>H.weaken ⟨rfl,rfl,rfl,rfl,rfl,rfl,trivial⟩ ⟨rfl,rfl,rfl,rfl,trivial⟩) ?_;rintro ⟨k,hk⟩;dsimp only;refine nav ?_;(refine ζa ?_<;>refine xL 22 ζK ?_<;>refine ζd ?_)
  (first|refine cCd ?_ ?_|refine cC ?_ ?_)<;>intro hb22
  · first
    |exact bN hb22
    | (
     obtain ⟨m,hm⟩:=ζm (show k<a.moves.length by omega);have e1:=Zaq Zac a.moves k m hm;have e2:=ZaP Zac hm;have hmv:=h.mv m (Xb hm);(have hi:m.src.toNat<a.n.toNat:=by omega);refine nav ?_;(refine ζa ?_<;>refine xL 23 (ζI ζR) ?_<;>(refine yL 24 (ZaQ ζ8) fun v24 h=>?_;cases h)<;>refine ζs [(.int .i64 0),(.int .i64 0),(.int .i64 0)] 3 5 Zdf fun h5=>?_<;>refine ζt 5 ζ8 ?_<;>refine ζd ?_)
     refine ζw (Zez (l:=12) (l':=201) (j:=m.src.toNat) rfl (Zhr _ _ hi) rfl rfl) fun i=>?_;obtain ⟨m1,hm1⟩:=i;dsimp only;(have e3:((ZdQ 93 a.n.toNat (a.moves.take k)).set m.src.toNat (.val m1))[m.src.toNat*1]? =some (.val m1):=by rw [Xx,X5 (by rw [ZcD];exact hi)]);(have e4:((ZdQ 93 a.n.toNat (a.moves.take k)).set m.src.toNat (.val m1)).length=a.n.toNat:=by rw [Xp,ZcD]);have e5:=ZqO (a.moves.take k) m.src.toNat;rw [Xu] at e5;(refine ζY (fun i=>([18]:List Nat).elem i) [5,12,17] kR ?_<;>refine xD 0 25 rfl ζb ?_<;>refine xD 1 26 rfl (Zsd 17) ?_<;>refine xD 2 27 rfl (ζh 17 ZcS) ?_<;>(refine yD 3 28 rfl (ζq 17 ZdL) fun v28 h=>?_;cases h)<;>refine xD 4 29 rfl (ζh 5 ZaB) ?_<;>(refine yD 5 30 rfl (ζq 5 ζp) fun v30 h=>?_;cases h)<;>refine xD 6 31 rfl ζb ?_<;>refine xD 7 32 rfl (Zsd 17) ?_<;>refine xD 8 33 rfl (ζh 17 ZcS) ?_<;>(refine yD 9 34 rfl (ζq 17 ZdL) fun v34 h=>?_;cases h)<;>refine xD 10 35 rfl (ζh 5 ZaB) ?_<;>(refine yD 11 36 rfl (ζq 5 ζp) fun v36 h=>?_;cases h)<;>refine xD 12 37 rfl (Zdp 12 ZdM) ?_<;>(refine yD 13 38 rfl (ζq 12 ζO) fun v38 h=>?_;cases h)<;>(refine yE 14 39 rfl (ζk 5 ζ8) fun v39 h=>?_;cases h)<;>(refine ζi 15 kR ?_)<;>(refine ζf rfl fun w9 M9 N9 DQ back=>?_)<;>refine Zaw 40 Zaj fun h40 ho40=>?_<;>refine ζe (back _ (nrm ?_))<;>(refine ζi 16 kR ?_)<;>(refine ζf rfl fun w9 M9 N9 DQ back=>?_)<;>refine ζ0 201 40 41 Zaj fun h41 ho41=>?_<;>refine ζe (back _ (nrm ?_))<;>refine xE 17 42 rfl (Zdp 12 ZdM) ?_<;>(refine ζi 18 kR ?_)<;>(refine Zil rfl rfl kR fun DQ back=>?_)<;>refine ZbQ 12 ζO Zby ?_<;>refine ζe (back _ (nav ?_))<;>try dsimp only)
     (refine ζa ?_<;>refine xL 43 ζG (xL 21 ζb ?_)<;>refine ζd ?_)
     refine Zbn (ZCE (l:=12) (l':=41) (j:=m.src.toNat) rfl (by rw [Xx];exact X5 (by rw [Xp,ZcD];exact hi)) rfl rfl) fun _=>?_;rw [Xx,List.set_set,List.set_set];rw [show List.take 3 (List.drop 0 (ZdU (List.map PV.val [Value.int IntKind.i64 0,Value.int IntKind.i64 0,Value.int IntKind.i64 0]) 0 (cMv m)))=cMv m from rfl];rw [show PV.own 93 3 ((Zei (a.moves.take k) m.src.toNat).length+1) ((Zei (a.moves.take k) m.src.toNat).flatMap cMv++cMv m)=ZqM 93 (Zei (a.moves.take k) m.src.toNat++[m]) from Zyg _ _ _];rw [ZqN _ (by omega) (by omega),←ζQ hm];refine ζj (
      ⟨k+1,ζg hm⟩
      ) (by dsimp only;omega) ⟨rfl,rfl,rfl,rfl,rfl,rfl,trivial⟩ ⟨rfl,rfl,rfl,rfl,trivial⟩)
  · first
    |exact bN hb22
    | (
     refine nav ?_;(refine ζa ?_<;>refine xL 44 (ζh 1 Zau) ?_<;>(refine yL 45 (ζq 1 ζD) fun v45 h=>?_;cases h)<;>refine xL 46 (ζU ζu) (xL 47 ζb ?_)<;>refine ζd ?_)
     refine ζy (ι:={q:Nat//q≤a.fin.length}) (fun k=>⟨[(1,_,_),(2,_,_),(3,_,_),(45,_,_),(46,_,_),(47, .int .i64 k.1,pInt k.1)],[(1,_,_),(12,_,_),(17,h17, .own 196 3 1 [pInt a.syms, .val h12, .val h15]),(15,h15, .own 4 1 a.n.toNat (ZhP a k.1))]⟩) (fun k=>a.fin.length-k.1) ⟨0,Xe _⟩ (fun a w H=>H.weaken ⟨rfl,rfl,rfl,rfl,rfl,rfl,trivial⟩ ⟨rfl,rfl,rfl,rfl,trivial⟩) ?_;rintro ⟨k8,hk8⟩;dsimp only;refine nav ?_;(refine ζa ?_<;>refine xL 48 ζK ?_<;>refine ζd ?_)
     (first|refine cCd ?_ ?_|refine cC ?_ ?_)<;>intro hb48
     · first
       |exact bN hb48
       | (
        obtain ⟨t,ht⟩:=ζm (show k8<a.fin.length by omega);have e1:=Zas (f:=pInt) ht;have ht2:=h.fi t (Xb ht);have e6:=ZfF a k8;refine nav ?_;(refine ζa ?_<;>refine xL 49 (ζI ζu) ?_<;>(refine yL 50 (ZaE ζp) fun v50 h=>?_;cases h)<;>refine xL 7 ζc ?_<;>refine ζd ?_)
        (refine ζa ?_<;>refine xL 51 ζb (xL 52 (Zsd 17) (xL 53 (ζh 17 Zeg) ?_))<;>(refine yL 54 (ζq 17 ZbB) fun v54 h=>?_;cases h)<;>refine xL 55 ζb (xL 56 (Zdp 15 Zcb) ?_)<;>refine ZbQ 15 ZeD Zyd ?_<;>refine ζd ?_)
        (refine ζa ?_<;>refine xL 57 ζG (xL 47 ζb ?_)<;>refine ζd ?_)
        rw [Xx,ZsP ht ht2.1];refine ζj (
         ⟨k8+1,ζg ht⟩
         ) (by dsimp only;omega) ⟨rfl,rfl,rfl,rfl,rfl,rfl,trivial⟩ ⟨rfl,rfl,rfl,rfl,trivial⟩)
     · first
       |exact bN hb48
       | (
        refine nav ?_;(refine ζa ?_<;>refine xL 58 ζb (xL 2 ζc ?_)<;>refine ζd ?_)
        refine Za2 (ZCE (l:=17) (l':=12) (j:=1) rfl rfl rfl rfl) fun _=>?_;refine Za2 (ZCE (l:=17) (l':=15) (j:=2) rfl rfl rfl rfl) fun _=>?_;refine Za2 (ZkC (l:=17) (t:=2) (j:=0) rfl Nat.one_pos rfl) fun _=>?_;refine ζx (Tryz.results110) rfl ?_;exact congrArg (PV.sptr 0) (Zyf _ _ _ a (by omega) (by omega)))))
theorem Zkb:AggT Tryz.prog 182 2=true:=by kernel_rfl
theorem ζo:AggT Tryz.prog 39 5=true:=by kernel_rfl
theorem Zcc:ElT Tryz.prog 117 36 1 24 (.slice none 0 0):=⟨Tryz.underlying117,by kernel_rfl,rfl,by decide⟩
theorem ZeG:ElT Tryz.prog 183 182 2 48 (.agg #[(.slice none 0 0),(.slice none 0 0)]):=⟨Tryz.underlying183,by kernel_rfl,rfl,by decide⟩
theorem Zgh:FldT Tryz.prog 182 0 0=true:=by kernel_rfl
theorem Zgi:FldT Tryz.prog 182 1 1=true:=by kernel_rfl
theorem ZaN:SlT Tryz.prog 117 36 1=true:=by kernel_rfl
theorem ZdR:SlT Tryz.prog 183 182 2=true:=by kernel_rfl
theorem Zh7:ZbX Tryz.prog 182=some ((.agg #[(.slice none 0 0),(.slice none 0 0)]),([0,1]:List Nat).map fun o=>(o,1)):=by kernel_rfl
theorem ZsR:ZeroT Tryz.prog 182 (.agg #[(.slice none 0 0),(.slice none 0 0)]):=by unfold ZeroT;kernel_rfl
def cPf (p:Pf):List PV:=[pInts p.1,pInts p.2]
theorem Zt7 (p:Pf):(cPf p).length=2:=rfl
theorem Zt8 (e:Nat) (L:List Pf) (x:Pf):PV.own e 2 (L.length+1) (L.flatMap cPf++cPf x)= .own e 2 (L++[x]).length ((L++[x]).flatMap cPf):=by simp
theorem Zyh (e:Nat) (L:List (List Int)) (x:List Int):PV.own e 1 (L.length+1) (L.map pInts++[pInts x])= .own e 1 (L++[x]).length ((L++[x]).map pInts):=by simp
theorem ZqP (e n:Nat) (l:List (List Int)) (hn:n=l.length):share (.own e 1 n (l.map pInts))=Zk5 l:=by
 subst hn
 rw [share,Zai,XE]
 unfold Zk5
 congr 1
def ZDg (a:Aut) (n:Int) (p:PV):Prop:=
 (Zaa a=false∧p= .tup [.sl 0 [],pInt 1])∨(Zaa a=true∧(n<0∨200<n)∧p= .tup [.sl 0 [],pInt 2])∨(Zaa a=true∧0≤n∧n≤200∧ZAX a n.toNat∧p= .tup [.sl 0 [],pInt 5])∨(Zaa a=true∧0≤n∧n≤200∧¬ZAX a n.toNat∧p= .tup [Zk5 (ZfA a n.toNat (n.toNat+1)),pInt 0])
theorem Zyi (a:Aut) (n:Int) (p:Pf) (c:Nat):(Zfc a n p c).length≤1:=by unfold Zfc;split<;>simp
theorem Zjm (a:Aut) (n:Int) (p:Pf):∀c,((List.range c).flatMap (Zfc a n p)).length≤c
 |0=>by simp
 | c+1=>by
   rw [Zh6,Xc];have:=Zjm a n p c;have:=Zyi a n p c;omega
theorem ZDh {a:Aut} (h:AOk a) (n k:Nat):∀p∈lvP a n k,InS a p.2∧p.2.length≤2000:=fun p hp=>by
 rw [Zt5 h.mi h.st] at hp
 obtain ⟨q,hq,rfl⟩:=Xh.1 hp
 have h1:=Zya h.mi h.st n k q hq
 refine ⟨ZkM h1 _ _,?_⟩
 have h2:Srt q.2:=by
  cases k with
  | zero=>
    simp only [lvR,Xi] at hq;subst hq;exact ZdN h.mi h.st
  | succ k=>
    rw [lvR] at hq;obtain ⟨r,_,hr⟩:=XR.1 hq;obtain ⟨c,_,hc⟩:=XR.1 hr;unfold Zx8 at hc;split at hc
    · simp only [Xi] at hc;subst hc;exact ZdN h.mi (ZcC h.mi c _)
    · simp at hc
 have h3:Srt (Zbr q.2 (Zbe a) ((n:Int)-k)):=ZlA (a:=a) h2 _ _
 have h4:=nodup_len a.n.toNat _ (h3.imp fun h=>by omega) fun s hs=>by
  have:=ZkM h1 (Zbe a) ((n:Int)-k) s hs;have:=h.n0;omega
 have:=h.n1
 show (Zbr q.2 (Zbe a) ((n:Int)-k)).length≤2000
 omega
theorem ZqQ {a:Aut} {n:Nat}:∀k,∀p∈lvP a n k,p.1.length=k
 | 0,p,hp=>by
   simp only [lvP,Xi] at hp;subst hp;rfl
 | k +1,p,hp=>by
   rw [lvP] at hp;obtain ⟨r,hr,hr2⟩:=XR.1 hp;obtain ⟨c,_,hc⟩:=XR.1 hr2;unfold Zfc at hc;split at hc
   · simp at hc
   · simp only [Xi] at hc;subst hc;rw [Xc,ZqQ k r hr];rfl
set_option maxHeartbeats 4000000 in
theorem Zyj (a : Aut) (n : Int):AF Tryz.prog 91 [ζS a,pInt n] (ZDg a n):=by
 refine AF.of_body 109 Tryz.func91 rfl Tryz.ntmps91 (Xa rfl) ?_
 intro w0 M0 vs hl hv
 obtain ⟨v0,v1,rfl⟩:=Zbl hl
 obtain rfl:=hv 1 _ _ rfl rfl
 clear hl hv
 refine nav ?_
 (refine ζa ?_<;>refine ζH 2 5 fun h2=>?_<;>refine xL 4 ζc (xL 5 ζc ?_)<;>refine ζd ?_)
 (refine ζa ?_<;>(refine yL 16 (ζk 2 ζo) fun v16 h=>?_;cases h)<;>(refine cS 17 (cA Tryz.call107 (Zbm a)) fun v17 h=>?_;cases h)<;>refine xL 18 Zav (xL 15 ζc ?_)<;>refine ζd ?_)
 (first|refine cCd ?_ ?_|refine cC ?_ ?_)<;>intro hb15
 · first
   |exact bN hb15
   | (
    refine nav ?_;(refine ζa ?_<;>refine xL 4 ζc (xL 5 ζc ?_)<;>refine ζd ?_)
    refine Za2 (Zc9 (t:=4) rfl) fun _=>?_;exact Zc8 (Tryz.results91) rfl rfl (.inl ⟨by simpa using hb15,rfl⟩))
 · first
   |exact bN hb15
   | (
    (have hok:Zaa a=true:=by simpa using hb15);have hA:=Zfd hok;have hn1:=hA.n1;have hs1:=hA.s1;have hs0:=hA.s0;refine nav ?_;(refine ζa ?_ <;> refine xL 20 ζb (xL 21 ζK (xL 22 ζb ?_))<;>(refine bLd 22 (fun hb22=>?_) (fun hb22=>?_)<;>(first|refine kL 23 ?_|refine xL 23 ζb ?_))<;>(first|refine kL 24 ?_|refine xL 24 ZaF ?_)<;>refine xL 25 ζJ (xL 19 ζc ?_)<;>refine ζd ?_)<;>(
     (first|refine cCd ?_ ?_|refine cC ?_ ?_)<;>intro hb19
     · first
       |exact bN hb19
       | (
        refine nav ?_;(refine ζa ?_<;>refine xL 4 ζc (xL 5 ζc ?_)<;>refine ζd ?_)
        refine Za2 (Zc9 (t:=4) rfl) fun _=>?_;exact Zc8 (Tryz.results91) rfl rfl (.inr (.inl ⟨hok,by first|omega|(simp at hb19;omega),rfl⟩)))
     · first
       |exact bN hb19
       | (
        (have hnb:0≤n∧n≤200:=by simp at hb19;omega);obtain ⟨N,rfl⟩:∃N:Nat,n=(N:Int):=⟨n.toNat,by omega⟩;have hfl:=(ZkL a).len;have hsb:Za3 a a.start=Za3 a a.start:=rfl;have hcl:=Zjk hA.mi hA.st;have hci:=ZgX hA.mi hA.st;refine nav ?_;(refine ζY (fun i=>([]:List Nat).elem i) [2] kR ?_<;>(refine yD 0 26 rfl (ζk 2 ζo) fun v26 h=>?_;cases h)<;>(refine yD 2 28 rfl (ζk 2 ζo) fun v28 h=>?_;cases h)<;>(refine ζi 1 kR ?_)<;>(refine ζf rfl fun w9 M9 N9 DQ back=>?_)<;>(refine cS 27 (cA Tryz.call110 (Zgg a hA)) fun v27 h=>?_;cases h)<;>refine ζe (back _ (nrm ?_))<;>(refine ζi 3 kR ?_)<;>(refine ζf rfl fun w9 M9 N9 DQ back=>?_)<;>(refine cO 29 (cA Tryz.call139 (ZoM a hA)) fun v29 ho29=>?_;refine ζr (En.freeze (l:=29) (t:=29) rfl rfl) fun _=>?_;rw [ζ2 _ _ _ hfl.symm])<;>refine ζe (back _ (nrm ?_))<;>refine xE 4 6 rfl ζc ?_<;>refine xE 5 7 rfl ζc ?_<;>refine Zam kR (nav ?_)<;>try dsimp only)
        (refine ζa ?_<;>refine xL 8 ζc ?_<;>refine ζd ?_)
        (refine ζa ?_<;>refine xL 30 ζb (xL 31 (ζh 2 ZaJ) ?_)<;>(refine yL 32 (ζq 2 ζD) fun v32 h=>?_;cases h)<;>(refine cO 33 (cA Tryz.call111 (Zh4 a a.start hn1 hA.mi hA.st)) fun v33 ho33=>?_;refine ζr (En.freeze (l:=33) (t:=33) rfl rfl) fun _=>?_;rw [ζ2 _ _ _ rfl])<;>refine xL 34 ζb (xL 35 ζb ?_)<;>(refine cO 36 (cA Tryz.call140 (ZoE (Za3 a a.start) (Zbe a) N (by omega) (fun s hs=>by have:=hci s hs;omega))) fun v36 ho36=>?_;refine ζr (En.freeze (l:=36) (t:=36) rfl rfl) fun _=>?_;rw [ζ2 _ _ _ rfl])<;>refine xL 37 (ζB Zh7) ?_<;>refine Zaw 38 ZeG fun h38 ho38=>?_<;>refine xL 9 ζc ?_<;>refine ζd ?_)
        refine ζw (Zey (l:=38) [.own 3 1 0 [],pInts (Zbr (Za3 a a.start) (Zbe a) N)] rfl rfl (fun i p p' h1 h2=>by
         match i with
         |0=>cases h1;cases h2;exact .inr ⟨rfl,_,_,rfl⟩
         |1=>cases h1;cases h2;exact .inl rfl
         |i+2=>simp at h2)) fun _=>?_
        refine ζw (focus (l:=38) (l':=300) (j:=0) rfl rfl rfl) fun v300=>?_;refine ζw (ZaI (l:=38) (l':=300) (j:=0) rfl rfl rfl rfl) fun _=>?_;dsimp only [List.set];refine ζw (ZbW 200 36 1 rfl) fun _=>?_;refine ζw (ζF (l:=38) 201 rfl rfl) fun _=>?_;have hL0:[share (PV.own 3 1 0 []),pInts (Zbr (Za3 a a.start) (Zbe a) N)]=(lvP a N 0).flatMap cPf:=rfl;rw [hL0];refine ζy (ι:={q:Nat×Value×Value//q.1≤N+1∧(∀j,j≤q.1→(lvP a N j).length≤2000)∧(ZfA a N q.1).length≤q.1*2000∧q.2.1.oneCell'=true∧q.2.2.oneCell'=true}) (fun k=>⟨[(2,_,_),(6,_,_),(7,_,_),(1, .int .i64 ((N:Int)-(k.1.1:Nat)),pInt ((N:Int)-(k.1.1:Nat))),(8,k.1.2.1, .val k.1.2.1),(9,k.1.2.2, .val k.1.2.2)],[(2,_,_),(200,k.1.2.1, .own 36 1 (ZfA a N k.1.1).length ((ZfA a N k.1.1).map pInts)),(201,k.1.2.2, .own 182 2 (lvP a N k.1.1).length ((lvP a N k.1.1).flatMap cPf))]⟩) (fun k=>N+1-k.1.1) ⟨(0, .slice none 0 0,h38),Xe _,fun j hj=>by have h9:j=0:=(by dsimp only at hj;omega);subst h9;simp [lvP],by simp [ZfA],rfl,ho38⟩ (fun a w H=>H.weaken ⟨rfl,rfl,rfl,rfl,rfl,rfl,trivial⟩ ⟨rfl,rfl,rfl,trivial⟩) ?_;rintro ⟨⟨lev,hO,hL⟩,hk,hlv,hsm,hoO,hoL⟩;dsimp only;dsimp only at hk hlv hsm hoO hoL;refine nav ?_;(refine ζa ?_<;>refine xL 39 ζb (xL 40 ZcX ?_)<;>refine ζd ?_)
        (first|refine cCd ?_ ?_|refine cC ?_ ?_)<;>intro hb40
        · first
          |exact bN hb40
          | (
           (have hkN:lev≤N:=by omega);have hlk:=hlv lev (Xd _);(have hsm2:(ZfA a N lev).length≤402000:=by omega);have hlin:=ZDh hA N lev;have hlw:=ZqQ (a:=a) (n:=N) lev;refine nav ?_;(refine ζa ?_<;>refine xL 10 ζc ?_<;>refine ζd ?_)
           (refine ζa ?_<;>refine xL 43 ζb (xL 44 (ZaH 201 ZdR) (xL 45 ζb ?_))<;>refine ζd ?_)
           refine ζw (ZbW 202 182 2 rfl) fun _=>?_;refine ζy (ι:={q:Nat×Value×Value×List (List Int)×List Pf//q.1≤(lvP a N lev).length∧q.2.2.2.2.length≤2000∧q.2.1.oneCell'=true∧q.2.2.1.oneCell'=true∧q.2.2.2.1=ZfA a N lev++ZiG a ((lvP a N lev).take q.1)∧q.2.2.2.2=((lvP a N lev).take q.1).flatMap (ZhN a ((N:Int)-lev))}) (fun k=>⟨[(1,_,_),(2,_,_),(6,_,_),(7,_,_),(9,_,_),(43,_,_),(44,_,_),(8,k.1.2.1, .val k.1.2.1),(10,k.1.2.2.1, .val k.1.2.2.1),(45, .int .i64 k.1.1,pInt k.1.1)],[(2,_,_),(201,_,_),(200,k.1.2.1, .own 36 1 k.1.2.2.2.1.length (k.1.2.2.2.1.map pInts)),(202,k.1.2.2.1, .own 182 2 k.1.2.2.2.2.length (k.1.2.2.2.2.flatMap cPf))]⟩) (fun k=>(lvP a N lev).length-k.1.1) ⟨(0,hO, .slice none 0 0,ZfA a N lev,[]),Xe _,Xe _,hoO,rfl,(XB _).symm,rfl⟩ (fun a w H=>H.weaken ⟨rfl,rfl,rfl,rfl,rfl,rfl,rfl,rfl,rfl,rfl,trivial⟩ ⟨rfl,rfl,rfl,rfl,trivial⟩) ?_;rintro ⟨⟨i,hO2,hX,O,X⟩,hi,hkl,hoO2,hoX,hOE,hXE⟩;dsimp only;dsimp only at hi hkl hoO2 hoX hOE hXE;have hol:=ZqJ a ((lvP a N lev).take i);rw [Xu] at hol;(have hoL2:O.length≤404000:=by rw [hOE,Xc];omega);refine nav ?_;(refine ζa ?_<;>refine xL 46 ζK ?_<;>refine ζd ?_)
           (first|refine cCd ?_ ?_|refine cC ?_ ?_)<;>intro hb46
           · first
             |exact bN hb46
             | (
              obtain ⟨x,hx⟩:=ζm (show i<(lvP a N lev).length by omega);have e1:=Zaq Zt7 (lvP a N lev) i x hx;have e2:=ZaP Zt7 hx;have hxi:=hlin x (Xb hx);have hxw:=hlw x (Xb hx);have hO3:=ZvD (a:=a) hx;have hK3:=ZlC (ZhN a ((N:Int)-lev)) hx;refine nav ?_;(refine ζa ?_<;>refine xL 47 (ζv 201 ZdR) ?_<;>(refine yL 48 (ζk 201 Zkb) fun v48 h=>?_;cases h)<;>refine ζs [(.slice none 0 0),(.slice none 0 0)] 2 12 ZsR fun h12=>?_<;>refine ζt 12 Zkb ?_<;>refine ζd ?_)
              (refine ζa ?_<;>refine xL 49 ζb (xL 50 (ζh 12 Zgi) ?_)<;>(refine yL 51 (ζq 12 ζD) fun v51 h=>?_;cases h)<;>(refine cS 52 (cA Tryz.call113 (Zlu a x.2 hxi.1)) fun v52 h=>?_;cases h)<;>refine ζd ?_)
              (first|refine cCd ?_ ?_|refine cC ?_ ?_)<;>intro hb52
              · first
                |exact bN hb52
                | (
                 rw [if_pos (show Zc0 a x.2=true from hb52)] at hO3;(have hOF:O++[x.1]=ZfA a N lev++ZiG a ((lvP a N lev).take (i+1)):=by rw [hO3,hOE,XA]);(have hOl2:(O++[x.1]).length=O.length+1:=by rw [Xc];rfl);refine nav ?_;(refine ζa ?_<;>refine xL 53 ζb (xL 54 (ζh 12 Zgh) ?_)<;>(refine yL 55 (ζq 12 ζD) fun v55 h=>?_;cases h)<;>refine ζP (kk:=1) 56 Zcc fun h56 ho56=>?_<;>(refine ζ0 200 56 57 Zcc fun h57 ho57=>?_;refine ζr (ζF (l:=57) 200 rfl rfl) fun _=>?_;rw [Zyh])<;>refine xL 8 ζc ?_<;>refine ζd ?_)
                 (refine ζa ?_<;>refine xL 58 (ζh 2 Zao) ?_<;>(refine yL 59 (ζq 2 ζp) fun v59 h=>?_;cases h)<;>refine xL 60 ζb ?_<;>refine ζd ?_)
                 refine ζy (ι:={q:Nat×Value×List Pf//q.1≤a.syms.toNat∧q.2.1.oneCell'=true∧q.2.2=X++(List.range q.1).flatMap (Zfc a ((N:Int)-lev) x)}) (fun k=>⟨[(1,_,_),(2,_,_),(6,_,_),(7,_,_),(8,_,_),(9,_,_),(12,_,_),(43,_,_),(44,_,_),(45,_,_),(59,_,_),(10,k.1.2.1, .val k.1.2.1),(60, .int .i64 k.1.1,pInt k.1.1)],[(2,_,_),(12,_,_),(200,_,_),(201,_,_),(202,k.1.2.1, .own 182 2 k.1.2.2.length (k.1.2.2.flatMap cPf))]⟩) (fun k=>a.syms.toNat-k.1.1) ⟨(0,hX,X),Xe _,hoX,(XB _).symm⟩ (fun a w H=>H.weaken ⟨rfl,rfl,rfl,rfl,rfl,rfl,rfl,rfl,rfl,rfl,rfl,rfl,rfl,trivial⟩ ⟨rfl,rfl,rfl,rfl,rfl,trivial⟩) ?_;rintro ⟨⟨c,hX2,X2⟩,hc,hoX2,hX2E⟩;dsimp only;dsimp only at hc hoX2 hX2E;have hkc:=Zjm a ((N:Int)-lev) x c;(have hkl2:X2.length≤2100:=by rw [hX2E,Xc];omega);refine nav ?_;(refine ζa ?_<;>refine xL 61 ζK ?_<;>refine ζd ?_)
                 (first|refine cCd ?_ ?_|refine cC ?_ ?_)<;>intro hb61
                 · first
                   |exact bN hb61
                   | (
                    have hni:=Zgf hA.mi (c:Int) x.2;(have hnl:(ZaL a c x.2).length≤2000:=by have:=Zjk hA.mi (ZcC hA.mi (c:Int) x.2);unfold ZaL;omega);have hR:=Zh6 (Zfc a ((N:Int)-lev) x) c;refine nav ?_;(refine ζa ?_<;>refine xL 62 ζb (xL 13 ζc ?_)<;>refine ζd ?_)
                    (refine ζa ?_<;>refine xL 63 ζb (xL 64 (ζh 12 Zgi) ?_)<;>(refine yL 65 (ζq 12 ζD) fun v65 h=>?_;cases h)<;>refine xL 66 ζb ?_<;>(refine cO 67 (cA Tryz.call112 (ZoG a x.2 c hn1 hA.ml hA.mi hxi.1 hxi.2)) fun v67 ho67=>?_;refine ζr (En.freeze (l:=67) (t:=67) rfl rfl) fun _=>?_;rw [ζ2 _ _ _ rfl])<;>refine xL 68 ζb (xL 69 ζb (xL 70 ZeX ?_))<;>(refine cO 71 (cA Tryz.call140 (ZoE (ZaL a c x.2) (Zbe a) ((N:Int)-lev-1) (by omega) (fun s hs=>by have:=hni s hs;omega))) fun v71 ho71=>?_;refine ζr (En.freeze (l:=71) (t:=71) rfl rfl) fun _=>?_;rw [ζ2 _ _ _ rfl])<;>refine xL 14 ζc ?_<;>refine ζd ?_)
                    (refine ζa ?_<;>refine xL 72 ζb (xL 73 (ζU ζu) (xL 74 ZaF ?_))<;>refine ζd ?_)
                    (first|refine cCd ?_ ?_|refine cC ?_ ?_)<;>intro hb74
                    · first
                      |exact bN hb74
                      | (
                       (have hkid:Zfc a ((N:Int)-lev) x c=[(x.1++[(c:Int)],Zbr (ZaL a c x.2) (Zbe a) ((N:Int)-lev-1))]:=by unfold Zfc;rw [if_neg (by omega)]);rw [hkid] at hR;refine nav ?_;(refine ζa ?_<;>refine xL 75 ζb (xL 76 (ζh 12 Zgh) ?_)<;>(refine yL 77 (ζq 12 ζD) fun v77 h=>?_;cases h)<;>refine cO 78 (cA Tryz.call135 (Zdg x.1 (by omega))) fun v78 ho78=>?_<;>refine xL 79 ζb ?_<;>refine ζP (kk:=1) 80 ζn fun h80 ho80=>?_<;>(refine ζ0 78 80 81 ζn fun h81 ho81=>?_;refine ζr (En.freeze (l:=81) (t:=81) rfl rfl) fun _=>?_;rw [show PV.own 3 1 (x.1.length+1) (x.1.map pInt++[pInt c])= .own 3 1 (x.1++[(c:Int)]).length ((x.1++[(c:Int)]).map pInt) from Zlw _ _ _,ζ2 _ _ _ rfl])<;>refine xL 82 ζb (xL 83 (ζB Zh7) ?_)<;>refine Zaw 84 ZeG fun h84 ho84=>?_<;>(refine ζ0 202 84 85 ZeG fun h85 ho85=>?_;refine ζr (ζF (l:=85) 202 rfl rfl) fun _=>?_;refine ζr (ζM (l:=202) rfl (Zt8 _ X2 (x.1++[(c:Int)],Zbr (ZaL a c x.2) (Zbe a) ((N:Int)-lev-1)))) fun _=>?_)<;>refine xL 10 ζc ?_<;>refine ζd ?_)
                       (refine ζa ?_<;>refine xL 86 ζG (xL 60 ζb ?_)<;>refine ζd ?_)
                       first
                        | (exact ζj (
                            ⟨(c+1,h85,X2++[(x.1++[(c:Int)],Zbr (ZaL a c x.2) (Zbe a) ((N:Int)-lev-1))]),by dsimp only;omega,ho85,by dsimp only;rw [hX2E,hR,XA]⟩
                            ) (by dsimp only;omega) ⟨rfl,rfl,rfl,rfl,rfl,rfl,rfl,rfl,rfl,rfl,rfl,rfl,rfl,trivial⟩ ⟨rfl,rfl,rfl,rfl,rfl,trivial⟩)
                        | (exact ζj (
                            ⟨(c+1,hX2,X2),by dsimp only;omega,hoX2,by dsimp only;rw [hX2E,hR]⟩
                            ) (by dsimp only;omega) ⟨rfl,rfl,rfl,rfl,rfl,rfl,rfl,rfl,rfl,rfl,rfl,rfl,rfl,trivial⟩ ⟨rfl,rfl,rfl,rfl,rfl,trivial⟩))
                    · first
                      |exact bN hb74
                      | (
                       (have hkid:Zfc a ((N:Int)-lev) x c=[]:=by unfold Zfc;rw [if_pos (by omega)]);rw [hkid,XB] at hR;refine nav ?_;(refine ζa ?_<;>refine xL 86 ζG (xL 60 ζb ?_)<;>refine ζd ?_)
                       first
                        | (exact ζj (
                            ⟨(c+1,h85,X2++[(x.1++[(c:Int)],Zbr (ZaL a c x.2) (Zbe a) ((N:Int)-lev-1))]),by dsimp only;omega,ho85,by dsimp only;rw [hX2E,hR,XA]⟩
                            ) (by dsimp only;omega) ⟨rfl,rfl,rfl,rfl,rfl,rfl,rfl,rfl,rfl,rfl,rfl,rfl,rfl,trivial⟩ ⟨rfl,rfl,rfl,rfl,rfl,trivial⟩)
                        | (exact ζj (
                            ⟨(c+1,hX2,X2),by dsimp only;omega,hoX2,by dsimp only;rw [hX2E,hR]⟩
                            ) (by dsimp only;omega) ⟨rfl,rfl,rfl,rfl,rfl,rfl,rfl,rfl,rfl,rfl,rfl,rfl,rfl,trivial⟩ ⟨rfl,rfl,rfl,rfl,rfl,trivial⟩)))
                 · first
                   |exact bN hb61
                   | (
                    (have hcs:c=a.syms.toNat:=by omega);subst hcs;(have hXF:X2=((lvP a N lev).take (i+1)).flatMap (ZhN a ((N:Int)-lev)):=by rw [hX2E,hK3,hXE];rfl);refine nav ?_;(refine ζa ?_<;>refine xL 87 ζb (xL 88 (ZaH 200 ZaN) (xL 89 ζb (xL 90 (ZaH 202 ZdR) (xL 91 ζG (xL 92 ZaF (xL 93 ζb ?_))))))<;>(refine bLd 93 (fun hb93=>?_) (fun hb93=>?_)<;>(first|refine kL 94 ?_|refine xL 94 ζb ?_))<;>(first|refine kL 95 ?_|refine xL 95 (ZaH 200 ZaN) ?_)<;>(first|refine kL 96 ?_|refine xL 96 ZaF ?_)<;>refine xL 97 ζJ (xL 98 ζb ?_)<;>(first|refine xL 99 ζb ?_|(refine bLd 98 (fun hb98=>?_) (fun hb98=>?_)<;>(first|refine kL 99 ?_|refine xL 99 ζb ?_)))<;>(first|refine kL 100 ?_|refine xL 100 (ZaH 202 ZdR) ?_)<;>(first|refine kL 101 ?_|refine xL 101 ZaF ?_)<;>refine xL 102 ζJ ?_<;>refine ζd ?_)<;>(
                     (first|refine cCd ?_ ?_|refine cC ?_ ?_)<;>intro hb102
                     · first
                       |exact bN hb102
                       | (
                        refine nav ?_;(refine ζa ?_<;>refine xL 4 ζc (xL 5 ζc ?_)<;>refine ζd ?_)
                        refine Za2 (Zc9 (t:=4) rfl) fun _=>?_;refine Zc8 (Tryz.results91) rfl rfl (.inr (.inr (.inl ⟨hok,by omega,by omega,?_,rfl⟩)));rw [XT];have hfl2:=ZhO (ZhN a ((N:Int)-lev)) (lvP a N lev) (i+1);have hsm5:=Zno a N (show lev+1≤N+1 by omega);rw [ZfB,Xc] at hsm5;have hop5:=ZqK a (lvP a N lev) (i+1);have hOl:=congrArg List.length hOF;have hXl:=congrArg List.length hXF;simp only [Xc,Xj,Xz] at hOl;by_cases hbig:2000<X2.length
                        · exact .inl ⟨lev,by omega,by rw [lvP];omega⟩
                        · refine .inr ?_
                          first
                           |omega
                           |(simp at hb102 hOl;omega))
                     · first
                       |exact bN hb102
                       | (
                        refine nav ?_;(refine ζa ?_<;>refine xL 103 ζG (xL 45 ζb ?_)<;>refine ζd ?_)
                        first
                         | (exact ζj (
                             ⟨(i+1,_,_,O++[x.1],X2),ζg hx,(by dsimp only;first|omega|(simp at hb102;omega)),(by assumption),hoX2,hOF,hXF⟩
                             ) (by dsimp only;omega) ⟨rfl,rfl,rfl,rfl,rfl,rfl,rfl,rfl,rfl,rfl,trivial⟩ ⟨rfl,rfl,rfl,rfl,trivial⟩)
                         | (exact ζj (
                             ⟨(i+1,hO2,hX2,O,X2),ζg hx,(by dsimp only;first|omega|(simp at hb102;omega)),(by assumption),hoX2,hOF,hXF⟩
                             ) (by dsimp only;omega) ⟨rfl,rfl,rfl,rfl,rfl,rfl,rfl,rfl,rfl,rfl,trivial⟩ ⟨rfl,rfl,rfl,rfl,trivial⟩)))))
              · first
                |exact bN hb52
                | (
                 rw [if_neg (show ¬Zc0 a x.2=true by simpa [Zc0] using hb52),XB] at hO3;(have hOF:O=ZfA a N lev++ZiG a ((lvP a N lev).take (i+1)):=by rw [hO3,hOE]);refine nav ?_;(refine ζa ?_<;>refine xL 58 (ζh 2 Zao) ?_<;>(refine yL 59 (ζq 2 ζp) fun v59 h=>?_;cases h)<;>refine xL 60 ζb ?_<;>refine ζd ?_)
                 refine ζy (ι:={q:Nat×Value×List Pf//q.1≤a.syms.toNat∧q.2.1.oneCell'=true∧q.2.2=X++(List.range q.1).flatMap (Zfc a ((N:Int)-lev) x)}) (fun k=>⟨[(1,_,_),(2,_,_),(6,_,_),(7,_,_),(8,_,_),(9,_,_),(12,_,_),(43,_,_),(44,_,_),(45,_,_),(59,_,_),(10,k.1.2.1, .val k.1.2.1),(60, .int .i64 k.1.1,pInt k.1.1)],[(2,_,_),(12,_,_),(200,_,_),(201,_,_),(202,k.1.2.1, .own 182 2 k.1.2.2.length (k.1.2.2.flatMap cPf))]⟩) (fun k=>a.syms.toNat-k.1.1) ⟨(0,hX,X),Xe _,hoX,(XB _).symm⟩ (fun a w H=>H.weaken ⟨rfl,rfl,rfl,rfl,rfl,rfl,rfl,rfl,rfl,rfl,rfl,rfl,rfl,trivial⟩ ⟨rfl,rfl,rfl,rfl,rfl,trivial⟩) ?_;rintro ⟨⟨c,hX2,X2⟩,hc,hoX2,hX2E⟩;dsimp only;dsimp only at hc hoX2 hX2E;have hkc:=Zjm a ((N:Int)-lev) x c;(have hkl2:X2.length≤2100:=by rw [hX2E,Xc];omega);refine nav ?_;(refine ζa ?_<;>refine xL 61 ζK ?_<;>refine ζd ?_)
                 (first|refine cCd ?_ ?_|refine cC ?_ ?_)<;>intro hb61
                 · first
                   |exact bN hb61
                   | (
                    have hni:=Zgf hA.mi (c:Int) x.2;(have hnl:(ZaL a c x.2).length≤2000:=by have:=Zjk hA.mi (ZcC hA.mi (c:Int) x.2);unfold ZaL;omega);have hR:=Zh6 (Zfc a ((N:Int)-lev) x) c;refine nav ?_;(refine ζa ?_<;>refine xL 62 ζb (xL 13 ζc ?_)<;>refine ζd ?_)
                    (refine ζa ?_<;>refine xL 63 ζb (xL 64 (ζh 12 Zgi) ?_)<;>(refine yL 65 (ζq 12 ζD) fun v65 h=>?_;cases h)<;>refine xL 66 ζb ?_<;>(refine cO 67 (cA Tryz.call112 (ZoG a x.2 c hn1 hA.ml hA.mi hxi.1 hxi.2)) fun v67 ho67=>?_;refine ζr (En.freeze (l:=67) (t:=67) rfl rfl) fun _=>?_;rw [ζ2 _ _ _ rfl])<;>refine xL 68 ζb (xL 69 ζb (xL 70 ZeX ?_))<;>(refine cO 71 (cA Tryz.call140 (ZoE (ZaL a c x.2) (Zbe a) ((N:Int)-lev-1) (by omega) (fun s hs=>by have:=hni s hs;omega))) fun v71 ho71=>?_;refine ζr (En.freeze (l:=71) (t:=71) rfl rfl) fun _=>?_;rw [ζ2 _ _ _ rfl])<;>refine xL 14 ζc ?_<;>refine ζd ?_)
                    (refine ζa ?_<;>refine xL 72 ζb (xL 73 (ζU ζu) (xL 74 ZaF ?_))<;>refine ζd ?_)
                    (first|refine cCd ?_ ?_|refine cC ?_ ?_)<;>intro hb74
                    · first
                      |exact bN hb74
                      | (
                       (have hkid:Zfc a ((N:Int)-lev) x c=[(x.1++[(c:Int)],Zbr (ZaL a c x.2) (Zbe a) ((N:Int)-lev-1))]:=by unfold Zfc;rw [if_neg (by omega)]);rw [hkid] at hR;refine nav ?_;(refine ζa ?_<;>refine xL 75 ζb (xL 76 (ζh 12 Zgh) ?_)<;>(refine yL 77 (ζq 12 ζD) fun v77 h=>?_;cases h)<;>refine cO 78 (cA Tryz.call135 (Zdg x.1 (by omega))) fun v78 ho78=>?_<;>refine xL 79 ζb ?_<;>refine ζP (kk:=1) 80 ζn fun h80 ho80=>?_<;>(refine ζ0 78 80 81 ζn fun h81 ho81=>?_;refine ζr (En.freeze (l:=81) (t:=81) rfl rfl) fun _=>?_;rw [show PV.own 3 1 (x.1.length+1) (x.1.map pInt++[pInt c])= .own 3 1 (x.1++[(c:Int)]).length ((x.1++[(c:Int)]).map pInt) from Zlw _ _ _,ζ2 _ _ _ rfl])<;>refine xL 82 ζb (xL 83 (ζB Zh7) ?_)<;>refine Zaw 84 ZeG fun h84 ho84=>?_<;>(refine ζ0 202 84 85 ZeG fun h85 ho85=>?_;refine ζr (ζF (l:=85) 202 rfl rfl) fun _=>?_;refine ζr (ζM (l:=202) rfl (Zt8 _ X2 (x.1++[(c:Int)],Zbr (ZaL a c x.2) (Zbe a) ((N:Int)-lev-1)))) fun _=>?_)<;>refine xL 10 ζc ?_<;>refine ζd ?_)
                       (refine ζa ?_<;>refine xL 86 ζG (xL 60 ζb ?_)<;>refine ζd ?_)
                       first
                        | (exact ζj (
                            ⟨(c+1,h85,X2++[(x.1++[(c:Int)],Zbr (ZaL a c x.2) (Zbe a) ((N:Int)-lev-1))]),by dsimp only;omega,ho85,by dsimp only;rw [hX2E,hR,XA]⟩
                            ) (by dsimp only;omega) ⟨rfl,rfl,rfl,rfl,rfl,rfl,rfl,rfl,rfl,rfl,rfl,rfl,rfl,trivial⟩ ⟨rfl,rfl,rfl,rfl,rfl,trivial⟩)
                        | (exact ζj (
                            ⟨(c+1,hX2,X2),by dsimp only;omega,hoX2,by dsimp only;rw [hX2E,hR]⟩
                            ) (by dsimp only;omega) ⟨rfl,rfl,rfl,rfl,rfl,rfl,rfl,rfl,rfl,rfl,rfl,rfl,rfl,trivial⟩ ⟨rfl,rfl,rfl,rfl,rfl,trivial⟩))
                    · first
                      |exact bN hb74
                      | (
                       (have hkid:Zfc a ((N:Int)-lev) x c=[]:=by unfold Zfc;rw [if_pos (by omega)]);rw [hkid,XB] at hR;refine nav ?_;(refine ζa ?_<;>refine xL 86 ζG (xL 60 ζb ?_)<;>refine ζd ?_)
                       first
                        | (exact ζj (
                            ⟨(c+1,h85,X2++[(x.1++[(c:Int)],Zbr (ZaL a c x.2) (Zbe a) ((N:Int)-lev-1))]),by dsimp only;omega,ho85,by dsimp only;rw [hX2E,hR,XA]⟩
                            ) (by dsimp only;omega) ⟨rfl,rfl,rfl,rfl,rfl,rfl,rfl,rfl,rfl,rfl,rfl,rfl,rfl,trivial⟩ ⟨rfl,rfl,rfl,rfl,rfl,trivial⟩)
                        | (exact ζj (
                            ⟨(c+1,hX2,X2),by dsimp only;omega,hoX2,by dsimp only;rw [hX2E,hR]⟩
                            ) (by dsimp only;omega) ⟨rfl,rfl,rfl,rfl,rfl,rfl,rfl,rfl,rfl,rfl,rfl,rfl,rfl,trivial⟩ ⟨rfl,rfl,rfl,rfl,rfl,trivial⟩)))
                 · first
                   |exact bN hb61
                   | (
                    (have hcs:c=a.syms.toNat:=by omega);subst hcs;(have hXF:X2=((lvP a N lev).take (i+1)).flatMap (ZhN a ((N:Int)-lev)):=by rw [hX2E,hK3,hXE];rfl);refine nav ?_;(refine ζa ?_<;>refine xL 87 ζb (xL 88 (ZaH 200 ZaN) (xL 89 ζb (xL 90 (ZaH 202 ZdR) (xL 91 ζG (xL 92 ZaF (xL 93 ζb ?_))))))<;>(refine bLd 93 (fun hb93=>?_) (fun hb93=>?_)<;>(first|refine kL 94 ?_|refine xL 94 ζb ?_))<;>(first|refine kL 95 ?_|refine xL 95 (ZaH 200 ZaN) ?_)<;>(first|refine kL 96 ?_|refine xL 96 ZaF ?_)<;>refine xL 97 ζJ (xL 98 ζb ?_)<;>(first|refine xL 99 ζb ?_|(refine bLd 98 (fun hb98=>?_) (fun hb98=>?_)<;>(first|refine kL 99 ?_|refine xL 99 ζb ?_)))<;>(first|refine kL 100 ?_|refine xL 100 (ZaH 202 ZdR) ?_)<;>(first|refine kL 101 ?_|refine xL 101 ZaF ?_)<;>refine xL 102 ζJ ?_<;>refine ζd ?_)<;>(
                     (first|refine cCd ?_ ?_|refine cC ?_ ?_)<;>intro hb102
                     · first
                       |exact bN hb102
                       | (
                        refine nav ?_;(refine ζa ?_<;>refine xL 4 ζc (xL 5 ζc ?_)<;>refine ζd ?_)
                        refine Za2 (Zc9 (t:=4) rfl) fun _=>?_;refine Zc8 (Tryz.results91) rfl rfl (.inr (.inr (.inl ⟨hok,by omega,by omega,?_,rfl⟩)));rw [XT];have hfl2:=ZhO (ZhN a ((N:Int)-lev)) (lvP a N lev) (i+1);have hsm5:=Zno a N (show lev+1≤N+1 by omega);rw [ZfB,Xc] at hsm5;have hop5:=ZqK a (lvP a N lev) (i+1);have hOl:=congrArg List.length hOF;have hXl:=congrArg List.length hXF;simp only [Xc,Xj,Xz] at hOl;by_cases hbig:2000<X2.length
                        · exact .inl ⟨lev,by omega,by rw [lvP];omega⟩
                        · refine .inr ?_
                          first
                           |omega
                           |(simp at hb102 hOl;omega))
                     · first
                       |exact bN hb102
                       | (
                        refine nav ?_;(refine ζa ?_<;>refine xL 103 ζG (xL 45 ζb ?_)<;>refine ζd ?_)
                        first
                         | (exact ζj (
                             ⟨(i+1,_,_,O++[x.1],X2),ζg hx,(by dsimp only;first|omega|(simp at hb102;omega)),(by assumption),hoX2,hOF,hXF⟩
                             ) (by dsimp only;omega) ⟨rfl,rfl,rfl,rfl,rfl,rfl,rfl,rfl,rfl,rfl,trivial⟩ ⟨rfl,rfl,rfl,rfl,trivial⟩)
                         | (exact ζj (
                             ⟨(i+1,hO2,hX2,O,X2),ζg hx,(by dsimp only;first|omega|(simp at hb102;omega)),(by assumption),hoX2,hOF,hXF⟩
                             ) (by dsimp only;omega) ⟨rfl,rfl,rfl,rfl,rfl,rfl,rfl,rfl,rfl,rfl,trivial⟩ ⟨rfl,rfl,rfl,rfl,trivial⟩))))))
           · first
             |exact bN hb46
             | (
              (have hil:i=(lvP a N lev).length:=by omega);rw [hil,Ua] at hOE hXE;(have hOS:O=ZfA a N (lev+1):=by rw [ZfB];exact hOE);have hXS:X=lvP a N (lev+1):=hXE;(have hsm6:(ZfA a N (lev+1)).length≤(lev+1)*2000:=by rw [ZfB,Xc];have:=ZqJ a (lvP a N lev);omega);(have hkl6:(lvP a N (lev+1)).length≤2000:=by rw [←hXS];exact hkl);clear hOE hXE hil;subst hOS hXS;refine nav ?_;(refine ζa ?_<;>refine xL 104 ζb (xL 9 ζc ?_)<;>refine ζd ?_)
              (refine ζa ?_<;>refine xL 41 ζb (xL 42 ZeX (xL 1 ζc ?_))<;>refine ζd ?_)
              refine Zbn (ζF (l:=201) 203 rfl rfl) fun _=>?_;refine Zbn (ζF (l:=202) 201 rfl rfl) fun _=>?_;rw [show ((N:Int)-(lev:Nat)-1)=(N:Int)-((lev+1:Nat):Int) by omega];refine ζj (
               ⟨(lev+1,hO2,hX),by dsimp only;omega,fun j hj=>by
                 dsimp only at hj;rcases Xv lev j with h9|h9
                 · rw [show j=lev+1 by omega];exact hkl6
                 · exact hlv j h9,hsm6,hoO2,hoX⟩
               ) (by dsimp only;omega) ⟨rfl,rfl,rfl,rfl,rfl,rfl,trivial⟩ ⟨rfl,rfl,rfl,trivial⟩))
        · first
          |exact bN hb40
          | (
           (have hkE:lev=N+1:=by omega);subst hkE;refine nav ?_;(refine ζa ?_<;>refine xL 105 ζb (xL 106 (ZaH 200 ZaN) (xL 107 ZaF ?_))<;>refine ζd ?_)
           (first|refine cCd ?_ ?_|refine cC ?_ ?_)<;>intro hb107
           · first
             |exact bN hb107
             | (
              refine nav ?_;(refine ζa ?_<;>refine xL 4 ζc (xL 5 ζc ?_)<;>refine ζd ?_)
              refine Za2 (Zc9 (t:=4) rfl) fun _=>?_;exact Zc8 (Tryz.results91) rfl rfl (.inr (.inr (.inl ⟨hok,by omega,by omega, .inr (by rw [XT];omega),rfl⟩))))
           · first
             |exact bN hb107
             | (
              refine nav ?_;(refine ζa ?_<;>refine xL 108 ζb (xL 4 ζc (xL 5 ζc ?_))<;>refine ζd ?_)
              refine Za2 (En.freeze (l:=200) (t:=4) rfl rfl) fun _=>?_;rw [ZqP _ _ _ rfl];refine Zc8 (Tryz.results91) rfl rfl (.inr (.inr (.inr ⟨hok,by omega,by omega,?_,by rw [XT]⟩)));rw [XT];rintro (⟨j,h1,h2⟩|h1)
              · have:=hlv (j+1) (by omega);omega
              · omega)))))
theorem ZiH {α:Type} {n i:Nat} (f:Nat→α) (h:i<n):(vec n f)[i*1]? =some (f i):=by rw [Xx];exact ZoJ f h
end Go.Proofs.YtgfabnhpllkebaaGreatDoor
