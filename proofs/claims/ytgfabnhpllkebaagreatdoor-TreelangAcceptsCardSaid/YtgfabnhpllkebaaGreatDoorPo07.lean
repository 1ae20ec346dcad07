/-
  Walks of functions and plain laws of the chapter, as the claim needs them.
-/
import Derived.Test.YtgfabnhpllkebaaGreatDoorPo06
import Derived.Test.YtgfabnhpllkebaaGreatDoorMShelfD
import Derived.Test.YtgfabnhpllkebaaGreatDoorPo02
import Derived.Test.YtgfabnhpllkebaaGreatDoorPo03
import Derived.Test.YtgfabnhpllkebaaGreatDoorPo01
namespace Go.Proofs.YtgfabnhpllkebaaGreatDoor
open Go.RowKit Go.Cb Go.En Tryz
set_option linter.all false
set_option maxRecDepth 100000
theorem GL:FldT prog 196 2 2=true:=by kernel_rfl
theorem ZeL:NoAgg prog 134=true:=by kernel_rfl
theorem YJ:NoAgg prog 139=true:=by kernel_rfl
theorem Wa:NoAgg prog 4=true:=by kernel_rfl
theorem Yx:SlT prog 139 4 1=true:=by kernel_rfl
theorem Wp:(prog.info? 3).map (·.size)=some 1:=by kernel_rfl
def cI (x:Int):List PV:=[pInt x]
theorem Zoa (x:Int):(cI x).length=1:=rfl
theorem Zjo (l:List Int):l.map pInt=l.flatMap cI:=by
 induction l with
 |nil=>rfl
 |cons x l ih=>rw [Xw,Xz,ih];rfl
theorem ZS (e n:Nat) (l:List Int) (hn:n=l.length):share (.own e 1 n (l.map pInt))=pInts l:=by
 subst hn
 rw [share,Yk,XH];rfl
theorem ζj {p:Int→Bool} {l:List Int} {k:Nat} {x:Int} (hx:l[k]? =some x) (h:p x=false):((RD p l k).map pInt).set (KS p l k).length (pInt x)=(RD p l (k+1)).map pInt:=by
 have h1:=Zjn (f:=cI) Zoa hx h
 rw [Xq,←Zjo,←Zjo] at h1
 exact h1
theorem Zjp (f :Nat) (caps:List PV) (p:Int→Bool) (l:List Int) (hl:l.length≤1000000) (hv g:Value) (hc:∀args w,(callFunc f args).run prog w= .ok (.enter f args) w) (hf:∀s∈l,AF prog f (pInt s::caps) (· =ZM (p s))):
 AFh False prog 190 [(0,hv, .val hv),(1,g, .fn f caps)] [(1000,hv, .own 3 1 l.length (l.map pInt))] (fun v q h=>q= .val v∧h=[(1000,v, .own 3 1 (l.filter fun s=> !p s).length ((l.filter fun s=> !p s).map pInt))]):=by
 refine AFh.of_body 42 func190 rfl ntmps190 (Xa rfl) rfl ?_
 intro w0 M0 N0
 have hq:=ZS 3 l.length l rfl
 refine Ze ?_
 (refine xL 4 Za ?_<;>refine Zi ?_)
 (refine xL 8 Zb (xL 9 Zb ?_)<;>(refine cS 10 (cB rfl call154 (Sk f caps p l hc hf) ⟨⟨_,_,rfl,hq▸ZgR (l:=1000) rfl⟩,⟨_,_,rfl,Zep (x:= .tmp 9) rfl⟩,trivial⟩) fun v10 h=>?_;cases h)<;>refine xL 5 Za ?_<;>refine Zi ?_)
 (refine xL 11 Zb (xL 12 Ye ?_)<;>refine Zc ?_)
 refine cX ?_ ?_<;>intro hb12
 · first|exact bN hb12|(
 refine Ze ?_;(refine xL 13 Zb (xL 4 Za ?_)<;>refine Zc ?_)
 refine H4 [(1000,hv,PV.own 3 1 l.length (l.map pInt))] (results190) rfl ⟨rfl,trivial⟩ ⟨rfl,?_⟩;rw [UE.2 fun s hs=>?_];rcases ZaS (p:=p) (l:=l) with ⟨_,h⟩|⟨i0,x0,h,_⟩
 · rw [h s hs];rfl
 · exfalso;omega)
 · first | exact bN hb12|(
 obtain ⟨i0,x0,hi0,hx0,hp0,hn0⟩:=(ZaS (p:=p) (l:=l)).resolve_left fun h=>hb12 h.1;have hlt0:=Zf hx0;(have hk0:KS p l (i0+1)=l.take i0:=by rw [L6 hx0 hp0,Zhi hn0]);rw [hi0];refine Ze ?_;(refine xL 14 Zb (xL 15 ZG (xL 6 Za ?_))<;>refine Zc ?_)
 refine ZD (ι:={q:Nat×Nat×List PV//q.1≤l.length∧q.2.1=(KS p l q.1).length∧q.2.2=(RD p l q.1).map pInt}) (fun k=>⟨[(0,_,_),(1,_,_),(5, .int .i64 k.1.2.1,pInt k.1.2.1),(6, .int .i64 k.1.1,pInt k.1.1)],[(1000,hv, .own 3 1 l.length k.1.2.2)]⟩) (fun k=>l.length-k.1.1) ⟨(i0+1,i0,l.map pInt),hlt0,(by dsimp only;rw [hk0,Xo];omega),(by dsimp only;unfold RD;rw [hk0,Xo,X6 oM,VF])⟩ (fun a w H=>H.weaken ⟨rfl,rfl,rfl,rfl,trivial⟩ ⟨rfl,trivial⟩) ?_;rintro ⟨⟨k,j,row⟩,hk,hj,hr⟩;dsimp only;dsimp only at hk hj hr;have hle:=P4 p l k;have hjl:j≤l.length:=oM;have hjl2:(j:Int)≤1000000:=oM;(have hrl:row.length=l.length:=by rw [hr,Xe,Zjm p l hk]);refine Ze ?_;(refine xL 16 Zb (xL 17 Zb (xL 18 (YF 1000 Zp) (xL 19 ZP ?_)))<;>refine Zc ?_)
 refine cX ?_ ?_<;>intro hb19
 · first | exact bN hb19|(
 obtain ⟨x,hx⟩:=Zt (show k<l.length by omega);(have e1:row[k*1]? =some (pInt x):=by rw [hr,Xq,Xh,Zl2 hx];rfl);(have e3:j<row.length:=by rw [hrl];have:=Zf hx;omega);refine Ze ?_;(refine xL 22 Zb (xL 23 Zb (xL 24 (Yh 1000 Zp) ?_))<;>(refine yL 25 (Zk 1000 Zg) fun v25 h=>?_;cases h)<;>refine xL 7 Za ?_<;>refine Zi ?_)
 (refine xL 26 Zb (xL 27 Zb ?_)<;>(refine cS 28 (Gl (f:=f) (ps:=caps) rfl ⟨_,rfl⟩ hc rfl (hf x (Xc hx))) fun v28 h=>?_;cases h)<;>refine xL 29 Ya ?_<;>refine Zc ?_)
 refine cX ?_ ?_<;>intro hb29
 · first |exact bN hb29|(
 refine Ze ?_;(refine xL 30 Zb (xL 31 Zb (xL 32 Zb (xL 33 (Yh 1000 Zp) ?_)))<;>refine YL 1000 Zg Wp ?_<;>refine Zi ?_)
 (refine xL 34 Zb (xL 35 ZG (xL 5 Za ?_))<;>refine Zi ?_)
 (refine xL 20 Zb (xL 21 ZG (xL 6 Za ?_))<;>refine Zc ?_)
 first
  | (exact Zm (
      ⟨(k+1,j,row),Zf hx,(by dsimp only;rw [L6 hx (by simpa using hb29)];exact hj),(by dsimp only;rw [hr];unfold RD;rw [L6 hx (by simpa using hb29)])⟩
      ) (by dsimp only;omega) ⟨rfl,rfl,rfl,rfl,trivial⟩ ⟨rfl,trivial⟩)
  | (exact Zm (
      ⟨(k+1,j+1,row.set (j*1) (pInt x)),Zf hx,(by show j+1=(KS p l (k+1)).length;rw [Eb hx (by simpa using hb29)];simp [hj]),(by show row.set (j*1) (pInt x)=(RD p l (k+1)).map pInt;rw [hr,hj,Xq];exact ζj hx (by simpa using hb29))⟩
      ) (by dsimp only;omega) ⟨rfl,rfl,rfl,rfl,trivial⟩ ⟨rfl,trivial⟩))
 · first |exact bN hb29|(
 refine Ze ?_;(refine xL 20 Zb (xL 21 ZG (xL 6 Za ?_))<;>refine Zc ?_)
 first
  | (exact Zm (
      ⟨(k+1,j,row),Zf hx,(by dsimp only;rw [L6 hx (by simpa using hb29)];exact hj),(by dsimp only;rw [hr];unfold RD;rw [L6 hx (by simpa using hb29)])⟩
      ) (by dsimp only;omega) ⟨rfl,rfl,rfl,rfl,trivial⟩ ⟨rfl,trivial⟩)
  | (exact Zm (
      ⟨(k+1,j+1,row.set (j*1) (pInt x)),Zf hx,(by show j+1=(KS p l (k+1)).length;rw [Eb hx (by simpa using hb29)];simp [hj]),(by show row.set (j*1) (pInt x)=(RD p l (k+1)).map pInt;rw [hr,hj,Xq];exact ζj hx (by simpa using hb29))⟩
      ) (by dsimp only;omega) ⟨rfl,rfl,rfl,rfl,trivial⟩ ⟨rfl,trivial⟩)))
 · first|exact bN hb19|(
 have hkl:k=l.length:=oM;refine Ze ?_;(refine xL 36 Zb (xL 37 Zb ?_)<;>refine xL 38 (LU (i:=j) (j:=l.length) 1000 Zp rfl rfl rfl rfl rfl hjl (Xg _)) ?_<;>(refine Zb8 1000 Zn dC rfl rfl rfl rfl rfl hjl ?_;intro cs2 hcs1 hcs2)<;>refine Zi ?_)
 (refine xL 39 Zb (xL 40 Zb ?_)<;>refine xL 41 (LU (i:=0) (j:=j) 1000 Zp rfl rfl rfl rfl rfl (Xd _) hjl) ?_<;>refine xL 4 Za ?_<;>refine Zc ?_)
 refine Y3 (Zo0 (l:=1000) j rfl hjl) fun _=>?_;refine H4 [(1000,slc hv 0 j 1,PV.own 3 1 j (cs2.take (j*1)))] (results190) rfl ⟨rfl,trivial⟩ ⟨rfl,?_⟩;(have hF:(l.filter fun s=> !p s)=KS p l k:=by unfold KS;rw [hkl,Vy]);rw [hcs2,hr,hF,←hj];congr 4;unfold RD;rw [Xu,Xq,List.take_left' (by rw [Xe,hj])]))
theorem Jv (l:List Int) (hl:l.length≤1000000):AF prog 135 [pInts l] (· = .own 3 1 l.length (l.map pInt)):=by
 refine AF.of_body 8 func135 rfl ntmps135 (Xa rfl) ?_
 intro w0 M0 vs hl hv
 obtain ⟨v0,rfl⟩:=Wl hl
 clear hl hv
 have f3:(l.map pInt).length=l.length*1:=by rw [Xe,Xq]
 have f4:(l.map pInt).all En.one=true:=by rw [List.all_map,XB];intro x _;rfl
 refine Ze ?_
 (refine xL 2 Za ?_<;>refine Zi ?_)
 (refine xL 3 Zb ?_<;>(refine yL 4 (ZfO Zp) fun v4 hv4=>?_;rcases hv4 with rfl|⟨rfl,hn0⟩)<;>refine Zc ?_)<;>(
 refine cX ?_ ?_<;>intro hb4
 · first|exact bN hb4|(
 refine Ze ?_;(refine xL 2 Za ?_<;>refine Zc ?_)
 have hl0:l=[]:=XR hn0;subst hl0;refine Y3 (KB 200 3 1 rfl) fun _=>?_;exact Kb 200 (results135) rfl rfl rfl)
 · first|exact bN hb4|(
 refine Ze ?_;(refine LM 5 Zn fun h5 ho5=>?_<;>refine xL 6 Zb ?_<;>refine Kf 5 7 Zn (fun h7 ho7=>?_) f3 f4<;>refine xL 2 Za ?_<;>refine Zc ?_)
 refine Kb 7 (results135) rfl rfl ?_;rw [Xv,X3]))
def Zjq (far:List Int) (n:Int) (s:Int):Bool:=match far[s.toNat]? with
 |some d=>decide (d<0)||decide (n<d)
 |none=>false
def WF (l far:List Int) (n:Int):List Int:=l.filter fun s=> !Zjq far n s
theorem Zjr (far:List Int) (n s:Int) (h0:0≤s) (h1:s<far.length):AF prog 191 [pInt s, .sptr 0 [pInts far], .sptr 0 [pInt n]] (· =ZM (Zjq far n s)):=by
 refine AF.of_body 18 func191 rfl ntmps191 (Xa rfl) ?_
 intro w0 M0 vs hl hv
 obtain ⟨v0,v1,v2,rfl⟩:=LX hl
 obtain rfl:=hv 0 _ _ rfl rfl
 clear hl hv
 obtain ⟨d,hd⟩:=Zt (show s.toNat<far.length by omega)
 have e1:(far.map pInt)[s.toNat*1]? =some (pInt d):=by rw [Xq,Xh,hd];rfl
 refine Ze ?_
 (refine xL 4 Za ?_<;>refine Zc ?_)
 (refine ZZ (fun i=>([]:List Nat).elem i) [] kR ?_<;>(refine yD 0 5 rfl (Z9 Zy) fun v5 h=>?_;cases h)<;>refine xE 1 6 rfl Zb ?_<;>refine xE 2 7 rfl (Sg Zp) ?_<;>(refine yE 3 8 rfl (Z9 Zg) fun v8 h=>?_;cases h)<;>refine xE 4 9 rfl ZP ?_<;>refine xE 5 10 rfl Zb ?_<;>(refine bDd 10 (fun hb10=>?_) (fun hb10=>?_)<;>(first|refine kD 6 11 rfl ?_|(refine yD 6 11 rfl (Z9 Zy) fun v11 h=>?_;cases h)))<;>(first|refine kD 7 12 rfl ?_|refine xD 7 12 rfl Zb ?_)<;>(first|refine kD 8 13 rfl ?_|refine xD 8 13 rfl (Sg Zp) ?_)<;>(first|refine kD 9 14 rfl ?_|(refine yD 9 14 rfl (Z9 Zg) fun v14 h=>?_;cases h))<;>(first|refine kD 10 15 rfl ?_|(refine yD 10 15 rfl (Z9 Zg) fun v15 h=>?_;cases h))<;>(first|refine kD 11 16 rfl ?_|refine xD 11 16 rfl Yr ?_)<;>refine xE 12 17 rfl ZF ?_<;>refine xE 13 4 rfl Za ?_<;>refine Yw kR (nav ?_)<;>try dsimp only)<;>(
 refine Zz (results191) rfl ?_;unfold Zjq;rw [hd];show _=ZM (decide (d<0)||decide (n<d))
 first
  |(rw [UQ hb10];rfl)
  |(rw [UR hb10];rfl))
theorem ZaT (l far:List Int) (n:Int) (hl:l.length≤1000000) (hs:∀s∈l,0≤s∧s<far.length):AF prog 140 [pInts l,pInts far,pInt n] (· = .own 3 1 (WF l far n).length ((WF l far n).map pInt)):=by
 refine AF.of_body 11 func140 rfl ntmps140 (Xa rfl) ?_
 intro w0 M0 vs hl hv
 obtain ⟨v0,v1,v2,rfl⟩:=LX hl
 obtain rfl:=hv 2 _ _ rfl rfl
 clear hl hv
 refine Ze ?_
 (refine ZiI 4 fun h4=>?_<;>refine ZiI 5 fun h5=>?_<;>refine xL 6 Za ?_<;>refine Zc ?_)
 refine Zq (PL (l:=4) (t:=4) (j:=0) rfl Nat.one_pos rfl) fun _=>?_
 refine Zq (PL (l:=5) (t:=5) (j:=0) rfl Nat.one_pos rfl) fun _=>?_
 (refine Zv ?_<;>refine xL 7 Zb ?_<;>refine cO 8 (cA call135 (Jv l hl)) fun v8 ho8=>?_<;>refine xL 9 ZaJ ?_<;>(refine Zs (ZC (l:=8) 1000 rfl rfl) fun _=>?_;refine WQ [(1000,_,_)] ⟨rfl,trivial⟩ ?_;refine JP [] 10 (call190) (Zjp 191 [.sptr 0 [pInts far], .sptr 0 [pInt n]] (Zjq far n) l hl v8 _ (call191) (fun s hm=>Zjr far n s (hs s hm).1 (hs s hm).2)) ?_;rintro v10 _ _ ⟨rfl,rfl⟩)<;>refine xL 6 Za ?_<;>refine Zc ?_)
 exact Kb 1000 (results140) rfl rfl rfl
def movesOf (a:Aut) (s:Nat):List Mv:=a.moves.filter fun m=>decide (m.src=(s:Int))
def Gz (a:Aut) (s:Int):Bool:=a.fin.any fun t=>decide (t=s)
def ZaU (a:Aut):PV:= .sl a.n.toNat ((List.range a.n.toNat).map fun s=>pMvs (movesOf a s))
def Zjs (a:Aut):PV:= .sl a.n.toNat ((List.range a.n.toNat).map fun s=>ZM (Gz a (s:Nat)))
def pGr (a:Aut):PV:= .sptr 0 [pInt a.syms,ZaU a,Zjs a]
theorem G7 {N k:Nat} (h:k<N) (f:Nat→PV):((List.range N).map f)[k]? =some (f k):=by
 rw [Xh,Uh h];rfl
theorem Zcm (a:Aut) (s:Int) (h0:0≤s) (h1:s<a.n):AF prog 157 [pInt s, .sptr 0 [pGr a]] (· =ZM (Gz a s)):=by
 refine AF.of_body 11 func157 rfl ntmps157 (Xa rfl) ?_
 intro w0 M0 vs hl hv
 obtain ⟨v0,v1,rfl⟩:=YI hl
 obtain rfl:=hv 0 _ _ rfl rfl
 clear hl hv
 have e1:((List.range a.n.toNat).map fun s=>ZM (Gz a (s:Nat)))[s.toNat*1]? =some (ZM (Gz a s)):=by rw [Xq,G7 oM];rw [show ((s.toNat:Nat):Int)=s by omega]
 have e2:s.toNat<a.n.toNat:=oM
 refine Ze ?_
 (refine xL 3 Za ?_<;>refine Zi ?_)
 ((refine yL 4 (Z9 ZeL) fun v4 h=>?_;cases h)<;>refine xL 5 RR (xL 6 (Js GL) ?_)<;>(refine yL 7 (Z9 YJ) fun v7 h=>?_;cases h)<;>refine xL 8 Zb (xL 9 (Sg Yx) ?_)<;>(refine yL 10 (Z9 Wa) fun v10 h=>?_;cases h)<;>refine xL 3 Za ?_<;>refine Zc ?_)
 exact Zz results157 rfl rfl
theorem R2 (a:Aut) (l:List Int) (hs:∀s∈l,0≤s∧s<a.n):AF prog 113 [pGr a,pInts l] (· =ZM (l.any (Gz a))):=by
 refine AF.of_body 8 func113 rfl ntmps113 (Xa rfl) ?_
 intro w0 M0 vs hl hv
 obtain ⟨v0,v1,rfl⟩:=YI hl
 clear hl hv
 refine Ze ?_
 (refine ZiI 2 fun h2=>?_<;>refine xL 4 Za ?_<;>refine Zc ?_)
 refine Zq (PL (l:=2) (t:=2) (j:=0) rfl Nat.one_pos rfl) fun _=>?_
 (refine Zv ?_<;>refine xL 5 Zb (xL 6 ZaJ ?_)<;>(refine cS 7 (cA call108 (Ly 157 [.sptr 0 [pGr a]] (Gz a) l (call157) (fun s hm=>Zcm a s (hs s hm).1 (hs s hm).2))) fun v7 h=>?_;cases h)<;>refine xL 4 Za ?_<;>refine Zc ?_)
 exact Zz results113 rfl rfl
theorem Ee:MpT prog 197 3 4 (.int .i64) (.bool false):=⟨underlying197,underlying3, .inr ⟨_,rfl⟩,by show ZeroT _ _ _;unfold ZeroT;kernel_rfl⟩
theorem R3:NoAgg prog 197=true:=by kernel_rfl
theorem We:(prog.info? 36).map (·.size)=some 1:=by kernel_rfl
def TF (out:List Int):List (Int×Value):=out.map fun s=>(s, .bool true)
theorem Zjt (out:List Int) (s:Int):(Ko (ikv (TF out)) (.int .i64 s)).getD (.bool false)= .bool (out.elem s):=by
 rw [ZbW]
 induction out with
 |nil=>rfl
 | cons x l ih=>
   unfold TF at ih ⊢;rw [Xw,Gm,List.elem_cons];by_cases h:s=x
   · subst h;simp
   · (have h1:(s==x)=false:=by simpa using h);rw [h1];simp [h,Ne.symm h];simpa using ih
theorem Zju {out:List Int} {s:Int} (h:out.elem s=false):K' (ikv (TF out)) (.int .i64 s) (.bool true)=ikv (TF (out++[s])):=by
 rw [ZbX]
 congr 1
 induction out with
 |nil=>rfl
 | cons x l ih=>
   rw [List.elem_cons] at h;have h1:(s==x)=false:=by cases h2:(s==x)<;>simp_all
   have h2:l.elem s=false:=by simp_all
   have h3:¬s=x:=by simpa using h1
   unfold TF at ih ⊢;rw [Xw,HP];simp [h3,Ne.symm h3];simpa using ih h2
def GC (out:List Int) (s:Int):List Int:=if out.elem s then out else out++[s]
def clH (h5 h6 m r:Value) (out:List Int):List (Nat×Ent):=[(1001,h5, .own 197 1 1 [.val m]),(1002,h6, .own 36 1 1 [.val r]),(1003,m, .omap (ikv (TF out))),(1004,r, .own 3 1 out.length (out.map pInt))]
theorem DG (s:Int) (h5 h6 m r:Value) (out:List Int) (hl:out.length≤1000000) (hm:m.oneCell'=true) (hr:r.oneCell'=true):AFh False prog 155 [(0, .int .i64 s,pInt s),(1,padd (sbase h5) 0, .val (padd (sbase h5) 0)),(2,padd (sbase h6) 0, .val (padd (sbase h6) 0))]
 (clH h5 h6 m r out) (fun v q h=>q= .val v∧∃r':Value,r'.oneCell'=true∧h=clH h5 h6 m r' (GC out s)):=by
 have hu:=Zjt out s
 refine AFh.of_body 14 func155 rfl ntmps155 (Xa rfl) rfl ?_
 intro w0 M0 N0
 refine Ze ?_
 ((refine yL 4 (Zk 1001 R3) fun v4 h=>?_;cases h)<;>refine xL 5 Zb (xL 6 (HS 1003 Ee) (xL 7 Ya ?_))<;>refine Zc ?_)
 refine cX ?_ ?_<;>intro hb7
 · first |exact bN hb7|(
 (have hn:out.elem s=false:=by simpa using hb7);have hp:=Zju hn;refine Ze ?_;((refine yL 8 (Zk 1001 R3) fun v8 h=>?_;cases h)<;>refine xL 9 Zb ?_<;>(refine LN 1003 Ee ?_;rw [hp])<;>refine Zi ?_)
 ((refine yL 10 (Zk 1002 Zy) fun v10 h=>?_;cases h)<;>refine xL 11 Zb ?_<;>refine ZO (kk:=1) 12 Zn fun h12 ho12=>?_<;>refine ZW 1004 12 13 Zn fun h13 ho13=>?_<;>refine YL 1002 Zy We ?_<;>refine Zc ?_)
 first
  | (refine Kq (ZC (l:=13) 1004 rfl rfl) fun _=>?_
     refine Sm (clH h5 h6 m _ (out++[s])) (results155) ⟨rfl,rfl,rfl,?_,trivial⟩ ⟨rfl,_,ho13,?_⟩
     · rw [Xu,Xb];rfl
     · unfold GC;rw [hn];rfl)
  | (refine Sm (clH h5 h6 m r out) (results155) ⟨rfl,rfl,rfl,rfl,trivial⟩ ⟨rfl,r,hr,?_⟩
     unfold GC;rw [UT (by simpa using hb7)]))
 · first |exact bN hb7|(
 refine nav ?_
 first
  | (refine Kq (ZC (l:=13) 1004 rfl rfl) fun _=>?_
     refine Sm (clH h5 h6 m _ (out++[s])) (results155) ⟨rfl,rfl,rfl,?_,trivial⟩ ⟨rfl,_,ho13,?_⟩
     · rw [Xu,Xb];rfl
     · unfold GC;rw [hn];rfl)
  | (refine Sm (clH h5 h6 m r out) (results155) ⟨rfl,rfl,rfl,rfl,trivial⟩ ⟨rfl,r,hr,?_⟩
     unfold GC;rw [UT (by simpa using hb7)]))
theorem K2:FldT prog 196 1 1=true:=by kernel_rfl
theorem J3:NoAgg prog 194=true:=by kernel_rfl
theorem J4:SlT prog 194 37 1=true:=by kernel_rfl
theorem ZeM:(prog.info? 197).map (·.size)=some 1:=by kernel_rfl
theorem ZeN:ZeroT prog 197 (.map none):=by unfold ZeroT;kernel_rfl
theorem Zhj:ZeroT prog 36 (.slice none 0 0):=by unfold ZeroT;kernel_rfl
theorem nodup_len:∀(n:Nat) (L:List Int),L.Nodup→(∀s∈L,0≤s∧s<n)→L.length≤n
 |0,[],_,_=>Xg _
 |0,x::_,_,h=>by have:=h x (Xm ..);omega
 | n +1,L,hn,h=>by
   have h1:=nodup_len n (L.erase (n:Int)) (hn.erase _) fun s hs=>by
    have h2:=(hn.mem_erase_iff).1 hs;have h3:=h s h2.2;have:=h2.1;omega
   have h2:=List.length_erase (a:=(n:Int)) (l:=L);split at h2<;>omega
def OutOk (n:Int) (out:List Int):Prop:=out.Nodup∧∀s∈out,0≤s∧s<n
theorem OutOk.len {n:Int} {out:List Int} (h:OutOk n out):out.length≤n.toNat:=nodup_len _ _ h.1 fun s hs=>by have:=h.2 s hs;omega
theorem OutOk.add {n:Int} {out:List Int} {s:Int} (h:OutOk n out) (hs:0≤s∧s<n):OutOk n (GC out s):=by
 unfold GC
 split
 · exact h
 · rename_i h1;refine ⟨?_,fun t ht=>?_⟩
   · rw [VE];refine ⟨h.1,sM,fun a ha b hb=>?_⟩;simp only [Xi] at hb;subst hb;intro e;subst e;exact h1 (by simpa using ha)
   · rw [Xp,Xi] at ht;rcases ht with ht|rfl
     · exact h.2 t ht
     · exact hs
def Y4 (l:List Int) (out:List Int):List Int:=l.foldl GC out
theorem OutOk.all {n:Int}:∀(l:List Int) {out:List Int},OutOk n out→(∀s∈l,0≤s∧s<n)→OutOk n (Y4 l out)
 |[],_,h,_=>h
 |x::l,_,h,hl=>OutOk.all l (h.add (hl x (Xm ..))) fun s hs=>hl s (Xn _ hs)
theorem Zcn {l:List Int} {k:Nat} {x:Int} (h:l[k]? =some x) (out:List Int):Y4 (l.take (k+1)) out=GC (Y4 (l.take k) out) x:=by
 unfold Y4;rw [ZR h,Vv];rfl
def WL (ms:List Mv):List Int:=(ms.filter fun m=>decide (m.sym= -1)).map (·.dst)
theorem ZeO {ms:List Mv} {k:Nat} {m:Mv} (h:ms[k]? =some m) (hs:m.sym= -1):WL (ms.take (k+1))=WL (ms.take k)++[m.dst]:=by
 unfold WL;rw [ZR h,XU,Xu];simp [hs]
theorem ζk {ms:List Mv} {k:Nat} {m:Mv} (h:ms[k]? =some m) (hs:¬m.sym= -1):WL (ms.take (k+1))=WL (ms.take k):=by
 unfold WL;rw [ZR h,XU,Xu];simp [hs]
def R4 (a:Aut) (out:List Int) (i:Nat):List Int:=match out[i]? with
 |some s=>Y4 (WL (movesOf a s.toNat)) out
 |none=>out
def WC (a:Aut) (l:List Int):Nat→List Int
 |0=>Y4 l []
 |i+1=>R4 a (WC a l i) i
def YN (a:Aut) (l:List Int):List Int:=(WC a l a.n.toNat).mergeSort fun x y=>decide (x≤y)
def LO (a:Aut):Prop:=∀m∈a.moves,0≤m.dst∧m.dst<a.n
theorem ζl {a:Aut} (h:LO a) (s:Nat):∀t∈WL (movesOf a s),0≤t∧t<a.n:=fun t ht=>by
 unfold WL movesOf at ht
 simp only [Xk,X0] at ht
 obtain ⟨m,⟨⟨h1,_⟩,_⟩,rfl⟩:=ht
 exact h m h1
theorem TG {a:Aut} {l:List Int} (h:LO a) (hl:∀s∈l,0≤s∧s<a.n):∀i,OutOk a.n (WC a l i)
 |0=>OutOk.all l ⟨Vb,sM⟩ hl
 | i+1=>by
   rw [WC,R4];split
   · exact OutOk.all _ (TG h hl i) (ζl h _)
   · exact TG h hl i
theorem ζm {a:Aut} {l:List Int} {i:Nat} (h:(WC a l i).length≤i):∀j,WC a l (i+j)=WC a l i
 |0=>rfl
 | j+1=>by
   rw [←XY,WC,ζm h j,R4,XM oM]
theorem Zco {a:Aut} {l:List Int} {i n:Nat} (h:(WC a l i).length≤i) (hi:i≤n):WC a l n=WC a l i:=by
 have:=ζm h (n-i)
 rwa [show i+(n-i)=n by omega] at this
theorem Zl3 {ms:List Mv} {k:Nat} {m:Mv} (h:ms[k]? =some m) (hs:m.sym= -1) (out:List Int):GC (Y4 (WL (ms.take k)) out) m.dst=Y4 (WL (ms.take (k+1))) out:=by
 rw [ZeO h hs];unfold Y4;rw [Vv];rfl
theorem Zjv {a:Aut} (h:LO a) (s k:Nat):∀t∈WL ((movesOf a s).take k),0≤t∧t<a.n:=fun t ht=>by
 refine ζl h s t ?_
 unfold WL at ht ⊢
 simp only [Xk,X0] at ht ⊢
 obtain ⟨m,⟨h1,h2⟩,h3⟩:=ht
 exact ⟨m,⟨VJ h1,h2⟩,h3⟩
theorem ZeP:Zns prog 156:=fun blk cap zs w hH hb hn=>Tryz.slices_Sort_int blk 0 cap zs w hH hb hn
theorem Zcp:H5 prog 156:=fun p cap w=>Tryz.slices_Sort_int_none p cap w
set_option maxHeartbeats 2000000 in
theorem TH (a : Aut) (l:List Int) (hn:a.n≤2000) (hm:LO a) (hl:∀s∈l,0≤s∧s<a.n):AF prog 111 [pGr a,pInts l] (· = .own 3 1 (YN a l).length ((YN a l).map pInt)):=by
 refine AF.of_body 57 func111 rfl ntmps111 (Xa rfl) ?_
 intro w0 M0 vs hl hv
 obtain ⟨v0,v1,rfl⟩:=YI hl
 clear hl hv
 refine YZ 1 rfl fun hlen=>?_
 refine Ze ?_
 (refine xL 4 Za ?_<;>refine Zi ?_)
 (refine GI 13 fun h13 ho13=>?_<;>refine Zw [(.map none)] 1 5 ZeN fun h5=>?_<;>refine YL 5 R3 ZeM ?_<;>refine Zi ?_)
 (refine Zw [(.slice none 0 0)] 1 6 Zhj fun h6=>?_<;>refine Zi ?_)
 (refine xL 14 ZaJ (xL 7 Za ?_)<;>refine Zc ?_)
 refine Zq (KB 200 3 1 rfl) fun _=>?_
 refine Zq (ZC (l:=5) 1001 rfl rfl) fun _=>?_
 refine Zq (ZC (l:=6) 1002 rfl rfl) fun _=>?_
 refine Zq (ZC (l:=13) 1003 rfl rfl) fun _=>?_
 refine Zq (ZC (l:=200) 1004 rfl rfl) fun _=>?_
 (refine Zv ?_<;>refine xL 15 Zb (xL 16 (ZT Zp) (xL 17 Zb ?_))<;>refine Zc ?_)
 refine ZD (ι:={q:Nat×Value//q.1≤l.length∧q.2.oneCell'=true}) (fun k=>⟨[(0,_,_),(5,_,_),(6,_,_),(7,_,_),(15,_,_),(16,_,_),(17, .int .i64 k.1.1,pInt k.1.1)],[(1001,h5, .own 197 1 1 [.val h13]),(1002,h6, .own 36 1 1 [.val k.1.2]),(1003,h13, .omap (ikv (TF (Y4 (l.take k.1.1) [])))),(1004,k.1.2, .own 3 1 (Y4 (l.take k.1.1) []).length ((Y4 (l.take k.1.1) []).map pInt))]⟩) (fun k=>l.length-k.1.1) ⟨(0, .slice none 0 0),Xd _,rfl⟩ (fun a w H=>H.weaken ⟨rfl,rfl,rfl,rfl,rfl,rfl,rfl,trivial⟩ ⟨rfl,rfl,rfl,rfl,trivial⟩) ?_
 rintro ⟨⟨k,r⟩,hk,hr⟩
 dsimp only
 dsimp only at hk hr
 have hok:OutOk a.n (Y4 (l.take k) []):=OutOk.all _ ⟨Vb,sM⟩ (fun s hs=>hl s (VJ hs))
 have hol:(Y4 (l.take k) []).length≤1000000:=by have:=hok.len;omega
 refine Ze ?_
 (refine xL 18 ZP ?_<;>refine Zc ?_)
 refine cX ?_ ?_<;>intro hb18
 · first|exact bN hb18|(
 obtain ⟨x,hx⟩:=Zt (show k<l.length by omega);have e1:=Z7 (f:=pInt) hx;refine Ze ?_;(refine xL 19 (ZI Zp) ?_<;>(refine yL 20 (Z9 Zg) fun v20 h=>?_;cases h)<;>refine xL 9 Za ?_<;>refine Zi ?_)
 (refine xL 21 Zb (xL 22 Zb ?_)<;>(refine WQ (clH h5 h6 h13 r (Y4 (l.take k) [])) ⟨rfl,rfl,rfl,rfl,trivial⟩ ?_;refine ZiX [] 23 (call155) (DG x h5 h6 h13 r (Y4 (l.take k) []) hol ho13 hr) ?_;rintro v23 _ _ ⟨rfl,r2,hr2,rfl⟩;rw [←Zcn hx])<;>refine Zi ?_)
 (refine xL 24 ZG (xL 17 Zb ?_)<;>refine Zc ?_)
 refine Zm (
  ⟨(k+1,r2),Zf hx,hr2⟩
  ) (by dsimp only;omega) ⟨rfl,rfl,rfl,rfl,rfl,rfl,rfl,trivial⟩ ⟨rfl,rfl,rfl,rfl,trivial⟩)
 · first | exact bN hb18|(
 rw [show Y4 (l.take k) []=WC a l 0 by rw [Xj oM];rfl];refine Ze ?_;(refine xL 10 Za ?_<;>refine Zc ?_)
 refine ZD (ι:={q:Nat×Value//q.1≤a.n.toNat∧q.2.oneCell'=true}) (fun k=>⟨[(0,_,_),(5,_,_),(6,_,_),(7,_,_),(10, .int .i64 k.1.1,pInt k.1.1)],[(1001,h5, .own 197 1 1 [.val h13]),(1002,h6, .own 36 1 1 [.val k.1.2]),(1003,h13, .omap (ikv (TF (WC a l k.1.1)))),(1004,k.1.2, .own 3 1 (WC a l k.1.1).length ((WC a l k.1.1).map pInt))]⟩) (fun k=>a.n.toNat-k.1.1) ⟨(0,r),Xd _,hr⟩ (fun a w H=>H.weaken ⟨rfl,rfl,rfl,rfl,rfl,trivial⟩ ⟨rfl,rfl,rfl,rfl,trivial⟩) ?_;rintro ⟨⟨i,r3⟩,hi,hr3⟩;dsimp only;dsimp only at hi hr3;have hok3:=TG hm hl i;have hlen3:=hok3.len;refine Ze ?_;(refine xL 25 Zb ?_<;>(refine yL 26 (Zk 1002 Zy) fun v26 h=>?_;cases h)<;>refine xL 27 (YF 1004 Zp) (xL 28 ZP ?_)<;>refine Zc ?_)
 refine cX ?_ ?_<;>intro hb28
 · first | exact bN hb28|(
 obtain ⟨s,hs⟩:=Zt (show i<(WC a l i).length by omega);have hsr:=hok3.2 s (Xc hs);have e1:=Z7 (f:=pInt) hs;(have e2:((List.range a.n.toNat).map fun s=>pMvs (movesOf a s))[s.toNat*1]? =some (pMvs (movesOf a s.toNat)):=by rw [Xq,G7 oM]);have e2':s.toNat<a.n.toNat:=oM;refine nav ?_;(refine ZZ (fun i=>([]:List Nat).elem i) [1001,1002,1003,1004] kR ?_<;>refine xD 0 31 rfl Zb ?_<;>refine xD 1 32 rfl RR ?_<;>refine xD 2 33 rfl (Js K2) ?_<;>(refine yD 3 34 rfl (Z9 J3) fun v34 h=>?_;cases h)<;>(refine yD 4 35 rfl (Zk 1002 Zy) fun v35 h=>?_;cases h)<;>refine xD 5 36 rfl Zb ?_<;>refine xD 6 37 rfl (Yh 1004 Zp) ?_<;>(refine yD 7 38 rfl (Zk 1004 Zg) fun v38 h=>?_;cases h)<;>refine xD 8 39 rfl (Sg J4) ?_<;>(refine yD 9 40 rfl (Z9 ZA) fun v40 h=>?_;cases h)<;>refine xD 10 41 rfl (ZT ZK) ?_<;>refine xE 11 42 rfl Zb ?_<;>refine Yw kR (nav ?_)<;>try dsimp only)
 refine YZ 40 rfl fun hlen40=>?_;refine ZD (ι:={q:Nat×Value//q.1≤(movesOf a s.toNat).length∧q.2.oneCell'=true}) (fun k=>⟨[(0,_,_),(5,_,_),(6,_,_),(7,_,_),(10,_,_),(40,_,_),(41,_,_),(42, .int .i64 k.1.1,pInt k.1.1)],[(1001,h5, .own 197 1 1 [.val h13]),(1002,h6, .own 36 1 1 [.val k.1.2]),(1003,h13, .omap (ikv (TF (Y4 (WL ((movesOf a s.toNat).take k.1.1)) (WC a l i))))),(1004,k.1.2, .own 3 1 (Y4 (WL ((movesOf a s.toNat).take k.1.1)) (WC a l i)).length ((Y4 (WL ((movesOf a s.toNat).take k.1.1)) (WC a l i)).map pInt))]⟩) (fun k=>(movesOf a s.toNat).length-k.1.1) ⟨(0,r3),Xd _,hr3⟩ (fun a w H=>H.weaken ⟨rfl,rfl,rfl,rfl,rfl,rfl,rfl,rfl,trivial⟩ ⟨rfl,rfl,rfl,rfl,trivial⟩) ?_;rintro ⟨⟨k,r4⟩,hk4,hr4⟩;dsimp only;dsimp only at hk4 hr4;have hok4:OutOk a.n (Y4 (WL ((movesOf a s.toNat).take k)) (WC a l i)):=OutOk.all _ hok3 (Zjv hm _ _);(have hol4:(Y4 (WL ((movesOf a s.toNat).take k)) (WC a l i)).length≤1000000:=by have:=hok4.len;omega);refine Ze ?_;(refine xL 43 ZP ?_<;>refine Zc ?_)
 refine cX ?_ ?_<;>intro hb43
 · first | exact bN hb43|(
 obtain ⟨mv,hmv⟩:=Zt (show k<(movesOf a s.toNat).length by omega);have e3:=Ym Z2 (movesOf a s.toNat) k mv hmv;have e4:=YK Z2 hmv;refine Ze ?_;(refine xL 44 (ZI ZK) ?_<;>(refine yL 45 (Wn ZX) fun v45 h=>?_;cases h)<;>refine Zw [(.int .i64 0),(.int .i64 0),(.int .i64 0)] 3 12 Kh fun h12=>?_<;>refine ZE 12 ZX ?_<;>refine Zi ?_)
 (refine xL 46 (Zd 12 Yj) ?_<;>(refine yL 47 (Zk 12 Zg) fun v47 h=>?_;cases h)<;>refine xL 48 Ye ?_<;>refine Zc ?_)
 refine cX ?_ ?_<;>intro hb48
 · first |exact bN hb48|(
 refine Ze ?_;(refine xL 49 Zb (xL 50 (Zd 12 Yg) ?_)<;>(refine yL 51 (Zk 12 Zg) fun v51 h=>?_;cases h)<;>(refine WQ (clH h5 h6 h13 r4 (Y4 (WL ((movesOf a s.toNat).take k)) (WC a l i))) ⟨rfl,rfl,rfl,rfl,trivial⟩ ?_;refine ZiX [] 52 (call155) (DG mv.dst h5 h6 h13 r4 (Y4 (WL ((movesOf a s.toNat).take k)) (WC a l i)) hol4 ho13 hr4) ?_;rintro v52 _ _ ⟨rfl,r5,hr5,rfl⟩;rw [Zl3 hmv hb48])<;>refine Zi ?_)
 (refine xL 53 ZG (xL 42 Zb ?_)<;>refine Zc ?_)
 try rw [←ζk hmv (by assumption)]
 first
  | (exact Zm (
      ⟨(k+1,r5),Zf hmv,hr5⟩
      ) (by dsimp only;omega) ⟨rfl,rfl,rfl,rfl,rfl,rfl,rfl,rfl,trivial⟩ ⟨rfl,rfl,rfl,rfl,trivial⟩)
  | (exact Zm (
      ⟨(k+1,r4),Zf hmv,hr4⟩
      ) (by dsimp only;omega) ⟨rfl,rfl,rfl,rfl,rfl,rfl,rfl,rfl,trivial⟩ ⟨rfl,rfl,rfl,rfl,trivial⟩))
 · first |exact bN hb48|(
 refine Ze ?_;(refine xL 53 ZG (xL 42 Zb ?_)<;>refine Zc ?_)
 try rw [←ζk hmv (by assumption)]
 first
  | (exact Zm (
      ⟨(k+1,r5),Zf hmv,hr5⟩
      ) (by dsimp only;omega) ⟨rfl,rfl,rfl,rfl,rfl,rfl,rfl,rfl,trivial⟩ ⟨rfl,rfl,rfl,rfl,trivial⟩)
  | (exact Zm (
      ⟨(k+1,r4),Zf hmv,hr4⟩
      ) (by dsimp only;omega) ⟨rfl,rfl,rfl,rfl,rfl,rfl,rfl,rfl,trivial⟩ ⟨rfl,rfl,rfl,rfl,trivial⟩)))
 · first|exact bN hb43|(
 rw [show Y4 (WL ((movesOf a s.toNat).take k)) (WC a l i)=WC a l (i+1) by rw [WC,R4,hs,Xj oM]];refine Ze ?_;(refine xL 29 Zb (xL 30 ZG (xL 10 Za ?_))<;>refine Zc ?_)
 refine Zm (
  ⟨(i+1,r4),by dsimp only;omega,hr4⟩
  ) (by dsimp only;omega) ⟨rfl,rfl,rfl,rfl,rfl,trivial⟩ ⟨rfl,rfl,rfl,rfl,trivial⟩))
 · first|exact bN hb28|(
 have hE:WC a l a.n.toNat=WC a l i:=Zco oM hi;refine Ze ?_;((refine yL 54 (Zk 1002 Zy) fun v54 h=>?_;cases h)<;>(rcases X7 (WC a l i).length with h0|h0<;>first|(refine ZlN (zs:=WC a l i) 1004 ZeP (call156) ?_ h0)|(rw [XR h0];refine H6 1004 Zcp (call156) ?_))<;>refine Zc ?_)<;>(
 (refine Zv ?_<;>(refine yL 56 (Zk 1002 Zy) fun v56 h=>?_;cases h)<;>refine xL 4 Za ?_<;>refine Zc ?_)
 refine Kb 1004 (results111) rfl rfl ?_;unfold YN;rw [hE,UC]
 all_goals first
  |rfl
  |(rw [XR h0,List.mergeSort_nil]))))
def Jw (c:Int) (ms:List Mv):List Int:=(ms.filter fun m=>decide (m.sym=c)).map (·.dst)
theorem Zhk {c:Int} {ms:List Mv} {k:Nat} {m:Mv} (h:ms[k]? =some m) (hs:m.sym=c):Jw c (ms.take (k+1))=Jw c (ms.take k)++[m.dst]:=by
 unfold Jw;rw [ZR h,XU,Xu];simp [hs]
theorem Zcq {c:Int} {ms:List Mv} {k:Nat} {m:Mv} (h:ms[k]? =some m) (hs:¬m.sym=c):Jw c (ms.take (k+1))=Jw c (ms.take k):=by
 unfold Jw;rw [ZR h,XU,Xu];simp [hs]
def KG (a:Aut) (c:Int) (l:List Int):List Int:=l.flatMap fun s=>Jw c (movesOf a s.toNat)
theorem ZeQ (a:Aut) (c:Int) {l:List Int} {k:Nat} {s:Int} (h:l[k]? =some s):KG a c (l.take (k+1))=KG a c (l.take k)++Jw c (movesOf a s.toNat):=by
 unfold KG;rw [ZR h,XN];simp
theorem ζn (c:Int) (ms:List Mv):(Jw c ms).length≤ms.length:=by unfold Jw;rw [Xe];exact Vg _ _
theorem DI (a:Aut) (s:Nat):(movesOf a s).length≤a.moves.length:=Vg _ _
theorem ζo (a:Aut) (c:Int):∀l:List Int,(KG a c l).length≤l.length*a.moves.length
 |[]=>by simp [KG]
 | x::l=>by
   have h1:=ζo a c l;have h2:=ζn c (movesOf a x.toNat);have h3:=DI a x.toNat;have h4:KG a c (x::l)=Jw c (movesOf a x.toNat)++KG a c l:=rfl;rw [h4,Xb,Xl,X8];omega
theorem Ki {a:Aut} (h:LO a) (c:Int) (l:List Int):∀t∈KG a c l,0≤t∧t<a.n:=fun t ht=>by
 unfold KG Jw movesOf at ht
 simp only [XP,Xk,X0] at ht
 obtain ⟨s,_,m,⟨⟨h1,_⟩,_⟩,rfl⟩:=ht
 exact h m h1
theorem P5 (e:Nat) (L:List Int) (x:Int):PV.own e 1 (L.length+1) (L.map pInt++[pInt x])= .own e 1 (L++[x]).length ((L++[x]).map pInt):=sM
def Yz (a:Aut) (c:Int) (l:List Int):List Int:=YN a (KG a c l)
set_option maxHeartbeats 2000000 in
theorem Hy (a : Aut) (l:List Int) (c:Int) (hn:a.n≤2000) (hmv:a.moves.length≤20000) (hm:LO a) (hl:∀s∈l,0≤s∧s<a.n) (hll:l.length≤2000):AF prog 112 [pGr a,pInts l,pInt c] (· = .own 3 1 (Yz a c l).length ((Yz a c l).map pInt)):=by
 refine AF.of_body 44 func112 rfl ntmps112 (Xa rfl) ?_
 intro w0 M0 vs hl hv
 obtain ⟨v0,v1,v2,rfl⟩:=LX hl
 obtain rfl:=hv 2 _ _ rfl rfl
 clear hl hv
 refine Ze ?_
 (refine xL 6 Za ?_<;>refine Zi ?_)
 (refine xL 7 Za ?_<;>refine Zc ?_)
 refine Zq (KB 200 3 1 rfl) fun _=>?_
 (refine Zv ?_<;>refine xL 12 Zb (xL 13 (ZT Zp) (xL 14 Zb ?_))<;>refine Zc ?_)
 refine ZD (ι:={q:Nat×Value//q.1≤l.length∧q.2.oneCell'=true}) (fun k=>⟨[(0,_,_),(2,_,_),(12,_,_),(13,_,_),(7,k.1.2, .val k.1.2),(14, .int .i64 k.1.1,pInt k.1.1)],[(200,k.1.2, .own 3 1 (KG a c (l.take k.1.1)).length ((KG a c (l.take k.1.1)).map pInt))]⟩) (fun k=>l.length-k.1.1) ⟨(0, .slice none 0 0),Xd _,rfl⟩ (fun a w H=>H.weaken ⟨rfl,rfl,rfl,rfl,rfl,rfl,trivial⟩ ⟨rfl,trivial⟩) ?_
 rintro ⟨⟨k,r⟩,hk,hr⟩
 dsimp only
 dsimp only at hk hr
 have hlk:=ζo a c (l.take k)
 refine Ze ?_
 (refine xL 15 ZP ?_<;>refine Zc ?_)
 refine cX ?_ ?_<;>intro hb15
 · first | exact bN hb15|(
 obtain ⟨s,hs⟩:=Zt (show k<l.length by omega);have hsr:=hl s (Xc hs);have e1:=Z7 (f:=pInt) hs;(have e2:((List.range a.n.toNat).map fun s=>pMvs (movesOf a s))[s.toNat*1]? =some (pMvs (movesOf a s.toNat)):=by rw [Xq,G7 oM]);have e2':s.toNat<a.n.toNat:=oM;have hml:=DI a s.toNat;have hlk2:(KG a c (l.take k)).length≤40000000:=by
  refine XL hlk ?_;(have h5:(l.take k).length≤2000:=by rw [Xo];omega);exact XL (VI h5 hmv) dC
 obtain ⟨A,hA⟩:∃A,A=KG a c (l.take k):=⟨_,rfl⟩;rw [←hA] at hlk2 ⊢;refine Ze ?_;(refine xL 16 (ZI Zp) ?_<;>(refine yL 17 (Z9 Zg) fun v17 h=>?_;cases h)<;>refine xL 9 Za ?_<;>refine Zi ?_)
 (refine xL 18 Zb (xL 19 RR (xL 20 (Js K2) ?_))<;>(refine yL 21 (Z9 J3) fun v21 h=>?_;cases h)<;>refine xL 22 Zb (xL 23 (Sg J4) ?_)<;>(refine yL 24 (Z9 ZA) fun v24 h=>?_;cases h)<;>refine xL 25 (ZT ZK) (xL 26 Zb ?_)<;>refine Zc ?_)
 rw [show A=A++Jw c ((movesOf a s.toNat).take 0) from (Xr A).symm];refine ZD (ι:={q:Nat×Value//q.1≤(movesOf a s.toNat).length∧q.2.oneCell'=true}) (fun k=>⟨[(0,_,_),(2,_,_),(12,_,_),(13,_,_),(14,_,_),(24,_,_),(25,_,_),(7,k.1.2, .val k.1.2),(26, .int .i64 k.1.1,pInt k.1.1)],[(200,k.1.2, .own 3 1 (A++Jw c ((movesOf a s.toNat).take k.1.1)).length ((A++Jw c ((movesOf a s.toNat).take k.1.1)).map pInt))]⟩) (fun k=>(movesOf a s.toNat).length-k.1.1) ⟨(0,r),Xd _,hr⟩ (fun a w H=>H.weaken ⟨rfl,rfl,rfl,rfl,rfl,rfl,rfl,rfl,rfl,trivial⟩ ⟨rfl,trivial⟩) ?_;rintro ⟨⟨j,r4⟩,hj4,hr4⟩;dsimp only;dsimp only at hj4 hr4;have hbl:=ζn c ((movesOf a s.toNat).take j);rw [Xo] at hbl;(have hol:(A++Jw c ((movesOf a s.toNat).take j)).length≤41000000:=by rw [Xb];omega);refine Ze ?_;(refine xL 27 ZP ?_<;>refine Zc ?_)
 refine cX ?_ ?_<;>intro hb27
 · first | exact bN hb27|(
 obtain ⟨mv,hmv2⟩:=Zt (show j<(movesOf a s.toNat).length by omega);have e3:=Ym Z2 (movesOf a s.toNat) j mv hmv2;have e4:=YK Z2 hmv2;refine Ze ?_;(refine xL 28 (ZI ZK) ?_<;>(refine yL 29 (Wn ZX) fun v29 h=>?_;cases h)<;>refine Zw [(.int .i64 0),(.int .i64 0),(.int .i64 0)] 3 11 Kh fun h11=>?_<;>refine ZE 11 ZX ?_<;>refine Zi ?_)
 (refine xL 30 (Zd 11 Yj) ?_<;>(refine yL 31 (Zk 11 Zg) fun v31 h=>?_;cases h)<;>refine xL 32 Zb (xL 33 Ye ?_)<;>refine Zc ?_)
 refine cX ?_ ?_<;>intro hb33
 · first |exact bN hb33|(
 refine Ze ?_;(refine xL 34 Zb (xL 35 (Zd 11 Yg) ?_)<;>(refine yL 36 (Zk 11 Zg) fun v36 h=>?_;cases h)<;>refine ZO (kk:=1) 37 Zn fun h37 ho37=>?_<;>(refine WQ [(200,_,_),(37,_,_)] ⟨rfl,rfl,trivial⟩ ?_;refine ZW 200 37 38 Zn fun h38 ho38=>?_;refine Zs (ZC (l:=38) 200 rfl rfl) fun _=>?_;refine WQ [(200,h38,PV.own 3 1 (A++Jw c ((movesOf a s.toNat).take (j+1))).length ((A++Jw c ((movesOf a s.toNat).take (j+1))).map pInt))] ⟨(by rw [Zhk hmv2 hb33,←Xy,←P5];rfl),trivial⟩ ?_)<;>refine xL 7 Za ?_<;>refine Zi ?_)
 (refine xL 39 ZG (xL 26 Zb ?_)<;>refine Zc ?_)
 try rw [←Zcq hmv2 (by assumption)]
 first
  | (exact Zm (
      ⟨(j+1,h38),Zf hmv2,ho38⟩
      ) (by dsimp only;omega) ⟨rfl,rfl,rfl,rfl,rfl,rfl,rfl,rfl,rfl,trivial⟩ ⟨rfl,trivial⟩)
  | (exact Zm (
      ⟨(j+1,r4),Zf hmv2,hr4⟩
      ) (by dsimp only;omega) ⟨rfl,rfl,rfl,rfl,rfl,rfl,rfl,rfl,rfl,trivial⟩ ⟨rfl,trivial⟩))
 · first |exact bN hb33|(
 refine Ze ?_;(refine xL 39 ZG (xL 26 Zb ?_)<;>refine Zc ?_)
 try rw [←Zcq hmv2 (by assumption)]
 first
  | (exact Zm (
      ⟨(j+1,h38),Zf hmv2,ho38⟩
      ) (by dsimp only;omega) ⟨rfl,rfl,rfl,rfl,rfl,rfl,rfl,rfl,rfl,trivial⟩ ⟨rfl,trivial⟩)
  | (exact Zm (
      ⟨(j+1,r4),Zf hmv2,hr4⟩
      ) (by dsimp only;omega) ⟨rfl,rfl,rfl,rfl,rfl,rfl,rfl,rfl,rfl,trivial⟩ ⟨rfl,trivial⟩)))
 · first|exact bN hb27|(
 rw [show A++Jw c ((movesOf a s.toNat).take j)=KG a c (l.take (k+1)) by rw [Xj oM,ZeQ a c hs,hA]];refine Ze ?_;(refine xL 40 ZG (xL 14 Zb ?_)<;>refine Zc ?_)
 refine Zm (
  ⟨(k+1,r4),Zf hs,hr4⟩
  ) (by dsimp only;omega) ⟨rfl,rfl,rfl,rfl,rfl,rfl,trivial⟩ ⟨rfl,trivial⟩))
 · first|exact bN hb15|(
 refine Ze ?_;(refine xL 41 Zb (xL 42 Zb ?_)<;>(refine Zs (En.freeze (l:=200) (t:=42) rfl rfl) fun _=>?_;rw [ZS _ _ _ rfl];refine cO 43 (cA call111 (TH a (KG a c (l.take k)) hn hm (Ki hm c _))) fun v43 ho43=>?_)<;>refine xL 6 Za ?_<;>refine Zc ?_)
 refine Kb 43 (results112) rfl rfl ?_;rw [Xj oM];rfl)
def Srt (l:List Int):Prop:=l.Pairwise (· < ·)
theorem Rf:∀{l m:List Int},Srt l→Srt m→(∀x,x∈l↔x∈m)→l=m
 |[],[],_,_,_=>rfl
 |[],y::m,_,_,h=>UU ((h y).2 (Xm ..)) sM
 |x::l,[],_,_,h=>UU ((h x).1 (Xm ..)) sM
 | x ::l,y::m,hl,hm,h=>by
   have hl':=XQ.1 hl;have hm':=XQ.1 hm;have hxy:x=y:=by
    have h1:=(h x).1 (Xm ..);have h2:=(h y).2 (Xm ..);rcases Xs.1 h1 with e|h1
    · exact e
    · rcases Xs.1 h2 with e|h2
      · exact e.symm
      · have:=hm'.1 x h1;have:=hl'.1 y h2;omega
   subst hxy;congr 1;refine Rf hl'.2 hm'.2 fun z=>⟨fun hz=>?_,fun hz=>?_⟩
   · rcases Xs.1 ((h z).1 (Xn _ hz)) with e|h1
     · have:=hl'.1 z hz;omega
     · exact h1
   · rcases Xs.1 ((h z).2 (Xn _ hz)) with e|h1
     · have:=hm'.1 z hz;omega
     · exact h1
theorem Srt.filter {l:List Int} (h:Srt l) (p:Int→Bool):Srt (l.filter p):=List.Pairwise.filter p h
inductive Rch (a:Aut) (l:List Int):Int→Prop
 |base {s:Int} (h:s∈l):Rch a l s
 |step {s:Int} {m:Mv} (h:Rch a l s) (hm:m∈a.moves) (hs:m.src=s) (hc:m.sym= -1):Rch a l m.dst
theorem Zhl {out:List Int} {s t:Int}:t∈GC out s↔t∈out∨t=s:=by
 unfold GC;split
 · rename_i h;constructor
   · exact .inl
   · rintro (h1|rfl)
     · exact h1
     · simpa using h
 · simp
theorem G8:∀(l:List Int) {out:List Int} {t:Int},t∈Y4 l out↔t∈out∨t∈l
 |[],out,t=>by simp [Y4]
 | x::l,out,t=>by
   show t∈Y4 l (GC out x)↔_;rw [G8 l,Zhl,Xs];exact or_assoc
theorem Zhm (out:List Int) (s:Int):out<+:GC out s:=by
 unfold GC;split
 · exact Vx _
 · exact Ut _ _
theorem Ef:∀(l out:List Int),out<+:Y4 l out
 |[],out=>Vx _
 |x::l,out=>(Zhm out x).trans (Ef l (GC out x))
theorem Zhn (a:Aut) (l:List Int) (i:Nat):WC a l i<+:WC a l (i+1):=by
 rw [WC,R4];split
 · exact Ef _ _
 · exact Vx _
theorem P6 (a:Aut) (l:List Int) (i:Nat):∀j,WC a l i<+:WC a l (i+j)
 |0=>Vx _
 |j+1=>(P6 a l i j).trans (Zhn a l (i+j))
theorem Zl4 {l m:List Int} (h:l<+:m) {i:Nat} {x:Int} (hx:l[i]? =some x):m[i]? =some x:=by
 obtain ⟨r,rfl⟩:=h
 rw [Vj (Zf hx)];exact hx
theorem Eg {a:Aut} {s:Int} (h0:0≤s) {t:Int}:t∈WL (movesOf a s.toNat)↔∃m∈a.moves,m.src=s∧m.sym= -1∧m.dst=t:=by
 unfold WL movesOf
 simp only [Xk,X0,UP]
 constructor
 · rintro ⟨m,⟨⟨h1,h2⟩,h3⟩,h4⟩;exact ⟨m,h1,oM,h3,h4⟩
 · rintro ⟨m,h1,h2,h3,h4⟩;exact ⟨m,⟨⟨h1,oM⟩,h3⟩,h4⟩
theorem TI {a:Aut} {l:List Int} (h:LO a) (hl:∀s∈l,0≤s∧s<a.n):∀i t,t∈WC a l i→Rch a l t
 | 0,t,ht=>by
   rw [WC,G8] at ht;exact .base (by simpa using ht)
 | i + 1,t,ht=>by
   rw [WC,R4] at ht;split at ht
   · rename_i s hs;rcases (G8 _).1 ht with h1|h1
     · exact TI h hl i t h1
     · have hsm:=Xc hs;obtain ⟨m,h2,h3,h4,rfl⟩:=(Eg ((TG h hl i).2 s hsm).1).1 h1;exact .step (TI h hl i s hsm) h2 h3 h4
   · exact TI h hl i t ht
theorem Zho {a:Aut} {l:List Int} (h:LO a) (hl:∀s∈l,0≤s∧s<a.n) {t:Int} (ht:Rch a l t):t∈WC a l a.n.toNat:=by
 induction ht with
 | base h1=>
   have h2:WC a l 0<+:WC a l (0+a.n.toNat):=P6 a l 0 a.n.toNat;rw [Xv] at h2;refine h2.subset ?_;rw [WC,G8];exact .inr h1
 | @step s m h1 hm hs hc ih=>
   obtain ⟨i,hi⟩:=XV ih;have hil:=Zf hi;have hok:=TG h hl a.n.toNat;have hlen:=hok.len;have h3:i<(WC a l i).length:=by
    rcases XD i (WC a l i).length with h4|h4
    · exact h4
    · have h5:=Zco h4 (show i≤a.n.toNat by omega);rw [h5] at hil;omega
   have h4:(WC a l i)[i]? =some s:=by
    have h5:=P6 a l i (a.n.toNat-i);rw [show i+(a.n.toNat-i)=a.n.toNat by omega] at h5;obtain ⟨x,hx⟩:=Zt h3;rw [hx,←hi];exact (Zl4 h5 hx).symm
   have h5:m.dst∈WC a l (i+1):=by
    rw [WC,R4,h4];refine (G8 _).2 (.inr ((Eg (hok.2 s ih).1).2 ⟨m,hm,hs,hc,rfl⟩))
   have h6:=P6 a l (i+1) (a.n.toNat-(i+1));rw [show i+1+(a.n.toNat-(i+1))=a.n.toNat by omega] at h6;exact h6.subset h5
theorem K3 {a:Aut} {l:List Int} (h:LO a) (hl:∀s∈l,0≤s∧s<a.n) (t:Int):t∈YN a l↔Rch a l t:=by
 unfold YN
 rw [List.mem_mergeSort]
 exact ⟨TI h hl _ t,Zho h hl⟩
theorem KA {a:Aut} {l:List Int} (h:LO a) (hl:∀s∈l,0≤s∧s<a.n):Srt (YN a l):=by
 have h1:(YN a l).Pairwise (fun x y=>decide (x≤y)=true):=Ur (fun a b c h1 h2=>by simp only [UP] at*;omega) (fun a b=>by simp only [X5,UP];omega) _
 have h2:(YN a l).Nodup:=(Us _ _).nodup_iff.2 (TG h hl _).1
 unfold Srt
 exact (h1.and h2).imp fun {x y} ⟨h3,h4⟩=>by simp only [UP] at h3;omega
theorem ZeR {a:Aut} {l:List Int} (h:LO a) (hl:∀s∈l,0≤s∧s<a.n) {t:Int} (ht:Rch a l t):0≤t∧t<a.n:=by
 cases ht with
 |base h1=>exact hl t h1
 |step _ hm _ _=>exact h _ hm
theorem L9 {a:Aut} {l:List Int} (h:LO a) (hl:∀s∈l,0≤s∧s<a.n):∀t∈YN a l,0≤t∧t<a.n:=fun t ht=>ZeR h hl ((K3 h hl t).1 ht)
theorem L' {a:Aut} {l:List Int} (h:LO a) (hl:∀s∈l,0≤s∧s<a.n):(YN a l).length≤a.n.toNat:=by
 unfold YN
 rw [UC];exact (TG h hl _).len
theorem Jx {a:Aut} {c:Int} {l:List Int} (hl:∀s∈l,0≤s∧s<a.n) {t:Int}:t∈KG a c l↔∃m∈a.moves,m.src∈l∧m.sym=c∧m.dst=t:=by
 unfold KG Jw movesOf
 simp only [XP,Xk,X0,UP]
 constructor
 · rintro ⟨s,hs,m,⟨⟨h1,h2⟩,h3⟩,h4⟩;have:=hl s hs;exact ⟨m,h1,by rw [h2,show ((s.toNat:Nat):Int)=s by omega];exact hs,h3,h4⟩
 · rintro ⟨m,h1,h2,h3,h4⟩;have:=hl _ h2;exact ⟨m.src,h2,m,⟨⟨h1,oM⟩,h3⟩,h4⟩
def Ja (m:Mv) (d:Int):Int:=if 0≤m.sym then d+1 else d
def Gq (far:List Int) (m:Mv):List Int:=
 match far[m.dst.toNat]?,far[m.src.toNat]? with
 |some d,some e=>if 0≤d∧(e<0∨Ja m d<e) then far.set m.src.toNat (Ja m d) else far
 |_,_=>far
def passF (ms:List Mv) (far:List Int):List Int:=ms.foldl Gq far
def LD (a:Aut):List Int:=(List.range a.n.toNat).map fun s=>if Gz a (s:Nat) then 0 else-1
def WG (a:Aut):Nat→List Int
 |0=>LD a
 |k+1=>passF a.moves (WG a k)
def Wt (a:Aut):List Int:=WG a (a.n.toNat*a.n.toNat+1)
def cntD (far:List Int):Nat:=far.countP fun d=>decide (0≤d)
def wgt (n:Nat) (d:Int):Nat:=if 0≤d then d.toNat else n
def sumF (n:Nat) (far:List Int):Nat:=(far.map (wgt n)).sum
structure FarOk (n:Nat) (far:List Int):Prop where
 len:far.length=n
 lo:∀d∈far,-1≤d
 hi:∀d∈far,d<cntD far
theorem ZaV (far:List Int):cntD far≤far.length:=List.countP_le_length
theorem Zcr:∀(far:List Int) (i:Nat) (e d:Int),far[i]? =some e→0≤d→cntD (far.set i d)=cntD far+(if 0≤e then 0 else 1)
 |[],i,e,d,h,_=>by simp at h
 | x::far,0,e,d,h,hd=>by
   simp only [Vw,Option.some.injEq] at h;subst h;unfold cntD;rw [List.set_cons_zero,UG,UG,UQ hd];by_cases hx:0≤x<;>simp [hx]
 | x::far,i+1,e,d,h,hd=>by
   simp only [V7] at h;have:=Zcr far i e d h hd;unfold cntD at this ⊢;rw [List.set_cons_succ,UG,UG,this];omega
theorem Zcs:∀(n:Nat) (far:List Int) (i:Nat) (e d:Int),far[i]? =some e→sumF n (far.set i d)+wgt n e=sumF n far+wgt n d
 |n,[],i,e,d,h=>by simp at h
 | n,x::far,0,e,d,h=>by
   simp only [Vw,Option.some.injEq] at h;subst h;unfold sumF;rw [List.set_cons_zero,Xw,Xw,Uu,Uu];omega
 | n,x::far,i+1,e,d,h=>by
   simp only [V7] at h;have:=Zcs n far i e d h;unfold sumF at this ⊢;rw [List.set_cons_succ,Xw,Xw,Uu,Uu];omega
theorem Zjw (m:Mv) (d:Int):d≤Ja m d∧Ja m d≤d+1:=by unfold Ja;split<;>omega
theorem OP {n:Nat} {far:List Int} (h:FarOk n far) {m:Mv} {d e:Int} (hd:far[m.dst.toNat]? =some d) (he:far[m.src.toNat]? =some e) (h0:0≤d) (h1:e<0∨Ja m d<e):
 FarOk n (far.set m.src.toNat (Ja m d))∧sumF n (far.set m.src.toNat (Ja m d))<sumF n far:=by
 have hs:=Zjw m d
 have hdc:=h.hi d (Xc hd)
 have hec:=h.hi e (Xc he)
 have hc:=Zcr far m.src.toNat e (Ja m d) he oM
 have hsum:=Zcs n far m.src.toNat e (Ja m d) he
 have hcl:=ZaV (far.set m.src.toNat (Ja m d))
 rw [Xt,h.len] at hcl
 refine ⟨⟨by rw [Xt];exact h.len,fun x hx=>?_,fun x hx=>?_⟩,?_⟩
 · rcases List.mem_or_eq_of_mem_set hx with h2|rfl
   · exact h.lo x h2
   · omega
 · rw [hc];rcases List.mem_or_eq_of_mem_set hx with h2|rfl
   · have:=h.hi x h2;split<;>omega
   · split<;>omega
 · unfold wgt at hsum;rw [UT (show 0≤Ja m d by omega)] at hsum;rcases h1 with h1|h1
   · rw [US oM] at hsum hc;omega
   · rw [UT oM] at hsum;omega
theorem DJ {n:Nat} {far:List Int} (h:FarOk n far) (m:Mv):FarOk n (Gq far m)∧(Gq far m=far∨sumF n (Gq far m)<sumF n far):=by
 unfold Gq
 split
 · rename_i d e hd he;split
   · rename_i h1;have:=OP h hd he h1.1 h1.2;exact ⟨this.1, .inr this.2⟩
   · exact ⟨h, .inl rfl⟩
 · exact ⟨h, .inl rfl⟩
theorem LF {n:Nat}:∀(ms:List Mv) {far:List Int},FarOk n far→FarOk n (passF ms far)∧(passF ms far=far∨sumF n (passF ms far)<sumF n far)
 |[],far,h=>⟨h, .inl rfl⟩
 | m ::ms,far,h=>by
   obtain ⟨h1,h2⟩:=DJ h m;obtain ⟨h3,h4⟩:=LF ms h1;refine ⟨h3,?_⟩;show passF ms (Gq far m)=far∨_;rcases h2 with h2|h2
   · rw [h2] at h4;show passF ms (Gq far m)=far∨sumF n (passF ms (Gq far m))<sumF n far;rw [h2];exact h4
   · right
     show sumF n (passF ms (Gq far m))<sumF n far;rcases h4 with h4|h4
     · rw [h4];exact h2
     · omega
theorem DK {n:Nat}:∀(ms:List Mv) {far:List Int},FarOk n far→passF ms far=far→∀m∈ms,Gq far m=far
 |[],far,h,_,m,hm=>by simp at hm
 | x ::ms,far,h,he,m,hm=>by
   obtain ⟨h1,h2⟩:=DJ h x;obtain ⟨h3,h4⟩:=LF ms h1;have he':passF ms (Gq far x)=far:=he;have hx:Gq far x=far:=by
    rcases h2 with h2|h2
    · exact h2
    · rcases h4 with h4|h4
      · rw [he'] at h4;exact h4.symm
      · rw [he'] at h4;omega
   rcases Xs.1 hm with rfl|hm
   · exact hx
   · rw [hx] at he';exact DK ms h he' m hm
theorem ZeS {a:Aut} {s:Nat} (h:s<a.n.toNat):(LD a)[s]? =some (if Gz a (s:Nat) then 0 else-1):=by
 unfold LD;rw [Xh,Uh h];rfl
theorem ZeT (a:Aut):FarOk a.n.toNat (LD a):=by
 refine ⟨by unfold LD;simp,fun d hd=>?_,fun d hd=>?_⟩
 · unfold LD at hd;obtain ⟨s,_,rfl⟩:=Xk.1 hd;split<;>omega
 · have hd2:=hd;unfold LD at hd2;obtain ⟨s,_,hs⟩:=Xk.1 hd2;by_cases h0:0≤d
   · have h1:0<cntD (LD a):=List.countP_pos_iff.2 ⟨d,hd,UQ h0⟩;split at hs<;>omega
   · omega
theorem Ta (a:Aut):∀k,FarOk a.n.toNat (WG a k)
 |0=>ZeT a
 |k+1=>(LF a.moves (Ta a k)).1
theorem Zl5 {n:Nat} {far:List Int} (h:FarOk n far):sumF n far≤n*n:=by
 have hc:=ZaV far
 rw [h.len] at hc
 have key:∀(l:List Int),(∀d∈l,d<(n:Int))→(l.map (wgt n)).sum≤l.length*n:=fun l=>by
  induction l with
  |nil=>intro _;simp
  | cons x l ih=>
    intro hx;have h1:=ih fun d hd=>hx d (Xn _ hd);have h2:=hx x (Xm ..);rw [Xw,Uu,Xl,X8];(have h3:wgt n x≤n:=by unfold wgt;split<;>omega);omega
 have:=key far fun d hd=>by have:=h.hi d hd;omega
 rw [h.len] at this;exact this
theorem TJ {a:Aut} {k:Nat} (h:passF a.moves (WG a k)=WG a k):∀j,WG a (k+j)=WG a k
 |0=>rfl
 |j+1=>by rw [←XY,WG,TJ h j,h]
theorem ζp (a:Aut):passF a.moves (Wt a)=Wt a:=by
 have key:∀k,(∃j,j≤k∧passF a.moves (WG a j)=WG a j)∨sumF a.n.toNat (WG a k)+k≤a.n.toNat*a.n.toNat:=fun k=>by
  induction k with
  |zero=>exact .inr (Zl5 (Ta a 0))
  | succ k ih=>
    rcases ih with ⟨j,h1,h2⟩|h
    · exact .inl ⟨j,oM,h2⟩
    · rcases (LF a.moves (Ta a k)).2 with h1|h1
      · exact .inl ⟨k,oM,h1⟩
      · right;rw [WG];omega
 rcases key (a.n.toNat*a.n.toNat+1) with ⟨j,h1,h2⟩|h
 · have h3:=TJ h2 (a.n.toNat*a.n.toNat+1-j);rw [show j+(a.n.toNat*a.n.toNat+1-j)=a.n.toNat*a.n.toNat+1 by omega] at h3;unfold Wt;rw [h3,h2]
 · omega
theorem Zl6 {a:Aut} {k:Nat} (h:passF a.moves (WG a k)=WG a k):Wt a=WG a k:=by
 have h1:=ζp a
 unfold Wt at h1 ⊢
 rcases Nat.le_total k (a.n.toNat*a.n.toNat+1) with h2|h2
 · have h3:=TJ h (a.n.toNat*a.n.toNat+1-k);rwa [show k+(a.n.toNat*a.n.toNat+1-k)=a.n.toNat*a.n.toNat+1 by omega] at h3
 · have h3:=TJ h1 (k-(a.n.toNat*a.n.toNat+1));rw [show a.n.toNat*a.n.toNat+1+(k-(a.n.toNat*a.n.toNat+1))=k by omega] at h3;exact h3.symm
theorem Hz (a:Aut):FarOk a.n.toNat (Wt a):=Ta a _
theorem Zct {a:Aut} {m:Mv} (hm:m∈a.moves) {d e:Int} (hd:(Wt a)[m.dst.toNat]? =some d) (he:(Wt a)[m.src.toNat]? =some e) (h0:0≤d):0≤e∧e≤Ja m d:=by
 have h1:=DK a.moves (Hz a) (ζp a) m hm
 unfold Gq at h1
 rw [hd,he] at h1
 dsimp only at h1
 split at h1
 · rename_i h2;have h3:=OP (Hz a) hd he h2.1 h2.2;rw [h1] at h3;omega
 · rename_i h2;omega
abbrev Pf:=List Int×List Int
def Wy (a:Aut) (S:List Int):Bool:=S.any (Gz a)
def InS (a:Aut) (S:List Int):Prop:=∀s∈S,0≤s∧s<a.n
def LP (a:Aut) (n:Int) (p:Pf) (c:Nat):List Pf:=if (WF (Yz a c p.2) (Wt a) (n-1)).length=0 then [] else [(p.1++[(c:Int)],WF (Yz a c p.2) (Wt a) (n-1))]
def RJ (a:Aut) (n:Int) (p:Pf):List Pf:=(List.range a.syms.toNat).flatMap (LP a n p)
def lvP (a:Aut) (n:Nat):Nat→List Pf
 |0=>[([],WF (YN a a.start) (Wt a) n)]
 |k+1=>(lvP a n k).flatMap (RJ a ((n:Int)-k))
def P7 (a:Aut) (l:List Pf):List (List Int):=(l.filter fun p=>Wy a p.2).map (·.1)
def Tb (a:Aut) (n k:Nat):List (List Int):=(List.range k).flatMap fun i=>P7 a (lvP a n i)
def Zl7 (a:Aut) (n:Nat):Prop:=(∃k,k≤n∧2000<(lvP a n (k+1)).length)∨2000<(Tb a n (n+1)).length
def JX (far:List Int) (b s:Int):Int:=match far[s.toNat]? with
 |some d=>if 0≤d∧(b<0∨d<b) then d else b
 |none=>b
def R6 (far S:List Int):Int:=S.foldl (JX far) (-1)
def Zjx (a:Aut) (n:Int) (p:Pf) (c:Nat):List Pf:=if 0≤R6 (Wt a) (Yz a c p.2)∧R6 (Wt a) (Yz a c p.2)≤n-1 then [(p.1++[(c:Int)],Yz a c p.2)] else []
def Znx (a:Aut) (n:Int) (p:Pf):List Pf:=(List.range a.syms.toNat).flatMap (Zjx a n p)
def lvR (a:Aut) (n:Nat):Nat→List Pf
 |0=>[([],YN a a.start)]
 |k+1=>(lvR a n k).flatMap (Znx a ((n:Int)-k))
theorem Eh {a:Aut} {s:Int} (h:0≤s∧s<a.n):∃d,(Wt a)[s.toNat]? =some d:=Zt (by rw [(Hz a).len];omega)
theorem Sv {a:Aut} {S:List Int} (hS:InS a S) {n:Int} {s:Int}:s∈WF S (Wt a) n↔s∈S∧∃d,(Wt a)[s.toNat]? =some d∧0≤d∧d≤n:=by
 unfold WF Zjq
 rw [X0]
 constructor
 · rintro ⟨h1,h2⟩;obtain ⟨d,hd⟩:=Eh (hS s h1);rw [hd] at h2;simp only [UA,Ud,decide_eq_false_iff_not] at h2;exact ⟨h1,d,hd,oM,oM⟩
 · rintro ⟨h1,d,hd,h2,h3⟩;rw [hd];simp only [UA,Ud,decide_eq_false_iff_not];exact ⟨h1,oM,oM⟩
theorem HA {a:Aut} {S:List Int} (hS:InS a S) (far:List Int) (n:Int):InS a (WF S far n):=fun s hs=>hS s ((X0.1 hs).1)
theorem LG {a:Aut} (h:LO a) (c:Int) (S:List Int):InS a (Yz a c S):=L9 h (Ki h c S)
theorem Zcu {a:Aut} (h:LO a) {c:Int} {S:List Int} {t:Int}:t∈Yz a c S↔Rch a (KG a c S) t:=K3 h (Ki h c S) t
theorem Ei {a:Aut} {S:List Int} (h:Srt S) (far:List Int) (n:Int):Srt (WF S far n):=h.filter _
theorem Zhp {a:Aut} (h:LO a) {S:List Int} (hS:InS a S) {c:Int} (hc:0≤c) (n:Int):WF (Yz a c (WF S (Wt a) n)) (Wt a) (n-1)=WF (Yz a c S) (Wt a) (n-1):=by
 refine Rf (Ei (a:=a) (KA h (Ki h c _)) _ _) (Ei (a:=a) (KA h (Ki h c _)) _ _) fun t=>?_
 rw [Sv (LG h c _),Sv (LG h c _),Zcu h,Zcu h]
 constructor
 · rintro ⟨h1,h2⟩;refine ⟨?_,h2⟩;clear h2;induction h1 with
   | base h3=>
     obtain ⟨m,h4,h5,h6,h7⟩:=(Jx (HA hS _ _)).1 h3;exact .base ((Jx hS).2 ⟨m,h4,(X0.1 h5).1,h6,h7⟩)
   |step _ hm hs hc ih=>exact .step ih hm hs hc
 · rintro ⟨h1,d,hd,h2,h3⟩;refine ⟨?_,d,hd,h2,h3⟩;induction h1 generalizing d with
   | base h3'=>
     obtain ⟨m,h4,h5,h6,rfl⟩:=(Jx hS).1 h3';obtain ⟨e,he⟩:=Eh (hS _ h5);have h8:=Zct h4 hd he h2;unfold Ja at h8;rw [UT oM] at h8;exact .base ((Jx (HA hS _ _)).2 ⟨m,h4,(Sv hS).2 ⟨h5,e,he,h8.1,oM⟩,h6,rfl⟩)
   | @step s m hr hm hs hcc ih=>
     subst hs;obtain ⟨e,he⟩:=Eh (ZeR h (Ki h c _) hr);have h8:=Zct hm hd he h2;unfold Ja at h8;rw [US oM] at h8;exact .step (ih e he h8.1 oM) hm rfl hcc
theorem Ej (far:List Int):∀(S:List Int) (b:Int),-1≤b→
 (S.foldl (JX far) b=b∨∃s∈S,far[s.toNat]? =some (S.foldl (JX far) b)∧0≤S.foldl (JX far) b)∧
 (0≤b→0≤S.foldl (JX far) b∧S.foldl (JX far) b≤b)∧
 (∀s∈S,∀d,far[s.toNat]? =some d→0≤d→0≤S.foldl (JX far) b∧S.foldl (JX far) b≤d)
 |[],b,_=>⟨.inl rfl,fun h=>⟨h,sM⟩,fun s hs=>by simp at hs⟩
 | x :: S,b,hb=>by
   have hb': -1≤JX far b x∧(JX far b x=b∨(far[x.toNat]? =some (JX far b x)∧0≤JX far b x))∧(0≤b→0≤JX far b x∧JX far b x≤b)∧(∀d,far[x.toNat]? =some d→0≤d→0≤JX far b x∧JX far b x≤d):=by
    unfold JX;split
    · rename_i d hd;split
      · rename_i h1;refine ⟨oM, .inr ⟨by first|exact hd|rfl,h1.1⟩,fun h=>oM,fun d' hd' h=>?_⟩
        first
         |(rw [hd] at hd';cases hd';omega)
         |(cases hd';omega)
      · rename_i h1;refine ⟨hb, .inl rfl,fun h=>oM,fun d' hd' h=>?_⟩
        first
         |(rw [hd] at hd';cases hd';omega)
         |(cases hd';omega)
    · rename_i hd;refine ⟨hb, .inl rfl,fun h=>oM,fun d' hd' h=>?_⟩
      first
       |(rw [hd] at hd';cases hd')
       |cases hd'
   obtain ⟨h1,h2,h3⟩:=Ej far S (JX far b x) hb'.1;simp only [VM];refine ⟨?_,fun h=>?_,fun s hs d hd h=>?_⟩
   · rcases h1 with h1|⟨s,hs,h4⟩
     · rcases hb'.2.1 with h5|h5
       · exact .inl (by rw [h1,h5])
       · exact .inr ⟨x,Xm ..,by rw [h1];exact h5⟩
     · exact .inr ⟨s,Xn _ hs,h4⟩
   · have h4:=hb'.2.2.1 h;have h5:=h2 h4.1;omega
   · rcases Xs.1 hs with rfl|hs
     · have h4:=hb'.2.2.2 d hd h;have h5:=h2 h4.1;omega
     · exact h3 s hs d hd h
theorem ZeU {a:Aut} {S:List Int} (hS:InS a S) (n:Int):(WF S (Wt a) n).length=0↔¬(0≤R6 (Wt a) S∧R6 (Wt a) S≤n):=by
 obtain ⟨h1,_,h3⟩:=Ej (Wt a) S (-1) oM
 unfold R6
 constructor
 · rintro h ⟨h4,h5⟩;rcases h1 with h1|⟨s,hs,h6,h7⟩
   · omega
   · have:s∈WF S (Wt a) n:=(Sv hS).2 ⟨hs,_,h6,h7,h5⟩;rw [XR h] at this;simp at this
 · intro h;rcases X7 (WF S (Wt a) n).length with h4|h4
   · exact h4
   · exfalso;obtain ⟨s,hs⟩:=List.exists_mem_of_length_pos h4;obtain ⟨h5,d,hd,h6,h7⟩:=(Sv hS).1 hs;have:=h3 s h5 d hd h6;exact h ⟨this.1,oM⟩
def Zcv (a:Aut) (n:Int) (p:Pf):Pf:=(p.1,WF p.2 (Wt a) n)
theorem Zjy {a:Aut} (h:LO a) {p:Pf} (hp:InS a p.2) (n:Int) (c:Nat):LP a n (Zcv a n p) c=(Zjx a n p c).map (Zcv a (n-1)):=by
 unfold LP Zjx Zcv
 dsimp only
 rw [Zhp h hp oM]
 have h1:=ZeU (LG h c p.2) (n-1)
 by_cases h2:(WF (Yz a c p.2) (Wt a) (n-1)).length=0
 · rw [UT h2,US (h1.1 h2)];rfl
 · rw [US h2,UT (by rcases Classical.em (0≤R6 (Wt a) (Yz a c p.2)∧R6 (Wt a) (Yz a c p.2)≤n-1) with h3|h3;exact h3;exact UU (h1.2 h3) h2)];rfl
theorem Zjz {a:Aut} (h:LO a) (hs:InS a a.start) (n:Nat):∀k,∀p∈lvR a n k,InS a p.2
 | 0,p,hp=>by
   simp only [lvR,Xi] at hp;subst hp;exact L9 h hs
 | k +1,p,hp=>by
   rw [lvR] at hp;obtain ⟨q,_,hq⟩:=XP.1 hp;obtain ⟨c,_,hc⟩:=XP.1 hq;unfold Zjx at hc;split at hc
   · simp only [Xi] at hc;subst hc;exact LG h c _
   · simp at hc
theorem Sx {α β:Type} {l:List α} {f g:α→List β} (h:∀x∈l,f x=g x):l.flatMap f=l.flatMap g:=by
 induction l with
 |nil=>rfl
 |cons x l ih=>rw [Xz,Xz,h x (Xm ..),ih fun y hy=>h y (Xn _ hy)]
theorem ZfV {a:Aut} (h:LO a) (hs:InS a a.start) (n:Nat):∀k,lvP a n k=(lvR a n k).map (Zcv a ((n:Int)-k))
 | 0=>by
   show [_]=[_];unfold Zcv;simp
 | k+1=>by
   rw [lvP,lvR,ZfV h hs n k,List.flatMap_map,Uv];refine Sx fun p hp=>?_;unfold RJ Znx;rw [Uv];refine Sx fun c _=>?_;rw [Zjy h (Zjz h hs n k p hp)];congr 2;omega
theorem Tc (a:Aut) (n k:Nat):Tb a n (k+1)=Tb a n k++P7 a (lvP a n k):=by
 unfold Tb;rw [Ua,XN];simp
theorem ζq (a:Aut) (n:Nat) {j k:Nat} (h:j≤k):(Tb a n j).length≤(Tb a n k).length:=by
 obtain ⟨i,rfl⟩:∃i,k=j+i:=⟨k-j,oM⟩
 clear h
 induction i with
 |zero=>exact Xg _
 |succ i ih=>rw [←XY,Tc,Xb];omega
theorem Zhq {a:Aut} {l:List Pf} {i:Nat} {p:Pf} (h:l[i]? =some p):P7 a (l.take (i+1))=P7 a (l.take i)++(if Wy a p.2 then [p.1] else []):=by
 unfold P7
 rw [ZR h,XU,Xu]
 congr 1
 cases hb:Wy a p.2<;>simp [hb]
theorem Zcw (a:Aut) (l:List Pf):(P7 a l).length≤l.length:=by unfold P7;rw [Xe];exact Vg _ _
theorem Zcx (a:Aut) (l:List Pf) (i:Nat):(P7 a (l.take i)).length≤(P7 a l).length:=by
 unfold P7
 rw [Xe,Xe]
 exact (List.Sublist.filter _ (List.take_sublist i l)).length_le
theorem RL {α β:Type} (f:α→List β) (l:List α) (i:Nat):((l.take i).flatMap f).length≤(l.flatMap f).length:=by
 have:l.flatMap f=(l.take i).flatMap f++(l.drop i).flatMap f:=by rw [←XN,VF]
 rw [this,Xb];omega
theorem Ek {α β:Type} (f:α→List β) {l:List α} {i:Nat} {x:α} (h:l[i]? =some x):(l.take (i+1)).flatMap f=(l.take i).flatMap f++f x:=by
 rw [ZR h,XN];simp
theorem R7 {β:Type} (f:Nat→List β) (k:Nat):(List.range (k+1)).flatMap f=(List.range k).flatMap f++f k:=by
 rw [Ua,XN];simp
end Go.Proofs.YtgfabnhpllkebaaGreatDoor
namespace Go.Cb
set_option linter.all false
open Go.En
def vec {α:Type} (n:Nat) (f:Nat→α):List α:=(List.range n).map f
theorem KH {α:Type} (n:Nat) (f:Nat→α):(vec n f).length=n:=by simp [vec]
theorem ZaW {α:Type} {n i:Nat} (f:Nat→α) (h:i<n):(vec n f)[i]? =some (f i):=by simp [vec,h]
theorem ZaX {α:Type} {n:Nat} {l:List α} {f:Nat→α} (hl:l.length=n) (h:∀i x,l[i]? =some x→x=f i):l=vec n f:=by
 apply Vu
 intro i
 rcases XD i n with hi|hi
 · obtain ⟨x,hx⟩:=Ys (show i<l.length by omega);rw [hx,ZaW f hi,h i x hx]
 · rw [XM oM,XM (by rw [KH];exact hi)]
theorem P8 {α:Type} {n a:Nat} (f:Nat→α) (b:α):(vec n f).set a b=vec n (fun i=>if i=a then b else f i):=by
 refine ZaX (by simp [vec]) fun i x hx=>?_
 have hi:=Zf hx
 rw [Xt,KH] at hi
 rw [List.getElem?_set] at hx
 split at hx
 · rename_i e;subst e;split at hx
   · cases hx;simp
   · cases hx
 · rename_i e;rw [ZaW f hi] at hx
   cases hx;rw [US (fun h=>e h.symm)]
theorem Jy {α:Type} {n:Nat} {f g:Nat→α} (h:∀i,i<n→f i=g i):vec n f=vec n g:=
 VQ fun i hi=>h i (XT.1 hi)
theorem GR {α:Type} (n:Nat) (x:α):List.replicate n x=vec n (fun _=>x):=by
 refine ZaX sM fun i y hy=>?_
 rw [UN] at hy
 split at hy
 · cases hy;rfl
 · cases hy
theorem HB {α β:Type} (n:Nat) (f:Nat→α) (g:α→β):(vec n f).map g=vec n (fun i=>g (f i)):=by simp [vec,Function.comp_def]
abbrev ZeV (n:Nat) (f:Nat→Bool):PV:= .sl n (vec n fun i=>ZM (f i))
def Closed (n:Nat) (f T:Nat→Nat→Bool):Prop:=(∀i j,i<n→j<n→f i j=true→T i j=true)∧∀i j k,i<n→j<n→k<n→T i j=true→T j k=true→T i k=true
def cntF (n:Nat) (f:Nat→Bool):Nat:=((List.range n).filter fun i=> !f i).length
theorem ζr (n:Nat) (f:Nat→Bool):cntF (n+1) f=cntF n f+(if f n then 0 else 1):=by
 unfold cntF
 rw [Ua,XU,Xb]
 cases h:f n<;>simp [h]
theorem ZeW {n:Nat} {f g:Nat→Bool} (h:∀i,i<n→f i=g i):cntF n f=cntF n g:=by
 unfold cntF
 rw [List.filter_congr fun i hi=>by rw [h i (XT.1 hi)]]
theorem Zcy {f:Nat→Bool} {a:Nat} (hf:f a=false):∀{n:Nat},a<n→cntF n (fun i=>if i=a then true else f i)+1=cntF n f
 |0,h=>oM
 | n +1,h=>by
   rw [ζr,ζr];by_cases e:n=a
   · subst e;rw [UT rfl,hf];rw [ZeW (f:=fun i=>if i=n then true else f i) (g:=f) fun i hi=>by rw [US oM]];simp
   · rw [US e];have:=Zcy hf (n:=n) oM;omega
def cntM (n:Nat) (f:Nat→Nat→Bool):Nat:=((List.range n).map fun i=>cntF n (f i)).sum
structure Grows (n:Nat) (E R:Nat→Nat→Bool):Prop where
 lo:∀i j,i<n→j<n→E i j=true→R i j=true
 hi:∀T,Closed n E T→∀i j,i<n→j<n→R i j=true→T i j=true
def Before (a b c a' b' c':Nat):Prop:=a'<a∨(a'=a∧(b'<b∨(b'=b∧c'<c)))
structure Pass (n:Nat) (E R0 R:Nat→Nat→Bool) (ag:Bool) (a b c:Nat):Prop where
 gr:Grows n E R
 dn:ag=true→cntM n R<cntM n R0
 st:ag=false→R=R0∧∀a' b' c',a'<n→b'<n→c'<n→Before a b c a' b' c'→R0 a' b'=true→R0 b' c'=true→R0 a' c'=true
def Conn (l:List Int) (r:Int→Int→Bool) (x y:Int):Prop:=∀P:Int→Prop,(∀a b,a∈l→b∈l→(r a b=true∨r b a=true)→P a→P b)→P x→P y
theorem nodup_len {α:Type} [BEq α] [LawfulBEq α]:∀{l m:List α},l.Nodup→(∀x∈l,x∈m)→l.length≤m.length
 |[],m,_,_=>Xd _
 | x ::l,m,h,hs=>by
   rw [Vf] at h;have hx:=hs x sM;have h1:=nodup_len (l:=l) (m:=m.erase x) h.2 fun y hy=>by
    have hne:y≠x:=fun e=>h.1 (e▸hy);exact (List.mem_erase_of_ne hne).2 (hs y (by simp [hy]))
   rw [UO hx] at h1;have:=List.length_pos_of_mem hx;simp only [Xl];omega
structure Comps (l:List Int) (r:Int→Int→Bool) (cs:List (List Int)):Prop where
 mem:∀x,x∈cs.flatten↔x∈l
 nd:cs.flatten.Nodup
 ne:∀c∈cs,c≠[]
 asc:∀c∈cs,c.Pairwise (· < ·)
 conn:∀c∈cs,∀x∈c,∀y∈c,Conn l r x y
 clos:∀c∈cs,∀x∈c,∀y∈l,(r x y=true∨r y x=true)→y∈c
 ord:cs.Pairwise fun c d=>∀x y,c.head? =some x→d.head? =some y→x<y
structure Part (l:List Int) (r:Int→Int→Bool) (cs:List (List Int)) (k:Nat):Prop where
 sub:∀x∈cs.flatten,x∈l
 did:∀j x,j<k→l[j]? =some x→x∈cs.flatten
 nd:cs.flatten.Nodup
 ne:∀c∈cs,c≠[]
 asc:∀c∈cs,c.Pairwise (· < ·)
 conn:∀c∈cs,∀x∈c,∀y∈c,Conn l r x y
 clos:∀c∈cs,∀x∈c,∀y∈l,(r x y=true∨r y x=true)→y∈c
 ord:cs.Pairwise fun c d=>∀x y,c.head? =some x→d.head? =some y→x<y
 hd:∀c∈cs,∀x,c.head? =some x→∃j,j<k∧l[j]? =some x
structure Mk (l:List Int) (r:Int→Int→Bool) (cs:List (List Int)) (first:Int) (tk cl:List Int) (i q:Nat):Prop where
 tkm:∀z,z∈tk↔z∈cs.flatten∨z∈cl
 nd:(cs.flatten++cl).Nodup
 sub:∀z∈cl,z∈l
 con:∀z∈cl,Conn l r first z
 fst:first∈cl
 il:i≤cl.length
 did:∀j x,j<i→cl[j]? =some x→∀y∈l,(r x y=true∨r y x=true)→y∈tk
 now:∀x,cl[i]? =some x→∀p y,p<q→l[p]? =some y→(r x y=true∨r y x=true)→y∈tk
def sumTo:Nat→(Nat→Nat)→Nat
 |0,_=>0
 |n+1,f=>sumTo n f+f n
def marked (n:Nat) (I:Nat→Bool):List Int:=((List.range n).map fun i:Nat=>(i:Int)).filter fun x=>I x.toNat
structure LabOk (n:Nat) (I:Nat→Bool) (r:Int→Int→Bool) (lab:Nat→Nat):Prop where
 le:∀i,i<n→lab i≤i
 inn:∀i,i<n→I i=true→I (lab i)=true
 conn:∀i,i<n→I i=true→Conn (marked n I) r (lab i) i
def good (n:Nat) (I:Nat→Bool) (t:Nat→Nat→Bool) (lab:Nat→Nat) (a b:Nat):Prop:=a≠b→I a=true→I b=true→t a b=true→lab a=lab b
structure LabPass (n:Nat) (I:Nat→Bool) (r:Int→Int→Bool) (t:Nat→Nat→Bool) (lab0 lab:Nat→Nat) (ag:Bool) (a b:Nat):Prop where
 ok:LabOk n I r lab
 les:ag=true→sumTo n lab<sumTo n lab0
 eq:ag=false→lab=lab0∧∀x y,(x<a∧y<n∨x=a∧y<b)→good n I t lab x y
structure Fix (n:Nat) (I:Nat→Bool) (r:Int→Int→Bool) (t:Nat→Nat→Bool) (lab:Nat→Nat):Prop where
 ok:LabOk n I r lab
 st:∀x y,x<n→y<n→good n I t lab x y
end Go.Cb
namespace Go.Proofs.YtgfabnhpllkebaaGreatDoor
open Go.RowKit Go.Cb Go.En Tryz
set_option linter.all false
theorem El {a b:Int}:Ss a b<0↔a<b:=by unfold Ss;split<;>(try split)<;>omega
theorem Td {a b:Int}:Ss a b=0↔a=b:=by unfold Ss;split<;>(try split)<;>omega
theorem WM {a b:Mv}:Ka a b=true↔a.src<b.src∨(a.src=b.src∧(a.sym<b.sym∨(a.sym=b.sym∧a.dst<b.dst))):=by
 unfold Ka GB
 rw [UP]
 by_cases h1:Ss a.src b.src=0
 · have e1:=Td.1 h1;by_cases h2:Ss a.sym b.sym=0
   · have e2:=Td.1 h2;have h3:=El (a:=a.dst) (b:=b.dst);by_cases h4:Ss a.dst b.dst=0
     · have e4:=Td.1 h4;simp only [Ji,h1,h2,h4,if_true];omega
     · simp only [Ji,h1,h2,h4,if_true,if_false];omega
   · have h3:=El (a:=a.sym) (b:=b.sym);have h4:¬a.sym=b.sym:=fun e=>h2 (Td.2 e);simp only [Ji,h1,h2,if_true,if_false];omega
 · have h3:=El (a:=a.src) (b:=b.src);have h4:¬a.src=b.src:=fun e=>h1 (Td.2 e);simp only [Ji,h1,if_false];omega
theorem Em {α:Type} {r:α→α→Bool} {l:List α} (h:Wv r l=true) (hi:∀a∈l,r a a=false) (ht:∀a∈l,∀b∈l,∀c∈l,r a b=true→r b c=true→r a c=true):l.Pairwise fun a b=>r a b=true:=by
 induction l with
 |nil=>exact .nil
 | cons x l ih=>
   have h1:∀i a b,(x::l)[i]? =some a→(x::l)[i+1]? =some b→r a b=true:=(G0 r _).1 h;have h2:=ih ((G0 r l).2 fun i a b ha hb=>h1 (i+1) a b ha hb) (fun a ha=>hi a (Xn _ ha)) (fun a ha b hb c hc=>ht a (Xn _ ha) b (Xn _ hb) c (Xn _ hc));refine XQ.2 ⟨fun y hy=>?_,h2⟩
   cases l with
   |nil=>simp at hy
   | cons z l=>
     have h3:=h1 0 x z rfl rfl;rcases Xs.1 hy with rfl|hy2
     · exact h3
     · exact ht x sM z sM y (Xn _ hy) h3 ((XQ.1 h2).1 y hy2)
structure AOk (a:Aut):Prop where
 n0:0≤a.n
 n1:a.n≤2000
 s0:0≤a.syms
 s1:a.syms≤40
 ml:a.moves.length≤20000
 st:InS a a.start
 fi:InS a a.fin
 sl:a.start.length≤2000
 fl:a.fin.length≤2000
 mv:∀m∈a.moves,0≤m.src∧m.src<a.n∧0≤m.dst∧m.dst<a.n∧-1≤m.sym∧m.sym<a.syms
theorem AOk.mi {a:Aut} (h:AOk a):LO a:=fun m hm=>by have:=h.mv m hm;omega
theorem ZaY {n:Int} {l:List Int} (h:Lp n l=true):∀s∈l,0≤s∧s<n:=fun s hs=>by
 unfold Lp at h
 simp only [Xf,XB,UP] at h
 exact h.1 s hs
theorem Zcz {n:Int} {l:List Int} (h:Lp n l=true) (h0:0≤n) (hn:n≤2000):l.length≤2000:=by
 have h1:=ZaY h
 unfold Lp at h
 simp only [Xf] at h
 have h2:=Em h.2 (fun a _=>by unfold ltI;exact UR oM) (fun a _ b _ c _ h1 h2=>by
  unfold ltI at*;simp only [UP] at*;omega)
 have:=nodup_len 2000 l (h2.imp fun h=>by unfold ltI at h;simp only [UP] at h;omega) fun s hs=>by have:=h1 s hs;omega
 exact this
theorem Jn {a:Aut} (h:Z4 a=true):AOk a:=by
 unfold Z4 at h
 simp only [Xf,UP] at h
 obtain ⟨⟨⟨⟨⟨⟨⟨⟨h1,h2⟩,h3⟩,h4⟩,h5⟩,h6⟩,h7⟩,h8⟩,h9⟩:=h
 refine ⟨h1,h2,h3,h4,h5,ZaY h6,ZaY h7,Zcz h6 h1 h2,Zcz h7 h1 h2,fun m hm=>?_⟩
 have:=XB.1 h8 m hm
 unfold RE at this
 simp only [Xf,UP] at this
 omega
set_option maxRecDepth 100000
theorem Eo {a:Aut} (h:0≤a.n):ZN a= .agg [pInt (a.n.toNat:Nat),pInt a.syms,pInts a.start,pInts a.fin,pMvs a.moves]:=by
 unfold ZN;rw [show ((a.n.toNat:Nat):Int)=a.n by omega]
def FinK (a:Aut) (k:Nat) (L:List Int):Prop:=L.length=a.n.toNat∧∀s,s<a.n.toNat→L[s]? =some (if (a.fin.take k).any (fun t=>decide (t=(s:Nat))) then 0 else-1)
theorem FinK.start {a:Aut} {L:List Int} (hl:L.length=a.n.toNat) (h:∀j,j<L.length→L[j]? =some (-1)):FinK a 0 L:=⟨hl,fun s hs=>by rw [h s oM];rfl⟩
theorem FinK.step {a:Aut} {k:Nat} {L:List Int} {t:Int} (h:FinK a k L) (ht:a.fin[k]? =some t) (h0:0≤t):FinK a (k+1) (L.set t.toNat 0):=by
 refine ⟨by rw [Xt];exact h.1,fun s hs=>?_⟩
 rw [ZR ht,Vz]
 by_cases e:t.toNat=s
 · subst e;rw [Va (by rw [h.1];exact hs)];simp only [VT,Ub,Vh];rw [UQ (show t=((t.toNat:Nat):Int) by omega),Bool.or_true];rfl
 · rw [Vi e,h.2 s hs];simp only [VT,Ub,Vh];rw [UR (show ¬t=(s:Int) by omega),Vh]
theorem FinK.done {a:Aut} {k:Nat} {L:List Int} (h:FinK a k L) (hk:a.fin.length≤k):L=WG a 0:=by
 apply Vu
 intro s
 rcases XD s a.n.toNat with hs|hs
 · rw [h.2 s hs,show (WG a 0)[s]? =_ from ZeS hs,Xj hk];rfl
 · rw [XM (by rw [h.1];exact hs),XM (by rw [(Ta a 0).len];exact hs)]
structure PassI (a:Aut) (far0 L:List Int) (fl:Bool) (i:Nat):Prop where
 eq:L=passF (a.moves.take i) far0
 ok:FarOk a.n.toNat L
 no:fl=false→L=far0
 yes:fl=true→sumF a.n.toNat L<sumF a.n.toNat far0
theorem PassI.start {a:Aut} {far0:List Int} (h:FarOk a.n.toNat far0):PassI a far0 far0 false 0:=⟨rfl,h,fun _=>rfl,fun h=>Bool.noConfusion h⟩
theorem PassI.set {a:Aut} {far0 L:List Int} {fl:Bool} {i:Nat} {m:Mv} {d e d':Int} (h:PassI a far0 L fl i) (hm:a.moves[i]? =some m) (hd:L[m.dst.toNat]? =some d) (he:L[m.src.toNat]? =some e) (h0:0≤d) (h1:e<0∨d'<e) (hs:d'=Ja m d):PassI a far0 (L.set m.src.toNat d') true (i+1):=by
 subst hs
 have h2:=OP h.ok hd he h0 h1
 refine ⟨?_,h2.1,fun h=>Bool.noConfusion h,fun _=>?_⟩
 · rw [ZR hm];unfold passF;rw [Vv];show _=Gq (passF (a.moves.take i) far0) m;rw [←h.eq];unfold Gq;rw [hd,he];dsimp only;rw [UT ⟨h0,h1⟩]
 · cases hfl:fl
   · rw [←h.no hfl];exact h2.2
   · exact Nat.lt_trans h2.2 (h.yes hfl)
theorem PassI.skip {a:Aut} {far0 L:List Int} {fl:Bool} {i:Nat} {m:Mv} {d e:Int} (h:PassI a far0 L fl i) (hm:a.moves[i]? =some m) (hd:L[m.dst.toNat]? =some d) (he:L[m.src.toNat]? =some e) (h1:¬(0≤d∧(e<0∨Ja m d<e))):PassI a far0 L fl (i+1):=by
 refine ⟨?_,h.ok,h.no,h.yes⟩
 rw [ZR hm]
 unfold passF
 rw [Vv]
 show _=Gq (passF (a.moves.take i) far0) m
 rw [←h.eq]
 unfold Gq
 rw [hd,he]
 dsimp only
 rw [US h1]
theorem PassI.done {a:Aut} {far0 L:List Int} {fl:Bool} {i:Nat} (h:PassI a far0 L fl i) (hi:a.moves.length≤i):L=passF a.moves far0:=by rw [h.eq,Xj hi]
theorem PassI.less {a:Aut} {j i:Nat} {L:List Int} {fl:Bool} (h:PassI a (WG a j) L fl i) (hL:L=WG a (j+1)):sumF a.n.toNat (WG a (j+1))+(if fl then 1 else 0)<sumF a.n.toNat (WG a j)+(if true then 1 else 0):=by
 cases hf:fl
 · have h1:=h.no hf;rw [hL] at h1;rw [h1];simp
 · have h1:=h.yes hf;rw [hL] at h1;simp;omega
theorem ZjA {n:Nat} {L:List Int} (h:FarOk n L) {i:Nat} {d:Int} (hd:L[i]? =some d): -1≤d∧d<n:=by
 have h1:=h.lo d (Xc hd)
 have h2:=h.hi d (Xc hd)
 have h3:=ZaV L
 rw [h.len] at h3
 omega
set_option maxHeartbeats 2000000 in
theorem ZaZ (a : Aut) (h : AOk a):AF prog 139 [ZN a] (· = .own 3 1 a.n.toNat ((Wt a).map pInt)):=by
 have hn0:=h.n0
 have hn1:=h.n1
 have hml:=h.ml
 have hfl:=h.fl
 rw [Eo h.n0]
 refine AF.of_body 80 func139 rfl ntmps139 (Xa rfl) ?_
 intro w0 M0 vs hl hv
 obtain ⟨v0,rfl⟩:=Wl hl
 clear hl hv
 refine Ze ?_
 (refine ZB 1 5 fun h1=>?_<;>refine xL 2 Za ?_<;>refine Zi ?_)
 (refine xL 11 (Zd 1 ZQ) ?_<;>(refine yL 12 (Zk 1 Zg) fun v12 h=>?_;cases h)<;>refine Jm 13 Zn fun h13 ho13=>?_<;>refine xL 3 Za ?_<;>refine Zc ?_)
 rw [show List.replicate a.n.toNat (PV.val (.int .i64 0))=(List.replicate a.n.toNat (0:Int)).map pInt by rw [List.map_replicate]]
 (refine Zv ?_<;>refine xL 14 Zb (xL 15 (YF 13 Zp) (xL 16 Zb ?_))<;>refine Zc ?_)
 refine ZD (ι:={q:Nat×List Int//q.1≤a.n.toNat∧q.2.length=a.n.toNat∧∀j,j<q.1→q.2[j]? =some (-1)}) (fun k=>⟨[(1,_,_),(2,_,_),(3,_,_),(15,_,_),(16, .int .i64 k.1.1,pInt k.1.1)],[(1,_,_),(13,h13, .own 3 1 a.n.toNat (k.1.2.map pInt))]⟩) (fun k=>a.n.toNat-k.1.1) ⟨(0,List.replicate a.n.toNat 0),Xd _,XI,fun j hj=>oM⟩ (fun a w H=>H.weaken ⟨rfl,rfl,rfl,rfl,rfl,trivial⟩ ⟨rfl,rfl,trivial⟩) ?_
 rintro ⟨⟨k,L⟩,hk,hLl,hL⟩
 dsimp only
 dsimp only at hk hLl hL
 have hLm:(L.map pInt).length=a.n.toNat:=by rw [Xe];exact hLl
 refine Ze ?_
 (refine xL 17 ZP ?_<;>refine Zc ?_)
 refine cX ?_ ?_<;>intro hb17
 · first|exact bN hb17|(
 refine Ze ?_;(refine xL 18 Zb (xL 4 Za ?_)<;>refine Zi ?_)
 (refine xL 19 Zb (xL 20 Zb (xL 21 (Yh 13 Zp) ?_))<;>refine YL 13 Zg Wp ?_<;>refine Zi ?_)
 (refine xL 22 ZG (xL 16 Zb ?_)<;>refine Zc ?_)
 rw [Xq,←VU];refine Zm (
  ⟨(k+1,L.set k (-1)),by dsimp only;omega,by rw [Xt];exact hLl,fun j hj=>by
    dsimp only at hj ⊢;by_cases e:k=j
    · subst e;rw [Va oM]
    · rw [Vi e];exact hL j oM⟩
  ) (by dsimp only;omega) ⟨rfl,rfl,rfl,rfl,rfl,trivial⟩ ⟨rfl,rfl,trivial⟩)
 · first | exact bN hb17 | (
 have hF0:FinK a 0 L:=FinK.start hLl fun j hj=>hL j oM;refine Ze ?_;(refine xL 23 (Zd 1 Z0) ?_<;>(refine yL 24 (Zk 1 Zy) fun v24 h=>?_;cases h)<;>refine xL 25 (ZT Zp) (xL 26 Zb ?_)<;>refine Zc ?_)
 refine ZD (ι:={q:Nat×List Int//q.1≤a.fin.length∧FinK a q.1 q.2}) (fun k=>⟨[(1,_,_),(2,_,_),(3,_,_),(24,_,_),(25,_,_),(26, .int .i64 k.1.1,pInt k.1.1)],[(1,_,_),(13,h13, .own 3 1 a.n.toNat (k.1.2.map pInt))]⟩) (fun k=>a.fin.length-k.1.1) ⟨(0,L),Xd _,hF0⟩ (fun a w H=>H.weaken ⟨rfl,rfl,rfl,rfl,rfl,rfl,trivial⟩ ⟨rfl,rfl,trivial⟩) ?_;rintro ⟨⟨k8,L8⟩,hk8,hF8⟩;dsimp only;dsimp only at hk8 hF8;(have hLm8:(L8.map pInt).length=a.n.toNat:=by rw [Xe];exact hF8.1);refine Ze ?_;(refine xL 27 ZP ?_<;>refine Zc ?_)
 refine cX ?_ ?_<;>intro hb27
 · first|exact bN hb27|(
 obtain ⟨t,ht⟩:=Zt (show k8<a.fin.length by omega);have e1:=Z7 (f:=pInt) ht;have ht2:=h.fi t (Xc ht);refine Ze ?_;(refine xL 28 (ZI Zp) ?_<;>(refine yL 29 (Z9 Zg) fun v29 h=>?_;cases h)<;>refine xL 6 Za ?_<;>refine Zi ?_)
 (refine xL 30 Zb (xL 31 Zb (xL 32 (W4 13 Zp) ?_))<;>refine YL 13 Zg Wp ?_<;>refine Zi ?_)
 (refine xL 33 ZG (xL 26 Zb ?_)<;>refine Zc ?_)
 rw [Xq,←VU];refine Zm (
  ⟨(k8+1,L8.set t.toNat 0),Zf ht,hF8.step ht ht2.1⟩
  ) (by dsimp only;omega) ⟨rfl,rfl,rfl,rfl,rfl,rfl,trivial⟩ ⟨rfl,rfl,trivial⟩)
 · first | exact bN hb27 |(
 have hF9:=hF8.done oM;subst hF9;refine Ze ?_;(refine xL 7 Za ?_<;>refine Zc ?_)
 refine ZD (ι:={q:Nat×Bool//q.2=false→passF a.moves (WG a q.1)=WG a q.1}) (fun k=>⟨[(1,_,_),(2,_,_),(3,_,_),(7, .bool k.1.2,ZM k.1.2)],[(1,_,_),(13,h13, .own 3 1 a.n.toNat ((WG a k.1.1).map pInt))]⟩) (fun k=>sumF a.n.toNat (WG a k.1.1)+(if k.1.2 then 1 else 0)) ⟨(0,true),fun h=>Bool.noConfusion h⟩ (fun a w H=>H.weaken ⟨rfl,rfl,rfl,rfl,trivial⟩ ⟨rfl,rfl,trivial⟩) ?_;rintro ⟨⟨j,ag⟩,hag⟩;dsimp only;dsimp only at hag;refine Ze ?_;(refine xL 34 Zb ?_<;>refine Zc ?_)
 refine cX ?_ ?_<;>intro hb34
 · first | exact bN hb34|(
 refine Ze ?_;(refine xL 7 Za ?_<;>refine Zi ?_)
 (refine xL 35 (Zd 1 Zx) ?_<;>(refine yL 36 (Zk 1 ZA) fun v36 h=>?_;cases h)<;>refine xL 37 (ZT ZK) (xL 38 Zb ?_)<;>refine Zc ?_)
 refine ZD (ι:={q:Nat×List Int×Bool//q.1≤a.moves.length∧PassI a (WG a j) q.2.1 q.2.2 q.1}) (fun k=>⟨[(1,_,_),(2,_,_),(3,_,_),(36,_,_),(37,_,_),(7, .bool k.1.2.2,ZM k.1.2.2),(38, .int .i64 k.1.1,pInt k.1.1)],[(1,_,_),(13,h13, .own 3 1 a.n.toNat (k.1.2.1.map pInt))]⟩) (fun k=>a.moves.length-k.1.1) ⟨(0,WG a j,false),Xd _,PassI.start (Ta a j)⟩ (fun a w H=>H.weaken ⟨rfl,rfl,rfl,rfl,rfl,rfl,rfl,trivial⟩ ⟨rfl,rfl,trivial⟩) ?_;rintro ⟨⟨i,L2,fl⟩,hi,hP⟩;dsimp only;dsimp only at hi hP;refine Ze ?_;(refine xL 39 ZP ?_<;>refine Zc ?_)
 refine cX ?_ ?_<;>intro hb39
 · first | exact bN hb39|(
 obtain ⟨m,hm⟩:=Zt (show i<a.moves.length by omega);have e1:=Ym Z2 a.moves i m hm;have e2:=YK Z2 hm;have hmv:=h.mv m (Xc hm);have hLl:=hP.ok.len;obtain ⟨d,hd⟩:=Zt (show m.dst.toNat<L2.length by omega);obtain ⟨e,he⟩:=Zt (show m.src.toNat<L2.length by omega);have hdb:=ZjA hP.ok hd;have heb:=ZjA hP.ok he;have e3:=Z7 (f:=pInt) hd;have e4:=Z7 (f:=pInt) he;(have hLm2:(L2.map pInt).length=a.n.toNat:=by rw [Xe];exact hLl);refine Ze ?_;(refine xL 40 (ZI ZK) ?_<;>(refine yL 41 (Wn ZX) fun v41 h=>?_;cases h)<;>refine Zw [(.int .i64 0),(.int .i64 0),(.int .i64 0)] 3 9 Kh fun h9=>?_<;>refine ZE 9 ZX ?_<;>refine Zi ?_)
 (refine xL 42 Zb (xL 43 (Zd 9 Yg) ?_)<;>(refine yL 44 (Zk 9 Zg) fun v44 h=>?_;cases h)<;>refine xL 45 (W4 13 Zp) ?_<;>(refine yL 46 (Zk 13 Zg) fun v46 h=>?_;cases h)<;>refine xL 47 ZP ?_<;>refine Zc ?_)
 refine cX ?_ ?_<;>intro hb47
 · first |exact bN hb47|(
 refine Ze ?_;(refine xL 78 ZG (xL 38 Zb ?_)<;>refine Zc ?_)
 try rw [Xq,←VU]
 first
  | (exact Zm (
      ⟨(i+1,L2.set m.src.toNat (d+1),true),Zf hm,hP.set hm hd he oM (by first|omega|(simp at hb72;omega)) oM⟩
      ) (by dsimp only;omega) ⟨rfl,rfl,rfl,rfl,rfl,rfl,rfl,trivial⟩ ⟨rfl,rfl,trivial⟩)
  | (exact Zm (
      ⟨(i+1,L2.set m.src.toNat d,true),Zf hm,hP.set hm hd he oM (by first|omega|(simp at hb72;omega)) oM⟩
      ) (by dsimp only;omega) ⟨rfl,rfl,rfl,rfl,rfl,rfl,rfl,trivial⟩ ⟨rfl,rfl,trivial⟩)
  | (exact Zm (
      ⟨(i+1,L2,fl),Zf hm,hP.skip hm hd he (by first|omega|(simp at hb72;omega))⟩
      ) (by dsimp only;omega) ⟨rfl,rfl,rfl,rfl,rfl,rfl,rfl,trivial⟩ ⟨rfl,rfl,trivial⟩))
 · first | exact bN hb47|(
 refine Ze ?_;(refine xL 48 Zb (xL 49 (Zd 9 Yg) ?_)<;>(refine yL 50 (Zk 9 Zg) fun v50 h=>?_;cases h)<;>refine xL 51 (W4 13 Zp) ?_<;>(refine yL 52 (Zk 13 Zg) fun v52 h=>?_;cases h)<;>refine xL 10 Za ?_<;>refine Zi ?_)
 (refine xL 53 (Zd 9 Yj) ?_<;>(refine yL 54 (Zk 9 Zg) fun v54 h=>?_;cases h)<;>refine xL 55 Wi ?_<;>refine Zc ?_)
 refine cX ?_ ?_<;>intro hb55
 · first | exact bN hb55|(
 (have hst:Ja m d=d+1:=by unfold Ja;rw [UT oM]);refine Ze ?_;(refine xL 56 Zb (xL 57 ZG (xL 10 Za ?_))<;>refine Zi ?_)
 (refine xL 58 Zb (xL 59 (Zd 9 Yb) ?_)<;>(refine yL 60 (Zk 9 Zg) fun v60 h=>?_;cases h)<;>refine xL 61 (W4 13 Zp) ?_<;>(refine yL 62 (Zk 13 Zg) fun v62 h=>?_;cases h)<;>refine xL 63 ZP (xL 64 Zb ?_)<;>(refine bLd 64 (fun hb64=>?_) (fun hb64=>?_)<;>(first|refine kL 65 ?_|refine xL 65 Zb ?_))<;>(first|refine kL 66 ?_|refine xL 66 Zb ?_)<;>(first|refine kL 67 ?_|refine xL 67 (Zd 9 Yb) ?_)<;>(first|refine kL 68 ?_|(refine yL 68 (Zk 9 Zg) fun v68 h=>?_;cases h))<;>(first|refine kL 69 ?_|refine xL 69 (W4 13 Zp) ?_)<;>(first|refine kL 70 ?_|(refine yL 70 (Zk 13 Zg) fun v70 h=>?_;cases h))<;>(first|refine kL 71 ?_|refine xL 71 ZP ?_)<;>refine xL 72 ZF ?_<;>refine Zc ?_)<;>(
 refine cX ?_ ?_<;>intro hb72
 · first |exact bN hb72|(
 refine Ze ?_;(refine xL 73 Zb (xL 74 (Zd 9 Yb) ?_)<;>(refine yL 75 (Zk 9 Zg) fun v75 h=>?_;cases h)<;>refine xL 76 Zb (xL 77 (W4 13 Zp) ?_)<;>refine YL 13 Zg Wp ?_<;>refine Zi ?_)
 (refine xL 7 Za ?_<;>refine Zi ?_)
 (refine xL 78 ZG (xL 38 Zb ?_)<;>refine Zc ?_)
 try rw [Xq,←VU]
 first
  | (exact Zm (
      ⟨(i+1,L2.set m.src.toNat (d+1),true),Zf hm,hP.set hm hd he oM (by first|omega|(simp at hb72;omega)) oM⟩
      ) (by dsimp only;omega) ⟨rfl,rfl,rfl,rfl,rfl,rfl,rfl,trivial⟩ ⟨rfl,rfl,trivial⟩)
  | (exact Zm (
      ⟨(i+1,L2.set m.src.toNat d,true),Zf hm,hP.set hm hd he oM (by first|omega|(simp at hb72;omega)) oM⟩
      ) (by dsimp only;omega) ⟨rfl,rfl,rfl,rfl,rfl,rfl,rfl,trivial⟩ ⟨rfl,rfl,trivial⟩)
  | (exact Zm (
      ⟨(i+1,L2,fl),Zf hm,hP.skip hm hd he (by first|omega|(simp at hb72;omega))⟩
      ) (by dsimp only;omega) ⟨rfl,rfl,rfl,rfl,rfl,rfl,rfl,trivial⟩ ⟨rfl,rfl,trivial⟩))
 · first |exact bN hb72|(
 refine Ze ?_;(refine xL 78 ZG (xL 38 Zb ?_)<;>refine Zc ?_)
 try rw [Xq,←VU]
 first
  | (exact Zm (
      ⟨(i+1,L2.set m.src.toNat (d+1),true),Zf hm,hP.set hm hd he oM (by first|omega|(simp at hb72;omega)) oM⟩
      ) (by dsimp only;omega) ⟨rfl,rfl,rfl,rfl,rfl,rfl,rfl,trivial⟩ ⟨rfl,rfl,trivial⟩)
  | (exact Zm (
      ⟨(i+1,L2.set m.src.toNat d,true),Zf hm,hP.set hm hd he oM (by first|omega|(simp at hb72;omega)) oM⟩
      ) (by dsimp only;omega) ⟨rfl,rfl,rfl,rfl,rfl,rfl,rfl,trivial⟩ ⟨rfl,rfl,trivial⟩)
  | (exact Zm (
      ⟨(i+1,L2,fl),Zf hm,hP.skip hm hd he (by first|omega|(simp at hb72;omega))⟩
      ) (by dsimp only;omega) ⟨rfl,rfl,rfl,rfl,rfl,rfl,rfl,trivial⟩ ⟨rfl,rfl,trivial⟩))))
 · first | exact bN hb55|(
 (have hst:Ja m d=d:=by unfold Ja;rw [US oM]);refine Ze ?_;(refine xL 58 Zb (xL 59 (Zd 9 Yb) ?_)<;>(refine yL 60 (Zk 9 Zg) fun v60 h=>?_;cases h)<;>refine xL 61 (W4 13 Zp) ?_<;>(refine yL 62 (Zk 13 Zg) fun v62 h=>?_;cases h)<;>refine xL 63 ZP (xL 64 Zb ?_)<;>(refine bLd 64 (fun hb64=>?_) (fun hb64=>?_)<;>(first|refine kL 65 ?_|refine xL 65 Zb ?_))<;>(first|refine kL 66 ?_|refine xL 66 Zb ?_)<;>(first|refine kL 67 ?_|refine xL 67 (Zd 9 Yb) ?_)<;>(first|refine kL 68 ?_|(refine yL 68 (Zk 9 Zg) fun v68 h=>?_;cases h))<;>(first|refine kL 69 ?_|refine xL 69 (W4 13 Zp) ?_)<;>(first|refine kL 70 ?_|(refine yL 70 (Zk 13 Zg) fun v70 h=>?_;cases h))<;>(first|refine kL 71 ?_|refine xL 71 ZP ?_)<;>refine xL 72 ZF ?_<;>refine Zc ?_)<;>(
 refine cX ?_ ?_<;>intro hb72
 · first |exact bN hb72|(
 refine Ze ?_;(refine xL 73 Zb (xL 74 (Zd 9 Yb) ?_)<;>(refine yL 75 (Zk 9 Zg) fun v75 h=>?_;cases h)<;>refine xL 76 Zb (xL 77 (W4 13 Zp) ?_)<;>refine YL 13 Zg Wp ?_<;>refine Zi ?_)
 (refine xL 7 Za ?_<;>refine Zi ?_)
 (refine xL 78 ZG (xL 38 Zb ?_)<;>refine Zc ?_)
 try rw [Xq,←VU]
 first
  | (exact Zm (
      ⟨(i+1,L2.set m.src.toNat (d+1),true),Zf hm,hP.set hm hd he oM (by first|omega|(simp at hb72;omega)) oM⟩
      ) (by dsimp only;omega) ⟨rfl,rfl,rfl,rfl,rfl,rfl,rfl,trivial⟩ ⟨rfl,rfl,trivial⟩)
  | (exact Zm (
      ⟨(i+1,L2.set m.src.toNat d,true),Zf hm,hP.set hm hd he oM (by first|omega|(simp at hb72;omega)) oM⟩
      ) (by dsimp only;omega) ⟨rfl,rfl,rfl,rfl,rfl,rfl,rfl,trivial⟩ ⟨rfl,rfl,trivial⟩)
  | (exact Zm (
      ⟨(i+1,L2,fl),Zf hm,hP.skip hm hd he (by first|omega|(simp at hb72;omega))⟩
      ) (by dsimp only;omega) ⟨rfl,rfl,rfl,rfl,rfl,rfl,rfl,trivial⟩ ⟨rfl,rfl,trivial⟩))
 · first |exact bN hb72|(
 refine Ze ?_;(refine xL 78 ZG (xL 38 Zb ?_)<;>refine Zc ?_)
 try rw [Xq,←VU]
 first
  | (exact Zm (
      ⟨(i+1,L2.set m.src.toNat (d+1),true),Zf hm,hP.set hm hd he oM (by first|omega|(simp at hb72;omega)) oM⟩
      ) (by dsimp only;omega) ⟨rfl,rfl,rfl,rfl,rfl,rfl,rfl,trivial⟩ ⟨rfl,rfl,trivial⟩)
  | (exact Zm (
      ⟨(i+1,L2.set m.src.toNat d,true),Zf hm,hP.set hm hd he oM (by first|omega|(simp at hb72;omega)) oM⟩
      ) (by dsimp only;omega) ⟨rfl,rfl,rfl,rfl,rfl,rfl,rfl,trivial⟩ ⟨rfl,rfl,trivial⟩)
  | (exact Zm (
      ⟨(i+1,L2,fl),Zf hm,hP.skip hm hd he (by first|omega|(simp at hb72;omega))⟩
      ) (by dsimp only;omega) ⟨rfl,rfl,rfl,rfl,rfl,rfl,rfl,trivial⟩ ⟨rfl,rfl,trivial⟩))))))
 · first|exact bN hb39|(
 have hL2:L2=WG a (j+1):=hP.done oM;(have hms:sumF a.n.toNat (WG a (j+1))+(if fl then 1 else 0)<sumF a.n.toNat (WG a j)+(if ag then 1 else 0):=by rw [show ag=true from hb34];exact hP.less hL2);refine nav ?_;rw [hL2];refine Zm (
  ⟨(j+1,fl),fun hf=>by
    have h1:=hP.no hf;rw [hL2] at h1;show passF a.moves (WG a (j+1))=WG a (j+1);rw [h1];exact h1⟩
  ) (hms) ⟨rfl,rfl,rfl,rfl,trivial⟩ ⟨rfl,rfl,trivial⟩))
 · first|exact bN hb34|(
 refine Ze ?_;(refine xL 79 Zb (xL 2 Za ?_)<;>refine Zc ?_)
 refine Kb 13 (results139) rfl rfl ?_;rw [Zl6 (hag (by simpa using hb34))])))
theorem Wg:ElT prog 139 4 1 1 (.bool false):=⟨underlying139,by kernel_rfl,rfl,dC⟩
theorem Ep:ElT prog 194 37 1 24 (.slice none 0 0):=⟨underlying194,by kernel_rfl,rfl,dC⟩
theorem ZU:ElT prog 37 93 3 24 (.agg #[(.int .i64 0),(.int .i64 0),(.int .i64 0)]):=⟨underlying37,by kernel_rfl,rfl,dC⟩
theorem Er:WU prog 196=some ((.agg #[(.int .i64 0),(.slice none 0 0),(.slice none 0 0)]),([0,1,2]:List Nat).map fun o=>(o,1)):=by kernel_rfl
theorem YA:(prog.info? 37).map (·.size)=some 1:=by kernel_rfl
theorem Sy:(prog.info? 4).map (·.size)=some 1:=by kernel_rfl
def ZcA (e:Nat) (l:List Mv):PV:= .own e 3 l.length (l.flatMap cMv)
theorem Zhr (e:Nat) (l:List Mv):share (ZcA e l)=pMvs l:=by
 unfold ZcA
 rw [share,Yk,Uv];rfl
def GM (ms:List Mv) (s:Nat):List Mv:=ms.filter fun m=>decide (m.src=(s:Int))
def J5 (e n:Nat) (ms:List Mv):List PV:=(List.range n).map fun s=>ZcA e (GM ms s)
theorem KT (e n:Nat) (ms:List Mv):(J5 e n ms).length=n:=by unfold J5;simp
theorem Rh (e:Nat) {n s:Nat} (ms:List Mv) (h:s<n):(J5 e n ms)[s]? =some (ZcA e (GM ms s)):=by
 unfold J5;rw [Xh,Uh h];rfl
theorem ZcB (e:Nat) {n:Nat} {ms:List Mv} {m:Mv} (h0:0≤m.src) (h:m.src<n):(J5 e n ms).set m.src.toNat (ZcA e (GM ms m.src.toNat++[m]))=J5 e n (ms++[m]):=by
 apply Vu
 intro s
 rcases XD s n with hs|hs
 · rw [Rh e _ hs];by_cases e1:m.src.toNat=s
   · subst e1;rw [Va (by rw [KT];exact hs)];congr 2;unfold GM;rw [XU];congr 1;simp only [List.filter_cons,List.filter_nil];rw [UQ (show m.src=((m.src.toNat:Nat):Int) by omega)];rfl
   · rw [Vi e1,Rh e _ hs];congr 2;unfold GM;rw [XU];simp only [List.filter_cons,List.filter_nil];rw [UR (show ¬m.src=(s:Int) by omega)];simp
 · rw [XM (by rw [Xt,KT];exact hs),XM (by rw [KT];exact hs)]
theorem ZjB (e n:Nat):∀(i:Nat) (p p':PV),(List.replicate n (PV.val (.slice none 0 0)))[i]? =some p→(J5 e n [])[i]? =some p'→Znq p p':=fun i p p' h1 h2=>by
 have hi:=Zf h2
 rw [KT] at hi
 rw [Rh e _ hi] at h2
 rw [UN,UT hi] at h1
 cases h1;cases h2
 exact .inr ⟨rfl,e,3,rfl⟩
theorem ZcC (ms:List Mv) (s:Nat):(GM ms s).length≤ms.length:=Vg _ _
def RN (a:Aut) (k:Nat):List PV:=(List.range a.n.toNat).map fun s=>ZM ((a.fin.take k).any fun t=>decide (t=(s:Nat)))
theorem Te (a:Aut) (k:Nat):(RN a k).length=a.n.toNat:=by unfold RN;simp
theorem Es {a:Aut} {k s:Nat} (h:s<a.n.toNat):(RN a k)[s]? =some (ZM ((a.fin.take k).any fun t=>decide (t=(s:Nat)))):=by
 unfold RN;rw [Xh,Uh h];rfl
theorem ZeX {a:Aut} {k:Nat} {t:Int} (ht:a.fin[k]? =some t) (h0:0≤t):(RN a k).set t.toNat (ZM true)=RN a (k+1):=by
 apply Vu
 intro s
 rcases XD s a.n.toNat with hs|hs
 · rw [Es hs];rw [ZR ht,Vz];simp only [VT,Ub,Vh];by_cases e:t.toNat=s
   · subst e;rw [Va (by rw [Te];exact hs),UQ (show t=((t.toNat:Nat):Int) by omega),Bool.or_true]
   · rw [Vi e,Es hs,UR (show ¬t=(s:Int) by omega),Vh]
 · rw [XM (by rw [Xt,Te];exact hs),XM (by rw [Te];exact hs)]
theorem ZeY (a:Aut):List.replicate a.n.toNat (PV.val (.bool false))=RN a 0:=by
 apply Vu
 intro s
 rcases XD s a.n.toNat with hs|hs
 · rw [Es hs,UN,UT hs];rfl
 · rw [XM (by rw [XI];exact hs),XM (by rw [Te];exact hs)]
theorem ZjC (e0 e1 e2:Nat) (a:Aut) {k1 k2:Nat} (h1:a.moves.length≤k1) (h2:a.fin.length≤k2):JY [pInt a.syms,PV.own e0 1 a.n.toNat (J5 e1 a.n.toNat (a.moves.take k1)),PV.own e2 1 a.n.toNat (RN a k2)]=[pInt a.syms,ZaU a,Zjs a]:=by
 rw [Xj h1]
 simp only [JY,share]
 congr 1
 congr 1
 · unfold ZaU J5;rw [Yk,XH];congr 1;exact VQ fun s _=>Zhr e1 _
 · congr 1;unfold Zjs RN;rw [Yk,XH,Xj h2];rfl
theorem ZjD (e:Nat) (L:List Mv) (x:Mv):PV.own e 3 (L.length+1) (L.flatMap cMv++cMv x)=ZcA e (L++[x]):=by unfold ZcA;simp
set_option maxHeartbeats 2000000 in
theorem G9 (a:Aut) (h:AOk a):AF prog 110 [ZN a] (· =pGr a):=by
 have hn0:=h.n0
 have hn1:=h.n1
 have hml:=h.ml
 have hfl:=h.fl
 rw [Eo h.n0]
 refine AF.of_body 59 func110 rfl ntmps110 (Xa rfl) ?_
 intro w0 M0 vs hl hv
 obtain ⟨v0,rfl⟩:=Wl hl
 clear hl hv
 refine Ze ?_
 (refine ZB 1 5 fun h1=>?_<;>refine xL 2 Za ?_<;>refine Zc ?_)
 (refine ZZ (fun i=>([]:List Nat).elem i) [1] kR ?_<;>refine xD 0 8 rfl (Zd 1 Z3) ?_<;>(refine yD 1 9 rfl (Zk 1 Zg) fun v9 h=>?_;cases h)<;>refine xD 2 10 rfl (Zd 1 ZQ) ?_<;>(refine yD 3 11 rfl (Zk 1 Zg) fun v11 h=>?_;cases h)<;>refine xD 5 13 rfl (Zd 1 ZQ) ?_<;>(refine yD 6 14 rfl (Zk 1 Zg) fun v14 h=>?_;cases h)<;>(refine Y' 4 7 kR ?_ ?_;rotate_right;(focus ((refine Zo rfl fun w9 M9 N9 DQ back=>?_)<;>refine Jm 15 Wg fun h15 ho15=>?_<;>refine Zl (back _ (nrm ?_))<;>(refine Zr 4 kR ?_)<;>(refine Zo rfl fun w9 M9 N9 DQ back=>?_)<;>refine Jm 12 Ep fun h12 ho12=>?_<;>refine Zl (back _ (nrm ?_))<;>refine xE 8 16 rfl (ZL Er) ?_<;>(refine Zr 9 kR ?_)<;>(refine Zo rfl fun w9 M9 N9 DQ back=>?_)<;>refine ZB 17 3 fun h17=>?_<;>refine Zl (back _ (nrm ?_))<;>(refine Zr 10 kR ?_)<;>(refine Zo rfl fun w9 M9 N9 DQ back=>?_)<;>refine xL 3 Za ?_<;>refine Zl (back _ (nrm ?_))));rotate_right;(focus ((refine Zo rfl fun w9 M9 N9 DQ back=>?_)<;>refine Jm 12 Ep fun h12 ho12=>?_<;>refine Zl (back _ (nrm ?_))<;>(refine Zr 7 kR ?_)<;>(refine Zo rfl fun w9 M9 N9 DQ back=>?_)<;>refine Jm 15 Wg fun h15 ho15=>?_<;>refine Zl (back _ (nrm ?_))<;>refine xE 8 16 rfl (ZL Er) ?_<;>(refine Zr 9 kR ?_)<;>(refine Zo rfl fun w9 M9 N9 DQ back=>?_)<;>refine ZB 17 3 fun h17=>?_<;>refine Zl (back _ (nrm ?_))<;>(refine Zr 10 kR ?_)<;>(refine Zo rfl fun w9 M9 N9 DQ back=>?_)<;>refine xL 3 Za ?_<;>refine Zl (back _ (nrm ?_)))))<;>refine Yw kR (nav ?_)<;>try dsimp only)<;>(
 refine Zq (W1 (l:=12) (J5 93 a.n.toNat []) rfl (by rw [KT,XI]) (ZjB _ _)) fun _=>?_;rw [ZeY a];(refine Zv ?_<;>refine xL 18 (Zd 1 Zx) ?_<;>(refine yL 19 (Zk 1 ZA) fun v19 h=>?_;cases h)<;>refine xL 20 (ZT ZK) (xL 21 Zb ?_)<;>refine Zc ?_)
 refine ZD (ι:={q:Nat//q≤a.moves.length}) (fun k=>⟨[(1,_,_),(2,_,_),(3,_,_),(19,_,_),(20,_,_),(21, .int .i64 k.1,pInt k.1)],[(1,_,_),(15,_,_),(17,h17, .own 196 3 1 [pInt a.syms, .val h12, .val h15]),(12,h12, .own 37 1 a.n.toNat (J5 93 a.n.toNat (a.moves.take k.1)))]⟩) (fun k=>a.moves.length-k.1) ⟨0,Xd _⟩ (fun a w H=>H.weaken ⟨rfl,rfl,rfl,rfl,rfl,rfl,trivial⟩ ⟨rfl,rfl,rfl,rfl,trivial⟩) ?_;rintro ⟨k,hk⟩;dsimp only;refine Ze ?_;(refine xL 22 ZP ?_<;>refine Zc ?_)
 refine cX ?_ ?_<;>intro hb22
 · first|exact bN hb22|(
 obtain ⟨m,hm⟩:=Zt (show k<a.moves.length by omega);have e1:=Ym Z2 a.moves k m hm;have e2:=YK Z2 hm;have hmv:=h.mv m (Xc hm);have hi:m.src.toNat<a.n.toNat:=oM;refine Ze ?_;(refine xL 23 (ZI ZK) ?_<;>(refine yL 24 (Wn ZX) fun v24 h=>?_;cases h)<;>refine Zw [(.int .i64 0),(.int .i64 0),(.int .i64 0)] 3 5 Kh fun h5=>?_<;>refine ZE 5 ZX ?_<;>refine Zc ?_)
 refine Zq (Ww (l:=12) (l':=201) (j:=m.src.toNat) rfl (Rh _ _ hi) rfl rfl) fun i=>?_;obtain ⟨m1,hm1⟩:=i;dsimp only;(have e3:((J5 93 a.n.toNat (a.moves.take k)).set m.src.toNat (.val m1))[m.src.toNat*1]? =some (.val m1):=by rw [Xq,Va (by rw [KT];exact hi)]);(have e4:((J5 93 a.n.toNat (a.moves.take k)).set m.src.toNat (.val m1)).length=a.n.toNat:=by rw [Xt,KT]);have e5:=ZcC (a.moves.take k) m.src.toNat;rw [Xo] at e5;(refine ZZ (fun i=>([18]:List Nat).elem i) [5,12,17] kR ?_<;>refine xD 0 25 rfl Zb ?_<;>refine xD 1 26 rfl (Zet 17) ?_<;>refine xD 2 27 rfl (Zd 17 K2) ?_<;>(refine yD 3 28 rfl (Zk 17 J3) fun v28 h=>?_;cases h)<;>refine xD 4 29 rfl (Zd 5 Yb) ?_<;>(refine yD 5 30 rfl (Zk 5 Zg) fun v30 h=>?_;cases h)<;>refine xD 6 31 rfl Zb ?_<;>refine xD 7 32 rfl (Zet 17) ?_<;>refine xD 8 33 rfl (Zd 17 K2) ?_<;>(refine yD 9 34 rfl (Zk 17 J3) fun v34 h=>?_;cases h)<;>refine xD 10 35 rfl (Zd 5 Yb) ?_<;>(refine yD 11 36 rfl (Zk 5 Zg) fun v36 h=>?_;cases h)<;>refine xD 12 37 rfl (W4 12 J4) ?_<;>(refine yD 13 38 rfl (Zk 12 ZA) fun v38 h=>?_;cases h)<;>(refine yE 14 39 rfl (Zu 5 ZX) fun v39 h=>?_;cases h)<;>(refine Zr 15 kR ?_)<;>(refine Zo rfl fun w9 M9 N9 DQ back=>?_)<;>refine YB 40 ZU fun h40 ho40=>?_<;>refine Zl (back _ (nrm ?_))<;>(refine Zr 16 kR ?_)<;>(refine Zo rfl fun w9 M9 N9 DQ back=>?_)<;>refine ZW 201 40 41 ZU fun h41 ho41=>?_<;>refine Zl (back _ (nrm ?_))<;>refine xE 17 42 rfl (W4 12 J4) ?_<;>(refine Zr 18 kR ?_)<;>(refine Kr rfl rfl kR fun DQ back=>?_)<;>refine YL 12 ZA YA ?_<;>refine Zl (back _ (nav ?_))<;>try dsimp only)
 (refine Zv ?_<;>refine xL 43 ZG (xL 21 Zb ?_)<;>refine Zc ?_)
 refine Kq (ZnR (l:=12) (l':=41) (j:=m.src.toNat) rfl (by rw [Xq];exact Va (by rw [Xt,KT];exact hi)) rfl rfl) fun _=>?_;rw [Xq,List.set_set,List.set_set];rw [show List.take 3 (List.drop 0 (Se (List.map PV.val [Value.int IntKind.i64 0,Value.int IntKind.i64 0,Value.int IntKind.i64 0]) 0 (cMv m)))=cMv m from rfl];rw [show PV.own 93 3 ((GM (a.moves.take k) m.src.toNat).length+1) ((GM (a.moves.take k) m.src.toNat).flatMap cMv++cMv m)=ZcA 93 (GM (a.moves.take k) m.src.toNat++[m]) from ZjD _ _ _];rw [ZcB _ oM oM,←ZR hm];refine Zm (
  ⟨k+1,Zf hm⟩
  ) (by dsimp only;omega) ⟨rfl,rfl,rfl,rfl,rfl,rfl,trivial⟩ ⟨rfl,rfl,rfl,rfl,trivial⟩)
 · first |exact bN hb22|(
 refine Ze ?_;(refine xL 44 (Zd 1 Z0) ?_<;>(refine yL 45 (Zk 1 Zy) fun v45 h=>?_;cases h)<;>refine xL 46 (ZT Zp) (xL 47 Zb ?_)<;>refine Zc ?_)
 refine ZD (ι:={q:Nat//q≤a.fin.length}) (fun k=>⟨[(1,_,_),(2,_,_),(3,_,_),(45,_,_),(46,_,_),(47, .int .i64 k.1,pInt k.1)],[(1,_,_),(12,_,_),(17,h17, .own 196 3 1 [pInt a.syms, .val h12, .val h15]),(15,h15, .own 4 1 a.n.toNat (RN a k.1))]⟩) (fun k=>a.fin.length-k.1) ⟨0,Xd _⟩ (fun a w H=>H.weaken ⟨rfl,rfl,rfl,rfl,rfl,rfl,trivial⟩ ⟨rfl,rfl,rfl,rfl,trivial⟩) ?_;rintro ⟨k8,hk8⟩;dsimp only;refine Ze ?_;(refine xL 48 ZP ?_<;>refine Zc ?_)
 refine cX ?_ ?_<;>intro hb48
 · first|exact bN hb48|(
 obtain ⟨t,ht⟩:=Zt (show k8<a.fin.length by omega);have e1:=Z7 (f:=pInt) ht;have ht2:=h.fi t (Xc ht);have e6:=Te a k8;refine Ze ?_;(refine xL 49 (ZI Zp) ?_<;>(refine yL 50 (Z9 Zg) fun v50 h=>?_;cases h)<;>refine xL 7 Za ?_<;>refine Zi ?_)
 (refine xL 51 Zb (xL 52 (Zet 17) (xL 53 (Zd 17 GL) ?_))<;>(refine yL 54 (Zk 17 YJ) fun v54 h=>?_;cases h)<;>refine xL 55 Zb (xL 56 (W4 15 Yx) ?_)<;>refine YL 15 Wa Sy ?_<;>refine Zi ?_)
 (refine xL 57 ZG (xL 47 Zb ?_)<;>refine Zc ?_)
 rw [Xq,ZeX ht ht2.1];refine Zm (
  ⟨k8+1,Zf ht⟩
  ) (by dsimp only;omega) ⟨rfl,rfl,rfl,rfl,rfl,rfl,trivial⟩ ⟨rfl,rfl,rfl,rfl,trivial⟩)
 · first|exact bN hb48|(
 refine Ze ?_;(refine xL 58 Zb (xL 2 Za ?_)<;>refine Zc ?_)
 refine Y3 (ZnR (l:=17) (l':=12) (j:=1) rfl rfl rfl rfl) fun _=>?_;refine Y3 (ZnR (l:=17) (l':=15) (j:=2) rfl rfl rfl rfl) fun _=>?_;refine Y3 (PL (l:=17) (t:=2) (j:=0) rfl Nat.one_pos rfl) fun _=>?_;refine Zz (results110) rfl ?_;exact congrArg (PV.sptr 0) (ZjC _ _ _ a oM oM))))
theorem DL:AggT prog 182 2=true:=by kernel_rfl
theorem Zh:AggT prog 39 5=true:=by kernel_rfl
theorem YT:ElT prog 117 36 1 24 (.slice none 0 0):=⟨underlying117,by kernel_rfl,rfl,dC⟩
theorem G':ElT prog 183 182 2 48 (.agg #[(.slice none 0 0),(.slice none 0 0)]):=⟨underlying183,by kernel_rfl,rfl,dC⟩
theorem TK:FldT prog 182 0 0=true:=by kernel_rfl
theorem TL:FldT prog 182 1 1=true:=by kernel_rfl
theorem Z':SlT prog 117 36 1=true:=by kernel_rfl
theorem J6:SlT prog 183 182 2=true:=by kernel_rfl
theorem R8:WU prog 182=some ((.agg #[(.slice none 0 0),(.slice none 0 0)]),([0,1]:List Nat).map fun o=>(o,1)):=by kernel_rfl
theorem ZeZ:ZeroT prog 182 (.agg #[(.slice none 0 0),(.slice none 0 0)]):=by unfold ZeroT;kernel_rfl
def cPf (p:Pf):List PV:=[pInts p.1,pInts p.2]
theorem ZfW (p:Pf):(cPf p).length=2:=rfl
theorem ZfX (e:Nat) (L:List Pf) (x:Pf):PV.own e 2 (L.length+1) (L.flatMap cPf++cPf x)= .own e 2 (L++[x]).length ((L++[x]).flatMap cPf):=sM
theorem Ze0 (e:Nat) (L:List (List Int)) (x:List Int):PV.own e 1 (L.length+1) (L.map pInts++[pInts x])= .own e 1 (L++[x]).length ((L++[x]).map pInts):=sM
theorem ZcD (e n:Nat) (l:List (List Int)) (hn:n=l.length):share (.own e 1 n (l.map pInts))=RX l:=by
 subst hn
 rw [share,Yk,XH]
 unfold RX
 congr 1
def Zob (a:Aut) (n:Int) (p:PV):Prop:=
 (Z4 a=false∧p= .tup [.sl 0 [],pInt 1])∨(Z4 a=true∧(n<0∨200<n)∧p= .tup [.sl 0 [],pInt 2])∨(Z4 a=true∧0≤n∧n≤200∧Zl7 a n.toNat∧p= .tup [.sl 0 [],pInt 5])∨(Z4 a=true∧0≤n∧n≤200∧¬Zl7 a n.toNat∧p= .tup [RX (Tb a n.toNat (n.toNat+1)),pInt 0])
theorem ZjE (a:Aut) (n:Int) (p:Pf) (c:Nat):(LP a n p c).length≤1:=by unfold LP;split<;>simp
theorem OQ (a:Aut) (n:Int) (p:Pf):∀c,((List.range c).flatMap (LP a n p)).length≤c
 |0=>sM
 | c+1=>by
   rw [R7,Xb];have:=OQ a n p c;have:=ZjE a n p c;omega
theorem Zoc {a:Aut} (h:AOk a) (n k:Nat):∀p∈lvP a n k,InS a p.2∧p.2.length≤2000:=fun p hp=>by
 rw [ZfV h.mi h.st] at hp
 obtain ⟨q,hq,rfl⟩:=Xk.1 hp
 have h1:=Zjz h.mi h.st n k q hq
 refine ⟨HA h1 _ _,?_⟩
 have h2:Srt q.2:=by
  cases k with
  | zero=>
    simp only [lvR,Xi] at hq;subst hq;exact KA h.mi h.st
  | succ k=>
    rw [lvR] at hq;obtain ⟨r,_,hr⟩:=XP.1 hq;obtain ⟨c,_,hc⟩:=XP.1 hr;unfold Zjx at hc;split at hc
    · simp only [Xi] at hc;subst hc;exact KA h.mi (Ki h.mi c _)
    · simp at hc
 have h3:Srt (WF q.2 (Wt a) ((n:Int)-k)):=Ei (a:=a) h2 _ _
 have h4:=nodup_len a.n.toNat _ (h3.imp fun h=>oM) fun s hs=>by
  have:=HA h1 (Wt a) ((n:Int)-k) s hs;have:=h.n0;omega
 have:=h.n1
 show (WF q.2 (Wt a) ((n:Int)-k)).length≤2000
 omega
theorem ZcE {a:Aut} {n:Nat}:∀k,∀p∈lvP a n k,p.1.length=k
 | 0,p,hp=>by
   simp only [lvP,Xi] at hp;subst hp;rfl
 | k +1,p,hp=>by
   rw [lvP] at hp;obtain ⟨r,hr,hr2⟩:=XP.1 hp;obtain ⟨c,_,hc⟩:=XP.1 hr2;unfold LP at hc;split at hc
   · simp at hc
   · simp only [Xi] at hc;subst hc;rw [Xb,ZcE k r hr];rfl
set_option maxHeartbeats 4000000 in
theorem ZjF (a : Aut) (n : Int):AF prog 91 [ZN a,pInt n] (Zob a n):=by
 refine AF.of_body 109 func91 rfl ntmps91 (Xa rfl) ?_
 intro w0 M0 vs hl hv
 obtain ⟨v0,v1,rfl⟩:=YI hl
 obtain rfl:=hv 1 _ _ rfl rfl
 clear hl hv
 refine Ze ?_
 (refine ZB 2 5 fun h2=>?_<;>refine xL 4 Za (xL 5 Za ?_)<;>refine Zi ?_)
 ((refine yL 16 (Zu 2 Zh) fun v16 h=>?_;cases h)<;>(refine cS 17 (cA call107 (Wo a)) fun v17 h=>?_;cases h)<;>refine xL 18 Ya (xL 15 Za ?_)<;>refine Zc ?_)
 refine cX ?_ ?_<;>intro hb15
 · first|exact bN hb15|(
 refine Ze ?_;(refine xL 4 Za (xL 5 Za ?_)<;>refine Zc ?_)
 refine Y3 (Ks (t:=4) rfl) fun _=>?_;exact Wb (results91) rfl rfl (.inl ⟨by simpa using hb15,rfl⟩))
 · first | exact bN hb15 | (
 (have hok:Z4 a=true:=by simpa using hb15);have hA:=Jn hok;have hn1:=hA.n1;have hs1:=hA.s1;have hs0:=hA.s0;refine Ze ?_;(refine xL 20 Zb (xL 21 ZP (xL 22 Zb ?_))<;>(refine bLd 22 (fun hb22=>?_) (fun hb22=>?_)<;>(first|refine kL 23 ?_|refine xL 23 Zb ?_))<;>(first|refine kL 24 ?_|refine xL 24 Yr ?_)<;>refine xL 25 ZF (xL 19 Za ?_)<;>refine Zc ?_)<;>(
 refine cX ?_ ?_<;>intro hb19
 · first|exact bN hb19|(
 refine Ze ?_;(refine xL 4 Za (xL 5 Za ?_)<;>refine Zc ?_)
 refine Y3 (Ks (t:=4) rfl) fun _=>?_;exact Wb (results91) rfl rfl (.inr (.inl ⟨hok,by first|omega|(simp at hb19;omega),rfl⟩)))
 · first | exact bN hb19 |(
 (have hnb:0≤n∧n≤200:=by simp at hb19;omega);obtain ⟨N,rfl⟩:∃N:Nat,n=(N:Int):=⟨n.toNat,oM⟩;have hfl:=(Hz a).len;have hsb:YN a a.start=YN a a.start:=rfl;have hcl:=L' hA.mi hA.st;have hci:=L9 hA.mi hA.st;refine nav ?_;(refine ZZ (fun i=>([]:List Nat).elem i) [2] kR ?_<;>(refine yD 0 26 rfl (Zu 2 Zh) fun v26 h=>?_;cases h)<;>(refine yD 2 28 rfl (Zu 2 Zh) fun v28 h=>?_;cases h)<;>(refine Zr 1 kR ?_)<;>(refine Zo rfl fun w9 M9 N9 DQ back=>?_)<;>(refine cS 27 (cA call110 (G9 a hA)) fun v27 h=>?_;cases h)<;>refine Zl (back _ (nrm ?_))<;>(refine Zr 3 kR ?_)<;>(refine Zo rfl fun w9 M9 N9 DQ back=>?_)<;>(refine cO 29 (cA call139 (ZaZ a hA)) fun v29 ho29=>?_;refine Zs (En.freeze (l:=29) (t:=29) rfl rfl) fun _=>?_;rw [ZS _ _ _ hfl.symm])<;>refine Zl (back _ (nrm ?_))<;>refine xE 4 6 rfl Za ?_<;>refine xE 5 7 rfl Za ?_<;>refine Yw kR (nav ?_)<;>try dsimp only)
 (refine Zv ?_<;>refine xL 8 Za ?_<;>refine Zi ?_)
 (refine xL 30 Zb (xL 31 (Zd 2 Z1) ?_)<;>(refine yL 32 (Zk 2 Zy) fun v32 h=>?_;cases h)<;>(refine cO 33 (cA call111 (TH a a.start hn1 hA.mi hA.st)) fun v33 ho33=>?_;refine Zs (En.freeze (l:=33) (t:=33) rfl rfl) fun _=>?_;rw [ZS _ _ _ rfl])<;>refine xL 34 Zb (xL 35 Zb ?_)<;>(refine cO 36 (cA call140 (ZaT (YN a a.start) (Wt a) N oM (fun s hs=>by have:=hci s hs;omega))) fun v36 ho36=>?_;refine Zs (En.freeze (l:=36) (t:=36) rfl rfl) fun _=>?_;rw [ZS _ _ _ rfl])<;>refine xL 37 (ZL R8) ?_<;>refine YB 38 G' fun h38 ho38=>?_<;>refine xL 9 Za ?_<;>refine Zc ?_)
 refine Zq (W1 (l:=38) [.own 3 1 0 [],pInts (WF (YN a a.start) (Wt a) N)] rfl rfl (fun i p p' h1 h2=>by
  match i with
  |0=>cases h1;cases h2;exact .inr ⟨rfl,_,_,rfl⟩
  |1=>cases h1;cases h2;exact .inl rfl
  |i+2=>simp at h2)) fun _=>?_
 refine Zq (focus (l:=38) (l':=300) (j:=0) rfl rfl rfl) fun v300=>?_;refine Zq (Z6 (l:=38) (l':=300) (j:=0) rfl rfl rfl rfl) fun _=>?_;dsimp only [List.set];refine Zq (KB 200 36 1 rfl) fun _=>?_;refine Zq (ZC (l:=38) 201 rfl rfl) fun _=>?_;have hL0:[share (PV.own 3 1 0 []),pInts (WF (YN a a.start) (Wt a) N)]=(lvP a N 0).flatMap cPf:=rfl;rw [hL0];refine ZD (ι:={q:Nat×Value×Value//q.1≤N+1∧(∀j,j≤q.1→(lvP a N j).length≤2000)∧(Tb a N q.1).length≤q.1*2000∧q.2.1.oneCell'=true∧q.2.2.oneCell'=true}) (fun k=>⟨[(2,_,_),(6,_,_),(7,_,_),(1, .int .i64 ((N:Int)-(k.1.1:Nat)),pInt ((N:Int)-(k.1.1:Nat))),(8,k.1.2.1, .val k.1.2.1),(9,k.1.2.2, .val k.1.2.2)],[(2,_,_),(200,k.1.2.1, .own 36 1 (Tb a N k.1.1).length ((Tb a N k.1.1).map pInts)),(201,k.1.2.2, .own 182 2 (lvP a N k.1.1).length ((lvP a N k.1.1).flatMap cPf))]⟩) (fun k=>N+1-k.1.1) ⟨(0, .slice none 0 0,h38),Xd _,fun j hj=>by have h9:j=0:=(by dsimp only at hj;omega);subst h9;simp [lvP],by simp [Tb],rfl,ho38⟩ (fun a w H=>H.weaken ⟨rfl,rfl,rfl,rfl,rfl,rfl,trivial⟩ ⟨rfl,rfl,rfl,trivial⟩) ?_;rintro ⟨⟨lev,hO,hL⟩,hk,hlv,hsm,hoO,hoL⟩;dsimp only;dsimp only at hk hlv hsm hoO hoL;refine Ze ?_;(refine xL 39 Zb (xL 40 Wi ?_)<;>refine Zc ?_)
 refine cX ?_ ?_<;>intro hb40
 · first | exact bN hb40|(
 have hkN:lev≤N:=oM;have hlk:=hlv lev (Xg _);have hsm2:(Tb a N lev).length≤402000:=oM;have hlin:=Zoc hA N lev;have hlw:=ZcE (a:=a) (n:=N) lev;refine Ze ?_;(refine xL 10 Za ?_<;>refine Zi ?_)
 (refine xL 43 Zb (xL 44 (YF 201 J6) (xL 45 Zb ?_))<;>refine Zc ?_)
 refine Zq (KB 202 182 2 rfl) fun _=>?_;refine ZD (ι:={q:Nat×Value×Value×List (List Int)×List Pf//q.1≤(lvP a N lev).length∧q.2.2.2.2.length≤2000∧q.2.1.oneCell'=true∧q.2.2.1.oneCell'=true∧q.2.2.2.1=Tb a N lev++P7 a ((lvP a N lev).take q.1)∧q.2.2.2.2=((lvP a N lev).take q.1).flatMap (RJ a ((N:Int)-lev))}) (fun k=>⟨[(1,_,_),(2,_,_),(6,_,_),(7,_,_),(9,_,_),(43,_,_),(44,_,_),(8,k.1.2.1, .val k.1.2.1),(10,k.1.2.2.1, .val k.1.2.2.1),(45, .int .i64 k.1.1,pInt k.1.1)],[(2,_,_),(201,_,_),(200,k.1.2.1, .own 36 1 k.1.2.2.2.1.length (k.1.2.2.2.1.map pInts)),(202,k.1.2.2.1, .own 182 2 k.1.2.2.2.2.length (k.1.2.2.2.2.flatMap cPf))]⟩) (fun k=>(lvP a N lev).length-k.1.1) ⟨(0,hO, .slice none 0 0,Tb a N lev,[]),Xd _,Xd _,hoO,rfl,(Xr _).symm,rfl⟩ (fun a w H=>H.weaken ⟨rfl,rfl,rfl,rfl,rfl,rfl,rfl,rfl,rfl,rfl,trivial⟩ ⟨rfl,rfl,rfl,rfl,trivial⟩) ?_;rintro ⟨⟨i,hO2,hX,O,X⟩,hi,hkl,hoO2,hoX,hOE,hXE⟩;dsimp only;dsimp only at hi hkl hoO2 hoX hOE hXE;have hol:=Zcw a ((lvP a N lev).take i);rw [Xo] at hol;(have hoL2:O.length≤404000:=by rw [hOE,Xb];omega);refine Ze ?_;(refine xL 46 ZP ?_<;>refine Zc ?_)
 refine cX ?_ ?_<;>intro hb46
 · first | exact bN hb46|(
 obtain ⟨x,hx⟩:=Zt (show i<(lvP a N lev).length by omega);have e1:=Ym ZfW (lvP a N lev) i x hx;have e2:=YK ZfW hx;have hxi:=hlin x (Xc hx);have hxw:=hlw x (Xc hx);have hO3:=Zhq (a:=a) hx;have hK3:=Ek (RJ a ((N:Int)-lev)) hx;refine Ze ?_;(refine xL 47 (Yh 201 J6) ?_<;>(refine yL 48 (Zu 201 DL) fun v48 h=>?_;cases h)<;>refine Zw [(.slice none 0 0),(.slice none 0 0)] 2 12 ZeZ fun h12=>?_<;>refine ZE 12 DL ?_<;>refine Zi ?_)
 (refine xL 49 Zb (xL 50 (Zd 12 TL) ?_)<;>(refine yL 51 (Zk 12 Zy) fun v51 h=>?_;cases h)<;>(refine cS 52 (cA call113 (R2 a x.2 hxi.1)) fun v52 h=>?_;cases h)<;>refine Zc ?_)
 refine cX ?_ ?_<;>intro hb52
 · first | exact bN hb52|(
 rw [UT (show Wy a x.2=true from hb52)] at hO3;(have hOF:O++[x.1]=Tb a N lev++P7 a ((lvP a N lev).take (i+1)):=by rw [hO3,hOE,Xy]);(have hOl2:(O++[x.1]).length=O.length+1:=by rw [Xb];rfl);refine Ze ?_;(refine xL 53 Zb (xL 54 (Zd 12 TK) ?_)<;>(refine yL 55 (Zk 12 Zy) fun v55 h=>?_;cases h)<;>refine ZO (kk:=1) 56 YT fun h56 ho56=>?_<;>(refine ZW 200 56 57 YT fun h57 ho57=>?_;refine Zs (ZC (l:=57) 200 rfl rfl) fun _=>?_;rw [Ze0])<;>refine xL 8 Za ?_<;>refine Zi ?_)
 (refine xL 58 (Zd 2 Z3) ?_<;>(refine yL 59 (Zk 2 Zg) fun v59 h=>?_;cases h)<;>refine xL 60 Zb ?_<;>refine Zc ?_)
 refine ZD (ι:={q:Nat×Value×List Pf//q.1≤a.syms.toNat∧q.2.1.oneCell'=true∧q.2.2=X++(List.range q.1).flatMap (LP a ((N:Int)-lev) x)}) (fun k=>⟨[(1,_,_),(2,_,_),(6,_,_),(7,_,_),(8,_,_),(9,_,_),(12,_,_),(43,_,_),(44,_,_),(45,_,_),(59,_,_),(10,k.1.2.1, .val k.1.2.1),(60, .int .i64 k.1.1,pInt k.1.1)],[(2,_,_),(12,_,_),(200,_,_),(201,_,_),(202,k.1.2.1, .own 182 2 k.1.2.2.length (k.1.2.2.flatMap cPf))]⟩) (fun k=>a.syms.toNat-k.1.1) ⟨(0,hX,X),Xd _,hoX,(Xr _).symm⟩ (fun a w H=>H.weaken ⟨rfl,rfl,rfl,rfl,rfl,rfl,rfl,rfl,rfl,rfl,rfl,rfl,rfl,trivial⟩ ⟨rfl,rfl,rfl,rfl,rfl,trivial⟩) ?_;rintro ⟨⟨c,hX2,X2⟩,hc,hoX2,hX2E⟩;dsimp only;dsimp only at hc hoX2 hX2E;have hkc:=OQ a ((N:Int)-lev) x c;(have hkl2:X2.length≤2100:=by rw [hX2E,Xb];omega);refine Ze ?_;(refine xL 61 ZP ?_<;>refine Zc ?_)
 refine cX ?_ ?_<;>intro hb61
 · first | exact bN hb61|(
 have hni:=LG hA.mi (c:Int) x.2;(have hnl:(Yz a c x.2).length≤2000:=by have:=L' hA.mi (Ki hA.mi (c:Int) x.2);unfold Yz;omega);have hR:=R7 (LP a ((N:Int)-lev) x) c;refine Ze ?_;(refine xL 62 Zb (xL 13 Za ?_)<;>refine Zi ?_)
 (refine xL 63 Zb (xL 64 (Zd 12 TL) ?_)<;>(refine yL 65 (Zk 12 Zy) fun v65 h=>?_;cases h)<;>refine xL 66 Zb ?_<;>(refine cO 67 (cA call112 (Hy a x.2 c hn1 hA.ml hA.mi hxi.1 hxi.2)) fun v67 ho67=>?_;refine Zs (En.freeze (l:=67) (t:=67) rfl rfl) fun _=>?_;rw [ZS _ _ _ rfl])<;>refine xL 68 Zb (xL 69 Zb (xL 70 K7 ?_))<;>(refine cO 71 (cA call140 (ZaT (Yz a c x.2) (Wt a) ((N:Int)-lev-1) oM (fun s hs=>by have:=hni s hs;omega))) fun v71 ho71=>?_;refine Zs (En.freeze (l:=71) (t:=71) rfl rfl) fun _=>?_;rw [ZS _ _ _ rfl])<;>refine xL 14 Za ?_<;>refine Zi ?_)
 (refine xL 72 Zb (xL 73 (ZT Zp) (xL 74 Yr ?_))<;>refine Zc ?_)
 refine cX ?_ ?_<;>intro hb74
 · first |exact bN hb74|(
 (have hkid:LP a ((N:Int)-lev) x c=[(x.1++[(c:Int)],WF (Yz a c x.2) (Wt a) ((N:Int)-lev-1))]:=by unfold LP;rw [US oM]);rw [hkid] at hR;refine Ze ?_;(refine xL 75 Zb (xL 76 (Zd 12 TK) ?_)<;>(refine yL 77 (Zk 12 Zy) fun v77 h=>?_;cases h)<;>refine cO 78 (cA call135 (Jv x.1 oM)) fun v78 ho78=>?_<;>refine xL 79 Zb ?_<;>refine ZO (kk:=1) 80 Zn fun h80 ho80=>?_<;>(refine ZW 78 80 81 Zn fun h81 ho81=>?_;refine Zs (En.freeze (l:=81) (t:=81) rfl rfl) fun _=>?_;rw [show PV.own 3 1 (x.1.length+1) (x.1.map pInt++[pInt c])= .own 3 1 (x.1++[(c:Int)]).length ((x.1++[(c:Int)]).map pInt) from P5 _ _ _,ZS _ _ _ rfl])<;>refine xL 82 Zb (xL 83 (ZL R8) ?_)<;>refine YB 84 G' fun h84 ho84=>?_<;>(refine ZW 202 84 85 G' fun h85 ho85=>?_;refine Zs (ZC (l:=85) 202 rfl rfl) fun _=>?_;refine Zs (ZH (l:=202) rfl (ZfX _ X2 (x.1++[(c:Int)],WF (Yz a c x.2) (Wt a) ((N:Int)-lev-1)))) fun _=>?_)<;>refine xL 10 Za ?_<;>refine Zi ?_)
 (refine xL 86 ZG (xL 60 Zb ?_)<;>refine Zc ?_)
 first
  | (exact Zm (
      ⟨(c+1,h85,X2++[(x.1++[(c:Int)],WF (Yz a c x.2) (Wt a) ((N:Int)-lev-1))]),by dsimp only;omega,ho85,by dsimp only;rw [hX2E,hR,Xy]⟩
      ) (by dsimp only;omega) ⟨rfl,rfl,rfl,rfl,rfl,rfl,rfl,rfl,rfl,rfl,rfl,rfl,rfl,trivial⟩ ⟨rfl,rfl,rfl,rfl,rfl,trivial⟩)
  | (exact Zm (
      ⟨(c+1,hX2,X2),by dsimp only;omega,hoX2,by dsimp only;rw [hX2E,hR]⟩
      ) (by dsimp only;omega) ⟨rfl,rfl,rfl,rfl,rfl,rfl,rfl,rfl,rfl,rfl,rfl,rfl,rfl,trivial⟩ ⟨rfl,rfl,rfl,rfl,rfl,trivial⟩))
 · first |exact bN hb74|(
 (have hkid:LP a ((N:Int)-lev) x c=[]:=by unfold LP;rw [UT oM]);rw [hkid,Xr] at hR;refine Ze ?_;(refine xL 86 ZG (xL 60 Zb ?_)<;>refine Zc ?_)
 first
  | (exact Zm (
      ⟨(c+1,h85,X2++[(x.1++[(c:Int)],WF (Yz a c x.2) (Wt a) ((N:Int)-lev-1))]),by dsimp only;omega,ho85,by dsimp only;rw [hX2E,hR,Xy]⟩
      ) (by dsimp only;omega) ⟨rfl,rfl,rfl,rfl,rfl,rfl,rfl,rfl,rfl,rfl,rfl,rfl,rfl,trivial⟩ ⟨rfl,rfl,rfl,rfl,rfl,trivial⟩)
  | (exact Zm (
      ⟨(c+1,hX2,X2),by dsimp only;omega,hoX2,by dsimp only;rw [hX2E,hR]⟩
      ) (by dsimp only;omega) ⟨rfl,rfl,rfl,rfl,rfl,rfl,rfl,rfl,rfl,rfl,rfl,rfl,rfl,trivial⟩ ⟨rfl,rfl,rfl,rfl,rfl,trivial⟩)))
 · first | exact bN hb61|(
 have hcs:c=a.syms.toNat:=oM;subst hcs;(have hXF:X2=((lvP a N lev).take (i+1)).flatMap (RJ a ((N:Int)-lev)):=by rw [hX2E,hK3,hXE];rfl);refine Ze ?_;(refine xL 87 Zb (xL 88 (YF 200 Z') (xL 89 Zb (xL 90 (YF 202 J6) (xL 91 ZG (xL 92 Yr (xL 93 Zb ?_))))))<;>(refine bLd 93 (fun hb93=>?_) (fun hb93=>?_)<;>(first|refine kL 94 ?_|refine xL 94 Zb ?_))<;>(first|refine kL 95 ?_|refine xL 95 (YF 200 Z') ?_)<;>(first|refine kL 96 ?_|refine xL 96 Yr ?_)<;>refine xL 97 ZF (xL 98 Zb ?_)<;>(first|refine xL 99 Zb ?_|(refine bLd 98 (fun hb98=>?_) (fun hb98=>?_)<;>(first|refine kL 99 ?_|refine xL 99 Zb ?_)))<;>(first|refine kL 100 ?_|refine xL 100 (YF 202 J6) ?_)<;>(first|refine kL 101 ?_|refine xL 101 Yr ?_)<;>refine xL 102 ZF ?_<;>refine Zc ?_)<;>(
 refine cX ?_ ?_<;>intro hb102
 · first|exact bN hb102|(
 refine Ze ?_;(refine xL 4 Za (xL 5 Za ?_)<;>refine Zc ?_)
 refine Y3 (Ks (t:=4) rfl) fun _=>?_;refine Wb (results91) rfl rfl (.inr (.inr (.inl ⟨hok,oM,oM,?_,rfl⟩)));rw [XS];have hfl2:=RL (RJ a ((N:Int)-lev)) (lvP a N lev) (i+1);have hsm5:=ζq a N (show lev+1≤N+1 by omega);rw [Tc,Xb] at hsm5;have hop5:=Zcx a (lvP a N lev) (i+1);have hOl:=congrArg List.length hOF;have hXl:=congrArg List.length hXF;simp only [Xb,Xl,XC] at hOl;by_cases hbig:2000<X2.length
 · exact .inl ⟨lev,oM,by rw [lvP];omega⟩
 · refine .inr ?_
   first
    |omega
    |(simp at hb102 hOl;omega))
 · first |exact bN hb102|(
 refine Ze ?_;(refine xL 103 ZG (xL 45 Zb ?_)<;>refine Zc ?_)
 first
  | (exact Zm (
      ⟨(i+1,_,_,O++[x.1],X2),Zf hx,(by dsimp only;first|omega|(simp at hb102;omega)),(by assumption),hoX2,hOF,hXF⟩
      ) (by dsimp only;omega) ⟨rfl,rfl,rfl,rfl,rfl,rfl,rfl,rfl,rfl,rfl,trivial⟩ ⟨rfl,rfl,rfl,rfl,trivial⟩)
  | (exact Zm (
      ⟨(i+1,hO2,hX2,O,X2),Zf hx,(by dsimp only;first|omega|(simp at hb102;omega)),(by assumption),hoX2,hOF,hXF⟩
      ) (by dsimp only;omega) ⟨rfl,rfl,rfl,rfl,rfl,rfl,rfl,rfl,rfl,rfl,trivial⟩ ⟨rfl,rfl,rfl,rfl,trivial⟩)))))
 · first | exact bN hb52|(
 rw [US (show ¬Wy a x.2=true by simpa [Wy] using hb52),Xr] at hO3;(have hOF:O=Tb a N lev++P7 a ((lvP a N lev).take (i+1)):=by rw [hO3,hOE]);refine Ze ?_;(refine xL 58 (Zd 2 Z3) ?_<;>(refine yL 59 (Zk 2 Zg) fun v59 h=>?_;cases h)<;>refine xL 60 Zb ?_<;>refine Zc ?_)
 refine ZD (ι:={q:Nat×Value×List Pf//q.1≤a.syms.toNat∧q.2.1.oneCell'=true∧q.2.2=X++(List.range q.1).flatMap (LP a ((N:Int)-lev) x)}) (fun k=>⟨[(1,_,_),(2,_,_),(6,_,_),(7,_,_),(8,_,_),(9,_,_),(12,_,_),(43,_,_),(44,_,_),(45,_,_),(59,_,_),(10,k.1.2.1, .val k.1.2.1),(60, .int .i64 k.1.1,pInt k.1.1)],[(2,_,_),(12,_,_),(200,_,_),(201,_,_),(202,k.1.2.1, .own 182 2 k.1.2.2.length (k.1.2.2.flatMap cPf))]⟩) (fun k=>a.syms.toNat-k.1.1) ⟨(0,hX,X),Xd _,hoX,(Xr _).symm⟩ (fun a w H=>H.weaken ⟨rfl,rfl,rfl,rfl,rfl,rfl,rfl,rfl,rfl,rfl,rfl,rfl,rfl,trivial⟩ ⟨rfl,rfl,rfl,rfl,rfl,trivial⟩) ?_;rintro ⟨⟨c,hX2,X2⟩,hc,hoX2,hX2E⟩;dsimp only;dsimp only at hc hoX2 hX2E;have hkc:=OQ a ((N:Int)-lev) x c;(have hkl2:X2.length≤2100:=by rw [hX2E,Xb];omega);refine Ze ?_;(refine xL 61 ZP ?_<;>refine Zc ?_)
 refine cX ?_ ?_<;>intro hb61
 · first | exact bN hb61|(
 have hni:=LG hA.mi (c:Int) x.2;(have hnl:(Yz a c x.2).length≤2000:=by have:=L' hA.mi (Ki hA.mi (c:Int) x.2);unfold Yz;omega);have hR:=R7 (LP a ((N:Int)-lev) x) c;refine Ze ?_;(refine xL 62 Zb (xL 13 Za ?_)<;>refine Zi ?_)
 (refine xL 63 Zb (xL 64 (Zd 12 TL) ?_)<;>(refine yL 65 (Zk 12 Zy) fun v65 h=>?_;cases h)<;>refine xL 66 Zb ?_<;>(refine cO 67 (cA call112 (Hy a x.2 c hn1 hA.ml hA.mi hxi.1 hxi.2)) fun v67 ho67=>?_;refine Zs (En.freeze (l:=67) (t:=67) rfl rfl) fun _=>?_;rw [ZS _ _ _ rfl])<;>refine xL 68 Zb (xL 69 Zb (xL 70 K7 ?_))<;>(refine cO 71 (cA call140 (ZaT (Yz a c x.2) (Wt a) ((N:Int)-lev-1) oM (fun s hs=>by have:=hni s hs;omega))) fun v71 ho71=>?_;refine Zs (En.freeze (l:=71) (t:=71) rfl rfl) fun _=>?_;rw [ZS _ _ _ rfl])<;>refine xL 14 Za ?_<;>refine Zi ?_)
 (refine xL 72 Zb (xL 73 (ZT Zp) (xL 74 Yr ?_))<;>refine Zc ?_)
 refine cX ?_ ?_<;>intro hb74
 · first |exact bN hb74|(
 (have hkid:LP a ((N:Int)-lev) x c=[(x.1++[(c:Int)],WF (Yz a c x.2) (Wt a) ((N:Int)-lev-1))]:=by unfold LP;rw [US oM]);rw [hkid] at hR;refine Ze ?_;(refine xL 75 Zb (xL 76 (Zd 12 TK) ?_)<;>(refine yL 77 (Zk 12 Zy) fun v77 h=>?_;cases h)<;>refine cO 78 (cA call135 (Jv x.1 oM)) fun v78 ho78=>?_<;>refine xL 79 Zb ?_<;>refine ZO (kk:=1) 80 Zn fun h80 ho80=>?_<;>(refine ZW 78 80 81 Zn fun h81 ho81=>?_;refine Zs (En.freeze (l:=81) (t:=81) rfl rfl) fun _=>?_;rw [show PV.own 3 1 (x.1.length+1) (x.1.map pInt++[pInt c])= .own 3 1 (x.1++[(c:Int)]).length ((x.1++[(c:Int)]).map pInt) from P5 _ _ _,ZS _ _ _ rfl])<;>refine xL 82 Zb (xL 83 (ZL R8) ?_)<;>refine YB 84 G' fun h84 ho84=>?_<;>(refine ZW 202 84 85 G' fun h85 ho85=>?_;refine Zs (ZC (l:=85) 202 rfl rfl) fun _=>?_;refine Zs (ZH (l:=202) rfl (ZfX _ X2 (x.1++[(c:Int)],WF (Yz a c x.2) (Wt a) ((N:Int)-lev-1)))) fun _=>?_)<;>refine xL 10 Za ?_<;>refine Zi ?_)
 (refine xL 86 ZG (xL 60 Zb ?_)<;>refine Zc ?_)
 first
  | (exact Zm (
      ⟨(c+1,h85,X2++[(x.1++[(c:Int)],WF (Yz a c x.2) (Wt a) ((N:Int)-lev-1))]),by dsimp only;omega,ho85,by dsimp only;rw [hX2E,hR,Xy]⟩
      ) (by dsimp only;omega) ⟨rfl,rfl,rfl,rfl,rfl,rfl,rfl,rfl,rfl,rfl,rfl,rfl,rfl,trivial⟩ ⟨rfl,rfl,rfl,rfl,rfl,trivial⟩)
  | (exact Zm (
      ⟨(c+1,hX2,X2),by dsimp only;omega,hoX2,by dsimp only;rw [hX2E,hR]⟩
      ) (by dsimp only;omega) ⟨rfl,rfl,rfl,rfl,rfl,rfl,rfl,rfl,rfl,rfl,rfl,rfl,rfl,trivial⟩ ⟨rfl,rfl,rfl,rfl,rfl,trivial⟩))
 · first |exact bN hb74|(
 (have hkid:LP a ((N:Int)-lev) x c=[]:=by unfold LP;rw [UT oM]);rw [hkid,Xr] at hR;refine Ze ?_;(refine xL 86 ZG (xL 60 Zb ?_)<;>refine Zc ?_)
 first
  | (exact Zm (
      ⟨(c+1,h85,X2++[(x.1++[(c:Int)],WF (Yz a c x.2) (Wt a) ((N:Int)-lev-1))]),by dsimp only;omega,ho85,by dsimp only;rw [hX2E,hR,Xy]⟩
      ) (by dsimp only;omega) ⟨rfl,rfl,rfl,rfl,rfl,rfl,rfl,rfl,rfl,rfl,rfl,rfl,rfl,trivial⟩ ⟨rfl,rfl,rfl,rfl,rfl,trivial⟩)
  | (exact Zm (
      ⟨(c+1,hX2,X2),by dsimp only;omega,hoX2,by dsimp only;rw [hX2E,hR]⟩
      ) (by dsimp only;omega) ⟨rfl,rfl,rfl,rfl,rfl,rfl,rfl,rfl,rfl,rfl,rfl,rfl,rfl,trivial⟩ ⟨rfl,rfl,rfl,rfl,rfl,trivial⟩)))
 · first | exact bN hb61|(
 have hcs:c=a.syms.toNat:=oM;subst hcs;(have hXF:X2=((lvP a N lev).take (i+1)).flatMap (RJ a ((N:Int)-lev)):=by rw [hX2E,hK3,hXE];rfl);refine Ze ?_;(refine xL 87 Zb (xL 88 (YF 200 Z') (xL 89 Zb (xL 90 (YF 202 J6) (xL 91 ZG (xL 92 Yr (xL 93 Zb ?_))))))<;>(refine bLd 93 (fun hb93=>?_) (fun hb93=>?_)<;>(first|refine kL 94 ?_|refine xL 94 Zb ?_))<;>(first|refine kL 95 ?_|refine xL 95 (YF 200 Z') ?_)<;>(first|refine kL 96 ?_|refine xL 96 Yr ?_)<;>refine xL 97 ZF (xL 98 Zb ?_)<;>(first|refine xL 99 Zb ?_|(refine bLd 98 (fun hb98=>?_) (fun hb98=>?_)<;>(first|refine kL 99 ?_|refine xL 99 Zb ?_)))<;>(first|refine kL 100 ?_|refine xL 100 (YF 202 J6) ?_)<;>(first|refine kL 101 ?_|refine xL 101 Yr ?_)<;>refine xL 102 ZF ?_<;>refine Zc ?_)<;>(
 refine cX ?_ ?_<;>intro hb102
 · first|exact bN hb102|(
 refine Ze ?_;(refine xL 4 Za (xL 5 Za ?_)<;>refine Zc ?_)
 refine Y3 (Ks (t:=4) rfl) fun _=>?_;refine Wb (results91) rfl rfl (.inr (.inr (.inl ⟨hok,oM,oM,?_,rfl⟩)));rw [XS];have hfl2:=RL (RJ a ((N:Int)-lev)) (lvP a N lev) (i+1);have hsm5:=ζq a N (show lev+1≤N+1 by omega);rw [Tc,Xb] at hsm5;have hop5:=Zcx a (lvP a N lev) (i+1);have hOl:=congrArg List.length hOF;have hXl:=congrArg List.length hXF;simp only [Xb,Xl,XC] at hOl;by_cases hbig:2000<X2.length
 · exact .inl ⟨lev,oM,by rw [lvP];omega⟩
 · refine .inr ?_
   first
    |omega
    |(simp at hb102 hOl;omega))
 · first |exact bN hb102|(
 refine Ze ?_;(refine xL 103 ZG (xL 45 Zb ?_)<;>refine Zc ?_)
 first
  | (exact Zm (
      ⟨(i+1,_,_,O++[x.1],X2),Zf hx,(by dsimp only;first|omega|(simp at hb102;omega)),(by assumption),hoX2,hOF,hXF⟩
      ) (by dsimp only;omega) ⟨rfl,rfl,rfl,rfl,rfl,rfl,rfl,rfl,rfl,rfl,trivial⟩ ⟨rfl,rfl,rfl,rfl,trivial⟩)
  | (exact Zm (
      ⟨(i+1,hO2,hX2,O,X2),Zf hx,(by dsimp only;first|omega|(simp at hb102;omega)),(by assumption),hoX2,hOF,hXF⟩
      ) (by dsimp only;omega) ⟨rfl,rfl,rfl,rfl,rfl,rfl,rfl,rfl,rfl,rfl,trivial⟩ ⟨rfl,rfl,rfl,rfl,trivial⟩))))))
 · first|exact bN hb46|(
 have hil:i=(lvP a N lev).length:=oM;rw [hil,Vy] at hOE hXE;(have hOS:O=Tb a N (lev+1):=by rw [Tc];exact hOE);have hXS:X=lvP a N (lev+1):=hXE;(have hsm6:(Tb a N (lev+1)).length≤(lev+1)*2000:=by rw [Tc,Xb];have:=Zcw a (lvP a N lev);omega);(have hkl6:(lvP a N (lev+1)).length≤2000:=by rw [←hXS];exact hkl);clear hOE hXE hil;subst hOS hXS;refine Ze ?_;(refine xL 104 Zb (xL 9 Za ?_)<;>refine Zi ?_)
 (refine xL 41 Zb (xL 42 K7 (xL 1 Za ?_))<;>refine Zc ?_)
 refine Kq (ZC (l:=201) 203 rfl rfl) fun _=>?_;refine Kq (ZC (l:=202) 201 rfl rfl) fun _=>?_;rw [show ((N:Int)-(lev:Nat)-1)=(N:Int)-((lev+1:Nat):Int) by omega];refine Zm (
  ⟨(lev+1,hO2,hX),by dsimp only;omega,fun j hj=>by
    dsimp only at hj;rcases XD lev j with h9|h9
    · rw [show j=lev+1 by omega];exact hkl6
    · exact hlv j h9,hsm6,hoO2,hoX⟩
  ) (by dsimp only;omega) ⟨rfl,rfl,rfl,rfl,rfl,rfl,trivial⟩ ⟨rfl,rfl,rfl,trivial⟩))
 · first|exact bN hb40|(
 have hkE:lev=N+1:=oM;subst hkE;refine Ze ?_;(refine xL 105 Zb (xL 106 (YF 200 Z') (xL 107 Yr ?_))<;>refine Zc ?_)
 refine cX ?_ ?_<;>intro hb107
 · first|exact bN hb107|(
 refine Ze ?_;(refine xL 4 Za (xL 5 Za ?_)<;>refine Zc ?_)
 refine Y3 (Ks (t:=4) rfl) fun _=>?_;exact Wb (results91) rfl rfl (.inr (.inr (.inl ⟨hok,oM,oM, .inr (by rw [XS];omega),rfl⟩))))
 · first|exact bN hb107|(
 refine Ze ?_;(refine xL 108 Zb (xL 4 Za (xL 5 Za ?_))<;>refine Zc ?_)
 refine Y3 (En.freeze (l:=200) (t:=4) rfl rfl) fun _=>?_;rw [ZcD _ _ _ rfl];refine Wb (results91) rfl rfl (.inr (.inr (.inr ⟨hok,oM,oM,?_,by rw [XS]⟩)));rw [XS];rintro (⟨j,h1,h2⟩|h1)
 · have:=hlv (j+1) oM;omega
 · omega)))))
theorem J7 {n a:Nat} {f f':Nat→Bool} (hf:∀i,i<n→f' i=if i=a then true else f i):(vec n fun i=>ZM (f i)).set (a*1) (ZM true)=vec n fun i=>ZM (f' i):=by
 rw [Xq,P8]
 refine Jy fun i hi=>?_
 rw [hf i hi];split<;>rfl
theorem Kt {α:Type} {n i:Nat} (f:Nat→α) (h:i<n):(vec n f)[i*1]? =some (f i):=by rw [Xq];exact ZaW f h
end Go.Proofs.YtgfabnhpllkebaaGreatDoor
