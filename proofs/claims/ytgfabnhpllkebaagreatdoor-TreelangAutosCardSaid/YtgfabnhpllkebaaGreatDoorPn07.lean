/-
  Walks of functions and plain laws of the chapter, as the claim needs them.
-/
import Derived.Test.YtgfabnhpllkebaaGreatDoorPn06
import Derived.Test.YtgfabnhpllkebaaGreatDoorMShelfD
import Derived.Test.YtgfabnhpllkebaaGreatDoorPn02
import Derived.Test.YtgfabnhpllkebaaGreatDoorPn03
import Derived.Test.YtgfabnhpllkebaaGreatDoorPn01
namespace Go.Proofs.YtgfabnhpllkebaaGreatDoor
open Go.RowKit Go.Cb Go.En Tryz
set_option linter.all false
set_option maxRecDepth 100000
theorem GP:FldT prog 196 2 2=true:=by kernel_rfl
theorem Zej:NoAgg prog 134=true:=by kernel_rfl
theorem YL:NoAgg prog 139=true:=by kernel_rfl
theorem Wa:NoAgg prog 4=true:=by kernel_rfl
theorem Yy:SlT prog 139 4 1=true:=by kernel_rfl
theorem Wl:(prog.info? 3).map (·.size)=some 1:=by kernel_rfl
def cI (x:Int):List PV:=[pInt x]
theorem Zny (x:Int):(cI x).length=1:=rfl
theorem ZiO (l:List Int):l.map pInt=l.flatMap cI:=by
 induction l with
 |nil=>rfl
 |cons x l ih=>rw [Xw,Xz,ih];rfl
theorem ZV (e n:Nat) (l:List Int) (hn:n=l.length):share (.own e 1 n (l.map pInt))=pInts l:=by
 subst hn
 rw [share,Yl,XH];rfl
theorem C2 {p:Int→Bool} {l:List Int} {k:Nat} {x:Int} (hx:l[k]? =some x) (h:p x=false):((Rv p l k).map pInt).set (KP p l k).length (pInt x)=(Rv p l (k+1)).map pInt:=by
 have h1:=ZiN (f:=cI) Zny hx h
 rw [Xp,←ZiO,←ZiO] at h1
 exact h1
theorem ZiP (f :Nat) (caps:List PV) (p:Int→Bool) (l:List Int) (hl:l.length≤1000000) (hv g:Value) (hc:∀args w,(callFunc f args).run prog w= .ok (.enter f args) w) (hf:∀s∈l,AF prog f (pInt s::caps) (· =ZK (p s))):
 AFh False prog 190 [(0,hv, .val hv),(1,g, .fn f caps)] [(1000,hv, .own 3 1 l.length (l.map pInt))] (fun v q h=>q= .val v∧h=[(1000,v, .own 3 1 (l.filter fun s=> !p s).length ((l.filter fun s=> !p s).map pInt))]):=by
 refine AFh.of_body 42 func190 rfl ntmps190 (Xa rfl) rfl ?_
 intro w0 M0 N0
 have hq:=ZV 3 l.length l rfl
 refine Ze ?_
 (refine xL 4 Za ?_<;>refine Zi ?_)
 (refine xL 8 Zb (xL 9 Zb ?_)<;>(refine cS 10 (cB rfl call154 (Sb f caps p l hc hf) ⟨⟨_,_,rfl,hq▸Zgp (l:=1000) rfl⟩,⟨_,_,rfl,ZdR (x:= .tmp 9) rfl⟩,trivial⟩) fun v10 h=>?_;cases h)<;>refine xL 5 Za ?_<;>refine Zi ?_)
 (refine xL 11 Zb (xL 12 Yd ?_)<;>refine Zc ?_)
 refine cX ?_ ?_<;>intro hb12
 · first|exact bN hb12|(
 refine Ze ?_;(refine xL 13 Zb (xL 4 Za ?_)<;>refine Zc ?_)
 refine HN [(1000,hv,PV.own 3 1 l.length (l.map pInt))] (results190) rfl ⟨rfl,trivial⟩ ⟨rfl,?_⟩;rw [UD.2 fun s hs=>?_];rcases Zas (p:=p) (l:=l) with ⟨_,h⟩|⟨i0,x0,h,_⟩
 · rw [h s hs];rfl
 · exfalso;omega)
 · first | exact bN hb12|(
 obtain ⟨i0,x0,hi0,hx0,hp0,hn0⟩:=(Zas (p:=p) (l:=l)).resolve_left fun h=>hb12 h.1;have hlt0:=Zf hx0;(have hk0:KP p l (i0+1)=l.take i0:=by rw [LZ hx0 hp0,ZgP hn0]);rw [hi0];refine Ze ?_;(refine xL 14 Zb (xL 15 ZH (xL 6 Za ?_))<;>refine Zc ?_)
 refine ZB (ι:={q:Nat×Nat×List PV//q.1≤l.length∧q.2.1=(KP p l q.1).length∧q.2.2=(Rv p l q.1).map pInt}) (fun k=>⟨[(0,_,_),(1,_,_),(5, .int .i64 k.1.2.1,pInt k.1.2.1),(6, .int .i64 k.1.1,pInt k.1.1)],[(1000,hv, .own 3 1 l.length k.1.2.2)]⟩) (fun k=>l.length-k.1.1) ⟨(i0+1,i0,l.map pInt),hlt0,(by dsimp only;rw [hk0,Xo];omega),(by dsimp only;unfold Rv;rw [hk0,Xo,X3 oM,VJ])⟩ (fun a w H=>H.weaken ⟨rfl,rfl,rfl,rfl,trivial⟩ ⟨rfl,trivial⟩) ?_;rintro ⟨⟨k,j,row⟩,hk,hj,hr⟩;dsimp only;dsimp only at hk hj hr;have hle:=PR p l k;have hjl:j≤l.length:=oM;have hjl2:(j:Int)≤1000000:=oM;(have hrl:row.length=l.length:=by rw [hr,Xe,ZiM p l hk]);refine Ze ?_;(refine xL 16 Zb (xL 17 Zb (xL 18 (YH 1000 Zp) (xL 19 ZP ?_)))<;>refine Zc ?_)
 refine cX ?_ ?_<;>intro hb19
 · first | exact bN hb19|(
 obtain ⟨x,hx⟩:=Zq (show k<l.length by omega);(have e1:row[k*1]? =some (pInt x):=by rw [hr,Xp,Xh,Zls hx];rfl);(have e3:j<row.length:=by rw [hrl];have:=Zf hx;omega);refine Ze ?_;(refine xL 22 Zb (xL 23 Zb (xL 24 (Yi 1000 Zp) ?_))<;>(refine yL 25 (Zj 1000 Zg) fun v25 h=>?_;cases h)<;>refine xL 7 Za ?_<;>refine Zi ?_)
 (refine xL 26 Zb (xL 27 Zb ?_)<;>(refine cS 28 (JX (f:=f) (ps:=caps) rfl ⟨_,rfl⟩ hc rfl (hf x (Xb hx))) fun v28 h=>?_;cases h)<;>refine xL 29 Z8 ?_<;>refine Zc ?_)
 refine cX ?_ ?_<;>intro hb29
 · first |exact bN hb29|(
 refine Ze ?_;(refine xL 30 Zb (xL 31 Zb (xL 32 Zb (xL 33 (Yi 1000 Zp) ?_)))<;>refine YM 1000 Zg Wl ?_<;>refine Zi ?_)
 (refine xL 34 Zb (xL 35 ZH (xL 5 Za ?_))<;>refine Zi ?_)
 (refine xL 20 Zb (xL 21 ZH (xL 6 Za ?_))<;>refine Zc ?_)
 first
  | (exact Zm (
      ⟨(k+1,j,row),Zf hx,(by dsimp only;rw [LZ hx (by simpa using hb29)];exact hj),(by dsimp only;rw [hr];unfold Rv;rw [LZ hx (by simpa using hb29)])⟩
      ) (by dsimp only;omega) ⟨rfl,rfl,rfl,rfl,trivial⟩ ⟨rfl,trivial⟩)
  | (exact Zm (
      ⟨(k+1,j+1,row.set (j*1) (pInt x)),Zf hx,(by show j+1=(KP p l (k+1)).length;rw [HV hx (by simpa using hb29)];simp [hj]),(by show row.set (j*1) (pInt x)=(Rv p l (k+1)).map pInt;rw [hr,hj,Xp];exact C2 hx (by simpa using hb29))⟩
      ) (by dsimp only;omega) ⟨rfl,rfl,rfl,rfl,trivial⟩ ⟨rfl,trivial⟩))
 · first |exact bN hb29|(
 refine Ze ?_;(refine xL 20 Zb (xL 21 ZH (xL 6 Za ?_))<;>refine Zc ?_)
 first
  | (exact Zm (
      ⟨(k+1,j,row),Zf hx,(by dsimp only;rw [LZ hx (by simpa using hb29)];exact hj),(by dsimp only;rw [hr];unfold Rv;rw [LZ hx (by simpa using hb29)])⟩
      ) (by dsimp only;omega) ⟨rfl,rfl,rfl,rfl,trivial⟩ ⟨rfl,trivial⟩)
  | (exact Zm (
      ⟨(k+1,j+1,row.set (j*1) (pInt x)),Zf hx,(by show j+1=(KP p l (k+1)).length;rw [HV hx (by simpa using hb29)];simp [hj]),(by show row.set (j*1) (pInt x)=(Rv p l (k+1)).map pInt;rw [hr,hj,Xp];exact C2 hx (by simpa using hb29))⟩
      ) (by dsimp only;omega) ⟨rfl,rfl,rfl,rfl,trivial⟩ ⟨rfl,trivial⟩)))
 · first|exact bN hb19|(
 have hkl:k=l.length:=oM;refine Ze ?_;(refine xL 36 Zb (xL 37 Zb ?_)<;>refine xL 38 (LL (i:=j) (j:=l.length) 1000 Zp rfl rfl rfl rfl rfl hjl (Xg _)) ?_<;>(refine ZbF 1000 Zn dC rfl rfl rfl rfl rfl hjl ?_;intro cs2 hcs1 hcs2)<;>refine Zi ?_)
 (refine xL 39 Zb (xL 40 Zb ?_)<;>refine xL 41 (LL (i:=0) (j:=j) 1000 Zp rfl rfl rfl rfl rfl (Xd _) hjl) ?_<;>refine xL 4 Za ?_<;>refine Zc ?_)
 refine Wr (Zos (l:=1000) j rfl hjl) fun _=>?_;refine HN [(1000,slc hv 0 j 1,PV.own 3 1 j (cs2.take (j*1)))] (results190) rfl ⟨rfl,trivial⟩ ⟨rfl,?_⟩;(have hF:(l.filter fun s=> !p s)=KP p l k:=by unfold KP;rw [hkl,VN]);rw [hcs2,hr,hF,←hj];congr 4;unfold Rv;rw [Xu,Xp,List.take_left' (by rw [Xe,hj])]))
theorem Jw (l:List Int) (hl:l.length≤1000000):AF prog 135 [pInts l] (· = .own 3 1 l.length (l.map pInt)):=by
 refine AF.of_body 8 func135 rfl ntmps135 (Xa rfl) ?_
 intro w0 M0 vs hl hv
 obtain ⟨v0,rfl⟩:=Wj hl
 clear hl hv
 have f3:(l.map pInt).length=l.length*1:=by rw [Xe,Xp]
 have f4:(l.map pInt).all En.one=true:=by rw [List.all_map,XB];intro x _;rfl
 refine Ze ?_
 (refine xL 2 Za ?_<;>refine Zi ?_)
 (refine xL 3 Zb ?_<;>(refine yL 4 (Zfn Zp) fun v4 hv4=>?_;rcases hv4 with rfl|⟨rfl,hn0⟩)<;>refine Zc ?_)<;>(
 refine cX ?_ ?_<;>intro hb4
 · first|exact bN hb4|(
 refine Ze ?_;(refine xL 2 Za ?_<;>refine Zc ?_)
 have hl0:l=[]:=XR hn0;subst hl0;refine Wr (Jl 200 3 1 rfl) fun _=>?_;exact W9 200 (results135) rfl rfl rfl)
 · first|exact bN hb4|(
 refine Ze ?_;(refine LD 5 Zn fun h5 ho5=>?_<;>refine xL 6 Zb ?_<;>refine Kc 5 7 Zn (fun h7 ho7=>?_) f3 f4<;>refine xL 2 Za ?_<;>refine Zc ?_)
 refine W9 7 (results135) rfl rfl ?_;rw [Xv,X9]))
def ZiQ (far:List Int) (n:Int) (s:Int):Bool:=match far[s.toNat]? with
 |some d=>decide (d<0)||decide (n<d)
 |none=>false
def WA (l far:List Int) (n:Int):List Int:=l.filter fun s=> !ZiQ far n s
theorem ZiR (far:List Int) (n s:Int) (h0:0≤s) (h1:s<far.length):AF prog 191 [pInt s, .sptr 0 [pInts far], .sptr 0 [pInt n]] (· =ZK (ZiQ far n s)):=by
 refine AF.of_body 18 func191 rfl ntmps191 (Xa rfl) ?_
 intro w0 M0 vs hl hv
 obtain ⟨v0,v1,v2,rfl⟩:=LO hl
 obtain rfl:=hv 0 _ _ rfl rfl
 clear hl hv
 obtain ⟨d,hd⟩:=Zq (show s.toNat<far.length by omega)
 have e1:(far.map pInt)[s.toNat*1]? =some (pInt d):=by rw [Xp,Xh,hd];rfl
 refine Ze ?_
 (refine xL 4 Za ?_<;>refine Zc ?_)
 (refine ZY (fun i=>([]:List Nat).elem i) [] kR ?_<;>(refine yD 0 5 rfl (Ya Zz) fun v5 h=>?_;cases h)<;>refine xE 1 6 rfl Zb ?_<;>refine xE 2 7 rfl (LQ Zp) ?_<;>(refine yE 3 8 rfl (Ya Zg) fun v8 h=>?_;cases h)<;>refine xE 4 9 rfl ZP ?_<;>refine xE 5 10 rfl Zb ?_<;>(refine bDd 10 (fun hb10=>?_) (fun hb10=>?_)<;>(first|refine kD 6 11 rfl ?_|(refine yD 6 11 rfl (Ya Zz) fun v11 h=>?_;cases h)))<;>(first|refine kD 7 12 rfl ?_|refine xD 7 12 rfl Zb ?_)<;>(first|refine kD 8 13 rfl ?_|refine xD 8 13 rfl (LQ Zp) ?_)<;>(first|refine kD 9 14 rfl ?_|(refine yD 9 14 rfl (Ya Zg) fun v14 h=>?_;cases h))<;>(first|refine kD 10 15 rfl ?_|(refine yD 10 15 rfl (Ya Zg) fun v15 h=>?_;cases h))<;>(first|refine kD 11 16 rfl ?_|refine xD 11 16 rfl Yw ?_)<;>refine xE 12 17 rfl ZG ?_<;>refine xE 13 4 rfl Za ?_<;>refine Yr kR (nav ?_)<;>try dsimp only)<;>(
 refine Zy (results191) rfl ?_;unfold ZiQ;rw [hd];show _=ZK (decide (d<0)||decide (n<d))
 first
  |(rw [UP hb10];rfl)
  |(rw [UQ hb10];rfl))
theorem Zat (l far:List Int) (n:Int) (hl:l.length≤1000000) (hs:∀s∈l,0≤s∧s<far.length):AF prog 140 [pInts l,pInts far,pInt n] (· = .own 3 1 (WA l far n).length ((WA l far n).map pInt)):=by
 refine AF.of_body 11 func140 rfl ntmps140 (Xa rfl) ?_
 intro w0 M0 vs hl hv
 obtain ⟨v0,v1,v2,rfl⟩:=LO hl
 obtain rfl:=hv 2 _ _ rfl rfl
 clear hl hv
 refine Ze ?_
 (refine Zfj 4 fun h4=>?_<;>refine Zfj 5 fun h5=>?_<;>refine xL 6 Za ?_<;>refine Zc ?_)
 refine Zs (Px (l:=4) (t:=4) (j:=0) rfl Nat.one_pos rfl) fun _=>?_
 refine Zs (Px (l:=5) (t:=5) (j:=0) rfl Nat.one_pos rfl) fun _=>?_
 (refine Zv ?_<;>refine xL 7 Zb ?_<;>refine cO 8 (cA call135 (Jw l hl)) fun v8 ho8=>?_<;>refine xL 9 Zaj ?_<;>(refine Zt (ZE (l:=8) 1000 rfl rfl) fun _=>?_;refine WN [(1000,_,_)] ⟨rfl,trivial⟩ ?_;refine JM [] 10 (call190) (ZiP 191 [.sptr 0 [pInts far], .sptr 0 [pInt n]] (ZiQ far n) l hl v8 _ (call191) (fun s hm=>ZiR far n s (hs s hm).1 (hs s hm).2)) ?_;rintro v10 _ _ ⟨rfl,rfl⟩)<;>refine xL 6 Za ?_<;>refine Zc ?_)
 exact W9 1000 (results140) rfl rfl rfl
def movesOf (a:Aut) (s:Nat):List Mv:=a.moves.filter fun m=>decide (m.src=(s:Int))
def GC (a:Aut) (s:Int):Bool:=a.fin.any fun t=>decide (t=s)
def Zau (a:Aut):PV:= .sl a.n.toNat ((List.range a.n.toNat).map fun s=>pMvs (movesOf a s))
def ZiS (a:Aut):PV:= .sl a.n.toNat ((List.range a.n.toNat).map fun s=>ZK (GC a (s:Nat)))
def pGr (a:Aut):PV:= .sptr 0 [pInt a.syms,Zau a,ZiS a]
theorem G5 {N k:Nat} (h:k<N) (f:Nat→PV):((List.range N).map f)[k]? =some (f k):=by
 rw [Xh,Uf h];rfl
theorem ZbT (a:Aut) (s:Int) (h0:0≤s) (h1:s<a.n):AF prog 157 [pInt s, .sptr 0 [pGr a]] (· =ZK (GC a s)):=by
 refine AF.of_body 11 func157 rfl ntmps157 (Xa rfl) ?_
 intro w0 M0 vs hl hv
 obtain ⟨v0,v1,rfl⟩:=YG hl
 obtain rfl:=hv 0 _ _ rfl rfl
 clear hl hv
 have e1:((List.range a.n.toNat).map fun s=>ZK (GC a (s:Nat)))[s.toNat*1]? =some (ZK (GC a s)):=by rw [Xp,G5 oM];rw [show ((s.toNat:Nat):Int)=s by omega]
 have e2:s.toNat<a.n.toNat:=oM
 refine Ze ?_
 (refine xL 3 Za ?_<;>refine Zi ?_)
 ((refine yL 4 (Ya Zej) fun v4 h=>?_;cases h)<;>refine xL 5 RI (xL 6 (JY GP) ?_)<;>(refine yL 7 (Ya YL) fun v7 h=>?_;cases h)<;>refine xL 8 Zb (xL 9 (LQ Yy) ?_)<;>(refine yL 10 (Ya Wa) fun v10 h=>?_;cases h)<;>refine xL 3 Za ?_<;>refine Zc ?_)
 exact Zy results157 rfl rfl
theorem HY (a:Aut) (l:List Int) (hs:∀s∈l,0≤s∧s<a.n):AF prog 113 [pGr a,pInts l] (· =ZK (l.any (GC a))):=by
 refine AF.of_body 8 func113 rfl ntmps113 (Xa rfl) ?_
 intro w0 M0 vs hl hv
 obtain ⟨v0,v1,rfl⟩:=YG hl
 clear hl hv
 refine Ze ?_
 (refine Zfj 2 fun h2=>?_<;>refine xL 4 Za ?_<;>refine Zc ?_)
 refine Zs (Px (l:=2) (t:=2) (j:=0) rfl Nat.one_pos rfl) fun _=>?_
 (refine Zv ?_<;>refine xL 5 Zb (xL 6 Zaj ?_)<;>(refine cS 7 (cA call108 (PF 157 [.sptr 0 [pGr a]] (GC a) l (call157) (fun s hm=>ZbT a s (hs s hm).1 (hs s hm).2))) fun v7 h=>?_;cases h)<;>refine xL 4 Za ?_<;>refine Zc ?_)
 exact Zy results113 rfl rfl
theorem HZ:MpT prog 197 3 4 (.int .i64) (.bool false):=⟨underlying197,underlying3, .inr ⟨_,rfl⟩,by show ZeroT _ _ _;unfold ZeroT;kernel_rfl⟩
theorem RO:NoAgg prog 197=true:=by kernel_rfl
theorem Wd:(prog.info? 36).map (·.size)=some 1:=by kernel_rfl
def Tx (out:List Int):List (Int×Value):=out.map fun s=>(s, .bool true)
theorem ZiT (out:List Int) (s:Int):(Kk (ikv (Tx out)) (.int .i64 s)).getD (.bool false)= .bool (out.elem s):=by
 rw [Zbq]
 induction out with
 |nil=>rfl
 | cons x l ih=>
   unfold Tx at ih ⊢;rw [Xw,Gp,List.elem_cons];by_cases h:s=x
   · subst h;simp
   · (have h1:(s==x)=false:=by simpa using h);rw [h1];simp [h,Ne.symm h];simpa using ih
theorem ZiU {out:List Int} {s:Int} (h:out.elem s=false):K' (ikv (Tx out)) (.int .i64 s) (.bool true)=ikv (Tx (out++[s])):=by
 rw [Zbr]
 congr 1
 induction out with
 |nil=>rfl
 | cons x l ih=>
   rw [List.elem_cons] at h;have h1:(s==x)=false:=by cases h2:(s==x)<;>simp_all
   have h2:l.elem s=false:=by simp_all
   have h3:¬s=x:=by simpa using h1
   unfold Tx at ih ⊢;rw [Xw,Hy];simp [h3,Ne.symm h3];simpa using ih h2
def GH (out:List Int) (s:Int):List Int:=if out.elem s then out else out++[s]
def clH (h5 h6 m r:Value) (out:List Int):List (Nat×Ent):=[(1001,h5, .own 197 1 1 [.val m]),(1002,h6, .own 36 1 1 [.val r]),(1003,m, .omap (ikv (Tx out))),(1004,r, .own 3 1 out.length (out.map pInt))]
theorem Dm (s:Int) (h5 h6 m r:Value) (out:List Int) (hl:out.length≤1000000) (hm:m.oneCell'=true) (hr:r.oneCell'=true):AFh False prog 155 [(0, .int .i64 s,pInt s),(1,padd (sbase h5) 0, .val (padd (sbase h5) 0)),(2,padd (sbase h6) 0, .val (padd (sbase h6) 0))]
 (clH h5 h6 m r out) (fun v q h=>q= .val v∧∃r':Value,r'.oneCell'=true∧h=clH h5 h6 m r' (GH out s)):=by
 have hu:=ZiT out s
 refine AFh.of_body 14 func155 rfl ntmps155 (Xa rfl) rfl ?_
 intro w0 M0 N0
 refine Ze ?_
 ((refine yL 4 (Zj 1001 RO) fun v4 h=>?_;cases h)<;>refine xL 5 Zb (xL 6 (HB 1003 HZ) (xL 7 Z8 ?_))<;>refine Zc ?_)
 refine cX ?_ ?_<;>intro hb7
 · first |exact bN hb7|(
 (have hn:out.elem s=false:=by simpa using hb7);have hp:=ZiU hn;refine Ze ?_;((refine yL 8 (Zj 1001 RO) fun v8 h=>?_;cases h)<;>refine xL 9 Zb ?_<;>(refine LF 1003 HZ ?_;rw [hp])<;>refine Zi ?_)
 ((refine yL 10 (Zj 1002 Zz) fun v10 h=>?_;cases h)<;>refine xL 11 Zb ?_<;>refine ZO (kk:=1) 12 Zn fun h12 ho12=>?_<;>refine Z1 1004 12 13 Zn fun h13 ho13=>?_<;>refine YM 1002 Zz Wd ?_<;>refine Zc ?_)
 first
  | (refine Kn (ZE (l:=13) 1004 rfl rfl) fun _=>?_
     refine Sd (clH h5 h6 m _ (out++[s])) (results155) ⟨rfl,rfl,rfl,?_,trivial⟩ ⟨rfl,_,ho13,?_⟩
     · rw [Xu,Xc];rfl
     · unfold GH;rw [hn];rfl)
  | (refine Sd (clH h5 h6 m r out) (results155) ⟨rfl,rfl,rfl,rfl,trivial⟩ ⟨rfl,r,hr,?_⟩
     unfold GH;rw [US (by simpa using hb7)]))
 · first |exact bN hb7|(
 refine nav ?_
 first
  | (refine Kn (ZE (l:=13) 1004 rfl rfl) fun _=>?_
     refine Sd (clH h5 h6 m _ (out++[s])) (results155) ⟨rfl,rfl,rfl,?_,trivial⟩ ⟨rfl,_,ho13,?_⟩
     · rw [Xu,Xc];rfl
     · unfold GH;rw [hn];rfl)
  | (refine Sd (clH h5 h6 m r out) (results155) ⟨rfl,rfl,rfl,rfl,trivial⟩ ⟨rfl,r,hr,?_⟩
     unfold GH;rw [US (by simpa using hb7)]))
theorem K2:FldT prog 196 1 1=true:=by kernel_rfl
theorem J5:NoAgg prog 194=true:=by kernel_rfl
theorem J6:SlT prog 194 37 1=true:=by kernel_rfl
theorem Zek:(prog.info? 197).map (·.size)=some 1:=by kernel_rfl
theorem Zel:ZeroT prog 197 (.map none):=by unfold ZeroT;kernel_rfl
theorem ZgQ:ZeroT prog 36 (.slice none 0 0):=by unfold ZeroT;kernel_rfl
theorem nodup_len:∀(n:Nat) (L:List Int),L.Nodup→(∀s∈L,0≤s∧s<n)→L.length≤n
 |0,[],_,_=>Xg _
 |0,x::_,_,h=>by have:=h x (Xm ..);omega
 | n +1,L,hn,h=>by
   have h1:=nodup_len n (L.erase (n:Int)) (hn.erase _) fun s hs=>by
    have h2:=(hn.mem_erase_iff).1 hs;have h3:=h s h2.2;have:=h2.1;omega
   have h2:=List.length_erase (a:=(n:Int)) (l:=L);split at h2<;>omega
def OutOk (n:Int) (out:List Int):Prop:=out.Nodup∧∀s∈out,0≤s∧s<n
theorem OutOk.len {n:Int} {out:List Int} (h:OutOk n out):out.length≤n.toNat:=nodup_len _ _ h.1 fun s hs=>by have:=h.2 s hs;omega
theorem OutOk.add {n:Int} {out:List Int} {s:Int} (h:OutOk n out) (hs:0≤s∧s<n):OutOk n (GH out s):=by
 unfold GH
 split
 · exact h
 · rename_i h1;refine ⟨?_,fun t ht=>?_⟩
   · rw [VA];refine ⟨h.1,sM,fun a ha b hb=>?_⟩;simp only [Xl] at hb;subst hb;intro e;subst e;exact h1 (by simpa using ha)
   · rw [Xt,Xl] at ht;rcases ht with ht|rfl
     · exact h.2 t ht
     · exact hs
def Y3 (l:List Int) (out:List Int):List Int:=l.foldl GH out
theorem OutOk.all {n:Int}:∀(l:List Int) {out:List Int},OutOk n out→(∀s∈l,0≤s∧s<n)→OutOk n (Y3 l out)
 |[],_,h,_=>h
 |x::l,_,h,hl=>OutOk.all l (h.add (hl x (Xm ..))) fun s hs=>hl s (Xn _ hs)
theorem ZbU {l:List Int} {k:Nat} {x:Int} (h:l[k]? =some x) (out:List Int):Y3 (l.take (k+1)) out=GH (Y3 (l.take k) out) x:=by
 unfold Y3;rw [ZT h,VE];rfl
def WI (ms:List Mv):List Int:=(ms.filter fun m=>decide (m.sym= -1)).map (·.dst)
theorem Zem {ms:List Mv} {k:Nat} {m:Mv} (h:ms[k]? =some m) (hs:m.sym= -1):WI (ms.take (k+1))=WI (ms.take k)++[m.dst]:=by
 unfold WI;rw [ZT h,XV,Xu];simp [hs]
theorem C3 {ms:List Mv} {k:Nat} {m:Mv} (h:ms[k]? =some m) (hs:¬m.sym= -1):WI (ms.take (k+1))=WI (ms.take k):=by
 unfold WI;rw [ZT h,XV,Xu];simp [hs]
def RP (a:Aut) (out:List Int) (i:Nat):List Int:=match out[i]? with
 |some s=>Y3 (WI (movesOf a s.toNat)) out
 |none=>out
def Wy (a:Aut) (l:List Int):Nat→List Int
 |0=>Y3 l []
 |i+1=>RP a (Wy a l i) i
def YR (a:Aut) (l:List Int):List Int:=(Wy a l a.n.toNat).mergeSort fun x y=>decide (x≤y)
def LG (a:Aut):Prop:=∀m∈a.moves,0≤m.dst∧m.dst<a.n
theorem C4 {a:Aut} (h:LG a) (s:Nat):∀t∈WI (movesOf a s),0≤t∧t<a.n:=fun t ht=>by
 unfold WI movesOf at ht
 simp only [Xj,Vo] at ht
 obtain ⟨m,⟨⟨h1,_⟩,_⟩,rfl⟩:=ht
 exact h m h1
theorem Ty {a:Aut} {l:List Int} (h:LG a) (hl:∀s∈l,0≤s∧s<a.n):∀i,OutOk a.n (Wy a l i)
 |0=>OutOk.all l ⟨Vg,sM⟩ hl
 | i+1=>by
   rw [Wy,RP];split
   · exact OutOk.all _ (Ty h hl i) (C4 h _)
   · exact Ty h hl i
theorem C5 {a:Aut} {l:List Int} {i:Nat} (h:(Wy a l i).length≤i):∀j,Wy a l (i+j)=Wy a l i
 |0=>rfl
 | j+1=>by
   rw [←XX,Wy,C5 h j,RP,XK oM]
theorem ZbV {a:Aut} {l:List Int} {i n:Nat} (h:(Wy a l i).length≤i) (hi:i≤n):Wy a l n=Wy a l i:=by
 have:=C5 h (n-i)
 rwa [show i+(n-i)=n by omega] at this
theorem Zlt {ms:List Mv} {k:Nat} {m:Mv} (h:ms[k]? =some m) (hs:m.sym= -1) (out:List Int):GH (Y3 (WI (ms.take k)) out) m.dst=Y3 (WI (ms.take (k+1))) out:=by
 rw [Zem h hs];unfold Y3;rw [VE];rfl
theorem ZiV {a:Aut} (h:LG a) (s k:Nat):∀t∈WI ((movesOf a s).take k),0≤t∧t<a.n:=fun t ht=>by
 refine C4 h s t ?_
 unfold WI at ht ⊢
 simp only [Xj,Vo] at ht ⊢
 obtain ⟨m,⟨h1,h2⟩,h3⟩:=ht
 exact ⟨m,⟨VO h1,h2⟩,h3⟩
theorem Zen:ZmM prog 156:=fun blk cap zs w hH hb hn=>Tryz.slices_Sort_int blk 0 cap zs w hH hb hn
theorem ZbW:HO prog 156:=fun p cap w=>Tryz.slices_Sort_int_none p cap w
set_option maxHeartbeats 2000000 in
theorem RQ (a : Aut) (l:List Int) (hn:a.n≤2000) (hm:LG a) (hl:∀s∈l,0≤s∧s<a.n):AF prog 111 [pGr a,pInts l] (· = .own 3 1 (YR a l).length ((YR a l).map pInt)):=by
 refine AF.of_body 57 func111 rfl ntmps111 (Xa rfl) ?_
 intro w0 M0 vs hl hv
 obtain ⟨v0,v1,rfl⟩:=YG hl
 clear hl hv
 refine YO 1 rfl fun hlen=>?_
 refine Ze ?_
 (refine xL 4 Za ?_<;>refine Zi ?_)
 (refine GM 13 fun h13 ho13=>?_<;>refine Zx [(.map none)] 1 5 Zel fun h5=>?_<;>refine YM 5 RO Zek ?_<;>refine Zi ?_)
 (refine Zx [(.slice none 0 0)] 1 6 ZgQ fun h6=>?_<;>refine Zi ?_)
 (refine xL 14 Zaj (xL 7 Za ?_)<;>refine Zc ?_)
 refine Zs (Jl 200 3 1 rfl) fun _=>?_
 refine Zs (ZE (l:=5) 1001 rfl rfl) fun _=>?_
 refine Zs (ZE (l:=6) 1002 rfl rfl) fun _=>?_
 refine Zs (ZE (l:=13) 1003 rfl rfl) fun _=>?_
 refine Zs (ZE (l:=200) 1004 rfl rfl) fun _=>?_
 (refine Zv ?_<;>refine xL 15 Zb (xL 16 (ZR Zp) (xL 17 Zb ?_))<;>refine Zc ?_)
 refine ZB (ι:={q:Nat×Value//q.1≤l.length∧q.2.oneCell'=true}) (fun k=>⟨[(0,_,_),(5,_,_),(6,_,_),(7,_,_),(15,_,_),(16,_,_),(17, .int .i64 k.1.1,pInt k.1.1)],[(1001,h5, .own 197 1 1 [.val h13]),(1002,h6, .own 36 1 1 [.val k.1.2]),(1003,h13, .omap (ikv (Tx (Y3 (l.take k.1.1) [])))),(1004,k.1.2, .own 3 1 (Y3 (l.take k.1.1) []).length ((Y3 (l.take k.1.1) []).map pInt))]⟩) (fun k=>l.length-k.1.1) ⟨(0, .slice none 0 0),Xd _,rfl⟩ (fun a w H=>H.weaken ⟨rfl,rfl,rfl,rfl,rfl,rfl,rfl,trivial⟩ ⟨rfl,rfl,rfl,rfl,trivial⟩) ?_
 rintro ⟨⟨k,r⟩,hk,hr⟩
 dsimp only
 dsimp only at hk hr
 have hok:OutOk a.n (Y3 (l.take k) []):=OutOk.all _ ⟨Vg,sM⟩ (fun s hs=>hl s (VO hs))
 have hol:(Y3 (l.take k) []).length≤1000000:=by have:=hok.len;omega
 refine Ze ?_
 (refine xL 18 ZP ?_<;>refine Zc ?_)
 refine cX ?_ ?_<;>intro hb18
 · first|exact bN hb18|(
 obtain ⟨x,hx⟩:=Zq (show k<l.length by omega);have e1:=Z7 (f:=pInt) hx;refine Ze ?_;(refine xL 19 (ZI Zp) ?_<;>(refine yL 20 (Ya Zg) fun v20 h=>?_;cases h)<;>refine xL 9 Za ?_<;>refine Zi ?_)
 (refine xL 21 Zb (xL 22 Zb ?_)<;>(refine WN (clH h5 h6 h13 r (Y3 (l.take k) [])) ⟨rfl,rfl,rfl,rfl,trivial⟩ ?_;refine Zin [] 23 (call155) (Dm x h5 h6 h13 r (Y3 (l.take k) []) hol ho13 hr) ?_;rintro v23 _ _ ⟨rfl,r2,hr2,rfl⟩;rw [←ZbU hx])<;>refine Zi ?_)
 (refine xL 24 ZH (xL 17 Zb ?_)<;>refine Zc ?_)
 refine Zm (
  ⟨(k+1,r2),Zf hx,hr2⟩
  ) (by dsimp only;omega) ⟨rfl,rfl,rfl,rfl,rfl,rfl,rfl,trivial⟩ ⟨rfl,rfl,rfl,rfl,trivial⟩)
 · first | exact bN hb18|(
 rw [show Y3 (l.take k) []=Wy a l 0 by rw [Xk oM];rfl];refine Ze ?_;(refine xL 10 Za ?_<;>refine Zc ?_)
 refine ZB (ι:={q:Nat×Value//q.1≤a.n.toNat∧q.2.oneCell'=true}) (fun k=>⟨[(0,_,_),(5,_,_),(6,_,_),(7,_,_),(10, .int .i64 k.1.1,pInt k.1.1)],[(1001,h5, .own 197 1 1 [.val h13]),(1002,h6, .own 36 1 1 [.val k.1.2]),(1003,h13, .omap (ikv (Tx (Wy a l k.1.1)))),(1004,k.1.2, .own 3 1 (Wy a l k.1.1).length ((Wy a l k.1.1).map pInt))]⟩) (fun k=>a.n.toNat-k.1.1) ⟨(0,r),Xd _,hr⟩ (fun a w H=>H.weaken ⟨rfl,rfl,rfl,rfl,rfl,trivial⟩ ⟨rfl,rfl,rfl,rfl,trivial⟩) ?_;rintro ⟨⟨i,r3⟩,hi,hr3⟩;dsimp only;dsimp only at hi hr3;have hok3:=Ty hm hl i;have hlen3:=hok3.len;refine Ze ?_;(refine xL 25 Zb ?_<;>(refine yL 26 (Zj 1002 Zz) fun v26 h=>?_;cases h)<;>refine xL 27 (YH 1004 Zp) (xL 28 ZP ?_)<;>refine Zc ?_)
 refine cX ?_ ?_<;>intro hb28
 · first | exact bN hb28|(
 obtain ⟨s,hs⟩:=Zq (show i<(Wy a l i).length by omega);have hsr:=hok3.2 s (Xb hs);have e1:=Z7 (f:=pInt) hs;(have e2:((List.range a.n.toNat).map fun s=>pMvs (movesOf a s))[s.toNat*1]? =some (pMvs (movesOf a s.toNat)):=by rw [Xp,G5 oM]);have e2':s.toNat<a.n.toNat:=oM;refine nav ?_;(refine ZY (fun i=>([]:List Nat).elem i) [1001,1002,1003,1004] kR ?_<;>refine xD 0 31 rfl Zb ?_<;>refine xD 1 32 rfl RI ?_<;>refine xD 2 33 rfl (JY K2) ?_<;>(refine yD 3 34 rfl (Ya J5) fun v34 h=>?_;cases h)<;>(refine yD 4 35 rfl (Zj 1002 Zz) fun v35 h=>?_;cases h)<;>refine xD 5 36 rfl Zb ?_<;>refine xD 6 37 rfl (Yi 1004 Zp) ?_<;>(refine yD 7 38 rfl (Zj 1004 Zg) fun v38 h=>?_;cases h)<;>refine xD 8 39 rfl (LQ J6) ?_<;>(refine yD 9 40 rfl (Ya ZA) fun v40 h=>?_;cases h)<;>refine xD 10 41 rfl (ZR ZF) ?_<;>refine xE 11 42 rfl Zb ?_<;>refine Yr kR (nav ?_)<;>try dsimp only)
 refine YO 40 rfl fun hlen40=>?_;refine ZB (ι:={q:Nat×Value//q.1≤(movesOf a s.toNat).length∧q.2.oneCell'=true}) (fun k=>⟨[(0,_,_),(5,_,_),(6,_,_),(7,_,_),(10,_,_),(40,_,_),(41,_,_),(42, .int .i64 k.1.1,pInt k.1.1)],[(1001,h5, .own 197 1 1 [.val h13]),(1002,h6, .own 36 1 1 [.val k.1.2]),(1003,h13, .omap (ikv (Tx (Y3 (WI ((movesOf a s.toNat).take k.1.1)) (Wy a l i))))),(1004,k.1.2, .own 3 1 (Y3 (WI ((movesOf a s.toNat).take k.1.1)) (Wy a l i)).length ((Y3 (WI ((movesOf a s.toNat).take k.1.1)) (Wy a l i)).map pInt))]⟩) (fun k=>(movesOf a s.toNat).length-k.1.1) ⟨(0,r3),Xd _,hr3⟩ (fun a w H=>H.weaken ⟨rfl,rfl,rfl,rfl,rfl,rfl,rfl,rfl,trivial⟩ ⟨rfl,rfl,rfl,rfl,trivial⟩) ?_;rintro ⟨⟨k,r4⟩,hk4,hr4⟩;dsimp only;dsimp only at hk4 hr4;have hok4:OutOk a.n (Y3 (WI ((movesOf a s.toNat).take k)) (Wy a l i)):=OutOk.all _ hok3 (ZiV hm _ _);(have hol4:(Y3 (WI ((movesOf a s.toNat).take k)) (Wy a l i)).length≤1000000:=by have:=hok4.len;omega);refine Ze ?_;(refine xL 43 ZP ?_<;>refine Zc ?_)
 refine cX ?_ ?_<;>intro hb43
 · first | exact bN hb43|(
 obtain ⟨mv,hmv⟩:=Zq (show k<(movesOf a s.toNat).length by omega);have e3:=Yh Z0 (movesOf a s.toNat) k mv hmv;have e4:=YA Z0 hmv;refine Ze ?_;(refine xL 44 (ZI ZF) ?_<;>(refine yL 45 (Y' ZW) fun v45 h=>?_;cases h)<;>refine Zx [(.int .i64 0),(.int .i64 0),(.int .i64 0)] 3 12 Ke fun h12=>?_<;>refine ZD 12 ZW ?_<;>refine Zi ?_)
 (refine xL 46 (Zd 12 Yk) ?_<;>(refine yL 47 (Zj 12 Zg) fun v47 h=>?_;cases h)<;>refine xL 48 Yd ?_<;>refine Zc ?_)
 refine cX ?_ ?_<;>intro hb48
 · first |exact bN hb48|(
 refine Ze ?_;(refine xL 49 Zb (xL 50 (Zd 12 Yg) ?_)<;>(refine yL 51 (Zj 12 Zg) fun v51 h=>?_;cases h)<;>(refine WN (clH h5 h6 h13 r4 (Y3 (WI ((movesOf a s.toNat).take k)) (Wy a l i))) ⟨rfl,rfl,rfl,rfl,trivial⟩ ?_;refine Zin [] 52 (call155) (Dm mv.dst h5 h6 h13 r4 (Y3 (WI ((movesOf a s.toNat).take k)) (Wy a l i)) hol4 ho13 hr4) ?_;rintro v52 _ _ ⟨rfl,r5,hr5,rfl⟩;rw [Zlt hmv hb48])<;>refine Zi ?_)
 (refine xL 53 ZH (xL 42 Zb ?_)<;>refine Zc ?_)
 try rw [←C3 hmv (by assumption)]
 first
  | (exact Zm (
      ⟨(k+1,r5),Zf hmv,hr5⟩
      ) (by dsimp only;omega) ⟨rfl,rfl,rfl,rfl,rfl,rfl,rfl,rfl,trivial⟩ ⟨rfl,rfl,rfl,rfl,trivial⟩)
  | (exact Zm (
      ⟨(k+1,r4),Zf hmv,hr4⟩
      ) (by dsimp only;omega) ⟨rfl,rfl,rfl,rfl,rfl,rfl,rfl,rfl,trivial⟩ ⟨rfl,rfl,rfl,rfl,trivial⟩))
 · first |exact bN hb48|(
 refine Ze ?_;(refine xL 53 ZH (xL 42 Zb ?_)<;>refine Zc ?_)
 try rw [←C3 hmv (by assumption)]
 first
  | (exact Zm (
      ⟨(k+1,r5),Zf hmv,hr5⟩
      ) (by dsimp only;omega) ⟨rfl,rfl,rfl,rfl,rfl,rfl,rfl,rfl,trivial⟩ ⟨rfl,rfl,rfl,rfl,trivial⟩)
  | (exact Zm (
      ⟨(k+1,r4),Zf hmv,hr4⟩
      ) (by dsimp only;omega) ⟨rfl,rfl,rfl,rfl,rfl,rfl,rfl,rfl,trivial⟩ ⟨rfl,rfl,rfl,rfl,trivial⟩)))
 · first|exact bN hb43|(
 rw [show Y3 (WI ((movesOf a s.toNat).take k)) (Wy a l i)=Wy a l (i+1) by rw [Wy,RP,hs,Xk oM]];refine Ze ?_;(refine xL 29 Zb (xL 30 ZH (xL 10 Za ?_))<;>refine Zc ?_)
 refine Zm (
  ⟨(i+1,r4),by dsimp only;omega,hr4⟩
  ) (by dsimp only;omega) ⟨rfl,rfl,rfl,rfl,rfl,trivial⟩ ⟨rfl,rfl,rfl,rfl,trivial⟩))
 · first|exact bN hb28|(
 have hE:Wy a l a.n.toNat=Wy a l i:=ZbV oM hi;refine Ze ?_;((refine yL 54 (Zj 1002 Zz) fun v54 h=>?_;cases h)<;>(rcases X4 (Wy a l i).length with h0|h0<;>first|(refine Zla (zs:=Wy a l i) 1004 Zen (call156) ?_ h0)|(rw [XR h0];refine HP 1004 ZbW (call156) ?_))<;>refine Zc ?_)<;>(
 (refine Zv ?_<;>(refine yL 56 (Zj 1002 Zz) fun v56 h=>?_;cases h)<;>refine xL 4 Za ?_<;>refine Zc ?_)
 refine W9 1004 (results111) rfl rfl ?_;unfold YR;rw [hE,UB]
 all_goals first
  |rfl
  |(rw [XR h0,List.mergeSort_nil]))))
def Jx (c:Int) (ms:List Mv):List Int:=(ms.filter fun m=>decide (m.sym=c)).map (·.dst)
theorem ZgR {c:Int} {ms:List Mv} {k:Nat} {m:Mv} (h:ms[k]? =some m) (hs:m.sym=c):Jx c (ms.take (k+1))=Jx c (ms.take k)++[m.dst]:=by
 unfold Jx;rw [ZT h,XV,Xu];simp [hs]
theorem ZbX {c:Int} {ms:List Mv} {k:Nat} {m:Mv} (h:ms[k]? =some m) (hs:¬m.sym=c):Jx c (ms.take (k+1))=Jx c (ms.take k):=by
 unfold Jx;rw [ZT h,XV,Xu];simp [hs]
def KQ (a:Aut) (c:Int) (l:List Int):List Int:=l.flatMap fun s=>Jx c (movesOf a s.toNat)
theorem Zeo (a:Aut) (c:Int) {l:List Int} {k:Nat} {s:Int} (h:l[k]? =some s):KQ a c (l.take (k+1))=KQ a c (l.take k)++Jx c (movesOf a s.toNat):=by
 unfold KQ;rw [ZT h,XN];simp
theorem C6 (c:Int) (ms:List Mv):(Jx c ms).length≤ms.length:=by unfold Jx;rw [Xe];exact Vp _ _
theorem Dn (a:Aut) (s:Nat):(movesOf a s).length≤a.moves.length:=Vp _ _
theorem C7 (a:Aut) (c:Int):∀l:List Int,(KQ a c l).length≤l.length*a.moves.length
 |[]=>by simp [KQ]
 | x::l=>by
   have h1:=C7 a c l;have h2:=C6 c (movesOf a x.toNat);have h3:=Dn a x.toNat;have h4:KQ a c (x::l)=Jx c (movesOf a x.toNat)++KQ a c l:=rfl;rw [h4,Xc,Xi,X5];omega
theorem Kw {a:Aut} (h:LG a) (c:Int) (l:List Int):∀t∈KQ a c l,0≤t∧t<a.n:=fun t ht=>by
 unfold KQ Jx movesOf at ht
 simp only [XP,Xj,Vo] at ht
 obtain ⟨s,_,m,⟨⟨h1,_⟩,_⟩,rfl⟩:=ht
 exact h m h1
theorem PS (e:Nat) (L:List Int) (x:Int):PV.own e 1 (L.length+1) (L.map pInt++[pInt x])= .own e 1 (L++[x]).length ((L++[x]).map pInt):=sM
def YJ (a:Aut) (c:Int) (l:List Int):List Int:=YR a (KQ a c l)
set_option maxHeartbeats 2000000 in
theorem Zav (a :Aut) (l:List Int) (c:Int) (hn:a.n≤2000) (hmv:a.moves.length≤20000) (hm:LG a) (hl:∀s∈l,0≤s∧s<a.n) (hll:l.length≤2000):AF prog 112 [pGr a,pInts l,pInt c] (· = .own 3 1 (YJ a c l).length ((YJ a c l).map pInt)):=by
 refine AF.of_body 44 func112 rfl ntmps112 (Xa rfl) ?_
 intro w0 M0 vs hl hv
 obtain ⟨v0,v1,v2,rfl⟩:=LO hl
 obtain rfl:=hv 2 _ _ rfl rfl
 clear hl hv
 refine Ze ?_
 (refine xL 6 Za ?_<;>refine Zi ?_)
 (refine xL 7 Za ?_<;>refine Zc ?_)
 refine Zs (Jl 200 3 1 rfl) fun _=>?_
 (refine Zv ?_<;>refine xL 12 Zb (xL 13 (ZR Zp) (xL 14 Zb ?_))<;>refine Zc ?_)
 refine ZB (ι:={q:Nat×Value//q.1≤l.length∧q.2.oneCell'=true}) (fun k=>⟨[(0,_,_),(2,_,_),(12,_,_),(13,_,_),(7,k.1.2, .val k.1.2),(14, .int .i64 k.1.1,pInt k.1.1)],[(200,k.1.2, .own 3 1 (KQ a c (l.take k.1.1)).length ((KQ a c (l.take k.1.1)).map pInt))]⟩) (fun k=>l.length-k.1.1) ⟨(0, .slice none 0 0),Xd _,rfl⟩ (fun a w H=>H.weaken ⟨rfl,rfl,rfl,rfl,rfl,rfl,trivial⟩ ⟨rfl,trivial⟩) ?_
 rintro ⟨⟨k,r⟩,hk,hr⟩
 dsimp only
 dsimp only at hk hr
 have hlk:=C7 a c (l.take k)
 refine Ze ?_
 (refine xL 15 ZP ?_<;>refine Zc ?_)
 refine cX ?_ ?_<;>intro hb15
 · first | exact bN hb15|(
 obtain ⟨s,hs⟩:=Zq (show k<l.length by omega);have hsr:=hl s (Xb hs);have e1:=Z7 (f:=pInt) hs;(have e2:((List.range a.n.toNat).map fun s=>pMvs (movesOf a s))[s.toNat*1]? =some (pMvs (movesOf a s.toNat)):=by rw [Xp,G5 oM]);have e2':s.toNat<a.n.toNat:=oM;have hml:=Dn a s.toNat;have hlk2:(KQ a c (l.take k)).length≤40000000:=by
  refine XL hlk ?_;(have h5:(l.take k).length≤2000:=by rw [Xo];omega);exact XL (VD h5 hmv) dC
 obtain ⟨A,hA⟩:∃A,A=KQ a c (l.take k):=⟨_,rfl⟩;rw [←hA] at hlk2 ⊢;refine Ze ?_;(refine xL 16 (ZI Zp) ?_<;>(refine yL 17 (Ya Zg) fun v17 h=>?_;cases h)<;>refine xL 9 Za ?_<;>refine Zi ?_)
 (refine xL 18 Zb (xL 19 RI (xL 20 (JY K2) ?_))<;>(refine yL 21 (Ya J5) fun v21 h=>?_;cases h)<;>refine xL 22 Zb (xL 23 (LQ J6) ?_)<;>(refine yL 24 (Ya ZA) fun v24 h=>?_;cases h)<;>refine xL 25 (ZR ZF) (xL 26 Zb ?_)<;>refine Zc ?_)
 rw [show A=A++Jx c ((movesOf a s.toNat).take 0) from (Xq A).symm];refine ZB (ι:={q:Nat×Value//q.1≤(movesOf a s.toNat).length∧q.2.oneCell'=true}) (fun k=>⟨[(0,_,_),(2,_,_),(12,_,_),(13,_,_),(14,_,_),(24,_,_),(25,_,_),(7,k.1.2, .val k.1.2),(26, .int .i64 k.1.1,pInt k.1.1)],[(200,k.1.2, .own 3 1 (A++Jx c ((movesOf a s.toNat).take k.1.1)).length ((A++Jx c ((movesOf a s.toNat).take k.1.1)).map pInt))]⟩) (fun k=>(movesOf a s.toNat).length-k.1.1) ⟨(0,r),Xd _,hr⟩ (fun a w H=>H.weaken ⟨rfl,rfl,rfl,rfl,rfl,rfl,rfl,rfl,rfl,trivial⟩ ⟨rfl,trivial⟩) ?_;rintro ⟨⟨j,r4⟩,hj4,hr4⟩;dsimp only;dsimp only at hj4 hr4;have hbl:=C6 c ((movesOf a s.toNat).take j);rw [Xo] at hbl;(have hol:(A++Jx c ((movesOf a s.toNat).take j)).length≤41000000:=by rw [Xc];omega);refine Ze ?_;(refine xL 27 ZP ?_<;>refine Zc ?_)
 refine cX ?_ ?_<;>intro hb27
 · first | exact bN hb27|(
 obtain ⟨mv,hmv2⟩:=Zq (show j<(movesOf a s.toNat).length by omega);have e3:=Yh Z0 (movesOf a s.toNat) j mv hmv2;have e4:=YA Z0 hmv2;refine Ze ?_;(refine xL 28 (ZI ZF) ?_<;>(refine yL 29 (Y' ZW) fun v29 h=>?_;cases h)<;>refine Zx [(.int .i64 0),(.int .i64 0),(.int .i64 0)] 3 11 Ke fun h11=>?_<;>refine ZD 11 ZW ?_<;>refine Zi ?_)
 (refine xL 30 (Zd 11 Yk) ?_<;>(refine yL 31 (Zj 11 Zg) fun v31 h=>?_;cases h)<;>refine xL 32 Zb (xL 33 Yd ?_)<;>refine Zc ?_)
 refine cX ?_ ?_<;>intro hb33
 · first |exact bN hb33|(
 refine Ze ?_;(refine xL 34 Zb (xL 35 (Zd 11 Yg) ?_)<;>(refine yL 36 (Zj 11 Zg) fun v36 h=>?_;cases h)<;>refine ZO (kk:=1) 37 Zn fun h37 ho37=>?_<;>(refine WN [(200,_,_),(37,_,_)] ⟨rfl,rfl,trivial⟩ ?_;refine Z1 200 37 38 Zn fun h38 ho38=>?_;refine Zt (ZE (l:=38) 200 rfl rfl) fun _=>?_;refine WN [(200,h38,PV.own 3 1 (A++Jx c ((movesOf a s.toNat).take (j+1))).length ((A++Jx c ((movesOf a s.toNat).take (j+1))).map pInt))] ⟨(by rw [ZgR hmv2 hb33,←Xy,←PS];rfl),trivial⟩ ?_)<;>refine xL 7 Za ?_<;>refine Zi ?_)
 (refine xL 39 ZH (xL 26 Zb ?_)<;>refine Zc ?_)
 try rw [←ZbX hmv2 (by assumption)]
 first
  | (exact Zm (
      ⟨(j+1,h38),Zf hmv2,ho38⟩
      ) (by dsimp only;omega) ⟨rfl,rfl,rfl,rfl,rfl,rfl,rfl,rfl,rfl,trivial⟩ ⟨rfl,trivial⟩)
  | (exact Zm (
      ⟨(j+1,r4),Zf hmv2,hr4⟩
      ) (by dsimp only;omega) ⟨rfl,rfl,rfl,rfl,rfl,rfl,rfl,rfl,rfl,trivial⟩ ⟨rfl,trivial⟩))
 · first |exact bN hb33|(
 refine Ze ?_;(refine xL 39 ZH (xL 26 Zb ?_)<;>refine Zc ?_)
 try rw [←ZbX hmv2 (by assumption)]
 first
  | (exact Zm (
      ⟨(j+1,h38),Zf hmv2,ho38⟩
      ) (by dsimp only;omega) ⟨rfl,rfl,rfl,rfl,rfl,rfl,rfl,rfl,rfl,trivial⟩ ⟨rfl,trivial⟩)
  | (exact Zm (
      ⟨(j+1,r4),Zf hmv2,hr4⟩
      ) (by dsimp only;omega) ⟨rfl,rfl,rfl,rfl,rfl,rfl,rfl,rfl,rfl,trivial⟩ ⟨rfl,trivial⟩)))
 · first|exact bN hb27|(
 rw [show A++Jx c ((movesOf a s.toNat).take j)=KQ a c (l.take (k+1)) by rw [Xk oM,Zeo a c hs,hA]];refine Ze ?_;(refine xL 40 ZH (xL 14 Zb ?_)<;>refine Zc ?_)
 refine Zm (
  ⟨(k+1,r4),Zf hs,hr4⟩
  ) (by dsimp only;omega) ⟨rfl,rfl,rfl,rfl,rfl,rfl,trivial⟩ ⟨rfl,trivial⟩))
 · first|exact bN hb15|(
 refine Ze ?_;(refine xL 41 Zb (xL 42 Zb ?_)<;>(refine Zt (En.freeze (l:=200) (t:=42) rfl rfl) fun _=>?_;rw [ZV _ _ _ rfl];refine cO 43 (cA call111 (RQ a (KQ a c (l.take k)) hn hm (Kw hm c _))) fun v43 ho43=>?_)<;>refine xL 6 Za ?_<;>refine Zc ?_)
 refine W9 43 (results112) rfl rfl ?_;rw [Xk oM];rfl)
def Srt (l:List Int):Prop:=l.Pairwise (· < ·)
theorem S5:∀{l m:List Int},Srt l→Srt m→(∀x,x∈l↔x∈m)→l=m
 |[],[],_,_,_=>rfl
 |[],y::m,_,_,h=>UT ((h y).2 (Xm ..)) sM
 |x::l,[],_,_,h=>UT ((h x).1 (Xm ..)) sM
 | x ::l,y::m,hl,hm,h=>by
   have hl':=XQ.1 hl;have hm':=XQ.1 hm;have hxy:x=y:=by
    have h1:=(h x).1 (Xm ..);have h2:=(h y).2 (Xm ..);rcases Xs.1 h1 with e|h1
    · exact e
    · rcases Xs.1 h2 with e|h2
      · exact e.symm
      · have:=hm'.1 x h1;have:=hl'.1 y h2;omega
   subst hxy;congr 1;refine S5 hl'.2 hm'.2 fun z=>⟨fun hz=>?_,fun hz=>?_⟩
   · rcases Xs.1 ((h z).1 (Xn _ hz)) with e|h1
     · have:=hl'.1 z hz;omega
     · exact h1
   · rcases Xs.1 ((h z).2 (Xn _ hz)) with e|h1
     · have:=hm'.1 z hz;omega
     · exact h1
theorem Srt.filter {l:List Int} (h:Srt l) (p:Int→Bool):Srt (l.filter p):=List.Pairwise.filter p h
inductive Rch (a:Aut) (l:List Int):Int→Prop
 |base {s:Int} (h:s∈l):Rch a l s
 |step {s:Int} {m:Mv} (h:Rch a l s) (hm:m∈a.moves) (hs:m.src=s) (hc:m.sym= -1):Rch a l m.dst
theorem ZgS {out:List Int} {s t:Int}:t∈GH out s↔t∈out∨t=s:=by
 unfold GH;split
 · rename_i h;constructor
   · exact .inl
   · rintro (h1|rfl)
     · exact h1
     · simpa using h
 · simp
theorem G6:∀(l:List Int) {out:List Int} {t:Int},t∈Y3 l out↔t∈out∨t∈l
 |[],out,t=>by simp [Y3]
 | x::l,out,t=>by
   show t∈Y3 l (GH out x)↔_;rw [G6 l,ZgS,Xs];exact or_assoc
theorem ZgT (out:List Int) (s:Int):out<+:GH out s:=by
 unfold GH;split
 · exact Vv _
 · exact Us _ _
theorem H3:∀(l out:List Int),out<+:Y3 l out
 |[],out=>Vv _
 |x::l,out=>(ZgT out x).trans (H3 l (GH out x))
theorem ZgU (a:Aut) (l:List Int) (i:Nat):Wy a l i<+:Wy a l (i+1):=by
 rw [Wy,RP];split
 · exact H3 _ _
 · exact Vv _
theorem PT (a:Aut) (l:List Int) (i:Nat):∀j,Wy a l i<+:Wy a l (i+j)
 |0=>Vv _
 |j+1=>(PT a l i j).trans (ZgU a l (i+j))
theorem Zlu {l m:List Int} (h:l<+:m) {i:Nat} {x:Int} (hx:l[i]? =some x):m[i]? =some x:=by
 obtain ⟨r,rfl⟩:=h
 rw [Vf (Zf hx)];exact hx
theorem H4 {a:Aut} {s:Int} (h0:0≤s) {t:Int}:t∈WI (movesOf a s.toNat)↔∃m∈a.moves,m.src=s∧m.sym= -1∧m.dst=t:=by
 unfold WI movesOf
 simp only [Xj,Vo,UO]
 constructor
 · rintro ⟨m,⟨⟨h1,h2⟩,h3⟩,h4⟩;exact ⟨m,h1,oM,h3,h4⟩
 · rintro ⟨m,h1,h2,h3,h4⟩;exact ⟨m,⟨⟨h1,oM⟩,h3⟩,h4⟩
theorem Tz {a:Aut} {l:List Int} (h:LG a) (hl:∀s∈l,0≤s∧s<a.n):∀i t,t∈Wy a l i→Rch a l t
 | 0,t,ht=>by
   rw [Wy,G6] at ht;exact .base (by simpa using ht)
 | i + 1,t,ht=>by
   rw [Wy,RP] at ht;split at ht
   · rename_i s hs;rcases (G6 _).1 ht with h1|h1
     · exact Tz h hl i t h1
     · have hsm:=Xb hs;obtain ⟨m,h2,h3,h4,rfl⟩:=(H4 ((Ty h hl i).2 s hsm).1).1 h1;exact .step (Tz h hl i s hsm) h2 h3 h4
   · exact Tz h hl i t ht
theorem ZgV {a:Aut} {l:List Int} (h:LG a) (hl:∀s∈l,0≤s∧s<a.n) {t:Int} (ht:Rch a l t):t∈Wy a l a.n.toNat:=by
 induction ht with
 | base h1=>
   have h2:Wy a l 0<+:Wy a l (0+a.n.toNat):=PT a l 0 a.n.toNat;rw [Xv] at h2;refine h2.subset ?_;rw [Wy,G6];exact .inr h1
 | @step s m h1 hm hs hc ih=>
   obtain ⟨i,hi⟩:=XY ih;have hil:=Zf hi;have hok:=Ty h hl a.n.toNat;have hlen:=hok.len;have h3:i<(Wy a l i).length:=by
    rcases XD i (Wy a l i).length with h4|h4
    · exact h4
    · have h5:=ZbV h4 (show i≤a.n.toNat by omega);rw [h5] at hil;omega
   have h4:(Wy a l i)[i]? =some s:=by
    have h5:=PT a l i (a.n.toNat-i);rw [show i+(a.n.toNat-i)=a.n.toNat by omega] at h5;obtain ⟨x,hx⟩:=Zq h3;rw [hx,←hi];exact (Zlu h5 hx).symm
   have h5:m.dst∈Wy a l (i+1):=by
    rw [Wy,RP,h4];refine (G6 _).2 (.inr ((H4 (hok.2 s ih).1).2 ⟨m,hm,hs,hc,rfl⟩))
   have h6:=PT a l (i+1) (a.n.toNat-(i+1));rw [show i+1+(a.n.toNat-(i+1))=a.n.toNat by omega] at h6;exact h6.subset h5
theorem K3 {a:Aut} {l:List Int} (h:LG a) (hl:∀s∈l,0≤s∧s<a.n) (t:Int):t∈YR a l↔Rch a l t:=by
 unfold YR
 rw [List.mem_mergeSort]
 exact ⟨Tz h hl _ t,ZgV h hl⟩
theorem Kz {a:Aut} {l:List Int} (h:LG a) (hl:∀s∈l,0≤s∧s<a.n):Srt (YR a l):=by
 have h1:(YR a l).Pairwise (fun x y=>decide (x≤y)=true):=Uq (fun a b c h1 h2=>by simp only [UO] at*;omega) (fun a b=>by simp only [Vc,UO];omega) _
 have h2:(YR a l).Nodup:=(Ur _ _).nodup_iff.2 (Ty h hl _).1
 unfold Srt
 exact (h1.and h2).imp fun {x y} ⟨h3,h4⟩=>by simp only [UO] at h3;omega
theorem Zep {a:Aut} {l:List Int} (h:LG a) (hl:∀s∈l,0≤s∧s<a.n) {t:Int} (ht:Rch a l t):0≤t∧t<a.n:=by
 cases ht with
 |base h1=>exact hl t h1
 |step _ hm _ _=>exact h _ hm
theorem So {a:Aut} {l:List Int} (h:LG a) (hl:∀s∈l,0≤s∧s<a.n):∀t∈YR a l,0≤t∧t<a.n:=fun t ht=>Zep h hl ((K3 h hl t).1 ht)
theorem OA {a:Aut} {l:List Int} (h:LG a) (hl:∀s∈l,0≤s∧s<a.n):(YR a l).length≤a.n.toNat:=by
 unfold YR
 rw [UB];exact (Ty h hl _).len
theorem Jy {a:Aut} {c:Int} {l:List Int} (hl:∀s∈l,0≤s∧s<a.n) {t:Int}:t∈KQ a c l↔∃m∈a.moves,m.src∈l∧m.sym=c∧m.dst=t:=by
 unfold KQ Jx movesOf
 simp only [XP,Xj,Vo,UO]
 constructor
 · rintro ⟨s,hs,m,⟨⟨h1,h2⟩,h3⟩,h4⟩;have:=hl s hs;exact ⟨m,h1,by rw [h2,show ((s.toNat:Nat):Int)=s by omega];exact hs,h3,h4⟩
 · rintro ⟨m,h1,h2,h3,h4⟩;have:=hl _ h2;exact ⟨m.src,h2,m,⟨⟨h1,oM⟩,h3⟩,h4⟩
def Ja (m:Mv) (d:Int):Int:=if 0≤m.sym then d+1 else d
def Gt (far:List Int) (m:Mv):List Int:=
 match far[m.dst.toNat]?,far[m.src.toNat]? with
 |some d,some e=>if 0≤d∧(e<0∨Ja m d<e) then far.set m.src.toNat (Ja m d) else far
 |_,_=>far
def passF (ms:List Mv) (far:List Int):List Int:=ms.foldl Gt far
def Lv (a:Aut):List Int:=(List.range a.n.toNat).map fun s=>if GC a (s:Nat) then 0 else-1
def WB (a:Aut):Nat→List Int
 |0=>Lv a
 |k+1=>passF a.moves (WB a k)
def Wp (a:Aut):List Int:=WB a (a.n.toNat*a.n.toNat+1)
def cntD (far:List Int):Nat:=far.countP fun d=>decide (0≤d)
def wgt (n:Nat) (d:Int):Nat:=if 0≤d then d.toNat else n
def sumF (n:Nat) (far:List Int):Nat:=(far.map (wgt n)).sum
structure FarOk (n:Nat) (far:List Int):Prop where
 len:far.length=n
 lo:∀d∈far,-1≤d
 hi:∀d∈far,d<cntD far
theorem Zaw (far:List Int):cntD far≤far.length:=List.countP_le_length
theorem ZbY:∀(far:List Int) (i:Nat) (e d:Int),far[i]? =some e→0≤d→cntD (far.set i d)=cntD far+(if 0≤e then 0 else 1)
 |[],i,e,d,h,_=>by simp at h
 | x::far,0,e,d,h,hd=>by
   simp only [Vu,Option.some.injEq] at h;subst h;unfold cntD;rw [List.set_cons_zero,UF,UF,UP hd];by_cases hx:0≤x<;>simp [hx]
 | x::far,i+1,e,d,h,hd=>by
   simp only [V6] at h;have:=ZbY far i e d h hd;unfold cntD at this ⊢;rw [List.set_cons_succ,UF,UF,this];omega
theorem ZbZ:∀(n:Nat) (far:List Int) (i:Nat) (e d:Int),far[i]? =some e→sumF n (far.set i d)+wgt n e=sumF n far+wgt n d
 |n,[],i,e,d,h=>by simp at h
 | n,x::far,0,e,d,h=>by
   simp only [Vu,Option.some.injEq] at h;subst h;unfold sumF;rw [List.set_cons_zero,Xw,Xw,Ut,Ut];omega
 | n,x::far,i+1,e,d,h=>by
   simp only [V6] at h;have:=ZbZ n far i e d h;unfold sumF at this ⊢;rw [List.set_cons_succ,Xw,Xw,Ut,Ut];omega
theorem ZiW (m:Mv) (d:Int):d≤Ja m d∧Ja m d≤d+1:=by unfold Ja;split<;>omega
theorem OB {n:Nat} {far:List Int} (h:FarOk n far) {m:Mv} {d e:Int} (hd:far[m.dst.toNat]? =some d) (he:far[m.src.toNat]? =some e) (h0:0≤d) (h1:e<0∨Ja m d<e):
 FarOk n (far.set m.src.toNat (Ja m d))∧sumF n (far.set m.src.toNat (Ja m d))<sumF n far:=by
 have hs:=ZiW m d
 have hdc:=h.hi d (Xb hd)
 have hec:=h.hi e (Xb he)
 have hc:=ZbY far m.src.toNat e (Ja m d) he oM
 have hsum:=ZbZ n far m.src.toNat e (Ja m d) he
 have hcl:=Zaw (far.set m.src.toNat (Ja m d))
 rw [Xr,h.len] at hcl
 refine ⟨⟨by rw [Xr];exact h.len,fun x hx=>?_,fun x hx=>?_⟩,?_⟩
 · rcases List.mem_or_eq_of_mem_set hx with h2|rfl
   · exact h.lo x h2
   · omega
 · rw [hc];rcases List.mem_or_eq_of_mem_set hx with h2|rfl
   · have:=h.hi x h2;split<;>omega
   · split<;>omega
 · unfold wgt at hsum;rw [US (show 0≤Ja m d by omega)] at hsum;rcases h1 with h1|h1
   · rw [UR oM] at hsum hc;omega
   · rw [US oM] at hsum;omega
theorem Do {n:Nat} {far:List Int} (h:FarOk n far) (m:Mv):FarOk n (Gt far m)∧(Gt far m=far∨sumF n (Gt far m)<sumF n far):=by
 unfold Gt
 split
 · rename_i d e hd he;split
   · rename_i h1;have:=OB h hd he h1.1 h1.2;exact ⟨this.1, .inr this.2⟩
   · exact ⟨h, .inl rfl⟩
 · exact ⟨h, .inl rfl⟩
theorem Lw {n:Nat}:∀(ms:List Mv) {far:List Int},FarOk n far→FarOk n (passF ms far)∧(passF ms far=far∨sumF n (passF ms far)<sumF n far)
 |[],far,h=>⟨h, .inl rfl⟩
 | m ::ms,far,h=>by
   obtain ⟨h1,h2⟩:=Do h m;obtain ⟨h3,h4⟩:=Lw ms h1;refine ⟨h3,?_⟩;show passF ms (Gt far m)=far∨_;rcases h2 with h2|h2
   · rw [h2] at h4;show passF ms (Gt far m)=far∨sumF n (passF ms (Gt far m))<sumF n far;rw [h2];exact h4
   · right
     show sumF n (passF ms (Gt far m))<sumF n far;rcases h4 with h4|h4
     · rw [h4];exact h2
     · omega
theorem Dp {n:Nat}:∀(ms:List Mv) {far:List Int},FarOk n far→passF ms far=far→∀m∈ms,Gt far m=far
 |[],far,h,_,m,hm=>by simp at hm
 | x ::ms,far,h,he,m,hm=>by
   obtain ⟨h1,h2⟩:=Do h x;obtain ⟨h3,h4⟩:=Lw ms h1;have he':passF ms (Gt far x)=far:=he;have hx:Gt far x=far:=by
    rcases h2 with h2|h2
    · exact h2
    · rcases h4 with h4|h4
      · rw [he'] at h4;exact h4.symm
      · rw [he'] at h4;omega
   rcases Xs.1 hm with rfl|hm
   · exact hx
   · rw [hx] at he';exact Dp ms h he' m hm
theorem Zeq {a:Aut} {s:Nat} (h:s<a.n.toNat):(Lv a)[s]? =some (if GC a (s:Nat) then 0 else-1):=by
 unfold Lv;rw [Xh,Uf h];rfl
theorem Zer (a:Aut):FarOk a.n.toNat (Lv a):=by
 refine ⟨by unfold Lv;simp,fun d hd=>?_,fun d hd=>?_⟩
 · unfold Lv at hd;obtain ⟨s,_,rfl⟩:=Xj.1 hd;split<;>omega
 · have hd2:=hd;unfold Lv at hd2;obtain ⟨s,_,hs⟩:=Xj.1 hd2;by_cases h0:0≤d
   · have h1:0<cntD (Lv a):=List.countP_pos_iff.2 ⟨d,hd,UP h0⟩;split at hs<;>omega
   · omega
theorem L0 (a:Aut):∀k,FarOk a.n.toNat (WB a k)
 |0=>Zer a
 |k+1=>(Lw a.moves (L0 a k)).1
theorem Zlv {n:Nat} {far:List Int} (h:FarOk n far):sumF n far≤n*n:=by
 have hc:=Zaw far
 rw [h.len] at hc
 have key:∀(l:List Int),(∀d∈l,d<(n:Int))→(l.map (wgt n)).sum≤l.length*n:=fun l=>by
  induction l with
  |nil=>intro _;simp
  | cons x l ih=>
    intro hx;have h1:=ih fun d hd=>hx d (Xn _ hd);have h2:=hx x (Xm ..);rw [Xw,Ut,Xi,X5];(have h3:wgt n x≤n:=by unfold wgt;split<;>omega);omega
 have:=key far fun d hd=>by have:=h.hi d hd;omega
 rw [h.len] at this;exact this
theorem TA {a:Aut} {k:Nat} (h:passF a.moves (WB a k)=WB a k):∀j,WB a (k+j)=WB a k
 |0=>rfl
 |j+1=>by rw [←XX,WB,TA h j,h]
theorem C8 (a:Aut):passF a.moves (Wp a)=Wp a:=by
 have key:∀k,(∃j,j≤k∧passF a.moves (WB a j)=WB a j)∨sumF a.n.toNat (WB a k)+k≤a.n.toNat*a.n.toNat:=fun k=>by
  induction k with
  |zero=>exact .inr (Zlv (L0 a 0))
  | succ k ih=>
    rcases ih with ⟨j,h1,h2⟩|h
    · exact .inl ⟨j,oM,h2⟩
    · rcases (Lw a.moves (L0 a k)).2 with h1|h1
      · exact .inl ⟨k,oM,h1⟩
      · right;rw [WB];omega
 rcases key (a.n.toNat*a.n.toNat+1) with ⟨j,h1,h2⟩|h
 · have h3:=TA h2 (a.n.toNat*a.n.toNat+1-j);rw [show j+(a.n.toNat*a.n.toNat+1-j)=a.n.toNat*a.n.toNat+1 by omega] at h3;unfold Wp;rw [h3,h2]
 · omega
theorem Zlw {a:Aut} {k:Nat} (h:passF a.moves (WB a k)=WB a k):Wp a=WB a k:=by
 have h1:=C8 a
 unfold Wp at h1 ⊢
 rcases Nat.le_total k (a.n.toNat*a.n.toNat+1) with h2|h2
 · have h3:=TA h (a.n.toNat*a.n.toNat+1-k);rwa [show k+(a.n.toNat*a.n.toNat+1-k)=a.n.toNat*a.n.toNat+1 by omega] at h3
 · have h3:=TA h1 (k-(a.n.toNat*a.n.toNat+1));rw [show a.n.toNat*a.n.toNat+1+(k-(a.n.toNat*a.n.toNat+1))=k by omega] at h3;exact h3.symm
theorem Hj (a:Aut):FarOk a.n.toNat (Wp a):=L0 a _
theorem Zb0 {a:Aut} {m:Mv} (hm:m∈a.moves) {d e:Int} (hd:(Wp a)[m.dst.toNat]? =some d) (he:(Wp a)[m.src.toNat]? =some e) (h0:0≤d):0≤e∧e≤Ja m d:=by
 have h1:=Dp a.moves (Hj a) (C8 a) m hm
 unfold Gt at h1
 rw [hd,he] at h1
 dsimp only at h1
 split at h1
 · rename_i h2;have h3:=OB (Hj a) hd he h2.1 h2.2;rw [h1] at h3;omega
 · rename_i h2;omega
abbrev Pf:=List Int×List Int
def WG (a:Aut) (S:List Int):Bool:=S.any (GC a)
def InS (a:Aut) (S:List Int):Prop:=∀s∈S,0≤s∧s<a.n
def LH (a:Aut) (n:Int) (p:Pf) (c:Nat):List Pf:=if (WA (YJ a c p.2) (Wp a) (n-1)).length=0 then [] else [(p.1++[(c:Int)],WA (YJ a c p.2) (Wp a) (n-1))]
def RA (a:Aut) (n:Int) (p:Pf):List Pf:=(List.range a.syms.toNat).flatMap (LH a n p)
def lvP (a:Aut) (n:Nat):Nat→List Pf
 |0=>[([],WA (YR a a.start) (Wp a) n)]
 |k+1=>(lvP a n k).flatMap (RA a ((n:Int)-k))
def PU (a:Aut) (l:List Pf):List (List Int):=(l.filter fun p=>WG a p.2).map (·.1)
def L1 (a:Aut) (n k:Nat):List (List Int):=(List.range k).flatMap fun i=>PU a (lvP a n i)
def Zlx (a:Aut) (n:Nat):Prop:=(∃k,k≤n∧2000<(lvP a n (k+1)).length)∨2000<(L1 a n (n+1)).length
def JZ (far:List Int) (b s:Int):Int:=match far[s.toNat]? with
 |some d=>if 0≤d∧(b<0∨d<b) then d else b
 |none=>b
def RR (far S:List Int):Int:=S.foldl (JZ far) (-1)
def ZiX (a:Aut) (n:Int) (p:Pf) (c:Nat):List Pf:=if 0≤RR (Wp a) (YJ a c p.2)∧RR (Wp a) (YJ a c p.2)≤n-1 then [(p.1++[(c:Int)],YJ a c p.2)] else []
def ZmS (a:Aut) (n:Int) (p:Pf):List Pf:=(List.range a.syms.toNat).flatMap (ZiX a n p)
def lvR (a:Aut) (n:Nat):Nat→List Pf
 |0=>[([],YR a a.start)]
 |k+1=>(lvR a n k).flatMap (ZmS a ((n:Int)-k))
theorem H5 {a:Aut} {s:Int} (h:0≤s∧s<a.n):∃d,(Wp a)[s.toNat]? =some d:=Zq (by rw [(Hj a).len];omega)
theorem Sp {a:Aut} {S:List Int} (hS:InS a S) {n:Int} {s:Int}:s∈WA S (Wp a) n↔s∈S∧∃d,(Wp a)[s.toNat]? =some d∧0≤d∧d≤n:=by
 unfold WA ZiQ
 rw [Vo]
 constructor
 · rintro ⟨h1,h2⟩;obtain ⟨d,hd⟩:=H5 (hS s h1);rw [hd] at h2;simp only [Ub,Bool.or_eq_false_iff,decide_eq_false_iff_not] at h2;exact ⟨h1,d,hd,oM,oM⟩
 · rintro ⟨h1,d,hd,h2,h3⟩;rw [hd];simp only [Ub,Bool.or_eq_false_iff,decide_eq_false_iff_not];exact ⟨h1,oM,oM⟩
theorem Hk {a:Aut} {S:List Int} (hS:InS a S) (far:List Int) (n:Int):InS a (WA S far n):=fun s hs=>hS s ((Vo.1 hs).1)
theorem TB {a:Aut} (h:LG a) (c:Int) (S:List Int):InS a (YJ a c S):=So h (Kw h c S)
theorem Zb1 {a:Aut} (h:LG a) {c:Int} {S:List Int} {t:Int}:t∈YJ a c S↔Rch a (KQ a c S) t:=K3 h (Kw h c S) t
theorem H6 {a:Aut} {S:List Int} (h:Srt S) (far:List Int) (n:Int):Srt (WA S far n):=h.filter _
theorem ZgW {a:Aut} (h:LG a) {S:List Int} (hS:InS a S) {c:Int} (hc:0≤c) (n:Int):WA (YJ a c (WA S (Wp a) n)) (Wp a) (n-1)=WA (YJ a c S) (Wp a) (n-1):=by
 refine S5 (H6 (a:=a) (Kz h (Kw h c _)) _ _) (H6 (a:=a) (Kz h (Kw h c _)) _ _) fun t=>?_
 rw [Sp (TB h c _),Sp (TB h c _),Zb1 h,Zb1 h]
 constructor
 · rintro ⟨h1,h2⟩;refine ⟨?_,h2⟩;clear h2;induction h1 with
   | base h3=>
     obtain ⟨m,h4,h5,h6,h7⟩:=(Jy (Hk hS _ _)).1 h3;exact .base ((Jy hS).2 ⟨m,h4,(Vo.1 h5).1,h6,h7⟩)
   |step _ hm hs hc ih=>exact .step ih hm hs hc
 · rintro ⟨h1,d,hd,h2,h3⟩;refine ⟨?_,d,hd,h2,h3⟩;induction h1 generalizing d with
   | base h3'=>
     obtain ⟨m,h4,h5,h6,rfl⟩:=(Jy hS).1 h3';obtain ⟨e,he⟩:=H5 (hS _ h5);have h8:=Zb0 h4 hd he h2;unfold Ja at h8;rw [US oM] at h8;exact .base ((Jy (Hk hS _ _)).2 ⟨m,h4,(Sp hS).2 ⟨h5,e,he,h8.1,oM⟩,h6,rfl⟩)
   | @step s m hr hm hs hcc ih=>
     subst hs;obtain ⟨e,he⟩:=H5 (Zep h (Kw h c _) hr);have h8:=Zb0 hm hd he h2;unfold Ja at h8;rw [UR oM] at h8;exact .step (ih e he h8.1 oM) hm rfl hcc
theorem H7 (far:List Int):∀(S:List Int) (b:Int),-1≤b→
 (S.foldl (JZ far) b=b∨∃s∈S,far[s.toNat]? =some (S.foldl (JZ far) b)∧0≤S.foldl (JZ far) b)∧
 (0≤b→0≤S.foldl (JZ far) b∧S.foldl (JZ far) b≤b)∧
 (∀s∈S,∀d,far[s.toNat]? =some d→0≤d→0≤S.foldl (JZ far) b∧S.foldl (JZ far) b≤d)
 |[],b,_=>⟨.inl rfl,fun h=>⟨h,sM⟩,fun s hs=>by simp at hs⟩
 | x :: S,b,hb=>by
   have hb': -1≤JZ far b x∧(JZ far b x=b∨(far[x.toNat]? =some (JZ far b x)∧0≤JZ far b x))∧(0≤b→0≤JZ far b x∧JZ far b x≤b)∧(∀d,far[x.toNat]? =some d→0≤d→0≤JZ far b x∧JZ far b x≤d):=by
    unfold JZ;split
    · rename_i d hd;split
      · rename_i h1;refine ⟨oM, .inr ⟨by first|exact hd|rfl,h1.1⟩,fun h=>oM,fun d' hd' h=>?_⟩
        first
         |(rw [hd] at hd';cases hd';omega)
         |(cases hd';omega)
      · rename_i h1;refine ⟨hb, .inl rfl,fun h=>oM,fun d' hd' h=>?_⟩
        first
         |(rw [hd] at hd';cases hd';omega)
         |(cases hd';omega)
    · rename_i hd;refine ⟨hb, .inl rfl,fun h=>oM,fun d' hd' h=>?_⟩
      first
       |(rw [hd] at hd';cases hd')
       |cases hd'
   obtain ⟨h1,h2,h3⟩:=H7 far S (JZ far b x) hb'.1;simp only [VH];refine ⟨?_,fun h=>?_,fun s hs d hd h=>?_⟩
   · rcases h1 with h1|⟨s,hs,h4⟩
     · rcases hb'.2.1 with h5|h5
       · exact .inl (by rw [h1,h5])
       · exact .inr ⟨x,Xm ..,by rw [h1];exact h5⟩
     · exact .inr ⟨s,Xn _ hs,h4⟩
   · have h4:=hb'.2.2.1 h;have h5:=h2 h4.1;omega
   · rcases Xs.1 hs with rfl|hs
     · have h4:=hb'.2.2.2 d hd h;have h5:=h2 h4.1;omega
     · exact h3 s hs d hd h
theorem Zes {a:Aut} {S:List Int} (hS:InS a S) (n:Int):(WA S (Wp a) n).length=0↔¬(0≤RR (Wp a) S∧RR (Wp a) S≤n):=by
 obtain ⟨h1,_,h3⟩:=H7 (Wp a) S (-1) oM
 unfold RR
 constructor
 · rintro h ⟨h4,h5⟩;rcases h1 with h1|⟨s,hs,h6,h7⟩
   · omega
   · have:s∈WA S (Wp a) n:=(Sp hS).2 ⟨hs,_,h6,h7,h5⟩;rw [XR h] at this;simp at this
 · intro h;rcases X4 (WA S (Wp a) n).length with h4|h4
   · exact h4
   · exfalso;obtain ⟨s,hs⟩:=List.exists_mem_of_length_pos h4;obtain ⟨h5,d,hd,h6,h7⟩:=(Sp hS).1 hs;have:=h3 s h5 d hd h6;exact h ⟨this.1,oM⟩
def Zb2 (a:Aut) (n:Int) (p:Pf):Pf:=(p.1,WA p.2 (Wp a) n)
theorem ZiY {a:Aut} (h:LG a) {p:Pf} (hp:InS a p.2) (n:Int) (c:Nat):LH a n (Zb2 a n p) c=(ZiX a n p c).map (Zb2 a (n-1)):=by
 unfold LH ZiX Zb2
 dsimp only
 rw [ZgW h hp oM]
 have h1:=Zes (TB h c p.2) (n-1)
 by_cases h2:(WA (YJ a c p.2) (Wp a) (n-1)).length=0
 · rw [US h2,UR (h1.1 h2)];rfl
 · rw [UR h2,US (by rcases Classical.em (0≤RR (Wp a) (YJ a c p.2)∧RR (Wp a) (YJ a c p.2)≤n-1) with h3|h3;exact h3;exact UT (h1.2 h3) h2)];rfl
theorem ZiZ {a:Aut} (h:LG a) (hs:InS a a.start) (n:Nat):∀k,∀p∈lvR a n k,InS a p.2
 | 0,p,hp=>by
   simp only [lvR,Xl] at hp;subst hp;exact So h hs
 | k +1,p,hp=>by
   rw [lvR] at hp;obtain ⟨q,_,hq⟩:=XP.1 hp;obtain ⟨c,_,hc⟩:=XP.1 hq;unfold ZiX at hc;split at hc
   · simp only [Xl] at hc;subst hc;exact TB h c _
   · simp at hc
theorem Sq {α β:Type} {l:List α} {f g:α→List β} (h:∀x∈l,f x=g x):l.flatMap f=l.flatMap g:=by
 induction l with
 |nil=>rfl
 |cons x l ih=>rw [Xz,Xz,h x (Xm ..),ih fun y hy=>h y (Xn _ hy)]
theorem Zft {a:Aut} (h:LG a) (hs:InS a a.start) (n:Nat):∀k,lvP a n k=(lvR a n k).map (Zb2 a ((n:Int)-k))
 | 0=>by
   show [_]=[_];unfold Zb2;simp
 | k+1=>by
   rw [lvP,lvR,Zft h hs n k,List.flatMap_map,Uu];refine Sq fun p hp=>?_;unfold RA ZmS;rw [Uu];refine Sq fun c _=>?_;rw [ZiY h (ZiZ h hs n k p hp)];congr 2;omega
theorem L3 (a:Aut) (n k:Nat):L1 a n (k+1)=L1 a n k++PU a (lvP a n k):=by
 unfold L1;rw [V9,XN];simp
theorem C9 (a:Aut) (n:Nat) {j k:Nat} (h:j≤k):(L1 a n j).length≤(L1 a n k).length:=by
 obtain ⟨i,rfl⟩:∃i,k=j+i:=⟨k-j,oM⟩
 clear h
 induction i with
 |zero=>exact Xg _
 |succ i ih=>rw [←XX,L3,Xc];omega
theorem ZgX {a:Aut} {l:List Pf} {i:Nat} {p:Pf} (h:l[i]? =some p):PU a (l.take (i+1))=PU a (l.take i)++(if WG a p.2 then [p.1] else []):=by
 unfold PU
 rw [ZT h,XV,Xu]
 congr 1
 cases hb:WG a p.2<;>simp [hb]
theorem Zb3 (a:Aut) (l:List Pf):(PU a l).length≤l.length:=by unfold PU;rw [Xe];exact Vp _ _
theorem Zb4 (a:Aut) (l:List Pf) (i:Nat):(PU a (l.take i)).length≤(PU a l).length:=by
 unfold PU
 rw [Xe,Xe]
 exact (List.Sublist.filter _ (List.take_sublist i l)).length_le
theorem RB {α β:Type} (f:α→List β) (l:List α) (i:Nat):((l.take i).flatMap f).length≤(l.flatMap f).length:=by
 have:l.flatMap f=(l.take i).flatMap f++(l.drop i).flatMap f:=by rw [←XN,VJ]
 rw [this,Xc];omega
theorem H8 {α β:Type} (f:α→List β) {l:List α} {i:Nat} {x:α} (h:l[i]? =some x):(l.take (i+1)).flatMap f=(l.take i).flatMap f++f x:=by
 rw [ZT h,XN];simp
theorem RU {β:Type} (f:Nat→List β) (k:Nat):(List.range (k+1)).flatMap f=(List.range k).flatMap f++f k:=by
 rw [V9,XN];simp
end Go.Proofs.YtgfabnhpllkebaaGreatDoor
namespace Go.Cb
set_option linter.all false
open Go.En
def vec {α:Type} (n:Nat) (f:Nat→α):List α:=(List.range n).map f
theorem KE {α:Type} (n:Nat) (f:Nat→α):(vec n f).length=n:=by simp [vec]
theorem Zax {α:Type} {n i:Nat} (f:Nat→α) (h:i<n):(vec n f)[i]? =some (f i):=by simp [vec,h]
theorem Zay {α:Type} {n:Nat} {l:List α} {f:Nat→α} (hl:l.length=n) (h:∀i x,l[i]? =some x→x=f i):l=vec n f:=by
 apply Vn
 intro i
 rcases XD i n with hi|hi
 · obtain ⟨x,hx⟩:=Ys (show i<l.length by omega);rw [hx,Zax f hi,h i x hx]
 · rw [XK oM,XK (by rw [KE];exact hi)]
theorem PW {α:Type} {n a:Nat} (f:Nat→α) (b:α):(vec n f).set a b=vec n (fun i=>if i=a then b else f i):=by
 refine Zay (by simp [vec]) fun i x hx=>?_
 have hi:=Zf hx
 rw [Xr,KE] at hi
 rw [List.getElem?_set] at hx
 split at hx
 · rename_i e;subst e;split at hx
   · cases hx;simp
   · cases hx
 · rename_i e;rw [Zax f hi] at hx
   cases hx;rw [UR (fun h=>e h.symm)]
theorem Jz {α:Type} {n:Nat} {f g:Nat→α} (h:∀i,i<n→f i=g i):vec n f=vec n g:=
 VL fun i hi=>h i (XT.1 hi)
theorem GW {α:Type} (n:Nat) (x:α):List.replicate n x=vec n (fun _=>x):=by
 refine Zay sM fun i y hy=>?_
 rw [UM] at hy
 split at hy
 · cases hy;rfl
 · cases hy
theorem Hl {α β:Type} (n:Nat) (f:Nat→α) (g:α→β):(vec n f).map g=vec n (fun i=>g (f i)):=by simp [vec,Function.comp_def]
abbrev Zet (n:Nat) (f:Nat→Bool):PV:= .sl n (vec n fun i=>ZK (f i))
def Closed (n:Nat) (f T:Nat→Nat→Bool):Prop:=(∀i j,i<n→j<n→f i j=true→T i j=true)∧∀i j k,i<n→j<n→k<n→T i j=true→T j k=true→T i k=true
def cntF (n:Nat) (f:Nat→Bool):Nat:=((List.range n).filter fun i=> !f i).length
theorem ζa (n:Nat) (f:Nat→Bool):cntF (n+1) f=cntF n f+(if f n then 0 else 1):=by
 unfold cntF
 rw [V9,XV,Xc]
 cases h:f n<;>simp [h]
theorem Zeu {n:Nat} {f g:Nat→Bool} (h:∀i,i<n→f i=g i):cntF n f=cntF n g:=by
 unfold cntF
 rw [List.filter_congr fun i hi=>by rw [h i (XT.1 hi)]]
theorem Zb5 {f:Nat→Bool} {a:Nat} (hf:f a=false):∀{n:Nat},a<n→cntF n (fun i=>if i=a then true else f i)+1=cntF n f
 |0,h=>oM
 | n +1,h=>by
   rw [ζa,ζa];by_cases e:n=a
   · subst e;rw [US rfl,hf];rw [Zeu (f:=fun i=>if i=n then true else f i) (g:=f) fun i hi=>by rw [UR oM]];simp
   · rw [UR e];have:=Zb5 hf (n:=n) oM;omega
def cntM (n:Nat) (f:Nat→Nat→Bool):Nat:=((List.range n).map fun i=>cntF n (f i)).sum
structure Grows (n:Nat) (E R:Nat→Nat→Bool):Prop where
 lo:∀i j,i<n→j<n→E i j=true→R i j=true
 hi:∀T,Closed n E T→∀i j,i<n→j<n→R i j=true→T i j=true
def Before (a b c a' b' c':Nat):Prop:=a'<a∨(a'=a∧(b'<b∨(b'=b∧c'<c)))
structure Pass (n:Nat) (E R0 R:Nat→Nat→Bool) (ag:Bool) (a b c:Nat):Prop where
 gr:Grows n E R
 dn:ag=true→cntM n R<cntM n R0
 st:ag=false→R=R0∧∀a' b' c',a'<n→b'<n→c'<n→Before a b c a' b' c'→R0 a' b'=true→R0 b' c'=true→R0 a' c'=true
def Conn (l:List Int) (r:Int→Int→Bool) (x y:Int):Prop:=∀P:Int→Prop,(∀a b,a∈l→b∈l→(r a b=true∨r b a=true)→P a→P b)→P x→P y
theorem nodup_len {α:Type} [BEq α] [LawfulBEq α]:∀{l m:List α},l.Nodup→(∀x∈l,x∈m)→l.length≤m.length
 |[],m,_,_=>Xd _
 | x ::l,m,h,hs=>by
   rw [Vd] at h;have hx:=hs x sM;have h1:=nodup_len (l:=l) (m:=m.erase x) h.2 fun y hy=>by
    have hne:y≠x:=fun e=>h.1 (e▸hy);exact (List.mem_erase_of_ne hne).2 (hs y (by simp [hy]))
   rw [UN hx] at h1;have:=List.length_pos_of_mem hx;simp only [Xi];omega
structure Comps (l:List Int) (r:Int→Int→Bool) (cs:List (List Int)):Prop where
 mem:∀x,x∈cs.flatten↔x∈l
 nd:cs.flatten.Nodup
 ne:∀c∈cs,c≠[]
 asc:∀c∈cs,c.Pairwise (· < ·)
 conn:∀c∈cs,∀x∈c,∀y∈c,Conn l r x y
 clos:∀c∈cs,∀x∈c,∀y∈l,(r x y=true∨r y x=true)→y∈c
 ord:cs.Pairwise fun c d=>∀x y,c.head? =some x→d.head? =some y→x<y
structure Part (l:List Int) (r:Int→Int→Bool) (cs:List (List Int)) (k:Nat):Prop where
 sub:∀x∈cs.flatten,x∈l
 did:∀j x,j<k→l[j]? =some x→x∈cs.flatten
 nd:cs.flatten.Nodup
 ne:∀c∈cs,c≠[]
 asc:∀c∈cs,c.Pairwise (· < ·)
 conn:∀c∈cs,∀x∈c,∀y∈c,Conn l r x y
 clos:∀c∈cs,∀x∈c,∀y∈l,(r x y=true∨r y x=true)→y∈c
 ord:cs.Pairwise fun c d=>∀x y,c.head? =some x→d.head? =some y→x<y
 hd:∀c∈cs,∀x,c.head? =some x→∃j,j<k∧l[j]? =some x
structure Mk (l:List Int) (r:Int→Int→Bool) (cs:List (List Int)) (first:Int) (tk cl:List Int) (i q:Nat):Prop where
 tkm:∀z,z∈tk↔z∈cs.flatten∨z∈cl
 nd:(cs.flatten++cl).Nodup
 sub:∀z∈cl,z∈l
 con:∀z∈cl,Conn l r first z
 fst:first∈cl
 il:i≤cl.length
 did:∀j x,j<i→cl[j]? =some x→∀y∈l,(r x y=true∨r y x=true)→y∈tk
 now:∀x,cl[i]? =some x→∀p y,p<q→l[p]? =some y→(r x y=true∨r y x=true)→y∈tk
def sumTo:Nat→(Nat→Nat)→Nat
 |0,_=>0
 |n+1,f=>sumTo n f+f n
def marked (n:Nat) (I:Nat→Bool):List Int:=((List.range n).map fun i:Nat=>(i:Int)).filter fun x=>I x.toNat
structure LabOk (n:Nat) (I:Nat→Bool) (r:Int→Int→Bool) (lab:Nat→Nat):Prop where
 le:∀i,i<n→lab i≤i
 inn:∀i,i<n→I i=true→I (lab i)=true
 conn:∀i,i<n→I i=true→Conn (marked n I) r (lab i) i
def good (n:Nat) (I:Nat→Bool) (t:Nat→Nat→Bool) (lab:Nat→Nat) (a b:Nat):Prop:=a≠b→I a=true→I b=true→t a b=true→lab a=lab b
structure LabPass (n:Nat) (I:Nat→Bool) (r:Int→Int→Bool) (t:Nat→Nat→Bool) (lab0 lab:Nat→Nat) (ag:Bool) (a b:Nat):Prop where
 ok:LabOk n I r lab
 les:ag=true→sumTo n lab<sumTo n lab0
 eq:ag=false→lab=lab0∧∀x y,(x<a∧y<n∨x=a∧y<b)→good n I t lab x y
structure Fix (n:Nat) (I:Nat→Bool) (r:Int→Int→Bool) (t:Nat→Nat→Bool) (lab:Nat→Nat):Prop where
 ok:LabOk n I r lab
 st:∀x y,x<n→y<n→good n I t lab x y
end Go.Cb
namespace Go.Proofs.YtgfabnhpllkebaaGreatDoor
open Go.RowKit Go.Cb Go.En Tryz
set_option linter.all false
theorem H9 {a b:Int}:Sm a b<0↔a<b:=by unfold Sm;split<;>(try split)<;>omega
theorem L4 {a b:Int}:Sm a b=0↔a=b:=by unfold Sm;split<;>(try split)<;>omega
theorem WJ {a b:Mv}:W8 a b=true↔a.src<b.src∨(a.src=b.src∧(a.sym<b.sym∨(a.sym=b.sym∧a.dst<b.dst))):=by
 unfold W8 GG
 rw [UO]
 by_cases h1:Sm a.src b.src=0
 · have e1:=L4.1 h1;by_cases h2:Sm a.sym b.sym=0
   · have e2:=L4.1 h2;have h3:=H9 (a:=a.dst) (b:=b.dst);by_cases h4:Sm a.dst b.dst=0
     · have e4:=L4.1 h4;simp only [Jh,h1,h2,h4,if_true];omega
     · simp only [Jh,h1,h2,h4,if_true,if_false];omega
   · have h3:=H9 (a:=a.sym) (b:=b.sym);have h4:¬a.sym=b.sym:=fun e=>h2 (L4.2 e);simp only [Jh,h1,h2,if_true,if_false];omega
 · have h3:=H9 (a:=a.src) (b:=b.src);have h4:¬a.src=b.src:=fun e=>h1 (L4.2 e);simp only [Jh,h1,if_false];omega
theorem Ea {α:Type} {r:α→α→Bool} {l:List α} (h:Y7 r l=true) (hi:∀a∈l,r a a=false) (ht:∀a∈l,∀b∈l,∀c∈l,r a b=true→r b c=true→r a c=true):l.Pairwise fun a b=>r a b=true:=by
 induction l with
 |nil=>exact .nil
 | cons x l ih=>
   have h1:∀i a b,(x::l)[i]? =some a→(x::l)[i+1]? =some b→r a b=true:=(G1 r _).1 h;have h2:=ih ((G1 r l).2 fun i a b ha hb=>h1 (i+1) a b ha hb) (fun a ha=>hi a (Xn _ ha)) (fun a ha b hb c hc=>ht a (Xn _ ha) b (Xn _ hb) c (Xn _ hc));refine XQ.2 ⟨fun y hy=>?_,h2⟩
   cases l with
   |nil=>simp at hy
   | cons z l=>
     have h3:=h1 0 x z rfl rfl;rcases Xs.1 hy with rfl|hy2
     · exact h3
     · exact ht x sM z sM y (Xn _ hy) h3 ((XQ.1 h2).1 y hy2)
structure AOk (a:Aut):Prop where
 n0:0≤a.n
 n1:a.n≤2000
 s0:0≤a.syms
 s1:a.syms≤40
 ml:a.moves.length≤20000
 st:InS a a.start
 fi:InS a a.fin
 sl:a.start.length≤2000
 fl:a.fin.length≤2000
 mv:∀m∈a.moves,0≤m.src∧m.src<a.n∧0≤m.dst∧m.dst<a.n∧-1≤m.sym∧m.sym<a.syms
theorem AOk.mi {a:Aut} (h:AOk a):LG a:=fun m hm=>by have:=h.mv m hm;omega
theorem Zaz {n:Int} {l:List Int} (h:Lm n l=true):∀s∈l,0≤s∧s<n:=fun s hs=>by
 unfold Lm at h
 simp only [Xf,XB,UO] at h
 exact h.1 s hs
theorem Zb6 {n:Int} {l:List Int} (h:Lm n l=true) (h0:0≤n) (hn:n≤2000):l.length≤2000:=by
 have h1:=Zaz h
 unfold Lm at h
 simp only [Xf] at h
 have h2:=Ea h.2 (fun a _=>by unfold ltI;exact UQ oM) (fun a _ b _ c _ h1 h2=>by
  unfold ltI at*;simp only [UO] at*;omega)
 have:=nodup_len 2000 l (h2.imp fun h=>by unfold ltI at h;simp only [UO] at h;omega) fun s hs=>by have:=h1 s hs;omega
 exact this
theorem JN {a:Aut} (h:Z5 a=true):AOk a:=by
 unfold Z5 at h
 simp only [Xf,UO] at h
 obtain ⟨⟨⟨⟨⟨⟨⟨⟨h1,h2⟩,h3⟩,h4⟩,h5⟩,h6⟩,h7⟩,h8⟩,h9⟩:=h
 refine ⟨h1,h2,h3,h4,h5,Zaz h6,Zaz h7,Zb6 h6 h1 h2,Zb6 h7 h1 h2,fun m hm=>?_⟩
 have:=XB.1 h8 m hm
 unfold Rw at this
 simp only [Xf,UO] at this
 omega
set_option maxRecDepth 100000
theorem Eb {a:Aut} (h:0≤a.n):ZN a= .agg [pInt (a.n.toNat:Nat),pInt a.syms,pInts a.start,pInts a.fin,pMvs a.moves]:=by
 unfold ZN;rw [show ((a.n.toNat:Nat):Int)=a.n by omega]
def FinK (a:Aut) (k:Nat) (L:List Int):Prop:=L.length=a.n.toNat∧∀s,s<a.n.toNat→L[s]? =some (if (a.fin.take k).any (fun t=>decide (t=(s:Nat))) then 0 else-1)
theorem FinK.start {a:Aut} {L:List Int} (hl:L.length=a.n.toNat) (h:∀j,j<L.length→L[j]? =some (-1)):FinK a 0 L:=⟨hl,fun s hs=>by rw [h s oM];rfl⟩
theorem FinK.step {a:Aut} {k:Nat} {L:List Int} {t:Int} (h:FinK a k L) (ht:a.fin[k]? =some t) (h0:0≤t):FinK a (k+1) (L.set t.toNat 0):=by
 refine ⟨by rw [Xr];exact h.1,fun s hs=>?_⟩
 rw [ZT ht,Ug]
 by_cases e:t.toNat=s
 · subst e;rw [X8 (by rw [h.1];exact hs)];simp only [VP,Uh,Vh];rw [UP (show t=((t.toNat:Nat):Int) by omega),Bool.or_true];rfl
 · rw [Ve e,h.2 s hs];simp only [VP,Uh,Vh];rw [UQ (show ¬t=(s:Int) by omega),Vh]
theorem FinK.done {a:Aut} {k:Nat} {L:List Int} (h:FinK a k L) (hk:a.fin.length≤k):L=WB a 0:=by
 apply Vn
 intro s
 rcases XD s a.n.toNat with hs|hs
 · rw [h.2 s hs,show (WB a 0)[s]? =_ from Zeq hs,Xk hk];rfl
 · rw [XK (by rw [h.1];exact hs),XK (by rw [(L0 a 0).len];exact hs)]
structure PassI (a:Aut) (far0 L:List Int) (fl:Bool) (i:Nat):Prop where
 eq:L=passF (a.moves.take i) far0
 ok:FarOk a.n.toNat L
 no:fl=false→L=far0
 yes:fl=true→sumF a.n.toNat L<sumF a.n.toNat far0
theorem PassI.start {a:Aut} {far0:List Int} (h:FarOk a.n.toNat far0):PassI a far0 far0 false 0:=⟨rfl,h,fun _=>rfl,fun h=>Bool.noConfusion h⟩
theorem PassI.set {a:Aut} {far0 L:List Int} {fl:Bool} {i:Nat} {m:Mv} {d e d':Int} (h:PassI a far0 L fl i) (hm:a.moves[i]? =some m) (hd:L[m.dst.toNat]? =some d) (he:L[m.src.toNat]? =some e) (h0:0≤d) (h1:e<0∨d'<e) (hs:d'=Ja m d):PassI a far0 (L.set m.src.toNat d') true (i+1):=by
 subst hs
 have h2:=OB h.ok hd he h0 h1
 refine ⟨?_,h2.1,fun h=>Bool.noConfusion h,fun _=>?_⟩
 · rw [ZT hm];unfold passF;rw [VE];show _=Gt (passF (a.moves.take i) far0) m;rw [←h.eq];unfold Gt;rw [hd,he];dsimp only;rw [US ⟨h0,h1⟩]
 · cases hfl:fl
   · rw [←h.no hfl];exact h2.2
   · exact Nat.lt_trans h2.2 (h.yes hfl)
theorem PassI.skip {a:Aut} {far0 L:List Int} {fl:Bool} {i:Nat} {m:Mv} {d e:Int} (h:PassI a far0 L fl i) (hm:a.moves[i]? =some m) (hd:L[m.dst.toNat]? =some d) (he:L[m.src.toNat]? =some e) (h1:¬(0≤d∧(e<0∨Ja m d<e))):PassI a far0 L fl (i+1):=by
 refine ⟨?_,h.ok,h.no,h.yes⟩
 rw [ZT hm]
 unfold passF
 rw [VE]
 show _=Gt (passF (a.moves.take i) far0) m
 rw [←h.eq]
 unfold Gt
 rw [hd,he]
 dsimp only
 rw [UR h1]
theorem PassI.done {a:Aut} {far0 L:List Int} {fl:Bool} {i:Nat} (h:PassI a far0 L fl i) (hi:a.moves.length≤i):L=passF a.moves far0:=by rw [h.eq,Xk hi]
theorem PassI.less {a:Aut} {j i:Nat} {L:List Int} {fl:Bool} (h:PassI a (WB a j) L fl i) (hL:L=WB a (j+1)):sumF a.n.toNat (WB a (j+1))+(if fl then 1 else 0)<sumF a.n.toNat (WB a j)+(if true then 1 else 0):=by
 cases hf:fl
 · have h1:=h.no hf;rw [hL] at h1;rw [h1];simp
 · have h1:=h.yes hf;rw [hL] at h1;simp;omega
theorem Zi0 {n:Nat} {L:List Int} (h:FarOk n L) {i:Nat} {d:Int} (hd:L[i]? =some d): -1≤d∧d<n:=by
 have h1:=h.lo d (Xb hd)
 have h2:=h.hi d (Xb hd)
 have h3:=Zaw L
 rw [h.len] at h3
 omega
set_option maxHeartbeats 2000000 in
theorem ZaA (a : Aut) (h : AOk a):AF prog 139 [ZN a] (· = .own 3 1 a.n.toNat ((Wp a).map pInt)):=by
 have hn0:=h.n0
 have hn1:=h.n1
 have hml:=h.ml
 have hfl:=h.fl
 rw [Eb h.n0]
 refine AF.of_body 80 func139 rfl ntmps139 (Xa rfl) ?_
 intro w0 M0 vs hl hv
 obtain ⟨v0,rfl⟩:=Wj hl
 clear hl hv
 refine Ze ?_
 (refine ZC 1 5 fun h1=>?_<;>refine xL 2 Za ?_<;>refine Zi ?_)
 (refine xL 11 (Zd 1 ZQ) ?_<;>(refine yL 12 (Zj 1 Zg) fun v12 h=>?_;cases h)<;>refine Jn 13 Zn fun h13 ho13=>?_<;>refine xL 3 Za ?_<;>refine Zc ?_)
 rw [show List.replicate a.n.toNat (PV.val (.int .i64 0))=(List.replicate a.n.toNat (0:Int)).map pInt by rw [List.map_replicate]]
 (refine Zv ?_<;>refine xL 14 Zb (xL 15 (YH 13 Zp) (xL 16 Zb ?_))<;>refine Zc ?_)
 refine ZB (ι:={q:Nat×List Int//q.1≤a.n.toNat∧q.2.length=a.n.toNat∧∀j,j<q.1→q.2[j]? =some (-1)}) (fun k=>⟨[(1,_,_),(2,_,_),(3,_,_),(15,_,_),(16, .int .i64 k.1.1,pInt k.1.1)],[(1,_,_),(13,h13, .own 3 1 a.n.toNat (k.1.2.map pInt))]⟩) (fun k=>a.n.toNat-k.1.1) ⟨(0,List.replicate a.n.toNat 0),Xd _,XI,fun j hj=>oM⟩ (fun a w H=>H.weaken ⟨rfl,rfl,rfl,rfl,rfl,trivial⟩ ⟨rfl,rfl,trivial⟩) ?_
 rintro ⟨⟨k,L⟩,hk,hLl,hL⟩
 dsimp only
 dsimp only at hk hLl hL
 have hLm:(L.map pInt).length=a.n.toNat:=by rw [Xe];exact hLl
 refine Ze ?_
 (refine xL 17 ZP ?_<;>refine Zc ?_)
 refine cX ?_ ?_<;>intro hb17
 · first|exact bN hb17|(
 refine Ze ?_;(refine xL 18 Zb (xL 4 Za ?_)<;>refine Zi ?_)
 (refine xL 19 Zb (xL 20 Zb (xL 21 (Yi 13 Zp) ?_))<;>refine YM 13 Zg Wl ?_<;>refine Zi ?_)
 (refine xL 22 ZH (xL 16 Zb ?_)<;>refine Zc ?_)
 rw [Xp,←VQ];refine Zm (
  ⟨(k+1,L.set k (-1)),by dsimp only;omega,by rw [Xr];exact hLl,fun j hj=>by
    dsimp only at hj ⊢;by_cases e:k=j
    · subst e;rw [X8 oM]
    · rw [Ve e];exact hL j oM⟩
  ) (by dsimp only;omega) ⟨rfl,rfl,rfl,rfl,rfl,trivial⟩ ⟨rfl,rfl,trivial⟩)
 · first | exact bN hb17 | (
 have hF0:FinK a 0 L:=FinK.start hLl fun j hj=>hL j oM;refine Ze ?_;(refine xL 23 (Zd 1 ZX) ?_<;>(refine yL 24 (Zj 1 Zz) fun v24 h=>?_;cases h)<;>refine xL 25 (ZR Zp) (xL 26 Zb ?_)<;>refine Zc ?_)
 refine ZB (ι:={q:Nat×List Int//q.1≤a.fin.length∧FinK a q.1 q.2}) (fun k=>⟨[(1,_,_),(2,_,_),(3,_,_),(24,_,_),(25,_,_),(26, .int .i64 k.1.1,pInt k.1.1)],[(1,_,_),(13,h13, .own 3 1 a.n.toNat (k.1.2.map pInt))]⟩) (fun k=>a.fin.length-k.1.1) ⟨(0,L),Xd _,hF0⟩ (fun a w H=>H.weaken ⟨rfl,rfl,rfl,rfl,rfl,rfl,trivial⟩ ⟨rfl,rfl,trivial⟩) ?_;rintro ⟨⟨k8,L8⟩,hk8,hF8⟩;dsimp only;dsimp only at hk8 hF8;(have hLm8:(L8.map pInt).length=a.n.toNat:=by rw [Xe];exact hF8.1);refine Ze ?_;(refine xL 27 ZP ?_<;>refine Zc ?_)
 refine cX ?_ ?_<;>intro hb27
 · first|exact bN hb27|(
 obtain ⟨t,ht⟩:=Zq (show k8<a.fin.length by omega);have e1:=Z7 (f:=pInt) ht;have ht2:=h.fi t (Xb ht);refine Ze ?_;(refine xL 28 (ZI Zp) ?_<;>(refine yL 29 (Ya Zg) fun v29 h=>?_;cases h)<;>refine xL 6 Za ?_<;>refine Zi ?_)
 (refine xL 30 Zb (xL 31 Zb (xL 32 (W3 13 Zp) ?_))<;>refine YM 13 Zg Wl ?_<;>refine Zi ?_)
 (refine xL 33 ZH (xL 26 Zb ?_)<;>refine Zc ?_)
 rw [Xp,←VQ];refine Zm (
  ⟨(k8+1,L8.set t.toNat 0),Zf ht,hF8.step ht ht2.1⟩
  ) (by dsimp only;omega) ⟨rfl,rfl,rfl,rfl,rfl,rfl,trivial⟩ ⟨rfl,rfl,trivial⟩)
 · first | exact bN hb27 |(
 have hF9:=hF8.done oM;subst hF9;refine Ze ?_;(refine xL 7 Za ?_<;>refine Zc ?_)
 refine ZB (ι:={q:Nat×Bool//q.2=false→passF a.moves (WB a q.1)=WB a q.1}) (fun k=>⟨[(1,_,_),(2,_,_),(3,_,_),(7, .bool k.1.2,ZK k.1.2)],[(1,_,_),(13,h13, .own 3 1 a.n.toNat ((WB a k.1.1).map pInt))]⟩) (fun k=>sumF a.n.toNat (WB a k.1.1)+(if k.1.2 then 1 else 0)) ⟨(0,true),fun h=>Bool.noConfusion h⟩ (fun a w H=>H.weaken ⟨rfl,rfl,rfl,rfl,trivial⟩ ⟨rfl,rfl,trivial⟩) ?_;rintro ⟨⟨j,ag⟩,hag⟩;dsimp only;dsimp only at hag;refine Ze ?_;(refine xL 34 Zb ?_<;>refine Zc ?_)
 refine cX ?_ ?_<;>intro hb34
 · first | exact bN hb34|(
 refine Ze ?_;(refine xL 7 Za ?_<;>refine Zi ?_)
 (refine xL 35 (Zd 1 Zw) ?_<;>(refine yL 36 (Zj 1 ZA) fun v36 h=>?_;cases h)<;>refine xL 37 (ZR ZF) (xL 38 Zb ?_)<;>refine Zc ?_)
 refine ZB (ι:={q:Nat×List Int×Bool//q.1≤a.moves.length∧PassI a (WB a j) q.2.1 q.2.2 q.1}) (fun k=>⟨[(1,_,_),(2,_,_),(3,_,_),(36,_,_),(37,_,_),(7, .bool k.1.2.2,ZK k.1.2.2),(38, .int .i64 k.1.1,pInt k.1.1)],[(1,_,_),(13,h13, .own 3 1 a.n.toNat (k.1.2.1.map pInt))]⟩) (fun k=>a.moves.length-k.1.1) ⟨(0,WB a j,false),Xd _,PassI.start (L0 a j)⟩ (fun a w H=>H.weaken ⟨rfl,rfl,rfl,rfl,rfl,rfl,rfl,trivial⟩ ⟨rfl,rfl,trivial⟩) ?_;rintro ⟨⟨i,L2,fl⟩,hi,hP⟩;dsimp only;dsimp only at hi hP;refine Ze ?_;(refine xL 39 ZP ?_<;>refine Zc ?_)
 refine cX ?_ ?_<;>intro hb39
 · first | exact bN hb39|(
 obtain ⟨m,hm⟩:=Zq (show i<a.moves.length by omega);have e1:=Yh Z0 a.moves i m hm;have e2:=YA Z0 hm;have hmv:=h.mv m (Xb hm);have hLl:=hP.ok.len;obtain ⟨d,hd⟩:=Zq (show m.dst.toNat<L2.length by omega);obtain ⟨e,he⟩:=Zq (show m.src.toNat<L2.length by omega);have hdb:=Zi0 hP.ok hd;have heb:=Zi0 hP.ok he;have e3:=Z7 (f:=pInt) hd;have e4:=Z7 (f:=pInt) he;(have hLm2:(L2.map pInt).length=a.n.toNat:=by rw [Xe];exact hLl);refine Ze ?_;(refine xL 40 (ZI ZF) ?_<;>(refine yL 41 (Y' ZW) fun v41 h=>?_;cases h)<;>refine Zx [(.int .i64 0),(.int .i64 0),(.int .i64 0)] 3 9 Ke fun h9=>?_<;>refine ZD 9 ZW ?_<;>refine Zi ?_)
 (refine xL 42 Zb (xL 43 (Zd 9 Yg) ?_)<;>(refine yL 44 (Zj 9 Zg) fun v44 h=>?_;cases h)<;>refine xL 45 (W3 13 Zp) ?_<;>(refine yL 46 (Zj 13 Zg) fun v46 h=>?_;cases h)<;>refine xL 47 ZP ?_<;>refine Zc ?_)
 refine cX ?_ ?_<;>intro hb47
 · first |exact bN hb47|(
 refine Ze ?_;(refine xL 78 ZH (xL 38 Zb ?_)<;>refine Zc ?_)
 try rw [Xp,←VQ]
 first
  | (exact Zm (
      ⟨(i+1,L2.set m.src.toNat (d+1),true),Zf hm,hP.set hm hd he oM (by first|omega|(simp at hb72;omega)) oM⟩
      ) (by dsimp only;omega) ⟨rfl,rfl,rfl,rfl,rfl,rfl,rfl,trivial⟩ ⟨rfl,rfl,trivial⟩)
  | (exact Zm (
      ⟨(i+1,L2.set m.src.toNat d,true),Zf hm,hP.set hm hd he oM (by first|omega|(simp at hb72;omega)) oM⟩
      ) (by dsimp only;omega) ⟨rfl,rfl,rfl,rfl,rfl,rfl,rfl,trivial⟩ ⟨rfl,rfl,trivial⟩)
  | (exact Zm (
      ⟨(i+1,L2,fl),Zf hm,hP.skip hm hd he (by first|omega|(simp at hb72;omega))⟩
      ) (by dsimp only;omega) ⟨rfl,rfl,rfl,rfl,rfl,rfl,rfl,trivial⟩ ⟨rfl,rfl,trivial⟩))
 · first | exact bN hb47|(
 refine Ze ?_;(refine xL 48 Zb (xL 49 (Zd 9 Yg) ?_)<;>(refine yL 50 (Zj 9 Zg) fun v50 h=>?_;cases h)<;>refine xL 51 (W3 13 Zp) ?_<;>(refine yL 52 (Zj 13 Zg) fun v52 h=>?_;cases h)<;>refine xL 10 Za ?_<;>refine Zi ?_)
 (refine xL 53 (Zd 9 Yk) ?_<;>(refine yL 54 (Zj 9 Zg) fun v54 h=>?_;cases h)<;>refine xL 55 Y9 ?_<;>refine Zc ?_)
 refine cX ?_ ?_<;>intro hb55
 · first | exact bN hb55|(
 (have hst:Ja m d=d+1:=by unfold Ja;rw [US oM]);refine Ze ?_;(refine xL 56 Zb (xL 57 ZH (xL 10 Za ?_))<;>refine Zi ?_)
 (refine xL 58 Zb (xL 59 (Zd 9 Yb) ?_)<;>(refine yL 60 (Zj 9 Zg) fun v60 h=>?_;cases h)<;>refine xL 61 (W3 13 Zp) ?_<;>(refine yL 62 (Zj 13 Zg) fun v62 h=>?_;cases h)<;>refine xL 63 ZP (xL 64 Zb ?_)<;>(refine bLd 64 (fun hb64=>?_) (fun hb64=>?_)<;>(first|refine kL 65 ?_|refine xL 65 Zb ?_))<;>(first|refine kL 66 ?_|refine xL 66 Zb ?_)<;>(first|refine kL 67 ?_|refine xL 67 (Zd 9 Yb) ?_)<;>(first|refine kL 68 ?_|(refine yL 68 (Zj 9 Zg) fun v68 h=>?_;cases h))<;>(first|refine kL 69 ?_|refine xL 69 (W3 13 Zp) ?_)<;>(first|refine kL 70 ?_|(refine yL 70 (Zj 13 Zg) fun v70 h=>?_;cases h))<;>(first|refine kL 71 ?_|refine xL 71 ZP ?_)<;>refine xL 72 ZG ?_<;>refine Zc ?_)<;>(
 refine cX ?_ ?_<;>intro hb72
 · first |exact bN hb72|(
 refine Ze ?_;(refine xL 73 Zb (xL 74 (Zd 9 Yb) ?_)<;>(refine yL 75 (Zj 9 Zg) fun v75 h=>?_;cases h)<;>refine xL 76 Zb (xL 77 (W3 13 Zp) ?_)<;>refine YM 13 Zg Wl ?_<;>refine Zi ?_)
 (refine xL 7 Za ?_<;>refine Zi ?_)
 (refine xL 78 ZH (xL 38 Zb ?_)<;>refine Zc ?_)
 try rw [Xp,←VQ]
 first
  | (exact Zm (
      ⟨(i+1,L2.set m.src.toNat (d+1),true),Zf hm,hP.set hm hd he oM (by first|omega|(simp at hb72;omega)) oM⟩
      ) (by dsimp only;omega) ⟨rfl,rfl,rfl,rfl,rfl,rfl,rfl,trivial⟩ ⟨rfl,rfl,trivial⟩)
  | (exact Zm (
      ⟨(i+1,L2.set m.src.toNat d,true),Zf hm,hP.set hm hd he oM (by first|omega|(simp at hb72;omega)) oM⟩
      ) (by dsimp only;omega) ⟨rfl,rfl,rfl,rfl,rfl,rfl,rfl,trivial⟩ ⟨rfl,rfl,trivial⟩)
  | (exact Zm (
      ⟨(i+1,L2,fl),Zf hm,hP.skip hm hd he (by first|omega|(simp at hb72;omega))⟩
      ) (by dsimp only;omega) ⟨rfl,rfl,rfl,rfl,rfl,rfl,rfl,trivial⟩ ⟨rfl,rfl,trivial⟩))
 · first |exact bN hb72|(
 refine Ze ?_;(refine xL 78 ZH (xL 38 Zb ?_)<;>refine Zc ?_)
 try rw [Xp,←VQ]
 first
  | (exact Zm (
      ⟨(i+1,L2.set m.src.toNat (d+1),true),Zf hm,hP.set hm hd he oM (by first|omega|(simp at hb72;omega)) oM⟩
      ) (by dsimp only;omega) ⟨rfl,rfl,rfl,rfl,rfl,rfl,rfl,trivial⟩ ⟨rfl,rfl,trivial⟩)
  | (exact Zm (
      ⟨(i+1,L2.set m.src.toNat d,true),Zf hm,hP.set hm hd he oM (by first|omega|(simp at hb72;omega)) oM⟩
      ) (by dsimp only;omega) ⟨rfl,rfl,rfl,rfl,rfl,rfl,rfl,trivial⟩ ⟨rfl,rfl,trivial⟩)
  | (exact Zm (
      ⟨(i+1,L2,fl),Zf hm,hP.skip hm hd he (by first|omega|(simp at hb72;omega))⟩
      ) (by dsimp only;omega) ⟨rfl,rfl,rfl,rfl,rfl,rfl,rfl,trivial⟩ ⟨rfl,rfl,trivial⟩))))
 · first | exact bN hb55|(
 (have hst:Ja m d=d:=by unfold Ja;rw [UR oM]);refine Ze ?_;(refine xL 58 Zb (xL 59 (Zd 9 Yb) ?_)<;>(refine yL 60 (Zj 9 Zg) fun v60 h=>?_;cases h)<;>refine xL 61 (W3 13 Zp) ?_<;>(refine yL 62 (Zj 13 Zg) fun v62 h=>?_;cases h)<;>refine xL 63 ZP (xL 64 Zb ?_)<;>(refine bLd 64 (fun hb64=>?_) (fun hb64=>?_)<;>(first|refine kL 65 ?_|refine xL 65 Zb ?_))<;>(first|refine kL 66 ?_|refine xL 66 Zb ?_)<;>(first|refine kL 67 ?_|refine xL 67 (Zd 9 Yb) ?_)<;>(first|refine kL 68 ?_|(refine yL 68 (Zj 9 Zg) fun v68 h=>?_;cases h))<;>(first|refine kL 69 ?_|refine xL 69 (W3 13 Zp) ?_)<;>(first|refine kL 70 ?_|(refine yL 70 (Zj 13 Zg) fun v70 h=>?_;cases h))<;>(first|refine kL 71 ?_|refine xL 71 ZP ?_)<;>refine xL 72 ZG ?_<;>refine Zc ?_)<;>(
 refine cX ?_ ?_<;>intro hb72
 · first |exact bN hb72|(
 refine Ze ?_;(refine xL 73 Zb (xL 74 (Zd 9 Yb) ?_)<;>(refine yL 75 (Zj 9 Zg) fun v75 h=>?_;cases h)<;>refine xL 76 Zb (xL 77 (W3 13 Zp) ?_)<;>refine YM 13 Zg Wl ?_<;>refine Zi ?_)
 (refine xL 7 Za ?_<;>refine Zi ?_)
 (refine xL 78 ZH (xL 38 Zb ?_)<;>refine Zc ?_)
 try rw [Xp,←VQ]
 first
  | (exact Zm (
      ⟨(i+1,L2.set m.src.toNat (d+1),true),Zf hm,hP.set hm hd he oM (by first|omega|(simp at hb72;omega)) oM⟩
      ) (by dsimp only;omega) ⟨rfl,rfl,rfl,rfl,rfl,rfl,rfl,trivial⟩ ⟨rfl,rfl,trivial⟩)
  | (exact Zm (
      ⟨(i+1,L2.set m.src.toNat d,true),Zf hm,hP.set hm hd he oM (by first|omega|(simp at hb72;omega)) oM⟩
      ) (by dsimp only;omega) ⟨rfl,rfl,rfl,rfl,rfl,rfl,rfl,trivial⟩ ⟨rfl,rfl,trivial⟩)
  | (exact Zm (
      ⟨(i+1,L2,fl),Zf hm,hP.skip hm hd he (by first|omega|(simp at hb72;omega))⟩
      ) (by dsimp only;omega) ⟨rfl,rfl,rfl,rfl,rfl,rfl,rfl,trivial⟩ ⟨rfl,rfl,trivial⟩))
 · first |exact bN hb72|(
 refine Ze ?_;(refine xL 78 ZH (xL 38 Zb ?_)<;>refine Zc ?_)
 try rw [Xp,←VQ]
 first
  | (exact Zm (
      ⟨(i+1,L2.set m.src.toNat (d+1),true),Zf hm,hP.set hm hd he oM (by first|omega|(simp at hb72;omega)) oM⟩
      ) (by dsimp only;omega) ⟨rfl,rfl,rfl,rfl,rfl,rfl,rfl,trivial⟩ ⟨rfl,rfl,trivial⟩)
  | (exact Zm (
      ⟨(i+1,L2.set m.src.toNat d,true),Zf hm,hP.set hm hd he oM (by first|omega|(simp at hb72;omega)) oM⟩
      ) (by dsimp only;omega) ⟨rfl,rfl,rfl,rfl,rfl,rfl,rfl,trivial⟩ ⟨rfl,rfl,trivial⟩)
  | (exact Zm (
      ⟨(i+1,L2,fl),Zf hm,hP.skip hm hd he (by first|omega|(simp at hb72;omega))⟩
      ) (by dsimp only;omega) ⟨rfl,rfl,rfl,rfl,rfl,rfl,rfl,trivial⟩ ⟨rfl,rfl,trivial⟩))))))
 · first|exact bN hb39|(
 have hL2:L2=WB a (j+1):=hP.done oM;(have hms:sumF a.n.toNat (WB a (j+1))+(if fl then 1 else 0)<sumF a.n.toNat (WB a j)+(if ag then 1 else 0):=by rw [show ag=true from hb34];exact hP.less hL2);refine nav ?_;rw [hL2];refine Zm (
  ⟨(j+1,fl),fun hf=>by
    have h1:=hP.no hf;rw [hL2] at h1;show passF a.moves (WB a (j+1))=WB a (j+1);rw [h1];exact h1⟩
  ) (hms) ⟨rfl,rfl,rfl,rfl,trivial⟩ ⟨rfl,rfl,trivial⟩))
 · first|exact bN hb34|(
 refine Ze ?_;(refine xL 79 Zb (xL 2 Za ?_)<;>refine Zc ?_)
 refine W9 13 (results139) rfl rfl ?_;rw [Zlw (hag (by simpa using hb34))])))
theorem We:ElT prog 139 4 1 1 (.bool false):=⟨underlying139,by kernel_rfl,rfl,dC⟩
theorem Ec:ElT prog 194 37 1 24 (.slice none 0 0):=⟨underlying194,by kernel_rfl,rfl,dC⟩
theorem ZS:ElT prog 37 93 3 24 (.agg #[(.int .i64 0),(.int .i64 0),(.int .i64 0)]):=⟨underlying37,by kernel_rfl,rfl,dC⟩
theorem Ed:WR prog 196=some ((.agg #[(.int .i64 0),(.slice none 0 0),(.slice none 0 0)]),([0,1,2]:List Nat).map fun o=>(o,1)):=by kernel_rfl
theorem YB:(prog.info? 37).map (·.size)=some 1:=by kernel_rfl
theorem Sr:(prog.info? 4).map (·.size)=some 1:=by kernel_rfl
def Zb7 (e:Nat) (l:List Mv):PV:= .own e 3 l.length (l.flatMap cMv)
theorem ZgY (e:Nat) (l:List Mv):share (Zb7 e l)=pMvs l:=by
 unfold Zb7
 rw [share,Yl,Uu];rfl
def GQ (ms:List Mv) (s:Nat):List Mv:=ms.filter fun m=>decide (m.src=(s:Int))
def J7 (e n:Nat) (ms:List Mv):List PV:=(List.range n).map fun s=>Zb7 e (GQ ms s)
theorem KR (e n:Nat) (ms:List Mv):(J7 e n ms).length=n:=by unfold J7;simp
theorem S6 (e:Nat) {n s:Nat} (ms:List Mv) (h:s<n):(J7 e n ms)[s]? =some (Zb7 e (GQ ms s)):=by
 unfold J7;rw [Xh,Uf h];rfl
theorem Zb8 (e:Nat) {n:Nat} {ms:List Mv} {m:Mv} (h0:0≤m.src) (h:m.src<n):(J7 e n ms).set m.src.toNat (Zb7 e (GQ ms m.src.toNat++[m]))=J7 e n (ms++[m]):=by
 apply Vn
 intro s
 rcases XD s n with hs|hs
 · rw [S6 e _ hs];by_cases e1:m.src.toNat=s
   · subst e1;rw [X8 (by rw [KR];exact hs)];congr 2;unfold GQ;rw [XV];congr 1;simp only [List.filter_cons,List.filter_nil];rw [UP (show m.src=((m.src.toNat:Nat):Int) by omega)];rfl
   · rw [Ve e1,S6 e _ hs];congr 2;unfold GQ;rw [XV];simp only [List.filter_cons,List.filter_nil];rw [UQ (show ¬m.src=(s:Int) by omega)];simp
 · rw [XK (by rw [Xr,KR];exact hs),XK (by rw [KR];exact hs)]
theorem Zi1 (e n:Nat):∀(i:Nat) (p p':PV),(List.replicate n (PV.val (.slice none 0 0)))[i]? =some p→(J7 e n [])[i]? =some p'→ZmK p p':=fun i p p' h1 h2=>by
 have hi:=Zf h2
 rw [KR] at hi
 rw [S6 e _ hi] at h2
 rw [UM,US hi] at h1
 cases h1;cases h2
 exact .inr ⟨rfl,e,3,rfl⟩
theorem Zb9 (ms:List Mv) (s:Nat):(GQ ms s).length≤ms.length:=Vp _ _
def RD (a:Aut) (k:Nat):List PV:=(List.range a.n.toNat).map fun s=>ZK ((a.fin.take k).any fun t=>decide (t=(s:Nat)))
theorem L5 (a:Aut) (k:Nat):(RD a k).length=a.n.toNat:=by unfold RD;simp
theorem Ee {a:Aut} {k s:Nat} (h:s<a.n.toNat):(RD a k)[s]? =some (ZK ((a.fin.take k).any fun t=>decide (t=(s:Nat)))):=by
 unfold RD;rw [Xh,Uf h];rfl
theorem Zev {a:Aut} {k:Nat} {t:Int} (ht:a.fin[k]? =some t) (h0:0≤t):(RD a k).set t.toNat (ZK true)=RD a (k+1):=by
 apply Vn
 intro s
 rcases XD s a.n.toNat with hs|hs
 · rw [Ee hs];rw [ZT ht,Ug];simp only [VP,Uh,Vh];by_cases e:t.toNat=s
   · subst e;rw [X8 (by rw [L5];exact hs),UP (show t=((t.toNat:Nat):Int) by omega),Bool.or_true]
   · rw [Ve e,Ee hs,UQ (show ¬t=(s:Int) by omega),Vh]
 · rw [XK (by rw [Xr,L5];exact hs),XK (by rw [L5];exact hs)]
theorem Zew (a:Aut):List.replicate a.n.toNat (PV.val (.bool false))=RD a 0:=by
 apply Vn
 intro s
 rcases XD s a.n.toNat with hs|hs
 · rw [Ee hs,UM,US hs];rfl
 · rw [XK (by rw [XI];exact hs),XK (by rw [L5];exact hs)]
theorem Zi2 (e0 e1 e2:Nat) (a:Aut) {k1 k2:Nat} (h1:a.moves.length≤k1) (h2:a.fin.length≤k2):J0 [pInt a.syms,PV.own e0 1 a.n.toNat (J7 e1 a.n.toNat (a.moves.take k1)),PV.own e2 1 a.n.toNat (RD a k2)]=[pInt a.syms,Zau a,ZiS a]:=by
 rw [Xk h1]
 simp only [J0,share]
 congr 1
 congr 1
 · unfold Zau J7;rw [Yl,XH];congr 1;exact VL fun s _=>ZgY e1 _
 · congr 1;unfold ZiS RD;rw [Yl,XH,Xk h2];rfl
theorem Zi3 (e:Nat) (L:List Mv) (x:Mv):PV.own e 3 (L.length+1) (L.flatMap cMv++cMv x)=Zb7 e (L++[x]):=by unfold Zb7;simp
set_option maxHeartbeats 2000000 in
theorem TC (a:Aut) (h:AOk a):AF prog 110 [ZN a] (· =pGr a):=by
 have hn0:=h.n0
 have hn1:=h.n1
 have hml:=h.ml
 have hfl:=h.fl
 rw [Eb h.n0]
 refine AF.of_body 59 func110 rfl ntmps110 (Xa rfl) ?_
 intro w0 M0 vs hl hv
 obtain ⟨v0,rfl⟩:=Wj hl
 clear hl hv
 refine Ze ?_
 (refine ZC 1 5 fun h1=>?_<;>refine xL 2 Za ?_<;>refine Zc ?_)
 (refine ZY (fun i=>([]:List Nat).elem i) [1] kR ?_<;>refine xD 0 8 rfl (Zd 1 Z3) ?_<;>(refine yD 1 9 rfl (Zj 1 Zg) fun v9 h=>?_;cases h)<;>refine xD 2 10 rfl (Zd 1 ZQ) ?_<;>(refine yD 3 11 rfl (Zj 1 Zg) fun v11 h=>?_;cases h)<;>refine xD 5 13 rfl (Zd 1 ZQ) ?_<;>(refine yD 6 14 rfl (Zj 1 Zg) fun v14 h=>?_;cases h)<;>(refine Y8 4 7 kR ?_ ?_;rotate_right;(focus ((refine Zo rfl fun w9 M9 N9 DQ back=>?_)<;>refine Jn 15 We fun h15 ho15=>?_<;>refine Zl (back _ (nrm ?_))<;>(refine Zr 4 kR ?_)<;>(refine Zo rfl fun w9 M9 N9 DQ back=>?_)<;>refine Jn 12 Ec fun h12 ho12=>?_<;>refine Zl (back _ (nrm ?_))<;>refine xE 8 16 rfl (ZM Ed) ?_<;>(refine Zr 9 kR ?_)<;>(refine Zo rfl fun w9 M9 N9 DQ back=>?_)<;>refine ZC 17 3 fun h17=>?_<;>refine Zl (back _ (nrm ?_))<;>(refine Zr 10 kR ?_)<;>(refine Zo rfl fun w9 M9 N9 DQ back=>?_)<;>refine xL 3 Za ?_<;>refine Zl (back _ (nrm ?_))));rotate_right;(focus ((refine Zo rfl fun w9 M9 N9 DQ back=>?_)<;>refine Jn 12 Ec fun h12 ho12=>?_<;>refine Zl (back _ (nrm ?_))<;>(refine Zr 7 kR ?_)<;>(refine Zo rfl fun w9 M9 N9 DQ back=>?_)<;>refine Jn 15 We fun h15 ho15=>?_<;>refine Zl (back _ (nrm ?_))<;>refine xE 8 16 rfl (ZM Ed) ?_<;>(refine Zr 9 kR ?_)<;>(refine Zo rfl fun w9 M9 N9 DQ back=>?_)<;>refine ZC 17 3 fun h17=>?_<;>refine Zl (back _ (nrm ?_))<;>(refine Zr 10 kR ?_)<;>(refine Zo rfl fun w9 M9 N9 DQ back=>?_)<;>refine xL 3 Za ?_<;>refine Zl (back _ (nrm ?_)))))<;>refine Yr kR (nav ?_)<;>try dsimp only)<;>(
 refine Zs (WY (l:=12) (J7 93 a.n.toNat []) rfl (by rw [KR,XI]) (Zi1 _ _)) fun _=>?_;rw [Zew a];(refine Zv ?_<;>refine xL 18 (Zd 1 Zw) ?_<;>(refine yL 19 (Zj 1 ZA) fun v19 h=>?_;cases h)<;>refine xL 20 (ZR ZF) (xL 21 Zb ?_)<;>refine Zc ?_)
 refine ZB (ι:={q:Nat//q≤a.moves.length}) (fun k=>⟨[(1,_,_),(2,_,_),(3,_,_),(19,_,_),(20,_,_),(21, .int .i64 k.1,pInt k.1)],[(1,_,_),(15,_,_),(17,h17, .own 196 3 1 [pInt a.syms, .val h12, .val h15]),(12,h12, .own 37 1 a.n.toNat (J7 93 a.n.toNat (a.moves.take k.1)))]⟩) (fun k=>a.moves.length-k.1) ⟨0,Xd _⟩ (fun a w H=>H.weaken ⟨rfl,rfl,rfl,rfl,rfl,rfl,trivial⟩ ⟨rfl,rfl,rfl,rfl,trivial⟩) ?_;rintro ⟨k,hk⟩;dsimp only;refine Ze ?_;(refine xL 22 ZP ?_<;>refine Zc ?_)
 refine cX ?_ ?_<;>intro hb22
 · first|exact bN hb22|(
 obtain ⟨m,hm⟩:=Zq (show k<a.moves.length by omega);have e1:=Yh Z0 a.moves k m hm;have e2:=YA Z0 hm;have hmv:=h.mv m (Xb hm);have hi:m.src.toNat<a.n.toNat:=oM;refine Ze ?_;(refine xL 23 (ZI ZF) ?_<;>(refine yL 24 (Y' ZW) fun v24 h=>?_;cases h)<;>refine Zx [(.int .i64 0),(.int .i64 0),(.int .i64 0)] 3 5 Ke fun h5=>?_<;>refine ZD 5 ZW ?_<;>refine Zc ?_)
 refine Zs (Ws (l:=12) (l':=201) (j:=m.src.toNat) rfl (S6 _ _ hi) rfl rfl) fun i=>?_;obtain ⟨m1,hm1⟩:=i;dsimp only;(have e3:((J7 93 a.n.toNat (a.moves.take k)).set m.src.toNat (.val m1))[m.src.toNat*1]? =some (.val m1):=by rw [Xp,X8 (by rw [KR];exact hi)]);(have e4:((J7 93 a.n.toNat (a.moves.take k)).set m.src.toNat (.val m1)).length=a.n.toNat:=by rw [Xr,KR]);have e5:=Zb9 (a.moves.take k) m.src.toNat;rw [Xo] at e5;(refine ZY (fun i=>([18]:List Nat).elem i) [5,12,17] kR ?_<;>refine xD 0 25 rfl Zb ?_<;>refine xD 1 26 rfl (ZdV 17) ?_<;>refine xD 2 27 rfl (Zd 17 K2) ?_<;>(refine yD 3 28 rfl (Zj 17 J5) fun v28 h=>?_;cases h)<;>refine xD 4 29 rfl (Zd 5 Yb) ?_<;>(refine yD 5 30 rfl (Zj 5 Zg) fun v30 h=>?_;cases h)<;>refine xD 6 31 rfl Zb ?_<;>refine xD 7 32 rfl (ZdV 17) ?_<;>refine xD 8 33 rfl (Zd 17 K2) ?_<;>(refine yD 9 34 rfl (Zj 17 J5) fun v34 h=>?_;cases h)<;>refine xD 10 35 rfl (Zd 5 Yb) ?_<;>(refine yD 11 36 rfl (Zj 5 Zg) fun v36 h=>?_;cases h)<;>refine xD 12 37 rfl (W3 12 J6) ?_<;>(refine yD 13 38 rfl (Zj 12 ZA) fun v38 h=>?_;cases h)<;>(refine yE 14 39 rfl (Zu 5 ZW) fun v39 h=>?_;cases h)<;>(refine Zr 15 kR ?_)<;>(refine Zo rfl fun w9 M9 N9 DQ back=>?_)<;>refine YD 40 ZS fun h40 ho40=>?_<;>refine Zl (back _ (nrm ?_))<;>(refine Zr 16 kR ?_)<;>(refine Zo rfl fun w9 M9 N9 DQ back=>?_)<;>refine Z1 201 40 41 ZS fun h41 ho41=>?_<;>refine Zl (back _ (nrm ?_))<;>refine xE 17 42 rfl (W3 12 J6) ?_<;>(refine Zr 18 kR ?_)<;>(refine Ko rfl rfl kR fun DQ back=>?_)<;>refine YM 12 ZA YB ?_<;>refine Zl (back _ (nav ?_))<;>try dsimp only)
 (refine Zv ?_<;>refine xL 43 ZH (xL 21 Zb ?_)<;>refine Zc ?_)
 refine Kn (Znd (l:=12) (l':=41) (j:=m.src.toNat) rfl (by rw [Xp];exact X8 (by rw [Xr,KR];exact hi)) rfl rfl) fun _=>?_;rw [Xp,List.set_set,List.set_set];rw [show List.take 3 (List.drop 0 (T9 (List.map PV.val [Value.int IntKind.i64 0,Value.int IntKind.i64 0,Value.int IntKind.i64 0]) 0 (cMv m)))=cMv m from rfl];rw [show PV.own 93 3 ((GQ (a.moves.take k) m.src.toNat).length+1) ((GQ (a.moves.take k) m.src.toNat).flatMap cMv++cMv m)=Zb7 93 (GQ (a.moves.take k) m.src.toNat++[m]) from Zi3 _ _ _];rw [Zb8 _ oM oM,←ZT hm];refine Zm (
  ⟨k+1,Zf hm⟩
  ) (by dsimp only;omega) ⟨rfl,rfl,rfl,rfl,rfl,rfl,trivial⟩ ⟨rfl,rfl,rfl,rfl,trivial⟩)
 · first |exact bN hb22|(
 refine Ze ?_;(refine xL 44 (Zd 1 ZX) ?_<;>(refine yL 45 (Zj 1 Zz) fun v45 h=>?_;cases h)<;>refine xL 46 (ZR Zp) (xL 47 Zb ?_)<;>refine Zc ?_)
 refine ZB (ι:={q:Nat//q≤a.fin.length}) (fun k=>⟨[(1,_,_),(2,_,_),(3,_,_),(45,_,_),(46,_,_),(47, .int .i64 k.1,pInt k.1)],[(1,_,_),(12,_,_),(17,h17, .own 196 3 1 [pInt a.syms, .val h12, .val h15]),(15,h15, .own 4 1 a.n.toNat (RD a k.1))]⟩) (fun k=>a.fin.length-k.1) ⟨0,Xd _⟩ (fun a w H=>H.weaken ⟨rfl,rfl,rfl,rfl,rfl,rfl,trivial⟩ ⟨rfl,rfl,rfl,rfl,trivial⟩) ?_;rintro ⟨k8,hk8⟩;dsimp only;refine Ze ?_;(refine xL 48 ZP ?_<;>refine Zc ?_)
 refine cX ?_ ?_<;>intro hb48
 · first|exact bN hb48|(
 obtain ⟨t,ht⟩:=Zq (show k8<a.fin.length by omega);have e1:=Z7 (f:=pInt) ht;have ht2:=h.fi t (Xb ht);have e6:=L5 a k8;refine Ze ?_;(refine xL 49 (ZI Zp) ?_<;>(refine yL 50 (Ya Zg) fun v50 h=>?_;cases h)<;>refine xL 7 Za ?_<;>refine Zi ?_)
 (refine xL 51 Zb (xL 52 (ZdV 17) (xL 53 (Zd 17 GP) ?_))<;>(refine yL 54 (Zj 17 YL) fun v54 h=>?_;cases h)<;>refine xL 55 Zb (xL 56 (W3 15 Yy) ?_)<;>refine YM 15 Wa Sr ?_<;>refine Zi ?_)
 (refine xL 57 ZH (xL 47 Zb ?_)<;>refine Zc ?_)
 rw [Xp,Zev ht ht2.1];refine Zm (
  ⟨k8+1,Zf ht⟩
  ) (by dsimp only;omega) ⟨rfl,rfl,rfl,rfl,rfl,rfl,trivial⟩ ⟨rfl,rfl,rfl,rfl,trivial⟩)
 · first|exact bN hb48|(
 refine Ze ?_;(refine xL 58 Zb (xL 2 Za ?_)<;>refine Zc ?_)
 refine Wr (Znd (l:=17) (l':=12) (j:=1) rfl rfl rfl rfl) fun _=>?_;refine Wr (Znd (l:=17) (l':=15) (j:=2) rfl rfl rfl rfl) fun _=>?_;refine Wr (Px (l:=17) (t:=2) (j:=0) rfl Nat.one_pos rfl) fun _=>?_;refine Zy (results110) rfl ?_;exact congrArg (PV.sptr 0) (Zi2 _ _ _ a oM oM))))
theorem Dq:AggT prog 182 2=true:=by kernel_rfl
theorem Zh:AggT prog 39 5=true:=by kernel_rfl
theorem YU:ElT prog 117 36 1 24 (.slice none 0 0):=⟨underlying117,by kernel_rfl,rfl,dC⟩
theorem G7:ElT prog 183 182 2 48 (.agg #[(.slice none 0 0),(.slice none 0 0)]):=⟨underlying183,by kernel_rfl,rfl,dC⟩
theorem TD:FldT prog 182 0 0=true:=by kernel_rfl
theorem TE:FldT prog 182 1 1=true:=by kernel_rfl
theorem Z':SlT prog 117 36 1=true:=by kernel_rfl
theorem J8:SlT prog 183 182 2=true:=by kernel_rfl
theorem RV:WR prog 182=some ((.agg #[(.slice none 0 0),(.slice none 0 0)]),([0,1]:List Nat).map fun o=>(o,1)):=by kernel_rfl
theorem Zex:ZeroT prog 182 (.agg #[(.slice none 0 0),(.slice none 0 0)]):=by unfold ZeroT;kernel_rfl
def cPf (p:Pf):List PV:=[pInts p.1,pInts p.2]
theorem Zfu (p:Pf):(cPf p).length=2:=rfl
theorem Zfv (e:Nat) (L:List Pf) (x:Pf):PV.own e 2 (L.length+1) (L.flatMap cPf++cPf x)= .own e 2 (L++[x]).length ((L++[x]).flatMap cPf):=sM
theorem Zey (e:Nat) (L:List (List Int)) (x:List Int):PV.own e 1 (L.length+1) (L.map pInts++[pInts x])= .own e 1 (L++[x]).length ((L++[x]).map pInts):=sM
theorem Zca (e n:Nat) (l:List (List Int)) (hn:n=l.length):share (.own e 1 n (l.map pInts))=RL l:=by
 subst hn
 rw [share,Yl,XH]
 unfold RL
 congr 1
def Znz (a:Aut) (n:Int) (p:PV):Prop:=
 (Z5 a=false∧p= .tup [.sl 0 [],pInt 1])∨(Z5 a=true∧(n<0∨200<n)∧p= .tup [.sl 0 [],pInt 2])∨(Z5 a=true∧0≤n∧n≤200∧Zlx a n.toNat∧p= .tup [.sl 0 [],pInt 5])∨(Z5 a=true∧0≤n∧n≤200∧¬Zlx a n.toNat∧p= .tup [RL (L1 a n.toNat (n.toNat+1)),pInt 0])
theorem Zi4 (a:Aut) (n:Int) (p:Pf) (c:Nat):(LH a n p c).length≤1:=by unfold LH;split<;>simp
theorem OC (a:Aut) (n:Int) (p:Pf):∀c,((List.range c).flatMap (LH a n p)).length≤c
 |0=>sM
 | c+1=>by
   rw [RU,Xc];have:=OC a n p c;have:=Zi4 a n p c;omega
theorem ZnA {a:Aut} (h:AOk a) (n k:Nat):∀p∈lvP a n k,InS a p.2∧p.2.length≤2000:=fun p hp=>by
 rw [Zft h.mi h.st] at hp
 obtain ⟨q,hq,rfl⟩:=Xj.1 hp
 have h1:=ZiZ h.mi h.st n k q hq
 refine ⟨Hk h1 _ _,?_⟩
 have h2:Srt q.2:=by
  cases k with
  | zero=>
    simp only [lvR,Xl] at hq;subst hq;exact Kz h.mi h.st
  | succ k=>
    rw [lvR] at hq;obtain ⟨r,_,hr⟩:=XP.1 hq;obtain ⟨c,_,hc⟩:=XP.1 hr;unfold ZiX at hc;split at hc
    · simp only [Xl] at hc;subst hc;exact Kz h.mi (Kw h.mi c _)
    · simp at hc
 have h3:Srt (WA q.2 (Wp a) ((n:Int)-k)):=H6 (a:=a) h2 _ _
 have h4:=nodup_len a.n.toNat _ (h3.imp fun h=>oM) fun s hs=>by
  have:=Hk h1 (Wp a) ((n:Int)-k) s hs;have:=h.n0;omega
 have:=h.n1
 show (WA q.2 (Wp a) ((n:Int)-k)).length≤2000
 omega
theorem Zcb {a:Aut} {n:Nat}:∀k,∀p∈lvP a n k,p.1.length=k
 | 0,p,hp=>by
   simp only [lvP,Xl] at hp;subst hp;rfl
 | k +1,p,hp=>by
   rw [lvP] at hp;obtain ⟨r,hr,hr2⟩:=XP.1 hp;obtain ⟨c,_,hc⟩:=XP.1 hr2;unfold LH at hc;split at hc
   · simp at hc
   · simp only [Xl] at hc;subst hc;rw [Xc,Zcb k r hr];rfl
set_option maxHeartbeats 4000000 in
theorem Zi5 (a : Aut) (n : Int):AF prog 91 [ZN a,pInt n] (Znz a n):=by
 refine AF.of_body 109 func91 rfl ntmps91 (Xa rfl) ?_
 intro w0 M0 vs hl hv
 obtain ⟨v0,v1,rfl⟩:=YG hl
 obtain rfl:=hv 1 _ _ rfl rfl
 clear hl hv
 refine Ze ?_
 (refine ZC 2 5 fun h2=>?_<;>refine xL 4 Za (xL 5 Za ?_)<;>refine Zi ?_)
 ((refine yL 16 (Zu 2 Zh) fun v16 h=>?_;cases h)<;>(refine cS 17 (cA call107 (Wv a)) fun v17 h=>?_;cases h)<;>refine xL 18 Z8 (xL 15 Za ?_)<;>refine Zc ?_)
 refine cX ?_ ?_<;>intro hb15
 · first|exact bN hb15|(
 refine Ze ?_;(refine xL 4 Za (xL 5 Za ?_)<;>refine Zc ?_)
 refine Wr (Jp (t:=4) rfl) fun _=>?_;exact Jm (results91) rfl rfl (.inl ⟨by simpa using hb15,rfl⟩))
 · first | exact bN hb15 | (
 (have hok:Z5 a=true:=by simpa using hb15);have hA:=JN hok;have hn1:=hA.n1;have hs1:=hA.s1;have hs0:=hA.s0;refine Ze ?_;(refine xL 20 Zb (xL 21 ZP (xL 22 Zb ?_))<;>(refine bLd 22 (fun hb22=>?_) (fun hb22=>?_)<;>(first|refine kL 23 ?_|refine xL 23 Zb ?_))<;>(first|refine kL 24 ?_|refine xL 24 Yw ?_)<;>refine xL 25 ZG (xL 19 Za ?_)<;>refine Zc ?_)<;>(
 refine cX ?_ ?_<;>intro hb19
 · first|exact bN hb19|(
 refine Ze ?_;(refine xL 4 Za (xL 5 Za ?_)<;>refine Zc ?_)
 refine Wr (Jp (t:=4) rfl) fun _=>?_;exact Jm (results91) rfl rfl (.inr (.inl ⟨hok,by first|omega|(simp at hb19;omega),rfl⟩)))
 · first | exact bN hb19 |(
 (have hnb:0≤n∧n≤200:=by simp at hb19;omega);obtain ⟨N,rfl⟩:∃N:Nat,n=(N:Int):=⟨n.toNat,oM⟩;have hfl:=(Hj a).len;have hsb:YR a a.start=YR a a.start:=rfl;have hcl:=OA hA.mi hA.st;have hci:=So hA.mi hA.st;refine nav ?_;(refine ZY (fun i=>([]:List Nat).elem i) [2] kR ?_<;>(refine yD 0 26 rfl (Zu 2 Zh) fun v26 h=>?_;cases h)<;>(refine yD 2 28 rfl (Zu 2 Zh) fun v28 h=>?_;cases h)<;>(refine Zr 1 kR ?_)<;>(refine Zo rfl fun w9 M9 N9 DQ back=>?_)<;>(refine cS 27 (cA call110 (TC a hA)) fun v27 h=>?_;cases h)<;>refine Zl (back _ (nrm ?_))<;>(refine Zr 3 kR ?_)<;>(refine Zo rfl fun w9 M9 N9 DQ back=>?_)<;>(refine cO 29 (cA call139 (ZaA a hA)) fun v29 ho29=>?_;refine Zt (En.freeze (l:=29) (t:=29) rfl rfl) fun _=>?_;rw [ZV _ _ _ hfl.symm])<;>refine Zl (back _ (nrm ?_))<;>refine xE 4 6 rfl Za ?_<;>refine xE 5 7 rfl Za ?_<;>refine Yr kR (nav ?_)<;>try dsimp only)
 (refine Zv ?_<;>refine xL 8 Za ?_<;>refine Zi ?_)
 (refine xL 30 Zb (xL 31 (Zd 2 Z4) ?_)<;>(refine yL 32 (Zj 2 Zz) fun v32 h=>?_;cases h)<;>(refine cO 33 (cA call111 (RQ a a.start hn1 hA.mi hA.st)) fun v33 ho33=>?_;refine Zt (En.freeze (l:=33) (t:=33) rfl rfl) fun _=>?_;rw [ZV _ _ _ rfl])<;>refine xL 34 Zb (xL 35 Zb ?_)<;>(refine cO 36 (cA call140 (Zat (YR a a.start) (Wp a) N oM (fun s hs=>by have:=hci s hs;omega))) fun v36 ho36=>?_;refine Zt (En.freeze (l:=36) (t:=36) rfl rfl) fun _=>?_;rw [ZV _ _ _ rfl])<;>refine xL 37 (ZM RV) ?_<;>refine YD 38 G7 fun h38 ho38=>?_<;>refine xL 9 Za ?_<;>refine Zc ?_)
 refine Zs (WY (l:=38) [.own 3 1 0 [],pInts (WA (YR a a.start) (Wp a) N)] rfl rfl (fun i p p' h1 h2=>by
  match i with
  |0=>cases h1;cases h2;exact .inr ⟨rfl,_,_,rfl⟩
  |1=>cases h1;cases h2;exact .inl rfl
  |i+2=>simp at h2)) fun _=>?_
 refine Zs (focus (l:=38) (l':=300) (j:=0) rfl rfl rfl) fun v300=>?_;refine Zs (Z6 (l:=38) (l':=300) (j:=0) rfl rfl rfl rfl) fun _=>?_;dsimp only [List.set];refine Zs (Jl 200 36 1 rfl) fun _=>?_;refine Zs (ZE (l:=38) 201 rfl rfl) fun _=>?_;have hL0:[share (PV.own 3 1 0 []),pInts (WA (YR a a.start) (Wp a) N)]=(lvP a N 0).flatMap cPf:=rfl;rw [hL0];refine ZB (ι:={q:Nat×Value×Value//q.1≤N+1∧(∀j,j≤q.1→(lvP a N j).length≤2000)∧(L1 a N q.1).length≤q.1*2000∧q.2.1.oneCell'=true∧q.2.2.oneCell'=true}) (fun k=>⟨[(2,_,_),(6,_,_),(7,_,_),(1, .int .i64 ((N:Int)-(k.1.1:Nat)),pInt ((N:Int)-(k.1.1:Nat))),(8,k.1.2.1, .val k.1.2.1),(9,k.1.2.2, .val k.1.2.2)],[(2,_,_),(200,k.1.2.1, .own 36 1 (L1 a N k.1.1).length ((L1 a N k.1.1).map pInts)),(201,k.1.2.2, .own 182 2 (lvP a N k.1.1).length ((lvP a N k.1.1).flatMap cPf))]⟩) (fun k=>N+1-k.1.1) ⟨(0, .slice none 0 0,h38),Xd _,fun j hj=>by have h9:j=0:=(by dsimp only at hj;omega);subst h9;simp [lvP],by simp [L1],rfl,ho38⟩ (fun a w H=>H.weaken ⟨rfl,rfl,rfl,rfl,rfl,rfl,trivial⟩ ⟨rfl,rfl,rfl,trivial⟩) ?_;rintro ⟨⟨lev,hO,hL⟩,hk,hlv,hsm,hoO,hoL⟩;dsimp only;dsimp only at hk hlv hsm hoO hoL;refine Ze ?_;(refine xL 39 Zb (xL 40 Y9 ?_)<;>refine Zc ?_)
 refine cX ?_ ?_<;>intro hb40
 · first | exact bN hb40|(
 have hkN:lev≤N:=oM;have hlk:=hlv lev (Xg _);have hsm2:(L1 a N lev).length≤402000:=oM;have hlin:=ZnA hA N lev;have hlw:=Zcb (a:=a) (n:=N) lev;refine Ze ?_;(refine xL 10 Za ?_<;>refine Zi ?_)
 (refine xL 43 Zb (xL 44 (YH 201 J8) (xL 45 Zb ?_))<;>refine Zc ?_)
 refine Zs (Jl 202 182 2 rfl) fun _=>?_;refine ZB (ι:={q:Nat×Value×Value×List (List Int)×List Pf//q.1≤(lvP a N lev).length∧q.2.2.2.2.length≤2000∧q.2.1.oneCell'=true∧q.2.2.1.oneCell'=true∧q.2.2.2.1=L1 a N lev++PU a ((lvP a N lev).take q.1)∧q.2.2.2.2=((lvP a N lev).take q.1).flatMap (RA a ((N:Int)-lev))}) (fun k=>⟨[(1,_,_),(2,_,_),(6,_,_),(7,_,_),(9,_,_),(43,_,_),(44,_,_),(8,k.1.2.1, .val k.1.2.1),(10,k.1.2.2.1, .val k.1.2.2.1),(45, .int .i64 k.1.1,pInt k.1.1)],[(2,_,_),(201,_,_),(200,k.1.2.1, .own 36 1 k.1.2.2.2.1.length (k.1.2.2.2.1.map pInts)),(202,k.1.2.2.1, .own 182 2 k.1.2.2.2.2.length (k.1.2.2.2.2.flatMap cPf))]⟩) (fun k=>(lvP a N lev).length-k.1.1) ⟨(0,hO, .slice none 0 0,L1 a N lev,[]),Xd _,Xd _,hoO,rfl,(Xq _).symm,rfl⟩ (fun a w H=>H.weaken ⟨rfl,rfl,rfl,rfl,rfl,rfl,rfl,rfl,rfl,rfl,trivial⟩ ⟨rfl,rfl,rfl,rfl,trivial⟩) ?_;rintro ⟨⟨i,hO2,hX,O,X⟩,hi,hkl,hoO2,hoX,hOE,hXE⟩;dsimp only;dsimp only at hi hkl hoO2 hoX hOE hXE;have hol:=Zb3 a ((lvP a N lev).take i);rw [Xo] at hol;(have hoL2:O.length≤404000:=by rw [hOE,Xc];omega);refine Ze ?_;(refine xL 46 ZP ?_<;>refine Zc ?_)
 refine cX ?_ ?_<;>intro hb46
 · first | exact bN hb46|(
 obtain ⟨x,hx⟩:=Zq (show i<(lvP a N lev).length by omega);have e1:=Yh Zfu (lvP a N lev) i x hx;have e2:=YA Zfu hx;have hxi:=hlin x (Xb hx);have hxw:=hlw x (Xb hx);have hO3:=ZgX (a:=a) hx;have hK3:=H8 (RA a ((N:Int)-lev)) hx;refine Ze ?_;(refine xL 47 (Yi 201 J8) ?_<;>(refine yL 48 (Zu 201 Dq) fun v48 h=>?_;cases h)<;>refine Zx [(.slice none 0 0),(.slice none 0 0)] 2 12 Zex fun h12=>?_<;>refine ZD 12 Dq ?_<;>refine Zi ?_)
 (refine xL 49 Zb (xL 50 (Zd 12 TE) ?_)<;>(refine yL 51 (Zj 12 Zz) fun v51 h=>?_;cases h)<;>(refine cS 52 (cA call113 (HY a x.2 hxi.1)) fun v52 h=>?_;cases h)<;>refine Zc ?_)
 refine cX ?_ ?_<;>intro hb52
 · first | exact bN hb52|(
 rw [US (show WG a x.2=true from hb52)] at hO3;(have hOF:O++[x.1]=L1 a N lev++PU a ((lvP a N lev).take (i+1)):=by rw [hO3,hOE,Xy]);(have hOl2:(O++[x.1]).length=O.length+1:=by rw [Xc];rfl);refine Ze ?_;(refine xL 53 Zb (xL 54 (Zd 12 TD) ?_)<;>(refine yL 55 (Zj 12 Zz) fun v55 h=>?_;cases h)<;>refine ZO (kk:=1) 56 YU fun h56 ho56=>?_<;>(refine Z1 200 56 57 YU fun h57 ho57=>?_;refine Zt (ZE (l:=57) 200 rfl rfl) fun _=>?_;rw [Zey])<;>refine xL 8 Za ?_<;>refine Zi ?_)
 (refine xL 58 (Zd 2 Z3) ?_<;>(refine yL 59 (Zj 2 Zg) fun v59 h=>?_;cases h)<;>refine xL 60 Zb ?_<;>refine Zc ?_)
 refine ZB (ι:={q:Nat×Value×List Pf//q.1≤a.syms.toNat∧q.2.1.oneCell'=true∧q.2.2=X++(List.range q.1).flatMap (LH a ((N:Int)-lev) x)}) (fun k=>⟨[(1,_,_),(2,_,_),(6,_,_),(7,_,_),(8,_,_),(9,_,_),(12,_,_),(43,_,_),(44,_,_),(45,_,_),(59,_,_),(10,k.1.2.1, .val k.1.2.1),(60, .int .i64 k.1.1,pInt k.1.1)],[(2,_,_),(12,_,_),(200,_,_),(201,_,_),(202,k.1.2.1, .own 182 2 k.1.2.2.length (k.1.2.2.flatMap cPf))]⟩) (fun k=>a.syms.toNat-k.1.1) ⟨(0,hX,X),Xd _,hoX,(Xq _).symm⟩ (fun a w H=>H.weaken ⟨rfl,rfl,rfl,rfl,rfl,rfl,rfl,rfl,rfl,rfl,rfl,rfl,rfl,trivial⟩ ⟨rfl,rfl,rfl,rfl,rfl,trivial⟩) ?_;rintro ⟨⟨c,hX2,X2⟩,hc,hoX2,hX2E⟩;dsimp only;dsimp only at hc hoX2 hX2E;have hkc:=OC a ((N:Int)-lev) x c;(have hkl2:X2.length≤2100:=by rw [hX2E,Xc];omega);refine Ze ?_;(refine xL 61 ZP ?_<;>refine Zc ?_)
 refine cX ?_ ?_<;>intro hb61
 · first | exact bN hb61|(
 have hni:=TB hA.mi (c:Int) x.2;(have hnl:(YJ a c x.2).length≤2000:=by have:=OA hA.mi (Kw hA.mi (c:Int) x.2);unfold YJ;omega);have hR:=RU (LH a ((N:Int)-lev) x) c;refine Ze ?_;(refine xL 62 Zb (xL 13 Za ?_)<;>refine Zi ?_)
 (refine xL 63 Zb (xL 64 (Zd 12 TE) ?_)<;>(refine yL 65 (Zj 12 Zz) fun v65 h=>?_;cases h)<;>refine xL 66 Zb ?_<;>(refine cO 67 (cA call112 (Zav a x.2 c hn1 hA.ml hA.mi hxi.1 hxi.2)) fun v67 ho67=>?_;refine Zt (En.freeze (l:=67) (t:=67) rfl rfl) fun _=>?_;rw [ZV _ _ _ rfl])<;>refine xL 68 Zb (xL 69 Zb (xL 70 KD ?_))<;>(refine cO 71 (cA call140 (Zat (YJ a c x.2) (Wp a) ((N:Int)-lev-1) oM (fun s hs=>by have:=hni s hs;omega))) fun v71 ho71=>?_;refine Zt (En.freeze (l:=71) (t:=71) rfl rfl) fun _=>?_;rw [ZV _ _ _ rfl])<;>refine xL 14 Za ?_<;>refine Zi ?_)
 (refine xL 72 Zb (xL 73 (ZR Zp) (xL 74 Yw ?_))<;>refine Zc ?_)
 refine cX ?_ ?_<;>intro hb74
 · first |exact bN hb74|(
 (have hkid:LH a ((N:Int)-lev) x c=[(x.1++[(c:Int)],WA (YJ a c x.2) (Wp a) ((N:Int)-lev-1))]:=by unfold LH;rw [UR oM]);rw [hkid] at hR;refine Ze ?_;(refine xL 75 Zb (xL 76 (Zd 12 TD) ?_)<;>(refine yL 77 (Zj 12 Zz) fun v77 h=>?_;cases h)<;>refine cO 78 (cA call135 (Jw x.1 oM)) fun v78 ho78=>?_<;>refine xL 79 Zb ?_<;>refine ZO (kk:=1) 80 Zn fun h80 ho80=>?_<;>(refine Z1 78 80 81 Zn fun h81 ho81=>?_;refine Zt (En.freeze (l:=81) (t:=81) rfl rfl) fun _=>?_;rw [show PV.own 3 1 (x.1.length+1) (x.1.map pInt++[pInt c])= .own 3 1 (x.1++[(c:Int)]).length ((x.1++[(c:Int)]).map pInt) from PS _ _ _,ZV _ _ _ rfl])<;>refine xL 82 Zb (xL 83 (ZM RV) ?_)<;>refine YD 84 G7 fun h84 ho84=>?_<;>(refine Z1 202 84 85 G7 fun h85 ho85=>?_;refine Zt (ZE (l:=85) 202 rfl rfl) fun _=>?_;refine Zt (ZL (l:=202) rfl (Zfv _ X2 (x.1++[(c:Int)],WA (YJ a c x.2) (Wp a) ((N:Int)-lev-1)))) fun _=>?_)<;>refine xL 10 Za ?_<;>refine Zi ?_)
 (refine xL 86 ZH (xL 60 Zb ?_)<;>refine Zc ?_)
 first
  | (exact Zm (
      ⟨(c+1,h85,X2++[(x.1++[(c:Int)],WA (YJ a c x.2) (Wp a) ((N:Int)-lev-1))]),by dsimp only;omega,ho85,by dsimp only;rw [hX2E,hR,Xy]⟩
      ) (by dsimp only;omega) ⟨rfl,rfl,rfl,rfl,rfl,rfl,rfl,rfl,rfl,rfl,rfl,rfl,rfl,trivial⟩ ⟨rfl,rfl,rfl,rfl,rfl,trivial⟩)
  | (exact Zm (
      ⟨(c+1,hX2,X2),by dsimp only;omega,hoX2,by dsimp only;rw [hX2E,hR]⟩
      ) (by dsimp only;omega) ⟨rfl,rfl,rfl,rfl,rfl,rfl,rfl,rfl,rfl,rfl,rfl,rfl,rfl,trivial⟩ ⟨rfl,rfl,rfl,rfl,rfl,trivial⟩))
 · first |exact bN hb74|(
 (have hkid:LH a ((N:Int)-lev) x c=[]:=by unfold LH;rw [US oM]);rw [hkid,Xq] at hR;refine Ze ?_;(refine xL 86 ZH (xL 60 Zb ?_)<;>refine Zc ?_)
 first
  | (exact Zm (
      ⟨(c+1,h85,X2++[(x.1++[(c:Int)],WA (YJ a c x.2) (Wp a) ((N:Int)-lev-1))]),by dsimp only;omega,ho85,by dsimp only;rw [hX2E,hR,Xy]⟩
      ) (by dsimp only;omega) ⟨rfl,rfl,rfl,rfl,rfl,rfl,rfl,rfl,rfl,rfl,rfl,rfl,rfl,trivial⟩ ⟨rfl,rfl,rfl,rfl,rfl,trivial⟩)
  | (exact Zm (
      ⟨(c+1,hX2,X2),by dsimp only;omega,hoX2,by dsimp only;rw [hX2E,hR]⟩
      ) (by dsimp only;omega) ⟨rfl,rfl,rfl,rfl,rfl,rfl,rfl,rfl,rfl,rfl,rfl,rfl,rfl,trivial⟩ ⟨rfl,rfl,rfl,rfl,rfl,trivial⟩)))
 · first | exact bN hb61|(
 have hcs:c=a.syms.toNat:=oM;subst hcs;(have hXF:X2=((lvP a N lev).take (i+1)).flatMap (RA a ((N:Int)-lev)):=by rw [hX2E,hK3,hXE];rfl);refine Ze ?_;(refine xL 87 Zb (xL 88 (YH 200 Z') (xL 89 Zb (xL 90 (YH 202 J8) (xL 91 ZH (xL 92 Yw (xL 93 Zb ?_))))))<;>(refine bLd 93 (fun hb93=>?_) (fun hb93=>?_)<;>(first|refine kL 94 ?_|refine xL 94 Zb ?_))<;>(first|refine kL 95 ?_|refine xL 95 (YH 200 Z') ?_)<;>(first|refine kL 96 ?_|refine xL 96 Yw ?_)<;>refine xL 97 ZG (xL 98 Zb ?_)<;>(first|refine xL 99 Zb ?_|(refine bLd 98 (fun hb98=>?_) (fun hb98=>?_)<;>(first|refine kL 99 ?_|refine xL 99 Zb ?_)))<;>(first|refine kL 100 ?_|refine xL 100 (YH 202 J8) ?_)<;>(first|refine kL 101 ?_|refine xL 101 Yw ?_)<;>refine xL 102 ZG ?_<;>refine Zc ?_)<;>(
 refine cX ?_ ?_<;>intro hb102
 · first|exact bN hb102|(
 refine Ze ?_;(refine xL 4 Za (xL 5 Za ?_)<;>refine Zc ?_)
 refine Wr (Jp (t:=4) rfl) fun _=>?_;refine Jm (results91) rfl rfl (.inr (.inr (.inl ⟨hok,oM,oM,?_,rfl⟩)));rw [XS];have hfl2:=RB (RA a ((N:Int)-lev)) (lvP a N lev) (i+1);have hsm5:=C9 a N (show lev+1≤N+1 by omega);rw [L3,Xc] at hsm5;have hop5:=Zb4 a (lvP a N lev) (i+1);have hOl:=congrArg List.length hOF;have hXl:=congrArg List.length hXF;simp only [Xc,Xi,XC] at hOl;by_cases hbig:2000<X2.length
 · exact .inl ⟨lev,oM,by rw [lvP];omega⟩
 · refine .inr ?_
   first
    |omega
    |(simp at hb102 hOl;omega))
 · first |exact bN hb102|(
 refine Ze ?_;(refine xL 103 ZH (xL 45 Zb ?_)<;>refine Zc ?_)
 first
  | (exact Zm (
      ⟨(i+1,_,_,O++[x.1],X2),Zf hx,(by dsimp only;first|omega|(simp at hb102;omega)),(by assumption),hoX2,hOF,hXF⟩
      ) (by dsimp only;omega) ⟨rfl,rfl,rfl,rfl,rfl,rfl,rfl,rfl,rfl,rfl,trivial⟩ ⟨rfl,rfl,rfl,rfl,trivial⟩)
  | (exact Zm (
      ⟨(i+1,hO2,hX2,O,X2),Zf hx,(by dsimp only;first|omega|(simp at hb102;omega)),(by assumption),hoX2,hOF,hXF⟩
      ) (by dsimp only;omega) ⟨rfl,rfl,rfl,rfl,rfl,rfl,rfl,rfl,rfl,rfl,trivial⟩ ⟨rfl,rfl,rfl,rfl,trivial⟩)))))
 · first | exact bN hb52|(
 rw [UR (show ¬WG a x.2=true by simpa [WG] using hb52),Xq] at hO3;(have hOF:O=L1 a N lev++PU a ((lvP a N lev).take (i+1)):=by rw [hO3,hOE]);refine Ze ?_;(refine xL 58 (Zd 2 Z3) ?_<;>(refine yL 59 (Zj 2 Zg) fun v59 h=>?_;cases h)<;>refine xL 60 Zb ?_<;>refine Zc ?_)
 refine ZB (ι:={q:Nat×Value×List Pf//q.1≤a.syms.toNat∧q.2.1.oneCell'=true∧q.2.2=X++(List.range q.1).flatMap (LH a ((N:Int)-lev) x)}) (fun k=>⟨[(1,_,_),(2,_,_),(6,_,_),(7,_,_),(8,_,_),(9,_,_),(12,_,_),(43,_,_),(44,_,_),(45,_,_),(59,_,_),(10,k.1.2.1, .val k.1.2.1),(60, .int .i64 k.1.1,pInt k.1.1)],[(2,_,_),(12,_,_),(200,_,_),(201,_,_),(202,k.1.2.1, .own 182 2 k.1.2.2.length (k.1.2.2.flatMap cPf))]⟩) (fun k=>a.syms.toNat-k.1.1) ⟨(0,hX,X),Xd _,hoX,(Xq _).symm⟩ (fun a w H=>H.weaken ⟨rfl,rfl,rfl,rfl,rfl,rfl,rfl,rfl,rfl,rfl,rfl,rfl,rfl,trivial⟩ ⟨rfl,rfl,rfl,rfl,rfl,trivial⟩) ?_;rintro ⟨⟨c,hX2,X2⟩,hc,hoX2,hX2E⟩;dsimp only;dsimp only at hc hoX2 hX2E;have hkc:=OC a ((N:Int)-lev) x c;(have hkl2:X2.length≤2100:=by rw [hX2E,Xc];omega);refine Ze ?_;(refine xL 61 ZP ?_<;>refine Zc ?_)
 refine cX ?_ ?_<;>intro hb61
 · first | exact bN hb61|(
 have hni:=TB hA.mi (c:Int) x.2;(have hnl:(YJ a c x.2).length≤2000:=by have:=OA hA.mi (Kw hA.mi (c:Int) x.2);unfold YJ;omega);have hR:=RU (LH a ((N:Int)-lev) x) c;refine Ze ?_;(refine xL 62 Zb (xL 13 Za ?_)<;>refine Zi ?_)
 (refine xL 63 Zb (xL 64 (Zd 12 TE) ?_)<;>(refine yL 65 (Zj 12 Zz) fun v65 h=>?_;cases h)<;>refine xL 66 Zb ?_<;>(refine cO 67 (cA call112 (Zav a x.2 c hn1 hA.ml hA.mi hxi.1 hxi.2)) fun v67 ho67=>?_;refine Zt (En.freeze (l:=67) (t:=67) rfl rfl) fun _=>?_;rw [ZV _ _ _ rfl])<;>refine xL 68 Zb (xL 69 Zb (xL 70 KD ?_))<;>(refine cO 71 (cA call140 (Zat (YJ a c x.2) (Wp a) ((N:Int)-lev-1) oM (fun s hs=>by have:=hni s hs;omega))) fun v71 ho71=>?_;refine Zt (En.freeze (l:=71) (t:=71) rfl rfl) fun _=>?_;rw [ZV _ _ _ rfl])<;>refine xL 14 Za ?_<;>refine Zi ?_)
 (refine xL 72 Zb (xL 73 (ZR Zp) (xL 74 Yw ?_))<;>refine Zc ?_)
 refine cX ?_ ?_<;>intro hb74
 · first |exact bN hb74|(
 (have hkid:LH a ((N:Int)-lev) x c=[(x.1++[(c:Int)],WA (YJ a c x.2) (Wp a) ((N:Int)-lev-1))]:=by unfold LH;rw [UR oM]);rw [hkid] at hR;refine Ze ?_;(refine xL 75 Zb (xL 76 (Zd 12 TD) ?_)<;>(refine yL 77 (Zj 12 Zz) fun v77 h=>?_;cases h)<;>refine cO 78 (cA call135 (Jw x.1 oM)) fun v78 ho78=>?_<;>refine xL 79 Zb ?_<;>refine ZO (kk:=1) 80 Zn fun h80 ho80=>?_<;>(refine Z1 78 80 81 Zn fun h81 ho81=>?_;refine Zt (En.freeze (l:=81) (t:=81) rfl rfl) fun _=>?_;rw [show PV.own 3 1 (x.1.length+1) (x.1.map pInt++[pInt c])= .own 3 1 (x.1++[(c:Int)]).length ((x.1++[(c:Int)]).map pInt) from PS _ _ _,ZV _ _ _ rfl])<;>refine xL 82 Zb (xL 83 (ZM RV) ?_)<;>refine YD 84 G7 fun h84 ho84=>?_<;>(refine Z1 202 84 85 G7 fun h85 ho85=>?_;refine Zt (ZE (l:=85) 202 rfl rfl) fun _=>?_;refine Zt (ZL (l:=202) rfl (Zfv _ X2 (x.1++[(c:Int)],WA (YJ a c x.2) (Wp a) ((N:Int)-lev-1)))) fun _=>?_)<;>refine xL 10 Za ?_<;>refine Zi ?_)
 (refine xL 86 ZH (xL 60 Zb ?_)<;>refine Zc ?_)
 first
  | (exact Zm (
      ⟨(c+1,h85,X2++[(x.1++[(c:Int)],WA (YJ a c x.2) (Wp a) ((N:Int)-lev-1))]),by dsimp only;omega,ho85,by dsimp only;rw [hX2E,hR,Xy]⟩
      ) (by dsimp only;omega) ⟨rfl,rfl,rfl,rfl,rfl,rfl,rfl,rfl,rfl,rfl,rfl,rfl,rfl,trivial⟩ ⟨rfl,rfl,rfl,rfl,rfl,trivial⟩)
  | (exact Zm (
      ⟨(c+1,hX2,X2),by dsimp only;omega,hoX2,by dsimp only;rw [hX2E,hR]⟩
      ) (by dsimp only;omega) ⟨rfl,rfl,rfl,rfl,rfl,rfl,rfl,rfl,rfl,rfl,rfl,rfl,rfl,trivial⟩ ⟨rfl,rfl,rfl,rfl,rfl,trivial⟩))
 · first |exact bN hb74|(
 (have hkid:LH a ((N:Int)-lev) x c=[]:=by unfold LH;rw [US oM]);rw [hkid,Xq] at hR;refine Ze ?_;(refine xL 86 ZH (xL 60 Zb ?_)<;>refine Zc ?_)
 first
  | (exact Zm (
      ⟨(c+1,h85,X2++[(x.1++[(c:Int)],WA (YJ a c x.2) (Wp a) ((N:Int)-lev-1))]),by dsimp only;omega,ho85,by dsimp only;rw [hX2E,hR,Xy]⟩
      ) (by dsimp only;omega) ⟨rfl,rfl,rfl,rfl,rfl,rfl,rfl,rfl,rfl,rfl,rfl,rfl,rfl,trivial⟩ ⟨rfl,rfl,rfl,rfl,rfl,trivial⟩)
  | (exact Zm (
      ⟨(c+1,hX2,X2),by dsimp only;omega,hoX2,by dsimp only;rw [hX2E,hR]⟩
      ) (by dsimp only;omega) ⟨rfl,rfl,rfl,rfl,rfl,rfl,rfl,rfl,rfl,rfl,rfl,rfl,rfl,trivial⟩ ⟨rfl,rfl,rfl,rfl,rfl,trivial⟩)))
 · first | exact bN hb61|(
 have hcs:c=a.syms.toNat:=oM;subst hcs;(have hXF:X2=((lvP a N lev).take (i+1)).flatMap (RA a ((N:Int)-lev)):=by rw [hX2E,hK3,hXE];rfl);refine Ze ?_;(refine xL 87 Zb (xL 88 (YH 200 Z') (xL 89 Zb (xL 90 (YH 202 J8) (xL 91 ZH (xL 92 Yw (xL 93 Zb ?_))))))<;>(refine bLd 93 (fun hb93=>?_) (fun hb93=>?_)<;>(first|refine kL 94 ?_|refine xL 94 Zb ?_))<;>(first|refine kL 95 ?_|refine xL 95 (YH 200 Z') ?_)<;>(first|refine kL 96 ?_|refine xL 96 Yw ?_)<;>refine xL 97 ZG (xL 98 Zb ?_)<;>(first|refine xL 99 Zb ?_|(refine bLd 98 (fun hb98=>?_) (fun hb98=>?_)<;>(first|refine kL 99 ?_|refine xL 99 Zb ?_)))<;>(first|refine kL 100 ?_|refine xL 100 (YH 202 J8) ?_)<;>(first|refine kL 101 ?_|refine xL 101 Yw ?_)<;>refine xL 102 ZG ?_<;>refine Zc ?_)<;>(
 refine cX ?_ ?_<;>intro hb102
 · first|exact bN hb102|(
 refine Ze ?_;(refine xL 4 Za (xL 5 Za ?_)<;>refine Zc ?_)
 refine Wr (Jp (t:=4) rfl) fun _=>?_;refine Jm (results91) rfl rfl (.inr (.inr (.inl ⟨hok,oM,oM,?_,rfl⟩)));rw [XS];have hfl2:=RB (RA a ((N:Int)-lev)) (lvP a N lev) (i+1);have hsm5:=C9 a N (show lev+1≤N+1 by omega);rw [L3,Xc] at hsm5;have hop5:=Zb4 a (lvP a N lev) (i+1);have hOl:=congrArg List.length hOF;have hXl:=congrArg List.length hXF;simp only [Xc,Xi,XC] at hOl;by_cases hbig:2000<X2.length
 · exact .inl ⟨lev,oM,by rw [lvP];omega⟩
 · refine .inr ?_
   first
    |omega
    |(simp at hb102 hOl;omega))
 · first |exact bN hb102|(
 refine Ze ?_;(refine xL 103 ZH (xL 45 Zb ?_)<;>refine Zc ?_)
 first
  | (exact Zm (
      ⟨(i+1,_,_,O++[x.1],X2),Zf hx,(by dsimp only;first|omega|(simp at hb102;omega)),(by assumption),hoX2,hOF,hXF⟩
      ) (by dsimp only;omega) ⟨rfl,rfl,rfl,rfl,rfl,rfl,rfl,rfl,rfl,rfl,trivial⟩ ⟨rfl,rfl,rfl,rfl,trivial⟩)
  | (exact Zm (
      ⟨(i+1,hO2,hX2,O,X2),Zf hx,(by dsimp only;first|omega|(simp at hb102;omega)),(by assumption),hoX2,hOF,hXF⟩
      ) (by dsimp only;omega) ⟨rfl,rfl,rfl,rfl,rfl,rfl,rfl,rfl,rfl,rfl,trivial⟩ ⟨rfl,rfl,rfl,rfl,trivial⟩))))))
 · first|exact bN hb46|(
 have hil:i=(lvP a N lev).length:=oM;rw [hil,VN] at hOE hXE;(have hOS:O=L1 a N (lev+1):=by rw [L3];exact hOE);have hXS:X=lvP a N (lev+1):=hXE;(have hsm6:(L1 a N (lev+1)).length≤(lev+1)*2000:=by rw [L3,Xc];have:=Zb3 a (lvP a N lev);omega);(have hkl6:(lvP a N (lev+1)).length≤2000:=by rw [←hXS];exact hkl);clear hOE hXE hil;subst hOS hXS;refine Ze ?_;(refine xL 104 Zb (xL 9 Za ?_)<;>refine Zi ?_)
 (refine xL 41 Zb (xL 42 KD (xL 1 Za ?_))<;>refine Zc ?_)
 refine Kn (ZE (l:=201) 203 rfl rfl) fun _=>?_;refine Kn (ZE (l:=202) 201 rfl rfl) fun _=>?_;rw [show ((N:Int)-(lev:Nat)-1)=(N:Int)-((lev+1:Nat):Int) by omega];refine Zm (
  ⟨(lev+1,hO2,hX),by dsimp only;omega,fun j hj=>by
    dsimp only at hj;rcases XD lev j with h9|h9
    · rw [show j=lev+1 by omega];exact hkl6
    · exact hlv j h9,hsm6,hoO2,hoX⟩
  ) (by dsimp only;omega) ⟨rfl,rfl,rfl,rfl,rfl,rfl,trivial⟩ ⟨rfl,rfl,rfl,trivial⟩))
 · first|exact bN hb40|(
 have hkE:lev=N+1:=oM;subst hkE;refine Ze ?_;(refine xL 105 Zb (xL 106 (YH 200 Z') (xL 107 Yw ?_))<;>refine Zc ?_)
 refine cX ?_ ?_<;>intro hb107
 · first|exact bN hb107|(
 refine Ze ?_;(refine xL 4 Za (xL 5 Za ?_)<;>refine Zc ?_)
 refine Wr (Jp (t:=4) rfl) fun _=>?_;exact Jm (results91) rfl rfl (.inr (.inr (.inl ⟨hok,oM,oM, .inr (by rw [XS];omega),rfl⟩))))
 · first|exact bN hb107|(
 refine Ze ?_;(refine xL 108 Zb (xL 4 Za (xL 5 Za ?_))<;>refine Zc ?_)
 refine Wr (En.freeze (l:=200) (t:=4) rfl rfl) fun _=>?_;rw [Zca _ _ _ rfl];refine Jm (results91) rfl rfl (.inr (.inr (.inr ⟨hok,oM,oM,?_,by rw [XS]⟩)));rw [XS];rintro (⟨j,h1,h2⟩|h1)
 · have:=hlv (j+1) oM;omega
 · omega)))))
theorem J9 {n a:Nat} {f f':Nat→Bool} (hf:∀i,i<n→f' i=if i=a then true else f i):(vec n fun i=>ZK (f i)).set (a*1) (ZK true)=vec n fun i=>ZK (f' i):=by
 rw [Xp,PW]
 refine Jz fun i hi=>?_
 rw [hf i hi];split<;>rfl
theorem Kq {α:Type} {n i:Nat} (f:Nat→α) (h:i<n):(vec n f)[i*1]? =some (f i):=by rw [Xp];exact Zax f h
end Go.Proofs.YtgfabnhpllkebaaGreatDoor
