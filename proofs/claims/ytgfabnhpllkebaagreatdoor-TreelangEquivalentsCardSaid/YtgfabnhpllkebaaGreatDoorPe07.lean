/-
  Walks of functions and plain laws of the chapter, as the claim needs them.
-/
import Derived.Test.YtgfabnhpllkebaaGreatDoorPe06
import Derived.Test.YtgfabnhpllkebaaGreatDoorMShelfD
import Derived.Test.YtgfabnhpllkebaaGreatDoorPe02
import Derived.Test.YtgfabnhpllkebaaGreatDoorPe03
import Derived.Test.YtgfabnhpllkebaaGreatDoorPe01
namespace Go.Proofs.YtgfabnhpllkebaaGreatDoor
open Go.RowKit Go.Cb Go.En Tryz
set_option linter.all false
set_option maxRecDepth 100000
theorem G6:FldT prog 196 2 2=true:=by kernel_rfl
theorem Zfb:NoAgg prog 134=true:=by kernel_rfl
theorem Ym:NoAgg prog 139=true:=by kernel_rfl
theorem Wa:NoAgg prog 4=true:=by kernel_rfl
theorem Yo:SlT prog 139 4 1=true:=by kernel_rfl
theorem Wx:(prog.info? 3).map (·.size)=some 1:=by kernel_rfl
def cI (x:Int):List PV:=[pInt x]
theorem Zoo (x:Int):(cI x).length=1:=rfl
theorem ZjM (l:List Int):l.map pInt=l.flatMap cI:=by
 induction l with
 |nil=>rfl
 |cons x l ih=>rw [Xx,Xz,ih];rfl
theorem ZV (e n:Nat) (l:List Int) (hn:n=l.length):share (.own e 1 n (l.map pInt))=pInts l:=by
 subst hn
 rw [share,Yr,XG];rfl
theorem ζB {p:Int→Bool} {l:List Int} {k:Nat} {x:Int} (hx:l[k]? =some x) (h:p x=false):((RZ p l k).map pInt).set (KZ p l k).length (pInt x)=(RZ p l (k+1)).map pInt:=by
 have h1:=ZjL (f:=cI) Zoo hx h
 rw [Xp,←ZjM,←ZjM] at h1
 exact h1
theorem ZjN (f :Nat) (caps:List PV) (p:Int→Bool) (l:List Int) (hl:l.length≤1000000) (hv g:Value) (hc:∀args w,(callFunc f args).run prog w= .ok (.enter f args) w) (hf:∀s∈l,AF prog f (pInt s::caps) (· =ZN (p s))):
 AFh False prog 190 [(0,hv, .val hv),(1,g, .fn f caps)] [(1000,hv, .own 3 1 l.length (l.map pInt))] (fun v q h=>q= .val v∧h=[(1000,v, .own 3 1 (l.filter fun s=> !p s).length ((l.filter fun s=> !p s).map pInt))]):=by
 refine AFh.of_body 42 func190 rfl ntmps190 (Xa rfl) rfl ?_
 intro w0 M0 N0
 have hq:=ZV 3 l.length l rfl
 refine Ze ?_
 (refine xL 4 Za ?_<;>refine Zk ?_)
 (refine xL 8 Zb (xL 9 Zb ?_)<;>(refine cS 10 (cB rfl call154 (Sz f caps p l hc hf) ⟨⟨_,_,rfl,hq▸Zhi (l:=1000) rfl⟩,⟨_,_,rfl,ZeO (x:= .tmp 9) rfl⟩,trivial⟩) fun v10 h=>?_;cases h)<;>refine xL 5 Za ?_<;>refine Zk ?_)
 (refine xL 11 Zb (xL 12 Yf ?_)<;>refine Zc ?_)
 refine cX ?_ ?_<;>intro hb12
 · first|exact bN hb12|(
 refine Ze ?_;(refine xL 13 Zb (xL 4 Za ?_)<;>refine Zc ?_)
 refine Em [(1000,hv,PV.own 3 1 l.length (l.map pInt))] (results190) rfl ⟨rfl,trivial⟩ ⟨rfl,?_⟩;rw [UE.2 fun s hs=>?_];rcases Za3 (p:=p) (l:=l) with ⟨_,h⟩|⟨i0,x0,h,_⟩
 · rw [h s hs];rfl
 · exfalso;omega)
 · first | exact bN hb12|(
 obtain ⟨i0,x0,hi0,hx0,hp0,hn0⟩:=(Za3 (p:=p) (l:=l)).resolve_left fun h=>hb12 h.1;have hlt0:=Zh hx0;(have hk0:KZ p l (i0+1)=l.take i0:=by rw [Tu hx0 hp0,ZhH hn0]);rw [hi0];refine Ze ?_;(refine xL 14 Zb (xL 15 ZK (xL 6 Za ?_))<;>refine Zc ?_)
 refine ZE (ι:={q:Nat×Nat×List PV//q.1≤l.length∧q.2.1=(KZ p l q.1).length∧q.2.2=(RZ p l q.1).map pInt}) (fun k=>⟨[(0,_,_),(1,_,_),(5, .int .i64 k.1.2.1,pInt k.1.2.1),(6, .int .i64 k.1.1,pInt k.1.1)],[(1000,hv, .own 3 1 l.length k.1.2.2)]⟩) (fun k=>l.length-k.1.1) ⟨(i0+1,i0,l.map pInt),hlt0,(by dsimp only;rw [hk0,Xn];omega),(by dsimp only;unfold RZ;rw [hk0,Xn,X5 oM,VF])⟩ (fun a w H=>H.weaken ⟨rfl,rfl,rfl,rfl,trivial⟩ ⟨rfl,trivial⟩) ?_;rintro ⟨⟨k,j,row⟩,hk,hj,hr⟩;dsimp only;dsimp only at hk hj hr;have hle:=Og p l k;have hjl:j≤l.length:=oM;have hjl2:(j:Int)≤1000000:=oM;(have hrl:row.length=l.length:=by rw [hr,Xe,ZjK p l hk]);refine Ze ?_;(refine xL 16 Zb (xL 17 Zb (xL 18 (YH 1000 Zr) (xL 19 ZQ ?_)))<;>refine Zc ?_)
 refine cX ?_ ?_<;>intro hb19
 · first | exact bN hb19|(
 obtain ⟨x,hx⟩:=Zw (show k<l.length by omega);(have e1:row[k*1]? =some (pInt x):=by rw [hr,Xp,Xg,Zmm hx];rfl);(have e3:j<row.length:=by rw [hrl];have:=Zh hx;omega);refine Ze ?_;(refine xL 22 Zb (xL 23 Zb (xL 24 (Yg 1000 Zr) ?_))<;>(refine yL 25 (Zl 1000 Zg) fun v25 h=>?_;cases h)<;>refine xL 7 Za ?_<;>refine Zk ?_)
 (refine xL 26 Zb (xL 27 Zb ?_)<;>(refine cS 28 (GX (f:=f) (ps:=caps) rfl ⟨_,rfl⟩ hc rfl (hf x (Xc hx))) fun v28 h=>?_;cases h)<;>refine xL 29 Z' ?_<;>refine Zc ?_)
 refine cX ?_ ?_<;>intro hb29
 · first |exact bN hb29|(
 refine Ze ?_;(refine xL 30 Zb (xL 31 Zb (xL 32 Zb (xL 33 (Yg 1000 Zr) ?_)))<;>refine YQ 1000 Zg Wx ?_<;>refine Zk ?_)
 (refine xL 34 Zb (xL 35 ZK (xL 5 Za ?_))<;>refine Zk ?_)
 (refine xL 20 Zb (xL 21 ZK (xL 6 Za ?_))<;>refine Zc ?_)
 first
  | (exact Zn (
      ⟨(k+1,j,row),Zh hx,(by dsimp only;rw [Tu hx (by simpa using hb29)];exact hj),(by dsimp only;rw [hr];unfold RZ;rw [Tu hx (by simpa using hb29)])⟩
      ) (by dsimp only;omega) ⟨rfl,rfl,rfl,rfl,trivial⟩ ⟨rfl,trivial⟩)
  | (exact Zn (
      ⟨(k+1,j+1,row.set (j*1) (pInt x)),Zh hx,(by show j+1=(KZ p l (k+1)).length;rw [Ev hx (by simpa using hb29)];simp [hj]),(by show row.set (j*1) (pInt x)=(RZ p l (k+1)).map pInt;rw [hr,hj,Xp];exact ζB hx (by simpa using hb29))⟩
      ) (by dsimp only;omega) ⟨rfl,rfl,rfl,rfl,trivial⟩ ⟨rfl,trivial⟩))
 · first |exact bN hb29|(
 refine Ze ?_;(refine xL 20 Zb (xL 21 ZK (xL 6 Za ?_))<;>refine Zc ?_)
 first
  | (exact Zn (
      ⟨(k+1,j,row),Zh hx,(by dsimp only;rw [Tu hx (by simpa using hb29)];exact hj),(by dsimp only;rw [hr];unfold RZ;rw [Tu hx (by simpa using hb29)])⟩
      ) (by dsimp only;omega) ⟨rfl,rfl,rfl,rfl,trivial⟩ ⟨rfl,trivial⟩)
  | (exact Zn (
      ⟨(k+1,j+1,row.set (j*1) (pInt x)),Zh hx,(by show j+1=(KZ p l (k+1)).length;rw [Ev hx (by simpa using hb29)];simp [hj]),(by show row.set (j*1) (pInt x)=(RZ p l (k+1)).map pInt;rw [hr,hj,Xp];exact ζB hx (by simpa using hb29))⟩
      ) (by dsimp only;omega) ⟨rfl,rfl,rfl,rfl,trivial⟩ ⟨rfl,trivial⟩)))
 · first|exact bN hb19|(
 have hkl:k=l.length:=oM;refine Ze ?_;(refine xL 36 Zb (xL 37 Zb ?_)<;>refine xL 38 (Ti (i:=j) (j:=l.length) 1000 Zr rfl rfl rfl rfl rfl hjl (Xh _)) ?_<;>(refine Zcn 1000 Zo dC rfl rfl rfl rfl rfl hjl ?_;intro cs2 hcs1 hcs2)<;>refine Zk ?_)
 (refine xL 39 Zb (xL 40 Zb ?_)<;>refine xL 41 (Ti (i:=0) (j:=j) 1000 Zr rfl rfl rfl rfl rfl (Xd _) hjl) ?_<;>refine xL 4 Za ?_<;>refine Zc ?_)
 refine YG (Zpe (l:=1000) j rfl hjl) fun _=>?_;refine Em [(1000,slc hv 0 j 1,PV.own 3 1 j (cs2.take (j*1)))] (results190) rfl ⟨rfl,trivial⟩ ⟨rfl,?_⟩;(have hF:(l.filter fun s=> !p s)=KZ p l k:=by unfold KZ;rw [hkl,VI]);rw [hcs2,hr,hF,←hj];congr 4;unfold RZ;rw [Xs,Xp,List.take_left' (by rw [Xe,hj])]))
theorem JE (l:List Int) (hl:l.length≤1000000):AF prog 135 [pInts l] (· = .own 3 1 l.length (l.map pInt)):=by
 refine AF.of_body 8 func135 rfl ntmps135 (Xa rfl) ?_
 intro w0 M0 vs hl hv
 obtain ⟨v0,rfl⟩:=WE hl
 clear hl hv
 have f3:(l.map pInt).length=l.length*1:=by rw [Xe,Xp]
 have f4:(l.map pInt).all En.one=true:=by rw [List.all_map,XA];intro x _;rfl
 refine Ze ?_
 (refine xL 2 Za ?_<;>refine Zk ?_)
 (refine xL 3 Zb ?_<;>(refine yL 4 (Zgk Zr) fun v4 hv4=>?_;rcases hv4 with rfl|⟨rfl,hn0⟩)<;>refine Zc ?_)<;>(
 refine cX ?_ ?_<;>intro hb4
 · first|exact bN hb4|(
 refine Ze ?_;(refine xL 2 Za ?_<;>refine Zc ?_)
 have hl0:l=[]:=XR hn0;subst hl0;refine YG (KT 200 3 1 rfl) fun _=>?_;exact Kk 200 (results135) rfl rfl rfl)
 · first|exact bN hb4|(
 refine Ze ?_;(refine J0 5 Zo fun h5 ho5=>?_<;>refine xL 6 Zb ?_<;>refine W2 5 7 Zo (fun h7 ho7=>?_) f3 f4<;>refine xL 2 Za ?_<;>refine Zc ?_)
 refine Kk 7 (results135) rfl rfl ?_;rw [Xw,XW]))
def ZjO (far:List Int) (n:Int) (s:Int):Bool:=match far[s.toNat]? with
 |some d=>decide (d<0)||decide (n<d)
 |none=>false
def WN (l far:List Int) (n:Int):List Int:=l.filter fun s=> !ZjO far n s
theorem ZjP (far:List Int) (n s:Int) (h0:0≤s) (h1:s<far.length):AF prog 191 [pInt s, .sptr 0 [pInts far], .sptr 0 [pInt n]] (· =ZN (ZjO far n s)):=by
 refine AF.of_body 18 func191 rfl ntmps191 (Xa rfl) ?_
 intro w0 M0 vs hl hv
 obtain ⟨v0,v1,v2,rfl⟩:=Jx hl
 obtain rfl:=hv 0 _ _ rfl rfl
 clear hl hv
 obtain ⟨d,hd⟩:=Zw (show s.toNat<far.length by omega)
 have e1:(far.map pInt)[s.toNat*1]? =some (pInt d):=by rw [Xp,Xg,hd];rfl
 refine Ze ?_
 (refine xL 4 Za ?_<;>refine Zc ?_)
 (refine ZZ (fun i=>([]:List Nat).elem i) [] kR ?_<;>(refine yD 0 5 rfl (Ya Zy) fun v5 h=>?_;cases h)<;>refine xE 1 6 rfl Zb ?_<;>refine xE 2 7 rfl (Si Zr) ?_<;>(refine yE 3 8 rfl (Ya Zg) fun v8 h=>?_;cases h)<;>refine xE 4 9 rfl ZQ ?_<;>refine xE 5 10 rfl Zb ?_<;>(refine bDd 10 (fun hb10=>?_) (fun hb10=>?_)<;>(first|refine kD 6 11 rfl ?_|(refine yD 6 11 rfl (Ya Zy) fun v11 h=>?_;cases h)))<;>(first|refine kD 7 12 rfl ?_|refine xD 7 12 rfl Zb ?_)<;>(first|refine kD 8 13 rfl ?_|refine xD 8 13 rfl (Si Zr) ?_)<;>(first|refine kD 9 14 rfl ?_|(refine yD 9 14 rfl (Ya Zg) fun v14 h=>?_;cases h))<;>(first|refine kD 10 15 rfl ?_|(refine yD 10 15 rfl (Ya Zg) fun v15 h=>?_;cases h))<;>(first|refine kD 11 16 rfl ?_|refine xD 11 16 rfl Yz ?_)<;>refine xE 12 17 rfl ZG ?_<;>refine xE 13 4 rfl Za ?_<;>refine YC kR (nav ?_)<;>try dsimp only)<;>(
 refine ZA (results191) rfl ?_;unfold ZjO;rw [hd];show _=ZN (decide (d<0)||decide (n<d))
 first
  |(rw [UR hb10];rfl)
  |(rw [US hb10];rfl))
theorem Za4 (l far:List Int) (n:Int) (hl:l.length≤1000000) (hs:∀s∈l,0≤s∧s<far.length):AF prog 140 [pInts l,pInts far,pInt n] (· = .own 3 1 (WN l far n).length ((WN l far n).map pInt)):=by
 refine AF.of_body 11 func140 rfl ntmps140 (Xa rfl) ?_
 intro w0 M0 vs hl hv
 obtain ⟨v0,v1,v2,rfl⟩:=Jx hl
 obtain rfl:=hv 2 _ _ rfl rfl
 clear hl hv
 refine Ze ?_
 (refine Zi8 4 fun h4=>?_<;>refine Zi8 5 fun h5=>?_<;>refine xL 6 Za ?_<;>refine Zc ?_)
 refine Zq (HO (l:=4) (t:=4) (j:=0) rfl Nat.one_pos rfl) fun _=>?_
 refine Zq (HO (l:=5) (t:=5) (j:=0) rfl Nat.one_pos rfl) fun _=>?_
 (refine Zt ?_<;>refine xL 7 Zb ?_<;>refine cO 8 (cA call135 (JE l hl)) fun v8 ho8=>?_<;>refine xL 9 ZeS ?_<;>(refine Zu (ZD (l:=8) 1000 rfl rfl) fun _=>?_;refine WY [(1000,_,_)] ⟨rfl,trivial⟩ ?_;refine J3 [] 10 (call190) (ZjN 191 [.sptr 0 [pInts far], .sptr 0 [pInt n]] (ZjO far n) l hl v8 _ (call191) (fun s hm=>ZjP far n s (hs s hm).1 (hs s hm).2)) ?_;rintro v10 _ _ ⟨rfl,rfl⟩)<;>refine xL 6 Za ?_<;>refine Zc ?_)
 exact Kk 1000 (results140) rfl rfl rfl
def movesOf (a:Aut) (s:Nat):List Mv:=a.moves.filter fun m=>decide (m.src=(s:Int))
def JS (a:Aut) (s:Int):Bool:=a.fin.any fun t=>decide (t=s)
def Za5 (a:Aut):PV:= .sl a.n.toNat ((List.range a.n.toNat).map fun s=>pMvs (movesOf a s))
def ZjQ (a:Aut):PV:= .sl a.n.toNat ((List.range a.n.toNat).map fun s=>ZN (JS a (s:Nat)))
def pGr (a:Aut):PV:= .sptr 0 [pInt a.syms,Za5 a,ZjQ a]
theorem Lq {N k:Nat} (h:k<N) (f:Nat→PV):((List.range N).map f)[k]? =some (f k):=by
 rw [Xg,VJ h];rfl
theorem ZcB (a:Aut) (s:Int) (h0:0≤s) (h1:s<a.n):AF prog 157 [pInt s, .sptr 0 [pGr a]] (· =ZN (JS a s)):=by
 refine AF.of_body 11 func157 rfl ntmps157 (Xa rfl) ?_
 intro w0 M0 vs hl hv
 obtain ⟨v0,v1,rfl⟩:=YX hl
 obtain rfl:=hv 0 _ _ rfl rfl
 clear hl hv
 have e1:((List.range a.n.toNat).map fun s=>ZN (JS a (s:Nat)))[s.toNat*1]? =some (ZN (JS a s)):=by rw [Xp,Lq oM];rw [show ((s.toNat:Nat):Int)=s by omega]
 have e2:s.toNat<a.n.toNat:=oM
 refine Ze ?_
 (refine xL 3 Za ?_<;>refine Zk ?_)
 ((refine yL 4 (Ya Zfb) fun v4 h=>?_;cases h)<;>refine xL 5 Pi (xL 6 (Jk G6) ?_)<;>(refine yL 7 (Ya Ym) fun v7 h=>?_;cases h)<;>refine xL 8 Zb (xL 9 (Si Yo) ?_)<;>(refine yL 10 (Ya Wa) fun v10 h=>?_;cases h)<;>refine xL 3 Za ?_<;>refine Zc ?_)
 exact ZA results157 rfl rfl
theorem Ey (a:Aut) (l:List Int) (hs:∀s∈l,0≤s∧s<a.n):AF prog 113 [pGr a,pInts l] (· =ZN (l.any (JS a))):=by
 refine AF.of_body 8 func113 rfl ntmps113 (Xa rfl) ?_
 intro w0 M0 vs hl hv
 obtain ⟨v0,v1,rfl⟩:=YX hl
 clear hl hv
 refine Ze ?_
 (refine Zi8 2 fun h2=>?_<;>refine xL 4 Za ?_<;>refine Zc ?_)
 refine Zq (HO (l:=2) (t:=2) (j:=0) rfl Nat.one_pos rfl) fun _=>?_
 (refine Zt ?_<;>refine xL 5 Zb (xL 6 ZeS ?_)<;>(refine cS 7 (cA call108 (P6 157 [.sptr 0 [pGr a]] (JS a) l (call157) (fun s hm=>ZcB a s (hs s hm).1 (hs s hm).2))) fun v7 h=>?_;cases h)<;>refine xL 4 Za ?_<;>refine Zc ?_)
 exact ZA results113 rfl rfl
theorem Ez:MpT prog 197 3 4 (.int .i64) (.bool false):=⟨underlying197,underlying3, .inr ⟨_,rfl⟩,by show ZeroT _ _ _;unfold ZeroT;kernel_rfl⟩
theorem Pm:NoAgg prog 197=true:=by kernel_rfl
theorem Wo:(prog.info? 36).map (·.size)=some 1:=by kernel_rfl
def TV (out:List Int):List (Int×Value):=out.map fun s=>(s, .bool true)
theorem ZjR (out:List Int) (s:Int):(Kt (ikv (TV out)) (.int .i64 s)).getD (.bool false)= .bool (out.elem s):=by
 rw [Zcb]
 induction out with
 |nil=>rfl
 | cons x l ih=>
   unfold TV at ih ⊢;rw [Xx,GC,List.elem_cons];by_cases h:s=x
   · subst h;simp
   · (have h1:(s==x)=false:=by simpa using h);rw [h1];simp [h,Ne.symm h];simpa using ih
theorem ZjS {out:List Int} {s:Int} (h:out.elem s=false):Jg (ikv (TV out)) (.int .i64 s) (.bool true)=ikv (TV (out++[s])):=by
 rw [Zcc]
 congr 1
 induction out with
 |nil=>rfl
 | cons x l ih=>
   rw [List.elem_cons] at h;have h1:(s==x)=false:=by cases h2:(s==x)<;>simp_all
   have h2:l.elem s=false:=by simp_all
   have h3:¬s=x:=by simpa using h1
   unfold TV at ih ⊢;rw [Xx,Ec];simp [h3,Ne.symm h3];simpa using ih h2
def GZ (out:List Int) (s:Int):List Int:=if out.elem s then out else out++[s]
def clH (h5 h6 m r:Value) (out:List Int):List (Nat×Ent):=[(1001,h5, .own 197 1 1 [.val m]),(1002,h6, .own 36 1 1 [.val r]),(1003,m, .omap (ikv (TV out))),(1004,r, .own 3 1 out.length (out.map pInt))]
theorem DZ (s:Int) (h5 h6 m r:Value) (out:List Int) (hl:out.length≤1000000) (hm:m.oneCell'=true) (hr:r.oneCell'=true):AFh False prog 155 [(0, .int .i64 s,pInt s),(1,padd (sbase h5) 0, .val (padd (sbase h5) 0)),(2,padd (sbase h6) 0, .val (padd (sbase h6) 0))]
 (clH h5 h6 m r out) (fun v q h=>q= .val v∧∃r':Value,r'.oneCell'=true∧h=clH h5 h6 m r' (GZ out s)):=by
 have hu:=ZjR out s
 refine AFh.of_body 14 func155 rfl ntmps155 (Xa rfl) rfl ?_
 intro w0 M0 N0
 refine Ze ?_
 ((refine yL 4 (Zl 1001 Pm) fun v4 h=>?_;cases h)<;>refine xL 5 Zb (xL 6 (P1 1003 Ez) (xL 7 Z' ?_))<;>refine Zc ?_)
 refine cX ?_ ?_<;>intro hb7
 · first |exact bN hb7|(
 (have hn:out.elem s=false:=by simpa using hb7);have hp:=ZjS hn;refine Ze ?_;((refine yL 8 (Zl 1001 Pm) fun v8 h=>?_;cases h)<;>refine xL 9 Zb ?_<;>(refine GU 1003 Ez ?_;rw [hp])<;>refine Zk ?_)
 ((refine yL 10 (Zl 1002 Zy) fun v10 h=>?_;cases h)<;>refine xL 11 Zb ?_<;>refine ZM (kk:=1) 12 Zo fun h12 ho12=>?_<;>refine ZY 1004 12 13 Zo fun h13 ho13=>?_<;>refine YQ 1002 Zy Wo ?_<;>refine Zc ?_)
 first
  | (refine Kn (ZD (l:=13) 1004 rfl rfl) fun _=>?_
     refine SA (clH h5 h6 m _ (out++[s])) (results155) ⟨rfl,rfl,rfl,?_,trivial⟩ ⟨rfl,_,ho13,?_⟩
     · rw [Xs,Xb];rfl
     · unfold GZ;rw [hn];rfl)
  | (refine SA (clH h5 h6 m r out) (results155) ⟨rfl,rfl,rfl,rfl,trivial⟩ ⟨rfl,r,hr,?_⟩
     unfold GZ;rw [UU (by simpa using hb7)]))
 · first |exact bN hb7|(
 refine nav ?_
 first
  | (refine Kn (ZD (l:=13) 1004 rfl rfl) fun _=>?_
     refine SA (clH h5 h6 m _ (out++[s])) (results155) ⟨rfl,rfl,rfl,?_,trivial⟩ ⟨rfl,_,ho13,?_⟩
     · rw [Xs,Xb];rfl
     · unfold GZ;rw [hn];rfl)
  | (refine SA (clH h5 h6 m r out) (results155) ⟨rfl,rfl,rfl,rfl,trivial⟩ ⟨rfl,r,hr,?_⟩
     unfold GZ;rw [UU (by simpa using hb7)]))
theorem Ja:FldT prog 196 1 1=true:=by kernel_rfl
theorem Gd:NoAgg prog 194=true:=by kernel_rfl
theorem Ge:SlT prog 194 37 1=true:=by kernel_rfl
theorem Zfc:(prog.info? 197).map (·.size)=some 1:=by kernel_rfl
theorem Zfd:ZeroT prog 197 (.map none):=by unfold ZeroT;kernel_rfl
theorem ZhI:ZeroT prog 36 (.slice none 0 0):=by unfold ZeroT;kernel_rfl
theorem nodup_len:∀(n:Nat) (L:List Int),L.Nodup→(∀s∈L,0≤s∧s<n)→L.length≤n
 |0,[],_,_=>Xh _
 |0,x::_,_,h=>by have:=h x (Xm ..);omega
 | n +1,L,hn,h=>by
   have h1:=nodup_len n (L.erase (n:Int)) (hn.erase _) fun s hs=>by
    have h2:=(hn.mem_erase_iff).1 hs;have h3:=h s h2.2;have:=h2.1;omega
   have h2:=List.length_erase (a:=(n:Int)) (l:=L);split at h2<;>omega
def OutOk (n:Int) (out:List Int):Prop:=out.Nodup∧∀s∈out,0≤s∧s<n
theorem OutOk.len {n:Int} {out:List Int} (h:OutOk n out):out.length≤n.toNat:=nodup_len _ _ h.1 fun s hs=>by have:=h.2 s hs;omega
theorem OutOk.add {n:Int} {out:List Int} {s:Int} (h:OutOk n out) (hs:0≤s∧s<n):OutOk n (GZ out s):=by
 unfold GZ
 split
 · exact h
 · rename_i h1;refine ⟨?_,fun t ht=>?_⟩
   · rw [VE];refine ⟨h.1,sM,fun a ha b hb=>?_⟩;simp only [Xi] at hb;subst hb;intro e;subst e;exact h1 (by simpa using ha)
   · rw [Xq,Xi] at ht;rcases ht with ht|rfl
     · exact h.2 t ht
     · exact hs
def Wh (l:List Int) (out:List Int):List Int:=l.foldl GZ out
theorem OutOk.all {n:Int}:∀(l:List Int) {out:List Int},OutOk n out→(∀s∈l,0≤s∧s<n)→OutOk n (Wh l out)
 |[],_,h,_=>h
 |x::l,_,h,hl=>OutOk.all l (h.add (hl x (Xm ..))) fun s hs=>hl s (Xo _ hs)
theorem ZcC {l:List Int} {k:Nat} {x:Int} (h:l[k]? =some x) (out:List Int):Wh (l.take (k+1)) out=GZ (Wh (l.take k) out) x:=by
 unfold Wh;rw [ZR h,VH];rfl
def WT (ms:List Mv):List Int:=(ms.filter fun m=>decide (m.sym= -1)).map (·.dst)
theorem Zfe {ms:List Mv} {k:Nat} {m:Mv} (h:ms[k]? =some m) (hs:m.sym= -1):WT (ms.take (k+1))=WT (ms.take k)++[m.dst]:=by
 unfold WT;rw [ZR h,XV,Xs];simp [hs]
theorem ζC {ms:List Mv} {k:Nat} {m:Mv} (h:ms[k]? =some m) (hs:¬m.sym= -1):WT (ms.take (k+1))=WT (ms.take k):=by
 unfold WT;rw [ZR h,XV,Xs];simp [hs]
def Pn (a:Aut) (out:List Int) (i:Nat):List Int:=match out[i]? with
 |some s=>Wh (WT (movesOf a s.toNat)) out
 |none=>out
def WK (a:Aut) (l:List Int):Nat→List Int
 |0=>Wh l []
 |i+1=>Pn a (WK a l i) i
def Y3 (a:Aut) (l:List Int):List Int:=(WK a l a.n.toNat).mergeSort fun x y=>decide (x≤y)
def Td (a:Aut):Prop:=∀m∈a.moves,0≤m.dst∧m.dst<a.n
theorem ζD {a:Aut} (h:Td a) (s:Nat):∀t∈WT (movesOf a s),0≤t∧t<a.n:=fun t ht=>by
 unfold WT movesOf at ht
 simp only [Xl,X0] at ht
 obtain ⟨m,⟨⟨h1,_⟩,_⟩,rfl⟩:=ht
 exact h m h1
theorem TW {a:Aut} {l:List Int} (h:Td a) (hl:∀s∈l,0≤s∧s<a.n):∀i,OutOk a.n (WK a l i)
 |0=>OutOk.all l ⟨Vc,sM⟩ hl
 | i+1=>by
   rw [WK,Pn];split
   · exact OutOk.all _ (TW h hl i) (ζD h _)
   · exact TW h hl i
theorem ζE {a:Aut} {l:List Int} {i:Nat} (h:(WK a l i).length≤i):∀j,WK a l (i+j)=WK a l i
 |0=>rfl
 | j+1=>by
   rw [←X3,WK,ζE h j,Pn,XL oM]
theorem ZcD {a:Aut} {l:List Int} {i n:Nat} (h:(WK a l i).length≤i) (hi:i≤n):WK a l n=WK a l i:=by
 have:=ζE h (n-i)
 rwa [show i+(n-i)=n by omega] at this
theorem Zmn {ms:List Mv} {k:Nat} {m:Mv} (h:ms[k]? =some m) (hs:m.sym= -1) (out:List Int):GZ (Wh (WT (ms.take k)) out) m.dst=Wh (WT (ms.take (k+1))) out:=by
 rw [Zfe h hs];unfold Wh;rw [VH];rfl
theorem ZjT {a:Aut} (h:Td a) (s k:Nat):∀t∈WT ((movesOf a s).take k),0≤t∧t<a.n:=fun t ht=>by
 refine ζD h s t ?_
 unfold WT at ht ⊢
 simp only [Xl,X0] at ht ⊢
 obtain ⟨m,⟨h1,h2⟩,h3⟩:=ht
 exact ⟨m,⟨VK h1,h2⟩,h3⟩
theorem Zff:ZnG prog 156:=fun blk cap zs w hH hb hn=>Tryz.slices_Sort_int blk 0 cap zs w hH hb hn
theorem ZcE:Eo prog 156:=fun p cap w=>Tryz.slices_Sort_int_none p cap w
set_option maxHeartbeats 2000000 in
theorem Po (a : Aut) (l:List Int) (hn:a.n≤2000) (hm:Td a) (hl:∀s∈l,0≤s∧s<a.n):AF prog 111 [pGr a,pInts l] (· = .own 3 1 (Y3 a l).length ((Y3 a l).map pInt)):=by
 refine AF.of_body 57 func111 rfl ntmps111 (Xa rfl) ?_
 intro w0 M0 vs hl hv
 obtain ⟨v0,v1,rfl⟩:=YX hl
 clear hl hv
 refine Wm 1 rfl fun hlen=>?_
 refine Ze ?_
 (refine xL 4 Za ?_<;>refine Zk ?_)
 (refine Gw 13 fun h13 ho13=>?_<;>refine Zv [(.map none)] 1 5 Zfd fun h5=>?_<;>refine YQ 5 Pm Zfc ?_<;>refine Zk ?_)
 (refine Zv [(.slice none 0 0)] 1 6 ZhI fun h6=>?_<;>refine Zk ?_)
 (refine xL 14 ZeS (xL 7 Za ?_)<;>refine Zc ?_)
 refine Zq (KT 200 3 1 rfl) fun _=>?_
 refine Zq (ZD (l:=5) 1001 rfl rfl) fun _=>?_
 refine Zq (ZD (l:=6) 1002 rfl rfl) fun _=>?_
 refine Zq (ZD (l:=13) 1003 rfl rfl) fun _=>?_
 refine Zq (ZD (l:=200) 1004 rfl rfl) fun _=>?_
 (refine Zt ?_<;>refine xL 15 Zb (xL 16 (ZW Zr) (xL 17 Zb ?_))<;>refine Zc ?_)
 refine ZE (ι:={q:Nat×Value//q.1≤l.length∧q.2.oneCell'=true}) (fun k=>⟨[(0,_,_),(5,_,_),(6,_,_),(7,_,_),(15,_,_),(16,_,_),(17, .int .i64 k.1.1,pInt k.1.1)],[(1001,h5, .own 197 1 1 [.val h13]),(1002,h6, .own 36 1 1 [.val k.1.2]),(1003,h13, .omap (ikv (TV (Wh (l.take k.1.1) [])))),(1004,k.1.2, .own 3 1 (Wh (l.take k.1.1) []).length ((Wh (l.take k.1.1) []).map pInt))]⟩) (fun k=>l.length-k.1.1) ⟨(0, .slice none 0 0),Xd _,rfl⟩ (fun a w H=>H.weaken ⟨rfl,rfl,rfl,rfl,rfl,rfl,rfl,trivial⟩ ⟨rfl,rfl,rfl,rfl,trivial⟩) ?_
 rintro ⟨⟨k,r⟩,hk,hr⟩
 dsimp only
 dsimp only at hk hr
 have hok:OutOk a.n (Wh (l.take k) []):=OutOk.all _ ⟨Vc,sM⟩ (fun s hs=>hl s (VK hs))
 have hol:(Wh (l.take k) []).length≤1000000:=by have:=hok.len;omega
 refine Ze ?_
 (refine xL 18 ZQ ?_<;>refine Zc ?_)
 refine cX ?_ ?_<;>intro hb18
 · first|exact bN hb18|(
 obtain ⟨x,hx⟩:=Zw (show k<l.length by omega);have e1:=Yb (f:=pInt) hx;refine Ze ?_;(refine xL 19 (ZH Zr) ?_<;>(refine yL 20 (Ya Zg) fun v20 h=>?_;cases h)<;>refine xL 9 Za ?_<;>refine Zk ?_)
 (refine xL 21 Zb (xL 22 Zb ?_)<;>(refine WY (clH h5 h6 h13 r (Wh (l.take k) [])) ⟨rfl,rfl,rfl,rfl,trivial⟩ ?_;refine Zjm [] 23 (call155) (DZ x h5 h6 h13 r (Wh (l.take k) []) hol ho13 hr) ?_;rintro v23 _ _ ⟨rfl,r2,hr2,rfl⟩;rw [←ZcC hx])<;>refine Zk ?_)
 (refine xL 24 ZK (xL 17 Zb ?_)<;>refine Zc ?_)
 refine Zn (
  ⟨(k+1,r2),Zh hx,hr2⟩
  ) (by dsimp only;omega) ⟨rfl,rfl,rfl,rfl,rfl,rfl,rfl,trivial⟩ ⟨rfl,rfl,rfl,rfl,trivial⟩)
 · first | exact bN hb18|(
 rw [show Wh (l.take k) []=WK a l 0 by rw [Xj oM];rfl];refine Ze ?_;(refine xL 10 Za ?_<;>refine Zc ?_)
 refine ZE (ι:={q:Nat×Value//q.1≤a.n.toNat∧q.2.oneCell'=true}) (fun k=>⟨[(0,_,_),(5,_,_),(6,_,_),(7,_,_),(10, .int .i64 k.1.1,pInt k.1.1)],[(1001,h5, .own 197 1 1 [.val h13]),(1002,h6, .own 36 1 1 [.val k.1.2]),(1003,h13, .omap (ikv (TV (WK a l k.1.1)))),(1004,k.1.2, .own 3 1 (WK a l k.1.1).length ((WK a l k.1.1).map pInt))]⟩) (fun k=>a.n.toNat-k.1.1) ⟨(0,r),Xd _,hr⟩ (fun a w H=>H.weaken ⟨rfl,rfl,rfl,rfl,rfl,trivial⟩ ⟨rfl,rfl,rfl,rfl,trivial⟩) ?_;rintro ⟨⟨i,r3⟩,hi,hr3⟩;dsimp only;dsimp only at hi hr3;have hok3:=TW hm hl i;have hlen3:=hok3.len;refine Ze ?_;(refine xL 25 Zb ?_<;>(refine yL 26 (Zl 1002 Zy) fun v26 h=>?_;cases h)<;>refine xL 27 (YH 1004 Zr) (xL 28 ZQ ?_)<;>refine Zc ?_)
 refine cX ?_ ?_<;>intro hb28
 · first | exact bN hb28|(
 obtain ⟨s,hs⟩:=Zw (show i<(WK a l i).length by omega);have hsr:=hok3.2 s (Xc hs);have e1:=Yb (f:=pInt) hs;(have e2:((List.range a.n.toNat).map fun s=>pMvs (movesOf a s))[s.toNat*1]? =some (pMvs (movesOf a s.toNat)):=by rw [Xp,Lq oM]);have e2':s.toNat<a.n.toNat:=oM;refine nav ?_;(refine ZZ (fun i=>([]:List Nat).elem i) [1001,1002,1003,1004] kR ?_<;>refine xD 0 31 rfl Zb ?_<;>refine xD 1 32 rfl Pi ?_<;>refine xD 2 33 rfl (Jk Ja) ?_<;>(refine yD 3 34 rfl (Ya Gd) fun v34 h=>?_;cases h)<;>(refine yD 4 35 rfl (Zl 1002 Zy) fun v35 h=>?_;cases h)<;>refine xD 5 36 rfl Zb ?_<;>refine xD 6 37 rfl (Yg 1004 Zr) ?_<;>(refine yD 7 38 rfl (Zl 1004 Zg) fun v38 h=>?_;cases h)<;>refine xD 8 39 rfl (Si Ge) ?_<;>(refine yD 9 40 rfl (Ya ZC) fun v40 h=>?_;cases h)<;>refine xD 10 41 rfl (ZW ZL) ?_<;>refine xE 11 42 rfl Zb ?_<;>refine YC kR (nav ?_)<;>try dsimp only)
 refine Wm 40 rfl fun hlen40=>?_;refine ZE (ι:={q:Nat×Value//q.1≤(movesOf a s.toNat).length∧q.2.oneCell'=true}) (fun k=>⟨[(0,_,_),(5,_,_),(6,_,_),(7,_,_),(10,_,_),(40,_,_),(41,_,_),(42, .int .i64 k.1.1,pInt k.1.1)],[(1001,h5, .own 197 1 1 [.val h13]),(1002,h6, .own 36 1 1 [.val k.1.2]),(1003,h13, .omap (ikv (TV (Wh (WT ((movesOf a s.toNat).take k.1.1)) (WK a l i))))),(1004,k.1.2, .own 3 1 (Wh (WT ((movesOf a s.toNat).take k.1.1)) (WK a l i)).length ((Wh (WT ((movesOf a s.toNat).take k.1.1)) (WK a l i)).map pInt))]⟩) (fun k=>(movesOf a s.toNat).length-k.1.1) ⟨(0,r3),Xd _,hr3⟩ (fun a w H=>H.weaken ⟨rfl,rfl,rfl,rfl,rfl,rfl,rfl,rfl,trivial⟩ ⟨rfl,rfl,rfl,rfl,trivial⟩) ?_;rintro ⟨⟨k,r4⟩,hk4,hr4⟩;dsimp only;dsimp only at hk4 hr4;have hok4:OutOk a.n (Wh (WT ((movesOf a s.toNat).take k)) (WK a l i)):=OutOk.all _ hok3 (ZjT hm _ _);(have hol4:(Wh (WT ((movesOf a s.toNat).take k)) (WK a l i)).length≤1000000:=by have:=hok4.len;omega);refine Ze ?_;(refine xL 43 ZQ ?_<;>refine Zc ?_)
 refine cX ?_ ?_<;>intro hb43
 · first | exact bN hb43|(
 obtain ⟨mv,hmv⟩:=Zw (show k<(movesOf a s.toNat).length by omega);have e3:=Yt Z5 (movesOf a s.toNat) k mv hmv;have e4:=YV Z5 hmv;refine Ze ?_;(refine xL 44 (ZH ZL) ?_<;>(refine yL 45 (WA Z3) fun v45 h=>?_;cases h)<;>refine Zv [(.int .i64 0),(.int .i64 0),(.int .i64 0)] 3 12 Ko fun h12=>?_<;>refine Zz 12 Z3 ?_<;>refine Zk ?_)
 (refine xL 46 (Zd 12 Yp) ?_<;>(refine yL 47 (Zl 12 Zg) fun v47 h=>?_;cases h)<;>refine xL 48 Yf ?_<;>refine Zc ?_)
 refine cX ?_ ?_<;>intro hb48
 · first |exact bN hb48|(
 refine Ze ?_;(refine xL 49 Zb (xL 50 (Zd 12 Yi) ?_)<;>(refine yL 51 (Zl 12 Zg) fun v51 h=>?_;cases h)<;>(refine WY (clH h5 h6 h13 r4 (Wh (WT ((movesOf a s.toNat).take k)) (WK a l i))) ⟨rfl,rfl,rfl,rfl,trivial⟩ ?_;refine Zjm [] 52 (call155) (DZ mv.dst h5 h6 h13 r4 (Wh (WT ((movesOf a s.toNat).take k)) (WK a l i)) hol4 ho13 hr4) ?_;rintro v52 _ _ ⟨rfl,r5,hr5,rfl⟩;rw [Zmn hmv hb48])<;>refine Zk ?_)
 (refine xL 53 ZK (xL 42 Zb ?_)<;>refine Zc ?_)
 try rw [←ζC hmv (by assumption)]
 first
  | (exact Zn (
      ⟨(k+1,r5),Zh hmv,hr5⟩
      ) (by dsimp only;omega) ⟨rfl,rfl,rfl,rfl,rfl,rfl,rfl,rfl,trivial⟩ ⟨rfl,rfl,rfl,rfl,trivial⟩)
  | (exact Zn (
      ⟨(k+1,r4),Zh hmv,hr4⟩
      ) (by dsimp only;omega) ⟨rfl,rfl,rfl,rfl,rfl,rfl,rfl,rfl,trivial⟩ ⟨rfl,rfl,rfl,rfl,trivial⟩))
 · first |exact bN hb48|(
 refine Ze ?_;(refine xL 53 ZK (xL 42 Zb ?_)<;>refine Zc ?_)
 try rw [←ζC hmv (by assumption)]
 first
  | (exact Zn (
      ⟨(k+1,r5),Zh hmv,hr5⟩
      ) (by dsimp only;omega) ⟨rfl,rfl,rfl,rfl,rfl,rfl,rfl,rfl,trivial⟩ ⟨rfl,rfl,rfl,rfl,trivial⟩)
  | (exact Zn (
      ⟨(k+1,r4),Zh hmv,hr4⟩
      ) (by dsimp only;omega) ⟨rfl,rfl,rfl,rfl,rfl,rfl,rfl,rfl,trivial⟩ ⟨rfl,rfl,rfl,rfl,trivial⟩)))
 · first|exact bN hb43|(
 rw [show Wh (WT ((movesOf a s.toNat).take k)) (WK a l i)=WK a l (i+1) by rw [WK,Pn,hs,Xj oM]];refine Ze ?_;(refine xL 29 Zb (xL 30 ZK (xL 10 Za ?_))<;>refine Zc ?_)
 refine Zn (
  ⟨(i+1,r4),by dsimp only;omega,hr4⟩
  ) (by dsimp only;omega) ⟨rfl,rfl,rfl,rfl,rfl,trivial⟩ ⟨rfl,rfl,rfl,rfl,trivial⟩))
 · first|exact bN hb28|(
 have hE:WK a l a.n.toNat=WK a l i:=ZcD oM hi;refine Ze ?_;((refine yL 54 (Zl 1002 Zy) fun v54 h=>?_;cases h)<;>(rcases Vb (WK a l i).length with h0|h0<;>first|(refine Zl6 (zs:=WK a l i) 1004 Zff (call156) ?_ h0)|(rw [XR h0];refine Ep 1004 ZcE (call156) ?_))<;>refine Zc ?_)<;>(
 (refine Zt ?_<;>(refine yL 56 (Zl 1002 Zy) fun v56 h=>?_;cases h)<;>refine xL 4 Za ?_<;>refine Zc ?_)
 refine Kk 1004 (results111) rfl rfl ?_;unfold Y3;rw [hE,UC]
 all_goals first
  |rfl
  |(rw [XR h0,List.mergeSort_nil]))))
def JF (c:Int) (ms:List Mv):List Int:=(ms.filter fun m=>decide (m.sym=c)).map (·.dst)
theorem ZhJ {c:Int} {ms:List Mv} {k:Nat} {m:Mv} (h:ms[k]? =some m) (hs:m.sym=c):JF c (ms.take (k+1))=JF c (ms.take k)++[m.dst]:=by
 unfold JF;rw [ZR h,XV,Xs];simp [hs]
theorem ZcF {c:Int} {ms:List Mv} {k:Nat} {m:Mv} (h:ms[k]? =some m) (hs:¬m.sym=c):JF c (ms.take (k+1))=JF c (ms.take k):=by
 unfold JF;rw [ZR h,XV,Xs];simp [hs]
def K0 (a:Aut) (c:Int) (l:List Int):List Int:=l.flatMap fun s=>JF c (movesOf a s.toNat)
theorem Zfg (a:Aut) (c:Int) {l:List Int} {k:Nat} {s:Int} (h:l[k]? =some s):K0 a c (l.take (k+1))=K0 a c (l.take k)++JF c (movesOf a s.toNat):=by
 unfold K0;rw [ZR h,XM];simp
theorem ζF (c:Int) (ms:List Mv):(JF c ms).length≤ms.length:=by unfold JF;rw [Xe];exact Vg _ _
theorem D1 (a:Aut) (s:Nat):(movesOf a s).length≤a.moves.length:=Vg _ _
theorem ζG (a:Aut) (c:Int):∀l:List Int,(K0 a c l).length≤l.length*a.moves.length
 |[]=>by simp [K0]
 | x::l=>by
   have h1:=ζG a c l;have h2:=ζF c (movesOf a x.toNat);have h3:=D1 a x.toNat;have h4:K0 a c (x::l)=JF c (movesOf a x.toNat)++K0 a c l:=rfl;rw [h4,Xb,Xk,X6];omega
theorem KC {a:Aut} (h:Td a) (c:Int) (l:List Int):∀t∈K0 a c l,0≤t∧t<a.n:=fun t ht=>by
 unfold K0 JF movesOf at ht
 simp only [XP,Xl,X0] at ht
 obtain ⟨s,_,m,⟨⟨h1,_⟩,_⟩,rfl⟩:=ht
 exact h m h1
theorem Oh (e:Nat) (L:List Int) (x:Int):PV.own e 1 (L.length+1) (L.map pInt++[pInt x])= .own e 1 (L++[x]).length ((L++[x]).map pInt):=sM
def YO (a:Aut) (c:Int) (l:List Int):List Int:=Y3 a (K0 a c l)
set_option maxHeartbeats 2000000 in
theorem Za6 (a :Aut) (l:List Int) (c:Int) (hn:a.n≤2000) (hmv:a.moves.length≤20000) (hm:Td a) (hl:∀s∈l,0≤s∧s<a.n) (hll:l.length≤2000):AF prog 112 [pGr a,pInts l,pInt c] (· = .own 3 1 (YO a c l).length ((YO a c l).map pInt)):=by
 refine AF.of_body 44 func112 rfl ntmps112 (Xa rfl) ?_
 intro w0 M0 vs hl hv
 obtain ⟨v0,v1,v2,rfl⟩:=Jx hl
 obtain rfl:=hv 2 _ _ rfl rfl
 clear hl hv
 refine Ze ?_
 (refine xL 6 Za ?_<;>refine Zk ?_)
 (refine xL 7 Za ?_<;>refine Zc ?_)
 refine Zq (KT 200 3 1 rfl) fun _=>?_
 (refine Zt ?_<;>refine xL 12 Zb (xL 13 (ZW Zr) (xL 14 Zb ?_))<;>refine Zc ?_)
 refine ZE (ι:={q:Nat×Value//q.1≤l.length∧q.2.oneCell'=true}) (fun k=>⟨[(0,_,_),(2,_,_),(12,_,_),(13,_,_),(7,k.1.2, .val k.1.2),(14, .int .i64 k.1.1,pInt k.1.1)],[(200,k.1.2, .own 3 1 (K0 a c (l.take k.1.1)).length ((K0 a c (l.take k.1.1)).map pInt))]⟩) (fun k=>l.length-k.1.1) ⟨(0, .slice none 0 0),Xd _,rfl⟩ (fun a w H=>H.weaken ⟨rfl,rfl,rfl,rfl,rfl,rfl,trivial⟩ ⟨rfl,trivial⟩) ?_
 rintro ⟨⟨k,r⟩,hk,hr⟩
 dsimp only
 dsimp only at hk hr
 have hlk:=ζG a c (l.take k)
 refine Ze ?_
 (refine xL 15 ZQ ?_<;>refine Zc ?_)
 refine cX ?_ ?_<;>intro hb15
 · first | exact bN hb15|(
 obtain ⟨s,hs⟩:=Zw (show k<l.length by omega);have hsr:=hl s (Xc hs);have e1:=Yb (f:=pInt) hs;(have e2:((List.range a.n.toNat).map fun s=>pMvs (movesOf a s))[s.toNat*1]? =some (pMvs (movesOf a s.toNat)):=by rw [Xp,Lq oM]);have e2':s.toNat<a.n.toNat:=oM;have hml:=D1 a s.toNat;have hlk2:(K0 a c (l.take k)).length≤40000000:=by
  refine XN hlk ?_;(have h5:(l.take k).length≤2000:=by rw [Xn];omega);exact XN (Vw h5 hmv) dC
 obtain ⟨A,hA⟩:∃A,A=K0 a c (l.take k):=⟨_,rfl⟩;rw [←hA] at hlk2 ⊢;refine Ze ?_;(refine xL 16 (ZH Zr) ?_<;>(refine yL 17 (Ya Zg) fun v17 h=>?_;cases h)<;>refine xL 9 Za ?_<;>refine Zk ?_)
 (refine xL 18 Zb (xL 19 Pi (xL 20 (Jk Ja) ?_))<;>(refine yL 21 (Ya Gd) fun v21 h=>?_;cases h)<;>refine xL 22 Zb (xL 23 (Si Ge) ?_)<;>(refine yL 24 (Ya ZC) fun v24 h=>?_;cases h)<;>refine xL 25 (ZW ZL) (xL 26 Zb ?_)<;>refine Zc ?_)
 rw [show A=A++JF c ((movesOf a s.toNat).take 0) from (Xr A).symm];refine ZE (ι:={q:Nat×Value//q.1≤(movesOf a s.toNat).length∧q.2.oneCell'=true}) (fun k=>⟨[(0,_,_),(2,_,_),(12,_,_),(13,_,_),(14,_,_),(24,_,_),(25,_,_),(7,k.1.2, .val k.1.2),(26, .int .i64 k.1.1,pInt k.1.1)],[(200,k.1.2, .own 3 1 (A++JF c ((movesOf a s.toNat).take k.1.1)).length ((A++JF c ((movesOf a s.toNat).take k.1.1)).map pInt))]⟩) (fun k=>(movesOf a s.toNat).length-k.1.1) ⟨(0,r),Xd _,hr⟩ (fun a w H=>H.weaken ⟨rfl,rfl,rfl,rfl,rfl,rfl,rfl,rfl,rfl,trivial⟩ ⟨rfl,trivial⟩) ?_;rintro ⟨⟨j,r4⟩,hj4,hr4⟩;dsimp only;dsimp only at hj4 hr4;have hbl:=ζF c ((movesOf a s.toNat).take j);rw [Xn] at hbl;(have hol:(A++JF c ((movesOf a s.toNat).take j)).length≤41000000:=by rw [Xb];omega);refine Ze ?_;(refine xL 27 ZQ ?_<;>refine Zc ?_)
 refine cX ?_ ?_<;>intro hb27
 · first | exact bN hb27|(
 obtain ⟨mv,hmv2⟩:=Zw (show j<(movesOf a s.toNat).length by omega);have e3:=Yt Z5 (movesOf a s.toNat) j mv hmv2;have e4:=YV Z5 hmv2;refine Ze ?_;(refine xL 28 (ZH ZL) ?_<;>(refine yL 29 (WA Z3) fun v29 h=>?_;cases h)<;>refine Zv [(.int .i64 0),(.int .i64 0),(.int .i64 0)] 3 11 Ko fun h11=>?_<;>refine Zz 11 Z3 ?_<;>refine Zk ?_)
 (refine xL 30 (Zd 11 Yp) ?_<;>(refine yL 31 (Zl 11 Zg) fun v31 h=>?_;cases h)<;>refine xL 32 Zb (xL 33 Yf ?_)<;>refine Zc ?_)
 refine cX ?_ ?_<;>intro hb33
 · first |exact bN hb33|(
 refine Ze ?_;(refine xL 34 Zb (xL 35 (Zd 11 Yi) ?_)<;>(refine yL 36 (Zl 11 Zg) fun v36 h=>?_;cases h)<;>refine ZM (kk:=1) 37 Zo fun h37 ho37=>?_<;>(refine WY [(200,_,_),(37,_,_)] ⟨rfl,rfl,trivial⟩ ?_;refine ZY 200 37 38 Zo fun h38 ho38=>?_;refine Zu (ZD (l:=38) 200 rfl rfl) fun _=>?_;refine WY [(200,h38,PV.own 3 1 (A++JF c ((movesOf a s.toNat).take (j+1))).length ((A++JF c ((movesOf a s.toNat).take (j+1))).map pInt))] ⟨(by rw [ZhJ hmv2 hb33,←Xu,←Oh];rfl),trivial⟩ ?_)<;>refine xL 7 Za ?_<;>refine Zk ?_)
 (refine xL 39 ZK (xL 26 Zb ?_)<;>refine Zc ?_)
 try rw [←ZcF hmv2 (by assumption)]
 first
  | (exact Zn (
      ⟨(j+1,h38),Zh hmv2,ho38⟩
      ) (by dsimp only;omega) ⟨rfl,rfl,rfl,rfl,rfl,rfl,rfl,rfl,rfl,trivial⟩ ⟨rfl,trivial⟩)
  | (exact Zn (
      ⟨(j+1,r4),Zh hmv2,hr4⟩
      ) (by dsimp only;omega) ⟨rfl,rfl,rfl,rfl,rfl,rfl,rfl,rfl,rfl,trivial⟩ ⟨rfl,trivial⟩))
 · first |exact bN hb33|(
 refine Ze ?_;(refine xL 39 ZK (xL 26 Zb ?_)<;>refine Zc ?_)
 try rw [←ZcF hmv2 (by assumption)]
 first
  | (exact Zn (
      ⟨(j+1,h38),Zh hmv2,ho38⟩
      ) (by dsimp only;omega) ⟨rfl,rfl,rfl,rfl,rfl,rfl,rfl,rfl,rfl,trivial⟩ ⟨rfl,trivial⟩)
  | (exact Zn (
      ⟨(j+1,r4),Zh hmv2,hr4⟩
      ) (by dsimp only;omega) ⟨rfl,rfl,rfl,rfl,rfl,rfl,rfl,rfl,rfl,trivial⟩ ⟨rfl,trivial⟩)))
 · first|exact bN hb27|(
 rw [show A++JF c ((movesOf a s.toNat).take j)=K0 a c (l.take (k+1)) by rw [Xj oM,Zfg a c hs,hA]];refine Ze ?_;(refine xL 40 ZK (xL 14 Zb ?_)<;>refine Zc ?_)
 refine Zn (
  ⟨(k+1,r4),Zh hs,hr4⟩
  ) (by dsimp only;omega) ⟨rfl,rfl,rfl,rfl,rfl,rfl,trivial⟩ ⟨rfl,trivial⟩))
 · first|exact bN hb15|(
 refine Ze ?_;(refine xL 41 Zb (xL 42 Zb ?_)<;>(refine Zu (En.freeze (l:=200) (t:=42) rfl rfl) fun _=>?_;rw [ZV _ _ _ rfl];refine cO 43 (cA call111 (Po a (K0 a c (l.take k)) hn hm (KC hm c _))) fun v43 ho43=>?_)<;>refine xL 6 Za ?_<;>refine Zc ?_)
 refine Kk 43 (results112) rfl rfl ?_;rw [Xj oM];rfl)
def Srt (l:List Int):Prop:=l.Pairwise (· < ·)
theorem Rw:∀{l m:List Int},Srt l→Srt m→(∀x,x∈l↔x∈m)→l=m
 |[],[],_,_,_=>rfl
 |[],y::m,_,_,h=>UV ((h y).2 (Xm ..)) sM
 |x::l,[],_,_,h=>UV ((h x).1 (Xm ..)) sM
 | x ::l,y::m,hl,hm,h=>by
   have hl':=XQ.1 hl;have hm':=XQ.1 hm;have hxy:x=y:=by
    have h1:=(h x).1 (Xm ..);have h2:=(h y).2 (Xm ..);rcases Xt.1 h1 with e|h1
    · exact e
    · rcases Xt.1 h2 with e|h2
      · exact e.symm
      · have:=hm'.1 x h1;have:=hl'.1 y h2;omega
   subst hxy;congr 1;refine Rw hl'.2 hm'.2 fun z=>⟨fun hz=>?_,fun hz=>?_⟩
   · rcases Xt.1 ((h z).1 (Xo _ hz)) with e|h1
     · have:=hl'.1 z hz;omega
     · exact h1
   · rcases Xt.1 ((h z).2 (Xo _ hz)) with e|h1
     · have:=hm'.1 z hz;omega
     · exact h1
theorem Srt.filter {l:List Int} (h:Srt l) (p:Int→Bool):Srt (l.filter p):=List.Pairwise.filter p h
inductive Rch (a:Aut) (l:List Int):Int→Prop
 |base {s:Int} (h:s∈l):Rch a l s
 |step {s:Int} {m:Mv} (h:Rch a l s) (hm:m∈a.moves) (hs:m.src=s) (hc:m.sym= -1):Rch a l m.dst
theorem ZhK {out:List Int} {s t:Int}:t∈GZ out s↔t∈out∨t=s:=by
 unfold GZ;split
 · rename_i h;constructor
   · exact .inl
   · rintro (h1|rfl)
     · exact h1
     · simpa using h
 · simp
theorem Lr:∀(l:List Int) {out:List Int} {t:Int},t∈Wh l out↔t∈out∨t∈l
 |[],out,t=>by simp [Wh]
 | x::l,out,t=>by
   show t∈Wh l (GZ out x)↔_;rw [Lr l,ZhK,Xt];exact or_assoc
theorem ZhL (out:List Int) (s:Int):out<+:GZ out s:=by
 unfold GZ;split
 · exact Vy _
 · exact Ur _ _
theorem EA:∀(l out:List Int),out<+:Wh l out
 |[],out=>Vy _
 |x::l,out=>(ZhL out x).trans (EA l (GZ out x))
theorem ZhM (a:Aut) (l:List Int) (i:Nat):WK a l i<+:WK a l (i+1):=by
 rw [WK,Pn];split
 · exact EA _ _
 · exact Vy _
theorem Oi (a:Aut) (l:List Int) (i:Nat):∀j,WK a l i<+:WK a l (i+j)
 |0=>Vy _
 |j+1=>(Oi a l i j).trans (ZhM a l (i+j))
theorem Zmo {l m:List Int} (h:l<+:m) {i:Nat} {x:Int} (hx:l[i]? =some x):m[i]? =some x:=by
 obtain ⟨r,rfl⟩:=h
 rw [Vj (Zh hx)];exact hx
theorem EB {a:Aut} {s:Int} (h0:0≤s) {t:Int}:t∈WT (movesOf a s.toNat)↔∃m∈a.moves,m.src=s∧m.sym= -1∧m.dst=t:=by
 unfold WT movesOf
 simp only [Xl,X0,UQ]
 constructor
 · rintro ⟨m,⟨⟨h1,h2⟩,h3⟩,h4⟩;exact ⟨m,h1,oM,h3,h4⟩
 · rintro ⟨m,h1,h2,h3,h4⟩;exact ⟨m,⟨⟨h1,oM⟩,h3⟩,h4⟩
theorem TX {a:Aut} {l:List Int} (h:Td a) (hl:∀s∈l,0≤s∧s<a.n):∀i t,t∈WK a l i→Rch a l t
 | 0,t,ht=>by
   rw [WK,Lr] at ht;exact .base (by simpa using ht)
 | i + 1,t,ht=>by
   rw [WK,Pn] at ht;split at ht
   · rename_i s hs;rcases (Lr _).1 ht with h1|h1
     · exact TX h hl i t h1
     · have hsm:=Xc hs;obtain ⟨m,h2,h3,h4,rfl⟩:=(EB ((TW h hl i).2 s hsm).1).1 h1;exact .step (TX h hl i s hsm) h2 h3 h4
   · exact TX h hl i t ht
theorem ZhN {a:Aut} {l:List Int} (h:Td a) (hl:∀s∈l,0≤s∧s<a.n) {t:Int} (ht:Rch a l t):t∈WK a l a.n.toNat:=by
 induction ht with
 | base h1=>
   have h2:WK a l 0<+:WK a l (0+a.n.toNat):=Oi a l 0 a.n.toNat;rw [Xw] at h2;refine h2.subset ?_;rw [WK,Lr];exact .inr h1
 | @step s m h1 hm hs hc ih=>
   obtain ⟨i,hi⟩:=XU ih;have hil:=Zh hi;have hok:=TW h hl a.n.toNat;have hlen:=hok.len;have h3:i<(WK a l i).length:=by
    rcases XD i (WK a l i).length with h4|h4
    · exact h4
    · have h5:=ZcD h4 (show i≤a.n.toNat by omega);rw [h5] at hil;omega
   have h4:(WK a l i)[i]? =some s:=by
    have h5:=Oi a l i (a.n.toNat-i);rw [show i+(a.n.toNat-i)=a.n.toNat by omega] at h5;obtain ⟨x,hx⟩:=Zw h3;rw [hx,←hi];exact (Zmo h5 hx).symm
   have h5:m.dst∈WK a l (i+1):=by
    rw [WK,Pn,h4];refine (Lr _).2 (.inr ((EB (hok.2 s ih).1).2 ⟨m,hm,hs,hc,rfl⟩))
   have h6:=Oi a l (i+1) (a.n.toNat-(i+1));rw [show i+1+(a.n.toNat-(i+1))=a.n.toNat by omega] at h6;exact h6.subset h5
theorem Jb {a:Aut} {l:List Int} (h:Td a) (hl:∀s∈l,0≤s∧s<a.n) (t:Int):t∈Y3 a l↔Rch a l t:=by
 unfold Y3
 rw [List.mem_mergeSort]
 exact ⟨TX h hl _ t,ZhN h hl⟩
theorem KF {a:Aut} {l:List Int} (h:Td a) (hl:∀s∈l,0≤s∧s<a.n):Srt (Y3 a l):=by
 have h1:(Y3 a l).Pairwise (fun x y=>decide (x≤y)=true):=Up (fun a b c h1 h2=>by simp only [UQ] at*;omega) (fun a b=>by simp only [Va,UQ];omega) _
 have h2:(Y3 a l).Nodup:=(Uq _ _).nodup_iff.2 (TW h hl _).1
 unfold Srt
 exact (h1.and h2).imp fun {x y} ⟨h3,h4⟩=>by simp only [UQ] at h3;omega
theorem Zfh {a:Aut} {l:List Int} (h:Td a) (hl:∀s∈l,0≤s∧s<a.n) {t:Int} (ht:Rch a l t):0≤t∧t<a.n:=by
 cases ht with
 |base h1=>exact hl t h1
 |step _ hm _ _=>exact h _ hm
theorem SJ {a:Aut} {l:List Int} (h:Td a) (hl:∀s∈l,0≤s∧s<a.n):∀t∈Y3 a l,0≤t∧t<a.n:=fun t ht=>Zfh h hl ((Jb h hl t).1 ht)
theorem O1 {a:Aut} {l:List Int} (h:Td a) (hl:∀s∈l,0≤s∧s<a.n):(Y3 a l).length≤a.n.toNat:=by
 unfold Y3
 rw [UC];exact (TW h hl _).len
theorem JG {a:Aut} {c:Int} {l:List Int} (hl:∀s∈l,0≤s∧s<a.n) {t:Int}:t∈K0 a c l↔∃m∈a.moves,m.src∈l∧m.sym=c∧m.dst=t:=by
 unfold K0 JF movesOf
 simp only [XP,Xl,X0,UQ]
 constructor
 · rintro ⟨s,hs,m,⟨⟨h1,h2⟩,h3⟩,h4⟩;have:=hl s hs;exact ⟨m,h1,by rw [h2,show ((s.toNat:Nat):Int)=s by omega];exact hs,h3,h4⟩
 · rintro ⟨m,h1,h2,h3,h4⟩;have:=hl _ h2;exact ⟨m.src,h2,m,⟨⟨h1,oM⟩,h3⟩,h4⟩
def Jl (m:Mv) (d:Int):Int:=if 0≤m.sym then d+1 else d
def GI (far:List Int) (m:Mv):List Int:=
 match far[m.dst.toNat]?,far[m.src.toNat]? with
 |some d,some e=>if 0≤d∧(e<0∨Jl m d<e) then far.set m.src.toNat (Jl m d) else far
 |_,_=>far
def passF (ms:List Mv) (far:List Int):List Int:=ms.foldl GI far
def L3 (a:Aut):List Int:=(List.range a.n.toNat).map fun s=>if JS a (s:Nat) then 0 else-1
def WO (a:Aut):Nat→List Int
 |0=>L3 a
 |k+1=>passF a.moves (WO a k)
def Wz (a:Aut):List Int:=WO a (a.n.toNat*a.n.toNat+1)
def cntD (far:List Int):Nat:=far.countP fun d=>decide (0≤d)
def wgt (n:Nat) (d:Int):Nat:=if 0≤d then d.toNat else n
def sumF (n:Nat) (far:List Int):Nat:=(far.map (wgt n)).sum
structure FarOk (n:Nat) (far:List Int):Prop where
 len:far.length=n
 lo:∀d∈far,-1≤d
 hi:∀d∈far,d<cntD far
theorem Za7 (far:List Int):cntD far≤far.length:=List.countP_le_length
theorem ZcG:∀(far:List Int) (i:Nat) (e d:Int),far[i]? =some e→0≤d→cntD (far.set i d)=cntD far+(if 0≤e then 0 else 1)
 |[],i,e,d,h,_=>by simp at h
 | x::far,0,e,d,h,hd=>by
   simp only [Vx,Option.some.injEq] at h;subst h;unfold cntD;rw [List.set_cons_zero,UG,UG,UR hd];by_cases hx:0≤x<;>simp [hx]
 | x::far,i+1,e,d,h,hd=>by
   simp only [V7] at h;have:=ZcG far i e d h hd;unfold cntD at this ⊢;rw [List.set_cons_succ,UG,UG,this];omega
theorem ZcH:∀(n:Nat) (far:List Int) (i:Nat) (e d:Int),far[i]? =some e→sumF n (far.set i d)+wgt n e=sumF n far+wgt n d
 |n,[],i,e,d,h=>by simp at h
 | n,x::far,0,e,d,h=>by
   simp only [Vx,Option.some.injEq] at h;subst h;unfold sumF;rw [List.set_cons_zero,Xx,Xx,Us,Us];omega
 | n,x::far,i+1,e,d,h=>by
   simp only [V7] at h;have:=ZcH n far i e d h;unfold sumF at this ⊢;rw [List.set_cons_succ,Xx,Xx,Us,Us];omega
theorem ZjU (m:Mv) (d:Int):d≤Jl m d∧Jl m d≤d+1:=by unfold Jl;split<;>omega
theorem O2 {n:Nat} {far:List Int} (h:FarOk n far) {m:Mv} {d e:Int} (hd:far[m.dst.toNat]? =some d) (he:far[m.src.toNat]? =some e) (h0:0≤d) (h1:e<0∨Jl m d<e):
 FarOk n (far.set m.src.toNat (Jl m d))∧sumF n (far.set m.src.toNat (Jl m d))<sumF n far:=by
 have hs:=ZjU m d
 have hdc:=h.hi d (Xc hd)
 have hec:=h.hi e (Xc he)
 have hc:=ZcG far m.src.toNat e (Jl m d) he oM
 have hsum:=ZcH n far m.src.toNat e (Jl m d) he
 have hcl:=Za7 (far.set m.src.toNat (Jl m d))
 rw [Xv,h.len] at hcl
 refine ⟨⟨by rw [Xv];exact h.len,fun x hx=>?_,fun x hx=>?_⟩,?_⟩
 · rcases List.mem_or_eq_of_mem_set hx with h2|rfl
   · exact h.lo x h2
   · omega
 · rw [hc];rcases List.mem_or_eq_of_mem_set hx with h2|rfl
   · have:=h.hi x h2;split<;>omega
   · split<;>omega
 · unfold wgt at hsum;rw [UU (show 0≤Jl m d by omega)] at hsum;rcases h1 with h1|h1
   · rw [UT oM] at hsum hc;omega
   · rw [UU oM] at hsum;omega
theorem D2 {n:Nat} {far:List Int} (h:FarOk n far) (m:Mv):FarOk n (GI far m)∧(GI far m=far∨sumF n (GI far m)<sumF n far):=by
 unfold GI
 split
 · rename_i d e hd he;split
   · rename_i h1;have:=O2 h hd he h1.1 h1.2;exact ⟨this.1, .inr this.2⟩
   · exact ⟨h, .inl rfl⟩
 · exact ⟨h, .inl rfl⟩
theorem L4 {n:Nat}:∀(ms:List Mv) {far:List Int},FarOk n far→FarOk n (passF ms far)∧(passF ms far=far∨sumF n (passF ms far)<sumF n far)
 |[],far,h=>⟨h, .inl rfl⟩
 | m ::ms,far,h=>by
   obtain ⟨h1,h2⟩:=D2 h m;obtain ⟨h3,h4⟩:=L4 ms h1;refine ⟨h3,?_⟩;show passF ms (GI far m)=far∨_;rcases h2 with h2|h2
   · rw [h2] at h4;show passF ms (GI far m)=far∨sumF n (passF ms (GI far m))<sumF n far;rw [h2];exact h4
   · right
     show sumF n (passF ms (GI far m))<sumF n far;rcases h4 with h4|h4
     · rw [h4];exact h2
     · omega
theorem D3 {n:Nat}:∀(ms:List Mv) {far:List Int},FarOk n far→passF ms far=far→∀m∈ms,GI far m=far
 |[],far,h,_,m,hm=>by simp at hm
 | x ::ms,far,h,he,m,hm=>by
   obtain ⟨h1,h2⟩:=D2 h x;obtain ⟨h3,h4⟩:=L4 ms h1;have he':passF ms (GI far x)=far:=he;have hx:GI far x=far:=by
    rcases h2 with h2|h2
    · exact h2
    · rcases h4 with h4|h4
      · rw [he'] at h4;exact h4.symm
      · rw [he'] at h4;omega
   rcases Xt.1 hm with rfl|hm
   · exact hx
   · rw [hx] at he';exact D3 ms h he' m hm
theorem Zfi {a:Aut} {s:Nat} (h:s<a.n.toNat):(L3 a)[s]? =some (if JS a (s:Nat) then 0 else-1):=by
 unfold L3;rw [Xg,VJ h];rfl
theorem Zfj (a:Aut):FarOk a.n.toNat (L3 a):=by
 refine ⟨by unfold L3;simp,fun d hd=>?_,fun d hd=>?_⟩
 · unfold L3 at hd;obtain ⟨s,_,rfl⟩:=Xl.1 hd;split<;>omega
 · have hd2:=hd;unfold L3 at hd2;obtain ⟨s,_,hs⟩:=Xl.1 hd2;by_cases h0:0≤d
   · have h1:0<cntD (L3 a):=List.countP_pos_iff.2 ⟨d,hd,UR h0⟩;split at hs<;>omega
   · omega
theorem Tv (a:Aut):∀k,FarOk a.n.toNat (WO a k)
 |0=>Zfj a
 |k+1=>(L4 a.moves (Tv a k)).1
theorem Zmp {n:Nat} {far:List Int} (h:FarOk n far):sumF n far≤n*n:=by
 have hc:=Za7 far
 rw [h.len] at hc
 have key:∀(l:List Int),(∀d∈l,d<(n:Int))→(l.map (wgt n)).sum≤l.length*n:=fun l=>by
  induction l with
  |nil=>intro _;simp
  | cons x l ih=>
    intro hx;have h1:=ih fun d hd=>hx d (Xo _ hd);have h2:=hx x (Xm ..);rw [Xx,Us,Xk,X6];(have h3:wgt n x≤n:=by unfold wgt;split<;>omega);omega
 have:=key far fun d hd=>by have:=h.hi d hd;omega
 rw [h.len] at this;exact this
theorem TY {a:Aut} {k:Nat} (h:passF a.moves (WO a k)=WO a k):∀j,WO a (k+j)=WO a k
 |0=>rfl
 |j+1=>by rw [←X3,WO,TY h j,h]
theorem ζH (a:Aut):passF a.moves (Wz a)=Wz a:=by
 have key:∀k,(∃j,j≤k∧passF a.moves (WO a j)=WO a j)∨sumF a.n.toNat (WO a k)+k≤a.n.toNat*a.n.toNat:=fun k=>by
  induction k with
  |zero=>exact .inr (Zmp (Tv a 0))
  | succ k ih=>
    rcases ih with ⟨j,h1,h2⟩|h
    · exact .inl ⟨j,oM,h2⟩
    · rcases (L4 a.moves (Tv a k)).2 with h1|h1
      · exact .inl ⟨k,oM,h1⟩
      · right;rw [WO];omega
 rcases key (a.n.toNat*a.n.toNat+1) with ⟨j,h1,h2⟩|h
 · have h3:=TY h2 (a.n.toNat*a.n.toNat+1-j);rw [show j+(a.n.toNat*a.n.toNat+1-j)=a.n.toNat*a.n.toNat+1 by omega] at h3;unfold Wz;rw [h3,h2]
 · omega
theorem Zmq {a:Aut} {k:Nat} (h:passF a.moves (WO a k)=WO a k):Wz a=WO a k:=by
 have h1:=ζH a
 unfold Wz at h1 ⊢
 rcases Nat.le_total k (a.n.toNat*a.n.toNat+1) with h2|h2
 · have h3:=TY h (a.n.toNat*a.n.toNat+1-k);rwa [show k+(a.n.toNat*a.n.toNat+1-k)=a.n.toNat*a.n.toNat+1 by omega] at h3
 · have h3:=TY h1 (k-(a.n.toNat*a.n.toNat+1));rw [show a.n.toNat*a.n.toNat+1+(k-(a.n.toNat*a.n.toNat+1))=k by omega] at h3;exact h3.symm
theorem HT (a:Aut):FarOk a.n.toNat (Wz a):=Tv a _
theorem ZcI {a:Aut} {m:Mv} (hm:m∈a.moves) {d e:Int} (hd:(Wz a)[m.dst.toNat]? =some d) (he:(Wz a)[m.src.toNat]? =some e) (h0:0≤d):0≤e∧e≤Jl m d:=by
 have h1:=D3 a.moves (HT a) (ζH a) m hm
 unfold GI at h1
 rw [hd,he] at h1
 dsimp only at h1
 split at h1
 · rename_i h2;have h3:=O2 (HT a) hd he h2.1 h2.2;rw [h1] at h3;omega
 · rename_i h2;omega
abbrev Pf:=List Int×List Int
def WS (a:Aut) (S:List Int):Bool:=S.any (JS a)
def InS (a:Aut) (S:List Int):Prop:=∀s∈S,0≤s∧s<a.n
def Te (a:Aut) (n:Int) (p:Pf) (c:Nat):List Pf:=if (WN (YO a c p.2) (Wz a) (n-1)).length=0 then [] else [(p.1++[(c:Int)],WN (YO a c p.2) (Wz a) (n-1))]
def R6 (a:Aut) (n:Int) (p:Pf):List Pf:=(List.range a.syms.toNat).flatMap (Te a n p)
def lvP (a:Aut) (n:Nat):Nat→List Pf
 |0=>[([],WN (Y3 a a.start) (Wz a) n)]
 |k+1=>(lvP a n k).flatMap (R6 a ((n:Int)-k))
def Oj (a:Aut) (l:List Pf):List (List Int):=(l.filter fun p=>WS a p.2).map (·.1)
def Tw (a:Aut) (n k:Nat):List (List Int):=(List.range k).flatMap fun i=>Oj a (lvP a n i)
def Zmr (a:Aut) (n:Nat):Prop:=(∃k,k≤n∧2000<(lvP a n (k+1)).length)∨2000<(Tw a n (n+1)).length
def J9 (far:List Int) (b s:Int):Int:=match far[s.toNat]? with
 |some d=>if 0≤d∧(b<0∨d<b) then d else b
 |none=>b
def Pq (far S:List Int):Int:=S.foldl (J9 far) (-1)
def ZjV (a:Aut) (n:Int) (p:Pf) (c:Nat):List Pf:=if 0≤Pq (Wz a) (YO a c p.2)∧Pq (Wz a) (YO a c p.2)≤n-1 then [(p.1++[(c:Int)],YO a c p.2)] else []
def ZnM (a:Aut) (n:Int) (p:Pf):List Pf:=(List.range a.syms.toNat).flatMap (ZjV a n p)
def lvR (a:Aut) (n:Nat):Nat→List Pf
 |0=>[([],Y3 a a.start)]
 |k+1=>(lvR a n k).flatMap (ZnM a ((n:Int)-k))
theorem EC {a:Aut} {s:Int} (h:0≤s∧s<a.n):∃d,(Wz a)[s.toNat]? =some d:=Zw (by rw [(HT a).len];omega)
theorem SK {a:Aut} {S:List Int} (hS:InS a S) {n:Int} {s:Int}:s∈WN S (Wz a) n↔s∈S∧∃d,(Wz a)[s.toNat]? =some d∧0≤d∧d≤n:=by
 unfold WN ZjO
 rw [X0]
 constructor
 · rintro ⟨h1,h2⟩;obtain ⟨d,hd⟩:=EC (hS s h1);rw [hd] at h2;simp only [UA,Uk,decide_eq_false_iff_not] at h2;exact ⟨h1,d,hd,oM,oM⟩
 · rintro ⟨h1,d,hd,h2,h3⟩;rw [hd];simp only [UA,Uk,decide_eq_false_iff_not];exact ⟨h1,oM,oM⟩
theorem HU {a:Aut} {S:List Int} (hS:InS a S) (far:List Int) (n:Int):InS a (WN S far n):=fun s hs=>hS s ((X0.1 hs).1)
theorem TZ {a:Aut} (h:Td a) (c:Int) (S:List Int):InS a (YO a c S):=SJ h (KC h c S)
theorem ZcJ {a:Aut} (h:Td a) {c:Int} {S:List Int} {t:Int}:t∈YO a c S↔Rch a (K0 a c S) t:=Jb h (KC h c S) t
theorem ED {a:Aut} {S:List Int} (h:Srt S) (far:List Int) (n:Int):Srt (WN S far n):=h.filter _
theorem ZhO {a:Aut} (h:Td a) {S:List Int} (hS:InS a S) {c:Int} (hc:0≤c) (n:Int):WN (YO a c (WN S (Wz a) n)) (Wz a) (n-1)=WN (YO a c S) (Wz a) (n-1):=by
 refine Rw (ED (a:=a) (KF h (KC h c _)) _ _) (ED (a:=a) (KF h (KC h c _)) _ _) fun t=>?_
 rw [SK (TZ h c _),SK (TZ h c _),ZcJ h,ZcJ h]
 constructor
 · rintro ⟨h1,h2⟩;refine ⟨?_,h2⟩;clear h2;induction h1 with
   | base h3=>
     obtain ⟨m,h4,h5,h6,h7⟩:=(JG (HU hS _ _)).1 h3;exact .base ((JG hS).2 ⟨m,h4,(X0.1 h5).1,h6,h7⟩)
   |step _ hm hs hc ih=>exact .step ih hm hs hc
 · rintro ⟨h1,d,hd,h2,h3⟩;refine ⟨?_,d,hd,h2,h3⟩;induction h1 generalizing d with
   | base h3'=>
     obtain ⟨m,h4,h5,h6,rfl⟩:=(JG hS).1 h3';obtain ⟨e,he⟩:=EC (hS _ h5);have h8:=ZcI h4 hd he h2;unfold Jl at h8;rw [UU oM] at h8;exact .base ((JG (HU hS _ _)).2 ⟨m,h4,(SK hS).2 ⟨h5,e,he,h8.1,oM⟩,h6,rfl⟩)
   | @step s m hr hm hs hcc ih=>
     subst hs;obtain ⟨e,he⟩:=EC (Zfh h (KC h c _) hr);have h8:=ZcI hm hd he h2;unfold Jl at h8;rw [UT oM] at h8;exact .step (ih e he h8.1 oM) hm rfl hcc
theorem EE (far:List Int):∀(S:List Int) (b:Int),-1≤b→
 (S.foldl (J9 far) b=b∨∃s∈S,far[s.toNat]? =some (S.foldl (J9 far) b)∧0≤S.foldl (J9 far) b)∧
 (0≤b→0≤S.foldl (J9 far) b∧S.foldl (J9 far) b≤b)∧
 (∀s∈S,∀d,far[s.toNat]? =some d→0≤d→0≤S.foldl (J9 far) b∧S.foldl (J9 far) b≤d)
 |[],b,_=>⟨.inl rfl,fun h=>⟨h,sM⟩,fun s hs=>by simp at hs⟩
 | x :: S,b,hb=>by
   have hb': -1≤J9 far b x∧(J9 far b x=b∨(far[x.toNat]? =some (J9 far b x)∧0≤J9 far b x))∧(0≤b→0≤J9 far b x∧J9 far b x≤b)∧(∀d,far[x.toNat]? =some d→0≤d→0≤J9 far b x∧J9 far b x≤d):=by
    unfold J9;split
    · rename_i d hd;split
      · rename_i h1;refine ⟨oM, .inr ⟨by first|exact hd|rfl,h1.1⟩,fun h=>oM,fun d' hd' h=>?_⟩
        first
         |(rw [hd] at hd';cases hd';omega)
         |(cases hd';omega)
      · rename_i h1;refine ⟨hb, .inl rfl,fun h=>oM,fun d' hd' h=>?_⟩
        first
         |(rw [hd] at hd';cases hd';omega)
         |(cases hd';omega)
    · rename_i hd;refine ⟨hb, .inl rfl,fun h=>oM,fun d' hd' h=>?_⟩
      first
       |(rw [hd] at hd';cases hd')
       |cases hd'
   obtain ⟨h1,h2,h3⟩:=EE far S (J9 far b x) hb'.1;simp only [VN];refine ⟨?_,fun h=>?_,fun s hs d hd h=>?_⟩
   · rcases h1 with h1|⟨s,hs,h4⟩
     · rcases hb'.2.1 with h5|h5
       · exact .inl (by rw [h1,h5])
       · exact .inr ⟨x,Xm ..,by rw [h1];exact h5⟩
     · exact .inr ⟨s,Xo _ hs,h4⟩
   · have h4:=hb'.2.2.1 h;have h5:=h2 h4.1;omega
   · rcases Xt.1 hs with rfl|hs
     · have h4:=hb'.2.2.2 d hd h;have h5:=h2 h4.1;omega
     · exact h3 s hs d hd h
theorem Zfk {a:Aut} {S:List Int} (hS:InS a S) (n:Int):(WN S (Wz a) n).length=0↔¬(0≤Pq (Wz a) S∧Pq (Wz a) S≤n):=by
 obtain ⟨h1,_,h3⟩:=EE (Wz a) S (-1) oM
 unfold Pq
 constructor
 · rintro h ⟨h4,h5⟩;rcases h1 with h1|⟨s,hs,h6,h7⟩
   · omega
   · have:s∈WN S (Wz a) n:=(SK hS).2 ⟨hs,_,h6,h7,h5⟩;rw [XR h] at this;simp at this
 · intro h;rcases Vb (WN S (Wz a) n).length with h4|h4
   · exact h4
   · exfalso;obtain ⟨s,hs⟩:=List.exists_mem_of_length_pos h4;obtain ⟨h5,d,hd,h6,h7⟩:=(SK hS).1 hs;have:=h3 s h5 d hd h6;exact h ⟨this.1,oM⟩
def ZcK (a:Aut) (n:Int) (p:Pf):Pf:=(p.1,WN p.2 (Wz a) n)
theorem ZjW {a:Aut} (h:Td a) {p:Pf} (hp:InS a p.2) (n:Int) (c:Nat):Te a n (ZcK a n p) c=(ZjV a n p c).map (ZcK a (n-1)):=by
 unfold Te ZjV ZcK
 dsimp only
 rw [ZhO h hp oM]
 have h1:=Zfk (TZ h c p.2) (n-1)
 by_cases h2:(WN (YO a c p.2) (Wz a) (n-1)).length=0
 · rw [UU h2,UT (h1.1 h2)];rfl
 · rw [UT h2,UU (by rcases Classical.em (0≤Pq (Wz a) (YO a c p.2)∧Pq (Wz a) (YO a c p.2)≤n-1) with h3|h3;exact h3;exact UV (h1.2 h3) h2)];rfl
theorem ZjX {a:Aut} (h:Td a) (hs:InS a a.start) (n:Nat):∀k,∀p∈lvR a n k,InS a p.2
 | 0,p,hp=>by
   simp only [lvR,Xi] at hp;subst hp;exact SJ h hs
 | k +1,p,hp=>by
   rw [lvR] at hp;obtain ⟨q,_,hq⟩:=XP.1 hp;obtain ⟨c,_,hc⟩:=XP.1 hq;unfold ZjV at hc;split at hc
   · simp only [Xi] at hc;subst hc;exact TZ h c _
   · simp at hc
theorem SL {α β:Type} {l:List α} {f g:α→List β} (h:∀x∈l,f x=g x):l.flatMap f=l.flatMap g:=by
 induction l with
 |nil=>rfl
 |cons x l ih=>rw [Xz,Xz,h x (Xm ..),ih fun y hy=>h y (Xo _ hy)]
theorem Zgp {a:Aut} (h:Td a) (hs:InS a a.start) (n:Nat):∀k,lvP a n k=(lvR a n k).map (ZcK a ((n:Int)-k))
 | 0=>by
   show [_]=[_];unfold ZcK;simp
 | k+1=>by
   rw [lvP,lvR,Zgp h hs n k,List.flatMap_map,Ut];refine SL fun p hp=>?_;unfold R6 ZnM;rw [Ut];refine SL fun c _=>?_;rw [ZjW h (ZjX h hs n k p hp)];congr 2;omega
theorem Tx (a:Aut) (n k:Nat):Tw a n (k+1)=Tw a n k++Oj a (lvP a n k):=by
 unfold Tw;rw [Vz,XM];simp
theorem ζI (a:Aut) (n:Nat) {j k:Nat} (h:j≤k):(Tw a n j).length≤(Tw a n k).length:=by
 obtain ⟨i,rfl⟩:∃i,k=j+i:=⟨k-j,oM⟩
 clear h
 induction i with
 |zero=>exact Xh _
 |succ i ih=>rw [←X3,Tx,Xb];omega
theorem ZhP {a:Aut} {l:List Pf} {i:Nat} {p:Pf} (h:l[i]? =some p):Oj a (l.take (i+1))=Oj a (l.take i)++(if WS a p.2 then [p.1] else []):=by
 unfold Oj
 rw [ZR h,XV,Xs]
 congr 1
 cases hb:WS a p.2<;>simp [hb]
theorem ZcL (a:Aut) (l:List Pf):(Oj a l).length≤l.length:=by unfold Oj;rw [Xe];exact Vg _ _
theorem ZcM (a:Aut) (l:List Pf) (i:Nat):(Oj a (l.take i)).length≤(Oj a l).length:=by
 unfold Oj
 rw [Xe,Xe]
 exact (List.Sublist.filter _ (List.take_sublist i l)).length_le
theorem R7 {α β:Type} (f:α→List β) (l:List α) (i:Nat):((l.take i).flatMap f).length≤(l.flatMap f).length:=by
 have:l.flatMap f=(l.take i).flatMap f++(l.drop i).flatMap f:=by rw [←XM,VF]
 rw [this,Xb];omega
theorem EF {α β:Type} (f:α→List β) {l:List α} {i:Nat} {x:α} (h:l[i]? =some x):(l.take (i+1)).flatMap f=(l.take i).flatMap f++f x:=by
 rw [ZR h,XM];simp
theorem Pt {β:Type} (f:Nat→List β) (k:Nat):(List.range (k+1)).flatMap f=(List.range k).flatMap f++f k:=by
 rw [Vz,XM];simp
end Go.Proofs.YtgfabnhpllkebaaGreatDoor
namespace Go.Cb
set_option linter.all false
open Go.En
def vec {α:Type} (n:Nat) (f:Nat→α):List α:=(List.range n).map f
theorem KO {α:Type} (n:Nat) (f:Nat→α):(vec n f).length=n:=by simp [vec]
theorem Za8 {α:Type} {n i:Nat} (f:Nat→α) (h:i<n):(vec n f)[i]? =some (f i):=by simp [vec,h]
theorem Za9 {α:Type} {n:Nat} {l:List α} {f:Nat→α} (hl:l.length=n) (h:∀i x,l[i]? =some x→x=f i):l=vec n f:=by
 apply Vv
 intro i
 rcases XD i n with hi|hi
 · obtain ⟨x,hx⟩:=YJ (show i<l.length by omega);rw [hx,Za8 f hi,h i x hx]
 · rw [XL oM,XL (by rw [KO];exact hi)]
theorem Ol {α:Type} {n a:Nat} (f:Nat→α) (b:α):(vec n f).set a b=vec n (fun i=>if i=a then b else f i):=by
 refine Za9 (by simp [vec]) fun i x hx=>?_
 have hi:=Zh hx
 rw [Xv,KO] at hi
 rw [List.getElem?_set] at hx
 split at hx
 · rename_i e;subst e;split at hx
   · cases hx;simp
   · cases hx
 · rename_i e;rw [Za8 f hi] at hx
   cases hx;rw [UT (fun h=>e h.symm)]
theorem JH {α:Type} {n:Nat} {f g:Nat→α} (h:∀i,i<n→f i=g i):vec n f=vec n g:=
 VQ fun i hi=>h i (XT.1 hi)
theorem Ld {α:Type} (n:Nat) (x:α):List.replicate n x=vec n (fun _=>x):=by
 refine Za9 sM fun i y hy=>?_
 rw [UO] at hy
 split at hy
 · cases hy;rfl
 · cases hy
theorem HV {α β:Type} (n:Nat) (f:Nat→α) (g:α→β):(vec n f).map g=vec n (fun i=>g (f i)):=by simp [vec,Function.comp_def]
abbrev Zfl (n:Nat) (f:Nat→Bool):PV:= .sl n (vec n fun i=>ZN (f i))
def Closed (n:Nat) (f T:Nat→Nat→Bool):Prop:=(∀i j,i<n→j<n→f i j=true→T i j=true)∧∀i j k,i<n→j<n→k<n→T i j=true→T j k=true→T i k=true
def cntF (n:Nat) (f:Nat→Bool):Nat:=((List.range n).filter fun i=> !f i).length
theorem ζJ (n:Nat) (f:Nat→Bool):cntF (n+1) f=cntF n f+(if f n then 0 else 1):=by
 unfold cntF
 rw [Vz,XV,Xb]
 cases h:f n<;>simp [h]
theorem Zfm {n:Nat} {f g:Nat→Bool} (h:∀i,i<n→f i=g i):cntF n f=cntF n g:=by
 unfold cntF
 rw [List.filter_congr fun i hi=>by rw [h i (XT.1 hi)]]
theorem ZcN {f:Nat→Bool} {a:Nat} (hf:f a=false):∀{n:Nat},a<n→cntF n (fun i=>if i=a then true else f i)+1=cntF n f
 |0,h=>oM
 | n +1,h=>by
   rw [ζJ,ζJ];by_cases e:n=a
   · subst e;rw [UU rfl,hf];rw [Zfm (f:=fun i=>if i=n then true else f i) (g:=f) fun i hi=>by rw [UT oM]];simp
   · rw [UT e];have:=ZcN hf (n:=n) oM;omega
def cntM (n:Nat) (f:Nat→Nat→Bool):Nat:=((List.range n).map fun i=>cntF n (f i)).sum
structure Grows (n:Nat) (E R:Nat→Nat→Bool):Prop where
 lo:∀i j,i<n→j<n→E i j=true→R i j=true
 hi:∀T,Closed n E T→∀i j,i<n→j<n→R i j=true→T i j=true
def Before (a b c a' b' c':Nat):Prop:=a'<a∨(a'=a∧(b'<b∨(b'=b∧c'<c)))
structure Pass (n:Nat) (E R0 R:Nat→Nat→Bool) (ag:Bool) (a b c:Nat):Prop where
 gr:Grows n E R
 dn:ag=true→cntM n R<cntM n R0
 st:ag=false→R=R0∧∀a' b' c',a'<n→b'<n→c'<n→Before a b c a' b' c'→R0 a' b'=true→R0 b' c'=true→R0 a' c'=true
def Conn (l:List Int) (r:Int→Int→Bool) (x y:Int):Prop:=∀P:Int→Prop,(∀a b,a∈l→b∈l→(r a b=true∨r b a=true)→P a→P b)→P x→P y
theorem nodup_len {α:Type} [BEq α] [LawfulBEq α]:∀{l m:List α},l.Nodup→(∀x∈l,x∈m)→l.length≤m.length
 |[],m,_,_=>Xd _
 | x ::l,m,h,hs=>by
   rw [Vf] at h;have hx:=hs x sM;have h1:=nodup_len (l:=l) (m:=m.erase x) h.2 fun y hy=>by
    have hne:y≠x:=fun e=>h.1 (e▸hy);exact (List.mem_erase_of_ne hne).2 (hs y (by simp [hy]))
   rw [UP hx] at h1;have:=List.length_pos_of_mem hx;simp only [Xk];omega
structure Comps (l:List Int) (r:Int→Int→Bool) (cs:List (List Int)):Prop where
 mem:∀x,x∈cs.flatten↔x∈l
 nd:cs.flatten.Nodup
 ne:∀c∈cs,c≠[]
 asc:∀c∈cs,c.Pairwise (· < ·)
 conn:∀c∈cs,∀x∈c,∀y∈c,Conn l r x y
 clos:∀c∈cs,∀x∈c,∀y∈l,(r x y=true∨r y x=true)→y∈c
 ord:cs.Pairwise fun c d=>∀x y,c.head? =some x→d.head? =some y→x<y
structure Part (l:List Int) (r:Int→Int→Bool) (cs:List (List Int)) (k:Nat):Prop where
 sub:∀x∈cs.flatten,x∈l
 did:∀j x,j<k→l[j]? =some x→x∈cs.flatten
 nd:cs.flatten.Nodup
 ne:∀c∈cs,c≠[]
 asc:∀c∈cs,c.Pairwise (· < ·)
 conn:∀c∈cs,∀x∈c,∀y∈c,Conn l r x y
 clos:∀c∈cs,∀x∈c,∀y∈l,(r x y=true∨r y x=true)→y∈c
 ord:cs.Pairwise fun c d=>∀x y,c.head? =some x→d.head? =some y→x<y
 hd:∀c∈cs,∀x,c.head? =some x→∃j,j<k∧l[j]? =some x
structure Mk (l:List Int) (r:Int→Int→Bool) (cs:List (List Int)) (first:Int) (tk cl:List Int) (i q:Nat):Prop where
 tkm:∀z,z∈tk↔z∈cs.flatten∨z∈cl
 nd:(cs.flatten++cl).Nodup
 sub:∀z∈cl,z∈l
 con:∀z∈cl,Conn l r first z
 fst:first∈cl
 il:i≤cl.length
 did:∀j x,j<i→cl[j]? =some x→∀y∈l,(r x y=true∨r y x=true)→y∈tk
 now:∀x,cl[i]? =some x→∀p y,p<q→l[p]? =some y→(r x y=true∨r y x=true)→y∈tk
def sumTo:Nat→(Nat→Nat)→Nat
 |0,_=>0
 |n+1,f=>sumTo n f+f n
def marked (n:Nat) (I:Nat→Bool):List Int:=((List.range n).map fun i:Nat=>(i:Int)).filter fun x=>I x.toNat
structure LabOk (n:Nat) (I:Nat→Bool) (r:Int→Int→Bool) (lab:Nat→Nat):Prop where
 le:∀i,i<n→lab i≤i
 inn:∀i,i<n→I i=true→I (lab i)=true
 conn:∀i,i<n→I i=true→Conn (marked n I) r (lab i) i
def good (n:Nat) (I:Nat→Bool) (t:Nat→Nat→Bool) (lab:Nat→Nat) (a b:Nat):Prop:=a≠b→I a=true→I b=true→t a b=true→lab a=lab b
structure LabPass (n:Nat) (I:Nat→Bool) (r:Int→Int→Bool) (t:Nat→Nat→Bool) (lab0 lab:Nat→Nat) (ag:Bool) (a b:Nat):Prop where
 ok:LabOk n I r lab
 les:ag=true→sumTo n lab<sumTo n lab0
 eq:ag=false→lab=lab0∧∀x y,(x<a∧y<n∨x=a∧y<b)→good n I t lab x y
structure Fix (n:Nat) (I:Nat→Bool) (r:Int→Int→Bool) (t:Nat→Nat→Bool) (lab:Nat→Nat):Prop where
 ok:LabOk n I r lab
 st:∀x y,x<n→y<n→good n I t lab x y
end Go.Cb
namespace Go.Proofs.YtgfabnhpllkebaaGreatDoor
open Go.RowKit Go.Cb Go.En Tryz
set_option linter.all false
theorem EG {a b:Int}:SH a b<0↔a<b:=by unfold SH;split<;>(try split)<;>omega
theorem Ty {a b:Int}:SH a b=0↔a=b:=by unfold SH;split<;>(try split)<;>omega
theorem WU {a b:Mv}:Kj a b=true↔a.src<b.src∨(a.src=b.src∧(a.sym<b.sym∨(a.sym=b.sym∧a.dst<b.dst))):=by
 unfold Kj GY
 rw [UQ]
 by_cases h1:SH a.src b.src=0
 · have e1:=Ty.1 h1;by_cases h2:SH a.sym b.sym=0
   · have e2:=Ty.1 h2;have h3:=EG (a:=a.dst) (b:=b.dst);by_cases h4:SH a.dst b.dst=0
     · have e4:=Ty.1 h4;simp only [Jt,h1,h2,h4,if_true];omega
     · simp only [Jt,h1,h2,h4,if_true,if_false];omega
   · have h3:=EG (a:=a.sym) (b:=b.sym);have h4:¬a.sym=b.sym:=fun e=>h2 (Ty.2 e);simp only [Jt,h1,h2,if_true,if_false];omega
 · have h3:=EG (a:=a.src) (b:=b.src);have h4:¬a.src=b.src:=fun e=>h1 (Ty.2 e);simp only [Jt,h1,if_false];omega
theorem EH {α:Type} {r:α→α→Bool} {l:List α} (h:WC r l=true) (hi:∀a∈l,r a a=false) (ht:∀a∈l,∀b∈l,∀c∈l,r a b=true→r b c=true→r a c=true):l.Pairwise fun a b=>r a b=true:=by
 induction l with
 |nil=>exact .nil
 | cons x l ih=>
   have h1:∀i a b,(x::l)[i]? =some a→(x::l)[i+1]? =some b→r a b=true:=(Ll r _).1 h;have h2:=ih ((Ll r l).2 fun i a b ha hb=>h1 (i+1) a b ha hb) (fun a ha=>hi a (Xo _ ha)) (fun a ha b hb c hc=>ht a (Xo _ ha) b (Xo _ hb) c (Xo _ hc));refine XQ.2 ⟨fun y hy=>?_,h2⟩
   cases l with
   |nil=>simp at hy
   | cons z l=>
     have h3:=h1 0 x z rfl rfl;rcases Xt.1 hy with rfl|hy2
     · exact h3
     · exact ht x sM z sM y (Xo _ hy) h3 ((XQ.1 h2).1 y hy2)
structure AOk (a:Aut):Prop where
 n0:0≤a.n
 n1:a.n≤2000
 s0:0≤a.syms
 s1:a.syms≤40
 ml:a.moves.length≤20000
 st:InS a a.start
 fi:InS a a.fin
 sl:a.start.length≤2000
 fl:a.fin.length≤2000
 mv:∀m∈a.moves,0≤m.src∧m.src<a.n∧0≤m.dst∧m.dst<a.n∧-1≤m.sym∧m.sym<a.syms
theorem AOk.mi {a:Aut} (h:AOk a):Td a:=fun m hm=>by have:=h.mv m hm;omega
theorem Zba {n:Int} {l:List Int} (h:LO n l=true):∀s∈l,0≤s∧s<n:=fun s hs=>by
 unfold LO at h
 simp only [Xf,XA,UQ] at h
 exact h.1 s hs
theorem ZcO {n:Int} {l:List Int} (h:LO n l=true) (h0:0≤n) (hn:n≤2000):l.length≤2000:=by
 have h1:=Zba h
 unfold LO at h
 simp only [Xf] at h
 have h2:=EH h.2 (fun a _=>by unfold ltI;exact US oM) (fun a _ b _ c _ h1 h2=>by
  unfold ltI at*;simp only [UQ] at*;omega)
 have:=nodup_len 2000 l (h2.imp fun h=>by unfold ltI at h;simp only [UQ] at h;omega) fun s hs=>by have:=h1 s hs;omega
 exact this
theorem Kp {a:Aut} (h:Z1 a=true):AOk a:=by
 unfold Z1 at h
 simp only [Xf,UQ] at h
 obtain ⟨⟨⟨⟨⟨⟨⟨⟨h1,h2⟩,h3⟩,h4⟩,h5⟩,h6⟩,h7⟩,h8⟩,h9⟩:=h
 refine ⟨h1,h2,h3,h4,h5,Zba h6,Zba h7,ZcO h6 h1 h2,ZcO h7 h1 h2,fun m hm=>?_⟩
 have:=XA.1 h8 m hm
 unfold R1 at this
 simp only [Xf,UQ] at this
 omega
set_option maxRecDepth 100000
theorem EI {a:Aut} (h:0≤a.n):ZJ a= .agg [pInt (a.n.toNat:Nat),pInt a.syms,pInts a.start,pInts a.fin,pMvs a.moves]:=by
 unfold ZJ;rw [show ((a.n.toNat:Nat):Int)=a.n by omega]
def FinK (a:Aut) (k:Nat) (L:List Int):Prop:=L.length=a.n.toNat∧∀s,s<a.n.toNat→L[s]? =some (if (a.fin.take k).any (fun t=>decide (t=(s:Nat))) then 0 else-1)
theorem FinK.start {a:Aut} {L:List Int} (hl:L.length=a.n.toNat) (h:∀j,j<L.length→L[j]? =some (-1)):FinK a 0 L:=⟨hl,fun s hs=>by rw [h s oM];rfl⟩
theorem FinK.step {a:Aut} {k:Nat} {L:List Int} {t:Int} (h:FinK a k L) (ht:a.fin[k]? =some t) (h0:0≤t):FinK a (k+1) (L.set t.toNat 0):=by
 refine ⟨by rw [Xv];exact h.1,fun s hs=>?_⟩
 rw [ZR ht,VA]
 by_cases e:t.toNat=s
 · subst e;rw [X9 (by rw [h.1];exact hs)];simp only [Ua,Ub,Vh];rw [UR (show t=((t.toNat:Nat):Int) by omega),Bool.or_true];rfl
 · rw [Vi e,h.2 s hs];simp only [Ua,Ub,Vh];rw [US (show ¬t=(s:Int) by omega),Vh]
theorem FinK.done {a:Aut} {k:Nat} {L:List Int} (h:FinK a k L) (hk:a.fin.length≤k):L=WO a 0:=by
 apply Vv
 intro s
 rcases XD s a.n.toNat with hs|hs
 · rw [h.2 s hs,show (WO a 0)[s]? =_ from Zfi hs,Xj hk];rfl
 · rw [XL (by rw [h.1];exact hs),XL (by rw [(Tv a 0).len];exact hs)]
structure PassI (a:Aut) (far0 L:List Int) (fl:Bool) (i:Nat):Prop where
 eq:L=passF (a.moves.take i) far0
 ok:FarOk a.n.toNat L
 no:fl=false→L=far0
 yes:fl=true→sumF a.n.toNat L<sumF a.n.toNat far0
theorem PassI.start {a:Aut} {far0:List Int} (h:FarOk a.n.toNat far0):PassI a far0 far0 false 0:=⟨rfl,h,fun _=>rfl,fun h=>Bool.noConfusion h⟩
theorem PassI.set {a:Aut} {far0 L:List Int} {fl:Bool} {i:Nat} {m:Mv} {d e d':Int} (h:PassI a far0 L fl i) (hm:a.moves[i]? =some m) (hd:L[m.dst.toNat]? =some d) (he:L[m.src.toNat]? =some e) (h0:0≤d) (h1:e<0∨d'<e) (hs:d'=Jl m d):PassI a far0 (L.set m.src.toNat d') true (i+1):=by
 subst hs
 have h2:=O2 h.ok hd he h0 h1
 refine ⟨?_,h2.1,fun h=>Bool.noConfusion h,fun _=>?_⟩
 · rw [ZR hm];unfold passF;rw [VH];show _=GI (passF (a.moves.take i) far0) m;rw [←h.eq];unfold GI;rw [hd,he];dsimp only;rw [UU ⟨h0,h1⟩]
 · cases hfl:fl
   · rw [←h.no hfl];exact h2.2
   · exact Nat.lt_trans h2.2 (h.yes hfl)
theorem PassI.skip {a:Aut} {far0 L:List Int} {fl:Bool} {i:Nat} {m:Mv} {d e:Int} (h:PassI a far0 L fl i) (hm:a.moves[i]? =some m) (hd:L[m.dst.toNat]? =some d) (he:L[m.src.toNat]? =some e) (h1:¬(0≤d∧(e<0∨Jl m d<e))):PassI a far0 L fl (i+1):=by
 refine ⟨?_,h.ok,h.no,h.yes⟩
 rw [ZR hm]
 unfold passF
 rw [VH]
 show _=GI (passF (a.moves.take i) far0) m
 rw [←h.eq]
 unfold GI
 rw [hd,he]
 dsimp only
 rw [UT h1]
theorem PassI.done {a:Aut} {far0 L:List Int} {fl:Bool} {i:Nat} (h:PassI a far0 L fl i) (hi:a.moves.length≤i):L=passF a.moves far0:=by rw [h.eq,Xj hi]
theorem PassI.less {a:Aut} {j i:Nat} {L:List Int} {fl:Bool} (h:PassI a (WO a j) L fl i) (hL:L=WO a (j+1)):sumF a.n.toNat (WO a (j+1))+(if fl then 1 else 0)<sumF a.n.toNat (WO a j)+(if true then 1 else 0):=by
 cases hf:fl
 · have h1:=h.no hf;rw [hL] at h1;rw [h1];simp
 · have h1:=h.yes hf;rw [hL] at h1;simp;omega
theorem ZjY {n:Nat} {L:List Int} (h:FarOk n L) {i:Nat} {d:Int} (hd:L[i]? =some d): -1≤d∧d<n:=by
 have h1:=h.lo d (Xc hd)
 have h2:=h.hi d (Xc hd)
 have h3:=Za7 L
 rw [h.len] at h3
 omega
set_option maxHeartbeats 2000000 in
theorem Zbb (a : Aut) (h : AOk a):AF prog 139 [ZJ a] (· = .own 3 1 a.n.toNat ((Wz a).map pInt)):=by
 have hn0:=h.n0
 have hn1:=h.n1
 have hml:=h.ml
 have hfl:=h.fl
 rw [EI h.n0]
 refine AF.of_body 80 func139 rfl ntmps139 (Xa rfl) ?_
 intro w0 M0 vs hl hv
 obtain ⟨v0,rfl⟩:=WE hl
 clear hl hv
 refine Ze ?_
 (refine ZB 1 5 fun h1=>?_<;>refine xL 2 Za ?_<;>refine Zk ?_)
 (refine xL 11 (Zd 1 ZS) ?_<;>(refine yL 12 (Zl 1 Zg) fun v12 h=>?_;cases h)<;>refine Jy 13 Zo fun h13 ho13=>?_<;>refine xL 3 Za ?_<;>refine Zc ?_)
 rw [show List.replicate a.n.toNat (PV.val (.int .i64 0))=(List.replicate a.n.toNat (0:Int)).map pInt by rw [List.map_replicate]]
 (refine Zt ?_<;>refine xL 14 Zb (xL 15 (YH 13 Zr) (xL 16 Zb ?_))<;>refine Zc ?_)
 refine ZE (ι:={q:Nat×List Int//q.1≤a.n.toNat∧q.2.length=a.n.toNat∧∀j,j<q.1→q.2[j]? =some (-1)}) (fun k=>⟨[(1,_,_),(2,_,_),(3,_,_),(15,_,_),(16, .int .i64 k.1.1,pInt k.1.1)],[(1,_,_),(13,h13, .own 3 1 a.n.toNat (k.1.2.map pInt))]⟩) (fun k=>a.n.toNat-k.1.1) ⟨(0,List.replicate a.n.toNat 0),Xd _,XI,fun j hj=>oM⟩ (fun a w H=>H.weaken ⟨rfl,rfl,rfl,rfl,rfl,trivial⟩ ⟨rfl,rfl,trivial⟩) ?_
 rintro ⟨⟨k,L⟩,hk,hLl,hL⟩
 dsimp only
 dsimp only at hk hLl hL
 have hLm:(L.map pInt).length=a.n.toNat:=by rw [Xe];exact hLl
 refine Ze ?_
 (refine xL 17 ZQ ?_<;>refine Zc ?_)
 refine cX ?_ ?_<;>intro hb17
 · first|exact bN hb17|(
 refine Ze ?_;(refine xL 18 Zb (xL 4 Za ?_)<;>refine Zk ?_)
 (refine xL 19 Zb (xL 20 Zb (xL 21 (Yg 13 Zr) ?_))<;>refine YQ 13 Zg Wx ?_<;>refine Zk ?_)
 (refine xL 22 ZK (xL 16 Zb ?_)<;>refine Zc ?_)
 rw [Xp,←VT];refine Zn (
  ⟨(k+1,L.set k (-1)),by dsimp only;omega,by rw [Xv];exact hLl,fun j hj=>by
    dsimp only at hj ⊢;by_cases e:k=j
    · subst e;rw [X9 oM]
    · rw [Vi e];exact hL j oM⟩
  ) (by dsimp only;omega) ⟨rfl,rfl,rfl,rfl,rfl,trivial⟩ ⟨rfl,rfl,trivial⟩)
 · first | exact bN hb17 | (
 have hF0:FinK a 0 L:=FinK.start hLl fun j hj=>hL j oM;refine Ze ?_;(refine xL 23 (Zd 1 Z2) ?_<;>(refine yL 24 (Zl 1 Zy) fun v24 h=>?_;cases h)<;>refine xL 25 (ZW Zr) (xL 26 Zb ?_)<;>refine Zc ?_)
 refine ZE (ι:={q:Nat×List Int//q.1≤a.fin.length∧FinK a q.1 q.2}) (fun k=>⟨[(1,_,_),(2,_,_),(3,_,_),(24,_,_),(25,_,_),(26, .int .i64 k.1.1,pInt k.1.1)],[(1,_,_),(13,h13, .own 3 1 a.n.toNat (k.1.2.map pInt))]⟩) (fun k=>a.fin.length-k.1.1) ⟨(0,L),Xd _,hF0⟩ (fun a w H=>H.weaken ⟨rfl,rfl,rfl,rfl,rfl,rfl,trivial⟩ ⟨rfl,rfl,trivial⟩) ?_;rintro ⟨⟨k8,L8⟩,hk8,hF8⟩;dsimp only;dsimp only at hk8 hF8;(have hLm8:(L8.map pInt).length=a.n.toNat:=by rw [Xe];exact hF8.1);refine Ze ?_;(refine xL 27 ZQ ?_<;>refine Zc ?_)
 refine cX ?_ ?_<;>intro hb27
 · first|exact bN hb27|(
 obtain ⟨t,ht⟩:=Zw (show k8<a.fin.length by omega);have e1:=Yb (f:=pInt) ht;have ht2:=h.fi t (Xc ht);refine Ze ?_;(refine xL 28 (ZH Zr) ?_<;>(refine yL 29 (Ya Zg) fun v29 h=>?_;cases h)<;>refine xL 6 Za ?_<;>refine Zk ?_)
 (refine xL 30 Zb (xL 31 Zb (xL 32 (Kg 13 Zr) ?_))<;>refine YQ 13 Zg Wx ?_<;>refine Zk ?_)
 (refine xL 33 ZK (xL 26 Zb ?_)<;>refine Zc ?_)
 rw [Xp,←VT];refine Zn (
  ⟨(k8+1,L8.set t.toNat 0),Zh ht,hF8.step ht ht2.1⟩
  ) (by dsimp only;omega) ⟨rfl,rfl,rfl,rfl,rfl,rfl,trivial⟩ ⟨rfl,rfl,trivial⟩)
 · first | exact bN hb27 |(
 have hF9:=hF8.done oM;subst hF9;refine Ze ?_;(refine xL 7 Za ?_<;>refine Zc ?_)
 refine ZE (ι:={q:Nat×Bool//q.2=false→passF a.moves (WO a q.1)=WO a q.1}) (fun k=>⟨[(1,_,_),(2,_,_),(3,_,_),(7, .bool k.1.2,ZN k.1.2)],[(1,_,_),(13,h13, .own 3 1 a.n.toNat ((WO a k.1.1).map pInt))]⟩) (fun k=>sumF a.n.toNat (WO a k.1.1)+(if k.1.2 then 1 else 0)) ⟨(0,true),fun h=>Bool.noConfusion h⟩ (fun a w H=>H.weaken ⟨rfl,rfl,rfl,rfl,trivial⟩ ⟨rfl,rfl,trivial⟩) ?_;rintro ⟨⟨j,ag⟩,hag⟩;dsimp only;dsimp only at hag;refine Ze ?_;(refine xL 34 Zb ?_<;>refine Zc ?_)
 refine cX ?_ ?_<;>intro hb34
 · first | exact bN hb34|(
 refine Ze ?_;(refine xL 7 Za ?_<;>refine Zk ?_)
 (refine xL 35 (Zd 1 Zx) ?_<;>(refine yL 36 (Zl 1 ZC) fun v36 h=>?_;cases h)<;>refine xL 37 (ZW ZL) (xL 38 Zb ?_)<;>refine Zc ?_)
 refine ZE (ι:={q:Nat×List Int×Bool//q.1≤a.moves.length∧PassI a (WO a j) q.2.1 q.2.2 q.1}) (fun k=>⟨[(1,_,_),(2,_,_),(3,_,_),(36,_,_),(37,_,_),(7, .bool k.1.2.2,ZN k.1.2.2),(38, .int .i64 k.1.1,pInt k.1.1)],[(1,_,_),(13,h13, .own 3 1 a.n.toNat (k.1.2.1.map pInt))]⟩) (fun k=>a.moves.length-k.1.1) ⟨(0,WO a j,false),Xd _,PassI.start (Tv a j)⟩ (fun a w H=>H.weaken ⟨rfl,rfl,rfl,rfl,rfl,rfl,rfl,trivial⟩ ⟨rfl,rfl,trivial⟩) ?_;rintro ⟨⟨i,L2,fl⟩,hi,hP⟩;dsimp only;dsimp only at hi hP;refine Ze ?_;(refine xL 39 ZQ ?_<;>refine Zc ?_)
 refine cX ?_ ?_<;>intro hb39
 · first | exact bN hb39|(
 obtain ⟨m,hm⟩:=Zw (show i<a.moves.length by omega);have e1:=Yt Z5 a.moves i m hm;have e2:=YV Z5 hm;have hmv:=h.mv m (Xc hm);have hLl:=hP.ok.len;obtain ⟨d,hd⟩:=Zw (show m.dst.toNat<L2.length by omega);obtain ⟨e,he⟩:=Zw (show m.src.toNat<L2.length by omega);have hdb:=ZjY hP.ok hd;have heb:=ZjY hP.ok he;have e3:=Yb (f:=pInt) hd;have e4:=Yb (f:=pInt) he;(have hLm2:(L2.map pInt).length=a.n.toNat:=by rw [Xe];exact hLl);refine Ze ?_;(refine xL 40 (ZH ZL) ?_<;>(refine yL 41 (WA Z3) fun v41 h=>?_;cases h)<;>refine Zv [(.int .i64 0),(.int .i64 0),(.int .i64 0)] 3 9 Ko fun h9=>?_<;>refine Zz 9 Z3 ?_<;>refine Zk ?_)
 (refine xL 42 Zb (xL 43 (Zd 9 Yi) ?_)<;>(refine yL 44 (Zl 9 Zg) fun v44 h=>?_;cases h)<;>refine xL 45 (Kg 13 Zr) ?_<;>(refine yL 46 (Zl 13 Zg) fun v46 h=>?_;cases h)<;>refine xL 47 ZQ ?_<;>refine Zc ?_)
 refine cX ?_ ?_<;>intro hb47
 · first |exact bN hb47|(
 refine Ze ?_;(refine xL 78 ZK (xL 38 Zb ?_)<;>refine Zc ?_)
 try rw [Xp,←VT]
 first
  | (exact Zn (
      ⟨(i+1,L2.set m.src.toNat (d+1),true),Zh hm,hP.set hm hd he oM (by first|omega|(simp at hb72;omega)) oM⟩
      ) (by dsimp only;omega) ⟨rfl,rfl,rfl,rfl,rfl,rfl,rfl,trivial⟩ ⟨rfl,rfl,trivial⟩)
  | (exact Zn (
      ⟨(i+1,L2.set m.src.toNat d,true),Zh hm,hP.set hm hd he oM (by first|omega|(simp at hb72;omega)) oM⟩
      ) (by dsimp only;omega) ⟨rfl,rfl,rfl,rfl,rfl,rfl,rfl,trivial⟩ ⟨rfl,rfl,trivial⟩)
  | (exact Zn (
      ⟨(i+1,L2,fl),Zh hm,hP.skip hm hd he (by first|omega|(simp at hb72;omega))⟩
      ) (by dsimp only;omega) ⟨rfl,rfl,rfl,rfl,rfl,rfl,rfl,trivial⟩ ⟨rfl,rfl,trivial⟩))
 · first | exact bN hb47|(
 refine Ze ?_;(refine xL 48 Zb (xL 49 (Zd 9 Yi) ?_)<;>(refine yL 50 (Zl 9 Zg) fun v50 h=>?_;cases h)<;>refine xL 51 (Kg 13 Zr) ?_<;>(refine yL 52 (Zl 13 Zg) fun v52 h=>?_;cases h)<;>refine xL 10 Za ?_<;>refine Zk ?_)
 (refine xL 53 (Zd 9 Yp) ?_<;>(refine yL 54 (Zl 9 Zg) fun v54 h=>?_;cases h)<;>refine xL 55 Ww ?_<;>refine Zc ?_)
 refine cX ?_ ?_<;>intro hb55
 · first | exact bN hb55|(
 (have hst:Jl m d=d+1:=by unfold Jl;rw [UU oM]);refine Ze ?_;(refine xL 56 Zb (xL 57 ZK (xL 10 Za ?_))<;>refine Zk ?_)
 (refine xL 58 Zb (xL 59 (Zd 9 Yd) ?_)<;>(refine yL 60 (Zl 9 Zg) fun v60 h=>?_;cases h)<;>refine xL 61 (Kg 13 Zr) ?_<;>(refine yL 62 (Zl 13 Zg) fun v62 h=>?_;cases h)<;>refine xL 63 ZQ (xL 64 Zb ?_)<;>(refine bLd 64 (fun hb64=>?_) (fun hb64=>?_)<;>(first|refine kL 65 ?_|refine xL 65 Zb ?_))<;>(first|refine kL 66 ?_|refine xL 66 Zb ?_)<;>(first|refine kL 67 ?_|refine xL 67 (Zd 9 Yd) ?_)<;>(first|refine kL 68 ?_|(refine yL 68 (Zl 9 Zg) fun v68 h=>?_;cases h))<;>(first|refine kL 69 ?_|refine xL 69 (Kg 13 Zr) ?_)<;>(first|refine kL 70 ?_|(refine yL 70 (Zl 13 Zg) fun v70 h=>?_;cases h))<;>(first|refine kL 71 ?_|refine xL 71 ZQ ?_)<;>refine xL 72 ZG ?_<;>refine Zc ?_)<;>(
 refine cX ?_ ?_<;>intro hb72
 · first |exact bN hb72|(
 refine Ze ?_;(refine xL 73 Zb (xL 74 (Zd 9 Yd) ?_)<;>(refine yL 75 (Zl 9 Zg) fun v75 h=>?_;cases h)<;>refine xL 76 Zb (xL 77 (Kg 13 Zr) ?_)<;>refine YQ 13 Zg Wx ?_<;>refine Zk ?_)
 (refine xL 7 Za ?_<;>refine Zk ?_)
 (refine xL 78 ZK (xL 38 Zb ?_)<;>refine Zc ?_)
 try rw [Xp,←VT]
 first
  | (exact Zn (
      ⟨(i+1,L2.set m.src.toNat (d+1),true),Zh hm,hP.set hm hd he oM (by first|omega|(simp at hb72;omega)) oM⟩
      ) (by dsimp only;omega) ⟨rfl,rfl,rfl,rfl,rfl,rfl,rfl,trivial⟩ ⟨rfl,rfl,trivial⟩)
  | (exact Zn (
      ⟨(i+1,L2.set m.src.toNat d,true),Zh hm,hP.set hm hd he oM (by first|omega|(simp at hb72;omega)) oM⟩
      ) (by dsimp only;omega) ⟨rfl,rfl,rfl,rfl,rfl,rfl,rfl,trivial⟩ ⟨rfl,rfl,trivial⟩)
  | (exact Zn (
      ⟨(i+1,L2,fl),Zh hm,hP.skip hm hd he (by first|omega|(simp at hb72;omega))⟩
      ) (by dsimp only;omega) ⟨rfl,rfl,rfl,rfl,rfl,rfl,rfl,trivial⟩ ⟨rfl,rfl,trivial⟩))
 · first |exact bN hb72|(
 refine Ze ?_;(refine xL 78 ZK (xL 38 Zb ?_)<;>refine Zc ?_)
 try rw [Xp,←VT]
 first
  | (exact Zn (
      ⟨(i+1,L2.set m.src.toNat (d+1),true),Zh hm,hP.set hm hd he oM (by first|omega|(simp at hb72;omega)) oM⟩
      ) (by dsimp only;omega) ⟨rfl,rfl,rfl,rfl,rfl,rfl,rfl,trivial⟩ ⟨rfl,rfl,trivial⟩)
  | (exact Zn (
      ⟨(i+1,L2.set m.src.toNat d,true),Zh hm,hP.set hm hd he oM (by first|omega|(simp at hb72;omega)) oM⟩
      ) (by dsimp only;omega) ⟨rfl,rfl,rfl,rfl,rfl,rfl,rfl,trivial⟩ ⟨rfl,rfl,trivial⟩)
  | (exact Zn (
      ⟨(i+1,L2,fl),Zh hm,hP.skip hm hd he (by first|omega|(simp at hb72;omega))⟩
      ) (by dsimp only;omega) ⟨rfl,rfl,rfl,rfl,rfl,rfl,rfl,trivial⟩ ⟨rfl,rfl,trivial⟩))))
 · first | exact bN hb55|(
 (have hst:Jl m d=d:=by unfold Jl;rw [UT oM]);refine Ze ?_;(refine xL 58 Zb (xL 59 (Zd 9 Yd) ?_)<;>(refine yL 60 (Zl 9 Zg) fun v60 h=>?_;cases h)<;>refine xL 61 (Kg 13 Zr) ?_<;>(refine yL 62 (Zl 13 Zg) fun v62 h=>?_;cases h)<;>refine xL 63 ZQ (xL 64 Zb ?_)<;>(refine bLd 64 (fun hb64=>?_) (fun hb64=>?_)<;>(first|refine kL 65 ?_|refine xL 65 Zb ?_))<;>(first|refine kL 66 ?_|refine xL 66 Zb ?_)<;>(first|refine kL 67 ?_|refine xL 67 (Zd 9 Yd) ?_)<;>(first|refine kL 68 ?_|(refine yL 68 (Zl 9 Zg) fun v68 h=>?_;cases h))<;>(first|refine kL 69 ?_|refine xL 69 (Kg 13 Zr) ?_)<;>(first|refine kL 70 ?_|(refine yL 70 (Zl 13 Zg) fun v70 h=>?_;cases h))<;>(first|refine kL 71 ?_|refine xL 71 ZQ ?_)<;>refine xL 72 ZG ?_<;>refine Zc ?_)<;>(
 refine cX ?_ ?_<;>intro hb72
 · first |exact bN hb72|(
 refine Ze ?_;(refine xL 73 Zb (xL 74 (Zd 9 Yd) ?_)<;>(refine yL 75 (Zl 9 Zg) fun v75 h=>?_;cases h)<;>refine xL 76 Zb (xL 77 (Kg 13 Zr) ?_)<;>refine YQ 13 Zg Wx ?_<;>refine Zk ?_)
 (refine xL 7 Za ?_<;>refine Zk ?_)
 (refine xL 78 ZK (xL 38 Zb ?_)<;>refine Zc ?_)
 try rw [Xp,←VT]
 first
  | (exact Zn (
      ⟨(i+1,L2.set m.src.toNat (d+1),true),Zh hm,hP.set hm hd he oM (by first|omega|(simp at hb72;omega)) oM⟩
      ) (by dsimp only;omega) ⟨rfl,rfl,rfl,rfl,rfl,rfl,rfl,trivial⟩ ⟨rfl,rfl,trivial⟩)
  | (exact Zn (
      ⟨(i+1,L2.set m.src.toNat d,true),Zh hm,hP.set hm hd he oM (by first|omega|(simp at hb72;omega)) oM⟩
      ) (by dsimp only;omega) ⟨rfl,rfl,rfl,rfl,rfl,rfl,rfl,trivial⟩ ⟨rfl,rfl,trivial⟩)
  | (exact Zn (
      ⟨(i+1,L2,fl),Zh hm,hP.skip hm hd he (by first|omega|(simp at hb72;omega))⟩
      ) (by dsimp only;omega) ⟨rfl,rfl,rfl,rfl,rfl,rfl,rfl,trivial⟩ ⟨rfl,rfl,trivial⟩))
 · first |exact bN hb72|(
 refine Ze ?_;(refine xL 78 ZK (xL 38 Zb ?_)<;>refine Zc ?_)
 try rw [Xp,←VT]
 first
  | (exact Zn (
      ⟨(i+1,L2.set m.src.toNat (d+1),true),Zh hm,hP.set hm hd he oM (by first|omega|(simp at hb72;omega)) oM⟩
      ) (by dsimp only;omega) ⟨rfl,rfl,rfl,rfl,rfl,rfl,rfl,trivial⟩ ⟨rfl,rfl,trivial⟩)
  | (exact Zn (
      ⟨(i+1,L2.set m.src.toNat d,true),Zh hm,hP.set hm hd he oM (by first|omega|(simp at hb72;omega)) oM⟩
      ) (by dsimp only;omega) ⟨rfl,rfl,rfl,rfl,rfl,rfl,rfl,trivial⟩ ⟨rfl,rfl,trivial⟩)
  | (exact Zn (
      ⟨(i+1,L2,fl),Zh hm,hP.skip hm hd he (by first|omega|(simp at hb72;omega))⟩
      ) (by dsimp only;omega) ⟨rfl,rfl,rfl,rfl,rfl,rfl,rfl,trivial⟩ ⟨rfl,rfl,trivial⟩))))))
 · first|exact bN hb39|(
 have hL2:L2=WO a (j+1):=hP.done oM;(have hms:sumF a.n.toNat (WO a (j+1))+(if fl then 1 else 0)<sumF a.n.toNat (WO a j)+(if ag then 1 else 0):=by rw [show ag=true from hb34];exact hP.less hL2);refine nav ?_;rw [hL2];refine Zn (
  ⟨(j+1,fl),fun hf=>by
    have h1:=hP.no hf;rw [hL2] at h1;show passF a.moves (WO a (j+1))=WO a (j+1);rw [h1];exact h1⟩
  ) (hms) ⟨rfl,rfl,rfl,rfl,trivial⟩ ⟨rfl,rfl,trivial⟩))
 · first|exact bN hb34|(
 refine Ze ?_;(refine xL 79 Zb (xL 2 Za ?_)<;>refine Zc ?_)
 refine Kk 13 (results139) rfl rfl ?_;rw [Zmq (hag (by simpa using hb34))])))
theorem YZ:ElT prog 139 4 1 1 (.bool false):=⟨underlying139,by kernel_rfl,rfl,dC⟩
theorem EJ:ElT prog 194 37 1 24 (.slice none 0 0):=⟨underlying194,by kernel_rfl,rfl,dC⟩
theorem ZU:ElT prog 37 93 3 24 (.agg #[(.int .i64 0),(.int .i64 0),(.int .i64 0)]):=⟨underlying37,by kernel_rfl,rfl,dC⟩
theorem EK:W1 prog 196=some ((.agg #[(.int .i64 0),(.slice none 0 0),(.slice none 0 0)]),([0,1,2]:List Nat).map fun o=>(o,1)):=by kernel_rfl
theorem YK:(prog.info? 37).map (·.size)=some 1:=by kernel_rfl
theorem SN:(prog.info? 4).map (·.size)=some 1:=by kernel_rfl
def ZcP (e:Nat) (l:List Mv):PV:= .own e 3 l.length (l.flatMap cMv)
theorem ZhQ (e:Nat) (l:List Mv):share (ZcP e l)=pMvs l:=by
 unfold ZcP
 rw [share,Yr,Ut];rfl
def G7 (ms:List Mv) (s:Nat):List Mv:=ms.filter fun m=>decide (m.src=(s:Int))
def Gf (e n:Nat) (ms:List Mv):List PV:=(List.range n).map fun s=>ZcP e (G7 ms s)
theorem K1 (e n:Nat) (ms:List Mv):(Gf e n ms).length=n:=by unfold Gf;simp
theorem Rx (e:Nat) {n s:Nat} (ms:List Mv) (h:s<n):(Gf e n ms)[s]? =some (ZcP e (G7 ms s)):=by
 unfold Gf;rw [Xg,VJ h];rfl
theorem ZcQ (e:Nat) {n:Nat} {ms:List Mv} {m:Mv} (h0:0≤m.src) (h:m.src<n):(Gf e n ms).set m.src.toNat (ZcP e (G7 ms m.src.toNat++[m]))=Gf e n (ms++[m]):=by
 apply Vv
 intro s
 rcases XD s n with hs|hs
 · rw [Rx e _ hs];by_cases e1:m.src.toNat=s
   · subst e1;rw [X9 (by rw [K1];exact hs)];congr 2;unfold G7;rw [XV];congr 1;simp only [List.filter_cons,List.filter_nil];rw [UR (show m.src=((m.src.toNat:Nat):Int) by omega)];rfl
   · rw [Vi e1,Rx e _ hs];congr 2;unfold G7;rw [XV];simp only [List.filter_cons,List.filter_nil];rw [US (show ¬m.src=(s:Int) by omega)];simp
 · rw [XL (by rw [Xv,K1];exact hs),XL (by rw [K1];exact hs)]
theorem ZjZ (e n:Nat):∀(i:Nat) (p p':PV),(List.replicate n (PV.val (.slice none 0 0)))[i]? =some p→(Gf e n [])[i]? =some p'→ZnE p p':=fun i p p' h1 h2=>by
 have hi:=Zh h2
 rw [K1] at hi
 rw [Rx e _ hi] at h2
 rw [UO,UU hi] at h1
 cases h1;cases h2
 exact .inr ⟨rfl,e,3,rfl⟩
theorem ZcR (ms:List Mv) (s:Nat):(G7 ms s).length≤ms.length:=Vg _ _
def R8 (a:Aut) (k:Nat):List PV:=(List.range a.n.toNat).map fun s=>ZN ((a.fin.take k).any fun t=>decide (t=(s:Nat)))
theorem Tz (a:Aut) (k:Nat):(R8 a k).length=a.n.toNat:=by unfold R8;simp
theorem EL {a:Aut} {k s:Nat} (h:s<a.n.toNat):(R8 a k)[s]? =some (ZN ((a.fin.take k).any fun t=>decide (t=(s:Nat)))):=by
 unfold R8;rw [Xg,VJ h];rfl
theorem Zfn {a:Aut} {k:Nat} {t:Int} (ht:a.fin[k]? =some t) (h0:0≤t):(R8 a k).set t.toNat (ZN true)=R8 a (k+1):=by
 apply Vv
 intro s
 rcases XD s a.n.toNat with hs|hs
 · rw [EL hs];rw [ZR ht,VA];simp only [Ua,Ub,Vh];by_cases e:t.toNat=s
   · subst e;rw [X9 (by rw [Tz];exact hs),UR (show t=((t.toNat:Nat):Int) by omega),Bool.or_true]
   · rw [Vi e,EL hs,US (show ¬t=(s:Int) by omega),Vh]
 · rw [XL (by rw [Xv,Tz];exact hs),XL (by rw [Tz];exact hs)]
theorem Zfo (a:Aut):List.replicate a.n.toNat (PV.val (.bool false))=R8 a 0:=by
 apply Vv
 intro s
 rcases XD s a.n.toNat with hs|hs
 · rw [EL hs,UO,UU hs];rfl
 · rw [XL (by rw [XI];exact hs),XL (by rw [Tz];exact hs)]
theorem Zj0 (e0 e1 e2:Nat) (a:Aut) {k1 k2:Nat} (h1:a.moves.length≤k1) (h2:a.fin.length≤k2):JV [pInt a.syms,PV.own e0 1 a.n.toNat (Gf e1 a.n.toNat (a.moves.take k1)),PV.own e2 1 a.n.toNat (R8 a k2)]=[pInt a.syms,Za5 a,ZjQ a]:=by
 rw [Xj h1]
 simp only [JV,share]
 congr 1
 congr 1
 · unfold Za5 Gf;rw [Yr,XG];congr 1;exact VQ fun s _=>ZhQ e1 _
 · congr 1;unfold ZjQ R8;rw [Yr,XG,Xj h2];rfl
theorem Zj1 (e:Nat) (L:List Mv) (x:Mv):PV.own e 3 (L.length+1) (L.flatMap cMv++cMv x)=ZcP e (L++[x]):=by unfold ZcP;simp
set_option maxHeartbeats 2000000 in
theorem T0 (a:Aut) (h:AOk a):AF prog 110 [ZJ a] (· =pGr a):=by
 have hn0:=h.n0
 have hn1:=h.n1
 have hml:=h.ml
 have hfl:=h.fl
 rw [EI h.n0]
 refine AF.of_body 59 func110 rfl ntmps110 (Xa rfl) ?_
 intro w0 M0 vs hl hv
 obtain ⟨v0,rfl⟩:=WE hl
 clear hl hv
 refine Ze ?_
 (refine ZB 1 5 fun h1=>?_<;>refine xL 2 Za ?_<;>refine Zc ?_)
 (refine ZZ (fun i=>([]:List Nat).elem i) [1] kR ?_<;>refine xD 0 8 rfl (Zd 1 ZT) ?_<;>(refine yD 1 9 rfl (Zl 1 Zg) fun v9 h=>?_;cases h)<;>refine xD 2 10 rfl (Zd 1 ZS) ?_<;>(refine yD 3 11 rfl (Zl 1 Zg) fun v11 h=>?_;cases h)<;>refine xD 5 13 rfl (Zd 1 ZS) ?_<;>(refine yD 6 14 rfl (Zl 1 Zg) fun v14 h=>?_;cases h)<;>(refine YY 4 7 kR ?_ ?_;rotate_right;(focus ((refine Zm rfl fun w9 M9 N9 DQ back=>?_)<;>refine Jy 15 YZ fun h15 ho15=>?_<;>refine Zj (back _ (nrm ?_))<;>(refine Zp 4 kR ?_)<;>(refine Zm rfl fun w9 M9 N9 DQ back=>?_)<;>refine Jy 12 EJ fun h12 ho12=>?_<;>refine Zj (back _ (nrm ?_))<;>refine xE 8 16 rfl (ZO EK) ?_<;>(refine Zp 9 kR ?_)<;>(refine Zm rfl fun w9 M9 N9 DQ back=>?_)<;>refine ZB 17 3 fun h17=>?_<;>refine Zj (back _ (nrm ?_))<;>(refine Zp 10 kR ?_)<;>(refine Zm rfl fun w9 M9 N9 DQ back=>?_)<;>refine xL 3 Za ?_<;>refine Zj (back _ (nrm ?_))));rotate_right;(focus ((refine Zm rfl fun w9 M9 N9 DQ back=>?_)<;>refine Jy 12 EJ fun h12 ho12=>?_<;>refine Zj (back _ (nrm ?_))<;>(refine Zp 7 kR ?_)<;>(refine Zm rfl fun w9 M9 N9 DQ back=>?_)<;>refine Jy 15 YZ fun h15 ho15=>?_<;>refine Zj (back _ (nrm ?_))<;>refine xE 8 16 rfl (ZO EK) ?_<;>(refine Zp 9 kR ?_)<;>(refine Zm rfl fun w9 M9 N9 DQ back=>?_)<;>refine ZB 17 3 fun h17=>?_<;>refine Zj (back _ (nrm ?_))<;>(refine Zp 10 kR ?_)<;>(refine Zm rfl fun w9 M9 N9 DQ back=>?_)<;>refine xL 3 Za ?_<;>refine Zj (back _ (nrm ?_)))))<;>refine YC kR (nav ?_)<;>try dsimp only)<;>(
 refine Zq (WF (l:=12) (Gf 93 a.n.toNat []) rfl (by rw [K1,XI]) (ZjZ _ _)) fun _=>?_;rw [Zfo a];(refine Zt ?_<;>refine xL 18 (Zd 1 Zx) ?_<;>(refine yL 19 (Zl 1 ZC) fun v19 h=>?_;cases h)<;>refine xL 20 (ZW ZL) (xL 21 Zb ?_)<;>refine Zc ?_)
 refine ZE (ι:={q:Nat//q≤a.moves.length}) (fun k=>⟨[(1,_,_),(2,_,_),(3,_,_),(19,_,_),(20,_,_),(21, .int .i64 k.1,pInt k.1)],[(1,_,_),(15,_,_),(17,h17, .own 196 3 1 [pInt a.syms, .val h12, .val h15]),(12,h12, .own 37 1 a.n.toNat (Gf 93 a.n.toNat (a.moves.take k.1)))]⟩) (fun k=>a.moves.length-k.1) ⟨0,Xd _⟩ (fun a w H=>H.weaken ⟨rfl,rfl,rfl,rfl,rfl,rfl,trivial⟩ ⟨rfl,rfl,rfl,rfl,trivial⟩) ?_;rintro ⟨k,hk⟩;dsimp only;refine Ze ?_;(refine xL 22 ZQ ?_<;>refine Zc ?_)
 refine cX ?_ ?_<;>intro hb22
 · first|exact bN hb22|(
 obtain ⟨m,hm⟩:=Zw (show k<a.moves.length by omega);have e1:=Yt Z5 a.moves k m hm;have e2:=YV Z5 hm;have hmv:=h.mv m (Xc hm);have hi:m.src.toNat<a.n.toNat:=oM;refine Ze ?_;(refine xL 23 (ZH ZL) ?_<;>(refine yL 24 (WA Z3) fun v24 h=>?_;cases h)<;>refine Zv [(.int .i64 0),(.int .i64 0),(.int .i64 0)] 3 5 Ko fun h5=>?_<;>refine Zz 5 Z3 ?_<;>refine Zc ?_)
 refine Zq (We (l:=12) (l':=201) (j:=m.src.toNat) rfl (Rx _ _ hi) rfl rfl) fun i=>?_;obtain ⟨m1,hm1⟩:=i;dsimp only;(have e3:((Gf 93 a.n.toNat (a.moves.take k)).set m.src.toNat (.val m1))[m.src.toNat*1]? =some (.val m1):=by rw [Xp,X9 (by rw [K1];exact hi)]);(have e4:((Gf 93 a.n.toNat (a.moves.take k)).set m.src.toNat (.val m1)).length=a.n.toNat:=by rw [Xv,K1]);have e5:=ZcR (a.moves.take k) m.src.toNat;rw [Xn] at e5;(refine ZZ (fun i=>([18]:List Nat).elem i) [5,12,17] kR ?_<;>refine xD 0 25 rfl Zb ?_<;>refine xD 1 26 rfl (ZeT 17) ?_<;>refine xD 2 27 rfl (Zd 17 Ja) ?_<;>(refine yD 3 28 rfl (Zl 17 Gd) fun v28 h=>?_;cases h)<;>refine xD 4 29 rfl (Zd 5 Yd) ?_<;>(refine yD 5 30 rfl (Zl 5 Zg) fun v30 h=>?_;cases h)<;>refine xD 6 31 rfl Zb ?_<;>refine xD 7 32 rfl (ZeT 17) ?_<;>refine xD 8 33 rfl (Zd 17 Ja) ?_<;>(refine yD 9 34 rfl (Zl 17 Gd) fun v34 h=>?_;cases h)<;>refine xD 10 35 rfl (Zd 5 Yd) ?_<;>(refine yD 11 36 rfl (Zl 5 Zg) fun v36 h=>?_;cases h)<;>refine xD 12 37 rfl (Kg 12 Ge) ?_<;>(refine yD 13 38 rfl (Zl 12 ZC) fun v38 h=>?_;cases h)<;>(refine yE 14 39 rfl (Zs 5 Z3) fun v39 h=>?_;cases h)<;>(refine Zp 15 kR ?_)<;>(refine Zm rfl fun w9 M9 N9 DQ back=>?_)<;>refine YI 40 ZU fun h40 ho40=>?_<;>refine Zj (back _ (nrm ?_))<;>(refine Zp 16 kR ?_)<;>(refine Zm rfl fun w9 M9 N9 DQ back=>?_)<;>refine ZY 201 40 41 ZU fun h41 ho41=>?_<;>refine Zj (back _ (nrm ?_))<;>refine xE 17 42 rfl (Kg 12 Ge) ?_<;>(refine Zp 18 kR ?_)<;>(refine Kb rfl rfl kR fun DQ back=>?_)<;>refine YQ 12 ZC YK ?_<;>refine Zj (back _ (nav ?_))<;>try dsimp only)
 (refine Zt ?_<;>refine xL 43 ZK (xL 21 Zb ?_)<;>refine Zc ?_)
 refine Kn (Zn6 (l:=12) (l':=41) (j:=m.src.toNat) rfl (by rw [Xp];exact X9 (by rw [Xv,K1];exact hi)) rfl rfl) fun _=>?_;rw [Xp,List.set_set,List.set_set];rw [show List.take 3 (List.drop 0 (Sv (List.map PV.val [Value.int IntKind.i64 0,Value.int IntKind.i64 0,Value.int IntKind.i64 0]) 0 (cMv m)))=cMv m from rfl];rw [show PV.own 93 3 ((G7 (a.moves.take k) m.src.toNat).length+1) ((G7 (a.moves.take k) m.src.toNat).flatMap cMv++cMv m)=ZcP 93 (G7 (a.moves.take k) m.src.toNat++[m]) from Zj1 _ _ _];rw [ZcQ _ oM oM,←ZR hm];refine Zn (
  ⟨k+1,Zh hm⟩
  ) (by dsimp only;omega) ⟨rfl,rfl,rfl,rfl,rfl,rfl,trivial⟩ ⟨rfl,rfl,rfl,rfl,trivial⟩)
 · first |exact bN hb22|(
 refine Ze ?_;(refine xL 44 (Zd 1 Z2) ?_<;>(refine yL 45 (Zl 1 Zy) fun v45 h=>?_;cases h)<;>refine xL 46 (ZW Zr) (xL 47 Zb ?_)<;>refine Zc ?_)
 refine ZE (ι:={q:Nat//q≤a.fin.length}) (fun k=>⟨[(1,_,_),(2,_,_),(3,_,_),(45,_,_),(46,_,_),(47, .int .i64 k.1,pInt k.1)],[(1,_,_),(12,_,_),(17,h17, .own 196 3 1 [pInt a.syms, .val h12, .val h15]),(15,h15, .own 4 1 a.n.toNat (R8 a k.1))]⟩) (fun k=>a.fin.length-k.1) ⟨0,Xd _⟩ (fun a w H=>H.weaken ⟨rfl,rfl,rfl,rfl,rfl,rfl,trivial⟩ ⟨rfl,rfl,rfl,rfl,trivial⟩) ?_;rintro ⟨k8,hk8⟩;dsimp only;refine Ze ?_;(refine xL 48 ZQ ?_<;>refine Zc ?_)
 refine cX ?_ ?_<;>intro hb48
 · first|exact bN hb48|(
 obtain ⟨t,ht⟩:=Zw (show k8<a.fin.length by omega);have e1:=Yb (f:=pInt) ht;have ht2:=h.fi t (Xc ht);have e6:=Tz a k8;refine Ze ?_;(refine xL 49 (ZH Zr) ?_<;>(refine yL 50 (Ya Zg) fun v50 h=>?_;cases h)<;>refine xL 7 Za ?_<;>refine Zk ?_)
 (refine xL 51 Zb (xL 52 (ZeT 17) (xL 53 (Zd 17 G6) ?_))<;>(refine yL 54 (Zl 17 Ym) fun v54 h=>?_;cases h)<;>refine xL 55 Zb (xL 56 (Kg 15 Yo) ?_)<;>refine YQ 15 Wa SN ?_<;>refine Zk ?_)
 (refine xL 57 ZK (xL 47 Zb ?_)<;>refine Zc ?_)
 rw [Xp,Zfn ht ht2.1];refine Zn (
  ⟨k8+1,Zh ht⟩
  ) (by dsimp only;omega) ⟨rfl,rfl,rfl,rfl,rfl,rfl,trivial⟩ ⟨rfl,rfl,rfl,rfl,trivial⟩)
 · first|exact bN hb48|(
 refine Ze ?_;(refine xL 58 Zb (xL 2 Za ?_)<;>refine Zc ?_)
 refine YG (Zn6 (l:=17) (l':=12) (j:=1) rfl rfl rfl rfl) fun _=>?_;refine YG (Zn6 (l:=17) (l':=15) (j:=2) rfl rfl rfl rfl) fun _=>?_;refine YG (HO (l:=17) (t:=2) (j:=0) rfl Nat.one_pos rfl) fun _=>?_;refine ZA (results110) rfl ?_;exact congrArg (PV.sptr 0) (Zj0 _ _ _ a oM oM))))
theorem D4:AggT prog 182 2=true:=by kernel_rfl
theorem Zf:AggT prog 39 5=true:=by kernel_rfl
theorem Yw:ElT prog 117 36 1 24 (.slice none 0 0):=⟨underlying117,by kernel_rfl,rfl,dC⟩
theorem Ls:ElT prog 183 182 2 48 (.agg #[(.slice none 0 0),(.slice none 0 0)]):=⟨underlying183,by kernel_rfl,rfl,dC⟩
theorem T1:FldT prog 182 0 0=true:=by kernel_rfl
theorem T2:FldT prog 182 1 1=true:=by kernel_rfl
theorem Z0:SlT prog 117 36 1=true:=by kernel_rfl
theorem Gg:SlT prog 183 182 2=true:=by kernel_rfl
theorem Pu:W1 prog 182=some ((.agg #[(.slice none 0 0),(.slice none 0 0)]),([0,1]:List Nat).map fun o=>(o,1)):=by kernel_rfl
theorem Zfp:ZeroT prog 182 (.agg #[(.slice none 0 0),(.slice none 0 0)]):=by unfold ZeroT;kernel_rfl
def cPf (p:Pf):List PV:=[pInts p.1,pInts p.2]
theorem Zgq (p:Pf):(cPf p).length=2:=rfl
theorem Zgr (e:Nat) (L:List Pf) (x:Pf):PV.own e 2 (L.length+1) (L.flatMap cPf++cPf x)= .own e 2 (L++[x]).length ((L++[x]).flatMap cPf):=sM
theorem Zfq (e:Nat) (L:List (List Int)) (x:List Int):PV.own e 1 (L.length+1) (L.map pInts++[pInts x])= .own e 1 (L++[x]).length ((L++[x]).map pInts):=sM
theorem ZcS (e n:Nat) (l:List (List Int)) (hn:n=l.length):share (.own e 1 n (l.map pInts))=Pk l:=by
 subst hn
 rw [share,Yr,XG]
 unfold Pk
 congr 1
def Zop (a:Aut) (n:Int) (p:PV):Prop:=
 (Z1 a=false∧p= .tup [.sl 0 [],pInt 1])∨(Z1 a=true∧(n<0∨200<n)∧p= .tup [.sl 0 [],pInt 2])∨(Z1 a=true∧0≤n∧n≤200∧Zmr a n.toNat∧p= .tup [.sl 0 [],pInt 5])∨(Z1 a=true∧0≤n∧n≤200∧¬Zmr a n.toNat∧p= .tup [Pk (Tw a n.toNat (n.toNat+1)),pInt 0])
theorem Zj2 (a:Aut) (n:Int) (p:Pf) (c:Nat):(Te a n p c).length≤1:=by unfold Te;split<;>simp
theorem O3 (a:Aut) (n:Int) (p:Pf):∀c,((List.range c).flatMap (Te a n p)).length≤c
 |0=>sM
 | c+1=>by
   rw [Pt,Xb];have:=O3 a n p c;have:=Zj2 a n p c;omega
theorem Zoq {a:Aut} (h:AOk a) (n k:Nat):∀p∈lvP a n k,InS a p.2∧p.2.length≤2000:=fun p hp=>by
 rw [Zgp h.mi h.st] at hp
 obtain ⟨q,hq,rfl⟩:=Xl.1 hp
 have h1:=ZjX h.mi h.st n k q hq
 refine ⟨HU h1 _ _,?_⟩
 have h2:Srt q.2:=by
  cases k with
  | zero=>
    simp only [lvR,Xi] at hq;subst hq;exact KF h.mi h.st
  | succ k=>
    rw [lvR] at hq;obtain ⟨r,_,hr⟩:=XP.1 hq;obtain ⟨c,_,hc⟩:=XP.1 hr;unfold ZjV at hc;split at hc
    · simp only [Xi] at hc;subst hc;exact KF h.mi (KC h.mi c _)
    · simp at hc
 have h3:Srt (WN q.2 (Wz a) ((n:Int)-k)):=ED (a:=a) h2 _ _
 have h4:=nodup_len a.n.toNat _ (h3.imp fun h=>oM) fun s hs=>by
  have:=HU h1 (Wz a) ((n:Int)-k) s hs;have:=h.n0;omega
 have:=h.n1
 show (WN q.2 (Wz a) ((n:Int)-k)).length≤2000
 omega
theorem ZcT {a:Aut} {n:Nat}:∀k,∀p∈lvP a n k,p.1.length=k
 | 0,p,hp=>by
   simp only [lvP,Xi] at hp;subst hp;rfl
 | k +1,p,hp=>by
   rw [lvP] at hp;obtain ⟨r,hr,hr2⟩:=XP.1 hp;obtain ⟨c,_,hc⟩:=XP.1 hr2;unfold Te at hc;split at hc
   · simp at hc
   · simp only [Xi] at hc;subst hc;rw [Xb,ZcT k r hr];rfl
set_option maxHeartbeats 4000000 in
theorem Zj3 (a : Aut) (n : Int):AF prog 91 [ZJ a,pInt n] (Zop a n):=by
 refine AF.of_body 109 func91 rfl ntmps91 (Xa rfl) ?_
 intro w0 M0 vs hl hv
 obtain ⟨v0,v1,rfl⟩:=YX hl
 obtain rfl:=hv 1 _ _ rfl rfl
 clear hl hv
 refine Ze ?_
 (refine ZB 2 5 fun h2=>?_<;>refine xL 4 Za (xL 5 Za ?_)<;>refine Zk ?_)
 ((refine yL 16 (Zs 2 Zf) fun v16 h=>?_;cases h)<;>(refine cS 17 (cA call107 (WH a)) fun v17 h=>?_;cases h)<;>refine xL 18 Z' (xL 15 Za ?_)<;>refine Zc ?_)
 refine cX ?_ ?_<;>intro hb15
 · first|exact bN hb15|(
 refine Ze ?_;(refine xL 4 Za (xL 5 Za ?_)<;>refine Zc ?_)
 refine YG (Y' (t:=4) rfl) fun _=>?_;exact KH (results91) rfl rfl (.inl ⟨by simpa using hb15,rfl⟩))
 · first | exact bN hb15 | (
 (have hok:Z1 a=true:=by simpa using hb15);have hA:=Kp hok;have hn1:=hA.n1;have hs1:=hA.s1;have hs0:=hA.s0;refine Ze ?_;(refine xL 20 Zb (xL 21 ZQ (xL 22 Zb ?_))<;>(refine bLd 22 (fun hb22=>?_) (fun hb22=>?_)<;>(first|refine kL 23 ?_|refine xL 23 Zb ?_))<;>(first|refine kL 24 ?_|refine xL 24 Yz ?_)<;>refine xL 25 ZG (xL 19 Za ?_)<;>refine Zc ?_)<;>(
 refine cX ?_ ?_<;>intro hb19
 · first|exact bN hb19|(
 refine Ze ?_;(refine xL 4 Za (xL 5 Za ?_)<;>refine Zc ?_)
 refine YG (Y' (t:=4) rfl) fun _=>?_;exact KH (results91) rfl rfl (.inr (.inl ⟨hok,by first|omega|(simp at hb19;omega),rfl⟩)))
 · first | exact bN hb19 |(
 (have hnb:0≤n∧n≤200:=by simp at hb19;omega);obtain ⟨N,rfl⟩:∃N:Nat,n=(N:Int):=⟨n.toNat,oM⟩;have hfl:=(HT a).len;have hsb:Y3 a a.start=Y3 a a.start:=rfl;have hcl:=O1 hA.mi hA.st;have hci:=SJ hA.mi hA.st;refine nav ?_;(refine ZZ (fun i=>([]:List Nat).elem i) [2] kR ?_<;>(refine yD 0 26 rfl (Zs 2 Zf) fun v26 h=>?_;cases h)<;>(refine yD 2 28 rfl (Zs 2 Zf) fun v28 h=>?_;cases h)<;>(refine Zp 1 kR ?_)<;>(refine Zm rfl fun w9 M9 N9 DQ back=>?_)<;>(refine cS 27 (cA call110 (T0 a hA)) fun v27 h=>?_;cases h)<;>refine Zj (back _ (nrm ?_))<;>(refine Zp 3 kR ?_)<;>(refine Zm rfl fun w9 M9 N9 DQ back=>?_)<;>(refine cO 29 (cA call139 (Zbb a hA)) fun v29 ho29=>?_;refine Zu (En.freeze (l:=29) (t:=29) rfl rfl) fun _=>?_;rw [ZV _ _ _ hfl.symm])<;>refine Zj (back _ (nrm ?_))<;>refine xE 4 6 rfl Za ?_<;>refine xE 5 7 rfl Za ?_<;>refine YC kR (nav ?_)<;>try dsimp only)
 (refine Zt ?_<;>refine xL 8 Za ?_<;>refine Zk ?_)
 (refine xL 30 Zb (xL 31 (Zd 2 Z9) ?_)<;>(refine yL 32 (Zl 2 Zy) fun v32 h=>?_;cases h)<;>(refine cO 33 (cA call111 (Po a a.start hn1 hA.mi hA.st)) fun v33 ho33=>?_;refine Zu (En.freeze (l:=33) (t:=33) rfl rfl) fun _=>?_;rw [ZV _ _ _ rfl])<;>refine xL 34 Zb (xL 35 Zb ?_)<;>(refine cO 36 (cA call140 (Za4 (Y3 a a.start) (Wz a) N oM (fun s hs=>by have:=hci s hs;omega))) fun v36 ho36=>?_;refine Zu (En.freeze (l:=36) (t:=36) rfl rfl) fun _=>?_;rw [ZV _ _ _ rfl])<;>refine xL 37 (ZO Pu) ?_<;>refine YI 38 Ls fun h38 ho38=>?_<;>refine xL 9 Za ?_<;>refine Zc ?_)
 refine Zq (WF (l:=38) [.own 3 1 0 [],pInts (WN (Y3 a a.start) (Wz a) N)] rfl rfl (fun i p p' h1 h2=>by
  match i with
  |0=>cases h1;cases h2;exact .inr ⟨rfl,_,_,rfl⟩
  |1=>cases h1;cases h2;exact .inl rfl
  |i+2=>simp at h2)) fun _=>?_
 refine Zq (focus (l:=38) (l':=300) (j:=0) rfl rfl rfl) fun v300=>?_;refine Zq (Z7 (l:=38) (l':=300) (j:=0) rfl rfl rfl rfl) fun _=>?_;dsimp only [List.set];refine Zq (KT 200 36 1 rfl) fun _=>?_;refine Zq (ZD (l:=38) 201 rfl rfl) fun _=>?_;have hL0:[share (PV.own 3 1 0 []),pInts (WN (Y3 a a.start) (Wz a) N)]=(lvP a N 0).flatMap cPf:=rfl;rw [hL0];refine ZE (ι:={q:Nat×Value×Value//q.1≤N+1∧(∀j,j≤q.1→(lvP a N j).length≤2000)∧(Tw a N q.1).length≤q.1*2000∧q.2.1.oneCell'=true∧q.2.2.oneCell'=true}) (fun k=>⟨[(2,_,_),(6,_,_),(7,_,_),(1, .int .i64 ((N:Int)-(k.1.1:Nat)),pInt ((N:Int)-(k.1.1:Nat))),(8,k.1.2.1, .val k.1.2.1),(9,k.1.2.2, .val k.1.2.2)],[(2,_,_),(200,k.1.2.1, .own 36 1 (Tw a N k.1.1).length ((Tw a N k.1.1).map pInts)),(201,k.1.2.2, .own 182 2 (lvP a N k.1.1).length ((lvP a N k.1.1).flatMap cPf))]⟩) (fun k=>N+1-k.1.1) ⟨(0, .slice none 0 0,h38),Xd _,fun j hj=>by have h9:j=0:=(by dsimp only at hj;omega);subst h9;simp [lvP],by simp [Tw],rfl,ho38⟩ (fun a w H=>H.weaken ⟨rfl,rfl,rfl,rfl,rfl,rfl,trivial⟩ ⟨rfl,rfl,rfl,trivial⟩) ?_;rintro ⟨⟨lev,hO,hL⟩,hk,hlv,hsm,hoO,hoL⟩;dsimp only;dsimp only at hk hlv hsm hoO hoL;refine Ze ?_;(refine xL 39 Zb (xL 40 Ww ?_)<;>refine Zc ?_)
 refine cX ?_ ?_<;>intro hb40
 · first | exact bN hb40|(
 have hkN:lev≤N:=oM;have hlk:=hlv lev (Xh _);have hsm2:(Tw a N lev).length≤402000:=oM;have hlin:=Zoq hA N lev;have hlw:=ZcT (a:=a) (n:=N) lev;refine Ze ?_;(refine xL 10 Za ?_<;>refine Zk ?_)
 (refine xL 43 Zb (xL 44 (YH 201 Gg) (xL 45 Zb ?_))<;>refine Zc ?_)
 refine Zq (KT 202 182 2 rfl) fun _=>?_;refine ZE (ι:={q:Nat×Value×Value×List (List Int)×List Pf//q.1≤(lvP a N lev).length∧q.2.2.2.2.length≤2000∧q.2.1.oneCell'=true∧q.2.2.1.oneCell'=true∧q.2.2.2.1=Tw a N lev++Oj a ((lvP a N lev).take q.1)∧q.2.2.2.2=((lvP a N lev).take q.1).flatMap (R6 a ((N:Int)-lev))}) (fun k=>⟨[(1,_,_),(2,_,_),(6,_,_),(7,_,_),(9,_,_),(43,_,_),(44,_,_),(8,k.1.2.1, .val k.1.2.1),(10,k.1.2.2.1, .val k.1.2.2.1),(45, .int .i64 k.1.1,pInt k.1.1)],[(2,_,_),(201,_,_),(200,k.1.2.1, .own 36 1 k.1.2.2.2.1.length (k.1.2.2.2.1.map pInts)),(202,k.1.2.2.1, .own 182 2 k.1.2.2.2.2.length (k.1.2.2.2.2.flatMap cPf))]⟩) (fun k=>(lvP a N lev).length-k.1.1) ⟨(0,hO, .slice none 0 0,Tw a N lev,[]),Xd _,Xd _,hoO,rfl,(Xr _).symm,rfl⟩ (fun a w H=>H.weaken ⟨rfl,rfl,rfl,rfl,rfl,rfl,rfl,rfl,rfl,rfl,trivial⟩ ⟨rfl,rfl,rfl,rfl,trivial⟩) ?_;rintro ⟨⟨i,hO2,hX,O,X⟩,hi,hkl,hoO2,hoX,hOE,hXE⟩;dsimp only;dsimp only at hi hkl hoO2 hoX hOE hXE;have hol:=ZcL a ((lvP a N lev).take i);rw [Xn] at hol;(have hoL2:O.length≤404000:=by rw [hOE,Xb];omega);refine Ze ?_;(refine xL 46 ZQ ?_<;>refine Zc ?_)
 refine cX ?_ ?_<;>intro hb46
 · first | exact bN hb46|(
 obtain ⟨x,hx⟩:=Zw (show i<(lvP a N lev).length by omega);have e1:=Yt Zgq (lvP a N lev) i x hx;have e2:=YV Zgq hx;have hxi:=hlin x (Xc hx);have hxw:=hlw x (Xc hx);have hO3:=ZhP (a:=a) hx;have hK3:=EF (R6 a ((N:Int)-lev)) hx;refine Ze ?_;(refine xL 47 (Yg 201 Gg) ?_<;>(refine yL 48 (Zs 201 D4) fun v48 h=>?_;cases h)<;>refine Zv [(.slice none 0 0),(.slice none 0 0)] 2 12 Zfp fun h12=>?_<;>refine Zz 12 D4 ?_<;>refine Zk ?_)
 (refine xL 49 Zb (xL 50 (Zd 12 T2) ?_)<;>(refine yL 51 (Zl 12 Zy) fun v51 h=>?_;cases h)<;>(refine cS 52 (cA call113 (Ey a x.2 hxi.1)) fun v52 h=>?_;cases h)<;>refine Zc ?_)
 refine cX ?_ ?_<;>intro hb52
 · first | exact bN hb52|(
 rw [UU (show WS a x.2=true from hb52)] at hO3;(have hOF:O++[x.1]=Tw a N lev++Oj a ((lvP a N lev).take (i+1)):=by rw [hO3,hOE,Xu]);(have hOl2:(O++[x.1]).length=O.length+1:=by rw [Xb];rfl);refine Ze ?_;(refine xL 53 Zb (xL 54 (Zd 12 T1) ?_)<;>(refine yL 55 (Zl 12 Zy) fun v55 h=>?_;cases h)<;>refine ZM (kk:=1) 56 Yw fun h56 ho56=>?_<;>(refine ZY 200 56 57 Yw fun h57 ho57=>?_;refine Zu (ZD (l:=57) 200 rfl rfl) fun _=>?_;rw [Zfq])<;>refine xL 8 Za ?_<;>refine Zk ?_)
 (refine xL 58 (Zd 2 ZT) ?_<;>(refine yL 59 (Zl 2 Zg) fun v59 h=>?_;cases h)<;>refine xL 60 Zb ?_<;>refine Zc ?_)
 refine ZE (ι:={q:Nat×Value×List Pf//q.1≤a.syms.toNat∧q.2.1.oneCell'=true∧q.2.2=X++(List.range q.1).flatMap (Te a ((N:Int)-lev) x)}) (fun k=>⟨[(1,_,_),(2,_,_),(6,_,_),(7,_,_),(8,_,_),(9,_,_),(12,_,_),(43,_,_),(44,_,_),(45,_,_),(59,_,_),(10,k.1.2.1, .val k.1.2.1),(60, .int .i64 k.1.1,pInt k.1.1)],[(2,_,_),(12,_,_),(200,_,_),(201,_,_),(202,k.1.2.1, .own 182 2 k.1.2.2.length (k.1.2.2.flatMap cPf))]⟩) (fun k=>a.syms.toNat-k.1.1) ⟨(0,hX,X),Xd _,hoX,(Xr _).symm⟩ (fun a w H=>H.weaken ⟨rfl,rfl,rfl,rfl,rfl,rfl,rfl,rfl,rfl,rfl,rfl,rfl,rfl,trivial⟩ ⟨rfl,rfl,rfl,rfl,rfl,trivial⟩) ?_;rintro ⟨⟨c,hX2,X2⟩,hc,hoX2,hX2E⟩;dsimp only;dsimp only at hc hoX2 hX2E;have hkc:=O3 a ((N:Int)-lev) x c;(have hkl2:X2.length≤2100:=by rw [hX2E,Xb];omega);refine Ze ?_;(refine xL 61 ZQ ?_<;>refine Zc ?_)
 refine cX ?_ ?_<;>intro hb61
 · first | exact bN hb61|(
 have hni:=TZ hA.mi (c:Int) x.2;(have hnl:(YO a c x.2).length≤2000:=by have:=O1 hA.mi (KC hA.mi (c:Int) x.2);unfold YO;omega);have hR:=Pt (Te a ((N:Int)-lev) x) c;refine Ze ?_;(refine xL 62 Zb (xL 13 Za ?_)<;>refine Zk ?_)
 (refine xL 63 Zb (xL 64 (Zd 12 T2) ?_)<;>(refine yL 65 (Zl 12 Zy) fun v65 h=>?_;cases h)<;>refine xL 66 Zb ?_<;>(refine cO 67 (cA call112 (Za6 a x.2 c hn1 hA.ml hA.mi hxi.1 hxi.2)) fun v67 ho67=>?_;refine Zu (En.freeze (l:=67) (t:=67) rfl rfl) fun _=>?_;rw [ZV _ _ _ rfl])<;>refine xL 68 Zb (xL 69 Zb (xL 70 KM ?_))<;>(refine cO 71 (cA call140 (Za4 (YO a c x.2) (Wz a) ((N:Int)-lev-1) oM (fun s hs=>by have:=hni s hs;omega))) fun v71 ho71=>?_;refine Zu (En.freeze (l:=71) (t:=71) rfl rfl) fun _=>?_;rw [ZV _ _ _ rfl])<;>refine xL 14 Za ?_<;>refine Zk ?_)
 (refine xL 72 Zb (xL 73 (ZW Zr) (xL 74 Yz ?_))<;>refine Zc ?_)
 refine cX ?_ ?_<;>intro hb74
 · first |exact bN hb74|(
 (have hkid:Te a ((N:Int)-lev) x c=[(x.1++[(c:Int)],WN (YO a c x.2) (Wz a) ((N:Int)-lev-1))]:=by unfold Te;rw [UT oM]);rw [hkid] at hR;refine Ze ?_;(refine xL 75 Zb (xL 76 (Zd 12 T1) ?_)<;>(refine yL 77 (Zl 12 Zy) fun v77 h=>?_;cases h)<;>refine cO 78 (cA call135 (JE x.1 oM)) fun v78 ho78=>?_<;>refine xL 79 Zb ?_<;>refine ZM (kk:=1) 80 Zo fun h80 ho80=>?_<;>(refine ZY 78 80 81 Zo fun h81 ho81=>?_;refine Zu (En.freeze (l:=81) (t:=81) rfl rfl) fun _=>?_;rw [show PV.own 3 1 (x.1.length+1) (x.1.map pInt++[pInt c])= .own 3 1 (x.1++[(c:Int)]).length ((x.1++[(c:Int)]).map pInt) from Oh _ _ _,ZV _ _ _ rfl])<;>refine xL 82 Zb (xL 83 (ZO Pu) ?_)<;>refine YI 84 Ls fun h84 ho84=>?_<;>(refine ZY 202 84 85 Ls fun h85 ho85=>?_;refine Zu (ZD (l:=85) 202 rfl rfl) fun _=>?_;refine Zu (ZF (l:=202) rfl (Zgr _ X2 (x.1++[(c:Int)],WN (YO a c x.2) (Wz a) ((N:Int)-lev-1)))) fun _=>?_)<;>refine xL 10 Za ?_<;>refine Zk ?_)
 (refine xL 86 ZK (xL 60 Zb ?_)<;>refine Zc ?_)
 first
  | (exact Zn (
      ⟨(c+1,h85,X2++[(x.1++[(c:Int)],WN (YO a c x.2) (Wz a) ((N:Int)-lev-1))]),by dsimp only;omega,ho85,by dsimp only;rw [hX2E,hR,Xu]⟩
      ) (by dsimp only;omega) ⟨rfl,rfl,rfl,rfl,rfl,rfl,rfl,rfl,rfl,rfl,rfl,rfl,rfl,trivial⟩ ⟨rfl,rfl,rfl,rfl,rfl,trivial⟩)
  | (exact Zn (
      ⟨(c+1,hX2,X2),by dsimp only;omega,hoX2,by dsimp only;rw [hX2E,hR]⟩
      ) (by dsimp only;omega) ⟨rfl,rfl,rfl,rfl,rfl,rfl,rfl,rfl,rfl,rfl,rfl,rfl,rfl,trivial⟩ ⟨rfl,rfl,rfl,rfl,rfl,trivial⟩))
 · first |exact bN hb74|(
 (have hkid:Te a ((N:Int)-lev) x c=[]:=by unfold Te;rw [UU oM]);rw [hkid,Xr] at hR;refine Ze ?_;(refine xL 86 ZK (xL 60 Zb ?_)<;>refine Zc ?_)
 first
  | (exact Zn (
      ⟨(c+1,h85,X2++[(x.1++[(c:Int)],WN (YO a c x.2) (Wz a) ((N:Int)-lev-1))]),by dsimp only;omega,ho85,by dsimp only;rw [hX2E,hR,Xu]⟩
      ) (by dsimp only;omega) ⟨rfl,rfl,rfl,rfl,rfl,rfl,rfl,rfl,rfl,rfl,rfl,rfl,rfl,trivial⟩ ⟨rfl,rfl,rfl,rfl,rfl,trivial⟩)
  | (exact Zn (
      ⟨(c+1,hX2,X2),by dsimp only;omega,hoX2,by dsimp only;rw [hX2E,hR]⟩
      ) (by dsimp only;omega) ⟨rfl,rfl,rfl,rfl,rfl,rfl,rfl,rfl,rfl,rfl,rfl,rfl,rfl,trivial⟩ ⟨rfl,rfl,rfl,rfl,rfl,trivial⟩)))
 · first | exact bN hb61|(
 have hcs:c=a.syms.toNat:=oM;subst hcs;(have hXF:X2=((lvP a N lev).take (i+1)).flatMap (R6 a ((N:Int)-lev)):=by rw [hX2E,hK3,hXE];rfl);refine Ze ?_;(refine xL 87 Zb (xL 88 (YH 200 Z0) (xL 89 Zb (xL 90 (YH 202 Gg) (xL 91 ZK (xL 92 Yz (xL 93 Zb ?_))))))<;>(refine bLd 93 (fun hb93=>?_) (fun hb93=>?_)<;>(first|refine kL 94 ?_|refine xL 94 Zb ?_))<;>(first|refine kL 95 ?_|refine xL 95 (YH 200 Z0) ?_)<;>(first|refine kL 96 ?_|refine xL 96 Yz ?_)<;>refine xL 97 ZG (xL 98 Zb ?_)<;>(first|refine xL 99 Zb ?_|(refine bLd 98 (fun hb98=>?_) (fun hb98=>?_)<;>(first|refine kL 99 ?_|refine xL 99 Zb ?_)))<;>(first|refine kL 100 ?_|refine xL 100 (YH 202 Gg) ?_)<;>(first|refine kL 101 ?_|refine xL 101 Yz ?_)<;>refine xL 102 ZG ?_<;>refine Zc ?_)<;>(
 refine cX ?_ ?_<;>intro hb102
 · first|exact bN hb102|(
 refine Ze ?_;(refine xL 4 Za (xL 5 Za ?_)<;>refine Zc ?_)
 refine YG (Y' (t:=4) rfl) fun _=>?_;refine KH (results91) rfl rfl (.inr (.inr (.inl ⟨hok,oM,oM,?_,rfl⟩)));rw [XS];have hfl2:=R7 (R6 a ((N:Int)-lev)) (lvP a N lev) (i+1);have hsm5:=ζI a N (show lev+1≤N+1 by omega);rw [Tx,Xb] at hsm5;have hop5:=ZcM a (lvP a N lev) (i+1);have hOl:=congrArg List.length hOF;have hXl:=congrArg List.length hXF;simp only [Xb,Xk,XC] at hOl;by_cases hbig:2000<X2.length
 · exact .inl ⟨lev,oM,by rw [lvP];omega⟩
 · refine .inr ?_
   first
    |omega
    |(simp at hb102 hOl;omega))
 · first |exact bN hb102|(
 refine Ze ?_;(refine xL 103 ZK (xL 45 Zb ?_)<;>refine Zc ?_)
 first
  | (exact Zn (
      ⟨(i+1,_,_,O++[x.1],X2),Zh hx,(by dsimp only;first|omega|(simp at hb102;omega)),(by assumption),hoX2,hOF,hXF⟩
      ) (by dsimp only;omega) ⟨rfl,rfl,rfl,rfl,rfl,rfl,rfl,rfl,rfl,rfl,trivial⟩ ⟨rfl,rfl,rfl,rfl,trivial⟩)
  | (exact Zn (
      ⟨(i+1,hO2,hX2,O,X2),Zh hx,(by dsimp only;first|omega|(simp at hb102;omega)),(by assumption),hoX2,hOF,hXF⟩
      ) (by dsimp only;omega) ⟨rfl,rfl,rfl,rfl,rfl,rfl,rfl,rfl,rfl,rfl,trivial⟩ ⟨rfl,rfl,rfl,rfl,trivial⟩)))))
 · first | exact bN hb52|(
 rw [UT (show ¬WS a x.2=true by simpa [WS] using hb52),Xr] at hO3;(have hOF:O=Tw a N lev++Oj a ((lvP a N lev).take (i+1)):=by rw [hO3,hOE]);refine Ze ?_;(refine xL 58 (Zd 2 ZT) ?_<;>(refine yL 59 (Zl 2 Zg) fun v59 h=>?_;cases h)<;>refine xL 60 Zb ?_<;>refine Zc ?_)
 refine ZE (ι:={q:Nat×Value×List Pf//q.1≤a.syms.toNat∧q.2.1.oneCell'=true∧q.2.2=X++(List.range q.1).flatMap (Te a ((N:Int)-lev) x)}) (fun k=>⟨[(1,_,_),(2,_,_),(6,_,_),(7,_,_),(8,_,_),(9,_,_),(12,_,_),(43,_,_),(44,_,_),(45,_,_),(59,_,_),(10,k.1.2.1, .val k.1.2.1),(60, .int .i64 k.1.1,pInt k.1.1)],[(2,_,_),(12,_,_),(200,_,_),(201,_,_),(202,k.1.2.1, .own 182 2 k.1.2.2.length (k.1.2.2.flatMap cPf))]⟩) (fun k=>a.syms.toNat-k.1.1) ⟨(0,hX,X),Xd _,hoX,(Xr _).symm⟩ (fun a w H=>H.weaken ⟨rfl,rfl,rfl,rfl,rfl,rfl,rfl,rfl,rfl,rfl,rfl,rfl,rfl,trivial⟩ ⟨rfl,rfl,rfl,rfl,rfl,trivial⟩) ?_;rintro ⟨⟨c,hX2,X2⟩,hc,hoX2,hX2E⟩;dsimp only;dsimp only at hc hoX2 hX2E;have hkc:=O3 a ((N:Int)-lev) x c;(have hkl2:X2.length≤2100:=by rw [hX2E,Xb];omega);refine Ze ?_;(refine xL 61 ZQ ?_<;>refine Zc ?_)
 refine cX ?_ ?_<;>intro hb61
 · first | exact bN hb61|(
 have hni:=TZ hA.mi (c:Int) x.2;(have hnl:(YO a c x.2).length≤2000:=by have:=O1 hA.mi (KC hA.mi (c:Int) x.2);unfold YO;omega);have hR:=Pt (Te a ((N:Int)-lev) x) c;refine Ze ?_;(refine xL 62 Zb (xL 13 Za ?_)<;>refine Zk ?_)
 (refine xL 63 Zb (xL 64 (Zd 12 T2) ?_)<;>(refine yL 65 (Zl 12 Zy) fun v65 h=>?_;cases h)<;>refine xL 66 Zb ?_<;>(refine cO 67 (cA call112 (Za6 a x.2 c hn1 hA.ml hA.mi hxi.1 hxi.2)) fun v67 ho67=>?_;refine Zu (En.freeze (l:=67) (t:=67) rfl rfl) fun _=>?_;rw [ZV _ _ _ rfl])<;>refine xL 68 Zb (xL 69 Zb (xL 70 KM ?_))<;>(refine cO 71 (cA call140 (Za4 (YO a c x.2) (Wz a) ((N:Int)-lev-1) oM (fun s hs=>by have:=hni s hs;omega))) fun v71 ho71=>?_;refine Zu (En.freeze (l:=71) (t:=71) rfl rfl) fun _=>?_;rw [ZV _ _ _ rfl])<;>refine xL 14 Za ?_<;>refine Zk ?_)
 (refine xL 72 Zb (xL 73 (ZW Zr) (xL 74 Yz ?_))<;>refine Zc ?_)
 refine cX ?_ ?_<;>intro hb74
 · first |exact bN hb74|(
 (have hkid:Te a ((N:Int)-lev) x c=[(x.1++[(c:Int)],WN (YO a c x.2) (Wz a) ((N:Int)-lev-1))]:=by unfold Te;rw [UT oM]);rw [hkid] at hR;refine Ze ?_;(refine xL 75 Zb (xL 76 (Zd 12 T1) ?_)<;>(refine yL 77 (Zl 12 Zy) fun v77 h=>?_;cases h)<;>refine cO 78 (cA call135 (JE x.1 oM)) fun v78 ho78=>?_<;>refine xL 79 Zb ?_<;>refine ZM (kk:=1) 80 Zo fun h80 ho80=>?_<;>(refine ZY 78 80 81 Zo fun h81 ho81=>?_;refine Zu (En.freeze (l:=81) (t:=81) rfl rfl) fun _=>?_;rw [show PV.own 3 1 (x.1.length+1) (x.1.map pInt++[pInt c])= .own 3 1 (x.1++[(c:Int)]).length ((x.1++[(c:Int)]).map pInt) from Oh _ _ _,ZV _ _ _ rfl])<;>refine xL 82 Zb (xL 83 (ZO Pu) ?_)<;>refine YI 84 Ls fun h84 ho84=>?_<;>(refine ZY 202 84 85 Ls fun h85 ho85=>?_;refine Zu (ZD (l:=85) 202 rfl rfl) fun _=>?_;refine Zu (ZF (l:=202) rfl (Zgr _ X2 (x.1++[(c:Int)],WN (YO a c x.2) (Wz a) ((N:Int)-lev-1)))) fun _=>?_)<;>refine xL 10 Za ?_<;>refine Zk ?_)
 (refine xL 86 ZK (xL 60 Zb ?_)<;>refine Zc ?_)
 first
  | (exact Zn (
      ⟨(c+1,h85,X2++[(x.1++[(c:Int)],WN (YO a c x.2) (Wz a) ((N:Int)-lev-1))]),by dsimp only;omega,ho85,by dsimp only;rw [hX2E,hR,Xu]⟩
      ) (by dsimp only;omega) ⟨rfl,rfl,rfl,rfl,rfl,rfl,rfl,rfl,rfl,rfl,rfl,rfl,rfl,trivial⟩ ⟨rfl,rfl,rfl,rfl,rfl,trivial⟩)
  | (exact Zn (
      ⟨(c+1,hX2,X2),by dsimp only;omega,hoX2,by dsimp only;rw [hX2E,hR]⟩
      ) (by dsimp only;omega) ⟨rfl,rfl,rfl,rfl,rfl,rfl,rfl,rfl,rfl,rfl,rfl,rfl,rfl,trivial⟩ ⟨rfl,rfl,rfl,rfl,rfl,trivial⟩))
 · first |exact bN hb74|(
 (have hkid:Te a ((N:Int)-lev) x c=[]:=by unfold Te;rw [UU oM]);rw [hkid,Xr] at hR;refine Ze ?_;(refine xL 86 ZK (xL 60 Zb ?_)<;>refine Zc ?_)
 first
  | (exact Zn (
      ⟨(c+1,h85,X2++[(x.1++[(c:Int)],WN (YO a c x.2) (Wz a) ((N:Int)-lev-1))]),by dsimp only;omega,ho85,by dsimp only;rw [hX2E,hR,Xu]⟩
      ) (by dsimp only;omega) ⟨rfl,rfl,rfl,rfl,rfl,rfl,rfl,rfl,rfl,rfl,rfl,rfl,rfl,trivial⟩ ⟨rfl,rfl,rfl,rfl,rfl,trivial⟩)
  | (exact Zn (
      ⟨(c+1,hX2,X2),by dsimp only;omega,hoX2,by dsimp only;rw [hX2E,hR]⟩
      ) (by dsimp only;omega) ⟨rfl,rfl,rfl,rfl,rfl,rfl,rfl,rfl,rfl,rfl,rfl,rfl,rfl,trivial⟩ ⟨rfl,rfl,rfl,rfl,rfl,trivial⟩)))
 · first | exact bN hb61|(
 have hcs:c=a.syms.toNat:=oM;subst hcs;(have hXF:X2=((lvP a N lev).take (i+1)).flatMap (R6 a ((N:Int)-lev)):=by rw [hX2E,hK3,hXE];rfl);refine Ze ?_;(refine xL 87 Zb (xL 88 (YH 200 Z0) (xL 89 Zb (xL 90 (YH 202 Gg) (xL 91 ZK (xL 92 Yz (xL 93 Zb ?_))))))<;>(refine bLd 93 (fun hb93=>?_) (fun hb93=>?_)<;>(first|refine kL 94 ?_|refine xL 94 Zb ?_))<;>(first|refine kL 95 ?_|refine xL 95 (YH 200 Z0) ?_)<;>(first|refine kL 96 ?_|refine xL 96 Yz ?_)<;>refine xL 97 ZG (xL 98 Zb ?_)<;>(first|refine xL 99 Zb ?_|(refine bLd 98 (fun hb98=>?_) (fun hb98=>?_)<;>(first|refine kL 99 ?_|refine xL 99 Zb ?_)))<;>(first|refine kL 100 ?_|refine xL 100 (YH 202 Gg) ?_)<;>(first|refine kL 101 ?_|refine xL 101 Yz ?_)<;>refine xL 102 ZG ?_<;>refine Zc ?_)<;>(
 refine cX ?_ ?_<;>intro hb102
 · first|exact bN hb102|(
 refine Ze ?_;(refine xL 4 Za (xL 5 Za ?_)<;>refine Zc ?_)
 refine YG (Y' (t:=4) rfl) fun _=>?_;refine KH (results91) rfl rfl (.inr (.inr (.inl ⟨hok,oM,oM,?_,rfl⟩)));rw [XS];have hfl2:=R7 (R6 a ((N:Int)-lev)) (lvP a N lev) (i+1);have hsm5:=ζI a N (show lev+1≤N+1 by omega);rw [Tx,Xb] at hsm5;have hop5:=ZcM a (lvP a N lev) (i+1);have hOl:=congrArg List.length hOF;have hXl:=congrArg List.length hXF;simp only [Xb,Xk,XC] at hOl;by_cases hbig:2000<X2.length
 · exact .inl ⟨lev,oM,by rw [lvP];omega⟩
 · refine .inr ?_
   first
    |omega
    |(simp at hb102 hOl;omega))
 · first |exact bN hb102|(
 refine Ze ?_;(refine xL 103 ZK (xL 45 Zb ?_)<;>refine Zc ?_)
 first
  | (exact Zn (
      ⟨(i+1,_,_,O++[x.1],X2),Zh hx,(by dsimp only;first|omega|(simp at hb102;omega)),(by assumption),hoX2,hOF,hXF⟩
      ) (by dsimp only;omega) ⟨rfl,rfl,rfl,rfl,rfl,rfl,rfl,rfl,rfl,rfl,trivial⟩ ⟨rfl,rfl,rfl,rfl,trivial⟩)
  | (exact Zn (
      ⟨(i+1,hO2,hX2,O,X2),Zh hx,(by dsimp only;first|omega|(simp at hb102;omega)),(by assumption),hoX2,hOF,hXF⟩
      ) (by dsimp only;omega) ⟨rfl,rfl,rfl,rfl,rfl,rfl,rfl,rfl,rfl,rfl,trivial⟩ ⟨rfl,rfl,rfl,rfl,trivial⟩))))))
 · first|exact bN hb46|(
 have hil:i=(lvP a N lev).length:=oM;rw [hil,VI] at hOE hXE;(have hOS:O=Tw a N (lev+1):=by rw [Tx];exact hOE);have hXS:X=lvP a N (lev+1):=hXE;(have hsm6:(Tw a N (lev+1)).length≤(lev+1)*2000:=by rw [Tx,Xb];have:=ZcL a (lvP a N lev);omega);(have hkl6:(lvP a N (lev+1)).length≤2000:=by rw [←hXS];exact hkl);clear hOE hXE hil;subst hOS hXS;refine Ze ?_;(refine xL 104 Zb (xL 9 Za ?_)<;>refine Zk ?_)
 (refine xL 41 Zb (xL 42 KM (xL 1 Za ?_))<;>refine Zc ?_)
 refine Kn (ZD (l:=201) 203 rfl rfl) fun _=>?_;refine Kn (ZD (l:=202) 201 rfl rfl) fun _=>?_;rw [show ((N:Int)-(lev:Nat)-1)=(N:Int)-((lev+1:Nat):Int) by omega];refine Zn (
  ⟨(lev+1,hO2,hX),by dsimp only;omega,fun j hj=>by
    dsimp only at hj;rcases XD lev j with h9|h9
    · rw [show j=lev+1 by omega];exact hkl6
    · exact hlv j h9,hsm6,hoO2,hoX⟩
  ) (by dsimp only;omega) ⟨rfl,rfl,rfl,rfl,rfl,rfl,trivial⟩ ⟨rfl,rfl,rfl,trivial⟩))
 · first|exact bN hb40|(
 have hkE:lev=N+1:=oM;subst hkE;refine Ze ?_;(refine xL 105 Zb (xL 106 (YH 200 Z0) (xL 107 Yz ?_))<;>refine Zc ?_)
 refine cX ?_ ?_<;>intro hb107
 · first|exact bN hb107|(
 refine Ze ?_;(refine xL 4 Za (xL 5 Za ?_)<;>refine Zc ?_)
 refine YG (Y' (t:=4) rfl) fun _=>?_;exact KH (results91) rfl rfl (.inr (.inr (.inl ⟨hok,oM,oM, .inr (by rw [XS];omega),rfl⟩))))
 · first|exact bN hb107|(
 refine Ze ?_;(refine xL 108 Zb (xL 4 Za (xL 5 Za ?_))<;>refine Zc ?_)
 refine YG (En.freeze (l:=200) (t:=4) rfl rfl) fun _=>?_;rw [ZcS _ _ _ rfl];refine KH (results91) rfl rfl (.inr (.inr (.inr ⟨hok,oM,oM,?_,by rw [XS]⟩)));rw [XS];rintro (⟨j,h1,h2⟩|h1)
 · have:=hlv (j+1) oM;omega
 · omega)))))
theorem Gh {n a:Nat} {f f':Nat→Bool} (hf:∀i,i<n→f' i=if i=a then true else f i):(vec n fun i=>ZN (f i)).set (a*1) (ZN true)=vec n fun i=>ZN (f' i):=by
 rw [Xp,Ol]
 refine JH fun i hi=>?_
 rw [hf i hi];split<;>rfl
theorem Kw {α:Type} {n i:Nat} (f:Nat→α) (h:i<n):(vec n f)[i*1]? =some (f i):=by rw [Xp];exact Za8 f h
end Go.Proofs.YtgfabnhpllkebaaGreatDoor
