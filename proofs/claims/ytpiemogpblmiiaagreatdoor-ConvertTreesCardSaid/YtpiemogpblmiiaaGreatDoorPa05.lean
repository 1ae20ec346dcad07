/-
  Walks of functions and plain laws of the chapter, as the claim needs them.
-/
import Derived.WideLaws
import Derived.Test.YtpiemogpblmiiaaGreatDoorPa04
import Derived.Test.YtpiemogpblmiiaaGreatDoorPa03
import Derived.Test.YtpiemogpblmiiaaGreatDoorMShelfT
import Derived.Test.YtpiemogpblmiiaaGreatDoorPa01
namespace Go.Proofs.YtpiemogpblmiiaaGreatDoor
open Go.RowKit Go.Cb Go.En Tryz
set_option linter.all false
set_option maxRecDepth 100000
theorem KQ:AggT prog 24 3=true:=by kernel_rfl
theorem S2:ElT prog 22 24 3 48 (.agg #[(.int .i64 0),(.string ByteArray.empty),(.slice none 0 0)]):=⟨underlying22,by kernel_rfl,rfl,dC⟩
theorem RF:FldT prog 24 0 0=true:=by kernel_rfl
theorem Ey:FldT prog 24 2 2=true:=by kernel_rfl
theorem ZbA:NoAgg prog 22=true:=by kernel_rfl
theorem Ez:NoAgg prog 3=true:=by kernel_rfl
theorem L9:SlT prog 22 24 3=true:=by kernel_rfl
theorem Di:Y9 prog 24=some ((.agg #[(.int .i64 0),(.string ByteArray.empty),(.slice none 0 0)]),([0,1,2]:List Nat).map fun o=>(o,1)):=by kernel_rfl
theorem Dj:ZeroT prog 24 (.agg #[(.int .i64 0),(.string ByteArray.empty),(.slice none 0 0)]):=by unfold ZeroT;kernel_rfl
theorem S3 (t:Nd):szT t=1+szL t.l:=by cases t;rw [szT];rfl
theorem EA {l m:List Nd} (h:l.Perm m):szL l=szL m:=by
 induction h with
 |nil=>rfl
 |cons x _ ih=>rw [szL,szL,ih]
 |swap x y l=>simp only [szL];omega
 |trans _ _ h1 h2=>exact h1.trans h2
theorem ζ2:∀l:List Nd,szL (Jw l)≤szL l
 |[]=>Xb _
 |[x]=>Xb _
 | x::y::m=>by
   have:=ζ2 (y::m);rw [Jw];split
   · rw [szL];omega
   · rw [szL,szL];omega
theorem D9 (op:Int) (l:List Nd):szL (Wk op l)≤szL l:=by
 induction l with
 |nil=>exact Xb _
 | cons x l ih=>
   unfold Wk at ih ⊢;rw [Xp,G2,szL];have:szL (if x.op=op then x.l else if x.op≠2∨op=4 then [x] else [])≤szT x:=by
    split
    · rw [S3];omega
    · split
      · simp [szL]
      · simp [szL]
   omega
theorem T9 (l:List Nd):l.length≤szL l:=by
 induction l with
 |nil=>exact Xb _
 |cons x l ih=>have:=DN x;rw [szL,Xc];omega
theorem ζ3 (op:Int) (p:List Nd):szL (GA op p)≤szL p:=by
 unfold GA
 split
 · exact Xb _
 · split
   · exact XG (ζ2 _) (Nat.le_of_eq (EA (Jg p)))
   · exact Nat.le_of_eq (EA (Jg p))
theorem Zhb (op:Int):∀p:List Nd,szT (ON op p)≤1+szL p
 |[]=>by rw [ON];exact Xb _
 |[x]=>by rw [ON,szL];omega
 |x::y::l=>by rw [ON,szT];exact Xb _
theorem ζ4 (op:Int) (l:List Nd):szT (TY op l)≤1+szL l:=by
 unfold TY
 have h1:=Zhb op (GA op (Wk op l))
 have h2:=ζ3 op (Wk op l)
 have h3:=D9 op l
 omega
theorem Zfi (f s:Nd):szT (KA f s).1+szT (KA f s).2≤szT f+szT s:=by
 unfold KA
 split
 · split
   · rename_i a b r hl;have h1:=ζ4 4 [b,s];have h2:=S3 f;rw [hl] at h2;simp only [szL] at h1 h2 ⊢;omega
   · exact Xb _
 · exact Xb _
theorem Zhc (l:List Nd):szT (ZgY l)≤1+szL l:=by
 match l with
 |[]=>exact VX 1 _
 |[x]=>exact VX 1 _
 | f::s::r=>
   have h:=Zfi f s;rw [ZgY,H9];split
   · exact VX 1 _
   · rw [szT];simp only [szL];omega
theorem Zhd (o:Int) (a:ByteArray) (l:List Nd):szT (OO o a l)≤1+szL l:=by
 unfold OO
 split
 · rw [szT,szL];omega
 · split
   · exact Zhc l
   · exact ζ4 o l
theorem TJ:∀t:Nd,szT (Yw t)≤szT t:=Nd.ind fun o a l ih=>by
 rw [Yw,szT]
 have h1:=Zhd o a (WZ l)
 have h2:szL (WZ l)≤szL l:=by
  clear h1;induction l with
  |nil=>exact Xb _
  | cons x l ih2=>
    rw [WZ,szL,szL];have h3:=ih x (XD ..);have h4:=ih2 fun y hy=>ih y (XI _ hy);omega
 omega
theorem ZbB {s:ByteArray} (h:Ki s=true):s.size≤40:=by
 rcases Xm 40 s.size with h1|h1
 · rw [GY (.inr h1)] at h;cases h
 · exact h1
theorem EB {t:Nd} (h:rightT t=true):t.act.size≤40:=by
 unfold rightT at h
 split at h
 · simp only [Xf] at h;exact ZbB h.2
 · split at h
   · simp only [Xf,Ul] at h;rw [h.2];decide
   · split at h
     · simp only [Xf,Ul] at h;rw [h.2];decide
     · split at h
       · simp only [Xf,Ul] at h;rw [h.2];decide
       · cases h
theorem Sa:∀t:Nd,okT t=true→szT t≤1000000→FitT t:=Nd.ind fun o a l ih hok hs=>by
 obtain ⟨h1,h2⟩:=Kz.1 hok
 have h3:=S3 (.mk o a l)
 have h4:=T9 l
 have h5:=EB h1
 have h6:=GB h1
 simp only [Nd.l,Nd.act,Nd.op] at h3 h5 h6 h2
 refine .mk _ (by show l.length≤_;omega) (by show a.size≤_;omega) (by show _≤o;omega) (by show o≤_;omega) fun x hx=>?_
 have h7:=Pa (show x∈l from hx)
 exact ih x hx (h2 x hx) oM
theorem PW {t:Nd} (h:okT t=true):okT (Yw t)=true:=(Zg0 t h).ok
theorem ζ5 {t:Nd} (h:okT t=true) (hs:szT t≤1000000):FitT (Yw t):=Sa _ (PW h) (XG (TJ t) hs)
theorem Zdf (op:Int) {l:List Nd} {k:Nat} {x:Nd} (h:l[k]? =some x):Wk op (l.take (k+1))=Wk op (l.take k)++(if x.op=op then x.l else if x.op≠2∨op=4 then [x] else []):=by
 unfold Wk
 rw [Yo h,Xt,X1]
theorem Zdg {op:Int} {l:List Nd} {y:Nd} (h:y∈Wk op l):∃x∈l,y=x∨y∈x.l:=by
 unfold Wk at h
 obtain ⟨x,hx,hy⟩:=V8.1 h
 split at hy
 · exact ⟨x,hx, .inr hy⟩
 · split at hy
   · exact ⟨x,hx, .inl (Xr.1 hy)⟩
   · cases hy
theorem Zfj {op:Int} {l:List Nd} (h:∀x∈l,FitT x):∀y∈Wk op l,FitT y:=fun y hy=>by
 obtain ⟨x,hx,h1|h1⟩:=Zdg hy
 · rw [h1];exact h x hx
 · exact (h x hx).p y h1
theorem Sb (op:Int) (l:List Nd) (k:Nat):(Wk op (l.take k)).length≤szL l:=by
 have h1:=T9 (Wk op (l.take k))
 have h2:=D9 op (l.take k)
 have h3:szL (l.take k)≤szL l:=by
  conv=>rhs;rw [←Vw k l]
  rw [G2];omega
 omega
theorem D' (l:List Nd):(Z6 l).all En.one=true:=by
 rw [We,Xj]
 intro p hp
 obtain ⟨x,_,hx⟩:=V8.1 hp
 rcases Xn.1 hx with h|hx
 · subst h;rfl
 · rcases Xn.1 hx with h|hx
   · subst h;rfl
   · rcases Xn.1 hx with h|hx
     · subst h;rfl
     · cases hx
theorem S4 (l:List Nd) (x:Nd):Z6 l++cN x=Z6 (l++[x]):=by
 rw [We,We,Xt,X1]
theorem Zdh (l m:List Nd):Z6 l++Z6 m=Z6 (l++m):=by
 rw [We,We,We,Xt]
theorem CL:Rr (.agg [.val (.int .i64 2), .val (.string ByteArray.empty), .val (.slice none 0 0)]) (pTr TB):=Rr.agg rfl fun i a b ha hb=>by
 match i with
 |0=>cases ha;cases hb;exact Rr.rfl' _
 |1=>cases ha;cases hb;exact Rr.rfl' _
 |2=>cases ha;cases hb;exact Rr.nil
 |i+3=>simp at ha
theorem JX (e n:Nat) (l:List Nd) (hn:n=l.length):share (.own e 3 n (Z6 l))=YK l:=by
 subst hn
 rw [share,Yf,We,List.map_flatMap]
 unfold YK
 rw [We];rfl
def sS (op:Int) (p:List Nd):List Nd:=if op=3 then p else DO p
theorem Zhe (op:Int) (p:List Nd):(sS op p).length=p.length:=by
 unfold sS;split
 · rfl
 · exact (Jg p).length_eq
theorem Zhf {op:Int} {p:List Nd} (h:op≠4):sS op p=GA op p:=by
 unfold sS GA
 by_cases h3:op=3
 · rw [Up h3,Up h3]
 · rw [Uo h3,Uo h3,Uo h]
theorem Zdi {op:Int} {p:List Nd} {x:Nd}:x∈sS op p→x∈p:=by
 unfold sS;split
 · exact id
 · exact (Jg p).mem_iff.1
set_option maxHeartbeats 4000000 in
theorem Pi (op : Int) (l:List Nd) (h1: -9223372036854775808≤op) (h2:op≤9223372036854775807) (hF:∀x∈l,FitT x) (hn:szL l≤1000000):AF prog 182 [Zc op,YK l] (· =pTr (TY op l)):=by
 have hll:l.length≤1000000:=XG (T9 l) hn
 refine AF.of_body 57 func182 rfl ntmps182 (Xa rfl) ?_
 intro w0 M0 vs hl hv
 obtain ⟨v0,v1,rfl⟩:=KG hl
 obtain rfl:=hv 0 _ _ rfl rfl
 clear hl hv
 refine Zf ?_
 (refine ZA [(.int .i64 0),(.string ByteArray.empty),(.slice none 0 0)] 3 4 Dj fun h4=>?_;refine Zn ?_)
 (refine xL 5 Zb ?_;refine Ze ?_)
 refine Zz (WF 1000 24 3 rfl) fun _=>?_
 (refine Zm ?_;refine xL 8 Za (xL 9 (Z1 L9) (xL 10 Za ?_));refine Ze ?_)
 refine ZE (ι:={q:Nat×Value//q.1≤l.length∧q.2.oneCell'=true}) (fun k=>⟨[(0,_,_),(4,_,_),(8,_,_),(9,_,_),(5,k.1.2, .val k.1.2),(10, .int .i64 k.1.1,Zc k.1.1)],[(4,_,_),(1000,k.1.2, .own 24 3 (Wk op (l.take k.1.1)).length (Z6 (Wk op (l.take k.1.1))))]⟩) (fun k=>l.length-k.1.1) ⟨(0, .slice none 0 0),Xh _,rfl⟩ (fun a w H=>H.weaken ⟨rfl,rfl,rfl,rfl,rfl,rfl,trivial⟩ ⟨rfl,rfl,trivial⟩) ?_
 rintro ⟨⟨k,hO⟩,hk,hOo⟩
 dsimp only
 dsimp only at hk hOo
 have hpl:=Sb op l k
 have hpl2:=Sb op l (k+1)
 refine Zf ?_
 (refine xL 11 ZR ?_;refine Ze ?_)
 refine cX ?_ ?_<;>intro hb11
 · first | exact bN hb11|(
 obtain ⟨x,hx⟩:=Zw (show k<l.length by omega);have e1:((Z6 l).drop (k*3)).take 3=[Zc x.op,ZZ x.act,YK x.l]:=Z5 hx;have e2:=Yj hx;have hsn:=Zdf op hx;have hxf:=hF x (Xd hx);have f1:(Z6 x.l).length=x.l.length*3:=Eu _;have f2:=D' x.l;refine Zf ?_;(refine xL 12 (ZP L9) ?_;refine yL 13 (Yz KQ) fun v13 hv13=>?_;cases hv13;refine ZA [(.int .i64 0),(.string ByteArray.empty),(.slice none 0 0)] 3 7 Dj fun h7=>?_;refine Zv 7 KQ ?_;refine Zn ?_)
 (refine xL 15 (Zd 7 RF) ?_;refine yL 16 (Zi 7 Ez) fun v16 hv16=>?_;cases hv16;refine xL 17 Za (xL 18 ZQ (xL 14 Zb ?_));refine Ze ?_)
 refine cX ?_ ?_<;>intro hb14
 · first |exact bN hb14|(
 rw [Up hb14] at hsn;(have hsl:(Wk op (l.take (k+1))).length=(Wk op (l.take k)).length+x.l.length:=by rw [hsn,Xg]);refine Zf ?_;(refine xL 19 Za (xL 20 (Zd 7 Ey) ?_);refine yL 21 (Zi 7 ZbA) fun v21 hv21=>?_;cases hv21;(refine CB 1000 22 S2 (fun h22 ho22=>?_) f1 f2;refine Zp (Z0 (l:=22) 1000 rfl rfl) fun _=>?_;refine Zp (ZF (l:=1000) (p':= .own 24 3 (Wk op (l.take (k+1))).length (Z6 (Wk op (l.take (k+1))))) rfl (by rw [Zdh,←hsn,hsl])) fun _=>?_);refine xL 5 Zb ?_;refine Zn ?_)
 (refine xL 35 ZO (xL 10 Za ?_);refine Ze ?_)
 first
  | (exact Zk (
      ⟨(k+1,h22),Zg hx,ho22⟩
      ) (by dsimp only;omega) ⟨rfl,rfl,rfl,rfl,rfl,rfl,trivial⟩ ⟨rfl,rfl,trivial⟩)
  | (exact Zk (
      ⟨(k+1,h34),Zg hx,ho34⟩
      ) (by dsimp only;omega) ⟨rfl,rfl,rfl,rfl,rfl,rfl,trivial⟩ ⟨rfl,rfl,trivial⟩)
  | (exact Zk (
      ⟨(k+1,hO),Zg hx,hOo⟩
      ) (by dsimp only;omega) ⟨rfl,rfl,rfl,rfl,rfl,rfl,trivial⟩ ⟨rfl,rfl,trivial⟩))
 · first | exact bN hb14|(
 rw [Uo hb14] at hsn;refine Zf ?_;(refine xL 24 (Zd 7 RF) ?_<;>(refine yL 25 (Zi 7 Ez) fun v25 h=>?_;cases h)<;>refine xL 26 YN (xL 27 Za ?_)<;>(refine bLd 27 (fun hb27=>?_) (fun hb27=>?_)<;>(first|refine kL 28 ?_|refine xL 28 Za ?_))<;>(first|refine kL 29 ?_|refine xL 29 ZQ ?_)<;>refine xL 30 Zu (xL 23 Zb ?_)<;>refine Ze ?_)<;>(
 refine cX ?_ ?_<;>intro hb23
 · first |exact bN hb23|(
 rw [Up oM] at hsn;(have hsl:(Wk op (l.take (k+1))).length=(Wk op (l.take k)).length+1:=by rw [hsn,Xg];rfl);refine Zf ?_;(refine xL 31 Za ?_;refine yL 32 (Zq 7 KQ) fun v32 hv32=>?_;cases hv32;refine K1 33 S2 fun h33 ho33=>?_;(refine Kk 1000 33 34 S2 fun h34 ho34=>?_;refine Zp (Z0 (l:=34) 1000 rfl rfl) fun _=>?_;refine Zp (ZF (l:=1000) (p':= .own 24 3 (Wk op (l.take (k+1))).length (Z6 (Wk op (l.take (k+1))))) rfl (Eq.trans (congrArg (PV.own 24 3 _) (show _=Z6 (Wk op (l.take k))++cN x from rfl)) (by rw [S4,←hsn,hsl]))) fun _=>?_);refine xL 5 Zb ?_;refine Zn ?_)
 (refine xL 35 ZO (xL 10 Za ?_);refine Ze ?_)
 first
  | (exact Zk (
      ⟨(k+1,h22),Zg hx,ho22⟩
      ) (by dsimp only;omega) ⟨rfl,rfl,rfl,rfl,rfl,rfl,trivial⟩ ⟨rfl,rfl,trivial⟩)
  | (exact Zk (
      ⟨(k+1,h34),Zg hx,ho34⟩
      ) (by dsimp only;omega) ⟨rfl,rfl,rfl,rfl,rfl,rfl,trivial⟩ ⟨rfl,rfl,trivial⟩)
  | (exact Zk (
      ⟨(k+1,hO),Zg hx,hOo⟩
      ) (by dsimp only;omega) ⟨rfl,rfl,rfl,rfl,rfl,rfl,trivial⟩ ⟨rfl,rfl,trivial⟩))
 · first |exact bN hb23|(
 rw [Uo oM,Vc] at hsn;refine Zz (ZF (l:=1000) (p':= .own 24 3 (Wk op (l.take (k+1))).length (Z6 (Wk op (l.take (k+1))))) rfl (by rw [hsn])) fun _=>?_;refine Zf ?_;(refine xL 35 ZO (xL 10 Za ?_);refine Ze ?_)
 first
  | (exact Zk (
      ⟨(k+1,h22),Zg hx,ho22⟩
      ) (by dsimp only;omega) ⟨rfl,rfl,rfl,rfl,rfl,rfl,trivial⟩ ⟨rfl,rfl,trivial⟩)
  | (exact Zk (
      ⟨(k+1,h34),Zg hx,ho34⟩
      ) (by dsimp only;omega) ⟨rfl,rfl,rfl,rfl,rfl,rfl,trivial⟩ ⟨rfl,rfl,trivial⟩)
  | (exact Zk (
      ⟨(k+1,hO),Zg hx,hOo⟩
      ) (by dsimp only;omega) ⟨rfl,rfl,rfl,rfl,rfl,rfl,trivial⟩ ⟨rfl,rfl,trivial⟩)))))
 · first | exact bN hb11|(
 rw [Xs (show l.length≤k by omega)];rw [Xs (show l.length≤k by omega)] at hpl;have hFp:=Zfj (op:=op) hF;refine Zf ?_;(refine xL 36 Za (xL 37 YN ?_);refine Ze ?_)
 refine Kj (fun h4:Value=>⟨[(0, .int .i64 op,Zc op),(4,padd (sbase h4) 0, .val (padd (sbase h4) 0)),(5,hO, .val hO)],[(1000,hO, .own 24 3 (sS op (Wk op l)).length (Z6 (sS op (Wk op l)))),(4,h4, .own 24 3 1 [.val (.int .i64 0), .val (.string ByteArray.empty), .val (.slice none 0 0)])]⟩) ?_ ?_
 · refine cX ?_ ?_<;>intro hb37
   · first|exact bN hb37|(
 refine Zf ?_;(refine xL 38 Za ?_;(refine ZL [(1000,hO,PV.own 24 3 (Wk op l).length (Z6 (Wk op l))),(4,_,_)] ⟨rfl,rfl,trivial⟩ ?_;refine ZT [4] 39 (call208) (Zbz 209 (call209) hO (.func (.func 209) #[] #[]) (Wk op l) oM (fun x hx y hy=>Zg2 x y (hFp x hx) (hFp y hy))) (fun v39 p39 h39 hR39=>?_);subst hR39;dsimp only [Y'];refine Zp (ZF (l:=1000) (p':= .own 24 3 (sS op (Wk op l)).length (Z6 (sS op (Wk op l)))) rfl (by unfold sS;rw [Uo hb37])) fun _=>?_);refine Ze ?_)
 exact ZW _ ⟨rfl,rfl,rfl,trivial⟩ ⟨rfl,rfl,trivial⟩)
   · first|exact bN hb37|(
 refine Zz (ZF (l:=1000) (p':= .own 24 3 (sS op (Wk op l)).length (Z6 (sS op (Wk op l)))) rfl (by unfold sS;rw [Up oM])) fun _=>?_;refine nav ?_;exact ZW _ ⟨rfl,rfl,rfl,trivial⟩ ⟨rfl,rfl,trivial⟩)
 · rintro h4;have hsl:=Zhe op (Wk op l);refine Zf ?_;(refine xL 40 Za (xL 41 ZQ ?_);refine Ze ?_)
   refine Kj (fun q:Value×{h:Value//h.oneCell'=true}=>⟨[(0, .int .i64 op,Zc op),(4,padd (sbase q.1) 0, .val (padd (sbase q.1) 0)),(5,q.2.1, .val q.2.1)],[(1000,q.2.1, .own 24 3 (GA op (Wk op l)).length (Z6 (GA op (Wk op l)))),(4,q.1, .own 24 3 1 [.val (.int .i64 0), .val (.string ByteArray.empty), .val (.slice none 0 0)])]⟩) ?_ ?_
   · refine cX ?_ ?_<;>intro hb41
     · first|exact bN hb41|(
 (have hasc:AscT (sS op (Wk op l)):=by unfold sS;rw [Uo oM];exact TX _);(have hord:Jw (sS op (Wk op l))=GA op (Wk op l):=by unfold sS GA;rw [Uo oM,Uo oM,Up oM]);refine Zf ?_;(refine xL 42 Za ?_;(refine ZL [(1000,hO,PV.own 24 3 (sS op (Wk op l)).length (Z6 (sS op (Wk op l)))),(4,_,_)] ⟨rfl,rfl,trivial⟩ ?_;refine ZT [4] 43 (call210) (D8 211 (call211) (.func (.func 211) #[] #[]) (sS op (Wk op l)) oM hasc (fun x hx y hy=>ZeX x y (hFp x (Zdi hx)) (hFp y (Zdi hy))) hO hOo) ?_;rintro v43 _ _ ⟨hv43,rfl,rfl⟩;refine Zp (ZF (l:=1000) (p':= .own 24 3 (GA op (Wk op l)).length (Z6 (GA op (Wk op l)))) rfl (by rw [hord])) fun _=>?_);refine xL 5 Zb ?_;refine Ze ?_)
 first
 |exact ZW (h4,⟨v43,hv43⟩) ⟨rfl,rfl,rfl,trivial⟩ ⟨rfl,rfl,trivial⟩
 |exact ZW (h4,⟨hO,hOo⟩) ⟨rfl,rfl,rfl,trivial⟩ ⟨rfl,rfl,trivial⟩)
     · first|exact bN hb41|(
 refine Zz (ZF (l:=1000) (p':= .own 24 3 (GA op (Wk op l)).length (Z6 (GA op (Wk op l)))) rfl (by rw [Zhf oM])) fun _=>?_;refine nav ?_
 first
 |exact ZW (h4,⟨v43,hv43⟩) ⟨rfl,rfl,rfl,trivial⟩ ⟨rfl,rfl,trivial⟩
 |exact ZW (h4,⟨hO,hOo⟩) ⟨rfl,rfl,rfl,trivial⟩ ⟨rfl,rfl,trivial⟩)
   · rintro ⟨h4,hP,hPo⟩;dsimp only;have hol:(GA op (Wk op l)).length≤1000000:=XG (T9 _) (XG (ζ3 _ _) (XG (D9 _ _) hn));unfold TY;generalize GA op (Wk op l)=p at hol ⊢;refine Zf ?_;(refine xL 44 Za (xL 45 (YV 1000 L9) ?_);refine Zn ?_)
     (refine xL 47 ZQ (xL 46 Zb ?_);refine Ze ?_)
     refine cX ?_ ?_<;>intro hb46
     · first|exact bN hb46|(
 obtain rfl:p=[]:=XK oM;refine Zf ?_;(refine xL 48 (Z3 Di) ?_;(refine Zp (WT (t:=48) (p':=pTr TB) rfl CL) fun _=>?_;refine Zv 4 KQ ?_);refine Ze ?_)
 exact WL (k:=3) 4 kR (results182) rfl rfl (Xa rfl) dC rfl rfl)
     · first |exact bN hb46|(
 refine Zf ?_;(refine xL 50 ZQ (xL 49 Zb ?_);refine Ze ?_)
 refine cX ?_ ?_<;>intro hb49
 · first|exact bN hb49|(
 obtain ⟨x,rfl⟩:∃x,p=[x]:=by
  match p,hb49 with
  |[],h=>simp at h
  |[x],_=>exact ⟨x,rfl⟩
  |_::_::_,h=>simp at h;omega
 have e1:((Z6 [x]).drop (0*3)).take 3=cN x:=Z5 (k:=0) rfl;have e2:0*3+3≤(Z6 [x]).length:=Yj (k:=0) (x:=x) rfl;refine Zf ?_;(refine xL 51 Za (xL 52 (Zt 1000 L9) ?_);refine yL 53 (Zq 1000 KQ) fun v53 hv53=>?_;cases hv53;refine Zv 4 KQ ?_;refine Ze ?_)
 exact WL (k:=3) 4 kR (results182) rfl rfl (Xa rfl) dC rfl rfl)
 · first|exact bN hb49|(
 refine nav ?_;refine Zz (En.freeze (l:=1000) (t:=5) rfl rfl) fun _=>?_;rw [JX _ _ _ rfl];(refine Zm ?_;refine xL 54 Za (xL 55 Za (xL 56 (Z3 Di) ?_));refine Zv 4 KQ ?_;refine Ze ?_)
 refine WL (k:=3) 4 kR (results182) rfl rfl (Xa rfl) dC rfl ?_;match p,hb46,hb49 with
 |[],h,_=>simp at h
 |[x],_,h=>simp at h
 |x::y::r,_,_=>rfl)))
def JA (op:Int):ByteArray:=if op=3 then ⟨#[115,101,113]⟩ else if op=4 then ⟨#[120,111,114]⟩ else if op=5 then ⟨#[97,110,100]⟩ else ⟨#[108,111,111,112]⟩
theorem JN:FldT prog 226 0 0=true:=by kernel_rfl
theorem Sc:FldT prog 226 1 1=true:=by kernel_rfl
theorem PX:NoAgg prog 218=true:=by kernel_rfl
theorem G':NoAgg prog 224=true:=by kernel_rfl
theorem CM:SlT prog 218 5 1=true:=by kernel_rfl
theorem CN:(prog.info? 224).map (·.size)=some 1:=by kernel_rfl
def ByH (b:Nat) (p v:Value) (bs:List UInt8):List (Nat×Ent):=[(1000,Yd b, .own 226 2 1 [.val p, .val v]),(1001,v, .own 5 1 bs.length (bs.map Tq))]
theorem L' {c:Ctx} {P:Program} {sL hP:List (Nat×Ent)} {fn:Func} {R:Value→PV→List (Nat×Ent)→Prop} {t s:Nat} {v u:Value} {p q:PV} (h:List (Nat×Ent)) (hr:fn.results= #[.tmp t, .tmp s]) (ht:lk sL t=some (v,p)) (hs:lk sL s=some (u,q)) (hsub:Sub h hP) (hR:R (.tuple #[v,u]) (.tup [p,q]) h) (hdf:c.df=[]:=by exact rfl):aR c (bodyPost P fn (RR c R)) (⟨sL,hP⟩:St):=fun a w ⟨F,H0⟩=>by
 have H:HoldsF c (⟨sL,h⟩:St) F a w:=H0.less (fun _ _ h=>h) fun t x hx=>hsub.lk hx
 obtain ⟨h1,h2⟩:=H.sl t v p ht
 obtain ⟨h3,h4⟩:=H.sl s u q hs
 refine ⟨H.df.trans hdf, .tuple #[v,u],?_, .tuple #[v,u], .tup [p,q],h,F,rfl,hR,H.toHeapF, .tup [v,u] [p,q] rfl fun i x r hx hr=>?_⟩
 · simp [results,hr,XR,h1,h3]
 · match i with
   |0=>cases hx;cases hr;exact h2
   |1=>cases hx;cases hr;exact h4
   |i+2=>simp at hx
theorem ZbC (b:Nat) (v:Value) (hv:v.oneCell'=true):AFh False prog 226 [(0,ZX b, .val (ZX b))] [(1000,Yd b, .own 226 2 1 [.val (.pointer none), .val v])] (fun _ _ h=>h=[(1000,Yd b, .own 226 2 1 [.val (ZX b), .val v])]):=by
 refine AFh.of_body 20 func226 rfl ntmps226 (Xa rfl) rfl ?_
 intro w0 M0 N0
 refine Zf ?_
 (refine xL 2 Za (xL 3 (ZC 1000) (xL 4 (Zd 1000 JN) ?_));refine yL 5 (Zi 1000 G') fun v5 hv5=>?_;cases hv5;refine xL 6 ((Zg7 rfl rfl)) ?_;refine Ze ?_)
 refine cCt ?_
 refine Zf ?_
 (refine xL 7 Za (xL 8 Za ?_);refine xL 9 ((Zig (k:=2) 1000 rfl rfl rfl dC)) ?_;refine xL 10 ((Ze7 rfl kR kR kR kR)) ?_;refine xL 11 ((Zih 1000 rfl rfl rfl kR)) ?_;refine xL 12 (ZC 1000) (xL 13 (Zd 1000 JN) ?_);refine Y3 1000 G' CN ?_;refine Ze ?_)
 exact Z8 [(1000,Yd b, .own 226 2 1 [.val (ZX b), .val v])] (results226) ⟨rfl,trivial⟩ rfl
theorem ZbD (b:Nat) (v:Value) (hv:v.oneCell'=true):AFh False prog 226 [(0,ZX b, .val (ZX b))] [(1000,Yd b, .own 226 2 1 [.val (ZX b), .val v])] (fun _ _ h=>h=[(1000,Yd b, .own 226 2 1 [.val (ZX b), .val v])]):=by
 refine AFh.of_body 20 func226 rfl ntmps226 (Xa rfl) rfl ?_
 intro w0 M0 N0
 refine Zf ?_
 (refine xL 2 Za (xL 3 (ZC 1000) (xL 4 (Zd 1000 JN) ?_));refine yL 5 (Zi 1000 G') fun v5 hv5=>?_;cases hv5;refine xL 6 ((Ze5 rfl rfl)) ?_;refine Ze ?_)
 refine cCf ?_
 refine Zf ?_
 (refine xL 14 Za (xL 15 (ZC 1000) (xL 16 (Zd 1000 JN) ?_));refine yL 17 (Zi 1000 G') fun v17 hv17=>?_;cases hv17;refine xL 18 Za ?_;refine xL 19 ((Ze6 rfl rfl)) ?_;refine Ze ?_)
 refine cCf ?_
 refine nav ?_
 exact Z8 [(1000,Yd b, .own 226 2 1 [.val (ZX b), .val v])] (results226) ⟨rfl,trivial⟩ rfl
theorem ZbE (b:Nat) (p v:Value) (hp:p= .pointer none∨p=ZX b) (hv:v.oneCell'=true):AFh False prog 226 [(0,ZX b, .val (ZX b))] [(1000,Yd b, .own 226 2 1 [.val p, .val v])] (fun _ _ h=>h=[(1000,Yd b, .own 226 2 1 [.val (ZX b), .val v])]):=by
 rcases hp with rfl|rfl
 · exact ZbC b v hv
 · exact ZbD b v hv
theorem Zfk (b:Nat) (p v:Value) (bs:List UInt8) (hne:bs≠[]) (hv:v.oneCell'=true):AFh False prog 206 [(0,ZX b, .val (ZX b))] (ByH b p v bs) (fun u q h=>u= .string ⟨bs.toArray⟩∧q= .val u∧h=[]):=by
 have hone:En.one (PV.val v)=true:=hv
 have hnl:0<bs.length:=by cases bs with
  |nil=>exact Uq rfl hne
  |cons x l=>exact Nat.succ_pos _
 unfold ByH
 refine AFh.of_body 14 func206 rfl ntmps206 (Xa rfl) rfl ?_
 intro w0 M0 N0
 refine Zf ?_
 (refine xL 2 Zb ?_;refine Ze ?_)
 (refine ZS (fun i=>([10,11]:List Nat).elem i) [1000,1001] kR ?_<;>refine xDT 0 3 rfl Za ?_<;>refine xDT 1 4 rfl (ZC 1000) ?_<;>refine xDT 2 5 rfl (Zd 1000 Sc) ?_<;>(refine yDT 3 6 rfl (Zi 1000 PX) fun v6 h=>?_;cases h)<;>refine xDT 4 7 rfl (Zii 1001) ?_<;>refine xE 5 8 rfl Za ?_<;>refine xE 6 9 rfl (ZC 1000) ?_<;>refine xE 7 10 rfl (Zd 1000 Sc) ?_<;>(refine yE 8 11 rfl (Zi 1000 PX) fun v11 h=>?_;cases h)<;>refine xE 9 12 rfl (YV 1001 CM) ?_<;>(refine Zl 10 kR ?_)<;>(refine K6 rfl rfl fun DQ back=>?_)<;>refine Zg8 (n:=bs.length) (bs:=bs) 1001 13 rfl rfl ?_ hne rfl<;>refine Zh (back _ ?_)<;>(refine KO 11 kR rfl rfl fun DQ back=>?_)<;>refine xL 2 Zb ?_<;>refine Zh (back _ ?_)<;>refine JM kR (nav ?_)<;>try dsimp only)
 exact WQ [] (results206) rfl trivial ⟨rfl,rfl,rfl⟩
theorem Zfl (op:Int):AF prog 181 [Zc op] (· =ZZ (JA op)):=by
 refine AF.of_body 10 func181 rfl ntmps181 (Xa rfl) ?_
 intro w0 M0 vs hl hv
 obtain ⟨v0,rfl⟩:=Kl hl
 obtain rfl:=hv 0 _ _ rfl rfl
 clear hl hv
 refine Zf ?_
 (refine xL 2 Zb ?_;refine Zn ?_)
 (refine xL 3 Za ?_;refine Zn ?_)
 (refine xL 5 ZQ (xL 4 Zb ?_);refine Ze ?_)
 refine cX ?_ ?_<;>intro hb4
 · first|exact bN hb4|(
 refine Zf ?_;(refine xL 2 Zb ?_;refine Ze ?_)
 refine Zx (results181) rfl ?_;rw [JA,Up (by assumption)])
 · first | exact bN hb4|(
 refine Zf ?_;(refine xL 7 ZQ (xL 6 Zb ?_);refine Ze ?_)
 refine cX ?_ ?_<;>intro hb6
 · first|exact bN hb6|(
 refine Zf ?_;(refine xL 2 Zb ?_;refine Ze ?_)
 refine Zx (results181) rfl ?_;rw [JA,Uo (by assumption),Up (by assumption)])
 · first|exact bN hb6|(
 refine Zf ?_;(refine xL 9 ZQ (xL 8 Zb ?_);refine Ze ?_)
 refine cX ?_ ?_<;>intro hb8
 · first|exact bN hb8|(
 refine Zf ?_;(refine xL 2 Zb ?_;refine Ze ?_)
 refine Zx (results181) rfl ?_;rw [JA,Uo (by assumption),Uo (by assumption),Up (by assumption)])
 · first|exact bN hb8|(
 refine Zf ?_;(refine xL 2 Zb ?_;refine Ze ?_)
 refine Zx (results181) rfl ?_;rw [JA,Uo (by assumption),Uo (by assumption),Uo (by assumption)])))
theorem PY:ElT prog 218 5 1 1 (.int .u8 0):=⟨underlying218,by kernel_rfl,rfl,dC⟩
theorem Sd:FldT prog 200 0 0=true:=by kernel_rfl
theorem JO:FldT prog 200 1 1=true:=by kernel_rfl
theorem JP:FldT prog 226 1 1=true:=by kernel_rfl
theorem La:NoAgg prog 218=true:=by kernel_rfl
theorem Se:NoAgg prog 3=true:=by kernel_rfl
theorem EC:NoAgg prog 9=true:=by kernel_rfl
theorem CO:SlT prog 218 5 1=true:=by kernel_rfl
theorem CP:(prog.info? 218).map (·.size)=some 1:=by kernel_rfl
theorem Zdj:(prog.info? 3).map (·.size)=some 1:=by kernel_rfl
theorem CQ:ZeroT prog 226 (.agg #[(.pointer none),(.slice none 0 0)]):=by unfold ZeroT;kernel_rfl
theorem Ta (b:Nat) (p v:Value) (bs:List UInt8) (s:UInt8) (hp:p= .pointer none∨p=ZX b) (hv:v.oneCell'=true) (hl:bs.length≤1000000000):AFh False prog 207 [(0,ZX b, .val (ZX b)),(1, .int .u8 s.toNat,pU8 s.toNat)] (ByH b p v bs) (fun _ _ h=>∃v',v'.oneCell'=true∧h=ByH b (ZX b) v' (bs++[s])):=by
 have hone:En.one (PV.val v)=true:=hv
 have hbm:(bs.map Tq).length=bs.length:=Xe ..
 unfold ByH
 refine AFh.of_body 17 func207 rfl ntmps207 (Xa rfl) rfl ?_
 intro w0 M0 N0
 refine Zf ?_
 (refine xL 4 Zb ?_;refine Zn ?_)
 (refine xL 5 Za ?_;(refine ZT [1001] 6 (call226) (ZbE b p v hp hv) (fun v7 p7 h7 hR7=>?_);subst hR7);refine Zn ?_)
 (refine xL 7 Za (xL 8 Za (xL 9 (ZC 1000) (xL 10 (Zd 1000 JP) ?_)));refine yL 11 (Zi 1000 La) fun v11 hv11=>?_;cases hv11;refine xL 12 Za ?_;refine Ye (kk:=1) 13 PY fun h13 ho13=>?_;(refine Kk 1001 13 14 PY fun h14 ho14=>?_;have hone14:En.one (PV.val h14)=true:=ho14);refine xL 15 (ZC 1000) (xL 16 (Zd 1000 JP) ?_);refine Y3 1000 La CP ?_;refine Zn ?_)
 (refine xL 4 Zb ?_;refine Ze ?_)
 refine Wm (Z0 (l:=14) 1001 rfl rfl) fun _=>?_
 refine WQ [(1000,Yd b, .own 226 2 1 [.val (ZX b), .val h14]),(1001,h14, .own 5 1 (bs.length+1) (bs.map Tq++[Tq s]))] (results207) rfl ⟨rfl,rfl,trivial⟩ ⟨h14,ho14,?_⟩
 rw [Xg,X2]
 rfl
def RV (l:List UInt8):Bool:=l.all fun c=>decide (32≤c.toNat)&&decide (c.toNat≤126)
theorem Zfm {l:List UInt8} {k:Nat} {c:UInt8} (h:l[k]? =some c) (hc:(c.toNat:Int)<32∨126<(c.toNat:Int)):RV l=false:=by
 unfold RV
 rw [List.all_eq_false]
 refine ⟨c,Xd h,?_⟩
 simp only [Xf,Ul]
 omega
theorem Zdk {l:List UInt8} (h:∀(j:Nat) (c:UInt8),l[j]? =some c→¬(c.toNat:Int)<32∧¬126<(c.toNat:Int)):RV l=true:=by
 unfold RV
 rw [Xj]
 intro c hc
 obtain ⟨j,hj⟩:=X8 hc
 have:=h j c hj
 simp only [Xf,Ul]
 omega
theorem OV (l:List UInt8) (hl:l.length≤1000000):AF prog 177 [pB l] (· =ZV (RV l)):=by
 have hsz:=YO l
 refine AF.of_body 20 func177 rfl ntmps177 (Xa rfl) ?_
 intro w0 M0 vs hl hv
 obtain ⟨v0,rfl⟩:=Kl hl
 obtain rfl:=hv 0 _ _ rfl rfl
 clear hl hv
 refine Zf ?_
 (refine xL 2 Zb ?_;refine Zn ?_)
 (refine xL 4 Za (xL 5 (Wn underlying9) (xL 6 Za ?_));refine Ze ?_)
 refine ZE (ι:={k:Nat//k≤l.length∧∀(j:Nat) (c:UInt8),j<k→l[j]? =some c→¬(c.toNat:Int)<32∧¬126<(c.toNat:Int)}) (fun k=>⟨[(0,_,_),(5,_,_),(6, .int .i64 k.1,Zc k.1)],[]⟩) (fun k=>l.length-k.1) ⟨0,Xh _,fun j d hj=>Uq hj (VZ _)⟩ (fun a w H=>H.weaken ⟨rfl,rfl,rfl,trivial⟩ trivial) ?_
 rintro ⟨k,hk,hp⟩
 dsimp only
 try dsimp only at hk hp
 refine Zf ?_
 (refine xL 7 ZR ?_;refine Ze ?_)
 refine cX ?_ ?_<;>intro hb7
 · first | exact bN hb7|(
 obtain ⟨c,hcx⟩:=J9 (show k<l.length by omega);have hcy:=CG hcx;refine Zf ?_;(refine xL 8 Za (xL 3 Zb ?_);refine Zn ?_)
 (refine xL 9 Za (xL 10 Za (xL 11 (Ws underlying9) (xL 12 ZR (xL 13 Za ?_))))<;>(refine bLd 13 (fun hb13=>?_) (fun hb13=>?_)<;>(first|refine kL 14 ?_|refine xL 14 Za ?_))<;>(first|refine kL 15 ?_|refine xL 15 Za ?_)<;>(first|refine kL 16 ?_|refine kL 16 ?_|refine xL 16 (Ws underlying9) ?_)<;>(first|refine kL 17 ?_|refine xL 17 Wy ?_)<;>refine xL 18 Zu ?_<;>refine Ze ?_)<;>(
 refine cX ?_ ?_<;>intro hb18
 · first|exact bN hb18|(
 refine Zf ?_;(refine xL 2 Zb ?_;refine Ze ?_)
 refine Zx (results177) rfl ?_;rw [Zfm hcx oM])
 · first |exact bN hb18|(
 refine Zf ?_;(refine xL 19 ZO (xL 6 Za ?_);refine Ze ?_)
 refine Zk (
  ⟨k +1,oM,fun j d hj hd=>by
   rcases Xm j k with h|h
   · exact hp j d h hd
   · obtain rfl:j=k:=oM;rw [hcx] at hd;cases hd;omega⟩
  ) (by dsimp only;omega) ⟨rfl,rfl,rfl,trivial⟩ trivial)))
 · first|exact bN hb7|(
 refine Zf ?_;(refine xL 2 Zb ?_;refine Ze ?_)
 refine Zx (results177) rfl ?_;rw [Zdk fun j d hd=>hp j d (by have:=Zg hd;omega) hd])
def NrH (b:Nat) (l:List UInt8) (i:Nat):List (Nat×Ent):=[(1002,Yd b, .own 200 2 1 [pB l,Zc i])]
theorem PZ (b:Nat) (l:List UInt8) (i:Nat) (hl:l.length≤1000000):AFh False prog 179 [(0,ZX b, .val (ZX b))] (NrH b l i) (fun u q h=>u= .bool (decide (i<l.length))∧q=ZV (decide (i<l.length))∧h=NrH b l i):=by
 have hsz:=YO l
 unfold NrH
 refine AFh.of_body 13 func179 rfl ntmps179 (Xa rfl) rfl ?_
 intro w0 M0 N0
 refine Zf ?_
 (refine xL 2 Zb ?_;refine Ze ?_)
 (refine ZS (fun i=>([]:List Nat).elem i) [1002] kR ?_<;>refine xD 0 3 rfl Za ?_<;>refine xD 1 4 rfl (ZC 1002) ?_<;>refine xD 2 5 rfl (Zd 1002 JO) ?_<;>(refine yD 3 6 rfl (Zi 1002 Se) fun v6 h=>?_;cases h)<;>refine xE 4 7 rfl Za ?_<;>refine xE 5 8 rfl (ZC 1002) ?_<;>refine xE 6 9 rfl (Zd 1002 Sd) ?_<;>(refine yE 7 10 rfl (Zi 1002 EC) fun v10 h=>?_;cases h)<;>refine xE 8 11 rfl (Wn underlying9) ?_<;>refine xE 9 12 rfl ZR ?_<;>refine xE 10 2 rfl Zb ?_<;>refine Yu kR (nav ?_)<;>try dsimp only)
 have e:decide ((i:Int)<((bst l).size:Int))=decide (i<l.length):=by rw [hsz];exact decide_eq_decide.2 oM
 exact WQ (NrH b l i) (results179) rfl ⟨rfl,trivial⟩ ⟨congrArg Value.bool e,congrArg ZV e,rfl⟩
theorem ED (b:Nat) (l:List UInt8) (i:Nat) (c:UInt8) (hl:l.length≤1000000) (hc:l[i]? =some c):AFh False prog 205 [(0,ZX b, .val (ZX b))] (NrH b l i) (fun u q h=>u= .int .u8 c.toNat∧q=pU8 c.toNat∧h=NrH b l (i+1)):=by
 have hi:=Zg hc
 have hcy:(bst l).data[((i:Int)+1-1).toNat]? =some c:=by
  rw [show ((i:Int)+1-1).toNat=i by omega,G4];exact hc
 unfold NrH
 refine AFh.of_body 20 func205 rfl ntmps205 (Xa rfl) rfl ?_
 intro w0 M0 N0
 refine Zf ?_
 (refine xL 2 Zb ?_;refine Zn ?_)
 (refine xL 3 Za (xL 4 (ZC 1002) (xL 5 (Zd 1002 JO) ?_));refine yL 6 (Zi 1002 Se) fun v6 hv6=>?_;cases hv6;refine xL 7 ZO (xL 8 (ZC 1002) (xL 9 (Zd 1002 JO) ?_));refine Y3 1002 Se Zdj ?_;refine Ze ?_)
 (refine ZS (fun i=>([]:List Nat).elem i) [1002] kR ?_<;>refine xD 0 10 rfl Za ?_<;>refine xD 1 11 rfl (ZC 1002) ?_<;>refine xD 2 12 rfl (Zd 1002 Sd) ?_<;>(refine yD 3 13 rfl (Zi 1002 EC) fun v13 h=>?_;cases h)<;>refine xE 4 14 rfl Za ?_<;>refine xE 5 15 rfl (ZC 1002) ?_<;>refine xE 6 16 rfl (Zd 1002 JO) ?_<;>(refine yE 7 17 rfl (Zi 1002 Se) fun v17 h=>?_;cases h)<;>refine xE 8 18 rfl Gf ?_<;>refine xE 9 19 rfl (Ws underlying9 rfl rfl rfl oM hcy) ?_<;>refine xE 10 2 rfl Zb ?_<;>refine Yu kR (nav ?_)<;>try dsimp only)
 exact WQ (NrH b l (i+1)) (results205) rfl ⟨rfl,trivial⟩ ⟨rfl,rfl,rfl⟩
theorem Zhg {P:Program} {st:St} {o:Oper} {x:Operand} {q:PV} {ats:Array TypeId} (ho:o.op= .call {callee:= .builtin .unsafeSliceData,args:= #[x],argTypes:=ats}:=by exact rfl) (hx:ev st.slots x=some (.slice none 0 0,q):=by exact rfl):YE P st o (· = .pointer none) (.val (.pointer none)):=
 .exact fun M F a w H=>by
  have hv:=(H.ev hx).1;refine ⟨.val _,?_⟩;have:=Lib.run_unsafeSliceData_nil (P:=P) w ats o.type 0 0;simp [execOp,ho,resolve,invoke,builtin,hv,this]
theorem Zfn {P:Program} {st:St} {o:Oper} {x y:Operand} {q q':PV} {pt it:TypeId} (ho:o.op= .call {callee:= .builtin .unsafeString,args:= #[x,y],argTypes:= #[pt,it]}:=by exact rfl) (hx:ev st.slots x=some (.pointer none,q):=by exact rfl) (hy:ev st.slots y=some (.int .i64 0,q'):=by exact rfl):YE P st o (· = .string .empty) (.val (.string .empty)):=
 y2 hx hy fun ρ w h3 h4=>by
  have:=Lib.run_unsafeString_none (P:=P) w pt it o.type none;simp [execOp,ho,resolve,invoke,builtin,h3,h4,this]
theorem Zfo (b:Nat) (p:Value):AFh False prog 206 [(0,ZX b, .val (ZX b))] (ByH b p (.slice none 0 0) []) (fun u q h=>u= .string ⟨#[]⟩∧q= .val u∧h=[]):=by
 unfold ByH
 refine AFh.of_body 14 func206 rfl ntmps206 (Xa rfl) rfl ?_
 intro w0 M0 N0
 refine Zf ?_
 (refine xL 2 Zb ?_;refine Ze ?_)
 (refine ZS (fun i=>([]:List Nat).elem i) [1000,1001] kR ?_<;>refine xD 0 3 rfl Za ?_<;>refine xD 1 4 rfl (ZC 1000) ?_<;>refine xD 2 5 rfl (Zd 1000 JP) ?_<;>(refine yD 3 6 rfl (Zi 1000 La) fun v6 h=>?_;cases h)<;>refine xD 4 7 rfl Zhg ?_<;>refine xE 5 8 rfl Za ?_<;>refine xE 6 9 rfl (ZC 1000) ?_<;>refine xE 7 10 rfl (Zd 1000 JP) ?_<;>(refine yE 8 11 rfl (Zi 1000 La) fun v11 h=>?_;cases h)<;>refine xE 9 12 rfl (Zcz (e:=5) (k:=1) CO) ?_<;>(refine Zl 10 kR ?_)<;>(refine Zj rfl fun w9 M9 N9 DQ back=>?_)<;>refine xL 13 Zfn ?_<;>refine Zh (back _ (nrm ?_))<;>refine xE 11 2 rfl Zb ?_<;>refine Yu kR (nav ?_)<;>try dsimp only)
 exact WQ [] (results206) rfl trivial ⟨rfl,rfl,rfl⟩
theorem AFh.imp {dd:Prop} {P:Program} {f:FuncId} {ar h:List (Nat×Ent)} {R R':Value→PV→List (Nat×Ent)→Prop} (H:AFh dd P f ar h R) (h1:∀v p h,R v p h→R' v p h):AFh dd P f ar h R':=fun M N w F HF hv=>(H M N w F HF hv).mono fun _ _ ⟨v',p,h',F',h3,h4,h5,h6⟩=>⟨v',p,h',F',h3,h1 _ _ _ h4,h5,h6⟩
def ByI (p v:Value) (b:Nat) (bs:List UInt8):Prop:=(p= .pointer none∨p=ZX b)∧v.oneCell'=true∧(bs=[]→v= .slice none 0 0)
theorem Zfp (b:Nat) (p v:Value) (bs:List UInt8) (h:ByI p v b bs):AFh False prog 206 [(0,ZX b, .val (ZX b))] (ByH b p v bs) (fun u q h=>u= .string (bst bs)∧q=pB bs∧h=[]):=by
 by_cases h0:bs=[]
 · obtain rfl:=h.2.2 h0;subst h0;exact AFh.imp (Zfo b p) fun u q h ⟨h1,h2,h3⟩=>⟨h1,by rw [h2,h1];rfl,h3⟩
 · exact AFh.imp (Zfk b p v bs h0 h.2.1) fun u q h ⟨h1,h2,h3⟩=>⟨h1,by rw [h2,h1];rfl,h3⟩
theorem EE (b : Nat) (m :List UInt8) (n:Nat) (t:List UInt8) (hl:m.length≤100000) (hok:YT m= .ok n t):AFh False prog 178 [(0,ZX b, .val (ZX b))] (NrH b (34::m) 1) (fun u q h=>u= .tuple #[.string (bst t), .int .i64 0]∧q= .tup [pB t,Zc 0]∧h=NrH b (34::m) (1+n)):=by
 have hlen:(34::m).length=m.length+1:=rfl
 unfold NrH
 refine AFh.of_body 35 func178 rfl ntmps178 (Xa rfl) rfl ?_
 intro w0 M0 N0
 refine Zf ?_
 (refine xL 2 Zb (xL 3 Zb ?_);refine Zn ?_)
 (refine LC [.pointer none, .slice none 0 0] 2 4 CQ fun b4=>?_;refine Ze ?_)
 refine Zz (WF 1001 5 1 rfl) fun _=>?_
 refine Zz (Z0 (l:=4) 1000 rfl rfl) fun _=>?_
 refine ZE (ι:={q:Nat×(Value×Value)×List UInt8//q.1≤m.length∧YT m=T7 q.1 q.2.2 (YT (m.drop q.1))∧ByI q.2.1.1 q.2.1.2 b4 q.2.2∧q.2.2.length≤q.1}) (fun k=>⟨[(0,_,_),(4,_,_)],[(1002,Yd b, .own 200 2 1 [pB (34::m),Zc ((1+k.1.1:Nat):Int)]),(1000,Yd b4, .own 226 2 1 [.val k.1.2.1.1, .val k.1.2.1.2]),(1001,k.1.2.1.2, .own 5 1 k.1.2.2.length (k.1.2.2.map Tq))]⟩) (fun k=>m.length-k.1.1) ⟨(0,(.pointer none, .slice none 0 0),[]),Xh _,by rw [Vs];cases YT m<;>rfl,⟨.inl rfl,rfl,fun _=>rfl⟩,Xb _⟩ (fun a w H=>H.weaken ⟨rfl,rfl,trivial⟩ ⟨rfl,rfl,rfl,trivial⟩) ?_
 rintro ⟨⟨k,⟨bp,bv⟩,pre⟩,hk,hp,hby,hpl⟩
 dsimp only
 dsimp only at hk hp hby hpl;have hone:En.one (PV.val bv)=true:=hby.2.1
 refine Zf ?_
 (refine xL 6 Za ?_;(refine ZT [1000,1001] 7 (call179) (PZ b (34::m) (1+k) oM) ?_;rintro _ _ _ ⟨rfl,rfl,rfl⟩;dsimp only [NrH]);refine Ze ?_)
 refine cX ?_ ?_<;>intro hb7
 · first | exact bN hb7 |(
 (have hb7':1+k<m.length+1:=by simpa using hb7);obtain ⟨c,hc⟩:=J9 (l:=m) (i:=k) oM;(have hcx:(34::m)[1+k]? =some c:=by rw [show 1+k=k+1 by omega];exact hc);have hd:=LG hc;rw [hd] at hp;refine Zf ?_;(refine xL 8 Za ?_;(refine ZT [1000,1001] 9 (call205) (ED b (34::m) (1+k) c oM hcx) ?_;rintro _ _ _ ⟨rfl,rfl,rfl⟩;dsimp only [NrH]);refine xL 5 Zb ?_;refine Zn ?_)
 (refine xL 11 Za (xL 12 ZQ (xL 10 Zb ?_));refine Ze ?_)
 refine cX ?_ ?_<;>intro hb10
 · first|exact bN hb10|(
 refine Zf ?_;((refine ZT [1002] 13 (call206) (Zfp b4 bp bv pre hby) ?_;rintro _ _ _ ⟨rfl,rfl,rfl⟩);refine xL 2 Zb (xL 3 Zb ?_);refine Ze ?_)
 have he:=D1 (m:=m.drop (k+1)) hb10;rw [he,hok] at hp;simp only [T7,Vc,Lt.ok.injEq] at hp;obtain ⟨rfl,rfl⟩:=hp;refine L' [(1002,Yd b, .own 200 2 1 [pB (34::m),Zc ((1+k+1:Nat):Int)])] (results178) rfl rfl ⟨rfl,trivial⟩ ⟨rfl,rfl,?_⟩;rw [show 1+(1+k)=1+k+1 by omega])
 · first | exact bN hb10|(
 have hpr:¬((c.toNat:Int)<32∨126<(c.toNat:Int)):=fun h=>by
  rw [ζV hb10 h,hok] at hp;cases hp
 refine Zf ?_;(refine xL 15 Za (xL 16 ZQ (xL 17 Za ?_))<;>(refine bLd 17 (fun hb17=>?_) (fun hb17=>?_)<;>(first|refine kL 18 ?_|refine xL 18 Za ?_))<;>(first|refine kL 19 ?_|refine kL 19 ?_|(refine ZT [1000,1001] 19 (call179) (PZ b (34::m) (1+k+1) oM) ?_;rintro _ _ _ ⟨rfl,rfl,rfl⟩;dsimp only [NrH]))<;>(first|refine kL 20 ?_|refine xL 20 Ym ?_)<;>refine xL 21 Zu (xL 14 Zb ?_)<;>refine Ze ?_)<;>(
 refine cX ?_ ?_<;>intro hb14
 · first|exact bN hb14|(
 refine Zf ?_;(refine xL 2 Zb (xL 3 Zb ?_);refine Ze ?_)
 exfalso;simp only [Bool.not_eq_true',decide_eq_false_iff_not] at*;rw [Wz (show m.length≤k+1 by omega),PS oM,hok] at hp
 cases hp)
 · first | exact bN hb14|(
 refine Zf ?_;(refine xL 23 Za (xL 24 ZQ (xL 22 Zb ?_));refine Ze ?_)
 refine cX ?_ ?_<;>intro hb22
 · first | exact bN hb22|(
 have hk1:k+1<m.length:=by
  rcases Xm (k+1) m.length with h|h
  · exact h
  · rw [Wz h,PS hb22,hok] at hp;cases hp
 obtain ⟨d,hdc⟩:=J9 hk1;(have hdx:(34::m)[1+k+1]? =some d:=by rw [show 1+k+1=k+1+1 by omega];exact hdc);have hd2:=LG hdc;rw [hd2] at hp;refine Zf ?_;(refine xL 25 Za ?_;(refine ZT [1000,1001] 26 (call205) (ED b (34::m) (1+k+1) d oM hdx) ?_;rintro _ _ _ ⟨rfl,rfl,rfl⟩;dsimp only [NrH]);refine xL 5 Zb ?_;refine Zn ?_)
 (refine xL 27 Za (xL 28 YN (xL 29 Za ?_))<;>(refine bLd 29 (fun hb29=>?_) (fun hb29=>?_)<;>(first|refine kL 30 ?_|refine xL 30 Za ?_))<;>(first|refine kL 31 ?_|refine xL 31 YN ?_)<;>refine xL 32 Zu ?_<;>refine Ze ?_)<;>(
 refine cX ?_ ?_<;>intro hb32
 · first|exact bN hb32|(
 refine Zf ?_;(refine xL 2 Zb (xL 3 Zb ?_);refine Ze ?_)
 exfalso;rw [Er hb22 oM oM,hok] at hp
 cases hp)
 · first |exact bN hb32|(
 rw [D2 hb22 oM,L5] at hp;refine Zf ?_;(refine xL 33 Za ?_<;>(first|(refine ZT [1002] 34 (call207) (Ta b4 bp bv pre d hby.1 hby.2.1 oM) (fun v34 p34 h34 hR34=>?_);obtain ⟨w2,hw2,rfl⟩:=hR34;dsimp only [ByH])|(refine ZT [1002] 34 (call207) (Ta b4 bp bv pre c hby.1 hby.2.1 oM) (fun v34 p34 h34 hR34=>?_);obtain ⟨w2,hw2,rfl⟩:=hR34;dsimp only [ByH]))<;>refine Ze ?_)
 first
  | (exact Zk (
      ⟨(k+2,(ZX b4,w2),pre++[d]),by dsimp only;omega,hp,⟨.inr rfl,hw2,fun h=>by simp at h⟩,by simp only [Xg,Xc,Xk];omega⟩
      ) (by dsimp only;omega) ⟨rfl,rfl,trivial⟩ ⟨rfl,rfl,rfl,trivial⟩)
  | (exact Zk (
      ⟨(k+1,(ZX b4,w2),pre++[c]),by dsimp only;omega,hp,⟨.inr rfl,hw2,fun h=>by simp at h⟩,by simp only [Xg,Xc,Xk];omega⟩
      ) (by dsimp only;omega) ⟨rfl,rfl,trivial⟩ ⟨rfl,rfl,rfl,trivial⟩))))
 · first |exact bN hb22|(
 rw [S1 hb10 oM oM hb22,L5] at hp;refine Zf ?_;(refine xL 33 Za ?_<;>(first|(refine ZT [1002] 34 (call207) (Ta b4 bp bv pre d hby.1 hby.2.1 oM) (fun v34 p34 h34 hR34=>?_);obtain ⟨w2,hw2,rfl⟩:=hR34;dsimp only [ByH])|(refine ZT [1002] 34 (call207) (Ta b4 bp bv pre c hby.1 hby.2.1 oM) (fun v34 p34 h34 hR34=>?_);obtain ⟨w2,hw2,rfl⟩:=hR34;dsimp only [ByH]))<;>refine Ze ?_)
 first
  | (exact Zk (
      ⟨(k+2,(ZX b4,w2),pre++[d]),by dsimp only;omega,hp,⟨.inr rfl,hw2,fun h=>by simp at h⟩,by simp only [Xg,Xc,Xk];omega⟩
      ) (by dsimp only;omega) ⟨rfl,rfl,trivial⟩ ⟨rfl,rfl,rfl,trivial⟩)
  | (exact Zk (
      ⟨(k+1,(ZX b4,w2),pre++[c]),by dsimp only;omega,hp,⟨.inr rfl,hw2,fun h=>by simp at h⟩,by simp only [Xg,Xc,Xk];omega⟩
      ) (by dsimp only;omega) ⟨rfl,rfl,trivial⟩ ⟨rfl,rfl,rfl,trivial⟩))))))
 · first|exact bN hb7|(
 refine Zf ?_;(refine xL 2 Zb (xL 3 Zb ?_);refine Ze ?_)
 exfalso;(have hb7':¬1+k<m.length+1:=by simpa using hb7);rw [Wz oM,hok] at hp
 cases hp)
end Go.Proofs.YtpiemogpblmiiaaGreatDoor
namespace Go.En
open Go.RowKit Go.Cb
set_option linter.all false
section
variable {P:Program} {c:Ctx} {ops:Array Oper} {Q:Exit→Act→World→Prop} {rest:List Oper} {sL hP:List (Nat×Ent)} {o:Oper}
theorem Tb {t:TypeId} {x:Operand} {v:Value} {ps:List PV} (d:Nat) (m:Nat) (k:∀b:Nat,aL P c ops Q rest ⟨put d (ZX b, .val (ZX b)) sL,put d (Yd b, .own t m 1 ps) hP⟩) (hw:Z7 ops sL o=some true:=by exact rfl) (hd:o.dst=some d:=by exact rfl) (hn:d<c.nt:=by exact Xa rfl) (ho:o.op= .box t x:=by exact rfl) (hx:ev sL x=some (v, .agg ps):=by exact rfl) (hm:ps.length=m:=by exact rfl) (hl:lk hP d=none:=by exact rfl):aL P c ops Q (o::rest) (⟨sL,hP⟩:St):=
 Y8 hw fun a w F H=>by
  obtain ⟨hv,hS⟩:=H.rd.ev hx
  cases hS with
  | agg vs ps hlen hT=>
    obtain ⟨F',H'⟩:=Wh (e:=t) (k:=m) (n:=1) (cap:=1) (cur:=vs.toArray) (v:= .pointer (some ⟨w.heap.size,0,none⟩)) H hl hn (vs:=vs) (ps:=ps) hlen hT oM (Xb _) (by unfold maxLen;omega) (by simp;omega) (Xs (by simp;omega));unfold Oper.wp execOp;simp [ho,hv,Instr.box,newVar,newRow,newObj,Sem.run,Value.cells,hd,Oper.upon];exact k w.heap.size _ _ ⟨F',H'⟩
end
section
variable {P:Program} {st:St} {o:Oper} {x y:Operand} {q q':PV} {t t':TypeId}
theorem ζ6 (hu:P.underlying t=some (.interface (P.methodsAt t))) (ho:o.op= .binOp .neq t x (.const .nilIface) t':=by exact rfl) (hx:ev st.slots x=some (.nilIface,q):=by exact rfl):YE P st o (· = .bool false) (.val (.bool false)):=
 y2 hx (show ev st.slots (.const .nilIface)=some (.nilIface, .val .nilIface) from rfl) fun ρ w h3 h4=>by
  have:=run_neq_nil_nil w t hu;simp [execOp,ho,h3,h4,eqGuard_nil_constR,this]
theorem EF {u:TypeId} {v:Value} (hu:P.underlying t=some (.interface (P.methodsAt t))) (ho:o.op= .binOp .neq t x y t':=by exact rfl) (hx:ev st.slots x=some (.iface u v,q):=by exact rfl) (hy:ev st.slots y=some (.nilIface,q'):=by exact rfl):YE P st o (· = .bool true) (.val (.bool true)):=
 y2 hx hy fun ρ w h3 h4=>by
  have:=run_neq_held_nil w t u v hu;simp only [execOp,ho,h3,h4]
  cases y<;>simp [eqGuard,this]
theorem AF.of_same {f:FuncId} {us:List Value} {v:Value} (h:∀w,Calls P f us.toArray w fun e w'=>e= .returned v∧w'=w):AF P f (us.map .val) (· = .val v):=fun M w vs hM hl hv=>by
 have hvs:vs=us:=by
  rw [Xe] at hl;refine VN fun i=>?_
  cases h1:vs[i]? with
  | none=>
    have:=Uk.1 h1;rw [Vn oM]
  | some a=>
    have hi:=Zg h1;have h2:us[i]? =some (us[i]'oM):=Xx oM;have h3:=hv i a (.val (us[i]'oM)) h1 (by rw [Xo,h2];rfl);rw [h2]
    cases h3;rfl
 subst hvs
 refine (h w).mono fun e w' ⟨h1,h2⟩=>?_
 subst h1 h2
 exact ⟨v, .val v,fun _=>False,rfl,rfl,Ext.rfl' _, .shr (.val _) (fun _ h=>h),fun _ h=>h.elim,fun h=>h.elim⟩
end
inductive ResR (P:Program) (sL hP:List (Nat×Ent)):ResultVar→PV→Prop
 |tmp {t:Nat} {v:Value} {p:PV} (ht:lk sL t=some (v,p)):ResR P sL hP (.tmp t) p
 |cell {t ty k e k' n:Nat} {h:Value} {q:PV} {cs:List PV} (l:Nat) (hT:AggT P ty k=true) (ht:lk sL t=some (padd (sbase h) 0,q)) (hl:lk hP l=some (h, .own e k' n cs)) (hp:k≤cs.length) (hk:0<k) (hsh:(cs.take k).all isSh=true):ResR P sL hP (.cell t ty) (.agg (cs.take k))
 |cell1 {t ty e k' n:Nat} {h:Value} {q p:PV} {cs:List PV} (l:Nat) (hT:NoAgg P ty=true) (ht:lk sL t=some (padd (sbase h) 0,q)) (hl:lk hP l=some (h, .own e k' n cs)) (hp:cs[0]? =some p) (hsh:isSh p=true):ResR P sL hP (.cell t ty) p
def EG (tmps:Array Value):ResultVar→Sem Value
 | .tmp t=>pure (tmps.getD t undef)
 | .cell a t=>do loadVar t (←asAddr (tmps.getD a undef))
section
variable {P:Program} {c:Ctx} {sL hP:List (Nat×Ent)}
theorem ZbF {F:Nat→BS} {a:Act} {w:World} (H:HoldsF c (⟨sL,hP⟩:St) F a w) {t ty l e k' n:Nat} {h:Value} {q p:PV} {cs:List PV} (hT:NoAgg P ty=true) (ht:lk sL t=some (padd (sbase h) 0,q)) (hl:lk hP l=some (h, .own e k' n cs)) (hp:cs[0]? =some p) (hsh:isSh p=true):
 ∃V A,(asAddr (a.tmps.getD t undef)).run P w= .ok A w∧(loadVar ty A).run P w= .ok V w∧Shr (mof c hP F) w V p:=by
 have hv:=(H.sl t _ _ ht).1
 obtain ⟨xs,Fs,hrow,hlen,hTr,hd,hb,hF'⟩:=(H.tr l _ _ hl).row
 have hj:=Zg hp
 rcases YZ hrow with ⟨_,_,rfl⟩|⟨g,cap,rfl,h1,h2,h3⟩
 · simp at hlen;rw [hlen] at hj;simp at hj
 obtain ⟨y,hy⟩:=YJ hp hlen
 have hS:=(hTr 0 y p hy hp).sh hsh
 refine ⟨y,⟨g,0,none⟩,?_,?_,hS⟩
 · simp only [sbase,padd,Xv] at hv;simp [XR,hv,asAddr]
 · have:=WK hrow hy;simp [loadVar,NoAgg.run hT,load,Sem.run,this]
theorem ResR.run {r:ResultVar} {p:PV} {F:Nat→BS} {a:Act} {w:World} (hr:ResR P sL hP r p) (H:HoldsF c (⟨sL,hP⟩:St) F a w):∃V,(EG a.tmps r).run P w= .ok V w∧Shr (mof c hP F) w V p:=by
 cases hr with
 | tmp ht=>
   obtain ⟨h1,h2⟩:=H.sl _ _ _ ht;exact ⟨_,by simp [EG,XR,h1],h2⟩
 | cell l hT ht hl hp hk hsh=>
   obtain ⟨V,A,h0,h1,h2⟩:=Lw H hT ht hl hp hk hsh;exact ⟨V,by simp only [XR] at h0;simp [EG,h0,h1],h2⟩
 | cell1 l hT ht hl hp hsh=>
   obtain ⟨V,A,h0,h1,h2⟩:=ZbF H hT ht hl hp hsh;exact ⟨V,by simp only [XR] at h0;simp [EG,h0,h1],h2⟩
theorem CR (fn:Func) (tmps:Array Value):results fn tmps=(do let vs ←fn.results.mapM (EG tmps);pure (if h:vs.size=1 then vs[0] else Value.tuple vs)):=by
 unfold results
 congr 1
theorem results3 {fn:Func} {r0 r1 r2:ResultVar} {tmps:Array Value} {w:World} {V0 V1 V2:Value} (hr:fn.results= #[r0,r1,r2]) (h0:(EG tmps r0).run P w= .ok V0 w) (h1:(EG tmps r1).run P w= .ok V1 w) (h2:(EG tmps r2).run P w= .ok V2 w):(results fn tmps).run P w= .ok (.tuple #[V0,V1,V2]) w:=by
 rw [CR,hr]
 simp [h0,h1,h2]
theorem Zhh {M:BS} {w:World} {V0 V1 V2:Value} {p0 p1 p2:PV} (h0:Shr M w V0 p0) (h1:Shr M w V1 p1) (h2:Shr M w V2 p2):Shr M w (.tuple #[V0,V1,V2]) (.tup [p0,p1,p2]):= .tup [V0,V1,V2] _ rfl fun i v q hv hq=>by
 match i with
 |0=>cases hv;cases hq;exact h0
 |1=>cases hv;cases hq;exact h1
 |2=>cases hv;cases hq;exact h2
 |i+3=>simp at hv
theorem Zfq {F:Nat→BS} {H':List (Nat×Ent)} (hsub:Sub H' hP) (b:Nat) (hb:mof c H' F b):mof c hP F b:=by
 rcases hb with hb|⟨l,x,h1,h2⟩
 · exact .inl hb
 · exact .inr ⟨l,x,hsub.lk h1,h2⟩
theorem Gu {fn:Func} {R:Value→PV→List (Nat×Ent)→Prop} {r0 r1 r2:ResultVar} {p0 p1 p2:PV} (H':List (Nat×Ent)) (hr:fn.results= #[r0,r1,r2]) (h0:ResR P sL hP r0 p0) (h1:ResR P sL hP r1 p1) (h2:ResR P sL hP r2 p2) (hsub:Sub H' hP) (hR:∀V V1 V2:Value,vOf p1 V1→vOf p2 V2→R (.tuple #[V,V1,V2]) (.tup [p0,p1,p2]) H') (hdf:c.df=[]:=by exact rfl):aR c (bodyPost P fn (RR c R)) (⟨sL,hP⟩:St):=fun a w ⟨F,H⟩=>by
 obtain ⟨V0,g0,s0⟩:=h0.run H
 obtain ⟨V1,g1,s1⟩:=h1.run H
 obtain ⟨V2,g2,s2⟩:=h2.run H
 have H2:HoldsF c (⟨sL,H'⟩:St) F a w:=H.less (fun _ _ h=>h) fun t x hx=>hsub.lk hx
 exact ⟨H.df.trans hdf, .tuple #[V0,V1,V2],results3 hr g0 g1 g2,_,_,H',F,rfl,hR _ _ _ s1.vOf s2.vOf,H2.toHeapF,(Zhh s0 s1 s2).anti fun b _ hb=>Zfq hsub b hb⟩
theorem Sf {fn:Func} {R:PV→Prop} {r0 r1 r2:ResultVar} {p0 p1 p2:PV} (hr:fn.results= #[r0,r1,r2]) (h0:ResR P sL hP r0 p0) (h1:ResR P sL hP r1 p1) (h2:ResR P sL hP r2 p2) (hR:R (.tup [p0,p1,p2])) (hN:∀b,¬c.N0 b:=by intro _ h;exact h) (hdf:c.df=[]:=by exact rfl):aR c (bodyPost P fn (JI c R)) (⟨sL,hP⟩:St):=fun a w ⟨F,H⟩=>by
 obtain ⟨V0,g0,s0⟩:=h0.run H
 obtain ⟨V1,g1,s1⟩:=h1.run H
 obtain ⟨V2,g2,s2⟩:=h2.run H
 refine ⟨H.df.trans hdf, .tuple #[V0,V1,V2],results3 hr g0 g1 g2,_,_,fun _=>False,rfl,hR,H.ext.ext (fun b _=>hN b), .shr ((Zhh s0 s1 s2).anti fun b _ hb=>?_) (fun _ h=>h),fun _ h=>h.elim,H.dw⟩
 rcases hb with hb|hb
 · exact .inl hb
 · exact hb.elim
end
end Go.En
namespace Go.Proofs.YtpiemogpblmiiaaGreatDoor
open Go.RowKit Go.Cb Go.En Tryz
set_option linter.all false
set_option maxRecDepth 100000
theorem Wg:FldT prog 151 0 0=true:=by kernel_rfl
theorem KM:NoAgg prog 9=true:=by kernel_rfl
theorem CS:Y9 prog 200=some ((.agg #[(.string ByteArray.empty),(.int .i64 0)]),([0,1]:List Nat).map fun o=>(o,1)):=by kernel_rfl
theorem Ha : ∀(m:List UInt8) {n:Nat} {t:List UInt8},YT m= .ok n t→RV (m.take n)=true
 |[],n,t,h=>by simp [YT] at h
 | [c], n,t,h=>by
   rw [YT.eq_def] at h;simp only at h;split at h
   · rename_i h34;cases h;simp [RV,h34]
   · split at h
     · cases h
     · split at h
       · cases h
       · simp [YT] at h
 | c :: d :: m,n,t,h=>by
   rw [YT.eq_def] at h;simp only at h;split at h
   · rename_i h34;cases h;simp [RV,h34]
   · split at h
     · cases h
     · rename_i hr;split at h
       · rename_i h92;split at h
         · rename_i hd
           cases h2:YT m with
           |err e=>rw [h2] at h;cases h
           | ok n2 t2=>
             rw [h2] at h;cases h;have:=Ha m h2;unfold RV at this ⊢;rw [show n2+2=n2+1+1 from rfl,XP,XP,XH,XH,this];simp only [VJ,Xf,Ul];omega
         · cases h
       · cases h2:YT (d::m) with
         |err e=>rw [h2] at h;cases h
         | ok n2 t2=>
           rw [h2] at h;cases h;have:=Ha (d::m) h2;unfold RV at this ⊢;rw [XP,XH,this];simp only [VJ,Xf,Ul];omega
theorem EH (m : List UInt8) (t:List UInt8) (hl:m.length≤16384) (hok:YT m= .ok m.length t):AF prog 161 [pB (34::m)] (· = .tup [pB t,Zc 0]):=by
 have hsz:=YO (34::m)
 have hlen:(34::m).length=m.length+1:=rfl
 have htl:=GI m hok
 have htz:=YO t
 have hp1:RV (34::m)=true:=by
  have:=Ha m hok;rw [Vz] at this;unfold RV at this ⊢;rw [XH,this];rfl
 have hpre:[34].isPrefixOf (34::m)=true:=by simp [List.isPrefixOf]
 refine AF.of_body 38 func161 rfl ntmps161 (Xa rfl) ?_
 intro w0 M0 vs hl hv
 obtain ⟨v0,rfl⟩:=Kl hl
 obtain rfl:=hv 0 _ _ rfl rfl
 clear hl hv
 refine Zf ?_
 (refine xL 2 Zb (xL 3 Zb ?_);refine Zn ?_)
 (refine xL 7 Za (xL 8 (Wn underlying9) (xL 9 Wy ?_));refine Ze ?_)
 refine cX ?_ ?_<;>intro hb9
 · first|exact bN hb9|(
 refine Zf ?_;(refine xL 2 Zb (xL 3 Zb ?_);refine Ze ?_)
 exfalso;first|omega|(simp at*;done)|(simp at*;omega))
 · first | exact bN hb9|(
 refine Zf ?_;(refine xL 10 Za ?_<;>(refine cS 11 (cA (call176) (RE (34::m) [34] oM dC)) fun v11 hv11=>?_;cases hv11;rw [hpre])<;>refine xL 12 Ym (xL 13 Za (xL 14 Za ?_))<;>(refine cS 15 (cA (call177) (OV (34::m) oM)) fun v15 hv15=>?_;cases hv15;rw [hp1])<;>refine xL 16 Ym (xL 17 Zu ?_)<;>refine Ze ?_)<;>(
 refine cX ?_ ?_<;>intro hb17
 · first|exact bN hb17|(
 refine Zf ?_;(refine xL 2 Zb (xL 3 Zb ?_);refine Ze ?_)
 exfalso;first|omega|(simp at*;done)|(simp at*;omega))
 · first | exact bN hb17|(
 refine Zf ?_;(refine xL 18 Za (xL 19 (Z3 CS) ?_);refine Tb 20 2 fun b20=>?_;refine xL 4 Zb ?_;refine Ze ?_)
 refine Zz (Z0 (l:=20) 1002 rfl rfl) fun _=>?_;(refine Zm ?_;refine xL 22 Za ?_;(refine ZT [] 23 (call178) (EE b20 m m.length t oM hok) ?_;rintro _ _ _ ⟨rfl,rfl,rfl⟩;dsimp only [NrH]);refine xL 21 Za (xL 24 ZK (xL 25 ZK (xL 5 Zb (xL 6 Zb ?_))));refine Zn ?_)
 (refine xL 27 Za (xL 28 YN (xL 26 Zb ?_));refine Ze ?_)
 refine cX ?_ ?_<;>intro hb26
 · first|exact bN hb26|(
 refine Zf ?_;(refine xL 29 Za (xL 2 Zb (xL 3 Zb ?_));refine Ze ?_)
 exfalso;first|omega|(simp at*;done)|(simp at*;omega))
 · first | exact bN hb26|(
 refine Zf ?_;(refine xL 31 Za ?_;(refine ZT [] 32 (call179) (PZ b20 (34::m) (1+m.length) oM) ?_;rintro _ _ _ ⟨rfl,rfl,rfl⟩;dsimp only [NrH]);refine xL 30 Zb ?_;refine Ze ?_)
 refine cX ?_ ?_<;>intro hb30
 · first|exact bN hb30|(
 refine Zf ?_;(refine xL 2 Zb (xL 3 Zb ?_);refine Ze ?_)
 exfalso;first|omega|(simp at*;done)|(simp at*;omega))
 · first|exact bN hb30|(
 refine Zf ?_;(refine xL 34 Za (xL 35 (Wn underlying9) (xL 36 Wy (xL 33 Zb ?_)));refine Ze ?_)
 refine cX ?_ ?_<;>intro hb33
 · first|exact bN hb33|(
 refine Zf ?_;(refine xL 2 Zb (xL 3 Zb ?_);refine Ze ?_)
 exfalso;first|omega|(simp at*;done)|(simp at*;omega))
 · first|exact bN hb33|(
 refine Zf ?_;(refine xL 37 Za (xL 2 Zb (xL 3 Zb ?_));refine Ze ?_)
 exact JD (results161) rfl rfl rfl))))))
theorem Lb (l:List UInt8):AF prog 154 [pB l,ZZ ⟨#[10]⟩] (· =Zc (Lib.indexByte l 10)):=by
 have:=AF.of_same (P:=prog) (f:=154) (us:=[.string (bst l), .string ⟨#[10]⟩]) (v:= .int .i64 (Lib.indexByte l 10)) fun w=>by
  have:=Tryz.strings_Index_one (bst l) 10 w;rw [GH] at this;exact this
 exact this
theorem Sg:∀(m:List UInt8) (i:Int),Lib.indexByte m 10=i→(i<0→Yn true m=m.length)∧(0≤i→i.toNat≤m.length∧Yn true m=i.toNat+Yn false (m.drop i.toNat))
 | [],i,h=>by
   rw [Lib.indexByte] at h;exact ⟨fun _=>rfl,fun h0=>oM⟩
 | c :: m,i,h=>by
   rw [Lib.indexByte] at h;by_cases hc:c=10
   · subst hc;rw [Up sM] at h;subst h;refine ⟨fun h0=>oM,fun _=>⟨Xh _,?_⟩⟩;rw [Int.toNat_zero,Vs,Yn,Yn,Up dC];simp
   · rw [Uo (by simpa using hc)] at h;have hn:((c.toNat !=10))=true:=by
      rw [bne_iff_ne];intro h0;exact hc (UInt8.toNat_inj.1 h0)
     have hge:=Lib.indexByte_ge m 10;obtain ⟨h1,h2⟩:=Sg m _ rfl;rw [Yn,hn,Xc];split at h
     · rename_i hlt;rw [beq_iff_eq] at hlt;subst h;refine ⟨fun _=>by rw [h1 oM];omega,fun h0=>oM⟩
     · rename_i hlt;rw [beq_iff_eq] at hlt;subst h;obtain ⟨h3,h4⟩:=h2 oM;refine ⟨fun h0=>oM,fun _=>?_⟩;have e:(Lib.indexByte m 10+1).toNat=(Lib.indexByte m 10).toNat+1:=oM;rw [e,List.drop_succ_cons,h4];exact ⟨oM,oM⟩
theorem Tc (l:List UInt8):((bst l).toList==ByteArray.toList {data:= #[]})=decide (l=[]):=CH l []
theorem EI (p:Int×Int) (l:List UInt8) (n k:Nat):Ys (Ys p (l.take n)) ((l.drop n).take k)=Ys p (l.take (n+k)):=ZcM p l n k
theorem CU (b : Nat) (l : List UInt8) (p:Int×Int) (hl:l.length≤100000) (h1:0≤p.1) (h2:0≤p.2) (h3:p.1≤100000) (h4:p.2≤100000):AFh False prog 125 [(0,ZX b, .val (ZX b))] (RdH b l p) (fun _ _ h=>h=RdH b (l.drop (Yn false l)) (Ys p (l.take (Yn false l)))):=by
 unfold RdH
 refine AFh.of_body 37 func125 rfl ntmps125 (Xa rfl) rfl ?_
 intro w0 M0 N0
 refine nav ?_
 refine ZE (ι:={n:Nat//n≤l.length∧n+Yn false (l.drop n)=Yn false l}) (fun k=>⟨[(0,_,_)],[(1000,Yd b, .own 151 3 1 [pB (l.drop k.1),Zc (Ys p (l.take k.1)).1,Zc (Ys p (l.take k.1)).2])]⟩) (fun k=>l.length-k.1) ⟨0,Xh _,by rw [Vs];omega⟩ (fun a w H=>H.weaken ⟨rfl,trivial⟩ ⟨rfl,trivial⟩) ?_
 rintro ⟨n,hn,hb⟩
 dsimp only
 try dsimp only at hn hb
 have hbd:=CJ h1 h2 (l.take n)
 rw [Xl] at hbd
 have hdl:(l.drop n).length=l.length-n:=Xw ..
 have hsk:∀k,k≤(l.drop n).length→AFh False prog 127 [(0,ZX b, .val (ZX b)),(1, .int .i64 k,Zc k)] (RdH b (l.drop n) (Ys p (l.take n))) (fun _ _ h=>h=RdH b (l.drop (n+k)) (Ys p (l.take (n+k)))):=fun k hk=>by
  have:=Eo b (l.drop n) (Ys p (l.take n)) k hk oM hbd.1 hbd.2.1 oM oM;rw [Xy,EI] at this;exact this
 refine Zf ?_
 (refine xL 3 Za (xL 4 (ZC 1000) (xL 5 (Zd 1000 Wg) ?_));refine yL 6 (Zi 1000 KM) fun v6 hv6=>?_;cases hv6;refine xL 7 Lv ?_;refine Ze ?_)
 refine cX ?_ ?_<;>intro hb7
 · first | exact bN hb7 | (
 have hne:l.drop n≠[]:=by
  intro h;rw [Tc,h] at hb7;simp at hb7
 clear hb7;obtain ⟨c,m,hcm⟩:=List.exists_cons_of_ne_nil hne;(have hc0:(bst (l.drop n)).data[(0:Int).toNat]? =some c:=by rw [G4,hcm];rfl);(have hml:(l.drop n).length=m.length+1:=by rw [hcm];rfl);rw [hcm] at hb;refine Zf ?_;(refine xL 8 Za (xL 9 (ZC 1000) (xL 10 (Zd 1000 Wg) ?_));refine yL 11 (Zi 1000 KM) fun v11 hv11=>?_;cases hv11;refine xL 12 (Ws underlying9 rfl rfl rfl oM hc0) ?_;refine Zn ?_)
 (refine xL 14 ZQ (xL 13 Zb ?_);refine Ze ?_)
 refine cX ?_ ?_<;>intro hb13
 · first | exact bN hb13|(
 refine nav ?_;refine cX ?_ ?_<;>intro hb13
 · first |exact bN hb13|(
 refine nav ?_;have hbl:Jz c=true:=by
  unfold Jz;simp only [XO,beq_iff_eq];omega
 rw [Yn,Up hbl] at hb;(have hdm:l.drop (n+1)=m:=by rw [←Xy,hcm];rfl);(refine Zm ?_;refine xL 18 Za ?_;(refine ZT [] 19 (call127) (hsk 1 oM) (fun v19 p19 h19 hR19=>?_);subst hR19;dsimp only [RdH]);refine Ze ?_)
 first
  | (exact Zk (
      ⟨n+1,oM,by rw [hdm];omega⟩
      ) (by dsimp only;omega) ⟨rfl,trivial⟩ ⟨rfl,trivial⟩)
  | (exact Zk (
      ⟨n+j,oM,oM⟩
      ) (by dsimp only;omega) ⟨rfl,trivial⟩ ⟨rfl,trivial⟩))
 · first | exact bN hb13|(
 refine Zf ?_;(refine xL 21 ZQ (xL 20 Zb ?_);refine Ze ?_)
 refine cX ?_ ?_<;>intro hb20
 · first | exact bN hb20|(
 refine nav ?_;have hnb:Jz c=false:=by
  unfold Jz;simp only [Vh,beq_eq_false_iff_ne];omega
 obtain ⟨hi1,hi2⟩:=Sg (c::m) _ rfl;rw [Yn,Uo (by rw [hnb];exact XV),Up oM] at hb;have hct:Yn true (c::m)=1+Yn true m:=by
  rw [Yn,show (c.toNat !=10)=true by rw [bne_iff_ne];omega]
 rw [hct] at hi1 hi2;have hne0:Lib.indexByte (c::m) 10≠0:=by
  have hge:=Lib.indexByte_ge m 10;rw [Lib.indexByte,Uo (by rw [beq_iff_eq];intro h;subst h;exact Uq hb20 dC)];split
  · omega
  · rename_i h;rw [beq_iff_eq] at h;omega
 have hidx:AF prog 154 [pB (l.drop n),ZZ ⟨#[10]⟩] (· =Zc (Lib.indexByte (c::m) 10)):=by
  rw [hcm];exact Lb (c::m)
 (refine Zm ?_;refine xL 22 Za (xL 23 (ZC 1000) (xL 24 (Zd 1000 Wg) ?_));refine yL 25 (Zi 1000 KM) fun v25 hv25=>?_;cases hv25;refine cS 26 (cA call154 (hidx)) fun v26 hv26=>?_;cases hv26;refine xL 2 Zb ?_;refine Zn ?_)
 (refine xL 27 Za (xL 28 ZR ?_);refine Ze ?_)
 refine cX ?_ ?_<;>intro hb28
 · first |exact bN hb28|(
 refine Zf ?_;(refine xL 29 Za (xL 30 (ZC 1000) (xL 31 (Zd 1000 Wg) ?_));refine yL 32 (Zi 1000 KM) fun v32 hv32=>?_;cases hv32;refine xL 33 (Wn underlying9) (xL 2 Zb ?_);refine Ze ?_)
 obtain ⟨j,hj0,hj1,hj2,hj3⟩:∃j:Nat,1≤j∧j≤m.length+1∧n+j+Yn false (l.drop (n+j))=Yn false l∧(j:Int)=(if Lib.indexByte (c::m) 10<0 then ((m.length+1:Nat):Int) else Lib.indexByte (c::m) 10):=by
  split
  · rename_i hlt;have:=hi1 hlt;rw [Xc] at this;refine ⟨m.length+1,oM,Xb _,?_,rfl⟩;rw [←Xy,hcm,Wz (by rw [Xc];exact Xb _),Yn];omega
  · rename_i hlt;obtain ⟨h5,h6⟩:=hi2 oM;rw [Xc] at h5;refine ⟨(Lib.indexByte (c::m) 10).toNat,oM,h5,?_,oM⟩;rw [←Xy,hcm];omega
 have hskJ:∀i:Int,i=(j:Int)→AFh False prog 127 [(0,ZX b, .val (ZX b)),(1, .int .i64 i,Zc i)] (RdH b (l.drop n) (Ys p (l.take n))) (fun _ _ h=>h=RdH b (l.drop (n+j)) (Ys p (l.take (n+j)))):=fun i hi=>by
  subst hi;exact hsk j oM
 (refine Zm ?_<;>refine xL 34 Za (xL 35 Za ?_)<;>(first|(refine ZT [] 36 (call127) (hskJ _ (show (Lib.indexByte (c::m) 10)=(j:Int) by rw [hj3,Uo oM])) (fun v36 p36 h36 hR36=>?_);subst hR36;dsimp only [RdH])|(refine ZT [] 36 (call127) (hskJ _ (show ((bst (l.drop n)).size:Int)=(j:Int) by rw [hj3,Up oM,YO,hml])) (fun v36 p36 h36 hR36=>?_);subst hR36;dsimp only [RdH]))<;>refine Ze ?_)
 first
  | (exact Zk (
      ⟨n+1,oM,by rw [hdm];omega⟩
      ) (by dsimp only;omega) ⟨rfl,trivial⟩ ⟨rfl,trivial⟩)
  | (exact Zk (
      ⟨n+j,oM,oM⟩
      ) (by dsimp only;omega) ⟨rfl,trivial⟩ ⟨rfl,trivial⟩))
 · first |exact bN hb28|(
 refine nav ?_;obtain ⟨j,hj0,hj1,hj2,hj3⟩:∃j:Nat,1≤j∧j≤m.length+1∧n+j+Yn false (l.drop (n+j))=Yn false l∧(j:Int)=(if Lib.indexByte (c::m) 10<0 then ((m.length+1:Nat):Int) else Lib.indexByte (c::m) 10):=by
  split
  · rename_i hlt;have:=hi1 hlt;rw [Xc] at this;refine ⟨m.length+1,oM,Xb _,?_,rfl⟩;rw [←Xy,hcm,Wz (by rw [Xc];exact Xb _),Yn];omega
  · rename_i hlt;obtain ⟨h5,h6⟩:=hi2 oM;rw [Xc] at h5;refine ⟨(Lib.indexByte (c::m) 10).toNat,oM,h5,?_,oM⟩;rw [←Xy,hcm];omega
 have hskJ:∀i:Int,i=(j:Int)→AFh False prog 127 [(0,ZX b, .val (ZX b)),(1, .int .i64 i,Zc i)] (RdH b (l.drop n) (Ys p (l.take n))) (fun _ _ h=>h=RdH b (l.drop (n+j)) (Ys p (l.take (n+j)))):=fun i hi=>by
  subst hi;exact hsk j oM
 (refine Zm ?_<;>refine xL 34 Za (xL 35 Za ?_)<;>(first|(refine ZT [] 36 (call127) (hskJ _ (show (Lib.indexByte (c::m) 10)=(j:Int) by rw [hj3,Uo oM])) (fun v36 p36 h36 hR36=>?_);subst hR36;dsimp only [RdH])|(refine ZT [] 36 (call127) (hskJ _ (show ((bst (l.drop n)).size:Int)=(j:Int) by rw [hj3,Up oM,YO,hml])) (fun v36 p36 h36 hR36=>?_);subst hR36;dsimp only [RdH]))<;>refine Ze ?_)
 first
  | (exact Zk (
      ⟨n+1,oM,by rw [hdm];omega⟩
      ) (by dsimp only;omega) ⟨rfl,trivial⟩ ⟨rfl,trivial⟩)
  | (exact Zk (
      ⟨n+j,oM,oM⟩
      ) (by dsimp only;omega) ⟨rfl,trivial⟩ ⟨rfl,trivial⟩)))
 · first|exact bN hb20|(
 refine nav ?_;have hnb:Jz c=false:=by
  unfold Jz;simp only [Vh,beq_eq_false_iff_ne];omega
 rw [T3 hnb oM] at hb;have hb':Yn false l=n:=oM;refine G3 (RdH b (l.drop n) (Ys p (l.take n))) (results125) ⟨rfl,trivial⟩ ?_;rw [hb'];rfl)))
 · first | exact bN hb13 |(
 refine Zf ?_;(refine xL 15 ZQ (xL 13 Zb ?_);refine Ze ?_)
 refine cX ?_ ?_<;>intro hb13
 · first | exact bN hb13|(
 refine nav ?_;refine cX ?_ ?_<;>intro hb13
 · first |exact bN hb13|(
 refine nav ?_;have hbl:Jz c=true:=by
  unfold Jz;simp only [XO,beq_iff_eq];omega
 rw [Yn,Up hbl] at hb;(have hdm:l.drop (n+1)=m:=by rw [←Xy,hcm];rfl);(refine Zm ?_;refine xL 18 Za ?_;(refine ZT [] 19 (call127) (hsk 1 oM) (fun v19 p19 h19 hR19=>?_);subst hR19;dsimp only [RdH]);refine Ze ?_)
 first
  | (exact Zk (
      ⟨n+1,oM,by rw [hdm];omega⟩
      ) (by dsimp only;omega) ⟨rfl,trivial⟩ ⟨rfl,trivial⟩)
  | (exact Zk (
      ⟨n+j,oM,oM⟩
      ) (by dsimp only;omega) ⟨rfl,trivial⟩ ⟨rfl,trivial⟩))
 · first | exact bN hb13|(
 refine Zf ?_;(refine xL 21 ZQ (xL 20 Zb ?_);refine Ze ?_)
 refine cX ?_ ?_<;>intro hb20
 · first | exact bN hb20|(
 refine nav ?_;have hnb:Jz c=false:=by
  unfold Jz;simp only [Vh,beq_eq_false_iff_ne];omega
 obtain ⟨hi1,hi2⟩:=Sg (c::m) _ rfl;rw [Yn,Uo (by rw [hnb];exact XV),Up oM] at hb;have hct:Yn true (c::m)=1+Yn true m:=by
  rw [Yn,show (c.toNat !=10)=true by rw [bne_iff_ne];omega]
 rw [hct] at hi1 hi2;have hne0:Lib.indexByte (c::m) 10≠0:=by
  have hge:=Lib.indexByte_ge m 10;rw [Lib.indexByte,Uo (by rw [beq_iff_eq];intro h;subst h;exact Uq hb20 dC)];split
  · omega
  · rename_i h;rw [beq_iff_eq] at h;omega
 have hidx:AF prog 154 [pB (l.drop n),ZZ ⟨#[10]⟩] (· =Zc (Lib.indexByte (c::m) 10)):=by
  rw [hcm];exact Lb (c::m)
 (refine Zm ?_;refine xL 22 Za (xL 23 (ZC 1000) (xL 24 (Zd 1000 Wg) ?_));refine yL 25 (Zi 1000 KM) fun v25 hv25=>?_;cases hv25;refine cS 26 (cA call154 (hidx)) fun v26 hv26=>?_;cases hv26;refine xL 2 Zb ?_;refine Zn ?_)
 (refine xL 27 Za (xL 28 ZR ?_);refine Ze ?_)
 refine cX ?_ ?_<;>intro hb28
 · first |exact bN hb28|(
 refine Zf ?_;(refine xL 29 Za (xL 30 (ZC 1000) (xL 31 (Zd 1000 Wg) ?_));refine yL 32 (Zi 1000 KM) fun v32 hv32=>?_;cases hv32;refine xL 33 (Wn underlying9) (xL 2 Zb ?_);refine Ze ?_)
 obtain ⟨j,hj0,hj1,hj2,hj3⟩:∃j:Nat,1≤j∧j≤m.length+1∧n+j+Yn false (l.drop (n+j))=Yn false l∧(j:Int)=(if Lib.indexByte (c::m) 10<0 then ((m.length+1:Nat):Int) else Lib.indexByte (c::m) 10):=by
  split
  · rename_i hlt;have:=hi1 hlt;rw [Xc] at this;refine ⟨m.length+1,oM,Xb _,?_,rfl⟩;rw [←Xy,hcm,Wz (by rw [Xc];exact Xb _),Yn];omega
  · rename_i hlt;obtain ⟨h5,h6⟩:=hi2 oM;rw [Xc] at h5;refine ⟨(Lib.indexByte (c::m) 10).toNat,oM,h5,?_,oM⟩;rw [←Xy,hcm];omega
 have hskJ:∀i:Int,i=(j:Int)→AFh False prog 127 [(0,ZX b, .val (ZX b)),(1, .int .i64 i,Zc i)] (RdH b (l.drop n) (Ys p (l.take n))) (fun _ _ h=>h=RdH b (l.drop (n+j)) (Ys p (l.take (n+j)))):=fun i hi=>by
  subst hi;exact hsk j oM
 (refine Zm ?_<;>refine xL 34 Za (xL 35 Za ?_)<;>(first|(refine ZT [] 36 (call127) (hskJ _ (show (Lib.indexByte (c::m) 10)=(j:Int) by rw [hj3,Uo oM])) (fun v36 p36 h36 hR36=>?_);subst hR36;dsimp only [RdH])|(refine ZT [] 36 (call127) (hskJ _ (show ((bst (l.drop n)).size:Int)=(j:Int) by rw [hj3,Up oM,YO,hml])) (fun v36 p36 h36 hR36=>?_);subst hR36;dsimp only [RdH]))<;>refine Ze ?_)
 first
  | (exact Zk (
      ⟨n+1,oM,by rw [hdm];omega⟩
      ) (by dsimp only;omega) ⟨rfl,trivial⟩ ⟨rfl,trivial⟩)
  | (exact Zk (
      ⟨n+j,oM,oM⟩
      ) (by dsimp only;omega) ⟨rfl,trivial⟩ ⟨rfl,trivial⟩))
 · first |exact bN hb28|(
 refine nav ?_;obtain ⟨j,hj0,hj1,hj2,hj3⟩:∃j:Nat,1≤j∧j≤m.length+1∧n+j+Yn false (l.drop (n+j))=Yn false l∧(j:Int)=(if Lib.indexByte (c::m) 10<0 then ((m.length+1:Nat):Int) else Lib.indexByte (c::m) 10):=by
  split
  · rename_i hlt;have:=hi1 hlt;rw [Xc] at this;refine ⟨m.length+1,oM,Xb _,?_,rfl⟩;rw [←Xy,hcm,Wz (by rw [Xc];exact Xb _),Yn];omega
  · rename_i hlt;obtain ⟨h5,h6⟩:=hi2 oM;rw [Xc] at h5;refine ⟨(Lib.indexByte (c::m) 10).toNat,oM,h5,?_,oM⟩;rw [←Xy,hcm];omega
 have hskJ:∀i:Int,i=(j:Int)→AFh False prog 127 [(0,ZX b, .val (ZX b)),(1, .int .i64 i,Zc i)] (RdH b (l.drop n) (Ys p (l.take n))) (fun _ _ h=>h=RdH b (l.drop (n+j)) (Ys p (l.take (n+j)))):=fun i hi=>by
  subst hi;exact hsk j oM
 (refine Zm ?_<;>refine xL 34 Za (xL 35 Za ?_)<;>(first|(refine ZT [] 36 (call127) (hskJ _ (show (Lib.indexByte (c::m) 10)=(j:Int) by rw [hj3,Uo oM])) (fun v36 p36 h36 hR36=>?_);subst hR36;dsimp only [RdH])|(refine ZT [] 36 (call127) (hskJ _ (show ((bst (l.drop n)).size:Int)=(j:Int) by rw [hj3,Up oM,YO,hml])) (fun v36 p36 h36 hR36=>?_);subst hR36;dsimp only [RdH]))<;>refine Ze ?_)
 first
  | (exact Zk (
      ⟨n+1,oM,by rw [hdm];omega⟩
      ) (by dsimp only;omega) ⟨rfl,trivial⟩ ⟨rfl,trivial⟩)
  | (exact Zk (
      ⟨n+j,oM,oM⟩
      ) (by dsimp only;omega) ⟨rfl,trivial⟩ ⟨rfl,trivial⟩)))
 · first|exact bN hb20|(
 refine nav ?_;have hnb:Jz c=false:=by
  unfold Jz;simp only [Vh,beq_eq_false_iff_ne];omega
 rw [T3 hnb oM] at hb;have hb':Yn false l=n:=oM;refine G3 (RdH b (l.drop n) (Ys p (l.take n))) (results125) ⟨rfl,trivial⟩ ?_;rw [hb'];rfl)))
 · first | exact bN hb13|(
 refine Zf ?_;(refine xL 16 ZQ (xL 13 Zb ?_);refine Ze ?_)
 refine cX ?_ ?_<;>intro hb13
 · first | exact bN hb13|(
 refine nav ?_;refine cX ?_ ?_<;>intro hb13
 · first |exact bN hb13|(
 refine nav ?_;have hbl:Jz c=true:=by
  unfold Jz;simp only [XO,beq_iff_eq];omega
 rw [Yn,Up hbl] at hb;(have hdm:l.drop (n+1)=m:=by rw [←Xy,hcm];rfl);(refine Zm ?_;refine xL 18 Za ?_;(refine ZT [] 19 (call127) (hsk 1 oM) (fun v19 p19 h19 hR19=>?_);subst hR19;dsimp only [RdH]);refine Ze ?_)
 first
  | (exact Zk (
      ⟨n+1,oM,by rw [hdm];omega⟩
      ) (by dsimp only;omega) ⟨rfl,trivial⟩ ⟨rfl,trivial⟩)
  | (exact Zk (
      ⟨n+j,oM,oM⟩
      ) (by dsimp only;omega) ⟨rfl,trivial⟩ ⟨rfl,trivial⟩))
 · first | exact bN hb13|(
 refine Zf ?_;(refine xL 21 ZQ (xL 20 Zb ?_);refine Ze ?_)
 refine cX ?_ ?_<;>intro hb20
 · first | exact bN hb20|(
 refine nav ?_;have hnb:Jz c=false:=by
  unfold Jz;simp only [Vh,beq_eq_false_iff_ne];omega
 obtain ⟨hi1,hi2⟩:=Sg (c::m) _ rfl;rw [Yn,Uo (by rw [hnb];exact XV),Up oM] at hb;have hct:Yn true (c::m)=1+Yn true m:=by
  rw [Yn,show (c.toNat !=10)=true by rw [bne_iff_ne];omega]
 rw [hct] at hi1 hi2;have hne0:Lib.indexByte (c::m) 10≠0:=by
  have hge:=Lib.indexByte_ge m 10;rw [Lib.indexByte,Uo (by rw [beq_iff_eq];intro h;subst h;exact Uq hb20 dC)];split
  · omega
  · rename_i h;rw [beq_iff_eq] at h;omega
 have hidx:AF prog 154 [pB (l.drop n),ZZ ⟨#[10]⟩] (· =Zc (Lib.indexByte (c::m) 10)):=by
  rw [hcm];exact Lb (c::m)
 (refine Zm ?_;refine xL 22 Za (xL 23 (ZC 1000) (xL 24 (Zd 1000 Wg) ?_));refine yL 25 (Zi 1000 KM) fun v25 hv25=>?_;cases hv25;refine cS 26 (cA call154 (hidx)) fun v26 hv26=>?_;cases hv26;refine xL 2 Zb ?_;refine Zn ?_)
 (refine xL 27 Za (xL 28 ZR ?_);refine Ze ?_)
 refine cX ?_ ?_<;>intro hb28
 · first |exact bN hb28|(
 refine Zf ?_;(refine xL 29 Za (xL 30 (ZC 1000) (xL 31 (Zd 1000 Wg) ?_));refine yL 32 (Zi 1000 KM) fun v32 hv32=>?_;cases hv32;refine xL 33 (Wn underlying9) (xL 2 Zb ?_);refine Ze ?_)
 obtain ⟨j,hj0,hj1,hj2,hj3⟩:∃j:Nat,1≤j∧j≤m.length+1∧n+j+Yn false (l.drop (n+j))=Yn false l∧(j:Int)=(if Lib.indexByte (c::m) 10<0 then ((m.length+1:Nat):Int) else Lib.indexByte (c::m) 10):=by
  split
  · rename_i hlt;have:=hi1 hlt;rw [Xc] at this;refine ⟨m.length+1,oM,Xb _,?_,rfl⟩;rw [←Xy,hcm,Wz (by rw [Xc];exact Xb _),Yn];omega
  · rename_i hlt;obtain ⟨h5,h6⟩:=hi2 oM;rw [Xc] at h5;refine ⟨(Lib.indexByte (c::m) 10).toNat,oM,h5,?_,oM⟩;rw [←Xy,hcm];omega
 have hskJ:∀i:Int,i=(j:Int)→AFh False prog 127 [(0,ZX b, .val (ZX b)),(1, .int .i64 i,Zc i)] (RdH b (l.drop n) (Ys p (l.take n))) (fun _ _ h=>h=RdH b (l.drop (n+j)) (Ys p (l.take (n+j)))):=fun i hi=>by
  subst hi;exact hsk j oM
 (refine Zm ?_<;>refine xL 34 Za (xL 35 Za ?_)<;>(first|(refine ZT [] 36 (call127) (hskJ _ (show (Lib.indexByte (c::m) 10)=(j:Int) by rw [hj3,Uo oM])) (fun v36 p36 h36 hR36=>?_);subst hR36;dsimp only [RdH])|(refine ZT [] 36 (call127) (hskJ _ (show ((bst (l.drop n)).size:Int)=(j:Int) by rw [hj3,Up oM,YO,hml])) (fun v36 p36 h36 hR36=>?_);subst hR36;dsimp only [RdH]))<;>refine Ze ?_)
 first
  | (exact Zk (
      ⟨n+1,oM,by rw [hdm];omega⟩
      ) (by dsimp only;omega) ⟨rfl,trivial⟩ ⟨rfl,trivial⟩)
  | (exact Zk (
      ⟨n+j,oM,oM⟩
      ) (by dsimp only;omega) ⟨rfl,trivial⟩ ⟨rfl,trivial⟩))
 · first |exact bN hb28|(
 refine nav ?_;obtain ⟨j,hj0,hj1,hj2,hj3⟩:∃j:Nat,1≤j∧j≤m.length+1∧n+j+Yn false (l.drop (n+j))=Yn false l∧(j:Int)=(if Lib.indexByte (c::m) 10<0 then ((m.length+1:Nat):Int) else Lib.indexByte (c::m) 10):=by
  split
  · rename_i hlt;have:=hi1 hlt;rw [Xc] at this;refine ⟨m.length+1,oM,Xb _,?_,rfl⟩;rw [←Xy,hcm,Wz (by rw [Xc];exact Xb _),Yn];omega
  · rename_i hlt;obtain ⟨h5,h6⟩:=hi2 oM;rw [Xc] at h5;refine ⟨(Lib.indexByte (c::m) 10).toNat,oM,h5,?_,oM⟩;rw [←Xy,hcm];omega
 have hskJ:∀i:Int,i=(j:Int)→AFh False prog 127 [(0,ZX b, .val (ZX b)),(1, .int .i64 i,Zc i)] (RdH b (l.drop n) (Ys p (l.take n))) (fun _ _ h=>h=RdH b (l.drop (n+j)) (Ys p (l.take (n+j)))):=fun i hi=>by
  subst hi;exact hsk j oM
 (refine Zm ?_<;>refine xL 34 Za (xL 35 Za ?_)<;>(first|(refine ZT [] 36 (call127) (hskJ _ (show (Lib.indexByte (c::m) 10)=(j:Int) by rw [hj3,Uo oM])) (fun v36 p36 h36 hR36=>?_);subst hR36;dsimp only [RdH])|(refine ZT [] 36 (call127) (hskJ _ (show ((bst (l.drop n)).size:Int)=(j:Int) by rw [hj3,Up oM,YO,hml])) (fun v36 p36 h36 hR36=>?_);subst hR36;dsimp only [RdH]))<;>refine Ze ?_)
 first
  | (exact Zk (
      ⟨n+1,oM,by rw [hdm];omega⟩
      ) (by dsimp only;omega) ⟨rfl,trivial⟩ ⟨rfl,trivial⟩)
  | (exact Zk (
      ⟨n+j,oM,oM⟩
      ) (by dsimp only;omega) ⟨rfl,trivial⟩ ⟨rfl,trivial⟩)))
 · first|exact bN hb20|(
 refine nav ?_;have hnb:Jz c=false:=by
  unfold Jz;simp only [Vh,beq_eq_false_iff_ne];omega
 rw [T3 hnb oM] at hb;have hb':Yn false l=n:=oM;refine G3 (RdH b (l.drop n) (Ys p (l.take n))) (results125) ⟨rfl,trivial⟩ ?_;rw [hb'];rfl)))
 · first | exact bN hb13|(
 refine Zf ?_;(refine xL 17 ZQ (xL 13 Zb ?_);refine Ze ?_)
 refine cX ?_ ?_<;>intro hb13
 · first |exact bN hb13|(
 refine nav ?_;have hbl:Jz c=true:=by
  unfold Jz;simp only [XO,beq_iff_eq];omega
 rw [Yn,Up hbl] at hb;(have hdm:l.drop (n+1)=m:=by rw [←Xy,hcm];rfl);(refine Zm ?_;refine xL 18 Za ?_;(refine ZT [] 19 (call127) (hsk 1 oM) (fun v19 p19 h19 hR19=>?_);subst hR19;dsimp only [RdH]);refine Ze ?_)
 first
  | (exact Zk (
      ⟨n+1,oM,by rw [hdm];omega⟩
      ) (by dsimp only;omega) ⟨rfl,trivial⟩ ⟨rfl,trivial⟩)
  | (exact Zk (
      ⟨n+j,oM,oM⟩
      ) (by dsimp only;omega) ⟨rfl,trivial⟩ ⟨rfl,trivial⟩))
 · first | exact bN hb13|(
 refine Zf ?_;(refine xL 21 ZQ (xL 20 Zb ?_);refine Ze ?_)
 refine cX ?_ ?_<;>intro hb20
 · first | exact bN hb20|(
 refine nav ?_;have hnb:Jz c=false:=by
  unfold Jz;simp only [Vh,beq_eq_false_iff_ne];omega
 obtain ⟨hi1,hi2⟩:=Sg (c::m) _ rfl;rw [Yn,Uo (by rw [hnb];exact XV),Up oM] at hb;have hct:Yn true (c::m)=1+Yn true m:=by
  rw [Yn,show (c.toNat !=10)=true by rw [bne_iff_ne];omega]
 rw [hct] at hi1 hi2;have hne0:Lib.indexByte (c::m) 10≠0:=by
  have hge:=Lib.indexByte_ge m 10;rw [Lib.indexByte,Uo (by rw [beq_iff_eq];intro h;subst h;exact Uq hb20 dC)];split
  · omega
  · rename_i h;rw [beq_iff_eq] at h;omega
 have hidx:AF prog 154 [pB (l.drop n),ZZ ⟨#[10]⟩] (· =Zc (Lib.indexByte (c::m) 10)):=by
  rw [hcm];exact Lb (c::m)
 (refine Zm ?_;refine xL 22 Za (xL 23 (ZC 1000) (xL 24 (Zd 1000 Wg) ?_));refine yL 25 (Zi 1000 KM) fun v25 hv25=>?_;cases hv25;refine cS 26 (cA call154 (hidx)) fun v26 hv26=>?_;cases hv26;refine xL 2 Zb ?_;refine Zn ?_)
 (refine xL 27 Za (xL 28 ZR ?_);refine Ze ?_)
 refine cX ?_ ?_<;>intro hb28
 · first |exact bN hb28|(
 refine Zf ?_;(refine xL 29 Za (xL 30 (ZC 1000) (xL 31 (Zd 1000 Wg) ?_));refine yL 32 (Zi 1000 KM) fun v32 hv32=>?_;cases hv32;refine xL 33 (Wn underlying9) (xL 2 Zb ?_);refine Ze ?_)
 obtain ⟨j,hj0,hj1,hj2,hj3⟩:∃j:Nat,1≤j∧j≤m.length+1∧n+j+Yn false (l.drop (n+j))=Yn false l∧(j:Int)=(if Lib.indexByte (c::m) 10<0 then ((m.length+1:Nat):Int) else Lib.indexByte (c::m) 10):=by
  split
  · rename_i hlt;have:=hi1 hlt;rw [Xc] at this;refine ⟨m.length+1,oM,Xb _,?_,rfl⟩;rw [←Xy,hcm,Wz (by rw [Xc];exact Xb _),Yn];omega
  · rename_i hlt;obtain ⟨h5,h6⟩:=hi2 oM;rw [Xc] at h5;refine ⟨(Lib.indexByte (c::m) 10).toNat,oM,h5,?_,oM⟩;rw [←Xy,hcm];omega
 have hskJ:∀i:Int,i=(j:Int)→AFh False prog 127 [(0,ZX b, .val (ZX b)),(1, .int .i64 i,Zc i)] (RdH b (l.drop n) (Ys p (l.take n))) (fun _ _ h=>h=RdH b (l.drop (n+j)) (Ys p (l.take (n+j)))):=fun i hi=>by
  subst hi;exact hsk j oM
 (refine Zm ?_<;>refine xL 34 Za (xL 35 Za ?_)<;>(first|(refine ZT [] 36 (call127) (hskJ _ (show (Lib.indexByte (c::m) 10)=(j:Int) by rw [hj3,Uo oM])) (fun v36 p36 h36 hR36=>?_);subst hR36;dsimp only [RdH])|(refine ZT [] 36 (call127) (hskJ _ (show ((bst (l.drop n)).size:Int)=(j:Int) by rw [hj3,Up oM,YO,hml])) (fun v36 p36 h36 hR36=>?_);subst hR36;dsimp only [RdH]))<;>refine Ze ?_)
 first
  | (exact Zk (
      ⟨n+1,oM,by rw [hdm];omega⟩
      ) (by dsimp only;omega) ⟨rfl,trivial⟩ ⟨rfl,trivial⟩)
  | (exact Zk (
      ⟨n+j,oM,oM⟩
      ) (by dsimp only;omega) ⟨rfl,trivial⟩ ⟨rfl,trivial⟩))
 · first |exact bN hb28|(
 refine nav ?_;obtain ⟨j,hj0,hj1,hj2,hj3⟩:∃j:Nat,1≤j∧j≤m.length+1∧n+j+Yn false (l.drop (n+j))=Yn false l∧(j:Int)=(if Lib.indexByte (c::m) 10<0 then ((m.length+1:Nat):Int) else Lib.indexByte (c::m) 10):=by
  split
  · rename_i hlt;have:=hi1 hlt;rw [Xc] at this;refine ⟨m.length+1,oM,Xb _,?_,rfl⟩;rw [←Xy,hcm,Wz (by rw [Xc];exact Xb _),Yn];omega
  · rename_i hlt;obtain ⟨h5,h6⟩:=hi2 oM;rw [Xc] at h5;refine ⟨(Lib.indexByte (c::m) 10).toNat,oM,h5,?_,oM⟩;rw [←Xy,hcm];omega
 have hskJ:∀i:Int,i=(j:Int)→AFh False prog 127 [(0,ZX b, .val (ZX b)),(1, .int .i64 i,Zc i)] (RdH b (l.drop n) (Ys p (l.take n))) (fun _ _ h=>h=RdH b (l.drop (n+j)) (Ys p (l.take (n+j)))):=fun i hi=>by
  subst hi;exact hsk j oM
 (refine Zm ?_<;>refine xL 34 Za (xL 35 Za ?_)<;>(first|(refine ZT [] 36 (call127) (hskJ _ (show (Lib.indexByte (c::m) 10)=(j:Int) by rw [hj3,Uo oM])) (fun v36 p36 h36 hR36=>?_);subst hR36;dsimp only [RdH])|(refine ZT [] 36 (call127) (hskJ _ (show ((bst (l.drop n)).size:Int)=(j:Int) by rw [hj3,Up oM,YO,hml])) (fun v36 p36 h36 hR36=>?_);subst hR36;dsimp only [RdH]))<;>refine Ze ?_)
 first
  | (exact Zk (
      ⟨n+1,oM,by rw [hdm];omega⟩
      ) (by dsimp only;omega) ⟨rfl,trivial⟩ ⟨rfl,trivial⟩)
  | (exact Zk (
      ⟨n+j,oM,oM⟩
      ) (by dsimp only;omega) ⟨rfl,trivial⟩ ⟨rfl,trivial⟩)))
 · first|exact bN hb20|(
 refine nav ?_;have hnb:Jz c=false:=by
  unfold Jz;simp only [Vh,beq_eq_false_iff_ne];omega
 rw [T3 hnb oM] at hb;have hb':Yn false l=n:=oM;refine G3 (RdH b (l.drop n) (Ys p (l.take n))) (results125) ⟨rfl,trivial⟩ ?_;rw [hb'];rfl))))))
 · first|exact bN hb7|(
 have he:l.drop n=[]:=by
  rw [Tc] at hb7;simpa using hb7
 (have hb':Yn false l=n:=by rw [he] at hb;simpa [Yn] using hb.symm);refine nav ?_;refine Z8 (RdH b (l.drop n) (Ys p (l.take n))) (results125) ⟨rfl,trivial⟩ ?_;rw [hb'];rfl)
theorem Yh:AggT prog 117 5=true:=by kernel_rfl
theorem CV:AggT prog 65 2=true:=by kernel_rfl
theorem K8:FldT prog 117 0 0=true:=by kernel_rfl
theorem Lc:FldT prog 117 1 1=true:=by kernel_rfl
theorem Hb:FldT prog 117 2 2=true:=by kernel_rfl
theorem YX:FldT prog 151 0 0=true:=by kernel_rfl
theorem Hc:FldT prog 151 1 1=true:=by kernel_rfl
theorem GJ:NoAgg prog 3=true:=by kernel_rfl
theorem WA:NoAgg prog 9=true:=by kernel_rfl
theorem CW:Y9 prog 117=some ((.agg #[(.int .i64 0),(.string ByteArray.empty),(.int .i64 0),(.int .i64 0),(.int .i64 0)]),[(0,1),(1,1),(2,1),(3,2)]):=by kernel_rfl
theorem GK:(prog.info? 3).map (·.size)=some 1:=by kernel_rfl
theorem P0:(prog.info? 9).map (·.size)=some 1:=by kernel_rfl
theorem P1:ZeroT prog 117 (.agg #[(.int .i64 0),(.string ByteArray.empty),(.int .i64 0),(.int .i64 0),(.int .i64 0)]):=by unfold ZeroT;kernel_rfl
def Zfr:Option (Nat×Value)→PV
 |none=> .val .nilIface
 |some (t,x)=> .val (.iface t x)
def ζ7 (P:Program) (f:FuncId):Prop:=∀d:List UInt8,d≠[]→(∀c∈d,KI c=true)→d.length≤20000→AF P f [pB d] (fun p=>∃i:{i:Int×Option (Nat×Value)//(i.2=none∧i.1=LA d∧LA d≤9223372036854775807)∨(∃x,i.2=some x)∧9223372036854775807<LA d},p= .tup [Zc i.1.1,Zfr i.1.2])
theorem Zfs {a:Int} (o:Option (Nat×Value)):shD (.tup [Zc a,Zfr o])=true:=by
 cases o with
 |none=>rfl
 |some x=>rfl
theorem Zdl {x:Int} {o:Option (Nat×Value)} {VD:Nat} (h:(((x,o):Int×Option (Nat×Value)).2=none∧((x,o):Int×Option (Nat×Value)).1=VD∧VD≤9223372036854775807)∨(∃y,((x,o):Int×Option (Nat×Value)).2=some y)∧9223372036854775807<VD):(o=none→x=(VD:Int))∧(o≠none→9223372036854775807<VD):=by
 rcases h with ⟨h1,h2,_⟩|⟨⟨y,h1⟩,h2⟩
 · exact ⟨fun _=>h2,fun h=>Uq h1 h⟩
 · exact ⟨fun h=>(by simp only at h1;rw [h] at h1;cases h1),fun _=>h2⟩
theorem Hd {P:Program} {st:St} {o:Oper} {x y:Operand} {q q':PV} {t t':TypeId} {a b:Int} (B:Bool) (ho:o.op= .binOp .neq t x y t':=by exact rfl) (hx:ev st.slots x=some (.int .i64 a,q):=by exact rfl) (hy:ev st.slots y=some (.int .i64 b,q'):=by exact rfl) (hB:decide (a≠b)=B:=by decide):YE P st o (· = .bool B) (.val (.bool B)):=by
 subst hB
 exact YN ho hx hy
theorem Si :∀{m:List UInt8} {e:Int},YT m= .err e→e=3∨e=4
 |[],e,h=>by simp [YT] at h;omega
 | [c], e,h=>by
   rw [YT.eq_def] at h;simp only at h;split at h
   · cases h
   · split at h
     · cases h;omega
     · split at h
       · cases h;omega
       · simp [YT] at h;omega
 | c :: d ::m,e,h=>by
   rw [YT.eq_def] at h;simp only at h;split at h
   · cases h
   · split at h
     · cases h;omega
     · split at h
       · split at h
         · cases h2:YT m with
           |err e2=>rw [h2] at h;cases h;exact Si h2
           |ok n2 t2=>rw [h2] at h;cases h
         · cases h;omega
       · cases h2:YT (d::m) with
         |err e2=>rw [h2] at h;cases h;exact Si h2
         |ok n2 t2=>rw [h2] at h;cases h
theorem ZbG {l:List UInt8} {e:Int} (h:Gt l= .err e):e≠0:=by
 cases l with
 |nil=>cases h
 | cons c m =>
   rw [Gt] at h;split at h
   · split at h
     · cases h;omega
     · cases h
   · split at h
     · split at h
       · cases h;omega
       · split at h
         · cases h;omega
         · cases h
     · split at h
       · cases h2:YT m with
         | err e2=>
           rw [h2] at h;cases h;have:=Si h2;omega
         |ok n t=>rw [h2] at h;cases h
       · cases h2:RS (c::m) with
         |none=>rw [h2] at h;cases h;omega
         |some x=>rw [h2] at h;cases h
theorem P2 : ∀(m:List UInt8) {n:Nat} {t:List UInt8},YT m= .ok n t→YT (m.take n)= .ok n t
 |[],n,t,h=>by simp [YT] at h
 | [c],n,t,h=>by
   have:=GI [c] h;rw [Xs (by simpa using this.1)];exact h
 | c :: d :: m,n,t,h=>by
   have h0:=h;rw [YT.eq_def] at h;simp only at h;split at h
   · rename_i h34;cases h;exact D1 oM
   · split at h
     · cases h
     · rename_i hr;split at h
       · rename_i h92;split at h
         · rename_i hd
           cases h2:YT m with
           |err e=>rw [h2] at h;cases h
           | ok n2 t2=>
             rw [h2] at h;cases h;have:=P2 m h2;rw [show n2+2=n2+1+1 from rfl,XP,XP,D2 oM oM,this];rfl
         · cases h
       · rename_i h92
         cases h2:YT (d::m) with
         |err e=>rw [h2] at h;cases h
         | ok n2 t2=>
           rw [h2] at h;cases h;have:=P2 (d::m) h2;rw [XP,S1 oM oM oM oM,this];rfl
def Zil (p:Int×Int):Lx→PV
 | .ok kd tx n len=> .tup [.agg [Zc kd,pB tx,Zc n,Zc p.1,Zc p.2],Zc len,Zc 0]
 | .err e=> .tup [.agg [Zc 0,pB [],Zc 0,Zc p.1,Zc p.2],Zc 0,Zc e]
def Zim (lx:Lx) (V:Value):Value:=match lx with
 | .ok _ _ _ len=> .tuple #[V, .int .i64 len, .int .i64 0]
 | .err e=> .tuple #[V, .int .i64 0, .int .i64 e]
theorem He (q:UInt8→Bool):∀l:List UInt8,l.take (l.takeWhile q).length=l.takeWhile q
 |[]=>rfl
 | c::l=>by
   rw [VF];split
   · rw [Xc,XP,He q l]
   · rfl
theorem Hf (q:UInt8→Bool):∀l:List UInt8,l.drop (l.takeWhile q).length=l.dropWhile q
 |[]=>rfl
 | c::l=>by
   rw [VF,List.dropWhile_cons];split
   · rw [Xc,List.drop_succ_cons,Hf q l]
   · rfl
theorem Zdm {q:UInt8→Bool}:∀{l:List UInt8} {c:UInt8},c∈l.takeWhile q→q c=true
 | d ::l,c,h=>by
   rw [VF] at h;split at h
   · rename_i hd;rcases Xn.1 h with rfl|h
     · exact hd
     · exact Zdm h
   · cases h
theorem Zft {q:UInt8→Bool} {l:List UInt8} {d:UInt8} (h:l[(l.takeWhile q).length]? =some d):(l.dropWhile q).head? =some d:=by
 rw [←Hf,List.head?_drop];exact h
theorem Zfu {q:UInt8→Bool} {l:List UInt8} (h:¬(l.takeWhile q).length<l.length):l.dropWhile q=[]:=by
 rw [←Hf];exact Wz oM
set_option maxHeartbeats 4000000 in
theorem Zdn (b : Nat) (l:List UInt8) (hA:(∃c∈l,KI c=true)→ζ7 prog 159) (p:Int×Int) (hl:l.length≤16384):AFh False prog 126 [(0,ZX b, .val (ZX b))] (RdH b l p) (fun u q h=>(∃V,u=Zim (Gt l) V)∧q=Zil p (Gt l)∧h=RdH b l p):=by
 have hsz:=YO l
 unfold RdH
 refine AFh.of_body 158 func126 rfl ntmps126 (Xa rfl) rfl ?_
 intro w0 M0 N0
 refine Zf ?_
 (refine ZA [(.int .i64 0),(.string ByteArray.empty),(.int .i64 0),(.int .i64 0),(.int .i64 0)] 5 2 P1 fun h2=>?_;refine xL 3 Zb (xL 4 Zb ?_);refine Zn ?_)
 (refine xL 16 Za (xL 17 (ZC 1000) (xL 18 (Zd 1000 Hc) ?_));refine yL 19 (Zq 1000 CV) fun v19 hv19=>?_;cases hv19;refine yL 20 (W7 CW) fun v20 hv20=>?_;cases hv20;refine LC [.int .i64 0, .string ByteArray.empty, .int .i64 0, .int .i64 0, .int .i64 0] 5 5 P1 fun b5=>?_;refine Zv 5 Yh ?_;refine Ze ?_)
 refine Zz (ZF (l:=5) (p':= .own 117 5 1 [Zc 0,pB [],Zc 0,Zc p.1,Zc p.2]) rfl rfl) fun _=>?_
 (refine Zm ?_;refine xL 21 Za (xL 22 (ZC 1000) (xL 23 (Zd 1000 YX) ?_));refine yL 24 (Zi 1000 WA) fun v24 hv24=>?_;cases hv24;refine xL 25 WY ?_;refine Ze ?_)
 refine cX ?_ ?_<;>intro hb25
 · first|exact bN hb25|(
 obtain rfl:l=[]:=by
  rw [Tc] at hb25;simpa using hb25
 refine Zf ?_;(refine xL 26 (Zd 5 K8) ?_;refine Y3 5 GJ GK ?_;refine Zn ?_)
 (refine yL 27 (Zq 5 Yh) fun v27 hv27=>?_;cases hv27;refine Zv 2 Yh ?_;refine xL 3 Zb (xL 4 Zb ?_);refine Ze ?_)
 refine Gu (RdH b [] p) (results126) (.cell (k:=5) 2 kR rfl rfl (Xa rfl) dC rfl) (.tmp rfl) (.tmp rfl) ⟨rfl,trivial⟩ fun V V1 V2 h1 h2=>by cases h1;cases h2;exact ⟨⟨V,rfl⟩,rfl,rfl⟩)
 · first | exact bN hb25|(
 have hne:l≠[]:=by
  rintro rfl;rw [Tc] at hb25;simp at hb25
 clear hb25;obtain ⟨c,m,rfl⟩:=List.exists_cons_of_ne_nil hne;(have hc0:(bst (c::m)).data[(0:Int).toNat]? =some c:=by rw [G4];rfl);have hcl:(c::m).length=m.length+1:=rfl;refine Zf ?_;(refine xL 28 Za (xL 29 (ZC 1000) (xL 30 (Zd 1000 YX) ?_));refine yL 31 (Zi 1000 WA) fun v31 hv31=>?_;cases hv31;refine xL 32 (Ws underlying9 rfl rfl rfl oM hc0) ?_;refine xL 6 Zb ?_;refine Zn ?_)
 (refine xL 34 Za ?_;refine cS 35 (cA call155 (TI c.toNat)) fun v35 hv35=>?_;cases hv35;refine xL 33 Zb ?_;refine Ze ?_)
 refine cX ?_ ?_<;>intro hb33
 · first|exact bN hb33|(
 have hlb:OP c=true:=hb33;have htl:=ζM SZ (c::m);refine Zf ?_;(refine xL 36 Za (xL 37 (ZC 1000) (xL 38 (Zd 1000 YX) ?_));refine yL 39 (Zi 1000 WA) fun v39 hv39=>?_;cases hv39;refine cS 40 (cA call156 (PR 157 SZ (c::m) oM (call157) Zbo)) fun v40 hv40=>?_;cases hv40;refine xL 7 Zb ?_;refine Zn ?_)
 (refine xL 41 Za (xL 42 Wy ?_);refine Ze ?_)
 refine cX ?_ ?_<;>intro hb42
 · first|exact bN hb42|(
 refine Zf ?_;(refine yL 43 (Zq 5 Yh) fun v43 hv43=>?_;cases hv43;refine Zv 2 Yh ?_;refine xL 3 Zb (xL 4 Zb ?_);refine Ze ?_)
 refine Gu (RdH b (c::m) p) (results126) (.cell (k:=5) 2 kR rfl rfl (Xa rfl) dC rfl) (.tmp rfl) (.tmp rfl) ⟨rfl,trivial⟩ fun V V1 V2 h1 h2=>?_
 cases h1;cases h2;rw [Gt,Up hlb,Up oM];exact ⟨⟨V,rfl⟩,rfl,rfl⟩)
 · first|exact bN hb42|(
 refine nav ?_;(refine ZS (fun i=>([]:List Nat).elem i) [1000] kR ?_<;>refine xD 0 44 rfl Za ?_<;>refine xD 1 45 rfl (ZC 1000) ?_<;>refine xD 2 46 rfl (Zd 1000 YX) ?_<;>(refine yD 3 47 rfl (Zi 1000 WA) fun v47 h=>?_;cases h)<;>refine xD 4 48 rfl Za ?_<;>refine xD 5 49 rfl (DZ underlying9) ?_<;>refine xE 6 50 rfl (Zd 5 K8) ?_<;>(refine Zl 7 kR ?_)<;>(refine Zj rfl fun w9 M9 N9 DQ back=>?_)<;>refine Y3 5 GJ GK ?_<;>refine Zh (back _ (nrm ?_))<;>refine xE 8 51 rfl (Zd 5 Lc) ?_<;>(refine Zl 9 kR ?_)<;>(refine Zj rfl fun w9 M9 N9 DQ back=>?_)<;>refine Y3 5 WA P0 ?_<;>refine Zh (back _ (nrm ?_))<;>refine Yu kR (nav ?_)<;>try dsimp only)
 (refine Zm ?_;refine yL 52 (Zq 5 Yh) fun v52 hv52=>?_;cases hv52;refine xL 53 Za ?_;refine Zv 2 Yh ?_;refine xL 3 Zb (xL 4 Zb ?_);refine Ze ?_)
 refine Gu (RdH b (c::m) p) (results126) (.cell (k:=5) 2 kR rfl rfl (Xa rfl) dC rfl) (.tmp rfl) (.tmp rfl) ⟨rfl,trivial⟩ fun V V1 V2 h1 h2=>?_
 cases h1;cases h2;(have e:(c::m).take (((c::m).takeWhile SZ).length:Int).toNat=(c::m).takeWhile SZ:=by rw [X4,He]);rw [e,Gt,Up hlb,Uo oM];exact ⟨⟨V,rfl⟩,rfl,rfl⟩))
 · first | exact bN hb33|(
 have hlb:OP c=false:=hb33;refine Zf ?_;(refine xL 55 Za ?_;refine cS 56 (cA call158 (S0 c)) fun v56 hv56=>?_;cases hv56;refine xL 54 Zb ?_;refine Ze ?_)
 refine cX ?_ ?_<;>intro hb54
 · first | exact bN hb54|(
 have hdb:KI c=true:=hb54;have htl:=ζM KI (c::m);have hac:ζ7 prog 159:=hA ⟨c,XD ..,hdb⟩;have hdne:(c::m).takeWhile KI≠[]:=by
  intro h;have:=CF (p:=KI) (m:=m) hdb;rw [h] at this;simp at this
 obtain ⟨nd,hnd⟩:∃nd,nd=((c::m).takeWhile KI).length:=⟨_,rfl⟩;obtain ⟨d,hd⟩:∃d,nd<(c::m).length→(c::m)[nd]? =some d:=by
  rcases Xm nd (c::m).length with h|h
  · exact ⟨_,fun _=>Xx h⟩
  · exact ⟨0,fun h'=>oM⟩
 have hdy:nd<(c::m).length→(bst (c::m)).data[((nd:Nat):Int).toNat]? =some d:=fun h=>by
  rw [G4,X4];exact hd h
 have hlex:Gt (c::m)=(if ((c::m).dropWhile KI).head?.any (fun d=>OP d||d.toNat==95) then .err 3 else if 4503599627370496<LA ((c::m).takeWhile KI) then .err 6 else .ok 2 [] (LA ((c::m).takeWhile KI)) nd):=by
  rw [Gt,Uo (by rw [hlb];exact XV),Up hdb,hnd]
 have hany:((c::m).dropWhile KI).head?.any (fun d=>OP d||d.toNat==95)=(decide (nd<(c::m).length)&&(OP d||d.toNat==95)):=by
  by_cases h:nd<(c::m).length
  · rw [Zft (d:=d) (by rw [←hnd];exact hd h),Um h];rfl
  · rw [Zfu (by rw [←hnd];exact h),Un h];rfl
 rw [←hnd] at htl;(have htk:(c::m).take (nd:Int).toNat=(c::m).takeWhile KI:=by rw [X4,hnd,He]);have hlen:AF prog 156 [pB (c::m), .fn 158 []] (· =Zc nd):=by
  rw [hnd];exact PR 158 KI (c::m) oM (call158) S0
 have hdg:AF prog 159 [pB ((c::m).take (nd:Int).toNat)] (fun p=>∃i:{i:Int×Option (Nat×Value)//(i.2=none∧i.1=LA ((c::m).takeWhile KI)∧LA ((c::m).takeWhile KI)≤9223372036854775807)∨(∃x,i.2=some x)∧9223372036854775807<LA ((c::m).takeWhile KI)},p= .tup [Zc i.1.1,Zfr i.1.2]):=by
  rw [htk];exact hac ((c::m).takeWhile KI) hdne (fun d hd=>Zdm hd) oM
 generalize hVD:LA ((c::m).takeWhile KI)=VD at hdg hlex;refine Zf ?_;(refine xL 57 Za (xL 58 (ZC 1000) (xL 59 (Zd 1000 YX) ?_));refine yL 60 (Zi 1000 WA) fun v60 hv60=>?_;cases hv60;refine cS 61 (cA call156 (hlen)) fun v61 hv61=>?_;cases hv61;refine xL 8 Zb ?_;refine Zn ?_)
 (refine xL 62 Za (xL 63 Za (xL 64 (ZC 1000) (xL 65 (Zd 1000 YX) ?_)))<;>(refine yL 66 (Zi 1000 WA) fun v66 h=>?_;cases h)<;>refine xL 67 (Wn underlying9) (xL 68 ZR (xL 69 Za ?_))<;>(refine bLd 69 (fun hb69=>?_) (fun hb69=>?_)<;>(first|refine kL 70 ?_|refine xL 70 Za ?_))<;>(first|refine kL 71 ?_|refine xL 71 (ZC 1000) ?_)<;>(first|refine kL 72 ?_|refine xL 72 (Zd 1000 YX) ?_)<;>(first|refine kL 73 ?_|(refine yL 73 (Zi 1000 WA) fun v73 h=>?_;cases h))<;>(first|refine kL 74 ?_|refine xL 74 Za ?_)<;>(first|refine kL 75 ?_|refine kL 75 ?_|refine xL 75 (Ws underlying9 rfl rfl rfl oM (hdy oM)) ?_)<;>(first|refine kL 76 ?_|refine kL 76 ?_|(refine cS 76 (cA (call155) (TI d.toNat)) fun v76 h=>?_;cases h))<;>(first|refine kL 77 ?_|refine xL 77 Za ?_)<;>(first|refine kL 78 ?_|(refine bL 77 (fun hb77=>?_) (fun hb77=>?_)<;>(first|refine kL 78 ?_|refine xL 78 Za ?_)))<;>(first|refine kL 79 ?_|refine xL 79 (ZC 1000) ?_)<;>(first|refine kL 80 ?_|refine xL 80 (Zd 1000 YX) ?_)<;>(first|refine kL 81 ?_|(refine yL 81 (Zi 1000 WA) fun v81 h=>?_;cases h))<;>(first|refine kL 82 ?_|refine xL 82 Za ?_)<;>(first|refine kL 83 ?_|refine kL 83 ?_|refine xL 83 (Ws underlying9 rfl rfl rfl oM (hdy oM)) ?_)<;>(first|refine kL 84 ?_|refine xL 84 ZQ ?_)<;>(first|refine kL 85 ?_|refine xL 85 Zu ?_)<;>refine xL 86 Zu ?_<;>refine Ze ?_)<;>(
 refine cX ?_ ?_<;>intro hb86
 · first|exact bN hb86|(
 refine Zf ?_;(refine yL 87 (Zq 5 Yh) fun v87 hv87=>?_;cases hv87;refine Zv 2 Yh ?_;refine xL 3 Zb (xL 4 Zb ?_);refine Ze ?_)
 refine Gu (RdH b (c::m) p) (results126) (.cell (k:=5) 2 kR rfl rfl (Xa rfl) dC rfl) (.tmp rfl) (.tmp rfl) ⟨rfl,trivial⟩ fun V V1 V2 h1 h2=>?_
 cases h1;cases h2;rw [hlex,Up (by rw [hany,Um oM];simp only [VK,XO,beq_iff_eq];first|exact .inl hb77|exact .inr oM)];exact ⟨⟨V,rfl⟩,rfl,rfl⟩)
 · first |exact bN hb86|(
 refine nav ?_;have hno:((c::m).dropWhile KI).head?.any (fun d=>OP d||d.toNat==95)=false:=by
  rw [hany]
  first
   |(rw [Un oM];rfl)
   |(simp only [Bool.and_eq_false_iff,Vh,beq_eq_false_iff_ne];right;exact ⟨hb77,oM⟩)
 rw [hno,Uo XV] at hlex;(refine Zm ?_<;>refine xL 89 Za (xL 90 (ZC 1000) (xL 91 (Zd 1000 YX) ?_))<;>(refine yL 92 (Zi 1000 WA) fun v92 h=>?_;cases h)<;>refine xL 93 Za (xL 94 (DZ underlying9) ?_)<;>(refine cPx 95 (cA (call159) hdg) (fun i va95 vb95 hva95 hvb95=>?_) (fun i=>Zfs _);obtain ⟨⟨x,oo⟩,hi⟩:=i;have hv:(oo=none→x=(VD:Int))∧(oo≠none→9223372036854775807<VD):=Zdl hi;dsimp only at hva95 hvb95 ⊢;clear hi;rcases oo with _|⟨ot,ox⟩<;>(dsimp only [Zfr] at hva95 hvb95 ⊢;cases hva95;cases hvb95))<;>refine xL 88 Za (xL 96 ZK (xL 97 ZK (xL 9 Zb (xL 10 Zb ?_))))<;>refine Ze ?_)<;>(
 (refine Zm ?_<;>refine xL 98 Za ?_<;>(first|refine xL 99 (ζ6 kR) ?_|refine xL 99 (EF kR) ?_)<;>refine xL 100 Za ?_<;>(first|refine kL 101 ?_|refine xL 101 Za ?_)<;>(first|refine kL 102 ?_|refine xL 102 Wy ?_)<;>refine xL 103 Zu ?_<;>refine Ze ?_)<;>(
 refine cX ?_ ?_<;>intro hb103
 · first|exact bN hb103|(
 refine Zf ?_;(refine yL 104 (Zq 5 Yh) fun v104 hv104=>?_;cases hv104;refine Zv 2 Yh ?_;refine xL 3 Zb (xL 4 Zb ?_);refine Ze ?_)
 refine Gu (RdH b (c::m) p) (results126) (.cell (k:=5) 2 kR rfl rfl (Xa rfl) dC rfl) (.tmp rfl) (.tmp rfl) ⟨rfl,trivial⟩ fun V V1 V2 h1 h2=>?_
 cases h1;cases h2;rw [hlex,Up (by first|(have:=hv.1 rfl;omega)|(have:=hv.2 sM;omega))];exact ⟨⟨V,rfl⟩,rfl,rfl⟩)
 · first|exact bN hb103|(
 refine nav ?_;have hx:=hv.1 rfl;(refine Zm ?_;refine xL 105 Za (xL 106 (Zd 5 K8) ?_);refine Y3 5 GJ GK ?_;refine xL 107 (Zd 5 Hb) ?_;refine Y3 5 GJ GK ?_;refine Zn ?_)
 (refine yL 108 (Zq 5 Yh) fun v108 hv108=>?_;cases hv108;refine xL 109 Za ?_;refine Zv 2 Yh ?_;refine xL 3 Zb (xL 4 Zb ?_);refine Ze ?_)
 refine Gu (RdH b (c::m) p) (results126) (.cell (k:=5) 2 kR rfl rfl (Xa rfl) dC rfl) (.tmp rfl) (.tmp rfl) ⟨rfl,trivial⟩ fun V V1 V2 h1 h2=>?_
 cases h1;cases h2;rw [hlex,Uo oM,hx];exact ⟨⟨V,rfl⟩,rfl,rfl⟩))))))
 · first | exact bN hb54|(
 have hdb:KI c=false:=hb54;refine Zf ?_;(refine xL 111 Za (xL 112 ZQ (xL 110 Zb ?_));refine Ze ?_)
 refine cX ?_ ?_<;>intro hb110
 · first |exact bN hb110|(
 have hc34:c=34:=UInt8.toNat_inj.1 (by have:(c.toNat:Int)=34:=hb110;show c.toNat=34;omega);have hlex:Gt (c::m)=(match YT m with| .err e=> .err e| .ok n t=> .ok 3 t 0 (n+1)):=by
  rw [Gt,Uo (by rw [hlb];exact XV),Uo (by rw [hdb];exact XV),Up (by rw [hc34];rfl)]
  cases YT m<;>rfl
 have hl118:=Es c m oM;refine Zf ?_;(refine xL 114 Za (xL 115 (ZC 1000) (xL 116 (Zd 1000 YX) ?_))<;>(refine yL 117 (Zi 1000 WA) fun v117 h=>?_;cases h)<;>(rcases hlt:YT m with ⟨n,t⟩|e<;>rw [hlt] at hl118 hlex<;>dsimp only [ltP] at hl118 hlex<;>(refine cP 118 (cA (call160) hl118) fun va118 vb118 hva118 hvb118=>?_;cases hva118;cases hvb118)<;>(try (rcases Si hlt with rfl|rfl)))<;>refine xL 113 Za (xL 119 ZK (xL 120 ZK (xL 11 Zb (xL 12 Zb ?_))))<;>refine Ze ?_)<;>(
 (refine Zm ?_<;>refine xL 121 Za ?_<;>(first|refine xL 122 (Hd true) ?_|refine xL 122 (Hd false) ?_)<;>refine Ze ?_)
 refine cX ?_ ?_<;>intro hb122
 · first|exact bN hb122|(
 refine Zf ?_;(refine yL 123 (Zq 5 Yh) fun v123 hv123=>?_;cases hv123;refine xL 124 Za ?_;refine Zv 2 Yh ?_;refine xL 3 Zb (xL 4 Zb ?_);refine Ze ?_)
 refine Gu (RdH b (c::m) p) (results126) (.cell (k:=5) 2 kR rfl rfl (Xa rfl) dC rfl) (.tmp rfl) (.tmp rfl) ⟨rfl,trivial⟩ fun V V1 V2 h1 h2=>?_
 cases h1;cases h2;rw [hlex];exact ⟨⟨V,rfl⟩,rfl,rfl⟩)
 · first|exact bN hb122|(
 refine nav ?_;have hll:=GI m hlt;(have htk:(c::m).take ((n:Int)+1).toNat=34::m.take n:=by rw [show ((n:Int)+1).toNat=n+1 by omega,XP,hc34]);have hun:AF prog 161 [pB ((c::m).take ((n:Int)+1).toNat)] (· = .tup [pB t,Zc 0]):=by
  rw [htk];refine EH (m.take n) t (by rw [Xl];omega) ?_;rw [P2 m hlt,Xl,XJ hll.2.1]
 (refine Zm ?_;refine xL 126 Za (xL 127 (ZC 1000) (xL 128 (Zd 1000 YX) ?_));refine yL 129 (Zi 1000 WA) fun v129 hv129=>?_;cases hv129;refine xL 130 Za (xL 131 (DZ underlying9) ?_);refine cP 132 (cA call161 (hun)) fun va132 vb132 hva132 hvb132=>?_;cases hva132;cases hvb132;refine xL 125 Za (xL 133 ZK (xL 134 ZK (xL 13 Zb (xL 12 Zb ?_))));refine Zn ?_)
 (refine xL 135 Za (xL 136 (Zd 5 K8) ?_);refine Y3 5 GJ GK ?_;refine xL 137 (Zd 5 Lc) ?_;refine Y3 5 WA P0 ?_;refine Zn ?_)
 (refine yL 138 (Zq 5 Yh) fun v138 hv138=>?_;cases hv138;refine xL 139 Za (xL 140 Za ?_);refine Zv 2 Yh ?_;refine xL 3 Zb (xL 4 Zb ?_);refine Ze ?_)
 refine Gu (RdH b (c::m) p) (results126) (.cell (k:=5) 2 kR rfl rfl (Xa rfl) dC rfl) (.tmp rfl) (.tmp rfl) ⟨rfl,trivial⟩ fun V V1 V2 h1 h2=>?_
 cases h1;cases h2;rw [hlex];exact ⟨⟨V,rfl⟩,rfl,rfl⟩)))
 · first |exact bN hb110|(
 have hlex:Gt (c::m)=(match RS (c::m) with|some x=> .ok 4 x 0 x.length|none=> .err 3):=by
  rw [Gt,Uo (by rw [hlb];exact XV),Uo (by rw [hdb];exact XV),Uo oM]
  cases RS (c::m)<;>rfl
 have hl146:=CK (c::m) oM;refine Zf ?_;(refine xL 142 Za (xL 143 (ZC 1000) (xL 144 (Zd 1000 YX) ?_))<;>(refine yL 145 (Zi 1000 WA) fun v145 h=>?_;cases h)<;>(rcases hsy:RS (c::m) with _|x<;>rw [hsy] at hl146 hlex<;>dsimp only [Option.getD_none,VV,Option.isSome_none,Option.isSome_some] at hl146 hlex<;>(refine cP 146 (cA (call162) hl146) fun va146 vb146 hva146 hvb146=>?_;cases hva146;cases hvb146))<;>refine xL 141 Za (xL 147 ZK (xL 148 ZK (xL 14 Zb (xL 15 Zb ?_))))<;>refine Ze ?_)<;>(
 (refine Zm ?_;refine xL 149 Za (xL 150 Ym ?_);refine Ze ?_)
 refine cX ?_ ?_<;>intro hb150
 · first|exact bN hb150|(
 refine Zf ?_;(refine yL 151 (Zq 5 Yh) fun v151 hv151=>?_;cases hv151;refine Zv 2 Yh ?_;refine xL 3 Zb (xL 4 Zb ?_);refine Ze ?_)
 refine Gu (RdH b (c::m) p) (results126) (.cell (k:=5) 2 kR rfl rfl (Xa rfl) dC rfl) (.tmp rfl) (.tmp rfl) ⟨rfl,trivial⟩ fun V V1 V2 h1 h2=>?_
 cases h1;cases h2;rw [hlex];exact ⟨⟨V,rfl⟩,rfl,rfl⟩)
 · first|exact bN hb150|(
 refine Zf ?_;(refine xL 152 Za (xL 153 (Zd 5 K8) ?_);refine Y3 5 GJ GK ?_;refine xL 154 (Zd 5 Lc) ?_;refine Y3 5 WA P0 ?_;refine Zn ?_)
 (refine yL 155 (Zq 5 Yh) fun v155 hv155=>?_;cases hv155;refine xL 156 Za (xL 157 (Wn underlying9) ?_);refine Zv 2 Yh ?_;refine xL 3 Zb (xL 4 Zb ?_);refine Ze ?_)
 refine Gu (RdH b (c::m) p) (results126) (.cell (k:=5) 2 kR rfl rfl (Xa rfl) dC rfl) (.tmp rfl) (.tmp rfl) ⟨rfl,trivial⟩ fun V V1 V2 h1 h2=>?_
 cases h1;cases h2;rw [hlex,←YO x];exact ⟨⟨V,rfl⟩,rfl,rfl⟩))))))
theorem RG:AggT prog 117 5=true:=by kernel_rfl
theorem Jk:AggT prog 65 2=true:=by kernel_rfl
theorem P3:ElT prog 113 117 5 48 (.agg #[(.int .i64 0),(.string ByteArray.empty),(.int .i64 0),(.int .i64 0),(.int .i64 0)]):=⟨underlying113,by kernel_rfl,rfl,dC⟩
theorem Sj:FldT prog 117 0 0=true:=by kernel_rfl
theorem Sk:FldT prog 151 1 1=true:=by kernel_rfl
theorem EJ:NoAgg prog 3=true:=by kernel_rfl
theorem CX:SlT prog 113 117 5=true:=by kernel_rfl
theorem CY:Y9 prog 151=some ((.agg #[(.string ByteArray.empty),(.int .i64 0),(.int .i64 0)]),[(0,1),(1,2)]):=by kernel_rfl
theorem S5:Y9 prog 65=some ((.agg #[(.int .i64 0),(.int .i64 0)]),([0,1]:List Nat).map fun o=>(o,1)):=by kernel_rfl
theorem CZ:ZeroT prog 117 (.agg #[(.int .i64 0),(.string ByteArray.empty),(.int .i64 0),(.int .i64 0),(.int .i64 0)]):=by unfold ZeroT;kernel_rfl
theorem ZbH:ZeroT prog 65 (.agg #[(.int .i64 0),(.int .i64 0)]):=by unfold ZeroT;kernel_rfl
def cTk (t:Tk):List PV:=[Zc t.kind,pB t.text,Zc t.n,Zc t.ln,Zc t.col]
def JG (l:List Tk):List PV:=l.flatMap cTk
def P4 (l:List Tk):PV:= .sl l.length (JG l)
theorem ζ8 (t:Tk):(cTk t).length=5:=rfl
theorem GL {l:List Tk} {k:Nat} {x:Tk} (h:l[k]? =some x):((JG l).drop (k*5)).take 5=cTk x:=Z' ζ8 l k x h
theorem Sl {l:List Tk} {k:Nat} {x:Tk} (h:l[k]? =some x):k*5+5≤(JG l).length:=Yp ζ8 h
theorem ZbI (l:List Tk) (t:Tk):JG (l++[t])=JG l++cTk t:=by unfold JG;rw [Xt];simp
theorem ZbJ (e n:Nat) (l:List Tk) (hn:n=l.length):share (.own e 5 n (JG l))=P4 l:=by
 subst hn
 rw [share,Yf,JG,List.map_flatMap]
 rfl
def tk3 (r:List Tk×(Int×Int)×Int):PV:= .tup [P4 r.1, .agg [Zc r.2.1.1,Zc r.2.1.2],Zc r.2.2]
def C0 (l:List UInt8):PV:=if 16384<l.length then tk3 ([],(0,0),5) else tk3 (toksB l (1,1) [])
theorem Hg {p:Int×Int} (h1:1≤p.1) (h2:1≤p.2):∀l:List UInt8,1≤(Ys p l).1∧1≤(Ys p l).2∧(Ys p l).1≤p.1+l.length∧(Ys p l).2≤p.2+l.length
 |[]=>by simp only [Ys,List.foldl_nil,Xk];omega
 | c ::l=>by
   have hb:1≤(adv p c).1∧1≤(adv p c).2∧(adv p c).1≤p.1+1∧(adv p c).2≤p.2+1:=by
    unfold adv;split<;>simp only<;>omega
   have:=Hg (p:=adv p c) hb.1 hb.2.1 l;rw [show Ys p (c::l)=Ys (adv p c) l from rfl,Xc];omega
structure TokI (l l':List UInt8) (p:Int×Int) (out:List Tk):Prop where
 eq:toksB l' p out=toksB l (1,1) []
 len:l'.length≤l.length
 suf:∀c∈l',c∈l
 a1:1≤p.1
 a2:p.1+l'.length≤1+l.length
 b1:1≤p.2
 b2:p.2+l'.length≤1+l.length
 out:out.length≤4000
set_option maxHeartbeats 4000000 in
theorem C1 (l : List UInt8) (hA:(∃c∈l,KI c=true)→ζ7 prog 159) (hb:l.length≤1000000000):AF prog 76 [pB l] (· =C0 l):=by
 have hsz:=YO l
 refine AF.of_body 57 func76 rfl ntmps76 (Xa rfl) ?_
 intro w0 M0 vs hl hv
 obtain ⟨v0,rfl⟩:=Kl hl
 obtain rfl:=hv 0 _ _ rfl rfl
 clear hl hv
 refine Zf ?_
 (refine xL 2 Zb ?_;refine ZA [(.int .i64 0),(.int .i64 0)] 2 3 ZbH fun h3=>?_;refine xL 4 Zb ?_;refine Zn ?_)
 (refine xL 10 Za (xL 11 (Wn underlying9) (xL 12 Wy ?_));refine Ze ?_)
 refine cX ?_ ?_<;>intro hb12
 · first|exact bN hb12|(
 refine Zf ?_;(refine xL 13 (Z3 S5) (xL 2 Zb ?_);refine Zv 3 Jk ?_;refine xL 4 Zb ?_;refine Ze ?_)
 refine Wm (WT (t:=2) (p':= .sl 0 []) rfl Rr.nil) fun _=>?_;refine Sf (results76) (.tmp rfl) (.cell (k:=2) 3 kR rfl rfl (Xa rfl) dC rfl) (.tmp rfl) ?_;rw [C0,Up oM];rfl)
 · first | exact bN hb12|(
 refine Zf ?_;(refine xL 14 Za (xL 15 (Z3 S5) ?_);refine yL 16 (W7 CY) fun v16 hv16=>?_;cases hv16;refine Tb 17 3 fun b=>?_;refine xL 5 Zb ?_;refine Ze ?_)
 refine Zz (ZF (l:=17) (p':= .own 151 3 1 [pB l,Zc 1,Zc 1]) rfl rfl) fun _=>?_;refine Zz (Z0 (l:=17) 1000 rfl rfl) fun _=>?_;(refine Zm ?_;refine xL 6 Zb ?_;refine Ze ?_)
 refine Zz (WF 200 117 5 rfl) fun _=>?_;refine ZE (ι:={q:(List UInt8×(Int×Int))×(Value×List Tk)//TokI l q.1.1 q.1.2 q.2.2∧q.2.1.oneCell'=true}) (fun k=>⟨[(3,_,_),(5,_,_),(6,k.1.2.1, .val k.1.2.1)],[(3,_,_),(1000,Yd b, .own 151 3 1 [pB k.1.1.1,Zc k.1.1.2.1,Zc k.1.1.2.2]),(200,k.1.2.1, .own 117 5 k.1.2.2.length (JG k.1.2.2))]⟩) (fun k=>k.1.1.1.length) ⟨((l,(1,1)),(.slice none 0 0,[])),⟨rfl,Xb _,fun _ h=>h,Int.le_refl 1,by dsimp only;omega,Int.le_refl 1,by dsimp only;omega,Xh _⟩,rfl⟩ (fun a w H=>H.weaken ⟨rfl,rfl,rfl,trivial⟩ ⟨rfl,rfl,rfl,trivial⟩) ?_;rintro ⟨⟨⟨l',p⟩,ov,out⟩,hI,hov⟩;dsimp only;dsimp only at hI hov;have hone:En.one (PV.val ov)=true:=hov;have hle:=hI.len;have ha1:=hI.a1;have ha2:=hI.a2;have hb1:=hI.b1;have hb2:=hI.b2;have hol:=hI.out;have heq:=hI.eq;rw [ZcN] at heq;obtain ⟨n,hn⟩:∃n,n=Yn false l':=⟨_,rfl⟩;have hnl:=Pd l' false;have hbd:=Hg ha1 hb1 (l'.take n);rw [Xl] at hbd;have hdl:(l'.drop n).length=l'.length-n:=Xw ..;have hblk:=CU b l' p oM oM oM oM oM;rw [←hn] at hblk heq hnl;obtain ⟨p1,hp1⟩:∃p1,p1=Ys p (l'.take n):=⟨_,rfl⟩;rw [←hp1] at hblk hbd heq;have hnx:=Zdn b (l'.drop n) (fun ⟨c,hc,hd⟩=>hA ⟨c,hI.suf c (List.mem_of_mem_drop hc),hd⟩) p1 oM;have hsk:∀k,k≤(l'.drop n).length→AFh False prog 127 [(0,ZX b, .val (ZX b)),(1, .int .i64 k,Zc k)] (RdH b (l'.drop n) p1) (fun _ _ h=>h=RdH b (l'.drop (n+k)) (Ys p (l'.take (n+k)))):=fun k hk=>by
  have:=Eo b (l'.drop n) p1 k hk oM oM oM oM oM;rw [Xy,hp1,EI,←hp1] at this;exact this
 refine Zf ?_;(refine xL 18 Za ?_;(refine ZT [3,200] 19 (call125) hblk (fun v19 p19 h19 hR19=>?_);subst hR19;dsimp only [RdH]);refine Zn ?_)
 (refine xL 21 Za ?_<;>(rcases hlx:Gt (l'.drop n) with ⟨kd,tx,nn,len⟩|e<;>rw [hlx] at hnx heq<;>dsimp only at heq<;>(refine ZT [3,200] 22 (call126) hnx ?_;rintro _ _ _ ⟨⟨V22,rfl⟩,rfl,rfl⟩;dsimp only [RdH,Zim,Zil])<;>(try (have he0:=ZbG hlx))<;>(try (have hlo:=Pe hlx)))<;>refine xL 20 Za (xL 23 ZK (xL 24 ZK (xL 25 ZK ?_)))<;>refine ZA [(.int .i64 0),(.string ByteArray.empty),(.int .i64 0),(.int .i64 0),(.int .i64 0)] 5 7 CZ fun h7=>?_<;>refine Zv 7 RG ?_<;>refine xL 8 Zb (xL 9 Zb ?_)<;>refine Ze ?_)<;>(
 (refine Zm ?_<;>refine xL 26 Za ?_<;>(first|refine xL 27 (Hd true rfl rfl rfl (Um he0)) ?_|refine xL 27 (Hd false) ?_)<;>refine Ze ?_)
 refine cX ?_ ?_<;>intro hb27
 · first|exact bN hb27|(
 refine nav ?_;(refine ZS (fun i=>([]:List Nat).elem i) [1000] kR ?_<;>refine xD 0 28 rfl Za ?_<;>refine xD 1 29 rfl (ZC 1000) ?_<;>refine xD 2 30 rfl (Zd 1000 Sk) ?_<;>(refine yD 3 31 rfl (Zq 1000 Jk) fun v31 h=>?_;cases h)<;>refine xD 4 32 rfl Za ?_<;>refine xE 5 2 rfl Zb ?_<;>(refine Zl 6 kR ?_)<;>(refine Zj rfl fun w9 M9 N9 DQ back=>?_)<;>refine Zv 3 Jk ?_<;>refine Zh (back _ (nrm ?_))<;>refine xE 7 4 rfl Zb ?_<;>refine Yu kR (nav ?_)<;>try dsimp only)
 refine Wm (WT (t:=2) (p':= .sl 0 []) rfl Rr.nil) fun _=>?_;refine Sf (results76) (.tmp rfl) (.cell (k:=2) 3 kR rfl rfl (Xa rfl) dC rfl) (.tmp rfl) ?_;rw [C0,Uo oM,←heq];rfl)
 · first | exact bN hb27|(
 refine Zf ?_;(refine xL 33 (Zd 7 Sj) ?_<;>(refine yL 34 (Zi 7 EJ) fun v34 h=>?_;cases h)<;>refine xL 35 YN (xL 36 Za ?_)<;>(refine bLd 36 (fun hb36=>?_) (fun hb36=>?_)<;>(first|refine kL 37 ?_|refine xL 37 Za ?_))<;>(first|refine kL 38 ?_|refine xL 38 (YV 200 CX) ?_)<;>(first|refine kL 39 ?_|refine xL 39 ZQ ?_)<;>refine xL 40 Zu ?_<;>refine Ze ?_)<;>(
 refine cX ?_ ?_<;>intro hb40
 · first|exact bN hb40|(
 refine nav ?_;(refine ZS (fun i=>([]:List Nat).elem i) [1000] kR ?_<;>refine xD 0 41 rfl Za ?_<;>refine xD 1 42 rfl (ZC 1000) ?_<;>refine xD 2 43 rfl (Zd 1000 Sk) ?_<;>(refine yD 3 44 rfl (Zq 1000 Jk) fun v44 h=>?_;cases h)<;>refine xE 4 2 rfl Zb ?_<;>(refine Zl 5 kR ?_)<;>(refine Zj rfl fun w9 M9 N9 DQ back=>?_)<;>refine Zv 3 Jk ?_<;>refine Zh (back _ (nrm ?_))<;>refine xE 6 4 rfl Zb ?_<;>refine Yu kR (nav ?_)<;>try dsimp only)
 refine Wm (WT (t:=2) (p':= .sl 0 []) rfl Rr.nil) fun _=>?_;refine Sf (results76) (.tmp rfl) (.cell (k:=2) 3 kR rfl rfl (Xa rfl) dC rfl) (.tmp rfl) ?_;rw [Up ⟨oM,oM⟩] at heq;rw [C0,Uo oM,←heq];rfl)
 · first |exact bN hb40|(
 refine nav ?_;rw [Uo oM] at heq;(refine Zm ?_;refine xL 45 Za ?_;refine yL 46 (Zq 7 RG) fun v46 hv46=>?_;cases hv46;refine K1 47 P3 fun h47 ho47=>?_;(refine Kk 200 47 48 P3 fun h48 ho48=>?_;refine Zp (Z0 (l:=48) 200 rfl rfl) fun _=>?_;refine Zp (ZF (l:=200) rfl (show PV.own 117 5 (out.length+1) (JG out++cTk (Tk.mk kd tx nn p1.1 p1.2))= .own 117 5 (out++[Tk.mk kd tx nn p1.1 p1.2]).length (JG (out++[Tk.mk kd tx nn p1.1 p1.2])) by rw [ZbI,Xg];rfl)) fun _=>?_);refine xL 6 Zb ?_;refine Zn ?_)
 (refine xL 49 (Zd 7 Sj) ?_;refine yL 50 (Zi 7 EJ) fun v50 hv50=>?_;cases hv50;refine xL 51 ZQ ?_;refine Ze ?_)
 refine cX ?_ ?_<;>intro hb51
 · first|exact bN hb51|(
 refine Zf ?_;(refine xL 52 Za (xL 53 (Z3 S5) (xL 2 Zb ?_));refine Zv 3 Jk ?_;refine xL 4 Zb ?_;refine Ze ?_)
 refine Wm (En.freeze (l:=200) (t:=2) rfl rfl) fun _=>?_;refine Sf (results76) (.tmp rfl) (.cell (k:=2) 3 kR rfl rfl (Xa rfl) dC rfl) (.tmp rfl) ?_;rw [Up oM] at heq;rw [C0,Uo oM,←heq,ZbJ _ _ _ rfl];rfl)
 · first|exact bN hb51|(
 rw [Uo oM] at heq;(have hlne:l'.drop n≠[]:=fun h=>by have:=hlo.endk.1 h;omega);have hl1:=hlo.pos hlne;have hl2:=hlo.le;have hbd2:=Hg ha1 hb1 (l'.take (n+len));rw [Xl] at hbd2;refine Zf ?_;(refine xL 54 Za (xL 55 Za ?_);(refine ZT [3,7,200] 56 (call127) (hsk len hl2) (fun v56 p56 h56 hR56=>?_);subst hR56;dsimp only [RdH]);refine Ze ?_)
 refine Zk (
  ⟨((l'.drop (n+len),Ys p (l'.take (n+len))),(h48,out++[Tk.mk kd tx nn p1.1 p1.2])),⟨heq,by dsimp only;rw [Xw];omega,fun c hc=>hI.suf c (List.mem_of_mem_drop hc),hbd2.1,by dsimp only;rw [Xw];omega,hbd2.2.1,by dsimp only;rw [Xw];omega,by dsimp only;rw [Xg,Xu];omega⟩,ho48⟩
  ) (by dsimp only;rw [Xw];omega) ⟨rfl,rfl,rfl,trivial⟩ ⟨rfl,rfl,rfl,trivial⟩))))))
def tkP (t:Tk):Int×List UInt8:=(t.kind,t.text)
theorem ZbK {o:Int} (h:o=3∨o=4∨o=5∨o=6):RU (JA o).data.toList=o:=by
 rcases h with rfl|rfl|rfl|rfl<;>decide
def Reads (ks:List (Int×List UInt8)) (x:Nd):Prop:=∀(toks m:List Tk) (f:Nat),toks.map tkP=ks→Km m [40]=false→ks.length<f→rdT f (toks++m)= .ok x m
theorem map_cons {α β:Type} {g:α→β} {l:List α} {b:β} {m:List β} (h:l.map g=b::m):∃a l',l=a::l'∧g a=b∧l'.map g=m:=by
 cases l with
 |nil=>cases h
 |cons a l'=>rw [XM,List.cons.injEq] at h;exact ⟨a,l',rfl,h.1,h.2⟩
end Go.Proofs.YtpiemogpblmiiaaGreatDoor
namespace Go.En
open Go.RowKit Go.Cb
set_option linter.all false
section
variable {P:Program} {c:Ctx} {sL hP:List (Nat×Ent)}
theorem Hh {fn:Func} {R:Value→PV→List (Nat×Ent)→Prop} {Rp:List PanicEntry→List (Nat×Ent)→Prop} {st:St} (h:aR c (bodyPost P fn (RR c R)) st):aR c (bodyPost P fn (DW c R Rp)) st:=fun a w H=>by
 obtain ⟨h1,v,h2,h3⟩:=h a w H
 exact ⟨h1,v,h2, .inl h3⟩
theorem EK {R:Value→PV→List (Nat×Ent)→Prop} (Rp:List PanicEntry→List (Nat×Ent)→Prop) {ch:List PanicEntry} {Q:Exit→Act→World→Prop} (h:List (Nat×Ent)) (hs:Sub h hP) (hR:Rp ch h) (hQ:∀(a:Act) w,a.defers=[]∧DW c R Rp (.panicked ch) w→Q (.panic ch) a w:=by exact fun _ _ h=>h) (hdf:c.df=[]:=by exact rfl):aP c Q ch (⟨sL,hP⟩:St):=fun a w F H0=>by
 have H:HoldsF c (⟨sL,h⟩:St) F a w:=H0.less (fun _ _ h=>h) fun t x hx=>hs.lk hx
 exact hQ a w ⟨H.df.trans hdf, .inr ⟨ch,h,F,rfl,hR,H.toHeapF⟩⟩
def Zdo (c:Ctx) (Rc:List PanicEntry→List (Nat×Ent)→Prop) (ch:List PanicEntry) (w:World):Prop:=∃h F,Rc ch h∧HeapF c h F w
theorem Zhi {R:Value→PV→List (Nat×Ent)→Prop} {Rp:List PanicEntry→List (Nat×Ent)→Prop} {Q:Exit→Act→World→Prop} {Rc:List PanicEntry→List (Nat×Ent)→Prop} (hR:∀ch h,Rc ch h→Rp ch h) (hQ:∀ch (a:Act) w,a.defers=[]∧DW c R Rp (.panicked ch) w→Q (.panic ch) a w:=by exact fun _ _ _ h=>h):∀ch a w,a.defers=[]→Zdo c Rc ch w→Q (.panic ch) a w:=fun ch a w hd ⟨h,F,hr,hF⟩=>hQ ch a w ⟨hd, .inr ⟨ch,h,F,rfl,hR ch h hr,hF⟩⟩
theorem HoldsF.panW' {F:Nat→BS} {a:Act} {w:World} (H:HoldsF c (⟨sL,hP⟩:St) F a w) {Rc:List PanicEntry→List (Nat×Ent)→Prop} {ch:List PanicEntry} (h:List (Nat×Ent)) (hs:Sub h hP) (hR:Rc ch h):Zdo c Rc ch w:=by
 have H':HoldsF c (⟨sL,h⟩:St) F a w:=H.less (fun _ _ h=>h) fun t x hx=>hs.lk hx
 exact ⟨h,F,hR,H'.toHeapF⟩
end
section
variable {P:Program} {c:Ctx} {ops:Array Oper} {Q:Exit→Act→World→Prop} {Pp:List PanicEntry→World→Prop} {Z:Nat→Bool} {K:List Nat} {fuel:Nat} {listed:Array Bool} {sL hP:List (Nat×Ent)} {o:Oper}
theorem ζ9 (i:Nat) (ho:ops[i]? =some o)
 (h:∀(w':World) (M' N':BS) (DQ:Exit→Act→World→Prop),(∀ch (st':St) (a:Act) (w:World) (F':Nat→BS),HoldsF ⟨w',M',N',c.nt,c.dr,c.df⟩ st' F' a w→(∀F2,HoldsF c ⟨st'.slots,st'.heap++YM K hP⟩ F2 a w→Pp ch w)→DQ (.panic ch) a w)→(∀st':St,aDp P c ops Q Pp Z K fuel (listed.setIfInBounds i true) ⟨st'.slots,st'.heap++YM K hP⟩→aN ⟨w',M',N',c.nt,c.dr,c.df⟩ DQ st')→aL P ⟨w',M',N',c.nt,c.dr,c.df⟩ ops DQ [o] ⟨sL,Wr K hP⟩)
 (hr:Region.ready .any ops listed=[i]:=by kernel_rfl) (hdf:c.df=[]:=by exact rfl):aDp P c ops Q Pp Z K (fuel+1) listed (⟨sL,hP⟩:St):=fun a w F H C hC=>
 ⟨(fun hn=>by rw [hr] at hn;cases hn),fun j hj=>by
   rw [hr] at hj;obtain rfl:j=i:=by simpa using hj
   refine Ts (Q':=fun _ a' w'=>(Z j=true∨C w')∧JF P .any ops Q Pp C Z fuel (listed.setIfInBounds j true) a' w') ho (fun a' w' hq=>hq) ?_;refine h w _ _ (okN (fun _ a' w'=>(Z j=true∨C w')∧JF P .any ops Q Pp C Z fuel (listed.setIfInBounds j true) a' w') Pp) (fun ch st' a' w' F' H' hp=>?_) (fun st' hD a' w' ⟨F',H'⟩=>?_) a w ⟨F,H.frame K⟩
   · obtain ⟨H2,_,_⟩:=H.unframe H';exact ⟨H2.df.trans hdf,hp _ H2⟩
   · obtain ⟨H2,hch,hnk⟩:=H.unframe H';exact ⟨.inr (hC w' hch),hD a' w' _ H2 C fun W hW=>hC W (hch.tr hW hnk)⟩⟩
end
end Go.En
namespace Go.Proofs.YtpiemogpblmiiaaGreatDoor
open Go.RowKit Go.Cb Go.En Tryz
set_option linter.all false
set_option maxRecDepth 100000
theorem EL:AggT prog 117 5=true:=by kernel_rfl
theorem Hi:FldT prog 117 0 0=true:=by kernel_rfl
theorem Hj:FldT prog 117 1 1=true:=by kernel_rfl
theorem JQ:FldT prog 160 0 0=true:=by kernel_rfl
theorem JR:FldT prog 160 1 1=true:=by kernel_rfl
theorem Ld:NoAgg prog 113=true:=by kernel_rfl
theorem LI:NoAgg prog 3=true:=by kernel_rfl
theorem Zdp:NoAgg prog 9=true:=by kernel_rfl
theorem Le:SlT prog 113 117 5=true:=by kernel_rfl
theorem C2:Y9 prog 156=some ((.agg #[(.int .i64 0),(.string ByteArray.empty),(.int .i64 0),(.int .i64 0),(.int .i64 0)]),[(0,5)]):=by kernel_rfl
theorem Zdq:(prog.info? 3).map (·.size)=some 1:=by kernel_rfl
def RtH (b:Nat) (L:List Tk) (i:Nat):List (Nat×Ent):=[(1000,Yd b, .own 160 2 1 [P4 L,Zc i])]
def tkV (t:Tk):List Value:=[.int .i64 t.kind, .string (bst t.text), .int .i64 t.n, .int .i64 t.ln, .int .i64 t.col]
def ZbL (t:Tk):List PanicEntry:=[{v:= .iface 156 (.agg (tkV t).toArray),recovered:=false}]
theorem EM (s:List UInt8) (hs:s.length≤1000000):AF prog 165 [pB s] (· =Zc (RU s)):=by
 refine AF.of_body 13 func165 rfl ntmps165 (Xa rfl) ?_
 intro w0 M0 vs hl hv
 obtain ⟨v0,rfl⟩:=Kl hl
 obtain rfl:=hv 0 _ _ rfl rfl
 clear hl hv
 refine Zf ?_
 (refine xL 2 Zb ?_;refine Zn ?_)
 (refine xL 3 Zb ?_;refine Ze ?_)
 refine ZE (ι:={k:Nat//3≤k∧k≤7∧∀j:Nat,3≤j→j<k→s≠(JA j).data.toList}) (fun k=>⟨[(0,_,_),(3, .int .i64 k.1,Zc k.1)],[]⟩) (fun k=>7-k.1) ⟨3,dC,dC,fun j h1 h2=>oM⟩ (fun a w H=>H.weaken ⟨rfl,rfl,trivial⟩ trivial) ?_
 rintro ⟨k,hk1,hk2,hp⟩
 dsimp only
 try dsimp only at hk1 hk2 hp
 refine Zf ?_
 (refine xL 4 Za (xL 5 J5 ?_);refine Ze ?_)
 refine cX ?_ ?_<;>intro hb5
 · first | exact bN hb5|(
 have hwe:((JA k).toList==(bst s).toList)=decide ((JA k).data.toList=s):=by
  rw [Vg,Ul];exact (Jd (a:=JA k) (b:=bst s)).trans ⟨fun h=>by rw [h,GH],fun h=>by rw [←h,ZeZ]⟩
 refine Zf ?_;(refine xL 8 Za ?_;refine cS 9 (cA call181 (Zfl k)) fun v9 hv9=>?_;cases hv9;refine xL 10 Za (xL 11 WY ?_);refine Ze ?_)
 refine cX ?_ ?_<;>intro hb11
 · first|exact bN hb11|(
 refine Zf ?_;(refine xL 12 Za (xL 2 Zb ?_);refine Ze ?_)
 refine Zx (results165) rfl ?_;rw [hwe] at hb11;(have h1:(JA k).data.toList=s:=by simpa using hb11);rw [←h1];have:RU (JA (k:Int)).data.toList=(k:Int):=ZbK oM;rw [this])
 · first |exact bN hb11|(
 (have h1:¬(JA k).data.toList=s:=by rw [hwe] at hb11;simpa using hb11);refine Zf ?_;(refine xL 6 Za (xL 7 ZO (xL 3 Zb ?_));refine Ze ?_)
 refine Zk (
  ⟨k +1,oM,oM,fun j h2 h3=>by
   rcases Xm j k with h|h
   · exact hp j h2 h
   · obtain rfl:j=k:=oM;exact fun e=>h1 e.symm⟩
  ) (by dsimp only;omega) ⟨rfl,rfl,trivial⟩ trivial))
 · first|exact bN hb5|(
 refine Zf ?_;(refine xL 2 Zb ?_;refine Ze ?_)
 refine Zx (results165) rfl ?_;(have h3:s≠[115,101,113]:=by have:=hp 3 oM oM;rwa [show (JA ((3:Nat):Int)).data.toList=[115,101,113] by decide] at this);(have h4:s≠[120,111,114]:=by have:=hp 4 oM oM;rwa [show (JA ((4:Nat):Int)).data.toList=[120,111,114] by decide] at this);(have h5:s≠[97,110,100]:=by have:=hp 5 oM oM;rwa [show (JA ((5:Nat):Int)).data.toList=[97,110,100] by decide] at this);(have h6:s≠[108,111,111,112]:=by have:=hp 6 oM oM;rwa [show (JA ((6:Nat):Int)).data.toList=[108,111,111,112] by decide] at this);unfold RU;rw [Uo h3,Uo h4,Uo h5,Uo h6])
theorem Hk {l:List Tk} {k j:Nat} {x:Tk} (h:l[k]? =some x) (hj:j<5):(JG l)[k*5+j]? =(cTk x)[j]? :=by
 rw [←GL h,X5 hj,XT]
theorem Zaa (b:Nat) (L:List Tk) (i:Nat) (s:List UInt8) (hL:L.length≤1000000) (hi:i≤L.length):AFh False prog 163 [(0,ZX b, .val (ZX b)),(1, .int .i64 0, .val (.int .i64 0)),(2, .string (bst s),pB s)] (RtH b L i) (fun u q h=>u= .bool (Km (L.drop i) s)∧q=ZV (Km (L.drop i) s)∧h=RtH b L i):=by
 obtain ⟨x,hx⟩:∃x:Tk,i<L.length→L[i]? =some x:=by
  rcases Xm i L.length with h|h
  · exact ⟨_,fun _=>Xx h⟩
  · exact ⟨tk0,fun h'=>oM⟩
 have hk0:i<L.length→(JG L)[(i+0)*5+0]? =some (Zc x.kind):=fun h=>Hk (j:=0) (hx h) dC
 have hk1:i<L.length→(JG L)[(i+0)*5+1]? =some (pB x.text):=fun h=>Hk (j:=1) (hx h) dC
 have e1:i<L.length→((JG L).drop (i*5)).take 5=[Zc x.kind,pB x.text,Zc x.n,Zc x.ln,Zc x.col]:=fun h=>GL (hx h)
 have e2:i<L.length→i*5+5≤(JG L).length:=fun h=>Sl (hx h)
 have e3:i<L.length→Km (L.drop i) s=(decide (x.kind=4)&&decide (x.text=s)):=fun h=>by
  rw [LG (hx h),Km];congr 1;rw [Vg,beq_iff_eq,Ul]
 have e4:¬i<L.length→Km (L.drop i) s=false:=fun h=>by rw [Wz oM];rfl
 unfold RtH
 refine AFh.of_body 44 func163 rfl ntmps163 (Xa rfl) rfl ?_
 intro w0 M0 N0
 refine Zf ?_
 (refine xL 6 Zb ?_;refine Zn ?_)
 (refine xL 8 Za (xL 9 (ZC 1000) (xL 10 (Zd 1000 JR) ?_));refine yL 11 (Zi 1000 LI) fun v11 hv11=>?_;cases hv11;refine xL 12 Za (xL 13 ZO (xL 7 Zb ?_));refine Zn ?_)
 (refine xL 14 Za (xL 15 Za (xL 16 (ZC 1000) (xL 17 (Zd 1000 JQ) ?_)))<;>(refine yL 18 (Zi 1000 Ld) fun v18 h=>?_;cases h)<;>refine xL 19 (Z1 Le) (xL 20 ZR (xL 21 Za ?_))<;>(refine bLd 21 (fun hb21=>?_) (fun hb21=>?_)<;>(first|refine kL 22 ?_|refine xL 22 Za ?_))<;>(first|refine kL 23 ?_|refine xL 23 (ZC 1000) ?_)<;>(first|refine kL 24 ?_|refine xL 24 (Zd 1000 JQ) ?_)<;>(first|refine kL 25 ?_|(refine yL 25 (Zi 1000 Ld) fun v25 h=>?_;cases h))<;>(first|refine kL 26 ?_|refine xL 26 Za ?_)<;>(first|refine kL 27 ?_|refine xL 27 (ZP Le) ?_)<;>(first|refine kL 28 ?_|refine xL 28 (Jv Hi) ?_)<;>(first|refine kL 29 ?_|(refine yL 29 (Yy LI rfl rfl (hk0 oM)) fun v29 h=>?_;cases h))<;>(first|refine kL 30 ?_|refine xL 30 ZQ ?_)<;>refine xL 31 Zu (xL 32 Za ?_)<;>(first|refine kL 33 ?_|(refine bLd 32 (fun hb32=>?_) (fun hb32=>?_)<;>(first|refine kL 33 ?_|refine xL 33 Za ?_)))<;>(first|refine kL 34 ?_|refine xL 34 (ZC 1000) ?_)<;>(first|refine kL 35 ?_|refine xL 35 (Zd 1000 JQ) ?_)<;>(first|refine kL 36 ?_|(refine yL 36 (Zi 1000 Ld) fun v36 h=>?_;cases h))<;>(first|refine kL 37 ?_|refine xL 37 Za ?_)<;>(first|refine kL 38 ?_|refine xL 38 (ZP Le) ?_)<;>(first|refine kL 39 ?_|refine xL 39 (Jv Hj) ?_)<;>(first|refine kL 40 ?_|(refine yL 40 (Yy Zdp rfl rfl (hk1 oM)) fun v40 h=>?_;cases h))<;>(first|refine kL 41 ?_|refine xL 41 Za ?_)<;>(first|refine kL 42 ?_|refine xL 42 WY ?_)<;>refine xL 43 Zu (xL 6 Zb ?_)<;>refine Ze ?_)<;>(
 refine WQ (RtH b L i) (results163) rfl ⟨rfl,trivial⟩ ?_
 first
  |(rw [e3 oM,CH,Um hb32,VK];exact ⟨rfl,rfl,rfl⟩)
  |(rw [e3 oM,Un hb32,Bool.false_and];exact ⟨rfl,rfl,rfl⟩)
  |(rw [e4 oM];exact ⟨rfl,rfl,rfl⟩))
theorem Zab (b:Nat) (L:List Tk) (i:Nat) (s:List UInt8) (x:Tk) (hL:L.length≤1000000) (hx:L[i]? =some x):AFp False prog 164 [(0,ZX b, .val (ZX b)),(1, .string (bst s),pB s)] (RtH b L i) (fun _ _ h=>Km (L.drop i) s=true∧h=RtH b L (i+1)) (fun ch h=>Km (L.drop i) s=false∧ch=ZbL x∧h=RtH b L i):=by
 have hi:=Zg hx
 have e1:((JG L).drop (i*5)).take 5=[Zc x.kind,pB x.text,Zc x.n,Zc x.ln,Zc x.col]:=GL hx
 have e2:i*5+5≤(JG L).length:=Sl hx
 unfold RtH
 refine AFp.of_body 27 func164 rfl ntmps164 (Xa rfl) rfl ?_
 intro w0 M0 N0
 refine Zf ?_
 (refine xL 4 Za (xL 5 Za ?_);(refine ZT [] 6 (call163) (Zaa b L i s hL oM) ?_;rintro _ _ _ ⟨rfl,rfl,rfl⟩;dsimp only [RtH]);refine xL 7 Ym ?_;refine Ze ?_)
 refine cX ?_ ?_<;>intro hb7
 · first|exact bN hb7|(
 refine nav ?_;(refine PM (Zdo ⟨w0,M0,N0,27,False,[]⟩ (fun ch h=>Km (L.drop i) s=false∧ch=ZbL x∧h=RtH b L i)) (fun i=>([]:List Nat).elem i) [1000] kR (Zhi (fun _ _ h=>h)) ?_<;>refine xDp 0 8 rfl Za ?_<;>refine xDp 1 9 rfl (ZC 1000) ?_<;>refine xDp 2 10 rfl (Zd 1000 JQ) ?_<;>(refine yDp 3 11 rfl (Zi 1000 Ld) fun v11 h=>?_;cases h)<;>refine xDp 4 12 rfl Za ?_<;>refine xDp 5 13 rfl (ZC 1000) ?_<;>refine xDp 6 14 rfl (Zd 1000 JR) ?_<;>(refine yDp 7 15 rfl (Zi 1000 LI) fun v15 h=>?_;cases h)<;>refine xDp 8 16 rfl (ZP Le) ?_<;>(refine yDp 9 17 rfl (Yz EL) fun v17 h=>?_;cases h)<;>(refine yDp 10 18 rfl (W7 C2) fun v18 h=>?_;cases h)<;>refine xDp 11 19 rfl (DY kR) ?_<;>(refine ζR (d:=18) (tkV x) rfl (fun h18=>?_);subst h18;exact Df 12 rfl (fun a w F H=>H.panW' (RtH b L i) ⟨rfl,trivial⟩ ⟨by simpa using hb7,rfl,rfl⟩))<;>try dsimp only))
 · first|exact bN hb7|(
 refine Zf ?_;(refine xL 20 Za (xL 21 (ZC 1000) (xL 22 (Zd 1000 JR) ?_));refine yL 23 (Zi 1000 LI) fun v23 hv23=>?_;cases hv23;refine xL 24 ZO (xL 25 (ZC 1000) (xL 26 (Zd 1000 JR) ?_));refine Y3 1000 LI Zdq ?_;refine Ze ?_)
 exact Zg4 (RtH b L (i+1)) (results164) ⟨rfl,trivial⟩ ⟨by simpa using hb7,rfl⟩)
theorem ZM:AggT prog 24 3=true:=by kernel_rfl
theorem JY:ElT prog 22 24 3 48 (.agg #[(.int .i64 0),(.string ByteArray.empty),(.slice none 0 0)]):=⟨underlying22,by kernel_rfl,rfl,dC⟩
theorem Wj:FldT prog 24 0 0=true:=by kernel_rfl
theorem RH:FldT prog 24 1 1=true:=by kernel_rfl
theorem JB:FldT prog 24 2 2=true:=by kernel_rfl
theorem GM:NoAgg prog 22=true:=by kernel_rfl
theorem Kq:NoAgg prog 3=true:=by kernel_rfl
theorem EN:NoAgg prog 9=true:=by kernel_rfl
theorem Kf:SlT prog 22 24 3=true:=by kernel_rfl
theorem KW:Y9 prog 24=some ((.agg #[(.int .i64 0),(.string ByteArray.empty),(.slice none 0 0)]),([0,1,2]:List Nat).map fun o=>(o,1)):=by kernel_rfl
theorem WJ:ZeroT prog 24 (.agg #[(.int .i64 0),(.string ByteArray.empty),(.slice none 0 0)]):=by unfold ZeroT;kernel_rfl
theorem Ju (x y:Nd):PV.sl 2 ([x,y].flatMap cN)=YK [x,y]:=by
 unfold YK
 rw [We];rfl
theorem Gj (o:Int) (a:ByteArray):Rr (.agg [Zc o,ZZ a, .val (.slice none 0 0)]) (pTr (.mk o a [])):=Rr.agg rfl fun i x b ha hb=>by
 match i with
 |0=>cases ha;cases hb;exact Rr.rfl' _
 |1=>cases ha;cases hb;exact Rr.rfl' _
 |2=>cases ha;cases hb;exact Rr.nil
 |i+3=>simp at ha
theorem Zdr {l:List Nd} {k:Nat} {x:Nd} (h:l[k]? =some x):(WZ l)[k]? =some (Yw x):=by
 rw [Pb,Xo,h];rfl
theorem Zds (l:List Nd):(WZ l).length=l.length:=by rw [Pb,Xe]
theorem Sm {t:Nd} (h:rightT t=true) (h6:t.op=6):∃x y,t.l=[x,y]:=by
 unfold rightT at h
 rw [h6] at h
 simp at h
 match t.l,h.1 with
 |[x,y],_=>exact ⟨x,y,rfl⟩
theorem Td {x y:Nd}:szL [x,y]=szT x+szT y:=by simp only [szL];omega
set_option maxHeartbeats 4000000 in
theorem ZbM : ∀ t : Nd,okT t=true→szT t≤1000000→AF prog 167 [pTr t] (· =pTr (Yw t)):=Nd.ind fun o a l ih hok hs=>by
 have e0:pTr (.mk o a l)= .agg [Zc o,ZZ a,YK l]:=rfl
 rw [e0]
 obtain ⟨hr,hp⟩:=Kz.1 hok
 have hf:=Sa _ hok hs
 have hsz:=S3 (.mk o a l)
 have hlz:=T9 l
 have hops:=GB hr
 simp only [Nd.l,Nd.op] at hp hsz hops
 have hnl:=Zds l
 have hnz:szL (WZ l)≤szL l:=by
  have:=TJ (.mk o a l);clear this e0 hr hf hsz hlz hnl;clear ih hok hs;induction l with
  |nil=>exact Xb _
  | cons x l ih2=>
    have h3:=TJ x;have h4:=ih2 (fun y hy=>hp y (XI _ hy));rw [WZ,szL,szL];omega
 have hnf:∀y∈WZ l,FitT y:=fun y hy=>by
  rw [Pb] at hy;obtain ⟨x,hx,rfl⟩:=Xq.1 hy;have:=Pa hx;exact ζ5 (hp x hx) oM
 refine AF.of_body 70 func167 rfl ntmps167 (Xa rfl) ?_
 intro w0 M0 vs hl hv
 obtain ⟨v0,rfl⟩:=Kl hl
 clear hl hv
 refine Zf ?_
 (refine Yv 1 3 fun h1=>?_;refine ZA [(.int .i64 0),(.string ByteArray.empty),(.slice none 0 0)] 3 2 WJ fun h2=>?_;refine Zn ?_)
 (refine xL 3 Zb ?_;refine Ze ?_)
 refine Zz (WF 200 24 3 rfl) fun _=>?_
 (refine Zm ?_;refine xL 8 (Zd 1 JB) ?_;refine yL 9 (Zi 1 GM) fun v9 hv9=>?_;cases hv9;refine xL 10 (Z1 Kf) (xL 11 Za ?_);refine Ze ?_)
 refine ZE (ι:={q:Nat×Value//q.1≤l.length∧q.2.oneCell'=true}) (fun k=>⟨[(1,_,_),(2,_,_),(9,_,_),(10,_,_),(3,k.1.2, .val k.1.2),(11, .int .i64 k.1.1,Zc k.1.1)],[(1,_,_),(2,_,_),(200,k.1.2, .own 24 3 ((WZ l).take k.1.1).length (Z6 ((WZ l).take k.1.1)))]⟩) (fun k=>l.length-k.1.1) ⟨(0, .slice none 0 0),Xh _,rfl⟩ (fun a w H=>H.weaken ⟨rfl,rfl,rfl,rfl,rfl,rfl,trivial⟩ ⟨rfl,rfl,rfl,trivial⟩) ?_
 rintro ⟨⟨k,hO⟩,hk,hOo⟩
 dsimp only
 dsimp only at hk hOo
 refine Zf ?_
 (refine xL 12 ZR ?_;refine Ze ?_)
 refine cX ?_ ?_<;>intro hb12
 · first|exact bN hb12|(
 obtain ⟨x,hx⟩:=Zw (show k<l.length by omega);have e1:((Z6 l).drop (k*3)).take 3=[Zc x.op,ZZ x.act,YK x.l]:=Z5 hx;have e2:=Yj hx;have hxm:=Xd hx;have hxs:=Pa hxm;have hsn:=Yo (Zdr hx);(have hsl:((WZ l).take (k+1)).length=((WZ l).take k).length+1:=by rw [hsn,Xg];rfl);(have hsl2:((WZ l).take k).length≤1000000:=by rw [Xl];omega);refine Zf ?_;(refine xL 13 (ZP Kf) ?_;refine yL 14 (Yz ZM) fun v14 hv14=>?_;cases hv14;refine ZA [(.int .i64 0),(.string ByteArray.empty),(.slice none 0 0)] 3 5 WJ fun h5=>?_;refine Zv 5 ZM ?_;refine Zn ?_)
 (refine xL 15 Za ?_;refine yL 16 (Zq 5 ZM) fun v16 hv16=>?_;cases hv16;refine cD 17 (cA call167 (ih x hxm (hp x hxm) oM)) fun v17 hv17=>?_;clear hv17;refine K1 18 JY fun h18 ho18=>?_;(refine Kk 200 18 19 JY fun h19 ho19=>?_;refine Zp (Z0 (l:=19) 200 rfl rfl) fun _=>?_;refine Zp (ZF (l:=200) (p':= .own 24 3 ((WZ l).take (k+1)).length (Z6 ((WZ l).take (k+1)))) rfl (Eq.trans (congrArg (PV.own 24 3 _) (show _=Z6 ((WZ l).take k)++cN (Yw x) from rfl)) (by rw [S4,←hsn,hsl]))) fun _=>?_);refine xL 3 Zb ?_;refine Zn ?_)
 (refine xL 20 ZO (xL 11 Za ?_);refine Ze ?_)
 refine Zk (
  ⟨(k+1,h19),Zg hx,ho19⟩
  ) (by dsimp only;omega) ⟨rfl,rfl,rfl,rfl,rfl,rfl,trivial⟩ ⟨rfl,rfl,rfl,trivial⟩)
 · first | exact bN hb12|(
 rw [Xs (show (WZ l).length≤k by omega)];refine Zf ?_;(refine xL 21 (Zd 1 Wj) ?_;refine yL 22 (Zi 1 Kq) fun v22 hv22=>?_;cases hv22;refine Zn ?_)
 (refine xL 24 ZQ (xL 23 Zb ?_);refine Ze ?_)
 refine cX ?_ ?_<;>intro hb23
 · first | exact bN hb23|(
 refine nav ?_;refine cX ?_ ?_<;>intro hb23
 · first|exact bN hb23|(
 refine Zf ?_;(refine xL 26 (Zd 1 Wj) ?_;refine yL 27 (Zi 1 Kq) fun v27 hv27=>?_;cases hv27;refine xL 28 (Zd 1 RH) ?_;refine yL 29 (Zi 1 EN) fun v29 hv29=>?_;cases hv29;refine xL 30 (Z3 KW) ?_;(refine Zp (WT (t:=30) (p':=pTr (.mk o a [])) rfl (Gj o a)) fun _=>?_;refine Zv 2 ZM ?_);refine Ze ?_)
 refine WL (k:=3) 2 kR (results167) rfl rfl (Xa rfl) dC rfl ?_;rw [Yw,OO,Up oM];rfl)
 · first | exact bN hb23|(
 refine Zf ?_;(refine xL 32 ZQ (xL 31 Zb ?_);refine Ze ?_)
 refine cX ?_ ?_<;>intro hb31
 · first | exact bN hb31|(
 obtain ⟨f0,s0,hl2⟩:=Sm hr (show o=6 from by omega);obtain rfl:l=[f0,s0]:=hl2;have ho6:o=6:=oM;(have hres:Yw (.mk o a [f0,s0])=H9 (KA (Yw f0) (Yw s0)):=by rw [Yw,OO,Uo oM,Up ho6];rfl);have hF1:=PW (hp f0 sM);have hS1:=PW (hp s0 sM);have hFz:=TJ f0;have hSz:=TJ s0;have hfF:=hnf (Yw f0) (by simp [WZ]);have hfS:=hnf (Yw s0) (by simp [WZ]);rw [Td] at hsz;have e3:((Z6 (WZ [f0,s0])).drop (0*3)).take 3=[Zc (Yw f0).op,ZZ (Yw f0).act,YK (Yw f0).l]:=Z5 (k:=0) rfl;have e4:0*3+3≤(Z6 (WZ [f0,s0])).length:=Yj (k:=0) (x:=Yw f0) rfl;have e5:((Z6 (WZ [f0,s0])).drop (1*3)).take 3=[Zc (Yw s0).op,ZZ (Yw s0).act,YK (Yw s0).l]:=Z5 (k:=1) rfl;have e6:1*3+3≤(Z6 (WZ [f0,s0])).length:=Yj (k:=1) (x:=Yw s0) rfl;refine nav ?_;refine Kj (fun q:Value×Value×Value=>⟨[(2,padd (sbase q.1) 0, .val (padd (sbase q.1) 0)),(6,padd (sbase q.2.1) 0, .val (padd (sbase q.2.1) 0)),(7,padd (sbase q.2.2) 0, .val (padd (sbase q.2.2) 0))],[(2,q.1, .own 24 3 1 [.val (.int .i64 0), .val (.string ByteArray.empty), .val (.slice none 0 0)]),(6,q.2.1, .own 24 3 1 [Zc (Yw f0).op,ZZ (Yw f0).act,YK (Yw f0).l]),(7,q.2.2, .own 24 3 1 [Zc (Yw s0).op,ZZ (Yw s0).act,YK (Yw s0).l])]⟩) ?_ ?_
 · (refine ZS (fun i=>([]:List Nat).elem i) [200] kR ?_<;>refine xD 0 33 rfl Za ?_<;>refine xD 1 34 rfl (Zt 200 Kf) ?_<;>(refine yD 2 35 rfl (Zq 200 ZM) fun v35 h=>?_;cases h)<;>refine xD 3 36 rfl Za ?_<;>refine xD 4 37 rfl (Zt 200 Kf) ?_<;>(refine yD 5 38 rfl (Zq 200 ZM) fun v38 h=>?_;cases h)<;>(refine YD 6 7 kR ?_ ?_;rotate_right;(focus ((refine Zj rfl fun w9 M9 N9 DQ back=>?_)<;>refine ZA [(.int .i64 0),(.string ByteArray.empty),(.slice none 0 0)] 3 7 WJ fun h7=>?_<;>refine Zh (back _ (nrm ?_))<;>(refine Zl 6 kR ?_)<;>(refine Zj rfl fun w9 M9 N9 DQ back=>?_)<;>refine ZA [(.int .i64 0),(.string ByteArray.empty),(.slice none 0 0)] 3 6 WJ fun h6=>?_<;>refine Zh (back _ (nrm ?_))<;>(refine Zl 8 kR ?_)<;>(refine Zj rfl fun w9 M9 N9 DQ back=>?_)<;>refine Zv 6 ZM ?_<;>refine Zh (back _ (nrm ?_))<;>(refine Zl 9 kR ?_)<;>(refine Zj rfl fun w9 M9 N9 DQ back=>?_)<;>refine Zv 7 ZM ?_<;>refine Zh (back _ (nrm ?_))));rotate_right;(focus ((refine Zj rfl fun w9 M9 N9 DQ back=>?_)<;>refine ZA [(.int .i64 0),(.string ByteArray.empty),(.slice none 0 0)] 3 6 WJ fun h6=>?_<;>refine Zh (back _ (nrm ?_))<;>(refine Zl 7 kR ?_)<;>(refine Zj rfl fun w9 M9 N9 DQ back=>?_)<;>refine ZA [(.int .i64 0),(.string ByteArray.empty),(.slice none 0 0)] 3 7 WJ fun h7=>?_<;>refine Zh (back _ (nrm ?_))<;>(refine Zl 8 kR ?_)<;>(refine Zj rfl fun w9 M9 N9 DQ back=>?_)<;>refine Zv 6 ZM ?_<;>refine Zh (back _ (nrm ?_))<;>(refine Zl 9 kR ?_)<;>(refine Zj rfl fun w9 M9 N9 DQ back=>?_)<;>refine Zv 7 ZM ?_<;>refine Zh (back _ (nrm ?_)))))<;>refine Yu kR (nav ?_)<;>try dsimp only)<;>(
 exact ZW (_,_,_) ⟨rfl,rfl,rfl,trivial⟩ ⟨rfl,rfl,rfl,trivial⟩)
 · rintro ⟨h2,h6,h7⟩;dsimp only;clear e3 e4 e5 e6;generalize Yw f0=F at hres hF1 hFz hfF ⊢;generalize Yw s0=S at hres hS1 hSz hfS ⊢;refine Zf ?_;(refine xL 39 (Zd 6 Wj) ?_;refine yL 40 (Zi 6 Kq) fun v40 hv40=>?_;cases hv40;refine xL 41 ZQ ?_;refine Ze ?_)
   refine Kj (fun _:Unit=>⟨[(2,padd (sbase h2) 0, .val (padd (sbase h2) 0)),(6,padd (sbase h6) 0, .val (padd (sbase h6) 0)),(7,padd (sbase h7) 0, .val (padd (sbase h7) 0))],[(2,h2, .own 24 3 1 [.val (.int .i64 0), .val (.string ByteArray.empty), .val (.slice none 0 0)]),(6,h6, .own 24 3 1 (cN (KA F S).1)),(7,h7, .own 24 3 1 (cN (KA F S).2))]⟩) ?_ ?_
   · refine cX ?_ ?_<;>intro hb41
     · first|exact bN hb41|(
 obtain ⟨A,B,hAB⟩:=Sm (Kz.1 hF1).1 hb41;(have hlop:KA F S=(A,TY 4 [B,S]):=by unfold KA;rw [Up hb41,hAB]);have hfA:=hfF.p A (by rw [hAB];simp);have hfB:=hfF.p B (by rw [hAB];simp);have hFe:=S3 F;rw [hAB,Td] at hFe;rw [hAB];have e3:((Z6 [A,B]).drop (0*3)).take 3=[Zc A.op,ZZ A.act,YK A.l]:=Z5 (k:=0) rfl;have e4:0*3+3≤(Z6 [A,B]).length:=Yj (k:=0) (x:=A) rfl;have e5:((Z6 [A,B]).drop (1*3)).take 3=[Zc B.op,ZZ B.act,YK B.l]:=Z5 (k:=1) rfl;have e6:1*3+3≤(Z6 [A,B]).length:=Yj (k:=1) (x:=B) rfl;have hj:=Pi 4 [B,S] dC dC (fun x hx=>by simp only [Xn,List.not_mem_nil,or_false] at hx;rcases hx with h|h<;>rw [h]<;>assumption) (by rw [Td];omega);refine nav ?_;(refine ZS (fun i=>([11,12]:List Nat).elem i) [6,7] kR ?_<;>refine xDT 0 42 rfl (Zd 6 JB) ?_<;>(refine yDT 1 43 rfl (Zi 6 GM) fun v43 h=>?_;cases h)<;>refine xDT 2 44 rfl (ZP Kf) ?_<;>(refine yDT 3 45 rfl (Yz ZM) fun v45 h=>?_;cases h)<;>refine xDT 4 46 rfl (Zd 6 JB) ?_<;>(refine yDT 5 47 rfl (Zi 6 GM) fun v47 h=>?_;cases h)<;>refine xDT 6 48 rfl (ZP Kf) ?_<;>(refine yDT 7 49 rfl (Yz ZM) fun v49 h=>?_;cases h)<;>(refine yE 8 50 rfl (Zq 7 ZM) fun v50 h=>?_;cases h)<;>(refine Zl 9 kR ?_)<;>(refine Zj rfl fun w9 M9 N9 DQ back=>?_)<;>(refine Jh (kk:=3) (xs:=[_,_]) (cs:=[[_,_,_],[_,_,_]]) 51 JY fun h51 ho51=>?_;refine Zp (En.freeze (l:=51) (t:=51) rfl rfl) fun _=>?_;refine Zp (Yk (t:=51) (p':=YK [B,S]) rfl (Eq.trans (show _=PV.sl 2 ([B,S].flatMap cN) from rfl) (Ju B S))) fun _=>?_)<;>refine Zh (back _ (nrm ?_))<;>(refine Zl 10 kR ?_)<;>(refine Gg (d:=52) rfl (cA (call182) hj) fun v52 h=>?_;cases h)<;>(refine Zl 11 kR ?_)<;>(refine K6 rfl rfl fun DQ back=>?_)<;>refine Zv 6 ZM ?_<;>refine Zh (back _ ?_)<;>(refine KO 12 kR rfl rfl fun DQ back=>?_)<;>refine Zv 7 ZM ?_<;>refine Zh (back _ ?_)<;>refine JM kR (nav ?_)<;>try dsimp only)
 refine K0 (ZF (l:=6) (p':= .own 24 3 1 (cN (KA F S).1)) rfl (by rw [hlop];rfl)) fun _=>?_;refine K0 (ZF (l:=7) (p':= .own 24 3 1 (cN (KA F S).2)) rfl (by rw [hlop];rfl)) fun _=>?_;exact ZW () ⟨rfl,rfl,rfl,trivial⟩ ⟨rfl,rfl,rfl,trivial⟩)
     · first|exact bN hb41|(
 (have hlop:KA F S=(F,S):=by unfold KA;rw [Uo hb41]);refine Zz (ZF (l:=6) (p':= .own 24 3 1 (cN (KA F S).1)) rfl (by rw [hlop];rfl)) fun _=>?_;refine Zz (ZF (l:=7) (p':= .own 24 3 1 (cN (KA F S).2)) rfl (by rw [hlop];rfl)) fun _=>?_;refine nav ?_;exact ZW () ⟨rfl,rfl,rfl,trivial⟩ ⟨rfl,rfl,rfl,trivial⟩)
   · rintro _;unfold H9 at hres;generalize (KA F S).1=X at hres ⊢;generalize (KA F S).2=Y at hres ⊢;have ec:∀t:Nd,cN t=[Zc t.op,ZZ t.act,YK t.l]:=fun _=>rfl;rw [ec,ec];refine Zf ?_;(refine xL 53 (Zd 6 Wj) ?_<;>(refine yL 54 (Zi 6 Kq) fun v54 h=>?_;cases h)<;>refine xL 55 ZQ (xL 56 Za ?_)<;>(refine bLd 56 (fun hb56=>?_) (fun hb56=>?_)<;>(first|refine kL 57 ?_|refine xL 57 (Zd 7 Wj) ?_))<;>(first|refine kL 58 ?_|(refine yL 58 (Zi 7 Kq) fun v58 h=>?_;cases h))<;>(first|refine kL 59 ?_|refine xL 59 ZQ ?_)<;>refine xL 60 Zu ?_<;>refine Ze ?_)<;>(
 refine cX ?_ ?_<;>intro hb60
 · first|exact bN hb60|(
 rw [Up oM] at hres;refine Zf ?_;(refine xL 61 (Z3 KW) ?_;(refine Zp (WT (t:=61) (p':=pTr TB) rfl CL) fun _=>?_;refine Zv 2 ZM ?_);refine Ze ?_)
 refine WL (k:=3) 2 kR (results167) rfl rfl (Xa rfl) dC rfl ?_;rw [hres];rfl)
 · first|exact bN hb60|(
 rw [Uo oM] at hres;refine Zf ?_;(refine yL 62 (Zq 6 ZM) fun v62 hv62=>?_;cases hv62;refine yL 63 (Zq 7 ZM) fun v63 hv63=>?_;cases hv63;(refine Jh (kk:=3) (xs:=[_,_]) (cs:=[[_,_,_],[_,_,_]]) 64 JY fun h64 ho64=>?_;refine Zp (En.freeze (l:=64) (t:=64) rfl rfl) fun _=>?_;refine Zp (Yk (t:=64) (p':=YK [X,Y]) rfl (Eq.trans (show _=PV.sl 2 ([X,Y].flatMap cN) from rfl) (Ju X Y))) fun _=>?_);refine xL 65 (Z3 KW) ?_;refine Zv 2 ZM ?_;refine Ze ?_)
 refine WL (k:=3) 2 kR (results167) rfl rfl (Xa rfl) dC rfl ?_;rw [hres];rfl)))
 · first|exact bN hb31|(
 refine nav ?_;refine Zz (En.freeze (l:=200) (t:=3) rfl rfl) fun _=>?_;rw [JX _ _ _ rfl];(refine Zm ?_;refine xL 66 (Zd 1 Wj) ?_;refine yL 67 (Zi 1 Kq) fun v67 hv67=>?_;cases hv67;refine xL 68 Za ?_;refine cD 69 (cA call182 (Pi o (WZ l) oM oM hnf oM)) fun v69 hv69=>?_;clear hv69;refine Zv 2 ZM ?_;refine Ze ?_)
 refine WL (k:=3) 2 kR (results167) rfl rfl (Xa rfl) dC rfl ?_;rw [Yw,OO,Uo oM,Uo oM];rfl)))
 · first | exact bN hb23|(
 refine Zf ?_;(refine xL 25 ZQ (xL 23 Zb ?_);refine Ze ?_)
 refine cX ?_ ?_<;>intro hb23
 · first|exact bN hb23|(
 refine Zf ?_;(refine xL 26 (Zd 1 Wj) ?_;refine yL 27 (Zi 1 Kq) fun v27 hv27=>?_;cases hv27;refine xL 28 (Zd 1 RH) ?_;refine yL 29 (Zi 1 EN) fun v29 hv29=>?_;cases hv29;refine xL 30 (Z3 KW) ?_;(refine Zp (WT (t:=30) (p':=pTr (.mk o a [])) rfl (Gj o a)) fun _=>?_;refine Zv 2 ZM ?_);refine Ze ?_)
 refine WL (k:=3) 2 kR (results167) rfl rfl (Xa rfl) dC rfl ?_;rw [Yw,OO,Up oM];rfl)
 · first | exact bN hb23|(
 refine Zf ?_;(refine xL 32 ZQ (xL 31 Zb ?_);refine Ze ?_)
 refine cX ?_ ?_<;>intro hb31
 · first | exact bN hb31|(
 obtain ⟨f0,s0,hl2⟩:=Sm hr (show o=6 from by omega);obtain rfl:l=[f0,s0]:=hl2;have ho6:o=6:=oM;(have hres:Yw (.mk o a [f0,s0])=H9 (KA (Yw f0) (Yw s0)):=by rw [Yw,OO,Uo oM,Up ho6];rfl);have hF1:=PW (hp f0 sM);have hS1:=PW (hp s0 sM);have hFz:=TJ f0;have hSz:=TJ s0;have hfF:=hnf (Yw f0) (by simp [WZ]);have hfS:=hnf (Yw s0) (by simp [WZ]);rw [Td] at hsz;have e3:((Z6 (WZ [f0,s0])).drop (0*3)).take 3=[Zc (Yw f0).op,ZZ (Yw f0).act,YK (Yw f0).l]:=Z5 (k:=0) rfl;have e4:0*3+3≤(Z6 (WZ [f0,s0])).length:=Yj (k:=0) (x:=Yw f0) rfl;have e5:((Z6 (WZ [f0,s0])).drop (1*3)).take 3=[Zc (Yw s0).op,ZZ (Yw s0).act,YK (Yw s0).l]:=Z5 (k:=1) rfl;have e6:1*3+3≤(Z6 (WZ [f0,s0])).length:=Yj (k:=1) (x:=Yw s0) rfl;refine nav ?_;refine Kj (fun q:Value×Value×Value=>⟨[(2,padd (sbase q.1) 0, .val (padd (sbase q.1) 0)),(6,padd (sbase q.2.1) 0, .val (padd (sbase q.2.1) 0)),(7,padd (sbase q.2.2) 0, .val (padd (sbase q.2.2) 0))],[(2,q.1, .own 24 3 1 [.val (.int .i64 0), .val (.string ByteArray.empty), .val (.slice none 0 0)]),(6,q.2.1, .own 24 3 1 [Zc (Yw f0).op,ZZ (Yw f0).act,YK (Yw f0).l]),(7,q.2.2, .own 24 3 1 [Zc (Yw s0).op,ZZ (Yw s0).act,YK (Yw s0).l])]⟩) ?_ ?_
 · (refine ZS (fun i=>([]:List Nat).elem i) [200] kR ?_<;>refine xD 0 33 rfl Za ?_<;>refine xD 1 34 rfl (Zt 200 Kf) ?_<;>(refine yD 2 35 rfl (Zq 200 ZM) fun v35 h=>?_;cases h)<;>refine xD 3 36 rfl Za ?_<;>refine xD 4 37 rfl (Zt 200 Kf) ?_<;>(refine yD 5 38 rfl (Zq 200 ZM) fun v38 h=>?_;cases h)<;>(refine YD 6 7 kR ?_ ?_;rotate_right;(focus ((refine Zj rfl fun w9 M9 N9 DQ back=>?_)<;>refine ZA [(.int .i64 0),(.string ByteArray.empty),(.slice none 0 0)] 3 7 WJ fun h7=>?_<;>refine Zh (back _ (nrm ?_))<;>(refine Zl 6 kR ?_)<;>(refine Zj rfl fun w9 M9 N9 DQ back=>?_)<;>refine ZA [(.int .i64 0),(.string ByteArray.empty),(.slice none 0 0)] 3 6 WJ fun h6=>?_<;>refine Zh (back _ (nrm ?_))<;>(refine Zl 8 kR ?_)<;>(refine Zj rfl fun w9 M9 N9 DQ back=>?_)<;>refine Zv 6 ZM ?_<;>refine Zh (back _ (nrm ?_))<;>(refine Zl 9 kR ?_)<;>(refine Zj rfl fun w9 M9 N9 DQ back=>?_)<;>refine Zv 7 ZM ?_<;>refine Zh (back _ (nrm ?_))));rotate_right;(focus ((refine Zj rfl fun w9 M9 N9 DQ back=>?_)<;>refine ZA [(.int .i64 0),(.string ByteArray.empty),(.slice none 0 0)] 3 6 WJ fun h6=>?_<;>refine Zh (back _ (nrm ?_))<;>(refine Zl 7 kR ?_)<;>(refine Zj rfl fun w9 M9 N9 DQ back=>?_)<;>refine ZA [(.int .i64 0),(.string ByteArray.empty),(.slice none 0 0)] 3 7 WJ fun h7=>?_<;>refine Zh (back _ (nrm ?_))<;>(refine Zl 8 kR ?_)<;>(refine Zj rfl fun w9 M9 N9 DQ back=>?_)<;>refine Zv 6 ZM ?_<;>refine Zh (back _ (nrm ?_))<;>(refine Zl 9 kR ?_)<;>(refine Zj rfl fun w9 M9 N9 DQ back=>?_)<;>refine Zv 7 ZM ?_<;>refine Zh (back _ (nrm ?_)))))<;>refine Yu kR (nav ?_)<;>try dsimp only)<;>(
 exact ZW (_,_,_) ⟨rfl,rfl,rfl,trivial⟩ ⟨rfl,rfl,rfl,trivial⟩)
 · rintro ⟨h2,h6,h7⟩;dsimp only;clear e3 e4 e5 e6;generalize Yw f0=F at hres hF1 hFz hfF ⊢;generalize Yw s0=S at hres hS1 hSz hfS ⊢;refine Zf ?_;(refine xL 39 (Zd 6 Wj) ?_;refine yL 40 (Zi 6 Kq) fun v40 hv40=>?_;cases hv40;refine xL 41 ZQ ?_;refine Ze ?_)
   refine Kj (fun _:Unit=>⟨[(2,padd (sbase h2) 0, .val (padd (sbase h2) 0)),(6,padd (sbase h6) 0, .val (padd (sbase h6) 0)),(7,padd (sbase h7) 0, .val (padd (sbase h7) 0))],[(2,h2, .own 24 3 1 [.val (.int .i64 0), .val (.string ByteArray.empty), .val (.slice none 0 0)]),(6,h6, .own 24 3 1 (cN (KA F S).1)),(7,h7, .own 24 3 1 (cN (KA F S).2))]⟩) ?_ ?_
   · refine cX ?_ ?_<;>intro hb41
     · first|exact bN hb41|(
 obtain ⟨A,B,hAB⟩:=Sm (Kz.1 hF1).1 hb41;(have hlop:KA F S=(A,TY 4 [B,S]):=by unfold KA;rw [Up hb41,hAB]);have hfA:=hfF.p A (by rw [hAB];simp);have hfB:=hfF.p B (by rw [hAB];simp);have hFe:=S3 F;rw [hAB,Td] at hFe;rw [hAB];have e3:((Z6 [A,B]).drop (0*3)).take 3=[Zc A.op,ZZ A.act,YK A.l]:=Z5 (k:=0) rfl;have e4:0*3+3≤(Z6 [A,B]).length:=Yj (k:=0) (x:=A) rfl;have e5:((Z6 [A,B]).drop (1*3)).take 3=[Zc B.op,ZZ B.act,YK B.l]:=Z5 (k:=1) rfl;have e6:1*3+3≤(Z6 [A,B]).length:=Yj (k:=1) (x:=B) rfl;have hj:=Pi 4 [B,S] dC dC (fun x hx=>by simp only [Xn,List.not_mem_nil,or_false] at hx;rcases hx with h|h<;>rw [h]<;>assumption) (by rw [Td];omega);refine nav ?_;(refine ZS (fun i=>([11,12]:List Nat).elem i) [6,7] kR ?_<;>refine xDT 0 42 rfl (Zd 6 JB) ?_<;>(refine yDT 1 43 rfl (Zi 6 GM) fun v43 h=>?_;cases h)<;>refine xDT 2 44 rfl (ZP Kf) ?_<;>(refine yDT 3 45 rfl (Yz ZM) fun v45 h=>?_;cases h)<;>refine xDT 4 46 rfl (Zd 6 JB) ?_<;>(refine yDT 5 47 rfl (Zi 6 GM) fun v47 h=>?_;cases h)<;>refine xDT 6 48 rfl (ZP Kf) ?_<;>(refine yDT 7 49 rfl (Yz ZM) fun v49 h=>?_;cases h)<;>(refine yE 8 50 rfl (Zq 7 ZM) fun v50 h=>?_;cases h)<;>(refine Zl 9 kR ?_)<;>(refine Zj rfl fun w9 M9 N9 DQ back=>?_)<;>(refine Jh (kk:=3) (xs:=[_,_]) (cs:=[[_,_,_],[_,_,_]]) 51 JY fun h51 ho51=>?_;refine Zp (En.freeze (l:=51) (t:=51) rfl rfl) fun _=>?_;refine Zp (Yk (t:=51) (p':=YK [B,S]) rfl (Eq.trans (show _=PV.sl 2 ([B,S].flatMap cN) from rfl) (Ju B S))) fun _=>?_)<;>refine Zh (back _ (nrm ?_))<;>(refine Zl 10 kR ?_)<;>(refine Gg (d:=52) rfl (cA (call182) hj) fun v52 h=>?_;cases h)<;>(refine Zl 11 kR ?_)<;>(refine K6 rfl rfl fun DQ back=>?_)<;>refine Zv 6 ZM ?_<;>refine Zh (back _ ?_)<;>(refine KO 12 kR rfl rfl fun DQ back=>?_)<;>refine Zv 7 ZM ?_<;>refine Zh (back _ ?_)<;>refine JM kR (nav ?_)<;>try dsimp only)
 refine K0 (ZF (l:=6) (p':= .own 24 3 1 (cN (KA F S).1)) rfl (by rw [hlop];rfl)) fun _=>?_;refine K0 (ZF (l:=7) (p':= .own 24 3 1 (cN (KA F S).2)) rfl (by rw [hlop];rfl)) fun _=>?_;exact ZW () ⟨rfl,rfl,rfl,trivial⟩ ⟨rfl,rfl,rfl,trivial⟩)
     · first|exact bN hb41|(
 (have hlop:KA F S=(F,S):=by unfold KA;rw [Uo hb41]);refine Zz (ZF (l:=6) (p':= .own 24 3 1 (cN (KA F S).1)) rfl (by rw [hlop];rfl)) fun _=>?_;refine Zz (ZF (l:=7) (p':= .own 24 3 1 (cN (KA F S).2)) rfl (by rw [hlop];rfl)) fun _=>?_;refine nav ?_;exact ZW () ⟨rfl,rfl,rfl,trivial⟩ ⟨rfl,rfl,rfl,trivial⟩)
   · rintro _;unfold H9 at hres;generalize (KA F S).1=X at hres ⊢;generalize (KA F S).2=Y at hres ⊢;have ec:∀t:Nd,cN t=[Zc t.op,ZZ t.act,YK t.l]:=fun _=>rfl;rw [ec,ec];refine Zf ?_;(refine xL 53 (Zd 6 Wj) ?_<;>(refine yL 54 (Zi 6 Kq) fun v54 h=>?_;cases h)<;>refine xL 55 ZQ (xL 56 Za ?_)<;>(refine bLd 56 (fun hb56=>?_) (fun hb56=>?_)<;>(first|refine kL 57 ?_|refine xL 57 (Zd 7 Wj) ?_))<;>(first|refine kL 58 ?_|(refine yL 58 (Zi 7 Kq) fun v58 h=>?_;cases h))<;>(first|refine kL 59 ?_|refine xL 59 ZQ ?_)<;>refine xL 60 Zu ?_<;>refine Ze ?_)<;>(
 refine cX ?_ ?_<;>intro hb60
 · first|exact bN hb60|(
 rw [Up oM] at hres;refine Zf ?_;(refine xL 61 (Z3 KW) ?_;(refine Zp (WT (t:=61) (p':=pTr TB) rfl CL) fun _=>?_;refine Zv 2 ZM ?_);refine Ze ?_)
 refine WL (k:=3) 2 kR (results167) rfl rfl (Xa rfl) dC rfl ?_;rw [hres];rfl)
 · first|exact bN hb60|(
 rw [Uo oM] at hres;refine Zf ?_;(refine yL 62 (Zq 6 ZM) fun v62 hv62=>?_;cases hv62;refine yL 63 (Zq 7 ZM) fun v63 hv63=>?_;cases hv63;(refine Jh (kk:=3) (xs:=[_,_]) (cs:=[[_,_,_],[_,_,_]]) 64 JY fun h64 ho64=>?_;refine Zp (En.freeze (l:=64) (t:=64) rfl rfl) fun _=>?_;refine Zp (Yk (t:=64) (p':=YK [X,Y]) rfl (Eq.trans (show _=PV.sl 2 ([X,Y].flatMap cN) from rfl) (Ju X Y))) fun _=>?_);refine xL 65 (Z3 KW) ?_;refine Zv 2 ZM ?_;refine Ze ?_)
 refine WL (k:=3) 2 kR (results167) rfl rfl (Xa rfl) dC rfl ?_;rw [hres];rfl)))
 · first|exact bN hb31|(
 refine nav ?_;refine Zz (En.freeze (l:=200) (t:=3) rfl rfl) fun _=>?_;rw [JX _ _ _ rfl];(refine Zm ?_;refine xL 66 (Zd 1 Wj) ?_;refine yL 67 (Zi 1 Kq) fun v67 hv67=>?_;cases hv67;refine xL 68 Za ?_;refine cD 69 (cA call182 (Pi o (WZ l) oM oM hnf oM)) fun v69 hv69=>?_;clear hv69;refine Zv 2 ZM ?_;refine Ze ?_)
 refine WL (k:=3) 2 kR (results167) rfl rfl (Xa rfl) dC rfl ?_;rw [Yw,OO,Uo oM,Uo oM];rfl))))
def LJ (t:Nd):PV×Int:=if Jf t=true then (if Jf (Yw t)=true then (pTr (Yw t),0) else (Ee,5)) else (Ee,1)
theorem C3 (t:Nd) (hf:FitT t):AF prog 137 [pTr t] (· = .tup [(LJ t).1,Zc (LJ t).2]):=by
 refine AF.of_body 16 func137 rfl ntmps137 (Xa rfl) ?_
 intro w0 M0 vs hl hv
 obtain ⟨v0,rfl⟩:=Kl hl
 clear hl hv
 have e0:pTr t= .agg [Zc t.op,ZZ t.act,YK t.l]:=rfl
 rw [e0]
 refine Zf ?_
 (refine Yv 1 3 fun h1=>?_;refine ZA [(.int .i64 0),(.string ByteArray.empty),(.slice none 0 0)] 3 2 WJ fun h2=>?_;refine xL 3 Zb ?_;refine Zn ?_)
 (refine yL 5 (Zq 1 ZM) fun v5 hv5=>?_;cases hv5;refine cS 6 (cA call32 (T1 t hf)) fun v6 hv6=>?_;cases hv6;refine xL 7 Ym ?_;refine Ze ?_)
 refine cX ?_ ?_<;>intro hb7
 · first|exact bN hb7|(
 refine Zf ?_;(refine xL 8 (Z3 KW) ?_;refine Zv 2 ZM ?_;refine xL 3 Zb ?_;refine Ze ?_)
 refine Wo (k:=3) 2 kR (results137) rfl rfl rfl (Xa rfl) dC rfl ?_;rw [show LJ t=(Ee,1) by unfold LJ;rw [Uo (by simpa using hb7)]];rfl)
 · first|exact bN hb7|(
 (have hv:Jf t=true:=by simpa using hb7);have hsz:=SV hv;have hok:=TA hv;have hfn:=ζ5 hok oM;refine Zf ?_;(refine yL 9 (Zq 1 ZM) fun v9 hv9=>?_;cases hv9;refine cD 10 (cA call167 (ZbM t hok oM)) fun v10 hv10=>?_;clear hv10;refine ZA [(.int .i64 0),(.string ByteArray.empty),(.slice none 0 0)] 3 4 WJ fun h4=>?_;refine Zv 4 ZM ?_;refine Ze ?_)
 have e1:cN (Yw t)=[Zc (Yw t).op,ZZ (Yw t).act,YK (Yw t).l]:=rfl;(refine Zm ?_;refine yL 11 (Zq 4 ZM) fun v11 hv11=>?_;cases hv11;refine cS 12 (cA call32 (T1 (Yw t) hfn)) fun v12 hv12=>?_;cases hv12;refine xL 13 Ym ?_;refine Ze ?_)
 refine cX ?_ ?_<;>intro hb13
 · first|exact bN hb13|(
 refine Zf ?_;(refine xL 14 (Z3 KW) ?_;refine Zv 2 ZM ?_;refine xL 3 Zb ?_;refine Ze ?_)
 refine Wo (k:=3) 2 kR (results137) rfl rfl rfl (Xa rfl) dC rfl ?_;rw [show LJ t=(Ee,5) by unfold LJ;rw [Up hv,Uo (by simpa using hb13)]];rfl)
 · first|exact bN hb13|(
 refine Zf ?_;(refine yL 15 (Zq 4 ZM) fun v15 hv15=>?_;cases hv15;refine Zv 2 ZM ?_;refine xL 3 Zb ?_;refine Ze ?_)
 refine Wo (k:=3) 2 kR (results137) rfl rfl rfl (Xa rfl) dC rfl ?_;rw [show LJ t=(pTr (Yw t),0) by unfold LJ;rw [Up hv,Up (by simpa using hb13)]];rfl))
end Go.Proofs.YtpiemogpblmiiaaGreatDoor
