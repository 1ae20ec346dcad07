/-
  Walks of functions and plain laws of the chapter, as the claim needs them.
-/
import Derived.Test.YtmkojdfiadbeeaaGreatProg
import Derived.Lib.Join
import Derived.Test.YtmkojdfiadbeeaaGreatPe06
import Derived.Test.YtmkojdfiadbeeaaGreatPe05
import Derived.Test.YtmkojdfiadbeeaaGreatPe03
import Derived.Test.YtmkojdfiadbeeaaGreatPe02
import Derived.Test.YtmkojdfiadbeeaaGreatPe01
import Derived.Test.YtmkojdfiadbeeaaGreatMShelf
set_option linter.all false
set_option maxRecDepth 100000
set_option maxHeartbeats 8000000
namespace Go.Proofs.YtmkojdfiadbeeaaGreat
open Go.RowKit Go.Cb Go.En Tryz
theorem HB:(prog.info? 3).map (·.size)=some 1:=kR
theorem Zpv (k i:Nat):decide (i<k+1)=if i=k then true else decide (i<k):=by
 by_cases h:i=k
 . rw [Qc h,U' oM]
 . rw [Qb h];exact decide_eq_decide.2 oM
theorem Zae (l:List BA) (n:Nat) (E R:Nat->Nat->Bool) (S F:Nat->Bool) (hl:l.length=n) (hn:n<=1000):AF prog 233 [.agg (Jm l n E R S F)] (· =YP 4 n (fun _=>true)):=by
 subst hl
 refine AF.b1 19 func233 rfl ntmps233 (Xa rfl) fun w0 M0 v0 _=>?_
 dsimp only [Jm]
 refine Zi ?_
 refine Yi 1 5 fun h1=>?_;refine ZX ?_
 refine xM (Zc 1 Wy) ?_;refine yU (Zh 1 ZF) fun v6=>?_;refine xM (Zs Zm) ?_;refine Kz 8 Ws fun h8 ho8=>?_;refine KA ?_
 rw [show List.replicate l.length (PV.val (.bool false))=vec l.length (fun i=>Zr (decide (i<0))) by rw [Lm];exact Yk fun i _=>by rw [Qa (Vo i)]]
 refine Yq (ι:={k:Nat//k<=l.length}) (fun k=>⟨[(1,_,_),(3,_,_),(4, .int .i64 k.1,Zb k.1)],[(1,_,_),(8,h8,YP 4 l.length (fun i=>decide (i<k.1)))]⟩) (fun k=>l.length-k.1) ⟨0,Xg _⟩ ?_
 rintro ⟨k,hk⟩
 dsimp only
 have e1:=Wx l.length (fun i=>Zr (decide (i<k)))
 refine Zi ?_
 refine xL 9 Za (xL 10 Za (xL 11 (WB 8 ZI) (xL 12 Yj ?_)));refine ZE ?_ ?_<;>intro hb12
 . (
 refine Zi ?_;refine xL 15 Za (xL 16 Za (xL 17 (Zj 8 ZI) ?_));refine JX 8 ZT Gq ?_;refine Ym ?_;refine E9 ?_;rw [SJ (f':=fun i=>decide (i<k+1)) fun i _=>Zpv k i];refine Yr (
  ⟨k+1,oM⟩
  ))
 . (
 refine ZU ?_;refine Ga 8 (results233) rfl rfl ?_;have:k=l.length:=oM;subst this;show PV.own _ _ _ _=PV.own _ _ _ _;rw [Yk (g:=fun _=>Zr true) fun i hi=>by dsimp only;rw [U' hi]])
theorem Ln (c:List Int) (n:Nat) (f:Nat->Bool) (hc:∀x∈c,0<=x/\x<n) (hcl:c.length<=1000000):AF prog 271 [pInts c,Wq n f] (· =Zr (K3 c f)):=by
 refine AF.b2 19 func271 rfl ntmps271 (Xa rfl) fun w0 M0 v0 v1 _ _=>?_
 refine JR ?_
 refine Y9 (ι:={k:Nat//k<=c.length/\(c.take k).any (fun x=>f x.toNat)=false}) (fun k=>⟨[(0,_,_),(1,_,_),(5, .int .i64 k.1,Zb k.1)],[]⟩) (fun k=>c.length-k.1) ⟨0,Xg _,rfl⟩ (fun a w H=>H.weaken sB trivial) ?_
 rintro ⟨k,hk,hp⟩
 dsimp only
 refine Zi ?_
 refine xL 6 Za (xL 7 Za (xL 8 (Zs ZS) (xL 9 Yj ?_)));refine ZE ?_ ?_<;>intro hb9
 . (
 obtain ⟨x,hx⟩:=gS c k;have e1:=Yh (f:=Zb) hx;have hxb:=hc x (Xb hx);have e2:=ZZ (fun j=>Zr (f j)) (show x.toNat<n by omega);refine Zi ?_;refine xL 12 Za (xL 13 Za (xL 14 Za (xL 15 (Ze ZS) ?_)));refine yV (Zu ZH) ?_;refine xM (T0 ZI) ?_;refine yV (Zu ZT) ?_;refine ZE ?_ ?_<;>intro hb18
 . (
 refine ZD ?_;refine Zg (results271) rfl ?_;rw [show K3 c f=true from X2.2 ⟨x,Xb hx,hb18⟩])
 . (
 refine Y2 ?_;refine Zf (
  ⟨k+1,oM,by rw [Z2 hx,UA,hp,Ui];simp [hb18]⟩
  ) (by dsimp only;omega) sB trivial))
 . (
 refine ZD ?_;refine Zg (results271) rfl ?_;rw [show k=c.length by omega,Xx] at hp;rw [show K3 c f=false from hp])
def TZ (E R:Nat->Nat->Bool) (kind:Int) (a b:Int):Bool:=PU E R kind a.toNat b.toNat
theorem Zkg (E R:Nat->Nat->Bool) (kind:Int) (a b:Nat):PU E R kind a b=PU E R kind b a:=by
 unfold PU
 split
 . cases R a b<;>cases R b a<;>rfl
 . split
   . exact Bool.or_comm _ _
   . exact Bool.or_comm _ _
theorem R6 (E R:Nat->Nat->Bool) (kind:Int) (a b:Nat):TZ E R kind a b=PU E R kind a b:=by unfold TZ;rw [XG,XG]
theorem Zrc {E R:Nat->Nat->Bool} {kind:Int} {a b:Nat} (h:TZ E R kind a b=true\/TZ E R kind b a=true):PU E R kind a b=true:=by
 rw [R6,R6] at h
 rcases h with h|h
 . exact h
 . rw [Zkg];exact h
theorem ZbX {n a b:Nat} {f f':Nat->Nat} (hf:∀i,i<n->f' i=if i=a then b else f i):(vec n fun i=>Zb (f i:Nat)).set (a*1) (Zb (b:Nat))=vec n fun i=>Zb (f' i:Nat):=by
 rw [XI,G1]
 refine Yk fun i hi=>?_
 rw [hf i hi]
 by_cases h:i=a
 . rw [Qc h,Qc h]
 . rw [Qb h,Qb h]
def HE (n:Nat) (f:Nat->Nat):List PV:=vec n fun i=>Zb (f i:Nat)
theorem Zaf (n:Nat) (f:Nat->Nat):(HE n f).length=n:=Wx _ _
theorem HG {n i:Nat} (f:Nat->Nat) (h:i<n):(HE n f)[i*1]? =some (Zb (f i:Nat)):=ZZ _ h
theorem HH {n a b:Nat} (f:Nat->Nat):(HE n f).set (a*1) (Zb (b:Nat))=HE n (upd f a b):=ZbX fun i _=>rfl
theorem Zkh (n:Nat):List.replicate n (PV.val (.int .i64 0))=HE n (fun i=>if i<0 then i else 0):=by
 rw [Lm];exact Yk fun i _=>by dsimp only;rw [Qb (Vo i)];rfl
theorem Zki (n k:Nat):(HE n fun i=>if i<k then i else 0).set (k*1) (Zb (k:Nat))=HE n (fun i=>if i<k+1 then i else 0):=ZbX fun i _=>by
 by_cases h:i=k
 . rw [Qc h,Qc oM];exact h
 . rw [Qb h];by_cases h2:i<k
   . rw [Qc h2,Qc oM]
   . rw [Qb h2,Qb oM]
theorem Zkj (n:Nat):HE n (fun i=>if i<n then i else 0)=HE n fun i=>i:=Yk fun i hi=>by dsimp only;rw [Qc hi]
theorem Zag (i:Nat) (I:Nat->Bool) (lab:Nat->Nat) (c:Nat):cls (i+1) I lab c=cls i I lab c++(if I i=true/\lab i=c then [(i:Int)] else []):=by
 unfold cls
 rw [VP,XW,V0]
 congr 1
 by_cases h:I i=true/\lab i=c
 . rw [Qc h];simp [h.1,h.2]
 . rw [Qb h];rw [Xm,Vw,VS]; · rfl
   rw [XG];intro hh;simp only [Xe,beq_iff_eq] at hh;exact h hh
theorem Zim {i:Nat} {I:Nat->Bool} {lab:Nat->Nat} {c:Nat} (h:I i=false):cls (i+1) I lab c=cls i I lab c:=by rw [Zag,Qb (by rw [h];simp),Xo]
theorem Zin {i:Nat} {I:Nat->Bool} {lab:Nat->Nat} {c:Nat} (h:¬((lab i:Nat):Int)=((c:Nat):Int)):cls (i+1) I lab c=cls i I lab c:=by rw [Zag,Qb oM,Xo]
theorem Zpw (n:Nat) (I:Nat->Bool) (lab:Nat->Nat) (c:Nat):(cls n I lab c).length<=n:=by
 unfold cls
 have:=VC (fun x:Int=>I x.toNat&&(lab x.toNat==c)) ((List.range n).map fun i:Nat=>(i:Int))
 rw [Xc,VN] at this;exact this
theorem Zm7 (n:Nat) (I:Nat->Bool) (lab:Nat->Nat) (k:Nat):(LX n I lab k).length<=k:=by
 unfold LX
 have:=VC (fun c:List Int=> !c.isEmpty) ((List.range k).map (cls n I lab))
 rw [Xc,VN] at this;exact this
theorem Pz (l : List BA) (n :Nat) (E R:Nat->Nat->Bool) (S F:Nat->Bool) (kind:Int) (I:Nat->Bool) (hl:l.length=n) (hn:n<=1000):AF prog 232 [.agg (Jm l n E R S F),Zb kind,Wq n I] (fun p=>∃cs,Comps (marked n I) (TZ E R kind) cs/\p= .own 90 1 cs.length (cs.map pInts)):=by
 subst hl
 refine AF.b3 156 func232 rfl ntmps232 (Xa rfl) ?_
 rintro w0 M0 v0 _ v2-rfl-
 dsimp only [Jm]
 refine Zi ?_
 refine Yi 3 5 fun h3=>?_;refine ZX ?_
 refine xM (Zc 3 Wy) ?_;refine yU (Zh 3 ZF) fun v18=>?_;refine xL 19 (Zs Zm) (xL 7 ZJ ?_);refine Ym ?_;refine ZN ?_;refine Kz 21 YW fun h21 ho21=>?_;refine KA ?_
 rw [Zkh]
 refine Yq (ι:={k:Nat//k<=l.length}) (fun k=>⟨[(1,_,_),(2,_,_),(3,_,_),(7,_,_),(8,_,_),(9, .int .i64 k.1,Zb k.1)],[(3,_,_),(21,h21, .own 3 1 l.length (HE l.length fun i=>if i<k.1 then i else 0))]⟩) (fun k=>l.length-k.1) ⟨0,Xg _⟩ ?_
 rintro ⟨k,hk⟩
 dsimp only
 have e1:=Zaf l.length (fun i=>if i<k then i else 0)
 refine WJ ?_;refine ZE ?_ ?_<;>intro hb24
 . (
 refine Zi ?_;refine xL 27 Za (xL 28 Za (xL 29 Za (xL 30 (Zj 21 ZS) ?_)));refine JX 21 ZH HB ?_;refine Ym ?_;refine E9 ?_;rw [Zki];refine Yr (
  ⟨k+1,oM⟩
  ))
 . (
 refine ZD ?_;obtain rfl:k=l.length:=oM;rw [Zkj];refine Yq (ι:={x:(Nat->Nat)×Bool//LabOk l.length I (TZ E R kind) x.1/\(x.2=false->Fix l.length I (TZ E R kind) (PU E R kind) x.1)}) (fun k=>⟨[(1,_,_),(2,_,_),(3,_,_),(7,_,_),(8,_,_),(10, .bool k.1.2,Zr k.1.2)],[(3,_,_),(21,h21, .own 3 1 l.length (HE l.length k.1.1))]⟩) (fun k=>sumTo l.length k.1.1+(if k.1.2 then 1 else 0)) ⟨(fun i=>i,true),LabOk.start _ _ _,fun h=>Bool.noConfusion h⟩ ?_;rintro ⟨⟨lab0,ag0⟩,hok0,hfx0⟩;dsimp only;dsimp only at hok0 hfx0;refine Yy ?_ ?_<;>intro hb31
 . (
 refine JR ?_;refine Yq (ι:={x:(Nat->Nat)×Bool×Nat//x.2.2<=l.length/\LabPass l.length I (TZ E R kind) (PU E R kind) lab0 x.1 x.2.1 x.2.2 0}) (fun k=>⟨[(1,_,_),(2,_,_),(3,_,_),(7,_,_),(8,_,_),(10, .bool k.1.2.1,Zr k.1.2.1),(11, .int .i64 k.1.2.2,Zb k.1.2.2)],[(3,_,_),(21,h21, .own 3 1 l.length (HE l.length k.1.1))]⟩) (fun k=>l.length-k.1.2.2) ⟨(lab0,false,0),Xg _,LabPass.start hok0⟩ ?_;rintro ⟨⟨lab1,ag1,a⟩,ha,hp1⟩;dsimp only;dsimp only at ha hp1;refine WJ ?_;refine ZE ?_ ?_<;>intro hb34
 . (
 refine ZD ?_;refine Yq (ι:={x:(Nat->Nat)×Bool×Nat//x.2.2<=l.length/\LabPass l.length I (TZ E R kind) (PU E R kind) lab0 x.1 x.2.1 a x.2.2}) (fun k=>⟨[(1,_,_),(2,_,_),(3,_,_),(7,_,_),(8,_,_),(11,_,_),(10, .bool k.1.2.1,Zr k.1.2.1),(12, .int .i64 k.1.2.2,Zb k.1.2.2)],[(3,_,_),(21,h21, .own 3 1 l.length (HE l.length k.1.1))]⟩) (fun k=>l.length-k.1.2.2) ⟨(lab1,ag1,0),Xg _,hp1⟩ ?_;rintro ⟨⟨lab2,ag2,b⟩,hb,hp2⟩;dsimp only;dsimp only at hb hp2;refine WJ ?_;refine ZE ?_ ?_<;>intro hb39
 . (
 have han:a<l.length:=oM;have hbn:b<l.length:=oM;have i1:=ZZ (fun j=>Zr (I j)) han;have i2:=ZZ (fun j=>Zr (I j)) hbn;have l1:=HG lab2 han;have l2:=HG lab2 hbn;have l3:=Zaf l.length lab2;refine nav ?_;(refine YJ [] [3,21] ?_<;>refine xD 0 rfl Za ?_<;>refine xE 1 rfl Za ?_<;>refine xE 2 rfl LY ?_<;>refine xE 3 rfl Za ?_<;>(refine bDd 45 (fun hb45=>?_) (fun hb45=>?_)<;>(first|refine kD 4 ?_|refine xD 4 rfl Za ?_))<;>(first|refine kD 5 ?_|refine xD 5 rfl Za ?_)<;>(first|refine kD 6 ?_|refine xD 6 rfl (Ze ZI) ?_)<;>(first|refine kD 7 ?_|(refine yD 7 rfl (Zu ZT) fun v49 h=>?_;cases h))<;>refine xE 8 rfl YY ?_<;>refine xE 9 rfl Za ?_<;>(first|refine kD 10 ?_|(refine bD 51 (fun hb51=>?_) (fun hb51=>?_)<;>(first|refine kD 10 ?_|refine xD 10 rfl Za ?_)))<;>(first|refine kD 11 ?_|refine xD 11 rfl Za ?_)<;>(first|refine kD 12 ?_|refine xD 12 rfl (Ze ZI) ?_)<;>(first|refine kD 13 ?_|(refine yD 13 rfl (Zu ZT) fun v55 h=>?_;cases h))<;>refine xE 14 rfl YY ?_<;>refine xE 15 rfl Za ?_<;>(first|refine kD 16 ?_|(refine bD 57 (fun hb57=>?_) (fun hb57=>?_)<;>(first|refine kD 16 ?_|refine xD 16 rfl Za ?_)))<;>(first|refine kD 17 ?_|refine xD 17 rfl Za ?_)<;>(first|refine kD 18 ?_|refine xD 18 rfl (Zj 21 ZS) ?_)<;>(first|refine kD 19 ?_|(refine yD 19 rfl (Zh 21 ZH) fun v61 h=>?_;cases h))<;>(first|refine kD 20 ?_|refine xD 20 rfl Za ?_)<;>(first|refine kD 21 ?_|refine xD 21 rfl Za ?_)<;>(first|refine kD 22 ?_|refine xD 22 rfl (Zj 21 ZS) ?_)<;>(first|refine kD 23 ?_|(refine yD 23 rfl (Zh 21 ZH) fun v65 h=>?_;cases h))<;>(first|refine kD 24 ?_|refine xD 24 rfl Yj ?_)<;>refine xE 25 rfl YY ?_<;>refine xE 26 rfl Za ?_<;>(first|refine kD 27 ?_|(refine bDd 68 (fun hb68=>?_) (fun hb68=>?_)<;>(first|refine kD 27 ?_|(refine yD 27 rfl (Zn 3 YX) fun v69 h=>?_;cases h))))<;>(first|refine kD 28 ?_|refine xD 28 rfl Za ?_)<;>(first|refine kD 29 ?_|refine xD 29 rfl Za ?_)<;>(first|refine kD 30 ?_|refine xD 30 rfl Za ?_)<;>(refine ZY 31 kR ?_)<;>(first|(refine Yo (d:=73) rfl (cA call270 (Co l l.length E R S F kind a b han hbn)) fun v73 h=>?_;cases h)|(refine aWr fun bk=>?_;refine kL ?_;refine bE bk ?_))<;>refine xE 32 rfl YY ?_<;>refine WE ?_)<;>(
 refine Ja (fun x:{x:(Nat->Nat)×Bool//LabPass l.length I (TZ E R kind) (PU E R kind) lab0 x.1 x.2 a b/\(x.2=false->a≠b->I a=true->I b=true->PU E R kind a b=true->¬x.1 a<x.1 b)}=>⟨[(1, .int .i64 kind,Zb kind),(2,v2,Wq l.length I),(3,padd (sbase h3) 0, .val (padd (sbase h3) 0)),(7, .int .i64 (l.length:Nat),Zb (l.length:Nat)),(8,h21, .val h21),(10, .bool x.1.2,Zr x.1.2),(11, .int .i64 a,Zb a),(12, .int .i64 b,Zb b)],[(3,h3, .own 259 5 1 (Jm l l.length E R S F)),(21,h21, .own 3 1 l.length (HE l.length x.1.1))]⟩) ?_ ?_
 . refine cX ?_ ?_<;>intro hb74
   . first |exact bN hb74|(
 refine Zi ?_;refine xL 75 Za (xL 76 Za (xL 77 Za (xL 78 Za (xL 79 (Zj 21 ZS) ?_))));refine yV (Zh 21 ZH) ?_;refine xM (Zj 21 ZS) ?_;refine JX 21 ZH HB ?_;refine Ym ?_;refine ZP ?_
 first
  | (rw [HH]
     exact YF ⟨(upd lab2 b (lab2 a),true),hp2.push han hbn hb51 hb57 oM (.inl (by rw [R6];exact hb74)) a b,fun h=>Bool.noConfusion h⟩ sB sB)
  | exact YF ⟨(lab2,ag2),hp2,fun _ g1 g2 g3 g4 g5=>by
     first
      |exact g1 oM
      |(rw [hb51] at g2;exact Qd g2 dC)
      |(rw [hb57] at g3;exact Qd g3 dC)
      |(have g6:lab2 a<lab2 b:=g5;omega)
      |(rw [hb74] at g4;exact Qd g4 dC)⟩ sB sB)
   . (
 refine nav ?_
 first
  | (rw [HH]
     exact YF ⟨(upd lab2 b (lab2 a),true),hp2.push han hbn hb51 hb57 oM (.inl (by rw [R6];exact hb74)) a b,fun h=>Bool.noConfusion h⟩ sB sB)
  | exact YF ⟨(lab2,ag2),hp2,fun _ g1 g2 g3 g4 g5=>by
     first
      |exact g1 oM
      |(rw [hb51] at g2;exact Qd g2 dC)
      |(rw [hb57] at g3;exact Qd g3 dC)
      |(have g6:lab2 a<lab2 b:=g5;omega)
      |(rw [hb74] at g4;exact Qd g4 dC)⟩ sB sB)
 . rintro ⟨⟨lab,ag⟩,hp,hg⟩;dsimp only at hp hg ⊢;dsimp only [Jm];have k1:=HG lab han;have k2:=HG lab hbn;have k3:=Zaf l.length lab;refine nav ?_;(refine YJ [] [3,21] ?_<;>refine xD 0 rfl Za ?_<;>refine xE 1 rfl Za ?_<;>refine xE 2 rfl LY ?_<;>refine xE 3 rfl Za ?_<;>(refine bDd 85 (fun hb85=>?_) (fun hb85=>?_)<;>(first|refine kD 4 ?_|refine xD 4 rfl Za ?_))<;>(first|refine kD 5 ?_|refine xD 5 rfl Za ?_)<;>(first|refine kD 6 ?_|refine xD 6 rfl (Ze ZI) ?_)<;>(first|refine kD 7 ?_|(refine yD 7 rfl (Zu ZT) fun v89 h=>?_;cases h))<;>refine xE 8 rfl YY ?_<;>refine xE 9 rfl Za ?_<;>(first|refine kD 10 ?_|(refine bD 91 (fun hb91=>?_) (fun hb91=>?_)<;>(first|refine kD 10 ?_|refine xD 10 rfl Za ?_)))<;>(first|refine kD 11 ?_|refine xD 11 rfl Za ?_)<;>(first|refine kD 12 ?_|refine xD 12 rfl (Ze ZI) ?_)<;>(first|refine kD 13 ?_|(refine yD 13 rfl (Zu ZT) fun v95 h=>?_;cases h))<;>refine xE 14 rfl YY ?_<;>refine xE 15 rfl Za ?_<;>(first|refine kD 16 ?_|(refine bD 97 (fun hb97=>?_) (fun hb97=>?_)<;>(first|refine kD 16 ?_|refine xD 16 rfl Za ?_)))<;>(first|refine kD 17 ?_|refine xD 17 rfl Za ?_)<;>(first|refine kD 18 ?_|refine xD 18 rfl (Zj 21 ZS) ?_)<;>(first|refine kD 19 ?_|(refine yD 19 rfl (Zh 21 ZH) fun v101 h=>?_;cases h))<;>(first|refine kD 20 ?_|refine xD 20 rfl Za ?_)<;>(first|refine kD 21 ?_|refine xD 21 rfl Za ?_)<;>(first|refine kD 22 ?_|refine xD 22 rfl (Zj 21 ZS) ?_)<;>(first|refine kD 23 ?_|(refine yD 23 rfl (Zh 21 ZH) fun v105 h=>?_;cases h))<;>(first|refine kD 24 ?_|refine xD 24 rfl Yj ?_)<;>refine xE 25 rfl YY ?_<;>refine xE 26 rfl Za ?_<;>(first|refine kD 27 ?_|(refine bDd 108 (fun hb108=>?_) (fun hb108=>?_)<;>(first|refine kD 27 ?_|(refine yD 27 rfl (Zn 3 YX) fun v109 h=>?_;cases h))))<;>(first|refine kD 28 ?_|refine xD 28 rfl Za ?_)<;>(first|refine kD 29 ?_|refine xD 29 rfl Za ?_)<;>(first|refine kD 30 ?_|refine xD 30 rfl Za ?_)<;>(refine ZY 31 kR ?_)<;>(first|(refine Yo (d:=113) rfl (cA call270 (Co l l.length E R S F kind a b han hbn)) fun v113 h=>?_;cases h)|(refine aWr fun bk=>?_;refine kL ?_;refine bE bk ?_))<;>refine xE 32 rfl YY ?_<;>refine WE ?_)<;>(
 refine cX ?_ ?_<;>intro hb114
 . first | exact bN hb114|(
 refine Zi ?_;refine xL 115 Za (xL 116 Za (xL 117 Za (xL 118 Za (xL 119 (Zj 21 ZS) ?_))));refine yV (Zh 21 ZH) ?_;refine xM (Zj 21 ZS) ?_;refine JX 21 ZH HB ?_;refine Ym ?_;refine K5 ?_;try rw [HH]
 first
  | (exact Zf (
      ⟨(upd lab a (lab b),true,b+1),by show b+1<=l.length;omega,hp.push hbn han hb97 hb91 oM (.inr (by rw [R6];exact hb114)) a (b+1)⟩
      ) (by show l.length-(b+1)<l.length-b;omega) sB sB)
  | (exact Zf (
      ⟨(lab,ag,b+1),by show b+1<=l.length;omega,hp.on fun hag g1 g2 g3 g4=>by
        have g6:¬lab a<lab b:=hg hag g1 g2 g3 g4
        first
         |exact Qd rfl oM
         |(rw [hb91] at g2;exact Qd g2 dC)
         |(rw [hb97] at g3;exact Qd g3 dC)
         |omega
         |(rw [hb114] at g4;exact Qd g4 dC)⟩
      ) (by show l.length-(b+1)<l.length-b;omega) sB sB))
 . (
 refine Y2 ?_;try rw [HH]
 first
  | (exact Zf (
      ⟨(upd lab a (lab b),true,b+1),by show b+1<=l.length;omega,hp.push hbn han hb97 hb91 oM (.inr (by rw [R6];exact hb114)) a (b+1)⟩
      ) (by show l.length-(b+1)<l.length-b;omega) sB sB)
  | (exact Zf (
      ⟨(lab,ag,b+1),by show b+1<=l.length;omega,hp.on fun hag g1 g2 g3 g4=>by
        have g6:¬lab a<lab b:=hg hag g1 g2 g3 g4
        first
         |exact Qd rfl oM
         |(rw [hb91] at g2;exact Qd g2 dC)
         |(rw [hb97] at g3;exact Qd g3 dC)
         |omega
         |(rw [hb114] at g4;exact Qd g4 dC)⟩
      ) (by show l.length-(b+1)<l.length-b;omega) sB sB)))))
 . (
 refine Y2 ?_;refine Zf (
  ⟨(lab2,ag2,a+1),by show a+1<=l.length;omega,by rw [show b=l.length by omega] at hp2;exact hp2.row⟩
  ) (by show l.length-(a+1)<l.length-a;omega) sB sB))
 . (
 refine nav ?_;refine Zf (
  ⟨(lab1,ag1),hp1.ok,fun hg=>by
    have:a=l.length:=oM;subst this;subst hg;exact hp1.fix⟩
  ) (by show sumTo l.length lab1+(if ag1 then 1 else 0)<sumTo l.length lab0+(if ag0 then 1 else 0);rw [show ag0=true from hb31];exact hp1.less) sB sB))
 . (
 refine JR ?_;have hfx:=hfx0 hb31;refine Zq (YS 200 90 1 rfl) fun _=>?_;refine Yq (ι:={x:Nat×Value//x.1<=l.length}) (fun k=>⟨[(2,_,_),(7,_,_),(8,_,_),(13,k.1.2, .val k.1.2),(14, .int .i64 k.1.1,Zb k.1.1)],[(21,_,_),(200,k.1.2, .own 90 1 (LX l.length I lab0 k.1.1).length ((LX l.length I lab0 k.1.1).map pInts))]⟩) (fun k=>l.length-k.1.1) ⟨(0, .slice none 0 0),Xg _⟩ ?_;rintro ⟨⟨c,hov⟩,hc⟩;dsimp only;dsimp only at hc;have hcsl:=Zm7 l.length I lab0 c;refine WJ ?_;refine ZE ?_ ?_<;>intro hb124
 . (
 refine JR ?_;refine Zq (YS 201 3 1 rfl) fun _=>?_;refine Yq (ι:={x:Nat×Value//x.1<=l.length/\x.2.oneCell'=true}) (fun k=>⟨[(2,_,_),(7,_,_),(8,_,_),(13,_,_),(14,_,_),(15,k.1.2, .val k.1.2),(16, .int .i64 k.1.1,Zb k.1.1)],[(21,_,_),(200,_,_),(201,k.1.2, .own 3 1 (cls k.1.1 I lab0 c).length ((cls k.1.1 I lab0 c).map Zb))]⟩) (fun k=>l.length-k.1.1) ⟨(0, .slice none 0 0),Xg _,rfl⟩ ?_;rintro ⟨⟨i,hlv⟩,hi,hlo⟩;dsimp only;dsimp only at hi hlo;have hcll:=Zpw i I lab0 c;refine WJ ?_;refine ZE ?_ ?_<;>intro hb129
 . (
 have hin:i<l.length:=oM;have j1:=ZZ (fun j=>Zr (I j)) hin;have j2:=HG lab0 hin;have s1:=Zag i I lab0 c;have j3:((cls i I lab0 c).map Zb).length=(cls i I lab0 c).length:=Xc _;refine Zi ?_;(refine xL 132 Za (xL 133 Za (xL 134 (Ze ZI) ?_))<;>refine yV (Zu ZT) ?_<;>refine ZN ?_<;>(refine bL 136 (fun hb136=>?_) (fun hb136=>?_)<;>refine kZ ?_)<;>refine kZ ?_<;>(first|refine kL ?_|refine xM (Zj 21 ZS) ?_)<;>(first|refine kL ?_|refine yV (Zh 21 ZH) ?_)<;>refine kZ ?_<;>refine kZ ?_<;>refine ZN ?_<;>refine Zw ?_)<;>(
 refine cX ?_ ?_<;>intro hb143
 . first |exact bN hb143|(
 refine KL ?_;refine WC (kk:=1) 146 YW fun h146 ho146=>?_;refine Wc 201 146 147 YW fun h147 ho147=>?_;refine K5 ?_;try refine ZK (ZM (l:=147) 201 rfl rfl) fun _=>?_
 try rw [show (cls i I lab0 c).map Zb++[Zb (i:Nat)]=(cls (i+1) I lab0 c).map Zb by rw [s1,Qc ⟨hb136,oM⟩,XW];rfl,show (cls i I lab0 c).length+1=(cls (i+1) I lab0 c).length by rw [s1,Qc ⟨hb136,oM⟩,Xf];rfl]
 try rw [<-Zim (lab:=lab0) (c:=c) hb136]
 try rw [<-Zin (I:=I) hb143]
 first
  | (exact Zf (
      ⟨(i+1,h147),by show i+1<=l.length;omega,ho147⟩
      ) (by show l.length-(i+1)<l.length-i;omega) sB sB)
  | (exact Zf (
      ⟨(i+1,hlv),by show i+1<=l.length;omega,hlo⟩
      ) (by show l.length-(i+1)<l.length-i;omega) sB sB))
 . (
 refine Y2 ?_;try refine ZK (ZM (l:=147) 201 rfl rfl) fun _=>?_
 try rw [show (cls i I lab0 c).map Zb++[Zb (i:Nat)]=(cls (i+1) I lab0 c).map Zb by rw [s1,Qc ⟨hb136,oM⟩,XW];rfl,show (cls i I lab0 c).length+1=(cls (i+1) I lab0 c).length by rw [s1,Qc ⟨hb136,oM⟩,Xf];rfl]
 try rw [<-Zim (lab:=lab0) (c:=c) hb136]
 try rw [<-Zin (I:=I) hb143]
 first
  | (exact Zf (
      ⟨(i+1,h147),by show i+1<=l.length;omega,ho147⟩
      ) (by show l.length-(i+1)<l.length-i;omega) sB sB)
  | (exact Zf (
      ⟨(i+1,hlv),by show i+1<=l.length;omega,hlo⟩
      ) (by show l.length-(i+1)<l.length-i;omega) sB sB))))
 . (
 refine nav ?_;have hil:i=l.length:=oM;subst hil;have s2:=ZbW l.length c I lab0;have j4:((LX l.length I lab0 c).map pInts).length=(LX l.length I lab0 c).length:=Xc _;refine Zo ?_;refine xL 148 Za (xL 149 (WB 201 ZS) (xL 150 Jw ?_));refine ZE ?_ ?_<;>intro hb150
 . (
 refine KL ?_;refine WC (kk:=1) 153 Yv fun h153 ho153=>?_;refine Wc 200 153 154 Yv fun h154 ho154=>?_;refine K5 ?_;try refine ZK (YD (l:=154) (l':=201) (j:=(LX l.length I lab0 c).length) rfl (Gr (Xc _).symm) rfl rfl) fun _=>?_
 try rw [JI (Xc _).symm,W6 _ _ _ rfl]
 try rw [show (LX l.length I lab0 c).map pInts++[pInts (cls l.length I lab0 c)]=(LX l.length I lab0 (c+1)).map pInts by rw [s2,Qb (by intro e;rw [e] at hb150;exact Qd hb150 dC),XW];rfl,show (LX l.length I lab0 c).length+1=(LX l.length I lab0 (c+1)).length by rw [s2,Qb (by intro e;rw [e] at hb150;exact Qd hb150 dC),Xf];rfl]
 try refine ZK (ZM (l:=154) 200 rfl rfl) fun _=>?_
 try rw [show LX l.length I lab0 c=LX l.length I lab0 (c+1) by rw [s2,Qc (Xv oM),Xo]]
 first
  | (exact Zf (
      ⟨(c+1,h154),by show c+1<=l.length;omega⟩
      ) (by show l.length-(c+1)<l.length-c;omega) sB sB)
  | (exact Zf (
      ⟨(c+1,hov),by show c+1<=l.length;omega⟩
      ) (by show l.length-(c+1)<l.length-c;omega) sB sB))
 . (
 refine Y2 ?_;try refine ZK (YD (l:=154) (l':=201) (j:=(LX l.length I lab0 c).length) rfl (Gr (Xc _).symm) rfl rfl) fun _=>?_
 try rw [JI (Xc _).symm,W6 _ _ _ rfl]
 try rw [show (LX l.length I lab0 c).map pInts++[pInts (cls l.length I lab0 c)]=(LX l.length I lab0 (c+1)).map pInts by rw [s2,Qb (by intro e;rw [e] at hb150;exact Qd hb150 dC),XW];rfl,show (LX l.length I lab0 c).length+1=(LX l.length I lab0 (c+1)).length by rw [s2,Qb (by intro e;rw [e] at hb150;exact Qd hb150 dC),Xf];rfl]
 try refine ZK (ZM (l:=154) 200 rfl rfl) fun _=>?_
 try rw [show LX l.length I lab0 c=LX l.length I lab0 (c+1) by rw [s2,Qc (Xv oM),Xo]]
 first
  | (exact Zf (
      ⟨(c+1,h154),by show c+1<=l.length;omega⟩
      ) (by show l.length-(c+1)<l.length-c;omega) sB sB)
  | (exact Zf (
      ⟨(c+1,hov),by show c+1<=l.length;omega⟩
      ) (by show l.length-(c+1)<l.length-c;omega) sB sB))))
 . (
 refine ZU ?_;have hcl:c=l.length:=oM;subst hcl;exact Ga 200 (results232) rfl rfl ⟨_,hfx.comps fun a b _ _ _ _ _ h=>Zrc h,rfl⟩)))
end Go.Proofs.YtmkojdfiadbeeaaGreat
namespace Go.En
open Go.RowKit Go.Cb
theorem Zpx {P:Program} {st:St} {o:Oper} {x y:Operand} {t t':TypeId} {a b:Int} {q q':PV} (ho:o.op= .call {callee:= .builtin .min,args:= #[x,y],argTypes:= #[t,t']}:=by exact rfl) (hx:ev st.slots x=some (.int .i64 a,q):=by exact rfl) (hy:ev st.slots y=some (.int .i64 b,q'):=by exact rfl):YE P st o (· = .int .i64 (if b<a then b else a)) (.val (.int .i64 (if b<a then b else a))):=
 y2 hx hy fun ρ w h1 h2=>by
  simp [execOp,ho,h1,h2,resolve,invoke,builtin,Builtin.min_,Builtin.min2]
theorem Zio {sL hP:List (Nat×Ent)} (l:Nat):L8 (⟨sL,hP⟩:St) (fun _:Unit=>⟨sL,del l hP⟩):=fun _ _ _ ⟨F,H⟩=>⟨(),F,H.less (fun _ _ h=>h) (fun _ _ h=>(Wu h).2)⟩
end Go.En
namespace Go.Proofs.YtmkojdfiadbeeaaGreat
open Go.RowKit Go.Cb Go.En Tryz
theorem Zkk {c:List Int} (h:c.Nodup) (n:Nat):(Kf n c).length<=c.length:=JH ((R5 h n).imp fun h=>oM) fun x hx=>(R4.1 hx).1
theorem Db (l:List (List Int)):(l.map pInts).all En.one=true:=by rw [VI,Xj];intro x _;rfl
theorem Gu (e n:Nat) (cs:List PV) (l:List (List Int)) (h1:cs=l.map pInts) (h2:n=l.length):share (.own e 1 n cs)=KR l:=by rw [h1];exact KJ e n l h2
theorem Zkl (l:List BA) (n:Nat) (E R:Nat->Nat->Bool) (S F:Nat->Bool) (kind:Int) (cs:List (List Int)) (h:cs.length<2):AF prog 230 [.agg (Jm l n E R S F),Zb kind,KR cs] (· = .tup [.agg [Zb 0, .val (.slice none 0 0)],Zr false]):=by
 refine AF.b3 65 func230 rfl ntmps230 (Xa rfl) ?_
 rintro w0 M0 v0 _ v2-rfl-
 dsimp only [Jm]
 refine Zi ?_
 refine Yi 3 5 fun h3=>?_;refine Zt [(.int .i64 0),(.slice none 0 0)] 2 6 WW fun h6=>?_;refine ZX ?_
 refine xL 13 Za (xL 14 (Zs ZQ) (xL 15 Yj ?_));refine ZE ?_ ?_<;>intro hb15
 . refine Zi ?_;refine xM (ZC Tm) ?_;refine Zp 6 Z6 ?_;refine ZP ?_;exact Yb (k:=2) 6 kR (results230) rfl rfl rfl (Xa rfl) dC rfl rfl
 . exfalso;omega
theorem Zkm (l : List BA) (n:Nat) (E R:Nat->Nat->Bool) (S F:Nat->Bool) (kind:Int) (cs:List (List Int)) (hl:l.length=n) (hn:n<=1000) (h:2<=cs.length) (hcs:∀c∈cs,c.Nodup/\c.length<=1000) (hcl:cs.length<=1000000):AF prog 230 [.agg (Jm l n E R S F),Zb kind,KR cs] (· = .tup [Pf ⟨kind,ZA l (cs.map (Kf n))⟩,Zr true]):=by
 subst hl
 refine AF.b3 65 func230 rfl ntmps230 (Xa rfl) ?_
 rintro w0 M0 v0 _ v2-rfl-
 dsimp only [Jm]
 refine Zi ?_
 refine Yi 3 5 fun h3=>?_;refine Zt [(.int .i64 0),(.slice none 0 0)] 2 6 WW fun h6=>?_;refine ZX ?_
 refine xL 13 Za (xL 14 (Zs ZQ) (xL 15 Yj ?_));refine ZE ?_ ?_<;>intro hb15
 . exfalso;omega
 . refine Zi ?_;refine xL 17 Za (xL 18 (ZC Tm) ?_);refine Zt [(.int .i64 0),(.slice none 0 0)] 2 8 WW fun h8=>?_;refine Zp 8 Z6 ?_;refine Ym ?_;refine ZP ?_;refine Zq (YS 200 26 1 rfl) fun _=>?_;refine Yq (ι:={x:Nat×Value//x.1<=cs.length}) (fun k=>⟨[(2,_,_),(3,_,_),(6,_,_),(8,_,_),(9, .int .i64 k.1.1,Zb k.1.1)],[(3,_,_),(6,_,_),(8,h8, .own 42 2 1 [Zb kind, .val k.1.2]),(200,k.1.2, .own 26 1 k.1.1 (((ZA l (cs.map (Kf l.length))).take k.1.1).map ZW))]⟩) (fun k=>cs.length-k.1.1) ⟨(0, .slice none 0 0),Xg _⟩ ?_;rintro ⟨⟨i,h55⟩,hi⟩;dsimp only;dsimp only at hi;refine Zi ?_;refine xL 19 Za (xL 20 Za (xL 21 (Zs ZQ) (xL 22 Yj ?_)));refine ZE ?_ ?_<;>intro hb22
   . (
 obtain ⟨cl,hx⟩:=gS cs i;have e1:=Yh (f:=pInts) hx;have hxc:=hcs cl (Xb hx);(have hpt:(ZA l (cs.map (Kf l.length)))[i]? =some ((Kf l.length cl).map (Wm l)):=by unfold ZA;rw [Xl,Xl,hx];rfl);(have e2:(((ZA l (cs.map (Kf l.length))).take i).map ZW).length=i:=by unfold ZA;simp;omega);refine JR ?_;refine Zq (YS 201 9 1 rfl) fun _=>?_;refine Yq (ι:={x:Nat×Value×List Int//x.1<=l.length/\x.2.1.oneCell'=true/\x.2.2=Kf x.1 cl}) (fun k=>⟨[(2,_,_),(3,_,_),(6,_,_),(8,_,_),(9,_,_),(10,k.1.2.1, .val k.1.2.1),(11, .int .i64 k.1.1,Zb k.1.1)],[(3,_,_),(6,_,_),(8,_,_),(200,_,_),(201,k.1.2.1, .own 9 1 k.1.2.2.length ((k.1.2.2.map (Wm l)).map Zv))]⟩) (fun k=>l.length-k.1.1) ⟨(0, .slice none 0 0,[]),Xg _,rfl,rfl⟩ ?_;rintro ⟨⟨q,h66,A⟩,hq,ho66,hA⟩;dsimp only;dsimp only at hq ho66 hA;(have hAl:A.length<=cl.length:=by rw [hA];exact Zkk hxc.1 q);refine Zi ?_;refine xL 25 Za (xL 26 (Zc 3 Wy) ?_);refine yU (Zh 3 ZF) fun v27=>?_;refine xL 28 (Zs Zm) (xL 29 Yj ?_);refine ZE ?_ ?_<;>intro hb29
 . (
 have hqn:q<l.length:=oM;have e5:=Zih (l:=l) (x:=(q:Int)) oM;rw [XG] at e5;refine ZD ?_;refine Yq (ι:={x:Nat×Value×List Int//x.1<=cl.length/\x.2.1.oneCell'=true/\x.2.2=A++(cl.take x.1).filter fun x=>decide (x=(q:Int))}) (fun k=>⟨[(2,_,_),(3,_,_),(6,_,_),(8,_,_),(9,_,_),(11,_,_),(10,k.1.2.1, .val k.1.2.1),(12, .int .i64 k.1.1,Zb k.1.1)],[(3,_,_),(6,_,_),(8,_,_),(200,_,_),(201,k.1.2.1, .own 9 1 k.1.2.2.length ((k.1.2.2.map (Wm l)).map Zv))]⟩) (fun k=>cl.length-k.1.1) ⟨(0,h66,A),Xg _,ho66,(Xo A).symm⟩ ?_;rintro ⟨⟨j,h67,B⟩,hj,ho67,hB⟩;dsimp only;dsimp only at hj ho67 hB;have hBl:B.length<=2000:=by
  have:=VC (fun x:Int=>decide (x=(q:Int))) (cl.take j);rw [XE] at this;rw [hB,Xf];omega
 (have hBm:((B.map (Wm l)).map Zv).length=B.length:=by rw [Xc,Xc]);refine Zi ?_;refine xL 32 Za (xL 33 Za (xL 34 Za (xL 35 (Ze ZQ) ?_)));refine yU (Zu YA) fun v36=>?_;refine xL 37 (Zs ZS) (xL 38 Yj ?_);refine ZE ?_ ?_<;>intro hb38
 . (
 obtain ⟨z,hz⟩:=gS cl j;have e3:=Yh (f:=Zb) hz;have s1:(cl.take (j+1)).filter (fun x=>decide (x=(q:Int)))=(cl.take j).filter (fun x=>decide (x=(q:Int)))++(if decide (z=(q:Int))=true then [z] else []):=GH (p:=fun x:Int=>decide (x=(q:Int))) hz;refine Zi ?_;refine xL 41 Za (xL 42 Za (xL 43 (Ze ZQ) ?_));refine yU (Zu YA) fun v44=>?_;refine xL 45 Za (xL 46 (Ze ZS) ?_);refine yV (Zu ZH) ?_;refine WZ ?_ ?_<;>intro hb49
 . (
 refine Zi ?_;refine xL 50 Za (xL 51 (Zc 3 Wy) ?_);refine yU (Zh 3 ZF) fun v52=>?_;refine xL 53 Za (xL 54 (Ze Zm) ?_);refine yV (Zu ZB) ?_;refine WC (kk:=1) 56 YV fun h56 ho56=>?_;refine Wc 201 56 57 YV fun h57 ho57=>?_;refine K5 ?_;try refine ZK (ZM (l:=57) 201 rfl rfl) fun _=>?_
 try rw [show (B.map (Wm l)).map Zv++[Zv (Wm l (q:Int))]=((B++[z]).map (Wm l)).map Zv by rw [show z=(q:Int) by omega];simp,show B.length+1=(B++[z]).length by simp]
 first
  | (exact Zf (
      ⟨(j+1,h57,B++[z]),by show j+1<=cl.length;omega,ho57,by show B++[z]=_;rw [s1,Qc (U' oM),hB,XH]⟩
      ) (by show cl.length-(j+1)<cl.length-j;omega) sB sB)
  | (exact Zf (
      ⟨(j+1,h67,B),by show j+1<=cl.length;omega,ho67,by show B=_;rw [s1,Qb (by rw [Qa oM];decide),Xo,hB]⟩
      ) (by show cl.length-(j+1)<cl.length-j;omega) sB sB))
 . (
 refine Y2 ?_;try refine ZK (ZM (l:=57) 201 rfl rfl) fun _=>?_
 try rw [show (B.map (Wm l)).map Zv++[Zv (Wm l (q:Int))]=((B++[z]).map (Wm l)).map Zv by rw [show z=(q:Int) by omega];simp,show B.length+1=(B++[z]).length by simp]
 first
  | (exact Zf (
      ⟨(j+1,h57,B++[z]),by show j+1<=cl.length;omega,ho57,by show B++[z]=_;rw [s1,Qc (U' oM),hB,XH]⟩
      ) (by show cl.length-(j+1)<cl.length-j;omega) sB sB)
  | (exact Zf (
      ⟨(j+1,h67,B),by show j+1<=cl.length;omega,ho67,by show B=_;rw [s1,Qb (by rw [Qa oM];decide),Xo,hB]⟩
      ) (by show cl.length-(j+1)<cl.length-j;omega) sB sB)))
 . (
 refine Y2 ?_;refine Zf (
  ⟨(q+1,h67,B),by show q+1<=l.length;omega,ho67,by show B=_;rw [Zab,hB,hA,Xt oM]⟩
  ) (by show l.length-(q+1)<l.length-q;omega) sB sB))
 . (
 refine Zi ?_;refine xM (Zc 8 KH) ?_;refine yV (Zh 8 JG) ?_;refine ZN ?_;refine WC (kk:=1) 61 O' fun h61 ho61=>?_;refine Wc 200 61 62 O' fun h62 ho62=>?_;refine xM (Zc 8 KH) ?_;refine JX 8 JG ZbR ?_;refine Ym ?_;refine E9 ?_;refine ZK (YD (l:=62) (l':=201) (j:=i) rfl (Gr e2.symm) rfl rfl) fun _=>?_;rw [show A=Kf l.length cl by rw [hA,show q=l.length by omega]];rw [JI e2.symm,show (Kf l.length cl).length=((Kf l.length cl).map (Wm l)).length by rw [Xc],JW];rw [show ((ZA l (cs.map (Kf l.length))).take i).map ZW++[PV.sl ((Kf l.length cl).map (Wm l)).length (((Kf l.length cl).map (Wm l)).map Zv)]=((ZA l (cs.map (Kf l.length))).take (i+1)).map ZW by rw [Z2 hpt,XW];rfl];refine ZK (ZM (l:=62) 200 rfl rfl) fun _=>?_;refine Zf (
  ⟨(i+1,h62),by show i+1<=cs.length;omega⟩
  ) (by show cs.length-(i+1)<cs.length-i;omega) sB sB))
   . (
 refine nav ?_;rw [show i=(ZA l (cs.map (Kf l.length))).length by unfold ZA;rw [Xc,Xc];omega,Xx];refine Zq (YD (l:=8) (l':=200) (j:=1) rfl rfl rfl rfl) fun _=>?_;rw [Cn _ _ _ rfl];refine Zo ?_;refine yU (Zn 8 Z6) fun v64=>?_;refine Zp 6 Z6 ?_;refine ZP ?_;exact Yb (k:=2) 6 kR (results230) rfl rfl rfl (Xa rfl) dC rfl rfl)
def DI (R:Nat->Nat->Bool) (c d:List Int):Prop:=R (YK c).toNat (YK d).toNat=true
theorem Dp {α:Type} {cs out:List α} {i:Nat} (h:out.Perm (cs.take i)):∀x∈out,x∈cs:=fun x hx=>V7 (h.mem_iff.1 hx)
theorem Zc9 {c:List Int} (h:c≠[]):(c.map Zb)[0*1]? =some (Zb (YK c)):=by
 cases c with
 |nil=>exact Qd rfl h
 |cons z t=>rfl
theorem ZgN (l:List BA) (n:Nat) (E R:Nat->Nat->Bool) (S F:Nat->Bool) (cs:List (List Int)) (hn:n<=1000) (hne:∀c∈cs,c≠[]/\∀x∈c,0<=x/\x<n) (hcl:cs.length<=1000) (hap:cs.Pairwise fun c d=>R (YK c).toNat (YK d).toNat≠R (YK d).toNat (YK c).toNat) (htr:∀c∈cs,∀d∈cs,∀e∈cs,DI R c d->DI R d e->DI R c e):AF prog 231 [.agg (Jm l n E R S F),KR cs] (fun p=>∃out,out.Perm cs/\out.Pairwise (DI R)/\p=KR out):=by
 refine AF.b2 59 func231 rfl ntmps231 (Xa rfl) fun w0 M0 v0 v1 _ _=>?_
 dsimp only [Jm]
 refine Zi ?_
 refine Yi 2 5 fun h2=>?_;refine ZX ?_;refine KA ?_
 refine Zq (YS 200 90 1 rfl) fun _=>?_
 refine Zq (En.freeze (l:=200) (t:=5) rfl rfl) fun _=>?_
 rw [Gu _ _ _ [] (by rfl) (by rfl)]
 refine Yq (ι:={x:Nat×Value×List (List Int)//x.1<=cs.length/\x.2.2.Perm (cs.take x.1)/\x.2.2.Pairwise (DI R)}) (fun k=>⟨[(1,_,_),(2,_,_),(5,k.1.2.1,KR k.1.2.2),(6, .int .i64 k.1.1,Zb k.1.1)],[(2,_,_)]⟩) (fun k=>cs.length-k.1.1) ⟨(0, .slice none 0 0,[]),Xg _, .refl _,List.Pairwise.nil⟩ ?_
 rintro ⟨⟨i,hov,out⟩,hi,hperm,hsort⟩
 dsimp only
 dsimp only at hi hperm hsort
 have hol:out.length<=1000:=by rw [hperm.length_eq,XE];omega
 refine Zi ?_
 refine xL 9 Za (xL 10 Za (xL 11 (Zs ZQ) (xL 12 Yj ?_)));refine ZE ?_ ?_<;>intro hb12
 . (
 obtain ⟨c,hx⟩:=gS cs i;have e1:=Yh (f:=pInts) hx;have hcm:=Xb hx;have hc0:=hne c hcm;have e2:=Zc9 hc0.1;have hcb:=hc0.2 _ (JK hc0.1);have hcl0:=X5.2 hc0.1;have hom:=Dp hperm;have hapc:∀x∈out,R (YK x).toNat (YK c).toNat≠R (YK c).toNat (YK x).toNat:=fun x hxo=>by
  obtain ⟨j,hj⟩:=XM (hperm.mem_iff.1 hxo);have hjl:=Zd hj;rw [XE] at hjl;rw [X1 oM] at hj;have:=XV.1 hap j i (Zd hj) (Zd hx) oM;rw [(Xk.1 hj).2,(Xk.1 hx).2] at this;exact this
 refine ZD ?_;refine Yq (ι:={k:Nat//k<=out.length/\∀j x,j<k->out[j]? =some x->DI R x c}) (fun k=>⟨[(1,_,_),(2,_,_),(5,_,_),(6,_,_),(7, .int .i64 k.1,Zb k.1)],[(2,_,_)]⟩) (fun k=>out.length-k.1) ⟨0,Xg _,fun j x h=>Qd h (Vo j)⟩ ?_;rintro ⟨k,hk,hkp⟩;dsimp only;obtain ⟨d,hdd⟩:∃d,d=out[k]?.getD c:=⟨_,rfl⟩;(have hd:k<out.length->out[k]? =some d:=fun h=>by obtain ⟨y,hy⟩:=get_some h;rw [hdd,hy];rfl);have hdm:d∈cs:=by
  rw [hdd]
  cases ho:out[k]? with
  |none=>exact hcm
  |some y=>exact hom y (Xb ho)
 have e3:k<out.length->(out.map pInts)[k*1]? =some (pInts d):=fun h=>Yh (f:=pInts) (hd h);have hd0:=hne d hdm;have e4:=Zc9 hd0.1;have hdb:=hd0.2 _ (JK hd0.1);have hdl0:=X5.2 hd0.1;have e5:=ZZ (fun i=>Wq n (R i)) (show (YK d).toNat<n by omega);have e6:=ZZ (fun j=>Zr (R (YK d).toNat j)) (show (YK c).toNat<n by omega);refine nav ?_;(refine YJ [] [2] ?_<;>refine xD 0 rfl Za ?_<;>refine xE 1 rfl Za ?_<;>refine xE 2 rfl (Zs ZQ) ?_<;>refine xE 3 rfl Yj ?_<;>refine xE 4 rfl Za ?_<;>(refine bDd 19 (fun hb19=>?_) (fun hb19=>?_)<;>(first|refine kD 5 ?_|refine xD 5 rfl (Zc 2 Kx) ?_))<;>(first|refine kD 6 ?_|(refine yD 6 rfl (Zh 2 Yl) fun v21 h=>?_;cases h))<;>(first|refine kD 7 ?_|refine xD 7 rfl Za ?_)<;>(first|refine kD 8 ?_|refine xD 8 rfl Za ?_)<;>(first|refine kD 9 ?_|refine xD 9 rfl (Ze ZQ) ?_)<;>(first|refine kD 10 ?_|(refine yD 10 rfl (Zu YA (hp:=e3 oM)) fun v25 h=>?_;cases h))<;>(first|refine kD 11 ?_|refine xD 11 rfl (Ze (i:=0) ZS) ?_)<;>(first|refine kD 12 ?_|(refine yD 12 rfl (Zu ZH) fun v27 h=>?_;cases h))<;>(first|refine kD 13 ?_|refine xD 13 rfl (T0 Z') ?_)<;>(first|refine kD 14 ?_|(refine yD 14 rfl (Zu Zx) fun v29 h=>?_;cases h))<;>(first|refine kD 15 ?_|refine xD 15 rfl Za ?_)<;>(first|refine kD 16 ?_|refine xD 16 rfl Za ?_)<;>(first|refine kD 17 ?_|refine xD 17 rfl (Ze ZQ) ?_)<;>(first|refine kD 18 ?_|(refine yD 18 rfl (Zu YA) fun v33 h=>?_;cases h))<;>(first|refine kD 19 ?_|refine xD 19 rfl (Ze (i:=0) ZS) ?_)<;>(first|refine kD 20 ?_|(refine yD 20 rfl (Zu ZH) fun v35 h=>?_;cases h))<;>(first|refine kD 21 ?_|refine xD 21 rfl (T0 ZI) ?_)<;>(first|refine kD 22 ?_|(refine yD 22 rfl (Zu ZT) fun v37 h=>?_;cases h))<;>refine xE 23 rfl YY ?_<;>refine WE ?_)<;>(
 refine cX ?_ ?_<;>intro hb38
 . first|exact bN hb38|(
 refine Y2 ?_;refine Yr (
  ⟨k+1,oM,fun j x hj hxj=>by
   by_cases e:j=k
   . subst e;rw [hd oM] at hxj;cases hxj;exact hb38
   . exact hkp j x oM hxj⟩
  ))
 . (
 refine nav ?_;have hkn:∀x,out[k]? =some x->DI R c x:=fun x hx'=>by
  first
   |(have:=Zd hx';omega)
   | (have hdk:=hd (Zd hx')
      rw [hdk] at hx';cases hx';have:=hapc d (Xb hdk);unfold DI;rw [hb38] at this
      cases hr:R (YK c).toNat (YK d).toNat with
      |true=>rfl
      |false=>rw [hr] at this;exact Qd rfl this)
 (have f1:(((out.map pInts).drop (0*1)).take ((k-0)*1)).length=(k-0)*1:=by simp;omega);have f2:(((out.map pInts).drop (0*1)).take ((k-0)*1)).all En.one=true:=by
  have:=Db (out.take k);rw [V3] at this;simpa using this
 have f3:(((out.map pInts).drop (k*1)).take ((out.length-k)*1)).length=(out.length-k)*1:=sM;have f4:(((out.map pInts).drop (k*1)).take ((out.length-k)*1)).all En.one=true:=by
  have:=Db (out.drop k);rw [Us] at this;rw [XI,XI,Xt sM];exact this
 (have f5:(out.map pInts).length=out.length*1:=by rw [Xc,XI]);refine Zo ?_;refine TX 41 Yv fun h41 ho41=>?_;refine ZO ?_;refine xM (Wd (i:=0) (j:=k) ZQ rfl rfl rfl rfl (Xg _) hk f5) ?_;refine W5 41 45 Yv (fun h45 ho45=>?_) f1 f2;refine ZX ?_;refine xL 46 Za (xL 47 Za (xL 48 Za (xL 49 (Ze ZQ) ?_)));refine yU (Zu YA) fun v50=>?_;refine WC (kk:=1) 51 Yv fun h51 ho51=>?_;refine Wc 45 51 52 Yv fun h52 ho52=>?_;refine ZX ?_;refine Y1 ?_;refine xM (Wd (i:=k) (j:=out.length) ZQ rfl rfl rfl rfl hk (Xd _) f5) ?_;refine W5 52 57 Yv (fun h57 ho57=>?_) f3 f4;refine ZP ?_;have hcells:[]++((out.map pInts).drop (0*1)).take ((k-0)*1)++[pInts c]++((out.map pInts).drop (k*1)).take ((out.length-k)*1)=(out.take k++c::out.drop k).map pInts:=by
  simp only [XI,X8,Vx,Vc,XX];rw [Xt (show ((out.map pInts).drop k).length<=out.length-k by simp)];simp
 (have hlen:0+(k-0)+1+(out.length-k)=(out.take k++c::out.drop k).length:=by simp;omega);refine GP ?_;refine ZK (En.freeze (l:=57) (t:=5) rfl rfl) fun _=>?_;rw [Gu _ _ _ (out.take k++c::out.drop k) hcells hlen];refine Zf (
  ⟨(i+1,h57,out.take k++c::out.drop k),by show i+1<=cs.length;omega,by show (out.take k++c::out.drop k).Perm _;rw [Z2 hx];exact (Ze5 out c k).trans (hperm.append_right _),Zaa hsort hkp hkn fun x hx' y hy'=>htr c hcm x (hom x hx') y (hom y hy')⟩
  ) (by show cs.length-(i+1)<cs.length-i;omega) sB sB)))
 . (
 refine ZU ?_;rw [show i=cs.length by omega,Xx] at hperm;exact Zg (results231) rfl ⟨out,hperm,hsort,rfl⟩)
theorem Ze6 (c:List Int) (hc:c≠[]) (hcl:c.length<=1000000):AF prog 285 [pInts c] (· =Zb (KM c)):=by
 have hp:=X5.2 hc
 have e0:=Zc9 hc
 refine AF.b1 21 func285 rfl ntmps285 (Xa rfl) fun w0 M0 v0 _=>?_
 refine YG ?_;refine ZN ?_;refine xM (Ze (i:=0) ZS) ?_;refine yV (Zu ZH) ?_;refine KA ?_
 refine Y9 (ι:={x:Nat×Int//x.1<=c.length/\x.2=(c.take x.1).foldl (fun a b=>if b<a then b else a) (YK c)}) (fun k=>⟨[(0,_,_),(3, .int .i64 k.1.2,Zb k.1.2),(4, .int .i64 k.1.1,Zb k.1.1)],[]⟩) (fun k=>c.length-k.1.1) ⟨(0,YK c),Xg _,rfl⟩ (fun a w H=>H.weaken sB trivial) ?_
 rintro ⟨⟨k,a⟩,hk,ha⟩
 dsimp only
 dsimp only at hk ha
 refine Zi ?_
 refine xL 8 Za (xL 9 Za (xL 10 (Zs ZS) (xL 11 Yj ?_)));refine ZE ?_ ?_<;>intro hb11
 . (
 obtain ⟨x,hx⟩:=gS c k;have e1:=Yh (f:=Zb) hx;refine Zi ?_;refine xL 14 Za (xL 15 Za (xL 16 Za (xL 17 (Ze ZS) ?_)));refine yV (Zu ZH) ?_;refine xL 19 Zpx (xL 3 ZJ ?_);refine Ym ?_;refine E9 ?_;refine Zf (
  ⟨(k+1,if x<a then x else a),by show k+1<=c.length;omega,by show (if x<a then x else a)=_;rw [Z2 hx,Uq,<-ha];rfl⟩
  ) (by show c.length-(k+1)<c.length-k;omega) sB trivial)
 . (
 refine ZU ?_;refine Zg (results285) rfl ?_;rw [show k=c.length by omega,Xx] at ha;rw [ha];rfl)
theorem ZgO (cs:List (List Int)) (hne:∀c∈cs,c≠[]/\c.length<=1000000) (hcl:cs.length<=1000) (hap:cs.Pairwise fun c d=>KM c≠KM d):AF prog 272 [KR cs] (fun p=>∃out,out.Perm cs/\out.Pairwise (fun c d=>KM c<KM d)/\p=KR out):=by
 refine AF.b1 50 func272 rfl ntmps272 (Xa rfl) fun w0 M0 v0 _=>?_
 refine YG ?_;refine KA ?_
 refine Zq (YS 200 90 1 rfl) fun _=>?_
 refine Zq (En.freeze (l:=200) (t:=3) rfl rfl) fun _=>?_
 rw [Gu _ _ _ [] (by rfl) (by rfl)]
 refine Y9 (ι:={x:Nat×Value×List (List Int)//x.1<=cs.length/\x.2.2.Perm (cs.take x.1)/\x.2.2.Pairwise (fun c d=>KM c<KM d)}) (fun k=>⟨[(0,_,_),(3,k.1.2.1,KR k.1.2.2),(4, .int .i64 k.1.1,Zb k.1.1)],[]⟩) (fun k=>cs.length-k.1.1) ⟨(0, .slice none 0 0,[]),Xg _, .refl _,List.Pairwise.nil⟩ (fun a w H=>H.weaken sB trivial) ?_
 rintro ⟨⟨i,hov,out⟩,hi,hperm,hsort⟩
 dsimp only
 dsimp only at hi hperm hsort
 have hol:out.length<=1000:=by rw [hperm.length_eq,XE];omega
 refine Zi ?_
 refine xL 7 Za (xL 8 Za (xL 9 (Zs ZQ) (xL 10 Yj ?_)));refine ZE ?_ ?_<;>intro hb10
 . (
 obtain ⟨c,hx⟩:=gS cs i;have e1:=Yh (f:=pInts) hx;have hcm:=Xb hx;have hc0:=hne c hcm;have hom:=Dp hperm;have hapc:∀x∈out,KM x≠KM c:=fun x hxo=>by
  obtain ⟨j,hj⟩:=XM (hperm.mem_iff.1 hxo);have hjl:=Zd hj;rw [XE] at hjl;rw [X1 oM] at hj;have:=XV.1 hap j i (Zd hj) (Zd hx) oM;rw [(Xk.1 hj).2,(Xk.1 hx).2] at this;exact this
 refine ZD ?_;refine Y9 (ι:={k:Nat//k<=out.length/\∀j x,j<k->out[j]? =some x->KM x<KM c}) (fun k=>⟨[(0,_,_),(3,_,_),(4,_,_),(5, .int .i64 k.1,Zb k.1)],[]⟩) (fun k=>out.length-k.1) ⟨0,Xg _,fun j x h=>Qd h (Vo j)⟩ (fun a w H=>H.weaken sB trivial) ?_;rintro ⟨k,hk,hkp⟩;dsimp only;obtain ⟨d,hdd⟩:∃d,d=out[k]?.getD c:=⟨_,rfl⟩;(have hd:k<out.length->out[k]? =some d:=fun h=>by obtain ⟨y,hy⟩:=get_some h;rw [hdd,hy];rfl);have hdm:d∈cs:=by
  rw [hdd]
  cases ho:out[k]? with
  |none=>exact hcm
  |some y=>exact hom y (Xb ho)
 have e3:k<out.length->(out.map pInts)[k*1]? =some (pInts d):=fun h=>Yh (f:=pInts) (hd h);have hd0:=hne d hdm;refine nav ?_;(refine YJ [] [] ?_<;>refine xD 0 rfl Za ?_<;>refine xE 1 rfl Za ?_<;>refine xE 2 rfl (Zs ZQ) ?_<;>refine xE 3 rfl Yj ?_<;>refine xE 4 rfl Za ?_<;>(refine bDd 17 (fun hb17=>?_) (fun hb17=>?_)<;>(first|refine kD 5 ?_|refine xD 5 rfl Za ?_))<;>(first|refine kD 6 ?_|refine xD 6 rfl Za ?_)<;>(first|refine kD 7 ?_|refine xD 7 rfl (Ze ZQ) ?_)<;>(first|refine kD 8 ?_|(refine yD 8 rfl (Zu YA (hp:=e3 oM)) fun v21 h=>?_;cases h))<;>(first|refine kD 10 ?_|refine xD 10 rfl Za ?_)<;>(first|refine kD 11 ?_|refine xD 11 rfl Za ?_)<;>(first|refine kD 12 ?_|refine xD 12 rfl (Ze ZQ) ?_)<;>(first|refine kD 13 ?_|(refine yD 13 rfl (Zu YA) fun v26 h=>?_;cases h))<;>(refine ZY 9 kR ?_)<;>(first|(refine Yo (d:=22) rfl (cA call285 (Ze6 d hd0.1 hd0.2)) fun v22 h=>?_;cases h)|(refine aWr fun bk=>?_;refine kL ?_;refine bE bk ?_))<;>(refine ZY 14 kR ?_)<;>(first|(refine Yo (d:=27) rfl (cA call285 (Ze6 c hc0.1 hc0.2)) fun v27 h=>?_;cases h)|(refine aWr fun bk=>?_;refine kL ?_;refine bE bk ?_))<;>(first|refine kD 15 ?_|refine xD 15 rfl Yj ?_)<;>refine xE 16 rfl YY ?_<;>refine WE ?_)<;>(
 refine cX ?_ ?_<;>intro hb29
 . first|exact bN hb29|(
 refine Y2 ?_;refine Zf (
  ⟨k+1,oM,fun j x hj hxj=>by
   by_cases e:j=k
   . subst e;rw [hd oM] at hxj;cases hxj;omega
   . exact hkp j x oM hxj⟩
  ) (by dsimp only;omega) sB trivial)
 . (
 refine nav ?_;have hkn:∀x,out[k]? =some x->KM c<KM x:=fun x hx'=>by
  first
   |(have:=Zd hx';omega)
   | (have hdk:=hd (Zd hx')
      rw [hdk] at hx';cases hx';have:=hapc d (Xb hdk);omega)
 (have f1:(((out.map pInts).drop (0*1)).take ((k-0)*1)).length=(k-0)*1:=by simp;omega);have f2:(((out.map pInts).drop (0*1)).take ((k-0)*1)).all En.one=true:=by
  have:=Db (out.take k);rw [V3] at this;simpa using this
 have f3:(((out.map pInts).drop (k*1)).take ((out.length-k)*1)).length=(out.length-k)*1:=sM;have f4:(((out.map pInts).drop (k*1)).take ((out.length-k)*1)).all En.one=true:=by
  have:=Db (out.drop k);rw [Us] at this;rw [XI,XI,Xt sM];exact this
 (have f5:(out.map pInts).length=out.length*1:=by rw [Xc,XI]);refine Zo ?_;refine TX 32 Yv fun h32 ho32=>?_;refine ZO ?_;refine xM (Wd (i:=0) (j:=k) ZQ rfl rfl rfl rfl (Xg _) hk f5) ?_;refine W5 32 36 Yv (fun h36 ho36=>?_) f1 f2;refine ZX ?_;refine xL 37 Za (xL 38 Za (xL 39 Za (xL 40 (Ze ZQ) ?_)));refine yU (Zu YA) fun v41=>?_;refine WC (kk:=1) 42 Yv fun h42 ho42=>?_;refine Wc 36 42 43 Yv fun h43 ho43=>?_;refine ZX ?_;refine Y1 ?_;refine xM (Wd (i:=k) (j:=out.length) ZQ rfl rfl rfl rfl hk (Xd _) f5) ?_;refine W5 43 48 Yv (fun h48 ho48=>?_) f3 f4;refine ZP ?_;have hcells:[]++((out.map pInts).drop (0*1)).take ((k-0)*1)++[pInts c]++((out.map pInts).drop (k*1)).take ((out.length-k)*1)=(out.take k++c::out.drop k).map pInts:=by
  simp only [XI,X8,Vx,Vc,XX];rw [Xt (show ((out.map pInts).drop k).length<=out.length-k by simp)];simp
 (have hlen:0+(k-0)+1+(out.length-k)=(out.take k++c::out.drop k).length:=by simp;omega);refine GP ?_;refine ZK (En.freeze (l:=48) (t:=3) rfl rfl) fun _=>?_;rw [Gu _ _ _ (out.take k++c::out.drop k) hcells hlen];refine Zf (
  ⟨(i+1,h48,out.take k++c::out.drop k),by show i+1<=cs.length;omega,by show (out.take k++c::out.drop k).Perm _;rw [Z2 hx];exact (Ze5 out c k).trans (hperm.append_right _),Zaa hsort hkp hkn fun x _ y _ h1 h2=>Int.lt_trans h1 h2⟩
  ) (by show cs.length-(i+1)<cs.length-i;omega) sB trivial)))
 . (
 refine ZU ?_;rw [show i=cs.length by omega,Xx] at hperm;exact Zg (results272) rfl ⟨out,hperm,hsort,rfl⟩)
theorem Zpy {l:List Int} {r r':Int->Int->Bool} (hr:∀x∈l,∀y∈l,x≠y->(r x y=true\/r y x=true)->(r' x y=true\/r' y x=true)) {x y:Int} (h:Conn l r x y):Conn l r' x y:=fun P hP=>h P fun a b ha hb hab hPa=>by
 by_cases e:a=b
 . rw [<-e];exact hPa
 . exact hP a b ha hb (hr a ha b hb e hab) hPa
theorem Zah {l:List Int} {r r':Int->Int->Bool} {cs:List (List Int)} (h:Comps l r cs) (hr:∀x∈l,∀y∈l,x≠y->((r x y=true\/r y x=true)↔(r' x y=true\/r' y x=true))):Comps l r' cs:=
 ⟨h.mem,h.nd,h.ne,h.asc,fun c hc x hx y hy=>Zpy (fun a ha b hb hab=>(hr a ha b hb hab).1) (h.conn c hc x hx y hy),fun c hc x hx y hy hxy=>by
  by_cases e:x=y
  . rw [<-e];exact hx
  . exact h.clos c hc x hx y hy ((hr x ((h.mem x).1 (XO.2 ⟨c,hc,hx⟩)) y hy e).2 hxy),h.ord⟩
theorem Zai {l:List Int} {r r':Int->Int->Bool} {cs ds:List (List Int)} (h:Comps l r cs) (k:Comps l r' ds) (hr:∀x∈l,∀y∈l,x≠y->((r x y=true\/r y x=true)↔(r' x y=true\/r' y x=true))):cs=ds:=(Zah h hr).unique k fun _ _ _ _=>Iff.rfl
theorem Tn (n:Nat):marked n (fun _=>true)=upTo n:=by
 unfold marked upTo vec
 exact UQ.2 fun _ _=>rfl
theorem DJ (n:Nat) (S F:Nat->Bool):marked n (fun i=> !S i&& !F i)=S1 n S F:=by
 unfold marked S1 upTo vec
 refine List.filter_congr fun x _=>?_
 unfold ζ6;dsimp only
 cases S x.toNat<;>cases F x.toNat<;>rfl
theorem Zaj {n:Nat} {l:List Int} {r:Int->Int->Bool} {cs:List (List Int)} (h:Comps l r cs) (hl:∀x∈l,0<=x/\x<n):∀c∈cs,Kf n c=c:=fun c hc=>Zac (h.asc c hc) fun x hx=>hl x ((h.mem x).1 (XO.2 ⟨c,hc,hx⟩))
theorem HI {n:Nat} {cs:List (List Int)} (h:∀c∈cs,Kf n c=c):cs.map (Kf n)=cs:=(VQ (g:=id) h).trans (VD cs)
theorem Zqt {E R:Nat->Nat->Bool} (x y:Int):(TZ E R 1 x y=true\/TZ E R 1 y x=true)↔(PT E x y=true\/PT E y x=true):=by
 unfold TZ PU PT
 cases E x.toNat y.toNat<;>cases E y.toNat x.toNat<;>simp
theorem Zqu {E R:Nat->Nat->Bool} (x y:Int):(TZ E R 2 x y=true\/TZ E R 2 y x=true)↔(relS R x y=true\/relS R y x=true):=by
 unfold TZ PU relS
 cases R x.toNat y.toNat<;>cases R y.toNat x.toNat<;>simp
theorem ZrX {E R:Nat->Nat->Bool} {x y:Int} (h:x≠y):(TZ E R 3 x y=true\/TZ E R 3 y x=true)↔(Px E x y=true\/Px E y x=true):=by
 unfold TZ PU Px
 rw [U' h,U' (Ne.symm h)]
 cases E x.toNat y.toNat<;>cases E y.toNat x.toNat<;>simp
theorem Ze7 {l:List Int} {r:Int->Int->Bool} {cs:List (List Int)} (h:Comps l r cs):cs.Pairwise fun c d=>YK c≠YK d:=h.heads.imp fun h=>oM
theorem Zip {n:Nat} {E:Nat->Nat->Bool} {cs out ds:List (List Int)} (hc:Comps (upTo n) (relS (ZV n E)) cs) (hp:out.Perm cs) (ho:out.Pairwise (DI (ZV n E))) (hd:SeqCs n (ZV n E) ds):out=ds:=by
 obtain ⟨cs',hc',hp'⟩:=hd.cl
 have e:=hc'.unique hc fun _ _ _ _=>Iff.rfl
 subst e
 have hne:∀{m:List (List Int)},m.Perm cs'->m.Pairwise fun c d=>YK c≠YK d:=fun h=>(h.pairwise_iff (R:=fun c d=>YK c≠YK d) fun h=>Ne.symm h).2 (Ze7 hc')
 refine Zc8 (rel:=fun c d=>YK c≠YK d/\DI (ZV n E) c d) (fun a ha b hb hab hba=>?_) ((hne hp).and ho) ((hne hp').and ?_) fun c=>by rw [hp.mem_iff,hp'.mem_iff]
 . have h0:=GG hc' (hp.mem_iff.1 ha) (hp.mem_iff.1 hb) hab.1;have h1:=hab.2;have h2:=hba.2;unfold DI at h1 h2;exact h0 (h1.trans h2.symm)
 . rw [XV];intro i j hi hj hij;have h1:=hd.ord i j _ _ hij (Xq hi) (Xq hj);have h2:=XV.1 (hne hp') i j hi hj hij;have h3:=GG hc' (hp'.mem_iff.1 (Vh hi)) (hp'.mem_iff.1 (Vh hj)) h2;rw [SL] at h1;unfold DI
   cases hr:ZV n E (YK ds[i]).toNat (YK ds[j]).toNat with
   |true=>rfl
   | false=>
     exfalso
     cases hr2:ZV n E (YK ds[j]).toNat (YK ds[i]).toNat with
     |true=>exact h1 ⟨Ne.symm h2,hr2⟩
     |false=>exact h3 (hr.trans hr2.symm)
def GI (W:List Int->Bool) (cs:List (List Int)):List (List Int):=match cs.filter W with
 |[]=>[]
 |c0::t=>(c0++(cs.filter fun c=> !W c).flatten)::t
theorem C0 {α:Type} {p:α->Bool} {l:List α} {i0:Nat} (h:idx p l=i0):(∀j y,j<i0->l[j]? =some y->p y=false)/\∀y,l[i0]? =some y->p y=true:=by
 unfold idx at h
 cases hf:l.findIdx? p with
 |none=>rw [hf] at h;dsimp only at h;omega
 | some i=>
   rw [hf] at h;dsimp only at h;have hi0:i=i0:=oM;subst hi0;rw [V4] at hf;obtain ⟨hi,hp,hlt⟩:=hf;refine ⟨fun j y hj hy=>?_,fun y hy=>?_⟩
   . obtain ⟨hl,rfl⟩:=Xk.1 hy;simpa using hlt j hj
   . obtain ⟨hl,rfl⟩:=Xk.1 hy;exact hp
theorem EF {α:Type} {p:α->Bool} {l:List α} (k:Nat) (h:∀j y,j<k->l[j]? =some y->p y=false):(l.take k).filter p=[]:=List.filter_eq_nil_iff.2 fun x hx=>by
 obtain ⟨j,hj⟩:=XM hx
 have hjl:=Zd hj
 rw [XE] at hjl
 rw [X1 oM] at hj
 rw [h j x oM hj];decide
theorem Dc {i0:Nat} {W:List Int->Bool} {cs:List (List Int)} (hW:∀y,cs[i0]? =some y->W y=true):∀k,k<=cs.length->selA i0 W false (cs.take k)=(cs.take k).filter fun c=> !W c
 |0,_=>by simp [selA]
 | k+1,hk=>by
   obtain ⟨c,hc⟩:=gS cs k;rw [Da hc,GH hc,Dc hW k oM];congr 1;by_cases h:W c=false
   . rw [Qc ⟨fun e=>by subst e;rw [hW c hc] at h;exact Bool.noConfusion h,h⟩,Qc (by rw [h];rfl)]
   . rw [Qb (fun hh=>h hh.2),Qb (by simpa using h)]
theorem HJ {i0:Nat} {W:List Int->Bool} {cs:List (List Int)} {c0:List Int} (h0:cs[i0]? =some c0) (hW:W c0=true) (hpre:∀j y,j<i0->cs[j]? =some y->W y=false):∀k,k<=cs.length->(cs.take k).filter W=(if i0<k then [c0] else [])++selA i0 W true (cs.take k)
 |0,_=>by simp [selA]
 | k +1,hk=>by
   obtain ⟨c,hc⟩:=gS cs k;have hb:k<=i0->selA i0 W true (cs.take k)=[]:=fun hk0=>List.eq_nil_iff_forall_not_mem.2 fun x hx=>by
    have hm:=Hz hx;have:=EF (p:=W) (l:=cs) k fun j y hj=>hpre j y oM;have h2:x∈(cs.take k).filter W:=XF.2 hm;rw [this] at h2;exact UY h2
   rw [Da hc,GH hc,HJ h0 hW hpre k oM];rcases Vz k i0 with h|h|h
   . have hw:=hpre k c h hc;rw [Qb (show ¬i0<k by omega),Qb (show ¬i0<k+1 by omega),Qb (show ¬W c=true by rw [hw];decide),Qb (fun hh=>by rw [hw] at hh;exact Bool.noConfusion hh.2)];simp
   . subst h;rw [h0] at hc;cases hc;rw [hb (Xd _),Qb (show ¬k<k by omega),Qc (show k<k+1 by omega),Qc hW,Qb (fun hh=>hh.1 rfl)];simp
   . rw [Qc h,Qc (show i0<k+1 by omega)];by_cases hw:W c=true
     . rw [Qc hw,Qc ⟨oM,hw⟩];simp
     . rw [Qb hw,Qb (fun hh=>hw hh.2)];simp
theorem Jh {α:Type} (p:α->Bool):∀l:List α,(l.filter p++l.filter fun x=> !p x).Perm l
 |[]=> .refl _
 | a::l=>by
   cases h:p a with
   |true=>rw [V2 h,VS (by rw [h];decide)];exact (Jh p l).cons a
   |false=>rw [VS (by rw [h];decide),V2 (by rw [h];rfl)];exact List.perm_middle.trans ((Jh p l).cons a)
theorem J5 {α:Type} {l m:List (List α)} (h:l.Perm m):l.flatten.Perm m.flatten:=by
 induction h with
 |nil=>exact .refl _
 |cons x _ ih=>rw [XP,XP];exact ih.append_left x
 | swap x y l=>
   rw [XP,XP,XP,XP,<-XH,<-XH];exact VZ.append_right _
 |trans _ _ h1 h2=>exact h1.trans h2
theorem Zpz {n:Nat} {E:Nat->Nat->Bool} {W:List Int->Bool} {cs out ds:List (List Int)} {i0:Nat} {c0:List Int} (hc:Comps (upTo n) (Px E) cs) (h0:cs[i0]? =some c0) (hi:idx W cs=i0) (hd:AndCs cs i0 c0 W ds) (hp:out.Perm (GI W cs)) (ho:out.Pairwise fun c d=>KM c<KM d):out.map (Kf n)=ds:=by
 obtain ⟨hpre,hat⟩:=C0 hi
 have hT:=HJ h0 (hat c0 h0) hpre cs.length (Xd _)
 have hN:=Dc (W:=W) hat cs.length (Xd _)
 rw [Xx] at hT hN
 rw [Qc (Zd h0)] at hT
 have hM:GI W cs=(c0++(cs.filter fun c=> !W c).flatten)::selA i0 W true cs:=by unfold GI;rw [hT];rfl
 have hperm:((c0++(cs.filter fun c=> !W c).flatten)::selA i0 W true cs).flatten.Perm cs.flatten:=by
  have h1:=J5 (Jh W cs);rw [hT,XZ,XZ] at h1;refine .trans ?_ h1;rw [XP,XH,XH,show [c0].flatten=c0 by simp];exact (VZ).append_left c0
 have hnd:((c0++(cs.filter fun c=> !W c).flatten)::selA i0 W true cs).flatten.Nodup:=(hperm.pairwise_iff (R:=(· ≠ ·)) fun h=>Ne.symm h).2 hc.nd
 rw [XP,X6] at hnd
 have hin:=Jo hc
 have hbd:∀x∈c0++(cs.filter fun c=> !W c).flatten,0<=x/\x<n:=fun x hx=>by
  have h1:x∈cs.flatten:=hperm.mem_iff.1 (by rw [XP,XB];exact .inl hx);exact YR.1 ((hc.mem x).1 h1)
 have hs:=Zad hnd.1 hbd
 have hc0:c0≠[]:=hc.ne c0 (Xb h0)
 have hTm:∀c∈selA i0 W true cs,c∈cs:=fun c h=>(Hz h).1
 have hout:∀c∈out,c≠[]/\c.Nodup/\∀x∈c,0<=x/\x<n:=fun c h=>by
  have h1:=hp.mem_iff.1 h;rw [hM,Xh] at h1;rcases h1 with rfl|h1
  . exact ⟨fun e=>hc0 (List.append_eq_nil_iff.1 e).1,hnd.1,hbd⟩
  . exact ⟨hc.ne c (hTm c h1),(hc.asc c (hTm c h1)).imp fun h=>oM,hin.1 c (hTm c h1)⟩
 have hR:(out.map (Kf n)).Perm ds:=by
  refine .trans ((hp.map (Kf n))) ?_;rw [hM,Xm,hs,HI fun c h=>Zac (hc.asc c (hTm c h)) (hin.1 c (hTm c h))];have h2:=hd.perm;rw [hN] at h2;exact (UF _ _).symm.trans h2.symm
 have hRa:(out.map (Kf n)).Pairwise fun c d=>YK c<YK d:=by
  rw [X7];refine List.Pairwise.imp_of_mem (fun {a b} ha hb hab=>?_) ho;rw [Cq (hout a ha).1 (hout a ha).2.1 (hout a ha).2.2,Cq (hout b hb).1 (hout b hb).2.1 (hout b hb).2.2];exact hab
 have hdn:ds.Pairwise fun c d=>YK c≠YK d:=(hR.pairwise_iff (R:=fun c d=>YK c≠YK d) fun h=>Ne.symm h).1 (hRa.imp fun h=>oM)
 refine EC hRa ?_ fun c=>hR.mem_iff
 rw [XV] at hdn ⊢
 intro i j hi hj hij
 have h1:=hdn i j hi hj hij
 have h2:=hd.ord i j _ _ hij (Xq hi) (Xq hj)
 omega
theorem ZgP {W:List Int->Bool} {cs:List (List Int)} (h:idx W cs<0):GI W cs=[]:=by
 have h1:=Tt W cs
 rw [Qa oM] at h1
 have h2:cs.filter W=[]:=List.filter_eq_nil_iff.2 fun x hx=>by
  have:=Ut.1 h1.symm x hx;exact this
 unfold GI
 rw [h2]
def PQ (n:Nat) (E:Nat->Nat->Bool) (S F:Nat->Bool) (cs:List (List Int)):List (List Int):=(inL n S F++(cs.filter fun c=> !Gd n E S F c).flatten)::cs.filter (Gd n E S F)
theorem Zm8 {n:Nat} {E:Nat->Nat->Bool} {S F:Nat->Bool} {cs:List (List Int)} (hc:Comps (S1 n S F) (PT E) cs):(PQ n E S F cs).map (Kf n)=Gt n E S F cs:=by
 have hin:∀c∈cs,∀x∈c,x∈S1 n S F:=(RZ hc).1
 have hbd:∀c∈cs,∀x∈c,0<=x/\x<n:=fun c h x hx=>Py.2 x (hin c h x hx)
 unfold PQ Gt
 rw [Xm,HI fun c h=>Zac (hc.asc c (XF.1 h).1) (hbd c (XF.1 h).1),Zad]
 . rw [X6];refine ⟨((LQ n).filter _).imp fun h=>oM,?_,fun a ha b hb e=>?_⟩
   . have h1:=J5 (Jh (Gd n E S F) cs);have h2:=(h1.pairwise_iff (R:=(· ≠ ·)) fun h=>Ne.symm h).2 hc.nd;rw [XZ] at h2;exact (X6.1 h2).2.1
   . subst e;obtain ⟨c,hcm,hx⟩:=XO.1 hb;have h1:=hin c (XF.1 hcm).1 a hx;unfold inL at ha;unfold S1 at h1;have h2:=(XF.1 ha).2;have h3:=(XF.1 h1).2;rw [h2] at h3;exact Qd h3 dC
 . intro x hx;rcases XB.1 hx with h|h
   . exact EE.2 x h
   . obtain ⟨c,hcm,hx⟩:=XO.1 h;exact hbd c (XF.1 hcm).1 x hx
def Zkn (l:List BA) (n:Nat) (E:Nat->Nat->Bool) (S F:Nat->Bool):Nat->Option Cut->Prop
 |0,o=>∃cs,Comps (marked n fun _=>true) (TZ E (ZV n E) 1) cs/\o=GQ l 1 (cs.map (Kf n))
 |1,o=>∃(cs out:List (List Int)),Comps (marked n fun _=>true) (TZ E (ZV n E) 2) cs/\out.Perm cs/\out.Pairwise (DI (ZV n E))/\o=GQ l 2 (out.map (Kf n))
 |2,o=>∃(cs out:List (List Int)),Comps (marked n fun _=>true) (TZ E (ZV n E) 3) cs/\out.Perm (GI (Yc S F) cs)/\out.Pairwise (fun c d=>KM c<KM d)/\o=GQ l 3 (out.map (Kf n))
 |_,o=>(inL n S F=[]/\o=none)\/(inL n S F≠[]/\∃cs,Comps (marked n fun i=> !S i&& !F i) (TZ E (ZV n E) 1) cs/\o=GQ l 4 ((PQ n E S F cs).map (Kf n)))
theorem Zm9 {l:List BA} {n:Nat} {E:Nat->Nat->Bool} {S F:Nat->Bool} {o o':Option Cut}:∀k,k<4->Zkn l n E S F k o'->Rw l n E S F k o->o'=o
 | 0,_,h1,h2=>by
   obtain ⟨cs,hc,rfl⟩:=h1;obtain ⟨ds,hd,rfl⟩:=h2;rw [Tn] at hc;have e:=Zai hc hd fun x _ y _ _=>Zqt x y;subst e;rw [HI (Zaj hd fun x hx=>YR.1 hx)]
 | 1,_,h1,h2=>by
   obtain ⟨cs,out,hc,hp,ho,rfl⟩:=h1;obtain ⟨ds,hd,rfl⟩:=h2;rw [Tn] at hc;have hc':=Zah hc fun x _ y _ _=>Zqu x y;have e:=Zip hc' hp ho hd;subst e;rw [HI fun c h=>Zaj hc' (fun x hx=>YR.1 hx) c (hp.mem_iff.1 h)]
 | 2, _,h1,h2=>by
   obtain ⟨cs,out,hc,hp,ho,rfl⟩:=h1;obtain ⟨cs',hc',h3⟩:=h2;rw [Tn] at hc;have e:=Zai hc hc' fun x _ y _ h=>ZrX h;subst e;rcases h3 with ⟨h3,rfl⟩|⟨i0,c0,ds,h3,h4,h5,rfl⟩
   . rw [ZgP h3] at hp;rw [List.Perm.eq_nil hp];rfl
   . rw [Zpz hc' h3 h4 h5 hp ho]
 | 3, _,h1,h2=>by
   rcases h1 with ⟨h1,rfl⟩|⟨h1,cs,hc,rfl⟩
   . rcases h2 with ⟨_,rfl⟩|⟨cs',h2,_⟩
     . rfl
     . exact Qd h1 h2
   . rcases h2 with ⟨h2,_⟩|⟨cs',h2,hc',rfl⟩
     . exact Qd h2 h1
     . rw [DJ] at hc;have e:=Zai hc hc' fun x _ y _ _=>Zqt x y;subst e;rw [Zm8 hc']
 |k+4,h,_,_=>Qd h oM
theorem Zna {Q Q':Nat->Option Cut->Prop} (h:∀k o o',k<4->Q' k o'->Q k o->o'=o) {o o':Option Cut} (h1:R3 Q' o') (h2:R3 Q o):o'=o:=by
 rcases h1 with ⟨k,c,hk,hj,hq,rfl⟩|⟨hj,rfl⟩
 . rcases h2 with ⟨k',c',hk',hj',hq',rfl⟩|⟨hj',rfl⟩
   . rcases Vz k k' with e|e|e
     . exact Qd (h k none (some c) hk hq (hj' k e)) sM
     . subst e;exact h k _ _ hk hq hq'
     . exact Qd (h k' (some c') none hk' (hj k' e) hq') sM
   . exact h k none (some c) hk hq (hj' k hk)
 . rcases h2 with ⟨k',c',hk',hj',hq',rfl⟩|⟨hj',rfl⟩
   . exact h k' (some c') none hk' (hj k' hk') hq'
   . rfl
theorem PC {l:List BA} {s:BA}:hasStr l s=true↔s∈l:=by
 constructor
 . intro h;unfold hasStr at h;obtain ⟨x,hx,e⟩:=X2.1 h;rw [<-Y'.1 e];exact hx
 . exact Cj
theorem ZgQ {ps:List (List BA)} {s:BA} (h:0<=partOf ps s):hasStr (ps[(partOf ps s).toNat]?.getD []) s=true:=by
 unfold partOf idx at h ⊢
 cases hf:ps.findIdx? fun p=>hasStr p s with
 |none=>rw [hf] at h;simp at h
 | some i=>
   simp only [hf];rw [V4] at hf;obtain ⟨hi,h1,_⟩:=hf;rw [XG,Xq hi];exact h1
theorem Ze8 {ps:List (List BA)} {s:BA} {i:Nat} {p:List BA} (hn:ps.flatten.Nodup) (hp:ps[i]? =some p) (hs:s∈p):partOf ps s=i:=by
 unfold partOf
 refine Lz (fun j q hj hq=>?_) hp (PC.2 hs)
 rw [<-U1,PC]
 intro hsq
 have:=XV.1 (Ub.1 hn).2 j i (Zd hq) (Zd hp) hj s (by rw [(Xk.1 hq).2];exact hsq) s (by rw [(Xk.1 hp).2];exact hs)
 exact this rfl
structure Fine (c:Cut) (P:List (List BA)):Prop where
 len:c.parts.length<=P.length
 ok:∀p∈P,∃s0,p[0]? =some s0/\0<=partOf c.parts s0/\∀s∈p,hasStr (c.parts[(partOf c.parts s0).toNat]?.getD []) s=true
 ord:c.kind=2->∀(k:Nat) p q s t,P[k]? =some p->P[k+1]? =some q->p[0]? =some s->q[0]? =some t->partOf c.parts s<=partOf c.parts t
end Go.Proofs.YtmkojdfiadbeeaaGreat
namespace Go.Cb
open Go.En
def WO (parts:List (List BA)) (ps:List Piece) (s:BA):List Piece:=match ps[ps.length-1]? with
 |none=>[⟨partOf parts s,[s]⟩]
 |some q=>if q.part=partOf parts s then ps.set (ps.length-1) ⟨q.part,q.word++[s]⟩ else ps++[⟨partOf parts s,[s]⟩]
def PD (parts:List (List BA)) (ps:List Piece) (ws:List BA):List Piece:=ws.foldl (WO parts) ps
def Ly:List Piece->Bool
 |p::q::l=>(p.part==0||q.part==0)&&Ly (q::l)
 |_=>true
theorem Ze9 {l:List Piece} {q:Piece}:∀(m:List Piece),Ly (l++m)=true->Ly l=true:=by
 intro m
 induction l with
 |nil=>intro _;rfl
 | cons p l ih=>
   intro h
   cases l with
   |nil=>rfl
   | cons p' l=>
     simp only [Vd,Ly,Xe] at h ⊢;exact ⟨h.1,ih (by simpa using h.2)⟩
theorem ZbY:∀(l:List Piece) (p q:Piece),Ly (l++[p,q])=(Ly (l++[p])&&(p.part==0||q.part==0))
 |[],p,q=>by simp [Ly]
 |[a],p,q=>by simp [Ly,Bool.and_comm]
 | a::b::l,p,q=>by
   simp only [Vd,Ly];have:=ZbY (b::l) p q;simp only [Vd] at this;rw [this,UE]
theorem Zak:∀(l:List Piece) (p p':Piece),p.part=p'.part->Ly (l++[p])=Ly (l++[p'])
 |[],_,_,_=>rfl
 |[a],p,p',h=>by simp [Ly,h]
 | a::b::l,p,p',h=>by
   simp only [Vd,Ly];have:=Zak (b::l) p p' h;simp only [Vd] at this;rw [this]
theorem DK {α:Type} {l:List α} {x:α} (h:l[l.length-1]? =some x):∃m,l=m++[x]:=by
 have hl:=(Xk.1 h).1
 refine ⟨l.take (l.length-1),?_⟩
 have h1:=Z2 h
 rw [show l.length-1+1=l.length by omega,Xx] at h1
 exact h1
theorem HK {α:Type} (m:List α) (x y:α):(m++[x]).set ((m++[x]).length-1) y=m++[y]:=by
 have:(m++[x]).length-1=m.length:=sM
 rw [this,Vr _ _ (Xd _),Vl];rfl
theorem Znb {α:Type} (m:List α) (x:α):(m++[x])[(m++[x]).length-1]? =some x:=by
 have:(m++[x]).length-1=m.length:=sM
 rw [this,Vq (Xd _),Vl];rfl
theorem Zfa {parts:List (List BA)} {ps:List Piece} {s:BA} (h:Ly ps=false):Ly (WO parts ps s)=false:=by
 unfold WO
 split
 . rename_i hn
   cases ps with
   |nil=>cases h
   |cons p ps=>simp at hn
 . rename_i q hq;obtain ⟨m,rfl⟩:=DK hq;split
   . rw [HK,<-Zak m q ⟨q.part,q.word++[s]⟩ rfl];exact h
   . cases h1:Ly (m++[q]++[⟨partOf parts s,[s]⟩])
     . rfl
     . rw [Ze9 (q:=q) _ h1] at h;cases h
theorem Zfb {parts:List (List BA)}:∀(ws:List BA) (ps:List Piece),Ly ps=false->Ly (PD parts ps ws)=false
 |[],ps,h=>h
 |s::ws,ps,h=>Zfb ws _ (Zfa h)
theorem Rh {parts:List (List BA)}:∀(ws:List BA) (ps:List Piece),Ly ps=true->Wb parts ps ws=if Ly (PD parts ps ws) then some (PD parts ps ws) else none
 |[],ps,h=>by simp [Wb,PD,h]
 | s :: ws, ps,h=>by
   rw [Wb];show _=if Ly (PD parts (WO parts ps s) ws) then some (PD parts (WO parts ps s) ws) else none;unfold pieceStep;have hrs:WO parts ps s=WO parts ps s:=rfl
   cases hq:ps[ps.length-1]? with
   | none=>
     (have:WO parts ps s=[⟨partOf parts s,[s]⟩]:=by unfold WO;rw [hq]);rw [this];exact Rh ws _ rfl
   | some q =>
     obtain ⟨m,rfl⟩:=DK hq;simp only [];by_cases h1:q.part=partOf parts s
     . (have:WO parts (m++[q]) s=(m++[q]).set ((m++[q]).length-1) ⟨q.part,q.word++[s]⟩:=by unfold WO;rw [hq];simp [h1]);rw [Qc h1,this];refine Rh ws _ ?_;rw [HK,<-Zak m q ⟨q.part,q.word++[s]⟩ rfl];exact h
     . (have :WO parts (m++[q]) s=m++[q]++[⟨partOf parts s,[s]⟩]:=by unfold WO;rw [hq];simp [h1]);rw [Qb h1,this];have ha:Ly (m++[q]++[⟨partOf parts s,[s]⟩])=(Ly (m++[q])&&(q.part==0||partOf parts s==0)):=by
        rw [XH];exact ZbY m q _
       by_cases h2:partOf parts s≠0/\q.part≠0
       . rw [Qc h2];(have hb:Ly (m++[q]++[⟨partOf parts s,[s]⟩])=false:=by rw [ha];simp [h2.1,h2.2]);rw [Zfb ws _ hb];rfl
       . rw [Qb h2];refine Rh ws _ ?_;rw [ha,h];simp;by_cases h3:q.part=0
         . exact .inl h3
         . right
           by_cases h4:partOf parts s=0
           . exact h4
           . exact Qd ⟨h4,h3⟩ h2
def Jp (ps:List Piece) (i:Nat):Bool:=match ps[i]? with
 |none=>false
 |some p=>p.part !=0&&(i==0||i==ps.length-1||match ps[i+1]? with|some q=>q.part !=0|none=>false)
def JZ (ps:List Piece):Bool:=(List.range ps.length).all fun i=> !Jp ps i
theorem Ziq:∀(ps:List Piece),Ly ps=true↔∀i p q,ps[i]? =some p->ps[i+1]? =some q->p.part=0\/q.part=0
 |[]=>by simp [Ly]
 |[p]=>by simp [Ly]
 | p ::q::l=>by
   rw [Ly,Xe,Ziq (q::l)];constructor
   . rintro ⟨h1,h2⟩ i a b ha hb
     cases i with
     |zero=>simp at ha hb;subst ha hb;simpa using h1
     |succ i=>exact h2 i a b (by simpa using ha) (by simpa using hb)
   . intro h;refine ⟨by simpa using h 0 p q rfl rfl,fun i a b ha hb=>h (i+1) a b (by simpa using ha) (by simpa using hb)⟩
theorem Znc {ps:List Piece} (h0:ps≠[]):JZ ps=(Ly ps&&endsB ps):=by
 have hlen:0<ps.length:=by cases ps with|nil=>exact Qd rfl h0|cons=>simp
 obtain ⟨a,ha⟩:=get_some hlen
 obtain ⟨b,hb⟩:=get_some (show ps.length-1<ps.length by omega)
 have hends:endsB ps=(a.part==0&&b.part==0):=by unfold endsB;rw [ha,hb]
 rw [VG,Xe,Ziq,hends]
 unfold JZ
 rw [Xj]
 constructor
 . intro h;have key:∀i p,ps[i]? =some p->p.part≠0->i≠0/\i≠ps.length-1/\∀q,ps[i+1]? =some q->q.part=0:=fun i p hp hne=>by
    have h1:=h i (XQ.2 (Zd hp));unfold Jp at h1;rw [hp] at h1;simp [hne] at h1;refine ⟨h1.1.1,h1.1.2,fun q hq=>?_⟩;have:=h1.2;rw [hq] at this;simpa using this
   refine ⟨fun i p q hp hq=>?_,?_⟩
   . by_cases hz:p.part=0
     . exact .inl hz
     . exact .inr ((key i p hp hz).2.2 q hq)
   . simp;constructor
     . by_cases hz:a.part=0
       . exact hz
       . exact Qd rfl (key 0 a ha hz).1
     . by_cases hz:b.part=0
       . exact hz
       . exact Qd rfl (key _ b hb hz).2.1
 . rintro ⟨h1,h2⟩ i hi;simp at h2;unfold Jp
   cases hp:ps[i]? with
   |none=>rfl
   | some p=>
     by_cases hz:p.part=0
     . simp [hz]
     . (have e1:i≠0:=fun e=>by subst e;rw [ha] at hp;cases hp;exact hz h2.1);(have e2:i≠ps.length-1:=fun e=>by subst e;rw [hb] at hp;cases hp;exact hz h2.2);simp [hz,e1,e2]
       cases hq:ps[i+1]? with
       |none=>rfl
       |some q=>simpa using (h1 i p q hp hq).resolve_left hz
theorem Zir {parts:List (List BA)}:∀(ws:List BA) (ps:List Piece),ps≠[]->PD parts ps ws≠[]
 |[],ps,h=>h
 | s ::ws,ps,h=>Zir ws _ (by
   unfold WO;split
   . simp
   . split
     . intro e;exact h (by simpa using e)
     . simp)
theorem ZgR {parts:List (List BA)} {ps:List Piece} {s:BA}:WO parts ps s≠[]:=by
 unfold WO
 split
 . simp
 . rename_i q hq;split
   . intro e;(have:ps=[]:=by simpa using e);subst this;simp at hq
   . simp
theorem Zbb {parts:List (List BA)} {ws:List BA} (h:ws≠[]):LF parts ws=if JZ (PD parts [] ws) then some (PD parts [] ws) else none:=by
 have hne:PD parts [] ws≠[]:=by
  cases ws with
  |nil=>exact Qd rfl h
  |cons s ws=>exact Zir ws _ ZgR
 unfold LF
 rw [Qb h,Rh ws [] rfl,Znc hne]
 cases h1:Ly (PD parts [] ws)
 . simp
 . simp
theorem EG {parts:List (List BA)} {ws:List BA} {k:Nat} {s:BA} (h:ws[k]? =some s):PD parts [] (ws.take (k+1))=WO parts (PD parts [] (ws.take k)) s:=by
 unfold PD
 rw [Z2 h,Uq];rfl
theorem Zda {parts:List (List BA)} {ps:List Piece} {s:BA}:∃m w,WO parts ps s=m++[⟨partOf parts s,w⟩]:=by
 unfold WO
 split
 . exact ⟨[],_,rfl⟩
 . rename_i q hq;obtain ⟨m,rfl⟩:=DK hq;split
   . rename_i h;rw [HK,h];exact ⟨m,_,rfl⟩
   . exact ⟨_,_,rfl⟩
def PE (q:Piece):List PV:=[Zb q.part,ZW q.word]
def Tw (ps:List Piece):PV:= .sl ps.length (ps.flatMap PE)
def Z3 (e:Nat) (q:Piece):List PV:=[Zb q.part, .own e 1 q.word.length (q.word.map Zv)]
theorem G' (q:Piece):(PE q).length=2:=rfl
theorem Yw (e:Nat) (q:Piece):(Z3 e q).length=2:=rfl
theorem ZgS (l:List BA):Wk (l.map Zv)=l.map Zv:=by
 rw [YI,Xz];rfl
theorem Dq (l m:List PV):Wk (l++m)=Wk l++Wk m:=by rw [YI,YI,YI,XW]
theorem Rx (e:Nat) (ps:List Piece):Wk (ps.flatMap (Z3 e))=ps.flatMap PE:=by
 induction ps with
 |nil=>simp [Wk]
 | cons q ps ih=>
   rw [Xr,Xr,Dq,ih];congr 1;simp [Z3,PE,Wk,share,ZgS,ZW]
theorem SO {α β:Type} {f:α->List β} {k:Nat} (hf:∀x,(f x).length=k):∀(l:List α) (i j:Nat) (x y:α) (b:β),l[i]? =some x->j<k->(f x).set j b=f y->(l.flatMap f).set (i*k+j) b=(l.set i y).flatMap f
 |[],i,j,x,y,b,h,_,_=>by simp at h
 | z::l,0,j,x,y,b,h,hj,he=>by
   simp at h;subst h;rw [X8,XA,Xr,List.set_append_left _ _ (by rw [hf];exact hj),he];rfl
 | z::l,i+1,j,x,y,b,h,hj,he=>by
   rw [Xr,Vr _ _ (by rw [hf,X3];omega),hf,show (i+1)*k+j-k=i*k+j by rw [X3];omega,SO hf l i j x y b (by simpa using h) hj he];rfl
end Go.Cb
namespace Go.Proofs.YtmkojdfiadbeeaaGreat
open Go.RowKit Go.Cb Go.En Tryz
theorem Cr:AggT prog 114 2=true:=kR
theorem SP:ElT prog 110 114 2 32 (.agg #[(.int .i64 0),(.slice none 0 0)]):=⟨underlying110,by kernel_rfl,rfl,dC⟩
theorem Dd:ElT prog 26 9 1 16 (.string ByteArray.empty):=⟨underlying26,by kernel_rfl,rfl,dC⟩
theorem LR:FldT prog 114 0 0=true:=kR
theorem Sb:FldT prog 114 1 1=true:=kR
theorem JL:MpT prog 78 9 3 .string (.int .i64 0):=⟨underlying78,underlying9, .inl rfl,by show ZeroT _ _ _;unfold ZeroT;kernel_rfl⟩
theorem K4:NoAgg prog 26=true:=kR
theorem Ot:NoAgg prog 3=true:=kR
theorem JM:NoAgg prog 78=true:=kR
theorem R7:NoAgg prog 9=true:=kR
theorem WS:SlT prog 110 114 2=true:=kR
theorem GJ:SlT prog 26 9 1=true:=kR
theorem DL:Ge prog 114=some ((.agg #[(.int .i64 0),(.slice none 0 0)]),([0,1]:List Nat).map fun o=>(o,1)):=kR
theorem ZbZ:(prog.info? 26).map (·.size)=some 1:=kR
theorem Zal:(prog.info? 3).map (·.size)=some 1:=kR
theorem ZgT:ZeroT prog 114 (.agg #[(.int .i64 0),(.slice none 0 0)]):=by unfold ZeroT;kernel_rfl
theorem PF {es:List (BA×Value)} {s:BA} {n:Int} (h:Ks es s=some (.int .i64 n)):(Kv (skv es) (.string s)).getD (.int .i64 0)= .int .i64 n:=by rw [LH,h];rfl
theorem Zko (parts:List (List BA)) (ws:List BA) (es:List (BA×Value)) (s s0:BA) (h0:ws[0]? =some s0) (hes:∀t∈ws,Ks es t=some (.int .i64 (partOf parts t))) (hs:s∈ws):
 AF prog 111 [Zv s, .sptr 0 [.smap (skv es)], .sptr 0 [ZW ws]] (· =Zr (partOf parts s !=partOf parts s0)):=by
 have hlen:0<ws.length:=by have:=Zd h0;omega
 have m1:=PF (hes s hs)
 have m2:=PF (hes s0 (Xb h0))
 have e1:(ws.map Zv)[(0:Int).toNat*1]? =some (Zv s0):=Yh h0
 refine AF.b3 14 func111 rfl ntmps111 (Xa rfl) ?_
 rintro w0 M0 _ v1 v2 rfl- -
 refine ZD ?_
 refine YJ [] [] ?_<;>(refine yD 0 rfl (Zu JM) fun v5 h=>?_;cases h)<;>refine xD 1 rfl Za ?_<;>refine xD 2 rfl (LM JL) ?_<;>(refine yD 3 rfl (Zu JM) fun v8 h=>?_;cases h)<;>(refine yE 4 rfl (Zu K4) fun v9 h=>?_;cases h)<;>refine xE 5 rfl (Ze GJ) ?_<;>(refine yE 6 rfl (Zu R7) fun v11 h=>?_;cases h)<;>refine xE 7 rfl (LM JL) ?_<;>refine xE 8 rfl LY ?_<;>refine xE 9 rfl ZJ ?_<;>refine WE ?_
 refine Zg (results111) rfl ?_
 congr 2
 by_cases h:partOf parts s=partOf parts s0<;>simp [h]
def Zrd (x:Option (List Piece)) (p:PV):Prop:=match x with
 |none=>p= .tup [.val (.slice none 0 0),Zr false]
 |some ps=>p= .tup [Tw ps,Zr true]
def S2 (parts:List (List BA)) (ws:List BA) (k:Nat):List Piece:=if k=0 then [⟨0,[]⟩] else PD parts [] (ws.take k)
theorem Zfc {parts:List (List BA)}:∀(ws:List BA) (ps:List Piece),(PD parts ps ws).length<=ps.length+ws.length/\∀n,(∀p∈ps,p.word.length<=n)->∀p∈PD parts ps ws,p.word.length<=n+ws.length
 |[],ps=>⟨by simp [PD],fun n h p hp=>by have:=h p hp;simpa using this⟩
 | s :: ws,ps=>by
   have hst:(WO parts ps s).length<=ps.length+1/\∀n,(∀p∈ps,p.word.length<=n)->∀p∈WO parts ps s,p.word.length<=n+1:=by
    unfold WO;split
    . exact ⟨sM,fun n _ p hp=>by simp at hp;subst hp;simp⟩
    . rename_i q hq;split
      . refine ⟨sM,fun n h p hp=>?_⟩;rcases VW hp with h1|h1
        . have:=h p h1;omega
        . rw [h1];have:=h q (Xb hq);simp;omega
      . refine ⟨sM,fun n h p hp=>?_⟩;rcases XB.1 hp with h1|h1
        . have:=h p h1;omega
        . simp at h1;subst h1;simp
   obtain ⟨h1,h2⟩:=Zfc (parts:=parts) ws (WO parts ps s);have h3:=hst.1;refine ⟨by show (PD parts (WO parts ps s) ws).length<=_;rw [Xi];omega,fun n h p hp=>?_⟩;have:=h2 (n+1) (hst.2 n h) p hp;rw [Xi];omega
theorem Zfd (parts:List (List BA)) (ws:List BA) (k:Nat) (hk:k<=ws.length):(S2 parts ws k).length<=k+1/\∀p∈S2 parts ws k,p.word.length<=k:=by
 unfold S2
 split
 . exact ⟨sM,fun p hp=>by simp at hp;subst hp;simp⟩
 . obtain ⟨h1,h2⟩:=Zfc (parts:=parts) (ws.take k) [];have hl:(ws.take k).length=k:=by simp;omega
   rw [hl] at h1 h2;exact ⟨by simp at h1;omega,fun p hp=>by have:=h2 0 sM p hp;omega⟩
theorem Zkp {parts:List (List BA)} {ws:List BA} {k:Nat} {y:BA} (hk:0<k) (hy:ws[k-1]? =some y):∃m w,S2 parts ws k=m++[⟨partOf parts y,w⟩]:=by
 unfold S2
 rw [Qb oM]
 have:=EG (parts:=parts) hy
 rw [show k-1+1=k by omega] at this
 rw [this]
 exact Zda
theorem Zkq {parts:List (List BA)} {ws:List BA} {k:Nat} {s:BA} (hs:ws[k]? =some s) (hk:0<k):S2 parts ws (k+1)=WO parts (S2 parts ws k) s:=by
 unfold S2
 rw [Qb oM,Qb oM]
 exact EG hs
theorem Znd {parts:List (List BA)} {ws:List BA} {s:BA} (hs:ws[0]? =some s):S2 parts ws 1=[⟨partOf parts s,[s]⟩]:=by
 unfold S2
 rw [Qb oM,show (1:Nat)=0+1 from rfl,EG hs]
 rfl
theorem Zre {α β:Type} {zs:List β} {n i:Nat} {p:β} (f:α->β) (h:(List.replicate n zs).flatten[i]? =some p):i / zs.length<n/\zs[i % zs.length]? =some p/\i=i / zs.length*zs.length+i % zs.length:=by
 have hi:=Zd h
 have hl:(List.replicate n zs).flatten.length=n*zs.length:=sM
 rw [hl] at hi
 have hz:0<zs.length:=by
  rcases VY zs.length with h0|h0
  . rw [h0] at hi;omega
  . exact h0
 have hdiv:i / zs.length<n:=by rw [UO hz];exact hi
 have hmod:i % zs.length<zs.length:=Nat.mod_lt _ hz
 have he:i=i / zs.length*zs.length+i % zs.length:=by rw [VF];exact (Uj _ _).symm
 refine ⟨hdiv,?_,he⟩
 have h2:=Yx (f:=fun _:Nat=>zs) (k:=zs.length) (fun _=>rfl) (l:=List.range n) (i:=i / zs.length) (x:=i / zs.length) (by simp [hdiv]) (j:=i % zs.length) hmod
 rw [<-he,show (List.range n).flatMap (fun _=>zs)=(List.replicate n zs).flatten by rw [List.flatMap_def,List.map_const',VN],h] at h2
 exact h2.symm
theorem Zkr (n e:Nat):∀(i:Nat) (p p':PV),(List.replicate n (List.map PV.val [.int .i64 0, .slice none 0 0])).flatten[i]? =some p->((List.replicate n (⟨0,[]⟩:Piece)).flatMap (Z3 e))[i]? =some p'->Zhy p p':=fun i p p' h1 h2=>by
 obtain ⟨hd,hz,he⟩:=Zre (fun x:Nat=>p) h1
 simp only [Xc,Xi,Xy] at hd hz he
 have hm:i % 2<2:=Nat.mod_lt _ dC
 rw [show (0+1+1:Nat)=2 from rfl] at hd hz he
 have h3:=Yx (Yw e) (l:=List.replicate n (⟨0,[]⟩:Piece)) (i:=i / 2) (x:=⟨0,[]⟩) (by rw [List.getElem?_replicate,Qc hd]) (j:=i % 2) hm
 rw [<-he,h2] at h3
 generalize i % 2=r at hz h3 hm
 match r,hz,h3 with
 |0,hz,h3=>simp [Z3] at hz h3;exact .inl (h3.trans hz)
 |1,hz,h3=>simp [Z3] at hz h3;exact .inr ⟨hz.symm,_,_,h3⟩
 |r+2,_,_=>omega
theorem Zne (c :Cut) (ws:List BA) (es:List (BA×Value)) (hes:∀t∈ws,Ks es t=some (.int .i64 (partOf c.parts t))) (hin:∀t∈ws,0<=partOf c.parts t) (hlen:ws.length<=1000) (hn0:0<c.parts.length) (hn1:c.parts.length<=1000000) (hk1:1<=c.kind) (hk4:c.kind<=4):
 AF prog 66 [ZW ws,Zb c.kind,Zb c.parts.length, .smap (skv es)] (Zrd (We c ws)):=by
 refine AF.b4 185 func66 rfl ntmps66 (Xa rfl) ?_
 rintro w0 M0 v0 _ _ v3-rfl rfl-
 refine Zi ?_
 refine ZlT 4 fun h4=>?_;refine ZlT 7 fun h7=>?_;refine J9 ?_;refine JS ?_
 refine Ys rfl ?_ ?_
 . intro hb;have hk:c.kind=1:=Qe hb;refine Zi ?_;refine yU (Zh 4 K4) fun v22=>?_<;>refine xL 23 (Zs GJ) (xL 24 Ky (xL 25 Za ?_))<;>(refine bLd 25 (fun hb25=>?_) (fun hb25=>?_)<;>(first|refine kL ?_|refine yU (Zh 4 K4) fun v26=>?_))<;>(first|refine kL ?_|refine xM Rp ?_)<;>(first|refine kL ?_|(have hcl:ws≠[]:=(fun e=>by subst e;exact hb25 rfl);refine (get_some (show 0<ws.length by cases ws with|nil=>exact Qd rfl hcl|cons=>simp)).elim fun s0 hs0=>?_;refine P4 28 rfl rfl (Xa rfl) (ZlB rfl (call27) (ps:=[ZW ws, .fn 111 [.sptr 0 [.smap (skv es)], .sptr 0 [ZW ws]]]) ⟨⟨_,_,rfl,G2 (x:= .tmp 26) rfl⟩,⟨_,_,rfl,Zjh (l1:=7) (l2:=4) rfl rfl rfl rfl⟩,trivial⟩ (LO 111 _ (fun s=>partOf c.parts s !=partOf c.parts s0) ws (call111) (fun s hs=>Zko c.parts ws es s s0 hs0 hes hs)) (fun p hp=>by rw [hp];rfl)) ?_;rintro p' rfl;refine ⟨rfl,?_⟩;intro v28 hv28;cases hv28))<;>refine ZN ?_<;>refine Zw ?_
   . have h0:ws=[]:=Xv oM;refine Ys rfl ?_ (fun h=>by cases h);intro _;refine ZU ?_;refine Y7 (results66) rfl rfl ?_;rw [h0,CK hk];rfl
   . obtain ⟨l,rfl⟩:∃l,ws=s0::l:=by
      cases ws with
      |nil=>simp at hs0
      |cons a b=>simp at hs0;subst hs0;exact ⟨b,rfl⟩
     have hsp:=ZeM (l:=l) hk (hin s0 sM);refine Ys rfl ?_ ?_
     . intro hb3;refine ZU ?_;refine Y7 (results66) rfl rfl ?_;rw [hsp,hb3];rfl
     . intro hb3;have m2:=PF (hes s0 sM);have e1:((s0::l).map Zv)[(0:Int).toNat*1]? =some (Zv s0):=rfl;refine nav ?_;refine YJ [] [4,7] ?_<;>(refine yD 0 rfl (Zh 7 JM) fun v30 h=>?_;cases h)<;>(refine yD 1 rfl (Zh 4 K4) fun v31 h=>?_;cases h)<;>refine xD 2 rfl (Ze GJ) ?_<;>(refine yD 3 rfl (Zu R7) fun v33 h=>?_;cases h)<;>refine xD 4 rfl (LM JL) ?_<;>(refine yE 5 rfl (Zh 4 K4) fun v35 h=>?_;cases h)<;>refine xE 6 rfl (ZC DL) ?_<;>(refine aDr 7 fun bk=>?_)<;>refine WH 37 SP fun h37 ho37=>?_<;>refine bE bk ?_<;>refine xE 8 rfl ZJ ?_<;>refine xE 9 rfl ZJ ?_<;>refine WE ?_;refine YO (En.freeze (l:=37) (t:=8) rfl rfl) fun _=>?_;refine Y7 (results66) rfl rfl ?_;rw [hsp,hb3];rfl
 . intro hb;have hk:c.kind≠1:=Qf hb;refine ZU ?_;refine Ys rfl ?_ ?_
   . intro hb2;have hk':c.kind=4:=Qe hb2;refine Zi ?_;refine xM (ZC DL) ?_;refine WH 41 SP fun h41 ho41=>?_;refine ZP ?_;refine Zq (TE (l:=41) ([⟨0,[]⟩].flatMap (Z3 9)) rfl rfl (fun i p p' h1 h2=>by
      match i with
      |0=>simp [Z3,RA] at h1 h2;exact .inl (h2.symm.trans h1)
      |1=>simp [Z3,RA] at h1 h2;exact .inr ⟨h1.symm,_,_,h2.symm⟩
      |i+2=>simp [Z3] at h2)) fun _=>?_
     refine Zo ?_;refine yU (Zh 4 K4) fun v42=>?_;refine xL 43 (Zs GJ) (xL 44 Za ?_);refine Zw ?_;refine Yq (ι:={x:Nat×Value//x.1<=ws.length/\x.2.oneCell'=true}) (fun x=>⟨[(4,padd (sbase h4) 0, .val (padd (sbase h4) 0)),(7,padd (sbase h7) 0, .val (padd (sbase h7) 0)),(10,x.1.2, .val x.1.2),(42,v42,ZW ws),(43, .int .i64 ws.length,Zb ws.length),(44, .int .i64 x.1.1,Zb x.1.1)],[(4,h4, .own 26 1 1 [ZW ws]),(7,h7, .own 78 1 1 [.smap (skv es)]),(41,x.1.2, .own 114 2 (S2 c.parts ws x.1.1).length ((S2 c.parts ws x.1.1).flatMap (Z3 9)))]⟩) (fun x=>ws.length-x.1.1) ⟨(0,h41),oM,ho41⟩ ?_;rintro ⟨⟨k,h⟩,hk0,hho⟩;dsimp only at hk0 hho ⊢;refine ZD ?_;refine Ys rfl ?_ ?_
     . intro hb3;(have hlt:k<ws.length:=by have:=Qe hb3;omega);obtain ⟨s,hs⟩:=get_some hlt;have e1:=Yh (f:=Zv) hs;have m1:=PF (hes s (Xb hs));obtain ⟨hol,how⟩:=Zfd c.parts ws k hk0;have hprev:0<k->∃y,ws[k-1]? =some y/\(ws.map Zv)[k-1]? =some (Zv y)/\(Kv (skv es) (.string y)).getD (.int .i64 0)= .int .i64 (partOf c.parts y):=fun h0=>by
        obtain ⟨y,hy⟩:=gS ws (k-1);exact ⟨y,hy,by rw [Xl,hy];rfl,PF (hes y (Xb hy))⟩
       refine Zi ?_;refine xL 46 Za (xL 47 (Ze GJ) ?_);refine yV (Zu R7) ?_;refine KI ?_;refine YJ [] [4,7,41] ?_<;>refine xE 0 rfl Za ?_<;>refine xE 1 rfl Ky ?_<;>refine xE 2 rfl Za ?_<;>(refine bDd 51 (fun hb51=>?_) (fun hb51=>?_)<;>(first|refine kD 3 ?_|(refine yD 3 rfl (Zh 7 JM) fun v52 h=>?_;cases h)))<;>(first|refine kD 4 ?_|refine xD 4 rfl Za ?_)<;>(first|refine kD 5 ?_|refine xD 5 rfl (LM JL) ?_)<;>(first|refine kD 6 ?_|(refine yD 6 rfl (Zh 7 JM) fun v55 h=>?_;cases h))<;>(first|refine kD 7 ?_|(refine yD 7 rfl (Zh 4 K4) fun v56 h=>?_;cases h))<;>(first|refine kD 8 ?_|refine xD 8 rfl Za ?_)<;>(first|refine kD 9 ?_|refine xD 9 rfl LL ?_)<;>(first|refine kD 10 ?_|refine xD 10 rfl (T0 GJ) ?_)<;>(first|refine kD 11 ?_|(refine (hprev oM).elim fun y hy=>?_;refine ZdL 11 60 rfl kR rfl rfl (Xa rfl) (H9 (k-1) R7 rfl rfl oM hy.2.1) ?_;intro v60 hv60;cases hv60;have m2:=hy.2.2))<;>(first|refine kD 12 ?_|refine xD 12 rfl (LM JL) ?_)<;>(first|refine kD 13 ?_|refine xD 13 rfl LY ?_)<;>refine xE 14 rfl YY ?_<;>refine WE ?_;focus (
        have hk00:k=0:=oM;have hs':ws[0]? =some s:=hk00▸hs;(have ho:S2 c.parts ws k=[⟨0,[]⟩]:=by rw [hk00];rfl);rw [ho];refine Ja (ι:={x:Value×List Piece×Piece//x.1.oneCell'=true/\S2 c.parts ws (k+1)=x.2.1++[⟨x.2.2.part,x.2.2.word++[s]⟩]/\x.2.1.length<=k+1/\x.2.2.word.length<=k}) (fun x=>⟨[(4,padd (sbase h4) 0, .val (padd (sbase h4) 0)),(7,padd (sbase h7) 0, .val (padd (sbase h7) 0)),(10,x.1.1, .val x.1.1),(12, .string s,Zv s),(42,v42,ZW ws),(43, .int .i64 ws.length,Zb ws.length),(44, .int .i64 k,Zb k)],[(4,h4, .own 26 1 1 [ZW ws]),(7,h7, .own 78 1 1 [.smap (skv es)]),(41,x.1.1, .own 114 2 (x.1.2.1.length+1) ((x.1.2.1++[x.1.2.2]).flatMap (Z3 9)))]⟩) ?_ ?_
        . refine Ys rfl ?_ (fun h=>by cases h);intro _;refine ZU ?_;refine Ys rfl (fun h=>by have:=Qe h;omega) ?_;intro _;refine Zi ?_;refine xL 70 Za (xL 71 Za (xL 72 (WB 41 WS) (xL 73 LL ?_)));refine yU (Zh 7 JM) fun v74=>?_;refine xL 75 Za (xL 76 (LM JL) (xL 77 (Zj 41 WS) (xL 78 (Zc 41 LR) ?_)));refine LJ 41 0 rfl rfl Ot Zal rfl rfl rfl rfl rfl sM (by simp [Z3]) ?_;refine Zw ?_;exact H7 ⟨(h,[],⟨partOf c.parts s,[]⟩),hho,by rw [hk00,Znd hs'];rfl,sM,sM⟩ sB sB
        )
       rotate_left 1;focus (
        obtain ⟨m0,w0',hlast⟩:=Zkp (parts:=c.parts) (show 0<k by omega) hy.1;have hstep:=Zkq (parts:=c.parts) hs (show 0<k by omega);rw [hlast] at hol how hstep;have hgl:=Znb m0 ⟨partOf c.parts y,w0'⟩;rw [hlast];have hol':(m0++[(⟨partOf c.parts y,w0'⟩:Piece)]).length=m0.length+1:=sM;refine Ja (ι:={x:Value×List Piece×Piece//x.1.oneCell'=true/\S2 c.parts ws (k+1)=x.2.1++[⟨x.2.2.part,x.2.2.word++[s]⟩]/\x.2.1.length<=k+1/\x.2.2.word.length<=k}) (fun x=>⟨[(4,padd (sbase h4) 0, .val (padd (sbase h4) 0)),(7,padd (sbase h7) 0, .val (padd (sbase h7) 0)),(10,x.1.1, .val x.1.1),(12, .string s,Zv s),(42,v42,ZW ws),(43, .int .i64 ws.length,Zb ws.length),(44, .int .i64 k,Zb k)],[(4,h4, .own 26 1 1 [ZW ws]),(7,h7, .own 78 1 1 [.smap (skv es)]),(41,x.1.1, .own 114 2 (x.1.2.1.length+1) ((x.1.2.1++[x.1.2.2]).flatMap (Z3 9)))]⟩) ?_ ?_
        . refine Ys rfl ?_ ?_
          . intro hb4;have hne:partOf c.parts s≠partOf c.parts y:=Qe hb4;have hst2:S2 c.parts ws (k+1)=(m0++[(⟨partOf c.parts y,w0'⟩:Piece)])++[⟨partOf c.parts s,[]++[s]⟩]:=by
             rw [hstep];unfold WO;rw [hgl];simp [Ne.symm hne]
            have hfl:=Ya (Yw 9) (m0++[(⟨partOf c.parts y,w0'⟩:Piece)]);refine ZU ?_;refine Ys rfl ?_ (fun h=>by have:=Qf h;omega);intro _;refine Zi ?_;refine xL 66 Za (xL 67 (ZC DL) ?_);refine WH 68 SP fun h68 ho68=>?_;refine Wc 41 68 69 SP fun h69 ho69=>?_;refine ZP ?_;refine Zq (TE (l:=69) (((m0++[(⟨partOf c.parts y,w0'⟩:Piece)]).flatMap (Z3 9))++[Zb 0, .own 9 1 0 []]) rfl (by simp [RA]) (ON _ _ _ _)) fun _=>?_;refine Zq (ZM (l:=69) 41 rfl rfl) fun _=>?_;refine Zo ?_;refine xL 70 Za (xL 71 Za (xL 72 (WB 41 WS) (xL 73 LL ?_)));refine yU (Zh 7 JM) fun v74=>?_;refine xL 75 Za (xL 76 (LM JL) (xL 77 (P8 41 WS) (xL 78 (Zc 41 LR) ?_)));refine LJ 41 ((m0.length+1)*2) rfl rfl Ot Zal rfl rfl rfl rfl rfl oM (by rw [Xf,hfl];simp) ?_;refine Zw ?_;have hcs:((((m0++[(⟨partOf c.parts y,w0'⟩:Piece)]).flatMap (Z3 9))++[Zb 0, .own 9 1 0 []]).set ((m0.length+1)*2) (Zb (partOf c.parts s)))=((m0++[(⟨partOf c.parts y,w0'⟩:Piece)])++[(⟨partOf c.parts s,[]⟩:Piece)]).flatMap (Z3 9):=by
             rw [Vr _ _ (by rw [hfl,hol'];exact Xd _),hfl,hol',Vl];simp only [XY];rfl
            exact H7 ⟨(h69,m0++[⟨partOf c.parts y,w0'⟩],⟨partOf c.parts s,[]⟩),ho69,hst2,by show (m0++[(⟨partOf c.parts y,w0'⟩:Piece)]).length<=k+1;omega,sM⟩ sB ⟨rfl,rfl,by show some _=some _;rw [hcs],trivial⟩
          . intro hb4;(have heq:partOf c.parts s=partOf c.parts y:=by have:=Qf hb4;omega);have hst2:S2 c.parts ws (k+1)=m0++[⟨partOf c.parts y,w0'++[s]⟩]:=by
             rw [hstep];unfold WO;rw [hgl];simp only [];rw [Qc heq.symm,HK]
            refine nav ?_;exact H7 ⟨(h,m0,⟨partOf c.parts y,w0'⟩),hho,hst2,by show m0.length<=k+1;omega,how _ sM⟩ sB ⟨rfl,rfl,by show some _=some _;rw [hol'],trivial⟩
        )
       all_goals (
        rintro ⟨⟨h9,m,q⟩,hh9,hout,hm1,hq1⟩;dsimp only at hh9 hout hm1 hq1 ⊢;have hqat:(m++[q])[m.length]? =some q:=sM;have hfl:=Ya (Yw 9) (m++[q]);(have hfl2:((m++[q]).flatMap (Z3 9)).length=m.length*2+2:=by rw [hfl];simp;omega);have hcell:=Yx (Yw 9) hqat (j:=1) dC;refine Zq (focus (l:=41) (l':=500) (j:=m.length*2+1) rfl hcell rfl) fun v=>?_;have hc2:(((m++[q]).flatMap (Z3 9)).set (m.length*2+1) (.val v))[m.length*2+1]? =some (.val v):=XJ oM;refine Zi ?_;refine xL 79 Za (xL 80 Za (xL 81 (WB 41 WS) (xL 82 LL (xL 83 Za (xL 84 Za (xL 85 (WB 41 WS) (xL 86 LL (xL 87 (P8 41 WS) (xL 88 (Zc 41 Sb) ?_)))))))));refine Za3 89 rfl rfl (Xa rfl) (Jd 41 (m.length*2+1) K4 rfl rfl rfl oM hc2 rfl) ?_;intro v89 hv89;cases hv89;refine ZN ?_;refine WC (kk:=1) 91 Dd fun h91 ho91=>?_;refine Wc 500 91 92 Dd fun h92 ho92=>?_;refine xL 93 (P8 41 WS) (xL 94 (Zc 41 Sb) ?_);refine LJ 41 (m.length*2+1) rfl rfl K4 ZbZ rfl rfl rfl (by assumption) rfl oM (by rw [Xn,hfl2];omega) ?_;refine Zw ?_;have hc3:((((m++[q]).flatMap (Z3 9)).set (m.length*2+1) (.val v)).set (m.length*2+1) (.val h92))[m.length*2+1]? =some (.val h92):=XJ (by rw [Xn];omega);refine Zq (L9 (l:=41) (l':=92) (j:=m.length*2+1) rfl hc3 rfl rfl) fun _=>?_;have hcs:(((((m++[q]).flatMap (Z3 9)).set (m.length*2+1) (.val v)).set (m.length*2+1) (.val h92)).set (m.length*2+1) (.own 9 1 (q.word.length+1) (q.word.map Zv++[Zv s])))=(S2 c.parts ws (k+1)).flatMap (Z3 9):=by
         rw [X4,X4,hout,SO (Yw 9) (m++[q]) m.length 1 q ⟨q.part,q.word++[s]⟩ _ hqat dC (by simp [Z3])];congr 1;rw [Vr _ _ (Xd _),Vl];rfl
        refine Gf ?_;exact Zf ⟨(k+1,h9),by show k+1<=ws.length;omega,hh9⟩ (by show ws.length-(k+1)<ws.length-k;omega) sB ⟨rfl,rfl,by show some _=some _;rw [hcs,hout];simp,trivial⟩
        )
     . intro hb3;(have hge:k=ws.length:=by have:=Qf hb3;omega);have hfin:We c ws=if JZ (S2 c.parts ws k) then some (S2 c.parts ws k) else none:=by
        unfold We;rw [Qc hk'];by_cases h0:ws=[]
        . (have:k=0:=by rw [hge,h0];rfl);rw [h0,this];rfl
        . have hk1':k≠0:=fun e=>h0 (Xv oM);rw [Zbb h0];unfold S2;rw [Qb hk1',hge,Xx]
       obtain ⟨hol,_⟩:=Zfd c.parts ws k hk0;generalize S2 c.parts ws k=out at hfin hol ⊢;refine Zi ?_;refine xL 96 Za (xL 97 (WB 41 WS) (xL 98 Za ?_));refine Zw ?_;refine Yq (ι:={j:Nat//j<=out.length/\∀i,i<j->Jp out i=false}) (fun j=>⟨[(10,h, .val h),(96,h, .val h),(97, .int .i64 out.length,Zb out.length),(98, .int .i64 j.1,Zb j.1)],[(41,h, .own 114 2 out.length (out.flatMap (Z3 9)))]⟩) (fun j=>out.length-j.1) ⟨0,oM,oM⟩ ?_;rintro ⟨j,hj,hprej⟩;dsimp only at hj hprej ⊢;refine ZD ?_;refine Ys rfl ?_ ?_
       . intro hb4;(have hltj:j<out.length:=by have:=Qe hb4;omega);obtain ⟨q,hq⟩:=get_some hltj;have hcell:=Yx (Yw 9) hq (j:=1) dC;have hfl:=Ya (Yw 9) out;have hfit:=W9 (Yw 9) hq;refine Zq (TW (l:=41) (l':=500) (j:=j*2+1) rfl hcell rfl rfl) fun v=>?_;obtain ⟨v,hv1⟩:=v;dsimp only;have hD:((((out.flatMap (Z3 9)).set (j*2+1) (.val v)).drop (j*2)).take 2)=[Zb q.part, .val v]:=by
          rw [List.drop_set,Qb oM,List.take_set,Wr (Yw 9) out j q hq,show j*2+1-j*2=1 by omega];rfl
         have hnext:j+1<out.length->∃q',out[j+1]? =some q'/\((out.flatMap (Z3 9)).set (j*2+1) (.val v))[(j+1)*2+0]? =some (Zb q'.part):=fun h1=>by
          obtain ⟨q',hq'⟩:=get_some h1;refine ⟨q',hq',?_⟩;rw [X9 oM,Yx (Yw 9) hq' (j:=0) dC];rfl
         refine Zi ?_;refine xL 100 Za (xL 101 (Zj 41 WS) ?_);refine yU (Zn 41 Cr) fun v102=>?_;refine Zt [(.int .i64 0),(.slice none 0 0)] 2 14 ZgT fun h14=>?_;refine ZN ?_;refine Zp 14 Cr ?_;refine Ym ?_;refine xM (Zc 14 LR) ?_<;>refine yV (Zh 14 Ot) ?_<;>refine ZO ?_<;>(refine bLd 106 (fun hb106=>?_) (fun hb106=>?_)<;>refine kZ ?_)<;>refine kZ ?_<;>refine kZ ?_<;>(first|refine kL ?_|(refine bLd 109 (fun hb109=>?_) (fun hb109=>?_)<;>refine kZ ?_))<;>refine kZ ?_<;>(first|refine kL ?_|refine xM (WB 41 WS) ?_)<;>refine kZ ?_<;>refine kZ ?_<;>refine kZ ?_<;>refine kZ ?_<;>(first|refine kL ?_|(refine bLd 116 (fun hb116=>?_) (fun hb116=>?_)<;>refine kZ ?_))<;>refine kZ ?_<;>refine kZ ?_<;>(first|refine kL ?_|refine xM (Zj 41 WS) ?_)<;>(first|refine kL ?_|refine xM (Zc 41 LR) ?_)<;>(first|refine kL ?_|(refine (hnext oM).elim fun q' hq'=>?_;refine Za3 122 rfl rfl (Xa rfl) (Jd 41 ((j+1)*2+0) Ot rfl rfl rfl (by first|rfl|omega) hq'.2 rfl) ?_;intro v122 hv122;cases hv122))<;>refine kZ ?_<;>refine kZ ?_<;>refine ZN ?_<;>refine Zw ?_
         . have hj0:j=0:=oM;(have hbp:Jp out j=true:=by unfold Jp;rw [hq];simp [hb106,hj0]);have hbad:JZ out=false:=by
            unfold JZ;rw [V6];exact ⟨j,XQ.2 hltj,by rw [hbp];simp⟩
           refine Ys rfl ?_ (fun h=>by cases h);intro _;refine ZU ?_;refine Y7 (results66) rfl rfl ?_;rw [hfin,hbad];rfl
         . have hj0:j=out.length-1:=oM;(have hbp:Jp out j=true:=by unfold Jp;rw [hq];simp [hb106,hj0]);have hbad:JZ out=false:=by
            unfold JZ;rw [V6];exact ⟨j,XQ.2 hltj,by rw [hbp];simp⟩
           refine Ys rfl ?_ (fun h=>by cases h);intro _;refine ZU ?_;refine Y7 (results66) rfl rfl ?_;rw [hfin,hbad];rfl
         . refine Ys rfl ?_ ?_
           . intro hb5;have hb5:=Qe hb5;(have hbp:Jp out j=true:=by unfold Jp;rw [hq];rw [hq'.1];simp [hb106,hb5]);have hbad:JZ out=false:=by
              unfold JZ;rw [V6];exact ⟨j,XQ.2 hltj,by rw [hbp];simp⟩
             refine ZU ?_;refine Y7 (results66) rfl rfl ?_;rw [hfin,hbad];rfl
           . intro hb5;(have hb5:q'.part=0:=by have:=Qf hb5;omega);have hja:j≠0:=oM;have hjb:j≠out.length-1:=oM;refine ZU ?_;(have hbp:Jp out j=false:=by unfold Jp;rw [hq];rw [hq'.1];simp [hb5,hja,hjb]);refine ZK (L9 (l:=41) (l':=500) (j:=j*2+1) rfl (XJ oM) rfl rfl) fun _=>?_;have hcs:(((out.flatMap (Z3 9)).set (j*2+1) (.val v)).set (j*2+1) (.own 9 1 q.word.length (q.word.map Zv)))=out.flatMap (Z3 9):=by
              rw [X4];exact Hv hcell
             refine Zf ⟨j+1,oM,fun i hi=>?_⟩ (by show out.length-(j+1)<out.length-j;omega) sB ⟨by show some _=some _;rw [hcs],trivial⟩;by_cases e:i=j
             . subst e;exact hbp
             . exact hprej i oM
         . have hz:q.part=0:=oM;refine Ys rfl (fun h=>by cases h) ?_;intro _;refine ZU ?_;(have hbp:Jp out j=false:=by unfold Jp;rw [hq];simp [hz]);refine ZK (L9 (l:=41) (l':=500) (j:=j*2+1) rfl (XJ oM) rfl rfl) fun _=>?_;have hcs:(((out.flatMap (Z3 9)).set (j*2+1) (.val v)).set (j*2+1) (.own 9 1 q.word.length (q.word.map Zv)))=out.flatMap (Z3 9):=by
            rw [X4];exact Hv hcell
           refine Zf ⟨j+1,oM,fun i hi=>?_⟩ (by show out.length-(j+1)<out.length-j;omega) sB ⟨by show some _=some _;rw [hcs],trivial⟩;by_cases e:i=j
           . subst e;exact hbp
           . exact hprej i oM
       . intro hb4;(have hgej:out.length<=j:=by have:=Qf hb4;omega);have hgood:JZ out=true:=by
          unfold JZ;rw [Xj];intro i hi;rw [hprej i (by have:=XQ.1 hi;omega)];rfl
         refine Y2 ?_;refine YO (En.freeze (l:=41) (t:=8) rfl rfl) fun _=>?_;refine Y7 (results66) rfl rfl ?_;rw [hfin,hgood];show _=_;simp only [share,Rx];rfl
   . intro hb2;have hk':c.kind≠4:=Qf hb2;refine Wp ?_;refine ZoH [(.int .i64 0),(.slice none 0 0)] 129 SP fun h129 ho129=>?_;refine ZP ?_;have hini:(List.replicate c.parts.length (⟨0,[]⟩:Piece))=KG (initPs c.parts.length):=(ZeN _).symm;refine Zq (TE (l:=129) ((List.replicate c.parts.length (⟨0,[]⟩:Piece)).flatMap (Z3 9)) rfl (by rw [Ya (Yw 9)];simp) (Zkr _ _)) fun _=>?_;rw [hini];refine Zo ?_;refine yU (Zh 4 K4) fun v130=>?_;refine xL 131 (Zs GJ) (xL 132 Za ?_);refine Zw ?_;refine Yq (ι:={x:Nat×List Piece×Int//x.1<=ws.length/\splitGo c.kind c.parts true 0 (initPs c.parts.length) ws=splitGo c.kind c.parts (decide (x.1=0)) x.2.2 x.2.1 (ws.drop x.1)/\InPlace x.2.1/\x.2.1.length=c.parts.length/\(∀p∈x.2.1,p.word.length<=x.1)/\(x.1=0->x.2.2=0)/\∀y,0<x.1->ws[x.1-1]? =some y->x.2.2=partOf c.parts y}) (fun x=>⟨[(1, .int .i64 c.kind,Zb c.kind),(4,padd (sbase h4) 0, .val (padd (sbase h4) 0)),(7,padd (sbase h7) 0, .val (padd (sbase h7) 0)),(15,h129, .val h129),(130,v130,ZW ws),(131, .int .i64 ws.length,Zb ws.length),(132, .int .i64 x.1.1,Zb x.1.1)],[(4,h4, .own 26 1 1 [ZW ws]),(7,h7, .own 78 1 1 [.smap (skv es)]),(129,h129, .own 114 2 c.parts.length ((KG x.1.2.1).flatMap (Z3 9)))]⟩) (fun x=>ws.length-x.1.1) ⟨(0,initPs c.parts.length,0),by show 0<=ws.length;omega,sM,Zc1 _,Tb _,fun p hp=>by rw [E5 hp];simp,fun _=>rfl,fun y h=>by simp at h⟩ ?_;rintro ⟨⟨k,ps,last⟩,hk0,hgo,hin',hpl,hpw,hl0,hl1⟩;dsimp only at hk0 hgo hin' hpl hpw hl0 hl1 ⊢;refine ZD ?_;refine Ys rfl ?_ ?_
     . intro hb3;(have hlt:k<ws.length:=by have:=Qe hb3;omega);obtain ⟨s,hs⟩:=get_some hlt;have hsm:=Xb hs;have e1:=Yh (f:=Zv) hs;have m1:=PF (hes s hsm);have hge0:=hin s hsm;obtain ⟨i,hi⟩:∃i:Nat,partOf c.parts s=i:=⟨(partOf c.parts s).toNat,oM⟩;(have hilt:i<c.parts.length:=by have:=OM c.parts s;omega);have hprev:0<k->∃y,ws[k-1]? =some y/\(ws.map Zv)[k-1]? =some (Zv y)/\(Kv (skv es) (.string y)).getD (.int .i64 0)= .int .i64 (partOf c.parts y):=fun h0=>by
        obtain ⟨y,hy⟩:=gS ws (k-1);exact ⟨y,hy,by rw [Xl,hy];rfl,PF (hes y (Xb hy))⟩
       have hgo2:splitGo c.kind c.parts (decide (k=0)) last ps (ws.drop k)=if JP c.kind (decide (k=0)) (partOf c.parts s) last then none else splitGo c.kind c.parts false (partOf c.parts s) (Jr ps (partOf c.parts s).toNat s) (ws.drop (k+1)):=by
        rw [WL hs,splitGo]
       (have hk1n:(c.kind==1)=false:=by simpa using hk);rw [hi] at m1;obtain ⟨q,hq⟩:=gS ps i;have hqn:=Ev hq;have hcell:=Yx (Yw 9) hqn (j:=1) dC;have hfl:=Ya (Yw 9) (KG ps);rw [DC] at hfl;have hqw:q.word.length<=k:=hpw q (Xb hq);refine Zi ?_;refine xL 134 Za (xL 135 (Ze GJ) ?_);refine yV (Zu R7) ?_;refine KI ?_;refine YJ [] [4,7,129] ?_<;>refine xE 0 rfl Za ?_<;>refine xE 1 rfl Ky ?_<;>refine xE 2 rfl Za ?_<;>(refine bDd 139 (fun hb139=>?_) (fun hb139=>?_)<;>(first|refine kD 3 ?_|refine xD 3 rfl Za ?_))<;>(first|refine kD 4 ?_|refine xD 4 rfl Jw ?_)<;>refine xE 5 rfl YY ?_<;>refine xE 6 rfl Za ?_<;>(first|refine kD 7 ?_|(refine bDd 143 (fun hb143=>?_) (fun hb143=>?_)<;>(first|refine kD 7 ?_|(refine yD 7 rfl (Zh 7 JM) fun v144 h=>?_;cases h))))<;>(first|refine kD 8 ?_|refine xD 8 rfl Za ?_)<;>(first|refine kD 9 ?_|refine xD 9 rfl (LM JL) ?_)<;>(first|refine kD 10 ?_|(refine yD 10 rfl (Zh 7 JM) fun v147 h=>?_;cases h))<;>(first|refine kD 11 ?_|(refine yD 11 rfl (Zh 4 K4) fun v148 h=>?_;cases h))<;>(first|refine kD 12 ?_|refine xD 12 rfl Za ?_)<;>(first|refine kD 13 ?_|refine xD 13 rfl LL ?_)<;>(first|refine kD 14 ?_|refine xD 14 rfl (T0 GJ) ?_)<;>(first|refine kD 15 ?_|(refine (hprev oM).elim fun y hy=>?_;refine ZdL 15 152 rfl kR rfl rfl (Xa rfl) (H9 (k-1) R7 rfl rfl oM hy.2.1) ?_;intro v152 hv152;cases hv152;have m2:=hy.2.2))<;>(first|refine kD 16 ?_|refine xD 16 rfl (LM JL) ?_)<;>(first|refine kD 17 ?_|refine xD 17 rfl Yj ?_)<;>refine xE 18 rfl YY ?_<;>refine WE ?_;focus (
        have hlast:last=partOf c.parts y:=hl1 y oM hy.1;refine Ys rfl ?_ ?_
        . intro hb4;have hb4:=Qe hb4;have hno:We c ws=none:=by
           unfold We;rw [Qb hk',hgo,hgo2];have:JP c.kind (decide (k=0)) (partOf c.parts s) last=true:=by
            unfold JP;rw [hi,hlast,hb139];simp [hb4]
           rw [this];rfl
          refine ZU ?_;refine Y7 (results66) rfl rfl ?_;rw [hno];rfl
        intro hb4;have hb4:=Qf hb4;have hnb:JP c.kind (decide (k=0)) (partOf c.parts s) last=false:=by
         unfold JP;rw [hk1n,hi,hlast];simp;intro _;omega
        refine nav ?_
        )
       rotate_left 1;focus (
        have hnb:JP c.kind (decide (k=0)) (partOf c.parts s) last=false:=by
         unfold JP;rw [hk1n,hi,hl0 oM];simp
        refine Ys rfl (fun h=>by cases h) ?_;intro _;refine nav ?_
        )
       rotate_left 1;focus (
        have hnb:JP c.kind (decide (k=0)) (partOf c.parts s) last=false:=by
         unfold JP;rw [hk1n];simp [hb139]
        refine Ys rfl (fun h=>by cases h) ?_;intro _;refine nav ?_
        )
       all_goals (
        refine Zq (TW (l:=129) (l':=500) (j:=i*2+1) rfl hcell rfl rfl) fun v=>?_;obtain ⟨v,hv1⟩:=v;dsimp only;have hc2:(((KG ps).flatMap (Z3 9)).set (i*2+1) (.val v))[i*2+1]? =some (.val v):=XJ oM;(refine YJ [16] [4,7,129] ?_<;>refine xD 0 rfl Za ?_<;>(refine yD 1 rfl (Zh 7 JM) fun v157 h=>?_;cases h)<;>refine xD 2 rfl Za ?_<;>refine xD 3 rfl (LM JL) ?_<;>refine xD 4 rfl Za ?_<;>(refine yD 5 rfl (Zh 7 JM) fun v161 h=>?_;cases h)<;>refine xD 6 rfl Za ?_<;>refine xD 7 rfl (LM JL) ?_<;>refine xD 8 rfl (Zj 129 WS) ?_<;>refine xD 9 rfl (Zc 129 Sb) ?_<;>(refine ZdL 10 166 rfl kR rfl rfl (Xa rfl) (Jd 129 (i*2+1) K4 rfl rfl rfl (by first|rfl|omega) hc2 rfl) ?_;intro v166 hv166;cases hv166)<;>refine xE 11 rfl Za ?_<;>(refine aDr 12 fun bk=>?_)<;>refine WC (kk:=1) 168 Dd fun h168 ho168=>?_<;>refine bE bk ?_<;>(refine aDr 13 fun bk=>?_)<;>refine Wc 500 168 169 Dd fun h169 ho169=>?_<;>refine bE bk ?_<;>refine xE 14 rfl (Zj 129 WS) ?_<;>refine xE 15 rfl (Zc 129 Sb) ?_<;>(refine ZY 16 kR ?_)<;>(refine Ww rfl rfl kR fun DQ bk=>?_)<;>(refine LJ 129 (i*2+1) rfl rfl K4 ZbZ rfl rfl rfl (by assumption) rfl (by first|rfl|omega) (by rw [Xn,hfl];omega) ?_)<;>refine WA (bk _ (nav ?_))<;>try dsimp only)
        have hc3:((((KG ps).flatMap (Z3 9)).set (i*2+1) (.val v)).set (i*2+1) (.val h169))[i*2+1]? =some (.val h169):=XJ (by rw [Xn];omega);refine Zq (L9 (l:=129) (l':=169) (j:=i*2+1) rfl hc3 rfl rfl) fun _=>?_;have hcs:((((KG ps).flatMap (Z3 9)).set (i*2+1) (.val v)).set (i*2+1) (.val h169)).set (i*2+1) (.own 9 1 (q.word.length+1) (q.word.map Zv++[Zv s]))=(KG (Jr ps i s)).flatMap (Z3 9):=by
         rw [X4,X4,SO (Yw 9) (KG ps) i 1 ⟨0,q.word⟩ ⟨0,q.word++[s]⟩ _ hqn dC (by simp [Z3]),ZgA s hq]
        refine Gf ?_;refine Zf ⟨(k+1,Jr ps i s,(i:Int)),by show k+1<=ws.length;omega,?_,hin'.add i s,by show (Jr ps i s).length=_;rw [H8];exact hpl,?_,fun h=>by simp at h,fun y _ hy=>?_⟩ (by show ws.length-(k+1)<ws.length-k;omega) sB ⟨rfl,rfl,by show some _=some _;rw [hcs],trivial⟩
        . show _=splitGo c.kind c.parts (decide (k+1=0)) (i:Int) (Jr ps i s) (ws.drop (k+1));rw [hgo,hgo2,hnb,hi,XG,show decide (k+1=0)=false by simp];rfl
        . intro p hp;show p.word.length<=k+1;change p∈Jr ps i s at hp
          rw [Ta hq] at hp;rcases VW hp with h1|h1
          . have:=hpw p h1;omega
          . rw [h1];simp;omega
        . have:y=s:=by
           have h1:ws[k+1-1]? =some y:=hy;rw [UG,hs] at h1;cases h1;rfl
          rw [this];exact hi.symm
        )
     . intro hb3;(have hge:ws.length<=k:=by have:=Qf hb3;omega);have hfin:We c ws=some ps:=by
        unfold We;rw [Qb hk',hgo,XN hge,splitGo];simp only [];rw [Qb hk]
       refine Zi ?_;refine xL 173 Za (xL 174 (WB 129 WS) (xL 175 Za ?_));refine Zw ?_;refine Yq (ι:={j:Nat//j<=ps.length}) (fun j=>⟨[(15,h129, .val h129),(174, .int .i64 c.parts.length,Zb c.parts.length),(175, .int .i64 j.1,Zb j.1)],[(129,h129, .own 114 2 c.parts.length ((ps.take j.1++(KG ps).drop j.1).flatMap (Z3 9)))]⟩) (fun j=>ps.length-j.1) ⟨0,oM⟩ ?_;rintro ⟨j,hj⟩;dsimp only at hj ⊢;refine ZD ?_;refine Ys rfl ?_ ?_
       . intro hb4;(have hltj:j<ps.length:=by have:=Qe hb4;omega);obtain ⟨q,hq⟩:=get_some hltj;have hat:=Zpk hq;have hfl:=Ya (Yw 9) (ps.take j++(KG ps).drop j);rw [ZmS ps j hj] at hfl;have hcs:(((ps.take j++(KG ps).drop j).flatMap (Z3 9)).set (j*2+0) (Zb (j:Int)))=(ps.take (j+1)++(KG ps).drop (j+1)).flatMap (Z3 9):=by
          rw [SO (Yw 9) _ j 0 ⟨0,q.word⟩ ⟨(j:Int),q.word⟩ (Zb (j:Int)) hat dC rfl,ZjV hin' hq]
         refine Jx ?_;refine xL 178 Za (xL 179 Za (xL 180 Za (xL 181 (Zj 129 WS) (xL 182 (Zc 129 LR) ?_))))<;>(refine LJ 129 (j*2+0) rfl rfl Ot Zal rfl rfl rfl rfl rfl (by first|rfl|omega) (by rw [hfl];omega) ?_)<;>refine Ym ?_;refine KI ?_;exact Zf ⟨j+1,oM⟩ (by show ps.length-(j+1)<ps.length-j;omega) sB ⟨by show some _=some _;rw [hcs],trivial⟩
       . intro hb4;(have hgej:ps.length<=j:=by have:=Qf hb4;omega);have hall:ps.take j++(KG ps).drop j=ps:=by
          rw [Xt hgej,XN (by rw [DC];exact hgej),Xo]
         refine Y2 ?_;refine YO (En.freeze (l:=129) (t:=8) rfl rfl) fun _=>?_;refine Y7 (results66) rfl rfl ?_;rw [hfin,hall];show _=_;simp only [share,Rx,<-hpl];rfl
open Go.RowKit Go.Cb
theorem Zks (s:BA) (w:World):Calls prog 198 #[.string s] w fun e w'=>e= .returned (.bool false)/\w=w':=by
 go_enter func198,ntmps198
 go_wp2
 go_ret
 exact ⟨sM,rfl⟩
theorem Zis (a b:BA) (w:World):Calls prog 137 #[.string a, .string b] w fun e w'=>e= .returned (.int .i64 (Yd a b))/\w=w':=by
 cases h1:Op.bytesLess a.toList b.toList<;>cases h2:(a.toList==b.toList)
 all_goals
  have H1:=Lib.hid h1;have H2:=Lib.hid h2;go_enter func137,ntmps137
  go_wp2_with (go_at_call 198;refine (Zks _ _).mono ?_;rintro e w' ⟨rfl,rfl⟩)
  go_ret
  refine ⟨OJ ?_,rfl⟩;simp [Yd,strLt,W4,H1.out,H2.out]
theorem Zdb (l m:List BA) (v u:Value) (w:World) {M:Mut} (hl:Strs M w v l) (hm:Strs M w u m):
 Calls prog 99 #[v,u] w fun e w'=>e= .returned (.int .i64 (cmpStrs l m))/\w=w':=by
 have hlen:=hl.len
 have hmen:=hm.len
 rcases hl.cases with ⟨a1,c1,rfl,rfl,hc1⟩|⟨b1,off1,c1,rfl,hlc1,hc1,h01,hE1⟩
 . obtain ⟨a2,c2,rfl,hm1,hm2,hm3⟩:=hm;clear hm3 hl
   cases m with
   | nil=>
     go_enter func99,ntmps99
     go_wp2_with fail
     go_rounds 1
     go_ret
     exact ⟨rfl,rfl⟩
   | cons y m=>
     simp only [Xi] at*;go_enter func99,ntmps99
     go_wp2_with fail
     go_rounds 1
     go_ret
     exact ⟨rfl,rfl⟩
 . have HE1 :=Lib.hid hE1;clear hE1 hl;rcases hm.cases with ⟨a2,c2,rfl,rfl,hc2⟩|⟨b2,off2,c2,rfl,hlc2,hc2,h02,hE2⟩
   . clear hm;obtain ⟨x,hx⟩:=get_some h01;(have hcell:w.cell? ⟨b1,off1,none⟩=some (.string x):=by have:=(HE1.out 0 x hx).1.1;simpa using this);have HX:=Lib.hid hx;clear hx;go_enter func99,ntmps99
     go_wp2_with fail
     go_rounds 1
     go_ret
     refine ⟨OJ ?_,rfl⟩
     cases l with
     |nil=>simp at h01
     |cons y l=>simp [cmpStrs]
   . have HE2 :=Lib.hid hE2;clear hE2 hm;go_enter func99,ntmps99
     go_wp2_with fail
     go_loop [11] (fun i=>∃k:Nat,k<=l.length/\k<=m.length/\i= .int .i64 k/\Hid (cmpStrs l m=cmpStrs (l.drop k) (m.drop k))) (fun i=>l.length-(intOf i).toNat)
     case atStart=>exact ⟨0,oM,oM,rfl,rfl⟩
     case round=>
      obtain ⟨k,hk,hk2,rfl,hpre⟩:=hrel;by_cases hlt:k<l.length
      . obtain ⟨x,hx⟩:=get_some hlt;have hcx:=(HE1.out k x hx).1.1;rw [XI] at hcx;have HX:=Lib.hid hx;clear hx;by_cases hlt2:k<m.length
        . obtain ⟨y,hy⟩:=get_some hlt2;have hcy:=(HE2.out k y hy).1.1;rw [XI] at hcy;have HY:=Lib.hid hy;clear hy;by_cases h0:Yd x y=0
          . have H0:=Lib.hid h0;clear h0;go_wp2_with (go_at_call 137;refine (Zis _ _ _).mono ?_;rintro e w' ⟨rfl,rfl⟩;rw [H0.out])
            go_round
            case rel=>
             refine ⟨k+1,oM,oM,by go_num,?_⟩;show cmpStrs l m=_;rw [hpre.out,WL HX.out,WL HY.out,cmpStrs,Qc H0.out]
            case measure=>simp [intOf];omega
          . (have hb:(Yd x y !=0)=true:=by simpa using h0);have H0:=Lib.hid h0;clear h0;go_wp2_with (go_at_call 137;refine (Zis _ _ _).mono ?_;rintro e w' ⟨rfl,rfl⟩)
            go_ret
            refine ⟨OJ ?_,rfl⟩;rw [hpre.out,WL HX.out,WL HY.out,cmpStrs,Qb H0.out]
        . go_wp2_with fail
          go_ret
          refine ⟨OJ ?_,rfl⟩;rw [hpre.out,WL HX.out,XN (by omega:m.length<=k),cmpStrs]
      . by_cases hlt2:k<m.length
        . obtain ⟨y,hy⟩:=get_some hlt2;have HY:=Lib.hid hy;clear hy;go_wp2_with fail
          go_ret
          refine ⟨OJ ?_,rfl⟩;rw [hpre.out,WL HY.out,XN (by omega:l.length<=k),cmpStrs]
        . go_wp2_with fail
          go_ret
          refine ⟨OJ ?_,rfl⟩;rw [hpre.out,XN (by omega:m.length<=k),XN (by omega:l.length<=k),cmpStrs]
theorem Zbc (l m:List BA) (v u:Value) (w:World) {M:Mut} (hl:Strs M w v l) (hm:Strs M w u m):
 Calls prog 42 #[v,u] w fun e w'=>e= .returned (.int .i64 (cmpStrs l m))/\w=w':=by
 have HP:=Lib.hid (Zdb l m v u w hl hm);clear hl hm
 go_enter func42,ntmps42
 go_wp2_with (go_at_call 99;refine HP.out.mono ?_;rintro e w' ⟨rfl,rfl⟩)
 go_ret
 exact ⟨rfl,rfl⟩
theorem Zrf {α:Type} {k:Nat} {E:Elt α} {f:α->List PV} (hf:∀x,(f x).length=k) {M:BS} {w:World} {v:Value} {l:List α} (h:Shr M w v (.sl l.length (l.flatMap f))) (hl:l.length<=140737488355328)
 (hE:∀(x:α) (b o:Nat) (vs:Nat->Value),x∈l->(∀j,j<k->w.cell? ⟨b,o+j,none⟩=some (vs j)/\¬M b)->(∀(j:Nat) (p:PV),(f x)[j]? =some p->Shr M w (vs j) p)->E M w b o x):SlR k E M w v l:=by
 generalize hn:l.length=n at h
 generalize hcs:l.flatMap f=cs at h
 cases h with
 | emp a c hc ha=>
   have:l=[]:=Xv hn;subst this;exact ⟨a,c,rfl,Xg _,by unfold maxLen at hc;exact hc,sM,ha,fun i x hx=>by simp at hx⟩
 | sl b off n c cs vs hnc hc hcell hT=>
   subst hn hcs;refine ⟨some ⟨b,off,none⟩,c,rfl,hnc,by unfold maxLen at hc;exact hc,hl,(by intro h;cases h),fun i x hx=>⟨b,off,rfl,?_⟩⟩;have hfit:=W9 hf hx;refine hE x b (off+i*k) (fun j=>vs (i*k+j)) (Xb hx) (fun j hj=>?_) (fun j p hp=>?_)
   . have:=hcell (i*k+j) oM;rw [Vv];exact this
   . (have hj:j<k:=by rw [<-hf x];exact Zd hp);exact hT _ p (by rw [Yx hf hx hj];exact hp)
theorem Zfe {M:BS} {w:World} {v:Value} {l:List BA} (h:Shr M w v (ZW l)) (hf:ZcJ l):Strs M w v l:=by
 unfold ZW at h
 rw [Zeb] at h
 refine Zrf (k:=1) (f:=fun x=>[Zv x]) (fun _=>rfl) h hf.1 fun x b o vs hx hc hT=>?_
 have h0:vs 0= .string x:=(hT 0 _ rfl).vOf
 have:=hc 0 dC
 rw [h0] at this
 exact ⟨this,hf.2 x hx⟩
theorem Zdc {w w':World} {M:BS} {v:Value} {e:Ending} (h1:e= .returned v) (h2:Ext w w'):LA ⟨w,M,fun _=>False,0,False,[]⟩ (· = .val v) e w':=⟨v,_,fun _=>False,h1,rfl,h2, .shr (.val _) (fun _ h=>h),fun _ h=>h.elim,fun h=>h.elim⟩
theorem Zit {M:BS} {w:World} {B e n:Nat} {v:Value} {xs:List Value} (h:w.ownsRow B e 1 v n xs) (hM:∀b,M b->b<B):Shr M w v (.sl n (xs.map PV.val)):=by
 rcases h.2 with ⟨rfl,rfl⟩|⟨g,cap,cur,rfl,hg,hh,h4,h5,h6,h7⟩
 . have:xs=[]:=Xv (by rw [h.1]);subst this;exact .emp none 0 (by unfold maxLen;omega) (fun _=>rfl)
 . refine .sl g 0 n cap _ (fun i=>(xs[i]?).getD undef) h4 h5 (fun i hi=>?_) (fun i p hp=>?_)
   . rw [Xc] at hi;obtain ⟨x,hx⟩:=Y3 hi;refine ⟨?_,fun hm=>by have:=hM g hm;omega⟩;rw [XA,h.cellAt i (by rw [<-h.1];exact hi),hx];rfl
   . rw [Xl,XS] at hp;obtain ⟨x,hx,rfl⟩:=hp;show Shr M w ((xs[i]?).getD undef) (.val x);rw [hx];exact .val _
theorem EH {w w':World} {M:BS} {v:Value} {p:PV} {e:Ending} (h1:e= .returned v) (h2:Ext w w') (h3:Shr M w' v p):LA ⟨w,M,fun _=>False,0,False,[]⟩ (· =p) e w':=
 ⟨v,p,fun _=>False,h1,rfl,h2, .shr (h3.anti fun b _ hb=>hb.elim id False.elim) (fun _ h=>h),fun _ h=>h.elim,fun h=>h.elim⟩
theorem shr_cells {M:BS} {w:World} {b off n c:Nat} {l:List BA} (h:Shr M w (.slice (some ⟨b,off,none⟩) n c) (ZW l)):∀(j:Nat) (s:BA),l[j]? =some s->w.cell? ⟨b,off+j,none⟩=some (.string s):=fun j s hs=>by
 unfold ZW at h
 generalize hn:l.length=m at h
 generalize hcs:l.map Zv=cs at h
 cases h with
 | emp=>
   have:l=[]:=Xv hn;subst this;simp at hs
 | sl _ _ _ _ _ vs hn hc hcell hT=>
   subst hcs;have h1:=(hcell j (by rw [Xc];exact Zd hs)).1;have h2:vs j= .string s:=(hT j (Zv s) (by rw [Xl,hs];rfl)).vOf;rw [h1,h2]
theorem ZpA (l:List BA) (hl:l.length<=1000000):AF prog 68 [ZW l] (· =ZW l):=fun M w vs hM hlen hv=>by
 obtain ⟨v,rfl⟩:=ZlG hlen
 have hS:=hv 0 v _ rfl rfl
 have hS':=hS
 unfold ZW at hS'
 generalize hn:l.length=n at hS'
 generalize hcs:l.map Zv=cs at hS'
 cases hS' with
 | emp a c hc ha=>
   have:l=[]:=Xv hn;subst this
   cases a with
   |none=>exact (Tryz.slices_Clone_string_nil 0 c w).mono fun e w' ⟨h1,h2⟩=>EH h1 (h2▸Ext.rfl' _) (.emp none 0 (by unfold maxLen;omega) (fun _=>rfl))
   |some a=>exact (Tryz.slices_Clone_string_zero a c w).mono fun e w' ⟨v',h1,h2,_,h3⟩=>EH h1 h3 (Zit h2 (fun b hb=>(hM.m b hb).1))
 | sl b off n c cs vs' hnc hc hcell hT=>
   subst hn hcs;have hcl:=shr_cells hS;refine (Tryz.slices_Clone_string b off l.length c l w (Xd _) oM (fun j hj=>?_)).mono fun e w' ⟨v',h1,h2,_,h3⟩=>EH h1 h3 ?_
   . obtain ⟨s,hs⟩:=Y3 hj;rw [hcl j s hs,List.getD,hs];rfl
   . have:=Zit h2 (fun b hb=>(hM.m b hb).1);rw [Xx,Xz] at this;exact this
def T1 (l:List BA):BA:=⟨(Lib.join (l.map (·.data.toList)) [32]).toArray⟩
theorem Zrg (l:List BA) (hl:l.length<=1000000) (hj:(Lib.join (l.map (·.data.toList)) [32]).length<=140737488355328):AF prog 67 [ZW l,Zv ⟨#[32]⟩] (· =Zv (T1 l)):=fun M w vs hM hlen hv=>by
 obtain ⟨v,u,rfl⟩:=ζd hlen
 have hu:u= .string ⟨#[32]⟩:=(hv 1 u _ rfl rfl).vOf
 subst hu
 have hS:=hv 0 v _ rfl rfl
 have hS':=hS
 unfold ZW at hS'
 generalize hn:l.length=n at hS'
 generalize hcs:l.map Zv=cs at hS'
 cases hS' with
 | emp a c hc ha=>
   have:l=[]:=Xv hn;subst this;exact (Tryz.strings_Join_none a c ⟨#[32]⟩ w).mono fun e w' ⟨h1,h2⟩=>Zdc (v:= .string (T1 [])) (by rw [h1];rfl) (h2▸Ext.rfl' _)
 | sl b off n c cs vs' hnc hc hcell hT=>
   subst hn hcs;have hcl:=shr_cells hS
   cases hl0:l with
   | nil=>
     subst hl0;exact (Tryz.strings_Join_none (some ⟨b,off,none⟩) c ⟨#[32]⟩ w).mono fun e w' ⟨h1,h2⟩=>Zdc (v:= .string (T1 [])) (by rw [h1];rfl) (h2▸Ext.rfl' _)
   | cons s0 l0=>
     rw [<-hl0];have hb:b<w.heap.size:=World.block_lt_of_cell? _ _ (hcl 0 s0 (by rw [hl0];rfl));exact (Tryz.strings_Join b off c l ⟨#[32]⟩ w hcl hb oM hnc hj).mono fun e w' ⟨h1,h2⟩=>Zdc (v:= .string (T1 l)) h1 h2
theorem Zff:FldT prog 28 1 1=true:=kR
theorem Znf:NoAgg prog 3=true:=kR
theorem Zkt (x:Var):AF prog 69 [.agg (Wo x)] (· =Zr (decide (1048576<x.count))):=by
 refine AF.b1 6 func69 rfl ntmps69 (Xa rfl) fun w0 M0 v0 _=>?_
 refine Zi ?_
 refine Yi 1 2 fun h1=>?_;refine ZX ?_
 refine xM (Zc 1 Zff) ?_;refine yV (Zh 1 Znf) ?_;refine KI ?_
 exact Zg (results69) rfl rfl
theorem Zfg (W:World) (o1 o2:Obj):(W.alloc o1).alloc o2=Sort.grow (W.drewN 0) #[o1,o2]:=by
 have:(W.heap.push o1).push o2=W.heap++ #[o1,o2]:=by
  apply Array.ext';simp
 show ({W with heap:=(W.heap.push o1).push o2}:World)={W with heap:=W.heap++ #[o1,o2],drawn:=W.drawn+0}
 rw [this]
 rfl
theorem Zku (x y:Var) (hx:ZcJ x.acts) (hy:ZcJ y.acts) (M:BS) (W:World) (u v:Value) (hu:Shr M W u (.agg (Wo x))) (hv:Shr M W v (.agg (Wo y))):
 Calls prog 71 #[u,v] W fun e w'=>e= .returned (.int .i64 (cmpStrs x.acts y.acts))/\∃q os',w'=Sort.grow (W.drewN q) os':=by
 unfold Wo at hu hv
 generalize hps:[ZW x.acts,Zb x.count]=ps at hu
 generalize hqs:[ZW y.acts,Zb y.count]=qs at hv
 cases hu with
 | agg us ps hl hT=>
   cases hv with
   | agg vs qs hl' hT'=>
     subst hps hqs;obtain ⟨a1,a2,rfl⟩:=ζd hl;obtain ⟨b1,b2,rfl⟩:=ζd hl';have e1:a2= .int .i64 x.count:=(hT 1 a2 _ rfl rfl).vOf;have e2:b2= .int .i64 y.count:=(hT' 1 b2 _ rfl rfl).vOf;subst e1 e2;have s1:=Zfe (hT 0 a1 _ rfl rfl) hx;have s2:=Zfe (hT' 0 b1 _ rfl rfl) hy;clear hT hT' hl hl';obtain ⟨p1,c1,rfl,_⟩:=id s1;obtain ⟨p2,c2,rfl,_⟩:=id s2;have HC:=Lib.hid (Zbc x.acts y.acts _ _ ((W.alloc (.cells #[.slice p1 x.acts.length c1, .int .i64 x.count] 28)).alloc (.cells #[.slice p2 y.acts.length c2, .int .i64 y.count] 28)) (s1.up ((Ext.alloc _ _).to_alloc _)) (s2.up ((Ext.alloc _ _).to_alloc _)));clear s1 s2;go_enter func71,ntmps71
     go_wp2_with (go_at_call 42;refine HC.out.mono ?_;rintro e w' ⟨rfl,rfl⟩)
     go_ret
     refine ⟨rfl,0,#[.cells #[.slice p1 x.acts.length c1, .int .i64 x.count] 28, .cells #[.slice p2 y.acts.length c2, .int .i64 y.count] 28],?_⟩;exact Zfg _ _ _
theorem Ziu:AggT prog 28 2=true:=kR
theorem Zkv:ZhI prog 70 71 2:=fun enc hk h1 cf hO blk cap d w hcmp hH hblk hsz=>
 AnyQ.slices_SortFunc Tryz.sortVarL 2 (fun w=>AggT.run Ziu w) (fun w=>AggT.size Ziu w) enc hk h1 cf hO 71 #[] blk 0 cap d w (call71) hcmp hH hblk hsz
theorem Zdd (p:Option Addr) (cap:Nat) (fv:Value) (w:World):Calls prog 70 #[.slice p 0 cap,fv] w fun e w'=>e= .returned (.tuple #[])/\w'=w:=
 AnyF.slices_SortFunc_none Tryz.sortVarL p cap fv w
end Go.Proofs.YtmkojdfiadbeeaaGreat
namespace Go.Cb
open Go.En
theorem Zam (x y:List UInt8) (l:List (List UInt8)):[32].intercalate (x::y::l)=x++32::[32].intercalate (y::l):=by
 simp [List.intercalate,List.intersperse]
theorem DN (x:List UInt8):([32]:List UInt8).intercalate [x]=x:=by simp [List.intercalate]
theorem Ziv:∀(x y a b:List UInt8),32∉x->32∉y->x++32::a=y++32::b->x=y/\a=b
 |[],[],a,b,_,_,h=>by simp at h;exact ⟨rfl,h⟩
 |[],c::y,a,b,_,h2,h=>by simp at h;exact Qd (by simp [h.1]) h2
 |c::x,[],a,b,h1,_,h=>by simp at h;exact Qd (by simp [h.1]) h1
 | c::x,d::y,a,b,h1,h2,h=>by
   simp at h h1 h2;obtain ⟨e1,e2⟩:=Ziv x y a b h1.2 h2.2 h.2;exact ⟨by rw [h.1,e1],e2⟩
theorem Zng:∀(l m:List (List UInt8)),(∀x∈l,x≠[]/\32∉x)->(∀x∈m,x≠[]/\32∉x)->([32]:List UInt8).intercalate l=[32].intercalate m->l=m
 |[],[],_,_,_=>rfl
 |[],[y],_,h2,h=>by rw [DN] at h;exact Qd h.symm (h2 y sM).1
 |[],y::z::m,_,h2,h=>by rw [Zam] at h;simp [List.intercalate] at h
 |[x],[],h1,_,h=>by rw [DN] at h;exact Qd h (h1 x sM).1
 |x::z::l,[],_,_,h=>by rw [Zam] at h;simp [List.intercalate] at h
 |[x],[y],_,_,h=>by rw [DN,DN] at h;rw [h]
 | [x],y::z::m,h1,h2,h=>by
   rw [DN,Zam] at h;exact Qd (by rw [h];simp) (h1 x sM).2
 | x::z::l,[y],h1,h2,h=>by
   rw [DN,Zam] at h;exact Qd (by rw [<-h];simp) (h2 y sM).2
 | x::x'::l,y::y'::m,h1,h2,h=>by
   rw [Zam,Zam] at h;obtain ⟨e1,e2⟩:=Ziv _ _ _ _ (h1 x sM).2 (h2 y sM).2 h;rw [e1,Zng (x'::l) (y'::m) (fun z hz=>h1 z (by simp at hz ⊢;exact .inr hz)) (fun z hz=>h2 z (by simp at hz ⊢;exact .inr hz)) e2]
theorem DO {s:BA} (h:isName s=true):s.data.toList≠[]/\(32:UInt8)∉s.data.toList/\s.size<=40:=by
 unfold isName at h
 simp only [Xe,U9,Xj] at h
 obtain ⟨⟨⟨h1,h2⟩,h3⟩,h4⟩:=h
 refine ⟨fun e=>?_,fun e=>?_,h2⟩
 . have:s.size=0:=by
    show s.data.size=0;rw [<-X',e];rfl
   omega
 . have:=h4 32 e;revert this;decide
def WOk (w:List BA):Prop:=w.length<=200/\∀s∈w,isName s=true
theorem Znh {l m:List BA} (h1:WOk l) (h2:WOk m) (h:Lib.join (l.map (·.data.toList)) [32]=Lib.join (m.map (·.data.toList)) [32]):l=m:=by
 have key:∀{l:List BA},WOk l->∀x∈l.map (·.data.toList),x≠[]/\(32:UInt8)∉x:=fun h x hx=>by
  obtain ⟨s,hs,rfl⟩:=Xp.1 hx;have:=DO (h.2 s hs);exact ⟨this.1,this.2.1⟩
 have:=Zng _ _ (key h1) (key h2) h
 have inj:∀{l m:List BA},l.map (·.data.toList)=m.map (·.data.toList)->l=m:=by
  intro l;induction l with
  |nil=>intro m h;cases m with|nil=>rfl|cons=>simp at h
  | cons a l ih=>
    intro m h
    cases m with
    |nil=>simp at h
    | cons b m=>
      simp only [Xm,List.cons.injEq] at h;rw [ih h.2,WideShapes.bytes_inj h.1]
 exact inj this
theorem Zni:∀(l:List (List UInt8)) (b:Nat),(∀x∈l,x.length<=b)->(([32]:List UInt8).intercalate l).length<=l.length*(b+1)
 |[],b,_=>by simp [List.intercalate]
 |[x],b,h=>by rw [DN];have:=h x sM;simp;omega
 | x::y::l,b,h=>by
   rw [Zam];have h1:=Zni (y::l) b (fun z hz=>h z (by simp at hz ⊢;exact .inr hz));have h2:=h x sM;simp only [Xf,Xi] at h1 ⊢;have:(l.length+1+1)*(b+1)=(l.length+1)*(b+1)+(b+1):=by rw [X3 (l.length+1) 1];omega
   omega
theorem Znj {l:List BA} (h:WOk l):(Lib.join (l.map (·.data.toList)) [32]).length<=140737488355328:=by
 have:=Zni (l.map (·.data.toList)) 40 (fun x hx=>by
  obtain ⟨s,hs,rfl⟩:=Xp.1 hx;rw [X'];exact (DO (h.2 s hs)).2.2)
 rw [Xc] at this
 have h2:=h.1
 unfold Lib.join
 omega
def WIn (Q:BA->Prop) (n:Nat) (ps:List Piece):Prop:=∀p∈ps,p.word.length<=n/\∀s∈p.word,Q s
theorem WIn.mono {Q:BA->Prop} {n m:Nat} {ps:List Piece} (h:WIn Q n ps) (hn:n<=m):WIn Q m ps:=fun p hp=>⟨XK (h p hp).1 hn,(h p hp).2⟩
theorem WIn.set {Q:BA->Prop} {n i:Nat} {ps:List Piece} {q:Piece} {s:BA} (h:WIn Q n ps) (hq:ps[i]? =some q) (hs:Q s):WIn Q (n+1) (ps.set i ⟨q.part,q.word++[s]⟩):=fun p hp=>by
 rcases VW hp with h1|h1
 . exact h.mono (VK _) p h1
 . have:=h q (Xb hq);rw [h1];refine ⟨by simp;exact this.1,fun t ht=>?_⟩;rcases XB.1 ht with h2|h2
   . exact this.2 t h2
   . simp at h2;rw [h2];exact hs
theorem WIn.add {Q:BA->Prop} {n i:Nat} {ps:List Piece} {s:BA} (h:WIn Q n ps) (hs:Q s):WIn Q (n+1) (Jr ps i s):=by
 unfold Jr
 split
 . rename_i q hq;exact h.set hq hs
 . exact h.mono (VK _)
theorem WIn.step {Q:BA->Prop} {n:Nat} {parts:List (List BA)} {ps ps':List Piece} {s:BA} (h:WIn Q n ps) (hs:Q s) (he:pieceStep parts ps s=some ps'):WIn Q (n+1) ps':=by
 have one:∀p:Piece,p∈[(⟨partOf parts s,[s]⟩:Piece)]->p.word.length<=n+1/\∀t∈p.word,Q t:=fun p hp=>by
  simp at hp;subst hp;exact ⟨sM,fun t ht=>by simp at ht;rw [ht];exact hs⟩
 unfold pieceStep at he
 split at he
 . cases he;exact one
 . rename_i q hq;split at he
   . cases he;exact h.set hq hs
   . split at he
     . cases he
     . cases he;intro p hp;rcases XB.1 hp with h1|h1
       . exact h.mono (VK _) p h1
       . exact one p h1
theorem Cs {Q:BA->Prop} {parts:List (List BA)}:∀{ws:List BA} {n:Nat} {ps ps':List Piece},WIn Q n ps->(∀s∈ws,Q s)->Wb parts ps ws=some ps'->WIn Q (n+ws.length) ps'
 |[],n,ps,ps',h,_,he=>by simp [Wb] at he;subst he;exact h
 | s ::l,n,ps,ps',h,hs,he=>by
   rw [Wb] at he
   cases hst:pieceStep parts ps s with
   |none=>rw [hst] at he;cases he
   | some ps1=>
     rw [hst] at he;have:=Cs (h.step (hs s sM) hst) (fun x hx=>hs x (by simp [hx])) he;exact this.mono (by simp;omega)
theorem Zan {Q:BA->Prop} {kind:Int} {parts:List (List BA)}:∀{ws:List BA} {n:Nat} {first:Bool} {last:Int} {ps:List Piece} {r:List Piece×Int},WIn Q n ps->(∀s∈ws,Q s)->splitGo kind parts first last ps ws=some r->WIn Q (n+ws.length) r.1
 |[],n,_,_,ps,r,h,_,he=>by simp [splitGo] at he;subst he;exact h
 | s ::l,n,first,last,ps,r,h,hs,he=>by
   rw [splitGo] at he;split at he
   . cases he
   . have:=Zan (h.add (hs s sM)) (fun x hx=>hs x (by simp [hx])) he;exact this.mono (by simp;omega)
theorem ZgU {Q:BA->Prop} {c:Cut} {ws:List BA} {ps:List Piece} (hs:∀s∈ws,Q s) (he:We c ws=some ps):WIn Q ws.length ps:=by
 unfold We at he
 split at he
 . unfold LF at he;split at he
   . cases he;intro p hp;simp at hp;subst hp;exact ⟨sM,fun s h=>by simp at h⟩
   . cases hg:Wb c.parts [] ws with
     |none=>rw [hg] at he;cases he
     | some ps1=>
       rw [hg] at he;simp only [] at he;split at he
       . cases he;exact (Cs (n:=0) (fun p hp=>by simp at hp) hs hg).mono oM
       . cases he
 . cases hg:splitGo c.kind c.parts true 0 (initPs c.parts.length) ws with
   |none=>rw [hg] at he;cases he
   | some r=>
     rw [hg] at he;have hin:=(Zan (Q:=Q) (n:=0) (fun p hp=>by
      simp [initPs] at hp;obtain ⟨i,_,rfl⟩:=hp;exact ⟨sM,fun s h=>by simp at h⟩) hs hg).mono (m:=ws.length) oM
     obtain ⟨r1,r2⟩:=r;simp only [] at he;split at he
     . split at he
       . cases he
       . cases he;exact fun p hp=>hin p (List.mem_of_mem_drop (V7 hp))
     . cases he;exact hin
theorem Zfh {c:Cut} {x:Var} {ps:List Piece} (hx:W7 x=true) (he:We c x.acts=some ps):∀p∈ps,WOk p.word:=fun p hp=>by
 simp only [W7,Xe,U9,Xj] at hx
 have:=ZgU (Q:=fun s=>isName s=true) hx.1.1.2 he p hp
 exact ⟨XK this.1 hx.1.1.1,this.2⟩
def Zao (n:Int) (R:List (List Var)) (p:Piece):List (List Var):=match R[p.part.toNat]? with
 |some r=>R.set p.part.toNat (bump r p.word n)
 |none=>R
theorem Zkw {n:Int} {R:List (List Var)} {p:Piece} {r:List Var} (h:R[p.part.toNat]? =some r):Zao n R p=R.set p.part.toNat (bump r p.word n):=by
 unfold Zao;rw [h]
theorem Zfi (n:Int) (R:List (List Var)) (p:Piece):(Zao n R p).length=R.length:=by
 unfold Zao;split<;>simp
def RelR (R S:List (List Var)):Prop:=R.length=S.length/\∀(i:Nat) (r s:List Var),R[i]? =some r->S[i]? =some s->Asc s/\r.Perm s
theorem RelR.put {n:Int} {R S:List (List Var)} {p:Piece} (h:RelR R S):RelR (Zao n R p) (putPiece n S p):=by
 refine ⟨by rw [Zfi,ZcB];exact h.1,fun i r s hr hs=>?_⟩
 unfold Zao at hr
 unfold putPiece at hs
 cases hR:R[p.part.toNat]? with
 | none=>
   have hS:S[p.part.toNat]? =none:=by
    rw [UH] at hR ⊢;have:=h.1;omega
   rw [hR] at hr;rw [hS] at hs;exact h.2 i r s hr hs
 | some r0=>
   obtain ⟨s0,hS⟩:∃s0,S[p.part.toNat]? =some s0:=get_some (by have:=Zd hR;have:=h.1;omega);rw [hR] at hr;rw [hS] at hs;simp only [] at hr hs;obtain ⟨a1,a2⟩:=h.2 _ _ _ hR hS;by_cases e:p.part.toNat=i
   . subst e;rw [XJ (Zd hR)] at hr;rw [XJ (Zd hS)] at hs
     cases hr;cases hs;exact ⟨ζu a1,Zjl a1 a2⟩
   . rw [X9 e] at hr;rw [X9 e] at hs;exact h.2 i r s hr hs
theorem Znk (n:Nat):RelR (List.replicate n []) (List.replicate n []):=⟨rfl,fun i r s hr hs=>by
 have h1:=VB (Xb hr)
 have h2:=VB (Xb hs)
 subst h1 h2
 exact ⟨List.Pairwise.nil, .refl _⟩⟩
theorem RelR.ok {m:Nat} {R S:List (List Var)} (h:RelR R S) (hS:RowsOk m S):RowsOk m R:=fun r hr=>by
 obtain ⟨i,hi⟩:=XM hr
 obtain ⟨s,hs⟩:∃s,S[i]? =some s:=get_some (by have:=Zd hi;have:=h.1;omega)
 obtain ⟨_,p⟩:=h.2 i r s hi hs
 have:=hS s (Xb hs)
 exact ⟨by rw [p.length_eq];exact this.1,fun x hx=>this.2 x (p.mem_iff.1 hx)⟩
theorem RelR.any {R S:List (List Var)} (h:RelR R S) (f:List Var->Bool) (hf:∀r s,r.Perm s->f r=f s):R.any f=S.any f:=by
 rw [VG,X2,X2]
 constructor
 . rintro ⟨r,hr,hfr⟩;obtain ⟨i,hi⟩:=XM hr;obtain ⟨s,hs⟩:∃s,S[i]? =some s:=get_some (by have:=Zd hi;have:=h.1;omega);exact ⟨s,Xb hs,by rw [<-hf r s (h.2 i r s hi hs).2];exact hfr⟩
 . rintro ⟨s,hs,hfs⟩;obtain ⟨i,hi⟩:=XM hs;obtain ⟨r,hr⟩:∃r,R[i]? =some r:=get_some (by have:=Zd hi;have:=h.1;omega);exact ⟨r,Xb hr,by rw [hf r s (h.2 i r s hr hi).2];exact hfs⟩
theorem Zfj {r s:List Var} (h:r.Perm s):bigVars r=bigVars s:=by
 unfold bigVars
 rw [VG,X2,X2]
 exact ⟨fun ⟨x,hx,e⟩=>⟨x,h.mem_iff.1 hx,e⟩,fun ⟨x,hx,e⟩=>⟨x,h.mem_iff.2 hx,e⟩⟩
theorem Zb0 {r s:List Var} (h:r.Perm s):Kh r=Kh s:=by unfold Kh;rw [h.length_eq]
theorem RelR.sorted {R S T:List (List Var)} (h:RelR R S) (hl:T.length=R.length) (hT:∀(i:Nat) (r t:List Var),R[i]? =some r->T[i]? =some t->Asc t/\t.Perm r):T=S:=by
 apply VX
 intro i
 cases hi:T[i]? with
 | none=>
   rw [UH] at hi;rw [eq_comm,UH];have:=h.1;omega
 | some t=>
   obtain ⟨r,hr⟩:∃r,R[i]? =some r:=get_some (by have:=Zd hi;omega);obtain ⟨s,hs⟩:∃s,S[i]? =some s:=get_some (by have:=Zd hr;have:=h.1;omega);obtain ⟨a,p⟩:=h.2 i r s hr hs;obtain ⟨a',p'⟩:=hT i r t hr hi;rw [hs,Zd0 a p a' p']
def WR (R:List (List Var)):Prop:=∀r∈R,∀x∈r,WOk x.acts
theorem Zfk {w:List BA} {n:Int}:∀{r:List Var} {y:Var},y∈bump r w n->y.acts=w\/∃z∈r,z.acts=y.acts
 |[],y,hy=>by simp [bump] at hy;exact .inl (by rw [hy])
 | z :: r,y,hy=>by
   rw [bump] at hy;split at hy
   . rcases Xh.1 hy with rfl|hy
     . exact .inr ⟨z,sM,rfl⟩
     . exact .inr ⟨y,by simp [hy],rfl⟩
   . rcases Xh.1 hy with rfl|hy
     . exact .inr ⟨y,sM,rfl⟩
     . rcases Zfk hy with h1|⟨z',hz',e⟩
       . exact .inl h1
       . exact .inr ⟨z',by simp [hz'],e⟩
theorem WR.put {n:Int} {R:List (List Var)} {p:Piece} (h:WR R) (hp:WOk p.word):WR (Zao n R p):=by
 unfold Zao
 split
 . rename_i r hr;intro r' hr' x hx;rcases VW hr' with h1|h1
   . exact h r' h1 x hx
   . rw [h1] at hx;rcases Zfk hx with e|⟨z,hz,e⟩
     . rw [e];exact hp
     . rw [<-e];exact h r (Xb hr) z hz
 . exact h
theorem Zrh (n:Nat):WR (List.replicate n []):=fun r hr x hx=>by
 have:=VB hr
 subst this;simp at hx
def PW (f:List BA->BA):Nat->List Var->List (BA×Value)
 |_,[]=>[]
 |i,x::r=>(f x.acts,Value.int .i64 (i:Int))::PW f (i+1) r
theorem Zb1 {f:List BA->BA} {w:List BA} {v:Value} (hw:WOk w) (hf:∀a b,WOk a->WOk b->f a=f b->a=b):∀{r:List Var} {i:Nat},(∀x∈r,WOk x.acts)->Ks (PW f i r) (f w)=some v->∃(j:Nat) (y:Var),v= .int .i64 ((i+j:Nat):Int)/\r[j]? =some y/\y.acts=w/\∀n,r.set j ⟨w,y.count+n⟩=bump r w n/\PW f i (bump r w n)=PW f i r
 |[],i,_,h=>by simp [PW,Ks] at h
 | x ::r,i,hr,h=>by
   rw [PW,Ks] at h;split at h
   . rename_i e;have e':=hf _ _ hw (hr x sM) e
     cases h;refine ⟨0,x,rfl,rfl,e'.symm,fun n=>?_⟩;rw [bump,Qc e'.symm];exact ⟨by rw [e'];rfl,rfl⟩
   . rename_i hne;have hx:x.acts≠w:=fun e=>hne (by rw [e]);obtain ⟨j,y,hv,hy,hyw,hset⟩:=Zb1 hw hf (fun z hz=>hr z (by simp [hz])) h;refine ⟨j+1,y,by rw [hv,show i+1+j=i+(j+1) by omega],hy,hyw,fun n=>?_⟩;rw [bump,Qb hx];exact ⟨by rw [UU,(hset n).1],by rw [PW,(hset n).2];rfl⟩
theorem Zb2 {f:List BA->BA} {w:List BA}:∀{r:List Var} {i:Nat},Ks (PW f i r) (f w)=none->(∀x∈r,x.acts≠w)/\∀n,PW f i (bump r w n)=K8 (PW f i r) (f w) (.int .i64 ((i+r.length:Nat):Int))
 |[],i,_=>⟨fun x h=>by simp at h,fun n=>rfl⟩
 | x :: r,i,h=>by
   rw [PW,Ks] at h;split at h
   . cases h
   . rename_i hne;have hx:x.acts≠w:=fun e=>hne (by rw [e]);obtain ⟨h1,h2⟩:=Zb2 h;refine ⟨fun y hy=>?_,fun n=>?_⟩
     . rcases Xh.1 hy with rfl|hy
       . exact hx
       . exact h1 y hy
     . rw [bump,Qb hx,PW,h2 n,PW,K8,Qb hne,Xi,show i+1+r.length=i+(r.length+1) by omega]
theorem Znl {r:List Var} {w:List BA} {n:Int} (h:∀x∈r,x.acts≠w):(r++[(⟨w,0⟩:Var)]).set r.length (⟨w,0+n⟩:Var)=bump r w n:=by
 rw [Ee h,Vr _ _ (Xd _),Vl,Int.zero_add];rfl
end Go.Cb
