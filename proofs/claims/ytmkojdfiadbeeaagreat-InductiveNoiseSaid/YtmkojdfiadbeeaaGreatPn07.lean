/-
  Walks and laws.
-/
import Derived.Test.YtmkojdfiadbeeaaGreatProg
import Derived.Lib.Join
import Derived.Test.YtmkojdfiadbeeaaGreatPn06
import Derived.Test.YtmkojdfiadbeeaaGreatPn05
import Derived.Test.YtmkojdfiadbeeaaGreatPn03
import Derived.Test.YtmkojdfiadbeeaaGreatPn02
import Derived.Test.YtmkojdfiadbeeaaGreatPn01
import Derived.Test.YtmkojdfiadbeeaaGreatNShelf
set_option linter.all false
set_option maxRecDepth 100000
set_option maxHeartbeats 0
namespace Go.Proofs.YtmkojdfiadbeeaaGreat
open Go.RowKit Go.Cb Go.En Tryz
def Po:(prog.info? 3).map (·.size)=some 1:=kR
def ZqC (k i:Nat):decide (i<k+1)=if i=k then true else decide (i<k):=by
 by_cases h:i=k
 . rw [Qd h,Qa oM]
 rw [Qc h];exact decide_eq_decide.2 oM
def ZaG (l:List BA) (n:Nat) (E R:Nat->Nat->Bool) (S F:Nat->Bool) (hl:l.length=n) (hn:n<=1000):AF prog 233 [.agg (Jt l n E R S F)] (· =YP 4 n (fun _=>true)):=by
 subst hl
 refine AF.b1 19 func233 rfl ntmps233 (Xa rfl) fun w0 M0 v0 _=>?_
 dsimp only [Jt]
 refine Zi ?_
 refine Z4 1 5 fun h1=>?_;refine ZW ?_
 refine xM (Zc 1 WA) ?_;refine yU (Zf 1 ZG) fun v6=>?_;refine xM (Zu Zo) ?_;refine KF 8 Wr fun h8 ho8=>?_;refine KG ?_
 rw [show List.replicate l.length (PV.val (.bool false))=vec l.length (fun i=>Zr (decide (i<0))) by rw [LI];exact Yi fun i _=>by rw [Qb (Vv i)]]
 refine Yl (ι:={k:Nat//k<=l.length}) (fun k=>⟨[(1,_,_),(3,_,_),(4, .int .i64 k.1,Zb k.1)],[(1,_,_),(8,h8,YP 4 l.length (fun i=>decide (i<k.1)))]⟩) (fun k=>l.length-k.1) ⟨0,Xg _⟩ ?_
 rintro ⟨k,hk⟩
 dsimp only
 have e1:=Wz l.length (fun i=>Zr (decide (i<k)))
 refine Zi ?_
 refine xL 9 Za (xL 10 Za (xL 11 (Wu 8 ZI) (xL 12 Yn ?_)));refine ZC ?_ ?_<;>intro hb12
 . (
 refine Zi ?_;refine xL 15 Za (xL 16 Za (xL 17 (Zk 8 ZI) ?_));refine JY 8 ZT GD ?_;refine D7 ?_;rw [SX (f':=fun i=>decide (i<k+1)) fun i _=>ZqC k i];refine Yk (
  ⟨k+1,oM⟩
  ))
 refine ZP ?_;refine Gm 8 results233 rfl rfl ?_;have:k=l.length:=oM;subst this;show PV.own _ _ _ _=PV.own _ _ _ _;rw [Yi (g:=fun _=>Zr true) fun i hi=>by dsimp only;rw [Qa hi]]
def LJ (c:List Int) (n:Nat) (f:Nat->Bool) (hc:∀x∈c,0<=x/\x<n) (hcl:c.length<=1000000):AF prog 271 [pInts c,Wq n f] (· =Zr (K9 c f)):=by
 refine AF.b2 19 func271 rfl ntmps271 (Xa rfl) fun w0 M0 v0 v1 _ _=>?_
 refine Jx ?_
 refine Y0 (ι:={k:Nat//k<=c.length/\(c.take k).any (fun x=>f x.toNat)=false}) (fun k=>⟨[(0,_,_),(1,_,_),(5, .int .i64 k.1,Zb k.1)],[]⟩) (fun k=>c.length-k.1) ⟨0,Xg _,rfl⟩ (fun a w H=>H.weaken sB trivial) ?_
 rintro ⟨k,hk,hp⟩
 dsimp only
 refine Zi ?_
 refine xL 6 Za (xL 7 Za (xL 8 (Zu ZS) (xL 9 Yn ?_)));refine ZC ?_ ?_<;>intro hb9
 . (
 obtain ⟨x,hx⟩:=gS c k;have e1:=Yf (f:=Zb) hx;have hxb:=hc x (Xb hx);have e2:=Z0 (fun j=>Zr (f j)) (show x.toNat<n by omega);refine Zi ?_;refine xL 12 Za (xL 13 Za (xL 14 Za (xL 15 (Ze ZS) ?_)));refine yV (Zw Zq) ?_;refine xM (Sa ZI) ?_;refine yV (Zw ZT) ?_;refine ZC ?_ ?_<;>intro hb18
 . (
 refine ZF ?_;refine Zg results271 rfl ?_;rw [show K9 c f=true from X2.2 ⟨x,Xb hx,hb18⟩])
 refine YQ ?_;refine Zh (
  ⟨k+1,oM,by rw [ZR hx,UE,hp,Un];simp [hb18]⟩
  ) (by dsimp only;omega) sB trivial)
 refine ZF ?_;refine Zg results271 rfl ?_;rw [show k=c.length by omega,Xx] at hp;rw [show K9 c f=false from hp]
def T9 (E R:Nat->Nat->Bool) (kind:Int) (a b:Int):Bool:=Od E R kind a.toNat b.toNat
def Zlc (E R:Nat->Nat->Bool) (kind:Int) (a b:Nat):Od E R kind a b=Od E R kind b a:=by
 unfold Od
 split
 . cases R a b<;>cases R b a<;>rfl
 split
 . exact Bool.or_comm _ _
 exact Bool.or_comm _ _
def Pq (E R:Nat->Nat->Bool) (kind:Int) (a b:Nat):T9 E R kind a b=Od E R kind a b:=by unfold T9;rw [XH,XH]
def Zsq {E R:Nat->Nat->Bool} {kind:Int} {a b:Nat} (h:T9 E R kind a b=true\/T9 E R kind b a=true):Od E R kind a b=true:=by
 rw [Pq,Pq] at h
 rcases h with h|h
 . exact h
 rw [Zlc];exact h
def Zcr {n a b:Nat} {f f':Nat->Nat} (hf:∀i,i<n->f' i=if i=a then b else f i):(vec n fun i=>Zb (f i:Nat)).set (a*1) (Zb (b:Nat))=vec n fun i=>Zb (f' i:Nat):=by
 rw [XJ,Lk]
 refine Yi fun i hi=>?_
 rw [hf i hi]
 by_cases h:i=a
 . rw [Qd h,Qd h]
 rw [Qc h,Qc h]
def Eb (n:Nat) (f:Nat->Nat):List PV:=vec n fun i=>Zb (f i:Nat)
def ZaH (n:Nat) (f:Nat->Nat):(Eb n f).length=n:=Wz _ _
def Ec {n i:Nat} (f:Nat->Nat) (h:i<n):(Eb n f)[i*1]? =some (Zb (f i:Nat)):=Z0 _ h
def Ed {n a b:Nat} (f:Nat->Nat):(Eb n f).set (a*1) (Zb (b:Nat))=Eb n (upd f a b):=Zcr fun i _=>rfl
def Zld (n:Nat):List.replicate n (PV.val (.int .i64 0))=Eb n (fun i=>if i<0 then i else 0):=by
 rw [LI];exact Yi fun i _=>by dsimp only;rw [Qc (Vv i)];rfl
def Zle (n k:Nat):(Eb n fun i=>if i<k then i else 0).set (k*1) (Zb (k:Nat))=Eb n (fun i=>if i<k+1 then i else 0):=Zcr fun i _=>by
 by_cases h:i=k
 . rw [Qd h,Qd oM];exact h
 rw [Qc h];by_cases h2:i<k
 . rw [Qd h2,Qd oM]
 rw [Qc h2,Qc oM]
def Zlf (n:Nat):Eb n (fun i=>if i<n then i else 0)=Eb n fun i=>i:=Yi fun i hi=>by dsimp only;rw [Qd hi]
def ZaI (i:Nat) (I:Nat->Bool) (lab:Nat->Nat) (c:Nat):cls (i+1) I lab c=cls i I lab c++(if I i=true/\lab i=c then [(i:Int)] else []):=by
 unfold cls
 rw [VS,XX,Vs]
 congr 1
 by_cases h:I i=true/\lab i=c
 . rw [Qd h];simp [h.1,h.2]
 rw [Qc h];rw [Xn,Vz,VW]; · rfl
 rw [XH];intro hh;simp only [Xf,beq_iff_eq] at hh;exact h hh
def Zjd {i:Nat} {I:Nat->Bool} {lab:Nat->Nat} {c:Nat} (h:I i=false):cls (i+1) I lab c=cls i I lab c:=by rw [ZaI,Qc (by rw [h];simp),Xo]
def Zje {i:Nat} {I:Nat->Bool} {lab:Nat->Nat} {c:Nat} (h:¬((lab i:Nat):Int)=((c:Nat):Int)):cls (i+1) I lab c=cls i I lab c:=by rw [ZaI,Qc oM,Xo]
def ZqD (n:Nat) (I:Nat->Bool) (lab:Nat->Nat) (c:Nat):(cls n I lab c).length<=n:=by
 unfold cls
 have:=Vl (fun x:Int=>I x.toNat&&(lab x.toNat==c)) ((List.range n).map fun i:Nat=>(i:Int))
 rw [Xc,VP] at this;exact this
def Zn5 (n:Nat) (I:Nat->Bool) (lab:Nat->Nat) (k:Nat):(Tj n I lab k).length<=k:=by
 unfold Tj
 have:=Vl (fun c:List Int=> !c.isEmpty) ((List.range k).map (cls n I lab))
 rw [Xc,VP] at this;exact this
def PX (l : List BA) (n :Nat) (E R:Nat->Nat->Bool) (S F:Nat->Bool) (kind:Int) (I:Nat->Bool) (hl:l.length=n) (hn:n<=1000):AF prog 232 [.agg (Jt l n E R S F),Zb kind,Wq n I] (fun p=>∃cs,Comps (marked n I) (T9 E R kind) cs/\p= .own 90 1 cs.length (cs.map pInts)):=by
 subst hl
 refine AF.b3 156 func232 rfl ntmps232 (Xa rfl) ?_
 rintro w0 M0 v0 _ v2-rfl-
 dsimp only [Jt]
 refine Zi ?_
 refine Z4 3 5 fun h3=>?_;refine ZW ?_
 refine xM (Zc 3 WA) ?_;refine yU (Zf 3 ZG) fun v18=>?_;refine xL 19 (Zu Zo) (xL 7 Wj ?_);refine YT ?_;refine YU ?_;refine KF 21 YY fun h21 ho21=>?_;refine KG ?_
 rw [Zld]
 refine Yl (ι:={k:Nat//k<=l.length}) (fun k=>⟨[(1,_,_),(2,_,_),(3,_,_),(7,_,_),(8,_,_),(9, .int .i64 k.1,Zb k.1)],[(3,_,_),(21,h21, .own 3 1 l.length (Eb l.length fun i=>if i<k.1 then i else 0))]⟩) (fun k=>l.length-k.1) ⟨0,Xg _⟩ ?_
 rintro ⟨k,hk⟩
 dsimp only
 have e1:=ZaH l.length (fun i=>if i<k then i else 0)
 refine WL ?_;refine ZC ?_ ?_<;>intro hb24
 . (
 refine Zi ?_;refine xL 27 Za (xL 28 Za (xL 29 Za (xL 30 (Zk 21 ZS) ?_)));refine JY 21 Zq Po ?_;refine D7 ?_;rw [Zle];refine Yk (
  ⟨k+1,oM⟩
  ))
 refine ZF ?_;obtain rfl:k=l.length:=oM;rw [Zlf];refine Yl (ι:={x:(Nat->Nat)×Bool//LabOk l.length I (T9 E R kind) x.1/\(x.2=false->Fix l.length I (T9 E R kind) (Od E R kind) x.1)}) (fun k=>⟨[(1,_,_),(2,_,_),(3,_,_),(7,_,_),(8,_,_),(10, .bool k.1.2,Zr k.1.2)],[(3,_,_),(21,h21, .own 3 1 l.length (Eb l.length k.1.1))]⟩) (fun k=>sumTo l.length k.1.1+(if k.1.2 then 1 else 0)) ⟨(fun i=>i,true),LabOk.start _ _ _,fun h=>Bool.noConfusion h⟩ ?_;rintro ⟨⟨lab0,ag0⟩,hok0,hfx0⟩;dsimp only;dsimp only at hok0 hfx0;refine Ys ?_ ?_<;>intro hb31
 . (
 refine Jx ?_;refine Yl (ι:={x:(Nat->Nat)×Bool×Nat//x.2.2<=l.length/\LabPass l.length I (T9 E R kind) (Od E R kind) lab0 x.1 x.2.1 x.2.2 0}) (fun k=>⟨[(1,_,_),(2,_,_),(3,_,_),(7,_,_),(8,_,_),(10, .bool k.1.2.1,Zr k.1.2.1),(11, .int .i64 k.1.2.2,Zb k.1.2.2)],[(3,_,_),(21,h21, .own 3 1 l.length (Eb l.length k.1.1))]⟩) (fun k=>l.length-k.1.2.2) ⟨(lab0,false,0),Xg _,LabPass.start hok0⟩ ?_;rintro ⟨⟨lab1,ag1,a⟩,ha,hp1⟩;dsimp only;dsimp only at ha hp1;refine WL ?_;refine ZC ?_ ?_<;>intro hb34
 . (
 refine ZF ?_;refine Yl (ι:={x:(Nat->Nat)×Bool×Nat//x.2.2<=l.length/\LabPass l.length I (T9 E R kind) (Od E R kind) lab0 x.1 x.2.1 a x.2.2}) (fun k=>⟨[(1,_,_),(2,_,_),(3,_,_),(7,_,_),(8,_,_),(11,_,_),(10, .bool k.1.2.1,Zr k.1.2.1),(12, .int .i64 k.1.2.2,Zb k.1.2.2)],[(3,_,_),(21,h21, .own 3 1 l.length (Eb l.length k.1.1))]⟩) (fun k=>l.length-k.1.2.2) ⟨(lab1,ag1,0),Xg _,hp1⟩ ?_;rintro ⟨⟨lab2,ag2,b⟩,hb,hp2⟩;dsimp only;dsimp only at hb hp2;refine WL ?_;refine ZC ?_ ?_<;>intro hb39
 . (
 have han:a<l.length:=oM;have hbn:b<l.length:=oM;have i1:=Z0 (fun j=>Zr (I j)) han;have i2:=Z0 (fun j=>Zr (I j)) hbn;have l1:=Ec lab2 han;have l2:=Ec lab2 hbn;have l3:=ZaH l.length lab2;refine nav ?_;(refine Yx [] [3,21] ?_<;>refine gDx 0 ?_<;>refine gEx 1 ?_<;>refine gEx 2 ?_<;>refine gEx 3 ?_<;>(refine bDd 45 (fun hb45=>?_) (fun hb45=>?_)<;>(first|refine kD 4 ?_|refine gDx 4 ?_))<;>(first|refine kD 5 ?_|refine gDx 5 ?_)<;>(first|refine kD 6 ?_|refine xD 6 rfl (Ze ZI) ?_)<;>(first|refine kD 7 ?_|(refine yD 7 rfl (Zw ZT) fun v49 h=>?_;cases h))<;>refine gEx 8 ?_<;>refine gEx 9 ?_<;>(first|refine kD 10 ?_|(refine bD 51 (fun hb51=>?_) (fun hb51=>?_)<;>(first|refine kD 10 ?_|refine gDx 10 ?_)))<;>(first|refine kD 11 ?_|refine gDx 11 ?_)<;>(first|refine kD 12 ?_|refine xD 12 rfl (Ze ZI) ?_)<;>(first|refine kD 13 ?_|(refine yD 13 rfl (Zw ZT) fun v55 h=>?_;cases h))<;>refine gEx 14 ?_<;>refine gEx 15 ?_<;>(first|refine kD 16 ?_|(refine bD 57 (fun hb57=>?_) (fun hb57=>?_)<;>(first|refine kD 16 ?_|refine gDx 16 ?_)))<;>(first|refine kD 17 ?_|refine gDx 17 ?_)<;>(first|refine kD 18 ?_|refine xD 18 rfl (Zk 21 ZS) ?_)<;>(first|refine kD 19 ?_|(refine yD 19 rfl (Zf 21 Zq) fun v61 h=>?_;cases h))<;>(first|refine kD 20 ?_|refine gDx 20 ?_)<;>(first|refine kD 21 ?_|refine gDx 21 ?_)<;>(first|refine kD 22 ?_|refine xD 22 rfl (Zk 21 ZS) ?_)<;>(first|refine kD 23 ?_|(refine yD 23 rfl (Zf 21 Zq) fun v65 h=>?_;cases h))<;>(first|refine kD 24 ?_|refine gDx 24 ?_)<;>refine gEx 25 ?_<;>refine gEx 26 ?_<;>(first|refine kD 27 ?_|(refine bDd 68 (fun hb68=>?_) (fun hb68=>?_)<;>(first|refine kD 27 ?_|(refine yD 27 rfl (Zm 3 YZ) fun v69 h=>?_;cases h))))<;>(first|refine kD 28 ?_|refine gDx 28 ?_)<;>(first|refine kD 29 ?_|refine gDx 29 ?_)<;>(first|refine kD 30 ?_|refine gDx 30 ?_)<;>(refine ZY 31 kR ?_)<;>(first|(refine Ym (d:=73) rfl (cA call270 (CQ l l.length E R S F kind a b han hbn)) fun v73 h=>?_;cases h)|(refine aWr fun bk=>?_;refine kL ?_;refine bE bk ?_))<;>refine gEx 32 ?_<;>refine Wo ?_)<;>(
 refine Ja (fun x:{x:(Nat->Nat)×Bool//LabPass l.length I (T9 E R kind) (Od E R kind) lab0 x.1 x.2 a b/\(x.2=false->a≠b->I a=true->I b=true->Od E R kind a b=true->¬x.1 a<x.1 b)}=>⟨[(1, .int .i64 kind,Zb kind),(2,v2,Wq l.length I),(3,padd (sbase h3) 0, .val (padd (sbase h3) 0)),(7, .int .i64 (l.length:Nat),Zb (l.length:Nat)),(8,h21, .val h21),(10, .bool x.1.2,Zr x.1.2),(11, .int .i64 a,Zb a),(12, .int .i64 b,Zb b)],[(3,h3, .own 259 5 1 (Jt l l.length E R S F)),(21,h21, .own 3 1 l.length (Eb l.length x.1.1))]⟩) ?_ ?_
 . refine cX ?_ ?_<;>intro hb74
   . first |exact bN hb74|(
 refine Zi ?_;refine xL 75 Za (xL 76 Za (xL 77 Za (xL 78 Za (xL 79 (Zk 21 ZS) ?_))));refine yV (Zf 21 Zq) ?_;refine xM (Zk 21 ZS) ?_;refine JY 21 Zq Po ?_;refine YT ?_;refine ZD ?_
 first
  | (rw [Ed]
     exact Yo ⟨(upd lab2 b (lab2 a),true),hp2.push han hbn hb51 hb57 oM (.inl (by rw [Pq];exact hb74)) a b,fun h=>Bool.noConfusion h⟩ sB sB)
  | exact Yo ⟨(lab2,ag2),hp2,fun _ g1 g2 g3 g4 g5=>by
     first
      |exact g1 oM
      |(rw [hb51] at g2;exact Qe g2 dC)
      |(rw [hb57] at g3;exact Qe g3 dC)
      |(have g6:lab2 a<lab2 b:=g5;omega)
      |(rw [hb74] at g4;exact Qe g4 dC)⟩ sB sB)
   . (
 refine nav ?_
 first
  | (rw [Ed]
     exact Yo ⟨(upd lab2 b (lab2 a),true),hp2.push han hbn hb51 hb57 oM (.inl (by rw [Pq];exact hb74)) a b,fun h=>Bool.noConfusion h⟩ sB sB)
  | exact Yo ⟨(lab2,ag2),hp2,fun _ g1 g2 g3 g4 g5=>by
     first
      |exact g1 oM
      |(rw [hb51] at g2;exact Qe g2 dC)
      |(rw [hb57] at g3;exact Qe g3 dC)
      |(have g6:lab2 a<lab2 b:=g5;omega)
      |(rw [hb74] at g4;exact Qe g4 dC)⟩ sB sB)
 . rintro ⟨⟨lab,ag⟩,hp,hg⟩;dsimp only at hp hg ⊢;dsimp only [Jt];have k1:=Ec lab han;have k2:=Ec lab hbn;have k3:=ZaH l.length lab;refine nav ?_;(refine Yx [] [3,21] ?_<;>refine gDx 0 ?_<;>refine gEx 1 ?_<;>refine gEx 2 ?_<;>refine gEx 3 ?_<;>(refine bDd 85 (fun hb85=>?_) (fun hb85=>?_)<;>(first|refine kD 4 ?_|refine gDx 4 ?_))<;>(first|refine kD 5 ?_|refine gDx 5 ?_)<;>(first|refine kD 6 ?_|refine xD 6 rfl (Ze ZI) ?_)<;>(first|refine kD 7 ?_|(refine yD 7 rfl (Zw ZT) fun v89 h=>?_;cases h))<;>refine gEx 8 ?_<;>refine gEx 9 ?_<;>(first|refine kD 10 ?_|(refine bD 91 (fun hb91=>?_) (fun hb91=>?_)<;>(first|refine kD 10 ?_|refine gDx 10 ?_)))<;>(first|refine kD 11 ?_|refine gDx 11 ?_)<;>(first|refine kD 12 ?_|refine xD 12 rfl (Ze ZI) ?_)<;>(first|refine kD 13 ?_|(refine yD 13 rfl (Zw ZT) fun v95 h=>?_;cases h))<;>refine gEx 14 ?_<;>refine gEx 15 ?_<;>(first|refine kD 16 ?_|(refine bD 97 (fun hb97=>?_) (fun hb97=>?_)<;>(first|refine kD 16 ?_|refine gDx 16 ?_)))<;>(first|refine kD 17 ?_|refine gDx 17 ?_)<;>(first|refine kD 18 ?_|refine xD 18 rfl (Zk 21 ZS) ?_)<;>(first|refine kD 19 ?_|(refine yD 19 rfl (Zf 21 Zq) fun v101 h=>?_;cases h))<;>(first|refine kD 20 ?_|refine gDx 20 ?_)<;>(first|refine kD 21 ?_|refine gDx 21 ?_)<;>(first|refine kD 22 ?_|refine xD 22 rfl (Zk 21 ZS) ?_)<;>(first|refine kD 23 ?_|(refine yD 23 rfl (Zf 21 Zq) fun v105 h=>?_;cases h))<;>(first|refine kD 24 ?_|refine gDx 24 ?_)<;>refine gEx 25 ?_<;>refine gEx 26 ?_<;>(first|refine kD 27 ?_|(refine bDd 108 (fun hb108=>?_) (fun hb108=>?_)<;>(first|refine kD 27 ?_|(refine yD 27 rfl (Zm 3 YZ) fun v109 h=>?_;cases h))))<;>(first|refine kD 28 ?_|refine gDx 28 ?_)<;>(first|refine kD 29 ?_|refine gDx 29 ?_)<;>(first|refine kD 30 ?_|refine gDx 30 ?_)<;>(refine ZY 31 kR ?_)<;>(first|(refine Ym (d:=113) rfl (cA call270 (CQ l l.length E R S F kind a b han hbn)) fun v113 h=>?_;cases h)|(refine aWr fun bk=>?_;refine kL ?_;refine bE bk ?_))<;>refine gEx 32 ?_<;>refine Wo ?_)<;>(
 refine cX ?_ ?_<;>intro hb114
 . first | exact bN hb114|(
 refine Zi ?_;refine xL 115 Za (xL 116 Za (xL 117 Za (xL 118 Za (xL 119 (Zk 21 ZS) ?_))));refine yV (Zf 21 Zq) ?_;refine xM (Zk 21 ZS) ?_;refine JY 21 Zq Po ?_;refine YT ?_;refine KQ ?_;try rw [Ed]
 first
  | (exact Zh (
      ⟨(upd lab a (lab b),true,b+1),by show b+1<=l.length;omega,hp.push hbn han hb97 hb91 oM (.inr (by rw [Pq];exact hb114)) a (b+1)⟩
      ) (by show l.length-(b+1)<l.length-b;omega) sB sB)
  | (exact Zh (
      ⟨(lab,ag,b+1),by show b+1<=l.length;omega,hp.on fun hag g1 g2 g3 g4=>by
        have g6:¬lab a<lab b:=hg hag g1 g2 g3 g4
        first
         |exact Qe rfl oM
         |(rw [hb91] at g2;exact Qe g2 dC)
         |(rw [hb97] at g3;exact Qe g3 dC)
         |omega
         |(rw [hb114] at g4;exact Qe g4 dC)⟩
      ) (by show l.length-(b+1)<l.length-b;omega) sB sB))
 refine YQ ?_;try rw [Ed]
 first
  | (exact Zh (
      ⟨(upd lab a (lab b),true,b+1),by show b+1<=l.length;omega,hp.push hbn han hb97 hb91 oM (.inr (by rw [Pq];exact hb114)) a (b+1)⟩
      ) (by show l.length-(b+1)<l.length-b;omega) sB sB)
  | (exact Zh (
      ⟨(lab,ag,b+1),by show b+1<=l.length;omega,hp.on fun hag g1 g2 g3 g4=>by
        have g6:¬lab a<lab b:=hg hag g1 g2 g3 g4
        first
         |exact Qe rfl oM
         |(rw [hb91] at g2;exact Qe g2 dC)
         |(rw [hb97] at g3;exact Qe g3 dC)
         |omega
         |(rw [hb114] at g4;exact Qe g4 dC)⟩
      ) (by show l.length-(b+1)<l.length-b;omega) sB sB))))
 refine YQ ?_;refine Zh (
  ⟨(lab2,ag2,a+1),by show a+1<=l.length;omega,by rw [show b=l.length by omega] at hp2;exact hp2.row⟩
  ) (by show l.length-(a+1)<l.length-a;omega) sB sB)
 refine nav ?_;refine Zh (
  ⟨(lab1,ag1),hp1.ok,fun hg=>by
    have:a=l.length:=oM;subst this;subst hg;exact hp1.fix⟩
  ) (by show sumTo l.length lab1+(if ag1 then 1 else 0)<sumTo l.length lab0+(if ag0 then 1 else 0);rw [show ag0=true from hb31];exact hp1.less) sB sB)
 refine Jx ?_;have hfx:=hfx0 hb31;refine Zs (YO 200 90 1 rfl) fun _=>?_;refine Yl (ι:={x:Nat×Value//x.1<=l.length}) (fun k=>⟨[(2,_,_),(7,_,_),(8,_,_),(13,k.1.2, .val k.1.2),(14, .int .i64 k.1.1,Zb k.1.1)],[(21,_,_),(200,k.1.2, .own 90 1 (Tj l.length I lab0 k.1.1).length ((Tj l.length I lab0 k.1.1).map pInts))]⟩) (fun k=>l.length-k.1.1) ⟨(0, .slice none 0 0),Xg _⟩ ?_;rintro ⟨⟨c,hov⟩,hc⟩;dsimp only;dsimp only at hc;have hcsl:=Zn5 l.length I lab0 c;refine WL ?_;refine ZC ?_ ?_<;>intro hb124
 . (
 refine Jx ?_;refine Zs (YO 201 3 1 rfl) fun _=>?_;refine Yl (ι:={x:Nat×Value//x.1<=l.length/\x.2.oneCell'=true}) (fun k=>⟨[(2,_,_),(7,_,_),(8,_,_),(13,_,_),(14,_,_),(15,k.1.2, .val k.1.2),(16, .int .i64 k.1.1,Zb k.1.1)],[(21,_,_),(200,_,_),(201,k.1.2, .own 3 1 (cls k.1.1 I lab0 c).length ((cls k.1.1 I lab0 c).map Zb))]⟩) (fun k=>l.length-k.1.1) ⟨(0, .slice none 0 0),Xg _,rfl⟩ ?_;rintro ⟨⟨i,hlv⟩,hi,hlo⟩;dsimp only;dsimp only at hi hlo;have hcll:=ZqD i I lab0 c;refine WL ?_;refine ZC ?_ ?_<;>intro hb129
 . (
 have hin:i<l.length:=oM;have j1:=Z0 (fun j=>Zr (I j)) hin;have j2:=Ec lab0 hin;have s1:=ZaI i I lab0 c;have j3:((cls i I lab0 c).map Zb).length=(cls i I lab0 c).length:=Xc _;refine Zi ?_;(refine xL 132 Za (xL 133 Za (xL 134 (Ze ZI) ?_))<;>refine yV (Zw ZT) ?_<;>refine YU ?_<;>(refine bL 136 (fun hb136=>?_) (fun hb136=>?_)<;>refine kZ ?_)<;>refine kZ ?_<;>(first|refine kL ?_|refine xM (Zk 21 ZS) ?_)<;>(first|refine kL ?_|refine yV (Zf 21 Zq) ?_)<;>refine RG ?_)<;>(
 refine cX ?_ ?_<;>intro hb143
 . first |exact bN hb143|(
 refine Kt ?_;refine WE (kk:=1) 146 YY fun h146 ho146=>?_;refine Y7 201 146 147 YY fun h147 ho147=>?_;refine KQ ?_;try refine ZJ (ZK (l:=147) 201 rfl rfl) fun _=>?_
 try rw [show (cls i I lab0 c).map Zb++[Zb (i:Nat)]=(cls (i+1) I lab0 c).map Zb by rw [s1,Qd ⟨hb136,oM⟩,XX];rfl,show (cls i I lab0 c).length+1=(cls (i+1) I lab0 c).length by rw [s1,Qd ⟨hb136,oM⟩,Xe];rfl]
 try rw [<-Zjd (lab:=lab0) (c:=c) hb136]
 try rw [<-Zje (I:=I) hb143]
 first
  | (exact Zh (
      ⟨(i+1,h147),by show i+1<=l.length;omega,ho147⟩
      ) (by show l.length-(i+1)<l.length-i;omega) sB sB)
  | (exact Zh (
      ⟨(i+1,hlv),by show i+1<=l.length;omega,hlo⟩
      ) (by show l.length-(i+1)<l.length-i;omega) sB sB))
 refine YQ ?_;try refine ZJ (ZK (l:=147) 201 rfl rfl) fun _=>?_
 try rw [show (cls i I lab0 c).map Zb++[Zb (i:Nat)]=(cls (i+1) I lab0 c).map Zb by rw [s1,Qd ⟨hb136,oM⟩,XX];rfl,show (cls i I lab0 c).length+1=(cls (i+1) I lab0 c).length by rw [s1,Qd ⟨hb136,oM⟩,Xe];rfl]
 try rw [<-Zjd (lab:=lab0) (c:=c) hb136]
 try rw [<-Zje (I:=I) hb143]
 first
  | (exact Zh (
      ⟨(i+1,h147),by show i+1<=l.length;omega,ho147⟩
      ) (by show l.length-(i+1)<l.length-i;omega) sB sB)
  | (exact Zh (
      ⟨(i+1,hlv),by show i+1<=l.length;omega,hlo⟩
      ) (by show l.length-(i+1)<l.length-i;omega) sB sB)))
 refine nav ?_;have hil:i=l.length:=oM;subst hil;have s2:=Zcq l.length c I lab0;have j4:((Tj l.length I lab0 c).map pInts).length=(Tj l.length I lab0 c).length:=Xc _;refine Zp ?_;refine xL 148 Za (xL 149 (Wu 201 ZS) (xL 150 G3 ?_));refine ZC ?_ ?_<;>intro hb150
 . (
 refine Kt ?_;refine WE (kk:=1) 153 Yv fun h153 ho153=>?_;refine Y7 200 153 154 Yv fun h154 ho154=>?_;refine KQ ?_;try refine ZJ (YD (l:=154) (l':=201) (j:=(Tj l.length I lab0 c).length) rfl (GF (Xc _).symm) rfl rfl) fun _=>?_
 try rw [JQ (Xc _).symm,Kb _ _ _ rfl]
 try rw [show (Tj l.length I lab0 c).map pInts++[pInts (cls l.length I lab0 c)]=(Tj l.length I lab0 (c+1)).map pInts by rw [s2,Qc (by intro e;rw [e] at hb150;exact Qe hb150 dC),XX];rfl,show (Tj l.length I lab0 c).length+1=(Tj l.length I lab0 (c+1)).length by rw [s2,Qc (by intro e;rw [e] at hb150;exact Qe hb150 dC),Xe];rfl]
 try refine ZJ (ZK (l:=154) 200 rfl rfl) fun _=>?_
 try rw [show Tj l.length I lab0 c=Tj l.length I lab0 (c+1) by rw [s2,Qd (Xv oM),Xo]]
 first
  | (exact Zh (
      ⟨(c+1,h154),by show c+1<=l.length;omega⟩
      ) (by show l.length-(c+1)<l.length-c;omega) sB sB)
  | (exact Zh (
      ⟨(c+1,hov),by show c+1<=l.length;omega⟩
      ) (by show l.length-(c+1)<l.length-c;omega) sB sB))
 refine YQ ?_;try refine ZJ (YD (l:=154) (l':=201) (j:=(Tj l.length I lab0 c).length) rfl (GF (Xc _).symm) rfl rfl) fun _=>?_
 try rw [JQ (Xc _).symm,Kb _ _ _ rfl]
 try rw [show (Tj l.length I lab0 c).map pInts++[pInts (cls l.length I lab0 c)]=(Tj l.length I lab0 (c+1)).map pInts by rw [s2,Qc (by intro e;rw [e] at hb150;exact Qe hb150 dC),XX];rfl,show (Tj l.length I lab0 c).length+1=(Tj l.length I lab0 (c+1)).length by rw [s2,Qc (by intro e;rw [e] at hb150;exact Qe hb150 dC),Xe];rfl]
 try refine ZJ (ZK (l:=154) 200 rfl rfl) fun _=>?_
 try rw [show Tj l.length I lab0 c=Tj l.length I lab0 (c+1) by rw [s2,Qd (Xv oM),Xo]]
 first
  | (exact Zh (
      ⟨(c+1,h154),by show c+1<=l.length;omega⟩
      ) (by show l.length-(c+1)<l.length-c;omega) sB sB)
  | (exact Zh (
      ⟨(c+1,hov),by show c+1<=l.length;omega⟩
      ) (by show l.length-(c+1)<l.length-c;omega) sB sB))
 refine ZP ?_;have hcl:c=l.length:=oM;subst hcl;exact Gm 200 results232 rfl rfl ⟨_,hfx.comps fun a b _ _ _ _ _ h=>Zsq h,rfl⟩
end Go.Proofs.YtmkojdfiadbeeaaGreat
namespace Go.En
open Go.RowKit Go.Cb
def ZqE {P:Program} {st:St} {o:Oper} {x y:Operand} {t t':TypeId} {a b:Int} {q q':PV} (ho:o.op= .call {callee:= .builtin .min,args:= #[x,y],argTypes:= #[t,t']}:=by exact rfl) (hx:ev st.slots x=some (.int .i64 a,q):=by exact rfl) (hy:ev st.slots y=some (.int .i64 b,q'):=by exact rfl):YE P st o (· = .int .i64 (if b<a then b else a)) (.val (.int .i64 (if b<a then b else a))):=
 y2 hx hy fun ρ w h1 h2=>by
  simp [execOp,ho,h1,h2,resolve,invoke,builtin,Builtin.min_,Builtin.min2]
def Zjf {sL hP:List (Nat×Ent)} (l:Nat):Tn (⟨sL,hP⟩:St) (fun _:Unit=>⟨sL,del l hP⟩):=fun _ _ _ ⟨F,H⟩=>⟨(),F,H.less (fun _ _ h=>h) (fun _ _ h=>(Wt h).2)⟩
end Go.En
namespace Go.Proofs.YtmkojdfiadbeeaaGreat
open Go.RowKit Go.Cb Go.En Tryz
def Zlg {c:List Int} (h:c.Nodup) (n:Nat):(Kj n c).length<=c.length:=JP ((Pn h n).imp fun h=>oM) fun x hx=>(Pm.1 hx).1
def DC (l:List (List Int)):(l.map pInts).all En.one=true:=by rw [VK,Xj];intro x _;rfl
def GH (e n:Nat) (cs:List PV) (l:List (List Int)) (h1:cs=l.map pInts) (h2:n=l.length):share (.own e 1 n cs)=KX l:=by rw [h1];exact KP e n l h2
def Zlh (l:List BA) (n:Nat) (E R:Nat->Nat->Bool) (S F:Nat->Bool) (kind:Int) (cs:List (List Int)) (h:cs.length<2):AF prog 230 [.agg (Jt l n E R S F),Zb kind,KX cs] (· = .tup [.agg [Zb 0, .val (.slice none 0 0)],Zr false]):=by
 refine AF.b3 65 func230 rfl ntmps230 (Xa rfl) ?_
 rintro w0 M0 v0 _ v2-rfl-
 dsimp only [Jt]
 refine Zi ?_
 refine Z4 3 5 fun h3=>?_;refine Zt [(.int .i64 0),(.slice none 0 0)] 2 6 WZ fun h6=>?_;refine ZW ?_
 refine xL 13 Za (xL 14 (Zu ZO) (xL 15 Yn ?_));refine ZC ?_ ?_<;>intro hb15
 . refine Zi ?_;refine xM (ZA TB) ?_;refine Zn 6 Z6 ?_;refine ZD ?_;exact ZN (k:=2) 6 results230 rfl
 exfalso;omega
def Zli (l : List BA) (n:Nat) (E R:Nat->Nat->Bool) (S F:Nat->Bool) (kind:Int) (cs:List (List Int)) (hl:l.length=n) (hn:n<=1000) (h:2<=cs.length) (hcs:∀c∈cs,c.Nodup/\c.length<=1000) (hcl:cs.length<=1000000):AF prog 230 [.agg (Jt l n E R S F),Zb kind,KX cs] (· = .tup [PC ⟨kind,ZB l (cs.map (Kj n))⟩,Zr true]):=by
 subst hl
 refine AF.b3 65 func230 rfl ntmps230 (Xa rfl) ?_
 rintro w0 M0 v0 _ v2-rfl-
 dsimp only [Jt]
 refine Zi ?_
 refine Z4 3 5 fun h3=>?_;refine Zt [(.int .i64 0),(.slice none 0 0)] 2 6 WZ fun h6=>?_;refine ZW ?_
 refine xL 13 Za (xL 14 (Zu ZO) (xL 15 Yn ?_));refine ZC ?_ ?_<;>intro hb15
 . exfalso;omega
 . refine Zi ?_;refine xL 17 Za (xL 18 (ZA TB) ?_);refine Zt [(.int .i64 0),(.slice none 0 0)] 2 8 WZ fun h8=>?_;refine Zn 8 Z6 ?_;refine YT ?_;refine ZD ?_;refine Zs (YO 200 26 1 rfl) fun _=>?_;refine Yl (ι:={x:Nat×Value//x.1<=cs.length}) (fun k=>⟨[(2,_,_),(3,_,_),(6,_,_),(8,_,_),(9, .int .i64 k.1.1,Zb k.1.1)],[(3,_,_),(6,_,_),(8,h8, .own 42 2 1 [Zb kind, .val k.1.2]),(200,k.1.2, .own 26 1 k.1.1 (((ZB l (cs.map (Kj l.length))).take k.1.1).map ZX))]⟩) (fun k=>cs.length-k.1.1) ⟨(0, .slice none 0 0),Xg _⟩ ?_;rintro ⟨⟨i,h55⟩,hi⟩;dsimp only;dsimp only at hi;refine Zi ?_;refine xL 19 Za (xL 20 Za (xL 21 (Zu ZO) (xL 22 Yn ?_)));refine ZC ?_ ?_<;>intro hb22
   . (
 obtain ⟨cl,hx⟩:=gS cs i;have e1:=Yf (f:=pInts) hx;have hxc:=hcs cl (Xb hx);(have hpt:(ZB l (cs.map (Kj l.length)))[i]? =some ((Kj l.length cl).map (Wn l)):=by unfold ZB;rw [Xl,Xl,hx];rfl);(have e2:(((ZB l (cs.map (Kj l.length))).take i).map ZX).length=i:=by unfold ZB;simp;omega);refine Jx ?_;refine Zs (YO 201 9 1 rfl) fun _=>?_;refine Yl (ι:={x:Nat×Value×List Int//x.1<=l.length/\x.2.1.oneCell'=true/\x.2.2=Kj x.1 cl}) (fun k=>⟨[(2,_,_),(3,_,_),(6,_,_),(8,_,_),(9,_,_),(10,k.1.2.1, .val k.1.2.1),(11, .int .i64 k.1.1,Zb k.1.1)],[(3,_,_),(6,_,_),(8,_,_),(200,_,_),(201,k.1.2.1, .own 9 1 k.1.2.2.length ((k.1.2.2.map (Wn l)).map Zx))]⟩) (fun k=>l.length-k.1.1) ⟨(0, .slice none 0 0,[]),Xg _,rfl,rfl⟩ ?_;rintro ⟨⟨q,h66,A⟩,hq,ho66,hA⟩;dsimp only;dsimp only at hq ho66 hA;(have hAl:A.length<=cl.length:=by rw [hA];exact Zlg hxc.1 q);refine Zi ?_;refine xL 25 Za (xL 26 (Zc 3 WA) ?_);refine yU (Zf 3 ZG) fun v27=>?_;refine xL 28 (Zu Zo) (xL 29 Yn ?_);refine ZC ?_ ?_<;>intro hb29
 . (
 have hqn:q<l.length:=oM;have e5:=Zi8 (l:=l) (x:=(q:Int)) oM;rw [XH] at e5;refine ZF ?_;refine Yl (ι:={x:Nat×Value×List Int//x.1<=cl.length/\x.2.1.oneCell'=true/\x.2.2=A++(cl.take x.1).filter fun x=>decide (x=(q:Int))}) (fun k=>⟨[(2,_,_),(3,_,_),(6,_,_),(8,_,_),(9,_,_),(11,_,_),(10,k.1.2.1, .val k.1.2.1),(12, .int .i64 k.1.1,Zb k.1.1)],[(3,_,_),(6,_,_),(8,_,_),(200,_,_),(201,k.1.2.1, .own 9 1 k.1.2.2.length ((k.1.2.2.map (Wn l)).map Zx))]⟩) (fun k=>cl.length-k.1.1) ⟨(0,h66,A),Xg _,ho66,(Xo A).symm⟩ ?_;rintro ⟨⟨j,h67,B⟩,hj,ho67,hB⟩;dsimp only;dsimp only at hj ho67 hB;have hBl:B.length<=2000:=by
  have:=Vl (fun x:Int=>decide (x=(q:Int))) (cl.take j);rw [XA] at this;rw [hB,Xe];omega
 (have hBm:((B.map (Wn l)).map Zx).length=B.length:=by rw [Xc,Xc]);refine Zi ?_;refine xL 32 Za (xL 33 Za (xL 34 Za (xL 35 (Ze ZO) ?_)));refine yU (Zw Yz) fun v36=>?_;refine xL 37 (Zu ZS) (xL 38 Yn ?_);refine ZC ?_ ?_<;>intro hb38
 . (
 obtain ⟨z,hz⟩:=gS cl j;have e3:=Yf (f:=Zb) hz;have s1:(cl.take (j+1)).filter (fun x=>decide (x=(q:Int)))=(cl.take j).filter (fun x=>decide (x=(q:Int)))++(if decide (z=(q:Int))=true then [z] else []):=GW (p:=fun x:Int=>decide (x=(q:Int))) hz;refine Zi ?_;refine xL 41 Za (xL 42 Za (xL 43 (Ze ZO) ?_));refine yU (Zw Yz) fun v44=>?_;refine xL 45 Za (xL 46 (Ze ZS) ?_);refine yV (Zw Zq) ?_;refine Wv ?_ ?_<;>intro hb49
 . (
 refine Zi ?_;refine xL 50 Za (xL 51 (Zc 3 WA) ?_);refine yU (Zf 3 ZG) fun v52=>?_;refine xL 53 Za (xL 54 (Ze Zo) ?_);refine yV (Zw ZE) ?_;refine WE (kk:=1) 56 YX fun h56 ho56=>?_;refine Y7 201 56 57 YX fun h57 ho57=>?_;refine KQ ?_;try refine ZJ (ZK (l:=57) 201 rfl rfl) fun _=>?_
 try rw [show (B.map (Wn l)).map Zx++[Zx (Wn l (q:Int))]=((B++[z]).map (Wn l)).map Zx by rw [show z=(q:Int) by omega];simp,show B.length+1=(B++[z]).length by simp]
 first
  | (exact Zh (
      ⟨(j+1,h57,B++[z]),by show j+1<=cl.length;omega,ho57,by show B++[z]=_;rw [s1,Qd (Qa oM),hB,XG]⟩
      ) (by show cl.length-(j+1)<cl.length-j;omega) sB sB)
  | (exact Zh (
      ⟨(j+1,h67,B),by show j+1<=cl.length;omega,ho67,by show B=_;rw [s1,Qc (by rw [Qb oM];decide),Xo,hB]⟩
      ) (by show cl.length-(j+1)<cl.length-j;omega) sB sB))
 refine YQ ?_;try refine ZJ (ZK (l:=57) 201 rfl rfl) fun _=>?_
 try rw [show (B.map (Wn l)).map Zx++[Zx (Wn l (q:Int))]=((B++[z]).map (Wn l)).map Zx by rw [show z=(q:Int) by omega];simp,show B.length+1=(B++[z]).length by simp]
 first
  | (exact Zh (
      ⟨(j+1,h57,B++[z]),by show j+1<=cl.length;omega,ho57,by show B++[z]=_;rw [s1,Qd (Qa oM),hB,XG]⟩
      ) (by show cl.length-(j+1)<cl.length-j;omega) sB sB)
  | (exact Zh (
      ⟨(j+1,h67,B),by show j+1<=cl.length;omega,ho67,by show B=_;rw [s1,Qc (by rw [Qb oM];decide),Xo,hB]⟩
      ) (by show cl.length-(j+1)<cl.length-j;omega) sB sB))
 refine YQ ?_;refine Zh (
  ⟨(q+1,h67,B),by show q+1<=l.length;omega,ho67,by show B=_;rw [ZaD,hB,hA,Xs oM]⟩
  ) (by show l.length-(q+1)<l.length-q;omega) sB sB)
 refine Zi ?_;refine xM (Zc 8 KO) ?_;refine yV (Zf 8 JO) ?_;refine YU ?_;refine WE (kk:=1) 61 Dy fun h61 ho61=>?_;refine Y7 200 61 62 Dy fun h62 ho62=>?_;refine xM (Zc 8 KO) ?_;refine JY 8 JO Zcl ?_;refine D7 ?_;refine ZJ (YD (l:=62) (l':=201) (j:=i) rfl (GF e2.symm) rfl rfl) fun _=>?_;rw [show A=Kj l.length cl by rw [hA,show q=l.length by omega]];rw [JQ e2.symm,show (Kj l.length cl).length=((Kj l.length cl).map (Wn l)).length by rw [Xc],J6];rw [show ((ZB l (cs.map (Kj l.length))).take i).map ZX++[PV.sl ((Kj l.length cl).map (Wn l)).length (((Kj l.length cl).map (Wn l)).map Zx)]=((ZB l (cs.map (Kj l.length))).take (i+1)).map ZX by rw [ZR hpt,XX];rfl];refine ZJ (ZK (l:=62) 200 rfl rfl) fun _=>?_;refine Zh (
  ⟨(i+1,h62),by show i+1<=cs.length;omega⟩
  ) (by show cs.length-(i+1)<cs.length-i;omega) sB sB)
   . (
 refine nav ?_;rw [show i=(ZB l (cs.map (Kj l.length))).length by unfold ZB;rw [Xc,Xc];omega,Xx];refine Zs (YD (l:=8) (l':=200) (j:=1) rfl rfl rfl rfl) fun _=>?_;rw [CP _ _ _ rfl];refine Zp ?_;refine yU (Zm 8 Z6) fun v64=>?_;refine Zn 6 Z6 ?_;refine ZD ?_;exact ZN (k:=2) 6 results230 rfl)
def He (R:Nat->Nat->Bool) (c d:List Int):Prop:=R (YI c).toNat (YI d).toNat=true
def DW {α:Type} {cs out:List α} {i:Nat} (h:out.Perm (cs.take i)):∀x∈out,x∈cs:=fun x hx=>V' (h.mem_iff.1 hx)
def ZdE {c:List Int} (h:c≠[]):(c.map Zb)[0*1]? =some (Zb (YI c)):=by
 cases c with
 |nil=>exact Qe rfl h
 |cons z t=>rfl
def Zhv (l:List BA) (n:Nat) (E R:Nat->Nat->Bool) (S F:Nat->Bool) (cs:List (List Int)) (hn:n<=1000) (hne:∀c∈cs,c≠[]/\∀x∈c,0<=x/\x<n) (hcl:cs.length<=1000) (hap:cs.Pairwise fun c d=>R (YI c).toNat (YI d).toNat≠R (YI d).toNat (YI c).toNat) (htr:∀c∈cs,∀d∈cs,∀e∈cs,He R c d->He R d e->He R c e):AF prog 231 [.agg (Jt l n E R S F),KX cs] (fun p=>∃out,out.Perm cs/\out.Pairwise (He R)/\p=KX out):=by
 refine AF.b2 59 func231 rfl ntmps231 (Xa rfl) fun w0 M0 v0 v1 _ _=>?_
 dsimp only [Jt]
 refine Zi ?_
 refine Z4 2 5 fun h2=>?_;refine ZW ?_;refine KG ?_
 refine Zs (YO 200 90 1 rfl) fun _=>?_
 refine Zs (En.freeze (l:=200) (t:=5) rfl rfl) fun _=>?_
 rw [GH _ _ _ [] (by rfl) (by rfl)]
 refine Yl (ι:={x:Nat×Value×List (List Int)//x.1<=cs.length/\x.2.2.Perm (cs.take x.1)/\x.2.2.Pairwise (He R)}) (fun k=>⟨[(1,_,_),(2,_,_),(5,k.1.2.1,KX k.1.2.2),(6, .int .i64 k.1.1,Zb k.1.1)],[(2,_,_)]⟩) (fun k=>cs.length-k.1.1) ⟨(0, .slice none 0 0,[]),Xg _, .refl _,List.Pairwise.nil⟩ ?_
 rintro ⟨⟨i,hov,out⟩,hi,hperm,hsort⟩
 dsimp only
 dsimp only at hi hperm hsort
 have hol:out.length<=1000:=by rw [hperm.length_eq,XA];omega
 refine Zi ?_
 refine xL 9 Za (xL 10 Za (xL 11 (Zu ZO) (xL 12 Yn ?_)));refine ZC ?_ ?_<;>intro hb12
 . (
 obtain ⟨c,hx⟩:=gS cs i;have e1:=Yf (f:=pInts) hx;have hcm:=Xb hx;have hc0:=hne c hcm;have e2:=ZdE hc0.1;have hcb:=hc0.2 _ (JS hc0.1);have hcl0:=X5.2 hc0.1;have hom:=DW hperm;have hapc:∀x∈out,R (YI x).toNat (YI c).toNat≠R (YI c).toNat (YI x).toNat:=fun x hxo=>by
  obtain ⟨j,hj⟩:=XM (hperm.mem_iff.1 hxo);have hjl:=Zd hj;rw [XA] at hjl;rw [X1 oM] at hj;have:=XW.1 hap j i (Zd hj) (Zd hx) oM;rw [(Xk.1 hj).2,(Xk.1 hx).2] at this;exact this
 refine ZF ?_;refine Yl (ι:={k:Nat//k<=out.length/\∀j x,j<k->out[j]? =some x->He R x c}) (fun k=>⟨[(1,_,_),(2,_,_),(5,_,_),(6,_,_),(7, .int .i64 k.1,Zb k.1)],[(2,_,_)]⟩) (fun k=>out.length-k.1) ⟨0,Xg _,fun j x h=>Qe h (Vv j)⟩ ?_;rintro ⟨k,hk,hkp⟩;dsimp only;obtain ⟨d,hdd⟩:∃d,d=out[k]?.getD c:=⟨_,rfl⟩;(have hd:k<out.length->out[k]? =some d:=fun h=>by obtain ⟨y,hy⟩:=get_some h;rw [hdd,hy];rfl);have hdm:d∈cs:=by
  rw [hdd]
  cases ho:out[k]? with
  |none=>exact hcm
  |some y=>exact hom y (Xb ho)
 have e3:k<out.length->(out.map pInts)[k*1]? =some (pInts d):=fun h=>Yf (f:=pInts) (hd h);have hd0:=hne d hdm;have e4:=ZdE hd0.1;have hdb:=hd0.2 _ (JS hd0.1);have hdl0:=X5.2 hd0.1;have e5:=Z0 (fun i=>Wq n (R i)) (show (YI d).toNat<n by omega);have e6:=Z0 (fun j=>Zr (R (YI d).toNat j)) (show (YI c).toNat<n by omega);refine nav ?_;(refine Yx [] [2] ?_<;>refine gDx 0 ?_<;>refine gEx 1 ?_<;>refine xE 2 rfl (Zu ZO) ?_<;>refine gEx 3 ?_<;>refine gEx 4 ?_<;>(refine bDd 19 (fun hb19=>?_) (fun hb19=>?_)<;>(first|refine kD 5 ?_|refine xD 5 rfl (Zc 2 KE) ?_))<;>(first|refine kD 6 ?_|(refine yD 6 rfl (Zf 2 Yj) fun v21 h=>?_;cases h))<;>(first|refine kD 7 ?_|refine gDx 7 ?_)<;>(first|refine kD 8 ?_|refine gDx 8 ?_)<;>(first|refine kD 9 ?_|refine xD 9 rfl (Ze ZO) ?_)<;>(first|refine kD 10 ?_|(refine yD 10 rfl (Zw Yz (hp:=e3 oM)) fun v25 h=>?_;cases h))<;>(first|refine kD 11 ?_|refine xD 11 rfl (Ze (i:=0) ZS) ?_)<;>(first|refine kD 12 ?_|(refine yD 12 rfl (Zw Zq) fun v27 h=>?_;cases h))<;>(first|refine kD 13 ?_|refine xD 13 rfl (Sa Z') ?_)<;>(first|refine kD 14 ?_|(refine yD 14 rfl (Zw Zy) fun v29 h=>?_;cases h))<;>(first|refine kD 15 ?_|refine gDx 15 ?_)<;>(first|refine kD 16 ?_|refine gDx 16 ?_)<;>(first|refine kD 17 ?_|refine xD 17 rfl (Ze ZO) ?_)<;>(first|refine kD 18 ?_|(refine yD 18 rfl (Zw Yz) fun v33 h=>?_;cases h))<;>(first|refine kD 19 ?_|refine xD 19 rfl (Ze (i:=0) ZS) ?_)<;>(first|refine kD 20 ?_|(refine yD 20 rfl (Zw Zq) fun v35 h=>?_;cases h))<;>(first|refine kD 21 ?_|refine xD 21 rfl (Sa ZI) ?_)<;>(first|refine kD 22 ?_|(refine yD 22 rfl (Zw ZT) fun v37 h=>?_;cases h))<;>refine gEx 23 ?_<;>refine Wo ?_)<;>(
 refine cX ?_ ?_<;>intro hb38
 . first|exact bN hb38|(
 refine YQ ?_;refine Yk (
  ⟨k+1,oM,fun j x hj hxj=>by
   by_cases e:j=k
   . subst e;rw [hd oM] at hxj;cases hxj;exact hb38
   . exact hkp j x oM hxj⟩
  ))
 refine nav ?_;have hkn:∀x,out[k]? =some x->He R c x:=fun x hx'=>by
  first
   |(have:=Zd hx';omega)
   | (have hdk:=hd (Zd hx')
      rw [hdk] at hx';cases hx';have:=hapc d (Xb hdk);unfold He;rw [hb38] at this
      cases hr:R (YI c).toNat (YI d).toNat with
      |true=>rfl
      |false=>rw [hr] at this;exact Qe rfl this)
 (have f1:(((out.map pInts).drop (0*1)).take ((k-0)*1)).length=(k-0)*1:=by simp;omega);have f2:(((out.map pInts).drop (0*1)).take ((k-0)*1)).all En.one=true:=by
  have:=DC (out.take k);rw [V5] at this;simpa using this
 have f3:(((out.map pInts).drop (k*1)).take ((out.length-k)*1)).length=(out.length-k)*1:=sM;have f4:(((out.map pInts).drop (k*1)).take ((out.length-k)*1)).all En.one=true:=by
  have:=DC (out.drop k);rw [Uw] at this;rw [XJ,XJ,Xs sM];exact this
 (have f5:(out.map pInts).length=out.length*1:=by rw [Xc,XJ]);refine Zp ?_;refine T7 41 Yv fun h41 ho41=>?_;refine YW ?_;refine xM (Wd (i:=0) (j:=k) ZO rfl rfl rfl rfl (Xg _) hk f5) ?_;refine Ka 41 45 Yv (fun h45 ho45=>?_) f1 f2;refine ZW ?_;refine xL 46 Za (xL 47 Za (xL 48 Za (xL 49 (Ze ZO) ?_)));refine yU (Zw Yz) fun v50=>?_;refine WE (kk:=1) 51 Yv fun h51 ho51=>?_;refine Y7 45 51 52 Yv fun h52 ho52=>?_;refine D5 ?_;refine xM (Wd (i:=k) (j:=out.length) ZO rfl rfl rfl rfl hk (Xd _) f5) ?_;refine Ka 52 57 Yv (fun h57 ho57=>?_) f3 f4;refine ZD ?_;have hcells:[]++((out.map pInts).drop (0*1)).take ((k-0)*1)++[pInts c]++((out.map pInts).drop (k*1)).take ((out.length-k)*1)=(out.take k++c::out.drop k).map pInts:=by
  simp only [XJ,X8,VA,Vf,XY];rw [Xs (show ((out.map pInts).drop k).length<=out.length-k by simp)];simp
 (have hlen:0+(k-0)+1+(out.length-k)=(out.take k++c::out.drop k).length:=by simp;omega);refine G8 ?_;refine ZJ (En.freeze (l:=57) (t:=5) rfl rfl) fun _=>?_;rw [GH _ _ _ (out.take k++c::out.drop k) hcells hlen];refine Zh (
  ⟨(i+1,h57,out.take k++c::out.drop k),by show i+1<=cs.length;omega,by show (out.take k++c::out.drop k).Perm _;rw [ZR hx];exact (ZfE out c k).trans (hperm.append_right _),ZaC hsort hkp hkn fun x hx' y hy'=>htr c hcm x (hom x hx') y (hom y hy')⟩
  ) (by show cs.length-(i+1)<cs.length-i;omega) sB sB))
 refine ZP ?_;rw [show i=cs.length by omega,Xx] at hperm;exact Zg results231 rfl ⟨out,hperm,hsort,rfl⟩
def ZfF (c:List Int) (hc:c≠[]) (hcl:c.length<=1000000):AF prog 285 [pInts c] (· =Zb (KS c)):=by
 have hp:=X5.2 hc
 have e0:=ZdE hc
 refine AF.b1 21 func285 rfl ntmps285 (Xa rfl) fun w0 M0 v0 _=>?_
 refine PH ?_;refine xM (Ze (i:=0) ZS) ?_;refine yV (Zw Zq) ?_;refine KG ?_
 refine Y0 (ι:={x:Nat×Int//x.1<=c.length/\x.2=(c.take x.1).foldl (fun a b=>if b<a then b else a) (YI c)}) (fun k=>⟨[(0,_,_),(3, .int .i64 k.1.2,Zb k.1.2),(4, .int .i64 k.1.1,Zb k.1.1)],[]⟩) (fun k=>c.length-k.1.1) ⟨(0,YI c),Xg _,rfl⟩ (fun a w H=>H.weaken sB trivial) ?_
 rintro ⟨⟨k,a⟩,hk,ha⟩
 dsimp only
 dsimp only at hk ha
 refine Zi ?_
 refine xL 8 Za (xL 9 Za (xL 10 (Zu ZS) (xL 11 Yn ?_)));refine ZC ?_ ?_<;>intro hb11
 . (
 obtain ⟨x,hx⟩:=gS c k;have e1:=Yf (f:=Zb) hx;refine Zi ?_;refine xL 14 Za (xL 15 Za (xL 16 Za (xL 17 (Ze ZS) ?_)));refine yV (Zw Zq) ?_;refine xL 19 ZqE (xL 3 Wj ?_);refine D7 ?_;refine Zh (
  ⟨(k+1,if x<a then x else a),by show k+1<=c.length;omega,by show (if x<a then x else a)=_;rw [ZR hx,Ue,<-ha];rfl⟩
  ) (by show c.length-(k+1)<c.length-k;omega) sB trivial)
 refine ZP ?_;refine Zg results285 rfl ?_;rw [show k=c.length by omega,Xx] at ha;rw [ha];rfl
def Zhw (cs:List (List Int)) (hne:∀c∈cs,c≠[]/\c.length<=1000000) (hcl:cs.length<=1000) (hap:cs.Pairwise fun c d=>KS c≠KS d):AF prog 272 [KX cs] (fun p=>∃out,out.Perm cs/\out.Pairwise (fun c d=>KS c<KS d)/\p=KX out):=by
 refine AF.b1 50 func272 rfl ntmps272 (Xa rfl) fun w0 M0 v0 _=>?_
 refine WK ?_;refine KG ?_
 refine Zs (YO 200 90 1 rfl) fun _=>?_
 refine Zs (En.freeze (l:=200) (t:=3) rfl rfl) fun _=>?_
 rw [GH _ _ _ [] (by rfl) (by rfl)]
 refine Y0 (ι:={x:Nat×Value×List (List Int)//x.1<=cs.length/\x.2.2.Perm (cs.take x.1)/\x.2.2.Pairwise (fun c d=>KS c<KS d)}) (fun k=>⟨[(0,_,_),(3,k.1.2.1,KX k.1.2.2),(4, .int .i64 k.1.1,Zb k.1.1)],[]⟩) (fun k=>cs.length-k.1.1) ⟨(0, .slice none 0 0,[]),Xg _, .refl _,List.Pairwise.nil⟩ (fun a w H=>H.weaken sB trivial) ?_
 rintro ⟨⟨i,hov,out⟩,hi,hperm,hsort⟩
 dsimp only
 dsimp only at hi hperm hsort
 have hol:out.length<=1000:=by rw [hperm.length_eq,XA];omega
 refine Zi ?_
 refine xL 7 Za (xL 8 Za (xL 9 (Zu ZO) (xL 10 Yn ?_)));refine ZC ?_ ?_<;>intro hb10
 . (
 obtain ⟨c,hx⟩:=gS cs i;have e1:=Yf (f:=pInts) hx;have hcm:=Xb hx;have hc0:=hne c hcm;have hom:=DW hperm;have hapc:∀x∈out,KS x≠KS c:=fun x hxo=>by
  obtain ⟨j,hj⟩:=XM (hperm.mem_iff.1 hxo);have hjl:=Zd hj;rw [XA] at hjl;rw [X1 oM] at hj;have:=XW.1 hap j i (Zd hj) (Zd hx) oM;rw [(Xk.1 hj).2,(Xk.1 hx).2] at this;exact this
 refine ZF ?_;refine Y0 (ι:={k:Nat//k<=out.length/\∀j x,j<k->out[j]? =some x->KS x<KS c}) (fun k=>⟨[(0,_,_),(3,_,_),(4,_,_),(5, .int .i64 k.1,Zb k.1)],[]⟩) (fun k=>out.length-k.1) ⟨0,Xg _,fun j x h=>Qe h (Vv j)⟩ (fun a w H=>H.weaken sB trivial) ?_;rintro ⟨k,hk,hkp⟩;dsimp only;obtain ⟨d,hdd⟩:∃d,d=out[k]?.getD c:=⟨_,rfl⟩;(have hd:k<out.length->out[k]? =some d:=fun h=>by obtain ⟨y,hy⟩:=get_some h;rw [hdd,hy];rfl);have hdm:d∈cs:=by
  rw [hdd]
  cases ho:out[k]? with
  |none=>exact hcm
  |some y=>exact hom y (Xb ho)
 have e3:k<out.length->(out.map pInts)[k*1]? =some (pInts d):=fun h=>Yf (f:=pInts) (hd h);have hd0:=hne d hdm;refine nav ?_;(refine Yx [] [] ?_<;>refine gDx 0 ?_<;>refine gEx 1 ?_<;>refine xE 2 rfl (Zu ZO) ?_<;>refine gEx 3 ?_<;>refine gEx 4 ?_<;>(refine bDd 17 (fun hb17=>?_) (fun hb17=>?_)<;>(first|refine kD 5 ?_|refine gDx 5 ?_))<;>(first|refine kD 6 ?_|refine gDx 6 ?_)<;>(first|refine kD 7 ?_|refine xD 7 rfl (Ze ZO) ?_)<;>(first|refine kD 8 ?_|(refine yD 8 rfl (Zw Yz (hp:=e3 oM)) fun v21 h=>?_;cases h))<;>(first|refine kD 10 ?_|refine gDx 10 ?_)<;>(first|refine kD 11 ?_|refine gDx 11 ?_)<;>(first|refine kD 12 ?_|refine xD 12 rfl (Ze ZO) ?_)<;>(first|refine kD 13 ?_|(refine yD 13 rfl (Zw Yz) fun v26 h=>?_;cases h))<;>(refine ZY 9 kR ?_)<;>(first|(refine Ym (d:=22) rfl (cA call285 (ZfF d hd0.1 hd0.2)) fun v22 h=>?_;cases h)|(refine aWr fun bk=>?_;refine kL ?_;refine bE bk ?_))<;>(refine ZY 14 kR ?_)<;>(first|(refine Ym (d:=27) rfl (cA call285 (ZfF c hc0.1 hc0.2)) fun v27 h=>?_;cases h)|(refine aWr fun bk=>?_;refine kL ?_;refine bE bk ?_))<;>(first|refine kD 15 ?_|refine gDx 15 ?_)<;>refine gEx 16 ?_<;>refine Wo ?_)<;>(
 refine cX ?_ ?_<;>intro hb29
 . first|exact bN hb29|(
 refine YQ ?_;refine Zh (
  ⟨k+1,oM,fun j x hj hxj=>by
   by_cases e:j=k
   . subst e;rw [hd oM] at hxj;cases hxj;omega
   . exact hkp j x oM hxj⟩
  ) (by dsimp only;omega) sB trivial)
 refine nav ?_;have hkn:∀x,out[k]? =some x->KS c<KS x:=fun x hx'=>by
  first
   |(have:=Zd hx';omega)
   | (have hdk:=hd (Zd hx')
      rw [hdk] at hx';cases hx';have:=hapc d (Xb hdk);omega)
 (have f1:(((out.map pInts).drop (0*1)).take ((k-0)*1)).length=(k-0)*1:=by simp;omega);have f2:(((out.map pInts).drop (0*1)).take ((k-0)*1)).all En.one=true:=by
  have:=DC (out.take k);rw [V5] at this;simpa using this
 have f3:(((out.map pInts).drop (k*1)).take ((out.length-k)*1)).length=(out.length-k)*1:=sM;have f4:(((out.map pInts).drop (k*1)).take ((out.length-k)*1)).all En.one=true:=by
  have:=DC (out.drop k);rw [Uw] at this;rw [XJ,XJ,Xs sM];exact this
 (have f5:(out.map pInts).length=out.length*1:=by rw [Xc,XJ]);refine Zp ?_;refine T7 32 Yv fun h32 ho32=>?_;refine YW ?_;refine xM (Wd (i:=0) (j:=k) ZO rfl rfl rfl rfl (Xg _) hk f5) ?_;refine Ka 32 36 Yv (fun h36 ho36=>?_) f1 f2;refine ZW ?_;refine xL 37 Za (xL 38 Za (xL 39 Za (xL 40 (Ze ZO) ?_)));refine yU (Zw Yz) fun v41=>?_;refine WE (kk:=1) 42 Yv fun h42 ho42=>?_;refine Y7 36 42 43 Yv fun h43 ho43=>?_;refine D5 ?_;refine xM (Wd (i:=k) (j:=out.length) ZO rfl rfl rfl rfl hk (Xd _) f5) ?_;refine Ka 43 48 Yv (fun h48 ho48=>?_) f3 f4;refine ZD ?_;have hcells:[]++((out.map pInts).drop (0*1)).take ((k-0)*1)++[pInts c]++((out.map pInts).drop (k*1)).take ((out.length-k)*1)=(out.take k++c::out.drop k).map pInts:=by
  simp only [XJ,X8,VA,Vf,XY];rw [Xs (show ((out.map pInts).drop k).length<=out.length-k by simp)];simp
 (have hlen:0+(k-0)+1+(out.length-k)=(out.take k++c::out.drop k).length:=by simp;omega);refine G8 ?_;refine ZJ (En.freeze (l:=48) (t:=3) rfl rfl) fun _=>?_;rw [GH _ _ _ (out.take k++c::out.drop k) hcells hlen];refine Zh (
  ⟨(i+1,h48,out.take k++c::out.drop k),by show i+1<=cs.length;omega,by show (out.take k++c::out.drop k).Perm _;rw [ZR hx];exact (ZfE out c k).trans (hperm.append_right _),ZaC hsort hkp hkn fun x _ y _ h1 h2=>Int.lt_trans h1 h2⟩
  ) (by show cs.length-(i+1)<cs.length-i;omega) sB trivial))
 refine ZP ?_;rw [show i=cs.length by omega,Xx] at hperm;exact Zg results272 rfl ⟨out,hperm,hsort,rfl⟩
def ZqF {l:List Int} {r r':Int->Int->Bool} (hr:∀x∈l,∀y∈l,x≠y->(r x y=true\/r y x=true)->(r' x y=true\/r' y x=true)) {x y:Int} (h:Conn l r x y):Conn l r' x y:=fun P hP=>h P fun a b ha hb hab hPa=>by
 by_cases e:a=b
 . rw [<-e];exact hPa
 exact hP a b ha hb (hr a ha b hb e hab) hPa
def ZaJ {l:List Int} {r r':Int->Int->Bool} {cs:List (List Int)} (h:Comps l r cs) (hr:∀x∈l,∀y∈l,x≠y->((r x y=true\/r y x=true)↔(r' x y=true\/r' y x=true))):Comps l r' cs:=
 ⟨h.mem,h.nd,h.ne,h.asc,fun c hc x hx y hy=>ZqF (fun a ha b hb hab=>(hr a ha b hb hab).1) (h.conn c hc x hx y hy),fun c hc x hx y hy hxy=>by
  by_cases e:x=y
  . rw [<-e];exact hx
  . exact h.clos c hc x hx y hy ((hr x ((h.mem x).1 (XQ.2 ⟨c,hc,hx⟩)) y hy e).2 hxy),h.ord⟩
def ZaK {l:List Int} {r r':Int->Int->Bool} {cs ds:List (List Int)} (h:Comps l r cs) (k:Comps l r' ds) (hr:∀x∈l,∀y∈l,x≠y->((r x y=true\/r y x=true)↔(r' x y=true\/r' y x=true))):cs=ds:=(ZaJ h hr).unique k fun _ _ _ _=>Iff.rfl
def TC (n:Nat):marked n (fun _=>true)=upTo n:=by
 unfold marked upTo vec
 exact Ur.2 fun _ _=>rfl
def Hf (n:Nat) (S F:Nat->Bool):marked n (fun i=> !S i&& !F i)=Rf n S F:=by
 unfold marked Rf upTo vec
 refine List.filter_congr fun x _=>?_
 unfold Zay;dsimp only
 cases S x.toNat<;>cases F x.toNat<;>rfl
def ZaL {n:Nat} {l:List Int} {r:Int->Int->Bool} {cs:List (List Int)} (h:Comps l r cs) (hl:∀x∈l,0<=x/\x<n):∀c∈cs,Kj n c=c:=fun c hc=>ZaE (h.asc c hc) fun x hx=>hl x ((h.mem x).1 (XQ.2 ⟨c,hc,hx⟩))
def Ee {n:Nat} {cs:List (List Int)} (h:∀c∈cs,Kj n c=c):cs.map (Kj n)=cs:=(VV (g:=id) h).trans (VF cs)
def ZrF {E R:Nat->Nat->Bool} (x y:Int):(T9 E R 1 x y=true\/T9 E R 1 y x=true)↔(Oc E x y=true\/Oc E y x=true):=by
 unfold T9 Od Oc
 cases E x.toNat y.toNat<;>cases E y.toNat x.toNat<;>simp
def ZrG {E R:Nat->Nat->Bool} (x y:Int):(T9 E R 2 x y=true\/T9 E R 2 y x=true)↔(relS R x y=true\/relS R y x=true):=by
 unfold T9 Od relS
 cases R x.toNat y.toNat<;>cases R y.toNat x.toNat<;>simp
def Ztj {E R:Nat->Nat->Bool} {x y:Int} (h:x≠y):(T9 E R 3 x y=true\/T9 E R 3 y x=true)↔(PU E x y=true\/PU E y x=true):=by
 unfold T9 Od PU
 rw [Qa h,Qa (Ne.symm h)]
 cases E x.toNat y.toNat<;>cases E y.toNat x.toNat<;>simp
def ZfG {l:List Int} {r:Int->Int->Bool} {cs:List (List Int)} (h:Comps l r cs):cs.Pairwise fun c d=>YI c≠YI d:=h.heads.imp fun h=>oM
def Zjg {n:Nat} {E:Nat->Nat->Bool} {cs out ds:List (List Int)} (hc:Comps (upTo n) (relS (ZU n E)) cs) (hp:out.Perm cs) (ho:out.Pairwise (He (ZU n E))) (hd:SeqCs n (ZU n E) ds):out=ds:=by
 obtain ⟨cs',hc',hp'⟩:=hd.cl
 have e:=hc'.unique hc fun _ _ _ _=>Iff.rfl
 subst e
 have hne:∀{m:List (List Int)},m.Perm cs'->m.Pairwise fun c d=>YI c≠YI d:=fun h=>(h.pairwise_iff (R:=fun c d=>YI c≠YI d) fun h=>Ne.symm h).2 (ZfG hc')
 refine ZdD (rel:=fun c d=>YI c≠YI d/\He (ZU n E) c d) (fun a ha b hb hab hba=>?_) ((hne hp).and ho) ((hne hp').and ?_) fun c=>by rw [hp.mem_iff,hp'.mem_iff]
 . have h0:=GV hc' (hp.mem_iff.1 ha) (hp.mem_iff.1 hb) hab.1;have h1:=hab.2;have h2:=hba.2;unfold He at h1 h2;exact h0 (h1.trans h2.symm)
 rw [XW];intro i j hi hj hij;have h1:=hd.ord i j _ _ hij (Xr hi) (Xr hj);have h2:=XW.1 (hne hp') i j hi hj hij;have h3:=GV hc' (hp'.mem_iff.1 (Vm hi)) (hp'.mem_iff.1 (Vm hj)) h2;rw [SZ] at h1;unfold He
 cases hr:ZU n E (YI ds[i]).toNat (YI ds[j]).toNat with
 |true=>rfl
 | false=>
   exfalso
   cases hr2:ZU n E (YI ds[j]).toNat (YI ds[i]).toNat with
   |true=>exact h1 ⟨Ne.symm h2,hr2⟩
   |false=>exact h3 (hr.trans hr2.symm)
def GX (W:List Int->Bool) (cs:List (List Int)):List (List Int):=match cs.filter W with
 |[]=>[]
 |c0::t=>(c0++(cs.filter fun c=> !W c).flatten)::t
def ζs {α:Type} {p:α->Bool} {l:List α} {i0:Nat} (h:idx p l=i0):(∀j y,j<i0->l[j]? =some y->p y=false)/\∀y,l[i0]? =some y->p y=true:=by
 unfold idx at h
 cases hf:l.findIdx? p with
 |none=>rw [hf] at h;dsimp only at h;omega
 | some i=>
   rw [hf] at h;dsimp only at h;have hi0:i=i0:=oM;subst hi0;rw [V6] at hf;obtain ⟨hi,hp,hlt⟩:=hf;refine ⟨fun j y hj hy=>?_,fun y hy=>?_⟩
   . obtain ⟨hl,rfl⟩:=Xk.1 hy;simpa using hlt j hj
   obtain ⟨hl,rfl⟩:=Xk.1 hy;exact hp
def E7 {α:Type} {p:α->Bool} {l:List α} (k:Nat) (h:∀j y,j<k->l[j]? =some y->p y=false):(l.take k).filter p=[]:=List.filter_eq_nil_iff.2 fun x hx=>by
 obtain ⟨j,hj⟩:=XM hx
 have hjl:=Zd hj
 rw [XA] at hjl
 rw [X1 oM] at hj
 rw [h j x oM hj];decide
def DD {i0:Nat} {W:List Int->Bool} {cs:List (List Int)} (hW:∀y,cs[i0]? =some y->W y=true):∀k,k<=cs.length->selA i0 W false (cs.take k)=(cs.take k).filter fun c=> !W c
 |0,_=>by simp [selA]
 | k+1,hk=>by
   obtain ⟨c,hc⟩:=gS cs k;rw [Dz hc,GW hc,DD hW k oM];congr 1;by_cases h:W c=false
   . rw [Qd ⟨fun e=>by subst e;rw [hW c hc] at h;exact Bool.noConfusion h,h⟩,Qd (by rw [h];rfl)]
   rw [Qc (fun hh=>h hh.2),Qc (by simpa using h)]
def Ef {i0:Nat} {W:List Int->Bool} {cs:List (List Int)} {c0:List Int} (h0:cs[i0]? =some c0) (hW:W c0=true) (hpre:∀j y,j<i0->cs[j]? =some y->W y=false):∀k,k<=cs.length->(cs.take k).filter W=(if i0<k then [c0] else [])++selA i0 W true (cs.take k)
 |0,_=>by simp [selA]
 | k +1,hk=>by
   obtain ⟨c,hc⟩:=gS cs k;have hb:k<=i0->selA i0 W true (cs.take k)=[]:=fun hk0=>List.eq_nil_iff_forall_not_mem.2 fun x hx=>by
    have hm:=H9 hx;have:=E7 (p:=W) (l:=cs) k fun j y hj=>hpre j y oM;have h2:x∈(cs.take k).filter W:=XF.2 hm;rw [this] at h2;exact UZ h2
   rw [Dz hc,GW hc,Ef h0 hW hpre k oM];rcases VB k i0 with h|h|h
   . have hw:=hpre k c h hc;rw [Qc (show ¬i0<k by omega),Qc (show ¬i0<k+1 by omega),Qc (show ¬W c=true by rw [hw];decide),Qc (fun hh=>by rw [hw] at hh;exact Bool.noConfusion hh.2)];simp
   . subst h;rw [h0] at hc;cases hc;rw [hb (Xd _),Qc (show ¬k<k by omega),Qd (show k<k+1 by omega),Qd hW,Qc (fun hh=>hh.1 rfl)];simp
   rw [Qd h,Qd (show i0<k+1 by omega)];by_cases hw:W c=true
   . rw [Qd hw,Qd ⟨oM,hw⟩];simp
   rw [Qc hw,Qc (fun hh=>hw hh.2)];simp
def Jo {α:Type} (p:α->Bool):∀l:List α,(l.filter p++l.filter fun x=> !p x).Perm l
 |[]=> .refl _
 | a::l=>by
   cases h:p a with
   |true=>rw [V4 h,VW (by rw [h];decide)];exact (Jo p l).cons a
   |false=>rw [VW (by rw [h];decide),V4 (by rw [h];rfl)];exact List.perm_middle.trans ((Jo p l).cons a)
def Gg {α:Type} {l m:List (List α)} (h:l.Perm m):l.flatten.Perm m.flatten:=by
 induction h with
 |nil=>exact .refl _
 |cons x _ ih=>rw [XS,XS];exact ih.append_left x
 | swap x y l=>
   rw [XS,XS,XS,XS,<-XG,<-XG];exact V2.append_right _
 |trans _ _ h1 h2=>exact h1.trans h2
def ZqG {n:Nat} {E:Nat->Nat->Bool} {W:List Int->Bool} {cs out ds:List (List Int)} {i0:Nat} {c0:List Int} (hc:Comps (upTo n) (PU E) cs) (h0:cs[i0]? =some c0) (hi:idx W cs=i0) (hd:AndCs cs i0 c0 W ds) (hp:out.Perm (GX W cs)) (ho:out.Pairwise fun c d=>KS c<KS d):out.map (Kj n)=ds:=by
 obtain ⟨hpre,hat⟩:=ζs hi
 have hT:=Ef h0 (hat c0 h0) hpre cs.length (Xd _)
 have hN:=DD (W:=W) hat cs.length (Xd _)
 rw [Xx] at hT hN
 rw [Qd (Zd h0)] at hT
 have hM:GX W cs=(c0++(cs.filter fun c=> !W c).flatten)::selA i0 W true cs:=by unfold GX;rw [hT];rfl
 have hperm:((c0++(cs.filter fun c=> !W c).flatten)::selA i0 W true cs).flatten.Perm cs.flatten:=by
  have h1:=Gg (Jo W cs);rw [hT,XZ,XZ] at h1;refine .trans ?_ h1;rw [XS,XG,XG,show [c0].flatten=c0 by simp];exact (V2).append_left c0
 have hnd:((c0++(cs.filter fun c=> !W c).flatten)::selA i0 W true cs).flatten.Nodup:=(hperm.pairwise_iff (R:=(· ≠ ·)) fun h=>Ne.symm h).2 hc.nd
 rw [XS,X6] at hnd
 have hin:=Jv hc
 have hbd:∀x∈c0++(cs.filter fun c=> !W c).flatten,0<=x/\x<n:=fun x hx=>by
  have h1:x∈cs.flatten:=hperm.mem_iff.1 (by rw [XS,XD];exact .inl hx);exact YR.1 ((hc.mem x).1 h1)
 have hs:=ZaF hnd.1 hbd
 have hc0:c0≠[]:=hc.ne c0 (Xb h0)
 have hTm:∀c∈selA i0 W true cs,c∈cs:=fun c h=>(H9 h).1
 have hout:∀c∈out,c≠[]/\c.Nodup/\∀x∈c,0<=x/\x<n:=fun c h=>by
  have h1:=hp.mem_iff.1 h;rw [hM,Xi] at h1;rcases h1 with rfl|h1
  . exact ⟨fun e=>hc0 (List.append_eq_nil_iff.1 e).1,hnd.1,hbd⟩
  exact ⟨hc.ne c (hTm c h1),(hc.asc c (hTm c h1)).imp fun h=>oM,hin.1 c (hTm c h1)⟩
 have hR:(out.map (Kj n)).Perm ds:=by
  refine .trans ((hp.map (Kj n))) ?_;rw [hM,Xn,hs,Ee fun c h=>ZaE (hc.asc c (hTm c h)) (hin.1 c (hTm c h))];have h2:=hd.perm;rw [hN] at h2;exact (UI _ _).symm.trans h2.symm
 have hRa:(out.map (Kj n)).Pairwise fun c d=>YI c<YI d:=by
  rw [X7];refine List.Pairwise.imp_of_mem (fun {a b} ha hb hab=>?_) ho;rw [CS (hout a ha).1 (hout a ha).2.1 (hout a ha).2.2,CS (hout b hb).1 (hout b hb).2.1 (hout b hb).2.2];exact hab
 have hdn:ds.Pairwise fun c d=>YI c≠YI d:=(hR.pairwise_iff (R:=fun c d=>YI c≠YI d) fun h=>Ne.symm h).1 (hRa.imp fun h=>oM)
 refine E4 hRa ?_ fun c=>hR.mem_iff
 rw [XW] at hdn ⊢
 intro i j hi hj hij
 have h1:=hdn i j hi hj hij
 have h2:=hd.ord i j _ _ hij (Xr hi) (Xr hj)
 omega
def Zhx {W:List Int->Bool} {cs:List (List Int)} (h:idx W cs<0):GX W cs=[]:=by
 have h1:=LS W cs
 rw [Qb oM] at h1
 have h2:cs.filter W=[]:=List.filter_eq_nil_iff.2 fun x hx=>by
  have:=Ux.1 h1.symm x hx;exact this
 unfold GX
 rw [h2]
def P' (n:Nat) (E:Nat->Nat->Bool) (S F:Nat->Bool) (cs:List (List Int)):List (List Int):=(inL n S F++(cs.filter fun c=> !Gq n E S F c).flatten)::cs.filter (Gq n E S F)
def Zn6 {n:Nat} {E:Nat->Nat->Bool} {S F:Nat->Bool} {cs:List (List Int)} (hc:Comps (Rf n S F) (Oc E) cs):(P' n E S F cs).map (Kj n)=GG n E S F cs:=by
 have hin:∀c∈cs,∀x∈c,x∈Rf n S F:=(Pj hc).1
 have hbd:∀c∈cs,∀x∈c,0<=x/\x<n:=fun c h x hx=>PW.2 x (hin c h x hx)
 unfold P' GG
 rw [Xn,Ee fun c h=>ZaE (hc.asc c (XF.1 h).1) (hbd c (XF.1 h).1),ZaF]
 . rw [X6];refine ⟨((Tc n).filter _).imp fun h=>oM,?_,fun a ha b hb e=>?_⟩
   . have h1:=Gg (Jo (Gq n E S F) cs);have h2:=(h1.pairwise_iff (R:=(· ≠ ·)) fun h=>Ne.symm h).2 hc.nd;rw [XZ] at h2;exact (X6.1 h2).2.1
   subst e;obtain ⟨c,hcm,hx⟩:=XQ.1 hb;have h1:=hin c (XF.1 hcm).1 a hx;unfold inL at ha;unfold Rf at h1;have h2:=(XF.1 ha).2;have h3:=(XF.1 h1).2;rw [h2] at h3;exact Qe h3 dC
 intro x hx;rcases XD.1 hx with h|h
 . exact E6.2 x h
 obtain ⟨c,hcm,hx⟩:=XQ.1 h;exact hbd c (XF.1 hcm).1 x hx
def Zlj (l:List BA) (n:Nat) (E:Nat->Nat->Bool) (S F:Nat->Bool):Nat->Option Cut->Prop
 |0,o=>∃cs,Comps (marked n fun _=>true) (T9 E (ZU n E) 1) cs/\o=G9 l 1 (cs.map (Kj n))
 |1,o=>∃(cs out:List (List Int)),Comps (marked n fun _=>true) (T9 E (ZU n E) 2) cs/\out.Perm cs/\out.Pairwise (He (ZU n E))/\o=G9 l 2 (out.map (Kj n))
 |2,o=>∃(cs out:List (List Int)),Comps (marked n fun _=>true) (T9 E (ZU n E) 3) cs/\out.Perm (GX (Ya S F) cs)/\out.Pairwise (fun c d=>KS c<KS d)/\o=G9 l 3 (out.map (Kj n))
 |_,o=>(inL n S F=[]/\o=none)\/(inL n S F≠[]/\∃cs,Comps (marked n fun i=> !S i&& !F i) (T9 E (ZU n E) 1) cs/\o=G9 l 4 ((P' n E S F cs).map (Kj n)))
def Zn7 {l:List BA} {n:Nat} {E:Nat->Nat->Bool} {S F:Nat->Bool} {o o':Option Cut}:∀k,k<4->Zlj l n E S F k o'->RO l n E S F k o->o'=o
 | 0,_,h1,h2=>by
   obtain ⟨cs,hc,rfl⟩:=h1;obtain ⟨ds,hd,rfl⟩:=h2;rw [TC] at hc;have e:=ZaK hc hd fun x _ y _ _=>ZrF x y;subst e;rw [Ee (ZaL hd fun x hx=>YR.1 hx)]
 | 1,_,h1,h2=>by
   obtain ⟨cs,out,hc,hp,ho,rfl⟩:=h1;obtain ⟨ds,hd,rfl⟩:=h2;rw [TC] at hc;have hc':=ZaJ hc fun x _ y _ _=>ZrG x y;have e:=Zjg hc' hp ho hd;subst e;rw [Ee fun c h=>ZaL hc' (fun x hx=>YR.1 hx) c (hp.mem_iff.1 h)]
 | 2, _,h1,h2=>by
   obtain ⟨cs,out,hc,hp,ho,rfl⟩:=h1;obtain ⟨cs',hc',h3⟩:=h2;rw [TC] at hc;have e:=ZaK hc hc' fun x _ y _ h=>Ztj h;subst e;rcases h3 with ⟨h3,rfl⟩|⟨i0,c0,ds,h3,h4,h5,rfl⟩
   . rw [Zhx h3] at hp;rw [List.Perm.eq_nil hp];rfl
   rw [ZqG hc' h3 h4 h5 hp ho]
 | 3, _,h1,h2=>by
   rcases h1 with ⟨h1,rfl⟩|⟨h1,cs,hc,rfl⟩
   . rcases h2 with ⟨_,rfl⟩|⟨cs',h2,_⟩
     . rfl
     exact Qe h1 h2
   rcases h2 with ⟨h2,_⟩|⟨cs',h2,hc',rfl⟩
   . exact Qe h2 h1
   rw [Hf] at hc;have e:=ZaK hc hc' fun x _ y _ _=>ZrF x y;subst e;rw [Zn6 hc']
 |k+4,h,_,_=>Qe h oM
def Zn8 {Q Q':Nat->Option Cut->Prop} (h:∀k o o',k<4->Q' k o'->Q k o->o'=o) {o o':Option Cut} (h1:Pk Q' o') (h2:Pk Q o):o'=o:=by
 rcases h1 with ⟨k,c,hk,hj,hq,rfl⟩|⟨hj,rfl⟩
 . rcases h2 with ⟨k',c',hk',hj',hq',rfl⟩|⟨hj',rfl⟩
   . rcases VB k k' with e|e|e
     . exact Qe (h k none (some c) hk hq (hj' k e)) sM
     . subst e;exact h k _ _ hk hq hq'
     exact Qe (h k' (some c') none hk' (hj k' e) hq') sM
   exact h k none (some c) hk hq (hj' k hk)
 rcases h2 with ⟨k',c',hk',hj',hq',rfl⟩|⟨hj',rfl⟩
 . exact h k' (some c') none hk' (hj k' hk') hq'
 rfl
def PY {l:List BA} {s:BA}:hasStr l s=true↔s∈l:=by
 constructor
 . intro h;unfold hasStr at h;obtain ⟨x,hx,e⟩:=X2.1 h;rw [<-Y'.1 e];exact hx
 exact CL
def Zhy {ps:List (List BA)} {s:BA} (h:0<=partOf ps s):hasStr (ps[(partOf ps s).toNat]?.getD []) s=true:=by
 unfold partOf idx at h ⊢
 cases hf:ps.findIdx? fun p=>hasStr p s with
 |none=>rw [hf] at h;simp at h
 | some i=>
   simp only [hf];rw [V6] at hf;obtain ⟨hi,h1,_⟩:=hf;rw [XH,Xr hi];exact h1
def ZfH {ps:List (List BA)} {s:BA} {i:Nat} {p:List BA} (hn:ps.flatten.Nodup) (hp:ps[i]? =some p) (hs:s∈p):partOf ps s=i:=by
 unfold partOf
 refine Lb (fun j q hj hq=>?_) hp (PY.2 hs)
 rw [<-U2,PY]
 intro hsq
 have:=XW.1 (Ug.1 hn).2 j i (Zd hq) (Zd hp) hj s (by rw [(Xk.1 hq).2];exact hsq) s (by rw [(Xk.1 hp).2];exact hs)
 exact this rfl
structure Fine (c:Cut) (P:List (List BA)):Prop where
 len:c.parts.length<=P.length
 ok:∀p∈P,∃s0,p[0]? =some s0/\0<=partOf c.parts s0/\∀s∈p,hasStr (c.parts[(partOf c.parts s0).toNat]?.getD []) s=true
 ord:c.kind=2->∀(k:Nat) p q s t,P[k]? =some p->P[k+1]? =some q->p[0]? =some s->q[0]? =some t->partOf c.parts s<=partOf c.parts t
end Go.Proofs.YtmkojdfiadbeeaaGreat
namespace Go.Cb
open Go.En
def WS (parts:List (List BA)) (ps:List Piece) (s:BA):List Piece:=match ps[ps.length-1]? with
 |none=>[⟨partOf parts s,[s]⟩]
 |some q=>if q.part=partOf parts s then ps.set (ps.length-1) ⟨q.part,q.word++[s]⟩ else ps++[⟨partOf parts s,[s]⟩]
def PZ (parts:List (List BA)) (ps:List Piece) (ws:List BA):List Piece:=ws.foldl (WS parts) ps
def LR:List Piece->Bool
 |p::q::l=>(p.part==0||q.part==0)&&LR (q::l)
 |_=>true
def ZfI {l:List Piece} {q:Piece}:∀(m:List Piece),LR (l++m)=true->LR l=true:=by
 intro m
 induction l with
 |nil=>intro _;rfl
 | cons p l ih=>
   intro h
   cases l with
   |nil=>rfl
   | cons p' l=>
     simp only [Vh,LR,Xf] at h ⊢;exact ⟨h.1,ih (by simpa using h.2)⟩
def Zcs:∀(l:List Piece) (p q:Piece),LR (l++[p,q])=(LR (l++[p])&&(p.part==0||q.part==0))
 |[],p,q=>by simp [LR]
 |[a],p,q=>by simp [LR,Bool.and_comm]
 | a::b::l,p,q=>by
   simp only [Vh,LR];have:=Zcs (b::l) p q;simp only [Vh] at this;rw [this,UH]
def ZaM:∀(l:List Piece) (p p':Piece),p.part=p'.part->LR (l++[p])=LR (l++[p'])
 |[],_,_,_=>rfl
 |[a],p,p',h=>by simp [LR,h]
 | a::b::l,p,p',h=>by
   simp only [Vh,LR];have:=ZaM (b::l) p p' h;simp only [Vh] at this;rw [this]
def Hg {α:Type} {l:List α} {x:α} (h:l[l.length-1]? =some x):∃m,l=m++[x]:=by
 have hl:=(Xk.1 h).1
 refine ⟨l.take (l.length-1),?_⟩
 have h1:=ZR h
 rw [show l.length-1+1=l.length by omega,Xx] at h1
 exact h1
def Eg {α:Type} (m:List α) (x y:α):(m++[x]).set ((m++[x]).length-1) y=m++[y]:=by
 have:(m++[x]).length-1=m.length:=sM
 rw [this,Vr _ _ (Xd _),Vg];rfl
def Zn9 {α:Type} (m:List α) (x:α):(m++[x])[(m++[x]).length-1]? =some x:=by
 have:(m++[x]).length-1=m.length:=sM
 rw [this,Vp (Xd _),Vg];rfl
def ZfJ {parts:List (List BA)} {ps:List Piece} {s:BA} (h:LR ps=false):LR (WS parts ps s)=false:=by
 unfold WS
 split
 . rename_i hn
   cases ps with
   |nil=>cases h
   |cons p ps=>simp at hn
 rename_i q hq;obtain ⟨m,rfl⟩:=Hg hq;split
 . rw [Eg,<-ZaM m q ⟨q.part,q.word++[s]⟩ rfl];exact h
 cases h1:LR (m++[q]++[⟨partOf parts s,[s]⟩])
 . rfl
 rw [ZfI (q:=q) _ h1] at h;cases h
def ZfK {parts:List (List BA)}:∀(ws:List BA) (ps:List Piece),LR ps=false->LR (PZ parts ps ws)=false
 |[],ps,h=>h
 |s::ws,ps,h=>ZfK ws _ (ZfJ h)
def Rv {parts:List (List BA)}:∀(ws:List BA) (ps:List Piece),LR ps=true->Wb parts ps ws=if LR (PZ parts ps ws) then some (PZ parts ps ws) else none
 |[],ps,h=>by simp [Wb,PZ,h]
 | s :: ws, ps,h=>by
   rw [Wb];show _=if LR (PZ parts (WS parts ps s) ws) then some (PZ parts (WS parts ps s) ws) else none;unfold pieceStep;have hrs:WS parts ps s=WS parts ps s:=rfl
   cases hq:ps[ps.length-1]? with
   | none=>
     (have:WS parts ps s=[⟨partOf parts s,[s]⟩]:=by unfold WS;rw [hq]);rw [this];exact Rv ws _ rfl
   | some q =>
     obtain ⟨m,rfl⟩:=Hg hq;simp only [];by_cases h1:q.part=partOf parts s
     . (have:WS parts (m++[q]) s=(m++[q]).set ((m++[q]).length-1) ⟨q.part,q.word++[s]⟩:=by unfold WS;rw [hq];simp [h1]);rw [Qd h1,this];refine Rv ws _ ?_;rw [Eg,<-ZaM m q ⟨q.part,q.word++[s]⟩ rfl];exact h
     (have :WS parts (m++[q]) s=m++[q]++[⟨partOf parts s,[s]⟩]:=by unfold WS;rw [hq];simp [h1]);rw [Qc h1,this];have ha:LR (m++[q]++[⟨partOf parts s,[s]⟩])=(LR (m++[q])&&(q.part==0||partOf parts s==0)):=by
      rw [XG];exact Zcs m q _
     by_cases h2:partOf parts s≠0/\q.part≠0
     . rw [Qd h2];(have hb:LR (m++[q]++[⟨partOf parts s,[s]⟩])=false:=by rw [ha];simp [h2.1,h2.2]);rw [ZfK ws _ hb];rfl
     rw [Qc h2];refine Rv ws _ ?_;rw [ha,h];simp;by_cases h3:q.part=0
     . exact .inl h3
     right
     by_cases h4:partOf parts s=0
     . exact h4
     exact Qe ⟨h4,h3⟩ h2
def Jw (ps:List Piece) (i:Nat):Bool:=match ps[i]? with
 |none=>false
 |some p=>p.part !=0&&(i==0||i==ps.length-1||match ps[i+1]? with|some q=>q.part !=0|none=>false)
def Ga (ps:List Piece):Bool:=(List.range ps.length).all fun i=> !Jw ps i
def Zjh:∀(ps:List Piece),LR ps=true↔∀i p q,ps[i]? =some p->ps[i+1]? =some q->p.part=0\/q.part=0
 |[]=>by simp [LR]
 |[p]=>by simp [LR]
 | p ::q::l=>by
   rw [LR,Xf,Zjh (q::l)];constructor
   . rintro ⟨h1,h2⟩ i a b ha hb
     cases i with
     |zero=>simp at ha hb;subst ha hb;simpa using h1
     |succ i=>exact h2 i a b (by simpa using ha) (by simpa using hb)
   intro h;refine ⟨by simpa using h 0 p q rfl rfl,fun i a b ha hb=>h (i+1) a b (by simpa using ha) (by simpa using hb)⟩
def Zoa {ps:List Piece} (h0:ps≠[]):Ga ps=(LR ps&&endsB ps):=by
 have hlen:0<ps.length:=by cases ps with|nil=>exact Qe rfl h0|cons=>simp
 obtain ⟨a,ha⟩:=get_some hlen
 obtain ⟨b,hb⟩:=get_some (show ps.length-1<ps.length by omega)
 have hends:endsB ps=(a.part==0&&b.part==0):=by unfold endsB;rw [ha,hb]
 rw [VI,Xf,Zjh,hends]
 unfold Ga
 rw [Xj]
 constructor
 . intro h;have key:∀i p,ps[i]? =some p->p.part≠0->i≠0/\i≠ps.length-1/\∀q,ps[i+1]? =some q->q.part=0:=fun i p hp hne=>by
    have h1:=h i (XT.2 (Zd hp));unfold Jw at h1;rw [hp] at h1;simp [hne] at h1;refine ⟨h1.1.1,h1.1.2,fun q hq=>?_⟩;have:=h1.2;rw [hq] at this;simpa using this
   refine ⟨fun i p q hp hq=>?_,?_⟩
   . by_cases hz:p.part=0
     . exact .inl hz
     exact .inr ((key i p hp hz).2.2 q hq)
   simp;constructor
   . by_cases hz:a.part=0
     . exact hz
     exact Qe rfl (key 0 a ha hz).1
   by_cases hz:b.part=0
   . exact hz
   exact Qe rfl (key _ b hb hz).2.1
 rintro ⟨h1,h2⟩ i hi;simp at h2;unfold Jw
 cases hp:ps[i]? with
 |none=>rfl
 | some p=>
   by_cases hz:p.part=0
   . simp [hz]
   (have e1:i≠0:=fun e=>by subst e;rw [ha] at hp;cases hp;exact hz h2.1);(have e2:i≠ps.length-1:=fun e=>by subst e;rw [hb] at hp;cases hp;exact hz h2.2);simp [hz,e1,e2]
   cases hq:ps[i+1]? with
   |none=>rfl
   |some q=>simpa using (h1 i p q hp hq).resolve_left hz
def Zji {parts:List (List BA)}:∀(ws:List BA) (ps:List Piece),ps≠[]->PZ parts ps ws≠[]
 |[],ps,h=>h
 | s ::ws,ps,h=>Zji ws _ (by
   unfold WS;split
   . simp
   split
   . intro e;exact h (by simpa using e)
   simp)
def Zhz {parts:List (List BA)} {ps:List Piece} {s:BA}:WS parts ps s≠[]:=by
 unfold WS
 split
 . simp
 rename_i q hq;split
 . intro e;(have:ps=[]:=by simpa using e);subst this;simp at hq
 simp
def ZbC {parts:List (List BA)} {ws:List BA} (h:ws≠[]):LZ parts ws=if Ga (PZ parts [] ws) then some (PZ parts [] ws) else none:=by
 have hne:PZ parts [] ws≠[]:=by
  cases ws with
  |nil=>exact Qe rfl h
  |cons s ws=>exact Zji ws _ Zhz
 unfold LZ
 rw [Qc h,Rv ws [] rfl,Zoa hne]
 cases h1:LR (PZ parts [] ws)
 . simp
 simp
def E8 {parts:List (List BA)} {ws:List BA} {k:Nat} {s:BA} (h:ws[k]? =some s):PZ parts [] (ws.take (k+1))=WS parts (PZ parts [] (ws.take k)) s:=by
 unfold PZ
 rw [ZR h,Ue];rfl
def ZdF {parts:List (List BA)} {ps:List Piece} {s:BA}:∃m w,WS parts ps s=m++[⟨partOf parts s,w⟩]:=by
 unfold WS
 split
 . exact ⟨[],_,rfl⟩
 rename_i q hq;obtain ⟨m,rfl⟩:=Hg hq;split
 . rename_i h;rw [Eg,h];exact ⟨m,_,rfl⟩
 exact ⟨_,_,rfl⟩
def P0 (q:Piece):List PV:=[Zb q.part,ZX q.word]
def TL (ps:List Piece):PV:= .sl ps.length (ps.flatMap P0)
def Z2 (e:Nat) (q:Piece):List PV:=[Zb q.part, .own e 1 q.word.length (q.word.map Zx)]
def Lu (q:Piece):(P0 q).length=2:=rfl
def Yw (e:Nat) (q:Piece):(Z2 e q).length=2:=rfl
def ZhA (l:List BA):Wi (l.map Zx)=l.map Zx:=by
 rw [YG,XB];rfl
def DX (l m:List PV):Wi (l++m)=Wi l++Wi m:=by rw [YG,YG,YG,XX]
def RP (e:Nat) (ps:List Piece):Wi (ps.flatMap (Z2 e))=ps.flatMap P0:=by
 induction ps with
 |nil=>simp [Wi]
 | cons q ps ih=>
   rw [Xq,Xq,DX,ih];congr 1;simp [Z2,P0,Wi,share,ZhA,ZX]
def S1 {α β:Type} {f:α->List β} {k:Nat} (hf:∀x,(f x).length=k):∀(l:List α) (i j:Nat) (x y:α) (b:β),l[i]? =some x->j<k->(f x).set j b=f y->(l.flatMap f).set (i*k+j) b=(l.set i y).flatMap f
 |[],i,j,x,y,b,h,_,_=>by simp at h
 | z::l,0,j,x,y,b,h,hj,he=>by
   simp at h;subst h;rw [X8,XC,Xq,List.set_append_left _ _ (by rw [hf];exact hj),he];rfl
 | z::l,i+1,j,x,y,b,h,hj,he=>by
   rw [Xq,Vr _ _ (by rw [hf,X3];omega),hf,show (i+1)*k+j-k=i*k+j by rw [X3];omega,S1 hf l i j x y b (by simpa using h) hj he];rfl
end Go.Cb
namespace Go.Proofs.YtmkojdfiadbeeaaGreat
open Go.RowKit Go.Cb Go.En Tryz
def CU:AggT prog 114 2=true:=kR
def S2:ElT prog 110 114 2 32 (.agg #[(.int .i64 0),(.slice none 0 0)]):=⟨underlying110,by kernel_rfl,rfl,dC⟩
def DF:ElT prog 26 9 1 16 (.string ByteArray.empty):=⟨underlying26,by kernel_rfl,rfl,dC⟩
def Td:FldT prog 114 0 0=true:=kR
def Sn:FldT prog 114 1 1=true:=kR
def JU:MpT prog 78 9 3 .string (.int .i64 0):=⟨underlying78,underlying9, .inl rfl,by show ZeroT _ _ _;unfold ZeroT;kernel_rfl⟩
def K':NoAgg prog 26=true:=kR
def OO:NoAgg prog 3=true:=kR
def JV:NoAgg prog 78=true:=kR
def Ps:NoAgg prog 9=true:=kR
def WV:SlT prog 110 114 2=true:=kR
def GY:SlT prog 26 9 1=true:=kR
def Hh:Gk prog 114=some ((.agg #[(.int .i64 0),(.slice none 0 0)]),([0,1]:List Nat).map fun o=>(o,1)):=kR
def Zct:(prog.info? 26).map (·.size)=some 1:=kR
def ZaN:(prog.info? 3).map (·.size)=some 1:=kR
def ZhB:ZeroT prog 114 (.agg #[(.int .i64 0),(.slice none 0 0)]):=by unfold ZeroT;kernel_rfl
def P1 {es:List (BA×Value)} {s:BA} {n:Int} (h:Kx es s=some (.int .i64 n)):(KC (skv es) (.string s)).getD (.int .i64 0)= .int .i64 n:=by rw [L5,h];rfl
def Zlk (parts:List (List BA)) (ws:List BA) (es:List (BA×Value)) (s s0:BA) (h0:ws[0]? =some s0) (hes:∀t∈ws,Kx es t=some (.int .i64 (partOf parts t))) (hs:s∈ws):
 AF prog 111 [Zx s, .sptr 0 [.smap (skv es)], .sptr 0 [ZX ws]] (· =Zr (partOf parts s !=partOf parts s0)):=by
 have hlen:0<ws.length:=by have:=Zd h0;omega
 have m1:=P1 (hes s hs)
 have m2:=P1 (hes s0 (Xb h0))
 have e1:(ws.map Zx)[(0:Int).toNat*1]? =some (Zx s0):=Yf h0
 refine AF.b3 14 func111 rfl ntmps111 (Xa rfl) ?_
 rintro w0 M0 _ v1 v2 rfl- -
 refine ZF ?_
 refine Yx [] [] ?_<;>(refine yD 0 rfl (Zw JV) fun v5 h=>?_;cases h)<;>refine gDx 1 ?_<;>refine xD 2 rfl (L9 JU) ?_<;>(refine yD 3 rfl (Zw JV) fun v8 h=>?_;cases h)<;>(refine yE 4 rfl (Zw K') fun v9 h=>?_;cases h)<;>refine xE 5 rfl (Ze GY) ?_<;>(refine yE 6 rfl (Zw Ps) fun v11 h=>?_;cases h)<;>refine xE 7 rfl (L9 JU) ?_<;>refine gEx 8 ?_<;>refine gEx 9 ?_<;>refine Wo ?_
 refine Zg results111 rfl ?_
 congr 2
 by_cases h:partOf parts s=partOf parts s0<;>simp [h]
def Zsr (x:Option (List Piece)) (p:PV):Prop:=match x with
 |none=>p= .tup [.val (.slice none 0 0),Zr false]
 |some ps=>p= .tup [TL ps,Zr true]
def Rh (parts:List (List BA)) (ws:List BA) (k:Nat):List Piece:=if k=0 then [⟨0,[]⟩] else PZ parts [] (ws.take k)
def ZfL {parts:List (List BA)}:∀(ws:List BA) (ps:List Piece),(PZ parts ps ws).length<=ps.length+ws.length/\∀n,(∀p∈ps,p.word.length<=n)->∀p∈PZ parts ps ws,p.word.length<=n+ws.length
 |[],ps=>⟨by simp [PZ],fun n h p hp=>by have:=h p hp;simpa using this⟩
 | s :: ws,ps=>by
   have hst:(WS parts ps s).length<=ps.length+1/\∀n,(∀p∈ps,p.word.length<=n)->∀p∈WS parts ps s,p.word.length<=n+1:=by
    unfold WS;split
    . exact ⟨sM,fun n _ p hp=>by simp at hp;subst hp;simp⟩
    rename_i q hq;split
    . refine ⟨sM,fun n h p hp=>?_⟩;rcases VZ hp with h1|h1
      . have:=h p h1;omega
      rw [h1];have:=h q (Xb hq);simp;omega
    refine ⟨sM,fun n h p hp=>?_⟩;rcases XD.1 hp with h1|h1
    . have:=h p h1;omega
    simp at h1;subst h1;simp
   obtain ⟨h1,h2⟩:=ZfL (parts:=parts) ws (WS parts ps s);have h3:=hst.1;refine ⟨by show (PZ parts (WS parts ps s) ws).length<=_;rw [Xh];omega,fun n h p hp=>?_⟩;have:=h2 (n+1) (hst.2 n h) p hp;rw [Xh];omega
def ZfM (parts:List (List BA)) (ws:List BA) (k:Nat) (hk:k<=ws.length):(Rh parts ws k).length<=k+1/\∀p∈Rh parts ws k,p.word.length<=k:=by
 unfold Rh
 split
 . exact ⟨sM,fun p hp=>by simp at hp;subst hp;simp⟩
 obtain ⟨h1,h2⟩:=ZfL (parts:=parts) (ws.take k) [];have hl:(ws.take k).length=k:=by simp;omega
 rw [hl] at h1 h2;exact ⟨by simp at h1;omega,fun p hp=>by have:=h2 0 sM p hp;omega⟩
def Zll {parts:List (List BA)} {ws:List BA} {k:Nat} {y:BA} (hk:0<k) (hy:ws[k-1]? =some y):∃m w,Rh parts ws k=m++[⟨partOf parts y,w⟩]:=by
 unfold Rh
 rw [Qc oM]
 have:=E8 (parts:=parts) hy
 rw [show k-1+1=k by omega] at this
 rw [this]
 exact ZdF
def Zlm {parts:List (List BA)} {ws:List BA} {k:Nat} {s:BA} (hs:ws[k]? =some s) (hk:0<k):Rh parts ws (k+1)=WS parts (Rh parts ws k) s:=by
 unfold Rh
 rw [Qc oM,Qc oM]
 exact E8 hs
def Zob {parts:List (List BA)} {ws:List BA} {s:BA} (hs:ws[0]? =some s):Rh parts ws 1=[⟨partOf parts s,[s]⟩]:=by
 unfold Rh
 rw [Qc oM,show (1:Nat)=0+1 from rfl,E8 hs]
 rfl
def Zss {α β:Type} {zs:List β} {n i:Nat} {p:β} (f:α->β) (h:(List.replicate n zs).flatten[i]? =some p):i / zs.length<n/\zs[i % zs.length]? =some p/\i=i / zs.length*zs.length+i % zs.length:=by
 have hi:=Zd h
 have hl:(List.replicate n zs).flatten.length=n*zs.length:=sM
 rw [hl] at hi
 have hz:0<zs.length:=by
  rcases V1 zs.length with h0|h0
  . rw [h0] at hi;omega
  exact h0
 have hdiv:i / zs.length<n:=by rw [UR hz];exact hi
 have hmod:i % zs.length<zs.length:=V0 _ hz
 have he:i=i / zs.length*zs.length+i % zs.length:=by rw [VH];exact (Uo _ _).symm
 refine ⟨hdiv,?_,he⟩
 have h2:=Yr (f:=fun _:Nat=>zs) (k:=zs.length) (fun _=>rfl) (l:=List.range n) (i:=i / zs.length) (x:=i / zs.length) (by simp [hdiv]) (j:=i % zs.length) hmod
 rw [<-he,show (List.range n).flatMap (fun _=>zs)=(List.replicate n zs).flatten by rw [List.flatMap_def,List.map_const',VP],h] at h2
 exact h2.symm
def Zln (n e:Nat):∀(i:Nat) (p p':PV),(List.replicate n (List.map PV.val [.int .i64 0, .slice none 0 0])).flatten[i]? =some p->((List.replicate n (⟨0,[]⟩:Piece)).flatMap (Z2 e))[i]? =some p'->Zin p p':=fun i p p' h1 h2=>by
 obtain ⟨hd,hz,he⟩:=Zss (fun x:Nat=>p) h1
 simp only [Xc,Xh,Xw] at hd hz he
 have hm:i % 2<2:=V0 _ dC
 rw [show (0+1+1:Nat)=2 from rfl] at hd hz he
 have h3:=Yr (Yw e) (l:=List.replicate n (⟨0,[]⟩:Piece)) (i:=i / 2) (x:=⟨0,[]⟩) (by rw [List.getElem?_replicate,Qd hd]) (j:=i % 2) hm
 rw [<-he,h2] at h3
 generalize i % 2=r at hz h3 hm
 match r,hz,h3 with
 |0,hz,h3=>simp [Z2] at hz h3;exact .inl (h3.trans hz)
 |1,hz,h3=>simp [Z2] at hz h3;exact .inr ⟨hz.symm,_,_,h3⟩
 |r+2,_,_=>omega
def Zoc (c :Cut) (ws:List BA) (es:List (BA×Value)) (hes:∀t∈ws,Kx es t=some (.int .i64 (partOf c.parts t))) (hin:∀t∈ws,0<=partOf c.parts t) (hlen:ws.length<=1000) (hn0:0<c.parts.length) (hn1:c.parts.length<=1000000) (hk1:1<=c.kind) (hk4:c.kind<=4):
 AF prog 66 [ZX ws,Zb c.kind,Zb c.parts.length, .smap (skv es)] (Zsr (Wh c ws)):=by
 refine AF.b4 185 func66 rfl ntmps66 (Xa rfl) ?_
 rintro w0 M0 v0 _ _ v3-rfl rfl-
 refine Zi ?_
 refine ZmS 4 fun h4=>?_;refine ZmS 7 fun h7=>?_;refine JF ?_;refine J1 ?_
 refine Yq rfl ?_ ?_
 . intro hb;have hk:c.kind=1:=Qf hb;refine Zi ?_;refine yU (Zf 4 K') fun v22=>?_<;>refine xL 23 (Zu GY) (xL 24 Jb (xL 25 Za ?_))<;>(refine bLd 25 (fun hb25=>?_) (fun hb25=>?_)<;>(first|refine kL ?_|refine yU (Zf 4 K') fun v26=>?_))<;>(first|refine kL ?_|refine xM SI ?_)<;>(first|refine kL ?_|(have hcl:ws≠[]:=(fun e=>by subst e;exact hb25 rfl);refine (get_some (show 0<ws.length by cases ws with|nil=>exact Qe rfl hcl|cons=>simp)).elim fun s0 hs0=>?_;refine On 28 rfl rfl (Xa rfl) (ZmA rfl call27 (ps:=[ZX ws, .fn 111 [.sptr 0 [.smap (skv es)], .sptr 0 [ZX ws]]]) ⟨⟨_,_,rfl,Gr (x:= .tmp 26) rfl⟩,⟨_,_,rfl,Zkd (l1:=7) (l2:=4) rfl rfl rfl rfl⟩,trivial⟩ (Ta 111 _ (fun s=>partOf c.parts s !=partOf c.parts s0) ws call111 (fun s hs=>Zlk c.parts ws es s s0 hs0 hes hs)) (fun p hp=>by rw [hp];rfl)) ?_;rintro p' rfl;refine ⟨rfl,?_⟩;intro v28 hv28;cases hv28))<;>refine ZD ?_
   . have h0:ws=[]:=Xv oM;refine Yq rfl ?_ (fun h=>by cases h);intro _;refine ZP ?_;refine Y3 results66 rfl rfl ?_;rw [h0,ζc hk];rfl
   obtain ⟨l,rfl⟩:∃l,ws=s0::l:=by
    cases ws with
    |nil=>simp at hs0
    |cons a b=>simp at hs0;subst hs0;exact ⟨b,rfl⟩
   have hsp:=Zfl (l:=l) hk (hin s0 sM);refine Yq rfl ?_ ?_
   . intro hb3;refine ZP ?_;refine Y3 results66 rfl rfl ?_;rw [hsp,hb3];rfl
   intro hb3;have m2:=P1 (hes s0 sM);have e1:((s0::l).map Zx)[(0:Int).toNat*1]? =some (Zx s0):=rfl;refine nav ?_;refine Yx [] [4,7] ?_<;>(refine yD 0 rfl (Zf 7 JV) fun v30 h=>?_;cases h)<;>(refine yD 1 rfl (Zf 4 K') fun v31 h=>?_;cases h)<;>refine xD 2 rfl (Ze GY) ?_<;>(refine yD 3 rfl (Zw Ps) fun v33 h=>?_;cases h)<;>refine xD 4 rfl (L9 JU) ?_<;>(refine yE 5 rfl (Zf 4 K') fun v35 h=>?_;cases h)<;>refine xE 6 rfl (ZA Hh) ?_<;>(refine aDr 7 fun bk=>?_)<;>refine Wy 37 S2 fun h37 ho37=>?_<;>refine bE bk ?_<;>refine gEx 8 ?_<;>refine gEx 9 ?_<;>refine Wo ?_;refine YK (En.freeze (l:=37) (t:=8) rfl rfl) fun _=>?_;refine Y3 results66 rfl rfl ?_;rw [hsp,hb3];rfl
 intro hb;have hk:c.kind≠1:=Qg hb;refine ZP ?_;refine Yq rfl ?_ ?_
 . intro hb2;have hk':c.kind=4:=Qf hb2;refine Zi ?_;refine xM (ZA Hh) ?_;refine Wy 41 S2 fun h41 ho41=>?_;refine ZD ?_;refine Zs (TQ (l:=41) ([⟨0,[]⟩].flatMap (Z2 9)) rfl rfl (fun i p p' h1 h2=>by
    match i with
    |0=>simp [Z2,RS] at h1 h2;exact .inl (h2.symm.trans h1)
    |1=>simp [Z2,RS] at h1 h2;exact .inr ⟨h1.symm,_,_,h2.symm⟩
    |i+2=>simp [Z2] at h2)) fun _=>?_
   refine Zp ?_;refine yU (Zf 4 K') fun v42=>?_;refine xL 43 (Zu GY) (xL 44 Za ?_);refine ZZ ?_;refine Yl (ι:={x:Nat×Value//x.1<=ws.length/\x.2.oneCell'=true}) (fun x=>⟨[(4,padd (sbase h4) 0, .val (padd (sbase h4) 0)),(7,padd (sbase h7) 0, .val (padd (sbase h7) 0)),(10,x.1.2, .val x.1.2),(42,v42,ZX ws),(43, .int .i64 ws.length,Zb ws.length),(44, .int .i64 x.1.1,Zb x.1.1)],[(4,h4, .own 26 1 1 [ZX ws]),(7,h7, .own 78 1 1 [.smap (skv es)]),(41,x.1.2, .own 114 2 (Rh c.parts ws x.1.1).length ((Rh c.parts ws x.1.1).flatMap (Z2 9)))]⟩) (fun x=>ws.length-x.1.1) ⟨(0,h41),oM,ho41⟩ ?_;rintro ⟨⟨k,h⟩,hk0,hho⟩;dsimp only at hk0 hho ⊢;refine ZF ?_;refine Yq rfl ?_ ?_
   . intro hb3;(have hlt:k<ws.length:=by have:=Qf hb3;omega);obtain ⟨s,hs⟩:=get_some hlt;have e1:=Yf (f:=Zx) hs;have m1:=P1 (hes s (Xb hs));obtain ⟨hol,how⟩:=ZfM c.parts ws k hk0;have hprev:0<k->∃y,ws[k-1]? =some y/\(ws.map Zx)[k-1]? =some (Zx y)/\(KC (skv es) (.string y)).getD (.int .i64 0)= .int .i64 (partOf c.parts y):=fun h0=>by
      obtain ⟨y,hy⟩:=gS ws (k-1);exact ⟨y,hy,by rw [Xl,hy];rfl,P1 (hes y (Xb hy))⟩
     refine Zi ?_;refine xL 46 Za (xL 47 (Ze GY) ?_);refine yV (Zw Ps) ?_;refine W2 ?_;refine Yx [] [4,7,41] ?_<;>refine gEx 0 ?_<;>refine gEx 1 ?_<;>refine gEx 2 ?_<;>(refine bDd 51 (fun hb51=>?_) (fun hb51=>?_)<;>(first|refine kD 3 ?_|(refine yD 3 rfl (Zf 7 JV) fun v52 h=>?_;cases h)))<;>(first|refine kD 4 ?_|refine gDx 4 ?_)<;>(first|refine kD 5 ?_|refine xD 5 rfl (L9 JU) ?_)<;>(first|refine kD 6 ?_|(refine yD 6 rfl (Zf 7 JV) fun v55 h=>?_;cases h))<;>(first|refine kD 7 ?_|(refine yD 7 rfl (Zf 4 K') fun v56 h=>?_;cases h))<;>(first|refine kD 8 ?_|refine gDx 8 ?_)<;>(first|refine kD 9 ?_|refine gDx 9 ?_)<;>(first|refine kD 10 ?_|refine xD 10 rfl (Sa GY) ?_)<;>(first|refine kD 11 ?_|(refine (hprev oM).elim fun y hy=>?_;refine Zei 11 60 rfl kR rfl rfl (Xa rfl) (ED (k-1) Ps rfl rfl oM hy.2.1) ?_;intro v60 hv60;cases hv60;have m2:=hy.2.2))<;>(first|refine kD 12 ?_|refine xD 12 rfl (L9 JU) ?_)<;>(first|refine kD 13 ?_|refine gDx 13 ?_)<;>refine gEx 14 ?_<;>refine Wo ?_;focus (
      have hk00:k=0:=oM;have hs':ws[0]? =some s:=hk00▸hs;(have ho:Rh c.parts ws k=[⟨0,[]⟩]:=by rw [hk00];rfl);rw [ho];refine Ja (ι:={x:Value×List Piece×Piece//x.1.oneCell'=true/\Rh c.parts ws (k+1)=x.2.1++[⟨x.2.2.part,x.2.2.word++[s]⟩]/\x.2.1.length<=k+1/\x.2.2.word.length<=k}) (fun x=>⟨[(4,padd (sbase h4) 0, .val (padd (sbase h4) 0)),(7,padd (sbase h7) 0, .val (padd (sbase h7) 0)),(10,x.1.1, .val x.1.1),(12, .string s,Zx s),(42,v42,ZX ws),(43, .int .i64 ws.length,Zb ws.length),(44, .int .i64 k,Zb k)],[(4,h4, .own 26 1 1 [ZX ws]),(7,h7, .own 78 1 1 [.smap (skv es)]),(41,x.1.1, .own 114 2 (x.1.2.1.length+1) ((x.1.2.1++[x.1.2.2]).flatMap (Z2 9)))]⟩) ?_ ?_
      . refine Yq rfl ?_ (fun h=>by cases h);intro _;refine ZP ?_;refine Yq rfl (fun h=>by have:=Qf h;omega) ?_;intro _;refine Zi ?_;refine xL 70 Za (xL 71 Za (xL 72 (Wu 41 WV) (xL 73 DV ?_)));refine yU (Zf 7 JV) fun v74=>?_;refine xL 75 Za (xL 76 (L9 JU) (xL 77 (Zk 41 WV) (xL 78 (Zc 41 Td) ?_)));refine L8 41 0 rfl rfl OO ZaN rfl rfl rfl rfl rfl sM (by simp [Z2]) ?_;refine ZZ ?_;exact EA ⟨(h,[],⟨partOf c.parts s,[]⟩),hho,by rw [hk00,Zob hs'];rfl,sM,sM⟩ sB sB
      )
     rotate_left 1;focus (
      obtain ⟨m0,w0',hlast⟩:=Zll (parts:=c.parts) (show 0<k by omega) hy.1;have hstep:=Zlm (parts:=c.parts) hs (show 0<k by omega);rw [hlast] at hol how hstep;have hgl:=Zn9 m0 ⟨partOf c.parts y,w0'⟩;rw [hlast];have hol':(m0++[(⟨partOf c.parts y,w0'⟩:Piece)]).length=m0.length+1:=sM;refine Ja (ι:={x:Value×List Piece×Piece//x.1.oneCell'=true/\Rh c.parts ws (k+1)=x.2.1++[⟨x.2.2.part,x.2.2.word++[s]⟩]/\x.2.1.length<=k+1/\x.2.2.word.length<=k}) (fun x=>⟨[(4,padd (sbase h4) 0, .val (padd (sbase h4) 0)),(7,padd (sbase h7) 0, .val (padd (sbase h7) 0)),(10,x.1.1, .val x.1.1),(12, .string s,Zx s),(42,v42,ZX ws),(43, .int .i64 ws.length,Zb ws.length),(44, .int .i64 k,Zb k)],[(4,h4, .own 26 1 1 [ZX ws]),(7,h7, .own 78 1 1 [.smap (skv es)]),(41,x.1.1, .own 114 2 (x.1.2.1.length+1) ((x.1.2.1++[x.1.2.2]).flatMap (Z2 9)))]⟩) ?_ ?_
      . refine Yq rfl ?_ ?_
        . intro hb4;have hne:partOf c.parts s≠partOf c.parts y:=Qf hb4;have hst2:Rh c.parts ws (k+1)=(m0++[(⟨partOf c.parts y,w0'⟩:Piece)])++[⟨partOf c.parts s,[]++[s]⟩]:=by
           rw [hstep];unfold WS;rw [hgl];simp [Ne.symm hne]
          have hfl:=Z1 (Yw 9) (m0++[(⟨partOf c.parts y,w0'⟩:Piece)]);refine ZP ?_;refine Yq rfl ?_ (fun h=>by have:=Qg h;omega);intro _;refine Zi ?_;refine xL 66 Za (xL 67 (ZA Hh) ?_);refine Wy 68 S2 fun h68 ho68=>?_;refine Y7 41 68 69 S2 fun h69 ho69=>?_;refine ZD ?_;refine Zs (TQ (l:=69) (((m0++[(⟨partOf c.parts y,w0'⟩:Piece)]).flatMap (Z2 9))++[Zb 0, .own 9 1 0 []]) rfl (by simp [RS]) (Da _ _ _ _)) fun _=>?_;refine Zs (ZK (l:=69) 41 rfl rfl) fun _=>?_;refine Zp ?_;refine xL 70 Za (xL 71 Za (xL 72 (Wu 41 WV) (xL 73 DV ?_)));refine yU (Zf 7 JV) fun v74=>?_;refine xL 75 Za (xL 76 (L9 JU) (xL 77 (Ov 41 WV) (xL 78 (Zc 41 Td) ?_)));refine L8 41 ((m0.length+1)*2) rfl rfl OO ZaN rfl rfl rfl rfl rfl oM (by rw [Xe,hfl];simp) ?_;refine ZZ ?_;have hcs:((((m0++[(⟨partOf c.parts y,w0'⟩:Piece)]).flatMap (Z2 9))++[Zb 0, .own 9 1 0 []]).set ((m0.length+1)*2) (Zb (partOf c.parts s)))=((m0++[(⟨partOf c.parts y,w0'⟩:Piece)])++[(⟨partOf c.parts s,[]⟩:Piece)]).flatMap (Z2 9):=by
           rw [Vr _ _ (by rw [hfl,hol'];exact Xd _),hfl,hol',Vg];simp only [XR];rfl
          exact EA ⟨(h69,m0++[⟨partOf c.parts y,w0'⟩],⟨partOf c.parts s,[]⟩),ho69,hst2,by show (m0++[(⟨partOf c.parts y,w0'⟩:Piece)]).length<=k+1;omega,sM⟩ sB ⟨rfl,rfl,by show some _=some _;rw [hcs],trivial⟩
        intro hb4;(have heq:partOf c.parts s=partOf c.parts y:=by have:=Qg hb4;omega);have hst2:Rh c.parts ws (k+1)=m0++[⟨partOf c.parts y,w0'++[s]⟩]:=by
         rw [hstep];unfold WS;rw [hgl];simp only [];rw [Qd heq.symm,Eg]
        refine nav ?_;exact EA ⟨(h,m0,⟨partOf c.parts y,w0'⟩),hho,hst2,by show m0.length<=k+1;omega,how _ sM⟩ sB ⟨rfl,rfl,by show some _=some _;rw [hol'],trivial⟩
      )
     all_goals (
      rintro ⟨⟨h9,m,q⟩,hh9,hout,hm1,hq1⟩;dsimp only at hh9 hout hm1 hq1 ⊢;have hqat:(m++[q])[m.length]? =some q:=sM;have hfl:=Z1 (Yw 9) (m++[q]);(have hfl2:((m++[q]).flatMap (Z2 9)).length=m.length*2+2:=by rw [hfl];simp;omega);have hcell:=Yr (Yw 9) hqat (j:=1) dC;refine Zs (focus (l:=41) (l':=500) (j:=m.length*2+1) rfl hcell rfl) fun v=>?_;have hc2:(((m++[q]).flatMap (Z2 9)).set (m.length*2+1) (.val v))[m.length*2+1]? =some (.val v):=XK oM;refine Zi ?_;refine xL 79 Za (xL 80 Za (xL 81 (Wu 41 WV) (xL 82 DV (xL 83 Za (xL 84 Za (xL 85 (Wu 41 WV) (xL 86 DV (xL 87 (Ov 41 WV) (xL 88 (Zc 41 Sn) ?_)))))))));refine Zbu 89 rfl rfl (Xa rfl) (Jk 41 (m.length*2+1) K' rfl rfl rfl oM hc2 rfl) ?_;intro v89 hv89;cases hv89;refine YU ?_;refine WE (kk:=1) 91 DF fun h91 ho91=>?_;refine Y7 500 91 92 DF fun h92 ho92=>?_;refine xL 93 (Ov 41 WV) (xL 94 (Zc 41 Sn) ?_);refine L8 41 (m.length*2+1) rfl rfl K' Zct rfl rfl rfl (by assumption) rfl oM (by rw [Xm,hfl2];omega) ?_;refine ZZ ?_;have hc3:((((m++[q]).flatMap (Z2 9)).set (m.length*2+1) (.val v)).set (m.length*2+1) (.val h92))[m.length*2+1]? =some (.val h92):=XK (by rw [Xm];omega);refine Zs (To (l:=41) (l':=92) (j:=m.length*2+1) rfl hc3 rfl rfl) fun _=>?_;have hcs:(((((m++[q]).flatMap (Z2 9)).set (m.length*2+1) (.val v)).set (m.length*2+1) (.val h92)).set (m.length*2+1) (.own 9 1 (q.word.length+1) (q.word.map Zx++[Zx s])))=(Rh c.parts ws (k+1)).flatMap (Z2 9):=by
       rw [X4,X4,hout,S1 (Yw 9) (m++[q]) m.length 1 q ⟨q.part,q.word++[s]⟩ _ hqat dC (by simp [Z2])];congr 1;rw [Vr _ _ (Xd _),Vg];rfl
      refine Gt ?_;exact Zh ⟨(k+1,h9),by show k+1<=ws.length;omega,hh9⟩ (by show ws.length-(k+1)<ws.length-k;omega) sB ⟨rfl,rfl,by show some _=some _;rw [hcs,hout];simp,trivial⟩
      )
   intro hb3;(have hge:k=ws.length:=by have:=Qg hb3;omega);have hfin:Wh c ws=if Ga (Rh c.parts ws k) then some (Rh c.parts ws k) else none:=by
    unfold Wh;rw [Qd hk'];by_cases h0:ws=[]
    . (have:k=0:=by rw [hge,h0];rfl);rw [h0,this];rfl
    have hk1':k≠0:=fun e=>h0 (Xv oM);rw [ZbC h0];unfold Rh;rw [Qc hk1',hge,Xx]
   obtain ⟨hol,_⟩:=ZfM c.parts ws k hk0;generalize Rh c.parts ws k=out at hfin hol ⊢;refine Zi ?_;refine xL 96 Za (xL 97 (Wu 41 WV) (xL 98 Za ?_));refine ZZ ?_;refine Yl (ι:={j:Nat//j<=out.length/\∀i,i<j->Jw out i=false}) (fun j=>⟨[(10,h, .val h),(96,h, .val h),(97, .int .i64 out.length,Zb out.length),(98, .int .i64 j.1,Zb j.1)],[(41,h, .own 114 2 out.length (out.flatMap (Z2 9)))]⟩) (fun j=>out.length-j.1) ⟨0,oM,oM⟩ ?_;rintro ⟨j,hj,hprej⟩;dsimp only at hj hprej ⊢;refine ZF ?_;refine Yq rfl ?_ ?_
   . intro hb4;(have hltj:j<out.length:=by have:=Qf hb4;omega);obtain ⟨q,hq⟩:=get_some hltj;have hcell:=Yr (Yw 9) hq (j:=1) dC;have hfl:=Z1 (Yw 9) out;have hfit:=Ww (Yw 9) hq;refine Zs (T6 (l:=41) (l':=500) (j:=j*2+1) rfl hcell rfl rfl) fun v=>?_;obtain ⟨v,hv1⟩:=v;dsimp only;have hD:((((out.flatMap (Z2 9)).set (j*2+1) (.val v)).drop (j*2)).take 2)=[Zb q.part, .val v]:=by
      rw [List.drop_set,Qc oM,List.take_set,Y4 (Yw 9) out j q hq,show j*2+1-j*2=1 by omega];rfl
     have hnext:j+1<out.length->∃q',out[j+1]? =some q'/\((out.flatMap (Z2 9)).set (j*2+1) (.val v))[(j+1)*2+0]? =some (Zb q'.part):=fun h1=>by
      obtain ⟨q',hq'⟩:=get_some h1;refine ⟨q',hq',?_⟩;rw [X9 oM,Yr (Yw 9) hq' (j:=0) dC];rfl
     refine Zi ?_;refine xL 100 Za (xL 101 (Zk 41 WV) ?_);refine yU (Zm 41 CU) fun v102=>?_;refine Zt [(.int .i64 0),(.slice none 0 0)] 2 14 ZhB fun h14=>?_;refine YU ?_;refine Zn 14 CU ?_;refine YT ?_;refine xM (Zc 14 Td) ?_<;>refine yV (Zf 14 OO) ?_<;>refine YW ?_<;>(refine bLd 106 (fun hb106=>?_) (fun hb106=>?_)<;>refine kZ ?_)<;>refine Ky ?_<;>(first|refine kL ?_|(refine bLd 109 (fun hb109=>?_) (fun hb109=>?_)<;>refine kZ ?_))<;>refine kZ ?_<;>(first|refine kL ?_|refine xM (Wu 41 WV) ?_)<;>refine Ky ?_<;>refine Ky ?_<;>(first|refine kL ?_|(refine bLd 116 (fun hb116=>?_) (fun hb116=>?_)<;>refine kZ ?_))<;>refine Ky ?_<;>(first|refine kL ?_|refine xM (Zk 41 WV) ?_)<;>(first|refine kL ?_|refine xM (Zc 41 Td) ?_)<;>(first|refine kL ?_|(refine (hnext oM).elim fun q' hq'=>?_;refine Zbu 122 rfl rfl (Xa rfl) (Jk 41 ((j+1)*2+0) OO rfl rfl rfl (by first|rfl|omega) hq'.2 rfl) ?_;intro v122 hv122;cases hv122))<;>refine RG ?_
     . have hj0:j=0:=oM;(have hbp:Jw out j=true:=by unfold Jw;rw [hq];simp [hb106,hj0]);have hbad:Ga out=false:=by
        unfold Ga;rw [V9];exact ⟨j,XT.2 hltj,by rw [hbp];simp⟩
       refine Yq rfl ?_ (fun h=>by cases h);intro _;refine ZP ?_;refine Y3 results66 rfl rfl ?_;rw [hfin,hbad];rfl
     . have hj0:j=out.length-1:=oM;(have hbp:Jw out j=true:=by unfold Jw;rw [hq];simp [hb106,hj0]);have hbad:Ga out=false:=by
        unfold Ga;rw [V9];exact ⟨j,XT.2 hltj,by rw [hbp];simp⟩
       refine Yq rfl ?_ (fun h=>by cases h);intro _;refine ZP ?_;refine Y3 results66 rfl rfl ?_;rw [hfin,hbad];rfl
     . refine Yq rfl ?_ ?_
       . intro hb5;have hb5:=Qf hb5;(have hbp:Jw out j=true:=by unfold Jw;rw [hq];rw [hq'.1];simp [hb106,hb5]);have hbad:Ga out=false:=by
          unfold Ga;rw [V9];exact ⟨j,XT.2 hltj,by rw [hbp];simp⟩
         refine ZP ?_;refine Y3 results66 rfl rfl ?_;rw [hfin,hbad];rfl
       intro hb5;(have hb5:q'.part=0:=by have:=Qg hb5;omega);have hja:j≠0:=oM;have hjb:j≠out.length-1:=oM;refine ZP ?_;(have hbp:Jw out j=false:=by unfold Jw;rw [hq];rw [hq'.1];simp [hb5,hja,hjb]);refine ZJ (To (l:=41) (l':=500) (j:=j*2+1) rfl (XK oM) rfl rfl) fun _=>?_;have hcs:(((out.flatMap (Z2 9)).set (j*2+1) (.val v)).set (j*2+1) (.own 9 1 q.word.length (q.word.map Zx)))=out.flatMap (Z2 9):=by
        rw [X4];exact H5 hcell
       refine Zh ⟨j+1,oM,fun i hi=>?_⟩ (by show out.length-(j+1)<out.length-j;omega) sB ⟨by show some _=some _;rw [hcs],trivial⟩;by_cases e:i=j
       . subst e;exact hbp
       exact hprej i oM
     have hz:q.part=0:=oM;refine Yq rfl (fun h=>by cases h) ?_;intro _;refine ZP ?_;(have hbp:Jw out j=false:=by unfold Jw;rw [hq];simp [hz]);refine ZJ (To (l:=41) (l':=500) (j:=j*2+1) rfl (XK oM) rfl rfl) fun _=>?_;have hcs:(((out.flatMap (Z2 9)).set (j*2+1) (.val v)).set (j*2+1) (.own 9 1 q.word.length (q.word.map Zx)))=out.flatMap (Z2 9):=by
      rw [X4];exact H5 hcell
     refine Zh ⟨j+1,oM,fun i hi=>?_⟩ (by show out.length-(j+1)<out.length-j;omega) sB ⟨by show some _=some _;rw [hcs],trivial⟩;by_cases e:i=j
     . subst e;exact hbp
     exact hprej i oM
   intro hb4;(have hgej:out.length<=j:=by have:=Qg hb4;omega);have hgood:Ga out=true:=by
    unfold Ga;rw [Xj];intro i hi;rw [hprej i (by have:=XT.1 hi;omega)];rfl
   refine YQ ?_;refine YK (En.freeze (l:=41) (t:=8) rfl rfl) fun _=>?_;refine Y3 results66 rfl rfl ?_;rw [hfin,hgood];show _=_;simp only [share,RP];rfl
 intro hb2;have hk':c.kind≠4:=Qg hb2;refine Wp ?_;refine ZpO [(.int .i64 0),(.slice none 0 0)] 129 S2 fun h129 ho129=>?_;refine ZD ?_;have hini:(List.replicate c.parts.length (⟨0,[]⟩:Piece))=KN (initPs c.parts.length):=(Zfm _).symm;refine Zs (TQ (l:=129) ((List.replicate c.parts.length (⟨0,[]⟩:Piece)).flatMap (Z2 9)) rfl (by rw [Z1 (Yw 9)];simp) (Zln _ _)) fun _=>?_;rw [hini];refine Zp ?_;refine yU (Zf 4 K') fun v130=>?_;refine xL 131 (Zu GY) (xL 132 Za ?_);refine ZZ ?_;refine Yl (ι:={x:Nat×List Piece×Int//x.1<=ws.length/\splitGo c.kind c.parts true 0 (initPs c.parts.length) ws=splitGo c.kind c.parts (decide (x.1=0)) x.2.2 x.2.1 (ws.drop x.1)/\InPlace x.2.1/\x.2.1.length=c.parts.length/\(∀p∈x.2.1,p.word.length<=x.1)/\(x.1=0->x.2.2=0)/\∀y,0<x.1->ws[x.1-1]? =some y->x.2.2=partOf c.parts y}) (fun x=>⟨[(1, .int .i64 c.kind,Zb c.kind),(4,padd (sbase h4) 0, .val (padd (sbase h4) 0)),(7,padd (sbase h7) 0, .val (padd (sbase h7) 0)),(15,h129, .val h129),(130,v130,ZX ws),(131, .int .i64 ws.length,Zb ws.length),(132, .int .i64 x.1.1,Zb x.1.1)],[(4,h4, .own 26 1 1 [ZX ws]),(7,h7, .own 78 1 1 [.smap (skv es)]),(129,h129, .own 114 2 c.parts.length ((KN x.1.2.1).flatMap (Z2 9)))]⟩) (fun x=>ws.length-x.1.1) ⟨(0,initPs c.parts.length,0),by show 0<=ws.length;omega,sM,Zdw _,Tq _,fun p hp=>by rw [Cw hp];simp,fun _=>rfl,fun y h=>by simp at h⟩ ?_;rintro ⟨⟨k,ps,last⟩,hk0,hgo,hin',hpl,hpw,hl0,hl1⟩;dsimp only at hk0 hgo hin' hpl hpw hl0 hl1 ⊢;refine ZF ?_;refine Yq rfl ?_ ?_
 . intro hb3;(have hlt:k<ws.length:=by have:=Qf hb3;omega);obtain ⟨s,hs⟩:=get_some hlt;have hsm:=Xb hs;have e1:=Yf (f:=Zx) hs;have m1:=P1 (hes s hsm);have hge0:=hin s hsm;obtain ⟨i,hi⟩:∃i:Nat,partOf c.parts s=i:=⟨(partOf c.parts s).toNat,oM⟩;(have hilt:i<c.parts.length:=by have:=O' c.parts s;omega);have hprev:0<k->∃y,ws[k-1]? =some y/\(ws.map Zx)[k-1]? =some (Zx y)/\(KC (skv es) (.string y)).getD (.int .i64 0)= .int .i64 (partOf c.parts y):=fun h0=>by
    obtain ⟨y,hy⟩:=gS ws (k-1);exact ⟨y,hy,by rw [Xl,hy];rfl,P1 (hes y (Xb hy))⟩
   have hgo2:splitGo c.kind c.parts (decide (k=0)) last ps (ws.drop k)=if JZ c.kind (decide (k=0)) (partOf c.parts s) last then none else splitGo c.kind c.parts false (partOf c.parts s) (Jz ps (partOf c.parts s).toNat s) (ws.drop (k+1)):=by
    rw [WO hs,splitGo]
   (have hk1n:(c.kind==1)=false:=by simpa using hk);rw [hi] at m1;obtain ⟨q,hq⟩:=gS ps i;have hqn:=EX hq;have hcell:=Yr (Yw 9) hqn (j:=1) dC;have hfl:=Z1 (Yw 9) (KN ps);rw [Ha] at hfl;have hqw:q.word.length<=k:=hpw q (Xb hq);refine Zi ?_;refine xL 134 Za (xL 135 (Ze GY) ?_);refine yV (Zw Ps) ?_;refine W2 ?_;refine Yx [] [4,7,129] ?_<;>refine gEx 0 ?_<;>refine gEx 1 ?_<;>refine gEx 2 ?_<;>(refine bDd 139 (fun hb139=>?_) (fun hb139=>?_)<;>(first|refine kD 3 ?_|refine gDx 3 ?_))<;>(first|refine kD 4 ?_|refine gDx 4 ?_)<;>refine gEx 5 ?_<;>refine gEx 6 ?_<;>(first|refine kD 7 ?_|(refine bDd 143 (fun hb143=>?_) (fun hb143=>?_)<;>(first|refine kD 7 ?_|(refine yD 7 rfl (Zf 7 JV) fun v144 h=>?_;cases h))))<;>(first|refine kD 8 ?_|refine gDx 8 ?_)<;>(first|refine kD 9 ?_|refine xD 9 rfl (L9 JU) ?_)<;>(first|refine kD 10 ?_|(refine yD 10 rfl (Zf 7 JV) fun v147 h=>?_;cases h))<;>(first|refine kD 11 ?_|(refine yD 11 rfl (Zf 4 K') fun v148 h=>?_;cases h))<;>(first|refine kD 12 ?_|refine gDx 12 ?_)<;>(first|refine kD 13 ?_|refine gDx 13 ?_)<;>(first|refine kD 14 ?_|refine xD 14 rfl (Sa GY) ?_)<;>(first|refine kD 15 ?_|(refine (hprev oM).elim fun y hy=>?_;refine Zei 15 152 rfl kR rfl rfl (Xa rfl) (ED (k-1) Ps rfl rfl oM hy.2.1) ?_;intro v152 hv152;cases hv152;have m2:=hy.2.2))<;>(first|refine kD 16 ?_|refine xD 16 rfl (L9 JU) ?_)<;>(first|refine kD 17 ?_|refine gDx 17 ?_)<;>refine gEx 18 ?_<;>refine Wo ?_;focus (
    have hlast:last=partOf c.parts y:=hl1 y oM hy.1;refine Yq rfl ?_ ?_
    . intro hb4;have hb4:=Qf hb4;have hno:Wh c ws=none:=by
       unfold Wh;rw [Qc hk',hgo,hgo2];have:JZ c.kind (decide (k=0)) (partOf c.parts s) last=true:=by
        unfold JZ;rw [hi,hlast,hb139];simp [hb4]
       rw [this];rfl
      refine ZP ?_;refine Y3 results66 rfl rfl ?_;rw [hno];rfl
    intro hb4;have hb4:=Qg hb4;have hnb:JZ c.kind (decide (k=0)) (partOf c.parts s) last=false:=by
     unfold JZ;rw [hk1n,hi,hlast];simp;intro _;omega
    refine nav ?_
    )
   rotate_left 1;focus (
    have hnb:JZ c.kind (decide (k=0)) (partOf c.parts s) last=false:=by
     unfold JZ;rw [hk1n,hi,hl0 oM];simp
    refine Yq rfl (fun h=>by cases h) ?_;intro _;refine nav ?_
    )
   rotate_left 1;focus (
    have hnb:JZ c.kind (decide (k=0)) (partOf c.parts s) last=false:=by
     unfold JZ;rw [hk1n];simp [hb139]
    refine Yq rfl (fun h=>by cases h) ?_;intro _;refine nav ?_
    )
   all_goals (
    refine Zs (T6 (l:=129) (l':=500) (j:=i*2+1) rfl hcell rfl rfl) fun v=>?_;obtain ⟨v,hv1⟩:=v;dsimp only;have hc2:(((KN ps).flatMap (Z2 9)).set (i*2+1) (.val v))[i*2+1]? =some (.val v):=XK oM;(refine Yx [16] [4,7,129] ?_<;>refine gDx 0 ?_<;>(refine yD 1 rfl (Zf 7 JV) fun v157 h=>?_;cases h)<;>refine gDx 2 ?_<;>refine xD 3 rfl (L9 JU) ?_<;>refine gDx 4 ?_<;>(refine yD 5 rfl (Zf 7 JV) fun v161 h=>?_;cases h)<;>refine gDx 6 ?_<;>refine xD 7 rfl (L9 JU) ?_<;>refine xD 8 rfl (Zk 129 WV) ?_<;>refine xD 9 rfl (Zc 129 Sn) ?_<;>(refine Zei 10 166 rfl kR rfl rfl (Xa rfl) (Jk 129 (i*2+1) K' rfl rfl rfl (by first|rfl|omega) hc2 rfl) ?_;intro v166 hv166;cases hv166)<;>refine gEx 11 ?_<;>(refine aDr 12 fun bk=>?_)<;>refine WE (kk:=1) 168 DF fun h168 ho168=>?_<;>refine bE bk ?_<;>(refine aDr 13 fun bk=>?_)<;>refine Y7 500 168 169 DF fun h169 ho169=>?_<;>refine bE bk ?_<;>refine xE 14 rfl (Zk 129 WV) ?_<;>refine xE 15 rfl (Zc 129 Sn) ?_<;>(refine ZY 16 kR ?_)<;>(refine Wx rfl rfl kR fun DQ bk=>?_)<;>(refine L8 129 (i*2+1) rfl rfl K' Zct rfl rfl rfl (by assumption) rfl (by first|rfl|omega) (by rw [Xm,hfl];omega) ?_)<;>refine WC (bk _ (nav ?_))<;>try dsimp only)
    have hc3:((((KN ps).flatMap (Z2 9)).set (i*2+1) (.val v)).set (i*2+1) (.val h169))[i*2+1]? =some (.val h169):=XK (by rw [Xm];omega);refine Zs (To (l:=129) (l':=169) (j:=i*2+1) rfl hc3 rfl rfl) fun _=>?_;have hcs:((((KN ps).flatMap (Z2 9)).set (i*2+1) (.val v)).set (i*2+1) (.val h169)).set (i*2+1) (.own 9 1 (q.word.length+1) (q.word.map Zx++[Zx s]))=(KN (Jz ps i s)).flatMap (Z2 9):=by
     rw [X4,X4,S1 (Yw 9) (KN ps) i 1 ⟨0,q.word⟩ ⟨0,q.word++[s]⟩ _ hqn dC (by simp [Z2]),Zhi s hq]
    refine Gt ?_;refine Zh ⟨(k+1,Jz ps i s,(i:Int)),by show k+1<=ws.length;omega,?_,hin'.add i s,by show (Jz ps i s).length=_;rw [EC];exact hpl,?_,fun h=>by simp at h,fun y _ hy=>?_⟩ (by show ws.length-(k+1)<ws.length-k;omega) sB ⟨rfl,rfl,by show some _=some _;rw [hcs],trivial⟩
    . show _=splitGo c.kind c.parts (decide (k+1=0)) (i:Int) (Jz ps i s) (ws.drop (k+1));rw [hgo,hgo2,hnb,hi,XH,show decide (k+1=0)=false by simp];rfl
    . intro p hp;show p.word.length<=k+1;change p∈Jz ps i s at hp
      rw [Tp hq] at hp;rcases VZ hp with h1|h1
      . have:=hpw p h1;omega
      rw [h1];simp;omega
    . have:y=s:=by
       have h1:ws[k+1-1]? =some y:=hy;rw [UJ,hs] at h1;cases h1;rfl
      rw [this];exact hi.symm
    )
 intro hb3;(have hge:ws.length<=k:=by have:=Qg hb3;omega);have hfin:Wh c ws=some ps:=by
  unfold Wh;rw [Qc hk',hgo,XO hge,splitGo];simp only [];rw [Qc hk]
 refine Zi ?_;refine xL 173 Za (xL 174 (Wu 129 WV) (xL 175 Za ?_));refine ZZ ?_;refine Yl (ι:={j:Nat//j<=ps.length}) (fun j=>⟨[(15,h129, .val h129),(174, .int .i64 c.parts.length,Zb c.parts.length),(175, .int .i64 j.1,Zb j.1)],[(129,h129, .own 114 2 c.parts.length ((ps.take j.1++(KN ps).drop j.1).flatMap (Z2 9)))]⟩) (fun j=>ps.length-j.1) ⟨0,oM⟩ ?_;rintro ⟨j,hj⟩;dsimp only at hj ⊢;refine ZF ?_;refine Yq rfl ?_ ?_
 . intro hb4;(have hltj:j<ps.length:=by have:=Qf hb4;omega);obtain ⟨q,hq⟩:=get_some hltj;have hat:=Zqr hq;have hfl:=Z1 (Yw 9) (ps.take j++(KN ps).drop j);rw [ZnQ ps j hj] at hfl;have hcs:(((ps.take j++(KN ps).drop j).flatMap (Z2 9)).set (j*2+0) (Zb (j:Int)))=(ps.take (j+1)++(KN ps).drop (j+1)).flatMap (Z2 9):=by
    rw [S1 (Yw 9) _ j 0 ⟨0,q.word⟩ ⟨(j:Int),q.word⟩ (Zb (j:Int)) hat dC rfl,ZkR hin' hq]
   refine Jh ?_;refine xL 178 Za (xL 179 Za (xL 180 Za (xL 181 (Zk 129 WV) (xL 182 (Zc 129 Td) ?_))))<;>(refine L8 129 (j*2+0) rfl rfl OO ZaN rfl rfl rfl rfl rfl (by first|rfl|omega) (by rw [hfl];omega) ?_)<;>refine YT ?_;refine W2 ?_;exact Zh ⟨j+1,oM⟩ (by show ps.length-(j+1)<ps.length-j;omega) sB ⟨by show some _=some _;rw [hcs],trivial⟩
 intro hb4;(have hgej:ps.length<=j:=by have:=Qg hb4;omega);have hall:ps.take j++(KN ps).drop j=ps:=by
  rw [Xs hgej,XO (by rw [Ha];exact hgej),Xo]
 refine YQ ?_;refine YK (En.freeze (l:=129) (t:=8) rfl rfl) fun _=>?_;refine Y3 results66 rfl rfl ?_;rw [hfin,hall];show _=_;simp only [share,RP,<-hpl];rfl
open Go.RowKit Go.Cb
def Zlo (s:BA) (w:World):Calls prog 198 #[.string s] w fun e w'=>e= .returned (.bool false)/\w=w':=by
 go_enter func198,ntmps198
 go_wp2
 go_ret
 exact ⟨sM,rfl⟩
def Zjj (a b:BA) (w:World):Calls prog 137 #[.string a, .string b] w fun e w'=>e= .returned (.int .i64 (Yc a b))/\w=w':=by
 cases h1:Op.bytesLess a.toList b.toList<;>cases h2:(a.toList==b.toList)
 all_goals
  have H1:=Lib.hid h1;have H2:=Lib.hid h2;go_enter func137,ntmps137
  go_wp2_with (go_at_call 198;refine (Zlo _ _).mono ?_;rintro e w' ⟨rfl,rfl⟩)
  go_ret
  refine ⟨O7 ?_,rfl⟩;simp [Yc,strLt,W7,H1.out,H2.out]
def ZdG (l m:List BA) (v u:Value) (w:World) {M:Mut} (hl:Strs M w v l) (hm:Strs M w u m):
 Calls prog 99 #[v,u] w fun e w'=>e= .returned (.int .i64 (cmpStrs l m))/\w=w':=by
 have hlen:=hl.len
 have hmen:=hm.len
 rcases hl.cases with ⟨a1,c1,rfl,rfl,hc1⟩|⟨b1,off1,c1,rfl,hlc1,hc1,h01,hE1⟩
 . obtain ⟨a2,c2,rfl,hm1,hm2,hm3⟩:=hm;clear hm3 hl
   cases m with
   | nil=>
     go_enter func99,ntmps99
     go_wp2_with fail
     go_rounds 1
     go_ret
     exact ⟨rfl,rfl⟩
   | cons y m=>
     simp only [Xh] at*;go_enter func99,ntmps99
     go_wp2_with fail
     go_rounds 1
     go_ret
     exact ⟨rfl,rfl⟩
 have HE1 :=Lib.hid hE1;clear hE1 hl;rcases hm.cases with ⟨a2,c2,rfl,rfl,hc2⟩|⟨b2,off2,c2,rfl,hlc2,hc2,h02,hE2⟩
 . clear hm;obtain ⟨x,hx⟩:=get_some h01;(have hcell:w.cell? ⟨b1,off1,none⟩=some (.string x):=by have:=(HE1.out 0 x hx).1.1;simpa using this);have HX:=Lib.hid hx;clear hx;go_enter func99,ntmps99
   go_wp2_with fail
   go_rounds 1
   go_ret
   refine ⟨O7 ?_,rfl⟩
   cases l with
   |nil=>simp at h01
   |cons y l=>simp [cmpStrs]
 have HE2 :=Lib.hid hE2;clear hE2 hm;go_enter func99,ntmps99
 go_wp2_with fail
 go_loop [11] (fun i=>∃k:Nat,k<=l.length/\k<=m.length/\i= .int .i64 k/\Hid (cmpStrs l m=cmpStrs (l.drop k) (m.drop k))) (fun i=>l.length-(intOf i).toNat)
 case atStart=>exact ⟨0,oM,oM,rfl,rfl⟩
 case round=>
  obtain ⟨k,hk,hk2,rfl,hpre⟩:=hrel;by_cases hlt:k<l.length
  . obtain ⟨x,hx⟩:=get_some hlt;have hcx:=(HE1.out k x hx).1.1;rw [XJ] at hcx;have HX:=Lib.hid hx;clear hx;by_cases hlt2:k<m.length
    . obtain ⟨y,hy⟩:=get_some hlt2;have hcy:=(HE2.out k y hy).1.1;rw [XJ] at hcy;have HY:=Lib.hid hy;clear hy;by_cases h0:Yc x y=0
      . have H0:=Lib.hid h0;clear h0;go_wp2_with (go_at_call 137;refine (Zjj _ _ _).mono ?_;rintro e w' ⟨rfl,rfl⟩;rw [H0.out])
        go_round
        case rel=>
         refine ⟨k+1,oM,oM,by go_num,?_⟩;show cmpStrs l m=_;rw [hpre.out,WO HX.out,WO HY.out,cmpStrs,Qd H0.out]
        case measure=>simp [intOf];omega
      (have hb:(Yc x y !=0)=true:=by simpa using h0);have H0:=Lib.hid h0;clear h0;go_wp2_with (go_at_call 137;refine (Zjj _ _ _).mono ?_;rintro e w' ⟨rfl,rfl⟩)
      go_ret
      refine ⟨O7 ?_,rfl⟩;rw [hpre.out,WO HX.out,WO HY.out,cmpStrs,Qc H0.out]
    go_wp2_with fail
    go_ret
    refine ⟨O7 ?_,rfl⟩;rw [hpre.out,WO HX.out,XO (by omega:m.length<=k),cmpStrs]
  by_cases hlt2:k<m.length
  . obtain ⟨y,hy⟩:=get_some hlt2;have HY:=Lib.hid hy;clear hy;go_wp2_with fail
    go_ret
    refine ⟨O7 ?_,rfl⟩;rw [hpre.out,WO HY.out,XO (by omega:l.length<=k),cmpStrs]
  go_wp2_with fail
  go_ret
  refine ⟨O7 ?_,rfl⟩;rw [hpre.out,XO (by omega:m.length<=k),XO (by omega:l.length<=k),cmpStrs]
def ZbD (l m:List BA) (v u:Value) (w:World) {M:Mut} (hl:Strs M w v l) (hm:Strs M w u m):
 Calls prog 42 #[v,u] w fun e w'=>e= .returned (.int .i64 (cmpStrs l m))/\w=w':=by
 have HP:=Lib.hid (ZdG l m v u w hl hm);clear hl hm
 go_enter func42,ntmps42
 go_wp2_with (go_at_call 99;refine HP.out.mono ?_;rintro e w' ⟨rfl,rfl⟩)
 go_ret
 exact ⟨rfl,rfl⟩
def Zst {α:Type} {k:Nat} {E:Elt α} {f:α->List PV} (hf:∀x,(f x).length=k) {M:BS} {w:World} {v:Value} {l:List α} (h:Shr M w v (.sl l.length (l.flatMap f))) (hl:l.length<=140737488355328)
 (hE:∀(x:α) (b o:Nat) (vs:Nat->Value),x∈l->(∀j,j<k->w.cell? ⟨b,o+j,none⟩=some (vs j)/\¬M b)->(∀(j:Nat) (p:PV),(f x)[j]? =some p->Shr M w (vs j) p)->E M w b o x):SlR k E M w v l:=by
 generalize hn:l.length=n at h
 generalize hcs:l.flatMap f=cs at h
 cases h with
 | emp a c hc ha=>
   have:l=[]:=Xv hn;subst this;exact ⟨a,c,rfl,Xg _,by unfold maxLen at hc;exact hc,sM,ha,fun i x hx=>by simp at hx⟩
 | sl b off n c cs vs hnc hc hcell hT=>
   subst hn hcs;refine ⟨some ⟨b,off,none⟩,c,rfl,hnc,by unfold maxLen at hc;exact hc,hl,(by intro h;cases h),fun i x hx=>⟨b,off,rfl,?_⟩⟩;have hfit:=Ww hf hx;refine hE x b (off+i*k) (fun j=>vs (i*k+j)) (Xb hx) (fun j hj=>?_) (fun j p hp=>?_)
   . have:=hcell (i*k+j) oM;rw [Vy];exact this
   (have hj:j<k:=by rw [<-hf x];exact Zd hp);exact hT _ p (by rw [Yr hf hx hj];exact hp)
def ZfN {M:BS} {w:World} {v:Value} {l:List BA} (h:Shr M w v (ZX l)) (hf:Zdf l):Strs M w v l:=by
 unfold ZX at h
 rw [ZeJ] at h
 refine Zst (k:=1) (f:=fun x=>[Zx x]) (fun _=>rfl) h hf.1 fun x b o vs hx hc hT=>?_
 have h0:vs 0= .string x:=(hT 0 _ rfl).vOf
 have:=hc 0 dC
 rw [h0] at this
 exact ⟨this,hf.2 x hx⟩
def ZdH {w w':World} {M:BS} {v:Value} {e:Ending} (h1:e= .returned v) (h2:Ext w w'):Lc ⟨w,M,fun _=>False,0,False,[]⟩ (· = .val v) e w':=⟨v,_,fun _=>False,h1,rfl,h2, .shr (.val _) (fun _ h=>h),fun _ h=>h.elim,fun h=>h.elim⟩
def Zjk {M:BS} {w:World} {B e n:Nat} {v:Value} {xs:List Value} (h:w.ownsRow B e 1 v n xs) (hM:∀b,M b->b<B):Shr M w v (.sl n (xs.map PV.val)):=by
 rcases h.2 with ⟨rfl,rfl⟩|⟨g,cap,cur,rfl,hg,hh,h4,h5,h6,h7⟩
 . have:xs=[]:=Xv (by rw [h.1]);subst this;exact .emp none 0 (by unfold maxLen;omega) (fun _=>rfl)
 refine .sl g 0 n cap _ (fun i=>(xs[i]?).getD undef) h4 h5 (fun i hi=>?_) (fun i p hp=>?_)
 . rw [Xc] at hi;obtain ⟨x,hx⟩:=YV hi;refine ⟨?_,fun hm=>by have:=hM g hm;omega⟩;rw [XC,h.cellAt i (by rw [<-h.1];exact hi),hx];rfl
 rw [Xl,XU] at hp;obtain ⟨x,hx,rfl⟩:=hp;show Shr M w ((xs[i]?).getD undef) (.val x);rw [hx];exact .val _
def E9 {w w':World} {M:BS} {v:Value} {p:PV} {e:Ending} (h1:e= .returned v) (h2:Ext w w') (h3:Shr M w' v p):Lc ⟨w,M,fun _=>False,0,False,[]⟩ (· =p) e w':=
 ⟨v,p,fun _=>False,h1,rfl,h2, .shr (h3.anti fun b _ hb=>hb.elim id False.elim) (fun _ h=>h),fun _ h=>h.elim,fun h=>h.elim⟩
def shr_cells {M:BS} {w:World} {b off n c:Nat} {l:List BA} (h:Shr M w (.slice (some ⟨b,off,none⟩) n c) (ZX l)):∀(j:Nat) (s:BA),l[j]? =some s->w.cell? ⟨b,off+j,none⟩=some (.string s):=fun j s hs=>by
 unfold ZX at h
 generalize hn:l.length=m at h
 generalize hcs:l.map Zx=cs at h
 cases h with
 | emp=>
   have:l=[]:=Xv hn;subst this;simp at hs
 | sl _ _ _ _ _ vs hn hc hcell hT=>
   subst hcs;have h1:=(hcell j (by rw [Xc];exact Zd hs)).1;have h2:vs j= .string s:=(hT j (Zx s) (by rw [Xl,hs];rfl)).vOf;rw [h1,h2]
def ZqH (l:List BA) (hl:l.length<=1000000):AF prog 68 [ZX l] (· =ZX l):=fun M w vs hM hlen hv=>by
 obtain ⟨v,rfl⟩:=ZmF hlen
 have hS:=hv 0 v _ rfl rfl
 have hS':=hS
 unfold ZX at hS'
 generalize hn:l.length=n at hS'
 generalize hcs:l.map Zx=cs at hS'
 cases hS' with
 | emp a c hc ha=>
   have:l=[]:=Xv hn;subst this
   cases a with
   |none=>exact (Tryz.slices_Clone_string_nil 0 c w).mono fun e w' ⟨h1,h2⟩=>E9 h1 (h2▸Ext.rfl' _) (.emp none 0 (by unfold maxLen;omega) (fun _=>rfl))
   |some a=>exact (Tryz.slices_Clone_string_zero a c w).mono fun e w' ⟨v',h1,h2,_,h3⟩=>E9 h1 h3 (Zjk h2 (fun b hb=>(hM.m b hb).1))
 | sl b off n c cs vs' hnc hc hcell hT=>
   subst hn hcs;have hcl:=shr_cells hS;refine (Tryz.slices_Clone_string b off l.length c l w (Xd _) oM (fun j hj=>?_)).mono fun e w' ⟨v',h1,h2,_,h3⟩=>E9 h1 h3 ?_
   . obtain ⟨s,hs⟩:=YV hj;rw [hcl j s hs,List.getD,hs];rfl
   have:=Zjk h2 (fun b hb=>(hM.m b hb).1);rw [Xx,XB] at this;exact this
def Sb (l:List BA):BA:=⟨(Lib.join (l.map (·.data.toList)) [32]).toArray⟩
def Zsu (l:List BA) (hl:l.length<=1000000) (hj:(Lib.join (l.map (·.data.toList)) [32]).length<=140737488355328):AF prog 67 [ZX l,Zx ⟨#[32]⟩] (· =Zx (Sb l)):=fun M w vs hM hlen hv=>by
 obtain ⟨v,u,rfl⟩:=ζH hlen
 have hu:u= .string ⟨#[32]⟩:=(hv 1 u _ rfl rfl).vOf
 subst hu
 have hS:=hv 0 v _ rfl rfl
 have hS':=hS
 unfold ZX at hS'
 generalize hn:l.length=n at hS'
 generalize hcs:l.map Zx=cs at hS'
 cases hS' with
 | emp a c hc ha=>
   have:l=[]:=Xv hn;subst this;exact (Tryz.strings_Join_none a c ⟨#[32]⟩ w).mono fun e w' ⟨h1,h2⟩=>ZdH (v:= .string (Sb [])) (by rw [h1];rfl) (h2▸Ext.rfl' _)
 | sl b off n c cs vs' hnc hc hcell hT=>
   subst hn hcs;have hcl:=shr_cells hS
   cases hl0:l with
   | nil=>
     subst hl0;exact (Tryz.strings_Join_none (some ⟨b,off,none⟩) c ⟨#[32]⟩ w).mono fun e w' ⟨h1,h2⟩=>ZdH (v:= .string (Sb [])) (by rw [h1];rfl) (h2▸Ext.rfl' _)
   | cons s0 l0=>
     rw [<-hl0];have hb:b<w.heap.size:=World.block_lt_of_cell? _ _ (hcl 0 s0 (by rw [hl0];rfl));exact (Tryz.strings_Join b off c l ⟨#[32]⟩ w hcl hb oM hnc hj).mono fun e w' ⟨h1,h2⟩=>ZdH (v:= .string (Sb l)) h1 h2
def ZfO:FldT prog 28 1 1=true:=kR
def Zod:NoAgg prog 3=true:=kR
def Zlp (x:Var):AF prog 69 [.agg (YL x)] (· =Zr (decide (1048576<x.count))):=by
 refine AF.b1 6 func69 rfl ntmps69 (Xa rfl) fun w0 M0 v0 _=>?_
 refine Zi ?_
 refine Z4 1 2 fun h1=>?_;refine ZW ?_
 refine xM (Zc 1 ZfO) ?_;refine yV (Zf 1 Zod) ?_;refine W2 ?_
 exact Zg results69 rfl rfl
def ZfP (W:World) (o1 o2:Obj):(W.alloc o1).alloc o2=Sort.grow (W.drewN 0) #[o1,o2]:=by
 have:(W.heap.push o1).push o2=W.heap++ #[o1,o2]:=by
  apply Array.ext';simp
 show ({W with heap:=(W.heap.push o1).push o2}:World)={W with heap:=W.heap++ #[o1,o2],drawn:=W.drawn+0}
 rw [this]
 rfl
def Zlq (x y:Var) (hx:Zdf x.acts) (hy:Zdf y.acts) (M:BS) (W:World) (u v:Value) (hu:Shr M W u (.agg (YL x))) (hv:Shr M W v (.agg (YL y))):
 Calls prog 71 #[u,v] W fun e w'=>e= .returned (.int .i64 (cmpStrs x.acts y.acts))/\∃q os',w'=Sort.grow (W.drewN q) os':=by
 unfold YL at hu hv
 generalize hps:[ZX x.acts,Zb x.count]=ps at hu
 generalize hqs:[ZX y.acts,Zb y.count]=qs at hv
 cases hu with
 | agg us ps hl hT=>
   cases hv with
   | agg vs qs hl' hT'=>
     subst hps hqs;obtain ⟨a1,a2,rfl⟩:=ζH hl;obtain ⟨b1,b2,rfl⟩:=ζH hl';have e1:a2= .int .i64 x.count:=(hT 1 a2 _ rfl rfl).vOf;have e2:b2= .int .i64 y.count:=(hT' 1 b2 _ rfl rfl).vOf;subst e1 e2;have s1:=ZfN (hT 0 a1 _ rfl rfl) hx;have s2:=ZfN (hT' 0 b1 _ rfl rfl) hy;clear hT hT' hl hl';obtain ⟨p1,c1,rfl,_⟩:=id s1;obtain ⟨p2,c2,rfl,_⟩:=id s2;have HC:=Lib.hid (ZbD x.acts y.acts _ _ ((W.alloc (.cells #[.slice p1 x.acts.length c1, .int .i64 x.count] 28)).alloc (.cells #[.slice p2 y.acts.length c2, .int .i64 y.count] 28)) (s1.up ((Ext.alloc _ _).to_alloc _)) (s2.up ((Ext.alloc _ _).to_alloc _)));clear s1 s2;go_enter func71,ntmps71
     go_wp2_with (go_at_call 42;refine HC.out.mono ?_;rintro e w' ⟨rfl,rfl⟩)
     go_ret
     refine ⟨rfl,0,#[.cells #[.slice p1 x.acts.length c1, .int .i64 x.count] 28, .cells #[.slice p2 y.acts.length c2, .int .i64 y.count] 28],?_⟩;exact ZfP _ _ _
def Zjl:AggT prog 28 2=true:=kR
def Zlr:Ziz prog 70 71 2:=fun enc hk h1 cf hO blk cap d w hcmp hH hblk hsz=>
 AnyQ.slices_SortFunc Tryz.sortVarL 2 (fun w=>AggT.run Zjl w) (fun w=>AggT.size Zjl w) enc hk h1 cf hO 71 #[] blk 0 cap d w call71 hcmp hH hblk hsz
def ZdI (p:Option Addr) (cap:Nat) (fv:Value) (w:World):Calls prog 70 #[.slice p 0 cap,fv] w fun e w'=>e= .returned (.tuple #[])/\w'=w:=
 AnyF.slices_SortFunc_none Tryz.sortVarL p cap fv w
end Go.Proofs.YtmkojdfiadbeeaaGreat
namespace Go.Cb
open Go.En
def ZaO (x y:List UInt8) (l:List (List UInt8)):[32].intercalate (x::y::l)=x++32::[32].intercalate (y::l):=by
 simp [List.intercalate,List.intersperse]
def Hi (x:List UInt8):([32]:List UInt8).intercalate [x]=x:=by simp [List.intercalate]
def Zjm:∀(x y a b:List UInt8),32∉x->32∉y->x++32::a=y++32::b->x=y/\a=b
 |[],[],a,b,_,_,h=>by simp at h;exact ⟨rfl,h⟩
 |[],c::y,a,b,_,h2,h=>by simp at h;exact Qe (by simp [h.1]) h2
 |c::x,[],a,b,h1,_,h=>by simp at h;exact Qe (by simp [h.1]) h1
 | c::x,d::y,a,b,h1,h2,h=>by
   simp at h h1 h2;obtain ⟨e1,e2⟩:=Zjm x y a b h1.2 h2.2 h.2;exact ⟨by rw [h.1,e1],e2⟩
def Zoe:∀(l m:List (List UInt8)),(∀x∈l,x≠[]/\32∉x)->(∀x∈m,x≠[]/\32∉x)->([32]:List UInt8).intercalate l=[32].intercalate m->l=m
 |[],[],_,_,_=>rfl
 |[],[y],_,h2,h=>by rw [Hi] at h;exact Qe h.symm (h2 y sM).1
 |[],y::z::m,_,h2,h=>by rw [ZaO] at h;simp [List.intercalate] at h
 |[x],[],h1,_,h=>by rw [Hi] at h;exact Qe h (h1 x sM).1
 |x::z::l,[],_,_,h=>by rw [ZaO] at h;simp [List.intercalate] at h
 |[x],[y],_,_,h=>by rw [Hi,Hi] at h;rw [h]
 | [x],y::z::m,h1,h2,h=>by
   rw [Hi,ZaO] at h;exact Qe (by rw [h];simp) (h1 x sM).2
 | x::z::l,[y],h1,h2,h=>by
   rw [Hi,ZaO] at h;exact Qe (by rw [<-h];simp) (h2 y sM).2
 | x::x'::l,y::y'::m,h1,h2,h=>by
   rw [ZaO,ZaO] at h;obtain ⟨e1,e2⟩:=Zjm _ _ _ _ (h1 x sM).2 (h2 y sM).2 h;rw [e1,Zoe (x'::l) (y'::m) (fun z hz=>h1 z (by simp at hz ⊢;exact .inr hz)) (fun z hz=>h2 z (by simp at hz ⊢;exact .inr hz)) e2]
def Hj {s:BA} (h:isName s=true):s.data.toList≠[]/\(32:UInt8)∉s.data.toList/\s.size<=40:=by
 unfold isName at h
 simp only [Xf,U',Xj] at h
 obtain ⟨⟨⟨h1,h2⟩,h3⟩,h4⟩:=h
 refine ⟨fun e=>?_,fun e=>?_,h2⟩
 . have:s.size=0:=by
    show s.data.size=0;rw [<-Va,e];rfl
   omega
 have:=h4 32 e;revert this;decide
def WOk (w:List BA):Prop:=w.length<=200/\∀s∈w,isName s=true
def Zof {l m:List BA} (h1:WOk l) (h2:WOk m) (h:Lib.join (l.map (·.data.toList)) [32]=Lib.join (m.map (·.data.toList)) [32]):l=m:=by
 have key:∀{l:List BA},WOk l->∀x∈l.map (·.data.toList),x≠[]/\(32:UInt8)∉x:=fun h x hx=>by
  obtain ⟨s,hs,rfl⟩:=Xp.1 hx;have:=Hj (h.2 s hs);exact ⟨this.1,this.2.1⟩
 have:=Zoe _ _ (key h1) (key h2) h
 have inj:∀{l m:List BA},l.map (·.data.toList)=m.map (·.data.toList)->l=m:=by
  intro l;induction l with
  |nil=>intro m h;cases m with|nil=>rfl|cons=>simp at h
  | cons a l ih=>
    intro m h
    cases m with
    |nil=>simp at h
    | cons b m=>
      simp only [Xn,List.cons.injEq] at h;rw [ih h.2,WideShapes.bytes_inj h.1]
 exact inj this
def Zog:∀(l:List (List UInt8)) (b:Nat),(∀x∈l,x.length<=b)->(([32]:List UInt8).intercalate l).length<=l.length*(b+1)
 |[],b,_=>by simp [List.intercalate]
 |[x],b,h=>by rw [Hi];have:=h x sM;simp;omega
 | x::y::l,b,h=>by
   rw [ZaO];have h1:=Zog (y::l) b (fun z hz=>h z (by simp at hz ⊢;exact .inr hz));have h2:=h x sM;simp only [Xe,Xh] at h1 ⊢;have:(l.length+1+1)*(b+1)=(l.length+1)*(b+1)+(b+1):=by rw [X3 (l.length+1) 1];omega
   omega
def Zoh {l:List BA} (h:WOk l):(Lib.join (l.map (·.data.toList)) [32]).length<=140737488355328:=by
 have:=Zog (l.map (·.data.toList)) 40 (fun x hx=>by
  obtain ⟨s,hs,rfl⟩:=Xp.1 hx;rw [Va];exact (Hj (h.2 s hs)).2.2)
 rw [Xc] at this
 have h2:=h.1
 unfold Lib.join
 omega
def WIn (Q:BA->Prop) (n:Nat) (ps:List Piece):Prop:=∀p∈ps,p.word.length<=n/\∀s∈p.word,Q s
def WIn.mono {Q:BA->Prop} {n m:Nat} {ps:List Piece} (h:WIn Q n ps) (hn:n<=m):WIn Q m ps:=fun p hp=>⟨XI (h p hp).1 hn,(h p hp).2⟩
def WIn.set {Q:BA->Prop} {n i:Nat} {ps:List Piece} {q:Piece} {s:BA} (h:WIn Q n ps) (hq:ps[i]? =some q) (hs:Q s):WIn Q (n+1) (ps.set i ⟨q.part,q.word++[s]⟩):=fun p hp=>by
 rcases VZ hp with h1|h1
 . exact h.mono (VM _) p h1
 have:=h q (Xb hq);rw [h1];refine ⟨by simp;exact this.1,fun t ht=>?_⟩;rcases XD.1 ht with h2|h2
 . exact this.2 t h2
 simp at h2;rw [h2];exact hs
def WIn.add {Q:BA->Prop} {n i:Nat} {ps:List Piece} {s:BA} (h:WIn Q n ps) (hs:Q s):WIn Q (n+1) (Jz ps i s):=by
 unfold Jz
 split
 . rename_i q hq;exact h.set hq hs
 exact h.mono (VM _)
def WIn.step {Q:BA->Prop} {n:Nat} {parts:List (List BA)} {ps ps':List Piece} {s:BA} (h:WIn Q n ps) (hs:Q s) (he:pieceStep parts ps s=some ps'):WIn Q (n+1) ps':=by
 have one:∀p:Piece,p∈[(⟨partOf parts s,[s]⟩:Piece)]->p.word.length<=n+1/\∀t∈p.word,Q t:=fun p hp=>by
  simp at hp;subst hp;exact ⟨sM,fun t ht=>by simp at ht;rw [ht];exact hs⟩
 unfold pieceStep at he
 split at he
 . cases he;exact one
 rename_i q hq;split at he
 . cases he;exact h.set hq hs
 split at he
 . cases he
 cases he;intro p hp;rcases XD.1 hp with h1|h1
 . exact h.mono (VM _) p h1
 exact one p h1
def CV {Q:BA->Prop} {parts:List (List BA)}:∀{ws:List BA} {n:Nat} {ps ps':List Piece},WIn Q n ps->(∀s∈ws,Q s)->Wb parts ps ws=some ps'->WIn Q (n+ws.length) ps'
 |[],n,ps,ps',h,_,he=>by simp [Wb] at he;subst he;exact h
 | s ::l,n,ps,ps',h,hs,he=>by
   rw [Wb] at he
   cases hst:pieceStep parts ps s with
   |none=>rw [hst] at he;cases he
   | some ps1=>
     rw [hst] at he;have:=CV (h.step (hs s sM) hst) (fun x hx=>hs x (by simp [hx])) he;exact this.mono (by simp;omega)
def ZaP {Q:BA->Prop} {kind:Int} {parts:List (List BA)}:∀{ws:List BA} {n:Nat} {first:Bool} {last:Int} {ps:List Piece} {r:List Piece×Int},WIn Q n ps->(∀s∈ws,Q s)->splitGo kind parts first last ps ws=some r->WIn Q (n+ws.length) r.1
 |[],n,_,_,ps,r,h,_,he=>by simp [splitGo] at he;subst he;exact h
 | s ::l,n,first,last,ps,r,h,hs,he=>by
   rw [splitGo] at he;split at he
   . cases he
   have:=ZaP (h.add (hs s sM)) (fun x hx=>hs x (by simp [hx])) he;exact this.mono (by simp;omega)
def ZhC {Q:BA->Prop} {c:Cut} {ws:List BA} {ps:List Piece} (hs:∀s∈ws,Q s) (he:Wh c ws=some ps):WIn Q ws.length ps:=by
 unfold Wh at he
 split at he
 . unfold LZ at he;split at he
   . cases he;intro p hp;simp at hp;subst hp;exact ⟨sM,fun s h=>by simp at h⟩
   cases hg:Wb c.parts [] ws with
   |none=>rw [hg] at he;cases he
   | some ps1=>
     rw [hg] at he;simp only [] at he;split at he
     . cases he;exact (CV (n:=0) (fun p hp=>by simp at hp) hs hg).mono oM
     cases he
 cases hg:splitGo c.kind c.parts true 0 (initPs c.parts.length) ws with
 |none=>rw [hg] at he;cases he
 | some r=>
   rw [hg] at he;have hin:=(ZaP (Q:=Q) (n:=0) (fun p hp=>by
    simp [initPs] at hp;obtain ⟨i,_,rfl⟩:=hp;exact ⟨sM,fun s h=>by simp at h⟩) hs hg).mono (m:=ws.length) oM
   obtain ⟨r1,r2⟩:=r;simp only [] at he;split at he
   . split at he
     . cases he
     cases he;exact fun p hp=>hin p (List.mem_of_mem_drop (V' hp))
   cases he;exact hin
def ZfQ {c:Cut} {x:Var} {ps:List Piece} (hx:Kc x=true) (he:Wh c x.acts=some ps):∀p∈ps,WOk p.word:=fun p hp=>by
 simp only [Kc,Xf,U',Xj] at hx
 have:=ZhC (Q:=fun s=>isName s=true) hx.1.1.2 he p hp
 exact ⟨XI this.1 hx.1.1.1,this.2⟩
def ZaQ (n:Int) (R:List (List Var)) (p:Piece):List (List Var):=match R[p.part.toNat]? with
 |some r=>R.set p.part.toNat (bump r p.word n)
 |none=>R
def Zls {n:Int} {R:List (List Var)} {p:Piece} {r:List Var} (h:R[p.part.toNat]? =some r):ZaQ n R p=R.set p.part.toNat (bump r p.word n):=by
 unfold ZaQ;rw [h]
def ZfR (n:Int) (R:List (List Var)) (p:Piece):(ZaQ n R p).length=R.length:=by
 unfold ZaQ;split<;>simp
def RelR (R S:List (List Var)):Prop:=R.length=S.length/\∀(i:Nat) (r s:List Var),R[i]? =some r->S[i]? =some s->Asc s/\r.Perm s
def RelR.put {n:Int} {R S:List (List Var)} {p:Piece} (h:RelR R S):RelR (ZaQ n R p) (putPiece n S p):=by
 refine ⟨by rw [ZfR,Zc6];exact h.1,fun i r s hr hs=>?_⟩
 unfold ZaQ at hr
 unfold putPiece at hs
 cases hR:R[p.part.toNat]? with
 | none=>
   have hS:S[p.part.toNat]? =none:=by
    rw [UK] at hR ⊢;have:=h.1;omega
   rw [hR] at hr;rw [hS] at hs;exact h.2 i r s hr hs
 | some r0=>
   obtain ⟨s0,hS⟩:∃s0,S[p.part.toNat]? =some s0:=get_some (by have:=Zd hR;have:=h.1;omega);rw [hR] at hr;rw [hS] at hs;simp only [] at hr hs;obtain ⟨a1,a2⟩:=h.2 _ _ _ hR hS;by_cases e:p.part.toNat=i
   . subst e;rw [XK (Zd hR)] at hr;rw [XK (Zd hS)] at hs
     cases hr;cases hs;exact ⟨ζX a1,Zkh a1 a2⟩
   rw [X9 e] at hr;rw [X9 e] at hs;exact h.2 i r s hr hs
def Zoi (n:Nat):RelR (List.replicate n []) (List.replicate n []):=⟨rfl,fun i r s hr hs=>by
 have h1:=VE (Xb hr)
 have h2:=VE (Xb hs)
 subst h1 h2
 exact ⟨List.Pairwise.nil, .refl _⟩⟩
def RelR.ok {m:Nat} {R S:List (List Var)} (h:RelR R S) (hS:RowsOk m S):RowsOk m R:=fun r hr=>by
 obtain ⟨i,hi⟩:=XM hr
 obtain ⟨s,hs⟩:∃s,S[i]? =some s:=get_some (by have:=Zd hi;have:=h.1;omega)
 obtain ⟨_,p⟩:=h.2 i r s hi hs
 have:=hS s (Xb hs)
 exact ⟨by rw [p.length_eq];exact this.1,fun x hx=>this.2 x (p.mem_iff.1 hx)⟩
def RelR.any {R S:List (List Var)} (h:RelR R S) (f:List Var->Bool) (hf:∀r s,r.Perm s->f r=f s):R.any f=S.any f:=by
 rw [VI,X2,X2]
 constructor
 . rintro ⟨r,hr,hfr⟩;obtain ⟨i,hi⟩:=XM hr;obtain ⟨s,hs⟩:∃s,S[i]? =some s:=get_some (by have:=Zd hi;have:=h.1;omega);exact ⟨s,Xb hs,by rw [<-hf r s (h.2 i r s hi hs).2];exact hfr⟩
 rintro ⟨s,hs,hfs⟩;obtain ⟨i,hi⟩:=XM hs;obtain ⟨r,hr⟩:∃r,R[i]? =some r:=get_some (by have:=Zd hi;have:=h.1;omega);exact ⟨r,Xb hr,by rw [hf r s (h.2 i r s hr hi).2];exact hfs⟩
def ZfS {r s:List Var} (h:r.Perm s):bigVars r=bigVars s:=by
 unfold bigVars
 rw [VI,X2,X2]
 exact ⟨fun ⟨x,hx,e⟩=>⟨x,h.mem_iff.1 hx,e⟩,fun ⟨x,hx,e⟩=>⟨x,h.mem_iff.2 hx,e⟩⟩
def Zcu {r s:List Var} (h:r.Perm s):Kl r=Kl s:=by unfold Kl;rw [h.length_eq]
def RelR.sorted {R S T:List (List Var)} (h:RelR R S) (hl:T.length=R.length) (hT:∀(i:Nat) (r t:List Var),R[i]? =some r->T[i]? =some t->Asc t/\t.Perm r):T=S:=by
 apply VT
 intro i
 cases hi:T[i]? with
 | none=>
   rw [UK] at hi;rw [eq_comm,UK];have:=h.1;omega
 | some t=>
   obtain ⟨r,hr⟩:∃r,R[i]? =some r:=get_some (by have:=Zd hi;omega);obtain ⟨s,hs⟩:∃s,S[i]? =some s:=get_some (by have:=Zd hr;have:=h.1;omega);obtain ⟨a,p⟩:=h.2 i r s hr hs;obtain ⟨a',p'⟩:=hT i r t hr hi;rw [hs,Zey a p a' p']
def WR (R:List (List Var)):Prop:=∀r∈R,∀x∈r,WOk x.acts
def ZfT {w:List BA} {n:Int}:∀{r:List Var} {y:Var},y∈bump r w n->y.acts=w\/∃z∈r,z.acts=y.acts
 |[],y,hy=>by simp [bump] at hy;exact .inl (by rw [hy])
 | z :: r,y,hy=>by
   rw [bump] at hy;split at hy
   . rcases Xi.1 hy with rfl|hy
     . exact .inr ⟨z,sM,rfl⟩
     exact .inr ⟨y,by simp [hy],rfl⟩
   rcases Xi.1 hy with rfl|hy
   . exact .inr ⟨y,sM,rfl⟩
   rcases ZfT hy with h1|⟨z',hz',e⟩
   . exact .inl h1
   exact .inr ⟨z',by simp [hz'],e⟩
def WR.put {n:Int} {R:List (List Var)} {p:Piece} (h:WR R) (hp:WOk p.word):WR (ZaQ n R p):=by
 unfold ZaQ
 split
 . rename_i r hr;intro r' hr' x hx;rcases VZ hr' with h1|h1
   . exact h r' h1 x hx
   rw [h1] at hx;rcases ZfT hx with e|⟨z,hz,e⟩
   . rw [e];exact hp
   rw [<-e];exact h r (Xb hr) z hz
 exact h
def Zsv (n:Nat):WR (List.replicate n []):=fun r hr x hx=>by
 have:=VE hr
 subst this;simp at hx
def Oe (f:List BA->BA):Nat->List Var->List (BA×Value)
 |_,[]=>[]
 |i,x::r=>(f x.acts,Value.int .i64 (i:Int))::Oe f (i+1) r
def Zcv {f:List BA->BA} {w:List BA} {v:Value} (hw:WOk w) (hf:∀a b,WOk a->WOk b->f a=f b->a=b):∀{r:List Var} {i:Nat},(∀x∈r,WOk x.acts)->Kx (Oe f i r) (f w)=some v->∃(j:Nat) (y:Var),v= .int .i64 ((i+j:Nat):Int)/\r[j]? =some y/\y.acts=w/\∀n,r.set j ⟨w,y.count+n⟩=bump r w n/\Oe f i (bump r w n)=Oe f i r
 |[],i,_,h=>by simp [Oe,Kx] at h
 | x ::r,i,hr,h=>by
   rw [Oe,Kx] at h;split at h
   . rename_i e;have e':=hf _ _ hw (hr x sM) e
     cases h;refine ⟨0,x,rfl,rfl,e'.symm,fun n=>?_⟩;rw [bump,Qd e'.symm];exact ⟨by rw [e'];rfl,rfl⟩
   rename_i hne;have hx:x.acts≠w:=fun e=>hne (by rw [e]);obtain ⟨j,y,hv,hy,hyw,hset⟩:=Zcv hw hf (fun z hz=>hr z (by simp [hz])) h;refine ⟨j+1,y,by rw [hv,show i+1+j=i+(j+1) by omega],hy,hyw,fun n=>?_⟩;rw [bump,Qc hx];exact ⟨by rw [UV,(hset n).1],by rw [Oe,(hset n).2];rfl⟩
def Zcw {f:List BA->BA} {w:List BA}:∀{r:List Var} {i:Nat},Kx (Oe f i r) (f w)=none->(∀x∈r,x.acts≠w)/\∀n,Oe f i (bump r w n)=Je (Oe f i r) (f w) (.int .i64 ((i+r.length:Nat):Int))
 |[],i,_=>⟨fun x h=>by simp at h,fun n=>rfl⟩
 | x :: r,i,h=>by
   rw [Oe,Kx] at h;split at h
   . cases h
   rename_i hne;have hx:x.acts≠w:=fun e=>hne (by rw [e]);obtain ⟨h1,h2⟩:=Zcw h;refine ⟨fun y hy=>?_,fun n=>?_⟩
   . rcases Xi.1 hy with rfl|hy
     . exact hx
     exact h1 y hy
   rw [bump,Qc hx,Oe,h2 n,Oe,Je,Qc hne,Xh,show i+1+r.length=i+(r.length+1) by omega]
def Zoj {r:List Var} {w:List BA} {n:Int} (h:∀x∈r,x.acts≠w):(r++[(⟨w,0⟩:Var)]).set r.length (⟨w,0+n⟩:Var)=bump r w n:=by
 rw [EI h,Vr _ _ (Xd _),Vg,Int.zero_add];rfl
