/-
  Walks and laws.
-/
import Derived.WalkKit
import Derived.ProofKit
import Derived.OpenShut
import Derived.ShutString
import Derived.ChangeOld
import Derived.Below
import Derived.Carry
import Derived.Deep.Slices
import Derived.Sort.EncStr
import Derived.Test.YtmkojdfiadbeeaaGreatPn04
import Derived.Test.YtmkojdfiadbeeaaGreatPn03
import Derived.Test.YtmkojdfiadbeeaaGreatPn02
import Derived.Test.YtmkojdfiadbeeaaGreatPn01
set_option linter.all false
set_option maxRecDepth 100000
set_option maxHeartbeats 0
namespace Go.Proofs.YtmkojdfiadbeeaaGreat
open Go.RowKit Go.Cb Go.En Tryz
def Z5:AggT prog 51 3=true:=kR
def Sv:ElT prog 49 51 3 48 (.agg #[(.int .i64 0),(.string ByteArray.empty),(.slice none 0 0)]):=⟨underlying49,by kernel_rfl,rfl,dC⟩
def GA:FldT prog 51 0 0=true:=kR
def Zfb:FldT prog 51 1 1=true:=kR
def TX:FldT prog 51 2 2=true:=kR
def SR:NoAgg prog 3=true:=kR
def Pe:NoAgg prog 49=true:=kR
def ZnF:NoAgg prog 9=true:=kR
def WH:SlT prog 49 51 3=true:=kR
def GQ:Gk prog 51=some ((.agg #[(.int .i64 0),(.string ByteArray.empty),(.slice none 0 0)]),([0,1,2]:List Nat).map fun o=>(o,1)):=kR
def Gf:ZeroT prog 51 (.agg #[(.int .i64 0),(.string ByteArray.empty),(.slice none 0 0)]):=by unfold ZeroT;kernel_rfl
def fpT (op:Int) (L:List Nd):List Nd:=L.foldl (OB op) []
def ZiV (op:Int) {L:List Nd} {k:Nat} {x:Nd} (h:L[k]? =some x):fpT op (L.take (k+1))=OB op (fpT op (L.take k)) x:=by
 unfold fpT
 rw [ZR h,Ue];rfl
def ZnG (x:Nd):∀m,(Oz x m).length=m.length+1:=fun m=>(R4 x m).length_eq
def Zfc (x:Nd):∀m,(SN x m).length<=m.length+1
 |[]=>Xd _
 | y::m=>by
   rw [SN];have:=Zfc x m;split
   . simp only [Xh];omega
   split<;>simp only [Xh]<;>omega
def Zfd (x:Nd):∀m,∀y∈SN x m,y=x\/y∈m
 |[],y,h=> .inl (XE.1 h)
 | z :: m,y,h=>by
   rw [SN] at h;split at h
   . rcases Xi.1 h with h|h
     . exact .inr (h▸Xu ..)
     rcases Zfd x m y h with h|h
     . exact .inl h
     exact .inr (Xt _ h)
   split at h
   . exact .inr h
   rcases Xi.1 h with h|h
   . exact .inl h
   exact .inr h
def Zqi (op:Int) (m:List Nd) (x:Nd):(OB op m x).length<=m.length+1:=by
 unfold OB
 split
 . exact Zfc x m
 split
 . omega
 split
 . exact Nat.le_of_eq (ZnG x m)
 rw [Xe];exact Xd _
def Zqj (op:Int) (m:List Nd) (x:Nd):∀y∈OB op m x,y=x\/y∈m:=fun y h=>by
 unfold OB at h
 split at h
 . exact Zfd x m y h
 split at h
 . exact .inr h
 split at h
 . exact Xi.1 ((R4 x m).mem_iff.1 h)
 rcases XD.1 h with h|h
 . exact .inr h
 exact .inl (XE.1 h)
def ZiW (op:Int) {L:List Nd} (hF:∀x∈L,FitT x):∀k,(fpT op (L.take k)).length<=L.length/\∀y∈fpT op (L.take k),FitT y:=fun k=>by
 have key:∀(L2 m:List Nd),(∀x∈L2,FitT x)->(∀x∈m,FitT x)->(L2.foldl (OB op) m).length<=m.length+L2.length/\∀y∈L2.foldl (OB op) m,FitT y:=fun L2=>by
  induction L2 with
  |nil=>intro m _ h2;exact ⟨Xd _,h2⟩
  | cons x L2 ih=>
    intro m h1 h2;obtain ⟨h3,h4⟩:=ih (OB op m x) (fun y hy=>h1 y (Xt _ hy)) (fun y hy=>by
     rcases Zqj op m x y hy with h|h
     . rw [h];exact h1 x (Xu ..)
     exact h2 y h)
    have:=Zqi op m x;refine ⟨?_,h4⟩;rw [Vq,Xh];omega
 obtain ⟨h1,h2⟩:=key (L.take k) [] (fun x hx=>hF x (V' hx)) (fun x hx=>by cases hx)
 refine ⟨?_,h2⟩
 have:(L.take k).length<=L.length:=by rw [XA];omega
 unfold fpT
 simp only [Xw,XC] at h1
 omega
def Zfe (op : Int) (hop:op=4\/op=5) (l:List Nd) (hF:∀x∈l,FitT x) (hn:szL l<=1000000):AF prog 193 [Zb op,YJ l] (· =pTr (EK op l)):=by
 have hll:l.length<=1000000:=XI (GP l) hn
 obtain ⟨L,hLe⟩:∃L,L=Lo op l:=⟨_,rfl⟩
 have hFL:∀y∈L,FitT y:=by rw [hLe];exact ZiU hF
 have hLl:L.length<=1000000:=by rw [hLe];exact XI (GP _) (XI (Zdv op l) hn)
 have hfl:=Zfa l op hn
 rw [<-hLe] at hfl
 refine AF.b2 99 func193 rfl ntmps193 (Xa rfl) ?_
 rintro w0 M0 _ v1 rfl-
 refine Zi ?_
 refine Zt zT 3 4 Gf fun h4=>?_;refine YT ?_;refine Wv ?_ ?_<;>intro hb10
 . exfalso;omega
 . refine Zi ?_;refine YW ?_;refine cD (cA call238 hfl) fun v47 hv47=>?_;clear hv47;refine KG ?_;refine Zs (PO (t:=7) rfl) fun _=>?_;refine Zp ?_;refine ZD ?_;refine Yl (ι:={q:Nat×Value//q.1<=L.length}) (fun k=>⟨[(0,_,_),(1,_,_),(4,_,_),(7,k.1.2,YJ (fpT op (L.take k.1.1))),(8, .int .i64 k.1.1,Zb k.1.1)],[(4,_,_)]⟩) (fun k=>L.length-k.1.1) ⟨(0, .slice none 0 0),Xg _⟩ ?_;rintro ⟨⟨k,hO⟩,hk⟩;dsimp only;dsimp only at hk;obtain ⟨hpl,hpf⟩:=ZiW op hFL k;refine Zi ?_;refine xL 48 Za (xL 49 Za (xL 50 (Zu WH) (xL 51 Yn ?_)));refine ZC ?_ ?_<;>intro hb51
   . (
 obtain ⟨x,hx⟩:=gS L k;have e1:((Z9 L).drop (k*3)).take 3=[Zb x.op,Zx x.act,YJ x.l]:=Yd hx;have e2:=YF hx;have hsn:=ZiV op hx;have hxf:=hFL x (Xb hx);(have g0:(Z9 L)[k*3+0]? =some (Zb x.op):=by rw [<-Vn,<-X1 (show 0<3 by decide),e1];rfl);refine WL ?_;refine ZC ?_ ?_<;>intro hb61
 . (
 refine Zi ?_;refine xL 64 Za (xL 65 Za (xL 66 Za (xL 67 (Ze WH) ?_)));refine yU (We Z5) fun v68=>?_;refine cD (cA call239 (Zak (fpT op (L.take k)) x true hpf hxf oM)) fun v69 hv69=>?_;clear hv69;refine Zz (Ki (t:=69) (p':=YJ (fpT op (L.take (k+1)))) rfl (by rw [Qd rfl,hsn,OB,Qd hb61])) fun _=>?_;refine KQ ?_
 first
  | (exact Yk (
      ⟨(k+1,v69),Zd hx⟩
      ))
  | (exact Yk (
      ⟨(k+1,v85),Zd hx⟩
      ))
  | (exact Yk (
      ⟨(k+1,hO),Zd hx⟩
      )))
 refine Zi ?_;refine xL 71 Za (xL 72 Za (xL 73 (Ze WH) (xL 74 (Yg GA) ?_)));refine yV (Zw SR) ?_;refine Wv ?_ ?_<;>intro hb70
 . (
 refine Zs (Ki (t:=7) (p':=YJ (fpT op (L.take (k+1)))) rfl (by rw [hsn,OB,Qc hb61,Qd hb70])) fun _=>?_;refine YQ ?_
 first
  | (exact Yk (
      ⟨(k+1,v69),Zd hx⟩
      ))
  | (exact Yk (
      ⟨(k+1,v85),Zd hx⟩
      ))
  | (exact Yk (
      ⟨(k+1,hO),Zd hx⟩
      )))
 refine WL ?_;refine ZC ?_ ?_<;>intro hb77
 . refine Zi ?_;refine xL 80 Za (xL 81 Za (xL 82 Za (xL 83 (Ze WH) ?_)));refine yU (We Z5) fun v84=>?_;refine cD (cA call239 (Zak (fpT op (L.take k)) x false hpf hxf oM)) fun v85 hv85=>?_;clear hv85;refine Zz (Ki (t:=85) (p':=YJ (fpT op (L.take (k+1)))) rfl (by rw [Qc dC,hsn,OB,Qc hb61,Qc hb70,Qd hb77])) fun _=>?_;refine KQ ?_
   first
    | (exact Yk (
        ⟨(k+1,v69),Zd hx⟩
        ))
    | (exact Yk (
        ⟨(k+1,v85),Zd hx⟩
        ))
    | (exact Yk (
        ⟨(k+1,hO),Zd hx⟩
        ))
 . exfalso;omega)
   . (
 rw [Xs (show L.length<=k by omega)];refine nav ?_;have hml:=(ZiW op hFL L.length).1;rw [Xs (Xd L.length)] at hml;(have hnd:EK op l=EJ op (fpT op L):=by unfold EK fpT;rw [hLe]);rw [hnd];generalize fpT op L=p at hml ⊢;refine Zp ?_;refine xL 86 Za (xL 87 (Zu WH) (xL 88 Jb ?_));refine ZC ?_ ?_<;>intro hb88
 . (
 obtain rfl:p=[]:=Xv oM;refine Zi ?_;refine xM (ZA GQ) ?_;refine Zz (HR (t:=89) (p':=pTr HM) rfl EU) fun _=>?_;refine Zn 4 Z5 ?_;refine ZZ ?_;exact Yp (k:=3) 4 results193 rfl)
 refine Zi ?_;refine xL 90 Za (xL 91 (Zu WH) (xL 92 Jb ?_));refine ZC ?_ ?_<;>intro hb92
 . (
 obtain ⟨x,rfl⟩:∃x,p=[x]:=by
  match p,hb92 with
  |[],h=>simp at h
  |[x],_=>exact ⟨x,rfl⟩
  |_::_::_,h=>simp at h;omega
 have e1:((Z9 [x]).drop (0*3)).take 3=cN x:=Yd (k:=0) rfl;have e2:0*3+3<=(Z9 [x]).length:=YF (k:=0) (x:=x) rfl;refine Zi ?_;refine xL 93 Za (xL 94 (Ze WH) ?_);refine yU (We Z5) fun v95=>?_;refine Zn 4 Z5 ?_;refine ZZ ?_;exact Yp (k:=3) 4 results193 rfl)
 refine Zi ?_;refine xL 96 Za (xL 97 Za (xL 98 (ZA GQ) ?_));refine Zn 4 Z5 ?_;refine ZZ ?_;refine Yp (k:=3) 4 results193 ?_;match p,hb88,hb92 with
 |[],h,_=>simp at h
 |[x],_,h=>simp at h
 |x::y::r,_,_=>rfl)
def ZnH (op : Int) (hop:op=3) (l:List Nd) (hF:∀x∈l,FitT x) (hn:szL l<=1000000):AF prog 193 [Zb op,YJ l] (· =pTr (EK op l)):=by
 have hll:l.length<=1000000:=XI (GP l) hn
 obtain ⟨L,hLe⟩:∃L,L=Lo op l:=⟨_,rfl⟩
 have hFL:∀y∈L,FitT y:=by rw [hLe];exact ZiU hF
 have hLl:L.length<=1000000:=by rw [hLe];exact XI (GP _) (XI (Zdv op l) hn)
 have hfl:=Zfa l op hn
 rw [<-hLe] at hfl
 refine AF.b2 99 func193 rfl ntmps193 (Xa rfl) ?_
 rintro w0 M0 _ v1 rfl-
 refine Zi ?_
 refine Zt zT 3 4 Gf fun h4=>?_;refine YT ?_;refine Wv ?_ ?_<;>intro hb10
 . exfalso;omega
 . refine Zi ?_;refine YW ?_;refine cD (cA call238 hfl) fun v47 hv47=>?_;clear hv47;refine KG ?_;refine Zs (YO 200 51 3 rfl) fun _=>?_;refine Zp ?_;refine ZD ?_;refine Yl (ι:={q:Nat×Value//q.1<=L.length/\q.2.oneCell'=true}) (fun k=>⟨[(0,_,_),(1,_,_),(4,_,_),(7,k.1.2, .val k.1.2),(8, .int .i64 k.1.1,Zb k.1.1)],[(4,_,_),(200,k.1.2, .own 51 3 (fpT op (L.take k.1.1)).length (Z9 (fpT op (L.take k.1.1))))]⟩) (fun k=>L.length-k.1.1) ⟨(0, .slice none 0 0),Xg _,rfl⟩ ?_;rintro ⟨⟨k,hO⟩,hk,hOo⟩;dsimp only;dsimp only at hk hOo;obtain ⟨hpl,hpf⟩:=ZiW op hFL k;refine Zi ?_;refine xL 48 Za (xL 49 Za (xL 50 (Zu WH) (xL 51 Yn ?_)));refine ZC ?_ ?_<;>intro hb51
   . (
 obtain ⟨x,hx⟩:=gS L k;have e1:((Z9 L).drop (k*3)).take 3=[Zb x.op,Zx x.act,YJ x.l]:=Yd hx;have e2:=YF hx;have hsn:=ZiV op hx;(have g0:(Z9 L)[k*3+0]? =some (Zb x.op):=by rw [<-Vn,<-X1 (show 0<3 by decide),e1];rfl);refine WL ?_;refine ZC ?_ ?_<;>intro hb61
 . exfalso;omega
 . refine Zi ?_;refine xL 71 Za (xL 72 Za (xL 73 (Ze WH) (xL 74 (Yg GA) ?_)));refine yV (Zw SR) ?_;refine Wv ?_ ?_<;>intro hb70
   . (
 refine Zs (Wm (l:=200) (p':= .own 51 3 (fpT op (L.take (k+1))).length (Z9 (fpT op (L.take (k+1))))) rfl (by rw [hsn,OB,Qc hb61,Qd hb70])) fun _=>?_;refine YQ ?_
 first
  | (exact Yk (
      ⟨(k+1,h60),Zd hx,ho60⟩
      ))
  | (exact Yk (
      ⟨(k+1,hO),Zd hx,hOo⟩
      )))
   . (
 refine WL ?_;refine ZC ?_ ?_<;>intro hb77
 . exfalso;omega
 . (have hsn2:fpT op (L.take (k+1))=fpT op (L.take k)++[x]:=by rw [hsn,OB,Qc hb61,Qc hb70,Qc hb77]);(have hsl:(fpT op (L.take (k+1))).length=(fpT op (L.take k)).length+1:=by rw [hsn2,Xe];rfl);refine Zi ?_;refine xL 54 Za (xL 55 Za (xL 56 Za (xL 57 (Ze WH) ?_)));refine yU (We Z5) fun v58=>?_;refine Wy 59 Sv fun h59 ho59=>?_;refine Y7 200 59 60 Sv fun h60 ho60=>?_;refine Zz (ZK (l:=60) 200 rfl rfl) fun _=>?_;refine Zz (Wm (l:=200) (p':= .own 51 3 (fpT op (L.take (k+1))).length (Z9 (fpT op (L.take (k+1))))) rfl (Eq.trans (congrArg (PV.own 51 3 _) (show _=Z9 (fpT op (L.take k))++cN x from rfl)) (by rw [LF,<-hsn2,hsl]))) fun _=>?_;refine KQ ?_
   first
    | (exact Yk (
        ⟨(k+1,h60),Zd hx,ho60⟩
        ))
    | (exact Yk (
        ⟨(k+1,hO),Zd hx,hOo⟩
        ))))
   . (
 rw [Xs (show L.length<=k by omega)];refine nav ?_;refine Zs (En.freeze (l:=200) (t:=7) rfl rfl) fun _=>?_;rw [JK _ _ _ rfl];have hml:=(ZiW op hFL L.length).1;rw [Xs (Xd L.length)] at hml;(have hnd:EK op l=EJ op (fpT op L):=by unfold EK fpT;rw [hLe]);rw [hnd];generalize fpT op L=p at hml ⊢;refine Zp ?_;refine xL 86 Za (xL 87 (Zu WH) (xL 88 Jb ?_));refine ZC ?_ ?_<;>intro hb88
 . (
 obtain rfl:p=[]:=Xv oM;refine Zi ?_;refine xM (ZA GQ) ?_;refine Zz (HR (t:=89) (p':=pTr HM) rfl EU) fun _=>?_;refine Zn 4 Z5 ?_;refine ZZ ?_;exact Yp (k:=3) 4 results193 rfl)
 refine Zi ?_;refine xL 90 Za (xL 91 (Zu WH) (xL 92 Jb ?_));refine ZC ?_ ?_<;>intro hb92
 . (
 obtain ⟨x,rfl⟩:∃x,p=[x]:=by
  match p,hb92 with
  |[],h=>simp at h
  |[x],_=>exact ⟨x,rfl⟩
  |_::_::_,h=>simp at h;omega
 have e1:((Z9 [x]).drop (0*3)).take 3=cN x:=Yd (k:=0) rfl;have e2:0*3+3<=(Z9 [x]).length:=YF (k:=0) (x:=x) rfl;refine Zi ?_;refine xL 93 Za (xL 94 (Ze WH) ?_);refine yU (We Z5) fun v95=>?_;refine Zn 4 Z5 ?_;refine ZZ ?_;exact Yp (k:=3) 4 results193 rfl)
 refine Zi ?_;refine xL 96 Za (xL 97 Za (xL 98 (ZA GQ) ?_));refine Zn 4 Z5 ?_;refine ZZ ?_;refine Yp (k:=3) 4 results193 ?_;match p,hb88,hb92 with
 |[],h,_=>simp at h
 |[x],_,h=>simp at h
 |x::y::r,_,_=>rfl)
def ZnI (f s:Nd) (hof:okT f=true) (hf:FitT f) (hs:FitT s) (hn:szL [f,s]<=1000000):AF prog 193 [Zb 6,YJ [f,s]] (· =pTr (ZpX [f,s])):=by
 rw [Sm] at hn
 have e3:((Z9 [f,s]).drop (0*3)).take 3=[Zb f.op,Zx f.act,YJ f.l]:=Yd (k:=0) rfl
 have e4:0*3+3<=(Z9 [f,s]).length:=YF (k:=0) (x:=f) rfl
 have e5:((Z9 [f,s]).drop (1*3)).take 3=[Zb s.op,Zx s.act,YJ s.l]:=Yd (k:=1) rfl
 have e6:1*3+3<=(Z9 [f,s]).length:=YF (k:=1) (x:=s) rfl
 have hres:ZpX [f,s]=ζ4 (SO f s):=rfl
 refine AF.b2 99 func193 rfl ntmps193 (Xa rfl) ?_
 rintro w0 M0 _ v1 rfl-
 refine Zi ?_
 refine Zt zT 3 4 Gf fun h4=>?_;refine YT ?_;refine Wv ?_ ?_<;>intro hb10
 . refine nav ?_;refine Ja (fun q:Value×Value×Value=>⟨[(0, .int .i64 6,Zb 6),(4,padd (sbase q.1) 0, .val (padd (sbase q.1) 0)),(5,padd (sbase q.2.1) 0, .val (padd (sbase q.2.1) 0)),(6,padd (sbase q.2.2) 0, .val (padd (sbase q.2.2) 0))],[(4,q.1, .own 51 3 1 [.val (.int .i64 0), .val (.string ByteArray.empty), .val (.slice none 0 0)]),(5,q.2.1, .own 51 3 1 [Zb f.op,Zx f.act,YJ f.l]),(6,q.2.2, .own 51 3 1 [Zb s.op,Zx s.act,YJ s.l])]⟩) ?_ ?_
   . (refine Yx [] [] ?_<;>refine gDx 0 ?_<;>refine xD 1 rfl (Ze WH) ?_<;>(refine yD 2 rfl (We Z5) fun v13 h=>?_;cases h)<;>refine gDx 3 ?_<;>refine xD 4 rfl (Ze WH) ?_<;>(refine yD 5 rfl (We Z5) fun v16 h=>?_;cases h)<;>(refine WJ 6 7 kR ?_ ?_;rotate_right;(focus ((refine aWr fun bk=>?_)<;>refine Zt zT 3 6 Gf fun h6=>?_<;>refine bE bk ?_<;>(refine aDr 6 fun bk=>?_)<;>refine Zt zT 3 5 Gf fun h5=>?_<;>refine bE bk ?_<;>(refine aDr 8 fun bk=>?_)<;>refine Zn 5 Z5 ?_<;>refine bE bk ?_<;>(refine aDr 9 fun bk=>?_)<;>refine Zn 6 Z5 ?_<;>refine bE bk ?_));rotate_right;(focus ((refine aWr fun bk=>?_)<;>refine Zt zT 3 5 Gf fun h5=>?_<;>refine bE bk ?_<;>(refine aDr 7 fun bk=>?_)<;>refine Zt zT 3 6 Gf fun h6=>?_<;>refine bE bk ?_<;>(refine aDr 8 fun bk=>?_)<;>refine Zn 5 Z5 ?_<;>refine bE bk ?_<;>(refine aDr 9 fun bk=>?_)<;>refine Zn 6 Z5 ?_<;>refine bE bk ?_)))<;>refine Wo ?_)<;>(
 exact Yo (_,_,_) ⟨rfl,rfl,rfl,rfl,trivial⟩ ⟨rfl,rfl,rfl,trivial⟩)
   . rintro ⟨h4,h5,h6⟩;dsimp only;clear e3 e4 e5 e6;refine Zi ?_;refine xM (Zc 5 GA) ?_;refine yV (Zf 5 SR) ?_;refine ZD ?_;refine Ja (fun _:Unit=>⟨[(0, .int .i64 6,Zb 6),(4,padd (sbase h4) 0, .val (padd (sbase h4) 0)),(5,padd (sbase h5) 0, .val (padd (sbase h5) 0)),(6,padd (sbase h6) 0, .val (padd (sbase h6) 0))],[(4,h4, .own 51 3 1 [.val (.int .i64 0), .val (.string ByteArray.empty), .val (.slice none 0 0)]),(5,h5, .own 51 3 1 (cN (SO f s).1)),(6,h6, .own 51 3 1 (cN (SO f s).2))]⟩) ?_ ?_
     . refine cX ?_ ?_<;>intro hb19
       . (
 obtain ⟨A,B,hAB⟩:=Pd (J3.1 hof).1 hb19;(have hlop:SO f s=(A,EK 4 [B,s]):=by unfold SO;rw [Qd hb19,hAB]);have hfA:=hf.p A (by rw [hAB];simp);have hfB:=hf.p B (by rw [hAB];simp);have hFe:=SQ f;rw [hAB,Sm] at hFe;rw [hAB];have e3:((Z9 [A,B]).drop (0*3)).take 3=[Zb A.op,Zx A.act,YJ A.l]:=Yd (k:=0) rfl;have e4:0*3+3<=(Z9 [A,B]).length:=YF (k:=0) (x:=A) rfl;have e5:((Z9 [A,B]).drop (1*3)).take 3=[Zb B.op,Zx B.act,YJ B.l]:=Yd (k:=1) rfl;have e6:1*3+3<=(Z9 [A,B]).length:=YF (k:=1) (x:=B) rfl;have hj:=Zfe 4 (.inl rfl) [B,s] (fun x hx=>by simp only [Xi,UZ,or_false] at hx;rcases hx with h|h<;>rw [h]<;>assumption) (by rw [Sm];omega);refine nav ?_;(refine Yx [7] [5,6] ?_<;>refine xD 0 rfl (Zc 5 TX) ?_<;>(refine yD 1 rfl (Zf 5 Pe) fun v21 h=>?_;cases h)<;>refine xD 2 rfl (Ze WH) ?_<;>(refine yD 3 rfl (We Z5) fun v23 h=>?_;cases h)<;>(refine yE 4 rfl (Zm 6 Z5) fun v24 h=>?_;cases h)<;>(refine aDr 5 fun bk=>?_)<;>(refine J5 (kk:=3) (xs:=[_,_]) (cs:=[[_,_,_],[_,_,_]]) 25 Sv fun h25 ho25=>?_;refine Zz (En.freeze (l:=25) (t:=25) rfl rfl) fun _=>?_;refine Zz (Ki (t:=25) (p':=YJ [B,s]) rfl (Eq.trans (show _=PV.sl 2 ([B,s].flatMap cN) from rfl) (Dj B s))) fun _=>?_)<;>refine bE bk ?_<;>(refine ZY 6 kR ?_)<;>(refine Ym (d:=26) rfl (cA call193 hj) fun v26 h=>?_;cases h)<;>(refine ZY 7 kR ?_)<;>(refine Wx rfl rfl kR fun DQ bk=>?_)<;>refine Zn 6 Z5 ?_<;>refine WC (bk _ (nav ?_))<;>try dsimp only)
 refine Zp ?_;refine xM (Zc 5 TX) ?_;refine yU (Zf 5 Pe) fun v28=>?_;refine xM (Ze WH) ?_;refine yU (We Z5) fun v30=>?_;refine Zn 5 Z5 ?_;refine ZZ ?_;refine ZJ (Wm (l:=5) (p':= .own 51 3 1 (cN (SO f s).1)) rfl (by rw [hlop];rfl)) fun _=>?_;refine ZJ (Wm (l:=6) (p':= .own 51 3 1 (cN (SO f s).2)) rfl (by rw [hlop];rfl)) fun _=>?_;exact Yo () sB sB)
       . (
 (have hlop:SO f s=(f,s):=by unfold SO;rw [Qc hb19]);refine Zs (Wm (l:=5) (p':= .own 51 3 1 (cN (SO f s).1)) rfl (by rw [hlop];rfl)) fun _=>?_;refine Zs (Wm (l:=6) (p':= .own 51 3 1 (cN (SO f s).2)) rfl (by rw [hlop];rfl)) fun _=>?_;refine nav ?_;exact Yo () sB sB)
     . rintro _;unfold ζ4 at hres;generalize (SO f s).1=X at hres ⊢;generalize (SO f s).2=Y at hres ⊢;have ec:∀t:Nd,cN t=[Zb t.op,Zx t.act,YJ t.l]:=fun _=>rfl;rw [ec,ec];refine Zi ?_;(refine xM (Zc 5 GA) ?_<;>refine yV (Zf 5 SR) ?_<;>refine YW ?_<;>(refine bLd 34 (fun hb34=>?_) (fun hb34=>?_)<;>(first|refine kL ?_|refine xM (Zc 6 GA) ?_))<;>(first|refine kL ?_|refine yV (Zf 6 SR) ?_)<;>refine WF ?_)<;>(
 refine cX ?_ ?_<;>intro hb38
 . first|exact bN hb38|(
 rw [Qd oM] at hres;refine Zi ?_;refine xM (ZA GQ) ?_;refine Zz (HR (t:=39) (p':=pTr HM) rfl EU) fun _=>?_;refine Zn 4 Z5 ?_;refine ZZ ?_;refine Yp (k:=3) 4 results193 ?_;rw [hres];rfl)
 rw [Qc oM] at hres;refine Wp ?_;refine yU (Zm 5 Z5) fun v41=>?_;refine yU (Zm 6 Z5) fun v42=>?_;refine J5 (kk:=3) (xs:=[_,_]) (cs:=[[_,_,_],[_,_,_]]) 43 Sv fun h43 ho43=>?_;refine Zz (En.freeze (l:=43) (t:=43) rfl rfl) fun _=>?_;refine Zz (Ki (t:=43) (p':=YJ [X,Y]) rfl (Eq.trans (show _=PV.sl 2 ([X,Y].flatMap cN) from rfl) (Dj X Y))) fun _=>?_;refine xM (ZA GQ) ?_;refine Zn 4 Z5 ?_;refine ZZ ?_;refine Yp (k:=3) 4 results193 ?_;rw [hres];rfl)
 exfalso;omega
def ZnJ {l:List Nd} (h:∀x∈l,okT x=true):ζ6 l=Kh l:=by
 rw [ZeI,Rn]
 exact VV fun x hx=>Zde x (h x hx)
def Zff {t:Nd} (h:rightT t=true) (h1:t.op=1\/t.op=2):t.l=[]:=by
 unfold rightT at h
 rcases h1 with h1|h1
 . rw [Qd h1] at h;simp only [Xf,U0] at h;exact h.1
 rw [Qc oM,Qd h1] at h;simp only [Xf,U0] at h;exact h.1
def ZkM {t:Nd} (hok:okT t=true) (hs:szT t<=1000000):(∀y∈Kh t.l,FitT y/\okT y=true)/\szL (Kh t.l)<=szL t.l:=by
 obtain ⟨hr,hp⟩:=J3.1 hok
 have hsz:=SQ t
 refine ⟨fun y hy=>?_,?_⟩
 . rw [Rn] at hy;obtain ⟨x,hx,rfl⟩:=Xp.1 hy;have:=PM hx;exact ⟨Sk (hp x hx) oM,ET (hp x hx)⟩
 generalize t.l=l;induction l with
 |nil=>exact Xd _
 | cons x l ih2=>
   have h3:=OG x;rw [Kh,szL,szL];omega
def Zfg :∀t:Nd,okT t=true->szT t<=1000000->AF prog 130 [pTr t] (· =pTr (ZeH t)):=Nd.ind fun o a l ih hok hs=>by
 have e0:pTr (.mk o a l)= .agg [Zb o,Zx a,YJ l]:=rfl
 rw [e0]
 obtain ⟨hr,hp⟩:=J3.1 hok
 have hsz:=SQ (.mk o a l)
 have hlz:=GP l
 have hops:=R6 hr
 obtain ⟨hnf,hnz⟩:=ZkM hok hs
 simp only [Nd.l,Nd.op] at hp hsz hops hnf hnz
 have hrn:=ZnJ hp
 have hnl:=Ze6 l
 refine AF.b1 34 func130 rfl ntmps130 (Xa rfl) fun w0 M0 v0 _=>?_
 refine Zi ?_
 refine Z4 1 3 fun h1=>?_;refine Zt zT 3 2 Gf fun h2=>?_;refine YT ?_
 refine xM (Zc 1 TX) ?_;refine yU (Zf 1 Pe) fun v6=>?_;refine xL 7 (Zu WH) (xL 8 Jb ?_);refine ZC ?_ ?_<;>intro hb8
 . (
 refine Zi ?_;refine xM (Zc 1 GA) ?_;refine yV (Zf 1 SR) ?_;refine xM (Zc 1 Zfb) ?_;refine yV (Zf 1 ZnF) ?_;refine xM (ZA GQ) ?_;refine Zz (HR (t:=13) (p':=pTr (.mk o a [])) rfl (Zdu o a)) fun _=>?_;refine Zn 2 Z5 ?_;refine ZZ ?_;refine Yp (k:=3) 2 results130 ?_;rw [ZeH,Qd (by rw [U0];exact Xv oM)];rfl)
 refine ZF ?_;refine Zs (YO 200 51 3 rfl) fun _=>?_;refine Zp ?_;refine ZD ?_;refine Yl (ι:={q:Nat×Value//q.1<=l.length/\q.2.oneCell'=true}) (fun k=>⟨[(1,_,_),(2,_,_),(3,k.1.2, .val k.1.2),(4, .int .i64 k.1.1,Zb k.1.1)],[(1,_,_),(2,_,_),(200,k.1.2, .own 51 3 ((Kh l).take k.1.1).length (Z9 ((Kh l).take k.1.1)))]⟩) (fun k=>l.length-k.1.1) ⟨(0, .slice none 0 0),Xg _,rfl⟩ ?_;rintro ⟨⟨k,hO⟩,hk,hOo⟩;dsimp only;dsimp only at hk hOo;refine Zi ?_;refine xL 14 Za (xL 15 (Zc 1 TX) ?_);refine yU (Zf 1 Pe) fun v16=>?_;refine xL 17 (Zu WH) (xL 18 Yn ?_);refine ZC ?_ ?_<;>intro hb18
 . (
 obtain ⟨x,hx⟩:=gS l k;have e1:((Z9 l).drop (k*3)).take 3=[Zb x.op,Zx x.act,YJ x.l]:=Yd hx;have e2:=YF hx;have hxm:=Xb hx;have hxs:=PM hxm;have hsn:=ZR (Ze5 hx);(have hsl:((Kh l).take (k+1)).length=((Kh l).take k).length+1:=by rw [hsn,Xe];rfl);(have hsl2:((Kh l).take k).length<=1000000:=by rw [XA];omega);have ihx:=ih x hxm (hp x hxm) oM;rw [Zde x (hp x hxm)] at ihx;refine Zi ?_;refine xL 21 Za (xL 22 (Zc 1 TX) ?_);refine yU (Zf 1 Pe) fun v23=>?_;refine xL 24 Za (xL 25 (Ze WH) ?_);refine yU (We Z5) fun v26=>?_;refine cD (cA call130 ihx) fun v27 hv27=>?_;clear hv27;refine Wy 28 Sv fun h28 ho28=>?_;refine Y7 200 28 29 Sv fun h29 ho29=>?_;refine Zz (ZK (l:=29) 200 rfl rfl) fun _=>?_;refine Zz (Wm (l:=200) (p':= .own 51 3 ((Kh l).take (k+1)).length (Z9 ((Kh l).take (k+1)))) rfl (Eq.trans (congrArg (PV.own 51 3 _) (show _=Z9 ((Kh l).take k)++cN (Yt x) from rfl)) (by rw [LF,<-hsn,hsl]))) fun _=>?_;refine KQ ?_;refine Yk (
  ⟨(k+1,h29),Zd hx,ho29⟩
  ))
 rw [Xs (show (Kh l).length<=k by omega)];refine nav ?_;refine Zs (En.freeze (l:=200) (t:=3) rfl rfl) fun _=>?_;rw [JK _ _ _ rfl];have hnode:AF prog 193 [Zb o,YJ (Kh l)] (· =pTr (ZeH (.mk o a l))):=by
  rw [ZeH,Qc (by intro h;rw [U0] at h;rw [h] at hb8;exact hb8 rfl),hrn];rcases Decidable.em (o=6) with h6|h6
  . rw [Qd h6];obtain ⟨f0,s0,hl2⟩:=Pd hr h6;obtain rfl:l=[f0,s0]:=hl2;subst h6;exact ZnI (Yt f0) (Yt s0) (hnf (Yt f0) (by simp [Kh])).2 (hnf (Yt f0) (by simp [Kh])).1 (hnf (Yt s0) (by simp [Kh])).1 (XI hnz oM)
  rw [Qc h6];rcases Decidable.em (o=3) with h3|h3
  . exact ZnH o h3 (Kh l) (fun y hy=>(hnf y hy).1) oM
  refine Zfe o ?_ (Kh l) (fun y hy=>(hnf y hy).1) oM;(have hln:¬l=[]:=fun e=>by rw [e] at hb8;exact hb8 rfl);rcases hops with h|h|h|h|h|h
  . exact Qe (Zff hr (.inl h)) hln
  . exact Qe (Zff hr (.inr h)) hln
  . exact Qe h h3
  . exact .inl h
  . exact .inr h
  exact Qe h h6
 refine Zp ?_;refine xM (Zc 1 GA) ?_;refine yV (Zf 1 SR) ?_;refine YU ?_;refine cD (cA call193 hnode) fun v33 hv33=>?_;clear hv33;refine Zn 2 Z5 ?_;refine ZZ ?_;exact Yp (k:=3) 2 results130 rfl
def Zhd (t:Nd) (hf:FitT t):AF prog 83 [pTr t] (· = .tup [(TW t).1,Zb (TW t).2]):=by
 refine AF.b1 16 func83 rfl ntmps83 (Xa rfl) fun w0 M0 v0 _=>?_
 have e0:pTr t= .agg [Zb t.op,Zx t.act,YJ t.l]:=rfl
 rw [e0]
 refine Zi ?_
 refine Z4 1 3 fun h1=>?_;refine Zt zT 3 2 Gf fun h2=>?_;refine ZW ?_
 refine yU (Zm 1 Z5) fun v5=>?_;refine cV (cA call82 (Dd t hf)) ?_;refine Wg ?_ ?_<;>intro hb7
 . (
 refine Zi ?_;refine xM (ZA GQ) ?_;refine Zn 2 Z5 ?_;refine ZD ?_;refine ZN (k:=3) 2 results83 ?_;rw [show TW t=(JA,1) by unfold TW;rw [Qc (by simpa using hb7)]];rfl)
 (have hv:Gp t=true:=by simpa using hb7);have hsz:=ζ1 hv;have hok:=ζ0 hv;have hfn:=Sk hok oM;have hred:=Zfg t hok oM;rw [Zde t hok] at hred;refine Zi ?_;refine yU (Zm 1 Z5) fun v9=>?_;refine cD (cA call130 hred) fun v10 hv10=>?_;clear hv10;refine Zt zT 3 4 Gf fun h4=>?_;refine Zn 4 Z5 ?_;refine ZZ ?_;have e1:cN (Yt t)=[Zb (Yt t).op,Zx (Yt t).act,YJ (Yt t).l]:=rfl;refine Zp ?_;refine yU (Zm 4 Z5) fun v11=>?_;refine cV (cA call82 (Dd (Yt t) hfn)) ?_;refine Wg ?_ ?_<;>intro hb13
 . (
 refine Zi ?_;refine xM (ZA GQ) ?_;refine Zn 2 Z5 ?_;refine ZD ?_;refine ZN (k:=3) 2 results83 ?_;rw [show TW t=(JA,5) by unfold TW;rw [Qd hv,Qc (by simpa using hb13)]];rfl)
 refine Zi ?_;refine yU (Zm 4 Z5) fun v15=>?_;refine Zn 2 Z5 ?_;refine ZD ?_;refine ZN (k:=3) 2 results83 ?_;rw [show TW t=(pTr (Yt t),0) by unfold TW;rw [Qd hv,Qd (by simpa using hb13)]];rfl
def Zfh (t:Nd):Nd:=if Gp t=true then (if Gp (Yt t)=true then Yt t else nd0) else nd0
def PR {p q:PV} {r:PV} (h:Rr p q):Rr (.tup [p,r]) (.tup [q,r]):=Rr.tup rfl fun i a b ha hb=>by
 match i with
 |0=>cases ha;cases hb;exact h
 |1=>cases ha;cases hb;exact Rr.rfl' _
 |i+2=>simp at ha
def Zqk (t:Nd):Rr (TW t).1 (pTr (Zfh t)):=by
 unfold TW Zfh
 split
 . split
   . exact Rr.rfl' _
   exact Lh
 exact Lh
def Zql (t:Nd):shD (.tup [(TW t).1,Zb (TW t).2])=true:=by
 unfold TW
 split
 . split<;>rfl
 rfl
def ZnK {t:Nd} (hf:FitT t):FitT (Zfh t):=by
 unfold Zfh
 split
 . rename_i h;split
   . exact Sk (ζ0 h) (by have:=ζ1 h;omega)
   exact TI
 exact TI
end Go.Proofs.YtmkojdfiadbeeaaGreat
namespace Go.En
open Go.RowKit Go.Cb Go.WideShapes Go.ChangeShapes Go.ChangeAt Go.Deep
def OH {H:Type} (P:Program) (e:TypeId) {d:DataW H} {n:Nat}:∀{l:List (DataW H)},d∈l->n∈d.weights P e->n∈DataW.weightsAll P e l
 | x::l,h,hn=>by
   rw [DataW.weightsAll,XD];rcases Xi.1 h with rfl|h
   . exact .inl hn
   exact .inr (OH P e h hn)
def J9 {H:Type} (P:Program) {d:DataW H} {t:TypeId} {n:Nat}:∀{ts:List TypeId} {l:List (DataW H)} (i:Nat),ts[i]? =some t->l[i]? =some d->n∈d.weights P t->n∈DataW.weightsEach P ts l
 | t'::ts,x::l,0,h1,h2,hn=>by
   simp at h1 h2;subst h1 h2;rw [DataW.weightsEach,XD];exact .inl hn
 | t'::ts,x::l,i+1,h1,h2,hn=>by
   rw [DataW.weightsEach,XD];exact .inr (J9 P i (by simpa using h1) (by simpa using h2) hn)
structure Dec (P:Program) (t:TypeId) (k:Nat) {α:Type} (enc:α->List PV) (fit:α->Prop):Prop where
 size:P.cellsOf t=k
 len:∀a,(enc a).length=k
 dec:∀{H:Type} (e:TypeId×Value->H) (w:World) (spare:Nat->Bool) (held:Bool) (fuel:Nat) (cs:List Value) (x:DataW H×List MemPlace),DataW.trod e P w 0 spare held fuel t cs=some x->(∀n∈x.1.weights P t,n<=reachBytes)->
  ∃a,fit a/\cs.length=k/\∀(i:Nat) (v:Value) (p:PV),cs[i]? =some v->(enc a)[i]? =some p->Shr (fun _=>False) w v p
section
variable {P:Program} {t:TypeId}
def Zal {v u:Value} {p q:PV} {w:World} (h:Shr (fun _=>False) w v p) (i:Nat) (h1:[v][i]? =some u) (h2:[p][i]? =some q):Shr (fun _=>False) w u q:=by
 cases i with
 |zero=>simp at h1 h2;subst h1 h2;exact h
 |succ i=>simp at h1
def Zqm (ht:P.underlying t=some (.int .i64)) (hs:P.cellsOf t=1):Dec P t 1 (fun n:Int=>[Zb n]) (fun n=> -9223372036854775808<=n/\n<=9223372036854775807) where
 size:=hs
 len:=fun _=>rfl
 dec:=fun e w spare held fuel cs x h=>by
  intro hwt;obtain ⟨n,rfl,_,hw⟩:=DataW.trod_int ht h;refine ⟨n,?_,rfl,fun i v p h1 h2=>Zal (.val _) i h1 h2⟩;simpa [Lit.wf,IntKind.min,IntKind.max,IntKind.signed,IntKind.bits] using hw
def Zqn (ht:P.underlying t=some .string) (hs:P.cellsOf t=1):Dec P t 1 (fun s:BA=>[Zx s]) (fun s=>s.size<=140737488355328) where
 size:=hs
 len:=fun _=>rfl
 dec:=fun e w spare held fuel cs x h=>by
  intro hwt;obtain ⟨s,rfl,rfl,hw⟩:=DataW.trod_string ht h;have hsz:s.size<=reachBytes:=hwt s.size (by show s.size∈DataW.weights P t (.lit (.string s.data.toList));rw [DataW.weights];exact XE.2 (by rw [Va];rfl));exact ⟨s,by unfold reachBytes at hsz;omega,rfl,fun i v p h1 h2=>Zal (.val _) i h1 h2⟩
def Zcd {α:Type} {e k:Nat} {enc:α->List PV} {fit:α->Prop} (ht:P.underlying t=some (.slice e)) (hs:P.cellsOf t=1) (hk:0<k) (hby:0<P.bytesOf e) (D:Dec P e k enc fit):
 Dec P t 1 (fun l:List α=>[PV.sl l.length (l.flatMap enc)]) (fun l=>l.length<=140737488355328/\∀x∈l,fit x) where
 size:=hs
 len:=fun _=>rfl
 dec := fun en w spare held fuel cs x h=>by
  intro hwt;rcases open_slice ht h with ⟨rfl,_⟩|⟨a,len,cap,m,n,Dt,Pl,rfl,_,hl,hm,hmm,rfl,hx⟩
  . exact ⟨[],⟨sM,sM⟩,rfl,fun i v p h1 h2=>Zal (.emp none 0 (by unfold maxLen;omega) (fun _=>rfl)) i h1 h2⟩
  rcases V1 len with h0|h0
  . subst h0;exact ⟨[],⟨sM,sM⟩,rfl,fun i v p h1 h2=>Zal (.emp (some a) cap hm (fun h=>by cases h)) i h1 h2⟩
  (have hlm:len<=m:=by rw [hmm];split<;>omega);simp only [DataW.weights,ht] at hwt;have hlen:len<=reachBytes:=by
   have:=hwt _ (Xu ..);simp only [Xc,VP] at this;exact XI (XI (Ub len _) (Nat.le_mul_of_pos_right _ hby)) this
  have hwi:∀i,i<len->∀n∈(Dt i).weights P e,n<=reachBytes:=fun i hi n hn=>hwt n (Xt _ (XD.2 (.inl (OH P e (Xp.2 ⟨i,by simpa using hi,rfl⟩) hn))));have key:∀i:Nat,∃(y:α×(Nat->Value)),i<len->fit y.1/\∀(j:Nat) (p:PV),(enc y.1)[j]? =some p->w.cell? ((a.add (i*k)).add j)=some (y.2 j)/\Shr (fun _=>False) w (y.2 j) p:=fun i=>by
   obtain ⟨cs0,h10,h20⟩:=hx 0 oM;obtain ⟨y0,_⟩:=D.dec en w spare held n cs0 _ h20 (hwi 0 h0);by_cases hi:i<len
   . obtain ⟨cs',h1,h2⟩:=hx i oM;rw [D.size] at h1;obtain ⟨_,hlen,hcell⟩:=World.cells?_some h1;obtain ⟨y,hy,_,hS⟩:=D.dec en w spare held n cs' _ h2 (hwi i hi);refine ⟨(y,fun j=>(cs'[j]?).getD undef),fun _=>⟨hy,fun j p hp=>?_⟩⟩;(have hj:j<k:=by rw [<-D.len y];exact Zd hp);obtain ⟨u,hu⟩:=YV (show j<cs'.length by omega);have:=hcell j hj;simp only [hu,Uk];exact ⟨by rw [this,hu],hS j u p hu hp⟩
   exact ⟨(y0,fun _=>undef),fun h=>Qe h hi⟩
  obtain ⟨Y,hY⟩:=Classical.skolem.1 key;have hspot:∃b off,a=⟨b,off,none⟩:=by
   obtain ⟨hf,hc⟩:=hY 0 h0;obtain ⟨p,hp⟩:=YV (show 0<(enc (Y 0).1).length by rw [D.len];exact hk);have:=(hc 0 p hp).1;obtain ⟨b,off,spot⟩:=a;(have hspot:spot=none:=by simpa [Addr.add] using World.cell?_spot this);subst hspot;exact ⟨b,off,rfl⟩
  obtain ⟨b,off,rfl⟩:=hspot;have hflen:((List.range len).map fun i=>(Y i).1).length=len:=sM;refine ⟨(List.range len).map fun i=>(Y i).1,⟨by rw [hflen];unfold reachBytes at hlen;omega,fun x hx=>?_⟩,rfl,fun i v p h1 h2=>Zal ?_ i h1 h2⟩
  . obtain ⟨i,hi,rfl⟩:=Xp.1 hx;exact (hY i (by simpa using hi)).1
  rw [hflen];have hat:∀(c:Nat) (p:PV),(((List.range len).map fun i=>(Y i).1).flatMap enc)[c]? =some p->c / k<len/\(enc (Y (c / k)).1)[c % k]? =some p:=fun c p hp=>by
   (have hc:c<len*k:=by have:=Zd hp;rw [Z1 D.len,hflen] at this;exact this);have hq:c / k<len:=Nat.div_lt_of_lt_mul (by rw [VH];exact hc);(have hget:((List.range len).map fun i=>(Y i).1)[c / k]? =some (Y (c / k)).1:=by simp [hq]);have:=Yr D.len hget (V0 c hk);rw [VH,Uo] at this;exact ⟨hq,by rw [<-this];exact hp⟩
  refine .sl b off len cap _ (fun c=>(Y (c / k)).2 (c % k)) hl hm (fun c hc=>⟨?_,fun h=>h⟩) (fun c p hp=>?_)
  . obtain ⟨p,hp⟩:=YV hc;obtain ⟨hq,hp'⟩:=hat c p hp;have:=((hY (c / k) hq).2 (c % k) p hp').1;rw [Kk,Kk,Vy,VH,Uo] at this;exact this
  obtain ⟨hq,hp'⟩:=hat c p hp;exact ((hY (c / k) hq).2 (c % k) p hp').2
def Zce {H:Type} {α:Type} {e k o:Nat} {enc:α->List PV} {fit:α->Prop} (D:Dec P e k enc fit) {en:TypeId×Value->H} {w:World} {spare:Nat->Bool} {held:Bool} {n:Nat} {cs:List Value} {y:DataW H×List MemPlace}
 (h:DataW.trod en P w 0 spare held n e ((cs.drop o).take (P.cellsOf e))=some y) (hwt:∀n∈y.1.weights P e,n<=reachBytes):∃a,fit a/\∀(i:Nat) (v:Value) (p:PV),cs[o+i]? =some v->(enc a)[i]? =some p->Shr (fun _=>False) w v p:=by
 obtain ⟨a,h1,_,h3⟩:=D.dec en w spare held n _ y h hwt
 refine ⟨a,h1,fun i v p hv hp=>h3 i v p ?_ hp⟩
 have hi:i<k:=by rw [<-D.len a];exact Zd hp
 rw [D.size,X1 hi,Vn];exact hv
def ζm {α β:Type} {k:Nat} {enc:α->List PV} {enc':β->List PV} {fit:α->Prop} {fit':β->Prop} (g:α->β) (D:Dec P t k enc fit) (hl:∀b,(enc' b).length=k) (he:∀a,enc' (g a)=enc a) (h:∀a,fit a->fit' (g a)):Dec P t k enc' fit':=
 ⟨D.size,hl,fun e w s hd f cs x hx hy=>let ⟨a,h1,h2,h3⟩:=D.dec e w s hd f cs x hx hy;⟨g a,h a h1,h2,by rw [he];exact h3⟩⟩
def ZnL {cs:List Value} {A B:List PV} {k:Nat} {w:World} (hA:A.length=k) (h1:∀(i:Nat) (v:Value) (p:PV),cs[i]? =some v->A[i]? =some p->Shr (fun _=>False) w v p)
 (h2:∀(i:Nat) (v:Value) (p:PV),cs[k+i]? =some v->B[i]? =some p->Shr (fun _=>False) w v p) (i:Nat) (v:Value) (p:PV) (hv:cs[i]? =some v) (hp:(A++B)[i]? =some p):Shr (fun _=>False) w v p:=by
 rcases XL i k with h|h
 . rw [Vo oM] at hp;exact h1 i v p hv hp
 rw [Vp oM] at hp;exact h2 (i-k) v p (by rw [Nat.add_sub_cancel' h];exact hv) (by rw [<-hA];exact hp)
def CI {α β:Type} {f0 f1:Field} {k0 k1:Nat} {enc0:α->List PV} {enc1:β->List PV} {fit0:α->Prop} {fit1:β->Prop} (ht:P.underlying t=some (.struct #[f0,f1])) (hs:P.cellsOf t=k0+k1)
 (D0:Dec P f0.type k0 enc0 fit0) (D1:Dec P f1.type k1 enc1 fit1) (ho0:f0.offset=0) (ho1:f1.offset=k0):Dec P t (k0+k1) (fun x:α×β=>enc0 x.1++enc1 x.2) (fun x=>fit0 x.1/\fit1 x.2) where
 size:=hs
 len:=fun x=>by rw [Xe,D0.len,D1.len]
 dec:=fun e w spare held fuel cs x h=>by
  intro hwt;obtain ⟨xs,n,_,rfl,hlen,hxl,hf⟩:=DataW.trod_struct ht h;simp only [DataW.weights,ht] at hwt;have g0:=hf 0 f0 rfl;have g1:=hf 1 f1 rfl;match xs,hxl with
  |[y0,y1],_=>
  rw [ho0] at g0;rw [ho1] at g1;obtain ⟨a,ha,A⟩:=Zce D0 g0 (fun n hn=>hwt n (J9 P 0 sM sM hn));obtain ⟨b,hb,B⟩:=Zce D1 g1 (fun n hn=>hwt n (J9 P 1 sM sM hn));refine ⟨(a,b),⟨ha,hb⟩,by rw [hlen,hs],ZnL (D0.len a) (fun i v p hv hp=>A i v p (by rw [XC];exact hv) hp) B⟩
section
variable {H:Type} {en:TypeId×Value->H} {w:World} {spare:Nat->Bool} {held:Bool} {r:Reach} {base:Nat} {v:Value} {d:DataW H} {ps:List MemPlace}
def Zhe (hT:NoAgg P t=true) (h:Value.okWide P w r base t v):v.cells= #[v]:=by
 unfold NoAgg at hT
 unfold Value.okWide at h
 cases v<;>first|rfl|skip
 rename_i cs
 exfalso
 cases hu:P.underlying t with
 |none=>rw [hu] at hT;simp at hT
 | some dd=>
   rw [hu] at hT h
   cases dd<;>simp_all [Cell.okWide,Cell.ok]
def ZtB {α:Type} {f:α->PV} {fit:α->Prop} (D:Dec P t 1 (fun a=>[f a]) fit) (hT:NoAgg P t=true) (hv:Value.okWide P w r base t v) (h:DataW.Trod en P w 0 spare held t v d ps) (hwt:∀n∈d.weights P t,n<=reachBytes):∃a,fit a/\Shr (fun _=>False) w v (f a):=by
 obtain ⟨fuel,hf⟩:=h
 rw [Zhe hT hv] at hf
 obtain ⟨a,h1,_,h3⟩:=D.dec en w spare held fuel _ _ hf hwt
 exact ⟨a,h1,h3 0 v (f a) rfl rfl⟩
def ZtC {α:Type} {k:Nat} {enc:α->List PV} {fit:α->Prop} (D:Dec P t k enc fit) (hT:Zs4 P t=true) (hv:Value.okWide P w r base t v) (h:DataW.Trod en P w 0 spare held t v d ps) (hwt:∀n∈d.weights P t,n<=reachBytes):∃a,fit a/\Shr (fun _=>False) w v (.agg (enc a)):=by
 obtain ⟨fuel,hf⟩:=h
 have:∃fs,P.underlying t=some (.struct fs):=by
  unfold Zs4 at hT;split at hT
  . rename_i fs hfs;exact ⟨fs,hfs⟩
  cases hT
 obtain ⟨fs,hfs⟩:=this
 obtain ⟨cs,rfl,hsz⟩:=okWide_struct hfs hv
 obtain ⟨a,h1,h2,h3⟩:=D.dec en w spare held fuel _ _ hf hwt
 refine ⟨a,h1,?_⟩
 have:=Shr.agg (M:=fun _=>False) (w:=w) cs.toList (enc a) (by rw [D.len a];exact h2) h3
 simpa using this
end
def HZ {H:Type} {enc:TypeId×Value->H} {P:Program} (hl:laidOutB P=true) {W W':World} (hb:Below W.heap.size W W'):∀{ts:List TypeId} {vs:List Value} {ds:List (DataW H)} {ps:List MemPlace},(ts.all fun t=>P.readableRec t&&decide (t<P.types.size))=true->
 DataW.TrodAll enc P W 0 (fun _=>true) true ts vs ds ps->DataW.TrodAll enc P W' 0 (fun b=>decide (b<W.heap.size)) true ts vs ds ps
 |[],[],[],ps,_,h=>h
 | t::ts,v::vs,d::ds,ps,ht,⟨p,q,h1,h2,h3⟩=>by
   rw [UC,Xf,Xf] at ht;refine ⟨p,q,Below.trod hl ht.1.1 (Qf ht.1.2) h1 hb ?_,HZ hl hb ht.2 h2,h3⟩;obtain ⟨m,hm⟩:=h1;exact DataW.trod_lt m _ _ _ hm
def AF.law {P:Program} {f:FuncId} {ps:List PV} (hA:AF P f ps (· = .val (.bool true))) {W:World} {vs:List Value} (hl:vs.length=ps.length) (hv:∀(i:Nat) (v:Value) (p:PV),vs[i]? =some v->ps[i]? =some p->Shr (fun _=>False) W v p) (hT:TabW W (fun _=>False) (fun _=>False)) (hE:ErrW W (fun _=>False) (fun _=>False):=by intro g hg;cases hg):
 Calls P f vs.toArray W fun e w'=>e= .returned (.bool true)/\Below W.heap.size W w':=
 (hA (fun _=>False) W vs ⟨fun _ h=>h.elim,fun _=>hT,fun _=>hE⟩ hl hv).mono fun e w' ⟨v,p,F,h1,h2,h3,h4,_⟩=>by
   subst h2;have:=(h4.sh rfl).vOf;subst this;exact ⟨h1,h3⟩
end
section
variable {P:Program} {t:TypeId}
end
open Go.RowKit Go.Cb
section
variable {sL hP:List (Nat×Ent)}
end
open Go.RowKit Go.Cb Go.Proofs Go.Sort Go.ChangeShapes Go.WideShapes Go.ChangeAt
section
variable {P:Program} {c:Ctx} {ops:Array Oper} {Q:Exit->Act->World->Prop} {rest:List Oper} {sL hP:List (Nat×Ent)} {o:Oper}
end
section
variable {P:Program} {c:Ctx} {ops:Array Oper} {Q:Exit->Act->World->Prop} {rest:List Oper} {st:St} {sL hP:List (Nat×Ent)} {o:Oper} {Z:Nat->Bool} {K:List Nat} {fuel:Nat} {listed:Array Bool}
def Zfi {i d:Nat} {p1 p2:PV} (ho:ops[i]? =some o) (hC:LV P c (⟨sL,hP⟩:St) o (· = .tup [p1,p2])) (k:∀v1 v2,vOf p1 v1->vOf p2 v2->aD P c ops Q Z K fuel (listed.setIfInBounds i true) ⟨put d (.tuple [v1,v2].toArray, .tup [p1,p2]) sL,hP⟩) (hsh:shD (.tup [p1,p2])=true:=by exact rfl) (hw:Yb ops sL o=some true:=by exact rfl) (hd:o.dst=some d:=by exact rfl) (hn:d<c.nt:=by exact Xa rfl):aW P c ops Q Z K fuel listed (⟨sL,hP⟩:St) i:=fun a w F H C hC'=>by
 refine GL (Q':=fun _ a' w'=>(Z i=true\/C w')/\Go.En.wpAnyS P .any ops Q C Z fuel (listed.setIfInBounds i true) a' w') ho (fun a' w' hq=>hq) ?_
 have h1:=LA H.rd hw
 unfold wpList
 rw [h1,Qd rfl]
 refine .inl ?_
 obtain ⟨f,args,hr,hcall⟩:=hC a w F H
 unfold Oper.wp
 rw [hr,Oper.upon_enter]
 refine hcall.mono fun e w' ⟨v,q,Fr,e1,e2,e3,e4,e5,e6⟩=>?_
 subst e1
 rw [show q= .tup [p1,p2] from e2] at e4
 have hS:=e4.shD hsh
 have hS':Shr (mof c hP F) w' v (.tup [p1,p2]):=hS.anti fun b _ h=> .inl h
 have hch:Chg (nK K hP F) w w':=e3.chg
 cases hS with
 | tup vs ps hl h=>
   match vs,hl,h,hS' with
   | [v1,v2],_,h,hS'=>
     have H2:HoldsF c ⟨put d (.tuple [v1,v2].toArray, .tup [p1,p2]) sL,hP⟩ F (a.put (some d) (.tuple [v1,v2].toArray)) w':=D2 H e3 hn hS';simp only [Oper.upon,hd];exact ⟨.inr (hC' w' hch),k v1 v2 (h 0 v1 p1 rfl rfl).vOf (h 1 v2 p2 rfl rfl).vOf _ w' F H2 C fun W hW=>hC' W (hch.tr hW fun b hb=> .inl hb)⟩
end
end Go.En
namespace Go.Proofs.YtmkojdfiadbeeaaGreat
open Go.RowKit Go.Cb Go.En Tryz
def Zj:AggT prog 51 3=true:=kR
def YB:Gk prog 51=some ((.agg #[(.int .i64 0),(.string ByteArray.empty),(.slice none 0 0)]),([0,1,2]:List Nat).map fun o=>(o,1)):=kR
def Yh:ZeroT prog 51 (.agg #[(.int .i64 0),(.string ByteArray.empty),(.slice none 0 0)]):=by unfold ZeroT;kernel_rfl
def WT (o:Int) (l:List Nd):Nd:= .mk o ByteArray.empty l
def lf (s:BA):Nd:= .mk 1 s []
def sil:Nd:=WT 2 []
def Zcf (acts:List BA):Nd:=match acts with
 |[s]=>WT 6 [lf s,sil]
 |l=>WT 6 [WT 4 (l.map lf),sil]
def Zam {l:List BA} (h:l.length≠1):Zcf l=WT 6 [WT 4 (l.map lf),sil]:=by
 match l with
 |[]=>rfl
 |[s]=>simp at h
 |_::_::_=>rfl
def ζn (o:Int) (a:BA):Rr (.agg [Zb o,Zx a, .val (.slice none 0 0)]) (pTr (.mk o a [])):=Rr.agg rfl fun i x y ha hb=>by
 match i with
 |0=>cases ha;cases hb;exact Rr.rfl' _
 |1=>cases ha;cases hb;exact Rr.rfl' _
 |2=>cases ha;cases hb;exact Rr.nil
 |i+3=>simp at ha
def GB (x y:Nd):PV.sl 2 [Zb x.op,Zx x.act,YJ x.l,Zb y.op,Zx y.act,YJ y.l]=YJ [x,y]:=by
 show PV.sl 2 (cN x++(cN y++[]))=PV.sl 2 (Z9 [x,y])
 rw [W5];rfl
def TJ (o:Int) (l:List Nd):AF prog 120 [Zb o,YJ l] (· =pTr (WT o l)):=by
 refine AF.b2 8 func120 rfl ntmps120 (Xa rfl) ?_
 rintro w0 M0 _ v1 rfl-
 refine Zi ?_
 refine Zt zT 3 4 Yh fun h4=>?_;refine YT ?_
 refine xL 5 Za (xL 6 Za (xL 7 (ZA YB) ?_));refine Zn 4 Zj ?_;refine ZZ ?_
 exact Yp (k:=3) 4 results120 rfl
def Zqo (s:BA):AF prog 131 [Zx s] (· = .agg [Zb 1,Zx s, .val (.slice none 0 0)]):=by
 refine AF.b1 5 func131 rfl ntmps131 (Xa rfl) ?_
 rintro w0 M0 _ rfl
 refine Zi ?_
 refine Zt zT 3 2 Yh fun h2=>?_;refine YT ?_
 refine xL 3 Za (xL 4 (ZA YB) ?_);refine Zn 2 Zj ?_;refine ZZ ?_
 exact Yp (k:=3) 2 results131 rfl
def ZiX (s:BA):AF prog 131 [Zx s] (· =pTr (lf s)):=(Zqo s).reread rfl (ζn 1 s)
def ZkN:AF prog 121 [] (· = .agg [Zb 2,Zx ByteArray.empty, .val (.slice none 0 0)]):=by
 refine AF.of_body 2 func121 rfl ntmps121 (Xa rfl) ?_
 intro w0 M0 vs hl hv
 obtain rfl:=Xv hl
 clear hl hv
 refine Zi ?_
 refine Zt zT 3 0 Yh fun h0=>?_;refine YT ?_
 refine xM (ZA YB) ?_;refine Zn 0 Zj ?_;refine ZZ ?_
 exact Yp (k:=3) 0 results121 rfl
def Pf:AF prog 121 [] (· =pTr sil):=ZkN.reread rfl (ζn 2 _)
def Zfj:AF prog 90 [] (· = .agg [Zb 2,Zx ByteArray.empty, .val (.slice none 0 0)]):=by
 refine AF.of_body 2 func90 rfl ntmps90 (Xa rfl) ?_
 intro w0 M0 vs hl hv
 obtain rfl:=Xv hl
 clear hl hv
 refine Zi ?_
 refine Zt zT 3 0 Yh fun h0=>?_;refine YT ?_
 refine xM (ZA YB) ?_;refine Zn 0 Zj ?_;refine ZZ ?_
 exact Yp (k:=3) 0 results90 rfl
def TY:AF prog 90 [] (· =pTr sil):=Zfj.reread rfl (ζn 2 _)
def ZnM (s:BA):AF prog 91 [Zx s] (· = .agg [Zb 1,Zx s, .val (.slice none 0 0)]):=by
 refine AF.b1 5 func91 rfl ntmps91 (Xa rfl) ?_
 rintro w0 M0 _ rfl
 refine Zi ?_
 refine Zt zT 3 2 Yh fun h2=>?_;refine YT ?_
 refine xL 3 Za (xL 4 (ZA YB) ?_);refine Zn 2 Zj ?_;refine ZZ ?_
 exact Yp (k:=3) 2 results91 rfl
def Zan (s:BA):AF prog 91 [Zx s] (· =pTr (lf s)):=(ZnM s).reread rfl (ζn 1 s)
def Kf:ElT prog 49 51 3 48 (.agg #[(.int .i64 0),(.string ByteArray.empty),(.slice none 0 0)]):=⟨underlying49,by kernel_rfl,rfl,dC⟩
def TZ:FldT prog 51 2 2=true:=kR
def Pg:NoAgg prog 49=true:=kR
def K8:SlT prog 49 51 3=true:=kR
def ZkO:(prog.info? 49).map (·.size)=some 1:=kR
def ZnN (l:List BA) (k:Nat) {x:BA} (hx:l[k]? =some x):((l.take k).map lf).flatMap cN++cN (lf x)=((l.take (k+1)).map lf).flatMap cN:=by
 rw [ZR hx,XX,XR];simp
def ZnO (l:List BA) (k:Nat) (h:k<=l.length):(((l.take k).map lf).flatMap cN).length=k*3:=by
 rw [Z1 RL,Xc,XA,Vb h]
def ZkP (l:List BA) (hl:l.length<=1000000):AF prog 87 [ZX l] (· =pTr (Zcf l)):=by
 refine AF.b1 32 func87 rfl ntmps87 (Xa rfl) fun w0 M0 v0 _=>?_
 refine Zi ?_
 refine Zt zT 3 2 Yh fun h2=>?_;refine YT ?_;refine ZW ?_
 refine xL 6 Za (xL 7 (Zu Zo) (xL 8 Za ?_));refine ZZ ?_
 refine Zs (YO 200 51 3 rfl) fun _=>?_
 refine Yl (ι:={x:Nat×Value//x.1<=l.length}) (fun k=>⟨[(2,_,_),(6,_,_),(7,_,_),(3,k.1.2, .val k.1.2),(8, .int .i64 k.1.1,Zb k.1.1)],[(2,_,_),(200,k.1.2, .own 51 3 k.1.1 (((l.take k.1.1).map lf).flatMap cN))]⟩) (fun k=>l.length-k.1.1) ⟨(0, .slice none 0 0),oM⟩ ?_
 rintro ⟨⟨k,h3⟩,hk⟩
 dsimp only
 dsimp only at hk
 refine Ys ?_ ?_<;>intro hb9
 . (
 obtain ⟨x,hx⟩:=gS l k;have e1:=Yf (f:=Zx) hx;have e3:=ZnO l k hk;refine Zi ?_;refine xM (Ze Zo) ?_;refine yV (Zw ZE) ?_;refine ZW ?_;refine YW ?_;refine cD (cA call131 (ZiX x)) fun v14 hv14=>?_;clear hv14;refine Wy 15 Kf fun h15 ho15=>?_;refine Y7 200 15 16 Kf fun h16 ho16=>?_;refine J1 ?_;refine ZJ (ZK (l:=16) 200 rfl rfl) fun _=>?_;rw [show ((l.take k).map lf).flatMap cN++_=((l.take (k+1)).map lf).flatMap cN from ZnN l k hx];refine Yk (
  ⟨(k+1,h16),by show k+1<=l.length;omega⟩
  ))
 obtain rfl:k=l.length:=oM;rw [Xx];refine nav ?_;refine Zs (En.freeze (l:=200) (t:=3) rfl rfl) fun _=>?_;rw [<-W5,JK _ _ _ (by rw [Xc])];refine Zp ?_;refine xL 18 Za (xL 19 (Zu K8) (xL 20 Jb ?_));refine ZC ?_ ?_<;>intro hb20
 . (
 obtain ⟨x,rfl⟩:∃x,l=[x]:=Uf.1 (by have:=hb20;rw [Xc] at this;omega);have e1:((Z9 ([x].map lf)).drop (0*3)).take 3=cN (lf x):=rfl;have e2:0<([x].map lf).length:=Vi;refine nav ?_;refine Yx [] [] ?_<;>refine gDx 0 ?_<;>refine xD 1 rfl (Ze K8) ?_<;>(refine yD 2 rfl (We Zj) fun v23 h=>?_;cases h)<;>(refine ZY 3 kR ?_)<;>(refine Ym (d:=24) rfl (cA call121 Pf) fun v24 h=>?_;cases h)<;>(refine aDr 4 fun bk=>?_)<;>(refine J5 (kk:=3) (xs:=[_,_]) (cs:=[[_,_,_],[_,_,_]]) 25 Kf fun h25 ho25=>?_;refine Zz (En.freeze (l:=25) (t:=25) rfl rfl) fun _=>?_;refine Zz (Ki (t:=25) (p':=YJ [lf x,sil]) rfl (Eq.trans (show _=PV.sl 2 ([lf x,sil].flatMap cN) from rfl) (GB (lf x) sil))) fun _=>?_)<;>refine bE bk ?_<;>(refine ZY 5 kR ?_)<;>(refine Ym (d:=26) rfl (cA call120 (TJ 6 [lf x,sil])) fun v26 h=>?_;cases h)<;>(refine aDr 6 fun bk=>?_)<;>refine Zn 2 Zj ?_<;>refine bE bk ?_<;>refine Wo ?_;refine Yp (k:=3) 2 results87 ?_;rfl)
 refine Wp ?_;refine cD (cA call120 (TJ 4 (l.map lf))) fun v28 hv28=>?_;clear hv28;refine cD (cA call121 Pf) fun v29 hv29=>?_;clear hv29;refine J5 (kk:=3) (xs:=[_,_]) (cs:=[[_,_,_],[_,_,_]]) 30 Kf fun h30 ho30=>?_;refine Zz (En.freeze (l:=30) (t:=30) rfl rfl) fun _=>?_;refine Zz (Ki (t:=30) (p':=YJ [WT 4 (l.map lf),sil]) rfl (Eq.trans (show _=PV.sl 2 ([WT 4 (l.map lf),sil].flatMap cN) from rfl) (GB (WT 4 (l.map lf)) sil))) fun _=>?_;refine cD (cA call120 (TJ 6 [WT 4 (l.map lf),sil])) fun v31 hv31=>?_;clear hv31;refine Zn 2 Zj ?_;refine ZZ ?_;refine Yp (k:=3) 2 results87 ?_;rw [Zam (by have:=hb20;rw [Xc] at this;omega)];rfl
def Zfk (l:List BA) (hl:l.length<=1000000):AF prog 34 [ZX l] (· =pTr (Zcf l)):=by
 refine AF.b1 36 func34 rfl ntmps34 (Xa rfl) fun w0 M0 v0 _=>?_
 refine Zi ?_
 refine Zt zT 3 2 Yh fun h2=>?_;refine YT ?_
 refine xL 5 Za (xL 6 (Zu Zo) (xL 7 Jb ?_));refine ZC ?_ ?_<;>intro hb7
 . (
 obtain ⟨x,rfl⟩:∃x,l=[x]:=Uf.1 oM;have e1:([x].map Zx)[0]? =some (Zx x):=rfl;have e2:0<[x].length:=Vi;refine Zi ?_;refine xL 8 Za (xL 9 (Ze Zo) ?_);refine yV (Zw ZE) ?_;refine cD (cA call91 (Zan x)) fun v11 hv11=>?_;clear hv11;refine cD (cA call90 TY) fun v12 hv12=>?_;clear hv12;refine J5 (kk:=3) (xs:=[_,_]) (cs:=[[_,_,_],[_,_,_]]) 13 Kf fun h13 ho13=>?_;refine Zz (En.freeze (l:=13) (t:=13) rfl rfl) fun _=>?_;refine Zz (Ki (t:=13) (p':=YJ [lf x,sil]) rfl (Eq.trans (show _=PV.sl 2 ([lf x,sil].flatMap cN) from rfl) (GB (lf x) sil))) fun _=>?_;refine xM (ZA YB) ?_;refine Zn 2 Zj ?_;refine ZZ ?_;refine Yp (k:=3) 2 results34 ?_;rfl)
 refine Zi ?_;refine xM (ZA YB) ?_;refine Zt zT 3 3 Yh fun h3=>?_;refine Zn 3 Zj ?_;refine YT ?_;refine ZD ?_;refine Zs (YO 200 51 3 rfl) fun _=>?_;refine Yl (ι:={x:Nat×Value//x.1<=l.length}) (fun k=>⟨[(0,_,_),(2,_,_),(3,_,_),(4, .int .i64 k.1.1,Zb k.1.1)],[(2,_,_),(3,h3, .own 51 3 1 [Zb 4,Zx ByteArray.empty, .val k.1.2]),(200,k.1.2, .own 51 3 k.1.1 (((l.take k.1.1).map lf).flatMap cN))]⟩) (fun k=>l.length-k.1.1) ⟨(0, .slice none 0 0),oM⟩ ?_;rintro ⟨⟨k,h33⟩,hk⟩;dsimp only;dsimp only at hk;refine Zi ?_;refine xL 16 Za (xL 17 Za (xL 18 (Zu Zo) (xL 19 Yn ?_)));refine ZC ?_ ?_<;>intro hb19
 . (
 obtain ⟨x,hx⟩:=gS l k;have e1:=Yf (f:=Zx) hx;have e3:=ZnO l k hk;refine nav ?_;(refine Yx [10] [3] ?_<;>refine xD 0 rfl (Zc 3 TZ) ?_<;>(refine yD 1 rfl (Zf 3 Pg) fun v23 h=>?_;cases h)<;>refine gDx 2 ?_<;>refine gEx 3 ?_<;>refine xE 4 rfl (Ze Zo) ?_<;>(refine yE 5 rfl (Zw ZE) fun v27 h=>?_;cases h)<;>(refine ZY 6 kR ?_)<;>(refine Ym (d:=28) rfl (cA call91 (Zan x)) fun v28 h=>?_;cases h)<;>(refine aDr 7 fun bk=>?_)<;>refine Wy 29 Kf fun h29 ho29=>?_<;>refine bE bk ?_<;>(refine aDr 8 fun bk=>?_)<;>refine Y7 200 29 30 Kf fun h30 ho30=>?_<;>refine bE bk ?_<;>refine xE 9 rfl (Zc 3 TZ) ?_<;>(refine ZY 10 kR ?_)<;>(refine Wx rfl rfl kR fun DQ bk=>?_)<;>refine JY 3 Pg ZkO ?_<;>refine WC (bk _ (nav ?_))<;>try dsimp only)
 refine G8 ?_;refine ZJ (ZK (l:=30) 200 rfl rfl) fun _=>?_;rw [show ((l.take k).map lf).flatMap cN++_=((l.take (k+1)).map lf).flatMap cN from ZnN l k hx];refine Yk (
  ⟨(k+1,h30),by show k+1<=l.length;omega⟩
  ))
 obtain rfl:k=l.length:=oM;rw [Xx];refine nav ?_;refine Zs (YD (l:=3) (l':=200) (j:=2) rfl rfl rfl rfl) fun _=>?_;rw [<-W5,JK _ _ _ (by rw [Xc])];refine Yx [] [3] ?_<;>(refine yD 0 rfl (Zm 3 Zj) fun v32 h=>?_;cases h)<;>(refine ZY 1 kR ?_)<;>(refine Ym (d:=33) rfl (cA call90 TY) fun v33 h=>?_;cases h)<;>(refine aDr 2 fun bk=>?_)<;>(refine J5 (kk:=3) (xs:=[_,_]) (cs:=[[_,_,_],[_,_,_]]) 34 Kf fun h34 ho34=>?_;refine Zz (En.freeze (l:=34) (t:=34) rfl rfl) fun _=>?_;refine Zz (Ki (t:=34) (p':=YJ [WT 4 (l.map lf),sil]) rfl (Eq.trans (show _=PV.sl 2 ([WT 4 (l.map lf),sil].flatMap cN) from rfl) (GB (WT 4 (l.map lf)) sil))) fun _=>?_)<;>refine bE bk ?_<;>refine xE 3 rfl (ZA YB) ?_<;>(refine aDr 4 fun bk=>?_)<;>refine Zn 2 Zj ?_<;>refine bE bk ?_<;>refine Wo ?_;refine Yp (k:=3) 2 results34 ?_;rw [Zam oM];rfl
def LH:AggT prog 136 3=true:=kR
def Zhf:ElT prog 190 31 1 24 (.slice none 0 0):=⟨underlying190,by kernel_rfl,rfl,dC⟩
def YX:ElT prog 26 9 1 16 (.string ByteArray.empty):=⟨underlying26,by kernel_rfl,rfl,dC⟩
def YY:ElT prog 90 3 1 8 (.int .i64 0):=⟨underlying90,by kernel_rfl,rfl,dC⟩
def KD:FldT prog 136 0 0=true:=kR
def KY:FldT prog 136 1 1=true:=kR
def H3:FldT prog 136 2 2=true:=kR
def WP:FldT prog 169 0 0=true:=kR
def H4:FldT prog 169 1 1=true:=kR
def KL:FldT prog 34 0 0=true:=kR
def GC:FldT prog 34 1 1=true:=kR
def Jq:FldT prog 34 2 2=true:=kR
def KM:FldT prog 34 3 3=true:=kR
def YN:NoAgg prog 31=true:=kR
def JL:NoAgg prog 32=true:=kR
def Zao:SlT prog 190 31 1=true:=kR
def WQ:SlT prog 32 136 3=true:=kR
def Zap:ZeroT prog 136 (.agg #[(.string ByteArray.empty),(.string ByteArray.empty),(.int .i64 0)]):=by unfold ZeroT;kernel_rfl
def SS:ZeroT prog 169 (.agg #[(.string ByteArray.empty),(.int .i64 0)]):=by unfold ZeroT;kernel_rfl
def cnames (l:List Cnt):List BA:=l.map (·.name)
def Ko (n:Int):Bool:=decide (1<=n)&&decide (n<=4503599627370496)
def EW (l all:List BA):Bool:=chainB strLt l&&l.all (hasStr all)
def Jc (a b:Flw):Int:=if Yc a.src b.src=0 then Yc a.dst b.dst else Yc a.src b.src
def SU (acts:List BA) (f:Flw):Bool:=Ko f.n&&hasStr acts f.src&&hasStr acts f.dst
def flwLt (a b:Flw):Bool:=decide (Jc a b<0)
def JM (g:Dfg):Bool:=JH (cnames g.acts)&&EW (cnames g.starts) (cnames g.acts)&&EW (cnames g.ends) (cnames g.acts)&&g.acts.all (fun c=>Ko c.n)&&g.starts.all (fun c=>Ko c.n)&&g.ends.all (fun c=>Ko c.n)&&g.follows.all (SU (cnames g.acts))&&chainB flwLt g.follows
def Zhg (l:List Cnt):Prop:=l.length<=140737488355328/\∀c∈l,c.name.size<=140737488355328∧-9223372036854775808<=c.n/\c.n<=9223372036854775807
def Zsj (l:List Flw):Prop:=l.length<=140737488355328/\∀c∈l,c.src.size<=140737488355328/\c.dst.size<=140737488355328∧-9223372036854775808<=c.n/\c.n<=9223372036854775807
def Zqp (g:Dfg):Prop:=Zhg g.acts/\Zhg g.starts/\Zhg g.ends/\Zsj g.follows
def J6 (e n:Nat) (l:List BA):share (.own e 1 n (l.map Zx))= .sl n (l.map Zx):=by
 rw [share,YG,XB];rfl
def T0 {l:List Cnt} {k:Nat} {x:Cnt} (h:l[k]? =some x):cnames (l.take (k+1))=cnames (l.take k)++[x.name]:=by
 unfold cnames;rw [ZR h,XX];rfl
def Zaq (l:List Cnt) (hl0:l.length<=1000000):AF prog 142 [Jf l] (· =ZX (cnames l)):=by
 refine AF.b1 19 func142 rfl ntmps142 (Xa rfl) fun w0 M0 v0 _=>?_
 refine D4 ?_
 refine xL 6 Za (xL 7 (Zu YA) (xL 8 Za ?_));refine ZZ ?_
 refine Zs (YO 200 9 1 rfl) fun _=>?_
 refine Yl (ι:={x:Nat×Value//x.1<=l.length}) (fun k=>⟨[(6,_,_),(7,_,_),(3,k.1.2, .val k.1.2),(8, .int .i64 k.1.1,Zb k.1.1)],[(200,k.1.2, .own 9 1 k.1.1 ((cnames (l.take k.1.1)).map Zx))]⟩) (fun k=>l.length-k.1.1) ⟨(0, .slice none 0 0),oM⟩ ?_
 rintro ⟨⟨k,h3⟩,hk⟩
 dsimp only
 dsimp only at hk
 refine Ys ?_ ?_<;>intro hb9
 . (
 obtain ⟨x,hx⟩:=gS l k;have e1:=Y4 YM l k x hx;have e2:=Ww YM hx;(have e3:((cnames (l.take k)).map Zx).length=k:=by simp [cnames];omega);refine Zi ?_;refine xM (Ze YA) ?_;refine yU (We KI) fun v11=>?_;refine Zt [(.string ByteArray.empty),(.int .i64 0)] 2 5 SS fun h5=>?_;refine Zn 5 KI ?_;refine YT ?_;refine xL 12 Za (xL 13 (Zc 5 WP) ?_);refine yV (Zf 5 ZE) ?_;refine WE (kk:=1) 15 YX fun h15 ho15=>?_;refine Y7 200 15 16 YX fun h16 ho16=>?_;refine J1 ?_;refine ZJ (ZK (l:=16) 200 rfl rfl) fun _=>?_;rw [show (cnames (l.take k)).map Zx++[Zx x.name]=(cnames (l.take (k+1))).map Zx by rw [T0 hx,XX];rfl];refine Yk (
  ⟨(k+1,h16),by show k+1<=l.length;omega⟩
  ))
 refine ZP ?_;refine YK (En.freeze (l:=200) (t:=2) rfl rfl) fun _=>?_;refine Zg results142 rfl ?_;obtain rfl:k=l.length:=oM;rw [Xx,J6];unfold ZX cnames;rw [Xc]
def Zar (l all:List BA):AF prog 143 [ZX l,ZX all] (· =Zr (EW l all)):=by
 refine AF.b2 32 func143 rfl ntmps143 (Xa rfl) fun w0 M0 v0 v1 _ _=>?_
 refine Km 0 rfl fun hlen=>?_
 refine WK ?_
 refine xL 7 Za (xL 8 (Zu Zo) (xL 9 Za ?_));refine ZZ ?_
 refine Y0 (ι:={k:Nat//k<=l.length/\∀j x,j<k->l[j]? =some x->hasStr all x=true/\∀y,1<=j->l[j-1]? =some y->strLt y x=true}) (fun k=>⟨[(0,_,_),(1,_,_),(7,_,_),(8,_,_),(9, .int .i64 k.1,Zb k.1)],[]⟩) (fun k=>l.length-k.1) ⟨0,oM,oM⟩ (fun a w H=>H.weaken sB trivial) ?_
 rintro ⟨k,hk,hp⟩
 dsimp only
 refine Ys ?_ ?_<;>intro hb10
 . (
 obtain ⟨x,hx⟩:=gS l k;obtain ⟨y,hy⟩:=gS l (k-1);have e1:=Yf (f:=Zx) hx;(have e2:(l.map Zx)[((k:Int)-1).toNat*1]? =some (Zx y):=by rw [show ((k:Int)-1).toNat*1=k-1 by omega];exact (by rw [Xl,hy];rfl));refine Zi ?_;refine xL 11 Za (xL 12 (Ze Zo) ?_);refine yV (Zw ZE) ?_;refine JF ?_;(refine Y8 ?_<;>(refine bLd 16 (fun hb16=>?_) (fun hb16=>?_)<;>refine kZ ?_)<;>refine Ky ?_<;>(first|refine kL ?_|refine xM (Sa Zo) ?_)<;>(first|refine kL ?_|refine yV (Zw ZE) ?_)<;>refine kZ ?_<;>(first|refine kL ?_|refine xM Zc9 ?_)<;>refine YW ?_<;>(first|refine YU ?_|(refine bL 25 (fun hb25=>?_) (fun hb25=>?_)<;>refine kZ ?_))<;>refine kZ ?_<;>(first|refine kL ?_|(refine cV (cA call73 (SK all x)) ?_))<;>refine WF ?_)<;>(
 refine cX ?_ ?_<;>intro hb30
 . (
 refine ZF ?_;refine Zg results143 rfl ?_;unfold EW
 first
  |rw [Rj oM hy hx (by simpa [strLt] using hb25)];rfl
  |rw [R3 hx (by simpa using hb30)];simp)
 . first |exact bN hb30|(
 refine ZP ?_;refine Zh (
  ⟨k +1,oM,fun j z hj hz=>by
   by_cases e:j=k
   . subst e;rw [hx] at hz;cases hz;refine ⟨by simpa using hb30,fun y' h1 hy'=>?_⟩;rw [hy] at hy';cases hy'
     first|omega|simpa [strLt] using hb25
   . exact hp j z oM hz⟩
  ) (by dsimp only;omega) sB trivial)))
 refine ZF ?_;refine Zg results143 rfl ?_;have h1:l.all (hasStr all)=true:=ζh fun j x hj=>(hp j x (by have:=Zd hj;omega) hj).1;have h2:chainB strLt l=true:=SH fun j x y h1 hy hx=>(hp j x (by have:=Zd hx;omega) hx).2 y h1 hy;unfold EW;rw [h1,h2];rfl
def KZ:List Int->Int
 |[]=>0
 |x::l=>if x=0 then KZ l else x
def Zqq (l:List Int):AF prog 141 [pInts l] (· =Zb (KZ l)):=by
 refine AF.b1 18 func141 rfl ntmps141 (Xa rfl) fun w0 M0 v0 _=>?_
 refine Km 0 rfl fun hlen=>?_
 refine D4 ?_
 refine xL 6 Za (xL 7 (Zu ZS) (xL 8 Za ?_));refine ZZ ?_
 refine Y0 (ι:={k:Nat//k<=l.length/\KZ l=KZ (l.drop k)}) (fun k=>⟨[(3,_,_),(6,_,_),(7,_,_),(8, .int .i64 k.1,Zb k.1)],[]⟩) (fun k=>l.length-k.1) ⟨0,oM,rfl⟩ (fun a w H=>H.weaken sB trivial) ?_
 rintro ⟨k,hk,hp⟩
 dsimp only
 refine Ys ?_ ?_<;>intro hb9
 . (
 obtain ⟨x,hx⟩:=gS l k;have e1:=Yf (f:=Zb) hx;(have hs:KZ (l.drop k)=if x=0 then KZ (l.drop (k+1)) else x:=by rw [WO hx,KZ]);refine Zi ?_;refine xM (Ze ZS) ?_;refine yV (Zw Zq) ?_;refine D5 ?_;refine ZC ?_ ?_<;>intro hb14
 . (
 refine ZP ?_;refine Zg results141 rfl ?_;rw [hp,hs,Qc hb14])
 refine ZP ?_;refine Zh (
  ⟨k+1,oM,by rw [hp,hs,Qd (by simpa using hb14)]⟩
  ) (by dsimp only;omega) sB trivial)
 refine ZP ?_;refine Zg results141 rfl ?_;rw [hp,XO oM];rfl
def Zhh (a b:Flw):AF prog 102 [.agg (LQ a), .agg (LQ b)] (· =Zb (Jc a b)):=by
 refine AF.b2 17 func102 rfl ntmps102 (Xa rfl) fun w0 M0 v0 v1 _ _=>?_
 refine Zi ?_
 refine Z4 2 3 fun h2=>?_;refine Z4 3 3 fun h3=>?_;refine ZD ?_
 refine Yx [] [2,3] ?_<;>refine xD 0 rfl (Zc 2 KD) ?_<;>(refine yD 1 rfl (Zf 2 ZE) fun v6 h=>?_;cases h)<;>refine xD 2 rfl (Zc 3 KD) ?_<;>(refine yD 3 rfl (Zf 3 ZE) fun v8 h=>?_;cases h)<;>refine xD 5 rfl (Zc 2 KY) ?_<;>(refine yD 6 rfl (Zf 2 ZE) fun v11 h=>?_;cases h)<;>refine xD 7 rfl (Zc 3 KY) ?_<;>(refine yD 8 rfl (Zf 3 ZE) fun v13 h=>?_;cases h)<;>(refine aDr 4 fun bk=>?_)<;>(refine cV (cA call137 (Oy a.src b.src)) ?_)<;>refine bE bk ?_<;>(refine aDr 9 fun bk=>?_)<;>(refine cV (cA call137 (Oy a.dst b.dst)) ?_)<;>refine bE bk ?_<;>(refine aDr 10 fun bk=>?_)<;>refine PF (xs:=[_,_]) 15 YY fun h15 ho15=>?_<;>refine bE bk ?_<;>(refine aDr 11 fun bk=>?_)<;>(refine Zz (En.freeze (l:=15) (t:=15) rfl rfl) fun _=>?_;refine cV (cA call141 (Zqq [Yc a.src b.src,Yc a.dst b.dst])) ?_)<;>refine bE bk ?_<;>refine gEx 12 ?_<;>refine Wo ?_
 refine Zg results102 rfl ?_
 unfold Jc KZ KZ KZ
 by_cases h:Yc a.src b.src=0
 . rw [Qd h,Qd h];split<;>simp_all
 rw [Qc h,Qc h]
def Zas (n:Int):AF prog 146 [Zb n] (· =Zr (Ko n)):=by
 refine AF.b1 9 func146 rfl ntmps146 (Xa rfl) ?_
 rintro w0 M0 _ rfl
 refine WK ?_
 (refine Y8 ?_<;>(refine bLd 5 (fun hb5=>?_) (fun hb5=>?_)<;>refine kZ ?_)<;>refine KR ?_)<;>(
 refine Zg results146 rfl (RZ ?_);simp only [Ko,Xf,U',true_iff,false_iff,VG]<;>omega)
def ZkQ (c:Cnt):AF prog 145 [.agg (Lp c)] (· =Zr (!Ko c.n)):=by
 refine AF.b1 7 func145 rfl ntmps145 (Xa rfl) fun w0 M0 v0 _=>?_
 refine Zi ?_
 refine Z4 1 2 fun h1=>?_;refine ZW ?_
 refine xM (Zc 1 H4) ?_;refine yV (Zf 1 Zq) ?_;refine cV (cA call146 (Zas c.n)) ?_;refine W2 ?_
 exact Zg results145 rfl rfl
def RN {g:Dfg} (h:JH (cnames g.acts)=false\/EW (cnames g.starts) (cnames g.acts)=false\/EW (cnames g.ends) (cnames g.acts)=false\/g.acts.all (fun c=>Ko c.n)=false\/g.starts.all (fun c=>Ko c.n)=false\/g.ends.all (fun c=>Ko c.n)=false\/g.follows.all (SU (cnames g.acts))=false\/chainB flwLt g.follows=false):JM g=false:=by
 unfold JM
 rcases h with h|h|h|h|h|h|h|h<;>rw [h]<;>simp
def ZiY {α:Type} {p:α->Bool} {l:List α}:(l.any fun c=> !p c)= !l.all p:=by
 induction l with
 |nil=>rfl
 |cons x l ih=>rw [List.any_cons,UC,ih,Bool.not_and]
def ZnP (g : Dfg) (hf:Zqp g) (ha:g.acts.length<=1000000) (hs:g.starts.length<=1000000) (he:g.ends.length<=1000000):AF prog 103 [Ji g] (· =Zr (JM g)):=by
 refine AF.b1 87 func103 rfl ntmps103 (Xa rfl) fun w0 M0 v0 _=>?_
 refine Zi ?_
 refine Z4 1 4 fun h1=>?_;refine ZW ?_
 refine xM (Zc 1 KL) ?_;refine yU (Zf 1 YN) fun v9=>?_;refine cU (cA call142 (Zaq g.acts ha)) fun v10=>?_;refine ZW ?_
 (refine YU ?_ <;> (refine cV (cA call86 (ZgU (cnames g.acts) (fun s hs=>by obtain ⟨c,hc,rfl⟩:=Xp.1 hs;exact (hf.1.2 c hc).1))) ?_)<;>refine YW ?_<;>(refine bL 14 (fun hb14=>?_) (fun hb14=>?_)<;>(first|refine kL ?_|refine xM (Zc 1 GC) ?_))<;>(first|refine kL ?_|refine yU (Zf 1 YN) fun v16=>?_)<;>(first|refine kL ?_|(refine cU (cA call142 (Zaq g.starts hs)) fun v17=>?_))<;>refine kZ ?_<;>(first|refine kL ?_|(refine cV (cA call143 (Zar (cnames g.starts) (cnames g.acts))) ?_))<;>refine Kg ?_<;>(first|refine kL ?_|(refine bL 22 (fun hb22=>?_) (fun hb22=>?_)<;>(first|refine kL ?_|refine xM (Zc 1 Jq) ?_)))<;>(first|refine kL ?_|refine yU (Zf 1 YN) fun v24=>?_)<;>(first|refine kL ?_|(refine cU (cA call142 (Zaq g.ends he)) fun v25=>?_))<;>refine kZ ?_<;>(first|refine kL ?_|(refine cV (cA call143 (Zar (cnames g.ends) (cnames g.acts))) ?_))<;>refine WF ?_)<;>(
 refine cX ?_ ?_<;>intro hb29
 . (
 refine ZF ?_;refine Zg results103 rfl ?_
 first
  |rw [RN (.inl (by simpa using hb14))]
  |rw [RN (.inr (.inl (by simpa using hb22)))]
  |rw [RN (.inr (.inr (.inl (by simpa using hb29))))])
 . first | exact bN hb29|(
 refine Zi ?_;refine xM (Zc 1 KL) ?_;refine yU (Zf 1 YN) fun v31=>?_;refine xM (Zc 1 GC) ?_;refine yU (Zf 1 YN) fun v33=>?_;refine xM (Zc 1 Jq) ?_;refine yU (Zf 1 YN) fun v35=>?_;refine PF (xs:=[_,_,_]) 36 Zhf fun h36 ho36=>?_;refine xL 37 (Wu 36 Zao) (xL 38 Za ?_);refine ZZ ?_;(have h1:JH (cnames g.acts)=true:=by simpa using hb14);(have h2:EW (cnames g.starts) (cnames g.acts)=true:=by simpa using hb22);(have h3:EW (cnames g.ends) (cnames g.acts)=true:=by simpa using hb29);refine Yl (ι:={k:Nat//k<=3/\∀j x,j<k->[g.acts,g.starts,g.ends][j]? =some x->x.all (fun c=>Ko c.n)=true}) (fun k=>⟨[(1,_,_),(3,_,_),(36,_,_),(37,_,_),(38, .int .i64 k.1,Zb k.1)],[(1,_,_),(36,_,_)]⟩) (fun k=>3-k.1) ⟨0,oM,oM⟩ ?_;rintro ⟨k,hk,hp⟩;dsimp only;refine Ys ?_ ?_<;>intro hb39
 . (
 obtain ⟨x,hx⟩:=get_some (l:=[g.acts,g.starts,g.ends]) (i:=k) (by show k<3;omega);have e1:([Jf g.acts,Jf g.starts,Jf g.ends]:List PV)[k*1]? =some (Jf x):=Yf (f:=Jf) hx;refine Zi ?_;refine xM (Zk 36 Zao) ?_;refine yU (Zf 36 YN) fun v41=>?_;refine JG ?_;refine cV (cA call144 (DU 145 [] (fun c=> !Ko c.n) x call145 (fun c _=>ZkQ c))) ?_;refine ZC ?_ ?_<;>intro hb43
 . (
 refine ZF ?_;refine Zg results103 rfl ?_;rw [ZiY,Bool.not_eq_true'] at hb43;match k,hk,hx with
 |0,_,hx=>cases hx;rw [RN (.inr (.inr (.inr (.inl hb43))))]
 |1,_,hx=>cases hx;rw [RN (.inr (.inr (.inr (.inr (.inl hb43)))))]
 |2,_,hx=>cases hx;rw [RN (.inr (.inr (.inr (.inr (.inr (.inl hb43))))))]
 |k+3,hk,hx=>omega)
 refine ZP ?_;refine Yk (
  ⟨k+1,oM,fun j z hj hz=>by
   by_cases e:j=k
   . subst e;rw [hx] at hz;cases hz;rw [ZiY] at hb43;simpa using hb43
   . exact hp j z oM hz⟩
  ))
 refine Zi ?_;refine xM (Zc 1 KM) ?_;refine yU (Zf 1 JL) fun v46=>?_;refine xL 47 (Zu WQ) (xL 48 Za ?_);refine ZZ ?_;obtain rfl:k=3:=oM;have h4:=hp 0 g.acts oM rfl;have h5:=hp 1 g.starts oM rfl;have h6:=hp 2 g.ends oM rfl;clear hp;refine Yl (ι:={k:Nat//k<=g.follows.length/\∀j x,j<k->g.follows[j]? =some x->SU (cnames g.acts) x=true/\∀y,1<=j->g.follows[j-1]? =some y->flwLt y x=true}) (fun k=>⟨[(1,_,_),(3,_,_),(46,_,_),(47,_,_),(48, .int .i64 k.1,Zb k.1)],[(1,_,_)]⟩) (fun k=>g.follows.length-k.1) ⟨0,oM,oM⟩ ?_;rintro ⟨k,hk,hp⟩;dsimp only;refine Ys ?_ ?_<;>intro hb49
 . (
 obtain ⟨x,hx⟩:=gS g.follows k;obtain ⟨y,hy⟩:=gS g.follows (k-1);have e1:=Y4 Wk g.follows k x hx;have e2:=Ww Wk hx;(have e3:((g.follows.flatMap LQ).drop (((k:Int)-1).toNat*3)).take 3=LQ y:=by rw [show ((k:Int)-1).toNat*3=(k-1)*3 by omega];exact Y4 Wk g.follows (k-1) y hy);have e4:=Ww Wk hy;have hlf:=hf.2.2.2.1;refine Zi ?_;refine xL 50 Za (xL 51 (Ze WQ) ?_);refine yU (We LH) fun v52=>?_;refine Zt [(.string ByteArray.empty),(.string ByteArray.empty),(.int .i64 0)] 3 7 Zap fun h7=>?_;refine YU ?_;refine Zn 7 LH ?_;refine ZZ ?_;(refine Yx [] [1,7] ?_<;>refine xE 0 rfl (Zc 7 H3) ?_<;>(refine yE 1 rfl (Zf 7 Zq) fun v54 h=>?_;cases h)<;>(refine aDr 2 fun bk=>?_)<;>(refine cV (cA call146 (Zas x.n)) ?_)<;>refine bE bk ?_<;>refine gEx 3 ?_<;>refine gEx 4 ?_<;>(refine bD 57 (fun hb57=>?_) (fun hb57=>?_)<;>(first|refine kD 5 ?_|refine gDx 5 ?_))<;>(first|refine kD 6 ?_|refine gDx 6 ?_)<;>(first|refine kD 7 ?_|refine gDx 7 ?_)<;>(first|refine kD 8 ?_|(refine bDd 60 (fun hb60=>?_) (fun hb60=>?_)<;>(first|refine kD 8 ?_|refine xD 8 rfl (Zc 1 KM) ?_)))<;>(first|refine kD 9 ?_|(refine yD 9 rfl (Zf 1 JL) fun v62 h=>?_;cases h))<;>(first|refine kD 10 ?_|refine gDx 10 ?_)<;>(first|refine kD 11 ?_|refine gDx 11 ?_)<;>(first|refine kD 12 ?_|refine xD 12 rfl (Sa WQ) ?_)<;>(first|refine kD 13 ?_|(refine yD 13 rfl (We LH) fun v66 h=>?_;cases h))<;>(first|refine kD 14 ?_|(refine yD 14 rfl (Zm 7 LH) fun v67 h=>?_;cases h))<;>(refine aDr 15 fun bk=>?_)<;>(first|refine kL ?_|(refine cV (cA call102 (Zhh y x)) ?_))<;>refine bE bk ?_<;>(first|refine kD 16 ?_|refine gDx 16 ?_)<;>(first|refine kD 17 ?_|refine gDx 17 ?_)<;>refine gEx 18 ?_<;>refine gEx 19 ?_<;>(first|refine kD 20 ?_|refine gDx 20 ?_|(refine bDd 72 (fun hb72=>?_) (fun hb72=>?_)<;>(first|refine kD 20 ?_|refine gDx 20 ?_)))<;>(first|refine kD 21 ?_|refine xD 21 rfl (Zc 7 KD) ?_)<;>(first|refine kD 22 ?_|(refine yD 22 rfl (Zf 7 ZE) fun v75 h=>?_;cases h))<;>(refine aDr 23 fun bk=>?_)<;>(first|refine kL ?_|(refine cV (cA call73 (SK (cnames g.acts) x.src)) ?_))<;>refine bE bk ?_<;>(first|refine kD 24 ?_|refine gDx 24 ?_)<;>refine gEx 25 ?_<;>refine gEx 26 ?_<;>(first|refine kD 27 ?_|(refine bD 79 (fun hb79=>?_) (fun hb79=>?_)<;>(first|refine kD 27 ?_|refine gDx 27 ?_)))<;>(first|refine kD 28 ?_|refine xD 28 rfl (Zc 7 KY) ?_)<;>(first|refine kD 29 ?_|(refine yD 29 rfl (Zf 7 ZE) fun v82 h=>?_;cases h))<;>(refine aDr 30 fun bk=>?_)<;>(first|refine kL ?_|(refine cV (cA call73 (SK (cnames g.acts) x.dst)) ?_))<;>refine bE bk ?_<;>(first|refine kD 31 ?_|refine gDx 31 ?_)<;>refine gEx 32 ?_<;>refine Wo ?_)<;>(
 refine cX ?_ ?_<;>intro hb85
 . (
 refine ZF ?_;refine Zg results103 rfl ?_
 first
  |rw [RN (.inr (.inr (.inr (.inr (.inr (.inr (.inl (R3 hx (show SU (cnames g.acts) x=false by unfold SU;rw [show Ko x.n=false by simpa using hb57];rfl)))))))))]
  |rw [RN (.inr (.inr (.inr (.inr (.inr (.inr (.inr (Rj oM hy hx (show flwLt y x=false from Qb oM)))))))))]
  |rw [RN (.inr (.inr (.inr (.inr (.inr (.inr (.inl (R3 hx (show SU (cnames g.acts) x=false by unfold SU;rw [show hasStr (cnames g.acts) x.src=false by simpa using hb79];simp)))))))))]
  |rw [RN (.inr (.inr (.inr (.inr (.inr (.inr (.inl (R3 hx (show SU (cnames g.acts) x=false by unfold SU;rw [show hasStr (cnames g.acts) x.dst=false by simpa using hb85];simp)))))))))])
 . first |exact bN hb85|(
 refine ZP ?_;refine Yk (
  ⟨k +1,oM,fun j z hj hz=>by
   by_cases e:j=k
   . subst e;rw [hx] at hz;cases hz;refine ⟨by unfold SU;rw [show Ko x.n=true by simpa using hb57,show hasStr (cnames g.acts) x.src=true by simpa using hb79,show hasStr (cnames g.acts) x.dst=true by simpa using hb85];rfl,fun y' h1 hy'=>?_⟩;rw [hy] at hy';cases hy'
     first|omega|exact Qa oM
   . exact hp j z oM hz⟩
  ))))
 refine ZF ?_;refine Zg results103 rfl ?_;have h7:g.follows.all (SU (cnames g.acts))=true:=ζh fun j x hj=>(hp j x (by have:=Zd hj;omega) hj).1;have h8:chainB flwLt g.follows=true:=SH fun j x y h1 hy hx=>(hp j x (by have:=Zd hx;omega) hx).2 y h1 hy;unfold JM;rw [h1,h2,h3,h4,h5,h6,h7,h8];rfl))
end Go.Proofs.YtmkojdfiadbeeaaGreat
namespace Go.Cb
def H5 {α:Type} {l:List α} {i:Nat} {x:α} (h:l[i]? =some x):l.set i x=l:=by
 obtain ⟨hi,rfl⟩:=Xk.1 h
 exact List.set_getElem_self hi
def CJ {parts:List (List BA)} {m:Nat}:∀(ws:List BA) (ps:List Piece) (q:Piece),ps[m]? =some q->
 splitGo 1 parts false m ps ws=if (ws.any fun s=>partOf parts s !=m) then none else some (ps.set m ⟨q.part,q.word++ws⟩,(m:Int))
 | [],ps,q,h=>by
   rw [splitGo,List.any_nil,Qc sM,Xo];rw [show (⟨q.part,q.word⟩:Piece)=q from rfl,H5 h]
 | s ::l,ps,q,h=>by
   rw [splitGo,List.any_cons];by_cases hp:partOf parts s=(m:Int)
   . have hm:m<ps.length:=(Xk.1 h).1;(have hb:JZ 1 false (partOf parts s) (m:Int)=false:=by unfold JZ;rw [hp];simp);(have hn:(partOf parts s !=(m:Int))=false:=by rw [hp];simp);rw [hb,hn,hp,XH,Tp h,Qc sM,CJ l _ ⟨q.part,q.word++[s]⟩ (by rw [XK hm]),X4];simp
   (have hn:(partOf parts s !=(m:Int))=true:=by simpa using hp);(have hb:JZ 1 false (partOf parts s) (m:Int)=true:=by unfold JZ;rw [hn];rfl);rw [hb,hn];rfl
def Zfl {c:Cut} {s:BA} {l:List BA} (hk:c.kind=1) (hs:0<=partOf c.parts s):
 Wh c (s::l)=if ((s::l).any fun t=>partOf c.parts t !=partOf c.parts s) then none else some [⟨partOf c.parts s,s::l⟩]:=by
 obtain ⟨m,hm⟩:∃m:Nat,partOf c.parts s=m:=⟨(partOf c.parts s).toNat,oM⟩
 have hlt:m<c.parts.length:=by have:=O' c.parts s;omega
 have h0:(initPs c.parts.length)[m]? =some ⟨(m:Int),[]⟩:=by simp [initPs,hlt]
 unfold Wh
 rw [Qc oM,hk,splitGo]
 have hb:JZ 1 true (partOf c.parts s) 0=false:=by unfold JZ;simp
 rw [hb,Qc sM,hm,XH,Tp h0,CJ l _ ⟨(m:Int),[]++[s]⟩ (by rw [XK (by rw [Tq];exact hlt)]),List.any_cons,hm]
 rw [show ((m:Int)!=(m:Int))=false by simp,Un]
 cases l.any fun t=>partOf c.parts t !=(m:Int)
 . simp only [VG,if_false,if_true,X4];rw [Qc sM,XH];congr 1;have hg:((initPs c.parts.length).set m ⟨(m:Int),[]++[s]++l⟩)[m]? =some ⟨(m:Int),[]++[s]++l⟩:=by rw [XK (by rw [Tq];exact hlt)]
   rw [WO hg];rfl
 rfl
def ζc {c:Cut} (hk:c.kind=1):Wh c []=none:=by
 unfold Wh
 rw [Qc oM,hk,splitGo]
 rfl
def KN (ps:List Piece):List Piece:=ps.map fun q=>(⟨0,q.word⟩:Piece)
def Ha (ps:List Piece):(KN ps).length=ps.length:=by simp [KN]
def EX {ps:List Piece} {i:Nat} {q:Piece} (h:ps[i]? =some q):(KN ps)[i]? =some ⟨0,q.word⟩:=by simp [KN,h]
def Zhi {ps:List Piece} {i:Nat} {q:Piece} (s:BA) (h:ps[i]? =some q):(KN ps).set i ⟨0,q.word++[s]⟩=KN (Jz ps i s):=by
 rw [Tp h]
 unfold KN
 rw [Uu]
def Zfm (n:Nat):KN (initPs n)=List.replicate n ⟨0,[]⟩:=by
 unfold KN initPs
 rw [XB]
 apply List.ext_getElem
 . simp
 intro i h1 h2;simp
def InPlace (ps:List Piece):Prop:=∀(i:Nat) (q:Piece),ps[i]? =some q->q.part=(i:Int)
def Zdw (n:Nat):InPlace (initPs n):=fun i q h=>by
 obtain ⟨hi,rfl⟩:=Xk.1 h
 simp [initPs]
def InPlace.add {ps:List Piece} (h:InPlace ps) (i:Nat) (s:BA):InPlace (Jz ps i s):=fun j q hq=>by
 unfold Jz at hq
 split at hq
 . rename_i p hp;by_cases hji:j=i
   . subst hji;have hl:=(Xk.1 hp).1;rw [XK hl] at hq
     cases hq;exact h j p hp
   rw [X9 (Ne.symm hji)] at hq;exact h j q hq
 exact h j q hq
def ZkR {ps:List Piece} (h:InPlace ps) {j:Nat} {q:Piece} (hq:ps[j]? =some q):(ps.take j++(KN ps).drop j).set j ⟨(j:Int),q.word⟩=ps.take (j+1)++(KN ps).drop (j+1):=by
 have hl:=(Xk.1 hq).1
 have hpt:=h j q hq
 have htl:(ps.take j).length=j:=by simp;omega
 rw [Vr _ _ oM,htl,Vg,WO (EX hq),U1,ZR hq,XG]
 congr 1
 rw [<-hpt]
 rfl
def Zqr {ps:List Piece} {j:Nat} {q:Piece} (hq:ps[j]? =some q):(ps.take j++(KN ps).drop j)[j]? =some ⟨0,q.word⟩:=by
 have hl:=(Xk.1 hq).1
 have htl:(ps.take j).length=j:=by simp;omega
 rw [Vp oM,htl,Vg,WO (EX hq)]
 rfl
def ZnQ (ps:List Piece) (j:Nat) (hj:j<=ps.length):(ps.take j++(KN ps).drop j).length=ps.length:=by
 rw [Xe,XA,Vu,Ha];omega
open Go.En
def vec {α:Type} (n:Nat) (f:Nat->α):List α:=(List.range n).map f
def Wz {α:Type} (n:Nat) (f:Nat->α):(vec n f).length=n:=by simp [vec]
def PS {α:Type} {n i:Nat} (f:Nat->α) (h:i<n):(vec n f)[i]? =some (f i):=by simp [vec,h]
def ZiZ {α:Type} {n:Nat} {l:List α} {f:Nat->α} (hl:l.length=n) (h:∀i x,l[i]? =some x->x=f i):l=vec n f:=by
 apply VT
 intro i
 rcases XL i n with hi|hi
 . obtain ⟨x,hx⟩:=YV (show i<l.length by omega);rw [hx,PS f hi,h i x hx]
 rw [X' oM,X' (by rw [Wz];exact hi)]
def Lk {α:Type} {n a:Nat} (f:Nat->α) (b:α):(vec n f).set a b=vec n (fun i=>if i=a then b else f i):=by
 refine ZiZ (by simp [vec]) fun i x hx=>?_
 have hi:=Zd hx
 rw [Xm,Wz] at hi
 rw [List.getElem?_set] at hx
 split at hx
 . rename_i e;subst e;split at hx
   . cases hx;simp
   cases hx
 rename_i e;rw [PS f hi] at hx
 cases hx;rw [Qc (fun h=>e h.symm)]
def Yi {α:Type} {n:Nat} {f g:Nat->α} (h:∀i,i<n->f i=g i):vec n f=vec n g:=
 VV fun i hi=>h i (XT.1 hi)
def LI {α:Type} (n:Nat) (x:α):List.replicate n x=vec n (fun _=>x):=by
 refine ZiZ sM fun i y hy=>?_
 rw [List.getElem?_replicate] at hy
 split at hy
 . cases hy;rfl
 cases hy
def ζo {α β:Type} (n:Nat) (f:Nat->α) (g:α->β):(vec n f).map g=vec n (fun i=>g (f i)):=by simp [vec,Function.comp_def]
def Zfn {α:Type} (n:Nat) (f:Nat->α):vec (n+1) f=vec n f++[f n]:=by simp [vec,VS]
abbrev Wq (n:Nat) (f:Nat->Bool):PV:= .sl n (vec n fun i=>Zr (f i))
abbrev EY (n:Nat) (f:Nat->Nat->Bool):PV:= .sl n (vec n fun i=>Wq n (f i))
abbrev YP (e n:Nat) (f:Nat->Bool):PV:= .own e 1 n (vec n fun i=>Zr (f i))
abbrev ZkS (e e' n:Nat) (f:Nat->Nat->Bool):PV:= .own e 1 n (vec n fun i=>YP e' n (f i))
def Jr (e n:Nat) (f:Nat->Bool):share (YP e n f)=Wq n f:=by
 rw [share,YG,ζo];rfl
def Dk (e e' n:Nat) (f:Nat->Nat->Bool):share (ZkS e e' n f)=EY n f:=by
 rw [share,YG,ζo]
 show PV.sl n _=PV.sl n _
 congr 1
 exact Yi fun i _=>Jr e' n (f i)
def Closed (n:Nat) (f T:Nat->Nat->Bool):Prop:=(∀i j,i<n->j<n->f i j=true->T i j=true)/\∀i j k,i<n->j<n->k<n->T i j=true->T j k=true->T i k=true
def war (f:Nat->Nat->Bool):Nat->Nat->Nat->Bool
 |0=>f
 |k+1=>fun i j=>war f k i j||(war f k i k&&war f k k j)
def Zdx {n:Nat} {f T:Nat->Nat->Bool} (h:Closed n f T):∀k,k<=n->∀i j,i<n->j<n->war f k i j=true->T i j=true
 |0,_,i,j,hi,hj,h1=>h.1 i j hi hj h1
 | k+1,hk,i,j,hi,hj,h1=>by
   simp only [war,Vj,Xf] at h1;rcases h1 with h1|⟨h1,h2⟩
   . exact Zdx h k oM i j hi hj h1
   exact h.2 i k j hi oM hj (Zdx h k oM i k hi oM h1) (Zdx h k oM k j oM hj h2)
def Zfo (f:Nat->Nat->Bool) (i j:Nat):∀k,f i j=true->war f k i j=true
 |0,h=>h
 |k+1,h=>by simp only [war,Vj];exact .inl (Zfo f i j k h)
def Zi0 (f:Nat->Nat->Bool) (k i:Nat):war f (k+1) i k=war f k i k:=by
 simp only [war];cases war f k i k<;>simp
def Zi1 (f:Nat->Nat->Bool) (k j:Nat):war f (k+1) k j=war f k k j:=by
 simp only [war];cases war f k k j<;>simp
def ζp (f:Nat->Nat->Bool):∀k m i j,m<k->war f k i m=true->war f k m j=true->war f k i j=true
 |0,m,i,j,hm,_,_=>oM
 | k + 1,m,i,j,hm,h1,h2=>by
   by_cases e:m=k
   . subst e;rw [Zi0] at h1;rw [Zi1] at h2;simp only [war,h1,h2,Bool.and_self,Bool.or_true]
   have hm':m<k:=oM;simp only [war,Vj,Xf] at h1 h2 ⊢;rcases h1 with h1|⟨h1,h1'⟩
   . rcases h2 with h2|⟨h2,h2'⟩
     . exact .inl (ζp f k m i j hm' h1 h2)
     exact .inr ⟨ζp f k m i k hm' h1 h2,h2'⟩
   rcases h2 with h2|⟨h2,h2'⟩
   . exact .inr ⟨h1,ζp f k m k j hm' h1' h2⟩
   exact .inr ⟨h1,h2'⟩
def ZU (n:Nat) (f:Nat->Nat->Bool):Nat->Nat->Bool:=war f n
def GR (n:Nat) (f:Nat->Nat->Bool):Closed n f (ZU n f):=⟨fun i j _ _ h=>Zfo f i j n h,fun i j k _ hj _ h1 h2=>ζp f n j i k hj h1 h2⟩
def ZnR {n:Nat} {f R:Nat->Nat->Bool} (h1:Closed n f R) (h2:∀T,Closed n f T->∀i j,i<n->j<n->R i j=true->T i j=true) (i j:Nat) (hi:i<n) (hj:j<n):R i j=ZU n f i j:=by
 rw [VI]
 exact ⟨h2 _ (GR n f) i j hi hj,Zdx h1 n (Xd n) i j hi hj⟩
def Zdy (n:Nat) (f:Nat->Bool):Nat:=((List.range n).filter fun i=> !f i).length
def Zcg (n:Nat) (f:Nat->Bool):Zdy (n+1) f=Zdy n f+(if f n then 0 else 1):=by
 unfold Zdy
 rw [VS,Vs,Xe]
 cases h:f n<;>simp [h]
def Zhj {n:Nat} {f g:Nat->Bool} (h:∀i,i<n->f i=g i):Zdy n f=Zdy n g:=by
 unfold Zdy
 rw [List.filter_congr fun i hi=>by rw [h i (XT.1 hi)]]
def Zfp {f:Nat->Bool} {a:Nat} (hf:f a=false):∀{n:Nat},a<n->Zdy n (fun i=>if i=a then true else f i)+1=Zdy n f
 |0,h=>oM
 | n +1,h=>by
   rw [Zcg,Zcg];by_cases e:n=a
   . subst e;rw [Qd rfl,hf];rw [Zhj (f:=fun i=>if i=n then true else f i) (g:=f) fun i hi=>by rw [Qc oM]];simp
   rw [Qc e];have:=Zfp hf (n:=n) oM;omega
def cntM (n:Nat) (f:Nat->Nat->Bool):Nat:=((List.range n).map fun i=>Zdy n (f i)).sum
def OI (n:Nat) (g:Nat->Nat):((List.range (n+1)).map g).sum=((List.range n).map g).sum+g n:=by
 rw [VS,XX,List.sum_append];simp
def ZkT {n:Nat} {g h:Nat->Nat} (e:∀i,i<n->g i=h i):((List.range n).map g).sum=((List.range n).map h).sum:=by
 rw [VV fun i hi=>e i (XT.1 hi)]
def Zfq {g h:Nat->Nat} {a:Nat} (ha:g a+1=h a):∀{n:Nat},a<n->(∀i,i<n->i≠a->g i=h i)->((List.range n).map g).sum+1=((List.range n).map h).sum
 |0,hn,_=>oM
 | n +1,hn,e=>by
   rw [OI,OI];by_cases hx:n=a
   . subst hx;rw [ZkT (g:=g) (h:=h) fun i hi=>e i oM oM];omega
   have:=Zfq ha (n:=n) oM (fun i hi hne=>e i oM hne);rw [e n oM hx];omega
def ZnS {n:Nat} {f:Nat->Nat->Bool} {a b:Nat} (ha:a<n) (hb:b<n) (hf:f a b=false):cntM n (fun i=>if i=a then (fun j=>if j=b then true else f a j) else f i)+1=cntM n f:=by
 unfold cntM
 refine Zfq (a:=a) ?_ ha (fun i _ hne=>?_)
 . simp only [Qd];exact Zfp hf hb
 simp only [Qc hne]
end Go.Cb
namespace Go.Proofs.YtmkojdfiadbeeaaGreat
open Go.RowKit Go.Cb Go.En Tryz
def Wr:ElT prog 92 4 1 1 (.bool false):=⟨underlying92,by kernel_rfl,rfl,dC⟩
def Ph:ElT prog 93 92 1 24 (.slice none 0 0):=⟨underlying93,by kernel_rfl,rfl,dC⟩
def Js:FldT prog 95 0 0=true:=kR
def K5:FldT prog 95 1 1=true:=kR
def T1:FldT prog 95 2 2=true:=kR
def T2:FldT prog 95 3 3=true:=kR
def ZT:NoAgg prog 4=true:=kR
def Zy:NoAgg prog 92=true:=kR
def Yj:NoAgg prog 93=true:=kR
def ZI:SlT prog 92 4 1=true:=kR
def Z':SlT prog 93 92 1=true:=kR
def Sx:Gk prog 95=some ((.agg #[(.slice none 0 0),(.slice none 0 0),(.slice none 0 0),(.slice none 0 0)]),([0,1,2,3]:List Nat).map fun o=>(o,1)):=kR
def Dl:(prog.info? 26).map (·.size)=some 1:=kR
def GD:(prog.info? 4).map (·.size)=some 1:=kR
def GU:(prog.info? 92).map (·.size)=some 1:=kR
def ZnT {α:Type} {n k:Nat} (p z q:α):((vec n fun i=>if i<k then p else z).set k q).set k p=vec n fun i=>if i<k+1 then p else z:=by
 rw [Lk,Lk]
 refine Yi fun i hi=>?_
 by_cases e:i=k
 . subst e;rw [Qd rfl,Qd oM]
 rw [Qc e,Qc e];by_cases h:i<k
 . rw [Qd h,Qd oM]
 rw [Qc h,Qc oM]
def Sy (n:Nat) (hn:n<=1000000):AF prog 105 [Zb n] (· =ZkS 92 4 n (fun _ _=>false)):=by
 refine AF.b1 19 func105 rfl ntmps105 (Xa rfl) ?_
 rintro w0 M0 _ rfl
 refine PH ?_;refine KF 6 Ph fun h6 ho6=>?_;refine ZW ?_
 refine xL 7 Za (xL 8 (Wu 6 Z') (xL 9 Za ?_));refine ZZ ?_
 rw [show List.replicate n (PV.val (.slice none 0 0))=vec n (fun i=>if i<0 then YP 4 n (fun _=>false) else .val (.slice none 0 0)) by rw [LI];exact Yi fun i _=>by rw [Qc oM]]
 refine Yl (ι:={k:Nat//k<=n}) (fun k=>⟨[(0,_,_),(3,_,_),(8,_,_),(9, .int .i64 k.1,Zb k.1)],[(6,h6, .own 92 1 n (vec n fun i=>if i<k.1 then YP 4 n (fun _=>false) else .val (.slice none 0 0)))]⟩) (fun k=>n-k.1) ⟨0,oM⟩ ?_
 rintro ⟨k,hk⟩
 dsimp only
 refine Ys ?_ ?_<;>intro hb10
 . (
 have hlt:k<n:=oM;have hl0:=Wz n (fun i=>if i<k then YP 4 n (fun _=>false) else PV.val (.slice none 0 0));refine Jh ?_;refine Y8 ?_;refine KF 15 Wr fun h15 ho15=>?_;refine xM (Zk 6 Z') ?_;refine Zs8 6 k Zy GU ?_;refine Ox ?_;refine ZJ (To (l:=6) (l':=15) (j:=k) rfl (XK (by rw [Wz];omega)) rfl rfl) fun _=>?_;rw [show List.replicate n (PV.val (.bool false))=vec n (fun _=>Zr false) from LI _ _,ZnT];refine Yk (
  ⟨k+1,oM⟩
  ))
 refine ZP ?_;refine Gm 6 results105 rfl rfl ?_;obtain rfl:k=n:=oM;show PV.own _ _ _ _=PV.own _ _ _ _;congr 1;exact Yi fun i hi=>by rw [Qd hi]
def ixN (l:List BA) (s:BA):Nat:=(idx (fun x=>W7 x s) l).toNat
def SV {l:List BA} {s:BA} (h:hasStr l s=true):idx (fun x=>W7 x s) l=(ixN l s:Int)/\ixN l s<l.length:=by
 have h1:=ZgL (fun x=>W7 x s) l
 have h2:0<=idx (fun x=>W7 x s) l:=by
  have:=LS (fun x=>W7 x s) l;rw [show l.any (fun x=>W7 x s)=true from h] at this;exact Qf this
 unfold ixN
 omega
def Zi2 (l:List BA) (rest:List PV) (s:BA) (h:hasStr l s=true):AF prog 147 [.sptr 0 (ZX l::rest),Zx s] (· =Zb (ixN l s:Nat)):=by
 refine AF.b2 11 func147 rfl ntmps147 (Xa rfl) ?_
 rintro w0 M0 v0 _-rfl
 refine WK ?_
 refine xL 5 Za (xL 6 Ku (xL 7 (Yg Js) ?_));refine yU (Zw ZG) fun v8=>?_;refine YU ?_;refine cV (cA call116 (CB l s)) ?_;refine ZD ?_
 refine Zg results147 rfl ?_
 rw [(SV h).1]
def W3 (acts:List BA) (l:List Flw) (i j:Nat):Bool:=l.any fun f=>ixN acts f.src==i&&ixN acts f.dst==j
def Y5 (acts:List BA) (l:List Cnt) (i:Nat):Bool:=l.any fun c=>ixN acts c.name==i
def Zhk {acts:List BA} {l:List Flw} {k:Nat} {f:Flw} (h:l[k]? =some f) (i j:Nat):W3 acts (l.take (k+1)) i j=(W3 acts (l.take k) i j||(ixN acts f.src==i&&ixN acts f.dst==j)):=by
 unfold W3;rw [ZR h,UE];simp
def Zhl {acts:List BA} {l:List Cnt} {k:Nat} {c:Cnt} (h:l[k]? =some c) (i:Nat):Y5 acts (l.take (k+1)) i=(Y5 acts (l.take k) i||(ixN acts c.name==i)):=by
 unfold Y5;rw [ZR h,UE];simp
def Zch {acts:List BA} {l:List Flw} {k:Nat} {f:Flw} (h:l[k]? =some f) (i j:Nat):W3 acts (l.take (k+1)) i j=if i=ixN acts f.src then (if j=ixN acts f.dst then true else W3 acts (l.take k) (ixN acts f.src) j) else W3 acts (l.take k) i j:=by
 rw [Zhk h]
 generalize ixN acts f.src=a
 generalize ixN acts f.dst=b
 by_cases h1:i=a
 . subst h1;rw [Qd rfl];by_cases h2:j=b
   . subst h2;simp
   rw [Qc h2,show (b==j)=false from beq_eq_false_iff_ne.2 (Ne.symm h2)];simp
 rw [Qc h1,show (a==i)=false from beq_eq_false_iff_ne.2 (Ne.symm h1)];simp
def Dm {acts:List BA} {l:List Cnt} {k:Nat} {c:Cnt} (h:l[k]? =some c) (i:Nat):Y5 acts (l.take (k+1)) i=if i=ixN acts c.name then true else Y5 acts (l.take k) i:=by
 rw [Zhl h]
 generalize ixN acts c.name=a
 by_cases h1:i=a
 . subst h1;simp
 rw [Qc h1,show (a==i)=false from beq_eq_false_iff_ne.2 (Ne.symm h1)];simp
def Zte (g:Dfg):List PV:=[ZX (cnames g.acts),EY g.acts.length (W3 (cnames g.acts) g.follows),Wq g.acts.length (Y5 (cnames g.acts) g.starts),Wq g.acts.length (Y5 (cnames g.acts) g.ends)]
def Zqs (g:Dfg):PV:= .sptr 0 (Zte g)
def Dn {g:Dfg} (h:JM g=true):(cnames g.acts).length<=40/\(∀c∈g.starts,hasStr (cnames g.acts) c.name=true)/\(∀c∈g.ends,hasStr (cnames g.acts) c.name=true)/\(∀f∈g.follows,hasStr (cnames g.acts) f.src=true/\hasStr (cnames g.acts) f.dst=true):=by
 unfold JM JH EW at h
 simp only [Xf,Xj,U'] at h
 obtain ⟨⟨⟨⟨⟨⟨⟨h1,h2⟩,h3⟩,h4⟩,h5⟩,h6⟩,h7⟩,h8⟩:=h
 refine ⟨h1.1.1,fun c hc=>h2.2 _ (Xp.2 ⟨c,hc,rfl⟩),fun c hc=>h3.2 _ (Xp.2 ⟨c,hc,rfl⟩),fun f hf=>?_⟩
 have:=h7 f hf
 unfold SU at this
 simp only [Xf] at this
 exact ⟨this.1.2,this.2⟩
def Zfr {e e' n a b:Nat} {f f':Nat->Nat->Bool} (hf:∀i j,i<n->j<n->f' i j=if i=a then (if j=b then true else f a j) else f i j):(vec n fun i=>YP e' n (f i)).set a (.own e' 1 n ((vec n fun j=>Zr (f a j)).set (b*1) (Zr true)))=vec n fun i=>YP e' n (f' i):=by
 rw [XJ,Lk,Lk]
 refine Yi fun i hi=>?_
 by_cases h:i=a
 . subst h;rw [Qd rfl];show PV.own _ _ _ _=PV.own _ _ _ _;congr 1;refine Yi fun j hj=>?_;rw [hf i j hi hj,Qd rfl];split<;>rfl
 rw [Qc h];show PV.own _ _ _ _=PV.own _ _ _ _;congr 1;refine Yi fun j hj=>?_;rw [hf i j hi hj,Qc h]
def SX {n a:Nat} {f f':Nat->Bool} (hf:∀i,i<n->f' i=if i=a then true else f i):(vec n fun i=>Zr (f i)).set (a*1) (Zr true)=vec n fun i=>Zr (f' i):=by
 rw [XJ,Lk]
 refine Yi fun i hi=>?_
 rw [hf i hi];split<;>rfl
def Do {sL hP:List (Nat×Ent)} {l e k e' n:Nat} {h:Value} {acts:List BA} {rest:List PV} (hl:lk hP l=some (h, .own e k 1 (.own e' 1 n (acts.map Zx)::rest))) (hn:n=acts.length):Om (⟨sL,hP⟩:St) (padd (sbase h) 0) (.sptr 0 (ZX acts::Wi rest)):=by
 have:=ZbN (sL:=sL) (j:=0) hl Vi
 rw [Wi,J6,hn] at this
 exact this
def Dp {n i:Nat} {e:Nat} (f:Nat->Nat->Bool) (h:i<n):(vec n fun i=>YP e n (f i))[i]? =some (YP e n (f i)):=PS _ h
def CK {Hs:List Value} {i:Nat} {v:Value} (h:Hs[i]? =some v):(Hs.map PV.val)[i*1]? =some (.val v):=by rw [XJ,Xl,h];rfl
def Ztf (g : Dfg) (hg:JM g=true) (hfl:g.follows.length<=140737488355328) (hsl:g.starts.length<=140737488355328) (hel:g.ends.length<=140737488355328):AF prog 104 [Ji g] (· =Zqs g):=by
 obtain ⟨hn40,hst,hen,hfo⟩:=Dn hg
 have hna:(cnames g.acts).length=g.acts.length:=by simp [cnames]
 refine AF.b1 101 func104 rfl ntmps104 (Xa rfl) fun w0 M0 v0 _=>?_
 refine Zi ?_
 refine Z4 1 4 fun h1=>?_;refine ZW ?_
 refine xM (Zc 1 KL) ?_;refine yU (Zf 1 YN) fun v14=>?_;refine xL 15 (Zu YA) (xL 3 Wj ?_);refine ZZ ?_
 refine Ja (fun x:{x:Value×Value×Value×Value×Value//x.2.2.2.2.oneCell'=true}=>⟨[(1,padd (sbase h1) 0, .val (padd (sbase h1) 0)),(4,padd (sbase x.1.1) 0, .val (padd (sbase x.1.1) 0))],[(1,h1, .own 34 4 1 [Jf g.acts,Jf g.starts,Jf g.ends,HN g.follows]),(23,x.1.1, .own 95 4 1 [.val (.slice none 0 0), .val x.1.2.1, .val x.1.2.2.1, .val x.1.2.2.2.1]),(17,x.1.2.1,ZkS 92 4 g.acts.length (fun _ _=>false)),(19,x.1.2.2.1, .own 4 1 g.acts.length (List.replicate g.acts.length (.val (.bool false)))),(21,x.1.2.2.2.1, .own 4 1 g.acts.length (List.replicate g.acts.length (.val (.bool false))))]⟩) ?_ ?_
 . (refine Yx [] [] ?_<;>refine gDx 0 ?_<;>refine gDx 2 ?_<;>refine gDx 4 ?_<;>(refine ZmU 1 3 5 kR ?_ ?_ ?_;rotate_right;(focus ((refine aWr fun bk=>?_)<;>refine KF 21 Wr fun h21 ho21=>?_<;>refine bE bk ?_<;>(refine WJ 1 3 kR ?_ ?_;rotate_right;(focus ((refine aWr fun bk=>?_)<;>refine KF 19 Wr fun h19 ho19=>?_<;>refine bE bk ?_<;>(refine aDr 1 fun bk=>?_)<;>refine cO 17 (cA call105 (Sy g.acts.length oM)) fun v17 ho17=>?_<;>refine bE bk ?_<;>refine xE 6 rfl (ZA Sx) ?_<;>(refine aDr 7 fun bk=>?_)<;>refine Z4 23 4 fun h23=>?_<;>refine bE bk ?_<;>refine gEx 8 ?_));rotate_right;(focus ((refine aWr fun bk=>?_)<;>refine cO 17 (cA call105 (Sy g.acts.length oM)) fun v17 ho17=>?_<;>refine bE bk ?_<;>(refine aDr 3 fun bk=>?_)<;>refine KF 19 Wr fun h19 ho19=>?_<;>refine bE bk ?_<;>refine xE 6 rfl (ZA Sx) ?_<;>(refine aDr 7 fun bk=>?_)<;>refine Z4 23 4 fun h23=>?_<;>refine bE bk ?_<;>refine gEx 8 ?_)))));rotate_right;(focus ((refine aWr fun bk=>?_)<;>refine KF 19 Wr fun h19 ho19=>?_<;>refine bE bk ?_<;>(refine WJ 1 5 kR ?_ ?_;rotate_right;(focus ((refine aWr fun bk=>?_)<;>refine KF 21 Wr fun h21 ho21=>?_<;>refine bE bk ?_<;>(refine aDr 1 fun bk=>?_)<;>refine cO 17 (cA call105 (Sy g.acts.length oM)) fun v17 ho17=>?_<;>refine bE bk ?_<;>refine xE 6 rfl (ZA Sx) ?_<;>(refine aDr 7 fun bk=>?_)<;>refine Z4 23 4 fun h23=>?_<;>refine bE bk ?_<;>refine gEx 8 ?_));rotate_right;(focus ((refine aWr fun bk=>?_)<;>refine cO 17 (cA call105 (Sy g.acts.length oM)) fun v17 ho17=>?_<;>refine bE bk ?_<;>(refine aDr 5 fun bk=>?_)<;>refine KF 21 Wr fun h21 ho21=>?_<;>refine bE bk ?_<;>refine xE 6 rfl (ZA Sx) ?_<;>(refine aDr 7 fun bk=>?_)<;>refine Z4 23 4 fun h23=>?_<;>refine bE bk ?_<;>refine gEx 8 ?_)))));rotate_right;(focus ((refine aWr fun bk=>?_)<;>refine cO 17 (cA call105 (Sy g.acts.length oM)) fun v17 ho17=>?_<;>refine bE bk ?_<;>(refine WJ 3 5 kR ?_ ?_;rotate_right;(focus ((refine aWr fun bk=>?_)<;>refine KF 21 Wr fun h21 ho21=>?_<;>refine bE bk ?_<;>(refine aDr 3 fun bk=>?_)<;>refine KF 19 Wr fun h19 ho19=>?_<;>refine bE bk ?_<;>refine xE 6 rfl (ZA Sx) ?_<;>(refine aDr 7 fun bk=>?_)<;>refine Z4 23 4 fun h23=>?_<;>refine bE bk ?_<;>refine gEx 8 ?_));rotate_right;(focus ((refine aWr fun bk=>?_)<;>refine KF 19 Wr fun h19 ho19=>?_<;>refine bE bk ?_<;>(refine aDr 5 fun bk=>?_)<;>refine KF 21 Wr fun h21 ho21=>?_<;>refine bE bk ?_<;>refine xE 6 rfl (ZA Sx) ?_<;>(refine aDr 7 fun bk=>?_)<;>refine Z4 23 4 fun h23=>?_<;>refine bE bk ?_<;>refine gEx 8 ?_))))))<;>refine Wo ?_)<;>(
 exact Yo ⟨(h23,v17,h19,h21, .bool true),rfl⟩ sB sB)
 . rintro ⟨⟨h23, h17,h19,h21,_⟩,_⟩;dsimp only;refine Zi ?_;refine xM (Zc 1 KL) ?_;refine yU (Zf 1 YN) fun v25=>?_;refine xL 26 (Zu YA) (xL 27 Za ?_);refine ZZ ?_;refine Zs (YO 200 9 1 rfl) fun _=>?_;refine Yl (ι:={x:Nat×Value//x.1<=g.acts.length}) (fun k=>⟨[(1,_,_),(4,_,_),(25,_,_),(26,_,_),(27, .int .i64 k.1.1,Zb k.1.1)],[(1,_,_),(17,_,_),(19,_,_),(21,_,_),(23,h23, .own 95 4 1 [.val k.1.2, .val h17, .val h19, .val h21]),(200,k.1.2, .own 9 1 k.1.1 ((cnames (g.acts.take k.1.1)).map Zx))]⟩) (fun k=>g.acts.length-k.1.1) ⟨(0, .slice none 0 0),oM⟩ ?_;rintro ⟨⟨k,h3⟩,hk⟩;dsimp only;dsimp only at hk;refine Ys ?_ ?_<;>intro hb28
   . (
 obtain ⟨x,hx⟩:=gS g.acts k;have e1:=Y4 YM g.acts k x hx;have e2:=Ww YM hx;(have e3:((cnames (g.acts.take k)).map Zx).length=k:=by simp [cnames];omega);refine Zi ?_;refine xM (Ze YA) ?_;refine yU (We KI) fun v30=>?_;refine Zt [(.string ByteArray.empty),(.int .i64 0)] 2 6 SS fun h6=>?_;refine Zn 6 KI ?_;refine ZZ ?_;(refine Yx [11] [23,6] ?_<;>refine gDx 0 ?_<;>refine gDx 1 ?_<;>refine xD 2 rfl (RH 23) ?_<;>refine xD 3 rfl (Zc 23 Js) ?_<;>(refine yD 4 rfl (Zf 23 ZG) fun v35 h=>?_;cases h)<;>refine xE 5 rfl (Zc 6 WP) ?_<;>(refine yE 6 rfl (Zf 6 ZE) fun v37 h=>?_;cases h)<;>(refine aDr 7 fun bk=>?_)<;>refine WE (kk:=1) 38 YX fun h38 ho38=>?_<;>refine bE bk ?_<;>(refine aDr 8 fun bk=>?_)<;>refine Y7 200 38 39 YX fun h39 ho39=>?_<;>refine bE bk ?_<;>refine xE 9 rfl (RH 23) ?_<;>refine xE 10 rfl (Zc 23 Js) ?_<;>(refine ZY 11 kR ?_)<;>(refine Wx rfl rfl kR fun DQ bk=>?_)<;>refine JY 23 ZG Dl ?_<;>refine WC (bk _ (nav ?_))<;>try dsimp only)
 refine Gt ?_;refine ZJ (ZK (l:=39) 200 rfl rfl) fun _=>?_;rw [show (cnames (g.acts.take k)).map Zx++[Zx x.name]=(cnames (g.acts.take (k+1))).map Zx by rw [T0 hx,XX];rfl];refine Yk (
  ⟨(k+1,h39),by show k+1<=g.acts.length;omega⟩
  ))
   . (
 refine Zi ?_;refine xM (Zc 1 KM) ?_;refine yU (Zf 1 JL) fun v44=>?_;refine xL 45 (Zu WQ) (xL 46 Za ?_);refine ZZ ?_;obtain rfl:k=g.acts.length:=oM;rw [Xx];refine Zs (To (l:=23) (l':=200) (j:=0) rfl rfl rfl rfl) fun _=>?_;refine Zs (Zda (l:=17) 201 rfl rfl) fun Hs=>?_;obtain ⟨Hs,hHs⟩:=Hs;rw [Wz] at hHs;dsimp only;refine Yl (ι:={k:Nat//k<=g.follows.length}) (fun k=>⟨[(1,_,_),(4,_,_),(44,_,_),(45,_,_),(46, .int .i64 k.1,Zb k.1)],[(1,_,_),(23,_,_),(17,_,_),(19,_,_),(21,_,_),(201, .agg Hs.toArray, .agg (vec g.acts.length fun i=>YP 4 g.acts.length (W3 (cnames g.acts) (g.follows.take k.1) i)))]⟩) (fun k=>g.follows.length-k.1) ⟨0,oM⟩ ?_;rintro ⟨k,hk⟩;dsimp only;refine Ys ?_ ?_<;>intro hb47
 . (
 obtain ⟨x,hx⟩:=gS g.follows k;have e1:=Y4 Wk g.follows k x hx;have e2:=Ww Wk hx;have hxa:=(hfo x (Xb hx)).1;have hxb:=(hfo x (Xb hx)).2;have ha:=(SV hxa).2;have hb:=(SV hxb).2;rw [hna] at ha hb;obtain ⟨ra,hra⟩:=gS Hs (ixN (cnames g.acts) x.src);have e3:=CK hra;have e4:=Dp (e:=4) (W3 (cnames g.acts) (g.follows.take k)) ha;have e5:=Wz g.acts.length (fun j=>Zr (W3 (cnames g.acts) (g.follows.take k) (ixN (cnames g.acts) x.src) j));refine Zi ?_;refine xM (Ze WQ) ?_;refine yU (We LH) fun v49=>?_;refine Zt [(.string ByteArray.empty),(.string ByteArray.empty),(.int .i64 0)] 3 8 Zap fun h8=>?_;refine Zn 8 LH ?_;refine ZZ ?_;(refine Yx [15] [23,8,17,201] ?_<;>refine gDx 0 ?_<;>refine xD 1 rfl (RH 23) ?_<;>refine xD 2 rfl (Zc 23 K5) ?_<;>(refine yD 3 rfl (Zf 23 Yj) fun v53 h=>?_;cases h)<;>refine gDx 4 ?_<;>refine xD 5 rfl (Zc 8 KD) ?_<;>(refine yD 6 rfl (Zf 8 ZE) fun v56 h=>?_;cases h)<;>refine gDx 10 ?_<;>refine xD 11 rfl (Zc 8 KY) ?_<;>(refine yD 12 rfl (Zf 8 ZE) fun v62 h=>?_;cases h)<;>(refine ZY 7 kR ?_)<;>(refine Ym (d:=57) rfl (cB rfl call147 (Zi2 (cnames g.acts) _ x.src hxa) ⟨⟨_,_,rfl,Do (l:=23) rfl hna.symm⟩,⟨_,_,rfl,Gr (x:= .tmp 56) rfl⟩,trivial⟩) fun v57 h=>?_;cases h)<;>refine xD 8 rfl (Zk 17 Z') ?_<;>(refine yD 9 rfl (Zf 17 Zy) fun v59 h=>?_;cases h)<;>(refine ZY 13 kR ?_)<;>(refine Ym (d:=63) rfl (cB rfl call147 (Zi2 (cnames g.acts) _ x.dst hxb) ⟨⟨_,_,rfl,Do (l:=23) rfl hna.symm⟩,⟨_,_,rfl,Gr (x:= .tmp 62) rfl⟩,trivial⟩) fun v63 h=>?_;cases h)<;>refine xE 14 rfl (SJ 201 ZI) ?_<;>(refine ZY 15 kR ?_)<;>(refine Wx rfl rfl kR fun DQ bk=>?_)<;>refine Zeo 201 ZT GD ?_<;>refine WC (bk _ (nav ?_))<;>try dsimp only)
 refine Gt ?_;rw [Zfr (e:=0) (f':=W3 (cnames g.acts) (g.follows.take (k+1))) fun i j _ _=>Zch hx i j];refine Yk (
  ⟨k+1,oM⟩
  ))
 refine Zi ?_;refine xM (Zc 1 GC) ?_;refine yU (Zf 1 YN) fun v67=>?_;refine xL 68 (Zu YA) (xL 69 Za ?_);refine ZZ ?_;obtain rfl:k=g.follows.length:=oM;rw [Xx,show List.replicate g.acts.length (PV.val (.bool false))=vec g.acts.length (fun i=>Zr (Y5 (cnames g.acts) [] i)) from LI _ _];refine Yl (ι:={k:Nat//k<=g.starts.length}) (fun k=>⟨[(1,_,_),(4,_,_),(67,_,_),(68,_,_),(69, .int .i64 k.1,Zb k.1)],[(1,_,_),(23,_,_),(17,_,_),(201,_,_),(21,_,_),(19,h19,YP 4 g.acts.length (Y5 (cnames g.acts) (g.starts.take k.1)))]⟩) (fun k=>g.starts.length-k.1) ⟨0,oM⟩ ?_;rintro ⟨k,hk⟩;dsimp only;refine Ys ?_ ?_<;>intro hb70
 . (
 obtain ⟨x,hx⟩:=gS g.starts k;have e1:=Y4 YM g.starts k x hx;have e2:=Ww YM hx;have hxa:=hst x (Xb hx);have ha:=(SV hxa).2;rw [hna] at ha;have e5:=Wz g.acts.length (fun j=>Zr (Y5 (cnames g.acts) (g.starts.take k) j));refine Zi ?_;refine xM (Ze YA) ?_;refine yU (We KI) fun v72=>?_;refine Zt [(.string ByteArray.empty),(.int .i64 0)] 2 10 SS fun h10=>?_;refine Zn 10 KI ?_;refine ZZ ?_;(refine Yx [9] [23,10,19] ?_<;>refine gDx 0 ?_<;>refine xD 1 rfl (RH 23) ?_<;>refine xD 2 rfl (Zc 23 T1) ?_<;>(refine yD 3 rfl (Zf 23 Zy) fun v76 h=>?_;cases h)<;>refine gDx 4 ?_<;>refine xE 5 rfl (Zc 10 WP) ?_<;>(refine yE 6 rfl (Zf 10 ZE) fun v79 h=>?_;cases h)<;>(refine ZY 7 kR ?_)<;>(refine Ym (d:=80) rfl (cB rfl call147 (Zi2 (cnames g.acts) _ x.name hxa) ⟨⟨_,_,rfl,Do (l:=23) rfl hna.symm⟩,⟨_,_,rfl,Gr (x:= .tmp 79) rfl⟩,trivial⟩) fun v80 h=>?_;cases h)<;>refine xE 8 rfl (Zk 19 ZI) ?_<;>(refine ZY 9 kR ?_)<;>(refine Wx rfl rfl kR fun DQ bk=>?_)<;>refine JY 19 ZT GD ?_<;>refine WC (bk _ (nav ?_))<;>try dsimp only)
 refine Gt ?_;rw [SX (f':=Y5 (cnames g.acts) (g.starts.take (k+1))) fun i _=>Dm hx i];refine Yk (
  ⟨k+1,oM⟩
  ))
 refine Zi ?_;refine xM (Zc 1 Jq) ?_;refine yU (Zf 1 YN) fun v84=>?_;refine xL 85 (Zu YA) (xL 86 Za ?_);refine ZZ ?_;obtain rfl:k=g.starts.length:=oM;rw [Xx];refine Yl (ι:={k:Nat//k<=g.ends.length}) (fun k=>⟨[(1,_,_),(4,_,_),(84,_,_),(85,_,_),(86, .int .i64 k.1,Zb k.1)],[(1,_,_),(23,_,_),(17,_,_),(201,_,_),(19,_,_),(21,h21,YP 4 g.acts.length (Y5 (cnames g.acts) (g.ends.take k.1)))]⟩) (fun k=>g.ends.length-k.1) ⟨0,oM⟩ ?_;rintro ⟨k,hk⟩;dsimp only;refine Ys ?_ ?_<;>intro hb87
 . (
 obtain ⟨x,hx⟩:=gS g.ends k;have e1:=Y4 YM g.ends k x hx;have e2:=Ww YM hx;have hxa:=hen x (Xb hx);have ha:=(SV hxa).2;rw [hna] at ha;have e5:=Wz g.acts.length (fun j=>Zr (Y5 (cnames g.acts) (g.ends.take k) j));refine Zi ?_;refine xM (Ze YA) ?_;refine yU (We KI) fun v89=>?_;refine Zt [(.string ByteArray.empty),(.int .i64 0)] 2 12 SS fun h12=>?_;refine Zn 12 KI ?_;refine ZZ ?_;(refine Yx [9] [23,12,21] ?_<;>refine gDx 0 ?_<;>refine xD 1 rfl (RH 23) ?_<;>refine xD 2 rfl (Zc 23 T2) ?_<;>(refine yD 3 rfl (Zf 23 Zy) fun v93 h=>?_;cases h)<;>refine gDx 4 ?_<;>refine xE 5 rfl (Zc 12 WP) ?_<;>(refine yE 6 rfl (Zf 12 ZE) fun v96 h=>?_;cases h)<;>(refine ZY 7 kR ?_)<;>(refine Ym (d:=97) rfl (cB rfl call147 (Zi2 (cnames g.acts) _ x.name hxa) ⟨⟨_,_,rfl,Do (l:=23) rfl hna.symm⟩,⟨_,_,rfl,Gr (x:= .tmp 96) rfl⟩,trivial⟩) fun v97 h=>?_;cases h)<;>refine xE 8 rfl (Zk 21 ZI) ?_<;>(refine ZY 9 kR ?_)<;>(refine Wx rfl rfl kR fun DQ bk=>?_)<;>refine JY 21 ZT GD ?_<;>refine WC (bk _ (nav ?_))<;>try dsimp only)
 refine Gt ?_;rw [SX (f':=Y5 (cnames g.acts) (g.ends.take (k+1))) fun i _=>Dm hx i];refine Yk (
  ⟨k+1,oM⟩
  ))
 refine ZP ?_;obtain rfl:k=g.ends.length:=oM;rw [Xx];refine YK (Zdb (l:=17) (l':=201) rfl rfl rfl rfl) fun _=>?_;refine YK (To (l:=23) (l':=17) (j:=1) rfl rfl rfl rfl) fun _=>?_;refine YK (To (l:=23) (l':=19) (j:=2) rfl rfl rfl rfl) fun _=>?_;refine YK (To (l:=23) (l':=21) (j:=3) rfl rfl rfl rfl) fun _=>?_;refine YK (TH (l:=23) (t:=2) (j:=0) rfl Vi rfl) fun _=>?_;refine Zg results104 rfl ?_;show PV.sptr 0 (Wi [_,ZkS 92 4 _ _,YP _ _ _,YP _ _ _])=Zqs g;rw [Wi,Wi,Wi,Wi,Wi,Dk,Jr,Jr,J6];unfold Zqs Zte ZX;rw [hna])
def Yu:AggT prog 34 4=true:=kR
def JN (E:Nat->Nat->Bool) (k i j a b:Nat):Bool:=if a<i\/(a=i/\b<j) then war E (k+1) a b else war E k a b
def ZkU (E:Nat->Nat->Bool) (k i j a:Nat):JN E k i j a k=war E k a k:=by
 unfold JN
 split
 . rw [Zi0]
 rfl
def ZkV (E:Nat->Nat->Bool) (k i j b:Nat):JN E k i j k b=war E k k b:=by
 unfold JN
 split
 . rw [Zi1]
 rfl
def Zhm (E:Nat->Nat->Bool) (k i j:Nat):JN E k i j i j=war E k i j:=by unfold JN;rw [Qc oM]
def Zhn {e n k i j:Nat} {E:Nat->Nat->Bool} {x:Bool} (hx:x=war E (k+1) i j):(vec n fun a=>YP e n (JN E k i j a)).set i (.own e 1 n ((vec n fun b=>Zr (JN E k i j i b)).set (j*1) (Zr x)))=vec n fun a=>YP e n (JN E k i (j+1) a):=by
 subst hx
 rw [XJ,Lk,Lk]
 refine Yi fun a ha=>?_
 by_cases h:a=i
 . subst h;rw [Qd rfl];show PV.own _ _ _ _=PV.own _ _ _ _;congr 1;refine Yi fun b hb=>?_;by_cases h2:b=j
   . subst h2;rw [Qd rfl];unfold JN;rw [Qd oM]
   rw [Qc h2];unfold JN;by_cases h3:b<j
   . rw [Qd oM,Qd oM]
   rw [Qc oM,Qc oM]
 rw [Qc h];show PV.own _ _ _ _=PV.own _ _ _ _;congr 1;refine Yi fun b hb=>?_;unfold JN;by_cases h3:a<i
 . rw [Qd oM,Qd oM]
 rw [Qc oM,Qc oM]
def Zsk {E:Nat->Nat->Bool} {k i j:Nat} (h:war E k i j=true):true=war E (k+1) i j:=by simp [war,h]
def Zsl {E:Nat->Nat->Bool} {k i j:Nat} (h:war E k i j=false) (h2:war E k i k=true):war E k k j=war E (k+1) i j:=by simp [war,h,h2]
def Zsm {E:Nat->Nat->Bool} {k i j:Nat} (h:war E k i j=false) (h2:war E k i k=false):false=war E (k+1) i j:=by simp [war,h,h2]
def Zho {n k i:Nat} {E:Nat->Nat->Bool} (e:Nat):(vec n fun a=>YP e n (JN E k i n a))=vec n fun a=>YP e n (JN E k (i+1) 0 a):=by
 refine Yi fun a ha=>?_
 show PV.own _ _ _ _=PV.own _ _ _ _
 congr 1
 refine Yi fun b hb=>?_
 unfold JN
 by_cases h:a<=i
 . rw [Qd oM,Qd oM]
 rw [Qc oM,Qc oM]
def ZkW {n k:Nat} {E:Nat->Nat->Bool} (e:Nat):(vec n fun a=>YP e n (JN E k n 0 a))=vec n fun a=>YP e n (war E (k+1) a):=by
 refine Yi fun a ha=>?_
 show PV.own _ _ _ _=PV.own _ _ _ _
 congr 1
 refine Yi fun b hb=>?_
 unfold JN
 rw [Qd oM]
def Zfs {n k:Nat} {E:Nat->Nat->Bool} (e:Nat):(vec n fun a=>YP e n (war E k a))=vec n fun a=>YP e n (JN E k 0 0 a):=by
 refine Yi fun a ha=>?_
 show PV.own _ _ _ _=PV.own _ _ _ _
 congr 1
 refine Yi fun b hb=>?_
 unfold JN
 rw [Qc oM]
def Z0 {α:Type} {n i:Nat} (f:Nat->α) (h:i<n):(vec n f)[i*1]? =some (f i):=by rw [XJ];exact PS f h
def Zqt {α:Type} {n:Nat} {f:Nat->α} {p:α->Bool} (h:∀i,p (f i)=true):(vec n f).all p=true:=by
 unfold vec;rw [VK,Xj];exact fun i _=>h i
def ZkX {e n k:Nat} {E:Nat->Nat->Bool} (v:Value):(((vec n fun i=>YP e n (fun j=>if i<k then E i j else false)).set k (.val v)).set k (.own e 1 n (vec n fun j=>Zr (E k j))))=vec n fun i=>YP e n (fun j=>if i<k+1 then E i j else false):=by
 rw [X4,Lk]
 refine Yi fun a ha=>?_
 by_cases h:a=k
 . subst h;rw [Qd rfl];show PV.own _ _ _ _=PV.own _ _ _ _;congr 1;exact Yi fun b hb=>by dsimp only;rw [Qd oM]
 rw [Qc h];show PV.own _ _ _ _=PV.own _ _ _ _;congr 1;refine Yi fun b hb=>?_;dsimp only;by_cases h3:a<k
 . rw [Qd h3,Qd oM]
 rw [Qc h3,Qc oM]
def Zft (l :List BA) (n:Nat) (E:Nat->Nat->Bool) (s f:PV) (hl:l.length=n) (hn:n<=1000):AF prog 51 [.sptr 0 [ZX l,EY n E,s,f]] (· =EY n (ZU n E)):=by
 refine AF.b1 82 func51 rfl ntmps51 (Xa rfl) fun w0 M0 v0 _=>?_
 refine WK ?_
 refine xL 8 Za (xL 9 Ku (xL 10 (Yg Js) ?_));refine yU (Zw ZG) fun v11=>?_;refine xM (Zu Zo) ?_;refine cO 13 (cA call105 (Sy l.length oM)) fun v13 ho13=>?_;refine ZW ?_
 refine xL 14 Za (xL 15 (Wu 13 Z') (xL 16 Za ?_));refine ZZ ?_
 rw [hl]
 refine Zs (Zda (l:=13) 200 rfl rfl) fun Hs=>?_
 obtain ⟨Hs,hHs⟩:=Hs
 rw [Wz] at hHs
 dsimp only
 rw [show (vec n fun i=>YP 4 n (fun _=>false))=vec n (fun i=>YP 4 n (fun j=>if i<0 then E i j else false)) from Yi fun i _=>by congr 1]
 refine Yl (ι:={k:Nat//k<=n}) (fun k=>⟨[(0,_,_),(3,_,_),(15,_,_),(16, .int .i64 k.1,Zb k.1)],[(13,_,_),(200, .agg Hs.toArray, .agg (vec n fun i=>YP 4 n (fun j=>if i<k.1 then E i j else false)))]⟩) (fun k=>n-k.1) ⟨0,oM⟩ ?_
 rintro ⟨k,hk⟩
 dsimp only
 refine Ys ?_ ?_<;>intro hb17
 . (
 have hlt:k<n:=oM;obtain ⟨rk,hrk⟩:=gS Hs k;have e1:=CK hrk;have e2:=Z0 (fun i=>Wq n (E i)) hlt;refine Zs (Ziq (l:=200) (i:=k) 201 rfl hrk (PS _ hlt) rfl) fun _=>?_;refine ZP ?_;refine Yx [] [13] ?_<;>refine gDx 0 ?_<;>refine gDx 1 ?_<;>refine xD 2 rfl (Zk 13 Z') ?_<;>(refine yD 3 rfl (Zf 13 Zy) fun v22 h=>?_;cases h)<;>refine gDx 4 ?_<;>refine xD 5 rfl Ku ?_<;>refine xD 6 rfl (Yg K5) ?_<;>(refine yD 7 rfl (Zw Yj) fun v26 h=>?_;cases h)<;>refine gEx 8 ?_<;>refine xE 9 rfl (Ze Z') ?_<;>(refine yE 10 rfl (Zw Zy) fun v29 h=>?_;cases h)<;>(refine aDr 11 fun bk=>?_)<;>refine Zr3 201 30 ZI ?_ (Wz _ _) (Zqt fun _=>rfl)<;>refine bE bk ?_<;>refine Wo ?_;refine Gt ?_;refine ZJ (Zir (l:=200) (l':=201) (i:=k) rfl hrk (XK (by rw [Wz];omega)) rfl rfl) fun _=>?_;rw [ZkX];refine Yk (
  ⟨k+1,oM⟩
  ))
 refine Zi ?_;refine xL 32 Za (xL 33 (Wu 13 Z') (xL 34 Za ?_));refine ZZ ?_;rw [show (vec n fun i=>YP 4 n (fun j=>if i<k then E i j else false))=vec n (fun i=>YP 4 n (war E 0 i)) from Yi fun i hi=>by
  show PV.own _ _ _ _=PV.own _ _ _ _;congr 1;exact Yi fun j _=>by dsimp only;rw [Qd (show i<k by omega)];rfl]
 refine Yl (ι:={m:Nat//m<=n}) (fun k=>⟨[(0,_,_),(3,_,_),(33,_,_),(34, .int .i64 k.1,Zb k.1)],[(13,_,_),(200, .agg Hs.toArray, .agg (vec n fun i=>YP 4 n (war E k.1 i)))]⟩) (fun k=>n-k.1) ⟨0,oM⟩ ?_;rintro ⟨m,hm⟩;dsimp only;refine Ys ?_ ?_<;>intro hb35
 . (
 refine Jh ?_;refine xL 37 Za (xL 38 (Wu 13 Z') (xL 39 Za ?_));refine ZZ ?_;rw [Zfs];refine Yl (ι:={i:Nat//i<=n}) (fun k=>⟨[(0,_,_),(3,_,_),(33,_,_),(34,_,_),(5,_,_),(38,_,_),(39, .int .i64 k.1,Zb k.1)],[(13,_,_),(200, .agg Hs.toArray, .agg (vec n fun a=>YP 4 n (JN E m k.1 0 a)))]⟩) (fun k=>n-k.1) ⟨0,oM⟩ ?_;rintro ⟨i,hi⟩;dsimp only;refine Ys ?_ ?_<;>intro hb40
 . (
 refine Jh ?_;refine xL 42 Za (xL 43 (Wu 13 Z') (xL 44 Za ?_));refine ZZ ?_;refine Yl (ι:={j:Nat//j<=n}) (fun k=>⟨[(0,_,_),(3,_,_),(33,_,_),(34,_,_),(5,_,_),(38,_,_),(39,_,_),(6,_,_),(43,_,_),(44, .int .i64 k.1,Zb k.1)],[(13,_,_),(200, .agg Hs.toArray, .agg (vec n fun a=>YP 4 n (JN E m i k.1 a)))]⟩) (fun k=>n-k.1) ⟨0,oM⟩ ?_;rintro ⟨j,hj⟩;dsimp only;refine Ys ?_ ?_<;>intro hb45
 . (
 have hmn:m<n:=oM;have hin:i<n:=oM;have hjn:j<n:=oM;obtain ⟨ri,hri⟩:=gS Hs i;obtain ⟨rm,hrm⟩:=gS Hs m;have e1:=CK hri;have e2:=CK hrm;have e3:=Dp (e:=4) (JN E m i j) hin;have e4:=Dp (e:=4) (JN E m i j) hmn;(have e5:(vec n fun b=>Zr (JN E m i j i b))[j*1]? =some (Zr (war E m i j)):=by rw [Z0 _ hjn,Zhm]);(have e6:(vec n fun b=>Zr (JN E m i j i b))[m*1]? =some (Zr (war E m i m)):=by rw [Z0 _ hmn,ZkU]);(have e7:(vec n fun b=>Zr (JN E m i j m b))[j*1]? =some (Zr (war E m m j)):=by rw [Z0 _ hjn,ZkV]);have e8:=Wz n (fun b=>Zr (JN E m i j i b));refine ZP ?_;(refine Yx [31] [13,200] ?_<;>refine gDx 0 ?_<;>refine gDx 1 ?_<;>refine xD 2 rfl (Zk 13 Z') ?_<;>(refine yD 3 rfl (Zf 13 Zy) fun v50 h=>?_;cases h)<;>refine gDx 4 ?_<;>refine gDx 5 ?_<;>refine gDx 6 ?_<;>refine xD 7 rfl (Zk 13 Z') ?_<;>(refine yD 8 rfl (Zf 13 Zy) fun v55 h=>?_;cases h)<;>refine gEx 9 ?_<;>refine xE 10 rfl (SJ 200 ZI) ?_<;>(refine yE 11 rfl (ZbU 200 ZT) fun v58 h=>?_;cases h)<;>refine gEx 12 ?_<;>(refine bD 59 (fun hb59=>?_) (fun hb59=>?_)<;>(first|refine kD 13 ?_|refine gDx 13 ?_))<;>(first|refine kD 14 ?_|refine gDx 14 ?_)<;>(first|refine kD 15 ?_|refine xD 15 rfl (Zk 13 Z') ?_)<;>(first|refine kD 16 ?_|(refine yD 16 rfl (Zf 13 Zy) fun v63 h=>?_;cases h))<;>(first|refine kD 17 ?_|refine gDx 17 ?_)<;>(first|refine kD 18 ?_|refine xD 18 rfl (SJ 200 ZI) ?_)<;>(first|refine kD 19 ?_|(refine yD 19 rfl (ZbU 200 ZT) fun v66 h=>?_;cases h))<;>(first|refine kD 20 ?_|refine gDx 20 ?_)<;>(first|refine kD 21 ?_|(refine bD 67 (fun hb67=>?_) (fun hb67=>?_)<;>(first|refine kD 21 ?_|refine gDx 21 ?_)))<;>(first|refine kD 22 ?_|refine gDx 22 ?_)<;>(first|refine kD 23 ?_|refine xD 23 rfl (Zk 13 Z') ?_)<;>(first|refine kD 24 ?_|(refine yD 24 rfl (Zf 13 Zy) fun v71 h=>?_;cases h))<;>(first|refine kD 25 ?_|refine gDx 25 ?_)<;>(first|refine kD 26 ?_|refine xD 26 rfl (SJ 200 ZI) ?_)<;>(first|refine kD 27 ?_|(refine yD 27 rfl (ZbU 200 ZT) fun v74 h=>?_;cases h))<;>(first|refine kD 28 ?_|refine gDx 28 ?_)<;>refine gEx 29 ?_<;>refine xE 30 rfl (SJ 200 ZI) ?_<;>(refine ZY 31 kR ?_)<;>(refine Wx rfl rfl kR fun DQ bk=>?_)<;>refine Zeo 200 ZT GD ?_<;>refine WC (bk _ (nav ?_))<;>try dsimp only)<;>(
 refine Gt ?_;rw [Zhn (by first|exact Zsk hb59|exact Zsl hb59 hb67|exact Zsm hb59 hb67)];refine Yk (
  ⟨j+1,oM⟩
  )))
 refine ZP ?_;rw [show j=n by omega,Zho];refine Yk (
  ⟨i+1,oM⟩
  ))
 refine ZP ?_;rw [show i=n by omega,ZkW];refine Yk (
  ⟨m+1,oM⟩
  ))
 refine ZP ?_;rw [show m=n by omega];refine YK (Zdb (l:=13) (l':=200) rfl rfl rfl rfl) fun _=>?_;refine YK (En.freeze (l:=13) (t:=2) rfl rfl) fun _=>?_;refine Zg results51 rfl ?_;exact Dk _ _ n (war E n)
def Zdz (n:Nat) (p:Nat->Bool):Bool:=(List.range n).all p
def Dq {n k:Nat} {p:Nat->Bool} (hk:k<n) (h:p k=false):Zdz n p=false:=V9.2 ⟨k,XT.2 hk,by rw [h];simp⟩
def Pi {n:Nat} {p:Nat->Bool} (h:∀j,j<n->p j=true):Zdz n p=true:=Xj.2 fun j hj=>h j (XT.1 hj)
def endsB (n:Nat) (E:Nat->Nat->Bool) (F:Nat->Bool) (a b:Nat):Bool:= !E a b||(F a&&Zdz n fun x=> !F x||E x b)
def OJ (n:Nat) (E:Nat->Nat->Bool) (S:Nat->Bool) (a b:Nat):Bool:= !E b a||(S a&&Zdz n fun x=> !S x||E b x)
def Y9 (n:Nat) (E:Nat->Nat->Bool) (S F:Nat->Bool) (a b:Nat):Bool:=endsB n E F a b&&OJ n E S a b
def Li (l:List BA) (n:Nat) (E:Nat->Nat->Bool) (S F:Nat->Bool):PV:= .sptr 0 [ZX l,EY n E,Wq n S,Wq n F]
def ZnU (l : List BA) (n:Nat) (E:Nat->Nat->Bool) (S F:Nat->Bool) (a b:Nat) (hl:l.length=n) (hn:n<=1000) (ha:a<n) (hb:b<n):AF prog 63 [Li l n E S F,Zb a,Zb b] (· =Zr (Y9 n E S F a b)):=by
 have ea:=Z0 (fun i=>Wq n (E i)) ha
 have eb:=Z0 (fun i=>Wq n (E i)) hb
 have eab:=Z0 (fun j=>Zr (E a j)) hb
 have eba:=Z0 (fun j=>Zr (E b j)) ha
 have fa:=Z0 (fun j=>Zr (F j)) ha
 have sa:=Z0 (fun j=>Zr (S j)) ha
 refine AF.b3 103 func63 rfl ntmps63 (Xa rfl) ?_
 rintro w0 M0 v0 _ _-rfl rfl
 dsimp only [Li]
 refine WK ?_
 refine xL 9 Za (xL 10 Ku (xL 11 (Yg K5) ?_));refine yU (Zw Yj) fun v12=>?_;refine xL 13 Za (xL 14 (Ze Z') ?_);refine yU (Zw Zy) fun v15=>?_;refine xL 16 Za (xL 17 (Ze ZI) ?_);refine yV (Zw ZT) ?_;refine ZZ ?_
 refine Ja (fun x:{x:Unit//endsB n E F a b=true}=>⟨[(0,v0,Li l n E S F),(1, .int .i64 a,Zb a),(2, .int .i64 b,Zb b)],[]⟩) ?_ ?_
 . refine cX ?_ ?_ <;>intro hb18
   . (
 refine Zi ?_;refine xL 19 Za (xL 20 Ku (xL 21 (Yg T2) ?_));refine yU (Zw Zy) fun v22=>?_;refine xL 23 Za (xL 24 (Ze ZI) ?_);refine yV (Zw ZT) ?_;refine Wg ?_ ?_<;>intro hb26
 . (
 refine ZF ?_;refine Zg results63 rfl ?_;rw [show Y9 n E S F a b=false by unfold Y9 endsB;rw [hb18,show F a=false by simpa using hb26];simp])
 refine Zi ?_;refine xL 27 Za (xL 28 Ku (xL 29 (Yg Js) ?_));refine yU (Zw ZG) fun v30=>?_;refine xL 31 (Zu Zo) (xL 32 Za ?_);refine ZZ ?_;refine Y0 (ι:={k:Nat//k<=n/\∀j,j<k->(!F j||E j b)=true}) (fun k=>⟨[(0,_,_),(1,_,_),(2,_,_),(31,_,_),(32, .int .i64 k.1,Zb k.1)],[]⟩) (fun k=>n-k.1) ⟨0,oM,oM⟩ (fun a w H=>H.weaken sB trivial) ?_;rintro ⟨k,hk,hp⟩;dsimp only;refine Ys ?_ ?_<;>intro hb33
 . (
 have hlt:k<n:=oM;have fk:=Z0 (fun j=>Zr (F j)) hlt;have ek:=Z0 (fun i=>Wq n (E i)) hlt;have ekb:=Z0 (fun j=>Zr (E k j)) hb;refine Jh ?_;(refine xL 35 Za (xL 36 Ku (xL 37 (Yg T2) ?_))<;>refine yU (Zw Zy) fun v38=>?_<;>refine xL 39 Za (xL 40 (Ze ZI) ?_)<;>refine yV (Zw ZT) ?_<;>refine YU ?_<;>(refine bL 42 (fun hb42=>?_) (fun hb42=>?_)<;>refine kZ ?_)<;>(first|refine kL ?_|refine xM Ku ?_)<;>(first|refine kL ?_|refine xM (Yg K5) ?_)<;>(first|refine kL ?_|refine yU (Zw Yj) fun v46=>?_)<;>refine kZ ?_<;>(first|refine kL ?_|refine xM (Ze Z') ?_)<;>(first|refine kL ?_|refine yU (Zw Zy) fun v49=>?_)<;>refine kZ ?_<;>(first|refine kL ?_|refine xM (Ze ZI) ?_)<;>(first|refine kL ?_|refine yV (Zw ZT) ?_)<;>refine WF ?_)<;>(
 refine cX ?_ ?_<;>intro hb54
 . first|exact bN hb54|(
 refine ZF ?_;refine Zg results63 rfl ?_;rw [show Y9 n E S F a b=false by unfold Y9 endsB;rw [hb18,Dq hlt (by rw [hb42,show E k b=false by simpa using hb54];rfl)];simp])
 refine ZP ?_;refine Zh (
  ⟨k +1,oM,fun j hj=>by
   by_cases e:j=k
   . subst e
     first|(rw [hb42];simpa using hb54)|(rw [hb42];rfl)
   . exact hp j oM⟩
  ) (by dsimp only;omega) sB trivial))
 refine nav ?_;refine Yo ⟨(),?_⟩ sB trivial
 first
  |(unfold endsB;rw [hb18,show F a=true by simpa using hb26,Pi fun j hj=>hp j oM];rfl)
  |(unfold endsB;rw [hb18];rfl))
   . (
 refine nav ?_;refine Yo ⟨(),?_⟩ sB trivial
 first
  |(unfold endsB;rw [hb18,show F a=true by simpa using hb26,Pi fun j hj=>hp j oM];rfl)
  |(unfold endsB;rw [hb18];rfl))
 . rintro ⟨_, hends⟩;dsimp only [Li];refine Zi ?_;refine xL 56 Za (xL 57 Ku (xL 58 (Yg K5) ?_));refine yU (Zw Yj) fun v59=>?_;refine xL 60 Za (xL 61 (Ze Z') ?_);refine yU (Zw Zy) fun v62=>?_;refine xL 63 Za (xL 64 (Ze ZI) ?_);refine yV (Zw ZT) ?_;refine ZC ?_ ?_<;>intro hb65
   . (
 refine Zi ?_;refine xL 66 Za (xL 67 Ku (xL 68 (Yg T1) ?_));refine yU (Zw Zy) fun v69=>?_;refine xL 70 Za (xL 71 (Ze ZI) ?_);refine yV (Zw ZT) ?_;refine Wg ?_ ?_<;>intro hb73
 . (
 refine ZF ?_;refine Zg results63 rfl ?_;rw [show Y9 n E S F a b=false by unfold Y9 OJ;rw [hb65,show S a=false by simpa using hb73];simp])
 refine Zi ?_;refine xL 74 Za (xL 75 Ku (xL 76 (Yg Js) ?_));refine yU (Zw ZG) fun v77=>?_;refine xL 78 (Zu Zo) (xL 79 Za ?_);refine ZZ ?_;refine Y0 (ι:={k:Nat//k<=n/\∀j,j<k->(!S j||E b j)=true}) (fun k=>⟨[(0,_,_),(1,_,_),(2,_,_),(78,_,_),(79, .int .i64 k.1,Zb k.1)],[]⟩) (fun k=>n-k.1) ⟨0,oM,oM⟩ (fun a w H=>H.weaken sB trivial) ?_;rintro ⟨k,hk,hp⟩;dsimp only;refine Ys ?_ ?_<;>intro hb80
 . (
 have hlt:k<n:=oM;have fk:=Z0 (fun j=>Zr (S j)) hlt;have ekb:=Z0 (fun j=>Zr (E b j)) hlt;refine Jh ?_;(refine xL 82 Za (xL 83 Ku (xL 84 (Yg T1) ?_))<;>refine yU (Zw Zy) fun v85=>?_<;>refine xL 86 Za (xL 87 (Ze ZI) ?_)<;>refine yV (Zw ZT) ?_<;>refine YU ?_<;>(refine bL 89 (fun hb89=>?_) (fun hb89=>?_)<;>refine kZ ?_)<;>(first|refine kL ?_|refine xM Ku ?_)<;>(first|refine kL ?_|refine xM (Yg K5) ?_)<;>(first|refine kL ?_|refine yU (Zw Yj) fun v93=>?_)<;>refine kZ ?_<;>(first|refine kL ?_|refine xM (Ze Z') ?_)<;>(first|refine kL ?_|refine yU (Zw Zy) fun v96=>?_)<;>refine kZ ?_<;>(first|refine kL ?_|refine xM (Ze ZI) ?_)<;>(first|refine kL ?_|refine yV (Zw ZT) ?_)<;>refine WF ?_)<;>(
 refine cX ?_ ?_<;>intro hb101
 . first|exact bN hb101|(
 refine ZF ?_;refine Zg results63 rfl ?_;rw [show Y9 n E S F a b=false by unfold Y9 OJ;rw [hb65,Dq hlt (by rw [hb89,show E b k=false by simpa using hb101];rfl)];simp])
 refine ZP ?_;refine Zh (
  ⟨k +1,oM,fun j hj=>by
   by_cases e:j=k
   . subst e
     first|(rw [hb89];simpa using hb101)|(rw [hb89];rfl)
   . exact hp j oM⟩
  ) (by dsimp only;omega) sB trivial))
 refine ZF ?_;refine Zg results63 rfl ?_
 first
  |rw [show Y9 n E S F a b=true by unfold Y9 OJ;rw [hends,hb65,show S a=true by simpa using hb73,Pi fun j hj=>hp j oM];rfl]
  |rw [show Y9 n E S F a b=true by unfold Y9 OJ;rw [hends,hb65];rfl])
   . (
 refine ZF ?_;refine Zg results63 rfl ?_
 first
  |rw [show Y9 n E S F a b=true by unfold Y9 OJ;rw [hends,hb65,show S a=true by simpa using hb73,Pi fun j hj=>hp j oM];rfl]
  |rw [show Y9 n E S F a b=true by unfold Y9 OJ;rw [hends,hb65];rfl])
def Zat (g:Dfg) (p:PV):Prop:=p=if JM g then .tup [Zqs g,Zb 0] else .tup [.val (.pointer none),Zb 1]
def Zfu (g:Dfg) (hf:Zqp g) (ha:g.acts.length<=1000000) (hs:g.starts.length<=1000000) (he:g.ends.length<=1000000):AF prog 46 [Ji g] (Zat g):=by
 refine AF.b1 9 func46 rfl ntmps46 (Xa rfl) fun w0 M0 v0 _=>?_
 refine Zi ?_
 refine Z4 1 4 fun h1=>?_;refine JF ?_
 refine yU (Zm 1 Yu) fun v4=>?_;refine cV (cA call103 (ZnP g hf ha hs he)) ?_;refine Wg ?_ ?_<;>intro hb6
 . (
 refine ZP ?_;refine Y3 results46 rfl rfl ?_;unfold Zat;rw [show JM g=false by simpa using hb6];rfl)
 refine Zi ?_;refine yU (Zm 1 Yu) fun v7=>?_;refine cU (cA call104 (Ztf g (by simpa using hb6) hf.2.2.2.1 hf.2.1.1 hf.2.2.1.1)) fun v8=>?_;refine W2 ?_;refine Y3 results46 rfl rfl ?_;unfold Zat;rw [show JM g=true by simpa using hb6];rfl
def Zhp (l:List Cnt) (hl0:l.length<=1000000):AF prog 187 [Jf l] (· =ZX (cnames l)):=by
 refine AF.b1 20 func187 rfl ntmps187 (Xa rfl) fun w0 M0 v0 _=>?_
 refine WK ?_;refine KG ?_
 refine Zs (YO 200 9 1 rfl) fun _=>?_
 refine Yl (ι:={x:Nat×Value//x.1<=l.length}) (fun k=>⟨[(0,_,_),(3,k.1.2, .val k.1.2),(4, .int .i64 k.1.1,Zb k.1.1)],[(200,k.1.2, .own 9 1 k.1.1 ((cnames (l.take k.1.1)).map Zx))]⟩) (fun k=>l.length-k.1.1) ⟨(0, .slice none 0 0),oM⟩ ?_
 rintro ⟨⟨k,h3⟩,hk⟩
 dsimp only
 dsimp only at hk
 refine Zi ?_
 refine xL 5 Za (xL 6 Za (xL 7 (Zu YA) (xL 8 Yn ?_)));refine ZC ?_ ?_<;>intro hb8
 . (
 obtain ⟨x,hx⟩:=gS l k;have e1:(l.flatMap Lp)[k*2+0]? =some (Zx x.name):=Yr YM hx dC;(have e3:((cnames (l.take k)).map Zx).length=k:=by simp [cnames];omega);refine Zi ?_;refine xL 11 Za (xL 12 Za (xL 13 Za (xL 14 (Ze YA) (xL 15 (Yg WP) ?_))));refine yV (Zw ZE) ?_;refine WE (kk:=1) 17 YX fun h17 ho17=>?_;refine Y7 200 17 18 YX fun h18 ho18=>?_;refine KQ ?_;refine ZJ (ZK (l:=18) 200 rfl rfl) fun _=>?_;rw [show (cnames (l.take k)).map Zx++[Zx x.name]=(cnames (l.take (k+1))).map Zx by rw [T0 hx,XX];rfl];refine Yk (
  ⟨(k+1,h18),by show k+1<=l.length;omega⟩
  ))
 refine ZP ?_;refine YK (En.freeze (l:=200) (t:=2) rfl rfl) fun _=>?_;refine Zg results187 rfl ?_;obtain rfl:k=l.length:=oM;rw [Xx,J6];unfold ZX cnames;rw [Xc]
def Zi3 {l:List BA} {s:BA} (h:idx (fun x=>W7 x s) l<0):hasStr l s=false:=by
 have:=LS (fun x=>W7 x s) l
 unfold hasStr;rw [<-this];exact Qb oM
def Zi4 {l:List BA} {s:BA} (h:¬idx (fun x=>W7 x s) l<0):hasStr l s=true:=by
 have:=LS (fun x=>W7 x s) l
 unfold hasStr;rw [<-this];exact Qa oM
def CL {l:List BA} {s:BA} (h:s∈l):hasStr l s=true:=by unfold hasStr;rw [X2];exact ⟨s,h,Y'.2 rfl⟩
end Go.Proofs.YtmkojdfiadbeeaaGreat
namespace Go.Cb
open Go.En
structure Grows (n:Nat) (E R:Nat->Nat->Bool):Prop where
 lo:∀i j,i<n->j<n->E i j=true->R i j=true
 hi:∀T,Closed n E T->∀i j,i<n->j<n->R i j=true->T i j=true
def Grows.init (n:Nat) (E:Nat->Nat->Bool):Grows n E E:=⟨fun _ _ _ _ h=>h,fun T hT i j hi hj h=>hT.1 i j hi hj h⟩
def Zfv (R:Nat->Nat->Bool) (a c:Nat):Nat->Nat->Bool:=fun i=>if i=a then (fun j=>if j=c then true else R a j) else R i
def ζq (R:Nat->Nat->Bool) (a c i j:Nat):Zfv R a c i j=(if i=a/\j=c then true else R i j):=by
 unfold Zfv
 by_cases h:i=a
 . subst h;rw [Qd rfl];by_cases h2:j=c
   . rw [Qd h2,Qd ⟨rfl,h2⟩]
   rw [Qc h2,Qc (fun h=>h2 h.2)]
 rw [Qc h,Qc (fun h'=>h h'.1)]
def Grows.set {n:Nat} {E R:Nat->Nat->Bool} (h:Grows n E R) {a b c:Nat} (ha:a<n) (hb:b<n) (hc:c<n) (h1:R a b=true) (h2:R b c=true):Grows n E (Zfv R a c):=by
 refine ⟨fun i j hi hj he=>?_,fun T hT i j hi hj hs=>?_⟩
 . rw [ζq];split
   . rfl
   exact h.lo i j hi hj he
 rw [ζq] at hs;split at hs
 . rename_i hx;rw [hx.1,hx.2];exact hT.2 a b c ha hb hc (h.hi T hT a b ha hb h1) (h.hi T hT b c hb hc h2)
 exact h.hi T hT i j hi hj hs
def Before (a b c a' b' c':Nat):Prop:=a'<a\/(a'=a/\(b'<b\/(b'=b/\c'<c)))
structure Pass (n:Nat) (E R0 R:Nat->Nat->Bool) (ag:Bool) (a b c:Nat):Prop where
 gr:Grows n E R
 dn:ag=true->cntM n R<cntM n R0
 st:ag=false->R=R0/\∀a' b' c',a'<n->b'<n->c'<n->Before a b c a' b' c'->R0 a' b'=true->R0 b' c'=true->R0 a' c'=true
def Pass.start {n:Nat} {E R0:Nat->Nat->Bool} (h:Grows n E R0):Pass n E R0 R0 false 0 0 0:=⟨h,sM,fun _=>⟨rfl,fun a' b' c' _ _ _ hB=>by unfold Before at hB;omega⟩⟩
def Pass.to {n:Nat} {E R0 R:Nat->Nat->Bool} {ag:Bool} {a b c a1 b1 c1:Nat} (h:Pass n E R0 R ag a b c) (hB:∀a' b' c',a'<n->b'<n->c'<n->Before a1 b1 c1 a' b' c'->Before a b c a' b' c'\/(ag=false->R0 a' b'=true->R0 b' c'=true->R0 a' c'=true)):Pass n E R0 R ag a1 b1 c1:=
 ⟨h.gr,h.dn,fun hg=>⟨(h.st hg).1,fun a' b' c' h1 h2 h3 h4=>by
  rcases hB a' b' c' h1 h2 h3 h4 with h5|h5
  . exact (h.st hg).2 a' b' c' h1 h2 h3 h5
  . exact h5 hg⟩⟩
def Pass.skip {n:Nat} {E R0 R:Nat->Nat->Bool} {ag:Bool} {a b c:Nat} (h:Pass n E R0 R ag a b c) (hx:R a b=true->R b c=true->R a c=true):Pass n E R0 R ag a b (c+1):=
 h.to fun a' b' c' _ _ _ hB=>by
  by_cases e:a'=a/\b'=b/\c'=c
  . obtain ⟨rfl,rfl,rfl⟩:=e;exact .inr fun hg=>by rw [<-(h.st hg).1];exact hx
  exact .inl (by unfold Before at hB ⊢;omega)
def Pass.mark {n:Nat} {E R0 R:Nat->Nat->Bool} {ag:Bool} {a b c:Nat} (h:Pass n E R0 R ag a b c) (ha:a<n) (hb:b<n) (hc:c<n) (h1:R a b=true) (h2:R b c=true) (h3:R a c=false):Pass n E R0 (Zfv R a c) true a b (c+1):=by
 refine ⟨h.gr.set ha hb hc h1 h2,fun _=>?_,sM⟩
 have hs:cntM n (Zfv R a c)+1=cntM n R:=ZnS ha hc h3
 cases hg:ag with
 |true=>have:=h.dn hg;omega
 |false=>rw [<-(h.st hg).1];omega
def Pass.row {n:Nat} {E R0 R:Nat->Nat->Bool} {ag:Bool} {a b c:Nat} (h:Pass n E R0 R ag a b c) (hc:n<=c):Pass n E R0 R ag a (b+1) 0:=h.to fun a' b' c' _ _ _ hB=> .inl (by unfold Before at hB ⊢;omega)
def Pass.plane {n:Nat} {E R0 R:Nat->Nat->Bool} {ag:Bool} {a b c:Nat} (h:Pass n E R0 R ag a b c) (hc:n<=b):Pass n E R0 R ag (a+1) 0 0:=h.to fun a' b' c' _ _ _ hB=> .inl (by unfold Before at hB ⊢;omega)
def Pass.closed {n:Nat} {E R0 R:Nat->Nat->Bool} {a b c:Nat} (h:Pass n E R0 R false a b c) (ha:n<=a):Closed n E R:=by
 obtain ⟨h1,h2⟩:=h.st rfl
 refine ⟨h.gr.lo,fun i j k hi hj hk ha' hb'=>?_⟩
 rw [h1] at ha' hb' ⊢
 exact h2 i j k hi hj hk (by unfold Before;omega) ha' hb'
def Pass.less {n:Nat} {E R0 R:Nat->Nat->Bool} {ag:Bool} {a b c:Nat} (h:Pass n E R0 R ag a b c):cntM n R+(if ag then 1 else 0)<cntM n R0+1:=by
 cases hg:ag with
 |true=>have:=h.dn hg;simp;omega
 |false=>rw [(h.st hg).1];simp
def Zfw {n:Nat} {E R:Nat->Nat->Bool} (h:Grows n E R) (hc:Closed n E R):EY n R=EY n (ZU n E):=by
 show PV.sl _ _=PV.sl _ _
 congr 1
 refine Yi fun i hi=>?_
 show PV.sl _ _=PV.sl _ _
 congr 1
 refine Yi fun j hj=>?_
 rw [ZnR hc h.hi i j hi hj]
def Zi5 {e n a c:Nat} {R:Nat->Nat->Bool}:(vec n fun i=>PV.own e 1 n (vec n fun j=>Zr (R i j))).set a (.own e 1 n ((vec n fun j=>Zr (R a j)).set (c*1) (Zr true)))=vec n fun i=>PV.own e 1 n (vec n fun j=>Zr (Zfv R a c i j)):=by
 rw [XJ,Lk,Lk]
 refine Yi fun i hi=>?_
 by_cases h:i=a
 . subst h;rw [Qd rfl];congr 1;refine Yi fun j hj=>?_;rw [ζq];by_cases h2:j=c
   . rw [Qd h2,Qd ⟨rfl,h2⟩]
   rw [Qc h2,Qc (fun h=>h2 h.2)]
 rw [Qc h];congr 1;refine Yi fun j hj=>?_;rw [ζq,Qc (fun h'=>h h'.1)]
end Go.Cb
namespace Go.Proofs.YtmkojdfiadbeeaaGreat
open Go.RowKit Go.Cb Go.En Tryz
def YZ:AggT prog 259 5=true:=kR
def WA:FldT prog 259 0 0=true:=kR
def Kp:FldT prog 259 1 1=true:=kR
def KE:FldT prog 259 2 2=true:=kR
def Kq:FldT prog 259 3 3=true:=kR
def W6:FldT prog 259 4 4=true:=kR
def Dr:(prog.info? 93).map (·.size)=some 1:=kR
def Hb:ZeroT prog 259 (.agg #[(.slice none 0 0),(.slice none 0 0),(.slice none 0 0),(.slice none 0 0),(.slice none 0 0)]):=by unfold ZeroT;kernel_rfl
def Jt (l:List BA) (n:Nat) (E R:Nat->Nat->Bool) (S F:Nat->Bool):List PV:=[ZX l,EY n E,EY n R,Wq n S,Wq n F]
def Du (l:List BA) (s:BA) (h:hasStr l s=true):AF prog 236 [ZX l,Zx s] (· =Zb (ixN l s:Nat)):=(ζO l s).mono fun p hp=>by rw [hp,(SV h).1]
def Zfx {α:Type} {k:Nat} {f:Nat->α} {x:α}:(vec k f++[x])[k]? =some x:=by
 rw [Vp (by rw [Wz];exact Xd _),Wz,Vg];rfl
def Zci {α:Type} {k:Nat} {f:Nat->α} {x:α}:(vec k f++[x]).set k (f k)=vec (k+1) f:=by
 rw [Vr _ _ (by rw [Wz];exact Xd _),Wz,Vg,Zfn];rfl
def Ztg (g : Dfg) (hg : JM g = true) (hfl:g.follows.length<=140737488355328) (hsl:g.starts.length<=140737488355328) (hel:g.ends.length<=140737488355328):AF prog 229 [Ji g] (· = .agg (Jt (cnames g.acts) g.acts.length (W3 (cnames g.acts) g.follows) (ZU g.acts.length (W3 (cnames g.acts) g.follows)) (Y5 (cnames g.acts) g.starts) (Y5 (cnames g.acts) g.ends))):=by
 obtain ⟨hn40,hst,hen,hfo⟩:=Dn hg
 have hna:(cnames g.acts).length=g.acts.length:=by simp [cnames]
 refine AF.b1 192 func229 rfl ntmps229 (Xa rfl) fun w0 M0 v0 _=>?_
 refine Zi ?_
 refine Z4 1 4 fun h1=>?_;refine Zt [(.slice none 0 0),(.slice none 0 0),(.slice none 0 0),(.slice none 0 0),(.slice none 0 0)] 5 2 Hb fun h2=>?_;refine YT ?_
 refine Zt [(.slice none 0 0),(.slice none 0 0),(.slice none 0 0),(.slice none 0 0),(.slice none 0 0)] 5 3 Hb fun h3=>?_;refine YT ?_;refine ZD ?_
 refine Zs (YO 200 9 1 rfl) fun _=>?_
 refine Yl (ι:={x:Nat×Value//x.1<=g.acts.length}) (fun k=>⟨[(1,_,_),(2,_,_),(3,_,_),(4, .int .i64 k.1.1,Zb k.1.1)],[(1,_,_),(2,_,_),(3,h3, .own 259 5 1 [.val k.1.2, .val (.slice none 0 0), .val (.slice none 0 0), .val (.slice none 0 0), .val (.slice none 0 0)]),(200,k.1.2, .own 9 1 k.1.1 ((cnames (g.acts.take k.1.1)).map Zx))]⟩) (fun k=>g.acts.length-k.1.1) ⟨(0, .slice none 0 0),oM⟩ ?_
 rintro ⟨⟨k,h33⟩,hk⟩
 dsimp only
 dsimp only at hk
 refine Zi ?_
 refine xL 16 Za (xL 17 (Zc 1 KL) ?_);refine yU (Zf 1 YN) fun v18=>?_;refine xL 19 (Zu YA) (xL 20 Yn ?_);refine ZC ?_ ?_<;>intro hb20
 . (
 obtain ⟨x,hx⟩:=gS g.acts k;have e1:(g.acts.flatMap Lp)[k*2+0]? =some (Zx x.name):=Yr YM hx dC;(have e3:((cnames (g.acts.take k)).map Zx).length=k:=by simp [cnames];omega);refine nav ?_;(refine Yx [11] [1,3] ?_<;>refine xD 0 rfl (Zc 3 WA) ?_<;>(refine yD 1 rfl (Zf 3 ZG) fun v24 h=>?_;cases h)<;>refine xD 2 rfl (Zc 1 KL) ?_<;>(refine yD 3 rfl (Zf 1 YN) fun v26 h=>?_;cases h)<;>refine gEx 4 ?_<;>refine xE 5 rfl (Ze YA) ?_<;>refine xE 6 rfl (Yg WP) ?_<;>(refine yE 7 rfl (Zw ZE) fun v30 h=>?_;cases h)<;>(refine aDr 8 fun bk=>?_)<;>refine WE (kk:=1) 31 YX fun h31 ho31=>?_<;>refine bE bk ?_<;>(refine aDr 9 fun bk=>?_)<;>refine Y7 200 31 32 YX fun h32 ho32=>?_<;>refine bE bk ?_<;>refine xE 10 rfl (Zc 3 WA) ?_<;>(refine ZY 11 kR ?_)<;>(refine Wx rfl rfl kR fun DQ bk=>?_)<;>refine JY 3 ZG Dl ?_<;>refine WC (bk _ (nav ?_))<;>try dsimp only)
 refine G8 ?_;refine ZJ (ZK (l:=32) 200 rfl rfl) fun _=>?_;rw [show (cnames (g.acts.take k)).map Zx++[Zx x.name]=(cnames (g.acts.take (k+1))).map Zx by rw [T0 hx,XX];rfl];refine Yk (
  ⟨(k+1,h32),by show k+1<=g.acts.length;omega⟩
  ))
 refine nav ?_;rw [show k=g.acts.length by omega,Xx];refine Zp ?_;refine xM (Zc 3 WA) ?_;refine yV (Zf 3 ZG) ?_;refine xL 36 (Wu 200 Zo) (xL 5 Wj ?_);refine ZZ ?_;refine Ja (fun x:Value×Value=>⟨[(1,padd (sbase h1) 0, .val (padd (sbase h1) 0)),(2,padd (sbase h2) 0, .val (padd (sbase h2) 0)),(3,padd (sbase h3) 0, .val (padd (sbase h3) 0)),(5, .int .i64 g.acts.length,Zb g.acts.length)],[(1,h1, .own 34 4 1 [Jf g.acts,Jf g.starts,Jf g.ends,HN g.follows]),(2,h2, .own 259 5 1 [.val (.slice none 0 0), .val (.slice none 0 0), .val (.slice none 0 0), .val (.slice none 0 0), .val (.slice none 0 0)]),(3,h3, .own 259 5 1 [.val h33, .val (.slice none 0 0), .val (.slice none 0 0), .val x.1, .val x.2]),(200,h33, .own 9 1 g.acts.length ((cnames g.acts).map Zx)),(38,x.1, .own 4 1 g.acts.length (List.replicate g.acts.length (.val (.bool false)))),(40,x.2, .own 4 1 g.acts.length (List.replicate g.acts.length (.val (.bool false))))]⟩) ?_ ?_
 . (refine Yx [] [] ?_<;>refine gDx 0 ?_<;>refine gDx 2 ?_<;>(refine WJ 1 3 kR ?_ ?_;rotate_right;(focus ((refine aWr fun bk=>?_)<;>refine KF 40 Wr fun h40 ho40=>?_<;>refine bE bk ?_<;>(refine aDr 1 fun bk=>?_)<;>refine KF 38 Wr fun h38 ho38=>?_<;>refine bE bk ?_<;>(refine aDr 4 fun bk=>?_)<;>refine xM (Zc 3 Kq) ?_<;>refine bE bk ?_<;>(refine aDr 5 fun bk=>?_)<;>refine JY 3 Zy GU ?_<;>refine bE bk ?_<;>(refine aDr 6 fun bk=>?_)<;>refine xM (Zc 3 W6) ?_<;>refine bE bk ?_<;>(refine aDr 7 fun bk=>?_)<;>refine JY 3 Zy GU ?_<;>refine bE bk ?_));rotate_right;(focus ((refine aWr fun bk=>?_)<;>refine KF 38 Wr fun h38 ho38=>?_<;>refine bE bk ?_<;>(refine WJ 3 4 kR ?_ ?_;rotate_right;(focus ((refine aWr fun bk=>?_)<;>refine xM (Zc 3 Kq) ?_<;>refine bE bk ?_<;>(refine WJ 3 5 kR ?_ ?_;rotate_right;(focus ((refine aWr fun bk=>?_)<;>refine JY 3 Zy GU ?_<;>refine bE bk ?_<;>(refine aDr 3 fun bk=>?_)<;>refine KF 40 Wr fun h40 ho40=>?_<;>refine bE bk ?_<;>(refine aDr 6 fun bk=>?_)<;>refine xM (Zc 3 W6) ?_<;>refine bE bk ?_<;>(refine aDr 7 fun bk=>?_)<;>refine JY 3 Zy GU ?_<;>refine bE bk ?_));rotate_right;(focus ((refine aWr fun bk=>?_)<;>refine KF 40 Wr fun h40 ho40=>?_<;>refine bE bk ?_<;>(refine aDr 5 fun bk=>?_)<;>refine JY 3 Zy GU ?_<;>refine bE bk ?_<;>(refine aDr 6 fun bk=>?_)<;>refine xM (Zc 3 W6) ?_<;>refine bE bk ?_<;>(refine aDr 7 fun bk=>?_)<;>refine JY 3 Zy GU ?_<;>refine bE bk ?_)))));rotate_right;(focus ((refine aWr fun bk=>?_)<;>refine KF 40 Wr fun h40 ho40=>?_<;>refine bE bk ?_<;>(refine aDr 4 fun bk=>?_)<;>refine xM (Zc 3 Kq) ?_<;>refine bE bk ?_<;>(refine aDr 5 fun bk=>?_)<;>refine JY 3 Zy GU ?_<;>refine bE bk ?_<;>(refine aDr 6 fun bk=>?_)<;>refine xM (Zc 3 W6) ?_<;>refine bE bk ?_<;>(refine aDr 7 fun bk=>?_)<;>refine JY 3 Zy GU ?_<;>refine bE bk ?_))))))<;>refine Wo ?_)<;>(
 exact Yo (h38,h40) sB sB)
 . rintro ⟨h38, h40⟩;dsimp only;refine Zs (YD (l:=3) (l':=200) (j:=0) rfl rfl rfl rfl) fun _=>?_;rw [J6,<-hna];rw [show (PV.sl (cnames g.acts).length ((cnames g.acts).map Zx))=ZX (cnames g.acts) from rfl];rw [hna];rw [show List.replicate g.acts.length (PV.val (.bool false))=vec g.acts.length (fun i=>Zr (Y5 (cnames g.acts) [] i)) from LI _ _];refine ZF ?_;refine Yl (ι:={k:Nat//k<=g.starts.length}) (fun k=>⟨[(1,_,_),(2,_,_),(3,_,_),(5,_,_),(6, .int .i64 k.1,Zb k.1)],[(1,_,_),(2,_,_),(3,_,_),(40,_,_),(38,h38,YP 4 g.acts.length (Y5 (cnames g.acts) (g.starts.take k.1)))]⟩) (fun k=>g.starts.length-k.1) ⟨0,oM⟩ ?_;rintro ⟨k,hk⟩;dsimp only;refine Zi ?_;refine xL 43 Za (xL 44 (Zc 1 GC) ?_);refine yU (Zf 1 YN) fun v45=>?_;refine xL 46 (Zu YA) (xL 47 Yn ?_);refine ZC ?_ ?_<;>intro hb47
   . (
 obtain ⟨x,hx⟩:=gS g.starts k;have e1:(g.starts.flatMap Lp)[k*2+0]? =some (Zx x.name):=Yr YM hx dC;have hxa:=hst x (Xb hx);have ha:=(SV hxa).2;rw [hna] at ha;have e5:=Wz g.acts.length (fun j=>Zr (Y5 (cnames g.acts) (g.starts.take k) j));refine nav ?_;(refine Yx [12] [1,3,38] ?_<;>refine xD 0 rfl (Zc 3 Kq) ?_<;>(refine yD 1 rfl (Zf 3 Zy) fun v51 h=>?_;cases h)<;>refine xD 2 rfl (Zc 3 WA) ?_<;>(refine yD 3 rfl (Zf 3 ZG) fun v53 h=>?_;cases h)<;>refine xD 4 rfl (Zc 1 GC) ?_<;>(refine yD 5 rfl (Zf 1 YN) fun v55 h=>?_;cases h)<;>refine gEx 6 ?_<;>refine xE 7 rfl (Ze YA) ?_<;>refine xE 8 rfl (Yg WP) ?_<;>(refine yE 9 rfl (Zw ZE) fun v59 h=>?_;cases h)<;>(refine ZY 10 kR ?_)<;>(refine Ym (d:=60) rfl (cA call236 (Du (cnames g.acts) x.name hxa)) fun v60 h=>?_;cases h)<;>refine xE 11 rfl (Zk 38 ZI) ?_<;>(refine ZY 12 kR ?_)<;>(refine Wx rfl rfl kR fun DQ bk=>?_)<;>refine JY 38 ZT GD ?_<;>refine WC (bk _ (nav ?_))<;>try dsimp only)
 refine G8 ?_;rw [SX (f':=Y5 (cnames g.acts) (g.starts.take (k+1))) fun i _=>Dm hx i];refine Yk (
  ⟨k+1,oM⟩
  ))
   . (
 refine ZF ?_;rw [show k=g.starts.length by omega,Xx];refine Yl (ι:={k:Nat//k<=g.ends.length}) (fun k=>⟨[(1,_,_),(2,_,_),(3,_,_),(5,_,_),(7, .int .i64 k.1,Zb k.1)],[(1,_,_),(2,_,_),(3,_,_),(38,_,_),(40,h40,YP 4 g.acts.length (Y5 (cnames g.acts) (g.ends.take k.1)))]⟩) (fun k=>g.ends.length-k.1) ⟨0,oM⟩ ?_;rintro ⟨k,hk⟩;dsimp only;refine Zi ?_;refine xL 62 Za (xL 63 (Zc 1 Jq) ?_);refine yU (Zf 1 YN) fun v64=>?_;refine xL 65 (Zu YA) (xL 66 Yn ?_);refine ZC ?_ ?_<;>intro hb66
 . (
 obtain ⟨x,hx⟩:=gS g.ends k;have e1:(g.ends.flatMap Lp)[k*2+0]? =some (Zx x.name):=Yr YM hx dC;have hxa:=hen x (Xb hx);have ha:=(SV hxa).2;rw [hna] at ha;have e5:=Wz g.acts.length (fun j=>Zr (Y5 (cnames g.acts) (g.ends.take k) j));refine nav ?_;(refine Yx [12] [1,3,40] ?_<;>refine xD 0 rfl (Zc 3 W6) ?_<;>(refine yD 1 rfl (Zf 3 Zy) fun v70 h=>?_;cases h)<;>refine xD 2 rfl (Zc 3 WA) ?_<;>(refine yD 3 rfl (Zf 3 ZG) fun v72 h=>?_;cases h)<;>refine xD 4 rfl (Zc 1 Jq) ?_<;>(refine yD 5 rfl (Zf 1 YN) fun v74 h=>?_;cases h)<;>refine gEx 6 ?_<;>refine xE 7 rfl (Ze YA) ?_<;>refine xE 8 rfl (Yg WP) ?_<;>(refine yE 9 rfl (Zw ZE) fun v78 h=>?_;cases h)<;>(refine ZY 10 kR ?_)<;>(refine Ym (d:=79) rfl (cA call236 (Du (cnames g.acts) x.name hxa)) fun v79 h=>?_;cases h)<;>refine xE 11 rfl (Zk 40 ZI) ?_<;>(refine ZY 12 kR ?_)<;>(refine Wx rfl rfl kR fun DQ bk=>?_)<;>refine JY 40 ZT GD ?_<;>refine WC (bk _ (nav ?_))<;>try dsimp only)
 refine G8 ?_;rw [SX (f':=Y5 (cnames g.acts) (g.ends.take (k+1))) fun i _=>Dm hx i];refine Yk (
  ⟨k+1,oM⟩
  ))
 refine ZF ?_;rw [show k=g.ends.length by omega,Xx];refine Zs (YO 201 92 1 rfl) fun _=>?_;refine Zs (YO 202 92 1 rfl) fun _=>?_;refine Yl (ι:={x:Nat×Value×Value//x.1<=g.acts.length}) (fun k=>⟨[(1,_,_),(2,_,_),(3,_,_),(5,_,_),(8, .int .i64 k.1.1,Zb k.1.1)],[(1,_,_),(2,_,_),(38,_,_),(40,_,_),(3,h3, .own 259 5 1 [ZX (cnames g.acts), .val k.1.2.1, .val k.1.2.2, .val h38, .val h40]),(201,k.1.2.1, .own 92 1 k.1.1 (vec k.1.1 fun _=>YP 4 g.acts.length (fun _=>false))),(202,k.1.2.2, .own 92 1 k.1.1 (vec k.1.1 fun _=>YP 4 g.acts.length (fun _=>false)))]⟩) (fun k=>g.acts.length-k.1.1) ⟨(0, .slice none 0 0, .slice none 0 0),oM⟩ ?_;rintro ⟨⟨k,ha,hb⟩,hk⟩;dsimp only;dsimp only at hk;refine WL ?_;refine ZC ?_ ?_<;>intro hb83
 . (
 have hlt:k<g.acts.length:=oM;have e1:=Wz k (fun _=>YP 4 g.acts.length (fun _=>false));refine nav ?_;(refine Yx [7] [3] ?_<;>refine xD 0 rfl (Zc 3 Kp) ?_<;>(refine yD 1 rfl (Zf 3 Yj) fun v87 h=>?_;cases h)<;>refine gEx 2 ?_<;>(refine aDr 3 fun bk=>?_)<;>refine KF 89 Wr fun h89 ho89=>?_<;>refine bE bk ?_<;>(refine aDr 4 fun bk=>?_)<;>refine WE (kk:=1) 90 Ph fun h90 ho90=>?_<;>refine bE bk ?_<;>(refine aDr 5 fun bk=>?_)<;>refine Y7 201 90 91 Ph fun h91 ho91=>?_<;>refine bE bk ?_<;>refine xE 6 rfl (Zc 3 Kp) ?_<;>(refine ZY 7 kR ?_)<;>(refine Wx rfl rfl kR fun DQ bk=>?_)<;>refine JY 3 Yj Dr ?_<;>refine WC (bk _ (nav ?_))<;>try dsimp only)
 (refine Yx [7] [3] ?_<;>refine xD 0 rfl (Zc 3 KE) ?_<;>(refine yD 1 rfl (Zf 3 Yj) fun v94 h=>?_;cases h)<;>refine gEx 2 ?_<;>(refine aDr 3 fun bk=>?_)<;>refine KF 96 Wr fun h96 ho96=>?_<;>refine bE bk ?_<;>(refine aDr 4 fun bk=>?_)<;>refine WE (kk:=1) 97 Ph fun h97 ho97=>?_<;>refine bE bk ?_<;>(refine aDr 5 fun bk=>?_)<;>refine Y7 202 97 98 Ph fun h98 ho98=>?_<;>refine bE bk ?_<;>refine xE 6 rfl (Zc 3 KE) ?_<;>(refine ZY 7 kR ?_)<;>(refine Wx rfl rfl kR fun DQ bk=>?_)<;>refine JY 3 Yj Dr ?_<;>refine WC (bk _ (nav ?_))<;>try dsimp only)
 refine G8 ?_;refine ZJ (To (l:=91) (l':=89) (j:=k) rfl Zfx rfl rfl) fun _=>?_;refine ZJ (To (l:=98) (l':=96) (j:=k) rfl Zfx rfl rfl) fun _=>?_;rw [show List.replicate g.acts.length (PV.val (.bool false))=vec g.acts.length (fun i=>Zr false) from LI _ _];rw [Zci (f:=fun _=>YP 4 g.acts.length (fun _=>false)),Zci (f:=fun _=>YP 4 g.acts.length (fun _=>false))];refine ZJ (ZK (l:=91) 201 rfl rfl) fun _=>?_;refine ZJ (ZK (l:=98) 202 rfl rfl) fun _=>?_;refine Yk (
  ⟨(k+1,h91,h98),by show k+1<=g.acts.length;omega⟩
  ))
 refine ZF ?_;rw [show k=g.acts.length by omega];refine Zs (Zda (l:=201) 203 rfl rfl) fun Hs=>?_;obtain ⟨Hs,hHs⟩:=Hs;rw [Wz] at hHs;dsimp only;refine Zs (Zda (l:=202) 204 rfl rfl) fun Gs=>?_;obtain ⟨Gs,hGs⟩:=Gs;rw [Wz] at hGs;dsimp only;refine Yl (ι:={k:Nat//k<=g.follows.length}) (fun k=>⟨[(1,_,_),(2,_,_),(3,_,_),(5,_,_),(9, .int .i64 k.1,Zb k.1)],[(1,_,_),(2,_,_),(3,_,_),(38,_,_),(40,_,_),(201,_,_),(202,_,_),(203, .agg Hs.toArray, .agg (vec g.acts.length fun i=>YP 4 g.acts.length (W3 (cnames g.acts) (g.follows.take k.1) i))),(204, .agg Gs.toArray, .agg (vec g.acts.length fun i=>YP 4 g.acts.length (W3 (cnames g.acts) (g.follows.take k.1) i)))]⟩) (fun k=>g.follows.length-k.1) ⟨0,oM⟩ ?_;rintro ⟨k,hk⟩;dsimp only;refine Zi ?_;refine xL 100 Za (xL 101 (Zc 1 KM) ?_);refine yU (Zf 1 JL) fun v102=>?_;refine xL 103 (Zu WQ) (xL 104 Yn ?_);refine ZC ?_ ?_<;>intro hb104
 . (
 obtain ⟨x,hx⟩:=gS g.follows k;have e1:(g.follows.flatMap LQ)[k*3+0]? =some (Zx x.src):=Yr Wk hx dC;have e2:(g.follows.flatMap LQ)[k*3+1]? =some (Zx x.dst):=Yr Wk hx dC;have hxa:=(hfo x (Xb hx)).1;have hxb:=(hfo x (Xb hx)).2;have ha:=(SV hxa).2;have hb:=(SV hxb).2;rw [hna] at ha hb;obtain ⟨ra,hra⟩:=gS Hs (ixN (cnames g.acts) x.src);obtain ⟨rb,hrb⟩:=gS Gs (ixN (cnames g.acts) x.src);have e3:=CK hra;have e3':=CK hrb;have e4:=Dp (e:=4) (W3 (cnames g.acts) (g.follows.take k)) ha;have e5:=Wz g.acts.length (fun j=>Zr (W3 (cnames g.acts) (g.follows.take k) (ixN (cnames g.acts) x.src) j));refine nav ?_;refine Yx [] [1,3] ?_<;>refine xD 0 rfl (Zc 3 WA) ?_<;>(refine yD 1 rfl (Zf 3 ZG) fun v108 h=>?_;cases h)<;>refine xD 2 rfl (Zc 1 KM) ?_<;>(refine yD 3 rfl (Zf 1 JL) fun v110 h=>?_;cases h)<;>refine gDx 4 ?_<;>refine xD 5 rfl (Ze WQ) ?_<;>refine xD 6 rfl (Yg KD) ?_<;>(refine yD 7 rfl (Zw ZE) fun v114 h=>?_;cases h)<;>refine xD 9 rfl (Zc 3 WA) ?_<;>(refine yD 10 rfl (Zf 3 ZG) fun v117 h=>?_;cases h)<;>refine xD 11 rfl (Zc 1 KM) ?_<;>(refine yD 12 rfl (Zf 1 JL) fun v119 h=>?_;cases h)<;>refine gDx 13 ?_<;>refine xD 14 rfl (Ze WQ) ?_<;>refine xD 15 rfl (Yg KY) ?_<;>(refine yD 16 rfl (Zw ZE) fun v123 h=>?_;cases h)<;>(refine ZY 8 kR ?_)<;>(refine Ym (d:=115) rfl (cA call236 (Du (cnames g.acts) x.src hxa)) fun v115 h=>?_;cases h)<;>(refine ZY 17 kR ?_)<;>(refine Ym (d:=124) rfl (cA call236 (Du (cnames g.acts) x.dst hxb)) fun v124 h=>?_;cases h)<;>refine gEx 18 ?_<;>refine gEx 19 ?_<;>refine Wo ?_;refine Zp ?_;refine xM (Zc 3 Kp) ?_;refine yV (Zf 3 Yj) ?_;refine xL 127 Za (xL 128 (Zk 201 Z') ?_);refine yV (Zf 201 Zy) ?_;refine xL 130 Za (xL 131 (SJ 203 ZI) ?_);refine Zeo 203 ZT GD ?_;refine YT ?_;refine xM (Zc 3 KE) ?_;refine yV (Zf 3 Yj) ?_;refine xL 134 Za (xL 135 (Zk 202 Z') ?_);refine yV (Zf 202 Zy) ?_;refine xL 137 Za (xL 138 (SJ 204 ZI) ?_);refine Zeo 204 ZT GD ?_;refine D7 ?_;rw [Zfr (e:=0) (f':=W3 (cnames g.acts) (g.follows.take (k+1))) fun i j _ _=>Zch hx i j];refine Yk (
  ⟨k+1,oM⟩
  ))
 refine ZF ?_;rw [show k=g.follows.length by omega,Xx];refine Yl (ι:={x:(Nat->Nat->Bool)×Bool//Grows g.acts.length (W3 (cnames g.acts) g.follows) x.1/\(x.2=false->Closed g.acts.length (W3 (cnames g.acts) g.follows) x.1)}) (fun k=>⟨[(1,_,_),(2,_,_),(3,_,_),(5,_,_),(12, .bool k.1.2,Zr k.1.2)],[(1,_,_),(2,_,_),(3,_,_),(38,_,_),(40,_,_),(201,_,_),(202,_,_),(203,_,_),(204, .agg Gs.toArray, .agg (vec g.acts.length fun i=>YP 4 g.acts.length (k.1.1 i)))]⟩) (fun k=>cntM g.acts.length k.1.1+(if k.1.2 then 1 else 0)) ⟨(W3 (cnames g.acts) g.follows,true),Grows.init _ _,fun h=>Bool.noConfusion h⟩ ?_;rintro ⟨⟨R0,ag0⟩,hgr,hcl⟩;dsimp only;dsimp only at hgr hcl;refine Ys ?_ ?_<;>intro hb139
 . (
 refine Jx ?_;refine Yl (ι:={x:(Nat->Nat->Bool)×Bool×Nat//x.2.2<=g.acts.length/\Pass g.acts.length (W3 (cnames g.acts) g.follows) R0 x.1 x.2.1 x.2.2 0 0}) (fun k=>⟨[(1,_,_),(2,_,_),(3,_,_),(5,_,_),(12, .bool k.1.2.1,Zr k.1.2.1),(13, .int .i64 k.1.2.2,Zb k.1.2.2)],[(1,_,_),(2,_,_),(3,_,_),(38,_,_),(40,_,_),(201,_,_),(202,_,_),(203,_,_),(204, .agg Gs.toArray, .agg (vec g.acts.length fun i=>YP 4 g.acts.length (k.1.1 i)))]⟩) (fun k=>g.acts.length-k.1.2.2) ⟨(R0,false,0),Xg _,Pass.start hgr⟩ ?_;rintro ⟨⟨R1,ag1,a⟩,ha,hp1⟩;dsimp only;dsimp only at ha hp1;refine WL ?_;refine ZC ?_ ?_<;>intro hb142
 . (
 refine ZF ?_;refine Yl (ι:={x:(Nat->Nat->Bool)×Bool×Nat//x.2.2<=g.acts.length/\Pass g.acts.length (W3 (cnames g.acts) g.follows) R0 x.1 x.2.1 a x.2.2 0}) (fun k=>⟨[(1,_,_),(2,_,_),(3,_,_),(5,_,_),(13,_,_),(12, .bool k.1.2.1,Zr k.1.2.1),(14, .int .i64 k.1.2.2,Zb k.1.2.2)],[(1,_,_),(2,_,_),(3,_,_),(38,_,_),(40,_,_),(201,_,_),(202,_,_),(203,_,_),(204, .agg Gs.toArray, .agg (vec g.acts.length fun i=>YP 4 g.acts.length (k.1.1 i)))]⟩) (fun k=>g.acts.length-k.1.2.2) ⟨(R1,ag1,0),Xg _,hp1⟩ ?_;rintro ⟨⟨R2,ag2,b⟩,hb,hp2⟩;dsimp only;dsimp only at hb hp2;refine WL ?_;refine ZC ?_ ?_<;>intro hb147
 . (
 refine ZF ?_;refine Yl (ι:={x:(Nat->Nat->Bool)×Bool×Nat//x.2.2<=g.acts.length/\Pass g.acts.length (W3 (cnames g.acts) g.follows) R0 x.1 x.2.1 a b x.2.2}) (fun k=>⟨[(1,_,_),(2,_,_),(3,_,_),(5,_,_),(13,_,_),(14,_,_),(12, .bool k.1.2.1,Zr k.1.2.1),(15, .int .i64 k.1.2.2,Zb k.1.2.2)],[(1,_,_),(2,_,_),(3,_,_),(38,_,_),(40,_,_),(201,_,_),(202,_,_),(203,_,_),(204, .agg Gs.toArray, .agg (vec g.acts.length fun i=>YP 4 g.acts.length (k.1.1 i)))]⟩) (fun k=>g.acts.length-k.1.2.2) ⟨(R2,ag2,0),Xg _,hp2⟩ ?_;rintro ⟨⟨R,ag,c⟩,hc,hp⟩;dsimp only;dsimp only at hc hp;refine WL ?_;refine ZC ?_ ?_<;>intro hb152
 . (
 have han:a<g.acts.length:=oM;have hbn:b<g.acts.length:=oM;have hcn:c<g.acts.length:=oM;obtain ⟨ra,hra⟩:=gS Gs a;obtain ⟨rb,hrb⟩:=gS Gs b;have e1:=CK hra;have e2:=CK hrb;have e3:=Dp (e:=4) R han;have e4:=Dp (e:=4) R hbn;have e5:=Z0 (fun j=>Zr (R a j)) hbn;have e6:=Z0 (fun j=>Zr (R b j)) hcn;have e7:=Z0 (fun j=>Zr (R a j)) hcn;have e8:=Wz g.acts.length (fun j=>Zr (R a j));refine Zi ?_;(refine xM (Zc 3 KE) ?_<;>refine yV (Zf 3 Yj) ?_<;>refine xL 157 Za (xL 158 (Zk 202 Z') ?_)<;>refine yV (Zf 202 Zy) ?_<;>refine xL 160 Za (xL 161 (SJ 204 ZI) ?_)<;>refine yV (ZbU 204 ZT) ?_<;>refine YU ?_<;>(refine bL 163 (fun hb163=>?_) (fun hb163=>?_)<;>(first|refine kL ?_|refine xM (Zc 3 KE) ?_))<;>(first|refine kL ?_|refine yV (Zf 3 Yj) ?_)<;>refine kZ ?_<;>(first|refine kL ?_|refine xM (Zk 202 Z') ?_)<;>(first|refine kL ?_|refine yV (Zf 202 Zy) ?_)<;>refine kZ ?_<;>(first|refine kL ?_|refine xM (SJ 204 ZI) ?_)<;>(first|refine kL ?_|refine yV (ZbU 204 ZT) ?_)<;>refine YW ?_<;>(first|refine kL ?_|(refine bL 173 (fun hb173=>?_) (fun hb173=>?_)<;>(first|refine kL ?_|refine xM (Zc 3 KE) ?_)))<;>(first|refine kL ?_|refine yV (Zf 3 Yj) ?_)<;>refine kZ ?_<;>(first|refine kL ?_|refine xM (Zk 202 Z') ?_)<;>(first|refine kL ?_|refine yV (Zf 202 Zy) ?_)<;>refine kZ ?_<;>(first|refine kL ?_|refine xM (SJ 204 ZI) ?_)<;>(first|refine kL ?_|refine yV (ZbU 204 ZT) ?_)<;>refine WF ?_)<;>(
 refine cX ?_ ?_<;>intro hb183
 . first | exact bN hb183|(
 refine Zi ?_;refine xM (Zc 3 KE) ?_;refine yV (Zf 3 Yj) ?_;refine xL 186 Za (xL 187 (Zk 202 Z') ?_);refine yV (Zf 202 Zy) ?_;refine xL 189 Za (xL 190 (SJ 204 ZI) ?_);refine Zeo 204 ZT GD ?_;refine YT ?_;refine KQ ?_;try rw [Zi5]
 first
  | (exact Zh (
      ⟨(Zfv R a c,true,c+1),by show c+1<=g.acts.length;omega,hp.mark han hbn hcn hb163 hb173 (by simpa using hb183)⟩
      ) (by show g.acts.length-(c+1)<g.acts.length-c;omega) sB sB)
  | (exact Zh (
      ⟨(R,ag,c+1),by show c+1<=g.acts.length;omega,hp.skip (fun g1 g2=>by
        first
         |(simpa using hb183)
         |(rw [hb163] at g1;exact Qe g1 dC)
         |(rw [hb173] at g2;exact Qe g2 dC))⟩
      ) (by show g.acts.length-(c+1)<g.acts.length-c;omega) sB sB))
 refine YQ ?_;try rw [Zi5]
 first
  | (exact Zh (
      ⟨(Zfv R a c,true,c+1),by show c+1<=g.acts.length;omega,hp.mark han hbn hcn hb163 hb173 (by simpa using hb183)⟩
      ) (by show g.acts.length-(c+1)<g.acts.length-c;omega) sB sB)
  | (exact Zh (
      ⟨(R,ag,c+1),by show c+1<=g.acts.length;omega,hp.skip (fun g1 g2=>by
        first
         |(simpa using hb183)
         |(rw [hb163] at g1;exact Qe g1 dC)
         |(rw [hb173] at g2;exact Qe g2 dC))⟩
      ) (by show g.acts.length-(c+1)<g.acts.length-c;omega) sB sB)))
 refine YQ ?_;refine Zh (
  ⟨(R,ag,b+1),by show b+1<=g.acts.length;omega,hp.row oM⟩
  ) (by show g.acts.length-(b+1)<g.acts.length-b;omega) sB sB)
 refine YQ ?_;refine Zh (
  ⟨(R2,ag2,a+1),by show a+1<=g.acts.length;omega,hp2.plane oM⟩
  ) (by show g.acts.length-(a+1)<g.acts.length-a;omega) sB sB)
 refine nav ?_;refine Zh (
  ⟨(R1,ag1),hp1.gr,fun hg=>by subst hg;exact hp1.closed oM⟩
  ) (by show cntM g.acts.length R1+(if ag1 then 1 else 0)<cntM g.acts.length R0+(if ag0 then 1 else 0);rw [show ag0=true from hb139];exact hp1.less) sB sB)
 refine nav ?_;refine Zs (Zdb (l:=201) (l':=203) rfl rfl rfl rfl) fun _=>?_;refine Zs (Zdb (l:=202) (l':=204) rfl rfl rfl rfl) fun _=>?_;refine Zs (YD (l:=3) (l':=201) (j:=1) rfl rfl rfl rfl) fun _=>?_;refine Zs (YD (l:=3) (l':=202) (j:=2) rfl rfl rfl rfl) fun _=>?_;refine Zs (YD (l:=3) (l':=38) (j:=3) rfl rfl rfl rfl) fun _=>?_;refine Zs (YD (l:=3) (l':=40) (j:=4) rfl rfl rfl rfl) fun _=>?_;refine Zp ?_;refine yU (Zm 3 YZ) fun v191=>?_;refine Zn 2 YZ ?_;refine ZZ ?_;refine Yp (k:=5) 2 results229 ?_;have hR:=Zfw hgr (hcl hb139);unfold Jt;rw [<-hR];show PV.agg [ZX (cnames g.acts),share (ZkS 92 4 _ _),share (ZkS 92 4 _ R0),share (YP 4 _ _),share (YP 4 _ _)]=_;rw [Dk,Dk,Jr,Jr])
