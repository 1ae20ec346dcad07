/-
  Walks of functions and plain laws of the chapter, as the claim needs them.
-/
import Derived.WalkKit
import Derived.ProofKit
import Derived.OpenShut
import Derived.ShutString
import Derived.ChangeOld
import Derived.Below
import Derived.Carry
import Derived.Deep.Slices
import Derived.Sort.EncStr
import Derived.Test.YtmkojdfiadbeeaaGreatPe04
import Derived.Test.YtmkojdfiadbeeaaGreatPe03
import Derived.Test.YtmkojdfiadbeeaaGreatPe02
import Derived.Test.YtmkojdfiadbeeaaGreatPe01
set_option linter.all false
set_option maxRecDepth 100000
set_option maxHeartbeats 8000000
namespace Go.Proofs.YtmkojdfiadbeeaaGreat
open Go.RowKit Go.Cb Go.En Tryz
theorem Z5:AggT prog 51 3=true:=kR
theorem Sj:ElT prog 49 51 3 48 (.agg #[(.int .i64 0),(.string ByteArray.empty),(.slice none 0 0)]):=⟨underlying49,by kernel_rfl,rfl,dC⟩
theorem Gm:FldT prog 51 0 0=true:=kR
theorem ZeB:FldT prog 51 1 1=true:=kR
theorem TN:FldT prog 51 2 2=true:=kR
theorem SF:NoAgg prog 3=true:=kR
theorem RS:NoAgg prog 49=true:=kR
theorem ZmH:NoAgg prog 9=true:=kR
theorem WG:SlT prog 49 51 3=true:=kR
theorem GC:Ge prog 51=some ((.agg #[(.int .i64 0),(.string ByteArray.empty),(.slice none 0 0)]),([0,1,2]:List Nat).map fun o=>(o,1)):=kR
theorem J4:ZeroT prog 51 (.agg #[(.int .i64 0),(.string ByteArray.empty),(.slice none 0 0)]):=by unfold ZeroT;kernel_rfl
def fpT (op:Int) (L:List Nd):List Nd:=L.foldl (Od op) []
theorem Zh4 (op:Int) {L:List Nd} {k:Nat} {x:Nd} (h:L[k]? =some x):fpT op (L.take (k+1))=Od op (fpT op (L.take k)) x:=by
 unfold fpT
 rw [Z2 h,Uq];rfl
theorem ZmI (x:Nd):∀m,(Ob x m).length=m.length+1:=fun m=>(RH x m).length_eq
theorem ZeC (x:Nd):∀m,(SB x m).length<=m.length+1
 |[]=>Xd _
 | y::m=>by
   rw [SB];have:=ZeC x m;split
   . simp only [Xi];omega
   . split<;>simp only [Xi]<;>omega
theorem ZeD (x:Nd):∀m,∀y∈SB x m,y=x\/y∈m
 |[],y,h=> .inl (XC.1 h)
 | z :: m,y,h=>by
   rw [SB] at h;split at h
   . rcases Xh.1 h with h|h
     . exact .inr (h▸Xu ..)
     . rcases ZeD x m y h with h|h
       . exact .inl h
       . exact .inr (Xs _ h)
   . split at h
     . exact .inr h
     . rcases Xh.1 h with h|h
       . exact .inl h
       . exact .inr h
theorem Zpb (op:Int) (m:List Nd) (x:Nd):(Od op m x).length<=m.length+1:=by
 unfold Od
 split
 . exact ZeC x m
 . split
   . omega
   . split
     . exact Nat.le_of_eq (ZmI x m)
     . rw [Xf];exact Xd _
theorem Zpc (op:Int) (m:List Nd) (x:Nd):∀y∈Od op m x,y=x\/y∈m:=fun y h=>by
 unfold Od at h
 split at h
 . exact ZeD x m y h
 . split at h
   . exact .inr h
   . split at h
     . exact Xh.1 ((RH x m).mem_iff.1 h)
     . rcases XB.1 h with h|h
       . exact .inr h
       . exact .inl (XC.1 h)
theorem Zh5 (op:Int) {L:List Nd} (hF:∀x∈L,FitT x):∀k,(fpT op (L.take k)).length<=L.length/\∀y∈fpT op (L.take k),FitT y:=fun k=>by
 have key:∀(L2 m:List Nd),(∀x∈L2,FitT x)->(∀x∈m,FitT x)->(L2.foldl (Od op) m).length<=m.length+L2.length/\∀y∈L2.foldl (Od op) m,FitT y:=fun L2=>by
  induction L2 with
  |nil=>intro m _ h2;exact ⟨Xd _,h2⟩
  | cons x L2 ih=>
    intro m h1 h2;obtain ⟨h3,h4⟩:=ih (Od op m x) (fun y hy=>h1 y (Xs _ hy)) (fun y hy=>by
     rcases Zpc op m x y hy with h|h
     . rw [h];exact h1 x (Xu ..)
     . exact h2 y h)
    have:=Zpb op m x;refine ⟨?_,h4⟩;rw [Vk,Xi];omega
 obtain ⟨h1,h2⟩:=key (L.take k) [] (fun x hx=>hF x (V7 hx)) (fun x hx=>by cases hx)
 refine ⟨?_,h2⟩
 have:(L.take k).length<=L.length:=by rw [XE];omega
 unfold fpT
 simp only [Xy,XA] at h1
 omega
theorem ZeE (op : Int) (hop:op=4\/op=5) (l:List Nd) (hF:∀x∈l,FitT x) (hn:szL l<=1000000):AF prog 193 [Zb op,YN l] (· =pTr (Eg op l)):=by
 have hll:l.length<=1000000:=XK (GB l) hn
 obtain ⟨L,hLe⟩:∃L,L=G5 op l:=⟨_,rfl⟩
 have hFL:∀y∈L,FitT y:=by rw [hLe];exact Zh3 hF
 have hLl:L.length<=1000000:=by rw [hLe];exact XK (GB _) (XK (ZcZ op l) hn)
 have hfl:=ZeA l op hn
 rw [<-hLe] at hfl
 refine AF.b2 99 func193 rfl ntmps193 (Xa rfl) ?_
 rintro w0 M0 _ v1 rfl-
 refine Zi ?_
 refine Zt zT 3 4 J4 fun h4=>?_;refine Ym ?_;refine WZ ?_ ?_<;>intro hb10
 . exfalso;omega
 . refine Zi ?_;refine ZO ?_;refine cD (cA call238 (hfl)) fun v47 hv47=>?_;clear hv47;refine KA ?_;refine Zq (Ps (t:=7) rfl) fun _=>?_;refine Zo ?_;refine ZP ?_;refine Yq (ι:={q:Nat×Value//q.1<=L.length}) (fun k=>⟨[(0,_,_),(1,_,_),(4,_,_),(7,k.1.2,YN (fpT op (L.take k.1.1))),(8, .int .i64 k.1.1,Zb k.1.1)],[(4,_,_)]⟩) (fun k=>L.length-k.1.1) ⟨(0, .slice none 0 0),Xg _⟩ ?_;rintro ⟨⟨k,hO⟩,hk⟩;dsimp only;dsimp only at hk;obtain ⟨hpl,hpf⟩:=Zh5 op hFL k;refine Zi ?_;refine xL 48 Za (xL 49 Za (xL 50 (Zs WG) (xL 51 Yj ?_)));refine ZE ?_ ?_<;>intro hb51
   . (
 obtain ⟨x,hx⟩:=gS L k;have e1:((Z9 L).drop (k*3)).take 3=[Zb x.op,Zv x.act,YN x.l]:=Ye hx;have e2:=YH hx;have hsn:=Zh4 op hx;have hxf:=hFL x (Xb hx);(have g0:(Z9 L)[k*3+0]? =some (Zb x.op):=by rw [<-Vp,<-X1 (show 0<3 by decide),e1];rfl);refine WJ ?_;refine ZE ?_ ?_<;>intro hb61
 . (
 refine Zi ?_;refine xL 64 Za (xL 65 Za (xL 66 Za (xL 67 (Ze WG) ?_)));refine yU (Wn Z5) fun v68=>?_;refine cD (cA (call239) (ζS (fpT op (L.take k)) x true hpf hxf oM)) fun v69 hv69=>?_;clear hv69;refine Zz (Ke (t:=69) (p':=YN (fpT op (L.take (k+1)))) rfl (by rw [Qc rfl,hsn,Od,Qc hb61])) fun _=>?_;refine K5 ?_
 first
  | (exact Yr (
      ⟨(k+1,v69),Zd hx⟩
      ))
  | (exact Yr (
      ⟨(k+1,v85),Zd hx⟩
      ))
  | (exact Yr (
      ⟨(k+1,hO),Zd hx⟩
      )))
 . (
 refine Zi ?_;refine xL 71 Za (xL 72 Za (xL 73 (Ze WG) (xL 74 (Yn Gm) ?_)));refine yV (Zu SF) ?_;refine WZ ?_ ?_<;>intro hb70
 . (
 refine Zq (Ke (t:=7) (p':=YN (fpT op (L.take (k+1)))) rfl (by rw [hsn,Od,Qb hb61,Qc hb70])) fun _=>?_;refine Y2 ?_
 first
  | (exact Yr (
      ⟨(k+1,v69),Zd hx⟩
      ))
  | (exact Yr (
      ⟨(k+1,v85),Zd hx⟩
      ))
  | (exact Yr (
      ⟨(k+1,hO),Zd hx⟩
      )))
 . (
 refine WJ ?_;refine ZE ?_ ?_<;>intro hb77
 . refine Zi ?_;refine xL 80 Za (xL 81 Za (xL 82 Za (xL 83 (Ze WG) ?_)));refine yU (Wn Z5) fun v84=>?_;refine cD (cA (call239) (ζS (fpT op (L.take k)) x false hpf hxf oM)) fun v85 hv85=>?_;clear hv85;refine Zz (Ke (t:=85) (p':=YN (fpT op (L.take (k+1)))) rfl (by rw [Qb dC,hsn,Od,Qb hb61,Qb hb70,Qc hb77])) fun _=>?_;refine K5 ?_
   first
    | (exact Yr (
        ⟨(k+1,v69),Zd hx⟩
        ))
    | (exact Yr (
        ⟨(k+1,v85),Zd hx⟩
        ))
    | (exact Yr (
        ⟨(k+1,hO),Zd hx⟩
        ))
 . exfalso;omega)))
   . (
 rw [Xt (show L.length<=k by omega)];refine nav ?_;have hml:=(Zh5 op hFL L.length).1;rw [Xt (Xd L.length)] at hml;(have hnd:Eg op l=Ef op (fpT op L):=by unfold Eg fpT;rw [hLe]);rw [hnd];generalize fpT op L=p at hml ⊢;refine Zo ?_;refine xL 86 Za (xL 87 (Zs WG) (xL 88 Ky ?_));refine ZE ?_ ?_<;>intro hb88
 . (
 obtain rfl:p=[]:=Xv oM;refine Zi ?_;refine xM (ZC GC) ?_;refine Zz (Hk (t:=89) (p':=pTr Hg) rfl Et) fun _=>?_;refine Zp 4 Z5 ?_;refine Zw ?_;exact YQ (k:=3) 4 kR (results193) rfl rfl (Xa rfl) dC rfl rfl)
 . (
 refine Zi ?_;refine xL 90 Za (xL 91 (Zs WG) (xL 92 Ky ?_));refine ZE ?_ ?_<;>intro hb92
 . (
 obtain ⟨x,rfl⟩:∃x,p=[x]:=by
  match p,hb92 with
  |[],h=>simp at h
  |[x],_=>exact ⟨x,rfl⟩
  |_::_::_,h=>simp at h;omega
 have e1:((Z9 [x]).drop (0*3)).take 3=cN x:=Ye (k:=0) rfl;have e2:0*3+3<=(Z9 [x]).length:=YH (k:=0) (x:=x) rfl;refine Zi ?_;refine xL 93 Za (xL 94 (Ze WG) ?_);refine yU (Wn Z5) fun v95=>?_;refine Zp 4 Z5 ?_;refine Zw ?_;exact YQ (k:=3) 4 kR (results193) rfl rfl (Xa rfl) dC rfl rfl)
 . (
 refine Zi ?_;refine xL 96 Za (xL 97 Za (xL 98 (ZC GC) ?_));refine Zp 4 Z5 ?_;refine Zw ?_;refine YQ (k:=3) 4 kR (results193) rfl rfl (Xa rfl) dC rfl ?_;match p,hb88,hb92 with
 |[],h,_=>simp at h
 |[x],_,h=>simp at h
 |x::y::r,_,_=>rfl)))
theorem ZmJ (op : Int) (hop:op=3) (l:List Nd) (hF:∀x∈l,FitT x) (hn:szL l<=1000000):AF prog 193 [Zb op,YN l] (· =pTr (Eg op l)):=by
 have hll:l.length<=1000000:=XK (GB l) hn
 obtain ⟨L,hLe⟩:∃L,L=G5 op l:=⟨_,rfl⟩
 have hFL:∀y∈L,FitT y:=by rw [hLe];exact Zh3 hF
 have hLl:L.length<=1000000:=by rw [hLe];exact XK (GB _) (XK (ZcZ op l) hn)
 have hfl:=ZeA l op hn
 rw [<-hLe] at hfl
 refine AF.b2 99 func193 rfl ntmps193 (Xa rfl) ?_
 rintro w0 M0 _ v1 rfl-
 refine Zi ?_
 refine Zt zT 3 4 J4 fun h4=>?_;refine Ym ?_;refine WZ ?_ ?_<;>intro hb10
 . exfalso;omega
 . refine Zi ?_;refine ZO ?_;refine cD (cA call238 (hfl)) fun v47 hv47=>?_;clear hv47;refine KA ?_;refine Zq (YS 200 51 3 rfl) fun _=>?_;refine Zo ?_;refine ZP ?_;refine Yq (ι:={q:Nat×Value//q.1<=L.length/\q.2.oneCell'=true}) (fun k=>⟨[(0,_,_),(1,_,_),(4,_,_),(7,k.1.2, .val k.1.2),(8, .int .i64 k.1.1,Zb k.1.1)],[(4,_,_),(200,k.1.2, .own 51 3 (fpT op (L.take k.1.1)).length (Z9 (fpT op (L.take k.1.1))))]⟩) (fun k=>L.length-k.1.1) ⟨(0, .slice none 0 0),Xg _,rfl⟩ ?_;rintro ⟨⟨k,hO⟩,hk,hOo⟩;dsimp only;dsimp only at hk hOo;obtain ⟨hpl,hpf⟩:=Zh5 op hFL k;refine Zi ?_;refine xL 48 Za (xL 49 Za (xL 50 (Zs WG) (xL 51 Yj ?_)));refine ZE ?_ ?_<;>intro hb51
   . (
 obtain ⟨x,hx⟩:=gS L k;have e1:((Z9 L).drop (k*3)).take 3=[Zb x.op,Zv x.act,YN x.l]:=Ye hx;have e2:=YH hx;have hsn:=Zh4 op hx;(have g0:(Z9 L)[k*3+0]? =some (Zb x.op):=by rw [<-Vp,<-X1 (show 0<3 by decide),e1];rfl);refine WJ ?_;refine ZE ?_ ?_<;>intro hb61
 . exfalso;omega
 . refine Zi ?_;refine xL 71 Za (xL 72 Za (xL 73 (Ze WG) (xL 74 (Yn Gm) ?_)));refine yV (Zu SF) ?_;refine WZ ?_ ?_<;>intro hb70
   . (
 refine Zq (Wv (l:=200) (p':= .own 51 3 (fpT op (L.take (k+1))).length (Z9 (fpT op (L.take (k+1))))) rfl (by rw [hsn,Od,Qb hb61,Qc hb70])) fun _=>?_;refine Y2 ?_
 first
  | (exact Yr (
      ⟨(k+1,h60),Zd hx,ho60⟩
      ))
  | (exact Yr (
      ⟨(k+1,hO),Zd hx,hOo⟩
      )))
   . (
 refine WJ ?_;refine ZE ?_ ?_<;>intro hb77
 . exfalso;omega
 . (have hsn2:fpT op (L.take (k+1))=fpT op (L.take k)++[x]:=by rw [hsn,Od,Qb hb61,Qb hb70,Qb hb77]);(have hsl:(fpT op (L.take (k+1))).length=(fpT op (L.take k)).length+1:=by rw [hsn2,Xf];rfl);refine Zi ?_;refine xL 54 Za (xL 55 Za (xL 56 Za (xL 57 (Ze WG) ?_)));refine yU (Wn Z5) fun v58=>?_;refine WH 59 Sj fun h59 ho59=>?_;refine Wc 200 59 60 Sj fun h60 ho60=>?_;refine Zz (ZM (l:=60) 200 rfl rfl) fun _=>?_;refine Zz (Wv (l:=200) (p':= .own 51 3 (fpT op (L.take (k+1))).length (Z9 (fpT op (L.take (k+1))))) rfl (Eq.trans (congrArg (PV.own 51 3 _) (show _=Z9 (fpT op (L.take k))++cN x from rfl)) (by rw [Lj,<-hsn2,hsl]))) fun _=>?_;refine K5 ?_
   first
    | (exact Yr (
        ⟨(k+1,h60),Zd hx,ho60⟩
        ))
    | (exact Yr (
        ⟨(k+1,hO),Zd hx,hOo⟩
        ))))
   . (
 rw [Xt (show L.length<=k by omega)];refine nav ?_;refine Zq (En.freeze (l:=200) (t:=7) rfl rfl) fun _=>?_;rw [JC _ _ _ rfl];have hml:=(Zh5 op hFL L.length).1;rw [Xt (Xd L.length)] at hml;(have hnd:Eg op l=Ef op (fpT op L):=by unfold Eg fpT;rw [hLe]);rw [hnd];generalize fpT op L=p at hml ⊢;refine Zo ?_;refine xL 86 Za (xL 87 (Zs WG) (xL 88 Ky ?_));refine ZE ?_ ?_<;>intro hb88
 . (
 obtain rfl:p=[]:=Xv oM;refine Zi ?_;refine xM (ZC GC) ?_;refine Zz (Hk (t:=89) (p':=pTr Hg) rfl Et) fun _=>?_;refine Zp 4 Z5 ?_;refine Zw ?_;exact YQ (k:=3) 4 kR (results193) rfl rfl (Xa rfl) dC rfl rfl)
 . (
 refine Zi ?_;refine xL 90 Za (xL 91 (Zs WG) (xL 92 Ky ?_));refine ZE ?_ ?_<;>intro hb92
 . (
 obtain ⟨x,rfl⟩:∃x,p=[x]:=by
  match p,hb92 with
  |[],h=>simp at h
  |[x],_=>exact ⟨x,rfl⟩
  |_::_::_,h=>simp at h;omega
 have e1:((Z9 [x]).drop (0*3)).take 3=cN x:=Ye (k:=0) rfl;have e2:0*3+3<=(Z9 [x]).length:=YH (k:=0) (x:=x) rfl;refine Zi ?_;refine xL 93 Za (xL 94 (Ze WG) ?_);refine yU (Wn Z5) fun v95=>?_;refine Zp 4 Z5 ?_;refine Zw ?_;exact YQ (k:=3) 4 kR (results193) rfl rfl (Xa rfl) dC rfl rfl)
 . (
 refine Zi ?_;refine xL 96 Za (xL 97 Za (xL 98 (ZC GC) ?_));refine Zp 4 Z5 ?_;refine Zw ?_;refine YQ (k:=3) 4 kR (results193) rfl rfl (Xa rfl) dC rfl ?_;match p,hb88,hb92 with
 |[],h,_=>simp at h
 |[x],_,h=>simp at h
 |x::y::r,_,_=>rfl)))
theorem ZmK (f s:Nd) (hof:okT f=true) (hf:FitT f) (hs:FitT s) (hn:szL [f,s]<=1000000):AF prog 193 [Zb 6,YN [f,s]] (· =pTr (ZoQ [f,s])):=by
 rw [Sa] at hn
 have e3:((Z9 [f,s]).drop (0*3)).take 3=[Zb f.op,Zv f.act,YN f.l]:=Ye (k:=0) rfl
 have e4:0*3+3<=(Z9 [f,s]).length:=YH (k:=0) (x:=f) rfl
 have e5:((Z9 [f,s]).drop (1*3)).take 3=[Zb s.op,Zv s.act,YN s.l]:=Ye (k:=1) rfl
 have e6:1*3+3<=(Z9 [f,s]).length:=YH (k:=1) (x:=s) rfl
 have hres:ZoQ [f,s]=ζB (SC f s):=rfl
 refine AF.b2 99 func193 rfl ntmps193 (Xa rfl) ?_
 rintro w0 M0 _ v1 rfl-
 refine Zi ?_
 refine Zt zT 3 4 J4 fun h4=>?_;refine Ym ?_;refine WZ ?_ ?_<;>intro hb10
 . refine nav ?_;refine Ja (fun q:Value×Value×Value=>⟨[(0, .int .i64 6,Zb 6),(4,padd (sbase q.1) 0, .val (padd (sbase q.1) 0)),(5,padd (sbase q.2.1) 0, .val (padd (sbase q.2.1) 0)),(6,padd (sbase q.2.2) 0, .val (padd (sbase q.2.2) 0))],[(4,q.1, .own 51 3 1 [.val (.int .i64 0), .val (.string ByteArray.empty), .val (.slice none 0 0)]),(5,q.2.1, .own 51 3 1 [Zb f.op,Zv f.act,YN f.l]),(6,q.2.2, .own 51 3 1 [Zb s.op,Zv s.act,YN s.l])]⟩) ?_ ?_
   . (refine YJ [] [] ?_<;>refine xD 0 rfl Za ?_<;>refine xD 1 rfl (Ze WG) ?_<;>(refine yD 2 rfl (Wn Z5) fun v13 h=>?_;cases h)<;>refine xD 3 rfl Za ?_<;>refine xD 4 rfl (Ze WG) ?_<;>(refine yD 5 rfl (Wn Z5) fun v16 h=>?_;cases h)<;>(refine WI 6 7 kR ?_ ?_;rotate_right;(focus ((refine aWr fun bk=>?_)<;>refine Zt zT 3 6 J4 fun h6=>?_<;>refine bE bk ?_<;>(refine aDr 6 fun bk=>?_)<;>refine Zt zT 3 5 J4 fun h5=>?_<;>refine bE bk ?_<;>(refine aDr 8 fun bk=>?_)<;>refine Zp 5 Z5 ?_<;>refine bE bk ?_<;>(refine aDr 9 fun bk=>?_)<;>refine Zp 6 Z5 ?_<;>refine bE bk ?_));rotate_right;(focus ((refine aWr fun bk=>?_)<;>refine Zt zT 3 5 J4 fun h5=>?_<;>refine bE bk ?_<;>(refine aDr 7 fun bk=>?_)<;>refine Zt zT 3 6 J4 fun h6=>?_<;>refine bE bk ?_<;>(refine aDr 8 fun bk=>?_)<;>refine Zp 5 Z5 ?_<;>refine bE bk ?_<;>(refine aDr 9 fun bk=>?_)<;>refine Zp 6 Z5 ?_<;>refine bE bk ?_)))<;>refine WE ?_)<;>(
 exact YF (_,_,_) ⟨rfl,rfl,rfl,rfl,trivial⟩ ⟨rfl,rfl,rfl,trivial⟩)
   . rintro ⟨h4,h5,h6⟩;dsimp only;clear e3 e4 e5 e6;refine Zi ?_;refine xM (Zc 5 Gm) ?_;refine yV (Zh 5 SF) ?_;refine ZP ?_;refine Ja (fun _:Unit=>⟨[(0, .int .i64 6,Zb 6),(4,padd (sbase h4) 0, .val (padd (sbase h4) 0)),(5,padd (sbase h5) 0, .val (padd (sbase h5) 0)),(6,padd (sbase h6) 0, .val (padd (sbase h6) 0))],[(4,h4, .own 51 3 1 [.val (.int .i64 0), .val (.string ByteArray.empty), .val (.slice none 0 0)]),(5,h5, .own 51 3 1 (cN (SC f s).1)),(6,h6, .own 51 3 1 (cN (SC f s).2))]⟩) ?_ ?_
     . refine cX ?_ ?_<;>intro hb19
       . (
 obtain ⟨A,B,hAB⟩:=RR (JU.1 hof).1 hb19;(have hlop:SC f s=(A,Eg 4 [B,s]):=by unfold SC;rw [Qc hb19,hAB]);have hfA:=hf.p A (by rw [hAB];simp);have hfB:=hf.p B (by rw [hAB];simp);have hFe:=SE f;rw [hAB,Sa] at hFe;rw [hAB];have e3:((Z9 [A,B]).drop (0*3)).take 3=[Zb A.op,Zv A.act,YN A.l]:=Ye (k:=0) rfl;have e4:0*3+3<=(Z9 [A,B]).length:=YH (k:=0) (x:=A) rfl;have e5:((Z9 [A,B]).drop (1*3)).take 3=[Zb B.op,Zv B.act,YN B.l]:=Ye (k:=1) rfl;have e6:1*3+3<=(Z9 [A,B]).length:=YH (k:=1) (x:=B) rfl;have hj:=ZeE 4 (.inl rfl) [B,s] (fun x hx=>by simp only [Xh,UY,or_false] at hx;rcases hx with h|h<;>rw [h]<;>assumption) (by rw [Sa];omega);refine nav ?_;(refine YJ [7] [5,6] ?_<;>refine xD 0 rfl (Zc 5 TN) ?_<;>(refine yD 1 rfl (Zh 5 RS) fun v21 h=>?_;cases h)<;>refine xD 2 rfl (Ze WG) ?_<;>(refine yD 3 rfl (Wn Z5) fun v23 h=>?_;cases h)<;>(refine yE 4 rfl (Zn 6 Z5) fun v24 h=>?_;cases h)<;>(refine aDr 5 fun bk=>?_)<;>(refine J' (kk:=3) (xs:=[_,_]) (cs:=[[_,_,_],[_,_,_]]) 25 Sj fun h25 ho25=>?_;refine Zz (En.freeze (l:=25) (t:=25) rfl rfl) fun _=>?_;refine Zz (Ke (t:=25) (p':=YN [B,s]) rfl (Eq.trans (show _=PV.sl 2 ([B,s].flatMap cN) from rfl) (OX B s))) fun _=>?_)<;>refine bE bk ?_<;>(refine ZY 6 kR ?_)<;>(refine Yo (d:=26) rfl (cA (call193) hj) fun v26 h=>?_;cases h)<;>(refine ZY 7 kR ?_)<;>(refine Ww rfl rfl kR fun DQ bk=>?_)<;>refine Zp 6 Z5 ?_<;>refine WA (bk _ (nav ?_))<;>try dsimp only)
 refine Zo ?_;refine xM (Zc 5 TN) ?_;refine yU (Zh 5 RS) fun v28=>?_;refine xM (Ze WG) ?_;refine yU (Wn Z5) fun v30=>?_;refine Zp 5 Z5 ?_;refine Zw ?_;refine ZK (Wv (l:=5) (p':= .own 51 3 1 (cN (SC f s).1)) rfl (by rw [hlop];rfl)) fun _=>?_;refine ZK (Wv (l:=6) (p':= .own 51 3 1 (cN (SC f s).2)) rfl (by rw [hlop];rfl)) fun _=>?_;exact YF () sB sB)
       . (
 (have hlop:SC f s=(f,s):=by unfold SC;rw [Qb hb19]);refine Zq (Wv (l:=5) (p':= .own 51 3 1 (cN (SC f s).1)) rfl (by rw [hlop];rfl)) fun _=>?_;refine Zq (Wv (l:=6) (p':= .own 51 3 1 (cN (SC f s).2)) rfl (by rw [hlop];rfl)) fun _=>?_;refine nav ?_;exact YF () sB sB)
     . rintro _;unfold ζB at hres;generalize (SC f s).1=X at hres ⊢;generalize (SC f s).2=Y at hres ⊢;have ec:∀t:Nd,cN t=[Zb t.op,Zv t.act,YN t.l]:=fun _=>rfl;rw [ec,ec];refine Zi ?_;(refine xM (Zc 5 Gm) ?_<;>refine yV (Zh 5 SF) ?_<;>refine ZO ?_<;>(refine bLd 34 (fun hb34=>?_) (fun hb34=>?_)<;>(first|refine kL ?_|refine xM (Zc 6 Gm) ?_))<;>(first|refine kL ?_|refine yV (Zh 6 SF) ?_)<;>refine kZ ?_<;>refine ZN ?_<;>refine Zw ?_)<;>(
 refine cX ?_ ?_<;>intro hb38
 . first|exact bN hb38|(
 rw [Qc oM] at hres;refine Zi ?_;refine xM (ZC GC) ?_;refine Zz (Hk (t:=39) (p':=pTr Hg) rfl Et) fun _=>?_;refine Zp 4 Z5 ?_;refine Zw ?_;refine YQ (k:=3) 4 kR (results193) rfl rfl (Xa rfl) dC rfl ?_;rw [hres];rfl)
 . (
 rw [Qb oM] at hres;refine Wp ?_;refine yU (Zn 5 Z5) fun v41=>?_;refine yU (Zn 6 Z5) fun v42=>?_;refine J' (kk:=3) (xs:=[_,_]) (cs:=[[_,_,_],[_,_,_]]) 43 Sj fun h43 ho43=>?_;refine Zz (En.freeze (l:=43) (t:=43) rfl rfl) fun _=>?_;refine Zz (Ke (t:=43) (p':=YN [X,Y]) rfl (Eq.trans (show _=PV.sl 2 ([X,Y].flatMap cN) from rfl) (OX X Y))) fun _=>?_;refine xM (ZC GC) ?_;refine Zp 4 Z5 ?_;refine Zw ?_;refine YQ (k:=3) 4 kR (results193) rfl rfl (Xa rfl) dC rfl ?_;rw [hres];rfl))
 . exfalso;omega
theorem ZmL {l:List Nd} (h:∀x∈l,okT x=true):ζD l=Kd l:=by
 rw [Zea,S8]
 exact VQ fun x hx=>ZcI x (h x hx)
theorem ZeF {t:Nd} (h:rightT t=true) (h1:t.op=1\/t.op=2):t.l=[]:=by
 unfold rightT at h
 rcases h1 with h1|h1
 . rw [Qc h1] at h;simp only [Xe,UZ] at h;exact h.1
 . rw [Qb oM,Qc h1] at h;simp only [Xe,UZ] at h;exact h.1
theorem ZjQ {t:Nd} (hok:okT t=true) (hs:szT t<=1000000):(∀y∈Kd t.l,FitT y/\okT y=true)/\szL (Kd t.l)<=szL t.l:=by
 obtain ⟨hr,hp⟩:=JU.1 hok
 have hsz:=SE t
 refine ⟨fun y hy=>?_,?_⟩
 . rw [S8] at hy;obtain ⟨x,hx,rfl⟩:=Xp.1 hy;have:=Po hx;exact ⟨T9 (hp x hx) oM,Es (hp x hx)⟩
 . generalize t.l=l;induction l with
   |nil=>exact Xd _
   | cons x l ih2=>
     have h3:=Oh x;rw [Kd,szL,szL];omega
theorem ZeG :∀t:Nd,okT t=true->szT t<=1000000->AF prog 130 [pTr t] (· =pTr (Zd9 t)):=Nd.ind fun o a l ih hok hs=>by
 have e0:pTr (.mk o a l)= .agg [Zb o,Zv a,YN l]:=rfl
 rw [e0]
 obtain ⟨hr,hp⟩:=JU.1 hok
 have hsz:=SE (.mk o a l)
 have hlz:=GB l
 have hops:=RJ hr
 obtain ⟨hnf,hnz⟩:=ZjQ hok hs
 simp only [Nd.l,Nd.op] at hp hsz hops hnf hnz
 have hrn:=ZmL hp
 have hnl:=Zew l
 refine AF.b1 34 func130 rfl ntmps130 (Xa rfl) fun w0 M0 v0 _=>?_
 refine Zi ?_
 refine Yi 1 3 fun h1=>?_;refine Zt zT 3 2 J4 fun h2=>?_;refine Ym ?_
 refine xM (Zc 1 TN) ?_;refine yU (Zh 1 RS) fun v6=>?_;refine xL 7 (Zs WG) (xL 8 Ky ?_);refine ZE ?_ ?_<;>intro hb8
 . (
 refine Zi ?_;refine xM (Zc 1 Gm) ?_;refine yV (Zh 1 SF) ?_;refine xM (Zc 1 ZeB) ?_;refine yV (Zh 1 ZmH) ?_;refine xM (ZC GC) ?_;refine Zz (Hk (t:=13) (p':=pTr (.mk o a [])) rfl (ZcY o a)) fun _=>?_;refine Zp 2 Z5 ?_;refine Zw ?_;refine YQ (k:=3) 2 kR (results130) rfl rfl (Xa rfl) dC rfl ?_;rw [Zd9,Qc (by rw [UZ];exact Xv oM)];rfl)
 . (
 refine ZD ?_;refine Zq (YS 200 51 3 rfl) fun _=>?_;refine Zo ?_;refine ZP ?_;refine Yq (ι:={q:Nat×Value//q.1<=l.length/\q.2.oneCell'=true}) (fun k=>⟨[(1,_,_),(2,_,_),(3,k.1.2, .val k.1.2),(4, .int .i64 k.1.1,Zb k.1.1)],[(1,_,_),(2,_,_),(200,k.1.2, .own 51 3 ((Kd l).take k.1.1).length (Z9 ((Kd l).take k.1.1)))]⟩) (fun k=>l.length-k.1.1) ⟨(0, .slice none 0 0),Xg _,rfl⟩ ?_;rintro ⟨⟨k,hO⟩,hk,hOo⟩;dsimp only;dsimp only at hk hOo;refine Zi ?_;refine xL 14 Za (xL 15 (Zc 1 TN) ?_);refine yU (Zh 1 RS) fun v16=>?_;refine xL 17 (Zs WG) (xL 18 Yj ?_);refine ZE ?_ ?_<;>intro hb18
 . (
 obtain ⟨x,hx⟩:=gS l k;have e1:((Z9 l).drop (k*3)).take 3=[Zb x.op,Zv x.act,YN x.l]:=Ye hx;have e2:=YH hx;have hxm:=Xb hx;have hxs:=Po hxm;have hsn:=Z2 (Zev hx);(have hsl:((Kd l).take (k+1)).length=((Kd l).take k).length+1:=by rw [hsn,Xf];rfl);(have hsl2:((Kd l).take k).length<=1000000:=by rw [XE];omega);have ihx:=ih x hxm (hp x hxm) oM;rw [ZcI x (hp x hxm)] at ihx;refine Zi ?_;refine xL 21 Za (xL 22 (Zc 1 TN) ?_);refine yU (Zh 1 RS) fun v23=>?_;refine xL 24 Za (xL 25 (Ze WG) ?_);refine yU (Wn Z5) fun v26=>?_;refine cD (cA call130 (ihx)) fun v27 hv27=>?_;clear hv27;refine WH 28 Sj fun h28 ho28=>?_;refine Wc 200 28 29 Sj fun h29 ho29=>?_;refine Zz (ZM (l:=29) 200 rfl rfl) fun _=>?_;refine Zz (Wv (l:=200) (p':= .own 51 3 ((Kd l).take (k+1)).length (Z9 ((Kd l).take (k+1)))) rfl (Eq.trans (congrArg (PV.own 51 3 _) (show _=Z9 ((Kd l).take k)++cN (Yt x) from rfl)) (by rw [Lj,<-hsn,hsl]))) fun _=>?_;refine K5 ?_;refine Yr (
  ⟨(k+1,h29),Zd hx,ho29⟩
  ))
 . (
 rw [Xt (show (Kd l).length<=k by omega)];refine nav ?_;refine Zq (En.freeze (l:=200) (t:=3) rfl rfl) fun _=>?_;rw [JC _ _ _ rfl];have hnode:AF prog 193 [Zb o,YN (Kd l)] (· =pTr (Zd9 (.mk o a l))):=by
  rw [Zd9,Qb (by intro h;rw [UZ] at h;rw [h] at hb8;exact hb8 rfl),hrn];rcases Decidable.em (o=6) with h6|h6
  . rw [Qc h6];obtain ⟨f0,s0,hl2⟩:=RR hr h6;obtain rfl:l=[f0,s0]:=hl2;subst h6;exact ZmK (Yt f0) (Yt s0) (hnf (Yt f0) (by simp [Kd])).2 (hnf (Yt f0) (by simp [Kd])).1 (hnf (Yt s0) (by simp [Kd])).1 (XK hnz oM)
  . rw [Qb h6];rcases Decidable.em (o=3) with h3|h3
    . exact ZmJ o h3 (Kd l) (fun y hy=>(hnf y hy).1) oM
    . refine ZeE o ?_ (Kd l) (fun y hy=>(hnf y hy).1) oM;(have hln:¬l=[]:=fun e=>by rw [e] at hb8;exact hb8 rfl);rcases hops with h|h|h|h|h|h
      . exact Qd (ZeF hr (.inl h)) hln
      . exact Qd (ZeF hr (.inr h)) hln
      . exact Qd h h3
      . exact .inl h
      . exact .inr h
      . exact Qd h h6
 refine Zo ?_;refine xM (Zc 1 Gm) ?_;refine yV (Zh 1 SF) ?_;refine ZN ?_;refine cD (cA call193 (hnode)) fun v33 hv33=>?_;clear hv33;refine Zp 2 Z5 ?_;refine Zw ?_;exact YQ (k:=3) 2 kR (results130) rfl rfl (Xa rfl) dC rfl rfl))
theorem Zgv (t:Nd) (hf:FitT t):AF prog 83 [pTr t] (· = .tup [(TM t).1,Zb (TM t).2]):=by
 refine AF.b1 16 func83 rfl ntmps83 (Xa rfl) fun w0 M0 v0 _=>?_
 have e0:pTr t= .agg [Zb t.op,Zv t.act,YN t.l]:=rfl
 rw [e0]
 refine Zi ?_
 refine Yi 1 3 fun h1=>?_;refine Zt zT 3 2 J4 fun h2=>?_;refine ZX ?_
 refine yU (Zn 1 Z5) fun v5=>?_;refine cV (cA call82 (OQ t hf)) ?_;refine Wl ?_ ?_<;>intro hb7
 . (
 refine Zi ?_;refine xM (ZC GC) ?_;refine Zp 2 Z5 ?_;refine ZP ?_;refine Yb (k:=3) 2 kR (results83) rfl rfl rfl (Xa rfl) dC rfl ?_;rw [show TM t=(GO,1) by unfold TM;rw [Qb (by simpa using hb7)]];rfl)
 . (
 (have hv:Gc t=true:=by simpa using hb7);have hsz:=ζy hv;have hok:=ζx hv;have hfn:=T9 hok oM;have hred:=ZeG t hok oM;rw [ZcI t hok] at hred;refine Zi ?_;refine yU (Zn 1 Z5) fun v9=>?_;refine cD (cA call130 (hred)) fun v10 hv10=>?_;clear hv10;refine Zt zT 3 4 J4 fun h4=>?_;refine Zp 4 Z5 ?_;refine Zw ?_;have e1:cN (Yt t)=[Zb (Yt t).op,Zv (Yt t).act,YN (Yt t).l]:=rfl;refine Zo ?_;refine yU (Zn 4 Z5) fun v11=>?_;refine cV (cA call82 (OQ (Yt t) hfn)) ?_;refine Wl ?_ ?_<;>intro hb13
 . (
 refine Zi ?_;refine xM (ZC GC) ?_;refine Zp 2 Z5 ?_;refine ZP ?_;refine Yb (k:=3) 2 kR (results83) rfl rfl rfl (Xa rfl) dC rfl ?_;rw [show TM t=(GO,5) by unfold TM;rw [Qc hv,Qb (by simpa using hb13)]];rfl)
 . (
 refine Zi ?_;refine yU (Zn 4 Z5) fun v15=>?_;refine Zp 2 Z5 ?_;refine ZP ?_;refine Yb (k:=3) 2 kR (results83) rfl rfl rfl (Xa rfl) dC rfl ?_;rw [show TM t=(pTr (Yt t),0) by unfold TM;rw [Qc hv,Qc (by simpa using hb13)]];rfl))
def ZeH (t:Nd):Nd:=if Gc t=true then (if Gc (Yt t)=true then Yt t else nd0) else nd0
theorem Hq {p q:PV} {r:PV} (h:Rr p q):Rr (.tup [p,r]) (.tup [q,r]):=Rr.tup rfl fun i a b ha hb=>by
 match i with
 |0=>cases ha;cases hb;exact h
 |1=>cases ha;cases hb;exact Rr.rfl' _
 |i+2=>simp at ha
theorem Zpd (t:Nd):Rr (TM t).1 (pTr (ZeH t)):=by
 unfold TM ZeH
 split
 . split
   . exact Rr.rfl' _
   . exact TJ
 . exact TJ
theorem Zpe (t:Nd):shD (.tup [(TM t).1,Zb (TM t).2])=true:=by
 unfold TM
 split
 . split<;>rfl
 . rfl
theorem ZmM {t:Nd} (hf:FitT t):FitT (ZeH t):=by
 unfold ZeH
 split
 . rename_i h;split
   . exact T9 (ζx h) (by have:=ζy h;omega)
   . exact Rc
 . exact Rc
end Go.Proofs.YtmkojdfiadbeeaaGreat
namespace Go.En
open Go.RowKit Go.Cb Go.WideShapes Go.ChangeShapes Go.ChangeAt Go.Deep
theorem Oi {H:Type} (P:Program) (e:TypeId) {d:DataW H} {n:Nat}:∀{l:List (DataW H)},d∈l->n∈d.weights P e->n∈DataW.weightsAll P e l
 | x::l,h,hn=>by
   rw [DataW.weightsAll,XB];rcases Xh.1 h with rfl|h
   . exact .inl hn
   . exact .inr (Oi P e h hn)
theorem G0 {H:Type} (P:Program) {d:DataW H} {t:TypeId} {n:Nat}:∀{ts:List TypeId} {l:List (DataW H)} (i:Nat),ts[i]? =some t->l[i]? =some d->n∈d.weights P t->n∈DataW.weightsEach P ts l
 | t'::ts,x::l,0,h1,h2,hn=>by
   simp at h1 h2;subst h1 h2;rw [DataW.weightsEach,XB];exact .inl hn
 | t'::ts,x::l,i+1,h1,h2,hn=>by
   rw [DataW.weightsEach,XB];exact .inr (G0 P i (by simpa using h1) (by simpa using h2) hn)
structure Dec (P:Program) (t:TypeId) (k:Nat) {α:Type} (enc:α->List PV) (fit:α->Prop):Prop where
 size:P.cellsOf t=k
 len:∀a,(enc a).length=k
 dec:∀{H:Type} (e:TypeId×Value->H) (w:World) (spare:Nat->Bool) (held:Bool) (fuel:Nat) (cs:List Value) (x:DataW H×List MemPlace),DataW.trod e P w 0 spare held fuel t cs=some x->(∀n∈x.1.weights P t,n<=reachBytes)->
  ∃a,fit a/\cs.length=k/\∀(i:Nat) (v:Value) (p:PV),cs[i]? =some v->(enc a)[i]? =some p->Shr (fun _=>False) w v p
section
variable {P:Program} {t:TypeId}
theorem ζT {v u:Value} {p q:PV} {w:World} (h:Shr (fun _=>False) w v p) (i:Nat) (h1:[v][i]? =some u) (h2:[p][i]? =some q):Shr (fun _=>False) w u q:=by
 cases i with
 |zero=>simp at h1 h2;subst h1 h2;exact h
 |succ i=>simp at h1
theorem Zpf (ht:P.underlying t=some (.int .i64)) (hs:P.cellsOf t=1):Dec P t 1 (fun n:Int=>[Zb n]) (fun n=> -9223372036854775808<=n/\n<=9223372036854775807) where
 size:=hs
 len:=fun _=>rfl
 dec:=fun e w spare held fuel cs x h=>by
  intro hwt;obtain ⟨n,rfl,_,hw⟩:=DataW.trod_int ht h;refine ⟨n,?_,rfl,fun i v p h1 h2=>ζT (.val _) i h1 h2⟩;simpa [Lit.wf,IntKind.min,IntKind.max,IntKind.signed,IntKind.bits] using hw
theorem Zpg (ht:P.underlying t=some .string) (hs:P.cellsOf t=1):Dec P t 1 (fun s:BA=>[Zv s]) (fun s=>s.size<=140737488355328) where
 size:=hs
 len:=fun _=>rfl
 dec:=fun e w spare held fuel cs x h=>by
  intro hwt;obtain ⟨s,rfl,rfl,hw⟩:=DataW.trod_string ht h;have hsz:s.size<=reachBytes:=hwt s.size (by show s.size∈DataW.weights P t (.lit (.string s.data.toList));rw [DataW.weights];exact XC.2 (by rw [X'];rfl));exact ⟨s,by unfold reachBytes at hsz;omega,rfl,fun i v p h1 h2=>ζT (.val _) i h1 h2⟩
theorem ZbJ {α:Type} {e k:Nat} {enc:α->List PV} {fit:α->Prop} (ht:P.underlying t=some (.slice e)) (hs:P.cellsOf t=1) (hk:0<k) (hby:0<P.bytesOf e) (D:Dec P e k enc fit):
 Dec P t 1 (fun l:List α=>[PV.sl l.length (l.flatMap enc)]) (fun l=>l.length<=140737488355328/\∀x∈l,fit x) where
 size:=hs
 len:=fun _=>rfl
 dec := fun en w spare held fuel cs x h=>by
  intro hwt;rcases open_slice ht h with ⟨rfl,_⟩|⟨a,len,cap,m,n,Dt,Pl,rfl,_,hl,hm,hmm,rfl,hx⟩
  . exact ⟨[],⟨sM,sM⟩,rfl,fun i v p h1 h2=>ζT (.emp none 0 (by unfold maxLen;omega) (fun _=>rfl)) i h1 h2⟩
  . rcases VY len with h0|h0
    . subst h0;exact ⟨[],⟨sM,sM⟩,rfl,fun i v p h1 h2=>ζT (.emp (some a) cap hm (fun h=>by cases h)) i h1 h2⟩
    (have hlm:len<=m:=by rw [hmm];split<;>omega);simp only [DataW.weights,ht] at hwt;have hlen:len<=reachBytes:=by
     have:=hwt _ (Xu ..);simp only [Xc,VN] at this;exact XK (XK (V9 len _) (Nat.le_mul_of_pos_right _ hby)) this
    have hwi:∀i,i<len->∀n∈(Dt i).weights P e,n<=reachBytes:=fun i hi n hn=>hwt n (Xs _ (XB.2 (.inl (Oi P e (Xp.2 ⟨i,by simpa using hi,rfl⟩) hn))));have key:∀i:Nat,∃(y:α×(Nat->Value)),i<len->fit y.1/\∀(j:Nat) (p:PV),(enc y.1)[j]? =some p->w.cell? ((a.add (i*k)).add j)=some (y.2 j)/\Shr (fun _=>False) w (y.2 j) p:=fun i=>by
     obtain ⟨cs0,h10,h20⟩:=hx 0 oM;obtain ⟨y0,_⟩:=D.dec en w spare held n cs0 _ h20 (hwi 0 h0);by_cases hi:i<len
     . obtain ⟨cs',h1,h2⟩:=hx i oM;rw [D.size] at h1;obtain ⟨_,hlen,hcell⟩:=World.cells?_some h1;obtain ⟨y,hy,_,hS⟩:=D.dec en w spare held n cs' _ h2 (hwi i hi);refine ⟨(y,fun j=>(cs'[j]?).getD undef),fun _=>⟨hy,fun j p hp=>?_⟩⟩;(have hj:j<k:=by rw [<-D.len y];exact Zd hp);obtain ⟨u,hu⟩:=Y3 (show j<cs'.length by omega);have:=hcell j hj;simp only [hu,Uf];exact ⟨by rw [this,hu],hS j u p hu hp⟩
     . exact ⟨(y0,fun _=>undef),fun h=>Qd h hi⟩
    obtain ⟨Y,hY⟩:=Classical.skolem.1 key;have hspot:∃b off,a=⟨b,off,none⟩:=by
     obtain ⟨hf,hc⟩:=hY 0 h0;obtain ⟨p,hp⟩:=Y3 (show 0<(enc (Y 0).1).length by rw [D.len];exact hk);have:=(hc 0 p hp).1;obtain ⟨b,off,spot⟩:=a;(have hspot:spot=none:=by simpa [Addr.add] using World.cell?_spot this);subst hspot;exact ⟨b,off,rfl⟩
    obtain ⟨b,off,rfl⟩:=hspot;have hflen:((List.range len).map fun i=>(Y i).1).length=len:=sM;refine ⟨(List.range len).map fun i=>(Y i).1,⟨by rw [hflen];unfold reachBytes at hlen;omega,fun x hx=>?_⟩,rfl,fun i v p h1 h2=>ζT ?_ i h1 h2⟩
    . obtain ⟨i,hi,rfl⟩:=Xp.1 hx;exact (hY i (by simpa using hi)).1
    . rw [hflen];have hat:∀(c:Nat) (p:PV),(((List.range len).map fun i=>(Y i).1).flatMap enc)[c]? =some p->c / k<len/\(enc (Y (c / k)).1)[c % k]? =some p:=fun c p hp=>by
       (have hc:c<len*k:=by have:=Zd hp;rw [Ya D.len,hflen] at this;exact this);have hq:c / k<len:=Nat.div_lt_of_lt_mul (by rw [VF];exact hc);(have hget:((List.range len).map fun i=>(Y i).1)[c / k]? =some (Y (c / k)).1:=by simp [hq]);have:=Yx D.len hget (Nat.mod_lt c hk);rw [VF,Uj] at this;exact ⟨hq,by rw [<-this];exact hp⟩
      refine .sl b off len cap _ (fun c=>(Y (c / k)).2 (c % k)) hl hm (fun c hc=>⟨?_,fun h=>h⟩) (fun c p hp=>?_)
      . obtain ⟨p,hp⟩:=Y3 hc;obtain ⟨hq,hp'⟩:=hat c p hp;have:=((hY (c / k) hq).2 (c % k) p hp').1;rw [Kg,Kg,Vv,VF,Uj] at this;exact this
      . obtain ⟨hq,hp'⟩:=hat c p hp;exact ((hY (c / k) hq).2 (c % k) p hp').2
theorem ZbK {H:Type} {α:Type} {e k o:Nat} {enc:α->List PV} {fit:α->Prop} (D:Dec P e k enc fit) {en:TypeId×Value->H} {w:World} {spare:Nat->Bool} {held:Bool} {n:Nat} {cs:List Value} {y:DataW H×List MemPlace}
 (h:DataW.trod en P w 0 spare held n e ((cs.drop o).take (P.cellsOf e))=some y) (hwt:∀n∈y.1.weights P e,n<=reachBytes):∃a,fit a/\∀(i:Nat) (v:Value) (p:PV),cs[o+i]? =some v->(enc a)[i]? =some p->Shr (fun _=>False) w v p:=by
 obtain ⟨a,h1,_,h3⟩:=D.dec en w spare held n _ y h hwt
 refine ⟨a,h1,fun i v p hv hp=>h3 i v p ?_ hp⟩
 have hi:i<k:=by rw [<-D.len a];exact Zd hp
 rw [D.size,X1 hi,Vp];exact hv
theorem Zc0 {α β:Type} {k:Nat} {enc:α->List PV} {enc':β->List PV} {fit:α->Prop} {fit':β->Prop} (g:α->β) (D:Dec P t k enc fit) (hl:∀b,(enc' b).length=k) (he:∀a,enc' (g a)=enc a) (h:∀a,fit a->fit' (g a)):Dec P t k enc' fit':=
 ⟨D.size,hl,fun e w s hd f cs x hx hy=>let ⟨a,h1,h2,h3⟩:=D.dec e w s hd f cs x hx hy;⟨g a,h a h1,h2,by rw [he];exact h3⟩⟩
theorem ZmN {cs:List Value} {A B:List PV} {k:Nat} {w:World} (hA:A.length=k) (h1:∀(i:Nat) (v:Value) (p:PV),cs[i]? =some v->A[i]? =some p->Shr (fun _=>False) w v p)
 (h2:∀(i:Nat) (v:Value) (p:PV),cs[k+i]? =some v->B[i]? =some p->Shr (fun _=>False) w v p) (i:Nat) (v:Value) (p:PV) (hv:cs[i]? =some v) (hp:(A++B)[i]? =some p):Shr (fun _=>False) w v p:=by
 rcases XL i k with h|h
 . rw [Vj oM] at hp;exact h1 i v p hv hp
 . rw [Vq oM] at hp;exact h2 (i-k) v p (by rw [Nat.add_sub_cancel' h];exact hv) (by rw [<-hA];exact hp)
theorem ZeI {α β:Type} {f0 f1:Field} {k0 k1:Nat} {enc0:α->List PV} {enc1:β->List PV} {fit0:α->Prop} {fit1:β->Prop} (ht:P.underlying t=some (.struct #[f0,f1])) (hs:P.cellsOf t=k0+k1)
 (D0:Dec P f0.type k0 enc0 fit0) (D1:Dec P f1.type k1 enc1 fit1) (ho0:f0.offset=0) (ho1:f1.offset=k0):Dec P t (k0+k1) (fun x:α×β=>enc0 x.1++enc1 x.2) (fun x=>fit0 x.1/\fit1 x.2) where
 size:=hs
 len:=fun x=>by rw [Xf,D0.len,D1.len]
 dec:=fun e w spare held fuel cs x h=>by
  intro hwt;obtain ⟨xs,n,_,rfl,hlen,hxl,hf⟩:=DataW.trod_struct ht h;simp only [DataW.weights,ht] at hwt;have g0:=hf 0 f0 rfl;have g1:=hf 1 f1 rfl;match xs,hxl with
  |[y0,y1],_=>
  rw [ho0] at g0;rw [ho1] at g1;obtain ⟨a,ha,A⟩:=ZbK D0 g0 (fun n hn=>hwt n (G0 P 0 sM sM hn));obtain ⟨b,hb,B⟩:=ZbK D1 g1 (fun n hn=>hwt n (G0 P 1 sM sM hn));refine ⟨(a,b),⟨ha,hb⟩,by rw [hlen,hs],ZmN (D0.len a) (fun i v p hv hp=>A i v p (by rw [XA];exact hv) hp) B⟩
section
variable {H:Type} {en:TypeId×Value->H} {w:World} {spare:Nat->Bool} {held:Bool} {r:Reach} {base:Nat} {v:Value} {d:DataW H} {ps:List MemPlace}
theorem Zgw (hT:NoAgg P t=true) (h:Value.okWide P w r base t v):v.cells= #[v]:=by
 unfold NoAgg at hT
 unfold Value.okWide at h
 cases v<;>first|rfl|skip
 rename_i cs
 exfalso
 cases hu:P.underlying t with
 |none=>rw [hu] at hT;simp at hT
 | some dd=>
   rw [hu] at hT h
   cases dd<;>simp_all [Cell.okWide,Cell.ok]
theorem Zsg {α:Type} {f:α->PV} {fit:α->Prop} (D:Dec P t 1 (fun a=>[f a]) fit) (hT:NoAgg P t=true) (hv:Value.okWide P w r base t v) (h:DataW.Trod en P w 0 spare held t v d ps) (hwt:∀n∈d.weights P t,n<=reachBytes):∃a,fit a/\Shr (fun _=>False) w v (f a):=by
 obtain ⟨fuel,hf⟩:=h
 rw [Zgw hT hv] at hf
 obtain ⟨a,h1,_,h3⟩:=D.dec en w spare held fuel _ _ hf hwt
 exact ⟨a,h1,h3 0 v (f a) rfl rfl⟩
end
theorem Hr {H:Type} {enc:TypeId×Value->H} {P:Program} (hl:laidOutB P=true) {W W':World} (hb:Below W.heap.size W W'):∀{ts:List TypeId} {vs:List Value} {ds:List (DataW H)} {ps:List MemPlace},(ts.all fun t=>P.readableRec t&&decide (t<P.types.size))=true->
 DataW.TrodAll enc P W 0 (fun _=>true) true ts vs ds ps->DataW.TrodAll enc P W' 0 (fun b=>decide (b<W.heap.size)) true ts vs ds ps
 |[],[],[],ps,_,h=>h
 | t::ts,v::vs,d::ds,ps,ht,⟨p,q,h1,h2,h3⟩=>by
   rw [Uy,Xe,Xe] at ht;refine ⟨p,q,Below.trod hl ht.1.1 (Qe ht.1.2) h1 hb ?_,Hr hl hb ht.2 h2,h3⟩;obtain ⟨m,hm⟩:=h1;exact DataW.trod_lt m _ _ _ hm
theorem AF.law {P:Program} {f:FuncId} {ps:List PV} (hA:AF P f ps (· = .val (.bool true))) {W:World} {vs:List Value} (hl:vs.length=ps.length) (hv:∀(i:Nat) (v:Value) (p:PV),vs[i]? =some v->ps[i]? =some p->Shr (fun _=>False) W v p) (hT:TabW W (fun _=>False) (fun _=>False)) (hE:ErrW W (fun _=>False) (fun _=>False):=by intro g hg;cases hg):
 Calls P f vs.toArray W fun e w'=>e= .returned (.bool true)/\Below W.heap.size W w':=
 (hA (fun _=>False) W vs ⟨fun _ h=>h.elim,fun _=>hT,fun _=>hE⟩ hl hv).mono fun e w' ⟨v,p,F,h1,h2,h3,h4,_⟩=>by
   subst h2;have:=(h4.sh rfl).vOf;subst this;exact ⟨h1,h3⟩
end
section
variable {P:Program} {t:TypeId}
end
open Go.RowKit Go.Cb
section
variable {sL hP:List (Nat×Ent)}
end
open Go.RowKit Go.Cb Go.Proofs Go.Sort Go.ChangeShapes Go.WideShapes Go.ChangeAt
section
variable {P:Program} {c:Ctx} {ops:Array Oper} {Q:Exit->Act->World->Prop} {rest:List Oper} {sL hP:List (Nat×Ent)} {o:Oper}
end
section
variable {P:Program} {c:Ctx} {ops:Array Oper} {Q:Exit->Act->World->Prop} {rest:List Oper} {st:St} {sL hP:List (Nat×Ent)} {o:Oper} {Z:Nat->Bool} {K:List Nat} {fuel:Nat} {listed:Array Bool}
theorem ZeJ {i d:Nat} {p1 p2:PV} (ho:ops[i]? =some o) (hC:LB P c (⟨sL,hP⟩:St) o (· = .tup [p1,p2])) (k:∀v1 v2,vOf p1 v1->vOf p2 v2->aD P c ops Q Z K fuel (listed.setIfInBounds i true) ⟨put d (.tuple [v1,v2].toArray, .tup [p1,p2]) sL,hP⟩) (hsh:shD (.tup [p1,p2])=true:=by exact rfl) (hw:Yf ops sL o=some true:=by exact rfl) (hd:o.dst=some d:=by exact rfl) (hn:d<c.nt:=by exact Xa rfl):aW P c ops Q Z K fuel listed (⟨sL,hP⟩:St) i:=fun a w F H C hC'=>by
 refine Gx (Q':=fun _ a' w'=>(Z i=true\/C w')/\Go.En.wpAnyS P .any ops Q C Z fuel (listed.setIfInBounds i true) a' w') ho (fun a' w' hq=>hq) ?_
 have h1:=Lg H.rd hw
 unfold wpList
 rw [h1,Qc rfl]
 refine .inl ?_
 obtain ⟨f,args,hr,hcall⟩:=hC a w F H
 unfold Oper.wp
 rw [hr,Oper.upon_enter]
 refine hcall.mono fun e w' ⟨v,q,Fr,e1,e2,e3,e4,e5,e6⟩=>?_
 subst e1
 rw [show q= .tup [p1,p2] from e2] at e4
 have hS:=e4.shD hsh
 have hS':Shr (mof c hP F) w' v (.tup [p1,p2]):=hS.anti fun b _ h=> .inl h
 have hch:Chg (nK K hP F) w w':=e3.chg
 cases hS with
 | tup vs ps hl h=>
   match vs,hl,h,hS' with
   | [v1,v2],_,h,hS'=>
     have H2:HoldsF c ⟨put d (.tuple [v1,v2].toArray, .tup [p1,p2]) sL,hP⟩ F (a.put (some d) (.tuple [v1,v2].toArray)) w':=Du H e3 hn hS';simp only [Oper.upon,hd];exact ⟨.inr (hC' w' hch),k v1 v2 (h 0 v1 p1 rfl rfl).vOf (h 1 v2 p2 rfl rfl).vOf _ w' F H2 C fun W hW=>hC' W (hch.tr hW fun b hb=> .inl hb)⟩
end
end Go.En
namespace Go.Proofs.YtmkojdfiadbeeaaGreat
open Go.RowKit Go.Cb Go.En Tryz
theorem Zk:AggT prog 51 3=true:=kR
theorem YU:Ge prog 51=some ((.agg #[(.int .i64 0),(.string ByteArray.empty),(.slice none 0 0)]),([0,1,2]:List Nat).map fun o=>(o,1)):=kR
theorem Yp:ZeroT prog 51 (.agg #[(.int .i64 0),(.string ByteArray.empty),(.slice none 0 0)]):=by unfold ZeroT;kernel_rfl
def WP (o:Int) (l:List Nd):Nd:= .mk o ByteArray.empty l
def lf (s:BA):Nd:= .mk 1 s []
def sil:Nd:=WP 2 []
def ZbL (acts:List BA):Nd:=match acts with
 |[s]=>WP 6 [lf s,sil]
 |l=>WP 6 [WP 4 (l.map lf),sil]
theorem ζU {l:List BA} (h:l.length≠1):ZbL l=WP 6 [WP 4 (l.map lf),sil]:=by
 match l with
 |[]=>rfl
 |[s]=>simp at h
 |_::_::_=>rfl
theorem CV (o:Int) (a:BA):Rr (.agg [Zb o,Zv a, .val (.slice none 0 0)]) (pTr (.mk o a [])):=Rr.agg rfl fun i x y ha hb=>by
 match i with
 |0=>cases ha;cases hb;exact Rr.rfl' _
 |1=>cases ha;cases hb;exact Rr.rfl' _
 |2=>cases ha;cases hb;exact Rr.nil
 |i+3=>simp at ha
theorem Gn (x y:Nd):PV.sl 2 [Zb x.op,Zv x.act,YN x.l,Zb y.op,Zv y.act,YN y.l]=YN [x,y]:=by
 show PV.sl 2 (cN x++(cN y++[]))=PV.sl 2 (Z9 [x,y])
 rw [W2];rfl
theorem Tu (o:Int) (l:List Nd):AF prog 120 [Zb o,YN l] (· =pTr (WP o l)):=by
 refine AF.b2 8 func120 rfl ntmps120 (Xa rfl) ?_
 rintro w0 M0 _ v1 rfl-
 refine Zi ?_
 refine Zt zT 3 4 Yp fun h4=>?_;refine Ym ?_
 refine xL 5 Za (xL 6 Za (xL 7 (ZC YU) ?_));refine Zp 4 Zk ?_;refine Zw ?_
 exact YQ (k:=3) 4 kR (results120) rfl rfl (Xa rfl) dC rfl rfl
theorem Zph (s:BA):AF prog 131 [Zv s] (· = .agg [Zb 1,Zv s, .val (.slice none 0 0)]):=by
 refine AF.b1 5 func131 rfl ntmps131 (Xa rfl) ?_
 rintro w0 M0 _ rfl
 refine Zi ?_
 refine Zt zT 3 2 Yp fun h2=>?_;refine Ym ?_
 refine xL 3 Za (xL 4 (ZC YU) ?_);refine Zp 2 Zk ?_;refine Zw ?_
 exact YQ (k:=3) 2 kR (results131) rfl rfl (Xa rfl) dC rfl rfl
theorem Zh6 (s:BA):AF prog 131 [Zv s] (· =pTr (lf s)):=(Zph s).reread rfl (CV 1 s)
theorem ZjR:AF prog 121 [] (· = .agg [Zb 2,Zv ByteArray.empty, .val (.slice none 0 0)]):=by
 refine AF.of_body 2 func121 rfl ntmps121 (Xa rfl) ?_
 intro w0 M0 vs hl hv
 obtain rfl:=Xv hl
 clear hl hv
 refine Zi ?_
 refine Zt zT 3 0 Yp fun h0=>?_;refine Ym ?_
 refine xM (ZC YU) ?_;refine Zp 0 Zk ?_;refine Zw ?_
 exact YQ (k:=3) 0 kR (results121) rfl rfl (Xa rfl) dC rfl rfl
theorem RU:AF prog 121 [] (· =pTr sil):=ZjR.reread rfl (CV 2 _)
theorem ZeK:AF prog 90 [] (· = .agg [Zb 2,Zv ByteArray.empty, .val (.slice none 0 0)]):=by
 refine AF.of_body 2 func90 rfl ntmps90 (Xa rfl) ?_
 intro w0 M0 vs hl hv
 obtain rfl:=Xv hl
 clear hl hv
 refine Zi ?_
 refine Zt zT 3 0 Yp fun h0=>?_;refine Ym ?_
 refine xM (ZC YU) ?_;refine Zp 0 Zk ?_;refine Zw ?_
 exact YQ (k:=3) 0 kR (results90) rfl rfl (Xa rfl) dC rfl rfl
theorem TO:AF prog 90 [] (· =pTr sil):=ZeK.reread rfl (CV 2 _)
theorem ZmO (s:BA):AF prog 91 [Zv s] (· = .agg [Zb 1,Zv s, .val (.slice none 0 0)]):=by
 refine AF.b1 5 func91 rfl ntmps91 (Xa rfl) ?_
 rintro w0 M0 _ rfl
 refine Zi ?_
 refine Zt zT 3 2 Yp fun h2=>?_;refine Ym ?_
 refine xL 3 Za (xL 4 (ZC YU) ?_);refine Zp 2 Zk ?_;refine Zw ?_
 exact YQ (k:=3) 2 kR (results91) rfl rfl (Xa rfl) dC rfl rfl
theorem ζV (s:BA):AF prog 91 [Zv s] (· =pTr (lf s)):=(ZmO s).reread rfl (CV 1 s)
theorem Kb:ElT prog 49 51 3 48 (.agg #[(.int .i64 0),(.string ByteArray.empty),(.slice none 0 0)]):=⟨underlying49,by kernel_rfl,rfl,dC⟩
theorem TP:FldT prog 51 2 2=true:=kR
theorem RV:NoAgg prog 49=true:=kR
theorem K1:SlT prog 49 51 3=true:=kR
theorem ZjS:(prog.info? 49).map (·.size)=some 1:=kR
theorem ZmP (l:List BA) (k:Nat) {x:BA} (hx:l[k]? =some x):((l.take k).map lf).flatMap cN++cN (lf x)=((l.take (k+1)).map lf).flatMap cN:=by
 rw [Z2 hx,XW,XY];simp
theorem ZmQ (l:List BA) (k:Nat) (h:k<=l.length):(((l.take k).map lf).flatMap cN).length=k*3:=by
 rw [Ya Ru,Xc,XE,Vf h]
theorem ZjT (l:List BA) (hl:l.length<=1000000):AF prog 87 [ZW l] (· =pTr (ZbL l)):=by
 refine AF.b1 32 func87 rfl ntmps87 (Xa rfl) fun w0 M0 v0 _=>?_
 refine Zi ?_
 refine Zt zT 3 2 Yp fun h2=>?_;refine Ym ?_;refine ZX ?_
 refine xL 6 Za (xL 7 (Zs Zm) (xL 8 Za ?_));refine Zw ?_
 refine Zq (YS 200 51 3 rfl) fun _=>?_
 refine Yq (ι:={x:Nat×Value//x.1<=l.length}) (fun k=>⟨[(2,_,_),(6,_,_),(7,_,_),(3,k.1.2, .val k.1.2),(8, .int .i64 k.1.1,Zb k.1.1)],[(2,_,_),(200,k.1.2, .own 51 3 k.1.1 (((l.take k.1.1).map lf).flatMap cN))]⟩) (fun k=>l.length-k.1.1) ⟨(0, .slice none 0 0),oM⟩ ?_
 rintro ⟨⟨k,h3⟩,hk⟩
 dsimp only
 dsimp only at hk
 refine Yy ?_ ?_<;>intro hb9
 . (
 obtain ⟨x,hx⟩:=gS l k;have e1:=Yh (f:=Zv) hx;have e3:=ZmQ l k hk;refine Zi ?_;refine xM (Ze Zm) ?_;refine yV (Zu ZB) ?_;refine ZX ?_;refine ZO ?_;refine cD (cA call131 (Zh6 x)) fun v14 hv14=>?_;clear hv14;refine WH 15 Kb fun h15 ho15=>?_;refine Wc 200 15 16 Kb fun h16 ho16=>?_;refine JS ?_;refine ZK (ZM (l:=16) 200 rfl rfl) fun _=>?_;rw [show ((l.take k).map lf).flatMap cN++_=((l.take (k+1)).map lf).flatMap cN from ZmP l k hx];refine Yr (
  ⟨(k+1,h16),by show k+1<=l.length;omega⟩
  ))
 . (
 obtain rfl:k=l.length:=oM;rw [Xx];refine nav ?_;refine Zq (En.freeze (l:=200) (t:=3) rfl rfl) fun _=>?_;rw [<-W2,JC _ _ _ (by rw [Xc])];refine Zo ?_;refine xL 18 Za (xL 19 (Zs K1) (xL 20 Ky ?_));refine ZE ?_ ?_<;>intro hb20
 . (
 obtain ⟨x,rfl⟩:∃x,l=[x]:=Ua.1 (by have:=hb20;rw [Xc] at this;omega);have e1:((Z9 ([x].map lf)).drop (0*3)).take 3=cN (lf x):=rfl;have e2:0<([x].map lf).length:=Vt;refine nav ?_;refine YJ [] [] ?_<;>refine xD 0 rfl Za ?_<;>refine xD 1 rfl (Ze K1) ?_<;>(refine yD 2 rfl (Wn Zk) fun v23 h=>?_;cases h)<;>(refine ZY 3 kR ?_)<;>(refine Yo (d:=24) rfl (cA call121 RU) fun v24 h=>?_;cases h)<;>(refine aDr 4 fun bk=>?_)<;>(refine J' (kk:=3) (xs:=[_,_]) (cs:=[[_,_,_],[_,_,_]]) 25 Kb fun h25 ho25=>?_;refine Zz (En.freeze (l:=25) (t:=25) rfl rfl) fun _=>?_;refine Zz (Ke (t:=25) (p':=YN [lf x,sil]) rfl (Eq.trans (show _=PV.sl 2 ([lf x,sil].flatMap cN) from rfl) (Gn (lf x) sil))) fun _=>?_)<;>refine bE bk ?_<;>(refine ZY 5 kR ?_)<;>(refine Yo (d:=26) rfl (cA call120 (Tu 6 [lf x,sil])) fun v26 h=>?_;cases h)<;>(refine aDr 6 fun bk=>?_)<;>refine Zp 2 Zk ?_<;>refine bE bk ?_<;>refine WE ?_;refine YQ (k:=3) 2 kR (results87) rfl rfl (Xa rfl) dC rfl ?_;rfl)
 . (
 refine Wp ?_;refine cD (cA call120 (Tu 4 (l.map lf))) fun v28 hv28=>?_;clear hv28;refine cD (cA call121 (RU)) fun v29 hv29=>?_;clear hv29;refine J' (kk:=3) (xs:=[_,_]) (cs:=[[_,_,_],[_,_,_]]) 30 Kb fun h30 ho30=>?_;refine Zz (En.freeze (l:=30) (t:=30) rfl rfl) fun _=>?_;refine Zz (Ke (t:=30) (p':=YN [WP 4 (l.map lf),sil]) rfl (Eq.trans (show _=PV.sl 2 ([WP 4 (l.map lf),sil].flatMap cN) from rfl) (Gn (WP 4 (l.map lf)) sil))) fun _=>?_;refine cD (cA call120 (Tu 6 [WP 4 (l.map lf),sil])) fun v31 hv31=>?_;clear hv31;refine Zp 2 Zk ?_;refine Zw ?_;refine YQ (k:=3) 2 kR (results87) rfl rfl (Xa rfl) dC rfl ?_;rw [ζU (by have:=hb20;rw [Xc] at this;omega)];rfl))
theorem ZeL (l:List BA) (hl:l.length<=1000000):AF prog 34 [ZW l] (· =pTr (ZbL l)):=by
 refine AF.b1 36 func34 rfl ntmps34 (Xa rfl) fun w0 M0 v0 _=>?_
 refine Zi ?_
 refine Zt zT 3 2 Yp fun h2=>?_;refine Ym ?_
 refine xL 5 Za (xL 6 (Zs Zm) (xL 7 Ky ?_));refine ZE ?_ ?_<;>intro hb7
 . (
 obtain ⟨x,rfl⟩:∃x,l=[x]:=Ua.1 oM;have e1:([x].map Zv)[0]? =some (Zv x):=rfl;have e2:0<[x].length:=Vt;refine Zi ?_;refine xL 8 Za (xL 9 (Ze Zm) ?_);refine yV (Zu ZB) ?_;refine cD (cA call91 (ζV x)) fun v11 hv11=>?_;clear hv11;refine cD (cA call90 (TO)) fun v12 hv12=>?_;clear hv12;refine J' (kk:=3) (xs:=[_,_]) (cs:=[[_,_,_],[_,_,_]]) 13 Kb fun h13 ho13=>?_;refine Zz (En.freeze (l:=13) (t:=13) rfl rfl) fun _=>?_;refine Zz (Ke (t:=13) (p':=YN [lf x,sil]) rfl (Eq.trans (show _=PV.sl 2 ([lf x,sil].flatMap cN) from rfl) (Gn (lf x) sil))) fun _=>?_;refine xM (ZC YU) ?_;refine Zp 2 Zk ?_;refine Zw ?_;refine YQ (k:=3) 2 kR (results34) rfl rfl (Xa rfl) dC rfl ?_;rfl)
 . (
 refine Zi ?_;refine xM (ZC YU) ?_;refine Zt zT 3 3 Yp fun h3=>?_;refine Zp 3 Zk ?_;refine Ym ?_;refine ZP ?_;refine Zq (YS 200 51 3 rfl) fun _=>?_;refine Yq (ι:={x:Nat×Value//x.1<=l.length}) (fun k=>⟨[(0,_,_),(2,_,_),(3,_,_),(4, .int .i64 k.1.1,Zb k.1.1)],[(2,_,_),(3,h3, .own 51 3 1 [Zb 4,Zv ByteArray.empty, .val k.1.2]),(200,k.1.2, .own 51 3 k.1.1 (((l.take k.1.1).map lf).flatMap cN))]⟩) (fun k=>l.length-k.1.1) ⟨(0, .slice none 0 0),oM⟩ ?_;rintro ⟨⟨k,h33⟩,hk⟩;dsimp only;dsimp only at hk;refine Zi ?_;refine xL 16 Za (xL 17 Za (xL 18 (Zs Zm) (xL 19 Yj ?_)));refine ZE ?_ ?_<;>intro hb19
 . (
 obtain ⟨x,hx⟩:=gS l k;have e1:=Yh (f:=Zv) hx;have e3:=ZmQ l k hk;refine nav ?_;(refine YJ [10] [3] ?_<;>refine xD 0 rfl (Zc 3 TP) ?_<;>(refine yD 1 rfl (Zh 3 RV) fun v23 h=>?_;cases h)<;>refine xD 2 rfl Za ?_<;>refine xE 3 rfl Za ?_<;>refine xE 4 rfl (Ze Zm) ?_<;>(refine yE 5 rfl (Zu ZB) fun v27 h=>?_;cases h)<;>(refine ZY 6 kR ?_)<;>(refine Yo (d:=28) rfl (cA call91 (ζV x)) fun v28 h=>?_;cases h)<;>(refine aDr 7 fun bk=>?_)<;>refine WH 29 Kb fun h29 ho29=>?_<;>refine bE bk ?_<;>(refine aDr 8 fun bk=>?_)<;>refine Wc 200 29 30 Kb fun h30 ho30=>?_<;>refine bE bk ?_<;>refine xE 9 rfl (Zc 3 TP) ?_<;>(refine ZY 10 kR ?_)<;>(refine Ww rfl rfl kR fun DQ bk=>?_)<;>refine JX 3 RV ZjS ?_<;>refine WA (bk _ (nav ?_))<;>try dsimp only)
 refine GP ?_;refine ZK (ZM (l:=30) 200 rfl rfl) fun _=>?_;rw [show ((l.take k).map lf).flatMap cN++_=((l.take (k+1)).map lf).flatMap cN from ZmP l k hx];refine Yr (
  ⟨(k+1,h30),by show k+1<=l.length;omega⟩
  ))
 . (
 obtain rfl:k=l.length:=oM;rw [Xx];refine nav ?_;refine Zq (YD (l:=3) (l':=200) (j:=2) rfl rfl rfl rfl) fun _=>?_;rw [<-W2,JC _ _ _ (by rw [Xc])];refine YJ [] [3] ?_<;>(refine yD 0 rfl (Zn 3 Zk) fun v32 h=>?_;cases h)<;>(refine ZY 1 kR ?_)<;>(refine Yo (d:=33) rfl (cA call90 TO) fun v33 h=>?_;cases h)<;>(refine aDr 2 fun bk=>?_)<;>(refine J' (kk:=3) (xs:=[_,_]) (cs:=[[_,_,_],[_,_,_]]) 34 Kb fun h34 ho34=>?_;refine Zz (En.freeze (l:=34) (t:=34) rfl rfl) fun _=>?_;refine Zz (Ke (t:=34) (p':=YN [WP 4 (l.map lf),sil]) rfl (Eq.trans (show _=PV.sl 2 ([WP 4 (l.map lf),sil].flatMap cN) from rfl) (Gn (WP 4 (l.map lf)) sil))) fun _=>?_)<;>refine bE bk ?_<;>refine xE 3 rfl (ZC YU) ?_<;>(refine aDr 4 fun bk=>?_)<;>refine Zp 2 Zk ?_<;>refine bE bk ?_<;>refine WE ?_;refine YQ (k:=3) 2 kR (results34) rfl rfl (Xa rfl) dC rfl ?_;rw [ζU oM];rfl))
theorem Ll:AggT prog 136 3=true:=kR
theorem Zgx:ElT prog 190 31 1 24 (.slice none 0 0):=⟨underlying190,by kernel_rfl,rfl,dC⟩
theorem YV:ElT prog 26 9 1 16 (.string ByteArray.empty):=⟨underlying26,by kernel_rfl,rfl,dC⟩
theorem YW:ElT prog 90 3 1 8 (.int .i64 0):=⟨underlying90,by kernel_rfl,rfl,dC⟩
theorem Kw:FldT prog 136 0 0=true:=kR
theorem KS:FldT prog 136 1 1=true:=kR
theorem Ht:FldT prog 136 2 2=true:=kR
theorem WM:FldT prog 169 0 0=true:=kR
theorem Hu:FldT prog 169 1 1=true:=kR
theorem KE:FldT prog 34 0 0=true:=kR
theorem Gp:FldT prog 34 1 1=true:=kR
theorem Jj:FldT prog 34 2 2=true:=kR
theorem KF:FldT prog 34 3 3=true:=kR
theorem YM:NoAgg prog 31=true:=kR
theorem JD:NoAgg prog 32=true:=kR
theorem ζW:SlT prog 190 31 1=true:=kR
theorem WN:SlT prog 32 136 3=true:=kR
theorem ζX:ZeroT prog 136 (.agg #[(.string ByteArray.empty),(.string ByteArray.empty),(.int .i64 0)]):=by unfold ZeroT;kernel_rfl
theorem SG:ZeroT prog 169 (.agg #[(.string ByteArray.empty),(.int .i64 0)]):=by unfold ZeroT;kernel_rfl
def cnames (l:List Cnt):List BA:=l.map (·.name)
def Kl (n:Int):Bool:=decide (1<=n)&&decide (n<=4503599627370496)
def Eu (l all:List BA):Bool:=chainB strLt l&&l.all (hasStr all)
def K6 (a b:Flw):Int:=if Yd a.src b.src=0 then Yd a.dst b.dst else Yd a.src b.src
def SH (acts:List BA) (f:Flw):Bool:=Kl f.n&&hasStr acts f.src&&hasStr acts f.dst
def flwLt (a b:Flw):Bool:=decide (K6 a b<0)
def JE (g:Dfg):Bool:=Jz (cnames g.acts)&&Eu (cnames g.starts) (cnames g.acts)&&Eu (cnames g.ends) (cnames g.acts)&&g.acts.all (fun c=>Kl c.n)&&g.starts.all (fun c=>Kl c.n)&&g.ends.all (fun c=>Kl c.n)&&g.follows.all (SH (cnames g.acts))&&chainB flwLt g.follows
def Zgy (l:List Cnt):Prop:=l.length<=140737488355328/\∀c∈l,c.name.size<=140737488355328∧-9223372036854775808<=c.n/\c.n<=9223372036854775807
def Zq5 (l:List Flw):Prop:=l.length<=140737488355328/\∀c∈l,c.src.size<=140737488355328/\c.dst.size<=140737488355328∧-9223372036854775808<=c.n/\c.n<=9223372036854775807
def Zpi (g:Dfg):Prop:=Zgy g.acts/\Zgy g.starts/\Zgy g.ends/\Zq5 g.follows
theorem JW (e n:Nat) (l:List BA):share (.own e 1 n (l.map Zv))= .sl n (l.map Zv):=by
 rw [share,YI,Xz];rfl
theorem TQ {l:List Cnt} {k:Nat} {x:Cnt} (h:l[k]? =some x):cnames (l.take (k+1))=cnames (l.take k)++[x.name]:=by
 unfold cnames;rw [Z2 h,XW];rfl
theorem ζY (l:List Cnt) (hl0:l.length<=1000000):AF prog 142 [K9 l] (· =ZW (cnames l)):=by
 refine AF.b1 19 func142 rfl ntmps142 (Xa rfl) fun w0 M0 v0 _=>?_
 refine YG ?_;refine ZX ?_
 refine xL 6 Za (xL 7 (Zs YB) (xL 8 Za ?_));refine Zw ?_
 refine Zq (YS 200 9 1 rfl) fun _=>?_
 refine Yq (ι:={x:Nat×Value//x.1<=l.length}) (fun k=>⟨[(6,_,_),(7,_,_),(3,k.1.2, .val k.1.2),(8, .int .i64 k.1.1,Zb k.1.1)],[(200,k.1.2, .own 9 1 k.1.1 ((cnames (l.take k.1.1)).map Zv))]⟩) (fun k=>l.length-k.1.1) ⟨(0, .slice none 0 0),oM⟩ ?_
 rintro ⟨⟨k,h3⟩,hk⟩
 dsimp only
 dsimp only at hk
 refine Yy ?_ ?_<;>intro hb9
 . (
 obtain ⟨x,hx⟩:=gS l k;have e1:=Wr YL l k x hx;have e2:=W9 YL hx;(have e3:((cnames (l.take k)).map Zv).length=k:=by simp [cnames];omega);refine Zi ?_;refine xM (Ze YB) ?_;refine yU (Wn KC) fun v11=>?_;refine Zt [(.string ByteArray.empty),(.int .i64 0)] 2 5 SG fun h5=>?_;refine Zp 5 KC ?_;refine Ym ?_;refine xL 12 Za (xL 13 (Zc 5 WM) ?_);refine yV (Zh 5 ZB) ?_;refine WC (kk:=1) 15 YV fun h15 ho15=>?_;refine Wc 200 15 16 YV fun h16 ho16=>?_;refine JS ?_;refine ZK (ZM (l:=16) 200 rfl rfl) fun _=>?_;rw [show (cnames (l.take k)).map Zv++[Zv x.name]=(cnames (l.take (k+1))).map Zv by rw [TQ hx,XW];rfl];refine Yr (
  ⟨(k+1,h16),by show k+1<=l.length;omega⟩
  ))
 . (
 refine ZU ?_;refine YO (En.freeze (l:=200) (t:=2) rfl rfl) fun _=>?_;refine Zg (results142) rfl ?_;obtain rfl:k=l.length:=oM;rw [Xx,JW];unfold ZW cnames;rw [Xc])
theorem ζZ (l all:List BA):AF prog 143 [ZW l,ZW all] (· =Zr (Eu l all)):=by
 refine AF.b2 32 func143 rfl ntmps143 (Xa rfl) fun w0 M0 v0 v1 _ _=>?_
 refine Ki 0 rfl fun hlen=>?_
 refine YG ?_
 refine xL 7 Za (xL 8 (Zs Zm) (xL 9 Za ?_));refine Zw ?_
 refine Y9 (ι:={k:Nat//k<=l.length/\∀j x,j<k->l[j]? =some x->hasStr all x=true/\∀y,1<=j->l[j-1]? =some y->strLt y x=true}) (fun k=>⟨[(0,_,_),(1,_,_),(7,_,_),(8,_,_),(9, .int .i64 k.1,Zb k.1)],[]⟩) (fun k=>l.length-k.1) ⟨0,oM,oM⟩ (fun a w H=>H.weaken sB trivial) ?_
 rintro ⟨k,hk,hp⟩
 dsimp only
 refine Yy ?_ ?_<;>intro hb10
 . (
 obtain ⟨x,hx⟩:=gS l k;obtain ⟨y,hy⟩:=gS l (k-1);have e1:=Yh (f:=Zv) hx;(have e2:(l.map Zv)[((k:Int)-1).toNat*1]? =some (Zv y):=by rw [show ((k:Int)-1).toNat*1=k-1 by omega];exact (by rw [Xl,hy];rfl));refine Zi ?_;refine xL 11 Za (xL 12 (Ze Zm) ?_);refine yV (Zu ZB) ?_;refine J9 ?_;(refine Y1 ?_<;>(refine bLd 16 (fun hb16=>?_) (fun hb16=>?_)<;>refine kZ ?_)<;>refine kZ ?_<;>refine kZ ?_<;>(first|refine kL ?_|refine xM (T0 Zm) ?_)<;>(first|refine kL ?_|refine yV (Zu ZB) ?_)<;>refine kZ ?_<;>(first|refine kL ?_|refine xM ZcD ?_)<;>refine ZO ?_<;>(first|refine ZN ?_|(refine bL 25 (fun hb25=>?_) (fun hb25=>?_)<;>refine kZ ?_))<;>refine kZ ?_<;>(first|refine kL ?_|(refine cV (cA call73 (Sz all x)) ?_))<;>refine kZ ?_<;>refine ZN ?_<;>refine Zw ?_)<;>(
 refine cX ?_ ?_<;>intro hb30
 . (
 refine ZD ?_;refine Zg (results143) rfl ?_;unfold Eu
 first
  |rw [S4 oM hy hx (by simpa [strLt] using hb25)];rfl
  |rw [RG hx (by simpa using hb30)];simp)
 . first |exact bN hb30|(
 refine ZU ?_;refine Zf (
  ⟨k +1,oM,fun j z hj hz=>by
   by_cases e:j=k
   . subst e;rw [hx] at hz;cases hz;refine ⟨by simpa using hb30,fun y' h1 hy'=>?_⟩;rw [hy] at hy';cases hy'
     first|omega|simpa [strLt] using hb25
   . exact hp j z oM hz⟩
  ) (by dsimp only;omega) sB trivial)))
 . (
 refine ZD ?_;refine Zg (results143) rfl ?_;have h1:l.all (hasStr all)=true:=CP fun j x hj=>(hp j x (by have:=Zd hj;omega) hj).1;have h2:chainB strLt l=true:=Sv fun j x y h1 hy hx=>(hp j x (by have:=Zd hx;omega) hx).2 y h1 hy;unfold Eu;rw [h1,h2];rfl)
def KT:List Int->Int
 |[]=>0
 |x::l=>if x=0 then KT l else x
theorem Zpj (l:List Int):AF prog 141 [pInts l] (· =Zb (KT l)):=by
 refine AF.b1 18 func141 rfl ntmps141 (Xa rfl) fun w0 M0 v0 _=>?_
 refine Ki 0 rfl fun hlen=>?_
 refine YG ?_;refine ZX ?_
 refine xL 6 Za (xL 7 (Zs ZS) (xL 8 Za ?_));refine Zw ?_
 refine Y9 (ι:={k:Nat//k<=l.length/\KT l=KT (l.drop k)}) (fun k=>⟨[(3,_,_),(6,_,_),(7,_,_),(8, .int .i64 k.1,Zb k.1)],[]⟩) (fun k=>l.length-k.1) ⟨0,oM,rfl⟩ (fun a w H=>H.weaken sB trivial) ?_
 rintro ⟨k,hk,hp⟩
 dsimp only
 refine Yy ?_ ?_<;>intro hb9
 . (
 obtain ⟨x,hx⟩:=gS l k;have e1:=Yh (f:=Zb) hx;(have hs:KT (l.drop k)=if x=0 then KT (l.drop (k+1)) else x:=by rw [WL hx,KT]);refine Zi ?_;refine xM (Ze ZS) ?_;refine yV (Zu ZH) ?_;refine ZX ?_;refine Y1 ?_;refine ZE ?_ ?_<;>intro hb14
 . (
 refine ZU ?_;refine Zg (results141) rfl ?_;rw [hp,hs,Qb hb14])
 . (
 refine ZU ?_;refine Zf (
  ⟨k+1,oM,by rw [hp,hs,Qc (by simpa using hb14)]⟩
  ) (by dsimp only;omega) sB trivial))
 . (
 refine ZU ?_;refine Zg (results141) rfl ?_;rw [hp,XN oM];rfl)
theorem Zgz (a b:Flw):AF prog 102 [.agg (Lw a), .agg (Lw b)] (· =Zb (K6 a b)):=by
 refine AF.b2 17 func102 rfl ntmps102 (Xa rfl) fun w0 M0 v0 v1 _ _=>?_
 refine Zi ?_
 refine Yi 2 3 fun h2=>?_;refine Yi 3 3 fun h3=>?_;refine ZP ?_
 refine YJ [] [2,3] ?_<;>refine xD 0 rfl (Zc 2 Kw) ?_<;>(refine yD 1 rfl (Zh 2 ZB) fun v6 h=>?_;cases h)<;>refine xD 2 rfl (Zc 3 Kw) ?_<;>(refine yD 3 rfl (Zh 3 ZB) fun v8 h=>?_;cases h)<;>refine xD 5 rfl (Zc 2 KS) ?_<;>(refine yD 6 rfl (Zh 2 ZB) fun v11 h=>?_;cases h)<;>refine xD 7 rfl (Zc 3 KS) ?_<;>(refine yD 8 rfl (Zh 3 ZB) fun v13 h=>?_;cases h)<;>(refine aDr 4 fun bk=>?_)<;>(refine cV (cA call137 (Oa a.src b.src)) ?_)<;>refine bE bk ?_<;>(refine aDr 9 fun bk=>?_)<;>(refine cV (cA call137 (Oa a.dst b.dst)) ?_)<;>refine bE bk ?_<;>(refine aDr 10 fun bk=>?_)<;>refine Pi (xs:=[_,_]) 15 YW fun h15 ho15=>?_<;>refine bE bk ?_<;>(refine aDr 11 fun bk=>?_)<;>(refine Zz (En.freeze (l:=15) (t:=15) rfl rfl) fun _=>?_;refine cV (cA call141 (Zpj [Yd a.src b.src,Yd a.dst b.dst])) ?_)<;>refine bE bk ?_<;>refine xE 12 rfl ZJ ?_<;>refine WE ?_
 refine Zg (results102) rfl ?_
 unfold K6 KT KT KT
 by_cases h:Yd a.src b.src=0
 . rw [Qc h,Qc h];split<;>simp_all
 . rw [Qb h,Qb h]
theorem ζ0 (n:Int):AF prog 146 [Zb n] (· =Zr (Kl n)):=by
 refine AF.b1 9 func146 rfl ntmps146 (Xa rfl) ?_
 rintro w0 M0 _ rfl
 refine YG ?_
 (refine Y1 ?_<;>(refine bLd 5 (fun hb5=>?_) (fun hb5=>?_)<;>refine kZ ?_)<;>refine kZ ?_<;>refine ZO ?_<;>refine Zw ?_)<;>(
 refine Zg (results146) rfl (RF ?_);simp only [Kl,Xe,U9,true_iff,false_iff,VE]<;>omega)
theorem ZjU (c:Cnt):AF prog 145 [.agg (G7 c)] (· =Zr (!Kl c.n)):=by
 refine AF.b1 7 func145 rfl ntmps145 (Xa rfl) fun w0 M0 v0 _=>?_
 refine Zi ?_
 refine Yi 1 2 fun h1=>?_;refine ZX ?_
 refine xM (Zc 1 Hu) ?_;refine yV (Zh 1 ZH) ?_;refine cV (cA call146 (ζ0 c.n)) ?_;refine KI ?_
 exact Zg results145 rfl rfl
theorem Rv {g:Dfg} (h:Jz (cnames g.acts)=false\/Eu (cnames g.starts) (cnames g.acts)=false\/Eu (cnames g.ends) (cnames g.acts)=false\/g.acts.all (fun c=>Kl c.n)=false\/g.starts.all (fun c=>Kl c.n)=false\/g.ends.all (fun c=>Kl c.n)=false\/g.follows.all (SH (cnames g.acts))=false\/chainB flwLt g.follows=false):JE g=false:=by
 unfold JE
 rcases h with h|h|h|h|h|h|h|h<;>rw [h]<;>simp
theorem Zh7 {α:Type} {p:α->Bool} {l:List α}:(l.any fun c=> !p c)= !l.all p:=by
 induction l with
 |nil=>rfl
 |cons x l ih=>rw [List.any_cons,Uy,ih,Bool.not_and]
theorem ZmR (g : Dfg) (hf:Zpi g) (ha:g.acts.length<=1000000) (hs:g.starts.length<=1000000) (he:g.ends.length<=1000000):AF prog 103 [Jb g] (· =Zr (JE g)):=by
 refine AF.b1 87 func103 rfl ntmps103 (Xa rfl) fun w0 M0 v0 _=>?_
 refine Zi ?_
 refine Yi 1 4 fun h1=>?_;refine ZX ?_
 refine xM (Zc 1 KE) ?_;refine yU (Zh 1 YM) fun v9=>?_;refine cU (cA call142 (ζY g.acts ha)) fun v10=>?_;refine ZX ?_
 (refine ZN ?_ <;> (refine cV (cA call86 (Zgc (cnames g.acts) (fun s hs=>by obtain ⟨c,hc,rfl⟩:=Xp.1 hs;exact (hf.1.2 c hc).1))) ?_)<;>refine ZO ?_<;>(refine bL 14 (fun hb14=>?_) (fun hb14=>?_)<;>(first|refine kL ?_|refine xM (Zc 1 Gp) ?_))<;>(first|refine kL ?_|refine yU (Zh 1 YM) fun v16=>?_)<;>(first|refine kL ?_|(refine cU (cA call142 (ζY g.starts hs)) fun v17=>?_))<;>refine kZ ?_<;>(first|refine kL ?_|(refine cV (cA call143 (ζZ (cnames g.starts) (cnames g.acts))) ?_))<;>refine kZ ?_<;>refine ZO ?_<;>(first|refine kL ?_|(refine bL 22 (fun hb22=>?_) (fun hb22=>?_)<;>(first|refine kL ?_|refine xM (Zc 1 Jj) ?_)))<;>(first|refine kL ?_|refine yU (Zh 1 YM) fun v24=>?_)<;>(first|refine kL ?_|(refine cU (cA call142 (ζY g.ends he)) fun v25=>?_))<;>refine kZ ?_<;>(first|refine kL ?_|(refine cV (cA call143 (ζZ (cnames g.ends) (cnames g.acts))) ?_))<;>refine kZ ?_<;>refine ZN ?_<;>refine Zw ?_)<;>(
 refine cX ?_ ?_<;>intro hb29
 . (
 refine ZD ?_;refine Zg (results103) rfl ?_
 first
  |rw [Rv (.inl (by simpa using hb14))]
  |rw [Rv (.inr (.inl (by simpa using hb22)))]
  |rw [Rv (.inr (.inr (.inl (by simpa using hb29))))])
 . first | exact bN hb29|(
 refine Zi ?_;refine xM (Zc 1 KE) ?_;refine yU (Zh 1 YM) fun v31=>?_;refine xM (Zc 1 Gp) ?_;refine yU (Zh 1 YM) fun v33=>?_;refine xM (Zc 1 Jj) ?_;refine yU (Zh 1 YM) fun v35=>?_;refine Pi (xs:=[_,_,_]) 36 Zgx fun h36 ho36=>?_;refine xL 37 (WB 36 ζW) (xL 38 Za ?_);refine Zw ?_;(have h1:Jz (cnames g.acts)=true:=by simpa using hb14);(have h2:Eu (cnames g.starts) (cnames g.acts)=true:=by simpa using hb22);(have h3:Eu (cnames g.ends) (cnames g.acts)=true:=by simpa using hb29);refine Yq (ι:={k:Nat//k<=3/\∀j x,j<k->[g.acts,g.starts,g.ends][j]? =some x->x.all (fun c=>Kl c.n)=true}) (fun k=>⟨[(1,_,_),(3,_,_),(36,_,_),(37,_,_),(38, .int .i64 k.1,Zb k.1)],[(1,_,_),(36,_,_)]⟩) (fun k=>3-k.1) ⟨0,oM,oM⟩ ?_;rintro ⟨k,hk,hp⟩;dsimp only;refine Yy ?_ ?_<;>intro hb39
 . (
 obtain ⟨x,hx⟩:=get_some (l:=[g.acts,g.starts,g.ends]) (i:=k) (by show k<3;omega);have e1:([K9 g.acts,K9 g.starts,K9 g.ends]:List PV)[k*1]? =some (K9 x):=Yh (f:=K9) hx;refine Zi ?_;refine xM (Zj 36 ζW) ?_;refine yU (Zh 36 YM) fun v41=>?_;refine Jy ?_;refine cV (cA call144 (Dn 145 [] (fun c=> !Kl c.n) x (call145) (fun c _=>ZjU c))) ?_;refine ZE ?_ ?_<;>intro hb43
 . (
 refine ZD ?_;refine Zg (results103) rfl ?_;rw [Zh7,Bool.not_eq_true'] at hb43;match k,hk,hx with
 |0,_,hx=>cases hx;rw [Rv (.inr (.inr (.inr (.inl hb43))))]
 |1,_,hx=>cases hx;rw [Rv (.inr (.inr (.inr (.inr (.inl hb43)))))]
 |2,_,hx=>cases hx;rw [Rv (.inr (.inr (.inr (.inr (.inr (.inl hb43))))))]
 |k+3,hk,hx=>omega)
 . (
 refine ZU ?_;refine Yr (
  ⟨k+1,oM,fun j z hj hz=>by
   by_cases e:j=k
   . subst e;rw [hx] at hz;cases hz;rw [Zh7] at hb43;simpa using hb43
   . exact hp j z oM hz⟩
  )))
 . (
 refine Zi ?_;refine xM (Zc 1 KF) ?_;refine yU (Zh 1 JD) fun v46=>?_;refine xL 47 (Zs WN) (xL 48 Za ?_);refine Zw ?_;obtain rfl:k=3:=oM;have h4:=hp 0 g.acts oM rfl;have h5:=hp 1 g.starts oM rfl;have h6:=hp 2 g.ends oM rfl;clear hp;refine Yq (ι:={k:Nat//k<=g.follows.length/\∀j x,j<k->g.follows[j]? =some x->SH (cnames g.acts) x=true/\∀y,1<=j->g.follows[j-1]? =some y->flwLt y x=true}) (fun k=>⟨[(1,_,_),(3,_,_),(46,_,_),(47,_,_),(48, .int .i64 k.1,Zb k.1)],[(1,_,_)]⟩) (fun k=>g.follows.length-k.1) ⟨0,oM,oM⟩ ?_;rintro ⟨k,hk,hp⟩;dsimp only;refine Yy ?_ ?_<;>intro hb49
 . (
 obtain ⟨x,hx⟩:=gS g.follows k;obtain ⟨y,hy⟩:=gS g.follows (k-1);have e1:=Wr Wg g.follows k x hx;have e2:=W9 Wg hx;(have e3:((g.follows.flatMap Lw).drop (((k:Int)-1).toNat*3)).take 3=Lw y:=by rw [show ((k:Int)-1).toNat*3=(k-1)*3 by omega];exact Wr Wg g.follows (k-1) y hy);have e4:=W9 Wg hy;have hlf:=hf.2.2.2.1;refine Zi ?_;refine xL 50 Za (xL 51 (Ze WN) ?_);refine yU (Wn Ll) fun v52=>?_;refine Zt [(.string ByteArray.empty),(.string ByteArray.empty),(.int .i64 0)] 3 7 ζX fun h7=>?_;refine ZN ?_;refine Zp 7 Ll ?_;refine Zw ?_;(refine YJ [] [1,7] ?_<;>refine xE 0 rfl (Zc 7 Ht) ?_<;>(refine yE 1 rfl (Zh 7 ZH) fun v54 h=>?_;cases h)<;>(refine aDr 2 fun bk=>?_)<;>(refine cV (cA call146 (ζ0 x.n)) ?_)<;>refine bE bk ?_<;>refine xE 3 rfl LK ?_<;>refine xE 4 rfl Za ?_<;>(refine bD 57 (fun hb57=>?_) (fun hb57=>?_)<;>(first|refine kD 5 ?_|refine xD 5 rfl Za ?_))<;>(first|refine kD 6 ?_|refine xD 6 rfl Jw ?_)<;>(first|refine kD 7 ?_|refine xD 7 rfl Za ?_)<;>(first|refine kD 8 ?_|(refine bDd 60 (fun hb60=>?_) (fun hb60=>?_)<;>(first|refine kD 8 ?_|refine xD 8 rfl (Zc 1 KF) ?_)))<;>(first|refine kD 9 ?_|(refine yD 9 rfl (Zh 1 JD) fun v62 h=>?_;cases h))<;>(first|refine kD 10 ?_|refine xD 10 rfl Za ?_)<;>(first|refine kD 11 ?_|refine xD 11 rfl LL ?_)<;>(first|refine kD 12 ?_|refine xD 12 rfl (T0 WN) ?_)<;>(first|refine kD 13 ?_|(refine yD 13 rfl (Wn Ll) fun v66 h=>?_;cases h))<;>(first|refine kD 14 ?_|(refine yD 14 rfl (Zn 7 Ll) fun v67 h=>?_;cases h))<;>(refine aDr 15 fun bk=>?_)<;>(first|refine kL ?_|(refine cV (cA call102 (Zgz y x)) ?_))<;>refine bE bk ?_<;>(first|refine kD 16 ?_|refine xD 16 rfl E8 ?_)<;>(first|refine kD 17 ?_|refine xD 17 rfl YY ?_)<;>refine xE 18 rfl YY ?_<;>refine xE 19 rfl Za ?_<;>(first|refine kD 20 ?_|refine xD 20 rfl Za ?_|(refine bDd 72 (fun hb72=>?_) (fun hb72=>?_)<;>(first|refine kD 20 ?_|refine xD 20 rfl Za ?_)))<;>(first|refine kD 21 ?_|refine xD 21 rfl (Zc 7 Kw) ?_)<;>(first|refine kD 22 ?_|(refine yD 22 rfl (Zh 7 ZB) fun v75 h=>?_;cases h))<;>(refine aDr 23 fun bk=>?_)<;>(first|refine kL ?_|(refine cV (cA call73 (Sz (cnames g.acts) x.src)) ?_))<;>refine bE bk ?_<;>(first|refine kD 24 ?_|refine xD 24 rfl LK ?_)<;>refine xE 25 rfl YY ?_<;>refine xE 26 rfl Za ?_<;>(first|refine kD 27 ?_|(refine bD 79 (fun hb79=>?_) (fun hb79=>?_)<;>(first|refine kD 27 ?_|refine xD 27 rfl Za ?_)))<;>(first|refine kD 28 ?_|refine xD 28 rfl (Zc 7 KS) ?_)<;>(first|refine kD 29 ?_|(refine yD 29 rfl (Zh 7 ZB) fun v82 h=>?_;cases h))<;>(refine aDr 30 fun bk=>?_)<;>(first|refine kL ?_|(refine cV (cA call73 (Sz (cnames g.acts) x.dst)) ?_))<;>refine bE bk ?_<;>(first|refine kD 31 ?_|refine xD 31 rfl LK ?_)<;>refine xE 32 rfl YY ?_<;>refine WE ?_)<;>(
 refine cX ?_ ?_<;>intro hb85
 . (
 refine ZD ?_;refine Zg (results103) rfl ?_
 first
  |rw [Rv (.inr (.inr (.inr (.inr (.inr (.inr (.inl (RG hx (show SH (cnames g.acts) x=false by unfold SH;rw [show Kl x.n=false by simpa using hb57];rfl)))))))))]
  |rw [Rv (.inr (.inr (.inr (.inr (.inr (.inr (.inr (S4 oM hy hx (show flwLt y x=false from Qa oM)))))))))]
  |rw [Rv (.inr (.inr (.inr (.inr (.inr (.inr (.inl (RG hx (show SH (cnames g.acts) x=false by unfold SH;rw [show hasStr (cnames g.acts) x.src=false by simpa using hb79];simp)))))))))]
  |rw [Rv (.inr (.inr (.inr (.inr (.inr (.inr (.inl (RG hx (show SH (cnames g.acts) x=false by unfold SH;rw [show hasStr (cnames g.acts) x.dst=false by simpa using hb85];simp)))))))))])
 . first |exact bN hb85|(
 refine ZU ?_;refine Yr (
  ⟨k +1,oM,fun j z hj hz=>by
   by_cases e:j=k
   . subst e;rw [hx] at hz;cases hz;refine ⟨by unfold SH;rw [show Kl x.n=true by simpa using hb57,show hasStr (cnames g.acts) x.src=true by simpa using hb79,show hasStr (cnames g.acts) x.dst=true by simpa using hb85];rfl,fun y' h1 hy'=>?_⟩;rw [hy] at hy';cases hy'
     first|omega|exact U' oM
   . exact hp j z oM hz⟩
  ))))
 . (
 refine ZD ?_;refine Zg (results103) rfl ?_;have h7:g.follows.all (SH (cnames g.acts))=true:=CP fun j x hj=>(hp j x (by have:=Zd hj;omega) hj).1;have h8:chainB flwLt g.follows=true:=Sv fun j x y h1 hy hx=>(hp j x (by have:=Zd hx;omega) hx).2 y h1 hy;unfold JE;rw [h1,h2,h3,h4,h5,h6,h7,h8];rfl))))
end Go.Proofs.YtmkojdfiadbeeaaGreat
namespace Go.Cb
theorem Hv {α:Type} {l:List α} {i:Nat} {x:α} (h:l[i]? =some x):l.set i x=l:=by
 obtain ⟨hi,rfl⟩:=Xk.1 h
 exact List.set_getElem_self hi
theorem Ch {parts:List (List BA)} {m:Nat}:∀(ws:List BA) (ps:List Piece) (q:Piece),ps[m]? =some q->
 splitGo 1 parts false m ps ws=if (ws.any fun s=>partOf parts s !=m) then none else some (ps.set m ⟨q.part,q.word++ws⟩,(m:Int))
 | [],ps,q,h=>by
   rw [splitGo,List.any_nil,Qb sM,Xo];rw [show (⟨q.part,q.word⟩:Piece)=q from rfl,Hv h]
 | s ::l,ps,q,h=>by
   rw [splitGo,List.any_cons];by_cases hp:partOf parts s=(m:Int)
   . have hm:m<ps.length:=(Xk.1 h).1;(have hb:JP 1 false (partOf parts s) (m:Int)=false:=by unfold JP;rw [hp];simp);(have hn:(partOf parts s !=(m:Int))=false:=by rw [hp];simp);rw [hb,hn,hp,XG,Ta h,Qb sM,Ch l _ ⟨q.part,q.word++[s]⟩ (by rw [XJ hm]),X4];simp
   . (have hn:(partOf parts s !=(m:Int))=true:=by simpa using hp);(have hb:JP 1 false (partOf parts s) (m:Int)=true:=by unfold JP;rw [hn];rfl);rw [hb,hn];rfl
theorem ZeM {c:Cut} {s:BA} {l:List BA} (hk:c.kind=1) (hs:0<=partOf c.parts s):
 We c (s::l)=if ((s::l).any fun t=>partOf c.parts t !=partOf c.parts s) then none else some [⟨partOf c.parts s,s::l⟩]:=by
 obtain ⟨m,hm⟩:∃m:Nat,partOf c.parts s=m:=⟨(partOf c.parts s).toNat,oM⟩
 have hlt:m<c.parts.length:=by have:=OM c.parts s;omega
 have h0:(initPs c.parts.length)[m]? =some ⟨(m:Int),[]⟩:=by simp [initPs,hlt]
 unfold We
 rw [Qb oM,hk,splitGo]
 have hb:JP 1 true (partOf c.parts s) 0=false:=by unfold JP;simp
 rw [hb,Qb sM,hm,XG,Ta h0,Ch l _ ⟨(m:Int),[]++[s]⟩ (by rw [XJ (by rw [Tb];exact hlt)]),List.any_cons,hm]
 rw [show ((m:Int)!=(m:Int))=false by simp,Ui]
 cases l.any fun t=>partOf c.parts t !=(m:Int)
 . simp only [VE,if_false,if_true,X4];rw [Qb sM,XG];congr 1;have hg:((initPs c.parts.length).set m ⟨(m:Int),[]++[s]++l⟩)[m]? =some ⟨(m:Int),[]++[s]++l⟩:=by rw [XJ (by rw [Tb];exact hlt)]
   rw [WL hg];rfl
 . rfl
theorem CK {c:Cut} (hk:c.kind=1):We c []=none:=by
 unfold We
 rw [Qb oM,hk,splitGo]
 rfl
def KG (ps:List Piece):List Piece:=ps.map fun q=>(⟨0,q.word⟩:Piece)
theorem DC (ps:List Piece):(KG ps).length=ps.length:=by simp [KG]
theorem Ev {ps:List Piece} {i:Nat} {q:Piece} (h:ps[i]? =some q):(KG ps)[i]? =some ⟨0,q.word⟩:=by simp [KG,h]
theorem ZgA {ps:List Piece} {i:Nat} {q:Piece} (s:BA) (h:ps[i]? =some q):(KG ps).set i ⟨0,q.word++[s]⟩=KG (Jr ps i s):=by
 rw [Ta h]
 unfold KG
 rw [Uo]
theorem ZeN (n:Nat):KG (initPs n)=List.replicate n ⟨0,[]⟩:=by
 unfold KG initPs
 rw [Xz]
 apply List.ext_getElem
 . simp
 . intro i h1 h2;simp
def InPlace (ps:List Piece):Prop:=∀(i:Nat) (q:Piece),ps[i]? =some q->q.part=(i:Int)
theorem Zc1 (n:Nat):InPlace (initPs n):=fun i q h=>by
 obtain ⟨hi,rfl⟩:=Xk.1 h
 simp [initPs]
theorem InPlace.add {ps:List Piece} (h:InPlace ps) (i:Nat) (s:BA):InPlace (Jr ps i s):=fun j q hq=>by
 unfold Jr at hq
 split at hq
 . rename_i p hp;by_cases hji:j=i
   . subst hji;have hl:=(Xk.1 hp).1;rw [XJ hl] at hq
     cases hq;exact h j p hp
   . rw [X9 (Ne.symm hji)] at hq;exact h j q hq
 . exact h j q hq
theorem ZjV {ps:List Piece} (h:InPlace ps) {j:Nat} {q:Piece} (hq:ps[j]? =some q):(ps.take j++(KG ps).drop j).set j ⟨(j:Int),q.word⟩=ps.take (j+1)++(KG ps).drop (j+1):=by
 have hl:=(Xk.1 hq).1
 have hpt:=h j q hq
 have htl:(ps.take j).length=j:=by simp;omega
 rw [Vr _ _ oM,htl,Vl,WL (Ev hq),U0,Z2 hq,XH]
 congr 1
 rw [<-hpt]
 rfl
theorem Zpk {ps:List Piece} {j:Nat} {q:Piece} (hq:ps[j]? =some q):(ps.take j++(KG ps).drop j)[j]? =some ⟨0,q.word⟩:=by
 have hl:=(Xk.1 hq).1
 have htl:(ps.take j).length=j:=by simp;omega
 rw [Vq oM,htl,Vl,WL (Ev hq)]
 rfl
theorem ZmS (ps:List Piece) (j:Nat) (hj:j<=ps.length):(ps.take j++(KG ps).drop j).length=ps.length:=by
 rw [Xf,XE,Vu,DC];omega
open Go.En
def vec {α:Type} (n:Nat) (f:Nat->α):List α:=(List.range n).map f
theorem Wx {α:Type} (n:Nat) (f:Nat->α):(vec n f).length=n:=by simp [vec]
theorem Pv {α:Type} {n i:Nat} (f:Nat->α) (h:i<n):(vec n f)[i]? =some (f i):=by simp [vec,h]
theorem Zh8 {α:Type} {n:Nat} {l:List α} {f:Nat->α} (hl:l.length=n) (h:∀i x,l[i]? =some x->x=f i):l=vec n f:=by
 apply VX
 intro i
 rcases XL i n with hi|hi
 . obtain ⟨x,hx⟩:=Y3 (show i<l.length by omega);rw [hx,Pv f hi,h i x hx]
 . rw [Vm oM,Vm (by rw [Wx];exact hi)]
theorem G1 {α:Type} {n a:Nat} (f:Nat->α) (b:α):(vec n f).set a b=vec n (fun i=>if i=a then b else f i):=by
 refine Zh8 (by simp [vec]) fun i x hx=>?_
 have hi:=Zd hx
 rw [Xn,Wx] at hi
 rw [List.getElem?_set] at hx
 split at hx
 . rename_i e;subst e;split at hx
   . cases hx;simp
   . cases hx
 . rename_i e;rw [Pv f hi] at hx
   cases hx;rw [Qb (fun h=>e h.symm)]
theorem Yk {α:Type} {n:Nat} {f g:Nat->α} (h:∀i,i<n->f i=g i):vec n f=vec n g:=
 VQ fun i hi=>h i (XQ.1 hi)
theorem Lm {α:Type} (n:Nat) (x:α):List.replicate n x=vec n (fun _=>x):=by
 refine Zh8 sM fun i y hy=>?_
 rw [List.getElem?_replicate] at hy
 split at hy
 . cases hy;rfl
 . cases hy
theorem CW {α β:Type} (n:Nat) (f:Nat->α) (g:α->β):(vec n f).map g=vec n (fun i=>g (f i)):=by simp [vec,Function.comp_def]
theorem ZeO {α:Type} (n:Nat) (f:Nat->α):vec (n+1) f=vec n f++[f n]:=by simp [vec,VP]
abbrev Wq (n:Nat) (f:Nat->Bool):PV:= .sl n (vec n fun i=>Zr (f i))
abbrev Ew (n:Nat) (f:Nat->Nat->Bool):PV:= .sl n (vec n fun i=>Wq n (f i))
abbrev YP (e n:Nat) (f:Nat->Bool):PV:= .own e 1 n (vec n fun i=>Zr (f i))
abbrev ZjW (e e' n:Nat) (f:Nat->Nat->Bool):PV:= .own e 1 n (vec n fun i=>YP e' n (f i))
theorem Jk (e n:Nat) (f:Nat->Bool):share (YP e n f)=Wq n f:=by
 rw [share,YI,CW];rfl
theorem OY (e e' n:Nat) (f:Nat->Nat->Bool):share (ZjW e e' n f)=Ew n f:=by
 rw [share,YI,CW]
 show PV.sl n _=PV.sl n _
 congr 1
 exact Yk fun i _=>Jk e' n (f i)
def Closed (n:Nat) (f T:Nat->Nat->Bool):Prop:=(∀i j,i<n->j<n->f i j=true->T i j=true)/\∀i j k,i<n->j<n->k<n->T i j=true->T j k=true->T i k=true
def war (f:Nat->Nat->Bool):Nat->Nat->Nat->Bool
 |0=>f
 |k+1=>fun i j=>war f k i j||(war f k i k&&war f k k j)
theorem Zc2 {n:Nat} {f T:Nat->Nat->Bool} (h:Closed n f T):∀k,k<=n->∀i j,i<n->j<n->war f k i j=true->T i j=true
 |0,_,i,j,hi,hj,h1=>h.1 i j hi hj h1
 | k+1,hk,i,j,hi,hj,h1=>by
   simp only [war,Ve,Xe] at h1;rcases h1 with h1|⟨h1,h2⟩
   . exact Zc2 h k oM i j hi hj h1
   . exact h.2 i k j hi oM hj (Zc2 h k oM i k hi oM h1) (Zc2 h k oM k j oM hj h2)
theorem ZeP (f:Nat->Nat->Bool) (i j:Nat):∀k,f i j=true->war f k i j=true
 |0,h=>h
 |k+1,h=>by simp only [war,Ve];exact .inl (ZeP f i j k h)
theorem Zh9 (f:Nat->Nat->Bool) (k i:Nat):war f (k+1) i k=war f k i k:=by
 simp only [war];cases war f k i k<;>simp
theorem Zia (f:Nat->Nat->Bool) (k j:Nat):war f (k+1) k j=war f k k j:=by
 simp only [war];cases war f k k j<;>simp
theorem CX (f:Nat->Nat->Bool):∀k m i j,m<k->war f k i m=true->war f k m j=true->war f k i j=true
 |0,m,i,j,hm,_,_=>oM
 | k + 1,m,i,j,hm,h1,h2=>by
   by_cases e:m=k
   . subst e;rw [Zh9] at h1;rw [Zia] at h2;simp only [war,h1,h2,Bool.and_self,Bool.or_true]
   . have hm':m<k:=oM;simp only [war,Ve,Xe] at h1 h2 ⊢;rcases h1 with h1|⟨h1,h1'⟩
     . rcases h2 with h2|⟨h2,h2'⟩
       . exact .inl (CX f k m i j hm' h1 h2)
       . exact .inr ⟨CX f k m i k hm' h1 h2,h2'⟩
     . rcases h2 with h2|⟨h2,h2'⟩
       . exact .inr ⟨h1,CX f k m k j hm' h1' h2⟩
       . exact .inr ⟨h1,h2'⟩
def ZV (n:Nat) (f:Nat->Nat->Bool):Nat->Nat->Bool:=war f n
theorem GD (n:Nat) (f:Nat->Nat->Bool):Closed n f (ZV n f):=⟨fun i j _ _ h=>ZeP f i j n h,fun i j k _ hj _ h1 h2=>CX f n j i k hj h1 h2⟩
theorem ZmT {n:Nat} {f R:Nat->Nat->Bool} (h1:Closed n f R) (h2:∀T,Closed n f T->∀i j,i<n->j<n->R i j=true->T i j=true) (i j:Nat) (hi:i<n) (hj:j<n):R i j=ZV n f i j:=by
 rw [VG]
 exact ⟨h2 _ (GD n f) i j hi hj,Zc2 h1 n (Xd n) i j hi hj⟩
def Zc3 (n:Nat) (f:Nat->Bool):Nat:=((List.range n).filter fun i=> !f i).length
theorem ZbM (n:Nat) (f:Nat->Bool):Zc3 (n+1) f=Zc3 n f+(if f n then 0 else 1):=by
 unfold Zc3
 rw [VP,V0,Xf]
 cases h:f n<;>simp [h]
theorem ZgB {n:Nat} {f g:Nat->Bool} (h:∀i,i<n->f i=g i):Zc3 n f=Zc3 n g:=by
 unfold Zc3
 rw [List.filter_congr fun i hi=>by rw [h i (XQ.1 hi)]]
theorem ZeQ {f:Nat->Bool} {a:Nat} (hf:f a=false):∀{n:Nat},a<n->Zc3 n (fun i=>if i=a then true else f i)+1=Zc3 n f
 |0,h=>oM
 | n +1,h=>by
   rw [ZbM,ZbM];by_cases e:n=a
   . subst e;rw [Qc rfl,hf];rw [ZgB (f:=fun i=>if i=n then true else f i) (g:=f) fun i hi=>by rw [Qb oM]];simp
   . rw [Qb e];have:=ZeQ hf (n:=n) oM;omega
def cntM (n:Nat) (f:Nat->Nat->Bool):Nat:=((List.range n).map fun i=>Zc3 n (f i)).sum
theorem Oj (n:Nat) (g:Nat->Nat):((List.range (n+1)).map g).sum=((List.range n).map g).sum+g n:=by
 rw [VP,XW,List.sum_append];simp
theorem ZjX {n:Nat} {g h:Nat->Nat} (e:∀i,i<n->g i=h i):((List.range n).map g).sum=((List.range n).map h).sum:=by
 rw [VQ fun i hi=>e i (XQ.1 hi)]
theorem ZeR {g h:Nat->Nat} {a:Nat} (ha:g a+1=h a):∀{n:Nat},a<n->(∀i,i<n->i≠a->g i=h i)->((List.range n).map g).sum+1=((List.range n).map h).sum
 |0,hn,_=>oM
 | n +1,hn,e=>by
   rw [Oj,Oj];by_cases hx:n=a
   . subst hx;rw [ZjX (g:=g) (h:=h) fun i hi=>e i oM oM];omega
   . have:=ZeR ha (n:=n) oM (fun i hi hne=>e i oM hne);rw [e n oM hx];omega
theorem ZmU {n:Nat} {f:Nat->Nat->Bool} {a b:Nat} (ha:a<n) (hb:b<n) (hf:f a b=false):cntM n (fun i=>if i=a then (fun j=>if j=b then true else f a j) else f i)+1=cntM n f:=by
 unfold cntM
 refine ZeR (a:=a) ?_ ha (fun i _ hne=>?_)
 . simp only [Qc];exact ZeQ hf hb
 . simp only [Qb hne]
end Go.Cb
namespace Go.Proofs.YtmkojdfiadbeeaaGreat
open Go.RowKit Go.Cb Go.En Tryz
theorem Ws:ElT prog 92 4 1 1 (.bool false):=⟨underlying92,by kernel_rfl,rfl,dC⟩
theorem RX:ElT prog 93 92 1 24 (.slice none 0 0):=⟨underlying93,by kernel_rfl,rfl,dC⟩
theorem Jl:FldT prog 95 0 0=true:=kR
theorem KY:FldT prog 95 1 1=true:=kR
theorem TR:FldT prog 95 2 2=true:=kR
theorem TS:FldT prog 95 3 3=true:=kR
theorem ZT:NoAgg prog 4=true:=kR
theorem Zx:NoAgg prog 92=true:=kR
theorem Yl:NoAgg prog 93=true:=kR
theorem ZI:SlT prog 92 4 1=true:=kR
theorem Z':SlT prog 93 92 1=true:=kR
theorem Sk:Ge prog 95=some ((.agg #[(.slice none 0 0),(.slice none 0 0),(.slice none 0 0),(.slice none 0 0)]),([0,1,2,3]:List Nat).map fun o=>(o,1)):=kR
theorem OZ:(prog.info? 26).map (·.size)=some 1:=kR
theorem Gq:(prog.info? 4).map (·.size)=some 1:=kR
theorem GF:(prog.info? 92).map (·.size)=some 1:=kR
theorem ZmV {α:Type} {n k:Nat} (p z q:α):((vec n fun i=>if i<k then p else z).set k q).set k p=vec n fun i=>if i<k+1 then p else z:=by
 rw [G1,G1]
 refine Yk fun i hi=>?_
 by_cases e:i=k
 . subst e;rw [Qc rfl,Qc oM]
 . rw [Qb e,Qb e];by_cases h:i<k
   . rw [Qc h,Qc oM]
   . rw [Qb h,Qb oM]
theorem Sl (n:Nat) (hn:n<=1000000):AF prog 105 [Zb n] (· =ZjW 92 4 n (fun _ _=>false)):=by
 refine AF.b1 19 func105 rfl ntmps105 (Xa rfl) ?_
 rintro w0 M0 _ rfl
 refine YG ?_;refine ZN ?_;refine Kz 6 RX fun h6 ho6=>?_;refine ZX ?_
 refine xL 7 Za (xL 8 (WB 6 Z') (xL 9 Za ?_));refine Zw ?_
 rw [show List.replicate n (PV.val (.slice none 0 0))=vec n (fun i=>if i<0 then YP 4 n (fun _=>false) else .val (.slice none 0 0)) by rw [Lm];exact Yk fun i _=>by rw [Qb oM]]
 refine Yq (ι:={k:Nat//k<=n}) (fun k=>⟨[(0,_,_),(3,_,_),(8,_,_),(9, .int .i64 k.1,Zb k.1)],[(6,h6, .own 92 1 n (vec n fun i=>if i<k.1 then YP 4 n (fun _=>false) else .val (.slice none 0 0)))]⟩) (fun k=>n-k.1) ⟨0,oM⟩ ?_
 rintro ⟨k,hk⟩
 dsimp only
 refine Yy ?_ ?_<;>intro hb10
 . (
 have hlt:k<n:=oM;have hl0:=Wx n (fun i=>if i<k then YP 4 n (fun _=>false) else PV.val (.slice none 0 0));refine Jx ?_;refine Y1 ?_;refine Kz 15 Ws fun h15 ho15=>?_;refine xM (Zj 6 Z') ?_;refine ZrP 6 k Zx GF ?_;refine Ym ?_;refine KI ?_;refine ZK (L9 (l:=6) (l':=15) (j:=k) rfl (XJ (by rw [Wx];omega)) rfl rfl) fun _=>?_;rw [show List.replicate n (PV.val (.bool false))=vec n (fun _=>Zr false) from Lm _ _,ZmV];refine Yr (
  ⟨k+1,oM⟩
  ))
 . (
 refine ZU ?_;refine Ga 6 (results105) rfl rfl ?_;obtain rfl:k=n:=oM;show PV.own _ _ _ _=PV.own _ _ _ _;congr 1;exact Yk fun i hi=>by rw [Qc hi])
def ixN (l:List BA) (s:BA):Nat:=(idx (fun x=>W4 x s) l).toNat
theorem SI {l:List BA} {s:BA} (h:hasStr l s=true):idx (fun x=>W4 x s) l=(ixN l s:Int)/\ixN l s<l.length:=by
 have h1:=Zf5 (fun x=>W4 x s) l
 have h2:0<=idx (fun x=>W4 x s) l:=by
  have:=Tt (fun x=>W4 x s) l;rw [show l.any (fun x=>W4 x s)=true from h] at this;exact Qe this
 unfold ixN
 omega
theorem Zib (l:List BA) (rest:List PV) (s:BA) (h:hasStr l s=true):AF prog 147 [.sptr 0 (ZW l::rest),Zv s] (· =Zb (ixN l s:Nat)):=by
 refine AF.b2 11 func147 rfl ntmps147 (Xa rfl) ?_
 rintro w0 M0 v0 _-rfl
 refine YG ?_
 refine xL 5 Za (xL 6 Kp (xL 7 (Yn Jl) ?_));refine yU (Zu ZF) fun v8=>?_;refine ZN ?_;refine cV (cA call116 (Ca l s)) ?_;refine ZP ?_
 refine Zg (results147) rfl ?_
 rw [(SI h).1]
def W0 (acts:List BA) (l:List Flw) (i j:Nat):Bool:=l.any fun f=>ixN acts f.src==i&&ixN acts f.dst==j
def Y5 (acts:List BA) (l:List Cnt) (i:Nat):Bool:=l.any fun c=>ixN acts c.name==i
theorem ZgC {acts:List BA} {l:List Flw} {k:Nat} {f:Flw} (h:l[k]? =some f) (i j:Nat):W0 acts (l.take (k+1)) i j=(W0 acts (l.take k) i j||(ixN acts f.src==i&&ixN acts f.dst==j)):=by
 unfold W0;rw [Z2 h,UA];simp
theorem ZgD {acts:List BA} {l:List Cnt} {k:Nat} {c:Cnt} (h:l[k]? =some c) (i:Nat):Y5 acts (l.take (k+1)) i=(Y5 acts (l.take k) i||(ixN acts c.name==i)):=by
 unfold Y5;rw [Z2 h,UA];simp
theorem ZbN {acts:List BA} {l:List Flw} {k:Nat} {f:Flw} (h:l[k]? =some f) (i j:Nat):W0 acts (l.take (k+1)) i j=if i=ixN acts f.src then (if j=ixN acts f.dst then true else W0 acts (l.take k) (ixN acts f.src) j) else W0 acts (l.take k) i j:=by
 rw [ZgC h]
 generalize ixN acts f.src=a
 generalize ixN acts f.dst=b
 by_cases h1:i=a
 . subst h1;rw [Qc rfl];by_cases h2:j=b
   . subst h2;simp
   . rw [Qb h2,show (b==j)=false from beq_eq_false_iff_ne.2 (Ne.symm h2)];simp
 . rw [Qb h1,show (a==i)=false from beq_eq_false_iff_ne.2 (Ne.symm h1)];simp
theorem O0 {acts:List BA} {l:List Cnt} {k:Nat} {c:Cnt} (h:l[k]? =some c) (i:Nat):Y5 acts (l.take (k+1)) i=if i=ixN acts c.name then true else Y5 acts (l.take k) i:=by
 rw [ZgD h]
 generalize ixN acts c.name=a
 by_cases h1:i=a
 . subst h1;simp
 . rw [Qb h1,show (a==i)=false from beq_eq_false_iff_ne.2 (Ne.symm h1)];simp
def ZrS (g:Dfg):List PV:=[ZW (cnames g.acts),Ew g.acts.length (W0 (cnames g.acts) g.follows),Wq g.acts.length (Y5 (cnames g.acts) g.starts),Wq g.acts.length (Y5 (cnames g.acts) g.ends)]
def Zpl (g:Dfg):PV:= .sptr 0 (ZrS g)
theorem O1 {g:Dfg} (h:JE g=true):(cnames g.acts).length<=40/\(∀c∈g.starts,hasStr (cnames g.acts) c.name=true)/\(∀c∈g.ends,hasStr (cnames g.acts) c.name=true)/\(∀f∈g.follows,hasStr (cnames g.acts) f.src=true/\hasStr (cnames g.acts) f.dst=true):=by
 unfold JE Jz Eu at h
 simp only [Xe,Xj,U9] at h
 obtain ⟨⟨⟨⟨⟨⟨⟨h1,h2⟩,h3⟩,h4⟩,h5⟩,h6⟩,h7⟩,h8⟩:=h
 refine ⟨h1.1.1,fun c hc=>h2.2 _ (Xp.2 ⟨c,hc,rfl⟩),fun c hc=>h3.2 _ (Xp.2 ⟨c,hc,rfl⟩),fun f hf=>?_⟩
 have:=h7 f hf
 unfold SH at this
 simp only [Xe] at this
 exact ⟨this.1.2,this.2⟩
theorem ZeS {e e' n a b:Nat} {f f':Nat->Nat->Bool} (hf:∀i j,i<n->j<n->f' i j=if i=a then (if j=b then true else f a j) else f i j):(vec n fun i=>YP e' n (f i)).set a (.own e' 1 n ((vec n fun j=>Zr (f a j)).set (b*1) (Zr true)))=vec n fun i=>YP e' n (f' i):=by
 rw [XI,G1,G1]
 refine Yk fun i hi=>?_
 by_cases h:i=a
 . subst h;rw [Qc rfl];show PV.own _ _ _ _=PV.own _ _ _ _;congr 1;refine Yk fun j hj=>?_;rw [hf i j hi hj,Qc rfl];split<;>rfl
 . rw [Qb h];show PV.own _ _ _ _=PV.own _ _ _ _;congr 1;refine Yk fun j hj=>?_;rw [hf i j hi hj,Qb h]
theorem SJ {n a:Nat} {f f':Nat->Bool} (hf:∀i,i<n->f' i=if i=a then true else f i):(vec n fun i=>Zr (f i)).set (a*1) (Zr true)=vec n fun i=>Zr (f' i):=by
 rw [XI,G1]
 refine Yk fun i hi=>?_
 rw [hf i hi];split<;>rfl
theorem O2 {sL hP:List (Nat×Ent)} {l e k e' n:Nat} {h:Value} {acts:List BA} {rest:List PV} (hl:lk hP l=some (h, .own e k 1 (.own e' 1 n (acts.map Zv)::rest))) (hn:n=acts.length):P3 (⟨sL,hP⟩:St) (padd (sbase h) 0) (.sptr 0 (ZW acts::Wk rest)):=by
 have:=Zbm (sL:=sL) (j:=0) hl Vt
 rw [Wk,JW,hn] at this
 exact this
theorem O3 {n i:Nat} {e:Nat} (f:Nat->Nat->Bool) (h:i<n):(vec n fun i=>YP e n (f i))[i]? =some (YP e n (f i)):=Pv _ h
theorem Ci {Hs:List Value} {i:Nat} {v:Value} (h:Hs[i]? =some v):(Hs.map PV.val)[i*1]? =some (.val v):=by rw [XI,Xl,h];rfl
theorem ZrT (g : Dfg) (hg:JE g=true) (hfl:g.follows.length<=140737488355328) (hsl:g.starts.length<=140737488355328) (hel:g.ends.length<=140737488355328):AF prog 104 [Jb g] (· =Zpl g):=by
 obtain ⟨hn40,hst,hen,hfo⟩:=O1 hg
 have hna:(cnames g.acts).length=g.acts.length:=by simp [cnames]
 refine AF.b1 101 func104 rfl ntmps104 (Xa rfl) fun w0 M0 v0 _=>?_
 refine Zi ?_
 refine Yi 1 4 fun h1=>?_;refine ZX ?_
 refine xM (Zc 1 KE) ?_;refine yU (Zh 1 YM) fun v14=>?_;refine xL 15 (Zs YB) (xL 3 ZJ ?_);refine Zw ?_
 refine Ja (fun x:{x:Value×Value×Value×Value×Value//x.2.2.2.2.oneCell'=true}=>⟨[(1,padd (sbase h1) 0, .val (padd (sbase h1) 0)),(4,padd (sbase x.1.1) 0, .val (padd (sbase x.1.1) 0))],[(1,h1, .own 34 4 1 [K9 g.acts,K9 g.starts,K9 g.ends,Hh g.follows]),(23,x.1.1, .own 95 4 1 [.val (.slice none 0 0), .val x.1.2.1, .val x.1.2.2.1, .val x.1.2.2.2.1]),(17,x.1.2.1,ZjW 92 4 g.acts.length (fun _ _=>false)),(19,x.1.2.2.1, .own 4 1 g.acts.length (List.replicate g.acts.length (.val (.bool false)))),(21,x.1.2.2.2.1, .own 4 1 g.acts.length (List.replicate g.acts.length (.val (.bool false))))]⟩) ?_ ?_
 . (refine YJ [] [] ?_<;>refine xD 0 rfl Za ?_<;>refine xD 2 rfl Za ?_<;>refine xD 4 rfl Za ?_<;>(refine ZlV 1 3 5 kR ?_ ?_ ?_;rotate_right;(focus ((refine aWr fun bk=>?_)<;>refine Kz 21 Ws fun h21 ho21=>?_<;>refine bE bk ?_<;>(refine WI 1 3 kR ?_ ?_;rotate_right;(focus ((refine aWr fun bk=>?_)<;>refine Kz 19 Ws fun h19 ho19=>?_<;>refine bE bk ?_<;>(refine aDr 1 fun bk=>?_)<;>refine cO 17 (cA call105 (Sl g.acts.length oM)) fun v17 ho17=>?_<;>refine bE bk ?_<;>refine xE 6 rfl (ZC Sk) ?_<;>(refine aDr 7 fun bk=>?_)<;>refine Yi 23 4 fun h23=>?_<;>refine bE bk ?_<;>refine xE 8 rfl ZJ ?_));rotate_right;(focus ((refine aWr fun bk=>?_)<;>refine cO 17 (cA call105 (Sl g.acts.length oM)) fun v17 ho17=>?_<;>refine bE bk ?_<;>(refine aDr 3 fun bk=>?_)<;>refine Kz 19 Ws fun h19 ho19=>?_<;>refine bE bk ?_<;>refine xE 6 rfl (ZC Sk) ?_<;>(refine aDr 7 fun bk=>?_)<;>refine Yi 23 4 fun h23=>?_<;>refine bE bk ?_<;>refine xE 8 rfl ZJ ?_)))));rotate_right;(focus ((refine aWr fun bk=>?_)<;>refine Kz 19 Ws fun h19 ho19=>?_<;>refine bE bk ?_<;>(refine WI 1 5 kR ?_ ?_;rotate_right;(focus ((refine aWr fun bk=>?_)<;>refine Kz 21 Ws fun h21 ho21=>?_<;>refine bE bk ?_<;>(refine aDr 1 fun bk=>?_)<;>refine cO 17 (cA call105 (Sl g.acts.length oM)) fun v17 ho17=>?_<;>refine bE bk ?_<;>refine xE 6 rfl (ZC Sk) ?_<;>(refine aDr 7 fun bk=>?_)<;>refine Yi 23 4 fun h23=>?_<;>refine bE bk ?_<;>refine xE 8 rfl ZJ ?_));rotate_right;(focus ((refine aWr fun bk=>?_)<;>refine cO 17 (cA call105 (Sl g.acts.length oM)) fun v17 ho17=>?_<;>refine bE bk ?_<;>(refine aDr 5 fun bk=>?_)<;>refine Kz 21 Ws fun h21 ho21=>?_<;>refine bE bk ?_<;>refine xE 6 rfl (ZC Sk) ?_<;>(refine aDr 7 fun bk=>?_)<;>refine Yi 23 4 fun h23=>?_<;>refine bE bk ?_<;>refine xE 8 rfl ZJ ?_)))));rotate_right;(focus ((refine aWr fun bk=>?_)<;>refine cO 17 (cA call105 (Sl g.acts.length oM)) fun v17 ho17=>?_<;>refine bE bk ?_<;>(refine WI 3 5 kR ?_ ?_;rotate_right;(focus ((refine aWr fun bk=>?_)<;>refine Kz 21 Ws fun h21 ho21=>?_<;>refine bE bk ?_<;>(refine aDr 3 fun bk=>?_)<;>refine Kz 19 Ws fun h19 ho19=>?_<;>refine bE bk ?_<;>refine xE 6 rfl (ZC Sk) ?_<;>(refine aDr 7 fun bk=>?_)<;>refine Yi 23 4 fun h23=>?_<;>refine bE bk ?_<;>refine xE 8 rfl ZJ ?_));rotate_right;(focus ((refine aWr fun bk=>?_)<;>refine Kz 19 Ws fun h19 ho19=>?_<;>refine bE bk ?_<;>(refine aDr 5 fun bk=>?_)<;>refine Kz 21 Ws fun h21 ho21=>?_<;>refine bE bk ?_<;>refine xE 6 rfl (ZC Sk) ?_<;>(refine aDr 7 fun bk=>?_)<;>refine Yi 23 4 fun h23=>?_<;>refine bE bk ?_<;>refine xE 8 rfl ZJ ?_))))))<;>refine WE ?_)<;>(
 exact YF ⟨(h23,v17,h19,h21, .bool true),rfl⟩ sB sB)
 . rintro ⟨⟨h23, h17,h19,h21,_⟩,_⟩;dsimp only;refine Zi ?_;refine xM (Zc 1 KE) ?_;refine yU (Zh 1 YM) fun v25=>?_;refine xL 26 (Zs YB) (xL 27 Za ?_);refine Zw ?_;refine Zq (YS 200 9 1 rfl) fun _=>?_;refine Yq (ι:={x:Nat×Value//x.1<=g.acts.length}) (fun k=>⟨[(1,_,_),(4,_,_),(25,_,_),(26,_,_),(27, .int .i64 k.1.1,Zb k.1.1)],[(1,_,_),(17,_,_),(19,_,_),(21,_,_),(23,h23, .own 95 4 1 [.val k.1.2, .val h17, .val h19, .val h21]),(200,k.1.2, .own 9 1 k.1.1 ((cnames (g.acts.take k.1.1)).map Zv))]⟩) (fun k=>g.acts.length-k.1.1) ⟨(0, .slice none 0 0),oM⟩ ?_;rintro ⟨⟨k,h3⟩,hk⟩;dsimp only;dsimp only at hk;refine Yy ?_ ?_<;>intro hb28
   . (
 obtain ⟨x,hx⟩:=gS g.acts k;have e1:=Wr YL g.acts k x hx;have e2:=W9 YL hx;(have e3:((cnames (g.acts.take k)).map Zv).length=k:=by simp [cnames];omega);refine Zi ?_;refine xM (Ze YB) ?_;refine yU (Wn KC) fun v30=>?_;refine Zt [(.string ByteArray.empty),(.int .i64 0)] 2 6 SG fun h6=>?_;refine Zp 6 KC ?_;refine Zw ?_;(refine YJ [11] [23,6] ?_<;>refine xD 0 rfl Za ?_<;>refine xD 1 rfl Za ?_<;>refine xD 2 rfl (Rs 23) ?_<;>refine xD 3 rfl (Zc 23 Jl) ?_<;>(refine yD 4 rfl (Zh 23 ZF) fun v35 h=>?_;cases h)<;>refine xE 5 rfl (Zc 6 WM) ?_<;>(refine yE 6 rfl (Zh 6 ZB) fun v37 h=>?_;cases h)<;>(refine aDr 7 fun bk=>?_)<;>refine WC (kk:=1) 38 YV fun h38 ho38=>?_<;>refine bE bk ?_<;>(refine aDr 8 fun bk=>?_)<;>refine Wc 200 38 39 YV fun h39 ho39=>?_<;>refine bE bk ?_<;>refine xE 9 rfl (Rs 23) ?_<;>refine xE 10 rfl (Zc 23 Jl) ?_<;>(refine ZY 11 kR ?_)<;>(refine Ww rfl rfl kR fun DQ bk=>?_)<;>refine JX 23 ZF OZ ?_<;>refine WA (bk _ (nav ?_))<;>try dsimp only)
 refine Gf ?_;refine ZK (ZM (l:=39) 200 rfl rfl) fun _=>?_;rw [show (cnames (g.acts.take k)).map Zv++[Zv x.name]=(cnames (g.acts.take (k+1))).map Zv by rw [TQ hx,XW];rfl];refine Yr (
  ⟨(k+1,h39),by show k+1<=g.acts.length;omega⟩
  ))
   . (
 refine Zi ?_;refine xM (Zc 1 KF) ?_;refine yU (Zh 1 JD) fun v44=>?_;refine xL 45 (Zs WN) (xL 46 Za ?_);refine Zw ?_;obtain rfl:k=g.acts.length:=oM;rw [Xx];refine Zq (L9 (l:=23) (l':=200) (j:=0) rfl rfl rfl rfl) fun _=>?_;refine Zq (ZcE (l:=17) 201 rfl rfl) fun Hs=>?_;obtain ⟨Hs,hHs⟩:=Hs;rw [Wx] at hHs;dsimp only;refine Yq (ι:={k:Nat//k<=g.follows.length}) (fun k=>⟨[(1,_,_),(4,_,_),(44,_,_),(45,_,_),(46, .int .i64 k.1,Zb k.1)],[(1,_,_),(23,_,_),(17,_,_),(19,_,_),(21,_,_),(201, .agg Hs.toArray, .agg (vec g.acts.length fun i=>YP 4 g.acts.length (W0 (cnames g.acts) (g.follows.take k.1) i)))]⟩) (fun k=>g.follows.length-k.1) ⟨0,oM⟩ ?_;rintro ⟨k,hk⟩;dsimp only;refine Yy ?_ ?_<;>intro hb47
 . (
 obtain ⟨x,hx⟩:=gS g.follows k;have e1:=Wr Wg g.follows k x hx;have e2:=W9 Wg hx;have hxa:=(hfo x (Xb hx)).1;have hxb:=(hfo x (Xb hx)).2;have ha:=(SI hxa).2;have hb:=(SI hxb).2;rw [hna] at ha hb;obtain ⟨ra,hra⟩:=gS Hs (ixN (cnames g.acts) x.src);have e3:=Ci hra;have e4:=O3 (e:=4) (W0 (cnames g.acts) (g.follows.take k)) ha;have e5:=Wx g.acts.length (fun j=>Zr (W0 (cnames g.acts) (g.follows.take k) (ixN (cnames g.acts) x.src) j));refine Zi ?_;refine xM (Ze WN) ?_;refine yU (Wn Ll) fun v49=>?_;refine Zt [(.string ByteArray.empty),(.string ByteArray.empty),(.int .i64 0)] 3 8 ζX fun h8=>?_;refine Zp 8 Ll ?_;refine Zw ?_;(refine YJ [15] [23,8,17,201] ?_<;>refine xD 0 rfl Za ?_<;>refine xD 1 rfl (Rs 23) ?_<;>refine xD 2 rfl (Zc 23 KY) ?_<;>(refine yD 3 rfl (Zh 23 Yl) fun v53 h=>?_;cases h)<;>refine xD 4 rfl Za ?_<;>refine xD 5 rfl (Zc 8 Kw) ?_<;>(refine yD 6 rfl (Zh 8 ZB) fun v56 h=>?_;cases h)<;>refine xD 10 rfl Za ?_<;>refine xD 11 rfl (Zc 8 KS) ?_<;>(refine yD 12 rfl (Zh 8 ZB) fun v62 h=>?_;cases h)<;>(refine ZY 7 kR ?_)<;>(refine Yo (d:=57) rfl (cB rfl call147 (Zib (cnames g.acts) _ x.src hxa) ⟨⟨_,_,rfl,O2 (l:=23) rfl hna.symm⟩,⟨_,_,rfl,G2 (x:= .tmp 56) rfl⟩,trivial⟩) fun v57 h=>?_;cases h)<;>refine xD 8 rfl (Zj 17 Z') ?_<;>(refine yD 9 rfl (Zh 17 Zx) fun v59 h=>?_;cases h)<;>(refine ZY 13 kR ?_)<;>(refine Yo (d:=63) rfl (cB rfl call147 (Zib (cnames g.acts) _ x.dst hxb) ⟨⟨_,_,rfl,O2 (l:=23) rfl hna.symm⟩,⟨_,_,rfl,G2 (x:= .tmp 62) rfl⟩,trivial⟩) fun v63 h=>?_;cases h)<;>refine xE 14 rfl (Sy 201 ZI) ?_<;>(refine ZY 15 kR ?_)<;>(refine Ww rfl rfl kR fun DQ bk=>?_)<;>refine ZdQ 201 ZT Gq ?_<;>refine WA (bk _ (nav ?_))<;>try dsimp only)
 refine Gf ?_;rw [ZeS (e:=0) (f':=W0 (cnames g.acts) (g.follows.take (k+1))) fun i j _ _=>ZbN hx i j];refine Yr (
  ⟨k+1,oM⟩
  ))
 . (
 refine Zi ?_;refine xM (Zc 1 Gp) ?_;refine yU (Zh 1 YM) fun v67=>?_;refine xL 68 (Zs YB) (xL 69 Za ?_);refine Zw ?_;obtain rfl:k=g.follows.length:=oM;rw [Xx,show List.replicate g.acts.length (PV.val (.bool false))=vec g.acts.length (fun i=>Zr (Y5 (cnames g.acts) [] i)) from Lm _ _];refine Yq (ι:={k:Nat//k<=g.starts.length}) (fun k=>⟨[(1,_,_),(4,_,_),(67,_,_),(68,_,_),(69, .int .i64 k.1,Zb k.1)],[(1,_,_),(23,_,_),(17,_,_),(201,_,_),(21,_,_),(19,h19,YP 4 g.acts.length (Y5 (cnames g.acts) (g.starts.take k.1)))]⟩) (fun k=>g.starts.length-k.1) ⟨0,oM⟩ ?_;rintro ⟨k,hk⟩;dsimp only;refine Yy ?_ ?_<;>intro hb70
 . (
 obtain ⟨x,hx⟩:=gS g.starts k;have e1:=Wr YL g.starts k x hx;have e2:=W9 YL hx;have hxa:=hst x (Xb hx);have ha:=(SI hxa).2;rw [hna] at ha;have e5:=Wx g.acts.length (fun j=>Zr (Y5 (cnames g.acts) (g.starts.take k) j));refine Zi ?_;refine xM (Ze YB) ?_;refine yU (Wn KC) fun v72=>?_;refine Zt [(.string ByteArray.empty),(.int .i64 0)] 2 10 SG fun h10=>?_;refine Zp 10 KC ?_;refine Zw ?_;(refine YJ [9] [23,10,19] ?_<;>refine xD 0 rfl Za ?_<;>refine xD 1 rfl (Rs 23) ?_<;>refine xD 2 rfl (Zc 23 TR) ?_<;>(refine yD 3 rfl (Zh 23 Zx) fun v76 h=>?_;cases h)<;>refine xD 4 rfl Za ?_<;>refine xE 5 rfl (Zc 10 WM) ?_<;>(refine yE 6 rfl (Zh 10 ZB) fun v79 h=>?_;cases h)<;>(refine ZY 7 kR ?_)<;>(refine Yo (d:=80) rfl (cB rfl call147 (Zib (cnames g.acts) _ x.name hxa) ⟨⟨_,_,rfl,O2 (l:=23) rfl hna.symm⟩,⟨_,_,rfl,G2 (x:= .tmp 79) rfl⟩,trivial⟩) fun v80 h=>?_;cases h)<;>refine xE 8 rfl (Zj 19 ZI) ?_<;>(refine ZY 9 kR ?_)<;>(refine Ww rfl rfl kR fun DQ bk=>?_)<;>refine JX 19 ZT Gq ?_<;>refine WA (bk _ (nav ?_))<;>try dsimp only)
 refine Gf ?_;rw [SJ (f':=Y5 (cnames g.acts) (g.starts.take (k+1))) fun i _=>O0 hx i];refine Yr (
  ⟨k+1,oM⟩
  ))
 . (
 refine Zi ?_;refine xM (Zc 1 Jj) ?_;refine yU (Zh 1 YM) fun v84=>?_;refine xL 85 (Zs YB) (xL 86 Za ?_);refine Zw ?_;obtain rfl:k=g.starts.length:=oM;rw [Xx];refine Yq (ι:={k:Nat//k<=g.ends.length}) (fun k=>⟨[(1,_,_),(4,_,_),(84,_,_),(85,_,_),(86, .int .i64 k.1,Zb k.1)],[(1,_,_),(23,_,_),(17,_,_),(201,_,_),(19,_,_),(21,h21,YP 4 g.acts.length (Y5 (cnames g.acts) (g.ends.take k.1)))]⟩) (fun k=>g.ends.length-k.1) ⟨0,oM⟩ ?_;rintro ⟨k,hk⟩;dsimp only;refine Yy ?_ ?_<;>intro hb87
 . (
 obtain ⟨x,hx⟩:=gS g.ends k;have e1:=Wr YL g.ends k x hx;have e2:=W9 YL hx;have hxa:=hen x (Xb hx);have ha:=(SI hxa).2;rw [hna] at ha;have e5:=Wx g.acts.length (fun j=>Zr (Y5 (cnames g.acts) (g.ends.take k) j));refine Zi ?_;refine xM (Ze YB) ?_;refine yU (Wn KC) fun v89=>?_;refine Zt [(.string ByteArray.empty),(.int .i64 0)] 2 12 SG fun h12=>?_;refine Zp 12 KC ?_;refine Zw ?_;(refine YJ [9] [23,12,21] ?_<;>refine xD 0 rfl Za ?_<;>refine xD 1 rfl (Rs 23) ?_<;>refine xD 2 rfl (Zc 23 TS) ?_<;>(refine yD 3 rfl (Zh 23 Zx) fun v93 h=>?_;cases h)<;>refine xD 4 rfl Za ?_<;>refine xE 5 rfl (Zc 12 WM) ?_<;>(refine yE 6 rfl (Zh 12 ZB) fun v96 h=>?_;cases h)<;>(refine ZY 7 kR ?_)<;>(refine Yo (d:=97) rfl (cB rfl call147 (Zib (cnames g.acts) _ x.name hxa) ⟨⟨_,_,rfl,O2 (l:=23) rfl hna.symm⟩,⟨_,_,rfl,G2 (x:= .tmp 96) rfl⟩,trivial⟩) fun v97 h=>?_;cases h)<;>refine xE 8 rfl (Zj 21 ZI) ?_<;>(refine ZY 9 kR ?_)<;>(refine Ww rfl rfl kR fun DQ bk=>?_)<;>refine JX 21 ZT Gq ?_<;>refine WA (bk _ (nav ?_))<;>try dsimp only)
 refine Gf ?_;rw [SJ (f':=Y5 (cnames g.acts) (g.ends.take (k+1))) fun i _=>O0 hx i];refine Yr (
  ⟨k+1,oM⟩
  ))
 . (
 refine ZU ?_;obtain rfl:k=g.ends.length:=oM;rw [Xx];refine YO (ZcF (l:=17) (l':=201) rfl rfl rfl rfl) fun _=>?_;refine YO (L9 (l:=23) (l':=17) (j:=1) rfl rfl rfl rfl) fun _=>?_;refine YO (L9 (l:=23) (l':=19) (j:=2) rfl rfl rfl rfl) fun _=>?_;refine YO (L9 (l:=23) (l':=21) (j:=3) rfl rfl rfl rfl) fun _=>?_;refine YO (S7 (l:=23) (t:=2) (j:=0) rfl Vt rfl) fun _=>?_;refine Zg (results104) rfl ?_;show PV.sptr 0 (Wk [_,ZjW 92 4 _ _,YP _ _ _,YP _ _ _])=Zpl g;rw [Wk,Wk,Wk,Wk,Wk,OY,Jk,Jk,JW];unfold Zpl ZrS ZW;rw [hna]))))
theorem Yu:AggT prog 34 4=true:=kR
def JF (E:Nat->Nat->Bool) (k i j a b:Nat):Bool:=if a<i\/(a=i/\b<j) then war E (k+1) a b else war E k a b
theorem ZjY (E:Nat->Nat->Bool) (k i j a:Nat):JF E k i j a k=war E k a k:=by
 unfold JF
 split
 . rw [Zh9]
 . rfl
theorem ZjZ (E:Nat->Nat->Bool) (k i j b:Nat):JF E k i j k b=war E k k b:=by
 unfold JF
 split
 . rw [Zia]
 . rfl
theorem ZgE (E:Nat->Nat->Bool) (k i j:Nat):JF E k i j i j=war E k i j:=by unfold JF;rw [Qb oM]
theorem ZgF {e n k i j:Nat} {E:Nat->Nat->Bool} {x:Bool} (hx:x=war E (k+1) i j):(vec n fun a=>YP e n (JF E k i j a)).set i (.own e 1 n ((vec n fun b=>Zr (JF E k i j i b)).set (j*1) (Zr x)))=vec n fun a=>YP e n (JF E k i (j+1) a):=by
 subst hx
 rw [XI,G1,G1]
 refine Yk fun a ha=>?_
 by_cases h:a=i
 . subst h;rw [Qc rfl];show PV.own _ _ _ _=PV.own _ _ _ _;congr 1;refine Yk fun b hb=>?_;by_cases h2:b=j
   . subst h2;rw [Qc rfl];unfold JF;rw [Qc oM]
   . rw [Qb h2];unfold JF;by_cases h3:b<j
     . rw [Qc oM,Qc oM]
     . rw [Qb oM,Qb oM]
 . rw [Qb h];show PV.own _ _ _ _=PV.own _ _ _ _;congr 1;refine Yk fun b hb=>?_;unfold JF;by_cases h3:a<i
   . rw [Qc oM,Qc oM]
   . rw [Qb oM,Qb oM]
theorem Zq6 {E:Nat->Nat->Bool} {k i j:Nat} (h:war E k i j=true):true=war E (k+1) i j:=by simp [war,h]
theorem Zq7 {E:Nat->Nat->Bool} {k i j:Nat} (h:war E k i j=false) (h2:war E k i k=true):war E k k j=war E (k+1) i j:=by simp [war,h,h2]
theorem Zq8 {E:Nat->Nat->Bool} {k i j:Nat} (h:war E k i j=false) (h2:war E k i k=false):false=war E (k+1) i j:=by simp [war,h,h2]
theorem ZgG {n k i:Nat} {E:Nat->Nat->Bool} (e:Nat):(vec n fun a=>YP e n (JF E k i n a))=vec n fun a=>YP e n (JF E k (i+1) 0 a):=by
 refine Yk fun a ha=>?_
 show PV.own _ _ _ _=PV.own _ _ _ _
 congr 1
 refine Yk fun b hb=>?_
 unfold JF
 by_cases h:a<=i
 . rw [Qc oM,Qc oM]
 . rw [Qb oM,Qb oM]
theorem Zj0 {n k:Nat} {E:Nat->Nat->Bool} (e:Nat):(vec n fun a=>YP e n (JF E k n 0 a))=vec n fun a=>YP e n (war E (k+1) a):=by
 refine Yk fun a ha=>?_
 show PV.own _ _ _ _=PV.own _ _ _ _
 congr 1
 refine Yk fun b hb=>?_
 unfold JF
 rw [Qc oM]
theorem ZeT {n k:Nat} {E:Nat->Nat->Bool} (e:Nat):(vec n fun a=>YP e n (war E k a))=vec n fun a=>YP e n (JF E k 0 0 a):=by
 refine Yk fun a ha=>?_
 show PV.own _ _ _ _=PV.own _ _ _ _
 congr 1
 refine Yk fun b hb=>?_
 unfold JF
 rw [Qb oM]
theorem ZZ {α:Type} {n i:Nat} (f:Nat->α) (h:i<n):(vec n f)[i*1]? =some (f i):=by rw [XI];exact Pv f h
theorem Zpm {α:Type} {n:Nat} {f:Nat->α} {p:α->Bool} (h:∀i,p (f i)=true):(vec n f).all p=true:=by
 unfold vec;rw [VI,Xj];exact fun i _=>h i
theorem Zj1 {e n k:Nat} {E:Nat->Nat->Bool} (v:Value):(((vec n fun i=>YP e n (fun j=>if i<k then E i j else false)).set k (.val v)).set k (.own e 1 n (vec n fun j=>Zr (E k j))))=vec n fun i=>YP e n (fun j=>if i<k+1 then E i j else false):=by
 rw [X4,G1]
 refine Yk fun a ha=>?_
 by_cases h:a=k
 . subst h;rw [Qc rfl];show PV.own _ _ _ _=PV.own _ _ _ _;congr 1;exact Yk fun b hb=>by dsimp only;rw [Qc oM]
 . rw [Qb h];show PV.own _ _ _ _=PV.own _ _ _ _;congr 1;refine Yk fun b hb=>?_;dsimp only;by_cases h3:a<k
   . rw [Qc h3,Qc oM]
   . rw [Qb h3,Qb oM]
theorem ZeU (l :List BA) (n:Nat) (E:Nat->Nat->Bool) (s f:PV) (hl:l.length=n) (hn:n<=1000):AF prog 51 [.sptr 0 [ZW l,Ew n E,s,f]] (· =Ew n (ZV n E)):=by
 refine AF.b1 82 func51 rfl ntmps51 (Xa rfl) fun w0 M0 v0 _=>?_
 refine YG ?_
 refine xL 8 Za (xL 9 Kp (xL 10 (Yn Jl) ?_));refine yU (Zu ZF) fun v11=>?_;refine xM (Zs Zm) ?_;refine cO 13 (cA call105 (Sl l.length oM)) fun v13 ho13=>?_;refine ZX ?_
 refine xL 14 Za (xL 15 (WB 13 Z') (xL 16 Za ?_));refine Zw ?_
 rw [hl]
 refine Zq (ZcE (l:=13) 200 rfl rfl) fun Hs=>?_
 obtain ⟨Hs,hHs⟩:=Hs
 rw [Wx] at hHs
 dsimp only
 rw [show (vec n fun i=>YP 4 n (fun _=>false))=vec n (fun i=>YP 4 n (fun j=>if i<0 then E i j else false)) from Yk fun i _=>by congr 1]
 refine Yq (ι:={k:Nat//k<=n}) (fun k=>⟨[(0,_,_),(3,_,_),(15,_,_),(16, .int .i64 k.1,Zb k.1)],[(13,_,_),(200, .agg Hs.toArray, .agg (vec n fun i=>YP 4 n (fun j=>if i<k.1 then E i j else false)))]⟩) (fun k=>n-k.1) ⟨0,oM⟩ ?_
 rintro ⟨k,hk⟩
 dsimp only
 refine Yy ?_ ?_<;>intro hb17
 . (
 have hlt:k<n:=oM;obtain ⟨rk,hrk⟩:=gS Hs k;have e1:=Ci hrk;have e2:=ZZ (fun i=>Wq n (E i)) hlt;refine Zq (Zhz (l:=200) (i:=k) 201 rfl hrk (Pv _ hlt) rfl) fun _=>?_;refine ZU ?_;refine YJ [] [13] ?_<;>refine xD 0 rfl Za ?_<;>refine xD 1 rfl Za ?_<;>refine xD 2 rfl (Zj 13 Z') ?_<;>(refine yD 3 rfl (Zh 13 Zx) fun v22 h=>?_;cases h)<;>refine xD 4 rfl Za ?_<;>refine xD 5 rfl Kp ?_<;>refine xD 6 rfl (Yn KY) ?_<;>(refine yD 7 rfl (Zu Yl) fun v26 h=>?_;cases h)<;>refine xE 8 rfl Za ?_<;>refine xE 9 rfl (Ze Z') ?_<;>(refine yE 10 rfl (Zu Zx) fun v29 h=>?_;cases h)<;>(refine aDr 11 fun bk=>?_)<;>refine ZqQ 201 30 ZI ?_ (Wx _ _) (Zpm fun _=>rfl)<;>refine bE bk ?_<;>refine WE ?_;refine Gf ?_;refine ZK (ZhA (l:=200) (l':=201) (i:=k) rfl hrk (XJ (by rw [Wx];omega)) rfl rfl) fun _=>?_;rw [Zj1];refine Yr (
  ⟨k+1,oM⟩
  ))
 . (
 refine Zi ?_;refine xL 32 Za (xL 33 (WB 13 Z') (xL 34 Za ?_));refine Zw ?_;rw [show (vec n fun i=>YP 4 n (fun j=>if i<k then E i j else false))=vec n (fun i=>YP 4 n (war E 0 i)) from Yk fun i hi=>by
  show PV.own _ _ _ _=PV.own _ _ _ _;congr 1;exact Yk fun j _=>by dsimp only;rw [Qc (show i<k by omega)];rfl]
 refine Yq (ι:={m:Nat//m<=n}) (fun k=>⟨[(0,_,_),(3,_,_),(33,_,_),(34, .int .i64 k.1,Zb k.1)],[(13,_,_),(200, .agg Hs.toArray, .agg (vec n fun i=>YP 4 n (war E k.1 i)))]⟩) (fun k=>n-k.1) ⟨0,oM⟩ ?_;rintro ⟨m,hm⟩;dsimp only;refine Yy ?_ ?_<;>intro hb35
 . (
 refine Jx ?_;refine xL 37 Za (xL 38 (WB 13 Z') (xL 39 Za ?_));refine Zw ?_;rw [ZeT];refine Yq (ι:={i:Nat//i<=n}) (fun k=>⟨[(0,_,_),(3,_,_),(33,_,_),(34,_,_),(5,_,_),(38,_,_),(39, .int .i64 k.1,Zb k.1)],[(13,_,_),(200, .agg Hs.toArray, .agg (vec n fun a=>YP 4 n (JF E m k.1 0 a)))]⟩) (fun k=>n-k.1) ⟨0,oM⟩ ?_;rintro ⟨i,hi⟩;dsimp only;refine Yy ?_ ?_<;>intro hb40
 . (
 refine Jx ?_;refine xL 42 Za (xL 43 (WB 13 Z') (xL 44 Za ?_));refine Zw ?_;refine Yq (ι:={j:Nat//j<=n}) (fun k=>⟨[(0,_,_),(3,_,_),(33,_,_),(34,_,_),(5,_,_),(38,_,_),(39,_,_),(6,_,_),(43,_,_),(44, .int .i64 k.1,Zb k.1)],[(13,_,_),(200, .agg Hs.toArray, .agg (vec n fun a=>YP 4 n (JF E m i k.1 a)))]⟩) (fun k=>n-k.1) ⟨0,oM⟩ ?_;rintro ⟨j,hj⟩;dsimp only;refine Yy ?_ ?_<;>intro hb45
 . (
 have hmn:m<n:=oM;have hin:i<n:=oM;have hjn:j<n:=oM;obtain ⟨ri,hri⟩:=gS Hs i;obtain ⟨rm,hrm⟩:=gS Hs m;have e1:=Ci hri;have e2:=Ci hrm;have e3:=O3 (e:=4) (JF E m i j) hin;have e4:=O3 (e:=4) (JF E m i j) hmn;(have e5:(vec n fun b=>Zr (JF E m i j i b))[j*1]? =some (Zr (war E m i j)):=by rw [ZZ _ hjn,ZgE]);(have e6:(vec n fun b=>Zr (JF E m i j i b))[m*1]? =some (Zr (war E m i m)):=by rw [ZZ _ hmn,ZjY]);(have e7:(vec n fun b=>Zr (JF E m i j m b))[j*1]? =some (Zr (war E m m j)):=by rw [ZZ _ hjn,ZjZ]);have e8:=Wx n (fun b=>Zr (JF E m i j i b));refine ZU ?_;(refine YJ [31] [13,200] ?_<;>refine xD 0 rfl Za ?_<;>refine xD 1 rfl Za ?_<;>refine xD 2 rfl (Zj 13 Z') ?_<;>(refine yD 3 rfl (Zh 13 Zx) fun v50 h=>?_;cases h)<;>refine xD 4 rfl Za ?_<;>refine xD 5 rfl Za ?_<;>refine xD 6 rfl Za ?_<;>refine xD 7 rfl (Zj 13 Z') ?_<;>(refine yD 8 rfl (Zh 13 Zx) fun v55 h=>?_;cases h)<;>refine xE 9 rfl Za ?_<;>refine xE 10 rfl (Sy 200 ZI) ?_<;>(refine yE 11 rfl (Zbr 200 ZT) fun v58 h=>?_;cases h)<;>refine xE 12 rfl Za ?_<;>(refine bD 59 (fun hb59=>?_) (fun hb59=>?_)<;>(first|refine kD 13 ?_|refine xD 13 rfl Za ?_))<;>(first|refine kD 14 ?_|refine xD 14 rfl Za ?_)<;>(first|refine kD 15 ?_|refine xD 15 rfl (Zj 13 Z') ?_)<;>(first|refine kD 16 ?_|(refine yD 16 rfl (Zh 13 Zx) fun v63 h=>?_;cases h))<;>(first|refine kD 17 ?_|refine xD 17 rfl Za ?_)<;>(first|refine kD 18 ?_|refine xD 18 rfl (Sy 200 ZI) ?_)<;>(first|refine kD 19 ?_|(refine yD 19 rfl (Zbr 200 ZT) fun v66 h=>?_;cases h))<;>(first|refine kD 20 ?_|refine xD 20 rfl Za ?_)<;>(first|refine kD 21 ?_|(refine bD 67 (fun hb67=>?_) (fun hb67=>?_)<;>(first|refine kD 21 ?_|refine xD 21 rfl Za ?_)))<;>(first|refine kD 22 ?_|refine xD 22 rfl Za ?_)<;>(first|refine kD 23 ?_|refine xD 23 rfl (Zj 13 Z') ?_)<;>(first|refine kD 24 ?_|(refine yD 24 rfl (Zh 13 Zx) fun v71 h=>?_;cases h))<;>(first|refine kD 25 ?_|refine xD 25 rfl Za ?_)<;>(first|refine kD 26 ?_|refine xD 26 rfl (Sy 200 ZI) ?_)<;>(first|refine kD 27 ?_|(refine yD 27 rfl (Zbr 200 ZT) fun v74 h=>?_;cases h))<;>(first|refine kD 28 ?_|refine xD 28 rfl YY ?_)<;>refine xE 29 rfl YY ?_<;>refine xE 30 rfl (Sy 200 ZI) ?_<;>(refine ZY 31 kR ?_)<;>(refine Ww rfl rfl kR fun DQ bk=>?_)<;>refine ZdQ 200 ZT Gq ?_<;>refine WA (bk _ (nav ?_))<;>try dsimp only)<;>(
 refine Gf ?_;rw [ZgF (by first|exact Zq6 hb59|exact Zq7 hb59 hb67|exact Zq8 hb59 hb67)];refine Yr (
  ⟨j+1,oM⟩
  )))
 . (
 refine ZU ?_;rw [show j=n by omega,ZgG];refine Yr (
  ⟨i+1,oM⟩
  )))
 . (
 refine ZU ?_;rw [show i=n by omega,Zj0];refine Yr (
  ⟨m+1,oM⟩
  )))
 . (
 refine ZU ?_;rw [show m=n by omega];refine YO (ZcF (l:=13) (l':=200) rfl rfl rfl rfl) fun _=>?_;refine YO (En.freeze (l:=13) (t:=2) rfl rfl) fun _=>?_;refine Zg (results51) rfl ?_;exact OY _ _ n (war E n)))
def Zc4 (n:Nat) (p:Nat->Bool):Bool:=(List.range n).all p
theorem O4 {n k:Nat} {p:Nat->Bool} (hk:k<n) (h:p k=false):Zc4 n p=false:=V6.2 ⟨k,XQ.2 hk,by rw [h];simp⟩
theorem RY {n:Nat} {p:Nat->Bool} (h:∀j,j<n->p j=true):Zc4 n p=true:=Xj.2 fun j hj=>h j (XQ.1 hj)
def endsB (n:Nat) (E:Nat->Nat->Bool) (F:Nat->Bool) (a b:Nat):Bool:= !E a b||(F a&&Zc4 n fun x=> !F x||E x b)
def Ol (n:Nat) (E:Nat->Nat->Bool) (S:Nat->Bool) (a b:Nat):Bool:= !E b a||(S a&&Zc4 n fun x=> !S x||E b x)
def Y8 (n:Nat) (E:Nat->Nat->Bool) (S F:Nat->Bool) (a b:Nat):Bool:=endsB n E F a b&&Ol n E S a b
def GX (l:List BA) (n:Nat) (E:Nat->Nat->Bool) (S F:Nat->Bool):PV:= .sptr 0 [ZW l,Ew n E,Wq n S,Wq n F]
theorem ZmW (l : List BA) (n:Nat) (E:Nat->Nat->Bool) (S F:Nat->Bool) (a b:Nat) (hl:l.length=n) (hn:n<=1000) (ha:a<n) (hb:b<n):AF prog 63 [GX l n E S F,Zb a,Zb b] (· =Zr (Y8 n E S F a b)):=by
 have ea:=ZZ (fun i=>Wq n (E i)) ha
 have eb:=ZZ (fun i=>Wq n (E i)) hb
 have eab:=ZZ (fun j=>Zr (E a j)) hb
 have eba:=ZZ (fun j=>Zr (E b j)) ha
 have fa:=ZZ (fun j=>Zr (F j)) ha
 have sa:=ZZ (fun j=>Zr (S j)) ha
 refine AF.b3 103 func63 rfl ntmps63 (Xa rfl) ?_
 rintro w0 M0 v0 _ _-rfl rfl
 dsimp only [GX]
 refine YG ?_
 refine xL 9 Za (xL 10 Kp (xL 11 (Yn KY) ?_));refine yU (Zu Yl) fun v12=>?_;refine xL 13 Za (xL 14 (Ze Z') ?_);refine yU (Zu Zx) fun v15=>?_;refine xL 16 Za (xL 17 (Ze ZI) ?_);refine yV (Zu ZT) ?_;refine Zw ?_
 refine Ja (fun x:{x:Unit//endsB n E F a b=true}=>⟨[(0,v0,GX l n E S F),(1, .int .i64 a,Zb a),(2, .int .i64 b,Zb b)],[]⟩) ?_ ?_
 . refine cX ?_ ?_ <;>intro hb18
   . (
 refine Zi ?_;refine xL 19 Za (xL 20 Kp (xL 21 (Yn TS) ?_));refine yU (Zu Zx) fun v22=>?_;refine xL 23 Za (xL 24 (Ze ZI) ?_);refine yV (Zu ZT) ?_;refine Wl ?_ ?_<;>intro hb26
 . (
 refine ZD ?_;refine Zg (results63) rfl ?_;rw [show Y8 n E S F a b=false by unfold Y8 endsB;rw [hb18,show F a=false by simpa using hb26];simp])
 . (
 refine Zi ?_;refine xL 27 Za (xL 28 Kp (xL 29 (Yn Jl) ?_));refine yU (Zu ZF) fun v30=>?_;refine xL 31 (Zs Zm) (xL 32 Za ?_);refine Zw ?_;refine Y9 (ι:={k:Nat//k<=n/\∀j,j<k->(!F j||E j b)=true}) (fun k=>⟨[(0,_,_),(1,_,_),(2,_,_),(31,_,_),(32, .int .i64 k.1,Zb k.1)],[]⟩) (fun k=>n-k.1) ⟨0,oM,oM⟩ (fun a w H=>H.weaken sB trivial) ?_;rintro ⟨k,hk,hp⟩;dsimp only;refine Yy ?_ ?_<;>intro hb33
 . (
 have hlt:k<n:=oM;have fk:=ZZ (fun j=>Zr (F j)) hlt;have ek:=ZZ (fun i=>Wq n (E i)) hlt;have ekb:=ZZ (fun j=>Zr (E k j)) hb;refine Jx ?_;(refine xL 35 Za (xL 36 Kp (xL 37 (Yn TS) ?_))<;>refine yU (Zu Zx) fun v38=>?_<;>refine xL 39 Za (xL 40 (Ze ZI) ?_)<;>refine yV (Zu ZT) ?_<;>refine ZN ?_<;>(refine bL 42 (fun hb42=>?_) (fun hb42=>?_)<;>refine kZ ?_)<;>(first|refine kL ?_|refine xM Kp ?_)<;>(first|refine kL ?_|refine xM (Yn KY) ?_)<;>(first|refine kL ?_|refine yU (Zu Yl) fun v46=>?_)<;>refine kZ ?_<;>(first|refine kL ?_|refine xM (Ze Z') ?_)<;>(first|refine kL ?_|refine yU (Zu Zx) fun v49=>?_)<;>refine kZ ?_<;>(first|refine kL ?_|refine xM (Ze ZI) ?_)<;>(first|refine kL ?_|refine yV (Zu ZT) ?_)<;>refine kZ ?_<;>refine ZN ?_<;>refine Zw ?_)<;>(
 refine cX ?_ ?_<;>intro hb54
 . first|exact bN hb54|(
 refine ZD ?_;refine Zg (results63) rfl ?_;rw [show Y8 n E S F a b=false by unfold Y8 endsB;rw [hb18,O4 hlt (by rw [hb42,show E k b=false by simpa using hb54];rfl)];simp])
 . (
 refine ZU ?_;refine Zf (
  ⟨k +1,oM,fun j hj=>by
   by_cases e:j=k
   . subst e
     first|(rw [hb42];simpa using hb54)|(rw [hb42];rfl)
   . exact hp j oM⟩
  ) (by dsimp only;omega) sB trivial)))
 . (
 refine nav ?_;refine YF ⟨(),?_⟩ sB trivial
 first
  |(unfold endsB;rw [hb18,show F a=true by simpa using hb26,RY fun j hj=>hp j oM];rfl)
  |(unfold endsB;rw [hb18];rfl))))
   . (
 refine nav ?_;refine YF ⟨(),?_⟩ sB trivial
 first
  |(unfold endsB;rw [hb18,show F a=true by simpa using hb26,RY fun j hj=>hp j oM];rfl)
  |(unfold endsB;rw [hb18];rfl))
 . rintro ⟨_, hends⟩;dsimp only [GX];refine Zi ?_;refine xL 56 Za (xL 57 Kp (xL 58 (Yn KY) ?_));refine yU (Zu Yl) fun v59=>?_;refine xL 60 Za (xL 61 (Ze Z') ?_);refine yU (Zu Zx) fun v62=>?_;refine xL 63 Za (xL 64 (Ze ZI) ?_);refine yV (Zu ZT) ?_;refine ZE ?_ ?_<;>intro hb65
   . (
 refine Zi ?_;refine xL 66 Za (xL 67 Kp (xL 68 (Yn TR) ?_));refine yU (Zu Zx) fun v69=>?_;refine xL 70 Za (xL 71 (Ze ZI) ?_);refine yV (Zu ZT) ?_;refine Wl ?_ ?_<;>intro hb73
 . (
 refine ZD ?_;refine Zg (results63) rfl ?_;rw [show Y8 n E S F a b=false by unfold Y8 Ol;rw [hb65,show S a=false by simpa using hb73];simp])
 . (
 refine Zi ?_;refine xL 74 Za (xL 75 Kp (xL 76 (Yn Jl) ?_));refine yU (Zu ZF) fun v77=>?_;refine xL 78 (Zs Zm) (xL 79 Za ?_);refine Zw ?_;refine Y9 (ι:={k:Nat//k<=n/\∀j,j<k->(!S j||E b j)=true}) (fun k=>⟨[(0,_,_),(1,_,_),(2,_,_),(78,_,_),(79, .int .i64 k.1,Zb k.1)],[]⟩) (fun k=>n-k.1) ⟨0,oM,oM⟩ (fun a w H=>H.weaken sB trivial) ?_;rintro ⟨k,hk,hp⟩;dsimp only;refine Yy ?_ ?_<;>intro hb80
 . (
 have hlt:k<n:=oM;have fk:=ZZ (fun j=>Zr (S j)) hlt;have ekb:=ZZ (fun j=>Zr (E b j)) hlt;refine Jx ?_;(refine xL 82 Za (xL 83 Kp (xL 84 (Yn TR) ?_))<;>refine yU (Zu Zx) fun v85=>?_<;>refine xL 86 Za (xL 87 (Ze ZI) ?_)<;>refine yV (Zu ZT) ?_<;>refine ZN ?_<;>(refine bL 89 (fun hb89=>?_) (fun hb89=>?_)<;>refine kZ ?_)<;>(first|refine kL ?_|refine xM Kp ?_)<;>(first|refine kL ?_|refine xM (Yn KY) ?_)<;>(first|refine kL ?_|refine yU (Zu Yl) fun v93=>?_)<;>refine kZ ?_<;>(first|refine kL ?_|refine xM (Ze Z') ?_)<;>(first|refine kL ?_|refine yU (Zu Zx) fun v96=>?_)<;>refine kZ ?_<;>(first|refine kL ?_|refine xM (Ze ZI) ?_)<;>(first|refine kL ?_|refine yV (Zu ZT) ?_)<;>refine kZ ?_<;>refine ZN ?_<;>refine Zw ?_)<;>(
 refine cX ?_ ?_<;>intro hb101
 . first|exact bN hb101|(
 refine ZD ?_;refine Zg (results63) rfl ?_;rw [show Y8 n E S F a b=false by unfold Y8 Ol;rw [hb65,O4 hlt (by rw [hb89,show E b k=false by simpa using hb101];rfl)];simp])
 . (
 refine ZU ?_;refine Zf (
  ⟨k +1,oM,fun j hj=>by
   by_cases e:j=k
   . subst e
     first|(rw [hb89];simpa using hb101)|(rw [hb89];rfl)
   . exact hp j oM⟩
  ) (by dsimp only;omega) sB trivial)))
 . (
 refine ZD ?_;refine Zg (results63) rfl ?_
 first
  |rw [show Y8 n E S F a b=true by unfold Y8 Ol;rw [hends,hb65,show S a=true by simpa using hb73,RY fun j hj=>hp j oM];rfl]
  |rw [show Y8 n E S F a b=true by unfold Y8 Ol;rw [hends,hb65];rfl])))
   . (
 refine ZD ?_;refine Zg (results63) rfl ?_
 first
  |rw [show Y8 n E S F a b=true by unfold Y8 Ol;rw [hends,hb65,show S a=true by simpa using hb73,RY fun j hj=>hp j oM];rfl]
  |rw [show Y8 n E S F a b=true by unfold Y8 Ol;rw [hends,hb65];rfl])
def ζ1 (g:Dfg) (p:PV):Prop:=p=if JE g then .tup [Zpl g,Zb 0] else .tup [.val (.pointer none),Zb 1]
theorem ZeV (g:Dfg) (hf:Zpi g) (ha:g.acts.length<=1000000) (hs:g.starts.length<=1000000) (he:g.ends.length<=1000000):AF prog 46 [Jb g] (ζ1 g):=by
 refine AF.b1 9 func46 rfl ntmps46 (Xa rfl) fun w0 M0 v0 _=>?_
 refine Zi ?_
 refine Yi 1 4 fun h1=>?_;refine J9 ?_
 refine yU (Zn 1 Yu) fun v4=>?_;refine cV (cA call103 (ZmR g hf ha hs he)) ?_;refine Wl ?_ ?_<;>intro hb6
 . (
 refine ZU ?_;refine Y7 (results46) rfl rfl ?_;unfold ζ1;rw [show JE g=false by simpa using hb6];rfl)
 . (
 refine Zi ?_;refine yU (Zn 1 Yu) fun v7=>?_;refine cU (cA call104 (ZrT g (by simpa using hb6) hf.2.2.2.1 hf.2.1.1 hf.2.2.1.1)) fun v8=>?_;refine KI ?_;refine Y7 (results46) rfl rfl ?_;unfold ζ1;rw [show JE g=true by simpa using hb6];rfl)
theorem ZgH (l:List Cnt) (hl0:l.length<=1000000):AF prog 187 [K9 l] (· =ZW (cnames l)):=by
 refine AF.b1 20 func187 rfl ntmps187 (Xa rfl) fun w0 M0 v0 _=>?_
 refine YG ?_;refine KA ?_
 refine Zq (YS 200 9 1 rfl) fun _=>?_
 refine Yq (ι:={x:Nat×Value//x.1<=l.length}) (fun k=>⟨[(0,_,_),(3,k.1.2, .val k.1.2),(4, .int .i64 k.1.1,Zb k.1.1)],[(200,k.1.2, .own 9 1 k.1.1 ((cnames (l.take k.1.1)).map Zv))]⟩) (fun k=>l.length-k.1.1) ⟨(0, .slice none 0 0),oM⟩ ?_
 rintro ⟨⟨k,h3⟩,hk⟩
 dsimp only
 dsimp only at hk
 refine Zi ?_
 refine xL 5 Za (xL 6 Za (xL 7 (Zs YB) (xL 8 Yj ?_)));refine ZE ?_ ?_<;>intro hb8
 . (
 obtain ⟨x,hx⟩:=gS l k;have e1:(l.flatMap G7)[k*2+0]? =some (Zv x.name):=Yx YL hx dC;(have e3:((cnames (l.take k)).map Zv).length=k:=by simp [cnames];omega);refine Zi ?_;refine xL 11 Za (xL 12 Za (xL 13 Za (xL 14 (Ze YB) (xL 15 (Yn WM) ?_))));refine yV (Zu ZB) ?_;refine WC (kk:=1) 17 YV fun h17 ho17=>?_;refine Wc 200 17 18 YV fun h18 ho18=>?_;refine K5 ?_;refine ZK (ZM (l:=18) 200 rfl rfl) fun _=>?_;rw [show (cnames (l.take k)).map Zv++[Zv x.name]=(cnames (l.take (k+1))).map Zv by rw [TQ hx,XW];rfl];refine Yr (
  ⟨(k+1,h18),by show k+1<=l.length;omega⟩
  ))
 . (
 refine ZU ?_;refine YO (En.freeze (l:=200) (t:=2) rfl rfl) fun _=>?_;refine Zg (results187) rfl ?_;obtain rfl:k=l.length:=oM;rw [Xx,JW];unfold ZW cnames;rw [Xc])
theorem Zic {l:List BA} {s:BA} (h:idx (fun x=>W4 x s) l<0):hasStr l s=false:=by
 have:=Tt (fun x=>W4 x s) l
 unfold hasStr;rw [<-this];exact Qa oM
theorem Zid {l:List BA} {s:BA} (h:¬idx (fun x=>W4 x s) l<0):hasStr l s=true:=by
 have:=Tt (fun x=>W4 x s) l
 unfold hasStr;rw [<-this];exact U' oM
theorem Cj {l:List BA} {s:BA} (h:s∈l):hasStr l s=true:=by unfold hasStr;rw [X2];exact ⟨s,h,Y'.2 rfl⟩
end Go.Proofs.YtmkojdfiadbeeaaGreat
namespace Go.Cb
open Go.En
structure Grows (n:Nat) (E R:Nat->Nat->Bool):Prop where
 lo:∀i j,i<n->j<n->E i j=true->R i j=true
 hi:∀T,Closed n E T->∀i j,i<n->j<n->R i j=true->T i j=true
theorem Grows.init (n:Nat) (E:Nat->Nat->Bool):Grows n E E:=⟨fun _ _ _ _ h=>h,fun T hT i j hi hj h=>hT.1 i j hi hj h⟩
def ZeW (R:Nat->Nat->Bool) (a c:Nat):Nat->Nat->Bool:=fun i=>if i=a then (fun j=>if j=c then true else R a j) else R i
theorem CY (R:Nat->Nat->Bool) (a c i j:Nat):ZeW R a c i j=(if i=a/\j=c then true else R i j):=by
 unfold ZeW
 by_cases h:i=a
 . subst h;rw [Qc rfl];by_cases h2:j=c
   . rw [Qc h2,Qc ⟨rfl,h2⟩]
   . rw [Qb h2,Qb (fun h=>h2 h.2)]
 . rw [Qb h,Qb (fun h'=>h h'.1)]
theorem Grows.set {n:Nat} {E R:Nat->Nat->Bool} (h:Grows n E R) {a b c:Nat} (ha:a<n) (hb:b<n) (hc:c<n) (h1:R a b=true) (h2:R b c=true):Grows n E (ZeW R a c):=by
 refine ⟨fun i j hi hj he=>?_,fun T hT i j hi hj hs=>?_⟩
 . rw [CY];split
   . rfl
   . exact h.lo i j hi hj he
 . rw [CY] at hs;split at hs
   . rename_i hx;rw [hx.1,hx.2];exact hT.2 a b c ha hb hc (h.hi T hT a b ha hb h1) (h.hi T hT b c hb hc h2)
   . exact h.hi T hT i j hi hj hs
def Before (a b c a' b' c':Nat):Prop:=a'<a\/(a'=a/\(b'<b\/(b'=b/\c'<c)))
structure Pass (n:Nat) (E R0 R:Nat->Nat->Bool) (ag:Bool) (a b c:Nat):Prop where
 gr:Grows n E R
 dn:ag=true->cntM n R<cntM n R0
 st:ag=false->R=R0/\∀a' b' c',a'<n->b'<n->c'<n->Before a b c a' b' c'->R0 a' b'=true->R0 b' c'=true->R0 a' c'=true
theorem Pass.start {n:Nat} {E R0:Nat->Nat->Bool} (h:Grows n E R0):Pass n E R0 R0 false 0 0 0:=⟨h,sM,fun _=>⟨rfl,fun a' b' c' _ _ _ hB=>by unfold Before at hB;omega⟩⟩
theorem Pass.to {n:Nat} {E R0 R:Nat->Nat->Bool} {ag:Bool} {a b c a1 b1 c1:Nat} (h:Pass n E R0 R ag a b c) (hB:∀a' b' c',a'<n->b'<n->c'<n->Before a1 b1 c1 a' b' c'->Before a b c a' b' c'\/(ag=false->R0 a' b'=true->R0 b' c'=true->R0 a' c'=true)):Pass n E R0 R ag a1 b1 c1:=
 ⟨h.gr,h.dn,fun hg=>⟨(h.st hg).1,fun a' b' c' h1 h2 h3 h4=>by
  rcases hB a' b' c' h1 h2 h3 h4 with h5|h5
  . exact (h.st hg).2 a' b' c' h1 h2 h3 h5
  . exact h5 hg⟩⟩
theorem Pass.skip {n:Nat} {E R0 R:Nat->Nat->Bool} {ag:Bool} {a b c:Nat} (h:Pass n E R0 R ag a b c) (hx:R a b=true->R b c=true->R a c=true):Pass n E R0 R ag a b (c+1):=
 h.to fun a' b' c' _ _ _ hB=>by
  by_cases e:a'=a/\b'=b/\c'=c
  . obtain ⟨rfl,rfl,rfl⟩:=e;exact .inr fun hg=>by rw [<-(h.st hg).1];exact hx
  . exact .inl (by unfold Before at hB ⊢;omega)
theorem Pass.mark {n:Nat} {E R0 R:Nat->Nat->Bool} {ag:Bool} {a b c:Nat} (h:Pass n E R0 R ag a b c) (ha:a<n) (hb:b<n) (hc:c<n) (h1:R a b=true) (h2:R b c=true) (h3:R a c=false):Pass n E R0 (ZeW R a c) true a b (c+1):=by
 refine ⟨h.gr.set ha hb hc h1 h2,fun _=>?_,sM⟩
 have hs:cntM n (ZeW R a c)+1=cntM n R:=ZmU ha hc h3
 cases hg:ag with
 |true=>have:=h.dn hg;omega
 |false=>rw [<-(h.st hg).1];omega
theorem Pass.row {n:Nat} {E R0 R:Nat->Nat->Bool} {ag:Bool} {a b c:Nat} (h:Pass n E R0 R ag a b c) (hc:n<=c):Pass n E R0 R ag a (b+1) 0:=h.to fun a' b' c' _ _ _ hB=> .inl (by unfold Before at hB ⊢;omega)
theorem Pass.plane {n:Nat} {E R0 R:Nat->Nat->Bool} {ag:Bool} {a b c:Nat} (h:Pass n E R0 R ag a b c) (hc:n<=b):Pass n E R0 R ag (a+1) 0 0:=h.to fun a' b' c' _ _ _ hB=> .inl (by unfold Before at hB ⊢;omega)
theorem Pass.closed {n:Nat} {E R0 R:Nat->Nat->Bool} {a b c:Nat} (h:Pass n E R0 R false a b c) (ha:n<=a):Closed n E R:=by
 obtain ⟨h1,h2⟩:=h.st rfl
 refine ⟨h.gr.lo,fun i j k hi hj hk ha' hb'=>?_⟩
 rw [h1] at ha' hb' ⊢
 exact h2 i j k hi hj hk (by unfold Before;omega) ha' hb'
theorem Pass.less {n:Nat} {E R0 R:Nat->Nat->Bool} {ag:Bool} {a b c:Nat} (h:Pass n E R0 R ag a b c):cntM n R+(if ag then 1 else 0)<cntM n R0+1:=by
 cases hg:ag with
 |true=>have:=h.dn hg;simp;omega
 |false=>rw [(h.st hg).1];simp
theorem ZeX {n:Nat} {E R:Nat->Nat->Bool} (h:Grows n E R) (hc:Closed n E R):Ew n R=Ew n (ZV n E):=by
 show PV.sl _ _=PV.sl _ _
 congr 1
 refine Yk fun i hi=>?_
 show PV.sl _ _=PV.sl _ _
 congr 1
 refine Yk fun j hj=>?_
 rw [ZmT hc h.hi i j hi hj]
theorem Zie {e n a c:Nat} {R:Nat->Nat->Bool}:(vec n fun i=>PV.own e 1 n (vec n fun j=>Zr (R i j))).set a (.own e 1 n ((vec n fun j=>Zr (R a j)).set (c*1) (Zr true)))=vec n fun i=>PV.own e 1 n (vec n fun j=>Zr (ZeW R a c i j)):=by
 rw [XI,G1,G1]
 refine Yk fun i hi=>?_
 by_cases h:i=a
 . subst h;rw [Qc rfl];congr 1;refine Yk fun j hj=>?_;rw [CY];by_cases h2:j=c
   . rw [Qc h2,Qc ⟨rfl,h2⟩]
   . rw [Qb h2,Qb (fun h=>h2 h.2)]
 . rw [Qb h];congr 1;refine Yk fun j hj=>?_;rw [CY,Qb (fun h'=>h h'.1)]
end Go.Cb
namespace Go.Proofs.YtmkojdfiadbeeaaGreat
open Go.RowKit Go.Cb Go.En Tryz
theorem YX:AggT prog 259 5=true:=kR
theorem Wy:FldT prog 259 0 0=true:=kR
theorem Km:FldT prog 259 1 1=true:=kR
theorem Kx:FldT prog 259 2 2=true:=kR
theorem Kn:FldT prog 259 3 3=true:=kR
theorem W3:FldT prog 259 4 4=true:=kR
theorem O5:(prog.info? 93).map (·.size)=some 1:=kR
theorem DD:ZeroT prog 259 (.agg #[(.slice none 0 0),(.slice none 0 0),(.slice none 0 0),(.slice none 0 0),(.slice none 0 0)]):=by unfold ZeroT;kernel_rfl
def Jm (l:List BA) (n:Nat) (E R:Nat->Nat->Bool) (S F:Nat->Bool):List PV:=[ZW l,Ew n E,Ew n R,Wq n S,Wq n F]
theorem O6 (l:List BA) (s:BA) (h:hasStr l s=true):AF prog 236 [ZW l,Zv s] (· =Zb (ixN l s:Nat)):=(ζl l s).mono fun p hp=>by rw [hp,(SI h).1]
theorem ZeY {α:Type} {k:Nat} {f:Nat->α} {x:α}:(vec k f++[x])[k]? =some x:=by
 rw [Vq (by rw [Wx];exact Xd _),Wx,Vl];rfl
theorem ZbO {α:Type} {k:Nat} {f:Nat->α} {x:α}:(vec k f++[x]).set k (f k)=vec (k+1) f:=by
 rw [Vr _ _ (by rw [Wx];exact Xd _),Wx,Vl,ZeO];rfl
theorem ZrU (g : Dfg) (hg : JE g = true) (hfl:g.follows.length<=140737488355328) (hsl:g.starts.length<=140737488355328) (hel:g.ends.length<=140737488355328):AF prog 229 [Jb g] (· = .agg (Jm (cnames g.acts) g.acts.length (W0 (cnames g.acts) g.follows) (ZV g.acts.length (W0 (cnames g.acts) g.follows)) (Y5 (cnames g.acts) g.starts) (Y5 (cnames g.acts) g.ends))):=by
 obtain ⟨hn40,hst,hen,hfo⟩:=O1 hg
 have hna:(cnames g.acts).length=g.acts.length:=by simp [cnames]
 refine AF.b1 192 func229 rfl ntmps229 (Xa rfl) fun w0 M0 v0 _=>?_
 refine Zi ?_
 refine Yi 1 4 fun h1=>?_;refine Zt [(.slice none 0 0),(.slice none 0 0),(.slice none 0 0),(.slice none 0 0),(.slice none 0 0)] 5 2 DD fun h2=>?_;refine Ym ?_
 refine Zt [(.slice none 0 0),(.slice none 0 0),(.slice none 0 0),(.slice none 0 0),(.slice none 0 0)] 5 3 DD fun h3=>?_;refine Ym ?_;refine ZP ?_
 refine Zq (YS 200 9 1 rfl) fun _=>?_
 refine Yq (ι:={x:Nat×Value//x.1<=g.acts.length}) (fun k=>⟨[(1,_,_),(2,_,_),(3,_,_),(4, .int .i64 k.1.1,Zb k.1.1)],[(1,_,_),(2,_,_),(3,h3, .own 259 5 1 [.val k.1.2, .val (.slice none 0 0), .val (.slice none 0 0), .val (.slice none 0 0), .val (.slice none 0 0)]),(200,k.1.2, .own 9 1 k.1.1 ((cnames (g.acts.take k.1.1)).map Zv))]⟩) (fun k=>g.acts.length-k.1.1) ⟨(0, .slice none 0 0),oM⟩ ?_
 rintro ⟨⟨k,h33⟩,hk⟩
 dsimp only
 dsimp only at hk
 refine Zi ?_
 refine xL 16 Za (xL 17 (Zc 1 KE) ?_);refine yU (Zh 1 YM) fun v18=>?_;refine xL 19 (Zs YB) (xL 20 Yj ?_);refine ZE ?_ ?_<;>intro hb20
 . (
 obtain ⟨x,hx⟩:=gS g.acts k;have e1:(g.acts.flatMap G7)[k*2+0]? =some (Zv x.name):=Yx YL hx dC;(have e3:((cnames (g.acts.take k)).map Zv).length=k:=by simp [cnames];omega);refine nav ?_;(refine YJ [11] [1,3] ?_<;>refine xD 0 rfl (Zc 3 Wy) ?_<;>(refine yD 1 rfl (Zh 3 ZF) fun v24 h=>?_;cases h)<;>refine xD 2 rfl (Zc 1 KE) ?_<;>(refine yD 3 rfl (Zh 1 YM) fun v26 h=>?_;cases h)<;>refine xE 4 rfl Za ?_<;>refine xE 5 rfl (Ze YB) ?_<;>refine xE 6 rfl (Yn WM) ?_<;>(refine yE 7 rfl (Zu ZB) fun v30 h=>?_;cases h)<;>(refine aDr 8 fun bk=>?_)<;>refine WC (kk:=1) 31 YV fun h31 ho31=>?_<;>refine bE bk ?_<;>(refine aDr 9 fun bk=>?_)<;>refine Wc 200 31 32 YV fun h32 ho32=>?_<;>refine bE bk ?_<;>refine xE 10 rfl (Zc 3 Wy) ?_<;>(refine ZY 11 kR ?_)<;>(refine Ww rfl rfl kR fun DQ bk=>?_)<;>refine JX 3 ZF OZ ?_<;>refine WA (bk _ (nav ?_))<;>try dsimp only)
 refine GP ?_;refine ZK (ZM (l:=32) 200 rfl rfl) fun _=>?_;rw [show (cnames (g.acts.take k)).map Zv++[Zv x.name]=(cnames (g.acts.take (k+1))).map Zv by rw [TQ hx,XW];rfl];refine Yr (
  ⟨(k+1,h32),by show k+1<=g.acts.length;omega⟩
  ))
 . (
 refine nav ?_;rw [show k=g.acts.length by omega,Xx];refine Zo ?_;refine xM (Zc 3 Wy) ?_;refine yV (Zh 3 ZF) ?_;refine xL 36 (WB 200 Zm) (xL 5 ZJ ?_);refine Zw ?_;refine Ja (fun x:Value×Value=>⟨[(1,padd (sbase h1) 0, .val (padd (sbase h1) 0)),(2,padd (sbase h2) 0, .val (padd (sbase h2) 0)),(3,padd (sbase h3) 0, .val (padd (sbase h3) 0)),(5, .int .i64 g.acts.length,Zb g.acts.length)],[(1,h1, .own 34 4 1 [K9 g.acts,K9 g.starts,K9 g.ends,Hh g.follows]),(2,h2, .own 259 5 1 [.val (.slice none 0 0), .val (.slice none 0 0), .val (.slice none 0 0), .val (.slice none 0 0), .val (.slice none 0 0)]),(3,h3, .own 259 5 1 [.val h33, .val (.slice none 0 0), .val (.slice none 0 0), .val x.1, .val x.2]),(200,h33, .own 9 1 g.acts.length ((cnames g.acts).map Zv)),(38,x.1, .own 4 1 g.acts.length (List.replicate g.acts.length (.val (.bool false)))),(40,x.2, .own 4 1 g.acts.length (List.replicate g.acts.length (.val (.bool false))))]⟩) ?_ ?_
 . (refine YJ [] [] ?_<;>refine xD 0 rfl Za ?_<;>refine xD 2 rfl Za ?_<;>(refine WI 1 3 kR ?_ ?_;rotate_right;(focus ((refine aWr fun bk=>?_)<;>refine Kz 40 Ws fun h40 ho40=>?_<;>refine bE bk ?_<;>(refine aDr 1 fun bk=>?_)<;>refine Kz 38 Ws fun h38 ho38=>?_<;>refine bE bk ?_<;>(refine aDr 4 fun bk=>?_)<;>refine xM (Zc 3 Kn) ?_<;>refine bE bk ?_<;>(refine aDr 5 fun bk=>?_)<;>refine JX 3 Zx GF ?_<;>refine bE bk ?_<;>(refine aDr 6 fun bk=>?_)<;>refine xM (Zc 3 W3) ?_<;>refine bE bk ?_<;>(refine aDr 7 fun bk=>?_)<;>refine JX 3 Zx GF ?_<;>refine bE bk ?_));rotate_right;(focus ((refine aWr fun bk=>?_)<;>refine Kz 38 Ws fun h38 ho38=>?_<;>refine bE bk ?_<;>(refine WI 3 4 kR ?_ ?_;rotate_right;(focus ((refine aWr fun bk=>?_)<;>refine xM (Zc 3 Kn) ?_<;>refine bE bk ?_<;>(refine WI 3 5 kR ?_ ?_;rotate_right;(focus ((refine aWr fun bk=>?_)<;>refine JX 3 Zx GF ?_<;>refine bE bk ?_<;>(refine aDr 3 fun bk=>?_)<;>refine Kz 40 Ws fun h40 ho40=>?_<;>refine bE bk ?_<;>(refine aDr 6 fun bk=>?_)<;>refine xM (Zc 3 W3) ?_<;>refine bE bk ?_<;>(refine aDr 7 fun bk=>?_)<;>refine JX 3 Zx GF ?_<;>refine bE bk ?_));rotate_right;(focus ((refine aWr fun bk=>?_)<;>refine Kz 40 Ws fun h40 ho40=>?_<;>refine bE bk ?_<;>(refine aDr 5 fun bk=>?_)<;>refine JX 3 Zx GF ?_<;>refine bE bk ?_<;>(refine aDr 6 fun bk=>?_)<;>refine xM (Zc 3 W3) ?_<;>refine bE bk ?_<;>(refine aDr 7 fun bk=>?_)<;>refine JX 3 Zx GF ?_<;>refine bE bk ?_)))));rotate_right;(focus ((refine aWr fun bk=>?_)<;>refine Kz 40 Ws fun h40 ho40=>?_<;>refine bE bk ?_<;>(refine aDr 4 fun bk=>?_)<;>refine xM (Zc 3 Kn) ?_<;>refine bE bk ?_<;>(refine aDr 5 fun bk=>?_)<;>refine JX 3 Zx GF ?_<;>refine bE bk ?_<;>(refine aDr 6 fun bk=>?_)<;>refine xM (Zc 3 W3) ?_<;>refine bE bk ?_<;>(refine aDr 7 fun bk=>?_)<;>refine JX 3 Zx GF ?_<;>refine bE bk ?_))))))<;>refine WE ?_)<;>(
 exact YF (h38,h40) sB sB)
 . rintro ⟨h38, h40⟩;dsimp only;refine Zq (YD (l:=3) (l':=200) (j:=0) rfl rfl rfl rfl) fun _=>?_;rw [JW,<-hna];rw [show (PV.sl (cnames g.acts).length ((cnames g.acts).map Zv))=ZW (cnames g.acts) from rfl];rw [hna];rw [show List.replicate g.acts.length (PV.val (.bool false))=vec g.acts.length (fun i=>Zr (Y5 (cnames g.acts) [] i)) from Lm _ _];refine ZD ?_;refine Yq (ι:={k:Nat//k<=g.starts.length}) (fun k=>⟨[(1,_,_),(2,_,_),(3,_,_),(5,_,_),(6, .int .i64 k.1,Zb k.1)],[(1,_,_),(2,_,_),(3,_,_),(40,_,_),(38,h38,YP 4 g.acts.length (Y5 (cnames g.acts) (g.starts.take k.1)))]⟩) (fun k=>g.starts.length-k.1) ⟨0,oM⟩ ?_;rintro ⟨k,hk⟩;dsimp only;refine Zi ?_;refine xL 43 Za (xL 44 (Zc 1 Gp) ?_);refine yU (Zh 1 YM) fun v45=>?_;refine xL 46 (Zs YB) (xL 47 Yj ?_);refine ZE ?_ ?_<;>intro hb47
   . (
 obtain ⟨x,hx⟩:=gS g.starts k;have e1:(g.starts.flatMap G7)[k*2+0]? =some (Zv x.name):=Yx YL hx dC;have hxa:=hst x (Xb hx);have ha:=(SI hxa).2;rw [hna] at ha;have e5:=Wx g.acts.length (fun j=>Zr (Y5 (cnames g.acts) (g.starts.take k) j));refine nav ?_;(refine YJ [12] [1,3,38] ?_<;>refine xD 0 rfl (Zc 3 Kn) ?_<;>(refine yD 1 rfl (Zh 3 Zx) fun v51 h=>?_;cases h)<;>refine xD 2 rfl (Zc 3 Wy) ?_<;>(refine yD 3 rfl (Zh 3 ZF) fun v53 h=>?_;cases h)<;>refine xD 4 rfl (Zc 1 Gp) ?_<;>(refine yD 5 rfl (Zh 1 YM) fun v55 h=>?_;cases h)<;>refine xE 6 rfl Za ?_<;>refine xE 7 rfl (Ze YB) ?_<;>refine xE 8 rfl (Yn WM) ?_<;>(refine yE 9 rfl (Zu ZB) fun v59 h=>?_;cases h)<;>(refine ZY 10 kR ?_)<;>(refine Yo (d:=60) rfl (cA call236 (O6 (cnames g.acts) x.name hxa)) fun v60 h=>?_;cases h)<;>refine xE 11 rfl (Zj 38 ZI) ?_<;>(refine ZY 12 kR ?_)<;>(refine Ww rfl rfl kR fun DQ bk=>?_)<;>refine JX 38 ZT Gq ?_<;>refine WA (bk _ (nav ?_))<;>try dsimp only)
 refine GP ?_;rw [SJ (f':=Y5 (cnames g.acts) (g.starts.take (k+1))) fun i _=>O0 hx i];refine Yr (
  ⟨k+1,oM⟩
  ))
   . (
 refine ZD ?_;rw [show k=g.starts.length by omega,Xx];refine Yq (ι:={k:Nat//k<=g.ends.length}) (fun k=>⟨[(1,_,_),(2,_,_),(3,_,_),(5,_,_),(7, .int .i64 k.1,Zb k.1)],[(1,_,_),(2,_,_),(3,_,_),(38,_,_),(40,h40,YP 4 g.acts.length (Y5 (cnames g.acts) (g.ends.take k.1)))]⟩) (fun k=>g.ends.length-k.1) ⟨0,oM⟩ ?_;rintro ⟨k,hk⟩;dsimp only;refine Zi ?_;refine xL 62 Za (xL 63 (Zc 1 Jj) ?_);refine yU (Zh 1 YM) fun v64=>?_;refine xL 65 (Zs YB) (xL 66 Yj ?_);refine ZE ?_ ?_<;>intro hb66
 . (
 obtain ⟨x,hx⟩:=gS g.ends k;have e1:(g.ends.flatMap G7)[k*2+0]? =some (Zv x.name):=Yx YL hx dC;have hxa:=hen x (Xb hx);have ha:=(SI hxa).2;rw [hna] at ha;have e5:=Wx g.acts.length (fun j=>Zr (Y5 (cnames g.acts) (g.ends.take k) j));refine nav ?_;(refine YJ [12] [1,3,40] ?_<;>refine xD 0 rfl (Zc 3 W3) ?_<;>(refine yD 1 rfl (Zh 3 Zx) fun v70 h=>?_;cases h)<;>refine xD 2 rfl (Zc 3 Wy) ?_<;>(refine yD 3 rfl (Zh 3 ZF) fun v72 h=>?_;cases h)<;>refine xD 4 rfl (Zc 1 Jj) ?_<;>(refine yD 5 rfl (Zh 1 YM) fun v74 h=>?_;cases h)<;>refine xE 6 rfl Za ?_<;>refine xE 7 rfl (Ze YB) ?_<;>refine xE 8 rfl (Yn WM) ?_<;>(refine yE 9 rfl (Zu ZB) fun v78 h=>?_;cases h)<;>(refine ZY 10 kR ?_)<;>(refine Yo (d:=79) rfl (cA call236 (O6 (cnames g.acts) x.name hxa)) fun v79 h=>?_;cases h)<;>refine xE 11 rfl (Zj 40 ZI) ?_<;>(refine ZY 12 kR ?_)<;>(refine Ww rfl rfl kR fun DQ bk=>?_)<;>refine JX 40 ZT Gq ?_<;>refine WA (bk _ (nav ?_))<;>try dsimp only)
 refine GP ?_;rw [SJ (f':=Y5 (cnames g.acts) (g.ends.take (k+1))) fun i _=>O0 hx i];refine Yr (
  ⟨k+1,oM⟩
  ))
 . (
 refine ZD ?_;rw [show k=g.ends.length by omega,Xx];refine Zq (YS 201 92 1 rfl) fun _=>?_;refine Zq (YS 202 92 1 rfl) fun _=>?_;refine Yq (ι:={x:Nat×Value×Value//x.1<=g.acts.length}) (fun k=>⟨[(1,_,_),(2,_,_),(3,_,_),(5,_,_),(8, .int .i64 k.1.1,Zb k.1.1)],[(1,_,_),(2,_,_),(38,_,_),(40,_,_),(3,h3, .own 259 5 1 [ZW (cnames g.acts), .val k.1.2.1, .val k.1.2.2, .val h38, .val h40]),(201,k.1.2.1, .own 92 1 k.1.1 (vec k.1.1 fun _=>YP 4 g.acts.length (fun _=>false))),(202,k.1.2.2, .own 92 1 k.1.1 (vec k.1.1 fun _=>YP 4 g.acts.length (fun _=>false)))]⟩) (fun k=>g.acts.length-k.1.1) ⟨(0, .slice none 0 0, .slice none 0 0),oM⟩ ?_;rintro ⟨⟨k,ha,hb⟩,hk⟩;dsimp only;dsimp only at hk;refine WJ ?_;refine ZE ?_ ?_<;>intro hb83
 . (
 have hlt:k<g.acts.length:=oM;have e1:=Wx k (fun _=>YP 4 g.acts.length (fun _=>false));refine nav ?_;(refine YJ [7] [3] ?_<;>refine xD 0 rfl (Zc 3 Km) ?_<;>(refine yD 1 rfl (Zh 3 Yl) fun v87 h=>?_;cases h)<;>refine xE 2 rfl Za ?_<;>(refine aDr 3 fun bk=>?_)<;>refine Kz 89 Ws fun h89 ho89=>?_<;>refine bE bk ?_<;>(refine aDr 4 fun bk=>?_)<;>refine WC (kk:=1) 90 RX fun h90 ho90=>?_<;>refine bE bk ?_<;>(refine aDr 5 fun bk=>?_)<;>refine Wc 201 90 91 RX fun h91 ho91=>?_<;>refine bE bk ?_<;>refine xE 6 rfl (Zc 3 Km) ?_<;>(refine ZY 7 kR ?_)<;>(refine Ww rfl rfl kR fun DQ bk=>?_)<;>refine JX 3 Yl O5 ?_<;>refine WA (bk _ (nav ?_))<;>try dsimp only)
 (refine YJ [7] [3] ?_<;>refine xD 0 rfl (Zc 3 Kx) ?_<;>(refine yD 1 rfl (Zh 3 Yl) fun v94 h=>?_;cases h)<;>refine xE 2 rfl Za ?_<;>(refine aDr 3 fun bk=>?_)<;>refine Kz 96 Ws fun h96 ho96=>?_<;>refine bE bk ?_<;>(refine aDr 4 fun bk=>?_)<;>refine WC (kk:=1) 97 RX fun h97 ho97=>?_<;>refine bE bk ?_<;>(refine aDr 5 fun bk=>?_)<;>refine Wc 202 97 98 RX fun h98 ho98=>?_<;>refine bE bk ?_<;>refine xE 6 rfl (Zc 3 Kx) ?_<;>(refine ZY 7 kR ?_)<;>(refine Ww rfl rfl kR fun DQ bk=>?_)<;>refine JX 3 Yl O5 ?_<;>refine WA (bk _ (nav ?_))<;>try dsimp only)
 refine GP ?_;refine ZK (L9 (l:=91) (l':=89) (j:=k) rfl ZeY rfl rfl) fun _=>?_;refine ZK (L9 (l:=98) (l':=96) (j:=k) rfl ZeY rfl rfl) fun _=>?_;rw [show List.replicate g.acts.length (PV.val (.bool false))=vec g.acts.length (fun i=>Zr false) from Lm _ _];rw [ZbO (f:=fun _=>YP 4 g.acts.length (fun _=>false)),ZbO (f:=fun _=>YP 4 g.acts.length (fun _=>false))];refine ZK (ZM (l:=91) 201 rfl rfl) fun _=>?_;refine ZK (ZM (l:=98) 202 rfl rfl) fun _=>?_;refine Yr (
  ⟨(k+1,h91,h98),by show k+1<=g.acts.length;omega⟩
  ))
 . (
 refine ZD ?_;rw [show k=g.acts.length by omega];refine Zq (ZcE (l:=201) 203 rfl rfl) fun Hs=>?_;obtain ⟨Hs,hHs⟩:=Hs;rw [Wx] at hHs;dsimp only;refine Zq (ZcE (l:=202) 204 rfl rfl) fun Gs=>?_;obtain ⟨Gs,hGs⟩:=Gs;rw [Wx] at hGs;dsimp only;refine Yq (ι:={k:Nat//k<=g.follows.length}) (fun k=>⟨[(1,_,_),(2,_,_),(3,_,_),(5,_,_),(9, .int .i64 k.1,Zb k.1)],[(1,_,_),(2,_,_),(3,_,_),(38,_,_),(40,_,_),(201,_,_),(202,_,_),(203, .agg Hs.toArray, .agg (vec g.acts.length fun i=>YP 4 g.acts.length (W0 (cnames g.acts) (g.follows.take k.1) i))),(204, .agg Gs.toArray, .agg (vec g.acts.length fun i=>YP 4 g.acts.length (W0 (cnames g.acts) (g.follows.take k.1) i)))]⟩) (fun k=>g.follows.length-k.1) ⟨0,oM⟩ ?_;rintro ⟨k,hk⟩;dsimp only;refine Zi ?_;refine xL 100 Za (xL 101 (Zc 1 KF) ?_);refine yU (Zh 1 JD) fun v102=>?_;refine xL 103 (Zs WN) (xL 104 Yj ?_);refine ZE ?_ ?_<;>intro hb104
 . (
 obtain ⟨x,hx⟩:=gS g.follows k;have e1:(g.follows.flatMap Lw)[k*3+0]? =some (Zv x.src):=Yx Wg hx dC;have e2:(g.follows.flatMap Lw)[k*3+1]? =some (Zv x.dst):=Yx Wg hx dC;have hxa:=(hfo x (Xb hx)).1;have hxb:=(hfo x (Xb hx)).2;have ha:=(SI hxa).2;have hb:=(SI hxb).2;rw [hna] at ha hb;obtain ⟨ra,hra⟩:=gS Hs (ixN (cnames g.acts) x.src);obtain ⟨rb,hrb⟩:=gS Gs (ixN (cnames g.acts) x.src);have e3:=Ci hra;have e3':=Ci hrb;have e4:=O3 (e:=4) (W0 (cnames g.acts) (g.follows.take k)) ha;have e5:=Wx g.acts.length (fun j=>Zr (W0 (cnames g.acts) (g.follows.take k) (ixN (cnames g.acts) x.src) j));refine nav ?_;refine YJ [] [1,3] ?_<;>refine xD 0 rfl (Zc 3 Wy) ?_<;>(refine yD 1 rfl (Zh 3 ZF) fun v108 h=>?_;cases h)<;>refine xD 2 rfl (Zc 1 KF) ?_<;>(refine yD 3 rfl (Zh 1 JD) fun v110 h=>?_;cases h)<;>refine xD 4 rfl Za ?_<;>refine xD 5 rfl (Ze WN) ?_<;>refine xD 6 rfl (Yn Kw) ?_<;>(refine yD 7 rfl (Zu ZB) fun v114 h=>?_;cases h)<;>refine xD 9 rfl (Zc 3 Wy) ?_<;>(refine yD 10 rfl (Zh 3 ZF) fun v117 h=>?_;cases h)<;>refine xD 11 rfl (Zc 1 KF) ?_<;>(refine yD 12 rfl (Zh 1 JD) fun v119 h=>?_;cases h)<;>refine xD 13 rfl Za ?_<;>refine xD 14 rfl (Ze WN) ?_<;>refine xD 15 rfl (Yn KS) ?_<;>(refine yD 16 rfl (Zu ZB) fun v123 h=>?_;cases h)<;>(refine ZY 8 kR ?_)<;>(refine Yo (d:=115) rfl (cA call236 (O6 (cnames g.acts) x.src hxa)) fun v115 h=>?_;cases h)<;>(refine ZY 17 kR ?_)<;>(refine Yo (d:=124) rfl (cA call236 (O6 (cnames g.acts) x.dst hxb)) fun v124 h=>?_;cases h)<;>refine xE 18 rfl ZJ ?_<;>refine xE 19 rfl ZJ ?_<;>refine WE ?_;refine Zo ?_;refine xM (Zc 3 Km) ?_;refine yV (Zh 3 Yl) ?_;refine xL 127 Za (xL 128 (Zj 201 Z') ?_);refine yV (Zh 201 Zx) ?_;refine xL 130 Za (xL 131 (Sy 203 ZI) ?_);refine ZdQ 203 ZT Gq ?_;refine Ym ?_;refine xM (Zc 3 Kx) ?_;refine yV (Zh 3 Yl) ?_;refine xL 134 Za (xL 135 (Zj 202 Z') ?_);refine yV (Zh 202 Zx) ?_;refine xL 137 Za (xL 138 (Sy 204 ZI) ?_);refine ZdQ 204 ZT Gq ?_;refine Ym ?_;refine E9 ?_;rw [ZeS (e:=0) (f':=W0 (cnames g.acts) (g.follows.take (k+1))) fun i j _ _=>ZbN hx i j];refine Yr (
  ⟨k+1,oM⟩
  ))
 . (
 refine ZD ?_;rw [show k=g.follows.length by omega,Xx];refine Yq (ι:={x:(Nat->Nat->Bool)×Bool//Grows g.acts.length (W0 (cnames g.acts) g.follows) x.1/\(x.2=false->Closed g.acts.length (W0 (cnames g.acts) g.follows) x.1)}) (fun k=>⟨[(1,_,_),(2,_,_),(3,_,_),(5,_,_),(12, .bool k.1.2,Zr k.1.2)],[(1,_,_),(2,_,_),(3,_,_),(38,_,_),(40,_,_),(201,_,_),(202,_,_),(203,_,_),(204, .agg Gs.toArray, .agg (vec g.acts.length fun i=>YP 4 g.acts.length (k.1.1 i)))]⟩) (fun k=>cntM g.acts.length k.1.1+(if k.1.2 then 1 else 0)) ⟨(W0 (cnames g.acts) g.follows,true),Grows.init _ _,fun h=>Bool.noConfusion h⟩ ?_;rintro ⟨⟨R0,ag0⟩,hgr,hcl⟩;dsimp only;dsimp only at hgr hcl;refine Yy ?_ ?_<;>intro hb139
 . (
 refine JR ?_;refine Yq (ι:={x:(Nat->Nat->Bool)×Bool×Nat//x.2.2<=g.acts.length/\Pass g.acts.length (W0 (cnames g.acts) g.follows) R0 x.1 x.2.1 x.2.2 0 0}) (fun k=>⟨[(1,_,_),(2,_,_),(3,_,_),(5,_,_),(12, .bool k.1.2.1,Zr k.1.2.1),(13, .int .i64 k.1.2.2,Zb k.1.2.2)],[(1,_,_),(2,_,_),(3,_,_),(38,_,_),(40,_,_),(201,_,_),(202,_,_),(203,_,_),(204, .agg Gs.toArray, .agg (vec g.acts.length fun i=>YP 4 g.acts.length (k.1.1 i)))]⟩) (fun k=>g.acts.length-k.1.2.2) ⟨(R0,false,0),Xg _,Pass.start hgr⟩ ?_;rintro ⟨⟨R1,ag1,a⟩,ha,hp1⟩;dsimp only;dsimp only at ha hp1;refine WJ ?_;refine ZE ?_ ?_<;>intro hb142
 . (
 refine ZD ?_;refine Yq (ι:={x:(Nat->Nat->Bool)×Bool×Nat//x.2.2<=g.acts.length/\Pass g.acts.length (W0 (cnames g.acts) g.follows) R0 x.1 x.2.1 a x.2.2 0}) (fun k=>⟨[(1,_,_),(2,_,_),(3,_,_),(5,_,_),(13,_,_),(12, .bool k.1.2.1,Zr k.1.2.1),(14, .int .i64 k.1.2.2,Zb k.1.2.2)],[(1,_,_),(2,_,_),(3,_,_),(38,_,_),(40,_,_),(201,_,_),(202,_,_),(203,_,_),(204, .agg Gs.toArray, .agg (vec g.acts.length fun i=>YP 4 g.acts.length (k.1.1 i)))]⟩) (fun k=>g.acts.length-k.1.2.2) ⟨(R1,ag1,0),Xg _,hp1⟩ ?_;rintro ⟨⟨R2,ag2,b⟩,hb,hp2⟩;dsimp only;dsimp only at hb hp2;refine WJ ?_;refine ZE ?_ ?_<;>intro hb147
 . (
 refine ZD ?_;refine Yq (ι:={x:(Nat->Nat->Bool)×Bool×Nat//x.2.2<=g.acts.length/\Pass g.acts.length (W0 (cnames g.acts) g.follows) R0 x.1 x.2.1 a b x.2.2}) (fun k=>⟨[(1,_,_),(2,_,_),(3,_,_),(5,_,_),(13,_,_),(14,_,_),(12, .bool k.1.2.1,Zr k.1.2.1),(15, .int .i64 k.1.2.2,Zb k.1.2.2)],[(1,_,_),(2,_,_),(3,_,_),(38,_,_),(40,_,_),(201,_,_),(202,_,_),(203,_,_),(204, .agg Gs.toArray, .agg (vec g.acts.length fun i=>YP 4 g.acts.length (k.1.1 i)))]⟩) (fun k=>g.acts.length-k.1.2.2) ⟨(R2,ag2,0),Xg _,hp2⟩ ?_;rintro ⟨⟨R,ag,c⟩,hc,hp⟩;dsimp only;dsimp only at hc hp;refine WJ ?_;refine ZE ?_ ?_<;>intro hb152
 . (
 have han:a<g.acts.length:=oM;have hbn:b<g.acts.length:=oM;have hcn:c<g.acts.length:=oM;obtain ⟨ra,hra⟩:=gS Gs a;obtain ⟨rb,hrb⟩:=gS Gs b;have e1:=Ci hra;have e2:=Ci hrb;have e3:=O3 (e:=4) R han;have e4:=O3 (e:=4) R hbn;have e5:=ZZ (fun j=>Zr (R a j)) hbn;have e6:=ZZ (fun j=>Zr (R b j)) hcn;have e7:=ZZ (fun j=>Zr (R a j)) hcn;have e8:=Wx g.acts.length (fun j=>Zr (R a j));refine Zi ?_;(refine xM (Zc 3 Kx) ?_<;>refine yV (Zh 3 Yl) ?_<;>refine xL 157 Za (xL 158 (Zj 202 Z') ?_)<;>refine yV (Zh 202 Zx) ?_<;>refine xL 160 Za (xL 161 (Sy 204 ZI) ?_)<;>refine yV (Zbr 204 ZT) ?_<;>refine ZN ?_<;>(refine bL 163 (fun hb163=>?_) (fun hb163=>?_)<;>(first|refine kL ?_|refine xM (Zc 3 Kx) ?_))<;>(first|refine kL ?_|refine yV (Zh 3 Yl) ?_)<;>refine kZ ?_<;>(first|refine kL ?_|refine xM (Zj 202 Z') ?_)<;>(first|refine kL ?_|refine yV (Zh 202 Zx) ?_)<;>refine kZ ?_<;>(first|refine kL ?_|refine xM (Sy 204 ZI) ?_)<;>(first|refine kL ?_|refine yV (Zbr 204 ZT) ?_)<;>refine ZO ?_<;>(first|refine kL ?_|(refine bL 173 (fun hb173=>?_) (fun hb173=>?_)<;>(first|refine kL ?_|refine xM (Zc 3 Kx) ?_)))<;>(first|refine kL ?_|refine yV (Zh 3 Yl) ?_)<;>refine kZ ?_<;>(first|refine kL ?_|refine xM (Zj 202 Z') ?_)<;>(first|refine kL ?_|refine yV (Zh 202 Zx) ?_)<;>refine kZ ?_<;>(first|refine kL ?_|refine xM (Sy 204 ZI) ?_)<;>(first|refine kL ?_|refine yV (Zbr 204 ZT) ?_)<;>refine kZ ?_<;>refine ZN ?_<;>refine Zw ?_)<;>(
 refine cX ?_ ?_<;>intro hb183
 . first | exact bN hb183|(
 refine Zi ?_;refine xM (Zc 3 Kx) ?_;refine yV (Zh 3 Yl) ?_;refine xL 186 Za (xL 187 (Zj 202 Z') ?_);refine yV (Zh 202 Zx) ?_;refine xL 189 Za (xL 190 (Sy 204 ZI) ?_);refine ZdQ 204 ZT Gq ?_;refine Ym ?_;refine K5 ?_;try rw [Zie]
 first
  | (exact Zf (
      ⟨(ZeW R a c,true,c+1),by show c+1<=g.acts.length;omega,hp.mark han hbn hcn hb163 hb173 (by simpa using hb183)⟩
      ) (by show g.acts.length-(c+1)<g.acts.length-c;omega) sB sB)
  | (exact Zf (
      ⟨(R,ag,c+1),by show c+1<=g.acts.length;omega,hp.skip (fun g1 g2=>by
        first
         |(simpa using hb183)
         |(rw [hb163] at g1;exact Qd g1 dC)
         |(rw [hb173] at g2;exact Qd g2 dC))⟩
      ) (by show g.acts.length-(c+1)<g.acts.length-c;omega) sB sB))
 . (
 refine Y2 ?_;try rw [Zie]
 first
  | (exact Zf (
      ⟨(ZeW R a c,true,c+1),by show c+1<=g.acts.length;omega,hp.mark han hbn hcn hb163 hb173 (by simpa using hb183)⟩
      ) (by show g.acts.length-(c+1)<g.acts.length-c;omega) sB sB)
  | (exact Zf (
      ⟨(R,ag,c+1),by show c+1<=g.acts.length;omega,hp.skip (fun g1 g2=>by
        first
         |(simpa using hb183)
         |(rw [hb163] at g1;exact Qd g1 dC)
         |(rw [hb173] at g2;exact Qd g2 dC))⟩
      ) (by show g.acts.length-(c+1)<g.acts.length-c;omega) sB sB))))
 . (
 refine Y2 ?_;refine Zf (
  ⟨(R,ag,b+1),by show b+1<=g.acts.length;omega,hp.row oM⟩
  ) (by show g.acts.length-(b+1)<g.acts.length-b;omega) sB sB))
 . (
 refine Y2 ?_;refine Zf (
  ⟨(R2,ag2,a+1),by show a+1<=g.acts.length;omega,hp2.plane oM⟩
  ) (by show g.acts.length-(a+1)<g.acts.length-a;omega) sB sB))
 . (
 refine nav ?_;refine Zf (
  ⟨(R1,ag1),hp1.gr,fun hg=>by subst hg;exact hp1.closed oM⟩
  ) (by show cntM g.acts.length R1+(if ag1 then 1 else 0)<cntM g.acts.length R0+(if ag0 then 1 else 0);rw [show ag0=true from hb139];exact hp1.less) sB sB))
 . (
 refine nav ?_;refine Zq (ZcF (l:=201) (l':=203) rfl rfl rfl rfl) fun _=>?_;refine Zq (ZcF (l:=202) (l':=204) rfl rfl rfl rfl) fun _=>?_;refine Zq (YD (l:=3) (l':=201) (j:=1) rfl rfl rfl rfl) fun _=>?_;refine Zq (YD (l:=3) (l':=202) (j:=2) rfl rfl rfl rfl) fun _=>?_;refine Zq (YD (l:=3) (l':=38) (j:=3) rfl rfl rfl rfl) fun _=>?_;refine Zq (YD (l:=3) (l':=40) (j:=4) rfl rfl rfl rfl) fun _=>?_;refine Zo ?_;refine yU (Zn 3 YX) fun v191=>?_;refine Zp 2 YX ?_;refine Zw ?_;refine YQ (k:=5) 2 kR (results229) rfl rfl (Xa rfl) dC rfl ?_;have hR:=ZeX hgr (hcl hb139);unfold Jm;rw [<-hR];show PV.agg [ZW (cnames g.acts),share (ZjW 92 4 _ _),share (ZjW 92 4 _ R0),share (YP 4 _ _),share (YP 4 _ _)]=_;rw [OY,OY,Jk,Jk]))))))
end Go.Proofs.YtmkojdfiadbeeaaGreat
