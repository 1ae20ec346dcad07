/-
  Walks of functions and plain laws of the chapter, as the claim needs them.
-/
import Derived.Test.YtmkojdfiadbeeaaGreatPe07
import Derived.Test.YtmkojdfiadbeeaaGreatPe02
import Derived.Test.YtmkojdfiadbeeaaGreatPe09
import Derived.Test.YtmkojdfiadbeeaaGreatPe05
import Derived.Test.YtmkojdfiadbeeaaGreatPe08
import Derived.Test.YtmkojdfiadbeeaaGreatPe03
import Derived.Test.YtmkojdfiadbeeaaGreatPe06
import Derived.Test.YtmkojdfiadbeeaaGreatPe01
set_option linter.all false
set_option maxRecDepth 100000
set_option maxHeartbeats 8000000
namespace Go.Proofs.YtmkojdfiadbeeaaGreat
open Go.RowKit Go.Cb Go.En Tryz
theorem Zk9:(prog.info? 90).map (·.size)=some 1:=kR
def Ts (h0:Value):List (List Int)->List PV
 |[]=>[]
 |_::t=>PV.val h0::t.map pInts
def Zct:List (List Int)->List Int
 |[]=>[]
 |c::_=>c
theorem CI {W:List Int->Bool} {cs t:List (List Int)} {c0:List Int} (h:cs.filter W=c0::t):GI W cs=(c0++(cs.filter fun c=> !W c).flatten)::t:=by unfold GI;rw [h]
theorem Zdt {l:List Int} {r:Int->Int->Bool} {W:List Int->Bool} {cs t:List (List Int)} {c0:List Int} (hc:Comps l r cs) (h:cs.filter W=c0::t):((c0++(cs.filter fun c=> !W c).flatten)::t).Pairwise (fun c d=>KM c≠KM d)/\(∀c∈(c0++(cs.filter fun c=> !W c).flatten)::t,c≠[]):=by
 have hperm:((c0++(cs.filter fun c=> !W c).flatten)::t).flatten.Perm cs.flatten:=by
  have h1:=J5 (Jh W cs);rw [h,XZ,XP] at h1;refine .trans ?_ h1;rw [XP,XH,XH];exact (VZ).append_left c0
 have hnd:((c0++(cs.filter fun c=> !W c).flatten)::t).flatten.Nodup:=(hperm.pairwise_iff (R:=(· ≠ ·)) fun h=>Ne.symm h).2 hc.nd
 have hmem:∀c∈c0::t,c∈cs:=fun c hm=>(XF.1 (h▸hm)).1
 have hne:∀c∈(c0++(cs.filter fun c=> !W c).flatten)::t,c≠[]:=fun c hm=>by
  rcases Xh.1 hm with rfl|hm
  . exact fun e=>hc.ne c0 (hmem c0 sM) (List.append_eq_nil_iff.1 e).1
  . exact hc.ne c (hmem c (by simp [hm]))
 refine ⟨?_,hne⟩
 have h2:=(Ub.1 hnd).2
 refine List.Pairwise.imp_of_mem (fun {a b} ha hb hab e=>?_) h2
 exact hab _ (Oq (hne a ha)).1 _ (Oq (hne b hb)).1 e
theorem ZfJ {cs:List (List Int)} (i:Nat) (p:List Int->Bool):((cs.take i).filter p).flatten.length<=cs.flatten.length:=by
 have h1:=ZbU p (cs.take i)
 have h2:(cs.take i).flatten.length<=cs.flatten.length:=by
  have:cs.flatten=(cs.take i).flatten++(cs.drop i).flatten:=by rw [<-XZ,Vy]
  rw [this,Xf];omega
 omega
theorem Zla (l : List BA) (n:Nat) (E R:Nat->Nat->Bool) (S F:Nat->Bool) (cs:List (List Int)) (r:Int->Int->Bool) (hn:n<=1000) (hc:Comps (upTo n) r cs):AF prog 234 [.agg (Jm l n E R S F),KR cs] (fun p=>∃out,out.Perm (GI (Yc S F) cs)/\out.Pairwise (fun c d=>KM c<KM d)/\p=KR out):=by
 have hin:=Jo hc
 have hfl:=JH hc.nd (fun x hx=>(hc.mem x).1 hx)
 rw [JJ] at hfl
 refine AF.b2 114 func234 rfl ntmps234 (Xa rfl) fun w0 M0 v0 v1 _ _=>?_
 dsimp only [Jm]
 refine Zi ?_
 refine Yi 2 5 fun h2=>?_;refine KA ?_
 refine Yq (ι:={k:Nat//k<=cs.length/\∀j y,j<k->cs[j]? =some y->Yc S F y=false}) (fun k=>⟨[(1,_,_),(2,_,_),(5, .int .i64 k.1,Zb k.1)],[(2,_,_)]⟩) (fun k=>cs.length-k.1) ⟨0,Xg _,fun j y h=>Qd h (Vo j)⟩ ?_
 rintro ⟨k,hk,hkp⟩
 dsimp only
 obtain ⟨d,hdd⟩:∃d,d=cs[k]?.getD []:=⟨_,rfl⟩
 have hd:k<cs.length->cs[k]? =some d:=fun h=>by obtain ⟨y,hy⟩:=get_some h;rw [hdd,hy];rfl
 have e3:k<cs.length->(cs.map pInts)[k*1]? =some (pInts d):=fun h=>Yh (f:=pInts) (hd h)
 have hdb:∀x∈d,0<=x/\x<n:=by
  rw [hdd]
  cases ho:cs[k]? with
  |none=>simp
  |some y=>exact hin.1 y (Xb ho)
 have hdl:d.length<=1000000:=by
  rw [hdd]
  cases ho:cs[k]? with
  |none=>simp
  |some y=>have:=hin.2.2 y (Xb ho);simp only [Uf];omega
 refine nav ?_
 (refine YJ [] [2] ?_ <;>refine xD 0 rfl Za ?_<;>refine xE 1 rfl Za ?_<;>refine xE 2 rfl (Zs ZQ) ?_<;>refine xE 3 rfl Yj ?_<;>refine xE 4 rfl Za ?_<;>(refine bDd 14 (fun hb14=>?_) (fun hb14=>?_)<;>(first|refine kD 5 ?_|refine xD 5 rfl Za ?_))<;>(first|refine kD 6 ?_|refine xD 6 rfl Za ?_)<;>(first|refine kD 7 ?_|refine xD 7 rfl (Ze ZQ) ?_)<;>(first|refine kD 8 ?_|(refine yD 8 rfl (Zu YA (hp:=e3 oM)) fun v18 h=>?_;cases h))<;>(first|refine kD 9 ?_|refine xD 9 rfl (Zc 2 Kn) ?_)<;>(first|refine kD 10 ?_|(refine yD 10 rfl (Zh 2 Zx) fun v20 h=>?_;cases h))<;>(refine ZY 11 kR ?_)<;>(first|(refine Yo (d:=21) rfl (cA call271 (Ln d n S hdb hdl)) fun v21 h=>?_;cases h)|(refine aWr fun bk=>?_;refine kL ?_;refine bE bk ?_))<;>(first|refine kD 12 ?_|refine xD 12 rfl LK ?_)<;>(first|refine kD 13 ?_|refine xD 13 rfl Za ?_)<;>(first|refine kD 14 ?_|(refine bD 23 (fun hb23=>?_) (fun hb23=>?_)<;>(first|refine kD 14 ?_|refine xD 14 rfl Za ?_)))<;>(first|refine kD 15 ?_|refine xD 15 rfl Za ?_)<;>(first|refine kD 16 ?_|refine xD 16 rfl (Ze ZQ) ?_)<;>(first|refine kD 17 ?_|(refine yD 17 rfl (Zu YA (hp:=e3 oM)) fun v27 h=>?_;cases h))<;>(first|refine kD 18 ?_|refine xD 18 rfl (Zc 2 W3) ?_)<;>(first|refine kD 19 ?_|(refine yD 19 rfl (Zh 2 Zx) fun v29 h=>?_;cases h))<;>(refine ZY 20 kR ?_)<;>(first|(refine Yo (d:=30) rfl (cA call271 (Ln d n F hdb hdl)) fun v30 h=>?_;cases h)|(refine aWr fun bk=>?_;refine kL ?_;refine bE bk ?_))<;>(first|refine kD 21 ?_|refine xD 21 rfl LK ?_)<;>(first|refine kD 22 ?_|refine xD 22 rfl YY ?_)<;>refine xE 23 rfl YY ?_<;>refine WE ?_)<;>(
 refine cX ?_ ?_<;>intro hb33
 . first |exact bN hb33|(
 refine Y2 ?_;refine Yr (
  ⟨k + 1,oM,fun j y hj hy=>by
   by_cases e:j=k
   . subst e;rw [hd oM] at hy;cases hy;unfold Yc
     first
      |(rw [show K3 d S=false by simpa using hb23];rfl)
      |(rw [show K3 d F=false by simpa using hb33];exact VH _)
   . exact hkp j y oM hy⟩
  ))
 . first | exact bN hb33|(
 refine Zi ?_;refine xL 36 Za (xL 37 Za (xL 38 (Zs ZQ) (xL 39 Ky ?_)));refine ZE ?_ ?_<;>intro hb39
 . (
 refine ZD ?_;refine YO (YS 200 90 1 rfl) fun _=>?_;refine YO (En.freeze (l:=200) (t:=4) rfl rfl) fun _=>?_;rw [Gu _ _ _ [] (by rfl) (by rfl)];have hkl:k=cs.length:=oM;have hfn:=EF (p:=Yc S F) (l:=cs) k hkp;rw [hkl,Xx] at hfn;exact Zg (results234) rfl ⟨[],by unfold GI;rw [hfn],List.Pairwise.nil,rfl⟩)
 . (
 refine YG ?_;refine KA ?_;have hkl:k<cs.length:=oM;have hck:=hd hkl;have hW:Yc S F d=true:=by first|(exfalso;omega)|(unfold Yc;rw [show K3 d S=true by simpa using hb23,show K3 d F=true by simpa using hb33];rfl)
 refine Zq (YS 200 90 1 rfl) fun _=>?_;refine Zq (YS 201 3 1 rfl) fun _=>?_;refine Yq (ι:={x:Nat×Value×Value×List (List Int)//x.1<=cs.length/\x.2.2.1.oneCell'=true/\x.2.2.2=(cs.take x.1).filter (Yc S F)}) (fun k=>⟨[(1,_,_),(2,_,_),(5,_,_),(7,_,_),(6,k.1.2.1, .val k.1.2.1),(8, .int .i64 k.1.1,Zb k.1.1)],[(2,_,_),(200,k.1.2.1, .own 90 1 k.1.2.2.2.length (Ts k.1.2.2.1 k.1.2.2.2)),(201,k.1.2.2.1, .own 3 1 (Zct k.1.2.2.2).length ((Zct k.1.2.2.2).map Zb))]⟩) (fun k=>cs.length-k.1.1) ⟨(0, .slice none 0 0, .slice none 0 0,[]),Xg _,rfl,rfl⟩ ?_;rintro ⟨⟨i,hov,h0,X⟩,hi,ho0,hX⟩;dsimp only;dsimp only at hi ho0 hX;have hXl:X.length<=1000:=by
  have:=VC (Yc S F) (cs.take i);rw [hX];rw [XE] at this;omega
 (have hX0:i<=k->X=[]:=fun h=>by rw [hX];exact EF i fun j y hj=>hkp j y oM);refine Zi ?_;refine xL 40 Za (xL 41 Za (xL 42 (Zs ZQ) (xL 43 Yj ?_)));refine ZE ?_ ?_<;>intro hb43
 . (
 obtain ⟨cl,hx⟩:=gS cs i;have e1:=Yh (f:=pInts) hx;have hcm:=Xb hx;have hcb:=hin.1 cl hcm;have hcll:=hin.2.2 cl hcm;(have e2:(cl.map Zb).length=cl.length*1:=by rw [Xc,XI]);(have e4:(cl.map Zb).all En.one=true:=by rw [VI,Xj];intro x _;rfl);have s1:=GH (p:=Yc S F) hx;have hX1:Yc S F cl=true->i≠k->∃c0 t,X=c0::t:=fun hw hne=>by
  have hik:k<i:=by
   rcases Vz i k with h|h|h
   . rw [hkp i cl h hx] at hw;exact Bool.noConfusion hw
   . exact Qd h hne
   . exact h
  have hm:d∈X:=by
   rw [hX];exact XF.2 ⟨Xb (i:=k) (by rw [X1 hik];exact hck),hW⟩
  cases X with
  |nil=>simp at hm
  |cons c0 t=>exact ⟨c0,t,rfl⟩
 refine WJ ?_;refine ZE ?_ ?_<;>intro hb48
 . (
 obtain rfl:X=[]:=hX0 oM;try dsimp only [Ts,Zct,Xy]
 refine Zi ?_;refine xL 49 Za (xL 50 (WB 200 ZQ) (xL 7 ZJ ?_));refine Zw ?_;(refine YJ [] [2,200,201] ?_<;>refine xD 0 rfl Za ?_<;>refine xD 1 rfl Za ?_<;>refine xD 2 rfl (Ze ZQ) ?_<;>(refine yD 3 rfl (Zu YA) fun v54 h=>?_;cases h)<;>refine xE 4 rfl (Zc 2 Kn) ?_<;>(refine yE 5 rfl (Zh 2 Zx) fun v56 h=>?_;cases h)<;>(refine ZY 6 kR ?_)<;>(refine Yo (d:=57) rfl (cA call271 (Ln cl n S hcb oM)) fun v57 h=>?_;cases h)<;>refine xE 7 rfl Za ?_<;>(refine bD 58 (fun hb58=>?_) (fun hb58=>?_)<;>(first|refine kD 8 ?_|refine xD 8 rfl Za ?_))<;>(first|refine kD 9 ?_|refine xD 9 rfl Za ?_)<;>(first|refine kD 10 ?_|refine xD 10 rfl (Ze ZQ) ?_)<;>(first|refine kD 11 ?_|(refine yD 11 rfl (Zu YA) fun v62 h=>?_;cases h))<;>(first|refine kD 12 ?_|refine xD 12 rfl (Zc 2 W3) ?_)<;>(first|refine kD 13 ?_|(refine yD 13 rfl (Zh 2 Zx) fun v64 h=>?_;cases h))<;>(refine ZY 14 kR ?_)<;>(first|(refine Yo (d:=65) rfl (cA call271 (Ln cl n F hcb oM)) fun v65 h=>?_;cases h)|(refine aWr fun bk=>?_;refine kL ?_;refine bE bk ?_))<;>refine xE 15 rfl YY ?_<;>refine WE ?_)<;>(
 refine cX ?_ ?_<;>intro hb66
 . first |exact bN hb66|(
 (have hwc:Yc S F cl=true:=by unfold Yc;rw [show K3 cl S=true by assumption,show K3 cl F=true by assumption];rfl);try obtain ⟨c0,t,rfl⟩:=hX1 hwc oM
 try dsimp only [Ts,Zct]
 refine Wp ?_;refine TX 68 YW fun h68 ho68=>?_;refine xL 69 Za (xL 70 Za (xL 71 (Ze ZQ) ?_));refine yU (Zu YA) fun v72=>?_;refine W5 68 73 YW fun h73 ho73=>?_;refine WC (kk:=1) 74 Yv fun h74 ho74=>?_;refine Wc 200 74 75 Yv fun h75 ho75=>?_;refine K5 ?_;try rw [XA cl.length]
 try rw [XX (cl.map Zb)]
 first|refine ZK (YD (l:=75) (l':=73) (j:=(c0::t).length) rfl (Gr sM) rfl rfl) fun _=>?_|(have _q:=h75;refine ZK (Zio 201) fun _=>?_)|skip
 try rw [JI (show (c0::t).length=(PV.val h0::t.map pInts).length by simp),W6 _ _ _ (by rfl)]
 try rw [show (PV.val h0::t.map pInts)++[pInts cl]=Ts h0 (c0::t++[cl]) by simp [Ts],show (c0::t).length+1=(c0::t++[cl]).length by simp]
 try refine ZK (ZM (l:=75) 200 rfl rfl) fun _=>?_
 try refine ZK (ZM (l:=73) 201 rfl rfl) fun _=>?_
 first
  | (exact Zf (
      ⟨(i+1,h75,h73,[cl]),by show i+1<=cs.length;omega,ho73,by show [cl]=_;rw [s1,Qc hwc,<-hX];rfl⟩
      ) (by show cs.length-(i+1)<cs.length-i;omega) sB sB)
  | (exact Zf (
      ⟨(i+1,hov,h0,X),by show i+1<=cs.length;omega,ho0,by show X=_;rw [s1,Qb (by unfold Yc;first|(rw [show K3 cl S=false by assumption];exact Vb)|(rw [show K3 cl F=false by assumption,VH];exact Vb)),Xo,hX]⟩
      ) (by show cs.length-(i+1)<cs.length-i;omega) sB sB)
  | (exact Zf (
      ⟨(i+1,hov,h0,[]),by show i+1<=cs.length;omega,ho0,by show []=_;rw [s1,Qb (by unfold Yc;first|(rw [show K3 cl S=false by assumption];exact Vb)|(rw [show K3 cl F=false by assumption,VH];exact Vb)),Xo];exact hX⟩
      ) (by show cs.length-(i+1)<cs.length-i;omega) sB sB)
  | (exact Zf (
      ⟨(i+1,h75,h0,c0::t++[cl]),by show i+1<=cs.length;omega,ho0,by show c0::t++[cl]=_;rw [s1,Qc hwc,hX]⟩
      ) (by show cs.length-(i+1)<cs.length-i;omega) sB sB))
 . (
 refine Y2 ?_;try rw [XA cl.length]
 try rw [XX (cl.map Zb)]
 first|refine ZK (YD (l:=75) (l':=73) (j:=(c0::t).length) rfl (Gr sM) rfl rfl) fun _=>?_|(have _q:=h75;refine ZK (Zio 201) fun _=>?_)|skip
 try rw [JI (show (c0::t).length=(PV.val h0::t.map pInts).length by simp),W6 _ _ _ (by rfl)]
 try rw [show (PV.val h0::t.map pInts)++[pInts cl]=Ts h0 (c0::t++[cl]) by simp [Ts],show (c0::t).length+1=(c0::t++[cl]).length by simp]
 try refine ZK (ZM (l:=75) 200 rfl rfl) fun _=>?_
 try refine ZK (ZM (l:=73) 201 rfl rfl) fun _=>?_
 first
  | (exact Zf (
      ⟨(i+1,h75,h73,[cl]),by show i+1<=cs.length;omega,ho73,by show [cl]=_;rw [s1,Qc hwc,<-hX];rfl⟩
      ) (by show cs.length-(i+1)<cs.length-i;omega) sB sB)
  | (exact Zf (
      ⟨(i+1,hov,h0,X),by show i+1<=cs.length;omega,ho0,by show X=_;rw [s1,Qb (by unfold Yc;first|(rw [show K3 cl S=false by assumption];exact Vb)|(rw [show K3 cl F=false by assumption,VH];exact Vb)),Xo,hX]⟩
      ) (by show cs.length-(i+1)<cs.length-i;omega) sB sB)
  | (exact Zf (
      ⟨(i+1,hov,h0,[]),by show i+1<=cs.length;omega,ho0,by show []=_;rw [s1,Qb (by unfold Yc;first|(rw [show K3 cl S=false by assumption];exact Vb)|(rw [show K3 cl F=false by assumption,VH];exact Vb)),Xo];exact hX⟩
      ) (by show cs.length-(i+1)<cs.length-i;omega) sB sB)
  | (exact Zf (
      ⟨(i+1,h75,h0,c0::t++[cl]),by show i+1<=cs.length;omega,ho0,by show c0::t++[cl]=_;rw [s1,Qc hwc,hX]⟩
      ) (by show cs.length-(i+1)<cs.length-i;omega) sB sB))))
 . (
 refine nav ?_;(refine YJ [] [2,200,201] ?_<;>refine xD 0 rfl Za ?_<;>refine xD 1 rfl Za ?_<;>refine xD 2 rfl (Ze ZQ) ?_<;>(refine yD 3 rfl (Zu YA) fun v54 h=>?_;cases h)<;>refine xE 4 rfl (Zc 2 Kn) ?_<;>(refine yE 5 rfl (Zh 2 Zx) fun v56 h=>?_;cases h)<;>(refine ZY 6 kR ?_)<;>(refine Yo (d:=57) rfl (cA call271 (Ln cl n S hcb oM)) fun v57 h=>?_;cases h)<;>refine xE 7 rfl Za ?_<;>(refine bD 58 (fun hb58=>?_) (fun hb58=>?_)<;>(first|refine kD 8 ?_|refine xD 8 rfl Za ?_))<;>(first|refine kD 9 ?_|refine xD 9 rfl Za ?_)<;>(first|refine kD 10 ?_|refine xD 10 rfl (Ze ZQ) ?_)<;>(first|refine kD 11 ?_|(refine yD 11 rfl (Zu YA) fun v62 h=>?_;cases h))<;>(first|refine kD 12 ?_|refine xD 12 rfl (Zc 2 W3) ?_)<;>(first|refine kD 13 ?_|(refine yD 13 rfl (Zh 2 Zx) fun v64 h=>?_;cases h))<;>(refine ZY 14 kR ?_)<;>(first|(refine Yo (d:=65) rfl (cA call271 (Ln cl n F hcb oM)) fun v65 h=>?_;cases h)|(refine aWr fun bk=>?_;refine kL ?_;refine bE bk ?_))<;>refine xE 15 rfl YY ?_<;>refine WE ?_)<;>(
 refine cX ?_ ?_<;>intro hb66
 . first |exact bN hb66|(
 (have hwc:Yc S F cl=true:=by unfold Yc;rw [show K3 cl S=true by assumption,show K3 cl F=true by assumption];rfl);try obtain ⟨c0,t,rfl⟩:=hX1 hwc oM
 try dsimp only [Ts,Zct]
 refine Wp ?_;refine TX 68 YW fun h68 ho68=>?_;refine xL 69 Za (xL 70 Za (xL 71 (Ze ZQ) ?_));refine yU (Zu YA) fun v72=>?_;refine W5 68 73 YW fun h73 ho73=>?_;refine WC (kk:=1) 74 Yv fun h74 ho74=>?_;refine Wc 200 74 75 Yv fun h75 ho75=>?_;refine K5 ?_;try rw [XA cl.length]
 try rw [XX (cl.map Zb)]
 first|refine ZK (YD (l:=75) (l':=73) (j:=(c0::t).length) rfl (Gr sM) rfl rfl) fun _=>?_|(have _q:=h75;refine ZK (Zio 201) fun _=>?_)|skip
 try rw [JI (show (c0::t).length=(PV.val h0::t.map pInts).length by simp),W6 _ _ _ (by rfl)]
 try rw [show (PV.val h0::t.map pInts)++[pInts cl]=Ts h0 (c0::t++[cl]) by simp [Ts],show (c0::t).length+1=(c0::t++[cl]).length by simp]
 try refine ZK (ZM (l:=75) 200 rfl rfl) fun _=>?_
 try refine ZK (ZM (l:=73) 201 rfl rfl) fun _=>?_
 first
  | (exact Zf (
      ⟨(i+1,h75,h73,[cl]),by show i+1<=cs.length;omega,ho73,by show [cl]=_;rw [s1,Qc hwc,<-hX];rfl⟩
      ) (by show cs.length-(i+1)<cs.length-i;omega) sB sB)
  | (exact Zf (
      ⟨(i+1,hov,h0,X),by show i+1<=cs.length;omega,ho0,by show X=_;rw [s1,Qb (by unfold Yc;first|(rw [show K3 cl S=false by assumption];exact Vb)|(rw [show K3 cl F=false by assumption,VH];exact Vb)),Xo,hX]⟩
      ) (by show cs.length-(i+1)<cs.length-i;omega) sB sB)
  | (exact Zf (
      ⟨(i+1,hov,h0,[]),by show i+1<=cs.length;omega,ho0,by show []=_;rw [s1,Qb (by unfold Yc;first|(rw [show K3 cl S=false by assumption];exact Vb)|(rw [show K3 cl F=false by assumption,VH];exact Vb)),Xo];exact hX⟩
      ) (by show cs.length-(i+1)<cs.length-i;omega) sB sB)
  | (exact Zf (
      ⟨(i+1,h75,h0,c0::t++[cl]),by show i+1<=cs.length;omega,ho0,by show c0::t++[cl]=_;rw [s1,Qc hwc,hX]⟩
      ) (by show cs.length-(i+1)<cs.length-i;omega) sB sB))
 . (
 refine Y2 ?_;try rw [XA cl.length]
 try rw [XX (cl.map Zb)]
 first|refine ZK (YD (l:=75) (l':=73) (j:=(c0::t).length) rfl (Gr sM) rfl rfl) fun _=>?_|(have _q:=h75;refine ZK (Zio 201) fun _=>?_)|skip
 try rw [JI (show (c0::t).length=(PV.val h0::t.map pInts).length by simp),W6 _ _ _ (by rfl)]
 try rw [show (PV.val h0::t.map pInts)++[pInts cl]=Ts h0 (c0::t++[cl]) by simp [Ts],show (c0::t).length+1=(c0::t++[cl]).length by simp]
 try refine ZK (ZM (l:=75) 200 rfl rfl) fun _=>?_
 try refine ZK (ZM (l:=73) 201 rfl rfl) fun _=>?_
 first
  | (exact Zf (
      ⟨(i+1,h75,h73,[cl]),by show i+1<=cs.length;omega,ho73,by show [cl]=_;rw [s1,Qc hwc,<-hX];rfl⟩
      ) (by show cs.length-(i+1)<cs.length-i;omega) sB sB)
  | (exact Zf (
      ⟨(i+1,hov,h0,X),by show i+1<=cs.length;omega,ho0,by show X=_;rw [s1,Qb (by unfold Yc;first|(rw [show K3 cl S=false by assumption];exact Vb)|(rw [show K3 cl F=false by assumption,VH];exact Vb)),Xo,hX]⟩
      ) (by show cs.length-(i+1)<cs.length-i;omega) sB sB)
  | (exact Zf (
      ⟨(i+1,hov,h0,[]),by show i+1<=cs.length;omega,ho0,by show []=_;rw [s1,Qb (by unfold Yc;first|(rw [show K3 cl S=false by assumption];exact Vb)|(rw [show K3 cl F=false by assumption,VH];exact Vb)),Xo];exact hX⟩
      ) (by show cs.length-(i+1)<cs.length-i;omega) sB sB)
  | (exact Zf (
      ⟨(i+1,h75,h0,c0::t++[cl]),by show i+1<=cs.length;omega,ho0,by show c0::t++[cl]=_;rw [s1,Qc hwc,hX]⟩
      ) (by show cs.length-(i+1)<cs.length-i;omega) sB sB)))))
 . (
 refine ZD ?_;have hil:i=cs.length:=oM;(have hXe:X=cs.filter (Yc S F):=by rw [hX,hil,Xx]);obtain ⟨c0,t,rfl⟩:∃c0 t,X=c0::t:=by
  have hm:d∈X:=by rw [hXe];exact XF.2 ⟨Xb hck,hW⟩
  cases X with
  |nil=>simp at hm
  |cons c0 t=>exact ⟨c0,t,rfl⟩
 dsimp only [Ts,Zct];have hap:=Zdt hc hXe.symm;have hmem:∀c∈c0::t,c∈cs:=fun c hm=>(XF.1 (hXe▸hm)).1;have hc0l:=hin.2.2 c0 (hmem c0 sM);refine Yq (ι:={x:Nat×Value×List Int//x.1<=cs.length/\x.2.1.oneCell'=true/\x.2.2=c0++((cs.take x.1).filter fun c=> !Yc S F c).flatten}) (fun k=>⟨[(1,_,_),(2,_,_),(6,_,_),(7,_,_),(9, .int .i64 k.1.1,Zb k.1.1)],[(2,_,_),(200,hov, .own 90 1 (c0::t).length (PV.val k.1.2.1::t.map pInts)),(201,k.1.2.1, .own 3 1 k.1.2.2.length (k.1.2.2.map Zb))]⟩) (fun k=>cs.length-k.1.1) ⟨(0,h0,c0),Xg _,ho0,(Xo c0).symm⟩ ?_;rintro ⟨⟨q,hv,D⟩,hq,hov1,hD⟩;dsimp only;dsimp only at hq hov1 hD;have hDl:D.length<=2000:=by
  have h1:=ZfJ (cs:=cs) q (fun c=> !Yc S F c);rw [hD,Xf];omega
 have hDm:(D.map Zb).length=D.length:=Xc _;refine Zi ?_;refine xL 76 Za (xL 77 Za (xL 78 (Zs ZQ) (xL 79 Yj ?_)));refine ZE ?_ ?_<;>intro hb79
 . (
 obtain ⟨cl,hx⟩:=gS cs q;have e1:=Yh (f:=pInts) hx;have hcm:=Xb hx;have hcb:=hin.1 cl hcm;have hcll:=hin.2.2 cl hcm;(have e2:(cl.map Zb).length=cl.length*1:=by rw [Xc,XI]);(have e4:(cl.map Zb).all En.one=true:=by rw [VI,Xj];intro x _;rfl);have s2:=GH (p:=fun c=> !Yc S F c) hx;refine nav ?_;(refine YJ [] [2,200,201] ?_<;>refine xD 0 rfl Za ?_<;>refine xD 1 rfl Za ?_<;>refine xD 2 rfl (Ze ZQ) ?_<;>(refine yD 3 rfl (Zu YA) fun v85 h=>?_;cases h)<;>refine xE 4 rfl (Zc 2 Kn) ?_<;>(refine yE 5 rfl (Zh 2 Zx) fun v87 h=>?_;cases h)<;>(refine ZY 6 kR ?_)<;>(refine Yo (d:=88) rfl (cA call271 (Ln cl n S hcb oM)) fun v88 h=>?_;cases h)<;>refine xE 7 rfl LK ?_<;>refine xE 8 rfl Za ?_<;>(refine bD 90 (fun hb90=>?_) (fun hb90=>?_)<;>(first|refine kD 9 ?_|refine xD 9 rfl Za ?_))<;>(first|refine kD 10 ?_|refine xD 10 rfl Za ?_)<;>(first|refine kD 11 ?_|refine xD 11 rfl (Ze ZQ) ?_)<;>(first|refine kD 12 ?_|(refine yD 12 rfl (Zu YA) fun v94 h=>?_;cases h))<;>(first|refine kD 13 ?_|refine xD 13 rfl (Zc 2 W3) ?_)<;>(first|refine kD 14 ?_|(refine yD 14 rfl (Zh 2 Zx) fun v96 h=>?_;cases h))<;>(refine ZY 15 kR ?_)<;>(first|(refine Yo (d:=97) rfl (cA call271 (Ln cl n F hcb oM)) fun v97 h=>?_;cases h)|(refine aWr fun bk=>?_;refine kL ?_;refine bE bk ?_))<;>(first|refine kD 16 ?_|refine xD 16 rfl LK ?_)<;>refine xE 17 rfl YY ?_<;>refine WE ?_)<;>(
 refine cX ?_ ?_<;>intro hb99
 . (
 refine nav ?_;(refine YJ [12] [2,200] ?_<;>refine xD 0 rfl Za ?_<;>refine xD 1 rfl Za ?_<;>refine xD 2 rfl Za ?_<;>refine xD 3 rfl Za ?_<;>refine xD 4 rfl (Zj 200 ZQ) ?_<;>(refine yD 5 rfl (Zh 200 YA) fun v105 h=>?_;cases h)<;>refine xD 6 rfl Za ?_<;>refine xE 7 rfl Za ?_<;>refine xE 8 rfl (Ze ZQ) ?_<;>(refine yE 9 rfl (Zu YA) fun v109 h=>?_;cases h)<;>(refine aDr 10 fun bk=>?_)<;>refine W5 201 110 YW (fun h110 ho110=>?_) e2 e4<;>refine bE bk ?_<;>refine xE 11 rfl (Zj 200 ZQ) ?_<;>(refine ZY 12 kR ?_)<;>(refine Ww rfl rfl kR fun DQ bk=>?_)<;>refine JX 200 YA Zk9 ?_<;>refine WA (bk _ (nav ?_))<;>try dsimp only)
 refine GP ?_;try refine ZK (ZM (l:=110) 201 rfl rfl) fun _=>?_
 try rw [show D.map Zb++cl.map Zb=(D++cl).map Zb by simp,show D.length+cl.length=(D++cl).length by simp]
 first
  | (exact Zf (
      ⟨(q+1,h110,D++cl),by show q+1<=cs.length;omega,ho110,by show D++cl=_;rw [s2,Qc (by unfold Yc;simp [*]),hD];simp⟩
      ) (by show cs.length-(q+1)<cs.length-q;omega) sB sB)
  | (exact Zf (
      ⟨(q+1,hv,D),by show q+1<=cs.length;omega,hov1,by show D=_;rw [s2,Qb (by unfold Yc;simp [*]),Xo,hD]⟩
      ) (by show cs.length-(q+1)<cs.length-q;omega) sB sB))
 . first |exact bN hb99|(
 refine Y2 ?_;try refine ZK (ZM (l:=110) 201 rfl rfl) fun _=>?_
 try rw [show D.map Zb++cl.map Zb=(D++cl).map Zb by simp,show D.length+cl.length=(D++cl).length by simp]
 first
  | (exact Zf (
      ⟨(q+1,h110,D++cl),by show q+1<=cs.length;omega,ho110,by show D++cl=_;rw [s2,Qc (by unfold Yc;simp [*]),hD];simp⟩
      ) (by show cs.length-(q+1)<cs.length-q;omega) sB sB)
  | (exact Zf (
      ⟨(q+1,hv,D),by show q+1<=cs.length;omega,hov1,by show D=_;rw [s2,Qb (by unfold Yc;simp [*]),Xo,hD]⟩
      ) (by show cs.length-(q+1)<cs.length-q;omega) sB sB))))
 . (
 refine nav ?_;have hql:q=cs.length:=oM;(have hDe:D=c0++(cs.filter fun c=> !Yc S F c).flatten:=by rw [hD,hql,Xx]);rw [<-hDe] at hap;refine Zq (YD (l:=200) (l':=201) (j:=0) rfl rfl rfl rfl) fun _=>?_;rw [U0,W6 _ _ _ rfl];refine Zq (En.freeze (l:=200) (t:=6) rfl rfl) fun _=>?_;rw [Gu _ _ _ (D::t) (by rfl) (by rfl)];(have htl:t.length<=1000:=by simp only [Xi] at hXl;omega);have hbn:∀c∈D::t,c≠[]/\c.length<=1000000:=fun c hm=>⟨hap.2 c hm,by
  rcases Xh.1 hm with rfl|hm
  . omega
  . have:=hin.2.2 c (hmem c (by simp [hm]));omega⟩
 refine LN ?_;refine P4 113 rfl rfl (Xa rfl) (cA call272 (ZgO (D::t) hbn (by rw [Xi];omega) hap.1)) ?_;rintro p' ⟨out,hpo,hso,rfl⟩;refine ⟨rfl,?_⟩;intro v113 hv113;refine ZP ?_;exact Zg (results234) rfl ⟨out,by rw [CI hXe.symm,<-hDe];exact hpo,hso,rfl⟩)))))
theorem Zlb {n a:Nat} {f f':Nat->Bool} {b:Bool} (hf:∀i,i<n->f' i=if i=a then b else f i):(vec n fun i=>Zr (f i)).set (a*1) (Zr b)=vec n fun i=>Zr (f' i):=by
 rw [XI,G1]
 refine Yk fun i hi=>?_
 rw [hf i hi];split<;>rfl
theorem ZnS (k i:Nat) (G:Nat->Bool) (b:Bool) (h:b=G k):(decide (i<k+1)&&G i)=if i=k then b else (decide (i<k)&&G i):=by
 by_cases e:i=k
 . subst e;rw [Qc rfl,U' (UK i),h];rfl
 . rw [Qb e];congr 1;exact decide_eq_decide.2 oM
theorem Zlc (l : List BA) (n:Nat) (E R:Nat->Nat->Bool) (S F:Nat->Bool) (hl:l.length=n) (hn:n<=1000):AF prog 235 [.agg (Jm l n E R S F)] (fun p=>(inL n S F=[]/\p=KR [])\/(inL n S F≠[]/\∃cs,Comps (marked n fun i=> !S i&& !F i) (TZ E R 1) cs/\p=KR (PQ n E S F cs))):=by
 subst hl
 refine AF.b1 115 func235 rfl ntmps235 (Xa rfl) fun w0 M0 v0 _=>?_
 dsimp only [Jm]
 refine Zi ?_
 refine Yi 1 5 fun h1=>?_;refine ZX ?_
 refine xM (Zc 1 Wy) ?_;refine yU (Zh 1 ZF) fun v14=>?_;refine xM (Zs Zm) ?_;refine Kz 16 Ws fun h16 ho16=>?_;refine ZX ?_;refine KA ?_
 rw [show List.replicate l.length (PV.val (.bool false))=vec l.length (fun i=>Zr (decide (i<0)&&(!S i&& !F i))) by rw [Lm];exact Yk fun i _=>by rw [Qa (Vo i)];rfl]
 refine Zq (YS 200 3 1 rfl) fun _=>?_
 refine Yq (ι:={x:Nat×Value×List Int//x.1<=l.length/\x.2.1.oneCell'=true/\x.2.2=inL x.1 S F}) (fun k=>⟨[(1,_,_),(3,_,_),(4,k.1.2.1, .val k.1.2.1),(5, .int .i64 k.1.1,Zb k.1.1)],[(1,_,_),(16,h16, .own 4 1 l.length (vec l.length fun i=>Zr (decide (i<k.1.1)&&(!S i&& !F i)))),(200,k.1.2.1, .own 3 1 k.1.2.2.length (k.1.2.2.map Zb))]⟩) (fun k=>l.length-k.1.1) ⟨(0, .slice none 0 0,[]),Xg _,rfl,rfl⟩ ?_
 rintro ⟨⟨k,ha,A⟩,hk,hoa,hA⟩
 dsimp only
 dsimp only at hk hoa hA
 have hAl:A.length<=1000:=by have:=(EE (n:=k) (S:=S) (F:=F)).1;rw [hA];omega
 have hAm:(A.map Zb).length=A.length:=Xc _
 have e0:=Wx l.length (fun i=>Zr (decide (i<k)&&(!S i&& !F i)))
 refine Zi ?_
 refine xL 17 Za (xL 18 (Zc 1 Wy) ?_);refine yU (Zh 1 ZF) fun v19=>?_;refine xL 20 (Zs Zm) (xL 21 Yj ?_);refine ZE ?_ ?_<;>intro hb21
 . (
 have hkn:k<l.length:=oM;have eS:=ZZ (fun j=>Zr (S j)) hkn;have eF:=ZZ (fun j=>Zr (F j)) hkn;have s1:=Ze4 k S F;(have e5:(vec l.length fun i=>Zr (decide (i<k+1)&&(!S i&& !F i)))[k*1]? =some (Zr (!S k&& !F k)):=by rw [ZZ _ hkn,U' (UK k)];rfl);refine Zi ?_;(refine xL 24 Za (xL 25 Za (xL 26 (Zc 1 Kn) ?_))<;>refine yU (Zh 1 Zx) fun v27=>?_<;>refine xL 28 Za (xL 29 (Ze ZI) ?_)<;>refine yV (Zu ZT) ?_<;>refine ZO ?_<;>(refine bL 32 (fun hb32=>?_) (fun hb32=>?_)<;>(first|refine kL ?_|refine xM (Zc 1 W3) ?_))<;>(first|refine kL ?_|refine yU (Zh 1 Zx) fun v34=>?_)<;>refine kZ ?_<;>(first|refine kL ?_|refine xM (Ze ZI) ?_)<;>(first|refine kL ?_|refine yV (Zu ZT) ?_)<;>refine kZ ?_<;>refine xL 39 YY (xL 40 (Zj 16 ZI) ?_)<;>refine JX 16 ZT Gq ?_<;>refine Zw ?_)<;>(
 rw [Zlb (f':=fun i=>decide (i<k+1)&&(!S i&& !F i)) fun i _=>ZnS k i (fun i=> !S i&& !F i) _ (by simp [*])];refine Zo ?_;refine xL 41 Za (xL 42 Za (xL 43 (Zj 16 ZI) ?_));refine yV (Zh 16 ZT) ?_;refine Wl ?_ ?_<;>intro hb45
 . (
 refine KL ?_;refine WC (kk:=1) 48 YW fun h48 ho48=>?_;refine Wc 200 48 49 YW fun h49 ho49=>?_;refine K5 ?_;try refine ZK (ZM (l:=49) 200 rfl rfl) fun _=>?_
 try rw [show A.map Zb++[Zb k]=(A++[(k:Int)]).map Zb by simp,show A.length+1=(A++[(k:Int)]).length by simp]
 first
  | (exact Zf (
      ⟨(k+1,h49,A++[(k:Int)]),by show k+1<=l.length;omega,ho49,by show A++[(k:Int)]=_;rw [s1,Qc (by cases hS:S k<;>cases hF:F k<;>simp_all),hA]⟩
      ) (by show l.length-(k+1)<l.length-k;omega) sB sB)
  | (exact Zf (
      ⟨(k+1,ha,A),by show k+1<=l.length;omega,hoa,by show A=_;rw [s1,Qb (by cases hS:S k<;>cases hF:F k<;>simp_all),Xo,hA]⟩
      ) (by show l.length-(k+1)<l.length-k;omega) sB sB))
 . (
 refine Y2 ?_;try refine ZK (ZM (l:=49) 200 rfl rfl) fun _=>?_
 try rw [show A.map Zb++[Zb k]=(A++[(k:Int)]).map Zb by simp,show A.length+1=(A++[(k:Int)]).length by simp]
 first
  | (exact Zf (
      ⟨(k+1,h49,A++[(k:Int)]),by show k+1<=l.length;omega,ho49,by show A++[(k:Int)]=_;rw [s1,Qc (by cases hS:S k<;>cases hF:F k<;>simp_all),hA]⟩
      ) (by show l.length-(k+1)<l.length-k;omega) sB sB)
  | (exact Zf (
      ⟨(k+1,ha,A),by show k+1<=l.length;omega,hoa,by show A=_;rw [s1,Qb (by cases hS:S k<;>cases hF:F k<;>simp_all),Xo,hA]⟩
      ) (by show l.length-(k+1)<l.length-k;omega) sB sB))))
 . (
 refine nav ?_;obtain rfl:k=l.length:=oM;(have hAi:∀x∈A,0<=x/\x<l.length:=fun x hx=>by rw [hA] at hx;exact EE.2 x hx);rw [show (vec l.length fun i=>Zr (decide (i<l.length)&&(!S i&& !F i)))=vec l.length fun i=>Zr (!S i&& !F i) from Yk fun i hi=>by rw [U' hi];rfl];refine Zo ?_;refine xL 50 Za (xL 51 (WB 200 ZS) (xL 52 Ky ?_));refine ZE ?_ ?_<;>intro hb52
 . (
 refine ZD ?_;refine YO (YS 201 90 1 rfl) fun _=>?_;refine YO (En.freeze (l:=201) (t:=2) rfl rfl) fun _=>?_;rw [Gu _ _ _ [] (by rfl) (by rfl)];exact Zg (results235) rfl (.inl ⟨by rw [<-hA];exact Xv oM,rfl⟩))
 . (
 refine nav ?_;have hAp:0<A.length:=oM;refine Zq (En.freeze (l:=200) (t:=4) rfl rfl) fun _=>?_;rw [W6 _ _ _ rfl];refine Zq (En.freeze (l:=16) (t:=3) rfl rfl) fun _=>?_;rw [show share (.own 4 1 l.length (vec l.length fun i=>Zr (!S i&& !F i)))=Wq l.length (fun i=> !S i&& !F i) from Jk _ _ _];(have eA1:(A.map Zb).length=A.length*1:=by rw [Xc,XI]);(have eA2:(A.map Zb).all En.one=true:=by rw [VI,Xj];intro x _;rfl);refine Zo ?_;refine yU (Zn 1 YX) fun v53=>?_;refine ZN ?_;refine LC 55 rfl rfl (Xa rfl) rfl (cA call232 (Pz l l.length E R S F 1 (fun i=> !S i&& !F i) rfl hn)) ?_;rintro p' ⟨cs,hcs,rfl⟩;refine ⟨rfl,fun h55 ho55=>?_⟩;refine Zz (En.freeze (l:=55) (t:=55) rfl rfl) fun _=>?_;rw [KJ _ _ _ rfl];refine ZX ?_;refine TX 56 YW fun h56 ho56=>?_;refine ZN ?_;refine W5 56 58 YW (fun h58 ho58=>?_) eA1 eA2;refine TX 59 Yv fun h59 ho59=>?_;refine J9 ?_;refine ZP ?_;have hin:=RZ (by have h:=hcs;rw [DJ] at h;exact h);have hBl:=(Py (n:=l.length) (S:=S) (F:=F)).1;have hBi:∀x∈S1 l.length S F,0<=x/\x<l.length:=Py.2;refine Zq (ZM (l:=59) 200 rfl rfl) fun _=>?_;refine Zq (ZM (l:=58) 201 rfl rfl) fun _=>?_;rw [XA A.length];try rw [XX]
 refine Yq (ι:={x:Nat×Value×Value×List (List Int)×List Int//x.1<=cs.length/\x.2.1.oneCell'=true/\x.2.2.1.oneCell'=true/\x.2.2.2.1=(cs.take x.1).filter (Gd l.length E S F)/\x.2.2.2.2=A++((cs.take x.1).filter fun c=> !Gd l.length E S F c).flatten}) (fun k=>⟨[(1,_,_),(4,_,_),(6,_,_),(8,k.1.2.1, .val k.1.2.1),(7,k.1.2.2.1, .val k.1.2.2.1),(9, .int .i64 k.1.1,Zb k.1.1)],[(1,_,_),(200,k.1.2.1, .own 90 1 k.1.2.2.2.1.length (k.1.2.2.2.1.map pInts)),(201,k.1.2.2.1, .own 3 1 k.1.2.2.2.2.length (k.1.2.2.2.2.map Zb))]⟩) (fun k=>cs.length-k.1.1) ⟨(0,h59,h58,[],A),Xg _,ho59,ho58,rfl,(Xo A).symm⟩ ?_;rintro ⟨⟨i,hcv,hdv,C,D⟩,hi,hoc,hod,hC,hD⟩;dsimp only;dsimp only at hi hoc hod hC hD;have hCl:C.length<=1000:=by
  have:=VC (Gd l.length E S F) (cs.take i);rw [hC];rw [XE] at this;omega
 have hDl:D.length<=2000:=by
  have h1:=ZfJ (cs:=cs) i (fun c=> !Gd l.length E S F c);rw [hD,Xf];omega
 have hCm:(C.map pInts).length=C.length:=Xc _;have hDm:(D.map Zb).length=D.length:=Xc _;refine Zi ?_;refine xL 60 Za (xL 61 Za (xL 62 (Zs ZQ) (xL 63 Yj ?_)));refine ZE ?_ ?_<;>intro hb63
 . (
 obtain ⟨cl,hx⟩:=gS cs i;have e1:=Yh (f:=pInts) hx;have hcm:=Xb hx;have hcll:=hin.2.2.1 cl hcm;have s3:=GH (p:=Gd l.length E S F) hx;have s4:=GH (p:=fun c=> !Gd l.length E S F c) hx;(have e2:(cl.map Zb).length=cl.length*1:=by rw [Xc,XI]);(have e3:(cl.map Zb).all En.one=true:=by rw [VI,Xj];intro x _;rfl);refine JR ?_;refine Yq (ι:={x:Nat×Bool//x.1<=cl.length/\x.2=(cl.take x.1).all fun x=>A.all fun y=>Y8 l.length E S F y.toNat x.toNat}) (fun k=>⟨[(1,_,_),(4,_,_),(6,_,_),(7,_,_),(8,_,_),(9,_,_),(10, .bool k.1.2,Zr k.1.2),(11, .int .i64 k.1.1,Zb k.1.1)],[(1,_,_),(200,_,_),(201,_,_)]⟩) (fun k=>cl.length-k.1.1) ⟨(0,true),Xg _,rfl⟩ ?_;rintro ⟨⟨q,b⟩,hq,hbe⟩;dsimp only;dsimp only at hq hbe;refine Zi ?_;refine xL 66 Za (xL 67 Za (xL 68 Za (xL 69 (Ze ZQ) ?_)));refine yU (Zu YA) fun v70=>?_;refine xL 71 (Zs ZS) (xL 72 Yj ?_);refine ZE ?_ ?_<;>intro hb72
 . (
 obtain ⟨u,hu⟩:=gS cl q;have e4:=Yh (f:=Zb) hu;have hui:=hBi u (hin.1 cl hcm u (Xb hu));have s5:=HA (p:=fun x:Int=>A.all fun y=>Y8 l.length E S F y.toNat x.toNat) hu;refine ZD ?_;refine Yq (ι:={x:Nat×Bool//x.1<=A.length/\x.2=(b&&(A.take x.1).all fun y=>Y8 l.length E S F y.toNat u.toNat)}) (fun k=>⟨[(1,_,_),(4,_,_),(6,_,_),(7,_,_),(8,_,_),(9,_,_),(11,_,_),(10, .bool k.1.2,Zr k.1.2),(12, .int .i64 k.1.1,Zb k.1.1)],[(1,_,_),(200,_,_),(201,_,_)]⟩) (fun k=>A.length-k.1.1) ⟨(0,b),Xg _,(Uk b).symm⟩ ?_;rintro ⟨⟨s,b2⟩,hs,hb2e⟩;dsimp only;dsimp only at hs hb2e;refine Zi ?_;refine xL 75 Za (xL 76 Za (xL 77 (Zs ZS) (xL 78 Yj ?_)));refine ZE ?_ ?_<;>intro hb78
 . (
 obtain ⟨y,hy⟩:=gS A s;have e5:=Yh (f:=Zb) hy;have hyi:=hAi y (Xb hy);have s6:=HA (p:=fun y:Int=>Y8 l.length E S F y.toNat u.toNat) hy;have hL:=Zm2 l l.length E R S F y.toNat u.toNat rfl hn oM oM;rw [show ((y.toNat:Nat):Int)=y by omega,show ((u.toNat:Nat):Int)=u by omega] at hL;dsimp only [Jm] at hL;refine nav ?_;(refine YJ [] [1,200,201] ?_<;>refine xE 0 rfl Za ?_<;>refine xE 1 rfl Za ?_<;>(refine bD 82 (fun hb82=>?_) (fun hb82=>?_)<;>(first|refine kD 2 ?_|(refine yD 2 rfl (Zn 1 YX) fun v83 h=>?_;cases h)))<;>(first|refine kD 3 ?_|refine xD 3 rfl Za ?_)<;>(first|refine kD 4 ?_|refine xD 4 rfl Za ?_)<;>(first|refine kD 5 ?_|refine xD 5 rfl (Ze ZS) ?_)<;>(first|refine kD 6 ?_|(refine yD 6 rfl (Zu ZH) fun v87 h=>?_;cases h))<;>(first|refine kD 7 ?_|refine xD 7 rfl Za ?_)<;>(first|refine kD 8 ?_|refine xD 8 rfl Za ?_)<;>(first|refine kD 9 ?_|refine xD 9 rfl (Ze ZQ) ?_)<;>(first|refine kD 10 ?_|(refine yD 10 rfl (Zu YA) fun v91 h=>?_;cases h))<;>(first|refine kD 11 ?_|refine xD 11 rfl Za ?_)<;>(first|refine kD 12 ?_|refine xD 12 rfl (Ze ZS) ?_)<;>(first|refine kD 13 ?_|(refine yD 13 rfl (Zu ZH) fun v94 h=>?_;cases h))<;>(refine ZY 14 kR ?_)<;>(first|(refine Yo (d:=95) rfl (cA call273 hL) fun v95 h=>?_;cases h)|(refine aWr fun bk=>?_;refine kL ?_;refine bE bk ?_))<;>refine xE 15 rfl YY ?_<;>refine xE 16 rfl ZJ ?_<;>refine WE ?_)<;>(
 refine GP ?_
 first
  | (exact Zf (
      ⟨(s+1,Y8 l.length E S F y.toNat u.toNat),by show s+1<=A.length;omega,by show Y8 l.length E S F y.toNat u.toNat=_;rw [s6,<-UE,<-hb2e,hb82,Ul]⟩
      ) (by show A.length-(s+1)<A.length-s;omega) sB sB)
  | (exact Zf (
      ⟨(s+1,false),by show s+1<=A.length;omega,by show false=_;rw [s6,<-UE,<-hb2e,hb82,Bool.false_and]⟩
      ) (by show A.length-(s+1)<A.length-s;omega) sB sB)))
 . (
 refine Y2 ?_;refine Zf (
  ⟨(q+1,b2),by show q+1<=cl.length;omega,by show b2=_;rw [s5,<-hbe,hb2e,Xt oM]⟩
  ) (by show cl.length-(q+1)<cl.length-q;omega) sB sB))
 . (
 refine nav ?_;(have hbo:Gd l.length E S F cl=b:=by unfold Gd;rw [<-hA,hbe,Xt oM]);refine Zo ?_;refine Wl ?_ ?_<;>intro hb97
 . (
 refine Zi ?_;refine xL 98 Za (xL 99 Za (xL 100 Za (xL 101 (Ze ZQ) ?_)));refine yU (Zu YA) fun v102=>?_;refine WC (kk:=1) 103 Yv fun h103 ho103=>?_;refine Wc 200 103 104 Yv fun h104 ho104=>?_;refine K5 ?_;try refine ZK (ZM (l:=104) 200 rfl rfl) fun _=>?_
 try refine ZK (ZM (l:=110) 201 rfl rfl) fun _=>?_
 try rw [show C.map pInts++[pInts cl]=(C++[cl]).map pInts by simp,show C.length+1=(C++[cl]).length by simp]
 try rw [show D.map Zb++cl.map Zb=(D++cl).map Zb by simp,show D.length+cl.length=(D++cl).length by simp]
 first
  | (exact Zf (
      ⟨(i+1,h104,hdv,C++[cl],D),by show i+1<=cs.length;omega,ho104,hod,by show C++[cl]=_;rw [s3,Qc (by rw [hbo];exact hb97),hC],by show D=_;rw [s4,Qb (by rw [hbo,hb97];decide),Xo,hD]⟩
      ) (by show cs.length-(i+1)<cs.length-i;omega) sB sB)
  | (exact Zf (
      ⟨(i+1,hcv,h110,C,D++cl),by show i+1<=cs.length;omega,hoc,ho110,by show C=_;rw [s3,Qb (by rw [hbo,hb97];decide),Xo,hC],by show D++cl=_;rw [s4,Qc (by rw [hbo,hb97];rfl),hD];simp⟩
      ) (by show cs.length-(i+1)<cs.length-i;omega) sB sB))
 . (
 refine Zi ?_;refine xL 105 Za (xL 106 Za (xL 107 Za (xL 108 (Ze ZQ) ?_)));refine yU (Zu YA) fun v109=>?_;refine W5 201 110 YW (fun h110 ho110=>?_) e2 e3;refine K5 ?_;try refine ZK (ZM (l:=104) 200 rfl rfl) fun _=>?_
 try refine ZK (ZM (l:=110) 201 rfl rfl) fun _=>?_
 try rw [show C.map pInts++[pInts cl]=(C++[cl]).map pInts by simp,show C.length+1=(C++[cl]).length by simp]
 try rw [show D.map Zb++cl.map Zb=(D++cl).map Zb by simp,show D.length+cl.length=(D++cl).length by simp]
 first
  | (exact Zf (
      ⟨(i+1,h104,hdv,C++[cl],D),by show i+1<=cs.length;omega,ho104,hod,by show C++[cl]=_;rw [s3,Qc (by rw [hbo];exact hb97),hC],by show D=_;rw [s4,Qb (by rw [hbo,hb97];decide),Xo,hD]⟩
      ) (by show cs.length-(i+1)<cs.length-i;omega) sB sB)
  | (exact Zf (
      ⟨(i+1,hcv,h110,C,D++cl),by show i+1<=cs.length;omega,hoc,ho110,by show C=_;rw [s3,Qb (by rw [hbo,hb97];decide),Xo,hC],by show D++cl=_;rw [s4,Qc (by rw [hbo,hb97];rfl),hD];simp⟩
      ) (by show cs.length-(i+1)<cs.length-i;omega) sB sB))))
 . (
 refine nav ?_;have hil:i=cs.length:=oM;(have hCe:C=cs.filter (Gd l.length E S F):=by rw [hC,hil,Xx]);(have hDe:D=A++(cs.filter fun c=> !Gd l.length E S F c).flatten:=by rw [hD,hil,Xx]);refine Zq (En.freeze (l:=201) (t:=7) rfl rfl) fun _=>?_;rw [W6 _ _ _ rfl];refine Zq (En.freeze (l:=200) (t:=8) rfl rfl) fun _=>?_;rw [KJ _ _ _ rfl];dsimp only [KR];(have e6:(C.map pInts).length=C.length*1:=by rw [Xc,XI]);(have e7:(C.map pInts).all En.one=true:=by rw [VI,Xj];intro x _;rfl);refine LN ?_;refine WC (kk:=1) 112 Yv fun h112 ho112=>?_;refine ZN ?_;refine W5 112 114 Yv (fun h114 ho114=>?_) e6 e7;refine ZP ?_;refine YO (En.freeze (l:=114) (t:=2) rfl rfl) fun _=>?_;rw [Gu _ _ _ (PQ l.length E S F cs) (by unfold PQ;rw [<-hA,<-hCe,<-hDe];rfl) (by unfold PQ;rw [<-hCe,Xi];omega)];exact Zg (results235) rfl (.inr ⟨by rw [<-hA];exact X5.1 hAp,cs,hcs,rfl⟩))))
def PR (o:Option Cut):PV:=Zr o.isSome
theorem HV (o:Option Cut):shD (.tup [JY o,PR o])=true:=by cases o<;>rfl
theorem ZnT {n:Nat} {c:List Int} (h:c.Nodup) (hb:∀x∈c,0<=x/\x<n):c.length<=n:=by
 have:=JH h (m:=upTo n) fun x hx=>YR.2 (hb x hx)
 rw [JJ] at this;exact this
theorem ZfK {n:Nat} {l:List Int} {r:Int->Int->Bool} {cs:List (List Int)} (hc:Comps l r cs) (hl:∀x∈l,0<=x/\x<n):∀c∈cs,c.Nodup/\∀x∈c,0<=x/\x<n:=fun c h=>⟨(hc.asc c h).imp fun h=>oM,fun x hx=>hl x ((hc.mem x).1 (XO.2 ⟨c,h,hx⟩))⟩
theorem Zcu {n:Nat} {r:Int->Int->Bool} {W:List Int->Bool} {cs:List (List Int)} (hc:Comps (upTo n) r cs):(∀c∈GI W cs,c.Nodup/\∀x∈c,0<=x/\x<n)/\(GI W cs).length<=n:=by
 have hin:=Jo hc
 have hlen:=VC W cs
 have hperm0:=J5 (Jh W cs)
 rw [XZ] at hperm0
 cases hf:cs.filter W with
 |nil=>unfold GI;rw [hf];exact ⟨fun c h=>by simp at h,sM⟩
 | cons c0 t=>
   rw [CI hf];rw [hf] at hlen hperm0;have hmem:∀c∈c0::t,c∈cs:=fun c hm=>(XF.1 (hf▸hm)).1;have hperm:(c0++(cs.filter fun c=> !W c).flatten++t.flatten).Perm cs.flatten:=by
    refine .trans ?_ hperm0;rw [XP,XH,XH];exact (VZ).append_left c0
   have hnd:(c0++(cs.filter fun c=> !W c).flatten++t.flatten).Nodup:=(hperm.pairwise_iff (R:=(· ≠ ·)) fun h=>Ne.symm h).2 hc.nd;refine ⟨fun c hm=>?_,by simp only [Xi] at hlen ⊢;omega⟩;rcases Xh.1 hm with rfl|hm
   . exact ⟨(X6.1 hnd).1,fun x hx=>YR.1 ((hc.mem x).1 (hperm.mem_iff.1 (U3 _ hx)))⟩
   . have h1:=hmem c (by simp [hm]);exact ⟨(hc.asc c h1).imp fun h=>oM,hin.1 c h1⟩
theorem ZpR {n:Nat} {E:Nat->Nat->Bool} {r:Int->Int->Bool} {S F:Nat->Bool} {cs:List (List Int)} (hc:Comps (S1 n S F) r cs):(∀c∈PQ n E S F cs,c.Nodup/\∀x∈c,0<=x/\x<n)/\(PQ n E S F cs).length<=n+1:=by
 have hin:∀c∈cs,∀x∈c,x∈S1 n S F:=(RZ hc).1
 have hbd:∀c∈cs,∀x∈c,0<=x/\x<n:=fun c h x hx=>Py.2 x (hin c h x hx)
 refine ⟨fun c hm=>?_,?_⟩
 . unfold PQ at hm;rcases Xh.1 hm with rfl|hm
   . refine ⟨?_,fun x hx=>?_⟩
     . rw [X6];refine ⟨((LQ n).filter _).imp fun h=>oM,?_,fun a ha b hb e=>?_⟩
       . have h1:=J5 (Jh (Gd n E S F) cs);have h2:=(h1.pairwise_iff (R:=(· ≠ ·)) fun h=>Ne.symm h).2 hc.nd;rw [XZ] at h2;exact (X6.1 h2).2.1
       . subst e;obtain ⟨c,hcm,hx⟩:=XO.1 hb;have h1:=hin c (XF.1 hcm).1 a hx;unfold inL at ha;unfold S1 at h1;have h2:=(XF.1 ha).2;have h3:=(XF.1 h1).2;rw [h2] at h3;exact Qd h3 dC
     . rcases XB.1 hx with h|h
       . exact EE.2 x h
       . obtain ⟨c,hcm,hx⟩:=XO.1 h;exact hbd c (XF.1 hcm).1 x hx
   . have h1:=(XF.1 hm).1;exact ⟨(hc.asc c h1).imp fun h=>oM,hbd c h1⟩
 . have h1:=(RZ hc).2.1;have h2:=VC (Gd n E S F) cs;have h3:=(Py (n:=n) (S:=S) (F:=F)).1;unfold PQ;rw [Xi];omega
theorem HW (l:List BA) (n:Nat) (E R:Nat->Nat->Bool) (S F:Nat->Bool) (kind:Int) (cs:List (List Int)) (hl:l.length=n) (hn:n<=1000) (hcs:∀c∈cs,c.Nodup/\∀x∈c,0<=x/\x<n) (hcl:cs.length<=1000000):AF prog 230 [.agg (Jm l n E R S F),Zb kind,KR cs] (fun p=>∃i:{o//o=GQ l kind (cs.map (Kf n))},p= .tup [JY i.1,PR i.1]):=by
 by_cases h:cs.length<2
 . refine (Zkl l n E R S F kind cs h).mono fun p hp=>⟨⟨_,rfl⟩,?_⟩;unfold GQ;rw [hp,Qc (by rw [Xc];exact h)];rfl
 . refine (Zkm l n E R S F kind cs hl hn oM (fun c hc=>⟨(hcs c hc).1,by have:=ZnT (hcs c hc).1 (hcs c hc).2;omega⟩) hcl).mono fun p hp=>⟨⟨_,rfl⟩,?_⟩;unfold GQ;rw [hp,Qb (by rw [Xc];exact h)];rfl
theorem Zhi (l:List BA) (n:Nat) (E:Nat->Nat->Bool) (S F:Nat->Bool) (cs:List (List Int)) (hn:n<=1000) (hc:Comps (upTo n) (relS (ZV n E)) cs):AF prog 231 [.agg (Jm l n E (ZV n E) S F),KR cs] (fun p=>∃out,out.Perm cs/\out.Pairwise (DI (ZV n E))/\p=KR out):=by
 have hin:=Jo hc
 refine ZgN l n E (ZV n E) S F cs hn (fun c h=>⟨hc.ne c h,hin.1 c h⟩) oM ?_ ?_
 . exact List.Pairwise.imp_of_mem (fun {a b} ha hb hab=>GG hc ha hb hab) (Ze7 hc)
 . intro c h d h' e h'' h1 h2;have b1:=hin.1 c h _ (JK (hc.ne c h));have b2:=hin.1 d h' _ (JK (hc.ne d h'));have b3:=hin.1 e h'' _ (JK (hc.ne e h''));exact (GD n E).2 _ _ _ oM oM oM h1 h2
def ZnU (n:Nat) (E:Nat->Nat->Bool) (S F:Nat->Bool) (xs:List (List Int)):Prop:=(inL n S F=[]/\xs=[])\/(inL n S F≠[]/\∃cs,Comps (marked n fun i=> !S i&& !F i) (TZ E (ZV n E) 1) cs/\xs=PQ n E S F cs)
theorem ZfL {n:Nat} {E:Nat->Nat->Bool} {S F:Nat->Bool} {xs:List (List Int)} (h:ZnU n E S F xs):(∀c∈xs,c.Nodup/\∀x∈c,0<=x/\x<n)/\xs.length<=n+1:=by
 rcases h with ⟨_,rfl⟩|⟨_,cs,h2,rfl⟩
 . exact ⟨fun c h=>by simp at h,Xg _⟩
 . rw [DJ] at h2;exact ZpR h2
theorem ZpS {l:List BA} {n:Nat} {E:Nat->Nat->Bool} {S F:Nat->Bool} {xs:List (List Int)} {o:Option Cut} (h:ZnU n E S F xs) (ho:o=GQ l 4 (xs.map (Kf n))):Zkn l n E S F 3 o:=by
 rcases h with ⟨h1,rfl⟩|⟨h1,cs,h2,rfl⟩
 . exact .inl ⟨h1,ho⟩
 . exact .inr ⟨h1,cs,h2,ho⟩
theorem Zld (l:List BA) (n:Nat) (E:Nat->Nat->Bool) (S F:Nat->Bool) (hl:l.length=n) (hn:n<=1000):AF prog 235 [.agg (Jm l n E (ZV n E) S F)] (fun p=>∃xs:{xs:List (List Int)//ZnU n E S F xs},p=KR xs.1):=
 (Zlc l n E (ZV n E) S F hl hn).mono fun p hp=>by
   rcases hp with ⟨h1,rfl⟩|⟨h1,cs,h2,rfl⟩
   . exact ⟨⟨[], .inl ⟨h1,rfl⟩⟩,rfl⟩
   . exact ⟨⟨_, .inr ⟨h1,cs,h2,rfl⟩⟩,rfl⟩
theorem ZnV (g:Dfg) (l:List BA) (n:Nat) (E:Nat->Nat->Bool) (S F:Nat->Bool) (kind:Int) (hk:1<=kind/\kind<=4) (hv:AF prog 229 [Jb g] (· = .agg (Jm l n E (ZV n E) S F))) (hl:l.length=n) (hn:n<=1000):AF prog 186 [Jb g,Zb kind] (fun p=>∃i:{o//Zkn l n E S F (kind.toNat-1) o},p= .tup [JY i.1,PR i.1]):=by
 refine AF.b2 57 func186 rfl ntmps186 (Xa rfl) ?_
 rintro w0 M0 v0 _-rfl
 dsimp only [Jm] at hv
 refine Zi ?_
 refine Yi 2 4 fun h2=>?_;refine Zt [(.int .i64 0),(.slice none 0 0)] 2 4 WW fun h4=>?_;refine ZX ?_
 refine yU (Zn 2 Yu) fun v7=>?_;refine cD (cA call229 (hv)) fun v8 hv8=>?_;clear hv8;refine Zt [(.slice none 0 0),(.slice none 0 0),(.slice none 0 0),(.slice none 0 0),(.slice none 0 0)] 5 6 DD fun h6=>?_;refine Zp 6 YX ?_;refine Ym ?_;refine ZX ?_;refine WZ ?_ ?_<;>intro hb10
 . (
 obtain rfl:kind=2:=oM;refine nav ?_;(refine YJ [] [2,6] ?_<;>(refine yD 0 rfl (Zn 6 YX) fun v12 h=>?_;cases h)<;>refine xD 1 rfl Za ?_<;>(refine yD 2 rfl (Zn 6 YX) fun v14 h=>?_;cases h)<;>(refine yD 3 rfl (Zn 6 YX) fun v15 h=>?_;cases h)<;>refine xD 4 rfl Za ?_<;>(refine yE 5 rfl (Zn 6 YX) fun v17 h=>?_;cases h)<;>(refine aDr 6 fun bk=>?_)<;>(refine cO 18 (cA call233 (Zae l n E (ZV n E) S F hl hn)) fun v18 ho18=>?_;refine Zz (En.freeze (l:=18) (t:=18) rfl rfl) fun _=>?_;rw [Jk])<;>refine bE bk ?_<;>(refine aDr 7 fun bk=>?_)<;>(refine LC 19 rfl rfl (Xa rfl) rfl (cA call232 (Pz l n E (ZV n E) S F 2 (fun _=>true) hl hn)) ?_;rintro p' ⟨cs,hcs,rfl⟩;refine ⟨rfl,fun h19 ho19=>?_⟩;have hcs':=hcs;rw [Tn] at hcs';have hcs2:=Zah hcs' fun x _ y _ _=>Zqu x y;refine Zz (En.freeze (l:=19) (t:=19) rfl rfl) fun _=>?_;rw [KJ _ _ _ rfl])<;>refine bE bk ?_<;>(refine aDr 8 fun bk=>?_)<;>(refine P4 20 rfl rfl (Xa rfl) (cA call231 (Zhi l n E S F cs hn hcs2)) ?_;rintro p' ⟨out,hpo,hso,rfl⟩;refine ⟨rfl,?_⟩;intro v20 hv20)<;>refine bE bk ?_<;>(refine aDr 9 fun bk=>?_)<;>(refine cPx 21 (cA call230 (HW l n E (ZV n E) S F 2 out hl hn (fun c h=>ZfK hcs2 (fun x hx=>YR.1 hx) c (hpo.mem_iff.1 h)) (by have:=(Jo hcs2).2.1;rw [hpo.length_eq];omega))) (fun i va21 vb21 hva21 hvb21=>?_) (fun i=>HV i.1);rcases i with ⟨_|cc,hq⟩<;>(dsimp only [JY,PR] at hva21 hvb21 ⊢;cases hvb21))<;>refine bE bk ?_<;>refine xD 10 rfl Y4 ?_<;>refine xE 11 rfl Y4 ?_<;>(refine aDr 12 fun bk=>?_)<;>refine Zp 4 Z6 ?_<;>refine bE bk ?_<;>refine xE 13 rfl ZJ ?_<;>refine WE ?_)<;>(
 first
  |exact Yb (k:=2) 4 kR (results186) rfl rfl rfl (Xa rfl) dC rfl ⟨⟨none,cs,out,hcs,hpo,hso,hq⟩,rfl⟩
  |exact Yb (k:=2) 4 kR (results186) rfl rfl rfl (Xa rfl) dC rfl ⟨⟨some cc,cs,out,hcs,hpo,hso,hq⟩,rfl⟩))
 . (
 refine Kj ?_ ?_<;>intro hb24
 . (
 obtain rfl:kind=3:=oM;refine nav ?_;(refine YJ [] [2,6] ?_<;>(refine yD 0 rfl (Zn 6 YX) fun v26 h=>?_;cases h)<;>refine xD 1 rfl Za ?_<;>(refine yD 2 rfl (Zn 6 YX) fun v28 h=>?_;cases h)<;>(refine yD 3 rfl (Zn 6 YX) fun v29 h=>?_;cases h)<;>refine xD 4 rfl Za ?_<;>(refine yE 5 rfl (Zn 6 YX) fun v31 h=>?_;cases h)<;>(refine aDr 6 fun bk=>?_)<;>(refine cO 32 (cA call233 (Zae l n E (ZV n E) S F hl hn)) fun v32 ho32=>?_;refine Zz (En.freeze (l:=32) (t:=32) rfl rfl) fun _=>?_;rw [Jk])<;>refine bE bk ?_<;>(refine aDr 7 fun bk=>?_)<;>(refine LC 33 rfl rfl (Xa rfl) rfl (cA call232 (Pz l n E (ZV n E) S F 3 (fun _=>true) hl hn)) ?_;rintro p' ⟨cs,hcs,rfl⟩;refine ⟨rfl,fun h33 ho33=>?_⟩;have hcs':=hcs;rw [Tn] at hcs';refine Zz (En.freeze (l:=33) (t:=33) rfl rfl) fun _=>?_;rw [KJ _ _ _ rfl])<;>refine bE bk ?_<;>(refine aDr 8 fun bk=>?_)<;>(refine P4 34 rfl rfl (Xa rfl) (cA call234 (Zla l n E (ZV n E) S F cs _ hn hcs')) ?_;rintro p' ⟨out,hpo,hso,rfl⟩;refine ⟨rfl,?_⟩;intro v34 hv34)<;>refine bE bk ?_<;>(refine aDr 9 fun bk=>?_)<;>(refine cPx 35 (cA call230 (HW l n E (ZV n E) S F 3 out hl hn (fun c h=>(Zcu hcs').1 c (hpo.mem_iff.1 h)) (by have:=(Zcu (W:=Yc S F) hcs').2;rw [hpo.length_eq];omega))) (fun i va35 vb35 hva35 hvb35=>?_) (fun i=>HV i.1);rcases i with ⟨_|cc,hq⟩<;>(dsimp only [JY,PR] at hva35 hvb35 ⊢;cases hvb35))<;>refine bE bk ?_<;>refine xD 10 rfl Y4 ?_<;>refine xE 11 rfl Y4 ?_<;>(refine aDr 12 fun bk=>?_)<;>refine Zp 4 Z6 ?_<;>refine bE bk ?_<;>refine xE 13 rfl ZJ ?_<;>refine WE ?_)<;>(
 first
  |exact Yb (k:=2) 4 kR (results186) rfl rfl rfl (Xa rfl) dC rfl ⟨⟨none,cs,out,hcs,hpo,hso,hq⟩,rfl⟩
  |exact Yb (k:=2) 4 kR (results186) rfl rfl rfl (Xa rfl) dC rfl ⟨⟨some cc,cs,out,hcs,hpo,hso,hq⟩,rfl⟩))
 . (
 refine Kj ?_ ?_<;>intro hb38
 . (
 obtain rfl:kind=4:=oM;refine nav ?_;(refine YJ [] [2,6] ?_<;>(refine yD 0 rfl (Zn 6 YX) fun v40 h=>?_;cases h)<;>refine xD 1 rfl Za ?_<;>(refine yE 2 rfl (Zn 6 YX) fun v42 h=>?_;cases h)<;>(refine aDr 3 fun bk=>?_)<;>(refine P4 43 rfl rfl (Xa rfl) (cA call235 (Zld l n E S F hl hn)) ?_;rintro p' ⟨⟨xs,hxs⟩,rfl⟩;refine ⟨rfl,?_⟩;intro v43 hv43;dsimp only)<;>refine bE bk ?_<;>(refine aDr 4 fun bk=>?_)<;>(refine cPx 44 (cA call230 (HW l n E (ZV n E) S F 4 xs hl hn (ZfL hxs).1 (by have:=(ZfL hxs).2;omega))) (fun i va44 vb44 hva44 hvb44=>?_) (fun i=>HV i.1);have hq0:Zkn l n E S F 3 i.1:=ZpS hxs i.2;rcases i with ⟨_|cc,hq⟩<;>(dsimp only [JY,PR] at hva44 hvb44 ⊢;cases hvb44))<;>refine bE bk ?_<;>refine xD 5 rfl Y4 ?_<;>refine xE 6 rfl Y4 ?_<;>(refine aDr 7 fun bk=>?_)<;>refine Zp 4 Z6 ?_<;>refine bE bk ?_<;>refine xE 8 rfl ZJ ?_<;>refine WE ?_)<;>(
 first
  |exact Yb (k:=2) 4 kR (results186) rfl rfl rfl (Xa rfl) dC rfl ⟨⟨none,hq0⟩,rfl⟩
  |exact Yb (k:=2) 4 kR (results186) rfl rfl rfl (Xa rfl) dC rfl ⟨⟨some cc,hq0⟩,rfl⟩))
 . (
 obtain rfl:kind=1:=oM;refine nav ?_;(refine YJ [] [2,6] ?_<;>(refine yD 0 rfl (Zn 6 YX) fun v47 h=>?_;cases h)<;>refine xD 1 rfl Za ?_<;>(refine yD 2 rfl (Zn 6 YX) fun v49 h=>?_;cases h)<;>refine xD 3 rfl Za ?_<;>(refine yE 4 rfl (Zn 6 YX) fun v51 h=>?_;cases h)<;>(refine aDr 5 fun bk=>?_)<;>(refine cO 52 (cA call233 (Zae l n E (ZV n E) S F hl hn)) fun v52 ho52=>?_;refine Zz (En.freeze (l:=52) (t:=52) rfl rfl) fun _=>?_;rw [Jk])<;>refine bE bk ?_<;>(refine aDr 6 fun bk=>?_)<;>(refine LC 53 rfl rfl (Xa rfl) rfl (cA call232 (Pz l n E (ZV n E) S F 1 (fun _=>true) hl hn)) ?_;rintro p' ⟨cs,hcs,rfl⟩;refine ⟨rfl,fun h53 ho53=>?_⟩;have hcs':=hcs;rw [Tn] at hcs';refine Zz (En.freeze (l:=53) (t:=53) rfl rfl) fun _=>?_;rw [KJ _ _ _ rfl])<;>refine bE bk ?_<;>(refine aDr 7 fun bk=>?_)<;>(refine cPx 54 (cA call230 (HW l n E (ZV n E) S F 1 cs hl hn (ZfK hcs' fun x hx=>YR.1 hx) (by have:=(Jo hcs').2.1;omega))) (fun i va54 vb54 hva54 hvb54=>?_) (fun i=>HV i.1);rcases i with ⟨_|cc,hq⟩<;>(dsimp only [JY,PR] at hva54 hvb54 ⊢;cases hvb54))<;>refine bE bk ?_<;>refine xD 8 rfl Y4 ?_<;>refine xE 9 rfl Y4 ?_<;>(refine aDr 10 fun bk=>?_)<;>refine Zp 4 Z6 ?_<;>refine bE bk ?_<;>refine xE 11 rfl ZJ ?_<;>refine WE ?_)<;>(
 first
  |exact Yb (k:=2) 4 kR (results186) rfl rfl rfl (Xa rfl) dC rfl ⟨⟨none,cs,hcs,hq⟩,rfl⟩
  |exact Yb (k:=2) 4 kR (results186) rfl rfl rfl (Xa rfl) dC rfl ⟨⟨some cc,cs,hcs,hq⟩,rfl⟩))))
theorem Zle (g:Dfg) (l:List BA) (n:Nat) (E:Nat->Nat->Bool) (S F:Nat->Bool) (hv:AF prog 229 [Jb g] (· = .agg (Jm l n E (ZV n E) S F))) (hl:l.length=n) (hn:n<=1000):AF prog 126 [Jb g] (fun p=>∃i:{o//R3 (Zkn l n E S F) o},p= .tup [JY i.1,PR i.1]):=by
 refine AF.b1 20 func126 rfl ntmps126 (Xa rfl) fun w0 M0 v0 _=>?_
 refine Zi ?_
 refine Yi 1 4 fun h1=>?_;refine Zt [(.int .i64 0),(.slice none 0 0)] 2 2 WW fun h2=>?_;refine KA ?_
 refine Yq (ι:={x:Int//1<=x/\x<=5/\∀j:Nat,(j:Int)+1<x->Zkn l n E S F j none}) (fun k=>⟨[(1,_,_),(2,_,_),(4, .int .i64 k.1,Zb k.1)],[(1,_,_),(2,_,_)]⟩) (fun k=>(5-k.1).toNat) ⟨1,dC,dC,fun j h=>oM⟩ ?_
 rintro ⟨k,hk1,hk5,hQ⟩
 dsimp only
 try dsimp only at hk1 hk5 hQ
 refine Kj ?_ ?_<;>intro hb8
 . (
 refine Zi ?_;(refine yU (Zn 1 Yu) fun v12=>?_<;>refine ZN ?_<;>(refine cPx 14 (cA call186 (ZnV g l n E S F k ⟨hk1,oM⟩ hv hl hn)) (fun i va14 vb14 hva14 hvb14=>?_) (fun i=>HV i.1);rcases i with ⟨_|cc,hq⟩<;>(dsimp only [JY,PR] at hva14 hvb14 ⊢;cases hvb14))<;>refine Y1 ?_<;>refine Zt [(.int .i64 0),(.slice none 0 0)] 2 5 WW fun h5=>?_<;>refine Zp 5 Z6 ?_<;>refine ZN ?_<;>refine Zw ?_)<;>(
 refine Zo ?_;refine Wl ?_ ?_<;>intro hb17
 . first|exact bN hb17|(
 refine Zi ?_;refine yU (Zn 5 Z6) fun v18=>?_;refine Zp 2 Z6 ?_;refine ZP ?_;exact Yb (k:=2) 2 kR (results126) rfl rfl rfl (Xa rfl) dC rfl ⟨⟨some cc, .inl ⟨k.toNat-1,cc,oM,fun j hj=>hQ j oM,hq,rfl⟩⟩,rfl⟩)
 . first|exact bN hb17|(
 refine Y2 ?_;refine Zf (
  ⟨k+1,oM,oM,fun j hj=>by
   by_cases e:(j:Int)+1=k
   . rw [show j=k.toNat-1 by omega];exact hq
   . exact hQ j oM⟩
  ) (by show (5-(k+1)).toNat<(5-k).toNat;omega) sB sB)))
 . (
 refine Zi ?_;refine xM (ZC Tm) ?_;refine Zp 2 Z6 ?_;refine ZP ?_;exact Yb (k:=2) 2 kR (results126) rfl rfl rfl (Xa rfl) dC rfl ⟨⟨none, .inr ⟨fun j hj=>hQ j oM,rfl⟩⟩,rfl⟩)
theorem Zlf (g:Dfg) (hg:g.acts.length<=1000000):AF prog 127 [Jb g] (· =ZW (cnames g.acts)):=by
 refine AF.b1 6 func127 rfl ntmps127 (Xa rfl) fun w0 M0 v0 _=>?_
 refine Zi ?_
 refine Yi 1 4 fun h1=>?_;refine ZX ?_
 refine xM (Zc 1 KE) ?_;refine yU (Zh 1 YM) fun v4=>?_;refine cU (cA call187 (ZgH g.acts hg)) fun v5=>?_;refine ZP ?_
 exact Zg results127 rfl rfl
theorem Se (l : List Var) (t : Nd) (hl:l.length<=1000000) (h0:∀u,K' l=some u->t=u) (h1:∀x l',l=x::l'->K' l=none->Zqw 81 124 126 128 id (Y6 l) PR t x l'):AF prog 81 [Z1 l] (· = .tup [pTr t,Zb 0]):=by
 have hB:=(Zcr l).reread (ZaS l) (EX l)
 obtain ⟨bt,hbt⟩:∃bt,bt=K' l:=⟨_,rfl⟩
 rw [<-hbt] at hB
 have eB:∀u:Nd,pTr u= .agg [Zb u.op,Zv u.act,YN u.l]:=fun _=>rfl
 refine AF.b1 128 func81 rfl ntmps81 (Xa rfl) fun w0 M0 v0 _=>?_
 refine Zi ?_
 refine Zt zT 3 2 Yp fun h2=>?_;refine ZX ?_
 (refine ZN ?_ <;> (rcases bt with _|bt<;>(dsimp only [Option.getD,Option.isSome] at hB;refine cP 21 (cA call32 hB) fun va21 vb21 hva21 h=>?_;cases h))<;>refine Y1 ?_<;>refine Zt zT 3 4 Yp fun h4=>?_<;>refine Zp 4 Zk ?_<;>refine ZN ?_<;>refine Zw ?_)<;>(
 refine Zo ?_;refine Wl ?_ ?_<;>intro hb24
 . first|exact bN hb24|(
 refine Zi ?_;refine yU (Zn 4 Zk) fun v25=>?_;refine Zp 2 Zk ?_;refine ZP ?_;refine Yb (k:=3) 2 kR (results81) rfl rfl rfl (Xa rfl) dC rfl ?_;rw [h0 _ hbt.symm];rfl)
 . first | exact bN hb24 | (
 (obtain ⟨x,l',rfl⟩:∃x l',l=x::l':=by cases l with|nil=>cases hbt|cons x l'=>exact ⟨x,l',rfl⟩);obtain ⟨h2,h3⟩:=h1 x l' rfl hbt.symm;have e1:((x::l').flatMap Wo)[0*2+0]? =some (ZW x.acts):=rfl;(have e2:0*2+2<=((x::l').flatMap Wo).length:=by rw [Xr,Xf];show 2<=2+_;omega);have e3:0<(x::l').length:=Va _;have hcl:((x::l').flatMap Wo).length=(x::l').length*2:=Ya Z0 _;refine Zi ?_;refine xL 26 Za (xL 27 (Ze Zy) (xL 28 (Yn Z8) ?_));refine yU (Zu ZF) fun v29=>?_;refine xL 30 (Zs Zm) (xL 31 Ky ?_);refine ZE ?_ ?_<;>intro hb31
 . (
 obtain ⟨t1,hT1,ht⟩:=h2 (Xv oM);refine Wp ?_;refine xM (Wd (i:=1) (j:=(x::l').length) Zy rfl rfl rfl rfl (Va _) (Xd _) hcl) ?_;refine Zz (Ke (t:=34) (p':=Z1 l') rfl (EY x l')) fun _=>?_;refine cP 35 (cA call81 hT1) fun va35 vb35 hva35 hvb35=>?_;cases hvb35;refine Y1 ?_;refine Zt zT 3 6 Yp fun h6=>?_;refine Zp 6 Zk ?_;refine Jy ?_;refine xL (v:= .bool false) (p:= .val (.bool false)) 39 (LY (a:=0) (b:=0)) ?_;refine ZE ?_ ?_<;>intro hb39
 . exact bN hb39
 . (
 refine nav ?_;refine YJ [] [6] ?_<;>(refine yD 1 rfl (Zn 6 Zk) fun v43 h=>?_;cases h)<;>(refine ZY 0 kR ?_)<;>(refine Yo (d:=42) rfl (cA call90 TO) fun v42 h=>?_;cases h)<;>(refine aDr 2 fun bk=>?_)<;>(refine J' (kk:=3) (xs:=[_,_]) (cs:=[[_,_,_],[_,_,_]]) 44 Kb fun h44 ho44=>?_;refine Zz (En.freeze (l:=44) (t:=44) rfl rfl) fun _=>?_;refine Zz (Ke (t:=44) (p':=YN [sil,t1]) rfl (Eq.trans (show _=PV.sl 2 ([sil,t1].flatMap cN) from rfl) (Gn sil t1))) fun _=>?_)<;>refine bE bk ?_<;>refine xE 3 rfl (ZC YU) ?_<;>(refine aDr 4 fun bk=>?_)<;>refine Zp 2 Zk ?_<;>refine bE bk ?_<;>refine xE 5 rfl ZJ ?_<;>refine WE ?_;refine Yb (k:=3) 2 kR (results81) rfl rfl rfl (Xa rfl) dC rfl ?_;rw [ht];rfl))
 . (
 obtain ⟨g,hM,hgl,hFS⟩:=h3 (fun h=>hb31 (by rw [h];rfl));refine Wp ?_;refine cU (cA call125 (EW (x::l') hl)) fun v48=>?_;refine cP 49 (cA call124 (hM)) fun va49 vb49 hva49 hvb49=>?_;cases hvb49;refine Y1 ?_;refine Zt [(.slice none 0 0),(.slice none 0 0),(.slice none 0 0),(.slice none 0 0)] 4 8 JN fun h8=>?_;refine Zp 8 Yu ?_;refine Jy ?_;refine xL (v:= .bool false) (p:= .val (.bool false)) 53 (LY (a:=0) (b:=0)) ?_;refine ZE ?_ ?_<;>intro hb53
 . exact bN hb53
 . (
 refine Zi ?_;(refine yU (Zn 8 Yu) fun v57=>?_<;>(rcases hFS with ⟨hF,ht⟩|⟨c,out,ts,hF,hS,hts,hts2,htl,hol,hT,ht⟩<;>(dsimp only [JY,PR,Option.isSome,Pf] at hF;refine cP 58 (cA call126 hF) fun va58 vb58 hva58 h=>?_;cases h))<;>refine Y1 ?_<;>refine Zt [(.int .i64 0),(.slice none 0 0)] 2 10 WW fun h10=>?_<;>refine Zp 10 Z6 ?_<;>refine ZN ?_<;>refine Zw ?_)<;>(
 refine Zo ?_<;>refine ZN ?_<;>(first|refine xL (v:= .bool true) (p:= .val (.bool true)) 62 (LK (b:=false)) ?_|refine xL (v:= .bool false) (p:= .val (.bool false)) 62 (LK (b:=true)) ?_)<;>refine Zw ?_;refine cX ?_ ?_<;>intro hb62
 . first|exact bN hb62|(
 refine Zi ?_;refine yU (Zn 8 Yu) fun v63=>?_;refine cU (cA call127 (Zlf g hgl)) fun v64=>?_;refine cD (cA call34 (ZeL (cnames g.acts) (by unfold cnames;rw [Xc];exact hgl))) fun v65 hv65=>?_;clear hv65;refine Zp 2 Zk ?_;refine ZP ?_;refine Yb (k:=3) 2 kR (results81) rfl rfl rfl (Xa rfl) dC rfl ?_;rw [ht];rfl)
 . first | exact bN hb62|(
 refine nav ?_;refine YJ [] [10] ?_<;>refine xD 0 rfl Za ?_<;>(refine yD 2 rfl (Zn 10 Z6) fun v69 h=>?_;cases h)<;>(refine ZY 1 kR ?_)<;>(refine Yo (d:=68) rfl (cA call125 (EW (x::l') hl)) fun v68 h=>?_;cases h)<;>(refine ZY 3 kR ?_)<;>(refine ZeJ (d:=70) rfl (cA call128 hS) fun v70a v70b hv70a hv70b=>?_;cases hv70a;cases hv70b)<;>refine xE 4 rfl Za ?_<;>refine xD 5 rfl Y4 ?_<;>refine xD 6 rfl Y4 ?_<;>refine xE 7 rfl ZJ ?_<;>refine xE 8 rfl ZJ ?_<;>refine WE ?_;refine LN ?_;refine xL (v:= .bool false) (p:= .val (.bool false)) 74 (LY (a:=0) (b:=0)) ?_;refine ZE ?_ ?_<;>intro hb74
 . exact bN hb74
 . (
 refine JR ?_;refine Zq (YS 201 51 3 rfl) fun _=>?_;refine Yq (ι:={x:Nat×Value//x.1<=out.length}) (fun k=>⟨[(2,_,_),(10,_,_),(12,_,_),(14,k.1.2, .val k.1.2),(15, .int .i64 k.1.1,Zb k.1.1)],[(2,_,_),(10,_,_),(201,k.1.2, .own 51 3 k.1.1 ((ts.take k.1.1).flatMap cN))]⟩) (fun k=>out.length-k.1.1) ⟨(0, .slice none 0 0),oM⟩ ?_;rintro ⟨⟨k,h14⟩,hk⟩;dsimp only;dsimp only at hk;refine Zi ?_;refine xL 77 Za (xL 78 Za (xL 79 (Zs JO) (xL 80 Yj ?_)));refine ZE ?_ ?_<;>intro hb80
 . (
 obtain ⟨r,hr⟩:=gS out k;obtain ⟨u,hu⟩:=gS ts k;have e4:=Yh (f:=Z1) hr;have e5:=CH ts k oM;have hTu:=hT k r u hr hu;refine Zi ?_;refine xL 84 Za (xL 85 Za (xL 86 (Ze JO) ?_));refine yU (Zu Tq) fun v87=>?_;refine cP 88 (cA call81 (hTu)) fun va88 vb88 hva88 hvb88=>?_;cases hvb88;refine Y1 ?_;refine Zt zT 3 16 Yp fun h16=>?_;refine Zp 16 Zk ?_;refine Jy ?_;refine xL (v:= .bool false) (p:= .val (.bool false)) 92 (LY (a:=0) (b:=0)) ?_;refine ZE ?_ ?_<;>intro hb92
 . exact bN hb92
 . (
 refine Wp ?_;refine yU (Zn 16 Zk) fun v96=>?_;refine WH 97 Kb fun h97 ho97=>?_;refine Wc 201 97 98 Kb fun h98 ho98=>?_;refine K5 ?_;refine ZK (ZM (l:=98) 201 rfl rfl) fun _=>?_;refine ZK (Wv (l:=201) rfl (show PV.own 51 3 (k+1) ((ts.take k).flatMap cN++cN u)=PV.own 51 3 (k+1) ((ts.take (k+1)).flatMap cN) by rw [ZiT ts k hu])) fun _=>?_;refine Yr (
  ⟨(k+1,h98),by show k+1<=out.length;omega⟩
  )))
 . (
 obtain rfl:k=out.length:=oM;rw [show ts.take out.length=ts by rw [<-hts];exact Xx];refine nav ?_;refine Zq (En.freeze (l:=201) (t:=14) rfl rfl) fun _=>?_;rw [<-W2,JC _ _ _ hts.symm];refine Zo ?_;refine xM (Zc 10 Jn) ?_;refine yV (Zh 10 ZH) ?_;refine Ym ?_;refine WZ ?_ ?_<;>intro hb101
 . (
 refine Zi ?_;refine xL 103 Za (xL 104 (ZC YU) ?_);refine Zp 2 Zk ?_;refine ZP ?_;refine Yb (k:=3) 2 kR (results81) rfl rfl rfl (Xa rfl) dC rfl ?_;rw [ht];unfold DZ;rw [Qc oM];rfl)
 . (
 refine Kj ?_ ?_<;>intro hb105
 . (
 refine Zi ?_;refine xL 107 Za (xL 108 (ZC YU) ?_);refine Zp 2 Zk ?_;refine ZP ?_;refine Yb (k:=3) 2 kR (results81) rfl rfl rfl (Xa rfl) dC rfl ?_;rw [ht];unfold DZ;rw [Qb oM,Qc oM];rfl)
 . (
 refine Kj ?_ ?_<;>intro hb109
 . (
 refine Zi ?_;refine xL 111 Za (xL 112 (ZC YU) ?_);refine Zp 2 Zk ?_;refine ZP ?_;refine Yb (k:=3) 2 kR (results81) rfl rfl rfl (Xa rfl) dC rfl ?_;rw [ht];unfold DZ;rw [Qb oM,Qb oM,Qc oM];rfl)
 . (
 refine nav ?_;obtain ⟨a,b,ts',rfl⟩:∃a b ts',ts=a::b::ts':=by match ts,hts2 with|a::b::m,_=>exact ⟨a,b,m,rfl⟩
 have e4:=Ye (l:=a::b::ts') (k:=0) (x:=a) rfl;have e5:0<(a::b::ts').length:=Va _;have e7:=Ye (l:=a::b::ts') (k:=1) (x:=b) rfl;have e8:1<(a::b::ts').length:=Nat.succ_lt_succ (Va _);have e6:=TK (a::b::ts');refine Zo ?_;refine xL 113 Za (xL 114 (Ze K1) ?_);refine yU (Wn Zk) fun v115=>?_;refine Zt zT 3 18 Yp fun h18=>?_;refine Zp 18 Zk ?_;refine Ym ?_;refine xL 116 Za (xL 117 (Zs K1) (xL 118 Jw ?_));refine ZE ?_ ?_<;>intro hb118
 . (
 refine Wp ?_;refine xM (Wd (i:=1) (j:=(a::b::ts').length) K1 rfl rfl rfl rfl (Va _) (Xd _) e6) ?_;refine xM (ZC YU) ?_;refine Zp 18 Zk ?_;refine Zw ?_;refine Zq (Wv (l:=18) rfl (show PV.own 51 3 1 [Zb 4,Zv ByteArray.empty,PV.sl ((a::b::ts').length-1) (((Z9 (a::b::ts')).drop (1*3)).take (((a::b::ts').length-1)*3))]=PV.own 51 3 1 (cN (WP 4 (b::ts'))) by rw [ζR (m:=a::b::ts') (k:=1) oM];rfl)) fun _=>?_;refine YJ [] [18] ?_<;>refine xD 0 rfl Za ?_<;>refine xD 1 rfl (Ze K1) ?_<;>(refine yD 2 rfl (Wn Zk) fun v124 h=>?_;cases h)<;>(refine yE 3 rfl (Zn 18 Zk) fun v125 h=>?_;cases h)<;>(refine aDr 4 fun bk=>?_)<;>(refine J' (kk:=3) (xs:=[_,_]) (cs:=[[_,_,_],[_,_,_]]) 126 Kb fun h126 ho126=>?_;refine Zz (En.freeze (l:=126) (t:=126) rfl rfl) fun _=>?_;first|(refine Zz (Ke (t:=126) (p':=YN [a,b]) rfl (Eq.trans (show _=PV.sl 2 ([a,b].flatMap cN) from rfl) (Gn a b))) fun _=>?_)|(refine Zz (Ke (t:=126) (p':=YN [a,WP 4 (b::ts')]) rfl (Eq.trans (show _=PV.sl 2 ([a,WP 4 (b::ts')].flatMap cN) from rfl) (Gn a (WP 4 (b::ts'))))) fun _=>?_))<;>refine bE bk ?_<;>refine xE 5 rfl (ZC YU) ?_<;>(refine aDr 6 fun bk=>?_)<;>refine Zp 2 Zk ?_<;>refine bE bk ?_<;>refine xE 7 rfl ZJ ?_<;>refine WE ?_;refine Yb (k:=3) 2 kR (results81) rfl rfl rfl (Xa rfl) dC rfl ?_
 first
  |(rw [ht,ZaQ ⟨oM,oM,oM⟩ oM];rfl)
  |(rw [ht,ZaR ⟨oM,oM,oM⟩ oM];obtain rfl:ts'=[]:=Xv (by have h9:=hb118;simp only [Xi] at h9;omega);rfl))
 . (
 refine nav ?_;refine YJ [] [18] ?_<;>refine xD 0 rfl Za ?_<;>refine xD 1 rfl (Ze K1) ?_<;>(refine yD 2 rfl (Wn Zk) fun v124 h=>?_;cases h)<;>(refine yE 3 rfl (Zn 18 Zk) fun v125 h=>?_;cases h)<;>(refine aDr 4 fun bk=>?_)<;>(refine J' (kk:=3) (xs:=[_,_]) (cs:=[[_,_,_],[_,_,_]]) 126 Kb fun h126 ho126=>?_;refine Zz (En.freeze (l:=126) (t:=126) rfl rfl) fun _=>?_;first|(refine Zz (Ke (t:=126) (p':=YN [a,b]) rfl (Eq.trans (show _=PV.sl 2 ([a,b].flatMap cN) from rfl) (Gn a b))) fun _=>?_)|(refine Zz (Ke (t:=126) (p':=YN [a,WP 4 (b::ts')]) rfl (Eq.trans (show _=PV.sl 2 ([a,WP 4 (b::ts')].flatMap cN) from rfl) (Gn a (WP 4 (b::ts'))))) fun _=>?_))<;>refine bE bk ?_<;>refine xE 5 rfl (ZC YU) ?_<;>(refine aDr 6 fun bk=>?_)<;>refine Zp 2 Zk ?_<;>refine bE bk ?_<;>refine xE 7 rfl ZJ ?_<;>refine WE ?_;refine Yb (k:=3) 2 kR (results81) rfl rfl rfl (Xa rfl) dC rfl ?_
 first
  |(rw [ht,ZaQ ⟨oM,oM,oM⟩ oM];rfl)
  |(rw [ht,ZaR ⟨oM,oM,oM⟩ oM];obtain rfl:ts'=[]:=Xv (by have h9:=hb118;simp only [Xi] at h9;omega);rfl)))))))))))))
def Zr2 (g:Dfg) (o:Option Cut):Prop:=∀c,o=some c->∃kd cs,c=⟨kd,ZA (cnames g.acts) cs⟩/\Rk (cnames g.acts) (W0 (cnames g.acts) g.follows) (Y5 (cnames g.acts) g.starts) (Y5 (cnames g.acts) g.ends) kd cs
theorem ZnW {n:Nat} {cs:List (List Int)} (h:Ptn n cs):cs.length<=n:=by
 have key:∀ds:List (List Int),(∀c∈ds,c≠[])->ds.length<=ds.flatten.length:=fun ds=>by
  induction ds with
  |nil=>intro _;exact Xd _
  | cons d ds ih=>
    intro hd;have h1:=ih fun c hc=>hd c (Xs _ hc);have h2:=X5.2 (hd d (Xu ..));rw [XP,Xf,Xi];omega
 exact XK (key cs h.ne) (SQ n _ h.nd fun s hs=>(h.mem s).1 hs)
theorem Zlg {l:List BA} {E:Nat->Nat->Bool} {S F:Nat->Bool} {kd:Int} {cs:List (List Int)} (hn:l.all isName=true) (h:Rk l E S F kd cs):(ZA l cs).length<=l.length/\∀p∈ZA l cs,∀s∈p,s.size<=140737488355328:=by
 refine ⟨by rw [ZnM];exact ZnW h.1,fun p hp s hs=>?_⟩
 unfold ZA at hp
 obtain ⟨c,hc,rfl⟩:=Xp.1 hp
 obtain ⟨x,hx,rfl⟩:=Xp.1 hs
 have:=Tz (Xj.1 hn _ (Xb (PM ((h.1.mem x).1 (XO.2 ⟨c,hc,hx⟩)))))
 omega
theorem ZaT {x:Var} (h:W7 x=true):1<=x.count/\x.count<=1048576/\x.acts.length<=200:=by
 unfold W7 at h
 simp only [Xe,U9] at h
 exact ⟨h.1.2,h.2,h.1.1.1⟩
theorem Pb {x:Var} (h:W7 x=true):ZcJ x.acts∧-9223372036854775808<=x.count/\x.count<=9223372036854775807:=by
 have hb:=ZaT h
 unfold W7 at h
 simp only [Xe,U9] at h
 exact ⟨⟨oM,fun s hs=>by have:=Tz (Xj.1 h.1.1.2 s hs);omega⟩,oM,oM⟩
theorem HZ (w:World) (n:Nat) (xs:List Value) (hn:n<=maxLen):∃w' v,Ext w w'/\Shr (fun _=>False) w' v (.sl n (xs.map PV.val)):=by
 refine ⟨w.alloc (.cells xs.toArray 0), .slice (some ⟨w.heap.size,0,none⟩) n n,Ext.alloc _ _, .sl w.heap.size 0 n n (xs.map PV.val) (fun i=>xs.getD i (.bool true)) (Xd _) hn (fun i hi=>⟨?_,id⟩) (fun i p hp=>?_)⟩
 . rw [Xc] at hi;have hb:(w.alloc (.cells xs.toArray 0)).heap[w.heap.size]? =some (.cells xs.toArray 0):=by show (w.heap.push _)[w.heap.size]? =_;simp
   unfold World.cell?;rw [hb];show xs.toArray[0+i]? =some (xs.getD i (.bool true));rw [XA,List.getElem?_toArray,List.getD,Xq hi];rfl
 . rw [Xl,XS] at hp;obtain ⟨v,hv,rfl⟩:=hp;rw [List.getD,hv];exact .val v
theorem AF.ex {P:Program} {f:Nat} {ps:List PV} {R:PV->Prop} (h:AF P f ps R) {w:World} {vs:List Value} (hM:M0k w (fun _=>False) (fun _=>False) False) (hl:vs.length=ps.length) (hv:∀(i:Nat) (v:Value) (p:PV),vs[i]? =some v->ps[i]? =some p->Shr (fun _=>False) w v p):∃p,R p:=by
 obtain ⟨e,w',fr,⟨v,p,F,h1,h2,_⟩,_⟩:=h (fun _=>False) w vs hM hl hv []
 exact ⟨p,h2⟩
theorem ZpT (w:World) {g:Dfg} (hf:Zpi g):∃w' v,Shr (fun _=>False) w' v (Jb g):=by
 have cv:∀l:List Cnt,∃xs:List Value,l.flatMap G7=xs.map PV.val:=fun l=>⟨l.flatMap fun c=>[.string c.name, .int .i64 c.n],by rw [Up];rfl⟩
 have fv:∀l:List Flw,∃xs:List Value,l.flatMap Lw=xs.map PV.val:=fun l=>⟨l.flatMap fun c=>[.string c.src, .string c.dst, .int .i64 c.n],by rw [Up];rfl⟩
 obtain ⟨x1,e1⟩:=cv g.acts
 obtain ⟨x2,e2⟩:=cv g.starts
 obtain ⟨x3,e3⟩:=cv g.ends
 obtain ⟨x4,e4⟩:=fv g.follows
 obtain ⟨w1,v1,a1,b1⟩:=HZ w g.acts.length x1 (by have:=hf.1.1;unfold maxLen;omega)
 obtain ⟨w2,v2,a2,b2⟩:=HZ w1 g.starts.length x2 (by have:=hf.2.1.1;unfold maxLen;omega)
 obtain ⟨w3,v3,a3,b3⟩:=HZ w2 g.ends.length x3 (by have:=hf.2.2.1.1;unfold maxLen;omega)
 obtain ⟨w4,v4,a4,b4⟩:=HZ w3 g.follows.length x4 (by have:=hf.2.2.2.1;unfold maxLen;omega)
 have up:∀{w w':World} {v:Value} {p:PV},Ext w w'->Shr (fun _=>False) w v p->Shr (fun _=>False) w' v p:=fun h hs=>hs.to (h.chg (M:=fun _=>False)) (fun _ _ h=>h.elim) (fun _ _ h=>h.elim)
 refine ⟨w4, .agg #[v1,v2,v3,v4], .agg [v1,v2,v3,v4] _ rfl fun i v p hv hp=>?_⟩
 match i with
 |0=>cases hv;cases hp;have:=up a4 (up a3 (up a2 b1));rw [<-e1] at this;exact this
 |1=>cases hv;cases hp;have:=up a4 (up a3 b2);rw [<-e2] at this;exact this
 |2=>cases hv;cases hp;have:=up a4 b3;rw [<-e3] at this;exact this
 |3=>cases hv;cases hp;rw [<-e4] at b4;exact b4
 |i+4=>simp at hv
theorem Zlh (w:World) {g:Dfg} (hd:JE g=true) (hm:g.acts.length<=1000):∃o,AF prog 18 [Jb g] (· = .tup [JY o,Rf o])/\AF prog 126 [Jb g] (· = .tup [JY o,PR o])/\Zr2 g o:=by
 obtain ⟨hf,ha,hs,he,hfo⟩:=Zds hd
 have hbg:=ZeV g hf ha hs he
 unfold ζ1 at hbg
 rw [hd,Qc rfl] at hbg
 have hna:(cnames g.acts).length=g.acts.length:=by simp [cnames]
 have hbg':AF prog 46 [Jb g] (· = .tup [GX (cnames g.acts) (cnames g.acts).length (W0 (cnames g.acts) g.follows) (Y5 (cnames g.acts) g.starts) (Y5 (cnames g.acts) g.ends),Zb 0]):=by rw [hna];exact hbg
 have hv':AF prog 229 [Jb g] (· = .agg (Jm (cnames g.acts) (cnames g.acts).length (W0 (cnames g.acts) g.follows) (ZV (cnames g.acts).length (W0 (cnames g.acts) g.follows)) (Y5 (cnames g.acts) g.starts) (Y5 (cnames g.acts) g.ends))):=by rw [hna];exact ZrU g hd oM oM oM
 have hFd:=ζ8 g _ _ _ _ _ hbg' rfl oM
 have hRd:=Zle g _ _ _ _ _ hv' rfl oM
 obtain ⟨w',v,hsh⟩:=ZpT w hf
 obtain ⟨p,o,h0,_⟩:=AF.ex hFd (w:=w') (vs:=[v]) ⟨fun _ h=>h.elim,fun _=>(by intro g h;cases h),fun _=>(by intro g h;cases h)⟩ rfl (fun i u p hv hp=>by
  match i with
  |0=>cases hv;cases hp;exact hsh
  |i+1=>simp at hv)
 refine ⟨o,hFd.mono fun p ⟨o',h1,h2⟩=>?_,hRd.mono fun p ⟨⟨o',h1⟩,h2⟩=>?_,fun c hc=>?_⟩
 . obtain rfl:o'=o:=ZaN (Q:=Rw (cnames g.acts) (cnames g.acts).length (W0 (cnames g.acts) g.follows) (Y5 (cnames g.acts) g.starts) (Y5 (cnames g.acts) g.ends)) (fun h k'=>Zcp h k') h1 h0;exact h2
 . obtain rfl:o'=o:=Zna (fun k o o' hk h h'=>Zm9 k hk h h') h1 h0;exact h2
 . subst hc;obtain ⟨j,hj,h3⟩:=ZfB h0;obtain ⟨cs,h4,h5⟩:=Zha hj h3;exact ⟨_,cs,h4,h5⟩
theorem SZ (l:List Var):K' (Y6 l)=K' l:=by
 match l with
 |[]=>rfl
 |[x]=>rfl
 |_::_::_=>rfl
theorem Zli {l:List Var} {t:Nd} (h:K' l=some t) (hs:∀x∈l,∀s∈x.acts,s.size<=140737488355328):FitT t:=by
 have hsil:FitT sil:= .mk _ dC dC dC dC (fun x hx=>by cases hx)
 match l,h with
 |[],h=>cases h;exact hsil
 | [x],h=>
   unfold K' at h;dsimp only at h;match hx:x.acts with
   |[]=>rw [hx] at h;cases h;exact hsil
   | [s]=>
     rw [hx] at h;cases h;have:=hs x (XC.2 rfl) s (by rw [hx];exact XC.2 rfl);exact .mk _ (Xg _) this (show-9223372036854775808<=(1:Int) by decide) (show (1:Int)<=9223372036854775807 by decide) (fun x hx=>by cases hx)
   |_::_::_=>rw [hx] at h;cases h
def Zqx (r:List Var) (t:Nd):Prop:=AF prog 77 [Z1 (Y6 r)] (· = .tup [pTr t,Zb 0])/\AF prog 81 [Z1 r] (· = .tup [pTr t,Zb 0])/\FitT t
theorem TV {o:Int} {l:List Nd} (ho:0<=o/\o<=6) (hl:l.length<=1000000) (h:∀t∈l,FitT t):FitT (WP o l):=
 .mk _ (show l.length<=_ by omega) (show ByteArray.empty.size<=_ by decide) (show _<=o by omega) (show o<=_ by omega) h
theorem Zdu:FitT sil:=TV dC dC fun x hx=>by cases hx
theorem ZnX {s:BA} (h:s.size<=140737488355328):FitT (lf s):= .mk _ (Xg _) h (show-9223372036854775808<=(1:Int) by decide) (show (1:Int)<=9223372036854775807 by decide) (fun x hx=>by cases hx)
theorem C5 {o:Int} {a b:Nd} (ho:0<=o/\o<=6) (ha:FitT a) (hb:FitT b):FitT (WP o [a,b]):=TV ho (show 2<=1000000 by decide) fun t ht=>by
 rcases Xh.1 ht with rfl|ht
 . exact ha
 . rw [XC] at ht;subst ht;exact hb
theorem ZnY {l:List BA} (hl:l.length<=1000000) (h:∀s∈l,s.size<=140737488355328):FitT (ZbL l):=by
 by_cases h1:l.length=1
 . obtain ⟨s,rfl⟩:=Ua.1 h1;exact C5 dC (ZnX (h s (XC.2 rfl))) Zdu
 . rw [ζU h1];refine C5 dC (TV dC (by rw [Xc];exact hl) fun t ht=>?_) Zdu;obtain ⟨s,hs,rfl⟩:=Xp.1 ht;exact ZnX (h s hs)
theorem ZpU {kd:Int} {ts:List Nd} (hl:ts.length<=1000000) (h:∀t∈ts,FitT t):FitT (DZ kd ts):=by
 unfold DZ
 split
 . exact TV dC hl h
 . split
   . exact TV dC hl h
   . split
     . exact TV dC hl h
     . split
       . rename_i a b c m;refine C5 dC (h a (Xu ..)) (TV dC (by rw [Xi] at hl;omega) fun t ht=>h t (Xs _ ht))
       . exact TV dC hl h
def ZnZ:Prop:=∀(l:List Var) (c:Cut),validVars l=true->YZ c=true->c.parts.length<=40->(∀p∈c.parts,∀s∈p,s.size<=140737488355328)->c.parts.flatten.length<=1000000->AF prog 128 [Z1 l,Pf c] (RSp (KQ l c))
theorem Zhj {l:List BA} {E:Nat->Nat->Bool} {S F:Nat->Bool} {kd:Int} {cs:List (List Int)} (h:Rk l E S F kd cs):(ZA l cs).flatten.length<=l.length:=by
 have e:(ZA l cs).flatten.length=cs.flatten.length:=by
  unfold ZA;rw [UV,UV,Xz];congr 1;exact VQ fun c _=>sM
 rw [e]
 exact SQ l.length _ h.1.nd fun s hs=>(h.1.mem s).1 hs
theorem ZaU {x:Var} {l:List Var} (h:validVars (x::l)=true):validVars l=true:=by
 have h3:(x::l).length<=300:=by
  have h:=h;unfold validVars at h;rw [Xe] at h;exact Qe h.1
 rw [Xi] at h3
 exact HT oM (Xw.1 (HU h)).2 fun v hv=>SU h v (Xs _ hv)
theorem Sq {l:List Var} (h:validVars l=true):l.length<=300:=by
 unfold validVars at h
 rw [Xe] at h
 exact Qe h.1
theorem ZaV {Q:List Var->Nd->Prop}:∀m:List (List Var),(∀r∈m,∃t,Q r t)->∃ts:List Nd,ts.length=m.length/\∀(i:Nat) (r:List Var) (t:Nd),m[i]? =some r->ts[i]? =some t->Q r t
 |[],_=>⟨[],rfl,fun i r t h=>by simp at h⟩
 | r::m,h=>by
   obtain ⟨t,ht⟩:=h r (Xu ..);obtain ⟨ts,h1,h2⟩:=ZaV m fun r hr=>h r (Xs _ hr);refine ⟨t::ts,by rw [Xi,Xi,h1],fun i r' t' hr ht'=>?_⟩
   cases i with
   |zero=>cases hr;cases ht';exact ht
   |succ i=>exact h2 i r' t' (by simpa using hr) (by simpa using ht')
theorem ZpV (w:World) (hRS:ZnZ):∀(n:Nat) (l:List Var),Zbf (Y6 l)<n->validVars l=true->GoodL (Y6 l)->∃t,Zqx l t:=fun n=>by
 induction n with
 |zero=>intro l h;omega
 | succ n ih =>
   intro l hn hv hG;have hlen:=Sq hv;have hok:=SU hv;have hlo:(Y6 l).length<=1000000:=by rw [Lv];omega
   cases hb:K' l with
   | some u=>
     refine ⟨u,Le (Y6 l) u hlo (fun v h=>by rw [SZ,hb] at h;cases h;rfl) (fun x m _ h=>by rw [SZ,hb] at h;cases h),Se l u oM (fun v h=>by rw [hb] at h;cases h;rfl) (fun x m _ h=>by rw [hb] at h;cases h),Zli hb fun x hx s hs=>(Pb (hok x hx)).1.2 s hs⟩
   | none =>
     match l,hb with
     | x :: l',hb=>
       by_cases hx:x.acts=[]
       . have hgt:=Zk6 (x:=⟨x.acts,1⟩) (l:=Y6 l') hG hx;have hme:Zbf (Y6 (x::l'))=Zbf (⟨x.acts,1⟩::Y6 l'):=rfl;obtain ⟨t1,h1,h2,h3⟩:=ih l' oM (ZaU hv) hgt.1;refine ⟨WP 4 [sil,t1],Le _ _ hlo (fun v h=>by rw [SZ,hb] at h;cases h) (fun y m e _=>?_),Se _ _ oM (fun v h=>by rw [hb] at h;cases h) (fun y m e _=>?_),C5 dC Zdu h3⟩
         . cases e;exact ⟨fun _=>⟨t1,h1,rfl⟩,fun hne=>Qd hx hne⟩
         . cases e;exact ⟨fun _=>⟨t1,h2,rfl⟩,fun hne=>Qd hx hne⟩
       . have hvo:=Rl hv;have hoko:=SU hvo;have hfit:Do (Y6 (x::l')):=⟨oM,fun y hy=>Pb (hoko y hy)⟩;obtain ⟨g,e,hm⟩:=ZpQ (Y6 (x::l'));have he:e=0:=by
          rcases hm with ⟨h,_⟩|⟨_,h,_⟩|⟨_,_,_,h⟩
          . rw [hvo] at h;cases h
          . have:=hG.act;omega
          . exact h
         subst he;have hgok:=ZnR hm;have hdf:=Zds hgok.1;have h40:=(O1 hgok.1).1;(have hna:(cnames g.acts).length=g.acts.length:=by simp [cnames]);have hnm:(cnames g.acts).all isName=true:=by
          have h:=hgok.1;unfold JE Jz at h;simp only [Xe] at h;exact h.1.1.1.1.1.1.1.1.2
         have hD:=C4 (ZiC (Y6 (x::l')) hfit) hm;have hR:=C4 (Zci (Y6 (x::l')) hfit) hm;have hne:∀y∈Y6 (x::l'),y.acts≠[]:=ZnO hvo (x:=⟨x.acts,1⟩) rfl hx;obtain ⟨o,hF1,hF2,hGo⟩:=Zlh w hgok.1 oM
         cases o with
         | none=>
           refine ⟨ZbL (cnames g.acts),Le _ _ hlo (fun v h=>by rw [SZ,hb] at h;cases h) (fun y m e _=>?_),Se _ _ oM (fun v h=>by rw [hb] at h;cases h) (fun y m e _=>?_),ZnY oM fun s hs=>?_⟩
           . cases e;exact ⟨fun h=>Qd h hx,fun _=>⟨g,hD,hdf.2.1, .inl ⟨hF1,rfl⟩⟩⟩
           . cases e;exact ⟨fun h=>Qd h hx,fun _=>⟨g,hR,hdf.2.1, .inl ⟨hF2,rfl⟩⟩⟩
           . have:=Tz (Xj.1 hnm s hs);omega
         | some c=>
           obtain ⟨kd,cs,hc,hFo⟩:=hGo c rfl;obtain ⟨hcv,hcf,out,hSG,hsp⟩:=Zk4 hvo hne hG.few hgok.2.2 hgok.1 hc hFo;have hff:=Zlg hnm hFo;have hfl:=Zhj hFo;rw [show ZA (cnames g.acts) cs=c.parts by rw [hc]] at hff hfl;have hpt:=fun r (hr:r∈out)=>Zk7 hG hgok.2.2 hc hFo hSG hr;(have hnb:out.any bigVars=false:=Ut.2 fun r hr=>by rw [(hpt r hr).1];decide);have hsp':KQ (Y6 (x::l')) c=(out,0):=by
            rcases hsp with ⟨h,_⟩|⟨_,h⟩
            . rw [hnb] at h;cases h
            . exact h
           have h2:2<=c.parts.length:=(Ow hcf).2.2;obtain ⟨ts,ht1,ht2⟩:=ZaV (Q:=Zqx) out fun r hr=>ih r (by have:=(hpt r hr).2.2.2;omega) (hpt r hr).2.1 (hpt r hr).2.2.1;have hS1:=Zfq _ c hfit hff.2 oM;have hS2:=hRS _ c hvo hcf oM hff.2 oM;unfold RSp at hS1 hS2;rw [hsp'] at hS1 hS2;have hol:=hSG.len;(have hrl:∀r∈out,r.length<=1000000:=fun r hr=>by have:=Sq (hpt r hr).2.1;omega);refine ⟨DZ c.kind ts,Le _ _ hlo (fun v h=>by rw [SZ,hb] at h;cases h) (fun y m e _=>?_),Se _ _ oM (fun v h=>by rw [hb] at h;cases h) (fun y m e _=>?_),ZpU oM fun t ht=>?_⟩
           . cases e;exact ⟨fun h=>Qd h hx,fun _=>⟨g,hD,hdf.2.1, .inr ⟨c,out,ts,hF1,hS1,ht1,oM,oM,hrl,fun i r u hr hu=>(ht2 i r u hr hu).1,rfl⟩⟩⟩
           . cases e;exact ⟨fun h=>Qd h hx,fun _=>⟨g,hR,hdf.2.1, .inr ⟨c,out,ts,hF2,hS2,ht1,oM,oM,hrl,fun i r u hr hu=>(ht2 i r u hr hu).2.1,rfl⟩⟩⟩
           . obtain ⟨i,hi⟩:=XM ht;obtain ⟨r,hr⟩:=get_some (show i<out.length by have:=Zd hi;omega);exact (ht2 i r t hr hi).2.2
theorem S0:ElT prog 225 230 2 32 (.agg #[(.int .i64 0),(.slice none 0 0)]):=⟨underlying225,by kernel_rfl,rfl,dC⟩
theorem GM:FldT prog 230 0 0=true:=kR
theorem LU:FldT prog 230 1 1=true:=kR
theorem WK:SlT prog 225 230 2=true:=kR
theorem D2:Ge prog 230=some ((.agg #[(.int .i64 0),(.slice none 0 0)]),([0,1]:List Nat).map fun o=>(o,1)):=kR
def EZ (parts:List (List BA)) (ws:List BA):List Piece×Bool:=if ws=[] then ([⟨0,[]⟩],true) else match Wb parts [] ws with
 |none=>([],false)
 |some ps=>(ps,Go.Cb.endsB ps)
theorem ZpW (parts:List (List BA)) (ws:List BA):LF parts ws=if (EZ parts ws).2 then some (EZ parts ws).1 else none:=by
 unfold LF EZ
 by_cases h:ws=[]
 . rw [Qc h,Qc h];rfl
 . rw [Qb h,Qb h]
   cases Wb parts [] ws with
   |none=>rfl
   |some ps=>rfl
def H3 (c:Cut) (ws:List BA):List Piece×Bool:=if c.kind=4 then EZ c.parts ws else match splitGo c.kind c.parts true 0 (initPs c.parts.length) ws with
 |none=>([],false)
 |some (ps,last)=>if c.kind=1 then ((ps.drop last.toNat).take 1,decide ((0:Int)<(ws.length:Int))) else (ps,true)
theorem ZpX (c:Cut) (ws:List BA):We c ws=if (H3 c ws).2 then some (H3 c ws).1 else none:=by
 unfold We H3
 by_cases h:c.kind=4
 . rw [Qc h,Qc h,ZpW]
 . rw [Qb h,Qb h]
   cases splitGo c.kind c.parts true 0 (initPs c.parts.length) ws with
   |none=>rfl
   | some x=>
     obtain ⟨ps,last⟩:=x;dsimp only;by_cases h1:c.kind=1
     . simp only [Qc h1];by_cases h2:ws=[]
       . subst h2;rfl
       . have h3:0<ws.length:=X5.2 h2;rw [Qb h2,show decide ((0:Int)<(ws.length:Int))=true from U' oM];rfl
     . simp only [Qb h1];rfl
structure MetP (parts:List (List BA)) (ps:List Piece) (s:BA) (k:Nat) (ps2:List Piece) (q:Piece):Prop where
 at_:ps2[ps2.length-1]? =some q
 step:pieceStep parts ps s=some (ps2.set (ps2.length-1) ⟨q.part,q.word++[s]⟩)
 len:ps2.length<=k+1
 word:∀p∈ps2,p.word.length<=k
theorem MetP.old {parts:List (List BA)} {ps:List Piece} {s:BA} {k:Nat} {q:Piece} (hq:ps[ps.length-1]? =some q) (h:q.part=partOf parts s) (hl:ps.length<=k) (hw:∀p∈ps,p.word.length<=k):MetP parts ps s k ps q:=
 ⟨hq,Zi8 hq h,oM,hw⟩
theorem MetP.first {parts:List (List BA)} {s:BA} {ps:List Piece} (hp:ps.length=0):MetP parts ps s 0 (ps++[(⟨partOf parts s,[]⟩:Piece)]) ⟨partOf parts s,[]⟩:=by
 obtain rfl:=Xv hp
 exact ⟨rfl,ZlC,Xd _,fun p hp=>by rw [XX,XC] at hp;subst hp;exact Xd _⟩
theorem MetP.new {parts:List (List BA)} {ps:List Piece} {s:BA} {k:Nat} {q:Piece} (hq:ps[ps.length-1]? =some q) (h:q.part≠partOf parts s) (h1:¬(partOf parts s≠0/\q.part≠0)) (hl:ps.length<=k) (hw:∀p∈ps,p.word.length<=k):MetP parts ps s k (ps++[(⟨partOf parts s,[]⟩:Piece)]) ⟨partOf parts s,[]⟩:=by
 have e:(ps++[(⟨partOf parts s,[]⟩:Piece)]).length-1=ps.length:=sM
 refine ⟨by rw [e];simp,by rw [e];exact ZlE hq h h1,by simp;omega,fun p hp=>?_⟩
 rcases XB.1 hp with hp|hp
 . exact hw p hp
 . rw [XC] at hp;subst hp;exact Xg _
theorem ZfM {ps:List Piece} {i k:Nat} {q:Piece} {s:BA} (hq:ps[i]? =some q) (hw:∀p∈ps,p.word.length<=k):∀p∈ps.set i ⟨q.part,q.word++[s]⟩,p.word.length<=k+1:=fun p hp=>by
 rcases VW hp with h1|h1
 . have:=hw p h1;omega
 . have:=hw q (Xb hq);rw [h1];simp;omega
theorem Zn0 {ps:List Piece} {p q:Piece} (h0:ps[0]? =some p) (h1:ps[ps.length-1]? =some q):Go.Cb.endsB ps=(decide (p.part=0)&&decide (q.part=0)):=by
 unfold Go.Cb.endsB;rw [h0,h1];rfl
theorem Dl (e n k:Nat) (ps:List Piece) (h:n=ps.length):share (.own e k n (ps.flatMap (Z3 9)))=Tw ps:=by
 subst h
 simp only [share,Rx];rfl
theorem Zn1 (c : Cut) (ws:List BA) (hlen:ws.length<=1000) (hn1:c.parts.length<=1000000):AF prog 237 [ZW ws,Pf c] (· = .tup [Tw (EZ c.parts ws).1,Zr (EZ c.parts ws).2]):=by
 refine AF.b2 95 func237 rfl ntmps237 (Xa rfl) fun w0 M0 v0 v1 _ _=>?_
 refine Zi ?_
 refine Yi 3 2 fun h3=>?_;refine J9 ?_;refine KA ?_
 refine Zq (YS 200 230 2 rfl) fun _=>?_
 refine Yq (ι:={x:Nat×Value×List Piece//x.1<=ws.length/\Wb c.parts [] ws=Wb c.parts x.2.2 (ws.drop x.1)/\x.2.2.length<=x.1/\(∀p∈x.2.2,p.word.length<=x.1)/\(0<x.1->0<x.2.2.length)}) (fun k=>⟨[(0,_,_),(3,_,_),(6,k.1.2.1, .val k.1.2.1),(7, .int .i64 k.1.1,Zb k.1.1)],[(3,_,_),(200,k.1.2.1, .own 230 2 k.1.2.2.length (k.1.2.2.flatMap (Z3 9)))]⟩) (fun k=>ws.length-k.1.1) ⟨(0, .slice none 0 0,[]),Xg _,rfl,Xd _,(fun p hp=>by cases hp),fun h=>Qd h (Nat.lt_irrefl 0)⟩ ?_
 rintro ⟨⟨k,h6,ps⟩,hk,hgo,hpl,hpw,hpn⟩
 dsimp only
 dsimp only at hk hgo hpl hpw hpn
 refine Zi ?_
 refine xL 10 Za (xL 11 Za (xL 12 (Zs Zm) (xL 13 Yj ?_)));refine ZE ?_ ?_<;>intro hb13
 . (
 obtain ⟨s,hs⟩:=gS ws k;have e1:=Yh (f:=Zv) hs;have hfl:=Ya (Yw 9) ps;obtain ⟨q,hq⟩:∃q:Piece,0<k->ps[ps.length-1]? =some q:=by
  by_cases h0:0<k
  . obtain ⟨q,hq⟩:=get_some (show ps.length-1<ps.length by have:=hpn h0;omega);exact ⟨q,fun _=>hq⟩
  . exact ⟨⟨0,[]⟩,fun h=>Qd h h0⟩
 (have hq0:0<k->(ps.flatMap (Z3 9))[(ps.length-1)*2+0]? =some (Zb q.part):=fun h=>by rw [Yx (Yw 9) (hq h) (j:=0) dC];rfl);(have hns:ws≠[]:=fun e=>by rw [e] at hs;cases hs);refine nav ?_;refine YJ [] [3] ?_<;>(refine yD 0 rfl (Zn 3 Z6) fun v16 h=>?_;cases h)<;>refine xD 1 rfl Za ?_<;>refine xE 2 rfl Za ?_<;>refine xE 3 rfl (Ze Zm) ?_<;>(refine yE 4 rfl (Zu ZB) fun v20 h=>?_;cases h)<;>(refine ZY 5 kR ?_)<;>(refine Yo (d:=21) rfl (cA call189 (Zc5 c s oM)) fun v21 h=>?_;cases h)<;>refine xE 6 rfl ZJ ?_<;>refine WE ?_;(refine Zo ?_ <;>refine Y1 ?_<;>(refine bLd 24 (fun hb24=>?_) (fun hb24=>?_)<;>refine kZ ?_)<;>refine kZ ?_<;>(first|refine kL ?_|refine xM (WB 200 WK) ?_)<;>refine kZ ?_<;>(first|refine kL ?_|refine xM (P8 200 WK) ?_)<;>(first|refine kL ?_|refine xM (Zc 200 GM) ?_)<;>(first|refine kL ?_|refine yV (Ea 200 ((ps.length-1)*2+0) ZH (hp:=hq0 oM)) ?_)<;>refine kZ ?_<;>refine kZ ?_<;>refine ZN ?_<;>refine Zw ?_)<;>(
 refine Ja (fun x:{x:Value×List Piece×Piece//MetP c.parts ps s k x.2.1 x.2.2}=>⟨[(0,v0,ZW ws),(3,padd (sbase h3) 0, .val (padd (sbase h3) 0)),(6,x.1.1, .val x.1.1),(7, .int .i64 k,Zb k)],[(3,h3, .own 42 2 1 [Zb c.kind,LG c.parts]),(200,x.1.1, .own 230 2 x.1.2.1.length (x.1.2.1.flatMap (Z3 9)))]⟩) ?_ ?_
 . refine cX ?_ ?_<;>intro hb34
   . (
 refine Zi ?_;(refine Y1 ?_<;>(refine bLd 37 (fun hb37=>?_) (fun hb37=>?_)<;>refine kZ ?_)<;>refine kZ ?_<;>refine ZO ?_<;>(first|refine kL ?_|(refine bLd 41 (fun hb41=>?_) (fun hb41=>?_)<;>refine kZ ?_))<;>refine kZ ?_<;>(first|refine kL ?_|refine xM (WB 200 WK) ?_)<;>refine kZ ?_<;>(first|refine kL ?_|refine xM (P8 200 WK) ?_)<;>(first|refine kL ?_|refine xM (Zc 200 GM) ?_)<;>(first|refine kL ?_|refine yV (Ea 200 ((ps.length-1)*2+0) ZH (hp:=hq0 oM)) ?_)<;>refine kZ ?_<;>refine ZN ?_<;>refine Zw ?_)<;>(
 refine cX ?_ ?_<;>intro hb50
 . first|exact bN hb50|(
 refine ZU ?_;refine YO (Ps (t:=4) rfl) fun _=>?_;refine Y7 (results237) rfl rfl ?_;rw [show EZ c.parts ws=([],false) by unfold EZ;rw [Qb hns,Za5 hgo hs (ZlD (hq oM) oM oM oM)]];rfl)
 . (
 refine Zi ?_;refine xL 51 Za (xL 52 Za (xL 53 (ZC D2) ?_));refine WH 54 S0 fun h54 ho54=>?_;refine Wc 200 54 55 S0 fun h55 ho55=>?_;refine ZP ?_
 first
  | (have hXX:0<k:=oM
     have hYY:q.part=partOf c.parts s:=oM;exact YF ⟨(h6,ps,q),MetP.old (hq hXX) hYY hpl hpw⟩ ⟨rfl,rfl,rfl,rfl,trivial⟩ ⟨rfl,rfl,trivial⟩)
  | (refine ZK (TE (l:=55) ((ps.flatMap (Z3 9))++[Zb (partOf c.parts s), .own 9 1 0 []]) rfl (by simp [RA]) (ON _ _ _ _)) fun _=>?_
     refine ZK (ZM (l:=55) 200 rfl rfl) fun _=>?_;refine ZK (Wv (l:=200) rfl (show PV.own 230 2 (ps.length+1) ((ps.flatMap (Z3 9))++[Zb (partOf c.parts s), .own 9 1 0 []])=PV.own 230 2 (ps++[(⟨partOf c.parts s,[]⟩:Piece)]).length ((ps++[(⟨partOf c.parts s,[]⟩:Piece)]).flatMap (Z3 9)) by rw [Xf,XY];rfl)) fun _=>?_
     first
      |exact YF ⟨(h55,ps++[⟨partOf c.parts s,[]⟩],⟨partOf c.parts s,[]⟩),MetP.new (hq oM) oM oM hpl hpw⟩ ⟨rfl,rfl,rfl,rfl,trivial⟩ ⟨rfl,rfl,trivial⟩
      |exact YF ⟨(h55,ps++[⟨partOf c.parts s,[]⟩],⟨partOf c.parts s,[]⟩),by (obtain rfl:k=0:=by omega);exact MetP.first oM⟩ ⟨rfl,rfl,rfl,rfl,trivial⟩ ⟨rfl,rfl,trivial⟩))))
   . first |exact bN hb34|(
 refine nav ?_
 first
  | (have hXX:0<k:=oM
     have hYY:q.part=partOf c.parts s:=oM;exact YF ⟨(h6,ps,q),MetP.old (hq hXX) hYY hpl hpw⟩ ⟨rfl,rfl,rfl,rfl,trivial⟩ ⟨rfl,rfl,trivial⟩)
  | (refine ZK (TE (l:=55) ((ps.flatMap (Z3 9))++[Zb (partOf c.parts s), .own 9 1 0 []]) rfl (by simp [RA]) (ON _ _ _ _)) fun _=>?_
     refine ZK (ZM (l:=55) 200 rfl rfl) fun _=>?_;refine ZK (Wv (l:=200) rfl (show PV.own 230 2 (ps.length+1) ((ps.flatMap (Z3 9))++[Zb (partOf c.parts s), .own 9 1 0 []])=PV.own 230 2 (ps++[(⟨partOf c.parts s,[]⟩:Piece)]).length ((ps++[(⟨partOf c.parts s,[]⟩:Piece)]).flatMap (Z3 9)) by rw [Xf,XY];rfl)) fun _=>?_
     first
      |exact YF ⟨(h55,ps++[⟨partOf c.parts s,[]⟩],⟨partOf c.parts s,[]⟩),MetP.new (hq oM) oM oM hpl hpw⟩ ⟨rfl,rfl,rfl,rfl,trivial⟩ ⟨rfl,rfl,trivial⟩
      |exact YF ⟨(h55,ps++[⟨partOf c.parts s,[]⟩],⟨partOf c.parts s,[]⟩),by (obtain rfl:k=0:=by omega);exact MetP.first oM⟩ ⟨rfl,rfl,rfl,rfl,trivial⟩ ⟨rfl,rfl,trivial⟩))
 . rintro ⟨⟨h9,ps2,q2⟩,hM⟩;dsimp only at hM ⊢;have hat:=hM.at_;have hl9:=hM.len;have hw9:=hM.word;have hq9:=hw9 q2 (Xb hat);(have hne9:0<ps2.length:=by have:=Zd hat;omega);have hfl2:=Ya (Yw 9) ps2;have hcell:=Yx (Yw 9) hat (j:=1) dC;refine Zq (TW (l:=200) (l':=500) (j:=(ps2.length-1)*2+1) rfl hcell rfl rfl) fun v=>?_;obtain ⟨v,hv1⟩:=v;dsimp only;have hc2:((ps2.flatMap (Z3 9)).set ((ps2.length-1)*2+1) (.val v))[(ps2.length-1)*2+1]? =some (.val v):=XJ oM;refine Zi ?_;refine xL 56 Za (xL 57 (WB 200 WK) (xL 58 LL (xL 9 ZJ ?_)));refine Zw ?_;(refine YJ [15] [3,200] ?_<;>refine xD 0 rfl Za ?_<;>refine xD 1 rfl Za ?_<;>refine xD 2 rfl Za ?_<;>refine xD 3 rfl Za ?_<;>refine xD 4 rfl (P8 200 WK) ?_<;>refine xD 5 rfl (Zc 200 LU) ?_<;>(refine yD 6 rfl (Ea 200 ((ps2.length-1)*2+1) ZF (hp:=hc2)) fun v65 h=>?_;cases h)<;>refine xD 7 rfl Za ?_<;>refine xE 8 rfl Za ?_<;>refine xE 9 rfl (Ze Zm) ?_<;>(refine yE 10 rfl (Zu ZB) fun v69 h=>?_;cases h)<;>(refine aDr 11 fun bk=>?_)<;>refine WC (kk:=1) 70 YV fun h70 ho70=>?_<;>refine bE bk ?_<;>(refine aDr 12 fun bk=>?_)<;>refine Wc 500 70 71 YV (fun h71 ho71=>?_)<;>refine bE bk ?_<;>refine xE 13 rfl (P8 200 WK) ?_<;>refine xE 14 rfl (Zc 200 LU) ?_<;>(refine ZY 15 kR ?_)<;>(refine Ww rfl rfl kR fun DQ bk=>?_)<;>(refine LJ 200 ((ps2.length-1)*2+1) rfl rfl ZF OZ rfl rfl rfl (by assumption) rfl (by first|rfl|omega) (by rw [Xn,hfl2];omega) ?_)<;>refine WA (bk _ (nav ?_))<;>try dsimp only)
   have hc3:(((ps2.flatMap (Z3 9)).set ((ps2.length-1)*2+1) (.val v)).set ((ps2.length-1)*2+1) (.val h71))[(ps2.length-1)*2+1]? =some (.val h71):=XJ (by rw [Xn];omega);refine Zq (L9 (l:=200) (l':=71) (j:=(ps2.length-1)*2+1) rfl hc3 rfl rfl) fun _=>?_;have hcs:((((ps2.flatMap (Z3 9)).set ((ps2.length-1)*2+1) (.val v)).set ((ps2.length-1)*2+1) (.val h71)).set ((ps2.length-1)*2+1) (.own 9 1 (q2.word.length+1) (q2.word.map Zv++[Zv s])))=(ps2.set (ps2.length-1) ⟨q2.part,q2.word++[s]⟩).flatMap (Z3 9):=by
    rw [X4,X4,SO (Yw 9) ps2 (ps2.length-1) 1 q2 ⟨q2.part,q2.word++[s]⟩ _ hat dC (by simp [Z3])]
   refine Zq (Wv (l:=200) rfl (show PV.own 230 2 ps2.length ((((ps2.flatMap (Z3 9)).set ((ps2.length-1)*2+1) (.val v)).set ((ps2.length-1)*2+1) (.val h71)).set ((ps2.length-1)*2+1) (.own 9 1 (q2.word.length+1) (q2.word.map Zv++[Zv s])))=PV.own 230 2 (ps2.set (ps2.length-1) ⟨q2.part,q2.word++[s]⟩).length ((ps2.set (ps2.length-1) ⟨q2.part,q2.word++[s]⟩).flatMap (Z3 9)) by rw [hcs,Xn])) fun _=>?_;refine GP ?_;refine Yr (
    ⟨(k+1,h9,ps2.set (ps2.length-1) ⟨q2.part,q2.word++[s]⟩),by show k+1<=ws.length;omega,Za4 hgo hs hM.step,by show (ps2.set _ _).length<=k+1;rw [Xn];exact hl9,ZfM hat hw9,fun _=>by show 0<(ps2.set _ _).length;rw [Xn];exact hne9⟩
    )))
 . (
 (have hfin:Wb c.parts [] ws=some ps:=by rw [hgo,XN oM,Wb]);refine Zi ?_;refine xL 74 Za (xL 75 (Zs Zm) (xL 76 Ky ?_));refine ZE ?_ ?_<;>intro hb76
 . (
 refine Zi ?_;refine xM (ZC D2) ?_;refine WH 78 S0 fun h78 ho78=>?_;refine KI ?_;refine YO (TE (l:=78) ([(⟨0,[]⟩:Piece)].flatMap (Z3 9)) rfl rfl (fun i p p' h1 h2=>by
  match i with
  |0=>simp [Z3,RA] at h1 h2;exact .inl (h2.symm.trans h1)
  |1=>simp [Z3,RA] at h1 h2;exact .inr ⟨h1.symm,_,_,h2.symm⟩
  |i+2=>simp [Z3] at h2)) fun _=>?_
 refine YO (En.freeze (l:=78) (t:=4) rfl rfl) fun _=>?_;refine Y7 (results237) rfl rfl ?_;rw [Dl _ _ _ _ (show 1=[(⟨0,[]⟩:Piece)].length from rfl),show EZ c.parts ws=([⟨0,[]⟩],true) by unfold EZ;rw [Qc (Xv oM)]])
 . (
 have hn0:0<ps.length:=hpn oM;obtain ⟨p0,hp0⟩:=get_some hn0;obtain ⟨q0,hq0⟩:=gS ps (ps.length-1);(have g0:(ps.flatMap (Z3 9))[0]? =some (Zb p0.part):=by rw [show (0:Nat)=0*2+0 from rfl,Yx (Yw 9) hp0 (j:=0) dC];rfl);(have g1:(ps.flatMap (Z3 9))[(ps.length-1)*2+0]? =some (Zb q0.part):=by rw [Yx (Yw 9) hq0 (j:=0) dC];rfl);have hres:EZ c.parts ws=(ps,decide (p0.part=0)&&decide (q0.part=0)):=by
  unfold EZ;rw [Qb (fun e=>by rw [e] at hk hb76;first|(simp at hb76;done)|(have:=hb76;simp at this)),hfin,<-Zn0 hp0 hq0]
 refine nav ?_;(refine YJ [] [200] ?_<;>refine xD 0 rfl Za ?_<;>refine xE 1 rfl Za ?_<;>refine xE 2 rfl (Zj 200 WK) ?_<;>refine xE 3 rfl (Zc 200 GM) ?_<;>(refine yE 4 rfl (Ea 200 0 ZH (hj:=rfl) (hp:=g0)) fun v83 h=>?_;cases h)<;>refine xE 5 rfl Ky ?_<;>refine xE 6 rfl Za ?_<;>(refine bDd 85 (fun hb85=>?_) (fun hb85=>?_)<;>(first|refine kD 7 ?_|refine xD 7 rfl Za ?_))<;>(first|refine kD 8 ?_|refine xD 8 rfl Za ?_)<;>(first|refine kD 9 ?_|refine xD 9 rfl (WB 200 WK) ?_)<;>(first|refine kD 10 ?_|refine xD 10 rfl LL ?_)<;>(first|refine kD 11 ?_|refine xD 11 rfl (P8 200 WK) ?_)<;>(first|refine kD 12 ?_|refine xD 12 rfl (Zc 200 GM) ?_)<;>(first|refine kD 13 ?_|(refine yD 13 rfl (Ea 200 ((ps.length-1)*2+0) ZH (hp:=g1)) fun v92 h=>?_;cases h))<;>(first|refine kD 14 ?_|refine xD 14 rfl Ky ?_)<;>refine xD 15 rfl YY ?_<;>refine xE 16 rfl ZJ ?_<;>refine xE 17 rfl ZJ ?_<;>refine WE ?_)<;>(
 refine YO (En.freeze (l:=200) (t:=4) rfl rfl) fun _=>?_;refine Y7 (results237) rfl rfl ?_;rw [Dl _ _ _ _ rfl,hres]
 first
  |rw [show decide (p0.part=0)=true from U' hb85];rfl
  |rw [show decide (p0.part=0)=false from Qa hb85];rfl)))
theorem ZpY {kind p last:Int} {k:Nat} (h:(kind=2/\p<last)\/(kind=1/\0<k/\p≠last)):JP kind (decide (k=0)) p last=true:=by
 unfold JP
 rcases h with ⟨h1,h2⟩|⟨h1,h2,h3⟩
 . rw [h1,U' h2];rfl
 . rw [h1,Qa (show ¬k=0 by omega)];simpa using h3
theorem ZpZ {kind p last:Int} {k:Nat} (h:¬((kind=2/\p<last)\/(kind=1/\0<k/\p≠last))):JP kind (decide (k=0)) p last=false:=by
 unfold JP
 by_cases h1:kind=2
 . subst h1;rw [Qa (show ¬p<last from fun h2=>h (.inl ⟨rfl,h2⟩))];rfl
 . by_cases h2:kind=1
   . subst h2;by_cases h3:k=0
     . rw [U' h3];rfl
     . have:p=last:=Decidable.byContradiction fun h4=>h (.inr ⟨rfl,oM,h4⟩);subst this;simp
   . rw [show (kind==2)=false by simpa using h1,show (kind==1)=false by simpa using h2];rfl
theorem Zp0 {ps:List Piece} {n:Nat} (h:n<ps.length):PV.sl (n+1-n) (((ps.flatMap PE).drop (n*2)).take ((n+1-n)*2))=Tw ((ps.drop n).take 1):=by
 obtain ⟨q,hq⟩:=get_some h
 rw [show n+1-n=1 by omega,show 1*2=2 from rfl,Wr G' ps n q hq,WL hq]
 rfl
structure SplI (c:Cut) (ws:List BA) (k:Nat) (ps:List Piece) (last:Nat):Prop where
 le:k<=ws.length
 go:splitGo c.kind c.parts true 0 (initPs c.parts.length) ws=splitGo c.kind c.parts (decide (k=0)) last ps (ws.drop k)
 len:ps.length=c.parts.length
 word:∀p∈ps,p.word.length<=k
 last:last<c.parts.length
theorem Zn2 (c : Cut) (ws:List BA) (hin:∀t∈ws,0<=partOf c.parts t) (hlen:ws.length<=1000) (hn0:0<c.parts.length) (hn1:c.parts.length<=1000000):AF prog 190 [ZW ws,Pf c] (· = .tup [Tw (H3 c ws).1,Zr (H3 c ws).2]):=by
 refine AF.b2 93 func190 rfl ntmps190 (Xa rfl) fun w0 M0 v0 v1 _ _=>?_
 refine Zi ?_
 refine Yi 3 2 fun h3=>?_;refine J9 ?_
 refine xM (Zc 3 Jn) ?_;refine yV (Zh 3 ZH) ?_;refine Wl ?_ ?_<;>intro hb13
 . (
 have hk4:c.kind=4:=oM;refine Wp ?_;refine yU (Zn 3 Z6) fun v15=>?_;refine cP 16 (cA call237 (Zn1 c ws hlen hn1)) fun va16 vb16 hva16 hvb16=>?_;cases hvb16;refine LZ ?_;refine Zw ?_;refine Y7 (results190) rfl rfl ?_;rw [show H3 c ws=EZ c.parts ws by unfold H3;rw [Qc hk4]])
 . (
 have hk4:c.kind≠4:=oM;refine JR ?_;refine Zq (YS 200 230 2 rfl) fun _=>?_;refine Yq (ι:={x:Nat×Value//x.1<=c.parts.length}) (fun k=>⟨[(0,_,_),(3,_,_),(6,k.1.2, .val k.1.2),(7, .int .i64 k.1.1,Zb k.1.1)],[(3,_,_),(200,k.1.2, .own 230 2 k.1.1 ((initPs k.1.1).flatMap (Z3 9)))]⟩) (fun k=>c.parts.length-k.1.1) ⟨(0, .slice none 0 0),Xg _⟩ ?_;rintro ⟨⟨k,h6⟩,hk⟩;dsimp only;dsimp only at hk;refine Zi ?_;refine xL 19 Za (xL 20 (Zc 3 KH) ?_);refine yU (Zh 3 JG) fun v21=>?_;refine xL 22 (Zs Tl) (xL 23 Yj ?_);refine ZE ?_ ?_<;>intro hb23
 . (
 have hfl:=Ya (Yw 9) (initPs k);rw [Tb] at hfl;refine Zi ?_;refine xL 26 Za (xL 27 Za (xL 28 (ZC D2) ?_));refine WH 29 S0 fun h29 ho29=>?_;refine Wc 200 29 30 S0 fun h30 ho30=>?_;refine K5 ?_;refine ZK (TE (l:=30) (((initPs k).flatMap (Z3 9))++[Zb (k:Int), .own 9 1 0 []]) rfl (by simp [RA]) (ON _ _ _ _)) fun _=>?_;refine ZK (ZM (l:=30) 200 rfl rfl) fun _=>?_;refine ZK (Wv (l:=200) rfl (show PV.own 230 2 (k+1) (((initPs k).flatMap (Z3 9))++[Zb (k:Int), .own 9 1 0 []])=PV.own 230 2 (k+1) ((initPs (k+1)).flatMap (Z3 9)) by rw [ZdI,XY];rfl)) fun _=>?_;refine Yr (
  ⟨(k+1,h30),by show k+1<=c.parts.length;omega⟩
  ))
 . (
 obtain rfl:k=c.parts.length:=oM;refine JR ?_;refine Yq (ι:={x:Nat×List Piece×Nat//SplI c ws x.1 x.2.1 x.2.2}) (fun k=>⟨[(0,_,_),(3,_,_),(6,_,_),(8, .int .i64 k.1.2.2,Zb k.1.2.2),(9, .int .i64 k.1.1,Zb k.1.1)],[(3,_,_),(200,h6, .own 230 2 c.parts.length (k.1.2.1.flatMap (Z3 9)))]⟩) (fun k=>ws.length-k.1.1) ⟨(0,initPs c.parts.length,0),Xg _,rfl,Tb _,fun p hp=>by rw [E5 hp];exact Xd _,hn0⟩ ?_;rintro ⟨⟨k,ps,last⟩,hI⟩;dsimp only;dsimp only at hI;have hk:=hI.le;have hpl:=hI.len;have hla:=hI.last;refine Zi ?_;refine xL 31 Za (xL 32 Za (xL 33 (Zs Zm) (xL 34 Yj ?_)));refine ZE ?_ ?_<;>intro hb34
 . (
 obtain ⟨s,hs⟩:=gS ws k;have e1:=Yh (f:=Zv) hs;have hge0:=hin s (Xb hs);obtain ⟨i,hi⟩:∃i:Nat,partOf c.parts s=i:=⟨(partOf c.parts s).toNat,oM⟩;(have hilt:i<c.parts.length:=by have:=OM c.parts s;omega);obtain ⟨q,hq⟩:=gS ps i;have hqw:q.word.length<=k:=hI.word q (Xb hq);(have hgo2:splitGo c.kind c.parts (decide (k=0)) last ps (ws.drop k)=if JP c.kind (decide (k=0)) (i:Int) last then none else splitGo c.kind c.parts false (i:Int) (Jr ps i s) (ws.drop (k+1)):=by rw [WL hs,splitGo,hi];rfl);(have hP:AF prog 189 [Pf c,Zv s] (· =Zb (i:Int)):=by rw [<-hi];exact Zc5 c s oM);refine nav ?_;refine YJ [] [3] ?_<;>(refine yD 0 rfl (Zn 3 Z6) fun v37 h=>?_;cases h)<;>refine xD 1 rfl Za ?_<;>refine xE 2 rfl Za ?_<;>refine xE 3 rfl (Ze Zm) ?_<;>(refine yE 4 rfl (Zu ZB) fun v41 h=>?_;cases h)<;>(refine ZY 5 kR ?_)<;>(refine Yo (d:=42) rfl (cA call189 hP) fun v42 h=>?_;cases h)<;>refine xE 6 rfl ZJ ?_<;>refine WE ?_;(refine Zo ?_<;>refine xM (Zc 3 Jn) ?_<;>refine yV (Zh 3 ZH) ?_<;>refine ZO ?_<;>(refine bLd 46 (fun hb46=>?_) (fun hb46=>?_)<;>refine kZ ?_)<;>refine kZ ?_<;>refine kZ ?_<;>refine ZO ?_<;>(first|refine xM (Zc 3 Jn) ?_|(refine bLd 51 (fun hb51=>?_) (fun hb51=>?_)<;>(first|refine kL ?_|refine xM (Zc 3 Jn) ?_)))<;>(first|refine kL ?_|refine yV (Zh 3 ZH) ?_)<;>refine kZ ?_<;>refine kZ ?_<;>(first|refine kL ?_|(refine bLd 55 (fun hb55=>?_) (fun hb55=>?_)<;>refine kZ ?_))<;>refine kZ ?_<;>refine kZ ?_<;>refine kZ ?_<;>(first|refine kL ?_|(refine bLd 59 (fun hb59=>?_) (fun hb59=>?_)<;>refine kZ ?_))<;>refine kZ ?_<;>refine kZ ?_<;>refine kZ ?_<;>refine ZN ?_<;>refine Zw ?_)<;>(
 refine Ja (fun x:{x:Unit//JP c.kind (decide (k=0)) (i:Int) last=false}=>⟨[(0,v0,ZW ws),(3,padd (sbase h3) 0, .val (padd (sbase h3) 0)),(6,h6, .val h6),(9, .int .i64 k,Zb k),(10, .int .i64 i,Zb i)],[(3,h3, .own 42 2 1 [Zb c.kind,LG c.parts]),(200,h6, .own 230 2 c.parts.length (ps.flatMap (Z3 9)))]⟩) ?_ ?_
 . refine cX ?_ ?_<;>intro hb64
   . first|exact bN hb64|(
 refine ZU ?_;refine YO (Ps (t:=4) rfl) fun _=>?_;refine Y7 (results190) rfl rfl ?_;rw [show H3 c ws=([],false) by unfold H3;rw [Qb hk4,hI.go,hgo2,ZpY oM];rfl];rfl)
   . first|exact bN hb64|(
 refine nav ?_;exact YF ⟨(),ZpZ oM⟩ sB sB)
 . rintro ⟨_,hbad⟩;try dsimp only at hbad
   have hfl2:=Ya (Yw 9) ps;have hcell:=Yx (Yw 9) hq (j:=1) dC;refine ZU ?_;refine Zq (TW (l:=200) (l':=500) (j:=i*2+1) rfl hcell rfl rfl) fun v=>?_;obtain ⟨v,hv1⟩:=v;dsimp only;have hc2:((ps.flatMap (Z3 9)).set (i*2+1) (.val v))[i*2+1]? =some (.val v):=XJ oM;(refine YJ [15] [3,200] ?_<;>refine xD 0 rfl Za ?_<;>refine xD 1 rfl Za ?_<;>refine xD 2 rfl Za ?_<;>refine xD 3 rfl Za ?_<;>refine xD 4 rfl (Zj 200 WK) ?_<;>refine xD 5 rfl (Zc 200 LU) ?_<;>(refine yD 6 rfl (Ea 200 (i*2+1) ZF (hp:=hc2)) fun v72 h=>?_;cases h)<;>refine xD 7 rfl Za ?_<;>refine xE 8 rfl Za ?_<;>refine xE 9 rfl (Ze Zm) ?_<;>(refine yE 10 rfl (Zu ZB) fun v76 h=>?_;cases h)<;>(refine aDr 11 fun bk=>?_)<;>refine WC (kk:=1) 77 YV fun h77 ho77=>?_<;>refine bE bk ?_<;>(refine aDr 12 fun bk=>?_)<;>refine Wc 500 77 78 YV (fun h78 ho78=>?_)<;>refine bE bk ?_<;>refine xE 13 rfl (Zj 200 WK) ?_<;>refine xE 14 rfl (Zc 200 LU) ?_<;>(refine ZY 15 kR ?_)<;>(refine Ww rfl rfl kR fun DQ bk=>?_)<;>(refine LJ 200 (i*2+1) rfl rfl ZF OZ rfl rfl rfl (by assumption) rfl (by first|rfl|omega) (by rw [Xn,hfl2];omega) ?_)<;>refine WA (bk _ (nav ?_))<;>try dsimp only)
   have hc3:(((ps.flatMap (Z3 9)).set (i*2+1) (.val v)).set (i*2+1) (.val h78))[i*2+1]? =some (.val h78):=XJ (by rw [Xn];omega);refine Zq (L9 (l:=200) (l':=78) (j:=i*2+1) rfl hc3 rfl rfl) fun _=>?_;have hcs:((((ps.flatMap (Z3 9)).set (i*2+1) (.val v)).set (i*2+1) (.val h78)).set (i*2+1) (.own 9 1 (q.word.length+1) (q.word.map Zv++[Zv s])))=(Jr ps i s).flatMap (Z3 9):=by
    rw [X4,X4,SO (Yw 9) ps i 1 q ⟨q.part,q.word++[s]⟩ _ hq dC (by simp [Z3]),Ta hq]
   refine Zq (Wv (l:=200) rfl (show PV.own 230 2 c.parts.length ((((ps.flatMap (Z3 9)).set (i*2+1) (.val v)).set (i*2+1) (.val h78)).set (i*2+1) (.own 9 1 (q.word.length+1) (q.word.map Zv++[Zv s])))=PV.own 230 2 c.parts.length ((Jr ps i s).flatMap (Z3 9)) by rw [hcs])) fun _=>?_;refine GP ?_;refine Yr (
    ⟨(k+1,Jr ps i s,i),by show k+1<=ws.length;omega,by
      show _=splitGo c.kind c.parts (decide (k+1=0)) (i:Int) (Jr ps i s) (ws.drop (k+1));rw [hI.go,hgo2,hbad,show decide (k+1=0)=false by simp];rfl,by show (Jr ps i s).length=_;rw [H8];exact hpl,by show ∀p∈Jr ps i s,_;rw [Ta hq];exact ZfM hq hI.word,hilt⟩
    )))
 . (
 (have hfin:splitGo c.kind c.parts true 0 (initPs c.parts.length) ws=some (ps,(last:Int)):=by rw [hI.go,XN oM,splitGo]);refine Zi ?_;refine xM (Zc 3 Jn) ?_;refine yV (Zh 3 ZH) ?_;refine Wl ?_ ?_<;>intro hb83
 . (
 refine nav ?_;refine Zq (En.freeze (l:=200) (t:=6) rfl rfl) fun _=>?_;rw [Dl _ _ _ _ hpl.symm];have hfc:=Ya G' ps;have hlp:last<ps.length:=oM;have ePp:Tw ps= .sl ps.length (ps.flatMap PE):=rfl;rw [ePp];refine Zo ?_;refine LZ ?_;refine xM (Wd (i:=last) (j:=last+1) WK rfl rfl rfl rfl (VK _) oM hfc) ?_;refine xL 89 Za (xL 90 (Zs Zm) (xL 91 Jw (xL 4 ZJ (xL 5 ZJ ?_))));refine Zw ?_;refine Y7 (results190) rfl rfl ?_;rw [Zp0 hlp,show H3 c ws=((ps.drop last).take 1,decide ((0:Int)<(ws.length:Int))) by unfold H3;rw [Qb hk4,hfin];dsimp only;rw [Qc oM];rfl])
 . (
 refine Y2 ?_;refine YO (En.freeze (l:=200) (t:=4) rfl rfl) fun _=>?_;refine Y7 (results190) rfl rfl ?_;rw [Dl _ _ _ _ hpl.symm,show H3 c ws=(ps,true) by unfold H3;rw [Qb hk4,hfin];dsimp only;rw [Qb oM]]))))
theorem ZaW {w:List BA} {n:Int}:∀{L:List Var} {k:Nat} {x:Var},(∀j y,j<k->L[j]? =some y->cmpStrs y.acts w<0)->L[k]? =some x->cmpStrs x.acts w=0->YT L w n=L.take k++[⟨w,x.count+n⟩]++L.drop (k+1)
 |[],k,x,_,hx,_=>by rw [List.getElem?_nil] at hx;cases hx
 | y::L,0,x,_,hx,he=>by
   rw [U8] at hx;cases hx;rw [YT,Qb oM,Qc he];simp
 | y::L,k+1,x,h1,hx,he=>by
   rw [XU] at hx;rw [YT,Qc (h1 0 y (Va k) rfl),ZaW (k:=k) (fun j z hj hz=>h1 (j+1) z (Nat.succ_lt_succ hj) (by rw [XU];exact hz)) hx he];simp
theorem addVar_new {w:List BA} {n:Int}:∀{L:List Var} {k:Nat},(∀j y,j<k->L[j]? =some y->cmpStrs y.acts w<0)->k<=L.length->(∀y,L[k]? =some y->¬cmpStrs y.acts w<0/\cmpStrs y.acts w≠0)->YT L w n=L.take k++[⟨w,n⟩]++L.drop k
 | [],k,_,hk,_=>by
   have h0:k=0:=by have:k<=0:=hk;omega
   subst h0;rfl
 | y::L,0,_,_,h2=>by
   have:=h2 y rfl;rw [YT,Qb this.1,Qb this.2];simp
 | y::L,k+1,h1,hk,h2=>by
   rw [YT,Qc (h1 0 y (Va k) rfl),addVar_new (k:=k) (fun j z hj hz=>h1 (j+1) z (Nat.succ_lt_succ hj) (by rw [XU];exact hz)) (Nat.le_of_succ_le_succ hk) (fun z hz=>h2 z (by rw [XU];exact hz))];simp
theorem Zn3 (L:List Var) (w:List BA) (n:Int) (hl:L.length<=1000000000) (hb:∀x∈L,0<=x.count+n/\x.count+n<=4611686018427387904):AF prog 191 [Z1 L,ZW w,Zb n] (· = .own 28 2 (YT L w n).length ((YT L w n).flatMap Wo)):=by
 have f5:(L.flatMap Wo).length=L.length*2:=Ya Z0 L
 refine AF.b3 69 func191 rfl ntmps191 (Xa rfl) ?_
 rintro w0 M0 v0 v1 _- -rfl
 refine JR ?_
 refine Y9 (ι:={k:Nat//k<=L.length/\∀j x,j<k->L[j]? =some x->cmpStrs x.acts w<0}) (fun k=>⟨[(0,_,_),(1,_,_),(2,_,_),(7, .int .i64 k.1,Zb k.1)],[]⟩) (fun k=>L.length-k.1) ⟨0,Xg _,fun j x h=>Qd h (Vo j)⟩ (fun a w H=>H.weaken sB trivial) ?_
 rintro ⟨k,hk,hkp⟩
 dsimp only
 obtain ⟨x,hx0⟩:∃x,x=L[k]?.getD ⟨w,0⟩:=⟨_,rfl⟩
 have hd:k<L.length->L[k]? =some x:=fun h=>by obtain ⟨y,hy⟩:=get_some h;rw [hx0,hy];rfl
 have e1:k<L.length->(L.flatMap Wo)[k*2+0]? =some (ZW x.acts):=fun h=>by rw [Yx Z0 (hd h) (j:=0) dC];rfl
 have e2:k<L.length->(L.flatMap Wo)[k*2+1]? =some (Zb x.count):=fun h=>by rw [Yx Z0 (hd h) (j:=1) dC];rfl
 clear hx0
 refine Zi ?_
 (refine xL 9 Za (xL 10 Za (xL 11 (Zs Zy) (xL 12 Yj (xL 13 Za ?_))))<;>(refine bLd 13 (fun hb13=>?_) (fun hb13=>?_)<;>refine kZ ?_)<;>refine kZ ?_<;>(first|refine kL ?_|refine xM (Ze Zy) ?_)<;>(first|refine kL ?_|refine xM (Yn Z8) ?_)<;>(first|refine kL ?_|refine yU (Zu ZF (hp:=e1 oM)) fun v18=>?_)<;>refine kZ ?_<;>(first|refine kL ?_|(refine cV (cA call89 (Dx x.acts w)) ?_))<;>refine kZ ?_<;>refine ZN ?_<;>refine Zw ?_)<;>(
 refine cX ?_ ?_<;>intro hb22
 . first|exact bN hb22|(
 refine Y2 ?_;refine Zf (
  ⟨k+1,oM,fun j y hj hy=>by
   by_cases e:j=k
   . subst e;rw [hd oM] at hy;cases hy;exact hb22
   . exact hkp j y oM hy⟩
  ) (by dsimp only;omega) sB trivial)
 . (
 refine nav ?_;have hnl:∀y,L[k]? =some y->¬cmpStrs y.acts w<0:=fun y hy=>by
  have hlt:=Zd hy;rw [hd hlt] at hy;cases hy
  first
   |exact hb22
   |(exfalso;omega)
 (have f1:(((L.flatMap Wo).drop (0*2)).take ((k-0)*2)).length=(k-0)*2:=by rw [Ji Z0,Ya Z0,XE];omega);(have f2:(((L.flatMap Wo).drop (0*2)).take ((k-0)*2)).all En.one=true:=by rw [Ji Z0];exact HM _);refine Zo ?_;refine TX 25 Kc fun h25 ho25=>?_;refine ZO ?_;refine xM (Wd (i:=0) (j:=k) Zy rfl rfl rfl rfl (Xg _) hk f5) ?_;refine W5 25 29 Kc (fun h29 ho29=>?_) f1 f2;refine ZX ?_;(refine xL 30 Za (xL 31 Za (xL 32 (Zs Zy) (xL 33 Yj (xL 34 Za ?_))))<;>(refine bLd 34 (fun hb34=>?_) (fun hb34=>?_)<;>refine kZ ?_)<;>refine kZ ?_<;>(first|refine kL ?_|refine xM (Ze Zy) ?_)<;>(first|refine kL ?_|refine xM (Yn Z8) ?_)<;>(first|refine kL ?_|refine yU (Zu ZF (hp:=e1 oM)) fun v39=>?_)<;>refine kZ ?_<;>(first|refine kL ?_|(refine cV (cA call89 (Dx x.acts w)) ?_))<;>refine kZ ?_<;>refine ZN ?_<;>refine Zw ?_)<;>(
 refine cX ?_ ?_<;>intro hb43
 . first|exact bN hb43|(
 have hkl:k<L.length:=oM;have hx:=hd hkl;have hbx:=hb x (Xb hx);have e3:=e2 hkl;(have f3:(((L.flatMap Wo).drop ((k+1)*2)).take ((L.length-(k+1))*2)).length=(L.length-(k+1))*2:=by rw [WX Z0,Ya Z0,Vu]);(have f4:(((L.flatMap Wo).drop ((k+1)*2)).take ((L.length-(k+1))*2)).all En.one=true:=by rw [WX Z0];exact HM _);have r1:=ZaW (n:=n) hkp hx hb43;refine Zi ?_;refine xL 44 Za (xL 45 Za (xL 46 Za (xL 47 Za (xL 48 (Ze Zy) (xL 49 (Yn Wh) ?_)))));refine yV (Zu ZH) ?_;refine xL 51 Za (xL 52 PN (xL 53 (ZC J8) ?_));refine WH 54 Kc fun h54 ho54=>?_;refine Wc 29 54 55 Kc fun h55 ho55=>?_;refine ZX ?_;refine Y1 ?_;refine Ym ?_;refine Y1 ?_<;>(first|refine xM (Wd (i:=k+1) (j:=L.length) Zy rfl rfl rfl rfl oM (Xd _) f5) ?_|refine xM (Wd (i:=k) (j:=L.length) Zy rfl rfl rfl rfl hk (Xd _) f5) ?_)<;>(first|refine W5 55 68 Kc (fun h68 ho68=>?_) f3 f4|refine W5 63 68 Kc (fun h68 ho68=>?_) f3 f4)<;>refine ZN ?_<;>refine Zw ?_;refine Ga 68 (results191) rfl rfl ?_;rw [r1,Ji Z0,WX Z0];show PV.own _ _ _ _=PV.own _ _ _ _;congr 1
 . simp;omega
 . simp [XY,Wo];rfl)
 . (
 have hne:∀y,L[k]? =some y->¬cmpStrs y.acts w<0/\cmpStrs y.acts w≠0:=fun y hy=>⟨hnl y hy,fun he=>by
  have hlt:=Zd hy;rw [hd hlt] at hy;cases hy
  first
   |exact hb43 he
   |(exfalso;omega)⟩
 (have f3:(((L.flatMap Wo).drop (k*2)).take ((L.length-k)*2)).length=(L.length-k)*2:=by rw [WX Z0,Ya Z0,Vu]);(have f4:(((L.flatMap Wo).drop (k*2)).take ((L.length-k)*2)).all En.one=true:=by rw [WX Z0];exact HM _);have r1:=addVar_new (n:=n) hkp hk hne;refine Zi ?_;refine xL 58 Za (xL 59 Za (xL 60 Za (xL 61 (ZC J8) ?_)));refine WH 62 Kc fun h62 ho62=>?_;refine Wc 29 62 63 Kc fun h63 ho63=>?_;refine ZX ?_;refine Y1 ?_<;>(first|refine xM (Wd (i:=k+1) (j:=L.length) Zy rfl rfl rfl rfl oM (Xd _) f5) ?_|refine xM (Wd (i:=k) (j:=L.length) Zy rfl rfl rfl rfl hk (Xd _) f5) ?_)<;>(first|refine W5 55 68 Kc (fun h68 ho68=>?_) f3 f4|refine W5 63 68 Kc (fun h68 ho68=>?_) f3 f4)<;>refine ZN ?_<;>refine Zw ?_;refine Ga 68 (results191) rfl rfl ?_;rw [r1,Ji Z0,WX Z0];show PV.own _ _ _ _=PV.own _ _ _ _;congr 1
 . simp;omega
 . simp [XY,Wo];rfl))))
theorem Zlj:ElT prog 45 22 1 24 (.slice none 0 0):=⟨underlying45,by kernel_rfl,rfl,dC⟩
theorem Zlk:(prog.info? 22).map (·.size)=some 1:=kR
theorem AF.shared {P:Program} {f:Nat} {ps:List PV} {p p':PV} (h:AF P f ps (· =p)) (e:share p=p'):AF P f ps (· =p'):=fun M w vs hM hl hv=>
 (h M w vs hM hl hv).mono fun e1 w' ⟨v,q,F,h1,h2,h3,h4,h5,h6⟩=>by
   subst h2 e;refine ⟨v,_,fun _=>False,h1,rfl,h3, .shr (h4.share (M':=fun b=>M b\/False) (fun b _ hb=>?_) fun b hF hb=>?_) (fun _ h=>h),fun b hb=>hb.elim,h6⟩
   . rcases hb with hb|hb
     . exact .inl hb
     . exact hb.elim
   . rcases hb with hb|hb
     . have h8:=h5 b hF;have h9:=(hM.m b hb).1;exact Qd h9 (Nat.not_lt.2 h8)
     . exact hb
theorem Zcv {sL hP:List (Nat×Ent)} {l e k n:Nat} {h:Value} {cs:List PV} (cs':List PV) (hl:lk hP l=some (h, .own e k n cs)) (hlen:cs'.length=cs.length) (hc:∀(i:Nat) (p p':PV),cs[i]? =some p->cs'[i]? =some p'->p'=p\/(p= .val (.slice none 0 0)/\p'= .sl 0 [])):L8 (⟨sL,hP⟩:St) (fun _:Unit=>⟨sL,put l (h, .own e k n cs') hP⟩):=fun c a w ⟨F,H⟩=>by
 refine ⟨(),F,?_⟩
 have hTr:=H.tr l _ _ hl
 obtain ⟨xs,Fs,hrow,hxl,hT,hd,hb,hF⟩:=hTr.row
 refine H.retell (fun t=>t=l) (fun t y hnT hy=>?_) (fun t y b hT' hy hb'=>?_) (fun hm t u q hT' hy=>?_) (fun t1 t2 _ _ _ h1 h2 hne=>Qd (h1.trans h2.symm) hne)
 . have n2:t≠l:=hnT;rw [Yz (Ne.symm n2)] at hy;exact ⟨hy,rfl⟩
 . subst hT';exact ⟨t,_,rfl,hl,hb'⟩
 . subst hT';rw [Z4] at hy
   cases hy;refine .own xs Fs hrow oM (fun i x p' hx hp'=>?_) (fun i j b hi hj=>hd i j b oM oM) (fun i b hi=>hb i b oM) (fun b=>by rw [hF b,hlen]);obtain ⟨p,hp⟩:=Wj hp' hlen;have hTi:=(hT i x p hx hp).anti hm;rcases hc i p p' hp hp' with rfl|⟨rfl,rfl⟩
   . exact hTi
   . have hx0:x= .slice none 0 0:=(hTi.sh rfl).vOf
     cases hTi with
     |shr _ hF=>subst hx0;exact .shr (.emp none 0 (by unfold maxLen;omega) (fun _=>rfl)) hF
theorem Zp1 {n i:Nat} {p p':PV} (h1:(List.replicate n (PV.val (.slice none 0 0)))[i]? =some p) (h2:((List.replicate n ([]:List Var)).map Z1)[i]? =some p'):p'=p\/(p= .val (.slice none 0 0)/\p'= .sl 0 []):=by
 rw [List.map_replicate] at h2
 exact .inr ⟨VB (Xb h1),VB (Xb h2)⟩
theorem ZfN (l:List (List Var)):Wk (l.map Z1)=l.map Z1:=by
 rw [YI,Xz];rfl
structure SpI (l:List Var) (c:Cut) (k:Nat) (S:List (List Var)):Prop where
 le:k<=l.length
 len:S.length=c.parts.length
 ok:RowsOk (k*1000300) S
 go:splitAll c (List.replicate c.parts.length []) l=splitAll c S (l.drop k)
structure SpJ (c:Cut) (S:List (List Var)) (ps:List Piece) (n:Int) (k j:Nat) (T:List (List Var)):Prop where
 le:j<=ps.length
 len:T.length=c.parts.length
 ok:RowsOk (k*1000300+j) T
 go:ps.foldl (putPiece n) S=(ps.drop j).foldl (putPiece n) T
theorem SpJ.step {c:Cut} {S T:List (List Var)} {ps:List Piece} {n:Int} {k j:Nat} {p:Piece} {r:List Var} {i:Nat} (h:SpJ c S ps n k j T) (hp:ps[j]? =some p) (hi:p.part=i) (hr:T[i]? =some r) (h0:0<=n) (h1:n<=1048576):SpJ c S ps n k (j+1) (T.set i (YT r p.word n)):=by
 have e:putPiece n T p=T.set i (YT r p.word n):=by
  unfold putPiece;rw [hi,XG,hr]
 refine ⟨Zd hp,by rw [Xn];exact h.len,?_,?_⟩
 . rw [<-e,<-Vv];exact E7 h0 h1 h.ok
 . rw [h.go,WL hp,Vk,e]
theorem Zll {m n:Nat} {out:List (List Var)} (h:RowsOk m out) (hmn:m<=n):RowsOk n out:=fun r hr=>⟨XK (h r hr).1 hmn,fun x hx=>⟨((h r hr).2 x hx).1,Int.le_trans ((h r hr).2 x hx).2 (U6 (Int.ofNat_le.2 hmn) dC)⟩⟩
theorem SpJ.done {l:List Var} {c:Cut} {S T:List (List Var)} {ps:List Piece} {k j:Nat} {x:Var} (hI:SpI l c k S) (hx:l[k]? =some x) (hs:We c x.acts=some ps) (h:SpJ c S ps x.count k j T) (hj:ps.length<=j) (hn:ps.length<=1000300):SpI l c (k+1) T:=by
 refine ⟨Zd hx,h.len,Zll h.ok (by have:=h.le;rw [X3];omega),?_⟩
 rw [hI.go,Ox hx,hs]
 dsimp only
 rw [h.go,XN hj];rfl
theorem Zhk (l : List Var) (c:Cut) (hV:validVars l=true) (hF:YZ c=true) (hpn:c.parts.length<=1000) (hs:∀p∈c.parts,∀s∈p,s.size<=140737488355328) (hfl:c.parts.flatten.length<=1000000):AF prog 128 [Z1 l,Pf c] (RSp (KQ l c)):=by
 have hok:=SU hV
 have hk300:l.length<=300:=by simp only [validVars,Xe,U9] at hV;exact hV.1
 have hfit:Do l:=⟨oM,fun x hx=>Pb (hok x hx)⟩
 have hAV:AF prog 31 [Z1 l] (· =Zr true):=by rw [<-hV];exact Tp l hfit
 have hAF:AF prog 188 [Pf c] (· =Zr true):=by rw [<-hF];exact Zj4 c hs hfl oM
 have hkind:=Ow hF
 refine AF.b2 142 func128 rfl ntmps128 (Xa rfl) fun w0 M0 v0 v1 _ _=>?_
 refine Zi ?_
 refine Yi 3 2 fun h3=>?_;refine J9 ?_
 (refine ZN ?_ <;> (refine cV (cA call31 (hAV)) ?_)<;>refine xL (v:= .bool false) (p:= .val (.bool false)) 18 (LK (b:=true)) ?_<;>refine ZN ?_<;>refine yU (Zn 3 Z6) fun v20=>?_<;>(refine cV (cA call188 (hAF)) ?_)<;>refine xL (v:= .bool false) (p:= .val (.bool false)) 22 (LK (b:=true)) ?_<;>refine ZN ?_<;>refine Zw ?_)<;>(
 refine cX ?_ ?_<;>intro hb23
 . exact bN hb23
 . (
 refine ZD ?_;refine Yq (ι:={k:Nat//k<=l.length/\∀(j:Nat) (x:Var),j<k->l[j]? =some x->∀s∈x.acts,0<=partOf c.parts s}) (fun k=>⟨[(0,_,_),(3,_,_),(6, .int .i64 k.1,Zb k.1)],[(3,_,_)]⟩) (fun k=>l.length-k.1) ⟨0,Xg _,fun j x hj=>Qd hj (Vo j)⟩ ?_;rintro ⟨k,hk,hp⟩;dsimp only;refine Zi ?_;refine xL 24 Za (xL 25 Za (xL 26 (Zs Zy) (xL 27 Yj ?_)));refine ZE ?_ ?_<;>intro hb27
 . (
 obtain ⟨x,hx⟩:=gS l k;have hxa:=(ZaT (hok x (Xb hx))).2.2;(have e1:(l.flatMap Wo)[k*2+0]? =some (ZW x.acts):=by rw [Yx Z0 hx (j:=0) dC];rfl);refine ZD ?_;refine Yq (ι:={j:Nat//j<=x.acts.length/\∀s∈x.acts.take j,0<=partOf c.parts s}) (fun k=>⟨[(0,_,_),(3,_,_),(6,_,_),(7, .int .i64 k.1,Zb k.1)],[(3,_,_)]⟩) (fun k=>x.acts.length-k.1) ⟨0,Xg _,fun s hs=>by simp at hs⟩ ?_;rintro ⟨j,hj,hpj⟩;dsimp only;refine Zi ?_;refine xL 30 Za (xL 31 Za (xL 32 Za (xL 33 (Ze Zy) (xL 34 (Yn Z8) ?_))));refine yU (Zu ZF) fun v35=>?_;refine xL 36 (Zs Zm) (xL 37 Yj ?_);refine ZE ?_ ?_<;>intro hb37
 . (
 obtain ⟨s,hs1⟩:=gS x.acts j;have e2:=Yh (f:=Zv) hs1;refine nav ?_;refine YJ [] [3] ?_<;>(refine yD 0 rfl (Zn 3 Z6) fun v40 h=>?_;cases h)<;>refine xD 1 rfl Za ?_<;>refine xD 2 rfl Za ?_<;>refine xD 3 rfl (Ze Zy) ?_<;>refine xD 4 rfl (Yn Z8) ?_<;>(refine yD 5 rfl (Zu ZF) fun v45 h=>?_;cases h)<;>refine xE 6 rfl Za ?_<;>refine xE 7 rfl (Ze Zm) ?_<;>(refine yE 8 rfl (Zu ZB) fun v48 h=>?_;cases h)<;>(refine ZY 9 kR ?_)<;>(refine Yo (d:=49) rfl (cA call189 (Zc5 c s oM)) fun v49 h=>?_;cases h)<;>refine xE 10 rfl Yj ?_<;>refine WE ?_;refine cX ?_ ?_<;>intro hb50
 . (
 refine ZU ?_;refine YO (Ps (t:=4) rfl) fun _=>?_;exact Y7 (results128) rfl rfl (Tx (Zfm hV hF (Zar (Xb hx) (Xb hs1) oM))))
 . (
 refine Y2 ?_;refine Yr (
  ⟨j+1,oM,fun y hy=>by
   rw [Z2 hs1] at hy;rcases XB.1 hy with hy|hy
   . exact hpj y hy
   . rw [XC] at hy;subst hy;omega⟩
  )))
 . (
 refine Y2 ?_;refine Yr (
  ⟨k+1,oM,fun j2 y hj2 hy=>by
   by_cases e:j2=k
   . subst e;rw [hx] at hy;cases hy;exact fun s hs2=>hpj s (by rw [Xt oM];exact hs2)
   . exact hp j2 y oM hy⟩
  )))
 . (
 have hP:∀x∈l,∀s∈x.acts,0<=partOf c.parts s:=fun x hx=>by
  obtain ⟨j,hj⟩:=XM hx;exact hp j x (by have:=Zd hj;omega) hj
 have hIn:Js c.parts l=true:=by
  unfold Js;rw [Xj];intro x hx;rw [Xj];exact fun s hs=>U' (hP x hx s hs)
 refine Zi ?_;refine xM (Zc 3 KH) ?_;refine yU (Zh 3 JG) fun v52=>?_;refine xM (Zs Tl) ?_;refine Kz 54 Zlj fun h54 ho54=>?_;refine ZP ?_;refine Zq (Zcv (l:=54) ((List.replicate c.parts.length ([]:List Var)).map Z1) rfl sM (fun i p p' h1 h2=>Zp1 h1 h2)) fun _=>?_;refine Zq (ZM (l:=54) 200 rfl rfl) fun _=>?_;refine Zo ?_;refine ZP ?_;refine Yq (ι:={x:Nat×List (List Var)//SpI l c x.1 x.2}) (fun k=>⟨[(0,_,_),(3,_,_),(8,h54, .val h54),(9, .int .i64 k.1.1,Zb k.1.1)],[(3,_,_),(200,h54, .own 22 1 c.parts.length (k.1.2.map Z1))]⟩) (fun k=>l.length-k.1.1) ⟨(0,List.replicate c.parts.length []),Xg _,sM,by rw [X8];exact ζc _,rfl⟩ ?_;rintro ⟨⟨k,S⟩,hI⟩;dsimp only;dsimp only at hI;have hk:=hI.le;refine Zi ?_;refine xL 55 Za (xL 56 Za (xL 57 (Zs Zy) (xL 58 Yj ?_)));refine ZE ?_ ?_<;>intro hb58
 . (
 obtain ⟨x,hx⟩:=gS l k;(have e3:(l.flatMap Wo)[k*2+0]? =some (ZW x.acts):=by rw [Yx Z0 hx (j:=0) dC];rfl);(have e4:(l.flatMap Wo)[k*2+1]? =some (Zb x.count):=by rw [Yx Z0 hx (j:=1) dC];rfl);have hxm:=Xb hx;have hbd:=ZaT (hok x hxm);have hA:=Zn2 c x.acts (hP x hxm) oM oM oM;have hsx:=ZpX c x.acts;obtain ⟨⟨ps,b⟩,hpb⟩:∃y,y=H3 c x.acts:=⟨_,rfl⟩;rw [<-hpb] at hA hsx;dsimp only at hA hsx;refine nav ?_;refine YJ [] [3] ?_<;>refine xD 0 rfl Za ?_<;>refine xD 1 rfl Za ?_<;>refine xD 2 rfl (Ze Zy) ?_<;>refine xD 3 rfl (Yn Z8) ?_<;>(refine yD 4 rfl (Zu ZF) fun v66 h=>?_;cases h)<;>(refine yE 5 rfl (Zn 3 Z6) fun v67 h=>?_;cases h)<;>(refine ZY 6 kR ?_)<;>(refine ZeJ (d:=68) rfl (cA call190 hA) fun v68a v68b hv68a hv68b=>?_;cases hv68a;cases hv68b)<;>refine xE 7 rfl Za ?_<;>refine xD 8 rfl Y4 ?_<;>refine xD 9 rfl Y4 ?_<;>refine xE 10 rfl ZJ ?_<;>refine xE 11 rfl ZJ ?_<;>refine WE ?_;refine Zo ?_;refine WZ ?_ ?_<;>intro hb72
 . (
 have hbf:b=false:=by cases b with|false=>rfl|true=>cases hb72
 refine ZU ?_;refine YO (Ps (t:=4) rfl) fun _=>?_;exact Y7 (results128) rfl rfl (Tx (Zb7 hV hF hIn (by rw [hI.go,Ox hx,hsx,hbf];rfl))))
 . (
 have hbt:b=true:=by cases b with|true=>rfl|false=>cases hb72
 (have hO:We c x.acts=some ps:=by rw [hsx,hbt];rfl);have hPS:=ζb oM (hP x hxm) hO;have hPl:=hPS.1;have hcl:=Ya G' ps;have ePp:Tw ps= .sl ps.length (ps.flatMap PE):=rfl;refine ZD ?_;refine Yq (ι:={y:Nat×List (List Var)//SpJ c S ps x.count k y.1 y.2}) (fun k=>⟨[(0,_,_),(3,_,_),(8,_,_),(9,_,_),(10,_,_),(12, .int .i64 k.1.1,Zb k.1.1)],[(3,_,_),(200,h54, .own 22 1 c.parts.length (k.1.2.map Z1))]⟩) (fun k=>ps.length-k.1.1) ⟨(0,S),Xg _,hI.len,(by show RowsOk (k*1000300+0) S;rw [VM];exact hI.ok),rfl⟩ ?_;rintro ⟨⟨j,T⟩,hJ⟩;dsimp only;dsimp only at hJ;have hj:=hJ.le;refine Zi ?_;refine xL 73 Za (xL 74 Za (xL 75 (Zs WK) (xL 76 Yj ?_)));refine ZE ?_ ?_<;>intro hb76
 . (
 obtain ⟨p,hp1⟩:=gS ps j;have hpp:=hPS.2 p (Xb hp1);obtain ⟨i,hi⟩:∃i:Nat,p.part=i:=⟨p.part.toNat,oM⟩;obtain ⟨r,hr⟩:=get_some (show i<T.length by have:=hJ.len;omega);(have g1:(ps.flatMap PE)[j*2+0]? =some (Zb (i:Int)):=by rw [Yx G' hp1 (j:=0) dC,<-hi];rfl);(have g2:(ps.flatMap PE)[j*2+1]? =some (ZW p.word):=by rw [Yx G' hp1 (j:=1) dC];rfl);have g3:=Yh (f:=Z1) hr;have hrok:=hJ.ok r (Xb hr);(have hTl:(T.map Z1).length=c.parts.length:=by rw [Xc];exact hJ.len);have hAd:AF prog 191 [Z1 r,ZW p.word,Zb x.count] (· =Z1 (YT r p.word x.count)):=AF.shared (Zn3 r p.word x.count (by have:=hrok.1;omega) (fun y hy=>by have:=hrok.2 y hy;omega)) (by simp only [share,Oy];rfl);refine nav ?_;(refine YJ [26] [3,200] ?_<;>refine xD 0 rfl Za ?_<;>refine xD 1 rfl Za ?_<;>refine xD 2 rfl Za ?_<;>refine xD 3 rfl (Ze WK) ?_<;>refine xD 4 rfl (Yn GM) ?_<;>(refine yD 5 rfl (Zu ZH) fun v84 h=>?_;cases h)<;>refine xD 6 rfl Za ?_<;>refine xD 7 rfl Za ?_<;>refine xD 8 rfl Za ?_<;>refine xD 9 rfl (Ze WK) ?_<;>refine xD 10 rfl (Yn GM) ?_<;>(refine yD 11 rfl (Zu ZH) fun v90 h=>?_;cases h)<;>refine xD 12 rfl (Zj 200 JO) ?_<;>(refine yD 13 rfl (Zh 200 Tq) fun v92 h=>?_;cases h)<;>refine xD 14 rfl Za ?_<;>refine xD 15 rfl Za ?_<;>refine xD 16 rfl (Ze WK) ?_<;>refine xD 17 rfl (Yn LU) ?_<;>(refine yD 18 rfl (Zu ZF) fun v97 h=>?_;cases h)<;>refine xD 19 rfl Za ?_<;>refine xE 20 rfl Za ?_<;>refine xE 21 rfl (Ze Zy) ?_<;>refine xE 22 rfl (Yn Wh) ?_<;>(refine yE 23 rfl (Zu ZH) fun v102 h=>?_;cases h)<;>(refine ZY 24 kR ?_)<;>(refine Yo (d:=103) rfl (cA call191 hAd) fun v103 h=>?_;cases h)<;>refine xE 25 rfl (Zj 200 JO) ?_<;>(refine ZY 26 kR ?_)<;>(refine Ww rfl rfl kR fun DQ bk=>?_)<;>refine JX 200 Tq Zlk ?_<;>refine WA (bk _ (nav ?_))<;>try dsimp only)
 refine GP ?_;refine ZK (Wv (l:=200) rfl (show PV.own 22 1 c.parts.length ((T.map Z1).set (i*1) (Z1 (YT r p.word x.count)))=PV.own 22 1 c.parts.length ((T.set i (YT r p.word x.count)).map Z1) by rw [XI,Uo])) fun _=>?_;refine Yr (
  ⟨(j+1,T.set i (YT r p.word x.count)),hJ.step hp1 hi hr oM oM⟩
  ))
 . (
 refine Y2 ?_;refine Yr (
  ⟨(k+1,T),SpJ.done hI hx hO hJ oM oM⟩
  ))))
 . (
 (have hall:splitAll c (List.replicate c.parts.length []) l=some S:=by rw [hI.go,XN oM,splitAll]);have hSl:=hI.len;refine ZD ?_;refine Yq (ι:={y:Nat//y<=c.parts.length/\∀(j:Nat) (r:List Var),j<y->S[j]? =some r->bigVars r=false}) (fun k=>⟨[(0,_,_),(3,_,_),(8,_,_),(13, .int .i64 k.1,Zb k.1)],[(3,_,_),(200,_,_)]⟩) (fun k=>c.parts.length-k.1) ⟨0,Xg _,fun j r hj=>Qd hj (Vo j)⟩ ?_;rintro ⟨a,ha,hba⟩;dsimp only;refine Zi ?_;refine xL 105 Za (xL 106 Za (xL 107 (WB 200 JO) (xL 108 Yj ?_)));refine ZE ?_ ?_<;>intro hb108
 . (
 obtain ⟨r,hr⟩:=gS S a;have hrl:=(hI.ok r (Xb hr)).1;have f1:=Yh (f:=Z1) hr;refine ZD ?_;refine Yq (ι:={y:Nat//y<=r.length/\∀x∈r.take y,x.count<=1048576}) (fun k=>⟨[(0,_,_),(3,_,_),(8,_,_),(13,_,_),(14, .int .i64 k.1,Zb k.1)],[(3,_,_),(200,_,_)]⟩) (fun k=>r.length-k.1) ⟨0,Xg _,fun s hs=>by simp at hs⟩ ?_;rintro ⟨d,hd,hbd⟩;dsimp only;refine Zi ?_;refine xL 111 Za (xL 112 Za (xL 113 Za (xL 114 (Zj 200 JO) ?_)));refine yU (Zh 200 Tq) fun v115=>?_;refine xL 116 (Zs Zy) (xL 117 Yj ?_);refine ZE ?_ ?_<;>intro hb117
 . (
 obtain ⟨x,hx⟩:=gS r d;(have f2:(r.flatMap Wo)[d*2+1]? =some (Zb x.count):=by rw [Yx Z0 hx (j:=1) dC];rfl);refine Zi ?_;refine xL 120 Za (xL 121 Za (xL 122 (Zj 200 JO) ?_));refine yU (Zh 200 Tq) fun v123=>?_;refine xL 124 Za (xL 125 (Ze Zy) (xL 126 (Yn Wh) ?_));refine yV (Zu ZH) ?_;refine Wl ?_ ?_<;>intro hb128
 . (
 refine ZU ?_;refine YO (Ps (t:=4) rfl) fun _=>?_;exact Y7 (results128) rfl rfl (Tx (Zfn hV hF hIn hall (C1 hr (by unfold bigVars;exact X2.2 ⟨x,Xb hx,U' oM⟩)))))
 . (
 refine Y2 ?_;refine Yr (
  ⟨d+1,oM,fun y hy=>by
   rw [Z2 hx] at hy;rcases XB.1 hy with hy|hy
   . exact hbd y hy
   . rw [XC] at hy;subst hy;omega⟩
  )))
 . (
 refine Y2 ?_;refine Yr (
  ⟨a +1,oM,fun j r2 hj hr2=>by
   by_cases e:j=a
   . subst e;rw [hr] at hr2;cases hr2;unfold bigVars;exact Ut.2 fun x hx=>by have:=hbd x (by rw [Xt oM];exact hx);rw [U9];omega
   . exact hba j r2 oM hr2⟩
  )))
 . (
 have hB:S.any bigVars=false:=Zde fun i r hr=>hba i r (by have:=Zd hr;omega) hr;refine ZD ?_;refine Yq (ι:={y:Nat//y<=c.parts.length/\∀(j:Nat) (r:List Var),j<y->S[j]? =some r->Kh r=false}) (fun k=>⟨[(0,_,_),(3,_,_),(8,_,_),(15, .int .i64 k.1,Zb k.1)],[(3,_,_),(200,_,_)]⟩) (fun k=>c.parts.length-k.1) ⟨0,Xg _,fun j r hj=>Qd hj (Vo j)⟩ ?_;rintro ⟨a2,ha2,hma⟩;dsimp only;refine Zi ?_;refine xL 129 Za (xL 130 Za (xL 131 (WB 200 JO) (xL 132 Yj ?_)));refine ZE ?_ ?_<;>intro hb132
 . (
 obtain ⟨r,hr⟩:=gS S a2;have f1:=Yh (f:=Z1) hr;refine Zi ?_;refine xL 135 Za (xL 136 Za (xL 137 (Zj 200 JO) ?_));refine yU (Zh 200 Tq) fun v138=>?_;refine xL 139 (Zs Zy) (xL 140 Jw ?_);refine ZE ?_ ?_<;>intro hb140
 . (
 refine ZU ?_;refine YO (Ps (t:=4) rfl) fun _=>?_;exact Y7 (results128) rfl rfl (Tx (Zfo hV hF hIn hall hB (C1 hr (by unfold Kh;exact U' oM)))))
 . (
 refine Y2 ?_;refine Yr (
  ⟨a2 +1,oM,fun j r2 hj hr2=>by
   by_cases e:j=a2
   . subst e;rw [hr] at hr2;cases hr2;unfold Kh;exact Qa oM
   . exact hma j r2 oM hr2⟩
  )))
 . (
 have hM:S.any Kh=false:=Zde fun i r hr=>hma i r (by have:=Zd hr;omega) hr;refine Y2 ?_;refine YO (En.freeze (l:=200) (t:=4) rfl rfl) fun _=>?_;refine Y7 (results128) rfl rfl ?_;rw [Zfp hV hF hIn hall hB hM,show share (.own 22 1 c.parts.length (S.map Z1))=ZcC S by simp only [share,ZfN];rw [<-hSl];rfl];rfl))))))
end Go.Proofs.YtmkojdfiadbeeaaGreat
