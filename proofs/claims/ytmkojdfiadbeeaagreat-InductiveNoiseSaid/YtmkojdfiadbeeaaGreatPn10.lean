/-
  Walks and laws.
-/
import Derived.Test.YtmkojdfiadbeeaaGreatPn07
import Derived.Test.YtmkojdfiadbeeaaGreatPn02
import Derived.Test.YtmkojdfiadbeeaaGreatPn09
import Derived.Test.YtmkojdfiadbeeaaGreatPn05
import Derived.Test.YtmkojdfiadbeeaaGreatPn08
import Derived.Test.YtmkojdfiadbeeaaGreatPn03
import Derived.Test.YtmkojdfiadbeeaaGreatPn06
import Derived.Test.YtmkojdfiadbeeaaGreatPn01
set_option linter.all false
set_option maxRecDepth 100000
set_option maxHeartbeats 0
namespace Go.Proofs.YtmkojdfiadbeeaaGreat
open Go.RowKit Go.Cb Go.En Tryz
def Zl6:(prog.info? 90).map (·.size)=some 1:=kR
def TG (h0:Value):List (List Int)->List PV
 |[]=>[]
 |_::t=>PV.val h0::t.map pInts
def ZcX:List (List Int)->List Int
 |[]=>[]
 |c::_=>c
def C9 {W:List Int->Bool} {cs t:List (List Int)} {c0:List Int} (h:cs.filter W=c0::t):GX W cs=(c0++(cs.filter fun c=> !W c).flatten)::t:=by unfold GX;rw [h]
def Zd0 {l:List Int} {r:Int->Int->Bool} {W:List Int->Bool} {cs t:List (List Int)} {c0:List Int} (hc:Comps l r cs) (h:cs.filter W=c0::t):((c0++(cs.filter fun c=> !W c).flatten)::t).Pairwise (fun c d=>KS c≠KS d)/\(∀c∈(c0++(cs.filter fun c=> !W c).flatten)::t,c≠[]):=by
 have hperm:((c0++(cs.filter fun c=> !W c).flatten)::t).flatten.Perm cs.flatten:=by
  have h1:=Gg (Jo W cs);rw [h,XZ,XS] at h1;refine .trans ?_ h1;rw [XS,XG,XG];exact (V2).append_left c0
 have hnd:((c0++(cs.filter fun c=> !W c).flatten)::t).flatten.Nodup:=(hperm.pairwise_iff (R:=(· ≠ ·)) fun h=>Ne.symm h).2 hc.nd
 have hmem:∀c∈c0::t,c∈cs:=fun c hm=>(XF.1 (h▸hm)).1
 have hne:∀c∈(c0++(cs.filter fun c=> !W c).flatten)::t,c≠[]:=fun c hm=>by
  rcases Xi.1 hm with rfl|hm
  . exact fun e=>hc.ne c0 (hmem c0 sM) (List.append_eq_nil_iff.1 e).1
  exact hc.ne c (hmem c (by simp [hm]))
 refine ⟨?_,hne⟩
 have h2:=(Ug.1 hnd).2
 refine List.Pairwise.imp_of_mem (fun {a b} ha hb hab e=>?_) h2
 exact hab _ (ON (hne a ha)).1 _ (ON (hne b hb)).1 e
def Zgj {cs:List (List Int)} (i:Nat) (p:List Int->Bool):((cs.take i).filter p).flatten.length<=cs.flatten.length:=by
 have h1:=Zco p (cs.take i)
 have h2:(cs.take i).flatten.length<=cs.flatten.length:=by
  have:cs.flatten=(cs.take i).flatten++(cs.drop i).flatten:=by rw [<-XZ,Vw]
  rw [this,Xe];omega
 omega
def Zl7 (l : List BA) (n:Nat) (E R:Nat->Nat->Bool) (S F:Nat->Bool) (cs:List (List Int)) (r:Int->Int->Bool) (hn:n<=1000) (hc:Comps (upTo n) r cs):AF prog 234 [.agg (Jt l n E R S F),KX cs] (fun p=>∃out,out.Perm (GX (Ya S F) cs)/\out.Pairwise (fun c d=>KS c<KS d)/\p=KX out):=by
 have hin:=Jv hc
 have hfl:=JP hc.nd (fun x hx=>(hc.mem x).1 hx)
 rw [JR] at hfl
 refine AF.b2 114 func234 rfl ntmps234 (Xa rfl) fun w0 M0 v0 v1 _ _=>?_
 dsimp only [Jt]
 refine Zi ?_
 refine Z4 2 5 fun h2=>?_;refine KG ?_
 refine Yl (ι:={k:Nat//k<=cs.length/\∀j y,j<k->cs[j]? =some y->Ya S F y=false}) (fun k=>⟨[(1,_,_),(2,_,_),(5, .int .i64 k.1,Zb k.1)],[(2,_,_)]⟩) (fun k=>cs.length-k.1) ⟨0,Xg _,fun j y h=>Qe h (Vv j)⟩ ?_
 rintro ⟨k,hk,hkp⟩
 dsimp only
 obtain ⟨d,hdd⟩:∃d,d=cs[k]?.getD []:=⟨_,rfl⟩
 have hd:k<cs.length->cs[k]? =some d:=fun h=>by obtain ⟨y,hy⟩:=get_some h;rw [hdd,hy];rfl
 have e3:k<cs.length->(cs.map pInts)[k*1]? =some (pInts d):=fun h=>Yf (f:=pInts) (hd h)
 have hdb:∀x∈d,0<=x/\x<n:=by
  rw [hdd]
  cases ho:cs[k]? with
  |none=>simp
  |some y=>exact hin.1 y (Xb ho)
 have hdl:d.length<=1000000:=by
  rw [hdd]
  cases ho:cs[k]? with
  |none=>simp
  |some y=>have:=hin.2.2 y (Xb ho);simp only [Uk];omega
 refine nav ?_
 (refine Yx [] [2] ?_ <;>refine gDx 0 ?_<;>refine gEx 1 ?_<;>refine xE 2 rfl (Zu ZO) ?_<;>refine gEx 3 ?_<;>refine gEx 4 ?_<;>(refine bDd 14 (fun hb14=>?_) (fun hb14=>?_)<;>(first|refine kD 5 ?_|refine gDx 5 ?_))<;>(first|refine kD 6 ?_|refine gDx 6 ?_)<;>(first|refine kD 7 ?_|refine xD 7 rfl (Ze ZO) ?_)<;>(first|refine kD 8 ?_|(refine yD 8 rfl (Zw Yz (hp:=e3 oM)) fun v18 h=>?_;cases h))<;>(first|refine kD 9 ?_|refine xD 9 rfl (Zc 2 Kq) ?_)<;>(first|refine kD 10 ?_|(refine yD 10 rfl (Zf 2 Zy) fun v20 h=>?_;cases h))<;>(refine ZY 11 kR ?_)<;>(first|(refine Ym (d:=21) rfl (cA call271 (LJ d n S hdb hdl)) fun v21 h=>?_;cases h)|(refine aWr fun bk=>?_;refine kL ?_;refine bE bk ?_))<;>(first|refine kD 12 ?_|refine gDx 12 ?_)<;>(first|refine kD 13 ?_|refine gDx 13 ?_)<;>(first|refine kD 14 ?_|(refine bD 23 (fun hb23=>?_) (fun hb23=>?_)<;>(first|refine kD 14 ?_|refine gDx 14 ?_)))<;>(first|refine kD 15 ?_|refine gDx 15 ?_)<;>(first|refine kD 16 ?_|refine xD 16 rfl (Ze ZO) ?_)<;>(first|refine kD 17 ?_|(refine yD 17 rfl (Zw Yz (hp:=e3 oM)) fun v27 h=>?_;cases h))<;>(first|refine kD 18 ?_|refine xD 18 rfl (Zc 2 W6) ?_)<;>(first|refine kD 19 ?_|(refine yD 19 rfl (Zf 2 Zy) fun v29 h=>?_;cases h))<;>(refine ZY 20 kR ?_)<;>(first|(refine Ym (d:=30) rfl (cA call271 (LJ d n F hdb hdl)) fun v30 h=>?_;cases h)|(refine aWr fun bk=>?_;refine kL ?_;refine bE bk ?_))<;>(first|refine kD 21 ?_|refine gDx 21 ?_)<;>(first|refine kD 22 ?_|refine gDx 22 ?_)<;>refine gEx 23 ?_<;>refine Wo ?_)<;>(
 refine cX ?_ ?_<;>intro hb33
 . first |exact bN hb33|(
 refine YQ ?_;refine Yk (
  ⟨k + 1,oM,fun j y hj hy=>by
   by_cases e:j=k
   . subst e;rw [hd oM] at hy;cases hy;unfold Ya
     first
      |(rw [show K9 d S=false by simpa using hb23];rfl)
      |(rw [show K9 d F=false by simpa using hb33];exact VJ _)
   . exact hkp j y oM hy⟩
  ))
 . first | exact bN hb33|(
 refine Zi ?_;refine xL 36 Za (xL 37 Za (xL 38 (Zu ZO) (xL 39 Jb ?_)));refine ZC ?_ ?_<;>intro hb39
 . (
 refine ZF ?_;refine YK (YO 200 90 1 rfl) fun _=>?_;refine YK (En.freeze (l:=200) (t:=4) rfl rfl) fun _=>?_;rw [GH _ _ _ [] (by rfl) (by rfl)];have hkl:k=cs.length:=oM;have hfn:=E7 (p:=Ya S F) (l:=cs) k hkp;rw [hkl,Xx] at hfn;exact Zg results234 rfl ⟨[],by unfold GX;rw [hfn],List.Pairwise.nil,rfl⟩)
 refine WK ?_;refine KG ?_;have hkl:k<cs.length:=oM;have hck:=hd hkl;have hW:Ya S F d=true:=by first|(exfalso;omega)|(unfold Ya;rw [show K9 d S=true by simpa using hb23,show K9 d F=true by simpa using hb33];rfl)
 refine Zs (YO 200 90 1 rfl) fun _=>?_;refine Zs (YO 201 3 1 rfl) fun _=>?_;refine Yl (ι:={x:Nat×Value×Value×List (List Int)//x.1<=cs.length/\x.2.2.1.oneCell'=true/\x.2.2.2=(cs.take x.1).filter (Ya S F)}) (fun k=>⟨[(1,_,_),(2,_,_),(5,_,_),(7,_,_),(6,k.1.2.1, .val k.1.2.1),(8, .int .i64 k.1.1,Zb k.1.1)],[(2,_,_),(200,k.1.2.1, .own 90 1 k.1.2.2.2.length (TG k.1.2.2.1 k.1.2.2.2)),(201,k.1.2.2.1, .own 3 1 (ZcX k.1.2.2.2).length ((ZcX k.1.2.2.2).map Zb))]⟩) (fun k=>cs.length-k.1.1) ⟨(0, .slice none 0 0, .slice none 0 0,[]),Xg _,rfl,rfl⟩ ?_;rintro ⟨⟨i,hov,h0,X⟩,hi,ho0,hX⟩;dsimp only;dsimp only at hi ho0 hX;have hXl:X.length<=1000:=by
  have:=Vl (Ya S F) (cs.take i);rw [hX];rw [XA] at this;omega
 (have hX0:i<=k->X=[]:=fun h=>by rw [hX];exact E7 i fun j y hj=>hkp j y oM);refine Zi ?_;refine xL 40 Za (xL 41 Za (xL 42 (Zu ZO) (xL 43 Yn ?_)));refine ZC ?_ ?_<;>intro hb43
 . (
 obtain ⟨cl,hx⟩:=gS cs i;have e1:=Yf (f:=pInts) hx;have hcm:=Xb hx;have hcb:=hin.1 cl hcm;have hcll:=hin.2.2 cl hcm;(have e2:(cl.map Zb).length=cl.length*1:=by rw [Xc,XJ]);(have e4:(cl.map Zb).all En.one=true:=by rw [VK,Xj];intro x _;rfl);have s1:=GW (p:=Ya S F) hx;have hX1:Ya S F cl=true->i≠k->∃c0 t,X=c0::t:=fun hw hne=>by
  have hik:k<i:=by
   rcases VB i k with h|h|h
   . rw [hkp i cl h hx] at hw;exact Bool.noConfusion hw
   . exact Qe h hne
   exact h
  have hm:d∈X:=by
   rw [hX];exact XF.2 ⟨Xb (i:=k) (by rw [X1 hik];exact hck),hW⟩
  cases X with
  |nil=>simp at hm
  |cons c0 t=>exact ⟨c0,t,rfl⟩
 refine WL ?_;refine ZC ?_ ?_<;>intro hb48
 . (
 obtain rfl:X=[]:=hX0 oM;try dsimp only [TG,ZcX,Xw]
 refine Zi ?_;refine xL 49 Za (xL 50 (Wu 200 ZO) (xL 7 Wj ?_));refine ZZ ?_;(refine Yx [] [2,200,201] ?_<;>refine gDx 0 ?_<;>refine gDx 1 ?_<;>refine xD 2 rfl (Ze ZO) ?_<;>(refine yD 3 rfl (Zw Yz) fun v54 h=>?_;cases h)<;>refine xE 4 rfl (Zc 2 Kq) ?_<;>(refine yE 5 rfl (Zf 2 Zy) fun v56 h=>?_;cases h)<;>(refine ZY 6 kR ?_)<;>(refine Ym (d:=57) rfl (cA call271 (LJ cl n S hcb oM)) fun v57 h=>?_;cases h)<;>refine gEx 7 ?_<;>(refine bD 58 (fun hb58=>?_) (fun hb58=>?_)<;>(first|refine kD 8 ?_|refine gDx 8 ?_))<;>(first|refine kD 9 ?_|refine gDx 9 ?_)<;>(first|refine kD 10 ?_|refine xD 10 rfl (Ze ZO) ?_)<;>(first|refine kD 11 ?_|(refine yD 11 rfl (Zw Yz) fun v62 h=>?_;cases h))<;>(first|refine kD 12 ?_|refine xD 12 rfl (Zc 2 W6) ?_)<;>(first|refine kD 13 ?_|(refine yD 13 rfl (Zf 2 Zy) fun v64 h=>?_;cases h))<;>(refine ZY 14 kR ?_)<;>(first|(refine Ym (d:=65) rfl (cA call271 (LJ cl n F hcb oM)) fun v65 h=>?_;cases h)|(refine aWr fun bk=>?_;refine kL ?_;refine bE bk ?_))<;>refine gEx 15 ?_<;>refine Wo ?_)<;>(
 refine cX ?_ ?_<;>intro hb66
 . first |exact bN hb66|(
 (have hwc:Ya S F cl=true:=by unfold Ya;rw [show K9 cl S=true by assumption,show K9 cl F=true by assumption];rfl);try obtain ⟨c0,t,rfl⟩:=hX1 hwc oM
 try dsimp only [TG,ZcX]
 refine Wp ?_;refine T7 68 YY fun h68 ho68=>?_;refine xL 69 Za (xL 70 Za (xL 71 (Ze ZO) ?_));refine yU (Zw Yz) fun v72=>?_;refine Ka 68 73 YY fun h73 ho73=>?_;refine WE (kk:=1) 74 Yv fun h74 ho74=>?_;refine Y7 200 74 75 Yv fun h75 ho75=>?_;refine KQ ?_;try rw [XC cl.length]
 try rw [XY (cl.map Zb)]
 first|refine ZJ (YD (l:=75) (l':=73) (j:=(c0::t).length) rfl (GF sM) rfl rfl) fun _=>?_|(have _q:=h75;refine ZJ (Zjf 201) fun _=>?_)|skip
 try rw [JQ (show (c0::t).length=(PV.val h0::t.map pInts).length by simp),Kb _ _ _ (by rfl)]
 try rw [show (PV.val h0::t.map pInts)++[pInts cl]=TG h0 (c0::t++[cl]) by simp [TG],show (c0::t).length+1=(c0::t++[cl]).length by simp]
 try refine ZJ (ZK (l:=75) 200 rfl rfl) fun _=>?_
 try refine ZJ (ZK (l:=73) 201 rfl rfl) fun _=>?_
 first
  | (exact Zh (
      ⟨(i+1,h75,h73,[cl]),by show i+1<=cs.length;omega,ho73,by show [cl]=_;rw [s1,Qd hwc,<-hX];rfl⟩
      ) (by show cs.length-(i+1)<cs.length-i;omega) sB sB)
  | (exact Zh (
      ⟨(i+1,hov,h0,X),by show i+1<=cs.length;omega,ho0,by show X=_;rw [s1,Qc (by unfold Ya;first|(rw [show K9 cl S=false by assumption];exact Vd)|(rw [show K9 cl F=false by assumption,VJ];exact Vd)),Xo,hX]⟩
      ) (by show cs.length-(i+1)<cs.length-i;omega) sB sB)
  | (exact Zh (
      ⟨(i+1,hov,h0,[]),by show i+1<=cs.length;omega,ho0,by show []=_;rw [s1,Qc (by unfold Ya;first|(rw [show K9 cl S=false by assumption];exact Vd)|(rw [show K9 cl F=false by assumption,VJ];exact Vd)),Xo];exact hX⟩
      ) (by show cs.length-(i+1)<cs.length-i;omega) sB sB)
  | (exact Zh (
      ⟨(i+1,h75,h0,c0::t++[cl]),by show i+1<=cs.length;omega,ho0,by show c0::t++[cl]=_;rw [s1,Qd hwc,hX]⟩
      ) (by show cs.length-(i+1)<cs.length-i;omega) sB sB))
 refine YQ ?_;try rw [XC cl.length]
 try rw [XY (cl.map Zb)]
 first|refine ZJ (YD (l:=75) (l':=73) (j:=(c0::t).length) rfl (GF sM) rfl rfl) fun _=>?_|(have _q:=h75;refine ZJ (Zjf 201) fun _=>?_)|skip
 try rw [JQ (show (c0::t).length=(PV.val h0::t.map pInts).length by simp),Kb _ _ _ (by rfl)]
 try rw [show (PV.val h0::t.map pInts)++[pInts cl]=TG h0 (c0::t++[cl]) by simp [TG],show (c0::t).length+1=(c0::t++[cl]).length by simp]
 try refine ZJ (ZK (l:=75) 200 rfl rfl) fun _=>?_
 try refine ZJ (ZK (l:=73) 201 rfl rfl) fun _=>?_
 first
  | (exact Zh (
      ⟨(i+1,h75,h73,[cl]),by show i+1<=cs.length;omega,ho73,by show [cl]=_;rw [s1,Qd hwc,<-hX];rfl⟩
      ) (by show cs.length-(i+1)<cs.length-i;omega) sB sB)
  | (exact Zh (
      ⟨(i+1,hov,h0,X),by show i+1<=cs.length;omega,ho0,by show X=_;rw [s1,Qc (by unfold Ya;first|(rw [show K9 cl S=false by assumption];exact Vd)|(rw [show K9 cl F=false by assumption,VJ];exact Vd)),Xo,hX]⟩
      ) (by show cs.length-(i+1)<cs.length-i;omega) sB sB)
  | (exact Zh (
      ⟨(i+1,hov,h0,[]),by show i+1<=cs.length;omega,ho0,by show []=_;rw [s1,Qc (by unfold Ya;first|(rw [show K9 cl S=false by assumption];exact Vd)|(rw [show K9 cl F=false by assumption,VJ];exact Vd)),Xo];exact hX⟩
      ) (by show cs.length-(i+1)<cs.length-i;omega) sB sB)
  | (exact Zh (
      ⟨(i+1,h75,h0,c0::t++[cl]),by show i+1<=cs.length;omega,ho0,by show c0::t++[cl]=_;rw [s1,Qd hwc,hX]⟩
      ) (by show cs.length-(i+1)<cs.length-i;omega) sB sB)))
 refine nav ?_;(refine Yx [] [2,200,201] ?_<;>refine gDx 0 ?_<;>refine gDx 1 ?_<;>refine xD 2 rfl (Ze ZO) ?_<;>(refine yD 3 rfl (Zw Yz) fun v54 h=>?_;cases h)<;>refine xE 4 rfl (Zc 2 Kq) ?_<;>(refine yE 5 rfl (Zf 2 Zy) fun v56 h=>?_;cases h)<;>(refine ZY 6 kR ?_)<;>(refine Ym (d:=57) rfl (cA call271 (LJ cl n S hcb oM)) fun v57 h=>?_;cases h)<;>refine gEx 7 ?_<;>(refine bD 58 (fun hb58=>?_) (fun hb58=>?_)<;>(first|refine kD 8 ?_|refine gDx 8 ?_))<;>(first|refine kD 9 ?_|refine gDx 9 ?_)<;>(first|refine kD 10 ?_|refine xD 10 rfl (Ze ZO) ?_)<;>(first|refine kD 11 ?_|(refine yD 11 rfl (Zw Yz) fun v62 h=>?_;cases h))<;>(first|refine kD 12 ?_|refine xD 12 rfl (Zc 2 W6) ?_)<;>(first|refine kD 13 ?_|(refine yD 13 rfl (Zf 2 Zy) fun v64 h=>?_;cases h))<;>(refine ZY 14 kR ?_)<;>(first|(refine Ym (d:=65) rfl (cA call271 (LJ cl n F hcb oM)) fun v65 h=>?_;cases h)|(refine aWr fun bk=>?_;refine kL ?_;refine bE bk ?_))<;>refine gEx 15 ?_<;>refine Wo ?_)<;>(
 refine cX ?_ ?_<;>intro hb66
 . first |exact bN hb66|(
 (have hwc:Ya S F cl=true:=by unfold Ya;rw [show K9 cl S=true by assumption,show K9 cl F=true by assumption];rfl);try obtain ⟨c0,t,rfl⟩:=hX1 hwc oM
 try dsimp only [TG,ZcX]
 refine Wp ?_;refine T7 68 YY fun h68 ho68=>?_;refine xL 69 Za (xL 70 Za (xL 71 (Ze ZO) ?_));refine yU (Zw Yz) fun v72=>?_;refine Ka 68 73 YY fun h73 ho73=>?_;refine WE (kk:=1) 74 Yv fun h74 ho74=>?_;refine Y7 200 74 75 Yv fun h75 ho75=>?_;refine KQ ?_;try rw [XC cl.length]
 try rw [XY (cl.map Zb)]
 first|refine ZJ (YD (l:=75) (l':=73) (j:=(c0::t).length) rfl (GF sM) rfl rfl) fun _=>?_|(have _q:=h75;refine ZJ (Zjf 201) fun _=>?_)|skip
 try rw [JQ (show (c0::t).length=(PV.val h0::t.map pInts).length by simp),Kb _ _ _ (by rfl)]
 try rw [show (PV.val h0::t.map pInts)++[pInts cl]=TG h0 (c0::t++[cl]) by simp [TG],show (c0::t).length+1=(c0::t++[cl]).length by simp]
 try refine ZJ (ZK (l:=75) 200 rfl rfl) fun _=>?_
 try refine ZJ (ZK (l:=73) 201 rfl rfl) fun _=>?_
 first
  | (exact Zh (
      ⟨(i+1,h75,h73,[cl]),by show i+1<=cs.length;omega,ho73,by show [cl]=_;rw [s1,Qd hwc,<-hX];rfl⟩
      ) (by show cs.length-(i+1)<cs.length-i;omega) sB sB)
  | (exact Zh (
      ⟨(i+1,hov,h0,X),by show i+1<=cs.length;omega,ho0,by show X=_;rw [s1,Qc (by unfold Ya;first|(rw [show K9 cl S=false by assumption];exact Vd)|(rw [show K9 cl F=false by assumption,VJ];exact Vd)),Xo,hX]⟩
      ) (by show cs.length-(i+1)<cs.length-i;omega) sB sB)
  | (exact Zh (
      ⟨(i+1,hov,h0,[]),by show i+1<=cs.length;omega,ho0,by show []=_;rw [s1,Qc (by unfold Ya;first|(rw [show K9 cl S=false by assumption];exact Vd)|(rw [show K9 cl F=false by assumption,VJ];exact Vd)),Xo];exact hX⟩
      ) (by show cs.length-(i+1)<cs.length-i;omega) sB sB)
  | (exact Zh (
      ⟨(i+1,h75,h0,c0::t++[cl]),by show i+1<=cs.length;omega,ho0,by show c0::t++[cl]=_;rw [s1,Qd hwc,hX]⟩
      ) (by show cs.length-(i+1)<cs.length-i;omega) sB sB))
 refine YQ ?_;try rw [XC cl.length]
 try rw [XY (cl.map Zb)]
 first|refine ZJ (YD (l:=75) (l':=73) (j:=(c0::t).length) rfl (GF sM) rfl rfl) fun _=>?_|(have _q:=h75;refine ZJ (Zjf 201) fun _=>?_)|skip
 try rw [JQ (show (c0::t).length=(PV.val h0::t.map pInts).length by simp),Kb _ _ _ (by rfl)]
 try rw [show (PV.val h0::t.map pInts)++[pInts cl]=TG h0 (c0::t++[cl]) by simp [TG],show (c0::t).length+1=(c0::t++[cl]).length by simp]
 try refine ZJ (ZK (l:=75) 200 rfl rfl) fun _=>?_
 try refine ZJ (ZK (l:=73) 201 rfl rfl) fun _=>?_
 first
  | (exact Zh (
      ⟨(i+1,h75,h73,[cl]),by show i+1<=cs.length;omega,ho73,by show [cl]=_;rw [s1,Qd hwc,<-hX];rfl⟩
      ) (by show cs.length-(i+1)<cs.length-i;omega) sB sB)
  | (exact Zh (
      ⟨(i+1,hov,h0,X),by show i+1<=cs.length;omega,ho0,by show X=_;rw [s1,Qc (by unfold Ya;first|(rw [show K9 cl S=false by assumption];exact Vd)|(rw [show K9 cl F=false by assumption,VJ];exact Vd)),Xo,hX]⟩
      ) (by show cs.length-(i+1)<cs.length-i;omega) sB sB)
  | (exact Zh (
      ⟨(i+1,hov,h0,[]),by show i+1<=cs.length;omega,ho0,by show []=_;rw [s1,Qc (by unfold Ya;first|(rw [show K9 cl S=false by assumption];exact Vd)|(rw [show K9 cl F=false by assumption,VJ];exact Vd)),Xo];exact hX⟩
      ) (by show cs.length-(i+1)<cs.length-i;omega) sB sB)
  | (exact Zh (
      ⟨(i+1,h75,h0,c0::t++[cl]),by show i+1<=cs.length;omega,ho0,by show c0::t++[cl]=_;rw [s1,Qd hwc,hX]⟩
      ) (by show cs.length-(i+1)<cs.length-i;omega) sB sB)))
 refine ZF ?_;have hil:i=cs.length:=oM;(have hXe:X=cs.filter (Ya S F):=by rw [hX,hil,Xx]);obtain ⟨c0,t,rfl⟩:∃c0 t,X=c0::t:=by
  have hm:d∈X:=by rw [hXe];exact XF.2 ⟨Xb hck,hW⟩
  cases X with
  |nil=>simp at hm
  |cons c0 t=>exact ⟨c0,t,rfl⟩
 dsimp only [TG,ZcX];have hap:=Zd0 hc hXe.symm;have hmem:∀c∈c0::t,c∈cs:=fun c hm=>(XF.1 (hXe▸hm)).1;have hc0l:=hin.2.2 c0 (hmem c0 sM);refine Yl (ι:={x:Nat×Value×List Int//x.1<=cs.length/\x.2.1.oneCell'=true/\x.2.2=c0++((cs.take x.1).filter fun c=> !Ya S F c).flatten}) (fun k=>⟨[(1,_,_),(2,_,_),(6,_,_),(7,_,_),(9, .int .i64 k.1.1,Zb k.1.1)],[(2,_,_),(200,hov, .own 90 1 (c0::t).length (PV.val k.1.2.1::t.map pInts)),(201,k.1.2.1, .own 3 1 k.1.2.2.length (k.1.2.2.map Zb))]⟩) (fun k=>cs.length-k.1.1) ⟨(0,h0,c0),Xg _,ho0,(Xo c0).symm⟩ ?_;rintro ⟨⟨q,hv,D⟩,hq,hov1,hD⟩;dsimp only;dsimp only at hq hov1 hD;have hDl:D.length<=2000:=by
  have h1:=Zgj (cs:=cs) q (fun c=> !Ya S F c);rw [hD,Xe];omega
 have hDm:(D.map Zb).length=D.length:=Xc _;refine Zi ?_;refine xL 76 Za (xL 77 Za (xL 78 (Zu ZO) (xL 79 Yn ?_)));refine ZC ?_ ?_<;>intro hb79
 . (
 obtain ⟨cl,hx⟩:=gS cs q;have e1:=Yf (f:=pInts) hx;have hcm:=Xb hx;have hcb:=hin.1 cl hcm;have hcll:=hin.2.2 cl hcm;(have e2:(cl.map Zb).length=cl.length*1:=by rw [Xc,XJ]);(have e4:(cl.map Zb).all En.one=true:=by rw [VK,Xj];intro x _;rfl);have s2:=GW (p:=fun c=> !Ya S F c) hx;refine nav ?_;(refine Yx [] [2,200,201] ?_<;>refine gDx 0 ?_<;>refine gDx 1 ?_<;>refine xD 2 rfl (Ze ZO) ?_<;>(refine yD 3 rfl (Zw Yz) fun v85 h=>?_;cases h)<;>refine xE 4 rfl (Zc 2 Kq) ?_<;>(refine yE 5 rfl (Zf 2 Zy) fun v87 h=>?_;cases h)<;>(refine ZY 6 kR ?_)<;>(refine Ym (d:=88) rfl (cA call271 (LJ cl n S hcb oM)) fun v88 h=>?_;cases h)<;>refine gEx 7 ?_<;>refine gEx 8 ?_<;>(refine bD 90 (fun hb90=>?_) (fun hb90=>?_)<;>(first|refine kD 9 ?_|refine gDx 9 ?_))<;>(first|refine kD 10 ?_|refine gDx 10 ?_)<;>(first|refine kD 11 ?_|refine xD 11 rfl (Ze ZO) ?_)<;>(first|refine kD 12 ?_|(refine yD 12 rfl (Zw Yz) fun v94 h=>?_;cases h))<;>(first|refine kD 13 ?_|refine xD 13 rfl (Zc 2 W6) ?_)<;>(first|refine kD 14 ?_|(refine yD 14 rfl (Zf 2 Zy) fun v96 h=>?_;cases h))<;>(refine ZY 15 kR ?_)<;>(first|(refine Ym (d:=97) rfl (cA call271 (LJ cl n F hcb oM)) fun v97 h=>?_;cases h)|(refine aWr fun bk=>?_;refine kL ?_;refine bE bk ?_))<;>(first|refine kD 16 ?_|refine gDx 16 ?_)<;>refine gEx 17 ?_<;>refine Wo ?_)<;>(
 refine cX ?_ ?_<;>intro hb99
 . (
 refine nav ?_;(refine Yx [12] [2,200] ?_<;>refine gDx 0 ?_<;>refine gDx 1 ?_<;>refine gDx 2 ?_<;>refine gDx 3 ?_<;>refine xD 4 rfl (Zk 200 ZO) ?_<;>(refine yD 5 rfl (Zf 200 Yz) fun v105 h=>?_;cases h)<;>refine gDx 6 ?_<;>refine gEx 7 ?_<;>refine xE 8 rfl (Ze ZO) ?_<;>(refine yE 9 rfl (Zw Yz) fun v109 h=>?_;cases h)<;>(refine aDr 10 fun bk=>?_)<;>refine Ka 201 110 YY (fun h110 ho110=>?_) e2 e4<;>refine bE bk ?_<;>refine xE 11 rfl (Zk 200 ZO) ?_<;>(refine ZY 12 kR ?_)<;>(refine Wx rfl rfl kR fun DQ bk=>?_)<;>refine JY 200 Yz Zl6 ?_<;>refine WC (bk _ (nav ?_))<;>try dsimp only)
 refine G8 ?_;try refine ZJ (ZK (l:=110) 201 rfl rfl) fun _=>?_
 try rw [show D.map Zb++cl.map Zb=(D++cl).map Zb by simp,show D.length+cl.length=(D++cl).length by simp]
 first
  | (exact Zh (
      ⟨(q+1,h110,D++cl),by show q+1<=cs.length;omega,ho110,by show D++cl=_;rw [s2,Qd (by unfold Ya;simp [*]),hD];simp⟩
      ) (by show cs.length-(q+1)<cs.length-q;omega) sB sB)
  | (exact Zh (
      ⟨(q+1,hv,D),by show q+1<=cs.length;omega,hov1,by show D=_;rw [s2,Qc (by unfold Ya;simp [*]),Xo,hD]⟩
      ) (by show cs.length-(q+1)<cs.length-q;omega) sB sB))
 . first |exact bN hb99|(
 refine YQ ?_;try refine ZJ (ZK (l:=110) 201 rfl rfl) fun _=>?_
 try rw [show D.map Zb++cl.map Zb=(D++cl).map Zb by simp,show D.length+cl.length=(D++cl).length by simp]
 first
  | (exact Zh (
      ⟨(q+1,h110,D++cl),by show q+1<=cs.length;omega,ho110,by show D++cl=_;rw [s2,Qd (by unfold Ya;simp [*]),hD];simp⟩
      ) (by show cs.length-(q+1)<cs.length-q;omega) sB sB)
  | (exact Zh (
      ⟨(q+1,hv,D),by show q+1<=cs.length;omega,hov1,by show D=_;rw [s2,Qc (by unfold Ya;simp [*]),Xo,hD]⟩
      ) (by show cs.length-(q+1)<cs.length-q;omega) sB sB))))
 refine nav ?_;have hql:q=cs.length:=oM;(have hDe:D=c0++(cs.filter fun c=> !Ya S F c).flatten:=by rw [hD,hql,Xx]);rw [<-hDe] at hap;refine Zs (YD (l:=200) (l':=201) (j:=0) rfl rfl rfl rfl) fun _=>?_;rw [U1,Kb _ _ _ rfl];refine Zs (En.freeze (l:=200) (t:=6) rfl rfl) fun _=>?_;rw [GH _ _ _ (D::t) (by rfl) (by rfl)];(have htl:t.length<=1000:=by simp only [Xh] at hXl;omega);have hbn:∀c∈D::t,c≠[]/\c.length<=1000000:=fun c hm=>⟨hap.2 c hm,by
  rcases Xi.1 hm with rfl|hm
  . omega
  . have:=hin.2.2 c (hmem c (by simp [hm]));omega⟩
 refine J2 ?_;refine On 113 rfl rfl (Xa rfl) (cA call272 (Zhw (D::t) hbn (by rw [Xh];omega) hap.1)) ?_;rintro p' ⟨out,hpo,hso,rfl⟩;refine ⟨rfl,?_⟩;intro v113 hv113;refine ZD ?_;exact Zg results234 rfl ⟨out,by rw [C9 hXe.symm,<-hDe];exact hpo,hso,rfl⟩))
def Zl8 {n a:Nat} {f f':Nat->Bool} {b:Bool} (hf:∀i,i<n->f' i=if i=a then b else f i):(vec n fun i=>Zr (f i)).set (a*1) (Zr b)=vec n fun i=>Zr (f' i):=by
 rw [XJ,Lk]
 refine Yi fun i hi=>?_
 rw [hf i hi];split<;>rfl
def ZoR (k i:Nat) (G:Nat->Bool) (b:Bool) (h:b=G k):(decide (i<k+1)&&G i)=if i=k then b else (decide (i<k)&&G i):=by
 by_cases e:i=k
 . subst e;rw [Qd rfl,Qa (UN i),h];rfl
 rw [Qc e];congr 1;exact decide_eq_decide.2 oM
def Zl9 (l : List BA) (n:Nat) (E R:Nat->Nat->Bool) (S F:Nat->Bool) (hl:l.length=n) (hn:n<=1000):AF prog 235 [.agg (Jt l n E R S F)] (fun p=>(inL n S F=[]/\p=KX [])\/(inL n S F≠[]/\∃cs,Comps (marked n fun i=> !S i&& !F i) (T9 E R 1) cs/\p=KX (P' n E S F cs))):=by
 subst hl
 refine AF.b1 115 func235 rfl ntmps235 (Xa rfl) fun w0 M0 v0 _=>?_
 dsimp only [Jt]
 refine Zi ?_
 refine Z4 1 5 fun h1=>?_;refine ZW ?_
 refine xM (Zc 1 WA) ?_;refine yU (Zf 1 ZG) fun v14=>?_;refine xM (Zu Zo) ?_;refine KF 16 Wr fun h16 ho16=>?_;refine ZW ?_;refine KG ?_
 rw [show List.replicate l.length (PV.val (.bool false))=vec l.length (fun i=>Zr (decide (i<0)&&(!S i&& !F i))) by rw [LI];exact Yi fun i _=>by rw [Qb (Vv i)];rfl]
 refine Zs (YO 200 3 1 rfl) fun _=>?_
 refine Yl (ι:={x:Nat×Value×List Int//x.1<=l.length/\x.2.1.oneCell'=true/\x.2.2=inL x.1 S F}) (fun k=>⟨[(1,_,_),(3,_,_),(4,k.1.2.1, .val k.1.2.1),(5, .int .i64 k.1.1,Zb k.1.1)],[(1,_,_),(16,h16, .own 4 1 l.length (vec l.length fun i=>Zr (decide (i<k.1.1)&&(!S i&& !F i)))),(200,k.1.2.1, .own 3 1 k.1.2.2.length (k.1.2.2.map Zb))]⟩) (fun k=>l.length-k.1.1) ⟨(0, .slice none 0 0,[]),Xg _,rfl,rfl⟩ ?_
 rintro ⟨⟨k,ha,A⟩,hk,hoa,hA⟩
 dsimp only
 dsimp only at hk hoa hA
 have hAl:A.length<=1000:=by have:=(E6 (n:=k) (S:=S) (F:=F)).1;rw [hA];omega
 have hAm:(A.map Zb).length=A.length:=Xc _
 have e0:=Wz l.length (fun i=>Zr (decide (i<k)&&(!S i&& !F i)))
 refine Zi ?_
 refine xL 17 Za (xL 18 (Zc 1 WA) ?_);refine yU (Zf 1 ZG) fun v19=>?_;refine xL 20 (Zu Zo) (xL 21 Yn ?_);refine ZC ?_ ?_<;>intro hb21
 . (
 have hkn:k<l.length:=oM;have eS:=Z0 (fun j=>Zr (S j)) hkn;have eF:=Z0 (fun j=>Zr (F j)) hkn;have s1:=ZfD k S F;(have e5:(vec l.length fun i=>Zr (decide (i<k+1)&&(!S i&& !F i)))[k*1]? =some (Zr (!S k&& !F k)):=by rw [Z0 _ hkn,Qa (UN k)];rfl);refine Zi ?_;(refine xL 24 Za (xL 25 Za (xL 26 (Zc 1 Kq) ?_))<;>refine yU (Zf 1 Zy) fun v27=>?_<;>refine xL 28 Za (xL 29 (Ze ZI) ?_)<;>refine yV (Zw ZT) ?_<;>refine YW ?_<;>(refine bL 32 (fun hb32=>?_) (fun hb32=>?_)<;>(first|refine kL ?_|refine xM (Zc 1 W6) ?_))<;>(first|refine kL ?_|refine yU (Zf 1 Zy) fun v34=>?_)<;>refine kZ ?_<;>(first|refine kL ?_|refine xM (Ze ZI) ?_)<;>(first|refine kL ?_|refine yV (Zw ZT) ?_)<;>refine kZ ?_<;>refine xL 39 RE (xL 40 (Zk 16 ZI) ?_)<;>refine JY 16 ZT GD ?_<;>refine ZZ ?_)<;>(
 rw [Zl8 (f':=fun i=>decide (i<k+1)&&(!S i&& !F i)) fun i _=>ZoR k i (fun i=> !S i&& !F i) _ (by simp [*])];refine Zp ?_;refine xL 41 Za (xL 42 Za (xL 43 (Zk 16 ZI) ?_));refine yV (Zf 16 ZT) ?_;refine Wg ?_ ?_<;>intro hb45
 . (
 refine Kt ?_;refine WE (kk:=1) 48 YY fun h48 ho48=>?_;refine Y7 200 48 49 YY fun h49 ho49=>?_;refine KQ ?_;try refine ZJ (ZK (l:=49) 200 rfl rfl) fun _=>?_
 try rw [show A.map Zb++[Zb k]=(A++[(k:Int)]).map Zb by simp,show A.length+1=(A++[(k:Int)]).length by simp]
 first
  | (exact Zh (
      ⟨(k+1,h49,A++[(k:Int)]),by show k+1<=l.length;omega,ho49,by show A++[(k:Int)]=_;rw [s1,Qd (by cases hS:S k<;>cases hF:F k<;>simp_all),hA]⟩
      ) (by show l.length-(k+1)<l.length-k;omega) sB sB)
  | (exact Zh (
      ⟨(k+1,ha,A),by show k+1<=l.length;omega,hoa,by show A=_;rw [s1,Qc (by cases hS:S k<;>cases hF:F k<;>simp_all),Xo,hA]⟩
      ) (by show l.length-(k+1)<l.length-k;omega) sB sB))
 refine YQ ?_;try refine ZJ (ZK (l:=49) 200 rfl rfl) fun _=>?_
 try rw [show A.map Zb++[Zb k]=(A++[(k:Int)]).map Zb by simp,show A.length+1=(A++[(k:Int)]).length by simp]
 first
  | (exact Zh (
      ⟨(k+1,h49,A++[(k:Int)]),by show k+1<=l.length;omega,ho49,by show A++[(k:Int)]=_;rw [s1,Qd (by cases hS:S k<;>cases hF:F k<;>simp_all),hA]⟩
      ) (by show l.length-(k+1)<l.length-k;omega) sB sB)
  | (exact Zh (
      ⟨(k+1,ha,A),by show k+1<=l.length;omega,hoa,by show A=_;rw [s1,Qc (by cases hS:S k<;>cases hF:F k<;>simp_all),Xo,hA]⟩
      ) (by show l.length-(k+1)<l.length-k;omega) sB sB)))
 refine nav ?_;obtain rfl:k=l.length:=oM;(have hAi:∀x∈A,0<=x/\x<l.length:=fun x hx=>by rw [hA] at hx;exact E6.2 x hx);rw [show (vec l.length fun i=>Zr (decide (i<l.length)&&(!S i&& !F i)))=vec l.length fun i=>Zr (!S i&& !F i) from Yi fun i hi=>by rw [Qa hi];rfl];refine Zp ?_;refine xL 50 Za (xL 51 (Wu 200 ZS) (xL 52 Jb ?_));refine ZC ?_ ?_<;>intro hb52
 . (
 refine ZF ?_;refine YK (YO 201 90 1 rfl) fun _=>?_;refine YK (En.freeze (l:=201) (t:=2) rfl rfl) fun _=>?_;rw [GH _ _ _ [] (by rfl) (by rfl)];exact Zg results235 rfl (.inl ⟨by rw [<-hA];exact Xv oM,rfl⟩))
 refine nav ?_;have hAp:0<A.length:=oM;refine Zs (En.freeze (l:=200) (t:=4) rfl rfl) fun _=>?_;rw [Kb _ _ _ rfl];refine Zs (En.freeze (l:=16) (t:=3) rfl rfl) fun _=>?_;rw [show share (.own 4 1 l.length (vec l.length fun i=>Zr (!S i&& !F i)))=Wq l.length (fun i=> !S i&& !F i) from Jr _ _ _];(have eA1:(A.map Zb).length=A.length*1:=by rw [Xc,XJ]);(have eA2:(A.map Zb).all En.one=true:=by rw [VK,Xj];intro x _;rfl);refine Zp ?_;refine yU (Zm 1 YZ) fun v53=>?_;refine YU ?_;refine LX 55 rfl rfl (Xa rfl) rfl (cA call232 (PX l l.length E R S F 1 (fun i=> !S i&& !F i) rfl hn)) ?_;rintro p' ⟨cs,hcs,rfl⟩;refine ⟨rfl,fun h55 ho55=>?_⟩;refine Zz (En.freeze (l:=55) (t:=55) rfl rfl) fun _=>?_;rw [KP _ _ _ rfl];refine ZW ?_;refine T7 56 YY fun h56 ho56=>?_;refine YU ?_;refine Ka 56 58 YY (fun h58 ho58=>?_) eA1 eA2;refine T7 59 Yv fun h59 ho59=>?_;refine JF ?_;refine ZD ?_;have hin:=Pj (by have h:=hcs;rw [Hf] at h;exact h);have hBl:=(PW (n:=l.length) (S:=S) (F:=F)).1;have hBi:∀x∈Rf l.length S F,0<=x/\x<l.length:=PW.2;refine Zs (ZK (l:=59) 200 rfl rfl) fun _=>?_;refine Zs (ZK (l:=58) 201 rfl rfl) fun _=>?_;rw [XC A.length];try rw [XY]
 refine Yl (ι:={x:Nat×Value×Value×List (List Int)×List Int//x.1<=cs.length/\x.2.1.oneCell'=true/\x.2.2.1.oneCell'=true/\x.2.2.2.1=(cs.take x.1).filter (Gq l.length E S F)/\x.2.2.2.2=A++((cs.take x.1).filter fun c=> !Gq l.length E S F c).flatten}) (fun k=>⟨[(1,_,_),(4,_,_),(6,_,_),(8,k.1.2.1, .val k.1.2.1),(7,k.1.2.2.1, .val k.1.2.2.1),(9, .int .i64 k.1.1,Zb k.1.1)],[(1,_,_),(200,k.1.2.1, .own 90 1 k.1.2.2.2.1.length (k.1.2.2.2.1.map pInts)),(201,k.1.2.2.1, .own 3 1 k.1.2.2.2.2.length (k.1.2.2.2.2.map Zb))]⟩) (fun k=>cs.length-k.1.1) ⟨(0,h59,h58,[],A),Xg _,ho59,ho58,rfl,(Xo A).symm⟩ ?_;rintro ⟨⟨i,hcv,hdv,C,D⟩,hi,hoc,hod,hC,hD⟩;dsimp only;dsimp only at hi hoc hod hC hD;have hCl:C.length<=1000:=by
  have:=Vl (Gq l.length E S F) (cs.take i);rw [hC];rw [XA] at this;omega
 have hDl:D.length<=2000:=by
  have h1:=Zgj (cs:=cs) i (fun c=> !Gq l.length E S F c);rw [hD,Xe];omega
 have hCm:(C.map pInts).length=C.length:=Xc _;have hDm:(D.map Zb).length=D.length:=Xc _;refine Zi ?_;refine xL 60 Za (xL 61 Za (xL 62 (Zu ZO) (xL 63 Yn ?_)));refine ZC ?_ ?_<;>intro hb63
 . (
 obtain ⟨cl,hx⟩:=gS cs i;have e1:=Yf (f:=pInts) hx;have hcm:=Xb hx;have hcll:=hin.2.2.1 cl hcm;have s3:=GW (p:=Gq l.length E S F) hx;have s4:=GW (p:=fun c=> !Gq l.length E S F c) hx;(have e2:(cl.map Zb).length=cl.length*1:=by rw [Xc,XJ]);(have e3:(cl.map Zb).all En.one=true:=by rw [VK,Xj];intro x _;rfl);refine Jx ?_;refine Yl (ι:={x:Nat×Bool//x.1<=cl.length/\x.2=(cl.take x.1).all fun x=>A.all fun y=>Y9 l.length E S F y.toNat x.toNat}) (fun k=>⟨[(1,_,_),(4,_,_),(6,_,_),(7,_,_),(8,_,_),(9,_,_),(10, .bool k.1.2,Zr k.1.2),(11, .int .i64 k.1.1,Zb k.1.1)],[(1,_,_),(200,_,_),(201,_,_)]⟩) (fun k=>cl.length-k.1.1) ⟨(0,true),Xg _,rfl⟩ ?_;rintro ⟨⟨q,b⟩,hq,hbe⟩;dsimp only;dsimp only at hq hbe;refine Zi ?_;refine xL 66 Za (xL 67 Za (xL 68 Za (xL 69 (Ze ZO) ?_)));refine yU (Zw Yz) fun v70=>?_;refine xL 71 (Zu ZS) (xL 72 Yn ?_);refine ZC ?_ ?_<;>intro hb72
 . (
 obtain ⟨u,hu⟩:=gS cl q;have e4:=Yf (f:=Zb) hu;have hui:=hBi u (hin.1 cl hcm u (Xb hu));have s5:=Ea (p:=fun x:Int=>A.all fun y=>Y9 l.length E S F y.toNat x.toNat) hu;refine ZF ?_;refine Yl (ι:={x:Nat×Bool//x.1<=A.length/\x.2=(b&&(A.take x.1).all fun y=>Y9 l.length E S F y.toNat u.toNat)}) (fun k=>⟨[(1,_,_),(4,_,_),(6,_,_),(7,_,_),(8,_,_),(9,_,_),(11,_,_),(10, .bool k.1.2,Zr k.1.2),(12, .int .i64 k.1.1,Zb k.1.1)],[(1,_,_),(200,_,_),(201,_,_)]⟩) (fun k=>A.length-k.1.1) ⟨(0,b),Xg _,(Up b).symm⟩ ?_;rintro ⟨⟨s,b2⟩,hs,hb2e⟩;dsimp only;dsimp only at hs hb2e;refine Zi ?_;refine xL 75 Za (xL 76 Za (xL 77 (Zu ZS) (xL 78 Yn ?_)));refine ZC ?_ ?_<;>intro hb78
 . (
 obtain ⟨y,hy⟩:=gS A s;have e5:=Yf (f:=Zb) hy;have hyi:=hAi y (Xb hy);have s6:=Ea (p:=fun y:Int=>Y9 l.length E S F y.toNat u.toNat) hy;have hL:=Zn0 l l.length E R S F y.toNat u.toNat rfl hn oM oM;rw [show ((y.toNat:Nat):Int)=y by omega,show ((u.toNat:Nat):Int)=u by omega] at hL;dsimp only [Jt] at hL;refine nav ?_;(refine Yx [] [1,200,201] ?_<;>refine gEx 0 ?_<;>refine gEx 1 ?_<;>(refine bD 82 (fun hb82=>?_) (fun hb82=>?_)<;>(first|refine kD 2 ?_|(refine yD 2 rfl (Zm 1 YZ) fun v83 h=>?_;cases h)))<;>(first|refine kD 3 ?_|refine gDx 3 ?_)<;>(first|refine kD 4 ?_|refine gDx 4 ?_)<;>(first|refine kD 5 ?_|refine xD 5 rfl (Ze ZS) ?_)<;>(first|refine kD 6 ?_|(refine yD 6 rfl (Zw Zq) fun v87 h=>?_;cases h))<;>(first|refine kD 7 ?_|refine gDx 7 ?_)<;>(first|refine kD 8 ?_|refine gDx 8 ?_)<;>(first|refine kD 9 ?_|refine xD 9 rfl (Ze ZO) ?_)<;>(first|refine kD 10 ?_|(refine yD 10 rfl (Zw Yz) fun v91 h=>?_;cases h))<;>(first|refine kD 11 ?_|refine gDx 11 ?_)<;>(first|refine kD 12 ?_|refine xD 12 rfl (Ze ZS) ?_)<;>(first|refine kD 13 ?_|(refine yD 13 rfl (Zw Zq) fun v94 h=>?_;cases h))<;>(refine ZY 14 kR ?_)<;>(first|(refine Ym (d:=95) rfl (cA call273 hL) fun v95 h=>?_;cases h)|(refine aWr fun bk=>?_;refine kL ?_;refine bE bk ?_))<;>refine gEx 15 ?_<;>refine gEx 16 ?_<;>refine Wo ?_)<;>(
 refine G8 ?_
 first
  | (exact Zh (
      ⟨(s+1,Y9 l.length E S F y.toNat u.toNat),by show s+1<=A.length;omega,by show Y9 l.length E S F y.toNat u.toNat=_;rw [s6,<-UH,<-hb2e,hb82,Uq]⟩
      ) (by show A.length-(s+1)<A.length-s;omega) sB sB)
  | (exact Zh (
      ⟨(s+1,false),by show s+1<=A.length;omega,by show false=_;rw [s6,<-UH,<-hb2e,hb82,Bool.false_and]⟩
      ) (by show A.length-(s+1)<A.length-s;omega) sB sB)))
 refine YQ ?_;refine Zh (
  ⟨(q+1,b2),by show q+1<=cl.length;omega,by show b2=_;rw [s5,<-hbe,hb2e,Xs oM]⟩
  ) (by show cl.length-(q+1)<cl.length-q;omega) sB sB)
 refine nav ?_;(have hbo:Gq l.length E S F cl=b:=by unfold Gq;rw [<-hA,hbe,Xs oM]);refine Zp ?_;refine Wg ?_ ?_<;>intro hb97
 . (
 refine Zi ?_;refine xL 98 Za (xL 99 Za (xL 100 Za (xL 101 (Ze ZO) ?_)));refine yU (Zw Yz) fun v102=>?_;refine WE (kk:=1) 103 Yv fun h103 ho103=>?_;refine Y7 200 103 104 Yv fun h104 ho104=>?_;refine KQ ?_;try refine ZJ (ZK (l:=104) 200 rfl rfl) fun _=>?_
 try refine ZJ (ZK (l:=110) 201 rfl rfl) fun _=>?_
 try rw [show C.map pInts++[pInts cl]=(C++[cl]).map pInts by simp,show C.length+1=(C++[cl]).length by simp]
 try rw [show D.map Zb++cl.map Zb=(D++cl).map Zb by simp,show D.length+cl.length=(D++cl).length by simp]
 first
  | (exact Zh (
      ⟨(i+1,h104,hdv,C++[cl],D),by show i+1<=cs.length;omega,ho104,hod,by show C++[cl]=_;rw [s3,Qd (by rw [hbo];exact hb97),hC],by show D=_;rw [s4,Qc (by rw [hbo,hb97];decide),Xo,hD]⟩
      ) (by show cs.length-(i+1)<cs.length-i;omega) sB sB)
  | (exact Zh (
      ⟨(i+1,hcv,h110,C,D++cl),by show i+1<=cs.length;omega,hoc,ho110,by show C=_;rw [s3,Qc (by rw [hbo,hb97];decide),Xo,hC],by show D++cl=_;rw [s4,Qd (by rw [hbo,hb97];rfl),hD];simp⟩
      ) (by show cs.length-(i+1)<cs.length-i;omega) sB sB))
 refine Zi ?_;refine xL 105 Za (xL 106 Za (xL 107 Za (xL 108 (Ze ZO) ?_)));refine yU (Zw Yz) fun v109=>?_;refine Ka 201 110 YY (fun h110 ho110=>?_) e2 e3;refine KQ ?_;try refine ZJ (ZK (l:=104) 200 rfl rfl) fun _=>?_
 try refine ZJ (ZK (l:=110) 201 rfl rfl) fun _=>?_
 try rw [show C.map pInts++[pInts cl]=(C++[cl]).map pInts by simp,show C.length+1=(C++[cl]).length by simp]
 try rw [show D.map Zb++cl.map Zb=(D++cl).map Zb by simp,show D.length+cl.length=(D++cl).length by simp]
 first
  | (exact Zh (
      ⟨(i+1,h104,hdv,C++[cl],D),by show i+1<=cs.length;omega,ho104,hod,by show C++[cl]=_;rw [s3,Qd (by rw [hbo];exact hb97),hC],by show D=_;rw [s4,Qc (by rw [hbo,hb97];decide),Xo,hD]⟩
      ) (by show cs.length-(i+1)<cs.length-i;omega) sB sB)
  | (exact Zh (
      ⟨(i+1,hcv,h110,C,D++cl),by show i+1<=cs.length;omega,hoc,ho110,by show C=_;rw [s3,Qc (by rw [hbo,hb97];decide),Xo,hC],by show D++cl=_;rw [s4,Qd (by rw [hbo,hb97];rfl),hD];simp⟩
      ) (by show cs.length-(i+1)<cs.length-i;omega) sB sB))
 refine nav ?_;have hil:i=cs.length:=oM;(have hCe:C=cs.filter (Gq l.length E S F):=by rw [hC,hil,Xx]);(have hDe:D=A++(cs.filter fun c=> !Gq l.length E S F c).flatten:=by rw [hD,hil,Xx]);refine Zs (En.freeze (l:=201) (t:=7) rfl rfl) fun _=>?_;rw [Kb _ _ _ rfl];refine Zs (En.freeze (l:=200) (t:=8) rfl rfl) fun _=>?_;rw [KP _ _ _ rfl];dsimp only [KX];(have e6:(C.map pInts).length=C.length*1:=by rw [Xc,XJ]);(have e7:(C.map pInts).all En.one=true:=by rw [VK,Xj];intro x _;rfl);refine J2 ?_;refine WE (kk:=1) 112 Yv fun h112 ho112=>?_;refine YU ?_;refine Ka 112 114 Yv (fun h114 ho114=>?_) e6 e7;refine ZD ?_;refine YK (En.freeze (l:=114) (t:=2) rfl rfl) fun _=>?_;rw [GH _ _ _ (P' l.length E S F cs) (by unfold P';rw [<-hA,<-hCe,<-hDe];rfl) (by unfold P';rw [<-hCe,Xh];omega)];exact Zg results235 rfl (.inr ⟨by rw [<-hA];exact X5.1 hAp,cs,hcs,rfl⟩)
def Oa (o:Option Cut):PV:=Zr o.isSome
def Eu (o:Option Cut):shD (.tup [J' o,Oa o])=true:=by cases o<;>rfl
def ZoS {n:Nat} {c:List Int} (h:c.Nodup) (hb:∀x∈c,0<=x/\x<n):c.length<=n:=by
 have:=JP h (m:=upTo n) fun x hx=>YR.2 (hb x hx)
 rw [JR] at this;exact this
def Zgk {n:Nat} {l:List Int} {r:Int->Int->Bool} {cs:List (List Int)} (hc:Comps l r cs) (hl:∀x∈l,0<=x/\x<n):∀c∈cs,c.Nodup/\∀x∈c,0<=x/\x<n:=fun c h=>⟨(hc.asc c h).imp fun h=>oM,fun x hx=>hl x ((hc.mem x).1 (XQ.2 ⟨c,h,hx⟩))⟩
def ZcY {n:Nat} {r:Int->Int->Bool} {W:List Int->Bool} {cs:List (List Int)} (hc:Comps (upTo n) r cs):(∀c∈GX W cs,c.Nodup/\∀x∈c,0<=x/\x<n)/\(GX W cs).length<=n:=by
 have hin:=Jv hc
 have hlen:=Vl W cs
 have hperm0:=Gg (Jo W cs)
 rw [XZ] at hperm0
 cases hf:cs.filter W with
 |nil=>unfold GX;rw [hf];exact ⟨fun c h=>by simp at h,sM⟩
 | cons c0 t=>
   rw [C9 hf];rw [hf] at hlen hperm0;have hmem:∀c∈c0::t,c∈cs:=fun c hm=>(XF.1 (hf▸hm)).1;have hperm:(c0++(cs.filter fun c=> !W c).flatten++t.flatten).Perm cs.flatten:=by
    refine .trans ?_ hperm0;rw [XS,XG,XG];exact (V2).append_left c0
   have hnd:(c0++(cs.filter fun c=> !W c).flatten++t.flatten).Nodup:=(hperm.pairwise_iff (R:=(· ≠ ·)) fun h=>Ne.symm h).2 hc.nd;refine ⟨fun c hm=>?_,by simp only [Xh] at hlen ⊢;omega⟩;rcases Xi.1 hm with rfl|hm
   . exact ⟨(X6.1 hnd).1,fun x hx=>YR.1 ((hc.mem x).1 (hperm.mem_iff.1 (U4 _ hx)))⟩
   have h1:=hmem c (by simp [hm]);exact ⟨(hc.asc c h1).imp fun h=>oM,hin.1 c h1⟩
def ZqX {n:Nat} {E:Nat->Nat->Bool} {r:Int->Int->Bool} {S F:Nat->Bool} {cs:List (List Int)} (hc:Comps (Rf n S F) r cs):(∀c∈P' n E S F cs,c.Nodup/\∀x∈c,0<=x/\x<n)/\(P' n E S F cs).length<=n+1:=by
 have hin:∀c∈cs,∀x∈c,x∈Rf n S F:=(Pj hc).1
 have hbd:∀c∈cs,∀x∈c,0<=x/\x<n:=fun c h x hx=>PW.2 x (hin c h x hx)
 refine ⟨fun c hm=>?_,?_⟩
 . unfold P' at hm;rcases Xi.1 hm with rfl|hm
   . refine ⟨?_,fun x hx=>?_⟩
     . rw [X6];refine ⟨((Tc n).filter _).imp fun h=>oM,?_,fun a ha b hb e=>?_⟩
       . have h1:=Gg (Jo (Gq n E S F) cs);have h2:=(h1.pairwise_iff (R:=(· ≠ ·)) fun h=>Ne.symm h).2 hc.nd;rw [XZ] at h2;exact (X6.1 h2).2.1
       subst e;obtain ⟨c,hcm,hx⟩:=XQ.1 hb;have h1:=hin c (XF.1 hcm).1 a hx;unfold inL at ha;unfold Rf at h1;have h2:=(XF.1 ha).2;have h3:=(XF.1 h1).2;rw [h2] at h3;exact Qe h3 dC
     rcases XD.1 hx with h|h
     . exact E6.2 x h
     obtain ⟨c,hcm,hx⟩:=XQ.1 h;exact hbd c (XF.1 hcm).1 x hx
   have h1:=(XF.1 hm).1;exact ⟨(hc.asc c h1).imp fun h=>oM,hbd c h1⟩
 have h1:=(Pj hc).2.1;have h2:=Vl (Gq n E S F) cs;have h3:=(PW (n:=n) (S:=S) (F:=F)).1;unfold P';rw [Xh];omega
def Ev (l:List BA) (n:Nat) (E R:Nat->Nat->Bool) (S F:Nat->Bool) (kind:Int) (cs:List (List Int)) (hl:l.length=n) (hn:n<=1000) (hcs:∀c∈cs,c.Nodup/\∀x∈c,0<=x/\x<n) (hcl:cs.length<=1000000):AF prog 230 [.agg (Jt l n E R S F),Zb kind,KX cs] (fun p=>∃i:{o//o=G9 l kind (cs.map (Kj n))},p= .tup [J' i.1,Oa i.1]):=by
 by_cases h:cs.length<2
 . refine (Zlh l n E R S F kind cs h).mono fun p hp=>⟨⟨_,rfl⟩,?_⟩;unfold G9;rw [hp,Qd (by rw [Xc];exact h)];rfl
 refine (Zli l n E R S F kind cs hl hn oM (fun c hc=>⟨(hcs c hc).1,by have:=ZoS (hcs c hc).1 (hcs c hc).2;omega⟩) hcl).mono fun p hp=>⟨⟨_,rfl⟩,?_⟩;unfold G9;rw [hp,Qc (by rw [Xc];exact h)];rfl
def Zh0 (l:List BA) (n:Nat) (E:Nat->Nat->Bool) (S F:Nat->Bool) (cs:List (List Int)) (hn:n<=1000) (hc:Comps (upTo n) (relS (ZU n E)) cs):AF prog 231 [.agg (Jt l n E (ZU n E) S F),KX cs] (fun p=>∃out,out.Perm cs/\out.Pairwise (He (ZU n E))/\p=KX out):=by
 have hin:=Jv hc
 refine Zhv l n E (ZU n E) S F cs hn (fun c h=>⟨hc.ne c h,hin.1 c h⟩) oM ?_ ?_
 . exact List.Pairwise.imp_of_mem (fun {a b} ha hb hab=>GV hc ha hb hab) (ZfG hc)
 intro c h d h' e h'' h1 h2;have b1:=hin.1 c h _ (JS (hc.ne c h));have b2:=hin.1 d h' _ (JS (hc.ne d h'));have b3:=hin.1 e h'' _ (JS (hc.ne e h''));exact (GR n E).2 _ _ _ oM oM oM h1 h2
def ZoT (n:Nat) (E:Nat->Nat->Bool) (S F:Nat->Bool) (xs:List (List Int)):Prop:=(inL n S F=[]/\xs=[])\/(inL n S F≠[]/\∃cs,Comps (marked n fun i=> !S i&& !F i) (T9 E (ZU n E) 1) cs/\xs=P' n E S F cs)
def Zgl {n:Nat} {E:Nat->Nat->Bool} {S F:Nat->Bool} {xs:List (List Int)} (h:ZoT n E S F xs):(∀c∈xs,c.Nodup/\∀x∈c,0<=x/\x<n)/\xs.length<=n+1:=by
 rcases h with ⟨_,rfl⟩|⟨_,cs,h2,rfl⟩
 . exact ⟨fun c h=>by simp at h,Xg _⟩
 rw [Hf] at h2;exact ZqX h2
def ZqY {l:List BA} {n:Nat} {E:Nat->Nat->Bool} {S F:Nat->Bool} {xs:List (List Int)} {o:Option Cut} (h:ZoT n E S F xs) (ho:o=G9 l 4 (xs.map (Kj n))):Zlj l n E S F 3 o:=by
 rcases h with ⟨h1,rfl⟩|⟨h1,cs,h2,rfl⟩
 . exact .inl ⟨h1,ho⟩
 exact .inr ⟨h1,cs,h2,ho⟩
def Zma (l:List BA) (n:Nat) (E:Nat->Nat->Bool) (S F:Nat->Bool) (hl:l.length=n) (hn:n<=1000):AF prog 235 [.agg (Jt l n E (ZU n E) S F)] (fun p=>∃xs:{xs:List (List Int)//ZoT n E S F xs},p=KX xs.1):=
 (Zl9 l n E (ZU n E) S F hl hn).mono fun p hp=>by
   rcases hp with ⟨h1,rfl⟩|⟨h1,cs,h2,rfl⟩
   . exact ⟨⟨[], .inl ⟨h1,rfl⟩⟩,rfl⟩
   exact ⟨⟨_, .inr ⟨h1,cs,h2,rfl⟩⟩,rfl⟩
def ZoU (g:Dfg) (l:List BA) (n:Nat) (E:Nat->Nat->Bool) (S F:Nat->Bool) (kind:Int) (hk:1<=kind/\kind<=4) (hv:AF prog 229 [Ji g] (· = .agg (Jt l n E (ZU n E) S F))) (hl:l.length=n) (hn:n<=1000):AF prog 186 [Ji g,Zb kind] (fun p=>∃i:{o//Zlj l n E S F (kind.toNat-1) o},p= .tup [J' i.1,Oa i.1]):=by
 refine AF.b2 57 func186 rfl ntmps186 (Xa rfl) ?_
 rintro w0 M0 v0 _-rfl
 dsimp only [Jt] at hv
 refine Zi ?_
 refine Z4 2 4 fun h2=>?_;refine Zt [(.int .i64 0),(.slice none 0 0)] 2 4 WZ fun h4=>?_;refine ZW ?_
 refine yU (Zm 2 Yu) fun v7=>?_;refine cD (cA call229 hv) fun v8 hv8=>?_;clear hv8;refine Zt [(.slice none 0 0),(.slice none 0 0),(.slice none 0 0),(.slice none 0 0),(.slice none 0 0)] 5 6 Hb fun h6=>?_;refine Zn 6 YZ ?_;refine YT ?_;refine ZW ?_;refine Wv ?_ ?_<;>intro hb10
 . (
 obtain rfl:kind=2:=oM;refine nav ?_;(refine Yx [] [2,6] ?_<;>(refine yD 0 rfl (Zm 6 YZ) fun v12 h=>?_;cases h)<;>refine gDx 1 ?_<;>(refine yD 2 rfl (Zm 6 YZ) fun v14 h=>?_;cases h)<;>(refine yD 3 rfl (Zm 6 YZ) fun v15 h=>?_;cases h)<;>refine gDx 4 ?_<;>(refine yE 5 rfl (Zm 6 YZ) fun v17 h=>?_;cases h)<;>(refine aDr 6 fun bk=>?_)<;>(refine cO 18 (cA call233 (ZaG l n E (ZU n E) S F hl hn)) fun v18 ho18=>?_;refine Zz (En.freeze (l:=18) (t:=18) rfl rfl) fun _=>?_;rw [Jr])<;>refine bE bk ?_<;>(refine aDr 7 fun bk=>?_)<;>(refine LX 19 rfl rfl (Xa rfl) rfl (cA call232 (PX l n E (ZU n E) S F 2 (fun _=>true) hl hn)) ?_;rintro p' ⟨cs,hcs,rfl⟩;refine ⟨rfl,fun h19 ho19=>?_⟩;have hcs':=hcs;rw [TC] at hcs';have hcs2:=ZaJ hcs' fun x _ y _ _=>ZrG x y;refine Zz (En.freeze (l:=19) (t:=19) rfl rfl) fun _=>?_;rw [KP _ _ _ rfl])<;>refine bE bk ?_<;>(refine aDr 8 fun bk=>?_)<;>(refine On 20 rfl rfl (Xa rfl) (cA call231 (Zh0 l n E S F cs hn hcs2)) ?_;rintro p' ⟨out,hpo,hso,rfl⟩;refine ⟨rfl,?_⟩;intro v20 hv20)<;>refine bE bk ?_<;>(refine aDr 9 fun bk=>?_)<;>(refine cPx 21 (cA call230 (Ev l n E (ZU n E) S F 2 out hl hn (fun c h=>Zgk hcs2 (fun x hx=>YR.1 hx) c (hpo.mem_iff.1 h)) (by have:=(Jv hcs2).2.1;rw [hpo.length_eq];omega))) (fun i va21 vb21 hva21 hvb21=>?_) (fun i=>Eu i.1);rcases i with ⟨_|cc,hq⟩<;>(dsimp only [J',Oa] at hva21 hvb21 ⊢;cases hvb21))<;>refine bE bk ?_<;>refine gDx 10 ?_<;>refine gEx 11 ?_<;>(refine aDr 12 fun bk=>?_)<;>refine Zn 4 Z6 ?_<;>refine bE bk ?_<;>refine gEx 13 ?_<;>refine Wo ?_)<;>(
 first
  |exact ZN (k:=2) 4 results186 ⟨⟨none,cs,out,hcs,hpo,hso,hq⟩,rfl⟩
  |exact ZN (k:=2) 4 results186 ⟨⟨some cc,cs,out,hcs,hpo,hso,hq⟩,rfl⟩))
 refine W8 ?_ ?_<;>intro hb24
 . (
 obtain rfl:kind=3:=oM;refine nav ?_;(refine Yx [] [2,6] ?_<;>(refine yD 0 rfl (Zm 6 YZ) fun v26 h=>?_;cases h)<;>refine gDx 1 ?_<;>(refine yD 2 rfl (Zm 6 YZ) fun v28 h=>?_;cases h)<;>(refine yD 3 rfl (Zm 6 YZ) fun v29 h=>?_;cases h)<;>refine gDx 4 ?_<;>(refine yE 5 rfl (Zm 6 YZ) fun v31 h=>?_;cases h)<;>(refine aDr 6 fun bk=>?_)<;>(refine cO 32 (cA call233 (ZaG l n E (ZU n E) S F hl hn)) fun v32 ho32=>?_;refine Zz (En.freeze (l:=32) (t:=32) rfl rfl) fun _=>?_;rw [Jr])<;>refine bE bk ?_<;>(refine aDr 7 fun bk=>?_)<;>(refine LX 33 rfl rfl (Xa rfl) rfl (cA call232 (PX l n E (ZU n E) S F 3 (fun _=>true) hl hn)) ?_;rintro p' ⟨cs,hcs,rfl⟩;refine ⟨rfl,fun h33 ho33=>?_⟩;have hcs':=hcs;rw [TC] at hcs';refine Zz (En.freeze (l:=33) (t:=33) rfl rfl) fun _=>?_;rw [KP _ _ _ rfl])<;>refine bE bk ?_<;>(refine aDr 8 fun bk=>?_)<;>(refine On 34 rfl rfl (Xa rfl) (cA call234 (Zl7 l n E (ZU n E) S F cs _ hn hcs')) ?_;rintro p' ⟨out,hpo,hso,rfl⟩;refine ⟨rfl,?_⟩;intro v34 hv34)<;>refine bE bk ?_<;>(refine aDr 9 fun bk=>?_)<;>(refine cPx 35 (cA call230 (Ev l n E (ZU n E) S F 3 out hl hn (fun c h=>(ZcY hcs').1 c (hpo.mem_iff.1 h)) (by have:=(ZcY (W:=Ya S F) hcs').2;rw [hpo.length_eq];omega))) (fun i va35 vb35 hva35 hvb35=>?_) (fun i=>Eu i.1);rcases i with ⟨_|cc,hq⟩<;>(dsimp only [J',Oa] at hva35 hvb35 ⊢;cases hvb35))<;>refine bE bk ?_<;>refine gDx 10 ?_<;>refine gEx 11 ?_<;>(refine aDr 12 fun bk=>?_)<;>refine Zn 4 Z6 ?_<;>refine bE bk ?_<;>refine gEx 13 ?_<;>refine Wo ?_)<;>(
 first
  |exact ZN (k:=2) 4 results186 ⟨⟨none,cs,out,hcs,hpo,hso,hq⟩,rfl⟩
  |exact ZN (k:=2) 4 results186 ⟨⟨some cc,cs,out,hcs,hpo,hso,hq⟩,rfl⟩))
 refine W8 ?_ ?_<;>intro hb38
 . (
 obtain rfl:kind=4:=oM;refine nav ?_;(refine Yx [] [2,6] ?_<;>(refine yD 0 rfl (Zm 6 YZ) fun v40 h=>?_;cases h)<;>refine gDx 1 ?_<;>(refine yE 2 rfl (Zm 6 YZ) fun v42 h=>?_;cases h)<;>(refine aDr 3 fun bk=>?_)<;>(refine On 43 rfl rfl (Xa rfl) (cA call235 (Zma l n E S F hl hn)) ?_;rintro p' ⟨⟨xs,hxs⟩,rfl⟩;refine ⟨rfl,?_⟩;intro v43 hv43;dsimp only)<;>refine bE bk ?_<;>(refine aDr 4 fun bk=>?_)<;>(refine cPx 44 (cA call230 (Ev l n E (ZU n E) S F 4 xs hl hn (Zgl hxs).1 (by have:=(Zgl hxs).2;omega))) (fun i va44 vb44 hva44 hvb44=>?_) (fun i=>Eu i.1);have hq0:Zlj l n E S F 3 i.1:=ZqY hxs i.2;rcases i with ⟨_|cc,hq⟩<;>(dsimp only [J',Oa] at hva44 hvb44 ⊢;cases hvb44))<;>refine bE bk ?_<;>refine gDx 5 ?_<;>refine gEx 6 ?_<;>(refine aDr 7 fun bk=>?_)<;>refine Zn 4 Z6 ?_<;>refine bE bk ?_<;>refine gEx 8 ?_<;>refine Wo ?_)<;>(
 first
  |exact ZN (k:=2) 4 results186 ⟨⟨none,hq0⟩,rfl⟩
  |exact ZN (k:=2) 4 results186 ⟨⟨some cc,hq0⟩,rfl⟩))
 obtain rfl:kind=1:=oM;refine nav ?_;(refine Yx [] [2,6] ?_<;>(refine yD 0 rfl (Zm 6 YZ) fun v47 h=>?_;cases h)<;>refine gDx 1 ?_<;>(refine yD 2 rfl (Zm 6 YZ) fun v49 h=>?_;cases h)<;>refine gDx 3 ?_<;>(refine yE 4 rfl (Zm 6 YZ) fun v51 h=>?_;cases h)<;>(refine aDr 5 fun bk=>?_)<;>(refine cO 52 (cA call233 (ZaG l n E (ZU n E) S F hl hn)) fun v52 ho52=>?_;refine Zz (En.freeze (l:=52) (t:=52) rfl rfl) fun _=>?_;rw [Jr])<;>refine bE bk ?_<;>(refine aDr 6 fun bk=>?_)<;>(refine LX 53 rfl rfl (Xa rfl) rfl (cA call232 (PX l n E (ZU n E) S F 1 (fun _=>true) hl hn)) ?_;rintro p' ⟨cs,hcs,rfl⟩;refine ⟨rfl,fun h53 ho53=>?_⟩;have hcs':=hcs;rw [TC] at hcs';refine Zz (En.freeze (l:=53) (t:=53) rfl rfl) fun _=>?_;rw [KP _ _ _ rfl])<;>refine bE bk ?_<;>(refine aDr 7 fun bk=>?_)<;>(refine cPx 54 (cA call230 (Ev l n E (ZU n E) S F 1 cs hl hn (Zgk hcs' fun x hx=>YR.1 hx) (by have:=(Jv hcs').2.1;omega))) (fun i va54 vb54 hva54 hvb54=>?_) (fun i=>Eu i.1);rcases i with ⟨_|cc,hq⟩<;>(dsimp only [J',Oa] at hva54 hvb54 ⊢;cases hvb54))<;>refine bE bk ?_<;>refine gDx 8 ?_<;>refine gEx 9 ?_<;>(refine aDr 10 fun bk=>?_)<;>refine Zn 4 Z6 ?_<;>refine bE bk ?_<;>refine gEx 11 ?_<;>refine Wo ?_)<;>(
 first
  |exact ZN (k:=2) 4 results186 ⟨⟨none,cs,hcs,hq⟩,rfl⟩
  |exact ZN (k:=2) 4 results186 ⟨⟨some cc,cs,hcs,hq⟩,rfl⟩)
def Zmb (g:Dfg) (l:List BA) (n:Nat) (E:Nat->Nat->Bool) (S F:Nat->Bool) (hv:AF prog 229 [Ji g] (· = .agg (Jt l n E (ZU n E) S F))) (hl:l.length=n) (hn:n<=1000):AF prog 126 [Ji g] (fun p=>∃i:{o//Pk (Zlj l n E S F) o},p= .tup [J' i.1,Oa i.1]):=by
 refine AF.b1 20 func126 rfl ntmps126 (Xa rfl) fun w0 M0 v0 _=>?_
 refine Zi ?_
 refine Z4 1 4 fun h1=>?_;refine Zt [(.int .i64 0),(.slice none 0 0)] 2 2 WZ fun h2=>?_;refine KG ?_
 refine Yl (ι:={x:Int//1<=x/\x<=5/\∀j:Nat,(j:Int)+1<x->Zlj l n E S F j none}) (fun k=>⟨[(1,_,_),(2,_,_),(4, .int .i64 k.1,Zb k.1)],[(1,_,_),(2,_,_)]⟩) (fun k=>(5-k.1).toNat) ⟨1,dC,dC,fun j h=>oM⟩ ?_
 rintro ⟨k,hk1,hk5,hQ⟩
 dsimp only
 try dsimp only at hk1 hk5 hQ
 refine W8 ?_ ?_<;>intro hb8
 . (
 refine Zi ?_;(refine yU (Zm 1 Yu) fun v12=>?_<;>refine YU ?_<;>(refine cPx 14 (cA call186 (ZoU g l n E S F k ⟨hk1,oM⟩ hv hl hn)) (fun i va14 vb14 hva14 hvb14=>?_) (fun i=>Eu i.1);rcases i with ⟨_|cc,hq⟩<;>(dsimp only [J',Oa] at hva14 hvb14 ⊢;cases hvb14))<;>refine Y8 ?_<;>refine Zt [(.int .i64 0),(.slice none 0 0)] 2 5 WZ fun h5=>?_<;>refine Zn 5 Z6 ?_<;>refine ZD ?_)<;>(
 refine Zp ?_;refine Wg ?_ ?_<;>intro hb17
 . first|exact bN hb17|(
 refine Zi ?_;refine yU (Zm 5 Z6) fun v18=>?_;refine Zn 2 Z6 ?_;refine ZD ?_;exact ZN (k:=2) 2 results126 ⟨⟨some cc, .inl ⟨k.toNat-1,cc,oM,fun j hj=>hQ j oM,hq,rfl⟩⟩,rfl⟩)
 . first|exact bN hb17|(
 refine YQ ?_;refine Zh (
  ⟨k+1,oM,oM,fun j hj=>by
   by_cases e:(j:Int)+1=k
   . rw [show j=k.toNat-1 by omega];exact hq
   . exact hQ j oM⟩
  ) (by show (5-(k+1)).toNat<(5-k).toNat;omega) sB sB)))
 refine Zi ?_;refine xM (ZA TB) ?_;refine Zn 2 Z6 ?_;refine ZD ?_;exact ZN (k:=2) 2 results126 ⟨⟨none, .inr ⟨fun j hj=>hQ j oM,rfl⟩⟩,rfl⟩
def Zmc (g:Dfg) (hg:g.acts.length<=1000000):AF prog 127 [Ji g] (· =ZX (cnames g.acts)):=by
 refine AF.b1 6 func127 rfl ntmps127 (Xa rfl) fun w0 M0 v0 _=>?_
 refine Zi ?_
 refine Z4 1 4 fun h1=>?_;refine ZW ?_
 refine xM (Zc 1 KL) ?_;refine yU (Zf 1 YN) fun v4=>?_;refine cU (cA call187 (Zhp g.acts hg)) fun v5=>?_;refine ZD ?_
 exact Zg results127 rfl rfl
def Sq (l : List Var) (t : Nd) (hl:l.length<=1000000) (h0:∀u,Jg l=some u->t=u) (h1:∀x l',l=x::l'->Jg l=none->ZrI 81 124 126 128 id (Y6 l) Oa t x l'):AF prog 81 [ZV l] (· = .tup [pTr t,Zb 0]):=by
 have hB:=(ZcV l).reread (Zbj l) (Co l)
 obtain ⟨bt,hbt⟩:∃bt,bt=Jg l:=⟨_,rfl⟩
 rw [<-hbt] at hB
 have eB:∀u:Nd,pTr u= .agg [Zb u.op,Zx u.act,YJ u.l]:=fun _=>rfl
 refine AF.b1 128 func81 rfl ntmps81 (Xa rfl) fun w0 M0 v0 _=>?_
 refine Zi ?_
 refine Zt zT 3 2 Yh fun h2=>?_;refine ZW ?_
 (refine YU ?_ <;> (rcases bt with _|bt<;>(dsimp only [Option.getD,Option.isSome] at hB;refine cP 21 (cA call32 hB) fun va21 vb21 hva21 h=>?_;cases h))<;>refine Y8 ?_<;>refine Zt zT 3 4 Yh fun h4=>?_<;>refine Zn 4 Zj ?_<;>refine ZD ?_)<;>(
 refine Zp ?_;refine Wg ?_ ?_<;>intro hb24
 . first|exact bN hb24|(
 refine Zi ?_;refine yU (Zm 4 Zj) fun v25=>?_;refine Zn 2 Zj ?_;refine ZD ?_;refine ZN (k:=3) 2 results81 ?_;rw [h0 _ hbt.symm];rfl)
 . first | exact bN hb24 | (
 (obtain ⟨x,l',rfl⟩:∃x l',l=x::l':=by cases l with|nil=>cases hbt|cons x l'=>exact ⟨x,l',rfl⟩);obtain ⟨h2,h3⟩:=h1 x l' rfl hbt.symm;have e1:((x::l').flatMap YL)[0*2+0]? =some (ZX x.acts):=rfl;(have e2:0*2+2<=((x::l').flatMap YL).length:=by rw [Xq,Xe];show 2<=2+_;omega);have e3:0<(x::l').length:=Vc _;have hcl:((x::l').flatMap YL).length=(x::l').length*2:=Z1 ZM _;refine Zi ?_;refine xL 26 Za (xL 27 (Ze Zv) (xL 28 (Yg Z8) ?_));refine yU (Zw ZG) fun v29=>?_;refine xL 30 (Zu Zo) (xL 31 Jb ?_);refine ZC ?_ ?_<;>intro hb31
 . (
 obtain ⟨t1,hT1,ht⟩:=h2 (Xv oM);refine Wp ?_;refine xM (Wd (i:=1) (j:=(x::l').length) Zv rfl rfl rfl rfl (Vc _) (Xd _) hcl) ?_;refine Zz (Ki (t:=34) (p':=ZV l') rfl (Cp x l')) fun _=>?_;refine cP 35 (cA call81 hT1) fun va35 vb35 hva35 hvb35=>?_;cases hvb35;refine Y8 ?_;refine Zt zT 3 6 Yh fun h6=>?_;refine Zn 6 Zj ?_;refine JG ?_;refine xL (v:= .bool false) (p:= .val (.bool false)) 39 (T' (a:=0) (b:=0)) ?_;refine ZC ?_ ?_<;>intro hb39
 . exact bN hb39
 refine nav ?_;refine Yx [] [6] ?_<;>(refine yD 1 rfl (Zm 6 Zj) fun v43 h=>?_;cases h)<;>(refine ZY 0 kR ?_)<;>(refine Ym (d:=42) rfl (cA call90 TY) fun v42 h=>?_;cases h)<;>(refine aDr 2 fun bk=>?_)<;>(refine J5 (kk:=3) (xs:=[_,_]) (cs:=[[_,_,_],[_,_,_]]) 44 Kf fun h44 ho44=>?_;refine Zz (En.freeze (l:=44) (t:=44) rfl rfl) fun _=>?_;refine Zz (Ki (t:=44) (p':=YJ [sil,t1]) rfl (Eq.trans (show _=PV.sl 2 ([sil,t1].flatMap cN) from rfl) (GB sil t1))) fun _=>?_)<;>refine bE bk ?_<;>refine xE 3 rfl (ZA YB) ?_<;>(refine aDr 4 fun bk=>?_)<;>refine Zn 2 Zj ?_<;>refine bE bk ?_<;>refine gEx 5 ?_<;>refine Wo ?_;refine ZN (k:=3) 2 results81 ?_;rw [ht];rfl)
 obtain ⟨g,hM,hgl,hFS⟩:=h3 (fun h=>hb31 (by rw [h];rfl));refine Wp ?_;refine cU (cA call125 (Cn (x::l') hl)) fun v48=>?_;refine cP 49 (cA call124 hM) fun va49 vb49 hva49 hvb49=>?_;cases hvb49;refine Y8 ?_;refine Zt [(.slice none 0 0),(.slice none 0 0),(.slice none 0 0),(.slice none 0 0)] 4 8 JW fun h8=>?_;refine Zn 8 Yu ?_;refine JG ?_;refine xL (v:= .bool false) (p:= .val (.bool false)) 53 (T' (a:=0) (b:=0)) ?_;refine ZC ?_ ?_<;>intro hb53
 . exact bN hb53
 refine Zi ?_;(refine yU (Zm 8 Yu) fun v57=>?_<;>(rcases hFS with ⟨hF,ht⟩|⟨c,out,ts,hF,hS,hts,hts2,htl,hol,hT,ht⟩<;>(dsimp only [J',Oa,Option.isSome,PC] at hF;refine cP 58 (cA call126 hF) fun va58 vb58 hva58 h=>?_;cases h))<;>refine Y8 ?_<;>refine Zt [(.int .i64 0),(.slice none 0 0)] 2 10 WZ fun h10=>?_<;>refine Zn 10 Z6 ?_<;>refine ZD ?_)<;>(
 refine J2 ?_<;>(first|refine xL (v:= .bool true) (p:= .val (.bool true)) 62 (HJ (b:=false)) ?_|refine xL (v:= .bool false) (p:= .val (.bool false)) 62 (HJ (b:=true)) ?_)<;>refine ZZ ?_;refine cX ?_ ?_<;>intro hb62
 . first|exact bN hb62|(
 refine Zi ?_;refine yU (Zm 8 Yu) fun v63=>?_;refine cU (cA call127 (Zmc g hgl)) fun v64=>?_;refine cD (cA call34 (Zfk (cnames g.acts) (by unfold cnames;rw [Xc];exact hgl))) fun v65 hv65=>?_;clear hv65;refine Zn 2 Zj ?_;refine ZD ?_;refine ZN (k:=3) 2 results81 ?_;rw [ht];rfl)
 . first | exact bN hb62|(
 refine nav ?_;refine Yx [] [10] ?_<;>refine gDx 0 ?_<;>(refine yD 2 rfl (Zm 10 Z6) fun v69 h=>?_;cases h)<;>(refine ZY 1 kR ?_)<;>(refine Ym (d:=68) rfl (cA call125 (Cn (x::l') hl)) fun v68 h=>?_;cases h)<;>(refine ZY 3 kR ?_)<;>(refine Zfi (d:=70) rfl (cA call128 hS) fun v70a v70b hv70a hv70b=>?_;cases hv70a;cases hv70b)<;>refine gEx 4 ?_<;>refine gDx 5 ?_<;>refine gDx 6 ?_<;>refine gEx 7 ?_<;>refine gEx 8 ?_<;>refine Wo ?_;refine J2 ?_;refine xL (v:= .bool false) (p:= .val (.bool false)) 74 (T' (a:=0) (b:=0)) ?_;refine ZC ?_ ?_<;>intro hb74
 . exact bN hb74
 refine Jx ?_;refine Zs (YO 201 51 3 rfl) fun _=>?_;refine Yl (ι:={x:Nat×Value//x.1<=out.length}) (fun k=>⟨[(2,_,_),(10,_,_),(12,_,_),(14,k.1.2, .val k.1.2),(15, .int .i64 k.1.1,Zb k.1.1)],[(2,_,_),(10,_,_),(201,k.1.2, .own 51 3 k.1.1 ((ts.take k.1.1).flatMap cN))]⟩) (fun k=>out.length-k.1.1) ⟨(0, .slice none 0 0),oM⟩ ?_;rintro ⟨⟨k,h14⟩,hk⟩;dsimp only;dsimp only at hk;refine Zi ?_;refine xL 77 Za (xL 78 Za (xL 79 (Zu JX) (xL 80 Yn ?_)));refine ZC ?_ ?_<;>intro hb80
 . (
 obtain ⟨r,hr⟩:=gS out k;obtain ⟨u,hu⟩:=gS ts k;have e4:=Yf (f:=ZV) hr;have e5:=C8 ts k oM;have hTu:=hT k r u hr hu;refine Zi ?_;refine xL 84 Za (xL 85 Za (xL 86 (Ze JX) ?_));refine yU (Zw TF) fun v87=>?_;refine cP 88 (cA call81 hTu) fun va88 vb88 hva88 hvb88=>?_;cases hvb88;refine Y8 ?_;refine Zt zT 3 16 Yh fun h16=>?_;refine Zn 16 Zj ?_;refine JG ?_;refine xL (v:= .bool false) (p:= .val (.bool false)) 92 (T' (a:=0) (b:=0)) ?_;refine ZC ?_ ?_<;>intro hb92
 . exact bN hb92
 refine Wp ?_;refine yU (Zm 16 Zj) fun v96=>?_;refine Wy 97 Kf fun h97 ho97=>?_;refine Y7 201 97 98 Kf fun h98 ho98=>?_;refine KQ ?_;refine ZJ (ZK (l:=98) 201 rfl rfl) fun _=>?_;refine ZJ (Wm (l:=201) rfl (show PV.own 51 3 (k+1) ((ts.take k).flatMap cN++cN u)=PV.own 51 3 (k+1) ((ts.take (k+1)).flatMap cN) by rw [ZjM ts k hu])) fun _=>?_;refine Yk (
  ⟨(k+1,h98),by show k+1<=out.length;omega⟩
  ))
 obtain rfl:k=out.length:=oM;rw [show ts.take out.length=ts by rw [<-hts];exact Xx];refine nav ?_;refine Zs (En.freeze (l:=201) (t:=14) rfl rfl) fun _=>?_;rw [<-W5,JK _ _ _ hts.symm];refine Zp ?_;refine xM (Zc 10 Ju) ?_;refine yV (Zf 10 Zq) ?_;refine YT ?_;refine Wv ?_ ?_<;>intro hb101
 . (
 refine Zi ?_;refine xL 103 Za (xL 104 (ZA YB) ?_);refine Zn 2 Zj ?_;refine ZD ?_;refine ZN (k:=3) 2 results81 ?_;rw [ht];unfold Hr;rw [Qd oM];rfl)
 refine W8 ?_ ?_<;>intro hb105
 . (
 refine Zi ?_;refine xL 107 Za (xL 108 (ZA YB) ?_);refine Zn 2 Zj ?_;refine ZD ?_;refine ZN (k:=3) 2 results81 ?_;rw [ht];unfold Hr;rw [Qc oM,Qd oM];rfl)
 refine W8 ?_ ?_<;>intro hb109
 . (
 refine Zi ?_;refine xL 111 Za (xL 112 (ZA YB) ?_);refine Zn 2 Zj ?_;refine ZD ?_;refine ZN (k:=3) 2 results81 ?_;rw [ht];unfold Hr;rw [Qc oM,Qc oM,Qd oM];rfl)
 refine nav ?_;obtain ⟨a,b,ts',rfl⟩:∃a b ts',ts=a::b::ts':=by match ts,hts2 with|a::b::m,_=>exact ⟨a,b,m,rfl⟩
 have e4:=Yd (l:=a::b::ts') (k:=0) (x:=a) rfl;have e5:0<(a::b::ts').length:=Vc _;have e7:=Yd (l:=a::b::ts') (k:=1) (x:=b) rfl;have e8:1<(a::b::ts').length:=Nat.succ_lt_succ (Vc _);have e6:=TU (a::b::ts');refine Zp ?_;refine xL 113 Za (xL 114 (Ze K8) ?_);refine yU (We Zj) fun v115=>?_;refine Zt zT 3 18 Yh fun h18=>?_;refine Zn 18 Zj ?_;refine YT ?_;refine xL 116 Za (xL 117 (Zu K8) (xL 118 G3 ?_));refine ZC ?_ ?_<;>intro hb118
 . (
 refine Wp ?_;refine xM (Wd (i:=1) (j:=(a::b::ts').length) K8 rfl rfl rfl rfl (Vc _) (Xd _) e6) ?_;refine xM (ZA YB) ?_;refine Zn 18 Zj ?_;refine ZZ ?_;refine Zs (Wm (l:=18) rfl (show PV.own 51 3 1 [Zb 4,Zx ByteArray.empty,PV.sl ((a::b::ts').length-1) (((Z9 (a::b::ts')).drop (1*3)).take (((a::b::ts').length-1)*3))]=PV.own 51 3 1 (cN (WT 4 (b::ts'))) by rw [Zaj (m:=a::b::ts') (k:=1) oM];rfl)) fun _=>?_;refine Yx [] [18] ?_<;>refine gDx 0 ?_<;>refine xD 1 rfl (Ze K8) ?_<;>(refine yD 2 rfl (We Zj) fun v124 h=>?_;cases h)<;>(refine yE 3 rfl (Zm 18 Zj) fun v125 h=>?_;cases h)<;>(refine aDr 4 fun bk=>?_)<;>(refine J5 (kk:=3) (xs:=[_,_]) (cs:=[[_,_,_],[_,_,_]]) 126 Kf fun h126 ho126=>?_;refine Zz (En.freeze (l:=126) (t:=126) rfl rfl) fun _=>?_;first|(refine Zz (Ki (t:=126) (p':=YJ [a,b]) rfl (Eq.trans (show _=PV.sl 2 ([a,b].flatMap cN) from rfl) (GB a b))) fun _=>?_)|(refine Zz (Ki (t:=126) (p':=YJ [a,WT 4 (b::ts')]) rfl (Eq.trans (show _=PV.sl 2 ([a,WT 4 (b::ts')].flatMap cN) from rfl) (GB a (WT 4 (b::ts'))))) fun _=>?_))<;>refine bE bk ?_<;>refine xE 5 rfl (ZA YB) ?_<;>(refine aDr 6 fun bk=>?_)<;>refine Zn 2 Zj ?_<;>refine bE bk ?_<;>refine gEx 7 ?_<;>refine Wo ?_;refine ZN (k:=3) 2 results81 ?_
 first
  |(rw [ht,Zbh ⟨oM,oM,oM⟩ oM];rfl)
  |(rw [ht,Zbi ⟨oM,oM,oM⟩ oM];obtain rfl:ts'=[]:=Xv (by have h9:=hb118;simp only [Xh] at h9;omega);rfl))
 refine nav ?_;refine Yx [] [18] ?_<;>refine gDx 0 ?_<;>refine xD 1 rfl (Ze K8) ?_<;>(refine yD 2 rfl (We Zj) fun v124 h=>?_;cases h)<;>(refine yE 3 rfl (Zm 18 Zj) fun v125 h=>?_;cases h)<;>(refine aDr 4 fun bk=>?_)<;>(refine J5 (kk:=3) (xs:=[_,_]) (cs:=[[_,_,_],[_,_,_]]) 126 Kf fun h126 ho126=>?_;refine Zz (En.freeze (l:=126) (t:=126) rfl rfl) fun _=>?_;first|(refine Zz (Ki (t:=126) (p':=YJ [a,b]) rfl (Eq.trans (show _=PV.sl 2 ([a,b].flatMap cN) from rfl) (GB a b))) fun _=>?_)|(refine Zz (Ki (t:=126) (p':=YJ [a,WT 4 (b::ts')]) rfl (Eq.trans (show _=PV.sl 2 ([a,WT 4 (b::ts')].flatMap cN) from rfl) (GB a (WT 4 (b::ts'))))) fun _=>?_))<;>refine bE bk ?_<;>refine xE 5 rfl (ZA YB) ?_<;>(refine aDr 6 fun bk=>?_)<;>refine Zn 2 Zj ?_<;>refine bE bk ?_<;>refine gEx 7 ?_<;>refine Wo ?_;refine ZN (k:=3) 2 results81 ?_
 first
  |(rw [ht,Zbh ⟨oM,oM,oM⟩ oM];rfl)
  |(rw [ht,Zbi ⟨oM,oM,oM⟩ oM];obtain rfl:ts'=[]:=Xv (by have h9:=hb118;simp only [Xh] at h9;omega);rfl)))))
def Zto (g:Dfg) (o:Option Cut):Prop:=∀c,o=some c->∃kd cs,c=⟨kd,ZB (cnames g.acts) cs⟩/\Ry (cnames g.acts) (W3 (cnames g.acts) g.follows) (Y5 (cnames g.acts) g.starts) (Y5 (cnames g.acts) g.ends) kd cs
def ZoV {n:Nat} {cs:List (List Int)} (h:Ptn n cs):cs.length<=n:=by
 have key:∀ds:List (List Int),(∀c∈ds,c≠[])->ds.length<=ds.flatten.length:=fun ds=>by
  induction ds with
  |nil=>intro _;exact Xd _
  | cons d ds ih=>
    intro hd;have h1:=ih fun c hc=>hd c (Xt _ hc);have h2:=X5.2 (hd d (Xu ..));rw [XS,Xe,Xh];omega
 exact XI (key cs h.ne) (S4 n _ h.nd fun s hs=>(h.mem s).1 hs)
def Zmd {l:List BA} {E:Nat->Nat->Bool} {S F:Nat->Bool} {kd:Int} {cs:List (List Int)} (hn:l.all isName=true) (h:Ry l E S F kd cs):(ZB l cs).length<=l.length/\∀p∈ZB l cs,∀s∈p,s.size<=140737488355328:=by
 refine ⟨by rw [ZoL];exact ZoV h.1,fun p hp s hs=>?_⟩
 unfold ZB at hp
 obtain ⟨c,hc,rfl⟩:=Xp.1 hp
 obtain ⟨x,hx,rfl⟩:=Xp.1 hs
 have:=TO (Xj.1 hn _ (Xb (P7 ((h.1.mem x).1 (XQ.2 ⟨c,hc,hx⟩)))))
 omega
def O4 {x:Var} (h:Kc x=true):1<=x.count/\x.count<=1048576/\x.acts.length<=200:=by
 unfold Kc at h
 simp only [Xf,U'] at h
 exact ⟨h.1.2,h.2,h.1.1.1⟩
def Px {x:Var} (h:Kc x=true):Zdf x.acts∧-9223372036854775808<=x.count/\x.count<=9223372036854775807:=by
 have hb:=O4 h
 unfold Kc at h
 simp only [Xf,U'] at h
 exact ⟨⟨oM,fun s hs=>by have:=TO (Xj.1 h.1.1.2 s hs);omega⟩,oM,oM⟩
def Ew (w:World) (n:Nat) (xs:List Value) (hn:n<=maxLen):∃w' v,Ext w w'/\Shr (fun _=>False) w' v (.sl n (xs.map PV.val)):=by
 refine ⟨w.alloc (.cells xs.toArray 0), .slice (some ⟨w.heap.size,0,none⟩) n n,Ext.alloc _ _, .sl w.heap.size 0 n n (xs.map PV.val) (fun i=>xs.getD i (.bool true)) (Xd _) hn (fun i hi=>⟨?_,id⟩) (fun i p hp=>?_)⟩
 . rw [Xc] at hi;have hb:(w.alloc (.cells xs.toArray 0)).heap[w.heap.size]? =some (.cells xs.toArray 0):=by show (w.heap.push _)[w.heap.size]? =_;simp
   unfold World.cell?;rw [hb];show xs.toArray[0+i]? =some (xs.getD i (.bool true));rw [XC,List.getElem?_toArray,List.getD,Xr hi];rfl
 rw [Xl,XU] at hp;obtain ⟨v,hv,rfl⟩:=hp;rw [List.getD,hv];exact .val v
def AF.ex {P:Program} {f:Nat} {ps:List PV} {R:PV->Prop} (h:AF P f ps R) {w:World} {vs:List Value} (hM:M0k w (fun _=>False) (fun _=>False) False) (hl:vs.length=ps.length) (hv:∀(i:Nat) (v:Value) (p:PV),vs[i]? =some v->ps[i]? =some p->Shr (fun _=>False) w v p):∃p,R p:=by
 obtain ⟨e,w',fr,⟨v,p,F,h1,h2,_⟩,_⟩:=h (fun _=>False) w vs hM hl hv []
 exact ⟨p,h2⟩
def ZqZ (w:World) {g:Dfg} (hf:Zqp g):∃w' v,Shr (fun _=>False) w' v (Ji g):=by
 have cv:∀l:List Cnt,∃xs:List Value,l.flatMap Lp=xs.map PV.val:=fun l=>⟨l.flatMap fun c=>[.string c.name, .int .i64 c.n],by rw [Uv];rfl⟩
 have fv:∀l:List Flw,∃xs:List Value,l.flatMap LQ=xs.map PV.val:=fun l=>⟨l.flatMap fun c=>[.string c.src, .string c.dst, .int .i64 c.n],by rw [Uv];rfl⟩
 obtain ⟨x1,e1⟩:=cv g.acts
 obtain ⟨x2,e2⟩:=cv g.starts
 obtain ⟨x3,e3⟩:=cv g.ends
 obtain ⟨x4,e4⟩:=fv g.follows
 obtain ⟨w1,v1,a1,b1⟩:=Ew w g.acts.length x1 (by have:=hf.1.1;unfold maxLen;omega)
 obtain ⟨w2,v2,a2,b2⟩:=Ew w1 g.starts.length x2 (by have:=hf.2.1.1;unfold maxLen;omega)
 obtain ⟨w3,v3,a3,b3⟩:=Ew w2 g.ends.length x3 (by have:=hf.2.2.1.1;unfold maxLen;omega)
 obtain ⟨w4,v4,a4,b4⟩:=Ew w3 g.follows.length x4 (by have:=hf.2.2.2.1;unfold maxLen;omega)
 have up:∀{w w':World} {v:Value} {p:PV},Ext w w'->Shr (fun _=>False) w v p->Shr (fun _=>False) w' v p:=fun h hs=>hs.to (h.chg (M:=fun _=>False)) (fun _ _ h=>h.elim) (fun _ _ h=>h.elim)
 refine ⟨w4, .agg #[v1,v2,v3,v4], .agg [v1,v2,v3,v4] _ rfl fun i v p hv hp=>?_⟩
 match i with
 |0=>cases hv;cases hp;have:=up a4 (up a3 (up a2 b1));rw [<-e1] at this;exact this
 |1=>cases hv;cases hp;have:=up a4 (up a3 b2);rw [<-e2] at this;exact this
 |2=>cases hv;cases hp;have:=up a4 b3;rw [<-e3] at this;exact this
 |3=>cases hv;cases hp;rw [<-e4] at b4;exact b4
 |i+4=>simp at hv
def Zme (w:World) {g:Dfg} (hd:JM g=true) (hm:g.acts.length<=1000):∃o,AF prog 18 [Ji g] (· = .tup [J' o,Ru o])/\AF prog 126 [Ji g] (· = .tup [J' o,Oa o])/\Zto g o:=by
 obtain ⟨hf,ha,hs,he,hfo⟩:=ZdZ hd
 have hbg:=Zfu g hf ha hs he
 unfold Zat at hbg
 rw [hd,Qd rfl] at hbg
 have hna:(cnames g.acts).length=g.acts.length:=by simp [cnames]
 have hbg':AF prog 46 [Ji g] (· = .tup [Li (cnames g.acts) (cnames g.acts).length (W3 (cnames g.acts) g.follows) (Y5 (cnames g.acts) g.starts) (Y5 (cnames g.acts) g.ends),Zb 0]):=by rw [hna];exact hbg
 have hv':AF prog 229 [Ji g] (· = .agg (Jt (cnames g.acts) (cnames g.acts).length (W3 (cnames g.acts) g.follows) (ZU (cnames g.acts).length (W3 (cnames g.acts) g.follows)) (Y5 (cnames g.acts) g.starts) (Y5 (cnames g.acts) g.ends))):=by rw [hna];exact Ztg g hd oM oM oM
 have hFd:=ZaA g _ _ _ _ _ hbg' rfl oM
 have hRd:=Zmb g _ _ _ _ _ hv' rfl oM
 obtain ⟨w',v,hsh⟩:=ZqZ w hf
 obtain ⟨p,o,h0,_⟩:=AF.ex hFd (w:=w') (vs:=[v]) ⟨fun _ h=>h.elim,fun _=>(by intro g h;cases h),fun _=>(by intro g h;cases h)⟩ rfl (fun i u p hv hp=>by
  match i with
  |0=>cases hv;cases hp;exact hsh
  |i+1=>simp at hv)
 refine ⟨o,hFd.mono fun p ⟨o',h1,h2⟩=>?_,hRd.mono fun p ⟨⟨o',h1⟩,h2⟩=>?_,fun c hc=>?_⟩
 . obtain rfl:o'=o:=Zbe (Q:=RO (cnames g.acts) (cnames g.acts).length (W3 (cnames g.acts) g.follows) (Y5 (cnames g.acts) g.starts) (Y5 (cnames g.acts) g.ends)) (fun h k'=>ZcT h k') h1 h0;exact h2
 . obtain rfl:o'=o:=Zn8 (fun k o o' hk h h'=>Zn7 k hk h h') h1 h0;exact h2
 subst hc;obtain ⟨j,hj,h3⟩:=Zgb h0;obtain ⟨cs,h4,h5⟩:=ZhS hj h3;exact ⟨_,cs,h4,h5⟩
def Ra (l:List Var):Jg (Y6 l)=Jg l:=by
 match l with
 |[]=>rfl
 |[x]=>rfl
 |_::_::_=>rfl
def Zmf {l:List Var} {t:Nd} (h:Jg l=some t) (hs:∀x∈l,∀s∈x.acts,s.size<=140737488355328):FitT t:=by
 have hsil:FitT sil:= .mk _ dC dC dC dC (fun x hx=>by cases hx)
 match l,h with
 |[],h=>cases h;exact hsil
 | [x],h=>
   unfold Jg at h;dsimp only at h;match hx:x.acts with
   |[]=>rw [hx] at h;cases h;exact hsil
   | [s]=>
     rw [hx] at h;cases h;have:=hs x (XE.2 rfl) s (by rw [hx];exact XE.2 rfl);exact .mk _ (Xg _) this (show-9223372036854775808<=(1:Int) by decide) (show (1:Int)<=9223372036854775807 by decide) (fun x hx=>by cases hx)
   |_::_::_=>rw [hx] at h;cases h
def ZrJ (r:List Var) (t:Nd):Prop:=AF prog 77 [ZV (Y6 r)] (· = .tup [pTr t,Zb 0])/\AF prog 81 [ZV r] (· = .tup [pTr t,Zb 0])/\FitT t
def T5 {o:Int} {l:List Nd} (ho:0<=o/\o<=6) (hl:l.length<=1000000) (h:∀t∈l,FitT t):FitT (WT o l):=
 .mk _ (show l.length<=_ by omega) (show ByteArray.empty.size<=_ by decide) (show _<=o by omega) (show o<=_ by omega) h
def Zd1:FitT sil:=T5 dC dC fun x hx=>by cases hx
def ZoW {s:BA} (h:s.size<=140737488355328):FitT (lf s):= .mk _ (Xg _) h (show-9223372036854775808<=(1:Int) by decide) (show (1:Int)<=9223372036854775807 by decide) (fun x hx=>by cases hx)
def ζx {o:Int} {a b:Nd} (ho:0<=o/\o<=6) (ha:FitT a) (hb:FitT b):FitT (WT o [a,b]):=T5 ho (show 2<=1000000 by decide) fun t ht=>by
 rcases Xi.1 ht with rfl|ht
 . exact ha
 rw [XE] at ht;subst ht;exact hb
def ZoX {l:List BA} (hl:l.length<=1000000) (h:∀s∈l,s.size<=140737488355328):FitT (Zcf l):=by
 by_cases h1:l.length=1
 . obtain ⟨s,rfl⟩:=Uf.1 h1;exact ζx dC (ZoW (h s (XE.2 rfl))) Zd1
 rw [Zam h1];refine ζx dC (T5 dC (by rw [Xc];exact hl) fun t ht=>?_) Zd1;obtain ⟨s,hs,rfl⟩:=Xp.1 ht;exact ZoW (h s hs)
def Zq0 {kd:Int} {ts:List Nd} (hl:ts.length<=1000000) (h:∀t∈ts,FitT t):FitT (Hr kd ts):=by
 unfold Hr
 split
 . exact T5 dC hl h
 split
 . exact T5 dC hl h
 split
 . exact T5 dC hl h
 split
 . rename_i a b c m;refine ζx dC (h a (Xu ..)) (T5 dC (by rw [Xh] at hl;omega) fun t ht=>h t (Xt _ ht))
 exact T5 dC hl h
def ZoY:Prop:=∀(l:List Var) (c:Cut),validVars l=true->Y1 c=true->c.parts.length<=40->(∀p∈c.parts,∀s∈p,s.size<=140737488355328)->c.parts.flatten.length<=1000000->AF prog 128 [ZV l,PC c] (RSp (KW l c))
def Zh1 {l:List BA} {E:Nat->Nat->Bool} {S F:Nat->Bool} {kd:Int} {cs:List (List Int)} (h:Ry l E S F kd cs):(ZB l cs).flatten.length<=l.length:=by
 have e:(ZB l cs).flatten.length=cs.flatten.length:=by
  unfold ZB;rw [UW,UW,XB];congr 1;exact VV fun c _=>sM
 rw [e]
 exact S4 l.length _ h.1.nd fun s hs=>(h.1.mem s).1 hs
def Zbk {x:Var} {l:List Var} (h:validVars (x::l)=true):validVars l=true:=by
 have h3:(x::l).length<=300:=by
  have h:=h;unfold validVars at h;rw [Xf] at h;exact Qf h.1
 rw [Xh] at h3
 exact Es oM (Xy.1 (Et h)).2 fun v hv=>TE h v (Xt _ hv)
def SD {l:List Var} (h:validVars l=true):l.length<=300:=by
 unfold validVars at h
 rw [Xf] at h
 exact Qf h.1
def Zbl {Q:List Var->Nd->Prop}:∀m:List (List Var),(∀r∈m,∃t,Q r t)->∃ts:List Nd,ts.length=m.length/\∀(i:Nat) (r:List Var) (t:Nd),m[i]? =some r->ts[i]? =some t->Q r t
 |[],_=>⟨[],rfl,fun i r t h=>by simp at h⟩
 | r::m,h=>by
   obtain ⟨t,ht⟩:=h r (Xu ..);obtain ⟨ts,h1,h2⟩:=Zbl m fun r hr=>h r (Xt _ hr);refine ⟨t::ts,by rw [Xh,Xh,h1],fun i r' t' hr ht'=>?_⟩
   cases i with
   |zero=>cases hr;cases ht';exact ht
   |succ i=>exact h2 i r' t' (by simpa using hr) (by simpa using ht')
def Zq1 (w:World) (hRS:ZoY):∀(n:Nat) (l:List Var),ZbG (Y6 l)<n->validVars l=true->GoodL (Y6 l)->∃t,ZrJ l t:=fun n=>by
 induction n with
 |zero=>intro l h;omega
 | succ n ih =>
   intro l hn hv hG;have hlen:=SD hv;have hok:=TE hv;have hlo:(Y6 l).length<=1000000:=by rw [LP];omega
   cases hb:Jg l with
   | some u=>
     refine ⟨u,Lz (Y6 l) u hlo (fun v h=>by rw [Ra,hb] at h;cases h;rfl) (fun x m _ h=>by rw [Ra,hb] at h;cases h),Sq l u oM (fun v h=>by rw [hb] at h;cases h;rfl) (fun x m _ h=>by rw [hb] at h;cases h),Zmf hb fun x hx s hs=>(Px (hok x hx)).1.2 s hs⟩
   | none =>
     match l,hb with
     | x :: l',hb=>
       by_cases hx:x.acts=[]
       . have hgt:=Zl3 (x:=⟨x.acts,1⟩) (l:=Y6 l') hG hx;have hme:ZbG (Y6 (x::l'))=ZbG (⟨x.acts,1⟩::Y6 l'):=rfl;obtain ⟨t1,h1,h2,h3⟩:=ih l' oM (Zbk hv) hgt.1;refine ⟨WT 4 [sil,t1],Lz _ _ hlo (fun v h=>by rw [Ra,hb] at h;cases h) (fun y m e _=>?_),Sq _ _ oM (fun v h=>by rw [hb] at h;cases h) (fun y m e _=>?_),ζx dC Zd1 h3⟩
         . cases e;exact ⟨fun _=>⟨t1,h1,rfl⟩,fun hne=>Qe hx hne⟩
         cases e;exact ⟨fun _=>⟨t1,h2,rfl⟩,fun hne=>Qe hx hne⟩
       have hvo:=Rz hv;have hoko:=TE hvo;have hfit:RJ (Y6 (x::l')):=⟨oM,fun y hy=>Px (hoko y hy)⟩;obtain ⟨g,e,hm⟩:=ZqW (Y6 (x::l'));have he:e=0:=by
        rcases hm with ⟨h,_⟩|⟨_,h,_⟩|⟨_,_,_,h⟩
        . rw [hvo] at h;cases h
        . have:=hG.act;omega
        exact h
       subst he;have hgok:=ZoQ hm;have hdf:=ZdZ hgok.1;have h40:=(Dn hgok.1).1;(have hna:(cnames g.acts).length=g.acts.length:=by simp [cnames]);have hnm:(cnames g.acts).all isName=true:=by
        have h:=hgok.1;unfold JM JH at h;simp only [Xf] at h;exact h.1.1.1.1.1.1.1.1.2
       have hD:=ζw (Zjv (Y6 (x::l')) hfit) hm;have hR:=ζw (ZcM (Y6 (x::l')) hfit) hm;have hne:∀y∈Y6 (x::l'),y.acts≠[]:=ZoN hvo (x:=⟨x.acts,1⟩) rfl hx;obtain ⟨o,hF1,hF2,hGo⟩:=Zme w hgok.1 oM
       cases o with
       | none=>
         refine ⟨Zcf (cnames g.acts),Lz _ _ hlo (fun v h=>by rw [Ra,hb] at h;cases h) (fun y m e _=>?_),Sq _ _ oM (fun v h=>by rw [hb] at h;cases h) (fun y m e _=>?_),ZoX oM fun s hs=>?_⟩
         . cases e;exact ⟨fun h=>Qe h hx,fun _=>⟨g,hD,hdf.2.1, .inl ⟨hF1,rfl⟩⟩⟩
         . cases e;exact ⟨fun h=>Qe h hx,fun _=>⟨g,hR,hdf.2.1, .inl ⟨hF2,rfl⟩⟩⟩
         have:=TO (Xj.1 hnm s hs);omega
       | some c=>
         obtain ⟨kd,cs,hc,hFo⟩:=hGo c rfl;obtain ⟨hcv,hcf,out,hSG,hsp⟩:=Zl1 hvo hne hG.few hgok.2.2 hgok.1 hc hFo;have hff:=Zmd hnm hFo;have hfl:=Zh1 hFo;rw [show ZB (cnames g.acts) cs=c.parts by rw [hc]] at hff hfl;have hpt:=fun r (hr:r∈out)=>Zl4 hG hgok.2.2 hc hFo hSG hr;(have hnb:out.any bigVars=false:=Ux.2 fun r hr=>by rw [(hpt r hr).1];decide);have hsp':KW (Y6 (x::l')) c=(out,0):=by
          rcases hsp with ⟨h,_⟩|⟨_,h⟩
          . rw [hnb] at h;cases h
          exact h
         have h2:2<=c.parts.length:=(OS hcf).2.2;obtain ⟨ts,ht1,ht2⟩:=Zbl (Q:=ZrJ) out fun r hr=>ih r (by have:=(hpt r hr).2.2.2;omega) (hpt r hr).2.1 (hpt r hr).2.2.1;have hS1:=ZfZ _ c hfit hff.2 oM;have hS2:=hRS _ c hvo hcf oM hff.2 oM;unfold RSp at hS1 hS2;rw [hsp'] at hS1 hS2;have hol:=hSG.len;(have hrl:∀r∈out,r.length<=1000000:=fun r hr=>by have:=SD (hpt r hr).2.1;omega);refine ⟨Hr c.kind ts,Lz _ _ hlo (fun v h=>by rw [Ra,hb] at h;cases h) (fun y m e _=>?_),Sq _ _ oM (fun v h=>by rw [hb] at h;cases h) (fun y m e _=>?_),Zq0 oM fun t ht=>?_⟩
         . cases e;exact ⟨fun h=>Qe h hx,fun _=>⟨g,hD,hdf.2.1, .inr ⟨c,out,ts,hF1,hS1,ht1,oM,oM,hrl,fun i r u hr hu=>(ht2 i r u hr hu).1,rfl⟩⟩⟩
         . cases e;exact ⟨fun h=>Qe h hx,fun _=>⟨g,hR,hdf.2.1, .inr ⟨c,out,ts,hF2,hS2,ht1,oM,oM,hrl,fun i r u hr hu=>(ht2 i r u hr hu).2.1,rfl⟩⟩⟩
         obtain ⟨i,hi⟩:=XM ht;obtain ⟨r,hr⟩:=get_some (show i<out.length by have:=Zd hi;omega);exact (ht2 i r t hr hi).2.2
def Rb:ElT prog 225 230 2 32 (.agg #[(.int .i64 0),(.slice none 0 0)]):=⟨underlying225,by kernel_rfl,rfl,dC⟩
def G2:FldT prog 230 0 0=true:=kR
def Tf:FldT prog 230 1 1=true:=kR
def WM:SlT prog 225 230 2=true:=kR
def Ht:Gk prog 230=some ((.agg #[(.int .i64 0),(.slice none 0 0)]),([0,1]:List Nat).map fun o=>(o,1)):=kR
def Cq (parts:List (List BA)) (ws:List BA):List Piece×Bool:=if ws=[] then ([⟨0,[]⟩],true) else match Wb parts [] ws with
 |none=>([],false)
 |some ps=>(ps,Go.Cb.endsB ps)
def Zq2 (parts:List (List BA)) (ws:List BA):LZ parts ws=if (Cq parts ws).2 then some (Cq parts ws).1 else none:=by
 unfold LZ Cq
 by_cases h:ws=[]
 . rw [Qd h,Qd h];rfl
 rw [Qc h,Qc h]
 cases Wb parts [] ws with
 |none=>rfl
 |some ps=>rfl
def Ex (c:Cut) (ws:List BA):List Piece×Bool:=if c.kind=4 then Cq c.parts ws else match splitGo c.kind c.parts true 0 (initPs c.parts.length) ws with
 |none=>([],false)
 |some (ps,last)=>if c.kind=1 then ((ps.drop last.toNat).take 1,decide ((0:Int)<(ws.length:Int))) else (ps,true)
def Zq3 (c:Cut) (ws:List BA):Wh c ws=if (Ex c ws).2 then some (Ex c ws).1 else none:=by
 unfold Wh Ex
 by_cases h:c.kind=4
 . rw [Qd h,Qd h,Zq2]
 rw [Qc h,Qc h]
 cases splitGo c.kind c.parts true 0 (initPs c.parts.length) ws with
 |none=>rfl
 | some x=>
   obtain ⟨ps,last⟩:=x;dsimp only;by_cases h1:c.kind=1
   . simp only [Qd h1];by_cases h2:ws=[]
     . subst h2;rfl
     have h3:0<ws.length:=X5.2 h2;rw [Qc h2,show decide ((0:Int)<(ws.length:Int))=true from Qa oM];rfl
   simp only [Qc h1];rfl
structure MetP (parts:List (List BA)) (ps:List Piece) (s:BA) (k:Nat) (ps2:List Piece) (q:Piece):Prop where
 at_:ps2[ps2.length-1]? =some q
 step:pieceStep parts ps s=some (ps2.set (ps2.length-1) ⟨q.part,q.word++[s]⟩)
 len:ps2.length<=k+1
 word:∀p∈ps2,p.word.length<=k
def MetP.old {parts:List (List BA)} {ps:List Piece} {s:BA} {k:Nat} {q:Piece} (hq:ps[ps.length-1]? =some q) (h:q.part=partOf parts s) (hl:ps.length<=k) (hw:∀p∈ps,p.word.length<=k):MetP parts ps s k ps q:=
 ⟨hq,Zj4 hq h,oM,hw⟩
def MetP.first {parts:List (List BA)} {s:BA} {ps:List Piece} (hp:ps.length=0):MetP parts ps s 0 (ps++[(⟨partOf parts s,[]⟩:Piece)]) ⟨partOf parts s,[]⟩:=by
 obtain rfl:=Xv hp
 exact ⟨rfl,ZmB,Xd _,fun p hp=>by rw [XY,XE] at hp;subst hp;exact Xd _⟩
def MetP.new {parts:List (List BA)} {ps:List Piece} {s:BA} {k:Nat} {q:Piece} (hq:ps[ps.length-1]? =some q) (h:q.part≠partOf parts s) (h1:¬(partOf parts s≠0/\q.part≠0)) (hl:ps.length<=k) (hw:∀p∈ps,p.word.length<=k):MetP parts ps s k (ps++[(⟨partOf parts s,[]⟩:Piece)]) ⟨partOf parts s,[]⟩:=by
 have e:(ps++[(⟨partOf parts s,[]⟩:Piece)]).length-1=ps.length:=sM
 refine ⟨by rw [e];simp,by rw [e];exact ZmD hq h h1,by simp;omega,fun p hp=>?_⟩
 rcases XD.1 hp with hp|hp
 . exact hw p hp
 rw [XE] at hp;subst hp;exact Xg _
def Zgm {ps:List Piece} {i k:Nat} {q:Piece} {s:BA} (hq:ps[i]? =some q) (hw:∀p∈ps,p.word.length<=k):∀p∈ps.set i ⟨q.part,q.word++[s]⟩,p.word.length<=k+1:=fun p hp=>by
 rcases VZ hp with h1|h1
 . have:=hw p h1;omega
 have:=hw q (Xb hq);rw [h1];simp;omega
def ZoZ {ps:List Piece} {p q:Piece} (h0:ps[0]? =some p) (h1:ps[ps.length-1]? =some q):Go.Cb.endsB ps=(decide (p.part=0)&&decide (q.part=0)):=by
 unfold Go.Cb.endsB;rw [h0,h1];rfl
def DR (e n k:Nat) (ps:List Piece) (h:n=ps.length):share (.own e k n (ps.flatMap (Z2 9)))=TL ps:=by
 subst h
 simp only [share,RP];rfl
def Zo0 (c : Cut) (ws:List BA) (hlen:ws.length<=1000) (hn1:c.parts.length<=1000000):AF prog 237 [ZX ws,PC c] (· = .tup [TL (Cq c.parts ws).1,Zr (Cq c.parts ws).2]):=by
 refine AF.b2 95 func237 rfl ntmps237 (Xa rfl) fun w0 M0 v0 v1 _ _=>?_
 refine Zi ?_
 refine Z4 3 2 fun h3=>?_;refine JF ?_;refine KG ?_
 refine Zs (YO 200 230 2 rfl) fun _=>?_
 refine Yl (ι:={x:Nat×Value×List Piece//x.1<=ws.length/\Wb c.parts [] ws=Wb c.parts x.2.2 (ws.drop x.1)/\x.2.2.length<=x.1/\(∀p∈x.2.2,p.word.length<=x.1)/\(0<x.1->0<x.2.2.length)}) (fun k=>⟨[(0,_,_),(3,_,_),(6,k.1.2.1, .val k.1.2.1),(7, .int .i64 k.1.1,Zb k.1.1)],[(3,_,_),(200,k.1.2.1, .own 230 2 k.1.2.2.length (k.1.2.2.flatMap (Z2 9)))]⟩) (fun k=>ws.length-k.1.1) ⟨(0, .slice none 0 0,[]),Xg _,rfl,Xd _,(fun p hp=>by cases hp),fun h=>Qe h (Nat.lt_irrefl 0)⟩ ?_
 rintro ⟨⟨k,h6,ps⟩,hk,hgo,hpl,hpw,hpn⟩
 dsimp only
 dsimp only at hk hgo hpl hpw hpn
 refine Zi ?_
 refine xL 10 Za (xL 11 Za (xL 12 (Zu Zo) (xL 13 Yn ?_)));refine ZC ?_ ?_<;>intro hb13
 . (
 obtain ⟨s,hs⟩:=gS ws k;have e1:=Yf (f:=Zx) hs;have hfl:=Z1 (Yw 9) ps;obtain ⟨q,hq⟩:∃q:Piece,0<k->ps[ps.length-1]? =some q:=by
  by_cases h0:0<k
  . obtain ⟨q,hq⟩:=get_some (show ps.length-1<ps.length by have:=hpn h0;omega);exact ⟨q,fun _=>hq⟩
  exact ⟨⟨0,[]⟩,fun h=>Qe h h0⟩
 (have hq0:0<k->(ps.flatMap (Z2 9))[(ps.length-1)*2+0]? =some (Zb q.part):=fun h=>by rw [Yr (Yw 9) (hq h) (j:=0) dC];rfl);(have hns:ws≠[]:=fun e=>by rw [e] at hs;cases hs);refine nav ?_;refine Yx [] [3] ?_<;>(refine yD 0 rfl (Zm 3 Z6) fun v16 h=>?_;cases h)<;>refine gDx 1 ?_<;>refine gEx 2 ?_<;>refine xE 3 rfl (Ze Zo) ?_<;>(refine yE 4 rfl (Zw ZE) fun v20 h=>?_;cases h)<;>(refine ZY 5 kR ?_)<;>(refine Ym (d:=21) rfl (cA call189 (ZdA c s oM)) fun v21 h=>?_;cases h)<;>refine gEx 6 ?_<;>refine Wo ?_;(refine Zp ?_ <;>refine Y8 ?_<;>(refine bLd 24 (fun hb24=>?_) (fun hb24=>?_)<;>refine kZ ?_)<;>refine kZ ?_<;>(first|refine kL ?_|refine xM (Wu 200 WM) ?_)<;>refine kZ ?_<;>(first|refine kL ?_|refine xM (Ov 200 WM) ?_)<;>(first|refine kL ?_|refine xM (Zc 200 G2) ?_)<;>(first|refine kL ?_|refine yV (EE 200 ((ps.length-1)*2+0) Zq (hp:=hq0 oM)) ?_)<;>refine RG ?_)<;>(
 refine Ja (fun x:{x:Value×List Piece×Piece//MetP c.parts ps s k x.2.1 x.2.2}=>⟨[(0,v0,ZX ws),(3,padd (sbase h3) 0, .val (padd (sbase h3) 0)),(6,x.1.1, .val x.1.1),(7, .int .i64 k,Zb k)],[(3,h3, .own 42 2 1 [Zb c.kind,L4 c.parts]),(200,x.1.1, .own 230 2 x.1.2.1.length (x.1.2.1.flatMap (Z2 9)))]⟩) ?_ ?_
 . refine cX ?_ ?_<;>intro hb34
   . (
 refine Zi ?_;(refine Y8 ?_<;>(refine bLd 37 (fun hb37=>?_) (fun hb37=>?_)<;>refine kZ ?_)<;>refine Kg ?_<;>(first|refine kL ?_|(refine bLd 41 (fun hb41=>?_) (fun hb41=>?_)<;>refine kZ ?_))<;>refine kZ ?_<;>(first|refine kL ?_|refine xM (Wu 200 WM) ?_)<;>refine kZ ?_<;>(first|refine kL ?_|refine xM (Ov 200 WM) ?_)<;>(first|refine kL ?_|refine xM (Zc 200 G2) ?_)<;>(first|refine kL ?_|refine yV (EE 200 ((ps.length-1)*2+0) Zq (hp:=hq0 oM)) ?_)<;>refine WF ?_)<;>(
 refine cX ?_ ?_<;>intro hb50
 . first|exact bN hb50|(
 refine ZP ?_;refine YK (PO (t:=4) rfl) fun _=>?_;refine Y3 results237 rfl rfl ?_;rw [show Cq c.parts ws=([],false) by unfold Cq;rw [Qc hns,Zbw hgo hs (ZmC (hq oM) oM oM oM)]];rfl)
 refine Zi ?_;refine xL 51 Za (xL 52 Za (xL 53 (ZA Ht) ?_));refine Wy 54 Rb fun h54 ho54=>?_;refine Y7 200 54 55 Rb fun h55 ho55=>?_;refine ZD ?_
 first
  | (have hXX:0<k:=oM
     have hYY:q.part=partOf c.parts s:=oM;exact Yo ⟨(h6,ps,q),MetP.old (hq hXX) hYY hpl hpw⟩ ⟨rfl,rfl,rfl,rfl,trivial⟩ ⟨rfl,rfl,trivial⟩)
  | (refine ZJ (TQ (l:=55) ((ps.flatMap (Z2 9))++[Zb (partOf c.parts s), .own 9 1 0 []]) rfl (by simp [RS]) (Da _ _ _ _)) fun _=>?_
     refine ZJ (ZK (l:=55) 200 rfl rfl) fun _=>?_;refine ZJ (Wm (l:=200) rfl (show PV.own 230 2 (ps.length+1) ((ps.flatMap (Z2 9))++[Zb (partOf c.parts s), .own 9 1 0 []])=PV.own 230 2 (ps++[(⟨partOf c.parts s,[]⟩:Piece)]).length ((ps++[(⟨partOf c.parts s,[]⟩:Piece)]).flatMap (Z2 9)) by rw [Xe,XR];rfl)) fun _=>?_
     first
      |exact Yo ⟨(h55,ps++[⟨partOf c.parts s,[]⟩],⟨partOf c.parts s,[]⟩),MetP.new (hq oM) oM oM hpl hpw⟩ ⟨rfl,rfl,rfl,rfl,trivial⟩ ⟨rfl,rfl,trivial⟩
      |exact Yo ⟨(h55,ps++[⟨partOf c.parts s,[]⟩],⟨partOf c.parts s,[]⟩),by (obtain rfl:k=0:=by omega);exact MetP.first oM⟩ ⟨rfl,rfl,rfl,rfl,trivial⟩ ⟨rfl,rfl,trivial⟩)))
   . first |exact bN hb34|(
 refine nav ?_
 first
  | (have hXX:0<k:=oM
     have hYY:q.part=partOf c.parts s:=oM;exact Yo ⟨(h6,ps,q),MetP.old (hq hXX) hYY hpl hpw⟩ ⟨rfl,rfl,rfl,rfl,trivial⟩ ⟨rfl,rfl,trivial⟩)
  | (refine ZJ (TQ (l:=55) ((ps.flatMap (Z2 9))++[Zb (partOf c.parts s), .own 9 1 0 []]) rfl (by simp [RS]) (Da _ _ _ _)) fun _=>?_
     refine ZJ (ZK (l:=55) 200 rfl rfl) fun _=>?_;refine ZJ (Wm (l:=200) rfl (show PV.own 230 2 (ps.length+1) ((ps.flatMap (Z2 9))++[Zb (partOf c.parts s), .own 9 1 0 []])=PV.own 230 2 (ps++[(⟨partOf c.parts s,[]⟩:Piece)]).length ((ps++[(⟨partOf c.parts s,[]⟩:Piece)]).flatMap (Z2 9)) by rw [Xe,XR];rfl)) fun _=>?_
     first
      |exact Yo ⟨(h55,ps++[⟨partOf c.parts s,[]⟩],⟨partOf c.parts s,[]⟩),MetP.new (hq oM) oM oM hpl hpw⟩ ⟨rfl,rfl,rfl,rfl,trivial⟩ ⟨rfl,rfl,trivial⟩
      |exact Yo ⟨(h55,ps++[⟨partOf c.parts s,[]⟩],⟨partOf c.parts s,[]⟩),by (obtain rfl:k=0:=by omega);exact MetP.first oM⟩ ⟨rfl,rfl,rfl,rfl,trivial⟩ ⟨rfl,rfl,trivial⟩))
 rintro ⟨⟨h9,ps2,q2⟩,hM⟩;dsimp only at hM ⊢;have hat:=hM.at_;have hl9:=hM.len;have hw9:=hM.word;have hq9:=hw9 q2 (Xb hat);(have hne9:0<ps2.length:=by have:=Zd hat;omega);have hfl2:=Z1 (Yw 9) ps2;have hcell:=Yr (Yw 9) hat (j:=1) dC;refine Zs (T6 (l:=200) (l':=500) (j:=(ps2.length-1)*2+1) rfl hcell rfl rfl) fun v=>?_;obtain ⟨v,hv1⟩:=v;dsimp only;have hc2:((ps2.flatMap (Z2 9)).set ((ps2.length-1)*2+1) (.val v))[(ps2.length-1)*2+1]? =some (.val v):=XK oM;refine Zi ?_;refine xL 56 Za (xL 57 (Wu 200 WM) (xL 58 DV (xL 9 Wj ?_)));refine ZZ ?_;(refine Yx [15] [3,200] ?_<;>refine gDx 0 ?_<;>refine gDx 1 ?_<;>refine gDx 2 ?_<;>refine gDx 3 ?_<;>refine xD 4 rfl (Ov 200 WM) ?_<;>refine xD 5 rfl (Zc 200 Tf) ?_<;>(refine yD 6 rfl (EE 200 ((ps2.length-1)*2+1) ZG (hp:=hc2)) fun v65 h=>?_;cases h)<;>refine gDx 7 ?_<;>refine gEx 8 ?_<;>refine xE 9 rfl (Ze Zo) ?_<;>(refine yE 10 rfl (Zw ZE) fun v69 h=>?_;cases h)<;>(refine aDr 11 fun bk=>?_)<;>refine WE (kk:=1) 70 YX fun h70 ho70=>?_<;>refine bE bk ?_<;>(refine aDr 12 fun bk=>?_)<;>refine Y7 500 70 71 YX (fun h71 ho71=>?_)<;>refine bE bk ?_<;>refine xE 13 rfl (Ov 200 WM) ?_<;>refine xE 14 rfl (Zc 200 Tf) ?_<;>(refine ZY 15 kR ?_)<;>(refine Wx rfl rfl kR fun DQ bk=>?_)<;>(refine L8 200 ((ps2.length-1)*2+1) rfl rfl ZG Dl rfl rfl rfl (by assumption) rfl (by first|rfl|omega) (by rw [Xm,hfl2];omega) ?_)<;>refine WC (bk _ (nav ?_))<;>try dsimp only)
 have hc3:(((ps2.flatMap (Z2 9)).set ((ps2.length-1)*2+1) (.val v)).set ((ps2.length-1)*2+1) (.val h71))[(ps2.length-1)*2+1]? =some (.val h71):=XK (by rw [Xm];omega);refine Zs (To (l:=200) (l':=71) (j:=(ps2.length-1)*2+1) rfl hc3 rfl rfl) fun _=>?_;have hcs:((((ps2.flatMap (Z2 9)).set ((ps2.length-1)*2+1) (.val v)).set ((ps2.length-1)*2+1) (.val h71)).set ((ps2.length-1)*2+1) (.own 9 1 (q2.word.length+1) (q2.word.map Zx++[Zx s])))=(ps2.set (ps2.length-1) ⟨q2.part,q2.word++[s]⟩).flatMap (Z2 9):=by
  rw [X4,X4,S1 (Yw 9) ps2 (ps2.length-1) 1 q2 ⟨q2.part,q2.word++[s]⟩ _ hat dC (by simp [Z2])]
 refine Zs (Wm (l:=200) rfl (show PV.own 230 2 ps2.length ((((ps2.flatMap (Z2 9)).set ((ps2.length-1)*2+1) (.val v)).set ((ps2.length-1)*2+1) (.val h71)).set ((ps2.length-1)*2+1) (.own 9 1 (q2.word.length+1) (q2.word.map Zx++[Zx s])))=PV.own 230 2 (ps2.set (ps2.length-1) ⟨q2.part,q2.word++[s]⟩).length ((ps2.set (ps2.length-1) ⟨q2.part,q2.word++[s]⟩).flatMap (Z2 9)) by rw [hcs,Xm])) fun _=>?_;refine G8 ?_;refine Yk (
  ⟨(k+1,h9,ps2.set (ps2.length-1) ⟨q2.part,q2.word++[s]⟩),by show k+1<=ws.length;omega,Zbv hgo hs hM.step,by show (ps2.set _ _).length<=k+1;rw [Xm];exact hl9,Zgm hat hw9,fun _=>by show 0<(ps2.set _ _).length;rw [Xm];exact hne9⟩
  )))
 (have hfin:Wb c.parts [] ws=some ps:=by rw [hgo,XO oM,Wb]);refine Zi ?_;refine xL 74 Za (xL 75 (Zu Zo) (xL 76 Jb ?_));refine ZC ?_ ?_<;>intro hb76
 . (
 refine Zi ?_;refine xM (ZA Ht) ?_;refine Wy 78 Rb fun h78 ho78=>?_;refine W2 ?_;refine YK (TQ (l:=78) ([(⟨0,[]⟩:Piece)].flatMap (Z2 9)) rfl rfl (fun i p p' h1 h2=>by
  match i with
  |0=>simp [Z2,RS] at h1 h2;exact .inl (h2.symm.trans h1)
  |1=>simp [Z2,RS] at h1 h2;exact .inr ⟨h1.symm,_,_,h2.symm⟩
  |i+2=>simp [Z2] at h2)) fun _=>?_
 refine YK (En.freeze (l:=78) (t:=4) rfl rfl) fun _=>?_;refine Y3 results237 rfl rfl ?_;rw [DR _ _ _ _ (show 1=[(⟨0,[]⟩:Piece)].length from rfl),show Cq c.parts ws=([⟨0,[]⟩],true) by unfold Cq;rw [Qd (Xv oM)]])
 have hn0:0<ps.length:=hpn oM;obtain ⟨p0,hp0⟩:=get_some hn0;obtain ⟨q0,hq0⟩:=gS ps (ps.length-1);(have g0:(ps.flatMap (Z2 9))[0]? =some (Zb p0.part):=by rw [show (0:Nat)=0*2+0 from rfl,Yr (Yw 9) hp0 (j:=0) dC];rfl);(have g1:(ps.flatMap (Z2 9))[(ps.length-1)*2+0]? =some (Zb q0.part):=by rw [Yr (Yw 9) hq0 (j:=0) dC];rfl);have hres:Cq c.parts ws=(ps,decide (p0.part=0)&&decide (q0.part=0)):=by
  unfold Cq;rw [Qc (fun e=>by rw [e] at hk hb76;first|(simp at hb76;done)|(have:=hb76;simp at this)),hfin,<-ZoZ hp0 hq0]
 refine nav ?_;(refine Yx [] [200] ?_<;>refine gDx 0 ?_<;>refine gEx 1 ?_<;>refine xE 2 rfl (Zk 200 WM) ?_<;>refine xE 3 rfl (Zc 200 G2) ?_<;>(refine yE 4 rfl (EE 200 0 Zq (hj:=rfl) (hp:=g0)) fun v83 h=>?_;cases h)<;>refine gEx 5 ?_<;>refine gEx 6 ?_<;>(refine bDd 85 (fun hb85=>?_) (fun hb85=>?_)<;>(first|refine kD 7 ?_|refine gDx 7 ?_))<;>(first|refine kD 8 ?_|refine gDx 8 ?_)<;>(first|refine kD 9 ?_|refine xD 9 rfl (Wu 200 WM) ?_)<;>(first|refine kD 10 ?_|refine gDx 10 ?_)<;>(first|refine kD 11 ?_|refine xD 11 rfl (Ov 200 WM) ?_)<;>(first|refine kD 12 ?_|refine xD 12 rfl (Zc 200 G2) ?_)<;>(first|refine kD 13 ?_|(refine yD 13 rfl (EE 200 ((ps.length-1)*2+0) Zq (hp:=g1)) fun v92 h=>?_;cases h))<;>(first|refine kD 14 ?_|refine gDx 14 ?_)<;>refine gDx 15 ?_<;>refine gEx 16 ?_<;>refine gEx 17 ?_<;>refine Wo ?_)<;>(
 refine YK (En.freeze (l:=200) (t:=4) rfl rfl) fun _=>?_;refine Y3 results237 rfl rfl ?_;rw [DR _ _ _ _ rfl,hres]
 first
  |rw [show decide (p0.part=0)=true from Qa hb85];rfl
  |rw [show decide (p0.part=0)=false from Qb hb85];rfl)
def Zq4 {kind p last:Int} {k:Nat} (h:(kind=2/\p<last)\/(kind=1/\0<k/\p≠last)):JZ kind (decide (k=0)) p last=true:=by
 unfold JZ
 rcases h with ⟨h1,h2⟩|⟨h1,h2,h3⟩
 . rw [h1,Qa h2];rfl
 rw [h1,Qb (show ¬k=0 by omega)];simpa using h3
def Zq5 {kind p last:Int} {k:Nat} (h:¬((kind=2/\p<last)\/(kind=1/\0<k/\p≠last))):JZ kind (decide (k=0)) p last=false:=by
 unfold JZ
 by_cases h1:kind=2
 . subst h1;rw [Qb (show ¬p<last from fun h2=>h (.inl ⟨rfl,h2⟩))];rfl
 by_cases h2:kind=1
 . subst h2;by_cases h3:k=0
   . rw [Qa h3];rfl
   have:p=last:=Decidable.byContradiction fun h4=>h (.inr ⟨rfl,oM,h4⟩);subst this;simp
 rw [show (kind==2)=false by simpa using h1,show (kind==1)=false by simpa using h2];rfl
def Zq6 {ps:List Piece} {n:Nat} (h:n<ps.length):PV.sl (n+1-n) (((ps.flatMap P0).drop (n*2)).take ((n+1-n)*2))=TL ((ps.drop n).take 1):=by
 obtain ⟨q,hq⟩:=get_some h
 rw [show n+1-n=1 by omega,show 1*2=2 from rfl,Y4 Lu ps n q hq,WO hq]
 rfl
structure SplI (c:Cut) (ws:List BA) (k:Nat) (ps:List Piece) (last:Nat):Prop where
 le:k<=ws.length
 go:splitGo c.kind c.parts true 0 (initPs c.parts.length) ws=splitGo c.kind c.parts (decide (k=0)) last ps (ws.drop k)
 len:ps.length=c.parts.length
 word:∀p∈ps,p.word.length<=k
 last:last<c.parts.length
def Zo1 (c : Cut) (ws:List BA) (hin:∀t∈ws,0<=partOf c.parts t) (hlen:ws.length<=1000) (hn0:0<c.parts.length) (hn1:c.parts.length<=1000000):AF prog 190 [ZX ws,PC c] (· = .tup [TL (Ex c ws).1,Zr (Ex c ws).2]):=by
 refine AF.b2 93 func190 rfl ntmps190 (Xa rfl) fun w0 M0 v0 v1 _ _=>?_
 refine Zi ?_
 refine Z4 3 2 fun h3=>?_;refine JF ?_
 refine xM (Zc 3 Ju) ?_;refine yV (Zf 3 Zq) ?_;refine Wg ?_ ?_<;>intro hb13
 . (
 have hk4:c.kind=4:=oM;refine Wp ?_;refine yU (Zm 3 Z6) fun v15=>?_;refine cP 16 (cA call237 (Zo0 c ws hlen hn1)) fun va16 vb16 hva16 hvb16=>?_;cases hvb16;refine LB ?_;refine ZZ ?_;refine Y3 results190 rfl rfl ?_;rw [show Ex c ws=Cq c.parts ws by unfold Ex;rw [Qd hk4]])
 have hk4:c.kind≠4:=oM;refine Jx ?_;refine Zs (YO 200 230 2 rfl) fun _=>?_;refine Yl (ι:={x:Nat×Value//x.1<=c.parts.length}) (fun k=>⟨[(0,_,_),(3,_,_),(6,k.1.2, .val k.1.2),(7, .int .i64 k.1.1,Zb k.1.1)],[(3,_,_),(200,k.1.2, .own 230 2 k.1.1 ((initPs k.1.1).flatMap (Z2 9)))]⟩) (fun k=>c.parts.length-k.1.1) ⟨(0, .slice none 0 0),Xg _⟩ ?_;rintro ⟨⟨k,h6⟩,hk⟩;dsimp only;dsimp only at hk;refine Zi ?_;refine xL 19 Za (xL 20 (Zc 3 KO) ?_);refine yU (Zf 3 JO) fun v21=>?_;refine xL 22 (Zu TA) (xL 23 Yn ?_);refine ZC ?_ ?_<;>intro hb23
 . (
 have hfl:=Z1 (Yw 9) (initPs k);rw [Tq] at hfl;refine Zi ?_;refine xL 26 Za (xL 27 Za (xL 28 (ZA Ht) ?_));refine Wy 29 Rb fun h29 ho29=>?_;refine Y7 200 29 30 Rb fun h30 ho30=>?_;refine KQ ?_;refine ZJ (TQ (l:=30) (((initPs k).flatMap (Z2 9))++[Zb (k:Int), .own 9 1 0 []]) rfl (by simp [RS]) (Da _ _ _ _)) fun _=>?_;refine ZJ (ZK (l:=30) 200 rfl rfl) fun _=>?_;refine ZJ (Wm (l:=200) rfl (show PV.own 230 2 (k+1) (((initPs k).flatMap (Z2 9))++[Zb (k:Int), .own 9 1 0 []])=PV.own 230 2 (k+1) ((initPs (k+1)).flatMap (Z2 9)) by rw [Zef,XR];rfl)) fun _=>?_;refine Yk (
  ⟨(k+1,h30),by show k+1<=c.parts.length;omega⟩
  ))
 obtain rfl:k=c.parts.length:=oM;refine Jx ?_;refine Yl (ι:={x:Nat×List Piece×Nat//SplI c ws x.1 x.2.1 x.2.2}) (fun k=>⟨[(0,_,_),(3,_,_),(6,_,_),(8, .int .i64 k.1.2.2,Zb k.1.2.2),(9, .int .i64 k.1.1,Zb k.1.1)],[(3,_,_),(200,h6, .own 230 2 c.parts.length (k.1.2.1.flatMap (Z2 9)))]⟩) (fun k=>ws.length-k.1.1) ⟨(0,initPs c.parts.length,0),Xg _,rfl,Tq _,fun p hp=>by rw [Cw hp];exact Xd _,hn0⟩ ?_;rintro ⟨⟨k,ps,last⟩,hI⟩;dsimp only;dsimp only at hI;have hk:=hI.le;have hpl:=hI.len;have hla:=hI.last;refine Zi ?_;refine xL 31 Za (xL 32 Za (xL 33 (Zu Zo) (xL 34 Yn ?_)));refine ZC ?_ ?_<;>intro hb34
 . (
 obtain ⟨s,hs⟩:=gS ws k;have e1:=Yf (f:=Zx) hs;have hge0:=hin s (Xb hs);obtain ⟨i,hi⟩:∃i:Nat,partOf c.parts s=i:=⟨(partOf c.parts s).toNat,oM⟩;(have hilt:i<c.parts.length:=by have:=O' c.parts s;omega);obtain ⟨q,hq⟩:=gS ps i;have hqw:q.word.length<=k:=hI.word q (Xb hq);(have hgo2:splitGo c.kind c.parts (decide (k=0)) last ps (ws.drop k)=if JZ c.kind (decide (k=0)) (i:Int) last then none else splitGo c.kind c.parts false (i:Int) (Jz ps i s) (ws.drop (k+1)):=by rw [WO hs,splitGo,hi];rfl);(have hP:AF prog 189 [PC c,Zx s] (· =Zb (i:Int)):=by rw [<-hi];exact ZdA c s oM);refine nav ?_;refine Yx [] [3] ?_<;>(refine yD 0 rfl (Zm 3 Z6) fun v37 h=>?_;cases h)<;>refine gDx 1 ?_<;>refine gEx 2 ?_<;>refine xE 3 rfl (Ze Zo) ?_<;>(refine yE 4 rfl (Zw ZE) fun v41 h=>?_;cases h)<;>(refine ZY 5 kR ?_)<;>(refine Ym (d:=42) rfl (cA call189 hP) fun v42 h=>?_;cases h)<;>refine gEx 6 ?_<;>refine Wo ?_;(refine Zp ?_<;>refine xM (Zc 3 Ju) ?_<;>refine yV (Zf 3 Zq) ?_<;>refine YW ?_<;>(refine bLd 46 (fun hb46=>?_) (fun hb46=>?_)<;>refine kZ ?_)<;>refine kZ ?_<;>refine Kg ?_<;>(first|refine xM (Zc 3 Ju) ?_|(refine bLd 51 (fun hb51=>?_) (fun hb51=>?_)<;>(first|refine kL ?_|refine xM (Zc 3 Ju) ?_)))<;>(first|refine kL ?_|refine yV (Zf 3 Zq) ?_)<;>refine Ky ?_<;>(first|refine kL ?_|(refine bLd 55 (fun hb55=>?_) (fun hb55=>?_)<;>refine kZ ?_))<;>refine Ky ?_<;>refine kZ ?_<;>(first|refine kL ?_|(refine bLd 59 (fun hb59=>?_) (fun hb59=>?_)<;>refine kZ ?_))<;>refine Ky ?_<;>refine WF ?_)<;>(
 refine Ja (fun x:{x:Unit//JZ c.kind (decide (k=0)) (i:Int) last=false}=>⟨[(0,v0,ZX ws),(3,padd (sbase h3) 0, .val (padd (sbase h3) 0)),(6,h6, .val h6),(9, .int .i64 k,Zb k),(10, .int .i64 i,Zb i)],[(3,h3, .own 42 2 1 [Zb c.kind,L4 c.parts]),(200,h6, .own 230 2 c.parts.length (ps.flatMap (Z2 9)))]⟩) ?_ ?_
 . refine cX ?_ ?_<;>intro hb64
   . first|exact bN hb64|(
 refine ZP ?_;refine YK (PO (t:=4) rfl) fun _=>?_;refine Y3 results190 rfl rfl ?_;rw [show Ex c ws=([],false) by unfold Ex;rw [Qc hk4,hI.go,hgo2,Zq4 oM];rfl];rfl)
   . first|exact bN hb64|(
 refine nav ?_;exact Yo ⟨(),Zq5 oM⟩ sB sB)
 rintro ⟨_,hbad⟩;try dsimp only at hbad
 have hfl2:=Z1 (Yw 9) ps;have hcell:=Yr (Yw 9) hq (j:=1) dC;refine ZP ?_;refine Zs (T6 (l:=200) (l':=500) (j:=i*2+1) rfl hcell rfl rfl) fun v=>?_;obtain ⟨v,hv1⟩:=v;dsimp only;have hc2:((ps.flatMap (Z2 9)).set (i*2+1) (.val v))[i*2+1]? =some (.val v):=XK oM;(refine Yx [15] [3,200] ?_<;>refine gDx 0 ?_<;>refine gDx 1 ?_<;>refine gDx 2 ?_<;>refine gDx 3 ?_<;>refine xD 4 rfl (Zk 200 WM) ?_<;>refine xD 5 rfl (Zc 200 Tf) ?_<;>(refine yD 6 rfl (EE 200 (i*2+1) ZG (hp:=hc2)) fun v72 h=>?_;cases h)<;>refine gDx 7 ?_<;>refine gEx 8 ?_<;>refine xE 9 rfl (Ze Zo) ?_<;>(refine yE 10 rfl (Zw ZE) fun v76 h=>?_;cases h)<;>(refine aDr 11 fun bk=>?_)<;>refine WE (kk:=1) 77 YX fun h77 ho77=>?_<;>refine bE bk ?_<;>(refine aDr 12 fun bk=>?_)<;>refine Y7 500 77 78 YX (fun h78 ho78=>?_)<;>refine bE bk ?_<;>refine xE 13 rfl (Zk 200 WM) ?_<;>refine xE 14 rfl (Zc 200 Tf) ?_<;>(refine ZY 15 kR ?_)<;>(refine Wx rfl rfl kR fun DQ bk=>?_)<;>(refine L8 200 (i*2+1) rfl rfl ZG Dl rfl rfl rfl (by assumption) rfl (by first|rfl|omega) (by rw [Xm,hfl2];omega) ?_)<;>refine WC (bk _ (nav ?_))<;>try dsimp only)
 have hc3:(((ps.flatMap (Z2 9)).set (i*2+1) (.val v)).set (i*2+1) (.val h78))[i*2+1]? =some (.val h78):=XK (by rw [Xm];omega);refine Zs (To (l:=200) (l':=78) (j:=i*2+1) rfl hc3 rfl rfl) fun _=>?_;have hcs:((((ps.flatMap (Z2 9)).set (i*2+1) (.val v)).set (i*2+1) (.val h78)).set (i*2+1) (.own 9 1 (q.word.length+1) (q.word.map Zx++[Zx s])))=(Jz ps i s).flatMap (Z2 9):=by
  rw [X4,X4,S1 (Yw 9) ps i 1 q ⟨q.part,q.word++[s]⟩ _ hq dC (by simp [Z2]),Tp hq]
 refine Zs (Wm (l:=200) rfl (show PV.own 230 2 c.parts.length ((((ps.flatMap (Z2 9)).set (i*2+1) (.val v)).set (i*2+1) (.val h78)).set (i*2+1) (.own 9 1 (q.word.length+1) (q.word.map Zx++[Zx s])))=PV.own 230 2 c.parts.length ((Jz ps i s).flatMap (Z2 9)) by rw [hcs])) fun _=>?_;refine G8 ?_;refine Yk (
  ⟨(k+1,Jz ps i s,i),by show k+1<=ws.length;omega,by
    show _=splitGo c.kind c.parts (decide (k+1=0)) (i:Int) (Jz ps i s) (ws.drop (k+1));rw [hI.go,hgo2,hbad,show decide (k+1=0)=false by simp];rfl,by show (Jz ps i s).length=_;rw [EC];exact hpl,by show ∀p∈Jz ps i s,_;rw [Tp hq];exact Zgm hq hI.word,hilt⟩
  )))
 (have hfin:splitGo c.kind c.parts true 0 (initPs c.parts.length) ws=some (ps,(last:Int)):=by rw [hI.go,XO oM,splitGo]);refine Zi ?_;refine xM (Zc 3 Ju) ?_;refine yV (Zf 3 Zq) ?_;refine Wg ?_ ?_<;>intro hb83
 . (
 refine nav ?_;refine Zs (En.freeze (l:=200) (t:=6) rfl rfl) fun _=>?_;rw [DR _ _ _ _ hpl.symm];have hfc:=Z1 Lu ps;have hlp:last<ps.length:=oM;have ePp:TL ps= .sl ps.length (ps.flatMap P0):=rfl;rw [ePp];refine Zp ?_;refine LB ?_;refine xM (Wd (i:=last) (j:=last+1) WM rfl rfl rfl rfl (VM _) oM hfc) ?_;refine xL 89 Za (xL 90 (Zu Zo) (xL 91 G3 (xL 4 Wj (xL 5 Wj ?_))));refine ZZ ?_;refine Y3 results190 rfl rfl ?_;rw [Zq6 hlp,show Ex c ws=((ps.drop last).take 1,decide ((0:Int)<(ws.length:Int))) by unfold Ex;rw [Qc hk4,hfin];dsimp only;rw [Qd oM];rfl])
 refine YQ ?_;refine YK (En.freeze (l:=200) (t:=4) rfl rfl) fun _=>?_;refine Y3 results190 rfl rfl ?_;rw [DR _ _ _ _ hpl.symm,show Ex c ws=(ps,true) by unfold Ex;rw [Qc hk4,hfin];dsimp only;rw [Qc oM]]
def Zbm {w:List BA} {n:Int}:∀{L:List Var} {k:Nat} {x:Var},(∀j y,j<k->L[j]? =some y->cmpStrs y.acts w<0)->L[k]? =some x->cmpStrs x.acts w=0->YS L w n=L.take k++[⟨w,x.count+n⟩]++L.drop (k+1)
 |[],k,x,_,hx,_=>by rw [List.getElem?_nil] at hx;cases hx
 | y::L,0,x,_,hx,he=>by
   rw [U9] at hx;cases hx;rw [YS,Qc oM,Qd he];simp
 | y::L,k+1,x,h1,hx,he=>by
   rw [XV] at hx;rw [YS,Qd (h1 0 y (Vc k) rfl),Zbm (k:=k) (fun j z hj hz=>h1 (j+1) z (Nat.succ_lt_succ hj) (by rw [XV];exact hz)) hx he];simp
def addVar_new {w:List BA} {n:Int}:∀{L:List Var} {k:Nat},(∀j y,j<k->L[j]? =some y->cmpStrs y.acts w<0)->k<=L.length->(∀y,L[k]? =some y->¬cmpStrs y.acts w<0/\cmpStrs y.acts w≠0)->YS L w n=L.take k++[⟨w,n⟩]++L.drop k
 | [],k,_,hk,_=>by
   have h0:k=0:=by have:k<=0:=hk;omega
   subst h0;rfl
 | y::L,0,_,_,h2=>by
   have:=h2 y rfl;rw [YS,Qc this.1,Qc this.2];simp
 | y::L,k+1,h1,hk,h2=>by
   rw [YS,Qd (h1 0 y (Vc k) rfl),addVar_new (k:=k) (fun j z hj hz=>h1 (j+1) z (Nat.succ_lt_succ hj) (by rw [XV];exact hz)) (Nat.le_of_succ_le_succ hk) (fun z hz=>h2 z (by rw [XV];exact hz))];simp
def Zo2 (L:List Var) (w:List BA) (n:Int) (hl:L.length<=1000000000) (hb:∀x∈L,0<=x.count+n/\x.count+n<=4611686018427387904):AF prog 191 [ZV L,ZX w,Zb n] (· = .own 28 2 (YS L w n).length ((YS L w n).flatMap YL)):=by
 have f5:(L.flatMap YL).length=L.length*2:=Z1 ZM L
 refine AF.b3 69 func191 rfl ntmps191 (Xa rfl) ?_
 rintro w0 M0 v0 v1 _- -rfl
 refine Jx ?_
 refine Y0 (ι:={k:Nat//k<=L.length/\∀j x,j<k->L[j]? =some x->cmpStrs x.acts w<0}) (fun k=>⟨[(0,_,_),(1,_,_),(2,_,_),(7, .int .i64 k.1,Zb k.1)],[]⟩) (fun k=>L.length-k.1) ⟨0,Xg _,fun j x h=>Qe h (Vv j)⟩ (fun a w H=>H.weaken sB trivial) ?_
 rintro ⟨k,hk,hkp⟩
 dsimp only
 obtain ⟨x,hx0⟩:∃x,x=L[k]?.getD ⟨w,0⟩:=⟨_,rfl⟩
 have hd:k<L.length->L[k]? =some x:=fun h=>by obtain ⟨y,hy⟩:=get_some h;rw [hx0,hy];rfl
 have e1:k<L.length->(L.flatMap YL)[k*2+0]? =some (ZX x.acts):=fun h=>by rw [Yr ZM (hd h) (j:=0) dC];rfl
 have e2:k<L.length->(L.flatMap YL)[k*2+1]? =some (Zb x.count):=fun h=>by rw [Yr ZM (hd h) (j:=1) dC];rfl
 clear hx0
 refine Zi ?_
 (refine xL 9 Za (xL 10 Za (xL 11 (Zu Zv) (xL 12 Yn (xL 13 Za ?_))))<;>(refine bLd 13 (fun hb13=>?_) (fun hb13=>?_)<;>refine kZ ?_)<;>refine kZ ?_<;>(first|refine kL ?_|refine xM (Ze Zv) ?_)<;>(first|refine kL ?_|refine xM (Yg Z8) ?_)<;>(first|refine kL ?_|refine yU (Zw ZG (hp:=e1 oM)) fun v18=>?_)<;>refine kZ ?_<;>(first|refine kL ?_|(refine cV (cA call89 (D8 x.acts w)) ?_))<;>refine WF ?_)<;>(
 refine cX ?_ ?_<;>intro hb22
 . first|exact bN hb22|(
 refine YQ ?_;refine Zh (
  ⟨k+1,oM,fun j y hj hy=>by
   by_cases e:j=k
   . subst e;rw [hd oM] at hy;cases hy;exact hb22
   . exact hkp j y oM hy⟩
  ) (by dsimp only;omega) sB trivial)
 refine nav ?_;have hnl:∀y,L[k]? =some y->¬cmpStrs y.acts w<0:=fun y hy=>by
  have hlt:=Zd hy;rw [hd hlt] at hy;cases hy
  first
   |exact hb22
   |(exfalso;omega)
 (have f1:(((L.flatMap YL).drop (0*2)).take ((k-0)*2)).length=(k-0)*2:=by rw [Jp ZM,Z1 ZM,XA];omega);(have f2:(((L.flatMap YL).drop (0*2)).take ((k-0)*2)).all En.one=true:=by rw [Jp ZM];exact Ek _);refine Zp ?_;refine T7 25 WI fun h25 ho25=>?_;refine YW ?_;refine xM (Wd (i:=0) (j:=k) Zv rfl rfl rfl rfl (Xg _) hk f5) ?_;refine Ka 25 29 WI (fun h29 ho29=>?_) f1 f2;refine ZW ?_;(refine xL 30 Za (xL 31 Za (xL 32 (Zu Zv) (xL 33 Yn (xL 34 Za ?_))))<;>(refine bLd 34 (fun hb34=>?_) (fun hb34=>?_)<;>refine kZ ?_)<;>refine kZ ?_<;>(first|refine kL ?_|refine xM (Ze Zv) ?_)<;>(first|refine kL ?_|refine xM (Yg Z8) ?_)<;>(first|refine kL ?_|refine yU (Zw ZG (hp:=e1 oM)) fun v39=>?_)<;>refine kZ ?_<;>(first|refine kL ?_|(refine cV (cA call89 (D8 x.acts w)) ?_))<;>refine WF ?_)<;>(
 refine cX ?_ ?_<;>intro hb43
 . first|exact bN hb43|(
 have hkl:k<L.length:=oM;have hx:=hd hkl;have hbx:=hb x (Xb hx);have e3:=e2 hkl;(have f3:(((L.flatMap YL).drop ((k+1)*2)).take ((L.length-(k+1))*2)).length=(L.length-(k+1))*2:=by rw [W0 ZM,Z1 ZM,Vu]);(have f4:(((L.flatMap YL).drop ((k+1)*2)).take ((L.length-(k+1))*2)).all En.one=true:=by rw [W0 ZM];exact Ek _);have r1:=Zbm (n:=n) hkp hx hb43;refine Zi ?_;refine xL 44 Za (xL 45 Za (xL 46 Za (xL 47 Za (xL 48 (Ze Zv) (xL 49 (Yg YH) ?_)))));refine yV (Zw Zq) ?_;refine xL 51 Za (xL 52 Zio (xL 53 (ZA Gj) ?_));refine Wy 54 WI fun h54 ho54=>?_;refine Y7 29 54 55 WI fun h55 ho55=>?_;refine D5 ?_;refine YT ?_;refine Y8 ?_<;>(first|refine xM (Wd (i:=k+1) (j:=L.length) Zv rfl rfl rfl rfl oM (Xd _) f5) ?_|refine xM (Wd (i:=k) (j:=L.length) Zv rfl rfl rfl rfl hk (Xd _) f5) ?_)<;>(first|refine Ka 55 68 WI (fun h68 ho68=>?_) f3 f4|refine Ka 63 68 WI (fun h68 ho68=>?_) f3 f4)<;>refine ZD ?_;refine Gm 68 results191 rfl rfl ?_;rw [r1,Jp ZM,W0 ZM];show PV.own _ _ _ _=PV.own _ _ _ _;congr 1
 . simp;omega
 simp [XR,YL];rfl)
 have hne:∀y,L[k]? =some y->¬cmpStrs y.acts w<0/\cmpStrs y.acts w≠0:=fun y hy=>⟨hnl y hy,fun he=>by
  have hlt:=Zd hy;rw [hd hlt] at hy;cases hy
  first
   |exact hb43 he
   |(exfalso;omega)⟩
 (have f3:(((L.flatMap YL).drop (k*2)).take ((L.length-k)*2)).length=(L.length-k)*2:=by rw [W0 ZM,Z1 ZM,Vu]);(have f4:(((L.flatMap YL).drop (k*2)).take ((L.length-k)*2)).all En.one=true:=by rw [W0 ZM];exact Ek _);have r1:=addVar_new (n:=n) hkp hk hne;refine Zi ?_;refine xL 58 Za (xL 59 Za (xL 60 Za (xL 61 (ZA Gj) ?_)));refine Wy 62 WI fun h62 ho62=>?_;refine Y7 29 62 63 WI fun h63 ho63=>?_;refine ZW ?_;refine Y8 ?_<;>(first|refine xM (Wd (i:=k+1) (j:=L.length) Zv rfl rfl rfl rfl oM (Xd _) f5) ?_|refine xM (Wd (i:=k) (j:=L.length) Zv rfl rfl rfl rfl hk (Xd _) f5) ?_)<;>(first|refine Ka 55 68 WI (fun h68 ho68=>?_) f3 f4|refine Ka 63 68 WI (fun h68 ho68=>?_) f3 f4)<;>refine ZD ?_;refine Gm 68 results191 rfl rfl ?_;rw [r1,Jp ZM,W0 ZM];show PV.own _ _ _ _=PV.own _ _ _ _;congr 1
 . simp;omega
 simp [XR,YL];rfl))
def Zmg:ElT prog 45 22 1 24 (.slice none 0 0):=⟨underlying45,by kernel_rfl,rfl,dC⟩
def Zmh:(prog.info? 22).map (·.size)=some 1:=kR
def AF.shared {P:Program} {f:Nat} {ps:List PV} {p p':PV} (h:AF P f ps (· =p)) (e:share p=p'):AF P f ps (· =p'):=fun M w vs hM hl hv=>
 (h M w vs hM hl hv).mono fun e1 w' ⟨v,q,F,h1,h2,h3,h4,h5,h6⟩=>by
   subst h2 e;refine ⟨v,_,fun _=>False,h1,rfl,h3, .shr (h4.share (M':=fun b=>M b\/False) (fun b _ hb=>?_) fun b hF hb=>?_) (fun _ h=>h),fun b hb=>hb.elim,h6⟩
   . rcases hb with hb|hb
     . exact .inl hb
     exact hb.elim
   rcases hb with hb|hb
   . have h8:=h5 b hF;have h9:=(hM.m b hb).1;exact Qe h9 (Nat.not_lt.2 h8)
   exact hb
def ZcZ {sL hP:List (Nat×Ent)} {l e k n:Nat} {h:Value} {cs:List PV} (cs':List PV) (hl:lk hP l=some (h, .own e k n cs)) (hlen:cs'.length=cs.length) (hc:∀(i:Nat) (p p':PV),cs[i]? =some p->cs'[i]? =some p'->p'=p\/(p= .val (.slice none 0 0)/\p'= .sl 0 [])):Tn (⟨sL,hP⟩:St) (fun _:Unit=>⟨sL,put l (h, .own e k n cs') hP⟩):=fun c a w ⟨F,H⟩=>by
 refine ⟨(),F,?_⟩
 have hTr:=H.tr l _ _ hl
 obtain ⟨xs,Fs,hrow,hxl,hT,hd,hb,hF⟩:=hTr.row
 refine H.retell (fun t=>t=l) (fun t y hnT hy=>?_) (fun t y b hT' hy hb'=>?_) (fun hm t u q hT' hy=>?_) (fun t1 t2 _ _ _ h1 h2 hne=>Qe (h1.trans h2.symm) hne)
 . have n2:t≠l:=hnT;rw [Yy (Ne.symm n2)] at hy;exact ⟨hy,rfl⟩
 . subst hT';exact ⟨t,_,rfl,hl,hb'⟩
 subst hT';rw [Z3] at hy
 cases hy;refine .own xs Fs hrow oM (fun i x p' hx hp'=>?_) (fun i j b hi hj=>hd i j b oM oM) (fun i b hi=>hb i b oM) (fun b=>by rw [hF b,hlen]);obtain ⟨p,hp⟩:=Wc hp' hlen;have hTi:=(hT i x p hx hp).anti hm;rcases hc i p p' hp hp' with rfl|⟨rfl,rfl⟩
 . exact hTi
 have hx0:x= .slice none 0 0:=(hTi.sh rfl).vOf
 cases hTi with
 |shr _ hF=>subst hx0;exact .shr (.emp none 0 (by unfold maxLen;omega) (fun _=>rfl)) hF
def Zq7 {n i:Nat} {p p':PV} (h1:(List.replicate n (PV.val (.slice none 0 0)))[i]? =some p) (h2:((List.replicate n ([]:List Var)).map ZV)[i]? =some p'):p'=p\/(p= .val (.slice none 0 0)/\p'= .sl 0 []):=by
 rw [List.map_replicate] at h2
 exact .inr ⟨VE (Xb h1),VE (Xb h2)⟩
def Zgn (l:List (List Var)):Wi (l.map ZV)=l.map ZV:=by
 rw [YG,XB];rfl
structure SpI (l:List Var) (c:Cut) (k:Nat) (S:List (List Var)):Prop where
 le:k<=l.length
 len:S.length=c.parts.length
 ok:RowsOk (k*1000300) S
 go:splitAll c (List.replicate c.parts.length []) l=splitAll c S (l.drop k)
structure SpJ (c:Cut) (S:List (List Var)) (ps:List Piece) (n:Int) (k j:Nat) (T:List (List Var)):Prop where
 le:j<=ps.length
 len:T.length=c.parts.length
 ok:RowsOk (k*1000300+j) T
 go:ps.foldl (putPiece n) S=(ps.drop j).foldl (putPiece n) T
def SpJ.step {c:Cut} {S T:List (List Var)} {ps:List Piece} {n:Int} {k j:Nat} {p:Piece} {r:List Var} {i:Nat} (h:SpJ c S ps n k j T) (hp:ps[j]? =some p) (hi:p.part=i) (hr:T[i]? =some r) (h0:0<=n) (h1:n<=1048576):SpJ c S ps n k (j+1) (T.set i (YS r p.word n)):=by
 have e:putPiece n T p=T.set i (YS r p.word n):=by
  unfold putPiece;rw [hi,XH,hr]
 refine ⟨Zd hp,by rw [Xm];exact h.len,?_,?_⟩
 . rw [<-e,<-Vy];exact Cy h0 h1 h.ok
 rw [h.go,WO hp,Vq,e]
def Zmi {m n:Nat} {out:List (List Var)} (h:RowsOk m out) (hmn:m<=n):RowsOk n out:=fun r hr=>⟨XI (h r hr).1 hmn,fun x hx=>⟨((h r hr).2 x hx).1,Int.le_trans ((h r hr).2 x hx).2 (U7 (Int.ofNat_le.2 hmn) dC)⟩⟩
def SpJ.done {l:List Var} {c:Cut} {S T:List (List Var)} {ps:List Piece} {k j:Nat} {x:Var} (hI:SpI l c k S) (hx:l[k]? =some x) (hs:Wh c x.acts=some ps) (h:SpJ c S ps x.count k j T) (hj:ps.length<=j) (hn:ps.length<=1000300):SpI l c (k+1) T:=by
 refine ⟨Zd hx,h.len,Zmi h.ok (by have:=h.le;rw [X3];omega),?_⟩
 rw [hI.go,OT hx,hs]
 dsimp only
 rw [h.go,XO hj];rfl
def Zh2 (l : List Var) (c:Cut) (hV:validVars l=true) (hF:Y1 c=true) (hpn:c.parts.length<=1000) (hs:∀p∈c.parts,∀s∈p,s.size<=140737488355328) (hfl:c.parts.flatten.length<=1000000):AF prog 128 [ZV l,PC c] (RSp (KW l c)):=by
 have hok:=TE hV
 have hk300:l.length<=300:=by simp only [validVars,Xf,U'] at hV;exact hV.1
 have hfit:RJ l:=⟨oM,fun x hx=>Px (hok x hx)⟩
 have hAV:AF prog 31 [ZV l] (· =Zr true):=by rw [<-hV];exact G1 l hfit
 have hAF:AF prog 188 [PC c] (· =Zr true):=by rw [<-hF];exact Zk0 c hs hfl oM
 have hkind:=OS hF
 refine AF.b2 142 func128 rfl ntmps128 (Xa rfl) fun w0 M0 v0 v1 _ _=>?_
 refine Zi ?_
 refine Z4 3 2 fun h3=>?_;refine JF ?_
 (refine YU ?_ <;> (refine cV (cA call31 hAV) ?_)<;>refine xL (v:= .bool false) (p:= .val (.bool false)) 18 (HJ (b:=true)) ?_<;>refine YU ?_<;>refine yU (Zm 3 Z6) fun v20=>?_<;>(refine cV (cA call188 hAF) ?_)<;>refine xL (v:= .bool false) (p:= .val (.bool false)) 22 (HJ (b:=true)) ?_<;>refine ZD ?_)<;>(
 refine cX ?_ ?_<;>intro hb23
 . exact bN hb23
 refine ZF ?_;refine Yl (ι:={k:Nat//k<=l.length/\∀(j:Nat) (x:Var),j<k->l[j]? =some x->∀s∈x.acts,0<=partOf c.parts s}) (fun k=>⟨[(0,_,_),(3,_,_),(6, .int .i64 k.1,Zb k.1)],[(3,_,_)]⟩) (fun k=>l.length-k.1) ⟨0,Xg _,fun j x hj=>Qe hj (Vv j)⟩ ?_;rintro ⟨k,hk,hp⟩;dsimp only;refine Zi ?_;refine xL 24 Za (xL 25 Za (xL 26 (Zu Zv) (xL 27 Yn ?_)));refine ZC ?_ ?_<;>intro hb27
 . (
 obtain ⟨x,hx⟩:=gS l k;have hxa:=(O4 (hok x (Xb hx))).2.2;(have e1:(l.flatMap YL)[k*2+0]? =some (ZX x.acts):=by rw [Yr ZM hx (j:=0) dC];rfl);refine ZF ?_;refine Yl (ι:={j:Nat//j<=x.acts.length/\∀s∈x.acts.take j,0<=partOf c.parts s}) (fun k=>⟨[(0,_,_),(3,_,_),(6,_,_),(7, .int .i64 k.1,Zb k.1)],[(3,_,_)]⟩) (fun k=>x.acts.length-k.1) ⟨0,Xg _,fun s hs=>by simp at hs⟩ ?_;rintro ⟨j,hj,hpj⟩;dsimp only;refine Zi ?_;refine xL 30 Za (xL 31 Za (xL 32 Za (xL 33 (Ze Zv) (xL 34 (Yg Z8) ?_))));refine yU (Zw ZG) fun v35=>?_;refine xL 36 (Zu Zo) (xL 37 Yn ?_);refine ZC ?_ ?_<;>intro hb37
 . (
 obtain ⟨s,hs1⟩:=gS x.acts j;have e2:=Yf (f:=Zx) hs1;refine nav ?_;refine Yx [] [3] ?_<;>(refine yD 0 rfl (Zm 3 Z6) fun v40 h=>?_;cases h)<;>refine gDx 1 ?_<;>refine gDx 2 ?_<;>refine xD 3 rfl (Ze Zv) ?_<;>refine xD 4 rfl (Yg Z8) ?_<;>(refine yD 5 rfl (Zw ZG) fun v45 h=>?_;cases h)<;>refine gEx 6 ?_<;>refine xE 7 rfl (Ze Zo) ?_<;>(refine yE 8 rfl (Zw ZE) fun v48 h=>?_;cases h)<;>(refine ZY 9 kR ?_)<;>(refine Ym (d:=49) rfl (cA call189 (ZdA c s oM)) fun v49 h=>?_;cases h)<;>refine gEx 10 ?_<;>refine Wo ?_;refine cX ?_ ?_<;>intro hb50
 . (
 refine ZP ?_;refine YK (PO (t:=4) rfl) fun _=>?_;exact Y3 results128 rfl rfl (TM (ZfV hV hF (ZaT (Xb hx) (Xb hs1) oM))))
 refine YQ ?_;refine Yk (
  ⟨j+1,oM,fun y hy=>by
   rw [ZR hs1] at hy;rcases XD.1 hy with hy|hy
   . exact hpj y hy
   . rw [XE] at hy;subst hy;omega⟩
  ))
 refine YQ ?_;refine Yk (
  ⟨k+1,oM,fun j2 y hj2 hy=>by
   by_cases e:j2=k
   . subst e;rw [hx] at hy;cases hy;exact fun s hs2=>hpj s (by rw [Xs oM];exact hs2)
   . exact hp j2 y oM hy⟩
  ))
 have hP:∀x∈l,∀s∈x.acts,0<=partOf c.parts s:=fun x hx=>by
  obtain ⟨j,hj⟩:=XM hx;exact hp j x (by have:=Zd hj;omega) hj
 have hIn:JB c.parts l=true:=by
  unfold JB;rw [Xj];intro x hx;rw [Xj];exact fun s hs=>Qa (hP x hx s hs)
 refine Zi ?_;refine xM (Zc 3 KO) ?_;refine yU (Zf 3 JO) fun v52=>?_;refine xM (Zu TA) ?_;refine KF 54 Zmg fun h54 ho54=>?_;refine ZD ?_;refine Zs (ZcZ (l:=54) ((List.replicate c.parts.length ([]:List Var)).map ZV) rfl sM (fun i p p' h1 h2=>Zq7 h1 h2)) fun _=>?_;refine Zs (ZK (l:=54) 200 rfl rfl) fun _=>?_;refine Zp ?_;refine ZD ?_;refine Yl (ι:={x:Nat×List (List Var)//SpI l c x.1 x.2}) (fun k=>⟨[(0,_,_),(3,_,_),(8,h54, .val h54),(9, .int .i64 k.1.1,Zb k.1.1)],[(3,_,_),(200,h54, .own 22 1 c.parts.length (k.1.2.map ZV))]⟩) (fun k=>l.length-k.1.1) ⟨(0,List.replicate c.parts.length []),Xg _,sM,by rw [X8];exact ζG _,rfl⟩ ?_;rintro ⟨⟨k,S⟩,hI⟩;dsimp only;dsimp only at hI;have hk:=hI.le;refine Zi ?_;refine xL 55 Za (xL 56 Za (xL 57 (Zu Zv) (xL 58 Yn ?_)));refine ZC ?_ ?_<;>intro hb58
 . (
 obtain ⟨x,hx⟩:=gS l k;(have e3:(l.flatMap YL)[k*2+0]? =some (ZX x.acts):=by rw [Yr ZM hx (j:=0) dC];rfl);(have e4:(l.flatMap YL)[k*2+1]? =some (Zb x.count):=by rw [Yr ZM hx (j:=1) dC];rfl);have hxm:=Xb hx;have hbd:=O4 (hok x hxm);have hA:=Zo1 c x.acts (hP x hxm) oM oM oM;have hsx:=Zq3 c x.acts;obtain ⟨⟨ps,b⟩,hpb⟩:∃y,y=Ex c x.acts:=⟨_,rfl⟩;rw [<-hpb] at hA hsx;dsimp only at hA hsx;refine nav ?_;refine Yx [] [3] ?_<;>refine gDx 0 ?_<;>refine gDx 1 ?_<;>refine xD 2 rfl (Ze Zv) ?_<;>refine xD 3 rfl (Yg Z8) ?_<;>(refine yD 4 rfl (Zw ZG) fun v66 h=>?_;cases h)<;>(refine yE 5 rfl (Zm 3 Z6) fun v67 h=>?_;cases h)<;>(refine ZY 6 kR ?_)<;>(refine Zfi (d:=68) rfl (cA call190 hA) fun v68a v68b hv68a hv68b=>?_;cases hv68a;cases hv68b)<;>refine gEx 7 ?_<;>refine gDx 8 ?_<;>refine gDx 9 ?_<;>refine gEx 10 ?_<;>refine gEx 11 ?_<;>refine Wo ?_;refine Zp ?_;refine Wv ?_ ?_<;>intro hb72
 . (
 have hbf:b=false:=by cases b with|false=>rfl|true=>cases hb72
 refine ZP ?_;refine YK (PO (t:=4) rfl) fun _=>?_;exact Y3 results128 rfl rfl (TM (ZcB hV hF hIn (by rw [hI.go,OT hx,hsx,hbf];rfl))))
 have hbt:b=true:=by cases b with|true=>rfl|false=>cases hb72
 (have hO:Wh c x.acts=some ps:=by rw [hsx,hbt];rfl);have hPS:=ζF oM (hP x hxm) hO;have hPl:=hPS.1;have hcl:=Z1 Lu ps;have ePp:TL ps= .sl ps.length (ps.flatMap P0):=rfl;refine ZF ?_;refine Yl (ι:={y:Nat×List (List Var)//SpJ c S ps x.count k y.1 y.2}) (fun k=>⟨[(0,_,_),(3,_,_),(8,_,_),(9,_,_),(10,_,_),(12, .int .i64 k.1.1,Zb k.1.1)],[(3,_,_),(200,h54, .own 22 1 c.parts.length (k.1.2.map ZV))]⟩) (fun k=>ps.length-k.1.1) ⟨(0,S),Xg _,hI.len,(by show RowsOk (k*1000300+0) S;rw [VO];exact hI.ok),rfl⟩ ?_;rintro ⟨⟨j,T⟩,hJ⟩;dsimp only;dsimp only at hJ;have hj:=hJ.le;refine Zi ?_;refine xL 73 Za (xL 74 Za (xL 75 (Zu WM) (xL 76 Yn ?_)));refine ZC ?_ ?_<;>intro hb76
 . (
 obtain ⟨p,hp1⟩:=gS ps j;have hpp:=hPS.2 p (Xb hp1);obtain ⟨i,hi⟩:∃i:Nat,p.part=i:=⟨p.part.toNat,oM⟩;obtain ⟨r,hr⟩:=get_some (show i<T.length by have:=hJ.len;omega);(have g1:(ps.flatMap P0)[j*2+0]? =some (Zb (i:Int)):=by rw [Yr Lu hp1 (j:=0) dC,<-hi];rfl);(have g2:(ps.flatMap P0)[j*2+1]? =some (ZX p.word):=by rw [Yr Lu hp1 (j:=1) dC];rfl);have g3:=Yf (f:=ZV) hr;have hrok:=hJ.ok r (Xb hr);(have hTl:(T.map ZV).length=c.parts.length:=by rw [Xc];exact hJ.len);have hAd:AF prog 191 [ZV r,ZX p.word,Zb x.count] (· =ZV (YS r p.word x.count)):=AF.shared (Zo2 r p.word x.count (by have:=hrok.1;omega) (fun y hy=>by have:=hrok.2 y hy;omega)) (by simp only [share,OU];rfl);refine nav ?_;(refine Yx [26] [3,200] ?_<;>refine gDx 0 ?_<;>refine gDx 1 ?_<;>refine gDx 2 ?_<;>refine xD 3 rfl (Ze WM) ?_<;>refine xD 4 rfl (Yg G2) ?_<;>(refine yD 5 rfl (Zw Zq) fun v84 h=>?_;cases h)<;>refine gDx 6 ?_<;>refine gDx 7 ?_<;>refine gDx 8 ?_<;>refine xD 9 rfl (Ze WM) ?_<;>refine xD 10 rfl (Yg G2) ?_<;>(refine yD 11 rfl (Zw Zq) fun v90 h=>?_;cases h)<;>refine xD 12 rfl (Zk 200 JX) ?_<;>(refine yD 13 rfl (Zf 200 TF) fun v92 h=>?_;cases h)<;>refine gDx 14 ?_<;>refine gDx 15 ?_<;>refine xD 16 rfl (Ze WM) ?_<;>refine xD 17 rfl (Yg Tf) ?_<;>(refine yD 18 rfl (Zw ZG) fun v97 h=>?_;cases h)<;>refine gDx 19 ?_<;>refine gEx 20 ?_<;>refine xE 21 rfl (Ze Zv) ?_<;>refine xE 22 rfl (Yg YH) ?_<;>(refine yE 23 rfl (Zw Zq) fun v102 h=>?_;cases h)<;>(refine ZY 24 kR ?_)<;>(refine Ym (d:=103) rfl (cA call191 hAd) fun v103 h=>?_;cases h)<;>refine xE 25 rfl (Zk 200 JX) ?_<;>(refine ZY 26 kR ?_)<;>(refine Wx rfl rfl kR fun DQ bk=>?_)<;>refine JY 200 TF Zmh ?_<;>refine WC (bk _ (nav ?_))<;>try dsimp only)
 refine G8 ?_;refine ZJ (Wm (l:=200) rfl (show PV.own 22 1 c.parts.length ((T.map ZV).set (i*1) (ZV (YS r p.word x.count)))=PV.own 22 1 c.parts.length ((T.set i (YS r p.word x.count)).map ZV) by rw [XJ,Uu])) fun _=>?_;refine Yk (
  ⟨(j+1,T.set i (YS r p.word x.count)),hJ.step hp1 hi hr oM oM⟩
  ))
 refine YQ ?_;refine Yk (
  ⟨(k+1,T),SpJ.done hI hx hO hJ oM oM⟩
  ))
 (have hall:splitAll c (List.replicate c.parts.length []) l=some S:=by rw [hI.go,XO oM,splitAll]);have hSl:=hI.len;refine ZF ?_;refine Yl (ι:={y:Nat//y<=c.parts.length/\∀(j:Nat) (r:List Var),j<y->S[j]? =some r->bigVars r=false}) (fun k=>⟨[(0,_,_),(3,_,_),(8,_,_),(13, .int .i64 k.1,Zb k.1)],[(3,_,_),(200,_,_)]⟩) (fun k=>c.parts.length-k.1) ⟨0,Xg _,fun j r hj=>Qe hj (Vv j)⟩ ?_;rintro ⟨a,ha,hba⟩;dsimp only;refine Zi ?_;refine xL 105 Za (xL 106 Za (xL 107 (Wu 200 JX) (xL 108 Yn ?_)));refine ZC ?_ ?_<;>intro hb108
 . (
 obtain ⟨r,hr⟩:=gS S a;have hrl:=(hI.ok r (Xb hr)).1;have f1:=Yf (f:=ZV) hr;refine ZF ?_;refine Yl (ι:={y:Nat//y<=r.length/\∀x∈r.take y,x.count<=1048576}) (fun k=>⟨[(0,_,_),(3,_,_),(8,_,_),(13,_,_),(14, .int .i64 k.1,Zb k.1)],[(3,_,_),(200,_,_)]⟩) (fun k=>r.length-k.1) ⟨0,Xg _,fun s hs=>by simp at hs⟩ ?_;rintro ⟨d,hd,hbd⟩;dsimp only;refine Zi ?_;refine xL 111 Za (xL 112 Za (xL 113 Za (xL 114 (Zk 200 JX) ?_)));refine yU (Zf 200 TF) fun v115=>?_;refine xL 116 (Zu Zv) (xL 117 Yn ?_);refine ZC ?_ ?_<;>intro hb117
 . (
 obtain ⟨x,hx⟩:=gS r d;(have f2:(r.flatMap YL)[d*2+1]? =some (Zb x.count):=by rw [Yr ZM hx (j:=1) dC];rfl);refine Zi ?_;refine xL 120 Za (xL 121 Za (xL 122 (Zk 200 JX) ?_));refine yU (Zf 200 TF) fun v123=>?_;refine xL 124 Za (xL 125 (Ze Zv) (xL 126 (Yg YH) ?_));refine yV (Zw Zq) ?_;refine Wg ?_ ?_<;>intro hb128
 . (
 refine ZP ?_;refine YK (PO (t:=4) rfl) fun _=>?_;exact Y3 results128 rfl rfl (TM (ZfW hV hF hIn hall (ζt hr (by unfold bigVars;exact X2.2 ⟨x,Xb hx,Qa oM⟩)))))
 refine YQ ?_;refine Yk (
  ⟨d+1,oM,fun y hy=>by
   rw [ZR hx] at hy;rcases XD.1 hy with hy|hy
   . exact hbd y hy
   . rw [XE] at hy;subst hy;omega⟩
  ))
 refine YQ ?_;refine Yk (
  ⟨a +1,oM,fun j r2 hj hr2=>by
   by_cases e:j=a
   . subst e;rw [hr] at hr2;cases hr2;unfold bigVars;exact Ux.2 fun x hx=>by have:=hbd x (by rw [Xs oM];exact hx);rw [U'];omega
   . exact hba j r2 oM hr2⟩
  ))
 have hB:S.any bigVars=false:=ZdJ fun i r hr=>hba i r (by have:=Zd hr;omega) hr;refine ZF ?_;refine Yl (ι:={y:Nat//y<=c.parts.length/\∀(j:Nat) (r:List Var),j<y->S[j]? =some r->Kl r=false}) (fun k=>⟨[(0,_,_),(3,_,_),(8,_,_),(15, .int .i64 k.1,Zb k.1)],[(3,_,_),(200,_,_)]⟩) (fun k=>c.parts.length-k.1) ⟨0,Xg _,fun j r hj=>Qe hj (Vv j)⟩ ?_;rintro ⟨a2,ha2,hma⟩;dsimp only;refine Zi ?_;refine xL 129 Za (xL 130 Za (xL 131 (Wu 200 JX) (xL 132 Yn ?_)));refine ZC ?_ ?_<;>intro hb132
 . (
 obtain ⟨r,hr⟩:=gS S a2;have f1:=Yf (f:=ZV) hr;refine Zi ?_;refine xL 135 Za (xL 136 Za (xL 137 (Zk 200 JX) ?_));refine yU (Zf 200 TF) fun v138=>?_;refine xL 139 (Zu Zv) (xL 140 G3 ?_);refine ZC ?_ ?_<;>intro hb140
 . (
 refine ZP ?_;refine YK (PO (t:=4) rfl) fun _=>?_;exact Y3 results128 rfl rfl (TM (ZfX hV hF hIn hall hB (ζt hr (by unfold Kl;exact Qa oM)))))
 refine YQ ?_;refine Yk (
  ⟨a2 +1,oM,fun j r2 hj hr2=>by
   by_cases e:j=a2
   . subst e;rw [hr] at hr2;cases hr2;unfold Kl;exact Qb oM
   . exact hma j r2 oM hr2⟩
  ))
 have hM:S.any Kl=false:=ZdJ fun i r hr=>hma i r (by have:=Zd hr;omega) hr;refine YQ ?_;refine YK (En.freeze (l:=200) (t:=4) rfl rfl) fun _=>?_;refine Y3 results128 rfl rfl ?_;rw [ZfY hV hF hIn hall hB hM,show share (.own 22 1 c.parts.length (S.map ZV))=Zc7 S by simp only [share,Zgn];rw [<-hSl];rfl];rfl)
