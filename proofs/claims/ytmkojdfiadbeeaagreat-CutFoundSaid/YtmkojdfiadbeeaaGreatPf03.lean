/-
  Walks of functions and plain laws of the chapter, as the claim needs them.
-/
import Derived.Maps.Own
import Derived.Maps.OwnOps
import Derived.Maps.OwnSet
import Derived.StringKeys
import Derived.Test.YtmkojdfiadbeeaaGreatPf02
import Derived.Test.YtmkojdfiadbeeaaGreatPf01
namespace Go.Proofs.YtmkojdfiadbeeaaGreat
open Go.RowKit Go.Cb Go.En Tryz
set_option linter.all false
set_option maxRecDepth 100000
theorem KD:AggT prog 136 3=true:=by kernel_rfl
theorem Cj:ElT prog 190 31 1 24 (.slice none 0 0):=⟨underlying190,by kernel_rfl,rfl,dC⟩
theorem Jw:ElT prog 26 9 1 16 (.string ByteArray.empty):=⟨underlying26,by kernel_rfl,rfl,dC⟩
theorem Y':ElT prog 90 3 1 8 (.int .i64 0):=⟨underlying90,by kernel_rfl,rfl,dC⟩
theorem Kd:FldT prog 136 0 0=true:=by kernel_rfl
theorem Ke:FldT prog 136 1 1=true:=by kernel_rfl
theorem DN:FldT prog 136 2 2=true:=by kernel_rfl
theorem Kf:FldT prog 169 0 0=true:=by kernel_rfl
theorem DO:FldT prog 169 1 1=true:=by kernel_rfl
theorem J8:FldT prog 34 0 0=true:=by kernel_rfl
theorem Lq:FldT prog 34 1 1=true:=by kernel_rfl
theorem Lr:FldT prog 34 2 2=true:=by kernel_rfl
theorem KE:FldT prog 34 3 3=true:=by kernel_rfl
theorem WJ:NoAgg prog 31=true:=by kernel_rfl
theorem Jx:NoAgg prog 32=true:=by kernel_rfl
theorem Pf:SlT prog 190 31 1=true:=by kernel_rfl
theorem Gq:SlT prog 32 136 3=true:=by kernel_rfl
theorem Pg:ZeroT prog 136 (.agg #[(.string ByteArray.empty),(.string ByteArray.empty),(.int .i64 0)]):=by unfold ZeroT;kernel_rfl
theorem GV:ZeroT prog 169 (.agg #[(.string ByteArray.empty),(.int .i64 0)]):=by unfold ZeroT;kernel_rfl
def cnames (l:List Cnt):List ByteArray:=l.map (·.name)
def YK (n:Int):Bool:=decide (1≤n)&&decide (n≤4503599627370496)
def Sk (l all:List ByteArray):Bool:=chainB strLt l&&l.all (hasStr all)
def Wk (a b:Flw):Int:=if Ya a.src b.src=0 then Ya a.dst b.dst else Ya a.src b.src
def JQ (acts:List ByteArray) (f:Flw):Bool:=YK f.n&&hasStr acts f.src&&hasStr acts f.dst
def flwLt (a b:Flw):Bool:=decide (Wk a b<0)
def WU (g:Dfg):Bool:=WG (cnames g.acts)&&Sk (cnames g.starts) (cnames g.acts)&&Sk (cnames g.ends) (cnames g.acts)&&g.acts.all (fun c=>YK c.n)&&g.starts.all (fun c=>YK c.n)&&g.ends.all (fun c=>YK c.n)&&g.follows.all (JQ (cnames g.acts))&&chainB flwLt g.follows
def Ck (l:List Cnt):Prop:=l.length≤140737488355328∧∀c∈l,c.name.size≤140737488355328∧-9223372036854775808≤c.n∧c.n≤9223372036854775807
def Ze0 (l:List Flw):Prop:=l.length≤140737488355328∧∀c∈l,c.src.size≤140737488355328∧c.dst.size≤140737488355328∧-9223372036854775808≤c.n∧c.n≤9223372036854775807
def Zcl (g:Dfg):Prop:=Ck g.acts∧Ck g.starts∧Ck g.ends∧Ze0 g.follows
theorem GW (e n:Nat) (l:List ByteArray):share (.own e 1 n (l.map ZS))= .sl n (l.map ZS):=by
 rw [share,ZZ,Xs];rfl
theorem SZ {l:List Cnt} {k:Nat} {x:Cnt} (h:l[k]? =some x):cnames (l.take (k+1))=cnames (l.take k)++[x.name]:=by
 unfold cnames;rw [Z7 h,X1];rfl
theorem Ph (l:List Cnt) (hl0:l.length≤1000000):AF prog 142 [KX l] (· =ZQ (cnames l)):=by
 refine AF.of_body 19 func142 rfl ntmps142 (Xa rfl) ?_
 intro w0 M0 vs hl hv
 obtain ⟨v0,rfl⟩:=WO hl
 clear hl hv
 refine Zd ?_
 (refine xL 2 Zb ?_<;>refine Zh ?_)
 (refine xL 3 Zb ?_<;>refine Zh ?_)
 (refine xL 6 Za (xL 7 (ZF WH) (xL 8 Za ?_))<;>refine Zc ?_)
 refine Zz (Kl 200 9 1 rfl) fun _=>?_
 refine Zw (ι:={x:Nat×Value//x.1≤l.length}) (fun k=>⟨[(6,_,_),(7,_,_),(3,k.1.2, .val k.1.2),(8, .int .i64 k.1.1,Zg k.1.1)],[(200,k.1.2, .own 9 1 k.1.1 ((cnames (l.take k.1.1)).map ZS))]⟩) (fun k=>l.length-k.1.1) ⟨(0, .slice none 0 0),oM⟩ (fun a w H=>H.weaken ⟨rfl,rfl,rfl,rfl,trivial⟩ ⟨rfl,trivial⟩) ?_
 rintro ⟨⟨k,h3⟩,hk⟩
 dsimp only
 dsimp only at hk
 refine Zd ?_
 (refine xL 9 ZN ?_<;>refine Zc ?_)
 refine cX ?_ ?_<;>intro hb9
 · first|exact bN hb9|(
 obtain ⟨x,hx⟩:=Zj (show k<l.length by omega);have e1:=Yp W5 l k x hx;have e2:=YI W5 hx;(have e3:((cnames (l.take k)).map ZS).length=k:=by simp [cnames];omega);refine Zd ?_;(refine xL 10 (Zn WH) ?_<;>(refine yL 11 (Jm Ws) fun v11 h=>?_;cases h)<;>refine ZV [(.string ByteArray.empty),(.int .i64 0)] 2 5 GV fun h5=>?_<;>refine YN 5 Ws ?_<;>refine Zh ?_)
 (refine xL 12 Za (xL 13 (Zm 5 Kf) ?_)<;>(refine yL 14 (Zp 5 ZJ) fun v14 h=>?_;cases h)<;>refine WF (kk:=1) 15 Jw fun h15 ho15=>?_<;>refine Km 200 15 16 Jw fun h16 ho16=>?_<;>refine xL 3 Zb ?_<;>refine Zh ?_)
 (refine xL 17 ZB (xL 8 Za ?_)<;>refine Zc ?_)
 refine Ys (Yb (l:=16) 200 rfl rfl) fun _=>?_;rw [show (cnames (l.take k)).map ZS++[ZS x.name]=(cnames (l.take (k+1))).map ZS by rw [SZ hx,X1];rfl];refine Zf (
  ⟨(k+1,h16),by show k+1≤l.length;omega⟩
  ) (by dsimp only;omega) ⟨rfl,rfl,rfl,rfl,trivial⟩ ⟨rfl,trivial⟩)
 · first|exact bN hb9|(
 refine Zd ?_;(refine xL 18 Za (xL 2 Zb ?_)<;>refine Zc ?_)
 refine Y4 (En.freeze (l:=200) (t:=2) rfl rfl) fun _=>?_;refine Zi (results142) rfl ?_;obtain rfl:k=l.length:=oM;rw [XD,GW];unfold ZQ cnames;rw [Xc])
theorem Pi (l all:List ByteArray):AF prog 143 [ZQ l,ZQ all] (· =Zo (Sk l all)):=by
 refine AF.of_body 32 func143 rfl ntmps143 (Xa rfl) ?_
 intro w0 M0 vs hl hv
 obtain ⟨v0,v1,rfl⟩:=WT hl
 clear hl hv
 refine Y0 0 rfl fun hlen=>?_
 refine Zd ?_
 (refine xL 4 Zb ?_<;>refine Zh ?_)
 (refine xL 7 Za (xL 8 (ZF Zu) (xL 9 Za ?_))<;>refine Zc ?_)
 refine Zw (ι:={k:Nat//k≤l.length∧∀j x,j<k→l[j]? =some x→hasStr all x=true∧∀y,1≤j→l[j-1]? =some y→strLt y x=true}) (fun k=>⟨[(0,_,_),(1,_,_),(7,_,_),(8,_,_),(9, .int .i64 k.1,Zg k.1)],[]⟩) (fun k=>l.length-k.1) ⟨0,oM,oM⟩ (fun a w H=>H.weaken ⟨rfl,rfl,rfl,rfl,rfl,trivial⟩ trivial) ?_
 rintro ⟨k,hk,hp⟩
 dsimp only
 refine Zd ?_
 (refine xL 10 ZN ?_<;>refine Zc ?_)
 refine cX ?_ ?_<;>intro hb10
 · first | exact bN hb10|(
 obtain ⟨x,hx⟩:=Zj (show k<l.length by omega);obtain ⟨y,hy⟩:=Zj (show k-1<l.length by omega);have e1:=Yn (f:=ZS) hx;(have e2:(l.map ZS)[((k:Int)-1).toNat*1]? =some (ZS y):=by rw [show ((k:Int)-1).toNat*1=k-1 by omega];exact (by rw [Xl,hy];rfl));refine Zd ?_;(refine xL 11 Za (xL 12 (Zn Zu) ?_)<;>(refine yL 13 (Zt ZJ) fun v13 h=>?_;cases h)<;>refine xL 5 Zb (xL 6 Zb ?_)<;>refine Zh ?_)
 (refine xL 14 Za (xL 15 Kj (xL 16 Za ?_))<;>(refine bLd 16 (fun hb16=>?_) (fun hb16=>?_)<;>(first|refine kL 17 ?_|refine xL 17 Za ?_))<;>(first|refine kL 18 ?_|refine xL 18 Za ?_)<;>(first|refine kL 19 ?_|refine xL 19 KW ?_)<;>(first|refine kL 20 ?_|refine xL 20 (Tf Zu) ?_)<;>(first|refine kL 21 ?_|(refine yL 21 (Zt ZJ) fun v21 h=>?_;cases h))<;>(first|refine kL 22 ?_|refine xL 22 Za ?_)<;>(first|refine kL 23 ?_|refine xL 23 E8 ?_)<;>refine xL 24 Zv (xL 25 Za ?_)<;>(first|refine xL 26 Za ?_|(refine bL 25 (fun hb25=>?_) (fun hb25=>?_)<;>(first|refine kL 26 ?_|refine xL 26 Za ?_)))<;>(first|refine kL 27 ?_|refine xL 27 Za ?_)<;>(first|refine kL 28 ?_|(refine cS 28 (cA call73 (KQ all x)) fun v28 h=>?_;cases h))<;>(first|refine kL 29 ?_|refine xL 29 Yj ?_)<;>refine xL 30 Zv ?_<;>refine Zc ?_)<;>(
 refine cX ?_ ?_<;>intro hb30
 · first|exact bN hb30|(
 refine Zd ?_;(refine xL 4 Zb ?_<;>refine Zc ?_)
 refine Zi (results143) rfl ?_;unfold Sk
 first
  |rw [Lj oM hy hx (by simpa [strLt] using hb25)];rfl
  |rw [Ln hx (by simpa using hb30)];simp)
 · first |exact bN hb30|(
 refine Zd ?_;(refine xL 31 ZB (xL 9 Za ?_)<;>refine Zc ?_)
 refine Zf (
  ⟨k +1,oM,fun j z hj hz=>by
   by_cases e:j=k
   · subst e;rw [hx] at hz;cases hz;refine ⟨by simpa using hb30,fun y' h1 hy'=>?_⟩;rw [hy] at hy';cases hy'
     first|omega|simpa [strLt] using hb25
   · exact hp j z oM hz⟩
  ) (by dsimp only;omega) ⟨rfl,rfl,rfl,rfl,rfl,trivial⟩ trivial)))
 · first|exact bN hb10|(
 refine Zd ?_;(refine xL 4 Zb ?_<;>refine Zc ?_)
 refine Zi (results143) rfl ?_;have h1:l.all (hasStr all)=true:=DJ fun j x hj=>(hp j x (by have:=Ze hj;omega) hj).1;have h2:chainB strLt l=true:=GI fun j x y h1 hy hx=>(hp j x (by have:=Ze hx;omega) hx).2 y h1 hy;unfold Sk;rw [h1,h2];rfl)
def Wb:List Int→Int
 |[]=>0
 |x::l=>if x=0 then Wb l else x
theorem ZdS (l:List Int):AF prog 141 [pInts l] (· =Zg (Wb l)):=by
 refine AF.of_body 18 func141 rfl ntmps141 (Xa rfl) ?_
 intro w0 M0 vs hl hv
 obtain ⟨v0,rfl⟩:=WO hl
 clear hl hv
 refine Y0 0 rfl fun hlen=>?_
 refine Zd ?_
 (refine xL 2 Zb ?_<;>refine Zh ?_)
 (refine xL 3 Zb ?_<;>refine Zh ?_)
 (refine xL 6 Za (xL 7 (ZF ZE) (xL 8 Za ?_))<;>refine Zc ?_)
 refine Zw (ι:={k:Nat//k≤l.length∧Wb l=Wb (l.drop k)}) (fun k=>⟨[(3,_,_),(6,_,_),(7,_,_),(8, .int .i64 k.1,Zg k.1)],[]⟩) (fun k=>l.length-k.1) ⟨0,oM,rfl⟩ (fun a w H=>H.weaken ⟨rfl,rfl,rfl,rfl,trivial⟩ trivial) ?_
 rintro ⟨k,hk,hp⟩
 dsimp only
 refine Zd ?_
 (refine xL 9 ZN ?_<;>refine Zc ?_)
 refine cX ?_ ?_<;>intro hb9
 · first |exact bN hb9|(
 obtain ⟨x,hx⟩:=Zj (show k<l.length by omega);have e1:=Yn (f:=Zg) hx;(have hs:Wb (l.drop k)=if x=0 then Wb (l.drop (k+1)) else x:=by rw [YZ hx,Wb]);refine Zd ?_;(refine xL 10 (Zn ZE) ?_<;>(refine yL 11 (Zt Zx) fun v11 h=>?_;cases h)<;>refine xL 5 Zb ?_<;>refine Zh ?_)
 (refine xL 12 Za (xL 13 Za (xL 14 Y9 ?_))<;>refine Zc ?_)
 refine cX ?_ ?_<;>intro hb14
 · first|exact bN hb14|(
 refine Zd ?_;(refine xL 15 Za (xL 2 Zb ?_)<;>refine Zc ?_)
 refine Zi (results141) rfl ?_;rw [hp,hs,Uz hb14])
 · first|exact bN hb14|(
 refine Zd ?_;(refine xL 16 ZB (xL 8 Za ?_)<;>refine Zc ?_)
 refine Zf (
  ⟨k+1,oM,by rw [hp,hs,UA (by simpa using hb14)]⟩
  ) (by dsimp only;omega) ⟨rfl,rfl,rfl,rfl,trivial⟩ trivial))
 · first|exact bN hb9|(
 refine Zd ?_;(refine xL 17 Za (xL 2 Zb ?_)<;>refine Zc ?_)
 refine Zi (results141) rfl ?_;rw [hp,XI oM];rfl)
theorem Cl (a b:Flw):AF prog 102 [.agg (Sg a), .agg (Sg b)] (· =Zg (Wk a b)):=by
 refine AF.of_body 17 func102 rfl ntmps102 (Xa rfl) ?_
 intro w0 M0 vs hl hv
 obtain ⟨v0,v1,rfl⟩:=WT hl
 clear hl hv
 refine Zd ?_
 (refine Yr 2 3 fun h2=>?_<;>refine Yr 3 3 fun h3=>?_<;>refine xL 4 Zb ?_<;>refine Zc ?_)
 (refine ZR (fun i=>([]:List Nat).elem i) [2,3] kR ?_<;>refine xD 0 5 rfl (Zm 2 Kd) ?_<;>(refine yD 1 6 rfl (Zp 2 ZJ) fun v6 h=>?_;cases h)<;>refine xD 2 7 rfl (Zm 3 Kd) ?_<;>(refine yD 3 8 rfl (Zp 3 ZJ) fun v8 h=>?_;cases h)<;>refine xD 5 10 rfl (Zm 2 Ke) ?_<;>(refine yD 6 11 rfl (Zp 2 ZJ) fun v11 h=>?_;cases h)<;>refine xD 7 12 rfl (Zm 3 Ke) ?_<;>(refine yD 8 13 rfl (Zp 3 ZJ) fun v13 h=>?_;cases h)<;>(refine Zy 4 kR ?_)<;>(refine ZA rfl fun w9 M9 N9 DQ back=>?_)<;>(refine cS 9 (cA call137 (Lo a.src b.src)) fun v9 h=>?_;cases h)<;>refine Zr (back _ (nrm ?_))<;>(refine Zy 9 kR ?_)<;>(refine ZA rfl fun w9 M9 N9 DQ back=>?_)<;>(refine cS 14 (cA call137 (Lo a.dst b.dst)) fun v14 h=>?_;cases h)<;>refine Zr (back _ (nrm ?_))<;>(refine Zy 10 kR ?_)<;>(refine ZA rfl fun w9 M9 N9 DQ back=>?_)<;>refine E' (xs:=[_,_]) 15 Y' fun h15 ho15=>?_<;>refine Zr (back _ (nrm ?_))<;>(refine Zy 11 kR ?_)<;>(refine ZA rfl fun w9 M9 N9 DQ back=>?_)<;>(refine Yg (En.freeze (l:=15) (t:=15) rfl rfl) fun _=>?_;refine cS 16 (cA call141 (ZdS [Ya a.src b.src,Ya a.dst b.dst])) fun v16 h=>?_;cases h)<;>refine Zr (back _ (nrm ?_))<;>refine xE 12 4 rfl Zb ?_<;>refine YU kR (nav ?_)<;>try dsimp only)
 refine Zi (results102) rfl ?_
 unfold Wk Wb Wb Wb
 by_cases h:Ya a.src b.src=0
 · rw [UA h,UA h];split<;>simp_all
 · rw [Uz h,Uz h]
theorem Pj (n:Int):AF prog 146 [Zg n] (· =Zo (YK n)):=by
 refine AF.of_body 9 func146 rfl ntmps146 (Xa rfl) ?_
 intro w0 M0 vs hl hv
 obtain ⟨v0,rfl⟩:=WO hl
 obtain rfl:=hv 0 _ _ rfl rfl
 clear hl hv
 refine Zd ?_
 (refine xL 2 Zb ?_<;>refine Zh ?_)
 (refine xL 3 Za (xL 4 J6 (xL 5 Za ?_))<;>(refine bLd 5 (fun hb5=>?_) (fun hb5=>?_)<;>(first|refine kL 6 ?_|refine xL 6 Za ?_))<;>(first|refine kL 7 ?_|refine xL 7 OH ?_)<;>refine xL 8 Zv (xL 2 Zb ?_)<;>refine Zc ?_)<;>(
 refine Zi (results146) rfl (TO ?_);simp only [YK,Xd,Uw,true_iff,false_iff,Vu]<;>omega)
theorem Zay (c:Cnt):AF prog 145 [.agg (Sf c)] (· =Zo (!YK c.n)):=by
 refine AF.of_body 7 func145 rfl ntmps145 (Xa rfl) ?_
 intro w0 M0 vs hl hv
 obtain ⟨v0,rfl⟩:=WO hl
 clear hl hv
 refine Zd ?_
 (refine Yr 1 2 fun h1=>?_<;>refine xL 2 Zb ?_<;>refine Zh ?_)
 (refine xL 3 (Zm 1 DO) ?_<;>(refine yL 4 (Zp 1 Zx) fun v4 h=>?_;cases h)<;>(refine cS 5 (cA call146 (Pj c.n)) fun v5 h=>?_;cases h)<;>refine xL 6 Yj (xL 2 Zb ?_)<;>refine Zc ?_)
 exact Zi results145 rfl rfl
theorem Gg {g:Dfg} (h:WG (cnames g.acts)=false∨Sk (cnames g.starts) (cnames g.acts)=false∨Sk (cnames g.ends) (cnames g.acts)=false∨g.acts.all (fun c=>YK c.n)=false∨g.starts.all (fun c=>YK c.n)=false∨g.ends.all (fun c=>YK c.n)=false∨g.follows.all (JQ (cnames g.acts))=false∨chainB flwLt g.follows=false):WU g=false:=by
 unfold WU
 rcases h with h|h|h|h|h|h|h|h<;>rw [h]<;>simp
theorem ζj {α:Type} {p:α→Bool} {l:List α}:(l.any fun c=> !p c)= !l.all p:=by
 induction l with
 |nil=>rfl
 |cons x l ih=>rw [List.any_cons,V7,ih,Bool.not_and]
theorem Zcm (g : Dfg) (hf:Zcl g) (ha:g.acts.length≤1000000) (hs:g.starts.length≤1000000) (he:g.ends.length≤1000000):AF prog 103 [WS g] (· =Zo (WU g)):=by
 refine AF.of_body 87 func103 rfl ntmps103 (Xa rfl) ?_
 intro w0 M0 vs hl hv
 obtain ⟨v0,rfl⟩:=WO hl
 clear hl hv
 refine Zd ?_
 (refine Yr 1 4 fun h1=>?_<;>refine xL 2 Zb ?_<;>refine Zh ?_)
 (refine xL 8 (Zm 1 J8) ?_<;>(refine yL 9 (Zp 1 WJ) fun v9 h=>?_;cases h)<;>(refine cS 10 (cA call142 (Ph g.acts ha)) fun v10 h=>?_;cases h)<;>refine xL 3 Zb ?_<;>refine Zh ?_)
 (refine xL 11 Za ?_<;>(refine cS 12 (cA call86 (Cf (cnames g.acts) (fun s hs=>by obtain ⟨c,hc,rfl⟩:=Xm.1 hs;exact (hf.1.2 c hc).1))) fun v12 h=>?_;cases h)<;>refine xL 13 Yj (xL 14 Za ?_)<;>(refine bL 14 (fun hb14=>?_) (fun hb14=>?_)<;>(first|refine kL 15 ?_|refine xL 15 (Zm 1 Lq) ?_))<;>(first|refine kL 16 ?_|(refine yL 16 (Zp 1 WJ) fun v16 h=>?_;cases h))<;>(first|refine kL 17 ?_|(refine cS 17 (cA call142 (Ph g.starts hs)) fun v17 h=>?_;cases h))<;>(first|refine kL 18 ?_|refine xL 18 Za ?_)<;>(first|refine kL 19 ?_|(refine cS 19 (cA call143 (Pi (cnames g.starts) (cnames g.acts))) fun v19 h=>?_;cases h))<;>(first|refine kL 20 ?_|refine xL 20 Yj ?_)<;>refine xL 21 Zv (xL 22 Za ?_)<;>(first|refine kL 23 ?_|(refine bL 22 (fun hb22=>?_) (fun hb22=>?_)<;>(first|refine kL 23 ?_|refine xL 23 (Zm 1 Lr) ?_)))<;>(first|refine kL 24 ?_|(refine yL 24 (Zp 1 WJ) fun v24 h=>?_;cases h))<;>(first|refine kL 25 ?_|(refine cS 25 (cA call142 (Ph g.ends he)) fun v25 h=>?_;cases h))<;>(first|refine kL 26 ?_|refine xL 26 Za ?_)<;>(first|refine kL 27 ?_|(refine cS 27 (cA call143 (Pi (cnames g.ends) (cnames g.acts))) fun v27 h=>?_;cases h))<;>(first|refine kL 28 ?_|refine xL 28 Yj ?_)<;>refine xL 29 Zv ?_<;>refine Zc ?_)<;>(
 refine cX ?_ ?_<;>intro hb29
 · first|exact bN hb29|(
 refine Zd ?_;(refine xL 2 Zb ?_<;>refine Zc ?_)
 refine Zi (results103) rfl ?_
 first
  |rw [Gg (.inl (by simpa using hb14))]
  |rw [Gg (.inr (.inl (by simpa using hb22)))]
  |rw [Gg (.inr (.inr (.inl (by simpa using hb29))))])
 · first | exact bN hb29|(
 refine Zd ?_;(refine xL 30 (Zm 1 J8) ?_<;>(refine yL 31 (Zp 1 WJ) fun v31 h=>?_;cases h)<;>refine xL 32 (Zm 1 Lq) ?_<;>(refine yL 33 (Zp 1 WJ) fun v33 h=>?_;cases h)<;>refine xL 34 (Zm 1 Lr) ?_<;>(refine yL 35 (Zp 1 WJ) fun v35 h=>?_;cases h)<;>refine E' (xs:=[_,_,_]) 36 Cj fun h36 ho36=>?_<;>refine xL 37 (Wj 36 Pf) (xL 38 Za ?_)<;>refine Zc ?_)
 (have h1:WG (cnames g.acts)=true:=by simpa using hb14);(have h2:Sk (cnames g.starts) (cnames g.acts)=true:=by simpa using hb22);(have h3:Sk (cnames g.ends) (cnames g.acts)=true:=by simpa using hb29);refine Zw (ι:={k:Nat//k≤3∧∀j x,j<k→[g.acts,g.starts,g.ends][j]? =some x→x.all (fun c=>YK c.n)=true}) (fun k=>⟨[(1,_,_),(3,_,_),(36,_,_),(37,_,_),(38, .int .i64 k.1,Zg k.1)],[(1,_,_),(36,_,_)]⟩) (fun k=>3-k.1) ⟨0,oM,oM⟩ (fun a w H=>H.weaken ⟨rfl,rfl,rfl,rfl,rfl,trivial⟩ ⟨rfl,rfl,trivial⟩) ?_;rintro ⟨k,hk,hp⟩;dsimp only;refine Zd ?_;(refine xL 39 ZN ?_<;>refine Zc ?_)
 refine cX ?_ ?_<;>intro hb39
 · first |exact bN hb39|(
 obtain ⟨x,hx⟩:=Zj (l:=[g.acts,g.starts,g.ends]) (i:=k) (by show k<3;omega);have e1:([KX g.acts,KX g.starts,KX g.ends]:List PV)[k*1]? =some (KX x):=Yn (f:=KX) hx;refine Zd ?_;(refine xL 40 (Z4 36 Pf) ?_<;>(refine yL 41 (Zp 36 WJ) fun v41 h=>?_;cases h)<;>refine xL 5 Zb ?_<;>refine Zh ?_)
 (refine xL 42 Za ?_<;>(refine cS 43 (cA call144 (Tc 145 [] (fun c=> !YK c.n) x (call145) (fun c _=>Zay c))) fun v43 h=>?_;cases h)<;>refine Zc ?_)
 refine cX ?_ ?_<;>intro hb43
 · first|exact bN hb43|(
 refine Zd ?_;(refine xL 2 Zb ?_<;>refine Zc ?_)
 refine Zi (results103) rfl ?_;rw [ζj,Vy] at hb43;match k,hk,hx with
 |0,_,hx=>cases hx;rw [Gg (.inr (.inr (.inr (.inl hb43))))]
 |1,_,hx=>cases hx;rw [Gg (.inr (.inr (.inr (.inr (.inl hb43)))))]
 |2,_,hx=>cases hx;rw [Gg (.inr (.inr (.inr (.inr (.inr (.inl hb43))))))]
 |k+3,hk,hx=>omega)
 · first|exact bN hb43|(
 refine Zd ?_;(refine xL 44 ZB (xL 38 Za ?_)<;>refine Zc ?_)
 refine Zf (
  ⟨k+1,oM,fun j z hj hz=>by
   by_cases e:j=k
   · subst e;rw [hx] at hz;cases hz;rw [ζj] at hb43;simpa using hb43
   · exact hp j z oM hz⟩
  ) (by dsimp only;omega) ⟨rfl,rfl,rfl,rfl,rfl,trivial⟩ ⟨rfl,rfl,trivial⟩))
 · first | exact bN hb39|(
 refine Zd ?_;(refine xL 45 (Zm 1 KE) ?_<;>(refine yL 46 (Zp 1 Jx) fun v46 h=>?_;cases h)<;>refine xL 47 (ZF Gq) (xL 48 Za ?_)<;>refine Zc ?_)
 obtain rfl:k=3:=oM;have h4:=hp 0 g.acts oM rfl;have h5:=hp 1 g.starts oM rfl;have h6:=hp 2 g.ends oM rfl;clear hp;refine Zw (ι:={k:Nat//k≤g.follows.length∧∀j x,j<k→g.follows[j]? =some x→JQ (cnames g.acts) x=true∧∀y,1≤j→g.follows[j-1]? =some y→flwLt y x=true}) (fun k=>⟨[(1,_,_),(3,_,_),(46,_,_),(47,_,_),(48, .int .i64 k.1,Zg k.1)],[(1,_,_)]⟩) (fun k=>g.follows.length-k.1) ⟨0,oM,oM⟩ (fun a w H=>H.weaken ⟨rfl,rfl,rfl,rfl,rfl,trivial⟩ ⟨rfl,trivial⟩) ?_;rintro ⟨k,hk,hp⟩;dsimp only;refine Zd ?_;(refine xL 49 ZN ?_<;>refine Zc ?_)
 refine cX ?_ ?_<;>intro hb49
 · first | exact bN hb49|(
 obtain ⟨x,hx⟩:=Zj (show k<g.follows.length by omega);obtain ⟨y,hy⟩:=Zj (show k-1<g.follows.length by omega);have e1:=Yp JP g.follows k x hx;have e2:=YI JP hx;(have e3:((g.follows.flatMap Sg).drop (((k:Int)-1).toNat*3)).take 3=Sg y:=by rw [show ((k:Int)-1).toNat*3=(k-1)*3 by omega];exact Yp JP g.follows (k-1) y hy);have e4:=YI JP hy;have hlf:=hf.2.2.2.1;refine Zd ?_;(refine xL 50 Za (xL 51 (Zn Gq) ?_)<;>(refine yL 52 (Jm KD) fun v52 h=>?_;cases h)<;>refine ZV [(.string ByteArray.empty),(.string ByteArray.empty),(.int .i64 0)] 3 7 Pg fun h7=>?_<;>refine xL 6 Zb ?_<;>refine YN 7 KD ?_<;>refine Zc ?_)
 (refine ZR (fun i=>([]:List Nat).elem i) [1,7] kR ?_<;>refine xE 0 53 rfl (Zm 7 DN) ?_<;>(refine yE 1 54 rfl (Zp 7 Zx) fun v54 h=>?_;cases h)<;>(refine Zy 2 kR ?_)<;>(refine ZA rfl fun w9 M9 N9 DQ back=>?_)<;>(refine cS 55 (cA call146 (Pj x.n)) fun v55 h=>?_;cases h)<;>refine Zr (back _ (nrm ?_))<;>refine xE 3 56 rfl Yj ?_<;>refine xE 4 57 rfl Za ?_<;>(refine bD 57 (fun hb57=>?_) (fun hb57=>?_)<;>(first|refine kD 5 58 rfl ?_|refine xD 5 58 rfl Za ?_))<;>(first|refine kD 6 59 rfl ?_|refine xD 6 59 rfl Kj ?_)<;>(first|refine kD 7 60 rfl ?_|refine xD 7 60 rfl Za ?_)<;>(first|refine kD 8 61 rfl ?_|(refine bDd 60 (fun hb60=>?_) (fun hb60=>?_)<;>(first|refine kD 8 61 rfl ?_|refine xD 8 61 rfl (Zm 1 KE) ?_)))<;>(first|refine kD 9 62 rfl ?_|(refine yD 9 62 rfl (Zp 1 Jx) fun v62 h=>?_;cases h))<;>(first|refine kD 10 63 rfl ?_|refine xD 10 63 rfl Za ?_)<;>(first|refine kD 11 64 rfl ?_|refine xD 11 64 rfl KW ?_)<;>(first|refine kD 12 65 rfl ?_|refine xD 12 65 rfl (Tf Gq) ?_)<;>(first|refine kD 13 66 rfl ?_|(refine yD 13 66 rfl (Jm KD) fun v66 h=>?_;cases h))<;>(first|refine kD 14 67 rfl ?_|(refine yD 14 67 rfl (YG 7 KD) fun v67 h=>?_;cases h))<;>(refine Zy 15 kR ?_)<;>(refine ZA rfl fun w9 M9 N9 DQ back=>?_)<;>(first|refine kL 68 ?_|(refine cS 68 (cA call102 (Cl y x)) fun v68 h=>?_;cases h))<;>refine Zr (back _ (nrm ?_))<;>(first|refine kD 16 69 rfl ?_|refine xD 16 69 rfl J6 ?_)<;>(first|refine kD 17 70 rfl ?_|refine xD 17 70 rfl Zv ?_)<;>refine xE 18 71 rfl Zv ?_<;>refine xE 19 72 rfl Za ?_<;>(first|refine kD 20 73 rfl ?_|refine xD 20 73 rfl Za ?_|(refine bDd 72 (fun hb72=>?_) (fun hb72=>?_)<;>(first|refine kD 20 73 rfl ?_|refine xD 20 73 rfl Za ?_)))<;>(first|refine kD 21 74 rfl ?_|refine xD 21 74 rfl (Zm 7 Kd) ?_)<;>(first|refine kD 22 75 rfl ?_|(refine yD 22 75 rfl (Zp 7 ZJ) fun v75 h=>?_;cases h))<;>(refine Zy 23 kR ?_)<;>(refine ZA rfl fun w9 M9 N9 DQ back=>?_)<;>(first|refine kL 76 ?_|(refine cS 76 (cA call73 (KQ (cnames g.acts) x.src)) fun v76 h=>?_;cases h))<;>refine Zr (back _ (nrm ?_))<;>(first|refine kD 24 77 rfl ?_|refine xD 24 77 rfl Yj ?_)<;>refine xE 25 78 rfl Zv ?_<;>refine xE 26 79 rfl Za ?_<;>(first|refine kD 27 80 rfl ?_|(refine bD 79 (fun hb79=>?_) (fun hb79=>?_)<;>(first|refine kD 27 80 rfl ?_|refine xD 27 80 rfl Za ?_)))<;>(first|refine kD 28 81 rfl ?_|refine xD 28 81 rfl (Zm 7 Ke) ?_)<;>(first|refine kD 29 82 rfl ?_|(refine yD 29 82 rfl (Zp 7 ZJ) fun v82 h=>?_;cases h))<;>(refine Zy 30 kR ?_)<;>(refine ZA rfl fun w9 M9 N9 DQ back=>?_)<;>(first|refine kL 83 ?_|(refine cS 83 (cA call73 (KQ (cnames g.acts) x.dst)) fun v83 h=>?_;cases h))<;>refine Zr (back _ (nrm ?_))<;>(first|refine kD 31 84 rfl ?_|refine xD 31 84 rfl Yj ?_)<;>refine xE 32 85 rfl Zv ?_<;>refine YU kR (nav ?_)<;>try dsimp only)<;>(
 refine cX ?_ ?_<;>intro hb85
 · first|exact bN hb85|(
 refine Zd ?_;(refine xL 2 Zb ?_<;>refine Zc ?_)
 refine Zi (results103) rfl ?_
 first
  |rw [Gg (.inr (.inr (.inr (.inr (.inr (.inr (.inl (Ln hx (show JQ (cnames g.acts) x=false by unfold JQ;rw [show YK x.n=false by simpa using hb57];rfl)))))))))]
  |rw [Gg (.inr (.inr (.inr (.inr (.inr (.inr (.inr (Lj oM hy hx (show flwLt y x=false from Uy oM)))))))))]
  |rw [Gg (.inr (.inr (.inr (.inr (.inr (.inr (.inl (Ln hx (show JQ (cnames g.acts) x=false by unfold JQ;rw [show hasStr (cnames g.acts) x.src=false by simpa using hb79];simp)))))))))]
  |rw [Gg (.inr (.inr (.inr (.inr (.inr (.inr (.inl (Ln hx (show JQ (cnames g.acts) x=false by unfold JQ;rw [show hasStr (cnames g.acts) x.dst=false by simpa using hb85];simp)))))))))])
 · first |exact bN hb85|(
 refine Zd ?_;(refine xL 86 ZB (xL 48 Za ?_)<;>refine Zc ?_)
 refine Zf (
  ⟨k +1,oM,fun j z hj hz=>by
   by_cases e:j=k
   · subst e;rw [hx] at hz;cases hz;refine ⟨by unfold JQ;rw [show YK x.n=true by simpa using hb57,show hasStr (cnames g.acts) x.src=true by simpa using hb79,show hasStr (cnames g.acts) x.dst=true by simpa using hb85];rfl,fun y' h1 hy'=>?_⟩;rw [hy] at hy';cases hy'
     first|omega|exact Ux oM
   · exact hp j z oM hz⟩
  ) (by dsimp only;omega) ⟨rfl,rfl,rfl,rfl,rfl,trivial⟩ ⟨rfl,trivial⟩)))
 · first|exact bN hb49|(
 refine Zd ?_;(refine xL 2 Zb ?_<;>refine Zc ?_)
 refine Zi (results103) rfl ?_;have h7:g.follows.all (JQ (cnames g.acts))=true:=DJ fun j x hj=>(hp j x (by have:=Ze hj;omega) hj).1;have h8:chainB flwLt g.follows=true:=GI fun j x y h1 hy hx=>(hp j x (by have:=Ze hx;omega) hx).2 y h1 hy;unfold WU;rw [h1,h2,h3,h4,h5,h6,h7,h8];rfl))))
end Go.Proofs.YtmkojdfiadbeeaaGreat
namespace Go.Cb
open Go.RowKit
set_option linter.all false
open Go.RowKit Go.WideMaps
structure MapT (P:Program) (t ks e:Nat):Prop where
 ht:P.underlying t=some (.map ks e)
 hk:P.underlying ks=some .string
 he:P.underlying e=some (.int .i64)
 hz:∀w,(zeroValue e).run P w= .ok (.int .i64 0) w
theorem WW {a b:ByteArray}:WA a b=true↔a=b:=by
 unfold WA
 rw [beq_iff_eq,ByteArray.toList_eq,ByteArray.toList_eq]
 exact ⟨fun h=>WideShapes.bytes_inj h,fun h=>by rw [h]⟩
def Ja (parts:List (List ByteArray)):ByteArray→Option Int:=fun s=>(parts.findIdx? fun p=>hasStr p s).map fun (i:Nat)=>(i:Int)
theorem Pk (parts:List (List ByteArray)) (s:ByteArray):(Ja parts s).isSome=hasStr parts.flatten s:=by
 unfold Ja
 rw [Uh,List.findIdx?_isSome]
 unfold hasStr
 induction parts with
 |nil=>rfl
 |cons p ps ih=>rw [List.any_cons,XT,V',ih]
theorem Tn (parts:List (List ByteArray)) (s:ByteArray):partOf parts s=(Ja parts s).getD (-1):=by
 unfold Ja partOf idx
 cases parts.findIdx? fun p=>hasStr p s<;>rfl
theorem Kt (parts:List (List ByteArray)) (s:ByteArray):(Ja parts s).isSome=decide (0≤partOf parts s):=by
 unfold Ja partOf idx
 cases h:parts.findIdx? fun p=>hasStr p s<;>simp
theorem Pm:∀(p seen:List ByteArray),JL seen p=true↔∀k s,p[k]? =some s→hasStr (seen++p.take k) s=false
 |[],seen=>by simp [JL]
 | x ::p,seen=>by
   rw [JL,Xd,Pm p (seen++[x])];constructor
   · rintro ⟨h1,h2⟩ k s hk
     cases k with
     |zero=>simp at hk;subst hk;simpa using h1
     |succ k=>have:=h2 k s (by simpa using hk);simpa using this
   · intro h;refine ⟨by simpa using h 0 x rfl,fun k s hk=>?_⟩;have:=h (k+1) s (by simpa using hk);simpa using this
def Pn (seen p:List ByteArray) (k:Nat) (s:ByteArray):Prop:=hasStr (seen++p.take k) s=false∧isName s=true∧∀y,1≤k→p[k-1]? =some y→strLt y s=true
theorem HL (p seen:List ByteArray):(GJ p&&JL seen p)=true↔p≠[]∧∀k s,p[k]? =some s→Pn seen p k s:=by
 unfold GJ
 simp only [Xd,Pm]
 constructor
 · rintro ⟨⟨⟨h1,h2⟩,h3⟩,h4⟩;refine ⟨by intro h;subst h;simp at h1,fun k s hs=>⟨h4 k s hs,Xf.1 h2 s (Xb hs),fun y hk hy=>?_⟩⟩;exact (WN _ _).1 h3 (k-1) y s hy (by rw [Nat.sub_add_cancel hk];exact hs)
 · rintro ⟨h1,h2⟩;refine ⟨⟨⟨by cases p with|nil=>exact UB rfl h1|cons=>rfl,?_⟩,?_⟩,fun k s hs=>(h2 k s hs).1⟩
   · rw [Xf];intro s hs;obtain ⟨i,hi,rfl⟩:=VD hs;exact (h2 i _ (Xx hi)).2.1
   · exact GI fun j x y h1 hy hx=>(h2 j x hx).2.2 y h1 hy
theorem Po {p seen:List ByteArray} {k:Nat} {s:ByteArray} (hs:p[k]? =some s) (h:¬Pn seen p k s):(GJ p&&JL seen p)=false:=by
 cases hc:(GJ p&&JL seen p)
 · rfl
 · exact UB (((HL p seen).1 hc).2 k s hs) h
theorem TT {α:Type} {l:List α} {i:Nat} {x:α} (h:l[i]? =some x):l.set i x=l:=by
 obtain ⟨hi,rfl⟩:=Xh.1 h
 exact List.set_getElem_self hi
theorem S0 {parts:List (List ByteArray)} {m:Nat}:∀(ws:List ByteArray) (ps:List Piece) (q:Piece),ps[m]? =some q→
 Yw 1 parts false m ps ws=if (ws.any fun s=>partOf parts s !=m) then none else some (ps.set m ⟨q.part,q.word++ws⟩,(m:Int))
 | [],ps,q,h=>by
   rw [Yw,List.any_nil,Uz sM,Xu];rw [show (⟨q.part,q.word⟩:Piece)=q from rfl,TT h]
 | s ::l,ps,q,h=>by
   rw [Yw,List.any_cons];by_cases hp:partOf parts s=(m:Int)
   · have hm:m<ps.length:=(Xh.1 h).1;(have hb:KC 1 false (partOf parts s) (m:Int)=false:=by unfold KC;rw [hp];simp);(have hn:(partOf parts s !=(m:Int))=false:=by rw [hp];simp);rw [hb,hn,hp,Xt,KZ h,Uz sM,S0 l _ ⟨q.part,q.word++[s]⟩ (by rw [Xp hm]),XK];simp
   · (have hn:(partOf parts s !=(m:Int))=true:=by simpa using hp);(have hb:KC 1 false (partOf parts s) (m:Int)=true:=by unfold KC;rw [hn];rfl);rw [hb,hn];rfl
theorem HM {c:Cut} {s:ByteArray} {l:List ByteArray} (hk:c.kind=1) (hs:0≤partOf c.parts s):
 Yq c (s::l)=if ((s::l).any fun t=>partOf c.parts t !=partOf c.parts s) then none else some [⟨partOf c.parts s,s::l⟩]:=by
 obtain ⟨m,hm⟩:∃m:Nat,partOf c.parts s=m:=⟨(partOf c.parts s).toNat,oM⟩
 have hlt:m<c.parts.length:=by have:=Sa c.parts s;omega
 have h0:(YS c.parts.length)[m]? =some ⟨(m:Int),[]⟩:=by simp [YS,hlt]
 unfold Yq
 rw [Uz oM,hk,Yw]
 have hb:KC 1 true (partOf c.parts s) 0=false:=by unfold KC;simp
 rw [hb,Uz sM,hm,Xt,KZ h0,S0 l _ ⟨(m:Int),[]++[s]⟩ (by rw [Xp (by rw [GK];exact hlt)]),List.any_cons,hm]
 rw [show ((m:Int)!=(m:Int))=false by simp,Bool.false_or]
 cases l.any fun t=>partOf c.parts t !=(m:Int)
 · simp only [Vu,if_false,if_true,XK];rw [Uz sM,Xt];congr 1;have hg:((YS c.parts.length).set m ⟨(m:Int),[]++[s]++l⟩)[m]? =some ⟨(m:Int),[]++[s]++l⟩:=by rw [Xp (by rw [GK];exact hlt)]
   rw [YZ hg];rfl
 · rfl
theorem Rw {c:Cut} (hk:c.kind=1):Yq c []=none:=by
 unfold Yq
 rw [Uz oM,hk,Yw]
 rfl
def Yo (ps:List Piece):List Piece:=ps.map fun q=>(⟨0,q.word⟩:Piece)
theorem To (ps:List Piece):(Yo ps).length=ps.length:=by simp [Yo]
theorem Sl {ps:List Piece} {i:Nat} {q:Piece} (h:ps[i]? =some q):(Yo ps)[i]? =some ⟨0,q.word⟩:=by simp [Yo,h]
theorem Tp {ps:List Piece} {i:Nat} {q:Piece} (s:ByteArray) (h:ps[i]? =some q):(Yo ps).set i ⟨0,q.word++[s]⟩=Yo (Wg ps i s):=by
 rw [KZ h]
 unfold Yo
 rw [List.map_set]
theorem HN (n:Nat):Yo (YS n)=List.replicate n ⟨0,[]⟩:=by
 unfold Yo YS
 rw [Xs]
 apply List.ext_getElem
 · simp
 · intro i h1 h2;simp
def InPlace (ps:List Piece):Prop:=∀(i:Nat) (q:Piece),ps[i]? =some q→q.part=(i:Int)
theorem DR (n:Nat):InPlace (YS n):=fun i q h=>by
 obtain ⟨hi,rfl⟩:=Xh.1 h
 simp [YS]
theorem InPlace.add {ps:List Piece} (h:InPlace ps) (i:Nat) (s:ByteArray):InPlace (Wg ps i s):=fun j q hq=>by
 unfold Wg at hq
 split at hq
 · rename_i p hp;by_cases hji:j=i
   · subst hji;have hl:=(Xh.1 hp).1;rw [Xp hl] at hq
     cases hq;exact h j p hp
   · rw [X0 (Ne.symm hji)] at hq;exact h j q hq
 · exact h j q hq
theorem Zaz {ps:List Piece} (h:InPlace ps) {j:Nat} {q:Piece} (hq:ps[j]? =some q):(ps.take j++(Yo ps).drop j).set j ⟨(j:Int),q.word⟩=ps.take (j+1)++(Yo ps).drop (j+1):=by
 have hl:=(Xh.1 hq).1
 have hpt:=h j q hq
 have htl:(ps.take j).length=j:=by simp;omega
 rw [Vh _ _ oM,htl,Vc,YZ (Sl hq),List.set_cons_zero,Z7 hq,XM]
 congr 1
 rw [←hpt]
 rfl
theorem ZdT {ps:List Piece} {j:Nat} {q:Piece} (hq:ps[j]? =some q):(ps.take j++(Yo ps).drop j)[j]? =some ⟨0,q.word⟩:=by
 have hl:=(Xh.1 hq).1
 have htl:(ps.take j).length=j:=by simp;omega
 rw [Vb oM,htl,Vc,YZ (Sl hq)]
 rfl
theorem Zcn (ps:List Piece) (j:Nat) (hj:j≤ps.length):(ps.take j++(Yo ps).drop j).length=ps.length:=by
 rw [Xe,XW,List.length_drop,To];omega
open Go.En
def vec {α:Type} (n:Nat) (f:Nat→α):List α:=(List.range n).map f
theorem WB {α:Type} (n:Nat) (f:Nat→α):(vec n f).length=n:=by simp [vec]
theorem GX {α:Type} {n i:Nat} (f:Nat→α) (h:i<n):(vec n f)[i]? =some (f i):=by simp [vec,h]
theorem ζk {α:Type} {n:Nat} {l:List α} {f:Nat→α} (hl:l.length=n) (h:∀i x,l[i]? =some x→x=f i):l=vec n f:=by
 apply VI
 intro i
 rcases XY i n with hi|hi
 · obtain ⟨x,hx⟩:=Z6 (show i<l.length by omega);rw [hx,GX f hi,h i x hx]
 · rw [X8 oM,X8 (by rw [WB];exact hi)]
theorem Jp {α:Type} {n a:Nat} (f:Nat→α) (b:α):(vec n f).set a b=vec n (fun i=>if i=a then b else f i):=by
 refine ζk (by simp [vec]) fun i x hx=>?_
 have hi:=Ze hx
 rw [Xj,WB] at hi
 rw [List.getElem?_set] at hx
 split at hx
 · rename_i e;subst e;split at hx
   · cases hx;simp
   · cases hx
 · rename_i e;rw [GX f hi] at hx
   cases hx;rw [Uz (fun h=>e h.symm)]
theorem Z3 {α:Type} {n:Nat} {f g:Nat→α} (h:∀i,i<n→f i=g i):vec n f=vec n g:=
 List.map_congr_left fun i hi=>h i (XJ.1 hi)
theorem LU {α:Type} (n:Nat) (x:α):List.replicate n x=vec n (fun _=>x):=by
 refine ζk sM fun i y hy=>?_
 rw [List.getElem?_replicate] at hy
 split at hy
 · cases hy;rfl
 · cases hy
theorem TU {α β:Type} (n:Nat) (f:Nat→α) (g:α→β):(vec n f).map g=vec n (fun i=>g (f i)):=by simp [vec,Function.comp_def]
theorem Zco {α:Type} (n:Nat) (f:Nat→α):vec (n+1) f=vec n f++[f n]:=by simp [vec,List.range_succ]
abbrev YL (n:Nat) (f:Nat→Bool):PV:= .sl n (vec n fun i=>Zo (f i))
abbrev On (n:Nat) (f:Nat→Nat→Bool):PV:= .sl n (vec n fun i=>YL n (f i))
abbrev YA (e n:Nat) (f:Nat→Bool):PV:= .own e 1 n (vec n fun i=>Zo (f i))
abbrev ZdU (e e' n:Nat) (f:Nat→Nat→Bool):PV:= .own e 1 n (vec n fun i=>YA e' n (f i))
theorem Lt (e n:Nat) (f:Nat→Bool):share (YA e n f)=YL n f:=by
 rw [share,ZZ,TU];rfl
theorem OI (e e' n:Nat) (f:Nat→Nat→Bool):share (ZdU e e' n f)=On n f:=by
 rw [share,ZZ,TU]
 show PV.sl n _=PV.sl n _
 congr 1
 exact Z3 fun i _=>Lt e' n (f i)
def Closed (n:Nat) (f T:Nat→Nat→Bool):Prop:=(∀i j,i<n→j<n→f i j=true→T i j=true)∧∀i j k,i<n→j<n→k<n→T i j=true→T j k=true→T i k=true
def war (f:Nat→Nat→Bool):Nat→Nat→Nat→Bool
 |0=>f
 |k+1=>fun i j=>war f k i j||(war f k i k&&war f k k j)
theorem HO (f:Nat→Nat→Bool) (i j:Nat):∀k,f i j=true→war f k i j=true
 |0,h=>h
 |k+1,h=>by simp only [war,X9];exact .inl (HO f i j k h)
theorem ζl (f:Nat→Nat→Bool) (k i:Nat):war f (k+1) i k=war f k i k:=by
 simp only [war];cases war f k i k<;>simp
theorem ζm (f:Nat→Nat→Bool) (k j:Nat):war f (k+1) k j=war f k k j:=by
 simp only [war];cases war f k k j<;>simp
theorem RH (f:Nat→Nat→Bool):∀k m i j,m<k→war f k i m=true→war f k m j=true→war f k i j=true
 |0,m,i,j,hm,_,_=>oM
 | k + 1,m,i,j,hm,h1,h2=>by
   by_cases e:m=k
   · subst e;rw [ζl] at h1;rw [ζm] at h2;simp only [war,h1,h2,Bool.and_self,Bool.or_true]
   · have hm':m<k:=oM;simp only [war,X9,Xd] at h1 h2 ⊢;rcases h1 with h1|⟨h1,h1'⟩
     · rcases h2 with h2|⟨h2,h2'⟩
       · exact .inl (RH f k m i j hm' h1 h2)
       · exact .inr ⟨RH f k m i k hm' h1 h2,h2'⟩
     · rcases h2 with h2|⟨h2,h2'⟩
       · exact .inr ⟨h1,RH f k m k j hm' h1' h2⟩
       · exact .inr ⟨h1,h2'⟩
def ZT (n:Nat) (f:Nat→Nat→Bool):Nat→Nat→Bool:=war f n
theorem Jq (n:Nat) (f:Nat→Nat→Bool):Closed n f (ZT n f):=⟨fun i j _ _ h=>HO f i j n h,fun i j k _ hj _ h1 h2=>RH f n j i k hj h1 h2⟩
def Zf2 (n:Nat) (f:Nat→Bool):Nat:=((List.range n).filter fun i=> !f i).length
def cntM (n:Nat) (f:Nat→Nat→Bool):Nat:=((List.range n).map fun i=>Zf2 n (f i)).sum
end Go.Cb
namespace Go.Proofs.YtmkojdfiadbeeaaGreat
open Go.RowKit Go.Cb Go.En Tryz
set_option linter.all false
set_option maxRecDepth 100000
theorem WK:ElT prog 92 4 1 1 (.bool false):=⟨underlying92,by kernel_rfl,rfl,dC⟩
theorem ZaA:ElT prog 93 92 1 24 (.slice none 0 0):=⟨underlying93,by kernel_rfl,rfl,dC⟩
theorem Yx:FldT prog 95 0 0=true:=by kernel_rfl
theorem YD:FldT prog 95 1 1=true:=by kernel_rfl
theorem W6:FldT prog 95 2 2=true:=by kernel_rfl
theorem W7:FldT prog 95 3 3=true:=by kernel_rfl
theorem ZW:NoAgg prog 4=true:=by kernel_rfl
theorem ZC:NoAgg prog 92=true:=by kernel_rfl
theorem Yy:NoAgg prog 93=true:=by kernel_rfl
theorem ZG:SlT prog 92 4 1=true:=by kernel_rfl
theorem ZX:SlT prog 93 92 1=true:=by kernel_rfl
theorem Jy:KY prog 95=some ((.agg #[(.slice none 0 0),(.slice none 0 0),(.slice none 0 0),(.slice none 0 0)]),([0,1,2,3]:List Nat).map fun o=>(o,1)):=by kernel_rfl
theorem ZaB:(prog.info? 26).map (·.size)=some 1:=by kernel_rfl
theorem TV:(prog.info? 4).map (·.size)=some 1:=by kernel_rfl
theorem ZaC:(prog.info? 92).map (·.size)=some 1:=by kernel_rfl
theorem Zcp {α:Type} {n k:Nat} (p z q:α):((vec n fun i=>if i<k then p else z).set k q).set k p=vec n fun i=>if i<k+1 then p else z:=by
 rw [Jp,Jp]
 refine Z3 fun i hi=>?_
 by_cases e:i=k
 · subst e;rw [UA rfl,UA oM]
 · rw [Uz e,Uz e];by_cases h:i<k
   · rw [UA h,UA oM]
   · rw [Uz h,Uz oM]
theorem Jz (n:Nat) (hn:n≤1000000):AF prog 105 [Zg n] (· =ZdU 92 4 n (fun _ _=>false)):=by
 refine AF.of_body 19 func105 rfl ntmps105 (Xa rfl) ?_
 intro w0 M0 vs hl hv
 obtain ⟨v0,rfl⟩:=WO hl
 obtain rfl:=hv 0 _ _ rfl rfl
 clear hl hv
 refine Zd ?_
 (refine xL 2 Zb ?_<;>refine Zh ?_)
 (refine xL 5 Za ?_<;>refine Ky 6 ZaA fun h6 ho6=>?_<;>refine xL 3 Zb ?_<;>refine Zh ?_)
 (refine xL 7 Za (xL 8 (Wj 6 ZX) (xL 9 Za ?_))<;>refine Zc ?_)
 rw [show List.replicate n (PV.val (.slice none 0 0))=vec n (fun i=>if i<0 then YA 4 n (fun _=>false) else .val (.slice none 0 0)) by rw [LU];exact Z3 fun i _=>by rw [Uz oM]]
 refine Zw (ι:={k:Nat//k≤n}) (fun k=>⟨[(0,_,_),(3,_,_),(8,_,_),(9, .int .i64 k.1,Zg k.1)],[(6,h6, .own 92 1 n (vec n fun i=>if i<k.1 then YA 4 n (fun _=>false) else .val (.slice none 0 0)))]⟩) (fun k=>n-k.1) ⟨0,oM⟩ (fun a w H=>H.weaken ⟨rfl,rfl,rfl,rfl,trivial⟩ ⟨rfl,trivial⟩) ?_
 rintro ⟨k,hk⟩
 dsimp only
 refine Zd ?_
 (refine xL 10 ZN ?_<;>refine Zc ?_)
 refine cX ?_ ?_<;>intro hb10
 · first|exact bN hb10|(
 have hlt:k<n:=oM;have hl0:=WB n (fun i=>if i<k then YA 4 n (fun _=>false) else PV.val (.slice none 0 0));refine Zd ?_;(refine xL 11 Za (xL 4 Zb ?_)<;>refine Zh ?_)
 (refine xL 12 Za (xL 13 Za (xL 14 Za ?_))<;>refine Ky 15 WK fun h15 ho15=>?_<;>refine xL 16 (Z4 6 ZX) ?_<;>refine ZfG 6 k ZC ZaC ?_<;>refine Zh ?_)
 (refine xL 17 ZB (xL 9 Za ?_)<;>refine Zc ?_)
 refine Ys (Jc (l:=6) (l':=15) (j:=k) rfl (Xp (by rw [WB];omega)) rfl rfl) fun _=>?_;rw [show List.replicate n (PV.val (.bool false))=vec n (fun _=>Zo false) from LU _ _,Zcp];refine Zf (
  ⟨k+1,oM⟩
  ) (by dsimp only;omega) ⟨rfl,rfl,rfl,rfl,trivial⟩ ⟨rfl,trivial⟩)
 · first|exact bN hb10|(
 refine Zd ?_;(refine xL 18 Za (xL 2 Zb ?_)<;>refine Zc ?_)
 refine LN 6 (results105) rfl rfl ?_;obtain rfl:k=n:=oM;show PV.own _ _ _ _=PV.own _ _ _ _;congr 1;exact Z3 fun i hi=>by rw [UA hi])
def ixN (l:List ByteArray) (s:ByteArray):Nat:=(idx (fun x=>WA x s) l).toNat
theorem Sm {l:List ByteArray} {s:ByteArray} (h:hasStr l s=true):idx (fun x=>WA x s) l=(ixN l s:Int)∧ixN l s<l.length:=by
 have h1:=Dz (fun x=>WA x s) l
 have h2:0≤idx (fun x=>WA x s) l:=by
  have:=GC (fun x=>WA x s) l;rw [show l.any (fun x=>WA x s)=true from h] at this;exact UC this
 unfold ixN
 omega
theorem ζn (l:List ByteArray) (rest:List PV) (s:ByteArray) (h:hasStr l s=true):AF prog 147 [.sptr 0 (ZQ l::rest),ZS s] (· =Zg (ixN l s:Nat)):=by
 refine AF.of_body 11 func147 rfl ntmps147 (Xa rfl) ?_
 intro w0 M0 vs hl hv
 obtain ⟨v0,v1,rfl⟩:=WT hl
 obtain rfl:=hv 1 _ _ rfl rfl
 clear hl hv
 refine Zd ?_
 (refine xL 4 Zb ?_<;>refine Zh ?_)
 (refine xL 5 Za (xL 6 Yc (xL 7 (Ye Yx) ?_))<;>(refine yL 8 (Zt ZL) fun v8 h=>?_;cases h)<;>refine xL 9 Za ?_<;>(refine cS 10 (cA call116 (SY l s)) fun v10 h=>?_;cases h)<;>refine xL 4 Zb ?_<;>refine Zc ?_)
 refine Zi (results147) rfl ?_
 rw [(Sm h).1]
def KR (acts:List ByteArray) (l:List Flw) (i j:Nat):Bool:=l.any fun f=>ixN acts f.src==i&&ixN acts f.dst==j
def Wn (acts:List ByteArray) (l:List Cnt) (i:Nat):Bool:=l.any fun c=>ixN acts c.name==i
theorem Cm {acts:List ByteArray} {l:List Flw} {k:Nat} {f:Flw} (h:l[k]? =some f) (i j:Nat):KR acts (l.take (k+1)) i j=(KR acts (l.take k) i j||(ixN acts f.src==i&&ixN acts f.dst==j)):=by
 unfold KR;rw [Z7 h,V'];simp
theorem Cn {acts:List ByteArray} {l:List Cnt} {k:Nat} {c:Cnt} (h:l[k]? =some c) (i:Nat):Wn acts (l.take (k+1)) i=(Wn acts (l.take k) i||(ixN acts c.name==i)):=by
 unfold Wn;rw [Z7 h,V'];simp
theorem ZaD {acts:List ByteArray} {l:List Flw} {k:Nat} {f:Flw} (h:l[k]? =some f) (i j:Nat):KR acts (l.take (k+1)) i j=if i=ixN acts f.src then (if j=ixN acts f.dst then true else KR acts (l.take k) (ixN acts f.src) j) else KR acts (l.take k) i j:=by
 rw [Cm h]
 generalize ixN acts f.src=a
 generalize ixN acts f.dst=b
 by_cases h1:i=a
 · subst h1;rw [UA rfl];by_cases h2:j=b
   · subst h2;simp
   · rw [Uz h2,show (b==j)=false from beq_eq_false_iff_ne.2 (Ne.symm h2)];simp
 · rw [Uz h1,show (a==i)=false from beq_eq_false_iff_ne.2 (Ne.symm h1)];simp
theorem OJ {acts:List ByteArray} {l:List Cnt} {k:Nat} {c:Cnt} (h:l[k]? =some c) (i:Nat):Wn acts (l.take (k+1)) i=if i=ixN acts c.name then true else Wn acts (l.take k) i:=by
 rw [Cn h]
 generalize ixN acts c.name=a
 by_cases h1:i=a
 · subst h1;simp
 · rw [Uz h1,show (a==i)=false from beq_eq_false_iff_ne.2 (Ne.symm h1)];simp
def ZfH (g:Dfg):List PV:=[ZQ (cnames g.acts),On g.acts.length (KR (cnames g.acts) g.follows),YL g.acts.length (Wn (cnames g.acts) g.starts),YL g.acts.length (Wn (cnames g.acts) g.ends)]
def ZdV (g:Dfg):PV:= .sptr 0 (ZfH g)
theorem LV {g:Dfg} (h:WU g=true):(cnames g.acts).length≤40∧(∀c∈g.starts,hasStr (cnames g.acts) c.name=true)∧(∀c∈g.ends,hasStr (cnames g.acts) c.name=true)∧(∀f∈g.follows,hasStr (cnames g.acts) f.src=true∧hasStr (cnames g.acts) f.dst=true):=by
 unfold WU WG Sk at h
 simp only [Xd,Xf,Uw] at h
 obtain ⟨⟨⟨⟨⟨⟨⟨h1,h2⟩,h3⟩,h4⟩,h5⟩,h6⟩,h7⟩,h8⟩:=h
 refine ⟨h1.1.1,fun c hc=>h2.2 _ (Xm.2 ⟨c,hc,rfl⟩),fun c hc=>h3.2 _ (Xm.2 ⟨c,hc,rfl⟩),fun f hf=>?_⟩
 have:=h7 f hf
 unfold JQ at this
 simp only [Xd] at this
 exact ⟨this.1.2,this.2⟩
theorem Zcq {e e' n a b:Nat} {f f':Nat→Nat→Bool} (hf:∀i j,i<n→j<n→f' i j=if i=a then (if j=b then true else f a j) else f i j):(vec n fun i=>YA e' n (f i)).set a (.own e' 1 n ((vec n fun j=>Zo (f a j)).set (b*1) (Zo true)))=vec n fun i=>YA e' n (f' i):=by
 rw [XL,Jp,Jp]
 refine Z3 fun i hi=>?_
 by_cases h:i=a
 · subst h;rw [UA rfl];show PV.own _ _ _ _=PV.own _ _ _ _;congr 1;refine Z3 fun j hj=>?_;rw [hf i j hi hj,UA rfl];split<;>rfl
 · rw [Uz h];show PV.own _ _ _ _=PV.own _ _ _ _;congr 1;refine Z3 fun j hj=>?_;rw [hf i j hi hj,Uz h]
theorem Pp {n a:Nat} {f f':Nat→Bool} (hf:∀i,i<n→f' i=if i=a then true else f i):(vec n fun i=>Zo (f i)).set (a*1) (Zo true)=vec n fun i=>Zo (f' i):=by
 rw [XL,Jp]
 refine Z3 fun i hi=>?_
 rw [hf i hi];split<;>rfl
theorem LW {sL hP:List (Nat×Ent)} {l e k e' n:Nat} {h:Value} {acts:List ByteArray} {rest:List PV} (hl:lk hP l=some (h, .own e k 1 (.own e' 1 n (acts.map ZS)::rest))) (hn:n=acts.length):Td (⟨sL,hP⟩:St) (ZH (Zs h) 0) (.sptr 0 (ZQ acts::Yf rest)):=by
 have:=OB (sL:=sL) (j:=0) hl X3
 rw [Yf,GW,hn] at this
 exact this
theorem DT {n i:Nat} {e:Nat} (f:Nat→Nat→Bool) (h:i<n):(vec n fun i=>YA e n (f i))[i]? =some (YA e n (f i)):=GX _ h
theorem ζo {Hs:List Value} {i:Nat} {v:Value} (h:Hs[i]? =some v):(Hs.map PV.val)[i*1]? =some (.val v):=by rw [XL,Xl,h];rfl
set_option maxHeartbeats 1000000 in
theorem ZfI (g : Dfg) (hg:WU g=true) (hfl:g.follows.length≤140737488355328) (hsl:g.starts.length≤140737488355328) (hel:g.ends.length≤140737488355328):AF prog 104 [WS g] (· =ZdV g):=by
 obtain ⟨hn40,hst,hen,hfo⟩:=LV hg
 have hna:(cnames g.acts).length=g.acts.length:=by simp [cnames]
 refine AF.of_body 101 func104 rfl ntmps104 (Xa rfl) ?_
 intro w0 M0 vs hl hv
 obtain ⟨v0,rfl⟩:=WO hl
 clear hl hv
 refine Zd ?_
 (refine Yr 1 4 fun h1=>?_<;>refine xL 2 Zb ?_<;>refine Zh ?_)
 (refine xL 13 (Zm 1 J8) ?_<;>(refine yL 14 (Zp 1 WJ) fun v14 h=>?_;cases h)<;>refine xL 15 (ZF WH) (xL 3 Zb ?_)<;>refine Zc ?_)
 refine R2 (fun x:{x:Value×Value×Value×Value×Value//x.2.2.2.2.oneCell'=true}=>⟨[(1,ZH (Zs h1) 0, .val (ZH (Zs h1) 0)),(4,ZH (Zs x.1.1) 0, .val (ZH (Zs x.1.1) 0))],[(1,h1, .own 34 4 1 [KX g.acts,KX g.starts,KX g.ends,ζi g.follows]),(23,x.1.1, .own 95 4 1 [.val (.slice none 0 0), .val x.1.2.1, .val x.1.2.2.1, .val x.1.2.2.2.1]),(17,x.1.2.1,ZdU 92 4 g.acts.length (fun _ _=>false)),(19,x.1.2.2.1, .own 4 1 g.acts.length (List.replicate g.acts.length (.val (.bool false)))),(21,x.1.2.2.2.1, .own 4 1 g.acts.length (List.replicate g.acts.length (.val (.bool false))))]⟩) ?_ ?_
 · (refine ZR (fun i=>([]:List Nat).elem i) [] kR ?_<;>refine xD 0 16 rfl Za ?_<;>refine xD 2 18 rfl Za ?_<;>refine xD 4 20 rfl Za ?_<;>(refine Zcj 1 3 5 kR ?_ ?_ ?_;rotate_right;(focus ((refine ZA rfl fun w9 M9 N9 DQ back=>?_)<;>refine Ky 21 WK fun h21 ho21=>?_<;>refine Zr (back _ (nrm ?_))<;>(refine Tm 1 3 kR ?_ ?_;rotate_right;(focus ((refine ZA rfl fun w9 M9 N9 DQ back=>?_)<;>refine Ky 19 WK fun h19 ho19=>?_<;>refine Zr (back _ (nrm ?_))<;>(refine Zy 1 kR ?_)<;>(refine ZA rfl fun w9 M9 N9 DQ back=>?_)<;>refine cO 17 (cA call105 (Jz g.acts.length oM)) fun v17 ho17=>?_<;>refine Zr (back _ (nrm ?_))<;>refine xE 6 22 rfl (Yt Jy) ?_<;>(refine Zy 7 kR ?_)<;>(refine ZA rfl fun w9 M9 N9 DQ back=>?_)<;>refine Yr 23 4 fun h23=>?_<;>refine Zr (back _ (nrm ?_))<;>refine xE 8 4 rfl Zb ?_));rotate_right;(focus ((refine ZA rfl fun w9 M9 N9 DQ back=>?_)<;>refine cO 17 (cA call105 (Jz g.acts.length oM)) fun v17 ho17=>?_<;>refine Zr (back _ (nrm ?_))<;>(refine Zy 3 kR ?_)<;>(refine ZA rfl fun w9 M9 N9 DQ back=>?_)<;>refine Ky 19 WK fun h19 ho19=>?_<;>refine Zr (back _ (nrm ?_))<;>refine xE 6 22 rfl (Yt Jy) ?_<;>(refine Zy 7 kR ?_)<;>(refine ZA rfl fun w9 M9 N9 DQ back=>?_)<;>refine Yr 23 4 fun h23=>?_<;>refine Zr (back _ (nrm ?_))<;>refine xE 8 4 rfl Zb ?_)))));rotate_right;(focus ((refine ZA rfl fun w9 M9 N9 DQ back=>?_)<;>refine Ky 19 WK fun h19 ho19=>?_<;>refine Zr (back _ (nrm ?_))<;>(refine Tm 1 5 kR ?_ ?_;rotate_right;(focus ((refine ZA rfl fun w9 M9 N9 DQ back=>?_)<;>refine Ky 21 WK fun h21 ho21=>?_<;>refine Zr (back _ (nrm ?_))<;>(refine Zy 1 kR ?_)<;>(refine ZA rfl fun w9 M9 N9 DQ back=>?_)<;>refine cO 17 (cA call105 (Jz g.acts.length oM)) fun v17 ho17=>?_<;>refine Zr (back _ (nrm ?_))<;>refine xE 6 22 rfl (Yt Jy) ?_<;>(refine Zy 7 kR ?_)<;>(refine ZA rfl fun w9 M9 N9 DQ back=>?_)<;>refine Yr 23 4 fun h23=>?_<;>refine Zr (back _ (nrm ?_))<;>refine xE 8 4 rfl Zb ?_));rotate_right;(focus ((refine ZA rfl fun w9 M9 N9 DQ back=>?_)<;>refine cO 17 (cA call105 (Jz g.acts.length oM)) fun v17 ho17=>?_<;>refine Zr (back _ (nrm ?_))<;>(refine Zy 5 kR ?_)<;>(refine ZA rfl fun w9 M9 N9 DQ back=>?_)<;>refine Ky 21 WK fun h21 ho21=>?_<;>refine Zr (back _ (nrm ?_))<;>refine xE 6 22 rfl (Yt Jy) ?_<;>(refine Zy 7 kR ?_)<;>(refine ZA rfl fun w9 M9 N9 DQ back=>?_)<;>refine Yr 23 4 fun h23=>?_<;>refine Zr (back _ (nrm ?_))<;>refine xE 8 4 rfl Zb ?_)))));rotate_right;(focus ((refine ZA rfl fun w9 M9 N9 DQ back=>?_)<;>refine cO 17 (cA call105 (Jz g.acts.length oM)) fun v17 ho17=>?_<;>refine Zr (back _ (nrm ?_))<;>(refine Tm 3 5 kR ?_ ?_;rotate_right;(focus ((refine ZA rfl fun w9 M9 N9 DQ back=>?_)<;>refine Ky 21 WK fun h21 ho21=>?_<;>refine Zr (back _ (nrm ?_))<;>(refine Zy 3 kR ?_)<;>(refine ZA rfl fun w9 M9 N9 DQ back=>?_)<;>refine Ky 19 WK fun h19 ho19=>?_<;>refine Zr (back _ (nrm ?_))<;>refine xE 6 22 rfl (Yt Jy) ?_<;>(refine Zy 7 kR ?_)<;>(refine ZA rfl fun w9 M9 N9 DQ back=>?_)<;>refine Yr 23 4 fun h23=>?_<;>refine Zr (back _ (nrm ?_))<;>refine xE 8 4 rfl Zb ?_));rotate_right;(focus ((refine ZA rfl fun w9 M9 N9 DQ back=>?_)<;>refine Ky 19 WK fun h19 ho19=>?_<;>refine Zr (back _ (nrm ?_))<;>(refine Zy 5 kR ?_)<;>(refine ZA rfl fun w9 M9 N9 DQ back=>?_)<;>refine Ky 21 WK fun h21 ho21=>?_<;>refine Zr (back _ (nrm ?_))<;>refine xE 6 22 rfl (Yt Jy) ?_<;>(refine Zy 7 kR ?_)<;>(refine ZA rfl fun w9 M9 N9 DQ back=>?_)<;>refine Yr 23 4 fun h23=>?_<;>refine Zr (back _ (nrm ?_))<;>refine xE 8 4 rfl Zb ?_))))))<;>refine YU kR (nav ?_)<;>try dsimp only)<;>(
 exact DG ⟨(h23,v17,h19,h21, .bool true),rfl⟩ ⟨rfl,rfl,trivial⟩ ⟨rfl,rfl,rfl,rfl,rfl,trivial⟩)
 · rintro ⟨⟨h23, h17,h19,h21,_⟩,_⟩;dsimp only;refine Zd ?_;(refine xL 24 (Zm 1 J8) ?_<;>(refine yL 25 (Zp 1 WJ) fun v25 h=>?_;cases h)<;>refine xL 26 (ZF WH) (xL 27 Za ?_)<;>refine Zc ?_)
   refine Zz (Kl 200 9 1 rfl) fun _=>?_;refine Zw (ι:={x:Nat×Value//x.1≤g.acts.length}) (fun k=>⟨[(1,_,_),(4,_,_),(25,_,_),(26,_,_),(27, .int .i64 k.1.1,Zg k.1.1)],[(1,_,_),(17,_,_),(19,_,_),(21,_,_),(23,h23, .own 95 4 1 [.val k.1.2, .val h17, .val h19, .val h21]),(200,k.1.2, .own 9 1 k.1.1 ((cnames (g.acts.take k.1.1)).map ZS))]⟩) (fun k=>g.acts.length-k.1.1) ⟨(0, .slice none 0 0),oM⟩ (fun a w H=>H.weaken ⟨rfl,rfl,rfl,rfl,rfl,trivial⟩ ⟨rfl,rfl,rfl,rfl,rfl,rfl,trivial⟩) ?_;rintro ⟨⟨k,h3⟩,hk⟩;dsimp only;dsimp only at hk;refine Zd ?_;(refine xL 28 ZN ?_<;>refine Zc ?_)
   refine cX ?_ ?_<;>intro hb28
   · first|exact bN hb28|(
 obtain ⟨x,hx⟩:=Zj (show k<g.acts.length by omega);have e1:=Yp W5 g.acts k x hx;have e2:=YI W5 hx;(have e3:((cnames (g.acts.take k)).map ZS).length=k:=by simp [cnames];omega);refine Zd ?_;(refine xL 29 (Zn WH) ?_<;>(refine yL 30 (Jm Ws) fun v30 h=>?_;cases h)<;>refine ZV [(.string ByteArray.empty),(.int .i64 0)] 2 6 GV fun h6=>?_<;>refine YN 6 Ws ?_<;>refine Zc ?_)
 (refine ZR (fun i=>([11]:List Nat).elem i) [23,6] kR ?_<;>refine xD 0 31 rfl Za ?_<;>refine xD 1 32 rfl Za ?_<;>refine xD 2 33 rfl (Gf 23) ?_<;>refine xD 3 34 rfl (Zm 23 Yx) ?_<;>(refine yD 4 35 rfl (Zp 23 ZL) fun v35 h=>?_;cases h)<;>refine xE 5 36 rfl (Zm 6 Kf) ?_<;>(refine yE 6 37 rfl (Zp 6 ZJ) fun v37 h=>?_;cases h)<;>(refine Zy 7 kR ?_)<;>(refine ZA rfl fun w9 M9 N9 DQ back=>?_)<;>refine WF (kk:=1) 38 Jw fun h38 ho38=>?_<;>refine Zr (back _ (nrm ?_))<;>(refine Zy 8 kR ?_)<;>(refine ZA rfl fun w9 M9 N9 DQ back=>?_)<;>refine Km 200 38 39 Jw fun h39 ho39=>?_<;>refine Zr (back _ (nrm ?_))<;>refine xE 9 40 rfl (Gf 23) ?_<;>refine xE 10 41 rfl (Zm 23 Yx) ?_<;>(refine Zy 11 kR ?_)<;>(refine WP rfl rfl kR fun DQ back=>?_)<;>refine Rs 23 ZL ZaB ?_<;>refine Zr (back _ (nav ?_))<;>try dsimp only)
 (refine Zk ?_<;>refine xL 42 ZB (xL 27 Za ?_)<;>refine Zc ?_)
 refine Ys (Yb (l:=39) 200 rfl rfl) fun _=>?_;rw [show (cnames (g.acts.take k)).map ZS++[ZS x.name]=(cnames (g.acts.take (k+1))).map ZS by rw [SZ hx,X1];rfl];refine Zf (
  ⟨(k+1,h39),by show k+1≤g.acts.length;omega⟩
  ) (by dsimp only;omega) ⟨rfl,rfl,rfl,rfl,rfl,trivial⟩ ⟨rfl,rfl,rfl,rfl,rfl,rfl,trivial⟩)
   · first | exact bN hb28|(
 refine Zd ?_;(refine xL 43 (Zm 1 KE) ?_<;>(refine yL 44 (Zp 1 Jx) fun v44 h=>?_;cases h)<;>refine xL 45 (ZF Gq) (xL 46 Za ?_)<;>refine Zc ?_)
 obtain rfl:k=g.acts.length:=oM;rw [XD];refine Zz (Jc (l:=23) (l':=200) (j:=0) rfl rfl rfl rfl) fun _=>?_;refine Zz (Zcf (l:=17) 201 rfl rfl) fun Hs=>?_;obtain ⟨Hs,hHs⟩:=Hs;rw [WB] at hHs;dsimp only;refine Zw (ι:={k:Nat//k≤g.follows.length}) (fun k=>⟨[(1,_,_),(4,_,_),(44,_,_),(45,_,_),(46, .int .i64 k.1,Zg k.1)],[(1,_,_),(23,_,_),(17,_,_),(19,_,_),(21,_,_),(201, .agg Hs.toArray, .agg (vec g.acts.length fun i=>YA 4 g.acts.length (KR (cnames g.acts) (g.follows.take k.1) i)))]⟩) (fun k=>g.follows.length-k.1) ⟨0,oM⟩ (fun a w H=>H.weaken ⟨rfl,rfl,rfl,rfl,rfl,trivial⟩ ⟨rfl,rfl,rfl,rfl,rfl,rfl,trivial⟩) ?_;rintro ⟨k,hk⟩;dsimp only;refine Zd ?_;(refine xL 47 ZN ?_<;>refine Zc ?_)
 refine cX ?_ ?_<;>intro hb47
 · first|exact bN hb47|(
 obtain ⟨x,hx⟩:=Zj (show k<g.follows.length by omega);have e1:=Yp JP g.follows k x hx;have e2:=YI JP hx;have hxa:=(hfo x (Xb hx)).1;have hxb:=(hfo x (Xb hx)).2;have ha:=(Sm hxa).2;have hb:=(Sm hxb).2;rw [hna] at ha hb;obtain ⟨ra,hra⟩:=Zj (show ixN (cnames g.acts) x.src<Hs.length by omega);have e3:=ζo hra;have e4:=DT (e:=4) (KR (cnames g.acts) (g.follows.take k)) ha;have e5:=WB g.acts.length (fun j=>Zo (KR (cnames g.acts) (g.follows.take k) (ixN (cnames g.acts) x.src) j));refine Zd ?_;(refine xL 48 (Zn Gq) ?_<;>(refine yL 49 (Jm KD) fun v49 h=>?_;cases h)<;>refine ZV [(.string ByteArray.empty),(.string ByteArray.empty),(.int .i64 0)] 3 8 Pg fun h8=>?_<;>refine YN 8 KD ?_<;>refine Zc ?_)
 (refine ZR (fun i=>([15]:List Nat).elem i) [23,8,17,201] kR ?_<;>refine xD 0 50 rfl Za ?_<;>refine xD 1 51 rfl (Gf 23) ?_<;>refine xD 2 52 rfl (Zm 23 YD) ?_<;>(refine yD 3 53 rfl (Zp 23 Yy) fun v53 h=>?_;cases h)<;>refine xD 4 54 rfl Za ?_<;>refine xD 5 55 rfl (Zm 8 Kd) ?_<;>(refine yD 6 56 rfl (Zp 8 ZJ) fun v56 h=>?_;cases h)<;>refine xD 10 60 rfl Za ?_<;>refine xD 11 61 rfl (Zm 8 Ke) ?_<;>(refine yD 12 62 rfl (Zp 8 ZJ) fun v62 h=>?_;cases h)<;>(refine Zy 7 kR ?_)<;>(refine LR (d:=57) rfl (cB rfl call147 (ζn (cnames g.acts) _ x.src hxa) ⟨⟨_,_,rfl,LW (l:=23) rfl hna.symm⟩,⟨_,_,rfl,Kw (x:= .tmp 56) rfl⟩,trivial⟩) fun v57 h=>?_;cases h)<;>refine xD 8 58 rfl (Z4 17 ZX) ?_<;>(refine yD 9 59 rfl (Zp 17 ZC) fun v59 h=>?_;cases h)<;>(refine Zy 13 kR ?_)<;>(refine LR (d:=63) rfl (cB rfl call147 (ζn (cnames g.acts) _ x.dst hxb) ⟨⟨_,_,rfl,LW (l:=23) rfl hna.symm⟩,⟨_,_,rfl,Kw (x:= .tmp 62) rfl⟩,trivial⟩) fun v63 h=>?_;cases h)<;>refine xE 14 64 rfl (R6 201 ZG) ?_<;>(refine Zy 15 kR ?_)<;>(refine WP rfl rfl kR fun DQ back=>?_)<;>refine ZeC 201 ZW TV ?_<;>refine Zr (back _ (nav ?_))<;>try dsimp only)
 (refine Zk ?_<;>refine xL 65 ZB (xL 46 Za ?_)<;>refine Zc ?_)
 rw [Zcq (e:=0) (f':=KR (cnames g.acts) (g.follows.take (k+1))) fun i j _ _=>ZaD hx i j];refine Zf (
  ⟨k+1,oM⟩
  ) (by dsimp only;omega) ⟨rfl,rfl,rfl,rfl,rfl,trivial⟩ ⟨rfl,rfl,rfl,rfl,rfl,rfl,trivial⟩)
 · first | exact bN hb47|(
 refine Zd ?_;(refine xL 66 (Zm 1 Lq) ?_<;>(refine yL 67 (Zp 1 WJ) fun v67 h=>?_;cases h)<;>refine xL 68 (ZF WH) (xL 69 Za ?_)<;>refine Zc ?_)
 obtain rfl:k=g.follows.length:=oM;rw [XD,show List.replicate g.acts.length (PV.val (.bool false))=vec g.acts.length (fun i=>Zo (Wn (cnames g.acts) [] i)) from LU _ _];refine Zw (ι:={k:Nat//k≤g.starts.length}) (fun k=>⟨[(1,_,_),(4,_,_),(67,_,_),(68,_,_),(69, .int .i64 k.1,Zg k.1)],[(1,_,_),(23,_,_),(17,_,_),(201,_,_),(21,_,_),(19,h19,YA 4 g.acts.length (Wn (cnames g.acts) (g.starts.take k.1)))]⟩) (fun k=>g.starts.length-k.1) ⟨0,oM⟩ (fun a w H=>H.weaken ⟨rfl,rfl,rfl,rfl,rfl,trivial⟩ ⟨rfl,rfl,rfl,rfl,rfl,rfl,trivial⟩) ?_;rintro ⟨k,hk⟩;dsimp only;refine Zd ?_;(refine xL 70 ZN ?_<;>refine Zc ?_)
 refine cX ?_ ?_<;>intro hb70
 · first|exact bN hb70|(
 obtain ⟨x,hx⟩:=Zj (show k<g.starts.length by omega);have e1:=Yp W5 g.starts k x hx;have e2:=YI W5 hx;have hxa:=hst x (Xb hx);have ha:=(Sm hxa).2;rw [hna] at ha;have e5:=WB g.acts.length (fun j=>Zo (Wn (cnames g.acts) (g.starts.take k) j));refine Zd ?_;(refine xL 71 (Zn WH) ?_<;>(refine yL 72 (Jm Ws) fun v72 h=>?_;cases h)<;>refine ZV [(.string ByteArray.empty),(.int .i64 0)] 2 10 GV fun h10=>?_<;>refine YN 10 Ws ?_<;>refine Zc ?_)
 (refine ZR (fun i=>([9]:List Nat).elem i) [23,10,19] kR ?_<;>refine xD 0 73 rfl Za ?_<;>refine xD 1 74 rfl (Gf 23) ?_<;>refine xD 2 75 rfl (Zm 23 W6) ?_<;>(refine yD 3 76 rfl (Zp 23 ZC) fun v76 h=>?_;cases h)<;>refine xD 4 77 rfl Za ?_<;>refine xE 5 78 rfl (Zm 10 Kf) ?_<;>(refine yE 6 79 rfl (Zp 10 ZJ) fun v79 h=>?_;cases h)<;>(refine Zy 7 kR ?_)<;>(refine LR (d:=80) rfl (cB rfl call147 (ζn (cnames g.acts) _ x.name hxa) ⟨⟨_,_,rfl,LW (l:=23) rfl hna.symm⟩,⟨_,_,rfl,Kw (x:= .tmp 79) rfl⟩,trivial⟩) fun v80 h=>?_;cases h)<;>refine xE 8 81 rfl (Z4 19 ZG) ?_<;>(refine Zy 9 kR ?_)<;>(refine WP rfl rfl kR fun DQ back=>?_)<;>refine Rs 19 ZW TV ?_<;>refine Zr (back _ (nav ?_))<;>try dsimp only)
 (refine Zk ?_<;>refine xL 82 ZB (xL 69 Za ?_)<;>refine Zc ?_)
 rw [Pp (f':=Wn (cnames g.acts) (g.starts.take (k+1))) fun i _=>OJ hx i];refine Zf (
  ⟨k+1,oM⟩
  ) (by dsimp only;omega) ⟨rfl,rfl,rfl,rfl,rfl,trivial⟩ ⟨rfl,rfl,rfl,rfl,rfl,rfl,trivial⟩)
 · first |exact bN hb70|(
 refine Zd ?_;(refine xL 83 (Zm 1 Lr) ?_<;>(refine yL 84 (Zp 1 WJ) fun v84 h=>?_;cases h)<;>refine xL 85 (ZF WH) (xL 86 Za ?_)<;>refine Zc ?_)
 obtain rfl:k=g.starts.length:=oM;rw [XD];refine Zw (ι:={k:Nat//k≤g.ends.length}) (fun k=>⟨[(1,_,_),(4,_,_),(84,_,_),(85,_,_),(86, .int .i64 k.1,Zg k.1)],[(1,_,_),(23,_,_),(17,_,_),(201,_,_),(19,_,_),(21,h21,YA 4 g.acts.length (Wn (cnames g.acts) (g.ends.take k.1)))]⟩) (fun k=>g.ends.length-k.1) ⟨0,oM⟩ (fun a w H=>H.weaken ⟨rfl,rfl,rfl,rfl,rfl,trivial⟩ ⟨rfl,rfl,rfl,rfl,rfl,rfl,trivial⟩) ?_;rintro ⟨k,hk⟩;dsimp only;refine Zd ?_;(refine xL 87 ZN ?_<;>refine Zc ?_)
 refine cX ?_ ?_<;>intro hb87
 · first|exact bN hb87|(
 obtain ⟨x,hx⟩:=Zj (show k<g.ends.length by omega);have e1:=Yp W5 g.ends k x hx;have e2:=YI W5 hx;have hxa:=hen x (Xb hx);have ha:=(Sm hxa).2;rw [hna] at ha;have e5:=WB g.acts.length (fun j=>Zo (Wn (cnames g.acts) (g.ends.take k) j));refine Zd ?_;(refine xL 88 (Zn WH) ?_<;>(refine yL 89 (Jm Ws) fun v89 h=>?_;cases h)<;>refine ZV [(.string ByteArray.empty),(.int .i64 0)] 2 12 GV fun h12=>?_<;>refine YN 12 Ws ?_<;>refine Zc ?_)
 (refine ZR (fun i=>([9]:List Nat).elem i) [23,12,21] kR ?_<;>refine xD 0 90 rfl Za ?_<;>refine xD 1 91 rfl (Gf 23) ?_<;>refine xD 2 92 rfl (Zm 23 W7) ?_<;>(refine yD 3 93 rfl (Zp 23 ZC) fun v93 h=>?_;cases h)<;>refine xD 4 94 rfl Za ?_<;>refine xE 5 95 rfl (Zm 12 Kf) ?_<;>(refine yE 6 96 rfl (Zp 12 ZJ) fun v96 h=>?_;cases h)<;>(refine Zy 7 kR ?_)<;>(refine LR (d:=97) rfl (cB rfl call147 (ζn (cnames g.acts) _ x.name hxa) ⟨⟨_,_,rfl,LW (l:=23) rfl hna.symm⟩,⟨_,_,rfl,Kw (x:= .tmp 96) rfl⟩,trivial⟩) fun v97 h=>?_;cases h)<;>refine xE 8 98 rfl (Z4 21 ZG) ?_<;>(refine Zy 9 kR ?_)<;>(refine WP rfl rfl kR fun DQ back=>?_)<;>refine Rs 21 ZW TV ?_<;>refine Zr (back _ (nav ?_))<;>try dsimp only)
 (refine Zk ?_<;>refine xL 99 ZB (xL 86 Za ?_)<;>refine Zc ?_)
 rw [Pp (f':=Wn (cnames g.acts) (g.ends.take (k+1))) fun i _=>OJ hx i];refine Zf (
  ⟨k+1,oM⟩
  ) (by dsimp only;omega) ⟨rfl,rfl,rfl,rfl,rfl,trivial⟩ ⟨rfl,rfl,rfl,rfl,rfl,rfl,trivial⟩)
 · first|exact bN hb87|(
 refine Zd ?_;(refine xL 100 Za (xL 2 Zb ?_)<;>refine Zc ?_)
 obtain rfl:k=g.ends.length:=oM;rw [XD];refine Y4 (Zcg (l:=17) (l':=201) rfl rfl rfl rfl) fun _=>?_;refine Y4 (Jc (l:=23) (l':=17) (j:=1) rfl rfl rfl rfl) fun _=>?_;refine Y4 (Jc (l:=23) (l':=19) (j:=2) rfl rfl rfl rfl) fun _=>?_;refine Y4 (Jc (l:=23) (l':=21) (j:=3) rfl rfl rfl rfl) fun _=>?_;refine Y4 (K' (l:=23) (t:=2) (j:=0) rfl X3 rfl) fun _=>?_;refine Zi (results104) rfl ?_;show PV.sptr 0 (Yf [_,ZdU 92 4 _ _,YA _ _ _,YA _ _ _])=ZdV g;rw [Yf,Yf,Yf,Yf,Yf,OI,Lt,Lt,GW];unfold ZdV ZfH ZQ;rw [hna]))))
theorem Z9:AggT prog 34 4=true:=by kernel_rfl
def WL (E:Nat→Nat→Bool) (k i j a b:Nat):Bool:=if a<i∨(a=i∧b<j) then war E (k+1) a b else war E k a b
theorem ZaE (E:Nat→Nat→Bool) (k i j a:Nat):WL E k i j a k=war E k a k:=by
 unfold WL
 split
 · rw [ζl]
 · rfl
theorem ZaF (E:Nat→Nat→Bool) (k i j b:Nat):WL E k i j k b=war E k k b:=by
 unfold WL
 split
 · rw [ζm]
 · rfl
theorem Co (E:Nat→Nat→Bool) (k i j:Nat):WL E k i j i j=war E k i j:=by unfold WL;rw [Uz oM]
theorem Cp {e n k i j:Nat} {E:Nat→Nat→Bool} {x:Bool} (hx:x=war E (k+1) i j):(vec n fun a=>YA e n (WL E k i j a)).set i (.own e 1 n ((vec n fun b=>Zo (WL E k i j i b)).set (j*1) (Zo x)))=vec n fun a=>YA e n (WL E k i (j+1) a):=by
 subst hx
 rw [XL,Jp,Jp]
 refine Z3 fun a ha=>?_
 by_cases h:a=i
 · subst h;rw [UA rfl];show PV.own _ _ _ _=PV.own _ _ _ _;congr 1;refine Z3 fun b hb=>?_;by_cases h2:b=j
   · subst h2;rw [UA rfl];unfold WL;rw [UA oM]
   · rw [Uz h2];unfold WL;by_cases h3:b<j
     · rw [UA oM,UA oM]
     · rw [Uz oM,Uz oM]
 · rw [Uz h];show PV.own _ _ _ _=PV.own _ _ _ _;congr 1;refine Z3 fun b hb=>?_;unfold WL;by_cases h3:a<i
   · rw [UA oM,UA oM]
   · rw [Uz oM,Uz oM]
theorem Ze1 {E:Nat→Nat→Bool} {k i j:Nat} (h:war E k i j=true):true=war E (k+1) i j:=by simp [war,h]
theorem Ze2 {E:Nat→Nat→Bool} {k i j:Nat} (h:war E k i j=false) (h2:war E k i k=true):war E k k j=war E (k+1) i j:=by simp [war,h,h2]
theorem Ze3 {E:Nat→Nat→Bool} {k i j:Nat} (h:war E k i j=false) (h2:war E k i k=false):false=war E (k+1) i j:=by simp [war,h,h2]
theorem Cq {n k i:Nat} {E:Nat→Nat→Bool} (e:Nat):(vec n fun a=>YA e n (WL E k i n a))=vec n fun a=>YA e n (WL E k (i+1) 0 a):=by
 refine Z3 fun a ha=>?_
 show PV.own _ _ _ _=PV.own _ _ _ _
 congr 1
 refine Z3 fun b hb=>?_
 unfold WL
 by_cases h:a≤i
 · rw [UA oM,UA oM]
 · rw [Uz oM,Uz oM]
theorem ZaG {n k:Nat} {E:Nat→Nat→Bool} (e:Nat):(vec n fun a=>YA e n (WL E k n 0 a))=vec n fun a=>YA e n (war E (k+1) a):=by
 refine Z3 fun a ha=>?_
 show PV.own _ _ _ _=PV.own _ _ _ _
 congr 1
 refine Z3 fun b hb=>?_
 unfold WL
 rw [UA oM]
theorem HQ {n k:Nat} {E:Nat→Nat→Bool} (e:Nat):(vec n fun a=>YA e n (war E k a))=vec n fun a=>YA e n (WL E k 0 0 a):=by
 refine Z3 fun a ha=>?_
 show PV.own _ _ _ _=PV.own _ _ _ _
 congr 1
 refine Z3 fun b hb=>?_
 unfold WL
 rw [Uz oM]
theorem ZI {α:Type} {n i:Nat} (f:Nat→α) (h:i<n):(vec n f)[i*1]? =some (f i):=by rw [XL];exact GX f h
theorem ZdW {α:Type} {n:Nat} {f:Nat→α} {p:α→Bool} (h:∀i,p (f i)=true):(vec n f).all p=true:=by
 unfold vec;rw [List.all_map,Xf];exact fun i _=>h i
theorem ZaH {e n k:Nat} {E:Nat→Nat→Bool} (v:Value):(((vec n fun i=>YA e n (fun j=>if i<k then E i j else false)).set k (.val v)).set k (.own e 1 n (vec n fun j=>Zo (E k j))))=vec n fun i=>YA e n (fun j=>if i<k+1 then E i j else false):=by
 rw [XK,Jp]
 refine Z3 fun a ha=>?_
 by_cases h:a=k
 · subst h;rw [UA rfl];show PV.own _ _ _ _=PV.own _ _ _ _;congr 1;exact Z3 fun b hb=>by dsimp only;rw [UA oM]
 · rw [Uz h];show PV.own _ _ _ _=PV.own _ _ _ _;congr 1;refine Z3 fun b hb=>?_;dsimp only;by_cases h3:a<k
   · rw [UA h3,UA oM]
   · rw [Uz h3,Uz oM]
set_option maxHeartbeats 1000000 in
theorem Pq (l : List ByteArray) (n:Nat) (E:Nat→Nat→Bool) (s f:PV) (hl:l.length=n) (hn:n≤1000):AF prog 51 [.sptr 0 [ZQ l,On n E,s,f]] (· =On n (ZT n E)):=by
 refine AF.of_body 82 func51 rfl ntmps51 (Xa rfl) ?_
 intro w0 M0 vs hl hv
 obtain ⟨v0,rfl⟩:=WO hl
 clear hl hv
 refine Zd ?_
 (refine xL 2 Zb ?_<;>refine Zh ?_)
 (refine xL 8 Za (xL 9 Yc (xL 10 (Ye Yx) ?_))<;>(refine yL 11 (Zt ZL) fun v11 h=>?_;cases h)<;>refine xL 12 (ZF Zu) ?_<;>refine cO 13 (cA call105 (Jz l.length oM)) fun v13 ho13=>?_<;>refine xL 3 Zb ?_<;>refine Zh ?_)
 (refine xL 14 Za (xL 15 (Wj 13 ZX) (xL 16 Za ?_))<;>refine Zc ?_)
 rw [hl]
 refine Zz (Zcf (l:=13) 200 rfl rfl) fun Hs=>?_
 obtain ⟨Hs,hHs⟩:=Hs
 rw [WB] at hHs
 dsimp only
 rw [show (vec n fun i=>YA 4 n (fun _=>false))=vec n (fun i=>YA 4 n (fun j=>if i<0 then E i j else false)) from Z3 fun i _=>by congr 1]
 refine Zw (ι:={k:Nat//k≤n}) (fun k=>⟨[(0,_,_),(3,_,_),(15,_,_),(16, .int .i64 k.1,Zg k.1)],[(13,_,_),(200, .agg Hs.toArray, .agg (vec n fun i=>YA 4 n (fun j=>if i<k.1 then E i j else false)))]⟩) (fun k=>n-k.1) ⟨0,oM⟩ (fun a w H=>H.weaken ⟨rfl,rfl,rfl,rfl,trivial⟩ ⟨rfl,rfl,trivial⟩) ?_
 rintro ⟨k,hk⟩
 dsimp only
 refine Zd ?_
 (refine xL 17 ZN ?_<;>refine Zc ?_)
 refine cX ?_ ?_<;>intro hb17
 · first|exact bN hb17|(
 have hlt:k<n:=oM;obtain ⟨rk,hrk⟩:=Zj (show k<Hs.length by omega);have e1:=ζo hrk;have e2:=ZI (fun i=>YL n (E i)) hlt;refine Zz (ζf (l:=200) (i:=k) 201 rfl hrk (GX _ hlt) rfl) fun _=>?_;refine Zd ?_;(refine xL 18 Za (xL 4 Zb ?_)<;>refine Zc ?_)
 (refine ZR (fun i=>([]:List Nat).elem i) [13] kR ?_<;>refine xD 0 19 rfl Za ?_<;>refine xD 1 20 rfl Za ?_<;>refine xD 2 21 rfl (Z4 13 ZX) ?_<;>(refine yD 3 22 rfl (Zp 13 ZC) fun v22 h=>?_;cases h)<;>refine xD 4 23 rfl Za ?_<;>refine xD 5 24 rfl Yc ?_<;>refine xD 6 25 rfl (Ye YD) ?_<;>(refine yD 7 26 rfl (Zt Yy) fun v26 h=>?_;cases h)<;>refine xE 8 27 rfl Za ?_<;>refine xE 9 28 rfl (Zn ZX) ?_<;>(refine yE 10 29 rfl (Zt ZC) fun v29 h=>?_;cases h)<;>(refine Zy 11 kR ?_)<;>(refine ZA rfl fun w9 M9 N9 DQ back=>?_)<;>refine ZeY 201 30 ZG ?_ (WB _ _) (ZdW fun _=>rfl)<;>refine Zr (back _ (nrm ?_))<;>refine YU kR (nav ?_)<;>try dsimp only)
 (refine Zk ?_<;>refine xL 31 ZB (xL 16 Za ?_)<;>refine Zc ?_)
 refine Ys (ζg (l:=200) (l':=201) (i:=k) rfl hrk (Xp (by rw [WB];omega)) rfl rfl) fun _=>?_;rw [ZaH];refine Zf (
  ⟨k+1,oM⟩
  ) (by dsimp only;omega) ⟨rfl,rfl,rfl,rfl,trivial⟩ ⟨rfl,rfl,trivial⟩)
 · first | exact bN hb17|(
 refine Zd ?_;(refine xL 32 Za (xL 33 (Wj 13 ZX) (xL 34 Za ?_))<;>refine Zc ?_)
 rw [show (vec n fun i=>YA 4 n (fun j=>if i<k then E i j else false))=vec n (fun i=>YA 4 n (war E 0 i)) from Z3 fun i hi=>by
  show PV.own _ _ _ _=PV.own _ _ _ _;congr 1;exact Z3 fun j _=>by dsimp only;rw [UA (show i<k by omega)];rfl]
 refine Zw (ι:={m:Nat//m≤n}) (fun k=>⟨[(0,_,_),(3,_,_),(33,_,_),(34, .int .i64 k.1,Zg k.1)],[(13,_,_),(200, .agg Hs.toArray, .agg (vec n fun i=>YA 4 n (war E k.1 i)))]⟩) (fun k=>n-k.1) ⟨0,oM⟩ (fun a w H=>H.weaken ⟨rfl,rfl,rfl,rfl,trivial⟩ ⟨rfl,rfl,trivial⟩) ?_;rintro ⟨m,hm⟩;dsimp only;refine Zd ?_;(refine xL 35 ZN ?_<;>refine Zc ?_)
 refine cX ?_ ?_<;>intro hb35
 · first | exact bN hb35|(
 refine Zd ?_;(refine xL 36 Za (xL 5 Zb ?_)<;>refine Zh ?_)
 (refine xL 37 Za (xL 38 (Wj 13 ZX) (xL 39 Za ?_))<;>refine Zc ?_)
 rw [HQ];refine Zw (ι:={i:Nat//i≤n}) (fun k=>⟨[(0,_,_),(3,_,_),(33,_,_),(34,_,_),(5,_,_),(38,_,_),(39, .int .i64 k.1,Zg k.1)],[(13,_,_),(200, .agg Hs.toArray, .agg (vec n fun a=>YA 4 n (WL E m k.1 0 a)))]⟩) (fun k=>n-k.1) ⟨0,oM⟩ (fun a w H=>H.weaken ⟨rfl,rfl,rfl,rfl,rfl,rfl,rfl,trivial⟩ ⟨rfl,rfl,trivial⟩) ?_;rintro ⟨i,hi⟩;dsimp only;refine Zd ?_;(refine xL 40 ZN ?_<;>refine Zc ?_)
 refine cX ?_ ?_<;>intro hb40
 · first |exact bN hb40|(
 refine Zd ?_;(refine xL 41 Za (xL 6 Zb ?_)<;>refine Zh ?_)
 (refine xL 42 Za (xL 43 (Wj 13 ZX) (xL 44 Za ?_))<;>refine Zc ?_)
 refine Zw (ι:={j:Nat//j≤n}) (fun k=>⟨[(0,_,_),(3,_,_),(33,_,_),(34,_,_),(5,_,_),(38,_,_),(39,_,_),(6,_,_),(43,_,_),(44, .int .i64 k.1,Zg k.1)],[(13,_,_),(200, .agg Hs.toArray, .agg (vec n fun a=>YA 4 n (WL E m i k.1 a)))]⟩) (fun k=>n-k.1) ⟨0,oM⟩ (fun a w H=>H.weaken ⟨rfl,rfl,rfl,rfl,rfl,rfl,rfl,rfl,rfl,rfl,trivial⟩ ⟨rfl,rfl,trivial⟩) ?_;rintro ⟨j,hj⟩;dsimp only;refine Zd ?_;(refine xL 45 ZN ?_<;>refine Zc ?_)
 refine cX ?_ ?_<;>intro hb45
 · first|exact bN hb45|(
 have hmn:m<n:=oM;have hin:i<n:=oM;have hjn:j<n:=oM;obtain ⟨ri,hri⟩:=Zj (show i<Hs.length by omega);obtain ⟨rm,hrm⟩:=Zj (show m<Hs.length by omega);have e1:=ζo hri;have e2:=ζo hrm;have e3:=DT (e:=4) (WL E m i j) hin;have e4:=DT (e:=4) (WL E m i j) hmn;(have e5:(vec n fun b=>Zo (WL E m i j i b))[j*1]? =some (Zo (war E m i j)):=by rw [ZI _ hjn,Co]);(have e6:(vec n fun b=>Zo (WL E m i j i b))[m*1]? =some (Zo (war E m i m)):=by rw [ZI _ hmn,ZaE]);(have e7:(vec n fun b=>Zo (WL E m i j m b))[j*1]? =some (Zo (war E m m j)):=by rw [ZI _ hjn,ZaF]);have e8:=WB n (fun b=>Zo (WL E m i j i b));refine Zd ?_;(refine xL 46 Za (xL 7 Zb ?_)<;>refine Zc ?_)
 (refine ZR (fun i=>([31]:List Nat).elem i) [13,200] kR ?_<;>refine xD 0 47 rfl Za ?_<;>refine xD 1 48 rfl Za ?_<;>refine xD 2 49 rfl (Z4 13 ZX) ?_<;>(refine yD 3 50 rfl (Zp 13 ZC) fun v50 h=>?_;cases h)<;>refine xD 4 51 rfl Za ?_<;>refine xD 5 52 rfl Za ?_<;>refine xD 6 53 rfl Za ?_<;>refine xD 7 54 rfl (Z4 13 ZX) ?_<;>(refine yD 8 55 rfl (Zp 13 ZC) fun v55 h=>?_;cases h)<;>refine xE 9 56 rfl Za ?_<;>refine xE 10 57 rfl (R6 200 ZG) ?_<;>(refine yE 11 58 rfl (Zci 200 ZW) fun v58 h=>?_;cases h)<;>refine xE 12 59 rfl Za ?_<;>(refine bD 59 (fun hb59=>?_) (fun hb59=>?_)<;>(first|refine kD 13 60 rfl ?_|refine xD 13 60 rfl Za ?_))<;>(first|refine kD 14 61 rfl ?_|refine xD 14 61 rfl Za ?_)<;>(first|refine kD 15 62 rfl ?_|refine xD 15 62 rfl (Z4 13 ZX) ?_)<;>(first|refine kD 16 63 rfl ?_|(refine yD 16 63 rfl (Zp 13 ZC) fun v63 h=>?_;cases h))<;>(first|refine kD 17 64 rfl ?_|refine xD 17 64 rfl Za ?_)<;>(first|refine kD 18 65 rfl ?_|refine xD 18 65 rfl (R6 200 ZG) ?_)<;>(first|refine kD 19 66 rfl ?_|(refine yD 19 66 rfl (Zci 200 ZW) fun v66 h=>?_;cases h))<;>(first|refine kD 20 67 rfl ?_|refine xD 20 67 rfl Za ?_)<;>(first|refine kD 21 68 rfl ?_|(refine bD 67 (fun hb67=>?_) (fun hb67=>?_)<;>(first|refine kD 21 68 rfl ?_|refine xD 21 68 rfl Za ?_)))<;>(first|refine kD 22 69 rfl ?_|refine xD 22 69 rfl Za ?_)<;>(first|refine kD 23 70 rfl ?_|refine xD 23 70 rfl (Z4 13 ZX) ?_)<;>(first|refine kD 24 71 rfl ?_|(refine yD 24 71 rfl (Zp 13 ZC) fun v71 h=>?_;cases h))<;>(first|refine kD 25 72 rfl ?_|refine xD 25 72 rfl Za ?_)<;>(first|refine kD 26 73 rfl ?_|refine xD 26 73 rfl (R6 200 ZG) ?_)<;>(first|refine kD 27 74 rfl ?_|(refine yD 27 74 rfl (Zci 200 ZW) fun v74 h=>?_;cases h))<;>(first|refine kD 28 75 rfl ?_|refine xD 28 75 rfl Zv ?_)<;>refine xE 29 76 rfl Zv ?_<;>refine xE 30 77 rfl (R6 200 ZG) ?_<;>(refine Zy 31 kR ?_)<;>(refine WP rfl rfl kR fun DQ back=>?_)<;>refine ZeC 200 ZW TV ?_<;>refine Zr (back _ (nav ?_))<;>try dsimp only)<;>(
 (refine Zk ?_<;>refine xL 78 ZB (xL 44 Za ?_)<;>refine Zc ?_)
 rw [Cp (by first|exact Ze1 hb59|exact Ze2 hb59 hb67|exact Ze3 hb59 hb67)];refine Zf (
  ⟨j+1,oM⟩
  ) (by dsimp only;omega) ⟨rfl,rfl,rfl,rfl,rfl,rfl,rfl,rfl,rfl,rfl,trivial⟩ ⟨rfl,rfl,trivial⟩))
 · first|exact bN hb45|(
 refine Zd ?_;(refine xL 79 ZB (xL 39 Za ?_)<;>refine Zc ?_)
 rw [show j=n by omega,Cq];refine Zf (
  ⟨i+1,oM⟩
  ) (by dsimp only;omega) ⟨rfl,rfl,rfl,rfl,rfl,rfl,rfl,trivial⟩ ⟨rfl,rfl,trivial⟩))
 · first|exact bN hb40|(
 refine Zd ?_;(refine xL 80 ZB (xL 34 Za ?_)<;>refine Zc ?_)
 rw [show i=n by omega,ZaG];refine Zf (
  ⟨m+1,oM⟩
  ) (by dsimp only;omega) ⟨rfl,rfl,rfl,rfl,trivial⟩ ⟨rfl,rfl,trivial⟩))
 · first|exact bN hb35|(
 refine Zd ?_;(refine xL 81 Za (xL 2 Zb ?_)<;>refine Zc ?_)
 rw [show m=n by omega];refine Y4 (Zcg (l:=13) (l':=200) rfl rfl rfl rfl) fun _=>?_;refine Y4 (En.freeze (l:=13) (t:=2) rfl rfl) fun _=>?_;refine Zi (results51) rfl ?_;exact OI _ _ n (war E n)))
def Lb (n:Nat) (p:Nat→Bool):Bool:=(List.range n).all p
theorem JA {n k:Nat} {p:Nat→Bool} (hk:k<n) (h:p k=false):Lb n p=false:=VH.2 ⟨k,XJ.2 hk,by rw [h];simp⟩
theorem Kn {n:Nat} {p:Nat→Bool} (h:∀j,j<n→p j=true):Lb n p=true:=Xf.2 fun j hj=>h j (XJ.1 hj)
def endsB (n:Nat) (E:Nat→Nat→Bool) (F:Nat→Bool) (a b:Nat):Bool:= !E a b||(F a&&Lb n fun x=> !F x||E x b)
def S1 (n:Nat) (E:Nat→Nat→Bool) (S:Nat→Bool) (a b:Nat):Bool:= !E b a||(S a&&Lb n fun x=> !S x||E b x)
def YV (n:Nat) (E:Nat→Nat→Bool) (S F:Nat→Bool) (a b:Nat):Bool:=endsB n E F a b&&S1 n E S a b
def W1 (l:List ByteArray) (n:Nat) (E:Nat→Nat→Bool) (S F:Nat→Bool):PV:= .sptr 0 [ZQ l,On n E,YL n S,YL n F]
set_option maxHeartbeats 1000000 in
theorem HR (l : List ByteArray) (n:Nat) (E:Nat→Nat→Bool) (S F:Nat→Bool) (a b:Nat) (hl:l.length=n) (hn:n≤1000) (ha:a<n) (hb:b<n):AF prog 63 [W1 l n E S F,Zg a,Zg b] (· =Zo (YV n E S F a b)):=by
 have ea:=ZI (fun i=>YL n (E i)) ha
 have eb:=ZI (fun i=>YL n (E i)) hb
 have eab:=ZI (fun j=>Zo (E a j)) hb
 have eba:=ZI (fun j=>Zo (E b j)) ha
 have fa:=ZI (fun j=>Zo (F j)) ha
 have sa:=ZI (fun j=>Zo (S j)) ha
 refine AF.of_body 103 func63 rfl ntmps63 (Xa rfl) ?_
 intro w0 M0 vs hl hv
 obtain ⟨v0,v1,v2,rfl⟩:=RX hl
 obtain rfl:=hv 1 _ _ rfl rfl
 obtain rfl:=hv 2 _ _ rfl rfl
 clear hl hv
 dsimp only [W1]
 refine Zd ?_
 (refine xL 6 Zb ?_<;>refine Zh ?_)
 (refine xL 9 Za (xL 10 Yc (xL 11 (Ye YD) ?_))<;>(refine yL 12 (Zt Yy) fun v12 h=>?_;cases h)<;>refine xL 13 Za (xL 14 (Zn ZX) ?_)<;>(refine yL 15 (Zt ZC) fun v15 h=>?_;cases h)<;>refine xL 16 Za (xL 17 (Zn ZG) ?_)<;>(refine yL 18 (Zt ZW) fun v18 h=>?_;cases h)<;>refine Zc ?_)
 refine R2 (fun x:{x:Unit//endsB n E F a b=true}=>⟨[(0,v0,W1 l n E S F),(1, .int .i64 a,Zg a),(2, .int .i64 b,Zg b)],[]⟩) ?_ ?_
 · refine cX ?_ ?_ <;>intro hb18
   · first | exact bN hb18|(
 refine Zd ?_;(refine xL 19 Za (xL 20 Yc (xL 21 (Ye W7) ?_))<;>(refine yL 22 (Zt ZC) fun v22 h=>?_;cases h)<;>refine xL 23 Za (xL 24 (Zn ZG) ?_)<;>(refine yL 25 (Zt ZW) fun v25 h=>?_;cases h)<;>refine xL 26 Yj ?_<;>refine Zc ?_)
 refine cX ?_ ?_<;>intro hb26
 · first|exact bN hb26|(
 refine Zd ?_;(refine xL 6 Zb ?_<;>refine Zc ?_)
 refine Zi (results63) rfl ?_;rw [show YV n E S F a b=false by unfold YV endsB;rw [hb18,show F a=false by simpa using hb26];simp])
 · first | exact bN hb26|(
 refine Zd ?_;(refine xL 27 Za (xL 28 Yc (xL 29 (Ye Yx) ?_))<;>(refine yL 30 (Zt ZL) fun v30 h=>?_;cases h)<;>refine xL 31 (ZF Zu) (xL 32 Za ?_)<;>refine Zc ?_)
 refine Zw (ι:={k:Nat//k≤n∧∀j,j<k→(!F j||E j b)=true}) (fun k=>⟨[(0,_,_),(1,_,_),(2,_,_),(31,_,_),(32, .int .i64 k.1,Zg k.1)],[]⟩) (fun k=>n-k.1) ⟨0,oM,oM⟩ (fun a w H=>H.weaken ⟨rfl,rfl,rfl,rfl,rfl,trivial⟩ trivial) ?_;rintro ⟨k,hk,hp⟩;dsimp only;refine Zd ?_;(refine xL 33 ZN ?_<;>refine Zc ?_)
 refine cX ?_ ?_<;>intro hb33
 · first | exact bN hb33|(
 have hlt:k<n:=oM;have fk:=ZI (fun j=>Zo (F j)) hlt;have ek:=ZI (fun i=>YL n (E i)) hlt;have ekb:=ZI (fun j=>Zo (E k j)) hb;refine Zd ?_;(refine xL 34 Za (xL 7 Zb ?_)<;>refine Zh ?_)
 (refine xL 35 Za (xL 36 Yc (xL 37 (Ye W7) ?_))<;>(refine yL 38 (Zt ZC) fun v38 h=>?_;cases h)<;>refine xL 39 Za (xL 40 (Zn ZG) ?_)<;>(refine yL 41 (Zt ZW) fun v41 h=>?_;cases h)<;>refine xL 42 Za ?_<;>(refine bL 42 (fun hb42=>?_) (fun hb42=>?_)<;>(first|refine kL 43 ?_|refine xL 43 Za ?_))<;>(first|refine kL 44 ?_|refine xL 44 Yc ?_)<;>(first|refine kL 45 ?_|refine xL 45 (Ye YD) ?_)<;>(first|refine kL 46 ?_|(refine yL 46 (Zt Yy) fun v46 h=>?_;cases h))<;>(first|refine kL 47 ?_|refine xL 47 Za ?_)<;>(first|refine kL 48 ?_|refine xL 48 (Zn ZX) ?_)<;>(first|refine kL 49 ?_|(refine yL 49 (Zt ZC) fun v49 h=>?_;cases h))<;>(first|refine kL 50 ?_|refine xL 50 Za ?_)<;>(first|refine kL 51 ?_|refine xL 51 (Zn ZG) ?_)<;>(first|refine kL 52 ?_|(refine yL 52 (Zt ZW) fun v52 h=>?_;cases h))<;>(first|refine kL 53 ?_|refine xL 53 Yj ?_)<;>refine xL 54 Zv ?_<;>refine Zc ?_)<;>(
 refine cX ?_ ?_<;>intro hb54
 · first|exact bN hb54|(
 refine Zd ?_;(refine xL 6 Zb ?_<;>refine Zc ?_)
 refine Zi (results63) rfl ?_;rw [show YV n E S F a b=false by unfold YV endsB;rw [hb18,JA hlt (by rw [hb42,show E k b=false by simpa using hb54];rfl)];simp])
 · first |exact bN hb54|(
 refine Zd ?_;(refine xL 55 ZB (xL 32 Za ?_)<;>refine Zc ?_)
 refine Zf (
  ⟨k +1,oM,fun j hj=>by
   by_cases e:j=k
   · subst e
     first|(rw [hb42];simpa using hb54)|(rw [hb42];rfl)
   · exact hp j oM⟩
  ) (by dsimp only;omega) ⟨rfl,rfl,rfl,rfl,rfl,trivial⟩ trivial)))
 · first|exact bN hb33|(
 refine nav ?_;refine DG ⟨(),?_⟩ ⟨rfl,rfl,rfl,trivial⟩ trivial
 first
  |(unfold endsB;rw [hb18,show F a=true by simpa using hb26,Kn fun j hj=>hp j oM];rfl)
  |(unfold endsB;rw [hb18];rfl))))
   · first|exact bN hb18|(
 refine nav ?_;refine DG ⟨(),?_⟩ ⟨rfl,rfl,rfl,trivial⟩ trivial
 first
  |(unfold endsB;rw [hb18,show F a=true by simpa using hb26,Kn fun j hj=>hp j oM];rfl)
  |(unfold endsB;rw [hb18];rfl))
 · rintro ⟨_, hends⟩;dsimp only [W1];refine Zd ?_;(refine xL 56 Za (xL 57 Yc (xL 58 (Ye YD) ?_))<;>(refine yL 59 (Zt Yy) fun v59 h=>?_;cases h)<;>refine xL 60 Za (xL 61 (Zn ZX) ?_)<;>(refine yL 62 (Zt ZC) fun v62 h=>?_;cases h)<;>refine xL 63 Za (xL 64 (Zn ZG) ?_)<;>(refine yL 65 (Zt ZW) fun v65 h=>?_;cases h)<;>refine Zc ?_)
   refine cX ?_ ?_<;>intro hb65
   · first | exact bN hb65|(
 refine Zd ?_;(refine xL 66 Za (xL 67 Yc (xL 68 (Ye W6) ?_))<;>(refine yL 69 (Zt ZC) fun v69 h=>?_;cases h)<;>refine xL 70 Za (xL 71 (Zn ZG) ?_)<;>(refine yL 72 (Zt ZW) fun v72 h=>?_;cases h)<;>refine xL 73 Yj ?_<;>refine Zc ?_)
 refine cX ?_ ?_<;>intro hb73
 · first|exact bN hb73|(
 refine Zd ?_;(refine xL 6 Zb ?_<;>refine Zc ?_)
 refine Zi (results63) rfl ?_;rw [show YV n E S F a b=false by unfold YV S1;rw [hb65,show S a=false by simpa using hb73];simp])
 · first | exact bN hb73|(
 refine Zd ?_;(refine xL 74 Za (xL 75 Yc (xL 76 (Ye Yx) ?_))<;>(refine yL 77 (Zt ZL) fun v77 h=>?_;cases h)<;>refine xL 78 (ZF Zu) (xL 79 Za ?_)<;>refine Zc ?_)
 refine Zw (ι:={k:Nat//k≤n∧∀j,j<k→(!S j||E b j)=true}) (fun k=>⟨[(0,_,_),(1,_,_),(2,_,_),(78,_,_),(79, .int .i64 k.1,Zg k.1)],[]⟩) (fun k=>n-k.1) ⟨0,oM,oM⟩ (fun a w H=>H.weaken ⟨rfl,rfl,rfl,rfl,rfl,trivial⟩ trivial) ?_;rintro ⟨k,hk,hp⟩;dsimp only;refine Zd ?_;(refine xL 80 ZN ?_<;>refine Zc ?_)
 refine cX ?_ ?_<;>intro hb80
 · first | exact bN hb80|(
 have hlt:k<n:=oM;have fk:=ZI (fun j=>Zo (S j)) hlt;have ekb:=ZI (fun j=>Zo (E b j)) hlt;refine Zd ?_;(refine xL 81 Za (xL 8 Zb ?_)<;>refine Zh ?_)
 (refine xL 82 Za (xL 83 Yc (xL 84 (Ye W6) ?_))<;>(refine yL 85 (Zt ZC) fun v85 h=>?_;cases h)<;>refine xL 86 Za (xL 87 (Zn ZG) ?_)<;>(refine yL 88 (Zt ZW) fun v88 h=>?_;cases h)<;>refine xL 89 Za ?_<;>(refine bL 89 (fun hb89=>?_) (fun hb89=>?_)<;>(first|refine kL 90 ?_|refine xL 90 Za ?_))<;>(first|refine kL 91 ?_|refine xL 91 Yc ?_)<;>(first|refine kL 92 ?_|refine xL 92 (Ye YD) ?_)<;>(first|refine kL 93 ?_|(refine yL 93 (Zt Yy) fun v93 h=>?_;cases h))<;>(first|refine kL 94 ?_|refine xL 94 Za ?_)<;>(first|refine kL 95 ?_|refine xL 95 (Zn ZX) ?_)<;>(first|refine kL 96 ?_|(refine yL 96 (Zt ZC) fun v96 h=>?_;cases h))<;>(first|refine kL 97 ?_|refine xL 97 Za ?_)<;>(first|refine kL 98 ?_|refine xL 98 (Zn ZG) ?_)<;>(first|refine kL 99 ?_|(refine yL 99 (Zt ZW) fun v99 h=>?_;cases h))<;>(first|refine kL 100 ?_|refine xL 100 Yj ?_)<;>refine xL 101 Zv ?_<;>refine Zc ?_)<;>(
 refine cX ?_ ?_<;>intro hb101
 · first|exact bN hb101|(
 refine Zd ?_;(refine xL 6 Zb ?_<;>refine Zc ?_)
 refine Zi (results63) rfl ?_;rw [show YV n E S F a b=false by unfold YV S1;rw [hb65,JA hlt (by rw [hb89,show E b k=false by simpa using hb101];rfl)];simp])
 · first |exact bN hb101|(
 refine Zd ?_;(refine xL 102 ZB (xL 79 Za ?_)<;>refine Zc ?_)
 refine Zf (
  ⟨k +1,oM,fun j hj=>by
   by_cases e:j=k
   · subst e
     first|(rw [hb89];simpa using hb101)|(rw [hb89];rfl)
   · exact hp j oM⟩
  ) (by dsimp only;omega) ⟨rfl,rfl,rfl,rfl,rfl,trivial⟩ trivial)))
 · first|exact bN hb80|(
 refine Zd ?_;(refine xL 6 Zb ?_<;>refine Zc ?_)
 refine Zi (results63) rfl ?_
 first
  |rw [show YV n E S F a b=true by unfold YV S1;rw [hends,hb65,show S a=true by simpa using hb73,Kn fun j hj=>hp j oM];rfl]
  |rw [show YV n E S F a b=true by unfold YV S1;rw [hends,hb65];rfl])))
   · first|exact bN hb65|(
 refine Zd ?_;(refine xL 6 Zb ?_<;>refine Zc ?_)
 refine Zi (results63) rfl ?_
 first
  |rw [show YV n E S F a b=true by unfold YV S1;rw [hends,hb65,show S a=true by simpa using hb73,Kn fun j hj=>hp j oM];rfl]
  |rw [show YV n E S F a b=true by unfold YV S1;rw [hends,hb65];rfl])
def JR (n:Nat) (E R:Nat→Nat→Bool) (S F:Nat→Bool) (kind:Int) (at':Nat→Int) (a b:Nat):Bool:=
 if kind=1 then !E a b else if kind=2 then decide (at' b<at' a)||(R a b&& !R b a) else if kind=3 then E a b
 else if at' a≠0∧at' b≠0 then !E a b else if at' a=0 then YV n E S F a b else true
def DU (n:Nat) (f:Nat→Int):PV:= .sl n (vec n fun i=>Zg (f i))
set_option maxHeartbeats 1000000 in
theorem ZdX (l : List ByteArray) (n:Nat) (E R:Nat→Nat→Bool) (S F:Nat→Bool) (kind:Int) (at':Nat→Int) (a b:Nat) (hl:l.length=n) (hn:n≤1000) (ha:a<n) (hb:b<n):AF prog 65 [W1 l n E S F,On n R,Zg kind,Zg a,Zg b,DU n at'] (· =Zo (JR n E R S F kind at' a b)):=by
 have ea:=ZI (fun i=>YL n (E i)) ha
 have eab:=ZI (fun j=>Zo (E a j)) hb
 have ra:=ZI (fun i=>YL n (R i)) ha
 have rb:=ZI (fun i=>YL n (R i)) hb
 have rab:=ZI (fun j=>Zo (R a j)) hb
 have rba:=ZI (fun j=>Zo (R b j)) ha
 have ia:=ZI (fun j=>Zg (at' j)) ha
 have ib:=ZI (fun j=>Zg (at' j)) hb
 refine AF.of_body 103 func65 rfl ntmps65 (Xa rfl) ?_
 intro w0 M0 vs hl hv
 obtain ⟨v0,v1,v2,v3,v4,v5,rfl⟩:=Zf0 hl
 obtain rfl:=hv 2 _ _ rfl rfl
 obtain rfl:=hv 3 _ _ rfl rfl
 obtain rfl:=hv 4 _ _ rfl rfl
 clear hl hv
 dsimp only [W1,DU]
 refine Zd ?_
 (refine xL 12 Zb ?_<;>refine Zh ?_)
 (refine xL 13 Za ?_<;>refine Zh ?_)
 (refine xL 15 YY (xL 14 Zb ?_)<;>refine Zc ?_)
 refine cX ?_ ?_<;>intro hb14
 · first|exact bN hb14|(
 refine Zd ?_;(refine xL 16 Za (xL 17 Yc (xL 18 (Ye YD) ?_))<;>(refine yL 19 (Zt Yy) fun v19 h=>?_;cases h)<;>refine xL 20 Za (xL 21 (Zn ZX) ?_)<;>(refine yL 22 (Zt ZC) fun v22 h=>?_;cases h)<;>refine xL 23 Za (xL 24 (Zn ZG) ?_)<;>(refine yL 25 (Zt ZW) fun v25 h=>?_;cases h)<;>refine xL 26 Yj (xL 12 Zb ?_)<;>refine Zc ?_)
 refine Zi (results65) rfl ?_;unfold JR;rw [UA hb14])
 · first | exact bN hb14|(
 refine Zd ?_;(refine xL 28 YY (xL 27 Zb ?_)<;>refine Zc ?_)
 refine cX ?_ ?_<;>intro hb27
 · first|exact bN hb27|(
 refine nav ?_;(refine ZR (fun i=>([]:List Nat).elem i) [] kR ?_<;>refine xD 0 29 rfl Za ?_<;>refine xD 1 30 rfl Za ?_<;>refine xD 2 31 rfl (Zn ZE) ?_<;>(refine yD 3 32 rfl (Zt Zx) fun v32 h=>?_;cases h)<;>refine xD 4 33 rfl Za ?_<;>refine xE 5 34 rfl Za ?_<;>refine xE 6 35 rfl (Zn ZE) ?_<;>(refine yE 7 36 rfl (Zt Zx) fun v36 h=>?_;cases h)<;>refine xE 8 37 rfl Kj ?_<;>refine xE 9 38 rfl Za ?_<;>(refine bDd 38 (fun hb38=>?_) (fun hb38=>?_)<;>(first|refine kD 10 39 rfl ?_|refine xD 10 39 rfl Za ?_))<;>(first|refine kD 11 40 rfl ?_|refine xD 11 40 rfl Za ?_)<;>(first|refine kD 12 41 rfl ?_|refine xD 12 41 rfl (Zn ZX) ?_)<;>(first|refine kD 13 42 rfl ?_|(refine yD 13 42 rfl (Zt ZC) fun v42 h=>?_;cases h))<;>(first|refine kD 14 43 rfl ?_|refine xD 14 43 rfl Za ?_)<;>(first|refine kD 15 44 rfl ?_|refine xD 15 44 rfl (Zn ZG) ?_)<;>(first|refine kD 16 45 rfl ?_|(refine yD 16 45 rfl (Zt ZW) fun v45 h=>?_;cases h))<;>(first|refine kD 17 46 rfl ?_|refine xD 17 46 rfl Za ?_)<;>(first|refine kD 18 47 rfl ?_|(refine bD 46 (fun hb46=>?_) (fun hb46=>?_)<;>(first|refine kD 18 47 rfl ?_|refine xD 18 47 rfl Za ?_)))<;>(first|refine kD 19 48 rfl ?_|refine xD 19 48 rfl Za ?_)<;>(first|refine kD 20 49 rfl ?_|refine xD 20 49 rfl (Zn ZX) ?_)<;>(first|refine kD 21 50 rfl ?_|(refine yD 21 50 rfl (Zt ZC) fun v50 h=>?_;cases h))<;>(first|refine kD 22 51 rfl ?_|refine xD 22 51 rfl Za ?_)<;>(first|refine kD 23 52 rfl ?_|refine xD 23 52 rfl (Zn ZG) ?_)<;>(first|refine kD 24 53 rfl ?_|(refine yD 24 53 rfl (Zt ZW) fun v53 h=>?_;cases h))<;>(first|refine kD 25 54 rfl ?_|refine xD 25 54 rfl Yj ?_)<;>(first|refine kD 26 55 rfl ?_|refine xD 26 55 rfl Zv ?_)<;>refine xE 27 56 rfl Zv ?_<;>refine xE 28 12 rfl Zb ?_<;>refine YU kR (nav ?_)<;>try dsimp only)<;>(
 refine Zi (results65) rfl ?_;unfold JR;rw [Uz hb14,UA hb27]
 first
  |rw [Ux hb38];rfl
  |rw [Uy hb38,hb46];simp))
 · first | exact bN hb27|(
 refine Zd ?_;(refine xL 58 YY (xL 57 Zb ?_)<;>refine Zc ?_)
 refine cX ?_ ?_<;>intro hb57
 · first|exact bN hb57|(
 refine Zd ?_;(refine xL 59 Za (xL 60 Yc (xL 61 (Ye YD) ?_))<;>(refine yL 62 (Zt Yy) fun v62 h=>?_;cases h)<;>refine xL 63 Za (xL 64 (Zn ZX) ?_)<;>(refine yL 65 (Zt ZC) fun v65 h=>?_;cases h)<;>refine xL 66 Za (xL 67 (Zn ZG) ?_)<;>(refine yL 68 (Zt ZW) fun v68 h=>?_;cases h)<;>refine xL 12 Zb ?_<;>refine Zc ?_)
 refine Zi (results65) rfl ?_;unfold JR;rw [Uz hb14,Uz hb27,UA hb57])
 · first | exact bN hb57|(
 refine Zd ?_;(refine xL 70 Za (xL 71 Za (xL 72 (Zn ZE) ?_))<;>(refine yL 73 (Zt Zx) fun v73 h=>?_;cases h)<;>refine xL 74 Y9 (xL 75 Za ?_)<;>(refine bLd 75 (fun hb75=>?_) (fun hb75=>?_)<;>(first|refine kL 76 ?_|refine xL 76 Za ?_))<;>(first|refine kL 77 ?_|refine xL 77 Za ?_)<;>(first|refine kL 78 ?_|refine xL 78 (Zn ZE) ?_)<;>(first|refine kL 79 ?_|(refine yL 79 (Zt Zx) fun v79 h=>?_;cases h))<;>(first|refine kL 80 ?_|refine xL 80 Y9 ?_)<;>refine xL 81 Zv (xL 69 Zb ?_)<;>refine Zc ?_)<;>(
 refine cX ?_ ?_<;>intro hb69
 · first|exact bN hb69|(
 refine Zd ?_;(refine xL 82 Za (xL 83 Yc (xL 84 (Ye YD) ?_))<;>(refine yL 85 (Zt Yy) fun v85 h=>?_;cases h)<;>refine xL 86 Za (xL 87 (Zn ZX) ?_)<;>(refine yL 88 (Zt ZC) fun v88 h=>?_;cases h)<;>refine xL 89 Za (xL 90 (Zn ZG) ?_)<;>(refine yL 91 (Zt ZW) fun v91 h=>?_;cases h)<;>refine xL 92 Yj (xL 12 Zb ?_)<;>refine Zc ?_)
 refine Zi (results65) rfl ?_;unfold JR;rw [Uz hb14,Uz hb27,Uz hb57,UA ⟨oM,oM⟩])
 · first|exact bN hb69|(
 refine Zd ?_;(refine xL 94 Za (xL 95 Za (xL 96 (Zn ZE) ?_))<;>(refine yL 97 (Zt Zx) fun v97 h=>?_;cases h)<;>refine xL 98 YY (xL 93 Zb ?_)<;>refine Zc ?_)
 refine cX ?_ ?_<;>intro hb93
 · first|exact bN hb93|(
 refine Zd ?_;(refine xL 99 Za (xL 100 Za (xL 101 Za ?_))<;>(refine cS 102 (cA call63 (HR l n E S F a b hl hn ha hb)) fun v102 h=>?_;cases h)<;>refine xL 12 Zb ?_<;>refine Zc ?_)
 refine Zi (results65) rfl ?_;unfold JR;rw [Uz hb14,Uz hb27,Uz hb57,Uz oM,UA oM])
 · first|exact bN hb93|(
 refine Zd ?_;(refine xL 12 Zb ?_<;>refine Zc ?_)
 refine Zi (results65) rfl ?_;unfold JR;rw [Uz hb14,Uz hb27,Uz hb57,Uz oM,Uz oM]))))))
def Ps (g:Dfg) (p:PV):Prop:=p=if WU g then .tup [ZdV g,Zg 0] else .tup [.val (.pointer none),Zg 1]
theorem HS (g:Dfg) (hf:Zcl g) (ha:g.acts.length≤1000000) (hs:g.starts.length≤1000000) (he:g.ends.length≤1000000):AF prog 46 [WS g] (Ps g):=by
 refine AF.of_body 9 func46 rfl ntmps46 (Xa rfl) ?_
 intro w0 M0 vs hl hv
 obtain ⟨v0,rfl⟩:=WO hl
 clear hl hv
 refine Zd ?_
 (refine Yr 1 4 fun h1=>?_<;>refine xL 2 Zb (xL 3 Zb ?_)<;>refine Zh ?_)
 ((refine yL 4 (YG 1 Z9) fun v4 h=>?_;cases h)<;>(refine cS 5 (cA call103 (Zcm g hf ha hs he)) fun v5 h=>?_;cases h)<;>refine xL 6 Yj ?_<;>refine Zc ?_)
 refine cX ?_ ?_<;>intro hb6
 · first|exact bN hb6|(
 refine Zd ?_;(refine xL 2 Zb (xL 3 Zb ?_)<;>refine Zc ?_)
 refine Wp (results46) rfl rfl ?_;unfold Ps;rw [show WU g=false by simpa using hb6];rfl)
 · first|exact bN hb6|(
 refine Zd ?_;((refine yL 7 (YG 1 Z9) fun v7 h=>?_;cases h)<;>(refine cS 8 (cA call104 (ZfI g (by simpa using hb6) hf.2.2.2.1 hf.2.1.1 hf.2.2.1.1)) fun v8 h=>?_;cases h)<;>refine xL 2 Zb (xL 3 Zb ?_)<;>refine Zc ?_)
 refine Wp (results46) rfl rfl ?_;unfold Ps;rw [show WU g=true by simpa using hb6];rfl)
end Go.Proofs.YtmkojdfiadbeeaaGreat
namespace Go.Cb
set_option linter.all false
theorem OK:∀l:List UInt8,Op.bytesLess l l=false
 |[]=>rfl
 |a::l=>by simp [Op.bytesLess,OK l,UInt8.lt_irrefl]
theorem HT:∀a b c:List UInt8,Op.bytesLess a b=true→Op.bytesLess b c=true→Op.bytesLess a c=true
 |_,_,[],_,h=>by cases h':(‹List UInt8›:List UInt8)<;>simp_all [Op.bytesLess]
 |_,[],_::_,h,_=>by simp [Op.bytesLess] at h
 |[],_::_,_::_,_,_=>rfl
 | x ::a,y::b,z::c,h1,h2=>by
   simp only [Op.bytesLess,X9,Xd,Uw,beq_iff_eq] at h1 h2 ⊢;rcases h1 with h1|⟨rfl,h1⟩
   · rcases h2 with h2|⟨rfl,h2⟩
     · exact .inl (UInt8.lt_trans h1 h2)
     · exact .inl h1
   · rcases h2 with h2|⟨rfl,h2⟩
     · exact .inl h2
     · exact .inr ⟨rfl,HT a b c h1 h2⟩
theorem HU:∀a b:List UInt8,Op.bytesLess a b=false→Op.bytesLess b a=false→a=b
 |[],[],_,_=>rfl
 |[],_::_,h,_=>by simp [Op.bytesLess] at h
 |_::_,[],_,h=>by simp [Op.bytesLess] at h
 | x::a,y::b,h1,h2=>by
   simp only [Op.bytesLess,Bool.or_eq_false_iff,decide_eq_false_iff_not] at h1 h2;have hxy:x=y:=UInt8.le_antisymm (UInt8.not_lt.1 h2.1) (UInt8.not_lt.1 h1.1);subst hxy;simp only [beq_self_eq_true,V9] at h1 h2;rw [HU a b h1.2 h2.2]
theorem Wt (a:ByteArray):strLt a a=false:=OK _
theorem Wu {a b c:ByteArray} (h:strLt a b=true) (k:strLt b c=true):strLt a c=true:=HT _ _ _ h k
theorem KF {a b:ByteArray} (h:strLt a b=false) (k:strLt b a=false):a=b:=by
 have:=HU _ _ h k
 rw [ByteArray.toList_eq,ByteArray.toList_eq] at this
 exact WideShapes.bytes_inj this
theorem Wc {a b:ByteArray}:Ya a b=0↔a=b:=by
 unfold Ya
 constructor
 · intro h;split at h
   · omega
   · split at h
     · rename_i h2;exact WW.1 h2
     · omega
 · rintro rfl;rw [Wt,WW.2 rfl];rfl
theorem K0 {a b:ByteArray}:Ya a b<0↔strLt a b=true:=by
 unfold Ya
 constructor
 · intro h;split at h
   · assumption
   · split at h<;>omega
 · intro h;rw [h,UA rfl];decide
theorem YM:∀{l m:List ByteArray},cmpStrs l m=0↔l=m
 |[],[]=>by simp [cmpStrs]
 |[],_::_=>by simp [cmpStrs]
 |_::_,[]=>by simp [cmpStrs]
 | a ::l,b::m=>by
   rw [cmpStrs];split
   · rename_i h;rw [YM,Wc.1 h];simp
   · rename_i h;constructor
     · intro h';exact UB h' h
     · intro h';cases h';exact UB (Wc.2 rfl) h
def ltW (l m:List ByteArray):Bool:=decide (cmpStrs l m<0)
theorem Pt {a b:ByteArray} {l m:List ByteArray}:ltW (a::l) (b::m)=true↔strLt a b=true∨(a=b∧ltW l m=true):=by
 unfold ltW
 rw [cmpStrs]
 split
 · rename_i h;have:=Wc.1 h;subst this;simp [Wt]
 · rename_i h;rw [Uw,K0];constructor
   · exact .inl
   · rintro (h1|⟨rfl,_⟩)
     · exact h1
     · exact UB (Wc.2 rfl) h
theorem GY (l:List ByteArray):ltW l l=false:=by unfold ltW;rw [YM.2 rfl];rfl
theorem K1:∀{a b c:List ByteArray},ltW a b=true→ltW b c=true→ltW a c=true
 |_,b,[],_,h=>by cases b<;>simp [ltW,cmpStrs] at h
 |a,[],_::_,h,_=>by cases a<;>simp [ltW,cmpStrs] at h
 |[],_::_,_::_,_,_=>by simp [ltW,cmpStrs]
 | x ::a,y::b,z::c,h1,h2=>by
   rw [Pt] at h1 h2 ⊢;rcases h1 with h1|⟨rfl,h1⟩
   · rcases h2 with h2|⟨rfl,h2⟩
     · exact .inl (Wu h1 h2)
     · exact .inl h1
   · rcases h2 with h2|⟨rfl,h2⟩
     · exact .inl h2
     · exact .inr ⟨rfl,K1 h1 h2⟩
theorem JB:∀{a b:List ByteArray},ltW a b=false→ltW b a=false→a=b
 |[],[],_,_=>rfl
 |[],_::_,h,_=>by simp [ltW,cmpStrs] at h
 |_::_,[],_,h=>by simp [ltW,cmpStrs] at h
 | x::a,y::b,h1,h2=>by
   have g1:¬(strLt x y=true∨(x=y∧ltW a b=true)):=fun h=>by rw [Pt.2 h] at h1;cases h1
   have g2:¬(strLt y x=true∨(y=x∧ltW b a=true)):=fun h=>by rw [Pt.2 h] at h2;cases h2
   have hxy:x=y:=KF (by cases h:strLt x y with|false=>rfl|true=>exact UB (.inl h) g1) (by cases h:strLt y x with|false=>rfl|true=>exact UB (.inl h) g2);subst hxy;rw [JB (a:=a) (b:=b) (by cases h:ltW a b with|false=>rfl|true=>exact UB (.inr ⟨rfl,h⟩) g1) (by cases h:ltW b a with|false=>rfl|true=>exact UB (.inr ⟨rfl,h⟩) g2)]
def bump:List Var→List ByteArray→Int→List Var
 |[],w,n=>[⟨w,n⟩]
 |x::r,w,n=>if x.acts=w then ⟨x.acts,x.count+n⟩::r else x::bump r w n
def Asc (r:List Var):Prop:=r.Pairwise fun x y=>ltW x.acts y.acts=true
theorem Pu {w:List ByteArray} {n:Int}:∀{r:List Var} {x:Var},x∈YF r w n→x.acts=w∨x∈r
 |[],x,h=>by simp [YF] at h;exact .inl (by rw [h])
 | y :: r,x,h=>by
   rw [YF] at h;split at h
   · rcases Xn.1 h with rfl|h
     · exact .inr sM
     · exact (Pu h).imp id fun h=>by simp [h]
   · split at h
     · rcases Xn.1 h with rfl|h
       · exact .inl rfl
       · exact .inr (by simp [h])
     · rcases Xn.1 h with rfl|h
       · exact .inl rfl
       · exact .inr h
theorem Pv {w:List ByteArray} {n:Int}:∀{r:List Var},Asc r→Asc (YF r w n)
 |[],_=>by simp [YF,Asc]
 | x :: r, h=>by
   have hx:=XB.1 h;rw [YF];split
   · rename_i hc;refine XB.2 ⟨fun y hy=>?_,Pv hx.2⟩;rcases Pu hy with h1|h1
     · rw [h1];simpa [ltW] using hc
     · exact hx.1 y h1
   · split
     · rename_i hc;have hw:x.acts=w:=YM.1 hc;refine XB.2 ⟨fun y hy=>?_,hx.2⟩;show ltW w y.acts=true;rw [←hw];exact hx.1 y hy
     · rename_i h1 h2;have hlt:ltW w x.acts=true:=by
        cases h3:ltW w x.acts with
        |true=>rfl
        | false=>
          (have h4:ltW x.acts w=false:=by simpa [ltW] using h1);exact UB (YM.2 (JB h4 h3)) h2
       refine XB.2 ⟨fun y hy=>?_,h⟩;rcases Xn.1 hy with rfl|hy
       · exact hlt
       · exact K1 hlt (hx.1 y hy)
def Nodup (r:List Var):Prop:=r.Pairwise fun x y=>x.acts≠y.acts
theorem Asc.nodup {r:List Var} (h:Asc r):Nodup r:=h.imp fun {x y} h e=>by rw [e,GY] at h;cases h
theorem Nodup.perm {r s:List Var} (h:Nodup r) (p:r.Perm s):Nodup s:=(p.pairwise_iff (fun {x y} h=>Ne.symm h)).1 h
theorem Sn {w:List ByteArray} {n:Int}:∀{r:List Var},(∀x∈r,x.acts≠w)→bump r w n=r++[⟨w,n⟩]
 |[],_=>rfl
 |x::r,h=>by rw [bump,Uz (h x sM),Sn fun y hy=>h y (by simp [hy])];rfl
theorem ZaI {w:List ByteArray} {n:Int} {r s:List Var} (hn:Nodup r) (p:r.Perm s):(bump r w n).Perm (bump s w n):=by
 induction p with
 |nil=>exact .refl _
 | cons x p ih=>
   have h:=XB.1 hn;simp only [bump];split
   · exact p.cons _
   · exact (ih h.2).cons _
 | swap x y l=>
   have h:=XB.1 hn;have hxy:y.acts≠x.acts:=h.1 x sM;simp only [bump];by_cases h1:y.acts=w
   · have h2:x.acts≠w:=fun e=>hxy (h1.trans e.symm);rw [UA h1,Uz h2,UA h1];exact .swap ..
   · by_cases h2:x.acts=w
     · rw [Uz h1,UA h2,UA h2];exact .swap ..
     · rw [Uz h1,Uz h2,Uz h2,Uz h1];exact .swap ..
 |trans p q ih1 ih2=>exact (ih1 hn).trans (ih2 (hn.perm p))
theorem HV {w:List ByteArray} {n:Int}:∀{r:List Var},Asc r→(YF r w n).Perm (bump r w n)
 |[],_=> .refl _
 | x :: r, h=>by
   have hx:=XB.1 h;rw [YF,bump];split
   · rename_i hc;(have hne:x.acts≠w:=fun e=>by rw [YM.2 e] at hc;omega);rw [Uz hne];exact (HV hx.2).cons _
   · split
     · rename_i hc;have hw:x.acts=w:=YM.1 hc;rw [UA hw,hw]
     · rename_i h1 h2;have hne:x.acts≠w:=fun e=>h2 (YM.2 e);have hlt:ltW w x.acts=true:=by
        cases h3:ltW w x.acts with
        |true=>rfl
        | false=>
          (have h4:ltW x.acts w=false:=by simpa [ltW] using h1);exact UB (YM.2 (JB h4 h3)) h2
       rw [Uz hne,Sn fun y hy e=>by
        have h5:=K1 hlt (hx.1 y hy);rw [e,GY] at h5;cases h5]
       have:=(Ui (l₁:=[(⟨w,n⟩:Var)]) (l₂:=x::r));simpa using this
theorem Pw:∀{r s:List Var},Asc r→Asc s→r.Perm s→r=s
 |[],s,_,_,p=>(List.nil_perm.1 p).symm
 |x::r,[],_,_,p=>UB p.length_eq sM
 | x :: r,y::s,hr,hs,p=>by
   have h1:=XB.1 hr;have h2:=XB.1 hs;have hxy:x=y:=by
    have hx:x∈y::s:=p.mem_iff.1 sM;have hy:y∈x::r:=p.mem_iff.2 sM;rcases Xn.1 hx with e|hx
    · exact e
    · rcases Xn.1 hy with e|hy
      · exact e.symm
      · have a:=h2.1 x hx;have b:=h1.1 y hy;have:=K1 a b;rw [GY] at this;cases this
   subst hxy;rw [Pw h1.2 h2.2 (List.Perm.cons_inv p)]
theorem HW {r s t:List Var} (h1:Asc s) (h2:r.Perm s) (h3:Asc t) (h4:t.Perm r):t=s:=Pw h3 h1 (h4.trans h2)
theorem ZaJ {w:List ByteArray} {n:Int} {r s:List Var} (h1:Asc s) (h2:r.Perm s):(bump r w n).Perm (YF s w n):=
 (ZaI ((h1.nodup).perm h2.symm) h2).trans (HV h1).symm
end Go.Cb
namespace Go.Proofs.YtmkojdfiadbeeaaGreat
open Go.RowKit Go.Cb Go.En Tryz
set_option linter.all false
set_option maxRecDepth 100000
theorem S2 {l:List ByteArray} {s:ByteArray} (h:s∈l):hasStr l s=true:=by unfold hasStr;rw [XS];exact ⟨s,h,WW.2 rfl⟩
end Go.Proofs.YtmkojdfiadbeeaaGreat
namespace Go.Cb
open Go.En
set_option linter.all false
structure Grows (n:Nat) (E R:Nat→Nat→Bool):Prop where
 lo:∀i j,i<n→j<n→E i j=true→R i j=true
 hi:∀T,Closed n E T→∀i j,i<n→j<n→R i j=true→T i j=true
def Before (a b c a' b' c':Nat):Prop:=a'<a∨(a'=a∧(b'<b∨(b'=b∧c'<c)))
structure Pass (n:Nat) (E R0 R:Nat→Nat→Bool) (ag:Bool) (a b c:Nat):Prop where
 gr:Grows n E R
 dn:ag=true→cntM n R<cntM n R0
 st:ag=false→R=R0∧∀a' b' c',a'<n→b'<n→c'<n→Before a b c a' b' c'→R0 a' b'=true→R0 b' c'=true→R0 a' c'=true
end Go.Cb
namespace Go.Proofs.YtmkojdfiadbeeaaGreat
open Go.RowKit Go.Cb Go.En Tryz
set_option linter.all false
set_option maxRecDepth 100000
theorem S3:FldT prog 42 0 0=true:=by kernel_rfl
theorem S4:FldT prog 42 1 1=true:=by kernel_rfl
theorem So:MpT prog 78 9 3 .string (.int .i64 0):=⟨underlying78,underlying9, .inl rfl,by show ZeroT _ _ _;unfold ZeroT;kernel_rfl⟩
theorem ZaK:NoAgg prog 26=true:=by kernel_rfl
theorem HZ:NoAgg prog 3=true:=by kernel_rfl
theorem OL:NoAgg prog 40=true:=by kernel_rfl
theorem H3:NoAgg prog 9=true:=by kernel_rfl
theorem LX:SlT prog 26 9 1=true:=by kernel_rfl
theorem Sp:SlT prog 40 26 1=true:=by kernel_rfl
def Lc (i:Nat) (p:List ByteArray):List (ByteArray×Value):=p.map fun s=>(s,Value.int .i64 (i:Int))
def ZP:Nat→List (List ByteArray)→List (ByteArray×Value)
 |_,[]=>[]
 |i,p::ps=>Lc i p++ZP (i+1) ps
theorem TW:∀(ps:List (List ByteArray)) (i:Nat) (p:List ByteArray),ZP i (ps++[p])=ZP i ps++Lc (i+ps.length) p
 |[],i,p=>by simp [ZP]
 | q::ps,i,p=>by
   rw [X2,ZP,ZP,TW ps (i+1) p,XM];congr 3;simp;omega
theorem S5 {es fs:List (ByteArray×Value)} {s:ByteArray}:YT (es++fs) s=match YT es s with|some v=>some v|none=>YT fs s:=by
 induction es with
 |nil=>rfl
 | cons x l ih=>
   simp only [X2,YT];split
   · rfl
   · exact ih
theorem OM (i:Nat) (p:List ByteArray) (s:ByteArray):YT (Lc i p) s=if hasStr p s then some (.int .i64 (i:Int)) else none:=by
 induction p with
 |nil=>rfl
 | cons x p ih=>
   simp only [Lc,Xk,YT];by_cases h:s=x
   · subst h;(have:hasStr (s::p) s=true:=by unfold hasStr;simp;exact .inl (WW.2 rfl));simp [this]
   · have h0:WA x s=false:=by
      cases h1:WA x s
      · rfl
      · exact UB (WW.1 h1).symm h
     (have:hasStr (x::p) s=hasStr p s:=by unfold hasStr;simp [h0]);rw [Uz h,this];exact ih
theorem TX:∀(ps:List (List ByteArray)) (i:Nat) (s:ByteArray),YT (ZP i ps) s=(ps.findIdx? fun p=>hasStr p s).map fun (j:Nat)=>Value.int .i64 ((i+j:Nat):Int)
 |[],i,s=>rfl
 | p ::ps,i,s=>by
   rw [ZP,S5,OM,List.findIdx?_cons,TX ps (i+1) s]
   cases hasStr p s
   · simp [Function.comp_def]
     cases ps.findIdx? fun p=>hasStr p s<;>simp;omega
   · simp
theorem JS (ps:List (List ByteArray)) (s:ByteArray):YT (ZP 0 ps) s=(Ja ps s).map fun n=>Value.int .i64 n:=by
 rw [TX]
 unfold Ja
 rw [Option.map_map]
 congr 1
 funext j
 simp
theorem Px {es:List (ByteArray×Value)} {s:ByteArray} {v:Value} (h:YT es s=none):Wr es s v=es++[(s,v)]:=by
 induction es with
 |nil=>rfl
 | cons x l ih=>
   simp only [YT] at h;split at h
   · cases h
   · rename_i hx;rw [Wr,Uz hx,ih h,X2]
theorem S6:∀(ps:List (List ByteArray)) (i:Nat),(ZP i ps).length=ps.flatten.length
 |[],_=>rfl
 |p::ps,i=>by rw [ZP,Xe,S6 ps,XT,Xe];simp [Lc]
theorem Zcr (ps:List (List ByteArray)) (p:List ByteArray) (s:ByteArray) (k:Nat):(YT (ZP 0 ps++Lc k p) s).isSome=hasStr (ps.flatten++p) s:=by
 rw [S5,JS]
 have h1:=Pk ps s
 have h2:hasStr (ps.flatten++p) s=(hasStr ps.flatten s||hasStr p s):=by unfold hasStr;rw [V']
 rw [h2,←h1,OM]
 cases Ja ps s<;>cases hasStr p s<;>rfl
def Cr (c:Cut) (p:PV):Prop:=∃q,p= .tup [q,Zo (Z8 c)]∧(Z8 c=true→q= .omap (skv (ZP 0 c.parts)))∧(q= .val (.map none)∨∃es,q= .omap es)
theorem LY {c:Cut} (h:W3 [] c.parts=false):Z8 c=false:=by unfold Z8;rw [h];simp
theorem LZ {c:Cut} (h:Z8 c=false):Cr c (.tup [.val (.map none),Zo false]):=⟨_,by rw [h],fun h'=>(by rw [h] at h';cases h'), .inl rfl⟩
set_option maxHeartbeats 1000000 in
theorem Lu (c:Cut) (hs:∀p∈c.parts,∀s∈p,s.size≤140737488355328):AF prog 64 [RV c] (Cr c):=by
 refine AF.of_body 75 func64 rfl ntmps64 (Xa rfl) ?_
 intro w0 M0 vs hl hv
 obtain ⟨v0,rfl⟩:=WO hl
 clear hl hv
 refine Zd ?_
 (refine Yr 1 2 fun h1=>?_<;>refine xL 2 Zb (xL 3 Zb ?_)<;>refine Zh ?_)
 (refine GR 11 fun h11 ho11=>?_<;>refine xL 4 Zb ?_<;>refine Zh ?_)
 (refine xL 12 (Zm 1 S4) ?_<;>(refine yL 13 (Zp 1 OL) fun v13 h=>?_;cases h)<;>refine xL 14 (ZF Sp) (xL 15 Za ?_)<;>refine Zc ?_)
 refine Y0 13 rfl fun hlen=>?_
 refine Zw (ι:={k:Nat//k≤c.parts.length∧W3 [] c.parts=W3 (c.parts.take k).flatten (c.parts.drop k)}) (fun k=>⟨[(1,ZH (Zs h1) 0, .val (ZH (Zs h1) 0)),(4,h11, .val h11),(13,v13,Kx c.parts),(14, .int .i64 c.parts.length,Zg c.parts.length),(15, .int .i64 k.1,Zg k.1)],[(1,h1, .own 42 2 1 [Zg c.kind,Kx c.parts]),(11,h11, .omap (skv (ZP 0 (c.parts.take k.1))))]⟩) (fun k=>c.parts.length-k.1) ⟨0,oM,rfl⟩ (fun a w H=>H.weaken ⟨rfl,rfl,rfl,rfl,rfl,trivial⟩ ⟨rfl,rfl,trivial⟩) ?_
 rintro ⟨k,hk,hpre⟩
 dsimp only
 refine Zd ?_
 (refine xL 16 ZN ?_<;>refine Zc ?_)
 refine ZM rfl ?_ ?_
 · intro hb;have hlt:k<c.parts.length:=by have:=UC hb;omega
   obtain ⟨p,hx⟩:=Zj hlt;have e1:=Yn (f:=ZQ) hx;have hpm:=hs p (Xb hx);have HD:W3 (c.parts.take k).flatten (c.parts.drop k)=((GJ p&&JL (c.parts.take k).flatten p)&&W3 (c.parts.take (k+1)).flatten (c.parts.drop (k+1))):=by
    rw [YZ hx,W3,Zaj hx]
   refine Zd ?_;(refine xL 17 Za (xL 18 (Zn Sp) ?_)<;>(refine yL 19 (Zt ZaK) fun v19 h=>?_;cases h)<;>refine xL 5 Zb (xL 6 Zb ?_)<;>refine Zc ?_)
   refine Y0 6 rfl fun hlenp=>?_;(refine Zk ?_<;>refine xL 20 Za (xL 21 (ZF LX) (xL 22 Za ?_))<;>refine Zc ?_)
   refine Zw (ι:={j:Nat//j≤p.length∧∀m s,m<j→p[m]? =some s→Pn (c.parts.take k).flatten p m s}) (fun j=>⟨[(1,ZH (Zs h1) 0, .val (ZH (Zs h1) 0)),(4,h11, .val h11),(5, .int .i64 k,Zg k),(6,v19,ZQ p),(20,v19,ZQ p),(21, .int .i64 p.length,Zg p.length),(22, .int .i64 j.1,Zg j.1),(13,v13,Kx c.parts),(14, .int .i64 c.parts.length,Zg c.parts.length),(15, .int .i64 k,Zg k)],[(1,h1, .own 42 2 1 [Zg c.kind,Kx c.parts]),(11,h11, .omap (skv (ZP 0 (c.parts.take k)++Lc k (p.take j.1))))]⟩) (fun j=>p.length-j.1) ⟨0,oM,fun m s hm=>oM⟩ (fun a w H=>H.weaken ⟨rfl,rfl,rfl,rfl,rfl,rfl,rfl,rfl,rfl,rfl,trivial⟩ ⟨rfl,by simp [Lc];rfl,trivial⟩) ?_;rintro ⟨j,hj,hprei⟩;dsimp only;refine Zd ?_;(refine xL 23 ZN ?_<;>refine Zc ?_)
   refine ZM rfl ?_ ?_
   · intro hb2;(have hltj:j<p.length:=by have:=UC hb2;omega);obtain ⟨s,hsj⟩:=Zj hltj;have e2:=Yn (f:=ZS) hsj;have hss:=hpm s (Xb hsj);have hy:0<j→∃y,p[j-1]? =some y∧(p.map ZS)[j-1]? =some (ZS y):=fun h0=>by
      obtain ⟨y,hy⟩:=Zj (show j-1<p.length by omega);exact ⟨y,hy,by rw [Xl,hy];rfl⟩
     have hmg:=W4 (ZP 0 (c.parts.take k)++Lc k (p.take j)) s;have hsome:=Zcr (c.parts.take k) (p.take j) s k;refine Zd ?_;(refine xL 24 Za (xL 25 (Zn LX) ?_)<;>(refine yL 26 (Zt H3) fun v26 h=>?_;cases h)<;>refine xL 7 Zb (xL 8 Zb ?_)<;>refine Zh ?_)
     (refine xL 28 Za (xL 29 Za (xL 30 (R4 11 So) (xL 27 Za (xL 31 Zl (xL 32 Zl (xL 9 Zb (xL 10 Zb ?_)))))))<;>refine Zh ?_)
     (refine xL 33 Za (xL 34 Za ?_)<;>(refine bL 34 (fun hb34=>?_) (fun hb34=>?_)<;>(first|refine kL 35 ?_|refine xL 35 Za ?_))<;>(first|refine kL 36 ?_|(refine TF 36 rfl rfl (Xa rfl) (JJ rfl (call98) rfl (R8 s oM)) ?_;rintro p' rfl;refine ⟨rfl,?_⟩;intro v36 hv36;cases hv36))<;>(first|refine kL 37 ?_|refine xL 37 Yj ?_)<;>refine xL 38 Zv (xL 39 Za ?_)<;>(first|refine kL 40 ?_|(refine bL 39 (fun hb39=>?_) (fun hb39=>?_)<;>(first|refine kL 40 ?_|refine xL 40 Za ?_)))<;>(first|refine kL 41 ?_|refine xL 41 Kj ?_)<;>(first|refine kL 42 ?_|refine xL 42 Za ?_)<;>(first|refine kL 43 ?_|(refine bLd 42 (fun hb42=>?_) (fun hb42=>?_)<;>(first|refine kL 43 ?_|refine xL 43 Za ?_)))<;>(first|refine kL 44 ?_|refine xL 44 Za ?_)<;>(first|refine kL 45 ?_|refine xL 45 KW ?_)<;>(first|refine kL 46 ?_|refine xL 46 (Tf LX) ?_)<;>(first|refine kL 47 ?_|(refine (hy oM).elim fun y hy12=>?_;refine Rq 47 rfl rfl (Xa rfl) (Sb (j-1) H3 rfl rfl oM hy12.2) ?_;intro v47 hv47;cases hv47))<;>(first|refine kL 48 ?_|refine xL 48 Za ?_)<;>(first|refine kL 49 ?_|refine xL 49 E8 ?_)<;>(first|refine kL 50 ?_|refine xL 50 Zv ?_)<;>refine xL 51 Zv ?_<;>refine Zc ?_)
     ·
      have hF:Z8 c=false:=LY (by
       rw [hpre,HD,Po hsj (fun h=>by have:=h.1;rw [←hsome,←hmg,hb34] at this;cases this)];rfl)
      refine ZM rfl ?_ (fun h=>by cases h);intro _;refine Zd ?_;(refine xL 2 Zb (xL 3 Zb ?_)<;>refine Zc ?_)
      exact Wp (results64) rfl rfl (LZ hF)
     ·
      have hF:Z8 c=false:=LY (by
       rw [hpre,HD,Po hsj (fun h=>by have:=h.2.1;rw [this] at hb39;cases hb39)];rfl)
      refine ZM rfl ?_ (fun h=>by cases h);intro _;refine Zd ?_;(refine xL 2 Zb (xL 3 Zb ?_)<;>refine Zc ?_)
      exact Wp (results64) rfl rfl (LZ hF)
     · refine ZM rfl ?_ ?_
       · intro hb3;have hF:Z8 c=false:=LY (by
          rw [hpre,HD,Po hsj (fun h=>by
           have:=h.2.2 y oM hy12.1;unfold strLt at this;rw [this] at hb3;cases hb3)];rfl)
         refine Zd ?_;(refine xL 2 Zb (xL 3 Zb ?_)<;>refine Zc ?_)
         exact Wp (results64) rfl rfl (LZ hF)
       · intro hb3;have hok:Pn (c.parts.take k).flatten p j s:=⟨by rw [←hsome,←hmg];exact hb34,by cases h:isName s<;>simp_all,fun y' _ hy'=>by
          rw [hy12.1] at hy';cases hy';unfold strLt
          cases h:Op.bytesLess y.toList s.toList
          · rw [h] at hb3;cases hb3
          · rfl⟩
         have hput:GN (skv (ZP 0 (c.parts.take k)++Lc k (p.take j))) (.string s) (.int .i64 (k:Int))=skv (ZP 0 (c.parts.take k)++Lc k (p.take (j+1))):=by
          rw [TL,Px (by rw [←W4];cases h:YP (skv (ZP 0 (c.parts.take k)++Lc k (p.take j))) (.string s) with|none=>rfl|some _=>rw [h] at hb34;cases hb34),XM,Z7 hsj];congr 2;simp [Lc]
         refine Zd ?_;(refine xL 52 Za (xL 53 Za (xL 54 Za ?_))<;>refine Lm 11 So ?_<;>refine Zh ?_)
         (refine xL 55 ZB (xL 22 Za ?_)<;>refine Zc ?_)
         refine Zf ⟨j+1,oM,fun m s' hm hs'=>?_⟩ (by show p.length-(j+1)<p.length-j;omega) ⟨rfl,rfl,rfl,rfl,rfl,rfl,rfl,rfl,rfl,rfl,trivial⟩ ⟨rfl,by show some _=some _;rw [hput],trivial⟩;by_cases e:m=j
         · subst e;rw [hsj] at hs';cases hs';exact hok
         · exact hprei m s' oM hs'
     · refine ZM rfl (fun h=>by cases h) ?_;intro _;have hok:Pn (c.parts.take k).flatten p j s:=⟨by rw [←hsome,←hmg];exact hb34,by cases h:isName s<;>simp_all,fun y' h1=>oM⟩;have hput:GN (skv (ZP 0 (c.parts.take k)++Lc k (p.take j))) (.string s) (.int .i64 (k:Int))=skv (ZP 0 (c.parts.take k)++Lc k (p.take (j+1))):=by
        rw [TL,Px (by rw [←W4];cases h:YP (skv (ZP 0 (c.parts.take k)++Lc k (p.take j))) (.string s) with|none=>rfl|some _=>rw [h] at hb34;cases hb34),XM,Z7 hsj];congr 2;simp [Lc]
       refine Zd ?_;(refine xL 52 Za (xL 53 Za (xL 54 Za ?_))<;>refine Lm 11 So ?_<;>refine Zh ?_)
       (refine xL 55 ZB (xL 22 Za ?_)<;>refine Zc ?_)
       refine Zf ⟨j+1,oM,fun m s' hm hs'=>?_⟩ (by show p.length-(j+1)<p.length-j;omega) ⟨rfl,rfl,rfl,rfl,rfl,rfl,rfl,rfl,rfl,rfl,trivial⟩ ⟨rfl,by show some _=some _;rw [hput],trivial⟩;by_cases e:m=j
       · subst e;rw [hsj] at hs';cases hs';exact hok
       · exact hprei m s' oM hs'
   · intro hb2;(have hge:p.length≤j:=by have:=UD hb2;omega);refine Zd ?_;(refine xL 56 Za (xL 57 (ZF LX) (xL 58 YY ?_))<;>refine Zc ?_)
     refine ZM rfl ?_ ?_
     · intro hb3;have h0:p=[]:=XC (by have:=UC hb3;omega);have hF:Z8 c=false:=LY (by rw [hpre,HD,h0];rfl);refine Zd ?_;(refine xL 2 Zb (xL 3 Zb ?_)<;>refine Zc ?_)
       exact Wp (results64) rfl rfl (LZ hF)
     · intro hb3;(have h0:p≠[]:=fun h=>by rw [h] at hb3;cases hb3);have hok:=(HL p (c.parts.take k).flatten).2 ⟨h0,fun m s hs'=>hprei m s (by have:=Ze hs';omega) hs'⟩;have hent:ZP 0 (c.parts.take k)++Lc k (p.take j)=ZP 0 (c.parts.take (k+1)):=by
        rw [Z7 hx,TW,XV hge];congr 2;simp;omega
       refine Zd ?_;(refine xL 59 ZB (xL 15 Za ?_)<;>refine Zc ?_)
       exact Zf ⟨k+1,oM,by rw [hpre,HD,hok];rfl⟩ (by show c.parts.length-(k+1)<c.parts.length-k;omega) ⟨rfl,rfl,rfl,rfl,rfl,trivial⟩ ⟨rfl,by show some _=some _;rw [hent],trivial⟩
 · intro hb;have hge:c.parts.length≤k:=by have:=UD hb;omega
   have hgo:W3 [] c.parts=true:=by rw [hpre,XI hge];rfl
   have hent:ZP 0 (c.parts.take k)=ZP 0 c.parts:=by rw [XV hge]
   have hret:∀t,t=Z8 c→Cr c (.tup [.omap (skv (ZP 0 (c.parts.take k))),Zo t]):=fun t ht=>⟨.omap (skv (ZP 0 (c.parts.take k))),by rw [ht],fun _=>by rw [hent], .inr ⟨_,rfl⟩⟩;refine nav ?_;(refine ZR (fun i=>([]:List Nat).elem i) [1,11] kR ?_<;>refine xD 0 60 rfl Za ?_<;>refine xE 1 61 rfl (Zm 1 S4) ?_<;>(refine yE 2 62 rfl (Zp 1 OL) fun v62 h=>?_;cases h)<;>refine xE 3 63 rfl (ZF Sp) ?_<;>refine xE 4 64 rfl J6 ?_<;>refine xE 5 65 rfl Za ?_<;>(refine bDd 65 (fun hb65=>?_) (fun hb65=>?_)<;>(first|refine kD 6 66 rfl ?_|refine xD 6 66 rfl (Zm 1 S3) ?_))<;>(first|refine kD 7 67 rfl ?_|(refine yD 7 67 rfl (Zp 1 HZ) fun v67 h=>?_;cases h))<;>(first|refine kD 8 68 rfl ?_|refine xD 8 68 rfl J6 ?_)<;>refine xE 9 69 rfl Zv ?_<;>refine xE 10 70 rfl Za ?_<;>(first|refine kD 11 71 rfl ?_|(refine bDd 70 (fun hb70=>?_) (fun hb70=>?_)<;>(first|refine kD 11 71 rfl ?_|refine xD 11 71 rfl (Zm 1 S3) ?_)))<;>(first|refine kD 12 72 rfl ?_|(refine yD 12 72 rfl (Zp 1 HZ) fun v72 h=>?_;cases h))<;>(first|refine kD 13 73 rfl ?_|refine xD 13 73 rfl OH ?_)<;>refine xD 14 74 rfl Zv ?_<;>refine xE 15 2 rfl Zb ?_<;>refine xE 16 3 rfl Zb ?_<;>refine YU kR (nav ?_)<;>try dsimp only)
   · refine E1 11 (results64) rfl rfl rfl (hret _ ?_);unfold Z8;rw [hgo];(have h1:decide (1≤c.kind)=true:=by simpa using hb70);(have h2:decide (2≤c.parts.length)=true:=by simp;omega);rw [h1,h2];simp
   · refine E1 11 (results64) rfl rfl rfl (hret _ ?_);(have h1:decide (1≤c.kind)=false:=by simpa using hb70);unfold Z8;rw [h1];simp
   · refine E1 11 (results64) rfl rfl rfl (hret _ ?_);(have h2:decide (2≤c.parts.length)=false:=by simp;omega);unfold Z8;rw [h2];simp
end Go.Proofs.YtmkojdfiadbeeaaGreat
