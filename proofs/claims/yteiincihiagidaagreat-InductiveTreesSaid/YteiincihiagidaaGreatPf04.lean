/-
  Walks of functions and plain laws of the chapter, as the claim needs them.
-/
import Derived.Test.YteiincihiagidaaGreatProg
import Derived.Lib.Join
import Derived.Test.YteiincihiagidaaGreatPf03
import Derived.Test.YteiincihiagidaaGreatPf02
import Derived.Test.YteiincihiagidaaGreatPf01
import Derived.Test.YteiincihiagidaaGreatMShelf
set_option linter.all false
set_option maxRecDepth 100000
set_option maxHeartbeats 8000000
namespace Go.Proofs.YteiincihiagidaaGreat
open Go.RowKit Go.Cb Go.En Tryz
theorem Zls {w:World} {B e k n:Nat} {v:Value} {xs:List Value} (h:w.ownsRow B e k v n xs):w.ownsRow 0 e k v n xs:=⟨h.1,h.2.imp id fun ⟨g,cap,cur,h1,_,h3⟩=>⟨g,cap,cur,h1,Xg _,h3⟩⟩
theorem HV {w w':World} {M:BS} {v:Value} {e:Ending} {n te:Nat} {xs:List Value} (h1:e= .returned v) (h2:Ext w w') (h3:w'.ownsRow w.heap.size te 1 v n xs):Gy ⟨w,M,fun _=>False,0,False,[]⟩ (· = .own te 1 n (xs.map PV.val)) e w':=by
 refine ⟨v,_,fun b=>v.ownBlock=some b,h1,rfl,h2, .own xs (fun _ _=>False) (Zls h3) sM (fun i x p hx hp=>?_) (fun _ _ _ _ _ _ h=>h.elim) (fun _ _ _ h=>h.elim) (fun b=>⟨fun h=> .inl h,fun h=>h.elim id fun ⟨_,_,h⟩=>h.elim⟩),fun b hb=>(h3.lt b hb).1,fun h=>h.elim⟩
 rw [Xo,hx] at hp
 cases hp
 exact .shr (.val _) (fun _ h=>h)
theorem CZ (l:List Int) (hl:l.length≤1000000):AF prog 156 [pInts l] (· = .own 3 1 l.length (l.map Zc)):=fun M w vs hM hlen hv=>by
 obtain ⟨v,rfl⟩:=Zij hlen
 have hS:=hv 0 v _ rfl rfl
 unfold pInts at hS
 generalize hn:l.length=n at hS
 generalize hcs:l.map Zc=cs at hS
 cases hS with
 | emp a c hc ha=>
   have:l=[]:=XB hn;subst this
   cases a with
   |none=>exact (Tryz.slices_Clone_int_nil 0 c w).mono fun e w' ⟨h1,h2⟩=>HV (n:=0) (xs:=[]) h1 (h2▸Ext.rfl' _) ⟨sM, .inl ⟨rfl,rfl⟩⟩
   |some a=>exact (Tryz.slices_Clone_int_zero a c w).mono fun e w' ⟨v',h1,h2,_,h3⟩=>HV h1 h3 h2
 | sl b off n c cs vs' hnc hc hcell hT=>
   subst hn hcs;refine (Tryz.slices_Clone_int b off l.length c l w (Xe _) oM (fun j hj=>?_)).mono fun e w' ⟨v',h1,h2,_,h3⟩=>?_
   · obtain ⟨s,hs⟩:=Yl hj;have e1:=(hcell j (by rw [Xb];exact hj)).1;have e2:vs' j= .int .i64 s:=(hT j (Zc s) (by rw [Xo,hs];rfl)).vOf;rw [e1,e2,List.getD,hs];rfl
   · have:=HV (M:=M) h1 h3 h2;rw [XH,Xt] at this;exact this
def ZqW (c:List Int) (f:Nat→Bool):Bool:=c.any fun x=>f x.toNat
def Jc (S F:Nat→Bool) (c:List Int):Bool:=ZqW c S&&ZqW c F
theorem Zlt (n:Nat) (f:Nat→Bool) (x:Int) (hx:0≤x∧x<n):AF prog 182 [Zc x, .sptr 0 [Kq n f]] (· =Zv (f x.toNat)):=by
 obtain ⟨a,rfl⟩:∃a:Nat,x=a:=⟨x.toNat,oM⟩
 have e1:=YN (fun j=>Zv (f j)) (show a<n by omega)
 refine AF.b2 8 func182 rfl ntmps182 (Xa rfl) ?_
 rintro w0 M0 _ v1 rfl-
 refine YK ?_
 refine yU (ZG Z2) fun v4=>?_;refine xL 5 Za (xL 6 (Zg Yf) ?_);refine yV (ZG Yk) ?_;refine ZB ?_
 exact Zf results182 rfl rfl
theorem ZgW (l:List Int) (n:Nat) (f:Nat→Bool) (hl:∀x∈l,0≤x∧x<n):AF prog 154 [pInts l,Kq n f] (· =Zv (ZqW l f)):=by
 refine AF.b2 8 func154 rfl ntmps154 (Xa rfl) fun w0 M0 v0 v1 _ _=>?_
 refine Zh ?_
 refine Zk8 3 fun h3=>?_;refine ZB ?_
 refine Zq (T0 (l:=3) (t:=3) (j:=0) rfl Vs rfl) fun _=>?_
 try dsimp only [YV,share]
 refine Zi ?_;refine xL 5 Za (xL 6 TP ?_);refine cV (cA call181 (DN 182 [.sptr 0 [Kq n f]] (fun x=>f x.toNat) l (call182) (fun x hx=>Zlt n f x (hl x hx)))) ?_;refine ZB ?_
 exact Zf results154 rfl rfl
def Zfl (E:Nat→Nat→Bool) (a b:Int):Bool:=decide (a≠b)&& !(E a.toNat b.toNat&&E b.toNat a.toNat)
def selA (i0:Nat) (W:List Int→Bool) (b:Bool) (cs:List (List Int)):List (List Int):=(cs.zipIdx.filter fun x=>decide (x.2≠i0)&&(W x.1==b)).map (·.1)
theorem Of {i0:Nat} {W:List Int→Bool} {b:Bool} {cs:List (List Int)} {k:Nat} {c:List Int} (h:cs[k]? =some c):selA i0 W b (cs.take (k+1))=selA i0 W b (cs.take k)++(if k≠i0∧W c=b then [c] else []):=by
 have hl:(cs.take k).length=k:=by rw [XG];have:=Zd h;omega
 unfold selA
 rw [Zw h,List.zipIdx_append,UD,XC]
 congr 1
 simp only [Um,Uz,hl,XE,UV,List.filter_nil]
 by_cases h1:k≠i0∧W c=b
 · rw [Qb h1];rw [U9 h1.1,h1.2];simp
 · rw [Qa h1];by_cases h2:k≠i0
   · have h3:¬W c=b:=fun hh=>h1 ⟨h2,hh⟩;rw [show (W c==b)=false from beq_eq_false_iff_ne.2 h3];simp
   · rw [U' h2];simp
theorem C0 {i0:Nat} {W:List Int→Bool} {b:Bool} {cs:List (List Int)} {c:List Int} (h:c∈selA i0 W b cs):c∈cs∧W c=b:=by
 unfold selA at h
 obtain ⟨⟨x,i⟩,hx,rfl⟩:=Xh.1 h
 rw [Vh] at hx
 simp only [Xi,U8,beq_iff_eq] at hx
 exact ⟨by have:=List.mem_zipIdx hx.1;rw [this.2.2];exact Ve _,hx.2.2⟩
theorem Zda (i0:Nat) (W:List Int→Bool) (b:Bool) (cs:List (List Int)):(selA i0 W b cs).length≤cs.length∧(selA i0 W b cs).flatten.length≤cs.flatten.length:=by
 unfold selA
 have key:∀L:List (List Int×Nat),((L.filter fun x=>decide (x.2≠i0)&&(W x.1==b)).map (·.1)).length≤L.length∧((L.filter fun x=>decide (x.2≠i0)&&(W x.1==b)).map (·.1)).flatten.length≤(L.map (·.1)).flatten.length:=fun L=>by
  induction L with
  |nil=>simp
  | cons x L ih=>
    rw [UV];split
    · simp only [Xj,Xl,XW,Xf];omega
    · simp only [Xj,Xl,XW,Xf];omega
 have h1:=key cs.zipIdx
 rw [List.length_zipIdx,List.zipIdx_map_fst] at h1
 exact h1
def headsLe (cs:List (List Int)):Prop:=∀(i j:Nat) (a b:List Int),i<j→cs[i]? =some a→cs[j]? =some b→¬WG b-WG a<0
structure AndCs (cs:List (List Int)) (i0:Nat) (c0:List Int) (W:List Int→Bool) (ds:List (List Int)):Prop where
 perm:ds.Perm (selA i0 W true cs++[(c0++(selA i0 W false cs).flatten).mergeSort fun x y=>decide (x≤y)])
 ord:headsLe ds
theorem ZoE (l:List BA) (n:Nat) (E:Nat→Nat→Bool) (S F:Nat→Bool) (x y:Int) (hx:0≤x∧x<n) (hy:0≤y∧y<n):AF prog 152 [Zc x,Zc y, .sptr 0 [G0 l n E S F]] (· =Zv (Zfl E x y)):=by
 obtain ⟨a,rfl⟩:∃a:Nat,x=a:=⟨x.toNat,oM⟩
 obtain ⟨b,rfl⟩:∃b:Nat,y=b:=⟨y.toNat,oM⟩
 have e1:=YN (fun i=>Kq n (E i)) (show a<n by omega)
 have e2:=YN (fun j=>Zv (E a j)) (show b<n by omega)
 have e3:=YN (fun i=>Kq n (E i)) (show b<n by omega)
 have e4:=YN (fun j=>Zv (E b j)) (show a<n by omega)
 refine AF.b3 34 func152 rfl ntmps152 (Xa rfl) ?_
 rintro w0 M0 _ _ v2 rfl rfl-
 dsimp only [G0]
 refine YK ?_
 (refine OK ?_<;>(refine bLd 9 (fun hb9=>?_) (fun hb9=>?_)<;>(first|refine kL ?_|refine yU (ZG Y0) fun v10=>?_))<;>(first|refine kL ?_|refine xM WS ?_)<;>(first|refine kL ?_|refine xM (YP Kb) ?_)<;>(first|refine kL ?_|refine yU (ZG Wt) fun v13=>?_)<;>refine kZ ?_<;>(first|refine kL ?_|refine xM (Zg Yn) ?_)<;>(first|refine kL ?_|refine yU (ZG Z2) fun v16=>?_)<;>refine kZ ?_<;>(first|refine kL ?_|refine xM (Zg Yf) ?_)<;>(first|refine kL ?_|refine yV (ZG Yk) ?_)<;>refine kZ ?_<;>(first|refine kL ?_|(refine bL 20 (fun hb20=>?_) (fun hb20=>?_)<;>(first|refine kL ?_|refine yU (ZG Y0) fun v21=>?_)))<;>(first|refine kL ?_|refine xM WS ?_)<;>(first|refine kL ?_|refine xM (YP Kb) ?_)<;>(first|refine kL ?_|refine yU (ZG Wt) fun v24=>?_)<;>refine kZ ?_<;>(first|refine kL ?_|refine xM (Zg Yn) ?_)<;>(first|refine kL ?_|refine yU (ZG Z2) fun v27=>?_)<;>refine kZ ?_<;>(first|refine kL ?_|refine xM (Zg Yf) ?_)<;>(first|refine kL ?_|refine yV (ZG Yk) ?_)<;>refine kZ ?_<;>refine KL ?_)<;>(
 refine Zf results152 rfl ?_;show Zv _=Zv _;unfold Zfl;rw [XY,XY]
 first
  |(rw [U9 hb9,hb20];simp;done)
  |(rw [U' hb9];rfl))
theorem ZgX (l:List BA) (n:Nat) (E:Nat→Nat→Bool) (S F:Nat→Bool) (c:List Int) (hc:∀x∈c,0≤x∧x<n):AF prog 153 [pInts c, .sptr 0 [G0 l n E S F]] (· =Zv (Jc S F c)):=by
 refine AF.b2 18 func153 rfl ntmps153 (Xa rfl) fun w0 M0 v0 v1 _ _=>?_
 dsimp only [G0]
 refine YK ?_
 (refine Yv ?_<;>refine yU (ZG Y0) fun v5=>?_<;>refine xL 6 WS (xL 7 (YP LG) ?_)<;>refine yU (ZG Z2) fun v8=>?_<;>(refine cV (cA call154 (ZgW c n S hc)) ?_)<;>refine Yv ?_<;>(refine bL 10 (fun hb10=>?_) (fun hb10=>?_)<;>refine kZ ?_)<;>(first|refine kL ?_|refine yU (ZG Y0) fun v12=>?_)<;>(first|refine kL ?_|refine xM WS ?_)<;>(first|refine kL ?_|refine xM (YP LH) ?_)<;>(first|refine kL ?_|refine yU (ZG Z2) fun v15=>?_)<;>(first|refine kL ?_|(refine cV (cA call154 (ZgW c n F hc)) ?_))<;>refine YJ ?_)<;>(
 refine Zf results153 rfl ?_;show Zv _=Zv _;unfold Jc;rw [hb10];simp)
theorem ZoF (n:Nat) (x y:List Int) (hn:n≤1000000) (hx:x≠[]) (hy:y≠[]) (hx2:∀z∈x,0≤z∧z<n) (hy2:∀z∈y,0≤z∧z<n):AFg prog 158 [pInts x,pInts y] (· = .val (.int .i64 (WG x-WG y))):=by
 have hxl:=Vd.2 hx
 have hyl:=Vd.2 hy
 have bx:=hx2 _ (HU hx)
 have bY:=hy2 _ (HU hy)
 have e0:(x.map Zc)[0*1]? =some (Zc (WG x)):=by
  cases x with
  |nil=>exact Qc rfl hx
  |cons z t=>rfl
 have e0':(y.map Zc)[0*1]? =some (Zc (WG y)):=by
  cases y with
  |nil=>exact Qc rfl hy
  |cons z t=>rfl
 refine AFg.of_body 12 func158 rfl ntmps158 (Xa rfl) ?_
 intro w0 M0 vs hl hv
 obtain ⟨v0,v1,rfl⟩:=HE hl
 clear hl hv
 dsimp only [pInts]
 refine ZI ?_
 refine We [] [] ?_<;>refine gDx 0 ?_<;>refine xD 1 rfl (Zg (i:=0) Ye) ?_<;>(refine yD 2 rfl (ZG ZM) fun v7 h=>?_;cases h)<;>refine gEx 3 ?_<;>refine xE 4 rfl (Zg (i:=0) Ye) ?_<;>(refine yE 5 rfl (ZG ZM) fun v10 h=>?_;cases h)<;>refine gEx 6 ?_<;>refine gEx 7 ?_<;>refine Kz ?_
 exact Zf results158 rfl rfl
theorem ZiJ:Zfj prog 150 158:=fun enc h1 cf hO cb blk cap d w hcmp hH hblk hsz=>Tryz.slices_SortFunc enc h1 cf hO 158 cb blk 0 cap d w (call158) hcmp hH hblk hsz
def Zso (l:List BA) (n:Nat) (E:Nat→Nat→Bool) (S F:Nat→Bool) (p:PV):Prop:=∃cs,Comps (upTo n) (Zfl E) cs∧((idx (Jc S F) cs<0∧p= .tup [.agg [Zc 0, .val (.slice none 0 0)],Zc 10])∨∃i0 c0 ds,cs[i0]? =some c0∧idx (Jc S F) cs=(i0:Nat)∧AndCs cs i0 c0 (Jc S F) ds∧p=CW l 3 ds)
theorem ZiK (g : Dfg) (l:List BA) (n:Nat) (E:Nat→Nat→Bool) (S F:Nat→Bool) (hb:AF prog 143 [GJ g] (· = .tup [G0 l n E S F,Zc 0])) (hl:l.length=n) (hn:n≤1000):AF prog 113 [GJ g] (Zso l n E S F):=by
 refine AF.b1 74 func113 rfl ntmps113 (Xa rfl) fun w0 M0 v0 _=>?_
 refine Zh ?_
 refine ZV 1 4 fun h1=>?_;refine Zx [(.int .i64 0),(.slice none 0 0)] 2 2 KP fun h2=>?_;refine ZQ ?_
 refine yU (Zj 1 YQ) fun v14=>?_;refine cP 15 (cA call143 (hb)) fun va15 vb15 hva15 hvb15=>?_;cases hvb15;refine Y' ?_;refine Zx [(.pointer none)] 1 4 O4 fun h4=>?_;refine GC 4 Y0 O3 ?_;refine ZQ ?_
 (refine YJ ?_) <;> (try (exfalso;omega))<;>(
 refine cX ?_ ?_<;>intro hb19
 · exfalso;omega
 · refine nav ?_;refine Zq (T0 (l:=4) (t:=4) (j:=0) rfl Vs rfl) fun _=>?_;dsimp only [YV,share,List.map,G0];refine Zi ?_;refine yU (ZG Y0) fun v22=>?_;refine cU (cA call146 ((ZbP l _ oM).mono (R':=(· =pInts (upTo n))) fun p hp=>by rw [hp,hl])) fun v23=>?_;refine xM TP ?_;refine Sj 25 rfl rfl (Xa rfl) rfl (cA call145 (Sp 152 [.sptr 0 [G0 l n E S F]] (Zfl E) (upTo n) (PI n) (by rw [GL];omega) (call152) (fun x hx y hy=>ZoE l n E S F x y (K9.1 hx) (K9.1 hy)))) ?_;rintro p' ⟨cs,hcs,rfl⟩;refine ⟨rfl,fun h25 ho25=>?_⟩;refine Zp (En.freeze (l:=25) (t:=25) rfl rfl) fun _=>?_;rw [G9 _ _ _ rfl];refine ZQ ?_;refine xL 26 TP (xL 7 Wv ?_);refine ZF ?_;have hin:=TC hcs;refine Zi ?_;refine YW ?_;refine cV (cA call155 (ER 153 [.sptr 0 [G0 l n E S F]] (Jc S F) cs (call153) (fun c hc=>ZgX l n E S F c (hin.1 c hc)))) ?_;refine Wy ?_;refine cX ?_ ?_<;>intro hb31
   · (
 refine Zh ?_;refine xM (ZX RR) ?_;refine Zu 2 YR ?_;refine ZB ?_;exact YG (k:=2) 2 results113 ⟨cs,hcs, .inl ⟨hb31,rfl⟩⟩)
   · (
 obtain ⟨i0,hi0⟩:∃i0:Nat,idx (Jc S F) cs=i0:=⟨(idx (Jc S F) cs).toNat,oM⟩;have hib:=(ZeQ (Jc S F) cs).2;rw [hi0];obtain ⟨c0,hc0⟩:=gS cs i0;have e0:=Z8 (f:=pInts) hc0;have hc0m:=Xc hc0;have hc0l:=hin.2.2 c0 hc0m;refine YK ?_;refine xL 33 Za (xL 34 Za (xL 35 (Zg KM) ?_));refine yU (ZG Sl) fun v36=>?_;refine cO 37 (cA call156 (CZ c0 oM)) fun v37 ho37=>?_;refine ZQ ?_;refine xL 38 Za (xL 39 (Zy KM) (xL 40 Za ?_));refine ZF ?_;refine Zq (Wr 200 198 1 rfl) fun _=>?_;refine Zq (Zz (l:=37) 201 rfl rfl) fun _=>?_;refine Yd (ι:={x:Nat×Value×Value×List (List Int)×List Int//x.1≤cs.length∧x.2.2.1.oneCell'=true∧x.2.2.2.1=selA i0 (Jc S F) true (cs.take x.1)∧x.2.2.2.2=c0++(selA i0 (Jc S F) false (cs.take x.1)).flatten}) (fun k=>⟨[(2,_,_),(4,_,_),(7,_,_),(8,_,_),(38,_,_),(39,_,_),(9,k.1.2.1, .val k.1.2.1),(10,k.1.2.2.1, .val k.1.2.2.1),(40, .int .i64 k.1.1,Zc k.1.1)],[(2,_,_),(200,k.1.2.1, .own 198 1 k.1.2.2.2.1.length (k.1.2.2.2.1.map pInts)),(201,k.1.2.2.1, .own 3 1 k.1.2.2.2.2.length (k.1.2.2.2.2.map Zc))]⟩) (fun k=>cs.length-k.1.1) ⟨(0, .slice none 0 0,v37,[],c0),Xg _,ho37,rfl,(Xu c0).symm⟩ ?_;rintro ⟨⟨k,ha,hbv,A,B⟩,hk,hob,hA,hB⟩;dsimp only;dsimp only at hk hob hA hB;have hAl:A.length≤1000:=by
  have:=(Zda i0 (Jc S F) true (cs.take k)).1;rw [hA];rw [XG] at this;omega
 have hBl:B.length≤2000:=by
  have h1:=(Zda i0 (Jc S F) false (cs.take k)).2;have h2:(cs.take k).flatten.length≤cs.flatten.length:=by
   (have:cs.flatten=(cs.take k).flatten++(cs.drop k).flatten:=by rw [←VH,X5]);rw [this,Xf];omega
  have h3:=Gk hcs.nd (fun x hx=>(hcs.mem x).1 hx);rw [GL] at h3;rw [hB,Xf];omega
 have hAm:(A.map pInts).length=A.length:=Xb _;have hBm:(B.map Zc).length=B.length:=Xb _;refine Ys ?_ ?_<;>intro hb41
 · (
 obtain ⟨cl,hx⟩:=gS cs k;have e1:=Z8 (f:=pInts) hx;have hcm:=Xc hx;have hcll:=hin.2.2 cl hcm;have s1:=Of (i0:=i0) (W:=Jc S F) (b:=true) hx;have s2:=Of (i0:=i0) (W:=Jc S F) (b:=false) hx;(have e2:(cl.map Zc).length=cl.length*1:=by rw [Xb,Xy]);(have e3:(cl.map Zc).all En.one=true:=by rw [VF,Xm];intro x _;rfl);refine Zh ?_;refine xL 42 Za (xL 43 (Zg KM) ?_);refine yU (ZG Sl) fun v44=>?_;refine Jn ?_;refine OK ?_;refine ZR ?_ ?_<;>intro hb48
 · (
 refine ZE ?_;try refine Yq (Zz (l:=59) 200 rfl rfl) fun _=>?_
 try refine Yq (Zz (l:=47) 201 rfl rfl) fun _=>?_
 try rw [show A.map pInts++[pInts cl]=(A++[cl]).map pInts by simp,show A.length+1=(A++[cl]).length by simp]
 try rw [show B.map Zc++cl.map Zc=(B++cl).map Zc by simp,show B.length+cl.length=(B++cl).length by simp]
 first
  | (exact Zm (
      ⟨(k+1,h59,hbv,A++[cl],B),by show k+1≤cs.length;omega,hob,by show A++[cl]=_;rw [s1,Qb ⟨oM,hb52⟩,hA],by show B=_;rw [s2,Qa (fun h=>by rw [hb52] at h;exact Bool.noConfusion h.2),Xu,hB]⟩
      ) (by show cs.length-(k+1)<cs.length-k;omega) sB sB)
  | (exact Zm (
      ⟨(k+1,ha,h47,A,B++cl),by show k+1≤cs.length;omega,ho47,by show A=_;rw [s1,Qa (fun h=>by rw [hb52] at h;exact Bool.noConfusion h.2),Xu,hA],by show B++cl=_;rw [s2,Qb ⟨oM,hb52⟩,hB];simp⟩
      ) (by show cs.length-(k+1)<cs.length-k;omega) sB sB)
  | (exact Zm (
      ⟨(k+1,ha,hbv,A,B),by show k+1≤cs.length;omega,hob,by show A=_;rw [s1,Qa (fun h=>oM),Xu,hA],by show B=_;rw [s2,Qa (fun h=>oM),Xu,hB]⟩
      ) (by show cs.length-(k+1)<cs.length-k;omega) sB sB))
 · (
 refine Wn ?_;refine cV (LV (f:=153) (ps:=[.sptr 0 [G0 l n E S F]]) rfl ⟨_,rfl⟩ (call153) rfl (ZgX l n E S F cl (hin.1 cl hcm))) ?_;refine YX ?_ ?_<;>intro hb52
 · (
 refine Wn ?_;refine Wx (kk:=1) 58 Jb fun h58 ho58=>?_;refine WN 200 58 59 Jb fun h59 ho59=>?_;refine Wy ?_;try refine Yq (Zz (l:=59) 200 rfl rfl) fun _=>?_
 try refine Yq (Zz (l:=47) 201 rfl rfl) fun _=>?_
 try rw [show A.map pInts++[pInts cl]=(A++[cl]).map pInts by simp,show A.length+1=(A++[cl]).length by simp]
 try rw [show B.map Zc++cl.map Zc=(B++cl).map Zc by simp,show B.length+cl.length=(B++cl).length by simp]
 first
  | (exact Zm (
      ⟨(k+1,h59,hbv,A++[cl],B),by show k+1≤cs.length;omega,hob,by show A++[cl]=_;rw [s1,Qb ⟨oM,hb52⟩,hA],by show B=_;rw [s2,Qa (fun h=>by rw [hb52] at h;exact Bool.noConfusion h.2),Xu,hB]⟩
      ) (by show cs.length-(k+1)<cs.length-k;omega) sB sB)
  | (exact Zm (
      ⟨(k+1,ha,h47,A,B++cl),by show k+1≤cs.length;omega,ho47,by show A=_;rw [s1,Qa (fun h=>by rw [hb52] at h;exact Bool.noConfusion h.2),Xu,hA],by show B++cl=_;rw [s2,Qb ⟨oM,hb52⟩,hB];simp⟩
      ) (by show cs.length-(k+1)<cs.length-k;omega) sB sB)
  | (exact Zm (
      ⟨(k+1,ha,hbv,A,B),by show k+1≤cs.length;omega,hob,by show A=_;rw [s1,Qa (fun h=>oM),Xu,hA],by show B=_;rw [s2,Qa (fun h=>oM),Xu,hB]⟩
      ) (by show cs.length-(k+1)<cs.length-k;omega) sB sB))
 · (
 refine Wn ?_;refine G1 201 47 WY fun h47 ho47=>?_;refine Wy ?_;try refine Yq (Zz (l:=59) 200 rfl rfl) fun _=>?_
 try refine Yq (Zz (l:=47) 201 rfl rfl) fun _=>?_
 try rw [show A.map pInts++[pInts cl]=(A++[cl]).map pInts by simp,show A.length+1=(A++[cl]).length by simp]
 try rw [show B.map Zc++cl.map Zc=(B++cl).map Zc by simp,show B.length+cl.length=(B++cl).length by simp]
 first
  | (exact Zm (
      ⟨(k+1,h59,hbv,A++[cl],B),by show k+1≤cs.length;omega,hob,by show A++[cl]=_;rw [s1,Qb ⟨oM,hb52⟩,hA],by show B=_;rw [s2,Qa (fun h=>by rw [hb52] at h;exact Bool.noConfusion h.2),Xu,hB]⟩
      ) (by show cs.length-(k+1)<cs.length-k;omega) sB sB)
  | (exact Zm (
      ⟨(k+1,ha,h47,A,B++cl),by show k+1≤cs.length;omega,ho47,by show A=_;rw [s1,Qa (fun h=>by rw [hb52] at h;exact Bool.noConfusion h.2),Xu,hA],by show B++cl=_;rw [s2,Qb ⟨oM,hb52⟩,hB];simp⟩
      ) (by show cs.length-(k+1)<cs.length-k;omega) sB sB)
  | (exact Zm (
      ⟨(k+1,ha,hbv,A,B),by show k+1≤cs.length;omega,hob,by show A=_;rw [s1,Qa (fun h=>oM),Xu,hA],by show B=_;rw [s2,Qa (fun h=>oM),Xu,hB]⟩
      ) (by show cs.length-(k+1)<cs.length-k;omega) sB sB))))
 · (
 refine nav ?_;have hkl:k=cs.length:=oM;(have hAe:A=selA i0 (Jc S F) true cs:=by rw [hA,hkl,XH]);(have hBe:B=c0++(selA i0 (Jc S F) false cs).flatten:=by rw [hB,hkl,XH]);have hBp:0<B.length:=by
  have:=Vd.2 (hcs.ne c0 hc0m);rw [hBe,Xf];omega
 obtain ⟨Bs,hBs⟩:∃Bs,Bs=B.mergeSort fun x y=>decide (x≤y):=⟨_,rfl⟩;(have hBsl:Bs.length=B.length:=by rw [hBs,Ug]);have hBi:∀x∈Bs,0≤x∧x<n:=fun x hx=>by
  rw [hBs,K8,hBe,Xd] at hx;rcases hx with h|h
  · exact hin.1 c0 hc0m x h
  · obtain ⟨d,hd,hxd⟩:=Vb.1 h;exact hin.1 d (C0 hd).1 x hxd
 obtain ⟨rs,hrs⟩:∃rs,rs=A++[Bs]:=⟨_,rfl⟩;have hrm:∀c∈rs,c≠[]∧(∀x∈c,0≤x∧x<n)∧c.length≤2000:=fun c hc=>by
  rw [hrs,Xd,Xn] at hc;rcases hc with h|rfl
  · rw [hAe] at h;have:=(C0 h).1;exact ⟨hcs.ne c this,hin.1 c this,by have:=hin.2.2 c this;omega⟩
  · exact ⟨Vd.1 oM,hBi,oM⟩
 (have hrl:rs.length≤2000:=by rw [hrs,Xf,XF];omega);(have hrp:0<rs.attach.length:=by rw [Uh,hrs,Xf,XF];omega);refine GH ?_;refine ZbO 201 HT (call157) ?_ hBp;rw [←hBs];refine OW ?_;refine Wx (kk:=1) 65 Jb fun h65 ho65=>?_;refine WN 200 65 66 Jb fun h66 ho66=>?_;refine ZB ?_;refine Zq (YU (l:=66) (l':=201) (j:=A.length) rfl (D3 (Xb _).symm) rfl rfl) fun _=>?_;rw [Oe (Xb _).symm,Te _ _ _ hBsl.symm];rw [show A.map pInts++[pInts Bs]=rs.attach.map (fun c:{c//c∈rs}=>pInts c.1) by rw [List.attach_map_val (f:=pInts),hrs];simp,show A.length+1=rs.attach.length by rw [Uh,hrs];simp];refine GH ?_;refine ZgR (β:={c//c∈rs}) (f:=fun c=>pInts c.1) (cmp:=fun a b=>WG a.1-WG b.1) (rows:=rs.attach) 66 ZiJ (call150) (fun _=>rfl) (fun a=>oM) (fun a b c h1 h2=>oM) (fun a b c h1 h2=>oM) (fun x _ y _=>ZoF n x.1 y.1 oM (hrm _ x.2).1 (hrm _ y.2).1 (hrm _ x.2).2.1 (hrm _ y.2).2.1) hrp (by rw [Uh];omega) (fun rows' hperm hord=>?_);refine ZF ?_;obtain ⟨ds,hds⟩:∃ds,ds=rows'.map (·.1):=⟨_,rfl⟩;(have hpd:ds.Perm rs:=by rw [hds];have:=hperm.map (·.1);rw [List.attach_map_subtype_val] at this;exact this);have hsq:AndCs cs i0 c0 (Jc S F) ds:=⟨by rw [←hAe,←hBe,←hBs,←hrs];exact hpd,fun i j a b hij ha hb=>by
  rw [hds,Xo,XP] at ha hb;obtain ⟨a',ha',rfl⟩:=ha;obtain ⟨b',hb',rfl⟩:=hb;exact hord i j a' b' hij ha' hb'⟩
 rw [show rows'.map (fun c:{c//c∈rs}=>pInts c.1)=ds.map pInts by rw [hds,Xt];rfl,show rs.attach.length=ds.length by rw [Uh];exact hpd.length_eq.symm];refine Zq (En.freeze (l:=66) (t:=9) rfl rfl) fun _=>?_;rw [G9 _ _ _ rfl];(have hdi:∀c∈ds,∀x∈c,0≤x∧x<l.length:=fun c hc=>by rw [hl];exact (hrm c (hpd.mem_iff.1 hc)).2.1);(have hdl:ds.length≤1000000:=by rw [hpd.length_eq];omega);(have hdc:∀c∈ds,c.length≤1000000:=fun c hc=>by have:=(hrm c (hpd.mem_iff.1 hc)).2.2;omega);(refine Zi ?_<;>refine yU (ZG Y0) fun v69=>?_<;>refine Yv ?_<;>(by_cases hm:ds.length<2<;>first|(refine cP 71 (cA call144 (PH l _ 3 ds hm)) fun va71 vb71 hva71 h=>?_;cases h)|(refine cP 71 (cA call144 (D4 l _ 3 ds oM hdi hdl hdc)) fun va71 vb71 hva71 h=>?_;cases h))<;>refine YW ?_<;>refine Zu 2 YR ?_<;>refine ZB ?_)<;>(
 refine YG (k:=2) 2 results113 ⟨cs,hcs, .inr ⟨i0,c0,ds,hc0,hi0,hsq,?_⟩⟩;unfold CW
 first
  |(rw [Qb hm];rfl)
  |(rw [Qa hm];rfl)))))
def Zdb (S F:Nat→Bool) (x:Int):Bool:=S x.toNat||F x.toNat
def inL (n:Nat) (S F:Nat→Bool):List Int:=(upTo n).filter (Zdb S F)
def ζ6 (n:Nat) (S F:Nat→Bool):List Int:=(upTo n).filter fun x=> !Zdb S F x
theorem ZaI (k:Nat):upTo (k+1)=upTo k++[(k:Int)]:=by
 unfold upTo vec;rw [List.range_succ,XC];rfl
theorem Zlu (k:Nat) (S F:Nat→Bool):inL (k+1) S F=inL k S F++(if S k=true∨F k=true then [(k:Int)] else []):=by
 unfold inL
 rw [ZaI,UD]
 congr 1
 by_cases h:S k=true∨F k=true
 · rw [Qb h,Ur]; · rfl
   unfold Zdb;rw [XY];rcases h with h|h<;>simp [h]
 · rw [Qa h,Us]; · rfl
   unfold Zdb;rw [XY];simpa using h
theorem ZiL (k:Nat) (S F:Nat→Bool):ζ6 (k+1) S F=ζ6 k S F++(if S k=true∨F k=true then [] else [(k:Int)]):=by
 unfold ζ6
 rw [ZaI,UD]
 congr 1
 by_cases h:S k=true∨F k=true
 · rw [Qb h,Us]; · rfl
   unfold Zdb;rw [XY];rcases h with h|h<;>simp [h]
 · rw [Qa h,Ur]; · rfl
   unfold Zdb;rw [XY];have h1:S k=false:=by simpa using fun hh=>h (.inl hh)
   have h2:F k=false:=by simpa using fun hh=>h (.inr hh)
   rw [h1,h2];rfl
theorem Zlv {n:Nat} {S F:Nat→Bool}:(inL n S F).length≤n∧∀x∈inL n S F,0≤x∧x<n:=⟨by have:=UE (Zdb S F) (upTo n);rw [GL] at this;exact this,fun x hx=>K9.1 (Vh.1 hx).1⟩
theorem ZgY {n:Nat} {S F:Nat→Bool}:(ζ6 n S F).length≤n∧∀x∈ζ6 n S F,0≤x∧x<n:=⟨by have:=UE (fun x=> !Zdb S F x) (upTo n);rw [GL] at this;exact this,fun x hx=>K9.1 (Vh.1 hx).1⟩
theorem Zlw (n:Nat) (S F:Nat→Bool):(ζ6 n S F).Pairwise (· < ·):=(PI n).filter _
def O5 (n:Nat) (E:Nat→Nat→Bool) (S F:Nat→Bool) (c:List Int):Bool:=c.all fun x=>(inL n S F).all fun y=>Ks n E S F y.toNat x.toNat
theorem Zdc {α:Type} {p:α→Bool} {l:List α} {k:Nat} {x:α} (h:l[k]? =some x):(l.take (k+1)).all p=((l.take k).all p&&p x):=by
 rw [Zw h,List.all_append];simp
theorem Og {α:Type} {p:α→Bool} {l:List α} {k:Nat} {x:α} (h:l[k]? =some x):(l.take (k+1)).filter p=(l.take k).filter p++(if p x=true then [x] else []):=by
 rw [Zw h,UD]
 by_cases hp:p x=true
 · rw [Qb hp,Ur hp];rfl
 · rw [Qa hp,Us hp];rfl
def C1 (n:Nat) (E:Nat→Nat→Bool) (S F:Nat→Bool) (cs:List (List Int)):List (List Int):=
 ((inL n S F++(cs.filter fun c=> !O5 n E S F c).flatten).mergeSort fun x y=>decide (x≤y))::cs.filter (O5 n E S F)
def Zr0 (l:List BA) (n:Nat) (E:Nat→Nat→Bool) (S F:Nat→Bool) (p:PV):Prop:=(inL n S F=[]∧p= .tup [.agg [Zc 0, .val (.slice none 0 0)],Zc 10])∨∃cs,inL n S F≠[]∧Comps (ζ6 n S F) (Zc9 E) cs∧p=CW l 4 (C1 n E S F cs)
theorem ZiM (p:List Int→Bool) (cs:List (List Int)):(cs.filter p).flatten.length≤cs.flatten.length:=by
 induction cs with
 |nil=>simp
 | cons c cs ih=>
   rw [UV];split<;>simp only [XW,Xf]<;>omega
theorem ZiN {l:List Int} {r:Int→Int→Bool} {cs:List (List Int)} (h:Comps l r cs):(∀c∈cs,∀x∈c,x∈l)∧cs.length≤l.length∧(∀c∈cs,c.length≤l.length)∧cs.flatten.length≤l.length:=by
 have h3:=Gk h.nd (fun x hx=>(h.mem x).1 hx)
 refine ⟨fun c hc x hx=>(h.mem x).1 (Vb.2 ⟨c,hc,hx⟩),?_,fun c hc=>?_,h3⟩
 · refine XJ ?_ h3;have:∀m:List (List Int),(∀c∈m,c≠[])→m.length≤m.flatten.length:=fun m=>by
    induction m with
    |nil=>intro _;simp
    | cons c m ih=>
      intro h;have h1:=ih fun d hd=>h d (by simp [hd]);have h2:=Vd.2 (h c sM);rw [XW,Xf,Xl];omega
   exact this cs h.ne
 · refine XJ ?_ h3;obtain ⟨a,b,rfl⟩:=List.append_of_mem hc;simp only [VH,XW,Xf];omega
theorem Zlx (l:List BA) (n:Nat) (E:Nat→Nat→Bool) (S F:Nat→Bool) (x y:Int) (hx:0≤x∧x<n) (hy:0≤y∧y<n):AF prog 159 [Zc x,Zc y, .sptr 0 [G0 l n E S F]] (· =Zv (Zc9 E x y)):=by
 obtain ⟨a,rfl⟩:∃a:Nat,x=a:=⟨x.toNat,oM⟩
 obtain ⟨b,rfl⟩:∃b:Nat,y=b:=⟨y.toNat,oM⟩
 have e1:=YN (fun i=>Kq n (E i)) (show a<n by omega)
 have e2:=YN (fun j=>Zv (E a j)) (show b<n by omega)
 refine AF.b3 16 func159 rfl ntmps159 (Xa rfl) ?_
 rintro w0 M0 _ _ v2 rfl rfl-
 dsimp only [G0]
 refine YK ?_
 refine yU (ZG Y0) fun v6=>?_;refine xL 7 WS (xL 8 (YP Kb) ?_);refine yU (ZG Wt) fun v9=>?_;refine xL 10 Za (xL 11 (Zg Yn) ?_);refine yU (ZG Z2) fun v12=>?_;refine xL 13 Za (xL 14 (Zg Yf) ?_);refine yV (ZG Yk) ?_;refine ZB ?_
 exact Zf results159 rfl rfl
theorem Zfm (g : Dfg) (l :List BA) (n:Nat) (E:Nat→Nat→Bool) (S F:Nat→Bool) (hb:AF prog 143 [GJ g] (· = .tup [G0 l n E S F,Zc 0])) (hl:l.length=n) (hn:n≤1000):AF prog 114 [GJ g] (Zr0 l n E S F):=by
 refine AF.b1 114 func114 rfl ntmps114 (Xa rfl) fun w0 M0 v0 _=>?_
 refine Zh ?_
 refine ZV 1 4 fun h1=>?_;refine Zx [(.int .i64 0),(.slice none 0 0)] 2 2 KP fun h2=>?_;refine ZQ ?_
 refine yU (Zj 1 YQ) fun v19=>?_;refine cP 20 (cA call143 (hb)) fun va20 vb20 hva20 hvb20=>?_;cases hvb20;refine Y' ?_;refine Zx [(.pointer none)] 1 4 O4 fun h4=>?_;refine GC 4 Y0 O3 ?_;refine ZQ ?_
 (refine YJ ?_) <;> (try (exfalso;omega))<;>(
 refine cX ?_ ?_<;>intro hb24
 · exfalso;omega
 · refine nav ?_;refine Zq (T0 (l:=4) (t:=4) (j:=0) rfl Vs rfl) fun _=>?_;dsimp only [YV,share,List.map,G0];refine Zi ?_;refine Jn ?_;refine yU (ZG Y0) fun v27=>?_;refine xL 28 WS (xL 29 (YP Kr) ?_);refine yU (ZG ZN) fun v30=>?_;refine xL 31 (Zy Zn) (xL 32 Za ?_);refine ZF ?_;refine Zq (Wr 200 3 1 rfl) fun _=>?_;refine Zq (Wr 201 3 1 rfl) fun _=>?_;refine Yd (ι:={x:Nat×Value×Value×List Int×List Int//x.1≤n∧x.2.1.oneCell'=true∧x.2.2.1.oneCell'=true∧x.2.2.2.1=inL x.1 S F∧x.2.2.2.2=ζ6 x.1 S F}) (fun k=>⟨[(2,_,_),(4,_,_),(31,_,_),(6,k.1.2.1, .val k.1.2.1),(7,k.1.2.2.1, .val k.1.2.2.1),(32, .int .i64 k.1.1,Zc k.1.1)],[(2,_,_),(200,k.1.2.1, .own 3 1 k.1.2.2.2.1.length (k.1.2.2.2.1.map Zc)),(201,k.1.2.2.1, .own 3 1 k.1.2.2.2.2.length (k.1.2.2.2.2.map Zc))]⟩) (fun k=>n-k.1.1) ⟨(0, .slice none 0 0, .slice none 0 0,[],[]),Xg _,rfl,rfl,rfl,rfl⟩ ?_;rintro ⟨⟨k,ha,hbv,A,B⟩,hk,hoa,hob,hA,hB⟩;dsimp only;dsimp only at hk hoa hob hA hB;(have hAl:A.length≤1000:=by have:=(Zlv (n:=k) (S:=S) (F:=F)).1;rw [hA];omega);(have hBl:B.length≤1000:=by have:=(ZgY (n:=k) (S:=S) (F:=F)).1;rw [hB];omega);have hAm:(A.map Zc).length=A.length:=Xb _;have hBm:(B.map Zc).length=B.length:=Xb _;refine Ys ?_ ?_<;>intro hb33
   · (
 have hkn:k<n:=oM;have eS:=YN (fun j=>Zv (S j)) hkn;have eF:=YN (fun j=>Zv (F j)) hkn;have s1:=Zlu k S F;have s2:=ZiL k S F;refine Jm ?_;(refine yU (ZG Y0) fun v35=>?_<;>refine xL 36 WS (xL 37 (YP LG) ?_)<;>refine yU (ZG Z2) fun v38=>?_<;>refine xL 39 Za (xL 40 (Zg Yf) ?_)<;>refine yV (ZG Yk) ?_<;>refine Yv ?_<;>(refine bL 42 (fun hb42=>?_) (fun hb42=>?_)<;>(first|refine kL ?_|refine yU (ZG Y0) fun v43=>?_))<;>(first|refine kL ?_|refine xM WS ?_)<;>(first|refine kL ?_|refine xM (YP LH) ?_)<;>(first|refine kL ?_|refine yU (ZG Z2) fun v46=>?_)<;>refine kZ ?_<;>(first|refine kL ?_|refine xM (Zg Yf) ?_)<;>(first|refine kL ?_|refine yV (ZG Yk) ?_)<;>refine ZB ?_)<;>(
 refine cX ?_ ?_<;>intro hb50
 · (
 refine Wn ?_;refine Wx (kk:=1) 53 WY fun h53 ho53=>?_;refine WN 200 53 54 WY fun h54 ho54=>?_;refine Wy ?_;try refine Yq (Zz (l:=54) 200 rfl rfl) fun _=>?_
 try refine Yq (Zz (l:=58) 201 rfl rfl) fun _=>?_
 try rw [show A.map Zc++[Zc k]=(A++[(k:Int)]).map Zc by simp,show A.length+1=(A++[(k:Int)]).length by simp]
 try rw [show B.map Zc++[Zc k]=(B++[(k:Int)]).map Zc by simp,show B.length+1=(B++[(k:Int)]).length by simp]
 first
  | (exact Zm (
      ⟨(k+1,h54,hbv,A++[(k:Int)],B),by show k+1≤n;omega,ho54,hob,by show A++[(k:Int)]=_;rw [s1,Qb (by simp [*]),hA],by show B=_;rw [s2,Qb (by simp [*]),Xu,hB]⟩
      ) (by show n-(k+1)<n-k;omega) sB sB)
  | (exact Zm (
      ⟨(k+1,ha,h58,A,B++[(k:Int)]),by show k+1≤n;omega,hoa,ho58,by show A=_;rw [s1,Qa (by simp [*]),Xu,hA],by show B++[(k:Int)]=_;rw [s2,Qa (by simp [*]),hB]⟩
      ) (by show n-(k+1)<n-k;omega) sB sB))
 · first |exact bN hb50|(
 refine Wn ?_;refine Wx (kk:=1) 57 WY fun h57 ho57=>?_;refine WN 201 57 58 WY fun h58 ho58=>?_;refine Wy ?_;try refine Yq (Zz (l:=54) 200 rfl rfl) fun _=>?_
 try refine Yq (Zz (l:=58) 201 rfl rfl) fun _=>?_
 try rw [show A.map Zc++[Zc k]=(A++[(k:Int)]).map Zc by simp,show A.length+1=(A++[(k:Int)]).length by simp]
 try rw [show B.map Zc++[Zc k]=(B++[(k:Int)]).map Zc by simp,show B.length+1=(B++[(k:Int)]).length by simp]
 first
  | (exact Zm (
      ⟨(k+1,h54,hbv,A++[(k:Int)],B),by show k+1≤n;omega,ho54,hob,by show A++[(k:Int)]=_;rw [s1,Qb (by simp [*]),hA],by show B=_;rw [s2,Qb (by simp [*]),Xu,hB]⟩
      ) (by show n-(k+1)<n-k;omega) sB sB)
  | (exact Zm (
      ⟨(k+1,ha,h58,A,B++[(k:Int)]),by show k+1≤n;omega,hoa,ho58,by show A=_;rw [s1,Qa (by simp [*]),Xu,hA],by show B++[(k:Int)]=_;rw [s2,Qa (by simp [*]),hB]⟩
      ) (by show n-(k+1)<n-k;omega) sB sB))))
   · (
 refine nav ?_;have hkn:k=n:=oM;(have hAe:A=inL n S F:=by rw [hA,hkn]);(have hBe:B=ζ6 n S F:=by rw [hB,hkn]);(have hAi:∀x∈A,0≤x∧x<n:=fun x hx=>by rw [hAe] at hx;exact Zlv.2 x hx);(have hBi:∀x∈B,0≤x∧x<n:=fun x hx=>by rw [hBe] at hx;exact ZgY.2 x hx);(have hBasc:B.Pairwise (· < ·):=by rw [hBe];exact Zlw n S F);refine Zi ?_;refine xL 60 Za (xL 61 (WQ 200 Ye) (xL 62 SN ?_));refine ZR ?_ ?_<;>intro hb62
 · (
 refine Zh ?_;refine xM (ZX RR) ?_;refine Zu 2 YR ?_;refine ZB ?_;exact YG (k:=2) 2 results114 (.inl ⟨by rw [←hAe];exact XB oM,rfl⟩))
 · (
 refine nav ?_;have hAp:0<A.length:=oM;refine Zq (En.freeze (l:=200) (t:=6) rfl rfl) fun _=>?_;rw [Te _ _ _ rfl];refine Zq (En.freeze (l:=201) (t:=7) rfl rfl) fun _=>?_;rw [Te _ _ _ rfl];refine GH ?_;refine cO 65 (cA call156 (CZ A oM)) fun v65 ho65=>?_;refine ZQ ?_;refine ZQ ?_;refine xL 66 Za (xL 67 TP ?_);refine Sj 68 rfl rfl (Xa rfl) rfl (cA call145 (Sp 159 [.sptr 0 [G0 l n E S F]] (Zc9 E) B hBasc oM (call159) (fun x hx y hy=>Zlx l n E S F x y (hBi x hx) (hBi y hy)))) ?_;rintro p' ⟨cs,hcs,rfl⟩;refine ⟨rfl,fun h68 ho68=>?_⟩;refine Zp (En.freeze (l:=68) (t:=68) rfl rfl) fun _=>?_;rw [G9 _ _ _ rfl];refine xL 69 (Zy KM) (xL 70 Za ?_);refine ZF ?_;have hin:=ZiN hcs;refine Zq (Wr 200 198 1 rfl) fun _=>?_;refine Zq (Zz (l:=65) 201 rfl rfl) fun _=>?_;refine Yd (ι:={x:Nat×Value×Value×List (List Int)×List Int//x.1≤cs.length∧x.2.2.1.oneCell'=true∧x.2.2.2.1=(cs.take x.1).filter (O5 n E S F)∧x.2.2.2.2=A++((cs.take x.1).filter fun c=> !O5 n E S F c).flatten}) (fun k=>⟨[(2,_,_),(4,_,_),(6,_,_),(68,_,_),(69,_,_),(10,k.1.2.1, .val k.1.2.1),(9,k.1.2.2.1, .val k.1.2.2.1),(70, .int .i64 k.1.1,Zc k.1.1)],[(2,_,_),(200,k.1.2.1, .own 198 1 k.1.2.2.2.1.length (k.1.2.2.2.1.map pInts)),(201,k.1.2.2.1, .own 3 1 k.1.2.2.2.2.length (k.1.2.2.2.2.map Zc))]⟩) (fun k=>cs.length-k.1.1) ⟨(0, .slice none 0 0,v65,[],A),Xg _,ho65,rfl,(Xu A).symm⟩ ?_;rintro ⟨⟨i,hc,hdv,C,D⟩,hi,hod,hC,hD⟩;dsimp only;dsimp only at hi hod hC hD;have hCl:C.length≤1000:=by
  have:=UE (O5 n E S F) (cs.take i);rw [hC];rw [XG] at this;omega
 have hDl:D.length≤2000:=by
  have h1:=ZiM (fun c=> !O5 n E S F c) (cs.take i);have h2:(cs.take i).flatten.length≤cs.flatten.length:=by
   (have:cs.flatten=(cs.take i).flatten++(cs.drop i).flatten:=by rw [←VH,X5]);rw [this,Xf];omega
  rw [hD,Xf];omega
 have hCm:(C.map pInts).length=C.length:=Xb _;have hDm:(D.map Zc).length=D.length:=Xb _;refine Ys ?_ ?_<;>intro hb71
 · (
 obtain ⟨cl,hx⟩:=gS cs i;have e1:=Z8 (f:=pInts) hx;have hcm:=Xc hx;have hcll:=hin.2.2.1 cl hcm;have s3:=Og (p:=O5 n E S F) hx;have s4:=Og (p:=fun c=> !O5 n E S F c) hx;(have e2:(cl.map Zc).length=cl.length*1:=by rw [Xb,Xy]);(have e3:(cl.map Zc).all En.one=true:=by rw [VF,Xm];intro x _;rfl);refine Zh ?_;refine xM (Zg KM) ?_;refine yU (ZG Sl) fun v73=>?_;refine ZQ ?_;refine ZQ ?_;refine xL 74 Za (xL 75 (Zy Ye) (xL 76 Za ?_));refine ZF ?_;refine Yd (ι:={x:Nat×Bool//x.1≤cl.length∧x.2=(cl.take x.1).all fun x=>A.all fun y=>Ks n E S F y.toNat x.toNat}) (fun k=>⟨[(2,_,_),(4,_,_),(6,_,_),(68,_,_),(69,_,_),(9,_,_),(10,_,_),(70,_,_),(12,_,_),(74,_,_),(75,_,_),(13, .bool k.1.2,Zv k.1.2),(76, .int .i64 k.1.1,Zc k.1.1)],[(2,_,_),(200,_,_),(201,_,_)]⟩) (fun k=>cl.length-k.1.1) ⟨(0,true),Xg _,rfl⟩ ?_;rintro ⟨⟨q,b⟩,hq,hbe⟩;dsimp only;dsimp only at hq hbe;refine Ys ?_ ?_<;>intro hb77
 · (
 obtain ⟨u,hu⟩:=gS cl q;have e4:=Z8 (f:=Zc) hu;have hui:=hBi u (hin.1 cl hcm u (Xc hu));have s5:=Zdc (p:=fun x:Int=>A.all fun y=>Ks n E S F y.toNat x.toNat) hu;refine Zh ?_;refine xM (Zg Ye) ?_;refine yV (ZG ZM) ?_;refine ZQ ?_;refine xL 80 Za (xL 81 (Zy Ye) (xL 82 Za ?_));refine ZF ?_;refine Yd (ι:={x:Nat×Bool//x.1≤A.length∧x.2=(b&&(A.take x.1).all fun y=>Ks n E S F y.toNat u.toNat)}) (fun k=>⟨[(2,_,_),(4,_,_),(6,_,_),(68,_,_),(69,_,_),(9,_,_),(10,_,_),(70,_,_),(12,_,_),(74,_,_),(75,_,_),(76,_,_),(15,_,_),(80,_,_),(81,_,_),(13, .bool k.1.2,Zv k.1.2),(82, .int .i64 k.1.1,Zc k.1.1)],[(2,_,_),(200,_,_),(201,_,_)]⟩) (fun k=>A.length-k.1.1) ⟨(0,b),Xg _,(VV b).symm⟩ ?_;rintro ⟨⟨s,b2⟩,hs,hb2e⟩;dsimp only;dsimp only at hs hb2e;refine Ys ?_ ?_<;>intro hb83
 · (
 obtain ⟨y,hy⟩:=gS A s;have e5:=Z8 (f:=Zc) hy;have hyi:=hAi y (Xc hy);have s6:=Zdc (p:=fun y:Int=>Ks n E S F y.toNat u.toNat) hy;have hL:=Zll l n E S F y.toNat u.toNat hl hn oM oM;rw [show ((y.toNat:Nat):Int)=y by omega,show ((u.toNat:Nat):Int)=u by omega] at hL;dsimp only [G0] at hL;refine Zh ?_;refine xM (Zg Ye) ?_;refine yV (ZG ZM) ?_;refine ZQ ?_;(refine YW ?_<;>(refine bL 87 (fun hb87=>?_) (fun hb87=>?_)<;>(first|refine kL ?_|refine yU (ZG Y0) fun v88=>?_))<;>refine Jz ?_<;>(first|refine kL ?_|(refine cV (cA call160 (hL)) ?_))<;>refine YJ ?_)<;>(
 refine KJ ?_
 first
  | (exact Zm (
      ⟨(s+1,Ks n E S F y.toNat u.toNat),by show s+1≤A.length;omega,by show Ks n E S F y.toNat u.toNat=_;rw [s6,←Bool.and_assoc,←hb2e,hb87,Uo]⟩
      ) (by show A.length-(s+1)<A.length-s;omega) sB sB)
  | (exact Zm (
      ⟨(s+1,false),by show s+1≤A.length;omega,by show false=_;rw [s6,←Bool.and_assoc,←hb2e,hb87,Bool.false_and]⟩
      ) (by show A.length-(s+1)<A.length-s;omega) sB sB)))
 · (
 refine ZE ?_;refine Zm (
  ⟨(q+1,b2),by show q+1≤cl.length;omega,by show b2=_;rw [s5,←hbe,hb2e,Xq oM]⟩
  ) (by show cl.length-(q+1)<cl.length-q;omega) sB sB))
 · (
 refine nav ?_;(have hbo:O5 n E S F cl=b:=by unfold O5;rw [←hAe,hbe,Xq oM]);refine Zi ?_;refine YX ?_ ?_<;>intro hb95
 · (
 refine Wn ?_;refine Wx (kk:=1) 98 Jb fun h98 ho98=>?_;refine WN 200 98 99 Jb fun h99 ho99=>?_;refine Wy ?_;try refine Yq (Zz (l:=99) 200 rfl rfl) fun _=>?_
 try refine Yq (Zz (l:=102) 201 rfl rfl) fun _=>?_
 try rw [show C.map pInts++[pInts cl]=(C++[cl]).map pInts by simp,show C.length+1=(C++[cl]).length by simp]
 try rw [show D.map Zc++cl.map Zc=(D++cl).map Zc by simp,show D.length+cl.length=(D++cl).length by simp]
 first
  | (exact Zm (
      ⟨(i+1,h99,hdv,C++[cl],D),by show i+1≤cs.length;omega,hod,by show C++[cl]=_;rw [s3,Qb (by rw [hbo];exact hb95),hC],by show D=_;rw [s4,Qa (by rw [hbo,hb95];decide),Xu,hD]⟩
      ) (by show cs.length-(i+1)<cs.length-i;omega) sB sB)
  | (exact Zm (
      ⟨(i+1,hc,h102,C,D++cl),by show i+1≤cs.length;omega,ho102,by show C=_;rw [s3,Qa (by rw [hbo,hb95];decide),Xu,hC],by show D++cl=_;rw [s4,Qb (by rw [hbo,hb95];rfl),hD];simp⟩
      ) (by show cs.length-(i+1)<cs.length-i;omega) sB sB))
 · (
 refine Wn ?_;refine G1 201 102 WY fun h102 ho102=>?_;refine Wy ?_;try refine Yq (Zz (l:=99) 200 rfl rfl) fun _=>?_
 try refine Yq (Zz (l:=102) 201 rfl rfl) fun _=>?_
 try rw [show C.map pInts++[pInts cl]=(C++[cl]).map pInts by simp,show C.length+1=(C++[cl]).length by simp]
 try rw [show D.map Zc++cl.map Zc=(D++cl).map Zc by simp,show D.length+cl.length=(D++cl).length by simp]
 first
  | (exact Zm (
      ⟨(i+1,h99,hdv,C++[cl],D),by show i+1≤cs.length;omega,hod,by show C++[cl]=_;rw [s3,Qb (by rw [hbo];exact hb95),hC],by show D=_;rw [s4,Qa (by rw [hbo,hb95];decide),Xu,hD]⟩
      ) (by show cs.length-(i+1)<cs.length-i;omega) sB sB)
  | (exact Zm (
      ⟨(i+1,hc,h102,C,D++cl),by show i+1≤cs.length;omega,ho102,by show C=_;rw [s3,Qa (by rw [hbo,hb95];decide),Xu,hC],by show D++cl=_;rw [s4,Qb (by rw [hbo,hb95];rfl),hD];simp⟩
      ) (by show cs.length-(i+1)<cs.length-i;omega) sB sB))))
 · (
 refine nav ?_;have hil:i=cs.length:=oM;(have hCe:C=cs.filter (O5 n E S F):=by rw [hC,hil,XH]);(have hDe:D=A++(cs.filter fun c=> !O5 n E S F c).flatten:=by rw [hD,hil,XH]);(have hDp:0<D.length:=by rw [hDe,Xf];omega);obtain ⟨Ds,hDs⟩:∃Ds,Ds=D.mergeSort fun x y=>decide (x≤y):=⟨_,rfl⟩;(have hDsl:Ds.length=D.length:=by rw [hDs,Ug]);have hDi:∀x∈Ds,0≤x∧x<n:=fun x hx=>by
  rw [hDs,K8,hDe,Xd] at hx;rcases hx with h|h
  · exact hAi x h
  · obtain ⟨d,hd,hxd⟩:=Vb.1 h;exact hBi x (hin.1 d (Vh.1 hd).1 x hxd)
 obtain ⟨rs,hrs⟩:∃rs,rs=Ds::C:=⟨_,rfl⟩;have hrm:∀c∈rs,(∀x∈c,0≤x∧x<l.length)∧c.length≤1000000:=fun c hc=>by
  rw [hrs,Xk] at hc;rw [hl];rcases hc with rfl|h
  · exact ⟨hDi,oM⟩
  · rw [hCe] at h;have hm:=(Vh.1 h).1;exact ⟨fun x hx=>hBi x (hin.1 c hm x hx),by have:=hin.2.2.1 c hm;omega⟩
 (have hrl:rs.length≤1000000:=by rw [hrs,Xl];omega);(have hre:rs=C1 n E S F cs:=by rw [hrs,hDs,hDe,hCe,hAe];rfl);(have e6:(C.map pInts).length=C.length*1:=by rw [Xb,Xy]);(have e7:(C.map pInts).all En.one=true:=by rw [VF,Xm];intro x _;rfl);refine GH ?_;refine ZbO 201 HT (call157) ?_ hDp;rw [←hDs];refine ZF ?_;refine Zq (En.freeze (l:=201) (t:=9) rfl rfl) fun _=>?_;rw [Te _ _ _ hDsl.symm];refine Zq (En.freeze (l:=200) (t:=10) rfl rfl) fun _=>?_;rw [G9 _ _ _ rfl];dsimp only [HJ];(refine We [] [] ?_<;>(refine yD 0 rfl (ZG Y0) fun v106 h=>?_;cases h)<;>refine gDx 1 ?_<;>refine gDx 3 ?_<;>(refine aDr 2 fun bk=>?_)<;>refine Wx (kk:=1) 108 Jb fun h108 ho108=>?_<;>refine bE bk ?_<;>(refine aDr 4 fun bk=>?_)<;>refine G1 108 110 Jb fun h110 ho110=>?_<;>refine bE bk ?_<;>(refine aDr 5 fun bk=>?_)<;>(refine Zp (En.freeze (l:=110) (t:=110) rfl rfl) fun _=>?_;rw [show pInts Ds::C.map pInts=rs.map pInts by rw [hrs];rfl,G9 _ _ _ (by rw [hrs,Xl];omega)];by_cases hm:rs.length<2<;>first|(refine cP 111 (cA call144 (PH l _ 4 rs hm)) fun va111 vb111 hva111 h=>?_;cases h)|(refine cP 111 (cA call144 (D4 l _ 4 rs oM (fun c hc=>(hrm c hc).1) hrl (fun c hc=>(hrm c hc).2))) fun va111 vb111 hva111 h=>?_;cases h))<;>refine bE bk ?_<;>refine gDx 6 ?_<;>refine gEx 7 ?_<;>(refine aDr 8 fun bk=>?_)<;>refine Zu 2 YR ?_<;>refine bE bk ?_<;>refine gEx 9 ?_<;>refine Kz ?_)<;>(
 refine YG (k:=2) 2 results114 (.inr ⟨cs,by rw [←hAe];exact Vd.1 hAp,by rw [←hBe];exact hcs,?_⟩);rw [←hre];unfold CW
 first
  |(rw [Qb hm];rfl)
  |(rw [Qa hm];rfl))))))
end Go.Proofs.YteiincihiagidaaGreat
namespace Go.En
open Go.RowKit Go.Cb
theorem cPx {P:Program} {c:Ctx} {ops:Array Oper} {Q:Exit→Act→World→Prop} {rest:List Oper} {sL hP:List (Nat×Ent)} {o:Oper} {ι:Type} {p1 p2:ι→PV} (d:Nat) (hC:LU P c (⟨sL,hP⟩:St) o (fun p=>∃i,p= .tup [p1 i,p2 i])) (k:∀i v1 v2,vOf (p1 i) v1→vOf (p2 i) v2→aL P c ops Q rest ⟨put d (.tuple [v1,v2].toArray, .tup [p1 i,p2 i]) sL,hP⟩) (hsh:∀i,shD (.tup [p1 i,p2 i])=true) (hw:ZP ops sL o=some true:=by exact rfl) (hd:o.dst=some d:=by exact rfl) (hn:d<c.nt:=by exact Xa rfl):aL P c ops Q (o::rest) (⟨sL,hP⟩:St):=
 Si hw hC fun a w F w' v p' Fr H hR hx hT hlo hdw=>by
  obtain ⟨i,rfl⟩:=hR;have hS:=hT.shD (hsh i);rw [hd];have hS':Shr (mof c hP F) w' v (.tup [p1 i,p2 i]):=hS.anti fun b _ h=> .inl h
  cases hS with
  | tup vs ps hl h=>
    match vs,hl,h,hS' with
    |[v1,v2],_,h,hS'=>exact k i v1 v2 (h 0 v1 _ rfl rfl).vOf (h 1 v2 _ rfl rfl).vOf _ _ ⟨F,Hz H hx hn hS'⟩
theorem cDx {P:Program} {c:Ctx} {ops:Array Oper} {Q:Exit→Act→World→Prop} {rest:List Oper} {sL hP:List (Nat×Ent)} {o:Oper} {ι:Type} {p:ι→PV} (d:Nat) (hC:LU P c (⟨sL,hP⟩:St) o (fun q=>∃i,q=p i)) (k:∀i v,vOf (p i) v→aL P c ops Q rest ⟨put d (v,p i) sL,hP⟩) (hsh:∀i,shD (p i)=true) (hw:ZP ops sL o=some true:=by exact rfl) (hd:o.dst=some d:=by exact rfl) (hn:d<c.nt:=by exact Xa rfl):aL P c ops Q (o::rest) (⟨sL,hP⟩:St):=
 Si hw hC fun a w F w' v p' Fr H hR hx hT hlo hdw=>by
  obtain ⟨i,rfl⟩:=hR;have hS:=hT.shD (hsh i);rw [hd];exact k i v hS.vOf _ _ ⟨F,Hz H hx hn (hS.anti fun b _ h=> .inl h)⟩
end Go.En
namespace Go.Proofs.YteiincihiagidaaGreat
open Go.RowKit Go.Cb Go.En Tryz
theorem Zfn:ElT prog 148 106 1 8 .nilFunc:=⟨underlying148,by kernel_rfl,rfl,dC⟩
theorem Zfo:NoAgg prog 106=true:=kR
theorem C2:SlT prog 148 106 1=true:=kR
def Zr1:Option Cut→PV
 |none=> .tup [.agg [Zc 0, .val (.slice none 0 0)],Zc 10]
 |some c=> .tup [ZbE c,Zc 0]
def HW (l:List BA) (kind:Int) (cs:List (List Int)):Option Cut:=if cs.length<2 then none else some ⟨kind,GR l cs⟩
theorem C3 (l:List BA) (kind:Int) (cs:List (List Int)):CW l kind cs=Zr1 (HW l kind cs):=by
 unfold CW HW
 split<;>rfl
def Ri:Option Cut→PV
 |none=> .agg [Zc 0, .val (.slice none 0 0)]
 |some c=>ZbE c
def Rj:Option Cut→PV
 |none=>Zc 10
 |some c=>Zc 0
theorem ZgZ (o:Option Cut):shD (.tup [Ri o,Rj o])=true:=by cases o<;>rfl
theorem PK (o:Option Cut):Zr1 o= .tup [Ri o,Rj o]:=by cases o<;>rfl
def OH (l:List BA) (n:Nat) (E:Nat→Nat→Bool) (S F:Nat→Bool):Nat→Option Cut→Prop
 |0,o=>∃cs,Comps (upTo n) (Zc9 E) cs∧o=HW l 1 cs
 |1,o=>∃cs,SeqCs n (WZ n E) cs∧o=HW l 2 cs
 |2,o=>∃cs,Comps (upTo n) (Zfl E) cs∧((idx (Jc S F) cs<0∧o=none)∨∃i0 c0 ds,cs[i0]? =some c0∧idx (Jc S F) cs=(i0:Nat)∧AndCs cs i0 c0 (Jc S F) ds∧o=HW l 3 ds)
 |_,o=>(inL n S F=[]∧o=none)∨∃cs,inL n S F≠[]∧Comps (ζ6 n S F) (Zc9 E) cs∧o=HW l 4 (C1 n E S F cs)
def D5 (Q:Nat→Option Cut→Prop) (o:Option Cut):Prop:=(∃k c,k<4∧(∀j,j<k→Q j none)∧Q k (some c)∧o=some c)∨((∀j,j<4→Q j none)∧o=none)
theorem ZoG (caps:List PV):AF prog 150 [.sl 0 [], .fn 151 caps] (· = .val (.tuple #[])):=fun M w vs hM hlen hv=>by
 obtain ⟨v,fv,rfl⟩:=HE hlen
 have hS:=hv 0 v _ rfl rfl
 cases hS with
 | emp a c hc ha=>
   refine (Tryz.slices_SortFunc_none (α:=Nat) a c fv w).mono fun e w' ⟨h1,h2⟩=>?_;rw [h1,h2];exact ⟨_,_,fun _=>False,rfl,rfl,Ext.rfl' _, .shr (.val _) (fun _ h=>h),fun b hb=>hb.elim,fun h=>h.elim⟩
 | sl b off n c cs vs' hnc hc hcell hT=>
   refine (Tryz.slices_SortFunc_none (α:=Nat) _ c fv w).mono fun e w' ⟨h1,h2⟩=>?_;rw [h1,h2];exact ⟨_,_,fun _=>False,rfl,rfl,Ext.rfl' _, .shr (.val _) (fun _ h=>h),fun b hb=>hb.elim,fun h=>h.elim⟩
theorem ZiO (g:Dfg) (l:List BA) (E:Nat→Nat→Bool) (S F:Nat→Bool) (hb:AF prog 143 [GJ g] (· = .tup [G0 l 0 E S F,Zc 0])) (hl:l.length=0):AF prog 112 [GJ g] (fun p=>∃cs,SeqCs 0 (WZ 0 E) cs∧p=CW l 2 cs):=by
 refine AF.b1 31 func112 rfl ntmps112 (Xa rfl) fun w0 M0 v0 _=>?_
 refine Zh ?_
 refine ZV 1 4 fun h1=>?_;refine Zx [(.int .i64 0),(.slice none 0 0)] 2 2 KP fun h2=>?_;refine ZQ ?_
 refine yU (Zj 1 YQ) fun v9=>?_;refine cP 10 (cA call143 (hb)) fun va10 vb10 hva10 hvb10=>?_;cases hvb10;refine JY ?_;refine GG ?_ ?_<;>intro hb14
 · exfalso;omega
 · refine Zh ?_;refine Yv ?_;refine cU (cA call148 (ZcW l 0 E (Kq 0 S) (Kq 0 F) hl oM)) fun v18=>?_;refine Zx [(.slice none 0 0)] 1 6 CY fun h6=>?_;refine GC 6 Wt CX ?_;refine ZF ?_;refine Zq (T0 (l:=6) (t:=6) (j:=0) rfl Vs rfl) fun _=>?_;dsimp only [YV,share,List.map,G0];refine GH ?_;refine cU (cA call146 ((ZbP l _ oM).mono (R':=(· =pInts (upTo 0))) fun p hp=>by rw [hp,hl])) fun v20=>?_;refine xM TP ?_;refine Sj 22 rfl rfl (Xa rfl) rfl (cA call145 (Sp 149 [.sptr 0 [ZbL 0 (WZ 0 E)]] (relS (WZ 0 E)) (upTo 0) (PI 0) (by rw [GL];omega) (call149) (fun x hx y hy=>ZgU 0 (WZ 0 E) x y (K9.1 hx) (K9.1 hy)))) ?_;rintro p' ⟨cs,hcs,rfl⟩;refine ⟨rfl,fun h22 ho22=>?_⟩;refine ZB ?_;have hcn:cs=[]:=XB (by have:=(TC hcs).2.1;omega);subst hcn;refine Zq (En.freeze (l:=22) (t:=7) rfl rfl) fun _=>?_;rw [G9 _ _ _ rfl];dsimp only [HJ,List.map,Xz];refine Zi ?_;refine xL 23 Za (xL 24 TP ?_);refine cV (cA call150 (ZoG _)) ?_;refine OW ?_;refine cP 28 (cA call144 (PH l _ 2 [] dC)) fun va28 vb28 hva28 hvb28=>?_;cases hvb28;refine YW ?_;refine Zu 2 YR ?_;refine ZB ?_;exact YG (k:=2) 2 results112 ⟨[],⟨⟨[],hcs, .refl _⟩,fun i j a b hij ha hb=>by simp at ha⟩,rfl⟩
theorem ZiP (g:Dfg) (l:List BA) (n:Nat) (E:Nat→Nat→Bool) (S F:Nat→Bool) (hb:AF prog 143 [GJ g] (· = .tup [G0 l n E S F,Zc 0])) (hl:l.length=n) (hn:n≤1000):
 (AF prog 111 [GJ g] fun p=>∃i:{o//OH l n E S F 0 o},p= .tup [Ri i.1,Rj i.1])∧(AF prog 112 [GJ g] fun p=>∃i:{o//OH l n E S F 1 o},p= .tup [Ri i.1,Rj i.1])∧(AF prog 113 [GJ g] fun p=>∃i:{o//OH l n E S F 2 o},p= .tup [Ri i.1,Rj i.1])∧(AF prog 114 [GJ g] fun p=>∃i:{o//OH l n E S F 3 o},p= .tup [Ri i.1,Rj i.1]):=by
 refine ⟨(ZiH g l n E S F hb hl hn).mono fun p hp=>?_,?_,(ZiK g l n E S F hb hl hn).mono fun p hp=>?_,(Zfm g l n E S F hb hl hn).mono fun p hp=>?_⟩
 · obtain ⟨cs,h1,rfl⟩:=hp;exact ⟨⟨_,cs,h1,rfl⟩,by rw [C3,PK]⟩
 · rcases Ub n with h0|h0
   · subst h0;refine (ZiO g l E S F hb hl).mono fun p hp=>?_;obtain ⟨cs,h1,rfl⟩:=hp;exact ⟨⟨_,cs,h1,rfl⟩,by rw [C3,PK]⟩
   · refine (ZiI g l n E S F hb hl hn h0).mono fun p hp=>?_;obtain ⟨cs,h1,rfl⟩:=hp;exact ⟨⟨_,cs,h1,rfl⟩,by rw [C3,PK]⟩
 · obtain ⟨cs,h1,⟨h2,rfl⟩|⟨i0,c0,ds,h2,h3,h4,rfl⟩⟩:=hp
   · exact ⟨⟨none,cs,h1, .inl ⟨h2,rfl⟩⟩,rfl⟩
   · exact ⟨⟨_,cs,h1, .inr ⟨i0,c0,ds,h2,h3,h4,rfl⟩⟩,by rw [C3,PK]⟩
 · obtain ⟨h2,rfl⟩|⟨cs,h2,h3,rfl⟩:=hp
   · exact ⟨⟨none, .inl ⟨h2,rfl⟩⟩,rfl⟩
   · exact ⟨⟨_, .inr ⟨cs,h2,h3,rfl⟩⟩,by rw [C3,PK]⟩
theorem Zfp (g:Dfg) (l:List BA) (n:Nat) (E:Nat→Nat→Bool) (S F:Nat→Bool) (hb:AF prog 143 [GJ g] (· = .tup [G0 l n E S F,Zc 0])) (hl:l.length=n) (hn:n≤1000):AF prog 68 [GJ g] (fun p=>∃o,D5 (OH l n E S F) o∧p= .tup [Ri o,Rj o]):=by
 have hG:=ZiP g l n E S F hb hl hn
 have hfs:∀k:Nat,k<3→∃f,[PV.fn 111 [],PV.fn 112 [],PV.fn 113 []][k*1]? =some (.fn f [])∧(∀args w,(callFunc f args).run prog w= .ok (.enter f args) w)∧(AF prog f [GJ g] fun p=>∃i:{o//OH l n E S F k o},p= .tup [Ri i.1,Rj i.1]):=fun k hk=>by
  match k,hk with
  |0,_=>exact ⟨_,rfl,call111,hG.1⟩
  |1,_=>exact ⟨_,rfl,call112,hG.2.1⟩
  |2,_=>exact ⟨_,rfl,call113,hG.2.2.1⟩
 refine AF.b1 29 func68 rfl ntmps68 (Xa rfl) fun w0 M0 v0 _=>?_
 refine Zh ?_
 refine ZV 1 4 fun h1=>?_;refine Zx [(.int .i64 0),(.slice none 0 0)] 2 2 KP fun h2=>?_;refine ZQ ?_
 refine Zgz (xs:=[_,_,_]) 8 Zfn rfl rfl (Xa rfl) rfl rfl rfl rfl rfl dC dC rfl ?_;intro h8 ho8;refine Zp (En.freeze (l:=8) (t:=8) rfl rfl) fun _=>?_;refine xL 9 (Zy C2) (xL 10 Za ?_);refine ZF ?_
 refine Yd (ι:={x:Nat//x≤3∧∀j,j<x→OH l n E S F j none}) (fun k=>⟨[(1,_,_),(2,_,_),(8,_,_),(9,_,_),(10, .int .i64 k.1,Zc k.1)],[(1,_,_),(2,_,_)]⟩) (fun k=>3-k.1) ⟨0,Xg _,fun j hj=>Qc hj (Ut j)⟩ ?_
 rintro ⟨k,hk,hQ⟩
 dsimp only
 try dsimp only at hk hQ
 refine Ys ?_ ?_<;>intro hb11
 · (
 have hk3:k<3:=oM;obtain ⟨f,e1,hfc,hfa⟩:=hfs k hk3;refine Zh ?_;refine xM (Zg C2) ?_;refine yU (ZG Zfo) fun v13=>?_;refine ZQ ?_;(refine Yv ?_<;>refine yU (Zj 1 YQ) fun v16=>?_<;>(refine cPx 17 (LV (f:=f) (ps:=[]) rfl ⟨_,rfl⟩ hfc rfl hfa) (fun i va17 vb17 hva17 hvb17=>?_) (fun i=>ZgZ i.1);rcases i with ⟨_|cc,hq⟩<;>(dsimp only [Ri,Rj] at hva17 hvb17 ⊢;cases hvb17))<;>refine Y' ?_<;>refine Zx [(.int .i64 0),(.slice none 0 0)] 2 6 KP fun h6=>?_<;>refine Zu 6 YR ?_<;>refine ZB ?_)<;>(
 refine KJ ?_;refine cX ?_ ?_<;>intro hb21
 · (
 refine Zh ?_;refine yU (Zj 6 YR) fun v22=>?_;refine Yv ?_;refine Zu 2 YR ?_;refine ZB ?_
 first
  |exact Qc rfl hb21
  |exact YG (k:=2) 2 results68 ⟨some cc, .inl ⟨k,cc,oM,hQ,hq,rfl⟩,rfl⟩)
 · (
 refine ZE ?_;refine Zm (
  ⟨k + 1,oM,fun j hj=>by
   rcases Nat.lt_succ_iff_lt_or_eq.1 hj with h|h
   · exact hQ j h
   · rw [h]
     first
      |exact hq
      |exact Qc dC hb21⟩
  ) (by show 3-(k+1)<3-k;omega) sB sB)))
 · (
 refine Zh ?_;(refine yU (Zj 1 YQ) fun v25=>?_<;>(refine cPx 26 (cA call114 hG.2.2.2) (fun i va26 vb26 hva26 hvb26=>?_) (fun i=>ZgZ i.1);rcases i with ⟨_|cc,hq⟩<;>(dsimp only [Ri,Rj] at hva26 hvb26 ⊢;cases hvb26))<;>refine YW ?_<;>refine Zu 2 YR ?_<;>refine ZB ?_)<;>(
 have hk3:k=3:=oM;subst hk3
 first
  |exact YG (k:=2) 2 results68 ⟨some cc, .inl ⟨3,cc,oM,hQ,hq,rfl⟩,rfl⟩
  |exact YG (k:=2) 2 results68 ⟨none, .inr ⟨fun j hj=>(Nat.lt_succ_iff_lt_or_eq.1 hj).elim (hQ j) fun h=>by rw [h];exact hq,rfl⟩,rfl⟩))
end Go.Proofs.YteiincihiagidaaGreat
namespace Go.Cb
open Go.En
def sumTo:Nat→(Nat→Nat)→Nat
 |0,_=>0
 |n+1,f=>sumTo n f+f n
def marked (n:Nat) (I:Nat→Bool):List Int:=((List.range n).map fun i:Nat=>(i:Int)).filter fun x=>I x.toNat
structure LabOk (n:Nat) (I:Nat→Bool) (r:Int→Int→Bool) (lab:Nat→Nat):Prop where
 le:∀i,i<n→lab i≤i
 inn:∀i,i<n→I i=true→I (lab i)=true
 conn:∀i,i<n→I i=true→Conn (marked n I) r (lab i) i
def good (n:Nat) (I:Nat→Bool) (t:Nat→Nat→Bool) (lab:Nat→Nat) (a b:Nat):Prop:=a≠b→I a=true→I b=true→t a b=true→lab a=lab b
structure LabPass (n:Nat) (I:Nat→Bool) (r:Int→Int→Bool) (t:Nat→Nat→Bool) (lab0 lab:Nat→Nat) (ag:Bool) (a b:Nat):Prop where
 ok:LabOk n I r lab
 les:ag=true→sumTo n lab<sumTo n lab0
 eq:ag=false→lab=lab0∧∀x y,(x<a∧y<n∨x=a∧y<b)→good n I t lab x y
structure Fix (n:Nat) (I:Nat→Bool) (r:Int→Int→Bool) (t:Nat→Nat→Bool) (lab:Nat→Nat):Prop where
 ok:LabOk n I r lab
 st:∀x y,x<n→y<n→good n I t lab x y
theorem ZbQ {α:Type} {rel:α→α→Prop}:∀{l m:List α},(∀a∈l,∀b∈l,rel a b→¬rel b a)→l.Pairwise rel→m.Pairwise rel→(∀c,c∈l↔c∈m)→l=m
 |[],[],_,_,_,_=>rfl
 |[],b::m,_,_,_,h=>by have:=(h b).2 sM;simp at this
 |a::l,[],_,_,_,h=>by have:=(h a).1 sM;simp at this
 | a ::l,b::m,ha,hl,hm,h=>by
   rw [XL] at hl hm;have hab:a=b:=by
    have h1:=(h a).1 sM;have h2:=(h b).2 sM;rcases Xk.1 h1 with e|e
    · exact e
    · rcases Xk.1 h2 with e2|e2
      · exact e2.symm
      · exact Qc (hm.1 a e) (ha a sM b h2 (hl.1 b e2))
   subst hab;have hirr:¬rel a a:=fun hr=>ha a sM a sM hr hr;rw [ZbQ (fun x hx y hy=>ha x (by simp [hx]) y (by simp [hy])) hl.2 hm.2 fun x=>?_];constructor
   · intro hx;rcases Xk.1 ((h x).1 (by simp [hx])) with e|e
     · subst e;exact Qc (hl.1 _ hx) hirr
     · exact e
   · intro hx;rcases Xk.1 ((h x).2 (by simp [hx])) with e|e
     · subst e;exact Qc (hm.1 _ hx) hirr
     · exact e
end Go.Cb
namespace Go.Proofs.YteiincihiagidaaGreat
open Go.RowKit Go.Cb Go.En Tryz
end Go.Proofs.YteiincihiagidaaGreat
namespace Go.En
open Go.RowKit Go.Cb
end Go.En
namespace Go.Proofs.YteiincihiagidaaGreat
open Go.RowKit Go.Cb Go.En Tryz
def Zly (R:Nat→Nat→Bool) (c d:List Int):Prop:=R (WG c).toNat (WG d).toNat=true
theorem Zlz {l:List Int} {r:Int→Int→Bool} {cs:List (List Int)} (h:Comps l r cs):cs.Pairwise fun c d=>WG c≠WG d:=h.heads.imp fun h=>oM
theorem ZoH {n:Nat} {E:Nat→Nat→Bool} {cs out ds:List (List Int)} (hc:Comps (upTo n) (relS (WZ n E)) cs) (hp:out.Perm cs) (ho:out.Pairwise (Zly (WZ n E))) (hd:SeqCs n (WZ n E) ds):out=ds:=by
 obtain ⟨cs',hc',hp'⟩:=hd.cl
 have e:=hc'.unique hc fun _ _ _ _=>Iff.rfl
 subst e
 have hne:∀{m:List (List Int)},m.Perm cs'→m.Pairwise fun c d=>WG c≠WG d:=fun h=>(h.pairwise_iff (R:=fun c d=>WG c≠WG d) fun h=>Ne.symm h).2 (Zlz hc')
 refine ZbQ (rel:=fun c d=>WG c≠WG d∧Zly (WZ n E) c d) (fun a ha b hb hab hba=>?_) ((hne hp).and ho) ((hne hp').and ?_) fun c=>by rw [hp.mem_iff,hp'.mem_iff]
 · have h0:=Tf hc' (hp.mem_iff.1 ha) (hp.mem_iff.1 hb) hab.1;have h1:=hab.2;have h2:=hba.2;unfold Zly at h1 h2;exact h0 (h1.trans h2.symm)
 · rw [XS];intro i j hi hj hij;have h1:=hd.ord i j _ _ hij (Xx hi) (Xx hj);have h2:=XS.1 (hne hp') i j hi hj hij;have h3:=Tf hc' (hp'.mem_iff.1 (Ve hi)) (hp'.mem_iff.1 (Ve hj)) h2;rw [RS] at h1;unfold Zly
   cases hr:WZ n E (WG ds[i]).toNat (WG ds[j]).toNat with
   |true=>rfl
   | false=>
     exfalso
     cases hr2:WZ n E (WG ds[j]).toNat (WG ds[i]).toNat with
     |true=>exact h1 ⟨Ne.symm h2,hr2⟩
     |false=>exact h3 (hr.trans hr2.symm)
theorem ZoI {α:Type} {p:α→Bool} {l:List α} {i0:Nat} (h:idx p l=i0):(∀j y,j<i0→l[j]? =some y→p y=false)∧∀y,l[i0]? =some y→p y=true:=by
 unfold idx at h
 cases hf:l.findIdx? p with
 |none=>rw [hf] at h;dsimp only at h;omega
 | some i=>
   rw [hf] at h;dsimp only at h;have hi0:i=i0:=oM;subst hi0;rw [Uy] at hf;obtain ⟨hi,hp,hlt⟩:=hf;refine ⟨fun j y hj hy=>?_,fun y hy=>?_⟩
   · obtain ⟨hl,rfl⟩:=Xr.1 hy;simpa using hlt j hj
   · obtain ⟨hl,rfl⟩:=Xr.1 hy;exact hp
theorem ZiQ {α:Type} {p:α→Bool} {l:List α} (k:Nat) (h:∀j y,j<k→l[j]? =some y→p y=false):(l.take k).filter p=[]:=List.filter_eq_nil_iff.2 fun x hx=>by
 obtain ⟨j,hj⟩:=XR hx
 have hjl:=Zd hj
 rw [XG] at hjl
 rw [X9 oM] at hj
 rw [h j x oM hj];decide
theorem ZaJ {i0:Nat} {W:List Int→Bool} {cs:List (List Int)} (hW:∀y,cs[i0]? =some y→W y=true):∀k,k≤cs.length→selA i0 W false (cs.take k)=(cs.take k).filter fun c=> !W c
 |0,_=>by simp [selA]
 | k+1,hk=>by
   obtain ⟨c,hc⟩:=gS cs k;rw [Of hc,Og hc,ZaJ hW k oM];congr 1;by_cases h:W c=false
   · rw [Qb ⟨fun e=>by subst e;rw [hW c hc] at h;exact Bool.noConfusion h,h⟩,Qb (by rw [h];rfl)]
   · rw [Qa (fun hh=>h hh.2),Qa (by simpa using h)]
theorem Zdd {i0:Nat} {W:List Int→Bool} {cs:List (List Int)} {c0:List Int} (h0:cs[i0]? =some c0) (hW:W c0=true) (hpre:∀j y,j<i0→cs[j]? =some y→W y=false):∀k,k≤cs.length→(cs.take k).filter W=(if i0<k then [c0] else [])++selA i0 W true (cs.take k)
 |0,_=>by simp [selA]
 | k +1,hk=>by
   obtain ⟨c,hc⟩:=gS cs k;have hb:k≤i0→selA i0 W true (cs.take k)=[]:=fun hk0=>List.eq_nil_iff_forall_not_mem.2 fun x hx=>by
    have hm:=C0 hx;have:=ZiQ (p:=W) (l:=cs) k fun j y hj=>hpre j y oM;have h2:x∈(cs.take k).filter W:=Vh.2 hm;rw [this] at h2;exact List.not_mem_nil h2
   rw [Of hc,Og hc,Zdd h0 hW hpre k oM];rcases VG k i0 with h|h|h
   · have hw:=hpre k c h hc;rw [Qa (show ¬i0<k by omega),Qa (show ¬i0<k+1 by omega),Qa (show ¬W c=true by rw [hw];decide),Qa (fun hh=>by rw [hw] at hh;exact Bool.noConfusion hh.2)];simp
   · subst h;rw [h0] at hc;cases hc;rw [hb (Xe _),Qa (show ¬k<k by omega),Qb (show k<k+1 by omega),Qb hW,Qa (fun hh=>hh.1 rfl)];simp
   · rw [Qb h,Qb (show i0<k+1 by omega)];by_cases hw:W c=true
     · rw [Qb hw,Qb ⟨oM,hw⟩];simp
     · rw [Qa hw,Qa (fun hh=>hw hh.2)];simp
theorem Oh {α:Type} (p:α→Bool):∀l:List α,(l.filter p++l.filter fun x=> !p x).Perm l
 |[]=> .refl _
 | a::l=>by
   cases h:p a with
   |true=>rw [Ur h,Us (by rw [h];decide)];exact (Oh p l).cons a
   |false=>rw [Us (by rw [h];decide),Ur (by rw [h];rfl)];exact List.perm_middle.trans ((Oh p l).cons a)
theorem ZaK {α:Type} {l m:List (List α)} (h:l.Perm m):l.flatten.Perm m.flatten:=by
 induction h with
 |nil=>exact .refl _
 |cons x _ ih=>rw [XW,XW];exact ih.append_left x
 | swap x y l=>
   rw [XW,XW,XW,XW,←XA,←XA];exact List.perm_append_comm.append_right _
 |trans _ _ h1 h2=>exact h1.trans h2
theorem C4 {l:List BA} {s:BA}:hasStr l s=true↔s∈l:=by
 constructor
 · intro h;unfold hasStr at h;obtain ⟨x,hx,e⟩:=X4.1 h;rw [←KB.1 e];exact hx
 · exact Ey
structure Fine (c:Cut) (P:List (List BA)):Prop where
 len:c.parts.length≤P.length
 ok:∀p∈P,∃s0,p[0]? =some s0∧0≤partOf c.parts s0∧∀s∈p,hasStr (c.parts[(partOf c.parts s0).toNat]?.getD []) s=true
 ord:c.kind=2→∀(k:Nat) p q s t,P[k]? =some p→P[k+1]? =some q→p[0]? =some s→q[0]? =some t→partOf c.parts s≤partOf c.parts t
end Go.Proofs.YteiincihiagidaaGreat
namespace Go.Cb
open Go.En
def Wg (parts:List (List BA)) (ps:List Piece) (s:BA):List Piece:=match ps[ps.length-1]? with
 |none=>[⟨partOf parts s,[s]⟩]
 |some q=>if q.part=partOf parts s then ps.set (ps.length-1) ⟨q.part,q.word++[s]⟩ else ps++[⟨partOf parts s,[s]⟩]
def RU (parts:List (List BA)) (ps:List Piece) (ws:List BA):List Piece:=ws.foldl (Wg parts) ps
def Lm:List Piece→Bool
 |p::q::l=>(p.part==0||q.part==0)&&Lm (q::l)
 |_=>true
theorem Zde {l:List Piece} {q:Piece}:∀(m:List Piece),Lm (l++m)=true→Lm l=true:=by
 intro m
 induction l with
 |nil=>intro _;rfl
 | cons p l ih=>
   intro h
   cases l with
   |nil=>rfl
   | cons p' l=>
     simp only [XV,Lm,Xi] at h ⊢;exact ⟨h.1,ih (by simpa using h.2)⟩
theorem ZaL:∀(l:List Piece) (p q:Piece),Lm (l++[p,q])=(Lm (l++[p])&&(p.part==0||q.part==0))
 |[],p,q=>by simp [Lm]
 |[a],p,q=>by simp [Lm,Bool.and_comm]
 | a::b::l,p,q=>by
   simp only [XV,Lm];have:=ZaL (b::l) p q;simp only [XV] at this;rw [this,Bool.and_assoc]
theorem C5:∀(l:List Piece) (p p':Piece),p.part=p'.part→Lm (l++[p])=Lm (l++[p'])
 |[],_,_,_=>rfl
 |[a],p,p',h=>by simp [Lm,h]
 | a::b::l,p,p',h=>by
   simp only [XV,Lm];have:=C5 (b::l) p p' h;simp only [XV] at this;rw [this]
theorem O6 {α:Type} {l:List α} {x:α} (h:l[l.length-1]? =some x):∃m,l=m++[x]:=by
 have hl:=(Xr.1 h).1
 refine ⟨l.take (l.length-1),?_⟩
 have h1:=Zw h
 rw [show l.length-1+1=l.length by omega,XH] at h1
 exact h1
theorem D6 {α:Type} (m:List α) (x y:α):(m++[x]).set ((m++[x]).length-1) y=m++[y]:=by
 have:(m++[x]).length-1=m.length:=sM
 rw [this,VE _ _ (Xe _),Vm];rfl
theorem ZlA {α:Type} (m:List α) (x:α):(m++[x])[(m++[x]).length-1]? =some x:=by
 have:(m++[x]).length-1=m.length:=sM
 rw [this,X' (Xe _),Vm];rfl
theorem Zdf {parts:List (List BA)} {ps:List Piece} {s:BA} (h:Lm ps=false):Lm (Wg parts ps s)=false:=by
 unfold Wg
 split
 · rename_i hn
   cases ps with
   |nil=>cases h
   |cons p ps=>simp at hn
 · rename_i q hq;obtain ⟨m,rfl⟩:=O6 hq;split
   · rw [D6,←C5 m q ⟨q.part,q.word++[s]⟩ rfl];exact h
   · cases h1:Lm (m++[q]++[⟨partOf parts s,[s]⟩])
     · rfl
     · rw [Zde (q:=q) _ h1] at h;cases h
theorem Zdg {parts:List (List BA)}:∀(ws:List BA) (ps:List Piece),Lm ps=false→Lm (RU parts ps ws)=false
 |[],ps,h=>h
 |s::ws,ps,h=>Zdg ws _ (Zdf h)
theorem SQ {parts:List (List BA)}:∀(ws:List BA) (ps:List Piece),Lm ps=true→Ji parts ps ws=if Lm (RU parts ps ws) then some (RU parts ps ws) else none
 |[],ps,h=>by simp [Ji,RU,h]
 | s :: ws, ps,h=>by
   rw [Ji];show _=if Lm (RU parts (Wg parts ps s) ws) then some (RU parts (Wg parts ps s) ws) else none;unfold G6;have hrs:Wg parts ps s=Wg parts ps s:=rfl
   cases hq:ps[ps.length-1]? with
   | none=>
     (have:Wg parts ps s=[⟨partOf parts s,[s]⟩]:=by unfold Wg;rw [hq]);rw [this];exact SQ ws _ rfl
   | some q =>
     obtain ⟨m,rfl⟩:=O6 hq;simp only [];by_cases h1:q.part=partOf parts s
     · (have:Wg parts (m++[q]) s=(m++[q]).set ((m++[q]).length-1) ⟨q.part,q.word++[s]⟩:=by unfold Wg;rw [hq];simp [h1]);rw [Qb h1,this];refine SQ ws _ ?_;rw [D6,←C5 m q ⟨q.part,q.word++[s]⟩ rfl];exact h
     · (have :Wg parts (m++[q]) s=m++[q]++[⟨partOf parts s,[s]⟩]:=by unfold Wg;rw [hq];simp [h1]);rw [Qa h1,this];have ha:Lm (m++[q]++[⟨partOf parts s,[s]⟩])=(Lm (m++[q])&&(q.part==0||partOf parts s==0)):=by
        rw [XA];exact ZaL m q _
       by_cases h2:partOf parts s≠0∧q.part≠0
       · rw [Qb h2];(have hb:Lm (m++[q]++[⟨partOf parts s,[s]⟩])=false:=by rw [ha];simp [h2.1,h2.2]);rw [Zdg ws _ hb];rfl
       · rw [Qa h2];refine SQ ws _ ?_;rw [ha,h];simp;by_cases h3:q.part=0
         · exact .inl h3
         · right
           by_cases h4:partOf parts s=0
           · exact h4
           · exact Qc ⟨h4,h3⟩ h2
def K' (ps:List Piece) (i:Nat):Bool:=match ps[i]? with
 |none=>false
 |some p=>p.part !=0&&(i==0||i==ps.length-1||match ps[i+1]? with|some q=>q.part !=0|none=>false)
def JJ (ps:List Piece):Bool:=(List.range ps.length).all fun i=> !K' ps i
theorem Zg0:∀(ps:List Piece),Lm ps=true↔∀i p q,ps[i]? =some p→ps[i+1]? =some q→p.part=0∨q.part=0
 |[]=>by simp [Lm]
 |[p]=>by simp [Lm]
 | p ::q::l=>by
   rw [Lm,Xi,Zg0 (q::l)];constructor
   · rintro ⟨h1,h2⟩ i a b ha hb
     cases i with
     |zero=>simp at ha hb;subst ha hb;simpa using h1
     |succ i=>exact h2 i a b (by simpa using ha) (by simpa using hb)
   · intro h;refine ⟨by simpa using h 0 p q rfl rfl,fun i a b ha hb=>h (i+1) a b (by simpa using ha) (by simpa using hb)⟩
theorem ZlB {ps:List Piece} (h0:ps≠[]):JJ ps=(Lm ps&&endsB ps):=by
 have hlen:0<ps.length:=by cases ps with|nil=>exact Qc rfl h0|cons=>simp
 obtain ⟨a,ha⟩:=get_some hlen
 obtain ⟨b,hb⟩:=get_some (show ps.length-1<ps.length by omega)
 have hends:endsB ps=(a.part==0&&b.part==0):=by unfold endsB;rw [ha,hb]
 rw [VM,Xi,Zg0,hends]
 unfold JJ
 rw [Xm]
 constructor
 · intro h;have key:∀i p,ps[i]? =some p→p.part≠0→i≠0∧i≠ps.length-1∧∀q,ps[i+1]? =some q→q.part=0:=fun i p hp hne=>by
    have h1:=h i (Va.2 (Zd hp));unfold K' at h1;rw [hp] at h1;simp [hne] at h1;refine ⟨h1.1.1,h1.1.2,fun q hq=>?_⟩;have:=h1.2;rw [hq] at this;simpa using this
   refine ⟨fun i p q hp hq=>?_,?_⟩
   · by_cases hz:p.part=0
     · exact .inl hz
     · exact .inr ((key i p hp hz).2.2 q hq)
   · simp;constructor
     · by_cases hz:a.part=0
       · exact hz
       · exact Qc rfl (key 0 a ha hz).1
     · by_cases hz:b.part=0
       · exact hz
       · exact Qc rfl (key _ b hb hz).2.1
 · rintro ⟨h1,h2⟩ i hi;simp at h2;unfold K'
   cases hp:ps[i]? with
   |none=>rfl
   | some p=>
     by_cases hz:p.part=0
     · simp [hz]
     · (have e1:i≠0:=fun e=>by subst e;rw [ha] at hp;cases hp;exact hz h2.1);(have e2:i≠ps.length-1:=fun e=>by subst e;rw [hb] at hp;cases hp;exact hz h2.2);simp [hz,e1,e2]
       cases hq:ps[i+1]? with
       |none=>rfl
       |some q=>simpa using (h1 i p q hp hq).resolve_left hz
theorem Zg1 {parts:List (List BA)}:∀(ws:List BA) (ps:List Piece),ps≠[]→RU parts ps ws≠[]
 |[],ps,h=>h
 | s ::ws,ps,h=>Zg1 ws _ (by
   unfold Wg;split
   · simp
   · split
     · intro e;exact h (by simpa using e)
     · simp)
theorem Zfq {parts:List (List BA)} {ps:List Piece} {s:BA}:Wg parts ps s≠[]:=by
 unfold Wg
 split
 · simp
 · rename_i q hq;split
   · intro e;(have:ps=[]:=by simpa using e);subst this;simp at hq
   · simp
theorem ζ7 {parts:List (List BA)} {ws:List BA} (h:ws≠[]):S8 parts ws=if JJ (RU parts [] ws) then some (RU parts [] ws) else none:=by
 have hne:RU parts [] ws≠[]:=by
  cases ws with
  |nil=>exact Qc rfl h
  |cons s ws=>exact Zg1 ws _ Zfq
 unfold S8
 rw [Qa h,SQ ws [] rfl,ZlB hne]
 cases h1:Lm (RU parts [] ws)
 · simp
 · simp
theorem HX {parts:List (List BA)} {ws:List BA} {k:Nat} {s:BA} (h:ws[k]? =some s):RU parts [] (ws.take (k+1))=Wg parts (RU parts [] (ws.take k)) s:=by
 unfold RU
 rw [Zw h,Vp];rfl
theorem ZbR {parts:List (List BA)} {ps:List Piece} {s:BA}:∃m w,Wg parts ps s=m++[⟨partOf parts s,w⟩]:=by
 unfold Wg
 split
 · exact ⟨[],_,rfl⟩
 · rename_i q hq;obtain ⟨m,rfl⟩:=O6 hq;split
   · rename_i h;rw [D6,h];exact ⟨m,_,rfl⟩
   · exact ⟨_,_,rfl⟩
def ZbS (q:Piece):List PV:=[Zc q.part,Zs q.word]
def E3 (ps:List Piece):PV:= .sl ps.length (ps.flatMap ZbS)
def YO (e:Nat) (q:Piece):List PV:=[Zc q.part, .own e 1 q.word.length (q.word.map Zt)]
theorem C6 (q:Piece):(ZbS q).length=2:=rfl
theorem Wj (e:Nat) (q:Piece):(YO e q).length=2:=rfl
theorem Zfr (l:List BA):YV (l.map Zt)=l.map Zt:=by
 rw [Z7,Xt];rfl
theorem ON (l m:List PV):YV (l++m)=YV l++YV m:=by rw [Z7,Z7,Z7,XC]
theorem OO (e:Nat) (ps:List Piece):YV (ps.flatMap (YO e))=ps.flatMap ZbS:=by
 induction ps with
 |nil=>simp [YV]
 | cons q ps ih=>
   rw [Xv,Xv,ON,ih];congr 1;simp [YO,ZbS,YV,share,Zfr,Zs]
theorem PL {α β:Type} {f:α→List β} {k:Nat} (hf:∀x,(f x).length=k):∀(l:List α) (i j:Nat) (x y:α) (b:β),l[i]? =some x→j<k→(f x).set j b=f y→(l.flatMap f).set (i*k+j) b=(l.set i y).flatMap f
 |[],i,j,x,y,b,h,_,_=>by simp at h
 | z::l,0,j,x,y,b,h,hj,he=>by
   simp at h;subst h;rw [X8,XE,Xv,List.set_append_left _ _ (by rw [hf];exact hj),he];rfl
 | z::l,i+1,j,x,y,b,h,hj,he=>by
   rw [Xv,VE _ _ (by rw [hf,X1];omega),hf,show (i+1)*k+j-k=i*k+j by rw [X1];omega,PL hf l i j x y b (by simpa using h) hj he];rfl
end Go.Cb
namespace Go.Proofs.YteiincihiagidaaGreat
open Go.RowKit Go.Cb Go.En Tryz
theorem EB:AggT prog 156 2=true:=kR
theorem Sq:ElT prog 152 156 2 32 (.agg #[(.int .i64 0),(.slice none 0 0)]):=⟨underlying152,by kernel_rfl,rfl,dC⟩
theorem Oi:ElT prog 39 9 1 16 (.string ByteArray.empty):=⟨underlying39,by kernel_rfl,rfl,dC⟩
theorem LK:FldT prog 156 0 0=true:=kR
theorem T2:FldT prog 156 1 1=true:=kR
theorem KQ:MpT prog 142 9 3 .string (.int .i64 0):=⟨underlying142,underlying9, .inl rfl,by show ZeroT _ _ _;unfold ZeroT;kernel_rfl⟩
theorem KR:NoAgg prog 142=true:=kR
theorem KC:NoAgg prog 39=true:=kR
theorem PM:NoAgg prog 3=true:=kR
theorem Rk:NoAgg prog 9=true:=kR
theorem Wk:SlT prog 152 156 2=true:=kR
theorem Gl:SlT prog 39 9 1=true:=kR
theorem O7:J2 prog 156=some ((.agg #[(.int .i64 0),(.slice none 0 0)]),([0,1]:List Nat).map fun o=>(o,1)):=kR
theorem ZaM:(prog.info? 39).map (·.size)=some 1:=kR
theorem C7:(prog.info? 3).map (·.size)=some 1:=kR
theorem Zfs:ZeroT prog 156 (.agg #[(.int .i64 0),(.slice none 0 0)]):=by unfold ZeroT;kernel_rfl
theorem RV {es:List (BA×Value)} {s:BA} {n:Int} (h:WX es s=some (.int .i64 n)):(Ka (skv es) (.string s)).getD (.int .i64 0)= .int .i64 n:=by rw [Lv,h];rfl
theorem ZiR (parts:List (List BA)) (ws:List BA) (es:List (BA×Value)) (s s0:BA) (h0:ws[0]? =some s0) (hes:∀t∈ws,WX es t=some (.int .i64 (partOf parts t))) (hs:s∈ws):
 AF prog 161 [Zt s, .sptr 0 [.smap (skv es)], .sptr 0 [Zs ws]] (· =Zv (partOf parts s !=partOf parts s0)):=by
 have hlen:0<ws.length:=by have:=Zd h0;omega
 have m1:=RV (hes s hs)
 have m2:=RV (hes s0 (Xc h0))
 have e1:(ws.map Zt)[(0:Int).toNat*1]? =some (Zt s0):=Z8 h0
 refine AF.b3 14 func161 rfl ntmps161 (Xa rfl) ?_
 rintro w0 M0 _ v1 v2 rfl- -
 refine ZI ?_
 refine We [] [] ?_<;>(refine yD 0 rfl (ZG KR) fun v5 h=>?_;cases h)<;>refine gDx 1 ?_<;>refine xD 2 rfl (Lw KQ) ?_<;>(refine yD 3 rfl (ZG KR) fun v8 h=>?_;cases h)<;>(refine yE 4 rfl (ZG KC) fun v9 h=>?_;cases h)<;>refine xE 5 rfl (Zg Gl) ?_<;>(refine yE 6 rfl (ZG Rk) fun v11 h=>?_;cases h)<;>refine xE 7 rfl (Lw KQ) ?_<;>refine gEx 8 ?_<;>refine gEx 9 ?_<;>refine Kz ?_
 refine Zf results161 rfl ?_
 congr 2
 by_cases h:partOf parts s=partOf parts s0<;>simp [h]
def ZqX (x:Option (List Piece)) (p:PV):Prop:=match x with
 |none=>p= .tup [.val (.slice none 0 0),Zv false]
 |some ps=>p= .tup [E3 ps,Zv true]
def SI (parts:List (List BA)) (ws:List BA) (k:Nat):List Piece:=if k=0 then [⟨0,[]⟩] else RU parts [] (ws.take k)
theorem Zdh {parts:List (List BA)}:∀(ws:List BA) (ps:List Piece),(RU parts ps ws).length≤ps.length+ws.length∧∀n,(∀p∈ps,p.word.length≤n)→∀p∈RU parts ps ws,p.word.length≤n+ws.length
 |[],ps=>⟨by simp [RU],fun n h p hp=>by have:=h p hp;simpa using this⟩
 | s :: ws,ps=>by
   have hst:(Wg parts ps s).length≤ps.length+1∧∀n,(∀p∈ps,p.word.length≤n)→∀p∈Wg parts ps s,p.word.length≤n+1:=by
    unfold Wg;split
    · exact ⟨sM,fun n _ p hp=>by simp at hp;subst hp;simp⟩
    · rename_i q hq;split
      · refine ⟨sM,fun n h p hp=>?_⟩;rcases V9 hp with h1|h1
        · have:=h p h1;omega
        · rw [h1];have:=h q (Xc hq);simp;omega
      · refine ⟨sM,fun n h p hp=>?_⟩;rcases Xd.1 hp with h1|h1
        · have:=h p h1;omega
        · simp at h1;subst h1;simp
   obtain ⟨h1,h2⟩:=Zdh (parts:=parts) ws (Wg parts ps s);have h3:=hst.1;refine ⟨by show (RU parts (Wg parts ps s) ws).length≤_;rw [Xl];omega,fun n h p hp=>?_⟩;have:=h2 (n+1) (hst.2 n h) p hp;rw [Xl];omega
theorem Zdi (parts:List (List BA)) (ws:List BA) (k:Nat) (hk:k≤ws.length):(SI parts ws k).length≤k+1∧∀p∈SI parts ws k,p.word.length≤k:=by
 unfold SI
 split
 · exact ⟨sM,fun p hp=>by simp at hp;subst hp;simp⟩
 · obtain ⟨h1,h2⟩:=Zdh (parts:=parts) (ws.take k) [];have hl:(ws.take k).length=k:=by simp;omega
   rw [hl] at h1 h2;exact ⟨by simp at h1;omega,fun p hp=>by have:=h2 0 sM p hp;omega⟩
theorem ZiS {parts:List (List BA)} {ws:List BA} {k:Nat} {y:BA} (hk:0<k) (hy:ws[k-1]? =some y):∃m w,SI parts ws k=m++[⟨partOf parts y,w⟩]:=by
 unfold SI
 rw [Qa oM]
 have:=HX (parts:=parts) hy
 rw [show k-1+1=k by omega] at this
 rw [this]
 exact ZbR
theorem ZiT {parts:List (List BA)} {ws:List BA} {k:Nat} {s:BA} (hs:ws[k]? =some s) (hk:0<k):SI parts ws (k+1)=Wg parts (SI parts ws k) s:=by
 unfold SI
 rw [Qa oM,Qa oM]
 exact HX hs
theorem ZlC {parts:List (List BA)} {ws:List BA} {s:BA} (hs:ws[0]? =some s):SI parts ws 1=[⟨partOf parts s,[s]⟩]:=by
 unfold SI
 rw [Qa oM,show (1:Nat)=0+1 from rfl,HX hs]
 rfl
theorem ZqY {α β:Type} {zs:List β} {n i:Nat} {p:β} (f:α→β) (h:(List.replicate n zs).flatten[i]? =some p):i / zs.length<n∧zs[i % zs.length]? =some p∧i=i / zs.length*zs.length+i % zs.length:=by
 have hi:=Zd h
 have hl:(List.replicate n zs).flatten.length=n*zs.length:=sM
 rw [hl] at hi
 have hz:0<zs.length:=by
  rcases Ub zs.length with h0|h0
  · rw [h0] at hi;omega
  · exact h0
 have hdiv:i / zs.length<n:=by rw [UP hz];exact hi
 have hmod:i % zs.length<zs.length:=Nat.mod_lt _ hz
 have he:i=i / zs.length*zs.length+i % zs.length:=by rw [VC];exact (Un _ _).symm
 refine ⟨hdiv,?_,he⟩
 have h2:=K6 (f:=fun _:Nat=>zs) (k:=zs.length) (fun _=>rfl) (l:=List.range n) (i:=i / zs.length) (x:=i / zs.length) (by simp [hdiv]) (j:=i % zs.length) hmod
 rw [←he,show (List.range n).flatMap (fun _=>zs)=(List.replicate n zs).flatten by rw [List.flatMap_def,List.map_const',UI],h] at h2
 exact h2.symm
theorem ZiU (n e:Nat):∀(i:Nat) (p p':PV),(List.replicate n (List.map PV.val [.int .i64 0, .slice none 0 0])).flatten[i]? =some p→((List.replicate n (⟨0,[]⟩:Piece)).flatMap (YO e))[i]? =some p'→ZgE p p':=fun i p p' h1 h2=>by
 obtain ⟨hd,hz,he⟩:=ZqY (fun x:Nat=>p) h1
 simp only [Xb,Xl,Xz] at hd hz he
 have hm:i % 2<2:=Nat.mod_lt _ dC
 rw [show (0+1+1:Nat)=2 from rfl] at hd hz he
 have h3:=K6 (Wj e) (l:=List.replicate n (⟨0,[]⟩:Piece)) (i:=i / 2) (x:=⟨0,[]⟩) (by rw [List.getElem?_replicate,Qb hd]) (j:=i % 2) hm
 rw [←he,h2] at h3
 generalize i % 2=r at hz h3 hm
 match r,hz,h3 with
 |0,hz,h3=>simp [YO] at hz h3;exact .inl (h3.trans hz)
 |1,hz,h3=>simp [YO] at hz h3;exact .inr ⟨hz.symm,_,_,h3⟩
 |r+2,_,_=>omega
theorem ZlD (c :Cut) (ws:List BA) (es:List (BA×Value)) (hes:∀t∈ws,WX es t=some (.int .i64 (partOf c.parts t))) (hin:∀t∈ws,0≤partOf c.parts t) (hlen:ws.length≤1000) (hn0:0<c.parts.length) (hn1:c.parts.length≤1000000) (hk1:1≤c.kind) (hk4:c.kind≤4):
 AF prog 116 [Zs ws,Zc c.kind,Zc c.parts.length, .smap (skv es)] (ZqX (WU c ws)):=by
 refine AF.b4 185 func116 rfl ntmps116 (Xa rfl) ?_
 rintro w0 M0 v0 _ _ v3-rfl rfl-
 refine Zh ?_
 refine Zk8 4 fun h4=>?_;refine Zk8 7 fun h7=>?_;refine Jn ?_;refine Wy ?_
 refine Yb rfl ?_ ?_
 · intro hb;have hk:c.kind=1:=Qd hb;refine Zh ?_;refine yU (Ze 4 KC) fun v22=>?_<;>refine xL 23 (Zy Gl) (xL 24 SN (xL 25 Za ?_))<;>(refine bLd 25 (fun hb25=>?_) (fun hb25=>?_)<;>(first|refine kL ?_|refine yU (Ze 4 KC) fun v26=>?_))<;>(first|refine kL ?_|refine xM TP ?_)<;>(first|refine kL ?_|(have hcl:ws≠[]:=(fun e=>by subst e;exact hb25 rfl);refine (get_some (show 0<ws.length by cases ws with|nil=>exact Qc rfl hcl|cons=>simp)).elim fun s0 hs0=>?_;refine Ci 28 rfl rfl (Xa rfl) (ZkW rfl (call46) (ps:=[Zs ws, .fn 161 [.sptr 0 [.smap (skv es)], .sptr 0 [Zs ws]]]) ⟨⟨_,_,rfl,L6 (x:= .tmp 26) rfl⟩,⟨_,_,rfl,Zis (l1:=7) (l2:=4) rfl rfl rfl rfl⟩,trivial⟩ (LD 161 _ (fun s=>partOf c.parts s !=partOf c.parts s0) ws (call161) (fun s hs=>ZiR c.parts ws es s s0 hs0 hes hs)) (fun p hp=>by rw [hp];rfl)) ?_;rintro p' rfl;refine ⟨rfl,?_⟩;intro v28 hv28;cases hv28))<;>refine ZB ?_
   · have h0:ws=[]:=XB oM;refine Yb rfl ?_ (fun h=>by cases h);intro _;refine ZE ?_;refine Z1 results116 rfl rfl ?_;rw [h0,ET hk];rfl
   · obtain ⟨l,rfl⟩:∃l,ws=s0::l:=by
      cases ws with
      |nil=>simp at hs0
      |cons a b=>simp at hs0;subst hs0;exact ⟨b,rfl⟩
     have hsp:=ZcS (l:=l) hk (hin s0 sM);refine Yb rfl ?_ ?_
     · intro hb3;refine ZE ?_;refine Z1 results116 rfl rfl ?_;rw [hsp,hb3];rfl
     · intro hb3;have m2:=RV (hes s0 sM);have e1:((s0::l).map Zt)[(0:Int).toNat*1]? =some (Zt s0):=rfl;refine nav ?_;refine We [] [4,7] ?_<;>(refine yD 0 rfl (Ze 7 KR) fun v30 h=>?_;cases h)<;>(refine yD 1 rfl (Ze 4 KC) fun v31 h=>?_;cases h)<;>refine xD 2 rfl (Zg Gl) ?_<;>(refine yD 3 rfl (ZG Rk) fun v33 h=>?_;cases h)<;>refine xD 4 rfl (Lw KQ) ?_<;>(refine yE 5 rfl (Ze 4 KC) fun v35 h=>?_;cases h)<;>refine xE 6 rfl (ZX O7) ?_<;>(refine aDr 7 fun bk=>?_)<;>refine JW 37 Sq fun h37 ho37=>?_<;>refine bE bk ?_<;>refine gEx 8 ?_<;>refine gEx 9 ?_<;>refine Kz ?_;refine Z5 (En.freeze (l:=37) (t:=8) rfl rfl) fun _=>?_;refine Z1 results116 rfl rfl ?_;rw [hsp,hb3];rfl
 · intro hb;have hk:c.kind≠1:=Qe hb;refine ZE ?_;refine Yb rfl ?_ ?_
   · intro hb2;have hk':c.kind=4:=Qd hb2;refine Zh ?_;refine xM (ZX O7) ?_;refine JW 41 Sq fun h41 ho41=>?_;refine ZB ?_;refine Zq (DG (l:=41) ([⟨0,[]⟩].flatMap (YO 9)) rfl rfl (fun i p p' h1 h2=>by
      match i with
      |0=>simp [YO,OT] at h1 h2;exact .inl (h2.symm.trans h1)
      |1=>simp [YO,OT] at h1 h2;exact .inr ⟨h1.symm,_,_,h2.symm⟩
      |i+2=>simp [YO] at h2)) fun _=>?_
     refine Zi ?_;refine yU (Ze 4 KC) fun v42=>?_;refine xL 43 (Zy Gl) (xL 44 Za ?_);refine ZF ?_;refine Yd (ι:={x:Nat×Value//x.1≤ws.length∧x.2.oneCell'=true}) (fun x=>⟨[(4,ZD (Zr h4) 0, .val (ZD (Zr h4) 0)),(7,ZD (Zr h7) 0, .val (ZD (Zr h7) 0)),(10,x.1.2, .val x.1.2),(42,v42,Zs ws),(43, .int .i64 ws.length,Zc ws.length),(44, .int .i64 x.1.1,Zc x.1.1)],[(4,h4, .own 39 1 1 [Zs ws]),(7,h7, .own 142 1 1 [.smap (skv es)]),(41,x.1.2, .own 156 2 (SI c.parts ws x.1.1).length ((SI c.parts ws x.1.1).flatMap (YO 9)))]⟩) (fun x=>ws.length-x.1.1) ⟨(0,h41),oM,ho41⟩ ?_;rintro ⟨⟨k,h⟩,hk0,hho⟩;dsimp only at hk0 hho ⊢;refine ZI ?_;refine Yb rfl ?_ ?_
     · intro hb3;(have hlt:k<ws.length:=by have:=Qd hb3;omega);obtain ⟨s,hs⟩:=get_some hlt;have e1:=Z8 (f:=Zt) hs;have m1:=RV (hes s (Xc hs));obtain ⟨hol,how⟩:=Zdi c.parts ws k hk0;have hprev:0<k→∃y,ws[k-1]? =some y∧(ws.map Zt)[k-1]? =some (Zt y)∧(Ka (skv es) (.string y)).getD (.int .i64 0)= .int .i64 (partOf c.parts y):=fun h0=>by
        obtain ⟨y,hy⟩:=gS ws (k-1);exact ⟨y,hy,by rw [Xo,hy];rfl,RV (hes y (Xc hy))⟩
       refine Zh ?_;refine xL 46 Za (xL 47 (Zg Gl) ?_);refine yV (ZG Rk) ?_;refine YJ ?_;refine We [] [4,7,41] ?_<;>refine gEx 0 ?_<;>refine gEx 1 ?_<;>refine gEx 2 ?_<;>(refine bDd 51 (fun hb51=>?_) (fun hb51=>?_)<;>(first|refine kD 3 ?_|(refine yD 3 rfl (Ze 7 KR) fun v52 h=>?_;cases h)))<;>(first|refine kD 4 ?_|refine gDx 4 ?_)<;>(first|refine kD 5 ?_|refine xD 5 rfl (Lw KQ) ?_)<;>(first|refine kD 6 ?_|(refine yD 6 rfl (Ze 7 KR) fun v55 h=>?_;cases h))<;>(first|refine kD 7 ?_|(refine yD 7 rfl (Ze 4 KC) fun v56 h=>?_;cases h))<;>(first|refine kD 8 ?_|refine gDx 8 ?_)<;>(first|refine kD 9 ?_|refine gDx 9 ?_)<;>(first|refine kD 10 ?_|refine xD 10 rfl (OJ Gl) ?_)<;>(first|refine kD 11 ?_|(refine (hprev oM).elim fun y hy=>?_;refine ZcG 11 60 rfl kR rfl rfl (Xa rfl) (HC (k-1) Rk rfl rfl oM hy.2.1) ?_;intro v60 hv60;cases hv60;have m2:=hy.2.2))<;>(first|refine kD 12 ?_|refine xD 12 rfl (Lw KQ) ?_)<;>(first|refine kD 13 ?_|refine gDx 13 ?_)<;>refine gEx 14 ?_<;>refine Kz ?_;focus (
        have hk00:k=0:=oM;have hs':ws[0]? =some s:=hk00▸hs;(have ho:SI c.parts ws k=[⟨0,[]⟩]:=by rw [hk00];rfl);rw [ho];refine KI (ι:={x:Value×List Piece×Piece//x.1.oneCell'=true∧SI c.parts ws (k+1)=x.2.1++[⟨x.2.2.part,x.2.2.word++[s]⟩]∧x.2.1.length≤k+1∧x.2.2.word.length≤k}) (fun x=>⟨[(4,ZD (Zr h4) 0, .val (ZD (Zr h4) 0)),(7,ZD (Zr h7) 0, .val (ZD (Zr h7) 0)),(10,x.1.1, .val x.1.1),(12, .string s,Zt s),(42,v42,Zs ws),(43, .int .i64 ws.length,Zc ws.length),(44, .int .i64 k,Zc k)],[(4,h4, .own 39 1 1 [Zs ws]),(7,h7, .own 142 1 1 [.smap (skv es)]),(41,x.1.1, .own 156 2 (x.1.2.1.length+1) ((x.1.2.1++[x.1.2.2]).flatMap (YO 9)))]⟩) ?_ ?_
        · refine Yb rfl ?_ (fun h=>by cases h);intro _;refine ZE ?_;refine Yb rfl (fun h=>by have:=Qd h;omega) ?_;intro _;refine Zh ?_;refine xL 70 Za (xL 71 Za (xL 72 (WQ 41 Wk) (xL 73 DJ ?_)));refine yU (Ze 7 KR) fun v74=>?_;refine xL 75 Za (xL 76 (Lw KQ) (xL 77 (Zo 41 Wk) (xL 78 (Zb 41 LK) ?_)));refine TZ 41 0 rfl rfl PM C7 rfl rfl rfl rfl rfl sM (by simp [YO]) ?_;refine ZF ?_;exact Hy ⟨(h,[],⟨partOf c.parts s,[]⟩),hho,by rw [hk00,ZlC hs'];rfl,sM,sM⟩ sB sB
        )
       rotate_left 1;focus (
        obtain ⟨m0,w0',hlast⟩:=ZiS (parts:=c.parts) (show 0<k by omega) hy.1;have hstep:=ZiT (parts:=c.parts) hs (show 0<k by omega);rw [hlast] at hol how hstep;have hgl:=ZlA m0 ⟨partOf c.parts y,w0'⟩;rw [hlast];have hol':(m0++[(⟨partOf c.parts y,w0'⟩:Piece)]).length=m0.length+1:=sM;refine KI (ι:={x:Value×List Piece×Piece//x.1.oneCell'=true∧SI c.parts ws (k+1)=x.2.1++[⟨x.2.2.part,x.2.2.word++[s]⟩]∧x.2.1.length≤k+1∧x.2.2.word.length≤k}) (fun x=>⟨[(4,ZD (Zr h4) 0, .val (ZD (Zr h4) 0)),(7,ZD (Zr h7) 0, .val (ZD (Zr h7) 0)),(10,x.1.1, .val x.1.1),(12, .string s,Zt s),(42,v42,Zs ws),(43, .int .i64 ws.length,Zc ws.length),(44, .int .i64 k,Zc k)],[(4,h4, .own 39 1 1 [Zs ws]),(7,h7, .own 142 1 1 [.smap (skv es)]),(41,x.1.1, .own 156 2 (x.1.2.1.length+1) ((x.1.2.1++[x.1.2.2]).flatMap (YO 9)))]⟩) ?_ ?_
        · refine Yb rfl ?_ ?_
          · intro hb4;have hne:partOf c.parts s≠partOf c.parts y:=Qd hb4;have hst2:SI c.parts ws (k+1)=(m0++[(⟨partOf c.parts y,w0'⟩:Piece)])++[⟨partOf c.parts s,[]++[s]⟩]:=by
             rw [hstep];unfold Wg;rw [hgl];simp [Ne.symm hne]
            have hfl:=Yr (Wj 9) (m0++[(⟨partOf c.parts y,w0'⟩:Piece)]);refine ZE ?_;refine Yb rfl ?_ (fun h=>by have:=Qe h;omega);intro _;refine Zh ?_;refine xL 66 Za (xL 67 (ZX O7) ?_);refine JW 68 Sq fun h68 ho68=>?_;refine WN 41 68 69 Sq fun h69 ho69=>?_;refine ZB ?_;refine Zq (DG (l:=69) (((m0++[(⟨partOf c.parts y,w0'⟩:Piece)]).flatMap (YO 9))++[Zc 0, .own 9 1 0 []]) rfl (by simp [OT]) (Zir _ _ _ _)) fun _=>?_;refine Zq (Zz (l:=69) 41 rfl rfl) fun _=>?_;refine Zi ?_;refine xL 70 Za (xL 71 Za (xL 72 (WQ 41 Wk) (xL 73 DJ ?_)));refine yU (Ze 7 KR) fun v74=>?_;refine xL 75 Za (xL 76 (Lw KQ) (xL 77 (Ze0 41 Wk) (xL 78 (Zb 41 LK) ?_)));refine TZ 41 ((m0.length+1)*2) rfl rfl PM C7 rfl rfl rfl rfl rfl oM (by rw [Xf,hfl];simp) ?_;refine ZF ?_;have hcs:((((m0++[(⟨partOf c.parts y,w0'⟩:Piece)]).flatMap (YO 9))++[Zc 0, .own 9 1 0 []]).set ((m0.length+1)*2) (Zc (partOf c.parts s)))=((m0++[(⟨partOf c.parts y,w0'⟩:Piece)])++[(⟨partOf c.parts s,[]⟩:Piece)]).flatMap (YO 9):=by
             rw [VE _ _ (by rw [hfl,hol'];exact Xe _),hfl,hol',Vm];simp only [XT];rfl
            exact Hy ⟨(h69,m0++[⟨partOf c.parts y,w0'⟩],⟨partOf c.parts s,[]⟩),ho69,hst2,by show (m0++[(⟨partOf c.parts y,w0'⟩:Piece)]).length≤k+1;omega,sM⟩ sB ⟨rfl,rfl,by show some _=some _;rw [hcs],trivial⟩
          · intro hb4;(have heq:partOf c.parts s=partOf c.parts y:=by have:=Qe hb4;omega);have hst2:SI c.parts ws (k+1)=m0++[⟨partOf c.parts y,w0'++[s]⟩]:=by
             rw [hstep];unfold Wg;rw [hgl];simp only [];rw [Qb heq.symm,D6]
            refine nav ?_;exact Hy ⟨(h,m0,⟨partOf c.parts y,w0'⟩),hho,hst2,by show m0.length≤k+1;omega,how _ sM⟩ sB ⟨rfl,rfl,by show some _=some _;rw [hol'],trivial⟩
        )
       all_goals (
        rintro ⟨⟨h9,m,q⟩,hh9,hout,hm1,hq1⟩;dsimp only at hh9 hout hm1 hq1 ⊢;have hqat:(m++[q])[m.length]? =some q:=sM;have hfl:=Yr (Wj 9) (m++[q]);(have hfl2:((m++[q]).flatMap (YO 9)).length=m.length*2+2:=by rw [hfl];simp;omega);have hcell:=K6 (Wj 9) hqat (j:=1) dC;refine Zq (focus (l:=41) (l':=500) (j:=m.length*2+1) rfl hcell rfl) fun v=>?_;have hc2:(((m++[q]).flatMap (YO 9)).set (m.length*2+1) (.val v))[m.length*2+1]? =some (.val v):=XI oM;refine Zh ?_;refine xL 79 Za (xL 80 Za (xL 81 (WQ 41 Wk) (xL 82 DJ (xL 83 Za (xL 84 Za (xL 85 (WQ 41 Wk) (xL 86 DJ (xL 87 (Ze0 41 Wk) (xL 88 (Zb 41 T2) ?_)))))))));refine ζ2 89 rfl rfl (Xa rfl) (Jl 41 (m.length*2+1) KC rfl rfl rfl oM hc2 rfl) ?_;intro v89 hv89;cases hv89;refine Yv ?_;refine Wx (kk:=1) 91 Oi fun h91 ho91=>?_;refine WN 500 91 92 Oi fun h92 ho92=>?_;refine xL 93 (Ze0 41 Wk) (xL 94 (Zb 41 T2) ?_);refine TZ 41 (m.length*2+1) rfl rfl KC ZaM rfl rfl rfl (by assumption) rfl oM (by rw [Xp,hfl2];omega) ?_;refine ZF ?_;have hc3:((((m++[q]).flatMap (YO 9)).set (m.length*2+1) (.val v)).set (m.length*2+1) (.val h92))[m.length*2+1]? =some (.val h92):=XI (by rw [Xp];omega);refine Zq (fold (l:=41) (l':=92) (j:=m.length*2+1) rfl hc3 rfl rfl) fun _=>?_;have hcs:(((((m++[q]).flatMap (YO 9)).set (m.length*2+1) (.val v)).set (m.length*2+1) (.val h92)).set (m.length*2+1) (.own 9 1 (q.word.length+1) (q.word.map Zt++[Zt s])))=(SI c.parts ws (k+1)).flatMap (YO 9):=by
         rw [X2,X2,hout,PL (Wj 9) (m++[q]) m.length 1 q ⟨q.part,q.word++[s]⟩ _ hqat dC (by simp [YO])];congr 1;rw [VE _ _ (Xe _),Vm];rfl
        refine KJ ?_;exact Zm ⟨(k+1,h9),by show k+1≤ws.length;omega,hh9⟩ (by show ws.length-(k+1)<ws.length-k;omega) sB ⟨rfl,rfl,by show some _=some _;rw [hcs,hout];simp,trivial⟩
        )
     · intro hb3;(have hge:k=ws.length:=by have:=Qe hb3;omega);have hfin:WU c ws=if JJ (SI c.parts ws k) then some (SI c.parts ws k) else none:=by
        unfold WU;rw [Qb hk'];by_cases h0:ws=[]
        · (have:k=0:=by rw [hge,h0];rfl);rw [h0,this];rfl
        · have hk1':k≠0:=fun e=>h0 (XB oM);rw [ζ7 h0];unfold SI;rw [Qa hk1',hge,XH]
       obtain ⟨hol,_⟩:=Zdi c.parts ws k hk0;generalize SI c.parts ws k=out at hfin hol ⊢;refine Zh ?_;refine xL 96 Za (xL 97 (WQ 41 Wk) (xL 98 Za ?_));refine ZF ?_;refine Yd (ι:={j:Nat//j≤out.length∧∀i,i<j→K' out i=false}) (fun j=>⟨[(10,h, .val h),(96,h, .val h),(97, .int .i64 out.length,Zc out.length),(98, .int .i64 j.1,Zc j.1)],[(41,h, .own 156 2 out.length (out.flatMap (YO 9)))]⟩) (fun j=>out.length-j.1) ⟨0,oM,oM⟩ ?_;rintro ⟨j,hj,hprej⟩;dsimp only at hj hprej ⊢;refine ZI ?_;refine Yb rfl ?_ ?_
       · intro hb4;(have hltj:j<out.length:=by have:=Qd hb4;omega);obtain ⟨q,hq⟩:=get_some hltj;have hcell:=K6 (Wj 9) hq (j:=1) dC;have hfl:=Yr (Wj 9) out;have hfit:=Y9 (Wj 9) hq;refine Zq (S2 (l:=41) (l':=500) (j:=j*2+1) rfl hcell rfl rfl) fun v=>?_;obtain ⟨v,hv1⟩:=v;dsimp only;have hD:((((out.flatMap (YO 9)).set (j*2+1) (.val v)).drop (j*2)).take 2)=[Zc q.part, .val v]:=by
          rw [List.drop_set,Qa oM,List.take_set,Yu (Wj 9) out j q hq,show j*2+1-j*2=1 by omega];rfl
         have hnext:j+1<out.length→∃q',out[j+1]? =some q'∧((out.flatMap (YO 9)).set (j*2+1) (.val v))[(j+1)*2+0]? =some (Zc q'.part):=fun h1=>by
          obtain ⟨q',hq'⟩:=get_some h1;refine ⟨q',hq',?_⟩;rw [XZ oM,K6 (Wj 9) hq' (j:=0) dC];rfl
         refine Zh ?_;refine xL 100 Za (xL 101 (Zo 41 Wk) ?_);refine yU (Zj 41 EB) fun v102=>?_;refine Zx [(.int .i64 0),(.slice none 0 0)] 2 14 Zfs fun h14=>?_;refine Yv ?_;refine Zu 14 EB ?_;refine Yc ?_;refine xM (Zb 14 LK) ?_<;>refine yV (Ze 14 PM) ?_<;>refine YW ?_<;>(refine bLd 106 (fun hb106=>?_) (fun hb106=>?_)<;>refine kZ ?_)<;>refine Jz ?_<;>(first|refine kL ?_|(refine bLd 109 (fun hb109=>?_) (fun hb109=>?_)<;>refine kZ ?_))<;>refine kZ ?_<;>(first|refine kL ?_|refine xM (WQ 41 Wk) ?_)<;>refine Jz ?_<;>refine Jz ?_<;>(first|refine kL ?_|(refine bLd 116 (fun hb116=>?_) (fun hb116=>?_)<;>refine kZ ?_))<;>refine Jz ?_<;>(first|refine kL ?_|refine xM (Zo 41 Wk) ?_)<;>(first|refine kL ?_|refine xM (Zb 41 LK) ?_)<;>(first|refine kL ?_|(refine (hnext oM).elim fun q' hq'=>?_;refine ζ2 122 rfl rfl (Xa rfl) (Jl 41 ((j+1)*2+0) PM rfl rfl rfl (by first|rfl|omega) hq'.2 rfl) ?_;intro v122 hv122;cases hv122))<;>refine kZ ?_<;>refine Wz ?_
         · have hj0:j=0:=oM;(have hbp:K' out j=true:=by unfold K';rw [hq];simp [hb106,hj0]);have hbad:JJ out=false:=by
            unfold JJ;rw [V8];exact ⟨j,Va.2 hltj,by rw [hbp];simp⟩
           refine Yb rfl ?_ (fun h=>by cases h);intro _;refine ZE ?_;refine Z1 results116 rfl rfl ?_;rw [hfin,hbad];rfl
         · have hj0:j=out.length-1:=oM;(have hbp:K' out j=true:=by unfold K';rw [hq];simp [hb106,hj0]);have hbad:JJ out=false:=by
            unfold JJ;rw [V8];exact ⟨j,Va.2 hltj,by rw [hbp];simp⟩
           refine Yb rfl ?_ (fun h=>by cases h);intro _;refine ZE ?_;refine Z1 results116 rfl rfl ?_;rw [hfin,hbad];rfl
         · refine Yb rfl ?_ ?_
           · intro hb5;have hb5:=Qd hb5;(have hbp:K' out j=true:=by unfold K';rw [hq];rw [hq'.1];simp [hb106,hb5]);have hbad:JJ out=false:=by
              unfold JJ;rw [V8];exact ⟨j,Va.2 hltj,by rw [hbp];simp⟩
             refine ZE ?_;refine Z1 results116 rfl rfl ?_;rw [hfin,hbad];rfl
           · intro hb5;(have hb5:q'.part=0:=by have:=Qe hb5;omega);have hja:j≠0:=oM;have hjb:j≠out.length-1:=oM;refine ZE ?_;(have hbp:K' out j=false:=by unfold K';rw [hq];rw [hq'.1];simp [hb5,hja,hjb]);refine Yq (fold (l:=41) (l':=500) (j:=j*2+1) rfl (XI oM) rfl rfl) fun _=>?_;have hcs:(((out.flatMap (YO 9)).set (j*2+1) (.val v)).set (j*2+1) (.own 9 1 q.word.length (q.word.map Zt)))=out.flatMap (YO 9):=by
              rw [X2];exact DT hcell
             refine Zm ⟨j+1,oM,fun i hi=>?_⟩ (by show out.length-(j+1)<out.length-j;omega) sB ⟨by show some _=some _;rw [hcs],trivial⟩;by_cases e:i=j
             · subst e;exact hbp
             · exact hprej i oM
         · have hz:q.part=0:=oM;refine Yb rfl (fun h=>by cases h) ?_;intro _;refine ZE ?_;(have hbp:K' out j=false:=by unfold K';rw [hq];simp [hz]);refine Yq (fold (l:=41) (l':=500) (j:=j*2+1) rfl (XI oM) rfl rfl) fun _=>?_;have hcs:(((out.flatMap (YO 9)).set (j*2+1) (.val v)).set (j*2+1) (.own 9 1 q.word.length (q.word.map Zt)))=out.flatMap (YO 9):=by
            rw [X2];exact DT hcell
           refine Zm ⟨j+1,oM,fun i hi=>?_⟩ (by show out.length-(j+1)<out.length-j;omega) sB ⟨by show some _=some _;rw [hcs],trivial⟩;by_cases e:i=j
           · subst e;exact hbp
           · exact hprej i oM
       · intro hb4;(have hgej:out.length≤j:=by have:=Qe hb4;omega);have hgood:JJ out=true:=by
          unfold JJ;rw [Xm];intro i hi;rw [hprej i (by have:=Va.1 hi;omega)];rfl
         refine Y5 ?_;refine Z5 (En.freeze (l:=41) (t:=8) rfl rfl) fun _=>?_;refine Z1 results116 rfl rfl ?_;rw [hfin,hgood];show _=_;simp only [share,OO];rfl
   · intro hb2;have hk':c.kind≠4:=Qe hb2;refine Wh ?_;refine Zoo [(.int .i64 0),(.slice none 0 0)] 129 Sq fun h129 ho129=>?_;refine ZB ?_;have hini:(List.replicate c.parts.length (⟨0,[]⟩:Piece))=Kf (Jj c.parts.length):=(ZcT _).symm;refine Zq (DG (l:=129) ((List.replicate c.parts.length (⟨0,[]⟩:Piece)).flatMap (YO 9)) rfl (by rw [Yr (Wj 9)];simp) (ZiU _ _)) fun _=>?_;rw [hini];refine Zi ?_;refine yU (Ze 4 KC) fun v130=>?_;refine xL 131 (Zy Gl) (xL 132 Za ?_);refine ZF ?_;refine Yd (ι:={x:Nat×List Piece×Int//x.1≤ws.length∧WT c.kind c.parts true 0 (Jj c.parts.length) ws=WT c.kind c.parts (decide (x.1=0)) x.2.2 x.2.1 (ws.drop x.1)∧InPlace x.2.1∧x.2.1.length=c.parts.length∧(∀p∈x.2.1,p.word.length≤x.1)∧(x.1=0→x.2.2=0)∧∀y,0<x.1→ws[x.1-1]? =some y→x.2.2=partOf c.parts y}) (fun x=>⟨[(1, .int .i64 c.kind,Zc c.kind),(4,ZD (Zr h4) 0, .val (ZD (Zr h4) 0)),(7,ZD (Zr h7) 0, .val (ZD (Zr h7) 0)),(15,h129, .val h129),(130,v130,Zs ws),(131, .int .i64 ws.length,Zc ws.length),(132, .int .i64 x.1.1,Zc x.1.1)],[(4,h4, .own 39 1 1 [Zs ws]),(7,h7, .own 142 1 1 [.smap (skv es)]),(129,h129, .own 156 2 c.parts.length ((Kf x.1.2.1).flatMap (YO 9)))]⟩) (fun x=>ws.length-x.1.1) ⟨(0,Jj c.parts.length,0),by show 0≤ws.length;omega,sM,ZbK _,RD _,fun p hp=>by rw [ZcC hp];simp,fun _=>rfl,fun y h=>by simp at h⟩ ?_;rintro ⟨⟨k,ps,last⟩,hk0,hgo,hin',hpl,hpw,hl0,hl1⟩;dsimp only at hk0 hgo hin' hpl hpw hl0 hl1 ⊢;refine ZI ?_;refine Yb rfl ?_ ?_
     · intro hb3;(have hlt:k<ws.length:=by have:=Qd hb3;omega);obtain ⟨s,hs⟩:=get_some hlt;have hsm:=Xc hs;have e1:=Z8 (f:=Zt) hs;have m1:=RV (hes s hsm);have hge0:=hin s hsm;obtain ⟨i,hi⟩:∃i:Nat,partOf c.parts s=i:=⟨(partOf c.parts s).toNat,oM⟩;(have hilt:i<c.parts.length:=by have:=HB c.parts s;omega);have hprev:0<k→∃y,ws[k-1]? =some y∧(ws.map Zt)[k-1]? =some (Zt y)∧(Ka (skv es) (.string y)).getD (.int .i64 0)= .int .i64 (partOf c.parts y):=fun h0=>by
        obtain ⟨y,hy⟩:=gS ws (k-1);exact ⟨y,hy,by rw [Xo,hy];rfl,RV (hes y (Xc hy))⟩
       have hgo2:WT c.kind c.parts (decide (k=0)) last ps (ws.drop k)=if TU c.kind (decide (k=0)) (partOf c.parts s) last then none else WT c.kind c.parts false (partOf c.parts s) (LW ps (partOf c.parts s).toNat s) (ws.drop (k+1)):=by
        rw [Jw hs,WT]
       (have hk1n:(c.kind==1)=false:=by simpa using hk);rw [hi] at m1;obtain ⟨q,hq⟩:=gS ps i;have hqn:=HM hq;have hcell:=K6 (Wj 9) hqn (j:=1) dC;have hfl:=Yr (Wj 9) (Kf ps);rw [O0] at hfl;have hqw:q.word.length≤k:=hpw q (Xc hq);refine Zh ?_;refine xL 134 Za (xL 135 (Zg Gl) ?_);refine yV (ZG Rk) ?_;refine YJ ?_;refine We [] [4,7,129] ?_<;>refine gEx 0 ?_<;>refine gEx 1 ?_<;>refine gEx 2 ?_<;>(refine bDd 139 (fun hb139=>?_) (fun hb139=>?_)<;>(first|refine kD 3 ?_|refine gDx 3 ?_))<;>(first|refine kD 4 ?_|refine gDx 4 ?_)<;>refine gEx 5 ?_<;>refine gEx 6 ?_<;>(first|refine kD 7 ?_|(refine bDd 143 (fun hb143=>?_) (fun hb143=>?_)<;>(first|refine kD 7 ?_|(refine yD 7 rfl (Ze 7 KR) fun v144 h=>?_;cases h))))<;>(first|refine kD 8 ?_|refine gDx 8 ?_)<;>(first|refine kD 9 ?_|refine xD 9 rfl (Lw KQ) ?_)<;>(first|refine kD 10 ?_|(refine yD 10 rfl (Ze 7 KR) fun v147 h=>?_;cases h))<;>(first|refine kD 11 ?_|(refine yD 11 rfl (Ze 4 KC) fun v148 h=>?_;cases h))<;>(first|refine kD 12 ?_|refine gDx 12 ?_)<;>(first|refine kD 13 ?_|refine gDx 13 ?_)<;>(first|refine kD 14 ?_|refine xD 14 rfl (OJ Gl) ?_)<;>(first|refine kD 15 ?_|(refine (hprev oM).elim fun y hy=>?_;refine ZcG 15 152 rfl kR rfl rfl (Xa rfl) (HC (k-1) Rk rfl rfl oM hy.2.1) ?_;intro v152 hv152;cases hv152;have m2:=hy.2.2))<;>(first|refine kD 16 ?_|refine xD 16 rfl (Lw KQ) ?_)<;>(first|refine kD 17 ?_|refine gDx 17 ?_)<;>refine gEx 18 ?_<;>refine Kz ?_;focus (
        have hlast:last=partOf c.parts y:=hl1 y oM hy.1;refine Yb rfl ?_ ?_
        · intro hb4;have hb4:=Qd hb4;have hno:WU c ws=none:=by
           unfold WU;rw [Qa hk',hgo,hgo2];have:TU c.kind (decide (k=0)) (partOf c.parts s) last=true:=by
            unfold TU;rw [hi,hlast,hb139];simp [hb4]
           rw [this];rfl
          refine ZE ?_;refine Z1 results116 rfl rfl ?_;rw [hno];rfl
        intro hb4;have hb4:=Qe hb4;have hnb:TU c.kind (decide (k=0)) (partOf c.parts s) last=false:=by
         unfold TU;rw [hk1n,hi,hlast];simp;intro _;omega
        refine nav ?_
        )
       rotate_left 1;focus (
        have hnb:TU c.kind (decide (k=0)) (partOf c.parts s) last=false:=by
         unfold TU;rw [hk1n,hi,hl0 oM];simp
        refine Yb rfl (fun h=>by cases h) ?_;intro _;refine nav ?_
        )
       rotate_left 1;focus (
        have hnb:TU c.kind (decide (k=0)) (partOf c.parts s) last=false:=by
         unfold TU;rw [hk1n];simp [hb139]
        refine Yb rfl (fun h=>by cases h) ?_;intro _;refine nav ?_
        )
       all_goals (
        refine Zq (S2 (l:=129) (l':=500) (j:=i*2+1) rfl hcell rfl rfl) fun v=>?_;obtain ⟨v,hv1⟩:=v;dsimp only;have hc2:(((Kf ps).flatMap (YO 9)).set (i*2+1) (.val v))[i*2+1]? =some (.val v):=XI oM;(refine We [16] [4,7,129] ?_<;>refine gDx 0 ?_<;>(refine yD 1 rfl (Ze 7 KR) fun v157 h=>?_;cases h)<;>refine gDx 2 ?_<;>refine xD 3 rfl (Lw KQ) ?_<;>refine gDx 4 ?_<;>(refine yD 5 rfl (Ze 7 KR) fun v161 h=>?_;cases h)<;>refine gDx 6 ?_<;>refine xD 7 rfl (Lw KQ) ?_<;>refine xD 8 rfl (Zo 129 Wk) ?_<;>refine xD 9 rfl (Zb 129 T2) ?_<;>(refine ZcG 10 166 rfl kR rfl rfl (Xa rfl) (Jl 129 (i*2+1) KC rfl rfl rfl (by first|rfl|omega) hc2 rfl) ?_;intro v166 hv166;cases hv166)<;>refine gEx 11 ?_<;>(refine aDr 12 fun bk=>?_)<;>refine Wx (kk:=1) 168 Oi fun h168 ho168=>?_<;>refine bE bk ?_<;>(refine aDr 13 fun bk=>?_)<;>refine WN 500 168 169 Oi fun h169 ho169=>?_<;>refine bE bk ?_<;>refine xE 14 rfl (Zo 129 Wk) ?_<;>refine xE 15 rfl (Zb 129 T2) ?_<;>(refine Z6 16 kR ?_)<;>(refine Kj rfl rfl kR fun DQ bk=>?_)<;>(refine TZ 129 (i*2+1) rfl rfl KC ZaM rfl rfl rfl (by assumption) rfl (by first|rfl|omega) (by rw [Xp,hfl];omega) ?_)<;>refine Ww (bk _ (nav ?_))<;>try dsimp only)
        have hc3:((((Kf ps).flatMap (YO 9)).set (i*2+1) (.val v)).set (i*2+1) (.val h169))[i*2+1]? =some (.val h169):=XI (by rw [Xp];omega);refine Zq (fold (l:=129) (l':=169) (j:=i*2+1) rfl hc3 rfl rfl) fun _=>?_;have hcs:((((Kf ps).flatMap (YO 9)).set (i*2+1) (.val v)).set (i*2+1) (.val h169)).set (i*2+1) (.own 9 1 (q.word.length+1) (q.word.map Zt++[Zt s]))=(Kf (LW ps i s)).flatMap (YO 9):=by
         rw [X2,X2,PL (Wj 9) (Kf ps) i 1 ⟨0,q.word⟩ ⟨0,q.word++[s]⟩ _ hqn dC (by simp [YO]),Zfa s hq]
        refine KJ ?_;refine Zm ⟨(k+1,LW ps i s,(i:Int)),by show k+1≤ws.length;omega,?_,hin'.add i s,by show (LW ps i s).length=_;rw [Zih];exact hpl,?_,fun h=>by simp at h,fun y _ hy=>?_⟩ (by show ws.length-(k+1)<ws.length-k;omega) sB ⟨rfl,rfl,by show some _=some _;rw [hcs],trivial⟩
        · show _=WT c.kind c.parts (decide (k+1=0)) (i:Int) (LW ps i s) (ws.drop (k+1));rw [hgo,hgo2,hnb,hi,XY,show decide (k+1=0)=false by simp];rfl
        · intro p hp;show p.word.length≤k+1;change p∈LW ps i s at hp
          rw [RB hq] at hp;rcases V9 hp with h1|h1
          · have:=hpw p h1;omega
          · rw [h1];simp;omega
        · have:y=s:=by
           have h1:ws[k+1-1]? =some y:=hy;rw [Uu,hs] at h1;cases h1;rfl
          rw [this];exact hi.symm
        )
     · intro hb3;(have hge:ws.length≤k:=by have:=Qe hb3;omega);have hfin:WU c ws=some ps:=by
        unfold WU;rw [Qa hk',hgo,XU hge,WT];simp only [];rw [Qa hk]
       refine Zh ?_;refine xL 173 Za (xL 174 (WQ 129 Wk) (xL 175 Za ?_));refine ZF ?_;refine Yd (ι:={j:Nat//j≤ps.length}) (fun j=>⟨[(15,h129, .val h129),(174, .int .i64 c.parts.length,Zc c.parts.length),(175, .int .i64 j.1,Zc j.1)],[(129,h129, .own 156 2 c.parts.length ((ps.take j.1++(Kf ps).drop j.1).flatMap (YO 9)))]⟩) (fun j=>ps.length-j.1) ⟨0,oM⟩ ?_;rintro ⟨j,hj⟩;dsimp only at hj ⊢;refine ZI ?_;refine Yb rfl ?_ ?_
       · intro hb4;(have hltj:j<ps.length:=by have:=Qd hb4;omega);obtain ⟨q,hq⟩:=get_some hltj;have hat:=Zor hq;have hfl:=Yr (Wj 9) (ps.take j++(Kf ps).drop j);rw [Zlh ps j hj] at hfl;have hcs:(((ps.take j++(Kf ps).drop j).flatMap (YO 9)).set (j*2+0) (Zc (j:Int)))=(ps.take (j+1)++(Kf ps).drop (j+1)).flatMap (YO 9):=by
          rw [PL (Wj 9) _ j 0 ⟨0,q.word⟩ ⟨(j:Int),q.word⟩ (Zc (j:Int)) hat dC rfl,Ziy hin' hq]
         refine Jm ?_;refine xL 178 Za (xL 179 Za (xL 180 Za (xL 181 (Zo 129 Wk) (xL 182 (Zb 129 LK) ?_))))<;>(refine TZ 129 (j*2+0) rfl rfl PM C7 rfl rfl rfl rfl rfl (by first|rfl|omega) (by rw [hfl];omega) ?_)<;>refine Yc ?_;refine YJ ?_;exact Zm ⟨j+1,oM⟩ (by show ps.length-(j+1)<ps.length-j;omega) sB ⟨by show some _=some _;rw [hcs],trivial⟩
       · intro hb4;(have hgej:ps.length≤j:=by have:=Qe hb4;omega);have hall:ps.take j++(Kf ps).drop j=ps:=by
          rw [Xq hgej,XU (by rw [O0];exact hgej),Xu]
         refine Y5 ?_;refine Z5 (En.freeze (l:=129) (t:=8) rfl rfl) fun _=>?_;refine Z1 results116 rfl rfl ?_;rw [hfin,hall];show _=_;simp only [share,OO,←hpl];rfl
open Go.RowKit Go.Cb
theorem ZbT {w w':World} {M:BS} {v:Value} {e:Ending} (h1:e= .returned v) (h2:Ext w w'):Gy ⟨w,M,fun _=>False,0,False,[]⟩ (· = .val v) e w':=⟨v,_,fun _=>False,h1,rfl,h2, .shr (.val _) (fun _ h=>h),fun _ h=>h.elim,fun h=>h.elim⟩
theorem Zg2 {M:BS} {w:World} {B e n:Nat} {v:Value} {xs:List Value} (h:w.ownsRow B e 1 v n xs) (hM:∀b,M b→b<B):Shr M w v (.sl n (xs.map PV.val)):=by
 rcases h.2 with ⟨rfl,rfl⟩|⟨g,cap,cur,rfl,hg,hh,h4,h5,h6,h7⟩
 · have:xs=[]:=XB (by rw [h.1]);subst this;exact .emp none 0 (by unfold maxLen;omega) (fun _=>rfl)
 · refine .sl g 0 n cap _ (fun i=>(xs[i]?).getD undef) h4 h5 (fun i hi=>?_) (fun i p hp=>?_)
   · rw [Xb] at hi;obtain ⟨x,hx⟩:=Yl hi;refine ⟨?_,fun hm=>by have:=hM g hm;omega⟩;rw [XE,h.cellAt i (by rw [←h.1];exact hi),hx];rfl
   · rw [Xo,XP] at hp;obtain ⟨x,hx,rfl⟩:=hp;show Shr M w ((xs[i]?).getD undef) (.val x);rw [hx];exact .val _
theorem HY {w w':World} {M:BS} {v:Value} {p:PV} {e:Ending} (h1:e= .returned v) (h2:Ext w w') (h3:Shr M w' v p):Gy ⟨w,M,fun _=>False,0,False,[]⟩ (· =p) e w':=
 ⟨v,p,fun _=>False,h1,rfl,h2, .shr (h3.anti fun b _ hb=>hb.elim id False.elim) (fun _ h=>h),fun _ h=>h.elim,fun h=>h.elim⟩
theorem ZaN {M:BS} {w:World} {b off n c:Nat} {l:List BA} (h:Shr M w (.slice (some ⟨b,off,none⟩) n c) (Zs l)):∀(j:Nat) (s:BA),l[j]? =some s→w.cell? ⟨b,off+j,none⟩=some (.string s):=fun j s hs=>by
 unfold Zs at h
 generalize hn:l.length=m at h
 generalize hcs:l.map Zt=cs at h
 cases h with
 | emp=>
   have:l=[]:=XB hn;subst this;simp at hs
 | sl _ _ _ _ _ vs hn hc hcell hT=>
   subst hcs;have h1:=(hcell j (by rw [Xb];exact Zd hs)).1;have h2:vs j= .string s:=(hT j (Zt s) (by rw [Xo,hs];rfl)).vOf;rw [h1,h2]
theorem ZoJ (l:List BA) (hl:l.length≤1000000):AF prog 21 [Zs l] (· =Zs l):=fun M w vs hM hlen hv=>by
 obtain ⟨v,rfl⟩:=Zij hlen
 have hS:=hv 0 v _ rfl rfl
 have hS':=hS
 unfold Zs at hS'
 generalize hn:l.length=n at hS'
 generalize hcs:l.map Zt=cs at hS'
 cases hS' with
 | emp a c hc ha=>
   have:l=[]:=XB hn;subst this
   cases a with
   |none=>exact (Tryz.slices_Clone_string_nil 0 c w).mono fun e w' ⟨h1,h2⟩=>HY h1 (h2▸Ext.rfl' _) (.emp none 0 (by unfold maxLen;omega) (fun _=>rfl))
   |some a=>exact (Tryz.slices_Clone_string_zero a c w).mono fun e w' ⟨v',h1,h2,_,h3⟩=>HY h1 h3 (Zg2 h2 (fun b hb=>(hM.m b hb).1))
 | sl b off n c cs vs' hnc hc hcell hT=>
   subst hn hcs;have hcl:=ZaN hS;refine (Tryz.slices_Clone_string b off l.length c l w (Xe _) oM (fun j hj=>?_)).mono fun e w' ⟨v',h1,h2,_,h3⟩=>HY h1 h3 ?_
   · obtain ⟨s,hs⟩:=Yl hj;rw [hcl j s hs,List.getD,hs];rfl
   · have:=Zg2 h2 (fun b hb=>(hM.m b hb).1);rw [XH,Xt] at this;exact this
def KU (l:List BA):BA:=⟨(Lib.join (l.map (·.data.toList)) [32]).toArray⟩
theorem ZlE (l:List BA) (hl:l.length≤1000000) (hj:(Lib.join (l.map (·.data.toList)) [32]).length≤140737488355328):AF prog 90 [Zs l,Zt ⟨#[32]⟩] (· =Zt (KU l)):=fun M w vs hM hlen hv=>by
 obtain ⟨v,u,rfl⟩:=HE hlen
 have hu:u= .string ⟨#[32]⟩:=(hv 1 u _ rfl rfl).vOf
 subst hu
 have hS:=hv 0 v _ rfl rfl
 have hS':=hS
 unfold Zs at hS'
 generalize hn:l.length=n at hS'
 generalize hcs:l.map Zt=cs at hS'
 cases hS' with
 | emp a c hc ha=>
   have:l=[]:=XB hn;subst this;exact (Tryz.strings_Join_none a c ⟨#[32]⟩ w).mono fun e w' ⟨h1,h2⟩=>ZbT (v:= .string (KU [])) (by rw [h1];rfl) (h2▸Ext.rfl' _)
 | sl b off n c cs vs' hnc hc hcell hT=>
   subst hn hcs;have hcl:=ZaN hS
   cases hl0:l with
   | nil=>
     subst hl0;exact (Tryz.strings_Join_none (some ⟨b,off,none⟩) c ⟨#[32]⟩ w).mono fun e w' ⟨h1,h2⟩=>ZbT (v:= .string (KU [])) (by rw [h1];rfl) (h2▸Ext.rfl' _)
   | cons s0 l0=>
     rw [←hl0];have hb:b<w.heap.size:=World.block_lt_of_cell? _ _ (hcl 0 s0 (by rw [hl0];rfl));exact (Tryz.strings_Join b off c l ⟨#[32]⟩ w hcl hb oM hnc hj).mono fun e w' ⟨h1,h2⟩=>ZbT (v:= .string (KU l)) h1 h2
theorem Ju:FldT prog 41 0 0=true:=kR
theorem Zdj:FldT prog 41 1 1=true:=kR
theorem Sc:NoAgg prog 39=true:=kR
theorem ZlF:NoAgg prog 3=true:=kR
theorem ZiV (x:Var):AF prog 118 [.agg (WM x)] (· =Zv (decide (1048576<x.count))):=by
 refine AF.b1 6 func118 rfl ntmps118 (Xa rfl) fun w0 M0 v0 _=>?_
 refine Zh ?_
 refine ZV 1 2 fun h1=>?_;refine ZQ ?_
 refine xM (Zb 1 Zdj) ?_;refine yV (Ze 1 ZlF) ?_;refine YJ ?_
 exact Zf results118 rfl rfl
theorem ZiW (x y:Var):AFg prog 119 [.agg (WM x), .agg (WM y)] (· =Zc (cmpStrs x.acts y.acts)):=by
 refine AFg.of_body 10 func119 rfl ntmps119 (Xa rfl) ?_
 intro w0 M0 vs hl hv
 obtain ⟨v0,v1,rfl⟩:=HE hl
 clear hl hv
 refine Zh ?_
 refine ZV 2 2 fun h2=>?_;refine ZV 3 2 fun h3=>?_;refine ZQ ?_
 (first|(refine xM (YP Ju) ?_)|(refine xM (Zb 2 Ju) ?_)|(refine xM (Zb 3 Ju) ?_)|(refine xM (q_fldp Ju) ?_))<;>(first|(refine yL 6 (ZG Sc) fun v6 h=>?_;cases h)|(refine yL 6 (Ze 2 Sc) fun v6 h=>?_;cases h)|(refine yL 6 (Ze 3 Sc) fun v6 h=>?_;cases h))<;>(first|(refine xM (YP Ju) ?_)|(refine xM (Zb 2 Ju) ?_)|(refine xM (Zb 3 Ju) ?_)|(refine xM (q_fldp Ju) ?_))<;>(first|(refine yL 8 (ZG Sc) fun v8 h=>?_;cases h)|(refine yL 8 (Ze 2 Sc) fun v8 h=>?_;cases h)|(refine yL 8 (Ze 3 Sc) fun v8 h=>?_;cases h))<;>(refine cV (cA call61 (OM x.acts y.acts)) ?_)<;>refine ZB ?_
 exact Zf results119 rfl rfl
theorem E4:AggT prog 41 2=true:=kR
theorem ZiX:Zc5 prog 24 119 2:=fun enc hk h1 cf hO blk cap d w hcmp hH hblk hsz=>
 AnyQ.slices_SortFunc Tryz.sortVarL 2 (fun w=>AggT.run E4 w) (fun w=>AggT.size E4 w) enc hk h1 cf hO 119 #[] blk 0 cap d w (call119) hcmp hH hblk hsz
theorem ZbU (p:Option Addr) (cap:Nat) (fv:Value) (w:World):Calls prog 24 #[.slice p 0 cap,fv] w fun e w'=>e= .returned (.tuple #[])∧w'=w:=
 AnyF.slices_SortFunc_none Tryz.sortVarL p cap fv w
end Go.Proofs.YteiincihiagidaaGreat
namespace Go.Cb
open Go.En
theorem C8 (x y:List UInt8) (l:List (List UInt8)):[32].intercalate (x::y::l)=x++32::[32].intercalate (y::l):=by
 simp [List.intercalate,List.intersperse]
theorem O8 (x:List UInt8):([32]:List UInt8).intercalate [x]=x:=by simp [List.intercalate]
theorem Zg3:∀(x y a b:List UInt8),32∉x→32∉y→x++32::a=y++32::b→x=y∧a=b
 |[],[],a,b,_,_,h=>by simp at h;exact ⟨rfl,h⟩
 |[],c::y,a,b,_,h2,h=>by simp at h;exact Qc (by simp [h.1]) h2
 |c::x,[],a,b,h1,_,h=>by simp at h;exact Qc (by simp [h.1]) h1
 | c::x,d::y,a,b,h1,h2,h=>by
   simp at h h1 h2;obtain ⟨e1,e2⟩:=Zg3 x y a b h1.2 h2.2 h.2;exact ⟨by rw [h.1,e1],e2⟩
theorem ZlG:∀(l m:List (List UInt8)),(∀x∈l,x≠[]∧32∉x)→(∀x∈m,x≠[]∧32∉x)→([32]:List UInt8).intercalate l=[32].intercalate m→l=m
 |[],[],_,_,_=>rfl
 |[],[y],_,h2,h=>by rw [O8] at h;exact Qc h.symm (h2 y sM).1
 |[],y::z::m,_,h2,h=>by rw [C8] at h;simp [List.intercalate] at h
 |[x],[],h1,_,h=>by rw [O8] at h;exact Qc h (h1 x sM).1
 |x::z::l,[],_,_,h=>by rw [C8] at h;simp [List.intercalate] at h
 |[x],[y],_,_,h=>by rw [O8,O8] at h;rw [h]
 | [x],y::z::m,h1,h2,h=>by
   rw [O8,C8] at h;exact Qc (by rw [h];simp) (h1 x sM).2
 | x::z::l,[y],h1,h2,h=>by
   rw [O8,C8] at h;exact Qc (by rw [←h];simp) (h2 y sM).2
 | x::x'::l,y::y'::m,h1,h2,h=>by
   rw [C8,C8] at h;obtain ⟨e1,e2⟩:=Zg3 _ _ _ _ (h1 x sM).2 (h2 y sM).2 h;rw [e1,ZlG (x'::l) (y'::m) (fun z hz=>h1 z (by simp at hz ⊢;exact .inr hz)) (fun z hz=>h2 z (by simp at hz ⊢;exact .inr hz)) e2]
theorem C9 {s:BA} (h:isName s=true):s.data.toList≠[]∧(32:UInt8)∉s.data.toList∧s.size≤40:=by
 unfold isName at h
 simp only [Xi,U8,Xm] at h
 obtain ⟨⟨⟨h1,h2⟩,h3⟩,h4⟩:=h
 refine ⟨fun e=>?_,fun e=>?_,h2⟩
 · have:s.size=0:=by
    show s.data.size=0;rw [←XX,e];rfl
   omega
 · have:=h4 32 e;revert this;decide
def WOk (w:List BA):Prop:=w.length≤200∧∀s∈w,isName s=true
theorem Zdk {l m:List BA} (h1:∀s∈l,isName s=true) (h2:∀s∈m,isName s=true) (h:Lib.join (l.map (·.data.toList)) [32]=Lib.join (m.map (·.data.toList)) [32]):l=m:=by
 have key:∀{l:List BA},(∀s∈l,isName s=true)→∀x∈l.map (·.data.toList),x≠[]∧(32:UInt8)∉x:=fun h x hx=>by
  obtain ⟨s,hs,rfl⟩:=Xh.1 hx;have:=C9 (h s hs);exact ⟨this.1,this.2.1⟩
 have:=ZlG _ _ (key h1) (key h2) h
 have inj:∀{l m:List BA},l.map (·.data.toList)=m.map (·.data.toList)→l=m:=by
  intro l;induction l with
  |nil=>intro m h;cases m with|nil=>rfl|cons=>simp at h
  | cons a l ih=>
    intro m h
    cases m with
    |nil=>simp at h
    | cons b m=>
      simp only [Xj,List.cons.injEq] at h;rw [ih h.2,WideShapes.bytes_inj h.1]
 exact inj this
theorem ZlH:∀(l:List (List UInt8)) (b:Nat),(∀x∈l,x.length≤b)→(([32]:List UInt8).intercalate l).length≤l.length*(b+1)
 |[],b,_=>by simp [List.intercalate]
 |[x],b,h=>by rw [O8];have:=h x sM;simp;omega
 | x::y::l,b,h=>by
   rw [C8];have h1:=ZlH (y::l) b (fun z hz=>h z (by simp at hz ⊢;exact .inr hz));have h2:=h x sM;simp only [Xf,Xl] at h1 ⊢;have:(l.length+1+1)*(b+1)=(l.length+1)*(b+1)+(b+1):=by rw [X1 (l.length+1) 1];omega
   omega
theorem Zdl {l:List BA} (h1:l.length≤1000) (h:∀s∈l,isName s=true):(Lib.join (l.map (·.data.toList)) [32]).length≤140737488355328:=by
 have:=ZlH (l.map (·.data.toList)) 40 (fun x hx=>by
  obtain ⟨s,hs,rfl⟩:=Xh.1 hx;rw [XX];exact (C9 (h s hs)).2.2)
 rw [Xb] at this
 unfold Lib.join
 omega
def WIn (Q:BA→Prop) (n:Nat) (ps:List Piece):Prop:=∀p∈ps,p.word.length≤n∧∀s∈p.word,Q s
theorem WIn.mono {Q:BA→Prop} {n m:Nat} {ps:List Piece} (h:WIn Q n ps) (hn:n≤m):WIn Q m ps:=fun p hp=>⟨XJ (h p hp).1 hn,(h p hp).2⟩
theorem WIn.set {Q:BA→Prop} {n i:Nat} {ps:List Piece} {q:Piece} {s:BA} (h:WIn Q n ps) (hq:ps[i]? =some q) (hs:Q s):WIn Q (n+1) (ps.set i ⟨q.part,q.word++[s]⟩):=fun p hp=>by
 rcases V9 hp with h1|h1
 · exact h.mono (VQ _) p h1
 · have:=h q (Xc hq);rw [h1];refine ⟨by simp;exact this.1,fun t ht=>?_⟩;rcases Xd.1 ht with h2|h2
   · exact this.2 t h2
   · simp at h2;rw [h2];exact hs
theorem WIn.add {Q:BA→Prop} {n i:Nat} {ps:List Piece} {s:BA} (h:WIn Q n ps) (hs:Q s):WIn Q (n+1) (LW ps i s):=by
 unfold LW
 split
 · rename_i q hq;exact h.set hq hs
 · exact h.mono (VQ _)
theorem WIn.step {Q:BA→Prop} {n:Nat} {parts:List (List BA)} {ps ps':List Piece} {s:BA} (h:WIn Q n ps) (hs:Q s) (he:G6 parts ps s=some ps'):WIn Q (n+1) ps':=by
 have one:∀p:Piece,p∈[(⟨partOf parts s,[s]⟩:Piece)]→p.word.length≤n+1∧∀t∈p.word,Q t:=fun p hp=>by
  simp at hp;subst hp;exact ⟨sM,fun t ht=>by simp at ht;rw [ht];exact hs⟩
 unfold G6 at he
 split at he
 · cases he;exact one
 · rename_i q hq;split at he
   · cases he;exact h.set hq hs
   · split at he
     · cases he
     · cases he;intro p hp;rcases Xd.1 hp with h1|h1
       · exact h.mono (VQ _) p h1
       · exact one p h1
theorem EC {Q:BA→Prop} {parts:List (List BA)}:∀{ws:List BA} {n:Nat} {ps ps':List Piece},WIn Q n ps→(∀s∈ws,Q s)→Ji parts ps ws=some ps'→WIn Q (n+ws.length) ps'
 |[],n,ps,ps',h,_,he=>by simp [Ji] at he;subst he;exact h
 | s ::l,n,ps,ps',h,hs,he=>by
   rw [Ji] at he
   cases hst:G6 parts ps s with
   |none=>rw [hst] at he;cases he
   | some ps1=>
     rw [hst] at he;have:=EC (h.step (hs s sM) hst) (fun x hx=>hs x (by simp [hx])) he;exact this.mono (by simp;omega)
theorem ζa {Q:BA→Prop} {kind:Int} {parts:List (List BA)}:∀{ws:List BA} {n:Nat} {first:Bool} {last:Int} {ps:List Piece} {r:List Piece×Int},WIn Q n ps→(∀s∈ws,Q s)→WT kind parts first last ps ws=some r→WIn Q (n+ws.length) r.1
 |[],n,_,_,ps,r,h,_,he=>by simp [WT] at he;subst he;exact h
 | s ::l,n,first,last,ps,r,h,hs,he=>by
   rw [WT] at he;split at he
   · cases he
   · have:=ζa (h.add (hs s sM)) (fun x hx=>hs x (by simp [hx])) he;exact this.mono (by simp;omega)
theorem Zft {Q:BA→Prop} {c:Cut} {ws:List BA} {ps:List Piece} (hs:∀s∈ws,Q s) (he:WU c ws=some ps):WIn Q ws.length ps:=by
 unfold WU at he
 split at he
 · unfold S8 at he;split at he
   · cases he;intro p hp;simp at hp;subst hp;exact ⟨sM,fun s h=>by simp at h⟩
   · cases hg:Ji c.parts [] ws with
     |none=>rw [hg] at he;cases he
     | some ps1=>
       rw [hg] at he;simp only [] at he;split at he
       · cases he;exact (EC (n:=0) (fun p hp=>by simp at hp) hs hg).mono oM
       · cases he
 · cases hg:WT c.kind c.parts true 0 (Jj c.parts.length) ws with
   |none=>rw [hg] at he;cases he
   | some r=>
     rw [hg] at he;have hin:=(ζa (Q:=Q) (n:=0) (fun p hp=>by
      simp [Jj] at hp;obtain ⟨i,_,rfl⟩:=hp;exact ⟨sM,fun s h=>by simp at h⟩) hs hg).mono (m:=ws.length) oM
     obtain ⟨r1,r2⟩:=r;simp only [] at he;split at he
     · split at he
       · cases he
       · cases he;exact fun p hp=>hin p (UA (VA hp))
     · cases he;exact hin
theorem Zdm {c:Cut} {x:Var} {ps:List Piece} (hx:K4 x=true) (he:WU c x.acts=some ps):∀p∈ps,WOk p.word:=fun p hp=>by
 simp only [K4,Xi,U8,Xm] at hx
 have:=Zft (Q:=fun s=>isName s=true) hx.1.1.2 he p hp
 exact ⟨XJ this.1 hx.1.1.1,this.2⟩
def ζb (n:Int) (R:List (List Var)) (p:Piece):List (List Var):=match R[p.part.toNat]? with
 |some r=>R.set p.part.toNat (bump r p.word n)
 |none=>R
theorem ZiY {n:Int} {R:List (List Var)} {p:Piece} {r:List Var} (h:R[p.part.toNat]? =some r):ζb n R p=R.set p.part.toNat (bump r p.word n):=by
 unfold ζb;rw [h]
theorem Zdn (n:Int) (R:List (List Var)) (p:Piece):(ζb n R p).length=R.length:=by
 unfold ζb;split<;>simp
def RelR (R S:List (List Var)):Prop:=R.length=S.length∧∀(i:Nat) (r s:List Var),R[i]? =some r→S[i]? =some s→Asc s∧r.Perm s
theorem RelR.put {n:Int} {R S:List (List Var)} {p:Piece} (h:RelR R S):RelR (ζb n R p) (JI n S p):=by
 refine ⟨by rw [Zdn,ZbD];exact h.1,fun i r s hr hs=>?_⟩
 unfold ζb at hr
 unfold JI at hs
 cases hR:R[p.part.toNat]? with
 | none=>
   have hS:S[p.part.toNat]? =none:=by
    rw [U5] at hR ⊢;have:=h.1;omega
   rw [hR] at hr;rw [hS] at hs;exact h.2 i r s hr hs
 | some r0=>
   obtain ⟨s0,hS⟩:∃s0,S[p.part.toNat]? =some s0:=get_some (by have:=Zd hR;have:=h.1;omega);rw [hR] at hr;rw [hS] at hs;simp only [] at hr hs;obtain ⟨a1,a2⟩:=h.2 _ _ _ hR hS;by_cases e:p.part.toNat=i
   · subst e;rw [XI (Zd hR)] at hr;rw [XI (Zd hS)] at hs
     cases hr;cases hs;exact ⟨CR a1,ZiF a1 a2⟩
   · rw [XZ e] at hr;rw [XZ e] at hs;exact h.2 i r s hr hs
theorem ZlI (n:Nat):RelR (List.replicate n []) (List.replicate n []):=⟨rfl,fun i r s hr hs=>by
 have h1:=VS (Xc hr)
 have h2:=VS (Xc hs)
 subst h1 h2
 exact ⟨List.Pairwise.nil, .refl _⟩⟩
theorem RelR.ok {m:Nat} {R S:List (List Var)} (h:RelR R S) (hS:RE m S):RE m R:=fun r hr=>by
 obtain ⟨i,hi⟩:=XR hr
 obtain ⟨s,hs⟩:∃s,S[i]? =some s:=get_some (by have:=Zd hi;have:=h.1;omega)
 obtain ⟨_,p⟩:=h.2 i r s hi hs
 have:=hS s (Xc hs)
 exact ⟨by rw [p.length_eq];exact this.1,fun x hx=>this.2 x (p.mem_iff.1 hx)⟩
theorem RelR.any {R S:List (List Var)} (h:RelR R S) (f:List Var→Bool) (hf:∀r s,r.Perm s→f r=f s):R.any f=S.any f:=by
 rw [VM,X4,X4]
 constructor
 · rintro ⟨r,hr,hfr⟩;obtain ⟨i,hi⟩:=XR hr;obtain ⟨s,hs⟩:∃s,S[i]? =some s:=get_some (by have:=Zd hi;have:=h.1;omega);exact ⟨s,Xc hs,by rw [←hf r s (h.2 i r s hi hs).2];exact hfr⟩
 · rintro ⟨s,hs,hfs⟩;obtain ⟨i,hi⟩:=XR hs;obtain ⟨r,hr⟩:∃r,R[i]? =some r:=get_some (by have:=Zd hi;have:=h.1;omega);exact ⟨r,Xc hr,by rw [hf r s (h.2 i r s hr hi).2];exact hfs⟩
theorem Zdo {r s:List Var} (h:r.Perm s):bigVars r=bigVars s:=by
 unfold bigVars
 rw [VM,X4,X4]
 exact ⟨fun ⟨x,hx,e⟩=>⟨x,h.mem_iff.1 hx,e⟩,fun ⟨x,hx,e⟩=>⟨x,h.mem_iff.2 hx,e⟩⟩
theorem ZaO {r s:List Var} (h:r.Perm s):Jk r=Jk s:=by unfold Jk;rw [h.length_eq]
theorem RelR.sorted {R S T:List (List Var)} (h:RelR R S) (hl:T.length=R.length) (hT:∀(i:Nat) (r t:List Var),R[i]? =some r→T[i]? =some t→Asc t∧t.Perm r):T=S:=by
 apply Ua
 intro i
 cases hi:T[i]? with
 | none=>
   rw [U5] at hi;rw [eq_comm,U5];have:=h.1;omega
 | some t=>
   obtain ⟨r,hr⟩:∃r,R[i]? =some r:=get_some (by have:=Zd hi;omega);obtain ⟨s,hs⟩:∃s,S[i]? =some s:=get_some (by have:=Zd hr;have:=h.1;omega);obtain ⟨a,p⟩:=h.2 i r s hr hs;obtain ⟨a',p'⟩:=hT i r t hr hi;rw [hs,Zc0 a p a' p']
def WR (R:List (List Var)):Prop:=∀r∈R,∀x∈r,WOk x.acts
theorem Zdp {w:List BA} {n:Int}:∀{r:List Var} {y:Var},y∈bump r w n→y.acts=w∨∃z∈r,z.acts=y.acts
 |[],y,hy=>by simp [bump] at hy;exact .inl (by rw [hy])
 | z :: r,y,hy=>by
   rw [bump] at hy;split at hy
   · rcases Xk.1 hy with rfl|hy
     · exact .inr ⟨z,sM,rfl⟩
     · exact .inr ⟨y,by simp [hy],rfl⟩
   · rcases Xk.1 hy with rfl|hy
     · exact .inr ⟨y,sM,rfl⟩
     · rcases Zdp hy with h1|⟨z',hz',e⟩
       · exact .inl h1
       · exact .inr ⟨z',by simp [hz'],e⟩
theorem WR.put {n:Int} {R:List (List Var)} {p:Piece} (h:WR R) (hp:WOk p.word):WR (ζb n R p):=by
 unfold ζb
 split
 · rename_i r hr;intro r' hr' x hx;rcases V9 hr' with h1|h1
   · exact h r' h1 x hx
   · rw [h1] at hx;rcases Zdp hx with e|⟨z,hz,e⟩
     · rw [e];exact hp
     · rw [←e];exact h r (Xc hr) z hz
 · exact h
theorem ZqZ (n:Nat):WR (List.replicate n []):=fun r hr x hx=>by
 have:=VS hr
 subst this;simp at hx
def Pg (f:List BA→BA):Nat→List Var→List (BA×Value)
 |_,[]=>[]
 |i,x::r=>(f x.acts,Value.int .i64 (i:Int))::Pg f (i+1) r
theorem ZaP {f:List BA→BA} {w:List BA} {v:Value} (hw:WOk w) (hf:∀a b,WOk a→WOk b→f a=f b→a=b):∀{r:List Var} {i:Nat},(∀x∈r,WOk x.acts)→WX (Pg f i r) (f w)=some v→∃(j:Nat) (y:Var),v= .int .i64 ((i+j:Nat):Int)∧r[j]? =some y∧y.acts=w∧∀n,r.set j ⟨w,y.count+n⟩=bump r w n∧Pg f i (bump r w n)=Pg f i r
 |[],i,_,h=>by simp [Pg,WX] at h
 | x ::r,i,hr,h=>by
   rw [Pg,WX] at h;split at h
   · rename_i e;have e':=hf _ _ hw (hr x sM) e
     cases h;refine ⟨0,x,rfl,rfl,e'.symm,fun n=>?_⟩;rw [bump,Qb e'.symm];exact ⟨by rw [e'];rfl,rfl⟩
   · rename_i hne;have hx:x.acts≠w:=fun e=>hne (by rw [e]);obtain ⟨j,y,hv,hy,hyw,hset⟩:=ZaP hw hf (fun z hz=>hr z (by simp [hz])) h;refine ⟨j+1,y,by rw [hv,show i+1+j=i+(j+1) by omega],hy,hyw,fun n=>?_⟩;rw [bump,Qa hx];exact ⟨by rw [List.set_cons_succ,(hset n).1],by rw [Pg,(hset n).2];rfl⟩
theorem ZaQ {f:List BA→BA} {w:List BA}:∀{r:List Var} {i:Nat},WX (Pg f i r) (f w)=none→(∀x∈r,x.acts≠w)∧∀n,Pg f i (bump r w n)=KS (Pg f i r) (f w) (.int .i64 ((i+r.length:Nat):Int))
 |[],i,_=>⟨fun x h=>by simp at h,fun n=>rfl⟩
 | x :: r,i,h=>by
   rw [Pg,WX] at h;split at h
   · cases h
   · rename_i hne;have hx:x.acts≠w:=fun e=>hne (by rw [e]);obtain ⟨h1,h2⟩:=ZaQ h;refine ⟨fun y hy=>?_,fun n=>?_⟩
     · rcases Xk.1 hy with rfl|hy
       · exact hx
       · exact h1 y hy
     · rw [bump,Qa hx,Pg,h2 n,Pg,KS,Qa hne,Xl,show i+1+r.length=i+(r.length+1) by omega]
theorem ZlJ {r:List Var} {w:List BA} {n:Int} (h:∀x∈r,x.acts≠w):(r++[(⟨w,0⟩:Var)]).set r.length (⟨w,0+n⟩:Var)=bump r w n:=by
 rw [HP h,VE _ _ (Xe _),Vm,Int.zero_add];rfl
end Go.Cb
