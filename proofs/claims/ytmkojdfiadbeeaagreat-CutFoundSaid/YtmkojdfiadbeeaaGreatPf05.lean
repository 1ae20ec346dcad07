/-
  Walks of functions and plain laws of the chapter, as the claim needs them.
-/
import Derived.Test.YtmkojdfiadbeeaaGreatProg
import Derived.Lib.Join
import Derived.Test.YtmkojdfiadbeeaaGreatPf04
import Derived.Test.YtmkojdfiadbeeaaGreatPf03
import Derived.Test.YtmkojdfiadbeeaaGreatPf02
import Derived.Test.YtmkojdfiadbeeaaGreatPf01
import Derived.Test.YtmkojdfiadbeeaaGreatMShelf
namespace Go.Proofs.YtmkojdfiadbeeaaGreat
open Go.RowKit Go.Cb Go.En Tryz
set_option linter.all false
set_option maxRecDepth 100000
theorem OU:ElT prog 39 38 1 8 .nilFunc:=⟨underlying39,by kernel_rfl,rfl,dC⟩
theorem OV:NoAgg prog 38=true:=by kernel_rfl
theorem L5:SlT prog 39 38 1=true:=by kernel_rfl
def ZfN:Option Cut→PV
 |none=> .tup [.agg [Zg 0, .val (.slice none 0 0)],Zg 10]
 |some c=> .tup [RV c,Zg 0]
def Lw (l:List ByteArray) (kind:Int) (cs:List (List Int)):Option Cut:=if cs.length<2 then none else some ⟨kind,Zq l cs⟩
theorem PE (l:List ByteArray) (kind:Int) (cs:List (List Int)):Pz l kind cs=ZfN (Lw l kind cs):=by
 unfold Pz Lw
 split<;>rfl
def J9:Option Cut→PV
 |none=> .agg [Zg 0, .val (.slice none 0 0)]
 |some c=>RV c
def J':Option Cut→PV
 |none=>Zg 10
 |some c=>Zg 0
theorem DZ (o:Option Cut):shD (.tup [J9 o,J' o])=true:=by cases o<;>rfl
theorem Lx (o:Option Cut):ZfN o= .tup [J9 o,J' o]:=by cases o<;>rfl
def PF (l:List ByteArray) (n:Nat) (E:Nat→Nat→Bool) (S F:Nat→Bool):Nat→Option Cut→Prop
 |0,o=>∃cs,Comps (upTo n) (T1 E) cs∧o=Lw l 1 cs
 |1,o=>∃cs,SeqCs n (ZT n E) cs∧o=Lw l 2 cs
 |2,o=>∃cs,Comps (upTo n) (Sv E) cs∧((idx (Yi S F) cs<0∧o=none)∨∃i0 c0 ds,cs[i0]? =some c0∧idx (Yi S F) cs=(i0:Nat)∧AndCs cs i0 c0 (Yi S F) ds∧o=Lw l 3 ds)
 |_,o=>(inL n S F=[]∧o=none)∨∃cs,inL n S F≠[]∧Comps (Sw n S F) (T1 E) cs∧o=Lw l 4 (K6 n E S F cs)
def ZeE (Q:Nat→Option Cut→Prop) (o:Option Cut):Prop:=(∃k c,k<4∧(∀j,j<k→Q j none)∧Q k (some c)∧o=some c)∨((∀j,j<4→Q j none)∧o=none)
theorem Zd8 (caps:List PV):AF prog 53 [.sl 0 [], .fn 54 caps] (· = .val (.tuple #[])):=fun M w vs hM hlen hv=>by
 obtain ⟨v,fv,rfl⟩:=WT hlen
 have hS:=hv 0 v _ rfl rfl
 cases hS with
 | emp a c hc ha=>
   refine (Tryz.slices_SortFunc_none (α:=Nat) a c fv w).mono fun e w' ⟨h1,h2⟩=>?_;rw [h1,h2];exact ⟨_,_,fun _=>False,rfl,rfl,Ext.rfl' _, .shr (.val _) (fun _ h=>h),fun b hb=>hb.elim,fun h=>h.elim⟩
 | sl b off n c cs vs' hnc hc hcell hT=>
   refine (Tryz.slices_SortFunc_none (α:=Nat) _ c fv w).mono fun e w' ⟨h1,h2⟩=>?_;rw [h1,h2];exact ⟨_,_,fun _=>False,rfl,rfl,Ext.rfl' _, .shr (.val _) (fun _ h=>h),fun b hb=>hb.elim,fun h=>h.elim⟩
theorem ZaY (g:Dfg) (l:List ByteArray) (E:Nat→Nat→Bool) (S F:Nat→Bool) (hb:AF prog 46 [WS g] (· = .tup [W1 l 0 E S F,Zg 0])) (hl:l.length=0):AF prog 15 [WS g] (fun p=>∃cs,SeqCs 0 (ZT 0 E) cs∧p=Pz l 2 cs):=by
 refine AF.of_body 31 func15 rfl ntmps15 (Xa rfl) ?_
 intro w0 M0 vs hl hv
 obtain ⟨v0,rfl⟩:=WO hl
 clear hl hv
 refine Zd ?_
 (refine Yr 1 4 fun h1=>?_<;>refine ZV [(.int .i64 0),(.slice none 0 0)] 2 2 WM fun h2=>?_<;>refine xL 3 Zb ?_<;>refine Zh ?_)
 ((refine yL 9 (YG 1 Z9) fun v9 h=>?_;cases h)<;>(refine cP 10 (cA call46 (hb)) fun va10 vb10 hva10 h=>?_;cases h)<;>refine xL 8 Za (xL 11 Zl (xL 12 Zl (xL 4 Zb (xL 5 Zb ?_))))<;>refine Zh ?_)
 (refine xL 13 Za (xL 14 Y9 ?_)<;>refine Zc ?_)
 refine cX ?_ ?_<;>intro hb14
 · exfalso;omega
 · refine Zd ?_;(refine xL 17 Za ?_<;>(refine cS 18 (cA call51 (Pq l 0 E (YL 0 S) (YL 0 F) hl oM)) fun v18 h=>?_;cases h)<;>refine ZV [(.slice none 0 0)] 1 6 OQ fun h6=>?_<;>refine Rs 6 Yy OP ?_<;>refine Zc ?_)
   refine Zz (K' (l:=6) (t:=6) (j:=0) rfl X3 rfl) fun _=>?_;dsimp only [Yf,share,List.map,W1];(refine Zk ?_<;>refine xL 19 Za ?_<;>(refine cS 20 (cA call49 ((DY l _ oM).mono (R':=(· =pInts (upTo 0))) fun p hp=>by rw [hp,hl])) fun v20 h=>?_;cases h)<;>refine xL 21 JO ?_<;>(refine JK 22 rfl rfl (Xa rfl) rfl (cA call48 (JV 52 [.sptr 0 [On 0 (ZT 0 E)]] (relS (ZT 0 E)) (upTo 0) (JW 0) (by rw [W8];omega) (call52) (fun x hx y hy=>ζu 0 (ZT 0 E) x y (Yk.1 hx) (Yk.1 hy)))) ?_;rintro p' ⟨cs,hcs,rfl⟩;refine ⟨rfl,fun h22 ho22=>?_⟩)<;>refine xL 7 Zb ?_<;>refine Zc ?_)
   have hcn:cs=[]:=XC (by have:=(Jf hcs).2.1;omega);subst hcn;refine Zz (En.freeze (l:=22) (t:=7) rfl rfl) fun _=>?_;rw [KH _ _ _ rfl];dsimp only [Si,List.map,Xr];(refine Zk ?_<;>refine xL 23 Za (xL 24 JO ?_)<;>(refine cS 25 (cA call53 (Zd8 _)) fun v25 h=>?_;cases h)<;>refine Zh ?_)
   (refine xL 26 Za (xL 27 Za ?_)<;>(refine cP 28 (cA call47 (Lv l _ 2 [] dC)) fun va28 vb28 hva28 h=>?_;cases h)<;>refine xL 29 Zl (xL 30 Zl ?_)<;>refine YN 2 Z5 ?_<;>refine xL 3 Zb ?_<;>refine Zc ?_)
   exact Kz (k:=2) 2 kR (results15) rfl rfl rfl (Xa rfl) dC rfl ⟨[],⟨⟨[],hcs, .refl _⟩,fun i j a b hij ha hb=>by simp at ha⟩,rfl⟩
theorem OW (g:Dfg) (l:List ByteArray) (n:Nat) (E:Nat→Nat→Bool) (S F:Nat→Bool) (hb:AF prog 46 [WS g] (· = .tup [W1 l n E S F,Zg 0])) (hl:l.length=n) (hn:n≤1000):
 (AF prog 14 [WS g] fun p=>∃i:{o//PF l n E S F 0 o},p= .tup [J9 i.1,J' i.1])∧(AF prog 15 [WS g] fun p=>∃i:{o//PF l n E S F 1 o},p= .tup [J9 i.1,J' i.1])∧(AF prog 16 [WS g] fun p=>∃i:{o//PF l n E S F 2 o},p= .tup [J9 i.1,J' i.1])∧(AF prog 17 [WS g] fun p=>∃i:{o//PF l n E S F 3 o},p= .tup [J9 i.1,J' i.1]):=by
 refine ⟨(ZaR g l n E S F hb hl hn).mono fun p hp=>?_,?_,(ZaU g l n E S F hb hl hn).mono fun p hp=>?_,(Cv g l n E S F hb hl hn).mono fun p hp=>?_⟩
 · obtain ⟨cs,h1,rfl⟩:=hp;exact ⟨⟨_,cs,h1,rfl⟩,by rw [PE,Lx]⟩
 · rcases Vx n with h0|h0
   · subst h0;refine (ZaY g l E S F hb hl).mono fun p hp=>?_;obtain ⟨cs,h1,rfl⟩:=hp;exact ⟨⟨_,cs,h1,rfl⟩,by rw [PE,Lx]⟩
   · refine (ZaS g l n E S F hb hl hn h0).mono fun p hp=>?_;obtain ⟨cs,h1,rfl⟩:=hp;exact ⟨⟨_,cs,h1,rfl⟩,by rw [PE,Lx]⟩
 · obtain ⟨cs,h1,⟨h2,rfl⟩|⟨i0,c0,ds,h2,h3,h4,rfl⟩⟩:=hp
   · exact ⟨⟨none,cs,h1, .inl ⟨h2,rfl⟩⟩,rfl⟩
   · exact ⟨⟨_,cs,h1, .inr ⟨i0,c0,ds,h2,h3,h4,rfl⟩⟩,by rw [PE,Lx]⟩
 · obtain ⟨h2,rfl⟩|⟨cs,h2,h3,rfl⟩:=hp
   · exact ⟨⟨none, .inl ⟨h2,rfl⟩⟩,rfl⟩
   · exact ⟨⟨_, .inr ⟨cs,h2,h3,rfl⟩⟩,by rw [PE,Lx]⟩
set_option maxHeartbeats 1000000 in
theorem Cw (g :Dfg) (l:List ByteArray) (n:Nat) (E:Nat→Nat→Bool) (S F:Nat→Bool) (hb:AF prog 46 [WS g] (· = .tup [W1 l n E S F,Zg 0])) (hl:l.length=n) (hn:n≤1000):AF prog 18 [WS g] (fun p=>∃o,ZeE (PF l n E S F) o∧p= .tup [J9 o,J' o]):=by
 have hG:=OW g l n E S F hb hl hn
 have hfs:∀k:Nat,k<3→∃f,[PV.fn 14 [],PV.fn 15 [],PV.fn 16 []][k*1]? =some (.fn f [])∧(∀args w,(callFunc f args).run prog w= .ok (.enter f args) w)∧(AF prog f [WS g] fun p=>∃i:{o//PF l n E S F k o},p= .tup [J9 i.1,J' i.1]):=fun k hk=>by
  match k,hk with
  |0,_=>exact ⟨_,rfl,call14,hG.1⟩
  |1,_=>exact ⟨_,rfl,call15,hG.2.1⟩
  |2,_=>exact ⟨_,rfl,call16,hG.2.2.1⟩
 refine AF.of_body 29 func18 rfl ntmps18 (Xa rfl) ?_
 intro w0 M0 vs hl hv
 obtain ⟨v0,rfl⟩:=WO hl
 clear hl hv
 refine Zd ?_
 (refine Yr 1 4 fun h1=>?_<;>refine ZV [(.int .i64 0),(.slice none 0 0)] 2 2 WM fun h2=>?_<;>refine xL 3 Zb ?_<;>refine Zh ?_)
 ((refine Tz (xs:=[_,_,_]) 8 OU rfl rfl (Xa rfl) rfl rfl rfl rfl rfl dC dC rfl ?_;intro h8 ho8;refine Yg (En.freeze (l:=8) (t:=8) rfl rfl) fun _=>?_)<;>refine xL 9 (ZF L5) (xL 10 Za ?_)<;>refine Zc ?_)
 refine Zw (ι:={x:Nat//x≤3∧∀j,j<x→PF l n E S F j none}) (fun k=>⟨[(1,_,_),(2,_,_),(8,_,_),(9,_,_),(10, .int .i64 k.1,Zg k.1)],[(1,_,_),(2,_,_)]⟩) (fun k=>3-k.1) ⟨0,XA _,fun j hj=>UB hj (Nat.not_lt_zero j)⟩ (fun a w H=>H.weaken ⟨rfl,rfl,rfl,rfl,rfl,trivial⟩ ⟨rfl,rfl,trivial⟩) ?_
 rintro ⟨k,hk,hQ⟩
 dsimp only
 try dsimp only at hk hQ
 refine Zd ?_
 (refine xL 11 ZN ?_<;>refine Zc ?_)
 refine cX ?_ ?_<;>intro hb11
 · first | exact bN hb11|(
 have hk3:k<3:=oM;obtain ⟨f,e1,hfc,hfa⟩:=hfs k hk3;refine Zd ?_;(refine xL 12 (Zn L5) ?_<;>(refine yL 13 (Zt OV) fun v13 h=>?_;cases h)<;>refine xL 5 Zb ?_<;>refine Zh ?_)
 (refine xL 15 Za ?_<;>(refine yL 16 (YG 1 Z9) fun v16 h=>?_;cases h)<;>(refine cPx 17 (Li (f:=f) (ps:=[]) rfl ⟨_,rfl⟩ hfc rfl hfa) (fun i va17 vb17 hva17 hvb17=>?_) (fun i=>DZ i.1);rcases i with ⟨_|cc,hq⟩<;>(dsimp only [J9,J'] at hva17 hvb17 ⊢;cases hvb17))<;>refine xL 14 Za (xL 18 Zl (xL 19 Zl ?_))<;>refine ZV [(.int .i64 0),(.slice none 0 0)] 2 6 WM fun h6=>?_<;>refine YN 6 Z5 ?_<;>refine xL 7 Zb ?_<;>refine Zc ?_)<;>(
 (refine Zk ?_<;>refine xL 20 Za (xL 21 Y9 ?_)<;>refine Zc ?_)
 refine cX ?_ ?_<;>intro hb21
 · first|exact bN hb21|(
 refine Zd ?_;((refine yL 22 (YG 6 Z5) fun v22 h=>?_;cases h)<;>refine xL 23 Za ?_<;>refine YN 2 Z5 ?_<;>refine xL 3 Zb ?_<;>refine Zc ?_)
 first
  |exact UB rfl hb21
  |exact Kz (k:=2) 2 kR (results18) rfl rfl rfl (Xa rfl) dC rfl ⟨some cc, .inl ⟨k,cc,oM,hQ,hq,rfl⟩,rfl⟩)
 · first |exact bN hb21|(
 refine Zd ?_;(refine xL 24 ZB (xL 10 Za ?_)<;>refine Zc ?_)
 refine Zf (
  ⟨k + 1,oM,fun j hj=>by
   rcases Nat.lt_succ_iff_lt_or_eq.1 hj with h|h
   · exact hQ j h
   · rw [h]
     first
      |exact hq
      |exact UB dC hb21⟩
  ) (by show 3-(k+1)<3-k;omega) ⟨rfl,rfl,rfl,rfl,rfl,trivial⟩ ⟨rfl,rfl,trivial⟩)))
 · first|exact bN hb11|(
 refine Zd ?_;((refine yL 25 (YG 1 Z9) fun v25 h=>?_;cases h)<;>(refine cPx 26 (cA call17 hG.2.2.2) (fun i va26 vb26 hva26 hvb26=>?_) (fun i=>DZ i.1);rcases i with ⟨_|cc,hq⟩<;>(dsimp only [J9,J'] at hva26 hvb26 ⊢;cases hvb26))<;>refine xL 27 Zl (xL 28 Zl ?_)<;>refine YN 2 Z5 ?_<;>refine xL 3 Zb ?_<;>refine Zc ?_)<;>(
 have hk3:k=3:=oM;subst hk3
 first
  |exact Kz (k:=2) 2 kR (results18) rfl rfl rfl (Xa rfl) dC rfl ⟨some cc, .inl ⟨3,cc,oM,hQ,hq,rfl⟩,rfl⟩
  |exact Kz (k:=2) 2 kR (results18) rfl rfl rfl (Xa rfl) dC rfl ⟨none, .inr ⟨fun j hj=>(Nat.lt_succ_iff_lt_or_eq.1 hj).elim (hQ j) fun h=>by rw [h];exact hq,rfl⟩,rfl⟩))
end Go.Proofs.YtmkojdfiadbeeaaGreat
namespace Go.Cb
open Go.En
set_option linter.all false
def sumTo:Nat→(Nat→Nat)→Nat
 |0,_=>0
 |n+1,f=>sumTo n f+f n
def marked (n:Nat) (I:Nat→Bool):List Int:=((List.range n).map fun i:Nat=>(i:Int)).filter fun x=>I x.toNat
structure LabOk (n:Nat) (I:Nat→Bool) (r:Int→Int→Bool) (lab:Nat→Nat):Prop where
 le:∀i,i<n→lab i≤i
 inn:∀i,i<n→I i=true→I (lab i)=true
 conn:∀i,i<n→I i=true→Conn (marked n I) r (lab i) i
def good (n:Nat) (I:Nat→Bool) (t:Nat→Nat→Bool) (lab:Nat→Nat) (a b:Nat):Prop:=a≠b→I a=true→I b=true→t a b=true→lab a=lab b
structure LabPass (n:Nat) (I:Nat→Bool) (r:Int→Int→Bool) (t:Nat→Nat→Bool) (lab0 lab:Nat→Nat) (ag:Bool) (a b:Nat):Prop where
 ok:LabOk n I r lab
 les:ag=true→sumTo n lab<sumTo n lab0
 eq:ag=false→lab=lab0∧∀x y,(x<a∧y<n∨x=a∧y<b)→good n I t lab x y
structure Fix (n:Nat) (I:Nat→Bool) (r:Int→Int→Bool) (t:Nat→Nat→Bool) (lab:Nat→Nat):Prop where
 ok:LabOk n I r lab
 st:∀x y,x<n→y<n→good n I t lab x y
theorem ζy {α:Type} {rel:α→α→Prop}:∀{l m:List α},(∀a∈l,∀b∈l,rel a b→¬rel b a)→l.Pairwise rel→m.Pairwise rel→(∀c,c∈l↔c∈m)→l=m
 |[],[],_,_,_,_=>rfl
 |[],b::m,_,_,_,h=>by have:=(h b).2 sM;simp at this
 |a::l,[],_,_,_,h=>by have:=(h a).1 sM;simp at this
 | a ::l,b::m,ha,hl,hm,h=>by
   rw [XB] at hl hm;have hab:a=b:=by
    have h1:=(h a).1 sM;have h2:=(h b).2 sM;rcases Xn.1 h1 with e|e
    · exact e
    · rcases Xn.1 h2 with e2|e2
      · exact e2.symm
      · exact UB (hm.1 a e) (ha a sM b h2 (hl.1 b e2))
   subst hab;have hirr:¬rel a a:=fun hr=>ha a sM a sM hr hr;rw [ζy (fun x hx y hy=>ha x (by simp [hx]) y (by simp [hy])) hl.2 hm.2 fun x=>?_];constructor
   · intro hx;rcases Xn.1 ((h x).1 (by simp [hx])) with e|e
     · subst e;exact UB (hl.1 _ hx) hirr
     · exact e
   · intro hx;rcases Xn.1 ((h x).2 (by simp [hx])) with e|e
     · subst e;exact UB (hm.1 _ hx) hirr
     · exact e
end Go.Cb
namespace Go.Proofs.YtmkojdfiadbeeaaGreat
open Go.RowKit Go.Cb Go.En Tryz
set_option linter.all false
set_option maxRecDepth 100000
end Go.Proofs.YtmkojdfiadbeeaaGreat
namespace Go.En
open Go.RowKit Go.Cb
end Go.En
namespace Go.Proofs.YtmkojdfiadbeeaaGreat
open Go.RowKit Go.Cb Go.En Tryz
set_option linter.all false
set_option maxRecDepth 100000
theorem ζz {α:Type} {p:α→Bool} {l:List α} {i0:Nat} (h:idx p l=i0):(∀j y,j<i0→l[j]? =some y→p y=false)∧∀y,l[i0]? =some y→p y=true:=by
 unfold idx at h
 cases hf:l.findIdx? p with
 |none=>rw [hf] at h;dsimp only at h;omega
 | some i=>
   rw [hf] at h;dsimp only at h;have hi0:i=i0:=oM;subst hi0;rw [VC] at hf;obtain ⟨hi,hp,hlt⟩:=hf;refine ⟨fun j y hj hy=>?_,fun y hy=>?_⟩
   · obtain ⟨hl,rfl⟩:=Xh.1 hy;simpa using hlt j hj
   · obtain ⟨hl,rfl⟩:=Xh.1 hy;exact hp
theorem ZaZ {α:Type} {p:α→Bool} {l:List α} (k:Nat) (h:∀j y,j<k→l[j]? =some y→p y=false):(l.take k).filter p=[]:=List.filter_eq_nil_iff.2 fun x hx=>by
 obtain ⟨j,hj⟩:=XF hx
 have hjl:=Ze hj
 rw [XW] at hjl
 rw [X6 oM] at hj
 rw [h j x oM hj];decide
theorem OX {i0:Nat} {W:List Int→Bool} {cs:List (List Int)} (hW:∀y,cs[i0]? =some y→W y=true):∀k,k≤cs.length→selA i0 W false (cs.take k)=(cs.take k).filter fun c=> !W c
 |0,_=>by simp [selA]
 | k+1,hk=>by
   obtain ⟨c,hc⟩:=Zj (show k<cs.length by omega);rw [L3 hc,L4 hc,OX hW k oM];congr 1;by_cases h:W c=false
   · rw [UA ⟨fun e=>by subst e;rw [hW c hc] at h;exact Bool.noConfusion h,h⟩,UA (by rw [h];rfl)]
   · rw [Uz (fun hh=>h hh.2),Uz (by simpa using h)]
theorem Ec {i0:Nat} {W:List Int→Bool} {cs:List (List Int)} {c0:List Int} (h0:cs[i0]? =some c0) (hW:W c0=true) (hpre:∀j y,j<i0→cs[j]? =some y→W y=false):∀k,k≤cs.length→(cs.take k).filter W=(if i0<k then [c0] else [])++selA i0 W true (cs.take k)
 |0,_=>by simp [selA]
 | k +1,hk=>by
   obtain ⟨c,hc⟩:=Zj (show k<cs.length by omega);have hb:k≤i0→selA i0 W true (cs.take k)=[]:=fun hk0=>List.eq_nil_iff_forall_not_mem.2 fun x hx=>by
    have hm:=PD hx;have:=ZaZ (p:=W) (l:=cs) k fun j y hj=>hpre j y oM;have h2:x∈(cs.take k).filter W:=XU.2 hm;rw [this] at h2;exact List.not_mem_nil h2
   rw [L3 hc,L4 hc,Ec h0 hW hpre k oM];rcases VL k i0 with h|h|h
   · have hw:=hpre k c h hc;rw [Uz (show ¬i0<k by omega),Uz (show ¬i0<k+1 by omega),Uz (show ¬W c=true by rw [hw];decide),Uz (fun hh=>by rw [hw] at hh;exact Bool.noConfusion hh.2)];simp
   · subst h;rw [h0] at hc;cases hc;rw [hb (Xg _),Uz (show ¬k<k by omega),UA (show k<k+1 by omega),UA hW,Uz (fun hh=>hh.1 rfl)];simp
   · rw [UA h,UA (show i0<k+1 by omega)];by_cases hw:W c=true
     · rw [UA hw,UA ⟨oM,hw⟩];simp
     · rw [Uz hw,Uz (fun hh=>hw hh.2)];simp
theorem Gt {α:Type} (p:α→Bool):∀l:List α,(l.filter p++l.filter fun x=> !p x).Perm l
 |[]=> .refl _
 | a::l=>by
   cases h:p a with
   |true=>rw [Vz h,VA (by rw [h];decide)];exact (Gt p l).cons a
   |false=>rw [VA (by rw [h];decide),Vz (by rw [h];rfl)];exact List.perm_middle.trans ((Gt p l).cons a)
theorem Sx {α:Type} {l m:List (List α)} (h:l.Perm m):l.flatten.Perm m.flatten:=by
 induction h with
 |nil=>exact .refl _
 |cons x _ ih=>rw [XT,XT];exact ih.append_left x
 | swap x y l=>
   rw [XT,XT,XT,XT,←XM,←XM];exact Ui.append_right _
 |trans _ _ h1 h2=>exact h1.trans h2
theorem JX {l:List ByteArray} {s:ByteArray}:hasStr l s=true↔s∈l:=by
 constructor
 · intro h;unfold hasStr at h;obtain ⟨x,hx,e⟩:=XS.1 h;rw [←WW.1 e];exact hx
 · exact S2
theorem Cx {ps:List (List ByteArray)} {s:ByteArray} (h:0≤partOf ps s):hasStr (ps[(partOf ps s).toNat]?.getD []) s=true:=by
 unfold partOf idx at h ⊢
 cases hf:ps.findIdx? fun p=>hasStr p s with
 |none=>rw [hf] at h;simp at h
 | some i=>
   simp only [hf];rw [VC] at hf;obtain ⟨hi,h1,_⟩:=hf;rw [Xt,Xx hi];exact h1
theorem Ed {ps:List (List ByteArray)} {s:ByteArray} {i:Nat} {p:List ByteArray} (hn:ps.flatten.Nodup) (hp:ps[i]? =some p) (hs:s∈p):partOf ps s=i:=by
 unfold partOf
 refine JH (fun j q hj hq=>?_) hp (JX.2 hs)
 rw [←X',JX]
 intro hsq
 have:=XX.1 (VX.1 hn).2 j i (Ze hq) (Ze hp) hj s (by rw [(Xh.1 hq).2];exact hsq) s (by rw [(Xh.1 hp).2];exact hs)
 exact this rfl
structure Fine (c:Cut) (P:List (List ByteArray)):Prop where
 len:c.parts.length≤P.length
 ok:∀p∈P,∃s0,p[0]? =some s0∧0≤partOf c.parts s0∧∀s∈p,hasStr (c.parts[(partOf c.parts s0).toNat]?.getD []) s=true
 ord:c.kind=2→∀(k:Nat) p q s t,P[k]? =some p→P[k+1]? =some q→p[0]? =some s→q[0]? =some t→partOf c.parts s≤partOf c.parts t
end Go.Proofs.YtmkojdfiadbeeaaGreat
namespace Go.Cb
open Go.En
set_option linter.all false
def Yu (parts:List (List ByteArray)) (ps:List Piece) (s:ByteArray):List Piece:=match ps[ps.length-1]? with
 |none=>[⟨partOf parts s,[s]⟩]
 |some q=>if q.part=partOf parts s then ps.set (ps.length-1) ⟨q.part,q.word++[s]⟩ else ps++[⟨partOf parts s,[s]⟩]
def G0 (parts:List (List ByteArray)) (ps:List Piece) (ws:List ByteArray):List Piece:=ws.foldl (Yu parts) ps
def KN:List Piece→Bool
 |p::q::l=>(p.part==0||q.part==0)&&KN (q::l)
 |_=>true
theorem Ee {l:List Piece} {q:Piece}:∀(m:List Piece),KN (l++m)=true→KN l=true:=by
 intro m
 induction l with
 |nil=>intro _;rfl
 | cons p l ih=>
   intro h
   cases l with
   |nil=>rfl
   | cons p' l=>
     simp only [X2,KN,Xd] at h ⊢;exact ⟨h.1,ih (by simpa using h.2)⟩
theorem OY:∀(l:List Piece) (p q:Piece),KN (l++[p,q])=(KN (l++[p])&&(p.part==0||q.part==0))
 |[],p,q=>by simp [KN]
 |[a],p,q=>by simp [KN,Bool.and_comm]
 | a::b::l,p,q=>by
   simp only [X2,KN];have:=OY (b::l) p q;simp only [X2] at this;rw [this,Bool.and_assoc]
theorem PG:∀(l:List Piece) (p p':Piece),p.part=p'.part→KN (l++[p])=KN (l++[p'])
 |[],_,_,_=>rfl
 |[a],p,p',h=>by simp [KN,h]
 | a::b::l,p,p',h=>by
   simp only [X2,KN];have:=PG (b::l) p p' h;simp only [X2] at this;rw [this]
theorem Ts {α:Type} {l:List α} {x:α} (h:l[l.length-1]? =some x):∃m,l=m++[x]:=by
 have hl:=(Xh.1 h).1
 refine ⟨l.take (l.length-1),?_⟩
 have h1:=Z7 h
 rw [show l.length-1+1=l.length by omega,XD] at h1
 exact h1
theorem T3 {α:Type} (m:List α) (x y:α):(m++[x]).set ((m++[x]).length-1) y=m++[y]:=by
 have:(m++[x]).length-1=m.length:=sM
 rw [this,Vh _ _ (Xg _),Vc];rfl
theorem ZcD {α:Type} (m:List α) (x:α):(m++[x])[(m++[x]).length-1]? =some x:=by
 have:(m++[x]).length-1=m.length:=sM
 rw [this,Vb (Xg _),Vc];rfl
theorem Ef {parts:List (List ByteArray)} {ps:List Piece} {s:ByteArray} (h:KN ps=false):KN (Yu parts ps s)=false:=by
 unfold Yu
 split
 · rename_i hn
   cases ps with
   |nil=>cases h
   |cons p ps=>simp at hn
 · rename_i q hq;obtain ⟨m,rfl⟩:=Ts hq;split
   · rw [T3,←PG m q ⟨q.part,q.word++[s]⟩ rfl];exact h
   · cases h1:KN (m++[q]++[⟨partOf parts s,[s]⟩])
     · rfl
     · rw [Ee (q:=q) _ h1] at h;cases h
theorem Eg {parts:List (List ByteArray)}:∀(ws:List ByteArray) (ps:List Piece),KN ps=false→KN (G0 parts ps ws)=false
 |[],ps,h=>h
 |s::ws,ps,h=>Eg ws _ (Ef h)
theorem Ga {parts:List (List ByteArray)}:∀(ws:List ByteArray) (ps:List Piece),KN ps=true→Y5 parts ps ws=if KN (G0 parts ps ws) then some (G0 parts ps ws) else none
 |[],ps,h=>by simp [Y5,G0,h]
 | s :: ws, ps,h=>by
   rw [Y5];show _=if KN (G0 parts (Yu parts ps s) ws) then some (G0 parts (Yu parts ps s) ws) else none;unfold WE;have hrs:Yu parts ps s=Yu parts ps s:=rfl
   cases hq:ps[ps.length-1]? with
   | none=>
     (have:Yu parts ps s=[⟨partOf parts s,[s]⟩]:=by unfold Yu;rw [hq]);rw [this];exact Ga ws _ rfl
   | some q =>
     obtain ⟨m,rfl⟩:=Ts hq;simp only [];by_cases h1:q.part=partOf parts s
     · (have:Yu parts (m++[q]) s=(m++[q]).set ((m++[q]).length-1) ⟨q.part,q.word++[s]⟩:=by unfold Yu;rw [hq];simp [h1]);rw [UA h1,this];refine Ga ws _ ?_;rw [T3,←PG m q ⟨q.part,q.word++[s]⟩ rfl];exact h
     · (have :Yu parts (m++[q]) s=m++[q]++[⟨partOf parts s,[s]⟩]:=by unfold Yu;rw [hq];simp [h1]);rw [Uz h1,this];have ha:KN (m++[q]++[⟨partOf parts s,[s]⟩])=(KN (m++[q])&&(q.part==0||partOf parts s==0)):=by
        rw [XM];exact OY m q _
       by_cases h2:partOf parts s≠0∧q.part≠0
       · rw [UA h2];(have hb:KN (m++[q]++[⟨partOf parts s,[s]⟩])=false:=by rw [ha];simp [h2.1,h2.2]);rw [Eg ws _ hb];rfl
       · rw [Uz h2];refine Ga ws _ ?_;rw [ha,h];simp;by_cases h3:q.part=0
         · exact .inl h3
         · right
           by_cases h4:partOf parts s=0
           · exact h4
           · exact UB ⟨h4,h3⟩ h2
def Wx (ps:List Piece) (i:Nat):Bool:=match ps[i]? with
 |none=>false
 |some p=>p.part !=0&&(i==0||i==ps.length-1||match ps[i+1]? with|some q=>q.part !=0|none=>false)
def WV (ps:List Piece):Bool:=(List.range ps.length).all fun i=> !Wx ps i
theorem ζA:∀(ps:List Piece),KN ps=true↔∀i p q,ps[i]? =some p→ps[i+1]? =some q→p.part=0∨q.part=0
 |[]=>by simp [KN]
 |[p]=>by simp [KN]
 | p ::q::l=>by
   rw [KN,Xd,ζA (q::l)];constructor
   · rintro ⟨h1,h2⟩ i a b ha hb
     cases i with
     |zero=>simp at ha hb;subst ha hb;simpa using h1
     |succ i=>exact h2 i a b (by simpa using ha) (by simpa using hb)
   · intro h;refine ⟨by simpa using h 0 p q rfl rfl,fun i a b ha hb=>h (i+1) a b (by simpa using ha) (by simpa using hb)⟩
theorem ZcE {ps:List Piece} (h0:ps≠[]):WV ps=(KN ps&&endsB ps):=by
 have hlen:0<ps.length:=by cases ps with|nil=>exact UB rfl h0|cons=>simp
 obtain ⟨a,ha⟩:=Zj hlen
 obtain ⟨b,hb⟩:=Zj (show ps.length-1<ps.length by omega)
 have hends:endsB ps=(a.part==0&&b.part==0):=by unfold endsB;rw [ha,hb]
 rw [VK,Xd,ζA,hends]
 unfold WV
 rw [Xf]
 constructor
 · intro h;have key:∀i p,ps[i]? =some p→p.part≠0→i≠0∧i≠ps.length-1∧∀q,ps[i+1]? =some q→q.part=0:=fun i p hp hne=>by
    have h1:=h i (XJ.2 (Ze hp));unfold Wx at h1;rw [hp] at h1;simp [hne] at h1;refine ⟨h1.1.1,h1.1.2,fun q hq=>?_⟩;have:=h1.2;rw [hq] at this;simpa using this
   refine ⟨fun i p q hp hq=>?_,?_⟩
   · by_cases hz:p.part=0
     · exact .inl hz
     · exact .inr ((key i p hp hz).2.2 q hq)
   · simp;constructor
     · by_cases hz:a.part=0
       · exact hz
       · exact UB rfl (key 0 a ha hz).1
     · by_cases hz:b.part=0
       · exact hz
       · exact UB rfl (key _ b hb hz).2.1
 · rintro ⟨h1,h2⟩ i hi;simp at h2;unfold Wx
   cases hp:ps[i]? with
   |none=>rfl
   | some p=>
     by_cases hz:p.part=0
     · simp [hz]
     · (have e1:i≠0:=fun e=>by subst e;rw [ha] at hp;cases hp;exact hz h2.1);(have e2:i≠ps.length-1:=fun e=>by subst e;rw [hb] at hp;cases hp;exact hz h2.2);simp [hz,e1,e2]
       cases hq:ps[i+1]? with
       |none=>rfl
       |some q=>simpa using (h1 i p q hp hq).resolve_left hz
theorem ζB {parts:List (List ByteArray)}:∀(ws:List ByteArray) (ps:List Piece),ps≠[]→G0 parts ps ws≠[]
 |[],ps,h=>h
 | s ::ws,ps,h=>ζB ws _ (by
   unfold Yu;split
   · simp
   · split
     · intro e;exact h (by simpa using e)
     · simp)
theorem Cy {parts:List (List ByteArray)} {ps:List Piece} {s:ByteArray}:Yu parts ps s≠[]:=by
 unfold Yu
 split
 · simp
 · rename_i q hq;split
   · intro e;(have:ps=[]:=by simpa using e);subst this;simp at hq
   · simp
theorem Oq {parts:List (List ByteArray)} {ws:List ByteArray} (h:ws≠[]):JM parts ws=if WV (G0 parts [] ws) then some (G0 parts [] ws) else none:=by
 have hne:G0 parts [] ws≠[]:=by
  cases ws with
  |nil=>exact UB rfl h
  |cons s ws=>exact ζB ws _ Cy
 unfold JM
 rw [Uz h,Ga ws [] rfl,ZcE hne]
 cases h1:KN (G0 parts [] ws)
 · simp
 · simp
theorem Sy {parts:List (List ByteArray)} {ws:List ByteArray} {k:Nat} {s:ByteArray} (h:ws[k]? =some s):G0 parts [] (ws.take (k+1))=Yu parts (G0 parts [] (ws.take k)) s:=by
 unfold G0
 rw [Z7 h,List.foldl_append];rfl
theorem D2 {parts:List (List ByteArray)} {ps:List Piece} {s:ByteArray}:∃m w,Yu parts ps s=m++[⟨partOf parts s,w⟩]:=by
 unfold Yu
 split
 · exact ⟨[],_,rfl⟩
 · rename_i q hq;obtain ⟨m,rfl⟩:=Ts hq;split
   · rename_i h;rw [T3,h];exact ⟨m,_,rfl⟩
   · exact ⟨_,_,rfl⟩
def D3 (q:Piece):List PV:=[Zg q.part,ZQ q.word]
def RI (ps:List Piece):PV:= .sl ps.length (ps.flatMap D3)
def ZO (e:Nat) (q:Piece):List PV:=[Zg q.part, .own e 1 q.word.length (q.word.map ZS)]
theorem PH (q:Piece):(D3 q).length=2:=rfl
theorem Z' (e:Nat) (q:Piece):(ZO e q).length=2:=rfl
theorem Cz (l:List ByteArray):Yf (l.map ZS)=l.map ZS:=by
 rw [ZZ,Xs];rfl
theorem Tg (l m:List PV):Yf (l++m)=Yf l++Yf m:=by rw [ZZ,ZZ,ZZ,X1]
theorem Ti (e:Nat) (ps:List Piece):Yf (ps.flatMap (ZO e))=ps.flatMap D3:=by
 induction ps with
 |nil=>simp [Yf]
 | cons q ps ih=>
   rw [Xq,Xq,Tg,ih];congr 1;simp [ZO,D3,Yf,share,Cz,ZQ]
theorem Jg {α β:Type} {f:α→List β} {k:Nat} (hf:∀x,(f x).length=k):∀(l:List α) (i j:Nat) (x y:α) (b:β),l[i]? =some x→j<k→(f x).set j b=f y→(l.flatMap f).set (i*k+j) b=(l.set i y).flatMap f
 |[],i,j,x,y,b,h,_,_=>by simp at h
 | z::l,0,j,x,y,b,h,hj,he=>by
   simp at h;subst h;rw [Vr,Xy,Xq,List.set_append_left _ _ (by rw [hf];exact hj),he];rfl
 | z::l,i+1,j,x,y,b,h,hj,he=>by
   rw [Xq,Vh _ _ (by rw [hf,Vf];omega),hf,show (i+1)*k+j-k=i*k+j by rw [Vf];omega,Jg hf l i j x y b (by simpa using h) hj he];rfl
end Go.Cb
namespace Go.Proofs.YtmkojdfiadbeeaaGreat
open Go.RowKit Go.Cb Go.En Tryz
set_option linter.all false
set_option maxRecDepth 100000
theorem S8:AggT prog 114 2=true:=by kernel_rfl
theorem JY:ElT prog 110 114 2 32 (.agg #[(.int .i64 0),(.slice none 0 0)]):=⟨underlying110,by kernel_rfl,rfl,dC⟩
theorem WY:ElT prog 26 9 1 16 (.string ByteArray.empty):=⟨underlying26,by kernel_rfl,rfl,dC⟩
theorem KS:FldT prog 114 0 0=true:=by kernel_rfl
theorem Y1:FldT prog 114 1 1=true:=by kernel_rfl
theorem YW:MpT prog 78 9 3 .string (.int .i64 0):=⟨underlying78,underlying9, .inl rfl,by show ZeroT _ _ _;unfold ZeroT;kernel_rfl⟩
theorem Yv:NoAgg prog 26=true:=by kernel_rfl
theorem Ly:NoAgg prog 3=true:=by kernel_rfl
theorem YX:NoAgg prog 78=true:=by kernel_rfl
theorem Gu:NoAgg prog 9=true:=by kernel_rfl
theorem ZY:SlT prog 110 114 2=true:=by kernel_rfl
theorem Kg:SlT prog 26 9 1=true:=by kernel_rfl
theorem Tt:KY prog 114=some ((.agg #[(.int .i64 0),(.slice none 0 0)]),([0,1]:List Nat).map fun o=>(o,1)):=by kernel_rfl
theorem Gv:(prog.info? 26).map (·.size)=some 1:=by kernel_rfl
theorem PI:(prog.info? 3).map (·.size)=some 1:=by kernel_rfl
theorem CB:ZeroT prog 114 (.agg #[(.int .i64 0),(.slice none 0 0)]):=by unfold ZeroT;kernel_rfl
theorem G1 {es:List (ByteArray×Value)} {s:ByteArray} {n:Int} (h:YT es s=some (.int .i64 n)):(YP (skv es) (.string s)).getD (.int .i64 0)= .int .i64 n:=by rw [W4,h];rfl
theorem Za0 (parts:List (List ByteArray)) (ws:List ByteArray) (es:List (ByteArray×Value)) (s s0:ByteArray) (h0:ws[0]? =some s0) (hes:∀t∈ws,YT es t=some (.int .i64 (partOf parts t))) (hs:s∈ws):
 AF prog 111 [ZS s, .sptr 0 [.smap (skv es)], .sptr 0 [ZQ ws]] (· =Zo (partOf parts s !=partOf parts s0)):=by
 have hlen:0<ws.length:=by have:=Ze h0;omega
 have m1:=G1 (hes s hs)
 have m2:=G1 (hes s0 (Xb h0))
 have e1:(ws.map ZS)[(0:Int).toNat*1]? =some (ZS s0):=Yn h0
 refine AF.of_body 14 func111 rfl ntmps111 (Xa rfl) ?_
 intro w0 M0 vs hl hv
 obtain ⟨v0,v1,v2,rfl⟩:=RX hl
 obtain rfl:=hv 0 _ _ rfl rfl
 clear hl hv
 refine Zd ?_
 (refine xL 4 Zb ?_<;>refine Zc ?_)
 (refine ZR (fun i=>([]:List Nat).elem i) [] kR ?_<;>(refine yD 0 5 rfl (Zt YX) fun v5 h=>?_;cases h)<;>refine xD 1 6 rfl Za ?_<;>refine xD 2 7 rfl (WQ YW) ?_<;>(refine yD 3 8 rfl (Zt YX) fun v8 h=>?_;cases h)<;>(refine yE 4 9 rfl (Zt Yv) fun v9 h=>?_;cases h)<;>refine xE 5 10 rfl (Zn Kg) ?_<;>(refine yE 6 11 rfl (Zt Gu) fun v11 h=>?_;cases h)<;>refine xE 7 12 rfl (WQ YW) ?_<;>refine xE 8 13 rfl Y9 ?_<;>refine xE 9 4 rfl Zb ?_<;>refine YU kR (nav ?_)<;>try dsimp only)
 refine Zi (results111) rfl ?_
 congr 2
 by_cases h:partOf parts s=partOf parts s0<;>simp [h]
def Ze8 (x:Option (List Piece)) (p:PV):Prop:=match x with
 |none=>p= .tup [.val (.slice none 0 0),Zo false]
 |some ps=>p= .tup [RI ps,Zo true]
def JZ (parts:List (List ByteArray)) (ws:List ByteArray) (k:Nat):List Piece:=if k=0 then [⟨0,[]⟩] else G0 parts [] (ws.take k)
theorem Eh {parts:List (List ByteArray)}:∀(ws:List ByteArray) (ps:List Piece),(G0 parts ps ws).length≤ps.length+ws.length∧∀n,(∀p∈ps,p.word.length≤n)→∀p∈G0 parts ps ws,p.word.length≤n+ws.length
 |[],ps=>⟨by simp [G0],fun n h p hp=>by have:=h p hp;simpa using this⟩
 | s :: ws,ps=>by
   have hst:(Yu parts ps s).length≤ps.length+1∧∀n,(∀p∈ps,p.word.length≤n)→∀p∈Yu parts ps s,p.word.length≤n+1:=by
    unfold Yu;split
    · exact ⟨sM,fun n _ p hp=>by simp at hp;subst hp;simp⟩
    · rename_i q hq;split
      · refine ⟨sM,fun n h p hp=>?_⟩;rcases Vp hp with h1|h1
        · have:=h p h1;omega
        · rw [h1];have:=h q (Xb hq);simp;omega
      · refine ⟨sM,fun n h p hp=>?_⟩;rcases Xv.1 hp with h1|h1
        · have:=h p h1;omega
        · simp at h1;subst h1;simp
   obtain ⟨h1,h2⟩:=Eh (parts:=parts) ws (Yu parts ps s);have h3:=hst.1;refine ⟨by show (G0 parts (Yu parts ps s) ws).length≤_;rw [Xi];omega,fun n h p hp=>?_⟩;have:=h2 (n+1) (hst.2 n h) p hp;rw [Xi];omega
theorem Ei (parts:List (List ByteArray)) (ws:List ByteArray) (k:Nat) (hk:k≤ws.length):(JZ parts ws k).length≤k+1∧∀p∈JZ parts ws k,p.word.length≤k:=by
 unfold JZ
 split
 · exact ⟨sM,fun p hp=>by simp at hp;subst hp;simp⟩
 · obtain ⟨h1,h2⟩:=Eh (parts:=parts) (ws.take k) [];have hl:(ws.take k).length=k:=by simp;omega
   rw [hl] at h1 h2;exact ⟨by simp at h1;omega,fun p hp=>by have:=h2 0 sM p hp;omega⟩
theorem Za1 {parts:List (List ByteArray)} {ws:List ByteArray} {k:Nat} {y:ByteArray} (hk:0<k) (hy:ws[k-1]? =some y):∃m w,JZ parts ws k=m++[⟨partOf parts y,w⟩]:=by
 unfold JZ
 rw [Uz oM]
 have:=Sy (parts:=parts) hy
 rw [show k-1+1=k by omega] at this
 rw [this]
 exact D2
theorem Za2 {parts:List (List ByteArray)} {ws:List ByteArray} {k:Nat} {s:ByteArray} (hs:ws[k]? =some s) (hk:0<k):JZ parts ws (k+1)=Yu parts (JZ parts ws k) s:=by
 unfold JZ
 rw [Uz oM,Uz oM]
 exact Sy hs
theorem ZcF {parts:List (List ByteArray)} {ws:List ByteArray} {s:ByteArray} (hs:ws[0]? =some s):JZ parts ws 1=[⟨partOf parts s,[s]⟩]:=by
 unfold JZ
 rw [Uz oM,show (1:Nat)=0+1 from rfl,Sy hs]
 rfl
theorem Ze9 {α β:Type} {zs:List β} {n i:Nat} {p:β} (f:α→β) (h:(List.replicate n zs).flatten[i]? =some p):i / zs.length<n∧zs[i % zs.length]? =some p∧i=i / zs.length*zs.length+i % zs.length:=by
 have hi:=Ze h
 have hl:(List.replicate n zs).flatten.length=n*zs.length:=sM
 rw [hl] at hi
 have hz:0<zs.length:=by
  rcases Vx zs.length with h0|h0
  · rw [h0] at hi;omega
  · exact h0
 have hdiv:i / zs.length<n:=by rw [Ug hz];exact hi
 have hmod:i % zs.length<zs.length:=Nat.mod_lt _ hz
 have he:i=i / zs.length*zs.length+i % zs.length:=by rw [VJ];exact (VV _ _).symm
 refine ⟨hdiv,?_,he⟩
 have h2:=Wm (f:=fun _:Nat=>zs) (k:=zs.length) (fun _=>rfl) (l:=List.range n) (i:=i / zs.length) (x:=i / zs.length) (by simp [hdiv]) (j:=i % zs.length) hmod
 rw [←he,show (List.range n).flatMap (fun _=>zs)=(List.replicate n zs).flatten by rw [List.flatMap_def,List.map_const',VF],h] at h2
 exact h2.symm
theorem Za3 (n e:Nat):∀(i:Nat) (p p':PV),(List.replicate n (List.map PV.val [.int .i64 0, .slice none 0 0])).flatten[i]? =some p→((List.replicate n (⟨0,[]⟩:Piece)).flatMap (ZO e))[i]? =some p'→ζc p p':=fun i p p' h1 h2=>by
 obtain ⟨hd,hz,he⟩:=Ze9 (fun x:Nat=>p) h1
 simp only [Xc,Xi,Xr] at hd hz he
 have hm:i % 2<2:=Nat.mod_lt _ dC
 rw [show (0+1+1:Nat)=2 from rfl] at hd hz he
 have h3:=Wm (Z' e) (l:=List.replicate n (⟨0,[]⟩:Piece)) (i:=i / 2) (x:=⟨0,[]⟩) (by rw [List.getElem?_replicate,UA hd]) (j:=i % 2) hm
 rw [←he,h2] at h3
 generalize i % 2=r at hz h3 hm
 match r,hz,h3 with
 |0,hz,h3=>simp [ZO] at hz h3;exact .inl (h3.trans hz)
 |1,hz,h3=>simp [ZO] at hz h3;exact .inr ⟨hz.symm,_,_,h3⟩
 |r+2,_,_=>omega
set_option maxHeartbeats 1000000 in
theorem ZcG (c :Cut) (ws:List ByteArray) (es:List (ByteArray×Value)) (hes:∀t∈ws,YT es t=some (.int .i64 (partOf c.parts t))) (hin:∀t∈ws,0≤partOf c.parts t) (hlen:ws.length≤1000) (hn0:0<c.parts.length) (hn1:c.parts.length≤1000000) (hk1:1≤c.kind) (hk4:c.kind≤4):
 AF prog 66 [ZQ ws,Zg c.kind,Zg c.parts.length, .smap (skv es)] (Ze8 (Yq c ws)):=by
 refine AF.of_body 185 func66 rfl ntmps66 (Xa rfl) ?_
 intro w0 M0 vs hl hv
 obtain ⟨v0,v1,v2,v3,rfl⟩:=ZfY hl
 obtain rfl:=hv 1 _ _ rfl rfl
 obtain rfl:=hv 2 _ _ rfl rfl
 clear hl hv
 refine Zd ?_
 (refine Zce 4 fun h4=>?_<;>refine Zce 7 fun h7=>?_<;>refine xL 8 Zb (xL 9 Zb ?_)<;>refine Zh ?_)
 (refine xL 19 Za ?_<;>refine Zh ?_)
 (refine xL 21 YY (xL 20 Zb ?_)<;>refine Zc ?_)
 refine ZM rfl ?_ ?_
 · intro hb;have hk:c.kind=1:=UC hb;refine Zd ?_;((refine yL 22 (Zp 4 Yv) fun v22 h=>?_;cases h)<;>refine xL 23 (ZF Kg) (xL 24 YY (xL 25 Za ?_))<;>(refine bLd 25 (fun hb25=>?_) (fun hb25=>?_)<;>(first|refine kL 26 ?_|(refine yL 26 (Zp 4 Yv) fun v26 h=>?_;cases h)))<;>(first|refine kL 27 ?_|refine xL 27 JO ?_)<;>(first|refine kL 28 ?_|(have hcl:ws≠[]:=(fun e=>by subst e;exact hb25 rfl);refine (Zj (show 0<ws.length by cases ws with|nil=>exact UB rfl hcl|cons=>simp)).elim fun s0 hs0=>?_;refine TF 28 rfl rfl (Xa rfl) (Zb3 rfl (call27) (ps:=[ZQ ws, .fn 111 [.sptr 0 [.smap (skv es)], .sptr 0 [ZQ ws]]]) ⟨⟨_,_,rfl,Kw (x:= .tmp 26) rfl⟩,⟨_,_,rfl,Zat (l1:=7) (l2:=4) rfl rfl rfl rfl⟩,trivial⟩ (W0 111 _ (fun s=>partOf c.parts s !=partOf c.parts s0) ws (call111) (fun s hs=>Za0 c.parts ws es s s0 hs0 hes hs)) (fun p hp=>by rw [hp];rfl)) ?_;rintro p' rfl;refine ⟨rfl,?_⟩;intro v28 hv28;cases hv28))<;>refine xL 29 Zv ?_<;>refine Zc ?_)
   · have h0:ws=[]:=XC oM;refine ZM rfl ?_ (fun h=>by cases h);intro _;refine Zd ?_;(refine xL 8 Zb (xL 9 Zb ?_)<;>refine Zc ?_)
     refine Wp (results66) rfl rfl ?_;rw [h0,Rw hk];rfl
   · obtain ⟨l,rfl⟩:∃l,ws=s0::l:=by
      cases ws with
      |nil=>simp at hs0
      |cons a b=>simp at hs0;subst hs0;exact ⟨b,rfl⟩
     have hsp:=HM (l:=l) hk (hin s0 sM);refine ZM rfl ?_ ?_
     · intro hb3;refine Zd ?_;(refine xL 8 Zb (xL 9 Zb ?_)<;>refine Zc ?_)
       refine Wp (results66) rfl rfl ?_;rw [hsp,hb3];rfl
     · intro hb3;have m2:=G1 (hes s0 sM);have e1:((s0::l).map ZS)[(0:Int).toNat*1]? =some (ZS s0):=rfl;refine nav ?_;(refine ZR (fun i=>([]:List Nat).elem i) [4,7] kR ?_<;>(refine yD 0 30 rfl (Zp 7 YX) fun v30 h=>?_;cases h)<;>(refine yD 1 31 rfl (Zp 4 Yv) fun v31 h=>?_;cases h)<;>refine xD 2 32 rfl (Zn Kg) ?_<;>(refine yD 3 33 rfl (Zt Gu) fun v33 h=>?_;cases h)<;>refine xD 4 34 rfl (WQ YW) ?_<;>(refine yE 5 35 rfl (Zp 4 Yv) fun v35 h=>?_;cases h)<;>refine xE 6 36 rfl (Yt Tt) ?_<;>(refine Zy 7 kR ?_)<;>(refine ZA rfl fun w9 M9 N9 DQ back=>?_)<;>refine LQ 37 JY fun h37 ho37=>?_<;>refine Zr (back _ (nrm ?_))<;>refine xE 8 8 rfl Zb ?_<;>refine xE 9 9 rfl Zb ?_<;>refine YU kR (nav ?_)<;>try dsimp only)
       refine Y4 (En.freeze (l:=37) (t:=8) rfl rfl) fun _=>?_;refine Wp (results66) rfl rfl ?_;rw [hsp,hb3];rfl
 · intro hb;have hk:c.kind≠1:=UD hb;refine Zd ?_;(refine xL 39 YY (xL 38 Zb ?_)<;>refine Zc ?_)
   refine ZM rfl ?_ ?_
   · intro hb2;have hk':c.kind=4:=UC hb2;refine Zd ?_;(refine xL 40 (Yt Tt) ?_<;>refine LQ 41 JY fun h41 ho41=>?_<;>refine xL 10 Zb ?_<;>refine Zc ?_)
     refine Zz (TN (l:=41) ([⟨0,[]⟩].flatMap (ZO 9)) rfl rfl (fun i p p' h1 h2=>by
      match i with
      |0=>simp [ZO,Tj] at h1 h2;exact .inl (h2.symm.trans h1)
      |1=>simp [ZO,Tj] at h1 h2;exact .inr ⟨h1.symm,_,_,h2.symm⟩
      |i+2=>simp [ZO] at h2)) fun _=>?_
     (refine Zk ?_<;>(refine yL 42 (Zp 4 Yv) fun v42 h=>?_;cases h)<;>refine xL 43 (ZF Kg) (xL 44 Za ?_)<;>refine Zc ?_)
     refine Zw (ι:={x:Nat×Value//x.1≤ws.length∧x.2.oneCell'=true}) (fun x=>⟨[(4,ZH (Zs h4) 0, .val (ZH (Zs h4) 0)),(7,ZH (Zs h7) 0, .val (ZH (Zs h7) 0)),(10,x.1.2, .val x.1.2),(42,v42,ZQ ws),(43, .int .i64 ws.length,Zg ws.length),(44, .int .i64 x.1.1,Zg x.1.1)],[(4,h4, .own 26 1 1 [ZQ ws]),(7,h7, .own 78 1 1 [.smap (skv es)]),(41,x.1.2, .own 114 2 (JZ c.parts ws x.1.1).length ((JZ c.parts ws x.1.1).flatMap (ZO 9)))]⟩) (fun x=>ws.length-x.1.1) ⟨(0,h41),oM,ho41⟩ (fun a w H=>H.weaken ⟨rfl,rfl,rfl,rfl,rfl,rfl,trivial⟩ ⟨rfl,rfl,rfl,trivial⟩) ?_;rintro ⟨⟨k,h⟩,hk0,hho⟩;dsimp only at hk0 hho ⊢;refine Zd ?_;(refine xL 45 ZN ?_<;>refine Zc ?_)
     refine ZM rfl ?_ ?_
     · intro hb3;(have hlt:k<ws.length:=by have:=UC hb3;omega);obtain ⟨s,hs⟩:=Zj hlt;have e1:=Yn (f:=ZS) hs;have m1:=G1 (hes s (Xb hs));obtain ⟨hol,how⟩:=Ei c.parts ws k hk0;have hprev:0<k→∃y,ws[k-1]? =some y∧(ws.map ZS)[k-1]? =some (ZS y)∧(YP (skv es) (.string y)).getD (.int .i64 0)= .int .i64 (partOf c.parts y):=fun h0=>by
        obtain ⟨y,hy⟩:=Zj (show k-1<ws.length by omega);exact ⟨y,hy,by rw [Xl,hy];rfl,G1 (hes y (Xb hy))⟩
       refine Zd ?_;(refine xL 46 Za (xL 47 (Zn Kg) ?_)<;>(refine yL 48 (Zt Gu) fun v48 h=>?_;cases h)<;>refine xL 11 Zb (xL 12 Zb ?_)<;>refine Zc ?_)
       (refine ZR (fun i=>([]:List Nat).elem i) [4,7,41] kR ?_<;>refine xE 0 49 rfl Za ?_<;>refine xE 1 50 rfl YY ?_<;>refine xE 2 51 rfl Za ?_<;>(refine bDd 51 (fun hb51=>?_) (fun hb51=>?_)<;>(first|refine kD 3 52 rfl ?_|(refine yD 3 52 rfl (Zp 7 YX) fun v52 h=>?_;cases h)))<;>(first|refine kD 4 53 rfl ?_|refine xD 4 53 rfl Za ?_)<;>(first|refine kD 5 54 rfl ?_|refine xD 5 54 rfl (WQ YW) ?_)<;>(first|refine kD 6 55 rfl ?_|(refine yD 6 55 rfl (Zp 7 YX) fun v55 h=>?_;cases h))<;>(first|refine kD 7 56 rfl ?_|(refine yD 7 56 rfl (Zp 4 Yv) fun v56 h=>?_;cases h))<;>(first|refine kD 8 57 rfl ?_|refine xD 8 57 rfl Za ?_)<;>(first|refine kD 9 58 rfl ?_|refine xD 9 58 rfl KW ?_)<;>(first|refine kD 10 59 rfl ?_|refine xD 10 59 rfl (Tf Kg) ?_)<;>(first|refine kD 11 60 rfl ?_|(refine (hprev oM).elim fun y hy=>?_;refine Oi 11 60 rfl kR rfl rfl (Xa rfl) (Sb (k-1) Gu rfl rfl oM hy.2.1) ?_;intro v60 hv60;cases hv60;have m2:=hy.2.2))<;>(first|refine kD 12 61 rfl ?_|refine xD 12 61 rfl (WQ YW) ?_)<;>(first|refine kD 13 62 rfl ?_|refine xD 13 62 rfl Y9 ?_)<;>refine xE 14 63 rfl Zv ?_<;>refine YU kR (nav ?_)<;>try dsimp only)
       ·
        have hk00:k=0:=oM;have hs':ws[0]? =some s:=hk00▸hs;(have ho:JZ c.parts ws k=[⟨0,[]⟩]:=by rw [hk00];rfl);rw [ho];refine R2 (ι:={x:Value×List Piece×Piece//x.1.oneCell'=true∧JZ c.parts ws (k+1)=x.2.1++[⟨x.2.2.part,x.2.2.word++[s]⟩]∧x.2.1.length≤k+1∧x.2.2.word.length≤k}) (fun x=>⟨[(4,ZH (Zs h4) 0, .val (ZH (Zs h4) 0)),(7,ZH (Zs h7) 0, .val (ZH (Zs h7) 0)),(10,x.1.1, .val x.1.1),(12, .string s,ZS s),(42,v42,ZQ ws),(43, .int .i64 ws.length,Zg ws.length),(44, .int .i64 k,Zg k)],[(4,h4, .own 26 1 1 [ZQ ws]),(7,h7, .own 78 1 1 [.smap (skv es)]),(41,x.1.1, .own 114 2 (x.1.2.1.length+1) ((x.1.2.1++[x.1.2.2]).flatMap (ZO 9)))]⟩) ?_ ?_
        · refine ZM rfl ?_ (fun h=>by cases h);intro _;refine Zd ?_;(refine xL 64 Za (xL 65 Kj ?_)<;>refine Zc ?_)
          refine ZM rfl (fun h=>by have:=UC h;omega) ?_;intro _;refine Zd ?_;(refine xL 70 Za (xL 71 Za (xL 72 (Wj 41 ZY) (xL 73 KW ?_)))<;>(refine yL 74 (Zp 7 YX) fun v74 h=>?_;cases h)<;>refine xL 75 Za (xL 76 (WQ YW) (xL 77 (Z4 41 ZY) (xL 78 (Zm 41 KS) ?_)))<;>refine Kr 41 0 rfl rfl Ly PI rfl rfl rfl rfl rfl sM (by simp [ZO]) ?_<;>refine Zc ?_)
          exact T' ⟨(h,[],⟨partOf c.parts s,[]⟩),hho,by rw [hk00,ZcF hs'];rfl,sM,sM⟩ ⟨rfl,rfl,rfl,rfl,rfl,rfl,rfl,trivial⟩ ⟨rfl,rfl,rfl,trivial⟩
        · rintro ⟨⟨h9,m,q⟩,hh9,hout,hm1,hq1⟩;dsimp only at hh9 hout hm1 hq1 ⊢;have hqat:(m++[q])[m.length]? =some q:=sM;have hfl:=YC (Z' 9) (m++[q]);(have hfl2:((m++[q]).flatMap (ZO 9)).length=m.length*2+2:=by rw [hfl];simp;omega);have hcell:=Wm (Z' 9) hqat (j:=1) dC;refine Zz (focus (l:=41) (l':=500) (j:=m.length*2+1) rfl hcell rfl) fun v=>?_;have hc2:(((m++[q]).flatMap (ZO 9)).set (m.length*2+1) (.val v))[m.length*2+1]? =some (.val v):=Xp oM;refine Zd ?_;(refine xL 79 Za (xL 80 Za (xL 81 (Wj 41 ZY) (xL 82 KW (xL 83 Za (xL 84 Za (xL 85 (Wj 41 ZY) (xL 86 KW (xL 87 (R3 41 ZY) (xL 88 (Zm 41 Y1) ?_)))))))))<;>(refine Rq 89 rfl rfl (Xa rfl) (Y8 41 (m.length*2+1) Yv rfl rfl rfl oM hc2 rfl) ?_;intro v89 hv89;cases hv89)<;>refine xL 90 Za ?_<;>refine WF (kk:=1) 91 WY fun h91 ho91=>?_<;>refine Km 500 91 92 WY fun h92 ho92=>?_<;>refine xL 93 (R3 41 ZY) (xL 94 (Zm 41 Y1) ?_)<;>(refine Kr 41 (m.length*2+1) rfl rfl Yv Gv rfl rfl rfl (by assumption) rfl oM (by rw [Xj,hfl2];omega) ?_)<;>refine Zc ?_)
          have hc3:((((m++[q]).flatMap (ZO 9)).set (m.length*2+1) (.val v)).set (m.length*2+1) (.val h92))[m.length*2+1]? =some (.val h92):=Xp (by rw [Xj];omega);refine Zz (Jc (l:=41) (l':=92) (j:=m.length*2+1) rfl hc3 rfl rfl) fun _=>?_;have hcs:(((((m++[q]).flatMap (ZO 9)).set (m.length*2+1) (.val v)).set (m.length*2+1) (.val h92)).set (m.length*2+1) (.own 9 1 (q.word.length+1) (q.word.map ZS++[ZS s])))=(JZ c.parts ws (k+1)).flatMap (ZO 9):=by
           rw [XK,XK,hout,Jg (Z' 9) (m++[q]) m.length 1 q ⟨q.part,q.word++[s]⟩ _ hqat dC (by simp [ZO])];congr 1;rw [Vh _ _ (Xg _),Vc];rfl
          (refine Zk ?_<;>refine xL 95 ZB (xL 44 Za ?_)<;>refine Zc ?_)
          exact Zf ⟨(k+1,h9),by show k+1≤ws.length;omega,hh9⟩ (by show ws.length-(k+1)<ws.length-k;omega) ⟨rfl,rfl,rfl,rfl,rfl,rfl,trivial⟩ ⟨rfl,rfl,by show some _=some _;rw [hcs,hout];simp,trivial⟩
       · obtain ⟨m0,w0',hlast⟩:=Za1 (parts:=c.parts) (show 0<k by omega) hy.1;have hstep:=Za2 (parts:=c.parts) hs (show 0<k by omega);rw [hlast] at hol how hstep;have hgl:=ZcD m0 ⟨partOf c.parts y,w0'⟩;rw [hlast];have hol':(m0++[(⟨partOf c.parts y,w0'⟩:Piece)]).length=m0.length+1:=sM;refine R2 (ι:={x:Value×List Piece×Piece//x.1.oneCell'=true∧JZ c.parts ws (k+1)=x.2.1++[⟨x.2.2.part,x.2.2.word++[s]⟩]∧x.2.1.length≤k+1∧x.2.2.word.length≤k}) (fun x=>⟨[(4,ZH (Zs h4) 0, .val (ZH (Zs h4) 0)),(7,ZH (Zs h7) 0, .val (ZH (Zs h7) 0)),(10,x.1.1, .val x.1.1),(12, .string s,ZS s),(42,v42,ZQ ws),(43, .int .i64 ws.length,Zg ws.length),(44, .int .i64 k,Zg k)],[(4,h4, .own 26 1 1 [ZQ ws]),(7,h7, .own 78 1 1 [.smap (skv es)]),(41,x.1.1, .own 114 2 (x.1.2.1.length+1) ((x.1.2.1++[x.1.2.2]).flatMap (ZO 9)))]⟩) ?_ ?_
         · refine ZM rfl ?_ ?_
           · intro hb4;have hne:partOf c.parts s≠partOf c.parts y:=UC hb4;have hst2:JZ c.parts ws (k+1)=(m0++[(⟨partOf c.parts y,w0'⟩:Piece)])++[⟨partOf c.parts s,[]++[s]⟩]:=by
              rw [hstep];unfold Yu;rw [hgl];simp [Ne.symm hne]
             have hfl:=YC (Z' 9) (m0++[(⟨partOf c.parts y,w0'⟩:Piece)]);refine Zd ?_;(refine xL 64 Za (xL 65 Kj ?_)<;>refine Zc ?_)
             refine ZM rfl ?_ (fun h=>by have:=UD h;omega);intro _;refine Zd ?_;(refine xL 66 Za (xL 67 (Yt Tt) ?_)<;>refine LQ 68 JY fun h68 ho68=>?_<;>refine Km 41 68 69 JY fun h69 ho69=>?_<;>refine xL 10 Zb ?_<;>refine Zc ?_)
             refine Zz (TN (l:=69) (((m0++[(⟨partOf c.parts y,w0'⟩:Piece)]).flatMap (ZO 9))++[Zg 0, .own 9 1 0 []]) rfl (by simp [Tj]) (Zas _ _ _ _)) fun _=>?_;refine Zz (Yb (l:=69) 41 rfl rfl) fun _=>?_;(refine Zk ?_<;>refine xL 70 Za (xL 71 Za (xL 72 (Wj 41 ZY) (xL 73 KW ?_)))<;>(refine yL 74 (Zp 7 YX) fun v74 h=>?_;cases h)<;>refine xL 75 Za (xL 76 (WQ YW) (xL 77 (R3 41 ZY) (xL 78 (Zm 41 KS) ?_)))<;>(refine Kr 41 ((m0.length+1)*2) rfl rfl Ly PI rfl rfl rfl rfl rfl oM (by rw [Xe,hfl];simp) ?_)<;>refine Zc ?_)
             have hcs:((((m0++[(⟨partOf c.parts y,w0'⟩:Piece)]).flatMap (ZO 9))++[Zg 0, .own 9 1 0 []]).set ((m0.length+1)*2) (Zg (partOf c.parts s)))=((m0++[(⟨partOf c.parts y,w0'⟩:Piece)])++[(⟨partOf c.parts s,[]⟩:Piece)]).flatMap (ZO 9):=by
              rw [Vh _ _ (by rw [hfl,hol'];exact Xg _),hfl,hol',Vc];simp only [VQ];rfl
             exact T' ⟨(h69,m0++[⟨partOf c.parts y,w0'⟩],⟨partOf c.parts s,[]⟩),ho69,hst2,by show (m0++[(⟨partOf c.parts y,w0'⟩:Piece)]).length≤k+1;omega,sM⟩ ⟨rfl,rfl,rfl,rfl,rfl,rfl,rfl,trivial⟩ ⟨rfl,rfl,by show some _=some _;rw [hcs],trivial⟩
           · intro hb4;(have heq:partOf c.parts s=partOf c.parts y:=by have:=UD hb4;omega);have hst2:JZ c.parts ws (k+1)=m0++[⟨partOf c.parts y,w0'++[s]⟩]:=by
              rw [hstep];unfold Yu;rw [hgl];simp only [];rw [UA heq.symm,T3]
             refine nav ?_;exact T' ⟨(h,m0,⟨partOf c.parts y,w0'⟩),hho,hst2,by show m0.length≤k+1;omega,how _ sM⟩ ⟨rfl,rfl,rfl,rfl,rfl,rfl,rfl,trivial⟩ ⟨rfl,rfl,by show some _=some _;rw [hol'],trivial⟩
         · rintro ⟨⟨h9,m,q⟩,hh9,hout,hm1,hq1⟩;dsimp only at hh9 hout hm1 hq1 ⊢;have hqat:(m++[q])[m.length]? =some q:=sM;have hfl:=YC (Z' 9) (m++[q]);(have hfl2:((m++[q]).flatMap (ZO 9)).length=m.length*2+2:=by rw [hfl];simp;omega);have hcell:=Wm (Z' 9) hqat (j:=1) dC;refine Zz (focus (l:=41) (l':=500) (j:=m.length*2+1) rfl hcell rfl) fun v=>?_;have hc2:(((m++[q]).flatMap (ZO 9)).set (m.length*2+1) (.val v))[m.length*2+1]? =some (.val v):=Xp oM;refine Zd ?_;(refine xL 79 Za (xL 80 Za (xL 81 (Wj 41 ZY) (xL 82 KW (xL 83 Za (xL 84 Za (xL 85 (Wj 41 ZY) (xL 86 KW (xL 87 (R3 41 ZY) (xL 88 (Zm 41 Y1) ?_)))))))))<;>(refine Rq 89 rfl rfl (Xa rfl) (Y8 41 (m.length*2+1) Yv rfl rfl rfl oM hc2 rfl) ?_;intro v89 hv89;cases hv89)<;>refine xL 90 Za ?_<;>refine WF (kk:=1) 91 WY fun h91 ho91=>?_<;>refine Km 500 91 92 WY fun h92 ho92=>?_<;>refine xL 93 (R3 41 ZY) (xL 94 (Zm 41 Y1) ?_)<;>(refine Kr 41 (m.length*2+1) rfl rfl Yv Gv rfl rfl rfl (by assumption) rfl oM (by rw [Xj,hfl2];omega) ?_)<;>refine Zc ?_)
           have hc3:((((m++[q]).flatMap (ZO 9)).set (m.length*2+1) (.val v)).set (m.length*2+1) (.val h92))[m.length*2+1]? =some (.val h92):=Xp (by rw [Xj];omega);refine Zz (Jc (l:=41) (l':=92) (j:=m.length*2+1) rfl hc3 rfl rfl) fun _=>?_;have hcs:(((((m++[q]).flatMap (ZO 9)).set (m.length*2+1) (.val v)).set (m.length*2+1) (.val h92)).set (m.length*2+1) (.own 9 1 (q.word.length+1) (q.word.map ZS++[ZS s])))=(JZ c.parts ws (k+1)).flatMap (ZO 9):=by
            rw [XK,XK,hout,Jg (Z' 9) (m++[q]) m.length 1 q ⟨q.part,q.word++[s]⟩ _ hqat dC (by simp [ZO])];congr 1;rw [Vh _ _ (Xg _),Vc];rfl
           (refine Zk ?_<;>refine xL 95 ZB (xL 44 Za ?_)<;>refine Zc ?_)
           exact Zf ⟨(k+1,h9),by show k+1≤ws.length;omega,hh9⟩ (by show ws.length-(k+1)<ws.length-k;omega) ⟨rfl,rfl,rfl,rfl,rfl,rfl,trivial⟩ ⟨rfl,rfl,by show some _=some _;rw [hcs,hout];simp,trivial⟩
     · intro hb3;(have hge:k=ws.length:=by have:=UD hb3;omega);have hfin:Yq c ws=if WV (JZ c.parts ws k) then some (JZ c.parts ws k) else none:=by
        unfold Yq;rw [UA hk'];by_cases h0:ws=[]
        · (have:k=0:=by rw [hge,h0];rfl);rw [h0,this];rfl
        · have hk1':k≠0:=fun e=>h0 (XC oM);rw [Oq h0];unfold JZ;rw [Uz hk1',hge,XD]
       obtain ⟨hol,_⟩:=Ei c.parts ws k hk0;generalize JZ c.parts ws k=out at hfin hol ⊢;refine Zd ?_;(refine xL 96 Za (xL 97 (Wj 41 ZY) (xL 98 Za ?_))<;>refine Zc ?_)
       refine Zw (ι:={j:Nat//j≤out.length∧∀i,i<j→Wx out i=false}) (fun j=>⟨[(10,h, .val h),(96,h, .val h),(97, .int .i64 out.length,Zg out.length),(98, .int .i64 j.1,Zg j.1)],[(41,h, .own 114 2 out.length (out.flatMap (ZO 9)))]⟩) (fun j=>out.length-j.1) ⟨0,oM,oM⟩ (fun a w H=>H.weaken ⟨rfl,rfl,rfl,rfl,trivial⟩ ⟨rfl,trivial⟩) ?_;rintro ⟨j,hj,hprej⟩;dsimp only at hj hprej ⊢;refine Zd ?_;(refine xL 99 ZN ?_<;>refine Zc ?_)
       refine ZM rfl ?_ ?_
       · intro hb4;(have hltj:j<out.length:=by have:=UC hb4;omega);obtain ⟨q,hq⟩:=Zj hltj;have hcell:=Wm (Z' 9) hq (j:=1) dC;have hfl:=YC (Z' 9) out;have hfit:=YI (Z' 9) hq;refine Zz (Jj (l:=41) (l':=500) (j:=j*2+1) rfl hcell rfl rfl) fun v=>?_;obtain ⟨v,hv1⟩:=v;dsimp only;have hD:((((out.flatMap (ZO 9)).set (j*2+1) (.val v)).drop (j*2)).take 2)=[Zg q.part, .val v]:=by
          rw [List.drop_set,Uz oM,List.take_set,Yp (Z' 9) out j q hq,show j*2+1-j*2=1 by omega];rfl
         have hnext:j+1<out.length→∃q',out[j+1]? =some q'∧((out.flatMap (ZO 9)).set (j*2+1) (.val v))[(j+1)*2+0]? =some (Zg q'.part):=fun h1=>by
          obtain ⟨q',hq'⟩:=Zj h1;refine ⟨q',hq',?_⟩;rw [X0 oM,Wm (Z' 9) hq' (j:=0) dC];rfl
         refine Zd ?_;(refine xL 100 Za (xL 101 (Z4 41 ZY) ?_)<;>(refine yL 102 (YG 41 S8) fun v102 h=>?_;cases h)<;>refine ZV [(.int .i64 0),(.slice none 0 0)] 2 14 CB fun h14=>?_<;>refine xL 13 Zb ?_<;>refine YN 14 S8 ?_<;>refine Zh ?_)
         (refine xL 103 (Zm 14 KS) ?_<;>(refine yL 104 (Zp 14 Ly) fun v104 h=>?_;cases h)<;>refine xL 105 Y9 (xL 106 Za ?_)<;>(refine bLd 106 (fun hb106=>?_) (fun hb106=>?_)<;>(first|refine kL 107 ?_|refine xL 107 Za ?_))<;>(first|refine kL 108 ?_|refine xL 108 YY ?_)<;>(first|refine kL 109 ?_|refine xL 109 Za ?_)<;>(first|refine kL 110 ?_|(refine bLd 109 (fun hb109=>?_) (fun hb109=>?_)<;>(first|refine kL 110 ?_|refine xL 110 Za ?_)))<;>(first|refine kL 111 ?_|refine xL 111 Za ?_)<;>(first|refine kL 112 ?_|refine xL 112 (Wj 41 ZY) ?_)<;>(first|refine kL 113 ?_|refine xL 113 KW ?_)<;>(first|refine kL 114 ?_|refine xL 114 YY ?_)<;>(first|refine kL 115 ?_|refine xL 115 Zv ?_)<;>(first|refine kL 116 ?_|refine xL 116 Za ?_)<;>(first|refine kL 117 ?_|(refine bLd 116 (fun hb116=>?_) (fun hb116=>?_)<;>(first|refine kL 117 ?_|refine xL 117 Za ?_)))<;>(first|refine kL 118 ?_|refine xL 118 Za ?_)<;>(first|refine kL 119 ?_|refine xL 119 ZB ?_)<;>(first|refine kL 120 ?_|refine xL 120 (Z4 41 ZY) ?_)<;>(first|refine kL 121 ?_|refine xL 121 (Zm 41 KS) ?_)<;>(first|refine kL 122 ?_|(refine (hnext oM).elim fun q' hq'=>?_;refine Rq 122 rfl rfl (Xa rfl) (Y8 41 ((j+1)*2+0) Ly rfl rfl rfl (by first|rfl|omega) hq'.2 rfl) ?_;intro v122 hv122;cases hv122))<;>(first|refine kL 123 ?_|refine xL 123 Y9 ?_)<;>(first|refine kL 124 ?_|refine xL 124 Zv ?_)<;>refine xL 125 Zv ?_<;>refine Zc ?_)
         · have hj0:j=0:=oM;(have hbp:Wx out j=true:=by unfold Wx;rw [hq];simp [hb106,hj0]);have hbad:WV out=false:=by
            unfold WV;rw [VH];exact ⟨j,XJ.2 hltj,by rw [hbp];simp⟩
           refine ZM rfl ?_ (fun h=>by cases h);intro _;refine Zd ?_;(refine xL 8 Zb (xL 9 Zb ?_)<;>refine Zc ?_)
           refine Wp (results66) rfl rfl ?_;rw [hfin,hbad];rfl
         · have hj0:j=out.length-1:=oM;(have hbp:Wx out j=true:=by unfold Wx;rw [hq];simp [hb106,hj0]);have hbad:WV out=false:=by
            unfold WV;rw [VH];exact ⟨j,XJ.2 hltj,by rw [hbp];simp⟩
           refine ZM rfl ?_ (fun h=>by cases h);intro _;refine Zd ?_;(refine xL 8 Zb (xL 9 Zb ?_)<;>refine Zc ?_)
           refine Wp (results66) rfl rfl ?_;rw [hfin,hbad];rfl
         · refine ZM rfl ?_ ?_
           · intro hb5;have hb5:=UC hb5;(have hbp:Wx out j=true:=by unfold Wx;rw [hq];rw [hq'.1];simp [hb106,hb5]);have hbad:WV out=false:=by
              unfold WV;rw [VH];exact ⟨j,XJ.2 hltj,by rw [hbp];simp⟩
             refine Zd ?_;(refine xL 8 Zb (xL 9 Zb ?_)<;>refine Zc ?_)
             refine Wp (results66) rfl rfl ?_;rw [hfin,hbad];rfl
           · intro hb5;(have hb5:q'.part=0:=by have:=UD hb5;omega);have hja:j≠0:=oM;have hjb:j≠out.length-1:=oM;refine Zd ?_;(refine xL 126 ZB (xL 98 Za ?_)<;>refine Zc ?_)
             (have hbp:Wx out j=false:=by unfold Wx;rw [hq];rw [hq'.1];simp [hb5,hja,hjb]);refine Ys (Jc (l:=41) (l':=500) (j:=j*2+1) rfl (Xp oM) rfl rfl) fun _=>?_;have hcs:(((out.flatMap (ZO 9)).set (j*2+1) (.val v)).set (j*2+1) (.own 9 1 q.word.length (q.word.map ZS)))=out.flatMap (ZO 9):=by
              rw [XK];exact TT hcell
             refine Zf ⟨j+1,oM,fun i hi=>?_⟩ (by show out.length-(j+1)<out.length-j;omega) ⟨rfl,rfl,rfl,rfl,trivial⟩ ⟨by show some _=some _;rw [hcs],trivial⟩;by_cases e:i=j
             · subst e;exact hbp
             · exact hprej i oM
         · have hz:q.part=0:=oM;refine ZM rfl (fun h=>by cases h) ?_;intro _;refine Zd ?_;(refine xL 126 ZB (xL 98 Za ?_)<;>refine Zc ?_)
           (have hbp:Wx out j=false:=by unfold Wx;rw [hq];simp [hz]);refine Ys (Jc (l:=41) (l':=500) (j:=j*2+1) rfl (Xp oM) rfl rfl) fun _=>?_;have hcs:(((out.flatMap (ZO 9)).set (j*2+1) (.val v)).set (j*2+1) (.own 9 1 q.word.length (q.word.map ZS)))=out.flatMap (ZO 9):=by
            rw [XK];exact TT hcell
           refine Zf ⟨j+1,oM,fun i hi=>?_⟩ (by show out.length-(j+1)<out.length-j;omega) ⟨rfl,rfl,rfl,rfl,trivial⟩ ⟨by show some _=some _;rw [hcs],trivial⟩;by_cases e:i=j
           · subst e;exact hbp
           · exact hprej i oM
       · intro hb4;(have hgej:out.length≤j:=by have:=UD hb4;omega);have hgood:WV out=true:=by
          unfold WV;rw [Xf];intro i hi;rw [hprej i (by have:=XJ.1 hi;omega)];rfl
         refine Zd ?_;(refine xL 127 Za (xL 8 Zb (xL 9 Zb ?_))<;>refine Zc ?_)
         refine Y4 (En.freeze (l:=41) (t:=8) rfl rfl) fun _=>?_;refine Wp (results66) rfl rfl ?_;rw [hfin,hgood];show _=_;simp only [share,Ti];rfl
   · intro hb2;have hk':c.kind≠4:=UD hb2;refine Zd ?_;(refine xL 128 Za ?_<;>refine ZdP [(.int .i64 0),(.slice none 0 0)] 129 JY fun h129 ho129=>?_<;>refine xL 15 Zb ?_<;>refine Zc ?_)
     have hini:(List.replicate c.parts.length (⟨0,[]⟩:Piece))=Yo (YS c.parts.length):=(HN _).symm;refine Zz (TN (l:=129) ((List.replicate c.parts.length (⟨0,[]⟩:Piece)).flatMap (ZO 9)) rfl (by rw [YC (Z' 9)];simp) (Za3 _ _)) fun _=>?_;rw [hini];(refine Zk ?_<;>(refine yL 130 (Zp 4 Yv) fun v130 h=>?_;cases h)<;>refine xL 131 (ZF Kg) (xL 132 Za ?_)<;>refine Zc ?_)
     refine Zw (ι:={x:Nat×List Piece×Int//x.1≤ws.length∧Yw c.kind c.parts true 0 (YS c.parts.length) ws=Yw c.kind c.parts (decide (x.1=0)) x.2.2 x.2.1 (ws.drop x.1)∧InPlace x.2.1∧x.2.1.length=c.parts.length∧(∀p∈x.2.1,p.word.length≤x.1)∧(x.1=0→x.2.2=0)∧∀y,0<x.1→ws[x.1-1]? =some y→x.2.2=partOf c.parts y}) (fun x=>⟨[(1, .int .i64 c.kind,Zg c.kind),(4,ZH (Zs h4) 0, .val (ZH (Zs h4) 0)),(7,ZH (Zs h7) 0, .val (ZH (Zs h7) 0)),(15,h129, .val h129),(130,v130,ZQ ws),(131, .int .i64 ws.length,Zg ws.length),(132, .int .i64 x.1.1,Zg x.1.1)],[(4,h4, .own 26 1 1 [ZQ ws]),(7,h7, .own 78 1 1 [.smap (skv es)]),(129,h129, .own 114 2 c.parts.length ((Yo x.1.2.1).flatMap (ZO 9)))]⟩) (fun x=>ws.length-x.1.1) ⟨(0,YS c.parts.length,0),by show 0≤ws.length;omega,sM,DR _,GK _,fun p hp=>by rw [Hu hp];simp,fun _=>rfl,fun y h=>by simp at h⟩ (fun a w H=>H.weaken ⟨rfl,rfl,rfl,rfl,rfl,rfl,rfl,trivial⟩ ⟨rfl,rfl,rfl,trivial⟩) ?_;rintro ⟨⟨k,ps,last⟩,hk0,hgo,hin',hpl,hpw,hl0,hl1⟩;dsimp only at hk0 hgo hin' hpl hpw hl0 hl1 ⊢;refine Zd ?_;(refine xL 133 ZN ?_<;>refine Zc ?_)
     refine ZM rfl ?_ ?_
     · intro hb3;(have hlt:k<ws.length:=by have:=UC hb3;omega);obtain ⟨s,hs⟩:=Zj hlt;have hsm:=Xb hs;have e1:=Yn (f:=ZS) hs;have m1:=G1 (hes s hsm);have hge0:=hin s hsm;obtain ⟨i,hi⟩:∃i:Nat,partOf c.parts s=i:=⟨(partOf c.parts s).toNat,oM⟩;(have hilt:i<c.parts.length:=by have:=Sa c.parts s;omega);have hprev:0<k→∃y,ws[k-1]? =some y∧(ws.map ZS)[k-1]? =some (ZS y)∧(YP (skv es) (.string y)).getD (.int .i64 0)= .int .i64 (partOf c.parts y):=fun h0=>by
        obtain ⟨y,hy⟩:=Zj (show k-1<ws.length by omega);exact ⟨y,hy,by rw [Xl,hy];rfl,G1 (hes y (Xb hy))⟩
       have hgo2:Yw c.kind c.parts (decide (k=0)) last ps (ws.drop k)=if KC c.kind (decide (k=0)) (partOf c.parts s) last then none else Yw c.kind c.parts false (partOf c.parts s) (Wg ps (partOf c.parts s).toNat s) (ws.drop (k+1)):=by
        rw [YZ hs,Yw]
       (have hk1n:(c.kind==1)=false:=by simpa using hk);rw [hi] at m1;obtain ⟨q,hq⟩:=Zj (show i<ps.length by omega);have hqn:=Sl hq;have hcell:=Wm (Z' 9) hqn (j:=1) dC;have hfl:=YC (Z' 9) (Yo ps);rw [To] at hfl;have hqw:q.word.length≤k:=hpw q (Xb hq);refine Zd ?_;(refine xL 134 Za (xL 135 (Zn Kg) ?_)<;>(refine yL 136 (Zt Gu) fun v136 h=>?_;cases h)<;>refine xL 16 Zb (xL 17 Zb ?_)<;>refine Zc ?_)
       (refine ZR (fun i=>([]:List Nat).elem i) [4,7,129] kR ?_<;>refine xE 0 137 rfl Za ?_<;>refine xE 1 138 rfl YY ?_<;>refine xE 2 139 rfl Za ?_<;>(refine bDd 139 (fun hb139=>?_) (fun hb139=>?_)<;>(first|refine kD 3 140 rfl ?_|refine xD 3 140 rfl Za ?_))<;>(first|refine kD 4 141 rfl ?_|refine xD 4 141 rfl Kj ?_)<;>refine xE 5 142 rfl Zv ?_<;>refine xE 6 143 rfl Za ?_<;>(first|refine kD 7 144 rfl ?_|(refine bDd 143 (fun hb143=>?_) (fun hb143=>?_)<;>(first|refine kD 7 144 rfl ?_|(refine yD 7 144 rfl (Zp 7 YX) fun v144 h=>?_;cases h))))<;>(first|refine kD 8 145 rfl ?_|refine xD 8 145 rfl Za ?_)<;>(first|refine kD 9 146 rfl ?_|refine xD 9 146 rfl (WQ YW) ?_)<;>(first|refine kD 10 147 rfl ?_|(refine yD 10 147 rfl (Zp 7 YX) fun v147 h=>?_;cases h))<;>(first|refine kD 11 148 rfl ?_|(refine yD 11 148 rfl (Zp 4 Yv) fun v148 h=>?_;cases h))<;>(first|refine kD 12 149 rfl ?_|refine xD 12 149 rfl Za ?_)<;>(first|refine kD 13 150 rfl ?_|refine xD 13 150 rfl KW ?_)<;>(first|refine kD 14 151 rfl ?_|refine xD 14 151 rfl (Tf Kg) ?_)<;>(first|refine kD 15 152 rfl ?_|(refine (hprev oM).elim fun y hy=>?_;refine Oi 15 152 rfl kR rfl rfl (Xa rfl) (Sb (k-1) Gu rfl rfl oM hy.2.1) ?_;intro v152 hv152;cases hv152;have m2:=hy.2.2))<;>(first|refine kD 16 153 rfl ?_|refine xD 16 153 rfl (WQ YW) ?_)<;>(first|refine kD 17 154 rfl ?_|refine xD 17 154 rfl ZN ?_)<;>refine xE 18 155 rfl Zv ?_<;>refine YU kR (nav ?_)<;>try dsimp only)
       ·
        have hlast:last=partOf c.parts y:=hl1 y oM hy.1;refine ZM rfl ?_ ?_
        · intro hb4;have hb4:=UC hb4;have hno:Yq c ws=none:=by
           unfold Yq;rw [Uz hk',hgo,hgo2];have:KC c.kind (decide (k=0)) (partOf c.parts s) last=true:=by
            unfold KC;rw [hi,hlast,hb139];simp [hb4]
           rw [this];rfl
          refine Zd ?_;(refine xL 8 Zb (xL 9 Zb ?_)<;>refine Zc ?_)
          refine Wp (results66) rfl rfl ?_;rw [hno];rfl
        · intro hb4;have hb4:=UD hb4;have hnb:KC c.kind (decide (k=0)) (partOf c.parts s) last=false:=by
           unfold KC;rw [hk1n,hi,hlast];simp;intro _;omega
          refine nav ?_;refine Zz (Jj (l:=129) (l':=500) (j:=i*2+1) rfl hcell rfl rfl) fun v=>?_;obtain ⟨v,hv1⟩:=v;dsimp only;have hc2:(((Yo ps).flatMap (ZO 9)).set (i*2+1) (.val v))[i*2+1]? =some (.val v):=Xp oM;(refine ZR (fun i=>([16]:List Nat).elem i) [4,7,129] kR ?_<;>refine xD 0 156 rfl Za ?_<;>(refine yD 1 157 rfl (Zp 7 YX) fun v157 h=>?_;cases h)<;>refine xD 2 158 rfl Za ?_<;>refine xD 3 159 rfl (WQ YW) ?_<;>refine xD 4 160 rfl Za ?_<;>(refine yD 5 161 rfl (Zp 7 YX) fun v161 h=>?_;cases h)<;>refine xD 6 162 rfl Za ?_<;>refine xD 7 163 rfl (WQ YW) ?_<;>refine xD 8 164 rfl (Z4 129 ZY) ?_<;>refine xD 9 165 rfl (Zm 129 Y1) ?_<;>(refine Oi 10 166 rfl kR rfl rfl (Xa rfl) (Y8 129 (i*2+1) Yv rfl rfl rfl (by first|rfl|omega) hc2 rfl) ?_;intro v166 hv166;cases hv166)<;>refine xE 11 167 rfl Za ?_<;>(refine Zy 12 kR ?_)<;>(refine ZA rfl fun w9 M9 N9 DQ back=>?_)<;>refine WF (kk:=1) 168 WY fun h168 ho168=>?_<;>refine Zr (back _ (nrm ?_))<;>(refine Zy 13 kR ?_)<;>(refine ZA rfl fun w9 M9 N9 DQ back=>?_)<;>refine Km 500 168 169 WY fun h169 ho169=>?_<;>refine Zr (back _ (nrm ?_))<;>refine xE 14 170 rfl (Z4 129 ZY) ?_<;>refine xE 15 171 rfl (Zm 129 Y1) ?_<;>(refine Zy 16 kR ?_)<;>(refine WP rfl rfl kR fun DQ back=>?_)<;>(refine Kr 129 (i*2+1) rfl rfl Yv Gv rfl rfl rfl (by assumption) rfl (by first|rfl|omega) (by rw [Xj,hfl];omega) ?_)<;>refine Zr (back _ (nav ?_))<;>try dsimp only)
          have hc3:((((Yo ps).flatMap (ZO 9)).set (i*2+1) (.val v)).set (i*2+1) (.val h169))[i*2+1]? =some (.val h169):=Xp (by rw [Xj];omega);refine Zz (Jc (l:=129) (l':=169) (j:=i*2+1) rfl hc3 rfl rfl) fun _=>?_;have hcs:((((Yo ps).flatMap (ZO 9)).set (i*2+1) (.val v)).set (i*2+1) (.val h169)).set (i*2+1) (.own 9 1 (q.word.length+1) (q.word.map ZS++[ZS s]))=(Yo (Wg ps i s)).flatMap (ZO 9):=by
           rw [XK,XK,Jg (Z' 9) (Yo ps) i 1 ⟨0,q.word⟩ ⟨0,q.word++[s]⟩ _ hqn dC (by simp [ZO]),Tp s hq]
          (refine Zk ?_<;>refine xL 172 ZB (xL 132 Za ?_)<;>refine Zc ?_)
          refine Zf ⟨(k+1,Wg ps i s,(i:Int)),by show k+1≤ws.length;omega,?_,hin'.add i s,by show (Wg ps i s).length=_;rw [LP];exact hpl,?_,fun h=>by simp at h,fun y _ hy=>?_⟩ (by show ws.length-(k+1)<ws.length-k;omega) ⟨rfl,rfl,rfl,rfl,rfl,rfl,rfl,trivial⟩ ⟨rfl,rfl,by show some _=some _;rw [hcs],trivial⟩
          · show _=Yw c.kind c.parts (decide (k+1=0)) (i:Int) (Wg ps i s) (ws.drop (k+1));rw [hgo,hgo2,hnb,hi,Xt,show decide (k+1=0)=false by simp];rfl
          · intro p hp;show p.word.length≤k+1;change p∈Wg ps i s at hp
            rw [KZ hq] at hp;rcases Vp hp with h1|h1
            · have:=hpw p h1;omega
            · rw [h1];simp;omega
          · have:y=s:=by
             have h1:ws[k+1-1]? =some y:=hy;rw [VZ,hs] at h1;cases h1;rfl
            rw [this];exact hi.symm
       · have hnb:KC c.kind (decide (k=0)) (partOf c.parts s) last=false:=by
          unfold KC;rw [hk1n,hi,hl0 oM];simp
         refine ZM rfl (fun h=>by cases h) ?_;intro _;refine nav ?_;refine Zz (Jj (l:=129) (l':=500) (j:=i*2+1) rfl hcell rfl rfl) fun v=>?_;obtain ⟨v,hv1⟩:=v;dsimp only;have hc2:(((Yo ps).flatMap (ZO 9)).set (i*2+1) (.val v))[i*2+1]? =some (.val v):=Xp oM;(refine ZR (fun i=>([16]:List Nat).elem i) [4,7,129] kR ?_<;>refine xD 0 156 rfl Za ?_<;>(refine yD 1 157 rfl (Zp 7 YX) fun v157 h=>?_;cases h)<;>refine xD 2 158 rfl Za ?_<;>refine xD 3 159 rfl (WQ YW) ?_<;>refine xD 4 160 rfl Za ?_<;>(refine yD 5 161 rfl (Zp 7 YX) fun v161 h=>?_;cases h)<;>refine xD 6 162 rfl Za ?_<;>refine xD 7 163 rfl (WQ YW) ?_<;>refine xD 8 164 rfl (Z4 129 ZY) ?_<;>refine xD 9 165 rfl (Zm 129 Y1) ?_<;>(refine Oi 10 166 rfl kR rfl rfl (Xa rfl) (Y8 129 (i*2+1) Yv rfl rfl rfl (by first|rfl|omega) hc2 rfl) ?_;intro v166 hv166;cases hv166)<;>refine xE 11 167 rfl Za ?_<;>(refine Zy 12 kR ?_)<;>(refine ZA rfl fun w9 M9 N9 DQ back=>?_)<;>refine WF (kk:=1) 168 WY fun h168 ho168=>?_<;>refine Zr (back _ (nrm ?_))<;>(refine Zy 13 kR ?_)<;>(refine ZA rfl fun w9 M9 N9 DQ back=>?_)<;>refine Km 500 168 169 WY fun h169 ho169=>?_<;>refine Zr (back _ (nrm ?_))<;>refine xE 14 170 rfl (Z4 129 ZY) ?_<;>refine xE 15 171 rfl (Zm 129 Y1) ?_<;>(refine Zy 16 kR ?_)<;>(refine WP rfl rfl kR fun DQ back=>?_)<;>(refine Kr 129 (i*2+1) rfl rfl Yv Gv rfl rfl rfl (by assumption) rfl (by first|rfl|omega) (by rw [Xj,hfl];omega) ?_)<;>refine Zr (back _ (nav ?_))<;>try dsimp only)
         have hc3:((((Yo ps).flatMap (ZO 9)).set (i*2+1) (.val v)).set (i*2+1) (.val h169))[i*2+1]? =some (.val h169):=Xp (by rw [Xj];omega);refine Zz (Jc (l:=129) (l':=169) (j:=i*2+1) rfl hc3 rfl rfl) fun _=>?_;have hcs:((((Yo ps).flatMap (ZO 9)).set (i*2+1) (.val v)).set (i*2+1) (.val h169)).set (i*2+1) (.own 9 1 (q.word.length+1) (q.word.map ZS++[ZS s]))=(Yo (Wg ps i s)).flatMap (ZO 9):=by
          rw [XK,XK,Jg (Z' 9) (Yo ps) i 1 ⟨0,q.word⟩ ⟨0,q.word++[s]⟩ _ hqn dC (by simp [ZO]),Tp s hq]
         (refine Zk ?_<;>refine xL 172 ZB (xL 132 Za ?_)<;>refine Zc ?_)
         refine Zf ⟨(k+1,Wg ps i s,(i:Int)),by show k+1≤ws.length;omega,?_,hin'.add i s,by show (Wg ps i s).length=_;rw [LP];exact hpl,?_,fun h=>by simp at h,fun y _ hy=>?_⟩ (by show ws.length-(k+1)<ws.length-k;omega) ⟨rfl,rfl,rfl,rfl,rfl,rfl,rfl,trivial⟩ ⟨rfl,rfl,by show some _=some _;rw [hcs],trivial⟩
         · show _=Yw c.kind c.parts (decide (k+1=0)) (i:Int) (Wg ps i s) (ws.drop (k+1));rw [hgo,hgo2,hnb,hi,Xt,show decide (k+1=0)=false by simp];rfl
         · intro p hp;show p.word.length≤k+1;change p∈Wg ps i s at hp
           rw [KZ hq] at hp;rcases Vp hp with h1|h1
           · have:=hpw p h1;omega
           · rw [h1];simp;omega
         · have:y=s:=by
            have h1:ws[k+1-1]? =some y:=hy;rw [VZ,hs] at h1;cases h1;rfl
           rw [this];exact hi.symm
       · have hnb:KC c.kind (decide (k=0)) (partOf c.parts s) last=false:=by
          unfold KC;rw [hk1n];simp [hb139]
         refine ZM rfl (fun h=>by cases h) ?_;intro _;refine nav ?_;refine Zz (Jj (l:=129) (l':=500) (j:=i*2+1) rfl hcell rfl rfl) fun v=>?_;obtain ⟨v,hv1⟩:=v;dsimp only;have hc2:(((Yo ps).flatMap (ZO 9)).set (i*2+1) (.val v))[i*2+1]? =some (.val v):=Xp oM;(refine ZR (fun i=>([16]:List Nat).elem i) [4,7,129] kR ?_<;>refine xD 0 156 rfl Za ?_<;>(refine yD 1 157 rfl (Zp 7 YX) fun v157 h=>?_;cases h)<;>refine xD 2 158 rfl Za ?_<;>refine xD 3 159 rfl (WQ YW) ?_<;>refine xD 4 160 rfl Za ?_<;>(refine yD 5 161 rfl (Zp 7 YX) fun v161 h=>?_;cases h)<;>refine xD 6 162 rfl Za ?_<;>refine xD 7 163 rfl (WQ YW) ?_<;>refine xD 8 164 rfl (Z4 129 ZY) ?_<;>refine xD 9 165 rfl (Zm 129 Y1) ?_<;>(refine Oi 10 166 rfl kR rfl rfl (Xa rfl) (Y8 129 (i*2+1) Yv rfl rfl rfl (by first|rfl|omega) hc2 rfl) ?_;intro v166 hv166;cases hv166)<;>refine xE 11 167 rfl Za ?_<;>(refine Zy 12 kR ?_)<;>(refine ZA rfl fun w9 M9 N9 DQ back=>?_)<;>refine WF (kk:=1) 168 WY fun h168 ho168=>?_<;>refine Zr (back _ (nrm ?_))<;>(refine Zy 13 kR ?_)<;>(refine ZA rfl fun w9 M9 N9 DQ back=>?_)<;>refine Km 500 168 169 WY fun h169 ho169=>?_<;>refine Zr (back _ (nrm ?_))<;>refine xE 14 170 rfl (Z4 129 ZY) ?_<;>refine xE 15 171 rfl (Zm 129 Y1) ?_<;>(refine Zy 16 kR ?_)<;>(refine WP rfl rfl kR fun DQ back=>?_)<;>(refine Kr 129 (i*2+1) rfl rfl Yv Gv rfl rfl rfl (by assumption) rfl (by first|rfl|omega) (by rw [Xj,hfl];omega) ?_)<;>refine Zr (back _ (nav ?_))<;>try dsimp only)
         have hc3:((((Yo ps).flatMap (ZO 9)).set (i*2+1) (.val v)).set (i*2+1) (.val h169))[i*2+1]? =some (.val h169):=Xp (by rw [Xj];omega);refine Zz (Jc (l:=129) (l':=169) (j:=i*2+1) rfl hc3 rfl rfl) fun _=>?_;have hcs:((((Yo ps).flatMap (ZO 9)).set (i*2+1) (.val v)).set (i*2+1) (.val h169)).set (i*2+1) (.own 9 1 (q.word.length+1) (q.word.map ZS++[ZS s]))=(Yo (Wg ps i s)).flatMap (ZO 9):=by
          rw [XK,XK,Jg (Z' 9) (Yo ps) i 1 ⟨0,q.word⟩ ⟨0,q.word++[s]⟩ _ hqn dC (by simp [ZO]),Tp s hq]
         (refine Zk ?_<;>refine xL 172 ZB (xL 132 Za ?_)<;>refine Zc ?_)
         refine Zf ⟨(k+1,Wg ps i s,(i:Int)),by show k+1≤ws.length;omega,?_,hin'.add i s,by show (Wg ps i s).length=_;rw [LP];exact hpl,?_,fun h=>by simp at h,fun y _ hy=>?_⟩ (by show ws.length-(k+1)<ws.length-k;omega) ⟨rfl,rfl,rfl,rfl,rfl,rfl,rfl,trivial⟩ ⟨rfl,rfl,by show some _=some _;rw [hcs],trivial⟩
         · show _=Yw c.kind c.parts (decide (k+1=0)) (i:Int) (Wg ps i s) (ws.drop (k+1));rw [hgo,hgo2,hnb,hi,Xt,show decide (k+1=0)=false by simp];rfl
         · intro p hp;show p.word.length≤k+1;change p∈Wg ps i s at hp
           rw [KZ hq] at hp;rcases Vp hp with h1|h1
           · have:=hpw p h1;omega
           · rw [h1];simp;omega
         · have:y=s:=by
            have h1:ws[k+1-1]? =some y:=hy;rw [VZ,hs] at h1;cases h1;rfl
           rw [this];exact hi.symm
     · intro hb3;(have hge:ws.length≤k:=by have:=UD hb3;omega);have hfin:Yq c ws=some ps:=by
        unfold Yq;rw [Uz hk',hgo,XI hge,Yw];simp only [];rw [Uz hk]
       refine Zd ?_;(refine xL 173 Za (xL 174 (Wj 129 ZY) (xL 175 Za ?_))<;>refine Zc ?_)
       refine Zw (ι:={j:Nat//j≤ps.length}) (fun j=>⟨[(15,h129, .val h129),(174, .int .i64 c.parts.length,Zg c.parts.length),(175, .int .i64 j.1,Zg j.1)],[(129,h129, .own 114 2 c.parts.length ((ps.take j.1++(Yo ps).drop j.1).flatMap (ZO 9)))]⟩) (fun j=>ps.length-j.1) ⟨0,oM⟩ (fun a w H=>H.weaken ⟨rfl,rfl,rfl,trivial⟩ ⟨rfl,trivial⟩) ?_;rintro ⟨j,hj⟩;dsimp only at hj ⊢;refine Zd ?_;(refine xL 176 ZN ?_<;>refine Zc ?_)
       refine ZM rfl ?_ ?_
       · intro hb4;(have hltj:j<ps.length:=by have:=UC hb4;omega);obtain ⟨q,hq⟩:=Zj hltj;have hat:=ZdT hq;have hfl:=YC (Z' 9) (ps.take j++(Yo ps).drop j);rw [Zcn ps j hj] at hfl;have hcs:(((ps.take j++(Yo ps).drop j).flatMap (ZO 9)).set (j*2+0) (Zg (j:Int)))=(ps.take (j+1)++(Yo ps).drop (j+1)).flatMap (ZO 9):=by
          rw [Jg (Z' 9) _ j 0 ⟨0,q.word⟩ ⟨(j:Int),q.word⟩ (Zg (j:Int)) hat dC rfl,Zaz hin' hq]
         refine Zd ?_;(refine xL 177 Za (xL 18 Zb ?_)<;>refine Zh ?_)
         (refine xL 178 Za (xL 179 Za (xL 180 Za (xL 181 (Z4 129 ZY) (xL 182 (Zm 129 KS) ?_))))<;>(refine Kr 129 (j*2+0) rfl rfl Ly PI rfl rfl rfl rfl rfl (by first|rfl|omega) (by rw [hfl];omega) ?_)<;>refine Zh ?_)
         (refine xL 183 ZB (xL 175 Za ?_)<;>refine Zc ?_)
         exact Zf ⟨j+1,oM⟩ (by show ps.length-(j+1)<ps.length-j;omega) ⟨rfl,rfl,rfl,trivial⟩ ⟨by show some _=some _;rw [hcs],trivial⟩
       · intro hb4;(have hgej:ps.length≤j:=by have:=UD hb4;omega);have hall:ps.take j++(Yo ps).drop j=ps:=by
          rw [XV hgej,XI (by rw [To];exact hgej),Xu]
         refine Zd ?_;(refine xL 184 Za (xL 8 Zb (xL 9 Zb ?_))<;>refine Zc ?_)
         refine Y4 (En.freeze (l:=129) (t:=8) rfl rfl) fun _=>?_;refine Wp (results66) rfl rfl ?_;rw [hfin,hall];show _=_;simp only [share,Ti,←hpl];rfl
open Go.RowKit Go.Cb
set_option maxHeartbeats 400000 in
theorem Za4 (s:ByteArray) (w:World):Calls prog 198 #[.string s] w fun e w'=>e= .returned (.bool false)∧w=w':=by
 go_enter func198,ntmps198
 go_wp2
 go_ret
 exact ⟨sM,rfl⟩
set_option maxHeartbeats 400000 in
theorem ζC (a b:ByteArray) (w:World):Calls prog 137 #[.string a, .string b] w fun e w'=>e= .returned (.int .i64 (Ya a b))∧w=w':=by
 cases h1:Op.bytesLess a.toList b.toList<;>cases h2:(a.toList==b.toList)
 all_goals
  have H1:=Lib.hid h1;have H2:=Lib.hid h2;go_enter func137,ntmps137
  go_wp2_with (go_at_call 198;refine (Za4 _ _).mono ?_;rintro e w' ⟨rfl,rfl⟩)
  go_ret
  refine ⟨LL ?_,rfl⟩;simp [Ya,strLt,WA,H1.out,H2.out]
set_option maxHeartbeats 1000000 in
theorem D4 (l m:List ByteArray) (v u:Value) (w:World) {M:Mut} (hl:Strs M w v l) (hm:Strs M w u m):
 Calls prog 99 #[v,u] w fun e w'=>e= .returned (.int .i64 (cmpStrs l m))∧w=w':=by
 have hlen:=hl.len
 have hmen:=hm.len
 rcases hl.cases with ⟨a1,c1,rfl,rfl,hc1⟩|⟨b1,off1,c1,rfl,hlc1,hc1,h01,hE1⟩
 · obtain ⟨a2,c2,rfl,hm1,hm2,hm3⟩:=hm;clear hm3 hl
   cases m with
   | nil=>
     go_enter func99,ntmps99
     go_wp2_with fail
     go_rounds 1
     go_ret
     exact ⟨rfl,rfl⟩
   | cons y m=>
     simp only [Xi] at*;go_enter func99,ntmps99
     go_wp2_with fail
     go_rounds 1
     go_ret
     exact ⟨rfl,rfl⟩
 · have HE1 :=Lib.hid hE1;clear hE1 hl;rcases hm.cases with ⟨a2,c2,rfl,rfl,hc2⟩|⟨b2,off2,c2,rfl,hlc2,hc2,h02,hE2⟩
   · clear hm;obtain ⟨x,hx⟩:=Zj h01;(have hcell:w.cell? ⟨b1,off1,none⟩=some (.string x):=by have:=(HE1.out 0 x hx).1.1;simpa using this);have HX:=Lib.hid hx;clear hx;go_enter func99,ntmps99
     go_wp2_with fail
     go_rounds 1
     go_ret
     refine ⟨LL ?_,rfl⟩
     cases l with
     |nil=>simp at h01
     |cons y l=>simp [cmpStrs]
   · have HE2 :=Lib.hid hE2;clear hE2 hm;go_enter func99,ntmps99
     go_wp2_with fail
     go_loop [11] (fun i=>∃k:Nat,k≤l.length∧k≤m.length∧i= .int .i64 k∧Hid (cmpStrs l m=cmpStrs (l.drop k) (m.drop k))) (fun i=>l.length-(intOf i).toNat)
     case atStart=>exact ⟨0,oM,oM,rfl,rfl⟩
     case round=>
      obtain ⟨k,hk,hk2,rfl,hpre⟩:=hrel;by_cases hlt:k<l.length
      · obtain ⟨x,hx⟩:=Zj hlt;have hcx:=(HE1.out k x hx).1.1;rw [XL] at hcx;have HX:=Lib.hid hx;clear hx;by_cases hlt2:k<m.length
        · obtain ⟨y,hy⟩:=Zj hlt2;have hcy:=(HE2.out k y hy).1.1;rw [XL] at hcy;have HY:=Lib.hid hy;clear hy;by_cases h0:Ya x y=0
          · have H0:=Lib.hid h0;clear h0;go_wp2_with (go_at_call 137;refine (ζC _ _ _).mono ?_;rintro e w' ⟨rfl,rfl⟩;rw [H0.out])
            go_round
            case rel=>
             refine ⟨k+1,oM,oM,by go_num,?_⟩;show cmpStrs l m=_;rw [hpre.out,YZ HX.out,YZ HY.out,cmpStrs,UA H0.out]
            case measure=>simp [intOf];omega
          · (have hb:(Ya x y !=0)=true:=by simpa using h0);have H0:=Lib.hid h0;clear h0;go_wp2_with (go_at_call 137;refine (ζC _ _ _).mono ?_;rintro e w' ⟨rfl,rfl⟩)
            go_ret
            refine ⟨LL ?_,rfl⟩;rw [hpre.out,YZ HX.out,YZ HY.out,cmpStrs,Uz H0.out]
        · go_wp2_with fail
          go_ret
          refine ⟨LL ?_,rfl⟩;rw [hpre.out,YZ HX.out,XI (by omega:m.length≤k),cmpStrs]
      · by_cases hlt2:k<m.length
        · obtain ⟨y,hy⟩:=Zj hlt2;have HY:=Lib.hid hy;clear hy;go_wp2_with fail
          go_ret
          refine ⟨LL ?_,rfl⟩;rw [hpre.out,YZ HY.out,XI (by omega:l.length≤k),cmpStrs]
        · go_wp2_with fail
          go_ret
          refine ⟨LL ?_,rfl⟩;rw [hpre.out,XI (by omega:m.length≤k),XI (by omega:l.length≤k),cmpStrs]
set_option maxHeartbeats 400000 in
theorem Ot (l m:List ByteArray) (v u:Value) (w:World) {M:Mut} (hl:Strs M w v l) (hm:Strs M w u m):
 Calls prog 42 #[v,u] w fun e w'=>e= .returned (.int .i64 (cmpStrs l m))∧w=w':=by
 have HP:=Lib.hid (D4 l m v u w hl hm);clear hl hm
 go_enter func42,ntmps42
 go_wp2_with (go_at_call 99;refine HP.out.mono ?_;rintro e w' ⟨rfl,rfl⟩)
 go_ret
 exact ⟨rfl,rfl⟩
theorem Zfa {α:Type} {k:Nat} {E:Elt α} {f:α→List PV} (hf:∀x,(f x).length=k) {M:BS} {w:World} {v:Value} {l:List α} (h:Shr M w v (.sl l.length (l.flatMap f))) (hl:l.length≤140737488355328)
 (hE:∀(x:α) (b o:Nat) (vs:Nat→Value),x∈l→(∀j,j<k→w.cell? ⟨b,o+j,none⟩=some (vs j)∧¬M b)→(∀(j:Nat) (p:PV),(f x)[j]? =some p→Shr M w (vs j) p)→E M w b o x):SlR k E M w v l:=by
 generalize hn:l.length=n at h
 generalize hcs:l.flatMap f=cs at h
 cases h with
 | emp a c hc ha=>
   have:l=[]:=XC hn;subst this;exact ⟨a,c,rfl,XA _,by unfold maxLen at hc;exact hc,sM,ha,fun i x hx=>by simp at hx⟩
 | sl b off n c cs vs hnc hc hcell hT=>
   subst hn hcs;refine ⟨some ⟨b,off,none⟩,c,rfl,hnc,by unfold maxLen at hc;exact hc,hl,(by intro h;cases h),fun i x hx=>⟨b,off,rfl,?_⟩⟩;have hfit:=YI hf hx;refine hE x b (off+i*k) (fun j=>vs (i*k+j)) (Xb hx) (fun j hj=>?_) (fun j p hp=>?_)
   · have:=hcell (i*k+j) oM;rw [Vt];exact this
   · (have hj:j<k:=by rw [←hf x];exact Ze hp);exact hT _ p (by rw [Wm hf hx hj];exact hp)
theorem Ej {M:BS} {w:World} {v:Value} {l:List ByteArray} (h:Shr M w v (ZQ l)) (hf:DK l):Strs M w v l:=by
 unfold ZQ at h
 rw [HJ] at h
 refine Zfa (k:=1) (f:=fun x=>[ZS x]) (fun _=>rfl) h hf.1 fun x b o vs hx hc hT=>?_
 have h0:vs 0= .string x:=(hT 0 _ rfl).vOf
 have:=hc 0 dC
 rw [h0] at this
 exact ⟨this,hf.2 x hx⟩
theorem D5 {w w':World} {M:BS} {v:Value} {e:Ending} (h1:e= .returned v) (h2:Ext w w'):JI ⟨w,M,fun _=>False,0,False,[]⟩ (· = .val v) e w':=⟨v,_,fun _=>False,h1,rfl,h2, .shr (.val _) (fun _ h=>h),fun _ h=>h.elim,fun h=>h.elim⟩
theorem ζD {M:BS} {w:World} {B e n:Nat} {v:Value} {xs:List Value} (h:w.ownsRow B e 1 v n xs) (hM:∀b,M b→b<B):Shr M w v (.sl n (xs.map PV.val)):=by
 rcases h.2 with ⟨rfl,rfl⟩|⟨g,cap,cur,rfl,hg,hh,h4,h5,h6,h7⟩
 · have:xs=[]:=XC (by rw [h.1]);subst this;exact .emp none 0 (by unfold maxLen;omega) (fun _=>rfl)
 · refine .sl g 0 n cap _ (fun i=>(xs[i]?).getD undef) h4 h5 (fun i hi=>?_) (fun i p hp=>?_)
   · rw [Xc] at hi;obtain ⟨x,hx⟩:=Z6 hi;refine ⟨?_,fun hm=>by have:=hM g hm;omega⟩;rw [Xy,h.cellAt i (by rw [←h.1];exact hi),hx];rfl
   · rw [Xl,XQ] at hp;obtain ⟨x,hx,rfl⟩:=hp;show Shr M w ((xs[i]?).getD undef) (.val x);rw [hx];exact .val _
theorem Sz {w w':World} {M:BS} {v:Value} {p:PV} {e:Ending} (h1:e= .returned v) (h2:Ext w w') (h3:Shr M w' v p):JI ⟨w,M,fun _=>False,0,False,[]⟩ (· =p) e w':=
 ⟨v,p,fun _=>False,h1,rfl,h2, .shr (h3.anti fun b _ hb=>hb.elim id False.elim) (fun _ h=>h),fun _ h=>h.elim,fun h=>h.elim⟩
theorem OZ {M:BS} {w:World} {b off n c:Nat} {l:List ByteArray} (h:Shr M w (.slice (some ⟨b,off,none⟩) n c) (ZQ l)):∀(j:Nat) (s:ByteArray),l[j]? =some s→w.cell? ⟨b,off+j,none⟩=some (.string s):=fun j s hs=>by
 unfold ZQ at h
 generalize hn:l.length=m at h
 generalize hcs:l.map ZS=cs at h
 cases h with
 | emp=>
   have:l=[]:=XC hn;subst this;simp at hs
 | sl _ _ _ _ _ vs hn hc hcell hT=>
   subst hcs;have h1:=(hcell j (by rw [Xc];exact Ze hs)).1;have h2:vs j= .string s:=(hT j (ZS s) (by rw [Xl,hs];rfl)).vOf;rw [h1,h2]
theorem Zd9 (l:List ByteArray) (hl:l.length≤1000000):AF prog 68 [ZQ l] (· =ZQ l):=fun M w vs hM hlen hv=>by
 obtain ⟨v,rfl⟩:=WO hlen
 have hS:=hv 0 v _ rfl rfl
 have hS':=hS
 unfold ZQ at hS'
 generalize hn:l.length=n at hS'
 generalize hcs:l.map ZS=cs at hS'
 cases hS' with
 | emp a c hc ha=>
   have:l=[]:=XC hn;subst this
   cases a with
   |none=>exact (Tryz.slices_Clone_string_nil 0 c w).mono fun e w' ⟨h1,h2⟩=>Sz h1 (h2▸Ext.rfl' _) (.emp none 0 (by unfold maxLen;omega) (fun _=>rfl))
   |some a=>exact (Tryz.slices_Clone_string_zero a c w).mono fun e w' ⟨v',h1,h2,_,h3⟩=>Sz h1 h3 (ζD h2 (fun b hb=>(hM.m b hb).1))
 | sl b off n c cs vs' hnc hc hcell hT=>
   subst hn hcs;have hcl:=OZ hS;refine (Tryz.slices_Clone_string b off l.length c l w (Xg _) oM (fun j hj=>?_)).mono fun e w' ⟨v',h1,h2,_,h3⟩=>Sz h1 h3 ?_
   · obtain ⟨s,hs⟩:=Z6 hj;rw [hcl j s hs,List.getD,hs];rfl
   · have:=ζD h2 (fun b hb=>(hM.m b hb).1);rw [XD,Xs] at this;exact this
def Jn (l:List ByteArray):ByteArray:=⟨(Lib.join (l.map (·.data.toList)) [32]).toArray⟩
theorem Zfb (l:List ByteArray) (hl:l.length≤1000000) (hj:(Lib.join (l.map (·.data.toList)) [32]).length≤140737488355328):AF prog 67 [ZQ l,ZS ⟨#[32]⟩] (· =ZS (Jn l)):=fun M w vs hM hlen hv=>by
 obtain ⟨v,u,rfl⟩:=WT hlen
 have hu:u= .string ⟨#[32]⟩:=(hv 1 u _ rfl rfl).vOf
 subst hu
 have hS:=hv 0 v _ rfl rfl
 have hS':=hS
 unfold ZQ at hS'
 generalize hn:l.length=n at hS'
 generalize hcs:l.map ZS=cs at hS'
 cases hS' with
 | emp a c hc ha=>
   have:l=[]:=XC hn;subst this;exact (Tryz.strings_Join_none a c ⟨#[32]⟩ w).mono fun e w' ⟨h1,h2⟩=>D5 (v:= .string (Jn [])) (by rw [h1];rfl) (h2▸Ext.rfl' _)
 | sl b off n c cs vs' hnc hc hcell hT=>
   subst hn hcs;have hcl:=OZ hS
   cases hl0:l with
   | nil=>
     subst hl0;exact (Tryz.strings_Join_none (some ⟨b,off,none⟩) c ⟨#[32]⟩ w).mono fun e w' ⟨h1,h2⟩=>D5 (v:= .string (Jn [])) (by rw [h1];rfl) (h2▸Ext.rfl' _)
   | cons s0 l0=>
     rw [←hl0];have hb:b<w.heap.size:=World.block_lt_of_cell? _ _ (hcl 0 s0 (by rw [hl0];rfl));exact (Tryz.strings_Join b off c l ⟨#[32]⟩ w hcl hb oM hnc hj).mono fun e w' ⟨h1,h2⟩=>D5 (v:= .string (Jn l)) h1 h2
theorem Ek:FldT prog 28 1 1=true:=by kernel_rfl
theorem ZcH:NoAgg prog 3=true:=by kernel_rfl
theorem Za5 (x:Var):AF prog 69 [.agg (Wd x)] (· =Zo (decide (1048576<x.count))):=by
 refine AF.of_body 6 func69 rfl ntmps69 (Xa rfl) ?_
 intro w0 M0 vs hl hv
 obtain ⟨v0,rfl⟩:=WO hl
 clear hl hv
 refine Zd ?_
 (refine Yr 1 2 fun h1=>?_<;>refine xL 2 Zb ?_<;>refine Zh ?_)
 (refine xL 3 (Zm 1 Ek) ?_<;>(refine yL 4 (Zp 1 ZcH) fun v4 h=>?_;cases h)<;>refine xL 5 Kj (xL 2 Zb ?_)<;>refine Zc ?_)
 exact Zi (results69) rfl rfl
theorem El (W:World) (o1 o2:Obj):(W.alloc o1).alloc o2=Sort.grow (W.drewN 0) #[o1,o2]:=by
 have:(W.heap.push o1).push o2=W.heap++ #[o1,o2]:=by
  apply Array.ext';simp
 show ({W with heap:=(W.heap.push o1).push o2}:World)={W with heap:=W.heap++ #[o1,o2],drawn:=W.drawn+0}
 rw [this]
 rfl
theorem Za6 (x y:Var) (hx:DK x.acts) (hy:DK y.acts) (M:BS) (W:World) (u v:Value) (hu:Shr M W u (.agg (Wd x))) (hv:Shr M W v (.agg (Wd y))):
 Calls prog 71 #[u,v] W fun e w'=>e= .returned (.int .i64 (cmpStrs x.acts y.acts))∧∃q os',w'=Sort.grow (W.drewN q) os':=by
 unfold Wd at hu hv
 generalize hps:[ZQ x.acts,Zg x.count]=ps at hu
 generalize hqs:[ZQ y.acts,Zg y.count]=qs at hv
 cases hu with
 | agg us ps hl hT=>
   cases hv with
   | agg vs qs hl' hT'=>
     subst hps hqs;obtain ⟨a1,a2,rfl⟩:=WT hl;obtain ⟨b1,b2,rfl⟩:=WT hl';have e1:a2= .int .i64 x.count:=(hT 1 a2 _ rfl rfl).vOf;have e2:b2= .int .i64 y.count:=(hT' 1 b2 _ rfl rfl).vOf;subst e1 e2;have s1:=Ej (hT 0 a1 _ rfl rfl) hx;have s2:=Ej (hT' 0 b1 _ rfl rfl) hy;clear hT hT' hl hl';obtain ⟨p1,c1,rfl,_⟩:=id s1;obtain ⟨p2,c2,rfl,_⟩:=id s2;have HC:=Lib.hid (Ot x.acts y.acts _ _ ((W.alloc (.cells #[.slice p1 x.acts.length c1, .int .i64 x.count] 28)).alloc (.cells #[.slice p2 y.acts.length c2, .int .i64 y.count] 28)) (s1.up ((Ext.alloc _ _).to_alloc _)) (s2.up ((Ext.alloc _ _).to_alloc _)));clear s1 s2;go_enter func71,ntmps71
     go_wp2_with (go_at_call 42;refine HC.out.mono ?_;rintro e w' ⟨rfl,rfl⟩)
     go_ret
     refine ⟨rfl,0,#[.cells #[.slice p1 x.acts.length c1, .int .i64 x.count] 28, .cells #[.slice p2 y.acts.length c2, .int .i64 y.count] 28],?_⟩;exact El _ _ _
theorem ζE:AggT prog 28 2=true:=by kernel_rfl
theorem Za7:ζp prog 70 71 2:=fun enc hk h1 cf hO blk cap d w hcmp hH hblk hsz=>
 AnyQ.slices_SortFunc Tryz.sortVarL 2 (fun w=>AggT.run ζE w) (fun w=>AggT.size ζE w) enc hk h1 cf hO 71 #[] blk 0 cap d w (call71) hcmp hH hblk hsz
theorem D6 (p:Option Addr) (cap:Nat) (fv:Value) (w:World):Calls prog 70 #[.slice p 0 cap,fv] w fun e w'=>e= .returned (.tuple #[])∧w'=w:=
 AnyF.slices_SortFunc_none Tryz.sortVarL p cap fv w
end Go.Proofs.YtmkojdfiadbeeaaGreat
namespace Go.Cb
open Go.En
set_option linter.all false
theorem PK (x y:List UInt8) (l:List (List UInt8)):[32].intercalate (x::y::l)=x++32::[32].intercalate (y::l):=by
 simp [List.intercalate,List.intersperse]
theorem Tu (x:List UInt8):([32]:List UInt8).intercalate [x]=x:=by simp [List.intercalate]
theorem ζF:∀(x y a b:List UInt8),32∉x→32∉y→x++32::a=y++32::b→x=y∧a=b
 |[],[],a,b,_,_,h=>by simp at h;exact ⟨rfl,h⟩
 |[],c::y,a,b,_,h2,h=>by simp at h;exact UB (by simp [h.1]) h2
 |c::x,[],a,b,h1,_,h=>by simp at h;exact UB (by simp [h.1]) h1
 | c::x,d::y,a,b,h1,h2,h=>by
   simp at h h1 h2;obtain ⟨e1,e2⟩:=ζF x y a b h1.2 h2.2 h.2;exact ⟨by rw [h.1,e1],e2⟩
theorem ZcI:∀(l m:List (List UInt8)),(∀x∈l,x≠[]∧32∉x)→(∀x∈m,x≠[]∧32∉x)→([32]:List UInt8).intercalate l=[32].intercalate m→l=m
 |[],[],_,_,_=>rfl
 |[],[y],_,h2,h=>by rw [Tu] at h;exact UB h.symm (h2 y sM).1
 |[],y::z::m,_,h2,h=>by rw [PK] at h;simp [List.intercalate] at h
 |[x],[],h1,_,h=>by rw [Tu] at h;exact UB h (h1 x sM).1
 |x::z::l,[],_,_,h=>by rw [PK] at h;simp [List.intercalate] at h
 |[x],[y],_,_,h=>by rw [Tu,Tu] at h;rw [h]
 | [x],y::z::m,h1,h2,h=>by
   rw [Tu,PK] at h;exact UB (by rw [h];simp) (h1 x sM).2
 | x::z::l,[y],h1,h2,h=>by
   rw [Tu,PK] at h;exact UB (by rw [←h];simp) (h2 y sM).2
 | x::x'::l,y::y'::m,h1,h2,h=>by
   rw [PK,PK] at h;obtain ⟨e1,e2⟩:=ζF _ _ _ _ (h1 x sM).2 (h2 y sM).2 h;rw [e1,ZcI (x'::l) (y'::m) (fun z hz=>h1 z (by simp at hz ⊢;exact .inr hz)) (fun z hz=>h2 z (by simp at hz ⊢;exact .inr hz)) e2]
theorem Tv {s:ByteArray} (h:isName s=true):s.data.toList≠[]∧(32:UInt8)∉s.data.toList∧s.size≤40:=by
 unfold isName at h
 simp only [Xd,Uw,Xf] at h
 obtain ⟨⟨⟨h1,h2⟩,h3⟩,h4⟩:=h
 refine ⟨fun e=>?_,fun e=>?_,h2⟩
 · have:s.size=0:=by
    show s.data.size=0;rw [←X4,e];rfl
   omega
 · have:=h4 32 e;revert this;decide
def WOk (w:List ByteArray):Prop:=w.length≤200∧∀s∈w,isName s=true
theorem ZcJ {l m:List ByteArray} (h1:WOk l) (h2:WOk m) (h:Lib.join (l.map (·.data.toList)) [32]=Lib.join (m.map (·.data.toList)) [32]):l=m:=by
 have key:∀{l:List ByteArray},WOk l→∀x∈l.map (·.data.toList),x≠[]∧(32:UInt8)∉x:=fun h x hx=>by
  obtain ⟨s,hs,rfl⟩:=Xm.1 hx;have:=Tv (h.2 s hs);exact ⟨this.1,this.2.1⟩
 have:=ZcI _ _ (key h1) (key h2) h
 have inj:∀{l m:List ByteArray},l.map (·.data.toList)=m.map (·.data.toList)→l=m:=by
  intro l;induction l with
  |nil=>intro m h;cases m with|nil=>rfl|cons=>simp at h
  | cons a l ih=>
    intro m h
    cases m with
    |nil=>simp at h
    | cons b m=>
      simp only [Xk,List.cons.injEq] at h;rw [ih h.2,WideShapes.bytes_inj h.1]
 exact inj this
theorem ZcK:∀(l:List (List UInt8)) (b:Nat),(∀x∈l,x.length≤b)→(([32]:List UInt8).intercalate l).length≤l.length*(b+1)
 |[],b,_=>by simp [List.intercalate]
 |[x],b,h=>by rw [Tu];have:=h x sM;simp;omega
 | x::y::l,b,h=>by
   rw [PK];have h1:=ZcK (y::l) b (fun z hz=>h z (by simp at hz ⊢;exact .inr hz));have h2:=h x sM;simp only [Xe,Xi] at h1 ⊢;have:(l.length+1+1)*(b+1)=(l.length+1)*(b+1)+(b+1):=by rw [Vf (l.length+1) 1];omega
   omega
theorem ZcL {l:List ByteArray} (h:WOk l):(Lib.join (l.map (·.data.toList)) [32]).length≤140737488355328:=by
 have:=ZcK (l.map (·.data.toList)) 40 (fun x hx=>by
  obtain ⟨s,hs,rfl⟩:=Xm.1 hx;rw [X4];exact (Tv (h.2 s hs)).2.2)
 rw [Xc] at this
 have h2:=h.1
 unfold Lib.join
 omega
def WIn (Q:ByteArray→Prop) (n:Nat) (ps:List Piece):Prop:=∀p∈ps,p.word.length≤n∧∀s∈p.word,Q s
theorem WIn.mono {Q:ByteArray→Prop} {n m:Nat} {ps:List Piece} (h:WIn Q n ps) (hn:n≤m):WIn Q m ps:=fun p hp=>⟨XP (h p hp).1 hn,(h p hp).2⟩
theorem WIn.set {Q:ByteArray→Prop} {n i:Nat} {ps:List Piece} {q:Piece} {s:ByteArray} (h:WIn Q n ps) (hq:ps[i]? =some q) (hs:Q s):WIn Q (n+1) (ps.set i ⟨q.part,q.word++[s]⟩):=fun p hp=>by
 rcases Vp hp with h1|h1
 · exact h.mono (Vs _) p h1
 · have:=h q (Xb hq);rw [h1];refine ⟨by simp;exact this.1,fun t ht=>?_⟩;rcases Xv.1 ht with h2|h2
   · exact this.2 t h2
   · simp at h2;rw [h2];exact hs
theorem WIn.add {Q:ByteArray→Prop} {n i:Nat} {ps:List Piece} {s:ByteArray} (h:WIn Q n ps) (hs:Q s):WIn Q (n+1) (Wg ps i s):=by
 unfold Wg
 split
 · rename_i q hq;exact h.set hq hs
 · exact h.mono (Vs _)
theorem WIn.step {Q:ByteArray→Prop} {n:Nat} {parts:List (List ByteArray)} {ps ps':List Piece} {s:ByteArray} (h:WIn Q n ps) (hs:Q s) (he:WE parts ps s=some ps'):WIn Q (n+1) ps':=by
 have one:∀p:Piece,p∈[(⟨partOf parts s,[s]⟩:Piece)]→p.word.length≤n+1∧∀t∈p.word,Q t:=fun p hp=>by
  simp at hp;subst hp;exact ⟨sM,fun t ht=>by simp at ht;rw [ht];exact hs⟩
 unfold WE at he
 split at he
 · cases he;exact one
 · rename_i q hq;split at he
   · cases he;exact h.set hq hs
   · split at he
     · cases he
     · cases he;intro p hp;rcases Xv.1 hp with h1|h1
       · exact h.mono (Vs _) p h1
       · exact one p h1
theorem S9 {Q:ByteArray→Prop} {parts:List (List ByteArray)}:∀{ws:List ByteArray} {n:Nat} {ps ps':List Piece},WIn Q n ps→(∀s∈ws,Q s)→Y5 parts ps ws=some ps'→WIn Q (n+ws.length) ps'
 |[],n,ps,ps',h,_,he=>by simp [Y5] at he;subst he;exact h
 | s ::l,n,ps,ps',h,hs,he=>by
   rw [Y5] at he
   cases hst:WE parts ps s with
   |none=>rw [hst] at he;cases he
   | some ps1=>
     rw [hst] at he;have:=S9 (h.step (hs s sM) hst) (fun x hx=>hs x (by simp [hx])) he;exact this.mono (by simp;omega)
theorem PL {Q:ByteArray→Prop} {kind:Int} {parts:List (List ByteArray)}:∀{ws:List ByteArray} {n:Nat} {first:Bool} {last:Int} {ps:List Piece} {r:List Piece×Int},WIn Q n ps→(∀s∈ws,Q s)→Yw kind parts first last ps ws=some r→WIn Q (n+ws.length) r.1
 |[],n,_,_,ps,r,h,_,he=>by simp [Yw] at he;subst he;exact h
 | s ::l,n,first,last,ps,r,h,hs,he=>by
   rw [Yw] at he;split at he
   · cases he
   · have:=PL (h.add (hs s sM)) (fun x hx=>hs x (by simp [hx])) he;exact this.mono (by simp;omega)
theorem CC {Q:ByteArray→Prop} {c:Cut} {ws:List ByteArray} {ps:List Piece} (hs:∀s∈ws,Q s) (he:Yq c ws=some ps):WIn Q ws.length ps:=by
 unfold Yq at he
 split at he
 · unfold JM at he;split at he
   · cases he;intro p hp;simp at hp;subst hp;exact ⟨sM,fun s h=>by simp at h⟩
   · cases hg:Y5 c.parts [] ws with
     |none=>rw [hg] at he;cases he
     | some ps1=>
       rw [hg] at he;simp only [] at he;split at he
       · cases he;exact (S9 (n:=0) (fun p hp=>by simp at hp) hs hg).mono oM
       · cases he
 · cases hg:Yw c.kind c.parts true 0 (YS c.parts.length) ws with
   |none=>rw [hg] at he;cases he
   | some r=>
     rw [hg] at he;have hin:=(PL (Q:=Q) (n:=0) (fun p hp=>by
      simp [YS] at hp;obtain ⟨i,_,rfl⟩:=hp;exact ⟨sM,fun s h=>by simp at h⟩) hs hg).mono (m:=ws.length) oM
     obtain ⟨r1,r2⟩:=r;simp only [] at he;split at he
     · split at he
       · cases he
       · cases he;exact fun p hp=>hin p (List.mem_of_mem_drop (V6 hp))
     · cases he;exact hin
theorem Em {c:Cut} {x:Var} {ps:List Piece} (hx:YQ x=true) (he:Yq c x.acts=some ps):∀p∈ps,WOk p.word:=fun p hp=>by
 simp only [YQ,Xd,Uw,Xf] at hx
 have:=CC (Q:=fun s=>isName s=true) hx.1.1.2 he p hp
 exact ⟨XP this.1 hx.1.1.1,this.2⟩
def PM (n:Int) (R:List (List Var)) (p:Piece):List (List Var):=match R[p.part.toNat]? with
 |some r=>R.set p.part.toNat (bump r p.word n)
 |none=>R
theorem Za8 {n:Int} {R:List (List Var)} {p:Piece} {r:List Var} (h:R[p.part.toNat]? =some r):PM n R p=R.set p.part.toNat (bump r p.word n):=by
 unfold PM;rw [h]
theorem Eo (n:Int) (R:List (List Var)) (p:Piece):(PM n R p).length=R.length:=by
 unfold PM;split<;>simp
def RelR (R S:List (List Var)):Prop:=R.length=S.length∧∀(i:Nat) (r s:List Var),R[i]? =some r→S[i]? =some s→Asc s∧r.Perm s
theorem RelR.put {n:Int} {R S:List (List Var)} {p:Piece} (h:RelR R S):RelR (PM n R p) (YR n S p):=by
 refine ⟨by rw [Eo,DD];exact h.1,fun i r s hr hs=>?_⟩
 unfold PM at hr
 unfold YR at hs
 cases hR:R[p.part.toNat]? with
 | none=>
   have hS:S[p.part.toNat]? =none:=by
    rw [Uu] at hR ⊢;have:=h.1;omega
   rw [hR] at hr;rw [hS] at hs;exact h.2 i r s hr hs
 | some r0=>
   obtain ⟨s0,hS⟩:∃s0,S[p.part.toNat]? =some s0:=Zj (by have:=Ze hR;have:=h.1;omega);rw [hR] at hr;rw [hS] at hs;simp only [] at hr hs;obtain ⟨a1,a2⟩:=h.2 _ _ _ hR hS;by_cases e:p.part.toNat=i
   · subst e;rw [Xp (Ze hR)] at hr;rw [Xp (Ze hS)] at hs
     cases hr;cases hs;exact ⟨Pv a1,ZaJ a1 a2⟩
   · rw [X0 e] at hr;rw [X0 e] at hs;exact h.2 i r s hr hs
theorem ZcM (n:Nat):RelR (List.replicate n []) (List.replicate n []):=⟨rfl,fun i r s hr hs=>by
 have h1:=Vl (Xb hr)
 have h2:=Vl (Xb hs)
 subst h1 h2
 exact ⟨List.Pairwise.nil, .refl _⟩⟩
theorem RelR.ok {m:Nat} {R S:List (List Var)} (h:RelR R S) (hS:GL m S):GL m R:=fun r hr=>by
 obtain ⟨i,hi⟩:=XF hr
 obtain ⟨s,hs⟩:∃s,S[i]? =some s:=Zj (by have:=Ze hi;have:=h.1;omega)
 obtain ⟨_,p⟩:=h.2 i r s hi hs
 have:=hS s (Xb hs)
 exact ⟨by rw [p.length_eq];exact this.1,fun x hx=>this.2 x (p.mem_iff.1 hx)⟩
theorem RelR.any {R S:List (List Var)} (h:RelR R S) (f:List Var→Bool) (hf:∀r s,r.Perm s→f r=f s):R.any f=S.any f:=by
 rw [VK,XS,XS]
 constructor
 · rintro ⟨r,hr,hfr⟩;obtain ⟨i,hi⟩:=XF hr;obtain ⟨s,hs⟩:∃s,S[i]? =some s:=Zj (by have:=Ze hi;have:=h.1;omega);exact ⟨s,Xb hs,by rw [←hf r s (h.2 i r s hi hs).2];exact hfr⟩
 · rintro ⟨s,hs,hfs⟩;obtain ⟨i,hi⟩:=XF hs;obtain ⟨r,hr⟩:∃r,R[i]? =some r:=Zj (by have:=Ze hi;have:=h.1;omega);exact ⟨r,Xb hr,by rw [hf r s (h.2 i r s hr hi).2];exact hfs⟩
theorem Ep {r s:List Var} (h:r.Perm s):bigVars r=bigVars s:=by
 unfold bigVars
 rw [VK,XS,XS]
 exact ⟨fun ⟨x,hx,e⟩=>⟨x,h.mem_iff.1 hx,e⟩,fun ⟨x,hx,e⟩=>⟨x,h.mem_iff.2 hx,e⟩⟩
theorem O0 {r s:List Var} (h:r.Perm s):Wh r=Wh s:=by unfold Wh;rw [h.length_eq]
theorem RelR.sorted {R S T:List (List Var)} (h:RelR R S) (hl:T.length=R.length) (hT:∀(i:Nat) (r t:List Var),R[i]? =some r→T[i]? =some t→Asc t∧t.Perm r):T=S:=by
 apply VI
 intro i
 cases hi:T[i]? with
 | none=>
   rw [Uu] at hi;rw [eq_comm,Uu];have:=h.1;omega
 | some t=>
   obtain ⟨r,hr⟩:∃r,R[i]? =some r:=Zj (by have:=Ze hi;omega);obtain ⟨s,hs⟩:∃s,S[i]? =some s:=Zj (by have:=Ze hr;have:=h.1;omega);obtain ⟨a,p⟩:=h.2 i r s hr hs;obtain ⟨a',p'⟩:=hT i r t hr hi;rw [hs,HW a p a' p']
def WR (R:List (List Var)):Prop:=∀r∈R,∀x∈r,WOk x.acts
theorem Er {w:List ByteArray} {n:Int}:∀{r:List Var} {y:Var},y∈bump r w n→y.acts=w∨∃z∈r,z.acts=y.acts
 |[],y,hy=>by simp [bump] at hy;exact .inl (by rw [hy])
 | z :: r,y,hy=>by
   rw [bump] at hy;split at hy
   · rcases Xn.1 hy with rfl|hy
     · exact .inr ⟨z,sM,rfl⟩
     · exact .inr ⟨y,by simp [hy],rfl⟩
   · rcases Xn.1 hy with rfl|hy
     · exact .inr ⟨y,sM,rfl⟩
     · rcases Er hy with h1|⟨z',hz',e⟩
       · exact .inl h1
       · exact .inr ⟨z',by simp [hz'],e⟩
theorem WR.put {n:Int} {R:List (List Var)} {p:Piece} (h:WR R) (hp:WOk p.word):WR (PM n R p):=by
 unfold PM
 split
 · rename_i r hr;intro r' hr' x hx;rcases Vp hr' with h1|h1
   · exact h r' h1 x hx
   · rw [h1] at hx;rcases Er hx with e|⟨z,hz,e⟩
     · rw [e];exact hp
     · rw [←e];exact h r (Xb hr) z hz
 · exact h
theorem Zfc (n:Nat):WR (List.replicate n []):=fun r hr x hx=>by
 have:=Vl hr
 subst this;simp at hx
def Le (f:List ByteArray→ByteArray):Nat→List Var→List (ByteArray×Value)
 |_,[]=>[]
 |i,x::r=>(f x.acts,Value.int .i64 (i:Int))::Le f (i+1) r
theorem O1 {f:List ByteArray→ByteArray} {w:List ByteArray} {v:Value} (hw:WOk w) (hf:∀a b,WOk a→WOk b→f a=f b→a=b):∀{r:List Var} {i:Nat},(∀x∈r,WOk x.acts)→YT (Le f i r) (f w)=some v→∃(j:Nat) (y:Var),v= .int .i64 ((i+j:Nat):Int)∧r[j]? =some y∧y.acts=w∧∀n,r.set j ⟨w,y.count+n⟩=bump r w n∧Le f i (bump r w n)=Le f i r
 |[],i,_,h=>by simp [Le,YT] at h
 | x ::r,i,hr,h=>by
   rw [Le,YT] at h;split at h
   · rename_i e;have e':=hf _ _ hw (hr x sM) e
     cases h;refine ⟨0,x,rfl,rfl,e'.symm,fun n=>?_⟩;rw [bump,UA e'.symm];exact ⟨by rw [e'];rfl,rfl⟩
   · rename_i hne;have hx:x.acts≠w:=fun e=>hne (by rw [e]);obtain ⟨j,y,hv,hy,hyw,hset⟩:=O1 hw hf (fun z hz=>hr z (by simp [hz])) h;refine ⟨j+1,y,by rw [hv,show i+1+j=i+(j+1) by omega],hy,hyw,fun n=>?_⟩;rw [bump,Uz hx];exact ⟨by rw [Un,(hset n).1],by rw [Le,(hset n).2];rfl⟩
theorem O2 {f:List ByteArray→ByteArray} {w:List ByteArray}:∀{r:List Var} {i:Nat},YT (Le f i r) (f w)=none→(∀x∈r,x.acts≠w)∧∀n,Le f i (bump r w n)=Wr (Le f i r) (f w) (.int .i64 ((i+r.length:Nat):Int))
 |[],i,_=>⟨fun x h=>by simp at h,fun n=>rfl⟩
 | x :: r,i,h=>by
   rw [Le,YT] at h;split at h
   · cases h
   · rename_i hne;have hx:x.acts≠w:=fun e=>hne (by rw [e]);obtain ⟨h1,h2⟩:=O2 h;refine ⟨fun y hy=>?_,fun n=>?_⟩
     · rcases Xn.1 hy with rfl|hy
       · exact hx
       · exact h1 y hy
     · rw [bump,Uz hx,Le,h2 n,Le,Wr,Uz hne,Xi,show i+1+r.length=i+(r.length+1) by omega]
theorem ZcN {r:List Var} {w:List ByteArray} {n:Int} (h:∀x∈r,x.acts≠w):(r++[(⟨w,0⟩:Var)]).set r.length (⟨w,0+n⟩:Var)=bump r w n:=by
 rw [Sn h,Vh _ _ (Xg _),Vc,Int.zero_add];rfl
end Go.Cb
