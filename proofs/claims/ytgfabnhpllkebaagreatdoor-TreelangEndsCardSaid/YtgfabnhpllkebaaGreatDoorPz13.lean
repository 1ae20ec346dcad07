/-
  Walks of functions and plain laws of the chapter, as the claim needs them.
-/
import Derived.Test.YtgfabnhpllkebaaGreatDoorPz12
import Derived.Test.YtgfabnhpllkebaaGreatDoorPz11
import Derived.Test.YtgfabnhpllkebaaGreatDoorPz08
import Derived.Test.YtgfabnhpllkebaaGreatDoorPz04
import Derived.Test.YtgfabnhpllkebaaGreatDoorPz06
import Derived.Test.YtgfabnhpllkebaaGreatDoorPz05
import Derived.Test.YtgfabnhpllkebaaGreatDoorPz10
import Derived.Test.YtgfabnhpllkebaaGreatDoorPz07
import Derived.Test.YtgfabnhpllkebaaGreatDoorPz02
import Derived.Test.YtgfabnhpllkebaaGreatDoorPz03
import Derived.Test.YtgfabnhpllkebaaGreatDoorPz01
namespace Go.Proofs.YtgfabnhpllkebaaGreatDoor
open Go.RowKit Go.Cb Go.En Tryz
set_option linter.all false
set_option maxRecDepth 100000
structure RS (r:Option Aut) (p0 p1 p2 p3 p4:PV) (E:Int):Prop where
 r5:R5 p0 p1 p2 p3 p4
 eq:resW (lim r)= .tup [.agg [p0,p1,p2,p3,p4],pInt E]
 hc:(r=none∧E=13)∨∃A,r=some A∧E=0∧p0=pInt A.n∧p1=pInt A.syms∧p2=pInts A.start∧p3=pInts A.fin∧p4=pMvs A.moves
theorem Zlt (r:Option Aut):∃p0 p1 p2 p3 p4 E,RS r p0 p1 p2 p3 p4 E:=by
 obtain ⟨p0,p1,p2,p3,p4,E,r5,hres,hc⟩:=ζI r
 exact ⟨p0,p1,p2,p3,p4,E,r5,hres,hc⟩
theorem RS.no {r:Option Aut} {p0 p1 p2 p3 p4:PV} {E:Int} (h:RS r p0 p1 p2 p3 p4 E) (hE:¬E=0):r=none∧E=13:=by
 rcases h.hc with h1|⟨A,_,h1,_⟩
 · exact h1
 · exact UU h1 hE
theorem RS.yes {r:Option Aut} {p0 p1 p2 p3 p4:PV} {E:Int} (h:RS r p0 p1 p2 p3 p4 E) (hE:E=0):∃A,r=some A∧E=0∧p0=pInt A.n∧p1=pInt A.syms∧p2=pInts A.start∧p3=pInts A.fin∧p4=pMvs A.moves:=by
 rcases h.hc with ⟨_,h1⟩|h1
 · omega
 · exact h1
theorem HN:AggT prog 24 3=true:=by kernel_rfl
theorem HO:AggT prog 39 5=true:=by kernel_rfl
theorem CB:ZeroT prog 39 (.agg #[(.int .i64 0),(.int .i64 0),(.slice none 0 0),(.slice none 0 0),(.slice none 0 0)]):=by unfold ZeroT;kernel_rfl
theorem ZiH (t:Nd) (hf:FitT t) {L:List ByteArray} (hR:actR t=(L,0)) {p0 p1 p2 p3 p4:PV} {E:Int} (hS:RS (bldT L t) p0 p1 p2 p3 p4 E):AF prog 66 [pTr t] (· = .tup [.agg [p0,p1,p2,p3,p4],Yj L,pInt E]):=by
 have e0:pTr t= .agg [pInt t.op,Z' t.act,Wb t.l]:=rfl
 have hA:=ZjE t hf
 obtain ⟨hv,hL,hm,hn,hmem⟩:=Zke (t:=t) (by rw [hR])
 rw [hR] at hA hm hmem
 dsimp only at hA hm hmem
 have hj:=PK L hm t (K' hv) (by have:=GV hv;omega) (fun s hs=>(hmem s).2 hs)
 rw [hS.eq] at hj
 rw [e0] at hA hj ⊢
 have r5:=hS.r5
 obtain ⟨o0,o1,o2,o3,o4⟩:=r5.o
 refine AF.of_body 26 func66 rfl ntmps66 (Xa rfl) ?_
 intro w0 M0 vs hl hv
 obtain ⟨v0,rfl⟩:=WL hl
 clear hl hv
 refine Ze ?_
 (refine ZG 1 3 fun h1=>?_<;>refine Zw [(.int .i64 0),(.int .i64 0),(.slice none 0 0),(.slice none 0 0),(.slice none 0 0)] 5 2 CB fun h2=>?_<;>refine xL 3 Za (xL 4 Za ?_)<;>refine Zg ?_)
 ((refine yL 9 (Zs 1 HN) fun v9 h=>?_;cases h)<;>(refine cP 10 (cA call25 (hA)) fun va10 vb10 hva10 h=>?_;cases h)<;>refine xL 8 Zb (xL 11 Zi (xL 12 Zi (xL 5 Za (xL 6 Za ?_))))<;>refine Zg ?_)
 (refine xL 13 Zb (xL 14 YH ?_)<;>refine Zc ?_)
 refine cX ?_ ?_<;>intro hb14
 · exact UU rfl hb14
 · refine Ze ?_;((refine yL 18 (Zs 1 HN) fun v18 h=>?_;cases h)<;>refine xL 19 Zb ?_<;>(refine cP 20 (cA (call51) hj) (fun va20 vb20 hva20 hvb20=>?_) (hsh:=r5.t E);cases hvb20)<;>refine xL 17 Zb (xL 21 Zi (xL 22 Zi ?_))<;>refine Zw [(.int .i64 0),(.int .i64 0),(.slice none 0 0),(.slice none 0 0),(.slice none 0 0)] 5 7 CB fun h7=>?_<;>refine ZA 7 HO ?_<;>refine xL 6 Za ?_<;>refine Zg ?_)
   ((refine yL 23 (Zs (k:=5) (ps:=[p0,p1,p2,p3,p4]) 7 kR (hsh:=r5.s)) fun v23 h=>?_;cases h)<;>refine xL 24 Zb (xL 25 Zb ?_)<;>refine ZA 2 HO ?_<;>refine xL 3 Za (xL 4 Za ?_)<;>refine Zc ?_)
   exact Zjy (k:=5) 2 kR (results66) rfl rfl rfl rfl (Xa rfl) dC r5.s rfl
structure OwnR (t:Nd) (L:List ByteArray) (p0 p1 p2 p3 p4:PV) (E:Int):Prop where
 r5:R5 p0 p1 p2 p3 p4
 hc:(¬E=0∧actR t=(L,E))∨(actR t=(L,0)∧RS (bldT L t) p0 p1 p2 p3 p4 E)
theorem Wc:AggT prog 24 3=true:=by kernel_rfl
theorem Ta:AggT prog 39 5=true:=by kernel_rfl
theorem ZbX:FldT prog 24 0 0=true:=by kernel_rfl
theorem ZbY:FldT prog 24 1 1=true:=by kernel_rfl
theorem Oi:FldT prog 24 2 2=true:=by kernel_rfl
theorem Zf2:MpT prog 76 9 4 .string (.bool false):=⟨underlying76,underlying9, .inl rfl,by show ZeroT _ _ _;unfold ZeroT;kernel_rfl⟩
theorem CC:NoAgg prog 22=true:=by kernel_rfl
theorem ZiI:NoAgg prog 3=true:=by kernel_rfl
theorem ZiJ:NoAgg prog 9=true:=by kernel_rfl
theorem Se:SlT prog 22 24 3=true:=by kernel_rfl
theorem Zf3:SlT prog 27 9 1=true:=by kernel_rfl
theorem CE:ZeroT prog 24 (.agg #[(.int .i64 0),(.string ByteArray.empty),(.slice none 0 0)]):=by unfold ZeroT;kernel_rfl
theorem CF:ZeroT prog 39 (.agg #[(.int .i64 0),(.int .i64 0),(.slice none 0 0),(.slice none 0 0),(.slice none 0 0)]):=by unfold ZeroT;kernel_rfl
set_option maxHeartbeats 4000000 in
theorem Oj:∀(t:Nd),okT t=true→szT t≤1000000→∀(ks:List ByteArray) (m V:Value),AFh False prog 48 [(0,V,pTr t),(1,m, .val m)] [(1000,m, .omap (skv (Yf ks)))] (fun v q h=>h=[(1000,m, .omap (skv (Yf (colS ks (Y6 t)))))]):=Nd.ind fun o a l ih hok hs ks m V=>by
 have e0:pTr (.mk o a l)= .agg [pInt o,Z' a,Wb l]:=rfl
 rw [e0]
 obtain ⟨hr,hp⟩:=Wx.1 hok
 have hsz:=Zcr (.mk o a l)
 have hlz:=OL l
 simp only [Nd.l,Nd.op] at hp hsz
 obtain ⟨K,hK⟩:∃K,K=if o=1 then setK ks a else ks:=⟨_,rfl⟩
 have hres:colS ks (Y6 (.mk o a l))=colS K (Gj l):=by
  rw [hK,Y6];split<;>rfl
 rw [hres]
 refine AFh.of_body 23 func48 rfl ntmps48 (Xa rfl) rfl ?_
 intro w0 M0 N0
 refine Ze ?_
 (refine ZG 2 3 fun h2=>?_<;>refine Zg ?_)
 (refine xL 6 (Zd 2 ZbX) ?_<;>(refine yL 7 (Zk 2 ZiI) fun v7 h=>?_;cases h)<;>refine xL 8 Z3 ?_<;>refine Zc ?_)
 refine cX ?_ ?_<;>intro hb8
 · first |exact bN hb8|(
 refine Ze ?_;(refine xL 9 Zb (xL 10 (Zd 2 ZbY) ?_)<;>(refine yL 11 (Zk 2 ZiJ) fun v11 h=>?_;cases h)<;>(refine GU 1000 Zf2 ?_;rw [Tx,show setK ks a=K by rw [hK,UT (by assumption)]])<;>refine Zg ?_)
 (refine xL 12 (Zd 2 Oi) ?_<;>(refine yL 13 (Zk 2 CC) fun v13 h=>?_;cases h)<;>refine xL 14 (ZR Se) (xL 15 Zb ?_)<;>refine Zc ?_)
 refine ZD (ι:={q:Nat×List ByteArray//q.1≤l.length∧q.2=colS K (Gj (l.take q.1))}) (fun k=>⟨[(1,_,_),(13,_,_),(14,_,_),(15, .int .i64 k.1.1,pInt k.1.1)],[(1000,m, .omap (skv (Yf k.1.2)))]⟩) (fun k=>l.length-k.1.1) ⟨(0,K),Xf _,by rw [XQ];rfl⟩ (fun a w H=>H.weaken ⟨rfl,rfl,rfl,rfl,trivial⟩ ⟨rfl,trivial⟩) ?_;rintro ⟨⟨i,S⟩,hi,hS⟩;dsimp only;dsimp only at hi hS;refine Ze ?_;(refine xL 16 ZQ ?_<;>refine Zc ?_)
 refine cX ?_ ?_<;>intro hb16
 · first|exact bN hb16|(
 obtain ⟨x,hx⟩:=Zp (show i<l.length by omega);have e1:((K0 l).drop (i*3)).take 3=[pInt x.op,Z' x.act,Wb x.l]:=Wh hx;have e2:=W0 hx;have hxm:=Xc hx;have hxs:=KJ hxm;have hsn:=T0 hx;refine Ze ?_;(refine xL 17 (ZF Se) ?_<;>(refine yL 18 (YI Wc) fun v18 h=>?_;cases h)<;>refine Zw [(.int .i64 0),(.string ByteArray.empty),(.slice none 0 0)] 3 5 CE fun h5=>?_<;>refine ZA 5 Wc ?_<;>refine Zg ?_)
 ((refine yL 19 (Zs 5 Wc) fun v19 h=>?_;cases h)<;>refine xL 20 Zb ?_<;>(refine Wy [(1000,m, .omap (skv (Yf S)))] ⟨rfl,trivial⟩ ?_;refine WP [] 21 (call48) (ih x hxm (hp x hxm) oM S m v19) (fun v21 p21 h21 hR21=>?_);subst hR21)<;>refine Zg ?_)
 (refine xL 22 ZH (xL 15 Zb ?_)<;>refine Zc ?_)
 refine Zn (
  ⟨(i+1,colS S (Y6 x)),Zf hx,by dsimp only;rw [hsn,Tw,←hS]⟩
  ) (by dsimp only;omega) ⟨rfl,rfl,rfl,rfl,trivial⟩ ⟨rfl,trivial⟩)
 · first|exact bN hb16|(
 refine nav ?_;(have hS2:S=colS K (Gj l):=by rw [hS,Xo oM]);refine GW [(1000,m, .omap (skv (Yf S)))] (results48) ⟨rfl,trivial⟩ ?_;rw [hS2]))
 · first |exact bN hb8|(
 rw [show ks=K by rw [hK,US (by assumption)]];refine Ze ?_;(refine xL 12 (Zd 2 Oi) ?_<;>(refine yL 13 (Zk 2 CC) fun v13 h=>?_;cases h)<;>refine xL 14 (ZR Se) (xL 15 Zb ?_)<;>refine Zc ?_)
 refine ZD (ι:={q:Nat×List ByteArray//q.1≤l.length∧q.2=colS K (Gj (l.take q.1))}) (fun k=>⟨[(1,_,_),(13,_,_),(14,_,_),(15, .int .i64 k.1.1,pInt k.1.1)],[(1000,m, .omap (skv (Yf k.1.2)))]⟩) (fun k=>l.length-k.1.1) ⟨(0,K),Xf _,by rw [XQ];rfl⟩ (fun a w H=>H.weaken ⟨rfl,rfl,rfl,rfl,trivial⟩ ⟨rfl,trivial⟩) ?_;rintro ⟨⟨i,S⟩,hi,hS⟩;dsimp only;dsimp only at hi hS;refine Ze ?_;(refine xL 16 ZQ ?_<;>refine Zc ?_)
 refine cX ?_ ?_<;>intro hb16
 · first|exact bN hb16|(
 obtain ⟨x,hx⟩:=Zp (show i<l.length by omega);have e1:((K0 l).drop (i*3)).take 3=[pInt x.op,Z' x.act,Wb x.l]:=Wh hx;have e2:=W0 hx;have hxm:=Xc hx;have hxs:=KJ hxm;have hsn:=T0 hx;refine Ze ?_;(refine xL 17 (ZF Se) ?_<;>(refine yL 18 (YI Wc) fun v18 h=>?_;cases h)<;>refine Zw [(.int .i64 0),(.string ByteArray.empty),(.slice none 0 0)] 3 5 CE fun h5=>?_<;>refine ZA 5 Wc ?_<;>refine Zg ?_)
 ((refine yL 19 (Zs 5 Wc) fun v19 h=>?_;cases h)<;>refine xL 20 Zb ?_<;>(refine Wy [(1000,m, .omap (skv (Yf S)))] ⟨rfl,trivial⟩ ?_;refine WP [] 21 (call48) (ih x hxm (hp x hxm) oM S m v19) (fun v21 p21 h21 hR21=>?_);subst hR21)<;>refine Zg ?_)
 (refine xL 22 ZH (xL 15 Zb ?_)<;>refine Zc ?_)
 refine Zn (
  ⟨(i+1,colS S (Y6 x)),Zf hx,by dsimp only;rw [hsn,Tw,←hS]⟩
  ) (by dsimp only;omega) ⟨rfl,rfl,rfl,rfl,trivial⟩ ⟨rfl,trivial⟩)
 · first|exact bN hb16|(
 refine nav ?_;(have hS2:S=colS K (Gj l):=by rw [hS,Xo oM]);refine GW [(1000,m, .omap (skv (Yf S)))] (results48) ⟨rfl,trivial⟩ ?_;rw [hS2]))
theorem CG (par:List (Int×Int)):∀f i,(TE par f i).length≤f
 |0,_=>Xj _
 | f + 1,i=>by
   rw [TE];split
   · split
     · exact Xf _
     · rename_i x _ _;rw [Xb,Xs];have:=CG par f x.1.toNat;omega
   · exact Xf _
theorem ZiK {a b:Aut} (ha:IsMin a) (hb:IsMin b) (hs:a.syms=b.syms) (op:Int):(cmpX a b op).2.1.length≤2000:=by
 have hf:WW a b=0:=ζu ha.valid hb.valid hs
 cases hq:prodQ a b with
 |none=>rw [Cc hf ha.red hb.red hq];exact Xf _
 | some q=>
   obtain ⟨o,rows⟩:=q;have hP:PQ a b o rows:=⟨ha,hb,hs,hq⟩;have hcap:=hP.ok.2.2;rw [Ca (op:=op) hf ha.red hb.red hq];dsimp only;unfold LW;dsimp only
   cases hx:(o.map (Wz a b op)).idxOf? true with
   |none=>exact Xf _
   | some i=>
     obtain ⟨hi,_⟩:=Zbp.1 hx;(have hil:i<o.length:=by have:=Zf hi;rwa [Xd] at this);have:=CG (o.map (·.2)) (i+1) i;dsimp only;omega
structure CmpR (a b:Aut) (m:Nat) (s:Bool) (v:List Int) (e:Int):Prop where
 eq:cmpX a b 4=(s,v,e)
 inn:∀i∈v,0≤i∧i<m
 len:v.length≤2000
 nil:(¬e=0∨s=true)→v=[]
 fal:¬e=0→s=false
theorem Zmk {a b:Aut} {m:Nat} (ha:IsMin a) (hb:IsMin b) (sa:a.syms=m) (sb:b.syms=m):∃s v e,CmpR a b m s v e:=by
 have hs:a.syms=b.syms:=by rw [sa,sb]
 have hl:=ZiK ha hb hs 4
 rcases Zkd ha hb hs 4 with h|⟨h,_⟩|⟨u,hu,h,_⟩
 · exact ⟨_,_,_,h,fun i hi=>(by cases hi),Xf _,fun _=>rfl,fun _=>rfl⟩
 · exact ⟨_,_,_,h,fun i hi=>(by cases hi),Xf _,fun _=>rfl,fun h=>UU rfl h⟩
 · rw [h] at hl;refine ⟨_,_,_,h,fun i hi=>?_,hl,fun h=>?_,fun _=>rfl⟩
   · unfold wI at hi;obtain ⟨x,hx,rfl⟩:=Xg.1 hi;have:=(ZfC sa).1 hu x hx;omega
   · rcases h with h|h
     · exact UU rfl h
     · cases h
theorem ZiL {a b:Nd} (h:¬(Y3 a=true∧Y3 b=true)):eqTX a b=(false,[],1):=by unfold eqTX;rw [US h]
theorem ZiM {a b:Nd} (h:Y3 a=true∧Y3 b=true) (hl:40<(unT a b).length):eqTX a b=(false,[],5):=by
 unfold eqTX
 rw [OX] at hl
 rw [UT h,US oM]
theorem Zec {a b:Nd} (h:Y3 a=true∧Y3 b=true) (hl:(unT a b).length≤40) (hn:bldT (unT a b) a=none∨bldT (unT a b) b=none):eqTX a b=(false,[],13):=by
 unfold eqTX
 rw [OX] at hl
 rw [UT h,UT hl]
 rcases hn with hn|hn
 · rw [hn]
 · rw [hn];cases bldT (unT a b) a<;>rfl
theorem ZkS {a b:Nd} (h:Y3 a=true∧Y3 b=true) (hl:(unT a b).length≤40) {x y:Aut} (hx:bldT (unT a b) a=some x) (hy:bldT (unT a b) b=some y) {m:Nat} {s:Bool} {v:List Int} {e:Int} (hc:CmpR x y m s v e):eqTX a b=(s,nmI (unT a b) v,e):=by
 unfold eqTX
 rw [OX] at hl
 rw [UT h,UT hl,hx,hy]
 dsimp only
 rw [hc.eq]
theorem Zml {a b:Nd} (h:Y3 a=true∧Y3 b=true) (hl:(unT a b).length≤40):(∀A,bldT (unT a b) a=some A→IsMin A∧A.syms=(unT a b).length)∧∀A,bldT (unT a b) b=some A→IsMin A∧A.syms=(unT a b).length:=
 ⟨fun A hA=>by obtain ⟨k1,k2,_⟩:=Zh8 (Zh7 a b) hl h.1 (fun s hs=>OW.2 (.inl hs)) hA;exact ⟨k1,k2⟩,fun A hA=>by obtain ⟨k1,k2,_⟩:=Zh8 (Zh7 a b) hl h.2 (fun s hs=>OW.2 (.inr hs)) hA;exact ⟨k1,k2⟩⟩
theorem ZiN:∀t:Nd,okT t=true→∀s∈Y6 t,s.size≤40:=Nd.ind fun o a l ih h s hs=>by
 obtain ⟨hr,hp⟩:=Wx.1 h
 rw [Y6] at hs
 have hL:s∈Gj l→s.size≤40:=fun hs=>by
  obtain ⟨x,hx,h1⟩:=Rh.1 hs;exact ih x hx (hp x hx) s h1
 split at hs
 · rcases Xq.1 hs with rfl|hs
   · exact ZeW hr
   · exact hL hs
 · exact hL hs
set_option maxHeartbeats 4000000 in
theorem HP (a b : Nd) (hfa:FitT a) (hfb:FitT b):AF prog 12 [pTr a,pTr b] (· = .tup [ZM (eqTX a b).1,Yj (eqTX a b).2.1,pInt (eqTX a b).2.2]):=by
 have ea:pTr a= .agg [pInt a.op,Z' a.act,Wb a.l]:=rfl
 have eb:pTr b= .agg [pInt b.op,Z' b.act,Wb b.l]:=rfl
 have hVa:=JJ a hfa
 have hVb:=JJ b hfb
 rw [ea] at hVa ⊢
 rw [eb] at hVb ⊢
 refine AF.of_body 70 func12 rfl ntmps12 (Xa rfl) ?_
 intro w0 M0 vs hl hv
 obtain ⟨v0,v1,rfl⟩:=WO hl
 clear hl hv
 refine Ze ?_
 (refine ZG 2 3 fun h2=>?_<;>refine ZG 3 3 fun h3=>?_<;>refine xL 4 Za (xL 5 Za (xL 6 Za ?_))<;>refine Zg ?_)
 ((refine yL 14 (Zs 2 Wc) fun v14 h=>?_;cases h)<;>(refine cS 15 (cA call24 (hVa)) fun v15 h=>?_;cases h)<;>refine xL 16 Yg (xL 17 Zb ?_)<;>(refine bL 17 (fun hb17=>?_) (fun hb17=>?_)<;>(first|refine kL 18 ?_|(refine yL 18 (Zs 3 Wc) fun v18 h=>?_;cases h)))<;>(first|refine kL 19 ?_|(refine cS 19 (cA call24 (hVb)) fun v19 h=>?_;cases h))<;>(first|refine kL 20 ?_|refine xL 20 Yg ?_)<;>refine xL 21 Zz ?_<;>refine Zc ?_)<;>(
 refine cX ?_ ?_<;>intro hb21
 · first|exact bN hb21|(
 have hno:¬(Y3 a=true∧Y3 b=true):=by
  rintro ⟨h1,h2⟩
  first|(rw [h1] at hb17;simp at hb17;done)|(rw [h2] at hb21;simp at hb21;done)
 rw [ZiL hno];refine Ze ?_;(refine xL 4 Za (xL 5 Za (xL 6 Za ?_))<;>refine Zc ?_)
 refine YR (W1 (t:=5) rfl) fun _=>?_;exact Es (results12) (.tmp rfl) (.tmp rfl) (.tmp rfl) rfl)
 · first | exact bN hb21|(
 have hva:Y3 a=true:=by first|(simpa using hb17)|(exfalso;simp_all;done)
 have hvb:Y3 b=true:=by first|(simpa using hb21)|(exfalso;simp_all;done)
 have hv:Y3 a=true∧Y3 b=true:=⟨hva,hvb⟩;have hoa:=K' hva;have hob:=K' hvb;have hsa:=GV hva;have hsb:=GV hvb;have hcol:∀V m,AFh False prog 48 [(0,V, .agg [pInt a.op,Z' a.act,Wb a.l]),(1,m, .val m)] [(1000,m, .omap (skv (Yf [])))] (fun v q h=>h=[(1000,m, .omap (skv (Yf (colS [] (Y6 a)))))]):=fun V m=>Oj a hoa oM [] m V;have hcol2:∀V m,AFh False prog 48 [(0,V, .agg [pInt b.op,Z' b.act,Wb b.l]),(1,m, .val m)] [(1000,m, .omap (skv (Yf (colS [] (Y6 a)))))] (fun v q h=>h=[(1000,m, .omap (skv (Yf (unK a b))))]):=fun V m=>Oj b hob oM _ m V;have hkl:(unK a b).length≤1000000:=by
  have h1:=Ri (Y6 b) (colS [] (Y6 a));have h2:=Ri (Y6 a) [];have h3:=ZdX a hoa;have h4:=ZdX b hob;rw [XC] at h2;unfold unK;omega
 have hks:∀s∈unK a b,s.size≤140737488355328:=fun s hs=>by
  rcases ZdW.1 hs with h|h
  · have:=ZiN a hoa s h;omega
  · have:=ZiN b hob s h;omega
 refine Ze ?_;(refine JZ 22 fun h22 ho22=>?_<;>refine xL 7 Za ?_<;>refine Zc ?_)
 refine Zx (Zy (l:=22) 1000 rfl rfl) fun _=>?_;(refine Zt ?_<;>(refine yL 23 (Zs 2 Wc) fun v23 h=>?_;cases h)<;>refine xL 24 Zb ?_<;>(refine Wy [(1000,h22, .omap (skv (Yf []))),(2,_,_),(3,_,_)] ⟨rfl,rfl,rfl,trivial⟩ ?_;refine WP [2,3] 25 (call48) (hcol v23 h22) (fun v25 p25 h25 hR25=>?_);subst hR25)<;>refine Zg ?_)
 ((refine yL 26 (Zs 3 Wc) fun v26 h=>?_;cases h)<;>refine xL 27 Zb ?_<;>(refine Wy [(1000,h22, .omap (skv (Yf (colS [] (Y6 a))))),(2,_,_),(3,_,_)] ⟨rfl,rfl,rfl,trivial⟩ ?_;refine WP [2,3] 28 (call48) (hcol2 v26 h22) (fun v28 p28 h28 hR28=>?_);subst hR28)<;>refine Zc ?_)
 refine Zx (En.freeze (l:=1000) (t:=7) rfl rfl) fun _=>?_;(refine Zt ?_<;>refine xL 29 Zb ?_<;>refine Zcx (k1:=95) (t:=76) 30 ZgZ (call50) (fun g30 b30 c30 es30 hkv30 hWf30=>?_)<;>refine R6 (ks:=unK a b) 30 31 Do (call49) (fun h=>h) hWf30 hkv30.symm (Zh6 a b) hkl hks (fun v31 ho31=>?_)<;>refine xL 8 Za ?_<;>refine Zc ?_)
 refine Zx (En.freeze (l:=31) (t:=8) rfl rfl) fun _=>?_;rw [Dn _ _ _ (show (unK a b).length=(K1 (unK a b)).length from (JK _).symm)];rw [show K1 (unK a b)=unT a b from rfl];(refine Zt ?_<;>refine xL 32 Zb (xL 33 (ZR Zf3) (xL 34 YP ?_))<;>refine Zc ?_)
 refine cX ?_ ?_<;>intro hb34
 · first|exact bN hb34|(
 rw [ZiM hv oM];refine Ze ?_;(refine xL 4 Za (xL 5 Za (xL 6 Za ?_))<;>refine Zc ?_)
 refine YR (W1 (t:=5) rfl) fun _=>?_;exact Es (results12) (.tmp rfl) (.tmp rfl) (.tmp rfl) rfl)
 · first | exact bN hb34|(
 have hl:(unT a b).length≤40:=oM;obtain ⟨mina,minb⟩:=Zml hv hl;obtain ⟨p0,p1,p2,p3,p4,E,hR⟩:=Zlt (bldT (unT a b) a);have hj:=PK (unT a b) hl a hoa oM (fun s hs=>OW.2 (.inl hs));rw [hR.eq,ea] at hj;have r5:=hR.r5;obtain ⟨o0,o1,o2,o3,o4⟩:=r5.o;obtain ⟨q0,q1,q2,q3,q4,F,hQ⟩:=Zlt (bldT (unT a b) b);have hk:=PK (unT a b) hl b hob oM (fun s hs=>OW.2 (.inr hs));rw [hQ.eq,eb] at hk;have s5:=hQ.r5;obtain ⟨u0,u1,u2,u3,u4⟩:=s5.o;refine Ze ?_;((refine yL 36 (Zs 2 Wc) fun v36 h=>?_;cases h)<;>refine xL 37 Zb ?_<;>(refine cP 38 (cA (call51) hj) (fun va38 vb38 hva38 hvb38=>?_) (hsh:=r5.t E);cases hvb38)<;>refine xL 35 Zb (xL 39 Zi (xL 40 Zi ?_))<;>refine Zw [(.int .i64 0),(.int .i64 0),(.slice none 0 0),(.slice none 0 0),(.slice none 0 0)] 5 9 CF fun h9=>?_<;>refine ZA 9 Ta ?_<;>refine xL 10 Za ?_<;>refine Zg ?_)
 (refine xL 41 Zb (xL 42 YH ?_)<;>refine Zc ?_)
 refine cX ?_ ?_<;>intro hb42
 · first|exact bN hb42|(
 obtain ⟨hn,rfl⟩:=hR.no hb42;rw [Zec hv hl (.inl hn)];refine Ze ?_;(refine xL 43 Zb (xL 4 Za (xL 5 Za (xL 6 Za ?_)))<;>refine Zc ?_)
 refine YR (W1 (t:=5) rfl) fun _=>?_;exact Es (results12) (.tmp rfl) (.tmp rfl) (.tmp rfl) rfl)
 · first | exact bN hb42|(
 obtain ⟨A,hA,rfl,rfl,rfl,rfl,rfl,rfl⟩:=hR.yes (by simpa using hb42);refine Ze ?_;((refine yL 45 (Zs 3 Wc) fun v45 h=>?_;cases h)<;>refine xL 46 Zb ?_<;>(refine cP 47 (cA (call51) hk) (fun va47 vb47 hva47 hvb47=>?_) (hsh:=s5.t F);cases hvb47)<;>refine xL 44 Zb (xL 48 Zi (xL 49 Zi ?_))<;>refine Zw [(.int .i64 0),(.int .i64 0),(.slice none 0 0),(.slice none 0 0),(.slice none 0 0)] 5 11 CF fun h11=>?_<;>refine ZA 11 Ta ?_<;>refine xL 10 Za ?_<;>refine Zg ?_)
 (refine xL 50 Zb (xL 51 YH ?_)<;>refine Zc ?_)
 refine cX ?_ ?_<;>intro hb51
 · first|exact bN hb51|(
 obtain ⟨hn,rfl⟩:=hQ.no hb51;rw [Zec hv hl (.inr hn)];refine Ze ?_;(refine xL 52 Zb (xL 4 Za (xL 5 Za (xL 6 Za ?_)))<;>refine Zc ?_)
 refine YR (W1 (t:=5) rfl) fun _=>?_;exact Es (results12) (.tmp rfl) (.tmp rfl) (.tmp rfl) rfl)
 · first |exact bN hb51|(
 obtain ⟨B,hB,rfl,rfl,rfl,rfl,rfl,rfl⟩:=hQ.yes (by simpa using hb51);obtain ⟨mA,sA⟩:=mina A hA;obtain ⟨mB,sB⟩:=minb B hB;obtain ⟨s,v,e,hc⟩:=Zmk mA mB sA sB;have hj3:AF prog 52 [ZO A,ZO B] (· = .tup [ZM s,pInts v,pInt e]):=by
  have:=H8 A B;rw [hc.eq] at this;exact this
 rw [ZkS hv hl hA hB hc];have hvl:=hc.len;refine Ze ?_;((refine yL 54 (Zs 9 Ta) fun v54 h=>?_;cases h)<;>(refine yL 55 (Zs 11 Ta) fun v55 h=>?_;cases h)<;>(refine Zjx 56 (cA (call52) hj3) (fun va56 vb56 vc56 hva56 hvb56 hvc56=>?_);cases hva56;cases hvc56)<;>refine xL 53 Zb (xL 57 Zi (xL 58 Zi (xL 59 Zi (xL 12 Za (xL 13 Za (xL 10 Za ?_))))))<;>refine Zg ?_)
 (refine xL 60 Zb (xL 61 YH (xL 62 Zb ?_))<;>(refine bLd 62 (fun hb62=>?_) (fun hb62=>?_)<;>(first|refine kL 63 ?_|refine xL 63 Zb ?_))<;>refine xL 64 Zz ?_<;>refine Zc ?_)<;>(
 refine cX ?_ ?_<;>intro hb64
 · first|exact bN hb64|(
 have hvn:v=[]:=hc.nil (by first|exact .inl (by simpa using hb62)|exact .inr (by simpa using hb64));subst hvn;refine Ze ?_;(refine xL 65 Zb (xL 66 Zb (xL 4 Za (xL 5 Za (xL 6 Za ?_))))<;>refine Zc ?_)
 refine YR (W1 (t:=5) rfl) fun _=>?_;exact Es (results12) (.tmp rfl) (.tmp rfl) (.tmp rfl) rfl)
 · first|exact bN hb64|(
 have hs0:s=false:=by first|(simpa using hb64)|(exfalso;simp_all;done)
 have he0:e=0:=by first|(simpa using hb62)|(exfalso;simp_all;done)
 subst hs0 he0;refine Ze ?_;(refine xL 67 Zb (xL 68 Zb ?_)<;>(refine cS 69 (cA call53 (Cx v (unT a b) oM hc.inn)) fun v69 h=>?_;cases h)<;>refine xL 4 Za (xL 5 Za (xL 6 Za ?_))<;>refine Zc ?_)
 exact Es (results12) (.tmp rfl) (.tmp rfl) (.tmp rfl) rfl)))))))
theorem ZkT (a b:Nd):unT a b=canB (Y6 a++Y6 b):=by unfold unT unK canB;rw [Tw]
def Zf4 (i:Nat) (a:Aut):Option Aut:=match (Zil a).upto (RI a a.start) i with
 |some q=>if q.1.length≤i then WS ⟨a.syms.toNat,q.2,q.1.map (KF a)⟩ else none
 |none=>none
theorem OY {i:Nat} (hi:i≤2000) {a A:Aut} (h:Zf4 i a=some A):WH a= .ok A:=by
 unfold Zf4 at h
 split at h
 · rename_i q hq;split at h
   · rename_i hl;exact Zkr i hq hl hi h
   · cases h
 · cases h
def ZkU (i:Nat) (a:Aut):Option Aut:=if Z4 a=true then Zf4 i a else none
def Zf5 (i:Nat) (X:Aut):Option Aut:=if 2000<X.n∨20000<(mkM X.moves).length then none else Zf4 i (mkA X)
theorem Zed {i:Nat} (hi:i≤2000) {a A:Aut} (h:ZkU i a=some A):GZ a= .ok A:=by
 unfold ZkU at h
 unfold GZ
 split at h
 · rename_i h1;rw [UT h1];exact OY hi h
 · cases h
theorem OZ {i:Nat} (hi:i≤2000) {a A:Aut} (h:Zf5 i a=some A):Jh a= .ok A:=by
 unfold Zf5 at h
 unfold Jh DZ
 split at h
 · cases h
 · rename_i h1;rw [US h1];exact OY hi h
def ZiO (i:Nat) (a b:Aut):Option Aut:=if WW a b=0 then Zf5 i (Kz a b) else none
def Zmm (i:Nat) (a b:Aut):Option Aut:=if WW a b=0 then Zf5 i (Jc a b) else none
def Zmn (i:Nat) (a:Aut):Option Aut:=if Z4 a=true then Zf5 i (Ji a) else none
def Zmo (i:Nat) (a b:Aut):Option Aut:=if WW a b=0 then (if 2000<a.n*b.n∨40000<(a.moves.length:Int)*b.n+(b.moves.length:Int)*a.n then none else Zf5 i (Kw a b)) else none
def ZiP (i:Nat) (a b:Aut):Option Aut:=(ZiO i b a).bind fun x=>(Zmn i x).bind fun s=>ZiO i a s
def ZiQ (i:Nat) (o:Int) (a b:Aut):Option Aut:=if o=3 then ZiO i a b else if o=4 then Zmm i a b else if o=6 then ZiP i a b else Zmo i a b
theorem ζL {i:Nat} (hi:i≤2000) {a b A:Aut} (h:ZiO i a b=some A):TJ a b= .ok A:=by
 unfold ZiO at h
 unfold TJ
 split at h
 · rename_i h1;rw [US (fun h=>h h1)];exact OZ hi h
 · cases h
theorem ZkV {i:Nat} (hi:i≤2000) {a b A:Aut} (h:Zmm i a b=some A):LY a b= .ok A:=by
 unfold Zmm at h
 unfold LY
 split at h
 · rename_i h1;rw [US (fun h=>h h1)];exact OZ hi h
 · cases h
theorem ZkW {i:Nat} (hi:i≤2000) {a A:Aut} (h:Zmn i a=some A):Gu a= .ok A:=by
 unfold Zmn at h
 unfold Gu
 split at h
 · rename_i h1;rw [UT h1];exact OZ hi h
 · cases h
theorem ZkX {i:Nat} (hi:i≤2000) {a b A:Aut} (h:Zmo i a b=some A):RA a b= .ok A:=by
 unfold Zmo at h
 unfold RA
 split at h
 · rename_i h1;rw [US (fun h=>h h1)];split at h
   · cases h
   · rename_i h2;rw [US h2];exact OZ hi h
 · cases h
theorem ZiR {i:Nat} (hi:i≤2000) {a b A:Aut} (h:ZiP i a b=some A):GP a b= .ok A:=by
 unfold ZiP at h
 obtain ⟨x,h1,h⟩:=XU.1 h
 obtain ⟨s,h2,h3⟩:=XU.1 h
 unfold GP
 rw [ζL hi h1]
 dsimp only
 rw [ZkW hi h2]
 exact ζL hi h3
theorem ZkY {i:Nat} (hi:i≤2000) {o:Int} {a b A:Aut} (h:ZiQ i o a b=some A):Kh o a b= .ok A:=by
 unfold ZiQ at h
 unfold Kh
 split at h
 · rename_i h1;rw [UT h1];exact ζL hi h
 rename_i h1
 rw [US h1]
 split at h
 · rename_i h2;rw [UT h2];exact ZkV hi h
 rename_i h2
 rw [US h2]
 split at h
 · rename_i h3;rw [UT h3];exact ZiR hi h
 · rename_i h3;rw [US h3];exact ZkX hi h
def Znm (i:Nat) (o:Int):List (Option Aut)→Option Aut
 |[]=>none
 |x::l=>l.foldl (fun r p=>r.bind fun a=>p.bind fun b=>ZiQ i o a b) x
mutual
def Zf6 (i:Nat) (acts:List ByteArray):Nd→Option Aut
 | .mk o a l=>if o=1 then ZkU i (Lu acts.length (Kf acts a)) else if o=2 then ZkU i (Pt acts.length) else Znm i o (Zee i acts l)
def Zee (i:Nat) (acts:List ByteArray):List Nd→List (Option Aut)
 |[]=>[]
 |x::l=>Zf6 i acts x::Zee i acts l
end
theorem ZiS (i:Nat) (acts:List ByteArray) (l:List Nd):Zee i acts l=l.map (Zf6 i acts):=by
 induction l with
 |nil=>rfl
 |cons x l ih=>rw [Zee,ih];rfl
theorem Zef {i:Nat} (hi:i≤2000) {o:Int}:∀(l m:List (Option Aut)) (r s:Option Aut) {A:Aut},l.length=m.length→(∀(k:Nat) (x y:Option Aut) (B:Aut),l[k]? =some x→m[k]? =some y→x=some B→y=some B)→(∀B,r=some B→s=some B)→l.foldl (fun r p=>r.bind fun a=>p.bind fun b=>ZiQ i o a b) r=some A→m.foldl (JQ o) s=some A
 |[],[],r,s,A,_,_,hr,h=>hr A h
 |[],_::_,_,_,_,h,_,_,_=>by simp at h
 |_::_,[],_,_,_,h,_,_,_=>by simp at h
 | x::l,y::m,r,s,A,hl,hm,hr,h=>by
   rw [X'] at h ⊢;refine Zef hi l m _ _ (by simpa using hl) (fun k x' y' B h1 h2=>hm (k+1) x' y' B (by simpa using h1) (by simpa using h2)) (fun B hB=>?_) h;obtain ⟨a,h1,hB⟩:=XU.1 hB;obtain ⟨b,h2,hB⟩:=XU.1 hB;have h3:=hm 0 x y b rfl rfl h2;rw [hr a h1,h3];show okO (Kh o a b)=some B;rw [ZkY hi hB];rfl
theorem ζM {i:Nat} (hi:i≤2000) (acts:List ByteArray):∀(t:Nd) {A:Aut},Zf6 i acts t=some A→bldT acts t=some A:=Nd.ind fun o a l ih A h=>by
 rw [Zf6] at h
 rw [bldT]
 split at h
 · rename_i h1;rw [UT h1];show okO (GZ (Lu acts.length (Kf acts a)))=some A;rw [Zed hi h];rfl
 rename_i h1
 rw [US h1]
 split at h
 · rename_i h2;rw [UT h2,Zed hi h];rfl
 rename_i h2
 rw [US h2,ζw]
 rw [ZiS] at h
 cases l with
 |nil=>cases h
 | cons x l=>
   have h3:(l.map (Zf6 i acts)).foldl (fun r p=>r.bind fun a=>p.bind fun b=>ZiQ i o a b) (Zf6 i acts x)=some A:=h;show (l.map (bldT acts)).foldl (JQ o) (bldT acts x)=some A;refine Zef hi _ _ _ _ sM (fun k x' y' B h4 h5 h6=>?_) (fun B hB=>ih x (Xi ..) hB) h3;rw [Xm,XA] at h4 h5;obtain ⟨z,hz,rfl⟩:=h4;obtain ⟨z',hz',rfl⟩:=h5;rw [hz] at hz'
   cases hz';exact ih z (Xn _ (Xc hz)) h6
def sA:ByteArray:=⟨#[97]⟩
def sB:ByteArray:=⟨#[98]⟩
def sC:ByteArray:=⟨#[99]⟩
def lfT (s:ByteArray):Nd:= .mk 1 s []
def opT (o:Int) (l:List Nd):Nd:= .mk o ByteArray.empty l
def HQ:Nd:=opT 3 [lfT sA,opT 4 [lfT sB,opT 2 []],lfT sC]
def Ol:Nd:=opT 5 [lfT sA,opT 6 [lfT sB,opT 2 []]]
def Om:Nd:=opT 6 [lfT sB,lfT sA]
def Zm7 (i:Nat) (a b:Aut) (op:Int):Option (Bool×List Int×Int):=if WW a b=0 then (Zf4 i a).bind fun A=>(Zf4 i b).bind fun B=>((Y7 A B).upto ((0,0),(-1,-1)) i).bind fun q=>if q.1.length≤i then some ((LW A B op q).1,(LW A B op q).2,0) else none else none
theorem ZkZ {i:Nat} (hi:i≤2000) {a b:Aut} {op:Int} {r:Bool×List Int×Int} (h:Zm7 i a b op=some r):cmpX a b op=r:=by
 unfold Zm7 at h
 split at h
 · rename_i hf;obtain ⟨A,hA,h⟩:=XU.1 h;obtain ⟨B,hB,h⟩:=XU.1 h;obtain ⟨q,hq,h⟩:=XU.1 h;split at h
   · rename_i hl
     cases h;exact Zks hf (Zim i (OY hi hA) (OY hi hB) hq hl hi)
   · cases h
 · cases h
def HR:Aut:=⟨5,3,[0],[4],[⟨0,1,0⟩,⟨0,2,1⟩,⟨0,2,2⟩,⟨1,2,0⟩,⟨1,3,1⟩,⟨1,4,2⟩,⟨2,2,0⟩,⟨2,2,1⟩,⟨2,2,2⟩,⟨3,2,0⟩,⟨3,2,1⟩,⟨3,4,2⟩,⟨4,2,0⟩,⟨4,2,1⟩,⟨4,2,2⟩]⟩
def Zlu:Aut:=⟨5,2,[0],[4],[⟨0,1,0⟩,⟨0,2,1⟩,⟨1,3,0⟩,⟨1,4,1⟩,⟨2,4,0⟩,⟨2,2,1⟩,⟨3,3,0⟩,⟨3,3,1⟩,⟨4,3,0⟩,⟨4,4,1⟩]⟩
def Zlv:Aut:=⟨3,2,[0],[2],[⟨0,1,0⟩,⟨0,2,1⟩,⟨1,1,0⟩,⟨1,1,1⟩,⟨2,0,0⟩,⟨2,1,1⟩]⟩
theorem Zk0:bldT [sA,sB,sC] HQ=some HR:=ζM (i:=30) dC _ _ kR
theorem Zk1:bldT [sA,sB] Ol=some Zlu:=ζM (i:=30) dC _ _ kR
theorem Zk2:bldT [sA,sB] Om=some Zlv:=ζM (i:=30) dC _ _ kR
theorem ZiT:cmpX Zlu Zlv 4=(false,[1],0):=ZkZ (i:=30) dC kR
theorem ζN:Y3 HQ=true:=by decide+kernel
theorem Zeg:Y3 Ol=true:=by decide+kernel
theorem Zeh:Y3 Om=true:=by decide+kernel
theorem ZiU:Sk [sA,sB,sC]:=by unfold Sk;decide+kernel
theorem Zk3:actR HQ=([sA,sB,sC],0):=by
 have h:[sA,sB,sC]=canB (Y6 HQ):=RH ZiU fun s=>Iff.rfl
 have h2:(colS [] (Y6 HQ)).length=3:=by
  have:=congrArg List.length h;unfold canB at this;rw [JK] at this;exact this.symm
 unfold actR
 rw [UT ζN,UT oM]
 exact Prod.ext h.symm rfl
theorem Zei:unT Ol Om=[sA,sB]:=by
 rw [ZkT]
 refine (RH (show Sk [sA,sB] by unfold Sk;decide+kernel) fun s=>?_).symm
 rw [show Y6 Ol++Y6 Om=[sA,sB,sB,sA] from rfl]
 simp only [Xq,List.not_mem_nil,or_false]
 constructor
 · rintro (h|h)
   · exact .inl h
   · exact .inr (.inl h)
 · rintro (h|h|h|h)
   · exact .inl h
   · exact .inr h
   · exact .inr h
   · exact .inl h
theorem Zk4:eqTX Ol Om=(false,[sB],0):=by
 have h2:=OX Ol Om
 rw [Zei] at h2
 unfold eqTX
 rw [UT ⟨Zeg,Zeh⟩,UT (by rw [←h2];decide),Zei,Zk1,Zk2]
 dsimp only
 rw [ZiT];rfl
theorem Zk5:Z4 HR=true:=by kernel_rfl
theorem ZbZ:Y9 HR=[2,1,-1,1,0]:=by kernel_rfl
theorem ZiV:Zmf HR [2,1,-1,1,0] 5=false:=by kernel_rfl
theorem ZiW:Zkn HR [2,1,-1,1,0] 5 6=[[0,2],[0,1,2]]:=by kernel_rfl
theorem KQ:AggT prog 24 3=true:=by kernel_rfl
theorem HS:AggT prog 39 5=true:=by kernel_rfl
theorem LC:ElT prog 22 24 3 48 (.agg #[(.int .i64 0),(.string ByteArray.empty),(.slice none 0 0)]):=⟨underlying22,by kernel_rfl,rfl,dC⟩
theorem PL:ElT prog 27 9 1 16 (.string ByteArray.empty):=⟨underlying27,by kernel_rfl,rfl,dC⟩
theorem PM:ElT prog 71 27 1 24 (.slice none 0 0):=⟨underlying71,by kernel_rfl,rfl,dC⟩
theorem Zf7:NoAgg prog 36=true:=by kernel_rfl
theorem Zb0:NoAgg prog 9=true:=by kernel_rfl
theorem HT:SlT prog 117 36 1=true:=by kernel_rfl
theorem LD:SlT prog 27 9 1=true:=by kernel_rfl
theorem PN:Ke prog 24=some ((.agg #[(.int .i64 0),(.string ByteArray.empty),(.slice none 0 0)]),([0,1,2]:List Nat).map fun o=>(o,1)):=by kernel_rfl
theorem PO:ZeroT prog 24 (.agg #[(.int .i64 0),(.string ByteArray.empty),(.slice none 0 0)]):=by unfold ZeroT;kernel_rfl
theorem Zf8:ZeroT prog 39 (.agg #[(.int .i64 0),(.int .i64 0),(.slice none 0 0),(.slice none 0 0),(.slice none 0 0)]):=by unfold ZeroT;kernel_rfl
theorem Zdh (e:Nat) (L:List (List ByteArray)) (x:List ByteArray):PV.own e 1 (L.length+1) (L.map Yj++[Yj x])= .own e 1 (L++[x]).length ((L++[x]).map Yj):=sM
theorem ζO (e n:Nat) (l:List (List ByteArray)) (hn:n=l.length):share (.own e 1 n (l.map Yj))=RX l:=by
 subst hn
 rw [share,Yb,XI];rfl
set_option maxHeartbeats 1000000 in
theorem Zdi (t :Nd) (hf:FitT t) (hv:Y3 t=true) {L:List ByteArray} {A:Aut} (hA:actR t=(L,0)) (hB:bldT L t=some A) (n:Int) (hn:0≤n∧n≤200) (W:List (List Int)) (hWl:W.length≤100000) (hWw:∀w∈W,w.length≤1000∧∀i∈w,0≤i∧i<L.length) (hW:AF prog 91 [ZO A,pInt n] (· = .tup [Dd W,pInt 0])):AF prog 43 [pTr t,pInt n] (· = .tup [RX (W.map (nmI L)),pInt 0]):=by
 have e0:pTr t= .agg [pInt t.op,Z' t.act,Wb t.l]:=rfl
 have hV:=JJ t hf
 rw [hv] at hV
 have hS:RS (bldT L t) (pInt A.n) (pInt A.syms) (pInts A.start) (pInts A.fin) (pMvs A.moves) 0:=⟨R5.aut A,by rw [hB];rfl, .inr ⟨A,hB,rfl,rfl,rfl,rfl,rfl,rfl⟩⟩
 have hj:=ZiH t hf hA hS
 rw [e0] at hV hj ⊢
 refine AF.of_body 54 func43 rfl ntmps43 (Xa rfl) ?_
 intro w0 M0 vs hl hv
 obtain ⟨v0,v1,rfl⟩:=WO hl
 obtain rfl:=hv 1 _ _ rfl rfl
 clear hl hv
 refine Ze ?_
 (refine ZG 2 3 fun h2=>?_<;>refine xL 4 Za (xL 5 Za ?_)<;>refine Zg ?_)
 ((refine yL 13 (Zs 2 KQ) fun v13 h=>?_;cases h)<;>(refine cS 14 (cA call24 (hV)) fun v14 h=>?_;cases h)<;>refine xL 15 Yg ?_<;>refine Zc ?_)
 refine cX ?_ ?_<;>intro hb15
 · exact bN hb15
 · refine Ze ?_;(refine xL 16 Zb (xL 17 ZQ (xL 18 Zb ?_))<;>(refine bLd 18 (fun hb18=>?_) (fun hb18=>?_)<;>(first|refine kL 19 ?_|refine xL 19 Zb ?_))<;>(first|refine kL 20 ?_|refine xL 20 YP ?_)<;>refine xL 21 Zz ?_<;>refine Zc ?_)<;>(
 refine cX ?_ ?_<;>intro hb21
 · exfalso;first|omega|(simp_all;done)|(simp_all;omega)
 · refine Ze ?_;((refine yL 23 (Zs 2 KQ) fun v23 h=>?_;cases h)<;>(refine Zjx 24 (cA (call66) hj) (fun va24 vb24 vc24 hva24 hvb24 hvc24=>?_);cases hvc24)<;>refine xL 22 Zb (xL 25 Zi (xL 26 Zi (xL 27 Zi ?_)))<;>refine Zw [(.int .i64 0),(.int .i64 0),(.slice none 0 0),(.slice none 0 0),(.slice none 0 0)] 5 6 Zf8 fun h6=>?_<;>refine ZA 6 HS ?_<;>refine xL 7 Za (xL 8 Za ?_)<;>refine Zg ?_)
   (refine xL 28 Zb (xL 29 YH ?_)<;>refine Zc ?_)
   refine cX ?_ ?_<;>intro hb29
   · exact UU rfl hb29
   · refine Ze ?_;((refine yL 32 (Zs 6 HS) fun v32 h=>?_;cases h)<;>refine xL 33 Zb ?_<;>(refine cP 34 (cA call91 (hW)) fun va34 vb34 hva34 h=>?_;cases h)<;>refine xL 31 Zb (xL 35 Zi (xL 36 Zi (xL 9 Za (xL 8 Za ?_))))<;>refine Zg ?_)
     (refine xL 37 Zb (xL 38 YH ?_)<;>refine Zc ?_)
     refine cX ?_ ?_<;>intro hb38
     · exact UU rfl hb38
     · refine Ze ?_;(refine xL 10 Za ?_<;>refine Zg ?_)
       (refine xL 40 Zb (xL 41 (ZR HT) (xL 42 Zb ?_))<;>refine Zc ?_)
       refine Zx (KB 200 27 1 rfl) fun _=>?_;refine ZD (ι:={q:Nat×Value//q.1≤W.length∧q.2.oneCell'=true}) (fun k=>⟨[(4,_,_),(5,_,_),(7,_,_),(8,_,_),(40,_,_),(41,_,_),(10,k.1.2, .val k.1.2),(42, .int .i64 k.1.1,pInt k.1.1)],[(2,_,_),(6,_,_),(200,k.1.2, .own 27 1 ((W.take k.1.1).map (nmI L)).length (((W.take k.1.1).map (nmI L)).map Yj))]⟩) (fun k=>W.length-k.1.1) ⟨(0, .slice none 0 0),Xf _,rfl⟩ (fun a w H=>H.weaken ⟨rfl,rfl,rfl,rfl,rfl,rfl,rfl,rfl,trivial⟩ ⟨rfl,rfl,rfl,trivial⟩) ?_;rintro ⟨⟨i,hv10⟩,hi,ho⟩;dsimp only;dsimp only at hi ho;(have hwl:((W.take i).map (nmI L)).length≤W.length:=by rw [Xd,Xx];omega);refine Ze ?_;(refine xL 43 ZQ ?_<;>refine Zc ?_)
       refine cX ?_ ?_<;>intro hb43
       · first|exact bN hb43|(
 obtain ⟨w,hw⟩:=Zp (show i<W.length by omega);have e1:=Ym (f:=pInts) hw;obtain ⟨hw1,hw2⟩:=hWw w (Xc hw);refine Ze ?_;(refine xL 44 (ZF HT) ?_<;>(refine yL 45 (Yo Zf7) fun v45 h=>?_;cases h)<;>refine xL 12 Za ?_<;>refine Zg ?_)
 (refine xL 46 Zb (xL 47 Zb (xL 48 Zb ?_))<;>(refine cS 49 (cA call53 (Cx w L oM hw2)) fun v49 h=>?_;cases h)<;>refine ZJ (kk:=1) 50 PM fun h50 ho50=>?_<;>(refine ZU 200 50 51 PM fun h51 ho51=>?_;refine Zr (Zy (l:=51) 200 rfl rfl) fun _=>?_;refine Zr (ZP (l:=200) (p':= .own 27 1 ((W.take (i+1)).map (nmI L)).length (((W.take (i+1)).map (nmI L)).map Yj)) rfl (by rw [ZE hw,Xr];exact Zdh _ _ _)) fun _=>?_)<;>refine xL 10 Za ?_<;>refine Zg ?_)
 (refine xL 52 ZH (xL 42 Zb ?_)<;>refine Zc ?_)
 refine Zn (
  ⟨(i+1,h51),Zf hw,ho51⟩
  ) (by dsimp only;omega) ⟨rfl,rfl,rfl,rfl,rfl,rfl,rfl,rfl,trivial⟩ ⟨rfl,rfl,rfl,trivial⟩)
       · first|exact bN hb43|(
 rw [Xo (show W.length≤i by omega)];refine Zx (En.freeze (l:=200) (t:=10) rfl rfl) fun _=>?_;rw [ζO _ _ _ rfl];refine Ze ?_;(refine xL 53 Zb (xL 4 Za (xL 5 Za ?_))<;>refine Zc ?_)
 exact Wr (results43) rfl rfl rfl))
theorem Zmp (s:ByteArray):Rr (.agg [pInt 1,Z' s, .val (.slice none 0 0)]) (pTr (lfT s)):=Rr.agg rfl fun i a b ha hb=>by
 match i with
 |0=>cases ha;cases hb;exact Rr.rfl' _
 |1=>cases ha;cases hb;exact Rr.rfl' _
 |2=>cases ha;cases hb;exact Rr.nil
 |i+3=>simp at ha
theorem TU (a:List ByteArray):AF prog 14 [Yj a,Yj a] (· =ZM true):=by
 refine AF.of_body 26 func14 rfl ntmps14 (Xa rfl) ?_
 intro w0 M0 vs hl hv
 obtain ⟨v0,v1,rfl⟩:=WO hl
 clear hl hv
 refine WY 0 rfl fun hlen=>?_
 refine Ze ?_
 (refine xL 4 Za ?_<;>refine Zg ?_)
 (refine xL 6 Zb (xL 7 (ZR LD) (xL 8 Zb (xL 9 (ZR LD) (xL 10 YH ?_))))<;>refine Zc ?_)
 refine cX ?_ ?_<;>intro hb10
 · first|exact bN hb10|(
 refine Ze ?_;(refine xL 4 Za ?_<;>refine Zc ?_)
 exfalso;omega)
 · first | exact bN hb10|(
 refine Ze ?_;(refine xL 11 Zb (xL 12 (ZR LD) (xL 13 Zb ?_))<;>refine Zc ?_)
 refine ZD (ι:={k:Nat//k≤a.length}) (fun k=>⟨[(0,_,_),(1,_,_),(12,_,_),(13, .int .i64 k.1,pInt k.1)],[]⟩) (fun k=>a.length-k.1) ⟨0,oM⟩ (fun a w H=>H.weaken ⟨rfl,rfl,rfl,rfl,trivial⟩ trivial) ?_;rintro ⟨k,hk⟩;dsimp only;refine Ze ?_;(refine xL 14 ZQ ?_<;>refine Zc ?_)
 refine cX ?_ ?_<;>intro hb14
 · first |exact bN hb14|(
 obtain ⟨x,hx⟩:=Zp (show k<a.length by omega);have e1:=Ym (f:=Z') hx;refine Ze ?_;(refine xL 15 Zb (xL 5 Za ?_)<;>refine Zc ?_)
 (refine Z5 (fun i=>([]:List Nat).elem i) [] kR ?_<;>refine xD 0 16 rfl Zb ?_<;>refine xD 1 17 rfl Zb ?_<;>refine xD 2 18 rfl (ZF LD) ?_<;>(refine yD 3 19 rfl (Yo Zb0) fun v19 h=>?_;cases h)<;>refine xD 4 20 rfl Zb ?_<;>refine xE 5 21 rfl Zb ?_<;>refine xE 6 22 rfl (ZF LD) ?_<;>(refine yE 7 23 rfl (Yo Zb0) fun v23 h=>?_;cases h)<;>refine xE 8 24 rfl ZlJ ?_<;>refine YC kR (nav ?_)<;>try dsimp only)
 refine cX ?_ ?_<;>intro hb24
 · first|exact bN hb24|(
 refine Ze ?_;(refine xL 4 Za ?_<;>refine Zc ?_)
 exfalso;simp at hb24)
 · first|exact bN hb24|(
 refine Ze ?_;(refine xL 25 ZH (xL 13 Zb ?_)<;>refine Zc ?_)
 refine Zn (
  ⟨k+1,Zf hx⟩
  ) (by dsimp only;omega) ⟨rfl,rfl,rfl,rfl,trivial⟩ trivial))
 · first|exact bN hb14|(
 refine Ze ?_;(refine xL 4 Za ?_<;>refine Zc ?_)
 exact Zv (results14) rfl rfl))
theorem HU (s:ByteArray):AF prog 41 [Z' s] (· =pTr (lfT s)):=by
 refine AF.reread (p:= .agg [pInt 1,Z' s, .val (.slice none 0 0)]) ?_ rfl (Zmp s)
 refine AF.of_body 5 func41 rfl ntmps41 (Xa rfl) ?_
 intro w0 M0 vs hl hv
 obtain ⟨v0,rfl⟩:=WL hl
 obtain rfl:=hv 0 _ _ rfl rfl
 clear hl hv
 refine Ze ?_
 (refine Zw [(.int .i64 0),(.string ByteArray.empty),(.slice none 0 0)] 3 2 PO fun h2=>?_<;>refine Zg ?_)
 (refine xL 3 Zb (xL 4 (ZL PN) ?_)<;>refine ZA 2 KQ ?_<;>refine Zc ?_)
 exact JG (k:=3) 2 kR (results41) rfl rfl (Xa rfl) dC rfl rfl
theorem LF (o:Int) (l:List Nd):AF prog 42 [pInt o,Wb l] (· =pTr (opT o l)):=by
 refine AF.of_body 8 func42 rfl ntmps42 (Xa rfl) ?_
 intro w0 M0 vs hl hv
 obtain ⟨v0,v1,rfl⟩:=WO hl
 obtain rfl:=hv 0 _ _ rfl rfl
 clear hl hv
 refine Ze ?_
 (refine Zw [(.int .i64 0),(.string ByteArray.empty),(.slice none 0 0)] 3 4 PO fun h4=>?_<;>refine Zg ?_)
 (refine xL 5 Zb (xL 6 Zb (xL 7 (ZL PN) ?_))<;>refine ZA 4 KQ ?_<;>refine Zc ?_)
 exact JG (k:=3) 4 kR (results42) rfl rfl (Xa rfl) dC rfl rfl
theorem Zdj:AF prog 91 [ZO HR,pInt 5] (· = .tup [Dd [[0,2],[0,1,2]],pInt 0]):=(Zht HR 5).mono fun p hp=>by
 rcases hp with ⟨h,_⟩|⟨_,h,_⟩|⟨_,_,_,h,_⟩|⟨_,_,_,_,h⟩
 · rw [Zk5] at h;cases h
 · omega
 · rw [Zko,ZbZ,show (5:Int).toNat=5 from rfl,ZiV] at h;cases h
 · rw [h,Zd4,ZbZ,show (5:Int).toNat=5 from rfl,ZiW]
theorem Zdk {t:Nd} (h:Y3 t=true):FitT t:=Zjz t (K' h) (by have:=GV h;omega)
theorem Zmq:AF prog 43 [pTr HQ,pInt 5] (· = .tup [RX [[sA,sC],[sA,sB,sC]],pInt 0]):=
 Zdi HQ (Zdk ζN) ζN Zk3 Zk0 5 dC [[0,2],[0,1,2]] dC dC Zdj
theorem Zmr:AF prog 12 [pTr Ol,pTr Om] (· = .tup [ZM false,Yj [sB],pInt 0]):=by
 have:=HP Ol Om (Zdk Zeg) (Zdk Zeh)
 rw [Zk4] at this
 exact this
theorem RR (x y:Nd):PV.sl 2 (cN x++cN y)=Wb [x,y]:=by unfold Wb;rw [S7];simp
theorem Zdl (x y z:Nd):PV.sl 3 (cN x++(cN y++cN z))=Wb [x,y,z]:=by unfold Wb;rw [S7];simp
theorem Zf9:S5 [[sA,sC],[sA,sB,sC]] [[sA,sC],[sA,sB,sC]]=true:=by decide+kernel
set_option maxHeartbeats 4000000 in
theorem Tb:AF prog 10 [] (· =ZM true):=by
 have hactA:=HU sA
 have hactB:=HU sB
 have hactC:=HU sC
 have hS:Rr (.agg [pInt 2, .val (.string ByteArray.empty), .val (.slice none 0 0)]) (pTr (opT 2 [])):=ZlV
 refine AF.of_body 72 func10 rfl ntmps10 (Xa rfl) ?_
 intro w0 M0 vs hl hv
 obtain rfl:=XO hl
 clear hl hv
 refine Ze ?_
 (refine xL 0 Za ?_<;>refine Zg ?_)
 (refine xL 1 Za ?_<;>refine Zg ?_)
 (refine xL 2 Za ?_<;>refine Zg ?_)
 ((refine xL 9 (ZL PN) ?_;refine Zr (Zli (t:=9) (p':=pTr (opT 2 [])) rfl hS) fun _=>?_)<;>refine Zw [(.int .i64 0),(.string ByteArray.empty),(.slice none 0 0)] 3 3 PO fun h3=>?_<;>refine ZA 3 KQ ?_<;>refine Zc ?_)
 (refine Z5 (fun i=>([18]:List Nat).elem i) [3] kR ?_<;>refine xD 0 11 rfl Zb ?_<;>refine xD 1 12 rfl Zb ?_<;>refine xD 3 14 rfl Zb ?_<;>refine xD 4 15 rfl Zb ?_<;>(refine yD 6 17 rfl (Zs 3 KQ) fun v17 h=>?_;cases h)<;>refine xD 9 20 rfl Zb ?_<;>(refine Zq 2 kR ?_)<;>(refine WE (d:=13) rfl (Gg (f:=41) (ps:=[]) rfl ⟨_,rfl⟩ (call41) rfl hactA) fun v13 h=>?_;cases h)<;>(refine Zq 5 kR ?_)<;>(refine WE (d:=16) rfl (Gg (f:=41) (ps:=[]) rfl ⟨_,rfl⟩ (call41) rfl hactB) fun v16 h=>?_;cases h)<;>(refine Zq 7 kR ?_)<;>(refine Zj rfl fun w9 M9 N9 DQ back=>?_)<;>(refine Dj (kk:=3) (xs:=[_,_]) (cs:=[[_,_,_],[_,_,_]]) 18 LC fun h18 ho18=>?_;refine Zr (En.freeze (l:=18) (t:=18) rfl rfl) fun _=>?_;refine Zr (KO (t:=18) (p':=Wb [lfT sB,opT 2 []]) rfl (Eq.trans (show _=PV.sl 2 (cN (lfT sB)++cN (opT 2 [])) from rfl) (RR _ _))) fun _=>?_)<;>refine Zh (back _ (nrm ?_))<;>(refine Zq 8 kR ?_)<;>(refine WE (d:=19) rfl (Gg (f:=42) (ps:=[]) rfl ⟨_,rfl⟩ (call42) rfl (LF 4 [lfT sB,opT 2 []])) fun v19 h=>?_;cases h)<;>(refine Zq 10 kR ?_)<;>(refine WE (d:=21) rfl (Gg (f:=41) (ps:=[]) rfl ⟨_,rfl⟩ (call41) rfl hactC) fun v21 h=>?_;cases h)<;>(refine Zq 11 kR ?_)<;>(refine Zj rfl fun w9 M9 N9 DQ back=>?_)<;>(refine Dj (kk:=3) (xs:=[_,_,_]) (cs:=[[_,_,_],[_,_,_],[_,_,_]]) 22 LC fun h22 ho22=>?_;refine Zr (En.freeze (l:=22) (t:=22) rfl rfl) fun _=>?_;refine Zr (KO (t:=22) (p':=Wb [lfT sA,opT 4 [lfT sB,opT 2 []],lfT sC]) rfl (Eq.trans (show _=PV.sl 3 (cN (lfT sA)++(cN (opT 4 [lfT sB,opT 2 []])++cN (lfT sC))) from rfl) (Zdl _ _ _))) fun _=>?_)<;>refine Zh (back _ (nrm ?_))<;>(refine Zq 12 kR ?_)<;>(refine WE (d:=23) rfl (Gg (f:=42) (ps:=[]) rfl ⟨_,rfl⟩ (call42) rfl (LF 3 [lfT sA,opT 4 [lfT sB,opT 2 []],lfT sC])) fun v23 h=>?_;cases h)<;>(refine Zq 13 kR ?_)<;>(refine Zj rfl fun w9 M9 N9 DQ back=>?_)<;>(refine cP 24 (cA call43 (Zmq)) fun va24 vb24 hva24 h=>?_;cases h)<;>refine Zh (back _ (nrm ?_))<;>refine xE 14 10 rfl Zb ?_<;>refine xD 15 25 rfl Zi ?_<;>refine xD 16 26 rfl Zi ?_<;>refine xE 17 4 rfl Za ?_<;>refine xE 18 5 rfl Za ?_<;>refine YC kR (nav ?_)<;>try dsimp only)
 (refine Z5 (fun i=>([25]:List Nat).elem i) [3] kR ?_<;>refine xD 0 28 rfl Zb ?_<;>refine xD 1 29 rfl Zb ?_<;>refine xD 3 31 rfl Zb ?_<;>refine xD 4 32 rfl Zb ?_<;>(refine yD 6 34 rfl (Zs 3 KQ) fun v34 h=>?_;cases h)<;>refine xD 11 39 rfl Zb ?_<;>refine xD 12 40 rfl Zb ?_<;>refine xD 14 42 rfl Zb ?_<;>(refine Zq 2 kR ?_)<;>(refine WE (d:=30) rfl (Gg (f:=41) (ps:=[]) rfl ⟨_,rfl⟩ (call41) rfl hactA) fun v30 h=>?_;cases h)<;>(refine Zq 5 kR ?_)<;>(refine WE (d:=33) rfl (Gg (f:=41) (ps:=[]) rfl ⟨_,rfl⟩ (call41) rfl hactB) fun v33 h=>?_;cases h)<;>(refine Zq 7 kR ?_)<;>(refine Zj rfl fun w9 M9 N9 DQ back=>?_)<;>(refine Dj (kk:=3) (xs:=[_,_]) (cs:=[[_,_,_],[_,_,_]]) 35 LC fun h35 ho35=>?_;refine Zr (En.freeze (l:=35) (t:=35) rfl rfl) fun _=>?_;refine Zr (KO (t:=35) (p':=Wb [lfT sB,opT 2 []]) rfl (Eq.trans (show _=PV.sl 2 (cN (lfT sB)++cN (opT 2 [])) from rfl) (RR _ _))) fun _=>?_)<;>refine Zh (back _ (nrm ?_))<;>(refine Zq 8 kR ?_)<;>(refine WE (d:=36) rfl (Gg (f:=42) (ps:=[]) rfl ⟨_,rfl⟩ (call42) rfl (LF 6 [lfT sB,opT 2 []])) fun v36 h=>?_;cases h)<;>(refine Zq 9 kR ?_)<;>(refine Zj rfl fun w9 M9 N9 DQ back=>?_)<;>(refine Dj (kk:=3) (xs:=[_,_]) (cs:=[[_,_,_],[_,_,_]]) 37 LC fun h37 ho37=>?_;refine Zr (En.freeze (l:=37) (t:=37) rfl rfl) fun _=>?_;refine Zr (KO (t:=37) (p':=Wb [lfT sA,opT 6 [lfT sB,opT 2 []]]) rfl (Eq.trans (show _=PV.sl 2 (cN (lfT sA)++cN (opT 6 [lfT sB,opT 2 []])) from rfl) (RR _ _))) fun _=>?_)<;>refine Zh (back _ (nrm ?_))<;>(refine Zq 10 kR ?_)<;>(refine WE (d:=38) rfl (Gg (f:=42) (ps:=[]) rfl ⟨_,rfl⟩ (call42) rfl (LF 5 [lfT sA,opT 6 [lfT sB,opT 2 []]])) fun v38 h=>?_;cases h)<;>(refine Zq 13 kR ?_)<;>(refine WE (d:=41) rfl (Gg (f:=41) (ps:=[]) rfl ⟨_,rfl⟩ (call41) rfl hactB) fun v41 h=>?_;cases h)<;>(refine Zq 15 kR ?_)<;>(refine WE (d:=43) rfl (Gg (f:=41) (ps:=[]) rfl ⟨_,rfl⟩ (call41) rfl hactA) fun v43 h=>?_;cases h)<;>(refine Zq 16 kR ?_)<;>(refine Zj rfl fun w9 M9 N9 DQ back=>?_)<;>(refine Dj (kk:=3) (xs:=[_,_]) (cs:=[[_,_,_],[_,_,_]]) 44 LC fun h44 ho44=>?_;refine Zr (En.freeze (l:=44) (t:=44) rfl rfl) fun _=>?_;refine Zr (KO (t:=44) (p':=Wb [lfT sB,lfT sA]) rfl (Eq.trans (show _=PV.sl 2 (cN (lfT sB)++cN (lfT sA)) from rfl) (RR _ _))) fun _=>?_)<;>refine Zh (back _ (nrm ?_))<;>(refine Zq 17 kR ?_)<;>(refine WE (d:=45) rfl (Gg (f:=42) (ps:=[]) rfl ⟨_,rfl⟩ (call42) rfl (LF 6 [lfT sB,lfT sA])) fun v45 h=>?_;cases h)<;>(refine Zq 18 kR ?_)<;>(refine Zj rfl fun w9 M9 N9 DQ back=>?_)<;>(refine Zjx 46 (cA (call12) Zmr) (fun va46 vb46 vc46 hva46 hvb46 hvc46=>?_);cases hva46;cases hvc46)<;>refine Zh (back _ (nrm ?_))<;>refine xE 19 27 rfl Zb ?_<;>refine xD 20 47 rfl Zi ?_<;>refine xD 21 48 rfl Zi ?_<;>refine xD 22 49 rfl Zi ?_<;>refine xE 23 6 rfl Za ?_<;>refine xE 24 7 rfl Za ?_<;>refine xE 25 8 rfl Za ?_<;>refine YC kR (nav ?_)<;>try dsimp only)
 (refine Zt ?_<;>refine xL 50 Zb ?_<;>(refine CR (xs:=[_,_]) 51 PL fun h51 ho51=>?_;refine Zr (En.freeze (l:=51) (t:=51) rfl rfl) fun _=>?_;refine Zr (KO (t:=51) (p':=Yj [sA,sC]) rfl rfl) fun _=>?_)<;>(refine CR (xs:=[_,_,_]) 52 PL fun h52 ho52=>?_;refine Zr (En.freeze (l:=52) (t:=52) rfl rfl) fun _=>?_;refine Zr (KO (t:=52) (p':=Yj [sA,sB,sC]) rfl rfl) fun _=>?_)<;>(refine CR (xs:=[_,_]) 53 PM fun h53 ho53=>?_;refine Zr (En.freeze (l:=53) (t:=53) rfl rfl) fun _=>?_;refine Zr (KO (t:=53) (p':=RX [[sA,sC],[sA,sB,sC]]) rfl rfl) fun _=>?_)<;>(refine cS 54 (cA call44 ((Zck [[sA,sC],[sA,sB,sC]] [[sA,sC],[sA,sB,sC]]).mono (R':=(· =ZM true)) fun p hp=>by rw [hp,Zf9])) fun v54 h=>?_;cases h)<;>refine xL 55 Zb (xL 56 Zb (xL 57 Ja (xL 58 Zz (xL 59 Zb (xL 60 Zb (xL 61 Yg (xL 62 Zz (xL 63 Zb (xL 64 Zb ?_)))))))))<;>(refine ZJ (kk:=1) 65 PL fun h65 ho65=>?_;refine Zr (En.freeze (l:=65) (t:=65) rfl rfl) fun _=>?_;refine Zr (KO (t:=65) (p':=Yj [sB]) rfl rfl) fun _=>?_)<;>(refine cS 66 (cA call14 (TU [sB])) fun v66 h=>?_;cases h)<;>refine xL 67 Zz (xL 68 Zb (xL 69 Zb (xL 70 Ja (xL 71 Zz (xL 0 Za ?_)))))<;>refine Zc ?_)<;>(
 exact Zv results10 rfl rfl)
theorem SR:AggT prog 24 3=true:=by kernel_rfl
theorem Zb1:FldT prog 24 1 1=true:=by kernel_rfl
theorem On:FldT prog 24 2 2=true:=by kernel_rfl
theorem CH:NoAgg prog 22=true:=by kernel_rfl
theorem ZiX:NoAgg prog 9=true:=by kernel_rfl
theorem PP:SlT prog 22 24 3=true:=by kernel_rfl
theorem Zga:ZeroT prog 24 (.agg #[(.int .i64 0),(.string ByteArray.empty),(.slice none 0 0)]):=by unfold ZeroT;kernel_rfl
mutual
def HV:Nd→Int→Int→Int
 | .mk _ a l,m,d=>if 70<d∨100<(a.size:Int)∨m<(l.length:Int) then m else PR l m d 1
def PR:List Nd→Int→Int→Int→Int
 |[],m,_,n=>min n m
 |x::l,m,d,n=>if m≤n then m else PR l m d (n+HV x (m-n) (d+1))
end
theorem Zms:∀(t:Nd) (m d:Int),1≤m→1≤HV t m d∧HV t m d≤m:=Nd.ind fun o a l ih m d hm=>by
 rw [HV]
 split
 · omega
 have key:∀(k:List Nd),(∀x∈k,x∈l)→∀n:Int,1≤n→1≤PR k m d n∧PR k m d n≤m:=fun k=>by
  induction k with
  |nil=>intro _ n hn;rw [PR];omega
  | cons x k ihk=>
    intro hk n hn;rw [PR];split
    · omega
    · have:=ih x (hk x (Xi ..)) (m-n) (d+1) oM;exact ihk (fun y hy=>hk y (Xn _ hy)) _ oM
 exact key l (fun _ h=>h) 1 (VA _)
theorem Zgb {l:List Nd} {k:Nat} {x:Nd} (hx:l[k]? =some x) (m d n:Int):PR (l.drop k) m d n=if m≤n then m else PR (l.drop (k+1)) m d (n+HV x (m-n) (d+1)):=by
 rw [VC (Zf hx),(XM.1 hx).2,PR]
set_option maxHeartbeats 2000000 in
theorem HW : ∀(t:Nd),FitT t→∀(m d:Int),1≤m→m≤1000→1≤d→d≤100→AF prog 27 [pTr t,pInt m,pInt d] (· =pInt (HV t m d)):=Nd.ind fun o a l ih hf m d hm1 hm2 hd1 hd2=>by
 have e0:pTr (.mk o a l)= .agg [pInt o,Z' a,Wb l]:=rfl
 rw [e0]
 have hl:=hf.len
 have hp:=hf.p
 have ha:=hf.sz
 simp only [Nd.l,Nd.act] at hl hp ha
 refine AF.of_body 50 func27 rfl ntmps27 (Xa rfl) ?_
 intro w0 M0 vs hl hv
 obtain ⟨v0,v1,v2,rfl⟩:=Sg hl
 obtain rfl:=hv 1 _ _ rfl rfl
 obtain rfl:=hv 2 _ _ rfl rfl
 clear hl hv
 refine Ze ?_
 (refine ZG 3 3 fun h3=>?_<;>refine xL 6 Za ?_<;>refine Zg ?_)
 (refine xL 10 Zb (xL 11 YP (xL 12 Zb ?_))<;>(refine bLd 12 (fun hb12=>?_) (fun hb12=>?_)<;>(first|refine kL 13 ?_|refine xL 13 (Zd 3 Zb1) ?_))<;>(first|refine kL 14 ?_|(refine yL 14 (Zk 3 ZiX) fun v14 h=>?_;cases h))<;>(first|refine kL 15 ?_|refine xL 15 (Su underlying9) ?_)<;>(first|refine kL 16 ?_|refine xL 16 YP ?_)<;>refine xL 17 Zz (xL 18 Zb ?_)<;>(first|refine kL 19 ?_|(refine bLd 18 (fun hb18=>?_) (fun hb18=>?_)<;>(first|refine kL 19 ?_|refine xL 19 (Zd 3 On) ?_)))<;>(first|refine kL 20 ?_|(refine yL 20 (Zk 3 CH) fun v20 h=>?_;cases h))<;>(first|refine kL 21 ?_|refine xL 21 (ZR PP) ?_)<;>(first|refine kL 22 ?_|refine xL 22 Zb ?_)<;>(first|refine kL 23 ?_|refine xL 23 YP ?_)<;>refine xL 24 Zz ?_<;>refine Zc ?_)<;>(
 refine cX ?_ ?_<;>intro hb24
 · first|exact bN hb24|(
 (have hc:70<d∨100<(a.size:Int)∨m<(l.length:Int):=by simp_all);(have hX:HV (.mk o a l) m d=m:=by rw [HV,UT hc]);rw [hX];refine Ze ?_;(refine xL 25 Zb (xL 6 Za ?_)<;>refine Zc ?_)
 exact Zv results27 rfl rfl)
 · first | exact bN hb24|(
 (have hc:¬(70<d∨100<(a.size:Int)∨m<(l.length:Int)):=by simp_all);(have hX:HV (.mk o a l) m d=PR l m d 1:=by rw [HV,US hc]);rw [hX];have hd3:d≤70:=oM;refine Ze ?_;(refine xL 7 Za ?_<;>refine Zg ?_)
 (refine xL 26 (Zd 3 On) ?_<;>(refine yL 27 (Zk 3 CH) fun v27 h=>?_;cases h)<;>refine xL 28 (ZR PP) (xL 29 Zb ?_)<;>refine Zc ?_)
 refine ZD (ι:={q:Nat×Int//q.1≤l.length∧1≤q.2∧q.2≤m∧PR (l.drop q.1) m d q.2=PR l m d 1}) (fun k=>⟨[(1,_,_),(2,_,_),(27,_,_),(28,_,_),(7, .int .i64 k.1.2,pInt k.1.2),(29, .int .i64 k.1.1,pInt k.1.1)],[(3,_,_)]⟩) (fun k=>l.length-k.1.1) ⟨(0,1),Xf _,VA _,hm1,rfl⟩ (fun a w H=>H.weaken ⟨rfl,rfl,rfl,rfl,rfl,rfl,trivial⟩ ⟨rfl,trivial⟩) ?_;rintro ⟨⟨i,n⟩,hi,hn1,hn2,hq⟩;dsimp only;dsimp only at hi hn1 hn2 hq;refine Ze ?_;(refine xL 30 ZQ ?_<;>refine Zc ?_)
 refine cX ?_ ?_<;>intro hb30
 · first |exact bN hb30|(
 obtain ⟨x,hx⟩:=Zp (show i<l.length by omega);have e1:((K0 l).drop (i*3)).take 3=[pInt x.op,Z' x.act,Wb x.l]:=Wh hx;have e2:=W0 hx;rw [Zgb hx] at hq;refine Ze ?_;(refine xL 31 (ZF PP) ?_<;>(refine yL 32 (YI SR) fun v32 h=>?_;cases h)<;>refine Zw [(.int .i64 0),(.string ByteArray.empty),(.slice none 0 0)] 3 9 Zga fun h9=>?_<;>refine ZA 9 SR ?_<;>refine Zg ?_)
 (refine xL 33 Zb (xL 34 Zb (xL 35 WK ?_))<;>refine Zc ?_)
 refine cX ?_ ?_<;>intro hb35
 · first|exact bN hb35|(
 refine Ze ?_;(refine xL 36 Zb (xL 6 Za ?_)<;>refine Zc ?_)
 refine Zv (results27) rfl ?_;rw [UT oM] at hq;rw [←hq])
 · first|exact bN hb35|(
 rw [US oM] at hq;have hcb:=Zms x (m-n) (d+1) oM;refine Ze ?_;(refine xL 37 Zb ?_<;>(refine yL 38 (Zs 9 SR) fun v38 h=>?_;cases h)<;>refine xL 39 Zb (xL 40 Zb (xL 41 Tp (xL 42 Zb (xL 43 ZH ?_))))<;>(refine cS 44 (cA call27 (ih x (Xc hx) (hp x (Xc hx)) (m-n) (d+1) oM oM oM oM)) fun v44 h=>?_;cases h)<;>refine xL 45 ZH (xL 7 Za ?_)<;>refine Zg ?_)
 (refine xL 46 ZH (xL 29 Zb ?_)<;>refine Zc ?_)
 refine Zn (
  ⟨(i+1,n+HV x (m-n) (d+1)),Zf hx,by dsimp only;omega,by dsimp only;omega,hq⟩
  ) (by dsimp only;omega) ⟨rfl,rfl,rfl,rfl,rfl,rfl,trivial⟩ ⟨rfl,trivial⟩))
 · first|exact bN hb30|(
 rw [Vu (show l.length≤i by omega),PR] at hq;refine Ze ?_;(refine xL 47 Zb (xL 48 Zb (xL 49 Zlj (xL 6 Za ?_)))<;>refine Zc ?_)
 refine Zv (results27) rfl ?_;rw [←hq];(have hmn:(if m<n then m else n)=min n m:=by split<;>omega);rw [←hmn])))
end Go.Proofs.YtgfabnhpllkebaaGreatDoor
