/-
  Walks of functions and plain laws of the chapter, as the claim needs them.
-/
import Derived.Test.YtgfabnhpllkebaaGreatDoorPn12
import Derived.Test.YtgfabnhpllkebaaGreatDoorPn08
import Derived.Test.YtgfabnhpllkebaaGreatDoorPn04
import Derived.Test.YtgfabnhpllkebaaGreatDoorPn06
import Derived.Test.YtgfabnhpllkebaaGreatDoorPn10
import Derived.Test.YtgfabnhpllkebaaGreatDoorPn05
import Derived.Test.YtgfabnhpllkebaaGreatDoorPn07
import Derived.Test.YtgfabnhpllkebaaGreatDoorPn02
import Derived.Test.YtgfabnhpllkebaaGreatDoorPn03
import Derived.Test.YtgfabnhpllkebaaGreatDoorPn09
import Derived.Test.YtgfabnhpllkebaaGreatDoorPn01
namespace Go.Proofs.YtgfabnhpllkebaaGreatDoor
open Go.RowKit Go.Cb Go.En Tryz
set_option linter.all false
set_option maxRecDepth 100000
theorem KW:AggT prog 24 3=true:=by kernel_rfl
theorem KX:AggT prog 39 5=true:=by kernel_rfl
theorem Rq:WR prog 39=some ((.agg #[(.int .i64 0),(.int .i64 0),(.slice none 0 0),(.slice none 0 0),(.slice none 0 0)]),([0,1,2,3,4]:List Nat).map fun o=>(o,1)):=by kernel_rfl
theorem Rs:ZeroT prog 39 (.agg #[(.int .i64 0),(.int .i64 0),(.slice none 0 0),(.slice none 0 0),(.slice none 0 0)]):=by unfold ZeroT;kernel_rfl
theorem O6 {l:List ByteArray} (h:KM l=true):l.length≤40:=by
 unfold KM at h
 simp only [Xf,UO] at h
 exact h.1.1
theorem Zkr {acts l:List ByteArray} (h:GF acts l=true):∀s∈l,s∈acts:=fun s hs=>by
 unfold GF at h
 rw [Ub,List.any_eq_false] at h
 have h1:=h s hs
 obtain ⟨i,_,h2⟩:=ZjS (acts:=acts) (s:=s) (fun h=>h1 (UP h))
 exact Xb h2
theorem Zks (t:Nd) (hf:FitT t) (acts:List ByteArray) (hfa:∀s∈acts,s.size≤140737488355328):AF prog 16 [pTr t,Yv acts] (· =resW (autTX t acts)):=by
 have e0:pTr t= .agg [pInt t.op,Yq t.act,YZ t.l]:=rfl
 have hV:=Sc t hf
 have hA:=ZdY acts hfa
 rw [e0] at hV ⊢
 refine AF.of_body 25 func16 rfl ntmps16 (Xa rfl) ?_
 intro w0 M0 vs hl hv
 obtain ⟨v0,v1,rfl⟩:=YG hl
 clear hl hv
 refine Ze ?_
 (refine ZC 2 3 fun h2=>?_<;>refine Zx [(.int .i64 0),(.int .i64 0),(.slice none 0 0),(.slice none 0 0),(.slice none 0 0)] 5 4 Rs fun h4=>?_<;>refine xL 5 Za ?_<;>refine Zi ?_)
 ((refine yL 6 (Zu 2 KW) fun v6 h=>?_;cases h)<;>(refine cS 7 (cA call24 (hV)) fun v7 h=>?_;cases h)<;>refine xL 8 Z8 (xL 9 Zb ?_)<;>(refine bL 9 (fun hb9=>?_) (fun hb9=>?_)<;>(first|refine kL 10 ?_|refine xL 10 Zb ?_))<;>(first|refine kL 11 ?_|(refine cS 11 (cA call61 (hA)) fun v11 h=>?_;cases h))<;>(first|refine kL 12 ?_|refine xL 12 Z8 ?_)<;>refine xL 13 ZG ?_<;>refine Zc ?_)<;>(
 refine cX ?_ ?_<;>intro hb13
 · first|exact bN hb13|(
 have hno:¬(Kl t=true∧KM acts=true):=by
  rintro ⟨h1,h2⟩
  first|(rw [h1] at hb9;simp at hb9;done)|(rw [h2] at hb13;simp at hb13;done)
 (have hX:autTX t acts= .error 1:=by unfold autTX;rw [UR hno]);rw [hX];refine Ze ?_;(refine xL 14 (ZM Rq) ?_<;>refine ZD 4 KX ?_<;>refine xL 5 Za ?_<;>refine Zc ?_)
 exact Z2 (k:=5) 4 kR (results16) rfl rfl rfl (Xa rfl) dC rfl rfl)
 · first |exact bN hb13|(
 have hv:Kl t=true:=by first|(simpa using hb9)|(exfalso;simp_all;done)
 have ha:KM acts=true:=by first|(simpa using hb13)|(exfalso;simp_all;done)
 have hok:=Sa hv;have hsz:=RJ hv;have hW:=Ze7 acts t hok oM;rw [e0] at hW;refine Ze ?_;((refine yL 15 (Zu 2 KW) fun v15 h=>?_;cases h)<;>refine xL 16 Zb ?_<;>(refine cS 17 (cA call62 (hW)) fun v17 h=>?_;cases h)<;>refine xL 18 Z8 ?_<;>refine Zc ?_)
 refine cX ?_ ?_<;>intro hb18
 · first|exact bN hb18|(
 (have hw:GF acts (YI t)=false:=by simpa using hb18);have hX:autTX t acts= .error 8:=by
  unfold autTX;unfold GF at hw;rw [US ⟨hv,ha⟩,US (by simpa using hw)]
 rw [hX];refine Ze ?_;(refine xL 19 (ZM Rq) ?_<;>refine ZD 4 KX ?_<;>refine xL 5 Za ?_<;>refine Zc ?_)
 exact Z2 (k:=5) 4 kR (results16) rfl rfl rfl (Xa rfl) dC rfl rfl)
 · first|exact bN hb18|(
 (have hw:GF acts (YI t)=true:=by simpa using hb18);have hX:autTX t acts=lim (bldT acts t):=by
  unfold autTX;have hw2:=hw;unfold GF at hw2;rw [Ub] at hw2;rw [US ⟨hv,ha⟩,UR (by rw [hw2];decide)]
 rw [hX];obtain ⟨p0,p1,p2,p3,p4,E,hR⟩:=Ca (bldT acts t);have hj:=Ro acts (O6 ha) t hok oM (Zkr hw);rw [hR.eq,e0] at hj;rw [hR.eq];have r5:=hR.r5;obtain ⟨o0,o1,o2,o3,o4⟩:=r5.o;refine Ze ?_;((refine yL 20 (Zu 2 KW) fun v20 h=>?_;cases h)<;>refine xL 21 Zb ?_<;>(refine cP 22 (cA (call51) hj) (fun va22 vb22 hva22 hvb22=>?_) (hsh:=r5.t E);cases hvb22)<;>refine xL 23 Zk (xL 24 Zk ?_)<;>refine ZD 4 KX ?_<;>refine xL 5 Za ?_<;>refine Zc ?_)
 exact Z2 (k:=5) 4 kR (results16) rfl rfl rfl (Xa rfl) dC r5.s rfl)))
theorem ZhJ (t:Nd) (hf:FitT t) (acts:List ByteArray) (hfa:∀s∈acts,s.size≤140737488355328):AF prog 17 [pTr t,Yv acts] (· =resW (autTX t acts)):=by
 have e0:pTr t= .agg [pInt t.op,Yq t.act,YZ t.l]:=rfl
 have hV:=ZgB t hf
 have hA:=Zbw acts hfa
 rw [e0] at hV ⊢
 refine AF.of_body 25 func17 rfl ntmps17 (Xa rfl) ?_
 intro w0 M0 vs hl hv
 obtain ⟨v0,v1,rfl⟩:=YG hl
 clear hl hv
 refine Ze ?_
 (refine ZC 2 3 fun h2=>?_<;>refine Zx [(.int .i64 0),(.int .i64 0),(.slice none 0 0),(.slice none 0 0),(.slice none 0 0)] 5 4 Rs fun h4=>?_<;>refine xL 5 Za ?_<;>refine Zi ?_)
 ((refine yL 6 (Zu 2 KW) fun v6 h=>?_;cases h)<;>(refine cS 7 (cA call20 (hV)) fun v7 h=>?_;cases h)<;>refine xL 8 Z8 (xL 9 Zb ?_)<;>(refine bL 9 (fun hb9=>?_) (fun hb9=>?_)<;>(first|refine kL 10 ?_|refine xL 10 Zb ?_))<;>(first|refine kL 11 ?_|(refine cS 11 (cA call63 (hA)) fun v11 h=>?_;cases h))<;>(first|refine kL 12 ?_|refine xL 12 Z8 ?_)<;>refine xL 13 ZG ?_<;>refine Zc ?_)<;>(
 refine cX ?_ ?_<;>intro hb13
 · first|exact bN hb13|(
 have hno:¬(Kl t=true∧KM acts=true):=by
  rintro ⟨h1,h2⟩
  first|(rw [h1] at hb9;simp at hb9;done)|(rw [h2] at hb13;simp at hb13;done)
 (have hX:autTX t acts= .error 1:=by unfold autTX;rw [UR hno]);rw [hX];refine Ze ?_;(refine xL 14 (ZM Rq) ?_<;>refine ZD 4 KX ?_<;>refine xL 5 Za ?_<;>refine Zc ?_)
 exact Z2 (k:=5) 4 kR (results17) rfl rfl rfl (Xa rfl) dC rfl rfl)
 · first |exact bN hb13|(
 have hv:Kl t=true:=by first|(simpa using hb9)|(exfalso;simp_all;done)
 have ha:KM acts=true:=by first|(simpa using hb13)|(exfalso;simp_all;done)
 have hok:=Sa hv;have hsz:=RJ hv;have hW:=ZdC acts t hok oM;rw [e0] at hW;refine Ze ?_;((refine yL 15 (Zu 2 KW) fun v15 h=>?_;cases h)<;>refine xL 16 Zb ?_<;>(refine cS 17 (cA call64 (hW)) fun v17 h=>?_;cases h)<;>refine xL 18 Z8 ?_<;>refine Zc ?_)
 refine cX ?_ ?_<;>intro hb18
 · first|exact bN hb18|(
 (have hw:GF acts (YI t)=false:=by simpa using hb18);have hX:autTX t acts= .error 8:=by
  unfold autTX;unfold GF at hw;rw [US ⟨hv,ha⟩,US (by simpa using hw)]
 rw [hX];refine Ze ?_;(refine xL 19 (ZM Rq) ?_<;>refine ZD 4 KX ?_<;>refine xL 5 Za ?_<;>refine Zc ?_)
 exact Z2 (k:=5) 4 kR (results17) rfl rfl rfl (Xa rfl) dC rfl rfl)
 · first|exact bN hb18|(
 (have hw:GF acts (YI t)=true:=by simpa using hb18);have hX:autTX t acts=lim (bldT acts t):=by
  unfold autTX;have hw2:=hw;unfold GF at hw2;rw [Ub] at hw2;rw [US ⟨hv,ha⟩,UR (by rw [hw2];decide)]
 rw [hX];obtain ⟨p0,p1,p2,p3,p4,E,hR⟩:=Ca (bldT acts t);have hj:=Ze6 acts (O6 ha) t hok oM (Zkr hw);rw [hR.eq,e0] at hj;rw [hR.eq];have r5:=hR.r5;obtain ⟨o0,o1,o2,o3,o4⟩:=r5.o;refine Ze ?_;((refine yL 20 (Zu 2 KW) fun v20 h=>?_;cases h)<;>refine xL 21 Zb ?_<;>(refine cP 22 (cA (call56) hj) (fun va22 vb22 hva22 hvb22=>?_) (hsh:=r5.t E);cases hvb22)<;>refine xL 23 Zk (xL 24 Zk ?_)<;>refine ZD 4 KX ?_<;>refine xL 5 Za ?_<;>refine Zc ?_)
 exact Z2 (k:=5) 4 kR (results17) rfl rfl rfl (Xa rfl) dC r5.s rfl)))
theorem Zkt (t:Nd) (hf:FitT t) {L:List ByteArray} (hR:actR t=(L,0)) {p0 p1 p2 p3 p4:PV} {E:Int} (hS:RS (bldT L t) p0 p1 p2 p3 p4 E):AF prog 66 [pTr t] (· = .tup [.agg [p0,p1,p2,p3,p4],Yv L,pInt E]):=by
 have e0:pTr t= .agg [pInt t.op,Yq t.act,YZ t.l]:=rfl
 have hA:=Zlp t hf
 obtain ⟨hv,hL,hm,hn,hmem⟩:=ZlV (t:=t) (by rw [hR])
 rw [hR] at hA hm hmem
 dsimp only at hA hm hmem
 have hj:=Ro L hm t (Sa hv) (by have:=RJ hv;omega) (fun s hs=>(hmem s).2 hs)
 rw [hS.eq] at hj
 rw [e0] at hA hj ⊢
 have r5:=hS.r5
 obtain ⟨o0,o1,o2,o3,o4⟩:=r5.o
 refine AF.of_body 26 func66 rfl ntmps66 (Xa rfl) ?_
 intro w0 M0 vs hl hv
 obtain ⟨v0,rfl⟩:=Wj hl
 clear hl hv
 refine Ze ?_
 (refine ZC 1 3 fun h1=>?_<;>refine Zx [(.int .i64 0),(.int .i64 0),(.slice none 0 0),(.slice none 0 0),(.slice none 0 0)] 5 2 Rs fun h2=>?_<;>refine xL 3 Za (xL 4 Za ?_)<;>refine Zi ?_)
 ((refine yL 9 (Zu 1 KW) fun v9 h=>?_;cases h)<;>(refine cP 10 (cA call25 (hA)) fun va10 vb10 hva10 h=>?_;cases h)<;>refine xL 8 Zb (xL 11 Zk (xL 12 Zk (xL 5 Za (xL 6 Za ?_))))<;>refine Zi ?_)
 (refine xL 13 Zb (xL 14 Yx ?_)<;>refine Zc ?_)
 refine cX ?_ ?_<;>intro hb14
 · exact UT rfl hb14
 · refine Ze ?_;((refine yL 18 (Zu 1 KW) fun v18 h=>?_;cases h)<;>refine xL 19 Zb ?_<;>(refine cP 20 (cA (call51) hj) (fun va20 vb20 hva20 hvb20=>?_) (hsh:=r5.t E);cases hvb20)<;>refine xL 17 Zb (xL 21 Zk (xL 22 Zk ?_))<;>refine Zx [(.int .i64 0),(.int .i64 0),(.slice none 0 0),(.slice none 0 0),(.slice none 0 0)] 5 7 Rs fun h7=>?_<;>refine ZD 7 KX ?_<;>refine xL 6 Za ?_<;>refine Zi ?_)
   ((refine yL 23 (Zu (k:=5) (ps:=[p0,p1,p2,p3,p4]) 7 kR (hsh:=r5.s)) fun v23 h=>?_;cases h)<;>refine xL 24 Zb (xL 25 Zb ?_)<;>refine ZD 2 KX ?_<;>refine xL 3 Za (xL 4 Za ?_)<;>refine Zc ?_)
   exact Zli (k:=5) 2 kR (results66) rfl rfl rfl rfl (Xa rfl) dC r5.s rfl
structure OwnR (t:Nd) (L:List ByteArray) (p0 p1 p2 p3 p4:PV) (E:Int):Prop where
 r5:R5 p0 p1 p2 p3 p4
 hc:(¬E=0∧actR t=(L,E))∨(actR t=(L,0)∧RS (bldT L t) p0 p1 p2 p3 p4 E)
theorem Wt:AggT prog 24 3=true:=by kernel_rfl
theorem TW:AggT prog 39 5=true:=by kernel_rfl
theorem ZdD:FldT prog 24 0 0=true:=by kernel_rfl
theorem ZdE:FldT prog 24 1 1=true:=by kernel_rfl
theorem DJ:FldT prog 24 2 2=true:=by kernel_rfl
theorem ZhK:MpT prog 76 9 4 .string (.bool false):=⟨underlying76,underlying9, .inl rfl,by show ZeroT _ _ _;unfold ZeroT;kernel_rfl⟩
theorem Zaa:NoAgg prog 22=true:=by kernel_rfl
theorem Zku:NoAgg prog 3=true:=by kernel_rfl
theorem Zkv:NoAgg prog 9=true:=by kernel_rfl
theorem Rt:SlT prog 22 24 3=true:=by kernel_rfl
theorem ZhL:SlT prog 27 9 1=true:=by kernel_rfl
theorem Zab:ZeroT prog 24 (.agg #[(.int .i64 0),(.string ByteArray.empty),(.slice none 0 0)]):=by unfold ZeroT;kernel_rfl
theorem Zac:ZeroT prog 39 (.agg #[(.int .i64 0),(.int .i64 0),(.slice none 0 0),(.slice none 0 0),(.slice none 0 0)]):=by unfold ZeroT;kernel_rfl
set_option maxHeartbeats 4000000 in
theorem DK:∀(t:Nd),okT t=true→szT t≤1000000→∀(ks:List ByteArray) (m V:Value),AFh False prog 48 [(0,V,pTr t),(1,m, .val m)] [(1000,m, .omap (skv (KA ks)))] (fun v q h=>h=[(1000,m, .omap (skv (KA (colS ks (YI t)))))]):=Nd.ind fun o a l ih hok hs ks m V=>by
 have e0:pTr (.mk o a l)= .agg [pInt o,Yq a,YZ l]:=rfl
 rw [e0]
 obtain ⟨hr,hp⟩:=K1.1 hok
 have hsz:=Zeb (.mk o a l)
 have hlz:=Tw l
 simp only [Nd.l,Nd.op] at hp hsz
 obtain ⟨K,hK⟩:∃K,K=if o=1 then setK ks a else ks:=⟨_,rfl⟩
 have hres:colS ks (YI (.mk o a l))=colS K (JV l):=by
  rw [hK,YI];split<;>rfl
 rw [hres]
 refine AFh.of_body 23 func48 rfl ntmps48 (Xa rfl) rfl ?_
 intro w0 M0 N0
 refine Ze ?_
 (refine ZC 2 3 fun h2=>?_<;>refine Zi ?_)
 (refine xL 6 (Zd 2 ZdD) ?_<;>(refine yL 7 (Zj 2 Zku) fun v7 h=>?_;cases h)<;>refine xL 8 Yd ?_<;>refine Zc ?_)
 refine cX ?_ ?_<;>intro hb8
 · first |exact bN hb8|(
 refine Ze ?_;(refine xL 9 Zb (xL 10 (Zd 2 ZdE) ?_)<;>(refine yL 11 (Zj 2 Zkv) fun v11 h=>?_;cases h)<;>(refine LF 1000 ZhK ?_;rw [ZbM,show setK ks a=K by rw [hK,US (by assumption)]])<;>refine Zi ?_)
 (refine xL 12 (Zd 2 DJ) ?_<;>(refine yL 13 (Zj 2 Zaa) fun v13 h=>?_;cases h)<;>refine xL 14 (ZR Rt) (xL 15 Zb ?_)<;>refine Zc ?_)
 refine ZB (ι:={q:Nat×List ByteArray//q.1≤l.length∧q.2=colS K (JV (l.take q.1))}) (fun k=>⟨[(1,_,_),(13,_,_),(14,_,_),(15, .int .i64 k.1.1,pInt k.1.1)],[(1000,m, .omap (skv (KA k.1.2)))]⟩) (fun k=>l.length-k.1.1) ⟨(0,K),Xd _,by rw [VY];rfl⟩ (fun a w H=>H.weaken ⟨rfl,rfl,rfl,rfl,trivial⟩ ⟨rfl,trivial⟩) ?_;rintro ⟨⟨i,S⟩,hi,hS⟩;dsimp only;dsimp only at hi hS;refine Ze ?_;(refine xL 16 ZP ?_<;>refine Zc ?_)
 refine cX ?_ ?_<;>intro hb16
 · first|exact bN hb16|(
 obtain ⟨x,hx⟩:=Zq (show i<l.length by omega);have e1:((Ll l).drop (i*3)).take 3=[pInt x.op,Yq x.act,YZ x.l]:=Kp hx;have e2:=Jo hx;have hxm:=Xb hx;have hxs:=Gi hxm;have hsn:=LX hx;refine Ze ?_;(refine xL 17 (ZI Rt) ?_<;>(refine yL 18 (Y' Wt) fun v18 h=>?_;cases h)<;>refine Zx [(.int .i64 0),(.string ByteArray.empty),(.slice none 0 0)] 3 5 Zab fun h5=>?_<;>refine ZD 5 Wt ?_<;>refine Zi ?_)
 ((refine yL 19 (Zu 5 Wt) fun v19 h=>?_;cases h)<;>refine xL 20 Zb ?_<;>(refine WN [(1000,m, .omap (skv (KA S)))] ⟨rfl,trivial⟩ ?_;refine JM [] 21 (call48) (ih x hxm (hp x hxm) oM S m v19) (fun v21 p21 h21 hR21=>?_);subst hR21)<;>refine Zi ?_)
 (refine xL 22 ZH (xL 15 Zb ?_)<;>refine Zc ?_)
 refine Zm (
  ⟨(i+1,colS S (YI x)),Zf hx,by dsimp only;rw [hsn,Sj,←hS]⟩
  ) (by dsimp only;omega) ⟨rfl,rfl,rfl,rfl,trivial⟩ ⟨rfl,trivial⟩)
 · first|exact bN hb16|(
 refine nav ?_;(have hS2:S=colS K (JV l):=by rw [hS,Xk oM]);refine Sd [(1000,m, .omap (skv (KA S)))] (results48) ⟨rfl,trivial⟩ ?_;rw [hS2]))
 · first |exact bN hb8|(
 rw [show ks=K by rw [hK,UR (by assumption)]];refine Ze ?_;(refine xL 12 (Zd 2 DJ) ?_<;>(refine yL 13 (Zj 2 Zaa) fun v13 h=>?_;cases h)<;>refine xL 14 (ZR Rt) (xL 15 Zb ?_)<;>refine Zc ?_)
 refine ZB (ι:={q:Nat×List ByteArray//q.1≤l.length∧q.2=colS K (JV (l.take q.1))}) (fun k=>⟨[(1,_,_),(13,_,_),(14,_,_),(15, .int .i64 k.1.1,pInt k.1.1)],[(1000,m, .omap (skv (KA k.1.2)))]⟩) (fun k=>l.length-k.1.1) ⟨(0,K),Xd _,by rw [VY];rfl⟩ (fun a w H=>H.weaken ⟨rfl,rfl,rfl,rfl,trivial⟩ ⟨rfl,trivial⟩) ?_;rintro ⟨⟨i,S⟩,hi,hS⟩;dsimp only;dsimp only at hi hS;refine Ze ?_;(refine xL 16 ZP ?_<;>refine Zc ?_)
 refine cX ?_ ?_<;>intro hb16
 · first|exact bN hb16|(
 obtain ⟨x,hx⟩:=Zq (show i<l.length by omega);have e1:((Ll l).drop (i*3)).take 3=[pInt x.op,Yq x.act,YZ x.l]:=Kp hx;have e2:=Jo hx;have hxm:=Xb hx;have hxs:=Gi hxm;have hsn:=LX hx;refine Ze ?_;(refine xL 17 (ZI Rt) ?_<;>(refine yL 18 (Y' Wt) fun v18 h=>?_;cases h)<;>refine Zx [(.int .i64 0),(.string ByteArray.empty),(.slice none 0 0)] 3 5 Zab fun h5=>?_<;>refine ZD 5 Wt ?_<;>refine Zi ?_)
 ((refine yL 19 (Zu 5 Wt) fun v19 h=>?_;cases h)<;>refine xL 20 Zb ?_<;>(refine WN [(1000,m, .omap (skv (KA S)))] ⟨rfl,trivial⟩ ?_;refine JM [] 21 (call48) (ih x hxm (hp x hxm) oM S m v19) (fun v21 p21 h21 hR21=>?_);subst hR21)<;>refine Zi ?_)
 (refine xL 22 ZH (xL 15 Zb ?_)<;>refine Zc ?_)
 refine Zm (
  ⟨(i+1,colS S (YI x)),Zf hx,by dsimp only;rw [hsn,Sj,←hS]⟩
  ) (by dsimp only;omega) ⟨rfl,rfl,rfl,rfl,trivial⟩ ⟨rfl,trivial⟩)
 · first|exact bN hb16|(
 refine nav ?_;(have hS2:S=colS K (JV l):=by rw [hS,Xk oM]);refine Sd [(1000,m, .omap (skv (KA S)))] (results48) ⟨rfl,trivial⟩ ?_;rw [hS2]))
theorem Zad (par:List (Int×Int)):∀f i,(SD par f i).length≤f
 |0,_=>Xg _
 | f + 1,i=>by
   rw [SD];split
   · split
     · exact Xd _
     · rename_i x _ _;rw [Xc,Xx];have:=Zad par f x.1.toNat;omega
   · exact Xd _
theorem Zkw {a b:Aut} (ha:IsMin a) (hb:IsMin b) (hs:a.syms=b.syms) (op:Int):(cmpX a b op).2.1.length≤2000:=by
 have hf:WH a b=0:=ZaW ha.valid hb.valid hs
 cases hq:prodQ a b with
 |none=>rw [ζI hf ha.red hb.red hq];exact Xd _
 | some q=>
   obtain ⟨o,rows⟩:=q;have hP:PQ a b o rows:=⟨ha,hb,hs,hq⟩;have hcap:=hP.ok.2.2;rw [ζH (op:=op) hf ha.red hb.red hq];dsimp only;unfold TJ;dsimp only
   cases hx:(o.map (WQ a b op)).idxOf? true with
   |none=>exact Xd _
   | some i=>
     obtain ⟨hi,_⟩:=ZcZ.1 hx;(have hil:i<o.length:=by have:=Zf hi;rwa [Xe] at this);have:=Zad (o.map (·.2)) (i+1) i;dsimp only;omega
structure CmpR (a b:Aut) (m:Nat) (s:Bool) (v:List Int) (e:Int):Prop where
 eq:cmpX a b 4=(s,v,e)
 inn:∀i∈v,0≤i∧i<m
 len:v.length≤2000
 nil:(¬e=0∨s=true)→v=[]
 fal:¬e=0→s=false
theorem ZnR {a b:Aut} {m:Nat} (ha:IsMin a) (hb:IsMin b) (sa:a.syms=m) (sb:b.syms=m):∃s v e,CmpR a b m s v e:=by
 have hs:a.syms=b.syms:=by rw [sa,sb]
 have hl:=Zkw ha hb hs 4
 rcases ZlU ha hb hs 4 with h|⟨h,_⟩|⟨u,hu,h,_⟩
 · exact ⟨_,_,_,h,fun i hi=>(by cases hi),Xd _,fun _=>rfl,fun _=>rfl⟩
 · exact ⟨_,_,_,h,fun i hi=>(by cases hi),Xd _,fun _=>rfl,fun h=>UT rfl h⟩
 · rw [h] at hl;refine ⟨_,_,_,h,fun i hi=>?_,hl,fun h=>?_,fun _=>rfl⟩
   · unfold wI at hi;obtain ⟨x,hx,rfl⟩:=Xj.1 hi;have:=(Zhn sa).1 hu x hx;omega
   · rcases h with h|h
     · exact UT rfl h
     · cases h
theorem Zkx {a b:Nd} (h:¬(Kl a=true∧Kl b=true)):eqTX a b=(false,[],1):=by unfold eqTX;rw [UR h]
theorem Zky {a b:Nd} (h:Kl a=true∧Kl b=true) (hl:40<(unT a b).length):eqTX a b=(false,[],5):=by
 unfold eqTX
 rw [Hs] at hl
 rw [US h,UR oM]
theorem Zf9 {a b:Nd} (h:Kl a=true∧Kl b=true) (hl:(unT a b).length≤40) (hn:bldT (unT a b) a=none∨bldT (unT a b) b=none):eqTX a b=(false,[],13):=by
 unfold eqTX
 rw [Hs] at hl
 rw [US h,US hl]
 rcases hn with hn|hn
 · rw [hn]
 · rw [hn];cases bldT (unT a b) a<;>rfl
theorem Zmq {a b:Nd} (h:Kl a=true∧Kl b=true) (hl:(unT a b).length≤40) {x y:Aut} (hx:bldT (unT a b) a=some x) (hy:bldT (unT a b) b=some y) {m:Nat} {s:Bool} {v:List Int} {e:Int} (hc:CmpR x y m s v e):eqTX a b=(s,nmI (unT a b) v,e):=by
 unfold eqTX
 rw [Hs] at hl
 rw [US h,US hl,hx,hy]
 dsimp only
 rw [hc.eq]
theorem ZnS {a b:Nd} (h:Kl a=true∧Kl b=true) (hl:(unT a b).length≤40):(∀A,bldT (unT a b) a=some A→IsMin A∧A.syms=(unT a b).length)∧∀A,bldT (unT a b) b=some A→IsMin A∧A.syms=(unT a b).length:=
 ⟨fun A hA=>by obtain ⟨k1,k2,_⟩:=ZjR (ZjQ a b) hl h.1 (fun s hs=>Hr.2 (.inl hs)) hA;exact ⟨k1,k2⟩,fun A hA=>by obtain ⟨k1,k2,_⟩:=ZjR (ZjQ a b) hl h.2 (fun s hs=>Hr.2 (.inr hs)) hA;exact ⟨k1,k2⟩⟩
theorem Zkz:∀t:Nd,okT t=true→∀s∈YI t,s.size≤40:=Nd.ind fun o a l ih h s hs=>by
 obtain ⟨hr,hp⟩:=K1.1 h
 rw [YI] at hs
 have hL:s∈JV l→s.size≤40:=fun hs=>by
  obtain ⟨x,hx,h1⟩:=Sg.1 hs;exact ih x hx (hp x hx) s h1
 split at hs
 · rcases Xs.1 hs with rfl|hs
   · exact ZgL hr
   · exact hL hs
 · exact hL hs
set_option maxHeartbeats 4000000 in
theorem Cf (a b : Nd) (hfa:FitT a) (hfb:FitT b):AF prog 12 [pTr a,pTr b] (· = .tup [ZK (eqTX a b).1,Yv (eqTX a b).2.1,pInt (eqTX a b).2.2]):=by
 have ea:pTr a= .agg [pInt a.op,Yq a.act,YZ a.l]:=rfl
 have eb:pTr b= .agg [pInt b.op,Yq b.act,YZ b.l]:=rfl
 have hVa:=Sc a hfa
 have hVb:=Sc b hfb
 rw [ea] at hVa ⊢
 rw [eb] at hVb ⊢
 refine AF.of_body 70 func12 rfl ntmps12 (Xa rfl) ?_
 intro w0 M0 vs hl hv
 obtain ⟨v0,v1,rfl⟩:=YG hl
 clear hl hv
 refine Ze ?_
 (refine ZC 2 3 fun h2=>?_<;>refine ZC 3 3 fun h3=>?_<;>refine xL 4 Za (xL 5 Za (xL 6 Za ?_))<;>refine Zi ?_)
 ((refine yL 14 (Zu 2 Wt) fun v14 h=>?_;cases h)<;>(refine cS 15 (cA call24 (hVa)) fun v15 h=>?_;cases h)<;>refine xL 16 Z8 (xL 17 Zb ?_)<;>(refine bL 17 (fun hb17=>?_) (fun hb17=>?_)<;>(first|refine kL 18 ?_|(refine yL 18 (Zu 3 Wt) fun v18 h=>?_;cases h)))<;>(first|refine kL 19 ?_|(refine cS 19 (cA call24 (hVb)) fun v19 h=>?_;cases h))<;>(first|refine kL 20 ?_|refine xL 20 Z8 ?_)<;>refine xL 21 ZG ?_<;>refine Zc ?_)<;>(
 refine cX ?_ ?_<;>intro hb21
 · first|exact bN hb21|(
 have hno:¬(Kl a=true∧Kl b=true):=by
  rintro ⟨h1,h2⟩
  first|(rw [h1] at hb17;simp at hb17;done)|(rw [h2] at hb21;simp at hb21;done)
 rw [Zkx hno];refine Ze ?_;(refine xL 4 Za (xL 5 Za (xL 6 Za ?_))<;>refine Zc ?_)
 refine Wr (Jp (t:=5) rfl) fun _=>?_;exact CX (results12) (.tmp rfl) (.tmp rfl) (.tmp rfl) rfl)
 · first | exact bN hb21|(
 have hva:Kl a=true:=by first|(simpa using hb17)|(exfalso;simp_all;done)
 have hvb:Kl b=true:=by first|(simpa using hb21)|(exfalso;simp_all;done)
 have hv:Kl a=true∧Kl b=true:=⟨hva,hvb⟩;have hoa:=Sa hva;have hob:=Sa hvb;have hsa:=RJ hva;have hsb:=RJ hvb;have hcol:∀V m,AFh False prog 48 [(0,V, .agg [pInt a.op,Yq a.act,YZ a.l]),(1,m, .val m)] [(1000,m, .omap (skv (KA [])))] (fun v q h=>h=[(1000,m, .omap (skv (KA (colS [] (YI a)))))]):=fun V m=>DK a hoa oM [] m V;have hcol2:∀V m,AFh False prog 48 [(0,V, .agg [pInt b.op,Yq b.act,YZ b.l]),(1,m, .val m)] [(1000,m, .omap (skv (KA (colS [] (YI a)))))] (fun v q h=>h=[(1000,m, .omap (skv (KA (unK a b))))]):=fun V m=>DK b hob oM _ m V;have hkl:(unK a b).length≤1000000:=by
  have h1:=HT (YI b) (colS [] (YI a));have h2:=HT (YI a) [];have h3:=ZfS a hoa;have h4:=ZfS b hob;rw [XC] at h2;unfold unK;omega
 have hks:∀s∈unK a b,s.size≤140737488355328:=fun s hs=>by
  rcases ZfR.1 hs with h|h
  · have:=Zkz a hoa s h;omega
  · have:=Zkz b hob s h;omega
 refine Ze ?_;(refine GM 22 fun h22 ho22=>?_<;>refine xL 7 Za ?_<;>refine Zc ?_)
 refine Zs (ZE (l:=22) 1000 rfl rfl) fun _=>?_;(refine Zv ?_<;>(refine yL 23 (Zu 2 Wt) fun v23 h=>?_;cases h)<;>refine xL 24 Zb ?_<;>(refine WN [(1000,h22, .omap (skv (KA []))),(2,_,_),(3,_,_)] ⟨rfl,rfl,rfl,trivial⟩ ?_;refine JM [2,3] 25 (call48) (hcol v23 h22) (fun v25 p25 h25 hR25=>?_);subst hR25)<;>refine Zi ?_)
 ((refine yL 26 (Zu 3 Wt) fun v26 h=>?_;cases h)<;>refine xL 27 Zb ?_<;>(refine WN [(1000,h22, .omap (skv (KA (colS [] (YI a))))),(2,_,_),(3,_,_)] ⟨rfl,rfl,rfl,trivial⟩ ?_;refine JM [2,3] 28 (call48) (hcol2 v26 h22) (fun v28 p28 h28 hR28=>?_);subst hR28)<;>refine Zc ?_)
 refine Zs (En.freeze (l:=1000) (t:=7) rfl rfl) fun _=>?_;(refine Zv ?_<;>refine xL 29 Zb ?_<;>refine Znv (k1:=95) (t:=76) 30 ZoC (call50) (fun g30 b30 c30 es30 hkv30 hWf30=>?_)<;>refine ZgO (ks:=unK a b) 30 31 ZiL (call49) (fun h=>h) hWf30 hkv30.symm (ZjP a b) hkl hks (fun v31 ho31=>?_)<;>refine xL 8 Za ?_<;>refine Zc ?_)
 refine Zs (En.freeze (l:=31) (t:=8) rfl rfl) fun _=>?_;rw [HU _ _ _ (show (unK a b).length=(Gs (unK a b)).length from (Sk _).symm)];rw [show Gs (unK a b)=unT a b from rfl];(refine Zv ?_<;>refine xL 32 Zb (xL 33 (ZR ZhL) (xL 34 Yw ?_))<;>refine Zc ?_)
 refine cX ?_ ?_<;>intro hb34
 · first|exact bN hb34|(
 rw [Zky hv oM];refine Ze ?_;(refine xL 4 Za (xL 5 Za (xL 6 Za ?_))<;>refine Zc ?_)
 refine Wr (Jp (t:=5) rfl) fun _=>?_;exact CX (results12) (.tmp rfl) (.tmp rfl) (.tmp rfl) rfl)
 · first | exact bN hb34|(
 have hl:(unT a b).length≤40:=oM;obtain ⟨mina,minb⟩:=ZnS hv hl;obtain ⟨p0,p1,p2,p3,p4,E,hR⟩:=Ca (bldT (unT a b) a);have hj:=Ro (unT a b) hl a hoa oM (fun s hs=>Hr.2 (.inl hs));rw [hR.eq,ea] at hj;have r5:=hR.r5;obtain ⟨o0,o1,o2,o3,o4⟩:=r5.o;obtain ⟨q0,q1,q2,q3,q4,F,hQ⟩:=Ca (bldT (unT a b) b);have hk:=Ro (unT a b) hl b hob oM (fun s hs=>Hr.2 (.inr hs));rw [hQ.eq,eb] at hk;have s5:=hQ.r5;obtain ⟨u0,u1,u2,u3,u4⟩:=s5.o;refine Ze ?_;((refine yL 36 (Zu 2 Wt) fun v36 h=>?_;cases h)<;>refine xL 37 Zb ?_<;>(refine cP 38 (cA (call51) hj) (fun va38 vb38 hva38 hvb38=>?_) (hsh:=r5.t E);cases hvb38)<;>refine xL 35 Zb (xL 39 Zk (xL 40 Zk ?_))<;>refine Zx [(.int .i64 0),(.int .i64 0),(.slice none 0 0),(.slice none 0 0),(.slice none 0 0)] 5 9 Zac fun h9=>?_<;>refine ZD 9 TW ?_<;>refine xL 10 Za ?_<;>refine Zi ?_)
 (refine xL 41 Zb (xL 42 Yx ?_)<;>refine Zc ?_)
 refine cX ?_ ?_<;>intro hb42
 · first|exact bN hb42|(
 obtain ⟨hn,rfl⟩:=hR.no hb42;rw [Zf9 hv hl (.inl hn)];refine Ze ?_;(refine xL 43 Zb (xL 4 Za (xL 5 Za (xL 6 Za ?_)))<;>refine Zc ?_)
 refine Wr (Jp (t:=5) rfl) fun _=>?_;exact CX (results12) (.tmp rfl) (.tmp rfl) (.tmp rfl) rfl)
 · first | exact bN hb42|(
 obtain ⟨A,hA,rfl,rfl,rfl,rfl,rfl,rfl⟩:=hR.yes (by simpa using hb42);refine Ze ?_;((refine yL 45 (Zu 3 Wt) fun v45 h=>?_;cases h)<;>refine xL 46 Zb ?_<;>(refine cP 47 (cA (call51) hk) (fun va47 vb47 hva47 hvb47=>?_) (hsh:=s5.t F);cases hvb47)<;>refine xL 44 Zb (xL 48 Zk (xL 49 Zk ?_))<;>refine Zx [(.int .i64 0),(.int .i64 0),(.slice none 0 0),(.slice none 0 0),(.slice none 0 0)] 5 11 Zac fun h11=>?_<;>refine ZD 11 TW ?_<;>refine xL 10 Za ?_<;>refine Zi ?_)
 (refine xL 50 Zb (xL 51 Yx ?_)<;>refine Zc ?_)
 refine cX ?_ ?_<;>intro hb51
 · first|exact bN hb51|(
 obtain ⟨hn,rfl⟩:=hQ.no hb51;rw [Zf9 hv hl (.inr hn)];refine Ze ?_;(refine xL 52 Zb (xL 4 Za (xL 5 Za (xL 6 Za ?_)))<;>refine Zc ?_)
 refine Wr (Jp (t:=5) rfl) fun _=>?_;exact CX (results12) (.tmp rfl) (.tmp rfl) (.tmp rfl) rfl)
 · first |exact bN hb51|(
 obtain ⟨B,hB,rfl,rfl,rfl,rfl,rfl,rfl⟩:=hQ.yes (by simpa using hb51);obtain ⟨mA,sA⟩:=mina A hA;obtain ⟨mB,sB⟩:=minb B hB;obtain ⟨s,v,e,hc⟩:=ZnR mA mB sA sB;have hj3:AF prog 52 [ZN A,ZN B] (· = .tup [ZK s,pInts v,pInt e]):=by
  have:=Cw A B;rw [hc.eq] at this;exact this
 rw [Zmq hv hl hA hB hc];have hvl:=hc.len;refine Ze ?_;((refine yL 54 (Zu 9 TW) fun v54 h=>?_;cases h)<;>(refine yL 55 (Zu 11 TW) fun v55 h=>?_;cases h)<;>(refine Zlh 56 (cA (call52) hj3) (fun va56 vb56 vc56 hva56 hvb56 hvc56=>?_);cases hva56;cases hvc56)<;>refine xL 53 Zb (xL 57 Zk (xL 58 Zk (xL 59 Zk (xL 12 Za (xL 13 Za (xL 10 Za ?_))))))<;>refine Zi ?_)
 (refine xL 60 Zb (xL 61 Yx (xL 62 Zb ?_))<;>(refine bLd 62 (fun hb62=>?_) (fun hb62=>?_)<;>(first|refine kL 63 ?_|refine xL 63 Zb ?_))<;>refine xL 64 ZG ?_<;>refine Zc ?_)<;>(
 refine cX ?_ ?_<;>intro hb64
 · first|exact bN hb64|(
 have hvn:v=[]:=hc.nil (by first|exact .inl (by simpa using hb62)|exact .inr (by simpa using hb64));subst hvn;refine Ze ?_;(refine xL 65 Zb (xL 66 Zb (xL 4 Za (xL 5 Za (xL 6 Za ?_))))<;>refine Zc ?_)
 refine Wr (Jp (t:=5) rfl) fun _=>?_;exact CX (results12) (.tmp rfl) (.tmp rfl) (.tmp rfl) rfl)
 · first|exact bN hb64|(
 have hs0:s=false:=by first|(simpa using hb64)|(exfalso;simp_all;done)
 have he0:e=0:=by first|(simpa using hb62)|(exfalso;simp_all;done)
 subst hs0 he0;refine Ze ?_;(refine xL 67 Zb (xL 68 Zb ?_)<;>(refine cS 69 (cA call53 (ζY v (unT a b) oM hc.inn)) fun v69 h=>?_;cases h)<;>refine xL 4 Za (xL 5 Za (xL 6 Za ?_))<;>refine Zc ?_)
 exact CX (results12) (.tmp rfl) (.tmp rfl) (.tmp rfl) rfl)))))))
theorem Zmr (a b:Nd):unT a b=canB (YI a++YI b):=by unfold unT unK canB;rw [Sj]
def ZhM (i:Nat) (a:Aut):Option Aut:=match (ZjZ a).upto (Ob a a.start) i with
 |some q=>if q.1.length≤i then Wg ⟨a.syms.toNat,q.2,q.1.map (WG a)⟩ else none
 |none=>none
theorem Ht {i:Nat} (hi:i≤2000) {a A:Aut} (h:ZhM i a=some A):W4 a= .ok A:=by
 unfold ZhM at h
 split at h
 · rename_i q hq;split at h
   · rename_i hl;exact Zl2 i hq hl hi h
   · cases h
 · cases h
def Zms (i:Nat) (a:Aut):Option Aut:=if Z5 a=true then ZhM i a else none
def ZhN (i:Nat) (X:Aut):Option Aut:=if 2000<X.n∨20000<(mkM X.moves).length then none else ZhM i (mkA X)
theorem Zga {i:Nat} (hi:i≤2000) {a A:Aut} (h:Zms i a=some A):Jd a= .ok A:=by
 unfold Zms at h
 unfold Jd
 split at h
 · rename_i h1;rw [US h1];exact Ht hi h
 · cases h
theorem Hu {i:Nat} (hi:i≤2000) {a A:Aut} (h:ZhN i a=some A):Je a= .ok A:=by
 unfold ZhN at h
 unfold Je DT
 split at h
 · cases h
 · rename_i h1;rw [UR h1];exact Ht hi h
def ZkA (i:Nat) (a b:Aut):Option Aut:=if WH a b=0 then ZhN i (Km a b) else none
def ZnT (i:Nat) (a b:Aut):Option Aut:=if WH a b=0 then ZhN i (W5 a b) else none
def ZnU (i:Nat) (a:Aut):Option Aut:=if Z5 a=true then ZhN i (KT a) else none
def ZnV (i:Nat) (a b:Aut):Option Aut:=if WH a b=0 then (if 2000<a.n*b.n∨40000<(a.moves.length:Int)*b.n+(b.moves.length:Int)*a.n then none else ZhN i (Wh a b)) else none
def ZkB (i:Nat) (a b:Aut):Option Aut:=(ZkA i b a).bind fun x=>(ZnU i x).bind fun s=>ZkA i a s
def ZkC (i:Nat) (o:Int) (a b:Aut):Option Aut:=if o=3 then ZkA i a b else if o=4 then ZnT i a b else if o=6 then ZkB i a b else ZnV i a b
theorem Zbc {i:Nat} (hi:i≤2000) {a b A:Aut} (h:ZkA i a b=some A):Gv a b= .ok A:=by
 unfold ZkA at h
 unfold Gv
 split at h
 · rename_i h1;rw [UR (fun h=>h h1)];exact Hu hi h
 · cases h
theorem Zmt {i:Nat} (hi:i≤2000) {a b A:Aut} (h:ZnT i a b=some A):Ga a b= .ok A:=by
 unfold ZnT at h
 unfold Ga
 split at h
 · rename_i h1;rw [UR (fun h=>h h1)];exact Hu hi h
 · cases h
theorem Zmu {i:Nat} (hi:i≤2000) {a A:Aut} (h:ZnU i a=some A):JD a= .ok A:=by
 unfold ZnU at h
 unfold JD
 split at h
 · rename_i h1;rw [US h1];exact Hu hi h
 · cases h
theorem Zmv {i:Nat} (hi:i≤2000) {a b A:Aut} (h:ZnV i a b=some A):Le a b= .ok A:=by
 unfold ZnV at h
 unfold Le
 split at h
 · rename_i h1;rw [UR (fun h=>h h1)];split at h
   · cases h
   · rename_i h2;rw [UR h2];exact Hu hi h
 · cases h
theorem ZkD {i:Nat} (hi:i≤2000) {a b A:Aut} (h:ZkB i a b=some A):Jg a b= .ok A:=by
 unfold ZkB at h
 obtain ⟨x,h1,h⟩:=XU.1 h
 obtain ⟨s,h2,h3⟩:=XU.1 h
 unfold Jg
 rw [Zbc hi h1]
 dsimp only
 rw [Zmu hi h2]
 exact Zbc hi h3
theorem Zmw {i:Nat} (hi:i≤2000) {o:Int} {a b A:Aut} (h:ZkC i o a b=some A):Wi o a b= .ok A:=by
 unfold ZkC at h
 unfold Wi
 split at h
 · rename_i h1;rw [US h1];exact Zbc hi h
 rename_i h1
 rw [UR h1]
 split at h
 · rename_i h2;rw [US h2];exact Zmt hi h
 rename_i h2
 rw [UR h2]
 split at h
 · rename_i h3;rw [US h3];exact ZkD hi h
 · rename_i h3;rw [UR h3];exact Zmv hi h
def Zo4 (i:Nat) (o:Int):List (Option Aut)→Option Aut
 |[]=>none
 |x::l=>l.foldl (fun r p=>r.bind fun a=>p.bind fun b=>ZkC i o a b) x
mutual
def ZhO (i:Nat) (acts:List ByteArray):Nd→Option Aut
 | .mk o a l=>if o=1 then Zms i (GJ acts.length (Y0 acts a)) else if o=2 then Zms i (Rz acts.length) else Zo4 i o (Zgb i acts l)
def Zgb (i:Nat) (acts:List ByteArray):List Nd→List (Option Aut)
 |[]=>[]
 |x::l=>ZhO i acts x::Zgb i acts l
end
theorem ZkE (i:Nat) (acts:List ByteArray) (l:List Nd):Zgb i acts l=l.map (ZhO i acts):=by
 induction l with
 |nil=>rfl
 |cons x l ih=>rw [Zgb,ih];rfl
theorem Zgc {i:Nat} (hi:i≤2000) {o:Int}:∀(l m:List (Option Aut)) (r s:Option Aut) {A:Aut},l.length=m.length→(∀(k:Nat) (x y:Option Aut) (B:Aut),l[k]? =some x→m[k]? =some y→x=some B→y=some B)→(∀B,r=some B→s=some B)→l.foldl (fun r p=>r.bind fun a=>p.bind fun b=>ZkC i o a b) r=some A→m.foldl (Gx o) s=some A
 |[],[],r,s,A,_,_,hr,h=>hr A h
 |[],_::_,_,_,_,h,_,_,_=>by simp at h
 |_::_,[],_,_,_,h,_,_,_=>by simp at h
 | x::l,y::m,r,s,A,hl,hm,hr,h=>by
   rw [VH] at h ⊢;refine Zgc hi l m _ _ (by simpa using hl) (fun k x' y' B h1 h2=>hm (k+1) x' y' B (by simpa using h1) (by simpa using h2)) (fun B hB=>?_) h;obtain ⟨a,h1,hB⟩:=XU.1 hB;obtain ⟨b,h2,hB⟩:=XU.1 hB;have h3:=hm 0 x y b rfl rfl h2;rw [hr a h1,h3];show okO (Wi o a b)=some B;rw [Zmw hi hB];rfl
theorem Zbd {i:Nat} (hi:i≤2000) (acts:List ByteArray):∀(t:Nd) {A:Aut},ZhO i acts t=some A→bldT acts t=some A:=Nd.ind fun o a l ih A h=>by
 rw [ZhO] at h
 rw [bldT]
 split at h
 · rename_i h1;rw [US h1];show okO (Jd (GJ acts.length (Y0 acts a)))=some A;rw [Zga hi h];rfl
 rename_i h1
 rw [UR h1]
 split at h
 · rename_i h2;rw [US h2,Zga hi h];rfl
 rename_i h2
 rw [UR h2,ZaY]
 rw [ZkE] at h
 cases l with
 |nil=>cases h
 | cons x l=>
   have h3:(l.map (ZhO i acts)).foldl (fun r p=>r.bind fun a=>p.bind fun b=>ZkC i o a b) (ZhO i acts x)=some A:=h;show (l.map (bldT acts)).foldl (Gx o) (bldT acts x)=some A;refine Zgc hi _ _ _ _ sM (fun k x' y' B h4 h5 h6=>?_) (fun B hB=>ih x (Xm ..) hB) h3;rw [Xh,XA] at h4 h5;obtain ⟨z,hz,rfl⟩:=h4;obtain ⟨z',hz',rfl⟩:=h5;rw [hz] at hz'
   cases hz';exact ih z (Xn _ (Xb hz)) h6
def sA:ByteArray:=⟨#[97]⟩
def sB:ByteArray:=⟨#[98]⟩
def sC:ByteArray:=⟨#[99]⟩
def lfT (s:ByteArray):Nd:= .mk 1 s []
def opT (o:Int) (l:List Nd):Nd:= .mk o ByteArray.empty l
def Cg:Nd:=opT 3 [lfT sA,opT 4 [lfT sB,opT 2 []],lfT sC]
def DL:Nd:=opT 5 [lfT sA,opT 6 [lfT sB,opT 2 []]]
def DN:Nd:=opT 6 [lfT sB,lfT sA]
def ZoN (i:Nat) (a b:Aut) (op:Int):Option (Bool×List Int×Int):=if WH a b=0 then (ZhM i a).bind fun A=>(ZhM i b).bind fun B=>((Wm A B).upto ((0,0),(-1,-1)) i).bind fun q=>if q.1.length≤i then some ((TJ A B op q).1,(TJ A B op q).2,0) else none else none
theorem Zmx {i:Nat} (hi:i≤2000) {a b:Aut} {op:Int} {r:Bool×List Int×Int} (h:ZoN i a b op=some r):cmpX a b op=r:=by
 unfold ZoN at h
 split at h
 · rename_i hf;obtain ⟨A,hA,h⟩:=XU.1 h;obtain ⟨B,hB,h⟩:=XU.1 h;obtain ⟨q,hq,h⟩:=XU.1 h;split at h
   · rename_i hl
     cases h;exact Zl3 hf (Zj0 i (Ht hi hA) (Ht hi hB) hq hl hi)
   · cases h
 · cases h
def Ch:Aut:=⟨5,3,[0],[4],[⟨0,1,0⟩,⟨0,2,1⟩,⟨0,2,2⟩,⟨1,2,0⟩,⟨1,3,1⟩,⟨1,4,2⟩,⟨2,2,0⟩,⟨2,2,1⟩,⟨2,2,2⟩,⟨3,2,0⟩,⟨3,2,1⟩,⟨3,4,2⟩,⟨4,2,0⟩,⟨4,2,1⟩,⟨4,2,2⟩]⟩
def ZmX:Aut:=⟨5,2,[0],[4],[⟨0,1,0⟩,⟨0,2,1⟩,⟨1,3,0⟩,⟨1,4,1⟩,⟨2,4,0⟩,⟨2,2,1⟩,⟨3,3,0⟩,⟨3,3,1⟩,⟨4,3,0⟩,⟨4,4,1⟩]⟩
def ZmY:Aut:=⟨3,2,[0],[2],[⟨0,1,0⟩,⟨0,2,1⟩,⟨1,1,0⟩,⟨1,1,1⟩,⟨2,0,0⟩,⟨2,1,1⟩]⟩
theorem Zmy:bldT [sA,sB,sC] Cg=some Ch:=Zbd (i:=30) dC _ _ kR
theorem Zmz:bldT [sA,sB] DL=some ZmX:=Zbd (i:=30) dC _ _ kR
theorem ZmA:bldT [sA,sB] DN=some ZmY:=Zbd (i:=30) dC _ _ kR
theorem ZkF:cmpX ZmX ZmY 4=(false,[1],0):=Zmx (i:=30) dC kR
theorem Zbe:Kl Cg=true:=by decide+kernel
theorem Zgd:Kl DL=true:=by decide+kernel
theorem Zge:Kl DN=true:=by decide+kernel
theorem ZkG:Cu [sA,sB,sC]:=by unfold Cu;decide+kernel
theorem ZmB:actR Cg=([sA,sB,sC],0):=by
 have h:[sA,sB,sC]=canB (YI Cg):=ZfT ZkG fun s=>Iff.rfl
 have h2:(colS [] (YI Cg)).length=3:=by
  have:=congrArg List.length h;unfold canB at this;rw [Sk] at this;exact this.symm
 unfold actR
 rw [US Zbe,US oM]
 exact Prod.ext h.symm rfl
theorem Zgf:unT DL DN=[sA,sB]:=by
 rw [Zmr]
 refine (ZfT (show Cu [sA,sB] by unfold Cu;decide+kernel) fun s=>?_).symm
 rw [show YI DL++YI DN=[sA,sB,sB,sA] from rfl]
 simp only [Xs,List.not_mem_nil,or_false]
 constructor
 · rintro (h|h)
   · exact .inl h
   · exact .inr (.inl h)
 · rintro (h|h|h|h)
   · exact .inl h
   · exact .inr h
   · exact .inr h
   · exact .inl h
theorem ZmC:eqTX DL DN=(false,[sB],0):=by
 have h2:=Hs DL DN
 rw [Zgf] at h2
 unfold eqTX
 rw [US ⟨Zgd,Zge⟩,US (by rw [←h2];decide),Zgf,Zmz,ZmA]
 dsimp only
 rw [ZkF];rfl
theorem ZmD:Z5 Ch=true:=by kernel_rfl
theorem ZdF:Wp Ch=[2,1,-1,1,0]:=by kernel_rfl
theorem ZkH:ZnO Ch [2,1,-1,1,0] 5=false:=by kernel_rfl
theorem ZkI:ZlY Ch [2,1,-1,1,0] 5 6=[[0,2],[0,1,2]]:=by kernel_rfl
theorem Jr:AggT prog 24 3=true:=by kernel_rfl
theorem Ci:AggT prog 39 5=true:=by kernel_rfl
theorem Tp:ElT prog 22 24 3 48 (.agg #[(.int .i64 0),(.string ByteArray.empty),(.slice none 0 0)]):=⟨underlying22,by kernel_rfl,rfl,dC⟩
theorem O7:ElT prog 27 9 1 16 (.string ByteArray.empty):=⟨underlying27,by kernel_rfl,rfl,dC⟩
theorem O8:ElT prog 71 27 1 24 (.slice none 0 0):=⟨underlying71,by kernel_rfl,rfl,dC⟩
theorem ZhP:NoAgg prog 36=true:=by kernel_rfl
theorem ZdG:NoAgg prog 9=true:=by kernel_rfl
theorem Cj:SlT prog 117 36 1=true:=by kernel_rfl
theorem Tq:SlT prog 27 9 1=true:=by kernel_rfl
theorem O9:WR prog 24=some ((.agg #[(.int .i64 0),(.string ByteArray.empty),(.slice none 0 0)]),([0,1,2]:List Nat).map fun o=>(o,1)):=by kernel_rfl
theorem O':ZeroT prog 24 (.agg #[(.int .i64 0),(.string ByteArray.empty),(.slice none 0 0)]):=by unfold ZeroT;kernel_rfl
theorem ZhQ:ZeroT prog 39 (.agg #[(.int .i64 0),(.int .i64 0),(.slice none 0 0),(.slice none 0 0),(.slice none 0 0)]):=by unfold ZeroT;kernel_rfl
theorem Ze8 (e:Nat) (L:List (List ByteArray)) (x:List ByteArray):PV.own e 1 (L.length+1) (L.map Yv++[Yv x])= .own e 1 (L++[x]).length ((L++[x]).map Yv):=sM
theorem Zbf (e n:Nat) (l:List (List ByteArray)) (hn:n=l.length):share (.own e 1 n (l.map Yv))=Oq l:=by
 subst hn
 rw [share,Yl,XH];rfl
set_option maxHeartbeats 1000000 in
theorem Ze9 (t :Nd) (hf:FitT t) (hv:Kl t=true) {L:List ByteArray} {A:Aut} (hA:actR t=(L,0)) (hB:bldT L t=some A) (n:Int) (hn:0≤n∧n≤200) (W:List (List Int)) (hWl:W.length≤100000) (hWw:∀w∈W,w.length≤1000∧∀i∈w,0≤i∧i<L.length) (hW:AF prog 91 [ZN A,pInt n] (· = .tup [RL W,pInt 0])):AF prog 43 [pTr t,pInt n] (· = .tup [Oq (W.map (nmI L)),pInt 0]):=by
 have e0:pTr t= .agg [pInt t.op,Yq t.act,YZ t.l]:=rfl
 have hV:=Sc t hf
 rw [hv] at hV
 have hS:RS (bldT L t) (pInt A.n) (pInt A.syms) (pInts A.start) (pInts A.fin) (pMvs A.moves) 0:=⟨R5.aut A,by rw [hB];rfl, .inr ⟨A,hB,rfl,rfl,rfl,rfl,rfl,rfl⟩⟩
 have hj:=Zkt t hf hA hS
 rw [e0] at hV hj ⊢
 refine AF.of_body 54 func43 rfl ntmps43 (Xa rfl) ?_
 intro w0 M0 vs hl hv
 obtain ⟨v0,v1,rfl⟩:=YG hl
 obtain rfl:=hv 1 _ _ rfl rfl
 clear hl hv
 refine Ze ?_
 (refine ZC 2 3 fun h2=>?_<;>refine xL 4 Za (xL 5 Za ?_)<;>refine Zi ?_)
 ((refine yL 13 (Zu 2 Jr) fun v13 h=>?_;cases h)<;>(refine cS 14 (cA call24 (hV)) fun v14 h=>?_;cases h)<;>refine xL 15 Z8 ?_<;>refine Zc ?_)
 refine cX ?_ ?_<;>intro hb15
 · exact bN hb15
 · refine Ze ?_;(refine xL 16 Zb (xL 17 ZP (xL 18 Zb ?_))<;>(refine bLd 18 (fun hb18=>?_) (fun hb18=>?_)<;>(first|refine kL 19 ?_|refine xL 19 Zb ?_))<;>(first|refine kL 20 ?_|refine xL 20 Yw ?_)<;>refine xL 21 ZG ?_<;>refine Zc ?_)<;>(
 refine cX ?_ ?_<;>intro hb21
 · exfalso;first|omega|(simp_all;done)|(simp_all;omega)
 · refine Ze ?_;((refine yL 23 (Zu 2 Jr) fun v23 h=>?_;cases h)<;>(refine Zlh 24 (cA (call66) hj) (fun va24 vb24 vc24 hva24 hvb24 hvc24=>?_);cases hvc24)<;>refine xL 22 Zb (xL 25 Zk (xL 26 Zk (xL 27 Zk ?_)))<;>refine Zx [(.int .i64 0),(.int .i64 0),(.slice none 0 0),(.slice none 0 0),(.slice none 0 0)] 5 6 ZhQ fun h6=>?_<;>refine ZD 6 Ci ?_<;>refine xL 7 Za (xL 8 Za ?_)<;>refine Zi ?_)
   (refine xL 28 Zb (xL 29 Yx ?_)<;>refine Zc ?_)
   refine cX ?_ ?_<;>intro hb29
   · exact UT rfl hb29
   · refine Ze ?_;((refine yL 32 (Zu 6 Ci) fun v32 h=>?_;cases h)<;>refine xL 33 Zb ?_<;>(refine cP 34 (cA call91 (hW)) fun va34 vb34 hva34 h=>?_;cases h)<;>refine xL 31 Zb (xL 35 Zk (xL 36 Zk (xL 9 Za (xL 8 Za ?_))))<;>refine Zi ?_)
     (refine xL 37 Zb (xL 38 Yx ?_)<;>refine Zc ?_)
     refine cX ?_ ?_<;>intro hb38
     · exact UT rfl hb38
     · refine Ze ?_;(refine xL 10 Za ?_<;>refine Zi ?_)
       (refine xL 40 Zb (xL 41 (ZR Cj) (xL 42 Zb ?_))<;>refine Zc ?_)
       refine Zs (Jl 200 27 1 rfl) fun _=>?_;refine ZB (ι:={q:Nat×Value//q.1≤W.length∧q.2.oneCell'=true}) (fun k=>⟨[(4,_,_),(5,_,_),(7,_,_),(8,_,_),(40,_,_),(41,_,_),(10,k.1.2, .val k.1.2),(42, .int .i64 k.1.1,pInt k.1.1)],[(2,_,_),(6,_,_),(200,k.1.2, .own 27 1 ((W.take k.1.1).map (nmI L)).length (((W.take k.1.1).map (nmI L)).map Yv))]⟩) (fun k=>W.length-k.1.1) ⟨(0, .slice none 0 0),Xd _,rfl⟩ (fun a w H=>H.weaken ⟨rfl,rfl,rfl,rfl,rfl,rfl,rfl,rfl,trivial⟩ ⟨rfl,rfl,rfl,trivial⟩) ?_;rintro ⟨⟨i,hv10⟩,hi,ho⟩;dsimp only;dsimp only at hi ho;(have hwl:((W.take i).map (nmI L)).length≤W.length:=by rw [Xe,Xo];omega);refine Ze ?_;(refine xL 43 ZP ?_<;>refine Zc ?_)
       refine cX ?_ ?_<;>intro hb43
       · first|exact bN hb43|(
 obtain ⟨w,hw⟩:=Zq (show i<W.length by omega);have e1:=Z7 (f:=pInts) hw;obtain ⟨hw1,hw2⟩:=hWw w (Xb hw);refine Ze ?_;(refine xL 44 (ZI Cj) ?_<;>(refine yL 45 (Ya ZhP) fun v45 h=>?_;cases h)<;>refine xL 12 Za ?_<;>refine Zi ?_)
 (refine xL 46 Zb (xL 47 Zb (xL 48 Zb ?_))<;>(refine cS 49 (cA call53 (ζY w L oM hw2)) fun v49 h=>?_;cases h)<;>refine ZO (kk:=1) 50 O8 fun h50 ho50=>?_<;>(refine Z1 200 50 51 O8 fun h51 ho51=>?_;refine Zt (ZE (l:=51) 200 rfl rfl) fun _=>?_;refine Zt (ZL (l:=200) (p':= .own 27 1 ((W.take (i+1)).map (nmI L)).length (((W.take (i+1)).map (nmI L)).map Yv)) rfl (by rw [ZT hw,Xu];exact Ze8 _ _ _)) fun _=>?_)<;>refine xL 10 Za ?_<;>refine Zi ?_)
 (refine xL 52 ZH (xL 42 Zb ?_)<;>refine Zc ?_)
 refine Zm (
  ⟨(i+1,h51),Zf hw,ho51⟩
  ) (by dsimp only;omega) ⟨rfl,rfl,rfl,rfl,rfl,rfl,rfl,rfl,trivial⟩ ⟨rfl,rfl,rfl,trivial⟩)
       · first|exact bN hb43|(
 rw [Xk (show W.length≤i by omega)];refine Zs (En.freeze (l:=200) (t:=10) rfl rfl) fun _=>?_;rw [Zbf _ _ _ rfl];refine Ze ?_;(refine xL 53 Zb (xL 4 Za (xL 5 Za ?_))<;>refine Zc ?_)
 exact Jm (results43) rfl rfl rfl))
theorem ZnW (s:ByteArray):Rr (.agg [pInt 1,Yq s, .val (.slice none 0 0)]) (pTr (lfT s)):=Rr.agg rfl fun i a b ha hb=>by
 match i with
 |0=>cases ha;cases hb;exact Rr.rfl' _
 |1=>cases ha;cases hb;exact Rr.rfl' _
 |2=>cases ha;cases hb;exact Rr.nil
 |i+3=>simp at ha
theorem ZdH (a:List ByteArray):AF prog 14 [Yv a,Yv a] (· =ZK true):=by
 refine AF.of_body 26 func14 rfl ntmps14 (Xa rfl) ?_
 intro w0 M0 vs hl hv
 obtain ⟨v0,v1,rfl⟩:=YG hl
 clear hl hv
 refine YO 0 rfl fun hlen=>?_
 refine Ze ?_
 (refine xL 4 Za ?_<;>refine Zi ?_)
 (refine xL 6 Zb (xL 7 (ZR Tq) (xL 8 Zb (xL 9 (ZR Tq) (xL 10 Yx ?_))))<;>refine Zc ?_)
 refine cX ?_ ?_<;>intro hb10
 · first|exact bN hb10|(
 refine Ze ?_;(refine xL 4 Za ?_<;>refine Zc ?_)
 exfalso;omega)
 · first | exact bN hb10|(
 refine Ze ?_;(refine xL 11 Zb (xL 12 (ZR Tq) (xL 13 Zb ?_))<;>refine Zc ?_)
 refine ZB (ι:={k:Nat//k≤a.length}) (fun k=>⟨[(0,_,_),(1,_,_),(12,_,_),(13, .int .i64 k.1,pInt k.1)],[]⟩) (fun k=>a.length-k.1) ⟨0,oM⟩ (fun a w H=>H.weaken ⟨rfl,rfl,rfl,rfl,trivial⟩ trivial) ?_;rintro ⟨k,hk⟩;dsimp only;refine Ze ?_;(refine xL 14 ZP ?_<;>refine Zc ?_)
 refine cX ?_ ?_<;>intro hb14
 · first |exact bN hb14|(
 obtain ⟨x,hx⟩:=Zq (show k<a.length by omega);have e1:=Z7 (f:=Yq) hx;refine Ze ?_;(refine xL 15 Zb (xL 5 Za ?_)<;>refine Zc ?_)
 (refine ZY (fun i=>([]:List Nat).elem i) [] kR ?_<;>refine xD 0 16 rfl Zb ?_<;>refine xD 1 17 rfl Zb ?_<;>refine xD 2 18 rfl (ZI Tq) ?_<;>(refine yD 3 19 rfl (Ya ZdG) fun v19 h=>?_;cases h)<;>refine xD 4 20 rfl Zb ?_<;>refine xE 5 21 rfl Zb ?_<;>refine xE 6 22 rfl (ZI Tq) ?_<;>(refine yE 7 23 rfl (Ya ZdG) fun v23 h=>?_;cases h)<;>refine xE 8 24 rfl Zng ?_<;>refine Yr kR (nav ?_)<;>try dsimp only)
 refine cX ?_ ?_<;>intro hb24
 · first|exact bN hb24|(
 refine Ze ?_;(refine xL 4 Za ?_<;>refine Zc ?_)
 exfalso;simp at hb24)
 · first|exact bN hb24|(
 refine Ze ?_;(refine xL 25 ZH (xL 13 Zb ?_)<;>refine Zc ?_)
 refine Zm (
  ⟨k+1,Zf hx⟩
  ) (by dsimp only;omega) ⟨rfl,rfl,rfl,rfl,trivial⟩ trivial))
 · first|exact bN hb14|(
 refine Ze ?_;(refine xL 4 Za ?_<;>refine Zc ?_)
 exact Zy (results14) rfl rfl))
theorem Ck (s:ByteArray):AF prog 41 [Yq s] (· =pTr (lfT s)):=by
 refine AF.reread (p:= .agg [pInt 1,Yq s, .val (.slice none 0 0)]) ?_ rfl (ZnW s)
 refine AF.of_body 5 func41 rfl ntmps41 (Xa rfl) ?_
 intro w0 M0 vs hl hv
 obtain ⟨v0,rfl⟩:=Wj hl
 obtain rfl:=hv 0 _ _ rfl rfl
 clear hl hv
 refine Ze ?_
 (refine Zx [(.int .i64 0),(.string ByteArray.empty),(.slice none 0 0)] 3 2 O' fun h2=>?_<;>refine Zi ?_)
 (refine xL 3 Zb (xL 4 (ZM O9) ?_)<;>refine ZD 2 Jr ?_<;>refine Zc ?_)
 exact Py (k:=3) 2 kR (results41) rfl rfl (Xa rfl) dC rfl rfl
theorem Ts (o:Int) (l:List Nd):AF prog 42 [pInt o,YZ l] (· =pTr (opT o l)):=by
 refine AF.of_body 8 func42 rfl ntmps42 (Xa rfl) ?_
 intro w0 M0 vs hl hv
 obtain ⟨v0,v1,rfl⟩:=YG hl
 obtain rfl:=hv 0 _ _ rfl rfl
 clear hl hv
 refine Ze ?_
 (refine Zx [(.int .i64 0),(.string ByteArray.empty),(.slice none 0 0)] 3 4 O' fun h4=>?_<;>refine Zi ?_)
 (refine xL 5 Zb (xL 6 Zb (xL 7 (ZM O9) ?_))<;>refine ZD 4 Jr ?_<;>refine Zc ?_)
 exact Py (k:=3) 4 kR (results42) rfl rfl (Xa rfl) dC rfl rfl
theorem Zfa:AF prog 91 [ZN Ch,pInt 5] (· = .tup [RL [[0,2],[0,1,2]],pInt 0]):=(Zi5 Ch 5).mono fun p hp=>by
 rcases hp with ⟨h,_⟩|⟨_,h,_⟩|⟨_,_,_,h,_⟩|⟨_,_,_,_,h⟩
 · rw [ZmD] at h;cases h
 · omega
 · rw [ZlZ,ZdF,show (5:Int).toNat=5 from rfl,ZkH] at h;cases h
 · rw [h,ZfX,ZdF,show (5:Int).toNat=5 from rfl,ZkI]
theorem Zfb {t:Nd} (h:Kl t=true):FitT t:=Zlj t (Sa h) (by have:=RJ h;omega)
theorem ZnX:AF prog 43 [pTr Cg,pInt 5] (· = .tup [Oq [[sA,sC],[sA,sB,sC]],pInt 0]):=
 Ze9 Cg (Zfb Zbe) Zbe ZmB Zmy 5 dC [[0,2],[0,1,2]] dC dC Zfa
theorem ZnY:AF prog 12 [pTr DL,pTr DN] (· = .tup [ZK false,Yv [sB],pInt 0]):=by
 have:=Cf DL DN (Zfb Zgd) (Zfb Zge)
 rw [ZmC] at this
 exact this
theorem Oj (x y:Nd):PV.sl 2 (cN x++cN y)=YZ [x,y]:=by unfold YZ;rw [S1];simp
theorem Zfc (x y z:Nd):PV.sl 3 (cN x++(cN y++cN z))=YZ [x,y,z]:=by unfold YZ;rw [S1];simp
theorem ZhR:PC [[sA,sC],[sA,sB,sC]] [[sA,sC],[sA,sB,sC]]=true:=by decide+kernel
set_option maxHeartbeats 4000000 in
theorem Cl:AF prog 10 [] (· =ZK true):=by
 have hactA:=Ck sA
 have hactB:=Ck sB
 have hactC:=Ck sC
 have hS:Rr (.agg [pInt 2, .val (.string ByteArray.empty), .val (.slice none 0 0)]) (pTr (opT 2 [])):=Znt
 refine AF.of_body 72 func10 rfl ntmps10 (Xa rfl) ?_
 intro w0 M0 vs hl hv
 obtain rfl:=XR hl
 clear hl hv
 refine Ze ?_
 (refine xL 0 Za ?_<;>refine Zi ?_)
 (refine xL 1 Za ?_<;>refine Zi ?_)
 (refine xL 2 Za ?_<;>refine Zi ?_)
 ((refine xL 9 (ZM O9) ?_;refine Zt (Ziq (t:=9) (p':=pTr (opT 2 [])) rfl hS) fun _=>?_)<;>refine Zx [(.int .i64 0),(.string ByteArray.empty),(.slice none 0 0)] 3 3 O' fun h3=>?_<;>refine ZD 3 Jr ?_<;>refine Zc ?_)
 (refine ZY (fun i=>([18]:List Nat).elem i) [3] kR ?_<;>refine xD 0 11 rfl Zb ?_<;>refine xD 1 12 rfl Zb ?_<;>refine xD 3 14 rfl Zb ?_<;>refine xD 4 15 rfl Zb ?_<;>(refine yD 6 17 rfl (Zu 3 Jr) fun v17 h=>?_;cases h)<;>refine xD 9 20 rfl Zb ?_<;>(refine Zr 2 kR ?_)<;>(refine WL (d:=13) rfl (JX (f:=41) (ps:=[]) rfl ⟨_,rfl⟩ (call41) rfl hactA) fun v13 h=>?_;cases h)<;>(refine Zr 5 kR ?_)<;>(refine WL (d:=16) rfl (JX (f:=41) (ps:=[]) rfl ⟨_,rfl⟩ (call41) rfl hactB) fun v16 h=>?_;cases h)<;>(refine Zr 7 kR ?_)<;>(refine Zo rfl fun w9 M9 N9 DQ back=>?_)<;>(refine HQ (kk:=3) (xs:=[_,_]) (cs:=[[_,_,_],[_,_,_]]) 18 Tp fun h18 ho18=>?_;refine Zt (En.freeze (l:=18) (t:=18) rfl rfl) fun _=>?_;refine Zt (Wx (t:=18) (p':=YZ [lfT sB,opT 2 []]) rfl (Eq.trans (show _=PV.sl 2 (cN (lfT sB)++cN (opT 2 [])) from rfl) (Oj _ _))) fun _=>?_)<;>refine Zl (back _ (nrm ?_))<;>(refine Zr 8 kR ?_)<;>(refine WL (d:=19) rfl (JX (f:=42) (ps:=[]) rfl ⟨_,rfl⟩ (call42) rfl (Ts 4 [lfT sB,opT 2 []])) fun v19 h=>?_;cases h)<;>(refine Zr 10 kR ?_)<;>(refine WL (d:=21) rfl (JX (f:=41) (ps:=[]) rfl ⟨_,rfl⟩ (call41) rfl hactC) fun v21 h=>?_;cases h)<;>(refine Zr 11 kR ?_)<;>(refine Zo rfl fun w9 M9 N9 DQ back=>?_)<;>(refine HQ (kk:=3) (xs:=[_,_,_]) (cs:=[[_,_,_],[_,_,_],[_,_,_]]) 22 Tp fun h22 ho22=>?_;refine Zt (En.freeze (l:=22) (t:=22) rfl rfl) fun _=>?_;refine Zt (Wx (t:=22) (p':=YZ [lfT sA,opT 4 [lfT sB,opT 2 []],lfT sC]) rfl (Eq.trans (show _=PV.sl 3 (cN (lfT sA)++(cN (opT 4 [lfT sB,opT 2 []])++cN (lfT sC))) from rfl) (Zfc _ _ _))) fun _=>?_)<;>refine Zl (back _ (nrm ?_))<;>(refine Zr 12 kR ?_)<;>(refine WL (d:=23) rfl (JX (f:=42) (ps:=[]) rfl ⟨_,rfl⟩ (call42) rfl (Ts 3 [lfT sA,opT 4 [lfT sB,opT 2 []],lfT sC])) fun v23 h=>?_;cases h)<;>(refine Zr 13 kR ?_)<;>(refine Zo rfl fun w9 M9 N9 DQ back=>?_)<;>(refine cP 24 (cA call43 (ZnX)) fun va24 vb24 hva24 h=>?_;cases h)<;>refine Zl (back _ (nrm ?_))<;>refine xE 14 10 rfl Zb ?_<;>refine xD 15 25 rfl Zk ?_<;>refine xD 16 26 rfl Zk ?_<;>refine xE 17 4 rfl Za ?_<;>refine xE 18 5 rfl Za ?_<;>refine Yr kR (nav ?_)<;>try dsimp only)
 (refine ZY (fun i=>([25]:List Nat).elem i) [3] kR ?_<;>refine xD 0 28 rfl Zb ?_<;>refine xD 1 29 rfl Zb ?_<;>refine xD 3 31 rfl Zb ?_<;>refine xD 4 32 rfl Zb ?_<;>(refine yD 6 34 rfl (Zu 3 Jr) fun v34 h=>?_;cases h)<;>refine xD 11 39 rfl Zb ?_<;>refine xD 12 40 rfl Zb ?_<;>refine xD 14 42 rfl Zb ?_<;>(refine Zr 2 kR ?_)<;>(refine WL (d:=30) rfl (JX (f:=41) (ps:=[]) rfl ⟨_,rfl⟩ (call41) rfl hactA) fun v30 h=>?_;cases h)<;>(refine Zr 5 kR ?_)<;>(refine WL (d:=33) rfl (JX (f:=41) (ps:=[]) rfl ⟨_,rfl⟩ (call41) rfl hactB) fun v33 h=>?_;cases h)<;>(refine Zr 7 kR ?_)<;>(refine Zo rfl fun w9 M9 N9 DQ back=>?_)<;>(refine HQ (kk:=3) (xs:=[_,_]) (cs:=[[_,_,_],[_,_,_]]) 35 Tp fun h35 ho35=>?_;refine Zt (En.freeze (l:=35) (t:=35) rfl rfl) fun _=>?_;refine Zt (Wx (t:=35) (p':=YZ [lfT sB,opT 2 []]) rfl (Eq.trans (show _=PV.sl 2 (cN (lfT sB)++cN (opT 2 [])) from rfl) (Oj _ _))) fun _=>?_)<;>refine Zl (back _ (nrm ?_))<;>(refine Zr 8 kR ?_)<;>(refine WL (d:=36) rfl (JX (f:=42) (ps:=[]) rfl ⟨_,rfl⟩ (call42) rfl (Ts 6 [lfT sB,opT 2 []])) fun v36 h=>?_;cases h)<;>(refine Zr 9 kR ?_)<;>(refine Zo rfl fun w9 M9 N9 DQ back=>?_)<;>(refine HQ (kk:=3) (xs:=[_,_]) (cs:=[[_,_,_],[_,_,_]]) 37 Tp fun h37 ho37=>?_;refine Zt (En.freeze (l:=37) (t:=37) rfl rfl) fun _=>?_;refine Zt (Wx (t:=37) (p':=YZ [lfT sA,opT 6 [lfT sB,opT 2 []]]) rfl (Eq.trans (show _=PV.sl 2 (cN (lfT sA)++cN (opT 6 [lfT sB,opT 2 []])) from rfl) (Oj _ _))) fun _=>?_)<;>refine Zl (back _ (nrm ?_))<;>(refine Zr 10 kR ?_)<;>(refine WL (d:=38) rfl (JX (f:=42) (ps:=[]) rfl ⟨_,rfl⟩ (call42) rfl (Ts 5 [lfT sA,opT 6 [lfT sB,opT 2 []]])) fun v38 h=>?_;cases h)<;>(refine Zr 13 kR ?_)<;>(refine WL (d:=41) rfl (JX (f:=41) (ps:=[]) rfl ⟨_,rfl⟩ (call41) rfl hactB) fun v41 h=>?_;cases h)<;>(refine Zr 15 kR ?_)<;>(refine WL (d:=43) rfl (JX (f:=41) (ps:=[]) rfl ⟨_,rfl⟩ (call41) rfl hactA) fun v43 h=>?_;cases h)<;>(refine Zr 16 kR ?_)<;>(refine Zo rfl fun w9 M9 N9 DQ back=>?_)<;>(refine HQ (kk:=3) (xs:=[_,_]) (cs:=[[_,_,_],[_,_,_]]) 44 Tp fun h44 ho44=>?_;refine Zt (En.freeze (l:=44) (t:=44) rfl rfl) fun _=>?_;refine Zt (Wx (t:=44) (p':=YZ [lfT sB,lfT sA]) rfl (Eq.trans (show _=PV.sl 2 (cN (lfT sB)++cN (lfT sA)) from rfl) (Oj _ _))) fun _=>?_)<;>refine Zl (back _ (nrm ?_))<;>(refine Zr 17 kR ?_)<;>(refine WL (d:=45) rfl (JX (f:=42) (ps:=[]) rfl ⟨_,rfl⟩ (call42) rfl (Ts 6 [lfT sB,lfT sA])) fun v45 h=>?_;cases h)<;>(refine Zr 18 kR ?_)<;>(refine Zo rfl fun w9 M9 N9 DQ back=>?_)<;>(refine Zlh 46 (cA (call12) ZnY) (fun va46 vb46 vc46 hva46 hvb46 hvc46=>?_);cases hva46;cases hvc46)<;>refine Zl (back _ (nrm ?_))<;>refine xE 19 27 rfl Zb ?_<;>refine xD 20 47 rfl Zk ?_<;>refine xD 21 48 rfl Zk ?_<;>refine xD 22 49 rfl Zk ?_<;>refine xE 23 6 rfl Za ?_<;>refine xE 24 7 rfl Za ?_<;>refine xE 25 8 rfl Za ?_<;>refine Yr kR (nav ?_)<;>try dsimp only)
 (refine Zv ?_<;>refine xL 50 Zb ?_<;>(refine HC (xs:=[_,_]) 51 O7 fun h51 ho51=>?_;refine Zt (En.freeze (l:=51) (t:=51) rfl rfl) fun _=>?_;refine Zt (Wx (t:=51) (p':=Yv [sA,sC]) rfl rfl) fun _=>?_)<;>(refine HC (xs:=[_,_,_]) 52 O7 fun h52 ho52=>?_;refine Zt (En.freeze (l:=52) (t:=52) rfl rfl) fun _=>?_;refine Zt (Wx (t:=52) (p':=Yv [sA,sB,sC]) rfl rfl) fun _=>?_)<;>(refine HC (xs:=[_,_]) 53 O8 fun h53 ho53=>?_;refine Zt (En.freeze (l:=53) (t:=53) rfl rfl) fun _=>?_;refine Zt (Wx (t:=53) (p':=Oq [[sA,sC],[sA,sB,sC]]) rfl rfl) fun _=>?_)<;>(refine cS 54 (cA call44 ((Zd1 [[sA,sC],[sA,sB,sC]] [[sA,sC],[sA,sB,sC]]).mono (R':=(· =ZK true)) fun p hp=>by rw [hp,ZhR])) fun v54 h=>?_;cases h)<;>refine xL 55 Zb (xL 56 Zb (xL 57 Zd7 (xL 58 ZG (xL 59 Zb (xL 60 Zb (xL 61 Z8 (xL 62 ZG (xL 63 Zb (xL 64 Zb ?_)))))))))<;>(refine ZO (kk:=1) 65 O7 fun h65 ho65=>?_;refine Zt (En.freeze (l:=65) (t:=65) rfl rfl) fun _=>?_;refine Zt (Wx (t:=65) (p':=Yv [sB]) rfl rfl) fun _=>?_)<;>(refine cS 66 (cA call14 (ZdH [sB])) fun v66 h=>?_;cases h)<;>refine xL 67 ZG (xL 68 Zb (xL 69 Zb (xL 70 Zd7 (xL 71 ZG (xL 0 Za ?_)))))<;>refine Zc ?_)<;>(
 exact Zy results10 rfl rfl)
theorem KY:AggT prog 24 3=true:=by kernel_rfl
theorem ZdI:FldT prog 24 0 0=true:=by kernel_rfl
theorem ZdJ:FldT prog 24 1 1=true:=by kernel_rfl
theorem SX:FldT prog 24 2 2=true:=by kernel_rfl
theorem Da:NoAgg prog 22=true:=by kernel_rfl
theorem ZkJ:NoAgg prog 3=true:=by kernel_rfl
theorem ZkK:NoAgg prog 9=true:=by kernel_rfl
theorem Tt:SlT prog 22 24 3=true:=by kernel_rfl
theorem ZhS:SlT prog 27 9 1=true:=by kernel_rfl
theorem Zae:ZeroT prog 24 (.agg #[(.int .i64 0),(.string ByteArray.empty),(.slice none 0 0)]):=by unfold ZeroT;kernel_rfl
mutual
def Ol:Nd→Int→Int→Int
 | .mk _ a l,m,d=>if 70<d∨100<(a.size:Int)∨m<(l.length:Int) then m else Db l m d 1
def Db:List Nd→Int→Int→Int→Int
 |[],m,_,n=>min n m
 |x::l,m,d,n=>if m≤n then m else Db l m d (n+Ol x (m-n) (d+1))
end
theorem ZnZ:∀(t:Nd) (m d:Int),1≤m→1≤Ol t m d∧Ol t m d≤m:=Nd.ind fun o a l ih m d hm=>by
 rw [Ol]
 split
 · omega
 have key:∀(k:List Nd),(∀x∈k,x∈l)→∀n:Int,1≤n→1≤Db k m d n∧Db k m d n≤m:=fun k=>by
  induction k with
  |nil=>intro _ n hn;rw [Db];omega
  | cons x k ihk=>
    intro hk n hn;rw [Db];split
    · omega
    · have:=ih x (hk x (Xm ..)) (m-n) (d+1) oM;exact ihk (fun y hy=>hk y (Xn _ hy)) _ oM
 exact key l (fun _ h=>h) 1 (VT _)
theorem ZhT {l:List Nd} {k:Nat} {x:Nd} (hx:l[k]? =some x) (m d n:Int):Db (l.drop k) m d n=if m≤n then m else Db (l.drop (k+1)) m d (n+Ol x (m-n) (d+1)):=by
 rw [VG (Zf hx),(XM.1 hx).2,Db]
mutual
def KZ:Nd→Int
 | .mk o _ l=>D1 o l 2
def D1:Int→List Nd→Int→Int
 |_,[],n=>n
 |o,x::l,n=>D1 o l (min (if o=5 then n*KZ x else n+KZ x) 100000)
end
theorem Zn0:∀(t:Nd),2≤KZ t∧KZ t≤100000:=Nd.ind fun o a l ih=>by
 rw [KZ]
 have key:∀(k:List Nd),(∀x∈k,x∈l)→∀n:Int,2≤n→n≤100000→2≤D1 o k n∧D1 o k n≤100000:=fun k=>by
  induction k with
  |nil=>intro _ n hn hm;rw [D1];exact ⟨hn,hm⟩
  | cons x k ihk=>
    intro hk n hn hm;rw [D1];have h1:=ih x (hk x (Xm ..));refine ihk (fun y hy=>hk y (Xn _ hy)) _ ?_ oM;split
    · have:2*2≤n*KZ x:=Int.mul_le_mul hn h1.1 oM oM;omega
    · omega
 exact key l (fun _ h=>h) 2 (VT _) oM
theorem ZhU {l:List Nd} {k:Nat} {x:Nd} (o:Int) (hx:l[k]? =some x) (n:Int):D1 o (l.drop k) n=D1 o (l.drop (k+1)) (min (if o=5 then n*KZ x else n+KZ x) 100000):=by
 rw [VG (Zf hx),(XM.1 hx).2,D1]
set_option maxHeartbeats 2000000 in
theorem Zfd :∀(t:Nd),FitT t→∀(m d:Int),1≤m→m≤1000→1≤d→d≤100→AF prog 27 [pTr t,pInt m,pInt d] (· =pInt (Ol t m d)):=Nd.ind fun o a l ih hf m d hm1 hm2 hd1 hd2=>by
 have e0:pTr (.mk o a l)= .agg [pInt o,Yq a,YZ l]:=rfl
 rw [e0]
 have hl:=hf.len
 have hp:=hf.p
 have ha:=hf.sz
 simp only [Nd.l,Nd.act] at hl hp ha
 refine AF.of_body 50 func27 rfl ntmps27 (Xa rfl) ?_
 intro w0 M0 vs hl hv
 obtain ⟨v0,v1,v2,rfl⟩:=LO hl
 obtain rfl:=hv 1 _ _ rfl rfl
 obtain rfl:=hv 2 _ _ rfl rfl
 clear hl hv
 refine Ze ?_
 (refine ZC 3 3 fun h3=>?_<;>refine xL 6 Za ?_<;>refine Zi ?_)
 (refine xL 10 Zb (xL 11 Yw (xL 12 Zb ?_))<;>(refine bLd 12 (fun hb12=>?_) (fun hb12=>?_)<;>(first|refine kL 13 ?_|refine xL 13 (Zd 3 ZdJ) ?_))<;>(first|refine kL 14 ?_|(refine yL 14 (Zj 3 ZkK) fun v14 h=>?_;cases h))<;>(first|refine kL 15 ?_|refine xL 15 (T' underlying9) ?_)<;>(first|refine kL 16 ?_|refine xL 16 Yw ?_)<;>refine xL 17 ZG (xL 18 Zb ?_)<;>(first|refine kL 19 ?_|(refine bLd 18 (fun hb18=>?_) (fun hb18=>?_)<;>(first|refine kL 19 ?_|refine xL 19 (Zd 3 SX) ?_)))<;>(first|refine kL 20 ?_|(refine yL 20 (Zj 3 Da) fun v20 h=>?_;cases h))<;>(first|refine kL 21 ?_|refine xL 21 (ZR Tt) ?_)<;>(first|refine kL 22 ?_|refine xL 22 Zb ?_)<;>(first|refine kL 23 ?_|refine xL 23 Yw ?_)<;>refine xL 24 ZG ?_<;>refine Zc ?_)<;>(
 refine cX ?_ ?_<;>intro hb24
 · first|exact bN hb24|(
 (have hc:70<d∨100<(a.size:Int)∨m<(l.length:Int):=by simp_all);(have hX:Ol (.mk o a l) m d=m:=by rw [Ol,US hc]);rw [hX];refine Ze ?_;(refine xL 25 Zb (xL 6 Za ?_)<;>refine Zc ?_)
 exact Zy results27 rfl rfl)
 · first | exact bN hb24|(
 (have hc:¬(70<d∨100<(a.size:Int)∨m<(l.length:Int)):=by simp_all);(have hX:Ol (.mk o a l) m d=Db l m d 1:=by rw [Ol,UR hc]);rw [hX];have hd3:d≤70:=oM;refine Ze ?_;(refine xL 7 Za ?_<;>refine Zi ?_)
 (refine xL 26 (Zd 3 SX) ?_<;>(refine yL 27 (Zj 3 Da) fun v27 h=>?_;cases h)<;>refine xL 28 (ZR Tt) (xL 29 Zb ?_)<;>refine Zc ?_)
 refine ZB (ι:={q:Nat×Int//q.1≤l.length∧1≤q.2∧q.2≤m∧Db (l.drop q.1) m d q.2=Db l m d 1}) (fun k=>⟨[(1,_,_),(2,_,_),(27,_,_),(28,_,_),(7, .int .i64 k.1.2,pInt k.1.2),(29, .int .i64 k.1.1,pInt k.1.1)],[(3,_,_)]⟩) (fun k=>l.length-k.1.1) ⟨(0,1),Xd _,VT _,hm1,rfl⟩ (fun a w H=>H.weaken ⟨rfl,rfl,rfl,rfl,rfl,rfl,trivial⟩ ⟨rfl,trivial⟩) ?_;rintro ⟨⟨i,n⟩,hi,hn1,hn2,hq⟩;dsimp only;dsimp only at hi hn1 hn2 hq;refine Ze ?_;(refine xL 30 ZP ?_<;>refine Zc ?_)
 refine cX ?_ ?_<;>intro hb30
 · first |exact bN hb30|(
 obtain ⟨x,hx⟩:=Zq (show i<l.length by omega);have e1:((Ll l).drop (i*3)).take 3=[pInt x.op,Yq x.act,YZ x.l]:=Kp hx;have e2:=Jo hx;rw [ZhT hx] at hq;refine Ze ?_;(refine xL 31 (ZI Tt) ?_<;>(refine yL 32 (Y' KY) fun v32 h=>?_;cases h)<;>refine Zx [(.int .i64 0),(.string ByteArray.empty),(.slice none 0 0)] 3 9 Zae fun h9=>?_<;>refine ZD 9 KY ?_<;>refine Zi ?_)
 (refine xL 33 Zb (xL 34 Zb (xL 35 Y9 ?_))<;>refine Zc ?_)
 refine cX ?_ ?_<;>intro hb35
 · first|exact bN hb35|(
 refine Ze ?_;(refine xL 36 Zb (xL 6 Za ?_)<;>refine Zc ?_)
 refine Zy (results27) rfl ?_;rw [US oM] at hq;rw [←hq])
 · first|exact bN hb35|(
 rw [UR oM] at hq;have hcb:=ZnZ x (m-n) (d+1) oM;refine Ze ?_;(refine xL 37 Zb ?_<;>(refine yL 38 (Zu 9 KY) fun v38 h=>?_;cases h)<;>refine xL 39 Zb (xL 40 Zb (xL 41 KD (xL 42 Zb (xL 43 ZH ?_))))<;>(refine cS 44 (cA call27 (ih x (Xb hx) (hp x (Xb hx)) (m-n) (d+1) oM oM oM oM)) fun v44 h=>?_;cases h)<;>refine xL 45 ZH (xL 7 Za ?_)<;>refine Zi ?_)
 (refine xL 46 ZH (xL 29 Zb ?_)<;>refine Zc ?_)
 refine Zm (
  ⟨(i+1,n+Ol x (m-n) (d+1)),Zf hx,by dsimp only;omega,by dsimp only;omega,hq⟩
  ) (by dsimp only;omega) ⟨rfl,rfl,rfl,rfl,rfl,rfl,trivial⟩ ⟨rfl,trivial⟩))
 · first|exact bN hb30|(
 rw [Vq (show l.length≤i by omega),Db] at hq;refine Ze ?_;(refine xL 47 Zb (xL 48 Zb (xL 49 Zir (xL 6 Za ?_)))<;>refine Zc ?_)
 refine Zy (results27) rfl ?_;rw [←hq];(have hmn:(if m<n then m else n)=min n m:=by split<;>omega);rw [←hmn])))
set_option maxHeartbeats 2000000 in
theorem ZdK :∀(t:Nd),FitT t→AF prog 47 [pTr t] (· =pInt (KZ t)):=Nd.ind fun o a l ih hf=>by
 have e0:pTr (.mk o a l)= .agg [pInt o,Yq a,YZ l]:=rfl
 rw [e0]
 have hl:=hf.len
 have hp:=hf.p
 simp only [Nd.l,Nd.act] at hl hp
 refine AF.of_body 29 func47 rfl ntmps47 (Xa rfl) ?_
 intro w0 M0 vs hl hv
 obtain ⟨v0,rfl⟩:=Wj hl
 clear hl hv
 refine Ze ?_
 (refine ZC 1 3 fun h1=>?_<;>refine xL 2 Za ?_<;>refine Zi ?_)
 (refine xL 3 Za ?_<;>refine Zi ?_)
 (refine xL 7 (Zd 1 SX) ?_<;>(refine yL 8 (Zj 1 Da) fun v8 h=>?_;cases h)<;>refine xL 9 (ZR Tt) (xL 10 Zb ?_)<;>refine Zc ?_)
 refine ZB (ι:={q:Nat×Int//q.1≤l.length∧2≤q.2∧q.2≤100000∧D1 o (l.drop q.1) q.2=D1 o l 2}) (fun k=>⟨[(1,_,_),(8,_,_),(9,_,_),(3, .int .i64 k.1.2,pInt k.1.2),(10, .int .i64 k.1.1,pInt k.1.1)],[(1,_,_)]⟩) (fun k=>l.length-k.1.1) ⟨(0,2),Xd _,VT _,by dsimp only;omega,rfl⟩ (fun a w H=>H.weaken ⟨rfl,rfl,rfl,rfl,rfl,trivial⟩ ⟨rfl,trivial⟩) ?_
 rintro ⟨⟨i,n⟩,hi,hn1,hn2,hq⟩
 dsimp only
 dsimp only at hi hn1 hn2 hq
 refine Ze ?_
 (refine xL 11 ZP ?_<;>refine Zc ?_)
 refine cX ?_ ?_<;>intro hb11
 · first | exact bN hb11|(
 obtain ⟨x,hx⟩:=Zq (show i<l.length by omega);have e1:((Ll l).drop (i*3)).take 3=[pInt x.op,Yq x.act,YZ x.l]:=Kp hx;have e2:=Jo hx;rw [ZhU o hx] at hq;have hw:=Zn0 x;have hmul:2*2≤n*KZ x∧n*KZ x≤100000*100000:=⟨Int.mul_le_mul hn1 hw.1 oM oM,Int.mul_le_mul hn2 hw.2 oM oM⟩;refine Ze ?_;(refine xL 12 (ZI Tt) ?_<;>(refine yL 13 (Y' KY) fun v13 h=>?_;cases h)<;>refine Zx [(.int .i64 0),(.string ByteArray.empty),(.slice none 0 0)] 3 5 Zae fun h5=>?_<;>refine ZD 5 KY ?_<;>refine Zi ?_)
 ((refine yL 14 (Zu 5 KY) fun v14 h=>?_;cases h)<;>(refine cS 15 (cA call47 (ih x (Xb hx) (hp x (Xb hx)))) fun v15 h=>?_;cases h)<;>refine xL 6 Za ?_<;>refine Zi ?_)
 (refine xL 16 (Zd 1 ZdI) ?_<;>(refine yL 17 (Zj 1 ZkJ) fun v17 h=>?_;cases h)<;>refine xL 18 Yd ?_<;>refine Zc ?_)
 refine cX ?_ ?_<;>intro hb18
 · first |exact bN hb18|(
 rw [US (show o=5 from hb18)] at hq;(have hmn:(if 100000<n*KZ x then 100000 else n*KZ x)=min (n*KZ x) 100000:=by split<;>omega);rw [←hmn] at hq;(have hb:2≤(if 100000<n*KZ x then 100000 else n*KZ x)∧(if 100000<n*KZ x then 100000 else n*KZ x)≤100000:=by split<;>omega);refine Ze ?_;(refine xL 19 Zb (xL 20 Zb (xL 21 Ju (xL 22 Zir (xL 3 Za ?_))))<;>refine Zi ?_)
 (refine xL 27 ZH (xL 10 Zb ?_)<;>refine Zc ?_)
 first
  | (exact Zm (
      ⟨(i+1,if 100000<n*KZ x then 100000 else n*KZ x),Zf hx,hb.1,hb.2,hq⟩
      ) (by dsimp only;omega) ⟨rfl,rfl,rfl,rfl,rfl,trivial⟩ ⟨rfl,trivial⟩)
  | (exact Zm (
      ⟨(i+1,if 100000<n+KZ x then 100000 else n+KZ x),Zf hx,hb.1,hb.2,hq⟩
      ) (by dsimp only;omega) ⟨rfl,rfl,rfl,rfl,rfl,trivial⟩ ⟨rfl,trivial⟩))
 · first |exact bN hb18|(
 rw [UR (show ¬o=5 from hb18)] at hq;(have hmn:(if 100000<n+KZ x then 100000 else n+KZ x)=min (n+KZ x) 100000:=by split<;>omega);rw [←hmn] at hq;(have hb:2≤(if 100000<n+KZ x then 100000 else n+KZ x)∧(if 100000<n+KZ x then 100000 else n+KZ x)≤100000:=by split<;>omega);refine Ze ?_;(refine xL 23 Zb (xL 24 Zb (xL 25 ZH (xL 26 Zir (xL 3 Za ?_))))<;>refine Zi ?_)
 (refine xL 27 ZH (xL 10 Zb ?_)<;>refine Zc ?_)
 first
  | (exact Zm (
      ⟨(i+1,if 100000<n*KZ x then 100000 else n*KZ x),Zf hx,hb.1,hb.2,hq⟩
      ) (by dsimp only;omega) ⟨rfl,rfl,rfl,rfl,rfl,trivial⟩ ⟨rfl,trivial⟩)
  | (exact Zm (
      ⟨(i+1,if 100000<n+KZ x then 100000 else n+KZ x),Zf hx,hb.1,hb.2,hq⟩
      ) (by dsimp only;omega) ⟨rfl,rfl,rfl,rfl,rfl,trivial⟩ ⟨rfl,trivial⟩)))
 · first|exact bN hb11|(
 rw [Vq (show l.length≤i by omega),D1] at hq;refine Ze ?_;(refine xL 28 Zb (xL 2 Za ?_)<;>refine Zc ?_)
 refine Zy (results47) rfl ?_;rw [KZ,←hq])
def ZmE (t:Nd):Bool:=decide (14≤Ol t 14 1)||decide (200<KZ t)
theorem ZdL (t:Nd) (hf:FitT t):AF prog 46 [pTr t] (· =ZK (ZmE t)):=by
 have e0:pTr t= .agg [pInt t.op,Yq t.act,YZ t.l]:=rfl
 have hC:=Zfd t hf 14 1 dC dC dC dC
 have hW:=ZdK t hf
 rw [e0] at hC hW ⊢
 refine AF.of_body 11 func46 rfl ntmps46 (Xa rfl) ?_
 intro w0 M0 vs hl hv
 obtain ⟨v0,rfl⟩:=Wj hl
 clear hl hv
 refine Ze ?_
 (refine ZC 1 3 fun h1=>?_<;>refine xL 2 Za ?_<;>refine Zi ?_)
 ((refine yL 3 (Zu 1 KY) fun v3 h=>?_;cases h)<;>(refine cS 4 (cA call27 (hC)) fun v4 h=>?_;cases h)<;>refine xL 5 Y9 (xL 6 Zb ?_)<;>(refine bLd 6 (fun hb6=>?_) (fun hb6=>?_)<;>(first|refine kL 7 ?_|(refine yL 7 (Zu 1 KY) fun v7 h=>?_;cases h)))<;>(first|refine kL 8 ?_|(refine cS 8 (cA call47 (hW)) fun v8 h=>?_;cases h))<;>(first|refine kL 9 ?_|refine xL 9 Yw ?_)<;>refine xL 10 ZG (xL 2 Za ?_)<;>refine Zc ?_)<;>(
 refine Zy (results46) rfl ?_;unfold ZmE
 first|(rw [show decide (14≤Ol t 14 1)=true from hb6];rfl)|(rw [show decide (14≤Ol t 14 1)=false from hb6];rfl)|(rw [UP hb6];rfl)|(rw [UQ hb6];rfl))
theorem Zfe (l:List Nd) (hl:l.length≤1000) (hf:∀t∈l,FitT t):AF prog 11 [YZ l] (· =ZK (!l.any ZmE)):=by
 refine AF.of_body 6 func11 rfl ntmps11 (Xa rfl) ?_
 intro w0 M0 vs hl hv
 obtain ⟨v0,rfl⟩:=Wj hl
 clear hl hv
 refine Ze ?_
 (refine xL 2 Za ?_<;>refine Zi ?_)
 (refine xL 3 Zb ?_<;>(refine cS 4 (cA call45 (Cm 46 ZmE l oM (call46) (fun t ht=>ZdL t (hf t ht)))) fun v4 h=>?_;cases h)<;>refine xL 5 Z8 (xL 2 Za ?_)<;>refine Zc ?_)
 exact Zy results11 rfl rfl
def ZoO (l:List ByteArray) (n:Int):Bool:=decide ((l.length:Int)≤n)&& !(l.any fun s=>decide (100<(s.size:Int)))
theorem ZdM (s:ByteArray):AF prog 60 [Yq s] (· =ZK (decide (100<(s.size:Int)))):=by
 refine AF.of_body 6 func60 rfl ntmps60 (Xa rfl) ?_
 intro w0 M0 vs hl hv
 obtain ⟨v0,rfl⟩:=Wj hl
 obtain rfl:=hv 0 _ _ rfl rfl
 clear hl hv
 refine Ze ?_
 (refine xL 2 Za ?_<;>refine Zi ?_)
 (refine xL 3 Zb (xL 4 (T' underlying9) (xL 5 Yw (xL 2 Za ?_)))<;>refine Zc ?_)
 exact Zy results60 rfl rfl
theorem Zff (l:List ByteArray) (n:Int):AF prog 15 [Yv l,pInt n] (· =ZK (ZoO l n)):=by
 refine AF.of_body 14 func15 rfl ntmps15 (Xa rfl) ?_
 intro w0 M0 vs hl hv
 obtain ⟨v0,v1,rfl⟩:=YG hl
 obtain rfl:=hv 1 _ _ rfl rfl
 clear hl hv
 refine Ze ?_
 (refine xL 4 Za ?_<;>refine Zi ?_)
 (refine xL 5 Zb (xL 6 (ZR ZhS) (xL 7 Zb (xL 8 Pw (xL 9 Zb ?_))))<;>(refine bLd 9 (fun hb9=>?_) (fun hb9=>?_)<;>(first|refine kL 10 ?_|refine xL 10 Zb ?_))<;>(first|refine kL 11 ?_|(refine cS 11 (cA call59 (PE 60 [] (fun s=>decide (100<(s.size:Int))) l (call60) (fun s hs=>ZdM s))) fun v11 h=>?_;cases h))<;>(first|refine kL 12 ?_|refine xL 12 Z8 ?_)<;>refine xL 13 ZG (xL 4 Za ?_)<;>refine Zc ?_)<;>(
 refine Zy (results15) rfl ?_;unfold ZoO
 first|(rw [UP hb9];rfl)|(rw [UQ hb9];rfl))
theorem ZmF {a:Nd} (ha:FitT a):∀t∈[a],FitT t:=fun t ht=>by rw [Xl.1 ht];exact ha
end Go.Proofs.YtgfabnhpllkebaaGreatDoor
namespace Go.En
open Go.RowKit Go.Cb Go.ChangeShapes Go.WideShapes Go.ChangeAt
set_option linter.all false
section
variable {P:Program} {t:TypeId}
end
end Go.En
namespace Go.Proofs.YtgfabnhpllkebaaGreatDoor
open Go.RowKit Go.Cb Go.En Go.ChangeShapes Go.WideShapes Go.ChangeAt Tryz
set_option linter.all false
set_option maxRecDepth 100000
def ZkL:Except Int Aut→Aut
 | .ok a=>a
 | .error _=>ZnB
def Zn1:Except Int Aut→Int
 | .ok _=>0
 | .error e=>e
theorem Zn2 (x:Except Int Aut):ZoD x= .tup [ZN (ZkL x),pInt (Zn1 x)]:=by cases x<;>rfl
theorem ZkM {P:Program} {f:Nat} {ps:List PV} {x:Except Int Aut} (h:AF P f ps (· =resW x)):AF P f ps (· = .tup [ZN (ZkL x),pInt (Zn1 x)]):=by
 rw [←Zn2];exact ZnF h
theorem Zn3 {x:Option Aut} (h:∀a,x=some a→a.moves.length≤20000):(ZkL (lim x)).moves.length≤20000:=by
 cases x with
 |none=>show (0:Nat)≤20000;omega
 |some a=>exact h a rfl
theorem Pi:AggT prog 24 3=true:=by kernel_rfl
theorem TX:AggT prog 39 5=true:=by kernel_rfl
theorem ZhV:ElT prog 22 24 3 48 (.agg #[(.int .i64 0),(.string ByteArray.empty),(.slice none 0 0)]):=⟨underlying22,by kernel_rfl,rfl,dC⟩
theorem Zaf:ZeroT prog 39 (.agg #[(.int .i64 0),(.int .i64 0),(.slice none 0 0),(.slice none 0 0),(.slice none 0 0)]):=by unfold ZeroT;kernel_rfl
theorem Zn4:Dec prog 9 1 (fun s:ByteArray=>[Yq s]) (fun s=>s.size≤140737488355328):=Zfr underlying9 kR
theorem ZmG:Dec prog 27 1 (fun l=>[Yv l]) Zor:=
 Zll id (ZgI underlying27 kR dC (Xa kR) Zn4) (fun _=>rfl) (fun l=>by show [PV.sl l.length (l.map Yq)]=_;rw [Zic]) (fun _ h=>h)
theorem ZkN (x:Nd):PV.sl 1 (cN x)=YZ [x]:=by unfold YZ;rw [S1];simp
theorem ZkO (t:Nd) (acts:List ByteArray):(ZkL (autTX t acts)).moves.length≤20000:=by
 unfold autTX
 split
 · rename_i h;split
   · exact Xd _
   · rename_i hw;have hm:=O6 h.2;have hin:∀s∈YI t,s∈acts:=fun s hs=>by
      obtain ⟨i,_,h2⟩:=ZjS (acts:=acts) (s:=s) (fun h=>hw (VS.2 ⟨s,hs,UP h⟩));exact Xb h2
     exact Zn3 fun A hA=>(ZeU hm t hin A hA).1.aok.ml
 · exact Xd _
set_option maxHeartbeats 2000000 in
theorem ZhW (t:Nd) (acts:List ByteArray) (hf:FitT t) (hfa:Zor acts):AF prog 4 [pTr t,Yv acts] (· =ZK true):=by
 have e0:pTr t= .agg [pInt t.op,Yq t.act,YZ t.l]:=rfl
 have hP:=ZkM (Zks t hf acts hfa.2)
 have hR:=ZkM (ZhJ t hf acts hfa.2)
 have hml:=ZkO t acts
 have hS:=Zfe [t] (show 1≤1000 by decide) (ZmF hf)
 generalize ZkL (autTX t acts)=A at hP hR hml
 generalize Zn1 (autTX t acts)=e at hP hR
 have hSame:=(Zho A A oM oM).mono (R':=(· =ZK true)) fun p hp=>by rw [hp,UP rfl]
 rw [e0] at hP hR ⊢
 refine AF.of_body 43 func4 rfl ntmps4 (Xa rfl) ?_
 intro w0 M0 vs hl hv
 obtain ⟨v0,v1,rfl⟩:=YG hl
 clear hl hv
 refine Ze ?_
 (refine ZC 2 3 fun h2=>?_<;>refine xL 4 Za ?_<;>refine Zi ?_)
 ((refine cS 9 (cA call10 (Cl)) fun v9 h=>?_;cases h)<;>refine xL (v:= .bool false) (p:= .val (.bool false)) 10 (Z8 (b:=true)) ?_<;>refine xL 11 Zb ?_<;>(refine yL 12 (Zu 2 Pi) fun v12 h=>?_;cases h)<;>(refine YD 13 ZhV fun h13 ho13=>?_;refine Zt (En.freeze (l:=13) (t:=13) rfl rfl) fun _=>?_;refine Zt (Wx (t:=13) (p':=YZ [t]) rfl (Eq.trans (show _=PV.sl 1 (cN t) from rfl) (ZkN t))) fun _=>?_)<;>(refine cS 14 (cA call11 (hS)) fun v14 h=>?_;cases h)<;>refine xL 15 Z8 (xL 16 ZG (xL 17 Zb ?_))<;>(refine bL 17 (fun hb17=>?_) (fun hb17=>?_)<;>(first|refine kL 18 ?_|refine xL 18 Zb ?_))<;>(first|refine kL 19 ?_|(refine cS 19 (cA call15 (Zff acts 6)) fun v19 h=>?_;cases h))<;>(first|refine kL 20 ?_|refine xL 20 Z8 ?_)<;>refine xL 21 ZG ?_<;>refine Zc ?_)<;>(
 refine cX ?_ ?_<;>intro hb21
 · first|exact bN hb21|(
 refine Ze ?_;((refine cS 22 (cA call10 (Cl)) fun v22 h=>?_;cases h)<;>refine xL 4 Za ?_<;>refine Zc ?_)
 exact Zy (results4) rfl rfl)
 · first|exact bN hb21|(
 refine Ze ?_;((refine yL 24 (Zu 2 Pi) fun v24 h=>?_;cases h)<;>refine xL 25 Zb ?_<;>(refine cP 26 (cA call16 (hP)) fun va26 vb26 hva26 h=>?_;cases h)<;>refine xL 23 Zb (xL 27 Zk (xL 28 Zk ?_))<;>refine Zx [(.int .i64 0),(.int .i64 0),(.slice none 0 0),(.slice none 0 0),(.slice none 0 0)] 5 5 Zaf fun h5=>?_<;>refine ZD 5 TX ?_<;>refine xL 6 Za ?_<;>refine Zi ?_)
 ((refine yL 30 (Zu 2 Pi) fun v30 h=>?_;cases h)<;>refine xL 31 Zb ?_<;>(refine cP 32 (cA call17 (hR)) fun va32 vb32 hva32 h=>?_;cases h)<;>refine xL 29 Zb (xL 33 Zk (xL 34 Zk ?_))<;>refine Zx [(.int .i64 0),(.int .i64 0),(.slice none 0 0),(.slice none 0 0),(.slice none 0 0)] 5 7 Zaf fun h7=>?_<;>refine ZD 7 TX ?_<;>refine xL 8 Za ?_<;>refine Zi ?_)
 ((refine yL 35 (Zu 5 TX) fun v35 h=>?_;cases h)<;>(refine yL 36 (Zu 7 TX) fun v36 h=>?_;cases h)<;>(refine cS 37 (cA call18 (hSame)) fun v37 h=>?_;cases h)<;>refine xL 38 Zb (xL 39 Zb (xL 40 Zb (xL 41 Zd7 (xL 42 ZG (xL 4 Za ?_)))))<;>refine Zc ?_)<;>(
 exact Zy (results4) rfl rfl)))
end Go.Proofs.YtgfabnhpllkebaaGreatDoor
