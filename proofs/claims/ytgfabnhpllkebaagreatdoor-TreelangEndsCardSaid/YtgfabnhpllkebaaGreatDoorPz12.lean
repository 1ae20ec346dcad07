/-
  Walks of functions and plain laws of the chapter, as the claim needs them.
-/
import Derived.Test.YtgfabnhpllkebaaGreatDoorPz11
import Derived.Test.YtgfabnhpllkebaaGreatDoorPz09
import Derived.Test.YtgfabnhpllkebaaGreatDoorPz08
import Derived.Test.YtgfabnhpllkebaaGreatDoorPz04
import Derived.Test.YtgfabnhpllkebaaGreatDoorPz10
import Derived.Test.YtgfabnhpllkebaaGreatDoorPz01
namespace Go.Proofs.YtgfabnhpllkebaaGreatDoor
open Go.RowKit Go.Cb Go.En Tryz
set_option linter.all false
set_option maxRecDepth 100000
theorem JA:AggT prog 24 3=true:=by kernel_rfl
theorem Z2:AggT prog 39 5=true:=by kernel_rfl
theorem L9:ElT prog 122 39 5 88 (.agg #[(.int .i64 0),(.int .i64 0),(.slice none 0 0),(.slice none 0 0),(.slice none 0 0)]):=⟨underlying122,by kernel_rfl,rfl,dC⟩
theorem JS:FldT prog 24 0 0=true:=by kernel_rfl
theorem Oh:FldT prog 24 2 2=true:=by kernel_rfl
theorem Cy:NoAgg prog 22=true:=by kernel_rfl
theorem TT:NoAgg prog 3=true:=by kernel_rfl
theorem KP:SlT prog 122 39 5=true:=by kernel_rfl
theorem Sd:SlT prog 22 24 3=true:=by kernel_rfl
theorem LB:Ke prog 39=some ((.agg #[(.int .i64 0),(.int .i64 0),(.slice none 0 0),(.slice none 0 0),(.slice none 0 0)]),([0,1,2,3,4]:List Nat).map fun o=>(o,1)):=by kernel_rfl
theorem Cz:ZeroT prog 24 (.agg #[(.int .i64 0),(.string ByteArray.empty),(.slice none 0 0)]):=by unfold ZeroT;kernel_rfl
theorem KZ:ZeroT prog 39 (.agg #[(.int .i64 0),(.int .i64 0),(.slice none 0 0),(.slice none 0 0),(.slice none 0 0)]):=by unfold ZeroT;kernel_rfl
structure PtsOk (acts:List ByteArray) (l:List Nd) (i:Nat) (Ps:List Aut):Prop where
 le:i≤l.length
 eq:(l.take i).map (bldT acts)=Ps.map some
 ok:∀A∈Ps,IsMin A∧A.syms=acts.length
theorem PtsOk.len {acts:List ByteArray} {l:List Nd} {i:Nat} {Ps:List Aut} (h:PtsOk acts l i Ps):Ps.length=i:=by
 have:=congrArg List.length h.eq
 rw [Xd,Xd,Xx] at this
 have:=h.le;omega
theorem PtsOk.next {acts:List ByteArray} {l:List Nd} {i:Nat} {Ps:List Aut} {x:Nd} {A:Aut} (h:PtsOk acts l i Ps) (hx:l[i]? =some x) (hA:bldT acts x=some A) (hb:BldOk acts.length (bldT acts x)):PtsOk acts l (i+1) (Ps++[A]):=
 ⟨Zf hx,by rw [ZE hx,Xr,Xr,h.eq,UK,UK,hA],fun B hB=>by
  rcases Xh.1 hB with h1|h1
  · exact h.ok B h1
  · rw [Xl.1 h1];exact hb A hA⟩
theorem PtsOk.all {acts:List ByteArray} {l:List Nd} {i:Nat} {Ps:List Aut} (h:PtsOk acts l i Ps) (hi:l.length≤i):l.map (bldT acts)=Ps.map some∧Ps.length=l.length:=by
 have h1:=h.eq
 rw [Xo hi] at h1
 exact ⟨h1,by have:=congrArg List.length h1;simpa using this.symm⟩
theorem ZkQ {acts:List ByteArray} {a b:Aut} (o:Int) (ha:IsMin a∧a.syms=acts.length) (hb:IsMin b∧b.syms=acts.length):Kh o a b=lim (okO (Kh o a b)):=(T9 o ha.1 hb.1 ha.2 hb.2).lim
theorem ZiG {acts:List ByteArray} {a b C:Aut} (o:Int) (ha:IsMin a∧a.syms=acts.length) (hb:IsMin b∧b.syms=acts.length) (h:okO (Kh o a b)=some C):IsMin C∧C.syms=acts.length:=((T9 o ha.1 hb.1 ha.2 hb.2).ok h).2
theorem Zf0 {o:Int} {m n:List (Option Aut)} (h:m≠[]) (hn:foldX o m=none):foldX o (m++n)=none:=by
 cases m with
 |nil=>exact UU rfl h
 | cons y m=>
   rw [XW];show (m++n).foldl (JQ o) y=none;rw [Vn,show m.foldl (JQ o) y=none from hn,Pu]
structure FldOk (acts:List ByteArray) (o:Int) (A0:Aut) (Qs:List Aut) (j:Nat) (R:Aut):Prop where
 le:j≤Qs.length
 eq:foldX o ((A0::Qs.take j).map some)=some R
 ok:IsMin R∧R.syms=acts.length
theorem FldOk.step {acts:List ByteArray} {o:Int} {A0 R B:Aut} {Qs:List Aut} {j:Nat} (h:FldOk acts o A0 Qs j R) (hB:Qs[j]? =some B):foldX o ((A0::Qs.take (j+1)).map some)=okO (Kh o R B):=by
 rw [ZE hB,←XW,Xr,UK,Zc5 sM,h.eq];rfl
theorem FldOk.next {acts:List ByteArray} {o:Int} {A0 R B C:Aut} {Qs:List Aut} {j:Nat} (h:FldOk acts o A0 Qs j R) (hB:Qs[j]? =some B) (hb:IsMin B∧B.syms=acts.length) (hC:okO (Kh o R B)=some C):FldOk acts o A0 Qs (j+1) C:=
 ⟨Zf hB,by rw [h.step hB,hC],ZiG o h.ok hb hC⟩
theorem FldOk.none {acts:List ByteArray} {o:Int} {A0 R B:Aut} {Qs:List Aut} {j:Nat} (h:FldOk acts o A0 Qs j R) (hB:Qs[j]? =some B) (hC:okO (Kh o R B)=Option.none):foldX o ((A0::Qs).map some)=Option.none:=by
 have h1:=h.step hB
 rw [hC] at h1
 have:=Zf0 (n:=(Qs.drop (j+1)).map some) sM h1
 rw [←Xr,XW,Vy] at this
 exact this
theorem FldOk.all {acts:List ByteArray} {o:Int} {A0 R:Aut} {Qs:List Aut} {j:Nat} (h:FldOk acts o A0 Qs j R) (hj:Qs.length≤j):foldX o ((A0::Qs).map some)=some R:=by
 have:=h.eq
 rwa [Xo hj] at this
theorem Zf1 (A:Aut) (Qs:List Aut):PV.sl ((A::Qs).length-1) ((((A::Qs).flatMap G1).drop (1*5)).take (((A::Qs).length-1)*5))= .sl Qs.length (Qs.flatMap G1):=by
 have h:((A::Qs).flatMap G1).drop (1*5)=Qs.flatMap G1:=rfl
 rw [h,Xk,VL,Xo (by rw [flat_len TP];exact Xj _)]
theorem ZkR {P:Program} {c:Ctx} {Q:Exit→Act→World→Prop} {sL hP:List (Nat×Ent)} {ι:Type} {x z y:Code} {id:Nat} (S:ι→St) (h:aC P c x (Exit.then (z.wp P (Exit.inBlock id (Exit.then (fun a w=>∃i,Holds c (S i) a w) Q))) (Exit.inBlock id (Exit.then (fun a w=>∃i,Holds c (S i) a w) Q))) (⟨sL,hP⟩:St)) (k:∀i,aC P c y Q (S i)):aC P c x (Exit.then (z.wp P (Exit.inBlock id (Exit.then (y.wp P Q) Q))) (Exit.inBlock id (Exit.then (y.wp P Q) Q))) (⟨sL,hP⟩:St):=fun a w H=>by
 have hm:∀e a w,Exit.inBlock id (Exit.then (fun a w=>∃i,Holds c (S i) a w) Q) e a w→Exit.inBlock id (Exit.then (y.wp P Q) Q) e a w:=fun e a w hq=>by
  cases e with
  |normal=>obtain ⟨i,hi⟩:=hq;exact k i a w hi
  | exit id'=>
    simp only [Exit.inBlock] at hq ⊢;split
    · rename_i he;rw [UT he] at hq;obtain ⟨i,hi⟩:=hq;exact k i a w hi
    · rename_i he;rw [US he] at hq;exact hq
  |_=>exact hq
 refine wp_mono (h a w H) fun e a' w' hq=>?_
 cases e with
 |normal=>exact wp_mono hq hm
 |exit id'=>exact hm (.exit id') a' w' hq
 |_=>exact hq
set_option maxHeartbeats 4000000 in
theorem ZbV (o : Int) (ho:o=3∨o=4∨o=5) (acts:List ByteArray) (a:ByteArray) (x0:Nd) (l0 l:List Nd) (hl0:l=x0::l0) (hl:l.length≤1000000) (ih:∀x∈l,AF prog 51 [pTr x,Yj acts] (· =resW (lim (bldT acts x)))) (hb:∀x∈l,BldOk acts.length (bldT acts x)):AF prog 51 [.agg [pInt o,Z' a,Wb l],Yj acts] (· =resW (lim (foldX o (l.map (bldT acts))))):=by
 have hlen0:l.length=l0.length+1:=by rw [hl0];rfl
 have hc3:o=3→∀R B,AF prog 87 [ZO R,ZO B] (· =resW (Kh o R B)):=fun h R B=>by subst h;exact PE R B
 have hu:o=4→∀R B,AF prog 88 [ZO R,ZO B] (· =resW (Kh o R B)):=fun h R B=>by subst h;exact Ziv R B
 have hs:o=5→∀R B,AF prog 89 [ZO R,ZO B] (· =resW (Kh o R B)):=fun h R B=>by subst h;exact Zdg R B
 refine AF.of_body 130 func51 rfl ntmps51 (Xa rfl) ?_
 intro w0 M0 vs hl hv
 obtain ⟨v0,v1,rfl⟩:=WO hl
 clear hl hv
 refine Ze ?_
 (refine ZG 2 3 fun h2=>?_<;>refine Zw [(.int .i64 0),(.int .i64 0),(.slice none 0 0),(.slice none 0 0),(.slice none 0 0)] 5 4 KZ fun h4=>?_<;>refine xL 5 Za ?_<;>refine Zg ?_)
 (refine xL 18 (Zd 2 JS) ?_<;>(refine yL 19 (Zk 2 TT) fun v19 h=>?_;cases h)<;>refine Zg ?_)
 (refine xL 21 Z3 (xL 20 Za ?_)<;>refine Zc ?_)
 refine cX ?_ ?_<;>intro hb20
 · exact UU (show o=1 by simpa using hb20) oM
 · refine Ze ?_;(refine xL 37 Z3 (xL 36 Za ?_)<;>refine Zc ?_)
   refine cX ?_ ?_<;>intro hb36
   · exact UU (show o=2 by simpa using hb36) oM
   · refine Ze ?_;(refine xL 6 Za ?_<;>refine Zg ?_)
     (refine xL 46 (Zd 2 Oh) ?_<;>(refine yL 47 (Zk 2 Cy) fun v47 h=>?_;cases h)<;>refine xL 48 (ZR Sd) (xL 49 Zb ?_)<;>refine Zc ?_)
     refine Zx (KB 200 39 5 rfl) fun _=>?_;refine ZD (ι:={q:Nat×Value×List Aut//PtsOk acts l q.1 q.2.2∧q.2.1.oneCell'=true}) (fun k=>⟨[(1,_,_),(2,_,_),(4,_,_),(5,_,_),(47,_,_),(48,_,_),(6,k.1.2.1, .val k.1.2.1),(49, .int .i64 k.1.1,pInt k.1.1)],[(2,_,_),(4,_,_),(200,k.1.2.1, .own 39 5 k.1.2.2.length (k.1.2.2.flatMap G1))]⟩) (fun k=>l.length-k.1.1) ⟨(0, .slice none 0 0,[]),⟨Xf _,rfl,fun _ h=>(by cases h)⟩,rfl⟩ (fun a w H=>H.weaken ⟨rfl,rfl,rfl,rfl,rfl,rfl,rfl,rfl,trivial⟩ ⟨rfl,rfl,rfl,trivial⟩) ?_;rintro ⟨⟨i,hv,Ps⟩,hP,ho⟩;dsimp only;dsimp only at hP ho;have hPl:=hP.len;have hPi:=hP.le;have hPc:(Ps.flatMap G1).length=Ps.length*5:=flat_len TP Ps;refine Ze ?_;(refine xL 50 ZQ ?_<;>refine Zc ?_)
     refine cX ?_ ?_<;>intro hb50
     · first |exact bN hb50|(
 obtain ⟨x,hx⟩:=Zp (show i<l.length by omega);have e1:((K0 l).drop (i*3)).take 3=[pInt x.op,Z' x.act,Wb x.l]:=Wh hx;have e2:=W0 hx;obtain ⟨p0,p1,p2,p3,p4,E,r5,hres,hc⟩:=ζI (bldT acts x);have hxa:=ih x (Xc hx);rw [hres] at hxa;obtain ⟨o0,o1,o2,o3,o4⟩:=r5.o;refine Ze ?_;(refine xL 51 (ZF Sd) ?_<;>(refine yL 52 (YI JA) fun v52 h=>?_;cases h)<;>refine Zw [(.int .i64 0),(.string ByteArray.empty),(.slice none 0 0)] 3 8 Cz fun h8=>?_<;>refine ZA 8 JA ?_<;>refine Zg ?_)
 ((refine yL 54 (Zs 8 JA) fun v54 h=>?_;cases h)<;>refine xL 55 Zb ?_<;>(refine cP 56 (cA (call51) hxa) (fun va56 vb56 hva56 hvb56=>?_) (hsh:=r5.t E);cases hvb56)<;>refine xL 53 Zb (xL 57 Zi (xL 58 Zi ?_))<;>refine Zw [(.int .i64 0),(.int .i64 0),(.slice none 0 0),(.slice none 0 0),(.slice none 0 0)] 5 9 KZ fun h9=>?_<;>refine ZA 9 Z2 ?_<;>refine xL 10 Za ?_<;>refine Zg ?_)
 (refine xL 59 Zb (xL 60 YH ?_)<;>refine Zc ?_)
 refine cX ?_ ?_<;>intro hb60
 · first|exact bN hb60|(
 have hn:bldT acts x=none∧E=13:=by
  rcases hc with h|⟨A,_,h,_⟩
  · exact h
  · exact UU h (by simpa using hb60)
 obtain ⟨hn,rfl⟩:=hn;have hF:foldX o (l.map (bldT acts))=none:=Ce (Xg.2 ⟨x,Xc hx,hn⟩);rw [hF];refine Ze ?_;(refine xL 61 (ZL LB) (xL 62 Zb ?_)<;>refine ZA 4 Z2 ?_<;>refine xL 5 Za ?_<;>refine Zc ?_)
 exact Ys (k:=5) 4 kR (results51) rfl rfl rfl (Xa rfl) dC rfl rfl)
 · first|exact bN hb60|(
 have hA:∃A,bldT acts x=some A∧E=0∧p0=pInt A.n∧p1=pInt A.syms∧p2=pInts A.start∧p3=pInts A.fin∧p4=pMvs A.moves:=by
  rcases hc with ⟨_,h⟩|h
  · exact UU h (by simp at hb60;omega)
  · exact h
 clear hc;obtain ⟨A,hA,rfl,rfl,rfl,rfl,rfl,rfl⟩:=hA;have hnx:=hP.next hx hA (hb x (Xc hx))
 refine Ze ?_;(refine xL 63 Zb ?_<;>(refine yL 64 (Zs 9 Z2) fun v64 h=>?_;cases h)<;>refine YM 65 L9 fun h65 ho65=>?_<;>(refine ZU 200 65 66 L9 fun h66 ho66=>?_;refine Zr (Zy (l:=66) 200 rfl rfl) fun _=>?_;refine Zr (ZP (l:=200) rfl (ZbP _ Ps A)) fun _=>?_)<;>refine xL 6 Za ?_<;>refine Zg ?_)
 (refine xL 67 ZH (xL 49 Zb ?_)<;>refine Zc ?_)
 refine Zn (
  ⟨(i+1,h66,Ps++[A]),hnx,ho66⟩
  ) (by dsimp only;omega) ⟨rfl,rfl,rfl,rfl,rfl,rfl,rfl,rfl,trivial⟩ ⟨rfl,rfl,rfl,trivial⟩))
     · first | exact bN hb50|(
 obtain ⟨hall,hPll⟩:=hP.all (show l.length≤i by omega);have hok:=hP.ok;rw [hall];obtain ⟨A0,Qs,rfl⟩:∃A0 Qs,Ps=A0::Qs:=by
  cases Ps with
  |nil=>rw [XC] at hPll;omega
  |cons y m=>exact ⟨y,m,rfl⟩
 refine Zx (En.freeze (l:=200) (t:=6) rfl rfl) fun _=>?_;rw [HM _ _ _ rfl];have e3:(((A0::Qs).flatMap G1).drop (0*5)).take 5=[pInt A0.n,pInt A0.syms,pInts A0.start,pInts A0.fin,pMvs A0.moves]:=rfl;(have e4:0*5+5≤((A0::Qs).flatMap G1).length:=by rw [hPc,Xk];omega);have hQl:0<(A0::Qs).length:=Nat.zero_lt_succ _;(have hQb:Qs.length≤1000000:=by rw [Xk] at hPll;omega);refine Ze ?_;(refine xL 68 (Zd 2 JS) ?_<;>(refine yL 69 (Zk 2 TT) fun v69 h=>?_;cases h)<;>refine xL 70 Z3 ?_<;>refine Zc ?_)
 refine cX ?_ ?_<;>intro hb70
 · exact UU (show o=6 by simpa using hb70) oM
 · refine Ze ?_;(refine xL 13 Za ?_<;>refine Zg ?_)
   (refine xL 101 (Zd 2 JS) ?_<;>(refine yL 102 (Zk 2 TT) fun v102 h=>?_;cases h)<;>refine Zc ?_)
   refine ZkR (fun F:{F:Nat//(∀R B,AF prog F [ZO R,ZO B] (· =resW (Kh o R B)))∧∀args w,(callFunc F args).run prog w= .ok (.enter F args) w}=>⟨[(2,padd (sbase h2) 0, .val (padd (sbase h2) 0)),(4,padd (sbase h4) 0, .val (padd (sbase h4) 0)),(6,hv, .sl (A0::Qs).length ((A0::Qs).flatMap G1)),(13, .func (.func F.1) #[] #[], .fn F.1 [])],[(2,h2, .own 24 3 1 [pInt o,Z' a,Wb l]),(4,h4, .own 39 5 1 ([.int .i64 0, .int .i64 0, .slice none 0 0, .slice none 0 0, .slice none 0 0].map PV.val))]⟩) ?_ ?_
   · (refine Zt ?_<;>refine xL 104 Z3 (xL 103 Za ?_)<;>refine Zc ?_)
     refine cX ?_ ?_<;>intro hb103
     · first|exact bN hb103|(
 have hF:(∀R B,AF prog 88 [ZO R,ZO B] (· =resW (Kh o R B)))∧∀args w,(callFunc 88 args).run prog w= .ok (.enter 88 args) w:=⟨hu (by simpa using hb103),call88⟩;refine Ze ?_;(refine xL 13 Za ?_<;>refine Zc ?_)
 exact K8 ⟨_,hF⟩ ⟨rfl,rfl,rfl,rfl,trivial⟩ ⟨rfl,rfl,trivial⟩)
     · first|exact bN hb103|(
 refine Ze ?_;(refine xL 106 Z3 (xL 105 Za ?_)<;>refine Zc ?_)
 refine cX ?_ ?_<;>intro hb105
 · first|exact bN hb105|(
 have hF:(∀R B,AF prog 89 [ZO R,ZO B] (· =resW (Kh o R B)))∧∀args w,(callFunc 89 args).run prog w= .ok (.enter 89 args) w:=⟨hs (by simpa using hb105),call89⟩;refine Ze ?_;(refine xL 13 Za ?_<;>refine Zc ?_)
 exact K8 ⟨_,hF⟩ ⟨rfl,rfl,rfl,rfl,trivial⟩ ⟨rfl,rfl,trivial⟩)
 · first|exact bN hb105|(
 have hF:(∀R B,AF prog 87 [ZO R,ZO B] (· =resW (Kh o R B)))∧∀args w,(callFunc 87 args).run prog w= .ok (.enter 87 args) w:=⟨hc3 (by have h1:¬o=4:=(by simpa using hb103);have h2:¬o=5:=(by simpa using hb105);omega),call87⟩;refine nav ?_;exact K8 ⟨_,hF⟩ ⟨rfl,rfl,rfl,rfl,trivial⟩ ⟨rfl,rfl,trivial⟩))
   · rintro ⟨F,hFn,hCF⟩;dsimp only;refine Ze ?_;(refine xL 107 Zb (xL 108 (ZF KP) ?_)<;>(refine yL 109 (YI Z2) fun v109 h=>?_;cases h)<;>refine Zw [(.int .i64 0),(.int .i64 0),(.slice none 0 0),(.slice none 0 0),(.slice none 0 0)] 5 14 KZ fun h14=>?_<;>refine ZA 14 Z2 ?_<;>refine Zg ?_)
     (refine xL 110 Zb ?_<;>refine xL 111 (Zez (i:=1) (j:=(A0::Qs).length) KP rfl rfl rfl rfl (Nat.succ_le_of_lt hQl) (Xj _) hPc) ?_<;>(refine Zr (KO (t:=111) (p':= .sl Qs.length (Qs.flatMap G1)) rfl (Zf1 A0 Qs)) fun _=>?_;refine xL 112 (ZR KP) ?_)<;>refine xL 113 Zb ?_<;>refine Zc ?_)
     refine ZD (ι:={q:Nat×Aut//FldOk acts o A0 Qs q.1 q.2}) (fun k=>⟨[(2,_,_),(4,_,_),(13,_,_),(111,_,_),(112,_,_),(14,_,_),(113, .int .i64 k.1.1,pInt k.1.1)],[(2,_,_),(4,_,_),(14,h14, .own 39 5 1 (G1 k.1.2))]⟩) (fun k=>Qs.length-k.1.1) ⟨(0,A0),Xf _,rfl,hok A0 (Xi ..)⟩ (fun a w H=>H.weaken ⟨rfl,rfl,rfl,rfl,rfl,rfl,rfl,trivial⟩ ⟨rfl,rfl,rfl,trivial⟩) ?_;rintro ⟨⟨j,R⟩,hF⟩;dsimp only;dsimp only at hF;have hFj:=hF.le;refine Ze ?_;(refine xL 114 ZQ ?_<;>refine Zc ?_)
     refine cX ?_ ?_<;>intro hb114
     · first |exact bN hb114|(
 obtain ⟨B,hB⟩:=Zp (show j<Qs.length by omega);have e5:=Yc TP Qs j B hB;have e6:=Yz TP hB;have hBm:=hok B (Xn _ (Xc hB));obtain ⟨p0,p1,p2,p3,p4,E,r5,hres,hc⟩:=ζI (okO (Kh o R B));have hj:AF prog F [ZO R,ZO B] (· =resW (Kh o R B)):=hFn R B;rw [ZkQ o hF.ok hBm,hres] at hj;obtain ⟨o0,o1,o2,o3,o4⟩:=r5.o;refine Ze ?_;(refine xL 115 (ZF KP) ?_<;>(refine yL 116 (YI Z2) fun v116 h=>?_;cases h)<;>refine Zw [(.int .i64 0),(.int .i64 0),(.slice none 0 0),(.slice none 0 0),(.slice none 0 0)] 5 16 KZ fun h16=>?_<;>refine ZA 16 Z2 ?_<;>refine Zg ?_)
 (refine xL 17 Za ?_<;>refine Zg ?_)
 (refine xL 118 Zb ?_<;>(refine yL 119 (Zs 14 Z2) fun v119 h=>?_;cases h)<;>(refine yL 120 (Zs 16 Z2) fun v120 h=>?_;cases h)<;>(refine cP 121 (Gg (f:=F) (ps:=[]) rfl ⟨_,rfl⟩ hCF rfl hj) (fun va121 vb121 hva121 hvb121=>?_) (hsh:=r5.t E);cases hvb121)<;>refine xL 117 Zb (xL 122 Zi (xL 123 Zi ?_))<;>refine ZA 14 Z2 ?_<;>refine xL 17 Za ?_<;>refine Zg ?_)
 (refine xL 124 Zb (xL 125 YH ?_)<;>refine Zc ?_)
 refine cX ?_ ?_<;>intro hb125
 · first|exact bN hb125|(
 have hn:okO (Kh o R B)=none∧E=13:=by
  rcases hc with h|⟨A,_,h,_⟩
  · exact h
  · exact UU h (by simpa using hb125)
 obtain ⟨hn,rfl⟩:=hn;rw [hF.none hB hn];refine Ze ?_;(refine xL 126 (ZL LB) (xL 127 Zb ?_)<;>refine ZA 4 Z2 ?_<;>refine xL 5 Za ?_<;>refine Zc ?_)
 exact Ys (k:=5) 4 kR (results51) rfl rfl rfl (Xa rfl) dC rfl rfl)
 · first|exact bN hb125|(
 have hA:∃A,okO (Kh o R B)=some A∧E=0∧p0=pInt A.n∧p1=pInt A.syms∧p2=pInts A.start∧p3=pInts A.fin∧p4=pMvs A.moves:=by
  rcases hc with ⟨_,h⟩|h
  · exact UU h (by simp at hb125;omega)
  · exact h
 clear hc;obtain ⟨C,hC,rfl,rfl,rfl,rfl,rfl,rfl⟩:=hA;have hFn:=hF.next hB hBm hC
 refine Ze ?_;(refine xL 128 ZH (xL 113 Zb ?_)<;>refine Zc ?_)
 refine Zn (
  ⟨(j+1,C),hFn⟩
  ) (by dsimp only;omega) ⟨rfl,rfl,rfl,rfl,rfl,rfl,rfl,trivial⟩ ⟨rfl,rfl,rfl,trivial⟩))
     · first|exact bN hb114|(
 rw [hF.all (show Qs.length≤j by omega)];refine Ze ?_;((refine yL 129 (Zs 14 Z2) fun v129 h=>?_;cases h)<;>refine ZA 4 Z2 ?_<;>refine xL 5 Za ?_<;>refine Zc ?_)
 exact Ys (k:=5) 4 kR (results51) rfl rfl rfl (Xa rfl) dC rfl rfl))
theorem ZbW {acts:List ByteArray} {a b:Aut} (ha:IsMin a∧a.syms=acts.length) (hb:IsMin b∧b.syms=acts.length):MinO acts.length (TJ a b):=TM ha.1 hb.1 ha.2 hb.2
set_option maxHeartbeats 4000000 in
theorem ζK (acts : List ByteArray) (a:ByteArray) (x0 y0:Nd) (l:List Nd) (hl0:l=[x0,y0]) (ih:∀x∈l,AF prog 51 [pTr x,Yj acts] (· =resW (lim (bldT acts x)))) (hb:∀x∈l,BldOk acts.length (bldT acts x)):AF prog 51 [.agg [pInt 6,Z' a,Wb l],Yj acts] (· =resW (lim (foldX 6 (l.map (bldT acts))))):=by
 have hlen0:l.length=2:=by rw [hl0];rfl
 refine AF.of_body 130 func51 rfl ntmps51 (Xa rfl) ?_
 intro w0 M0 vs hl hv
 obtain ⟨v0,v1,rfl⟩:=WO hl
 clear hl hv
 refine Ze ?_
 (refine ZG 2 3 fun h2=>?_<;>refine Zw [(.int .i64 0),(.int .i64 0),(.slice none 0 0),(.slice none 0 0),(.slice none 0 0)] 5 4 KZ fun h4=>?_<;>refine xL 5 Za ?_<;>refine Zg ?_)
 (refine xL 18 (Zd 2 JS) ?_<;>(refine yL 19 (Zk 2 TT) fun v19 h=>?_;cases h)<;>refine Zg ?_)
 (refine xL 21 Z3 (xL 20 Za ?_)<;>refine Zc ?_)
 refine cX ?_ ?_<;>intro hb20
 · exact UU hb20 dC
 · refine Ze ?_;(refine xL 37 Z3 (xL 36 Za ?_)<;>refine Zc ?_)
   refine cX ?_ ?_<;>intro hb36
   · exact UU hb36 dC
   · refine Ze ?_;(refine xL 6 Za ?_<;>refine Zg ?_)
     (refine xL 46 (Zd 2 Oh) ?_<;>(refine yL 47 (Zk 2 Cy) fun v47 h=>?_;cases h)<;>refine xL 48 (ZR Sd) (xL 49 Zb ?_)<;>refine Zc ?_)
     refine Zx (KB 200 39 5 rfl) fun _=>?_;refine ZD (ι:={q:Nat×Value×List Aut//PtsOk acts l q.1 q.2.2∧q.2.1.oneCell'=true}) (fun k=>⟨[(1,_,_),(2,_,_),(4,_,_),(5,_,_),(47,_,_),(48,_,_),(6,k.1.2.1, .val k.1.2.1),(49, .int .i64 k.1.1,pInt k.1.1)],[(2,_,_),(4,_,_),(200,k.1.2.1, .own 39 5 k.1.2.2.length (k.1.2.2.flatMap G1))]⟩) (fun k=>l.length-k.1.1) ⟨(0, .slice none 0 0,[]),⟨Xf _,rfl,fun _ h=>(by cases h)⟩,rfl⟩ (fun a w H=>H.weaken ⟨rfl,rfl,rfl,rfl,rfl,rfl,rfl,rfl,trivial⟩ ⟨rfl,rfl,rfl,trivial⟩) ?_;rintro ⟨⟨i,hv,Ps⟩,hP,ho⟩;dsimp only;dsimp only at hP ho;have hPl:=hP.len;have hPi:=hP.le;have hPc:(Ps.flatMap G1).length=Ps.length*5:=flat_len TP Ps;refine Ze ?_;(refine xL 50 ZQ ?_<;>refine Zc ?_)
     refine cX ?_ ?_<;>intro hb50
     · first |exact bN hb50|(
 obtain ⟨x,hx⟩:=Zp (show i<l.length by omega);have e1:((K0 l).drop (i*3)).take 3=[pInt x.op,Z' x.act,Wb x.l]:=Wh hx;have e2:=W0 hx;obtain ⟨p0,p1,p2,p3,p4,E,r5,hres,hc⟩:=ζI (bldT acts x);have hxa:=ih x (Xc hx);rw [hres] at hxa;obtain ⟨o0,o1,o2,o3,o4⟩:=r5.o;refine Ze ?_;(refine xL 51 (ZF Sd) ?_<;>(refine yL 52 (YI JA) fun v52 h=>?_;cases h)<;>refine Zw [(.int .i64 0),(.string ByteArray.empty),(.slice none 0 0)] 3 8 Cz fun h8=>?_<;>refine ZA 8 JA ?_<;>refine Zg ?_)
 ((refine yL 54 (Zs 8 JA) fun v54 h=>?_;cases h)<;>refine xL 55 Zb ?_<;>(refine cP 56 (cA (call51) hxa) (fun va56 vb56 hva56 hvb56=>?_) (hsh:=r5.t E);cases hvb56)<;>refine xL 53 Zb (xL 57 Zi (xL 58 Zi ?_))<;>refine Zw [(.int .i64 0),(.int .i64 0),(.slice none 0 0),(.slice none 0 0),(.slice none 0 0)] 5 9 KZ fun h9=>?_<;>refine ZA 9 Z2 ?_<;>refine xL 10 Za ?_<;>refine Zg ?_)
 (refine xL 59 Zb (xL 60 YH ?_)<;>refine Zc ?_)
 refine cX ?_ ?_<;>intro hb60
 · first|exact bN hb60|(
 have hn:bldT acts x=none∧E=13:=by
  rcases hc with h|⟨A,_,h,_⟩
  · exact h
  · exact UU h (by simpa using hb60)
 obtain ⟨hn,rfl⟩:=hn;have hF:foldX 6 (l.map (bldT acts))=none:=Ce (Xg.2 ⟨x,Xc hx,hn⟩);rw [hF];refine Ze ?_;(refine xL 61 (ZL LB) (xL 62 Zb ?_)<;>refine ZA 4 Z2 ?_<;>refine xL 5 Za ?_<;>refine Zc ?_)
 exact Ys (k:=5) 4 kR (results51) rfl rfl rfl (Xa rfl) dC rfl rfl)
 · first|exact bN hb60|(
 have hA:∃A,bldT acts x=some A∧E=0∧p0=pInt A.n∧p1=pInt A.syms∧p2=pInts A.start∧p3=pInts A.fin∧p4=pMvs A.moves:=by
  rcases hc with ⟨_,h⟩|h
  · exact UU h (by simp at hb60;omega)
  · exact h
 clear hc;obtain ⟨A,hA,rfl,rfl,rfl,rfl,rfl,rfl⟩:=hA;have hnx:=hP.next hx hA (hb x (Xc hx))
 refine Ze ?_;(refine xL 63 Zb ?_<;>(refine yL 64 (Zs 9 Z2) fun v64 h=>?_;cases h)<;>refine YM 65 L9 fun h65 ho65=>?_<;>(refine ZU 200 65 66 L9 fun h66 ho66=>?_;refine Zr (Zy (l:=66) 200 rfl rfl) fun _=>?_;refine Zr (ZP (l:=200) rfl (ZbP _ Ps A)) fun _=>?_)<;>refine xL 6 Za ?_<;>refine Zg ?_)
 (refine xL 67 ZH (xL 49 Zb ?_)<;>refine Zc ?_)
 refine Zn (
  ⟨(i+1,h66,Ps++[A]),hnx,ho66⟩
  ) (by dsimp only;omega) ⟨rfl,rfl,rfl,rfl,rfl,rfl,rfl,rfl,trivial⟩ ⟨rfl,rfl,rfl,trivial⟩))
     · first | exact bN hb50|(
 obtain ⟨hall,hPll⟩:=hP.all (show l.length≤i by omega);have hok:=hP.ok;rw [hall];obtain ⟨A,B,rfl⟩:∃A B,Ps=[A,B]:=by
  match Ps,hPll.trans hlen0 with
  |[A,B],_=>exact ⟨A,B,rfl⟩
 refine Zx (En.freeze (l:=200) (t:=6) rfl rfl) fun _=>?_;rw [HM _ _ _ rfl];have e3:(([A,B].flatMap G1).drop (0*5)).take 5=[pInt A.n,pInt A.syms,pInts A.start,pInts A.fin,pMvs A.moves]:=rfl;have e4:(([A,B].flatMap G1).drop (1*5)).take 5=[pInt B.n,pInt B.syms,pInts B.start,pInts B.fin,pMvs B.moves]:=rfl;have hA:=hok A (Xi ..);have hB:=hok B (Xn _ (Xi ..));have hF:foldX 6 ([A,B].map some)=okO (GP A B):=rfl;rw [hF];clear hF hall;have mX:=ZbW hB hA;obtain ⟨p0,p1,p2,p3,p4,E,r5,hres,hc⟩:=ζI (okO (TJ B A));have hj:=PE B A;rw [mX.lim,hres] at hj;obtain ⟨o0,o1,o2,o3,o4⟩:=r5.o;refine Ze ?_;(refine xL 68 (Zd 2 JS) ?_<;>(refine yL 69 (Zk 2 TT) fun v69 h=>?_;cases h)<;>refine xL 70 Z3 ?_<;>refine Zc ?_)
 refine cX ?_ ?_<;>intro hb70
 · refine nav ?_;(refine Z5 (fun i=>([12]:List Nat).elem i) [] kR ?_<;>refine xD 0 72 rfl Zb ?_<;>refine xD 1 73 rfl (ZF KP) ?_<;>(refine yD 2 74 rfl (YI Z2) fun v74 h=>?_;cases h)<;>refine xD 3 75 rfl Zb ?_<;>refine xD 4 76 rfl (ZF KP) ?_<;>(refine yD 5 77 rfl (YI Z2) fun v77 h=>?_;cases h)<;>(refine Y5 6 10 kR ?_ ?_;rotate_right;(focus ((refine Zj rfl fun w9 M9 N9 DQ back=>?_)<;>refine Zw [(.int .i64 0),(.int .i64 0),(.slice none 0 0),(.slice none 0 0),(.slice none 0 0)] 5 11 KZ fun h11=>?_<;>refine Zh (back _ (nrm ?_))<;>(refine Zq 6 kR ?_)<;>(refine Zj rfl fun w9 M9 N9 DQ back=>?_)<;>(refine cP 78 (cA (call87) hj) (fun va78 vb78 hva78 hvb78=>?_) (hsh:=r5.t E);cases hvb78)<;>refine Zh (back _ (nrm ?_))<;>refine xE 7 71 rfl Zb ?_<;>refine xD 8 79 rfl Zi ?_<;>refine xD 9 80 rfl Zi ?_<;>(refine Zq 11 kR ?_)<;>(refine Zj rfl fun w9 M9 N9 DQ back=>?_)<;>refine ZA 11 Z2 ?_<;>refine Zh (back _ (nrm ?_))));rotate_right;(focus ((refine Zj rfl fun w9 M9 N9 DQ back=>?_)<;>(refine cP 78 (cA (call87) hj) (fun va78 vb78 hva78 hvb78=>?_) (hsh:=r5.t E);cases hvb78)<;>refine Zh (back _ (nrm ?_))<;>refine xD 7 71 rfl Zb ?_<;>refine xD 8 79 rfl Zi ?_<;>refine xD 9 80 rfl Zi ?_<;>(refine Zq 10 kR ?_)<;>(refine Zj rfl fun w9 M9 N9 DQ back=>?_)<;>refine Zw [(.int .i64 0),(.int .i64 0),(.slice none 0 0),(.slice none 0 0),(.slice none 0 0)] 5 11 KZ fun h11=>?_<;>refine Zh (back _ (nrm ?_))<;>(refine Zq 11 kR ?_)<;>(refine Zj rfl fun w9 M9 N9 DQ back=>?_)<;>refine ZA 11 Z2 ?_<;>refine Zh (back _ (nrm ?_)))))<;>refine xE 12 12 rfl Za ?_<;>refine YC kR (nav ?_)<;>try dsimp only)<;>(
 (refine Zt ?_<;>refine xL 81 Zb (xL 82 YH ?_)<;>refine Zc ?_)
 refine cX ?_ ?_<;>intro hb82
 · first|exact bN hb82|(
 have hn:okO (TJ B A)=none∧E=13:=by
  rcases hc with h|⟨A,_,h,_⟩
  · exact h
  · exact UU h (by simpa using hb82)
 obtain ⟨hn,rfl⟩:=hn;(have hlp:okO (GP A B)=none:=by unfold GP;rw [mX.lim,hn];rfl);rw [hlp];refine Ze ?_;(refine xL 83 (ZL LB) (xL 84 Zb ?_)<;>refine ZA 4 Z2 ?_<;>refine xL 5 Za ?_<;>refine Zc ?_)
 exact Ys (k:=5) 4 kR (results51) rfl rfl rfl (Xa rfl) dC rfl rfl)
 · first |exact bN hb82|(
 have hC:∃C,okO (TJ B A)=some C∧E=0∧p0=pInt C.n∧p1=pInt C.syms∧p2=pInts C.start∧p3=pInts C.fin∧p4=pMvs C.moves:=by
  rcases hc with ⟨_,h⟩|h
  · exact UU h (by simp at hb82;omega)
  · exact h
 clear hc;obtain ⟨C,hC,rfl,rfl,rfl,rfl,rfl,rfl⟩:=hC;obtain ⟨hC1,hC2⟩:=mX.ok hC;have mS:=Pv hC2.1 hC2.2;obtain ⟨p0,p1,p2,p3,p4,E,r5,hres,hc⟩:=ζI (okO (Gu C));have hj:=Zkv C;rw [mS.lim,hres] at hj;obtain ⟨o0,o1,o2,o3,o4⟩:=r5.o;refine Ze ?_;((refine yL 86 (Zs 11 Z2) fun v86 h=>?_;cases h)<;>(refine cP 87 (cA (call90) hj) (fun va87 vb87 hva87 hvb87=>?_) (hsh:=r5.t E);cases hvb87)<;>refine xL 85 Zb (xL 88 Zi (xL 89 Zi ?_))<;>refine ZA 11 Z2 ?_<;>refine xL 12 Za ?_<;>refine Zg ?_)
 (refine xL 90 Zb (xL 91 YH ?_)<;>refine Zc ?_)
 refine cX ?_ ?_<;>intro hb91
 · first|exact bN hb91|(
 have hn:okO (Gu C)=none∧E=13:=by
  rcases hc with h|⟨A,_,h,_⟩
  · exact h
  · exact UU h (by simpa using hb91)
 obtain ⟨hn,rfl⟩:=hn;(have hlp:okO (GP A B)=none:=by unfold GP;rw [hC1];dsimp only;rw [mS.lim,hn];rfl);rw [hlp];refine Ze ?_;(refine xL 92 (ZL LB) (xL 93 Zb ?_)<;>refine ZA 4 Z2 ?_<;>refine xL 5 Za ?_<;>refine Zc ?_)
 exact Ys (k:=5) 4 kR (results51) rfl rfl rfl (Xa rfl) dC rfl rfl)
 · first|exact bN hb91|(
 have hS:∃S,okO (Gu C)=some S∧E=0∧p0=pInt S.n∧p1=pInt S.syms∧p2=pInts S.start∧p3=pInts S.fin∧p4=pMvs S.moves:=by
  rcases hc with ⟨_,h⟩|h
  · exact UU h (by simp at hb91;omega)
  · exact h
 clear hc;obtain ⟨S,hS,rfl,rfl,rfl,rfl,rfl,rfl⟩:=hS;obtain ⟨hS1,hS2⟩:=mS.ok hS;have mT:=ZbW hA hS2;(have hlp:okO (GP A B)=okO (TJ A S):=by unfold GP;rw [hC1];dsimp only;rw [hS1]);rw [hlp];obtain ⟨p0,p1,p2,p3,p4,E,r5,hres,hc⟩:=ζI (okO (TJ A S));have hj:=PE A S;rw [mT.lim,hres] at hj;rw [hres];obtain ⟨o0,o1,o2,o3,o4⟩:=r5.o;refine nav ?_;(refine Z5 (fun i=>([8]:List Nat).elem i) [11] kR ?_<;>refine xD 0 94 rfl Zb ?_<;>refine xD 1 95 rfl (ZF KP) ?_<;>(refine yD 2 96 rfl (YI Z2) fun v96 h=>?_;cases h)<;>(refine yE 3 97 rfl (Zs 11 Z2) fun v97 h=>?_;cases h)<;>(refine Zq 4 kR ?_)<;>(refine Zj rfl fun w9 M9 N9 DQ back=>?_)<;>(refine cP 98 (cA (call87) hj) (fun va98 vb98 hva98 hvb98=>?_) (hsh:=r5.t E);cases hvb98)<;>refine Zh (back _ (nrm ?_))<;>refine xD 5 99 rfl Zi ?_<;>refine xE 6 100 rfl Zi ?_<;>(refine Zq 7 kR ?_)<;>(refine Zj rfl fun w9 M9 N9 DQ back=>?_)<;>refine ZA 4 Z2 ?_<;>refine Zh (back _ (nrm ?_))<;>refine xE 8 5 rfl Za ?_<;>refine YC kR (nav ?_)<;>try dsimp only)
 exact Ys (k:=5) 4 kR (results51) rfl rfl rfl (Xa rfl) dC r5.s rfl)))
 · exact UU rfl hb70)
theorem PK (acts:List ByteArray) (hm:acts.length≤40):∀t:Nd,okT t=true→szT t≤1000→(∀s∈Y6 t,s∈acts)→AF prog 51 [pTr t,Yj acts] (· =resW (lim (bldT acts t))):=Nd.ind fun o a l ih hok hsz ha=>by
 have e0:pTr (.mk o a l)= .agg [pInt o,Z' a,Wb l]:=rfl
 rw [e0]
 obtain ⟨hr,hp⟩:=Wx.1 hok
 have hops:=RY hr
 simp only [Nd.op,Nd.l] at hops hp
 rw [szT] at hsz
 have hlz:=OL l
 have hpa:∀x∈l,o≠1→∀s∈Y6 x,s∈acts:=fun x hx h1 s hs=>ha s (by rw [Y6,US h1];exact Rh.2 ⟨x,hx,hs⟩)
 have hih:o≠1→∀x∈l,AF prog 51 [pTr x,Yj acts] (· =resW (lim (bldT acts x))):=fun h1 x hx=>ih x hx (hp x hx) (by have:=KJ hx;omega) (hpa x hx h1)
 have hbo:o≠1→∀x∈l,BldOk acts.length (bldT acts x):=fun h1 x hx=>Zmb hm x (hpa x hx h1)
 by_cases h1:o=1
 · subst h1;have hmem:a∈acts:=ha a (by rw [Y6,UT rfl];exact Xi ..);obtain ⟨i,h2,h3,_⟩:=Lw hmem;have hi:=Zf h3;have hM:=Lv (m:=acts.length) (OV hm (k:=Kf acts a) (by rw [h2];omega)) rfl;have hl:l=[]:=by unfold rightT at hr;simp [Nd.op,Nd.l] at hr;exact hr.1
   subst hl;have hb:bldT acts (.mk 1 a [])=okO (GZ (Lu acts.length (Kf acts a))):=by rw [bldT,UT rfl];rfl
   rw [hb];obtain ⟨p0,p1,p2,p3,p4,E,r5,hres,_⟩:=ζI (okO (GZ (Lu acts.length (Kf acts a))));have hj:=Od (Lu acts.length (Kf acts a));rw [hM.lim,hres] at hj;rw [hres];exact ZbQ acts a r5 hj
 by_cases h2:o=2
 · subst h2;have hM:=Lv (m:=acts.length) (ζx hm) rfl;have hl:l=[]:=by unfold rightT at hr;simp [Nd.op,Nd.l] at hr;exact hr.1
   subst hl;have hb:bldT acts (.mk 2 a [])=okO (GZ (Pt acts.length)):=by rw [bldT,US dC,UT rfl]
   rw [hb];obtain ⟨p0,p1,p2,p3,p4,E,r5,hres,_⟩:=ζI (okO (GZ (Pt acts.length)));have hj:=Od (Pt acts.length);rw [hM.lim,hres] at hj;rw [hres];exact ZbR acts a r5 hj
 rw [ZhV acts o a l h1 h2]
 by_cases h6:o=6
 · subst h6;obtain ⟨x,y,hxy⟩:=Cg hr;exact ζK acts a x y l hxy (hih h1) (hbo h1)
 have ho:o=3∨o=4∨o=5:=oM
 obtain ⟨x,m,hxm⟩:=Zbv ho hr
 exact ZbV o ho acts a x m l hxm oM (hih h1) (hbo h1)
end Go.Proofs.YtgfabnhpllkebaaGreatDoor
