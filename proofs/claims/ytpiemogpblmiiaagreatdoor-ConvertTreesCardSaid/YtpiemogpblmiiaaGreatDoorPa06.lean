/-
  Walks of functions and plain laws of the chapter, as the claim needs them.
-/
import Derived.Recover
import Derived.Test.YtpiemogpblmiiaaGreatDoorPa05
import Derived.Test.YtpiemogpblmiiaaGreatDoorPa02
import Derived.Test.YtpiemogpblmiiaaGreatDoorPa03
import Derived.Test.YtpiemogpblmiiaaGreatDoorPa04
import Derived.Test.YtpiemogpblmiiaaGreatDoorPa01
namespace Go.Proofs.YtpiemogpblmiiaaGreatDoor
open Go.RowKit Go.Cb Go.En Tryz
set_option linter.all false
set_option maxRecDepth 100000
theorem Gk:AggT prog 117 5=true:=by kernel_rfl
theorem J':AggT prog 24 3=true:=by kernel_rfl
theorem S6:ElT prog 22 24 3 48 (.agg #[(.int .i64 0),(.string ByteArray.empty),(.slice none 0 0)]):=⟨underlying22,by kernel_rfl,rfl,dC⟩
theorem Hl:FldT prog 117 0 0=true:=by kernel_rfl
theorem Sn:FldT prog 117 1 1=true:=by kernel_rfl
theorem So:FldT prog 160 0 0=true:=by kernel_rfl
theorem WN:FldT prog 160 1 1=true:=by kernel_rfl
theorem LK:FldT prog 24 2 2=true:=by kernel_rfl
theorem P5:NoAgg prog 113=true:=by kernel_rfl
theorem S7:NoAgg prog 22=true:=by kernel_rfl
theorem K9:NoAgg prog 3=true:=by kernel_rfl
theorem EO:NoAgg prog 9=true:=by kernel_rfl
theorem P6:SlT prog 113 117 5=true:=by kernel_rfl
theorem ZbN:SlT prog 22 24 3=true:=by kernel_rfl
theorem P7:Y9 prog 156=some ((.agg #[(.int .i64 0),(.string ByteArray.empty),(.int .i64 0),(.int .i64 0),(.int .i64 0)]),[(0,5)]):=by kernel_rfl
theorem S8:Y9 prog 24=some ((.agg #[(.int .i64 0),(.string ByteArray.empty),(.slice none 0 0)]),([0,1,2]:List Nat).map fun o=>(o,1)):=by kernel_rfl
theorem ZbO:(prog.info? 22).map (·.size)=some 1:=by kernel_rfl
theorem P8:(prog.info? 3).map (·.size)=some 1:=by kernel_rfl
theorem C4:ZeroT prog 117 (.agg #[(.int .i64 0),(.string ByteArray.empty),(.int .i64 0),(.int .i64 0),(.int .i64 0)]):=by unfold ZeroT;kernel_rfl
theorem Dk:ZeroT prog 24 (.agg #[(.int .i64 0),(.string ByteArray.empty),(.slice none 0 0)]):=by unfold ZeroT;kernel_rfl
theorem P9 {L m:List Tk} (h:m<:+L):L.drop (L.length-m.length)=m∧m.length≤L.length:=⟨(List.suffix_iff_eq_drop.1 h).symm,h.length_le⟩
theorem LL {L m:List Tk} {i:Nat} {x:Tk} (h:L.drop i=x::m):L[i]? =some x:=by
 have:(L.drop i)[0]? =some x:=by rw [h];rfl
 rwa [XT,XL] at this
theorem Hm {L m:List Tk} {i:Nat} {x:Tk} (h:L.drop i=x::m):L.drop (i+1)=m:=by rw [←Xy,h];rfl
theorem EndL.cons {l:List Tk} (h:EndL l):∃x m,l=x::m:=by
 cases l with
 |nil=>exact Uq rfl h.ne
 |cons x m=>exact ⟨x,m,rfl⟩
abbrev Tt (b:Nat) (L:List Tk) (f:Nat) (m:List Tk) (ch:List PanicEntry) (h:List (Nat×Ent)):Prop:=∃t,rdT f m= .err t∧ch=ZbL t∧∃j,h=RtH b L j
def Zgy (b:Nat) (L:List Tk) (f:Nat):Prop:=∀m:List Tk,m<:+L→EndL m→m.length<f→AFp False prog 129 [(0,ZX b, .val (ZX b))] (RtH b L (L.length-m.length)) (fun _ q h=>∃t m2,rdT f m= .ok t m2∧q=pTr t∧h=RtH b L (L.length-m2.length)) (Tt b L f m)
set_option maxHeartbeats 4000000 in
theorem C5 (b : Nat) (L:List Tk) (hL:L.length≤10000) (hT:∀x∈L,TkOk x) (f:Nat) (ih:∀f',f'≤f→Zgy b L f') (t0:Tk) (m1:List Tk) (hs:t0::m1<:+L) (he:EndL (t0::m1)) (hf:(t0::m1).length<f+1) (i:Nat) (hi0:i=L.length-(t0::m1).length):AFp False prog 129 [(0,ZX b, .val (ZX b))] (RtH b L i) (fun _ q h=>∃t m2,rdT (f+1) (t0::m1)= .ok t m2∧q=pTr t∧h=RtH b L (L.length-m2.length)) (Tt b L (f+1) (t0::m1)):=by
 obtain ⟨hdi,hml⟩:=P9 hs
 rw [←hi0] at hdi
 rw [Xc] at hf hml hi0
 have hiL:i+(m1.length+1)=L.length:=oM
 have hx:=LL hdi
 have hdi1:=Hm hdi
 have hok0:=hT t0 (Xd hx)
 have e1:((JG L).drop (i*5)).take 5=[Zc t0.kind,pB t0.text,Zc t0.n,Zc t0.ln,Zc t0.col]:=GL hx
 have e2:i*5+5≤(JG L).length:=Sl hx
 have hI:∀s:List UInt8,AFh False prog 163 [(0,ZX b, .val (ZX b)),(1, .int .i64 0, .val (.int .i64 0)),(2, .string (bst s),pB s)] (RtH b L i) (fun u q h=>u= .bool (Km (t0::m1) s)∧q=ZV (Km (t0::m1) s)∧h=RtH b L i):=fun s=>by
  have:=Zaa b L i s oM oM;rw [hdi] at this;exact this
 have hI1:∀s:List UInt8,AFh False prog 163 [(0,ZX b, .val (ZX b)),(1, .int .i64 0, .val (.int .i64 0)),(2, .string (bst s),pB s)] (RtH b L (i+1)) (fun u q h=>u= .bool (Km m1 s)∧q=ZV (Km m1 s)∧h=RtH b L (i+1)):=fun s=>by
  have:=Zaa b L (i+1) s oM oM;rw [hdi1] at this;exact this
 unfold RtH
 refine AFp.of_body 110 func129 rfl ntmps129 (Xa rfl) rfl ?_
 intro w0 M0 N0
 refine Zf ?_
 (refine ZA [(.int .i64 0),(.string ByteArray.empty),(.slice none 0 0)] 3 2 Dk fun h2=>?_;refine Ze ?_)
 (refine ZS (fun i=>([]:List Nat).elem i) [1000] kR ?_<;>refine xD 0 6 rfl Za ?_<;>refine xD 1 7 rfl (ZC 1000) ?_<;>refine xD 2 8 rfl (Zd 1000 So) ?_<;>(refine yD 3 9 rfl (Zi 1000 P5) fun v9 h=>?_;cases h)<;>refine xD 4 10 rfl Za ?_<;>refine xD 5 11 rfl (ZC 1000) ?_<;>refine xD 6 12 rfl (Zd 1000 WN) ?_<;>(refine yD 7 13 rfl (Zi 1000 K9) fun v13 h=>?_;cases h)<;>refine xD 8 14 rfl (ZP P6) ?_<;>(refine yD 9 15 rfl (Yz Gk) fun v15 h=>?_;cases h)<;>(refine Zl 10 kR ?_)<;>(refine Zj rfl fun w9 M9 N9 DQ back=>?_)<;>refine ZA [(.int .i64 0),(.string ByteArray.empty),(.int .i64 0),(.int .i64 0),(.int .i64 0)] 5 3 C4 fun h3=>?_<;>refine Zh (back _ (nrm ?_))<;>(refine Zl 11 kR ?_)<;>(refine Zj rfl fun w9 M9 N9 DQ back=>?_)<;>refine Zv 3 Gk ?_<;>refine Zh (back _ (nrm ?_))<;>refine Yu kR (nav ?_)<;>try dsimp only)
 refine Zz (ZF (l:=3) (p':= .own 117 5 1 [Zc t0.kind,pB t0.text,Zc t0.n,Zc t0.ln,Zc t0.col]) rfl rfl) fun _=>?_
 (refine Zm ?_;refine xL 17 Za ?_;(refine ZT [2,3] 18 (call163) (hI [40]) ?_;rintro _ _ _ ⟨rfl,rfl,rfl⟩;dsimp only [RtH]);refine xL 16 Zb ?_;refine Ze ?_)
 refine cX ?_ ?_<;>intro hb16
 · first|exact bN hb16|(
 have h40:Km (t0::m1) [40]=true:=hb16;(have hr:rdT (f+1) (t0::m1)=(if Km m1 [41] then .ok TB m1.tail else .err (m1.headD tk0)):=by rw [rdT,Up h40]);(have hk0:t0.kind=4:=by obtain ⟨t',m',hc,hk,_⟩:=Ke h40;cases hc;exact hk);have he1:=he.tail oM;obtain ⟨x1,m2,rfl⟩:=he1.cons;have hx1:=LL hdi1;rw [Xc] at hiL;refine Zf ?_;(refine xL 19 Za (xL 20 (ZC 1000) (xL 21 (Zd 1000 WN) ?_));refine yL 22 (Zi 1000 K9) fun v22 hv22=>?_;cases hv22;refine xL 23 ZO (xL 24 (ZC 1000) (xL 25 (Zd 1000 WN) ?_));refine Y3 1000 K9 P8 ?_;refine Zn ?_)
 (refine xL 26 Za ?_;(refine ZL [(2,_,_),(3,_,_),(1000,Yd b, .own 160 2 1 [P4 L,Zc ((i+1:Nat):Int)])] ⟨rfl,rfl,rfl,trivial⟩ ?_;refine Ej [2,3] 27 (call164) (Zab b L (i+1) [41] x1 oM hx1) (fun v27 p27 h27 hR27=>?_) (fun ch h hRp=>by (obtain ⟨hp1,rfl,rfl⟩:=hRp;rw [hdi1] at hp1;exact EK (Tt b L (f+1) (t0::x1::m2)) (RtH b L (i+1)) ⟨rfl,trivial⟩ ⟨x1,by rw [hr,hp1];rfl,rfl,_,rfl⟩));obtain ⟨hp1,rfl⟩:=hR27;rw [hdi1] at hp1;dsimp only [RtH]);refine Zn ?_)
 (refine xL 28 (Z3 S8) ?_;(refine Zp (WT (t:=28) (p':=pTr TB) rfl (Gj 2 ByteArray.empty)) fun _=>?_;refine Zv 2 J' ?_);refine Ze ?_)
 refine Hh (PK (k:=3) 2 (RtH b L (i+1+1)) kR (results129) rfl rfl (Xa rfl) dC rfl ⟨rfl,trivial⟩ fun V=>⟨TB,m2,by rw [hr,hp1];rfl,rfl,?_⟩);rw [show i+1+1=L.length-m2.length by omega];rfl)
 · first | exact bN hb16|(
 have h40:Km (t0::m1) [40]=false:=hb16;refine Zf ?_;(refine xL 30 (Zd 3 Hl) ?_;refine yL 31 (Zi 3 K9) fun v31 hv31=>?_;cases hv31;refine xL 32 YN (xL 29 Zb ?_);refine Ze ?_)
 refine cX ?_ ?_<;>intro hb29
 · first|exact bN hb29|(
 refine Zf ?_;(refine yL 33 (Zq 3 Gk) fun v33 hv33=>?_;cases hv33;refine yL 34 (W7 P7) fun v34 hv34=>?_;cases hv34;refine xL 35 (DY kR) ?_;(refine ZcT (d:=34) (tkV t0) rfl (fun h34=>?_);subst h34;refine Ei ?_;exact EK (Tt b L (f+1) (t0::m1)) (RtH b L i) ⟨rfl,trivial⟩ ⟨t0,by rw [rdT,h40,Uo XV,Up oM],rfl,_,rfl⟩)))
 · first | exact bN hb29|(
 have hk1:t0.kind=1:=oM;have he1:=he.tail oM;have hr:rdT (f+1) (t0::m1)=(if RU t0.text=0 then (if Km m1 [40] then .err (m1.headD tk0) else .ok (.mk 1 (bst t0.text) []) m1)
  else if Km m1 [40] then (match rdT f m1.tail with| .err e=> .err e| .ok x m2=>rdL f (RU t0.text) [x] m2)
  else .ok (.mk 1 (bst t0.text) []) m1):=by
  rw [rdT,h40,Uo XV,Uo oM];rfl
 obtain ⟨o,ho⟩:∃o,o=RU t0.text:=⟨_,rfl⟩;rw [←ho] at hr;have hob:=ζN t0.text;rw [←ho] at hob;have htx:=hok0.text;have hopc:=EM t0.text oM;rw [←ho] at hopc;obtain ⟨x1,m2,rfl⟩:=he1.cons;have hx1:=LL hdi1;have hdi2:=Hm hdi1;have e3:((JG L).drop ((i+1)*5)).take 5=[Zc x1.kind,pB x1.text,Zc x1.n,Zc x1.ln,Zc x1.col]:=GL hx1;have e4:(i+1)*5+5≤(JG L).length:=Sl hx1;rw [Xc] at hiL hf;refine Zf ?_;(refine xL 36 (Zd 3 Sn) ?_;refine yL 37 (Zi 3 EO) fun v37 hv37=>?_;cases hv37;refine cS 38 (cA call165 (hopc)) fun v38 hv38=>?_;cases hv38;refine xL 4 Zb ?_;refine Zn ?_)
 (refine xL 39 Za (xL 40 (ZC 1000) (xL 41 (Zd 1000 WN) ?_));refine yL 42 (Zi 1000 K9) fun v42 hv42=>?_;cases hv42;refine xL 43 ZO (xL 44 (ZC 1000) (xL 45 (Zd 1000 WN) ?_));refine Y3 1000 K9 P8 ?_;refine Zn ?_)
 (refine xL 46 Za (xL 47 ZQ (xL 48 Za ?_))<;>(refine bLd 48 (fun hb48=>?_) (fun hb48=>?_)<;>(first|refine kL 49 ?_|refine xL 49 Za ?_))<;>(first|refine kL 50 ?_|refine kL 50 ?_|(refine ZL [(2,_,_),(3,_,_),(1000,Yd b, .own 160 2 1 [P4 L,Zc ((i+1:Nat):Int)])] ⟨rfl,rfl,rfl,trivial⟩ ?_;refine ZT [2,3] 50 (call163) (hI1 [40]) ?_;rintro _ _ _ ⟨rfl,rfl,rfl⟩;dsimp only [RtH]))<;>(first|refine kL 51 ?_|refine xL 51 Ym ?_)<;>refine xL 52 Zu ?_<;>refine Ze ?_)<;>(
 refine cX ?_ ?_<;>intro hb52
 · first|exact bN hb52|(
 refine Zf ?_;(refine xL 53 Za ?_;(refine ZL [(2,_,_),(3,_,_),(1000,Yd b, .own 160 2 1 [P4 L,Zc ((i+1:Nat):Int)])] ⟨rfl,rfl,rfl,trivial⟩ ?_;refine ZT [2,3] 54 (call163) (hI1 [40]) ?_;rintro _ _ _ ⟨rfl,rfl,rfl⟩;dsimp only [RtH]);refine Ze ?_)
 refine cX ?_ ?_<;>intro hb54
 · first|exact bN hb54|(
 have h40':Km (x1::m2) [40]=true:=hb54;refine nav ?_;(refine PM (Zdo ⟨w0,M0,N0,110,False,[]⟩ (Tt b L (f+1) (t0::x1::m2))) (fun i=>([]:List Nat).elem i) [1000] kR (Zhi (fun _ _ h=>h)) ?_<;>refine xDp 0 55 rfl Za ?_<;>refine xDp 1 56 rfl (ZC 1000) ?_<;>refine xDp 2 57 rfl (Zd 1000 So) ?_<;>(refine yDp 3 58 rfl (Zi 1000 P5) fun v58 h=>?_;cases h)<;>refine xDp 4 59 rfl Za ?_<;>refine xDp 5 60 rfl (ZC 1000) ?_<;>refine xDp 6 61 rfl (Zd 1000 WN) ?_<;>(refine yDp 7 62 rfl (Zi 1000 K9) fun v62 h=>?_;cases h)<;>refine xDp 8 63 rfl (ZP P6) ?_<;>(refine yDp 9 64 rfl (Yz Gk) fun v64 h=>?_;cases h)<;>(refine yDp 10 65 rfl (W7 P7) fun v65 h=>?_;cases h)<;>refine xDp 11 66 rfl (DY kR) ?_<;>(refine ζR (d:=65) (tkV x1) rfl (fun h65=>?_);subst h65;exact Df 12 rfl (fun a w F H=>H.panW' (RtH b L (i+1)) ⟨rfl,trivial⟩ ⟨x1,by first|(rw [hr,Up oM,Up h40'];rfl)|(exfalso;simp_all;done),rfl,_,rfl⟩))<;>try dsimp only))
 · first|exact bN hb54|(
 (have h40':Km (x1::m2) [40]=false:=by simpa using hb54);refine Zf ?_;(refine xL 67 (Zd 3 Sn) ?_;refine yL 68 (Zi 3 EO) fun v68 hv68=>?_;cases hv68;refine xL 69 (Z3 S8) ?_;(refine Zp (WT (t:=69) (p':=pTr (.mk 1 (bst t0.text) [])) rfl (Gj 1 (bst t0.text))) fun _=>?_;refine Zv 2 J' ?_);refine Ze ?_)
 refine Hh (PK (k:=3) 2 (RtH b L (i+1)) kR (results129) rfl rfl (Xa rfl) dC rfl ⟨rfl,trivial⟩ fun V=>⟨.mk 1 (bst t0.text) [],x1::m2,?_,rfl,?_⟩)
 · rw [hr,h40'];split<;>rfl
 · rw [Xc,show i+1=L.length-(m2.length+1) by omega];rfl))
 · first | exact bN hb52|(
 refine nav ?_;have ho0:¬o=0:=by first|omega|simp_all
 have h40':Km (x1::m2) [40]=true:=by first|assumption|simp_all
 (have hk1':x1.kind=4:=by obtain ⟨t',m',hc,hk,_⟩:=Ke h40';cases hc;exact hk);have he2:=he1.tail oM;have hs2:m2<:+L:=⟨L.take (i+1+1),by rw [←hdi2,Vw]⟩;rw [Uo ho0,Up h40'] at hr;have hc2:=ih f (Xb _) m2 hs2 he2 oM;rw [show L.length-m2.length=i+1+1 by omega] at hc2;(refine Zm ?_;refine xL 70 Za (xL 71 (ZC 1000) (xL 72 (Zd 1000 WN) ?_));refine yL 73 (Zi 1000 K9) fun v73 hv73=>?_;cases hv73;refine xL 74 ZO (xL 75 (ZC 1000) (xL 76 (Zd 1000 WN) ?_));refine Y3 1000 K9 P8 ?_;refine Zn ?_)
 (refine xL 77 Za (xL 78 Za ?_);(refine ZL [(2,_,_),(3,_,_),(1000,Yd b, .own 160 2 1 [P4 L,Zc ((i+1+1:Nat):Int)])] ⟨rfl,rfl,rfl,trivial⟩ ?_;refine Ej [2,3] 79 (call129) hc2 (fun v79 p79 h79 hR79=>?_) (fun ch h hRp=>by (obtain ⟨t,hp1,rfl,j,rfl⟩:=hRp;exact EK (Tt b L (f+1) (t0::x1::m2)) (RtH b L j) ⟨rfl,trivial⟩ ⟨t,by rw [hr];show (match rdT f m2 with| .err e=>Rd.err e| .ok x m2=>rdL f o [x] m2)=_;rw [hp1],rfl,j,rfl⟩));obtain ⟨x,m3,hr3,rfl,rfl⟩:=hR79;dsimp only [RtH]);(refine K1 80 S6 fun h80 ho80=>?_;have hone80:En.one (PV.val h80)=true:=ho80;refine Zp (Z0 (l:=80) 200 rfl rfl) fun _=>?_;refine Zp (ZF (l:=200) rfl (show PV.own 24 3 1 (cN x)= .own 24 3 [x].length (Z6 [x]) by rw [We];rfl)) fun _=>?_);refine xL 81 (Z3 S8) ?_;refine ZA [(.int .i64 0),(.string ByteArray.empty),(.slice none 0 0)] 3 5 Dk fun h5=>?_;(refine Zp (Yk (t:=81) (p':= .agg [Zc o, .val (.string ByteArray.empty), .val h80]) rfl rfl) fun _=>?_;refine Zv 5 J' ?_);refine Ze ?_)
 have hrd3:=(Dd f).1 _ _ _ he2 hr3;have hr':rdT (f+1) (t0::x1::m2)=rdL f o [x] m3:=by
  rw [hr];show (match rdT f m2 with| .err e=>Rd.err e| .ok x m2=>rdL f o [x] m2)=_;rw [hr3]
 have hl3:=hrd3.lt;refine ZE (ι:={q:(Value×List Nd)×(List Tk×Nat)//(rdL q.2.2 o q.1.2 q.2.1=rdT (f+1) (t0::x1::m2)∧q.2.1<:+L∧EndL q.2.1)∧q.2.1.length<q.2.2∧q.2.2≤f∧q.1.2.length+q.2.1.length≤10000∧q.1.1.oneCell'=true}) (fun k=>⟨[(0,_,_),(2,_,_),(4,_,_),(5,_,_)],[(2,_,_),(5,h5, .own 24 3 1 [Zc o, .val (.string ByteArray.empty), .val k.1.1.1]),(200,k.1.1.1, .own 24 3 k.1.1.2.length (Z6 k.1.1.2)),(1000,Yd b, .own 160 2 1 [P4 L,Zc ((L.length-k.1.2.1.length:Nat):Int)])]⟩) (fun k=>k.1.2.1.length) ⟨((_,[x]),(m3,f)),⟨hr'.symm,hrd3.suf.trans hs2,hrd3.endl⟩,by dsimp only;omega,Xb _,by dsimp only;simp only [Xc,Xk];omega,ho80⟩ (fun a w H=>H.weaken ⟨rfl,rfl,rfl,rfl,trivial⟩ ⟨rfl,rfl,rfl,rfl,trivial⟩) ?_;rintro ⟨⟨⟨hv,d⟩,⟨mm,ff⟩⟩,⟨hre,hsm,hem⟩,hfl,hff,hdl,hov⟩;dsimp only;dsimp only at hre hsm hem hfl hff hdl hov;have hone:En.one (PV.val hv)=true:=hov;obtain ⟨xm,mt,rfl⟩:=hem.cons;obtain ⟨hdm,hmm⟩:=P9 hsm;have hxm:=LL hdm;have hdm1:=Hm hdm;obtain ⟨im,him⟩:∃im,im=L.length-(xm::mt).length:=⟨_,rfl⟩;rw [←him] at hdm hxm hdm1;rw [Xc] at hmm him hfl hdl;have hxl:(xm::mt).length=mt.length+1:=rfl;have hIm:AFh False prog 163 [(0,ZX b, .val (ZX b)),(1, .int .i64 0, .val (.int .i64 0)),(2, .string (bst [44]),pB [44])] (RtH b L (L.length-(xm::mt).length)) (fun u q h=>u= .bool (Km (xm::mt) [44])∧q=ZV (Km (xm::mt) [44])∧h=RtH b L (L.length-(xm::mt).length)):=by
  have:=Zaa b L im [44] oM oM;rw [hdm,him] at this;exact this
 have hWm:∀s,AFp False prog 164 [(0,ZX b, .val (ZX b)),(1, .string (bst s),pB s)] (RtH b L (L.length-(xm::mt).length)) (fun _ _ h=>Km (xm::mt) s=true∧h=RtH b L (im+1)) (fun ch h=>Km (xm::mt) s=false∧ch=ZbL xm∧h=RtH b L im):=fun s=>by
  have:=Zab b L im s xm oM hxm;rw [hdm] at this;rw [Xc,←him];exact this
 obtain ⟨g,rfl⟩:∃g,ff=g+1:=⟨ff-1,oM⟩;rw [rdL] at hre;refine Zf ?_;(refine xL 82 Za (xL 83 ZQ (xL 84 Za ?_))<;>(refine bLd 84 (fun hb84=>?_) (fun hb84=>?_)<;>(first|refine kL 85 ?_|refine xL 85 (Zd 5 LK) ?_))<;>(first|refine kL 86 ?_|(refine yL 86 (Zi 5 S7) fun v86 h=>?_;cases h))<;>(first|refine kL 87 ?_|refine xL 87 (YV 200 ZbN) ?_)<;>(first|refine kL 88 ?_|refine xL 88 ZR ?_)<;>refine xL 89 Zu (xL 90 Za ?_)<;>(first|refine xL 91 Za ?_|(refine bLd 90 (fun hb90=>?_) (fun hb90=>?_)<;>(first|refine kL 91 ?_|refine xL 91 Za ?_)))<;>(first|refine kL 92 ?_|refine xL 92 YN ?_)<;>(first|refine kL 93 ?_|refine xL 93 Za ?_)<;>(first|refine kL 94 ?_|(refine bLd 93 (fun hb93=>?_) (fun hb93=>?_)<;>(first|refine kL 94 ?_|refine xL 94 Za ?_)))<;>(first|refine kL 95 ?_|refine kL 95 ?_|(refine ZT [2,5,200] 95 (call163) hIm ?_;rintro _ _ _ ⟨rfl,rfl,rfl⟩;dsimp only [RtH]))<;>(first|refine kL 96 ?_|refine xL 96 Zu ?_)<;>refine xL 97 Zu ?_<;>refine Ze ?_)<;>(
 refine cX ?_ ?_<;>intro hb97
 · first|exact bN hb97|(
 have hcond:(o=6∧d.length<2)∨(o≠6∧Km (xm::mt) [44]=true):=by
  first
   |exact .inl ⟨oM,oM⟩
   |(refine .inr ⟨oM,?_⟩;first|assumption|simp_all)
 rw [Up hcond] at hre;refine Zf ?_;(refine xL 98 Za ?_;(refine Ej [2,5,200] 99 (call164) (hWm [44]) (fun v99 p99 h99 hR99=>?_) (fun ch h hRp=>by (obtain ⟨hp1,rfl,rfl⟩:=hRp;exact EK (Tt b L (f+1) (t0::x1::m2)) (RtH b L im) ⟨rfl,trivial⟩ ⟨xm,by rw [←hre,hp1];rfl,rfl,_,rfl⟩));obtain ⟨hp1,rfl⟩:=hR99;dsimp only [RtH]);refine Ze ?_)
 rw [Up hp1] at hre;(have hkm:xm.kind=4:=by obtain ⟨t',m',hc,hk,_⟩:=Ke hp1;cases hc;exact hk);have het:=hem.tail oM;have hst:mt<:+L:=⟨L.take (im+1),by rw [←hdm1,Vw]⟩;have hct:=ih g oM mt hst het oM;rw [show L.length-mt.length=im+1 by omega] at hct;(refine PM (Zdo ⟨w0,M0,N0,110,False,[]⟩ (Tt b L (f+1) (t0::x1::m2))) (fun i=>([5,6,7]:List Nat).elem i) [5] kR (Zhi (fun _ _ h=>h)) ?_<;>refine xDp 0 100 rfl (Zd 5 LK) ?_<;>(refine yDp 1 101 rfl (Zi 5 S7) fun v101 h=>?_;cases h)<;>refine xDp 2 102 rfl Za ?_<;>(refine ζ9 3 rfl (fun w9 M9 N9 DQ hDP back=>?_))<;>(refine Ej [2,200] 103 (call129) hct (fun v103 p103 h103 hR103=>?_) (fun ch h hRp a w F H=>by (obtain ⟨t,hp2,rfl,j,rfl⟩:=hRp;exact hDP _ _ a w F H (fun F2 H2=>H2.panW' (RtH b L j) ⟨rfl,trivial⟩ ⟨t,by rw [←hre];show (match rdT g mt with| .err e=>Rd.err e| .ok x m2=>rdL g o (d++[x]) m2)=_;rw [hp2],rfl,j,rfl⟩)));obtain ⟨y,m4,hr4,rfl,rfl⟩:=hR103;dsimp only [RtH])<;>refine Zh (back _ ?_)<;>(refine ζ9 4 rfl (fun w9 M9 N9 DQ hDP back=>?_))<;>refine K1 104 S6 fun h104 ho104=>?_<;>refine Zh (back _ ?_)<;>refine ZcS ?_<;>(refine PN 5 rfl (fun DQ hDP back=>?_))<;>(refine Kk 200 104 105 S6 fun h105 ho105=>?_;have hone105:En.one (PV.val h105)=true:=ho105;refine Zp (Z0 (l:=105) 200 rfl rfl) fun _=>?_;refine Zp (ZF (l:=200) rfl (show PV.own 24 3 (d.length+1) (Z6 d++cN y)= .own 24 3 (d++[y]).length (Z6 (d++[y])) by rw [S4,Xg];rfl)) fun _=>?_)<;>refine Zh (back _ ?_)<;>(refine PN 6 rfl (fun DQ hDP back=>?_))<;>refine xL 106 (Zd 5 LK) ?_<;>refine Zh (back _ ?_)<;>(refine PN 7 rfl (fun DQ hDP back=>?_))<;>refine Y3 5 S7 ZbO ?_<;>refine Zh (back _ ?_)<;>refine ZcR kR (nav ?_)<;>try dsimp only)
 have hrd4:=(Dd g).1 _ _ _ het hr4;have hre':rdL g o (d++[y]) m4=rdT (f+1) (t0::x1::m2):=by
  rw [←hre];show _=(match rdT g mt with| .err e=>Rd.err e| .ok x m2=>rdL g o (d++[x]) m2);rw [hr4]
 have hl4:=hrd4.lt;refine Zk (
  ⟨((h105,d++[y]),(m4,g)),⟨hre',hrd4.suf.trans hst,hrd4.endl⟩,by dsimp only;omega,by dsimp only;omega,by dsimp only;simp only [Xg,Xc,Xk];omega,ho105⟩
  ) (by dsimp only;omega) ⟨rfl,rfl,rfl,rfl,trivial⟩ ⟨rfl,rfl,rfl,rfl,trivial⟩)
 · first|exact bN hb97|(
 have hcond:¬((o=6∧d.length<2)∨(o≠6∧Km (xm::mt) [44]=true)):=by
  rintro (⟨h1,h2⟩|⟨h1,h2⟩)
  · first|omega|simp_all
  · first|omega|simp_all
 rw [Uo hcond] at hre;refine Zf ?_;(refine xL 107 Za ?_;(refine Ej [2,5,200] 108 (call164) (hWm [41]) (fun v108 p108 h108 hR108=>?_) (fun ch h hRp=>by (obtain ⟨hp1,rfl,rfl⟩:=hRp;exact EK (Tt b L (f+1) (t0::x1::m2)) (RtH b L im) ⟨rfl,trivial⟩ ⟨xm,by rw [←hre,hp1];rfl,rfl,_,rfl⟩));obtain ⟨hp1,rfl⟩:=hR108;dsimp only [RtH]);refine Ze ?_)
 rw [Up hp1] at hre;refine Zz (Wl (l:=5) (l':=200) (j:=2) rfl rfl rfl rfl) fun _=>?_;rw [JX _ _ _ rfl];(refine Zm ?_;refine yL 109 (Zq 5 J') fun v109 hv109=>?_;cases hv109;refine Zv 2 J' ?_;refine Ze ?_)
 refine Hh (PK (k:=3) 2 (RtH b L (im+1)) kR (results129) rfl rfl (Xa rfl) dC rfl ⟨rfl,trivial⟩ fun V=>⟨.mk o ByteArray.empty d,mt,hre.symm,rfl,?_⟩);rw [show im+1=L.length-mt.length by omega];rfl))))))
end Go.Proofs.YtpiemogpblmiiaaGreatDoor
namespace Go.En
open Go.RowKit Go.Cb
set_option linter.all false
section
variable {P:Program} {c:Ctx} {ops:Array Oper} {Q:Exit→Act→World→Prop} {rest:List Oper} {sL hP:List (Nat×Ent)} {o:Oper}
theorem Zfv {f:Nat} {caps:Array Value} {x:Operand} {q:PV} (k:aL P ⟨c.w0,c.M0,c.N0,c.nt,c.dr,{target:= .fn (.func f) caps,args:= #[]}::c.df⟩ ops Q rest (⟨sL,hP⟩:St)) (hw:Z7 ops sL o=some true:=by exact rfl) (hd:o.dst=none:=by exact rfl) (ho:o.op= .defer {callee:= .value x,args:= #[],argTypes:= #[]}:=by exact rfl) (hx:ev sL x=some (.func (.func f) #[] caps,q):=by exact rfl):aL P c ops Q (o::rest) (⟨sL,hP⟩:St):=
 Y8 hw fun a w F H=>by
  have hv:=(H.rd.ev hx).1;unfold Oper.wp execOp;simp [ho,resolve,Deferred.ofValue,hv,Oper.upon,hd,Act.put];exact k _ _ ⟨F,⟨⟨H.tr,H.lo,H.dj,H.m0,H.ext,H.dw⟩,H.sl,H.size,congrArg (_:: ·) H.df⟩⟩
end
section
variable {P:Program}
theorem AF.of_bodyD {f:FuncId} {fn:Func} {code:Code} {ps:List PV} {R:PV→Prop} (nt:Nat) (hf:P.funcs[f]? =some fn) (hb:fn.body=some code) (hnt:fn.ntmps=nt) (hn:ps.length≤nt)
 (h:∀(w0:World) (M0:BS) (vs:List Value),vs.length=ps.length→(∀(i:Nat) (v:Value) (p:PV),vs[i]? =some v→ps[i]? =some p→vOf p v)→aC P ⟨w0,M0,fun _=>False,nt,False,[]⟩ code (bodyPostD P fn (JI ⟨w0,M0,fun _=>False,nt,False,[]⟩ R)) ⟨Kn 0 vs ps,[]⟩):AF P f ps R:=fun M w vs hM hl hv=>by
 subst hnt
 refine calls_of_wp_defers hf hb ?_
 refine wp_mono (h w M vs hl (fun i v p h1 h2=>(hv i v p h1 h2).vOf) _ w ⟨fun _ _=>False,⟨⟨by simp [lk],by simp [lk],by simp [lk],hM,Chg.rfl' _ _,fun _=>Xb _⟩,fun t v p ht=>?_,?_,rfl⟩⟩) fun e a w' hq=>?_
 · obtain ⟨_,h1,h2⟩:=Gd vs ps 0 t v p ht;simp only [Vd] at h1 h2;refine ⟨?_,(hv t v p h1 h2).anti fun b _ hb=>?_⟩
   · have:=Zg h1;rw [Vu (by simpa using this)];simpa using h1
   · rcases hb with hb|⟨l,x,h3,_⟩
     · exact hb
     · simp [lk] at h3
 · simp;omega
 · cases e<;>exact hq
def AFD (P:Program) (f:FuncId) (caps:List Value) (u u':FrameMode) (h h':List (Nat×Ent)):Prop:=
 ∀(M N:BS) (w:World) (F:Nat→BS),HeapF ⟨w,M,N,0,False,[]⟩ h F w→CallsD P f caps.toArray u w fun e um w'=>um=u'∧∃F',e= .returned (.tuple #[])∧HeapF ⟨w,M,N,0,False,[]⟩ h' F' w'
def Zgz (c:Ctx) (h':List (Nat×Ent)) (e:Exit) (a:Act) (w:World):Prop:=(e= .normal∨e= .ret)∧a.defers=[]∧∃F,HeapF c h' F w
theorem AFD.of_body {f:FuncId} {fn:Func} {rid:Nat} {o0 o1:Oper} {rest:Code} {caps:List Value} {u u':FrameMode} {h h':List (Nat×Ent)} (v:Value) (t0 t1 nt:Nat) (hf:P.funcs[f]? =some fn) (hb:fn.body=some (.seq (.region rid #[o0,o1] false) rest)) (hnt:fn.ntmps=nt) (hr:fn.results= #[]) (h0:o0.op= .call {callee:= .builtin .recover,args:= #[],argTypes:= #[]}) (g0:o0.guard=none) (d0:o0.dst=some t0) (h1:o1.op= .assign (.tmp t0)) (g1:o1.guard=none) (d1:o1.dst=some t1) (b0:t0<nt) (b1:t1<nt) (bc:caps.length≤nt)
 (hrc:∀(c₀:Frame) (cs:List Frame),c₀.mode=u→(match recoverD (c₀::cs) with|some (x,cs')=>x=v∧cs'={c₀ with mode:=u'}::cs|none=>v= .nilIface∧u'=u))
 (H:∀(w0:World) (M0 N0:BS),aC P ⟨w0,M0,N0,nt,False,[]⟩ rest (Zgz ⟨w0,M0,N0,nt,False,[]⟩ h') ⟨put t1 (v, .val v) (put t0 (v, .val v) (Kn 0 caps (caps.map .val))),h⟩):AFD P f caps u u' h h':=fun M N w F HF=>by
 subst hnt
 refine callsD_of_wpS hf hb fun c₀ cs hu=>?_
 have hw0:∀y,Region.wanted o0 y=true:=fun y=>by unfold Region.wanted;rw [g0]
 have hw1:∀y,Region.wanted o1 y=true:=fun y=>by unfold Region.wanted;rw [g1]
 have hrun:∀(ρ:Operand→Value) w,(execOp ρ o0).run P w= .ok .recover w:=fun ρ w=>by simp [execOp,h0,resolve,invoke,builtin]
 have hHold:HoldsF ⟨w,M,N,fn.ntmps,False,[]⟩ ⟨Kn 0 caps (caps.map .val),h⟩ F {tmps:=caps.toArray++Array.replicate (fn.ntmps-caps.toArray.size) undef,defers:=[]} w:=by
  refine ⟨HF.nt rfl rfl rfl id HF.m0,fun t v p ht=>?_,?_,rfl⟩
  · obtain ⟨_,g1,g2⟩:=Gd _ _ 0 t v p ht;simp only [Vd] at g1 g2;rw [Xo,g1] at g2;simp at g2;subst g2;refine ⟨?_, .val _⟩;have:=Zg g1;rw [Vu (by simpa using this)];simpa using g1
  · simp;omega
 generalize hA:({tmps:=caps.toArray++Array.replicate (fn.ntmps-caps.toArray.size) undef,defers:=[]}:Act)=A at hHold ⊢
 have H1:=hHold.put (d:=t0) (v:=v) (p:= .val v) b0 (.val _)
 have H2:=H1.put (d:=t1) (v:=v) (p:= .val v) b1 (.val _)
 refine wpS_seq (wpS_region ?_)
 have hrange:List.range (#[o0,o1]:Array Oper).size=[0,1]:=rfl
 rw [hrange]
 have hev:(A.put (some t0) v).eval (.tmp t0)=v:=by
  have:=(H1.sl t0 v (.val v) (by rw [YH])).1;simp [Act.eval,XR,this]
 have hfin:∀cs1,cs1={c₀ with mode:=u'}::cs→rest.wpS P (bodyPostS P fn c₀ cs (fun e um w'=>um=u'∧∃F',e= .returned (.tuple #[])∧HeapF ⟨w,M,N,0,False,[]⟩ h' F' w')) ((A.put (some t0) v).put (some t1) v) cs1 w:=fun cs1 hcs=>by
  refine wpS_of_wp (wp_mono (H w M N _ w ⟨F,H2⟩) fun e a' w' ⟨he,hd,F',hF'⟩=>?_);have hres:(results fn a'.tmps).run P w'= .ok (.tuple #[]) w':=by simp [results,hr]
  have key:a'.defers=[]∧∃u'',cs1={c₀ with mode:=u''}::cs∧∃x,(results fn a'.tmps).run P w'= .ok x w'∧(u''=u'∧∃F',Ending.returned x= .returned (.tuple #[])∧HeapF ⟨w,M,N,0,False,[]⟩ h' F' w'):=
   ⟨hd,u',hcs,_,hres,rfl,F',rfl,hF'.nt rfl rfl rfl id hF'.m0⟩
  rcases he with rfl|rfl
  · exact key
  · exact key
 have hstep1:∀cs1,cs1={c₀ with mode:=u'}::cs→wpOpsS P #[o0,o1] (Exit.thenS (rest.wpS P (bodyPostS P fn c₀ cs (fun e um w'=>um=u'∧∃F',e= .returned (.tuple #[])∧HeapF ⟨w,M,N,0,False,[]⟩ h' F' w'))) (bodyPostS P fn c₀ cs (fun e um w'=>um=u'∧∃F',e= .returned (.tuple #[])∧HeapF ⟨w,M,N,0,False,[]⟩ h' F' w'))) [1] (A.put (some t0) v) cs1 w:=fun cs1 hcs=>by
  have hr1:(execOp (A.put (some t0) v).eval o1).run P w= .ok (.value v) w:=by simp only [execOp,h1];rw [hev];rfl
  simp only [wpOpsS,List.getElem?_toArray,List.getElem?_cons_succ,Vq,hw1,if_true,hr1,Oper.upon,d1];exact hfin cs1 hcs
 have h00:=hrc c₀ cs hu
 rw [wpOpsS]
 simp only [List.getElem?_toArray,Vq,hw0,if_true,hrun,d0]
 cases hrec:recoverD (c₀::cs) with
 | none=>
   rw [hrec] at h00;obtain ⟨rfl,rfl⟩:=h00;refine hstep1 _ ?_;subst hu;rfl
 | some x=>
   rw [hrec] at h00;obtain ⟨x,cs'⟩:=x;obtain ⟨rfl,h01⟩:=h00;exact hstep1 _ h01
end
section
variable {P:Program} {c:Ctx} {sL hP:List (Nat×Ent)}
theorem ZbP {fn:Func} {R':Ending→World→Prop} {f:FuncId} {caps:List Value} {u u':FrameMode} {h0 h':List (Nat×Ent)} {K:List Nat} {a:Act} {w:World} {F:Nat→BS} (H:HoldsF c (⟨sL,hP⟩:St) F a w) (hdf:c.df=[{target:= .fn (.func f) caps.toArray,args:= #[]}]) (hc:∀args w,(callFunc f args).run P w= .ok (.enter f args) w) (hu:u≠ .run) (hA:AFD P f caps u u' h0 h') (hh0:h0=Wr K hP) (hs:settle u'= .returning) (hdd:c.dr→False)
 (k:∀F' w',HoldsF c (⟨sL,h'++YM K hP⟩:St) F' a w'→∃v,(results fn a.tmps).run P w'= .ok v w'∧R' (.returned v) w'):Leaves P fn a.tmps R' a.defers u w:=by
 subst hh0
 have hfr:=H.frame K
 rw [H.df,hdf]
 refine leaves_cons hu (f:=f) (args:=caps.toArray) (by simp [invoke,hc]) ?_
 have hcall:=hA (fun b=>c.M0 b∨∃l x,K.elem l=true∧lk hP l=some x∧F l b) (nK K hP F) w F ⟨hfr.tr,hfr.lo,hfr.dj,hfr.m0.up hdd,hfr.ext,fun _=>Xb _⟩
 refine hcall.mono fun e um w' ⟨h1,F',h2,e3⟩=>?_
 subst h1 h2
 show Leaves P fn a.tmps R' [] (settle um) w'
 rw [hs]
 have hch:Chg (nK K hP F) w w':=e3.ext
 have hlow:∀b,b<w.heap.size→mof ⟨w,fun b=>c.M0 b∨∃l x,K.elem l=true∧lk hP l=some x∧F l b,nK K hP F,0,False,[]⟩ h' F' b→mof c hP F b:=by
  rintro b hlt ((h1|⟨l,x,_,h1,h2⟩)|⟨l,x,h1,h2⟩)
  · exact .inl h1
  · exact .inr ⟨l,x,h1,h2⟩
  · rcases e3.lo l x b h1 h2 with h3|⟨l',x',_,h3,h4⟩
    · exact Uq hlt (by simp only at h3;omega)
    · exact .inr ⟨l',x',h3,h4⟩
 have H':HoldsF ⟨w,fun b=>c.M0 b∨∃l x,K.elem l=true∧lk hP l=some x∧F l b,nK K hP F,c.nt,c.dr,c.df⟩ (⟨sL,h'⟩:St) F' a w':=by
  refine ⟨e3.nt rfl rfl rfl hdd hfr.m0,fun t v q e=>?_,H.size,H.df⟩;obtain ⟨h3,h4⟩:=H.sl t v q e;exact ⟨h3,h4.to hch (fun b _ ⟨l,x,_,h5,h6⟩=> .inr ⟨l,x,h5,h6⟩) (fun b hlt hb=>hlow b hlt hb)⟩
 obtain ⟨H2,_,_⟩:=H.unframe H'
 obtain ⟨v,h5,h6⟩:=k _ _ H2
 exact ⟨v,h5,h6⟩
end
section
variable {P:Program} {c:Ctx} {sL hP:List (Nat×Ent)}
theorem ZgA {h':List (Nat×Ent)} (hs:Sub h' hP) (hdf:c.df=[]:=by exact rfl):aN c (Zgz c h') (⟨sL,hP⟩:St):=fun a w ⟨F,H0⟩=>by
 have H:HoldsF c (⟨sL,h'⟩:St) F a w:=H0.less (fun _ _ h=>h) fun t x hx=>hs.lk hx
 exact ⟨.inl rfl,H.df.trans hdf,F,H.toHeapF⟩
theorem Zac {fn:Func} {R:PV→Prop} {f:FuncId} {caps:List Value} {u u':FrameMode} {h0 h':List (Nat×Ent)} {r0 r1 r2:ResultVar} {p0 p1 p2:PV} (K:List Nat) {a:Act} {w:World} {F:Nat→BS} (H:HoldsF c (⟨sL,hP⟩:St) F a w) (hdf:c.df=[{target:= .fn (.func f) caps.toArray,args:= #[]}]) (hc:∀args w,(callFunc f args).run P w= .ok (.enter f args) w) (hu:u≠ .run) (hA:AFD P f caps u u' h0 h') (hh0:h0=Wr K hP) (hs:settle u'= .returning) (hdd:c.dr→False) (hr:fn.results= #[r0,r1,r2]) (g0:ResR P sL (h'++YM K hP) r0 p0) (g1:ResR P sL (h'++YM K hP) r1 p1) (g2:ResR P sL (h'++YM K hP) r2 p2) (hR:R (.tup [p0,p1,p2])) (hN:∀b,¬c.N0 b):Leaves P fn a.tmps (JI c R) a.defers u w:=
 ZbP H hdf hc hu hA hh0 hs hdd fun F' w' H2=>by
  obtain ⟨V0,e0,s0⟩:=g0.run H2;obtain ⟨V1,e1,s1⟩:=g1.run H2;obtain ⟨V2,e2,s2⟩:=g2.run H2;refine ⟨_,results3 hr e0 e1 e2,_,_,fun _=>False,rfl,hR,H2.ext.ext (fun b _=>hN b), .shr ((Zhh s0 s1 s2).anti fun b _ hb=>?_) (fun _ h=>h),fun _ h=>h.elim,H2.dw⟩;rcases hb with hb|hb
  · exact .inl hb
  · exact hb.elim
theorem P' {fn:Func} {R:PV→Prop} {Q:Exit→Act→World→Prop} {f:FuncId} {caps:List Value} {ch:List PanicEntry} {u':FrameMode} {h0 h':List (Nat×Ent)} {r0 r1 r2:ResultVar} {p0 p1 p2:PV} (K:List Nat) (hr:fn.results= #[r0,r1,r2]) (hA:AFD P f caps (.panicking ch) u' h0 h') (hc:∀args w,(callFunc f args).run P w= .ok (.enter f args) w) (g0:ResR P sL (h'++YM K hP) r0 p0) (g1:ResR P sL (h'++YM K hP) r1 p1) (g2:ResR P sL (h'++YM K hP) r2 p2) (hR:R (.tup [p0,p1,p2])) (hQ:∀(a:Act) w,Leaves P fn a.tmps (JI c R) a.defers (.panicking ch) w→Q (.panic ch) a w:=by exact fun _ _ h=>h) (hdf:c.df=[{target:= .fn (.func f) caps.toArray,args:= #[]}]:=by exact rfl) (hh0:h0=Wr K hP:=by exact rfl) (hs:settle u'= .returning:=by exact rfl) (hdd:c.dr→False:=by exact id) (hN:∀b,¬c.N0 b:=by intro _ h;exact h):aP c Q ch (⟨sL,hP⟩:St):=fun a w F H=>
 hQ a w (Zac K H hdf hc (by intro h;cases h) hA hh0 hs hdd hr g0 g1 g2 hR hN)
theorem C6 {fn:Func} {R:PV→Prop} {Q:Exit→Act→World→Prop} {f:FuncId} {caps:List Value} {u':FrameMode} {h0 h':List (Nat×Ent)} {r0 r1 r2:ResultVar} {p0 p1 p2:PV} (K:List Nat) (hr:fn.results= #[r0,r1,r2]) (hA:AFD P f caps .returning u' h0 h') (hc:∀args w,(callFunc f args).run P w= .ok (.enter f args) w) (g0:ResR P sL (h'++YM K hP) r0 p0) (g1:ResR P sL (h'++YM K hP) r1 p1) (g2:ResR P sL (h'++YM K hP) r2 p2) (hR:R (.tup [p0,p1,p2])) (hQ:∀(a:Act) w,Leaves P fn a.tmps (JI c R) a.defers .returning w→Q .ret a w:=by exact fun _ _ h=>h) (hdf:c.df=[{target:= .fn (.func f) caps.toArray,args:= #[]}]:=by exact rfl) (hh0:h0=Wr K hP:=by exact rfl) (hs:settle u'= .returning:=by exact rfl) (hdd:c.dr→False:=by exact id) (hN:∀b,¬c.N0 b:=by intro _ h;exact h):aR c Q (⟨sL,hP⟩:St):=fun a w ⟨F,H⟩=>
 hQ a w (Zac K H hdf hc (by intro h;cases h) hA hh0 hs hdd hr g0 g1 g2 hR hN)
end
section
variable {P:Program} {c:Ctx} {ops:Array Oper} {Q:Exit→Act→World→Prop} {rest:List Oper} {sL hP:List (Nat×Ent)} {o:Oper}
theorem Zfw {dd:Prop} {f:Nat} {ar:List (Nat×Ent)} {R:Value→PV→List (Nat×Ent)→Prop} {Rp:List PanicEntry→List (Nat×Ent)→Prop} (K:List Nat) (d:Nat) (hw:Z7 ops sL o=some true) (hd:o.dst=some d) (hn:d<c.nt)
 (hE:∀a w F,HoldsF c (⟨sL,hP⟩:St) F a w→(execOp a.eval o).run P w= .ok (.enter f (ar.map (·.2.1)).toArray) w∧∀(i:Nat) (x:Value) (q:PV),((ar.map (·.2)).map (·.1))[i]? =some x→((ar.map (·.2)).map (·.2))[i]? =some q→Shr (mof c hP F) w x q)
 (hA:AFp dd P f ar (Wr K hP) R Rp) (hio:KB 0 ar=true) (hdd:c.dr→dd)
 (k:∀v p h,R v p h→aL P c ops Q rest ⟨put d (v,p) sL,h++YM K hP⟩) (kp:∀ch h,Rp ch h→aP c Q ch ⟨sL,h++YM K hP⟩):aL P c ops Q (o::rest) (⟨sL,hP⟩:St):=
 Y8 hw fun a w F H=>by
  obtain ⟨hr,h2⟩:=hE a w F H;have hfr:=H.frame K;have hin:∀b,mof ⟨w,fun b=>c.M0 b∨∃l x,K.elem l=true∧lk hP l=some x∧F l b,nK K hP F,c.nt,c.dr,c.df⟩ (Wr K hP) F b→mof c hP F b:=by
   rintro b ((h|⟨l,x,_,h1,h2⟩)|⟨l,x,h1,h2⟩)
   · exact .inl h
   · exact .inr ⟨l,x,h1,h2⟩
   · exact .inr ⟨l,x,(WS.1 h1).2,h2⟩
  have hcall:=hA (fun b=>c.M0 b∨∃l x,K.elem l=true∧lk hP l=some x∧F l b) (nK K hP F) w F
   ⟨hfr.tr,hfr.lo,hfr.dj,hfr.m0.up hdd,hfr.ext,fun _=>Xb _⟩
   (fun i x hi=>by
     obtain ⟨_,h3⟩:=Gi ar 0 i x hio hi;rw [Vd] at h3;exact (h2 i x.1 x.2 (by rw [Xo,Xo,h3];rfl) (by rw [Xo,Xo,h3];rfl)).anti fun b _ hb=>hin b hb)
  unfold Oper.wp;rw [hr,Oper.upon_enter];refine hcall.mono fun e w' he=>?_;rcases he with ⟨v,p,h,F',e1,e2,e3,e4⟩|⟨ch,h,F',e1,e2,e3⟩
  · subst e1;have hch:Chg (nK K hP F) w w':=e3.ext;have hlow:∀b,b<w.heap.size→mof ⟨w,fun b=>c.M0 b∨∃l x,K.elem l=true∧lk hP l=some x∧F l b,nK K hP F,0,dd,[]⟩ h F' b→mof c hP F b:=by
     rintro b hlt ((h1|⟨l,x,_,h1,h2⟩)|⟨l,x,h1,h2⟩)
     · exact .inl h1
     · exact .inr ⟨l,x,h1,h2⟩
     · rcases e3.lo l x b h1 h2 with h3|⟨l',x',_,h3,h4⟩
       · exact Uq hlt (by simp only at h3;omega)
       · exact .inr ⟨l',x',h3,h4⟩
    have H':HoldsF ⟨w,fun b=>c.M0 b∨∃l x,K.elem l=true∧lk hP l=some x∧F l b,nK K hP F,c.nt,c.dr,c.df⟩ (⟨put d (v,p) sL,h⟩:St) F' (a.put o.dst v) w':=by
     refine ⟨e3.nt rfl rfl rfl hdd hfr.m0,fun t u q ht=>?_,by rw [hd];simpa [Act.put] using H.size,by rw [hd];exact H.df⟩;rw [hd];rcases YS ht with ⟨rfl,e⟩|⟨hne,e⟩
     · cases e;refine ⟨?_,e4⟩;simp [Act.put,H.size,hn]
     · obtain ⟨h3,h4⟩:=H.sl t u q e;refine ⟨?_,h4.to hch (fun b _ ⟨l,x,_,h5,h6⟩=> .inr ⟨l,x,h5,h6⟩) (fun b hlt hb=>hlow b hlt hb)⟩;simpa [Act.put,Ui,hne] using h3
    obtain ⟨H2,_,_⟩:=H.unframe H';exact k v p h e2 _ _ ⟨_,H2⟩
  · subst e1;have hch:Chg (nK K hP F) w w':=e3.ext;have hlow:∀b,b<w.heap.size→mof ⟨w,fun b=>c.M0 b∨∃l x,K.elem l=true∧lk hP l=some x∧F l b,nK K hP F,0,dd,[]⟩ h F' b→mof c hP F b:=by
     rintro b hlt ((h1|⟨l,x,_,h1,h2⟩)|⟨l,x,h1,h2⟩)
     · exact .inl h1
     · exact .inr ⟨l,x,h1,h2⟩
     · rcases e3.lo l x b h1 h2 with h3|⟨l',x',_,h3,h4⟩
       · exact Uq hlt (by simp only at h3;omega)
       · exact .inr ⟨l',x',h3,h4⟩
    have H':HoldsF ⟨w,fun b=>c.M0 b∨∃l x,K.elem l=true∧lk hP l=some x∧F l b,nK K hP F,c.nt,c.dr,c.df⟩ (⟨sL,h⟩:St) F' a w':=by
     refine ⟨e3.nt rfl rfl rfl hdd hfr.m0,fun t u q e=>?_,H.size,H.df⟩;obtain ⟨h3,h4⟩:=H.sl t u q e;exact ⟨h3,h4.to hch (fun b _ ⟨l,x,_,h5,h6⟩=> .inr ⟨l,x,h5,h6⟩) (fun b hlt hb=>hlow b hlt hb)⟩
    obtain ⟨H2,_,_⟩:=H.unframe H';exact kp ch h e2 _ _ _ H2
theorem Zhj {dd:Prop} {f:Nat} {ar h0:List (Nat×Ent)} {R:Value→PV→List (Nat×Ent)→Prop} {Rp:List PanicEntry→List (Nat×Ent)→Prop} {xs:Array Operand} {ats:Array TypeId} (K:List Nat) (d:Nat) (hc:∀args w,(callFunc f args).run P w= .ok (.enter f args) w) (hA:AFp dd P f ar h0 R Rp)
 (k:∀v p h,R v p h→aL P c ops Q rest ⟨put d (v,p) sL,h++YM K hP⟩) (kp:∀ch h,Rp ch h→aP c Q ch ⟨sL,h++YM K hP⟩) (hw:Z7 ops sL o=some true:=by exact rfl) (hd:o.dst=some d:=by exact rfl) (hn:d<c.nt:=by exact Xa rfl)
 (ho:o.op= .call {callee:= .value (.func f),args:=xs,argTypes:=ats}:=by exact rfl) (hx:evL sL xs.toList=some (ar.map (·.2)):=by exact rfl) (hh0:h0=Wr K hP:=by exact rfl) (hio:KB 0 ar=true:=by exact rfl) (hdd:c.dr→dd:=by first|exact id|exact fun h=>h.elim|exact fun _=>trivial):aL P c ops Q (o::rest) (⟨sL,hP⟩:St):=by
 subst hh0
 refine Zfw K d hw hd hn (fun a w F H=>?_) hA hio hdd k kp
 obtain ⟨h1,h2⟩:=KJ H.rd hx
 refine ⟨?_,h2⟩
 have hargs:xs.map a.eval=(ar.map (·.2.1)).toArray:=by
  rw [show ar.map (·.2.1)=(ar.map (·.2)).map (·.1) by rw [Vx];rfl,←h1,←X7,X6]
 simp [execOp,ho,resolve,Act.eval,Deferred.ofValue,invoke,hargs,hc]
theorem Zhk {vs:List Value} {x:Operand} {q:PV} {t xt:TypeId} (hu:(match P.underlying t with|some (.interface _)=>false|some _=>true|none=>false)=true) (ho:o.op= .typeAssert x xt t true:=by exact rfl) (hx:ev sL x=some (.iface t (.agg vs.toArray),q):=by exact rfl):YE P (⟨sL,hP⟩:St) o (· = .tuple #[.agg vs.toArray, .bool true]) (.tup [.agg (vs.map .val), .val (.bool true)]):=
 .exact fun M F a w H=>by
  have e1:=(H.ev hx).1;refine ⟨.tup [.agg vs.toArray, .bool true] _ rfl fun i v p hv hp=>?_,?_⟩
  · match i with
    | 0 =>
      cases hv;cases hp;exact .agg _ _ sM fun j u r hu hr=>by
       rw [Xo,hu] at hr;simp at hr;subst hr;exact .val _
    |1=>cases hv;cases hp;exact .val _
    |i+2=>simp at hv
  · simp only [execOp,ho,e1];unfold Instr.typeAssert
    cases h:P.underlying t with
    |none=>rw [h] at hu;cases hu
    |some d=>cases d<;>simp_all [run_underlying h]
end
end Go.En
namespace Go.Proofs.YtpiemogpblmiiaaGreatDoor
open Go.RowKit Go.Cb Go.En Tryz
set_option linter.all false
set_option maxRecDepth 100000
theorem Gl:AggT prog 117 5=true:=by kernel_rfl
theorem EP:AggT prog 156 5=true:=by kernel_rfl
theorem Lf:AggT prog 24 3=true:=by kernel_rfl
theorem Hn:FldT prog 117 0 0=true:=by kernel_rfl
theorem Ho:FldT prog 156 0 0=true:=by kernel_rfl
theorem Sp:FldT prog 160 1 1=true:=by kernel_rfl
theorem Oa:NoAgg prog 3=true:=by kernel_rfl
theorem EQ:NoAgg prog 4=true:=by kernel_rfl
theorem Ob:SlT prog 113 117 5=true:=by kernel_rfl
theorem C7:Y9 prog 117=some ((.agg #[(.int .i64 0),(.string ByteArray.empty),(.int .i64 0),(.int .i64 0),(.int .i64 0)]),[(0,1),(1,1),(2,1),(3,2)]):=by kernel_rfl
theorem C8:Y9 prog 156=some ((.agg #[(.int .i64 0),(.string ByteArray.empty),(.int .i64 0),(.int .i64 0),(.int .i64 0)]),[(0,5)]):=by kernel_rfl
theorem C9:Y9 prog 160=some ((.agg #[(.slice none 0 0),(.int .i64 0)]),([0,1]:List Nat).map fun o=>(o,1)):=by kernel_rfl
theorem ZbQ:Y9 prog 24=some ((.agg #[(.int .i64 0),(.string ByteArray.empty),(.slice none 0 0)]),([0,1,2]:List Nat).map fun o=>(o,1)):=by kernel_rfl
theorem ER:(prog.info? 4).map (·.size)=some 1:=by kernel_rfl
theorem ζa:ZeroT prog 117 (.agg #[(.int .i64 0),(.string ByteArray.empty),(.int .i64 0),(.int .i64 0),(.int .i64 0)]):=by unfold ZeroT;kernel_rfl
theorem ζb:ZeroT prog 156 (.agg #[(.int .i64 0),(.string ByteArray.empty),(.int .i64 0),(.int .i64 0),(.int .i64 0)]):=by unfold ZeroT;kernel_rfl
theorem ZbR:ZeroT prog 24 (.agg #[(.int .i64 0),(.string ByteArray.empty),(.slice none 0 0)]):=by unfold ZeroT;kernel_rfl
theorem Zdt:ZeroT prog 4 (.bool false):=by unfold ZeroT;kernel_rfl
theorem Zfx (b:Nat) (L:List Tk) (hL:L.length≤10000) (hT:∀x∈L,TkOk x):∀N f,f≤N→Zgy b L f:=fun N=>by
 induction N with
 |zero=>intro f hf m _ _ h;omega
 | succ N ih=>
   intro f hf m hs he hm;obtain ⟨t0,m1,rfl⟩:=he.cons;obtain ⟨g,rfl⟩:∃g,f=g+1:=⟨f-1,oM⟩;exact C5 b L hL hT g (fun f' h=>ih f' oM) t0 m1 hs he hm _ rfl
def BxH (b2 b3 b4:Nat) (A B:List PV) (q:PV):List (Nat×Ent):=[(1002,Yd b2, .own 24 3 1 A),(1003,Yd b3, .own 117 5 1 B),(1004,Yd b4, .own 4 1 1 [q])]
def Zdu (t:Tk):FrameMode:= .panicking [{v:= .iface 156 (.agg (tkV t).toArray),recovered:=true}]
theorem ζc (b2 b3 b4:Nat) (A B:List PV) (q:PV):AFD prog 128 [ZX b2,ZX b3,ZX b4] .returning .returning (BxH b2 b3 b4 A B q) (BxH b2 b3 b4 A B q):=by
 unfold BxH
 refine AFD.of_body .nilIface 6 3 20 (func128) rfl rfl (results128) rfl rfl rfl rfl rfl rfl dC dC (Xa rfl) (fun c₀ cs hu=>by simp [recoverD,hu]) ?_
 intro w0 M0 N0
 refine nav ?_
 refine Zf ?_
 (refine xL 7 Za ?_;refine xL 8 (ζ6 kR) ?_;refine Ze ?_)
 refine cCf ?_
 refine nav ?_
 exact ZgA ⟨rfl,rfl,rfl,trivial⟩
def z3:List PV:=[.val (.int .i64 0), .val (.string ByteArray.empty), .val (.slice none 0 0)]
theorem Oc (b2 b3 b4:Nat) (t:Tk) (a1 a2 a3 k1 k2 k3 k4 k5 q:PV):AFD prog 128 [ZX b2,ZX b3,ZX b4] (.panicking (ZbL t)) (Zdu t) (BxH b2 b3 b4 [a1,a2,a3] [k1,k2,k3,k4,k5] q) (BxH b2 b3 b4 z3 (cTk t) (.val (.bool false))):=by
 unfold BxH
 refine AFD.of_body (.iface 156 (.agg (tkV t).toArray)) 6 3 20 (func128) rfl rfl (results128) rfl rfl rfl rfl rfl rfl dC dC (Xa rfl) (fun c₀ cs hu=>by simp [recoverD,hu,ZbL,Zdu]) ?_
 intro w0 M0 N0
 refine nav ?_
 refine Zf ?_
 (refine xL 7 Za ?_;refine xL 8 (EF kR) ?_;refine Ze ?_)
 refine cCt ?_
 refine Zf ?_
 (refine xL 10 Za ?_;refine xL 11 (Zhk kR) ?_;refine xL 9 Za (xL 12 ZK (xL 13 ZK ?_));refine ZA [(.int .i64 0),(.string ByteArray.empty),(.int .i64 0),(.int .i64 0),(.int .i64 0)] 5 4 ζb fun h4=>?_;refine Zv 4 EP ?_;refine xL 5 Zb ?_;refine Zn ?_)
 (refine xL 14 Za (xL 15 Ym ?_);refine Ze ?_)
 refine cCf ?_
 refine nav ?_
 (refine ZS (fun i=>([]:List Nat).elem i) [4] kR ?_<;>refine xD 0 17 rfl (Z3 ZbQ) ?_<;>refine xD 1 18 rfl (Zd 4 Ho) ?_<;>(refine yD 2 19 rfl (Zq 4 Gl) fun v19 h=>?_;cases h)<;>(refine Zl 3 kR ?_)<;>(refine Zj rfl fun w9 M9 N9 DQ back=>?_)<;>refine Zv 1002 Lf ?_<;>refine Zh (back _ (nrm ?_))<;>(refine Zl 4 kR ?_)<;>(refine Zj rfl fun w9 M9 N9 DQ back=>?_)<;>refine Zv 1003 Gl ?_<;>refine Zh (back _ (nrm ?_))<;>(refine Zl 5 kR ?_)<;>(refine Zj rfl fun w9 M9 N9 DQ back=>?_)<;>refine Y3 1004 EQ ER ?_<;>refine Zh (back _ (nrm ?_))<;>refine Yu kR (nav ?_)<;>try dsimp only)
 exact ZgA ⟨rfl,rfl,rfl,trivial⟩
def rdR (L:List Tk):Option Nd×Tk:=match rdT (L.length+1) L with
 | .err t=>(none,t)
 | .ok t m=>if (m.headD tk0).kind≠5 then (none,m.headD tk0) else (some t,tk0)
theorem Zfy {L:List Tk} {t:Tk} (h:rdT (L.length+1) L= .err t):rdR L=(none,t):=by unfold rdR;rw [h]
theorem Zhl {L:List Tk} {t:Nd} {x:Tk} {mt:List Tk} (h:rdT (L.length+1) L= .ok t (x::mt)) (hk:x.kind≠5):rdR L=(none,x):=by unfold rdR;rw [h];exact Up hk
theorem Zfz {L:List Tk} {t:Nd} {x:Tk} {mt:List Tk} (h:rdT (L.length+1) L= .ok t (x::mt)) (hk:x.kind=5):rdR L=(some t,tk0):=by unfold rdR;rw [h];exact Uo (fun h=>h hk)
def rdO:Option Nd→PV
 |none=> .agg z3
 |some t=>pTr t
def rdP (L:List Tk):PV:= .tup [rdO (rdR L).1, .agg (cTk (rdR L).2),ZV (rdR L).1.isSome]
set_option maxHeartbeats 4000000 in
theorem ZfA (L:List Tk) (hL:L.length≤10000) (hT:∀x∈L,TkOk x) (he:EndL L):AF prog 77 [P4 L] (· =rdP L):=by
 have hT0:∀b,AFp False prog 129 [(0,ZX b, .val (ZX b))] (RtH b L 0) (fun _ q h=>∃t m2,rdT (L.length+1) L= .ok t m2∧q=pTr t∧h=RtH b L (L.length-m2.length)) (Tt b L (L.length+1) L):=fun b=>by
  have:=Zfx b L hL hT _ (L.length+1) (Xb _) L (List.suffix_refl L) he (Nat.lt_succ_self _);rw [Vp] at this;exact this
 refine AF.of_bodyD 32 func77 rfl ntmps77 (Xa rfl) ?_
 intro w0 M0 vs hl hv
 obtain ⟨v0,rfl⟩:=Kl hl
 clear hl hv
 refine Zf ?_
 (refine LC [.int .i64 0, .string ByteArray.empty, .slice none 0 0] 3 2 ZbR fun b2=>?_;refine LC [.int .i64 0, .string ByteArray.empty, .int .i64 0, .int .i64 0, .int .i64 0] 5 3 ζa fun b3=>?_;refine LC [.bool false] 1 4 Zdt fun b4=>?_;refine Ze ?_)
 refine Zz (Z0 (l:=2) 1002 rfl rfl) fun _=>?_
 refine Zz (Z0 (l:=3) 1003 rfl rfl) fun _=>?_
 refine Zz (Z0 (l:=4) 1004 rfl rfl) fun _=>?_
 (refine Zm ?_;refine xL 6 Ty ?_;refine Zfv ?_;refine Zn ?_)
 (refine xL 7 Za (xL 8 (Z3 C9) ?_);refine Tb 9 2 fun b=>?_;refine xL 5 Zb ?_;refine Ze ?_)
 refine Zz (Z0 (l:=9) 1000 rfl rfl) fun _=>?_
 (refine Zm ?_;refine xL 10 Za ?_;(refine ZL [(1002,Yd b2, .own 24 3 1 z3),(1003,Yd b3, .own 117 5 1 (cTk tk0)),(1004,Yd b4, .own 4 1 1 [.val (.bool false)]),(1000,Yd b, .own 160 2 1 [P4 L,Zc ((0:Nat):Int)])] ⟨rfl,rfl,rfl,rfl,trivial⟩ ?_;refine Zhj [1002,1003,1004] 11 (call129) (hT0 b) (fun v11 p11 h11 hR11=>?_) (fun ch h hRp=>by (obtain ⟨t,hp1,rfl,j,rfl⟩:=hRp;exact P' (R:=(· =rdP L)) [1000] (results77) (Oc b2 b3 b4 t _ _ _ _ _ _ _ _ _) (call128) (.cell (k:=3) 1002 kR rfl rfl (Xa rfl) dC rfl) (.cell (k:=5) 1003 kR rfl rfl (Xa rfl) dC rfl) (.cell1 1004 kR rfl rfl rfl rfl) (by unfold rdP;rw [Zfy hp1];rfl)));obtain ⟨t,m2,hp1,rfl,rfl⟩:=hR11;dsimp only [RtH]);(refine Zv 1002 Lf ?_;refine Zp (ZF (l:=1002) (p':= .own 24 3 1 [Zc t.op,ZZ t.act,YK t.l]) rfl rfl) fun _=>?_);refine Ze ?_)
 have hrd:=(Dd (L.length+1)).1 _ _ _ he hp1
 obtain ⟨x,mt,rfl⟩:=hrd.endl.cons
 obtain ⟨hdi,hml⟩:=P9 hrd.suf
 have hx:=LL hdi
 have hil:L.length-(x::mt).length<L.length:=Zg hx
 have hk0:(JG L)[(L.length-(x::mt).length)*5+0]? =some (Zc x.kind):=Hk (j:=0) hx dC
 have e1:((JG L).drop ((L.length-(x::mt).length)*5)).take 5=[Zc x.kind,pB x.text,Zc x.n,Zc x.ln,Zc x.col]:=GL hx
 have e2:(L.length-(x::mt).length)*5+5≤(JG L).length:=Sl hx
 (refine Zm ?_;refine xL 12 Za (xL 13 Za (xL 14 (ZC 1000) (xL 15 (Zd 1000 Sp) ?_)));refine yL 16 (Zi 1000 Oa) fun v16 hv16=>?_;cases hv16;refine xL 17 (ZP Ob) (xL 18 (Jv Hn) ?_);refine yL 19 (Yy Oa) fun v19 hv19=>?_;cases hv19;refine xL 20 YN ?_;refine Ze ?_)
 refine cX ?_ ?_<;>intro hb20
 · first|exact bN hb20|(
 refine Zf ?_;(refine xL 21 Za (xL 22 Za (xL 23 (ZC 1000) (xL 24 (Zd 1000 Sp) ?_)));refine yL 25 (Zi 1000 Oa) fun v25 hv25=>?_;cases hv25;refine xL 26 (ZP Ob) ?_;refine yL 27 (Yz Gl) fun v27 hv27=>?_;cases hv27;refine yL 28 (W7 C8) fun v28 hv28=>?_;cases hv28;refine xL 29 (DY kR) ?_;(refine ZcT (d:=28) (tkV x) rfl (fun h28=>?_);subst h28;refine ZL [(1002,Yd b2, .own 24 3 1 [Zc t.op,ZZ t.act,YK t.l]),(1003,Yd b3, .own 117 5 1 (cTk tk0)),(1004,Yd b4, .own 4 1 1 [.val (.bool false)]),(1000,_,_)] ⟨rfl,rfl,rfl,rfl,trivial⟩ ?_;refine Ei ?_;exact P' (R:=(· =rdP L)) [1000] (results77) (Oc b2 b3 b4 x _ _ _ _ _ _ _ _ _) (call128) (.cell (k:=3) 1002 kR rfl rfl (Xa rfl) dC rfl) (.cell (k:=5) 1003 kR rfl rfl (Xa rfl) dC rfl) (.cell1 1004 kR rfl rfl rfl rfl) (by unfold rdP;rw [Zhl hp1 hb20];rfl))))
 · first|exact bN hb20|(
 refine Zf ?_;(refine yL 30 (Zq 1002 Lf) fun v30 hv30=>?_;cases hv30;refine yL 31 (W7 C7) fun v31 hv31=>?_;cases hv31;refine Zv 1002 Lf ?_;refine Zv 1003 Gl ?_;(refine Y3 1004 EQ ER ?_;refine ZL [(1002,Yd b2, .own 24 3 1 [Zc t.op,ZZ t.act,YK t.l]),(1003,Yd b3, .own 117 5 1 (cTk tk0)),(1004,Yd b4, .own 4 1 1 [.val (.bool true)]),(1000,_,_)] ⟨rfl,rfl,rfl,rfl,trivial⟩ ?_);refine Ze ?_)
 refine C6 [1000] (results77) (ζc b2 b3 b4 _ _ _) (call128) (.cell (k:=3) 1002 kR rfl rfl (Xa rfl) dC rfl) (.cell (k:=5) 1003 kR rfl rfl (Xa rfl) dC rfl) (.cell1 1004 kR rfl rfl rfl rfl) ?_;unfold rdP;rw [Zfz hp1 oM];rfl)
theorem ES:AggT prog 117 5=true:=by kernel_rfl
theorem Kr:AggT prog 24 3=true:=by kernel_rfl
theorem W3:AggT prog 65 2=true:=by kernel_rfl
theorem Hp:FldT prog 117 0 0=true:=by kernel_rfl
theorem Sq:FldT prog 117 3 3=true:=by kernel_rfl
theorem Zdv:NoAgg prog 3=true:=by kernel_rfl
theorem Te:Y9 prog 24=some ((.agg #[(.int .i64 0),(.string ByteArray.empty),(.slice none 0 0)]),([0,1,2]:List Nat).map fun o=>(o,1)):=by kernel_rfl
theorem Dl:Y9 prog 65=some ((.agg #[(.int .i64 0),(.int .i64 0)]),([0,1]:List Nat).map fun o=>(o,1)):=by kernel_rfl
theorem ζd:ZeroT prog 117 (.agg #[(.int .i64 0),(.string ByteArray.empty),(.int .i64 0),(.int .i64 0),(.int .i64 0)]):=by unfold ZeroT;kernel_rfl
theorem Dm:ZeroT prog 24 (.agg #[(.int .i64 0),(.string ByteArray.empty),(.slice none 0 0)]):=by unfold ZeroT;kernel_rfl
theorem Dn:ZeroT prog 65 (.agg #[(.int .i64 0),(.int .i64 0)]):=by unfold ZeroT;kernel_rfl
def Lg (l:List UInt8):List Tk×(Int×Int)×Int:=if 16384<l.length then ([],(0,0),5) else toksB l (1,1) []
theorem ZfB (l:List UInt8):C0 l=tk3 (Lg l):=by unfold C0 Lg;split<;>rfl
def ZiD (r:Nd×(Int×Int)×Int):PV:= .tup [pTr r.1, .agg [Zc r.2.1.1,Zc r.2.1.2],Zc r.2.2]
theorem Zad {l:List UInt8} (h:(Lg l).2.2=0):EndL (Lg l).1∧(Lg l).1.length≤4001∧∀x∈(Lg l).1,TkOk x:=by
 unfold Lg at h ⊢
 split at h
 · exact Uq h dC
 · rename_i hl;rw [Uo hl];exact Eh (l.length+1) l (1,1) [] (Nat.lt_succ_self _) oM (Xh _) (fun x hx=>by cases hx) h
theorem ZfC {l:List UInt8} (h:(Lg l).2.2≠0):K5 l=(nd0,(Lg l).2):=by
 unfold K5
 unfold Lg at h ⊢
 split
 · rfl
 · rename_i hl;rw [Uo hl] at h;rw [Up h]
theorem Zdw {l:List UInt8} {tk:Tk} (h:(Lg l).2.2=0) (hr:rdR (Lg l).1=(none,tk)):K5 l=(nd0,(tk.ln,tk.col),if tk.kind=5 then 4 else 3):=by
 unfold K5
 unfold Lg at h hr
 split at h
 · exact Uq h dC
 · rename_i hl;rw [Uo hl] at hr ⊢;rw [Uo (fun h'=>h' h)];unfold rdR at hr
   cases hx:rdT ((toksB l (1,1) []).1.length+1) (toksB l (1,1) []).1 with
   |err t=>rw [hx] at hr;cases hr;rfl
   | ok t m=>
     rw [hx] at hr;simp only at hr ⊢;by_cases h5:(m.headD tk0).kind≠5
     · rw [Up h5] at hr ⊢
       cases hr;rw [Uo h5]
     · rw [Uo h5] at hr;cases hr
theorem ZfD {l:List UInt8} {t:Nd} {tk:Tk} (h:(Lg l).2.2=0) (hr:rdR (Lg l).1=(some t,tk)):K5 l=(if Jf t then (t,(0,0),0) else (nd0,(0,0),5))∧∃m,rdT ((Lg l).1.length+1) (Lg l).1= .ok t m:=by
 unfold K5
 unfold Lg at h hr ⊢
 split at h
 · exact Uq h dC
 · rename_i hl;rw [Uo hl] at hr ⊢;rw [Uo (fun h'=>h' h),Uo hl];unfold rdR at hr
   cases hx:rdT ((toksB l (1,1) []).1.length+1) (toksB l (1,1) []).1 with
   |err t=>rw [hx] at hr;cases hr
   | ok t m=>
     rw [hx] at hr;simp only at hr ⊢;by_cases h5:(m.headD tk0).kind≠5
     · rw [Up h5] at hr;cases hr
     · rw [Uo h5] at hr ⊢
       cases hr;exact ⟨rfl,m,rfl⟩
set_option maxHeartbeats 4000000 in
theorem Zdx (l :List UInt8) (hA:(∃c∈l,KI c=true)→ζ7 prog 159) (hb:l.length≤1000000000):AF prog 31 [pB l] (· =ZiD (K5 l)):=by
 have h13:=C1 l hA hb
 rw [ZfB] at h13
 obtain ⟨r,hrt⟩:∃r,r=Lg l:=⟨_,rfl⟩
 rw [←hrt] at h13
 obtain ⟨L,⟨pa,pb⟩,e⟩:=r
 have h13:AF prog 76 [pB l] (· = .tup [P4 L, .agg [Zc pa,Zc pb],Zc e]):=h13
 have hfit:∀t m,rdT (L.length+1) L= .ok t m→e=0→FitT t:=fun t m h he=>by
  have hok:=Zad (l:=l) (by rw [←hrt];exact he);rw [←hrt] at hok;exact (ZcO (L.length+1)).1 L t m hok.1 (fun x hx=>(hok.2.2 x hx).text) (by have:=hok.2.1;dsimp only at this;omega) h
 refine AF.of_body 53 func31 rfl ntmps31 (Xa rfl) ?_
 intro w0 M0 vs hl hv
 obtain ⟨v0,rfl⟩:=Kl hl
 obtain rfl:=hv 0 _ _ rfl rfl
 clear hl hv
 refine Zf ?_
 (refine ZA [(.int .i64 0),(.string ByteArray.empty),(.slice none 0 0)] 3 2 Dm fun h2=>?_;refine ZA [(.int .i64 0),(.int .i64 0)] 2 3 Dn fun h3=>?_;refine xL 4 Zb ?_;refine Zn ?_)
 (refine xL 12 Za ?_;refine Zbn 13 (cA (call76) h13) (fun va13 vb13 vc13 hva13 hvb13 hvc13=>?_);cases hvc13;refine xL 11 Za (xL 14 ZK (xL 15 ZK (xL 16 ZK ?_)));refine ZA [(.int .i64 0),(.int .i64 0)] 2 6 Dn fun h6=>?_;refine xL 5 Zb ?_;refine Zv 6 W3 ?_;refine xL 7 Zb ?_;refine Zn ?_)
 (refine xL 17 Za (xL 18 YN ?_);refine Ze ?_)
 refine cX ?_ ?_<;>intro hb18
 · first|exact bN hb18|(
 refine nav ?_;(refine ZS (fun i=>([]:List Nat).elem i) [6] kR ?_<;>refine xD 0 19 rfl (Z3 Te) ?_<;>(refine yD 1 20 rfl (Zq 6 W3) fun v20 h=>?_;cases h)<;>refine xD 2 21 rfl Za ?_<;>(refine Zl 3 kR ?_)<;>(refine Zj rfl fun w9 M9 N9 DQ back=>?_)<;>(refine Zp (WT (t:=19) (p':=pTr nd0) rfl (Gj 0 ByteArray.empty)) fun _=>?_;refine Zv 2 Kr ?_)<;>refine Zh (back _ (nrm ?_))<;>(refine Zl 4 kR ?_)<;>(refine Zj rfl fun w9 M9 N9 DQ back=>?_)<;>refine Zv 3 W3 ?_<;>refine Zh (back _ (nrm ?_))<;>refine xE 5 4 rfl Zb ?_<;>refine Yu kR (nav ?_)<;>try dsimp only)
 refine Sf (results31) (.cell (k:=3) 2 kR rfl rfl (Xa rfl) dC rfl) (.cell (k:=2) 3 kR rfl rfl (Xa rfl) dC rfl) (.tmp rfl) ?_;rw [ZfC (by rw [←hrt];exact hb18),←hrt];rfl)
 · first | exact bN hb18|(
 have he0:e=0:=oM;subst he0;have hok:=Zad (l:=l) (by rw [←hrt]);rw [←hrt] at hok;have h24:=ZfA L (by have:=hok.2.1;dsimp only at this;omega) hok.2.2 hok.1;unfold rdP at h24;refine Zf ?_;(refine xL 23 Za ?_<;>(rcases hrr:rdR L with ⟨_|t,tk⟩<;>rw [hrr] at h24<;>dsimp only [rdO,Option.isSome] at h24<;>(refine Zbn 24 (cA (call77) h24) (fun va24 vb24 vc24 hva24 hvb24 hvc24=>?_);cases hvc24))<;>refine xL 22 Za (xL 25 ZK (xL 26 ZK (xL 27 ZK ?_)))<;>refine ZA [(.int .i64 0),(.string ByteArray.empty),(.slice none 0 0)] 3 8 Dm fun h8=>?_<;>refine ZA [(.int .i64 0),(.string ByteArray.empty),(.int .i64 0),(.int .i64 0),(.int .i64 0)] 5 9 ζd fun h9=>?_<;>refine Zv 8 Kr ?_<;>refine Zv 9 ES ?_<;>refine xL 10 Zb ?_<;>refine Ze ?_)<;>(
 (refine Zm ?_<;>refine xL 29 Za (xL 30 Ym (xL 31 Za ?_))<;>(first|refine kL 32 ?_|refine xL 32 (Zd 9 Hp) ?_)<;>(first|refine kL 33 ?_|(refine yL 33 (Zi 9 Zdv) fun v33 h=>?_;cases h))<;>(first|refine kL 34 ?_|refine xL 34 ZQ ?_)<;>refine xL 35 Zu (xL 28 Zb ?_)<;>refine Ze ?_)<;>(
 refine cX ?_ ?_<;>intro hb28
 · first|exact bN hb28|(
 refine nav ?_;(refine ZS (fun i=>([]:List Nat).elem i) [9] kR ?_<;>refine xD 0 36 rfl (Z3 Te) ?_<;>refine xD 1 37 rfl (Zd 9 Sq) ?_<;>(refine yD 2 38 rfl (Zq 9 W3) fun v38 h=>?_;cases h)<;>(refine Zl 3 kR ?_)<;>(refine Zj rfl fun w9 M9 N9 DQ back=>?_)<;>(refine Zp (WT (t:=36) (p':=pTr nd0) rfl (Gj 0 ByteArray.empty)) fun _=>?_;refine Zv 2 Kr ?_)<;>refine Zh (back _ (nrm ?_))<;>(refine Zl 4 kR ?_)<;>(refine Zj rfl fun w9 M9 N9 DQ back=>?_)<;>refine Zv 3 W3 ?_<;>refine Zh (back _ (nrm ?_))<;>refine xE 5 4 rfl Zb ?_<;>refine Yu kR (nav ?_)<;>try dsimp only)
 refine Sf (results31) (.cell (k:=3) 2 kR rfl rfl (Xa rfl) dC rfl) (.cell (k:=2) 3 kR rfl rfl (Xa rfl) dC rfl) (.tmp rfl) ?_;rw [Zdw (by rw [←hrt]) (by rw [←hrt];exact hrr),Up oM];rfl)
 · first | exact bN hb28|(
 refine Zf ?_;(refine xL 40 Za (xL 41 Ym (xL 39 Zb ?_));refine Ze ?_)
 refine cX ?_ ?_<;>intro hb39
 · first|exact bN hb39|(
 refine nav ?_;(refine ZS (fun i=>([]:List Nat).elem i) [9] kR ?_<;>refine xD 0 42 rfl (Z3 Te) ?_<;>refine xD 1 43 rfl (Zd 9 Sq) ?_<;>(refine yD 2 44 rfl (Zq 9 W3) fun v44 h=>?_;cases h)<;>(refine Zl 3 kR ?_)<;>(refine Zj rfl fun w9 M9 N9 DQ back=>?_)<;>(refine Zp (WT (t:=42) (p':=pTr nd0) rfl (Gj 0 ByteArray.empty)) fun _=>?_;refine Zv 2 Kr ?_)<;>refine Zh (back _ (nrm ?_))<;>(refine Zl 4 kR ?_)<;>(refine Zj rfl fun w9 M9 N9 DQ back=>?_)<;>refine Zv 3 W3 ?_<;>refine Zh (back _ (nrm ?_))<;>refine xE 5 4 rfl Zb ?_<;>refine Yu kR (nav ?_)<;>try dsimp only)
 refine Sf (results31) (.cell (k:=3) 2 kR rfl rfl (Xa rfl) dC rfl) (.cell (k:=2) 3 kR rfl rfl (Xa rfl) dC rfl) (.tmp rfl) ?_;rw [Zdw (by rw [←hrt]) (by rw [←hrt];exact hrr),Uo oM];rfl)
 · first|exact bN hb39|(
 refine nav ?_;have hpy:=ZfD (l:=l) (by rw [←hrt]) (by rw [←hrt];exact hrr);rw [←hrt] at hpy;obtain ⟨hpe,m,hm⟩:=hpy;have hft:=hfit t m hm rfl;(refine Zm ?_;refine yL 46 (Zq 8 Kr) fun v46 hv46=>?_;cases hv46;refine cS 47 (cA call32 (T1 t hft)) fun v47 hv47=>?_;cases hv47;refine xL 48 Ym (xL 45 Zb ?_);refine Ze ?_)
 refine cX ?_ ?_<;>intro hb45
 · first|exact bN hb45|(
 refine Zf ?_;(refine xL 49 (Z3 Te) (xL 50 (Z3 Dl) ?_);(refine Zp (WT (t:=49) (p':=pTr nd0) rfl (Gj 0 ByteArray.empty)) fun _=>?_;refine Zv 2 Kr ?_);refine Zv 3 W3 ?_;refine xL 4 Zb ?_;refine Ze ?_)
 refine Sf (results31) (.cell (k:=3) 2 kR rfl rfl (Xa rfl) dC rfl) (.cell (k:=2) 3 kR rfl rfl (Xa rfl) dC rfl) (.tmp rfl) ?_;rw [hpe,Uo (by intro h;rw [h] at hb45;cases hb45)];rfl)
 · first|exact bN hb45|(
 refine Zf ?_;(refine yL 51 (Zq 8 Kr) fun v51 hv51=>?_;cases hv51;refine xL 52 (Z3 Dl) ?_;refine Zv 2 Kr ?_;refine Zv 3 W3 ?_;refine xL 4 Zb ?_;refine Ze ?_)
 refine Sf (results31) (.cell (k:=3) 2 kR rfl rfl (Xa rfl) dC rfl) (.cell (k:=2) 3 kR rfl rfl (Xa rfl) dC rfl) (.tmp rfl) ?_;rw [hpe,Up (by simpa using hb45)];rfl))))))
structure Tn where
 lab:ByteArray
 ins:List Int
 outs:List Int
structure Nt where
 pl:Int
 tr:List Tn
 src:Int
 snk:Int
def ltZ (a b:Int):Bool:=decide (a<b)
def KR (n:Int) (l:List Int):Bool:=l.all (fun x=>decide (0≤x)&&decide (x<n))&&Ko ltZ l
def GN (n:Int) (t:Tn):Bool:=(decide (t.lab=ByteArray.empty)||Ki t.lab)&&KR n t.ins&&KR n t.outs
def inB (n x:Int):Bool:=decide (0≤x)&&decide (x<n)
def ntOk (n:Nt):Bool:=decide (1≤n.pl)&&decide (n.pl≤40)&&decide (n.tr.length≤60)&&inB n.pl n.src&&inB n.pl n.snk&&n.tr.all (GN n.pl)
theorem ET (n x:Int):KR n [x]=inB n x:=by simp [KR,inB,Ko]
structure Bd where
 pl:Int
 tr:List Tn
def Bd.add (b:Bd) (s:ByteArray) (i o:List Int):Bd:=⟨b.pl,b.tr++[⟨s,i,o⟩]⟩
def Bd.more (b:Bd) (n:Int):Bd:=⟨b.pl+n,b.tr⟩
def Wa (p d:Int) (n:Nat):List Int:=(List.range n).map fun (i:Nat)=>p+d*i
mutual
def Yt:Nd→Int→Int→Bd→Bd
 | .mk o a l,p,q,b=>
   if 60<b.tr.length∨40<b.pl then b
   else if o=1∨o=2 then b.add a [p] [q]
   else if o=3 then Jl l (p::Wa b.pl 1 (l.length-1)++[q]) (Wa b.pl 1 (l.length-1)++[q]) (b.more (l.length-1:Nat))
   else if o=4 then Jl l (List.replicate l.length p) (List.replicate l.length q) b
   else if o=5 then (Jl l (Wa b.pl 2 l.length) (Wa (b.pl+1) 2 l.length) ((b.more (2*l.length:Nat)).add ByteArray.empty [p] (Wa b.pl 2 l.length))).add ByteArray.empty (Wa (b.pl+1) 2 l.length) [q]
   else if o=6 then (Jl l [b.pl,b.pl+1] [b.pl+1,b.pl] ((b.more 2).add ByteArray.empty [p] [b.pl])).add ByteArray.empty [b.pl+1] [q]
   else b
def Jl:List Nd→List Int→List Int→Bd→Bd
 |[],_,_,b=>b
 |x::l,ps,qs,b=>Jl l ps.tail qs.tail (Yt x (ps.headD 0) (qs.headD 0) b)
end
theorem Do:∀(l:List Nd) (k:Nat) (x:Nd) (p q:Int) (ps qs:List Int) (b:Bd),l[k]? =some x→ps[k]? =some p→qs[k]? =some q→Jl (l.take (k+1)) ps qs b=Yt x p q (Jl (l.take k) ps qs b)
 |[],k,x,p,q,ps,qs,b,h,_,_=>by simp at h
 | y::l,0,x,p,q,ps,qs,b,h,hp,hq=>by
   simp only [Vq,Option.some.injEq] at h;subst h;have e1:ps.headD 0=p:=by cases ps<;>simp_all
   have e2:qs.headD 0=q:=by cases qs<;>simp_all
   rw [XP,VC,Jl,Jl,VC,Jl,e1,e2]
 | y ::l,k+1,x,p,q,ps,qs,b,h,hp,hq=>by
   rw [XP,XP,Jl,Jl];refine Do l k x p q _ _ _ (by simpa using h) ?_ ?_
   · cases ps with
     |nil=>simp at hp
     |cons _ ps=>simpa using hp
   · cases qs with
     |nil=>simp at hq
     |cons _ qs=>simpa using hq
def BdLe (b c:Bd) (n m:Nat):Prop:=b.pl≤c.pl∧c.pl+2*m≤b.pl+2*n∧b.tr.length≤c.tr.length∧c.tr.length≤b.tr.length+2*n
theorem Hq:∀l:List Nd,l.length≤szL l
 |[]=>Xh _
 |x::l=>by rw [szL,Xc];have:=DN x;have:=Hq l;omega
theorem Pj:∀(l:List Nd),(∀x∈l,∀p q b,BdLe b (Yt x p q b) (szT x) 1)→∀ps qs b,BdLe b (Jl l ps qs b) (szL l) l.length
 |[],_,ps,qs,b=>⟨by simp [Jl],by simp [Jl,szL],by simp [Jl],by simp [Jl]⟩
 | x::l,h,ps,qs,b=>by
   rw [Jl,szL,Xc];obtain ⟨a1,a2,a3,a4⟩:=h x (XD ..) (ps.headD 0) (qs.headD 0) b;obtain ⟨c1,c2,c3,c4⟩:=Pj l (fun y hy=>h y (XI _ hy)) ps.tail qs.tail (Yt x (ps.headD 0) (qs.headD 0) b);exact ⟨oM,oM,oM,oM⟩
theorem BdLe.less {b b' c c':Bd} {n m:Nat} (h:BdLe b' c n m) (h1:b.pl≤b'.pl) (h2:b'.pl≤b.pl+2*m) (h3:b.tr.length≤b'.tr.length) (h4:b'.tr.length≤b.tr.length+1) (h5:c'.pl=c.pl) (h6:c.tr.length≤c'.tr.length) (h7:c'.tr.length≤c.tr.length+1):BdLe b c' (1+n) 1:=by
 obtain ⟨a1,a2,a3,a4⟩:=h
 exact ⟨oM,oM,oM,oM⟩
theorem Zae:∀(t:Nd),okT t=true→∀p q b,BdLe b (Yt t p q b) (szT t) 1:=Nd.ind fun o a l ih hok p q b=>by
 have hok':=Kz.1 hok
 have hr:=hok'.1
 have hL:=Pj l (fun x hx=>ih x hx (hok'.2 x hx))
 have hrefl:BdLe b b (1+szL l) 1:=⟨oM,oM,oM,oM⟩
 rw [Yt,szT]
 split
 · exact hrefl
 split
 · exact ⟨by simp [Bd.add],by simp [Bd.add];omega,by simp [Bd.add],by simp [Bd.add];omega⟩
 split
 · refine (hL (p::Wa b.pl 1 (l.length-1)++[q]) (Wa b.pl 1 (l.length-1)++[q]) (b.more (l.length-1:Nat))).less ?_ ?_ ?_ ?_ rfl ?_ ?_<;>simp only [Bd.more]<;>omega
 split
 · exact (hL _ _ _).less (Int.le_refl _) oM (Xb _) (X3 _) rfl (Xb _) (X3 _)
 split
 · refine (hL _ _ _).less ?_ ?_ ?_ ?_ rfl ?_ ?_<;>simp [Bd.more,Bd.add]<;>omega
 split
 · rename_i h6;subst h6;have h2:l.length=2:=by simp [rightT,Nd.op,Nd.l,Nd.act] at hr;exact Ur hr.1
   refine (hL _ _ _).less ?_ ?_ ?_ ?_ rfl ?_ ?_<;>simp [Bd.more,Bd.add]<;>omega
 · exact hrefl
theorem Zdy:∀{l:List Nd} {k:Nat} {x:Nd},l[k]? =some x→szL (l.take k)+szT x+(l.length-(k+1))≤szL l
 |[],k,x,h=>by simp at h
 | y::l,0,x,h=>by
   simp only [Vq,Option.some.injEq] at h;subst h;have:=Hq l;simp only [VC,szL,Xc];omega
 | y::l,k+1,x,h=>by
   have:=Zdy (l:=l) (k:=k) (x:=x) (by simpa using h);simp only [XP,szL,Xc];omega
theorem ZfE {l:List Nd} {k:Nat} {x:Nd} (hx:l[k]? =some x) (hok:∀x∈l,okT x=true) (ps qs:List Int) (b:Bd):b.pl≤(Jl (l.take k) ps qs b).pl∧(Jl (l.take k) ps qs b).pl+2*szT x+2*l.length≤b.pl+2*szL l+2∧(Jl (l.take k) ps qs b).tr.length+2*szT x≤b.tr.length+2*szL l:=by
 have h:=Zdy hx
 have hk:=Zg hx
 obtain ⟨a1,a2,a3,a4⟩:=Pj (l.take k) (fun y hy=>Zae y (hok y (List.mem_of_mem_take hy))) ps qs b
 rw [Xl,XJ oM] at a2
 exact ⟨a1,oM,oM⟩
theorem EU {l:List Nd} (hok:∀x∈l,okT x=true) (ps qs:List Int) (b:Bd):∃Y:Nat→Bd,b=Y 0∧(∀j z p q,l[j]? =some z→ps[j]? =some p→qs[j]? =some q→Yt z p q (Y j)=Y (j+1))∧(∀j z,l[j]? =some z→b.pl≤(Y j).pl∧(Y j).pl+2*szT z+2*l.length≤b.pl+2*szL l+2∧(Y j).tr.length+2*szT z≤b.tr.length+2*szL l)∧Y l.length=Jl l ps qs b∧(Y l.length).tr.length≤b.tr.length+2*szL l:=
 ⟨fun j=>Jl (l.take j) ps qs b,by dsimp only;rw [VC,Jl],fun j z p q h1 h2 h3=>(Do l j z p q ps qs b h1 h2 h3).symm,fun j z h=>ZfE h hok ps qs b,by dsimp only;rw [Vz],by
  dsimp only;rw [Vz];exact (Pj l (fun y hy=>Zae y (hok y hy)) ps qs b).2.2.2⟩
theorem Pk {p d:Int} {n k:Nat} (h:k<n):(Wa p d n)[k]? =some (p+d*k):=by simp [Wa,h]
theorem W8 (p d:Int) (n:Nat):(Wa p d n).length=n:=by simp [Wa]
theorem JZ (p d:Int) (n:Nat):Wa p d (n+1)=Wa p d n++[p+d*n]:=by simp [Wa,VP]
inductive Rp (E:List Tn) (f:Int):Int→Prop
 |base:Rp E f f
 |step {t:Tn} {p q:Int} (ht:t∈E) (hp:p∈t.ins) (h:Rp E f p) (hq:q∈t.outs):Rp E f q
def Tn.rev (t:Tn):Tn:=⟨t.lab,t.outs,t.ins⟩
def OW (E:List Tn) (back:Bool):List Tn:=if back=true then E.map Tn.rev else E
def EW (n:Nt) (E:List Tn) (f:Int):Prop:=(∀p:Int,0≤p→p<n.pl→Rp E f p)∧∀t∈E,∃p∈t.ins,Rp E f p
def wfP (n:Nt):Prop:=ntOk n=true∧n.src≠n.snk∧(∀t∈n.tr,n.src∉t.outs∧n.snk∉t.ins)∧EW n n.tr n.src∧EW n (n.tr.map Tn.rev) n.snk
def rpL (E:List Tn):Nat→List Int→List Int
 |0,S=>S
 |k+1,S=>rpL E k (E.foldl (fun S t=>if t.ins.any (S.contains ·) then t.outs.foldl (fun S q=>if S.contains q then S else q::S) S else S) S)
theorem Zdz {P:Int→Prop}:∀(l:List Int) (S:List Int),(∀p∈S,P p)→(∀q∈l,P q)→∀p∈l.foldl (fun S q=>if S.contains q then S else q::S) S,P p
 |[],S,h,_=>h
 | q ::l,S,h,hl=>by
   rw [Vt];refine Zdz l _ ?_ fun x hx=>hl x (XI _ hx);split
   · exact h
   · intro p hp;rcases Xn.1 hp with rfl|hp
     · exact hl _ (XD ..)
     · exact h p hp
theorem ZdA {E:List Tn} {f:Int}:∀(l:List Tn) (S:List Int),(∀t∈l,t∈E)→(∀p∈S,Rp E f p)→∀p∈l.foldl (fun S t=>if t.ins.any (S.contains ·) then t.outs.foldl (fun S q=>if S.contains q then S else q::S) S else S) S,Rp E f p
 |[],S,_,h=>h
 | t ::l,S,hl,h=>by
   rw [Vt];refine ZdA l _ (fun x hx=>hl x (XI _ hx)) ?_;split
   · rename_i hc;obtain ⟨p,hp,hS⟩:=VQ.1 hc;exact Zdz _ _ h fun q hq=> .step (hl t (XD ..)) hp (h p (by simpa using hS)) hq
   · exact h
theorem ZdB {E:List Tn} {f:Int}:∀(k:Nat) (S:List Int),(∀p∈S,Rp E f p)→∀p∈rpL E k S,Rp E f p
 |0,S,h=>h
 |k+1,S,h=>ZdB k _ (ZdA E S (fun _ h=>h) h)
def ZfF (n:Nt) (E:List Tn) (f:Int):Bool:=let S:=rpL E E.length [f];(List.range n.pl.toNat).all (fun i=>S.contains (i:Int))&&E.all fun t=>t.ins.any (S.contains ·)
def wfB (n:Nt):Bool:=ntOk n&&decide (n.src≠n.snk)&&n.tr.all (fun t=> !t.outs.contains n.src&& !t.ins.contains n.snk)&&ZfF n n.tr n.src&&ZfF n (n.tr.map Tn.rev) n.snk
theorem Zaf {n:Nt} {E:List Tn} {f:Int} (h:ZfF n E f=true):EW n E f:=by
 unfold ZfF at h
 simp only [Xf,Xj,Vf] at h
 have hS:=ZdB (E:=E) (f:=f) E.length [f] fun p hp=>by rw [Xr] at hp;subst hp;exact .base
 refine ⟨fun p h1 h2=>?_,fun t ht=>?_⟩
 · have:=h.1 p.toNat oM;rw [show ((p.toNat:Nat):Int)=p by omega] at this;exact hS p (by simpa using this)
 · obtain ⟨p,hp,hc⟩:=VQ.1 (h.2 t ht);exact ⟨p,hp,hS p (by simpa using hc)⟩
theorem ZdC {n:Nt} (h:wfB n=true):wfP n:=by
 unfold wfB at h
 simp only [Xf,Ul,Xj] at h
 obtain ⟨⟨⟨⟨h1,h2⟩,h3⟩,h4⟩,h5⟩:=h
 refine ⟨h1,h2,fun t ht=>?_,Zaf h4,Zaf h5⟩
 have:=h3 t ht
 simpa using this
structure It where
 ins:List Int
 outs:List Int
 t:Nd
def To:Nd:= .mk 2 ByteArray.empty []
def WB (op:Int) (l:List Nd):Nd:= .mk op ByteArray.empty l
def YU (l:List It) (p:Int) (out:Bool):List Nat:=(List.range l.length).filter fun i=>match l[i]? with
 |some x=>if out=true then x.outs.contains p else x.ins.contains p
 |none=>false
structure Rl where
 i:Nat
 ins:List Int
 outs:List Int
 t:Nd
 gone:List Nat
def LM {α:Type} (n:Nat) (f:Nat→Option α):Option α:=(List.range n).findSome? f
theorem Jm {α:Type} {n:Nat} {f:Nat→Option α} (h:∀i,i<n→f i=none):LM n f=none:=List.findSome?_eq_none_iff.2 fun i hi=>h i (Vf.1 hi)
theorem J0 {α:Type} {n k:Nat} {f:Nat→Option α} {a:α} (hk:k<n) (h:f k=some a) (h':∀i,i<k→f i=none):LM n f=some a:=by
 unfold LM
 obtain ⟨d,rfl⟩:∃d,n=k+(d+1):=⟨n-k-1,oM⟩
 rw [List.range_add,List.findSome?_append,List.findSome?_eq_none_iff.2 fun i hi=>h' i (Vf.1 hi),Option.none_or,List.range_succ_eq_map,XM,List.findSome?_cons,XL,h]
def rlC (l:List It) (i k:Nat):Option Rl:=match l[i]?,l[k]? with
 |some x,some y=>if i<k∧x.ins=y.ins∧x.outs=y.outs then some ⟨i,x.ins,x.outs,WB 4 [x.t,y.t],[k]⟩ else none
 |_,_=>none
def rlS (n:Nt) (l:List It) (p:Nat):Option Rl:=match YU l p true,YU l p false with
 | [i],[k]=>match l[i]?,l[k]? with
   |some x,some y=>if (p:Int)≠n.src∧(p:Int)≠n.snk∧i≠k∧x.outs=[(p:Int)]∧y.ins=[(p:Int)] then some ⟨i,x.ins,y.outs,WB 3 [x.t,y.t],[k]⟩ else none
   |_,_=>none
 |_,_=>none
def rlL (l:List It) (i k:Nat):Option Rl:=match l[i]?,l[k]? with
 | some x,some y=>match x.ins,x.outs with
   |[a],[b]=>if a≠b∧(YU l a false).length=1∧(YU l b true).length=1∧y.ins=[b]∧y.outs=[a] then some ⟨i,[a],[b],WB 6 [x.t,y.t],[k]⟩ else none
   |_,_=>none
 |_,_=>none
def brP (l:List It) (i k:Nat) (a:Int):Option (Option Nat):=match YU l a true,YU l a false with
 | [_],[j]=>if j=k then some none else match l[j]? with
   | some z=>match z.outs with
     |[b]=>if j≠i∧z.ins=[a]∧(YU l b true).length=1∧YU l b false=[k] then some (some j) else none
     |_=>none
   |none=>none
 |_,_=>none
def brL (l:List It) (i k:Nat):List Int→Option (List Nat)
 |[]=>some []
 | a::m=>match brP l i k a with
   |none=>none
   |some none=>brL l i k m
   |some (some j)=>(brL l i k m).map (j:: ·)
def S9 (l:List It) (m:List Nat):Nd:=if m=[] then To else WB 5 (m.map fun j=>(l[j]?.map It.t).getD To)
def rlP (l:List It) (i k:Nat):Option Rl:=match l[i]?,l[k]? with
 | some x,some y=>if i≠k∧2≤x.outs.length∧x.outs.length=y.ins.length then (match brL l i k x.outs with
    |some m=>some ⟨i,x.ins,y.outs,WB 3 [x.t,S9 l m,y.t],m++[k]⟩
    |none=>none) else none
 |_,_=>none
def RX {α:Type} (n:Nat) (f:Nat→Nat→Option α):Option α:=LM n fun i=>LM n (f i)
def Gm (n:Nt) (l:List It):Option Rl:=(RX l.length (rlC l)).or ((LM n.pl.toNat (rlS n l)).or ((RX l.length (rlL l)).or (RX l.length (rlP l))))
def EX (l:List It) (gone:List Nat):List It:=(List.range l.length).filterMap fun k=>if gone.contains k then none else l[k]?
def Gn (l:List It) (a:Rl):Option (List It):=if Jf a.t=true∧Jf (Yw a.t)=true then some (EX (l.set a.i ⟨a.ins,a.outs,Yw a.t⟩) a.gone) else none
def Jn (n:Nt):Nat→List It→Option (List It)
 |0,l=>some l
 | f +1,l=>match Gm n l with
   |none=>some l
   | some a=>match Gn l a with
     |none=>none
     |some m=>Jn n f m
def it0 (t:Tn):It:=⟨t.ins,t.outs,if t.lab=ByteArray.empty then To else .mk 1 t.lab []⟩
theorem Zr:AggT prog 29 4=true:=by kernel_rfl
theorem Z9:AggT prog 69 3=true:=by kernel_rfl
theorem ZB:ElT prog 46 3 1 8 (.int .i64 0):=⟨underlying46,by kernel_rfl,rfl,dC⟩
theorem Z2:FldT prog 29 0 0=true:=by kernel_rfl
theorem ZD:FldT prog 29 1 1=true:=by kernel_rfl
theorem YP:FldT prog 29 2 2=true:=by kernel_rfl
theorem YW:FldT prog 29 3 3=true:=by kernel_rfl
theorem Y7:FldT prog 69 0 0=true:=by kernel_rfl
theorem Yi:FldT prog 69 1 1=true:=by kernel_rfl
theorem Yb:FldT prog 69 2 2=true:=by kernel_rfl
theorem ZN:NoAgg prog 27=true:=by kernel_rfl
theorem Zy:NoAgg prog 46=true:=by kernel_rfl
theorem WC:NoAgg prog 9=true:=by kernel_rfl
theorem ZI:SlT prog 27 69 3=true:=by kernel_rfl
theorem Wb:ZeroT prog 69 (.agg #[(.string ByteArray.empty),(.slice none 0 0),(.slice none 0 0)]):=by unfold ZeroT;kernel_rfl
def cTn (t:Tn):List PV:=[ZZ t.lab,pInts t.ins,pInts t.outs]
theorem Yr (t:Tn):(cTn t).length=3:=rfl
def JS (l:List Tn):PV:= .sl l.length (l.flatMap cTn)
def cNt (n:Nt):List PV:=[Zc n.pl,JS n.tr,Zc n.src,Zc n.snk]
def pNt (n:Nt):PV:= .agg (cNt n)
def Hr (l:List Tn):Prop:=∀t∈l,t.lab.size≤140737488355328
theorem WO (e n:Nat) (l:List Int) (hn:n=l.length):share (.own e 1 n (l.map Zc))=pInts l:=by
 subst hn
 unfold pInts
 rw [share,Yf,Vx]
 rfl
theorem Gp (e:Nat) (l:List Int) {z y:Int} (h:y=z):PV.own e 1 (l.length+1) (l.map Zc++[Zc y])= .own e 1 (l++[z]).length ((l++[z]).map Zc):=by
 subst h;rw [X2,Xg];rfl
theorem Zag {l:List Int} {k:Nat} {y:Int} (hy:l[k+1]? =some y):(l.map Zc)[((k:Int)+1).toNat*1]? =some (Zc y):=by rw [show ((k:Int)+1).toNat*1=k+1 by omega,Xo,hy];rfl
theorem ζe (l:List Int) (a:Int):AF prog 133 [pInts l,Zc a] (· =Zc (idx (fun x=>decide (x=a)) l)):=by
 refine AF.of_body 19 func133 rfl ntmps133 (Xa rfl) ?_
 intro w0 M0 vs hl hv
 obtain ⟨v0,v1,rfl⟩:=KG hl
 obtain rfl:=hv 1 _ _ rfl rfl
 clear hl hv
 refine Jr 0 rfl fun hlen=>?_
 refine Zf ?_
 (refine xL 4 Zb ?_;refine Zn ?_)
 (refine xL 6 Za (xL 7 (Z1 Zs) (xL 8 Za ?_));refine Ze ?_)
 refine ZE (ι:={k:Nat//k≤l.length∧∀i y,i<k→l[i]? =some y→decide (y=a)=false}) (fun k=>⟨[(0,_,_),(1,_,_),(7,_,_),(8, .int .i64 k.1,Zc k.1)],[]⟩) (fun k=>l.length-k.1) ⟨0,oM,oM⟩ (fun a w H=>H.weaken ⟨rfl,rfl,rfl,rfl,trivial⟩ trivial) ?_
 rintro ⟨k,hk,hp⟩
 dsimp only
 refine Zf ?_
 (refine xL 9 ZR ?_;refine Ze ?_)
 refine cX ?_ ?_<;>intro hb9
 · first |exact bN hb9|(
 obtain ⟨x,hx⟩:=Zw (show k<l.length by omega);have e1:=Y2 (f:=Zc) hx;refine Zf ?_;(refine xL 10 Za (xL 5 Zb ?_);refine Zn ?_)
 (refine xL 11 Za (xL 12 Za (xL 13 Za (xL 14 (ZP Zs) ?_)));refine yL 15 (Yy Zo) fun v15 hv15=>?_;cases hv15;refine xL 16 ZQ ?_;refine Ze ?_)
 refine cX ?_ ?_<;>intro hb16
 · first|exact bN hb16|(
 refine Zf ?_;(refine xL 17 Za (xL 4 Zb ?_);refine Ze ?_)
 refine Zx (results133) rfl ?_;rw [TM hp hx (Um oM)])
 · first|exact bN hb16|(
 refine Zf ?_;(refine xL 18 ZO (xL 8 Za ?_);refine Ze ?_)
 refine Zk (
  ⟨k+1,oM,fun i y hi hy=>by
   by_cases e:i=k
   · subst e;rw [hx] at hy;cases hy;exact Un oM
   · exact hp i y oM hy⟩
  ) (by dsimp only;omega) ⟨rfl,rfl,rfl,rfl,trivial⟩ trivial))
 · first|exact bN hb9|(
 refine Zf ?_;(refine xL 4 Zb ?_;refine Ze ?_)
 refine Zx (results133) rfl ?_;rw [TN fun i y hi hy=>hp i y oM hy])
theorem Hs (l:List Int) (a:Int):l.contains a=decide (0≤idx (fun x=>decide (x=a)) l):=by
 rw [R1,List.contains_eq_any_beq]
 congr 1
 funext x
 rw [Vg,beq_iff_eq,Ul];exact eq_comm
theorem YG (l:List Int) (a:Int):AF prog 86 [pInts l,Zc a] (· =ZV (l.contains a)):=by
 refine AF.of_body 9 func86 rfl ntmps86 (Xa rfl) ?_
 intro w0 M0 vs hl hv
 obtain ⟨v0,v1,rfl⟩:=KG hl
 obtain rfl:=hv 1 _ _ rfl rfl
 clear hl hv
 refine Zf ?_
 (refine xL 4 Zb ?_;refine Zn ?_)
 (refine xL 5 Za (xL 6 Za ?_);refine cS 7 (cA call133 (ζe l a)) fun v7 hv7=>?_;cases hv7;refine xL 8 WE (xL 4 Zb ?_);refine Ze ?_)
 refine Zx (results86) rfl ?_
 rw [Hs]
def PlTo (n:Int) (l:List Int) (k:Nat):Prop:=k≤l.length∧∀j x,j<k→l[j]? =some x→(0≤x∧x<n)∧∀y,1≤j→l[j-1]? =some y→ltZ y x=true
theorem PlTo.next {n x y:Int} {l:List Int} {k:Nat} (h:PlTo n l k) (hx:l[k]? =some x) (hy:l[k-1]? =some y) (h1:0≤x∧x<n) (h2:1≤k→y<x):PlTo n l (k+1):=⟨Zg hx,fun j z hj hz=>by
 by_cases e:j=k
 · subst e;rw [hx] at hz;cases hz;refine ⟨h1,fun y' h3 hy'=>?_⟩;rw [hy] at hy';cases hy';exact Um (h2 h3)
 · exact h.2 j z oM hz⟩
theorem PlTo.all {n:Int} {l:List Int} {k:Nat} (h:PlTo n l k) (hk:l.length≤k):KR n l=true:=by
 have h1:l.all (fun x=>decide (0≤x)&&decide (x<n))=true:=ζC fun j x hj=>by
  have h2:=(h.2 j x (by have:=Zg hj;omega) hj).1;simp [h2.1,h2.2]
 have h2:Ko ltZ l=true:=Cs fun j x y h1 hy hx=>(h.2 j x (by have:=Zg hx;omega) hx).2 y h1 hy
 unfold KR
 rw [h1,h2];rfl
theorem ZgB {n x y:Int} {l:List Int} {k:Nat} (hx:l[k]? =some x) (hy:l[k-1]? =some y) (h:(x<0∨n≤x)∨(1≤k∧x≤y)):KR n l=false:=by
 unfold KR
 rcases h with h|⟨h1,h2⟩
 · rw [HT hx (by simp;omega)];rfl
 · rw [HP h1 hy hx (Un oM),VL]
theorem Zah {l:List Int} {k:Nat} {y:Int} (hy:l[k-1]? =some y):(l.map Zc)[((k:Int)-1).toNat*1]? =some (Zc y):=by rw [show ((k:Int)-1).toNat*1=k-1 by omega,Xo,hy];rfl
theorem Lh (n:Nt) (l:List Int):AF prog 85 [pNt n,pInts l] (· =ZV (KR n.pl l)):=by
 refine AF.of_body 36 func85 rfl ntmps85 (Xa rfl) ?_
 intro w0 M0 vs hl hv
 obtain ⟨v0,v1,rfl⟩:=KG hl
 clear hl hv
 refine Jr 1 rfl fun hlen=>?_
 refine Zf ?_
 (refine Yv 2 4 fun h2=>?_;refine xL 4 Zb ?_;refine Zn ?_)
 (refine xL 7 Za (xL 8 (Z1 Zs) (xL 9 Za ?_));refine Ze ?_)
 refine ZE (ι:={k:Nat//PlTo n.pl l k}) (fun k=>⟨[(1,_,_),(2,_,_),(7,_,_),(8,_,_),(9, .int .i64 k.1,Zc k.1)],[(2,_,_)]⟩) (fun k=>l.length-k.1) ⟨0,oM,oM⟩ (fun a w H=>H.weaken ⟨rfl,rfl,rfl,rfl,rfl,trivial⟩ ⟨rfl,trivial⟩) ?_
 rintro ⟨k,hp⟩
 dsimp only
 have hk:=hp.1
 refine Zf ?_
 (refine xL 10 ZR ?_;refine Ze ?_)
 refine cX ?_ ?_<;>intro hb10
 · first |exact bN hb10|(
 obtain ⟨x,hx⟩:=Zw (show k<l.length by omega);obtain ⟨y,hy⟩:=Zw (show k-1<l.length by omega);have e1:=Y2 (f:=Zc) hx;have e2:=Zah hy;refine Zf ?_;(refine xL 11 Za (xL 12 (ZP Zs) ?_);refine yL 13 (Yy Zo) fun v13 hv13=>?_;cases hv13;refine xL 5 Zb (xL 6 Zb ?_);refine Zn ?_)
 (refine xL 14 Za (xL 15 ZR (xL 16 Za ?_))<;>(refine bLd 16 (fun hb16=>?_) (fun hb16=>?_)<;>(first|refine kL 17 ?_|refine xL 17 Za ?_))<;>(first|refine kL 18 ?_|refine xL 18 (Zd 2 Z2) ?_)<;>(first|refine kL 19 ?_|(refine yL 19 (Zi 2 Zo) fun v19 h=>?_;cases h))<;>(first|refine kL 20 ?_|refine xL 20 WE ?_)<;>refine xL 21 Zu (xL 22 Za ?_)<;>(first|refine kL 23 ?_|(refine bLd 22 (fun hb22=>?_) (fun hb22=>?_)<;>(first|refine kL 23 ?_|refine xL 23 Za ?_)))<;>(first|refine kL 24 ?_|refine xL 24 Wy ?_)<;>(first|refine kL 25 ?_|refine xL 25 Za ?_)<;>(first|refine kL 26 ?_|(refine bLd 25 (fun hb25=>?_) (fun hb25=>?_)<;>(first|refine kL 26 ?_|refine xL 26 Za ?_)))<;>(first|refine kL 27 ?_|refine xL 27 Za ?_)<;>(first|refine kL 28 ?_|refine xL 28 Gf ?_)<;>(first|refine kL 29 ?_|refine xL 29 (Zgs Zs) ?_)<;>(first|refine kL 30 ?_|(refine yL 30 (Yy Zo) fun v30 h=>?_;cases h))<;>(first|refine kL 31 ?_|refine xL 31 Za ?_)<;>(first|refine kL 32 ?_|refine xL 32 WE ?_)<;>(first|refine kL 33 ?_|refine xL 33 Zu ?_)<;>refine xL 34 Zu ?_<;>refine Ze ?_)<;>(
 refine cX ?_ ?_<;>intro hb34
 · first|exact bN hb34|(
 refine Zf ?_;(refine xL 4 Zb ?_;refine Ze ?_)
 refine Zx (results85) rfl ?_;rw [ZgB hx hy oM])
 · first|exact bN hb34|(
 refine Zf ?_;(refine xL 35 ZO (xL 9 Za ?_);refine Ze ?_)
 refine Zk (
  ⟨k+1,hp.next hx hy oM oM⟩
  ) (by dsimp only;omega) ⟨rfl,rfl,rfl,rfl,rfl,trivial⟩ ⟨rfl,trivial⟩)))
 · first|exact bN hb10|(
 refine Zf ?_;(refine xL 4 Zb ?_;refine Ze ?_)
 refine Zx (results85) rfl ?_;rw [hp.all oM])
theorem RJ (n:Int) (l:List Int):AF prog 83 [Zc n,pInts l] (· =ZV (KR n l)):=by
 refine AF.of_body 41 func83 rfl ntmps83 (Xa rfl) ?_
 intro w0 M0 vs hl hv
 obtain ⟨v0,v1,rfl⟩:=KG hl
 obtain rfl:=hv 0 _ _ rfl rfl
 clear hl hv
 refine Jr 1 rfl fun hlen=>?_
 refine Zf ?_
 (refine xL 4 Zb ?_;refine Zn ?_)
 (refine xL 5 Zb ?_;refine Ze ?_)
 refine ZE (ι:={k:Nat//PlTo n l k}) (fun k=>⟨[(0,_,_),(1,_,_),(5, .int .i64 k.1,Zc k.1)],[]⟩) (fun k=>l.length-k.1) ⟨0,oM,oM⟩ (fun a w H=>H.weaken ⟨rfl,rfl,rfl,trivial⟩ trivial) ?_
 rintro ⟨k,hp⟩
 dsimp only
 have hk:=hp.1
 refine Zf ?_
 (refine xL 6 Za (xL 7 Za (xL 8 (Z1 Zs) (xL 9 ZR ?_)));refine Ze ?_)
 refine cX ?_ ?_<;>intro hb9
 · first |exact bN hb9|(
 obtain ⟨x,hx⟩:=Zw (show k<l.length by omega);obtain ⟨y,hy⟩:=Zw (show k-1<l.length by omega);have e1:=Y2 (f:=Zc) hx;have e2:=Zah hy;refine nav ?_;(refine ZS (fun i=>([]:List Nat).elem i) [] kR ?_<;>refine xD 0 12 rfl Za ?_<;>refine xE 1 13 rfl Za ?_<;>refine xE 2 14 rfl (ZP Zs) ?_<;>(refine yE 3 15 rfl (Yy Zo) fun v15 h=>?_;cases h)<;>refine xE 4 16 rfl ZR ?_<;>refine xE 5 17 rfl Za ?_<;>(refine bDd 17 (fun hb17=>?_) (fun hb17=>?_)<;>(first|refine kD 6 18 rfl ?_|refine xD 6 18 rfl Za ?_))<;>(first|refine kD 7 19 rfl ?_|refine xD 7 19 rfl Za ?_)<;>(first|refine kD 8 20 rfl ?_|refine xD 8 20 rfl (ZP Zs) ?_)<;>(first|refine kD 9 21 rfl ?_|(refine yD 9 21 rfl (Yy Zo) fun v21 h=>?_;cases h))<;>(first|refine kD 10 22 rfl ?_|refine xD 10 22 rfl Za ?_)<;>(first|refine kD 11 23 rfl ?_|refine xD 11 23 rfl WE ?_)<;>refine xE 12 24 rfl Zu ?_<;>refine xE 13 25 rfl Za ?_<;>(first|refine kD 14 26 rfl ?_|(refine bDd 25 (fun hb25=>?_) (fun hb25=>?_)<;>(first|refine kD 14 26 rfl ?_|refine xD 14 26 rfl Za ?_)))<;>(first|refine kD 15 27 rfl ?_|refine xD 15 27 rfl Wy ?_)<;>(first|refine kD 16 28 rfl ?_|refine xD 16 28 rfl Za ?_)<;>(first|refine kD 17 29 rfl ?_|(refine bDd 28 (fun hb28=>?_) (fun hb28=>?_)<;>(first|refine kD 17 29 rfl ?_|refine xD 17 29 rfl Za ?_)))<;>(first|refine kD 18 30 rfl ?_|refine xD 18 30 rfl Za ?_)<;>(first|refine kD 19 31 rfl ?_|refine xD 19 31 rfl Gf ?_)<;>(first|refine kD 20 32 rfl ?_|refine xD 20 32 rfl (Zgs Zs) ?_)<;>(first|refine kD 21 33 rfl ?_|(refine yD 21 33 rfl (Yy Zo) fun v33 h=>?_;cases h))<;>(first|refine kD 22 34 rfl ?_|refine xD 22 34 rfl Za ?_)<;>(first|refine kD 23 35 rfl ?_|refine xD 23 35 rfl Za ?_)<;>(first|refine kD 24 36 rfl ?_|refine xD 24 36 rfl (ZP Zs) ?_)<;>(first|refine kD 25 37 rfl ?_|(refine yD 25 37 rfl (Yy Zo) fun v37 h=>?_;cases h))<;>(first|refine kD 26 38 rfl ?_|refine xD 26 38 rfl WE ?_)<;>(first|refine kD 27 39 rfl ?_|refine xD 27 39 rfl Zu ?_)<;>refine xE 28 40 rfl Zu ?_<;>refine Yu kR (nav ?_)<;>try dsimp only)<;>(
 refine cX ?_ ?_<;>intro hb40
 · first|exact bN hb40|(
 refine Zf ?_;(refine xL 4 Zb ?_;refine Ze ?_)
 refine Zx (results83) rfl ?_;rw [ZgB hx hy oM])
 · first|exact bN hb40|(
 refine Zf ?_;(refine xL 10 Za (xL 11 ZO (xL 5 Zb ?_));refine Ze ?_)
 refine Zk (
  ⟨k+1,hp.next hx hy oM oM⟩
  ) (by dsimp only;omega) ⟨rfl,rfl,rfl,trivial⟩ trivial)))
 · first|exact bN hb9|(
 refine Zf ?_;(refine xL 4 Zb ?_;refine Ze ?_)
 refine Zx (results83) rfl ?_;rw [hp.all oM])
theorem EY {n:Nt} (h:n.pl<1∨40<n.pl∨60<n.tr.length∨inB n.pl n.src=false∨inB n.pl n.snk=false∨n.tr.all (GN n.pl)=false):ntOk n=false:=by
 unfold ntOk
 rcases h with h|h|h|h|h|h
 · rw [Un (by omega:¬1≤n.pl)];simp
 · rw [Un (by omega:¬n.pl≤40)];simp
 · rw [Un (by omega:¬n.tr.length≤60)];simp
 · rw [h];simp
 · rw [h];simp
 · rw [h];simp
theorem ZdD {n x:Int} (h:x<0∨n≤x):inB n x=false:=by
 unfold inB;rw [Bool.and_eq_false_iff,decide_eq_false_iff_not,decide_eq_false_iff_not];omega
theorem Zai {n x:Int} (h:0≤x∧x<n):inB n x=true:=by unfold inB;simp [h.1,h.2]
theorem ZdE {n:Nt} (h1:1≤n.pl) (h2:n.pl≤40) (h3:n.tr.length≤60) (h6:∀(j:Nat) (t:Tn),n.tr[j]? =some t→GN n.pl t=true):ntOk n=(inB n.pl n.src&&inB n.pl n.snk):=by
 unfold ntOk
 rw [ζC h6,Um h1,Um h2,Um h3];simp
theorem Zaj (n:Int) (t:Tn):GN n t=((!(!t.lab.toList==ByteArray.toList {data:= #[]})|| !(!Ki t.lab))&& !(!KR n t.ins)&& !(!KR n t.outs)):=by
 unfold GN;simp only [Bool.not_not];rw [Js]
theorem Zak {n:Nt} {k:Nat} {t:Tn} (hx:n.tr[k]? =some t) (h:GN n.pl t=false):ntOk n=false:=EY (.inr (.inr (.inr (.inr (.inr (HT hx h))))))
theorem Tf (n : Nt) (hf:Hr n.tr):AF prog 41 [pNt n] (· =ZV (ntOk n)):=by
 refine AF.of_body 62 func41 rfl ntmps41 (Xa rfl) ?_
 intro w0 M0 vs hl hv
 obtain ⟨v0,rfl⟩:=Kl hl
 clear hl hv
 refine Zf ?_
 (refine Yv 1 4 fun h1=>?_;refine xL 2 Zb ?_;refine Zn ?_)
 (refine xL 5 (Zd 1 Z2) ?_<;>(refine yL 6 (Zi 1 Zo) fun v6 h=>?_;cases h)<;>refine xL 7 ZR (xL 8 Za ?_)<;>(refine bLd 8 (fun hb8=>?_) (fun hb8=>?_)<;>(first|refine kL 9 ?_|refine xL 9 (Zd 1 Z2) ?_))<;>(first|refine kL 10 ?_|(refine yL 10 (Zi 1 Zo) fun v10 h=>?_;cases h))<;>(first|refine kL 11 ?_|refine xL 11 Wy ?_)<;>refine xL 12 Zu (xL 13 Za ?_)<;>(first|refine kL 14 ?_|(refine bLd 13 (fun hb13=>?_) (fun hb13=>?_)<;>(first|refine kL 14 ?_|refine xL 14 (Zd 1 ZD) ?_)))<;>(first|refine kL 15 ?_|(refine yL 15 (Zi 1 ZN) fun v15 h=>?_;cases h))<;>(first|refine kL 16 ?_|refine xL 16 (Z1 ZI) ?_)<;>(first|refine kL 17 ?_|refine xL 17 Wy ?_)<;>refine xL 18 Zu ?_<;>refine Ze ?_)<;>(
 refine cX ?_ ?_<;>intro hb18
 · first|exact bN hb18|(
 refine Zf ?_;(refine xL 2 Zb ?_;refine Ze ?_)
 refine Zx (results41) rfl ?_;rw [EY oM])
 · first | exact bN hb18|(
 refine Zf ?_;(refine xL 19 (Zd 1 ZD) ?_;refine yL 20 (Zi 1 ZN) fun v20 hv20=>?_;cases hv20;refine xL 21 (Z1 ZI) (xL 22 Za ?_);refine Ze ?_)
 refine ZE (ι:={k:Nat//k≤n.tr.length∧∀j t,j<k→n.tr[j]? =some t→GN n.pl t=true}) (fun k=>⟨[(1,_,_),(20,_,_),(21,_,_),(22, .int .i64 k.1,Zc k.1)],[(1,_,_)]⟩) (fun k=>n.tr.length-k.1) ⟨0,oM,oM⟩ (fun a w H=>H.weaken ⟨rfl,rfl,rfl,rfl,trivial⟩ ⟨rfl,trivial⟩) ?_;rintro ⟨k,hk,hp⟩;dsimp only;refine Zf ?_;(refine xL 23 ZR ?_;refine Ze ?_)
 refine cX ?_ ?_<;>intro hb23
 · first | exact bN hb23|(
 obtain ⟨x,hx⟩:=Zw (show k<n.tr.length by omega);have e1:=Z' Yr n.tr k x hx;have e2:=Yp Yr hx;have hxs:=hf x (Xd hx);refine Zf ?_;(refine xL 24 (ZP ZI) ?_;refine yL 25 (Yz Z9) fun v25 hv25=>?_;cases hv25;refine ZA [(.string ByteArray.empty),(.slice none 0 0),(.slice none 0 0)] 3 4 Wb fun h4=>?_;refine Zv 4 Z9 ?_;refine Zn ?_)
 (refine xL 26 (Zd 4 Y7) ?_<;>(refine yL 27 (Zi 4 WC) fun v27 h=>?_;cases h)<;>refine xL 28 Lv (xL 29 Za ?_)<;>(refine bL 29 (fun hb29=>?_) (fun hb29=>?_)<;>(first|refine kL 30 ?_|refine xL 30 (Zd 4 Y7) ?_))<;>(first|refine kL 31 ?_|(refine yL 31 (Zi 4 WC) fun v31 h=>?_;cases h))<;>(first|refine kL 32 ?_|(refine cS 32 (cA call64 (HS x.lab oM)) fun v32 h=>?_;cases h))<;>(first|refine kL 33 ?_|refine xL 33 Ym ?_)<;>refine xL 34 Zu (xL 35 Za ?_)<;>(first|(refine yL 36 (Zq 1 Zr) fun v36 h=>?_;cases h)|(refine bL 35 (fun hb35=>?_) (fun hb35=>?_)<;>(first|refine kL 36 ?_|(refine yL 36 (Zq 1 Zr) fun v36 h=>?_;cases h))))<;>(first|refine kL 37 ?_|refine xL 37 (Zd 4 Yi) ?_)<;>(first|refine kL 38 ?_|(refine yL 38 (Zi 4 Zy) fun v38 h=>?_;cases h))<;>(first|refine kL 39 ?_|(refine cS 39 (cA call85 (Lh n x.ins)) fun v39 h=>?_;cases h))<;>(first|refine kL 40 ?_|refine xL 40 Ym ?_)<;>refine xL 41 Zu (xL 42 Za ?_)<;>(first|refine kL 43 ?_|(refine bL 42 (fun hb42=>?_) (fun hb42=>?_)<;>(first|refine kL 43 ?_|(refine yL 43 (Zq 1 Zr) fun v43 h=>?_;cases h))))<;>(first|refine kL 44 ?_|refine xL 44 (Zd 4 Yb) ?_)<;>(first|refine kL 45 ?_|(refine yL 45 (Zi 4 Zy) fun v45 h=>?_;cases h))<;>(first|refine kL 46 ?_|(refine cS 46 (cA call85 (Lh n x.outs)) fun v46 h=>?_;cases h))<;>(first|refine kL 47 ?_|refine xL 47 Ym ?_)<;>refine xL 48 Zu ?_<;>refine Ze ?_)<;>(
 refine cX ?_ ?_<;>intro hb48
 · first|exact bN hb48|(
 refine Zf ?_;(refine xL 2 Zb ?_;refine Ze ?_)
 refine Zx (results41) rfl ?_;rw [Zak hx (by
  rw [Zaj]
  first
   |(rw [hb29,hb35];rfl)
   |(rw [hb42,Vv,VL];rfl)
   |(rw [hb48,Vv,VL]))])
 · first |exact bN hb48|(
 refine Zf ?_;(refine xL 49 ZO (xL 22 Za ?_);refine Ze ?_)
 refine Zk (
  ⟨k + 1,Zg hx,fun j t hj ht=>by
   by_cases e:j=k
   · subst e;rw [hx] at ht;cases ht;rw [Zaj]
     first
      |(rw [hb29,hb35,hb42,hb48];rfl)
      |(rw [hb29,hb42,hb48];rfl)
   · exact hp j t oM ht⟩
  ) (by dsimp only;omega) ⟨rfl,rfl,rfl,rfl,trivial⟩ ⟨rfl,trivial⟩)))
 · first|exact bN hb23|(
 refine Zf ?_;((refine yL 50 (Zq 1 Zr) fun v50 h=>?_;cases h)<;>refine xL 51 (Zd 1 YP) ?_<;>(refine yL 52 (Zi 1 Zo) fun v52 h=>?_;cases h)<;>(refine Ye (kk:=1) 53 ZB fun h53 ho53=>?_;refine Zp (En.freeze (l:=53) (t:=53) rfl rfl) fun _=>?_)<;>(refine cS 54 (cA call85 (Lh n [n.src])) fun v54 h=>?_;cases h)<;>refine xL 55 Za ?_<;>(refine bL 55 (fun hb55=>?_) (fun hb55=>?_)<;>(first|refine kL 56 ?_|(refine yL 56 (Zq 1 Zr) fun v56 h=>?_;cases h)))<;>(first|refine kL 57 ?_|refine xL 57 (Zd 1 YW) ?_)<;>(first|refine kL 58 ?_|(refine yL 58 (Zi 1 Zo) fun v58 h=>?_;cases h))<;>(first|refine kL 59 ?_|(refine Ye (kk:=1) 59 ZB fun h59 ho59=>?_;refine Zp (En.freeze (l:=59) (t:=59) rfl rfl) fun _=>?_))<;>(first|refine kL 60 ?_|(refine cS 60 (cA call85 (Lh n [n.snk])) fun v60 h=>?_;cases h))<;>refine xL 61 Zu (xL 2 Zb ?_)<;>refine Ze ?_)<;>(
 refine Zx (results41) rfl ?_;rw [ZdE oM oM oM fun j t hj=>hp j t (by have:=Zg hj;omega) hj,←ET,←ET]
 first
  |(rw [hb55];rfl)
  |(rw [hb55,VK])))))
theorem ζf (n : Nt) (hf:Hr n.tr):AF prog 37 [pNt n] (· =ZV (ntOk n)):=by
 refine AF.of_body 80 func37 rfl ntmps37 (Xa rfl) ?_
 intro w0 M0 vs hl hv
 obtain ⟨v0,rfl⟩:=Kl hl
 clear hl hv
 refine Zf ?_
 (refine Yv 1 4 fun h1=>?_;refine xL 2 Zb ?_;refine Zn ?_)
 (refine xL 5 (Zd 1 Z2) ?_<;>(refine yL 6 (Zi 1 Zo) fun v6 h=>?_;cases h)<;>refine xL 7 ZR (xL 8 Za ?_)<;>(refine bLd 8 (fun hb8=>?_) (fun hb8=>?_)<;>(first|refine kL 9 ?_|refine xL 9 (Zd 1 Z2) ?_))<;>(first|refine kL 10 ?_|(refine yL 10 (Zi 1 Zo) fun v10 h=>?_;cases h))<;>(first|refine kL 11 ?_|refine xL 11 Wy ?_)<;>refine xL 12 Zu (xL 13 Za ?_)<;>(first|refine kL 14 ?_|(refine bLd 13 (fun hb13=>?_) (fun hb13=>?_)<;>(first|refine kL 14 ?_|refine xL 14 (Zd 1 ZD) ?_)))<;>(first|refine kL 15 ?_|(refine yL 15 (Zi 1 ZN) fun v15 h=>?_;cases h))<;>(first|refine kL 16 ?_|refine xL 16 (Z1 ZI) ?_)<;>(first|refine kL 17 ?_|refine xL 17 Wy ?_)<;>refine xL 18 Zu (xL 19 Za ?_)<;>(first|refine kL 20 ?_|(refine bLd 19 (fun hb19=>?_) (fun hb19=>?_)<;>(first|refine kL 20 ?_|refine xL 20 (Zd 1 YP) ?_)))<;>(first|refine kL 21 ?_|(refine yL 21 (Zi 1 Zo) fun v21 h=>?_;cases h))<;>(first|refine kL 22 ?_|refine xL 22 ZR ?_)<;>refine xL 23 Zu (xL 24 Za ?_)<;>(first|refine kL 25 ?_|(refine bLd 24 (fun hb24=>?_) (fun hb24=>?_)<;>(first|refine kL 25 ?_|refine xL 25 (Zd 1 YP) ?_)))<;>(first|refine kL 26 ?_|(refine yL 26 (Zi 1 Zo) fun v26 h=>?_;cases h))<;>(first|refine kL 27 ?_|refine xL 27 (Zd 1 Z2) ?_)<;>(first|refine kL 28 ?_|(refine yL 28 (Zi 1 Zo) fun v28 h=>?_;cases h))<;>(first|refine kL 29 ?_|refine xL 29 WE ?_)<;>refine xL 30 Zu (xL 31 Za ?_)<;>(first|refine kL 32 ?_|(refine bLd 31 (fun hb31=>?_) (fun hb31=>?_)<;>(first|refine kL 32 ?_|refine xL 32 (Zd 1 YW) ?_)))<;>(first|refine kL 33 ?_|(refine yL 33 (Zi 1 Zo) fun v33 h=>?_;cases h))<;>(first|refine kL 34 ?_|refine xL 34 ZR ?_)<;>refine xL 35 Zu (xL 36 Za ?_)<;>(first|refine kL 37 ?_|(refine bLd 36 (fun hb36=>?_) (fun hb36=>?_)<;>(first|refine kL 37 ?_|refine xL 37 (Zd 1 YW) ?_)))<;>(first|refine kL 38 ?_|(refine yL 38 (Zi 1 Zo) fun v38 h=>?_;cases h))<;>(first|refine kL 39 ?_|refine xL 39 (Zd 1 Z2) ?_)<;>(first|refine kL 40 ?_|(refine yL 40 (Zi 1 Zo) fun v40 h=>?_;cases h))<;>(first|refine kL 41 ?_|refine xL 41 WE ?_)<;>refine xL 42 Zu ?_<;>refine Ze ?_)<;>(
 refine cX ?_ ?_<;>intro hb42
 · first|exact bN hb42|(
 refine Zf ?_;(refine xL 2 Zb ?_;refine Ze ?_)
 refine Zx (results37) rfl ?_
 first
  |rw [EY oM]
  |rw [EY (.inr (.inr (.inr (.inl (ZdD oM)))))]
  |rw [EY (.inr (.inr (.inr (.inr (.inl (ZdD oM))))))])
 · first | exact bN hb42|(
 refine Zf ?_;(refine xL 3 Zb ?_;refine Ze ?_)
 refine ZE (ι:={k:Nat//k≤n.tr.length∧∀j t,j<k→n.tr[j]? =some t→GN n.pl t=true}) (fun k=>⟨[(1,_,_),(3, .int .i64 k.1,Zc k.1)],[(1,_,_)]⟩) (fun k=>n.tr.length-k.1) ⟨0,oM,oM⟩ (fun a w H=>H.weaken ⟨rfl,rfl,trivial⟩ ⟨rfl,trivial⟩) ?_;rintro ⟨k,hk,hp⟩;dsimp only;refine Zf ?_;(refine xL 43 Za (xL 44 (Zd 1 ZD) ?_);refine yL 45 (Zi 1 ZN) fun v45 hv45=>?_;cases hv45;refine xL 46 (Z1 ZI) (xL 47 ZR ?_);refine Ze ?_)
 refine cX ?_ ?_<;>intro hb47
 · first | exact bN hb47|(
 obtain ⟨x,hx⟩:=Zw (show k<n.tr.length by omega);have e1:=Z' Yr n.tr k x hx;have e2:=Yp Yr hx;have hxs:=hf x (Xd hx);refine Zf ?_;(refine xL 50 (Zd 1 ZD) ?_;refine yL 51 (Zi 1 ZN) fun v51 hv51=>?_;cases hv51;refine xL 52 Za (xL 53 (ZP ZI) ?_);refine yL 54 (Yz Z9) fun v54 hv54=>?_;cases hv54;refine ZA [(.string ByteArray.empty),(.slice none 0 0),(.slice none 0 0)] 3 4 Wb fun h4=>?_;refine Zv 4 Z9 ?_;refine Zn ?_)
 (refine xL 55 (Zd 4 Y7) ?_<;>(refine yL 56 (Zi 4 WC) fun v56 h=>?_;cases h)<;>refine xL 57 Lv (xL 58 Za ?_)<;>(refine bL 58 (fun hb58=>?_) (fun hb58=>?_)<;>(first|refine kL 59 ?_|refine xL 59 (Zd 4 Y7) ?_))<;>(first|refine kL 60 ?_|(refine yL 60 (Zi 4 WC) fun v60 h=>?_;cases h))<;>(first|refine kL 61 ?_|(refine cS 61 (cA call82 (O6 x.lab oM)) fun v61 h=>?_;cases h))<;>(first|refine kL 62 ?_|refine xL 62 Ym ?_)<;>refine xL 63 Zu (xL 64 Za ?_)<;>(first|refine xL 65 (Zd 1 Z2) ?_|(refine bL 64 (fun hb64=>?_) (fun hb64=>?_)<;>(first|refine kL 65 ?_|refine xL 65 (Zd 1 Z2) ?_)))<;>(first|refine kL 66 ?_|(refine yL 66 (Zi 1 Zo) fun v66 h=>?_;cases h))<;>(first|refine kL 67 ?_|refine xL 67 (Zd 4 Yi) ?_)<;>(first|refine kL 68 ?_|(refine yL 68 (Zi 4 Zy) fun v68 h=>?_;cases h))<;>(first|refine kL 69 ?_|(refine cS 69 (cA call83 (RJ n.pl x.ins)) fun v69 h=>?_;cases h))<;>(first|refine kL 70 ?_|refine xL 70 Ym ?_)<;>refine xL 71 Zu (xL 72 Za ?_)<;>(first|refine kL 73 ?_|(refine bL 72 (fun hb72=>?_) (fun hb72=>?_)<;>(first|refine kL 73 ?_|refine xL 73 (Zd 1 Z2) ?_)))<;>(first|refine kL 74 ?_|(refine yL 74 (Zi 1 Zo) fun v74 h=>?_;cases h))<;>(first|refine kL 75 ?_|refine xL 75 (Zd 4 Yb) ?_)<;>(first|refine kL 76 ?_|(refine yL 76 (Zi 4 Zy) fun v76 h=>?_;cases h))<;>(first|refine kL 77 ?_|(refine cS 77 (cA call83 (RJ n.pl x.outs)) fun v77 h=>?_;cases h))<;>(first|refine kL 78 ?_|refine xL 78 Ym ?_)<;>refine xL 79 Zu ?_<;>refine Ze ?_)<;>(
 refine cX ?_ ?_<;>intro hb79
 · first|exact bN hb79|(
 refine Zf ?_;(refine xL 2 Zb ?_;refine Ze ?_)
 refine Zx (results37) rfl ?_;rw [Zak hx (by
  rw [Zaj]
  first
   |(rw [hb58,hb64];rfl)
   |(rw [hb72,Vv,VL];rfl)
   |(rw [hb79,Vv,VL]))])
 · first |exact bN hb79|(
 refine Zf ?_;(refine xL 48 Za (xL 49 ZO (xL 3 Zb ?_));refine Ze ?_)
 refine Zk (
  ⟨k + 1,Zg hx,fun j t hj ht=>by
   by_cases e:j=k
   · subst e;rw [hx] at ht;cases ht;rw [Zaj]
     first
      |(rw [hb58,hb64,hb72,hb79];rfl)
      |(rw [hb58,hb72,hb79];rfl)
   · exact hp j t oM ht⟩
  ) (by dsimp only;omega) ⟨rfl,rfl,trivial⟩ ⟨rfl,trivial⟩)))
 · first|exact bN hb47|(
 refine Zf ?_;(refine xL 2 Zb ?_;refine Ze ?_)
 refine Zx (results37) rfl ?_;rw [ZdE oM oM oM fun j t hj=>hp j t (by have:=Zg hj;omega) hj,Zai oM,Zai oM];rfl)))
def ZdF (t:Nd):Nd:=if Jf t=true then (if Jf (Yw t)=true then Yw t else nd0) else nd0
theorem ZfG {p q:PV} {r:PV} (h:Rr p q):Rr (.tup [p,r]) (.tup [q,r]):=Rr.tup rfl fun i a b ha hb=>by
 match i with
 |0=>cases ha;cases hb;exact h
 |1=>cases ha;cases hb;exact Rr.rfl' _
 |i+2=>simp at ha
theorem Dp (x y z:Nd):PV.sl 3 [Zc x.op,ZZ x.act,YK x.l,Zc y.op,ZZ y.act,YK y.l,Zc z.op,ZZ z.act,YK z.l]=YK [x,y,z]:=by
 show PV.sl 3 (cN x++(cN y++(cN z++[])))=PV.sl 3 (Z6 [x,y,z])
 rw [We];rfl
theorem ZfH (t:Nd):Rr (LJ t).1 (pTr (ZdF t)):=by
 unfold LJ ZdF
 split
 · split
   · exact Rr.rfl' _
   · exact GG
 · exact GG
theorem ZfI (t:Nd):shD (.tup [(LJ t).1,Zc (LJ t).2])=true:=by
 unfold LJ
 split
 · split<;>rfl
 · rfl
theorem ZH:AggT prog 24 3=true:=by kernel_rfl
theorem Z4:AggT prog 85 5=true:=by kernel_rfl
theorem Tg:ElT prog 81 85 5 96 (.agg #[(.slice none 0 0),(.slice none 0 0),(.int .i64 0),(.string ByteArray.empty),(.slice none 0 0)]):=⟨underlying81,by kernel_rfl,rfl,dC⟩
theorem Yc:FldT prog 83 1 4=true:=by kernel_rfl
theorem Gq:FldT prog 83 2 5=true:=by kernel_rfl
theorem YQ:FldT prog 85 0 0=true:=by kernel_rfl
theorem Yx:FldT prog 85 1 1=true:=by kernel_rfl
theorem Ks:NoAgg prog 4=true:=by kernel_rfl
theorem YA:NoAgg prog 81=true:=by kernel_rfl
theorem Yl:SlT prog 81 85 5=true:=by kernel_rfl
theorem Dq:Y9 prog 85=some ((.agg #[(.slice none 0 0),(.slice none 0 0),(.int .i64 0),(.string ByteArray.empty),(.slice none 0 0)]),[(0,1),(1,1),(2,3)]):=by kernel_rfl
theorem KD:Y9 prog 24=some ((.agg #[(.int .i64 0),(.string ByteArray.empty),(.slice none 0 0)]),([0,1,2]:List Nat).map fun o=>(o,1)):=by kernel_rfl
theorem Sr:(prog.info? 4).map (·.size)=some 1:=by kernel_rfl
theorem Dr:(prog.info? 81).map (·.size)=some 1:=by kernel_rfl
theorem Kg:ZeroT prog 24 (.agg #[(.int .i64 0),(.string ByteArray.empty),(.slice none 0 0)]):=by unfold ZeroT;kernel_rfl
theorem Y1:ZeroT prog 85 (.agg #[(.slice none 0 0),(.slice none 0 0),(.int .i64 0),(.string ByteArray.empty),(.slice none 0 0)]):=by unfold ZeroT;kernel_rfl
theorem ζg (t:Nd):(Jf t=true∧Jf (Yw t)=true∧ZdF t=Yw t∧(LJ t).2=0)∨(¬(Jf t=true∧Jf (Yw t)=true)∧(LJ t).2≠0):=by
 unfold ZdF LJ
 by_cases h1:Jf t=true
 · by_cases h2:Jf (Yw t)=true
   · simp [h1,h2]
   · simp [h1,h2]
 · simp [h1]
def cIt (x:It):List PV:=[pInts x.ins,pInts x.outs,Zc x.t.op,ZZ x.t.act,YK x.t.l]
theorem YF (x:It):(cIt x).length=5:=rfl
def PrH (b:Nat) (v:Value) (n:Nt) (l:List It) (fl:Bool):List (Nat×Ent):=[(1000,Yd b, .own 83 6 1 [Zc n.pl,JS n.tr,Zc n.src,Zc n.snk, .val v, .val (.bool fl)]),(1001,v, .own 85 5 l.length (l.flatMap cIt))]
def zs (l:List Nat):List Int:=l.map fun (i:Nat)=>(i:Int)
theorem Gv (l:List Nat):(zs l).length=l.length:=by simp [zs]
theorem ZdG (l : List Nat) (k:Nat):(zs l).contains (k:Int)=l.contains k:=by
 rw [Vg,Vi,Vi]
 unfold zs
 rw [Xq]
 exact ⟨fun ⟨a, h, e⟩ => by have:a=k:=oM
                            exact this▸h,fun h=>⟨k,h,rfl⟩⟩
theorem ZfJ (L:List It) (k:Nat) (x:It) (h:k<L.length):Kx (L.flatMap cIt) (k*5) (cIt x)=(L.set k x).flatMap cIt:=by
 have e:L=L.take k++[L[k]]++L.drop (k+1):=by
  rw [XC,List.singleton_append,List.getElem_cons_drop,Vw]
 have e2:L.set k x=L.take k++[x]++L.drop (k+1):=by
  rw [List.set_eq_take_append_cons_drop,Up h,XC];rfl
 rw [e2]
 conv=>lhs;rw [e]
 simp only [Xt,X1]
 exact D6 (cIt x) _ _ _ _ (by rw [WR YF,Xl,XJ (Nat.le_of_lt h)]) rfl
theorem ZdH (e:Nat) (l:List It) (x:It):PV.own e 5 (l.length+1) (l.flatMap cIt++cIt x)= .own e 5 (l++[x]).length ((l++[x]).flatMap cIt):=by
 rw [Xt,Xg];simp
def wF (l:List It) (p:Int) (out:Bool) (i:Nat):Bool:=match l[i]? with
 |some x=>if out=true then x.outs.contains p else x.ins.contains p
 |none=>false
theorem ZgC {l:List It} {k:Nat} {x:It} (hx:l[k]? =some x) (p:Int) (out:Bool):wF l p out k=if out=true then x.outs.contains p else x.ins.contains p:=by unfold wF;rw [hx]
theorem ZfK {f:Nat→Bool} {k:Nat} (h:f k=true):(List.range (k+1)).filter f=(List.range k).filter f++[k]:=by rw [VP,V4];simp [h]
theorem Zhm {f:Nat→Bool} {k:Nat} (h:f k=false):(List.range (k+1)).filter f=(List.range k).filter f:=by rw [VP,V4];simp [h]
theorem Od (e:Nat) (l:List Nat) (k:Nat):PV.own e 1 ((zs l).length+1) ((zs l).map Zc++[Zc (k:Int)])= .own e 1 (zs (l++[k])).length ((zs (l++[k])).map Zc):=by
 unfold zs;rw [X2,X2,Xg];rfl
theorem ZdI {l:List Int} {p x:Int} (hx:l.length=1→l[0]? =some x):decide (l=[p])=(decide (l.length=1)&&decide (x=p)):=by
 match l with
 |[]=>simp
 | [y]=>
   have:=hx rfl;simp only [Vq,Option.some.injEq] at this;subst this;simp
 |y::z::m=>simp
theorem Ss (l:List Int):∃x,l.length=1→l[0]? =some x:=by
 cases l with
 |nil=>exact ⟨0,fun h=>by cases h⟩
 |cons x m=>exact ⟨x,fun _=>rfl⟩
theorem Jo (l:List Int) (p:Int):AF prog 47 [pInts l,Zc p] (· =ZV (decide (l=[p]))):=by
 obtain ⟨x,hx⟩:=Ss l
 refine AF.of_body 15 func47 rfl ntmps47 (Xa rfl) ?_
 intro w0 M0 vs hl hv
 obtain ⟨v0,v1,rfl⟩:=KG hl
 obtain rfl:=hv 1 _ _ rfl rfl
 clear hl hv
 rw [ZdI hx]
 refine Zf ?_
 (refine xL 4 Zb ?_;refine Zn ?_)
 (refine xL 5 Za (xL 6 (Z1 Zs) (xL 7 ZQ (xL 8 Za ?_)))<;>(refine bLd 8 (fun hb8=>?_) (fun hb8=>?_)<;>(first|refine kL 9 ?_|refine xL 9 Za ?_))<;>(first|refine kL 10 ?_|(have e1:=Y2 (f:=Zc) (hx oM);refine xL 10 (ZP Zs) ?_))<;>(first|refine kL 11 ?_|(refine yL 11 (Yy Zo) fun v11 h=>?_;cases h))<;>(first|refine kL 12 ?_|refine xL 12 Za ?_)<;>(first|refine kL 13 ?_|refine xL 13 ZQ ?_)<;>refine xL 14 Zu (xL 4 Zb ?_)<;>refine Ze ?_)<;>(
 refine Zx (results47) rfl ?_
 first
  |(rw [show decide (l.length=1)=true from Um oM,VK])
  |(rw [show decide (l.length=1)=false from Un oM];rfl))
theorem KP (op:Int) (l:List Nd):AF prog 90 [Zc op,YK l] (· =pTr (WB op l)):=by
 refine AF.of_body 8 func90 rfl ntmps90 (Xa rfl) ?_
 intro w0 M0 vs hl hv
 obtain ⟨v0,v1,rfl⟩:=KG hl
 obtain rfl:=hv 0 _ _ rfl rfl
 clear hl hv
 refine Zf ?_
 (refine ZA [(.int .i64 0),(.string ByteArray.empty),(.slice none 0 0)] 3 4 Kg fun h4=>?_;refine Zn ?_)
 (refine xL 5 Za (xL 6 Za (xL 7 (Z3 KD) ?_));refine Zv 4 ZH ?_;refine Ze ?_)
 refine WL (k:=3) 4 kR (results90) rfl rfl (Xa rfl) dC rfl ?_
 rfl
theorem Gr (b :Nat) (v:Value) (n:Nt) (l:List It) (fl:Bool) (p:Int) (out:Bool) (hv:v.oneCell'=true) (hl:l.length≤1000):AFh False prog 91 [(0,ZX b, .val (ZX b)),(1, .int .i64 p,Zc p),(2, .bool out, .val (.bool out))] (PrH b v n l fl) (fun _ q h=>q=pInts (zs (YU l p out))∧h=PrH b v n l fl):=by
 have hone:En.one (PV.val v)=true:=hv
 unfold PrH
 refine AFh.of_body 43 func91 rfl ntmps91 (Xa rfl) rfl ?_
 intro w0 M0 N0
 refine Zf ?_
 (refine xL 6 Zb ?_;refine Zn ?_)
 (refine xL 7 Zb ?_;refine Ze ?_)
 refine Zz (WF 200 3 1 rfl) fun _=>?_
 (refine Zm ?_;refine xL 10 Za (xL 11 (ZC 1000) (xL 12 (Zd 1000 Yc) ?_));refine yL 13 (Zi 1000 YA) fun v13 hv13=>?_;cases hv13;refine xL 14 (YV 1001 Yl) (xL 15 Za ?_);refine Ze ?_)
 refine ZE (ι:={q:Nat×Value//q.1≤l.length∧q.2.oneCell'=true}) (fun k=>⟨[(0,_,_),(1,_,_),(2,_,_),(13,_,_),(14,_,_),(15, .int .i64 k.1.1,Zc k.1.1),(7,k.1.2, .val k.1.2)],[(1000,_,_),(1001,_,_),(200,k.1.2, .own 3 1 (zs ((List.range k.1.1).filter (wF l p out))).length ((zs ((List.range k.1.1).filter (wF l p out))).map Zc))]⟩) (fun k=>l.length-k.1.1) ⟨(0,_),Xh _,rfl⟩ (fun a w H=>H.weaken ⟨rfl,rfl,rfl,rfl,rfl,rfl,rfl,trivial⟩ ⟨rfl,rfl,rfl,trivial⟩) ?_
 rintro ⟨⟨k,u⟩,hk,hu⟩
 dsimp only
 dsimp only at hk hu;have honeu:En.one (PV.val u)=true:=hu
 refine Zf ?_
 (refine xL 16 ZR ?_;refine Ze ?_)
 refine cX ?_ ?_<;>intro hb16
 · first | exact bN hb16|(
 obtain ⟨x,hx⟩:=Zw (show k<l.length by omega);have e1:=Z' YF l k x hx;have e2:=Yp YF hx;refine Zf ?_;(refine xL 17 Za (xL 18 (Zt 1001 Yl) ?_);refine yL 19 (Zq 1001 Z4) fun v19 hv19=>?_;cases hv19;refine ZA [(.slice none 0 0),(.slice none 0 0),(.int .i64 0),(.string ByteArray.empty),(.slice none 0 0)] 5 9 Y1 fun h9=>?_;refine xL 8 Zb ?_;refine Zv 9 Z4 ?_;refine Zn ?_)
 (refine xL 20 Za (xL 21 Ym (xL 22 Za ?_))<;>(refine bL 22 (fun hb22=>?_) (fun hb22=>?_)<;>(first|refine kL 23 ?_|refine xL 23 (Zd 9 YQ) ?_))<;>(first|refine kL 24 ?_|(refine yL 24 (Zi 9 Zy) fun v24 h=>?_;cases h))<;>(first|refine kL 25 ?_|refine xL 25 Za ?_)<;>(first|refine kL 26 ?_|(refine cS 26 (cA call86 (YG x.ins p)) fun v26 h=>?_;cases h))<;>refine xL 27 Zu (xL 28 Za ?_)<;>(first|refine xL 29 Za ?_|(refine bL 28 (fun hb28=>?_) (fun hb28=>?_)<;>(first|refine kL 29 ?_|refine xL 29 Za ?_)))<;>(first|refine kL 30 ?_|refine xL 30 Za ?_)<;>(first|refine kL 31 ?_|(refine bL 30 (fun hb30=>?_) (fun hb30=>?_)<;>(first|refine kL 31 ?_|refine xL 31 (Zd 9 Yx) ?_)))<;>(first|refine kL 32 ?_|(refine yL 32 (Zi 9 Zy) fun v32 h=>?_;cases h))<;>(first|refine kL 33 ?_|refine xL 33 Za ?_)<;>(first|refine kL 34 ?_|(refine cS 34 (cA call86 (YG x.outs p)) fun v34 h=>?_;cases h))<;>(first|refine kL 35 ?_|refine xL 35 Zu ?_)<;>refine xL 36 Zu ?_<;>refine Ze ?_)<;>(
 refine cX ?_ ?_<;>intro hb36
 · first |exact bN hb36|(
 have hw:wF l p out k=true:=by
  rw [ZgC hx]
  first
   |(rw [Up hb30];exact hb36)
   |(rw [Uo (by rw [show out=false by simpa using hb22];decide)];exact hb28)
 (have hzl:(zs ((List.range k).filter (wF l p out))).length≤k:=by rw [Gv];exact XG (VS _ _) (by rw [List.length_range];omega));refine Zf ?_;(refine xL 37 Za (xL 38 Za ?_);refine Ye (kk:=1) 39 ZB fun h39 ho39=>?_;(refine Kk 200 39 40 ZB fun h40 ho40=>?_;refine Zp (Z0 (l:=40) 200 rfl rfl) fun _=>?_;refine Zp (ZF (l:=200) rfl (Od 3 _ k)) fun _=>?_;rw [←ZfK hw]);refine xL 7 Zb ?_;refine Zn ?_)
 (refine xL 41 ZO (xL 15 Za ?_);refine Ze ?_)
 first
  | (exact Zk (
      ⟨(k+1,h40),Zg hx,ho40⟩
      ) (by dsimp only;omega) ⟨rfl,rfl,rfl,rfl,rfl,rfl,rfl,trivial⟩ ⟨rfl,rfl,rfl,trivial⟩)
  | (exact Zk (
      ⟨(k+1,u),Zg hx,hu⟩
      ) (by dsimp only;omega) ⟨rfl,rfl,rfl,rfl,rfl,rfl,rfl,trivial⟩ ⟨rfl,rfl,rfl,trivial⟩))
 · first |exact bN hb36|(
 have hw:wF l p out k=false:=by
  rw [ZgC hx]
  first
   |(rw [Up hb30];exact hb36)
   |(rw [Uo (by rw [hb30];decide)];exact hb28)
   |exact Uq hb22 (by rw [hb30];decide)
 rw [←Zhm hw];refine Zf ?_;(refine xL 41 ZO (xL 15 Za ?_);refine Ze ?_)
 first
  | (exact Zk (
      ⟨(k+1,h40),Zg hx,ho40⟩
      ) (by dsimp only;omega) ⟨rfl,rfl,rfl,rfl,rfl,rfl,rfl,trivial⟩ ⟨rfl,rfl,rfl,trivial⟩)
  | (exact Zk (
      ⟨(k+1,u),Zg hx,hu⟩
      ) (by dsimp only;omega) ⟨rfl,rfl,rfl,rfl,rfl,rfl,rfl,trivial⟩ ⟨rfl,rfl,rfl,trivial⟩))))
 · first|exact bN hb16|(
 refine nav ?_;obtain rfl:k=l.length:=oM;refine Zz (En.freeze (l:=200) (t:=7) rfl rfl) fun _=>?_;refine Zz (Yk (t:=7) rfl (WO 3 _ _ rfl)) fun _=>?_;(refine Zm ?_;refine xL 42 Za (xL 6 Zb ?_);refine Ze ?_)
 exact WQ (PrH b v n l fl) (results91) rfl ⟨rfl,rfl,trivial⟩ ⟨rfl,rfl⟩)
def ItF (l:List It):Prop:=∀x∈l,FitT x.t
def jnX (l:List It) (a:Rl):Bool×List It×Bool:=match Gn l a with
 |some m=>(true,m,false)
 |none=>(false,l,true)
def ruX (l:List It):Option Rl→Bool×List It×Bool
 |none=>(false,l,false)
 |some a=>jnX l a
def RuR (b:Nat) (n:Nt) (l:List It) (o:Option Rl):Value→PV→List (Nat×Ent)→Prop:=fun u q h=>∃v':Value,v'.oneCell'=true∧u= .bool (ruX l o).1∧q= .val (.bool (ruX l o).1)∧h=PrH b v' n (ruX l o).2.1 (ruX l o).2.2
def Lp (l:List It) (gone:List Nat) (k:Nat):List It:=(List.range k).filterMap fun j=>if gone.contains j then none else l[j]?
theorem ZdJ {l:List It} {gone:List Nat} {k:Nat} {x:It} (hx:l[k]? =some x) (h:gone.contains k=false):Lp l gone (k+1)=Lp l gone k++[x]:=by
 unfold Lp;rw [VP,List.filterMap_append,List.filterMap_cons,h,Uo dC,hx];rfl
theorem Zal {l:List It} {gone:List Nat} {k:Nat} (h:gone.contains k=true):Lp l gone (k+1)=Lp l gone k:=by
 unfold Lp;rw [VP,List.filterMap_append,List.filterMap_cons,h,Up rfl];simp
theorem Zam (l:List It) (gone:List Nat) (k:Nat):(Lp l gone k).length≤k:=by
 unfold Lp;exact XG (List.length_filterMap_le _ _) (by rw [List.length_range];exact Xb _)
set_option maxHeartbeats 2000000 in
theorem Pl (b : Nat) (v:Value) (n:Nt) (l:List It) (a:Rl) (hv:v.oneCell'=true) (hl:l.length≤1000) (hi:a.i<l.length) (hf:FitT a.t) (ui uo ut ug:Value):AFh False prog 89 [(0,ZX b, .val (ZX b)),(1, .int .i64 (a.i:Nat),Zc (a.i:Nat)),(2,ui,pInts a.ins),(3,uo,pInts a.outs),(4,ut,pTr a.t),(5,ug,pInts (zs a.gone))] (PrH b v n l false) (RuR b n l (some a)):=by
 have hone:En.one (PV.val v)=true:=hv
 have hN:=(C3 a.t hf).reread (ZfI a.t) (ZfG (ZfH a.t))
 have hc:=ζg a.t
 generalize (LJ a.t).2=e at hN hc
 obtain ⟨⟨No,Na,Nl⟩,hNN⟩:∃N,N=ZdF a.t:=⟨_,rfl⟩
 rw [←hNN] at hN hc
 have e0:pTr (.mk No Na Nl)= .agg [Zc No,ZZ Na,YK Nl]:=rfl
 rw [e0] at hN
 obtain ⟨L,hL⟩:∃L,L=l.set a.i ⟨a.ins,a.outs, .mk No Na Nl⟩:=⟨_,rfl⟩
 have hLl:L.length=l.length:=by rw [hL,Xi]
 have hset:=ZfJ l a.i ⟨a.ins,a.outs, .mk No Na Nl⟩ hi
 rw [←hL] at hset
 have e5:a.i*5+5≤(l.flatMap cIt).length:=by rw [WR YF];omega
 unfold PrH
 refine AFh.of_body 61 func89 rfl ntmps89 (Xa rfl) rfl ?_
 intro w0 M0 N0
 have et:pTr a.t= .agg [Zc a.t.op,ZZ a.t.act,YK a.t.l]:=rfl
 refine Zf ?_
 (refine Yv 10 3 fun h10=>?_;refine xL 12 Zb ?_;refine Zn ?_)
 (refine yL 19 (Zq 10 ZH) fun v19 hv19=>?_;cases hv19;refine cP 20 (cA call137 (hN)) fun va20 vb20 hva20 hvb20=>?_;cases hvb20;refine xL 18 Za (xL 21 ZK (xL 22 ZK ?_));refine ZA [(.int .i64 0),(.string ByteArray.empty),(.slice none 0 0)] 3 13 Kg fun h13=>?_;refine Zv 13 ZH ?_;refine xL 14 Zb ?_;refine Zn ?_)
 (refine xL 23 Za (xL 24 YN ?_);refine Ze ?_)
 refine cX ?_ ?_<;>intro hb24
 · first|exact bN hb24|(
 refine Zf ?_;(refine xL 25 Za (xL 26 (ZC 1000) (xL 27 (Zd 1000 Gq) ?_));refine Y3 1000 Ks Sr ?_;refine Zn ?_)
 (refine xL 12 Zb ?_;refine Ze ?_)
 refine WQ (PrH b v n l true) (results89) rfl ⟨rfl,rfl,trivial⟩ ⟨v,hv,?_⟩;have hj:jnX l a=(false,l,true):=by
  unfold jnX Gn;rw [Uo (hc.elim (fun h=>Uq h.2.2.2 hb24) (fun h=>h.1))]
 rw [show ruX l (some a)=_ from hj];exact ⟨rfl,rfl,rfl⟩)
 · first | exact bN hb24|(
 refine nav ?_;(refine ZS (fun i=>([10]:List Nat).elem i) [13,1000,1001] kR ?_<;>refine xD 0 28 rfl Za ?_<;>refine xD 1 29 rfl (ZC 1000) ?_<;>refine xD 2 30 rfl (Zd 1000 Yc) ?_<;>(refine yD 3 31 rfl (Zi 1000 YA) fun v31 h=>?_;cases h)<;>refine xD 4 32 rfl Za ?_<;>refine xD 5 33 rfl Za ?_<;>refine xD 6 34 rfl Za ?_<;>(refine yE 7 35 rfl (Zq 13 ZH) fun v35 h=>?_;cases h)<;>(refine yE 8 36 rfl (W7 Dq) fun v36 h=>?_;cases h)<;>refine xE 9 37 rfl (Zt 1001 Yl) ?_<;>(refine Zl 10 kR ?_)<;>(refine WX rfl rfl kR fun DQ back=>?_)<;>refine Zv 1001 Z4 ?_<;>refine Zh (back _ (nav ?_))<;>try dsimp only)
 refine Zz (ZF (l:=1001) rfl (show PV.own 85 5 l.length (Kx (l.flatMap cIt) (a.i*5) (cIt ⟨a.ins,a.outs, .mk No Na Nl⟩))=PV.own 85 5 L.length (L.flatMap cIt) by rw [hset,hLl])) fun _=>?_;have hj:jnX l a=(true,Lp L a.gone L.length,false):=by
  have hq:=hc.resolve_right fun h=>hb24 h.2;unfold jnX Gn;rw [Up ⟨hq.1,hq.2.1⟩,←hq.2.2.1,←hL];rfl
 (refine Zm ?_;refine xL 15 Zb ?_;refine Ze ?_)
 refine Zz (WF 200 85 5 rfl) fun _=>?_;(refine Zm ?_;refine xL 38 Za (xL 39 (ZC 1000) (xL 40 (Zd 1000 Yc) ?_));refine yL 41 (Zi 1000 YA) fun v41 hv41=>?_;cases hv41;refine xL 42 (YV 1001 Yl) (xL 43 Za ?_);refine Ze ?_)
 refine ZE (ι:={q:Nat×Value//q.1≤L.length∧q.2.oneCell'=true}) (fun k=>⟨[(0,_,_),(5,_,_),(41,_,_),(42,_,_),(43, .int .i64 k.1.1,Zc k.1.1),(15,k.1.2, .val k.1.2)],[(1000,_,_),(1001,_,_),(200,k.1.2, .own 85 5 (Lp L a.gone k.1.1).length ((Lp L a.gone k.1.1).flatMap cIt))]⟩) (fun k=>L.length-k.1.1) ⟨(0,_),Xh _,rfl⟩ (fun a w H=>H.weaken ⟨rfl,rfl,rfl,rfl,rfl,rfl,trivial⟩ ⟨rfl,rfl,rfl,trivial⟩) ?_;rintro ⟨⟨k,u⟩,hk,hu⟩;dsimp only;dsimp only at hk hu;have honeu:En.one (PV.val u)=true:=hu;refine Zf ?_;(refine xL 44 ZR ?_;refine Ze ?_)
 refine cX ?_ ?_<;>intro hb44
 · first | exact bN hb44|(
 obtain ⟨x,hx⟩:=Zw (show k<L.length by omega);have e1:=Z' YF L k x hx;have e2:=Yp YF hx;have hle:=Zam L a.gone k;refine Zf ?_;(refine xL 45 Za (xL 46 (Zt 1001 Yl) ?_);refine yL 47 (Zq 1001 Z4) fun v47 hv47=>?_;cases hv47;refine ZA [(.slice none 0 0),(.slice none 0 0),(.int .i64 0),(.string ByteArray.empty),(.slice none 0 0)] 5 17 Y1 fun h17=>?_;refine xL 16 Zb ?_;refine Zv 17 Z4 ?_;refine Zn ?_)
 (refine xL 48 Za (xL 49 Za ?_);refine cS 50 (cA call86 (YG (zs a.gone) k)) fun v50 hv50=>?_;cases hv50;refine xL 51 Ym ?_;refine Ze ?_)
 refine cX ?_ ?_<;>intro hb51
 · first |exact bN hb51|(
 (have hw:a.gone.contains k=false:=by rw [←ZdG];simpa using hb51);refine Zf ?_;(refine xL 52 Za ?_;refine yL 53 (Zq 17 Z4) fun v53 hv53=>?_;cases hv53;refine K1 54 Tg fun h54 ho54=>?_;(refine Kk 200 54 55 Tg fun h55 ho55=>?_;refine Zp (Z0 (l:=55) 200 rfl rfl) fun _=>?_;refine Zp (ZF (l:=200) rfl (ZdH 85 (Lp L a.gone k) x)) fun _=>?_;rw [←ZdJ hx hw]);refine xL 15 Zb ?_;refine Zn ?_)
 (refine xL 56 ZO (xL 43 Za ?_);refine Ze ?_)
 first
  | (exact Zk (
      ⟨(k+1,h55),Zg hx,ho55⟩
      ) (by dsimp only;omega) ⟨rfl,rfl,rfl,rfl,rfl,rfl,trivial⟩ ⟨rfl,rfl,rfl,trivial⟩)
  | (exact Zk (
      ⟨(k+1,u),Zg hx,hu⟩
      ) (by dsimp only;omega) ⟨rfl,rfl,rfl,rfl,rfl,rfl,trivial⟩ ⟨rfl,rfl,rfl,trivial⟩))
 · first |exact bN hb51|(
 (have hw:a.gone.contains k=true:=by rw [←ZdG];simpa using hb51);rw [←Zal hw];refine Zf ?_;(refine xL 56 ZO (xL 43 Za ?_);refine Ze ?_)
 first
  | (exact Zk (
      ⟨(k+1,h55),Zg hx,ho55⟩
      ) (by dsimp only;omega) ⟨rfl,rfl,rfl,rfl,rfl,rfl,trivial⟩ ⟨rfl,rfl,rfl,trivial⟩)
  | (exact Zk (
      ⟨(k+1,u),Zg hx,hu⟩
      ) (by dsimp only;omega) ⟨rfl,rfl,rfl,rfl,rfl,rfl,trivial⟩ ⟨rfl,rfl,rfl,trivial⟩)))
 · first|exact bN hb44|(
 refine nav ?_;obtain rfl:k=L.length:=oM;(refine Zm ?_;refine xL 57 Za (xL 58 Za (xL 59 (ZC 1000) (xL 60 (Zd 1000 Yc) ?_)));(refine Y3 1000 YA Dr ?_;refine ZL [(1000,_,_),(200,_,_)] ⟨rfl,rfl,trivial⟩ ?_;refine Zp (Z0 (l:=200) 1001 rfl rfl) fun _=>?_);refine Zn ?_)
 (refine xL 12 Zb ?_;refine Ze ?_)
 refine WQ (PrH b u n (Lp L a.gone L.length) false) (results89) rfl ⟨rfl,rfl,trivial⟩ ⟨u,hu,?_⟩;rw [show ruX l (some a)=_ from hj];exact ⟨rfl,rfl,rfl⟩))
theorem Zin {α:Type} {a b:List α} {k:Nat} {x y:α} (hx:a[k]? =some x) (hy:b[k]? =some y) (h:x≠y):a≠b:=fun e=>by
 subst e;rw [hx] at hy;cases hy;exact h rfl
theorem Zhn {α:Type} {a b:List α} (hl:a.length=b.length) (h:∀(j:Nat) (x y:α),a[j]? =some x→b[j]? =some y→x=y):a=b:=List.ext_getElem hl fun i h1 h2=>h i _ _ (Xx h1) (Xx h2)
theorem KX (a b:List Int):AF prog 21 [pInts a,pInts b] (· =ZV (decide (a=b))):=by
 refine AF.of_body 26 func21 rfl ntmps21 (Xa rfl) ?_
 intro w0 M0 vs hl hv
 obtain ⟨v0,v1,rfl⟩:=KG hl
 clear hl hv
 refine Jr 0 rfl fun hla=>?_
 refine Jr 1 rfl fun hlb=>?_
 refine Zf ?_
 (refine xL 4 Zb ?_;refine Zn ?_)
 (refine xL 6 Za (xL 7 (Z1 Zs) (xL 8 Za (xL 9 (Z1 Zs) (xL 10 YN ?_))));refine Ze ?_)
 refine cX ?_ ?_<;>intro hb10
 · first|exact bN hb10|(
 refine Zf ?_;(refine xL 4 Zb ?_;refine Ze ?_)
 refine Zx (results21) rfl ?_;rw [Un fun e=>by subst e;omega])
 · first | exact bN hb10|(
 refine Zf ?_;(refine xL 11 Za (xL 12 (Z1 Zs) (xL 13 Za ?_));refine Ze ?_)
 refine ZE (ι:={k:Nat//k≤a.length∧∀j x y,j<k→a[j]? =some x→b[j]? =some y→x=y}) (fun k=>⟨[(0,_,_),(1,_,_),(12,_,_),(13, .int .i64 k.1,Zc k.1)],[]⟩) (fun k=>a.length-k.1) ⟨0,oM,oM⟩ (fun a w H=>H.weaken ⟨rfl,rfl,rfl,rfl,trivial⟩ trivial) ?_;rintro ⟨k,hk,hp⟩;dsimp only;refine Zf ?_;(refine xL 14 ZR ?_;refine Ze ?_)
 refine cX ?_ ?_<;>intro hb14
 · first |exact bN hb14|(
 obtain ⟨x,hx⟩:=Zw (show k<a.length by omega);obtain ⟨y,hy⟩:=Zw (show k<b.length by omega);have e1:=Y2 (f:=Zc) hx;have e2:=Y2 (f:=Zc) hy;refine Zf ?_;(refine xL 15 Za (xL 5 Zb ?_);refine Ze ?_)
 (refine ZS (fun i=>([]:List Nat).elem i) [] kR ?_<;>refine xD 0 16 rfl Za ?_<;>refine xD 1 17 rfl Za ?_<;>refine xD 2 18 rfl (ZP Zs) ?_<;>(refine yD 3 19 rfl (Yy Zo) fun v19 h=>?_;cases h)<;>refine xD 4 20 rfl Za ?_<;>refine xE 5 21 rfl Za ?_<;>refine xE 6 22 rfl (ZP Zs) ?_<;>(refine yE 7 23 rfl (Yy Zo) fun v23 h=>?_;cases h)<;>refine xE 8 24 rfl YN ?_<;>refine Yu kR (nav ?_)<;>try dsimp only)
 refine cX ?_ ?_<;>intro hb24
 · first|exact bN hb24|(
 refine Zf ?_;(refine xL 4 Zb ?_;refine Ze ?_)
 refine Zx (results21) rfl ?_;rw [Un (Zin hx hy oM)])
 · first|exact bN hb24|(
 refine Zf ?_;(refine xL 25 ZO (xL 13 Za ?_);refine Ze ?_)
 refine Zk (
  ⟨k+1,Zg hx,fun j x' y' hj hx' hy'=>by
   by_cases e:j=k
   · subst e;rw [hx] at hx';rw [hy] at hy';cases hx';cases hy';omega
   · exact hp j x' y' oM hx' hy'⟩
  ) (by dsimp only;omega) ⟨rfl,rfl,rfl,rfl,trivial⟩ trivial))
 · first|exact bN hb14|(
 refine Zf ?_;(refine xL 4 Zb ?_;refine Ze ?_)
 refine Zx (results21) rfl ?_;rw [Um (Zhn oM fun j x y hx hy=>hp j x y (by have:=Zg hx;omega) hx hy)]))
theorem Ra {α:Type} {n:Nat} {f:Nat→Nat→Option α} (h:∀i k,i<n→k<n→f i k=none):RX n f=none:=Jm fun i hi=>Jm fun k hk=>h i k hi hk
theorem Rb {α:Type} {n i k:Nat} {f:Nat→Nat→Option α} {a:α} (hi:i<n) (hk:k<n) (h:f i k=some a) (h1:∀i' j,i'<i→j<n→f i' j=none) (h2:∀j,j<k→f i j=none):RX n f=some a:=J0 hi (J0 hk h h2) fun i' hi'=>Jm fun j hj=>h1 i' j hi' hj
theorem ZdK {l:List It} {i k:Nat} {x y:It} (hx:l[i]? =some x) (hy:l[k]? =some y):rlC l i k=if i<k∧x.ins=y.ins∧x.outs=y.outs then some ⟨i,x.ins,x.outs,WB 4 [x.t,y.t],[k]⟩ else none:=by unfold rlC;rw [hx,hy]
theorem Zho {l:List It} {i k:Nat} (h:k≤i):rlC l i k=none:=by
 unfold rlC
 split
 · rw [Uo oM]
 · rfl
theorem Zan {α:Type} {l:List α} (h:l.length=1):∃x,l=[x]:=by
 match l,h with
 |[x],_=>exact ⟨x,rfl⟩
theorem Ht {n:Nt} {l:List It} {p:Nat} (h:(YU l p true).length≠1∨(YU l p false).length≠1):rlS n l p=none:=by
 unfold rlS
 split
 · rename_i i k h1 h2;rw [h1,h2] at h;simp at h
 · rfl
theorem Zhp {n:Nt} {l:List It} {p i k:Nat} {x y:It} (h1:YU l p true=[i]) (h2:YU l p false=[k]) (hx:l[i]? =some x) (hy:l[k]? =some y):rlS n l p=if (p:Int)≠n.src∧(p:Int)≠n.snk∧i≠k∧x.outs=[(p:Int)]∧y.ins=[(p:Int)] then some ⟨i,x.ins,y.outs,WB 3 [x.t,y.t],[k]⟩ else none:=by
 unfold rlS
 rw [h1,h2];dsimp only;rw [hx,hy]
theorem Hu {n:Nt} {l:List It} {p:Nat} (h:(p:Int)=n.src∨(p:Int)=n.snk):rlS n l p=none:=by
 unfold rlS
 split
 · split
   · rw [Uo (fun hh=>h.elim hh.1 hh.2.1)]
   · rfl
 · rfl
theorem Zhq {l:List It} {i k:Nat} {x y:It} {a b:Int} (hx:l[i]? =some x) (hy:l[k]? =some y) (ha:x.ins=[a]) (hb:x.outs=[b]):rlL l i k=if a≠b∧(YU l a false).length=1∧(YU l b true).length=1∧y.ins=[b]∧y.outs=[a] then some ⟨i,x.ins,x.outs,WB 6 [x.t,y.t],[k]⟩ else none:=by
 unfold rlL
 rw [hx,hy];dsimp only;rw [ha,hb]
theorem Hv {l:List It} {i k:Nat} {x:It} (hx:l[i]? =some x) (h:x.ins.length≠1∨x.outs.length≠1):rlL l i k=none:=by
 unfold rlL
 rw [hx]
 split
 · rename_i x' y e1 e2
   cases e1;split
   · rename_i a b h1 h2;rw [h1,h2] at h;simp at h
   · rfl
 · rfl
theorem Oe {l:List It} {p:Int} {out:Bool} {i:Nat} (h:i∈YU l p out):i<l.length:=by
 unfold YU at h
 exact Vf.1 (Vj.1 h).1
theorem Kh:ElT prog 22 24 3 48 (.agg #[(.int .i64 0),(.string ByteArray.empty),(.slice none 0 0)]):=⟨underlying22,by kernel_rfl,rfl,dC⟩
theorem Wu:FldT prog 85 2 2=true:=by kernel_rfl
theorem Of {op:Int} {l:List Nd} (h0:0≤op) (h1:op≤100) (hl:l.length≤100000) (h:∀x∈l,FitT x):FitT (WB op l):= .mk _ (by show l.length≤_;omega) (by show (0:Nat)≤_;omega) (by show _≤op;omega) (by show op≤_;omega) h
theorem Ti {op:Int} {x y:Nd} (h0:0≤op) (h1:op≤100) (hx:FitT x) (hy:FitT y):FitT (WB op [x,y]):=Of h0 h1 (by show 2≤_;omega) fun z hz=>by
 rcases Xn.1 hz with rfl|hz
 · exact hx
 · rw [Xr.1 hz];exact hy
theorem ZbS (b : Nat) (v:Value) (n:Nt) (l:List It) (hv:v.oneCell'=true) (hl:l.length≤1000) (hf:ItF l):AFh False prog 43 [(0,ZX b, .val (ZX b))] (PrH b v n l false) (RuR b n l (RX l.length (rlC l))):=by
 have hone:En.one (PV.val v)=true:=hv
 unfold PrH
 refine AFh.of_body 63 func43 rfl ntmps43 (Xa rfl) rfl ?_
 intro w0 M0 N0
 refine Zf ?_
 (refine xL 2 Zb ?_;refine Zn ?_)
 (refine xL 7 Za (xL 8 (ZC 1000) (xL 9 (Zd 1000 Yc) ?_));refine yL 10 (Zi 1000 YA) fun v10 hv10=>?_;cases hv10;refine xL 11 (YV 1001 Yl) (xL 12 Za ?_);refine Ze ?_)
 refine ZE (ι:={k:Nat//k≤l.length∧∀i j,i<k→j<l.length→rlC l i j=none}) (fun k=>⟨[(0,_,_),(10,_,_),(11,_,_),(12, .int .i64 k.1,Zc k.1)],[(1000,_,_),(1001,_,_)]⟩) (fun k=>l.length-k.1) ⟨0,oM,oM⟩ (fun a w H=>H.weaken ⟨rfl,rfl,rfl,rfl,trivial⟩ ⟨rfl,rfl,trivial⟩) ?_
 rintro ⟨k,hk,hp⟩
 dsimp only
 refine Zf ?_
 (refine xL 13 ZR ?_;refine Ze ?_)
 refine cX ?_ ?_<;>intro hb13
 · first | exact bN hb13|(
 obtain ⟨x,hx⟩:=Zw (show k<l.length by omega);have e1:=Z' YF l k x hx;have e2:=Yp YF hx;refine Zf ?_;(refine xL 14 Za (xL 15 (Zt 1001 Yl) ?_);refine yL 16 (Zq 1001 Z4) fun v16 hv16=>?_;cases hv16;refine ZA [(.slice none 0 0),(.slice none 0 0),(.int .i64 0),(.string ByteArray.empty),(.slice none 0 0)] 5 4 Y1 fun h4=>?_;refine xL 3 Zb ?_;refine Zv 4 Z4 ?_;refine Zn ?_)
 (refine xL 17 Za (xL 18 ZO (xL 5 Zb ?_));refine Ze ?_)
 refine ZE (ι:={q:Nat//k+1≤q∧q≤l.length∧∀j,j<q→rlC l k j=none}) (fun k=>⟨[(0,_,_),(3,_,_),(4,_,_),(10,_,_),(11,_,_),(12,_,_),(5, .int .i64 k.1,Zc k.1)],[(4,_,_),(1000,_,_),(1001,_,_)]⟩) (fun k=>l.length-k.1) ⟨k+1,oM,Zg hx,fun j hj=>Zho oM⟩ (fun a w H=>H.weaken ⟨rfl,rfl,rfl,rfl,rfl,rfl,rfl,trivial⟩ ⟨rfl,rfl,rfl,trivial⟩) ?_;rintro ⟨q,hq1,hq2,hq⟩;dsimp only;refine Zf ?_;(refine xL 19 Za (xL 20 Za (xL 21 (ZC 1000) (xL 22 (Zd 1000 Yc) ?_)));refine yL 23 (Zi 1000 YA) fun v23 hv23=>?_;cases hv23;refine xL 24 (YV 1001 Yl) (xL 25 ZR ?_);refine Ze ?_)
 refine cX ?_ ?_<;>intro hb25
 · first | exact bN hb25|(
 obtain ⟨y,hy⟩:=Zw (show q<l.length by omega);have e3:=Z' YF l q y hy;have e4:=Yp YF hy;have hlt:=Zg hx;have hft:FitT (WB 4 [x.t,y.t]):=Ti dC dC (hf x (Xd hx)) (hf y (Xd hy));refine Zf ?_;(refine xL 28 Za (xL 29 (ZC 1000) (xL 30 (Zd 1000 Yc) ?_));refine yL 31 (Zi 1000 YA) fun v31 hv31=>?_;cases hv31;refine xL 32 Za (xL 33 (Zt 1001 Yl) ?_);refine yL 34 (Zq 1001 Z4) fun v34 hv34=>?_;cases hv34;refine ZA [(.slice none 0 0),(.slice none 0 0),(.int .i64 0),(.string ByteArray.empty),(.slice none 0 0)] 5 6 Y1 fun h6=>?_;refine Zv 6 Z4 ?_;refine Zn ?_)
 (refine xL 35 (Zd 4 YQ) ?_<;>(refine yL 36 (Zi 4 Zy) fun v36 h=>?_;cases h)<;>refine xL 37 (Zd 6 YQ) ?_<;>(refine yL 38 (Zi 6 Zy) fun v38 h=>?_;cases h)<;>(refine cS 39 (cA call21 (KX x.ins y.ins)) fun v39 h=>?_;cases h)<;>refine xL 40 Za ?_<;>(refine bLd 40 (fun hb40=>?_) (fun hb40=>?_)<;>(first|refine kL 41 ?_|refine xL 41 (Zd 4 Yx) ?_))<;>(first|refine kL 42 ?_|(refine yL 42 (Zi 4 Zy) fun v42 h=>?_;cases h))<;>(first|refine kL 43 ?_|refine xL 43 (Zd 6 Yx) ?_)<;>(first|refine kL 44 ?_|(refine yL 44 (Zi 6 Zy) fun v44 h=>?_;cases h))<;>(first|refine kL 45 ?_|(refine cS 45 (cA call21 (KX x.outs y.outs)) fun v45 h=>?_;cases h))<;>refine xL 46 Zu ?_<;>refine Ze ?_)<;>(
 refine cX ?_ ?_<;>intro hb46
 · first|exact bN hb46|(
 refine nav ?_;(refine ZS (fun i=>([14,15]:List Nat).elem i) [4,6] kR ?_<;>refine xDT 0 47 rfl Za ?_<;>refine xDT 1 48 rfl Za ?_<;>refine xDT 2 49 rfl (Zd 4 YQ) ?_<;>(refine yDT 3 50 rfl (Zi 4 Zy) fun v50 h=>?_;cases h)<;>refine xDT 4 51 rfl (Zd 4 Yx) ?_<;>(refine yDT 5 52 rfl (Zi 4 Zy) fun v52 h=>?_;cases h)<;>refine xDT 6 53 rfl (Zd 4 Wu) ?_<;>(refine yDT 7 54 rfl (Zq 4 ZH) fun v54 h=>?_;cases h)<;>refine xDT 8 55 rfl (Zd 6 Wu) ?_<;>(refine yDT 9 56 rfl (Zq 6 ZH) fun v56 h=>?_;cases h)<;>refine xDT 12 59 rfl Za ?_<;>(refine YD 10 13 kR ?_ ?_;rotate_right;(focus ((refine Zj rfl fun w9 M9 N9 DQ back=>?_)<;>(refine Ye (kk:=1) 60 ZB fun h60 ho60=>?_;refine Zp (En.freeze (l:=60) (t:=60) rfl rfl) fun _=>?_;refine Zp (Yk (t:=60) (p':=pInts (zs [q])) rfl rfl) fun _=>?_)<;>refine Zh (back _ (nrm ?_))<;>(refine Zl 10 kR ?_)<;>(refine Zj rfl fun w9 M9 N9 DQ back=>?_)<;>(refine Jh (kk:=3) (xs:=[_,_]) (cs:=[[_,_,_],[_,_,_]]) 57 Kh fun h57 ho57=>?_;refine Zp (En.freeze (l:=57) (t:=57) rfl rfl) fun _=>?_;refine Zp (Yk (t:=57) (p':=YK [x.t,y.t]) rfl (Ju x.t y.t)) fun _=>?_)<;>refine Zh (back _ (nrm ?_))<;>(refine Zl 11 kR ?_)<;>(refine Zj rfl fun w9 M9 N9 DQ back=>?_)<;>(refine cD 58 (cA call90 (KP 4 [x.t,y.t])) fun v58 hv58=>?_;clear hv58)<;>refine Zh (back _ (nrm ?_))));rotate_right;(focus ((refine Zj rfl fun w9 M9 N9 DQ back=>?_)<;>(refine Jh (kk:=3) (xs:=[_,_]) (cs:=[[_,_,_],[_,_,_]]) 57 Kh fun h57 ho57=>?_;refine Zp (En.freeze (l:=57) (t:=57) rfl rfl) fun _=>?_;refine Zp (Yk (t:=57) (p':=YK [x.t,y.t]) rfl (Ju x.t y.t)) fun _=>?_)<;>refine Zh (back _ (nrm ?_))<;>(refine YD 11 13 kR ?_ ?_;rotate_right;(focus ((refine Zj rfl fun w9 M9 N9 DQ back=>?_)<;>(refine Ye (kk:=1) 60 ZB fun h60 ho60=>?_;refine Zp (En.freeze (l:=60) (t:=60) rfl rfl) fun _=>?_;refine Zp (Yk (t:=60) (p':=pInts (zs [q])) rfl rfl) fun _=>?_)<;>refine Zh (back _ (nrm ?_))<;>(refine Zl 11 kR ?_)<;>(refine Zj rfl fun w9 M9 N9 DQ back=>?_)<;>(refine cD 58 (cA call90 (KP 4 [x.t,y.t])) fun v58 hv58=>?_;clear hv58)<;>refine Zh (back _ (nrm ?_))));rotate_right;(focus ((refine Zj rfl fun w9 M9 N9 DQ back=>?_)<;>(refine cD 58 (cA call90 (KP 4 [x.t,y.t])) fun v58 hv58=>?_;clear hv58)<;>refine Zh (back _ (nrm ?_))<;>(refine Zl 13 kR ?_)<;>(refine Zj rfl fun w9 M9 N9 DQ back=>?_)<;>(refine Ye (kk:=1) 60 ZB fun h60 ho60=>?_;refine Zp (En.freeze (l:=60) (t:=60) rfl rfl) fun _=>?_;refine Zp (Yk (t:=60) (p':=pInts (zs [q])) rfl rfl) fun _=>?_)<;>refine Zh (back _ (nrm ?_))))))))<;>(refine Zl 14 kR ?_)<;>(refine K6 rfl rfl fun DQ back=>?_)<;>(refine ZL [(1000,_,_),(1001,_,_),(4,_,_),(6,_,_)] ⟨rfl,rfl,rfl,rfl,trivial⟩ ?_;refine ZT [4,6] 61 (call89) (Pl b v n l ⟨k,x.ins,x.outs,WB 4 [x.t,y.t],[q]⟩ hv hl hlt hft _ _ _ _) (fun v61 p61 h61 hR61=>?_);obtain ⟨v',hv',rfl,rfl,rfl⟩:=hR61;dsimp only [PrH])<;>refine Zh (back _ ?_)<;>(refine KO 15 kR rfl rfl fun DQ back=>?_)<;>refine xL 2 Zb ?_<;>refine Zh (back _ ?_)<;>refine JM kR (nav ?_)<;>try dsimp only)<;>(
 refine WQ (PrH b v' n (ruX l (some ⟨k,x.ins,x.outs,WB 4 [x.t,y.t],[q]⟩)).2.1 (ruX l (some ⟨k,x.ins,x.outs,WB 4 [x.t,y.t],[q]⟩)).2.2) (results43) rfl ⟨rfl,rfl,trivial⟩ ?_;rw [Rb hlt (Zg hy) (by rw [ZdK hx hy,Up ⟨oM,hb40,hb46⟩]) hp hq];exact ⟨v',hv',rfl,rfl,rfl⟩))
 · first |exact bN hb46|(
 refine Zf ?_;(refine xL 26 Za (xL 27 ZO (xL 5 Zb ?_));refine Ze ?_)
 refine Zk (
  ⟨q + 1,oM,Zg hy,fun j hj=>by
   by_cases e:j=q
   · subst e;rw [ZdK hx hy,Uo]
     first
      |exact fun h=>hb40 h.2.1
      |exact fun h=>hb46 h.2.2
   · exact hq j oM⟩
  ) (by dsimp only;omega) ⟨rfl,rfl,rfl,rfl,rfl,rfl,rfl,trivial⟩ ⟨rfl,rfl,rfl,trivial⟩)))
 · first|exact bN hb25|(
 refine Zf ?_;(refine xL 62 ZO (xL 12 Za ?_);refine Ze ?_)
 refine Zk (
  ⟨k+1,Zg hx,fun i j hi hj=>by
   by_cases e:i=k
   · subst e;exact hq j oM
   · exact hp i j oM hj⟩
  ) (by dsimp only;omega) ⟨rfl,rfl,rfl,rfl,trivial⟩ ⟨rfl,rfl,trivial⟩))
 · first|exact bN hb13|(
 refine Zf ?_;(refine xL 2 Zb ?_;refine Ze ?_)
 refine WQ (PrH b v n l false) (results43) rfl ⟨rfl,rfl,trivial⟩ ?_;rw [Ra fun i j hi hj=>hp i j oM hj];exact ⟨v,hv,rfl,rfl,rfl⟩)
theorem LN:FldT prog 83 0 0=true:=by kernel_rfl
theorem ζh (l:List Nat):∃i,l.length=1→l=[i]:=by
 match l with
 |[]=>exact ⟨0,fun h=>by cases h⟩
 |[i]=>exact ⟨i,fun _=>rfl⟩
 |_::_::_=>exact ⟨0,fun h=>by simp at h⟩
theorem Og {l:List Nat} {i:Nat} (h:l=[i]):((zs l).map Zc)[0*1]? =some (Zc (i:Int)):=by subst h;rfl
theorem Oh {n:Nt} {l:List It} {p i:Nat} (h1:YU l p true=[i]) (h2:YU l p false=[i]):rlS n l p=none:=by
 unfold rlS
 rw [h1,h2];dsimp only
 split
 · rw [Uo fun h=>h.2.2.1 rfl]
 · rfl
set_option maxHeartbeats 2000000 in
theorem EZ (b : Nat) (v:Value) (n:Nt) (l:List It) (hv:v.oneCell'=true) (hl:l.length≤1000) (hf:ItF l) (hn0:0≤n.pl) (hn1:n.pl≤1000):AFh False prog 44 [(0,ZX b, .val (ZX b))] (PrH b v n l false) (RuR b n l (LM n.pl.toNat (rlS n l))):=by
 have hone:En.one (PV.val v)=true:=hv
 unfold PrH
 refine AFh.of_body 103 func44 rfl ntmps44 (Xa rfl) rfl ?_
 intro w0 M0 N0
 refine Zf ?_
 (refine xL 2 Zb ?_;refine Zn ?_)
 (refine xL 8 Za (xL 9 (ZC 1000) (xL 10 (Zd 1000 LN) (xL 11 (Zd 1000 Z2) ?_)));refine yL 12 (Zi 1000 Zo) fun v12 hv12=>?_;cases hv12;refine xL 13 Za ?_;refine Ze ?_)
 refine ZE (ι:={k:Nat//k≤n.pl.toNat∧∀p,p<k→rlS n l p=none}) (fun k=>⟨[(0,_,_),(12,_,_),(13, .int .i64 k.1,Zc k.1)],[(1000,_,_),(1001,_,_)]⟩) (fun k=>n.pl.toNat-k.1) ⟨0,oM,oM⟩ (fun a w H=>H.weaken ⟨rfl,rfl,rfl,trivial⟩ ⟨rfl,rfl,trivial⟩) ?_
 rintro ⟨k,hk,hp⟩
 dsimp only
 refine Zf ?_
 (refine xL 14 ZR ?_;refine Ze ?_)
 refine cX ?_ ?_<;>intro hb14
 · first | exact bN hb14|(
 refine Zf ?_;(refine xL 15 Za (xL 3 Zb ?_);refine Ze ?_)
 obtain ⟨W1,hW1⟩:∃W,W=YU l (k:Int) true:=⟨_,rfl⟩;obtain ⟨W2,hW2⟩:∃W,W=YU l (k:Int) false:=⟨_,rfl⟩;have hz1:=Gv W1;have hz2:=Gv W2;obtain ⟨i0,hi0⟩:=ζh W1;obtain ⟨k0,hk0⟩:=ζh W2;(refine Zm ?_ <;> refine xL 16 Za (xL 17 Za (xL 18 (ZC 1000) (xL 19 (Zd 1000 LN) (xL 20 (Zd 1000 YP) ?_))))<;>(refine yL 21 (Zi 1000 Zo) fun v21 h=>?_;cases h)<;>refine xL 22 ZQ (xL 23 Za ?_)<;>(refine bLd 23 (fun hb23=>?_) (fun hb23=>?_)<;>(first|refine kL 24 ?_|refine xL 24 Za ?_))<;>(first|refine kL 25 ?_|refine xL 25 Za ?_)<;>(first|refine kL 26 ?_|refine xL 26 (ZC 1000) ?_)<;>(first|refine kL 27 ?_|refine xL 27 (Zd 1000 LN) ?_)<;>(first|refine kL 28 ?_|refine xL 28 (Zd 1000 YW) ?_)<;>(first|refine kL 29 ?_|(refine yL 29 (Zi 1000 Zo) fun v29 h=>?_;cases h))<;>(first|refine kL 30 ?_|refine xL 30 ZQ ?_)<;>refine xL 31 Zu ?_<;>refine Ze ?_)<;>(
 refine cX ?_ ?_<;>intro hb31
 · first |exact bN hb31|(
 refine Zf ?_;(refine xL 102 ZO (xL 13 Za ?_);refine Ze ?_)
 refine Zk (
  ⟨k + 1,oM,fun p hp'=>by
   by_cases e:p=k
   · subst e
     first
      |exact Hu oM
      |(rw [hr,Uo fun h=>by first|exact hb77 h.2.2.2.1|exact hb82 h.2.2.2.2])
      |exact Ht (by rw [←hW1,←hW2];omega)
      |(have hw1:=hi0 oM;have hw2:=hk0 oM;exact Oh (hW1.symm.trans hw1) (by rw [←hW2,hw2,show k0=i0 by omega]))
   · exact hp p oM⟩
  ) (by dsimp only;omega) ⟨rfl,rfl,rfl,trivial⟩ ⟨rfl,rfl,trivial⟩)
 · first | exact bN hb31|(
 refine Zf ?_;(refine xL 32 Za (xL 33 Za ?_);(refine ZL [(1000,_,_),(1001,_,_)] ⟨rfl,rfl,trivial⟩ ?_;refine ZT [] 34 (call91) (Gr b v n l false k true hv hl) (fun v34 p34 h34 hR34=>?_);obtain ⟨rfl,rfl⟩:=hR34;dsimp only [PrH];rw [←hW1]);refine xL 35 Za (xL 36 Za ?_);(refine ZL [(1000,_,_),(1001,_,_)] ⟨rfl,rfl,trivial⟩ ?_;refine ZT [] 37 (call91) (Gr b v n l false k false hv hl) (fun v37 p37 h37 hR37=>?_);obtain ⟨rfl,rfl⟩:=hR37;dsimp only [PrH];rw [←hW2]);refine xL 4 Zb (xL 5 Zb ?_);refine Ze ?_)
 (refine ZS (fun i=>([]:List Nat).elem i) [] kR ?_<;>refine xE 0 38 rfl Za ?_<;>refine xE 1 39 rfl (Z1 Zs) ?_<;>refine xE 2 40 rfl YN ?_<;>refine xE 3 41 rfl Za ?_<;>(refine bDd 41 (fun hb41=>?_) (fun hb41=>?_)<;>(first|refine kD 4 42 rfl ?_|refine xD 4 42 rfl Za ?_))<;>(first|refine kD 5 43 rfl ?_|refine xD 5 43 rfl (Z1 Zs) ?_)<;>(first|refine kD 6 44 rfl ?_|refine xD 6 44 rfl YN ?_)<;>refine xE 7 45 rfl Zu ?_<;>refine xE 8 46 rfl Za ?_<;>(first|refine kD 9 47 rfl ?_|(refine bDd 46 (fun hb46=>?_) (fun hb46=>?_)<;>(first|refine kD 9 47 rfl ?_|refine xD 9 47 rfl Za ?_)))<;>(first|refine kD 10 48 rfl ?_|(have e1:=Og (hi0 oM);refine xD 10 48 rfl (ZP Zs) ?_))<;>(first|refine kD 11 49 rfl ?_|(refine yD 11 49 rfl (Yy Zo) fun v49 h=>?_;cases h))<;>(first|refine kD 12 50 rfl ?_|refine xD 12 50 rfl Za ?_)<;>(first|refine kD 13 51 rfl ?_|(have e2:=Og (hk0 oM);refine xD 13 51 rfl (ZP Zs) ?_))<;>(first|refine kD 14 52 rfl ?_|(refine yD 14 52 rfl (Yy Zo) fun v52 h=>?_;cases h))<;>(first|refine kD 15 53 rfl ?_|refine xD 15 53 rfl ZQ ?_)<;>refine xE 16 54 rfl Zu ?_<;>refine Yu kR (nav ?_)<;>try dsimp only)<;>(
 refine cX ?_ ?_<;>intro hb54
 · first |exact bN hb54|(
 refine Zf ?_;(refine xL 102 ZO (xL 13 Za ?_);refine Ze ?_)
 refine Zk (
  ⟨k + 1,oM,fun p hp'=>by
   by_cases e:p=k
   · subst e
     first
      |exact Hu oM
      |(rw [hr,Uo fun h=>by first|exact hb77 h.2.2.2.1|exact hb82 h.2.2.2.2])
      |exact Ht (by rw [←hW1,←hW2];omega)
      |(have hw1:=hi0 oM;have hw2:=hk0 oM;exact Oh (hW1.symm.trans hw1) (by rw [←hW2,hw2,show k0=i0 by omega]))
   · exact hp p oM⟩
  ) (by dsimp only;omega) ⟨rfl,rfl,rfl,trivial⟩ ⟨rfl,rfl,trivial⟩)
 · first | exact bN hb54|(
 refine nav ?_;have hw1:=hi0 oM;have hw2:=hk0 oM;obtain ⟨x,hx⟩:=Zw (show i0<l.length from Oe (p:=k) (out:=true) (by rw [←hW1,hw1];exact Xr.2 rfl));obtain ⟨y,hy⟩:=Zw (show k0<l.length from Oe (p:=k) (out:=false) (by rw [←hW2,hw2];exact Xr.2 rfl));have e1:=Z' YF l i0 x hx;have e2:=Yp YF hx;have e3:=Z' YF l k0 y hy;have e4:=Yp YF hy;have g1:=Og hw1;have g2:=Og hw2;have hlt:=Zg hx;have hlt2:=Zg hy;have hft:FitT (WB 3 [x.t,y.t]):=Ti dC dC (hf x (Xd hx)) (hf y (Xd hy));have hr:=Zhp (n:=n) (hW1.symm.trans hw1) (hW2.symm.trans hw2) hx hy;(refine ZS (fun i=>([21]:List Nat).elem i) [1000,1001] kR ?_<;>refine xD 0 55 rfl Za ?_<;>refine xD 1 56 rfl (ZC 1000) ?_<;>refine xD 2 57 rfl (Zd 1000 Yc) ?_<;>(refine yD 3 58 rfl (Zi 1000 YA) fun v58 h=>?_;cases h)<;>refine xD 4 59 rfl Za ?_<;>refine xD 5 60 rfl (ZP Zs) ?_<;>(refine yD 6 61 rfl (Yy Zo) fun v61 h=>?_;cases h)<;>refine xD 7 62 rfl (Zt 1001 Yl) ?_<;>(refine yD 8 63 rfl (Zq 1001 Z4) fun v63 h=>?_;cases h)<;>refine xD 9 64 rfl Za ?_<;>refine xD 10 65 rfl (ZC 1000) ?_<;>refine xD 11 66 rfl (Zd 1000 Yc) ?_<;>(refine yD 12 67 rfl (Zi 1000 YA) fun v67 h=>?_;cases h)<;>refine xD 13 68 rfl Za ?_<;>refine xD 14 69 rfl (ZP Zs) ?_<;>(refine yD 15 70 rfl (Yy Zo) fun v70 h=>?_;cases h)<;>refine xD 16 71 rfl (Zt 1001 Yl) ?_<;>(refine yD 17 72 rfl (Zq 1001 Z4) fun v72 h=>?_;cases h)<;>(refine YD 18 19 kR ?_ ?_;rotate_right;(focus ((refine Zj rfl fun w9 M9 N9 DQ back=>?_)<;>refine ZA [(.slice none 0 0),(.slice none 0 0),(.int .i64 0),(.string ByteArray.empty),(.slice none 0 0)] 5 7 Y1 fun h7=>?_<;>refine Zh (back _ (nrm ?_))<;>(refine Zl 18 kR ?_)<;>(refine Zj rfl fun w9 M9 N9 DQ back=>?_)<;>refine ZA [(.slice none 0 0),(.slice none 0 0),(.int .i64 0),(.string ByteArray.empty),(.slice none 0 0)] 5 6 Y1 fun h6=>?_<;>refine Zh (back _ (nrm ?_))<;>(refine Zl 20 kR ?_)<;>(refine Zj rfl fun w9 M9 N9 DQ back=>?_)<;>refine Zv 6 Z4 ?_<;>refine Zh (back _ (nrm ?_))));rotate_right;(focus ((refine Zj rfl fun w9 M9 N9 DQ back=>?_)<;>refine ZA [(.slice none 0 0),(.slice none 0 0),(.int .i64 0),(.string ByteArray.empty),(.slice none 0 0)] 5 6 Y1 fun h6=>?_<;>refine Zh (back _ (nrm ?_))<;>(refine Zl 19 kR ?_)<;>(refine Zj rfl fun w9 M9 N9 DQ back=>?_)<;>refine ZA [(.slice none 0 0),(.slice none 0 0),(.int .i64 0),(.string ByteArray.empty),(.slice none 0 0)] 5 7 Y1 fun h7=>?_<;>refine Zh (back _ (nrm ?_))<;>(refine Zl 20 kR ?_)<;>(refine Zj rfl fun w9 M9 N9 DQ back=>?_)<;>refine Zv 6 Z4 ?_<;>refine Zh (back _ (nrm ?_)))))<;>(refine Zl 21 kR ?_)<;>(refine WX rfl rfl kR fun DQ back=>?_)<;>refine Zv 7 Z4 ?_<;>refine Zh (back _ (nav ?_))<;>try dsimp only)<;>(
 (refine Zm ?_<;>refine xL 73 (Zd 6 Yx) ?_<;>(refine yL 74 (Zi 6 Zy) fun v74 h=>?_;cases h)<;>refine xL 75 Za ?_<;>(refine cS 76 (cA call47 (Jo x.outs k)) fun v76 h=>?_;cases h)<;>refine xL 77 Za ?_<;>(refine bLd 77 (fun hb77=>?_) (fun hb77=>?_)<;>(first|refine kL 78 ?_|refine xL 78 (Zd 7 YQ) ?_))<;>(first|refine kL 79 ?_|(refine yL 79 (Zi 7 Zy) fun v79 h=>?_;cases h))<;>(first|refine kL 80 ?_|refine xL 80 Za ?_)<;>(first|refine kL 81 ?_|(refine cS 81 (cA call47 (Jo y.ins k)) fun v81 h=>?_;cases h))<;>refine xL 82 Zu ?_<;>refine Ze ?_)<;>(
 refine cX ?_ ?_<;>intro hb82
 · first|exact bN hb82|(
 refine nav ?_;(refine ZS (fun i=>([18,19]:List Nat).elem i) [6,7] kR ?_<;>refine xDT 0 83 rfl Za ?_<;>refine xDT 1 84 rfl Za ?_<;>refine xDT 2 85 rfl (ZP Zs) ?_<;>(refine yDT 3 86 rfl (Yy Zo) fun v86 h=>?_;cases h)<;>refine xDT 4 87 rfl (Zd 6 YQ) ?_<;>(refine yDT 5 88 rfl (Zi 6 Zy) fun v88 h=>?_;cases h)<;>refine xDT 6 89 rfl (Zd 7 Yx) ?_<;>(refine yDT 7 90 rfl (Zi 7 Zy) fun v90 h=>?_;cases h)<;>refine xDT 8 91 rfl (Zd 6 Wu) ?_<;>(refine yDT 9 92 rfl (Zq 6 ZH) fun v92 h=>?_;cases h)<;>refine xDT 10 93 rfl (Zd 7 Wu) ?_<;>(refine yDT 11 94 rfl (Zq 7 ZH) fun v94 h=>?_;cases h)<;>refine xDT 14 97 rfl Za ?_<;>refine xDT 15 98 rfl (ZP Zs) ?_<;>(refine yDT 16 99 rfl (Yy Zo) fun v99 h=>?_;cases h)<;>(refine YD 12 17 kR ?_ ?_;rotate_right;(focus ((refine Zj rfl fun w9 M9 N9 DQ back=>?_)<;>(refine Ye (kk:=1) 100 ZB fun h100 ho100=>?_;refine Zp (En.freeze (l:=100) (t:=100) rfl rfl) fun _=>?_;refine Zp (Yk (t:=100) (p':=pInts (zs [k0])) rfl rfl) fun _=>?_)<;>refine Zh (back _ (nrm ?_))<;>(refine Zl 12 kR ?_)<;>(refine Zj rfl fun w9 M9 N9 DQ back=>?_)<;>(refine Jh (kk:=3) (xs:=[_,_]) (cs:=[[_,_,_],[_,_,_]]) 95 Kh fun h95 ho95=>?_;refine Zp (En.freeze (l:=95) (t:=95) rfl rfl) fun _=>?_;refine Zp (Yk (t:=95) (p':=YK [x.t,y.t]) rfl (Ju x.t y.t)) fun _=>?_)<;>refine Zh (back _ (nrm ?_))<;>(refine Zl 13 kR ?_)<;>(refine Zj rfl fun w9 M9 N9 DQ back=>?_)<;>(refine cD 96 (cA call90 (KP 3 [x.t,y.t])) fun v96 hv96=>?_;clear hv96)<;>refine Zh (back _ (nrm ?_))));rotate_right;(focus ((refine Zj rfl fun w9 M9 N9 DQ back=>?_)<;>(refine Jh (kk:=3) (xs:=[_,_]) (cs:=[[_,_,_],[_,_,_]]) 95 Kh fun h95 ho95=>?_;refine Zp (En.freeze (l:=95) (t:=95) rfl rfl) fun _=>?_;refine Zp (Yk (t:=95) (p':=YK [x.t,y.t]) rfl (Ju x.t y.t)) fun _=>?_)<;>refine Zh (back _ (nrm ?_))<;>(refine YD 13 17 kR ?_ ?_;rotate_right;(focus ((refine Zj rfl fun w9 M9 N9 DQ back=>?_)<;>(refine Ye (kk:=1) 100 ZB fun h100 ho100=>?_;refine Zp (En.freeze (l:=100) (t:=100) rfl rfl) fun _=>?_;refine Zp (Yk (t:=100) (p':=pInts (zs [k0])) rfl rfl) fun _=>?_)<;>refine Zh (back _ (nrm ?_))<;>(refine Zl 13 kR ?_)<;>(refine Zj rfl fun w9 M9 N9 DQ back=>?_)<;>(refine cD 96 (cA call90 (KP 3 [x.t,y.t])) fun v96 hv96=>?_;clear hv96)<;>refine Zh (back _ (nrm ?_))));rotate_right;(focus ((refine Zj rfl fun w9 M9 N9 DQ back=>?_)<;>(refine cD 96 (cA call90 (KP 3 [x.t,y.t])) fun v96 hv96=>?_;clear hv96)<;>refine Zh (back _ (nrm ?_))<;>(refine Zl 17 kR ?_)<;>(refine Zj rfl fun w9 M9 N9 DQ back=>?_)<;>(refine Ye (kk:=1) 100 ZB fun h100 ho100=>?_;refine Zp (En.freeze (l:=100) (t:=100) rfl rfl) fun _=>?_;refine Zp (Yk (t:=100) (p':=pInts (zs [k0])) rfl rfl) fun _=>?_)<;>refine Zh (back _ (nrm ?_))))))))<;>(refine Zl 18 kR ?_)<;>(refine K6 rfl rfl fun DQ back=>?_)<;>(refine ZL [(1000,_,_),(1001,_,_),(6,_,_),(7,_,_)] ⟨rfl,rfl,rfl,rfl,trivial⟩ ?_;refine ZT [6,7] 101 (call89) (Pl b v n l ⟨i0,x.ins,y.outs,WB 3 [x.t,y.t],[k0]⟩ hv hl hlt hft _ _ _ _) (fun v101 p101 h101 hR101=>?_);obtain ⟨v',hv',rfl,rfl,rfl⟩:=hR101;dsimp only [PrH])<;>refine Zh (back _ ?_)<;>(refine KO 19 kR rfl rfl fun DQ back=>?_)<;>refine xL 2 Zb ?_<;>refine Zh (back _ ?_)<;>refine JM kR (nav ?_)<;>try dsimp only)<;>(
 refine WQ (PrH b v' n (ruX l (some ⟨i0,x.ins,y.outs,WB 3 [x.t,y.t],[k0]⟩)).2.1 (ruX l (some ⟨i0,x.ins,y.outs,WB 3 [x.t,y.t],[k0]⟩)).2.2) (results44) rfl ⟨rfl,rfl,trivial⟩ ?_;rw [J0 (show k<n.pl.toNat by omega) (by rw [hr,Up ⟨oM,oM,oM,by assumption,by assumption⟩]) hp];exact ⟨v',hv',rfl,rfl,rfl⟩))
 · first |exact bN hb82|(
 refine Zf ?_;(refine xL 102 ZO (xL 13 Za ?_);refine Ze ?_)
 refine Zk (
  ⟨k + 1,oM,fun p hp'=>by
   by_cases e:p=k
   · subst e
     first
      |exact Hu oM
      |(rw [hr,Uo fun h=>by first|exact hb77 h.2.2.2.1|exact hb82 h.2.2.2.2])
      |exact Ht (by rw [←hW1,←hW2];omega)
      |(have hw1:=hi0 oM;have hw2:=hk0 oM;exact Oh (hW1.symm.trans hw1) (by rw [←hW2,hw2,show k0=i0 by omega]))
   · exact hp p oM⟩
  ) (by dsimp only;omega) ⟨rfl,rfl,rfl,trivial⟩ ⟨rfl,rfl,trivial⟩))))))))
 · first|exact bN hb14|(
 refine Zf ?_;(refine xL 2 Zb ?_;refine Ze ?_)
 refine WQ (PrH b v n l false) (results44) rfl ⟨rfl,rfl,trivial⟩ ?_;rw [Jm fun i hi=>hp i oM];exact ⟨v,hv,rfl,rfl,rfl⟩)
end Go.Proofs.YtpiemogpblmiiaaGreatDoor
