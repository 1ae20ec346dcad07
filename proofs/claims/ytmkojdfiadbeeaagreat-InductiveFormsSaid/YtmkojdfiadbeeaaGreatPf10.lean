/-
  Walks of functions and plain laws of the chapter, as the claim needs them.
-/
import Derived.Test.YtmkojdfiadbeeaaGreatPf09
import Derived.Test.YtmkojdfiadbeeaaGreatPf07
import Derived.Test.YtmkojdfiadbeeaaGreatPf08
import Derived.Test.YtmkojdfiadbeeaaGreatPf02
import Derived.Test.YtmkojdfiadbeeaaGreatPf05
import Derived.Test.YtmkojdfiadbeeaaGreatPf03
import Derived.Test.YtmkojdfiadbeeaaGreatPf06
import Derived.Test.YtmkojdfiadbeeaaGreatPf01
namespace Go.Proofs.YtmkojdfiadbeeaaGreat
open Go.RowKit Go.Cb Go.En Tryz
set_option linter.all false
set_option maxRecDepth 100000
theorem ζ1:FldT prog 42 0 0=true:=by kernel_rfl
theorem ZeS:NoAgg prog 22=true:=by kernel_rfl
theorem Ey:SlT prog 45 22 1=true:=by kernel_rfl
def Cf (kd:Int) (ts:List Nd):Nd:=if kd=1 then Y5 4 ts else if kd=2 then Y5 3 ts else if kd=3 then Y5 5 ts else
 match ts with
 |a::b::c::l=>Y5 6 [a,Y5 4 (b::c::l)]
 |l=>Y5 6 l
theorem Zg1 {kd:Int} {a:Nd} {l:List Nd} (h:kd≠1∧kd≠2∧kd≠3) (h2:2<(a::l).length):Cf kd (a::l)=Y5 6 [a,Y5 4 l]:=by
 unfold Cf;rw [UA h.1,UA h.2.1,UA h.2.2]
 match l with
 |[]=>simp at h2
 |[b]=>simp at h2
 |b::c::l=>rfl
theorem Zg2 {kd:Int} {l:List Nd} (h:kd≠1∧kd≠2∧kd≠3) (h2:l.length≤2):Cf kd l=Y5 6 l:=by
 unfold Cf;rw [UA h.1,UA h.2.1,UA h.2.2]
 match l with
 |[]=>rfl
 |[_]=>rfl
 |[_,_]=>rfl
 |_::_::_::_=>simp at h2
theorem Pv (l:List Var):Rr (Gu l) (.tup [pTr ((Kz l).getD nd0),ZB (Kz l).isSome]):=by
 unfold Gu
 cases Kz l with
 |none=>exact Zch JB
 |some t=>exact Rr.rfl' _
theorem DZ (l:List Var):shD (Gu l)=true:=by
 unfold Gu
 cases Kz l<;>rfl
def ZkB (fT fM fF fS:Nat) (once:List Var→List Var) (lm:List Var) (c0:Option Cut→PV) (t:Nd) (x:Var) (l':List Var):Prop:=
 (x.acts=[]→∃t1,AF prog fT [Z4 l'] (· = .tup [pTr t1,Zf 0])∧t=Y5 4 [sil,t1])∧
 (x.acts≠[]→∃g:Dfg,AF prog fM [Z4 lm] (· = .tup [KZ g,Zf 0])∧g.acts.length≤1000000∧
   ((AF prog fF [KZ g] (· = .tup [LN none,c0 none])∧t=Rl (cnames g.acts))∨
     ∃ c out ts,AF prog fF [KZ g] (· = .tup [EG c,c0 (some c)])∧AF prog fS [Z4 lm,EG c] (· = .tup [Zap out,Zf 0])∧ts.length=out.length∧2≤ts.length∧ts.length≤1000000∧(∀r∈out,r.length≤1000000)∧
      (∀(i:Nat) (r:List Var) (u:Nd),out[i]? =some r→ts[i]? =some u→AF prog fT [Z4 (once r)] (· = .tup [pTr u,Zf 0]))∧t=Cf c.kind ts))
theorem ZiE (ts:List Nd) (k:Nat) {x:Nd} (hx:ts[k]? =some x):(ts.take k).flatMap cN++cN x=(ts.take (k+1)).flatMap cN:=by
 rw [ZW hx,Va];simp
theorem ζ2 (ts:List Nd) (k:Nat) (h:k≤ts.length):((ts.take k).flatMap cN).length=k*3:=by
 rw [Yr Tb,XF,X' h]
theorem ZeT (x:Var) (l:List Var):PV.sl ((x::l).length-1) ((((x::l).flatMap Wn).drop (1*2)).take (((x::l).length-1)*2))=Z4 l:=by
 unfold Z4
 rw [Xo,show 1*2=(Wn x).length from rfl,List.drop_left,Xg,Uu,Xy (by rw [Yr Ys];exact Xc _)]
set_option maxHeartbeats 4000000 in
theorem SR (l : List Var) (t : Nd) (hl:l.length≤1000000) (h0:∀u,Kz l=some u→t=u) (h1:∀x l',l=x::l'→Kz l=none→ZkB 77 13 18 20 Gt l LO t x l'):AF prog 77 [Z4 l] (· = .tup [pTr t,Zf 0]):=by
 have hB:=(ZcM l).reread (DZ l) (Pv l)
 obtain ⟨bt,hbt⟩:∃bt,bt=Kz l:=⟨_,rfl⟩
 rw [←hbt] at hB
 have eB:∀u:Nd,pTr u= .agg [Zf u.op,ZD u.act,Y4 u.l]:=fun _=>rfl
 refine AF.of_body 132 func77 rfl ntmps77 (Xa rfl) ?_
 intro w0 M0 vs hl hv
 obtain ⟨v0,rfl⟩:=YG hl
 clear hl hv
 refine Zd ?_
 (refine ZA [(.int .i64 0),(.string ByteArray.empty),(.slice none 0 0)] 3 2 Z8 fun h2=>?_<;>refine xL 3 Zb ?_<;>refine Zi ?_)
 (refine xL 21 Za ?_ <;> (rcases bt with _|bt<;>(dsimp only [Option.getD,Option.isSome] at hB;refine cP 22 (cA call85 hB) fun va22 vb22 hva22 h=>?_;cases h))<;>refine xL 20 Za (xL 23 Zp (xL 24 Zp ?_))<;>refine ZA [(.int .i64 0),(.string ByteArray.empty),(.slice none 0 0)] 3 4 Z8 fun h4=>?_<;>refine Zw 4 Zs ?_<;>refine xL 5 Zb ?_<;>refine Zc ?_)<;>(
 (refine Zo ?_<;>refine xL 25 Za ?_<;>refine Zc ?_)
 refine cX ?_ ?_<;>intro hb25
 · first|exact bN hb25|(
 refine Zd ?_;((refine yL 26 (Zu 4 Zs) fun v26 h=>?_;cases h)<;>refine Zw 2 Zs ?_<;>refine xL 3 Zb ?_<;>refine Zc ?_)
 refine Yn (k:=3) 2 kR (results77) rfl rfl rfl (Xa rfl) dC rfl ?_;rw [h0 _ hbt.symm];rfl)
 · first | exact bN hb25 | (
 (obtain ⟨x,l',rfl⟩:∃x l',l=x::l':=by cases l with|nil=>cases hbt|cons x l'=>exact ⟨x,l',rfl⟩);obtain ⟨h2,h3⟩:=h1 x l' rfl hbt.symm;have e1:((x::l').flatMap Wn)[0*2+0]? =some (ZT x.acts):=rfl;(have e2:0*2+2≤((x::l').flatMap Wn).length:=by rw [Xo,Xf];show 2≤2+_;omega);have e3:0<(x::l').length:=VX _;have hcl:((x::l').flatMap Wn).length=(x::l').length*2:=Yr Ys _;refine Zd ?_;(refine xL 27 Za (xL 28 (Zv ZQ) (xL 29 (YN Z3) ?_))<;>(refine yL 30 (ZN ZX) fun v30 h=>?_;cases h)<;>refine xL 31 (ZF Zx) (xL 32 ZU ?_)<;>refine Zc ?_)
 refine cX ?_ ?_<;>intro hb32
 · first|exact bN hb32|(
 obtain ⟨t1,hT1,ht⟩:=h2 (Xw oM);refine Zd ?_;(refine xL 34 Za ?_<;>refine xL 35 (Hp (i:=1) (j:=(x::l').length) ZQ rfl rfl rfl rfl (VX _) (Xc _) hcl) ?_<;>(refine ZJ (JA (t:=35) (p':=Z4 l') rfl (ZeT x l')) fun _=>?_;refine cP 36 (cA call77 hT1) fun va36 vb36 hva36 h=>?_;cases h)<;>refine xL 33 Za (xL 37 Zp (xL 38 Zp ?_))<;>refine ZA [(.int .i64 0),(.string ByteArray.empty),(.slice none 0 0)] 3 6 Z8 fun h6=>?_<;>refine Zw 6 Zs ?_<;>refine xL 7 Zb ?_<;>refine Zc ?_)
 (refine ZM (fun i=>([]:List Nat).elem i) [6] kR ?_<;>(refine yD 1 40 rfl (Zu 6 Zs) fun v40 h=>?_;cases h)<;>refine xD 4 43 rfl Za ?_<;>(refine Zk 0 kR ?_)<;>(refine YH (d:=39) rfl (cA call121 LJ) fun v39 h=>?_;cases h)<;>(refine Zk 2 kR ?_)<;>(refine Zg rfl fun w9 M9 N9 DQ back=>?_)<;>(refine JR (kk:=3) (xs:=[_,_]) (cs:=[[_,_,_],[_,_,_]]) 41 WP fun h41 ho41=>?_;refine ZJ (En.freeze (l:=41) (t:=41) rfl rfl) fun _=>?_;refine ZJ (JA (t:=41) (p':=Y4 [sil,t1]) rfl (Eq.trans (show _=PV.sl 2 ([sil,t1].flatMap cN) from rfl) (LI sil t1))) fun _=>?_)<;>refine Ze (back _ (nrm ?_))<;>(refine Zk 3 kR ?_)<;>(refine YH (d:=42) rfl (cA call120 (J1 4 [sil,t1])) fun v42 h=>?_;cases h)<;>(refine Zk 5 kR ?_)<;>(refine Zg rfl fun w9 M9 N9 DQ back=>?_)<;>refine Zw 2 Zs ?_<;>refine Ze (back _ (nrm ?_))<;>refine xE 6 3 rfl Zb ?_<;>refine Ym kR (nav ?_)<;>try dsimp only)
 refine Yn (k:=3) 2 kR (results77) rfl rfl rfl (Xa rfl) dC rfl ?_;rw [ht];rfl)
 · first | exact bN hb32 | (
 obtain ⟨g,hM,hgl,hFS⟩:=h3 (fun h=>hb32 (by rw [h];rfl));refine Zd ?_;(refine xL 45 Za ?_<;>(refine cP 46 (cA call13 (hM)) fun va46 vb46 hva46 h=>?_;cases h)<;>refine xL 44 Za (xL 47 Zp (xL 48 Zp ?_))<;>refine ZA [(.slice none 0 0),(.slice none 0 0),(.slice none 0 0),(.slice none 0 0)] 4 8 JZ fun h8=>?_<;>refine Zw 8 YA ?_<;>refine xL 9 Zb ?_<;>refine Zi ?_)
 (refine xL 49 Za ?_<;>refine xL (v:= .bool false) (p:= .val (.bool false)) 50 (Wg (a:=0) (b:=0)) ?_<;>refine Zc ?_)
 refine cX ?_ ?_<;>intro hb50
 · first
   |exact bN hb50
   |skip
 · first | exact bN hb50 | (
 refine Zd ?_;((refine yL 54 (Zu 8 YA) fun v54 h=>?_;cases h)<;>(rcases hFS with ⟨hF,ht⟩|⟨c,out,ts,hF,hS,hts,hts2,htl,hol,hT,ht⟩<;>(dsimp only [LN,LO,EG] at hF;refine cP 55 (cA call18 hF) fun va55 vb55 hva55 h=>?_;cases h))<;>refine xL 53 Za (xL 56 Zp (xL 57 Zp ?_))<;>refine ZA [(.int .i64 0),(.slice none 0 0)] 2 10 Ki fun h10=>?_<;>refine Zw 10 YB ?_<;>refine xL 9 Zb ?_<;>refine Zc ?_)<;>(
 (refine Zo ?_<;>refine xL 58 Za ?_<;>(first|refine xL (v:= .bool true) (p:= .val (.bool true)) 59 (Wg (a:=10) (b:=0)) ?_|refine xL (v:= .bool false) (p:= .val (.bool false)) 59 (Wg (a:=0) (b:=0)) ?_)<;>refine Zc ?_)
 refine cX ?_ ?_<;>intro hb59
 · first |exact bN hb59|(
 refine Zd ?_;(refine xL 11 Zb ?_<;>refine Zi ?_)
 (refine xL 60 (Zn 8 Ge) ?_<;>(refine yL 61 (Zr 8 WQ) fun v61 h=>?_;cases h)<;>refine xL 62 (ZF WB) (xL 63 Za ?_)<;>refine Zc ?_)
 refine ZE (W3 200 9 1 rfl) fun _=>?_;refine Zy (ι:={x:Nat×Value//x.1≤g.acts.length}) (fun k=>⟨[(2,_,_),(61,_,_),(62,_,_),(11,k.1.2, .val k.1.2),(63, .int .i64 k.1.1,Zf k.1.1)],[(2,_,_),(200,k.1.2, .own 9 1 k.1.1 ((cnames (g.acts.take k.1.1)).map ZD))]⟩) (fun k=>g.acts.length-k.1.1) ⟨(0, .slice none 0 0),oM⟩ (fun a w H=>H.weaken ⟨rfl,rfl,rfl,rfl,rfl,trivial⟩ ⟨rfl,rfl,trivial⟩) ?_;rintro ⟨⟨k,h11⟩,hk⟩;dsimp only;dsimp only at hk;refine Zd ?_;(refine xL 64 ZI ?_<;>refine Zc ?_)
 refine cX ?_ ?_<;>intro hb64
 · first|exact bN hb64|(
 obtain ⟨y,hy⟩:=Zm (show k<g.acts.length by omega);have e4:=Yz Kf g.acts k y hy;have e5:=YT Kf hy;(have e6:((cnames (g.acts.take k)).map ZD).length=k:=by simp [cnames];omega);refine Zd ?_;(refine xL 65 (Zv WB) ?_<;>(refine yL 66 (Wl Wh) fun v66 h=>?_;cases h)<;>refine ZA [(.string ByteArray.empty),(.int .i64 0)] 2 13 GY fun h13=>?_<;>refine Zw 13 Wh ?_<;>refine Zi ?_)
 (refine xL 67 Za (xL 68 (Zn 13 Kn) ?_)<;>(refine yL 69 (Zr 13 ZP) fun v69 h=>?_;cases h)<;>refine W4 (kk:=1) 70 Wm fun h70 ho70=>?_<;>refine Kd 200 70 71 Wm fun h71 ho71=>?_<;>refine xL 11 Zb ?_<;>refine Zi ?_)
 (refine xL 72 ZH (xL 63 Za ?_)<;>refine Zc ?_)
 refine Yh (Z5 (l:=71) 200 rfl rfl) fun _=>?_;rw [show (cnames (g.acts.take k)).map ZD++[ZD y.name]=(cnames (g.acts.take (k+1))).map ZD by rw [TL hy,X1];rfl];refine Zh (
  ⟨(k+1,h71),by show k+1≤g.acts.length;omega⟩
  ) (by dsimp only;omega) ⟨rfl,rfl,rfl,rfl,rfl,trivial⟩ ⟨rfl,rfl,trivial⟩)
 · first|exact bN hb64|(
 obtain rfl:k=g.acts.length:=oM;rw [XI];refine nav ?_;refine ZE (En.freeze (l:=200) (t:=11) rfl rfl) fun _=>?_;rw [GZ,show PV.sl g.acts.length ((cnames g.acts).map ZD)=ZT (cnames g.acts) by unfold ZT cnames;rw [Xd]];(refine Zo ?_<;>refine xL 73 Za ?_<;>(refine cD 74 (cA call87 (HS (cnames g.acts) (by unfold cnames;rw [Xd];exact hgl))) fun v74 hv74=>?_;clear hv74)<;>refine Zw 2 Zs ?_<;>refine xL 3 Zb ?_<;>refine Zc ?_)
 refine Yn (k:=3) 2 kR (results77) rfl rfl rfl (Xa rfl) dC rfl ?_;rw [ht];rfl))
 · first | exact bN hb59|(
 refine Zd ?_;(refine xL 76 Za ?_<;>(refine yL 77 (Zu 10 YB) fun v77 h=>?_;cases h)<;>(refine cP 78 (cA call20 (hS)) fun va78 vb78 hva78 h=>?_;cases h)<;>refine xL 75 Za (xL 79 Zp (xL 80 Zp (xL 14 Zb (xL 9 Zb ?_))))<;>refine Zi ?_)
 (refine xL 81 Za ?_<;>refine xL (v:= .bool false) (p:= .val (.bool false)) 82 (Wg (a:=0) (b:=0)) ?_<;>refine Zc ?_)
 refine cX ?_ ?_<;>intro hb82
 · first
   |exact bN hb82
   |skip
 · first | exact bN hb82|(
 refine Zd ?_;(refine xL 15 Zb ?_<;>refine Zi ?_)
 (refine xL 84 Za (xL 85 (ZF Ey) (xL 86 Za ?_))<;>refine Zc ?_)
 refine ZE (W3 201 51 3 rfl) fun _=>?_;refine Zy (ι:={x:Nat×Value//x.1≤out.length}) (fun k=>⟨[(2,_,_),(10,_,_),(84,_,_),(85,_,_),(15,k.1.2, .val k.1.2),(86, .int .i64 k.1.1,Zf k.1.1)],[(2,_,_),(10,_,_),(201,k.1.2, .own 51 3 k.1.1 ((ts.take k.1.1).flatMap cN))]⟩) (fun k=>out.length-k.1.1) ⟨(0, .slice none 0 0),oM⟩ (fun a w H=>H.weaken ⟨rfl,rfl,rfl,rfl,rfl,rfl,trivial⟩ ⟨rfl,rfl,rfl,trivial⟩) ?_;rintro ⟨⟨k,h15⟩,hk⟩;dsimp only;dsimp only at hk;refine Zd ?_;(refine xL 87 ZI ?_<;>refine Zc ?_)
 refine cX ?_ ?_<;>intro hb87
 · first |exact bN hb87|(
 obtain ⟨r,hr⟩:=Zm (show k<out.length by omega);obtain ⟨u,hu⟩:=Zm (show k<ts.length by omega);have e4:=Yq (f:=Z4) hr;have e5:=ζ2 ts k oM;have hTu:=hT k r u hr hu;refine Zd ?_;(refine xL 88 (Zv Ey) ?_<;>(refine yL 89 (ZN ZeS) fun v89 h=>?_;cases h)<;>refine xL 17 Zb ?_<;>refine Zi ?_)
 (refine xL 91 Za ?_<;>(refine cS 92 (cA call78 (ZcN r (hol r (Xb hr)))) fun v92 h=>?_;cases h)<;>(refine cP 93 (cA call77 (hTu)) fun va93 vb93 hva93 h=>?_;cases h)<;>refine xL 90 Za (xL 94 Zp (xL 95 Zp ?_))<;>refine ZA [(.int .i64 0),(.string ByteArray.empty),(.slice none 0 0)] 3 18 Z8 fun h18=>?_<;>refine Zw 18 Zs ?_<;>refine xL 19 Zb ?_<;>refine Zi ?_)
 (refine xL 96 Za ?_<;>refine xL (v:= .bool false) (p:= .val (.bool false)) 97 (Wg (a:=0) (b:=0)) ?_<;>refine Zc ?_)
 refine cX ?_ ?_<;>intro hb97
 · first
   |exact bN hb97
   |skip
 · first|exact bN hb97|(
 refine Zd ?_;(refine xL 100 Za ?_<;>(refine yL 101 (Zu 18 Zs) fun v101 h=>?_;cases h)<;>refine Ju 102 WP fun h102 ho102=>?_<;>refine Kd 201 102 103 WP fun h103 ho103=>?_<;>refine xL 15 Zb ?_<;>refine Zi ?_)
 (refine xL 104 ZH (xL 86 Za ?_)<;>refine Zc ?_)
 refine Yh (Z5 (l:=103) 201 rfl rfl) fun _=>?_;refine Yh (KG (l:=201) rfl (show PV.own 51 3 (k+1) ((ts.take k).flatMap cN++cN u)=PV.own 51 3 (k+1) ((ts.take (k+1)).flatMap cN) by rw [ZiE ts k hu])) fun _=>?_;refine Zh (
  ⟨(k+1,h103),by show k+1≤out.length;omega⟩
  ) (by dsimp only;omega) ⟨rfl,rfl,rfl,rfl,rfl,rfl,trivial⟩ ⟨rfl,rfl,rfl,trivial⟩))
 · first | exact bN hb87|(
 obtain rfl:k=out.length:=oM;rw [show ts.take out.length=ts by rw [←hts];exact XI];refine nav ?_;refine ZE (En.freeze (l:=201) (t:=15) rfl rfl) fun _=>?_;rw [←Y3,GC _ _ _ hts.symm];(refine Zo ?_<;>refine xL 105 (Zn 10 ζ1) ?_<;>(refine yL 106 (Zr 10 Ya) fun v106 h=>?_;cases h)<;>refine Zi ?_)
 (refine xL 108 ZU (xL 107 Zb ?_)<;>refine Zc ?_)
 refine cX ?_ ?_<;>intro hb107
 · first|exact bN hb107|(
 refine Zd ?_;(refine xL 109 Za ?_<;>(refine cD 110 (cA call120 (J1 4 ts)) fun v110 hv110=>?_;clear hv110)<;>refine Zw 2 Zs ?_<;>refine xL 3 Zb ?_<;>refine Zc ?_)
 refine Yn (k:=3) 2 kR (results77) rfl rfl rfl (Xa rfl) dC rfl ?_;rw [ht];unfold Cf;rw [UB oM];rfl)
 · first | exact bN hb107|(
 refine Zd ?_;(refine xL 112 ZU (xL 111 Zb ?_)<;>refine Zc ?_)
 refine cX ?_ ?_<;>intro hb111
 · first|exact bN hb111|(
 refine Zd ?_;(refine xL 113 Za ?_<;>(refine cD 114 (cA call120 (J1 3 ts)) fun v114 hv114=>?_;clear hv114)<;>refine Zw 2 Zs ?_<;>refine xL 3 Zb ?_<;>refine Zc ?_)
 refine Yn (k:=3) 2 kR (results77) rfl rfl rfl (Xa rfl) dC rfl ?_;rw [ht];unfold Cf;rw [UA oM,UB oM];rfl)
 · first | exact bN hb111|(
 refine Zd ?_;(refine xL 116 ZU (xL 115 Zb ?_)<;>refine Zc ?_)
 refine cX ?_ ?_<;>intro hb115
 · first|exact bN hb115|(
 refine Zd ?_;(refine xL 117 Za ?_<;>(refine cD 118 (cA call120 (J1 5 ts)) fun v118 hv118=>?_;clear hv118)<;>refine Zw 2 Zs ?_<;>refine xL 3 Zb ?_<;>refine Zc ?_)
 refine Yn (k:=3) 2 kR (results77) rfl rfl rfl (Xa rfl) dC rfl ?_;rw [ht];unfold Cf;rw [UA oM,UA oM,UB oM];rfl)
 · first|exact bN hb115|(
 refine Zd ?_;(refine xL 119 Za (xL 120 (ZF Jf) (xL 121 YV ?_))<;>refine Zc ?_)
 refine cX ?_ ?_<;>intro hb121
 · first|exact bN hb121|(
 (obtain ⟨a,ts',rfl⟩:∃a ts',ts=a::ts':=by cases ts with|nil=>simp at hts2|cons a b=>exact ⟨a,b,rfl⟩);have e4:=Z9 (l:=a::ts') (k:=0) (x:=a) rfl;have e5:0<(a::ts').length:=VX _;have e6:=Da (a::ts');(have hN:AF prog 120 [Zf 4,PV.sl ((a::ts').length-1) (((Z6 (a::ts')).drop (1*3)).take (((a::ts').length-1)*3))] (· =pTr (Y5 4 ts')):=by rw [Zf9 (m:=a::ts') (k:=1) oM];exact J1 4 _);refine nav ?_;(refine ZM (fun i=>([]:List Nat).elem i) [] kR ?_<;>refine xD 0 122 rfl Za ?_<;>refine xD 1 123 rfl (Zv Jf) ?_<;>(refine yD 2 124 rfl (Wl Zs) fun v124 h=>?_;cases h)<;>refine xE 3 125 rfl Za ?_<;>refine xE 4 126 rfl (Hp (i:=1) (j:=(a::ts').length) Jf rfl rfl rfl rfl (VX _) (Xc _) e6) ?_<;>(refine Zk 5 kR ?_)<;>(refine YH (d:=127) rfl (cA call120 hN) fun v127 h=>?_;cases h)<;>(refine Zk 6 kR ?_)<;>(refine Zg rfl fun w9 M9 N9 DQ back=>?_)<;>(refine JR (kk:=3) (xs:=[_,_]) (cs:=[[_,_,_],[_,_,_]]) 128 WP fun h128 ho128=>?_;refine ZJ (En.freeze (l:=128) (t:=128) rfl rfl) fun _=>?_;refine ZJ (JA (t:=128) (p':=Y4 [a,Y5 4 ts']) rfl (Eq.trans (show _=PV.sl 2 ([a,Y5 4 ts'].flatMap cN) from rfl) (LI a (Y5 4 ts')))) fun _=>?_)<;>refine Ze (back _ (nrm ?_))<;>(refine Zk 7 kR ?_)<;>(refine YH (d:=129) rfl (cA call120 (J1 6 [a,Y5 4 ts'])) fun v129 h=>?_;cases h)<;>(refine Zk 8 kR ?_)<;>(refine Zg rfl fun w9 M9 N9 DQ back=>?_)<;>refine Zw 2 Zs ?_<;>refine Ze (back _ (nrm ?_))<;>refine xE 9 3 rfl Zb ?_<;>refine Ym kR (nav ?_)<;>try dsimp only)
 refine Yn (k:=3) 2 kR (results77) rfl rfl rfl (Xa rfl) dC rfl ?_;rw [ht,Zg1 ⟨oM,oM,oM⟩ oM];rfl)
 · first|exact bN hb121|(
 refine Zd ?_;(refine xL 130 Za ?_<;>(refine cD 131 (cA call120 (J1 6 ts)) fun v131 hv131=>?_;clear hv131)<;>refine Zw 2 Zs ?_<;>refine xL 3 Zb ?_<;>refine Zc ?_)
 refine Yn (k:=3) 2 kR (results77) rfl rfl rfl (Xa rfl) dC rfl ?_;rw [ht,Zg2 ⟨oM,oM,oM⟩ oM];rfl))))))))))))
theorem Zg3 {x:Var} (h:WT x=true):1≤x.count∧x.count≤1048576∧x.acts.length≤200:=by
 unfold WT at h
 simp only [Xe,Ux] at h
 exact ⟨h.1.2,h.2,h.1.1.1⟩
theorem ZeU {x:Var} (h:WT x=true):Hc x.acts∧-9223372036854775808≤x.count∧x.count≤9223372036854775807:=by
 have hb:=Zg3 h
 unfold WT at h
 simp only [Xe,Ux] at h
 exact ⟨⟨oM,fun s hs=>by have:=Lh (Xj.1 h.1.1.2 s hs);omega⟩,oM,oM⟩
theorem ZeV {l:List Var} {t:Nd} (h:Kz l=some t) (hs:∀x∈l,∀s∈x.acts,s.size≤140737488355328):FitT t:=by
 have hsil:FitT sil:= .mk _ dC dC dC dC (fun x hx=>by cases hx)
 match l,h with
 |[],h=>cases h;exact hsil
 | [x],h=>
   unfold Kz at h;dsimp only at h;match hx:x.acts with
   |[]=>rw [hx] at h;cases h;exact hsil
   | [s]=>
     rw [hx] at h;cases h;have:=hs x (XB.2 rfl) s (by rw [hx];exact XB.2 rfl);exact .mk _ (Xn _) this (show-9223372036854775808≤(1:Int) by decide) (show (1:Int)≤9223372036854775807 by decide) (fun x hx=>by cases hx)
   |_::_::_=>rw [hx] at h;cases h
theorem D2 {o:Int} {l:List Nd} (ho:0≤o∧o≤6) (hl:l.length≤1000000) (h:∀t∈l,FitT t):FitT (Y5 o l):=
 .mk _ (show l.length≤_ by omega) (show ByteArray.empty.size≤_ by decide) (show _≤o by omega) (show o≤_ by omega) h
theorem ZcO:FitT sil:=D2 dC dC fun x hx=>by cases hx
theorem Zg4 {s:ByteArray} (h:s.size≤140737488355328):FitT (lf s):= .mk _ (Xn _) h (show-9223372036854775808≤(1:Int) by decide) (show (1:Int)≤9223372036854775807 by decide) (fun x hx=>by cases hx)
theorem ZcP {o:Int} {a b:Nd} (ho:0≤o∧o≤6) (ha:FitT a) (hb:FitT b):FitT (Y5 o [a,b]):=D2 ho (show 2≤1000000 by decide) fun t ht=>by
 rcases Xi.1 ht with rfl|ht
 · exact ha
 · rw [XB] at ht;subst ht;exact hb
theorem Zg5 {l:List ByteArray} (hl:l.length≤1000000) (h:∀s∈l,s.size≤140737488355328):FitT (Rl l):=by
 by_cases h1:l.length=1
 · obtain ⟨s,rfl⟩:=VK.1 h1;exact ZcP dC (Zg4 (h s (XB.2 rfl))) ZcO
 · rw [Dg h1];refine ZcP dC (D2 dC (by rw [Xd];exact hl) fun t ht=>?_) ZcO;obtain ⟨s,hs,rfl⟩:=Xr.1 ht;exact Zg4 (h s hs)
theorem Pw {l:List Var} (h:validVars l=true):l.length≤300:=by
 unfold validVars at h
 rw [Xe] at h
 exact UD h.1
structure MetP (parts:List (List ByteArray)) (ps:List Piece) (s:ByteArray) (k:Nat) (ps2:List Piece) (q:Piece):Prop where
 at_:ps2[ps2.length-1]? =some q
 step:pieceStep parts ps s=some (ps2.set (ps2.length-1) ⟨q.part,q.word++[s]⟩)
 len:ps2.length≤k+1
 word:∀p∈ps2,p.word.length≤k
end Go.Proofs.YtmkojdfiadbeeaaGreat
