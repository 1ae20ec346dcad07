/-
  Walks of functions and plain laws of the chapter, as the claim needs them.
-/
import Derived.Recover
import Derived.Lib.Builder
import Derived.Lib.UnsafeStr
import Derived.Lib.AppendStr
import Derived.Laws.Externs
import Derived.Test.YteiincihiagidaaGreatPf09
import Derived.Test.YteiincihiagidaaGreatPf04
import Derived.Test.YteiincihiagidaaGreatPf05
import Derived.Test.YteiincihiagidaaGreatPf08
import Derived.Test.YteiincihiagidaaGreatPf02
import Derived.Test.YteiincihiagidaaGreatPf06
import Derived.Test.YteiincihiagidaaGreatPf07
import Derived.Test.YteiincihiagidaaGreatPf01
set_option linter.all false
set_option maxRecDepth 100000
set_option maxHeartbeats 8000000
namespace Go.Proofs.YteiincihiagidaaGreat
open Go.RowKit Go.Cb Go.En Tryz
theorem Zcn:FldT prog 104 0 0=true:=kR
theorem Zkt:NoAgg prog 30=true:=kR
theorem ζW:SlT prog 110 30 1=true:=kR
def Zco (kd:Int) (ts:List Nd):Nd:=if kd=1 then Ky 4 ts else if kd=2 then Ky 3 ts else if kd=3 then Ky 5 ts else
 match ts with
 |a::b::c::l=>Ky 6 [a,Ky 4 (b::c::l)]
 |l=>Ky 6 l
theorem ZnJ {kd:Int} {a:Nd} {l:List Nd} (h:kd≠1∧kd≠2∧kd≠3) (h2:2<(a::l).length):Zco kd (a::l)=Ky 6 [a,Ky 4 l]:=by
 unfold Zco;rw [Qa h.1,Qa h.2.1,Qa h.2.2]
 match l with
 |[]=>simp at h2
 |[b]=>simp at h2
 |b::c::l=>rfl
theorem ZnK {kd:Int} {l:List Nd} (h:kd≠1∧kd≠2∧kd≠3) (h2:l.length≤2):Zco kd l=Ky 6 l:=by
 unfold Zco;rw [Qa h.1,Qa h.2.1,Qa h.2.2]
 match l with
 |[]=>rfl
 |[_]=>rfl
 |[_,_]=>rfl
 |_::_::_::_=>simp at h2
theorem Zku (l:List Var):Rr (OS l) (.tup [pTr ((TN l).getD nd0),Zv (TN l).isSome]):=by
 unfold OS
 cases TN l with
 |none=>exact ZhX ζE
 |some t=>exact Rr.rfl' _
theorem ZnL (l:List Var):shD (OS l)=true:=by
 unfold OS
 cases TN l<;>rfl
def Zsa (fT fM fF fS:Nat) (once:List Var→List Var) (lm:List Var) (c0:Option Cut→PV) (t:Nd) (x:Var) (l':List Var):Prop:=
 (x.acts=[]→∃t1,AF prog fT [Yx l'] (· = .tup [pTr t1,Zc 0])∧t=Ky 4 [sil,t1])∧
 (x.acts≠[]→∃g:Dfg,AF prog fM [Yx lm] (· = .tup [GJ g,Zc 0])∧g.acts.length≤1000000∧
   ((AF prog fF [GJ g] (· = .tup [Ri none,c0 none])∧t=ZnE (cnames g.acts))∨
     ∃ c out ts,AF prog fF [GJ g] (· = .tup [ZbE c,c0 (some c)])∧AF prog fS [Yx lm,ZbE c] (· = .tup [ZeV out,Zc 0])∧ts.length=out.length∧2≤ts.length∧ts.length≤1000000∧(∀r∈out,r.length≤1000000)∧
      (∀(i:Nat) (r:List Var) (u:Nd),out[i]? =some r→ts[i]? =some u→AF prog fT [Yx (once r)] (· = .tup [pTr u,Zc 0]))∧t=Zco c.kind ts))
theorem Zp0 (ts:List Nd) (k:Nat) {x:Nd} (hx:ts[k]? =some x):(ts.take k).flatMap cN++cN x=(ts.take (k+1)).flatMap cN:=by
 rw [Zw hx,XT];simp
theorem Zey (ts:List Nd) (k:Nat) (h:k≤ts.length):((ts.take k).flatMap cN).length=k*3:=by
 rw [Yr Sy,XG,Vc h]
theorem Zkv (x:Var) (l:List Var):PV.sl ((x::l).length-1) ((((x::l).flatMap WM).drop (1*2)).take (((x::l).length-1)*2))=Yx l:=by
 unfold Yx
 rw [Xv,show 1*2=(WM x).length from rfl,List.drop_left,Xl,Uu,Xq (by rw [Yr Yy];exact Xe _)]
theorem Do (l : List Var) (t : Nd) (hl:l.length≤1000000) (h0:∀u,TN l=some u→t=u) (h1:∀x l',l=x::l'→TN l=none→Zsa 36 67 68 70 TW l Rj t x l'):AF prog 36 [Yx l] (· = .tup [pTr t,Zc 0]):=by
 have hB:=(ZpX l).reread (ZnL l) (Zku l)
 obtain ⟨bt,hbt⟩:∃bt,bt=TN l:=⟨_,rfl⟩
 rw [←hbt] at hB
 have eB:∀u:Nd,pTr u= .agg [Zc u.op,Zt u.act,Yt u.l]:=fun _=>rfl
 refine AF.b1 132 func36 rfl ntmps36 (Xa rfl) fun w0 M0 v0 _=>?_
 refine Zh ?_
 refine Zx zT 3 2 Wl fun h2=>?_;refine ZQ ?_
 (refine Yv ?_ <;> (rcases bt with _|bt<;>(dsimp only [Option.getD,Option.isSome] at hB;refine cP 22 (cA call64 hB) fun va22 vb22 hva22 h=>?_;cases h))<;>refine Y' ?_<;>refine Zx zT 3 4 Wl fun h4=>?_<;>refine Zu 4 Zk ?_<;>refine ZB ?_)<;>(
 refine Zi ?_;refine YX ?_ ?_<;>intro hb25
 · first|exact bN hb25|(
 refine Zh ?_;refine yU (Zj 4 Zk) fun v26=>?_;refine Zu 2 Zk ?_;refine ZB ?_;refine YG (k:=3) 2 results36 ?_;rw [h0 _ hbt.symm];rfl)
 · first | exact bN hb25 | (
 (obtain ⟨x,l',rfl⟩:∃x l',l=x::l':=by cases l with|nil=>cases hbt|cons x l'=>exact ⟨x,l',rfl⟩);obtain ⟨h2,h3⟩:=h1 x l' rfl hbt.symm;have e1:((x::l').flatMap WM)[0*2+0]? =some (Zs x.acts):=rfl;(have e2:0*2+2≤((x::l').flatMap WM).length:=by rw [Xv,Xf];show 2≤2+_;omega);have e3:0<(x::l').length:=Vj _;have hcl:((x::l').flatMap WM).length=(x::l').length*2:=Yr Yy _;refine Zh ?_;refine xL 27 Za (xL 28 (Zg Yi) (xL 29 (YP YL) ?_));refine yU (ZG ZN) fun v30=>?_;refine xL 31 (Zy Zn) (xL 32 SN ?_);refine ZR ?_ ?_<;>intro hb32
 · (
 obtain ⟨t1,hT1,ht⟩:=h2 (XB oM);refine Wh ?_;refine xM (Ge (i:=1) (j:=(x::l').length) Yi rfl rfl rfl rfl (Vj _) (Xe _) hcl) ?_;refine Zp (Kt (t:=35) (p':=Yx l') rfl (Zkv x l')) fun _=>?_;refine cP 36 (cA call36 hT1) fun va36 vb36 hva36 hvb36=>?_;cases hvb36;refine Y' ?_;refine Zx zT 3 6 Wl fun h6=>?_;refine Zu 6 Zk ?_;refine ZB ?_;refine We [] [6] ?_<;>(refine yD 1 rfl (Zj 6 Zk) fun v40 h=>?_;cases h)<;>refine gDx 4 ?_<;>(refine Z6 0 kR ?_)<;>(refine Yz (d:=39) rfl (cA call66 Rx) fun v39 h=>?_;cases h)<;>(refine aDr 2 fun bk=>?_)<;>(refine Sz (kk:=3) (xs:=[_,_]) (cs:=[[_,_,_],[_,_,_]]) 41 Lj fun h41 ho41=>?_;refine Zp (En.freeze (l:=41) (t:=41) rfl rfl) fun _=>?_;refine Zp (Kt (t:=41) (p':=Yt [sil,t1]) rfl (Eq.trans (show _=PV.sl 2 ([sil,t1].flatMap cN) from rfl) (Ht sil t1))) fun _=>?_)<;>refine bE bk ?_<;>(refine Z6 3 kR ?_)<;>(refine Yz (d:=42) rfl (cA call65 (Tw 4 [sil,t1])) fun v42 h=>?_;cases h)<;>(refine aDr 5 fun bk=>?_)<;>refine Zu 2 Zk ?_<;>refine bE bk ?_<;>refine gEx 6 ?_<;>refine Kz ?_;refine YG (k:=3) 2 results36 ?_;rw [ht];rfl)
 · (
 obtain ⟨g,hM,hgl,hFS⟩:=h3 (fun h=>hb32 (by rw [h];rfl));refine Wh ?_;refine cP 46 (cA call67 (hM)) fun va46 vb46 hva46 hvb46=>?_;cases hvb46;refine Y' ?_;refine Zx [(.slice none 0 0),(.slice none 0 0),(.slice none 0 0),(.slice none 0 0)] 4 8 G4 fun h8=>?_;refine Zu 8 YQ ?_;refine LA ?_;refine xL (v:= .bool false) (p:= .val (.bool false)) 50 (Pa (a:=0) (b:=0)) ?_;refine ZR ?_ ?_<;>intro hb50
 · exact bN hb50
 · (
 refine Zh ?_;(refine yU (Zj 8 YQ) fun v54=>?_<;>(rcases hFS with ⟨hF,ht⟩|⟨c,out,ts,hF,hS,hts,hts2,htl,hol,hT,ht⟩<;>(dsimp only [Ri,Rj,ZbE] at hF;refine cP 55 (cA call68 hF) fun va55 vb55 hva55 h=>?_;cases h))<;>refine Y' ?_<;>refine Zx [(.int .i64 0),(.slice none 0 0)] 2 10 KP fun h10=>?_<;>refine Zu 10 YR ?_<;>refine ZB ?_)<;>(
 refine GH ?_<;>(first|refine xL (v:= .bool true) (p:= .val (.bool true)) 59 (Pa (a:=10) (b:=0)) ?_|refine xL (v:= .bool false) (p:= .val (.bool false)) 59 (Pa (a:=0) (b:=0)) ?_)<;>refine ZF ?_;refine cX ?_ ?_<;>intro hb59
 · first |exact bN hb59|(
 refine YK ?_;refine xM (Zb 8 LF) ?_;refine yU (Ze 8 KV) fun v61=>?_;refine xL 62 (Zy KA) (xL 63 Za ?_);refine ZF ?_;refine Zq (Wr 200 9 1 rfl) fun _=>?_;refine Yd (ι:={x:Nat×Value//x.1≤g.acts.length}) (fun k=>⟨[(2,_,_),(61,_,_),(62,_,_),(11,k.1.2, .val k.1.2),(63, .int .i64 k.1.1,Zc k.1.1)],[(2,_,_),(200,k.1.2, .own 9 1 k.1.1 ((cnames (g.acts.take k.1.1)).map Zt))]⟩) (fun k=>g.acts.length-k.1.1) ⟨(0, .slice none 0 0),oM⟩ ?_;rintro ⟨⟨k,h11⟩,hk⟩;dsimp only;dsimp only at hk;refine Ys ?_ ?_<;>intro hb64
 · (
 obtain ⟨y,hy⟩:=gS g.acts k;have e4:=Yu Jo g.acts k y hy;have e5:=Y9 Jo hy;(have e6:((cnames (g.acts.take k)).map Zt).length=k:=by simp [cnames];omega);refine Zh ?_;refine xM (Zg KA) ?_;refine yU (YD Ke) fun v66=>?_;refine Zx [(.string ByteArray.empty),(.int .i64 0)] 2 13 Sn fun h13=>?_;refine Zu 13 Ke ?_;refine Yc ?_;refine xL 67 Za (xL 68 (Zb 13 JA) ?_);refine yV (Ze 13 ZK) ?_;refine Wx (kk:=1) 70 ZW fun h70 ho70=>?_;refine WN 200 70 71 ZW fun h71 ho71=>?_;refine Wy ?_;refine Yq (Zz (l:=71) 200 rfl rfl) fun _=>?_;rw [show (cnames (g.acts.take k)).map Zt++[Zt y.name]=(cnames (g.acts.take (k+1))).map Zt by rw [PD hy,XC];rfl];refine Yh (
  ⟨(k+1,h71),by show k+1≤g.acts.length;omega⟩
  ))
 · (
 obtain rfl:k=g.acts.length:=oM;rw [XH];refine nav ?_;refine Zq (En.freeze (l:=200) (t:=11) rfl rfl) fun _=>?_;rw [Wb,show PV.sl g.acts.length ((cnames g.acts).map Zt)=Zs (cnames g.acts) by unfold Zs cnames;rw [Xb]];refine GH ?_;refine cD (cA call69 (Zko (cnames g.acts) (by unfold cnames;rw [Xb];exact hgl))) fun v74 hv74=>?_;clear hv74;refine Zu 2 Zk ?_;refine ZB ?_;refine YG (k:=3) 2 results36 ?_;rw [ht];rfl))
 · first | exact bN hb59|(
 refine Wh ?_;refine yU (Zj 10 YR) fun v77=>?_;refine cP 78 (cA call70 (hS)) fun va78 vb78 hva78 hvb78=>?_;cases hvb78;refine JY ?_;refine OX ?_;refine xL (v:= .bool false) (p:= .val (.bool false)) 82 (Pa (a:=0) (b:=0)) ?_;refine ZR ?_ ?_<;>intro hb82
 · exact bN hb82
 · (
 refine YK ?_;refine xL 84 Za (xL 85 (Zy ζW) (xL 86 Za ?_));refine ZF ?_;refine Zq (Wr 201 24 3 rfl) fun _=>?_;refine Yd (ι:={x:Nat×Value//x.1≤out.length}) (fun k=>⟨[(2,_,_),(10,_,_),(84,_,_),(85,_,_),(15,k.1.2, .val k.1.2),(86, .int .i64 k.1.1,Zc k.1.1)],[(2,_,_),(10,_,_),(201,k.1.2, .own 24 3 k.1.1 ((ts.take k.1.1).flatMap cN))]⟩) (fun k=>out.length-k.1.1) ⟨(0, .slice none 0 0),oM⟩ ?_;rintro ⟨⟨k,h15⟩,hk⟩;dsimp only;dsimp only at hk;refine Ys ?_ ?_<;>intro hb87
 · (
 obtain ⟨r,hr⟩:=gS out k;obtain ⟨u,hu⟩:=gS ts k;have e4:=Z8 (f:=Yx) hr;have e5:=Zey ts k oM;have hTu:=hT k r u hr hu;refine Zh ?_;refine xM (Zg ζW) ?_;refine yU (ZG Zkt) fun v89=>?_;refine LA ?_;refine cU (cA call37 (Zh1 r (hol r (Xc hr)))) fun v92=>?_;refine cP 93 (cA call36 (hTu)) fun va93 vb93 hva93 hvb93=>?_;cases hvb93;refine Y' ?_;refine Zx zT 3 18 Wl fun h18=>?_;refine Zu 18 Zk ?_;refine LA ?_;refine xL (v:= .bool false) (p:= .val (.bool false)) 97 (Pa (a:=0) (b:=0)) ?_;refine ZR ?_ ?_<;>intro hb97
 · exact bN hb97
 · (
 refine Wh ?_;refine yU (Zj 18 Zk) fun v101=>?_;refine JW 102 Lj fun h102 ho102=>?_;refine WN 201 102 103 Lj fun h103 ho103=>?_;refine Wy ?_;refine Yq (Zz (l:=103) 201 rfl rfl) fun _=>?_;refine Yq (Y1 (l:=201) rfl (show PV.own 24 3 (k+1) ((ts.take k).flatMap cN++cN u)=PV.own 24 3 (k+1) ((ts.take (k+1)).flatMap cN) by rw [Zp0 ts k hu])) fun _=>?_;refine Yh (
  ⟨(k+1,h103),by show k+1≤out.length;omega⟩
  )))
 · (
 obtain rfl:k=out.length:=oM;rw [show ts.take out.length=ts by rw [←hts];exact XH];refine nav ?_;refine Zq (En.freeze (l:=201) (t:=15) rfl rfl) fun _=>?_;rw [←WV,Rq _ _ _ hts.symm];refine Zi ?_;refine xM (Zb 10 Zcn) ?_;refine yV (Ze 10 ZM) ?_;refine GG ?_ ?_<;>intro hb107
 · (
 refine Wh ?_;refine cD (cA call65 (Tw 4 ts)) fun v110 hv110=>?_;clear hv110;refine Zu 2 Zk ?_;refine ZB ?_;refine YG (k:=3) 2 results36 ?_;rw [ht];unfold Zco;rw [Qb oM];rfl)
 · (
 refine Wa ?_ ?_<;>intro hb111
 · (
 refine Wh ?_;refine cD (cA call65 (Tw 3 ts)) fun v114 hv114=>?_;clear hv114;refine Zu 2 Zk ?_;refine ZB ?_;refine YG (k:=3) 2 results36 ?_;rw [ht];unfold Zco;rw [Qa oM,Qb oM];rfl)
 · (
 refine Wa ?_ ?_<;>intro hb115
 · (
 refine Wh ?_;refine cD (cA call65 (Tw 5 ts)) fun v118 hv118=>?_;clear hv118;refine Zu 2 Zk ?_;refine ZB ?_;refine YG (k:=3) 2 results36 ?_;rw [ht];unfold Zco;rw [Qa oM,Qa oM,Qb oM];rfl)
 · (
 refine Zh ?_;refine xL 119 Za (xL 120 (Zy Yw) (xL 121 Rc ?_));refine ZR ?_ ?_<;>intro hb121
 · (
 (obtain ⟨a,ts',rfl⟩:∃a ts',ts=a::ts':=by cases ts with|nil=>simp at hts2|cons a b=>exact ⟨a,b,rfl⟩);have e4:=ZT (l:=a::ts') (k:=0) (x:=a) rfl;have e5:0<(a::ts').length:=Vj _;have e6:=ζG (a::ts');(have hN:AF prog 65 [Zc 4,PV.sl ((a::ts').length-1) (((Z9 (a::ts')).drop (1*3)).take (((a::ts').length-1)*3))] (· =pTr (Ky 4 ts')):=by rw [ZnC (m:=a::ts') (k:=1) oM];exact Tw 4 _);refine nav ?_;refine We [] [] ?_<;>refine gDx 0 ?_<;>refine xD 1 rfl (Zg Yw) ?_<;>(refine yD 2 rfl (YD Zk) fun v124 h=>?_;cases h)<;>refine gEx 3 ?_<;>refine xE 4 rfl (Ge (i:=1) (j:=(a::ts').length) Yw rfl rfl rfl rfl (Vj _) (Xe _) e6) ?_<;>(refine Z6 5 kR ?_)<;>(refine Yz (d:=127) rfl (cA call65 hN) fun v127 h=>?_;cases h)<;>(refine aDr 6 fun bk=>?_)<;>(refine Sz (kk:=3) (xs:=[_,_]) (cs:=[[_,_,_],[_,_,_]]) 128 Lj fun h128 ho128=>?_;refine Zp (En.freeze (l:=128) (t:=128) rfl rfl) fun _=>?_;refine Zp (Kt (t:=128) (p':=Yt [a,Ky 4 ts']) rfl (Eq.trans (show _=PV.sl 2 ([a,Ky 4 ts'].flatMap cN) from rfl) (Ht a (Ky 4 ts')))) fun _=>?_)<;>refine bE bk ?_<;>(refine Z6 7 kR ?_)<;>(refine Yz (d:=129) rfl (cA call65 (Tw 6 [a,Ky 4 ts'])) fun v129 h=>?_;cases h)<;>(refine aDr 8 fun bk=>?_)<;>refine Zu 2 Zk ?_<;>refine bE bk ?_<;>refine gEx 9 ?_<;>refine Kz ?_;refine YG (k:=3) 2 results36 ?_;rw [ht,ZnJ ⟨oM,oM,oM⟩ oM];rfl)
 · (
 refine Wh ?_;refine cD (cA call65 (Tw 6 ts)) fun v131 hv131=>?_;clear hv131;refine Zu 2 Zk ?_;refine ZB ?_;refine YG (k:=3) 2 results36 ?_;rw [ht,ZnK ⟨oM,oM,oM⟩ oM];rfl))))))))))))
theorem Zkw:MpT prog 88 9 4 .string (.bool false):=⟨underlying88,underlying9, .inl rfl,by show ZeroT _ _ _;unfold ZeroT;kernel_rfl⟩
noncomputable def evA (l:List Var):List BA:=colS [] (l.flatMap (·.acts))
noncomputable def evX (l:List Var):List BA×Int:=if validVars l=true then (if (evA l).length≤40 then (Gv (evA l),0) else ([],5)) else ([],1)
theorem Zkx (ks:List BA):(skv (Wp ks)).length=ks.length:=by unfold skv Wp;rw [Xb,Xb]
theorem Zez (e n:Nat) (l:List BA) (h:n=l.length):share (.own e 1 n (l.map Zt))=Zs l:=by
 subst h
 rw [share,Z7,Xt];rfl
theorem Zp1 (l:List Var) (s:BA):s∈evA l↔∃x∈l,s∈x.acts:=by
 unfold evA
 rw [P1,X7]
 exact ⟨fun h=>h.elim (fun h=>by cases h) id, .inr⟩
theorem ZrB (l:List Var):(evA l).Nodup:=OA _ _ X6
theorem ZnM (l:List Var) (hf:ζ5 l):AF prog 35 [Yx l] (· = .tup [Zs (evX l).1,Zc (evX l).2]):=by
 refine AF.b1 36 func35 rfl ntmps35 (Xa rfl) fun w0 M0 v0 _=>?_
 refine Jm ?_;refine Yv ?_;refine cV (cA call34 (GQ l hf)) ?_;refine YX ?_ ?_<;>intro hb11
 · (
 refine ZE ?_;refine Z5 (TS (t:=2) rfl) fun _=>?_;refine Z1 results35 rfl rfl ?_;rw [show evX l=([],1) by unfold evX;rw [Qa (by simpa using hb11)]];rfl)
 · (
 (have hv:validVars l=true:=by simpa using hb11);have hnd:=ZrB l;have hl0:=hf.1;have hks:∀s∈evA l,s.size≤140737488355328:=fun s hs=>by
  obtain ⟨x,hx,h⟩:=(Zp1 l s).1 hs;exact (hf.2 x hx).1.2 s h
 refine Zh ?_;refine JX 12 fun h12 ho12=>?_;refine ZB ?_;refine Zq (Zz (l:=12) 1000 rfl rfl) fun _=>?_;refine Zi ?_;refine xL 13 Za (xL 14 (Zy Yi) (xL 15 Za ?_));refine ZF ?_;refine Yd (ι:={q:Nat×List BA//q.1≤l.length∧q.2=colS [] ((l.take q.1).flatMap (·.acts))}) (fun k=>⟨[(4,_,_),(13,_,_),(14,_,_),(15, .int .i64 k.1.1,Zc k.1.1)],[(1000,h12, .omap (skv (Wp k.1.2)))]⟩) (fun k=>l.length-k.1.1) ⟨(0,[]),Xg _,rfl⟩ ?_;rintro ⟨⟨i,K⟩,hi,hK⟩;dsimp only;dsimp only at hi hK;refine Ys ?_ ?_<;>intro hb16
 · (
 obtain ⟨x,hx⟩:=gS l i;have e1:=Yu Yy l i x hx;have e2:=Y9 Yy hx;have hx0:=(hf.2 x (Xc hx)).1.1;refine Zh ?_;refine xM (Zg Yi) ?_;refine yU (YD GZ) fun v18=>?_;refine Zx [(.slice none 0 0),(.int .i64 0)] 2 6 HL fun h6=>?_;refine Zu 6 GZ ?_;refine Yc ?_;refine xM (Zb 6 YL) ?_;refine yU (Ze 6 ZN) fun v20=>?_;refine xL 21 (Zy Zn) (xL 22 Za ?_);refine ZF ?_;refine Yd (ι:={q:Nat×List BA//q.1≤x.acts.length∧q.2=colS K (x.acts.take q.1)}) (fun k=>⟨[(4,_,_),(13,_,_),(14,_,_),(15,_,_),(20,_,_),(21,_,_),(22, .int .i64 k.1.1,Zc k.1.1)],[(1000,h12, .omap (skv (Wp k.1.2)))]⟩) (fun k=>x.acts.length-k.1.1) ⟨(0,K),Xg _,rfl⟩ ?_;rintro ⟨⟨j,K2⟩,hj,hK2⟩;dsimp only;dsimp only at hj hK2;refine Ys ?_ ?_<;>intro hb23
 · (
 obtain ⟨s,hs⟩:=gS x.acts j;have e3:=Z8 (f:=Zt) hs;refine Zh ?_;refine xM (Zg Zn) ?_;refine yV (ZG ZK) ?_;refine ZQ ?_;refine YW ?_;refine L9 1000 Zkw ?_;rw [Ho];refine GF ?_;refine Yh (
  ⟨(j+1,setK K2 s),Zd hs,by dsimp only;rw [Zw hs,Zd6,←hK2];rfl⟩
  ))
 · (
 refine ZE ?_;refine Yh (
  ⟨(i+1,K2),Zd hx,by dsimp only;rw [Zw hx,XT,Zd6,←hK,U0,hK2,Xq oM]⟩
  )))
 · (
 (obtain rfl:K=evA l:=by rw [hK,Xq oM];rfl);have hKl:=Zkx (evA l);refine nav ?_;refine Zq (En.freeze (l:=1000) (t:=4) rfl rfl) fun _=>?_;refine Zi ?_;refine xL 30 Za (xL 31 (ZqI underlying88) (xL 32 Rc ?_));refine ZR ?_ ?_<;>intro hb32
 · (
 refine ZE ?_;refine Z5 (TS (t:=2) rfl) fun _=>?_;refine Z1 results35 rfl rfl ?_;rw [show evX l=([],5) by unfold evX;rw [Qb hv,Qa oM]];rfl)
 · (
 refine Wh ?_;refine Zf6 (k1:=107) (t:=88) 34 ZmT (call63) (fun g34 b34 c34 es34 hkv34 hWf34=>?_);refine Ec (ks:=evA l) 34 35 ζL (call62) (fun h=>h) hWf34 hkv34.symm hnd oM hks (fun v35 ho35=>?_);refine YJ ?_;refine Z5 (En.freeze (l:=35) (t:=2) rfl rfl) fun _=>?_;refine Z1 results35 rfl rfl ?_;rw [Zez _ _ _ (show (evA l).length=(Gv (evA l)).length from (Rs _).symm),show evX l=(Gv (evA l),0) by unfold evX;rw [Qb hv,Qb oM]])))
theorem ZnN {x:Var} (h:K4 x=true):1≤x.count∧x.count≤1048576∧x.acts.length≤200:=by
 unfold K4 at h
 simp only [Xi,U8] at h
 exact ⟨h.1.2,h.2,h.1.1.1⟩
theorem Zky {x:Var} (h:K4 x=true):ZqM x.acts∧-9223372036854775808≤x.count∧x.count≤9223372036854775807:=by
 have hb:=ZnN h
 unfold K4 at h
 simp only [Xi,U8] at h
 exact ⟨⟨oM,fun s hs=>by have:=T6 (Xm.1 h.1.1.2 s hs);omega⟩,oM,oM⟩
theorem Ej {sL hP:List (Nat×Ent)} {l e k n:Nat} {h:Value} {cs:List PV} (cs':List PV) (hl:lk hP l=some (h, .own e k n cs)) (hlen:cs'.length=cs.length) (hc:∀(i:Nat) (p p':PV),cs[i]? =some p→cs'[i]? =some p'→p'=p∨(p= .val (.slice none 0 0)∧p'= .sl 0 [])):J1 (⟨sL,hP⟩:St) (fun _:Unit=>⟨sL,put l (h, .own e k n cs') hP⟩):=fun c a w ⟨F,H⟩=>by
 refine ⟨(),F,?_⟩
 have hTr:=H.tr l _ _ hl
 obtain ⟨xs,Fs,hrow,hxl,hT,hd,hb,hF⟩:=hTr.row
 refine H.retell (fun t=>t=l) (fun t y hnT hy=>?_) (fun t y b hT' hy hb'=>?_) (fun hm t u q hT' hy=>?_) (fun t1 t2 _ _ _ h1 h2 hne=>Qc (h1.trans h2.symm) hne)
 · have n2:t≠l:=hnT;rw [ZY (Ne.symm n2)] at hy;exact ⟨hy,rfl⟩
 · subst hT';exact ⟨t,_,rfl,hl,hb'⟩
 · subst hT';rw [ZJ] at hy
   cases hy;refine .own xs Fs hrow oM (fun i x p' hx hp'=>?_) (fun i j b hi hj=>hd i j b oM oM) (fun i b hi=>hb i b oM) (fun b=>by rw [hF b,hlen]);obtain ⟨p,hp⟩:=YB hp' hlen;have hTi:=(hT i x p hx hp).anti hm;rcases hc i p p' hp hp' with rfl|⟨rfl,rfl⟩
   · exact hTi
   · have hx0:x= .slice none 0 0:=(hTi.sh rfl).vOf
     cases hTi with
     |shr _ hF=>subst hx0;exact .shr (.emp none 0 (by unfold maxLen;omega) (fun _=>rfl)) hF
theorem Ek {l:List Var} (h:validVars l=true):l.length≤300:=by
 unfold validVars at h
 rw [Xi] at h
 exact Qd h.1
theorem ZrC (l:List Var):(evA l).length≤(l.flatMap (·.acts)).length:=by
 have:=ζK (l.flatMap (·.acts)) []
 rw [Xz,XE] at this
 exact this
noncomputable def dX (l:List Var) (t:Nd):PV×Int:=if validVars l=true then (if (evA l).length≤40 then (if WH t=true then (if WH (YF t)=true then (pTr (YF t),0) else (SY,5)) else (SY,5)) else (SY,5)) else (SY,1)
theorem Zsr {l:List Var} {t:Nd} (h:validVars l=false):dX l t=(SY,1):=by unfold dX;rw [h,Qa dC]
theorem Zss {l:List Var} {t:Nd} (hv:validVars l=true) (h:40<(evA l).length):dX l t=(SY,5):=by unfold dX;rw [Qb hv,Qa oM]
theorem Zst {l:List Var} {t:Nd} (hv:validVars l=true) (h:(evA l).length≤40) (ht:WH t=false):dX l t=(SY,5):=by unfold dX;rw [Qb hv,Qb h,ht,Qa dC]
theorem Zsu {l:List Var} {t:Nd} (hv:validVars l=true) (h:(evA l).length≤40) (ht:WH t=true) (hn:WH (YF t)=false):dX l t=(SY,5):=by unfold dX;rw [Qb hv,Qb h,Qb ht,hn,Qa dC]
theorem Zsb {l:List Var} {t:Nd} (hv:validVars l=true) (h:(evA l).length≤40) (ht:WH t=true) (hn:WH (YF t)=true):dX l t=(pTr (YF t),0):=by unfold dX;rw [Qb hv,Qb h,Qb ht,Qb hn]
theorem ZrD {l:List Var} (hv:validVars l=true):((evA l).length≤40∧(evX l).2=0)∨(40<(evA l).length∧(evX l).2=5):=by
 unfold evX
 rw [Qb hv]
 by_cases h:(evA l).length≤40
 · rw [Qb h];exact .inl ⟨h,rfl⟩
 · rw [Qa h];exact .inr ⟨oM,rfl⟩
theorem Zp2 {t:Nd} (h:WH t=true):(WH (YF t)=true∧Zew t=YF t∧(P3 t).2=0)∨(WH (YF t)=false∧Zew t=nd0∧(P3 t).2=5):=by
 unfold Zew P3
 rw [Qb h,Qb h]
 cases h2:WH (YF t) with
 |true=>rw [Qb rfl,Qb rfl];exact .inl ⟨rfl,rfl,rfl⟩
 |false=>rw [Qa dC,Qa dC];exact .inr ⟨rfl,rfl,rfl⟩
theorem Zgm (l :List Var) (t:Nd) (hf:ζ5 l) (hl:l.length≤1000000) (hF:FitT t) (hT:validVars l=true→(evA l).length≤40→AF prog 36 [Yx (TW l)] (· = .tup [pTr t,Zc 0])):AF prog 12 [Yx l] (· = .tup [(dX l t).1,Zc (dX l t).2]):=by
 have e0:∀u:Nd,pTr u= .agg [Zc u.op,Zt u.act,Yt u.l]:=fun _=>rfl
 refine AF.b1 50 func12 rfl ntmps12 (Xa rfl) fun w0 M0 v0 _=>?_
 refine Zh ?_
 refine Zx zT 3 2 Wl fun h2=>?_;refine LA ?_;refine cV (cA call34 (GQ l hf)) ?_;refine YX ?_ ?_<;>intro hb11
 · (
 refine Zh ?_;refine xM (ZX Li) ?_;refine Zu 2 Zk ?_;refine ZB ?_;refine YG (k:=3) 2 results12 ?_;rw [Zsr (by simpa using hb11)];rfl)
 · (
 (have hv:validVars l=true:=by simpa using hb11);have hA:=ZnM l hf;have hor:=ZrD hv;obtain ⟨⟨ks,e⟩,hE⟩:∃y,y=evX l:=⟨_,rfl⟩;rw [←hE] at hA hor;dsimp only at hA hor;refine Wh ?_;refine cP 15 (cA call35 (hA)) fun va15 vb15 hva15 hvb15=>?_;cases hvb15;refine JY ?_;refine GG ?_ ?_<;>intro hb19
 · (
 obtain ⟨h40,rfl⟩:40<(evA l).length∧e=5:=oM;refine Zh ?_;refine xL 20 (ZX Li) (xL 21 Za ?_);refine Zu 2 Zk ?_;refine ZB ?_;refine YG (k:=3) 2 results12 ?_;rw [Zss hv h40];rfl)
 · (
 have h40:(evA l).length≤40:=oM;have hTt:=hT hv h40;rw [e0] at hTt;refine Wh ?_;refine cU (cA call37 (Zh1 l hl)) fun v24=>?_;refine cP 25 (cA call36 (hTt)) fun va25 vb25 hva25 hvb25=>?_;cases hvb25;refine Y' ?_;refine Zx zT 3 6 Wl fun h6=>?_;refine Zu 6 Zk ?_;refine LA ?_;refine xL (v:= .bool false) (p:= .val (.bool false)) 29 (Pa (a:=0) (b:=0)) ?_;refine ZF ?_;refine cCf ?_;refine Zh ?_;refine yU (Zj 6 Zk) fun v32=>?_;refine cV (cA call16 (TJ t hF)) ?_;refine YX ?_ ?_<;>intro hb34
 · (
 refine Zh ?_;refine xM (ZX Li) ?_;refine Zu 2 Zk ?_;refine ZB ?_;refine YG (k:=3) 2 results12 ?_;rw [Zst hv h40 (by simpa using hb34)];rfl)
 · (
 (have hvt:WH t=true:=by simpa using hb34);have hN:=(Zgd t hF).reread (ZpV t) (ZhX (ZpU t));have hfn:=ZnD hF;have hnr:=Zp2 hvt;obtain ⟨n,hn⟩:∃n,n=Zew t:=⟨_,rfl⟩;obtain ⟨e2,he2⟩:∃n,n=(P3 t).2:=⟨_,rfl⟩;rw [←hn,←he2] at hN hnr;rw [←hn] at hfn;rw [e0 n] at hN;refine Zh ?_;refine yU (Zj 6 Zk) fun v37=>?_;refine cP 38 (cA call38 (hN)) fun va38 vb38 hva38 hvb38=>?_;cases hvb38;refine Y' ?_;refine Zx zT 3 8 Wl fun h8=>?_;refine Zu 8 Zk ?_;refine ZQ ?_;(refine Y' ?_<;>(refine bLd 43 (fun hb43=>?_) (fun hb43=>?_)<;>(first|refine kL ?_|refine yU (Zj 8 Zk) fun v44=>?_))<;>(first|refine kL ?_|(refine cV (cA call16 (TJ n hfn)) ?_))<;>refine Wz ?_)<;>(
 refine cX ?_ ?_<;>intro hb47
 · (
 refine Zh ?_;refine xM (ZX Li) ?_;refine Zu 2 Zk ?_;refine ZB ?_;refine YG (k:=3) 2 results12 ?_;rw [Zsu hv h40 hvt (hnr.elim (fun h=>Qc h.1 (by rw [←h.2.1];first|(exfalso;exact hb43 h.2.2)|(simpa using hb47))) fun h=>h.1)];rfl)
 · first|exact bN hb47|(
 refine Zh ?_;refine yU (Zj 8 Zk) fun v49=>?_;refine Zu 2 Zk ?_;refine ZB ?_;refine YG (k:=3) 2 results12 ?_;obtain ⟨h8,rfl,_⟩:WH (YF t)=true∧n=YF t∧e2=0:=hnr.resolve_right fun h=>Qc h.2.2 (by have:=hb43;omega);rw [Zsb hv h40 hvt h8];rfl)))))
theorem ZL:AggT prog 58 2=true:=kR
theorem Ya:FldT prog 58 0 0=true:=kR
theorem Jv:FldT prog 58 1 1=true:=kR
theorem Ll:ZeroT prog 58 (.agg #[(.slice none 0 0),(.bool false)]):=by unfold ZeroT;kernel_rfl
def cWd (x:List (List BA)×Bool):List PV:=[WF x.1,Zv x.2]
def pWd (x:List (List BA)×Bool):PV:= .agg (cWd x)
structure GX (x:List (List BA)×Bool):Prop where
 len:x.1.length≤301
 ok:x.2=false→x.1.length≤300∧(x.1.Pairwise fun a b=>cmpStrs a b<0)∧∀w∈x.1,w.length≤200
theorem ZeA (w:List BA):∀l:List (List BA),(TF w l).length≤l.length+1
 |[]=>by rw [TF];exact Xe _
 | x::l=>by
   have:=ZeA w l;rw [TF];split
   · simp;omega
   · split<;>simp
theorem GX.put {x:List (List BA)×Bool} (h:GX x) (w:List BA):GX (Kg x w):=by
 unfold Kg
 by_cases hb:x.2=true
 · rw [Qb hb];exact h
 · rw [Qa hb];obtain ⟨h1,h2,h4⟩:=h.ok (VN.2 hb);have h3:=ZeA w x.1;split
   · exact h
   · refine ⟨by dsimp only;omega,fun hf=>?_⟩;dsimp only at hf ⊢;rw [Uc,decide_eq_false_iff_not,decide_eq_false_iff_not] at hf;refine ⟨oM,ζx h2,fun v hv=>?_⟩;rcases Rn.1 hv with rfl|hv
     · omega
     · exact h4 v hv
theorem GX.puts {x:List (List BA)×Bool} (h:GX x):∀ws:List (List BA),GX (ws.foldl Kg x):=fun ws=>by
 induction ws generalizing x with
 |nil=>exact h
 |cons w ws ih=>exact ih (h.put w)
theorem GX.nil:GX ([],false):=⟨Xg _,fun _=>⟨Xg _, .nil,fun w h=>by cases h⟩⟩
theorem Zh2 {w:List BA}:∀{l:List (List BA)} {k:Nat},k≤l.length→(∀j x,j<k→l[j]? =some x→cmpStrs x w<0)→(∀y,l[k]? =some y→¬cmpStrs y w<0∧cmpStrs y w≠0)→TF w l=l.take k++w::l.drop k
 | [],k,hk,_,_=>by
   have:k=0:=by simpa using hk
   subst this;rw [TF];rfl
 | x::l,0,_,_,h2=>by
   obtain ⟨h3,h4⟩:=h2 x rfl;rw [TF,Qa h3,Qa h4];rfl
 | x::l,k+1,hk,h1,h2=>by
   rw [TF,Qb (h1 0 x (Vj _) rfl),Zh2 (l:=l) (k:=k) (by simpa using hk) (fun j y hj hy=>h1 (j+1) y oM (by simpa using hy)) (fun y hy=>h2 y (by simpa using hy))];rfl
theorem ZrE {w:List BA} {l:List (List BA)} {k:Nat} (ha:l.Pairwise fun a b=>cmpStrs a b<0) (h1:∀j x,j<k→l[j]? =some x→cmpStrs x w<0) (h2:∀y,l[k]? =some y→¬cmpStrs y w<0∧cmpStrs y w≠0):Zac l w=false:=by
 cases h:Zac l w with
 |false=>rfl
 | true=>
   exfalso;obtain ⟨j,hj⟩:=XR (TG.1 h);rcases VG j k with hlt|rfl|hgt
   · exact PU w (h1 j w hlt hj)
   · exact (h2 w hj).2 (YH.2 rfl)
   · obtain ⟨hj1,hj2⟩:=Xr.1 hj;have hkl:k<l.length:=oM;have:=XS.1 ha k j hkl hj1 hgt;rw [hj2] at this;exact (h2 l[k] (Xx hkl)).1 this
theorem El (l:List (List BA)):(l.map Zs).all En.one=true:=by
 rw [VF,Xm];intro x _;rfl
theorem ZeB (l:List (List BA)):(l.map Zs).length=l.length*1:=by rw [Xb,Xy]
theorem Zgn (e k:Nat) (l:List (List BA)):share (PV.own e 1 (0+(l.length-k)) ([]++((l.map Zs).drop (k*1)).take ((l.length-k)*1)))= .sl (0+(l.length-k)) ((l.drop k).map Zs):=by
 rw [share,Z7,XQ,Xy,Xy,Xq sM,←List.map_drop,Xt];rfl
theorem Zkz (e:Nat) {k:Nat} {l:List (List BA)} {w:List BA} (hk:k≤l.length):share (PV.own e 1 (0+(k-0)+1+(0+(l.length-k))) ([]++((l.map Zs).drop (0*1)).take ((k-0)*1)++[Zs w]++(l.drop k).map Zs))=WF (l.take k++w::l.drop k):=by
 rw [share,Z7]
 unfold WF
 have e1:(l.take k++w::l.drop k).length=0+(k-0)+1+(0+(l.length-k)):=by simp;omega
 rw [e1]
 congr 1
 have hs:∀m:List (List BA),(m.map Zs).map share=m.map Zs:=fun m=>by rw [Xt];rfl
 simp only [XQ,X8,Vk,Vx,Xy,←List.map_take,XC,hs,Xj,Vl]
 rw [XA];rfl
theorem P7 (x :List (List BA)×Bool) (w:List BA) (hG:GX x):AF prog 54 [pWd x,Zs w] (· =pWd (Kg x w)):=by
 have e0:pWd x= .agg [WF x.1,Zv x.2]:=rfl
 have f5:=ZeB x.1
 have hlen:=hG.len
 rw [e0]
 refine AF.b2 71 func54 rfl ntmps54 (Xa rfl) fun w0 M0 v0 v1 _ _=>?_
 refine Zh ?_
 refine ZV 2 2 fun h2=>?_;refine Zx [(.slice none 0 0),(.bool false)] 2 4 Ll fun h4=>?_;refine Yc ?_
 refine xM (Zb 2 Jv) ?_;refine yV (Ze 2 Yk) ?_;refine ZR ?_ ?_<;>intro hb8
 · (
 refine Zh ?_;refine yU (Zj 2 ZL) fun v9=>?_;refine Zu 4 ZL ?_;refine ZF ?_;refine Z4 (k:=2) 4 results54 ?_;unfold Kg;rw [Qb (by simpa using hb8)];rfl)
 · (
 (have hb:x.2=false:=by simpa using hb8);obtain ⟨hl3,hA,_⟩:=hG.ok hb;refine ZI ?_;refine Yd (ι:={k:Nat//k≤x.1.length∧∀j y,j<k→x.1[j]? =some y→cmpStrs y w<0}) (fun k=>⟨[(1,_,_),(2,_,_),(4,_,_),(5, .int .i64 k.1,Zc k.1)],[(2,_,_),(4,_,_)]⟩) (fun k=>x.1.length-k.1) ⟨0,Xg _,fun j x h=>Qc h (Ut j)⟩ ?_;rintro ⟨k,hk,hkp⟩;dsimp only;obtain ⟨y,hy0⟩:∃y,y=x.1[k]?.getD w:=⟨_,rfl⟩;(have hd:k<x.1.length→x.1[k]? =some y:=fun h=>by obtain ⟨z,hz⟩:=get_some h;rw [hy0,hz];rfl);have e1:k<x.1.length→(x.1.map Zs)[k*1]? =some (Zs y):=fun h=>Z8 (f:=Zs) (hd h);clear hy0;refine Zh ?_;(refine xL 10 Za (xL 11 (Zb 2 Ya) ?_)<;>refine yU (Ze 2 Yp) fun v12=>?_<;>refine xL 13 (Zy Ym) (xL 14 Wq (xL 15 Za ?_))<;>(refine bLd 15 (fun hb15=>?_) (fun hb15=>?_)<;>(first|refine kL ?_|refine xM (Zb 2 Ya) ?_))<;>(first|refine kL ?_|refine yU (Ze 2 Yp) fun v17=>?_)<;>refine kZ ?_<;>(first|refine kL ?_|refine xM (Zg Ym) ?_)<;>(first|refine kL ?_|refine yU (ZG ZN (hp:=e1 oM)) fun v20=>?_)<;>refine kZ ?_<;>(first|refine kL ?_|(refine cV (cA call57 (Cw y w)) ?_))<;>refine Wz ?_)<;>(
 refine cX ?_ ?_<;>intro hb24
 · first|exact bN hb24|(
 refine Y5 ?_;refine Yh (
  ⟨k+1,oM,fun j z hj hz=>by
   by_cases e:j=k
   · subst e;rw [hd oM] at hz;cases hz;first|exact hb24|exact hb23
   · exact hkp j z oM hz⟩
  ))
 · (
 refine nav ?_;have hnl:∀z,x.1[k]? =some z→¬cmpStrs z w<0:=fun z hz=>by
  have hlt:=Zd hz;rw [hd hlt] at hz;cases hz
  first
   |exact hb24
   |(exfalso;omega)
 (refine Zi ?_<;>refine xL 27 Za (xL 28 (Zb 2 Ya) ?_)<;>refine yU (Ze 2 Yp) fun v29=>?_<;>refine xL 30 (Zy Ym) (xL 31 Wq (xL 32 Za ?_))<;>(refine bLd 32 (fun hb32=>?_) (fun hb32=>?_)<;>(first|refine kL ?_|refine xM (Zb 2 Ya) ?_))<;>(first|refine kL ?_|refine yU (Ze 2 Yp) fun v34=>?_)<;>refine kZ ?_<;>(first|refine kL ?_|refine xM (Zg Ym) ?_)<;>(first|refine kL ?_|refine yU (ZG ZN (hp:=e1 oM)) fun v37=>?_)<;>refine kZ ?_<;>(first|refine kL ?_|(refine cV (cA call29 (ZgI y w)) ?_))<;>refine ZB ?_)<;>(
 refine cX ?_ ?_<;>intro hb40
 · first|exact bN hb40|(
 refine Zh ?_;refine yU (Zj 2 ZL) fun v41=>?_;refine Zu 4 ZL ?_;refine ZF ?_;refine Z4 (k:=2) 4 results54 ?_;have hlt:k<x.1.length:=oM;have hz:cmpStrs y w=0:=by first|exact hb40|simpa using hb40
 have hh:Zac x.1 w=true:=TG.2 (by
  have h9:=hd hlt;rw [YH.1 hz] at h9;exact Xc h9)
 unfold Kg;rw [hb,Qa dC,Qb hh];show PV.agg [WF x.1,Zv false]=PV.agg [WF x.1,Zv x.2];rw [hb])
 · (
 refine nav ?_;have hne:∀z,x.1[k]? =some z→¬cmpStrs z w<0∧cmpStrs z w≠0:=fun z hz=>⟨hnl z hz,fun he=>by
  have hlt:=Zd hz;rw [hd hlt] at hz;cases hz
  first
   |(exfalso;omega)
   |exact hb40 he
   |(simp [he] at hb40;done)⟩
 have hpw:=Zh2 hk hkp hne;have hno:=ZrE hA hkp hne;have f6:((x.1.drop k).map Zs).length=(0+(x.1.length-k))*1:=sM;have f7:=El (x.1.drop k);(have f1:(((x.1.map Zs).drop (0*1)).take ((k-0)*1)).length=(k-0)*1:=by simp;omega);have f2:(((x.1.map Zs).drop (0*1)).take ((k-0)*1)).all En.one=true:=by
  rw [Xm];intro p hp;exact Xm.1 (El x.1) p (UA (VA hp))
 have f3:(((x.1.map Zs).drop (k*1)).take ((x.1.length-k)*1)).length=(x.1.length-k)*1:=sM;have f4:(((x.1.map Zs).drop (k*1)).take ((x.1.length-k)*1)).all En.one=true:=by
  rw [Xm];intro p hp;exact Xm.1 (El x.1) p (UA (VA hp))
 refine Zi ?_;refine HG 42 Jq fun h42 ho42=>?_;refine xM (Zb 2 Ya) ?_;refine yU (Ze 2 Yp) fun v44=>?_;refine Yv ?_;refine xM (Ge (i:=k) (j:=x.1.length) Ym rfl rfl rfl rfl hk (Xe _) f5) ?_;refine G1 42 47 Jq (fun h47 ho47=>?_) f3 f4;refine ZQ ?_;refine HG 48 Jq fun h48 ho48=>?_;refine xM (Zb 2 Ya) ?_;refine yU (Ze 2 Yp) fun v50=>?_;refine Yv ?_;refine xM (Ge (i:=0) (j:=k) Ym rfl rfl rfl rfl (Xg _) hk f5) ?_;refine G1 48 53 Jq (fun h53 ho53=>?_) f1 f2;refine Yv ?_;refine Ly (xs:=[_]) 55 Jq fun h55 ho55=>?_;refine WN 53 55 56 Jq fun h56 ho56=>?_;refine Yv ?_;refine Zp (En.freeze (l:=47) (t:=57) rfl rfl) fun _=>?_;refine Zp (Kt (t:=57) (p':= .sl (0+(x.1.length-k)) ((x.1.drop k).map Zs)) rfl (Zgn _ _ _)) fun _=>?_;refine G1 56 58 Jq (fun h58 ho58=>?_) f6 f7;refine Zp (En.freeze (l:=58) (t:=58) rfl rfl) fun _=>?_;refine Zp (Kt (t:=58) (p':=WF (TF w x.1)) rfl (by rw [hpw];exact Zkz _ hk)) fun _=>?_;refine xM (Zb 2 Ya) ?_;refine GC 2 Yp ZaG ?_;refine Yc ?_;(refine xM (Zb 2 Ya) ?_<;>refine yU (Ze 2 Yp) fun v61=>?_<;>refine xL 62 (Zy Ym) (xL 63 Rc (xL 64 Za ?_))<;>(refine bLd 64 (fun hb64=>?_) (fun hb64=>?_)<;>refine kZ ?_)<;>(first|refine kL ?_|refine xM (Zy Zn) ?_)<;>refine kZ ?_<;>refine xL 68 GW (xL 69 (Zb 2 Jv) ?_)<;>refine GC 2 Yk PF ?_<;>refine ZF ?_)<;>(
 refine Zi ?_;refine yU (Zj 2 ZL) fun v70=>?_;refine Zu 4 ZL ?_;refine ZF ?_;refine Z4 (k:=2) 4 results54 ?_;unfold Kg;rw [hb,Qa dC,hno,Qa dC];unfold pWd cWd
 first
  |(rw [U9 (show 300<(TF w x.1).length by omega),Bool.true_or];rfl)
  |(rw [U' (show ¬300<(TF w x.1).length by omega),V',show decide (200<w.length)=decide ((200:Int)<(w.length:Int)) from decide_eq_decide.2 oM];rfl)))))))
theorem ZkA (a b:List BA) (h:a.length+b.length≤1000000):AF prog 55 [Zs a,Zs b] (· = .own 9 1 (0+a.length+b.length) ([]++a.map Zt++b.map Zt)):=by
 have f1:∀l:List BA,(l.map Zt).length=l.length*1:=fun l=>by rw [Xb,Xy]
 have f2:∀l:List BA,(l.map Zt).all En.one=true:=fun l=>by rw [VF,Xm];intro x _;rfl
 have f3:=f1 a
 have f4:=f2 a
 have f5:=f1 b
 have f6:=f2 b
 refine AF.b2 10 func55 rfl ntmps55 (Xa rfl) fun w0 M0 v0 v1 _ _=>?_
 refine YK ?_
 refine HG 5 ZW fun h5 ho5=>?_;refine Yv ?_;refine G1 5 7 ZW (fun h7 ho7=>?_) f3 f4;refine Yv ?_;refine G1 7 9 ZW (fun h9 ho9=>?_) f5 f6;refine ZB ?_
 exact K3 9 results55 rfl rfl rfl
theorem Ts (a b:List BA) (h:a.length+b.length≤1000000):AF prog 55 [Zs a,Zs b] (· =Zs (a++b)):=(ZkA a b h).shared (by
 rw [XQ,←XC,Wb]
 unfold Zs
 rw [Xf,XE])
theorem Zh3 (u:BA) (a:List BA):PV.sl (1-0) ((((u::a).map Zt).drop (0*1)).take ((1-0)*1))=Zs [u]:=rfl
theorem ZeC (u:BA) (a:List BA):PV.sl ((u::a).length-1) ((((u::a).map Zt).drop (1*1)).take (((u::a).length-1)*1))=Zs a:=by
 unfold Zs
 rw [Xy,Xy,Xl,Uu,Xj,List.drop_one,List.tail_cons,Xq sM]
theorem ZnO {x:List (List BA)×Bool} (h:x.2=true) (first a b:List BA):Ro x first a b=x:=by rw [E7 _ _ _ _ _ rfl,On _ h]
theorem ZnP {x:List (List BA)×Bool} {first a b:List BA} (h:a.length=0∨b.length=0):Ro x first a b=Kg x ((first++a)++b):=by
 rcases h with h|h
 · rw [XB h,Ro,Xu]
 · rw [XB h,Xu]
   cases a with
   |nil=>rw [Ro]
   |cons u a=>rw [Ro]
theorem GX.mix {x:List (List BA)×Bool} (h:GX x) (first a b:List BA):GX (Ro x first a b):=by rw [E7 _ _ _ _ _ rfl];exact h.puts _
def ZrF (n:Nat):Prop:=∀(a b first:List BA) (x:List (List BA)×Bool),a.length+b.length=n→first.length+n≤100000→GX x→AF prog 56 [pWd x,Zs first,Zs a,Zs b] (· =pWd (Ro x first a b))
theorem ZeD (n:Nat) (ih:∀m,m<n→ZrF m):ZrF n:=fun a b first x hn hfn hG=>by
 have e0:pWd x= .agg [WF x.1,Zv x.2]:=rfl
 have hJ1:=Ts first a oM
 have hJ2:=Ts (first++a) b (by rw [Xf];omega)
 have hP:=P7 x ((first++a)++b) hG
 rw [e0] at hP ⊢
 refine AF.b4 45 func56 rfl ntmps56 (Xa rfl) fun w0 M0 v0 v1 v2 v3 _ _ _ _=>?_
 refine Zh ?_
 refine ZV 4 2 fun h4=>?_;refine Zx [(.slice none 0 0),(.bool false)] 2 8 Ll fun h8=>?_;refine Yc ?_
 refine xM (Zb 4 Jv) ?_;refine yV (Ze 4 Yk) ?_;refine ZR ?_ ?_<;>intro hb10
 · (
 refine Zh ?_;refine yU (Zj 4 ZL) fun v11=>?_;refine Zu 8 ZL ?_;refine ZF ?_;refine Z4 (k:=2) 8 results56 ?_;rw [ZnO (by simpa using hb10)];rfl)
 · (
 (have hb:x.2=false:=by simpa using hb10);refine Zh ?_;(refine xL 12 Za (xL 13 (Zy Zn) (xL 14 SN (xL 15 Za ?_)))<;>(refine bLd 15 (fun hb15=>?_) (fun hb15=>?_)<;>refine kZ ?_)<;>(first|refine kL ?_|refine xM (Zy Zn) ?_)<;>refine Wz ?_)<;>(
 refine cX ?_ ?_<;>intro hb19
 · (
 refine nav ?_;refine We [] [4] ?_<;>(refine yD 0 rfl (Zj 4 ZL) fun v20 h=>?_;cases h)<;>refine gDx 1 ?_<;>refine gDx 2 ?_<;>refine gDx 4 ?_<;>(refine Z6 3 kR ?_)<;>(refine Yz (d:=23) rfl (cA call55 hJ1) fun v23 h=>?_;cases h)<;>(refine Z6 5 kR ?_)<;>(refine Yz (d:=25) rfl (cA call55 hJ2) fun v25 h=>?_;cases h)<;>(refine Z6 6 kR ?_)<;>(refine Yz (d:=26) rfl (cA call54 hP) fun v26 h=>?_;cases h)<;>(refine aDr 7 fun bk=>?_)<;>refine Zu 8 ZL ?_<;>refine bE bk ?_<;>refine Kz ?_;refine Z4 (k:=2) 8 results56 ?_;rw [ZnP oM];rfl)
 · first|exact bN hb19|(
 obtain ⟨u,a',rfl⟩:∃u a',a=u::a':=List.exists_cons_of_ne_nil (fun h=>by rw [h] at hb15;exact hb15 rfl);obtain ⟨v,b',rfl⟩:∃v b',b=v::b':=List.exists_cons_of_ne_nil (fun h=>by rw [h] at hb19;exact hb19 rfl);rw [Xl,Xl] at hn;have hK1:=Ts first [u] (by simp;omega)
 have hK2:=Ts first [v] (by simp;omega)
 have hM1:=ih (a'.length+(v::b').length) (by rw [Xl];omega) a' (v::b') (first++[u]) x rfl (by simp;omega) hG;obtain ⟨x',hx'⟩:∃x',x'=Ro x (first++[u]) a' (v::b'):=⟨_,rfl⟩;(have hG':GX x':=by rw [hx'];exact hG.mix _ _ _);have hM2:=ih ((u::a').length+b'.length) (by rw [Xl];omega) (u::a') b' (first++[v]) x' rfl (by simp;omega) hG';have hfin:Ro x first (u::a') (v::b')=Ro x' (first++[v]) (u::a') b':=by rw [Ro,hb,Qa dC,hx']
 rw [←hx'] at hM1;have e1:pWd x'= .agg [WF x'.1,Zv x'.2]:=rfl;rw [e0,e1,←ZeC u a'] at hM1;rw [e1,←ZeC v b'] at hM2;rw [←Zh3 u a'] at hK1;rw [←Zh3 v b'] at hK2;(have f5:((u::a').map Zt).length=(u::a').length*1:=by rw [Xb,Xy]);(have f6:((v::b').map Zt).length=(v::b').length*1:=by rw [Xb,Xy]);refine nav ?_;(refine We [9] [4] ?_<;>(refine yD 0 rfl (Zj 4 ZL) fun v27 h=>?_;cases h)<;>refine gDx 1 ?_<;>refine gDx 2 ?_<;>refine xD 3 rfl (Ge (i:=0) (j:=1) Zn rfl rfl rfl rfl (Xg _) (Vj _) f5) ?_<;>refine gDx 5 ?_<;>refine xD 6 rfl (Ge (i:=1) (j:=(u::a').length) Zn rfl rfl rfl rfl (Vj _) (Xe _) f5) ?_<;>refine gDx 7 ?_<;>(refine Z6 4 kR ?_)<;>(refine Yz (d:=31) rfl (cA call55 hK1) fun v31 h=>?_;cases h)<;>(refine Z6 8 kR ?_)<;>(refine Yz (d:=35) rfl (cA call56 hM1) fun v35 h=>?_;cases h)<;>(refine Z6 9 kR ?_)<;>(refine Kj rfl rfl kR fun DQ bk=>?_)<;>refine Zu 4 ZL ?_<;>refine Ww (bk _ (nav ?_))<;>try dsimp only)
 refine We [] [4] ?_<;>(refine yD 0 rfl (Zj 4 ZL) fun v36 h=>?_;cases h)<;>refine gDx 1 ?_<;>refine gDx 2 ?_<;>refine xD 3 rfl (Ge (i:=0) (j:=1) Zn rfl rfl rfl rfl (Xg _) (Vj _) f6) ?_<;>refine gDx 5 ?_<;>refine gDx 6 ?_<;>refine xD 7 rfl (Ge (i:=1) (j:=(v::b').length) Zn rfl rfl rfl rfl (Vj _) (Xe _) f6) ?_<;>(refine Z6 4 kR ?_)<;>(refine Yz (d:=40) rfl (cA call55 hK2) fun v40 h=>?_;cases h)<;>(refine Z6 8 kR ?_)<;>(refine Yz (d:=44) rfl (cA call56 hM2) fun v44 h=>?_;cases h)<;>(refine aDr 9 fun bk=>?_)<;>refine Zu 8 ZL ?_<;>refine bE bk ?_<;>refine Kz ?_;refine Z4 (k:=2) 8 results56 ?_;rw [hfin];rfl)))
theorem ZnQ:∀n,ZrF n:=fun n=>Nat.strongRecOn n ZeD
theorem Zby:ElT prog 83 58 2 32 (.agg #[(.slice none 0 0),(.bool false)]):=⟨underlying83,by kernel_rfl,rfl,dC⟩
theorem Kk:SlT prog 83 58 2=true:=kR
theorem ZkB:J2 prog 58=some ((.agg #[(.slice none 0 0),(.bool false)]),([0,1]:List Nat).map fun o=>(o,1)):=kR
theorem Hv (x:List (List BA)×Bool):(cWd x).length=2:=rfl
theorem GX.part {o:Int} {out p:List (List BA)×Bool} (h:GX out):GX (JM o out p):=by
 unfold JM
 split
 · exact h.puts _
 · split
   · exact GX.nil.puts _
   · exact GX.nil.puts _
theorem GX.fold {o:Int}:∀(ps:List (List (List BA)×Bool)) {out:List (List BA)×Bool},GX out→GX (ps.foldl (fun out p=>if out.2 then out else JM o out p) out)
 |[],_,h=>h
 | p::ps,out,h=>by
   rw [Vg];split
   · exact GX.fold ps h
   · exact GX.fold ps h.part
theorem GX.com {o:Int} {ps:List (List (List BA)×Bool)} (h:∀p∈ps,GX p):GX (ζy o ps):=by
 unfold ζy
 split
 · exact GX.nil.puts _
 · refine GX.fold _ ?_
   cases ps with
   |nil=>exact GX.nil
   |cons p ps=>exact h p (Xs ..)
theorem Zcp:∀t:Nd,GX (Z3 t):=Nd.ind fun o a l ih=>by
 rw [Z3,Hg]
 split
 · exact ⟨show 1≤301 by decide,fun _=>⟨show 1≤300 by decide,Vu _ _,fun w hw=>by rw [Xn] at hw;subst hw;show 1≤200;decide⟩⟩
 · have hall:∀p∈l.map Z3,GX p:=fun p hp=>by
    obtain ⟨x,hx,rfl⟩:=Xh.1 hp;exact ih x hx
   unfold goX
   cases hf:(l.map Z3).find? fun p=>p.2 with
   |some p=>exact hall p (List.mem_of_find?_eq_some hf)
   |none=>exact GX.com hall
theorem ZrG {o:Int} {l:List Nd} {i:Nat} {x:Nd} (hx:l[i]? =some x) (h1:∀y∈l.take i,(Z3 y).2=false) (hb:(Z3 x).2=true):goX o (l.map Z3)=Z3 x:=by
 unfold goX
 have :(l.map Z3).find? (fun p=>p.2)=some (Z3 x):=by
  induction l generalizing i with
  |nil=>simp at hx
  | cons y l ih=>
    cases i with
    |zero=>cases hx;rw [Xj,List.find?_cons,hb]
    | succ i=>
      rw [Xj,List.find?_cons,h1 y sM];exact ih (by simpa using hx) fun z hz=>h1 z (by rw [Uv];exact Xw _ hz)
 rw [this];rfl
theorem Zsc {o:Int} {l:List Nd} (h1:∀y∈l,(Z3 y).2=false):goX o (l.map Z3)=ζy o (l.map Z3):=by
 unfold goX
 have:(l.map Z3).find? (fun p=>p.2)=none:=List.find?_eq_none.2 fun p hp=>by
  obtain ⟨y,hy,rfl⟩:=Xh.1 hp;rw [h1 y hy];decide
 rw [this];rfl
def ZnR (p q:List (List BA)) (a:List BA):List (List BA):=a::q.flatMap fun k=>p.map fun j=>(a++k)++j
def Pe (o:Int) (a:List BA) (b:List BA):List (List BA):=if o=3 then [a++b] else mixW a b
theorem ZkC {o:Int} (h4:¬o=4) (out p:List (List BA)×Bool):JM o out p=(out.1.flatMap fun a=>p.1.flatMap (Pe o a)).foldl Kg ([],false):=by
 unfold JM
 rw [Qa h4]
 have e:∀a,p.1.flatMap (Pe o a)=if o=3 then p.1.map (a++ ·) else p.1.flatMap (mixW a):=fun a=>by
  by_cases h:o=3
  · rw [Qb h];(have:Pe o a=fun b=>[a++b]:=by funext b;unfold Pe;rw [Qb h]);rw [this,List.map_eq_flatMap]
  · rw [Qa h];(have:Pe o a=mixW a:=by funext b;unfold Pe;rw [Qa h]);rw [this]
 simp only [e]
 by_cases h:o=3
 · rw [Qb h];simp only [Qb h]
 · rw [Qa h];simp only [Qa h]
theorem Gx {α:Type} (f:α→List (List BA)) {l:List α} {k:Nat} {a:α} (h:l[k]? =some a) (x:List (List BA)×Bool):((l.take (k+1)).flatMap f).foldl Kg x=(f a).foldl Kg (((l.take k).flatMap f).foldl Kg x):=by
 rw [Zw h,XT,Vp]
 simp
theorem ZeE {α:Type} (f:α→List (List BA)) {l:List α} {k:Nat} {x:List (List BA)×Bool} (h:l.length≤k∨(((l.take k).flatMap f).foldl Kg x).2=true):((l.take k).flatMap f).foldl Kg x=(l.flatMap f).foldl Kg x:=by
 rcases h with h|h
 · rw [Xq h]
 · conv=>rhs;rw [←X5 k l,XT,Vp]
   rw [On _ h]
theorem ZkD {o:Int} {ps:List (List (List BA)×Bool)} {k:Nat} {p:List (List BA)×Bool} (h:ps[k]? =some p) (hk:1≤k) (x:List (List BA)×Bool):((ps.take (k+1)).drop 1).foldl (fun out p=>if out.2 then out else JM o out p) x=(fun out p=>if out.2 then out else JM o out p) (((ps.take k).drop 1).foldl (fun out p=>if out.2 then out else JM o out p) x) p:=by
 rw [Zw h,U4 (by rw [XG];have:=Zd h;omega),Vp];rfl
theorem Zai {o:Int} {ps:List (List (List BA)×Bool)} {k:Nat} {x y:List (List BA)×Bool} (h:((ps.take k).drop 1).foldl (fun out p=>if out.2 then out else JM o out p) x=y) (hb:y.2=true) (hk:1≤k):(ps.drop 1).foldl (fun out p=>if out.2 then out else JM o out p) x=y:=by
 rcases XD k ps.length with hlt|hge
 · have e:ps.drop 1=(ps.take k).drop 1++ps.drop k:=by
    conv=>lhs;rw [←X5 k ps]
    rw [U4 (by rw [XG];omega)]
   rw [e,Vp,h,Oo _ hb]
 · rw [Xq hge] at h;exact h
theorem ZkE (e n:Nat) (l:List (List (List BA)×Bool)):share (.own e 2 n (l.flatMap cWd))= .sl n (l.flatMap cWd):=by
 rw [share,Z7,Uw];rfl
theorem Zp3 {l:List Nd} {k:Nat} {x:Nd} (h:l[k]? =some x):((l.take k).map Z3).flatMap cWd++cWd (Z3 x)=((l.take (k+1)).map Z3).flatMap cWd:=by
 rw [Zw h,XC,XT];simp
theorem ZnS (i:Nat) {p p':PV} {cs:List PV} (h1:(PV.val (.slice none 0 0)::cs)[i]? =some p) (h2:(PV.sl 0 []::cs)[i]? =some p'):p'=p∨(p= .val (.slice none 0 0)∧p'= .sl 0 []):=by
 match i with
 |0=>cases h1;cases h2;exact .inr ⟨rfl,rfl⟩
 |i+1=>rw [VO] at h1 h2;rw [h1] at h2;cases h2;exact .inl rfl
theorem AF.nil2 {P:Program} {f:Nat} {p q r:PV} {R:PV→Prop} (h:AF P f [p, .sl 0 [],q,r] R):AF P f [p, .val (.slice none 0 0),q,r] R:=fun M w vs hM hl hv=>h M w vs hM hl fun i v p' h1 h2=>by
 match i with
 |0=>exact hv 0 v p' h1 h2
 | 1=>
   cases h2;have:=(hv 1 v _ h1 rfl).vOf;subst this;exact .emp none 0 (by unfold maxLen;omega) (fun _=>rfl)
 |2=>exact hv 2 v p' h1 h2
 |3=>exact hv 3 v p' h1 h2
 |i+4=>simp at h2
theorem ZnT : ∀ (t : Nd), okT t = true→Ln t=false→szT t≤1000000→AF prog 28 [pTr t] (· =pWd (Z3 t)):=Nd.ind fun o a l ih hok hs hsz0=>by
 have ea:pTr (.mk o a l)= .agg [Zc o,Zt a,Yt l]:=rfl
 have hsz:szT (.mk o a l)=1+szL l:=by rw [szT]
 have hll:=LP l
 obtain ⟨hr,hp⟩:=Y3.1 hok
 obtain ⟨h2,hq⟩:=PT.1 hs
 have hcat:=J7 hr
 simp only [Nd.op,Nd.l] at hp h2 hq hcat
 have eW:∀x:List (List BA)×Bool,pWd x= .agg [WF x.1,Zv x.2]:=fun _=>rfl
 rw [ea]
 refine AF.b1 208 func28 rfl ntmps28 (Xa rfl) fun w0 M0 v0 _=>?_
 refine Zh ?_
 refine ZV 1 3 fun h1=>?_;refine Zx [(.slice none 0 0),(.bool false)] 2 2 Ll fun h2=>?_;refine Yc ?_
 refine xM (Zb 1 YS) ?_;refine yV (Ze 1 ZM) ?_;refine YX ?_ ?_<;>intro hb18
 · (
 refine Zh ?_;refine xM (Zb 1 Ld) ?_;refine yV (Ze 1 ZK) ?_;refine Ly (xs:=[_]) 21 ZW fun h21 ho21=>?_;refine Zp (En.freeze (l:=21) (t:=21) rfl rfl) fun _=>?_;refine Zp (Kt (t:=21) (p':=Zs [a]) rfl rfl) fun _=>?_;refine Ly (xs:=[_]) 22 Jq fun h22 ho22=>?_;refine Zp (En.freeze (l:=22) (t:=22) rfl rfl) fun _=>?_;refine Zp (Kt (t:=22) (p':=WF [[a]]) rfl rfl) fun _=>?_;refine xM (ZX ZkB) ?_;refine Zu 2 ZL ?_;refine ZF ?_;refine Z4 (k:=2) 2 results28 ?_;rw [Z3,Qb (by simpa using hb18)];rfl)
 · (
 (have ho1:¬o=1:=by simpa using hb18);refine YK ?_;refine ZB ?_;refine Zq (Wr 200 58 2 rfl) fun _=>?_;refine Yd (ι:={q:Nat×Value//q.1≤l.length∧q.2.oneCell'=true∧∀y∈l.take q.1,(Z3 y).2=false}) (fun k=>⟨[(1,_,_),(2,_,_),(3,k.1.2, .val k.1.2),(4, .int .i64 k.1.1,Zc k.1.1)],[(1,_,_),(2,_,_),(200,k.1.2, .own 58 2 k.1.1 (((l.take k.1.1).map Z3).flatMap cWd))]⟩) (fun k=>l.length-k.1.1) ⟨(0, .slice none 0 0),Xg _,rfl,fun y h=>by simp at h⟩ ?_;rintro ⟨⟨i,hv⟩,hi,hov,hnb⟩;dsimp only;dsimp only at hi hov hnb;(have hXc:(((l.take i).map Z3).flatMap cWd).length=i*2:=by rw [Yr Hv,Xb,XG,Vc hi]);refine Zh ?_;refine xL 24 Za (xL 25 (Zb 1 Yj) ?_);refine yU (Ze 1 YT) fun v26=>?_;refine xL 27 (Zy Yw) (xL 28 Wq ?_);refine ZR ?_ ?_<;>intro hb28
 · (
 obtain ⟨y,hy⟩:=gS l i;have e1:((Z9 l).drop (i*3)).take 3=[Zc y.op,Zt y.act,Yt y.l]:=ZT hy;have e2:=Yg hy;have hym:=Xc hy;have hys:=Jh hym;have hC:=ih y hym (hp y hym) (hq y hym) oM;rw [eW] at hC;refine Zh ?_;refine xM (Zb 1 Yj) ?_;refine yU (Ze 1 YT) fun v32=>?_;refine xL 33 Za (xL 34 (Zg Yw) ?_);refine yU (YD Zk) fun v35=>?_;refine cD (cA call28 (hC)) fun v36 hv36=>?_;clear hv36;refine Zx [(.slice none 0 0),(.bool false)] 2 5 Ll fun h5=>?_;refine Zu 5 ZL ?_;refine Yc ?_;refine xM (Zb 5 Jv) ?_;refine yV (Ze 5 Yk) ?_;refine ZR ?_ ?_<;>intro hb38
 · (
 refine Zh ?_;refine yU (Zj 5 ZL) fun v39=>?_;refine Zu 2 ZL ?_;refine ZF ?_;refine Z4 (k:=2) 2 results28 ?_;rw [Z3,Hg,Qa ho1,ZrG hy hnb (by simpa using hb38)];rfl)
 · (
 refine Wh ?_;refine yU (Zj 5 ZL) fun v41=>?_;refine JW 42 Zby fun h42 ho42=>?_;refine WN 200 42 43 Zby fun h43 ho43=>?_;refine Zp (Zz (l:=43) 200 rfl rfl) fun _=>?_;refine Zp (Y1 (l:=200) (p':= .own 58 2 (i+1) (((l.take (i+1)).map Z3).flatMap cWd)) rfl (by rw [←Zp3 hy];rfl)) fun _=>?_;refine Py ?_;refine Yh (
  ⟨(i+1,h43),by show i+1≤l.length;omega,ho43,fun z hz=>by
    rw [Zw hy] at hz;rcases Xd.1 hz with hz|hz
    · exact hnb z hz
    · rw [Xn] at hz;subst hz;simpa using hb38⟩
  )))
 · (
 obtain rfl:i=l.length:=oM;rw [XH] at hnb;refine Zq (En.freeze (l:=200) (t:=3) rfl rfl) fun _=>?_;refine Zq (Kt (t:=3) (p':= .sl l.length ((l.map Z3).flatMap cWd)) rfl (by rw [XH];exact ZkE _ _ _)) fun _=>?_;(have hgo:Z3 (.mk o a l)=ζy o (l.map Z3):=by rw [Z3,Hg,Qa ho1,Zsc hnb]);have hl0:0<l.length:=by
  rcases hcat with ⟨h,_⟩|⟨h,_⟩|⟨_,h⟩|⟨_,h⟩
  · omega
  · omega
  · exact Vd.2 h
  · omega
 obtain ⟨x0,hx0⟩:=get_some hl0;(have hcl:((l.map Z3).flatMap cWd).length=l.length*2:=by rw [Yr Hv,Xb]);have hP:∀(i:Nat) (x:Nd),l[i]? =some x→(l.map Z3)[i]? =some (Z3 x)∧((l.map Z3).flatMap cWd)[i*2+0]? =some (WF (Z3 x).1)∧GX (Z3 x)∧(Z3 x).2=false:=fun i x hx=>by
  (have h9:(l.map Z3)[i]? =some (Z3 x):=by rw [Xo,hx];rfl);exact ⟨h9,K6 Hv h9 dC,Zcp x,hnb x (Xc hx)⟩
 obtain ⟨hm0,ep0,hg0,hb0⟩:=hP 0 x0 hx0;have ed0:(((l.map Z3).flatMap cWd).drop (0*2)).take 2=[WF (Z3 x0).1,Zv (Z3 x0).2]:=Yu Hv _ 0 _ hm0;have ef0:=Y9 Hv hm0;refine Zh ?_;refine xL 44 Za (xL 45 (Zg Kk) ?_);refine yU (YD ZL) fun v46=>?_;refine Zx [(.slice none 0 0),(.bool false)] 2 6 Ll fun h6=>?_;refine Zu 6 ZL ?_;refine Yc ?_;refine xM (Zb 1 YS) ?_;refine yV (Ze 1 ZM) ?_;refine YX ?_ ?_<;>intro hb49
 · (
 (obtain rfl:o=6:=by simpa using hb49);obtain ⟨x1,x2,rfl⟩:∃x1 x2,l=[x1,x2]:=by
  rcases hcat with ⟨h,_⟩|⟨h,_⟩|⟨h,_⟩|⟨_,h⟩
  · omega
  · omega
  · omega
  · match l,h with
    |[x1,x2],_=>exact ⟨x1,x2,rfl⟩
 cases hx0;obtain ⟨_,eq0,hgq,hbq⟩:=hP 1 x2 rfl;have hPl:=(hg0.ok hb0).2.2;have hlp:=hg0.len;have hlq:=hgq.len;have hQl:=(hgq.ok hbq).2.2;have hfin:ζy 6 ([x0,x2].map Z3)=((Z3 x0).1.flatMap (ZnR (Z3 x0).1 (Z3 x2).1)).foldl Kg ([],false):=rfl;refine Zh ?_;refine Zx [(.slice none 0 0),(.bool false)] 2 7 Ll fun h7=>?_;refine ZF ?_;refine Zq (Ej (l:=7) (cWd ([],false)) rfl rfl (fun i p p' h1 h2=>ZnS i h1 h2)) fun _=>?_;refine Zi ?_;refine ZB ?_;refine Yd (ι:={q:Nat×(List (List BA)×Bool)//q.1≤(Z3 x0).1.length∧q.2=(((Z3 x0).1.take q.1).flatMap (ZnR (Z3 x0).1 (Z3 x2).1)).foldl Kg ([],false)}) (fun k=>⟨[(1,_,_),(2,_,_),(3,_,_),(7,_,_),(8, .int .i64 k.1.1,Zc k.1.1)],[(2,_,_),(7,h7, .own 58 2 1 (cWd k.1.2))]⟩) (fun k=>(Z3 x0).1.length-k.1.1) ⟨(0,([],false)),Xg _,by rw [XM];rfl⟩ ?_;rintro ⟨⟨i,x⟩,hi,hx⟩;dsimp only;dsimp only at hi hx;refine Zh ?_;refine xL 50 Za (xL 51 Za (xL 52 (Zg Kk) (xL 53 (YP Ya) ?_)));refine yU (ZG Yp) fun v54=>?_;refine xL 55 (Zy Ym) (xL 56 Wq ?_);refine ZR ?_ ?_<;>intro hb56
 · (
 obtain ⟨u,hu⟩:=get_some (show i<(Z3 x0).1.length by omega);have eu:=Z8 (f:=Zs) hu;have hul:=hPl u (Xc hu);(have hGx:GX x:=by rw [hx];exact GX.nil.puts _);have hPut:=P7 x u hGx;rw [eW x,eW (Kg x u)] at hPut;refine nav ?_;(refine We [9] [7] ?_<;>(refine yD 0 rfl (Zj 7 ZL) fun v59 h=>?_;cases h)<;>refine gDx 1 ?_<;>refine xD 2 rfl (Zg Kk) ?_<;>refine xD 3 rfl (YP Ya) ?_<;>(refine yD 4 rfl (ZG Yp) fun v63 h=>?_;cases h)<;>refine gEx 5 ?_<;>refine xE 6 rfl (Zg Ym) ?_<;>(refine yE 7 rfl (ZG ZN) fun v66 h=>?_;cases h)<;>(refine Z6 8 kR ?_)<;>(refine Yz (d:=67) rfl (cA call54 hPut) fun v67 h=>?_;cases h)<;>(refine Z6 9 kR ?_)<;>(refine Kj rfl rfl kR fun DQ bk=>?_)<;>refine Zu 7 ZL ?_<;>refine Ww (bk _ (nav ?_))<;>try dsimp only)
 refine Zi ?_;refine ZB ?_;refine Yd (ι:={q:Nat×(List (List BA)×Bool)//q.1≤(Z3 x2).1.length∧q.2=(((Z3 x2).1.take q.1).flatMap fun k=>(Z3 x0).1.map fun j=>(u++k)++j).foldl Kg (Kg x u)}) (fun k=>⟨[(1,_,_),(2,_,_),(3,_,_),(7,_,_),(8,_,_),(9, .int .i64 k.1.1,Zc k.1.1)],[(2,_,_),(7,h7, .own 58 2 1 (cWd k.1.2))]⟩) (fun k=>(Z3 x2).1.length-k.1.1) ⟨(0,Kg x u),Xg _,by rw [XM];rfl⟩ ?_;rintro ⟨⟨j,y⟩,hj,hy⟩;dsimp only;dsimp only at hj hy;refine Zh ?_;(refine xL 68 Za (xL 69 Za (xL 70 (Zg Kk) (xL 71 (YP Ya) ?_)))<;>refine yU (ZG Yp) fun v72=>?_<;>refine xL 73 (Zy Ym) (xL 74 Wq (xL 75 Za ?_))<;>(refine bLd 75 (fun hb75=>?_) (fun hb75=>?_)<;>(first|refine kL ?_|refine xM (Zb 7 Jv) ?_))<;>(first|refine kL ?_|refine yV (Ze 7 Yk) ?_)<;>refine Wz ?_)<;>(
 refine cX ?_ ?_<;>intro hb79
 · first | exact bN hb79|(
 obtain ⟨v,hv⟩:=get_some (show j<(Z3 x2).1.length by omega);have ev:=Z8 (f:=Zs) hv;have hvl:=hQl v (Xc hv);(have hGy:GX y:=by rw [hy];exact (hGx.put u).puts _);refine ZI ?_;refine Yd (ι:={q:Nat×(List (List BA)×Bool)//q.1≤(Z3 x0).1.length∧q.2=(((Z3 x0).1.take q.1).flatMap fun j=>[(u++v)++j]).foldl Kg y}) (fun k=>⟨[(1,_,_),(2,_,_),(3,_,_),(7,_,_),(8,_,_),(9,_,_),(10, .int .i64 k.1.1,Zc k.1.1)],[(2,_,_),(7,h7, .own 58 2 1 (cWd k.1.2))]⟩) (fun k=>(Z3 x0).1.length-k.1.1) ⟨(0,y),Xg _,by rw [XM];rfl⟩ ?_;rintro ⟨⟨n,z⟩,hn,hz⟩;dsimp only;dsimp only at hn hz;refine Zh ?_;refine xL 82 Za (xL 83 Za (xL 84 (Zg Kk) (xL 85 (YP Ya) ?_)));refine yU (ZG Yp) fun v86=>?_;refine xL 87 (Zy Ym) (xL 88 Wq ?_);refine ZR ?_ ?_<;>intro hb88
 · (
 obtain ⟨g,hg⟩:=get_some (show n<(Z3 x0).1.length by omega);have eg:=Z8 (f:=Zs) hg;have hgl:=hPl g (Xc hg);(have hGz:GX z:=by rw [hz];exact hGy.puts _);have hJ1:=Ts u v oM;have hJ2:=Ts (u++v) g (by rw [Xf];omega);have hPut2:=P7 z ((u++v)++g) hGz;rw [eW z,eW (Kg z _)] at hPut2;refine nav ?_;(refine We [25] [7] ?_<;>(refine yD 0 rfl (Zj 7 ZL) fun v91 h=>?_;cases h)<;>refine gDx 1 ?_<;>refine xD 2 rfl (Zg Kk) ?_<;>refine xD 3 rfl (YP Ya) ?_<;>(refine yD 4 rfl (ZG Yp) fun v95 h=>?_;cases h)<;>refine gDx 5 ?_<;>refine xD 6 rfl (Zg Ym) ?_<;>(refine yD 7 rfl (ZG ZN) fun v98 h=>?_;cases h)<;>refine gDx 8 ?_<;>refine xD 9 rfl (Zg Kk) ?_<;>refine xD 10 rfl (YP Ya) ?_<;>(refine yD 11 rfl (ZG Yp) fun v102 h=>?_;cases h)<;>refine gDx 12 ?_<;>refine xD 13 rfl (Zg Ym) ?_<;>(refine yD 14 rfl (ZG ZN) fun v105 h=>?_;cases h)<;>refine gDx 16 ?_<;>refine xD 17 rfl (Zg Kk) ?_<;>refine xD 18 rfl (YP Ya) ?_<;>(refine yD 19 rfl (ZG Yp) fun v110 h=>?_;cases h)<;>refine gDx 20 ?_<;>refine xD 21 rfl (Zg Ym) ?_<;>(refine yD 22 rfl (ZG ZN) fun v113 h=>?_;cases h)<;>(refine Z6 15 kR ?_)<;>(refine Yz (d:=106) rfl (cA call55 hJ1) fun v106 h=>?_;cases h)<;>(refine Z6 23 kR ?_)<;>(refine Yz (d:=114) rfl (cA call55 hJ2) fun v114 h=>?_;cases h)<;>(refine Z6 24 kR ?_)<;>(refine Yz (d:=115) rfl (cA call54 hPut2) fun v115 h=>?_;cases h)<;>(refine Z6 25 kR ?_)<;>(refine Kj rfl rfl kR fun DQ bk=>?_)<;>refine Zu 7 ZL ?_<;>refine Ww (bk _ (nav ?_))<;>try dsimp only)
 refine OY ?_;refine Yh (
  ⟨(n+1,Kg z ((u++v)++g)),by show n+1≤(Z3 x0).1.length;omega,by dsimp only;rw [Gx _ hg,←hz];rfl⟩
  ))
 · (
 refine Y5 ?_;refine Yh (
  ⟨(j+1,z),by show j+1≤(Z3 x2).1.length;omega,by
    dsimp only;rw [Gx _ hv,←hy,hz,Xq oM,List.map_eq_flatMap]⟩
  )))
 · (
 have hyf:y=((Z3 x2).1.flatMap fun k=>(Z3 x0).1.map fun j=>(u++k)++j).foldl Kg (Kg x u):=by
  rw [hy];refine ZeE _ ?_;rw [←hy]
  first
   |exact .inl oM
   |exact .inr (by simpa using hb78)
   |exact .inr (by simpa using hb79)
 refine Y5 ?_;refine Yh (
  ⟨(i+1,y),by show i+1≤(Z3 x0).1.length;omega,by dsimp only;rw [Gx _ hu,←hx,hyf];rfl⟩
  ))))
 · (
 (have hxf:x=((Z3 x0).1.flatMap (ZnR (Z3 x0).1 (Z3 x2).1)).foldl Kg ([],false):=by rw [hx,Xq oM]);refine Zh ?_;refine yU (Zj 7 ZL) fun v116=>?_;refine Zu 2 ZL ?_;refine ZF ?_;refine Z4 (k:=2) 2 results28 ?_;rw [hgo,hfin,←hxf];rfl))
 · (
 (have ho6:¬o=6:=by simpa using hb49);have hcom:ζy o (l.map Z3)=((l.map Z3).drop 1).foldl (fun out p=>if out.2 then out else JM o out p) (Z3 x0):=by
  unfold ζy;rw [Qa ho6,hm0];rfl
 refine ZI ?_;refine Yd (ι:={q:Nat×(List (List BA)×Bool)//1≤q.1∧q.1≤l.length∧q.2.2=false∧(((l.map Z3).take q.1).drop 1).foldl (fun out p=>if out.2 then out else JM o out p) (Z3 x0)=q.2∧GX q.2}) (fun k=>⟨[(1,_,_),(2,_,_),(3,_,_),(6,_,_),(11, .int .i64 k.1.1,Zc k.1.1)],[(1,_,_),(2,_,_),(6,h6, .own 58 2 1 (cWd k.1.2))]⟩) (fun k=>l.length-k.1.1) ⟨(1,Z3 x0),Xe _,hl0,hb0,by rw [XU (by rw [XG];omega)];rfl,hg0⟩ ?_;rintro ⟨⟨i,out⟩,h1i,hi,hob,hoe,hGo⟩;dsimp only;dsimp only at h1i hi hob hoe hGo;refine Zh ?_;refine xL 117 Za (xL 118 Za (xL 119 (Zy Kk) (xL 120 Wq ?_)));refine ZR ?_ ?_<;>intro hb120
 · (
 obtain ⟨x,hx⟩:=gS l i;obtain ⟨hmx,epx,hgx,hbx⟩:=hP i x hx;have hPl:=(hgx.ok hbx).2.2;have hlx:=hgx.len;have hlo:=hGo.len;have hOl:=(hGo.ok hob).2.2;have hstep:=ZkD (o:=o) hmx h1i (Z3 x0);rw [hoe] at hstep;dsimp only at hstep;rw [hob,Qa dC] at hstep;refine Zh ?_;refine Zx [(.slice none 0 0),(.bool false)] 2 12 Ll fun h12=>?_;refine Yc ?_;refine xM (Zb 1 YS) ?_;refine yV (Ze 1 ZM) ?_;refine ZB ?_;refine KI (fun q:{q:List (List BA)×Bool//q=JM o out (Z3 x)∧GX q}=>⟨[(1,ZD (Zr h1) 0, .val (ZD (Zr h1) 0)),(2,ZD (Zr h2) 0, .val (ZD (Zr h2) 0)),(3,hv, .sl l.length ((l.map Z3).flatMap cWd)),(6,ZD (Zr h6) 0, .val (ZD (Zr h6) 0)),(11, .int .i64 (i:Int),Zc i),(12,ZD (Zr h12) 0, .val (ZD (Zr h12) 0))],[(1,h1, .own 24 3 1 [Zc o,Zt a,Yt l]),(2,h2, .own 58 2 1 (List.map PV.val [Value.slice none 0 0,Value.bool false])),(6,h6, .own 58 2 1 (cWd out)),(12,h12, .own 58 2 1 (cWd q.1))]⟩) ?_ ?_
 · refine cX ?_ ?_ <;>intro hb125
   · (
 (obtain rfl:o=4:=by simpa using hb125);have hpx:JM 4 out (Z3 x)=((Z3 x).1.flatMap fun b=>[b]).foldl Kg out:=by
  unfold JM;rw [Qb rfl];simp
 refine Zh ?_;refine yU (Zj 6 ZL) fun v126=>?_;refine Zu 12 ZL ?_;refine Yc ?_;refine ZB ?_;refine Yd (ι:={q:Nat×(List (List BA)×Bool)//q.1≤(Z3 x).1.length∧q.2=(((Z3 x).1.take q.1).flatMap fun b=>[b]).foldl Kg out∧GX q.2}) (fun k=>⟨[(1,_,_),(2,_,_),(3,_,_),(6,_,_),(11,_,_),(12,_,_),(13, .int .i64 k.1.1,Zc k.1.1)],[(1,_,_),(2,_,_),(6,_,_),(12,h12, .own 58 2 1 (cWd k.1.2))]⟩) (fun k=>(Z3 x).1.length-k.1.1) ⟨(0,out),Xg _,by rw [XM];rfl,hGo⟩ ?_;rintro ⟨⟨j,y⟩,hj,hy,hGy⟩;dsimp only;dsimp only at hj hy hGy;refine Zh ?_;refine xL 127 Za (xL 128 Za (xL 129 Za (xL 130 (Zg Kk) (xL 131 (YP Ya) ?_))));refine yU (ZG Yp) fun v132=>?_;refine xL 133 (Zy Ym) (xL 134 Wq ?_);refine ZR ?_ ?_<;>intro hb134
 · (
 obtain ⟨v,hv'⟩:=get_some (show j<(Z3 x).1.length by omega);have ev:=Z8 (f:=Zs) hv';have hPut:=P7 y v hGy;rw [eW y,eW (Kg y v)] at hPut;refine nav ?_;(refine We [10] [12] ?_<;>(refine yD 0 rfl (Zj 12 ZL) fun v137 h=>?_;cases h)<;>refine gDx 1 ?_<;>refine gDx 2 ?_<;>refine xD 3 rfl (Zg Kk) ?_<;>refine xD 4 rfl (YP Ya) ?_<;>(refine yD 5 rfl (ZG Yp) fun v142 h=>?_;cases h)<;>refine gEx 6 ?_<;>refine xE 7 rfl (Zg Ym) ?_<;>(refine yE 8 rfl (ZG ZN) fun v145 h=>?_;cases h)<;>(refine Z6 9 kR ?_)<;>(refine Yz (d:=146) rfl (cA call54 hPut) fun v146 h=>?_;cases h)<;>(refine Z6 10 kR ?_)<;>(refine Kj rfl rfl kR fun DQ bk=>?_)<;>refine Zu 12 ZL ?_<;>refine Ww (bk _ (nav ?_))<;>try dsimp only)
 refine OY ?_;refine Yh (
  ⟨(j+1,Kg y v),by show j+1≤(Z3 x).1.length;omega,by dsimp only;rw [Gx _ hv',←hy];rfl,hGy.put v⟩
  ))
 · (
 (have hyf:y=JM 4 out (Z3 x):=by rw [hpx,hy,Xq oM]);refine nav ?_;exact ZS ⟨y,hyf,hGy⟩ sB sB))
   · (
 (have ho4:¬o=4:=by simpa using hb125);have hpx:=ZkC ho4 out (Z3 x);refine nav ?_;refine Zq (Ej (l:=12) (cWd ([],false)) rfl rfl (fun i p p' h1 h2=>ZnS i h1 h2)) fun _=>?_;refine Zi ?_;refine ZB ?_;refine Yd (ι:={q:Nat×(List (List BA)×Bool)//q.1≤out.1.length∧q.2=((out.1.take q.1).flatMap fun a=>(Z3 x).1.flatMap (Pe o a)).foldl Kg ([],false)∧GX q.2}) (fun k=>⟨[(1,_,_),(2,_,_),(3,_,_),(6,_,_),(11,_,_),(12,_,_),(14, .int .i64 k.1.1,Zc k.1.1)],[(1,_,_),(2,_,_),(6,_,_),(12,h12, .own 58 2 1 (cWd k.1.2))]⟩) (fun k=>out.1.length-k.1.1) ⟨(0,([],false)),Xg _,by rw [XM];rfl,GX.nil⟩ ?_;rintro ⟨⟨j,y⟩,hj,hy,hGy⟩;dsimp only;dsimp only at hj hy hGy;refine Zh ?_;(refine xL 147 Za (xL 148 (Zb 6 Ya) ?_)<;>refine yU (Ze 6 Yp) fun v149=>?_<;>refine xL 150 (Zy Ym) (xL 151 Wq (xL 152 Za ?_))<;>(refine bLd 152 (fun hb152=>?_) (fun hb152=>?_)<;>(first|refine kL ?_|refine xM (Zb 12 Jv) ?_))<;>(first|refine kL ?_|refine yV (Ze 12 Yk) ?_)<;>refine Wz ?_)<;>(
 refine cX ?_ ?_<;>intro hb156
 · first | exact bN hb156|(
 obtain ⟨u,hu⟩:=gS out.1 j;have eu:=Z8 (f:=Zs) hu;have hul:=hOl u (Xc hu);refine ZI ?_;refine Yd (ι:={q:Nat×(List (List BA)×Bool)//q.1≤(Z3 x).1.length∧q.2=(((Z3 x).1.take q.1).flatMap (Pe o u)).foldl Kg y∧GX q.2}) (fun k=>⟨[(1,_,_),(2,_,_),(3,_,_),(6,_,_),(11,_,_),(12,_,_),(14,_,_),(15, .int .i64 k.1.1,Zc k.1.1)],[(1,_,_),(2,_,_),(6,_,_),(12,h12, .own 58 2 1 (cWd k.1.2))]⟩) (fun k=>(Z3 x).1.length-k.1.1) ⟨(0,y),Xg _,by rw [XM];rfl,hGy⟩ ?_;rintro ⟨⟨n,z⟩,hn,hz,hGz⟩;dsimp only;dsimp only at hn hz hGz;refine Zh ?_;refine xL 159 Za (xL 160 Za (xL 161 Za (xL 162 (Zg Kk) (xL 163 (YP Ya) ?_))));refine yU (ZG Yp) fun v164=>?_;refine xL 165 (Zy Ym) (xL 166 Wq ?_);refine ZR ?_ ?_<;>intro hb166
 · (
 obtain ⟨v,hv'⟩:=get_some (show n<(Z3 x).1.length by omega);have ev:=Z8 (f:=Zs) hv';have hvl:=hPl v (Xc hv');have hJ1:=Ts u v oM;have hPut:=P7 z (u++v) hGz;rw [eW z,eW (Kg z (u++v))] at hPut;have hMix:=AF.nil2 (ZnQ _ u v [] z rfl (by simp;omega) hGz);rw [eW z,eW (Ro z [] u v)] at hMix;refine Zh ?_;refine xM (Zb 1 YS) ?_;refine yV (Ze 1 ZM) ?_;refine YX ?_ ?_<;>intro hb171
 · (
 refine nav ?_;(refine We [16] [6,12] ?_<;>(refine yD 0 rfl (Zj 12 ZL) fun v172 h=>?_;cases h)<;>refine xD 1 rfl (Zb 6 Ya) ?_<;>(refine yD 2 rfl (Ze 6 Yp) fun v174 h=>?_;cases h)<;>refine gDx 3 ?_<;>refine xD 4 rfl (Zg Ym) ?_<;>(refine yD 5 rfl (ZG ZN) fun v177 h=>?_;cases h)<;>refine gDx 6 ?_<;>refine gDx 7 ?_<;>refine xD 8 rfl (Zg Kk) ?_<;>refine xD 9 rfl (YP Ya) ?_<;>(refine yD 10 rfl (ZG Yp) fun v182 h=>?_;cases h)<;>refine gEx 11 ?_<;>refine xE 12 rfl (Zg Ym) ?_<;>(refine yE 13 rfl (ZG ZN) fun v185 h=>?_;cases h)<;>(refine Z6 14 kR ?_)<;>(refine Yz (d:=186) rfl (cA call55 hJ1) fun v186 h=>?_;cases h)<;>(refine Z6 15 kR ?_)<;>(refine Yz (d:=187) rfl (cA call54 hPut) fun v187 h=>?_;cases h)<;>(refine Z6 16 kR ?_)<;>(refine Kj rfl rfl kR fun DQ bk=>?_)<;>refine Zu 12 ZL ?_<;>refine Ww (bk _ (nav ?_))<;>try dsimp only)
 refine OY ?_
 first
  | (exact Yh (
      ⟨(n+1,Kg z (u++v)),by show n+1≤(Z3 x).1.length;omega,by dsimp only;rw [Gx _ hv',←hz,show Pe o u v=[u++v] from Qb (by simpa using hb171)];rfl,hGz.put _⟩
      ))
  | (exact Yh (
      ⟨(n+1,Ro z [] u v),by show n+1≤(Z3 x).1.length;omega,by dsimp only;rw [Gx _ hv',←hz,show Pe o u v=mixW u v from Qa (by simpa using hb171),E7 _ _ _ _ _ rfl];simp,hGz.mix _ _ _⟩
      )))
 · (
 refine nav ?_;(refine We [15] [6,12] ?_<;>(refine yD 0 rfl (Zj 12 ZL) fun v188 h=>?_;cases h)<;>refine xD 1 rfl (Zb 6 Ya) ?_<;>(refine yD 2 rfl (Ze 6 Yp) fun v190 h=>?_;cases h)<;>refine gDx 3 ?_<;>refine xD 4 rfl (Zg Ym) ?_<;>(refine yD 5 rfl (ZG ZN) fun v193 h=>?_;cases h)<;>refine gDx 6 ?_<;>refine gDx 7 ?_<;>refine xD 8 rfl (Zg Kk) ?_<;>refine xD 9 rfl (YP Ya) ?_<;>(refine yD 10 rfl (ZG Yp) fun v198 h=>?_;cases h)<;>refine gEx 11 ?_<;>refine xE 12 rfl (Zg Ym) ?_<;>(refine yE 13 rfl (ZG ZN) fun v201 h=>?_;cases h)<;>(refine Z6 14 kR ?_)<;>(refine Yz (d:=202) rfl (cA call56 hMix) fun v202 h=>?_;cases h)<;>(refine Z6 15 kR ?_)<;>(refine Kj rfl rfl kR fun DQ bk=>?_)<;>refine Zu 12 ZL ?_<;>refine Ww (bk _ (nav ?_))<;>try dsimp only)
 refine OY ?_
 first
  | (exact Yh (
      ⟨(n+1,Kg z (u++v)),by show n+1≤(Z3 x).1.length;omega,by dsimp only;rw [Gx _ hv',←hz,show Pe o u v=[u++v] from Qb (by simpa using hb171)];rfl,hGz.put _⟩
      ))
  | (exact Yh (
      ⟨(n+1,Ro z [] u v),by show n+1≤(Z3 x).1.length;omega,by dsimp only;rw [Gx _ hv',←hz,show Pe o u v=mixW u v from Qa (by simpa using hb171),E7 _ _ _ _ _ rfl];simp,hGz.mix _ _ _⟩
      ))))
 · (
 refine Y5 ?_;refine Yh (
  ⟨(j+1,z),by show j+1≤out.1.length;omega,by dsimp only;rw [Gx _ hu,←hy,hz,Xq oM],hGz⟩
  )))
 · (
 have hyf:y=JM o out (Z3 x):=by
  rw [hpx,hy];refine ZeE _ ?_;rw [←hy]
  first
   |exact .inl oM
   |exact .inr (by simpa using hb155)
   |exact .inr (by simpa using hb156)
 refine nav ?_;exact ZS ⟨y,hyf,hGy⟩ sB sB)))
 · rintro ⟨w,hwe,hGw⟩;dsimp only at hwe hGw ⊢;refine Zh ?_;refine xM (Zb 12 Jv) ?_;refine yV (Ze 12 Yk) ?_;refine ZR ?_ ?_<;>intro hb204
   · (
 refine Zh ?_;refine yU (Zj 12 ZL) fun v205=>?_;refine Zu 2 ZL ?_;refine ZF ?_;refine Z4 (k:=2) 2 results28 ?_;(have hwb:w.2=true:=by simpa using hb204);rw [hgo,hcom,Zai (hstep.trans hwe.symm) hwb (Vj _)];rfl)
   · (
 refine Zh ?_;refine yU (Zj 12 ZL) fun v206=>?_;refine Zu 6 ZL ?_;refine Yc ?_;refine DK ?_;refine Yh (
  ⟨(i+1,w),by show 1≤i+1;omega,by show i+1≤l.length;omega,by simpa using hb204,hstep.trans hwe.symm,hGw⟩
  )))
 · (
 (have hof:out=ζy o (l.map Z3):=by rw [hcom,←hoe,Xq (by rw [Xb];omega)]);refine Zh ?_;refine yU (Zj 6 ZL) fun v207=>?_;refine Zu 2 ZL ?_;refine ZF ?_;refine Z4 (k:=2) 2 results28 ?_;rw [hgo,←hof];rfl))))
noncomputable def clsT (t:Nd):Bool:= !Ln t&&decide (Jd t).Nodup&& !turT t
theorem Zgo:Zmm prog 18:=fun blk cap zs w hH hb hn=>Tryz.slices_Sort_string blk 0 cap zs w hH hb hn
theorem ZeF:ZfO prog 18:=Tryz.slices_Sort_string_none
theorem ZnU (t:Nd) (hf:FitT t):AF prog 6 [pTr t] (· = .tup [Zv (WH t&&clsT t),Zc (if WH t=true then 0 else 1)]):=by
 have ea:pTr t= .agg [Zc t.op,Zt t.act,Yt t.l]:=rfl
 rw [ea]
 refine AF.b1 29 func6 rfl ntmps6 (Xa rfl) fun w0 M0 v0 _=>?_
 refine Zh ?_
 refine ZV 1 3 fun h1=>?_;refine Jn ?_
 refine yU (Zj 1 Zk) fun v5=>?_;refine cV (cA call16 (TJ t hf)) ?_;refine YX ?_ ?_<;>intro hb7
 · (
 refine ZE ?_;refine Z1 results6 rfl rfl ?_;rw [show WH t=false by simpa using hb7];rfl)
 · (
 (have hv:WH t=true:=by simpa using hb7);have hvz:=R5 hv;have hal:=P6 t (JU hv);have hsl:=Rs (Jd t);refine Zh ?_;refine yU (Zj 1 Zk) fun v8=>?_;refine cO 9 (cA (call17) (Zkl t (JU hv) oM)) fun v9 ho9=>?_;refine LA ?_;refine Zp (Y1 (l:=9) (p':= .own 9 1 ((Jd t).map toB).length (((Jd t).map toB).map ZfY)) rfl (by rw [Zpp,Xb])) fun _=>?_;refine Zpa (zs:=(Jd t).map toB) 9 Zgo ZeF (call18) ?_ (by rw [Xb];omega);refine ZF ?_;refine Zq (En.freeze (l:=9) (t:=4) rfl rfl) fun _=>?_;refine Zq (Kt (t:=4) (p':=Zs (Gv (Jd t))) rfl (by rw [ZmR,Wb];unfold Zs;rw [Rs,Xb])) fun _=>?_;(refine Zi ?_<;>refine yU (Zj 1 Zk) fun v12=>?_<;>(refine cV (cA call19 (EP t hf)) ?_)<;>refine YW ?_<;>(refine bL 15 (fun hb15=>?_) (fun hb15=>?_)<;>refine kZ ?_)<;>(first|refine kL ?_|refine cO 17 (cA (call21) (TK (Gv (Jd t)) oM)) fun v17 ho17=>?_)<;>(first|refine kL ?_|(refine Zp (Zz (l:=17) 1000 rfl rfl) fun _=>?_;refine WA [1] 18 (call20) (Zcm (Gv (Jd t)) oM v17 ho17) (fun v18 p18 h18 hR18=>?_);obtain ⟨n18,cs18,hvo18,rfl,rfl,hiff⟩:=hR18;rw [Zkk] at hiff))<;>(first|refine kL ?_|refine xM (WQ 1000 Zn) ?_)<;>refine kZ ?_<;>(first|refine kL ?_|refine xM (Zy Zn) ?_)<;>refine GI ?_<;>(first|refine kL ?_|(refine bLd 24 (fun hb24=>?_) (fun hb24=>?_)<;>(first|refine kL ?_|refine yU (Zj 1 Zk) fun v25=>?_)))<;>(first|refine kL ?_|(refine cV (cA call22 (ZnB t hf hv)) ?_))<;>refine kZ ?_<;>refine DK ?_)<;>(
 refine Z1 results6 rfl rfl ?_;unfold clsT;rw [hv]
 first
  |(rw [hb15,U9 (hiff.1 oM)];rfl)
  |(rw [hb15,U' (fun h=>by have:=hiff.2 h;omega)];rfl)
  |(rw [hb15];rfl)))
theorem ZkF (l:List BA):(canB l).length≤l.length:=Dm (ZpJ l) fun s hs=>SG.1 hs
theorem Zgp (e:Nat) (q b:List BA):PV.own e 1 (q.length+b.length) (q.map Zt++b.map Zt)= .own e 1 (q++b).length ((q++b).map Zt):=sM
theorem Zqw {p:Nd→Bool} {l:List Nd} (h:∀y∈l,p y=false):l.any p=false:=UF.2 fun y hy=>by rw [h y hy];decide
theorem ZnV {p:Nd→Bool} {l:List Nd} {y:Nd} (hy:y∈l) (h:p y=true):l.any p=true:=X4.2 ⟨y,hy,h⟩
theorem Zh4 {p:Nd→Bool} {l:List Nd} {k:Nat} {x:Nd} (hx:l[k]? =some x) (h:∀y∈l.take k,p y=false) (h1:p x=false):∀y∈l.take (k+1),p y=false:=fun y hy=>by
 rw [Zw hx] at hy
 rcases Xd.1 hy with hy|hy
 · exact h y hy
 · rw [Xn] at hy;subst hy;exact h1
theorem ζX:∀t:Nd,FitT t→AF prog 27 [pTr t] (· =Zv (Ln t)):=Nd.ind fun o a l ih hf=>by
 have ea:pTr (.mk o a l)= .agg [Zc o,Zt a,Yt l]:=rfl
 have hll:l.length≤140737488355328:=hf.len
 rw [ea,Znd]
 refine AF.b1 20 func27 rfl ntmps27 (Xa rfl) fun w0 M0 v0 _=>?_
 refine Zh ?_
 refine ZV 1 3 fun h1=>?_;refine Ta ?_
 refine Yd (ι:={k:Nat//k≤l.length∧∀y∈l.take k,Ln y=false}) (fun k=>⟨[(1,_,_),(3, .int .i64 k.1,Zc k.1)],[(1,_,_)]⟩) (fun k=>l.length-k.1) ⟨0,Xg _,fun y h=>by simp at h⟩ ?_
 rintro ⟨i,hi,hno⟩
 dsimp only
 refine Zh ?_
 refine xL 4 Za (xL 5 (Zb 1 Yj) ?_);refine yU (Ze 1 YT) fun v6=>?_;refine xL 7 (Zy Yw) (xL 8 Wq ?_);refine ZR ?_ ?_<;>intro hb8
 · (
 obtain ⟨y,hy⟩:=gS l i;have e1:((Z9 l).drop (i*3)).take 3=[Zc y.op,Zt y.act,Yt y.l]:=ZT hy;have e2:=Yg hy;have hym:=Xc hy;refine Zh ?_;refine xM (Zb 1 Yj) ?_;refine yU (Ze 1 YT) fun v12=>?_;refine xL 13 Za (xL 14 (Zg Yw) ?_);refine yU (YD Zk) fun v15=>?_;refine cV (cA call27 (ih y hym (hf.p y hym))) ?_;refine ZR ?_ ?_<;>intro hb16
 · (
 refine ZI ?_;refine Zf results27 rfl ?_;rw [ZnV hym (by simpa using hb16),Bool.or_true])
 · (
 refine Y5 ?_;refine Yh (
  ⟨i+1,oM,Zh4 hy hno (by simpa using hb16)⟩
  )))
 · (
 have hall:l.any Ln=false:=Zqw (by rw [Xq oM] at hno;exact hno);refine Zh ?_;refine xM (Zb 1 YS) ?_;refine yV (Ze 1 ZM) ?_;refine YJ ?_;refine Zf results27 rfl ?_;rw [hall,Bool.or_false])
theorem ZkG:∀t:Nd,okT t=true→szT t≤1000000→AF prog 31 [pTr t] (· = .own 9 1 (Jd t).length ((Jd t).map Zt)):=Nd.ind fun o a l ih hok hs0=>by
 have ea:pTr (.mk o a l)= .agg [Zc o,Zt a,Yt l]:=rfl
 have hsz:szT (.mk o a l)=1+szL l:=by rw [szT]
 have hll:=LP l
 obtain ⟨hr,hp⟩:=Y3.1 hok
 simp only [Nd.l] at hp
 have hat:Jd (.mk o a l)=(if o=1 then [a] else [])++GN l:=by rw [Jd];split<;>rfl
 rw [ea,hat]
 refine AF.b1 29 func31 rfl ntmps31 (Xa rfl) fun w0 M0 v0 _=>?_
 refine Zh ?_
 refine ZV 1 3 fun h1=>?_;refine Ta ?_
 refine Zq (Wr 200 9 1 rfl) fun _=>?_
 refine Zi ?_;refine xM (Zb 1 YS) ?_;refine yV (Ze 1 ZM) ?_;refine ZB ?_
 refine KI (fun v:{v:Value//v.oneCell'=true}=>⟨[(1,ZD (Zr h1) 0, .val (ZD (Zr h1) 0)),(3,v.1, .val v.1)],[(1,h1, .own 24 3 1 [Zc o,Zt a,Yt l]),(200,v.1, .own 9 1 (if o=1 then [a] else []).length ((if o=1 then [a] else []).map Zt))]⟩) ?_ ?_
 · refine cX ?_ ?_<;>intro hb7
   · (
 refine Zh ?_;refine xL 8 Za (xL 9 (Zb 1 Ld) ?_);refine yV (Ze 1 ZK) ?_;refine Wx (kk:=1) 11 ZW fun h11 ho11=>?_;refine WN 200 11 12 ZW fun h12 ho12=>?_;refine Zp (Zz (l:=12) 200 rfl rfl) fun _=>?_;refine ZB ?_
 first
  | (refine Yq (Y1 (l:=200) (p':= .own 9 1 (if o=1 then [a] else []).length ((if o=1 then [a] else []).map Zt)) rfl (by rw [Qb (show o=1 by simpa using hb7)];rfl)) fun _=>?_
     exact ZS ⟨h12,ho12⟩ sB sB)
  | (refine Yq (Y1 (l:=200) (p':= .own 9 1 (if o=1 then [a] else []).length ((if o=1 then [a] else []).map Zt)) rfl (by rw [Qa (show ¬o=1 by simpa using hb7)];rfl)) fun _=>?_
     exact ZS ⟨.slice none 0 0,rfl⟩ sB sB))
   · (
 refine nav ?_
 first
  | (refine Yq (Y1 (l:=200) (p':= .own 9 1 (if o=1 then [a] else []).length ((if o=1 then [a] else []).map Zt)) rfl (by rw [Qb (show o=1 by simpa using hb7)];rfl)) fun _=>?_
     exact ZS ⟨h12,ho12⟩ sB sB)
  | (refine Yq (Y1 (l:=200) (p':= .own 9 1 (if o=1 then [a] else []).length ((if o=1 then [a] else []).map Zt)) rfl (by rw [Qa (show ¬o=1 by simpa using hb7)];rfl)) fun _=>?_
     exact ZS ⟨.slice none 0 0,rfl⟩ sB sB))
 · rintro ⟨v,hv⟩;dsimp only;obtain ⟨pre,hpre⟩:∃pre,pre=(if o=1 then [a] else []):=⟨_,rfl⟩;have hpl:pre.length≤1:=by rw [hpre];split<;>simp
   rw [←hpre];refine ZI ?_;refine Zq (Y1 (l:=200) (p':= .own 9 1 (pre++GN (l.take 0)).length ((pre++GN (l.take 0)).map Zt)) rfl (by rw [XM,GN,Xu])) fun _=>?_;refine Yd (ι:={q:Nat×Value//q.1≤l.length∧q.2.oneCell'=true}) (fun k=>⟨[(1,_,_),(3,k.1.2, .val k.1.2),(4, .int .i64 k.1.1,Zc k.1.1)],[(1,_,_),(200,k.1.2, .own 9 1 (pre++GN (l.take k.1.1)).length ((pre++GN (l.take k.1.1)).map Zt))]⟩) (fun k=>l.length-k.1.1) ⟨(0,v),Xg _,hv⟩ ?_;rintro ⟨⟨i,hv2⟩,hi,hov⟩;dsimp only;dsimp only at hi hov;refine Zh ?_;refine xL 13 Za (xL 14 (Zb 1 Yj) ?_);refine yU (Ze 1 YT) fun v15=>?_;refine xL 16 (Zy Yw) (xL 17 Wq ?_);refine ZR ?_ ?_<;>intro hb17
   · (
 obtain ⟨y,hy⟩:=gS l i;have e1:((Z9 l).drop (i*3)).take 3=[Zc y.op,Zt y.act,Yt y.l]:=ZT hy;have e2:=Yg hy;have hym:=Xc hy;have hys:=Jh hym;have h7:=P6 y (hp y hym);have h8:=ZhW (l:=l.take i) fun x hx=>hp x (VA hx);have h9:=Zbu l i;(have f3:((Jd y).map Zt).length=(Jd y).length*1:=by rw [Xb,Xy]);have f4:=ζM (Jd y);have h10:(pre++GN (l.take i)).length=pre.length+(GN (l.take i)).length:=Xf;refine Zh ?_;refine xL 20 Za (xL 21 (Zb 1 Yj) ?_);refine yU (Ze 1 YT) fun v22=>?_;refine xL 23 Za (xL 24 (Zg Yw) ?_);refine yU (YD Zk) fun v25=>?_;refine cO 26 (cA (call31) (ih y hym (hp y hym) oM)) fun v26 ho26=>?_;refine Zp (En.freeze (l:=26) (t:=26) rfl rfl) fun _=>?_;rw [Wb];refine G1 200 27 ZW (fun h27 ho27=>?_) f3 f4;refine Zp (Zz (l:=27) 200 rfl rfl) fun _=>?_;refine Zp (Y1 (l:=200) (p':= .own 9 1 (pre++GN (l.take (i+1))).length ((pre++GN (l.take (i+1))).map Zt)) rfl (by rw [Zbs hy,←XA];exact Zgp _ _ _)) fun _=>?_;refine Py ?_;refine Yh (
  ⟨(i+1,h27),by show i+1≤l.length;omega,ho27⟩
  ))
   · (
 obtain rfl:i=l.length:=oM;refine ZE ?_;refine K3 200 results31 rfl rfl ?_;rw [XH])
theorem Zgq : ∀ t:Nd,okT t=true→szT t≤10000→AF prog 33 [pTr t] (· =Zv (!turT t)):=Nd.ind fun o a l ih hok hs0=>by
 have ea:pTr (.mk o a l)= .agg [Zc o,Zt a,Yt l]:=rfl
 have hsz:szT (.mk o a l)=1+szL l:=by rw [szT]
 have hll:=LP l
 obtain ⟨hr,hp⟩:=Y3.1 hok
 have hcat:=J7 hr
 simp only [Nd.op,Nd.l] at hp hcat
 rw [ea,ZnA]
 refine AF.b1 47 func33 rfl ntmps33 (Xa rfl) fun w0 M0 v0 _=>?_
 refine Zh ?_
 refine ZV 1 3 fun h1=>?_;refine ZQ ?_
 refine xM (Zb 1 YS) ?_;refine yV (Ze 1 ZM) ?_;refine ZB ?_
 refine KI (fun q:{u:Unit//(decide (o=6)&&hitL l)=false}=>⟨[(1,ZD (Zr h1) 0, .val (ZD (Zr h1) 0))],[(1,h1, .own 24 3 1 [Zc o,Zt a,Yt l])]⟩) ?_ ?_
 · refine cX ?_ ?_<;>intro hb9
   · (
 (have ho6:o=6:=by simpa using hb9);obtain ⟨x,hx⟩:=gS l 0;have e1:((Z9 l).drop (0*3)).take 3=[Zc x.op,Zt x.act,Yt x.l]:=ZT hx;have e2:=Yg hx;have hxm:=Xc hx;have hxs:=Jh hxm;have hE1:=Zbr false x (hp x hxm) oM;have hE2:=Zbr true x (hp x hxm) oM;have hel:=R9 false x;have hcl:=ZkF (edgT false x);have hh:hitL l=hitT x:=by
  cases l with
  |nil=>simp at hx
  |cons y l=>cases hx;rfl
 refine Zh ?_;refine xM (Zb 1 Yj) ?_;refine yU (Ze 1 YT) fun v11=>?_;refine xM (Zg Yw) ?_;refine yU (YD Zk) fun v13=>?_;refine cU (cA call59 (hE1)) fun v14=>?_;refine ZQ ?_;refine xM (Zb 1 Yj) ?_;refine yU (Ze 1 YT) fun v16=>?_;refine xM (Zg Yw) ?_;refine yU (YD Zk) fun v18=>?_;refine cU (cA call59 (hE2)) fun v19=>?_;refine Ta ?_;refine Yd (ι:={k:Nat//k≤(canB (edgT false x)).length∧∀s∈(canB (edgT false x)).take k,hasStr (canB (edgT true x)) s=false}) (fun k=>⟨[(1,_,_),(3,_,_),(4,_,_),(5, .int .i64 k.1,Zc k.1)],[(1,_,_)]⟩) (fun k=>(canB (edgT false x)).length-k.1) ⟨0,Xg _,fun y h=>by simp at h⟩ ?_;rintro ⟨i,hi,hno⟩;dsimp only;refine Zh ?_;refine xL 20 Za (xL 21 Za (xL 22 (Zy Zn) (xL 23 Wq ?_)));refine ZR ?_ ?_<;>intro hb23
 · (
 obtain ⟨s,hs⟩:=get_some (show i<(canB (edgT false x)).length by omega);have es:=Z8 (f:=Zt) hs;refine Zh ?_;refine xL 26 Za (xL 27 Za (xL 28 Za (xL 29 (Zg Zn) ?_)));refine yV (ZG ZK) ?_;refine cV (cA call32 (Cu (canB (edgT true x)) s)) ?_;refine YX ?_ ?_<;>intro hb32
 · (
 refine ZI ?_;refine Zf results33 rfl ?_;(have h9:hasStr (canB (edgT true x)) s=true:=by unfold hasStr;rw [←Lo];exact U9 hb32);have h10:hitT x=true:=X4.2 ⟨s,Xc hs,h9⟩;rw [U9 ho6,hh,h10];rfl)
 · (
 refine Y5 ?_;refine Yh (
  ⟨i +1,oM,fun y hy=>by
   rw [Zw hs] at hy;rcases Xd.1 hy with hy|hy
   · exact hno y hy
   · rw [Xn] at hy;subst hy;unfold hasStr;rw [←Lo];exact U' hb32⟩
  )))
 · (
 refine nav ?_
 first
  |exact ZS ⟨(),by rw [U' (show ¬o=6 by simpa using hb9)];rfl⟩ sB sB
  | exact ZS ⟨(),by
     rw [Xq oM] at hno;rw [U9 ho6,hh,Uo];exact UF.2 fun s hs=>by rw [hno s hs];decide⟩ sB sB))
   · (
 refine nav ?_
 first
  |exact ZS ⟨(),by rw [U' (show ¬o=6 by simpa using hb9)];rfl⟩ sB sB
  | exact ZS ⟨(),by
     rw [Xq oM] at hno;rw [U9 ho6,hh,Uo];exact UF.2 fun s hs=>by rw [hno s hs];decide⟩ sB sB)
 · rintro ⟨_,hno6⟩;refine ZI ?_;refine Yd (ι:={k:Nat//k≤l.length∧∀y∈l.take k,turT y=false}) (fun k=>⟨[(1,_,_),(6, .int .i64 k.1,Zc k.1)],[(1,_,_)]⟩) (fun k=>l.length-k.1) ⟨0,Xg _,fun y h=>by simp at h⟩ ?_;rintro ⟨i,hi,hno⟩;dsimp only;refine Zh ?_;refine xL 33 Za (xL 34 (Zb 1 Yj) ?_);refine yU (Ze 1 YT) fun v35=>?_;refine xL 36 (Zy Yw) (xL 37 Wq ?_);refine ZR ?_ ?_<;>intro hb37
   · (
 obtain ⟨y,hy⟩:=gS l i;have e1:((Z9 l).drop (i*3)).take 3=[Zc y.op,Zt y.act,Yt y.l]:=ZT hy;have e2:=Yg hy;have hym:=Xc hy;have hys:=Jh hym;refine Zh ?_;refine xM (Zb 1 Yj) ?_;refine yU (Ze 1 YT) fun v41=>?_;refine xL 42 Za (xL 43 (Zg Yw) ?_);refine yU (YD Zk) fun v44=>?_;refine cV (cA call33 (ih y hym (hp y hym) oM)) ?_;refine YX ?_ ?_<;>intro hb46
 · (
 refine ZI ?_;refine Zf results33 rfl ?_;rw [ZnV hym (by simpa using hb46),Bool.or_true];rfl)
 · (
 refine Y5 ?_;refine Yh (
  ⟨i+1,oM,Zh4 hy hno (by simpa using hb46)⟩
  )))
   · (
 have hall:l.any turT=false:=Zqw (by rw [Xq oM] at hno;exact hno);refine ZI ?_;refine Zf results33 rfl ?_;rw [hno6,hall];rfl)
theorem Zgr (t:Nd) (hf:FitT t) (hv:WH t=true):AF prog 11 [pTr t] (· =Zv (clsT t)):=by
 have ea:pTr t= .agg [Zc t.op,Zt t.act,Yt t.l]:=rfl
 have hvz:=R5 hv
 have hal:=P6 t (JU hv)
 have f5:((Jd t).map Zt).length=(Jd t).length*1:=by rw [Xb,Xy]
 have hA:=AF.shared (p':=Zs (Jd t)) (ZkG t (JU hv) oM) (Wb _ _ _)
 rw [ea] at hA ⊢
 refine AF.b1 29 func11 rfl ntmps11 (Xa rfl) fun w0 M0 v0 _=>?_
 refine Zh ?_
 refine ZV 1 3 fun h1=>?_;refine ZQ ?_
 refine yU (Zj 1 Zk) fun v5=>?_;refine cU (cA call31 (hA)) fun v6=>?_;refine Ta ?_
 refine Yd (ι:={k:Nat//k≤(Jd t).length∧((Jd t).take k).Nodup}) (fun k=>⟨[(1,_,_),(3,_,_),(4, .int .i64 k.1,Zc k.1)],[(1,_,_)]⟩) (fun k=>(Jd t).length-k.1) ⟨0,Xg _,by rw [XM];exact .nil⟩ ?_
 rintro ⟨i,hi,hnd⟩
 dsimp only
 refine Zh ?_
 refine xL 7 Za (xL 8 Za (xL 9 (Zy Zn) (xL 10 Wq ?_)));refine ZR ?_ ?_<;>intro hb10
 · (
 obtain ⟨s,hs⟩:=get_some (show i<(Jd t).length by omega);have es:=Z8 (f:=Zt) hs;have hI:=Cu ((Jd t).take i) s;rw [show Zs ((Jd t).take i)=PV.sl (i-0) ((((Jd t).map Zt).drop (0*1)).take ((i-0)*1)) by unfold Zs;rw [XG,Vc hi,X8,Vk,Vx,Xy,List.map_take]] at hI;refine nav ?_;refine We [] [] ?_<;>refine gDx 0 ?_<;>refine gDx 1 ?_<;>refine xD 2 rfl (Ge (i:=0) (j:=i) Zn rfl rfl rfl rfl (Xg _) hi f5) ?_<;>refine gDx 3 ?_<;>refine gEx 4 ?_<;>refine xE 5 rfl (Zg Zn) ?_<;>(refine yE 6 rfl (ZG ZK) fun v19 h=>?_;cases h)<;>(refine Z6 7 kR ?_)<;>(refine Yz (d:=20) rfl (cA call32 hI) fun v20 h=>?_;cases h)<;>refine gEx 8 ?_<;>refine Kz ?_;refine cX ?_ ?_<;>intro hb21
 · (
 refine ZI ?_;refine Zf results11 rfl ?_;(have h9:hasStr ((Jd t).take i) s=true:=by unfold hasStr;rw [←Lo];exact U9 hb21);unfold clsT;rw [U' (fun h=>?_),Bool.and_false];rfl;have h10:=Zw hs;have h11:((Jd t).take (i+1)).Nodup:=h.sublist (UG _ _);rw [h10,VB] at h11;exact h11.2.2 s (C4.1 h9) s (Xn.2 rfl) rfl)
 · (
 refine Y5 ?_;refine Yh (
  ⟨i+1,oM,by
   rw [Zw hs,VB];refine ⟨hnd,Vu _ _,fun u hu v hv e=>?_⟩;rw [Xn] at hv;subst hv;subst e;have h9:hasStr ((Jd t).take i) u=true:=C4.2 hu;unfold hasStr at h9;rw [←Lo] at h9;exact hb21 (Qd h9)⟩
  )))
 · (
 (have hall:(Jd t).Nodup:=by rw [Xq oM] at hnd;exact hnd);refine Zh ?_;(refine yU (Zj 1 Zk) fun v22=>?_<;>(refine cV (cA call27 (ζX t hf)) ?_)<;>refine YW ?_<;>(refine bL 25 (fun hb25=>?_) (fun hb25=>?_)<;>(first|refine kL ?_|refine yU (Zj 1 Zk) fun v26=>?_))<;>(first|refine kL ?_|(refine cV (cA call33 (Zgq t (JU hv) oM)) ?_))<;>refine YJ ?_)<;>(
 refine Zf results11 rfl ?_;unfold clsT;rw [U9 hall,VV]
 first
  |(rw [hb25];rfl)
  |(rw [show (!Ln t)=true by simpa using hb25];rfl)
  |(rw [show (!Ln t)=false by simpa using hb25];rfl)))
theorem Zaj (t :Nd) (hf:FitT t):AF prog 8 [pTr t] (· = .tup [Yx (Hq t).1,Zc (Hq t).2]):=by
 have ea:pTr t= .agg [Zc t.op,Zt t.act,Yt t.l]:=rfl
 rw [ea]
 refine AF.b1 33 func8 rfl ntmps8 (Xa rfl) fun w0 M0 v0 _=>?_
 refine Zh ?_
 refine ZV 1 3 fun h1=>?_;refine Jn ?_
 refine yU (Zj 1 Zk) fun v7=>?_;refine cV (cA call10 (Ea t hf)) ?_;refine YX ?_ ?_<;>intro hb9
 · (
 refine ZE ?_;refine Z5 (TS (t:=2) rfl) fun _=>?_;refine Z1 results8 rfl rfl ?_;rw [Zne (by simpa using hb9)];rfl)
 · (
 (have hv:WH t=true:=by simpa using hb9);have hvz:=R5 hv;refine Zh ?_;refine yU (Zj 1 Zk) fun v10=>?_;refine cV (cA call27 (ζX t hf)) ?_;refine ZR ?_ ?_<;>intro hb11
 · (
 refine ZE ?_;refine Z5 (TS (t:=2) rfl) fun _=>?_;refine Z1 results8 rfl rfl ?_;rw [ZhQ hv (by simpa using hb11)];rfl)
 · (
 (have hq:Ln t=false:=by simpa using hb11);have hC:=ZnT t (JU hv) hq oM;have hG:=Zcp t;obtain ⟨⟨L,b⟩,hLb⟩:∃x,x=Z3 t:=⟨_,rfl⟩;rw [←hLb] at hC hG;rw [show pWd (L,b)= .agg [WF L,Zv b] from rfl] at hC;have hLl:L.length≤301:=hG.len;refine Zh ?_;refine yU (Zj 1 Zk) fun v12=>?_;refine cD (cA call28 (hC)) fun v13 hv13=>?_;clear hv13;refine Zx [(.slice none 0 0),(.bool false)] 2 4 Ll fun h4=>?_;refine Zu 4 ZL ?_;refine Yc ?_;refine xM (Zb 4 Jv) ?_;refine yV (Ze 4 Yk) ?_;refine ZR ?_ ?_<;>intro hb15
 · (
 refine ZE ?_;refine Z5 (TS (t:=2) rfl) fun _=>?_;refine Z1 results8 rfl rfl ?_;rw [Znf hv hq (by rw [←hLb];simpa using hb15)];rfl)
 · (
 (have hbf:b=false:=by simpa using hb15);refine YK ?_;refine ZB ?_;refine Zq (Wr 200 41 2 rfl) fun _=>?_;refine Yd (ι:={q:Nat×Value//q.1≤L.length∧q.2.oneCell'=true}) (fun k=>⟨[(4,_,_),(5,k.1.2, .val k.1.2),(6, .int .i64 k.1.1,Zc k.1.1)],[(4,_,_),(200,k.1.2, .own 41 2 (L.take k.1.1).length (((L.take k.1.1).map Ph).flatMap WM))]⟩) (fun k=>L.length-k.1.1) ⟨(0, .slice none 0 0),Xg _,rfl⟩ ?_;rintro ⟨⟨i,hv2⟩,hi,hov⟩;dsimp only;dsimp only at hi hov;(have hDl:(L.take i).length=i:=by rw [XG];omega);(have hDc:(((L.take i).map Ph).flatMap WM).length=(L.take i).length*2:=by rw [Yr Yy,Xb]);refine Zh ?_;refine xL 16 Za (xL 17 (Zb 4 Ya) ?_);refine yU (Ze 4 Yp) fun v18=>?_;refine xL 19 (Zy Ym) (xL 20 Wq ?_);refine ZR ?_ ?_<;>intro hb20
 · (
 obtain ⟨w,hw⟩:=gS L i;have ew:=Z8 (f:=Zs) hw;refine Zh ?_;refine xL 23 Za (xL 24 (Zb 4 Ya) ?_);refine yU (Ze 4 Yp) fun v25=>?_;refine xL 26 Za (xL 27 (Zg Ym) ?_);refine yU (ZG ZN) fun v28=>?_;refine xM (ZX Gw) ?_;refine JW 30 Gq fun h30 ho30=>?_;refine WN 200 30 31 Gq fun h31 ho31=>?_;refine Zp (Zz (l:=31) 200 rfl rfl) fun _=>?_;refine Zp (Y1 (l:=200) (p':= .own 41 2 (L.take (i+1)).length (((L.take (i+1)).map Ph).flatMap WM)) rfl (by rw [Zw hw];exact Zbp _ _ w)) fun _=>?_;refine Py ?_;refine Yh (
  ⟨(i+1,h31),by show i+1≤L.length;omega,ho31⟩
  ))
 · (
 obtain rfl:i=L.length:=oM;refine Y5 ?_;refine Z5 (En.freeze (l:=200) (t:=2) rfl rfl) fun _=>?_;refine Z1 results8 rfl rfl ?_;rw [Zng hv hq (hLb.symm.trans (by rw [hbf])),XH,Dc _ _ _ (Xb ..).symm]))))
def Pf (op:Int):BA:=if op=3 then ⟨#[115,101,113]⟩ else if op=4 then ⟨#[120,111,114]⟩ else if op=5 then ⟨#[97,110,100]⟩ else ⟨#[108,111,111,112]⟩
theorem Zbz (op:Int):(Pf op).data.toList.length≤4:=by
 unfold Pf
 split
 · decide
 · split
   · decide
   · split<;>decide
def P8:List (List UInt8)→List UInt8
 |[]=>[]
 |[x]=>x
 |x::y::m=>x++[44,32]++P8 (y::m)
theorem ZbA (x:List UInt8):∀m:List (List UInt8),P8 (m++[x])=P8 m++(if m=[] then [] else [44,32])++x
 |[]=>by simp [P8]
 |[y]=>by simp [P8]
 | y::z::m=>by
   have:=ZbA x (z::m);simp only [XV] at this ⊢;rw [P8,this,P8];simp
mutual
def LY:Nd→List UInt8
 | .mk o a l=>if o=1 then a.data.toList else if o=2 then [40,41] else (Pf o).data.toList++[40]++P8 (LQ l)++[41]
def LQ:List Nd→List (List UInt8)
 |[]=>[]
 |x::l=>LY x::LQ l
end
theorem ζY (l:List Nd):LQ l=l.map LY:=by
 induction l with
 |nil=>rfl
 |cons x l ih=>rw [LQ,ih];rfl
theorem ζZ (m:List (List UInt8)) (n:List Nat) (h:m.map List.length=n):(P8 m).length≤n.sum+2*n.length:=by
 subst h
 match m with
 |[]=>simp [P8]
 |[x]=>simp [P8]
 | x::y::m=>
   have:=ζZ (y::m) _ rfl;rw [P8];simp only [Xf,Xj,List.sum_cons,Xl,Xz,Xb] at this ⊢;omega
theorem ZeG:∀t:Nd,okT t=true→(LY t).length+2≤50*szT t:=Nd.ind fun o a l ih hok=>by
 obtain ⟨hr,hp⟩:=Y3.1 hok
 have h40:=Zd5 hr
 simp only [Nd.l,Nd.act] at hp h40
 have h1:(a.data.toList).length=a.size:=XX
 have h2:((LQ l).map List.length).sum+2*((LQ l).map List.length).length≤50*szL l:=by
  clear hok hr;induction l with
  |nil=>simp [LQ]
  | cons x l ih2=>
    have h3:=ih x (Xs ..) (hp x (Xs ..));have h4:=ih2 (fun y hy=>ih y (Xw _ hy)) (fun y hy=>hp y (Xw _ hy));rw [LQ,szL];simp only [Xj,List.sum_cons,Xl,Xb] at h4 ⊢;omega
 have h3:=ζZ (LQ l) _ rfl
 have h4:=Zbz o
 rw [LY,szT]
 split
 · omega
 · split
   · simp only [Xl,Xz];omega
   · simp only [Xf,Xl,Xz];omega
theorem Zgs {l:List Nd} {k:Nat} {x:Nd} (h:l[k]? =some x):P8 (LQ (l.take (k+1)))=P8 (LQ (l.take k))++(if k=0 then [] else [44,32])++LY x:=by
 rw [Zw h,ζY,XC,Xj,Vl,ZbA,←ζY]
 have hk:=Zd h
 by_cases h0:k=0
 · subst h0;rfl
 · rw [Qa h0,Qa];intro he;have:=congrArg List.length he;rw [ζY,Xb,XG,Xz] at this;omega
theorem ZkH {l:List Nd} (hp:∀x∈l,okT x=true) (k:Nat):(P8 (LQ (l.take k))).length≤50*szL (l.take k)∧szL (l.take k)≤szL l:=by
 have h2:∀m:List Nd,(∀x∈m,okT x=true)→((LQ m).map List.length).sum+2*((LQ m).map List.length).length≤50*szL m:=fun m=>by
  induction m with
  |nil=>intro _;simp [LQ]
  | cons x m ih2=>
    intro hm;have h3:=ZeG x (hm x (Xs ..));have h4:=ih2 (fun y hy=>hm y (Xw _ hy));rw [LQ,szL];simp only [Xj,List.sum_cons,Xl,Xb] at h4 ⊢;omega
 have h3:=ζZ (LQ (l.take k)) _ rfl
 have h4:=h2 (l.take k) fun x hx=>hp x (VA hx)
 have h5:szL (l.take k)≤szL l:=by
  conv=>rhs;rw [←X5 k l]
  rw [Ss];omega
 exact ⟨oM,h5⟩
end Go.Proofs.YteiincihiagidaaGreat
namespace Go.En
open Go.RowKit Go.Cb
section
variable {P:Program} {c:Ctx} {Q:Exit→Act→World→Prop} {sL hP:List (Nat×Ent)}
end
section
variable {P:Program} {st:St} {o:Oper} {x y:Operand} {q q':PV} {t t':TypeId}
end
section
variable {P:Program}
end
section
variable {P:Program} {c:Ctx} {ops:Array Oper} {Q:Exit→Act→World→Prop} {rest:List Oper} {sL hP:List (Nat×Ent)} {o:Oper}
end
section
variable {P:Program} {ops:Array Oper} {Q:Exit→Act→World→Prop} {Pp:List PanicEntry→World→Prop} {md:Region.Mode} {C:World→Prop} {Z:Nat→Bool}
end
section
variable {P:Program} {c:Ctx} {ops:Array Oper} {Q:Exit→Act→World→Prop} {Pp:List PanicEntry→World→Prop} {Z:Nat→Bool} {K:List Nat} {fuel:Nat} {listed:Array Bool} {sL hP:List (Nat×Ent)} {o:Oper}
end
section
variable {P:Program} {st:St} {o:Oper} {x y:Operand} {q q':PV} {t t':TypeId}
theorem ZrH {a b:BA} (ho:o.op= .binOp .add t x y t':=by exact rfl) (hx:ev st.slots x=some (.string a,q):=by exact rfl) (hy:ev st.slots y=some (.string b,q'):=by exact rfl) (hs:(a.size:Int)+b.size≤9223372036854775807:=by omega):YE P st o (· = .string (a++b)) (.val (.string (a++b))):=
 y2 hx hy fun ρ w h3 h4=>by simp [execOp,ho,h3,h4,eqGuard,binOp,Op.stringOp];omega
end
section
variable {P:Program} {c:Ctx} {ops:Array Oper} {Q:Exit→Act→World→Prop} {rest:List Oper} {sL hP:List (Nat×Ent)} {o:Oper}
end
end Go.En
namespace Go.Proofs.YteiincihiagidaaGreat
open Go.RowKit Go.Cb Go.En Tryz
def bst (l:List UInt8):BA:=⟨l.toArray⟩
theorem Zh5 (s:BA):bst s.data.toList=s:=by cases s;simp [bst]
theorem ζ0 (l:List UInt8):(bst l).size=l.length:=by simp [bst,ByteArray.size]
structure Tk where
 kind:Int
 text:List UInt8
 n:Int
 ln:Int
 col:Int
def syms:List (List UInt8):=[[45,62],[61,62],[60,61],[62,61],[33,61],[61,61],[58,61],[46,46],[40],[41],[91],[93],[123],[125],[44],[59],[58],[46],[124],[38],[33],[63],[43],[45],[42],[47],[61],[60],[62],[64],[37],[94],[126]]
inductive Lt where
 |ok (n:Nat) (t:List UInt8)
 |err (e:Int)
inductive Lx where
 |ok (kind:Int) (text:List UInt8) (n:Int) (len:Nat)
 |err (e:Int)
structure LexOk (l:List UInt8) (kd:Int) (tx:List UInt8) (n:Int) (len:Nat):Prop where
 le:len≤l.length
 endk:l=[]↔kd=5
 pos:l≠[]→1≤len
 tlen:tx.length≤len
 lo:0≤n
 hi:n≤4503599627370496
def EndL (l:List Tk):Prop:=∃a e,l=a++[e]∧e.kind=5∧∀x∈a,x.kind≠5
structure TkOk (t:Tk):Prop where
 text:t.text.length≤16384
 lo:0≤t.n
 hi:t.n≤4503599627370496
inductive Rd where
 |ok (t:Nd) (m:List Tk)
 |err (t:Tk)
structure RdOk (m:List Tk) (t:Nd) (m2:List Tk):Prop where
 lt:m2.length<m.length
 suf:m2<:+m
 endl:EndL m2
abbrev pB (l:List UInt8):PV:=Zt (bst l)
def ZeH (t:Nd):BA×Int:=if WH t=true then (if 16384<(LY t).length then (ByteArray.empty,5) else (⟨(LY t).toArray⟩,0)) else (ByteArray.empty,1)
theorem Zp4 (l m:List UInt8):bst l++bst m=bst (l++m):=by
 unfold bst
 apply ByteArray.ext
 simp
theorem ZnW (op:Int):AF prog 73 [Zc op] (· =Zt (Pf op)):=by
 refine AF.b1 10 func73 rfl ntmps73 (Xa rfl) ?_
 rintro w0 M0 _ rfl
 refine YK ?_;refine Wy ?_;refine cX ?_ ?_<;>intro hb4
 · (
 refine ZI ?_;refine Zf results73 rfl ?_;rw [Pf,Qb (by assumption)])
 · (
 refine Wa ?_ ?_<;>intro hb6
 · (
 refine ZI ?_;refine Zf results73 rfl ?_;rw [Pf,Qa (by assumption),Qb (by assumption)])
 · (
 refine Wa ?_ ?_<;>intro hb8
 · (
 refine ZI ?_;refine Zf results73 rfl ?_;rw [Pf,Qa (by assumption),Qa (by assumption),Qb (by assumption)])
 · (
 refine ZI ?_;refine Zf results73 rfl ?_;rw [Pf,Qa (by assumption),Qa (by assumption),Qa (by assumption)])))
theorem Hw {P:Program} {st:St} {o:Oper} {x y:Operand} {q q':PV} {t t':TypeId} (l m:List UInt8) (hs:l.length+m.length≤9223372036854775807) (ho:o.op= .binOp .add t x y t':=by exact rfl) (hx:ev st.slots x=some (.string (bst l),q):=by exact rfl) (hy:ev st.slots y=some (.string (bst m),q'):=by exact rfl):YE P st o (· = .string (bst (l++m))) (pB (l++m)):=by
 have:=ZrH (P:=P) ho hx hy (by rw [ζ0,ζ0];omega)
 rw [Zp4] at this
 exact this
theorem ZnX : ∀ t :Nd,okT t=true→szT t≤1000000→AF prog 39 [pTr t] (· =pB (LY t)):=Nd.ind fun o a l ih hok hs=>by
 have e0:pTr (.mk o a l)= .agg [Zc o,Zt a,Yt l]:=rfl
 rw [e0]
 obtain ⟨hr,hp⟩:=Y3.1 hok
 have hf:=Oy _ hok hs
 have hsz:=P0 (.mk o a l)
 simp only [Nd.l,Nd.op] at hp hsz
 have hlz:=Ox l
 have hW:AF prog 73 [Zc o] (· =pB (Pf o).data.toList):=by
  have:=ZnW o;rw [show pB (Pf o).data.toList=Zt (Pf o) by unfold pB;rw [Zh5]];exact this
 have hwl:=Zbz o
 obtain ⟨W,hWe⟩:∃W,W=(Pf o).data.toList:=⟨_,rfl⟩
 rw [←hWe] at hW hwl
 refine AF.b1 38 func39 rfl ntmps39 (Xa rfl) fun w0 M0 v0 _=>?_
 refine Zh ?_
 refine ZV 1 3 fun h1=>?_;refine ZQ ?_
 refine xM (Zb 1 YS) ?_;refine yV (Ze 1 ZM) ?_;refine YX ?_ ?_<;>intro hb7
 · (
 refine Zh ?_;refine xM (Zb 1 Ld) ?_;refine yV (Ze 1 ZK) ?_;refine ZB ?_;refine Zf results39 rfl ?_;rw [LY,Qb (by assumption)];unfold pB;rw [Zh5])
 · (
 refine Zh ?_;refine xM (Zb 1 YS) ?_;refine yV (Ze 1 ZM) ?_;refine YX ?_ ?_<;>intro hb12
 · (
 refine ZI ?_;refine Zf results39 rfl ?_;rw [LY,Qa (by assumption),Qb (by assumption)];rfl)
 · (
 refine Zh ?_;refine xM (Zb 1 YS) ?_;refine yV (Ze 1 ZM) ?_;refine cV (cA call73 (hW)) ?_;refine xM (Hw W [40] (by simp only [Xl,Xz];omega)) ?_;refine Ta ?_;refine Yd (ι:={q:Nat×List UInt8//q.1≤l.length∧q.2=W++[40]++P8 (LQ (l.take q.1))}) (fun k=>⟨[(1,_,_),(3, .string (bst k.1.2),pB k.1.2),(4, .int .i64 k.1.1,Zc k.1.1)],[(1,_,_)]⟩) (fun k=>l.length-k.1.1) ⟨(0,W++[40]),Xg _,by rw [XM,LQ,P8,Xu]⟩ ?_;rintro ⟨⟨k,s⟩,hk,hse⟩;dsimp only;(dsimp only at hk hse;have hpl:=ZkH hp k;have hsl:s.length≤4+1+50*szL l:=by (rw [hse,Xf,Xf,XF];omega));refine Zh ?_;refine xL 17 Za (xL 18 (Zb 1 Yj) ?_);refine yU (Ze 1 YT) fun v19=>?_;refine xL 20 (Zy Yw) (xL 21 Wq ?_);refine ZR ?_ ?_<;>intro hb21
 · (
 obtain ⟨x,hx⟩:=gS l k;have e1:((Z9 l).drop (k*3)).take 3=[Zc x.op,Zt x.act,Yt x.l]:=ZT hx;have e2:=Yg hx;have hxm:=Xc hx;have hxs:=Jh hxm;have hX:=ih x hxm (hp x hxm) oM;have hxl:=ZeG x (hp x hxm);have hsn:=Zgs hx;refine Wa ?_ ?_<;>intro hb25
 · (
 refine Wh ?_;refine xM (Hw s [44,32] (by simp only [Xl,Xz];omega)) ?_;refine ZQ ?_;refine xL 28 Za (xL 29 (Zb 1 Yj) ?_);refine yU (Ze 1 YT) fun v30=>?_;refine xL 31 Za (xL 32 (Zg Yw) ?_);refine yU (YD Zk) fun v33=>?_;refine cV (cA call39 (hX)) ?_;refine xM (Hw (s++[44,32]) (LY x) (by rw [Xf];simp only [Xl,Xz];omega)) ?_;refine Py ?_
 first
  | (exact Yh (
      ⟨(k+1,s++LY x),Zd hx,by dsimp only;rw [hsn,Qb oM,hse,Xu,XA]⟩
      ))
  | (exact Yh (
      ⟨(k+1,s++[44,32]++LY x),Zd hx,by dsimp only;rw [hsn,Qa oM,hse];simp only [XA]⟩
      )))
 · (
 refine Zh ?_;refine xL 28 Za (xL 29 (Zb 1 Yj) ?_);refine yU (Ze 1 YT) fun v30=>?_;refine xL 31 Za (xL 32 (Zg Yw) ?_);refine yU (YD Zk) fun v33=>?_;refine cV (cA call39 (hX)) ?_;refine xM (Hw s (LY x) oM) ?_;refine Py ?_
 first
  | (exact Yh (
      ⟨(k+1,s++LY x),Zd hx,by dsimp only;rw [hsn,Qb oM,hse,Xu,XA]⟩
      ))
  | (exact Yh (
      ⟨(k+1,s++[44,32]++LY x),Zd hx,by dsimp only;rw [hsn,Qa oM,hse];simp only [XA]⟩
      ))))
 · (
 refine Wh ?_;refine xM (Hw s [41] (by simp only [Xl,Xz];omega)) ?_;refine ZB ?_;refine Zf results39 rfl ?_;rw [LY,Qa (by assumption),Qa (by assumption),hse,Xq oM,hWe])))
theorem Em (t:Nd) (hf:FitT t):AF prog 13 [pTr t] (· = .tup [Zt (ZeH t).1,Zc (ZeH t).2]):=by
 have e0:pTr t= .agg [Zc t.op,Zt t.act,Yt t.l]:=rfl
 have hV:=Ea t hf
 have hsz:=ζ0 (LY t)
 rw [e0] at hV ⊢
 refine AF.b1 14 func13 rfl ntmps13 (Xa rfl) fun w0 M0 v0 _=>?_
 refine Zh ?_
 refine ZV 1 3 fun h1=>?_;refine Jn ?_
 refine yU (Zj 1 Zk) fun v5=>?_;refine cV (cA call10 (hV)) ?_;refine YX ?_ ?_<;>intro hb7
 · (
 refine ZE ?_;refine Z1 results13 rfl rfl ?_;rw [ZeH,Qa (by simpa using hb7)];rfl)
 · (
 (have hv:WH t=true:=by simpa using hb7);have hT:=ZnX t (JU hv) (by have:=R5 hv;omega);rw [e0] at hT;refine Zh ?_;refine yU (Zj 1 Zk) fun v8=>?_;refine cV (cA call39 (hT)) ?_;refine ZQ ?_;refine xL 10 Za (xL 11 (Pu underlying9) (xL 12 Rc ?_));refine ZR ?_ ?_<;>intro hb12
 · (
 refine ZE ?_;refine Z1 results13 rfl rfl ?_;rw [ZeH,Qb hv,Qb oM];rfl)
 · (
 refine Y5 ?_;refine Z1 results13 rfl rfl ?_;rw [ZeH,Qb hv,Qa oM];rfl))
end Go.Proofs.YteiincihiagidaaGreat
