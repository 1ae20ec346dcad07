/-
  Walks of functions and plain laws of the chapter, as the claim needs them.
-/
import Derived.Test.YtgfabnhpllkebaaGreatDoorPe12
import Derived.Test.YtgfabnhpllkebaaGreatDoorPe08
import Derived.Test.YtgfabnhpllkebaaGreatDoorPe04
import Derived.Test.YtgfabnhpllkebaaGreatDoorPe06
import Derived.Test.YtgfabnhpllkebaaGreatDoorPe10
import Derived.Test.YtgfabnhpllkebaaGreatDoorPe05
import Derived.Test.YtgfabnhpllkebaaGreatDoorPe07
import Derived.Test.YtgfabnhpllkebaaGreatDoorPe02
import Derived.Test.YtgfabnhpllkebaaGreatDoorPe03
import Derived.Test.YtgfabnhpllkebaaGreatDoorPe01
namespace Go.Proofs.YtgfabnhpllkebaaGreatDoor
open Go.RowKit Go.Cb Go.En Tryz
set_option linter.all false
set_option maxRecDepth 100000
theorem CP:AggT prog 24 3=true:=by kernel_rfl
theorem CQ:AggT prog 39 5=true:=by kernel_rfl
theorem ZaM:ZeroT prog 39 (.agg #[(.int .i64 0),(.int .i64 0),(.slice none 0 0),(.slice none 0 0),(.slice none 0 0)]):=by unfold ZeroT;kernel_rfl
theorem Zls (t:Nd) (hf:FitT t) {L:List ByteArray} (hR:actR t=(L,0)) {p0 p1 p2 p3 p4:PV} {E:Int} (hS:RS (bldT L t) p0 p1 p2 p3 p4 E):AF prog 66 [pTr t] (· = .tup [.agg [p0,p1,p2,p3,p4],YF L,pInt E]):=by
 have e0:pTr t= .agg [pInt t.op,Yv t.act,Wl t.l]:=rfl
 have hA:=Zmj t hf
 obtain ⟨hv,hL,hm,hn,hmem⟩:=ZmR (t:=t) (by rw [hR])
 rw [hR] at hA hm hmem
 dsimp only at hA hm hmem
 have hj:=Ds L hm t (Tc hv) (by have:=TU hv;omega) (fun s hs=>(hmem s).2 hs)
 rw [hS.eq] at hj
 rw [e0] at hA hj ⊢
 have r5:=hS.r5
 obtain ⟨o0,o1,o2,o3,o4⟩:=r5.o
 refine AF.of_body 26 func66 rfl ntmps66 (Xa rfl) ?_
 intro w0 M0 vs hl hv
 obtain ⟨v0,rfl⟩:=WE hl
 clear hl hv
 refine Ze ?_
 (refine ZB 1 3 fun h1=>?_<;>refine Zv [(.int .i64 0),(.int .i64 0),(.slice none 0 0),(.slice none 0 0),(.slice none 0 0)] 5 2 ZaM fun h2=>?_<;>refine xL 3 Za (xL 4 Za ?_)<;>refine Zk ?_)
 ((refine yL 9 (Zs 1 CP) fun v9 h=>?_;cases h)<;>(refine cP 10 (cA call25 (hA)) fun va10 vb10 hva10 h=>?_;cases h)<;>refine xL 8 Zb (xL 11 Zi (xL 12 Zi (xL 5 Za (xL 6 Za ?_))))<;>refine Zk ?_)
 (refine xL 13 Zb (xL 14 Yn ?_)<;>refine Zc ?_)
 refine cX ?_ ?_<;>intro hb14
 · exact UV rfl hb14
 · refine Ze ?_;((refine yL 18 (Zs 1 CP) fun v18 h=>?_;cases h)<;>refine xL 19 Zb ?_<;>(refine cP 20 (cA (call51) hj) (fun va20 vb20 hva20 hvb20=>?_) (hsh:=r5.t E);cases hvb20)<;>refine xL 17 Zb (xL 21 Zi (xL 22 Zi ?_))<;>refine Zv [(.int .i64 0),(.int .i64 0),(.slice none 0 0),(.slice none 0 0),(.slice none 0 0)] 5 7 ZaM fun h7=>?_<;>refine Zz 7 CQ ?_<;>refine xL 6 Za ?_<;>refine Zk ?_)
   ((refine yL 23 (Zs (k:=5) (ps:=[p0,p1,p2,p3,p4]) 7 kR (hsh:=r5.s)) fun v23 h=>?_;cases h)<;>refine xL 24 Zb (xL 25 Zb ?_)<;>refine Zz 2 CQ ?_<;>refine xL 3 Za (xL 4 Za ?_)<;>refine Zc ?_)
   exact Gx (k:=5) 2 kR (results66) rfl rfl rfl rfl (Xa rfl) dC r5.s rfl
structure OwnR (t:Nd) (L:List ByteArray) (p0 p1 p2 p3 p4:PV) (E:Int):Prop where
 r5:R5 p0 p1 p2 p3 p4
 hc:(¬E=0∧actR t=(L,E))∨(actR t=(L,0)∧RS (bldT L t) p0 p1 p2 p3 p4 E)
theorem ZiJ {A B:Aut} {i:Nat} {o:List PrS} {rows:List (List Nat)} (hu:(YP A B).upto ((0,0),(-1,-1)) i=some (o,rows)) {j:Nat} {x:PrS} (hj:0<j) (hx:o[j]? =some x):∃i' s:Nat,i'<j∧x.2=((i':Int),(s:Int)):=by
 obtain ⟨i',y,s,h1,_,_,rfl⟩:=Srch.born hu j x hj hx
 exact ⟨i',s,h1,rfl⟩
def Znm (a b:Aut) (op:Int):PV:=match Pa a b op with
 | .ok (A,B,q)=> .tup [pInts (GW A B op q).2,ZN (!(GW A B op q).1),pInt 0]
 | .error e=> .tup [pInts [],ZN false,pInt e]
theorem ζd (a b:Aut) (op e:Int) (he:¬e=0) (hp:AF prog 148 [ZJ a,ZJ b,pInt op] (· = .tup [pTZ,pMvs [],pInt e])):AF prog 101 [ZJ a,ZJ b,pInt op] (· = .tup [pInts [],ZN false,pInt e]):=by
 refine AF.of_body 57 func101 rfl ntmps101 (Xa rfl) ?_
 intro w0 M0 vs hl hv
 obtain ⟨v0,v1,v2,rfl⟩:=Jx hl
 obtain rfl:=hv 2 _ _ rfl rfl
 clear hl hv
 refine Ze ?_
 (refine ZB 3 5 fun h3=>?_<;>refine ZB 4 5 fun h4=>?_<;>refine xL 6 Za (xL 7 Za (xL 8 Za ?_))<;>refine Zk ?_)
 ((refine yL 16 (Zs 3 Zf) fun v16 h=>?_;cases h)<;>(refine yL 17 (Zs 4 Zf) fun v17 h=>?_;cases h)<;>refine xL 18 Zb ?_<;>(refine C1 19 (cA call148 hp) fun va19 vb19 vc19 hva19 hvb19 hvc19=>?_;cases hvc19)<;>refine xL 15 Zb (xL 20 Zi (xL 21 Zi (xL 22 Zi ?_)))<;>refine Zv [(.int .i64 0),(.slice none 0 0),(.slice none 0 0)] 3 9 Z6 fun h9=>?_<;>refine Zz 9 ZP ?_<;>refine xL 10 Za (xL 11 Za ?_)<;>refine Zk ?_)
 (refine xL 23 Zb (xL 24 Yn ?_)<;>refine Zc ?_)
 refine cX ?_ ?_<;>intro hb24
 · refine Ze ?_;(refine xL 25 Zb (xL 6 Za (xL 7 Za (xL 8 Za ?_)))<;>refine Zc ?_)
   refine YG (Y' (t:=6) rfl) fun _=>?_;exact LZ (results101) rfl rfl rfl rfl
 · exact UV (by simpa using hb24) he
set_option maxHeartbeats 2000000 in
theorem ZbV (a b A B:Aut) (op:Int) (o:List PrS) (rows:List (List Nat)) (hu:(YP A B).upto ((0,0),(-1,-1)) 2000=some (o,rows)) (h0:o[0]? =some ((0,0),(-1,-1))) (hcap:o.length≤2000) (hp:AF prog 148 [ZJ a,ZJ b,pInt op] (· = .tup [S7 (JM A B op (o,rows)),pMvs (o.map mvB),pInt 0])):AF prog 101 [ZJ a,ZJ b,pInt op] (· = .tup [pInts (GW A B op (o,rows)).2,ZN (!(GW A B op (o,rows)).1),pInt 0]):=by
 have hbk:=Dg hu h0
 have hfl:(o.map (Y7 A B op)).length=o.length:=Xe _
 have hml:(o.map mvB).length=o.length:=Xe _
 refine AF.of_body 57 func101 rfl ntmps101 (Xa rfl) ?_
 intro w0 M0 vs hl hv
 obtain ⟨v0,v1,v2,rfl⟩:=Jx hl
 obtain rfl:=hv 2 _ _ rfl rfl
 clear hl hv
 refine Ze ?_
 (refine ZB 3 5 fun h3=>?_<;>refine ZB 4 5 fun h4=>?_<;>refine xL 6 Za (xL 7 Za (xL 8 Za ?_))<;>refine Zk ?_)
 ((refine yL 16 (Zs 3 Zf) fun v16 h=>?_;cases h)<;>(refine yL 17 (Zs 4 Zf) fun v17 h=>?_;cases h)<;>refine xL 18 Zb ?_<;>(refine C1 19 (cA call148 hp) fun va19 vb19 vc19 hva19 hvb19 hvc19=>?_;cases hvc19)<;>refine xL 15 Zb (xL 20 Zi (xL 21 Zi (xL 22 Zi ?_)))<;>refine Zv [(.int .i64 0),(.slice none 0 0),(.slice none 0 0)] 3 9 Z6 fun h9=>?_<;>refine Zz 9 ZP ?_<;>refine xL 10 Za (xL 11 Za ?_)<;>refine Zk ?_)
 (refine xL 23 Zb (xL 24 Yn ?_)<;>refine Zc ?_)
 refine cX ?_ ?_<;>intro hb24
 · first|omega|exact UV rfl hb24|exact bN hb24
 · refine Ze ?_;(refine xL 12 Za ?_<;>refine Zc ?_)
   refine ZE (ι:={k:Nat//k≤o.length∧∀i y,i<k→(o.map (Y7 A B op))[i]? =some y→(y==true)=false}) (fun k=>⟨[(6,_,_),(7,_,_),(8,_,_),(9,_,_),(10,_,_),(12, .int .i64 k.1,pInt k.1)],[(9,_,_)]⟩) (fun k=>o.length-k.1) ⟨0,oM,oM⟩ (fun a w H=>H.weaken ⟨rfl,rfl,rfl,rfl,rfl,rfl,trivial⟩ ⟨rfl,trivial⟩) ?_;rintro ⟨i0,hk,hp⟩;dsimp only;refine Ze ?_;(refine xL 26 Zb (xL 27 (Zd 9 YM) ?_)<;>(refine yL 28 (Zl 9 Ym) fun v28 h=>?_;cases h)<;>refine xL 29 (ZW Yo) (xL 30 ZQ ?_)<;>refine Zc ?_)
   refine cX ?_ ?_<;>intro hb30
   · first | exact bN hb30|(
 obtain ⟨x,hx⟩:=Zw (show i0<o.length by have:((JM A B op (o,rows)).fin).length=o.length:=hfl;omega);(have g1:(o.map (Y7 A B op))[i0]? =some (Y7 A B op x):=by rw [Xg,hx];rfl);have e1:=Yb (f:=ZN) g1;have hil:=Zh hx;refine Ze ?_;(refine xL 33 (Zd 9 YM) ?_<;>(refine yL 34 (Zl 9 Ym) fun v34 h=>?_;cases h)<;>refine xL 35 Zb (xL 36 (ZH Yo) ?_)<;>(refine yL 37 (Ya Wa) fun v37 h=>?_;cases h)<;>refine xL 38 Z' ?_<;>refine Zc ?_)
 refine cX ?_ ?_<;>intro hb38
 · first|exact bN hb38|(
 (have hfx:Y7 A B op x=false:=by simpa using hb38);refine Ze ?_;(refine xL 31 Zb (xL 32 ZK (xL 12 Za ?_))<;>refine Zc ?_)
 refine Zn (
  ⟨i0+1,oM,fun i y hi hy=>by
   by_cases e:i=i0
   · subst e;rw [g1] at hy;cases hy;rw [hfx];rfl
   · exact hp i y oM hy⟩
  ) (by dsimp only;omega) ⟨rfl,rfl,rfl,rfl,rfl,rfl,trivial⟩ ⟨rfl,trivial⟩)
 · first |exact bN hb38|(
 (have hfx:Y7 A B op x=true:=by simpa using hb38);have hcr:=ZdQ (q:=(o,rows)) (Lh hp g1 (by rw [hfx];rfl));dsimp only at hcr;refine Ze ?_;(refine J0 39 Zo fun h39 ho39=>?_<;>refine xL 13 Za ?_<;>refine Zc ?_)
 refine Zq (En.freeze (l:=39) (t:=13) rfl rfl) fun _=>?_;refine Zq (Wg (t:=13) (p':=pInts []) rfl rfl) fun _=>?_;(refine Zt ?_<;>refine xL 40 Zb (xL 14 Za ?_)<;>refine Zc ?_)
 refine ZE (ι:={k:Nat×List Int×Value//R3 (o.map (·.2)) i0=R3 (o.map (·.2)) k.1++k.2.1∧k.1<o.length∧k.2.1.length+k.1≤i0}) (fun k=>⟨[(6,_,_),(7,_,_),(8,_,_),(9,_,_),(10,_,_),(13,k.1.2.2,pInts k.1.2.1),(14, .int .i64 k.1.1,pInt k.1.1)],[(9,_,_)]⟩) (fun k=>k.1.1) ⟨(i0,[],h39),sM,hil,sM⟩ (fun a w H=>H.weaken ⟨rfl,rfl,rfl,rfl,rfl,rfl,rfl,trivial⟩ ⟨rfl,trivial⟩) ?_;rintro ⟨⟨cur,w,r⟩,hw,hc,hl⟩;dsimp only;dsimp only at hw hc hl;obtain ⟨⟨pq,f,s⟩,hx2⟩:=Zw hc;(have e3:(o.map (·.2))[cur]? =some (f,s):=by rw [Xg,hx2];rfl);refine Ze ?_;(refine xL 41 Zb (xL 42 Yz ?_)<;>refine Zc ?_)
 refine cX ?_ ?_<;>intro hb42
 · first|exact bN hb42|(
 obtain ⟨j,sn,hj,hjs⟩:=ZiJ hu (show 0<cur by omega) hx2;(obtain ⟨rfl,rfl⟩:f=(j:Int)∧s=(sn:Int):=by cases hjs;exact ⟨rfl,rfl⟩);have hwn:=Zbx hbk e3 (by dsimp only;omega);dsimp only at hwn;rw [XS] at hwn;(have hmv:mvB (pq,(j:Int),(sn:Int))=⟨(j:Int),0,(sn:Int)⟩:=by unfold mvB;rw [UT (by dsimp only;omega)]);(have g2:(o.map mvB)[cur]? =some ⟨(j:Int),0,(sn:Int)⟩:=by rw [Xg,hx2];show some (mvB _)=_;rw [hmv]);have e4:((o.map mvB).flatMap cMv)[cur*3+2]? =some (pInt (sn:Int)):=Gv Z5 g2 dC;have e5:((o.map mvB).flatMap cMv)[cur*3+0]? =some (pInt (j:Int)):=Gv Z5 g2 dC;(have hwl:(w.map pInt).length=w.length*1:=by rw [Xe,Xp]);(have hwo:(w.map pInt).all En.one=true:=by rw [XA];intro p hp;obtain ⟨z,_,rfl⟩:=Xl.1 hp;rfl);refine Ze ?_;(refine xL 48 Zb (xL 49 Zb (xL 50 (ZH ZL) (xL 51 (Jk Yp) ?_)))<;>(refine yL 52 (Ya Zg) fun v52 h=>?_;cases h)<;>refine ZM (kk:=1) 53 Zo fun h53 ho53=>?_<;>refine xL 54 Zb ?_<;>(refine W2 53 55 Zo (fun h55 ho55=>?_) hwl hwo;refine Zu (En.freeze (l:=55) (t:=55) rfl rfl) fun _=>?_;refine Zu (Wg (t:=55) (p':=pInts ((sn:Int)::w)) rfl (by show PV.sl (1+w.length) (pInt (sn:Int)::JV (w.map pInt))=_;rw [Yr,XG,Ud];rfl)) fun _=>?_)<;>refine xL 13 Za ?_<;>refine Zk ?_)
 (refine xL 43 Zb (xL 44 Zb (xL 45 (ZH ZL) (xL 46 (Jk Yd) ?_)))<;>(refine yL 47 (Ya Zg) fun v47 h=>?_;cases h)<;>refine xL 14 Za ?_<;>refine Zc ?_)
 refine Zn (
  ⟨(j,(sn:Int)::w,h55),by dsimp only;rw [hw,hwn,Xu];rfl,by dsimp only;omega,by dsimp only;rw [Xk];omega⟩
  ) (by dsimp only;omega) ⟨rfl,rfl,rfl,rfl,rfl,rfl,rfl,trivial⟩ ⟨rfl,trivial⟩)
 · first|exact bN hb42|(
 have hc0:cur=0:=oM;subst hc0;(have hf:f= -1∧s= -1:=by rw [h0] at hx2;cases hx2;exact ⟨rfl,rfl⟩);have hwn:=Cl e3 (by dsimp only;omega);rw [hwn,XW] at hw;refine Ze ?_;(refine xL 56 Zb (xL 6 Za (xL 7 Za (xL 8 Za ?_)))<;>refine Zc ?_)
 refine LZ (results101) rfl rfl rfl ?_;rw [hcr,hw];rfl)))
   · first|exact bN hb30|(
 (have hil:i0=o.length:=by have:((JM A B op (o,rows)).fin).length=o.length:=hfl;omega);have hcr:=ZgR (q:=(o,rows)) (Li fun i y hi hy=>hp i y (by rw [hfl] at hi;omega) hy);refine Ze ?_;(refine xL 6 Za (xL 7 Za (xL 8 Za ?_))<;>refine Zc ?_)
 refine YG (Y' (t:=6) rfl) fun _=>?_;refine LZ (results101) rfl rfl rfl ?_;rw [hcr];rfl)
theorem Zex (a b:Aut) (op:Int) (hma:a.moves.length≤1000000) (hmb:b.moves.length≤1000000):AF prog 101 [ZJ a,ZJ b,pInt op] (· =Znm a b op):=by
 have h:=Zf0 a b op hma hmb
 unfold ZoH at h
 unfold Znm
 cases e:Pa a b op with
 |error f=>rw [e] at h;exact ζd a b op f (Zf1 e) h
 | ok x=>
   obtain ⟨A,B,o,rows⟩:=x;rw [e] at h;have hf:=(Ziy e).2;obtain ⟨h1,h2,h3⟩:=Rc hf;have hbo:Jf a b= .ok (A,B,o,rows):=by
    unfold Pa at e;rw [UT (fun h=>h hf)] at e;split at e
    · cases e
    · exact e
   obtain ⟨ea,eb,eq⟩:=Zea hbo;obtain ⟨dA,sA⟩:=K3 (Kp h1) ea;obtain ⟨dB,sB⟩:=K3 (Kp h2) eb;have hok:=(L6 dA dB (by rw [sA,sB,h3]) eq).1;exact ZbV a b A B op o rows eq hok.zero hok.cap h
theorem ZoJ (a b:Aut) (op:Int) (ho:¬(op<1∨4<op)):∃(t:Bool) (l:List Int) (e:Int),Znm a b op= .tup [pInts l,ZN t,pInt e]∧cmpX a b op=((decide (e=0)&& !t),l,e):=by
 unfold Znm Pa cmpX
 by_cases h0:Wt a b=0
 · rw [UT (fun h=>h h0),UT ho,UT (fun h=>h h0)]
   cases e:Jf a b with
   |error f=>exact ⟨false,[],f,rfl,by rw [ZaE e];rfl⟩
   | ok x=>
     obtain ⟨A,B,q⟩:=x;exact ⟨!(GW A B op q).1,(GW A B op q).2,0,rfl,by rw [Bool.not_not];rfl⟩
 · rw [UU h0,UU h0];exact ⟨false,[],_,rfl,by rw [US h0];rfl⟩
theorem Hx (a b:Aut) (t:Bool) (l:List Int) (e:Int) (h:AF prog 101 [ZJ a,ZJ b,pInt 4] (· = .tup [pInts l,ZN t,pInt e])):AF prog 57 [ZJ a,ZJ b] (· = .tup [ZN (decide (e=0)&& !t),pInts l,pInt e]):=by
 refine AF.of_body 25 func57 rfl ntmps57 (Xa rfl) ?_
 intro w0 M0 vs hl hv
 obtain ⟨v0,v1,rfl⟩:=YX hl
 clear hl hv
 refine Ze ?_
 (refine ZB 2 5 fun h2=>?_<;>refine ZB 3 5 fun h3=>?_<;>refine xL 4 Za (xL 5 Za (xL 6 Za ?_))<;>refine Zk ?_)
 ((refine yL 11 (Zs 2 Zf) fun v11 h=>?_;cases h)<;>(refine yL 12 (Zs 3 Zf) fun v12 h=>?_;cases h)<;>(refine C1 13 (cA call101 h) fun va13 vb13 vc13 hva13 hvb13 hvc13=>?_;cases hvb13;cases hvc13)<;>refine xL 10 Zb (xL 14 Zi (xL 15 Zi (xL 16 Zi (xL 7 Za (xL 8 Za (xL 9 Za ?_))))))<;>refine Zk ?_)
 (refine xL 17 Zb (xL 18 Yf (xL 19 Zb ?_))<;>(refine bLd 19 (fun hb19=>?_) (fun hb19=>?_)<;>(first|refine kL 20 ?_|refine xL 20 Zb ?_))<;>(first|refine kL 21 ?_|refine xL 21 Z' ?_)<;>refine xL 22 ZG (xL 23 Zb (xL 24 Zb (xL 4 Za (xL 5 Za (xL 6 Za ?_)))))<;>refine Zc ?_)<;>(
 refine LZ (results57) rfl rfl rfl ?_
 first
  |(rw [UR (show e=0 by first|assumption|omega)];rfl)
  |(rw [US (show ¬e=0 by first|assumption|omega)];rfl))
theorem Hy (a b:Aut) (hma:a.moves.length≤1000000) (hmb:b.moves.length≤1000000):AF prog 57 [ZJ a,ZJ b] (· =ZoF (cmpX a b 4)):=by
 obtain ⟨t,l,e,h1,h2⟩:=ZoJ a b 4 dC
 have h:=Zex a b 4 hma hmb
 rw [h1] at h
 rw [h2]
 exact Hx a b t l e h
theorem YU:AggT prog 24 3=true:=by kernel_rfl
theorem K7:AggT prog 39 5=true:=by kernel_rfl
theorem Zey:FldT prog 24 0 0=true:=by kernel_rfl
theorem Zez:FldT prog 24 1 1=true:=by kernel_rfl
theorem Hk:FldT prog 24 2 2=true:=by kernel_rfl
theorem ZiK:MpT prog 76 9 4 .string (.bool false):=⟨underlying76,underlying9, .inl rfl,by show ZeroT _ _ _;unfold ZeroT;kernel_rfl⟩
theorem ZaN:NoAgg prog 22=true:=by kernel_rfl
theorem Zlt:NoAgg prog 3=true:=by kernel_rfl
theorem Zlu:NoAgg prog 9=true:=by kernel_rfl
theorem RV:SlT prog 22 24 3=true:=by kernel_rfl
theorem ZaO:SlT prog 27 9 1=true:=by kernel_rfl
theorem ZaP:ZeroT prog 24 (.agg #[(.int .i64 0),(.string ByteArray.empty),(.slice none 0 0)]):=by unfold ZeroT;kernel_rfl
theorem RX:ZeroT prog 39 (.agg #[(.int .i64 0),(.int .i64 0),(.slice none 0 0),(.slice none 0 0),(.slice none 0 0)]):=by unfold ZeroT;kernel_rfl
set_option maxHeartbeats 4000000 in
theorem Hl:∀(t:Nd),okT t=true→szT t≤1000000→∀(ks:List ByteArray) (m V:Value),AFh False prog 48 [(0,V,pTr t),(1,m, .val m)] [(1000,m, .omap (skv (KI ks)))] (fun v q h=>h=[(1000,m, .omap (skv (KI (colS ks (Y2 t)))))]):=Nd.ind fun o a l ih hok hs ks m V=>by
 have e0:pTr (.mk o a l)= .agg [pInt o,Yv a,Wl l]:=rfl
 rw [e0]
 obtain ⟨hr,hp⟩:=Js.1 hok
 have hsz:=Ze5 (.mk o a l)
 have hlz:=Rt l
 simp only [Nd.l,Nd.op] at hp hsz
 obtain ⟨K,hK⟩:∃K,K=if o=1 then setK ks a else ks:=⟨_,rfl⟩
 have hres:colS ks (Y2 (.mk o a l))=colS K (JR l):=by
  rw [hK,Y2];split<;>rfl
 rw [hres]
 refine AFh.of_body 23 func48 rfl ntmps48 (Xa rfl) rfl ?_
 intro w0 M0 N0
 refine Ze ?_
 (refine ZB 2 3 fun h2=>?_<;>refine Zk ?_)
 (refine xL 6 (Zd 2 Zey) ?_<;>(refine yL 7 (Zl 2 Zlt) fun v7 h=>?_;cases h)<;>refine xL 8 Yf ?_<;>refine Zc ?_)
 refine cX ?_ ?_<;>intro hb8
 · first |exact bN hb8|(
 refine Ze ?_;(refine xL 9 Zb (xL 10 (Zd 2 Zez) ?_)<;>(refine yL 11 (Zl 2 Zlu) fun v11 h=>?_;cases h)<;>(refine GU 1000 ZiK ?_;rw [Zcu,show setK ks a=K by rw [hK,UU (by assumption)]])<;>refine Zk ?_)
 (refine xL 12 (Zd 2 Hk) ?_<;>(refine yL 13 (Zl 2 ZaN) fun v13 h=>?_;cases h)<;>refine xL 14 (ZW RV) (xL 15 Zb ?_)<;>refine Zc ?_)
 refine ZE (ι:={q:Nat×List ByteArray//q.1≤l.length∧q.2=colS K (JR (l.take q.1))}) (fun k=>⟨[(1,_,_),(13,_,_),(14,_,_),(15, .int .i64 k.1.1,pInt k.1.1)],[(1000,m, .omap (skv (KI k.1.2)))]⟩) (fun k=>l.length-k.1.1) ⟨(0,K),Xd _,by rw [VC];rfl⟩ (fun a w H=>H.weaken ⟨rfl,rfl,rfl,rfl,trivial⟩ ⟨rfl,trivial⟩) ?_;rintro ⟨⟨i,S⟩,hi,hS⟩;dsimp only;dsimp only at hi hS;refine Ze ?_;(refine xL 16 ZQ ?_<;>refine Zc ?_)
 refine cX ?_ ?_<;>intro hb16
 · first|exact bN hb16|(
 obtain ⟨x,hx⟩:=Zw (show i<l.length by omega);have e1:((LN l).drop (i*3)).take 3=[pInt x.op,Yv x.act,Wl x.l]:=KN hx;have e2:=J2 hx;have hxm:=Xc hx;have hxs:=LW hxm;have hsn:=Ts hx;refine Ze ?_;(refine xL 17 (ZH RV) ?_<;>(refine yL 18 (WA YU) fun v18 h=>?_;cases h)<;>refine Zv [(.int .i64 0),(.string ByteArray.empty),(.slice none 0 0)] 3 5 ZaP fun h5=>?_<;>refine Zz 5 YU ?_<;>refine Zk ?_)
 ((refine yL 19 (Zs 5 YU) fun v19 h=>?_;cases h)<;>refine xL 20 Zb ?_<;>(refine WY [(1000,m, .omap (skv (KI S)))] ⟨rfl,trivial⟩ ?_;refine J3 [] 21 (call48) (ih x hxm (hp x hxm) oM S m v19) (fun v21 p21 h21 hR21=>?_);subst hR21)<;>refine Zk ?_)
 (refine xL 22 ZK (xL 15 Zb ?_)<;>refine Zc ?_)
 refine Zn (
  ⟨(i+1,colS S (Y2 x)),Zh hx,by dsimp only;rw [hsn,SE,←hS]⟩
  ) (by dsimp only;omega) ⟨rfl,rfl,rfl,rfl,trivial⟩ ⟨rfl,trivial⟩)
 · first|exact bN hb16|(
 refine nav ?_;(have hS2:S=colS K (JR l):=by rw [hS,Xj oM]);refine SA [(1000,m, .omap (skv (KI S)))] (results48) ⟨rfl,trivial⟩ ?_;rw [hS2]))
 · first |exact bN hb8|(
 rw [show ks=K by rw [hK,UT (by assumption)]];refine Ze ?_;(refine xL 12 (Zd 2 Hk) ?_<;>(refine yL 13 (Zl 2 ZaN) fun v13 h=>?_;cases h)<;>refine xL 14 (ZW RV) (xL 15 Zb ?_)<;>refine Zc ?_)
 refine ZE (ι:={q:Nat×List ByteArray//q.1≤l.length∧q.2=colS K (JR (l.take q.1))}) (fun k=>⟨[(1,_,_),(13,_,_),(14,_,_),(15, .int .i64 k.1.1,pInt k.1.1)],[(1000,m, .omap (skv (KI k.1.2)))]⟩) (fun k=>l.length-k.1.1) ⟨(0,K),Xd _,by rw [VC];rfl⟩ (fun a w H=>H.weaken ⟨rfl,rfl,rfl,rfl,trivial⟩ ⟨rfl,trivial⟩) ?_;rintro ⟨⟨i,S⟩,hi,hS⟩;dsimp only;dsimp only at hi hS;refine Ze ?_;(refine xL 16 ZQ ?_<;>refine Zc ?_)
 refine cX ?_ ?_<;>intro hb16
 · first|exact bN hb16|(
 obtain ⟨x,hx⟩:=Zw (show i<l.length by omega);have e1:((LN l).drop (i*3)).take 3=[pInt x.op,Yv x.act,Wl x.l]:=KN hx;have e2:=J2 hx;have hxm:=Xc hx;have hxs:=LW hxm;have hsn:=Ts hx;refine Ze ?_;(refine xL 17 (ZH RV) ?_<;>(refine yL 18 (WA YU) fun v18 h=>?_;cases h)<;>refine Zv [(.int .i64 0),(.string ByteArray.empty),(.slice none 0 0)] 3 5 ZaP fun h5=>?_<;>refine Zz 5 YU ?_<;>refine Zk ?_)
 ((refine yL 19 (Zs 5 YU) fun v19 h=>?_;cases h)<;>refine xL 20 Zb ?_<;>(refine WY [(1000,m, .omap (skv (KI S)))] ⟨rfl,trivial⟩ ?_;refine J3 [] 21 (call48) (ih x hxm (hp x hxm) oM S m v19) (fun v21 p21 h21 hR21=>?_);subst hR21)<;>refine Zk ?_)
 (refine xL 22 ZK (xL 15 Zb ?_)<;>refine Zc ?_)
 refine Zn (
  ⟨(i+1,colS S (Y2 x)),Zh hx,by dsimp only;rw [hsn,SE,←hS]⟩
  ) (by dsimp only;omega) ⟨rfl,rfl,rfl,rfl,trivial⟩ ⟨rfl,trivial⟩)
 · first|exact bN hb16|(
 refine nav ?_;(have hS2:S=colS K (JR l):=by rw [hS,Xj oM]);refine SA [(1000,m, .omap (skv (KI S)))] (results48) ⟨rfl,trivial⟩ ?_;rw [hS2]))
theorem ZaQ (par:List (Int×Int)):∀f i,(SZ par f i).length≤f
 |0,_=>Xh _
 | f + 1,i=>by
   rw [SZ];split
   · split
     · exact Xd _
     · rename_i x _ _;rw [Xb,Xy];have:=ZaQ par f x.1.toNat;omega
   · exact Xd _
theorem Zlv {a b:Aut} (ha:IsMin a) (hb:IsMin b) (hs:a.syms=b.syms) (op:Int):(cmpX a b op).2.1.length≤2000:=by
 have hf:Wt a b=0:=Zby ha.valid hb.valid hs
 cases hq:prodQ a b with
 |none=>rw [Zaf hf ha.red hb.red hq];exact Xd _
 | some q=>
   obtain ⟨o,rows⟩:=q;have hP:PQ a b o rows:=⟨ha,hb,hs,hq⟩;have hcap:=hP.ok.2.2;rw [Zae (op:=op) hf ha.red hb.red hq];dsimp only;unfold GW;dsimp only
   cases hx:(o.map (Y7 a b op)).idxOf? true with
   |none=>exact Xd _
   | some i=>
     obtain ⟨hi,_⟩:=ZdE.1 hx;(have hil:i<o.length:=by have:=Zh hi;rwa [Xe] at this);have:=ZaQ (o.map (·.2)) (i+1) i;dsimp only;omega
structure CmpR (a b:Aut) (m:Nat) (s:Bool) (v:List Int) (e:Int):Prop where
 eq:cmpX a b 4=(s,v,e)
 inn:∀i∈v,0≤i∧i<m
 len:v.length≤2000
 nil:(¬e=0∨s=true)→v=[]
 fal:¬e=0→s=false
theorem Zlw {a b:Aut} {m:Nat} (ha:IsMin a) (hb:IsMin b) (sa:a.syms=m) (sb:b.syms=m):∃s v e,CmpR a b m s v e:=by
 have hs:a.syms=b.syms:=by rw [sa,sb]
 have hl:=Zlv ha hb hs 4
 rcases ZmQ ha hb hs 4 with h|⟨h,_⟩|⟨u,hu,h,_⟩
 · exact ⟨_,_,_,h,fun i hi=>(by cases hi),Xd _,fun _=>rfl,fun _=>rfl⟩
 · exact ⟨_,_,_,h,fun i hi=>(by cases hi),Xd _,fun _=>rfl,fun h=>UV rfl h⟩
 · rw [h] at hl;refine ⟨_,_,_,h,fun i hi=>?_,hl,fun h=>?_,fun _=>rfl⟩
   · unfold wI at hi;obtain ⟨x,hx,rfl⟩:=Xl.1 hi;have:=(Zif sa).1 hu x hx;omega
   · rcases h with h|h
     · exact UV rfl h
     · cases h
theorem ZeA {a b:Nd} (h:¬(Kc a=true∧Kc b=true)):eqTX a b=(false,[],1):=by unfold eqTX;rw [UT h]
theorem ZeB {a b:Nd} (h:Kc a=true∧Kc b=true) (hl:40<(unT a b).length):eqTX a b=(false,[],5):=by
 unfold eqTX
 rw [RO] at hl
 rw [UU h,UT oM]
theorem H6 {a b:Nd} (h:Kc a=true∧Kc b=true) (hl:(unT a b).length≤40) (hn:bldT (unT a b) a=none∨bldT (unT a b) b=none):eqTX a b=(false,[],13):=by
 unfold eqTX
 rw [RO] at hl
 rw [UU h,UU hl]
 rcases hn with hn|hn
 · rw [hn]
 · rw [hn];cases bldT (unT a b) a<;>rfl
theorem Zg1 {a b:Nd} (h:Kc a=true∧Kc b=true) (hl:(unT a b).length≤40) {x y:Aut} (hx:bldT (unT a b) a=some x) (hy:bldT (unT a b) b=some y) {m:Nat} {s:Bool} {v:List Int} {e:Int} (hc:CmpR x y m s v e):eqTX a b=(s,nmI (unT a b) v,e):=by
 unfold eqTX
 rw [RO] at hl
 rw [UU h,UU hl,hx,hy]
 dsimp only
 rw [hc.eq]
theorem Zlx {a b:Nd} (h:Kc a=true∧Kc b=true) (hl:(unT a b).length≤40):(∀A,bldT (unT a b) a=some A→IsMin A∧A.syms=(unT a b).length)∧∀A,bldT (unT a b) b=some A→IsMin A∧A.syms=(unT a b).length:=
 ⟨fun A hA=>by obtain ⟨k1,k2,_⟩:=ZkN (ZkM a b) hl h.1 (fun s hs=>RN.2 (.inl hs)) hA;exact ⟨k1,k2⟩,fun A hA=>by obtain ⟨k1,k2,_⟩:=ZkN (ZkM a b) hl h.2 (fun s hs=>RN.2 (.inr hs)) hA;exact ⟨k1,k2⟩⟩
theorem Zly:∀t:Nd,okT t=true→∀s∈Y2 t,s.size≤40:=Nd.ind fun o a l ih h s hs=>by
 obtain ⟨hr,hp⟩:=Js.1 h
 rw [Y2] at hs
 have hL:s∈JR l→s.size≤40:=fun hs=>by
  obtain ⟨x,hx,h1⟩:=SD.1 hs;exact ih x hx (hp x hx) s h1
 split at hs
 · rcases Xt.1 hs with rfl|hs
   · exact ZhD hr
   · exact hL hs
 · exact hL hs
set_option maxHeartbeats 4000000 in
theorem Rm (a b : Nd) (hfa:FitT a) (hfb:FitT b):AF prog 12 [pTr a,pTr b] (· = .tup [ZN (eqTX a b).1,YF (eqTX a b).2.1,pInt (eqTX a b).2.2]):=by
 have ea:pTr a= .agg [pInt a.op,Yv a.act,Wl a.l]:=rfl
 have eb:pTr b= .agg [pInt b.op,Yv b.act,Wl b.l]:=rfl
 have hVa:=P8 a hfa
 have hVb:=P8 b hfb
 rw [ea] at hVa ⊢
 rw [eb] at hVb ⊢
 refine AF.of_body 70 func12 rfl ntmps12 (Xa rfl) ?_
 intro w0 M0 vs hl hv
 obtain ⟨v0,v1,rfl⟩:=YX hl
 clear hl hv
 refine Ze ?_
 (refine ZB 2 3 fun h2=>?_<;>refine ZB 3 3 fun h3=>?_<;>refine xL 4 Za (xL 5 Za (xL 6 Za ?_))<;>refine Zk ?_)
 ((refine yL 14 (Zs 2 YU) fun v14 h=>?_;cases h)<;>(refine cS 15 (cA call24 (hVa)) fun v15 h=>?_;cases h)<;>refine xL 16 Z' (xL 17 Zb ?_)<;>(refine bL 17 (fun hb17=>?_) (fun hb17=>?_)<;>(first|refine kL 18 ?_|(refine yL 18 (Zs 3 YU) fun v18 h=>?_;cases h)))<;>(first|refine kL 19 ?_|(refine cS 19 (cA call24 (hVb)) fun v19 h=>?_;cases h))<;>(first|refine kL 20 ?_|refine xL 20 Z' ?_)<;>refine xL 21 ZG ?_<;>refine Zc ?_)<;>(
 refine cX ?_ ?_<;>intro hb21
 · first|exact bN hb21|(
 have hno:¬(Kc a=true∧Kc b=true):=by
  rintro ⟨h1,h2⟩
  first|(rw [h1] at hb17;simp at hb17;done)|(rw [h2] at hb21;simp at hb21;done)
 rw [ZeA hno];refine Ze ?_;(refine xL 4 Za (xL 5 Za (xL 6 Za ?_))<;>refine Zc ?_)
 refine YG (Y' (t:=5) rfl) fun _=>?_;exact Sj (results12) (.tmp rfl) (.tmp rfl) (.tmp rfl) rfl)
 · first | exact bN hb21|(
 have hva:Kc a=true:=by first|(simpa using hb17)|(exfalso;simp_all;done)
 have hvb:Kc b=true:=by first|(simpa using hb21)|(exfalso;simp_all;done)
 have hv:Kc a=true∧Kc b=true:=⟨hva,hvb⟩;have hoa:=Tc hva;have hob:=Tc hvb;have hsa:=TU hva;have hsb:=TU hvb;have hcol:∀V m,AFh False prog 48 [(0,V, .agg [pInt a.op,Yv a.act,Wl a.l]),(1,m, .val m)] [(1000,m, .omap (skv (KI [])))] (fun v q h=>h=[(1000,m, .omap (skv (KI (colS [] (Y2 a)))))]):=fun V m=>Hl a hoa oM [] m V;have hcol2:∀V m,AFh False prog 48 [(0,V, .agg [pInt b.op,Yv b.act,Wl b.l]),(1,m, .val m)] [(1000,m, .omap (skv (KI (colS [] (Y2 a)))))] (fun v q h=>h=[(1000,m, .omap (skv (KI (unK a b))))]):=fun V m=>Hl b hob oM _ m V;have hkl:(unK a b).length≤1000000:=by
  have h1:=Oc (Y2 b) (colS [] (Y2 a));have h2:=Oc (Y2 a) [];have h3:=H5 a hoa;have h4:=H5 b hob;rw [XC] at h2;unfold unK;omega
 have hks:∀s∈unK a b,s.size≤140737488355328:=fun s hs=>by
  rcases H4.1 hs with h|h
  · have:=Zly a hoa s h;omega
  · have:=Zly b hob s h;omega
 refine Ze ?_;(refine Gw 22 fun h22 ho22=>?_<;>refine xL 7 Za ?_<;>refine Zc ?_)
 refine Zq (ZD (l:=22) 1000 rfl rfl) fun _=>?_;(refine Zt ?_<;>(refine yL 23 (Zs 2 YU) fun v23 h=>?_;cases h)<;>refine xL 24 Zb ?_<;>(refine WY [(1000,h22, .omap (skv (KI []))),(2,_,_),(3,_,_)] ⟨rfl,rfl,rfl,trivial⟩ ?_;refine J3 [2,3] 25 (call48) (hcol v23 h22) (fun v25 p25 h25 hR25=>?_);subst hR25)<;>refine Zk ?_)
 ((refine yL 26 (Zs 3 YU) fun v26 h=>?_;cases h)<;>refine xL 27 Zb ?_<;>(refine WY [(1000,h22, .omap (skv (KI (colS [] (Y2 a))))),(2,_,_),(3,_,_)] ⟨rfl,rfl,rfl,trivial⟩ ?_;refine J3 [2,3] 28 (call48) (hcol2 v26 h22) (fun v28 p28 h28 hR28=>?_);subst hR28)<;>refine Zc ?_)
 refine Zq (En.freeze (l:=1000) (t:=7) rfl rfl) fun _=>?_;(refine Zt ?_<;>refine xL 29 Zb ?_<;>refine Zol (k1:=95) (t:=76) 30 Zpp (call50) (fun g30 b30 c30 es30 hkv30 hWf30=>?_)<;>refine ZhG (ks:=unK a b) 30 31 ZjJ (call49) (fun h=>h) hWf30 hkv30.symm (ZbE a b) hkl hks (fun v31 ho31=>?_)<;>refine xL 8 Za ?_<;>refine Zc ?_)
 refine Zq (En.freeze (l:=31) (t:=8) rfl rfl) fun _=>?_;rw [Eu _ _ _ (show (unK a b).length=(Gc (unK a b)).length from (Ln _).symm)];rw [show Gc (unK a b)=unT a b from rfl];(refine Zt ?_<;>refine xL 32 Zb (xL 33 (ZW ZaO) (xL 34 Yz ?_))<;>refine Zc ?_)
 refine cX ?_ ?_<;>intro hb34
 · first|exact bN hb34|(
 rw [ZeB hv oM];refine Ze ?_;(refine xL 4 Za (xL 5 Za (xL 6 Za ?_))<;>refine Zc ?_)
 refine YG (Y' (t:=5) rfl) fun _=>?_;exact Sj (results12) (.tmp rfl) (.tmp rfl) (.tmp rfl) rfl)
 · first | exact bN hb34|(
 have hl:(unT a b).length≤40:=oM;obtain ⟨mina,minb⟩:=Zlx hv hl;obtain ⟨p0,p1,p2,p3,p4,E,hR⟩:=CK (bldT (unT a b) a);have hj:=Ds (unT a b) hl a hoa oM (fun s hs=>RN.2 (.inl hs));rw [hR.eq,ea] at hj;have r5:=hR.r5;obtain ⟨o0,o1,o2,o3,o4⟩:=r5.o;obtain ⟨q0,q1,q2,q3,q4,F,hQ⟩:=CK (bldT (unT a b) b);have hk:=Ds (unT a b) hl b hob oM (fun s hs=>RN.2 (.inr hs));rw [hQ.eq,eb] at hk;have s5:=hQ.r5;obtain ⟨u0,u1,u2,u3,u4⟩:=s5.o;refine Ze ?_;((refine yL 36 (Zs 2 YU) fun v36 h=>?_;cases h)<;>refine xL 37 Zb ?_<;>(refine cP 38 (cA (call51) hj) (fun va38 vb38 hva38 hvb38=>?_) (hsh:=r5.t E);cases hvb38)<;>refine xL 35 Zb (xL 39 Zi (xL 40 Zi ?_))<;>refine Zv [(.int .i64 0),(.int .i64 0),(.slice none 0 0),(.slice none 0 0),(.slice none 0 0)] 5 9 RX fun h9=>?_<;>refine Zz 9 K7 ?_<;>refine xL 10 Za ?_<;>refine Zk ?_)
 (refine xL 41 Zb (xL 42 Yn ?_)<;>refine Zc ?_)
 refine cX ?_ ?_<;>intro hb42
 · first|exact bN hb42|(
 obtain ⟨hn,rfl⟩:=hR.no hb42;rw [H6 hv hl (.inl hn)];refine Ze ?_;(refine xL 43 Zb (xL 4 Za (xL 5 Za (xL 6 Za ?_)))<;>refine Zc ?_)
 refine YG (Y' (t:=5) rfl) fun _=>?_;exact Sj (results12) (.tmp rfl) (.tmp rfl) (.tmp rfl) rfl)
 · first | exact bN hb42|(
 obtain ⟨A,hA,rfl,rfl,rfl,rfl,rfl,rfl⟩:=hR.yes (by simpa using hb42);refine Ze ?_;((refine yL 45 (Zs 3 YU) fun v45 h=>?_;cases h)<;>refine xL 46 Zb ?_<;>(refine cP 47 (cA (call51) hk) (fun va47 vb47 hva47 hvb47=>?_) (hsh:=s5.t F);cases hvb47)<;>refine xL 44 Zb (xL 48 Zi (xL 49 Zi ?_))<;>refine Zv [(.int .i64 0),(.int .i64 0),(.slice none 0 0),(.slice none 0 0),(.slice none 0 0)] 5 11 RX fun h11=>?_<;>refine Zz 11 K7 ?_<;>refine xL 10 Za ?_<;>refine Zk ?_)
 (refine xL 50 Zb (xL 51 Yn ?_)<;>refine Zc ?_)
 refine cX ?_ ?_<;>intro hb51
 · first|exact bN hb51|(
 obtain ⟨hn,rfl⟩:=hQ.no hb51;rw [H6 hv hl (.inr hn)];refine Ze ?_;(refine xL 52 Zb (xL 4 Za (xL 5 Za (xL 6 Za ?_)))<;>refine Zc ?_)
 refine YG (Y' (t:=5) rfl) fun _=>?_;exact Sj (results12) (.tmp rfl) (.tmp rfl) (.tmp rfl) rfl)
 · first |exact bN hb51|(
 obtain ⟨B,hB,rfl,rfl,rfl,rfl,rfl,rfl⟩:=hQ.yes (by simpa using hb51);obtain ⟨mA,sA⟩:=mina A hA;obtain ⟨mB,sB⟩:=minb B hB;obtain ⟨s,v,e,hc⟩:=Zlw mA mB sA sB;have hj3:AF prog 52 [ZJ A,ZJ B] (· = .tup [ZN s,pInts v,pInt e]):=by
  have:=C9 A B;rw [hc.eq] at this;exact this
 rw [Zg1 hv hl hA hB hc];have hvl:=hc.len;refine Ze ?_;((refine yL 54 (Zs 9 K7) fun v54 h=>?_;cases h)<;>(refine yL 55 (Zs 11 K7) fun v55 h=>?_;cases h)<;>(refine C1 56 (cA (call52) hj3) (fun va56 vb56 vc56 hva56 hvb56 hvc56=>?_);cases hva56;cases hvc56)<;>refine xL 53 Zb (xL 57 Zi (xL 58 Zi (xL 59 Zi (xL 12 Za (xL 13 Za (xL 10 Za ?_))))))<;>refine Zk ?_)
 (refine xL 60 Zb (xL 61 Yn (xL 62 Zb ?_))<;>(refine bLd 62 (fun hb62=>?_) (fun hb62=>?_)<;>(first|refine kL 63 ?_|refine xL 63 Zb ?_))<;>refine xL 64 ZG ?_<;>refine Zc ?_)<;>(
 refine cX ?_ ?_<;>intro hb64
 · first|exact bN hb64|(
 have hvn:v=[]:=hc.nil (by first|exact .inl (by simpa using hb62)|exact .inr (by simpa using hb64));subst hvn;refine Ze ?_;(refine xL 65 Zb (xL 66 Zb (xL 4 Za (xL 5 Za (xL 6 Za ?_))))<;>refine Zc ?_)
 refine YG (Y' (t:=5) rfl) fun _=>?_;exact Sj (results12) (.tmp rfl) (.tmp rfl) (.tmp rfl) rfl)
 · first|exact bN hb64|(
 have hs0:s=false:=by first|(simpa using hb64)|(exfalso;simp_all;done)
 have he0:e=0:=by first|(simpa using hb62)|(exfalso;simp_all;done)
 subst hs0 he0;refine Ze ?_;(refine xL 67 Zb (xL 68 Zb ?_)<;>(refine cS 69 (cA call53 (Zau v (unT a b) oM hc.inn)) fun v69 h=>?_;cases h)<;>refine xL 4 Za (xL 5 Za (xL 6 Za ?_))<;>refine Zc ?_)
 exact Sj (results12) (.tmp rfl) (.tmp rfl) (.tmp rfl) rfl)))))))
theorem ZbW:∀(l ks:List ByteArray),ks.length≤(colS ks l).length
 |[],_=>Xh _
 | s ::l,ks=>by
   show ks.length≤(colS (setK ks s) l).length;have h1:=ZbW l (setK ks s);have h2:ks.length≤(setK ks s).length:=by
    unfold setK;split
    · exact Xh _
    · rw [Xb];omega
   omega
theorem Zlz (a b:Nd):(colS [] (Y2 a)).length≤(unK a b).length∧(colS [] (Y2 b)).length≤(unK a b).length:=by
 refine ⟨ZbW _ _,?_⟩
 have hp:(unK a b).Perm (unK b a):=(UN (ZbE a b) (ZbE b a)).2 fun s=>by rw [H4,H4];exact Or.comm
 rw [hp.length_eq]
 exact ZbW _ _
theorem Zg2 (a b:Nd):unT a b=canB (Y2 a++Y2 b):=by unfold unT unK canB;rw [SE]
theorem ZeC {t:Nd} (hv:Kc t=true) (h:¬(actR t).2=0):40<(colS [] (Y2 t)).length:=by
 unfold actR at h
 rw [UU hv] at h
 by_cases hl:(colS [] (Y2 t)).length≤40
 · rw [UU hl] at h;exact UV rfl h
 · omega
theorem ZeD (t:Nd) (hv:Kc t=true):∃l,(actR t).1=canB l∧l.length≤400∧((actR t).2=0→∀s,s∈l↔s∈Y2 t):=by
 have h1:=H5 t (Tc hv)
 have h2:=TU hv
 unfold actR
 rw [UU hv]
 split
 · exact ⟨Y2 t,rfl,oM,fun _ _=>Iff.rfl⟩
 · exact ⟨[],ZdM.symm,Xd _,fun h=>(by cases h)⟩
set_option maxHeartbeats 4000000 in
theorem Hz (a b : Nd) (hfa:FitT a) (hfb:FitT b):AF prog 13 [pTr a,pTr b] (· = .tup [ZN (eqTX a b).1,YF (eqTX a b).2.1,pInt (eqTX a b).2.2]):=by
 have ea:pTr a= .agg [pInt a.op,Yv a.act,Wl a.l]:=rfl
 have eb:pTr b= .agg [pInt b.op,Yv b.act,Wl b.l]:=rfl
 have hVa:=OW a hfa
 have hVb:=OW b hfb
 have hAa:=Zay a hfa
 have hAb:=Zay b hfb
 rw [ea] at hVa hAa ⊢
 rw [eb] at hVb hAb ⊢
 refine AF.of_body 82 func13 rfl ntmps13 (Xa rfl) ?_
 intro w0 M0 vs hl hv
 obtain ⟨v0,v1,rfl⟩:=YX hl
 clear hl hv
 refine Ze ?_
 (refine ZB 2 3 fun h2=>?_<;>refine ZB 3 3 fun h3=>?_<;>refine xL 4 Za (xL 5 Za (xL 6 Za ?_))<;>refine Zk ?_)
 ((refine yL 16 (Zs 2 YU) fun v16 h=>?_;cases h)<;>(refine cS 17 (cA call20 (hVa)) fun v17 h=>?_;cases h)<;>refine xL 18 Z' (xL 19 Zb ?_)<;>(refine bL 19 (fun hb19=>?_) (fun hb19=>?_)<;>(first|refine kL 20 ?_|(refine yL 20 (Zs 3 YU) fun v20 h=>?_;cases h)))<;>(first|refine kL 21 ?_|(refine cS 21 (cA call20 (hVb)) fun v21 h=>?_;cases h))<;>(first|refine kL 22 ?_|refine xL 22 Z' ?_)<;>refine xL 23 ZG ?_<;>refine Zc ?_)<;>(
 refine cX ?_ ?_<;>intro hb23
 · first|exact bN hb23|(
 have hno:¬(Kc a=true∧Kc b=true):=by
  rintro ⟨h1,h2⟩
  first|(rw [h1] at hb19;simp at hb19;done)|(rw [h2] at hb23;simp at hb23;done)
 rw [ZeA hno];refine Ze ?_;(refine xL 4 Za (xL 5 Za (xL 6 Za ?_))<;>refine Zc ?_)
 refine YG (Y' (t:=5) rfl) fun _=>?_;exact Sj (results13) (.tmp rfl) (.tmp rfl) (.tmp rfl) rfl)
 · first | exact bN hb23|(
 have hva:Kc a=true:=by first|(simpa using hb19)|(exfalso;simp_all;done)
 have hvb:Kc b=true:=by first|(simpa using hb23)|(exfalso;simp_all;done)
 have hv:Kc a=true∧Kc b=true:=⟨hva,hvb⟩;have hoa:=Tc hva;have hob:=Tc hvb;have hsa:=TU hva;have hsb:=TU hvb;obtain ⟨La,hLa,hLal,hLam⟩:=ZeD a hva;obtain ⟨Lb,hLb,hLbl,hLbm⟩:=ZeD b hvb;have hcb:=OI Lb;have hboth:=Ziv La (canB Lb) oM oM;have hU:(actR a).2=0→(actR b).2=0→canB (La++canB Lb)=unT a b:=fun h1 h2=>by
  rw [Zg2];exact ZdL fun s=>by rw [Xq,Xq,OB,hLam h1,hLbm h2]
 have hbigA:¬(actR a).2=0→40<(unT a b).length:=fun h=>by
  have h1:=ZeC hva h;have h2:=(Zlz a b).1;rw [RO];omega
 have hbigB:¬(actR b).2=0→40<(unT a b).length:=fun h=>by
  have h1:=ZeC hvb h;have h2:=(Zlz a b).2;rw [RO];omega
 rw [hLa] at hAa;rw [hLb] at hAb;refine Ze ?_;((refine yL 25 (Zs 2 YU) fun v25 h=>?_;cases h)<;>(refine cP 26 (cA call54 (hAa)) fun va26 vb26 hva26 h=>?_;cases h)<;>refine xL 24 Zb (xL 27 Zi (xL 28 Zi (xL 7 Za (xL 8 Za ?_))))<;>refine Zk ?_)
 ((refine yL 30 (Zs 3 YU) fun v30 h=>?_;cases h)<;>(refine cP 31 (cA call54 (hAb)) fun va31 vb31 hva31 h=>?_;cases h)<;>refine xL 29 Zb (xL 32 Zi (xL 33 Zi (xL 9 Za (xL 10 Za ?_))))<;>refine Zk ?_)
 (refine xL 34 Zb (xL 35 Yn (xL 36 Zb ?_))<;>(refine bLd 36 (fun hb36=>?_) (fun hb36=>?_)<;>(first|refine kL 37 ?_|refine xL 37 Zb ?_))<;>(first|refine kL 38 ?_|refine xL 38 Yn ?_)<;>refine xL 39 ZG (xL 40 Zb ?_)<;>(first|refine kL 41 ?_|(refine bLd 40 (fun hb40=>?_) (fun hb40=>?_)<;>(first|refine kL 41 ?_|refine xL 41 Zb ?_)))<;>(first|refine kL 42 ?_|refine xL 42 Zb ?_)<;>(first|refine kL 43 ?_|(refine cS 43 (cA call55 (hboth)) fun v43 h=>?_;cases h))<;>(first|refine kL 44 ?_|refine xL 44 (ZW ZaO) ?_)<;>(first|refine kL 45 ?_|refine xL 45 Yz ?_)<;>refine xL 46 ZG ?_<;>refine Zc ?_)<;>(
 refine cX ?_ ?_<;>intro hb46
 · first | exact bN hb46|(
 have hbig:40<(unT a b).length:=by
  first
  |exact hbigA (by simpa using hb36)
  |exact hbigB (by simpa using hb39)
  | (by_cases h1:(actR a).2=0
     · by_cases h2:(actR b).2=0
       · rw [←hU h1 h2];omega
       · exact hbigB h2
     · exact hbigA h1)
 rw [ZeB hv hbig];refine Ze ?_;(refine xL 4 Za (xL 5 Za (xL 6 Za ?_))<;>refine Zc ?_)
 refine YG (Y' (t:=5) rfl) fun _=>?_;exact Sj (results13) (.tmp rfl) (.tmp rfl) (.tmp rfl) rfl)
 · first | exact bN hb46|(
 have h1:(actR a).2=0:=by first|(simpa using hb36)|(exfalso;simp_all;done)
 have h2:(actR b).2=0:=by first|(simpa using hb39)|(simpa using hb40)|(exfalso;simp_all;done)
 have hUU:=hU h1 h2;rw [hUU] at hboth;have hl:(unT a b).length≤40:=by rw [←hUU];first|omega|(exfalso;simp_all;done)
 obtain ⟨mina,minb⟩:=Zlx hv hl;obtain ⟨p0,p1,p2,p3,p4,E,hR⟩:=CK (bldT (unT a b) a);have hj:=CO (unT a b) hl a hoa oM (fun s hs=>RN.2 (.inl hs));rw [hR.eq,ea] at hj;have r5:=hR.r5;obtain ⟨o0,o1,o2,o3,o4⟩:=r5.o;obtain ⟨q0,q1,q2,q3,q4,F,hQ⟩:=CK (bldT (unT a b) b);have hk:=CO (unT a b) hl b hob oM (fun s hs=>RN.2 (.inr hs));rw [hQ.eq,eb] at hk;have s5:=hQ.r5;obtain ⟨u0,u1,u2,u3,u4⟩:=s5.o;refine Ze ?_;(refine xL 47 Zb (xL 48 Zb ?_)<;>(refine cS 49 (cA call55 (hboth)) fun v49 h=>?_;cases h)<;>refine xL 11 Za ?_<;>refine Zk ?_)
 ((refine yL 51 (Zs 2 YU) fun v51 h=>?_;cases h)<;>refine xL 52 Zb ?_<;>(refine cP 53 (cA (call56) hj) (fun va53 vb53 hva53 hvb53=>?_) (hsh:=r5.t E);cases hvb53)<;>refine xL 50 Zb (xL 54 Zi (xL 55 Zi ?_))<;>refine Zv [(.int .i64 0),(.int .i64 0),(.slice none 0 0),(.slice none 0 0),(.slice none 0 0)] 5 12 RX fun h12=>?_<;>refine Zz 12 K7 ?_<;>refine xL 8 Za ?_<;>refine Zk ?_)
 (refine xL 56 Zb (xL 57 Yn ?_)<;>refine Zc ?_)
 refine cX ?_ ?_<;>intro hb57
 · first|exact bN hb57|(
 obtain ⟨hn,rfl⟩:=hR.no hb57;rw [H6 hv hl (.inl hn)];refine Ze ?_;(refine xL 58 Zb (xL 4 Za (xL 5 Za (xL 6 Za ?_)))<;>refine Zc ?_)
 refine YG (Y' (t:=5) rfl) fun _=>?_;exact Sj (results13) (.tmp rfl) (.tmp rfl) (.tmp rfl) rfl)
 · first | exact bN hb57|(
 obtain ⟨A,hA,rfl,rfl,rfl,rfl,rfl,rfl⟩:=hR.yes (by simpa using hb57);refine Ze ?_;((refine yL 60 (Zs 3 YU) fun v60 h=>?_;cases h)<;>refine xL 61 Zb ?_<;>(refine cP 62 (cA (call56) hk) (fun va62 vb62 hva62 hvb62=>?_) (hsh:=s5.t F);cases hvb62)<;>refine xL 59 Zb (xL 63 Zi (xL 64 Zi ?_))<;>refine Zv [(.int .i64 0),(.int .i64 0),(.slice none 0 0),(.slice none 0 0),(.slice none 0 0)] 5 13 RX fun h13=>?_<;>refine Zz 13 K7 ?_<;>refine xL 8 Za ?_<;>refine Zk ?_)
 (refine xL 65 Zb (xL 66 Yn ?_)<;>refine Zc ?_)
 refine cX ?_ ?_<;>intro hb66
 · first|exact bN hb66|(
 obtain ⟨hn,rfl⟩:=hQ.no hb66;rw [H6 hv hl (.inr hn)];refine Ze ?_;(refine xL 67 Zb (xL 4 Za (xL 5 Za (xL 6 Za ?_)))<;>refine Zc ?_)
 refine YG (Y' (t:=5) rfl) fun _=>?_;exact Sj (results13) (.tmp rfl) (.tmp rfl) (.tmp rfl) rfl)
 · first|exact bN hb66|(
 obtain ⟨B,hB,rfl,rfl,rfl,rfl,rfl,rfl⟩:=hQ.yes (by simpa using hb66);obtain ⟨mA,sA⟩:=mina A hA;obtain ⟨mB,sB⟩:=minb B hB;obtain ⟨s,v,e,hc⟩:=Zlw mA mB sA sB;have lA:=mA.aok.ml;have lB:=mB.aok.ml;have hj3:AF prog 57 [ZJ A,ZJ B] (· = .tup [ZN s,pInts v,pInt e]):=by
  have:=Hy A B oM oM;rw [hc.eq] at this;exact this
 rw [Zg1 hv hl hA hB hc];have hvl:=hc.len;refine Ze ?_;((refine yL 69 (Zs 12 K7) fun v69 h=>?_;cases h)<;>(refine yL 70 (Zs 13 K7) fun v70 h=>?_;cases h)<;>(refine C1 71 (cA (call57) hj3) (fun va71 vb71 vc71 hva71 hvb71 hvc71=>?_);cases hva71;cases hvc71)<;>refine xL 68 Zb (xL 72 Zi (xL 73 Zi (xL 74 Zi (xL 14 Za (xL 15 Za (xL 8 Za ?_))))))<;>refine Zk ?_)
 (refine xL 75 Zb (xL 76 Yn ?_)<;>refine Zc ?_)
 refine cX ?_ ?_<;>intro hb76
 · first|exact bN hb76|(
 have hvn:v=[]:=hc.nil (.inl hb76);have hs0:=hc.fal hb76;subst hvn hs0;refine Ze ?_;(refine xL 77 Zb (xL 4 Za (xL 5 Za (xL 6 Za ?_)))<;>refine Zc ?_)
 refine YG (Y' (t:=5) rfl) fun _=>?_;exact Sj (results13) (.tmp rfl) (.tmp rfl) (.tmp rfl) rfl)
 · first|exact bN hb76|(
 (have he0:e=0:=by simpa using hb76);subst he0;refine Ze ?_;(refine xL 78 Zb (xL 79 Zb (xL 80 Zb ?_))<;>(refine cS 81 (cA call58 (ZfW v (unT a b) oM hc.inn)) fun v81 h=>?_;cases h)<;>refine xL 4 Za (xL 5 Za (xL 6 Za ?_))<;>refine Zc ?_)
 exact Sj (results13) (.tmp rfl) (.tmp rfl) (.tmp rfl) rfl)))))))
def ZiL (i:Nat) (a:Aut):Option Aut:=match (ZkW a).upto (OD a a.start) i with
 |some q=>if q.1.length≤i then Wp ⟨a.syms.toNat,q.2,q.1.map (WS a)⟩ else none
 |none=>none
theorem H7 {i:Nat} (hi:i≤2000) {a A:Aut} (h:ZiL i a=some A):WV a= .ok A:=by
 unfold ZiL at h
 split at h
 · rename_i q hq;split at h
   · rename_i hl;exact ZmY i hq hl hi h
   · cases h
 · cases h
def Znn (i:Nat) (a:Aut):Option Aut:=if Z1 a=true then ZiL i a else none
def ZiM (i:Nat) (X:Aut):Option Aut:=if 2000<X.n∨20000<(mkM X.moves).length then none else ZiL i (mkA X)
theorem Zg3 {i:Nat} (hi:i≤2000) {a A:Aut} (h:Znn i a=some A):Ji a= .ok A:=by
 unfold Znn at h
 unfold Ji
 split at h
 · rename_i h1;rw [UU h1];exact H7 hi h
 · cases h
theorem H8 {i:Nat} (hi:i≤2000) {a A:Aut} (h:ZiM i a=some A):Jo a= .ok A:=by
 unfold ZiM at h
 unfold Jo Hr
 split at h
 · cases h
 · rename_i h1;rw [UT h1];exact H7 hi h
def ZlA (i:Nat) (a b:Aut):Option Aut:=if Wt a b=0 then ZiM i (Ku a b) else none
def ZoK (i:Nat) (a b:Aut):Option Aut:=if Wt a b=0 then ZiM i (Kh a b) else none
def ZoL (i:Nat) (a:Aut):Option Aut:=if Z1 a=true then ZiM i (K2 a) else none
def ZoM (i:Nat) (a b:Aut):Option Aut:=if Wt a b=0 then (if 2000<a.n*b.n∨40000<(a.moves.length:Int)*b.n+(b.moves.length:Int)*a.n then none else ZiM i (Wr a b)) else none
def ZlB (i:Nat) (a b:Aut):Option Aut:=(ZlA i b a).bind fun x=>(ZoL i x).bind fun s=>ZlA i a s
def ZlC (i:Nat) (o:Int) (a b:Aut):Option Aut:=if o=3 then ZlA i a b else if o=4 then ZoK i a b else if o=6 then ZlB i a b else ZoM i a b
theorem ZbX {i:Nat} (hi:i≤2000) {a b A:Aut} (h:ZlA i a b=some A):GK a b= .ok A:=by
 unfold ZlA at h
 unfold GK
 split at h
 · rename_i h1;rw [UT (fun h=>h h1)];exact H8 hi h
 · cases h
theorem Zno {i:Nat} (hi:i≤2000) {a b A:Aut} (h:ZoK i a b=some A):Gj a b= .ok A:=by
 unfold ZoK at h
 unfold Gj
 split at h
 · rename_i h1;rw [UT (fun h=>h h1)];exact H8 hi h
 · cases h
theorem Znp {i:Nat} (hi:i≤2000) {a A:Aut} (h:ZoL i a=some A):JL a= .ok A:=by
 unfold ZoL at h
 unfold JL
 split at h
 · rename_i h1;rw [UU h1];exact H8 hi h
 · cases h
theorem Znq {i:Nat} (hi:i≤2000) {a b A:Aut} (h:ZoM i a b=some A):LF a b= .ok A:=by
 unfold ZoM at h
 unfold LF
 split at h
 · rename_i h1;rw [UT (fun h=>h h1)];split at h
   · cases h
   · rename_i h2;rw [UT h2];exact H8 hi h
 · cases h
theorem ZlD {i:Nat} (hi:i≤2000) {a b A:Aut} (h:ZlB i a b=some A):Jq a b= .ok A:=by
 unfold ZlB at h
 obtain ⟨x,h1,h⟩:=XX.1 h
 obtain ⟨s,h2,h3⟩:=XX.1 h
 unfold Jq
 rw [ZbX hi h1]
 dsimp only
 rw [Znp hi h2]
 exact ZbX hi h3
theorem Znr {i:Nat} (hi:i≤2000) {o:Int} {a b A:Aut} (h:ZlC i o a b=some A):Ws o a b= .ok A:=by
 unfold ZlC at h
 unfold Ws
 split at h
 · rename_i h1;rw [UU h1];exact ZbX hi h
 rename_i h1
 rw [UT h1]
 split at h
 · rename_i h2;rw [UU h2];exact Zno hi h
 rename_i h2
 rw [UT h2]
 split at h
 · rename_i h3;rw [UU h3];exact ZlD hi h
 · rename_i h3;rw [UT h3];exact Znq hi h
def ZpN (i:Nat) (o:Int):List (Option Aut)→Option Aut
 |[]=>none
 |x::l=>l.foldl (fun r p=>r.bind fun a=>p.bind fun b=>ZlC i o a b) x
mutual
def ZiN (i:Nat) (acts:List ByteArray):Nd→Option Aut
 | .mk o a l=>if o=1 then Znn i (G1 acts.length (WM acts a)) else if o=2 then Znn i (R4 acts.length) else ZpN i o (Zg4 i acts l)
def Zg4 (i:Nat) (acts:List ByteArray):List Nd→List (Option Aut)
 |[]=>[]
 |x::l=>ZiN i acts x::Zg4 i acts l
end
theorem ZlE (i:Nat) (acts:List ByteArray) (l:List Nd):Zg4 i acts l=l.map (ZiN i acts):=by
 induction l with
 |nil=>rfl
 |cons x l ih=>rw [Zg4,ih];rfl
theorem Zg5 {i:Nat} (hi:i≤2000) {o:Int}:∀(l m:List (Option Aut)) (r s:Option Aut) {A:Aut},l.length=m.length→(∀(k:Nat) (x y:Option Aut) (B:Aut),l[k]? =some x→m[k]? =some y→x=some B→y=some B)→(∀B,r=some B→s=some B)→l.foldl (fun r p=>r.bind fun a=>p.bind fun b=>ZlC i o a b) r=some A→m.foldl (GL o) s=some A
 |[],[],r,s,A,_,_,hr,h=>hr A h
 |[],_::_,_,_,_,h,_,_,_=>by simp at h
 |_::_,[],_,_,_,h,_,_,_=>by simp at h
 | x::l,y::m,r,s,A,hl,hm,hr,h=>by
   rw [VN] at h ⊢;refine Zg5 hi l m _ _ (by simpa using hl) (fun k x' y' B h1 h2=>hm (k+1) x' y' B (by simpa using h1) (by simpa using h2)) (fun B hB=>?_) h;obtain ⟨a,h1,hB⟩:=XX.1 hB;obtain ⟨b,h2,hB⟩:=XX.1 hB;have h3:=hm 0 x y b rfl rfl h2;rw [hr a h1,h3];show okO (Ws o a b)=some B;rw [Znr hi hB];rfl
theorem ZbY {i:Nat} (hi:i≤2000) (acts:List ByteArray):∀(t:Nd) {A:Aut},ZiN i acts t=some A→bldT acts t=some A:=Nd.ind fun o a l ih A h=>by
 rw [ZiN] at h
 rw [bldT]
 split at h
 · rename_i h1;rw [UU h1];show okO (Ji (G1 acts.length (WM acts a)))=some A;rw [Zg3 hi h];rfl
 rename_i h1
 rw [UT h1]
 split at h
 · rename_i h2;rw [UU h2,Zg3 hi h];rfl
 rename_i h2
 rw [UT h2,ZbA]
 rw [ZlE] at h
 cases l with
 |nil=>cases h
 | cons x l=>
   have h3:(l.map (ZiN i acts)).foldl (fun r p=>r.bind fun a=>p.bind fun b=>ZlC i o a b) (ZiN i acts x)=some A:=h;show (l.map (bldT acts)).foldl (GL o) (bldT acts x)=some A;refine Zg5 hi _ _ _ _ sM (fun k x' y' B h4 h5 h6=>?_) (fun B hB=>ih x (Xm ..) hB) h3;rw [Xg,XB] at h4 h5;obtain ⟨z,hz,rfl⟩:=h4;obtain ⟨z',hz',rfl⟩:=h5;rw [hz] at hz'
   cases hz';exact ih z (Xo _ (Xc hz)) h6
def sA:ByteArray:=⟨#[97]⟩
def sB:ByteArray:=⟨#[98]⟩
def sC:ByteArray:=⟨#[99]⟩
def lfT (s:ByteArray):Nd:= .mk 1 s []
def opT (o:Int) (l:List Nd):Nd:= .mk o ByteArray.empty l
def CR:Nd:=opT 3 [lfT sA,opT 4 [lfT sB,opT 2 []],lfT sC]
def Hm:Nd:=opT 5 [lfT sA,opT 6 [lfT sB,opT 2 []]]
def Hn:Nd:=opT 6 [lfT sB,lfT sA]
def Zpy (i:Nat) (a b:Aut) (op:Int):Option (Bool×List Int×Int):=if Wt a b=0 then (ZiL i a).bind fun A=>(ZiL i b).bind fun B=>((YP A B).upto ((0,0),(-1,-1)) i).bind fun q=>if q.1.length≤i then some ((GW A B op q).1,(GW A B op q).2,0) else none else none
theorem Zns {i:Nat} (hi:i≤2000) {a b:Aut} {op:Int} {r:Bool×List Int×Int} (h:Zpy i a b op=some r):cmpX a b op=r:=by
 unfold Zpy at h
 split at h
 · rename_i hf;obtain ⟨A,hA,h⟩:=XX.1 h;obtain ⟨B,hB,h⟩:=XX.1 h;obtain ⟨q,hq,h⟩:=XX.1 h;split at h
   · rename_i hl
     cases h;exact ZmZ hf (ZkX i (H7 hi hA) (H7 hi hB) hq hl hi)
   · cases h
 · cases h
def CU:Aut:=⟨5,3,[0],[4],[⟨0,1,0⟩,⟨0,2,1⟩,⟨0,2,2⟩,⟨1,2,0⟩,⟨1,3,1⟩,⟨1,4,2⟩,⟨2,2,0⟩,⟨2,2,1⟩,⟨2,2,2⟩,⟨3,2,0⟩,⟨3,2,1⟩,⟨3,4,2⟩,⟨4,2,0⟩,⟨4,2,1⟩,⟨4,2,2⟩]⟩
def ZnR:Aut:=⟨5,2,[0],[4],[⟨0,1,0⟩,⟨0,2,1⟩,⟨1,3,0⟩,⟨1,4,1⟩,⟨2,4,0⟩,⟨2,2,1⟩,⟨3,3,0⟩,⟨3,3,1⟩,⟨4,3,0⟩,⟨4,4,1⟩]⟩
def ZnS:Aut:=⟨3,2,[0],[2],[⟨0,1,0⟩,⟨0,2,1⟩,⟨1,1,0⟩,⟨1,1,1⟩,⟨2,0,0⟩,⟨2,1,1⟩]⟩
theorem Znt:bldT [sA,sB,sC] CR=some CU:=ZbY (i:=30) dC _ _ kR
theorem Znu:bldT [sA,sB] Hm=some ZnR:=ZbY (i:=30) dC _ _ kR
theorem Znv:bldT [sA,sB] Hn=some ZnS:=ZbY (i:=30) dC _ _ kR
theorem ZlF:cmpX ZnR ZnS 4=(false,[1],0):=Zns (i:=30) dC kR
theorem ZbZ:Kc CR=true:=by decide+kernel
theorem Zg6:Kc Hm=true:=by decide+kernel
theorem Zg7:Kc Hn=true:=by decide+kernel
theorem ZlG:PH [sA,sB,sC]:=by unfold PH;decide+kernel
theorem Znw:actR CR=([sA,sB,sC],0):=by
 have h:[sA,sB,sC]=canB (Y2 CR):=ZbF ZlG fun s=>Iff.rfl
 have h2:(colS [] (Y2 CR)).length=3:=by
  have:=congrArg List.length h;unfold canB at this;rw [Ln] at this;exact this.symm
 unfold actR
 rw [UU ZbZ,UU oM]
 exact Prod.ext h.symm rfl
theorem Zg8:unT Hm Hn=[sA,sB]:=by
 rw [Zg2]
 refine (ZbF (show PH [sA,sB] by unfold PH;decide+kernel) fun s=>?_).symm
 rw [show Y2 Hm++Y2 Hn=[sA,sB,sB,sA] from rfl]
 simp only [Xt,List.not_mem_nil,or_false]
 constructor
 · rintro (h|h)
   · exact .inl h
   · exact .inr (.inl h)
 · rintro (h|h|h|h)
   · exact .inl h
   · exact .inr h
   · exact .inr h
   · exact .inl h
theorem Znx:eqTX Hm Hn=(false,[sB],0):=by
 have h2:=RO Hm Hn
 rw [Zg8] at h2
 unfold eqTX
 rw [UU ⟨Zg6,Zg7⟩,UU (by rw [←h2];decide),Zg8,Znu,Znv]
 dsimp only
 rw [ZlF];rfl
theorem Zny:Z1 CU=true:=by kernel_rfl
theorem ZeE:Wz CU=[2,1,-1,1,0]:=by kernel_rfl
theorem ZlH:ZoD CU [2,1,-1,1,0] 5=false:=by kernel_rfl
theorem ZlI:ZmU CU [2,1,-1,1,0] 5 6=[[0,2],[0,1,2]]:=by kernel_rfl
theorem JA:AggT prog 24 3=true:=by kernel_rfl
theorem CV:AggT prog 39 5=true:=by kernel_rfl
theorem TO:ElT prog 22 24 3 48 (.agg #[(.int .i64 0),(.string ByteArray.empty),(.slice none 0 0)]):=⟨underlying22,by kernel_rfl,rfl,dC⟩
theorem DD:ElT prog 27 9 1 16 (.string ByteArray.empty):=⟨underlying27,by kernel_rfl,rfl,dC⟩
theorem DF:ElT prog 71 27 1 24 (.slice none 0 0):=⟨underlying71,by kernel_rfl,rfl,dC⟩
theorem ZiO:NoAgg prog 36=true:=by kernel_rfl
theorem ZeF:NoAgg prog 9=true:=by kernel_rfl
theorem CW:SlT prog 117 36 1=true:=by kernel_rfl
theorem TP:SlT prog 27 9 1=true:=by kernel_rfl
theorem DG:W1 prog 24=some ((.agg #[(.int .i64 0),(.string ByteArray.empty),(.slice none 0 0)]),([0,1,2]:List Nat).map fun o=>(o,1)):=by kernel_rfl
theorem DI:ZeroT prog 24 (.agg #[(.int .i64 0),(.string ByteArray.empty),(.slice none 0 0)]):=by unfold ZeroT;kernel_rfl
theorem ZiP:ZeroT prog 39 (.agg #[(.int .i64 0),(.int .i64 0),(.slice none 0 0),(.slice none 0 0),(.slice none 0 0)]):=by unfold ZeroT;kernel_rfl
theorem Zf5 (e:Nat) (L:List (List ByteArray)) (x:List ByteArray):PV.own e 1 (L.length+1) (L.map YF++[YF x])= .own e 1 (L++[x]).length ((L++[x]).map YF):=sM
theorem Zb0 (e n:Nat) (l:List (List ByteArray)) (hn:n=l.length):share (.own e 1 n (l.map YF))=OS l:=by
 subst hn
 rw [share,Yr,XG];rfl
set_option maxHeartbeats 1000000 in
theorem Zf6 (t :Nd) (hf:FitT t) (hv:Kc t=true) {L:List ByteArray} {A:Aut} (hA:actR t=(L,0)) (hB:bldT L t=some A) (n:Int) (hn:0≤n∧n≤200) (W:List (List Int)) (hWl:W.length≤100000) (hWw:∀w∈W,w.length≤1000∧∀i∈w,0≤i∧i<L.length) (hW:AF prog 91 [ZJ A,pInt n] (· = .tup [Pk W,pInt 0])):AF prog 43 [pTr t,pInt n] (· = .tup [OS (W.map (nmI L)),pInt 0]):=by
 have e0:pTr t= .agg [pInt t.op,Yv t.act,Wl t.l]:=rfl
 have hV:=P8 t hf
 rw [hv] at hV
 have hS:RS (bldT L t) (pInt A.n) (pInt A.syms) (pInts A.start) (pInts A.fin) (pMvs A.moves) 0:=⟨R5.aut A,by rw [hB];rfl, .inr ⟨A,hB,rfl,rfl,rfl,rfl,rfl,rfl⟩⟩
 have hj:=Zls t hf hA hS
 rw [e0] at hV hj ⊢
 refine AF.of_body 54 func43 rfl ntmps43 (Xa rfl) ?_
 intro w0 M0 vs hl hv
 obtain ⟨v0,v1,rfl⟩:=YX hl
 obtain rfl:=hv 1 _ _ rfl rfl
 clear hl hv
 refine Ze ?_
 (refine ZB 2 3 fun h2=>?_<;>refine xL 4 Za (xL 5 Za ?_)<;>refine Zk ?_)
 ((refine yL 13 (Zs 2 JA) fun v13 h=>?_;cases h)<;>(refine cS 14 (cA call24 (hV)) fun v14 h=>?_;cases h)<;>refine xL 15 Z' ?_<;>refine Zc ?_)
 refine cX ?_ ?_<;>intro hb15
 · exact bN hb15
 · refine Ze ?_;(refine xL 16 Zb (xL 17 ZQ (xL 18 Zb ?_))<;>(refine bLd 18 (fun hb18=>?_) (fun hb18=>?_)<;>(first|refine kL 19 ?_|refine xL 19 Zb ?_))<;>(first|refine kL 20 ?_|refine xL 20 Yz ?_)<;>refine xL 21 ZG ?_<;>refine Zc ?_)<;>(
 refine cX ?_ ?_<;>intro hb21
 · exfalso;first|omega|(simp_all;done)|(simp_all;omega)
 · refine Ze ?_;((refine yL 23 (Zs 2 JA) fun v23 h=>?_;cases h)<;>(refine C1 24 (cA (call66) hj) (fun va24 vb24 vc24 hva24 hvb24 hvc24=>?_);cases hvc24)<;>refine xL 22 Zb (xL 25 Zi (xL 26 Zi (xL 27 Zi ?_)))<;>refine Zv [(.int .i64 0),(.int .i64 0),(.slice none 0 0),(.slice none 0 0),(.slice none 0 0)] 5 6 ZiP fun h6=>?_<;>refine Zz 6 CV ?_<;>refine xL 7 Za (xL 8 Za ?_)<;>refine Zk ?_)
   (refine xL 28 Zb (xL 29 Yn ?_)<;>refine Zc ?_)
   refine cX ?_ ?_<;>intro hb29
   · exact UV rfl hb29
   · refine Ze ?_;((refine yL 32 (Zs 6 CV) fun v32 h=>?_;cases h)<;>refine xL 33 Zb ?_<;>(refine cP 34 (cA call91 (hW)) fun va34 vb34 hva34 h=>?_;cases h)<;>refine xL 31 Zb (xL 35 Zi (xL 36 Zi (xL 9 Za (xL 8 Za ?_))))<;>refine Zk ?_)
     (refine xL 37 Zb (xL 38 Yn ?_)<;>refine Zc ?_)
     refine cX ?_ ?_<;>intro hb38
     · exact UV rfl hb38
     · refine Ze ?_;(refine xL 10 Za ?_<;>refine Zk ?_)
       (refine xL 40 Zb (xL 41 (ZW CW) (xL 42 Zb ?_))<;>refine Zc ?_)
       refine Zq (KT 200 27 1 rfl) fun _=>?_;refine ZE (ι:={q:Nat×Value//q.1≤W.length∧q.2.oneCell'=true}) (fun k=>⟨[(4,_,_),(5,_,_),(7,_,_),(8,_,_),(40,_,_),(41,_,_),(10,k.1.2, .val k.1.2),(42, .int .i64 k.1.1,pInt k.1.1)],[(2,_,_),(6,_,_),(200,k.1.2, .own 27 1 ((W.take k.1.1).map (nmI L)).length (((W.take k.1.1).map (nmI L)).map YF))]⟩) (fun k=>W.length-k.1.1) ⟨(0, .slice none 0 0),Xd _,rfl⟩ (fun a w H=>H.weaken ⟨rfl,rfl,rfl,rfl,rfl,rfl,rfl,rfl,trivial⟩ ⟨rfl,rfl,rfl,trivial⟩) ?_;rintro ⟨⟨i,hv10⟩,hi,ho⟩;dsimp only;dsimp only at hi ho;(have hwl:((W.take i).map (nmI L)).length≤W.length:=by rw [Xe,Xn];omega);refine Ze ?_;(refine xL 43 ZQ ?_<;>refine Zc ?_)
       refine cX ?_ ?_<;>intro hb43
       · first|exact bN hb43|(
 obtain ⟨w,hw⟩:=Zw (show i<W.length by omega);have e1:=Yb (f:=pInts) hw;obtain ⟨hw1,hw2⟩:=hWw w (Xc hw);refine Ze ?_;(refine xL 44 (ZH CW) ?_<;>(refine yL 45 (Ya ZiO) fun v45 h=>?_;cases h)<;>refine xL 12 Za ?_<;>refine Zk ?_)
 (refine xL 46 Zb (xL 47 Zb (xL 48 Zb ?_))<;>(refine cS 49 (cA call53 (Zau w L oM hw2)) fun v49 h=>?_;cases h)<;>refine ZM (kk:=1) 50 DF fun h50 ho50=>?_<;>(refine ZY 200 50 51 DF fun h51 ho51=>?_;refine Zu (ZD (l:=51) 200 rfl rfl) fun _=>?_;refine Zu (ZF (l:=200) (p':= .own 27 1 ((W.take (i+1)).map (nmI L)).length (((W.take (i+1)).map (nmI L)).map YF)) rfl (by rw [ZR hw,Xs];exact Zf5 _ _ _)) fun _=>?_)<;>refine xL 10 Za ?_<;>refine Zk ?_)
 (refine xL 52 ZK (xL 42 Zb ?_)<;>refine Zc ?_)
 refine Zn (
  ⟨(i+1,h51),Zh hw,ho51⟩
  ) (by dsimp only;omega) ⟨rfl,rfl,rfl,rfl,rfl,rfl,rfl,rfl,trivial⟩ ⟨rfl,rfl,rfl,trivial⟩)
       · first|exact bN hb43|(
 rw [Xj (show W.length≤i by omega)];refine Zq (En.freeze (l:=200) (t:=10) rfl rfl) fun _=>?_;rw [Zb0 _ _ _ rfl];refine Ze ?_;(refine xL 53 Zb (xL 4 Za (xL 5 Za ?_))<;>refine Zc ?_)
 exact KH (results43) rfl rfl rfl))
theorem ZoN (s:ByteArray):Rr (.agg [pInt 1,Yv s, .val (.slice none 0 0)]) (pTr (lfT s)):=Rr.agg rfl fun i a b ha hb=>by
 match i with
 |0=>cases ha;cases hb;exact Rr.rfl' _
 |1=>cases ha;cases hb;exact Rr.rfl' _
 |2=>cases ha;cases hb;exact Rr.nil
 |i+3=>simp at ha
theorem Ho (a:List ByteArray):AF prog 14 [YF a,YF a] (· =ZN true):=by
 refine AF.of_body 26 func14 rfl ntmps14 (Xa rfl) ?_
 intro w0 M0 vs hl hv
 obtain ⟨v0,v1,rfl⟩:=YX hl
 clear hl hv
 refine Wm 0 rfl fun hlen=>?_
 refine Ze ?_
 (refine xL 4 Za ?_<;>refine Zk ?_)
 (refine xL 6 Zb (xL 7 (ZW TP) (xL 8 Zb (xL 9 (ZW TP) (xL 10 Yn ?_))))<;>refine Zc ?_)
 refine cX ?_ ?_<;>intro hb10
 · first|exact bN hb10|(
 refine Ze ?_;(refine xL 4 Za ?_<;>refine Zc ?_)
 exfalso;omega)
 · first | exact bN hb10|(
 refine Ze ?_;(refine xL 11 Zb (xL 12 (ZW TP) (xL 13 Zb ?_))<;>refine Zc ?_)
 refine ZE (ι:={k:Nat//k≤a.length}) (fun k=>⟨[(0,_,_),(1,_,_),(12,_,_),(13, .int .i64 k.1,pInt k.1)],[]⟩) (fun k=>a.length-k.1) ⟨0,oM⟩ (fun a w H=>H.weaken ⟨rfl,rfl,rfl,rfl,trivial⟩ trivial) ?_;rintro ⟨k,hk⟩;dsimp only;refine Ze ?_;(refine xL 14 ZQ ?_<;>refine Zc ?_)
 refine cX ?_ ?_<;>intro hb14
 · first |exact bN hb14|(
 obtain ⟨x,hx⟩:=Zw (show k<a.length by omega);have e1:=Yb (f:=Yv) hx;refine Ze ?_;(refine xL 15 Zb (xL 5 Za ?_)<;>refine Zc ?_)
 (refine ZZ (fun i=>([]:List Nat).elem i) [] kR ?_<;>refine xD 0 16 rfl Zb ?_<;>refine xD 1 17 rfl Zb ?_<;>refine xD 2 18 rfl (ZH TP) ?_<;>(refine yD 3 19 rfl (Ya ZeF) fun v19 h=>?_;cases h)<;>refine xD 4 20 rfl Zb ?_<;>refine xE 5 21 rfl Zb ?_<;>refine xE 6 22 rfl (ZH TP) ?_<;>(refine yE 7 23 rfl (Ya ZeF) fun v23 h=>?_;cases h)<;>refine xE 8 24 rfl Zn9 ?_<;>refine YC kR (nav ?_)<;>try dsimp only)
 refine cX ?_ ?_<;>intro hb24
 · first|exact bN hb24|(
 refine Ze ?_;(refine xL 4 Za ?_<;>refine Zc ?_)
 exfalso;simp at hb24)
 · first|exact bN hb24|(
 refine Ze ?_;(refine xL 25 ZK (xL 13 Zb ?_)<;>refine Zc ?_)
 refine Zn (
  ⟨k+1,Zh hx⟩
  ) (by dsimp only;omega) ⟨rfl,rfl,rfl,rfl,trivial⟩ trivial))
 · first|exact bN hb14|(
 refine Ze ?_;(refine xL 4 Za ?_<;>refine Zc ?_)
 exact ZA (results14) rfl rfl))
theorem CX (s:ByteArray):AF prog 41 [Yv s] (· =pTr (lfT s)):=by
 refine AF.reread (p:= .agg [pInt 1,Yv s, .val (.slice none 0 0)]) ?_ rfl (ZoN s)
 refine AF.of_body 5 func41 rfl ntmps41 (Xa rfl) ?_
 intro w0 M0 vs hl hv
 obtain ⟨v0,rfl⟩:=WE hl
 obtain rfl:=hv 0 _ _ rfl rfl
 clear hl hv
 refine Ze ?_
 (refine Zv [(.int .i64 0),(.string ByteArray.empty),(.slice none 0 0)] 3 2 DI fun h2=>?_<;>refine Zk ?_)
 (refine xL 3 Zb (xL 4 (ZO DG) ?_)<;>refine Zz 2 JA ?_<;>refine Zc ?_)
 exact Sx (k:=3) 2 kR (results41) rfl rfl (Xa rfl) dC rfl rfl
theorem TQ (o:Int) (l:List Nd):AF prog 42 [pInt o,Wl l] (· =pTr (opT o l)):=by
 refine AF.of_body 8 func42 rfl ntmps42 (Xa rfl) ?_
 intro w0 M0 vs hl hv
 obtain ⟨v0,v1,rfl⟩:=YX hl
 obtain rfl:=hv 0 _ _ rfl rfl
 clear hl hv
 refine Ze ?_
 (refine Zv [(.int .i64 0),(.string ByteArray.empty),(.slice none 0 0)] 3 4 DI fun h4=>?_<;>refine Zk ?_)
 (refine xL 5 Zb (xL 6 Zb (xL 7 (ZO DG) ?_))<;>refine Zz 4 JA ?_<;>refine Zc ?_)
 exact Sx (k:=3) 4 kR (results42) rfl rfl (Xa rfl) dC rfl rfl
theorem Zf7:AF prog 91 [ZJ CU,pInt 5] (· = .tup [Pk [[0,2],[0,1,2]],pInt 0]):=(Zj3 CU 5).mono fun p hp=>by
 rcases hp with ⟨h,_⟩|⟨_,h,_⟩|⟨_,_,_,h,_⟩|⟨_,_,_,_,h⟩
 · rw [Zny] at h;cases h
 · omega
 · rw [ZmV,ZeE,show (5:Int).toNat=5 from rfl,ZlH] at h;cases h
 · rw [h,ZgO,ZeE,show (5:Int).toNat=5 from rfl,ZlI]
theorem Zf8 {t:Nd} (h:Kc t=true):FitT t:=Zmd t (Tc h) (by have:=TU h;omega)
theorem ZoO:AF prog 43 [pTr CR,pInt 5] (· = .tup [OS [[sA,sC],[sA,sB,sC]],pInt 0]):=
 Zf6 CR (Zf8 ZbZ) ZbZ Znw Znt 5 dC [[0,2],[0,1,2]] dC dC Zf7
theorem ZoP:AF prog 12 [pTr Hm,pTr Hn] (· = .tup [ZN false,YF [sB],pInt 0]):=by
 have:=Rm Hm Hn (Zf8 Zg6) (Zf8 Zg7)
 rw [Znx] at this
 exact this
theorem Rn (x y:Nd):PV.sl 2 (cN x++cN y)=Wl [x,y]:=by unfold Wl;rw [P7];simp
theorem Zf9 (x y z:Nd):PV.sl 3 (cN x++(cN y++cN z))=Wl [x,y,z]:=by unfold Wl;rw [P7];simp
theorem ZiQ:P4 [[sA,sC],[sA,sB,sC]] [[sA,sC],[sA,sB,sC]]=true:=by decide+kernel
set_option maxHeartbeats 4000000 in
theorem CY:AF prog 10 [] (· =ZN true):=by
 have hactA:=CX sA
 have hactB:=CX sB
 have hactC:=CX sC
 have hS:Rr (.agg [pInt 2, .val (.string ByteArray.empty), .val (.slice none 0 0)]) (pTr (opT 2 [])):=Zoj
 refine AF.of_body 72 func10 rfl ntmps10 (Xa rfl) ?_
 intro w0 M0 vs hl hv
 obtain rfl:=XR hl
 clear hl hv
 refine Ze ?_
 (refine xL 0 Za ?_<;>refine Zk ?_)
 (refine xL 1 Za ?_<;>refine Zk ?_)
 (refine xL 2 Za ?_<;>refine Zk ?_)
 ((refine xL 9 (ZO DG) ?_;refine Zu (Zjp (t:=9) (p':=pTr (opT 2 [])) rfl hS) fun _=>?_)<;>refine Zv [(.int .i64 0),(.string ByteArray.empty),(.slice none 0 0)] 3 3 DI fun h3=>?_<;>refine Zz 3 JA ?_<;>refine Zc ?_)
 (refine ZZ (fun i=>([18]:List Nat).elem i) [3] kR ?_<;>refine xD 0 11 rfl Zb ?_<;>refine xD 1 12 rfl Zb ?_<;>refine xD 3 14 rfl Zb ?_<;>refine xD 4 15 rfl Zb ?_<;>(refine yD 6 17 rfl (Zs 3 JA) fun v17 h=>?_;cases h)<;>refine xD 9 20 rfl Zb ?_<;>(refine Zp 2 kR ?_)<;>(refine YA (d:=13) rfl (GX (f:=41) (ps:=[]) rfl ⟨_,rfl⟩ (call41) rfl hactA) fun v13 h=>?_;cases h)<;>(refine Zp 5 kR ?_)<;>(refine YA (d:=16) rfl (GX (f:=41) (ps:=[]) rfl ⟨_,rfl⟩ (call41) rfl hactB) fun v16 h=>?_;cases h)<;>(refine Zp 7 kR ?_)<;>(refine Zm rfl fun w9 M9 N9 DQ back=>?_)<;>(refine OY (kk:=3) (xs:=[_,_]) (cs:=[[_,_,_],[_,_,_]]) 18 TO fun h18 ho18=>?_;refine Zu (En.freeze (l:=18) (t:=18) rfl rfl) fun _=>?_;refine Zu (Wg (t:=18) (p':=Wl [lfT sB,opT 2 []]) rfl (Eq.trans (show _=PV.sl 2 (cN (lfT sB)++cN (opT 2 [])) from rfl) (Rn _ _))) fun _=>?_)<;>refine Zj (back _ (nrm ?_))<;>(refine Zp 8 kR ?_)<;>(refine YA (d:=19) rfl (GX (f:=42) (ps:=[]) rfl ⟨_,rfl⟩ (call42) rfl (TQ 4 [lfT sB,opT 2 []])) fun v19 h=>?_;cases h)<;>(refine Zp 10 kR ?_)<;>(refine YA (d:=21) rfl (GX (f:=41) (ps:=[]) rfl ⟨_,rfl⟩ (call41) rfl hactC) fun v21 h=>?_;cases h)<;>(refine Zp 11 kR ?_)<;>(refine Zm rfl fun w9 M9 N9 DQ back=>?_)<;>(refine OY (kk:=3) (xs:=[_,_,_]) (cs:=[[_,_,_],[_,_,_],[_,_,_]]) 22 TO fun h22 ho22=>?_;refine Zu (En.freeze (l:=22) (t:=22) rfl rfl) fun _=>?_;refine Zu (Wg (t:=22) (p':=Wl [lfT sA,opT 4 [lfT sB,opT 2 []],lfT sC]) rfl (Eq.trans (show _=PV.sl 3 (cN (lfT sA)++(cN (opT 4 [lfT sB,opT 2 []])++cN (lfT sC))) from rfl) (Zf9 _ _ _))) fun _=>?_)<;>refine Zj (back _ (nrm ?_))<;>(refine Zp 12 kR ?_)<;>(refine YA (d:=23) rfl (GX (f:=42) (ps:=[]) rfl ⟨_,rfl⟩ (call42) rfl (TQ 3 [lfT sA,opT 4 [lfT sB,opT 2 []],lfT sC])) fun v23 h=>?_;cases h)<;>(refine Zp 13 kR ?_)<;>(refine Zm rfl fun w9 M9 N9 DQ back=>?_)<;>(refine cP 24 (cA call43 (ZoO)) fun va24 vb24 hva24 h=>?_;cases h)<;>refine Zj (back _ (nrm ?_))<;>refine xE 14 10 rfl Zb ?_<;>refine xD 15 25 rfl Zi ?_<;>refine xD 16 26 rfl Zi ?_<;>refine xE 17 4 rfl Za ?_<;>refine xE 18 5 rfl Za ?_<;>refine YC kR (nav ?_)<;>try dsimp only)
 (refine ZZ (fun i=>([25]:List Nat).elem i) [3] kR ?_<;>refine xD 0 28 rfl Zb ?_<;>refine xD 1 29 rfl Zb ?_<;>refine xD 3 31 rfl Zb ?_<;>refine xD 4 32 rfl Zb ?_<;>(refine yD 6 34 rfl (Zs 3 JA) fun v34 h=>?_;cases h)<;>refine xD 11 39 rfl Zb ?_<;>refine xD 12 40 rfl Zb ?_<;>refine xD 14 42 rfl Zb ?_<;>(refine Zp 2 kR ?_)<;>(refine YA (d:=30) rfl (GX (f:=41) (ps:=[]) rfl ⟨_,rfl⟩ (call41) rfl hactA) fun v30 h=>?_;cases h)<;>(refine Zp 5 kR ?_)<;>(refine YA (d:=33) rfl (GX (f:=41) (ps:=[]) rfl ⟨_,rfl⟩ (call41) rfl hactB) fun v33 h=>?_;cases h)<;>(refine Zp 7 kR ?_)<;>(refine Zm rfl fun w9 M9 N9 DQ back=>?_)<;>(refine OY (kk:=3) (xs:=[_,_]) (cs:=[[_,_,_],[_,_,_]]) 35 TO fun h35 ho35=>?_;refine Zu (En.freeze (l:=35) (t:=35) rfl rfl) fun _=>?_;refine Zu (Wg (t:=35) (p':=Wl [lfT sB,opT 2 []]) rfl (Eq.trans (show _=PV.sl 2 (cN (lfT sB)++cN (opT 2 [])) from rfl) (Rn _ _))) fun _=>?_)<;>refine Zj (back _ (nrm ?_))<;>(refine Zp 8 kR ?_)<;>(refine YA (d:=36) rfl (GX (f:=42) (ps:=[]) rfl ⟨_,rfl⟩ (call42) rfl (TQ 6 [lfT sB,opT 2 []])) fun v36 h=>?_;cases h)<;>(refine Zp 9 kR ?_)<;>(refine Zm rfl fun w9 M9 N9 DQ back=>?_)<;>(refine OY (kk:=3) (xs:=[_,_]) (cs:=[[_,_,_],[_,_,_]]) 37 TO fun h37 ho37=>?_;refine Zu (En.freeze (l:=37) (t:=37) rfl rfl) fun _=>?_;refine Zu (Wg (t:=37) (p':=Wl [lfT sA,opT 6 [lfT sB,opT 2 []]]) rfl (Eq.trans (show _=PV.sl 2 (cN (lfT sA)++cN (opT 6 [lfT sB,opT 2 []])) from rfl) (Rn _ _))) fun _=>?_)<;>refine Zj (back _ (nrm ?_))<;>(refine Zp 10 kR ?_)<;>(refine YA (d:=38) rfl (GX (f:=42) (ps:=[]) rfl ⟨_,rfl⟩ (call42) rfl (TQ 5 [lfT sA,opT 6 [lfT sB,opT 2 []]])) fun v38 h=>?_;cases h)<;>(refine Zp 13 kR ?_)<;>(refine YA (d:=41) rfl (GX (f:=41) (ps:=[]) rfl ⟨_,rfl⟩ (call41) rfl hactB) fun v41 h=>?_;cases h)<;>(refine Zp 15 kR ?_)<;>(refine YA (d:=43) rfl (GX (f:=41) (ps:=[]) rfl ⟨_,rfl⟩ (call41) rfl hactA) fun v43 h=>?_;cases h)<;>(refine Zp 16 kR ?_)<;>(refine Zm rfl fun w9 M9 N9 DQ back=>?_)<;>(refine OY (kk:=3) (xs:=[_,_]) (cs:=[[_,_,_],[_,_,_]]) 44 TO fun h44 ho44=>?_;refine Zu (En.freeze (l:=44) (t:=44) rfl rfl) fun _=>?_;refine Zu (Wg (t:=44) (p':=Wl [lfT sB,lfT sA]) rfl (Eq.trans (show _=PV.sl 2 (cN (lfT sB)++cN (lfT sA)) from rfl) (Rn _ _))) fun _=>?_)<;>refine Zj (back _ (nrm ?_))<;>(refine Zp 17 kR ?_)<;>(refine YA (d:=45) rfl (GX (f:=42) (ps:=[]) rfl ⟨_,rfl⟩ (call42) rfl (TQ 6 [lfT sB,lfT sA])) fun v45 h=>?_;cases h)<;>(refine Zp 18 kR ?_)<;>(refine Zm rfl fun w9 M9 N9 DQ back=>?_)<;>(refine C1 46 (cA (call12) ZoP) (fun va46 vb46 vc46 hva46 hvb46 hvc46=>?_);cases hva46;cases hvc46)<;>refine Zj (back _ (nrm ?_))<;>refine xE 19 27 rfl Zb ?_<;>refine xD 20 47 rfl Zi ?_<;>refine xD 21 48 rfl Zi ?_<;>refine xD 22 49 rfl Zi ?_<;>refine xE 23 6 rfl Za ?_<;>refine xE 24 7 rfl Za ?_<;>refine xE 25 8 rfl Za ?_<;>refine YC kR (nav ?_)<;>try dsimp only)
 (refine Zt ?_<;>refine xL 50 Zb ?_<;>(refine Ph (xs:=[_,_]) 51 DD fun h51 ho51=>?_;refine Zu (En.freeze (l:=51) (t:=51) rfl rfl) fun _=>?_;refine Zu (Wg (t:=51) (p':=YF [sA,sC]) rfl rfl) fun _=>?_)<;>(refine Ph (xs:=[_,_,_]) 52 DD fun h52 ho52=>?_;refine Zu (En.freeze (l:=52) (t:=52) rfl rfl) fun _=>?_;refine Zu (Wg (t:=52) (p':=YF [sA,sB,sC]) rfl rfl) fun _=>?_)<;>(refine Ph (xs:=[_,_]) 53 DF fun h53 ho53=>?_;refine Zu (En.freeze (l:=53) (t:=53) rfl rfl) fun _=>?_;refine Zu (Wg (t:=53) (p':=OS [[sA,sC],[sA,sB,sC]]) rfl rfl) fun _=>?_)<;>(refine cS 54 (cA call44 ((ZeV [[sA,sC],[sA,sB,sC]] [[sA,sC],[sA,sB,sC]]).mono (R':=(· =ZN true)) fun p hp=>by rw [hp,ZiQ])) fun v54 h=>?_;cases h)<;>refine xL 55 Zb (xL 56 Zb (xL 57 Ze1 (xL 58 ZG (xL 59 Zb (xL 60 Zb (xL 61 Z' (xL 62 ZG (xL 63 Zb (xL 64 Zb ?_)))))))))<;>(refine ZM (kk:=1) 65 DD fun h65 ho65=>?_;refine Zu (En.freeze (l:=65) (t:=65) rfl rfl) fun _=>?_;refine Zu (Wg (t:=65) (p':=YF [sB]) rfl rfl) fun _=>?_)<;>(refine cS 66 (cA call14 (Ho [sB])) fun v66 h=>?_;cases h)<;>refine xL 67 ZG (xL 68 Zb (xL 69 Zb (xL 70 Ze1 (xL 71 ZG (xL 0 Za ?_)))))<;>refine Zc ?_)<;>(
 exact ZA results10 rfl rfl)
theorem K8:AggT prog 24 3=true:=by kernel_rfl
theorem ZeG:FldT prog 24 0 0=true:=by kernel_rfl
theorem ZeH:FldT prog 24 1 1=true:=by kernel_rfl
theorem Ro:FldT prog 24 2 2=true:=by kernel_rfl
theorem DJ:NoAgg prog 22=true:=by kernel_rfl
theorem ZlJ:NoAgg prog 3=true:=by kernel_rfl
theorem ZlK:NoAgg prog 9=true:=by kernel_rfl
theorem TR:SlT prog 22 24 3=true:=by kernel_rfl
theorem ZaR:ZeroT prog 24 (.agg #[(.int .i64 0),(.string ByteArray.empty),(.slice none 0 0)]):=by unfold ZeroT;kernel_rfl
mutual
def ON:Nd→Int→Int→Int
 | .mk _ a l,m,d=>if 70<d∨100<(a.size:Int)∨m<(l.length:Int) then m else DK l m d 1
def DK:List Nd→Int→Int→Int→Int
 |[],m,_,n=>min n m
 |x::l,m,d,n=>if m≤n then m else DK l m d (n+ON x (m-n) (d+1))
end
theorem ZoQ:∀(t:Nd) (m d:Int),1≤m→1≤ON t m d∧ON t m d≤m:=Nd.ind fun o a l ih m d hm=>by
 rw [ON]
 split
 · omega
 have key:∀(k:List Nd),(∀x∈k,x∈l)→∀n:Int,1≤n→1≤DK k m d n∧DK k m d n≤m:=fun k=>by
  induction k with
  |nil=>intro _ n hn;rw [DK];omega
  | cons x k ihk=>
    intro hk n hn;rw [DK];split
    · omega
    · have:=ih x (hk x (Xm ..)) (m-n) (d+1) oM;exact ihk (fun y hy=>hk y (Xo _ hy)) _ oM
 exact key l (fun _ h=>h) 1 (VU _)
theorem ZiR {l:List Nd} {k:Nat} {x:Nd} (hx:l[k]? =some x) (m d n:Int):DK (l.drop k) m d n=if m≤n then m else DK (l.drop (k+1)) m d (n+ON x (m-n) (d+1)):=by
 rw [VM (Zh hx),(XK.1 hx).2,DK]
mutual
def K9:Nd→Int
 | .mk o _ l=>HA o l 2
def HA:Int→List Nd→Int→Int
 |_,[],n=>n
 |o,x::l,n=>HA o l (min (if o=5 then n*K9 x else n+K9 x) 100000)
end
theorem ZoR:∀(t:Nd),2≤K9 t∧K9 t≤100000:=Nd.ind fun o a l ih=>by
 rw [K9]
 have key:∀(k:List Nd),(∀x∈k,x∈l)→∀n:Int,2≤n→n≤100000→2≤HA o k n∧HA o k n≤100000:=fun k=>by
  induction k with
  |nil=>intro _ n hn hm;rw [HA];exact ⟨hn,hm⟩
  | cons x k ihk=>
    intro hk n hn hm;rw [HA];have h1:=ih x (hk x (Xm ..));refine ihk (fun y hy=>hk y (Xo _ hy)) _ ?_ oM;split
    · have:2*2≤n*K9 x:=Int.mul_le_mul hn h1.1 oM oM;omega
    · omega
 exact key l (fun _ h=>h) 2 (VU _) oM
theorem ZiS {l:List Nd} {k:Nat} {x:Nd} (o:Int) (hx:l[k]? =some x) (n:Int):HA o (l.drop k) n=HA o (l.drop (k+1)) (min (if o=5 then n*K9 x else n+K9 x) 100000):=by
 rw [VM (Zh hx),(XK.1 hx).2,HA]
set_option maxHeartbeats 2000000 in
theorem Zga :∀(t:Nd),FitT t→∀(m d:Int),1≤m→m≤1000→1≤d→d≤100→AF prog 27 [pTr t,pInt m,pInt d] (· =pInt (ON t m d)):=Nd.ind fun o a l ih hf m d hm1 hm2 hd1 hd2=>by
 have e0:pTr (.mk o a l)= .agg [pInt o,Yv a,Wl l]:=rfl
 rw [e0]
 have hl:=hf.len
 have hp:=hf.p
 have ha:=hf.sz
 simp only [Nd.l,Nd.act] at hl hp ha
 refine AF.of_body 50 func27 rfl ntmps27 (Xa rfl) ?_
 intro w0 M0 vs hl hv
 obtain ⟨v0,v1,v2,rfl⟩:=Jx hl
 obtain rfl:=hv 1 _ _ rfl rfl
 obtain rfl:=hv 2 _ _ rfl rfl
 clear hl hv
 refine Ze ?_
 (refine ZB 3 3 fun h3=>?_<;>refine xL 6 Za ?_<;>refine Zk ?_)
 (refine xL 10 Zb (xL 11 Yz (xL 12 Zb ?_))<;>(refine bLd 12 (fun hb12=>?_) (fun hb12=>?_)<;>(first|refine kL 13 ?_|refine xL 13 (Zd 3 ZeH) ?_))<;>(first|refine kL 14 ?_|(refine yL 14 (Zl 3 ZlK) fun v14 h=>?_;cases h))<;>(first|refine kL 15 ?_|refine xL 15 (Pg underlying9) ?_)<;>(first|refine kL 16 ?_|refine xL 16 Yz ?_)<;>refine xL 17 ZG (xL 18 Zb ?_)<;>(first|refine kL 19 ?_|(refine bLd 18 (fun hb18=>?_) (fun hb18=>?_)<;>(first|refine kL 19 ?_|refine xL 19 (Zd 3 Ro) ?_)))<;>(first|refine kL 20 ?_|(refine yL 20 (Zl 3 DJ) fun v20 h=>?_;cases h))<;>(first|refine kL 21 ?_|refine xL 21 (ZW TR) ?_)<;>(first|refine kL 22 ?_|refine xL 22 Zb ?_)<;>(first|refine kL 23 ?_|refine xL 23 Yz ?_)<;>refine xL 24 ZG ?_<;>refine Zc ?_)<;>(
 refine cX ?_ ?_<;>intro hb24
 · first|exact bN hb24|(
 (have hc:70<d∨100<(a.size:Int)∨m<(l.length:Int):=by simp_all);(have hX:ON (.mk o a l) m d=m:=by rw [ON,UU hc]);rw [hX];refine Ze ?_;(refine xL 25 Zb (xL 6 Za ?_)<;>refine Zc ?_)
 exact ZA results27 rfl rfl)
 · first | exact bN hb24|(
 (have hc:¬(70<d∨100<(a.size:Int)∨m<(l.length:Int)):=by simp_all);(have hX:ON (.mk o a l) m d=DK l m d 1:=by rw [ON,UT hc]);rw [hX];have hd3:d≤70:=oM;refine Ze ?_;(refine xL 7 Za ?_<;>refine Zk ?_)
 (refine xL 26 (Zd 3 Ro) ?_<;>(refine yL 27 (Zl 3 DJ) fun v27 h=>?_;cases h)<;>refine xL 28 (ZW TR) (xL 29 Zb ?_)<;>refine Zc ?_)
 refine ZE (ι:={q:Nat×Int//q.1≤l.length∧1≤q.2∧q.2≤m∧DK (l.drop q.1) m d q.2=DK l m d 1}) (fun k=>⟨[(1,_,_),(2,_,_),(27,_,_),(28,_,_),(7, .int .i64 k.1.2,pInt k.1.2),(29, .int .i64 k.1.1,pInt k.1.1)],[(3,_,_)]⟩) (fun k=>l.length-k.1.1) ⟨(0,1),Xd _,VU _,hm1,rfl⟩ (fun a w H=>H.weaken ⟨rfl,rfl,rfl,rfl,rfl,rfl,trivial⟩ ⟨rfl,trivial⟩) ?_;rintro ⟨⟨i,n⟩,hi,hn1,hn2,hq⟩;dsimp only;dsimp only at hi hn1 hn2 hq;refine Ze ?_;(refine xL 30 ZQ ?_<;>refine Zc ?_)
 refine cX ?_ ?_<;>intro hb30
 · first |exact bN hb30|(
 obtain ⟨x,hx⟩:=Zw (show i<l.length by omega);have e1:((LN l).drop (i*3)).take 3=[pInt x.op,Yv x.act,Wl x.l]:=KN hx;have e2:=J2 hx;rw [ZiR hx] at hq;refine Ze ?_;(refine xL 31 (ZH TR) ?_<;>(refine yL 32 (WA K8) fun v32 h=>?_;cases h)<;>refine Zv [(.int .i64 0),(.string ByteArray.empty),(.slice none 0 0)] 3 9 ZaR fun h9=>?_<;>refine Zz 9 K8 ?_<;>refine Zk ?_)
 (refine xL 33 Zb (xL 34 Zb (xL 35 Ww ?_))<;>refine Zc ?_)
 refine cX ?_ ?_<;>intro hb35
 · first|exact bN hb35|(
 refine Ze ?_;(refine xL 36 Zb (xL 6 Za ?_)<;>refine Zc ?_)
 refine ZA (results27) rfl ?_;rw [UU oM] at hq;rw [←hq])
 · first|exact bN hb35|(
 rw [UT oM] at hq;have hcb:=ZoQ x (m-n) (d+1) oM;refine Ze ?_;(refine xL 37 Zb ?_<;>(refine yL 38 (Zs 9 K8) fun v38 h=>?_;cases h)<;>refine xL 39 Zb (xL 40 Zb (xL 41 KM (xL 42 Zb (xL 43 ZK ?_))))<;>(refine cS 44 (cA call27 (ih x (Xc hx) (hp x (Xc hx)) (m-n) (d+1) oM oM oM oM)) fun v44 h=>?_;cases h)<;>refine xL 45 ZK (xL 7 Za ?_)<;>refine Zk ?_)
 (refine xL 46 ZK (xL 29 Zb ?_)<;>refine Zc ?_)
 refine Zn (
  ⟨(i+1,n+ON x (m-n) (d+1)),Zh hx,by dsimp only;omega,by dsimp only;omega,hq⟩
  ) (by dsimp only;omega) ⟨rfl,rfl,rfl,rfl,rfl,rfl,trivial⟩ ⟨rfl,trivial⟩))
 · first|exact bN hb30|(
 rw [Vs (show l.length≤i by omega),DK] at hq;refine Ze ?_;(refine xL 47 Zb (xL 48 Zb (xL 49 Zjq (xL 6 Za ?_)))<;>refine Zc ?_)
 refine ZA (results27) rfl ?_;rw [←hq];(have hmn:(if m<n then m else n)=min n m:=by split<;>omega);rw [←hmn])))
set_option maxHeartbeats 2000000 in
theorem ZeI :∀(t:Nd),FitT t→AF prog 47 [pTr t] (· =pInt (K9 t)):=Nd.ind fun o a l ih hf=>by
 have e0:pTr (.mk o a l)= .agg [pInt o,Yv a,Wl l]:=rfl
 rw [e0]
 have hl:=hf.len
 have hp:=hf.p
 simp only [Nd.l,Nd.act] at hl hp
 refine AF.of_body 29 func47 rfl ntmps47 (Xa rfl) ?_
 intro w0 M0 vs hl hv
 obtain ⟨v0,rfl⟩:=WE hl
 clear hl hv
 refine Ze ?_
 (refine ZB 1 3 fun h1=>?_<;>refine xL 2 Za ?_<;>refine Zk ?_)
 (refine xL 3 Za ?_<;>refine Zk ?_)
 (refine xL 7 (Zd 1 Ro) ?_<;>(refine yL 8 (Zl 1 DJ) fun v8 h=>?_;cases h)<;>refine xL 9 (ZW TR) (xL 10 Zb ?_)<;>refine Zc ?_)
 refine ZE (ι:={q:Nat×Int//q.1≤l.length∧2≤q.2∧q.2≤100000∧HA o (l.drop q.1) q.2=HA o l 2}) (fun k=>⟨[(1,_,_),(8,_,_),(9,_,_),(3, .int .i64 k.1.2,pInt k.1.2),(10, .int .i64 k.1.1,pInt k.1.1)],[(1,_,_)]⟩) (fun k=>l.length-k.1.1) ⟨(0,2),Xd _,VU _,by dsimp only;omega,rfl⟩ (fun a w H=>H.weaken ⟨rfl,rfl,rfl,rfl,rfl,trivial⟩ ⟨rfl,trivial⟩) ?_
 rintro ⟨⟨i,n⟩,hi,hn1,hn2,hq⟩
 dsimp only
 dsimp only at hi hn1 hn2 hq
 refine Ze ?_
 (refine xL 11 ZQ ?_<;>refine Zc ?_)
 refine cX ?_ ?_<;>intro hb11
 · first | exact bN hb11|(
 obtain ⟨x,hx⟩:=Zw (show i<l.length by omega);have e1:((LN l).drop (i*3)).take 3=[pInt x.op,Yv x.act,Wl x.l]:=KN hx;have e2:=J2 hx;rw [ZiS o hx] at hq;have hw:=ZoR x;have hmul:2*2≤n*K9 x∧n*K9 x≤100000*100000:=⟨Int.mul_le_mul hn1 hw.1 oM oM,Int.mul_le_mul hn2 hw.2 oM oM⟩;refine Ze ?_;(refine xL 12 (ZH TR) ?_<;>(refine yL 13 (WA K8) fun v13 h=>?_;cases h)<;>refine Zv [(.int .i64 0),(.string ByteArray.empty),(.slice none 0 0)] 3 5 ZaR fun h5=>?_<;>refine Zz 5 K8 ?_<;>refine Zk ?_)
 ((refine yL 14 (Zs 5 K8) fun v14 h=>?_;cases h)<;>(refine cS 15 (cA call47 (ih x (Xc hx) (hp x (Xc hx)))) fun v15 h=>?_;cases h)<;>refine xL 6 Za ?_<;>refine Zk ?_)
 (refine xL 16 (Zd 1 ZeG) ?_<;>(refine yL 17 (Zl 1 ZlJ) fun v17 h=>?_;cases h)<;>refine xL 18 Yf ?_<;>refine Zc ?_)
 refine cX ?_ ?_<;>intro hb18
 · first |exact bN hb18|(
 rw [UU (show o=5 from hb18)] at hq;(have hmn:(if 100000<n*K9 x then 100000 else n*K9 x)=min (n*K9 x) 100000:=by split<;>omega);rw [←hmn] at hq;(have hb:2≤(if 100000<n*K9 x then 100000 else n*K9 x)∧(if 100000<n*K9 x then 100000 else n*K9 x)≤100000:=by split<;>omega);refine Ze ?_;(refine xL 19 Zb (xL 20 Zb (xL 21 Jj (xL 22 Zjq (xL 3 Za ?_))))<;>refine Zk ?_)
 (refine xL 27 ZK (xL 10 Zb ?_)<;>refine Zc ?_)
 first
  | (exact Zn (
      ⟨(i+1,if 100000<n*K9 x then 100000 else n*K9 x),Zh hx,hb.1,hb.2,hq⟩
      ) (by dsimp only;omega) ⟨rfl,rfl,rfl,rfl,rfl,trivial⟩ ⟨rfl,trivial⟩)
  | (exact Zn (
      ⟨(i+1,if 100000<n+K9 x then 100000 else n+K9 x),Zh hx,hb.1,hb.2,hq⟩
      ) (by dsimp only;omega) ⟨rfl,rfl,rfl,rfl,rfl,trivial⟩ ⟨rfl,trivial⟩))
 · first |exact bN hb18|(
 rw [UT (show ¬o=5 from hb18)] at hq;(have hmn:(if 100000<n+K9 x then 100000 else n+K9 x)=min (n+K9 x) 100000:=by split<;>omega);rw [←hmn] at hq;(have hb:2≤(if 100000<n+K9 x then 100000 else n+K9 x)∧(if 100000<n+K9 x then 100000 else n+K9 x)≤100000:=by split<;>omega);refine Ze ?_;(refine xL 23 Zb (xL 24 Zb (xL 25 ZK (xL 26 Zjq (xL 3 Za ?_))))<;>refine Zk ?_)
 (refine xL 27 ZK (xL 10 Zb ?_)<;>refine Zc ?_)
 first
  | (exact Zn (
      ⟨(i+1,if 100000<n*K9 x then 100000 else n*K9 x),Zh hx,hb.1,hb.2,hq⟩
      ) (by dsimp only;omega) ⟨rfl,rfl,rfl,rfl,rfl,trivial⟩ ⟨rfl,trivial⟩)
  | (exact Zn (
      ⟨(i+1,if 100000<n+K9 x then 100000 else n+K9 x),Zh hx,hb.1,hb.2,hq⟩
      ) (by dsimp only;omega) ⟨rfl,rfl,rfl,rfl,rfl,trivial⟩ ⟨rfl,trivial⟩)))
 · first|exact bN hb11|(
 rw [Vs (show l.length≤i by omega),HA] at hq;refine Ze ?_;(refine xL 28 Zb (xL 2 Za ?_)<;>refine Zc ?_)
 refine ZA (results47) rfl ?_;rw [K9,←hq])
def Znz (t:Nd):Bool:=decide (14≤ON t 14 1)||decide (200<K9 t)
theorem ZeJ (t:Nd) (hf:FitT t):AF prog 46 [pTr t] (· =ZN (Znz t)):=by
 have e0:pTr t= .agg [pInt t.op,Yv t.act,Wl t.l]:=rfl
 have hC:=Zga t hf 14 1 dC dC dC dC
 have hW:=ZeI t hf
 rw [e0] at hC hW ⊢
 refine AF.of_body 11 func46 rfl ntmps46 (Xa rfl) ?_
 intro w0 M0 vs hl hv
 obtain ⟨v0,rfl⟩:=WE hl
 clear hl hv
 refine Ze ?_
 (refine ZB 1 3 fun h1=>?_<;>refine xL 2 Za ?_<;>refine Zk ?_)
 ((refine yL 3 (Zs 1 K8) fun v3 h=>?_;cases h)<;>(refine cS 4 (cA call27 (hC)) fun v4 h=>?_;cases h)<;>refine xL 5 Ww (xL 6 Zb ?_)<;>(refine bLd 6 (fun hb6=>?_) (fun hb6=>?_)<;>(first|refine kL 7 ?_|(refine yL 7 (Zs 1 K8) fun v7 h=>?_;cases h)))<;>(first|refine kL 8 ?_|(refine cS 8 (cA call47 (hW)) fun v8 h=>?_;cases h))<;>(first|refine kL 9 ?_|refine xL 9 Yz ?_)<;>refine xL 10 ZG (xL 2 Za ?_)<;>refine Zc ?_)<;>(
 refine ZA (results46) rfl ?_;unfold Znz
 first|(rw [show decide (14≤ON t 14 1)=true from hb6];rfl)|(rw [show decide (14≤ON t 14 1)=false from hb6];rfl)|(rw [UR hb6];rfl)|(rw [US hb6];rfl))
theorem Zgb (l:List Nd) (hl:l.length≤1000) (hf:∀t∈l,FitT t):AF prog 11 [Wl l] (· =ZN (!l.any Znz)):=by
 refine AF.of_body 6 func11 rfl ntmps11 (Xa rfl) ?_
 intro w0 M0 vs hl hv
 obtain ⟨v0,rfl⟩:=WE hl
 clear hl hv
 refine Ze ?_
 (refine xL 2 Za ?_<;>refine Zk ?_)
 (refine xL 3 Zb ?_<;>(refine cS 4 (cA call45 (CZ 46 Znz l oM (call46) (fun t ht=>ZeJ t (hf t ht)))) fun v4 h=>?_;cases h)<;>refine xL 5 Z' (xL 2 Za ?_)<;>refine Zc ?_)
 exact ZA results11 rfl rfl
theorem Gt:AggT prog 24 3=true:=by kernel_rfl
theorem ZiT:ElT prog 22 24 3 48 (.agg #[(.int .i64 0),(.string ByteArray.empty),(.slice none 0 0)]):=⟨underlying22,by kernel_rfl,rfl,dC⟩
theorem ZnA {a b:Nd} (ha:FitT a) (hb:FitT b):∀t∈[a,b],FitT t:=fun t ht=>by
 rcases Xt.1 ht with rfl|ht
 · exact ha
 · rw [Xi.1 ht];exact hb
set_option maxHeartbeats 2000000 in
theorem HB (a b:Nd) (hfa:FitT a) (hfb:FitT b):AF prog 3 [pTr a,pTr b] (· =ZN true):=by
 have ea:pTr a= .agg [pInt a.op,Yv a.act,Wl a.l]:=rfl
 have eb:pTr b= .agg [pInt b.op,Yv b.act,Wl b.l]:=rfl
 have hP:=Rm a b hfa hfb
 have hR:=Hz a b hfa hfb
 have hS:=Zgb [a,b] (show 2≤1000 by decide) (ZnA hfa hfb)
 generalize eqTX a b=r at hP hR
 obtain ⟨s,v,e⟩:=r
 dsimp only at hP hR
 rw [ea,eb] at hP hR ⊢
 refine AF.of_body 48 func3 rfl ntmps3 (Xa rfl) ?_
 intro w0 M0 vs hl hv
 obtain ⟨v0,v1,rfl⟩:=YX hl
 clear hl hv
 refine Ze ?_
 (refine ZB 2 3 fun h2=>?_<;>refine ZB 3 3 fun h3=>?_<;>refine xL 4 Za ?_<;>refine Zk ?_)
 ((refine cS 11 (cA call10 (CY)) fun v11 h=>?_;cases h)<;>refine xL (v:= .bool false) (p:= .val (.bool false)) 12 (Z' (b:=true)) ?_<;>refine xL 13 Zb ?_<;>(refine yL 14 (Zs 2 Gt) fun v14 h=>?_;cases h)<;>(refine yL 15 (Zs 3 Gt) fun v15 h=>?_;cases h)<;>(refine OY (kk:=3) (xs:=[_,_]) (cs:=[[_,_,_],[_,_,_]]) 16 ZiT fun h16 ho16=>?_;refine Zu (En.freeze (l:=16) (t:=16) rfl rfl) fun _=>?_;refine Zu (Wg (t:=16) (p':=Wl [a,b]) rfl (Eq.trans (show _=PV.sl 2 (cN a++cN b) from rfl) (Rn a b))) fun _=>?_)<;>(refine cS 17 (cA call11 (hS)) fun v17 h=>?_;cases h)<;>refine xL 18 Z' (xL 19 ZG ?_)<;>refine Zc ?_)<;>(
 refine cX ?_ ?_<;>intro hb19
 · first|exact bN hb19|(
 refine Ze ?_;((refine cS 20 (cA call10 (CY)) fun v20 h=>?_;cases h)<;>refine xL 4 Za ?_<;>refine Zc ?_)
 exact ZA (Tryz.results3) rfl rfl)
 · first|exact bN hb19|(
 refine Ze ?_;((refine yL 22 (Zs 2 Gt) fun v22 h=>?_;cases h)<;>(refine yL 23 (Zs 3 Gt) fun v23 h=>?_;cases h)<;>(refine C1 24 (cA (call12) hP) (fun va24 vb24 vc24 hva24 hvb24 hvc24=>?_);cases hva24;cases hvc24)<;>refine xL 21 Zb (xL 25 Zi (xL 26 Zi (xL 27 Zi (xL 5 Za (xL 6 Za (xL 7 Za ?_))))))<;>refine Zk ?_)
 ((refine yL 29 (Zs 2 Gt) fun v29 h=>?_;cases h)<;>(refine yL 30 (Zs 3 Gt) fun v30 h=>?_;cases h)<;>(refine C1 31 (cA (call13) hR) (fun va31 vb31 vc31 hva31 hvb31 hvc31=>?_);cases hva31;cases hvc31)<;>refine xL 28 Zb (xL 32 Zi (xL 33 Zi (xL 34 Zi (xL 8 Za (xL 9 Za (xL 10 Za ?_))))))<;>refine Zk ?_)
 (refine xL 35 Zb (xL 36 Zb (xL 37 (Zi5 underlying4) (xL 38 Zb ?_)))<;>(refine bLd 38 (fun hb38=>?_) (fun hb38=>?_)<;>(first|refine kL 39 ?_|refine xL 39 Zb ?_))<;>(first|refine kL 40 ?_|refine xL 40 Zb ?_)<;>(first|refine kL 41 ?_|(refine cS 41 (cA call14 (Ho v)) fun v41 h=>?_;cases h))<;>refine xL 42 ZG (xL 43 Zb ?_)<;>(first|refine kL 44 ?_|refine xL 44 Zb ?_)<;>(first|refine kL 45 ?_|refine xL 45 Zb ?_)<;>(first|refine kL 46 ?_|refine xL 46 Ze1 ?_)<;>refine xL 47 ZG (xL 4 Za ?_)<;>refine Zc ?_)<;>(
 first|exact ZA (Tryz.results3) rfl rfl|(exfalso;simp at hb38;done)|(exfalso;simp at hb43;done))))
end Go.Proofs.YtgfabnhpllkebaaGreatDoor
