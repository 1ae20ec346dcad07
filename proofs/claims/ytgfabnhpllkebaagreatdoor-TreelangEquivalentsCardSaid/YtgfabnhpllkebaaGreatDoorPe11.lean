/-
  Walks of functions and plain laws of the chapter, as the claim needs them.
-/
import Derived.Test.YtgfabnhpllkebaaGreatDoorPe10
import Derived.Test.YtgfabnhpllkebaaGreatDoorPe09
import Derived.Test.YtgfabnhpllkebaaGreatDoorPe04
import Derived.Test.YtgfabnhpllkebaaGreatDoorPe05
import Derived.Test.YtgfabnhpllkebaaGreatDoorPe06
import Derived.Test.YtgfabnhpllkebaaGreatDoorPe08
import Derived.Test.YtgfabnhpllkebaaGreatDoorPe01
namespace Go.Proofs.YtgfabnhpllkebaaGreatDoor
open Go.RowKit Go.Cb Go.En Tryz
set_option linter.all false
set_option maxRecDepth 100000
theorem GN (l:List Int):(l.map pInt).all En.one=true:=by rw [XA];intro p hp;obtain ⟨z,_,rfl⟩:=Xl.1 hp;rfl
theorem JP (l:List Int):(l.map pInt).length=l.length*1:=by rw [Xe,Xp]
theorem TJ (e:Nat) (l m:List Int):PV.own e 1 (l.length+m.length) (l.map pInt++m.map pInt)= .own e 1 (l++m).length ((l++m).map pInt):=by rw [Xs,Xb]
theorem Jv {a b:Aut} (h:Wt a b=0):VOk a∧VOk b∧a.syms=b.syms:=by
 obtain ⟨h1,h2,h3⟩:=Rc h
 exact ⟨W3 h1,W3 h2,h3⟩
theorem ZfU (a b:Aut) (e:Int) (he:¬e=0) (hf:AF prog 120 [ZJ a,ZJ b] (· =pInt e)):AF prog 88 [ZJ a,ZJ b] (· = .tup [KR,pInt e]):=by
 refine AF.of_body 42 func88 rfl ntmps88 (Xa rfl) ?_
 intro w0 M0 vs hl hv
 obtain ⟨v0,v1,rfl⟩:=YX hl
 clear hl hv
 refine Ze ?_
 (refine ZB 2 5 fun h2=>?_<;>refine ZB 3 5 fun h3=>?_<;>refine Zv [(.int .i64 0),(.int .i64 0),(.slice none 0 0),(.slice none 0 0),(.slice none 0 0)] 5 4 ZI fun h4=>?_<;>refine xL 5 Za ?_<;>refine Zk ?_)
 ((refine yL 8 (Zs 2 Zf) fun v8 h=>?_;cases h)<;>(refine yL 9 (Zs 3 Zf) fun v9 h=>?_;cases h)<;>(refine cS 10 (cA call120 (hf)) fun v10 h=>?_;cases h)<;>refine xL 6 Za ?_<;>refine Zk ?_)
 (refine xL 11 Zb (xL 12 Yn ?_)<;>refine Zc ?_)
 refine cX ?_ ?_<;>intro hb12
 · refine Ze ?_;(refine xL 13 (ZO ZX) (xL 14 Zb ?_)<;>refine Zz 4 Zf ?_<;>refine xL 5 Za ?_<;>refine Zc ?_)
   exact Z8 (k:=5) 4 kR (results88) rfl rfl rfl (Xa rfl) dC rfl rfl
 · exact UV (by simpa using hb12) he
set_option maxHeartbeats 2000000 in
theorem Zk4 (a b:Aut) (hf0:Wt a b=0) {p0 p1 p2 p3 p4:PV} {E:Int} (r5:R5 p0 p1 p2 p3 p4) (hr:AF prog 132 [ZJ (mkA (Kh a b))] (· = .tup [.agg [p0,p1,p2,p3,p4],pInt E])):AF prog 88 [ZJ a,ZJ b] (· = .tup [.agg [p0,p1,p2,p3,p4],pInt E]):=by
 obtain ⟨o0,o1,o2,o3,o4⟩:=r5.o
 obtain ⟨ha,hb,hs⟩:=Jv hf0
 have hf:=PK a b
 rw [hf0] at hf
 have hn0:=ha.n0
 have hn1:=ha.n1
 have k1:=ha.sl
 have k2:=hb.sl
 have k3:=ha.fl
 have k4:=hb.fl
 have m1:=hb.n1
 have kml:=RP ha.toAOk hb.toAOk
 have l1:=K4 a.n b.start
 have l2:=K4 a.n b.fin
 refine AF.of_body 42 func88 rfl ntmps88 (Xa rfl) ?_
 intro w0 M0 vs hl hv
 obtain ⟨v0,v1,rfl⟩:=YX hl
 clear hl hv
 refine Ze ?_
 (refine ZB 2 5 fun h2=>?_<;>refine ZB 3 5 fun h3=>?_<;>refine Zv [(.int .i64 0),(.int .i64 0),(.slice none 0 0),(.slice none 0 0),(.slice none 0 0)] 5 4 ZI fun h4=>?_<;>refine xL 5 Za ?_<;>refine Zk ?_)
 ((refine yL 8 (Zs 2 Zf) fun v8 h=>?_;cases h)<;>(refine yL 9 (Zs 3 Zf) fun v9 h=>?_;cases h)<;>(refine cS 10 (cA call120 (hf)) fun v10 h=>?_;cases h)<;>refine xL 6 Za ?_<;>refine Zk ?_)
 (refine xL 11 Zb (xL 12 Yn ?_)<;>refine Zc ?_)
 refine cX ?_ ?_<;>intro hb12
 · first|omega|exact UV rfl hb12|exact bN hb12
 · refine Ze ?_;((refine yL 15 (Zs 2 Zf) fun v15 h=>?_;cases h)<;>(refine yL 16 (Zs 3 Zf) fun v16 h=>?_;cases h)<;>(refine J3 [2,3,4] 17 (call134) (Zam a b ha.toAOk hb.toAOk _ _) ?_;rintro V17 _ _ ⟨hM,hMo,rfl,rfl⟩;have qM:En.one (PV.val hM)=true:=hMo)<;>refine Zv [(.int .i64 0),(.int .i64 0),(.slice none 0 0),(.slice none 0 0),(.slice none 0 0)] 5 7 ZI fun h7=>?_<;>refine Zz 7 Zf ?_<;>refine Zc ?_)
   (refine ZZ (fun i=>([]:List Nat).elem i) [2,3] kR ?_<;>refine xD 0 18 rfl (Zd 2 Z9) ?_<;>(refine yD 1 19 rfl (Zl 2 Zy) fun v19 h=>?_;cases h)<;>refine xD 3 21 rfl (Zd 3 Z9) ?_<;>(refine yD 4 22 rfl (Zl 3 Zy) fun v22 h=>?_;cases h)<;>refine xD 5 23 rfl (Zd 2 ZS) ?_<;>(refine yD 6 24 rfl (Zl 2 Zg) fun v24 h=>?_;cases h)<;>(refine Zp 2 kR ?_)<;>(refine Zm rfl fun w9 M9 N9 DQ back=>?_)<;>refine cO 20 (cA call135 (JE a.start oM)) fun v20 ho20=>?_<;>refine Zj (back _ (nrm ?_))<;>(refine Zp 7 kR ?_)<;>(refine Zm rfl fun w9 M9 N9 DQ back=>?_)<;>(refine cO 25 (cA call136 (LJ b.start a.n oM oM (fun x hx=>by have:=hb.st x hx;omega))) fun v25 ho25=>?_;refine Zu (En.freeze (l:=25) (t:=25) rfl rfl) fun _=>?_;rw [ZV _ _ _ rfl])<;>refine Zj (back _ (nrm ?_))<;>(refine Zp 8 kR ?_)<;>(refine Zm rfl fun w9 M9 N9 DQ back=>?_)<;>(refine W2 20 26 Zo (fun h26 ho26=>?_) (JP (Y5 a.n b.start)) (GN (Y5 a.n b.start));have q26:En.one (PV.val h26)=true:=ho26)<;>refine Zj (back _ (nrm ?_))<;>refine xE 9 27 rfl (Zd 7 Z9) ?_<;>(refine Zp 10 kR ?_)<;>(refine Zm rfl fun w9 M9 N9 DQ back=>?_)<;>refine YQ 7 Zy Wo ?_<;>refine Zj (back _ (nrm ?_))<;>refine YC kR (nav ?_)<;>try dsimp only)
   refine Zq (ZF (l:=26) rfl (TJ _ a.start (Y5 a.n b.start))) fun _=>?_;refine Zq (Z7 (l:=7) (l':=26) (j:=2) rfl rfl rfl rfl) fun _=>?_;rw [ZV _ _ _ rfl];(refine ZZ (fun i=>([]:List Nat).elem i) [2,3] kR ?_<;>refine xD 0 28 rfl (Zd 2 Z2) ?_<;>(refine yD 1 29 rfl (Zl 2 Zy) fun v29 h=>?_;cases h)<;>refine xD 3 31 rfl (Zd 3 Z2) ?_<;>(refine yD 4 32 rfl (Zl 3 Zy) fun v32 h=>?_;cases h)<;>refine xD 5 33 rfl (Zd 2 ZS) ?_<;>(refine yD 6 34 rfl (Zl 2 Zg) fun v34 h=>?_;cases h)<;>(refine Zp 2 kR ?_)<;>(refine Zm rfl fun w9 M9 N9 DQ back=>?_)<;>refine cO 30 (cA call135 (JE a.fin oM)) fun v30 ho30=>?_<;>refine Zj (back _ (nrm ?_))<;>(refine Zp 7 kR ?_)<;>(refine Zm rfl fun w9 M9 N9 DQ back=>?_)<;>(refine cO 35 (cA call136 (LJ b.fin a.n oM oM (fun x hx=>by have:=hb.fi x hx;omega))) fun v35 ho35=>?_;refine Zu (En.freeze (l:=35) (t:=35) rfl rfl) fun _=>?_;rw [ZV _ _ _ rfl])<;>refine Zj (back _ (nrm ?_))<;>(refine Zp 8 kR ?_)<;>(refine Zm rfl fun w9 M9 N9 DQ back=>?_)<;>(refine W2 30 36 Zo (fun h36 ho36=>?_) (JP (Y5 a.n b.fin)) (GN (Y5 a.n b.fin));have q36:En.one (PV.val h36)=true:=ho36)<;>refine Zj (back _ (nrm ?_))<;>refine xE 9 37 rfl (Zd 7 Z2) ?_<;>(refine Zp 10 kR ?_)<;>(refine Zm rfl fun w9 M9 N9 DQ back=>?_)<;>refine YQ 7 Zy Wo ?_<;>refine Zj (back _ (nrm ?_))<;>refine YC kR (nav ?_)<;>try dsimp only)
   refine Zq (ZF (l:=36) rfl (TJ _ a.fin (Y5 a.n b.fin))) fun _=>?_;refine Zq (Z7 (l:=7) (l':=36) (j:=3) rfl rfl rfl rfl) fun _=>?_;rw [ZV _ _ _ rfl];(refine Zt ?_<;>(refine yL 38 (Zs (k:=5) (ps:=[pInt (a.n+b.n),pInt a.syms,pInts (a.start++Y5 a.n b.start),pInts (a.fin++Y5 a.n b.fin),PV.val hM]) 7 kR) fun v38 h=>?_;cases h)<;>(refine WY [(1000,hM,PV.own 93 3 (Kh a b).moves.length ((Kh a b).moves.flatMap cMv)),(2,_,_),(3,_,_),(4,_,_),(7,_,_)] ⟨rfl,rfl,rfl,rfl,rfl,trivial⟩ ?_;refine J3 [2,3,4,7] 39 (call137) (Zbr (Kh a b) (by show (bsM a b).length≤1000000;omega) (E1 ha hb) _ hM hMo r5 hr) ?_;rintro _ _ _ ⟨⟨V1,rfl⟩,rfl,rfl⟩)<;>refine xL 40 Zi (xL 41 Zi ?_)<;>refine Zz 4 Zf ?_<;>refine xL 5 Za ?_<;>refine Zc ?_)
   exact Z8 (k:=5) 4 kR (results88) rfl rfl rfl (Xa rfl) dC r5.s rfl
theorem Zk5 (a b:Aut):AF prog 88 [ZJ a,ZJ b] (· =resW (Gj a b)):=by
 unfold Gj
 by_cases h0:Wt a b=0
 · rw [UT (fun h=>h h0)];obtain ⟨ha,hb,hs⟩:=Jv h0;obtain ⟨p0,p1,p2,p3,p4,E,h5,h2,hr⟩:=T' (Kh a b) (by have:=RP ha.toAOk hb.toAOk;show (bsM a b).length≤1000000;omega) (RA ha hb hs);rw [h2];exact Zk4 a b h0 h5 hr
 · rw [UU h0];exact ZfU a b _ h0 (PK a b)
def ctM (a b:Aut) (i:Nat):List Mv:=bsM a b++S3 a.n (a.fin.take i) b.start
theorem Cx (a b:Aut):ctM a b 0=bsM a b:=by show bsM a b++[]=bsM a b;rw [Xr]
theorem ZdS {a b:Aut} {i:Nat} {f:Int} (h:a.fin[i]? =some f):ctM a b (i+1)=ctM a b i++J8 a.n f b.start:=by unfold ctM;rw [ZhV a.n b.start h,Xu]
theorem ZgS (a b:Aut) {i:Nat} (h:a.fin.length≤i):ctM a b i=(Ku a b).moves:=by unfold ctM;rw [Xj h];rfl
theorem ZgT {a b:Aut} {i j:Nat} (f:Int) (hi:i<a.fin.length) (hj:j≤b.start.length):(ctM a b i++J8 a.n f (b.start.take j)).length≤(Ku a b).moves.length:=by
 rw [Ov]
 unfold ctM bsM
 rw [Xb,Xb,Xb,Lz,EZ,Xn]
 unfold J8
 rw [Xe,Xn]
 have h1:(i+1)*b.start.length≤a.fin.length*b.start.length:=Vu _ hi
 rw [X6] at h1
 rw [X5 (Nat.le_of_lt hi),X5 hj]
 omega
theorem ZdT (a b:Aut) (e:Int) (he:¬e=0) (hf:AF prog 120 [ZJ a,ZJ b] (· =pInt e)):AF prog 87 [ZJ a,ZJ b] (· = .tup [KR,pInt e]):=by
 refine AF.of_body 68 func87 rfl ntmps87 (Xa rfl) ?_
 intro w0 M0 vs hl hv
 obtain ⟨v0,v1,rfl⟩:=YX hl
 clear hl hv
 refine Ze ?_
 (refine ZB 2 5 fun h2=>?_<;>refine ZB 3 5 fun h3=>?_<;>refine Zv [(.int .i64 0),(.int .i64 0),(.slice none 0 0),(.slice none 0 0),(.slice none 0 0)] 5 4 ZI fun h4=>?_<;>refine xL 5 Za ?_<;>refine Zk ?_)
 ((refine yL 12 (Zs 2 Zf) fun v12 h=>?_;cases h)<;>(refine yL 13 (Zs 3 Zf) fun v13 h=>?_;cases h)<;>(refine cS 14 (cA call120 (hf)) fun v14 h=>?_;cases h)<;>refine xL 6 Za ?_<;>refine Zk ?_)
 (refine xL 15 Zb (xL 16 Yn ?_)<;>refine Zc ?_)
 refine cX ?_ ?_<;>intro hb16
 · refine Ze ?_;(refine xL 17 (ZO ZX) (xL 18 Zb ?_)<;>refine Zz 4 Zf ?_<;>refine xL 5 Za ?_<;>refine Zc ?_)
   exact Z8 (k:=5) 4 kR (results87) rfl rfl rfl (Xa rfl) dC rfl rfl
 · exact UV (by simpa using hb16) he
set_option maxHeartbeats 2000000 in
theorem Zap (a b:Aut) (hf0:Wt a b=0) {p0 p1 p2 p3 p4:PV} {E:Int} (r5:R5 p0 p1 p2 p3 p4) (hr:(Ku a b).moves.length≤40001→AF prog 132 [ZJ (mkA (Ku a b))] (· = .tup [.agg [p0,p1,p2,p3,p4],pInt E])):AF prog 87 [ZJ a,ZJ b] (fun p=>((Ku a b).moves.length≤40001∧p= .tup [.agg [p0,p1,p2,p3,p4],pInt E])∨(20000<(Ku a b).moves.length∧p= .tup [KR,pInt 13])):=by
 obtain ⟨o0,o1,o2,o3,o4⟩:=r5.o
 obtain ⟨ha,hb,hs⟩:=Jv hf0
 have hf:=PK a b
 rw [hf0] at hf
 have hn0:=ha.n0
 have hn1:=ha.n1
 have k1:=ha.sl
 have k2:=hb.sl
 have k3:=ha.fl
 have k4:=hb.fl
 have m1:=hb.n1
 have kml:=RP ha.toAOk hb.toAOk
 have l2:=K4 a.n b.fin
 refine AF.of_body 68 func87 rfl ntmps87 (Xa rfl) ?_
 intro w0 M0 vs hl hv
 obtain ⟨v0,v1,rfl⟩:=YX hl
 clear hl hv
 refine Ze ?_
 (refine ZB 2 5 fun h2=>?_<;>refine ZB 3 5 fun h3=>?_<;>refine Zv [(.int .i64 0),(.int .i64 0),(.slice none 0 0),(.slice none 0 0),(.slice none 0 0)] 5 4 ZI fun h4=>?_<;>refine xL 5 Za ?_<;>refine Zk ?_)
 ((refine yL 12 (Zs 2 Zf) fun v12 h=>?_;cases h)<;>(refine yL 13 (Zs 3 Zf) fun v13 h=>?_;cases h)<;>(refine cS 14 (cA call120 (hf)) fun v14 h=>?_;cases h)<;>refine xL 6 Za ?_<;>refine Zk ?_)
 (refine xL 15 Zb (xL 16 Yn ?_)<;>refine Zc ?_)
 refine cX ?_ ?_<;>intro hb16
 · first|omega|exact UV rfl hb16|exact bN hb16
 · refine Ze ?_;((refine yL 19 (Zs 2 Zf) fun v19 h=>?_;cases h)<;>(refine yL 20 (Zs 3 Zf) fun v20 h=>?_;cases h)<;>(refine J3 [2,3,4] 21 (call134) (Zam a b ha.toAOk hb.toAOk _ _) ?_;rintro V21 _ _ ⟨hM0,hM0o,rfl,rfl⟩;have qM:En.one (PV.val hM0)=true:=hM0o)<;>refine Zv [(.int .i64 0),(.int .i64 0),(.slice none 0 0),(.slice none 0 0),(.slice none 0 0)] 5 7 ZI fun h7=>?_<;>refine Zz 7 Zf ?_<;>refine Zc ?_)
   (refine ZZ (fun i=>([9,10,11]:List Nat).elem i) [2,3,7] kR ?_<;>refine xDT 0 22 rfl (Zd 2 Z9) ?_<;>(refine yDT 1 23 rfl (Zl 2 Zy) fun v23 h=>?_;cases h)<;>refine xDT 3 25 rfl (Zd 3 Z2) ?_<;>(refine yDT 4 26 rfl (Zl 3 Zy) fun v26 h=>?_;cases h)<;>refine xDT 5 27 rfl (Zd 2 ZS) ?_<;>(refine yDT 6 28 rfl (Zl 2 Zg) fun v28 h=>?_;cases h)<;>(refine Zp 2 kR ?_)<;>(refine Zm rfl fun w9 M9 N9 DQ back=>?_)<;>(refine cO 24 (cA call135 (JE a.start oM)) fun v24 ho24=>?_;refine Zu (En.freeze (l:=24) (t:=24) rfl rfl) fun _=>?_;rw [ZV _ _ _ rfl])<;>refine Zj (back _ (nrm ?_))<;>refine xDT 8 30 rfl (Zd 7 Z9) ?_<;>(refine Zp 7 kR ?_)<;>(refine Zm rfl fun w9 M9 N9 DQ back=>?_)<;>(refine cO 29 (cA call136 (LJ b.fin a.n oM oM (fun x hx=>by have:=hb.fi x hx;omega))) fun v29 ho29=>?_;refine Zu (En.freeze (l:=29) (t:=29) rfl rfl) fun _=>?_;rw [ZV _ _ _ rfl])<;>refine Zj (back _ (nrm ?_))<;>(refine Zp 9 kR ?_)<;>(refine Oa rfl rfl fun DQ back=>?_)<;>refine YQ 7 Zy Wo ?_<;>refine Zj (back _ ?_)<;>(refine G5 10 kR rfl rfl fun DQ back=>?_)<;>refine xL 31 (Zd 7 Z2) ?_<;>refine Zj (back _ ?_)<;>(refine G5 11 kR rfl rfl fun DQ back=>?_)<;>refine YQ 7 Zy Wo ?_<;>refine Zj (back _ ?_)<;>refine HQ kR (nav ?_)<;>try dsimp only)
   refine Zq (ZF (l:=1000) (p':= .own 93 3 (ctM a b 0).length ((ctM a b 0).flatMap cMv)) rfl (by rw [Cx])) fun _=>?_;(refine Zt ?_<;>refine xL 32 (Zd 2 Z2) ?_<;>(refine yL 33 (Zl 2 Zy) fun v33 h=>?_;cases h)<;>refine xL 34 (ZW Zr) (xL 35 Zb ?_)<;>refine Zc ?_)
   refine ZE (ι:={q:Nat×Value//q.1≤a.fin.length∧q.2.oneCell'=true∧(ctM a b q.1).length≤40001}) (fun k=>⟨[(2,_,_),(3,_,_),(4,_,_),(7,_,_),(33,_,_),(34,_,_),(35, .int .i64 k.1.1,pInt k.1.1)],[(2,_,_),(3,_,_),(4,_,_),(7,h7, .own 39 5 1 [pInt (a.n+b.n),pInt a.syms,pInts a.start,pInts (Y5 a.n b.fin), .val k.1.2]),(1000,k.1.2, .own 93 3 (ctM a b k.1.1).length ((ctM a b k.1.1).flatMap cMv))]⟩) (fun k=>a.fin.length-k.1.1) ⟨(0,hM0),Xd _,hM0o,by show (ctM a b 0).length≤40001;rw [Cx];omega⟩ (fun a w H=>H.weaken ⟨rfl,rfl,rfl,rfl,rfl,rfl,rfl,trivial⟩ ⟨rfl,rfl,rfl,rfl,rfl,trivial⟩) ?_;rintro ⟨⟨i,hI⟩,hi,hIo,hIl⟩;dsimp only;dsimp only at hi hIo hIl;have q5:En.one (PV.val hI)=true:=hIo;refine Ze ?_;(refine xL 36 ZQ ?_<;>refine Zc ?_)
   refine cX ?_ ?_<;>intro hb36
   · first | exact bN hb36|(
 obtain ⟨f,hf⟩:=Zw (show i<a.fin.length by omega);have e1:=Yb (f:=pInt) hf;have hfin:=ha.fi f (Xc hf);refine Ze ?_;(refine xL 37 (ZH Zr) ?_<;>(refine yL 38 (Ya Zg) fun v38 h=>?_;cases h)<;>refine xL 9 Za ?_<;>refine Zk ?_)
 (refine xL 39 (Zd 3 Z9) ?_<;>(refine yL 40 (Zl 3 Zy) fun v40 h=>?_;cases h)<;>refine xL 41 (ZW Zr) (xL 42 Zb ?_)<;>refine Zc ?_)
 refine Zq (ZF (l:=1000) (p':= .own 93 3 (ctM a b i++J8 a.n f (b.start.take 0)).length ((ctM a b i++J8 a.n f (b.start.take 0)).flatMap cMv)) rfl (by rw [show J8 a.n f (b.start.take 0)=[] from rfl,Xr])) fun _=>?_;refine ZE (ι:={q:Nat×Value//q.1≤b.start.length∧q.2.oneCell'=true∧(ctM a b i++J8 a.n f (b.start.take q.1)).length≤40001}) (fun k=>⟨[(2,_,_),(3,_,_),(4,_,_),(7,_,_),(9,_,_),(33,_,_),(34,_,_),(35,_,_),(40,_,_),(41,_,_),(42, .int .i64 k.1.1,pInt k.1.1)],[(2,_,_),(3,_,_),(4,_,_),(7,h7, .own 39 5 1 [pInt (a.n+b.n),pInt a.syms,pInts a.start,pInts (Y5 a.n b.fin), .val k.1.2]),(1000,k.1.2, .own 93 3 (ctM a b i++J8 a.n f (b.start.take k.1.1)).length ((ctM a b i++J8 a.n f (b.start.take k.1.1)).flatMap cMv))]⟩) (fun k=>b.start.length-k.1.1) ⟨(0,hI),Xd _,hIo,by show (ctM a b i++[]).length≤40001;rw [Xr];exact hIl⟩ (fun a w H=>H.weaken ⟨rfl,rfl,rfl,rfl,rfl,rfl,rfl,rfl,rfl,rfl,rfl,trivial⟩ ⟨rfl,rfl,rfl,rfl,rfl,trivial⟩) ?_;rintro ⟨⟨j,hJ⟩,hj,hJo,hJl⟩;dsimp only;dsimp only at hj hJo hJl;have q6:En.one (PV.val hJ)=true:=hJo;refine Ze ?_;(refine xL 43 ZQ ?_<;>refine Zc ?_)
 refine cX ?_ ?_<;>intro hb43
 · first |exact bN hb43|(
 obtain ⟨s,hs⟩:=Zw (show j<b.start.length by omega);have e2:=Yb (f:=pInt) hs;have hsin:=hb.st s (Xc hs);have hpart:=ZgT f (by omega:i<a.fin.length) hj;refine Ze ?_;(refine xL 44 (ZH Zr) ?_<;>(refine yL 45 (Ya Zg) fun v45 h=>?_;cases h)<;>refine xL 11 Za ?_<;>refine Zk ?_)
 (refine xL 46 (Zd 7 Zx) ?_<;>(refine yL 47 (Zl 7 ZC) fun v47 h=>?_;cases h)<;>refine xL 48 (YH 1000 ZL) (xL 49 Yz ?_)<;>refine Zc ?_)
 refine cX ?_ ?_<;>intro hb49
 · first|exact bN hb49|(
 refine Ze ?_;(refine xL 50 (ZO ZX) ?_<;>refine Zz 4 Zf ?_<;>refine xL 5 Za ?_<;>refine Zc ?_)
 exact Z8 (k:=5) 4 kR (results87) rfl rfl rfl (Xa rfl) dC rfl (.inr ⟨oM,rfl⟩))
 · first|exact bN hb49|(
 refine Ze ?_;(refine xL 51 (Zd 7 Zx) ?_<;>(refine yL 52 (Zl 7 ZC) fun v52 h=>?_;cases h)<;>refine xL 53 Zb (xL 54 Zb (xL 55 (Zd 2 ZS) ?_))<;>(refine yL 56 (Zl 2 Zg) fun v56 h=>?_;cases h)<;>refine xL 57 ZK (xL 58 (ZO YW) ?_)<;>refine YI 59 ZU fun h59 ho59=>?_<;>(refine ZY 1000 59 60 ZU fun h60 ho60=>?_;refine Zu (ZD (l:=60) 1000 rfl rfl) fun _=>?_;refine Zu (ZF (l:=1000) rfl ((WZ _ (ctM a b i++J8 a.n f (b.start.take j)) ⟨f,s+a.n,-1⟩).trans (by rw [Xu,←Da a.n f hs]))) fun _=>?_;have q60:En.one (PV.val h60)=true:=ho60)<;>refine xL 61 (Zd 7 Zx) ?_<;>refine YQ 7 ZC YK ?_<;>refine Zk ?_)
 (refine xL 62 ZK (xL 42 Zb ?_)<;>refine Zc ?_)
 (have hl3:(ctM a b i++J8 a.n f (b.start.take (j+1))).length≤40001:=by rw [Da a.n f hs,←Xu,Xb,Xy];omega);refine Zn (
  ⟨(j+1,h60),Zh hs,ho60,hl3⟩
  ) (by dsimp only;omega) ⟨rfl,rfl,rfl,rfl,rfl,rfl,rfl,rfl,rfl,rfl,rfl,trivial⟩ ⟨rfl,rfl,rfl,rfl,rfl,trivial⟩))
 · first|exact bN hb43|(
 (have hctS:ctM a b i++J8 a.n f (b.start.take j)=ctM a b (i+1):=by rw [Xj (show b.start.length≤j by omega),ZdS hf]);rw [hctS] at hJl;refine Zq (ZF (l:=1000) (p':= .own 93 3 (ctM a b (i+1)).length ((ctM a b (i+1)).flatMap cMv)) rfl (by rw [hctS])) fun _=>?_;refine Ze ?_;(refine xL 63 ZK (xL 35 Zb ?_)<;>refine Zc ?_)
 refine Zn (
  ⟨(i+1,hJ),Zh hf,hJo,hJl⟩
  ) (by dsimp only;omega) ⟨rfl,rfl,rfl,rfl,rfl,rfl,rfl,trivial⟩ ⟨rfl,rfl,rfl,rfl,rfl,trivial⟩))
   · first|exact bN hb36|(
 have hctA:=ZgS a b (show a.fin.length≤i by omega);rw [hctA] at hIl;have hr:=hr hIl;refine Zq (ZF (l:=1000) (p':= .own 93 3 (Ku a b).moves.length ((Ku a b).moves.flatMap cMv)) rfl (by rw [hctA])) fun _=>?_;refine Ze ?_;((refine yL 64 (Zs (k:=5) (ps:=[pInt (a.n+b.n),pInt a.syms,pInts a.start,pInts (Y5 a.n b.fin),PV.val hI]) 7 kR) fun v64 h=>?_;cases h)<;>(refine WY [(1000,hI,PV.own 93 3 (Ku a b).moves.length ((Ku a b).moves.flatMap cMv)),(2,_,_),(3,_,_),(4,_,_),(7,_,_)] ⟨rfl,rfl,rfl,rfl,rfl,trivial⟩ ?_;refine J3 [2,3,4,7] 65 (call137) (Zbr (Ku a b) oM (ζW ha hb) _ hI hIo r5 hr) ?_;rintro _ _ _ ⟨⟨V1,rfl⟩,rfl,rfl⟩)<;>refine xL 66 Zi (xL 67 Zi ?_)<;>refine Zz 4 Zf ?_<;>refine xL 5 Za ?_<;>refine Zc ?_)
 exact Z8 (k:=5) 4 kR (results87) rfl rfl rfl (Xa rfl) dC r5.s (.inl ⟨hIl,rfl⟩))
theorem Do (a b:Aut):AF prog 87 [ZJ a,ZJ b] (· =resW (GK a b)):=by
 unfold GK
 by_cases h0:Wt a b=0
 · rw [UT (fun h=>h h0)];obtain ⟨ha,hb,hs⟩:=Jv h0;have h13:20000<(Ku a b).moves.length→Jo (Ku a b)= .error 13:=fun h=>by
    rw [Zdz ha hb hs,Zaa ha hb (.inr (by rw [←Ov];exact h))]
   rcases XD 40001 (Ku a b).moves.length with hl|hl
   · refine (Zap a b h0 R5.raw (E:=13) fun h=>oM).mono fun p hp=>?_;rw [h13 oM];rcases hp with ⟨h,_⟩|⟨_,h⟩
     · omega
     · exact h
   · obtain ⟨p0,p1,p2,p3,p4,E,h5,h2,hr⟩:=T' (Ku a b) oM (HZ ha hb hs);refine (Zap a b h0 h5 fun _=>hr).mono fun p hp=>?_;rcases hp with ⟨_,h⟩|⟨hl2,h⟩
     · rw [h2];exact h
     · rw [h13 hl2];exact h
 · rw [UU h0];exact ZdT a b _ h0 (PK a b)
theorem Zk6 (L:List Mv) (k:Nat) (x:Mv) (h:k<L.length):Sv (L.flatMap cMv) (k*3) (cMv x)=(L.set k x).flatMap cMv:=by
 have e:L=L.take k++[L[k]]++L.drop (k+1):=by
  rw [Xu,List.singleton_append,List.getElem_cons_drop,VF]
 have e2:L.set k x=L.take k++[x]++L.drop (k+1):=by
  rw [List.set_eq_take_append_cons_drop,UU h,Xu];rfl
 rw [e2]
 conv=>lhs;rw [e]
 simp only [XM,VS]
 exact Za2 (α:=Int) (cMv x) _ _ _ _ (by rw [flat_len Z5,Xn,X5 (Nat.le_of_lt h)]) rfl
theorem ZnP {x y:Mv} (h:¬GY x y<0):y=x∨Kj y x=true:=by
 rw [J6] at h
 cases h2:Kj y x with
 |true=>exact .inr rfl
 |false=>exact .inl (Om h2 (by simpa using h))
theorem ZoG {l:List Mv} (h:1≤l.length):mkM (l.take 1)=l.take 1:=by
 cases l with
 |nil=>simp at h
 |cons x l=>rfl
theorem ZgU {l:List Mv} {p:Nat} {x y:Mv} (hy:l[p]? =some y) (hx:l[p+1]? =some x) (he:eqM x y=true):mkM (l.take (p+1+1))=mkM (l.take (p+1)):=by
 have e:=Gy.1 he
 subst e
 refine SV (Kl _) (Kl _) fun z=>?_
 rw [Ke,Ke,ZR hx,Xq,Xi]
 exact ⟨fun h=>h.elim id fun h=>by subst h;rw [ZR hy];exact X7 _ (Xi.2 rfl), .inl⟩
theorem Zk7 {l:List Mv} (hs:Cc l) {p:Nat} {x y:Mv} (hy:l[p]? =some y) (hx:l[p+1]? =some x) (he:eqM x y=false):mkM (l.take (p+1+1))=mkM (l.take (p+1))++[x]:=by
 have hyx:Kj y x=true:=by
  rcases ZnP (hs p (p+1) y x oM hy hx) with h|h
  · subst h;rw [Gy.2 rfl] at he;cases he
  · exact h
 refine (O6 ?_ fun z=>?_).symm
 · refine Vk.2 ⟨Kl _,Vq ..,fun z hz w hw=>?_⟩;rw [Xi.1 hw];rw [Ke] at hz;obtain ⟨i,hi⟩:=XU hz;have hi':=Zh hi;rw [Xn] at hi';rw [XZ oM] at hi;by_cases e:i=p
   · subst e;rw [hi] at hy;cases hy;exact hyx
   · rcases ZnP (hs i p z y oM hi hy) with h|h
     · subst h;exact hyx
     · exact T6 h hyx
 · rw [Xq,Ke,Xi,ZR hx,Xq,Xi]
theorem Znb {hv:Value} (h:hv.oneCell'=true) (i j k:Nat):(slc hv i j k).oneCell'=true:=by
 unfold slc;split
 · rfl
 · exact h
set_option maxHeartbeats 2000000 in
theorem ZdU (l : List Mv) (hl:l.length≤1000000) (hs:Cc l) (hv:Value) (hvo:hv.oneCell'=true):AFh False prog 189 [(0,hv, .val hv)] [(1000,hv, .own 93 3 l.length (l.flatMap cMv))] (fun v q h=>v.oneCell'=true∧q= .val v∧h=[(1000,v, .own 93 3 (mkM l).length ((mkM l).flatMap cMv))]):=by
 refine AFh.of_body 61 func189 rfl ntmps189 (Xa rfl) rfl ?_
 intro w0 M0 N0
 refine Ze ?_
 (refine xL 2 Za ?_<;>refine Zk ?_)
 (refine xL 6 Zb (xL 7 (YH 1000 ZL) (xL 8 ZQ ?_))<;>refine Zc ?_)
 refine cX ?_ ?_<;>intro hb8
 · first|exact bN hb8|(
 refine Ze ?_;(refine xL 9 Zb (xL 2 Za ?_)<;>refine Zc ?_)
 refine Em [(1000,hv,PV.own 93 3 l.length (l.flatMap cMv))] (results189) rfl ⟨rfl,trivial⟩ ⟨hvo,rfl,?_⟩;have hm:mkM l=l:=by
  match l,hl,hb8 with
  |[],_,_=>rfl
  |[_],_,_=>rfl
  |_::_::_,_,h=>simp at h;omega
 rw [hm])
 · first | exact bN hb8|(
 refine Ze ?_;(refine xL 3 Za ?_<;>refine Zc ?_)
 refine ZE (ι:={k:Nat//1≤k∧k≤l.length∧mkM (l.take k)=l.take k}) (fun k=>⟨[(0,_,_),(3, .int .i64 k.1,pInt k.1)],[(1000,_,_)]⟩) (fun k=>l.length-k.1) ⟨1,Xh _,oM,ZoG oM⟩ (fun a w H=>H.weaken ⟨rfl,rfl,trivial⟩ ⟨rfl,trivial⟩) ?_;rintro ⟨k1,hk1,hk,hmk⟩;dsimp only;obtain ⟨k,rfl⟩:∃k,k1=k+1:=⟨k1-1,oM⟩;refine Ze ?_;(refine xL 10 Zb (xL 11 Zb (xL 12 (YH 1000 ZL) (xL 13 ZQ ?_)))<;>refine Zc ?_)
 refine cX ?_ ?_<;>intro hb13
 · first | exact bN hb13|(
 obtain ⟨x,hx⟩:=Zw (show k+1<l.length by omega);obtain ⟨y,hy⟩:=Zw (show k<l.length by omega);have e1:=Yt Z5 l (k+1) x hx;have e2:=YV Z5 hx;(have e3:((l.flatMap cMv).drop ((((k+1:Nat):Int)-1).toNat*3)).take 3=cMv y:=by rw [show (((k+1:Nat):Int)-1).toNat*3=k*3 by omega];exact Yt Z5 l k y hy);have e4:=YV Z5 hy;have hlt:k+1<l.length:=Zh hx;refine nav ?_;(refine ZZ (fun i=>([]:List Nat).elem i) [1000] kR ?_<;>refine xD 0 16 rfl Zb ?_<;>refine xD 1 17 rfl Zb ?_<;>refine xD 2 18 rfl (Yg 1000 ZL) ?_<;>(refine yD 3 19 rfl (Zs 1000 Z3) fun v19 h=>?_;cases h)<;>refine xD 4 20 rfl Zb ?_<;>refine xE 5 21 rfl Zb ?_<;>refine xE 6 22 rfl KM ?_<;>refine xE 7 23 rfl (Kg 1000 ZL) ?_<;>(refine yE 8 24 rfl (Zs 1000 Z3) fun v24 h=>?_;cases h)<;>refine xE 9 25 rfl ((Zjn (us:=vMv x) (us':=vMv y) ZmB ZmC ZmD (RF x y) rfl rfl)) ?_<;>refine YC kR (nav ?_)<;>try dsimp only)
 refine cX ?_ ?_<;>intro hb25
 · first | exact bN hb25|(
 have hsm:=ZgU hy hx (by simpa using hb25);(have hl1:(mkM (l.take (k+1+1))).length=k+1:=by rw [hsm,hmk,Xn];omega);refine Ze ?_;(refine xL 26 Zb (xL 27 Zb ?_)<;>refine xL 28 (Ti (i:=k+1) (j:=l.length) 1000 ZL rfl rfl rfl rfl rfl (Nat.le_of_lt hlt) (Xh _)) ?_<;>refine xL 4 Za ?_<;>refine Zk ?_)
 (refine xL 5 Za ?_<;>refine Zc ?_)
 refine ZE (ι:={q:Nat×Nat×List Mv//1≤q.1∧k+1+q.1≤l.length∧q.2.1=(mkM (l.take (k+1+q.1))).length∧q.2.2.length=l.length∧q.2.2.take q.2.1=mkM (l.take (k+1+q.1))∧q.2.1≤k+q.1∧∀i,k+q.1≤i→q.2.2[i]? =l[i]? }) (fun k=>⟨[(0,_,_),(4,_,_),(3, .int .i64 k.1.2.1,pInt k.1.2.1),(5, .int .i64 k.1.1,pInt k.1.1)],[(1000,hv, .own 93 3 l.length (k.1.2.2.flatMap cMv))]⟩) (fun k=>l.length-k.1.1) ⟨(1,k+1,l),Xh _,by dsimp only;omega,hl1.symm,rfl,by dsimp only;rw [hsm,hmk],Xh _,fun i _=>rfl⟩ (fun a w H=>H.weaken ⟨rfl,rfl,rfl,rfl,trivial⟩ ⟨rfl,trivial⟩) ?_;rintro ⟨⟨j,K,L⟩,hj1,hj,hK,hLl,hLt,hKj,hLr⟩;dsimp only;dsimp only at hj1 hj hK hLl hLt hKj hLr;obtain ⟨j',rfl⟩:∃j',j=j'+1:=⟨j-1,oM⟩;have hK2:(K:Int)≤1000000:=oM;rw [show k+1+(j'+1)=k+1+j'+1 from rfl] at hK hLt;refine Ze ?_;(refine xL 29 Zb (xL 30 Zb ?_)<;>refine xL 31 ((Zhy (a:=k+1) (m:=l.length-(k+1)) 1000 ZL rfl rfl rfl rfl)) ?_<;>refine xL 32 ZQ ?_<;>refine Zc ?_)
 refine cX ?_ ?_<;>intro hb32
 · first | exact bN hb32|(
 obtain ⟨u,hu⟩:=Zw (show k+1+(j'+1)<l.length by omega);obtain ⟨v,hv2⟩:=Zw (show k+1+j'<l.length by omega);(have hu':L[k+1+(j'+1)]? =some u:=by rw [hLr _ oM];exact hu);(have hv':L[k+1+j']? =some v:=by rw [hLr _ oM];exact hv2);have g1:=Yt Z5 L _ u hu';have g2:=YV Z5 hu';have g3:=Yt Z5 L _ v hv';have g4:=YV Z5 hv';have g5:K<L.length:=oM;(have g6:K*3+3≤(L.flatMap cMv).length:=by rw [flat_len Z5];omega);refine nav ?_;(refine ZZ (fun i=>([]:List Nat).elem i) [1000] kR ?_<;>refine xD 0 35 rfl Zb ?_<;>refine xD 1 36 rfl Zb ?_<;>refine xD 2 37 rfl ((OZ (a:=k+1) (m:=(k+1+(j'+1))*3) 1000 ZL rfl rfl rfl rfl oM oM oM)) ?_<;>(refine yD 3 38 rfl (Zs 1000 Z3) fun v38 h=>?_;cases h)<;>refine xD 4 39 rfl Zb ?_<;>refine xE 5 40 rfl Zb ?_<;>refine xE 6 41 rfl KM ?_<;>refine xE 7 42 rfl ((OZ (a:=k+1) (m:=(k+1+j')*3) 1000 ZL rfl rfl rfl rfl oM oM oM)) ?_<;>(refine yE 8 43 rfl (Zs 1000 Z3) fun v43 h=>?_;cases h)<;>refine xE 9 44 rfl ((Zpf (us:=vMv u) (us':=vMv v) ZmB ZmC ZmD (RF u v) rfl rfl)) ?_<;>refine YC kR (nav ?_)<;>try dsimp only)
 refine cX ?_ ?_<;>intro hb44
 · first |exact bN hb44|(
 have hnw2:=Zk7 hs hv2 hu (by simpa using hb44);have hset:=Zk6 L K u g5;(have hlen2:K+1=(mkM (l.take (k+1+j'+1+1))).length:=by rw [hnw2,Xb,Xy,hK]);have htk2:(L.set K u).take (K+1)=mkM (l.take (k+1+j'+1+1)):=by
  rw [hnw2,←hLt,List.take_set,ZR (XY g5),List.set_append_right _ _ (by rw [Xn];omega),Xn,X5 oM,VZ];rfl
 refine Ze ?_;(refine xL 45 Zb (xL 46 Zb (xL 47 Zb (xL 48 Zb ?_)))<;>refine xL 49 ((OZ (a:=k+1) (m:=(k+1+(j'+1))*3) 1000 ZL rfl rfl rfl rfl oM oM oM)) ?_<;>(refine yL 50 (Zs 1000 Z3) fun v50 h=>?_;cases h)<;>refine xL 51 (Yg 1000 ZL) ?_<;>refine Zz 1000 Z3 ?_<;>refine Zk ?_)
 (refine xL 52 Zb (xL 53 ZK (xL 3 Za ?_))<;>refine Zk ?_)
 (refine xL 33 Zb (xL 34 ZK (xL 5 Za ?_))<;>refine Zc ?_)
 try rw [hset]
 first
  | (exact Zn (
      ⟨(j'+1+1,K+1,L.set K u),by dsimp only;omega,by dsimp only;omega,hlen2,by dsimp only;rw [Xv];exact hLl,htk2,by dsimp only;omega,fun i hi=>by dsimp only at hi ⊢;rw [Vi oM];exact hLr i oM⟩
      ) (by dsimp only;omega) ⟨rfl,rfl,rfl,rfl,trivial⟩ ⟨rfl,trivial⟩)
  | (exact Zn (
      ⟨(j'+1+1,K,L),by dsimp only;omega,by dsimp only;omega,hK.trans (by rw [show k+1+(j'+1+1)=k+1+j'+1+1 by omega,hsm2]),hLl,hLt.trans (by rw [show k+1+(j'+1+1)=k+1+j'+1+1 by omega,hsm2]),by dsimp only;omega,fun i hi=>hLr i (by dsimp only at hi;omega)⟩
      ) (by dsimp only;omega) ⟨rfl,rfl,rfl,rfl,trivial⟩ ⟨rfl,trivial⟩))
 · first |exact bN hb44|(
 have hsm2:=ZgU hv2 hu (by simpa using hb44);refine Ze ?_;(refine xL 33 Zb (xL 34 ZK (xL 5 Za ?_))<;>refine Zc ?_)
 try rw [hset]
 first
  | (exact Zn (
      ⟨(j'+1+1,K+1,L.set K u),by dsimp only;omega,by dsimp only;omega,hlen2,by dsimp only;rw [Xv];exact hLl,htk2,by dsimp only;omega,fun i hi=>by dsimp only at hi ⊢;rw [Vi oM];exact hLr i oM⟩
      ) (by dsimp only;omega) ⟨rfl,rfl,rfl,rfl,trivial⟩ ⟨rfl,trivial⟩)
  | (exact Zn (
      ⟨(j'+1+1,K,L),by dsimp only;omega,by dsimp only;omega,hK.trans (by rw [show k+1+(j'+1+1)=k+1+j'+1+1 by omega,hsm2]),hLl,hLt.trans (by rw [show k+1+(j'+1+1)=k+1+j'+1+1 by omega,hsm2]),by dsimp only;omega,fun i hi=>hLr i (by dsimp only at hi;omega)⟩
      ) (by dsimp only;omega) ⟨rfl,rfl,rfl,rfl,trivial⟩ ⟨rfl,trivial⟩)))
 · first|exact bN hb32|(
 have hall:l.take (k+1+j'+1)=l:=Xj oM;rw [hall] at hK hLt;have hKl:K≤l.length:=oM;refine Ze ?_;(refine xL 54 Zb (xL 55 Zb ?_)<;>refine xL 56 (Ti (i:=K) (j:=l.length) 1000 ZL rfl rfl rfl rfl rfl hKl (Xh _)) ?_<;>(refine Zcn 1000 ZU dC rfl rfl rfl rfl rfl hKl ?_;intro cs2 hcs1 hcs2)<;>refine Zk ?_)
 (refine xL 57 Zb (xL 58 Zb ?_)<;>refine xL 59 (Ti (i:=0) (j:=K) 1000 ZL rfl rfl rfl rfl rfl (Xd _) hKl) ?_<;>refine xL 2 Za ?_<;>refine Zc ?_)
 refine YG (Zpe (l:=1000) K rfl hKl) fun _=>?_;refine Em [(1000,slc hv 0 K 3,PV.own 93 3 K (cs2.take (K*3)))] (results189) rfl ⟨rfl,trivial⟩ ⟨Znb hvo _ _ _,rfl,?_⟩;rw [hcs2,←hLt,PE Z5];rw [show (L.take K).length=K by rw [Xn];omega]))
 · first|exact bN hb25|(
 have hnw:=Zk7 hs hy hx (by simpa using hb25);rw [hmk,←ZR hx] at hnw;refine Ze ?_;(refine xL 14 Zb (xL 15 ZK (xL 3 Za ?_))<;>refine Zc ?_)
 refine Zn (
  ⟨k+1+1,oM,oM,hnw⟩
  ) (by dsimp only;omega) ⟨rfl,rfl,trivial⟩ ⟨rfl,trivial⟩))
 · first|exact bN hb13|(
 refine Ze ?_;(refine xL 60 Zb (xL 2 Za ?_)<;>refine Zc ?_)
 refine Em [(1000,hv,PV.own 93 3 l.length (l.flatMap cMv))] (results189) rfl ⟨rfl,trivial⟩ ⟨hvo,rfl,?_⟩;rw [Xj (show l.length≤k+1 by omega)] at hmk;rw [hmk]))
theorem Znc {l m:List Mv} (h:l.Perm m):mkM l=mkM m:=O6 (Kl l) fun x=>by rw [Ke];exact h.mem_iff
theorem Znd (a:Aut) (hl:a.moves.length≤1000000) (V hM:Value) (hMo:hM.oneCell'=true) {p0 p1 p2 p3 p4:PV} {E:Int} (h5:R5 p0 p1 p2 p3 p4) (hr:AF prog 132 [ZJ (mkA a)] (· = .tup [.agg [p0,p1,p2,p3,p4],pInt E])):AFh False prog 137 [(0,V, .agg [pInt a.n,pInt a.syms,pInts a.start,pInts a.fin, .val hM])] [(1000,hM, .own 93 3 a.moves.length (a.moves.flatMap cMv))] (fun v q h=>(∃V1:Value,v= .tuple [V1, .int .i64 E].toArray)∧q= .tup [.agg [p0,p1,p2,p3,p4],pInt E]∧h=[]):=by
 obtain ⟨o0,o1,o2,o3,o4⟩:=h5.o
 refine AFh.of_body 15 func137 rfl ntmps137 (Xa rfl) rfl ?_
 intro w0 M0 N0
 have hone:En.one (PV.val hM)=true:=hMo
 refine Ze ?_
 (refine ZB 1 5 fun h1=>?_<;>refine Zv [(.int .i64 0),(.int .i64 0),(.slice none 0 0),(.slice none 0 0),(.slice none 0 0)] 5 2 ZI fun h2=>?_<;>refine xL 3 Za ?_<;>refine Zk ?_)
 (refine xL 4 (Zd 1 Zx) ?_<;>(refine yL 5 (Zl 1 ZC) fun v5 h=>?_;cases h)<;>(rcases Vb a.moves.length with h0|h0<;>first|(refine Zu (ZF (l:=1000) (p':= .own 93 3 0 []) rfl (by rw [XR h0];rfl)) fun _=>?_;refine Zdt (l:=1000) Hb rfl rfl (Xa rfl) rfl (call188) rfl rfl rfl ?_;obtain ⟨rows',hperm,hord⟩:∃rows':List Mv,rows'.Perm a.moves∧Cc rows':=⟨[],by rw [XR h0],fun i j x y _ h=>by simp at h⟩;refine Zu (ZF (l:=1000) (p':= .own 93 3 rows'.length (rows'.flatMap cMv)) rfl (by rw [XR (hperm.length_eq.trans h0)];rfl)) fun _=>?_)|(refine Zgj (l:=1000) (β:=Mv) (f:=cMv) (cmp:=GY) (rows:=a.moves) Zdw Z5 dC (fun _=>rfl) ζ7 Zdu Zdv (fun x y M W u v _ _ hu hv=>ζ8 x y M W u v hu hv) h0 oM rfl rfl (Xa rfl) rfl (call188) rfl rfl rfl (fun rows' hperm hord=>?_);refine Zu (ZF (l:=1000) (p':= .own 93 3 rows'.length (rows'.flatMap cMv)) rfl (by rw [hperm.length_eq])) fun _=>?_))<;>refine Zc ?_)<;>(
 (refine Zt ?_<;>refine xL 7 (Zd 1 Zx) ?_<;>(refine yL 8 (Zl 1 ZC) fun v8 h=>?_;cases h)<;>(refine WY [(1000,hM,PV.own 93 3 rows'.length (rows'.flatMap cMv)),(1,_,_),(2,_,_)] ⟨rfl,rfl,rfl,trivial⟩ ?_;refine J3 [1,2] 9 (call189) (ZdU rows' (by have:=hperm.length_eq;omega) hord hM hMo) ?_;rintro v9 _ _ ⟨hv9,rfl,rfl⟩;refine Zu (ZF (l:=1000) (p':= .own 93 3 (mkM a.moves).length ((mkM a.moves).flatMap cMv)) rfl (by rw [Znc hperm])) fun _=>?_;have hone9:En.one (PV.val v9)=true:=hv9)<;>refine xL 10 (Zd 1 Zx) ?_<;>refine YQ 1 ZC YK ?_<;>refine Zc ?_)
 refine Zq (Z7 (l:=1) (l':=1000) (j:=4) rfl rfl rfl rfl) fun _=>?_;rw [W7 _ _ _ rfl];(refine Zt ?_<;>(refine yL 11 (Zs 1 Zf) fun v11 h=>?_;cases h)<;>(refine cP 12 (cA call132 hr) (fun va12 vb12 hva12 hvb12=>?_) (hsh:=h5.t E);cases hvb12)<;>refine xL 13 Zi (xL 14 Zi ?_)<;>refine Zz 2 Zf ?_<;>refine xL 3 Za ?_<;>refine Zc ?_)
 exact HR (k:=5) 2 [] kR (results137) rfl rfl rfl (Xa rfl) dC h5.s trivial fun V=>⟨⟨V,rfl⟩,rfl,rfl⟩)
theorem LK {x y X Y:Int} (hx:0≤x∧x≤X) (hy:0≤y∧y≤Y):0≤x*y∧x*y≤X*Y:=⟨Int.mul_nonneg hx.1 hy.1,Int.mul_le_mul hx.2 hy.2 hy.1 oM⟩
def Dp (m:Int) (x:Mv) (j:Nat):List Mv:=(List.range j).map fun j=>⟨x.src*m+(j:Nat),x.dst*m+(j:Nat),x.sym⟩
theorem Zip (m:Int) (x:Mv) (j:Nat):Dp m x (j+1)=Dp m x j++[⟨x.src*m+(j:Nat),x.dst*m+(j:Nat),x.sym⟩]:=by unfold Dp;rw [Vz,Xs];rfl
def Dq (m:Int) (x:Mv) (i:Nat):List Mv:=(List.range i).map fun i=>⟨(i:Nat)*m+x.src,(i:Nat)*m+x.dst,x.sym⟩
theorem Ziq (m:Int) (x:Mv) (i:Nat):Dq m x (i+1)=Dq m x i++[⟨(i:Nat)*m+x.src,(i:Nat)*m+x.dst,x.sym⟩]:=by unfold Dq;rw [Vz,Xs];rfl
def smA (a b:Aut) (k:Nat):List Mv:=(a.moves.take k).flatMap (shL b.n)
def smB (a b:Aut) (k:Nat):List Mv:=a.moves.flatMap (shL b.n)++(b.moves.take k).flatMap (shR a.n b.n)
theorem Zk8 {a b:Aut} {k:Nat} {x:Mv} (h:a.moves[k]? =some x):smA a b (k+1)=smA a b k++Dp b.n x b.n.toNat:=by unfold smA;rw [ZR h,XM,VS];rfl
theorem Zk9 {a b:Aut} {k:Nat} {x:Mv} (h:b.moves[k]? =some x):smB a b (k+1)=smB a b k++Dq b.n x a.n.toNat:=by unfold smB;rw [ZR h,XM,VS,Xu];rfl
theorem Zne {a b:Aut} {k:Nat} (h:a.moves.length≤k):smA a b k=smB a b 0:=by unfold smA smB;rw [Xj h];exact (Xr _).symm
theorem Znf {a b:Aut} {k:Nat} (h:b.moves.length≤k):smB a b k=(Wr a b).moves:=by unfold smB;rw [Xj h];rfl
theorem OG (a b:Aut):(Wr a b).moves.length=a.moves.length*b.n.toNat+b.moves.length*a.n.toNat:=by
 show (a.moves.flatMap (shL b.n)++b.moves.flatMap (shR a.n b.n)).length=_
 rw [Xb,flat_len (H3 b.n),flat_len (Zbv a.n b.n)]
theorem Zla {a b:Aut} {k j:Nat} (x:Mv) (hk:k<a.moves.length) (hj:j≤b.n.toNat):(smA a b k++Dp b.n x j).length≤(Wr a b).moves.length:=by
 rw [OG]
 unfold smA Dp
 rw [Xb,flat_len (H3 b.n),Xn,Xe,Uw,X5 (Nat.le_of_lt hk)]
 have h1:(k+1)*b.n.toNat≤a.moves.length*b.n.toNat:=Vu _ hk
 rw [X6] at h1
 omega
theorem Zlb {a b:Aut} {k i:Nat} (x:Mv) (hk:k<b.moves.length) (hi:i≤a.n.toNat):(smB a b k++Dq b.n x i).length≤(Wr a b).moves.length:=by
 rw [OG]
 unfold smB Dq
 rw [Xb,Xb,flat_len (H3 b.n),flat_len (Zbv a.n b.n),Xn,Xe,Uw,X5 (Nat.le_of_lt hk)]
 have h1:(k+1)*a.n.toNat≤b.moves.length*a.n.toNat:=Vu _ hk
 rw [X6] at h1
 omega
theorem ZdV {m:Int} {l k:List Int} {i:Nat} {x:Int} (h:l[i]? =some x):shI m (l.take (i+1)) k=shI m (l.take i) k++Y5 (x*m) k:=by unfold shI;rw [ZR h,XM,VS]
theorem ZgV (m:Int) (l k:List Int):(shI m l k).length=l.length*k.length:=flat_len (fun x=>K4 _ _) l
theorem ZbM (a b:Aut) (e:Int) (he:¬e=0) (hf:AF prog 120 [ZJ a,ZJ b] (· =pInt e)):AF prog 89 [ZJ a,ZJ b] (· = .tup [KR,pInt e]):=by
 refine AF.of_body 162 func89 rfl ntmps89 (Xa rfl) ?_
 intro w0 M0 vs hl hv
 obtain ⟨v0,v1,rfl⟩:=YX hl
 clear hl hv
 refine Ze ?_
 (refine ZB 2 5 fun h2=>?_<;>refine ZB 3 5 fun h3=>?_<;>refine Zv [(.int .i64 0),(.int .i64 0),(.slice none 0 0),(.slice none 0 0),(.slice none 0 0)] 5 4 ZI fun h4=>?_<;>refine xL 5 Za ?_<;>refine Zk ?_)
 ((refine yL 20 (Zs 2 Zf) fun v20 h=>?_;cases h)<;>(refine yL 21 (Zs 3 Zf) fun v21 h=>?_;cases h)<;>(refine cS 22 (cA call120 (hf)) fun v22 h=>?_;cases h)<;>refine xL 6 Za ?_<;>refine Zk ?_)
 (refine xL 23 Zb (xL 24 Yn ?_)<;>refine Zc ?_)
 refine cX ?_ ?_<;>intro hb24
 · refine Ze ?_;(refine xL 25 (ZO ZX) (xL 26 Zb ?_)<;>refine Zz 4 Zf ?_<;>refine xL 5 Za ?_<;>refine Zc ?_)
   exact Z8 (k:=5) 4 kR (results89) rfl rfl rfl (Xa rfl) dC rfl rfl
 · exact UV (by simpa using hb24) he
set_option maxHeartbeats 8000000 in
theorem Cy (a b : Aut) (hf0:Wt a b=0) {p0 p1 p2 p3 p4:PV} {E:Int} (r5:R5 p0 p1 p2 p3 p4) (hr:(Wr a b).moves.length≤40000→AF prog 132 [ZJ (mkA (Wr a b))] (· = .tup [.agg [p0,p1,p2,p3,p4],pInt E])):AF prog 89 [ZJ a,ZJ b] (· =if 2000<a.n*b.n∨40000<(a.moves.length:Int)*b.n+(b.moves.length:Int)*a.n then .tup [KR,pInt 13] else .tup [.agg [p0,p1,p2,p3,p4],pInt E]):=by
 obtain ⟨o0,o1,o2,o3,o4⟩:=r5.o
 obtain ⟨ha,hb,hs⟩:=Jv hf0
 have hf:=PK a b
 rw [hf0] at hf
 have hn0:=ha.n0
 have hn1:=ha.n1
 have m0:=hb.n0
 have m1:=hb.n1
 have k1:=ha.sl
 have k2:=hb.sl
 have k3:=ha.fl
 have k4:=hb.fl
 have k5:=ha.ml
 have k6:=hb.ml
 have q1:=LK (x:=a.n) (y:=b.n) ⟨hn0,hn1⟩ ⟨m0,m1⟩
 have q2:=LK (x:=(a.moves.length:Int)) (y:=b.n) (X:=20000) ⟨oM,oM⟩ ⟨m0,m1⟩
 have q3:=LK (x:=(b.moves.length:Int)) (y:=a.n) (X:=20000) ⟨oM,oM⟩ ⟨hn0,hn1⟩
 have eN:((a.n.toNat:Nat):Int)=a.n:=X4 hn0
 have eM:((b.n.toNat:Nat):Int)=b.n:=X4 m0
 have q4:(((Wr a b).moves.length:Nat):Int)=(a.moves.length:Int)*b.n+(b.moves.length:Int)*a.n:=by
  rw [OG,Int.natCast_add,Vr,Vr,eN,eM]
 refine AF.of_body 162 func89 rfl ntmps89 (Xa rfl) ?_
 intro w0 M0 vs hl hv
 obtain ⟨v0,v1,rfl⟩:=YX hl
 clear hl hv
 refine Ze ?_
 (refine ZB 2 5 fun h2=>?_<;>refine ZB 3 5 fun h3=>?_<;>refine Zv [(.int .i64 0),(.int .i64 0),(.slice none 0 0),(.slice none 0 0),(.slice none 0 0)] 5 4 ZI fun h4=>?_<;>refine xL 5 Za ?_<;>refine Zk ?_)
 ((refine yL 20 (Zs 2 Zf) fun v20 h=>?_;cases h)<;>(refine yL 21 (Zs 3 Zf) fun v21 h=>?_;cases h)<;>(refine cS 22 (cA call120 (hf)) fun v22 h=>?_;cases h)<;>refine xL 6 Za ?_<;>refine Zk ?_)
 (refine xL 23 Zb (xL 24 Yn ?_)<;>refine Zc ?_)
 refine cX ?_ ?_<;>intro hb24
 · first|omega|exact UV rfl hb24|exact bN hb24
 · refine nav ?_;(refine ZZ (fun i=>([]:List Nat).elem i) [2,3] kR ?_<;>refine xD 0 27 rfl (Zd 2 ZS) ?_<;>(refine yD 1 28 rfl (Zl 2 Zg) fun v28 h=>?_;cases h)<;>refine xD 2 29 rfl (Zd 3 ZS) ?_<;>(refine yD 3 30 rfl (Zl 3 Zg) fun v30 h=>?_;cases h)<;>refine xE 4 7 rfl Za ?_<;>refine xE 5 8 rfl Za ?_<;>refine YC kR (nav ?_)<;>try dsimp only)
   (refine Zt ?_ <;> refine xL 31 Zb (xL 32 Zb (xL 33 Jj (xL 34 Yz (xL 35 Zb ?_))))<;>(refine bLd 35 (fun hb35=>?_) (fun hb35=>?_)<;>(first|refine kL 36 ?_|refine xL 36 (Zd 2 Zx) ?_))<;>(first|refine kL 37 ?_|(refine yL 37 (Zl 2 ZC) fun v37 h=>?_;cases h))<;>(first|refine kL 38 ?_|refine xL 38 (ZW ZL) ?_)<;>(first|refine kL 39 ?_|refine xL 39 Zb ?_)<;>(first|refine kL 40 ?_|refine xL 40 Jj ?_)<;>(first|refine kL 41 ?_|refine xL 41 (Zd 3 Zx) ?_)<;>(first|refine kL 42 ?_|(refine yL 42 (Zl 3 ZC) fun v42 h=>?_;cases h))<;>(first|refine kL 43 ?_|refine xL 43 (ZW ZL) ?_)<;>(first|refine kL 44 ?_|refine xL 44 Zb ?_)<;>(first|refine kL 45 ?_|refine xL 45 Jj ?_)<;>(first|refine kL 46 ?_|refine xL 46 ZK ?_)<;>(first|refine kL 47 ?_|refine xL 47 Yz ?_)<;>refine xL 48 ZG ?_<;>refine Zc ?_)<;>(
 refine cX ?_ ?_<;>intro hb48
 · first|exact bN hb48|(
 refine Ze ?_;(refine xL 49 (ZO ZX) ?_<;>refine Zz 4 Zf ?_<;>refine xL 5 Za ?_<;>refine Zc ?_)
 exact Z8 (k:=5) 4 kR (results89) rfl rfl rfl (Xa rfl) dC rfl (by rw [UU oM];rfl))
 · first | exact bN hb48|(
 refine nav ?_;have hnl:¬2000<a.n*b.n∧(Wr a b).moves.length≤40000:=oM;have hr:=hr hnl.2;have hnm:=hnl.1;have hml:=hnl.2;(refine Zt ?_<;>refine xL 50 Zb (xL 51 Zb (xL 52 Jj (xL 53 (Zd 2 ZT) ?_)))<;>(refine yL 54 (Zl 2 Zg) fun v54 h=>?_;cases h)<;>refine xL 55 (ZO ZX) ?_<;>refine Zv [(.int .i64 0),(.int .i64 0),(.slice none 0 0),(.slice none 0 0),(.slice none 0 0)] 5 9 ZI fun h9=>?_<;>refine Zz 9 Zf ?_<;>refine Zc ?_)
 refine Zq (WF (l:=9) [pInt (a.n*b.n),pInt a.syms, .own 3 1 0 [], .own 3 1 0 [], .own 93 3 0 []] rfl rfl (fun i p p' h1 h2=>by
  match i with
  |0=>cases h1;cases h2;exact .inl rfl
  |1=>cases h1;cases h2;exact .inl rfl
  |2=>cases h1;cases h2;exact .inr ⟨rfl,_,_,rfl⟩
  |3=>cases h1;cases h2;exact .inr ⟨rfl,_,_,rfl⟩
  |4=>cases h1;cases h2;exact .inr ⟨rfl,_,_,rfl⟩
  |i+5=>simp at h2)) fun _=>?_
 refine Zq (We (l:=9) (l':=302) (j:=2) rfl rfl rfl rfl) fun i=>?_;obtain ⟨v302,ho302⟩:=i;dsimp only [List.set];refine Zq (We (l:=9) (l':=303) (j:=3) rfl rfl rfl rfl) fun i=>?_;obtain ⟨v303,ho303⟩:=i;dsimp only [List.set];refine Zq (We (l:=9) (l':=1000) (j:=4) rfl rfl rfl rfl) fun i=>?_;obtain ⟨v1000,ho1000⟩:=i;dsimp only [List.set];have qo2:En.one (PV.val v302)=true:=ho302;have qo3:En.one (PV.val v303)=true:=ho303;refine Zq (ZF (l:=1000) (p':= .own 93 3 (smA a b 0).length ((smA a b 0).flatMap cMv)) rfl rfl) fun _=>?_;(refine Zt ?_<;>refine xL 56 (Zd 2 Zx) ?_<;>(refine yL 57 (Zl 2 ZC) fun v57 h=>?_;cases h)<;>refine xL 58 (ZW ZL) (xL 59 Zb ?_)<;>refine Zc ?_)
 refine ZE (ι:={q:Nat×Value//q.1≤a.moves.length∧q.2.oneCell'=true}) (fun k=>⟨[(2,_,_),(3,_,_),(4,_,_),(7,_,_),(8,_,_),(9,_,_),(57,_,_),(58,_,_),(59, .int .i64 k.1.1,pInt k.1.1)],[(2,_,_),(3,_,_),(4,_,_),(302,_,_),(303,_,_),(9,h9, .own 39 5 1 [pInt (a.n*b.n),pInt a.syms, .val v302, .val v303, .val k.1.2]),(1000,k.1.2, .own 93 3 (smA a b k.1.1).length ((smA a b k.1.1).flatMap cMv))]⟩) (fun k=>a.moves.length-k.1.1) ⟨(0,v1000),Xd _,ho1000⟩ (fun a w H=>H.weaken ⟨rfl,rfl,rfl,rfl,rfl,rfl,rfl,rfl,rfl,trivial⟩ ⟨rfl,rfl,rfl,rfl,rfl,rfl,rfl,trivial⟩) ?_;rintro ⟨⟨c,hI⟩,hc,hIo⟩;dsimp only;dsimp only at hc hIo;have q5:En.one (PV.val hI)=true:=hIo;refine Ze ?_;(refine xL 60 ZQ ?_<;>refine Zc ?_)
 refine cX ?_ ?_<;>intro hb60
 · first |exact bN hb60|(
 obtain ⟨x,hx⟩:=Zw (show c<a.moves.length by omega);have e1:=Yt Z5 a.moves c x hx;have e2:=YV Z5 hx;have hxb:=ha.mv x (Xc hx);have hx1:=LK (x:=x.src) (y:=b.n) (X:=2000) ⟨hxb.1,oM⟩ ⟨m0,m1⟩;have hx2:=LK (x:=x.dst) (y:=b.n) (X:=2000) ⟨hxb.2.2.1,oM⟩ ⟨m0,m1⟩;refine Ze ?_;(refine xL 61 (ZH ZL) ?_<;>(refine yL 62 (WA Z3) fun v62 h=>?_;cases h)<;>refine Zv [(.int .i64 0),(.int .i64 0),(.int .i64 0)] 3 11 Ko fun h11=>?_<;>refine Zz 11 Z3 ?_<;>refine Zk ?_)
 (refine xL 63 Zb (xL 64 Zb ?_)<;>refine Zc ?_)
 refine Zq (ZF (l:=1000) (p':= .own 93 3 (smA a b c++Dp b.n x 0).length ((smA a b c++Dp b.n x 0).flatMap cMv)) rfl (by rw [show Dp b.n x 0=[] from rfl,Xr])) fun _=>?_;refine ZE (ι:={q:Nat×Value//q.1≤b.n.toNat∧q.2.oneCell'=true}) (fun k=>⟨[(2,_,_),(3,_,_),(4,_,_),(7,_,_),(8,_,_),(9,_,_),(11,_,_),(57,_,_),(58,_,_),(59,_,_),(63,_,_),(64, .int .i64 k.1.1,pInt k.1.1)],[(2,_,_),(3,_,_),(4,_,_),(11,_,_),(302,_,_),(303,_,_),(9,h9, .own 39 5 1 [pInt (a.n*b.n),pInt a.syms, .val v302, .val v303, .val k.1.2]),(1000,k.1.2, .own 93 3 (smA a b c++Dp b.n x k.1.1).length ((smA a b c++Dp b.n x k.1.1).flatMap cMv))]⟩) (fun k=>b.n.toNat-k.1.1) ⟨(0,hI),Xd _,hIo⟩ (fun a w H=>H.weaken ⟨rfl,rfl,rfl,rfl,rfl,rfl,rfl,rfl,rfl,rfl,rfl,rfl,trivial⟩ ⟨rfl,rfl,rfl,rfl,rfl,rfl,rfl,rfl,trivial⟩) ?_;rintro ⟨⟨j,hJ⟩,hj,hJo⟩;dsimp only;dsimp only at hj hJo;have q6:En.one (PV.val hJ)=true:=hJo;have hpt:=Zla x (Zh hx) hj;refine Ze ?_;(refine xL 65 ZQ ?_<;>refine Zc ?_)
 refine cX ?_ ?_<;>intro hb65
 · first|exact bN hb65|(
 refine Ze ?_;(refine xL 66 Zb (xL 12 Za ?_)<;>refine Zk ?_)
 (refine xL 67 (Zd 9 Zx) ?_<;>(refine yL 68 (Zl 9 ZC) fun v68 h=>?_;cases h)<;>refine xL 69 (Zd 11 Yd) ?_<;>(refine yL 70 (Zl 11 Zg) fun v70 h=>?_;cases h)<;>refine xL 71 Zb (xL 72 Jj (xL 73 Zb (xL 74 ZK (xL 75 (Zd 11 Yi) ?_))))<;>(refine yL 76 (Zl 11 Zg) fun v76 h=>?_;cases h)<;>refine xL 77 Zb (xL 78 Jj (xL 79 Zb (xL 80 ZK (xL 81 (Zd 11 Yp) ?_))))<;>(refine yL 82 (Zl 11 Zg) fun v82 h=>?_;cases h)<;>refine xL 83 (ZO YW) ?_<;>refine YI 84 ZU fun h84 ho84=>?_<;>(refine ZY 1000 84 85 ZU fun h85 ho85=>?_;refine Zu (ZD (l:=85) 1000 rfl rfl) fun _=>?_;refine Zu (ZF (l:=1000) rfl ((WZ _ (smA a b c++Dp b.n x j) ⟨x.src*b.n+(j:Nat),x.dst*b.n+(j:Nat),x.sym⟩).trans (by rw [Xu,←Zip]))) fun _=>?_;have q85:En.one (PV.val h85)=true:=ho85)<;>refine xL 86 (Zd 9 Zx) ?_<;>refine YQ 9 ZC YK ?_<;>refine Zk ?_)
 (refine xL 87 ZK (xL 64 Zb ?_)<;>refine Zc ?_)
 refine Zn (
  ⟨(j+1,h85),by dsimp only;omega,ho85⟩
  ) (by dsimp only;omega) ⟨rfl,rfl,rfl,rfl,rfl,rfl,rfl,rfl,rfl,rfl,rfl,rfl,trivial⟩ ⟨rfl,rfl,rfl,rfl,rfl,rfl,rfl,rfl,trivial⟩)
 · first|exact bN hb65|(
 refine Zq (ZF (l:=1000) (p':= .own 93 3 (smA a b (c+1)).length ((smA a b (c+1)).flatMap cMv)) rfl (by rw [show smA a b c++Dp b.n x j=smA a b (c+1) by rw [Zk8 hx,show j=b.n.toNat by omega]])) fun _=>?_;refine Ze ?_;(refine xL 88 ZK (xL 59 Zb ?_)<;>refine Zc ?_)
 refine Zn (
  ⟨(c+1,hJ),Zh hx,hJo⟩
  ) (by dsimp only;omega) ⟨rfl,rfl,rfl,rfl,rfl,rfl,rfl,rfl,rfl,trivial⟩ ⟨rfl,rfl,rfl,rfl,rfl,rfl,rfl,trivial⟩))
 · first | exact bN hb60|(
 rw [Zne (show a.moves.length≤c by omega)];refine Ze ?_;(refine xL 89 (Zd 3 Zx) ?_<;>(refine yL 90 (Zl 3 ZC) fun v90 h=>?_;cases h)<;>refine xL 91 (ZW ZL) (xL 92 Zb ?_)<;>refine Zc ?_)
 refine ZE (ι:={q:Nat×Value//q.1≤b.moves.length∧q.2.oneCell'=true}) (fun k=>⟨[(2,_,_),(3,_,_),(4,_,_),(7,_,_),(8,_,_),(9,_,_),(90,_,_),(91,_,_),(92, .int .i64 k.1.1,pInt k.1.1)],[(2,_,_),(3,_,_),(4,_,_),(302,_,_),(303,_,_),(9,h9, .own 39 5 1 [pInt (a.n*b.n),pInt a.syms, .val v302, .val v303, .val k.1.2]),(1000,k.1.2, .own 93 3 (smB a b k.1.1).length ((smB a b k.1.1).flatMap cMv))]⟩) (fun k=>b.moves.length-k.1.1) ⟨(0,hI),Xd _,hIo⟩ (fun a w H=>H.weaken ⟨rfl,rfl,rfl,rfl,rfl,rfl,rfl,rfl,rfl,trivial⟩ ⟨rfl,rfl,rfl,rfl,rfl,rfl,rfl,trivial⟩) ?_;rintro ⟨⟨u,hU⟩,hu,hUo⟩;dsimp only;dsimp only at hu hUo;have q7:En.one (PV.val hU)=true:=hUo;refine Ze ?_;(refine xL 93 ZQ ?_<;>refine Zc ?_)
 refine cX ?_ ?_<;>intro hb93
 · first |exact bN hb93|(
 obtain ⟨y,hy⟩:=Zw (show u<b.moves.length by omega);have e3:=Yt Z5 b.moves u y hy;have e4:=YV Z5 hy;have hyb:=hb.mv y (Xc hy);refine Ze ?_;(refine xL 94 (ZH ZL) ?_<;>(refine yL 95 (WA Z3) fun v95 h=>?_;cases h)<;>refine Zv [(.int .i64 0),(.int .i64 0),(.int .i64 0)] 3 14 Ko fun h14=>?_<;>refine Zz 14 Z3 ?_<;>refine Zk ?_)
 (refine xL 96 Zb (xL 97 Zb ?_)<;>refine Zc ?_)
 refine Zq (ZF (l:=1000) (p':= .own 93 3 (smB a b u++Dq b.n y 0).length ((smB a b u++Dq b.n y 0).flatMap cMv)) rfl (by rw [show Dq b.n y 0=[] from rfl,Xr])) fun _=>?_;refine ZE (ι:={q:Nat×Value//q.1≤a.n.toNat∧q.2.oneCell'=true}) (fun k=>⟨[(2,_,_),(3,_,_),(4,_,_),(7,_,_),(8,_,_),(9,_,_),(14,_,_),(90,_,_),(91,_,_),(92,_,_),(96,_,_),(97, .int .i64 k.1.1,pInt k.1.1)],[(2,_,_),(3,_,_),(4,_,_),(14,_,_),(302,_,_),(303,_,_),(9,h9, .own 39 5 1 [pInt (a.n*b.n),pInt a.syms, .val v302, .val v303, .val k.1.2]),(1000,k.1.2, .own 93 3 (smB a b u++Dq b.n y k.1.1).length ((smB a b u++Dq b.n y k.1.1).flatMap cMv))]⟩) (fun k=>a.n.toNat-k.1.1) ⟨(0,hU),Xd _,hUo⟩ (fun a w H=>H.weaken ⟨rfl,rfl,rfl,rfl,rfl,rfl,rfl,rfl,rfl,rfl,rfl,rfl,trivial⟩ ⟨rfl,rfl,rfl,rfl,rfl,rfl,rfl,rfl,trivial⟩) ?_;rintro ⟨⟨i,hV⟩,hi,hVo⟩;dsimp only;dsimp only at hi hVo;have q8:En.one (PV.val hV)=true:=hVo;have hpt2:=Zlb y (Zh hy) hi;have hx3:=LK (x:=(i:Int)) (y:=b.n) (X:=2000) ⟨oM,oM⟩ ⟨m0,m1⟩;refine Ze ?_;(refine xL 98 ZQ ?_<;>refine Zc ?_)
 refine cX ?_ ?_<;>intro hb98
 · first|exact bN hb98|(
 refine Ze ?_;(refine xL 99 Zb (xL 15 Za ?_)<;>refine Zk ?_)
 (refine xL 100 (Zd 9 Zx) ?_<;>(refine yL 101 (Zl 9 ZC) fun v101 h=>?_;cases h)<;>refine xL 102 Zb (xL 103 Zb (xL 104 Jj (xL 105 (Zd 14 Yd) ?_)))<;>(refine yL 106 (Zl 14 Zg) fun v106 h=>?_;cases h)<;>refine xL 107 ZK (xL 108 Zb (xL 109 Zb (xL 110 Jj (xL 111 (Zd 14 Yi) ?_))))<;>(refine yL 112 (Zl 14 Zg) fun v112 h=>?_;cases h)<;>refine xL 113 ZK (xL 114 (Zd 14 Yp) ?_)<;>(refine yL 115 (Zl 14 Zg) fun v115 h=>?_;cases h)<;>refine xL 116 (ZO YW) ?_<;>refine YI 117 ZU fun h117 ho117=>?_<;>(refine ZY 1000 117 118 ZU fun h118 ho118=>?_;refine Zu (ZD (l:=118) 1000 rfl rfl) fun _=>?_;refine Zu (ZF (l:=1000) rfl ((WZ _ (smB a b u++Dq b.n y i) ⟨(i:Nat)*b.n+y.src,(i:Nat)*b.n+y.dst,y.sym⟩).trans (by rw [Xu,←Ziq]))) fun _=>?_;have q118:En.one (PV.val h118)=true:=ho118)<;>refine xL 119 (Zd 9 Zx) ?_<;>refine YQ 9 ZC YK ?_<;>refine Zk ?_)
 (refine xL 120 ZK (xL 97 Zb ?_)<;>refine Zc ?_)
 refine Zn (
  ⟨(i+1,h118),by dsimp only;omega,ho118⟩
  ) (by dsimp only;omega) ⟨rfl,rfl,rfl,rfl,rfl,rfl,rfl,rfl,rfl,rfl,rfl,rfl,trivial⟩ ⟨rfl,rfl,rfl,rfl,rfl,rfl,rfl,rfl,trivial⟩)
 · first|exact bN hb98|(
 refine Zq (ZF (l:=1000) (p':= .own 93 3 (smB a b (u+1)).length ((smB a b (u+1)).flatMap cMv)) rfl (by rw [show smB a b u++Dq b.n y i=smB a b (u+1) by rw [Zk9 hy,show i=a.n.toNat by omega]])) fun _=>?_;refine Ze ?_;(refine xL 121 ZK (xL 92 Zb ?_)<;>refine Zc ?_)
 refine Zn (
  ⟨(u+1,hV),Zh hy,hVo⟩
  ) (by dsimp only;omega) ⟨rfl,rfl,rfl,rfl,rfl,rfl,rfl,rfl,rfl,trivial⟩ ⟨rfl,rfl,rfl,rfl,rfl,rfl,rfl,trivial⟩))
 · first | exact bN hb93|(
 rw [Znf (show b.moves.length≤u by omega)];refine Ze ?_;(refine xL 122 (Zd 2 Z9) ?_<;>(refine yL 123 (Zl 2 Zy) fun v123 h=>?_;cases h)<;>refine xL 124 (ZW Zr) (xL 125 Zb ?_)<;>refine Zc ?_)
 refine Zq (ZF (l:=302) (p':= .own 3 1 (shI b.n (a.start.take 0) b.start).length ((shI b.n (a.start.take 0) b.start).map pInt)) rfl rfl) fun _=>?_;refine ZE (ι:={q:Nat×Value//q.1≤a.start.length∧q.2.oneCell'=true}) (fun k=>⟨[(2,_,_),(3,_,_),(4,_,_),(7,_,_),(8,_,_),(9,_,_),(123,_,_),(124,_,_),(125, .int .i64 k.1.1,pInt k.1.1)],[(2,_,_),(3,_,_),(4,_,_),(303,_,_),(1000,_,_),(9,h9, .own 39 5 1 [pInt (a.n*b.n),pInt a.syms, .val k.1.2, .val v303, .val hU]),(302,k.1.2, .own 3 1 (shI b.n (a.start.take k.1.1) b.start).length ((shI b.n (a.start.take k.1.1) b.start).map pInt))]⟩) (fun k=>a.start.length-k.1.1) ⟨(0,v302),Xd _,ho302⟩ (fun a w H=>H.weaken ⟨rfl,rfl,rfl,rfl,rfl,rfl,rfl,rfl,rfl,trivial⟩ ⟨rfl,rfl,rfl,rfl,rfl,rfl,rfl,trivial⟩) ?_;rintro ⟨⟨s,hS⟩,hs',hSo⟩;dsimp only;dsimp only at hs' hSo;have q9:En.one (PV.val hS)=true:=hSo;(have hSl:(shI b.n (a.start.take s) b.start).length≤2000*2000:=by rw [ZgV,Xn];exact Vw oM k2);refine Ze ?_;(refine xL 126 ZQ ?_<;>refine Zc ?_)
 refine cX ?_ ?_<;>intro hb126
 · first|exact bN hb126|(
 obtain ⟨z,hz⟩:=Zw (show s<a.start.length by omega);have e5:=Yb (f:=pInt) hz;have hzb:=ha.st z (Xc hz);have hz1:=LK (x:=z) (y:=b.n) (X:=a.n) (Y:=b.n) ⟨hzb.1,oM⟩ ⟨m0,VU _⟩;have hal:=K4 (z*b.n) b.start;refine Ze ?_;(refine xL 127 (ZH Zr) ?_<;>(refine yL 128 (Ya Zg) fun v128 h=>?_;cases h)<;>refine xL 17 Za ?_<;>refine Zc ?_)
 (refine ZZ (fun i=>([10]:List Nat).elem i) [3,9] kR ?_<;>refine xD 0 129 rfl (Zd 9 Z9) ?_<;>(refine yD 1 130 rfl (Zl 9 Zy) fun v130 h=>?_;cases h)<;>refine xD 2 131 rfl (Zd 3 Z9) ?_<;>(refine yD 3 132 rfl (Zl 3 Zy) fun v132 h=>?_;cases h)<;>refine xD 4 133 rfl Zb ?_<;>refine xE 5 134 rfl Zb ?_<;>refine xE 6 135 rfl Jj ?_<;>(refine Zp 7 kR ?_)<;>(refine Zm rfl fun w9 M9 N9 DQ back=>?_)<;>(refine cO 136 (cA call136 (LJ b.start (z*b.n) oM oM (fun x hx=>by have:=hb.st x hx;omega))) fun v136 ho136=>?_;refine Zu (En.freeze (l:=136) (t:=136) rfl rfl) fun _=>?_;rw [ZV _ _ _ rfl])<;>refine Zj (back _ (nrm ?_))<;>(refine Zp 8 kR ?_)<;>(refine Zm rfl fun w9 M9 N9 DQ back=>?_)<;>(refine W2 302 137 Zo (fun h137 ho137=>?_) (JP (Y5 (z*b.n) b.start)) (GN (Y5 (z*b.n) b.start));have q137:En.one (PV.val h137)=true:=ho137;refine Zu (ZD (l:=137) 302 rfl rfl) fun _=>?_;refine Zu (ZF (l:=302) rfl ((TJ _ (shI b.n (a.start.take s) b.start) (Y5 (z*b.n) b.start)).trans (by rw [←ZdV hz]))) fun _=>?_)<;>refine Zj (back _ (nrm ?_))<;>refine xE 9 138 rfl (Zd 9 Z9) ?_<;>(refine Zp 10 kR ?_)<;>(refine Kb rfl rfl kR fun DQ back=>?_)<;>refine YQ 9 Zy Wo ?_<;>refine Zj (back _ (nav ?_))<;>try dsimp only)
 (refine Zt ?_<;>refine xL 139 ZK (xL 125 Zb ?_)<;>refine Zc ?_)
 refine Zn (
  ⟨(s+1,h137),Zh hz,ho137⟩
  ) (by dsimp only;omega) ⟨rfl,rfl,rfl,rfl,rfl,rfl,rfl,rfl,rfl,trivial⟩ ⟨rfl,rfl,rfl,rfl,rfl,rfl,rfl,trivial⟩)
 · first |exact bN hb126|(
 rw [Xj (show a.start.length≤s by omega)];refine Ze ?_;(refine xL 140 (Zd 2 Z2) ?_<;>(refine yL 141 (Zl 2 Zy) fun v141 h=>?_;cases h)<;>refine xL 142 (ZW Zr) (xL 143 Zb ?_)<;>refine Zc ?_)
 refine Zq (ZF (l:=303) (p':= .own 3 1 (shI b.n (a.fin.take 0) b.fin).length ((shI b.n (a.fin.take 0) b.fin).map pInt)) rfl rfl) fun _=>?_;refine ZE (ι:={q:Nat×Value//q.1≤a.fin.length∧q.2.oneCell'=true}) (fun k=>⟨[(2,_,_),(3,_,_),(4,_,_),(7,_,_),(8,_,_),(9,_,_),(141,_,_),(142,_,_),(143, .int .i64 k.1.1,pInt k.1.1)],[(2,_,_),(3,_,_),(4,_,_),(302,_,_),(1000,_,_),(9,h9, .own 39 5 1 [pInt (a.n*b.n),pInt a.syms, .val hS, .val k.1.2, .val hU]),(303,k.1.2, .own 3 1 (shI b.n (a.fin.take k.1.1) b.fin).length ((shI b.n (a.fin.take k.1.1) b.fin).map pInt))]⟩) (fun k=>a.fin.length-k.1.1) ⟨(0,v303),Xd _,ho303⟩ (fun a w H=>H.weaken ⟨rfl,rfl,rfl,rfl,rfl,rfl,rfl,rfl,rfl,trivial⟩ ⟨rfl,rfl,rfl,rfl,rfl,rfl,rfl,trivial⟩) ?_;rintro ⟨⟨t,hT⟩,ht,hTo⟩;dsimp only;dsimp only at ht hTo;have q10:En.one (PV.val hT)=true:=hTo;(have hTl:(shI b.n (a.fin.take t) b.fin).length≤2000*2000:=by rw [ZgV,Xn];exact Vw oM k4);refine Ze ?_;(refine xL 144 ZQ ?_<;>refine Zc ?_)
 refine cX ?_ ?_<;>intro hb144
 · first|exact bN hb144|(
 obtain ⟨z2,hz2⟩:=Zw (show t<a.fin.length by omega);have e6:=Yb (f:=pInt) hz2;have hzb2:=ha.fi z2 (Xc hz2);have hz3:=LK (x:=z2) (y:=b.n) (X:=a.n) (Y:=b.n) ⟨hzb2.1,oM⟩ ⟨m0,VU _⟩;have hal2:=K4 (z2*b.n) b.fin;refine Ze ?_;(refine xL 145 (ZH Zr) ?_<;>(refine yL 146 (Ya Zg) fun v146 h=>?_;cases h)<;>refine xL 19 Za ?_<;>refine Zc ?_)
 (refine ZZ (fun i=>([10]:List Nat).elem i) [3,9] kR ?_<;>refine xD 0 147 rfl (Zd 9 Z2) ?_<;>(refine yD 1 148 rfl (Zl 9 Zy) fun v148 h=>?_;cases h)<;>refine xD 2 149 rfl (Zd 3 Z2) ?_<;>(refine yD 3 150 rfl (Zl 3 Zy) fun v150 h=>?_;cases h)<;>refine xD 4 151 rfl Zb ?_<;>refine xE 5 152 rfl Zb ?_<;>refine xE 6 153 rfl Jj ?_<;>(refine Zp 7 kR ?_)<;>(refine Zm rfl fun w9 M9 N9 DQ back=>?_)<;>(refine cO 154 (cA call136 (LJ b.fin (z2*b.n) oM oM (fun x hx=>by have:=hb.fi x hx;omega))) fun v154 ho154=>?_;refine Zu (En.freeze (l:=154) (t:=154) rfl rfl) fun _=>?_;rw [ZV _ _ _ rfl])<;>refine Zj (back _ (nrm ?_))<;>(refine Zp 8 kR ?_)<;>(refine Zm rfl fun w9 M9 N9 DQ back=>?_)<;>(refine W2 303 155 Zo (fun h155 ho155=>?_) (JP (Y5 (z2*b.n) b.fin)) (GN (Y5 (z2*b.n) b.fin));have q155:En.one (PV.val h155)=true:=ho155;refine Zu (ZD (l:=155) 303 rfl rfl) fun _=>?_;refine Zu (ZF (l:=303) rfl ((TJ _ (shI b.n (a.fin.take t) b.fin) (Y5 (z2*b.n) b.fin)).trans (by rw [←ZdV hz2]))) fun _=>?_)<;>refine Zj (back _ (nrm ?_))<;>refine xE 9 156 rfl (Zd 9 Z2) ?_<;>(refine Zp 10 kR ?_)<;>(refine Kb rfl rfl kR fun DQ back=>?_)<;>refine YQ 9 Zy Wo ?_<;>refine Zj (back _ (nav ?_))<;>try dsimp only)
 (refine Zt ?_<;>refine xL 157 ZK (xL 143 Zb ?_)<;>refine Zc ?_)
 refine Zn (
  ⟨(t+1,h155),Zh hz2,ho155⟩
  ) (by dsimp only;omega) ⟨rfl,rfl,rfl,rfl,rfl,rfl,rfl,rfl,rfl,trivial⟩ ⟨rfl,rfl,rfl,rfl,rfl,rfl,rfl,trivial⟩)
 · first|exact bN hb144|(
 rw [Xj (show a.fin.length≤t by omega)];refine nav ?_;refine Zq (Z7 (l:=9) (l':=302) (j:=2) rfl rfl rfl rfl) fun _=>?_;refine Zq (Z7 (l:=9) (l':=303) (j:=3) rfl rfl rfl rfl) fun _=>?_;rw [ZV _ _ _ rfl,ZV _ _ _ rfl];(refine Zt ?_<;>(refine yL 158 (Zs (k:=5) (ps:=[pInt (a.n*b.n),pInt a.syms,pInts (shI b.n a.start b.start),pInts (shI b.n a.fin b.fin),PV.val hU]) 9 kR) fun v158 h=>?_;cases h)<;>(refine WY [(1000,hU,PV.own 93 3 (Wr a b).moves.length ((Wr a b).moves.flatMap cMv)),(2,_,_),(3,_,_),(4,_,_),(9,_,_)] ⟨rfl,rfl,rfl,rfl,rfl,trivial⟩ ?_;refine J3 [2,3,4,9] 159 (call137) (Znd (Wr a b) oM _ hU hUo r5 hr) ?_;rintro _ _ _ ⟨⟨V1,rfl⟩,rfl,rfl⟩)<;>refine xL 160 Zi (xL 161 Zi ?_)<;>refine Zz 4 Zf ?_<;>refine xL 5 Za ?_<;>refine Zc ?_)
 exact Z8 (k:=5) 4 kR (results89) rfl rfl rfl (Xa rfl) dC r5.s (by rw [UT oM];rfl)))))))
theorem ZfV (a b:Aut):AF prog 89 [ZJ a,ZJ b] (· =resW (LF a b)):=by
 unfold LF
 by_cases h0:Wt a b=0
 · rw [UT (fun h=>h h0)];obtain ⟨ha,hb,hs⟩:=Jv h0;by_cases hl:(Wr a b).moves.length≤40000
   · obtain ⟨p0,p1,p2,p3,p4,E,h5,h2,hr⟩:=T' (Wr a b) oM (Ox ha hb hs);refine (Cy a b h0 h5 fun _=>hr).mono fun p hp=>?_;rw [hp];split
     · rfl
     · exact h2.symm
   · refine (Cy a b h0 R5.raw (E:=13) fun h=>UV h hl).mono fun p hp=>?_;have h1:=ha.n0;have h2:=hb.n0;have q4:(((Wr a b).moves.length:Nat):Int)=(a.moves.length:Int)*b.n+(b.moves.length:Int)*a.n:=by
      rw [OG,Int.natCast_add,Vr,Vr,X4 h1,X4 h2]
     rw [hp,UU (.inr oM),UU (.inr oM)];rfl
 · rw [UU h0];exact ZbM a b _ h0 (PK a b)
theorem Cz:AggT prog 39 5=true:=by kernel_rfl
theorem Zaq:ElT prog 27 9 1 16 (.string ByteArray.empty):=⟨underlying27,by kernel_rfl,rfl,dC⟩
theorem RQ:ElT prog 36 3 1 8 (.int .i64 0):=⟨underlying36,by kernel_rfl,rfl,dC⟩
theorem Zir:ElT prog 37 93 3 24 (.agg #[(.int .i64 0),(.int .i64 0),(.int .i64 0)]):=⟨underlying37,by kernel_rfl,rfl,dC⟩
theorem Hc:FldT prog 24 0 0=true:=by kernel_rfl
theorem ZdW:FldT prog 24 1 1=true:=by kernel_rfl
theorem CB:NoAgg prog 3=true:=by kernel_rfl
theorem ZdX:NoAgg prog 9=true:=by kernel_rfl
theorem Dr:SlT prog 27 9 1=true:=by kernel_rfl
theorem Zar:SlT prog 36 3 1=true:=by kernel_rfl
theorem Zas:W1 prog 39=some ((.agg #[(.int .i64 0),(.int .i64 0),(.slice none 0 0),(.slice none 0 0),(.slice none 0 0)]),([0,1,2,3,4]:List Nat).map fun o=>(o,1)):=by kernel_rfl
theorem Zis:W1 prog 93=some ((.agg #[(.int .i64 0),(.int .i64 0),(.int .i64 0)]),([0,1,2]:List Nat).map fun o=>(o,1)):=by kernel_rfl
theorem Zat:ZeroT prog 39 (.agg #[(.int .i64 0),(.int .i64 0),(.slice none 0 0),(.slice none 0 0),(.slice none 0 0)]):=by unfold ZeroT;kernel_rfl
theorem Hw (x:Option Aut):∃p0 p1 p2 p3 p4 E,R5 p0 p1 p2 p3 p4∧resW (lim x)= .tup [.agg [p0,p1,p2,p3,p4],pInt E]∧((x=none∧E=13)∨∃A,x=some A∧E=0∧p0=pInt A.n∧p1=pInt A.syms∧p2=pInts A.start∧p3=pInts A.fin∧p4=pMvs A.moves):=by
 cases x with
 |none=>exact ⟨_,_,_,_,_,_,R5.raw,rfl, .inl ⟨rfl,rfl⟩⟩
 |some A=>exact ⟨_,_,_,_,_,_,R5.aut A,rfl, .inr ⟨A,rfl,rfl,rfl,rfl,rfl,rfl,rfl⟩⟩
theorem ZdY (e:Nat) (L:List Aut) (x:Aut):PV.own e 5 (L.length+1) (L.flatMap Tf++Tf x)= .own e 5 (L++[x]).length ((L++[x]).flatMap Tf):=sM
theorem CC (e n:Nat) (l:List Aut) (hn:n=l.length):share (.own e 5 n (l.flatMap Tf))= .sl l.length (l.flatMap Tf):=by
 subst hn
 rw [share,Yr,Ut];rfl
theorem Zng (n:Nat):Rr (.agg [pInt 1,pInt n,pInts [0],pInts [0], .val (.slice none 0 0)]) (ZJ (R4 n)):=Rr.agg rfl fun i p p' h1 h2=>by
 match i with
 |0=>cases h1;cases h2;exact Rr.rfl' _
 |1=>cases h1;cases h2;exact Rr.rfl' _
 |2=>cases h1;cases h2;exact Rr.rfl' _
 |3=>cases h1;cases h2;exact Rr.rfl' _
 |4=>cases h1;cases h2;exact Rr.nil
 |i+5=>simp at h1
theorem Zit (l:List ByteArray) (s:ByteArray):AF prog 67 [YF l,Yv s] (· =pInt (WM l s)):=by
 refine AF.of_body 8 func67 rfl ntmps67 (Xa rfl) ?_
 intro w0 M0 vs hl hv
 obtain ⟨v0,v1,rfl⟩:=YX hl
 clear hl hv
 refine Ze ?_
 (refine xL 4 Za ?_<;>refine Zk ?_)
 (refine xL 5 Zb (xL 6 Zb ?_)<;>(refine cS 7 (cA call86 (Zcg l s)) fun v7 h=>?_;cases h)<;>refine xL 4 Za ?_<;>refine Zc ?_)
 exact ZA results67 rfl rfl
theorem ZdZ (acts:List ByteArray) {l:List Int} {k:Nat} {i:Int} (h:l[k]? =some i):nmI acts (l.take (k+1))=nmI acts (l.take k)++[(acts[i.toNat]?).getD ByteArray.empty]:=by
 unfold nmI
 rw [ZR h,Xs];rfl
theorem ZgW (acts:List ByteArray) (l:List Int):(nmI acts l).length=l.length:=Xe _
theorem Zau (l:List Int) (acts:List ByteArray) (hl:l.length≤1000000) (hin:∀i∈l,0≤i∧i<acts.length):AF prog 53 [pInts l,YF acts] (· =YF (nmI acts l)):=by
 refine AF.of_body 23 func53 rfl ntmps53 (Xa rfl) ?_
 intro w0 M0 vs hl hv
 obtain ⟨v0,v1,rfl⟩:=YX hl
 clear hl hv
 refine Ze ?_
 (refine xL 4 Za ?_<;>refine Zk ?_)
 (refine xL 5 Za ?_<;>refine Zk ?_)
 (refine xL 8 Zb (xL 9 (ZW Zar) (xL 10 Zb ?_))<;>refine Zc ?_)
 refine Zq (KT 200 9 1 rfl) fun _=>?_
 refine ZE (ι:={q:Nat×Value//q.1≤l.length∧q.2.oneCell'=true}) (fun k=>⟨[(0,_,_),(1,_,_),(8,_,_),(9,_,_),(5,k.1.2, .val k.1.2),(10, .int .i64 k.1.1,pInt k.1.1)],[(200,k.1.2, .own 9 1 (nmI acts (l.take k.1.1)).length ((nmI acts (l.take k.1.1)).map Yv))]⟩) (fun k=>l.length-k.1.1) ⟨(0, .slice none 0 0),Xd _,rfl⟩ (fun a w H=>H.weaken ⟨rfl,rfl,rfl,rfl,rfl,rfl,trivial⟩ ⟨rfl,trivial⟩) ?_
 rintro ⟨⟨i,hv⟩,hi,ho⟩
 dsimp only
 dsimp only at hi ho
 refine Ze ?_
 (refine xL 11 ZQ ?_<;>refine Zc ?_)
 refine cX ?_ ?_<;>intro hb11
 · first|exact bN hb11|(
 obtain ⟨x,hx⟩:=Zw (show i<l.length by omega);have e1:=Yb (f:=pInt) hx;have hin:=hin x (Xc hx);obtain ⟨j,rfl⟩:∃j:Nat,x=(j:Int):=⟨x.toNat,oM⟩;obtain ⟨s,hs⟩:=Zw (show j<acts.length by omega);have e2:=Yb (f:=Yv) hs;(have hlen:(nmI acts (l.take i)).length≤1000000:=by rw [ZgW,Xn];omega);have hsn:nmI acts (l.take (i+1))=nmI acts (l.take i)++[s]:=by
  rw [ZdZ acts hx];show _++[(acts[j]?).getD ByteArray.empty]=_;rw [hs];rfl
 refine Ze ?_;(refine xL 12 (ZH Zar) ?_<;>(refine yL 13 (Ya CB) fun v13 h=>?_;cases h)<;>refine xL 7 Za ?_<;>refine Zk ?_)
 (refine xL 14 Zb (xL 15 Zb (xL 16 Zb (xL 17 (ZH Dr) ?_)))<;>(refine yL 18 (Ya ZdX) fun v18 h=>?_;cases h)<;>refine ZM (kk:=1) 19 Zaq fun h19 ho19=>?_<;>refine ZY 200 19 20 Zaq fun h20 ho20=>?_<;>refine xL 5 Za ?_<;>refine Zk ?_)
 (refine xL 21 ZK (xL 10 Zb ?_)<;>refine Zc ?_)
 refine Kn (ZD (l:=20) 200 rfl rfl) fun _=>?_;rw [show (nmI acts (l.take i)).map Yv++[_]=(nmI acts (l.take (i+1))).map Yv from (by rw [hsn,Xs];rfl),show (nmI acts (l.take i)).length+1=(nmI acts (l.take (i+1))).length by rw [hsn];simp];refine Zn (
  ⟨(i+1,h20),Zh hx,ho20⟩
  ) (by dsimp only;omega) ⟨rfl,rfl,rfl,rfl,rfl,rfl,trivial⟩ ⟨rfl,trivial⟩)
 · first|exact bN hb11|(
 refine nav ?_;rw [Xj (show l.length≤i by omega)];refine Zq (En.freeze (l:=200) (t:=5) rfl rfl) fun _=>?_;rw [Lp];(refine Zt ?_<;>refine xL 22 Zb (xL 4 Za ?_)<;>refine Zc ?_)
 exact ZA results53 rfl rfl)
theorem Zd0 (acts:List ByteArray) (a:ByteArray) {p0 p1 p2 p3 p4:PV} {E:Int} (r5:R5 p0 p1 p2 p3 p4) (hm:AF prog 84 [ZJ (G1 acts.length (WM acts a))] (· = .tup [.agg [p0,p1,p2,p3,p4],pInt E])):AF prog 51 [.agg [pInt 1,Yv a,Wl []],YF acts] (· = .tup [.agg [p0,p1,p2,p3,p4],pInt E]):=by
 obtain ⟨o0,o1,o2,o3,o4⟩:=r5.o
 refine AF.of_body 130 func51 rfl ntmps51 (Xa rfl) ?_
 intro w0 M0 vs hl hv
 obtain ⟨v0,v1,rfl⟩:=YX hl
 clear hl hv
 refine Ze ?_
 (refine ZB 2 3 fun h2=>?_<;>refine Zv [(.int .i64 0),(.int .i64 0),(.slice none 0 0),(.slice none 0 0),(.slice none 0 0)] 5 4 Zat fun h4=>?_<;>refine xL 5 Za ?_<;>refine Zk ?_)
 (refine xL 18 (Zd 2 Hc) ?_<;>(refine yL 19 (Zl 2 CB) fun v19 h=>?_;cases h)<;>refine Zk ?_)
 (refine xL 21 Yf (xL 20 Za ?_)<;>refine Zc ?_)
 refine cX ?_ ?_<;>intro hb20
 · refine Ze ?_;(refine xL 22 Zb (xL 23 (ZW Dr) ?_)<;>(refine ZM (kk:=1) 24 RQ fun h24 ho24=>?_;refine Zu (En.freeze (l:=24) (t:=24) rfl rfl) fun _=>?_;refine Zu (Wg (t:=24) (p':=pInts [0]) rfl rfl) fun _=>?_)<;>(refine ZM (kk:=1) 25 RQ fun h25 ho25=>?_;refine Zu (En.freeze (l:=25) (t:=25) rfl rfl) fun _=>?_;refine Zu (Wg (t:=25) (p':=pInts [1]) rfl rfl) fun _=>?_)<;>refine xL 26 Zb (xL 27 (Zd 2 ZdW) ?_)<;>(refine yL 28 (Zl 2 ZdX) fun v28 h=>?_;cases h)<;>(refine cS 29 (cA call67 (Zit acts a)) fun v29 h=>?_;cases h)<;>refine xL 30 (ZO Zis) ?_<;>(refine YI 31 Zir fun h31 ho31=>?_;refine Zu (En.freeze (l:=31) (t:=31) rfl rfl) fun _=>?_;refine Zu (Wg (t:=31) (p':=pMvs [⟨0,1,WM acts a⟩]) rfl rfl) fun _=>?_)<;>refine xL 32 (ZO Zas) ?_<;>(refine cP 33 (cA (call84) hm) (fun va33 vb33 hva33 hvb33=>?_) (hsh:=r5.t E);cases hvb33)<;>refine xL 34 Zi (xL 35 Zi ?_)<;>refine Zz 4 Cz ?_<;>refine xL 5 Za ?_<;>refine Zc ?_)
   exact Z8 (k:=5) 4 kR (results51) rfl rfl rfl (Xa rfl) dC r5.s rfl
 · exact UV rfl hb20
theorem Zd1 (acts:List ByteArray) (a:ByteArray) {p0 p1 p2 p3 p4:PV} {E:Int} (r5:R5 p0 p1 p2 p3 p4) (hm:AF prog 84 [ZJ (R4 acts.length)] (· = .tup [.agg [p0,p1,p2,p3,p4],pInt E])):AF prog 51 [.agg [pInt 2,Yv a,Wl []],YF acts] (· = .tup [.agg [p0,p1,p2,p3,p4],pInt E]):=by
 obtain ⟨o0,o1,o2,o3,o4⟩:=r5.o
 refine AF.of_body 130 func51 rfl ntmps51 (Xa rfl) ?_
 intro w0 M0 vs hl hv
 obtain ⟨v0,v1,rfl⟩:=YX hl
 clear hl hv
 refine Ze ?_
 (refine ZB 2 3 fun h2=>?_<;>refine Zv [(.int .i64 0),(.int .i64 0),(.slice none 0 0),(.slice none 0 0),(.slice none 0 0)] 5 4 Zat fun h4=>?_<;>refine xL 5 Za ?_<;>refine Zk ?_)
 (refine xL 18 (Zd 2 Hc) ?_<;>(refine yL 19 (Zl 2 CB) fun v19 h=>?_;cases h)<;>refine Zk ?_)
 (refine xL 21 Yf (xL 20 Za ?_)<;>refine Zc ?_)
 refine cX ?_ ?_<;>intro hb20
 · exact UV hb20 dC
 · refine Ze ?_;(refine xL 37 Yf (xL 36 Za ?_)<;>refine Zc ?_)
   refine cX ?_ ?_<;>intro hb36
   · refine Ze ?_;(refine xL 38 Zb (xL 39 (ZW Dr) ?_)<;>(refine ZM (kk:=1) 40 RQ fun h40 ho40=>?_;refine Zu (En.freeze (l:=40) (t:=40) rfl rfl) fun _=>?_;refine Zu (Wg (t:=40) (p':=pInts [0]) rfl rfl) fun _=>?_)<;>(refine ZM (kk:=1) 41 RQ fun h41 ho41=>?_;refine Zu (En.freeze (l:=41) (t:=41) rfl rfl) fun _=>?_;refine Zu (Wg (t:=41) (p':=pInts [0]) rfl rfl) fun _=>?_)<;>(refine xL 42 (ZO Zas) ?_;refine Zu (Zjp (t:=42) (p':=ZJ (R4 acts.length)) rfl (Zng acts.length)) fun _=>?_)<;>(refine cP 43 (cA (call84) hm) (fun va43 vb43 hva43 hvb43=>?_) (hsh:=r5.t E);cases hvb43)<;>refine xL 44 Zi (xL 45 Zi ?_)<;>refine Zz 4 Cz ?_<;>refine xL 5 Za ?_<;>refine Zc ?_)
     exact Z8 (k:=5) 4 kR (results51) rfl rfl rfl (Xa rfl) dC r5.s rfl
   · exact UV rfl hb36
theorem PL:AggT prog 24 3=true:=by kernel_rfl
theorem W8:ElT prog 27 9 1 16 (.string ByteArray.empty):=⟨underlying27,by kernel_rfl,rfl,dC⟩
theorem Zd2:FldT prog 24 0 0=true:=by kernel_rfl
theorem Zd3:FldT prog 24 1 1=true:=by kernel_rfl
theorem Hd:FldT prog 24 2 2=true:=by kernel_rfl
theorem Zav:NoAgg prog 22=true:=by kernel_rfl
theorem Zd4:NoAgg prog 3=true:=by kernel_rfl
theorem GO:NoAgg prog 9=true:=by kernel_rfl
theorem Zaw:SlT prog 22 24 3=true:=by kernel_rfl
theorem KG:SlT prog 27 9 1=true:=by kernel_rfl
theorem Zax:SlT prog 36 3 1=true:=by kernel_rfl
theorem Zlc {a b:ByteArray} (h:(a.toList==b.toList)=true):a=b:=by
 rw [beq_iff_eq,ByteArray.toList_eq,ByteArray.toList_eq] at h
 exact WideShapes.bytes_inj h
theorem ZgX {a b:ByteArray} (h:(a.toList==b.toList)=false):a≠b:=fun e=>by
 subst e
 simp at h
theorem Zpx {x s:ByteArray} (h:(!(Op.bytesLess x.toList s.toList||x.toList==s.toList))=true):YN s x=true:=by
 simp only [UA,Uk] at h
 cases h2:YN s x
 · exact UV (Sy h.1 h2) (ZgX h.2)
 · rfl
theorem ZnQ {x s:ByteArray} (h:(!(Op.bytesLess x.toList s.toList||x.toList==s.toList))=false) (hne:x≠s):YN s x=false:=by
 cases h2:YN s x
 · rfl
 · exfalso;simp only [Bool.not_eq_false',Va] at h;rcases h with h|h
   · have h3:YN x s=true:=h;have:=JC h2 h3;rw [J1] at this;cases this
   · exact hne (Zlc h)
theorem OH (e:Nat) (L:List ByteArray) (x:ByteArray):PV.own e 1 (L.length+1) (L.map Yv++[Yv x])= .own e 1 (L++[x]).length ((L++[x]).map Yv):=sM
theorem Zd5 {α:Type} {p:α→Bool} {l:List α} {k:Nat} {x:α} (h:l[k]? =some x):(l.take (k+1)).any p=((l.take k).any p||p x):=by
 rw [ZR h,VA,Ua,Ub,Vh]
theorem Zld {l:List ByteArray} (h:PH l) {k:Nat} {x:ByteArray} (hx:l[k]? =some x):∀y∈l.take k,YN y x=true:=fun y hy=>by
 obtain ⟨j,hj⟩:=XU hy
 have hjk:j<k:=by have:=Zh hj;rw [Xn] at this;omega
 rw [XZ hjk] at hj
 obtain ⟨h1,e1⟩:=XK.1 hj
 obtain ⟨h2,e2⟩:=XK.1 hx
 have:=Ug.1 h j k h1 h2 hjk
 rw [e1,e2] at this
 exact this
theorem Zd6 (s:ByteArray) (m:List ByteArray):(Gq s m).length≤2*m.length+1:=by
 unfold Gq
 rw [Xb,Xb]
 have h1:=Vg (YN · s) m
 have h2:=Vg (YN s ·) m
 split<;>simp<;>omega
noncomputable def insR (s:ByteArray) (l:List ByteArray):List ByteArray:=open Classical in if s∈l then l else S9 s l
theorem ZgY {s:ByteArray} {l:List ByteArray} (h:s∈l):insR s l=l:=by unfold insR;rw [UU h]
theorem ZbN {s:ByteArray} {l:List ByteArray} (h:s∉l):insR s l=S9 s l:=by unfold insR;rw [UT h]
theorem ZbO {l:List ByteArray} {s:ByteArray}:insR s (canB l)=canB (l++[s]):=by
 by_cases h:s∈canB l
 · rw [ZgY h];exact ZgL h
 · rw [ZbN h];exact ZkV
set_option maxHeartbeats 2000000 in
theorem He (l : List ByteArray) (s:ByteArray) (hl:l.length≤100000) (ha:PH l):AF prog 97 [YF l,Yv s] (· =YF (insR s l)):=by
 refine AF.of_body 49 func97 rfl ntmps97 (Xa rfl) ?_
 intro w0 M0 vs hl hv
 obtain ⟨v0,v1,rfl⟩:=YX hl
 obtain rfl:=hv 1 _ _ rfl rfl
 clear hl hv
 refine Ze ?_
 (refine xL 4 Za ?_<;>refine Zk ?_)
 (refine xL 5 Za ?_<;>refine Zk ?_)
 (refine xL 6 Za ?_<;>refine Zk ?_)
 (refine xL 7 Za ?_<;>refine Zc ?_)
 refine Zq (KT 200 9 1 rfl) fun _=>?_
 refine ZE (ι:={q:Nat×Value×Bool//q.1≤l.length∧q.2.1.oneCell'=true∧s∉l.take q.1∧q.2.2=(l.take q.1).any (YN s ·)}) (fun k=>⟨[(0,_,_),(1,_,_),(5,k.1.2.1, .val k.1.2.1),(6, .bool k.1.2.2,ZN k.1.2.2),(7, .int .i64 k.1.1,pInt k.1.1)],[(200,k.1.2.1, .own 9 1 (Gq s (l.take k.1.1)).length ((Gq s (l.take k.1.1)).map Yv))]⟩) (fun k=>l.length-k.1.1) ⟨(0, .slice none 0 0,false),Xd _,rfl,fun h=>(by cases h),rfl⟩ (fun a w H=>H.weaken ⟨rfl,rfl,rfl,rfl,rfl,trivial⟩ ⟨rfl,trivial⟩) ?_
 rintro ⟨⟨i,hv,b⟩,hi,ho,hnm,hB⟩
 dsimp only
 dsimp only at hi ho hnm hB
 have hil:=Zd6 s (l.take i)
 have htl:(l.take i).length≤l.length:=by rw [Xn];omega
 refine Ze ?_
 (refine xL 8 Zb (xL 9 Zb (xL 10 (ZW KG) (xL 11 ZQ ?_)))<;>refine Zc ?_)
 refine cX ?_ ?_<;>intro hb11
 · first | exact bN hb11|(
 obtain ⟨x,hx⟩:=Zw (show i<l.length by omega);have e1:=Yb (f:=Yv) hx;have hlow:=Zld ha hx;refine Ze ?_;(refine xL 14 Zb (xL 15 Zb (xL 16 (ZH KG) ?_))<;>(refine yL 17 (Ya GO) fun v17 h=>?_;cases h)<;>refine xL 18 Zb (xL 19 KW ?_)<;>refine Zc ?_)
 refine cX ?_ ?_<;>intro hb19
 · first|exact bN hb19|(
 refine Ze ?_;(refine xL 20 Zb (xL 4 Za ?_)<;>refine Zc ?_)
 refine ZA (results97) rfl ?_;rw [ZgY (by rw [←Zlc hb19];exact Xc hx)])
 · first | exact bN hb19|(
 have hne:x≠s:=ZgX hb19;have hnm2:s∉l.take (i+1):=by
  rw [ZR hx,Xq,Xi];rintro (h|h)
  · exact hnm h
  · exact hne h.symm
 have hil2:=Zd6 s (l.take (i+1));(have htl2:(l.take (i+1)).length≤l.length:=by rw [Xn];omega);refine Ze ?_;(refine xL 21 Zb (xL 22 Z' (xL 23 Zb ?_))<;>(refine bL 23 (fun hb23=>?_) (fun hb23=>?_)<;>(first|refine kL 24 ?_|refine xL 24 Zb ?_))<;>(first|refine kL 25 ?_|refine xL 25 Zb ?_)<;>(first|refine kL 26 ?_|refine xL 26 (ZH KG) ?_)<;>(first|refine kL 27 ?_|(refine yL 27 (Ya GO) fun v27 h=>?_;cases h))<;>(first|refine kL 28 ?_|refine xL 28 Zb ?_)<;>(first|refine kL 29 ?_|refine xL 29 Zi4 ?_)<;>refine xL 30 ZG ?_<;>refine Zc ?_)<;>(
 refine cX ?_ ?_<;>intro hb30
 · first |exact bN hb30|(
 (have hbf:b=false:=by simpa using hb23);have hgt:YN s x=true:=Zpx hb30;(have hI:Gq s (l.take i)++[s]++[x]=Gq s (l.take (i+1)):=by rw [ZR hx,Zig (by rw [←hB,hbf]) hgt]);(have hB2:true=(l.take (i+1)).any (YN s ·):=by rw [Zd5 hx,hgt,Bool.or_true]);refine Ze ?_;(refine xL 31 Zb (xL 32 Zb ?_)<;>refine ZM (kk:=1) 33 W8 fun h33 ho33=>?_<;>(refine ZY 200 33 34 W8 fun h34 ho34=>?_;refine Zu (ZD (l:=34) 200 rfl rfl) fun _=>?_;refine Zu (ZF (l:=200) rfl (OH _ (Gq s (l.take i)) s)) fun _=>?_)<;>refine xL 5 Za ?_<;>refine Zk ?_)
 (refine xL 6 Za ?_<;>refine Zk ?_)
 (refine xL 35 Zb (xL 36 Zb (xL 37 Zb (xL 38 (ZH KG) ?_)))<;>(refine yL 39 (Ya GO) fun v39 h=>?_;cases h)<;>refine ZM (kk:=1) 40 W8 fun h40 ho40=>?_<;>(refine ZY 200 40 41 W8 fun h41 ho41=>?_;refine Zu (ZD (l:=41) 200 rfl rfl) fun _=>?_;refine Zu (ZF (l:=200) rfl (OH _ (Gq s (l.take i)++[s]) x)) fun _=>?_)<;>refine xL 5 Za ?_<;>refine Zk ?_)
 (refine xL 12 Zb (xL 13 ZK (xL 7 Za ?_))<;>refine Zc ?_)
 rw [hI]
 first
  | (exact Zn (
      ⟨(i+1,h41,true),Zh hx,ho41,hnm2,hB2⟩
      ) (by dsimp only;omega) ⟨rfl,rfl,rfl,rfl,rfl,trivial⟩ ⟨rfl,trivial⟩)
  | (exact Zn (
      ⟨(i+1,h41,b),Zh hx,ho41,hnm2,hB2⟩
      ) (by dsimp only;omega) ⟨rfl,rfl,rfl,rfl,rfl,trivial⟩ ⟨rfl,trivial⟩))
 · first |exact bN hb30|(
 have hI:Gq s (l.take i)++[x]=Gq s (l.take (i+1)):=by
  rw [ZR hx]
  cases hbc:b with
  |true=>exact (Zii (by rw [←hB,hbc]) hlow).1.symm
  |false=>first|exact (Zih (by rw [←hB,hbc]) (ZnQ hb30 hne) hne).symm|(exfalso;rw [hbc] at hb23;simp at hb23)
 have hB2:b=(l.take (i+1)).any (YN s ·):=by
  rw [Zd5 hx]
  cases hbc:b with
  |true=>rw [←hB,hbc];rfl
  |false=>first|(rw [←hB,hbc,ZnQ hb30 hne];rfl)|(exfalso;rw [hbc] at hb23;simp at hb23)
 refine Ze ?_;(refine xL 35 Zb (xL 36 Zb (xL 37 Zb (xL 38 (ZH KG) ?_)))<;>(refine yL 39 (Ya GO) fun v39 h=>?_;cases h)<;>refine ZM (kk:=1) 40 W8 fun h40 ho40=>?_<;>(refine ZY 200 40 41 W8 fun h41 ho41=>?_;refine Zu (ZD (l:=41) 200 rfl rfl) fun _=>?_;refine Zu (ZF (l:=200) rfl (OH _ (Gq s (l.take i)) x)) fun _=>?_)<;>refine xL 5 Za ?_<;>refine Zk ?_)
 (refine xL 12 Zb (xL 13 ZK (xL 7 Za ?_))<;>refine Zc ?_)
 rw [hI]
 first
  | (exact Zn (
      ⟨(i+1,h41,true),Zh hx,ho41,hnm2,hB2⟩
      ) (by dsimp only;omega) ⟨rfl,rfl,rfl,rfl,rfl,trivial⟩ ⟨rfl,trivial⟩)
  | (exact Zn (
      ⟨(i+1,h41,b),Zh hx,ho41,hnm2,hB2⟩
      ) (by dsimp only;omega) ⟨rfl,rfl,rfl,rfl,rfl,trivial⟩ ⟨rfl,trivial⟩)))))
 · first|exact bN hb11|(
 have hall:l.take i=l:=Xj oM;rw [hall] at hnm hB;refine Ze ?_;(refine xL 42 Zb (xL 43 Z' ?_)<;>refine Zc ?_)
 refine cX ?_ ?_<;>intro hb43
 · first|exact bN hb43|(
 (have hI:Gq s (l.take i)++[s]=S9 s l:=by rw [hall];exact Zij (by rw [←hB];simpa using hb43));refine Ze ?_;(refine xL 44 Zb (xL 45 Zb ?_)<;>refine ZM (kk:=1) 46 W8 fun h46 ho46=>?_<;>(refine ZY 200 46 47 W8 fun h47 ho47=>?_;refine Zu (ZD (l:=47) 200 rfl rfl) fun _=>?_;refine Zu (ZF (l:=200) rfl (OH _ (Gq s (l.take i)) s)) fun _=>?_)<;>refine xL 5 Za ?_<;>refine Zc ?_)
 refine Zq (ZF (l:=200) (p':= .own 9 1 (S9 s l).length ((S9 s l).map Yv)) rfl (by rw [hI])) fun _=>?_;refine Zq (En.freeze (l:=200) (t:=5) rfl rfl) fun _=>?_;rw [Lp];(refine Zt ?_<;>refine xL 48 Zb (xL 4 Za ?_)<;>refine Zc ?_)
 refine ZA (results97) rfl ?_;rw [ZbN hnm];rfl)
 · first|exact bN hb43|(
 (have hI:Gq s (l.take i)=S9 s l:=by rw [hall];exact ZkS (by rw [←hB];simpa using hb43));refine nav ?_;refine Zq (ZF (l:=200) (p':= .own 9 1 (S9 s l).length ((S9 s l).map Yv)) rfl (by rw [hI])) fun _=>?_;refine Zq (En.freeze (l:=200) (t:=5) rfl rfl) fun _=>?_;rw [Lp];(refine Zt ?_<;>refine xL 48 Zb (xL 4 Za ?_)<;>refine Zc ?_)
 refine ZA (results97) rfl ?_;rw [ZbN hnm];rfl))
theorem OI (l:List ByteArray):(canB l).length≤l.length:=by
 have h:=Oc l []
 unfold canB
 rw [Ln]
 simpa using h
theorem Zle {o:Int} {a:ByteArray} {l:List Nd} (hr:rightT (.mk o a l)=true) (h:o=1):Y2 (.mk o a l)=[a]:=by
 subst h
 unfold rightT at hr
 simp [Nd.op,Nd.l] at hr
 rw [Y2,UU rfl,hr.1];rfl
theorem Zd7:∀{l:List Nd},(∀x∈l,okT x=true)→(JR l).length≤szL l
 |[],_=>Xh _
 | x::l,h=>by
   rw [JR,szL,Xb];have h1:=H5 x (h x (Xm ..));have h2:=Zd7 fun y hy=>h y (Xo _ hy);omega
theorem Zlf (l:List Nd) (k:Nat):szL (l.take k)≤szL l:=by
 have h:=Pj (l.take k) (l.drop k)
 rw [VF] at h
 omega
set_option maxHeartbeats 2000000 in
theorem Ziu:∀(t:Nd),okT t=true→szT t≤1000→∀ks:List ByteArray,ks.length+szT t≤10000→AF prog 96 [YF (canB ks),pTr t] (· =YF (canB (ks++Y2 t))):=Nd.ind fun o a l ih hok hsz ks hk=>by
 have e0:pTr (.mk o a l)= .agg [pInt o,Yv a,Wl l]:=rfl
 rw [e0]
 obtain ⟨hr,hp⟩:=Js.1 hok
 have hcl:=OI ks
 rw [szT] at hsz hk
 have hlz:=Rt l
 refine AF.of_body 28 func96 rfl ntmps96 (Xa rfl) ?_
 intro w0 M0 vs hl hv
 obtain ⟨v0,v1,rfl⟩:=YX hl
 clear hl hv
 refine Ze ?_
 (refine ZB 3 3 fun h3=>?_<;>refine xL 4 Za ?_<;>refine Zk ?_)
 (refine xL 6 (Zd 3 Zd2) ?_<;>(refine yL 7 (Zl 3 Zd4) fun v7 h=>?_;cases h)<;>refine xL 8 Yf ?_<;>refine Zc ?_)
 refine cX ?_ ?_<;>intro hb8
 · first|exact bN hb8|(
 refine Ze ?_;(refine xL 9 Zb (xL 10 (Zd 3 Zd3) ?_)<;>(refine yL 11 (Zl 3 GO) fun v11 h=>?_;cases h)<;>(refine cS 12 (cA call97 (He (canB ks) a oM (OC ks))) fun v12 h=>?_;cases h)<;>refine xL 4 Za ?_<;>refine Zc ?_)
 refine ZA (results96) rfl ?_;rw [ZbO,Zle hr hb8])
 · first |exact bN hb8|(
 (have hact:Y2 (.mk o a l)=JR l:=by rw [Y2,UT hb8]);rw [hact];refine Ze ?_;(refine xL 5 Za ?_<;>refine Zc ?_)
 refine Zq (Wg (t:=0) (p':=YF (canB (ks++JR (l.take 0)))) rfl (by rw [VC,JR,Xr])) fun _=>?_;refine ZE (ι:={q:Nat×Value//q.1≤l.length}) (fun k=>⟨[(3,_,_),(0,k.1.2,YF (canB (ks++JR (l.take k.1.1)))),(5, .int .i64 k.1.1,pInt k.1.1)],[(3,_,_)]⟩) (fun k=>l.length-k.1.1) ⟨(0,v0),Xd _⟩ (fun a w H=>H.weaken ⟨rfl,rfl,rfl,trivial⟩ ⟨rfl,trivial⟩) ?_;rintro ⟨⟨i,V⟩,hi⟩;dsimp only;dsimp only at hi;refine Ze ?_;(refine xL 13 Zb (xL 14 (Zd 3 Hd) ?_)<;>(refine yL 15 (Zl 3 Zav) fun v15 h=>?_;cases h)<;>refine xL 16 (ZW Zaw) (xL 17 ZQ ?_)<;>refine Zc ?_)
 refine cX ?_ ?_<;>intro hb17
 · first|exact bN hb17|(
 obtain ⟨x,hx⟩:=Zw (show i<l.length by omega);have e1:((LN l).drop (i*3)).take 3=[pInt x.op,Yv x.act,Wl x.l]:=KN hx;have e2:=J2 hx;have hxm:=Xc hx;have hz1:=P5 hx;have hz2:=Zlf l (i+1);have hal:=Zd7 (l:=l.take i) fun y hy=>hp y (VK hy);refine Ze ?_;(refine xL 20 Zb (xL 21 (Zd 3 Hd) ?_)<;>(refine yL 22 (Zl 3 Zav) fun v22 h=>?_;cases h)<;>refine xL 23 Zb (xL 24 (ZH Zaw) ?_)<;>(refine yL 25 (WA PL) fun v25 h=>?_;cases h)<;>(refine cS 26 (cA call96 (ih x hxm (hp x hxm) oM (ks++JR (l.take i)) (by rw [Xb];omega))) fun v26 h=>?_;cases h)<;>refine xL 0 Za ?_<;>refine Zk ?_)
 (refine xL 18 Zb (xL 19 ZK (xL 5 Za ?_))<;>refine Zc ?_)
 rw [Xu,←Ts hx];refine Zn (
  ⟨(i+1,v26),Zh hx⟩
  ) (by dsimp only;omega) ⟨rfl,rfl,rfl,trivial⟩ ⟨rfl,trivial⟩)
 · first|exact bN hb17|(
 rw [Xj (show l.length≤i by omega)];refine Ze ?_;(refine xL 27 Zb (xL 4 Za ?_)<;>refine Zc ?_)
 exact ZA results96 rfl rfl))
theorem AF.nil0 {P:Program} {f:Nat} {ps:List PV} {R:PV→Prop} (h:AF P f (.sl 0 []::ps) R):AF P f (.val (.slice none 0 0)::ps) R:=fun M w vs hM hl hv=>h M w vs hM hl fun i v p hi hp=>by
 match i with
 | 0=>
   cases hp;have:=(hv 0 v _ hi rfl).vOf
   cases this;exact .emp none 0 (by unfold maxLen;omega) (fun _=>rfl)
 |i+1=>exact hv (i+1) v p hi hp
theorem Zay (t:Nd) (hf:FitT t):AF prog 54 [pTr t] (· = .tup [YF (actR t).1,pInt (actR t).2]):=by
 have hV:=OW t hf
 refine AF.of_body 14 func54 rfl ntmps54 (Xa rfl) ?_
 intro w0 M0 vs hl hv
 obtain ⟨v0,rfl⟩:=WE hl
 clear hl hv
 have e0:pTr t= .agg [pInt t.op,Yv t.act,Wl t.l]:=rfl
 rw [e0]
 refine Ze ?_
 (refine ZB 1 3 fun h1=>?_<;>refine xL 2 Za (xL 3 Za ?_)<;>refine Zk ?_)
 ((refine yL 5 (Zs 1 PL) fun v5 h=>?_;cases h)<;>(refine cS 6 (cA call20 (hV)) fun v6 h=>?_;cases h)<;>refine xL 7 Z' ?_<;>refine Zc ?_)
 refine cX ?_ ?_<;>intro hb7
 · first|exact bN hb7|(
 refine Ze ?_;(refine xL 2 Za (xL 3 Za ?_)<;>refine Zc ?_)
 refine YG (Y' (t:=2) rfl) fun _=>?_;refine KH (results54) rfl rfl ?_;rw [show actR t=([],1) by unfold actR;rw [UT (by simpa using hb7)]];rfl)
 · first|exact bN hb7|(
 (have hv:Kc t=true:=by simpa using hb7);have hok:=Tc hv;have hsz:=TU hv;have hA0:=Ziu t hok oM [] (by rw [XC];omega);rw [XW,ZdM] at hA0;have hA:=AF.nil0 hA0;(have hR:actR t=if (canB (Y2 t)).length≤40 then (canB (Y2 t),0) else ([],5):=by unfold actR canB;rw [UU hv,Ln]);refine Ze ?_;((refine yL 8 (Zs 1 PL) fun v8 h=>?_;cases h)<;>(refine cS 9 (cA call96 (hA)) fun v9 h=>?_;cases h)<;>refine xL 4 Za ?_<;>refine Zk ?_)
 (refine xL 10 Zb (xL 11 (ZW KG) (xL 12 Yz ?_))<;>refine Zc ?_)
 refine cX ?_ ?_<;>intro hb12
 · first|exact bN hb12|(
 refine Ze ?_;(refine xL 2 Za (xL 3 Za ?_)<;>refine Zc ?_)
 refine YG (Y' (t:=2) rfl) fun _=>?_;refine KH (results54) rfl rfl ?_;rw [hR,UT oM];rfl)
 · first|exact bN hb12|(
 refine Ze ?_;(refine xL 13 Zb (xL 2 Za (xL 3 Za ?_))<;>refine Zc ?_)
 refine KH (results54) rfl rfl ?_;rw [hR,UU oM]))
set_option maxHeartbeats 2000000 in
theorem Ziv (l m:List ByteArray) (hl:l.length≤10000) (hm:m.length≤10000):AF prog 55 [YF (canB l),YF m] (· =YF (canB (l++m))):=by
 have hcl:=OI l
 have hq1:((canB l).map Yv).length=(canB l).length*1:=by rw [Xe,Xp]
 have hq2:((canB l).map Yv).all En.one=true:=XA.2 fun p hp=>by
  obtain ⟨x,_,rfl⟩:=Xl.1 hp;rfl
 refine AF.of_body 30 func55 rfl ntmps55 (Xa rfl) ?_
 intro w0 M0 vs hl hv
 obtain ⟨v0,v1,rfl⟩:=YX hl
 clear hl hv
 refine Ze ?_
 (refine xL 4 Za ?_<;>refine Zk ?_)
 (refine J0 7 W8 fun h7 ho7=>?_<;>refine xL 8 Zb ?_<;>refine W2 7 9 W8 fun h9 ho9=>?_<;>refine xL 5 Za ?_<;>refine Zc ?_)
 refine Zq (En.freeze (l:=9) (t:=5) rfl rfl) fun _=>?_
 rw [show share (PV.own 9 1 (0+(canB l).length) ([]++(canB l).map Yv))=YF (canB (l++m.take 0)) from (by rw [Xw,XW,Lp,VC,Xr];rfl)]
 (refine Zt ?_<;>refine xL 6 Za ?_<;>refine Zc ?_)
 refine ZE (ι:={q:Nat×Value//q.1≤m.length}) (fun k=>⟨[(1,_,_),(5,k.1.2,YF (canB (l++m.take k.1.1))),(6, .int .i64 k.1.1,pInt k.1.1)],[]⟩) (fun k=>m.length-k.1.1) ⟨(0,h9),Xd _⟩ (fun a w H=>H.weaken ⟨rfl,rfl,rfl,trivial⟩ trivial) ?_
 rintro ⟨⟨i,V⟩,hi⟩
 dsimp only
 dsimp only at hi
 have hcl2:=OI (l++m.take i)
 have htk:(m.take i).length≤m.length:=by rw [Xn];omega
 rw [Xb] at hcl2
 refine Ze ?_
 (refine xL 10 Zb (xL 11 Zb (xL 12 (ZW KG) (xL 13 ZQ ?_)))<;>refine Zc ?_)
 refine cX ?_ ?_<;>intro hb13
 · first | exact bN hb13|(
 obtain ⟨x,hx⟩:=Zw (show i<m.length by omega);have e1:=Yb (f:=Yv) hx;refine Ze ?_;(refine xL 16 Zb (xL 17 Zb (xL 18 Zb (xL 19 (ZH KG) ?_)))<;>(refine yL 20 (Ya GO) fun v20 h=>?_;cases h)<;>(refine cS 21 (cA call22 (Zcf (canB (l++m.take i)) x)) fun v21 h=>?_;cases h)<;>refine xL 22 ZQ ?_<;>refine Zc ?_)
 refine cX ?_ ?_<;>intro hb22
 · first |exact bN hb22|(
 have hno:x∉canB (l++m.take i):=ZkO (acts:=canB (l++m.take i)) hb22;refine Ze ?_;(refine xL 23 Zb (xL 24 Zb (xL 25 Zb (xL 26 (ZH KG) ?_)))<;>(refine yL 27 (Ya GO) fun v27 h=>?_;cases h)<;>(refine cS 28 (cA call97 (He (canB (l++m.take i)) x oM (OC _))) fun v28 h=>?_;cases h)<;>refine xL 5 Za ?_<;>refine Zk ?_)
 (refine xL 14 Zb (xL 15 ZK (xL 6 Za ?_))<;>refine Zc ?_)
 first|rw [ZbO,Xu,←ZR hx]|rw [hsame]
 first
  | (exact Zn (
      ⟨(i+1,v28),Zh hx⟩
      ) (by dsimp only;omega) ⟨rfl,rfl,rfl,trivial⟩ trivial)
  | (exact Zn (
      ⟨(i+1,V),Zh hx⟩
      ) (by dsimp only;omega) ⟨rfl,rfl,rfl,trivial⟩ trivial))
 · first |exact bN hb22|(
 have hin:x∈canB (l++m.take i):=by
  obtain ⟨j,_,h⟩:=ZoC (acts:=canB (l++m.take i)) hb22;exact Xc h
 (have hsame:canB (l++m.take i)=canB (l++m.take (i+1)):=by rw [ZgL hin,Xu,←ZR hx]);refine Ze ?_;(refine xL 14 Zb (xL 15 ZK (xL 6 Za ?_))<;>refine Zc ?_)
 first|rw [ZbO,Xu,←ZR hx]|rw [hsame]
 first
  | (exact Zn (
      ⟨(i+1,v28),Zh hx⟩
      ) (by dsimp only;omega) ⟨rfl,rfl,rfl,trivial⟩ trivial)
  | (exact Zn (
      ⟨(i+1,V),Zh hx⟩
      ) (by dsimp only;omega) ⟨rfl,rfl,rfl,trivial⟩ trivial)))
 · first|exact bN hb13|(
 rw [Xj (show m.length≤i by omega)];refine Ze ?_;(refine xL 29 Zb (xL 4 Za ?_)<;>refine Zc ?_)
 exact ZA results55 rfl rfl)
theorem ZfW (l:List Int) (acts:List ByteArray) (hl:l.length≤1000000) (hin:∀i∈l,0≤i∧i<acts.length):AF prog 58 [pInts l,YF acts] (· =YF (nmI acts l)):=by
 refine AF.of_body 24 func58 rfl ntmps58 (Xa rfl) ?_
 intro w0 M0 vs hl hv
 obtain ⟨v0,v1,rfl⟩:=YX hl
 clear hl hv
 refine Ze ?_
 (refine xL 4 Za ?_<;>refine Zk ?_)
 (refine xL 5 Za ?_<;>refine Zk ?_)
 (refine xL 6 Za ?_<;>refine Zc ?_)
 refine Zq (KT 200 9 1 rfl) fun _=>?_
 refine ZE (ι:={q:Nat×Value//q.1≤l.length∧q.2.oneCell'=true}) (fun k=>⟨[(0,_,_),(1,_,_),(5,k.1.2, .val k.1.2),(6, .int .i64 k.1.1,pInt k.1.1)],[(200,k.1.2, .own 9 1 (nmI acts (l.take k.1.1)).length ((nmI acts (l.take k.1.1)).map Yv))]⟩) (fun k=>l.length-k.1.1) ⟨(0, .slice none 0 0),Xd _,rfl⟩ (fun a w H=>H.weaken ⟨rfl,rfl,rfl,rfl,trivial⟩ ⟨rfl,trivial⟩) ?_
 rintro ⟨⟨i,hv⟩,hi,ho⟩
 dsimp only
 dsimp only at hi ho
 refine Ze ?_
 (refine xL 7 Zb (xL 8 Zb (xL 9 (ZW Zax) (xL 10 ZQ ?_)))<;>refine Zc ?_)
 refine cX ?_ ?_<;>intro hb10
 · first|exact bN hb10|(
 obtain ⟨x,hx⟩:=Zw (show i<l.length by omega);have e1:=Yb (f:=pInt) hx;have hin:=hin x (Xc hx);obtain ⟨j,rfl⟩:∃j:Nat,x=(j:Int):=⟨x.toNat,oM⟩;obtain ⟨s,hs⟩:=Zw (show j<acts.length by omega);have e2:=Yb (f:=Yv) hs;(have hlen:(nmI acts (l.take i)).length≤1000000:=by rw [ZgW,Xn];omega);have hsn:nmI acts (l.take (i+1))=nmI acts (l.take i)++[s]:=by
  rw [ZdZ acts hx];show _++[(acts[j]?).getD ByteArray.empty]=_;rw [hs];rfl
 refine Ze ?_;(refine xL 13 Zb (xL 14 Zb (xL 15 Zb (xL 16 Zb (xL 17 (ZH Zax) ?_))))<;>(refine yL 18 (Ya Zd4) fun v18 h=>?_;cases h)<;>refine xL 19 (ZH KG) ?_<;>(refine yL 20 (Ya GO) fun v20 h=>?_;cases h)<;>refine ZM (kk:=1) 21 W8 fun h21 ho21=>?_<;>refine ZY 200 21 22 W8 fun h22 ho22=>?_<;>refine xL 5 Za ?_<;>refine Zk ?_)
 (refine xL 11 Zb (xL 12 ZK (xL 6 Za ?_))<;>refine Zc ?_)
 refine Kn (ZD (l:=22) 200 rfl rfl) fun _=>?_;rw [show (nmI acts (l.take i)).map Yv++[_]=(nmI acts (l.take (i+1))).map Yv from (by rw [hsn,Xs];rfl),show (nmI acts (l.take i)).length+1=(nmI acts (l.take (i+1))).length by rw [hsn];simp];refine Zn (
  ⟨(i+1,h22),Zh hx,ho22⟩
  ) (by dsimp only;omega) ⟨rfl,rfl,rfl,rfl,trivial⟩ ⟨rfl,trivial⟩)
 · first|exact bN hb10|(
 refine nav ?_;rw [Xj (show l.length≤i by omega)];refine Zq (En.freeze (l:=200) (t:=5) rfl rfl) fun _=>?_;rw [Lp];(refine Zt ?_<;>refine xL 23 Zb (xL 4 Za ?_)<;>refine Zc ?_)
 exact ZA results58 rfl rfl)
theorem Gr:AggT prog 24 3=true:=by kernel_rfl
theorem Yk:AggT prog 39 5=true:=by kernel_rfl
theorem Se:ElT prog 122 39 5 88 (.agg #[(.int .i64 0),(.int .i64 0),(.slice none 0 0),(.slice none 0 0),(.slice none 0 0)]):=⟨underlying122,by kernel_rfl,rfl,dC⟩
theorem GP:FldT prog 24 0 0=true:=by kernel_rfl
theorem Hf:FldT prog 24 2 2=true:=by kernel_rfl
theorem Zaz:NoAgg prog 22=true:=by kernel_rfl
theorem Rf:NoAgg prog 3=true:=by kernel_rfl
theorem Jz:SlT prog 122 39 5=true:=by kernel_rfl
theorem RR:SlT prog 22 24 3=true:=by kernel_rfl
theorem TK:W1 prog 39=some ((.agg #[(.int .i64 0),(.int .i64 0),(.slice none 0 0),(.slice none 0 0),(.slice none 0 0)]),([0,1,2,3,4]:List Nat).map fun o=>(o,1)):=by kernel_rfl
theorem ZaA:ZeroT prog 24 (.agg #[(.int .i64 0),(.string ByteArray.empty),(.slice none 0 0)]):=by unfold ZeroT;kernel_rfl
theorem JQ:ZeroT prog 39 (.agg #[(.int .i64 0),(.int .i64 0),(.slice none 0 0),(.slice none 0 0),(.slice none 0 0)]):=by unfold ZeroT;kernel_rfl
structure PtsOk (acts:List ByteArray) (l:List Nd) (i:Nat) (Ps:List Aut):Prop where
 le:i≤l.length
 eq:(l.take i).map (bldT acts)=Ps.map some
 ok:∀A∈Ps,IsMin A∧A.syms=acts.length
theorem PtsOk.len {acts:List ByteArray} {l:List Nd} {i:Nat} {Ps:List Aut} (h:PtsOk acts l i Ps):Ps.length=i:=by
 have:=congrArg List.length h.eq
 rw [Xe,Xe,Xn] at this
 have:=h.le;omega
theorem PtsOk.next {acts:List ByteArray} {l:List Nd} {i:Nat} {Ps:List Aut} {x:Nd} {A:Aut} (h:PtsOk acts l i Ps) (hx:l[i]? =some x) (hA:bldT acts x=some A) (hb:BldOk acts.length (bldT acts x)):PtsOk acts l (i+1) (Ps++[A]):=
 ⟨Zh hx,by rw [ZR hx,Xs,Xs,h.eq,UI,UI,hA],fun B hB=>by
  rcases Xq.1 hB with h1|h1
  · exact h.ok B h1
  · rw [Xi.1 h1];exact hb A hA⟩
theorem PtsOk.all {acts:List ByteArray} {l:List Nd} {i:Nat} {Ps:List Aut} (h:PtsOk acts l i Ps) (hi:l.length≤i):l.map (bldT acts)=Ps.map some∧Ps.length=l.length:=by
 have h1:=h.eq
 rw [Xj hi] at h1
 exact ⟨h1,by have:=congrArg List.length h1;simpa using this.symm⟩
theorem ZgZ {acts:List ByteArray} {a b:Aut} (o:Int) (ha:IsMin a∧a.syms=acts.length) (hb:IsMin b∧b.syms=acts.length):Ws o a b=lim (okO (Ws o a b)):=(RL o ha.1 hb.1 ha.2 hb.2).lim
theorem Zlg {acts:List ByteArray} {a b C:Aut} (o:Int) (ha:IsMin a∧a.syms=acts.length) (hb:IsMin b∧b.syms=acts.length) (h:okO (Ws o a b)=some C):IsMin C∧C.syms=acts.length:=((RL o ha.1 hb.1 ha.2 hb.2).ok h).2
theorem ZaB {o:Int} {m n:List (Option Aut)} (h:m≠[]) (hn:foldX o m=none):foldX o (m++n)=none:=by
 cases m with
 |nil=>exact UV rfl h
 | cons y m=>
   rw [Ve];show (m++n).foldl (GL o) y=none;rw [VH,show m.foldl (GL o) y=none from hn,Dh]
structure FldOk (acts:List ByteArray) (o:Int) (A0:Aut) (Qs:List Aut) (j:Nat) (R:Aut):Prop where
 le:j≤Qs.length
 eq:foldX o ((A0::Qs.take j).map some)=some R
 ok:IsMin R∧R.syms=acts.length
theorem FldOk.step {acts:List ByteArray} {o:Int} {A0 R B:Aut} {Qs:List Aut} {j:Nat} (h:FldOk acts o A0 Qs j R) (hB:Qs[j]? =some B):foldX o ((A0::Qs.take (j+1)).map some)=okO (Ws o R B):=by
 rw [ZR hB,←Ve,Xs,UI,Co sM,h.eq];rfl
theorem FldOk.next {acts:List ByteArray} {o:Int} {A0 R B C:Aut} {Qs:List Aut} {j:Nat} (h:FldOk acts o A0 Qs j R) (hB:Qs[j]? =some B) (hb:IsMin B∧B.syms=acts.length) (hC:okO (Ws o R B)=some C):FldOk acts o A0 Qs (j+1) C:=
 ⟨Zh hB,by rw [h.step hB,hC],Zlg o h.ok hb hC⟩
theorem FldOk.none {acts:List ByteArray} {o:Int} {A0 R B:Aut} {Qs:List Aut} {j:Nat} (h:FldOk acts o A0 Qs j R) (hB:Qs[j]? =some B) (hC:okO (Ws o R B)=Option.none):foldX o ((A0::Qs).map some)=Option.none:=by
 have h1:=h.step hB
 rw [hC] at h1
 have:=ZaB (n:=(Qs.drop (j+1)).map some) sM h1
 rw [←Xs,Ve,VF] at this
 exact this
theorem FldOk.all {acts:List ByteArray} {o:Int} {A0 R:Aut} {Qs:List Aut} {j:Nat} (h:FldOk acts o A0 Qs j R) (hj:Qs.length≤j):foldX o ((A0::Qs).map some)=some R:=by
 have:=h.eq
 rwa [Xj hj] at this
theorem Ziw (A:Aut) (Qs:List Aut):PV.sl ((A::Qs).length-1) ((((A::Qs).flatMap Tf).drop (1*5)).take (((A::Qs).length-1)*5))= .sl Qs.length (Qs.flatMap Tf):=by
 have h:((A::Qs).flatMap Tf).drop (1*5)=Qs.flatMap Tf:=rfl
 rw [h,Xk,Nat.add_sub_cancel,Xj (by rw [flat_len Ra];exact Xh _)]
theorem Znh {P:Program} {c:Ctx} {Q:Exit→Act→World→Prop} {sL hP:List (Nat×Ent)} {ι:Type} {x z y:Code} {id:Nat} (S:ι→St) (h:aC P c x (Exit.then (z.wp P (Exit.inBlock id (Exit.then (fun a w=>∃i,Holds c (S i) a w) Q))) (Exit.inBlock id (Exit.then (fun a w=>∃i,Holds c (S i) a w) Q))) (⟨sL,hP⟩:St)) (k:∀i,aC P c y Q (S i)):aC P c x (Exit.then (z.wp P (Exit.inBlock id (Exit.then (y.wp P Q) Q))) (Exit.inBlock id (Exit.then (y.wp P Q) Q))) (⟨sL,hP⟩:St):=fun a w H=>by
 have hm:∀e a w,Exit.inBlock id (Exit.then (fun a w=>∃i,Holds c (S i) a w) Q) e a w→Exit.inBlock id (Exit.then (y.wp P Q) Q) e a w:=fun e a w hq=>by
  cases e with
  |normal=>obtain ⟨i,hi⟩:=hq;exact k i a w hi
  | exit id'=>
    simp only [Exit.inBlock] at hq ⊢;split
    · rename_i he;rw [UU he] at hq;obtain ⟨i,hi⟩:=hq;exact k i a w hi
    · rename_i he;rw [UT he] at hq;exact hq
  |_=>exact hq
 refine wp_mono (h a w H) fun e a' w' hq=>?_
 cases e with
 |normal=>exact wp_mono hq hm
 |exit id'=>exact hm (.exit id') a' w' hq
 |_=>exact hq
set_option maxHeartbeats 4000000 in
theorem Zd8 (o : Int) (ho:o=3∨o=4∨o=5) (acts:List ByteArray) (a:ByteArray) (x0:Nd) (l0 l:List Nd) (hl0:l=x0::l0) (hl:l.length≤1000000) (ih:∀x∈l,AF prog 51 [pTr x,YF acts] (· =resW (lim (bldT acts x)))) (hb:∀x∈l,BldOk acts.length (bldT acts x)):AF prog 51 [.agg [pInt o,Yv a,Wl l],YF acts] (· =resW (lim (foldX o (l.map (bldT acts))))):=by
 have hlen0:l.length=l0.length+1:=by rw [hl0];rfl
 have hc3:o=3→∀R B,AF prog 87 [ZJ R,ZJ B] (· =resW (Ws o R B)):=fun h R B=>by subst h;exact Do R B
 have hu:o=4→∀R B,AF prog 88 [ZJ R,ZJ B] (· =resW (Ws o R B)):=fun h R B=>by subst h;exact Zk5 R B
 have hs:o=5→∀R B,AF prog 89 [ZJ R,ZJ B] (· =resW (Ws o R B)):=fun h R B=>by subst h;exact ZfV R B
 refine AF.of_body 130 func51 rfl ntmps51 (Xa rfl) ?_
 intro w0 M0 vs hl hv
 obtain ⟨v0,v1,rfl⟩:=YX hl
 clear hl hv
 refine Ze ?_
 (refine ZB 2 3 fun h2=>?_<;>refine Zv [(.int .i64 0),(.int .i64 0),(.slice none 0 0),(.slice none 0 0),(.slice none 0 0)] 5 4 JQ fun h4=>?_<;>refine xL 5 Za ?_<;>refine Zk ?_)
 (refine xL 18 (Zd 2 GP) ?_<;>(refine yL 19 (Zl 2 Rf) fun v19 h=>?_;cases h)<;>refine Zk ?_)
 (refine xL 21 Yf (xL 20 Za ?_)<;>refine Zc ?_)
 refine cX ?_ ?_<;>intro hb20
 · exact UV (show o=1 by simpa using hb20) oM
 · refine Ze ?_;(refine xL 37 Yf (xL 36 Za ?_)<;>refine Zc ?_)
   refine cX ?_ ?_<;>intro hb36
   · exact UV (show o=2 by simpa using hb36) oM
   · refine Ze ?_;(refine xL 6 Za ?_<;>refine Zk ?_)
     (refine xL 46 (Zd 2 Hf) ?_<;>(refine yL 47 (Zl 2 Zaz) fun v47 h=>?_;cases h)<;>refine xL 48 (ZW RR) (xL 49 Zb ?_)<;>refine Zc ?_)
     refine Zq (KT 200 39 5 rfl) fun _=>?_;refine ZE (ι:={q:Nat×Value×List Aut//PtsOk acts l q.1 q.2.2∧q.2.1.oneCell'=true}) (fun k=>⟨[(1,_,_),(2,_,_),(4,_,_),(5,_,_),(47,_,_),(48,_,_),(6,k.1.2.1, .val k.1.2.1),(49, .int .i64 k.1.1,pInt k.1.1)],[(2,_,_),(4,_,_),(200,k.1.2.1, .own 39 5 k.1.2.2.length (k.1.2.2.flatMap Tf))]⟩) (fun k=>l.length-k.1.1) ⟨(0, .slice none 0 0,[]),⟨Xd _,rfl,fun _ h=>(by cases h)⟩,rfl⟩ (fun a w H=>H.weaken ⟨rfl,rfl,rfl,rfl,rfl,rfl,rfl,rfl,trivial⟩ ⟨rfl,rfl,rfl,trivial⟩) ?_;rintro ⟨⟨i,hv,Ps⟩,hP,ho⟩;dsimp only;dsimp only at hP ho;have hPl:=hP.len;have hPi:=hP.le;have hPc:(Ps.flatMap Tf).length=Ps.length*5:=flat_len Ra Ps;refine Ze ?_;(refine xL 50 ZQ ?_<;>refine Zc ?_)
     refine cX ?_ ?_<;>intro hb50
     · first |exact bN hb50|(
 obtain ⟨x,hx⟩:=Zw (show i<l.length by omega);have e1:((LN l).drop (i*3)).take 3=[pInt x.op,Yv x.act,Wl x.l]:=KN hx;have e2:=J2 hx;obtain ⟨p0,p1,p2,p3,p4,E,r5,hres,hc⟩:=Hw (bldT acts x);have hxa:=ih x (Xc hx);rw [hres] at hxa;obtain ⟨o0,o1,o2,o3,o4⟩:=r5.o;refine Ze ?_;(refine xL 51 (ZH RR) ?_<;>(refine yL 52 (WA Gr) fun v52 h=>?_;cases h)<;>refine Zv [(.int .i64 0),(.string ByteArray.empty),(.slice none 0 0)] 3 8 ZaA fun h8=>?_<;>refine Zz 8 Gr ?_<;>refine Zk ?_)
 ((refine yL 54 (Zs 8 Gr) fun v54 h=>?_;cases h)<;>refine xL 55 Zb ?_<;>(refine cP 56 (cA (call51) hxa) (fun va56 vb56 hva56 hvb56=>?_) (hsh:=r5.t E);cases hvb56)<;>refine xL 53 Zb (xL 57 Zi (xL 58 Zi ?_))<;>refine Zv [(.int .i64 0),(.int .i64 0),(.slice none 0 0),(.slice none 0 0),(.slice none 0 0)] 5 9 JQ fun h9=>?_<;>refine Zz 9 Yk ?_<;>refine xL 10 Za ?_<;>refine Zk ?_)
 (refine xL 59 Zb (xL 60 Yn ?_)<;>refine Zc ?_)
 refine cX ?_ ?_<;>intro hb60
 · first|exact bN hb60|(
 have hn:bldT acts x=none∧E=13:=by
  rcases hc with h|⟨A,_,h,_⟩
  · exact h
  · exact UV h (by simpa using hb60)
 obtain ⟨hn,rfl⟩:=hn;have hF:foldX o (l.map (bldT acts))=none:=Di (Xl.2 ⟨x,Xc hx,hn⟩);rw [hF];refine Ze ?_;(refine xL 61 (ZO TK) (xL 62 Zb ?_)<;>refine Zz 4 Yk ?_<;>refine xL 5 Za ?_<;>refine Zc ?_)
 exact Z8 (k:=5) 4 kR (results51) rfl rfl rfl (Xa rfl) dC rfl rfl)
 · first|exact bN hb60|(
 have hA:∃A,bldT acts x=some A∧E=0∧p0=pInt A.n∧p1=pInt A.syms∧p2=pInts A.start∧p3=pInts A.fin∧p4=pMvs A.moves:=by
  rcases hc with ⟨_,h⟩|h
  · exact UV h (by simp at hb60;omega)
  · exact h
 clear hc;obtain ⟨A,hA,rfl,rfl,rfl,rfl,rfl,rfl⟩:=hA;have hnx:=hP.next hx hA (hb x (Xc hx))
 refine Ze ?_;(refine xL 63 Zb ?_<;>(refine yL 64 (Zs 9 Yk) fun v64 h=>?_;cases h)<;>refine YI 65 Se fun h65 ho65=>?_<;>(refine ZY 200 65 66 Se fun h66 ho66=>?_;refine Zu (ZD (l:=66) 200 rfl rfl) fun _=>?_;refine Zu (ZF (l:=200) rfl (ZdY _ Ps A)) fun _=>?_)<;>refine xL 6 Za ?_<;>refine Zk ?_)
 (refine xL 67 ZK (xL 49 Zb ?_)<;>refine Zc ?_)
 refine Zn (
  ⟨(i+1,h66,Ps++[A]),hnx,ho66⟩
  ) (by dsimp only;omega) ⟨rfl,rfl,rfl,rfl,rfl,rfl,rfl,rfl,trivial⟩ ⟨rfl,rfl,rfl,trivial⟩))
     · first | exact bN hb50|(
 obtain ⟨hall,hPll⟩:=hP.all (show l.length≤i by omega);have hok:=hP.ok;rw [hall];obtain ⟨A0,Qs,rfl⟩:∃A0 Qs,Ps=A0::Qs:=by
  cases Ps with
  |nil=>rw [XC] at hPll;omega
  |cons y m=>exact ⟨y,m,rfl⟩
 refine Zq (En.freeze (l:=200) (t:=6) rfl rfl) fun _=>?_;rw [CC _ _ _ rfl];have e3:(((A0::Qs).flatMap Tf).drop (0*5)).take 5=[pInt A0.n,pInt A0.syms,pInts A0.start,pInts A0.fin,pMvs A0.moves]:=rfl;(have e4:0*5+5≤((A0::Qs).flatMap Tf).length:=by rw [hPc,Xk];omega);have hQl:0<(A0::Qs).length:=Nat.zero_lt_succ _;(have hQb:Qs.length≤1000000:=by rw [Xk] at hPll;omega);refine Ze ?_;(refine xL 68 (Zd 2 GP) ?_<;>(refine yL 69 (Zl 2 Rf) fun v69 h=>?_;cases h)<;>refine xL 70 Yf ?_<;>refine Zc ?_)
 refine cX ?_ ?_<;>intro hb70
 · exact UV (show o=6 by simpa using hb70) oM
 · refine Ze ?_;(refine xL 13 Za ?_<;>refine Zk ?_)
   (refine xL 101 (Zd 2 GP) ?_<;>(refine yL 102 (Zl 2 Rf) fun v102 h=>?_;cases h)<;>refine Zc ?_)
   refine Znh (fun F:{F:Nat//(∀R B,AF prog F [ZJ R,ZJ B] (· =resW (Ws o R B)))∧∀args w,(callFunc F args).run prog w= .ok (.enter F args) w}=>⟨[(2,padd (sbase h2) 0, .val (padd (sbase h2) 0)),(4,padd (sbase h4) 0, .val (padd (sbase h4) 0)),(6,hv, .sl (A0::Qs).length ((A0::Qs).flatMap Tf)),(13, .func (.func F.1) #[] #[], .fn F.1 [])],[(2,h2, .own 24 3 1 [pInt o,Yv a,Wl l]),(4,h4, .own 39 5 1 ([.int .i64 0, .int .i64 0, .slice none 0 0, .slice none 0 0, .slice none 0 0].map PV.val))]⟩) ?_ ?_
   · (refine Zt ?_<;>refine xL 104 Yf (xL 103 Za ?_)<;>refine Zc ?_)
     refine cX ?_ ?_<;>intro hb103
     · first|exact bN hb103|(
 have hF:(∀R B,AF prog 88 [ZJ R,ZJ B] (· =resW (Ws o R B)))∧∀args w,(callFunc 88 args).run prog w= .ok (.enter 88 args) w:=⟨hu (by simpa using hb103),call88⟩;refine Ze ?_;(refine xL 13 Za ?_<;>refine Zc ?_)
 exact WJ ⟨_,hF⟩ ⟨rfl,rfl,rfl,rfl,trivial⟩ ⟨rfl,rfl,trivial⟩)
     · first|exact bN hb103|(
 refine Ze ?_;(refine xL 106 Yf (xL 105 Za ?_)<;>refine Zc ?_)
 refine cX ?_ ?_<;>intro hb105
 · first|exact bN hb105|(
 have hF:(∀R B,AF prog 89 [ZJ R,ZJ B] (· =resW (Ws o R B)))∧∀args w,(callFunc 89 args).run prog w= .ok (.enter 89 args) w:=⟨hs (by simpa using hb105),call89⟩;refine Ze ?_;(refine xL 13 Za ?_<;>refine Zc ?_)
 exact WJ ⟨_,hF⟩ ⟨rfl,rfl,rfl,rfl,trivial⟩ ⟨rfl,rfl,trivial⟩)
 · first|exact bN hb105|(
 have hF:(∀R B,AF prog 87 [ZJ R,ZJ B] (· =resW (Ws o R B)))∧∀args w,(callFunc 87 args).run prog w= .ok (.enter 87 args) w:=⟨hc3 (by have h1:¬o=4:=(by simpa using hb103);have h2:¬o=5:=(by simpa using hb105);omega),call87⟩;refine nav ?_;exact WJ ⟨_,hF⟩ ⟨rfl,rfl,rfl,rfl,trivial⟩ ⟨rfl,rfl,trivial⟩))
   · rintro ⟨F,hFn,hCF⟩;dsimp only;refine Ze ?_;(refine xL 107 Zb (xL 108 (ZH Jz) ?_)<;>(refine yL 109 (WA Yk) fun v109 h=>?_;cases h)<;>refine Zv [(.int .i64 0),(.int .i64 0),(.slice none 0 0),(.slice none 0 0),(.slice none 0 0)] 5 14 JQ fun h14=>?_<;>refine Zz 14 Yk ?_<;>refine Zk ?_)
     (refine xL 110 Zb ?_<;>refine xL 111 (OP (i:=1) (j:=(A0::Qs).length) Jz rfl rfl rfl rfl (Nat.succ_le_of_lt hQl) (Xh _) hPc) ?_<;>(refine Zu (Wg (t:=111) (p':= .sl Qs.length (Qs.flatMap Tf)) rfl (Ziw A0 Qs)) fun _=>?_;refine xL 112 (ZW Jz) ?_)<;>refine xL 113 Zb ?_<;>refine Zc ?_)
     refine ZE (ι:={q:Nat×Aut//FldOk acts o A0 Qs q.1 q.2}) (fun k=>⟨[(2,_,_),(4,_,_),(13,_,_),(111,_,_),(112,_,_),(14,_,_),(113, .int .i64 k.1.1,pInt k.1.1)],[(2,_,_),(4,_,_),(14,h14, .own 39 5 1 (Tf k.1.2))]⟩) (fun k=>Qs.length-k.1.1) ⟨(0,A0),Xd _,rfl,hok A0 (Xm ..)⟩ (fun a w H=>H.weaken ⟨rfl,rfl,rfl,rfl,rfl,rfl,rfl,trivial⟩ ⟨rfl,rfl,rfl,trivial⟩) ?_;rintro ⟨⟨j,R⟩,hF⟩;dsimp only;dsimp only at hF;have hFj:=hF.le;refine Ze ?_;(refine xL 114 ZQ ?_<;>refine Zc ?_)
     refine cX ?_ ?_<;>intro hb114
     · first |exact bN hb114|(
 obtain ⟨B,hB⟩:=Zw (show j<Qs.length by omega);have e5:=Yt Ra Qs j B hB;have e6:=YV Ra hB;have hBm:=hok B (Xo _ (Xc hB));obtain ⟨p0,p1,p2,p3,p4,E,r5,hres,hc⟩:=Hw (okO (Ws o R B));have hj:AF prog F [ZJ R,ZJ B] (· =resW (Ws o R B)):=hFn R B;rw [ZgZ o hF.ok hBm,hres] at hj;obtain ⟨o0,o1,o2,o3,o4⟩:=r5.o;refine Ze ?_;(refine xL 115 (ZH Jz) ?_<;>(refine yL 116 (WA Yk) fun v116 h=>?_;cases h)<;>refine Zv [(.int .i64 0),(.int .i64 0),(.slice none 0 0),(.slice none 0 0),(.slice none 0 0)] 5 16 JQ fun h16=>?_<;>refine Zz 16 Yk ?_<;>refine Zk ?_)
 (refine xL 17 Za ?_<;>refine Zk ?_)
 (refine xL 118 Zb ?_<;>(refine yL 119 (Zs 14 Yk) fun v119 h=>?_;cases h)<;>(refine yL 120 (Zs 16 Yk) fun v120 h=>?_;cases h)<;>(refine cP 121 (GX (f:=F) (ps:=[]) rfl ⟨_,rfl⟩ hCF rfl hj) (fun va121 vb121 hva121 hvb121=>?_) (hsh:=r5.t E);cases hvb121)<;>refine xL 117 Zb (xL 122 Zi (xL 123 Zi ?_))<;>refine Zz 14 Yk ?_<;>refine xL 17 Za ?_<;>refine Zk ?_)
 (refine xL 124 Zb (xL 125 Yn ?_)<;>refine Zc ?_)
 refine cX ?_ ?_<;>intro hb125
 · first|exact bN hb125|(
 have hn:okO (Ws o R B)=none∧E=13:=by
  rcases hc with h|⟨A,_,h,_⟩
  · exact h
  · exact UV h (by simpa using hb125)
 obtain ⟨hn,rfl⟩:=hn;rw [hF.none hB hn];refine Ze ?_;(refine xL 126 (ZO TK) (xL 127 Zb ?_)<;>refine Zz 4 Yk ?_<;>refine xL 5 Za ?_<;>refine Zc ?_)
 exact Z8 (k:=5) 4 kR (results51) rfl rfl rfl (Xa rfl) dC rfl rfl)
 · first|exact bN hb125|(
 have hA:∃A,okO (Ws o R B)=some A∧E=0∧p0=pInt A.n∧p1=pInt A.syms∧p2=pInts A.start∧p3=pInts A.fin∧p4=pMvs A.moves:=by
  rcases hc with ⟨_,h⟩|h
  · exact UV h (by simp at hb125;omega)
  · exact h
 clear hc;obtain ⟨C,hC,rfl,rfl,rfl,rfl,rfl,rfl⟩:=hA;have hFn:=hF.next hB hBm hC
 refine Ze ?_;(refine xL 128 ZK (xL 113 Zb ?_)<;>refine Zc ?_)
 refine Zn (
  ⟨(j+1,C),hFn⟩
  ) (by dsimp only;omega) ⟨rfl,rfl,rfl,rfl,rfl,rfl,rfl,trivial⟩ ⟨rfl,rfl,rfl,trivial⟩))
     · first|exact bN hb114|(
 rw [hF.all (show Qs.length≤j by omega)];refine Ze ?_;((refine yL 129 (Zs 14 Yk) fun v129 h=>?_;cases h)<;>refine Zz 4 Yk ?_<;>refine xL 5 Za ?_<;>refine Zc ?_)
 exact Z8 (k:=5) 4 kR (results51) rfl rfl rfl (Xa rfl) dC rfl rfl))
theorem OJ {acts:List ByteArray} {a b:Aut} (ha:IsMin a∧a.syms=acts.length) (hb:IsMin b∧b.syms=acts.length):MinO acts.length (GK a b):=S8 ha.1 hb.1 ha.2 hb.2
set_option maxHeartbeats 4000000 in
theorem ZbP (acts :List ByteArray) (a:ByteArray) (x0 y0:Nd) (l:List Nd) (hl0:l=[x0,y0]) (ih:∀x∈l,AF prog 51 [pTr x,YF acts] (· =resW (lim (bldT acts x)))) (hb:∀x∈l,BldOk acts.length (bldT acts x)):AF prog 51 [.agg [pInt 6,Yv a,Wl l],YF acts] (· =resW (lim (foldX 6 (l.map (bldT acts))))):=by
 have hlen0:l.length=2:=by rw [hl0];rfl
 refine AF.of_body 130 func51 rfl ntmps51 (Xa rfl) ?_
 intro w0 M0 vs hl hv
 obtain ⟨v0,v1,rfl⟩:=YX hl
 clear hl hv
 refine Ze ?_
 (refine ZB 2 3 fun h2=>?_<;>refine Zv [(.int .i64 0),(.int .i64 0),(.slice none 0 0),(.slice none 0 0),(.slice none 0 0)] 5 4 JQ fun h4=>?_<;>refine xL 5 Za ?_<;>refine Zk ?_)
 (refine xL 18 (Zd 2 GP) ?_<;>(refine yL 19 (Zl 2 Rf) fun v19 h=>?_;cases h)<;>refine Zk ?_)
 (refine xL 21 Yf (xL 20 Za ?_)<;>refine Zc ?_)
 refine cX ?_ ?_<;>intro hb20
 · exact UV hb20 dC
 · refine Ze ?_;(refine xL 37 Yf (xL 36 Za ?_)<;>refine Zc ?_)
   refine cX ?_ ?_<;>intro hb36
   · exact UV hb36 dC
   · refine Ze ?_;(refine xL 6 Za ?_<;>refine Zk ?_)
     (refine xL 46 (Zd 2 Hf) ?_<;>(refine yL 47 (Zl 2 Zaz) fun v47 h=>?_;cases h)<;>refine xL 48 (ZW RR) (xL 49 Zb ?_)<;>refine Zc ?_)
     refine Zq (KT 200 39 5 rfl) fun _=>?_;refine ZE (ι:={q:Nat×Value×List Aut//PtsOk acts l q.1 q.2.2∧q.2.1.oneCell'=true}) (fun k=>⟨[(1,_,_),(2,_,_),(4,_,_),(5,_,_),(47,_,_),(48,_,_),(6,k.1.2.1, .val k.1.2.1),(49, .int .i64 k.1.1,pInt k.1.1)],[(2,_,_),(4,_,_),(200,k.1.2.1, .own 39 5 k.1.2.2.length (k.1.2.2.flatMap Tf))]⟩) (fun k=>l.length-k.1.1) ⟨(0, .slice none 0 0,[]),⟨Xd _,rfl,fun _ h=>(by cases h)⟩,rfl⟩ (fun a w H=>H.weaken ⟨rfl,rfl,rfl,rfl,rfl,rfl,rfl,rfl,trivial⟩ ⟨rfl,rfl,rfl,trivial⟩) ?_;rintro ⟨⟨i,hv,Ps⟩,hP,ho⟩;dsimp only;dsimp only at hP ho;have hPl:=hP.len;have hPi:=hP.le;have hPc:(Ps.flatMap Tf).length=Ps.length*5:=flat_len Ra Ps;refine Ze ?_;(refine xL 50 ZQ ?_<;>refine Zc ?_)
     refine cX ?_ ?_<;>intro hb50
     · first |exact bN hb50|(
 obtain ⟨x,hx⟩:=Zw (show i<l.length by omega);have e1:((LN l).drop (i*3)).take 3=[pInt x.op,Yv x.act,Wl x.l]:=KN hx;have e2:=J2 hx;obtain ⟨p0,p1,p2,p3,p4,E,r5,hres,hc⟩:=Hw (bldT acts x);have hxa:=ih x (Xc hx);rw [hres] at hxa;obtain ⟨o0,o1,o2,o3,o4⟩:=r5.o;refine Ze ?_;(refine xL 51 (ZH RR) ?_<;>(refine yL 52 (WA Gr) fun v52 h=>?_;cases h)<;>refine Zv [(.int .i64 0),(.string ByteArray.empty),(.slice none 0 0)] 3 8 ZaA fun h8=>?_<;>refine Zz 8 Gr ?_<;>refine Zk ?_)
 ((refine yL 54 (Zs 8 Gr) fun v54 h=>?_;cases h)<;>refine xL 55 Zb ?_<;>(refine cP 56 (cA (call51) hxa) (fun va56 vb56 hva56 hvb56=>?_) (hsh:=r5.t E);cases hvb56)<;>refine xL 53 Zb (xL 57 Zi (xL 58 Zi ?_))<;>refine Zv [(.int .i64 0),(.int .i64 0),(.slice none 0 0),(.slice none 0 0),(.slice none 0 0)] 5 9 JQ fun h9=>?_<;>refine Zz 9 Yk ?_<;>refine xL 10 Za ?_<;>refine Zk ?_)
 (refine xL 59 Zb (xL 60 Yn ?_)<;>refine Zc ?_)
 refine cX ?_ ?_<;>intro hb60
 · first|exact bN hb60|(
 have hn:bldT acts x=none∧E=13:=by
  rcases hc with h|⟨A,_,h,_⟩
  · exact h
  · exact UV h (by simpa using hb60)
 obtain ⟨hn,rfl⟩:=hn;have hF:foldX 6 (l.map (bldT acts))=none:=Di (Xl.2 ⟨x,Xc hx,hn⟩);rw [hF];refine Ze ?_;(refine xL 61 (ZO TK) (xL 62 Zb ?_)<;>refine Zz 4 Yk ?_<;>refine xL 5 Za ?_<;>refine Zc ?_)
 exact Z8 (k:=5) 4 kR (results51) rfl rfl rfl (Xa rfl) dC rfl rfl)
 · first|exact bN hb60|(
 have hA:∃A,bldT acts x=some A∧E=0∧p0=pInt A.n∧p1=pInt A.syms∧p2=pInts A.start∧p3=pInts A.fin∧p4=pMvs A.moves:=by
  rcases hc with ⟨_,h⟩|h
  · exact UV h (by simp at hb60;omega)
  · exact h
 clear hc;obtain ⟨A,hA,rfl,rfl,rfl,rfl,rfl,rfl⟩:=hA;have hnx:=hP.next hx hA (hb x (Xc hx))
 refine Ze ?_;(refine xL 63 Zb ?_<;>(refine yL 64 (Zs 9 Yk) fun v64 h=>?_;cases h)<;>refine YI 65 Se fun h65 ho65=>?_<;>(refine ZY 200 65 66 Se fun h66 ho66=>?_;refine Zu (ZD (l:=66) 200 rfl rfl) fun _=>?_;refine Zu (ZF (l:=200) rfl (ZdY _ Ps A)) fun _=>?_)<;>refine xL 6 Za ?_<;>refine Zk ?_)
 (refine xL 67 ZK (xL 49 Zb ?_)<;>refine Zc ?_)
 refine Zn (
  ⟨(i+1,h66,Ps++[A]),hnx,ho66⟩
  ) (by dsimp only;omega) ⟨rfl,rfl,rfl,rfl,rfl,rfl,rfl,rfl,trivial⟩ ⟨rfl,rfl,rfl,trivial⟩))
     · first | exact bN hb50|(
 obtain ⟨hall,hPll⟩:=hP.all (show l.length≤i by omega);have hok:=hP.ok;rw [hall];obtain ⟨A,B,rfl⟩:∃A B,Ps=[A,B]:=by
  match Ps,hPll.trans hlen0 with
  |[A,B],_=>exact ⟨A,B,rfl⟩
 refine Zq (En.freeze (l:=200) (t:=6) rfl rfl) fun _=>?_;rw [CC _ _ _ rfl];have e3:(([A,B].flatMap Tf).drop (0*5)).take 5=[pInt A.n,pInt A.syms,pInts A.start,pInts A.fin,pMvs A.moves]:=rfl;have e4:(([A,B].flatMap Tf).drop (1*5)).take 5=[pInt B.n,pInt B.syms,pInts B.start,pInts B.fin,pMvs B.moves]:=rfl;have hA:=hok A (Xm ..);have hB:=hok B (Xo _ (Xm ..));have hF:foldX 6 ([A,B].map some)=okO (Jq A B):=rfl;rw [hF];clear hF hall;have mX:=OJ hB hA;obtain ⟨p0,p1,p2,p3,p4,E,r5,hres,hc⟩:=Hw (okO (GK B A));have hj:=Do B A;rw [mX.lim,hres] at hj;obtain ⟨o0,o1,o2,o3,o4⟩:=r5.o;refine Ze ?_;(refine xL 68 (Zd 2 GP) ?_<;>(refine yL 69 (Zl 2 Rf) fun v69 h=>?_;cases h)<;>refine xL 70 Yf ?_<;>refine Zc ?_)
 refine cX ?_ ?_<;>intro hb70
 · refine nav ?_;(refine ZZ (fun i=>([12]:List Nat).elem i) [] kR ?_<;>refine xD 0 72 rfl Zb ?_<;>refine xD 1 73 rfl (ZH Jz) ?_<;>(refine yD 2 74 rfl (WA Yk) fun v74 h=>?_;cases h)<;>refine xD 3 75 rfl Zb ?_<;>refine xD 4 76 rfl (ZH Jz) ?_<;>(refine yD 5 77 rfl (WA Yk) fun v77 h=>?_;cases h)<;>(refine YY 6 10 kR ?_ ?_;rotate_right;(focus ((refine Zm rfl fun w9 M9 N9 DQ back=>?_)<;>refine Zv [(.int .i64 0),(.int .i64 0),(.slice none 0 0),(.slice none 0 0),(.slice none 0 0)] 5 11 JQ fun h11=>?_<;>refine Zj (back _ (nrm ?_))<;>(refine Zp 6 kR ?_)<;>(refine Zm rfl fun w9 M9 N9 DQ back=>?_)<;>(refine cP 78 (cA (call87) hj) (fun va78 vb78 hva78 hvb78=>?_) (hsh:=r5.t E);cases hvb78)<;>refine Zj (back _ (nrm ?_))<;>refine xE 7 71 rfl Zb ?_<;>refine xD 8 79 rfl Zi ?_<;>refine xD 9 80 rfl Zi ?_<;>(refine Zp 11 kR ?_)<;>(refine Zm rfl fun w9 M9 N9 DQ back=>?_)<;>refine Zz 11 Yk ?_<;>refine Zj (back _ (nrm ?_))));rotate_right;(focus ((refine Zm rfl fun w9 M9 N9 DQ back=>?_)<;>(refine cP 78 (cA (call87) hj) (fun va78 vb78 hva78 hvb78=>?_) (hsh:=r5.t E);cases hvb78)<;>refine Zj (back _ (nrm ?_))<;>refine xD 7 71 rfl Zb ?_<;>refine xD 8 79 rfl Zi ?_<;>refine xD 9 80 rfl Zi ?_<;>(refine Zp 10 kR ?_)<;>(refine Zm rfl fun w9 M9 N9 DQ back=>?_)<;>refine Zv [(.int .i64 0),(.int .i64 0),(.slice none 0 0),(.slice none 0 0),(.slice none 0 0)] 5 11 JQ fun h11=>?_<;>refine Zj (back _ (nrm ?_))<;>(refine Zp 11 kR ?_)<;>(refine Zm rfl fun w9 M9 N9 DQ back=>?_)<;>refine Zz 11 Yk ?_<;>refine Zj (back _ (nrm ?_)))))<;>refine xE 12 12 rfl Za ?_<;>refine YC kR (nav ?_)<;>try dsimp only)<;>(
 (refine Zt ?_<;>refine xL 81 Zb (xL 82 Yn ?_)<;>refine Zc ?_)
 refine cX ?_ ?_<;>intro hb82
 · first|exact bN hb82|(
 have hn:okO (GK B A)=none∧E=13:=by
  rcases hc with h|⟨A,_,h,_⟩
  · exact h
  · exact UV h (by simpa using hb82)
 obtain ⟨hn,rfl⟩:=hn;(have hlp:okO (Jq A B)=none:=by unfold Jq;rw [mX.lim,hn];rfl);rw [hlp];refine Ze ?_;(refine xL 83 (ZO TK) (xL 84 Zb ?_)<;>refine Zz 4 Yk ?_<;>refine xL 5 Za ?_<;>refine Zc ?_)
 exact Z8 (k:=5) 4 kR (results51) rfl rfl rfl (Xa rfl) dC rfl rfl)
 · first |exact bN hb82|(
 have hC:∃C,okO (GK B A)=some C∧E=0∧p0=pInt C.n∧p1=pInt C.syms∧p2=pInts C.start∧p3=pInts C.fin∧p4=pMvs C.moves:=by
  rcases hc with ⟨_,h⟩|h
  · exact UV h (by simp at hb82;omega)
  · exact h
 clear hc;obtain ⟨C,hC,rfl,rfl,rfl,rfl,rfl,rfl⟩:=hC;obtain ⟨hC1,hC2⟩:=mX.ok hC;have mS:=RJ hC2.1 hC2.2;obtain ⟨p0,p1,p2,p3,p4,E,r5,hres,hc⟩:=Hw (okO (JL C));have hj:=Zm2 C;rw [mS.lim,hres] at hj;obtain ⟨o0,o1,o2,o3,o4⟩:=r5.o;refine Ze ?_;((refine yL 86 (Zs 11 Yk) fun v86 h=>?_;cases h)<;>(refine cP 87 (cA (call90) hj) (fun va87 vb87 hva87 hvb87=>?_) (hsh:=r5.t E);cases hvb87)<;>refine xL 85 Zb (xL 88 Zi (xL 89 Zi ?_))<;>refine Zz 11 Yk ?_<;>refine xL 12 Za ?_<;>refine Zk ?_)
 (refine xL 90 Zb (xL 91 Yn ?_)<;>refine Zc ?_)
 refine cX ?_ ?_<;>intro hb91
 · first|exact bN hb91|(
 have hn:okO (JL C)=none∧E=13:=by
  rcases hc with h|⟨A,_,h,_⟩
  · exact h
  · exact UV h (by simpa using hb91)
 obtain ⟨hn,rfl⟩:=hn;(have hlp:okO (Jq A B)=none:=by unfold Jq;rw [hC1];dsimp only;rw [mS.lim,hn];rfl);rw [hlp];refine Ze ?_;(refine xL 92 (ZO TK) (xL 93 Zb ?_)<;>refine Zz 4 Yk ?_<;>refine xL 5 Za ?_<;>refine Zc ?_)
 exact Z8 (k:=5) 4 kR (results51) rfl rfl rfl (Xa rfl) dC rfl rfl)
 · first|exact bN hb91|(
 have hS:∃S,okO (JL C)=some S∧E=0∧p0=pInt S.n∧p1=pInt S.syms∧p2=pInts S.start∧p3=pInts S.fin∧p4=pMvs S.moves:=by
  rcases hc with ⟨_,h⟩|h
  · exact UV h (by simp at hb91;omega)
  · exact h
 clear hc;obtain ⟨S,hS,rfl,rfl,rfl,rfl,rfl,rfl⟩:=hS;obtain ⟨hS1,hS2⟩:=mS.ok hS;have mT:=OJ hA hS2;(have hlp:okO (Jq A B)=okO (GK A S):=by unfold Jq;rw [hC1];dsimp only;rw [hS1]);rw [hlp];obtain ⟨p0,p1,p2,p3,p4,E,r5,hres,hc⟩:=Hw (okO (GK A S));have hj:=Do A S;rw [mT.lim,hres] at hj;rw [hres];obtain ⟨o0,o1,o2,o3,o4⟩:=r5.o;refine nav ?_;(refine ZZ (fun i=>([8]:List Nat).elem i) [11] kR ?_<;>refine xD 0 94 rfl Zb ?_<;>refine xD 1 95 rfl (ZH Jz) ?_<;>(refine yD 2 96 rfl (WA Yk) fun v96 h=>?_;cases h)<;>(refine yE 3 97 rfl (Zs 11 Yk) fun v97 h=>?_;cases h)<;>(refine Zp 4 kR ?_)<;>(refine Zm rfl fun w9 M9 N9 DQ back=>?_)<;>(refine cP 98 (cA (call87) hj) (fun va98 vb98 hva98 hvb98=>?_) (hsh:=r5.t E);cases hvb98)<;>refine Zj (back _ (nrm ?_))<;>refine xD 5 99 rfl Zi ?_<;>refine xE 6 100 rfl Zi ?_<;>(refine Zp 7 kR ?_)<;>(refine Zm rfl fun w9 M9 N9 DQ back=>?_)<;>refine Zz 4 Yk ?_<;>refine Zj (back _ (nrm ?_))<;>refine xE 8 5 rfl Za ?_<;>refine YC kR (nav ?_)<;>try dsimp only)
 exact Z8 (k:=5) 4 kR (results51) rfl rfl rfl (Xa rfl) dC r5.s rfl)))
 · exact UV rfl hb70)
theorem Ds (acts:List ByteArray) (hm:acts.length≤40):∀t:Nd,okT t=true→szT t≤1000→(∀s∈Y2 t,s∈acts)→AF prog 51 [pTr t,YF acts] (· =resW (lim (bldT acts t))):=Nd.ind fun o a l ih hok hsz ha=>by
 have e0:pTr (.mk o a l)= .agg [pInt o,Yv a,Wl l]:=rfl
 rw [e0]
 obtain ⟨hr,hp⟩:=Js.1 hok
 have hops:=Rs hr
 simp only [Nd.op,Nd.l] at hops hp
 rw [szT] at hsz
 have hlz:=Rt l
 have hpa:∀x∈l,o≠1→∀s∈Y2 x,s∈acts:=fun x hx h1 s hs=>ha s (by rw [Y2,UT h1];exact SD.2 ⟨x,hx,hs⟩)
 have hih:o≠1→∀x∈l,AF prog 51 [pTr x,YF acts] (· =resW (lim (bldT acts x))):=fun h1 x hx=>ih x hx (hp x hx) (by have:=LW hx;omega) (hpa x hx h1)
 have hbo:o≠1→∀x∈l,BldOk acts.length (bldT acts x):=fun h1 x hx=>ZkD hm x (hpa x hx h1)
 by_cases h1:o=1
 · subst h1;have hmem:a∈acts:=ha a (by rw [Y2,UU rfl];exact Xm ..);obtain ⟨i,h2,h3,_⟩:=LI hmem;have hi:=Zh h3;have hM:=GM (m:=acts.length) (Oz hm (k:=WM acts a) (by rw [h2];omega)) rfl;have hl:l=[]:=by unfold rightT at hr;simp [Nd.op,Nd.l] at hr;exact hr.1
   subst hl;have hb:bldT acts (.mk 1 a [])=okO (Ji (G1 acts.length (WM acts a))):=by rw [bldT,UU rfl];rfl
   rw [hb];obtain ⟨p0,p1,p2,p3,p4,E,r5,hres,_⟩:=Hw (okO (Ji (G1 acts.length (WM acts a))));have hj:=D' (G1 acts.length (WM acts a));rw [hM.lim,hres] at hj;rw [hres];exact Zd0 acts a r5 hj
 by_cases h2:o=2
 · subst h2;have hM:=GM (m:=acts.length) (Cq hm) rfl;have hl:l=[]:=by unfold rightT at hr;simp [Nd.op,Nd.l] at hr;exact hr.1
   subst hl;have hb:bldT acts (.mk 2 a [])=okO (Ji (R4 acts.length)):=by rw [bldT,UT dC,UU rfl]
   rw [hb];obtain ⟨p0,p1,p2,p3,p4,E,r5,hres,_⟩:=Hw (okO (Ji (R4 acts.length)));have hj:=D' (R4 acts.length);rw [hM.lim,hres] at hj;rw [hres];exact Zd1 acts a r5 hj
 rw [ZfJ acts o a l h1 h2]
 by_cases h6:o=6
 · subst h6;obtain ⟨x,y,hxy⟩:=Dl hr;exact ZbP acts a x y l hxy (hih h1) (hbo h1)
 have ho:o=3∨o=4∨o=5:=oM
 obtain ⟨x,m,hxm⟩:=Ct ho hr
 exact Zd8 o ho acts a x m l hxm oM (hih h1) (hbo h1)
def Tg (A:Aut) (i s:Nat):List Nat:=(List.range s).map (stepA A i)
def LL (A:Aut) (k:Nat):List (List Nat):=(List.range k).map fun i=>Tg A i A.syms.toNat
def GQ (A:Aut) (k:Nat):List Bool:=(List.range k).map fun i=>JS A (i:Nat)
def ZpM (A:Aut):Tab:=⟨A.syms.toNat,LL A A.n.toNat,GQ A A.n.toNat⟩
theorem Zix (A:Aut) (i s:Nat):Tg A i (s+1)=Tg A i s++[stepA A i s]:=by unfold Tg;rw [Vz,Xs];rfl
theorem ZfX (A:Aut) (k:Nat):LL A (k+1)=LL A k++[Tg A k A.syms.toNat]:=by unfold LL;rw [Vz,Xs];rfl
theorem ZfY (A:Aut) (k:Nat):GQ A (k+1)=GQ A k++[JS A (k:Nat)]:=by unfold GQ;rw [Vz,Xs];rfl
theorem CE (A:Aut) (i s:Nat):(Tg A i s).length=s:=by unfold Tg;simp
theorem Dt (A:Aut) (k:Nat):(LL A k).length=k:=by unfold LL;simp
theorem Du (A:Aut) (k:Nat):(GQ A k).length=k:=by unfold GQ;simp
theorem ZaC {A:Aut} {k i:Nat} (h:i<k):(LL A k)[i]? =some (Tg A i A.syms.toNat):=by unfold LL;rw [Xg,VJ h];rfl
theorem ZaD {A:Aut} {k i:Nat} (h:i<k):(GQ A k)[i]? =some (JS A (i:Nat)):=by unfold GQ;rw [Xg,VJ h];rfl
theorem Zd9 {A:Aut} {i k s:Nat} (h:s<k):(Tg A i k)[s]? =some (stepA A i s):=by unfold Tg;rw [Xg,VJ h];rfl
theorem Hg:W1 prog 188=some (.agg #[.int .i64 0, .slice none 0 0, .slice none 0 0],[(0,1),(1,1),(2,1)]):=by kernel_rfl
set_option maxHeartbeats 2000000 in
theorem Y6 (A:Aut) (hA:DetA A):AF prog 200 [ZJ A] (· =S7 (ZpM A)):=by
 have hn1:=hA.ok.n1
 have hn0:=hA.ok.n0
 have hs0:=hA.ok.s0
 have hs1:=hA.ok.s1
 have hsN:((A.syms.toNat:Nat):Int)=A.syms:=oM
 refine AF.of_body 53 func200 rfl ntmps200 (Xa rfl) ?_
 intro w0 M0 vs hl hv
 obtain ⟨v0,rfl⟩:=WE hl
 clear hl hv
 refine Ze ?_
 (refine ZB 1 5 fun h1=>?_<;>refine Zv [(.int .i64 0),(.slice none 0 0),(.slice none 0 0)] 3 2 Z6 fun h2=>?_<;>refine Zk ?_)
 (refine xL 7 (Zd 1 ZT) ?_<;>(refine yL 8 (Zl 1 Zg) fun v8 h=>?_;cases h)<;>refine xL 9 (ZO LD) ?_<;>refine Zv [(.int .i64 0),(.slice none 0 0),(.slice none 0 0)] 3 3 Z6 fun h3=>?_<;>refine Zz 3 ZP ?_<;>refine Zc ?_)
 refine Zq (WF (l:=3) [pInt A.syms, .own 4 1 0 [], .own 36 1 0 []] rfl rfl (fun i p p' h1 h2=>by
  match i with
  |0=>cases h1;cases h2;exact .inl rfl
  |1=>cases h1;cases h2;exact .inr ⟨rfl,_,_,rfl⟩
  |2=>cases h1;cases h2;exact .inr ⟨rfl,_,_,rfl⟩
  |i+3=>simp at h2)) fun _=>?_
 refine Zq (We (l:=3) (l':=302) (j:=1) rfl rfl rfl rfl) fun i=>?_
 obtain ⟨v302,ho302⟩:=i
 refine Zq (We (l:=3) (l':=301) (j:=2) rfl rfl rfl rfl) fun i=>?_
 obtain ⟨v301,ho301⟩:=i
 dsimp only [List.set]
 (refine Zt ?_<;>refine xL 4 Za ?_<;>refine Zc ?_)
 refine ZE (ι:={q:Nat×Value×Value//q.1≤A.n.toNat∧q.2.1.oneCell'=true∧q.2.2.oneCell'=true}) (fun k=>⟨[(1,_,_),(2,_,_),(3,_,_),(4, .int .i64 k.1.1,pInt k.1.1)],[(1,_,_),(2,_,_),(3,h3, .own 188 3 1 [pInt A.syms, .val k.1.2.1, .val k.1.2.2]),(301,k.1.2.2, .own 36 1 (LL A k.1.1).length ((LL A k.1.1).map Wn)),(302,k.1.2.1, .own 4 1 (GQ A k.1.1).length ((GQ A k.1.1).map ZN))]⟩) (fun k=>A.n.toNat-k.1.1) ⟨(0,v302,v301),Xd _,ho302,ho301⟩ (fun a w H=>H.weaken ⟨rfl,rfl,rfl,rfl,trivial⟩ ⟨rfl,rfl,rfl,rfl,rfl,trivial⟩) ?_
 rintro ⟨⟨i,hF,hM⟩,hi,hFo,hMo⟩
 dsimp only
 dsimp only at hi hFo hMo
 have hrl:=Dt A i
 have hfl:=Du A i
 refine Ze ?_
 (refine xL 10 Zb (xL 11 (Zd 1 ZS) ?_)<;>(refine yL 12 (Zl 1 Zg) fun v12 h=>?_;cases h)<;>refine xL 13 ZQ ?_<;>refine Zc ?_)
 refine cX ?_ ?_<;>intro hb13
 · first |exact bN hb13|(
 refine Ze ?_;(refine J0 16 Zo fun h16 ho16=>?_<;>refine xL 5 Za ?_<;>refine Zc ?_)
 refine Zq (ZD (l:=16) 200 rfl rfl) fun _=>?_;refine Zq (ZF (l:=200) (p':= .own 3 1 (Tg A i 0).length ((toI (Tg A i 0)).map pInt)) rfl rfl) fun _=>?_;(refine Zt ?_<;>refine xL 6 Za ?_<;>refine Zc ?_)
 refine ZE (ι:={q:Nat×Value//q.1≤A.syms.toNat∧q.2.oneCell'=true}) (fun k=>⟨[(1,_,_),(2,_,_),(3,_,_),(4,_,_),(5,k.1.2, .val k.1.2),(6, .int .i64 k.1.1,pInt k.1.1)],[(1,_,_),(2,_,_),(3,_,_),(301,_,_),(302,_,_),(200,k.1.2, .own 3 1 (Tg A i k.1.1).length ((toI (Tg A i k.1.1)).map pInt))]⟩) (fun k=>A.syms.toNat-k.1.1) ⟨(0,h16),Xd _,ho16⟩ (fun a w H=>H.weaken ⟨rfl,rfl,rfl,rfl,rfl,rfl,trivial⟩ ⟨rfl,rfl,rfl,rfl,rfl,rfl,trivial⟩) ?_;rintro ⟨⟨s,hR⟩,hs,hRo⟩;dsimp only;dsimp only at hs hRo;have hpl:=CE A i s;have htl:=Y8 (Tg A i s);refine Ze ?_;(refine xL 17 Zb (xL 18 (Zd 1 ZT) ?_)<;>(refine yL 19 (Zl 1 Zg) fun v19 h=>?_;cases h)<;>refine xL 20 ZQ ?_<;>refine Zc ?_)
 refine cX ?_ ?_<;>intro hb20
 · first|exact bN hb20|(
 obtain ⟨x,_,hx,hd⟩:=hA.mo i s oM oM;have hmb:i*A.syms.toNat≤2000*40:=Vw oM oM;(have hmi:((i*A.syms.toNat:Nat):Int)=(i:Int)*A.syms:=by rw [Vr,hsN]);have hxl:=Zh hx;have hix:((i:Int)*A.syms+(s:Int)).toNat=i*A.syms.toNat+s:=oM;(have e1:(A.moves.flatMap cMv)[((i:Int)*A.syms+(s:Int)).toNat*3+1]? =some (pInt (stepA A i s:Nat)):=by rw [hix,←hd];exact Gv Z5 hx dC);refine Ze ?_;(refine xL 23 Zb (xL 24 (Zd 1 Zx) ?_)<;>(refine yL 25 (Zl 1 ZC) fun v25 h=>?_;cases h)<;>refine xL 26 Zb (xL 27 (Zd 1 ZT) ?_)<;>(refine yL 28 (Zl 1 Zg) fun v28 h=>?_;cases h)<;>refine xL 29 (Jj (h1:=by omega) (h2:=by omega)) ?_<;>refine xL 30 Zb (xL 31 ZK (xL 32 (Si ZL) (xL 33 (Jk Yi) ?_)))<;>(refine yL 34 (Ya Zg) fun v34 h=>?_;cases h)<;>refine ZM (kk:=1) 35 Zo fun h35 ho35=>?_<;>(refine ZY 200 35 36 Zo fun h36 ho36=>?_;refine Zu (ZD (l:=36) 200 rfl rfl) fun _=>?_;refine Zu (ZF (l:=200) rfl ((WW _ (Tg A i s) (stepA A i s)).trans (by rw [←Zix]))) fun _=>?_)<;>refine xL 5 Za ?_<;>refine Zk ?_)
 (refine xL 21 Zb (xL 22 ZK (xL 6 Za ?_))<;>refine Zc ?_)
 refine Zn (
  ⟨(s+1,h36),(by dsimp only;omega),ho36⟩
  ) (by dsimp only;omega) ⟨rfl,rfl,rfl,rfl,rfl,rfl,trivial⟩ ⟨rfl,rfl,rfl,rfl,rfl,rfl,trivial⟩)
 · first|exact bN hb20|(
 obtain rfl:s=A.syms.toNat:=oM;refine nav ?_;refine Zq (En.freeze (l:=200) (t:=5) rfl rfl) fun _=>?_;rw [ZV _ _ _ (by rw [Y8])];(refine Zt ?_<;>refine xL 37 (Zd 3 Ys) ?_<;>(refine yL 38 (Zl 3 Yj) fun v38 h=>?_;cases h)<;>refine xL 39 Zb ?_<;>refine ZM (kk:=1) 40 Yw fun h40 ho40=>?_<;>(refine ZY 301 40 41 Yw fun h41 ho41=>?_;refine Zu (ZD (l:=41) 301 rfl rfl) fun _=>?_;refine Zu (ZF (l:=301) rfl ((Lf _ (LL A i) (Tg A i A.syms.toNat)).trans (by rw [←ZfX]))) fun _=>?_)<;>refine xL 42 (Zd 3 Ys) ?_<;>refine YQ 3 Yj Gk ?_<;>refine Zc ?_)
 (refine ZZ (fun i=>([9]:List Nat).elem i) [1,3] kR ?_<;>refine xD 0 43 rfl (Zd 3 YM) ?_<;>(refine yD 1 44 rfl (Zl 3 Ym) fun v44 h=>?_;cases h)<;>refine xD 2 45 rfl (Zd 1 Z2) ?_<;>(refine yD 3 46 rfl (Zl 1 Zy) fun v46 h=>?_;cases h)<;>refine xE 4 47 rfl Zb ?_<;>(refine Zp 5 kR ?_)<;>(refine YA (d:=48) rfl (cA call116 (TA A.fin (i:Nat))) fun v48 h=>?_;cases h)<;>(refine Zp 6 kR ?_)<;>(refine Zm rfl fun w9 M9 N9 DQ back=>?_)<;>refine ZM (kk:=1) 49 YZ fun h49 ho49=>?_<;>refine Zj (back _ (nrm ?_))<;>(refine Zp 7 kR ?_)<;>(refine Zm rfl fun w9 M9 N9 DQ back=>?_)<;>refine ZY 302 49 50 YZ fun h50 ho50=>?_<;>refine Zj (back _ (nrm ?_))<;>refine xE 8 51 rfl (Zd 3 YM) ?_<;>(refine Zp 9 kR ?_)<;>(refine Kb rfl rfl kR fun DQ back=>?_)<;>refine YQ 3 Ym Gl ?_<;>refine Zj (back _ (nav ?_))<;>try dsimp only)
 refine Zq (ZD (l:=50) 302 rfl rfl) fun _=>?_;refine Zq (ZF (l:=302) (p':= .own 4 1 (GQ A (i+1)).length ((GQ A (i+1)).map ZN)) rfl ((Gm _ (GQ A i) (LP A.fin (i:Nat))).trans (by rw [ZfY];rfl))) fun _=>?_;(refine Zt ?_<;>refine xL 14 Zb (xL 15 ZK (xL 4 Za ?_))<;>refine Zc ?_)
 refine Zn (
  ⟨(i+1,h50,h41),(by dsimp only;omega),ho50,ho41⟩
  ) (by dsimp only;omega) ⟨rfl,rfl,rfl,rfl,trivial⟩ ⟨rfl,rfl,rfl,rfl,rfl,trivial⟩))
 · first|exact bN hb13|(
 obtain rfl:i=A.n.toNat:=oM;refine nav ?_;refine Zq (Z7 (l:=3) (l':=302) (j:=1) rfl rfl rfl rfl) fun _=>?_;refine Zq (Z7 (l:=3) (l':=301) (j:=2) rfl rfl rfl rfl) fun _=>?_;rw [JN _ _ _ rfl,Kz _ _ _ rfl];(refine Zt ?_<;>(refine yL 52 (Zs 3 ZP) fun v52 h=>?_;cases h)<;>refine Zz 2 ZP ?_<;>refine Zc ?_)
 refine Sx (k:=3) 2 kR (results200) rfl rfl (Xa rfl) dC rfl ?_;show PV.agg [pInt A.syms,_,_]=_;rw [←hsN];rfl)
theorem Zea {a b A B:Aut} {q:List PrS×List (List Nat)} (h:Jf a b= .ok (A,B,q)):WV a= .ok A∧WV b= .ok B∧prodQ A B=some q:=by
 unfold Jf at h
 split at h
 · rename_i A' B' ea eb;split at h
   · rename_i q' eq
     cases h;exact ⟨ea,eb,eq⟩
   · cases h
 · cases h
theorem ZaE {a b:Aut} {e:Int} (h:Jf a b= .error e):e=13:=by
 unfold Jf at h
 split at h
 · split at h<;>cases h;rfl
 · cases h;rfl
theorem Zlh {a b A B:Aut} {q:List PrS×List (List Nat)} (op:Int) (hf:Wt a b=0) (h:Jf a b= .ok (A,B,q)):TOk (JM A B op q):=by
 obtain ⟨h1,h2,h3⟩:=Rc hf
 obtain ⟨ea,eb,eq⟩:=Zea h
 obtain ⟨dA,sA⟩:=K3 (Kp h1) ea
 obtain ⟨dB,sB⟩:=K3 (Kp h2) eb
 exact Zkb dA dB (by rw [sA,sB,h3]) op eq
def Jr (x:PrS):List Nat:=[x.1.1,x.1.2]
def PM (x:PrS):ByteArray:=Sq (Jr x)
def mvB (x:PrS):Mv:=if x.2.1<0 then ⟨0,0,0⟩ else ⟨x.2.1,0,x.2.2⟩
def pTZ:PV:= .agg [pInt 0, .val (.slice none 0 0), .val (.slice none 0 0)]
def Pa (a b:Aut) (op:Int):Except Int (Aut×Aut×List PrS×List (List Nat)):=if ¬Wt a b=0 then .error (Wt a b) else if op<1∨4<op then .error 2 else Jf a b
def ZoH (a b:Aut) (op:Int):PV:=match Pa a b op with
 | .ok (A,B,q)=> .tup [S7 (JM A B op q),pMvs (q.1.map mvB),pInt 0]
 | .error e=> .tup [pTZ,pMvs [],pInt e]
theorem CF {A B:Aut} (hA:DetA A) (hB:DetA B) {x:PrS} (h:S2 A B x):∀y∈toI (Jr x),0≤y∧y≤2000:=fun y hy=>by
 have h1:x.1.1<A.n.toNat:=h.1
 have h2:x.1.2<B.n.toNat:=h.2
 have n1:=hA.ok.n1
 have n2:=hB.ok.n1
 unfold toI Jr at hy
 simp only [Xx,X',Xt,List.not_mem_nil,or_false] at hy
 rcases hy with rfl|rfl<;>omega
theorem Zni {A B:Aut} (hA:DetA A) (hB:DetA B) {o:List PrS} (ho:∀x∈o,S2 A B x) {x:PrS} (hx:S2 A B x):posK PM o (PM x)=posK Prod.fst o x.1:=GH fun y hy=>by
 unfold PM Sq
 rw [ER (CF hA hB (ho y hy)) (CF hA hB hx),Zbf]
 unfold Jr
 rw [Prod.ext_iff]
 simp
theorem Zli (e:Nat) (L:List PrS) (y:PrS):PV.own e 1 (L.length+1) (L.map (fun x=>Wn (Jr x))++[Wn (Jr y)])= .own e 1 (L++[y]).length ((L++[y]).map fun x=>Wn (Jr x)):=sM
theorem Zlj (e:Nat) (L:List PrS) (y:PrS):PV.own e 3 (L.length+1) ((L.map mvB).flatMap cMv++cMv (mvB y))= .own e 3 (L++[y]).length (((L++[y]).map mvB).flatMap cMv):=sM
theorem ZfZ (op:Int) (x y:Bool):AF prog 202 [pInt op,ZN x,ZN y] (· =ZN (SY op x y)):=by
 refine AF.of_body 30 func202 rfl ntmps202 (Xa rfl) ?_
 intro w0 M0 vs hl hv
 obtain ⟨v0,v1,v2,rfl⟩:=Jx hl
 obtain rfl:=hv 0 _ _ rfl rfl
 obtain rfl:=hv 1 _ _ rfl rfl
 obtain rfl:=hv 2 _ _ rfl rfl
 clear hl hv
 refine Ze ?_
 (refine xL 6 Za ?_<;>refine Zk ?_)
 (refine xL 7 Zb ?_<;>refine Zk ?_)
 (refine xL 9 Yf (xL 8 Za ?_)<;>refine Zc ?_)
 refine cX ?_ ?_<;>intro hb8
 · first|exact bN hb8|(
 refine Ze ?_;(refine xL 10 Zb (xL 11 Zb ?_)<;>(refine bL 11 (fun hb11=>?_) (fun hb11=>?_)<;>(first|refine kL 12 ?_|refine xL 12 Zb ?_))<;>refine xL 13 ZG (xL 6 Za ?_)<;>refine Zc ?_)<;>(
 refine ZA (results202) rfl ?_;unfold SY;rw [UU oM]
 cases x<;>cases y<;>first|rfl|(exfalso;simp_all;done)))
 · first | exact bN hb8|(
 refine Ze ?_;(refine xL 15 Yf (xL 14 Za ?_)<;>refine Zc ?_)
 refine cX ?_ ?_<;>intro hb14
 · first|exact bN hb14|(
 refine Ze ?_;(refine xL 16 Zb (xL 17 Zb ?_)<;>(refine bL 17 (fun hb17=>?_) (fun hb17=>?_)<;>(first|refine kL 18 ?_|refine xL 18 Zb ?_))<;>refine xL 19 ZG (xL 6 Za ?_)<;>refine Zc ?_)<;>(
 refine ZA (results202) rfl ?_;unfold SY;rw [UT oM,UU oM]
 cases x<;>cases y<;>first|rfl|(exfalso;simp_all;done)))
 · first |exact bN hb14|(
 refine Ze ?_;(refine xL 21 Yf (xL 20 Za ?_)<;>refine Zc ?_)
 refine cX ?_ ?_<;>intro hb20
 · first|exact bN hb20|(
 refine Ze ?_;(refine xL 22 Zb (xL 23 Zb ?_)<;>(refine bL 23 (fun hb23=>?_) (fun hb23=>?_)<;>(first|refine kL 24 ?_|refine xL 24 Zb ?_))<;>(first|refine kL 25 ?_|refine xL 25 Z' ?_)<;>refine xL 26 ZG (xL 6 Za ?_)<;>refine Zc ?_)<;>(
 refine ZA (results202) rfl ?_;unfold SY;rw [UT oM,UT oM,UU oM]
 cases x<;>cases y<;>first|rfl|(exfalso;simp_all;done)))
 · first|exact bN hb20|(
 refine Ze ?_;(refine xL 27 Zb (xL 28 Zb (xL 29 (Zi6 underlying4) (xL 6 Za ?_)))<;>refine Zc ?_)
 refine ZA (results202) rfl ?_;unfold SY;rw [UT oM,UT oM,UT oM]
 cases x<;>cases y<;>first|rfl|(exfalso;simp_all;done))))
theorem Zeb (a b:Aut) (op:Int) (hma:a.moves.length≤1000000) (hmb:b.moves.length≤1000000) (ha:Z1 a=false) (hb:Z1 b=false) (hs:True) (ho:True):AF prog 148 [ZJ a,ZJ b,pInt op] (· = .tup [pTZ,pMvs [],pInt 1]):=by
 have hva:=Yc a hma
 have hvb:=Yc b hmb
 rw [ha] at hva
 rw [hb] at hvb
 refine AF.of_body 186 func148 rfl ntmps148 (Xa rfl) ?_
 intro w0 M0 vs hl hv
 obtain ⟨v0,v1,v2,rfl⟩:=Jx hl
 obtain rfl:=hv 2 _ _ rfl rfl
 clear hl hv
 refine Ze ?_
 (refine ZB 3 5 fun h3=>?_<;>refine ZB 4 5 fun h4=>?_<;>refine Zv [(.int .i64 0),(.slice none 0 0),(.slice none 0 0)] 3 6 Z6 fun h6=>?_<;>refine xL 7 Za (xL 8 Za ?_)<;>refine Zk ?_)
 ((refine yL 23 (Zs 3 Zf) fun v23 h=>?_;cases h)<;>(refine cS 24 (cA call192 (hva)) fun v24 h=>?_;cases h)<;>refine xL 25 Z' (xL 26 Zb ?_)<;>refine kL 27 ?_<;>refine kL 28 ?_<;>refine kL 29 ?_<;>refine xL 30 ZG ?_<;>refine Zc ?_)<;>(
 refine cX ?_ ?_<;>intro hb30
 · first|exact bN hb30|(
 refine Ze ?_;(refine xL 31 (KB Hg rfl) ?_<;>refine Zz 6 ZP ?_<;>refine xL 7 Za (xL 8 Za ?_)<;>refine Zc ?_)
 refine YG (Y' (t:=7) rfl) fun _=>?_;exact Gx (k:=3) 6 kR (results148) rfl rfl rfl rfl (Xa rfl) dC rfl rfl)
 · first
   |exact bN hb30
   |skip)
theorem Zec (a b:Aut) (op:Int) (hma:a.moves.length≤1000000) (hmb:b.moves.length≤1000000) (ha:Z1 a=false) (hb:Z1 b=true) (hs:True) (ho:True):AF prog 148 [ZJ a,ZJ b,pInt op] (· = .tup [pTZ,pMvs [],pInt 1]):=by
 have hva:=Yc a hma
 have hvb:=Yc b hmb
 rw [ha] at hva
 rw [hb] at hvb
 refine AF.of_body 186 func148 rfl ntmps148 (Xa rfl) ?_
 intro w0 M0 vs hl hv
 obtain ⟨v0,v1,v2,rfl⟩:=Jx hl
 obtain rfl:=hv 2 _ _ rfl rfl
 clear hl hv
 refine Ze ?_
 (refine ZB 3 5 fun h3=>?_<;>refine ZB 4 5 fun h4=>?_<;>refine Zv [(.int .i64 0),(.slice none 0 0),(.slice none 0 0)] 3 6 Z6 fun h6=>?_<;>refine xL 7 Za (xL 8 Za ?_)<;>refine Zk ?_)
 ((refine yL 23 (Zs 3 Zf) fun v23 h=>?_;cases h)<;>(refine cS 24 (cA call192 (hva)) fun v24 h=>?_;cases h)<;>refine xL 25 Z' (xL 26 Zb ?_)<;>refine kL 27 ?_<;>refine kL 28 ?_<;>refine kL 29 ?_<;>refine xL 30 ZG ?_<;>refine Zc ?_)<;>(
 refine cX ?_ ?_<;>intro hb30
 · first|exact bN hb30|(
 refine Ze ?_;(refine xL 31 (KB Hg rfl) ?_<;>refine Zz 6 ZP ?_<;>refine xL 7 Za (xL 8 Za ?_)<;>refine Zc ?_)
 refine YG (Y' (t:=7) rfl) fun _=>?_;exact Gx (k:=3) 6 kR (results148) rfl rfl rfl rfl (Xa rfl) dC rfl rfl)
 · first
   |exact bN hb30
   |skip)
theorem Zed (a b:Aut) (op:Int) (hma:a.moves.length≤1000000) (hmb:b.moves.length≤1000000) (ha:Z1 a=true) (hb:Z1 b=false) (hs:True) (ho:True):AF prog 148 [ZJ a,ZJ b,pInt op] (· = .tup [pTZ,pMvs [],pInt 1]):=by
 have hva:=Yc a hma
 have hvb:=Yc b hmb
 rw [ha] at hva
 rw [hb] at hvb
 refine AF.of_body 186 func148 rfl ntmps148 (Xa rfl) ?_
 intro w0 M0 vs hl hv
 obtain ⟨v0,v1,v2,rfl⟩:=Jx hl
 obtain rfl:=hv 2 _ _ rfl rfl
 clear hl hv
 refine Ze ?_
 (refine ZB 3 5 fun h3=>?_<;>refine ZB 4 5 fun h4=>?_<;>refine Zv [(.int .i64 0),(.slice none 0 0),(.slice none 0 0)] 3 6 Z6 fun h6=>?_<;>refine xL 7 Za (xL 8 Za ?_)<;>refine Zk ?_)
 ((refine yL 23 (Zs 3 Zf) fun v23 h=>?_;cases h)<;>(refine cS 24 (cA call192 (hva)) fun v24 h=>?_;cases h)<;>refine xL 25 Z' (xL 26 Zb ?_)<;>(refine yL 27 (Zs 4 Zf) fun v27 h=>?_;cases h)<;>(refine cS 28 (cA call192 (hvb)) fun v28 h=>?_;cases h)<;>refine xL 29 Z' (xL 30 ZG ?_)<;>refine Zc ?_)<;>(
 refine cX ?_ ?_<;>intro hb30
 · first|exact bN hb30|(
 refine Ze ?_;(refine xL 31 (KB Hg rfl) ?_<;>refine Zz 6 ZP ?_<;>refine xL 7 Za (xL 8 Za ?_)<;>refine Zc ?_)
 refine YG (Y' (t:=7) rfl) fun _=>?_;exact Gx (k:=3) 6 kR (results148) rfl rfl rfl rfl (Xa rfl) dC rfl rfl)
 · first
   |exact bN hb30
   |skip)
theorem Zee (a b:Aut) (op:Int) (hma:a.moves.length≤1000000) (hmb:b.moves.length≤1000000) (ha:Z1 a=true) (hb:Z1 b=true) (hs:¬a.syms=b.syms) (ho:True):AF prog 148 [ZJ a,ZJ b,pInt op] (· = .tup [pTZ,pMvs [],pInt 29]):=by
 have hva:=Yc a hma
 have hvb:=Yc b hmb
 rw [ha] at hva
 rw [hb] at hvb
 refine AF.of_body 186 func148 rfl ntmps148 (Xa rfl) ?_
 intro w0 M0 vs hl hv
 obtain ⟨v0,v1,v2,rfl⟩:=Jx hl
 obtain rfl:=hv 2 _ _ rfl rfl
 clear hl hv
 refine Ze ?_
 (refine ZB 3 5 fun h3=>?_<;>refine ZB 4 5 fun h4=>?_<;>refine Zv [(.int .i64 0),(.slice none 0 0),(.slice none 0 0)] 3 6 Z6 fun h6=>?_<;>refine xL 7 Za (xL 8 Za ?_)<;>refine Zk ?_)
 ((refine yL 23 (Zs 3 Zf) fun v23 h=>?_;cases h)<;>(refine cS 24 (cA call192 (hva)) fun v24 h=>?_;cases h)<;>refine xL 25 Z' (xL 26 Zb ?_)<;>(refine yL 27 (Zs 4 Zf) fun v27 h=>?_;cases h)<;>(refine cS 28 (cA call192 (hvb)) fun v28 h=>?_;cases h)<;>refine xL 29 Z' (xL 30 ZG ?_)<;>refine Zc ?_)<;>(
 refine cX ?_ ?_<;>intro hb30
 · first
   |exact bN hb30
   |skip
 · first|exact bN hb30|(
 refine Ze ?_;(refine xL 32 (Zd 3 ZT) ?_<;>(refine yL 33 (Zl 3 Zg) fun v33 h=>?_;cases h)<;>refine xL 34 (Zd 4 ZT) ?_<;>(refine yL 35 (Zl 4 Zg) fun v35 h=>?_;cases h)<;>refine xL 36 Yn ?_<;>refine Zc ?_)
 refine cX ?_ ?_<;>intro hb36
 · first|exact UV hs hb36|skip
   refine Ze ?_;(refine xL 37 (KB Hg rfl) ?_<;>refine Zz 6 ZP ?_<;>refine xL 7 Za (xL 8 Za ?_)<;>refine Zc ?_)
   refine YG (Y' (t:=7) rfl) fun _=>?_
   first|exact Gx (k:=3) 6 kR (results148) rfl rfl rfl rfl (Xa rfl) dC rfl rfl|exact UV hs hb36
 · first|exact UV oM hs|(exfalso;simp at hb30;done)|(exfalso;simp_all;done)|skip))
theorem Zef (a b:Aut) (op:Int) (hma:a.moves.length≤1000000) (hmb:b.moves.length≤1000000) (ha:Z1 a=true) (hb:Z1 b=true) (hs:a.syms=b.syms) (ho:op<1∨4<op):AF prog 148 [ZJ a,ZJ b,pInt op] (· = .tup [pTZ,pMvs [],pInt 2]):=by
 have hva:=Yc a hma
 have hvb:=Yc b hmb
 rw [ha] at hva
 rw [hb] at hvb
 refine AF.of_body 186 func148 rfl ntmps148 (Xa rfl) ?_
 intro w0 M0 vs hl hv
 obtain ⟨v0,v1,v2,rfl⟩:=Jx hl
 obtain rfl:=hv 2 _ _ rfl rfl
 clear hl hv
 refine Ze ?_
 (refine ZB 3 5 fun h3=>?_<;>refine ZB 4 5 fun h4=>?_<;>refine Zv [(.int .i64 0),(.slice none 0 0),(.slice none 0 0)] 3 6 Z6 fun h6=>?_<;>refine xL 7 Za (xL 8 Za ?_)<;>refine Zk ?_)
 ((refine yL 23 (Zs 3 Zf) fun v23 h=>?_;cases h)<;>(refine cS 24 (cA call192 (hva)) fun v24 h=>?_;cases h)<;>refine xL 25 Z' (xL 26 Zb ?_)<;>(refine yL 27 (Zs 4 Zf) fun v27 h=>?_;cases h)<;>(refine cS 28 (cA call192 (hvb)) fun v28 h=>?_;cases h)<;>refine xL 29 Z' (xL 30 ZG ?_)<;>refine Zc ?_)<;>(
 refine cX ?_ ?_<;>intro hb30
 · first
   |exact bN hb30
   |skip
 · first |exact bN hb30|(
 refine Ze ?_;(refine xL 32 (Zd 3 ZT) ?_<;>(refine yL 33 (Zl 3 Zg) fun v33 h=>?_;cases h)<;>refine xL 34 (Zd 4 ZT) ?_<;>(refine yL 35 (Zl 4 Zg) fun v35 h=>?_;cases h)<;>refine xL 36 Yn ?_<;>refine Zc ?_)
 refine cX ?_ ?_<;>intro hb36
 · first|exact UV hs hb36|skip
 · first|exact UV oM hs|(exfalso;simp at hb30;done)|(exfalso;simp_all;done)|skip
   refine Ze ?_;(refine xL 38 Zb (xL 39 ZQ (xL 40 Zb ?_))<;>(refine bLd 40 (fun hb40=>?_) (fun hb40=>?_)<;>(first|refine kL 41 ?_|refine xL 41 Zb ?_))<;>(first|refine kL 42 ?_|refine xL 42 Yz ?_)<;>refine xL 43 ZG ?_<;>refine Zc ?_)<;>(
 refine cX ?_ ?_<;>intro hb43
 · refine Ze ?_;(refine xL 44 (KB Hg rfl) ?_<;>refine Zz 6 ZP ?_<;>refine xL 7 Za (xL 8 Za ?_)<;>refine Zc ?_)
   refine YG (Y' (t:=7) rfl) fun _=>?_;exact Gx (k:=3) 6 kR (results148) rfl rfl rfl rfl (Xa rfl) dC rfl rfl
 · exfalso;first|omega|(simp_all;done)|(simp_all;omega))))
theorem Zeg (a b:Aut) (op e:Int) (hma:a.moves.length≤1000000) (hmb:b.moves.length≤1000000) (ha:Z1 a=true) (hb:Z1 b=true) (hs:a.syms=b.syms) (ho:¬(op<1∨4<op)) (he:¬e=0) (hm:AF prog 143 [ZJ a] (· = .tup [KR,pInt e])):AF prog 148 [ZJ a,ZJ b,pInt op] (· = .tup [pTZ,pMvs [],pInt e]):=by
 have hva:=Yc a hma
 have hvb:=Yc b hmb
 rw [ha] at hva
 rw [hb] at hvb
 refine AF.of_body 186 func148 rfl ntmps148 (Xa rfl) ?_
 intro w0 M0 vs hl hv
 obtain ⟨v0,v1,v2,rfl⟩:=Jx hl
 obtain rfl:=hv 2 _ _ rfl rfl
 clear hl hv
 refine Ze ?_
 (refine ZB 3 5 fun h3=>?_<;>refine ZB 4 5 fun h4=>?_<;>refine Zv [(.int .i64 0),(.slice none 0 0),(.slice none 0 0)] 3 6 Z6 fun h6=>?_<;>refine xL 7 Za (xL 8 Za ?_)<;>refine Zk ?_)
 ((refine yL 23 (Zs 3 Zf) fun v23 h=>?_;cases h)<;>(refine cS 24 (cA call192 (hva)) fun v24 h=>?_;cases h)<;>refine xL 25 Z' (xL 26 Zb ?_)<;>(refine yL 27 (Zs 4 Zf) fun v27 h=>?_;cases h)<;>(refine cS 28 (cA call192 (hvb)) fun v28 h=>?_;cases h)<;>refine xL 29 Z' (xL 30 ZG ?_)<;>refine Zc ?_)<;>(
 refine cX ?_ ?_<;>intro hb30
 · first
   |exact bN hb30
   |skip
 · first | exact bN hb30|(
 refine Ze ?_;(refine xL 32 (Zd 3 ZT) ?_<;>(refine yL 33 (Zl 3 Zg) fun v33 h=>?_;cases h)<;>refine xL 34 (Zd 4 ZT) ?_<;>(refine yL 35 (Zl 4 Zg) fun v35 h=>?_;cases h)<;>refine xL 36 Yn ?_<;>refine Zc ?_)
 refine cX ?_ ?_<;>intro hb36
 · exact UV hs hb36
 · refine Ze ?_;(refine xL 38 Zb (xL 39 ZQ (xL 40 Zb ?_))<;>(refine bLd 40 (fun hb40=>?_) (fun hb40=>?_)<;>(first|refine kL 41 ?_|refine xL 41 Zb ?_))<;>(first|refine kL 42 ?_|refine xL 42 Yz ?_)<;>refine xL 43 ZG ?_<;>refine Zc ?_)<;>(
 refine cX ?_ ?_<;>intro hb43
 · exfalso;first|omega|(simp_all;done)|(simp_all;omega)
 · refine Ze ?_;((refine yL 46 (Zs 3 Zf) fun v46 h=>?_;cases h)<;>(refine cP 47 (cA call143 (hm)) fun va47 vb47 hva47 h=>?_;cases h)<;>refine xL 45 Zb (xL 48 Zi (xL 49 Zi ?_))<;>refine Zv [(.int .i64 0),(.int .i64 0),(.slice none 0 0),(.slice none 0 0),(.slice none 0 0)] 5 9 ZI fun h9=>?_<;>refine Zz 9 Zf ?_<;>refine xL 10 Za ?_<;>refine Zk ?_)
   (refine xL 50 Zb (xL 51 Yn ?_)<;>refine Zc ?_)
   refine cX ?_ ?_<;>intro hb51
   · refine Ze ?_;(refine xL 52 (KB Hg rfl) (xL 53 Zb ?_)<;>refine Zz 6 ZP ?_<;>refine xL 7 Za (xL 8 Za ?_)<;>refine Zc ?_)
     refine YG (Y' (t:=7) rfl) fun _=>?_;exact Gx (k:=3) 6 kR (results148) rfl rfl rfl rfl (Xa rfl) dC rfl rfl
   · exact UV (by simpa using hb51) he)))
theorem Zeh (a b A:Aut) (op e:Int) (hma:a.moves.length≤1000000) (hmb:b.moves.length≤1000000) (ha:Z1 a=true) (hb:Z1 b=true) (hs:a.syms=b.syms) (ho:¬(op<1∨4<op)) (he:¬e=0) (hmA:AF prog 143 [ZJ a] (· = .tup [ZJ A,pInt 0])) (hm:AF prog 143 [ZJ b] (· = .tup [KR,pInt e])):AF prog 148 [ZJ a,ZJ b,pInt op] (· = .tup [pTZ,pMvs [],pInt e]):=by
 have hva:=Yc a hma
 have hvb:=Yc b hmb
 rw [ha] at hva
 rw [hb] at hvb
 refine AF.of_body 186 func148 rfl ntmps148 (Xa rfl) ?_
 intro w0 M0 vs hl hv
 obtain ⟨v0,v1,v2,rfl⟩:=Jx hl
 obtain rfl:=hv 2 _ _ rfl rfl
 clear hl hv
 refine Ze ?_
 (refine ZB 3 5 fun h3=>?_<;>refine ZB 4 5 fun h4=>?_<;>refine Zv [(.int .i64 0),(.slice none 0 0),(.slice none 0 0)] 3 6 Z6 fun h6=>?_<;>refine xL 7 Za (xL 8 Za ?_)<;>refine Zk ?_)
 ((refine yL 23 (Zs 3 Zf) fun v23 h=>?_;cases h)<;>(refine cS 24 (cA call192 (hva)) fun v24 h=>?_;cases h)<;>refine xL 25 Z' (xL 26 Zb ?_)<;>(refine yL 27 (Zs 4 Zf) fun v27 h=>?_;cases h)<;>(refine cS 28 (cA call192 (hvb)) fun v28 h=>?_;cases h)<;>refine xL 29 Z' (xL 30 ZG ?_)<;>refine Zc ?_)<;>(
 refine cX ?_ ?_<;>intro hb30
 · first
   |exact bN hb30
   |skip
 · first | exact bN hb30|(
 refine Ze ?_;(refine xL 32 (Zd 3 ZT) ?_<;>(refine yL 33 (Zl 3 Zg) fun v33 h=>?_;cases h)<;>refine xL 34 (Zd 4 ZT) ?_<;>(refine yL 35 (Zl 4 Zg) fun v35 h=>?_;cases h)<;>refine xL 36 Yn ?_<;>refine Zc ?_)
 refine cX ?_ ?_<;>intro hb36
 · exact UV hs hb36
 · refine Ze ?_;(refine xL 38 Zb (xL 39 ZQ (xL 40 Zb ?_))<;>(refine bLd 40 (fun hb40=>?_) (fun hb40=>?_)<;>(first|refine kL 41 ?_|refine xL 41 Zb ?_))<;>(first|refine kL 42 ?_|refine xL 42 Yz ?_)<;>refine xL 43 ZG ?_<;>refine Zc ?_)<;>(
 refine cX ?_ ?_<;>intro hb43
 · exfalso;first|omega|(simp_all;done)|(simp_all;omega)
 · refine Ze ?_;((refine yL 46 (Zs 3 Zf) fun v46 h=>?_;cases h)<;>(refine cP 47 (cA call143 (hmA)) fun va47 vb47 hva47 h=>?_;cases h)<;>refine xL 45 Zb (xL 48 Zi (xL 49 Zi ?_))<;>refine Zv [(.int .i64 0),(.int .i64 0),(.slice none 0 0),(.slice none 0 0),(.slice none 0 0)] 5 9 ZI fun h9=>?_<;>refine Zz 9 Zf ?_<;>refine xL 10 Za ?_<;>refine Zk ?_)
   (refine xL 50 Zb (xL 51 Yn ?_)<;>refine Zc ?_)
   refine cX ?_ ?_<;>intro hb51
   · first|omega|exact UV rfl hb51|exact bN hb51
   · refine Ze ?_;((refine yL 55 (Zs 4 Zf) fun v55 h=>?_;cases h)<;>(refine cP 56 (cA call143 (hm)) fun va56 vb56 hva56 h=>?_;cases h)<;>refine xL 54 Zb (xL 57 Zi (xL 58 Zi ?_))<;>refine Zv [(.int .i64 0),(.int .i64 0),(.slice none 0 0),(.slice none 0 0),(.slice none 0 0)] 5 11 ZI fun h11=>?_<;>refine Zz 11 Zf ?_<;>refine xL 10 Za ?_<;>refine Zk ?_)
     (refine xL 59 Zb (xL 60 Yn ?_)<;>refine Zc ?_)
     refine cX ?_ ?_<;>intro hb60
     · refine Ze ?_;(refine xL 61 (KB Hg rfl) (xL 62 Zb ?_)<;>refine Zz 6 ZP ?_<;>refine xL 7 Za (xL 8 Za ?_)<;>refine Zc ?_)
       refine YG (Y' (t:=7) rfl) fun _=>?_;exact Gx (k:=3) 6 kR (results148) rfl rfl rfl rfl (Xa rfl) dC rfl rfl
     · exact UV (by simpa using hb60) he)))
end Go.Proofs.YtgfabnhpllkebaaGreatDoor
