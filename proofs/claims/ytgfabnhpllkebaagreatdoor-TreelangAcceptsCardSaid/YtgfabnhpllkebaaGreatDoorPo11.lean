/-
  Walks of functions and plain laws of the chapter, as the claim needs them.
-/
import Derived.Test.YtgfabnhpllkebaaGreatDoorPo10
import Derived.Test.YtgfabnhpllkebaaGreatDoorPo09
import Derived.Test.YtgfabnhpllkebaaGreatDoorPo04
import Derived.Test.YtgfabnhpllkebaaGreatDoorPo05
import Derived.Test.YtgfabnhpllkebaaGreatDoorPo06
import Derived.Test.YtgfabnhpllkebaaGreatDoorPo08
import Derived.Test.YtgfabnhpllkebaaGreatDoorPo01
namespace Go.Proofs.YtgfabnhpllkebaaGreatDoor
open Go.RowKit Go.Cb Go.En Tryz
set_option linter.all false
set_option maxRecDepth 100000
theorem Gw (l:List Int):(l.map pInt).all En.one=true:=by rw [XB];intro p hp;obtain ⟨z,_,rfl⟩:=Xk.1 hp;rfl
theorem JE (l:List Int):(l.map pInt).length=l.length*1:=by rw [Xe,Xq]
theorem Ts (e:Nat) (l m:List Int):PV.own e 1 (l.length+m.length) (l.map pInt++m.map pInt)= .own e 1 (l++m).length ((l++m).map pInt):=by rw [Xu,Xb]
theorem Jk {a b:Aut} (h:WK a b=0):VOk a∧VOk b∧a.syms=b.syms:=by
 obtain ⟨h1,h2,h3⟩:=Cg h
 exact ⟨WV h1,WV h2,h3⟩
theorem Zfr (a b:Aut) (e:Int) (he:¬e=0) (hf:AF prog 120 [ZN a,ZN b] (· =pInt e)):AF prog 88 [ZN a,ZN b] (· = .tup [KL,pInt e]):=by
 refine AF.of_body 42 func88 rfl ntmps88 (Xa rfl) ?_
 intro w0 M0 vs hl hv
 obtain ⟨v0,v1,rfl⟩:=YI hl
 clear hl hv
 refine Ze ?_
 (refine ZB 2 5 fun h2=>?_<;>refine ZB 3 5 fun h3=>?_<;>refine Zw [(.int .i64 0),(.int .i64 0),(.slice none 0 0),(.slice none 0 0),(.slice none 0 0)] 5 4 ZJ fun h4=>?_<;>refine xL 5 Za ?_<;>refine Zi ?_)
 ((refine yL 8 (Zu 2 Zh) fun v8 h=>?_;cases h)<;>(refine yL 9 (Zu 3 Zh) fun v9 h=>?_;cases h)<;>(refine cS 10 (cA call120 (hf)) fun v10 h=>?_;cases h)<;>refine xL 6 Za ?_<;>refine Zi ?_)
 (refine xL 11 Zb (xL 12 Yv ?_)<;>refine Zc ?_)
 refine cX ?_ ?_<;>intro hb12
 · refine Ze ?_;(refine xL 13 (ZL ZV) (xL 14 Zb ?_)<;>refine ZE 4 Zh ?_<;>refine xL 5 Za ?_<;>refine Zc ?_)
   exact Z5 (k:=5) 4 kR (results88) rfl rfl rfl (Xa rfl) dC rfl rfl
 · exact UU (by simpa using hb12) he
set_option maxHeartbeats 2000000 in
theorem ZkJ (a b:Aut) (hf0:WK a b=0) {p0 p1 p2 p3 p4:PV} {E:Int} (r5:R5 p0 p1 p2 p3 p4) (hr:AF prog 132 [ZN (mkA (W6 a b))] (· = .tup [.agg [p0,p1,p2,p3,p4],pInt E])):AF prog 88 [ZN a,ZN b] (· = .tup [.agg [p0,p1,p2,p3,p4],pInt E]):=by
 obtain ⟨o0,o1,o2,o3,o4⟩:=r5.o
 obtain ⟨ha,hb,hs⟩:=Jk hf0
 have hf:=Pt a b
 rw [hf0] at hf
 have hn0:=ha.n0
 have hn1:=ha.n1
 have k1:=ha.sl
 have k2:=hb.sl
 have k3:=ha.fl
 have k4:=hb.fl
 have m1:=hb.n1
 have kml:=Rw ha.toAOk hb.toAOk
 have l1:=KV a.n b.start
 have l2:=KV a.n b.fin
 refine AF.of_body 42 func88 rfl ntmps88 (Xa rfl) ?_
 intro w0 M0 vs hl hv
 obtain ⟨v0,v1,rfl⟩:=YI hl
 clear hl hv
 refine Ze ?_
 (refine ZB 2 5 fun h2=>?_<;>refine ZB 3 5 fun h3=>?_<;>refine Zw [(.int .i64 0),(.int .i64 0),(.slice none 0 0),(.slice none 0 0),(.slice none 0 0)] 5 4 ZJ fun h4=>?_<;>refine xL 5 Za ?_<;>refine Zi ?_)
 ((refine yL 8 (Zu 2 Zh) fun v8 h=>?_;cases h)<;>(refine yL 9 (Zu 3 Zh) fun v9 h=>?_;cases h)<;>(refine cS 10 (cA call120 (hf)) fun v10 h=>?_;cases h)<;>refine xL 6 Za ?_<;>refine Zi ?_)
 (refine xL 11 Zb (xL 12 Yv ?_)<;>refine Zc ?_)
 refine cX ?_ ?_<;>intro hb12
 · first|omega|exact UU rfl hb12|exact bN hb12
 · refine Ze ?_;((refine yL 15 (Zu 2 Zh) fun v15 h=>?_;cases h)<;>(refine yL 16 (Zu 3 Zh) fun v16 h=>?_;cases h)<;>(refine JP [2,3,4] 17 (call134) (ζ8 a b ha.toAOk hb.toAOk _ _) ?_;rintro V17 _ _ ⟨hM,hMo,rfl,rfl⟩;have qM:En.one (PV.val hM)=true:=hMo)<;>refine Zw [(.int .i64 0),(.int .i64 0),(.slice none 0 0),(.slice none 0 0),(.slice none 0 0)] 5 7 ZJ fun h7=>?_<;>refine ZE 7 Zh ?_<;>refine Zc ?_)
   (refine ZZ (fun i=>([]:List Nat).elem i) [2,3] kR ?_<;>refine xD 0 18 rfl (Zd 2 Z1) ?_<;>(refine yD 1 19 rfl (Zk 2 Zy) fun v19 h=>?_;cases h)<;>refine xD 3 21 rfl (Zd 3 Z1) ?_<;>(refine yD 4 22 rfl (Zk 3 Zy) fun v22 h=>?_;cases h)<;>refine xD 5 23 rfl (Zd 2 ZQ) ?_<;>(refine yD 6 24 rfl (Zk 2 Zg) fun v24 h=>?_;cases h)<;>(refine Zr 2 kR ?_)<;>(refine Zo rfl fun w9 M9 N9 DQ back=>?_)<;>refine cO 20 (cA call135 (Jv a.start oM)) fun v20 ho20=>?_<;>refine Zl (back _ (nrm ?_))<;>(refine Zr 7 kR ?_)<;>(refine Zo rfl fun w9 M9 N9 DQ back=>?_)<;>(refine cO 25 (cA call136 (Ll b.start a.n oM oM (fun x hx=>by have:=hb.st x hx;omega))) fun v25 ho25=>?_;refine Zs (En.freeze (l:=25) (t:=25) rfl rfl) fun _=>?_;rw [ZS _ _ _ rfl])<;>refine Zl (back _ (nrm ?_))<;>(refine Zr 8 kR ?_)<;>(refine Zo rfl fun w9 M9 N9 DQ back=>?_)<;>(refine Kf 20 26 Zn (fun h26 ho26=>?_) (JE (YV a.n b.start)) (Gw (YV a.n b.start));have q26:En.one (PV.val h26)=true:=ho26)<;>refine Zl (back _ (nrm ?_))<;>refine xE 9 27 rfl (Zd 7 Z1) ?_<;>(refine Zr 10 kR ?_)<;>(refine Zo rfl fun w9 M9 N9 DQ back=>?_)<;>refine YL 7 Zy We ?_<;>refine Zl (back _ (nrm ?_))<;>refine Yw kR (nav ?_)<;>try dsimp only)
   refine Zq (ZH (l:=26) rfl (Ts _ a.start (YV a.n b.start))) fun _=>?_;refine Zq (Z6 (l:=7) (l':=26) (j:=2) rfl rfl rfl rfl) fun _=>?_;rw [ZS _ _ _ rfl];(refine ZZ (fun i=>([]:List Nat).elem i) [2,3] kR ?_<;>refine xD 0 28 rfl (Zd 2 Z0) ?_<;>(refine yD 1 29 rfl (Zk 2 Zy) fun v29 h=>?_;cases h)<;>refine xD 3 31 rfl (Zd 3 Z0) ?_<;>(refine yD 4 32 rfl (Zk 3 Zy) fun v32 h=>?_;cases h)<;>refine xD 5 33 rfl (Zd 2 ZQ) ?_<;>(refine yD 6 34 rfl (Zk 2 Zg) fun v34 h=>?_;cases h)<;>(refine Zr 2 kR ?_)<;>(refine Zo rfl fun w9 M9 N9 DQ back=>?_)<;>refine cO 30 (cA call135 (Jv a.fin oM)) fun v30 ho30=>?_<;>refine Zl (back _ (nrm ?_))<;>(refine Zr 7 kR ?_)<;>(refine Zo rfl fun w9 M9 N9 DQ back=>?_)<;>(refine cO 35 (cA call136 (Ll b.fin a.n oM oM (fun x hx=>by have:=hb.fi x hx;omega))) fun v35 ho35=>?_;refine Zs (En.freeze (l:=35) (t:=35) rfl rfl) fun _=>?_;rw [ZS _ _ _ rfl])<;>refine Zl (back _ (nrm ?_))<;>(refine Zr 8 kR ?_)<;>(refine Zo rfl fun w9 M9 N9 DQ back=>?_)<;>(refine Kf 30 36 Zn (fun h36 ho36=>?_) (JE (YV a.n b.fin)) (Gw (YV a.n b.fin));have q36:En.one (PV.val h36)=true:=ho36)<;>refine Zl (back _ (nrm ?_))<;>refine xE 9 37 rfl (Zd 7 Z0) ?_<;>(refine Zr 10 kR ?_)<;>(refine Zo rfl fun w9 M9 N9 DQ back=>?_)<;>refine YL 7 Zy We ?_<;>refine Zl (back _ (nrm ?_))<;>refine Yw kR (nav ?_)<;>try dsimp only)
   refine Zq (ZH (l:=36) rfl (Ts _ a.fin (YV a.n b.fin))) fun _=>?_;refine Zq (Z6 (l:=7) (l':=36) (j:=3) rfl rfl rfl rfl) fun _=>?_;rw [ZS _ _ _ rfl];(refine Zv ?_<;>(refine yL 38 (Zu (k:=5) (ps:=[pInt (a.n+b.n),pInt a.syms,pInts (a.start++YV a.n b.start),pInts (a.fin++YV a.n b.fin),PV.val hM]) 7 kR) fun v38 h=>?_;cases h)<;>(refine WQ [(1000,hM,PV.own 93 3 (W6 a b).moves.length ((W6 a b).moves.flatMap cMv)),(2,_,_),(3,_,_),(4,_,_),(7,_,_)] ⟨rfl,rfl,rfl,rfl,rfl,trivial⟩ ?_;refine JP [2,3,4,7] 39 (call137) (Zbg (W6 a b) (by show (bsM a b).length≤1000000;omega) (EI ha hb) _ hM hMo r5 hr) ?_;rintro _ _ _ ⟨⟨V1,rfl⟩,rfl,rfl⟩)<;>refine xL 40 Zj (xL 41 Zj ?_)<;>refine ZE 4 Zh ?_<;>refine xL 5 Za ?_<;>refine Zc ?_)
   exact Z5 (k:=5) 4 kR (results88) rfl rfl rfl (Xa rfl) dC r5.s rfl
theorem ZkK (a b:Aut):AF prog 88 [ZN a,ZN b] (· =resW (J9 a b)):=by
 unfold J9
 by_cases h0:WK a b=0
 · rw [US (fun h=>h h0)];obtain ⟨ha,hb,hs⟩:=Jk h0;obtain ⟨p0,p1,p2,p3,p4,E,h5,h2,hr⟩:=TV (W6 a b) (by have:=Rw ha.toAOk hb.toAOk;show (bsM a b).length≤1000000;omega) (Rk ha hb hs);rw [h2];exact ZkJ a b h0 h5 hr
 · rw [UT h0];exact Zfr a b _ h0 (Pt a b)
def ctM (a b:Aut) (i:Nat):List Mv:=bsM a b++SO a.n (a.fin.take i) b.start
theorem Ci (a b:Aut):ctM a b 0=bsM a b:=by show bsM a b++[]=bsM a b;rw [Xr]
theorem ZdE {a b:Aut} {i:Nat} {f:Int} (h:a.fin[i]? =some f):ctM a b (i+1)=ctM a b i++JW a.n f b.start:=by unfold ctM;rw [Zhw a.n b.start h,Xy]
theorem Zgs (a b:Aut) {i:Nat} (h:a.fin.length≤i):ctM a b i=(Kp a b).moves:=by unfold ctM;rw [Xj h];rfl
theorem Zgt {a b:Aut} {i j:Nat} (f:Int) (hi:i<a.fin.length) (hj:j≤b.start.length):(ctM a b i++JW a.n f (b.start.take j)).length≤(Kp a b).moves.length:=by
 rw [Og]
 unfold ctM bsM
 rw [Xb,Xb,Xb,Ld,EG,Xo]
 unfold JW
 rw [Xe,Xo]
 have h1:(i+1)*b.start.length≤a.fin.length*b.start.length:=Vt _ hi
 rw [X8] at h1
 rw [X6 (Nat.le_of_lt hi),X6 hj]
 omega
theorem ZdF (a b:Aut) (e:Int) (he:¬e=0) (hf:AF prog 120 [ZN a,ZN b] (· =pInt e)):AF prog 87 [ZN a,ZN b] (· = .tup [KL,pInt e]):=by
 refine AF.of_body 68 func87 rfl ntmps87 (Xa rfl) ?_
 intro w0 M0 vs hl hv
 obtain ⟨v0,v1,rfl⟩:=YI hl
 clear hl hv
 refine Ze ?_
 (refine ZB 2 5 fun h2=>?_<;>refine ZB 3 5 fun h3=>?_<;>refine Zw [(.int .i64 0),(.int .i64 0),(.slice none 0 0),(.slice none 0 0),(.slice none 0 0)] 5 4 ZJ fun h4=>?_<;>refine xL 5 Za ?_<;>refine Zi ?_)
 ((refine yL 12 (Zu 2 Zh) fun v12 h=>?_;cases h)<;>(refine yL 13 (Zu 3 Zh) fun v13 h=>?_;cases h)<;>(refine cS 14 (cA call120 (hf)) fun v14 h=>?_;cases h)<;>refine xL 6 Za ?_<;>refine Zi ?_)
 (refine xL 15 Zb (xL 16 Yv ?_)<;>refine Zc ?_)
 refine cX ?_ ?_<;>intro hb16
 · refine Ze ?_;(refine xL 17 (ZL ZV) (xL 18 Zb ?_)<;>refine ZE 4 Zh ?_<;>refine xL 5 Za ?_<;>refine Zc ?_)
   exact Z5 (k:=5) 4 kR (results87) rfl rfl rfl (Xa rfl) dC rfl rfl
 · exact UU (by simpa using hb16) he
set_option maxHeartbeats 2000000 in
theorem Zab (a b:Aut) (hf0:WK a b=0) {p0 p1 p2 p3 p4:PV} {E:Int} (r5:R5 p0 p1 p2 p3 p4) (hr:(Kp a b).moves.length≤40001→AF prog 132 [ZN (mkA (Kp a b))] (· = .tup [.agg [p0,p1,p2,p3,p4],pInt E])):AF prog 87 [ZN a,ZN b] (fun p=>((Kp a b).moves.length≤40001∧p= .tup [.agg [p0,p1,p2,p3,p4],pInt E])∨(20000<(Kp a b).moves.length∧p= .tup [KL,pInt 13])):=by
 obtain ⟨o0,o1,o2,o3,o4⟩:=r5.o
 obtain ⟨ha,hb,hs⟩:=Jk hf0
 have hf:=Pt a b
 rw [hf0] at hf
 have hn0:=ha.n0
 have hn1:=ha.n1
 have k1:=ha.sl
 have k2:=hb.sl
 have k3:=ha.fl
 have k4:=hb.fl
 have m1:=hb.n1
 have kml:=Rw ha.toAOk hb.toAOk
 have l2:=KV a.n b.fin
 refine AF.of_body 68 func87 rfl ntmps87 (Xa rfl) ?_
 intro w0 M0 vs hl hv
 obtain ⟨v0,v1,rfl⟩:=YI hl
 clear hl hv
 refine Ze ?_
 (refine ZB 2 5 fun h2=>?_<;>refine ZB 3 5 fun h3=>?_<;>refine Zw [(.int .i64 0),(.int .i64 0),(.slice none 0 0),(.slice none 0 0),(.slice none 0 0)] 5 4 ZJ fun h4=>?_<;>refine xL 5 Za ?_<;>refine Zi ?_)
 ((refine yL 12 (Zu 2 Zh) fun v12 h=>?_;cases h)<;>(refine yL 13 (Zu 3 Zh) fun v13 h=>?_;cases h)<;>(refine cS 14 (cA call120 (hf)) fun v14 h=>?_;cases h)<;>refine xL 6 Za ?_<;>refine Zi ?_)
 (refine xL 15 Zb (xL 16 Yv ?_)<;>refine Zc ?_)
 refine cX ?_ ?_<;>intro hb16
 · first|omega|exact UU rfl hb16|exact bN hb16
 · refine Ze ?_;((refine yL 19 (Zu 2 Zh) fun v19 h=>?_;cases h)<;>(refine yL 20 (Zu 3 Zh) fun v20 h=>?_;cases h)<;>(refine JP [2,3,4] 21 (call134) (ζ8 a b ha.toAOk hb.toAOk _ _) ?_;rintro V21 _ _ ⟨hM0,hM0o,rfl,rfl⟩;have qM:En.one (PV.val hM0)=true:=hM0o)<;>refine Zw [(.int .i64 0),(.int .i64 0),(.slice none 0 0),(.slice none 0 0),(.slice none 0 0)] 5 7 ZJ fun h7=>?_<;>refine ZE 7 Zh ?_<;>refine Zc ?_)
   (refine ZZ (fun i=>([9,10,11]:List Nat).elem i) [2,3,7] kR ?_<;>refine xDT 0 22 rfl (Zd 2 Z1) ?_<;>(refine yDT 1 23 rfl (Zk 2 Zy) fun v23 h=>?_;cases h)<;>refine xDT 3 25 rfl (Zd 3 Z0) ?_<;>(refine yDT 4 26 rfl (Zk 3 Zy) fun v26 h=>?_;cases h)<;>refine xDT 5 27 rfl (Zd 2 ZQ) ?_<;>(refine yDT 6 28 rfl (Zk 2 Zg) fun v28 h=>?_;cases h)<;>(refine Zr 2 kR ?_)<;>(refine Zo rfl fun w9 M9 N9 DQ back=>?_)<;>(refine cO 24 (cA call135 (Jv a.start oM)) fun v24 ho24=>?_;refine Zs (En.freeze (l:=24) (t:=24) rfl rfl) fun _=>?_;rw [ZS _ _ _ rfl])<;>refine Zl (back _ (nrm ?_))<;>refine xDT 8 30 rfl (Zd 7 Z1) ?_<;>(refine Zr 7 kR ?_)<;>(refine Zo rfl fun w9 M9 N9 DQ back=>?_)<;>(refine cO 29 (cA call136 (Ll b.fin a.n oM oM (fun x hx=>by have:=hb.fi x hx;omega))) fun v29 ho29=>?_;refine Zs (En.freeze (l:=29) (t:=29) rfl rfl) fun _=>?_;rw [ZS _ _ _ rfl])<;>refine Zl (back _ (nrm ?_))<;>(refine Zr 9 kR ?_)<;>(refine PW rfl rfl fun DQ back=>?_)<;>refine YL 7 Zy We ?_<;>refine Zl (back _ ?_)<;>(refine GK 10 kR rfl rfl fun DQ back=>?_)<;>refine xL 31 (Zd 7 Z0) ?_<;>refine Zl (back _ ?_)<;>(refine GK 11 kR rfl rfl fun DQ back=>?_)<;>refine YL 7 Zy We ?_<;>refine Zl (back _ ?_)<;>refine Ht kR (nav ?_)<;>try dsimp only)
   refine Zq (ZH (l:=1000) (p':= .own 93 3 (ctM a b 0).length ((ctM a b 0).flatMap cMv)) rfl (by rw [Ci])) fun _=>?_;(refine Zv ?_<;>refine xL 32 (Zd 2 Z0) ?_<;>(refine yL 33 (Zk 2 Zy) fun v33 h=>?_;cases h)<;>refine xL 34 (ZT Zp) (xL 35 Zb ?_)<;>refine Zc ?_)
   refine ZD (ι:={q:Nat×Value//q.1≤a.fin.length∧q.2.oneCell'=true∧(ctM a b q.1).length≤40001}) (fun k=>⟨[(2,_,_),(3,_,_),(4,_,_),(7,_,_),(33,_,_),(34,_,_),(35, .int .i64 k.1.1,pInt k.1.1)],[(2,_,_),(3,_,_),(4,_,_),(7,h7, .own 39 5 1 [pInt (a.n+b.n),pInt a.syms,pInts a.start,pInts (YV a.n b.fin), .val k.1.2]),(1000,k.1.2, .own 93 3 (ctM a b k.1.1).length ((ctM a b k.1.1).flatMap cMv))]⟩) (fun k=>a.fin.length-k.1.1) ⟨(0,hM0),Xd _,hM0o,by show (ctM a b 0).length≤40001;rw [Ci];omega⟩ (fun a w H=>H.weaken ⟨rfl,rfl,rfl,rfl,rfl,rfl,rfl,trivial⟩ ⟨rfl,rfl,rfl,rfl,rfl,trivial⟩) ?_;rintro ⟨⟨i,hI⟩,hi,hIo,hIl⟩;dsimp only;dsimp only at hi hIo hIl;have q5:En.one (PV.val hI)=true:=hIo;refine Ze ?_;(refine xL 36 ZP ?_<;>refine Zc ?_)
   refine cX ?_ ?_<;>intro hb36
   · first | exact bN hb36|(
 obtain ⟨f,hf⟩:=Zt (show i<a.fin.length by omega);have e1:=Z7 (f:=pInt) hf;have hfin:=ha.fi f (Xc hf);refine Ze ?_;(refine xL 37 (ZI Zp) ?_<;>(refine yL 38 (Z9 Zg) fun v38 h=>?_;cases h)<;>refine xL 9 Za ?_<;>refine Zi ?_)
 (refine xL 39 (Zd 3 Z1) ?_<;>(refine yL 40 (Zk 3 Zy) fun v40 h=>?_;cases h)<;>refine xL 41 (ZT Zp) (xL 42 Zb ?_)<;>refine Zc ?_)
 refine Zq (ZH (l:=1000) (p':= .own 93 3 (ctM a b i++JW a.n f (b.start.take 0)).length ((ctM a b i++JW a.n f (b.start.take 0)).flatMap cMv)) rfl (by rw [show JW a.n f (b.start.take 0)=[] from rfl,Xr])) fun _=>?_;refine ZD (ι:={q:Nat×Value//q.1≤b.start.length∧q.2.oneCell'=true∧(ctM a b i++JW a.n f (b.start.take q.1)).length≤40001}) (fun k=>⟨[(2,_,_),(3,_,_),(4,_,_),(7,_,_),(9,_,_),(33,_,_),(34,_,_),(35,_,_),(40,_,_),(41,_,_),(42, .int .i64 k.1.1,pInt k.1.1)],[(2,_,_),(3,_,_),(4,_,_),(7,h7, .own 39 5 1 [pInt (a.n+b.n),pInt a.syms,pInts a.start,pInts (YV a.n b.fin), .val k.1.2]),(1000,k.1.2, .own 93 3 (ctM a b i++JW a.n f (b.start.take k.1.1)).length ((ctM a b i++JW a.n f (b.start.take k.1.1)).flatMap cMv))]⟩) (fun k=>b.start.length-k.1.1) ⟨(0,hI),Xd _,hIo,by show (ctM a b i++[]).length≤40001;rw [Xr];exact hIl⟩ (fun a w H=>H.weaken ⟨rfl,rfl,rfl,rfl,rfl,rfl,rfl,rfl,rfl,rfl,rfl,trivial⟩ ⟨rfl,rfl,rfl,rfl,rfl,trivial⟩) ?_;rintro ⟨⟨j,hJ⟩,hj,hJo,hJl⟩;dsimp only;dsimp only at hj hJo hJl;have q6:En.one (PV.val hJ)=true:=hJo;refine Ze ?_;(refine xL 43 ZP ?_<;>refine Zc ?_)
 refine cX ?_ ?_<;>intro hb43
 · first |exact bN hb43|(
 obtain ⟨s,hs⟩:=Zt (show j<b.start.length by omega);have e2:=Z7 (f:=pInt) hs;have hsin:=hb.st s (Xc hs);have hpart:=Zgt f (by omega:i<a.fin.length) hj;refine Ze ?_;(refine xL 44 (ZI Zp) ?_<;>(refine yL 45 (Z9 Zg) fun v45 h=>?_;cases h)<;>refine xL 11 Za ?_<;>refine Zi ?_)
 (refine xL 46 (Zd 7 Zx) ?_<;>(refine yL 47 (Zk 7 ZA) fun v47 h=>?_;cases h)<;>refine xL 48 (YF 1000 ZK) (xL 49 Yr ?_)<;>refine Zc ?_)
 refine cX ?_ ?_<;>intro hb49
 · first|exact bN hb49|(
 refine Ze ?_;(refine xL 50 (ZL ZV) ?_<;>refine ZE 4 Zh ?_<;>refine xL 5 Za ?_<;>refine Zc ?_)
 exact Z5 (k:=5) 4 kR (results87) rfl rfl rfl (Xa rfl) dC rfl (.inr ⟨oM,rfl⟩))
 · first|exact bN hb49|(
 refine Ze ?_;(refine xL 51 (Zd 7 Zx) ?_<;>(refine yL 52 (Zk 7 ZA) fun v52 h=>?_;cases h)<;>refine xL 53 Zb (xL 54 Zb (xL 55 (Zd 2 ZQ) ?_))<;>(refine yL 56 (Zk 2 Zg) fun v56 h=>?_;cases h)<;>refine xL 57 ZG (xL 58 (ZL YW) ?_)<;>refine YB 59 ZU fun h59 ho59=>?_<;>(refine ZW 1000 59 60 ZU fun h60 ho60=>?_;refine Zs (ZC (l:=60) 1000 rfl rfl) fun _=>?_;refine Zs (ZH (l:=1000) rfl ((WR _ (ctM a b i++JW a.n f (b.start.take j)) ⟨f,s+a.n,-1⟩).trans (by rw [Xy,←OZ a.n f hs]))) fun _=>?_;have q60:En.one (PV.val h60)=true:=ho60)<;>refine xL 61 (Zd 7 Zx) ?_<;>refine YL 7 ZA YA ?_<;>refine Zi ?_)
 (refine xL 62 ZG (xL 42 Zb ?_)<;>refine Zc ?_)
 (have hl3:(ctM a b i++JW a.n f (b.start.take (j+1))).length≤40001:=by rw [OZ a.n f hs,←Xy,Xb,Xx];omega);refine Zm (
  ⟨(j+1,h60),Zf hs,ho60,hl3⟩
  ) (by dsimp only;omega) ⟨rfl,rfl,rfl,rfl,rfl,rfl,rfl,rfl,rfl,rfl,rfl,trivial⟩ ⟨rfl,rfl,rfl,rfl,rfl,trivial⟩))
 · first|exact bN hb43|(
 (have hctS:ctM a b i++JW a.n f (b.start.take j)=ctM a b (i+1):=by rw [Xj (show b.start.length≤j by omega),ZdE hf]);rw [hctS] at hJl;refine Zq (ZH (l:=1000) (p':= .own 93 3 (ctM a b (i+1)).length ((ctM a b (i+1)).flatMap cMv)) rfl (by rw [hctS])) fun _=>?_;refine Ze ?_;(refine xL 63 ZG (xL 35 Zb ?_)<;>refine Zc ?_)
 refine Zm (
  ⟨(i+1,hJ),Zf hf,hJo,hJl⟩
  ) (by dsimp only;omega) ⟨rfl,rfl,rfl,rfl,rfl,rfl,rfl,trivial⟩ ⟨rfl,rfl,rfl,rfl,rfl,trivial⟩))
   · first|exact bN hb36|(
 have hctA:=Zgs a b (show a.fin.length≤i by omega);rw [hctA] at hIl;have hr:=hr hIl;refine Zq (ZH (l:=1000) (p':= .own 93 3 (Kp a b).moves.length ((Kp a b).moves.flatMap cMv)) rfl (by rw [hctA])) fun _=>?_;refine Ze ?_;((refine yL 64 (Zu (k:=5) (ps:=[pInt (a.n+b.n),pInt a.syms,pInts a.start,pInts (YV a.n b.fin),PV.val hI]) 7 kR) fun v64 h=>?_;cases h)<;>(refine WQ [(1000,hI,PV.own 93 3 (Kp a b).moves.length ((Kp a b).moves.flatMap cMv)),(2,_,_),(3,_,_),(4,_,_),(7,_,_)] ⟨rfl,rfl,rfl,rfl,rfl,trivial⟩ ?_;refine JP [2,3,4,7] 65 (call137) (Zbg (Kp a b) oM (ζF ha hb) _ hI hIo r5 hr) ?_;rintro _ _ _ ⟨⟨V1,rfl⟩,rfl,rfl⟩)<;>refine xL 66 Zj (xL 67 Zj ?_)<;>refine ZE 4 Zh ?_<;>refine xL 5 Za ?_<;>refine Zc ?_)
 exact Z5 (k:=5) 4 kR (results87) rfl rfl rfl (Xa rfl) dC r5.s (.inl ⟨hIl,rfl⟩))
theorem Da (a b:Aut):AF prog 87 [ZN a,ZN b] (· =resW (Gs a b)):=by
 unfold Gs
 by_cases h0:WK a b=0
 · rw [US (fun h=>h h0)];obtain ⟨ha,hb,hs⟩:=Jk h0;have h13:20000<(Kp a b).moves.length→Je (Kp a b)= .error 13:=fun h=>by
    rw [Zdn ha hb hs,ζU ha hb (.inr (by rw [←Og];exact h))]
   rcases XD 40001 (Kp a b).moves.length with hl|hl
   · refine (Zab a b h0 R5.raw (E:=13) fun h=>oM).mono fun p hp=>?_;rw [h13 oM];rcases hp with ⟨h,_⟩|⟨_,h⟩
     · omega
     · exact h
   · obtain ⟨p0,p1,p2,p3,p4,E,h5,h2,hr⟩:=TV (Kp a b) oM (HG ha hb hs);refine (Zab a b h0 h5 fun _=>hr).mono fun p hp=>?_;rcases hp with ⟨_,h⟩|⟨hl2,h⟩
     · rw [h2];exact h
     · rw [h13 hl2];exact h
 · rw [UT h0];exact ZdF a b _ h0 (Pt a b)
theorem ZkL (L:List Mv) (k:Nat) (x:Mv) (h:k<L.length):Se (L.flatMap cMv) (k*3) (cMv x)=(L.set k x).flatMap cMv:=by
 have e:L=L.take k++[L[k]]++L.drop (k+1):=by
  rw [Xy,List.singleton_append,List.getElem_cons_drop,VF]
 have e2:L.set k x=L.take k++[x]++L.drop (k+1):=by
  rw [List.set_eq_take_append_cons_drop,UT h,Xy];rfl
 rw [e2]
 conv=>lhs;rw [e]
 simp only [XN,VS]
 exact ZaR (α:=Int) (cMv x) _ _ _ _ (by rw [flat_len Z2,Xo,X6 (Nat.le_of_lt h)]) rfl
theorem ZnA {x y:Mv} (h:¬GB x y<0):y=x∨Ka y x=true:=by
 rw [JU] at h
 cases h2:Ka y x with
 |true=>exact .inr rfl
 |false=>exact .inl (P9 h2 (by simpa using h))
theorem Zor {l:List Mv} (h:1≤l.length):mkM (l.take 1)=l.take 1:=by
 cases l with
 |nil=>simp at h
 |cons x l=>rfl
theorem Zgu {l:List Mv} {p:Nat} {x y:Mv} (hy:l[p]? =some y) (hx:l[p+1]? =some x) (he:eqM x y=true):mkM (l.take (p+1+1))=mkM (l.take (p+1)):=by
 have e:=Gh.1 he
 subst e
 refine SH (Kc _) (Kc _) fun z=>?_
 rw [W2,W2,ZR hx,Xp,Xi]
 exact ⟨fun h=>h.elim id fun h=>by subst h;rw [ZR hy];exact X9 _ (Xi.2 rfl), .inl⟩
theorem ZkM {l:List Mv} (hs:ET l) {p:Nat} {x y:Mv} (hy:l[p]? =some y) (hx:l[p+1]? =some x) (he:eqM x y=false):mkM (l.take (p+1+1))=mkM (l.take (p+1))++[x]:=by
 have hyx:Ka y x=true:=by
  rcases ZnA (hs p (p+1) y x oM hy hx) with h|h
  · subst h;rw [Gh.2 rfl] at he;cases he
  · exact h
 refine (OU ?_ fun z=>?_).symm
 · refine Vk.2 ⟨Kc _,Vq ..,fun z hz w hw=>?_⟩;rw [Xi.1 hw];rw [W2] at hz;obtain ⟨i,hi⟩:=XV hz;have hi':=Zf hi;rw [Xo] at hi';rw [XZ oM] at hi;by_cases e:i=p
   · subst e;rw [hi] at hy;cases hy;exact hyx
   · rcases ZnA (hs i p z y oM hi hy) with h|h
     · subst h;exact hyx
     · exact TP h hyx
 · rw [Xp,W2,Xi,ZR hx,Xp,Xi]
theorem ZmS {hv:Value} (h:hv.oneCell'=true) (i j k:Nat):(slc hv i j k).oneCell'=true:=by
 unfold slc;split
 · rfl
 · exact h
set_option maxHeartbeats 2000000 in
theorem ZdG (l : List Mv) (hl:l.length≤1000000) (hs:ET l) (hv:Value) (hvo:hv.oneCell'=true):AFh False prog 189 [(0,hv, .val hv)] [(1000,hv, .own 93 3 l.length (l.flatMap cMv))] (fun v q h=>v.oneCell'=true∧q= .val v∧h=[(1000,v, .own 93 3 (mkM l).length ((mkM l).flatMap cMv))]):=by
 refine AFh.of_body 61 func189 rfl ntmps189 (Xa rfl) rfl ?_
 intro w0 M0 N0
 refine Ze ?_
 (refine xL 2 Za ?_<;>refine Zi ?_)
 (refine xL 6 Zb (xL 7 (YF 1000 ZK) (xL 8 ZP ?_))<;>refine Zc ?_)
 refine cX ?_ ?_<;>intro hb8
 · first|exact bN hb8|(
 refine Ze ?_;(refine xL 9 Zb (xL 2 Za ?_)<;>refine Zc ?_)
 refine H4 [(1000,hv,PV.own 93 3 l.length (l.flatMap cMv))] (results189) rfl ⟨rfl,trivial⟩ ⟨hvo,rfl,?_⟩;have hm:mkM l=l:=by
  match l,hl,hb8 with
  |[],_,_=>rfl
  |[_],_,_=>rfl
  |_::_::_,_,h=>simp at h;omega
 rw [hm])
 · first | exact bN hb8|(
 refine Ze ?_;(refine xL 3 Za ?_<;>refine Zc ?_)
 refine ZD (ι:={k:Nat//1≤k∧k≤l.length∧mkM (l.take k)=l.take k}) (fun k=>⟨[(0,_,_),(3, .int .i64 k.1,pInt k.1)],[(1000,_,_)]⟩) (fun k=>l.length-k.1) ⟨1,Xg _,oM,Zor oM⟩ (fun a w H=>H.weaken ⟨rfl,rfl,trivial⟩ ⟨rfl,trivial⟩) ?_;rintro ⟨k1,hk1,hk,hmk⟩;dsimp only;obtain ⟨k,rfl⟩:∃k,k1=k+1:=⟨k1-1,oM⟩;refine Ze ?_;(refine xL 10 Zb (xL 11 Zb (xL 12 (YF 1000 ZK) (xL 13 ZP ?_)))<;>refine Zc ?_)
 refine cX ?_ ?_<;>intro hb13
 · first | exact bN hb13|(
 obtain ⟨x,hx⟩:=Zt (show k+1<l.length by omega);obtain ⟨y,hy⟩:=Zt (show k<l.length by omega);have e1:=Ym Z2 l (k+1) x hx;have e2:=YK Z2 hx;(have e3:((l.flatMap cMv).drop ((((k+1:Nat):Int)-1).toNat*3)).take 3=cMv y:=by rw [show (((k+1:Nat):Int)-1).toNat*3=k*3 by omega];exact Ym Z2 l k y hy);have e4:=YK Z2 hy;have hlt:k+1<l.length:=Zf hx;refine nav ?_;(refine ZZ (fun i=>([]:List Nat).elem i) [1000] kR ?_<;>refine xD 0 16 rfl Zb ?_<;>refine xD 1 17 rfl Zb ?_<;>refine xD 2 18 rfl (Yh 1000 ZK) ?_<;>(refine yD 3 19 rfl (Zu 1000 ZX) fun v19 h=>?_;cases h)<;>refine xD 4 20 rfl Zb ?_<;>refine xE 5 21 rfl Zb ?_<;>refine xE 6 22 rfl K7 ?_<;>refine xE 7 23 rfl (W4 1000 ZK) ?_<;>(refine yE 8 24 rfl (Zu 1000 ZX) fun v24 h=>?_;cases h)<;>refine xE 9 25 rfl ((ZiY (us:=vMv x) (us':=vMv y) Zmh Zmi Zmj (Rp x y) rfl rfl)) ?_<;>refine Yw kR (nav ?_)<;>try dsimp only)
 refine cX ?_ ?_<;>intro hb25
 · first | exact bN hb25|(
 have hsm:=Zgu hy hx (by simpa using hb25);(have hl1:(mkM (l.take (k+1+1))).length=k+1:=by rw [hsm,hmk,Xo];omega);refine Ze ?_;(refine xL 26 Zb (xL 27 Zb ?_)<;>refine xL 28 (LU (i:=k+1) (j:=l.length) 1000 ZK rfl rfl rfl rfl rfl (Nat.le_of_lt hlt) (Xg _)) ?_<;>refine xL 4 Za ?_<;>refine Zi ?_)
 (refine xL 5 Za ?_<;>refine Zc ?_)
 refine ZD (ι:={q:Nat×Nat×List Mv//1≤q.1∧k+1+q.1≤l.length∧q.2.1=(mkM (l.take (k+1+q.1))).length∧q.2.2.length=l.length∧q.2.2.take q.2.1=mkM (l.take (k+1+q.1))∧q.2.1≤k+q.1∧∀i,k+q.1≤i→q.2.2[i]? =l[i]? }) (fun k=>⟨[(0,_,_),(4,_,_),(3, .int .i64 k.1.2.1,pInt k.1.2.1),(5, .int .i64 k.1.1,pInt k.1.1)],[(1000,hv, .own 93 3 l.length (k.1.2.2.flatMap cMv))]⟩) (fun k=>l.length-k.1.1) ⟨(1,k+1,l),Xg _,by dsimp only;omega,hl1.symm,rfl,by dsimp only;rw [hsm,hmk],Xg _,fun i _=>rfl⟩ (fun a w H=>H.weaken ⟨rfl,rfl,rfl,rfl,trivial⟩ ⟨rfl,trivial⟩) ?_;rintro ⟨⟨j,K,L⟩,hj1,hj,hK,hLl,hLt,hKj,hLr⟩;dsimp only;dsimp only at hj1 hj hK hLl hLt hKj hLr;obtain ⟨j',rfl⟩:∃j',j=j'+1:=⟨j-1,oM⟩;have hK2:(K:Int)≤1000000:=oM;rw [show k+1+(j'+1)=k+1+j'+1 from rfl] at hK hLt;refine Ze ?_;(refine xL 29 Zb (xL 30 Zb ?_)<;>refine xL 31 ((Zg8 (a:=k+1) (m:=l.length-(k+1)) 1000 ZK rfl rfl rfl rfl)) ?_<;>refine xL 32 ZP ?_<;>refine Zc ?_)
 refine cX ?_ ?_<;>intro hb32
 · first | exact bN hb32|(
 obtain ⟨u,hu⟩:=Zt (show k+1+(j'+1)<l.length by omega);obtain ⟨v,hv2⟩:=Zt (show k+1+j'<l.length by omega);(have hu':L[k+1+(j'+1)]? =some u:=by rw [hLr _ oM];exact hu);(have hv':L[k+1+j']? =some v:=by rw [hLr _ oM];exact hv2);have g1:=Ym Z2 L _ u hu';have g2:=YK Z2 hu';have g3:=Ym Z2 L _ v hv';have g4:=YK Z2 hv';have g5:K<L.length:=oM;(have g6:K*3+3≤(L.flatMap cMv).length:=by rw [flat_len Z2];omega);refine nav ?_;(refine ZZ (fun i=>([]:List Nat).elem i) [1000] kR ?_<;>refine xD 0 35 rfl Zb ?_<;>refine xD 1 36 rfl Zb ?_<;>refine xD 2 37 rfl ((ON (a:=k+1) (m:=(k+1+(j'+1))*3) 1000 ZK rfl rfl rfl rfl oM oM oM)) ?_<;>(refine yD 3 38 rfl (Zu 1000 ZX) fun v38 h=>?_;cases h)<;>refine xD 4 39 rfl Zb ?_<;>refine xE 5 40 rfl Zb ?_<;>refine xE 6 41 rfl K7 ?_<;>refine xE 7 42 rfl ((ON (a:=k+1) (m:=(k+1+j')*3) 1000 ZK rfl rfl rfl rfl oM oM oM)) ?_<;>(refine yE 8 43 rfl (Zu 1000 ZX) fun v43 h=>?_;cases h)<;>refine xE 9 44 rfl ((Zo1 (us:=vMv u) (us':=vMv v) Zmh Zmi Zmj (Rp u v) rfl rfl)) ?_<;>refine Yw kR (nav ?_)<;>try dsimp only)
 refine cX ?_ ?_<;>intro hb44
 · first |exact bN hb44|(
 have hnw2:=ZkM hs hv2 hu (by simpa using hb44);have hset:=ZkL L K u g5;(have hlen2:K+1=(mkM (l.take (k+1+j'+1+1))).length:=by rw [hnw2,Xb,Xx,hK]);have htk2:(L.set K u).take (K+1)=mkM (l.take (k+1+j'+1+1)):=by
  rw [hnw2,←hLt,List.take_set,ZR (XX g5),List.set_append_right _ _ (by rw [Xo];omega),Xo,X6 oM,V3];rfl
 refine Ze ?_;(refine xL 45 Zb (xL 46 Zb (xL 47 Zb (xL 48 Zb ?_)))<;>refine xL 49 ((ON (a:=k+1) (m:=(k+1+(j'+1))*3) 1000 ZK rfl rfl rfl rfl oM oM oM)) ?_<;>(refine yL 50 (Zu 1000 ZX) fun v50 h=>?_;cases h)<;>refine xL 51 (Yh 1000 ZK) ?_<;>refine ZE 1000 ZX ?_<;>refine Zi ?_)
 (refine xL 52 Zb (xL 53 ZG (xL 3 Za ?_))<;>refine Zi ?_)
 (refine xL 33 Zb (xL 34 ZG (xL 5 Za ?_))<;>refine Zc ?_)
 try rw [hset]
 first
  | (exact Zm (
      ⟨(j'+1+1,K+1,L.set K u),by dsimp only;omega,by dsimp only;omega,hlen2,by dsimp only;rw [Xt];exact hLl,htk2,by dsimp only;omega,fun i hi=>by dsimp only at hi ⊢;rw [Vi oM];exact hLr i oM⟩
      ) (by dsimp only;omega) ⟨rfl,rfl,rfl,rfl,trivial⟩ ⟨rfl,trivial⟩)
  | (exact Zm (
      ⟨(j'+1+1,K,L),by dsimp only;omega,by dsimp only;omega,hK.trans (by rw [show k+1+(j'+1+1)=k+1+j'+1+1 by omega,hsm2]),hLl,hLt.trans (by rw [show k+1+(j'+1+1)=k+1+j'+1+1 by omega,hsm2]),by dsimp only;omega,fun i hi=>hLr i (by dsimp only at hi;omega)⟩
      ) (by dsimp only;omega) ⟨rfl,rfl,rfl,rfl,trivial⟩ ⟨rfl,trivial⟩))
 · first |exact bN hb44|(
 have hsm2:=Zgu hv2 hu (by simpa using hb44);refine Ze ?_;(refine xL 33 Zb (xL 34 ZG (xL 5 Za ?_))<;>refine Zc ?_)
 try rw [hset]
 first
  | (exact Zm (
      ⟨(j'+1+1,K+1,L.set K u),by dsimp only;omega,by dsimp only;omega,hlen2,by dsimp only;rw [Xt];exact hLl,htk2,by dsimp only;omega,fun i hi=>by dsimp only at hi ⊢;rw [Vi oM];exact hLr i oM⟩
      ) (by dsimp only;omega) ⟨rfl,rfl,rfl,rfl,trivial⟩ ⟨rfl,trivial⟩)
  | (exact Zm (
      ⟨(j'+1+1,K,L),by dsimp only;omega,by dsimp only;omega,hK.trans (by rw [show k+1+(j'+1+1)=k+1+j'+1+1 by omega,hsm2]),hLl,hLt.trans (by rw [show k+1+(j'+1+1)=k+1+j'+1+1 by omega,hsm2]),by dsimp only;omega,fun i hi=>hLr i (by dsimp only at hi;omega)⟩
      ) (by dsimp only;omega) ⟨rfl,rfl,rfl,rfl,trivial⟩ ⟨rfl,trivial⟩)))
 · first|exact bN hb32|(
 have hall:l.take (k+1+j'+1)=l:=Xj oM;rw [hall] at hK hLt;have hKl:K≤l.length:=oM;refine Ze ?_;(refine xL 54 Zb (xL 55 Zb ?_)<;>refine xL 56 (LU (i:=K) (j:=l.length) 1000 ZK rfl rfl rfl rfl rfl hKl (Xg _)) ?_<;>(refine Zb8 1000 ZU dC rfl rfl rfl rfl rfl hKl ?_;intro cs2 hcs1 hcs2)<;>refine Zi ?_)
 (refine xL 57 Zb (xL 58 Zb ?_)<;>refine xL 59 (LU (i:=0) (j:=K) 1000 ZK rfl rfl rfl rfl rfl (Xd _) hKl) ?_<;>refine xL 2 Za ?_<;>refine Zc ?_)
 refine Y3 (Zo0 (l:=1000) K rfl hKl) fun _=>?_;refine H4 [(1000,slc hv 0 K 3,PV.own 93 3 K (cs2.take (K*3)))] (results189) rfl ⟨rfl,trivial⟩ ⟨ZmS hvo _ _ _,rfl,?_⟩;rw [hcs2,←hLt,Pk Z2];rw [show (L.take K).length=K by rw [Xo];omega]))
 · first|exact bN hb25|(
 have hnw:=ZkM hs hy hx (by simpa using hb25);rw [hmk,←ZR hx] at hnw;refine Ze ?_;(refine xL 14 Zb (xL 15 ZG (xL 3 Za ?_))<;>refine Zc ?_)
 refine Zm (
  ⟨k+1+1,oM,oM,hnw⟩
  ) (by dsimp only;omega) ⟨rfl,rfl,trivial⟩ ⟨rfl,trivial⟩))
 · first|exact bN hb13|(
 refine Ze ?_;(refine xL 60 Zb (xL 2 Za ?_)<;>refine Zc ?_)
 refine H4 [(1000,hv,PV.own 93 3 l.length (l.flatMap cMv))] (results189) rfl ⟨rfl,trivial⟩ ⟨hvo,rfl,?_⟩;rw [Xj (show l.length≤k+1 by omega)] at hmk;rw [hmk]))
theorem ZmT {l m:List Mv} (h:l.Perm m):mkM l=mkM m:=OU (Kc l) fun x=>by rw [W2];exact h.mem_iff
theorem ZmU (a:Aut) (hl:a.moves.length≤1000000) (V hM:Value) (hMo:hM.oneCell'=true) {p0 p1 p2 p3 p4:PV} {E:Int} (h5:R5 p0 p1 p2 p3 p4) (hr:AF prog 132 [ZN (mkA a)] (· = .tup [.agg [p0,p1,p2,p3,p4],pInt E])):AFh False prog 137 [(0,V, .agg [pInt a.n,pInt a.syms,pInts a.start,pInts a.fin, .val hM])] [(1000,hM, .own 93 3 a.moves.length (a.moves.flatMap cMv))] (fun v q h=>(∃V1:Value,v= .tuple [V1, .int .i64 E].toArray)∧q= .tup [.agg [p0,p1,p2,p3,p4],pInt E]∧h=[]):=by
 obtain ⟨o0,o1,o2,o3,o4⟩:=h5.o
 refine AFh.of_body 15 func137 rfl ntmps137 (Xa rfl) rfl ?_
 intro w0 M0 N0
 have hone:En.one (PV.val hM)=true:=hMo
 refine Ze ?_
 (refine ZB 1 5 fun h1=>?_<;>refine Zw [(.int .i64 0),(.int .i64 0),(.slice none 0 0),(.slice none 0 0),(.slice none 0 0)] 5 2 ZJ fun h2=>?_<;>refine xL 3 Za ?_<;>refine Zi ?_)
 (refine xL 4 (Zd 1 Zx) ?_<;>(refine yL 5 (Zk 1 ZA) fun v5 h=>?_;cases h)<;>(rcases X7 a.moves.length with h0|h0<;>first|(refine Zs (ZH (l:=1000) (p':= .own 93 3 0 []) rfl (by rw [XR h0];rfl)) fun _=>?_;refine Zdh (l:=1000) DW rfl rfl (Xa rfl) rfl (call188) rfl rfl rfl ?_;obtain ⟨rows',hperm,hord⟩:∃rows':List Mv,rows'.Perm a.moves∧ET rows':=⟨[],by rw [XR h0],fun i j x y _ h=>by simp at h⟩;refine Zs (ZH (l:=1000) (p':= .own 93 3 rows'.length (rows'.flatMap cMv)) rfl (by rw [XR (hperm.length_eq.trans h0)];rfl)) fun _=>?_)|(refine ZfN (l:=1000) (β:=Mv) (f:=cMv) (cmp:=GB) (rows:=a.moves) Zdk Z2 dC (fun _=>rfl) ζR Zdi Zdj (fun x y M W u v _ _ hu hv=>ζS x y M W u v hu hv) h0 oM rfl rfl (Xa rfl) rfl (call188) rfl rfl rfl (fun rows' hperm hord=>?_);refine Zs (ZH (l:=1000) (p':= .own 93 3 rows'.length (rows'.flatMap cMv)) rfl (by rw [hperm.length_eq])) fun _=>?_))<;>refine Zc ?_)<;>(
 (refine Zv ?_<;>refine xL 7 (Zd 1 Zx) ?_<;>(refine yL 8 (Zk 1 ZA) fun v8 h=>?_;cases h)<;>(refine WQ [(1000,hM,PV.own 93 3 rows'.length (rows'.flatMap cMv)),(1,_,_),(2,_,_)] ⟨rfl,rfl,rfl,trivial⟩ ?_;refine JP [1,2] 9 (call189) (ZdG rows' (by have:=hperm.length_eq;omega) hord hM hMo) ?_;rintro v9 _ _ ⟨hv9,rfl,rfl⟩;refine Zs (ZH (l:=1000) (p':= .own 93 3 (mkM a.moves).length ((mkM a.moves).flatMap cMv)) rfl (by rw [ZmT hperm])) fun _=>?_;have hone9:En.one (PV.val v9)=true:=hv9)<;>refine xL 10 (Zd 1 Zx) ?_<;>refine YL 1 ZA YA ?_<;>refine Zc ?_)
 refine Zq (Z6 (l:=1) (l':=1000) (j:=4) rfl rfl rfl rfl) fun _=>?_;rw [Km _ _ _ rfl];(refine Zv ?_<;>(refine yL 11 (Zu 1 Zh) fun v11 h=>?_;cases h)<;>(refine cP 12 (cA call132 hr) (fun va12 vb12 hva12 hvb12=>?_) (hsh:=h5.t E);cases hvb12)<;>refine xL 13 Zj (xL 14 Zj ?_)<;>refine ZE 2 Zh ?_<;>refine xL 3 Za ?_<;>refine Zc ?_)
 exact Hu (k:=5) 2 [] kR (results137) rfl rfl rfl (Xa rfl) dC h5.s trivial fun V=>⟨⟨V,rfl⟩,rfl,rfl⟩)
theorem Lm {x y X Y:Int} (hx:0≤x∧x≤X) (hy:0≤y∧y≤Y):0≤x*y∧x*y≤X*Y:=⟨Int.mul_nonneg hx.1 hy.1,Int.mul_le_mul hx.2 hy.2 hy.1 oM⟩
def Db (m:Int) (x:Mv) (j:Nat):List Mv:=(List.range j).map fun j=>⟨x.src*m+(j:Nat),x.dst*m+(j:Nat),x.sym⟩
theorem Zh0 (m:Int) (x:Mv) (j:Nat):Db m x (j+1)=Db m x j++[⟨x.src*m+(j:Nat),x.dst*m+(j:Nat),x.sym⟩]:=by unfold Db;rw [Ua,Xu];rfl
def Dc (m:Int) (x:Mv) (i:Nat):List Mv:=(List.range i).map fun i=>⟨(i:Nat)*m+x.src,(i:Nat)*m+x.dst,x.sym⟩
theorem Zh1 (m:Int) (x:Mv) (i:Nat):Dc m x (i+1)=Dc m x i++[⟨(i:Nat)*m+x.src,(i:Nat)*m+x.dst,x.sym⟩]:=by unfold Dc;rw [Ua,Xu];rfl
def smA (a b:Aut) (k:Nat):List Mv:=(a.moves.take k).flatMap (shL b.n)
def smB (a b:Aut) (k:Nat):List Mv:=a.moves.flatMap (shL b.n)++(b.moves.take k).flatMap (shR a.n b.n)
theorem ZkN {a b:Aut} {k:Nat} {x:Mv} (h:a.moves[k]? =some x):smA a b (k+1)=smA a b k++Db b.n x b.n.toNat:=by unfold smA;rw [ZR h,XN,VS];rfl
theorem ZkO {a b:Aut} {k:Nat} {x:Mv} (h:b.moves[k]? =some x):smB a b (k+1)=smB a b k++Dc b.n x a.n.toNat:=by unfold smB;rw [ZR h,XN,VS,Xy];rfl
theorem ZmV {a b:Aut} {k:Nat} (h:a.moves.length≤k):smA a b k=smB a b 0:=by unfold smA smB;rw [Xj h];exact (Xr _).symm
theorem ZmW {a b:Aut} {k:Nat} (h:b.moves.length≤k):smB a b k=(Wj a b).moves:=by unfold smB;rw [Xj h];rfl
theorem Ou (a b:Aut):(Wj a b).moves.length=a.moves.length*b.n.toNat+b.moves.length*a.n.toNat:=by
 show (a.moves.flatMap (shL b.n)++b.moves.flatMap (shR a.n b.n)).length=_
 rw [Xb,flat_len (HH b.n),flat_len (Zbk a.n b.n)]
theorem ZkP {a b:Aut} {k j:Nat} (x:Mv) (hk:k<a.moves.length) (hj:j≤b.n.toNat):(smA a b k++Db b.n x j).length≤(Wj a b).moves.length:=by
 rw [Ou]
 unfold smA Db
 rw [Xb,flat_len (HH b.n),Xo,Xe,Ul,X6 (Nat.le_of_lt hk)]
 have h1:(k+1)*b.n.toNat≤a.moves.length*b.n.toNat:=Vt _ hk
 rw [X8] at h1
 omega
theorem ZkQ {a b:Aut} {k i:Nat} (x:Mv) (hk:k<b.moves.length) (hi:i≤a.n.toNat):(smB a b k++Dc b.n x i).length≤(Wj a b).moves.length:=by
 rw [Ou]
 unfold smB Dc
 rw [Xb,Xb,flat_len (HH b.n),flat_len (Zbk a.n b.n),Xo,Xe,Ul,X6 (Nat.le_of_lt hk)]
 have h1:(k+1)*a.n.toNat≤b.moves.length*a.n.toNat:=Vt _ hk
 rw [X8] at h1
 omega
theorem ZdH {m:Int} {l k:List Int} {i:Nat} {x:Int} (h:l[i]? =some x):shI m (l.take (i+1)) k=shI m (l.take i) k++YV (x*m) k:=by unfold shI;rw [ZR h,XN,VS]
theorem Zgv (m:Int) (l k:List Int):(shI m l k).length=l.length*k.length:=flat_len (fun x=>KV _ _) l
theorem Zbz (a b:Aut) (e:Int) (he:¬e=0) (hf:AF prog 120 [ZN a,ZN b] (· =pInt e)):AF prog 89 [ZN a,ZN b] (· = .tup [KL,pInt e]):=by
 refine AF.of_body 162 func89 rfl ntmps89 (Xa rfl) ?_
 intro w0 M0 vs hl hv
 obtain ⟨v0,v1,rfl⟩:=YI hl
 clear hl hv
 refine Ze ?_
 (refine ZB 2 5 fun h2=>?_<;>refine ZB 3 5 fun h3=>?_<;>refine Zw [(.int .i64 0),(.int .i64 0),(.slice none 0 0),(.slice none 0 0),(.slice none 0 0)] 5 4 ZJ fun h4=>?_<;>refine xL 5 Za ?_<;>refine Zi ?_)
 ((refine yL 20 (Zu 2 Zh) fun v20 h=>?_;cases h)<;>(refine yL 21 (Zu 3 Zh) fun v21 h=>?_;cases h)<;>(refine cS 22 (cA call120 (hf)) fun v22 h=>?_;cases h)<;>refine xL 6 Za ?_<;>refine Zi ?_)
 (refine xL 23 Zb (xL 24 Yv ?_)<;>refine Zc ?_)
 refine cX ?_ ?_<;>intro hb24
 · refine Ze ?_;(refine xL 25 (ZL ZV) (xL 26 Zb ?_)<;>refine ZE 4 Zh ?_<;>refine xL 5 Za ?_<;>refine Zc ?_)
   exact Z5 (k:=5) 4 kR (results89) rfl rfl rfl (Xa rfl) dC rfl rfl
 · exact UU (by simpa using hb24) he
set_option maxHeartbeats 8000000 in
theorem Cj (a b : Aut) (hf0:WK a b=0) {p0 p1 p2 p3 p4:PV} {E:Int} (r5:R5 p0 p1 p2 p3 p4) (hr:(Wj a b).moves.length≤40000→AF prog 132 [ZN (mkA (Wj a b))] (· = .tup [.agg [p0,p1,p2,p3,p4],pInt E])):AF prog 89 [ZN a,ZN b] (· =if 2000<a.n*b.n∨40000<(a.moves.length:Int)*b.n+(b.moves.length:Int)*a.n then .tup [KL,pInt 13] else .tup [.agg [p0,p1,p2,p3,p4],pInt E]):=by
 obtain ⟨o0,o1,o2,o3,o4⟩:=r5.o
 obtain ⟨ha,hb,hs⟩:=Jk hf0
 have hf:=Pt a b
 rw [hf0] at hf
 have hn0:=ha.n0
 have hn1:=ha.n1
 have m0:=hb.n0
 have m1:=hb.n1
 have k1:=ha.sl
 have k2:=hb.sl
 have k3:=ha.fl
 have k4:=hb.fl
 have k5:=ha.ml
 have k6:=hb.ml
 have q1:=Lm (x:=a.n) (y:=b.n) ⟨hn0,hn1⟩ ⟨m0,m1⟩
 have q2:=Lm (x:=(a.moves.length:Int)) (y:=b.n) (X:=20000) ⟨oM,oM⟩ ⟨m0,m1⟩
 have q3:=Lm (x:=(b.moves.length:Int)) (y:=a.n) (X:=20000) ⟨oM,oM⟩ ⟨hn0,hn1⟩
 have eN:((a.n.toNat:Nat):Int)=a.n:=X4 hn0
 have eM:((b.n.toNat:Nat):Int)=b.n:=X4 m0
 have q4:(((Wj a b).moves.length:Nat):Int)=(a.moves.length:Int)*b.n+(b.moves.length:Int)*a.n:=by
  rw [Ou,Int.natCast_add,VC,VC,eN,eM]
 refine AF.of_body 162 func89 rfl ntmps89 (Xa rfl) ?_
 intro w0 M0 vs hl hv
 obtain ⟨v0,v1,rfl⟩:=YI hl
 clear hl hv
 refine Ze ?_
 (refine ZB 2 5 fun h2=>?_<;>refine ZB 3 5 fun h3=>?_<;>refine Zw [(.int .i64 0),(.int .i64 0),(.slice none 0 0),(.slice none 0 0),(.slice none 0 0)] 5 4 ZJ fun h4=>?_<;>refine xL 5 Za ?_<;>refine Zi ?_)
 ((refine yL 20 (Zu 2 Zh) fun v20 h=>?_;cases h)<;>(refine yL 21 (Zu 3 Zh) fun v21 h=>?_;cases h)<;>(refine cS 22 (cA call120 (hf)) fun v22 h=>?_;cases h)<;>refine xL 6 Za ?_<;>refine Zi ?_)
 (refine xL 23 Zb (xL 24 Yv ?_)<;>refine Zc ?_)
 refine cX ?_ ?_<;>intro hb24
 · first|omega|exact UU rfl hb24|exact bN hb24
 · refine nav ?_;(refine ZZ (fun i=>([]:List Nat).elem i) [2,3] kR ?_<;>refine xD 0 27 rfl (Zd 2 ZQ) ?_<;>(refine yD 1 28 rfl (Zk 2 Zg) fun v28 h=>?_;cases h)<;>refine xD 2 29 rfl (Zd 3 ZQ) ?_<;>(refine yD 3 30 rfl (Zk 3 Zg) fun v30 h=>?_;cases h)<;>refine xE 4 7 rfl Za ?_<;>refine xE 5 8 rfl Za ?_<;>refine Yw kR (nav ?_)<;>try dsimp only)
   (refine Zv ?_ <;> refine xL 31 Zb (xL 32 Zb (xL 33 Jr (xL 34 Yr (xL 35 Zb ?_))))<;>(refine bLd 35 (fun hb35=>?_) (fun hb35=>?_)<;>(first|refine kL 36 ?_|refine xL 36 (Zd 2 Zx) ?_))<;>(first|refine kL 37 ?_|(refine yL 37 (Zk 2 ZA) fun v37 h=>?_;cases h))<;>(first|refine kL 38 ?_|refine xL 38 (ZT ZK) ?_)<;>(first|refine kL 39 ?_|refine xL 39 Zb ?_)<;>(first|refine kL 40 ?_|refine xL 40 Jr ?_)<;>(first|refine kL 41 ?_|refine xL 41 (Zd 3 Zx) ?_)<;>(first|refine kL 42 ?_|(refine yL 42 (Zk 3 ZA) fun v42 h=>?_;cases h))<;>(first|refine kL 43 ?_|refine xL 43 (ZT ZK) ?_)<;>(first|refine kL 44 ?_|refine xL 44 Zb ?_)<;>(first|refine kL 45 ?_|refine xL 45 Jr ?_)<;>(first|refine kL 46 ?_|refine xL 46 ZG ?_)<;>(first|refine kL 47 ?_|refine xL 47 Yr ?_)<;>refine xL 48 ZF ?_<;>refine Zc ?_)<;>(
 refine cX ?_ ?_<;>intro hb48
 · first|exact bN hb48|(
 refine Ze ?_;(refine xL 49 (ZL ZV) ?_<;>refine ZE 4 Zh ?_<;>refine xL 5 Za ?_<;>refine Zc ?_)
 exact Z5 (k:=5) 4 kR (results89) rfl rfl rfl (Xa rfl) dC rfl (by rw [UT oM];rfl))
 · first | exact bN hb48|(
 refine nav ?_;have hnl:¬2000<a.n*b.n∧(Wj a b).moves.length≤40000:=oM;have hr:=hr hnl.2;have hnm:=hnl.1;have hml:=hnl.2;(refine Zv ?_<;>refine xL 50 Zb (xL 51 Zb (xL 52 Jr (xL 53 (Zd 2 Z3) ?_)))<;>(refine yL 54 (Zk 2 Zg) fun v54 h=>?_;cases h)<;>refine xL 55 (ZL ZV) ?_<;>refine Zw [(.int .i64 0),(.int .i64 0),(.slice none 0 0),(.slice none 0 0),(.slice none 0 0)] 5 9 ZJ fun h9=>?_<;>refine ZE 9 Zh ?_<;>refine Zc ?_)
 refine Zq (W1 (l:=9) [pInt (a.n*b.n),pInt a.syms, .own 3 1 0 [], .own 3 1 0 [], .own 93 3 0 []] rfl rfl (fun i p p' h1 h2=>by
  match i with
  |0=>cases h1;cases h2;exact .inl rfl
  |1=>cases h1;cases h2;exact .inl rfl
  |2=>cases h1;cases h2;exact .inr ⟨rfl,_,_,rfl⟩
  |3=>cases h1;cases h2;exact .inr ⟨rfl,_,_,rfl⟩
  |4=>cases h1;cases h2;exact .inr ⟨rfl,_,_,rfl⟩
  |i+5=>simp at h2)) fun _=>?_
 refine Zq (Ww (l:=9) (l':=302) (j:=2) rfl rfl rfl rfl) fun i=>?_;obtain ⟨v302,ho302⟩:=i;dsimp only [List.set];refine Zq (Ww (l:=9) (l':=303) (j:=3) rfl rfl rfl rfl) fun i=>?_;obtain ⟨v303,ho303⟩:=i;dsimp only [List.set];refine Zq (Ww (l:=9) (l':=1000) (j:=4) rfl rfl rfl rfl) fun i=>?_;obtain ⟨v1000,ho1000⟩:=i;dsimp only [List.set];have qo2:En.one (PV.val v302)=true:=ho302;have qo3:En.one (PV.val v303)=true:=ho303;refine Zq (ZH (l:=1000) (p':= .own 93 3 (smA a b 0).length ((smA a b 0).flatMap cMv)) rfl rfl) fun _=>?_;(refine Zv ?_<;>refine xL 56 (Zd 2 Zx) ?_<;>(refine yL 57 (Zk 2 ZA) fun v57 h=>?_;cases h)<;>refine xL 58 (ZT ZK) (xL 59 Zb ?_)<;>refine Zc ?_)
 refine ZD (ι:={q:Nat×Value//q.1≤a.moves.length∧q.2.oneCell'=true}) (fun k=>⟨[(2,_,_),(3,_,_),(4,_,_),(7,_,_),(8,_,_),(9,_,_),(57,_,_),(58,_,_),(59, .int .i64 k.1.1,pInt k.1.1)],[(2,_,_),(3,_,_),(4,_,_),(302,_,_),(303,_,_),(9,h9, .own 39 5 1 [pInt (a.n*b.n),pInt a.syms, .val v302, .val v303, .val k.1.2]),(1000,k.1.2, .own 93 3 (smA a b k.1.1).length ((smA a b k.1.1).flatMap cMv))]⟩) (fun k=>a.moves.length-k.1.1) ⟨(0,v1000),Xd _,ho1000⟩ (fun a w H=>H.weaken ⟨rfl,rfl,rfl,rfl,rfl,rfl,rfl,rfl,rfl,trivial⟩ ⟨rfl,rfl,rfl,rfl,rfl,rfl,rfl,trivial⟩) ?_;rintro ⟨⟨c,hI⟩,hc,hIo⟩;dsimp only;dsimp only at hc hIo;have q5:En.one (PV.val hI)=true:=hIo;refine Ze ?_;(refine xL 60 ZP ?_<;>refine Zc ?_)
 refine cX ?_ ?_<;>intro hb60
 · first |exact bN hb60|(
 obtain ⟨x,hx⟩:=Zt (show c<a.moves.length by omega);have e1:=Ym Z2 a.moves c x hx;have e2:=YK Z2 hx;have hxb:=ha.mv x (Xc hx);have hx1:=Lm (x:=x.src) (y:=b.n) (X:=2000) ⟨hxb.1,oM⟩ ⟨m0,m1⟩;have hx2:=Lm (x:=x.dst) (y:=b.n) (X:=2000) ⟨hxb.2.2.1,oM⟩ ⟨m0,m1⟩;refine Ze ?_;(refine xL 61 (ZI ZK) ?_<;>(refine yL 62 (Wn ZX) fun v62 h=>?_;cases h)<;>refine Zw [(.int .i64 0),(.int .i64 0),(.int .i64 0)] 3 11 Kh fun h11=>?_<;>refine ZE 11 ZX ?_<;>refine Zi ?_)
 (refine xL 63 Zb (xL 64 Zb ?_)<;>refine Zc ?_)
 refine Zq (ZH (l:=1000) (p':= .own 93 3 (smA a b c++Db b.n x 0).length ((smA a b c++Db b.n x 0).flatMap cMv)) rfl (by rw [show Db b.n x 0=[] from rfl,Xr])) fun _=>?_;refine ZD (ι:={q:Nat×Value//q.1≤b.n.toNat∧q.2.oneCell'=true}) (fun k=>⟨[(2,_,_),(3,_,_),(4,_,_),(7,_,_),(8,_,_),(9,_,_),(11,_,_),(57,_,_),(58,_,_),(59,_,_),(63,_,_),(64, .int .i64 k.1.1,pInt k.1.1)],[(2,_,_),(3,_,_),(4,_,_),(11,_,_),(302,_,_),(303,_,_),(9,h9, .own 39 5 1 [pInt (a.n*b.n),pInt a.syms, .val v302, .val v303, .val k.1.2]),(1000,k.1.2, .own 93 3 (smA a b c++Db b.n x k.1.1).length ((smA a b c++Db b.n x k.1.1).flatMap cMv))]⟩) (fun k=>b.n.toNat-k.1.1) ⟨(0,hI),Xd _,hIo⟩ (fun a w H=>H.weaken ⟨rfl,rfl,rfl,rfl,rfl,rfl,rfl,rfl,rfl,rfl,rfl,rfl,trivial⟩ ⟨rfl,rfl,rfl,rfl,rfl,rfl,rfl,rfl,trivial⟩) ?_;rintro ⟨⟨j,hJ⟩,hj,hJo⟩;dsimp only;dsimp only at hj hJo;have q6:En.one (PV.val hJ)=true:=hJo;have hpt:=ZkP x (Zf hx) hj;refine Ze ?_;(refine xL 65 ZP ?_<;>refine Zc ?_)
 refine cX ?_ ?_<;>intro hb65
 · first|exact bN hb65|(
 refine Ze ?_;(refine xL 66 Zb (xL 12 Za ?_)<;>refine Zi ?_)
 (refine xL 67 (Zd 9 Zx) ?_<;>(refine yL 68 (Zk 9 ZA) fun v68 h=>?_;cases h)<;>refine xL 69 (Zd 11 Yb) ?_<;>(refine yL 70 (Zk 11 Zg) fun v70 h=>?_;cases h)<;>refine xL 71 Zb (xL 72 Jr (xL 73 Zb (xL 74 ZG (xL 75 (Zd 11 Yg) ?_))))<;>(refine yL 76 (Zk 11 Zg) fun v76 h=>?_;cases h)<;>refine xL 77 Zb (xL 78 Jr (xL 79 Zb (xL 80 ZG (xL 81 (Zd 11 Yj) ?_))))<;>(refine yL 82 (Zk 11 Zg) fun v82 h=>?_;cases h)<;>refine xL 83 (ZL YW) ?_<;>refine YB 84 ZU fun h84 ho84=>?_<;>(refine ZW 1000 84 85 ZU fun h85 ho85=>?_;refine Zs (ZC (l:=85) 1000 rfl rfl) fun _=>?_;refine Zs (ZH (l:=1000) rfl ((WR _ (smA a b c++Db b.n x j) ⟨x.src*b.n+(j:Nat),x.dst*b.n+(j:Nat),x.sym⟩).trans (by rw [Xy,←Zh0]))) fun _=>?_;have q85:En.one (PV.val h85)=true:=ho85)<;>refine xL 86 (Zd 9 Zx) ?_<;>refine YL 9 ZA YA ?_<;>refine Zi ?_)
 (refine xL 87 ZG (xL 64 Zb ?_)<;>refine Zc ?_)
 refine Zm (
  ⟨(j+1,h85),by dsimp only;omega,ho85⟩
  ) (by dsimp only;omega) ⟨rfl,rfl,rfl,rfl,rfl,rfl,rfl,rfl,rfl,rfl,rfl,rfl,trivial⟩ ⟨rfl,rfl,rfl,rfl,rfl,rfl,rfl,rfl,trivial⟩)
 · first|exact bN hb65|(
 refine Zq (ZH (l:=1000) (p':= .own 93 3 (smA a b (c+1)).length ((smA a b (c+1)).flatMap cMv)) rfl (by rw [show smA a b c++Db b.n x j=smA a b (c+1) by rw [ZkN hx,show j=b.n.toNat by omega]])) fun _=>?_;refine Ze ?_;(refine xL 88 ZG (xL 59 Zb ?_)<;>refine Zc ?_)
 refine Zm (
  ⟨(c+1,hJ),Zf hx,hJo⟩
  ) (by dsimp only;omega) ⟨rfl,rfl,rfl,rfl,rfl,rfl,rfl,rfl,rfl,trivial⟩ ⟨rfl,rfl,rfl,rfl,rfl,rfl,rfl,trivial⟩))
 · first | exact bN hb60|(
 rw [ZmV (show a.moves.length≤c by omega)];refine Ze ?_;(refine xL 89 (Zd 3 Zx) ?_<;>(refine yL 90 (Zk 3 ZA) fun v90 h=>?_;cases h)<;>refine xL 91 (ZT ZK) (xL 92 Zb ?_)<;>refine Zc ?_)
 refine ZD (ι:={q:Nat×Value//q.1≤b.moves.length∧q.2.oneCell'=true}) (fun k=>⟨[(2,_,_),(3,_,_),(4,_,_),(7,_,_),(8,_,_),(9,_,_),(90,_,_),(91,_,_),(92, .int .i64 k.1.1,pInt k.1.1)],[(2,_,_),(3,_,_),(4,_,_),(302,_,_),(303,_,_),(9,h9, .own 39 5 1 [pInt (a.n*b.n),pInt a.syms, .val v302, .val v303, .val k.1.2]),(1000,k.1.2, .own 93 3 (smB a b k.1.1).length ((smB a b k.1.1).flatMap cMv))]⟩) (fun k=>b.moves.length-k.1.1) ⟨(0,hI),Xd _,hIo⟩ (fun a w H=>H.weaken ⟨rfl,rfl,rfl,rfl,rfl,rfl,rfl,rfl,rfl,trivial⟩ ⟨rfl,rfl,rfl,rfl,rfl,rfl,rfl,trivial⟩) ?_;rintro ⟨⟨u,hU⟩,hu,hUo⟩;dsimp only;dsimp only at hu hUo;have q7:En.one (PV.val hU)=true:=hUo;refine Ze ?_;(refine xL 93 ZP ?_<;>refine Zc ?_)
 refine cX ?_ ?_<;>intro hb93
 · first |exact bN hb93|(
 obtain ⟨y,hy⟩:=Zt (show u<b.moves.length by omega);have e3:=Ym Z2 b.moves u y hy;have e4:=YK Z2 hy;have hyb:=hb.mv y (Xc hy);refine Ze ?_;(refine xL 94 (ZI ZK) ?_<;>(refine yL 95 (Wn ZX) fun v95 h=>?_;cases h)<;>refine Zw [(.int .i64 0),(.int .i64 0),(.int .i64 0)] 3 14 Kh fun h14=>?_<;>refine ZE 14 ZX ?_<;>refine Zi ?_)
 (refine xL 96 Zb (xL 97 Zb ?_)<;>refine Zc ?_)
 refine Zq (ZH (l:=1000) (p':= .own 93 3 (smB a b u++Dc b.n y 0).length ((smB a b u++Dc b.n y 0).flatMap cMv)) rfl (by rw [show Dc b.n y 0=[] from rfl,Xr])) fun _=>?_;refine ZD (ι:={q:Nat×Value//q.1≤a.n.toNat∧q.2.oneCell'=true}) (fun k=>⟨[(2,_,_),(3,_,_),(4,_,_),(7,_,_),(8,_,_),(9,_,_),(14,_,_),(90,_,_),(91,_,_),(92,_,_),(96,_,_),(97, .int .i64 k.1.1,pInt k.1.1)],[(2,_,_),(3,_,_),(4,_,_),(14,_,_),(302,_,_),(303,_,_),(9,h9, .own 39 5 1 [pInt (a.n*b.n),pInt a.syms, .val v302, .val v303, .val k.1.2]),(1000,k.1.2, .own 93 3 (smB a b u++Dc b.n y k.1.1).length ((smB a b u++Dc b.n y k.1.1).flatMap cMv))]⟩) (fun k=>a.n.toNat-k.1.1) ⟨(0,hU),Xd _,hUo⟩ (fun a w H=>H.weaken ⟨rfl,rfl,rfl,rfl,rfl,rfl,rfl,rfl,rfl,rfl,rfl,rfl,trivial⟩ ⟨rfl,rfl,rfl,rfl,rfl,rfl,rfl,rfl,trivial⟩) ?_;rintro ⟨⟨i,hV⟩,hi,hVo⟩;dsimp only;dsimp only at hi hVo;have q8:En.one (PV.val hV)=true:=hVo;have hpt2:=ZkQ y (Zf hy) hi;have hx3:=Lm (x:=(i:Int)) (y:=b.n) (X:=2000) ⟨oM,oM⟩ ⟨m0,m1⟩;refine Ze ?_;(refine xL 98 ZP ?_<;>refine Zc ?_)
 refine cX ?_ ?_<;>intro hb98
 · first|exact bN hb98|(
 refine Ze ?_;(refine xL 99 Zb (xL 15 Za ?_)<;>refine Zi ?_)
 (refine xL 100 (Zd 9 Zx) ?_<;>(refine yL 101 (Zk 9 ZA) fun v101 h=>?_;cases h)<;>refine xL 102 Zb (xL 103 Zb (xL 104 Jr (xL 105 (Zd 14 Yb) ?_)))<;>(refine yL 106 (Zk 14 Zg) fun v106 h=>?_;cases h)<;>refine xL 107 ZG (xL 108 Zb (xL 109 Zb (xL 110 Jr (xL 111 (Zd 14 Yg) ?_))))<;>(refine yL 112 (Zk 14 Zg) fun v112 h=>?_;cases h)<;>refine xL 113 ZG (xL 114 (Zd 14 Yj) ?_)<;>(refine yL 115 (Zk 14 Zg) fun v115 h=>?_;cases h)<;>refine xL 116 (ZL YW) ?_<;>refine YB 117 ZU fun h117 ho117=>?_<;>(refine ZW 1000 117 118 ZU fun h118 ho118=>?_;refine Zs (ZC (l:=118) 1000 rfl rfl) fun _=>?_;refine Zs (ZH (l:=1000) rfl ((WR _ (smB a b u++Dc b.n y i) ⟨(i:Nat)*b.n+y.src,(i:Nat)*b.n+y.dst,y.sym⟩).trans (by rw [Xy,←Zh1]))) fun _=>?_;have q118:En.one (PV.val h118)=true:=ho118)<;>refine xL 119 (Zd 9 Zx) ?_<;>refine YL 9 ZA YA ?_<;>refine Zi ?_)
 (refine xL 120 ZG (xL 97 Zb ?_)<;>refine Zc ?_)
 refine Zm (
  ⟨(i+1,h118),by dsimp only;omega,ho118⟩
  ) (by dsimp only;omega) ⟨rfl,rfl,rfl,rfl,rfl,rfl,rfl,rfl,rfl,rfl,rfl,rfl,trivial⟩ ⟨rfl,rfl,rfl,rfl,rfl,rfl,rfl,rfl,trivial⟩)
 · first|exact bN hb98|(
 refine Zq (ZH (l:=1000) (p':= .own 93 3 (smB a b (u+1)).length ((smB a b (u+1)).flatMap cMv)) rfl (by rw [show smB a b u++Dc b.n y i=smB a b (u+1) by rw [ZkO hy,show i=a.n.toNat by omega]])) fun _=>?_;refine Ze ?_;(refine xL 121 ZG (xL 92 Zb ?_)<;>refine Zc ?_)
 refine Zm (
  ⟨(u+1,hV),Zf hy,hVo⟩
  ) (by dsimp only;omega) ⟨rfl,rfl,rfl,rfl,rfl,rfl,rfl,rfl,rfl,trivial⟩ ⟨rfl,rfl,rfl,rfl,rfl,rfl,rfl,trivial⟩))
 · first | exact bN hb93|(
 rw [ZmW (show b.moves.length≤u by omega)];refine Ze ?_;(refine xL 122 (Zd 2 Z1) ?_<;>(refine yL 123 (Zk 2 Zy) fun v123 h=>?_;cases h)<;>refine xL 124 (ZT Zp) (xL 125 Zb ?_)<;>refine Zc ?_)
 refine Zq (ZH (l:=302) (p':= .own 3 1 (shI b.n (a.start.take 0) b.start).length ((shI b.n (a.start.take 0) b.start).map pInt)) rfl rfl) fun _=>?_;refine ZD (ι:={q:Nat×Value//q.1≤a.start.length∧q.2.oneCell'=true}) (fun k=>⟨[(2,_,_),(3,_,_),(4,_,_),(7,_,_),(8,_,_),(9,_,_),(123,_,_),(124,_,_),(125, .int .i64 k.1.1,pInt k.1.1)],[(2,_,_),(3,_,_),(4,_,_),(303,_,_),(1000,_,_),(9,h9, .own 39 5 1 [pInt (a.n*b.n),pInt a.syms, .val k.1.2, .val v303, .val hU]),(302,k.1.2, .own 3 1 (shI b.n (a.start.take k.1.1) b.start).length ((shI b.n (a.start.take k.1.1) b.start).map pInt))]⟩) (fun k=>a.start.length-k.1.1) ⟨(0,v302),Xd _,ho302⟩ (fun a w H=>H.weaken ⟨rfl,rfl,rfl,rfl,rfl,rfl,rfl,rfl,rfl,trivial⟩ ⟨rfl,rfl,rfl,rfl,rfl,rfl,rfl,trivial⟩) ?_;rintro ⟨⟨s,hS⟩,hs',hSo⟩;dsimp only;dsimp only at hs' hSo;have q9:En.one (PV.val hS)=true:=hSo;(have hSl:(shI b.n (a.start.take s) b.start).length≤2000*2000:=by rw [Zgv,Xo];exact VI oM k2);refine Ze ?_;(refine xL 126 ZP ?_<;>refine Zc ?_)
 refine cX ?_ ?_<;>intro hb126
 · first|exact bN hb126|(
 obtain ⟨z,hz⟩:=Zt (show s<a.start.length by omega);have e5:=Z7 (f:=pInt) hz;have hzb:=ha.st z (Xc hz);have hz1:=Lm (x:=z) (y:=b.n) (X:=a.n) (Y:=b.n) ⟨hzb.1,oM⟩ ⟨m0,VV _⟩;have hal:=KV (z*b.n) b.start;refine Ze ?_;(refine xL 127 (ZI Zp) ?_<;>(refine yL 128 (Z9 Zg) fun v128 h=>?_;cases h)<;>refine xL 17 Za ?_<;>refine Zc ?_)
 (refine ZZ (fun i=>([10]:List Nat).elem i) [3,9] kR ?_<;>refine xD 0 129 rfl (Zd 9 Z1) ?_<;>(refine yD 1 130 rfl (Zk 9 Zy) fun v130 h=>?_;cases h)<;>refine xD 2 131 rfl (Zd 3 Z1) ?_<;>(refine yD 3 132 rfl (Zk 3 Zy) fun v132 h=>?_;cases h)<;>refine xD 4 133 rfl Zb ?_<;>refine xE 5 134 rfl Zb ?_<;>refine xE 6 135 rfl Jr ?_<;>(refine Zr 7 kR ?_)<;>(refine Zo rfl fun w9 M9 N9 DQ back=>?_)<;>(refine cO 136 (cA call136 (Ll b.start (z*b.n) oM oM (fun x hx=>by have:=hb.st x hx;omega))) fun v136 ho136=>?_;refine Zs (En.freeze (l:=136) (t:=136) rfl rfl) fun _=>?_;rw [ZS _ _ _ rfl])<;>refine Zl (back _ (nrm ?_))<;>(refine Zr 8 kR ?_)<;>(refine Zo rfl fun w9 M9 N9 DQ back=>?_)<;>(refine Kf 302 137 Zn (fun h137 ho137=>?_) (JE (YV (z*b.n) b.start)) (Gw (YV (z*b.n) b.start));have q137:En.one (PV.val h137)=true:=ho137;refine Zs (ZC (l:=137) 302 rfl rfl) fun _=>?_;refine Zs (ZH (l:=302) rfl ((Ts _ (shI b.n (a.start.take s) b.start) (YV (z*b.n) b.start)).trans (by rw [←ZdH hz]))) fun _=>?_)<;>refine Zl (back _ (nrm ?_))<;>refine xE 9 138 rfl (Zd 9 Z1) ?_<;>(refine Zr 10 kR ?_)<;>(refine Kr rfl rfl kR fun DQ back=>?_)<;>refine YL 9 Zy We ?_<;>refine Zl (back _ (nav ?_))<;>try dsimp only)
 (refine Zv ?_<;>refine xL 139 ZG (xL 125 Zb ?_)<;>refine Zc ?_)
 refine Zm (
  ⟨(s+1,h137),Zf hz,ho137⟩
  ) (by dsimp only;omega) ⟨rfl,rfl,rfl,rfl,rfl,rfl,rfl,rfl,rfl,trivial⟩ ⟨rfl,rfl,rfl,rfl,rfl,rfl,rfl,trivial⟩)
 · first |exact bN hb126|(
 rw [Xj (show a.start.length≤s by omega)];refine Ze ?_;(refine xL 140 (Zd 2 Z0) ?_<;>(refine yL 141 (Zk 2 Zy) fun v141 h=>?_;cases h)<;>refine xL 142 (ZT Zp) (xL 143 Zb ?_)<;>refine Zc ?_)
 refine Zq (ZH (l:=303) (p':= .own 3 1 (shI b.n (a.fin.take 0) b.fin).length ((shI b.n (a.fin.take 0) b.fin).map pInt)) rfl rfl) fun _=>?_;refine ZD (ι:={q:Nat×Value//q.1≤a.fin.length∧q.2.oneCell'=true}) (fun k=>⟨[(2,_,_),(3,_,_),(4,_,_),(7,_,_),(8,_,_),(9,_,_),(141,_,_),(142,_,_),(143, .int .i64 k.1.1,pInt k.1.1)],[(2,_,_),(3,_,_),(4,_,_),(302,_,_),(1000,_,_),(9,h9, .own 39 5 1 [pInt (a.n*b.n),pInt a.syms, .val hS, .val k.1.2, .val hU]),(303,k.1.2, .own 3 1 (shI b.n (a.fin.take k.1.1) b.fin).length ((shI b.n (a.fin.take k.1.1) b.fin).map pInt))]⟩) (fun k=>a.fin.length-k.1.1) ⟨(0,v303),Xd _,ho303⟩ (fun a w H=>H.weaken ⟨rfl,rfl,rfl,rfl,rfl,rfl,rfl,rfl,rfl,trivial⟩ ⟨rfl,rfl,rfl,rfl,rfl,rfl,rfl,trivial⟩) ?_;rintro ⟨⟨t,hT⟩,ht,hTo⟩;dsimp only;dsimp only at ht hTo;have q10:En.one (PV.val hT)=true:=hTo;(have hTl:(shI b.n (a.fin.take t) b.fin).length≤2000*2000:=by rw [Zgv,Xo];exact VI oM k4);refine Ze ?_;(refine xL 144 ZP ?_<;>refine Zc ?_)
 refine cX ?_ ?_<;>intro hb144
 · first|exact bN hb144|(
 obtain ⟨z2,hz2⟩:=Zt (show t<a.fin.length by omega);have e6:=Z7 (f:=pInt) hz2;have hzb2:=ha.fi z2 (Xc hz2);have hz3:=Lm (x:=z2) (y:=b.n) (X:=a.n) (Y:=b.n) ⟨hzb2.1,oM⟩ ⟨m0,VV _⟩;have hal2:=KV (z2*b.n) b.fin;refine Ze ?_;(refine xL 145 (ZI Zp) ?_<;>(refine yL 146 (Z9 Zg) fun v146 h=>?_;cases h)<;>refine xL 19 Za ?_<;>refine Zc ?_)
 (refine ZZ (fun i=>([10]:List Nat).elem i) [3,9] kR ?_<;>refine xD 0 147 rfl (Zd 9 Z0) ?_<;>(refine yD 1 148 rfl (Zk 9 Zy) fun v148 h=>?_;cases h)<;>refine xD 2 149 rfl (Zd 3 Z0) ?_<;>(refine yD 3 150 rfl (Zk 3 Zy) fun v150 h=>?_;cases h)<;>refine xD 4 151 rfl Zb ?_<;>refine xE 5 152 rfl Zb ?_<;>refine xE 6 153 rfl Jr ?_<;>(refine Zr 7 kR ?_)<;>(refine Zo rfl fun w9 M9 N9 DQ back=>?_)<;>(refine cO 154 (cA call136 (Ll b.fin (z2*b.n) oM oM (fun x hx=>by have:=hb.fi x hx;omega))) fun v154 ho154=>?_;refine Zs (En.freeze (l:=154) (t:=154) rfl rfl) fun _=>?_;rw [ZS _ _ _ rfl])<;>refine Zl (back _ (nrm ?_))<;>(refine Zr 8 kR ?_)<;>(refine Zo rfl fun w9 M9 N9 DQ back=>?_)<;>(refine Kf 303 155 Zn (fun h155 ho155=>?_) (JE (YV (z2*b.n) b.fin)) (Gw (YV (z2*b.n) b.fin));have q155:En.one (PV.val h155)=true:=ho155;refine Zs (ZC (l:=155) 303 rfl rfl) fun _=>?_;refine Zs (ZH (l:=303) rfl ((Ts _ (shI b.n (a.fin.take t) b.fin) (YV (z2*b.n) b.fin)).trans (by rw [←ZdH hz2]))) fun _=>?_)<;>refine Zl (back _ (nrm ?_))<;>refine xE 9 156 rfl (Zd 9 Z0) ?_<;>(refine Zr 10 kR ?_)<;>(refine Kr rfl rfl kR fun DQ back=>?_)<;>refine YL 9 Zy We ?_<;>refine Zl (back _ (nav ?_))<;>try dsimp only)
 (refine Zv ?_<;>refine xL 157 ZG (xL 143 Zb ?_)<;>refine Zc ?_)
 refine Zm (
  ⟨(t+1,h155),Zf hz2,ho155⟩
  ) (by dsimp only;omega) ⟨rfl,rfl,rfl,rfl,rfl,rfl,rfl,rfl,rfl,trivial⟩ ⟨rfl,rfl,rfl,rfl,rfl,rfl,rfl,trivial⟩)
 · first|exact bN hb144|(
 rw [Xj (show a.fin.length≤t by omega)];refine nav ?_;refine Zq (Z6 (l:=9) (l':=302) (j:=2) rfl rfl rfl rfl) fun _=>?_;refine Zq (Z6 (l:=9) (l':=303) (j:=3) rfl rfl rfl rfl) fun _=>?_;rw [ZS _ _ _ rfl,ZS _ _ _ rfl];(refine Zv ?_<;>(refine yL 158 (Zu (k:=5) (ps:=[pInt (a.n*b.n),pInt a.syms,pInts (shI b.n a.start b.start),pInts (shI b.n a.fin b.fin),PV.val hU]) 9 kR) fun v158 h=>?_;cases h)<;>(refine WQ [(1000,hU,PV.own 93 3 (Wj a b).moves.length ((Wj a b).moves.flatMap cMv)),(2,_,_),(3,_,_),(4,_,_),(9,_,_)] ⟨rfl,rfl,rfl,rfl,rfl,trivial⟩ ?_;refine JP [2,3,4,9] 159 (call137) (ZmU (Wj a b) oM _ hU hUo r5 hr) ?_;rintro _ _ _ ⟨⟨V1,rfl⟩,rfl,rfl⟩)<;>refine xL 160 Zj (xL 161 Zj ?_)<;>refine ZE 4 Zh ?_<;>refine xL 5 Za ?_<;>refine Zc ?_)
 exact Z5 (k:=5) 4 kR (results89) rfl rfl rfl (Xa rfl) dC r5.s (by rw [US oM];rfl)))))))
theorem Zfs (a b:Aut):AF prog 89 [ZN a,ZN b] (· =resW (Li a b)):=by
 unfold Li
 by_cases h0:WK a b=0
 · rw [US (fun h=>h h0)];obtain ⟨ha,hb,hs⟩:=Jk h0;by_cases hl:(Wj a b).moves.length≤40000
   · obtain ⟨p0,p1,p2,p3,p4,E,h5,h2,hr⟩:=TV (Wj a b) oM (Oi ha hb hs);refine (Cj a b h0 h5 fun _=>hr).mono fun p hp=>?_;rw [hp];split
     · rfl
     · exact h2.symm
   · refine (Cj a b h0 R5.raw (E:=13) fun h=>UU h hl).mono fun p hp=>?_;have h1:=ha.n0;have h2:=hb.n0;have q4:(((Wj a b).moves.length:Nat):Int)=(a.moves.length:Int)*b.n+(b.moves.length:Int)*a.n:=by
      rw [Ou,Int.natCast_add,VC,VC,X4 h1,X4 h2]
     rw [hp,UT (.inr oM),UT (.inr oM)];rfl
 · rw [UT h0];exact Zbz a b _ h0 (Pt a b)
theorem Ck:AggT prog 39 5=true:=by kernel_rfl
theorem Zac:ElT prog 27 9 1 16 (.string ByteArray.empty):=⟨underlying27,by kernel_rfl,rfl,dC⟩
theorem Rx:ElT prog 36 3 1 8 (.int .i64 0):=⟨underlying36,by kernel_rfl,rfl,dC⟩
theorem Zh2:ElT prog 37 93 3 24 (.agg #[(.int .i64 0),(.int .i64 0),(.int .i64 0)]):=⟨underlying37,by kernel_rfl,rfl,dC⟩
theorem DX:FldT prog 24 0 0=true:=by kernel_rfl
theorem ZdI:FldT prog 24 1 1=true:=by kernel_rfl
theorem Cl:NoAgg prog 3=true:=by kernel_rfl
theorem ZdJ:NoAgg prog 9=true:=by kernel_rfl
theorem Dd:SlT prog 27 9 1=true:=by kernel_rfl
theorem Zad:SlT prog 36 3 1=true:=by kernel_rfl
theorem Zae:WU prog 39=some ((.agg #[(.int .i64 0),(.int .i64 0),(.slice none 0 0),(.slice none 0 0),(.slice none 0 0)]),([0,1,2,3,4]:List Nat).map fun o=>(o,1)):=by kernel_rfl
theorem Zh3:WU prog 93=some ((.agg #[(.int .i64 0),(.int .i64 0),(.int .i64 0)]),([0,1,2]:List Nat).map fun o=>(o,1)):=by kernel_rfl
theorem Zaf:ZeroT prog 39 (.agg #[(.int .i64 0),(.int .i64 0),(.slice none 0 0),(.slice none 0 0),(.slice none 0 0)]):=by unfold ZeroT;kernel_rfl
theorem Hf (x:Option Aut):∃p0 p1 p2 p3 p4 E,R5 p0 p1 p2 p3 p4∧resW (lim x)= .tup [.agg [p0,p1,p2,p3,p4],pInt E]∧((x=none∧E=13)∨∃A,x=some A∧E=0∧p0=pInt A.n∧p1=pInt A.syms∧p2=pInts A.start∧p3=pInts A.fin∧p4=pMvs A.moves):=by
 cases x with
 |none=>exact ⟨_,_,_,_,_,_,R5.raw,rfl, .inl ⟨rfl,rfl⟩⟩
 |some A=>exact ⟨_,_,_,_,_,_,R5.aut A,rfl, .inr ⟨A,rfl,rfl,rfl,rfl,rfl,rfl,rfl⟩⟩
theorem ZdK (e:Nat) (L:List Aut) (x:Aut):PV.own e 5 (L.length+1) (L.flatMap LS++LS x)= .own e 5 (L++[x]).length ((L++[x]).flatMap LS):=sM
theorem Cm (e n:Nat) (l:List Aut) (hn:n=l.length):share (.own e 5 n (l.flatMap LS))= .sl l.length (l.flatMap LS):=by
 subst hn
 rw [share,Yk,Uv];rfl
theorem ZmX (n:Nat):Rr (.agg [pInt 1,pInt n,pInts [0],pInts [0], .val (.slice none 0 0)]) (ZN (RI n)):=Rr.agg rfl fun i p p' h1 h2=>by
 match i with
 |0=>cases h1;cases h2;exact Rr.rfl' _
 |1=>cases h1;cases h2;exact Rr.rfl' _
 |2=>cases h1;cases h2;exact Rr.rfl' _
 |3=>cases h1;cases h2;exact Rr.rfl' _
 |4=>cases h1;cases h2;exact Rr.nil
 |i+5=>simp at h1
theorem Zag (l:List ByteArray) (s:ByteArray):AF prog 67 [Yq l,Yl s] (· =pInt (YO l s)):=by
 refine AF.of_body 8 func67 rfl ntmps67 (Xa rfl) ?_
 intro w0 M0 vs hl hv
 obtain ⟨v0,v1,rfl⟩:=YI hl
 clear hl hv
 refine Ze ?_
 (refine xL 4 Za ?_<;>refine Zi ?_)
 (refine xL 5 Zb (xL 6 Zb ?_)<;>(refine cS 7 (cA call86 (Zb1 l s)) fun v7 h=>?_;cases h)<;>refine xL 4 Za ?_<;>refine Zc ?_)
 exact Zz results67 rfl rfl
theorem ZkR (acts:List ByteArray) {l:List Int} {k:Nat} {i:Int} (h:l[k]? =some i):nmI acts (l.take (k+1))=nmI acts (l.take k)++[(acts[i.toNat]?).getD ByteArray.empty]:=by
 unfold nmI
 rw [ZR h,Xu];rfl
theorem ZmY (acts:List ByteArray) (l:List Int):(nmI acts l).length=l.length:=Xe _
theorem Zah (l:List Int) (acts:List ByteArray) (hl:l.length≤1000000) (hin:∀i∈l,0≤i∧i<acts.length):AF prog 53 [pInts l,Yq acts] (· =Yq (nmI acts l)):=by
 refine AF.of_body 23 func53 rfl ntmps53 (Xa rfl) ?_
 intro w0 M0 vs hl hv
 obtain ⟨v0,v1,rfl⟩:=YI hl
 clear hl hv
 refine Ze ?_
 (refine xL 4 Za ?_<;>refine Zi ?_)
 (refine xL 5 Za ?_<;>refine Zi ?_)
 (refine xL 8 Zb (xL 9 (ZT Zad) (xL 10 Zb ?_))<;>refine Zc ?_)
 refine Zq (KB 200 9 1 rfl) fun _=>?_
 refine ZD (ι:={q:Nat×Value//q.1≤l.length∧q.2.oneCell'=true}) (fun k=>⟨[(0,_,_),(1,_,_),(8,_,_),(9,_,_),(5,k.1.2, .val k.1.2),(10, .int .i64 k.1.1,pInt k.1.1)],[(200,k.1.2, .own 9 1 (nmI acts (l.take k.1.1)).length ((nmI acts (l.take k.1.1)).map Yl))]⟩) (fun k=>l.length-k.1.1) ⟨(0, .slice none 0 0),Xd _,rfl⟩ (fun a w H=>H.weaken ⟨rfl,rfl,rfl,rfl,rfl,rfl,trivial⟩ ⟨rfl,trivial⟩) ?_
 rintro ⟨⟨i,hv⟩,hi,ho⟩
 dsimp only
 dsimp only at hi ho
 refine Ze ?_
 (refine xL 11 ZP ?_<;>refine Zc ?_)
 refine cX ?_ ?_<;>intro hb11
 · first|exact bN hb11|(
 obtain ⟨x,hx⟩:=Zt (show i<l.length by omega);have e1:=Z7 (f:=pInt) hx;have hin:=hin x (Xc hx);obtain ⟨j,rfl⟩:∃j:Nat,x=(j:Int):=⟨x.toNat,oM⟩;obtain ⟨s,hs⟩:=Zt (show j<acts.length by omega);have e2:=Z7 (f:=Yl) hs;(have hlen:(nmI acts (l.take i)).length≤1000000:=by rw [ZmY,Xo];omega);have hsn:nmI acts (l.take (i+1))=nmI acts (l.take i)++[s]:=by
  rw [ZkR acts hx];show _++[(acts[j]?).getD ByteArray.empty]=_;rw [hs];rfl
 refine Ze ?_;(refine xL 12 (ZI Zad) ?_<;>(refine yL 13 (Z9 Cl) fun v13 h=>?_;cases h)<;>refine xL 7 Za ?_<;>refine Zi ?_)
 (refine xL 14 Zb (xL 15 Zb (xL 16 Zb (xL 17 (ZI Dd) ?_)))<;>(refine yL 18 (Z9 ZdJ) fun v18 h=>?_;cases h)<;>refine ZO (kk:=1) 19 Zac fun h19 ho19=>?_<;>refine ZW 200 19 20 Zac fun h20 ho20=>?_<;>refine xL 5 Za ?_<;>refine Zi ?_)
 (refine xL 21 ZG (xL 10 Zb ?_)<;>refine Zc ?_)
 refine Kq (ZC (l:=20) 200 rfl rfl) fun _=>?_;rw [show (nmI acts (l.take i)).map Yl++[_]=(nmI acts (l.take (i+1))).map Yl from (by rw [hsn,Xu];rfl),show (nmI acts (l.take i)).length+1=(nmI acts (l.take (i+1))).length by rw [hsn];simp];refine Zm (
  ⟨(i+1,h20),Zf hx,ho20⟩
  ) (by dsimp only;omega) ⟨rfl,rfl,rfl,rfl,rfl,rfl,trivial⟩ ⟨rfl,trivial⟩)
 · first|exact bN hb11|(
 refine nav ?_;rw [Xj (show l.length≤i by omega)];refine Zq (En.freeze (l:=200) (t:=5) rfl rfl) fun _=>?_;rw [R1];(refine Zv ?_<;>refine xL 22 Zb (xL 4 Za ?_)<;>refine Zc ?_)
 exact Zz results53 rfl rfl)
theorem ZdL (acts:List ByteArray) (a:ByteArray) {p0 p1 p2 p3 p4:PV} {E:Int} (r5:R5 p0 p1 p2 p3 p4) (hm:AF prog 84 [ZN (GF acts.length (YO acts a))] (· = .tup [.agg [p0,p1,p2,p3,p4],pInt E])):AF prog 51 [.agg [pInt 1,Yl a,Y0 []],Yq acts] (· = .tup [.agg [p0,p1,p2,p3,p4],pInt E]):=by
 obtain ⟨o0,o1,o2,o3,o4⟩:=r5.o
 refine AF.of_body 130 func51 rfl ntmps51 (Xa rfl) ?_
 intro w0 M0 vs hl hv
 obtain ⟨v0,v1,rfl⟩:=YI hl
 clear hl hv
 refine Ze ?_
 (refine ZB 2 3 fun h2=>?_<;>refine Zw [(.int .i64 0),(.int .i64 0),(.slice none 0 0),(.slice none 0 0),(.slice none 0 0)] 5 4 Zaf fun h4=>?_<;>refine xL 5 Za ?_<;>refine Zi ?_)
 (refine xL 18 (Zd 2 DX) ?_<;>(refine yL 19 (Zk 2 Cl) fun v19 h=>?_;cases h)<;>refine Zi ?_)
 (refine xL 21 Ye (xL 20 Za ?_)<;>refine Zc ?_)
 refine cX ?_ ?_<;>intro hb20
 · refine Ze ?_;(refine xL 22 Zb (xL 23 (ZT Dd) ?_)<;>(refine ZO (kk:=1) 24 Rx fun h24 ho24=>?_;refine Zs (En.freeze (l:=24) (t:=24) rfl rfl) fun _=>?_;refine Zs (Wx (t:=24) (p':=pInts [0]) rfl rfl) fun _=>?_)<;>(refine ZO (kk:=1) 25 Rx fun h25 ho25=>?_;refine Zs (En.freeze (l:=25) (t:=25) rfl rfl) fun _=>?_;refine Zs (Wx (t:=25) (p':=pInts [1]) rfl rfl) fun _=>?_)<;>refine xL 26 Zb (xL 27 (Zd 2 ZdI) ?_)<;>(refine yL 28 (Zk 2 ZdJ) fun v28 h=>?_;cases h)<;>(refine cS 29 (cA call67 (Zag acts a)) fun v29 h=>?_;cases h)<;>refine xL 30 (ZL Zh3) ?_<;>(refine YB 31 Zh2 fun h31 ho31=>?_;refine Zs (En.freeze (l:=31) (t:=31) rfl rfl) fun _=>?_;refine Zs (Wx (t:=31) (p':=pMvs [⟨0,1,YO acts a⟩]) rfl rfl) fun _=>?_)<;>refine xL 32 (ZL Zae) ?_<;>(refine cP 33 (cA (call84) hm) (fun va33 vb33 hva33 hvb33=>?_) (hsh:=r5.t E);cases hvb33)<;>refine xL 34 Zj (xL 35 Zj ?_)<;>refine ZE 4 Ck ?_<;>refine xL 5 Za ?_<;>refine Zc ?_)
   exact Z5 (k:=5) 4 kR (results51) rfl rfl rfl (Xa rfl) dC r5.s rfl
 · exact UU rfl hb20
theorem ZdM (acts:List ByteArray) (a:ByteArray) {p0 p1 p2 p3 p4:PV} {E:Int} (r5:R5 p0 p1 p2 p3 p4) (hm:AF prog 84 [ZN (RI acts.length)] (· = .tup [.agg [p0,p1,p2,p3,p4],pInt E])):AF prog 51 [.agg [pInt 2,Yl a,Y0 []],Yq acts] (· = .tup [.agg [p0,p1,p2,p3,p4],pInt E]):=by
 obtain ⟨o0,o1,o2,o3,o4⟩:=r5.o
 refine AF.of_body 130 func51 rfl ntmps51 (Xa rfl) ?_
 intro w0 M0 vs hl hv
 obtain ⟨v0,v1,rfl⟩:=YI hl
 clear hl hv
 refine Ze ?_
 (refine ZB 2 3 fun h2=>?_<;>refine Zw [(.int .i64 0),(.int .i64 0),(.slice none 0 0),(.slice none 0 0),(.slice none 0 0)] 5 4 Zaf fun h4=>?_<;>refine xL 5 Za ?_<;>refine Zi ?_)
 (refine xL 18 (Zd 2 DX) ?_<;>(refine yL 19 (Zk 2 Cl) fun v19 h=>?_;cases h)<;>refine Zi ?_)
 (refine xL 21 Ye (xL 20 Za ?_)<;>refine Zc ?_)
 refine cX ?_ ?_<;>intro hb20
 · exact UU hb20 dC
 · refine Ze ?_;(refine xL 37 Ye (xL 36 Za ?_)<;>refine Zc ?_)
   refine cX ?_ ?_<;>intro hb36
   · refine Ze ?_;(refine xL 38 Zb (xL 39 (ZT Dd) ?_)<;>(refine ZO (kk:=1) 40 Rx fun h40 ho40=>?_;refine Zs (En.freeze (l:=40) (t:=40) rfl rfl) fun _=>?_;refine Zs (Wx (t:=40) (p':=pInts [0]) rfl rfl) fun _=>?_)<;>(refine ZO (kk:=1) 41 Rx fun h41 ho41=>?_;refine Zs (En.freeze (l:=41) (t:=41) rfl rfl) fun _=>?_;refine Zs (Wx (t:=41) (p':=pInts [0]) rfl rfl) fun _=>?_)<;>(refine xL 42 (ZL Zae) ?_;refine Zs (Zi0 (t:=42) (p':=ZN (RI acts.length)) rfl (ZmX acts.length)) fun _=>?_)<;>(refine cP 43 (cA (call84) hm) (fun va43 vb43 hva43 hvb43=>?_) (hsh:=r5.t E);cases hvb43)<;>refine xL 44 Zj (xL 45 Zj ?_)<;>refine ZE 4 Ck ?_<;>refine xL 5 Za ?_<;>refine Zc ?_)
     exact Z5 (k:=5) 4 kR (results51) rfl rfl rfl (Xa rfl) dC r5.s rfl
   · exact UU rfl hb36
theorem Pu:AggT prog 24 3=true:=by kernel_rfl
theorem JF:ElT prog 27 9 1 16 (.string ByteArray.empty):=⟨underlying27,by kernel_rfl,rfl,dC⟩
theorem ZdN:FldT prog 24 0 0=true:=by kernel_rfl
theorem ZdO:FldT prog 24 1 1=true:=by kernel_rfl
theorem DY:FldT prog 24 2 2=true:=by kernel_rfl
theorem Zai:NoAgg prog 22=true:=by kernel_rfl
theorem ZkS:NoAgg prog 3=true:=by kernel_rfl
theorem SY:NoAgg prog 9=true:=by kernel_rfl
theorem Zaj:SlT prog 22 24 3=true:=by kernel_rfl
theorem GV:SlT prog 27 9 1=true:=by kernel_rfl
theorem ZkT {a b:ByteArray} (h:(a.toList==b.toList)=true):a=b:=by
 rw [beq_iff_eq,ByteArray.toList_eq,ByteArray.toList_eq] at h
 exact WideShapes.bytes_inj h
theorem Zgw {a b:ByteArray} (h:(a.toList==b.toList)=false):a≠b:=fun e=>by
 subst e
 simp at h
theorem Zpj {x s:ByteArray} (h:(!(Op.bytesLess x.toList s.toList||x.toList==s.toList))=true):YD s x=true:=by
 simp only [UA,Ud] at h
 cases h2:YD s x
 · exact UU (Si h.1 h2) (Zgw h.2)
 · rfl
theorem ZnB {x s:ByteArray} (h:(!(Op.bytesLess x.toList s.toList||x.toList==s.toList))=false) (hne:x≠s):YD s x=false:=by
 cases h2:YD s x
 · rfl
 · exfalso;simp only [Bool.not_eq_false',X5] at h;rcases h with h|h
   · have h3:YD x s=true:=h;have:=Jt h2 h3;rw [JN] at this;cases this
   · exact hne (ZkT h)
theorem Ov (e:Nat) (L:List ByteArray) (x:ByteArray):PV.own e 1 (L.length+1) (L.map Yl++[Yl x])= .own e 1 (L++[x]).length ((L++[x]).map Yl):=sM
theorem Ow {α:Type} {p:α→Bool} {l:List α} {k:Nat} {x:α} (h:l[k]? =some x):(l.take (k+1)).any p=((l.take k).any p||p x):=by
 rw [ZR h,Vz,VT,Ub,Vh]
theorem ZkU {l:List ByteArray} (h:Po l) {k:Nat} {x:ByteArray} (hx:l[k]? =some x):∀y∈l.take k,YD y x=true:=fun y hy=>by
 obtain ⟨j,hj⟩:=XV hy
 have hjk:j<k:=by have:=Zf hj;rw [Xo] at this;omega
 rw [XZ hjk] at hj
 obtain ⟨h1,e1⟩:=XK.1 hj
 obtain ⟨h2,e2⟩:=XK.1 hx
 have:=Ui.1 h j k h1 h2 hjk
 rw [e1,e2] at this
 exact this
theorem ZdP (s:ByteArray) (m:List ByteArray):(Gc s m).length≤2*m.length+1:=by
 unfold Gc
 rw [Xb,Xb]
 have h1:=Vg (YD · s) m
 have h2:=Vg (YD s ·) m
 split<;>simp<;>omega
noncomputable def insR (s:ByteArray) (l:List ByteArray):List ByteArray:=open Classical in if s∈l then l else SU s l
theorem Zgx {s:ByteArray} {l:List ByteArray} (h:s∈l):insR s l=l:=by unfold insR;rw [UT h]
theorem ZbA {s:ByteArray} {l:List ByteArray} (h:s∉l):insR s l=SU s l:=by unfold insR;rw [US h]
theorem ZmZ {l:List ByteArray} {s:ByteArray}:insR s (canB l)=canB (l++[s]):=by
 by_cases h:s∈canB l
 · rw [Zgx h];exact Zmx h
 · rw [ZbA h];exact Zkx
set_option maxHeartbeats 2000000 in
theorem ZdQ (l : List ByteArray) (s:ByteArray) (hl:l.length≤100000) (ha:Po l):AF prog 97 [Yq l,Yl s] (· =Yq (insR s l)):=by
 refine AF.of_body 49 func97 rfl ntmps97 (Xa rfl) ?_
 intro w0 M0 vs hl hv
 obtain ⟨v0,v1,rfl⟩:=YI hl
 obtain rfl:=hv 1 _ _ rfl rfl
 clear hl hv
 refine Ze ?_
 (refine xL 4 Za ?_<;>refine Zi ?_)
 (refine xL 5 Za ?_<;>refine Zi ?_)
 (refine xL 6 Za ?_<;>refine Zi ?_)
 (refine xL 7 Za ?_<;>refine Zc ?_)
 refine Zq (KB 200 9 1 rfl) fun _=>?_
 refine ZD (ι:={q:Nat×Value×Bool//q.1≤l.length∧q.2.1.oneCell'=true∧s∉l.take q.1∧q.2.2=(l.take q.1).any (YD s ·)}) (fun k=>⟨[(0,_,_),(1,_,_),(5,k.1.2.1, .val k.1.2.1),(6, .bool k.1.2.2,ZM k.1.2.2),(7, .int .i64 k.1.1,pInt k.1.1)],[(200,k.1.2.1, .own 9 1 (Gc s (l.take k.1.1)).length ((Gc s (l.take k.1.1)).map Yl))]⟩) (fun k=>l.length-k.1.1) ⟨(0, .slice none 0 0,false),Xd _,rfl,fun h=>(by cases h),rfl⟩ (fun a w H=>H.weaken ⟨rfl,rfl,rfl,rfl,rfl,trivial⟩ ⟨rfl,trivial⟩) ?_
 rintro ⟨⟨i,hv,b⟩,hi,ho,hnm,hB⟩
 dsimp only
 dsimp only at hi ho hnm hB
 have hil:=ZdP s (l.take i)
 have htl:(l.take i).length≤l.length:=by rw [Xo];omega
 refine Ze ?_
 (refine xL 8 Zb (xL 9 Zb (xL 10 (ZT GV) (xL 11 ZP ?_)))<;>refine Zc ?_)
 refine cX ?_ ?_<;>intro hb11
 · first | exact bN hb11|(
 obtain ⟨x,hx⟩:=Zt (show i<l.length by omega);have e1:=Z7 (f:=Yl) hx;have hlow:=ZkU ha hx;refine Ze ?_;(refine xL 14 Zb (xL 15 Zb (xL 16 (ZI GV) ?_))<;>(refine yL 17 (Z9 SY) fun v17 h=>?_;cases h)<;>refine xL 18 Zb (xL 19 KP ?_)<;>refine Zc ?_)
 refine cX ?_ ?_<;>intro hb19
 · first|exact bN hb19|(
 refine Ze ?_;(refine xL 20 Zb (xL 4 Za ?_)<;>refine Zc ?_)
 refine Zz (results97) rfl ?_;rw [Zgx (by rw [←ZkT hb19];exact Xc hx)])
 · first | exact bN hb19|(
 have hne:x≠s:=Zgw hb19;have hnm2:s∉l.take (i+1):=by
  rw [ZR hx,Xp,Xi];rintro (h|h)
  · exact hnm h
  · exact hne h.symm
 have hil2:=ZdP s (l.take (i+1));(have htl2:(l.take (i+1)).length≤l.length:=by rw [Xo];omega);refine Ze ?_;(refine xL 21 Zb (xL 22 Ya (xL 23 Zb ?_))<;>(refine bL 23 (fun hb23=>?_) (fun hb23=>?_)<;>(first|refine kL 24 ?_|refine xL 24 Zb ?_))<;>(first|refine kL 25 ?_|refine xL 25 Zb ?_)<;>(first|refine kL 26 ?_|refine xL 26 (ZI GV) ?_)<;>(first|refine kL 27 ?_|(refine yL 27 (Z9 SY) fun v27 h=>?_;cases h))<;>(first|refine kL 28 ?_|refine xL 28 Zb ?_)<;>(first|refine kL 29 ?_|refine xL 29 ZiF ?_)<;>refine xL 30 ZF ?_<;>refine Zc ?_)<;>(
 refine cX ?_ ?_<;>intro hb30
 · first |exact bN hb30|(
 (have hbf:b=false:=by simpa using hb23);have hgt:YD s x=true:=Zpj hb30;(have hI:Gc s (l.take i)++[s]++[x]=Gc s (l.take (i+1)):=by rw [ZR hx,ZhR (by rw [←hB,hbf]) hgt]);(have hB2:true=(l.take (i+1)).any (YD s ·):=by rw [Ow hx,hgt,Bool.or_true]);refine Ze ?_;(refine xL 31 Zb (xL 32 Zb ?_)<;>refine ZO (kk:=1) 33 JF fun h33 ho33=>?_<;>(refine ZW 200 33 34 JF fun h34 ho34=>?_;refine Zs (ZC (l:=34) 200 rfl rfl) fun _=>?_;refine Zs (ZH (l:=200) rfl (Ov _ (Gc s (l.take i)) s)) fun _=>?_)<;>refine xL 5 Za ?_<;>refine Zi ?_)
 (refine xL 6 Za ?_<;>refine Zi ?_)
 (refine xL 35 Zb (xL 36 Zb (xL 37 Zb (xL 38 (ZI GV) ?_)))<;>(refine yL 39 (Z9 SY) fun v39 h=>?_;cases h)<;>refine ZO (kk:=1) 40 JF fun h40 ho40=>?_<;>(refine ZW 200 40 41 JF fun h41 ho41=>?_;refine Zs (ZC (l:=41) 200 rfl rfl) fun _=>?_;refine Zs (ZH (l:=200) rfl (Ov _ (Gc s (l.take i)++[s]) x)) fun _=>?_)<;>refine xL 5 Za ?_<;>refine Zi ?_)
 (refine xL 12 Zb (xL 13 ZG (xL 7 Za ?_))<;>refine Zc ?_)
 rw [hI]
 first
  | (exact Zm (
      ⟨(i+1,h41,true),Zf hx,ho41,hnm2,hB2⟩
      ) (by dsimp only;omega) ⟨rfl,rfl,rfl,rfl,rfl,trivial⟩ ⟨rfl,trivial⟩)
  | (exact Zm (
      ⟨(i+1,h41,b),Zf hx,ho41,hnm2,hB2⟩
      ) (by dsimp only;omega) ⟨rfl,rfl,rfl,rfl,rfl,trivial⟩ ⟨rfl,trivial⟩))
 · first |exact bN hb30|(
 have hI:Gc s (l.take i)++[x]=Gc s (l.take (i+1)):=by
  rw [ZR hx]
  cases hbc:b with
  |true=>exact (ZhT (by rw [←hB,hbc]) hlow).1.symm
  |false=>first|exact (ZhS (by rw [←hB,hbc]) (ZnB hb30 hne) hne).symm|(exfalso;rw [hbc] at hb23;simp at hb23)
 have hB2:b=(l.take (i+1)).any (YD s ·):=by
  rw [Ow hx]
  cases hbc:b with
  |true=>rw [←hB,hbc];rfl
  |false=>first|(rw [←hB,hbc,ZnB hb30 hne];rfl)|(exfalso;rw [hbc] at hb23;simp at hb23)
 refine Ze ?_;(refine xL 35 Zb (xL 36 Zb (xL 37 Zb (xL 38 (ZI GV) ?_)))<;>(refine yL 39 (Z9 SY) fun v39 h=>?_;cases h)<;>refine ZO (kk:=1) 40 JF fun h40 ho40=>?_<;>(refine ZW 200 40 41 JF fun h41 ho41=>?_;refine Zs (ZC (l:=41) 200 rfl rfl) fun _=>?_;refine Zs (ZH (l:=200) rfl (Ov _ (Gc s (l.take i)) x)) fun _=>?_)<;>refine xL 5 Za ?_<;>refine Zi ?_)
 (refine xL 12 Zb (xL 13 ZG (xL 7 Za ?_))<;>refine Zc ?_)
 rw [hI]
 first
  | (exact Zm (
      ⟨(i+1,h41,true),Zf hx,ho41,hnm2,hB2⟩
      ) (by dsimp only;omega) ⟨rfl,rfl,rfl,rfl,rfl,trivial⟩ ⟨rfl,trivial⟩)
  | (exact Zm (
      ⟨(i+1,h41,b),Zf hx,ho41,hnm2,hB2⟩
      ) (by dsimp only;omega) ⟨rfl,rfl,rfl,rfl,rfl,trivial⟩ ⟨rfl,trivial⟩)))))
 · first|exact bN hb11|(
 have hall:l.take i=l:=Xj oM;rw [hall] at hnm hB;refine Ze ?_;(refine xL 42 Zb (xL 43 Ya ?_)<;>refine Zc ?_)
 refine cX ?_ ?_<;>intro hb43
 · first|exact bN hb43|(
 (have hI:Gc s (l.take i)++[s]=SU s l:=by rw [hall];exact ZhU (by rw [←hB];simpa using hb43));refine Ze ?_;(refine xL 44 Zb (xL 45 Zb ?_)<;>refine ZO (kk:=1) 46 JF fun h46 ho46=>?_<;>(refine ZW 200 46 47 JF fun h47 ho47=>?_;refine Zs (ZC (l:=47) 200 rfl rfl) fun _=>?_;refine Zs (ZH (l:=200) rfl (Ov _ (Gc s (l.take i)) s)) fun _=>?_)<;>refine xL 5 Za ?_<;>refine Zc ?_)
 refine Zq (ZH (l:=200) (p':= .own 9 1 (SU s l).length ((SU s l).map Yl)) rfl (by rw [hI])) fun _=>?_;refine Zq (En.freeze (l:=200) (t:=5) rfl rfl) fun _=>?_;rw [R1];(refine Zv ?_<;>refine xL 48 Zb (xL 4 Za ?_)<;>refine Zc ?_)
 refine Zz (results97) rfl ?_;rw [ZbA hnm];rfl)
 · first|exact bN hb43|(
 (have hI:Gc s (l.take i)=SU s l:=by rw [hall];exact Zku (by rw [←hB];simpa using hb43));refine nav ?_;refine Zq (ZH (l:=200) (p':= .own 9 1 (SU s l).length ((SU s l).map Yl)) rfl (by rw [hI])) fun _=>?_;refine Zq (En.freeze (l:=200) (t:=5) rfl rfl) fun _=>?_;rw [R1];(refine Zv ?_<;>refine xL 48 Zb (xL 4 Za ?_)<;>refine Zc ?_)
 refine Zz (results97) rfl ?_;rw [ZbA hnm];rfl))
theorem ZkV (l:List ByteArray):(canB l).length≤l.length:=by
 have h:=PZ l []
 unfold canB
 rw [G4]
 simpa using h
theorem ZkW {o:Int} {a:ByteArray} {l:List Nd} (hr:rightT (.mk o a l)=true) (h:o=1):YY (.mk o a l)=[a]:=by
 subst h
 unfold rightT at hr
 simp [Nd.op,Nd.l] at hr
 rw [YY,UT rfl,hr.1];rfl
theorem ZdR:∀{l:List Nd},(∀x∈l,okT x=true)→(JH l).length≤szL l
 |[],_=>Xg _
 | x::l,h=>by
   rw [JH,szL,Xb];have h1:=Zbt x (h x (Xm ..));have h2:=ZdR fun y hy=>h y (Xn _ hy);omega
theorem ZkX (l:List Nd) (k:Nat):szL (l.take k)≤szL l:=by
 have h:=RU (l.take k) (l.drop k)
 rw [VF] at h
 omega
set_option maxHeartbeats 2000000 in
theorem Zh4:∀(t:Nd),okT t=true→szT t≤1000→∀ks:List ByteArray,ks.length+szT t≤10000→AF prog 96 [Yq (canB ks),pTr t] (· =Yq (canB (ks++YY t))):=Nd.ind fun o a l ih hok hsz ks hk=>by
 have e0:pTr (.mk o a l)= .agg [pInt o,Yl a,Y0 l]:=rfl
 rw [e0]
 obtain ⟨hr,hp⟩:=Jh.1 hok
 have hcl:=ZkV ks
 rw [szT] at hsz hk
 have hlz:=Rb l
 refine AF.of_body 28 func96 rfl ntmps96 (Xa rfl) ?_
 intro w0 M0 vs hl hv
 obtain ⟨v0,v1,rfl⟩:=YI hl
 clear hl hv
 refine Ze ?_
 (refine ZB 3 3 fun h3=>?_<;>refine xL 4 Za ?_<;>refine Zi ?_)
 (refine xL 6 (Zd 3 ZdN) ?_<;>(refine yL 7 (Zk 3 ZkS) fun v7 h=>?_;cases h)<;>refine xL 8 Ye ?_<;>refine Zc ?_)
 refine cX ?_ ?_<;>intro hb8
 · first|exact bN hb8|(
 refine Ze ?_;(refine xL 9 Zb (xL 10 (Zd 3 ZdO) ?_)<;>(refine yL 11 (Zk 3 SY) fun v11 h=>?_;cases h)<;>(refine cS 12 (cA call97 (ZdQ (canB ks) a oM (Cd ks))) fun v12 h=>?_;cases h)<;>refine xL 4 Za ?_<;>refine Zc ?_)
 refine Zz (results96) rfl ?_;rw [ZmZ,ZkW hr hb8])
 · first |exact bN hb8|(
 (have hact:YY (.mk o a l)=JH l:=by rw [YY,US hb8]);rw [hact];refine Ze ?_;(refine xL 5 Za ?_<;>refine Zc ?_)
 refine Zq (Wx (t:=0) (p':=Yq (canB (ks++JH (l.take 0)))) rfl (by rw [VN,JH,Xr])) fun _=>?_;refine ZD (ι:={q:Nat×Value//q.1≤l.length}) (fun k=>⟨[(3,_,_),(0,k.1.2,Yq (canB (ks++JH (l.take k.1.1)))),(5, .int .i64 k.1.1,pInt k.1.1)],[(3,_,_)]⟩) (fun k=>l.length-k.1.1) ⟨(0,v0),Xd _⟩ (fun a w H=>H.weaken ⟨rfl,rfl,rfl,trivial⟩ ⟨rfl,trivial⟩) ?_;rintro ⟨⟨i,V⟩,hi⟩;dsimp only;dsimp only at hi;refine Ze ?_;(refine xL 13 Zb (xL 14 (Zd 3 DY) ?_)<;>(refine yL 15 (Zk 3 Zai) fun v15 h=>?_;cases h)<;>refine xL 16 (ZT Zaj) (xL 17 ZP ?_)<;>refine Zc ?_)
 refine cX ?_ ?_<;>intro hb17
 · first|exact bN hb17|(
 obtain ⟨x,hx⟩:=Zt (show i<l.length by omega);have e1:((Lo l).drop (i*3)).take 3=[pInt x.op,Yl x.act,Y0 x.l]:=KF hx;have e2:=JO hx;have hxm:=Xc hx;have hz1:=PR hx;have hz2:=ZkX l (i+1);have hal:=ZdR (l:=l.take i) fun y hy=>hp y (VJ hy);refine Ze ?_;(refine xL 20 Zb (xL 21 (Zd 3 DY) ?_)<;>(refine yL 22 (Zk 3 Zai) fun v22 h=>?_;cases h)<;>refine xL 23 Zb (xL 24 (ZI Zaj) ?_)<;>(refine yL 25 (Wn Pu) fun v25 h=>?_;cases h)<;>(refine cS 26 (cA call96 (ih x hxm (hp x hxm) oM (ks++JH (l.take i)) (by rw [Xb];omega))) fun v26 h=>?_;cases h)<;>refine xL 0 Za ?_<;>refine Zi ?_)
 (refine xL 18 Zb (xL 19 ZG (xL 5 Za ?_))<;>refine Zc ?_)
 rw [Xy,←L4 hx];refine Zm (
  ⟨(i+1,v26),Zf hx⟩
  ) (by dsimp only;omega) ⟨rfl,rfl,rfl,trivial⟩ ⟨rfl,trivial⟩)
 · first|exact bN hb17|(
 rw [Xj (show l.length≤i by omega)];refine Ze ?_;(refine xL 27 Zb (xL 4 Za ?_)<;>refine Zc ?_)
 exact Zz results96 rfl rfl))
theorem AF.nil0 {P:Program} {f:Nat} {ps:List PV} {R:PV→Prop} (h:AF P f (.sl 0 []::ps) R):AF P f (.val (.slice none 0 0)::ps) R:=fun M w vs hM hl hv=>h M w vs hM hl fun i v p hi hp=>by
 match i with
 | 0=>
   cases hp;have:=(hv 0 v _ hi rfl).vOf
   cases this;exact .emp none 0 (by unfold maxLen;omega) (fun _=>rfl)
 |i+1=>exact hv (i+1) v p hi hp
theorem Zak (t:Nd) (hf:FitT t):AF prog 54 [pTr t] (· = .tup [Yq (actR t).1,pInt (actR t).2]):=by
 have hV:=C7 t hf
 refine AF.of_body 14 func54 rfl ntmps54 (Xa rfl) ?_
 intro w0 M0 vs hl hv
 obtain ⟨v0,rfl⟩:=Wl hl
 clear hl hv
 have e0:pTr t= .agg [pInt t.op,Yl t.act,Y0 t.l]:=rfl
 rw [e0]
 refine Ze ?_
 (refine ZB 1 3 fun h1=>?_<;>refine xL 2 Za (xL 3 Za ?_)<;>refine Zi ?_)
 ((refine yL 5 (Zu 1 Pu) fun v5 h=>?_;cases h)<;>(refine cS 6 (cA call20 (hV)) fun v6 h=>?_;cases h)<;>refine xL 7 Ya ?_<;>refine Zc ?_)
 refine cX ?_ ?_<;>intro hb7
 · first|exact bN hb7|(
 refine Ze ?_;(refine xL 2 Za (xL 3 Za ?_)<;>refine Zc ?_)
 refine Y3 (Ks (t:=2) rfl) fun _=>?_;refine Wb (results54) rfl rfl ?_;rw [show actR t=([],1) by unfold actR;rw [US (by simpa using hb7)]];rfl)
 · first|exact bN hb7|(
 (have hv:Ke t=true:=by simpa using hb7);have hok:=Sj hv;have hsz:=RV hv;have hA0:=Zh4 t hok oM [] (by rw [XC];omega);rw [X3,Zkq] at hA0;have hA:=AF.nil0 hA0;(have hR:actR t=if (canB (YY t)).length≤40 then (canB (YY t),0) else ([],5):=by unfold actR canB;rw [UT hv,G4]);refine Ze ?_;((refine yL 8 (Zu 1 Pu) fun v8 h=>?_;cases h)<;>(refine cS 9 (cA call96 (hA)) fun v9 h=>?_;cases h)<;>refine xL 4 Za ?_<;>refine Zi ?_)
 (refine xL 10 Zb (xL 11 (ZT GV) (xL 12 Yr ?_))<;>refine Zc ?_)
 refine cX ?_ ?_<;>intro hb12
 · first|exact bN hb12|(
 refine Ze ?_;(refine xL 2 Za (xL 3 Za ?_)<;>refine Zc ?_)
 refine Y3 (Ks (t:=2) rfl) fun _=>?_;refine Wb (results54) rfl rfl ?_;rw [hR,US oM];rfl)
 · first|exact bN hb12|(
 refine Ze ?_;(refine xL 13 Zb (xL 2 Za (xL 3 Za ?_))<;>refine Zc ?_)
 refine Wb (results54) rfl rfl ?_;rw [hR,UT oM]))
theorem Gd:AggT prog 24 3=true:=by kernel_rfl
theorem Yd:AggT prog 39 5=true:=by kernel_rfl
theorem T0:ElT prog 122 39 5 88 (.agg #[(.int .i64 0),(.int .i64 0),(.slice none 0 0),(.slice none 0 0),(.slice none 0 0)]):=⟨underlying122,by kernel_rfl,rfl,dC⟩
theorem Gx:FldT prog 24 0 0=true:=by kernel_rfl
theorem DZ:FldT prog 24 2 2=true:=by kernel_rfl
theorem Zal:NoAgg prog 22=true:=by kernel_rfl
theorem SZ:NoAgg prog 3=true:=by kernel_rfl
theorem Jo:SlT prog 122 39 5=true:=by kernel_rfl
theorem Ry:SlT prog 22 24 3=true:=by kernel_rfl
theorem Tt:WU prog 39=some ((.agg #[(.int .i64 0),(.int .i64 0),(.slice none 0 0),(.slice none 0 0),(.slice none 0 0)]),([0,1,2,3,4]:List Nat).map fun o=>(o,1)):=by kernel_rfl
theorem Zam:ZeroT prog 24 (.agg #[(.int .i64 0),(.string ByteArray.empty),(.slice none 0 0)]):=by unfold ZeroT;kernel_rfl
theorem JG:ZeroT prog 39 (.agg #[(.int .i64 0),(.int .i64 0),(.slice none 0 0),(.slice none 0 0),(.slice none 0 0)]):=by unfold ZeroT;kernel_rfl
structure PtsOk (acts:List ByteArray) (l:List Nd) (i:Nat) (Ps:List Aut):Prop where
 le:i≤l.length
 eq:(l.take i).map (bldT acts)=Ps.map some
 ok:∀A∈Ps,IsMin A∧A.syms=acts.length
theorem PtsOk.len {acts:List ByteArray} {l:List Nd} {i:Nat} {Ps:List Aut} (h:PtsOk acts l i Ps):Ps.length=i:=by
 have:=congrArg List.length h.eq
 rw [Xe,Xe,Xo] at this
 have:=h.le;omega
theorem PtsOk.next {acts:List ByteArray} {l:List Nd} {i:Nat} {Ps:List Aut} {x:Nd} {A:Aut} (h:PtsOk acts l i Ps) (hx:l[i]? =some x) (hA:bldT acts x=some A) (hb:BldOk acts.length (bldT acts x)):PtsOk acts l (i+1) (Ps++[A]):=
 ⟨Zf hx,by rw [ZR hx,Xu,Xu,h.eq,UI,UI,hA],fun B hB=>by
  rcases Xp.1 hB with h1|h1
  · exact h.ok B h1
  · rw [Xi.1 h1];exact hb A hA⟩
theorem PtsOk.all {acts:List ByteArray} {l:List Nd} {i:Nat} {Ps:List Aut} (h:PtsOk acts l i Ps) (hi:l.length≤i):l.map (bldT acts)=Ps.map some∧Ps.length=l.length:=by
 have h1:=h.eq
 rw [Xj hi] at h1
 exact ⟨h1,by have:=congrArg List.length h1;simpa using this.symm⟩
theorem Zgy {acts:List ByteArray} {a b:Aut} (o:Int) (ha:IsMin a∧a.syms=acts.length) (hb:IsMin b∧b.syms=acts.length):Wk o a b=lim (okO (Wk o a b)):=(Rv o ha.1 hb.1 ha.2 hb.2).lim
theorem ZkY {acts:List ByteArray} {a b C:Aut} (o:Int) (ha:IsMin a∧a.syms=acts.length) (hb:IsMin b∧b.syms=acts.length) (h:okO (Wk o a b)=some C):IsMin C∧C.syms=acts.length:=((Rv o ha.1 hb.1 ha.2 hb.2).ok h).2
theorem Zan {o:Int} {m n:List (Option Aut)} (h:m≠[]) (hn:foldX o m=none):foldX o (m++n)=none:=by
 cases m with
 |nil=>exact UU rfl h
 | cons y m=>
   rw [Ve];show (m++n).foldl (Gu o) y=none;rw [Vv,show m.foldl (Gu o) y=none from hn,O4]
structure FldOk (acts:List ByteArray) (o:Int) (A0:Aut) (Qs:List Aut) (j:Nat) (R:Aut):Prop where
 le:j≤Qs.length
 eq:foldX o ((A0::Qs.take j).map some)=some R
 ok:IsMin R∧R.syms=acts.length
theorem FldOk.step {acts:List ByteArray} {o:Int} {A0 R B:Aut} {Qs:List Aut} {j:Nat} (h:FldOk acts o A0 Qs j R) (hB:Qs[j]? =some B):foldX o ((A0::Qs.take (j+1)).map some)=okO (Wk o R B):=by
 rw [ZR hB,←Ve,Xu,UI,E5 sM,h.eq];rfl
theorem FldOk.next {acts:List ByteArray} {o:Int} {A0 R B C:Aut} {Qs:List Aut} {j:Nat} (h:FldOk acts o A0 Qs j R) (hB:Qs[j]? =some B) (hb:IsMin B∧B.syms=acts.length) (hC:okO (Wk o R B)=some C):FldOk acts o A0 Qs (j+1) C:=
 ⟨Zf hB,by rw [h.step hB,hC],ZkY o h.ok hb hC⟩
theorem FldOk.none {acts:List ByteArray} {o:Int} {A0 R B:Aut} {Qs:List Aut} {j:Nat} (h:FldOk acts o A0 Qs j R) (hB:Qs[j]? =some B) (hC:okO (Wk o R B)=Option.none):foldX o ((A0::Qs).map some)=Option.none:=by
 have h1:=h.step hB
 rw [hC] at h1
 have:=Zan (n:=(Qs.drop (j+1)).map some) sM h1
 rw [←Xu,Ve,VF] at this
 exact this
theorem FldOk.all {acts:List ByteArray} {o:Int} {A0 R:Aut} {Qs:List Aut} {j:Nat} (h:FldOk acts o A0 Qs j R) (hj:Qs.length≤j):foldX o ((A0::Qs).map some)=some R:=by
 have:=h.eq
 rwa [Xj hj] at this
theorem Zh5 (A:Aut) (Qs:List Aut):PV.sl ((A::Qs).length-1) ((((A::Qs).flatMap LS).drop (1*5)).take (((A::Qs).length-1)*5))= .sl Qs.length (Qs.flatMap LS):=by
 have h:((A::Qs).flatMap LS).drop (1*5)=Qs.flatMap LS:=rfl
 rw [h,Xl,Nat.add_sub_cancel,Xj (by rw [flat_len SV];exact Xg _)]
theorem Zm0 {P:Program} {c:Ctx} {Q:Exit→Act→World→Prop} {sL hP:List (Nat×Ent)} {ι:Type} {x z y:Code} {id:Nat} (S:ι→St) (h:aC P c x (Exit.then (z.wp P (Exit.inBlock id (Exit.then (fun a w=>∃i,Holds c (S i) a w) Q))) (Exit.inBlock id (Exit.then (fun a w=>∃i,Holds c (S i) a w) Q))) (⟨sL,hP⟩:St)) (k:∀i,aC P c y Q (S i)):aC P c x (Exit.then (z.wp P (Exit.inBlock id (Exit.then (y.wp P Q) Q))) (Exit.inBlock id (Exit.then (y.wp P Q) Q))) (⟨sL,hP⟩:St):=fun a w H=>by
 have hm:∀e a w,Exit.inBlock id (Exit.then (fun a w=>∃i,Holds c (S i) a w) Q) e a w→Exit.inBlock id (Exit.then (y.wp P Q) Q) e a w:=fun e a w hq=>by
  cases e with
  |normal=>obtain ⟨i,hi⟩:=hq;exact k i a w hi
  | exit id'=>
    simp only [Exit.inBlock] at hq ⊢;split
    · rename_i he;rw [UT he] at hq;obtain ⟨i,hi⟩:=hq;exact k i a w hi
    · rename_i he;rw [US he] at hq;exact hq
  |_=>exact hq
 refine wp_mono (h a w H) fun e a' w' hq=>?_
 cases e with
 |normal=>exact wp_mono hq hm
 |exit id'=>exact hm (.exit id') a' w' hq
 |_=>exact hq
set_option maxHeartbeats 4000000 in
theorem ZdS (o : Int) (ho:o=3∨o=4∨o=5) (acts:List ByteArray) (a:ByteArray) (x0:Nd) (l0 l:List Nd) (hl0:l=x0::l0) (hl:l.length≤1000000) (ih:∀x∈l,AF prog 51 [pTr x,Yq acts] (· =resW (lim (bldT acts x)))) (hb:∀x∈l,BldOk acts.length (bldT acts x)):AF prog 51 [.agg [pInt o,Yl a,Y0 l],Yq acts] (· =resW (lim (foldX o (l.map (bldT acts))))):=by
 have hlen0:l.length=l0.length+1:=by rw [hl0];rfl
 have hc3:o=3→∀R B,AF prog 87 [ZN R,ZN B] (· =resW (Wk o R B)):=fun h R B=>by subst h;exact Da R B
 have hu:o=4→∀R B,AF prog 88 [ZN R,ZN B] (· =resW (Wk o R B)):=fun h R B=>by subst h;exact ZkK R B
 have hs:o=5→∀R B,AF prog 89 [ZN R,ZN B] (· =resW (Wk o R B)):=fun h R B=>by subst h;exact Zfs R B
 refine AF.of_body 130 func51 rfl ntmps51 (Xa rfl) ?_
 intro w0 M0 vs hl hv
 obtain ⟨v0,v1,rfl⟩:=YI hl
 clear hl hv
 refine Ze ?_
 (refine ZB 2 3 fun h2=>?_<;>refine Zw [(.int .i64 0),(.int .i64 0),(.slice none 0 0),(.slice none 0 0),(.slice none 0 0)] 5 4 JG fun h4=>?_<;>refine xL 5 Za ?_<;>refine Zi ?_)
 (refine xL 18 (Zd 2 Gx) ?_<;>(refine yL 19 (Zk 2 SZ) fun v19 h=>?_;cases h)<;>refine Zi ?_)
 (refine xL 21 Ye (xL 20 Za ?_)<;>refine Zc ?_)
 refine cX ?_ ?_<;>intro hb20
 · exact UU (show o=1 by simpa using hb20) oM
 · refine Ze ?_;(refine xL 37 Ye (xL 36 Za ?_)<;>refine Zc ?_)
   refine cX ?_ ?_<;>intro hb36
   · exact UU (show o=2 by simpa using hb36) oM
   · refine Ze ?_;(refine xL 6 Za ?_<;>refine Zi ?_)
     (refine xL 46 (Zd 2 DZ) ?_<;>(refine yL 47 (Zk 2 Zal) fun v47 h=>?_;cases h)<;>refine xL 48 (ZT Ry) (xL 49 Zb ?_)<;>refine Zc ?_)
     refine Zq (KB 200 39 5 rfl) fun _=>?_;refine ZD (ι:={q:Nat×Value×List Aut//PtsOk acts l q.1 q.2.2∧q.2.1.oneCell'=true}) (fun k=>⟨[(1,_,_),(2,_,_),(4,_,_),(5,_,_),(47,_,_),(48,_,_),(6,k.1.2.1, .val k.1.2.1),(49, .int .i64 k.1.1,pInt k.1.1)],[(2,_,_),(4,_,_),(200,k.1.2.1, .own 39 5 k.1.2.2.length (k.1.2.2.flatMap LS))]⟩) (fun k=>l.length-k.1.1) ⟨(0, .slice none 0 0,[]),⟨Xd _,rfl,fun _ h=>(by cases h)⟩,rfl⟩ (fun a w H=>H.weaken ⟨rfl,rfl,rfl,rfl,rfl,rfl,rfl,rfl,trivial⟩ ⟨rfl,rfl,rfl,trivial⟩) ?_;rintro ⟨⟨i,hv,Ps⟩,hP,ho⟩;dsimp only;dsimp only at hP ho;have hPl:=hP.len;have hPi:=hP.le;have hPc:(Ps.flatMap LS).length=Ps.length*5:=flat_len SV Ps;refine Ze ?_;(refine xL 50 ZP ?_<;>refine Zc ?_)
     refine cX ?_ ?_<;>intro hb50
     · first |exact bN hb50|(
 obtain ⟨x,hx⟩:=Zt (show i<l.length by omega);have e1:((Lo l).drop (i*3)).take 3=[pInt x.op,Yl x.act,Y0 x.l]:=KF hx;have e2:=JO hx;obtain ⟨p0,p1,p2,p3,p4,E,r5,hres,hc⟩:=Hf (bldT acts x);have hxa:=ih x (Xc hx);rw [hres] at hxa;obtain ⟨o0,o1,o2,o3,o4⟩:=r5.o;refine Ze ?_;(refine xL 51 (ZI Ry) ?_<;>(refine yL 52 (Wn Gd) fun v52 h=>?_;cases h)<;>refine Zw [(.int .i64 0),(.string ByteArray.empty),(.slice none 0 0)] 3 8 Zam fun h8=>?_<;>refine ZE 8 Gd ?_<;>refine Zi ?_)
 ((refine yL 54 (Zu 8 Gd) fun v54 h=>?_;cases h)<;>refine xL 55 Zb ?_<;>(refine cP 56 (cA (call51) hxa) (fun va56 vb56 hva56 hvb56=>?_) (hsh:=r5.t E);cases hvb56)<;>refine xL 53 Zb (xL 57 Zj (xL 58 Zj ?_))<;>refine Zw [(.int .i64 0),(.int .i64 0),(.slice none 0 0),(.slice none 0 0),(.slice none 0 0)] 5 9 JG fun h9=>?_<;>refine ZE 9 Yd ?_<;>refine xL 10 Za ?_<;>refine Zi ?_)
 (refine xL 59 Zb (xL 60 Yv ?_)<;>refine Zc ?_)
 refine cX ?_ ?_<;>intro hb60
 · first|exact bN hb60|(
 have hn:bldT acts x=none∧E=13:=by
  rcases hc with h|⟨A,_,h,_⟩
  · exact h
  · exact UU h (by simpa using hb60)
 obtain ⟨hn,rfl⟩:=hn;have hF:foldX o (l.map (bldT acts))=none:=O5 (Xk.2 ⟨x,Xc hx,hn⟩);rw [hF];refine Ze ?_;(refine xL 61 (ZL Tt) (xL 62 Zb ?_)<;>refine ZE 4 Yd ?_<;>refine xL 5 Za ?_<;>refine Zc ?_)
 exact Z5 (k:=5) 4 kR (results51) rfl rfl rfl (Xa rfl) dC rfl rfl)
 · first|exact bN hb60|(
 have hA:∃A,bldT acts x=some A∧E=0∧p0=pInt A.n∧p1=pInt A.syms∧p2=pInts A.start∧p3=pInts A.fin∧p4=pMvs A.moves:=by
  rcases hc with ⟨_,h⟩|h
  · exact UU h (by simp at hb60;omega)
  · exact h
 clear hc;obtain ⟨A,hA,rfl,rfl,rfl,rfl,rfl,rfl⟩:=hA;have hnx:=hP.next hx hA (hb x (Xc hx))
 refine Ze ?_;(refine xL 63 Zb ?_<;>(refine yL 64 (Zu 9 Yd) fun v64 h=>?_;cases h)<;>refine YB 65 T0 fun h65 ho65=>?_<;>(refine ZW 200 65 66 T0 fun h66 ho66=>?_;refine Zs (ZC (l:=66) 200 rfl rfl) fun _=>?_;refine Zs (ZH (l:=200) rfl (ZdK _ Ps A)) fun _=>?_)<;>refine xL 6 Za ?_<;>refine Zi ?_)
 (refine xL 67 ZG (xL 49 Zb ?_)<;>refine Zc ?_)
 refine Zm (
  ⟨(i+1,h66,Ps++[A]),hnx,ho66⟩
  ) (by dsimp only;omega) ⟨rfl,rfl,rfl,rfl,rfl,rfl,rfl,rfl,trivial⟩ ⟨rfl,rfl,rfl,trivial⟩))
     · first | exact bN hb50|(
 obtain ⟨hall,hPll⟩:=hP.all (show l.length≤i by omega);have hok:=hP.ok;rw [hall];obtain ⟨A0,Qs,rfl⟩:∃A0 Qs,Ps=A0::Qs:=by
  cases Ps with
  |nil=>rw [XC] at hPll;omega
  |cons y m=>exact ⟨y,m,rfl⟩
 refine Zq (En.freeze (l:=200) (t:=6) rfl rfl) fun _=>?_;rw [Cm _ _ _ rfl];have e3:(((A0::Qs).flatMap LS).drop (0*5)).take 5=[pInt A0.n,pInt A0.syms,pInts A0.start,pInts A0.fin,pMvs A0.moves]:=rfl;(have e4:0*5+5≤((A0::Qs).flatMap LS).length:=by rw [hPc,Xl];omega);have hQl:0<(A0::Qs).length:=Nat.zero_lt_succ _;(have hQb:Qs.length≤1000000:=by rw [Xl] at hPll;omega);refine Ze ?_;(refine xL 68 (Zd 2 Gx) ?_<;>(refine yL 69 (Zk 2 SZ) fun v69 h=>?_;cases h)<;>refine xL 70 Ye ?_<;>refine Zc ?_)
 refine cX ?_ ?_<;>intro hb70
 · exact UU (show o=6 by simpa using hb70) oM
 · refine Ze ?_;(refine xL 13 Za ?_<;>refine Zi ?_)
   (refine xL 101 (Zd 2 Gx) ?_<;>(refine yL 102 (Zk 2 SZ) fun v102 h=>?_;cases h)<;>refine Zc ?_)
   refine Zm0 (fun F:{F:Nat//(∀R B,AF prog F [ZN R,ZN B] (· =resW (Wk o R B)))∧∀args w,(callFunc F args).run prog w= .ok (.enter F args) w}=>⟨[(2,padd (sbase h2) 0, .val (padd (sbase h2) 0)),(4,padd (sbase h4) 0, .val (padd (sbase h4) 0)),(6,hv, .sl (A0::Qs).length ((A0::Qs).flatMap LS)),(13, .func (.func F.1) #[] #[], .fn F.1 [])],[(2,h2, .own 24 3 1 [pInt o,Yl a,Y0 l]),(4,h4, .own 39 5 1 ([.int .i64 0, .int .i64 0, .slice none 0 0, .slice none 0 0, .slice none 0 0].map PV.val))]⟩) ?_ ?_
   · (refine Zv ?_<;>refine xL 104 Ye (xL 103 Za ?_)<;>refine Zc ?_)
     refine cX ?_ ?_<;>intro hb103
     · first|exact bN hb103|(
 have hF:(∀R B,AF prog 88 [ZN R,ZN B] (· =resW (Wk o R B)))∧∀args w,(callFunc 88 args).run prog w= .ok (.enter 88 args) w:=⟨hu (by simpa using hb103),call88⟩;refine Ze ?_;(refine xL 13 Za ?_<;>refine Zc ?_)
 exact WP ⟨_,hF⟩ ⟨rfl,rfl,rfl,rfl,trivial⟩ ⟨rfl,rfl,trivial⟩)
     · first|exact bN hb103|(
 refine Ze ?_;(refine xL 106 Ye (xL 105 Za ?_)<;>refine Zc ?_)
 refine cX ?_ ?_<;>intro hb105
 · first|exact bN hb105|(
 have hF:(∀R B,AF prog 89 [ZN R,ZN B] (· =resW (Wk o R B)))∧∀args w,(callFunc 89 args).run prog w= .ok (.enter 89 args) w:=⟨hs (by simpa using hb105),call89⟩;refine Ze ?_;(refine xL 13 Za ?_<;>refine Zc ?_)
 exact WP ⟨_,hF⟩ ⟨rfl,rfl,rfl,rfl,trivial⟩ ⟨rfl,rfl,trivial⟩)
 · first|exact bN hb105|(
 have hF:(∀R B,AF prog 87 [ZN R,ZN B] (· =resW (Wk o R B)))∧∀args w,(callFunc 87 args).run prog w= .ok (.enter 87 args) w:=⟨hc3 (by have h1:¬o=4:=(by simpa using hb103);have h2:¬o=5:=(by simpa using hb105);omega),call87⟩;refine nav ?_;exact WP ⟨_,hF⟩ ⟨rfl,rfl,rfl,rfl,trivial⟩ ⟨rfl,rfl,trivial⟩))
   · rintro ⟨F,hFn,hCF⟩;dsimp only;refine Ze ?_;(refine xL 107 Zb (xL 108 (ZI Jo) ?_)<;>(refine yL 109 (Wn Yd) fun v109 h=>?_;cases h)<;>refine Zw [(.int .i64 0),(.int .i64 0),(.slice none 0 0),(.slice none 0 0),(.slice none 0 0)] 5 14 JG fun h14=>?_<;>refine ZE 14 Yd ?_<;>refine Zi ?_)
     (refine xL 110 Zb ?_<;>refine xL 111 (OF (i:=1) (j:=(A0::Qs).length) Jo rfl rfl rfl rfl (Nat.succ_le_of_lt hQl) (Xg _) hPc) ?_<;>(refine Zs (Wx (t:=111) (p':= .sl Qs.length (Qs.flatMap LS)) rfl (Zh5 A0 Qs)) fun _=>?_;refine xL 112 (ZT Jo) ?_)<;>refine xL 113 Zb ?_<;>refine Zc ?_)
     refine ZD (ι:={q:Nat×Aut//FldOk acts o A0 Qs q.1 q.2}) (fun k=>⟨[(2,_,_),(4,_,_),(13,_,_),(111,_,_),(112,_,_),(14,_,_),(113, .int .i64 k.1.1,pInt k.1.1)],[(2,_,_),(4,_,_),(14,h14, .own 39 5 1 (LS k.1.2))]⟩) (fun k=>Qs.length-k.1.1) ⟨(0,A0),Xd _,rfl,hok A0 (Xm ..)⟩ (fun a w H=>H.weaken ⟨rfl,rfl,rfl,rfl,rfl,rfl,rfl,trivial⟩ ⟨rfl,rfl,rfl,trivial⟩) ?_;rintro ⟨⟨j,R⟩,hF⟩;dsimp only;dsimp only at hF;have hFj:=hF.le;refine Ze ?_;(refine xL 114 ZP ?_<;>refine Zc ?_)
     refine cX ?_ ?_<;>intro hb114
     · first |exact bN hb114|(
 obtain ⟨B,hB⟩:=Zt (show j<Qs.length by omega);have e5:=Ym SV Qs j B hB;have e6:=YK SV hB;have hBm:=hok B (Xn _ (Xc hB));obtain ⟨p0,p1,p2,p3,p4,E,r5,hres,hc⟩:=Hf (okO (Wk o R B));have hj:AF prog F [ZN R,ZN B] (· =resW (Wk o R B)):=hFn R B;rw [Zgy o hF.ok hBm,hres] at hj;obtain ⟨o0,o1,o2,o3,o4⟩:=r5.o;refine Ze ?_;(refine xL 115 (ZI Jo) ?_<;>(refine yL 116 (Wn Yd) fun v116 h=>?_;cases h)<;>refine Zw [(.int .i64 0),(.int .i64 0),(.slice none 0 0),(.slice none 0 0),(.slice none 0 0)] 5 16 JG fun h16=>?_<;>refine ZE 16 Yd ?_<;>refine Zi ?_)
 (refine xL 17 Za ?_<;>refine Zi ?_)
 (refine xL 118 Zb ?_<;>(refine yL 119 (Zu 14 Yd) fun v119 h=>?_;cases h)<;>(refine yL 120 (Zu 16 Yd) fun v120 h=>?_;cases h)<;>(refine cP 121 (Gl (f:=F) (ps:=[]) rfl ⟨_,rfl⟩ hCF rfl hj) (fun va121 vb121 hva121 hvb121=>?_) (hsh:=r5.t E);cases hvb121)<;>refine xL 117 Zb (xL 122 Zj (xL 123 Zj ?_))<;>refine ZE 14 Yd ?_<;>refine xL 17 Za ?_<;>refine Zi ?_)
 (refine xL 124 Zb (xL 125 Yv ?_)<;>refine Zc ?_)
 refine cX ?_ ?_<;>intro hb125
 · first|exact bN hb125|(
 have hn:okO (Wk o R B)=none∧E=13:=by
  rcases hc with h|⟨A,_,h,_⟩
  · exact h
  · exact UU h (by simpa using hb125)
 obtain ⟨hn,rfl⟩:=hn;rw [hF.none hB hn];refine Ze ?_;(refine xL 126 (ZL Tt) (xL 127 Zb ?_)<;>refine ZE 4 Yd ?_<;>refine xL 5 Za ?_<;>refine Zc ?_)
 exact Z5 (k:=5) 4 kR (results51) rfl rfl rfl (Xa rfl) dC rfl rfl)
 · first|exact bN hb125|(
 have hA:∃A,okO (Wk o R B)=some A∧E=0∧p0=pInt A.n∧p1=pInt A.syms∧p2=pInts A.start∧p3=pInts A.fin∧p4=pMvs A.moves:=by
  rcases hc with ⟨_,h⟩|h
  · exact UU h (by simp at hb125;omega)
  · exact h
 clear hc;obtain ⟨C,hC,rfl,rfl,rfl,rfl,rfl,rfl⟩:=hA;have hFn:=hF.next hB hBm hC
 refine Ze ?_;(refine xL 128 ZG (xL 113 Zb ?_)<;>refine Zc ?_)
 refine Zm (
  ⟨(j+1,C),hFn⟩
  ) (by dsimp only;omega) ⟨rfl,rfl,rfl,rfl,rfl,rfl,rfl,trivial⟩ ⟨rfl,rfl,rfl,trivial⟩))
     · first|exact bN hb114|(
 rw [hF.all (show Qs.length≤j by omega)];refine Ze ?_;((refine yL 129 (Zu 14 Yd) fun v129 h=>?_;cases h)<;>refine ZE 4 Yd ?_<;>refine xL 5 Za ?_<;>refine Zc ?_)
 exact Z5 (k:=5) 4 kR (results51) rfl rfl rfl (Xa rfl) dC rfl rfl))
theorem Ox {acts:List ByteArray} {a b:Aut} (ha:IsMin a∧a.syms=acts.length) (hb:IsMin b∧b.syms=acts.length):MinO acts.length (Gs a b):=SS ha.1 hb.1 ha.2 hb.2
set_option maxHeartbeats 4000000 in
theorem ZbB (acts :List ByteArray) (a:ByteArray) (x0 y0:Nd) (l:List Nd) (hl0:l=[x0,y0]) (ih:∀x∈l,AF prog 51 [pTr x,Yq acts] (· =resW (lim (bldT acts x)))) (hb:∀x∈l,BldOk acts.length (bldT acts x)):AF prog 51 [.agg [pInt 6,Yl a,Y0 l],Yq acts] (· =resW (lim (foldX 6 (l.map (bldT acts))))):=by
 have hlen0:l.length=2:=by rw [hl0];rfl
 refine AF.of_body 130 func51 rfl ntmps51 (Xa rfl) ?_
 intro w0 M0 vs hl hv
 obtain ⟨v0,v1,rfl⟩:=YI hl
 clear hl hv
 refine Ze ?_
 (refine ZB 2 3 fun h2=>?_<;>refine Zw [(.int .i64 0),(.int .i64 0),(.slice none 0 0),(.slice none 0 0),(.slice none 0 0)] 5 4 JG fun h4=>?_<;>refine xL 5 Za ?_<;>refine Zi ?_)
 (refine xL 18 (Zd 2 Gx) ?_<;>(refine yL 19 (Zk 2 SZ) fun v19 h=>?_;cases h)<;>refine Zi ?_)
 (refine xL 21 Ye (xL 20 Za ?_)<;>refine Zc ?_)
 refine cX ?_ ?_<;>intro hb20
 · exact UU hb20 dC
 · refine Ze ?_;(refine xL 37 Ye (xL 36 Za ?_)<;>refine Zc ?_)
   refine cX ?_ ?_<;>intro hb36
   · exact UU hb36 dC
   · refine Ze ?_;(refine xL 6 Za ?_<;>refine Zi ?_)
     (refine xL 46 (Zd 2 DZ) ?_<;>(refine yL 47 (Zk 2 Zal) fun v47 h=>?_;cases h)<;>refine xL 48 (ZT Ry) (xL 49 Zb ?_)<;>refine Zc ?_)
     refine Zq (KB 200 39 5 rfl) fun _=>?_;refine ZD (ι:={q:Nat×Value×List Aut//PtsOk acts l q.1 q.2.2∧q.2.1.oneCell'=true}) (fun k=>⟨[(1,_,_),(2,_,_),(4,_,_),(5,_,_),(47,_,_),(48,_,_),(6,k.1.2.1, .val k.1.2.1),(49, .int .i64 k.1.1,pInt k.1.1)],[(2,_,_),(4,_,_),(200,k.1.2.1, .own 39 5 k.1.2.2.length (k.1.2.2.flatMap LS))]⟩) (fun k=>l.length-k.1.1) ⟨(0, .slice none 0 0,[]),⟨Xd _,rfl,fun _ h=>(by cases h)⟩,rfl⟩ (fun a w H=>H.weaken ⟨rfl,rfl,rfl,rfl,rfl,rfl,rfl,rfl,trivial⟩ ⟨rfl,rfl,rfl,trivial⟩) ?_;rintro ⟨⟨i,hv,Ps⟩,hP,ho⟩;dsimp only;dsimp only at hP ho;have hPl:=hP.len;have hPi:=hP.le;have hPc:(Ps.flatMap LS).length=Ps.length*5:=flat_len SV Ps;refine Ze ?_;(refine xL 50 ZP ?_<;>refine Zc ?_)
     refine cX ?_ ?_<;>intro hb50
     · first |exact bN hb50|(
 obtain ⟨x,hx⟩:=Zt (show i<l.length by omega);have e1:((Lo l).drop (i*3)).take 3=[pInt x.op,Yl x.act,Y0 x.l]:=KF hx;have e2:=JO hx;obtain ⟨p0,p1,p2,p3,p4,E,r5,hres,hc⟩:=Hf (bldT acts x);have hxa:=ih x (Xc hx);rw [hres] at hxa;obtain ⟨o0,o1,o2,o3,o4⟩:=r5.o;refine Ze ?_;(refine xL 51 (ZI Ry) ?_<;>(refine yL 52 (Wn Gd) fun v52 h=>?_;cases h)<;>refine Zw [(.int .i64 0),(.string ByteArray.empty),(.slice none 0 0)] 3 8 Zam fun h8=>?_<;>refine ZE 8 Gd ?_<;>refine Zi ?_)
 ((refine yL 54 (Zu 8 Gd) fun v54 h=>?_;cases h)<;>refine xL 55 Zb ?_<;>(refine cP 56 (cA (call51) hxa) (fun va56 vb56 hva56 hvb56=>?_) (hsh:=r5.t E);cases hvb56)<;>refine xL 53 Zb (xL 57 Zj (xL 58 Zj ?_))<;>refine Zw [(.int .i64 0),(.int .i64 0),(.slice none 0 0),(.slice none 0 0),(.slice none 0 0)] 5 9 JG fun h9=>?_<;>refine ZE 9 Yd ?_<;>refine xL 10 Za ?_<;>refine Zi ?_)
 (refine xL 59 Zb (xL 60 Yv ?_)<;>refine Zc ?_)
 refine cX ?_ ?_<;>intro hb60
 · first|exact bN hb60|(
 have hn:bldT acts x=none∧E=13:=by
  rcases hc with h|⟨A,_,h,_⟩
  · exact h
  · exact UU h (by simpa using hb60)
 obtain ⟨hn,rfl⟩:=hn;have hF:foldX 6 (l.map (bldT acts))=none:=O5 (Xk.2 ⟨x,Xc hx,hn⟩);rw [hF];refine Ze ?_;(refine xL 61 (ZL Tt) (xL 62 Zb ?_)<;>refine ZE 4 Yd ?_<;>refine xL 5 Za ?_<;>refine Zc ?_)
 exact Z5 (k:=5) 4 kR (results51) rfl rfl rfl (Xa rfl) dC rfl rfl)
 · first|exact bN hb60|(
 have hA:∃A,bldT acts x=some A∧E=0∧p0=pInt A.n∧p1=pInt A.syms∧p2=pInts A.start∧p3=pInts A.fin∧p4=pMvs A.moves:=by
  rcases hc with ⟨_,h⟩|h
  · exact UU h (by simp at hb60;omega)
  · exact h
 clear hc;obtain ⟨A,hA,rfl,rfl,rfl,rfl,rfl,rfl⟩:=hA;have hnx:=hP.next hx hA (hb x (Xc hx))
 refine Ze ?_;(refine xL 63 Zb ?_<;>(refine yL 64 (Zu 9 Yd) fun v64 h=>?_;cases h)<;>refine YB 65 T0 fun h65 ho65=>?_<;>(refine ZW 200 65 66 T0 fun h66 ho66=>?_;refine Zs (ZC (l:=66) 200 rfl rfl) fun _=>?_;refine Zs (ZH (l:=200) rfl (ZdK _ Ps A)) fun _=>?_)<;>refine xL 6 Za ?_<;>refine Zi ?_)
 (refine xL 67 ZG (xL 49 Zb ?_)<;>refine Zc ?_)
 refine Zm (
  ⟨(i+1,h66,Ps++[A]),hnx,ho66⟩
  ) (by dsimp only;omega) ⟨rfl,rfl,rfl,rfl,rfl,rfl,rfl,rfl,trivial⟩ ⟨rfl,rfl,rfl,trivial⟩))
     · first | exact bN hb50|(
 obtain ⟨hall,hPll⟩:=hP.all (show l.length≤i by omega);have hok:=hP.ok;rw [hall];obtain ⟨A,B,rfl⟩:∃A B,Ps=[A,B]:=by
  match Ps,hPll.trans hlen0 with
  |[A,B],_=>exact ⟨A,B,rfl⟩
 refine Zq (En.freeze (l:=200) (t:=6) rfl rfl) fun _=>?_;rw [Cm _ _ _ rfl];have e3:(([A,B].flatMap LS).drop (0*5)).take 5=[pInt A.n,pInt A.syms,pInts A.start,pInts A.fin,pMvs A.moves]:=rfl;have e4:(([A,B].flatMap LS).drop (1*5)).take 5=[pInt B.n,pInt B.syms,pInts B.start,pInts B.fin,pMvs B.moves]:=rfl;have hA:=hok A (Xm ..);have hB:=hok B (Xn _ (Xm ..));have hF:foldX 6 ([A,B].map some)=okO (Jg A B):=rfl;rw [hF];clear hF hall;have mX:=Ox hB hA;obtain ⟨p0,p1,p2,p3,p4,E,r5,hres,hc⟩:=Hf (okO (Gs B A));have hj:=Da B A;rw [mX.lim,hres] at hj;obtain ⟨o0,o1,o2,o3,o4⟩:=r5.o;refine Ze ?_;(refine xL 68 (Zd 2 Gx) ?_<;>(refine yL 69 (Zk 2 SZ) fun v69 h=>?_;cases h)<;>refine xL 70 Ye ?_<;>refine Zc ?_)
 refine cX ?_ ?_<;>intro hb70
 · refine nav ?_;(refine ZZ (fun i=>([12]:List Nat).elem i) [] kR ?_<;>refine xD 0 72 rfl Zb ?_<;>refine xD 1 73 rfl (ZI Jo) ?_<;>(refine yD 2 74 rfl (Wn Yd) fun v74 h=>?_;cases h)<;>refine xD 3 75 rfl Zb ?_<;>refine xD 4 76 rfl (ZI Jo) ?_<;>(refine yD 5 77 rfl (Wn Yd) fun v77 h=>?_;cases h)<;>(refine Y' 6 10 kR ?_ ?_;rotate_right;(focus ((refine Zo rfl fun w9 M9 N9 DQ back=>?_)<;>refine Zw [(.int .i64 0),(.int .i64 0),(.slice none 0 0),(.slice none 0 0),(.slice none 0 0)] 5 11 JG fun h11=>?_<;>refine Zl (back _ (nrm ?_))<;>(refine Zr 6 kR ?_)<;>(refine Zo rfl fun w9 M9 N9 DQ back=>?_)<;>(refine cP 78 (cA (call87) hj) (fun va78 vb78 hva78 hvb78=>?_) (hsh:=r5.t E);cases hvb78)<;>refine Zl (back _ (nrm ?_))<;>refine xE 7 71 rfl Zb ?_<;>refine xD 8 79 rfl Zj ?_<;>refine xD 9 80 rfl Zj ?_<;>(refine Zr 11 kR ?_)<;>(refine Zo rfl fun w9 M9 N9 DQ back=>?_)<;>refine ZE 11 Yd ?_<;>refine Zl (back _ (nrm ?_))));rotate_right;(focus ((refine Zo rfl fun w9 M9 N9 DQ back=>?_)<;>(refine cP 78 (cA (call87) hj) (fun va78 vb78 hva78 hvb78=>?_) (hsh:=r5.t E);cases hvb78)<;>refine Zl (back _ (nrm ?_))<;>refine xD 7 71 rfl Zb ?_<;>refine xD 8 79 rfl Zj ?_<;>refine xD 9 80 rfl Zj ?_<;>(refine Zr 10 kR ?_)<;>(refine Zo rfl fun w9 M9 N9 DQ back=>?_)<;>refine Zw [(.int .i64 0),(.int .i64 0),(.slice none 0 0),(.slice none 0 0),(.slice none 0 0)] 5 11 JG fun h11=>?_<;>refine Zl (back _ (nrm ?_))<;>(refine Zr 11 kR ?_)<;>(refine Zo rfl fun w9 M9 N9 DQ back=>?_)<;>refine ZE 11 Yd ?_<;>refine Zl (back _ (nrm ?_)))))<;>refine xE 12 12 rfl Za ?_<;>refine Yw kR (nav ?_)<;>try dsimp only)<;>(
 (refine Zv ?_<;>refine xL 81 Zb (xL 82 Yv ?_)<;>refine Zc ?_)
 refine cX ?_ ?_<;>intro hb82
 · first|exact bN hb82|(
 have hn:okO (Gs B A)=none∧E=13:=by
  rcases hc with h|⟨A,_,h,_⟩
  · exact h
  · exact UU h (by simpa using hb82)
 obtain ⟨hn,rfl⟩:=hn;(have hlp:okO (Jg A B)=none:=by unfold Jg;rw [mX.lim,hn];rfl);rw [hlp];refine Ze ?_;(refine xL 83 (ZL Tt) (xL 84 Zb ?_)<;>refine ZE 4 Yd ?_<;>refine xL 5 Za ?_<;>refine Zc ?_)
 exact Z5 (k:=5) 4 kR (results51) rfl rfl rfl (Xa rfl) dC rfl rfl)
 · first |exact bN hb82|(
 have hC:∃C,okO (Gs B A)=some C∧E=0∧p0=pInt C.n∧p1=pInt C.syms∧p2=pInts C.start∧p3=pInts C.fin∧p4=pMvs C.moves:=by
  rcases hc with ⟨_,h⟩|h
  · exact UU h (by simp at hb82;omega)
  · exact h
 clear hc;obtain ⟨C,hC,rfl,rfl,rfl,rfl,rfl,rfl⟩:=hC;obtain ⟨hC1,hC2⟩:=mX.ok hC;have mS:=Ru hC2.1 hC2.2;obtain ⟨p0,p1,p2,p3,p4,E,r5,hres,hc⟩:=Hf (okO (JC C));have hj:=ZmI C;rw [mS.lim,hres] at hj;obtain ⟨o0,o1,o2,o3,o4⟩:=r5.o;refine Ze ?_;((refine yL 86 (Zu 11 Yd) fun v86 h=>?_;cases h)<;>(refine cP 87 (cA (call90) hj) (fun va87 vb87 hva87 hvb87=>?_) (hsh:=r5.t E);cases hvb87)<;>refine xL 85 Zb (xL 88 Zj (xL 89 Zj ?_))<;>refine ZE 11 Yd ?_<;>refine xL 12 Za ?_<;>refine Zi ?_)
 (refine xL 90 Zb (xL 91 Yv ?_)<;>refine Zc ?_)
 refine cX ?_ ?_<;>intro hb91
 · first|exact bN hb91|(
 have hn:okO (JC C)=none∧E=13:=by
  rcases hc with h|⟨A,_,h,_⟩
  · exact h
  · exact UU h (by simpa using hb91)
 obtain ⟨hn,rfl⟩:=hn;(have hlp:okO (Jg A B)=none:=by unfold Jg;rw [hC1];dsimp only;rw [mS.lim,hn];rfl);rw [hlp];refine Ze ?_;(refine xL 92 (ZL Tt) (xL 93 Zb ?_)<;>refine ZE 4 Yd ?_<;>refine xL 5 Za ?_<;>refine Zc ?_)
 exact Z5 (k:=5) 4 kR (results51) rfl rfl rfl (Xa rfl) dC rfl rfl)
 · first|exact bN hb91|(
 have hS:∃S,okO (JC C)=some S∧E=0∧p0=pInt S.n∧p1=pInt S.syms∧p2=pInts S.start∧p3=pInts S.fin∧p4=pMvs S.moves:=by
  rcases hc with ⟨_,h⟩|h
  · exact UU h (by simp at hb91;omega)
  · exact h
 clear hc;obtain ⟨S,hS,rfl,rfl,rfl,rfl,rfl,rfl⟩:=hS;obtain ⟨hS1,hS2⟩:=mS.ok hS;have mT:=Ox hA hS2;(have hlp:okO (Jg A B)=okO (Gs A S):=by unfold Jg;rw [hC1];dsimp only;rw [hS1]);rw [hlp];obtain ⟨p0,p1,p2,p3,p4,E,r5,hres,hc⟩:=Hf (okO (Gs A S));have hj:=Da A S;rw [mT.lim,hres] at hj;rw [hres];obtain ⟨o0,o1,o2,o3,o4⟩:=r5.o;refine nav ?_;(refine ZZ (fun i=>([8]:List Nat).elem i) [11] kR ?_<;>refine xD 0 94 rfl Zb ?_<;>refine xD 1 95 rfl (ZI Jo) ?_<;>(refine yD 2 96 rfl (Wn Yd) fun v96 h=>?_;cases h)<;>(refine yE 3 97 rfl (Zu 11 Yd) fun v97 h=>?_;cases h)<;>(refine Zr 4 kR ?_)<;>(refine Zo rfl fun w9 M9 N9 DQ back=>?_)<;>(refine cP 98 (cA (call87) hj) (fun va98 vb98 hva98 hvb98=>?_) (hsh:=r5.t E);cases hvb98)<;>refine Zl (back _ (nrm ?_))<;>refine xD 5 99 rfl Zj ?_<;>refine xE 6 100 rfl Zj ?_<;>(refine Zr 7 kR ?_)<;>(refine Zo rfl fun w9 M9 N9 DQ back=>?_)<;>refine ZE 4 Yd ?_<;>refine Zl (back _ (nrm ?_))<;>refine xE 8 5 rfl Za ?_<;>refine Yw kR (nav ?_)<;>try dsimp only)
 exact Z5 (k:=5) 4 kR (results51) rfl rfl rfl (Xa rfl) dC r5.s rfl)))
 · exact UU rfl hb70)
theorem De (acts:List ByteArray) (hm:acts.length≤40):∀t:Nd,okT t=true→szT t≤1000→(∀s∈YY t,s∈acts)→AF prog 51 [pTr t,Yq acts] (· =resW (lim (bldT acts t))):=Nd.ind fun o a l ih hok hsz ha=>by
 have e0:pTr (.mk o a l)= .agg [pInt o,Yl a,Y0 l]:=rfl
 rw [e0]
 obtain ⟨hr,hp⟩:=Jh.1 hok
 have hops:=S9 hr
 simp only [Nd.op,Nd.l] at hops hp
 rw [szT] at hsz
 have hlz:=Rb l
 have hpa:∀x∈l,o≠1→∀s∈YY x,s∈acts:=fun x hx h1 s hs=>ha s (by rw [YY,US h1];exact Sp.2 ⟨x,hx,hs⟩)
 have hih:o≠1→∀x∈l,AF prog 51 [pTr x,Yq acts] (· =resW (lim (bldT acts x))):=fun h1 x hx=>ih x hx (hp x hx) (by have:=Lw hx;omega) (hpa x hx h1)
 have hbo:o≠1→∀x∈l,BldOk acts.length (bldT acts x):=fun h1 x hx=>Zke hm x (hpa x hx h1)
 by_cases h1:o=1
 · subst h1;have hmem:a∈acts:=ha a (by rw [YY,UT rfl];exact Xm ..);obtain ⟨i,h2,h3,_⟩:=Tq hmem;have hi:=Zf h3;have hM:=Gv (m:=acts.length) (Om hm (k:=YO acts a) (by rw [h2];omega)) rfl;have hl:l=[]:=by unfold rightT at hr;simp [Nd.op,Nd.l] at hr;exact hr.1
   subst hl;have hb:bldT acts (.mk 1 a [])=okO (Jd (GF acts.length (YO acts a))):=by rw [bldT,UT rfl];rfl
   rw [hb];obtain ⟨p0,p1,p2,p3,p4,E,r5,hres,_⟩:=Hf (okO (Jd (GF acts.length (YO acts a))));have hj:=DU (GF acts.length (YO acts a));rw [hM.lim,hres] at hj;rw [hres];exact ZdL acts a r5 hj
 by_cases h2:o=2
 · subst h2;have hM:=Gv (m:=acts.length) (E7 hm) rfl;have hl:l=[]:=by unfold rightT at hr;simp [Nd.op,Nd.l] at hr;exact hr.1
   subst hl;have hb:bldT acts (.mk 2 a [])=okO (Jd (RI acts.length)):=by rw [bldT,US dC,UT rfl]
   rw [hb];obtain ⟨p0,p1,p2,p3,p4,E,r5,hres,_⟩:=Hf (okO (Jd (RI acts.length)));have hj:=DU (RI acts.length);rw [hM.lim,hres] at hj;rw [hres];exact ZdM acts a r5 hj
 rw [Zfh acts o a l h1 h2]
 by_cases h6:o=6
 · subst h6;obtain ⟨x,y,hxy⟩:=O8 hr;exact ZbB acts a x y l hxy (hih h1) (hbo h1)
 have ho:o=3∨o=4∨o=5:=oM
 obtain ⟨x,m,hxm⟩:=E' ho hr
 exact ZdS o ho acts a x m l hxm oM (hih h1) (hbo h1)
end Go.Proofs.YtgfabnhpllkebaaGreatDoor
