/-
  Walks of functions and plain laws of the chapter, as the claim needs them.
-/
import Derived.Test.YtgfabnhpllkebaaGreatDoorPn10
import Derived.Test.YtgfabnhpllkebaaGreatDoorPn09
import Derived.Test.YtgfabnhpllkebaaGreatDoorPn04
import Derived.Test.YtgfabnhpllkebaaGreatDoorPn05
import Derived.Test.YtgfabnhpllkebaaGreatDoorPn06
import Derived.Test.YtgfabnhpllkebaaGreatDoorPn08
import Derived.Test.YtgfabnhpllkebaaGreatDoorPn01
namespace Go.Proofs.YtgfabnhpllkebaaGreatDoor
open Go.RowKit Go.Cb Go.En Tryz
set_option linter.all false
set_option maxRecDepth 100000
theorem Gz (l:List Int):(l.map pInt).all En.one=true:=by rw [XB];intro p hp;obtain ⟨z,_,rfl⟩:=Xj.1 hp;rfl
theorem JE (l:List Int):(l.map pInt).length=l.length*1:=by rw [Xe,Xp]
theorem Tj (e:Nat) (l m:List Int):PV.own e 1 (l.length+m.length) (l.map pInt++m.map pInt)= .own e 1 (l++m).length ((l++m).map pInt):=by rw [Xu,Xc]
theorem Jk {a b:Aut} (h:WH a b=0):VOk a∧VOk b∧a.syms=b.syms:=by
 obtain ⟨h1,h2,h3⟩:=E0 h
 exact ⟨WS h1,WS h2,h3⟩
theorem Ze1 (a b:Aut) (e:Int) (he:¬e=0) (hf:AF prog 120 [ZN a,ZN b] (· =pInt e)):AF prog 88 [ZN a,ZN b] (· = .tup [KS,pInt e]):=by
 refine AF.of_body 42 func88 rfl ntmps88 (Xa rfl) ?_
 intro w0 M0 vs hl hv
 obtain ⟨v0,v1,rfl⟩:=YG hl
 clear hl hv
 refine Ze ?_
 (refine ZC 2 5 fun h2=>?_<;>refine ZC 3 5 fun h3=>?_<;>refine Zx [(.int .i64 0),(.int .i64 0),(.slice none 0 0),(.slice none 0 0),(.slice none 0 0)] 5 4 ZJ fun h4=>?_<;>refine xL 5 Za ?_<;>refine Zi ?_)
 ((refine yL 8 (Zu 2 Zh) fun v8 h=>?_;cases h)<;>(refine yL 9 (Zu 3 Zh) fun v9 h=>?_;cases h)<;>(refine cS 10 (cA call120 (hf)) fun v10 h=>?_;cases h)<;>refine xL 6 Za ?_<;>refine Zi ?_)
 (refine xL 11 Zb (xL 12 Yx ?_)<;>refine Zc ?_)
 refine cX ?_ ?_<;>intro hb12
 · refine Ze ?_;(refine xL 13 (ZM ZU) (xL 14 Zb ?_)<;>refine ZD 4 Zh ?_<;>refine xL 5 Za ?_<;>refine Zc ?_)
   exact Z2 (k:=5) 4 kR (results88) rfl rfl rfl (Xa rfl) dC rfl rfl
 · exact UT (by simpa using hb12) he
set_option maxHeartbeats 2000000 in
theorem Zka (a b:Aut) (hf0:WH a b=0) {p0 p1 p2 p3 p4:PV} {E:Int} (r5:R5 p0 p1 p2 p3 p4) (hr:AF prog 132 [ZN (mkA (W5 a b))] (· = .tup [.agg [p0,p1,p2,p3,p4],pInt E])):AF prog 88 [ZN a,ZN b] (· = .tup [.agg [p0,p1,p2,p3,p4],pInt E]):=by
 obtain ⟨o0,o1,o2,o3,o4⟩:=r5.o
 obtain ⟨ha,hb,hs⟩:=Jk hf0
 have hf:=Pd a b
 rw [hf0] at hf
 have hn0:=ha.n0
 have hn1:=ha.n1
 have k1:=ha.sl
 have k2:=hb.sl
 have k3:=ha.fl
 have k4:=hb.fl
 have m1:=hb.n1
 have kml:=Rl ha.toAOk hb.toAOk
 have l1:=KU a.n b.start
 have l2:=KU a.n b.fin
 refine AF.of_body 42 func88 rfl ntmps88 (Xa rfl) ?_
 intro w0 M0 vs hl hv
 obtain ⟨v0,v1,rfl⟩:=YG hl
 clear hl hv
 refine Ze ?_
 (refine ZC 2 5 fun h2=>?_<;>refine ZC 3 5 fun h3=>?_<;>refine Zx [(.int .i64 0),(.int .i64 0),(.slice none 0 0),(.slice none 0 0),(.slice none 0 0)] 5 4 ZJ fun h4=>?_<;>refine xL 5 Za ?_<;>refine Zi ?_)
 ((refine yL 8 (Zu 2 Zh) fun v8 h=>?_;cases h)<;>(refine yL 9 (Zu 3 Zh) fun v9 h=>?_;cases h)<;>(refine cS 10 (cA call120 (hf)) fun v10 h=>?_;cases h)<;>refine xL 6 Za ?_<;>refine Zi ?_)
 (refine xL 11 Zb (xL 12 Yx ?_)<;>refine Zc ?_)
 refine cX ?_ ?_<;>intro hb12
 · first|omega|exact UT rfl hb12|exact bN hb12
 · refine Ze ?_;((refine yL 15 (Zu 2 Zh) fun v15 h=>?_;cases h)<;>(refine yL 16 (Zu 3 Zh) fun v16 h=>?_;cases h)<;>(refine JM [2,3,4] 17 (call134) (ζP a b ha.toAOk hb.toAOk _ _) ?_;rintro V17 _ _ ⟨hM,hMo,rfl,rfl⟩;have qM:En.one (PV.val hM)=true:=hMo)<;>refine Zx [(.int .i64 0),(.int .i64 0),(.slice none 0 0),(.slice none 0 0),(.slice none 0 0)] 5 7 ZJ fun h7=>?_<;>refine ZD 7 Zh ?_<;>refine Zc ?_)
   (refine ZY (fun i=>([]:List Nat).elem i) [2,3] kR ?_<;>refine xD 0 18 rfl (Zd 2 Z4) ?_<;>(refine yD 1 19 rfl (Zj 2 Zz) fun v19 h=>?_;cases h)<;>refine xD 3 21 rfl (Zd 3 Z4) ?_<;>(refine yD 4 22 rfl (Zj 3 Zz) fun v22 h=>?_;cases h)<;>refine xD 5 23 rfl (Zd 2 ZQ) ?_<;>(refine yD 6 24 rfl (Zj 2 Zg) fun v24 h=>?_;cases h)<;>(refine Zr 2 kR ?_)<;>(refine Zo rfl fun w9 M9 N9 DQ back=>?_)<;>refine cO 20 (cA call135 (Jw a.start oM)) fun v20 ho20=>?_<;>refine Zl (back _ (nrm ?_))<;>(refine Zr 7 kR ?_)<;>(refine Zo rfl fun w9 M9 N9 DQ back=>?_)<;>(refine cO 25 (cA call136 (Li b.start a.n oM oM (fun x hx=>by have:=hb.st x hx;omega))) fun v25 ho25=>?_;refine Zt (En.freeze (l:=25) (t:=25) rfl rfl) fun _=>?_;rw [ZV _ _ _ rfl])<;>refine Zl (back _ (nrm ?_))<;>(refine Zr 8 kR ?_)<;>(refine Zo rfl fun w9 M9 N9 DQ back=>?_)<;>(refine Kc 20 26 Zn (fun h26 ho26=>?_) (JE (YW a.n b.start)) (Gz (YW a.n b.start));have q26:En.one (PV.val h26)=true:=ho26)<;>refine Zl (back _ (nrm ?_))<;>refine xE 9 27 rfl (Zd 7 Z4) ?_<;>(refine Zr 10 kR ?_)<;>(refine Zo rfl fun w9 M9 N9 DQ back=>?_)<;>refine YM 7 Zz Wd ?_<;>refine Zl (back _ (nrm ?_))<;>refine Yr kR (nav ?_)<;>try dsimp only)
   refine Zs (ZL (l:=26) rfl (Tj _ a.start (YW a.n b.start))) fun _=>?_;refine Zs (Z6 (l:=7) (l':=26) (j:=2) rfl rfl rfl rfl) fun _=>?_;rw [ZV _ _ _ rfl];(refine ZY (fun i=>([]:List Nat).elem i) [2,3] kR ?_<;>refine xD 0 28 rfl (Zd 2 ZX) ?_<;>(refine yD 1 29 rfl (Zj 2 Zz) fun v29 h=>?_;cases h)<;>refine xD 3 31 rfl (Zd 3 ZX) ?_<;>(refine yD 4 32 rfl (Zj 3 Zz) fun v32 h=>?_;cases h)<;>refine xD 5 33 rfl (Zd 2 ZQ) ?_<;>(refine yD 6 34 rfl (Zj 2 Zg) fun v34 h=>?_;cases h)<;>(refine Zr 2 kR ?_)<;>(refine Zo rfl fun w9 M9 N9 DQ back=>?_)<;>refine cO 30 (cA call135 (Jw a.fin oM)) fun v30 ho30=>?_<;>refine Zl (back _ (nrm ?_))<;>(refine Zr 7 kR ?_)<;>(refine Zo rfl fun w9 M9 N9 DQ back=>?_)<;>(refine cO 35 (cA call136 (Li b.fin a.n oM oM (fun x hx=>by have:=hb.fi x hx;omega))) fun v35 ho35=>?_;refine Zt (En.freeze (l:=35) (t:=35) rfl rfl) fun _=>?_;rw [ZV _ _ _ rfl])<;>refine Zl (back _ (nrm ?_))<;>(refine Zr 8 kR ?_)<;>(refine Zo rfl fun w9 M9 N9 DQ back=>?_)<;>(refine Kc 30 36 Zn (fun h36 ho36=>?_) (JE (YW a.n b.fin)) (Gz (YW a.n b.fin));have q36:En.one (PV.val h36)=true:=ho36)<;>refine Zl (back _ (nrm ?_))<;>refine xE 9 37 rfl (Zd 7 ZX) ?_<;>(refine Zr 10 kR ?_)<;>(refine Zo rfl fun w9 M9 N9 DQ back=>?_)<;>refine YM 7 Zz Wd ?_<;>refine Zl (back _ (nrm ?_))<;>refine Yr kR (nav ?_)<;>try dsimp only)
   refine Zs (ZL (l:=36) rfl (Tj _ a.fin (YW a.n b.fin))) fun _=>?_;refine Zs (Z6 (l:=7) (l':=36) (j:=3) rfl rfl rfl rfl) fun _=>?_;rw [ZV _ _ _ rfl];(refine Zv ?_<;>(refine yL 38 (Zu (k:=5) (ps:=[pInt (a.n+b.n),pInt a.syms,pInts (a.start++YW a.n b.start),pInts (a.fin++YW a.n b.fin),PV.val hM]) 7 kR) fun v38 h=>?_;cases h)<;>(refine WN [(1000,hM,PV.own 93 3 (W5 a b).moves.length ((W5 a b).moves.flatMap cMv)),(2,_,_),(3,_,_),(4,_,_),(7,_,_)] ⟨rfl,rfl,rfl,rfl,rfl,trivial⟩ ?_;refine JM [2,3,4,7] 39 (call137) (ZaQ (W5 a b) (by show (bsM a b).length≤1000000;omega) (Eu ha hb) _ hM hMo r5 hr) ?_;rintro _ _ _ ⟨⟨V1,rfl⟩,rfl,rfl⟩)<;>refine xL 40 Zk (xL 41 Zk ?_)<;>refine ZD 4 Zh ?_<;>refine xL 5 Za ?_<;>refine Zc ?_)
   exact Z2 (k:=5) 4 kR (results88) rfl rfl rfl (Xa rfl) dC r5.s rfl
theorem Zkb (a b:Aut):AF prog 88 [ZN a,ZN b] (· =resW (Ga a b)):=by
 unfold Ga
 by_cases h0:WH a b=0
 · rw [UR (fun h=>h h0)];obtain ⟨ha,hb,hs⟩:=Jk h0;obtain ⟨p0,p1,p2,p3,p4,E,h5,h2,hr⟩:=TP (W5 a b) (by have:=Rl ha.toAOk hb.toAOk;show (bsM a b).length≤1000000;omega) (S9 ha hb hs);rw [h2];exact Zka a b h0 h5 hr
 · rw [US h0];exact Ze1 a b _ h0 (Pd a b)
def ctM (a b:Aut) (i:Nat):List Mv:=bsM a b++SH a.n (a.fin.take i) b.start
theorem E2 (a b:Aut):ctM a b 0=bsM a b:=by show bsM a b++[]=bsM a b;rw [Xq]
theorem Zda {a b:Aut} {i:Nat} {f:Int} (h:a.fin[i]? =some f):ctM a b (i+1)=ctM a b i++JW a.n f b.start:=by unfold ctM;rw [Zg3 a.n b.start h,Xy]
theorem Zf3 (a b:Aut) {i:Nat} (h:a.fin.length≤i):ctM a b i=(Km a b).moves:=by unfold ctM;rw [Xk h];rfl
theorem Zf4 {a b:Aut} {i j:Nat} (f:Int) (hi:i<a.fin.length) (hj:j≤b.start.length):(ctM a b i++JW a.n f (b.start.take j)).length≤(Km a b).moves.length:=by
 rw [P5]
 unfold ctM bsM
 rw [Xc,Xc,Xc,La,Es,Xo]
 unfold JW
 rw [Xe,Xo]
 have h1:(i+1)*b.start.length≤a.fin.length*b.start.length:=Vs _ hi
 rw [X5] at h1
 rw [X3 (Nat.le_of_lt hi),X3 hj]
 omega
theorem Zdb (a b:Aut) (e:Int) (he:¬e=0) (hf:AF prog 120 [ZN a,ZN b] (· =pInt e)):AF prog 87 [ZN a,ZN b] (· = .tup [KS,pInt e]):=by
 refine AF.of_body 68 func87 rfl ntmps87 (Xa rfl) ?_
 intro w0 M0 vs hl hv
 obtain ⟨v0,v1,rfl⟩:=YG hl
 clear hl hv
 refine Ze ?_
 (refine ZC 2 5 fun h2=>?_<;>refine ZC 3 5 fun h3=>?_<;>refine Zx [(.int .i64 0),(.int .i64 0),(.slice none 0 0),(.slice none 0 0),(.slice none 0 0)] 5 4 ZJ fun h4=>?_<;>refine xL 5 Za ?_<;>refine Zi ?_)
 ((refine yL 12 (Zu 2 Zh) fun v12 h=>?_;cases h)<;>(refine yL 13 (Zu 3 Zh) fun v13 h=>?_;cases h)<;>(refine cS 14 (cA call120 (hf)) fun v14 h=>?_;cases h)<;>refine xL 6 Za ?_<;>refine Zi ?_)
 (refine xL 15 Zb (xL 16 Yx ?_)<;>refine Zc ?_)
 refine cX ?_ ?_<;>intro hb16
 · refine Ze ?_;(refine xL 17 (ZM ZU) (xL 18 Zb ?_)<;>refine ZD 4 Zh ?_<;>refine xL 5 Za ?_<;>refine Zc ?_)
   exact Z2 (k:=5) 4 kR (results87) rfl rfl rfl (Xa rfl) dC rfl rfl
 · exact UT (by simpa using hb16) he
set_option maxHeartbeats 2000000 in
theorem ζS (a b:Aut) (hf0:WH a b=0) {p0 p1 p2 p3 p4:PV} {E:Int} (r5:R5 p0 p1 p2 p3 p4) (hr:(Km a b).moves.length≤40001→AF prog 132 [ZN (mkA (Km a b))] (· = .tup [.agg [p0,p1,p2,p3,p4],pInt E])):AF prog 87 [ZN a,ZN b] (fun p=>((Km a b).moves.length≤40001∧p= .tup [.agg [p0,p1,p2,p3,p4],pInt E])∨(20000<(Km a b).moves.length∧p= .tup [KS,pInt 13])):=by
 obtain ⟨o0,o1,o2,o3,o4⟩:=r5.o
 obtain ⟨ha,hb,hs⟩:=Jk hf0
 have hf:=Pd a b
 rw [hf0] at hf
 have hn0:=ha.n0
 have hn1:=ha.n1
 have k1:=ha.sl
 have k2:=hb.sl
 have k3:=ha.fl
 have k4:=hb.fl
 have m1:=hb.n1
 have kml:=Rl ha.toAOk hb.toAOk
 have l2:=KU a.n b.fin
 refine AF.of_body 68 func87 rfl ntmps87 (Xa rfl) ?_
 intro w0 M0 vs hl hv
 obtain ⟨v0,v1,rfl⟩:=YG hl
 clear hl hv
 refine Ze ?_
 (refine ZC 2 5 fun h2=>?_<;>refine ZC 3 5 fun h3=>?_<;>refine Zx [(.int .i64 0),(.int .i64 0),(.slice none 0 0),(.slice none 0 0),(.slice none 0 0)] 5 4 ZJ fun h4=>?_<;>refine xL 5 Za ?_<;>refine Zi ?_)
 ((refine yL 12 (Zu 2 Zh) fun v12 h=>?_;cases h)<;>(refine yL 13 (Zu 3 Zh) fun v13 h=>?_;cases h)<;>(refine cS 14 (cA call120 (hf)) fun v14 h=>?_;cases h)<;>refine xL 6 Za ?_<;>refine Zi ?_)
 (refine xL 15 Zb (xL 16 Yx ?_)<;>refine Zc ?_)
 refine cX ?_ ?_<;>intro hb16
 · first|omega|exact UT rfl hb16|exact bN hb16
 · refine Ze ?_;((refine yL 19 (Zu 2 Zh) fun v19 h=>?_;cases h)<;>(refine yL 20 (Zu 3 Zh) fun v20 h=>?_;cases h)<;>(refine JM [2,3,4] 21 (call134) (ζP a b ha.toAOk hb.toAOk _ _) ?_;rintro V21 _ _ ⟨hM0,hM0o,rfl,rfl⟩;have qM:En.one (PV.val hM0)=true:=hM0o)<;>refine Zx [(.int .i64 0),(.int .i64 0),(.slice none 0 0),(.slice none 0 0),(.slice none 0 0)] 5 7 ZJ fun h7=>?_<;>refine ZD 7 Zh ?_<;>refine Zc ?_)
   (refine ZY (fun i=>([9,10,11]:List Nat).elem i) [2,3,7] kR ?_<;>refine xDT 0 22 rfl (Zd 2 Z4) ?_<;>(refine yDT 1 23 rfl (Zj 2 Zz) fun v23 h=>?_;cases h)<;>refine xDT 3 25 rfl (Zd 3 ZX) ?_<;>(refine yDT 4 26 rfl (Zj 3 Zz) fun v26 h=>?_;cases h)<;>refine xDT 5 27 rfl (Zd 2 ZQ) ?_<;>(refine yDT 6 28 rfl (Zj 2 Zg) fun v28 h=>?_;cases h)<;>(refine Zr 2 kR ?_)<;>(refine Zo rfl fun w9 M9 N9 DQ back=>?_)<;>(refine cO 24 (cA call135 (Jw a.start oM)) fun v24 ho24=>?_;refine Zt (En.freeze (l:=24) (t:=24) rfl rfl) fun _=>?_;rw [ZV _ _ _ rfl])<;>refine Zl (back _ (nrm ?_))<;>refine xDT 8 30 rfl (Zd 7 Z4) ?_<;>(refine Zr 7 kR ?_)<;>(refine Zo rfl fun w9 M9 N9 DQ back=>?_)<;>(refine cO 29 (cA call136 (Li b.fin a.n oM oM (fun x hx=>by have:=hb.fi x hx;omega))) fun v29 ho29=>?_;refine Zt (En.freeze (l:=29) (t:=29) rfl rfl) fun _=>?_;rw [ZV _ _ _ rfl])<;>refine Zl (back _ (nrm ?_))<;>(refine Zr 9 kR ?_)<;>(refine PI rfl rfl fun DQ back=>?_)<;>refine YM 7 Zz Wd ?_<;>refine Zl (back _ ?_)<;>(refine GO 10 kR rfl rfl fun DQ back=>?_)<;>refine xL 31 (Zd 7 ZX) ?_<;>refine Zl (back _ ?_)<;>(refine GO 11 kR rfl rfl fun DQ back=>?_)<;>refine YM 7 Zz Wd ?_<;>refine Zl (back _ ?_)<;>refine Hf kR (nav ?_)<;>try dsimp only)
   refine Zs (ZL (l:=1000) (p':= .own 93 3 (ctM a b 0).length ((ctM a b 0).flatMap cMv)) rfl (by rw [E2])) fun _=>?_;(refine Zv ?_<;>refine xL 32 (Zd 2 ZX) ?_<;>(refine yL 33 (Zj 2 Zz) fun v33 h=>?_;cases h)<;>refine xL 34 (ZR Zp) (xL 35 Zb ?_)<;>refine Zc ?_)
   refine ZB (ι:={q:Nat×Value//q.1≤a.fin.length∧q.2.oneCell'=true∧(ctM a b q.1).length≤40001}) (fun k=>⟨[(2,_,_),(3,_,_),(4,_,_),(7,_,_),(33,_,_),(34,_,_),(35, .int .i64 k.1.1,pInt k.1.1)],[(2,_,_),(3,_,_),(4,_,_),(7,h7, .own 39 5 1 [pInt (a.n+b.n),pInt a.syms,pInts a.start,pInts (YW a.n b.fin), .val k.1.2]),(1000,k.1.2, .own 93 3 (ctM a b k.1.1).length ((ctM a b k.1.1).flatMap cMv))]⟩) (fun k=>a.fin.length-k.1.1) ⟨(0,hM0),Xd _,hM0o,by show (ctM a b 0).length≤40001;rw [E2];omega⟩ (fun a w H=>H.weaken ⟨rfl,rfl,rfl,rfl,rfl,rfl,rfl,trivial⟩ ⟨rfl,rfl,rfl,rfl,rfl,trivial⟩) ?_;rintro ⟨⟨i,hI⟩,hi,hIo,hIl⟩;dsimp only;dsimp only at hi hIo hIl;have q5:En.one (PV.val hI)=true:=hIo;refine Ze ?_;(refine xL 36 ZP ?_<;>refine Zc ?_)
   refine cX ?_ ?_<;>intro hb36
   · first | exact bN hb36|(
 obtain ⟨f,hf⟩:=Zq (show i<a.fin.length by omega);have e1:=Z7 (f:=pInt) hf;have hfin:=ha.fi f (Xb hf);refine Ze ?_;(refine xL 37 (ZI Zp) ?_<;>(refine yL 38 (Ya Zg) fun v38 h=>?_;cases h)<;>refine xL 9 Za ?_<;>refine Zi ?_)
 (refine xL 39 (Zd 3 Z4) ?_<;>(refine yL 40 (Zj 3 Zz) fun v40 h=>?_;cases h)<;>refine xL 41 (ZR Zp) (xL 42 Zb ?_)<;>refine Zc ?_)
 refine Zs (ZL (l:=1000) (p':= .own 93 3 (ctM a b i++JW a.n f (b.start.take 0)).length ((ctM a b i++JW a.n f (b.start.take 0)).flatMap cMv)) rfl (by rw [show JW a.n f (b.start.take 0)=[] from rfl,Xq])) fun _=>?_;refine ZB (ι:={q:Nat×Value//q.1≤b.start.length∧q.2.oneCell'=true∧(ctM a b i++JW a.n f (b.start.take q.1)).length≤40001}) (fun k=>⟨[(2,_,_),(3,_,_),(4,_,_),(7,_,_),(9,_,_),(33,_,_),(34,_,_),(35,_,_),(40,_,_),(41,_,_),(42, .int .i64 k.1.1,pInt k.1.1)],[(2,_,_),(3,_,_),(4,_,_),(7,h7, .own 39 5 1 [pInt (a.n+b.n),pInt a.syms,pInts a.start,pInts (YW a.n b.fin), .val k.1.2]),(1000,k.1.2, .own 93 3 (ctM a b i++JW a.n f (b.start.take k.1.1)).length ((ctM a b i++JW a.n f (b.start.take k.1.1)).flatMap cMv))]⟩) (fun k=>b.start.length-k.1.1) ⟨(0,hI),Xd _,hIo,by show (ctM a b i++[]).length≤40001;rw [Xq];exact hIl⟩ (fun a w H=>H.weaken ⟨rfl,rfl,rfl,rfl,rfl,rfl,rfl,rfl,rfl,rfl,rfl,trivial⟩ ⟨rfl,rfl,rfl,rfl,rfl,trivial⟩) ?_;rintro ⟨⟨j,hJ⟩,hj,hJo,hJl⟩;dsimp only;dsimp only at hj hJo hJl;have q6:En.one (PV.val hJ)=true:=hJo;refine Ze ?_;(refine xL 43 ZP ?_<;>refine Zc ?_)
 refine cX ?_ ?_<;>intro hb43
 · first |exact bN hb43|(
 obtain ⟨s,hs⟩:=Zq (show j<b.start.length by omega);have e2:=Z7 (f:=pInt) hs;have hsin:=hb.st s (Xb hs);have hpart:=Zf4 f (by omega:i<a.fin.length) hj;refine Ze ?_;(refine xL 44 (ZI Zp) ?_<;>(refine yL 45 (Ya Zg) fun v45 h=>?_;cases h)<;>refine xL 11 Za ?_<;>refine Zi ?_)
 (refine xL 46 (Zd 7 Zw) ?_<;>(refine yL 47 (Zj 7 ZA) fun v47 h=>?_;cases h)<;>refine xL 48 (YH 1000 ZF) (xL 49 Yw ?_)<;>refine Zc ?_)
 refine cX ?_ ?_<;>intro hb49
 · first|exact bN hb49|(
 refine Ze ?_;(refine xL 50 (ZM ZU) ?_<;>refine ZD 4 Zh ?_<;>refine xL 5 Za ?_<;>refine Zc ?_)
 exact Z2 (k:=5) 4 kR (results87) rfl rfl rfl (Xa rfl) dC rfl (.inr ⟨oM,rfl⟩))
 · first|exact bN hb49|(
 refine Ze ?_;(refine xL 51 (Zd 7 Zw) ?_<;>(refine yL 52 (Zj 7 ZA) fun v52 h=>?_;cases h)<;>refine xL 53 Zb (xL 54 Zb (xL 55 (Zd 2 ZQ) ?_))<;>(refine yL 56 (Zj 2 Zg) fun v56 h=>?_;cases h)<;>refine xL 57 ZH (xL 58 (ZM YX) ?_)<;>refine YD 59 ZS fun h59 ho59=>?_<;>(refine Z1 1000 59 60 ZS fun h60 ho60=>?_;refine Zt (ZE (l:=60) 1000 rfl rfl) fun _=>?_;refine Zt (ZL (l:=1000) rfl ((WO _ (ctM a b i++JW a.n f (b.start.take j)) ⟨f,s+a.n,-1⟩).trans (by rw [Xy,←OK a.n f hs]))) fun _=>?_;have q60:En.one (PV.val h60)=true:=ho60)<;>refine xL 61 (Zd 7 Zw) ?_<;>refine YM 7 ZA YB ?_<;>refine Zi ?_)
 (refine xL 62 ZH (xL 42 Zb ?_)<;>refine Zc ?_)
 (have hl3:(ctM a b i++JW a.n f (b.start.take (j+1))).length≤40001:=by rw [OK a.n f hs,←Xy,Xc,Xx];omega);refine Zm (
  ⟨(j+1,h60),Zf hs,ho60,hl3⟩
  ) (by dsimp only;omega) ⟨rfl,rfl,rfl,rfl,rfl,rfl,rfl,rfl,rfl,rfl,rfl,trivial⟩ ⟨rfl,rfl,rfl,rfl,rfl,trivial⟩))
 · first|exact bN hb43|(
 (have hctS:ctM a b i++JW a.n f (b.start.take j)=ctM a b (i+1):=by rw [Xk (show b.start.length≤j by omega),Zda hf]);rw [hctS] at hJl;refine Zs (ZL (l:=1000) (p':= .own 93 3 (ctM a b (i+1)).length ((ctM a b (i+1)).flatMap cMv)) rfl (by rw [hctS])) fun _=>?_;refine Ze ?_;(refine xL 63 ZH (xL 35 Zb ?_)<;>refine Zc ?_)
 refine Zm (
  ⟨(i+1,hJ),Zf hf,hJo,hJl⟩
  ) (by dsimp only;omega) ⟨rfl,rfl,rfl,rfl,rfl,rfl,rfl,trivial⟩ ⟨rfl,rfl,rfl,rfl,rfl,trivial⟩))
   · first|exact bN hb36|(
 have hctA:=Zf3 a b (show a.fin.length≤i by omega);rw [hctA] at hIl;have hr:=hr hIl;refine Zs (ZL (l:=1000) (p':= .own 93 3 (Km a b).moves.length ((Km a b).moves.flatMap cMv)) rfl (by rw [hctA])) fun _=>?_;refine Ze ?_;((refine yL 64 (Zu (k:=5) (ps:=[pInt (a.n+b.n),pInt a.syms,pInts a.start,pInts (YW a.n b.fin),PV.val hI]) 7 kR) fun v64 h=>?_;cases h)<;>(refine WN [(1000,hI,PV.own 93 3 (Km a b).moves.length ((Km a b).moves.flatMap cMv)),(2,_,_),(3,_,_),(4,_,_),(7,_,_)] ⟨rfl,rfl,rfl,rfl,rfl,trivial⟩ ?_;refine JM [2,3,4,7] 65 (call137) (ZaQ (Km a b) oM (ζn ha hb) _ hI hIo r5 hr) ?_;rintro _ _ _ ⟨⟨V1,rfl⟩,rfl,rfl⟩)<;>refine xL 66 Zk (xL 67 Zk ?_)<;>refine ZD 4 Zh ?_<;>refine xL 5 Za ?_<;>refine Zc ?_)
 exact Z2 (k:=5) 4 kR (results87) rfl rfl rfl (Xa rfl) dC r5.s (.inl ⟨hIl,rfl⟩))
theorem OX (a b:Aut):AF prog 87 [ZN a,ZN b] (· =resW (Gv a b)):=by
 unfold Gv
 by_cases h0:WH a b=0
 · rw [UR (fun h=>h h0)];obtain ⟨ha,hb,hs⟩:=Jk h0;have h13:20000<(Km a b).moves.length→Je (Km a b)= .error 13:=fun h=>by
    rw [ZcT ha hb hs,ζC ha hb (.inr (by rw [←P5];exact h))]
   rcases XD 40001 (Km a b).moves.length with hl|hl
   · refine (ζS a b h0 R5.raw (E:=13) fun h=>oM).mono fun p hp=>?_;rw [h13 oM];rcases hp with ⟨h,_⟩|⟨_,h⟩
     · omega
     · exact h
   · obtain ⟨p0,p1,p2,p3,p4,E,h5,h2,hr⟩:=TP (Km a b) oM (Hp ha hb hs);refine (ζS a b h0 h5 fun _=>hr).mono fun p hp=>?_;rcases hp with ⟨_,h⟩|⟨hl2,h⟩
     · rw [h2];exact h
     · rw [h13 hl2];exact h
 · rw [US h0];exact Zdb a b _ h0 (Pd a b)
theorem Zkc (L:List Mv) (k:Nat) (x:Mv) (h:k<L.length):T9 (L.flatMap cMv) (k*3) (cMv x)=(L.set k x).flatMap cMv:=by
 have e:L=L.take k++[L[k]]++L.drop (k+1):=by
  rw [Xy,List.singleton_append,List.getElem_cons_drop,VJ]
 have e2:L.set k x=L.take k++[x]++L.drop (k+1):=by
  rw [List.set_eq_take_append_cons_drop,US h,Xy];rfl
 rw [e2]
 conv=>lhs;rw [e]
 simp only [XN,VM]
 exact Zar (α:=Int) (cMv x) _ _ _ _ (by rw [flat_len Z0,Xo,X3 (Nat.le_of_lt h)]) rfl
theorem ZmW {x y:Mv} (h:¬GG x y<0):y=x∨W8 y x=true:=by
 rw [JR] at h
 cases h2:W8 y x with
 |true=>exact .inr rfl
 |false=>exact .inl (PX h2 (by simpa using h))
theorem ZnQ {l:List Mv} (h:1≤l.length):mkM (l.take 1)=l.take 1:=by
 cases l with
 |nil=>simp at h
 |cons x l=>rfl
theorem Zf5 {l:List Mv} {p:Nat} {x y:Mv} (hy:l[p]? =some y) (hx:l[p+1]? =some x) (he:eqM x y=true):mkM (l.take (p+1+1))=mkM (l.take (p+1)):=by
 have e:=Ji.1 he
 subst e
 refine SB (Ka _) (Ka _) fun z=>?_
 rw [WZ,WZ,ZT hx,Xt,Xl]
 exact ⟨fun h=>h.elim id fun h=>by subst h;rw [ZT hy];exact X6 _ (Xl.2 rfl), .inl⟩
theorem Zkd {l:List Mv} (hs:EF l) {p:Nat} {x y:Mv} (hy:l[p]? =some y) (hx:l[p+1]? =some x) (he:eqM x y=false):mkM (l.take (p+1+1))=mkM (l.take (p+1))++[x]:=by
 have hyx:W8 y x=true:=by
  rcases ZmW (hs p (p+1) y x oM hy hx) with h|h
  · subst h;rw [Ji.2 rfl] at he;cases he
  · exact h
 refine (OF ?_ fun z=>?_).symm
 · refine Vw.2 ⟨Ka _,Vt ..,fun z hz w hw=>?_⟩;rw [Xl.1 hw];rw [WZ] at hz;obtain ⟨i,hi⟩:=XY hz;have hi':=Zf hi;rw [Xo] at hi';rw [X0 oM] at hi;by_cases e:i=p
   · subst e;rw [hi] at hy;cases hy;exact hyx
   · rcases ZmW (hs i p z y oM hi hy) with h|h
     · subst h;exact hyx
     · exact TI h hyx
 · rw [Xt,WZ,Xl,ZT hx,Xt,Xl]
theorem Zmf {hv:Value} (h:hv.oneCell'=true) (i j k:Nat):(slc hv i j k).oneCell'=true:=by
 unfold slc;split
 · rfl
 · exact h
set_option maxHeartbeats 2000000 in
theorem Zdc (l : List Mv) (hl:l.length≤1000000) (hs:EF l) (hv:Value) (hvo:hv.oneCell'=true):AFh False prog 189 [(0,hv, .val hv)] [(1000,hv, .own 93 3 l.length (l.flatMap cMv))] (fun v q h=>v.oneCell'=true∧q= .val v∧h=[(1000,v, .own 93 3 (mkM l).length ((mkM l).flatMap cMv))]):=by
 refine AFh.of_body 61 func189 rfl ntmps189 (Xa rfl) rfl ?_
 intro w0 M0 N0
 refine Ze ?_
 (refine xL 2 Za ?_<;>refine Zi ?_)
 (refine xL 6 Zb (xL 7 (YH 1000 ZF) (xL 8 ZP ?_))<;>refine Zc ?_)
 refine cX ?_ ?_<;>intro hb8
 · first|exact bN hb8|(
 refine Ze ?_;(refine xL 9 Zb (xL 2 Za ?_)<;>refine Zc ?_)
 refine HN [(1000,hv,PV.own 93 3 l.length (l.flatMap cMv))] (results189) rfl ⟨rfl,trivial⟩ ⟨hvo,rfl,?_⟩;have hm:mkM l=l:=by
  match l,hl,hb8 with
  |[],_,_=>rfl
  |[_],_,_=>rfl
  |_::_::_,_,h=>simp at h;omega
 rw [hm])
 · first | exact bN hb8|(
 refine Ze ?_;(refine xL 3 Za ?_<;>refine Zc ?_)
 refine ZB (ι:={k:Nat//1≤k∧k≤l.length∧mkM (l.take k)=l.take k}) (fun k=>⟨[(0,_,_),(3, .int .i64 k.1,pInt k.1)],[(1000,_,_)]⟩) (fun k=>l.length-k.1) ⟨1,Xg _,oM,ZnQ oM⟩ (fun a w H=>H.weaken ⟨rfl,rfl,trivial⟩ ⟨rfl,trivial⟩) ?_;rintro ⟨k1,hk1,hk,hmk⟩;dsimp only;obtain ⟨k,rfl⟩:∃k,k1=k+1:=⟨k1-1,oM⟩;refine Ze ?_;(refine xL 10 Zb (xL 11 Zb (xL 12 (YH 1000 ZF) (xL 13 ZP ?_)))<;>refine Zc ?_)
 refine cX ?_ ?_<;>intro hb13
 · first | exact bN hb13|(
 obtain ⟨x,hx⟩:=Zq (show k+1<l.length by omega);obtain ⟨y,hy⟩:=Zq (show k<l.length by omega);have e1:=Yh Z0 l (k+1) x hx;have e2:=YA Z0 hx;(have e3:((l.flatMap cMv).drop ((((k+1:Nat):Int)-1).toNat*3)).take 3=cMv y:=by rw [show (((k+1:Nat):Int)-1).toNat*3=k*3 by omega];exact Yh Z0 l k y hy);have e4:=YA Z0 hy;have hlt:k+1<l.length:=Zf hx;refine nav ?_;(refine ZY (fun i=>([]:List Nat).elem i) [1000] kR ?_<;>refine xD 0 16 rfl Zb ?_<;>refine xD 1 17 rfl Zb ?_<;>refine xD 2 18 rfl (Yi 1000 ZF) ?_<;>(refine yD 3 19 rfl (Zu 1000 ZW) fun v19 h=>?_;cases h)<;>refine xD 4 20 rfl Zb ?_<;>refine xE 5 21 rfl Zb ?_<;>refine xE 6 22 rfl KD ?_<;>refine xE 7 23 rfl (W3 1000 ZF) ?_<;>(refine yE 8 24 rfl (Zu 1000 ZW) fun v24 h=>?_;cases h)<;>refine xE 9 25 rfl ((Zio (us:=vMv x) (us':=vMv y) Zjo Zjp Zjq (Td x y) rfl rfl)) ?_<;>refine Yr kR (nav ?_)<;>try dsimp only)
 refine cX ?_ ?_<;>intro hb25
 · first | exact bN hb25|(
 have hsm:=Zf5 hy hx (by simpa using hb25);(have hl1:(mkM (l.take (k+1+1))).length=k+1:=by rw [hsm,hmk,Xo];omega);refine Ze ?_;(refine xL 26 Zb (xL 27 Zb ?_)<;>refine xL 28 (LL (i:=k+1) (j:=l.length) 1000 ZF rfl rfl rfl rfl rfl (Nat.le_of_lt hlt) (Xg _)) ?_<;>refine xL 4 Za ?_<;>refine Zi ?_)
 (refine xL 5 Za ?_<;>refine Zc ?_)
 refine ZB (ι:={q:Nat×Nat×List Mv//1≤q.1∧k+1+q.1≤l.length∧q.2.1=(mkM (l.take (k+1+q.1))).length∧q.2.2.length=l.length∧q.2.2.take q.2.1=mkM (l.take (k+1+q.1))∧q.2.1≤k+q.1∧∀i,k+q.1≤i→q.2.2[i]? =l[i]? }) (fun k=>⟨[(0,_,_),(4,_,_),(3, .int .i64 k.1.2.1,pInt k.1.2.1),(5, .int .i64 k.1.1,pInt k.1.1)],[(1000,hv, .own 93 3 l.length (k.1.2.2.flatMap cMv))]⟩) (fun k=>l.length-k.1.1) ⟨(1,k+1,l),Xg _,by dsimp only;omega,hl1.symm,rfl,by dsimp only;rw [hsm,hmk],Xg _,fun i _=>rfl⟩ (fun a w H=>H.weaken ⟨rfl,rfl,rfl,rfl,trivial⟩ ⟨rfl,trivial⟩) ?_;rintro ⟨⟨j,K,L⟩,hj1,hj,hK,hLl,hLt,hKj,hLr⟩;dsimp only;dsimp only at hj1 hj hK hLl hLt hKj hLr;obtain ⟨j',rfl⟩:∃j',j=j'+1:=⟨j-1,oM⟩;have hK2:(K:Int)≤1000000:=oM;rw [show k+1+(j'+1)=k+1+j'+1 from rfl] at hK hLt;refine Ze ?_;(refine xL 29 Zb (xL 30 Zb ?_)<;>refine xL 31 ((ZgF (a:=k+1) (m:=l.length-(k+1)) 1000 ZF rfl rfl rfl rfl)) ?_<;>refine xL 32 ZP ?_<;>refine Zc ?_)
 refine cX ?_ ?_<;>intro hb32
 · first | exact bN hb32|(
 obtain ⟨u,hu⟩:=Zq (show k+1+(j'+1)<l.length by omega);obtain ⟨v,hv2⟩:=Zq (show k+1+j'<l.length by omega);(have hu':L[k+1+(j'+1)]? =some u:=by rw [hLr _ oM];exact hu);(have hv':L[k+1+j']? =some v:=by rw [hLr _ oM];exact hv2);have g1:=Yh Z0 L _ u hu';have g2:=YA Z0 hu';have g3:=Yh Z0 L _ v hv';have g4:=YA Z0 hv';have g5:K<L.length:=oM;(have g6:K*3+3≤(L.flatMap cMv).length:=by rw [flat_len Z0];omega);refine nav ?_;(refine ZY (fun i=>([]:List Nat).elem i) [1000] kR ?_<;>refine xD 0 35 rfl Zb ?_<;>refine xD 1 36 rfl Zb ?_<;>refine xD 2 37 rfl ((Oy (a:=k+1) (m:=(k+1+(j'+1))*3) 1000 ZF rfl rfl rfl rfl oM oM oM)) ?_<;>(refine yD 3 38 rfl (Zu 1000 ZW) fun v38 h=>?_;cases h)<;>refine xD 4 39 rfl Zb ?_<;>refine xE 5 40 rfl Zb ?_<;>refine xE 6 41 rfl KD ?_<;>refine xE 7 42 rfl ((Oy (a:=k+1) (m:=(k+1+j')*3) 1000 ZF rfl rfl rfl rfl oM oM oM)) ?_<;>(refine yE 8 43 rfl (Zu 1000 ZW) fun v43 h=>?_;cases h)<;>refine xE 9 44 rfl ((ZmN (us:=vMv u) (us':=vMv v) Zjo Zjp Zjq (Td u v) rfl rfl)) ?_<;>refine Yr kR (nav ?_)<;>try dsimp only)
 refine cX ?_ ?_<;>intro hb44
 · first |exact bN hb44|(
 have hnw2:=Zkd hs hv2 hu (by simpa using hb44);have hset:=Zkc L K u g5;(have hlen2:K+1=(mkM (l.take (k+1+j'+1+1))).length:=by rw [hnw2,Xc,Xx,hK]);have htk2:(L.set K u).take (K+1)=mkM (l.take (k+1+j'+1+1)):=by
  rw [hnw2,←hLt,List.take_set,ZT (XW g5),List.set_append_right _ _ (by rw [Xo];omega),Xo,X3 oM,VZ];rfl
 refine Ze ?_;(refine xL 45 Zb (xL 46 Zb (xL 47 Zb (xL 48 Zb ?_)))<;>refine xL 49 ((Oy (a:=k+1) (m:=(k+1+(j'+1))*3) 1000 ZF rfl rfl rfl rfl oM oM oM)) ?_<;>(refine yL 50 (Zu 1000 ZW) fun v50 h=>?_;cases h)<;>refine xL 51 (Yi 1000 ZF) ?_<;>refine ZD 1000 ZW ?_<;>refine Zi ?_)
 (refine xL 52 Zb (xL 53 ZH (xL 3 Za ?_))<;>refine Zi ?_)
 (refine xL 33 Zb (xL 34 ZH (xL 5 Za ?_))<;>refine Zc ?_)
 try rw [hset]
 first
  | (exact Zm (
      ⟨(j'+1+1,K+1,L.set K u),by dsimp only;omega,by dsimp only;omega,hlen2,by dsimp only;rw [Xr];exact hLl,htk2,by dsimp only;omega,fun i hi=>by dsimp only at hi ⊢;rw [Ve oM];exact hLr i oM⟩
      ) (by dsimp only;omega) ⟨rfl,rfl,rfl,rfl,trivial⟩ ⟨rfl,trivial⟩)
  | (exact Zm (
      ⟨(j'+1+1,K,L),by dsimp only;omega,by dsimp only;omega,hK.trans (by rw [show k+1+(j'+1+1)=k+1+j'+1+1 by omega,hsm2]),hLl,hLt.trans (by rw [show k+1+(j'+1+1)=k+1+j'+1+1 by omega,hsm2]),by dsimp only;omega,fun i hi=>hLr i (by dsimp only at hi;omega)⟩
      ) (by dsimp only;omega) ⟨rfl,rfl,rfl,rfl,trivial⟩ ⟨rfl,trivial⟩))
 · first |exact bN hb44|(
 have hsm2:=Zf5 hv2 hu (by simpa using hb44);refine Ze ?_;(refine xL 33 Zb (xL 34 ZH (xL 5 Za ?_))<;>refine Zc ?_)
 try rw [hset]
 first
  | (exact Zm (
      ⟨(j'+1+1,K+1,L.set K u),by dsimp only;omega,by dsimp only;omega,hlen2,by dsimp only;rw [Xr];exact hLl,htk2,by dsimp only;omega,fun i hi=>by dsimp only at hi ⊢;rw [Ve oM];exact hLr i oM⟩
      ) (by dsimp only;omega) ⟨rfl,rfl,rfl,rfl,trivial⟩ ⟨rfl,trivial⟩)
  | (exact Zm (
      ⟨(j'+1+1,K,L),by dsimp only;omega,by dsimp only;omega,hK.trans (by rw [show k+1+(j'+1+1)=k+1+j'+1+1 by omega,hsm2]),hLl,hLt.trans (by rw [show k+1+(j'+1+1)=k+1+j'+1+1 by omega,hsm2]),by dsimp only;omega,fun i hi=>hLr i (by dsimp only at hi;omega)⟩
      ) (by dsimp only;omega) ⟨rfl,rfl,rfl,rfl,trivial⟩ ⟨rfl,trivial⟩)))
 · first|exact bN hb32|(
 have hall:l.take (k+1+j'+1)=l:=Xk oM;rw [hall] at hK hLt;have hKl:K≤l.length:=oM;refine Ze ?_;(refine xL 54 Zb (xL 55 Zb ?_)<;>refine xL 56 (LL (i:=K) (j:=l.length) 1000 ZF rfl rfl rfl rfl rfl hKl (Xg _)) ?_<;>(refine ZbF 1000 ZS dC rfl rfl rfl rfl rfl hKl ?_;intro cs2 hcs1 hcs2)<;>refine Zi ?_)
 (refine xL 57 Zb (xL 58 Zb ?_)<;>refine xL 59 (LL (i:=0) (j:=K) 1000 ZF rfl rfl rfl rfl rfl (Xd _) hKl) ?_<;>refine xL 2 Za ?_<;>refine Zc ?_)
 refine Wr (Zos (l:=1000) K rfl hKl) fun _=>?_;refine HN [(1000,slc hv 0 K 3,PV.own 93 3 K (cs2.take (K*3)))] (results189) rfl ⟨rfl,trivial⟩ ⟨Zmf hvo _ _ _,rfl,?_⟩;rw [hcs2,←hLt,R8 Z0];rw [show (L.take K).length=K by rw [Xo];omega]))
 · first|exact bN hb25|(
 have hnw:=Zkd hs hy hx (by simpa using hb25);rw [hmk,←ZT hx] at hnw;refine Ze ?_;(refine xL 14 Zb (xL 15 ZH (xL 3 Za ?_))<;>refine Zc ?_)
 refine Zm (
  ⟨k+1+1,oM,oM,hnw⟩
  ) (by dsimp only;omega) ⟨rfl,rfl,trivial⟩ ⟨rfl,trivial⟩))
 · first|exact bN hb13|(
 refine Ze ?_;(refine xL 60 Zb (xL 2 Za ?_)<;>refine Zc ?_)
 refine HN [(1000,hv,PV.own 93 3 l.length (l.flatMap cMv))] (results189) rfl ⟨rfl,trivial⟩ ⟨hvo,rfl,?_⟩;rw [Xk (show l.length≤k+1 by omega)] at hmk;rw [hmk]))
theorem Zmg {l m:List Mv} (h:l.Perm m):mkM l=mkM m:=OF (Ka l) fun x=>by rw [WZ];exact h.mem_iff
theorem Zmh (a:Aut) (hl:a.moves.length≤1000000) (V hM:Value) (hMo:hM.oneCell'=true) {p0 p1 p2 p3 p4:PV} {E:Int} (h5:R5 p0 p1 p2 p3 p4) (hr:AF prog 132 [ZN (mkA a)] (· = .tup [.agg [p0,p1,p2,p3,p4],pInt E])):AFh False prog 137 [(0,V, .agg [pInt a.n,pInt a.syms,pInts a.start,pInts a.fin, .val hM])] [(1000,hM, .own 93 3 a.moves.length (a.moves.flatMap cMv))] (fun v q h=>(∃V1:Value,v= .tuple [V1, .int .i64 E].toArray)∧q= .tup [.agg [p0,p1,p2,p3,p4],pInt E]∧h=[]):=by
 obtain ⟨o0,o1,o2,o3,o4⟩:=h5.o
 refine AFh.of_body 15 func137 rfl ntmps137 (Xa rfl) rfl ?_
 intro w0 M0 N0
 have hone:En.one (PV.val hM)=true:=hMo
 refine Ze ?_
 (refine ZC 1 5 fun h1=>?_<;>refine Zx [(.int .i64 0),(.int .i64 0),(.slice none 0 0),(.slice none 0 0),(.slice none 0 0)] 5 2 ZJ fun h2=>?_<;>refine xL 3 Za ?_<;>refine Zi ?_)
 (refine xL 4 (Zd 1 Zw) ?_<;>(refine yL 5 (Zj 1 ZA) fun v5 h=>?_;cases h)<;>(rcases X4 a.moves.length with h0|h0<;>first|(refine Zt (ZL (l:=1000) (p':= .own 93 3 0 []) rfl (by rw [XR h0];rfl)) fun _=>?_;refine ZcN (l:=1000) Dz rfl rfl (Xa rfl) rfl (call188) rfl rfl rfl ?_;obtain ⟨rows',hperm,hord⟩:∃rows':List Mv,rows'.Perm a.moves∧EF rows':=⟨[],by rw [XR h0],fun i j x y _ h=>by simp at h⟩;refine Zt (ZL (l:=1000) (p':= .own 93 3 rows'.length (rows'.flatMap cMv)) rfl (by rw [XR (hperm.length_eq.trans h0)];rfl)) fun _=>?_)|(refine Zfm (l:=1000) (β:=Mv) (f:=cMv) (cmp:=GG) (rows:=a.moves) ZcQ Z0 dC (fun _=>rfl) ζz ZcO ZcP (fun x y M W u v _ _ hu hv=>ζA x y M W u v hu hv) h0 oM rfl rfl (Xa rfl) rfl (call188) rfl rfl rfl (fun rows' hperm hord=>?_);refine Zt (ZL (l:=1000) (p':= .own 93 3 rows'.length (rows'.flatMap cMv)) rfl (by rw [hperm.length_eq])) fun _=>?_))<;>refine Zc ?_)<;>(
 (refine Zv ?_<;>refine xL 7 (Zd 1 Zw) ?_<;>(refine yL 8 (Zj 1 ZA) fun v8 h=>?_;cases h)<;>(refine WN [(1000,hM,PV.own 93 3 rows'.length (rows'.flatMap cMv)),(1,_,_),(2,_,_)] ⟨rfl,rfl,rfl,trivial⟩ ?_;refine JM [1,2] 9 (call189) (Zdc rows' (by have:=hperm.length_eq;omega) hord hM hMo) ?_;rintro v9 _ _ ⟨hv9,rfl,rfl⟩;refine Zt (ZL (l:=1000) (p':= .own 93 3 (mkM a.moves).length ((mkM a.moves).flatMap cMv)) rfl (by rw [Zmg hperm])) fun _=>?_;have hone9:En.one (PV.val v9)=true:=hv9)<;>refine xL 10 (Zd 1 Zw) ?_<;>refine YM 1 ZA YB ?_<;>refine Zc ?_)
 refine Zs (Z6 (l:=1) (l':=1000) (j:=4) rfl rfl rfl rfl) fun _=>?_;rw [Kj _ _ _ rfl];(refine Zv ?_<;>(refine yL 11 (Zu 1 Zh) fun v11 h=>?_;cases h)<;>(refine cP 12 (cA call132 hr) (fun va12 vb12 hva12 hvb12=>?_) (hsh:=h5.t E);cases hvb12)<;>refine xL 13 Zk (xL 14 Zk ?_)<;>refine ZD 2 Zh ?_<;>refine xL 3 Za ?_<;>refine Zc ?_)
 exact Hg (k:=5) 2 [] kR (results137) rfl rfl rfl (Xa rfl) dC h5.s trivial fun V=>⟨⟨V,rfl⟩,rfl,rfl⟩)
theorem Lj {x y X Y:Int} (hx:0≤x∧x≤X) (hy:0≤y∧y≤Y):0≤x*y∧x*y≤X*Y:=⟨Int.mul_nonneg hx.1 hy.1,Int.mul_le_mul hx.2 hy.2 hy.1 oM⟩
def OY (m:Int) (x:Mv) (j:Nat):List Mv:=(List.range j).map fun j=>⟨x.src*m+(j:Nat),x.dst*m+(j:Nat),x.sym⟩
theorem Zhu (m:Int) (x:Mv) (j:Nat):OY m x (j+1)=OY m x j++[⟨x.src*m+(j:Nat),x.dst*m+(j:Nat),x.sym⟩]:=by unfold OY;rw [V9,Xu];rfl
def OZ (m:Int) (x:Mv) (i:Nat):List Mv:=(List.range i).map fun i=>⟨(i:Nat)*m+x.src,(i:Nat)*m+x.dst,x.sym⟩
theorem Zhv (m:Int) (x:Mv) (i:Nat):OZ m x (i+1)=OZ m x i++[⟨(i:Nat)*m+x.src,(i:Nat)*m+x.dst,x.sym⟩]:=by unfold OZ;rw [V9,Xu];rfl
def smA (a b:Aut) (k:Nat):List Mv:=(a.moves.take k).flatMap (shL b.n)
def smB (a b:Aut) (k:Nat):List Mv:=a.moves.flatMap (shL b.n)++(b.moves.take k).flatMap (shR a.n b.n)
theorem Zke {a b:Aut} {k:Nat} {x:Mv} (h:a.moves[k]? =some x):smA a b (k+1)=smA a b k++OY b.n x b.n.toNat:=by unfold smA;rw [ZT h,XN,VM];rfl
theorem Zkf {a b:Aut} {k:Nat} {x:Mv} (h:b.moves[k]? =some x):smB a b (k+1)=smB a b k++OZ b.n x a.n.toNat:=by unfold smB;rw [ZT h,XN,VM,Xy];rfl
theorem Zmi {a b:Aut} {k:Nat} (h:a.moves.length≤k):smA a b k=smB a b 0:=by unfold smA smB;rw [Xk h];exact (Xq _).symm
theorem Zmj {a b:Aut} {k:Nat} (h:b.moves.length≤k):smB a b k=(Wh a b).moves:=by unfold smB;rw [Xk h];rfl
theorem Oe (a b:Aut):(Wh a b).moves.length=a.moves.length*b.n.toNat+b.moves.length*a.n.toNat:=by
 show (a.moves.flatMap (shL b.n)++b.moves.flatMap (shR a.n b.n)).length=_
 rw [Xc,flat_len (Hq b.n),flat_len (ZaU a.n b.n)]
theorem Zkg {a b:Aut} {k j:Nat} (x:Mv) (hk:k<a.moves.length) (hj:j≤b.n.toNat):(smA a b k++OY b.n x j).length≤(Wh a b).moves.length:=by
 rw [Oe]
 unfold smA OY
 rw [Xc,flat_len (Hq b.n),Xo,Xe,Uk,X3 (Nat.le_of_lt hk)]
 have h1:(k+1)*b.n.toNat≤a.moves.length*b.n.toNat:=Vs _ hk
 rw [X5] at h1
 omega
theorem Zkh {a b:Aut} {k i:Nat} (x:Mv) (hk:k<b.moves.length) (hi:i≤a.n.toNat):(smB a b k++OZ b.n x i).length≤(Wh a b).moves.length:=by
 rw [Oe]
 unfold smB OZ
 rw [Xc,Xc,flat_len (Hq b.n),flat_len (ZaU a.n b.n),Xo,Xe,Uk,X3 (Nat.le_of_lt hk)]
 have h1:(k+1)*a.n.toNat≤b.moves.length*a.n.toNat:=Vs _ hk
 rw [X5] at h1
 omega
theorem Zdd {m:Int} {l k:List Int} {i:Nat} {x:Int} (h:l[i]? =some x):shI m (l.take (i+1)) k=shI m (l.take i) k++YW (x*m) k:=by unfold shI;rw [ZT h,XN,VM]
theorem Zf6 (m:Int) (l k:List Int):(shI m l k).length=l.length*k.length:=flat_len (fun x=>KU _ _) l
theorem Za5 (a b:Aut) (e:Int) (he:¬e=0) (hf:AF prog 120 [ZN a,ZN b] (· =pInt e)):AF prog 89 [ZN a,ZN b] (· = .tup [KS,pInt e]):=by
 refine AF.of_body 162 func89 rfl ntmps89 (Xa rfl) ?_
 intro w0 M0 vs hl hv
 obtain ⟨v0,v1,rfl⟩:=YG hl
 clear hl hv
 refine Ze ?_
 (refine ZC 2 5 fun h2=>?_<;>refine ZC 3 5 fun h3=>?_<;>refine Zx [(.int .i64 0),(.int .i64 0),(.slice none 0 0),(.slice none 0 0),(.slice none 0 0)] 5 4 ZJ fun h4=>?_<;>refine xL 5 Za ?_<;>refine Zi ?_)
 ((refine yL 20 (Zu 2 Zh) fun v20 h=>?_;cases h)<;>(refine yL 21 (Zu 3 Zh) fun v21 h=>?_;cases h)<;>(refine cS 22 (cA call120 (hf)) fun v22 h=>?_;cases h)<;>refine xL 6 Za ?_<;>refine Zi ?_)
 (refine xL 23 Zb (xL 24 Yx ?_)<;>refine Zc ?_)
 refine cX ?_ ?_<;>intro hb24
 · refine Ze ?_;(refine xL 25 (ZM ZU) (xL 26 Zb ?_)<;>refine ZD 4 Zh ?_<;>refine xL 5 Za ?_<;>refine Zc ?_)
   exact Z2 (k:=5) 4 kR (results89) rfl rfl rfl (Xa rfl) dC rfl rfl
 · exact UT (by simpa using hb24) he
set_option maxHeartbeats 8000000 in
theorem E3 (a b : Aut) (hf0:WH a b=0) {p0 p1 p2 p3 p4:PV} {E:Int} (r5:R5 p0 p1 p2 p3 p4) (hr:(Wh a b).moves.length≤40000→AF prog 132 [ZN (mkA (Wh a b))] (· = .tup [.agg [p0,p1,p2,p3,p4],pInt E])):AF prog 89 [ZN a,ZN b] (· =if 2000<a.n*b.n∨40000<(a.moves.length:Int)*b.n+(b.moves.length:Int)*a.n then .tup [KS,pInt 13] else .tup [.agg [p0,p1,p2,p3,p4],pInt E]):=by
 obtain ⟨o0,o1,o2,o3,o4⟩:=r5.o
 obtain ⟨ha,hb,hs⟩:=Jk hf0
 have hf:=Pd a b
 rw [hf0] at hf
 have hn0:=ha.n0
 have hn1:=ha.n1
 have m0:=hb.n0
 have m1:=hb.n1
 have k1:=ha.sl
 have k2:=hb.sl
 have k3:=ha.fl
 have k4:=hb.fl
 have k5:=ha.ml
 have k6:=hb.ml
 have q1:=Lj (x:=a.n) (y:=b.n) ⟨hn0,hn1⟩ ⟨m0,m1⟩
 have q2:=Lj (x:=(a.moves.length:Int)) (y:=b.n) (X:=20000) ⟨oM,oM⟩ ⟨m0,m1⟩
 have q3:=Lj (x:=(b.moves.length:Int)) (y:=a.n) (X:=20000) ⟨oM,oM⟩ ⟨hn0,hn1⟩
 have eN:((a.n.toNat:Nat):Int)=a.n:=X1 hn0
 have eM:((b.n.toNat:Nat):Int)=b.n:=X1 m0
 have q4:(((Wh a b).moves.length:Nat):Int)=(a.moves.length:Int)*b.n+(b.moves.length:Int)*a.n:=by
  rw [Oe,Int.natCast_add,Vy,Vy,eN,eM]
 refine AF.of_body 162 func89 rfl ntmps89 (Xa rfl) ?_
 intro w0 M0 vs hl hv
 obtain ⟨v0,v1,rfl⟩:=YG hl
 clear hl hv
 refine Ze ?_
 (refine ZC 2 5 fun h2=>?_<;>refine ZC 3 5 fun h3=>?_<;>refine Zx [(.int .i64 0),(.int .i64 0),(.slice none 0 0),(.slice none 0 0),(.slice none 0 0)] 5 4 ZJ fun h4=>?_<;>refine xL 5 Za ?_<;>refine Zi ?_)
 ((refine yL 20 (Zu 2 Zh) fun v20 h=>?_;cases h)<;>(refine yL 21 (Zu 3 Zh) fun v21 h=>?_;cases h)<;>(refine cS 22 (cA call120 (hf)) fun v22 h=>?_;cases h)<;>refine xL 6 Za ?_<;>refine Zi ?_)
 (refine xL 23 Zb (xL 24 Yx ?_)<;>refine Zc ?_)
 refine cX ?_ ?_<;>intro hb24
 · first|omega|exact UT rfl hb24|exact bN hb24
 · refine nav ?_;(refine ZY (fun i=>([]:List Nat).elem i) [2,3] kR ?_<;>refine xD 0 27 rfl (Zd 2 ZQ) ?_<;>(refine yD 1 28 rfl (Zj 2 Zg) fun v28 h=>?_;cases h)<;>refine xD 2 29 rfl (Zd 3 ZQ) ?_<;>(refine yD 3 30 rfl (Zj 3 Zg) fun v30 h=>?_;cases h)<;>refine xE 4 7 rfl Za ?_<;>refine xE 5 8 rfl Za ?_<;>refine Yr kR (nav ?_)<;>try dsimp only)
   (refine Zv ?_ <;> refine xL 31 Zb (xL 32 Zb (xL 33 Ju (xL 34 Yw (xL 35 Zb ?_))))<;>(refine bLd 35 (fun hb35=>?_) (fun hb35=>?_)<;>(first|refine kL 36 ?_|refine xL 36 (Zd 2 Zw) ?_))<;>(first|refine kL 37 ?_|(refine yL 37 (Zj 2 ZA) fun v37 h=>?_;cases h))<;>(first|refine kL 38 ?_|refine xL 38 (ZR ZF) ?_)<;>(first|refine kL 39 ?_|refine xL 39 Zb ?_)<;>(first|refine kL 40 ?_|refine xL 40 Ju ?_)<;>(first|refine kL 41 ?_|refine xL 41 (Zd 3 Zw) ?_)<;>(first|refine kL 42 ?_|(refine yL 42 (Zj 3 ZA) fun v42 h=>?_;cases h))<;>(first|refine kL 43 ?_|refine xL 43 (ZR ZF) ?_)<;>(first|refine kL 44 ?_|refine xL 44 Zb ?_)<;>(first|refine kL 45 ?_|refine xL 45 Ju ?_)<;>(first|refine kL 46 ?_|refine xL 46 ZH ?_)<;>(first|refine kL 47 ?_|refine xL 47 Yw ?_)<;>refine xL 48 ZG ?_<;>refine Zc ?_)<;>(
 refine cX ?_ ?_<;>intro hb48
 · first|exact bN hb48|(
 refine Ze ?_;(refine xL 49 (ZM ZU) ?_<;>refine ZD 4 Zh ?_<;>refine xL 5 Za ?_<;>refine Zc ?_)
 exact Z2 (k:=5) 4 kR (results89) rfl rfl rfl (Xa rfl) dC rfl (by rw [US oM];rfl))
 · first | exact bN hb48|(
 refine nav ?_;have hnl:¬2000<a.n*b.n∧(Wh a b).moves.length≤40000:=oM;have hr:=hr hnl.2;have hnm:=hnl.1;have hml:=hnl.2;(refine Zv ?_<;>refine xL 50 Zb (xL 51 Zb (xL 52 Ju (xL 53 (Zd 2 Z3) ?_)))<;>(refine yL 54 (Zj 2 Zg) fun v54 h=>?_;cases h)<;>refine xL 55 (ZM ZU) ?_<;>refine Zx [(.int .i64 0),(.int .i64 0),(.slice none 0 0),(.slice none 0 0),(.slice none 0 0)] 5 9 ZJ fun h9=>?_<;>refine ZD 9 Zh ?_<;>refine Zc ?_)
 refine Zs (WY (l:=9) [pInt (a.n*b.n),pInt a.syms, .own 3 1 0 [], .own 3 1 0 [], .own 93 3 0 []] rfl rfl (fun i p p' h1 h2=>by
  match i with
  |0=>cases h1;cases h2;exact .inl rfl
  |1=>cases h1;cases h2;exact .inl rfl
  |2=>cases h1;cases h2;exact .inr ⟨rfl,_,_,rfl⟩
  |3=>cases h1;cases h2;exact .inr ⟨rfl,_,_,rfl⟩
  |4=>cases h1;cases h2;exact .inr ⟨rfl,_,_,rfl⟩
  |i+5=>simp at h2)) fun _=>?_
 refine Zs (Ws (l:=9) (l':=302) (j:=2) rfl rfl rfl rfl) fun i=>?_;obtain ⟨v302,ho302⟩:=i;dsimp only [List.set];refine Zs (Ws (l:=9) (l':=303) (j:=3) rfl rfl rfl rfl) fun i=>?_;obtain ⟨v303,ho303⟩:=i;dsimp only [List.set];refine Zs (Ws (l:=9) (l':=1000) (j:=4) rfl rfl rfl rfl) fun i=>?_;obtain ⟨v1000,ho1000⟩:=i;dsimp only [List.set];have qo2:En.one (PV.val v302)=true:=ho302;have qo3:En.one (PV.val v303)=true:=ho303;refine Zs (ZL (l:=1000) (p':= .own 93 3 (smA a b 0).length ((smA a b 0).flatMap cMv)) rfl rfl) fun _=>?_;(refine Zv ?_<;>refine xL 56 (Zd 2 Zw) ?_<;>(refine yL 57 (Zj 2 ZA) fun v57 h=>?_;cases h)<;>refine xL 58 (ZR ZF) (xL 59 Zb ?_)<;>refine Zc ?_)
 refine ZB (ι:={q:Nat×Value//q.1≤a.moves.length∧q.2.oneCell'=true}) (fun k=>⟨[(2,_,_),(3,_,_),(4,_,_),(7,_,_),(8,_,_),(9,_,_),(57,_,_),(58,_,_),(59, .int .i64 k.1.1,pInt k.1.1)],[(2,_,_),(3,_,_),(4,_,_),(302,_,_),(303,_,_),(9,h9, .own 39 5 1 [pInt (a.n*b.n),pInt a.syms, .val v302, .val v303, .val k.1.2]),(1000,k.1.2, .own 93 3 (smA a b k.1.1).length ((smA a b k.1.1).flatMap cMv))]⟩) (fun k=>a.moves.length-k.1.1) ⟨(0,v1000),Xd _,ho1000⟩ (fun a w H=>H.weaken ⟨rfl,rfl,rfl,rfl,rfl,rfl,rfl,rfl,rfl,trivial⟩ ⟨rfl,rfl,rfl,rfl,rfl,rfl,rfl,trivial⟩) ?_;rintro ⟨⟨c,hI⟩,hc,hIo⟩;dsimp only;dsimp only at hc hIo;have q5:En.one (PV.val hI)=true:=hIo;refine Ze ?_;(refine xL 60 ZP ?_<;>refine Zc ?_)
 refine cX ?_ ?_<;>intro hb60
 · first |exact bN hb60|(
 obtain ⟨x,hx⟩:=Zq (show c<a.moves.length by omega);have e1:=Yh Z0 a.moves c x hx;have e2:=YA Z0 hx;have hxb:=ha.mv x (Xb hx);have hx1:=Lj (x:=x.src) (y:=b.n) (X:=2000) ⟨hxb.1,oM⟩ ⟨m0,m1⟩;have hx2:=Lj (x:=x.dst) (y:=b.n) (X:=2000) ⟨hxb.2.2.1,oM⟩ ⟨m0,m1⟩;refine Ze ?_;(refine xL 61 (ZI ZF) ?_<;>(refine yL 62 (Y' ZW) fun v62 h=>?_;cases h)<;>refine Zx [(.int .i64 0),(.int .i64 0),(.int .i64 0)] 3 11 Ke fun h11=>?_<;>refine ZD 11 ZW ?_<;>refine Zi ?_)
 (refine xL 63 Zb (xL 64 Zb ?_)<;>refine Zc ?_)
 refine Zs (ZL (l:=1000) (p':= .own 93 3 (smA a b c++OY b.n x 0).length ((smA a b c++OY b.n x 0).flatMap cMv)) rfl (by rw [show OY b.n x 0=[] from rfl,Xq])) fun _=>?_;refine ZB (ι:={q:Nat×Value//q.1≤b.n.toNat∧q.2.oneCell'=true}) (fun k=>⟨[(2,_,_),(3,_,_),(4,_,_),(7,_,_),(8,_,_),(9,_,_),(11,_,_),(57,_,_),(58,_,_),(59,_,_),(63,_,_),(64, .int .i64 k.1.1,pInt k.1.1)],[(2,_,_),(3,_,_),(4,_,_),(11,_,_),(302,_,_),(303,_,_),(9,h9, .own 39 5 1 [pInt (a.n*b.n),pInt a.syms, .val v302, .val v303, .val k.1.2]),(1000,k.1.2, .own 93 3 (smA a b c++OY b.n x k.1.1).length ((smA a b c++OY b.n x k.1.1).flatMap cMv))]⟩) (fun k=>b.n.toNat-k.1.1) ⟨(0,hI),Xd _,hIo⟩ (fun a w H=>H.weaken ⟨rfl,rfl,rfl,rfl,rfl,rfl,rfl,rfl,rfl,rfl,rfl,rfl,trivial⟩ ⟨rfl,rfl,rfl,rfl,rfl,rfl,rfl,rfl,trivial⟩) ?_;rintro ⟨⟨j,hJ⟩,hj,hJo⟩;dsimp only;dsimp only at hj hJo;have q6:En.one (PV.val hJ)=true:=hJo;have hpt:=Zkg x (Zf hx) hj;refine Ze ?_;(refine xL 65 ZP ?_<;>refine Zc ?_)
 refine cX ?_ ?_<;>intro hb65
 · first|exact bN hb65|(
 refine Ze ?_;(refine xL 66 Zb (xL 12 Za ?_)<;>refine Zi ?_)
 (refine xL 67 (Zd 9 Zw) ?_<;>(refine yL 68 (Zj 9 ZA) fun v68 h=>?_;cases h)<;>refine xL 69 (Zd 11 Yb) ?_<;>(refine yL 70 (Zj 11 Zg) fun v70 h=>?_;cases h)<;>refine xL 71 Zb (xL 72 Ju (xL 73 Zb (xL 74 ZH (xL 75 (Zd 11 Yg) ?_))))<;>(refine yL 76 (Zj 11 Zg) fun v76 h=>?_;cases h)<;>refine xL 77 Zb (xL 78 Ju (xL 79 Zb (xL 80 ZH (xL 81 (Zd 11 Yk) ?_))))<;>(refine yL 82 (Zj 11 Zg) fun v82 h=>?_;cases h)<;>refine xL 83 (ZM YX) ?_<;>refine YD 84 ZS fun h84 ho84=>?_<;>(refine Z1 1000 84 85 ZS fun h85 ho85=>?_;refine Zt (ZE (l:=85) 1000 rfl rfl) fun _=>?_;refine Zt (ZL (l:=1000) rfl ((WO _ (smA a b c++OY b.n x j) ⟨x.src*b.n+(j:Nat),x.dst*b.n+(j:Nat),x.sym⟩).trans (by rw [Xy,←Zhu]))) fun _=>?_;have q85:En.one (PV.val h85)=true:=ho85)<;>refine xL 86 (Zd 9 Zw) ?_<;>refine YM 9 ZA YB ?_<;>refine Zi ?_)
 (refine xL 87 ZH (xL 64 Zb ?_)<;>refine Zc ?_)
 refine Zm (
  ⟨(j+1,h85),by dsimp only;omega,ho85⟩
  ) (by dsimp only;omega) ⟨rfl,rfl,rfl,rfl,rfl,rfl,rfl,rfl,rfl,rfl,rfl,rfl,trivial⟩ ⟨rfl,rfl,rfl,rfl,rfl,rfl,rfl,rfl,trivial⟩)
 · first|exact bN hb65|(
 refine Zs (ZL (l:=1000) (p':= .own 93 3 (smA a b (c+1)).length ((smA a b (c+1)).flatMap cMv)) rfl (by rw [show smA a b c++OY b.n x j=smA a b (c+1) by rw [Zke hx,show j=b.n.toNat by omega]])) fun _=>?_;refine Ze ?_;(refine xL 88 ZH (xL 59 Zb ?_)<;>refine Zc ?_)
 refine Zm (
  ⟨(c+1,hJ),Zf hx,hJo⟩
  ) (by dsimp only;omega) ⟨rfl,rfl,rfl,rfl,rfl,rfl,rfl,rfl,rfl,trivial⟩ ⟨rfl,rfl,rfl,rfl,rfl,rfl,rfl,trivial⟩))
 · first | exact bN hb60|(
 rw [Zmi (show a.moves.length≤c by omega)];refine Ze ?_;(refine xL 89 (Zd 3 Zw) ?_<;>(refine yL 90 (Zj 3 ZA) fun v90 h=>?_;cases h)<;>refine xL 91 (ZR ZF) (xL 92 Zb ?_)<;>refine Zc ?_)
 refine ZB (ι:={q:Nat×Value//q.1≤b.moves.length∧q.2.oneCell'=true}) (fun k=>⟨[(2,_,_),(3,_,_),(4,_,_),(7,_,_),(8,_,_),(9,_,_),(90,_,_),(91,_,_),(92, .int .i64 k.1.1,pInt k.1.1)],[(2,_,_),(3,_,_),(4,_,_),(302,_,_),(303,_,_),(9,h9, .own 39 5 1 [pInt (a.n*b.n),pInt a.syms, .val v302, .val v303, .val k.1.2]),(1000,k.1.2, .own 93 3 (smB a b k.1.1).length ((smB a b k.1.1).flatMap cMv))]⟩) (fun k=>b.moves.length-k.1.1) ⟨(0,hI),Xd _,hIo⟩ (fun a w H=>H.weaken ⟨rfl,rfl,rfl,rfl,rfl,rfl,rfl,rfl,rfl,trivial⟩ ⟨rfl,rfl,rfl,rfl,rfl,rfl,rfl,trivial⟩) ?_;rintro ⟨⟨u,hU⟩,hu,hUo⟩;dsimp only;dsimp only at hu hUo;have q7:En.one (PV.val hU)=true:=hUo;refine Ze ?_;(refine xL 93 ZP ?_<;>refine Zc ?_)
 refine cX ?_ ?_<;>intro hb93
 · first |exact bN hb93|(
 obtain ⟨y,hy⟩:=Zq (show u<b.moves.length by omega);have e3:=Yh Z0 b.moves u y hy;have e4:=YA Z0 hy;have hyb:=hb.mv y (Xb hy);refine Ze ?_;(refine xL 94 (ZI ZF) ?_<;>(refine yL 95 (Y' ZW) fun v95 h=>?_;cases h)<;>refine Zx [(.int .i64 0),(.int .i64 0),(.int .i64 0)] 3 14 Ke fun h14=>?_<;>refine ZD 14 ZW ?_<;>refine Zi ?_)
 (refine xL 96 Zb (xL 97 Zb ?_)<;>refine Zc ?_)
 refine Zs (ZL (l:=1000) (p':= .own 93 3 (smB a b u++OZ b.n y 0).length ((smB a b u++OZ b.n y 0).flatMap cMv)) rfl (by rw [show OZ b.n y 0=[] from rfl,Xq])) fun _=>?_;refine ZB (ι:={q:Nat×Value//q.1≤a.n.toNat∧q.2.oneCell'=true}) (fun k=>⟨[(2,_,_),(3,_,_),(4,_,_),(7,_,_),(8,_,_),(9,_,_),(14,_,_),(90,_,_),(91,_,_),(92,_,_),(96,_,_),(97, .int .i64 k.1.1,pInt k.1.1)],[(2,_,_),(3,_,_),(4,_,_),(14,_,_),(302,_,_),(303,_,_),(9,h9, .own 39 5 1 [pInt (a.n*b.n),pInt a.syms, .val v302, .val v303, .val k.1.2]),(1000,k.1.2, .own 93 3 (smB a b u++OZ b.n y k.1.1).length ((smB a b u++OZ b.n y k.1.1).flatMap cMv))]⟩) (fun k=>a.n.toNat-k.1.1) ⟨(0,hU),Xd _,hUo⟩ (fun a w H=>H.weaken ⟨rfl,rfl,rfl,rfl,rfl,rfl,rfl,rfl,rfl,rfl,rfl,rfl,trivial⟩ ⟨rfl,rfl,rfl,rfl,rfl,rfl,rfl,rfl,trivial⟩) ?_;rintro ⟨⟨i,hV⟩,hi,hVo⟩;dsimp only;dsimp only at hi hVo;have q8:En.one (PV.val hV)=true:=hVo;have hpt2:=Zkh y (Zf hy) hi;have hx3:=Lj (x:=(i:Int)) (y:=b.n) (X:=2000) ⟨oM,oM⟩ ⟨m0,m1⟩;refine Ze ?_;(refine xL 98 ZP ?_<;>refine Zc ?_)
 refine cX ?_ ?_<;>intro hb98
 · first|exact bN hb98|(
 refine Ze ?_;(refine xL 99 Zb (xL 15 Za ?_)<;>refine Zi ?_)
 (refine xL 100 (Zd 9 Zw) ?_<;>(refine yL 101 (Zj 9 ZA) fun v101 h=>?_;cases h)<;>refine xL 102 Zb (xL 103 Zb (xL 104 Ju (xL 105 (Zd 14 Yb) ?_)))<;>(refine yL 106 (Zj 14 Zg) fun v106 h=>?_;cases h)<;>refine xL 107 ZH (xL 108 Zb (xL 109 Zb (xL 110 Ju (xL 111 (Zd 14 Yg) ?_))))<;>(refine yL 112 (Zj 14 Zg) fun v112 h=>?_;cases h)<;>refine xL 113 ZH (xL 114 (Zd 14 Yk) ?_)<;>(refine yL 115 (Zj 14 Zg) fun v115 h=>?_;cases h)<;>refine xL 116 (ZM YX) ?_<;>refine YD 117 ZS fun h117 ho117=>?_<;>(refine Z1 1000 117 118 ZS fun h118 ho118=>?_;refine Zt (ZE (l:=118) 1000 rfl rfl) fun _=>?_;refine Zt (ZL (l:=1000) rfl ((WO _ (smB a b u++OZ b.n y i) ⟨(i:Nat)*b.n+y.src,(i:Nat)*b.n+y.dst,y.sym⟩).trans (by rw [Xy,←Zhv]))) fun _=>?_;have q118:En.one (PV.val h118)=true:=ho118)<;>refine xL 119 (Zd 9 Zw) ?_<;>refine YM 9 ZA YB ?_<;>refine Zi ?_)
 (refine xL 120 ZH (xL 97 Zb ?_)<;>refine Zc ?_)
 refine Zm (
  ⟨(i+1,h118),by dsimp only;omega,ho118⟩
  ) (by dsimp only;omega) ⟨rfl,rfl,rfl,rfl,rfl,rfl,rfl,rfl,rfl,rfl,rfl,rfl,trivial⟩ ⟨rfl,rfl,rfl,rfl,rfl,rfl,rfl,rfl,trivial⟩)
 · first|exact bN hb98|(
 refine Zs (ZL (l:=1000) (p':= .own 93 3 (smB a b (u+1)).length ((smB a b (u+1)).flatMap cMv)) rfl (by rw [show smB a b u++OZ b.n y i=smB a b (u+1) by rw [Zkf hy,show i=a.n.toNat by omega]])) fun _=>?_;refine Ze ?_;(refine xL 121 ZH (xL 92 Zb ?_)<;>refine Zc ?_)
 refine Zm (
  ⟨(u+1,hV),Zf hy,hVo⟩
  ) (by dsimp only;omega) ⟨rfl,rfl,rfl,rfl,rfl,rfl,rfl,rfl,rfl,trivial⟩ ⟨rfl,rfl,rfl,rfl,rfl,rfl,rfl,trivial⟩))
 · first | exact bN hb93|(
 rw [Zmj (show b.moves.length≤u by omega)];refine Ze ?_;(refine xL 122 (Zd 2 Z4) ?_<;>(refine yL 123 (Zj 2 Zz) fun v123 h=>?_;cases h)<;>refine xL 124 (ZR Zp) (xL 125 Zb ?_)<;>refine Zc ?_)
 refine Zs (ZL (l:=302) (p':= .own 3 1 (shI b.n (a.start.take 0) b.start).length ((shI b.n (a.start.take 0) b.start).map pInt)) rfl rfl) fun _=>?_;refine ZB (ι:={q:Nat×Value//q.1≤a.start.length∧q.2.oneCell'=true}) (fun k=>⟨[(2,_,_),(3,_,_),(4,_,_),(7,_,_),(8,_,_),(9,_,_),(123,_,_),(124,_,_),(125, .int .i64 k.1.1,pInt k.1.1)],[(2,_,_),(3,_,_),(4,_,_),(303,_,_),(1000,_,_),(9,h9, .own 39 5 1 [pInt (a.n*b.n),pInt a.syms, .val k.1.2, .val v303, .val hU]),(302,k.1.2, .own 3 1 (shI b.n (a.start.take k.1.1) b.start).length ((shI b.n (a.start.take k.1.1) b.start).map pInt))]⟩) (fun k=>a.start.length-k.1.1) ⟨(0,v302),Xd _,ho302⟩ (fun a w H=>H.weaken ⟨rfl,rfl,rfl,rfl,rfl,rfl,rfl,rfl,rfl,trivial⟩ ⟨rfl,rfl,rfl,rfl,rfl,rfl,rfl,trivial⟩) ?_;rintro ⟨⟨s,hS⟩,hs',hSo⟩;dsimp only;dsimp only at hs' hSo;have q9:En.one (PV.val hS)=true:=hSo;(have hSl:(shI b.n (a.start.take s) b.start).length≤2000*2000:=by rw [Zf6,Xo];exact VD oM k2);refine Ze ?_;(refine xL 126 ZP ?_<;>refine Zc ?_)
 refine cX ?_ ?_<;>intro hb126
 · first|exact bN hb126|(
 obtain ⟨z,hz⟩:=Zq (show s<a.start.length by omega);have e5:=Z7 (f:=pInt) hz;have hzb:=ha.st z (Xb hz);have hz1:=Lj (x:=z) (y:=b.n) (X:=a.n) (Y:=b.n) ⟨hzb.1,oM⟩ ⟨m0,VT _⟩;have hal:=KU (z*b.n) b.start;refine Ze ?_;(refine xL 127 (ZI Zp) ?_<;>(refine yL 128 (Ya Zg) fun v128 h=>?_;cases h)<;>refine xL 17 Za ?_<;>refine Zc ?_)
 (refine ZY (fun i=>([10]:List Nat).elem i) [3,9] kR ?_<;>refine xD 0 129 rfl (Zd 9 Z4) ?_<;>(refine yD 1 130 rfl (Zj 9 Zz) fun v130 h=>?_;cases h)<;>refine xD 2 131 rfl (Zd 3 Z4) ?_<;>(refine yD 3 132 rfl (Zj 3 Zz) fun v132 h=>?_;cases h)<;>refine xD 4 133 rfl Zb ?_<;>refine xE 5 134 rfl Zb ?_<;>refine xE 6 135 rfl Ju ?_<;>(refine Zr 7 kR ?_)<;>(refine Zo rfl fun w9 M9 N9 DQ back=>?_)<;>(refine cO 136 (cA call136 (Li b.start (z*b.n) oM oM (fun x hx=>by have:=hb.st x hx;omega))) fun v136 ho136=>?_;refine Zt (En.freeze (l:=136) (t:=136) rfl rfl) fun _=>?_;rw [ZV _ _ _ rfl])<;>refine Zl (back _ (nrm ?_))<;>(refine Zr 8 kR ?_)<;>(refine Zo rfl fun w9 M9 N9 DQ back=>?_)<;>(refine Kc 302 137 Zn (fun h137 ho137=>?_) (JE (YW (z*b.n) b.start)) (Gz (YW (z*b.n) b.start));have q137:En.one (PV.val h137)=true:=ho137;refine Zt (ZE (l:=137) 302 rfl rfl) fun _=>?_;refine Zt (ZL (l:=302) rfl ((Tj _ (shI b.n (a.start.take s) b.start) (YW (z*b.n) b.start)).trans (by rw [←Zdd hz]))) fun _=>?_)<;>refine Zl (back _ (nrm ?_))<;>refine xE 9 138 rfl (Zd 9 Z4) ?_<;>(refine Zr 10 kR ?_)<;>(refine Ko rfl rfl kR fun DQ back=>?_)<;>refine YM 9 Zz Wd ?_<;>refine Zl (back _ (nav ?_))<;>try dsimp only)
 (refine Zv ?_<;>refine xL 139 ZH (xL 125 Zb ?_)<;>refine Zc ?_)
 refine Zm (
  ⟨(s+1,h137),Zf hz,ho137⟩
  ) (by dsimp only;omega) ⟨rfl,rfl,rfl,rfl,rfl,rfl,rfl,rfl,rfl,trivial⟩ ⟨rfl,rfl,rfl,rfl,rfl,rfl,rfl,trivial⟩)
 · first |exact bN hb126|(
 rw [Xk (show a.start.length≤s by omega)];refine Ze ?_;(refine xL 140 (Zd 2 ZX) ?_<;>(refine yL 141 (Zj 2 Zz) fun v141 h=>?_;cases h)<;>refine xL 142 (ZR Zp) (xL 143 Zb ?_)<;>refine Zc ?_)
 refine Zs (ZL (l:=303) (p':= .own 3 1 (shI b.n (a.fin.take 0) b.fin).length ((shI b.n (a.fin.take 0) b.fin).map pInt)) rfl rfl) fun _=>?_;refine ZB (ι:={q:Nat×Value//q.1≤a.fin.length∧q.2.oneCell'=true}) (fun k=>⟨[(2,_,_),(3,_,_),(4,_,_),(7,_,_),(8,_,_),(9,_,_),(141,_,_),(142,_,_),(143, .int .i64 k.1.1,pInt k.1.1)],[(2,_,_),(3,_,_),(4,_,_),(302,_,_),(1000,_,_),(9,h9, .own 39 5 1 [pInt (a.n*b.n),pInt a.syms, .val hS, .val k.1.2, .val hU]),(303,k.1.2, .own 3 1 (shI b.n (a.fin.take k.1.1) b.fin).length ((shI b.n (a.fin.take k.1.1) b.fin).map pInt))]⟩) (fun k=>a.fin.length-k.1.1) ⟨(0,v303),Xd _,ho303⟩ (fun a w H=>H.weaken ⟨rfl,rfl,rfl,rfl,rfl,rfl,rfl,rfl,rfl,trivial⟩ ⟨rfl,rfl,rfl,rfl,rfl,rfl,rfl,trivial⟩) ?_;rintro ⟨⟨t,hT⟩,ht,hTo⟩;dsimp only;dsimp only at ht hTo;have q10:En.one (PV.val hT)=true:=hTo;(have hTl:(shI b.n (a.fin.take t) b.fin).length≤2000*2000:=by rw [Zf6,Xo];exact VD oM k4);refine Ze ?_;(refine xL 144 ZP ?_<;>refine Zc ?_)
 refine cX ?_ ?_<;>intro hb144
 · first|exact bN hb144|(
 obtain ⟨z2,hz2⟩:=Zq (show t<a.fin.length by omega);have e6:=Z7 (f:=pInt) hz2;have hzb2:=ha.fi z2 (Xb hz2);have hz3:=Lj (x:=z2) (y:=b.n) (X:=a.n) (Y:=b.n) ⟨hzb2.1,oM⟩ ⟨m0,VT _⟩;have hal2:=KU (z2*b.n) b.fin;refine Ze ?_;(refine xL 145 (ZI Zp) ?_<;>(refine yL 146 (Ya Zg) fun v146 h=>?_;cases h)<;>refine xL 19 Za ?_<;>refine Zc ?_)
 (refine ZY (fun i=>([10]:List Nat).elem i) [3,9] kR ?_<;>refine xD 0 147 rfl (Zd 9 ZX) ?_<;>(refine yD 1 148 rfl (Zj 9 Zz) fun v148 h=>?_;cases h)<;>refine xD 2 149 rfl (Zd 3 ZX) ?_<;>(refine yD 3 150 rfl (Zj 3 Zz) fun v150 h=>?_;cases h)<;>refine xD 4 151 rfl Zb ?_<;>refine xE 5 152 rfl Zb ?_<;>refine xE 6 153 rfl Ju ?_<;>(refine Zr 7 kR ?_)<;>(refine Zo rfl fun w9 M9 N9 DQ back=>?_)<;>(refine cO 154 (cA call136 (Li b.fin (z2*b.n) oM oM (fun x hx=>by have:=hb.fi x hx;omega))) fun v154 ho154=>?_;refine Zt (En.freeze (l:=154) (t:=154) rfl rfl) fun _=>?_;rw [ZV _ _ _ rfl])<;>refine Zl (back _ (nrm ?_))<;>(refine Zr 8 kR ?_)<;>(refine Zo rfl fun w9 M9 N9 DQ back=>?_)<;>(refine Kc 303 155 Zn (fun h155 ho155=>?_) (JE (YW (z2*b.n) b.fin)) (Gz (YW (z2*b.n) b.fin));have q155:En.one (PV.val h155)=true:=ho155;refine Zt (ZE (l:=155) 303 rfl rfl) fun _=>?_;refine Zt (ZL (l:=303) rfl ((Tj _ (shI b.n (a.fin.take t) b.fin) (YW (z2*b.n) b.fin)).trans (by rw [←Zdd hz2]))) fun _=>?_)<;>refine Zl (back _ (nrm ?_))<;>refine xE 9 156 rfl (Zd 9 ZX) ?_<;>(refine Zr 10 kR ?_)<;>(refine Ko rfl rfl kR fun DQ back=>?_)<;>refine YM 9 Zz Wd ?_<;>refine Zl (back _ (nav ?_))<;>try dsimp only)
 (refine Zv ?_<;>refine xL 157 ZH (xL 143 Zb ?_)<;>refine Zc ?_)
 refine Zm (
  ⟨(t+1,h155),Zf hz2,ho155⟩
  ) (by dsimp only;omega) ⟨rfl,rfl,rfl,rfl,rfl,rfl,rfl,rfl,rfl,trivial⟩ ⟨rfl,rfl,rfl,rfl,rfl,rfl,rfl,trivial⟩)
 · first|exact bN hb144|(
 rw [Xk (show a.fin.length≤t by omega)];refine nav ?_;refine Zs (Z6 (l:=9) (l':=302) (j:=2) rfl rfl rfl rfl) fun _=>?_;refine Zs (Z6 (l:=9) (l':=303) (j:=3) rfl rfl rfl rfl) fun _=>?_;rw [ZV _ _ _ rfl,ZV _ _ _ rfl];(refine Zv ?_<;>(refine yL 158 (Zu (k:=5) (ps:=[pInt (a.n*b.n),pInt a.syms,pInts (shI b.n a.start b.start),pInts (shI b.n a.fin b.fin),PV.val hU]) 9 kR) fun v158 h=>?_;cases h)<;>(refine WN [(1000,hU,PV.own 93 3 (Wh a b).moves.length ((Wh a b).moves.flatMap cMv)),(2,_,_),(3,_,_),(4,_,_),(9,_,_)] ⟨rfl,rfl,rfl,rfl,rfl,trivial⟩ ?_;refine JM [2,3,4,9] 159 (call137) (Zmh (Wh a b) oM _ hU hUo r5 hr) ?_;rintro _ _ _ ⟨⟨V1,rfl⟩,rfl,rfl⟩)<;>refine xL 160 Zk (xL 161 Zk ?_)<;>refine ZD 4 Zh ?_<;>refine xL 5 Za ?_<;>refine Zc ?_)
 exact Z2 (k:=5) 4 kR (results89) rfl rfl rfl (Xa rfl) dC r5.s (by rw [UR oM];rfl)))))))
theorem Ze2 (a b:Aut):AF prog 89 [ZN a,ZN b] (· =resW (Le a b)):=by
 unfold Le
 by_cases h0:WH a b=0
 · rw [UR (fun h=>h h0)];obtain ⟨ha,hb,hs⟩:=Jk h0;by_cases hl:(Wh a b).moves.length≤40000
   · obtain ⟨p0,p1,p2,p3,p4,E,h5,h2,hr⟩:=TP (Wh a b) oM (P7 ha hb hs);refine (E3 a b h0 h5 fun _=>hr).mono fun p hp=>?_;rw [hp];split
     · rfl
     · exact h2.symm
   · refine (E3 a b h0 R5.raw (E:=13) fun h=>UT h hl).mono fun p hp=>?_;have h1:=ha.n0;have h2:=hb.n0;have q4:(((Wh a b).moves.length:Nat):Int)=(a.moves.length:Int)*b.n+(b.moves.length:Int)*a.n:=by
      rw [Oe,Int.natCast_add,Vy,Vy,X1 h1,X1 h2]
     rw [hp,US (.inr oM),US (.inr oM)];rfl
 · rw [US h0];exact Za5 a b _ h0 (Pd a b)
theorem E4:AggT prog 39 5=true:=by kernel_rfl
theorem ζT:ElT prog 27 9 1 16 (.string ByteArray.empty):=⟨underlying27,by kernel_rfl,rfl,dC⟩
theorem Rm:ElT prog 36 3 1 8 (.int .i64 0):=⟨underlying36,by kernel_rfl,rfl,dC⟩
theorem Zhw:ElT prog 37 93 3 24 (.agg #[(.int .i64 0),(.int .i64 0),(.int .i64 0)]):=⟨underlying37,by kernel_rfl,rfl,dC⟩
theorem DC:FldT prog 24 0 0=true:=by kernel_rfl
theorem Zde:FldT prog 24 1 1=true:=by kernel_rfl
theorem E5:NoAgg prog 3=true:=by kernel_rfl
theorem Zdf:NoAgg prog 9=true:=by kernel_rfl
theorem O0:SlT prog 27 9 1=true:=by kernel_rfl
theorem ζU:SlT prog 36 3 1=true:=by kernel_rfl
theorem ζV:WR prog 39=some ((.agg #[(.int .i64 0),(.int .i64 0),(.slice none 0 0),(.slice none 0 0),(.slice none 0 0)]),([0,1,2,3,4]:List Nat).map fun o=>(o,1)):=by kernel_rfl
theorem Zhx:WR prog 93=some ((.agg #[(.int .i64 0),(.int .i64 0),(.int .i64 0)]),([0,1,2]:List Nat).map fun o=>(o,1)):=by kernel_rfl
theorem ζW:ZeroT prog 39 (.agg #[(.int .i64 0),(.int .i64 0),(.slice none 0 0),(.slice none 0 0),(.slice none 0 0)]):=by unfold ZeroT;kernel_rfl
theorem DZ (x:Option Aut):∃p0 p1 p2 p3 p4 E,R5 p0 p1 p2 p3 p4∧resW (lim x)= .tup [.agg [p0,p1,p2,p3,p4],pInt E]∧((x=none∧E=13)∨∃A,x=some A∧E=0∧p0=pInt A.n∧p1=pInt A.syms∧p2=pInts A.start∧p3=pInts A.fin∧p4=pMvs A.moves):=by
 cases x with
 |none=>exact ⟨_,_,_,_,_,_,R5.raw,rfl, .inl ⟨rfl,rfl⟩⟩
 |some A=>exact ⟨_,_,_,_,_,_,R5.aut A,rfl, .inr ⟨A,rfl,rfl,rfl,rfl,rfl,rfl,rfl⟩⟩
theorem Zdg (e:Nat) (L:List Aut) (x:Aut):PV.own e 5 (L.length+1) (L.flatMap LK++LK x)= .own e 5 (L++[x]).length ((L++[x]).flatMap LK):=sM
theorem E6 (e n:Nat) (l:List Aut) (hn:n=l.length):share (.own e 5 n (l.flatMap LK))= .sl l.length (l.flatMap LK):=by
 subst hn
 rw [share,Yl,Uu];rfl
theorem Zmk (n:Nat):Rr (.agg [pInt 1,pInt n,pInts [0],pInts [0], .val (.slice none 0 0)]) (ZN (Rz n)):=Rr.agg rfl fun i p p' h1 h2=>by
 match i with
 |0=>cases h1;cases h2;exact Rr.rfl' _
 |1=>cases h1;cases h2;exact Rr.rfl' _
 |2=>cases h1;cases h2;exact Rr.rfl' _
 |3=>cases h1;cases h2;exact Rr.rfl' _
 |4=>cases h1;cases h2;exact Rr.nil
 |i+5=>simp at h1
theorem ζX (l:List ByteArray) (s:ByteArray):AF prog 67 [Yv l,Yq s] (· =pInt (Y0 l s)):=by
 refine AF.of_body 8 func67 rfl ntmps67 (Xa rfl) ?_
 intro w0 M0 vs hl hv
 obtain ⟨v0,v1,rfl⟩:=YG hl
 clear hl hv
 refine Ze ?_
 (refine xL 4 Za ?_<;>refine Zi ?_)
 (refine xL 5 Zb (xL 6 Zb ?_)<;>(refine cS 7 (cA call86 (Zby l s)) fun v7 h=>?_;cases h)<;>refine xL 4 Za ?_<;>refine Zc ?_)
 exact Zy results67 rfl rfl
theorem Zki (acts:List ByteArray) {l:List Int} {k:Nat} {i:Int} (h:l[k]? =some i):nmI acts (l.take (k+1))=nmI acts (l.take k)++[(acts[i.toNat]?).getD ByteArray.empty]:=by
 unfold nmI
 rw [ZT h,Xu];rfl
theorem Zml (acts:List ByteArray) (l:List Int):(nmI acts l).length=l.length:=Xe _
theorem ζY (l:List Int) (acts:List ByteArray) (hl:l.length≤1000000) (hin:∀i∈l,0≤i∧i<acts.length):AF prog 53 [pInts l,Yv acts] (· =Yv (nmI acts l)):=by
 refine AF.of_body 23 func53 rfl ntmps53 (Xa rfl) ?_
 intro w0 M0 vs hl hv
 obtain ⟨v0,v1,rfl⟩:=YG hl
 clear hl hv
 refine Ze ?_
 (refine xL 4 Za ?_<;>refine Zi ?_)
 (refine xL 5 Za ?_<;>refine Zi ?_)
 (refine xL 8 Zb (xL 9 (ZR ζU) (xL 10 Zb ?_))<;>refine Zc ?_)
 refine Zs (Jl 200 9 1 rfl) fun _=>?_
 refine ZB (ι:={q:Nat×Value//q.1≤l.length∧q.2.oneCell'=true}) (fun k=>⟨[(0,_,_),(1,_,_),(8,_,_),(9,_,_),(5,k.1.2, .val k.1.2),(10, .int .i64 k.1.1,pInt k.1.1)],[(200,k.1.2, .own 9 1 (nmI acts (l.take k.1.1)).length ((nmI acts (l.take k.1.1)).map Yq))]⟩) (fun k=>l.length-k.1.1) ⟨(0, .slice none 0 0),Xd _,rfl⟩ (fun a w H=>H.weaken ⟨rfl,rfl,rfl,rfl,rfl,rfl,trivial⟩ ⟨rfl,trivial⟩) ?_
 rintro ⟨⟨i,hv⟩,hi,ho⟩
 dsimp only
 dsimp only at hi ho
 refine Ze ?_
 (refine xL 11 ZP ?_<;>refine Zc ?_)
 refine cX ?_ ?_<;>intro hb11
 · first|exact bN hb11|(
 obtain ⟨x,hx⟩:=Zq (show i<l.length by omega);have e1:=Z7 (f:=pInt) hx;have hin:=hin x (Xb hx);obtain ⟨j,rfl⟩:∃j:Nat,x=(j:Int):=⟨x.toNat,oM⟩;obtain ⟨s,hs⟩:=Zq (show j<acts.length by omega);have e2:=Z7 (f:=Yq) hs;(have hlen:(nmI acts (l.take i)).length≤1000000:=by rw [Zml,Xo];omega);have hsn:nmI acts (l.take (i+1))=nmI acts (l.take i)++[s]:=by
  rw [Zki acts hx];show _++[(acts[j]?).getD ByteArray.empty]=_;rw [hs];rfl
 refine Ze ?_;(refine xL 12 (ZI ζU) ?_<;>(refine yL 13 (Ya E5) fun v13 h=>?_;cases h)<;>refine xL 7 Za ?_<;>refine Zi ?_)
 (refine xL 14 Zb (xL 15 Zb (xL 16 Zb (xL 17 (ZI O0) ?_)))<;>(refine yL 18 (Ya Zdf) fun v18 h=>?_;cases h)<;>refine ZO (kk:=1) 19 ζT fun h19 ho19=>?_<;>refine Z1 200 19 20 ζT fun h20 ho20=>?_<;>refine xL 5 Za ?_<;>refine Zi ?_)
 (refine xL 21 ZH (xL 10 Zb ?_)<;>refine Zc ?_)
 refine Kn (ZE (l:=20) 200 rfl rfl) fun _=>?_;rw [show (nmI acts (l.take i)).map Yq++[_]=(nmI acts (l.take (i+1))).map Yq from (by rw [hsn,Xu];rfl),show (nmI acts (l.take i)).length+1=(nmI acts (l.take (i+1))).length by rw [hsn];simp];refine Zm (
  ⟨(i+1,h20),Zf hx,ho20⟩
  ) (by dsimp only;omega) ⟨rfl,rfl,rfl,rfl,rfl,rfl,trivial⟩ ⟨rfl,trivial⟩)
 · first|exact bN hb11|(
 refine nav ?_;rw [Xk (show l.length≤i by omega)];refine Zs (En.freeze (l:=200) (t:=5) rfl rfl) fun _=>?_;rw [Zei];(refine Zv ?_<;>refine xL 22 Zb (xL 4 Za ?_)<;>refine Zc ?_)
 exact Zy results53 rfl rfl)
theorem Zdh (acts:List ByteArray) (a:ByteArray) {p0 p1 p2 p3 p4:PV} {E:Int} (r5:R5 p0 p1 p2 p3 p4) (hm:AF prog 84 [ZN (GJ acts.length (Y0 acts a))] (· = .tup [.agg [p0,p1,p2,p3,p4],pInt E])):AF prog 51 [.agg [pInt 1,Yq a,YZ []],Yv acts] (· = .tup [.agg [p0,p1,p2,p3,p4],pInt E]):=by
 obtain ⟨o0,o1,o2,o3,o4⟩:=r5.o
 refine AF.of_body 130 func51 rfl ntmps51 (Xa rfl) ?_
 intro w0 M0 vs hl hv
 obtain ⟨v0,v1,rfl⟩:=YG hl
 clear hl hv
 refine Ze ?_
 (refine ZC 2 3 fun h2=>?_<;>refine Zx [(.int .i64 0),(.int .i64 0),(.slice none 0 0),(.slice none 0 0),(.slice none 0 0)] 5 4 ζW fun h4=>?_<;>refine xL 5 Za ?_<;>refine Zi ?_)
 (refine xL 18 (Zd 2 DC) ?_<;>(refine yL 19 (Zj 2 E5) fun v19 h=>?_;cases h)<;>refine Zi ?_)
 (refine xL 21 Yd (xL 20 Za ?_)<;>refine Zc ?_)
 refine cX ?_ ?_<;>intro hb20
 · refine Ze ?_;(refine xL 22 Zb (xL 23 (ZR O0) ?_)<;>(refine ZO (kk:=1) 24 Rm fun h24 ho24=>?_;refine Zt (En.freeze (l:=24) (t:=24) rfl rfl) fun _=>?_;refine Zt (Wx (t:=24) (p':=pInts [0]) rfl rfl) fun _=>?_)<;>(refine ZO (kk:=1) 25 Rm fun h25 ho25=>?_;refine Zt (En.freeze (l:=25) (t:=25) rfl rfl) fun _=>?_;refine Zt (Wx (t:=25) (p':=pInts [1]) rfl rfl) fun _=>?_)<;>refine xL 26 Zb (xL 27 (Zd 2 Zde) ?_)<;>(refine yL 28 (Zj 2 Zdf) fun v28 h=>?_;cases h)<;>(refine cS 29 (cA call67 (ζX acts a)) fun v29 h=>?_;cases h)<;>refine xL 30 (ZM Zhx) ?_<;>(refine YD 31 Zhw fun h31 ho31=>?_;refine Zt (En.freeze (l:=31) (t:=31) rfl rfl) fun _=>?_;refine Zt (Wx (t:=31) (p':=pMvs [⟨0,1,Y0 acts a⟩]) rfl rfl) fun _=>?_)<;>refine xL 32 (ZM ζV) ?_<;>(refine cP 33 (cA (call84) hm) (fun va33 vb33 hva33 hvb33=>?_) (hsh:=r5.t E);cases hvb33)<;>refine xL 34 Zk (xL 35 Zk ?_)<;>refine ZD 4 E4 ?_<;>refine xL 5 Za ?_<;>refine Zc ?_)
   exact Z2 (k:=5) 4 kR (results51) rfl rfl rfl (Xa rfl) dC r5.s rfl
 · exact UT rfl hb20
theorem Zdi (acts:List ByteArray) (a:ByteArray) {p0 p1 p2 p3 p4:PV} {E:Int} (r5:R5 p0 p1 p2 p3 p4) (hm:AF prog 84 [ZN (Rz acts.length)] (· = .tup [.agg [p0,p1,p2,p3,p4],pInt E])):AF prog 51 [.agg [pInt 2,Yq a,YZ []],Yv acts] (· = .tup [.agg [p0,p1,p2,p3,p4],pInt E]):=by
 obtain ⟨o0,o1,o2,o3,o4⟩:=r5.o
 refine AF.of_body 130 func51 rfl ntmps51 (Xa rfl) ?_
 intro w0 M0 vs hl hv
 obtain ⟨v0,v1,rfl⟩:=YG hl
 clear hl hv
 refine Ze ?_
 (refine ZC 2 3 fun h2=>?_<;>refine Zx [(.int .i64 0),(.int .i64 0),(.slice none 0 0),(.slice none 0 0),(.slice none 0 0)] 5 4 ζW fun h4=>?_<;>refine xL 5 Za ?_<;>refine Zi ?_)
 (refine xL 18 (Zd 2 DC) ?_<;>(refine yL 19 (Zj 2 E5) fun v19 h=>?_;cases h)<;>refine Zi ?_)
 (refine xL 21 Yd (xL 20 Za ?_)<;>refine Zc ?_)
 refine cX ?_ ?_<;>intro hb20
 · exact UT hb20 dC
 · refine Ze ?_;(refine xL 37 Yd (xL 36 Za ?_)<;>refine Zc ?_)
   refine cX ?_ ?_<;>intro hb36
   · refine Ze ?_;(refine xL 38 Zb (xL 39 (ZR O0) ?_)<;>(refine ZO (kk:=1) 40 Rm fun h40 ho40=>?_;refine Zt (En.freeze (l:=40) (t:=40) rfl rfl) fun _=>?_;refine Zt (Wx (t:=40) (p':=pInts [0]) rfl rfl) fun _=>?_)<;>(refine ZO (kk:=1) 41 Rm fun h41 ho41=>?_;refine Zt (En.freeze (l:=41) (t:=41) rfl rfl) fun _=>?_;refine Zt (Wx (t:=41) (p':=pInts [0]) rfl rfl) fun _=>?_)<;>(refine xL 42 (ZM ζV) ?_;refine Zt (Ziq (t:=42) (p':=ZN (Rz acts.length)) rfl (Zmk acts.length)) fun _=>?_)<;>(refine cP 43 (cA (call84) hm) (fun va43 vb43 hva43 hvb43=>?_) (hsh:=r5.t E);cases hvb43)<;>refine xL 44 Zk (xL 45 Zk ?_)<;>refine ZD 4 E4 ?_<;>refine xL 5 Za ?_<;>refine Zc ?_)
     exact Z2 (k:=5) 4 kR (results51) rfl rfl rfl (Xa rfl) dC r5.s rfl
   · exact UT rfl hb36
theorem Zdj {o:Int} {a:ByteArray} {l:List Nd} (hr:rightT (.mk o a l)=true) (h:o=1):YI (.mk o a l)=[a]:=by
 subst h
 unfold rightT at hr
 simp [Nd.op,Nd.l] at hr
 rw [YI,US rfl,hr.1];rfl
theorem AF.nil0 {P:Program} {f:Nat} {ps:List PV} {R:PV→Prop} (h:AF P f (.sl 0 []::ps) R):AF P f (.val (.slice none 0 0)::ps) R:=fun M w vs hM hl hv=>h M w vs hM hl fun i v p hi hp=>by
 match i with
 | 0=>
   cases hp;have:=(hv 0 v _ hi rfl).vOf
   cases this;exact .emp none 0 (by unfold maxLen;omega) (fun _=>rfl)
 |i+1=>exact hv (i+1) v p hi hp
theorem Ge:AggT prog 24 3=true:=by kernel_rfl
theorem Ye:AggT prog 39 5=true:=by kernel_rfl
theorem TU:ElT prog 122 39 5 88 (.agg #[(.int .i64 0),(.int .i64 0),(.slice none 0 0),(.slice none 0 0),(.slice none 0 0)]):=⟨underlying122,by kernel_rfl,rfl,dC⟩
theorem GA:FldT prog 24 0 0=true:=by kernel_rfl
theorem DD:FldT prog 24 2 2=true:=by kernel_rfl
theorem ζZ:NoAgg prog 22=true:=by kernel_rfl
theorem SP:NoAgg prog 3=true:=by kernel_rfl
theorem Jq:SlT prog 122 39 5=true:=by kernel_rfl
theorem Rn:SlT prog 22 24 3=true:=by kernel_rfl
theorem Tl:WR prog 39=some ((.agg #[(.int .i64 0),(.int .i64 0),(.slice none 0 0),(.slice none 0 0),(.slice none 0 0)]),([0,1,2,3,4]:List Nat).map fun o=>(o,1)):=by kernel_rfl
theorem ζ0:ZeroT prog 24 (.agg #[(.int .i64 0),(.string ByteArray.empty),(.slice none 0 0)]):=by unfold ZeroT;kernel_rfl
theorem JF:ZeroT prog 39 (.agg #[(.int .i64 0),(.int .i64 0),(.slice none 0 0),(.slice none 0 0),(.slice none 0 0)]):=by unfold ZeroT;kernel_rfl
structure PtsOk (acts:List ByteArray) (l:List Nd) (i:Nat) (Ps:List Aut):Prop where
 le:i≤l.length
 eq:(l.take i).map (bldT acts)=Ps.map some
 ok:∀A∈Ps,IsMin A∧A.syms=acts.length
theorem PtsOk.len {acts:List ByteArray} {l:List Nd} {i:Nat} {Ps:List Aut} (h:PtsOk acts l i Ps):Ps.length=i:=by
 have:=congrArg List.length h.eq
 rw [Xe,Xe,Xo] at this
 have:=h.le;omega
theorem PtsOk.next {acts:List ByteArray} {l:List Nd} {i:Nat} {Ps:List Aut} {x:Nd} {A:Aut} (h:PtsOk acts l i Ps) (hx:l[i]? =some x) (hA:bldT acts x=some A) (hb:BldOk acts.length (bldT acts x)):PtsOk acts l (i+1) (Ps++[A]):=
 ⟨Zf hx,by rw [ZT hx,Xu,Xu,h.eq,UH,UH,hA],fun B hB=>by
  rcases Xt.1 hB with h1|h1
  · exact h.ok B h1
  · rw [Xl.1 h1];exact hb A hA⟩
theorem PtsOk.all {acts:List ByteArray} {l:List Nd} {i:Nat} {Ps:List Aut} (h:PtsOk acts l i Ps) (hi:l.length≤i):l.map (bldT acts)=Ps.map some∧Ps.length=l.length:=by
 have h1:=h.eq
 rw [Xk hi] at h1
 exact ⟨h1,by have:=congrArg List.length h1;simpa using this.symm⟩
theorem Zf7 {acts:List ByteArray} {a b:Aut} (o:Int) (ha:IsMin a∧a.syms=acts.length) (hb:IsMin b∧b.syms=acts.length):Wi o a b=lim (okO (Wi o a b)):=(Rk o ha.1 hb.1 ha.2 hb.2).lim
theorem Zkj {acts:List ByteArray} {a b C:Aut} (o:Int) (ha:IsMin a∧a.syms=acts.length) (hb:IsMin b∧b.syms=acts.length) (h:okO (Wi o a b)=some C):IsMin C∧C.syms=acts.length:=((Rk o ha.1 hb.1 ha.2 hb.2).ok h).2
theorem ζ1 {o:Int} {m n:List (Option Aut)} (h:m≠[]) (hn:foldX o m=none):foldX o (m++n)=none:=by
 cases m with
 |nil=>exact UT rfl h
 | cons y m=>
   rw [Vb];show (m++n).foldl (Gx o) y=none;rw [VE,show m.foldl (Gx o) y=none from hn,OP]
structure FldOk (acts:List ByteArray) (o:Int) (A0:Aut) (Qs:List Aut) (j:Nat) (R:Aut):Prop where
 le:j≤Qs.length
 eq:foldX o ((A0::Qs.take j).map some)=some R
 ok:IsMin R∧R.syms=acts.length
theorem FldOk.step {acts:List ByteArray} {o:Int} {A0 R B:Aut} {Qs:List Aut} {j:Nat} (h:FldOk acts o A0 Qs j R) (hB:Qs[j]? =some B):foldX o ((A0::Qs.take (j+1)).map some)=okO (Wi o R B):=by
 rw [ZT hB,←Vb,Xu,UH,EQ sM,h.eq];rfl
theorem FldOk.next {acts:List ByteArray} {o:Int} {A0 R B C:Aut} {Qs:List Aut} {j:Nat} (h:FldOk acts o A0 Qs j R) (hB:Qs[j]? =some B) (hb:IsMin B∧B.syms=acts.length) (hC:okO (Wi o R B)=some C):FldOk acts o A0 Qs (j+1) C:=
 ⟨Zf hB,by rw [h.step hB,hC],Zkj o h.ok hb hC⟩
theorem FldOk.none {acts:List ByteArray} {o:Int} {A0 R B:Aut} {Qs:List Aut} {j:Nat} (h:FldOk acts o A0 Qs j R) (hB:Qs[j]? =some B) (hC:okO (Wi o R B)=Option.none):foldX o ((A0::Qs).map some)=Option.none:=by
 have h1:=h.step hB
 rw [hC] at h1
 have:=ζ1 (n:=(Qs.drop (j+1)).map some) sM h1
 rw [←Xu,Vb,VJ] at this
 exact this
theorem FldOk.all {acts:List ByteArray} {o:Int} {A0 R:Aut} {Qs:List Aut} {j:Nat} (h:FldOk acts o A0 Qs j R) (hj:Qs.length≤j):foldX o ((A0::Qs).map some)=some R:=by
 have:=h.eq
 rwa [Xk hj] at this
theorem Zhy (A:Aut) (Qs:List Aut):PV.sl ((A::Qs).length-1) ((((A::Qs).flatMap LK).drop (1*5)).take (((A::Qs).length-1)*5))= .sl Qs.length (Qs.flatMap LK):=by
 have h:((A::Qs).flatMap LK).drop (1*5)=Qs.flatMap LK:=rfl
 rw [h,Xi,Nat.add_sub_cancel,Xk (by rw [flat_len SN];exact Xg _)]
theorem Zmm {P:Program} {c:Ctx} {Q:Exit→Act→World→Prop} {sL hP:List (Nat×Ent)} {ι:Type} {x z y:Code} {id:Nat} (S:ι→St) (h:aC P c x (Exit.then (z.wp P (Exit.inBlock id (Exit.then (fun a w=>∃i,Holds c (S i) a w) Q))) (Exit.inBlock id (Exit.then (fun a w=>∃i,Holds c (S i) a w) Q))) (⟨sL,hP⟩:St)) (k:∀i,aC P c y Q (S i)):aC P c x (Exit.then (z.wp P (Exit.inBlock id (Exit.then (y.wp P Q) Q))) (Exit.inBlock id (Exit.then (y.wp P Q) Q))) (⟨sL,hP⟩:St):=fun a w H=>by
 have hm:∀e a w,Exit.inBlock id (Exit.then (fun a w=>∃i,Holds c (S i) a w) Q) e a w→Exit.inBlock id (Exit.then (y.wp P Q) Q) e a w:=fun e a w hq=>by
  cases e with
  |normal=>obtain ⟨i,hi⟩:=hq;exact k i a w hi
  | exit id'=>
    simp only [Exit.inBlock] at hq ⊢;split
    · rename_i he;rw [US he] at hq;obtain ⟨i,hi⟩:=hq;exact k i a w hi
    · rename_i he;rw [UR he] at hq;exact hq
  |_=>exact hq
 refine wp_mono (h a w H) fun e a' w' hq=>?_
 cases e with
 |normal=>exact wp_mono hq hm
 |exit id'=>exact hm (.exit id') a' w' hq
 |_=>exact hq
set_option maxHeartbeats 4000000 in
theorem Zdk (o : Int) (ho:o=3∨o=4∨o=5) (acts:List ByteArray) (a:ByteArray) (x0:Nd) (l0 l:List Nd) (hl0:l=x0::l0) (hl:l.length≤1000000) (ih:∀x∈l,AF prog 51 [pTr x,Yv acts] (· =resW (lim (bldT acts x)))) (hb:∀x∈l,BldOk acts.length (bldT acts x)):AF prog 51 [.agg [pInt o,Yq a,YZ l],Yv acts] (· =resW (lim (foldX o (l.map (bldT acts))))):=by
 have hlen0:l.length=l0.length+1:=by rw [hl0];rfl
 have hc3:o=3→∀R B,AF prog 87 [ZN R,ZN B] (· =resW (Wi o R B)):=fun h R B=>by subst h;exact OX R B
 have hu:o=4→∀R B,AF prog 88 [ZN R,ZN B] (· =resW (Wi o R B)):=fun h R B=>by subst h;exact Zkb R B
 have hs:o=5→∀R B,AF prog 89 [ZN R,ZN B] (· =resW (Wi o R B)):=fun h R B=>by subst h;exact Ze2 R B
 refine AF.of_body 130 func51 rfl ntmps51 (Xa rfl) ?_
 intro w0 M0 vs hl hv
 obtain ⟨v0,v1,rfl⟩:=YG hl
 clear hl hv
 refine Ze ?_
 (refine ZC 2 3 fun h2=>?_<;>refine Zx [(.int .i64 0),(.int .i64 0),(.slice none 0 0),(.slice none 0 0),(.slice none 0 0)] 5 4 JF fun h4=>?_<;>refine xL 5 Za ?_<;>refine Zi ?_)
 (refine xL 18 (Zd 2 GA) ?_<;>(refine yL 19 (Zj 2 SP) fun v19 h=>?_;cases h)<;>refine Zi ?_)
 (refine xL 21 Yd (xL 20 Za ?_)<;>refine Zc ?_)
 refine cX ?_ ?_<;>intro hb20
 · exact UT (show o=1 by simpa using hb20) oM
 · refine Ze ?_;(refine xL 37 Yd (xL 36 Za ?_)<;>refine Zc ?_)
   refine cX ?_ ?_<;>intro hb36
   · exact UT (show o=2 by simpa using hb36) oM
   · refine Ze ?_;(refine xL 6 Za ?_<;>refine Zi ?_)
     (refine xL 46 (Zd 2 DD) ?_<;>(refine yL 47 (Zj 2 ζZ) fun v47 h=>?_;cases h)<;>refine xL 48 (ZR Rn) (xL 49 Zb ?_)<;>refine Zc ?_)
     refine Zs (Jl 200 39 5 rfl) fun _=>?_;refine ZB (ι:={q:Nat×Value×List Aut//PtsOk acts l q.1 q.2.2∧q.2.1.oneCell'=true}) (fun k=>⟨[(1,_,_),(2,_,_),(4,_,_),(5,_,_),(47,_,_),(48,_,_),(6,k.1.2.1, .val k.1.2.1),(49, .int .i64 k.1.1,pInt k.1.1)],[(2,_,_),(4,_,_),(200,k.1.2.1, .own 39 5 k.1.2.2.length (k.1.2.2.flatMap LK))]⟩) (fun k=>l.length-k.1.1) ⟨(0, .slice none 0 0,[]),⟨Xd _,rfl,fun _ h=>(by cases h)⟩,rfl⟩ (fun a w H=>H.weaken ⟨rfl,rfl,rfl,rfl,rfl,rfl,rfl,rfl,trivial⟩ ⟨rfl,rfl,rfl,trivial⟩) ?_;rintro ⟨⟨i,hv,Ps⟩,hP,ho⟩;dsimp only;dsimp only at hP ho;have hPl:=hP.len;have hPi:=hP.le;have hPc:(Ps.flatMap LK).length=Ps.length*5:=flat_len SN Ps;refine Ze ?_;(refine xL 50 ZP ?_<;>refine Zc ?_)
     refine cX ?_ ?_<;>intro hb50
     · first |exact bN hb50|(
 obtain ⟨x,hx⟩:=Zq (show i<l.length by omega);have e1:((Ll l).drop (i*3)).take 3=[pInt x.op,Yq x.act,YZ x.l]:=Kp hx;have e2:=Jo hx;obtain ⟨p0,p1,p2,p3,p4,E,r5,hres,hc⟩:=DZ (bldT acts x);have hxa:=ih x (Xb hx);rw [hres] at hxa;obtain ⟨o0,o1,o2,o3,o4⟩:=r5.o;refine Ze ?_;(refine xL 51 (ZI Rn) ?_<;>(refine yL 52 (Y' Ge) fun v52 h=>?_;cases h)<;>refine Zx [(.int .i64 0),(.string ByteArray.empty),(.slice none 0 0)] 3 8 ζ0 fun h8=>?_<;>refine ZD 8 Ge ?_<;>refine Zi ?_)
 ((refine yL 54 (Zu 8 Ge) fun v54 h=>?_;cases h)<;>refine xL 55 Zb ?_<;>(refine cP 56 (cA (call51) hxa) (fun va56 vb56 hva56 hvb56=>?_) (hsh:=r5.t E);cases hvb56)<;>refine xL 53 Zb (xL 57 Zk (xL 58 Zk ?_))<;>refine Zx [(.int .i64 0),(.int .i64 0),(.slice none 0 0),(.slice none 0 0),(.slice none 0 0)] 5 9 JF fun h9=>?_<;>refine ZD 9 Ye ?_<;>refine xL 10 Za ?_<;>refine Zi ?_)
 (refine xL 59 Zb (xL 60 Yx ?_)<;>refine Zc ?_)
 refine cX ?_ ?_<;>intro hb60
 · first|exact bN hb60|(
 have hn:bldT acts x=none∧E=13:=by
  rcases hc with h|⟨A,_,h,_⟩
  · exact h
  · exact UT h (by simpa using hb60)
 obtain ⟨hn,rfl⟩:=hn;have hF:foldX o (l.map (bldT acts))=none:=OQ (Xj.2 ⟨x,Xb hx,hn⟩);rw [hF];refine Ze ?_;(refine xL 61 (ZM Tl) (xL 62 Zb ?_)<;>refine ZD 4 Ye ?_<;>refine xL 5 Za ?_<;>refine Zc ?_)
 exact Z2 (k:=5) 4 kR (results51) rfl rfl rfl (Xa rfl) dC rfl rfl)
 · first|exact bN hb60|(
 have hA:∃A,bldT acts x=some A∧E=0∧p0=pInt A.n∧p1=pInt A.syms∧p2=pInts A.start∧p3=pInts A.fin∧p4=pMvs A.moves:=by
  rcases hc with ⟨_,h⟩|h
  · exact UT h (by simp at hb60;omega)
  · exact h
 clear hc;obtain ⟨A,hA,rfl,rfl,rfl,rfl,rfl,rfl⟩:=hA;have hnx:=hP.next hx hA (hb x (Xb hx))
 refine Ze ?_;(refine xL 63 Zb ?_<;>(refine yL 64 (Zu 9 Ye) fun v64 h=>?_;cases h)<;>refine YD 65 TU fun h65 ho65=>?_<;>(refine Z1 200 65 66 TU fun h66 ho66=>?_;refine Zt (ZE (l:=66) 200 rfl rfl) fun _=>?_;refine Zt (ZL (l:=200) rfl (Zdg _ Ps A)) fun _=>?_)<;>refine xL 6 Za ?_<;>refine Zi ?_)
 (refine xL 67 ZH (xL 49 Zb ?_)<;>refine Zc ?_)
 refine Zm (
  ⟨(i+1,h66,Ps++[A]),hnx,ho66⟩
  ) (by dsimp only;omega) ⟨rfl,rfl,rfl,rfl,rfl,rfl,rfl,rfl,trivial⟩ ⟨rfl,rfl,rfl,trivial⟩))
     · first | exact bN hb50|(
 obtain ⟨hall,hPll⟩:=hP.all (show l.length≤i by omega);have hok:=hP.ok;rw [hall];obtain ⟨A0,Qs,rfl⟩:∃A0 Qs,Ps=A0::Qs:=by
  cases Ps with
  |nil=>rw [XC] at hPll;omega
  |cons y m=>exact ⟨y,m,rfl⟩
 refine Zs (En.freeze (l:=200) (t:=6) rfl rfl) fun _=>?_;rw [E6 _ _ _ rfl];have e3:(((A0::Qs).flatMap LK).drop (0*5)).take 5=[pInt A0.n,pInt A0.syms,pInts A0.start,pInts A0.fin,pMvs A0.moves]:=rfl;(have e4:0*5+5≤((A0::Qs).flatMap LK).length:=by rw [hPc,Xi];omega);have hQl:0<(A0::Qs).length:=Nat.zero_lt_succ _;(have hQb:Qs.length≤1000000:=by rw [Xi] at hPll;omega);refine Ze ?_;(refine xL 68 (Zd 2 GA) ?_<;>(refine yL 69 (Zj 2 SP) fun v69 h=>?_;cases h)<;>refine xL 70 Yd ?_<;>refine Zc ?_)
 refine cX ?_ ?_<;>intro hb70
 · exact UT (show o=6 by simpa using hb70) oM
 · refine Ze ?_;(refine xL 13 Za ?_<;>refine Zi ?_)
   (refine xL 101 (Zd 2 GA) ?_<;>(refine yL 102 (Zj 2 SP) fun v102 h=>?_;cases h)<;>refine Zc ?_)
   refine Zmm (fun F:{F:Nat//(∀R B,AF prog F [ZN R,ZN B] (· =resW (Wi o R B)))∧∀args w,(callFunc F args).run prog w= .ok (.enter F args) w}=>⟨[(2,padd (sbase h2) 0, .val (padd (sbase h2) 0)),(4,padd (sbase h4) 0, .val (padd (sbase h4) 0)),(6,hv, .sl (A0::Qs).length ((A0::Qs).flatMap LK)),(13, .func (.func F.1) #[] #[], .fn F.1 [])],[(2,h2, .own 24 3 1 [pInt o,Yq a,YZ l]),(4,h4, .own 39 5 1 ([.int .i64 0, .int .i64 0, .slice none 0 0, .slice none 0 0, .slice none 0 0].map PV.val))]⟩) ?_ ?_
   · (refine Zv ?_<;>refine xL 104 Yd (xL 103 Za ?_)<;>refine Zc ?_)
     refine cX ?_ ?_<;>intro hb103
     · first|exact bN hb103|(
 have hF:(∀R B,AF prog 88 [ZN R,ZN B] (· =resW (Wi o R B)))∧∀args w,(callFunc 88 args).run prog w= .ok (.enter 88 args) w:=⟨hu (by simpa using hb103),call88⟩;refine Ze ?_;(refine xL 13 Za ?_<;>refine Zc ?_)
 exact WM ⟨_,hF⟩ ⟨rfl,rfl,rfl,rfl,trivial⟩ ⟨rfl,rfl,trivial⟩)
     · first|exact bN hb103|(
 refine Ze ?_;(refine xL 106 Yd (xL 105 Za ?_)<;>refine Zc ?_)
 refine cX ?_ ?_<;>intro hb105
 · first|exact bN hb105|(
 have hF:(∀R B,AF prog 89 [ZN R,ZN B] (· =resW (Wi o R B)))∧∀args w,(callFunc 89 args).run prog w= .ok (.enter 89 args) w:=⟨hs (by simpa using hb105),call89⟩;refine Ze ?_;(refine xL 13 Za ?_<;>refine Zc ?_)
 exact WM ⟨_,hF⟩ ⟨rfl,rfl,rfl,rfl,trivial⟩ ⟨rfl,rfl,trivial⟩)
 · first|exact bN hb105|(
 have hF:(∀R B,AF prog 87 [ZN R,ZN B] (· =resW (Wi o R B)))∧∀args w,(callFunc 87 args).run prog w= .ok (.enter 87 args) w:=⟨hc3 (by have h1:¬o=4:=(by simpa using hb103);have h2:¬o=5:=(by simpa using hb105);omega),call87⟩;refine nav ?_;exact WM ⟨_,hF⟩ ⟨rfl,rfl,rfl,rfl,trivial⟩ ⟨rfl,rfl,trivial⟩))
   · rintro ⟨F,hFn,hCF⟩;dsimp only;refine Ze ?_;(refine xL 107 Zb (xL 108 (ZI Jq) ?_)<;>(refine yL 109 (Y' Ye) fun v109 h=>?_;cases h)<;>refine Zx [(.int .i64 0),(.int .i64 0),(.slice none 0 0),(.slice none 0 0),(.slice none 0 0)] 5 14 JF fun h14=>?_<;>refine ZD 14 Ye ?_<;>refine Zi ?_)
     (refine xL 110 Zb ?_<;>refine xL 111 (On (i:=1) (j:=(A0::Qs).length) Jq rfl rfl rfl rfl (Nat.succ_le_of_lt hQl) (Xg _) hPc) ?_<;>(refine Zt (Wx (t:=111) (p':= .sl Qs.length (Qs.flatMap LK)) rfl (Zhy A0 Qs)) fun _=>?_;refine xL 112 (ZR Jq) ?_)<;>refine xL 113 Zb ?_<;>refine Zc ?_)
     refine ZB (ι:={q:Nat×Aut//FldOk acts o A0 Qs q.1 q.2}) (fun k=>⟨[(2,_,_),(4,_,_),(13,_,_),(111,_,_),(112,_,_),(14,_,_),(113, .int .i64 k.1.1,pInt k.1.1)],[(2,_,_),(4,_,_),(14,h14, .own 39 5 1 (LK k.1.2))]⟩) (fun k=>Qs.length-k.1.1) ⟨(0,A0),Xd _,rfl,hok A0 (Xm ..)⟩ (fun a w H=>H.weaken ⟨rfl,rfl,rfl,rfl,rfl,rfl,rfl,trivial⟩ ⟨rfl,rfl,rfl,trivial⟩) ?_;rintro ⟨⟨j,R⟩,hF⟩;dsimp only;dsimp only at hF;have hFj:=hF.le;refine Ze ?_;(refine xL 114 ZP ?_<;>refine Zc ?_)
     refine cX ?_ ?_<;>intro hb114
     · first |exact bN hb114|(
 obtain ⟨B,hB⟩:=Zq (show j<Qs.length by omega);have e5:=Yh SN Qs j B hB;have e6:=YA SN hB;have hBm:=hok B (Xn _ (Xb hB));obtain ⟨p0,p1,p2,p3,p4,E,r5,hres,hc⟩:=DZ (okO (Wi o R B));have hj:AF prog F [ZN R,ZN B] (· =resW (Wi o R B)):=hFn R B;rw [Zf7 o hF.ok hBm,hres] at hj;obtain ⟨o0,o1,o2,o3,o4⟩:=r5.o;refine Ze ?_;(refine xL 115 (ZI Jq) ?_<;>(refine yL 116 (Y' Ye) fun v116 h=>?_;cases h)<;>refine Zx [(.int .i64 0),(.int .i64 0),(.slice none 0 0),(.slice none 0 0),(.slice none 0 0)] 5 16 JF fun h16=>?_<;>refine ZD 16 Ye ?_<;>refine Zi ?_)
 (refine xL 17 Za ?_<;>refine Zi ?_)
 (refine xL 118 Zb ?_<;>(refine yL 119 (Zu 14 Ye) fun v119 h=>?_;cases h)<;>(refine yL 120 (Zu 16 Ye) fun v120 h=>?_;cases h)<;>(refine cP 121 (JX (f:=F) (ps:=[]) rfl ⟨_,rfl⟩ hCF rfl hj) (fun va121 vb121 hva121 hvb121=>?_) (hsh:=r5.t E);cases hvb121)<;>refine xL 117 Zb (xL 122 Zk (xL 123 Zk ?_))<;>refine ZD 14 Ye ?_<;>refine xL 17 Za ?_<;>refine Zi ?_)
 (refine xL 124 Zb (xL 125 Yx ?_)<;>refine Zc ?_)
 refine cX ?_ ?_<;>intro hb125
 · first|exact bN hb125|(
 have hn:okO (Wi o R B)=none∧E=13:=by
  rcases hc with h|⟨A,_,h,_⟩
  · exact h
  · exact UT h (by simpa using hb125)
 obtain ⟨hn,rfl⟩:=hn;rw [hF.none hB hn];refine Ze ?_;(refine xL 126 (ZM Tl) (xL 127 Zb ?_)<;>refine ZD 4 Ye ?_<;>refine xL 5 Za ?_<;>refine Zc ?_)
 exact Z2 (k:=5) 4 kR (results51) rfl rfl rfl (Xa rfl) dC rfl rfl)
 · first|exact bN hb125|(
 have hA:∃A,okO (Wi o R B)=some A∧E=0∧p0=pInt A.n∧p1=pInt A.syms∧p2=pInts A.start∧p3=pInts A.fin∧p4=pMvs A.moves:=by
  rcases hc with ⟨_,h⟩|h
  · exact UT h (by simp at hb125;omega)
  · exact h
 clear hc;obtain ⟨C,hC,rfl,rfl,rfl,rfl,rfl,rfl⟩:=hA;have hFn:=hF.next hB hBm hC
 refine Ze ?_;(refine xL 128 ZH (xL 113 Zb ?_)<;>refine Zc ?_)
 refine Zm (
  ⟨(j+1,C),hFn⟩
  ) (by dsimp only;omega) ⟨rfl,rfl,rfl,rfl,rfl,rfl,rfl,trivial⟩ ⟨rfl,rfl,rfl,trivial⟩))
     · first|exact bN hb114|(
 rw [hF.all (show Qs.length≤j by omega)];refine Ze ?_;((refine yL 129 (Zu 14 Ye) fun v129 h=>?_;cases h)<;>refine ZD 4 Ye ?_<;>refine xL 5 Za ?_<;>refine Zc ?_)
 exact Z2 (k:=5) 4 kR (results51) rfl rfl rfl (Xa rfl) dC rfl rfl))
theorem Of {acts:List ByteArray} {a b:Aut} (ha:IsMin a∧a.syms=acts.length) (hb:IsMin b∧b.syms=acts.length):MinO acts.length (Gv a b):=SL ha.1 hb.1 ha.2 hb.2
set_option maxHeartbeats 4000000 in
theorem Za6 (acts :List ByteArray) (a:ByteArray) (x0 y0:Nd) (l:List Nd) (hl0:l=[x0,y0]) (ih:∀x∈l,AF prog 51 [pTr x,Yv acts] (· =resW (lim (bldT acts x)))) (hb:∀x∈l,BldOk acts.length (bldT acts x)):AF prog 51 [.agg [pInt 6,Yq a,YZ l],Yv acts] (· =resW (lim (foldX 6 (l.map (bldT acts))))):=by
 have hlen0:l.length=2:=by rw [hl0];rfl
 refine AF.of_body 130 func51 rfl ntmps51 (Xa rfl) ?_
 intro w0 M0 vs hl hv
 obtain ⟨v0,v1,rfl⟩:=YG hl
 clear hl hv
 refine Ze ?_
 (refine ZC 2 3 fun h2=>?_<;>refine Zx [(.int .i64 0),(.int .i64 0),(.slice none 0 0),(.slice none 0 0),(.slice none 0 0)] 5 4 JF fun h4=>?_<;>refine xL 5 Za ?_<;>refine Zi ?_)
 (refine xL 18 (Zd 2 GA) ?_<;>(refine yL 19 (Zj 2 SP) fun v19 h=>?_;cases h)<;>refine Zi ?_)
 (refine xL 21 Yd (xL 20 Za ?_)<;>refine Zc ?_)
 refine cX ?_ ?_<;>intro hb20
 · exact UT hb20 dC
 · refine Ze ?_;(refine xL 37 Yd (xL 36 Za ?_)<;>refine Zc ?_)
   refine cX ?_ ?_<;>intro hb36
   · exact UT hb36 dC
   · refine Ze ?_;(refine xL 6 Za ?_<;>refine Zi ?_)
     (refine xL 46 (Zd 2 DD) ?_<;>(refine yL 47 (Zj 2 ζZ) fun v47 h=>?_;cases h)<;>refine xL 48 (ZR Rn) (xL 49 Zb ?_)<;>refine Zc ?_)
     refine Zs (Jl 200 39 5 rfl) fun _=>?_;refine ZB (ι:={q:Nat×Value×List Aut//PtsOk acts l q.1 q.2.2∧q.2.1.oneCell'=true}) (fun k=>⟨[(1,_,_),(2,_,_),(4,_,_),(5,_,_),(47,_,_),(48,_,_),(6,k.1.2.1, .val k.1.2.1),(49, .int .i64 k.1.1,pInt k.1.1)],[(2,_,_),(4,_,_),(200,k.1.2.1, .own 39 5 k.1.2.2.length (k.1.2.2.flatMap LK))]⟩) (fun k=>l.length-k.1.1) ⟨(0, .slice none 0 0,[]),⟨Xd _,rfl,fun _ h=>(by cases h)⟩,rfl⟩ (fun a w H=>H.weaken ⟨rfl,rfl,rfl,rfl,rfl,rfl,rfl,rfl,trivial⟩ ⟨rfl,rfl,rfl,trivial⟩) ?_;rintro ⟨⟨i,hv,Ps⟩,hP,ho⟩;dsimp only;dsimp only at hP ho;have hPl:=hP.len;have hPi:=hP.le;have hPc:(Ps.flatMap LK).length=Ps.length*5:=flat_len SN Ps;refine Ze ?_;(refine xL 50 ZP ?_<;>refine Zc ?_)
     refine cX ?_ ?_<;>intro hb50
     · first |exact bN hb50|(
 obtain ⟨x,hx⟩:=Zq (show i<l.length by omega);have e1:((Ll l).drop (i*3)).take 3=[pInt x.op,Yq x.act,YZ x.l]:=Kp hx;have e2:=Jo hx;obtain ⟨p0,p1,p2,p3,p4,E,r5,hres,hc⟩:=DZ (bldT acts x);have hxa:=ih x (Xb hx);rw [hres] at hxa;obtain ⟨o0,o1,o2,o3,o4⟩:=r5.o;refine Ze ?_;(refine xL 51 (ZI Rn) ?_<;>(refine yL 52 (Y' Ge) fun v52 h=>?_;cases h)<;>refine Zx [(.int .i64 0),(.string ByteArray.empty),(.slice none 0 0)] 3 8 ζ0 fun h8=>?_<;>refine ZD 8 Ge ?_<;>refine Zi ?_)
 ((refine yL 54 (Zu 8 Ge) fun v54 h=>?_;cases h)<;>refine xL 55 Zb ?_<;>(refine cP 56 (cA (call51) hxa) (fun va56 vb56 hva56 hvb56=>?_) (hsh:=r5.t E);cases hvb56)<;>refine xL 53 Zb (xL 57 Zk (xL 58 Zk ?_))<;>refine Zx [(.int .i64 0),(.int .i64 0),(.slice none 0 0),(.slice none 0 0),(.slice none 0 0)] 5 9 JF fun h9=>?_<;>refine ZD 9 Ye ?_<;>refine xL 10 Za ?_<;>refine Zi ?_)
 (refine xL 59 Zb (xL 60 Yx ?_)<;>refine Zc ?_)
 refine cX ?_ ?_<;>intro hb60
 · first|exact bN hb60|(
 have hn:bldT acts x=none∧E=13:=by
  rcases hc with h|⟨A,_,h,_⟩
  · exact h
  · exact UT h (by simpa using hb60)
 obtain ⟨hn,rfl⟩:=hn;have hF:foldX 6 (l.map (bldT acts))=none:=OQ (Xj.2 ⟨x,Xb hx,hn⟩);rw [hF];refine Ze ?_;(refine xL 61 (ZM Tl) (xL 62 Zb ?_)<;>refine ZD 4 Ye ?_<;>refine xL 5 Za ?_<;>refine Zc ?_)
 exact Z2 (k:=5) 4 kR (results51) rfl rfl rfl (Xa rfl) dC rfl rfl)
 · first|exact bN hb60|(
 have hA:∃A,bldT acts x=some A∧E=0∧p0=pInt A.n∧p1=pInt A.syms∧p2=pInts A.start∧p3=pInts A.fin∧p4=pMvs A.moves:=by
  rcases hc with ⟨_,h⟩|h
  · exact UT h (by simp at hb60;omega)
  · exact h
 clear hc;obtain ⟨A,hA,rfl,rfl,rfl,rfl,rfl,rfl⟩:=hA;have hnx:=hP.next hx hA (hb x (Xb hx))
 refine Ze ?_;(refine xL 63 Zb ?_<;>(refine yL 64 (Zu 9 Ye) fun v64 h=>?_;cases h)<;>refine YD 65 TU fun h65 ho65=>?_<;>(refine Z1 200 65 66 TU fun h66 ho66=>?_;refine Zt (ZE (l:=66) 200 rfl rfl) fun _=>?_;refine Zt (ZL (l:=200) rfl (Zdg _ Ps A)) fun _=>?_)<;>refine xL 6 Za ?_<;>refine Zi ?_)
 (refine xL 67 ZH (xL 49 Zb ?_)<;>refine Zc ?_)
 refine Zm (
  ⟨(i+1,h66,Ps++[A]),hnx,ho66⟩
  ) (by dsimp only;omega) ⟨rfl,rfl,rfl,rfl,rfl,rfl,rfl,rfl,trivial⟩ ⟨rfl,rfl,rfl,trivial⟩))
     · first | exact bN hb50|(
 obtain ⟨hall,hPll⟩:=hP.all (show l.length≤i by omega);have hok:=hP.ok;rw [hall];obtain ⟨A,B,rfl⟩:∃A B,Ps=[A,B]:=by
  match Ps,hPll.trans hlen0 with
  |[A,B],_=>exact ⟨A,B,rfl⟩
 refine Zs (En.freeze (l:=200) (t:=6) rfl rfl) fun _=>?_;rw [E6 _ _ _ rfl];have e3:(([A,B].flatMap LK).drop (0*5)).take 5=[pInt A.n,pInt A.syms,pInts A.start,pInts A.fin,pMvs A.moves]:=rfl;have e4:(([A,B].flatMap LK).drop (1*5)).take 5=[pInt B.n,pInt B.syms,pInts B.start,pInts B.fin,pMvs B.moves]:=rfl;have hA:=hok A (Xm ..);have hB:=hok B (Xn _ (Xm ..));have hF:foldX 6 ([A,B].map some)=okO (Jg A B):=rfl;rw [hF];clear hF hall;have mX:=Of hB hA;obtain ⟨p0,p1,p2,p3,p4,E,r5,hres,hc⟩:=DZ (okO (Gv B A));have hj:=OX B A;rw [mX.lim,hres] at hj;obtain ⟨o0,o1,o2,o3,o4⟩:=r5.o;refine Ze ?_;(refine xL 68 (Zd 2 GA) ?_<;>(refine yL 69 (Zj 2 SP) fun v69 h=>?_;cases h)<;>refine xL 70 Yd ?_<;>refine Zc ?_)
 refine cX ?_ ?_<;>intro hb70
 · refine nav ?_;(refine ZY (fun i=>([12]:List Nat).elem i) [] kR ?_<;>refine xD 0 72 rfl Zb ?_<;>refine xD 1 73 rfl (ZI Jq) ?_<;>(refine yD 2 74 rfl (Y' Ye) fun v74 h=>?_;cases h)<;>refine xD 3 75 rfl Zb ?_<;>refine xD 4 76 rfl (ZI Jq) ?_<;>(refine yD 5 77 rfl (Y' Ye) fun v77 h=>?_;cases h)<;>(refine Y8 6 10 kR ?_ ?_;rotate_right;(focus ((refine Zo rfl fun w9 M9 N9 DQ back=>?_)<;>refine Zx [(.int .i64 0),(.int .i64 0),(.slice none 0 0),(.slice none 0 0),(.slice none 0 0)] 5 11 JF fun h11=>?_<;>refine Zl (back _ (nrm ?_))<;>(refine Zr 6 kR ?_)<;>(refine Zo rfl fun w9 M9 N9 DQ back=>?_)<;>(refine cP 78 (cA (call87) hj) (fun va78 vb78 hva78 hvb78=>?_) (hsh:=r5.t E);cases hvb78)<;>refine Zl (back _ (nrm ?_))<;>refine xE 7 71 rfl Zb ?_<;>refine xD 8 79 rfl Zk ?_<;>refine xD 9 80 rfl Zk ?_<;>(refine Zr 11 kR ?_)<;>(refine Zo rfl fun w9 M9 N9 DQ back=>?_)<;>refine ZD 11 Ye ?_<;>refine Zl (back _ (nrm ?_))));rotate_right;(focus ((refine Zo rfl fun w9 M9 N9 DQ back=>?_)<;>(refine cP 78 (cA (call87) hj) (fun va78 vb78 hva78 hvb78=>?_) (hsh:=r5.t E);cases hvb78)<;>refine Zl (back _ (nrm ?_))<;>refine xD 7 71 rfl Zb ?_<;>refine xD 8 79 rfl Zk ?_<;>refine xD 9 80 rfl Zk ?_<;>(refine Zr 10 kR ?_)<;>(refine Zo rfl fun w9 M9 N9 DQ back=>?_)<;>refine Zx [(.int .i64 0),(.int .i64 0),(.slice none 0 0),(.slice none 0 0),(.slice none 0 0)] 5 11 JF fun h11=>?_<;>refine Zl (back _ (nrm ?_))<;>(refine Zr 11 kR ?_)<;>(refine Zo rfl fun w9 M9 N9 DQ back=>?_)<;>refine ZD 11 Ye ?_<;>refine Zl (back _ (nrm ?_)))))<;>refine xE 12 12 rfl Za ?_<;>refine Yr kR (nav ?_)<;>try dsimp only)<;>(
 (refine Zv ?_<;>refine xL 81 Zb (xL 82 Yx ?_)<;>refine Zc ?_)
 refine cX ?_ ?_<;>intro hb82
 · first|exact bN hb82|(
 have hn:okO (Gv B A)=none∧E=13:=by
  rcases hc with h|⟨A,_,h,_⟩
  · exact h
  · exact UT h (by simpa using hb82)
 obtain ⟨hn,rfl⟩:=hn;(have hlp:okO (Jg A B)=none:=by unfold Jg;rw [mX.lim,hn];rfl);rw [hlp];refine Ze ?_;(refine xL 83 (ZM Tl) (xL 84 Zb ?_)<;>refine ZD 4 Ye ?_<;>refine xL 5 Za ?_<;>refine Zc ?_)
 exact Z2 (k:=5) 4 kR (results51) rfl rfl rfl (Xa rfl) dC rfl rfl)
 · first |exact bN hb82|(
 have hC:∃C,okO (Gv B A)=some C∧E=0∧p0=pInt C.n∧p1=pInt C.syms∧p2=pInts C.start∧p3=pInts C.fin∧p4=pMvs C.moves:=by
  rcases hc with ⟨_,h⟩|h
  · exact UT h (by simp at hb82;omega)
  · exact h
 clear hc;obtain ⟨C,hC,rfl,rfl,rfl,rfl,rfl,rfl⟩:=hC;obtain ⟨hC1,hC2⟩:=mX.ok hC;have mS:=Rj hC2.1 hC2.2;obtain ⟨p0,p1,p2,p3,p4,E,r5,hres,hc⟩:=DZ (okO (JD C));have hj:=Zl5 C;rw [mS.lim,hres] at hj;obtain ⟨o0,o1,o2,o3,o4⟩:=r5.o;refine Ze ?_;((refine yL 86 (Zu 11 Ye) fun v86 h=>?_;cases h)<;>(refine cP 87 (cA (call90) hj) (fun va87 vb87 hva87 hvb87=>?_) (hsh:=r5.t E);cases hvb87)<;>refine xL 85 Zb (xL 88 Zk (xL 89 Zk ?_))<;>refine ZD 11 Ye ?_<;>refine xL 12 Za ?_<;>refine Zi ?_)
 (refine xL 90 Zb (xL 91 Yx ?_)<;>refine Zc ?_)
 refine cX ?_ ?_<;>intro hb91
 · first|exact bN hb91|(
 have hn:okO (JD C)=none∧E=13:=by
  rcases hc with h|⟨A,_,h,_⟩
  · exact h
  · exact UT h (by simpa using hb91)
 obtain ⟨hn,rfl⟩:=hn;(have hlp:okO (Jg A B)=none:=by unfold Jg;rw [hC1];dsimp only;rw [mS.lim,hn];rfl);rw [hlp];refine Ze ?_;(refine xL 92 (ZM Tl) (xL 93 Zb ?_)<;>refine ZD 4 Ye ?_<;>refine xL 5 Za ?_<;>refine Zc ?_)
 exact Z2 (k:=5) 4 kR (results51) rfl rfl rfl (Xa rfl) dC rfl rfl)
 · first|exact bN hb91|(
 have hS:∃S,okO (JD C)=some S∧E=0∧p0=pInt S.n∧p1=pInt S.syms∧p2=pInts S.start∧p3=pInts S.fin∧p4=pMvs S.moves:=by
  rcases hc with ⟨_,h⟩|h
  · exact UT h (by simp at hb91;omega)
  · exact h
 clear hc;obtain ⟨S,hS,rfl,rfl,rfl,rfl,rfl,rfl⟩:=hS;obtain ⟨hS1,hS2⟩:=mS.ok hS;have mT:=Of hA hS2;(have hlp:okO (Jg A B)=okO (Gv A S):=by unfold Jg;rw [hC1];dsimp only;rw [hS1]);rw [hlp];obtain ⟨p0,p1,p2,p3,p4,E,r5,hres,hc⟩:=DZ (okO (Gv A S));have hj:=OX A S;rw [mT.lim,hres] at hj;rw [hres];obtain ⟨o0,o1,o2,o3,o4⟩:=r5.o;refine nav ?_;(refine ZY (fun i=>([8]:List Nat).elem i) [11] kR ?_<;>refine xD 0 94 rfl Zb ?_<;>refine xD 1 95 rfl (ZI Jq) ?_<;>(refine yD 2 96 rfl (Y' Ye) fun v96 h=>?_;cases h)<;>(refine yE 3 97 rfl (Zu 11 Ye) fun v97 h=>?_;cases h)<;>(refine Zr 4 kR ?_)<;>(refine Zo rfl fun w9 M9 N9 DQ back=>?_)<;>(refine cP 98 (cA (call87) hj) (fun va98 vb98 hva98 hvb98=>?_) (hsh:=r5.t E);cases hvb98)<;>refine Zl (back _ (nrm ?_))<;>refine xD 5 99 rfl Zk ?_<;>refine xE 6 100 rfl Zk ?_<;>(refine Zr 7 kR ?_)<;>(refine Zo rfl fun w9 M9 N9 DQ back=>?_)<;>refine ZD 4 Ye ?_<;>refine Zl (back _ (nrm ?_))<;>refine xE 8 5 rfl Za ?_<;>refine Yr kR (nav ?_)<;>try dsimp only)
 exact Z2 (k:=5) 4 kR (results51) rfl rfl rfl (Xa rfl) dC r5.s rfl)))
 · exact UT rfl hb70)
theorem Ro (acts:List ByteArray) (hm:acts.length≤40):∀t:Nd,okT t=true→szT t≤1000→(∀s∈YI t,s∈acts)→AF prog 51 [pTr t,Yv acts] (· =resW (lim (bldT acts t))):=Nd.ind fun o a l ih hok hsz ha=>by
 have e0:pTr (.mk o a l)= .agg [pInt o,Yq a,YZ l]:=rfl
 rw [e0]
 obtain ⟨hr,hp⟩:=K1.1 hok
 have hops:=S0 hr
 simp only [Nd.op,Nd.l] at hops hp
 rw [szT] at hsz
 have hlz:=Tw l
 have hpa:∀x∈l,o≠1→∀s∈YI x,s∈acts:=fun x hx h1 s hs=>ha s (by rw [YI,UR h1];exact Sg.2 ⟨x,hx,hs⟩)
 have hih:o≠1→∀x∈l,AF prog 51 [pTr x,Yv acts] (· =resW (lim (bldT acts x))):=fun h1 x hx=>ih x hx (hp x hx) (by have:=Gi hx;omega) (hpa x hx h1)
 have hbo:o≠1→∀x∈l,BldOk acts.length (bldT acts x):=fun h1 x hx=>ZeU hm x (hpa x hx h1)
 by_cases h1:o=1
 · subst h1;have hmem:a∈acts:=ha a (by rw [YI,US rfl];exact Xm ..);obtain ⟨i,h2,h3,_⟩:=Ti hmem;have hi:=Zf h3;have hM:=Gy (m:=acts.length) (P' hm (k:=Y0 acts a) (by rw [h2];omega)) rfl;have hl:l=[]:=by unfold rightT at hr;simp [Nd.op,Nd.l] at hr;exact hr.1
   subst hl;have hb:bldT acts (.mk 1 a [])=okO (Jd (GJ acts.length (Y0 acts a))):=by rw [bldT,US rfl];rfl
   rw [hb];obtain ⟨p0,p1,p2,p3,p4,E,r5,hres,_⟩:=DZ (okO (Jd (GJ acts.length (Y0 acts a))));have hj:=Dx (GJ acts.length (Y0 acts a));rw [hM.lim,hres] at hj;rw [hres];exact Zdh acts a r5 hj
 by_cases h2:o=2
 · subst h2;have hM:=Gy (m:=acts.length) (ES hm) rfl;have hl:l=[]:=by unfold rightT at hr;simp [Nd.op,Nd.l] at hr;exact hr.1
   subst hl;have hb:bldT acts (.mk 2 a [])=okO (Jd (Rz acts.length)):=by rw [bldT,UR dC,US rfl]
   rw [hb];obtain ⟨p0,p1,p2,p3,p4,E,r5,hres,_⟩:=DZ (okO (Jd (Rz acts.length)));have hj:=Dx (Rz acts.length);rw [hM.lim,hres] at hj;rw [hres];exact Zdi acts a r5 hj
 rw [ZeR acts o a l h1 h2]
 by_cases h6:o=6
 · subst h6;obtain ⟨x,y,hxy⟩:=OU hr;exact Za6 acts a x y l hxy (hih h1) (hbo h1)
 have ho:o=3∨o=4∨o=5:=oM
 obtain ⟨x,m,hxm⟩:=EW ho hr
 exact Zdk o ho acts a x m l hxm oM (hih h1) (hbo h1)
end Go.Proofs.YtgfabnhpllkebaaGreatDoor
