/-
  Walks: automata: Union.
  Walks: automata: Concat.
  Walks: automata: moves in order are kept once each.
  Walks: automata: what an operation made, moves more than once among them.
  Walks: automata: Shuffle.
  Walks: languages of trees: the automaton of a tree.
  Walks: languages of trees: the reference's lists of names; activities of a tree; names of words.
  Walks: languages of trees: the automaton of a tree, out of those of its parts.
  Walks: the reference's automata: the table of an automaton.
  Walks: automata: Product.
  Walks: the reference's automata: the table of the pairs of two automata.
-/
import Derived.Test.YtgfabnhpllkebaaGreatDoorPq10
import Derived.Test.YtgfabnhpllkebaaGreatDoorPq09
import Derived.Test.YtgfabnhpllkebaaGreatDoorPq04
import Derived.Test.YtgfabnhpllkebaaGreatDoorPq05
import Derived.Test.YtgfabnhpllkebaaGreatDoorPq06
import Derived.Test.YtgfabnhpllkebaaGreatDoorPq08
import Derived.Test.YtgfabnhpllkebaaGreatDoorPq01
namespace Go.Proofs.YtgfabnhpllkebaaGreatDoor
open Go.RowKit Go.Cb Go.En
set_option linter.all false
set_option maxRecDepth 100000
theorem Zi1 (l:List Int):(l.map pInt).all En.one=true:=by rw [XD];intro p hp;obtain ⟨z,_,rfl⟩:=Xh.1 hp;rfl
theorem ZhC (l:List Int):(l.map pInt).length=l.length*1:=by rw [Xf,Xx]
theorem Zi2 (e:Nat) (l m:List Int):PV.own e 1 (l.length+m.length) (l.map pInt++m.map pInt)= .own e 1 (l++m).length ((l++m).map pInt):=by rw [Xy,Xc]
theorem ZhD {a b:Aut} (h:Zb4 a b=0):VOk a∧VOk b∧a.syms=b.syms:=by
 obtain ⟨h1,h2,h3⟩:=Zmq h
 exact ⟨Zb1 h1,Zb1 h2,h3⟩
theorem Ztj (a b:Aut) (e:Int) (he:¬e=0) (hf:AF Tryz.prog 120 [ζS a,ζS b] (· =pInt e)):AF Tryz.prog 88 [ζS a,ζS b] (· = .tup [ZfG,pInt e]):=by
 refine AF.of_body 42 Tryz.func88 rfl Tryz.ntmps88 (Xa rfl) ?_
 intro w0 M0 vs hl hv
 obtain ⟨v0,v1,rfl⟩:=Zbl hl
 clear hl hv
 refine nav ?_
 (refine ζa ?_<;>refine ζH 2 5 fun h2=>?_<;>refine ζH 3 5 fun h3=>?_<;>refine ζs [(.int .i64 0),(.int .i64 0),(.slice none 0 0),(.slice none 0 0),(.slice none 0 0)] 5 4 ζN fun h4=>?_<;>refine xL 5 ζc ?_<;>refine ζd ?_)
 (refine ζa ?_<;>(refine yL 8 (ζk 2 ζo) fun v8 h=>?_;cases h)<;>(refine yL 9 (ζk 3 ζo) fun v9 h=>?_;cases h)<;>(refine cS 10 (cA Tryz.call120 (hf)) fun v10 h=>?_;cases h)<;>refine xL 6 ζc ?_<;>refine ζd ?_)
 (refine ζa ?_<;>refine xL 11 ζb (xL 12 Zaz ?_)<;>refine ζd ?_)
 (first|refine cCd ?_ ?_|refine cC ?_ ?_)<;>intro hb12
 · refine nav ?_;(refine ζa ?_<;>refine xL 13 (ζB ζX) (xL 14 ζb ?_)<;>refine ζt 4 ζo ?_<;>refine xL 5 ζc ?_<;>refine ζd ?_)
   exact Zaf (k:=5) 4 kR (Tryz.results88) rfl rfl rfl (Xa rfl) (by decide) rfl rfl
 · exact absurd (by simpa using hb12) he
set_option maxHeartbeats 2000000 in
theorem Zzk (a b:Aut) (hf0:Zb4 a b=0) {p0 p1 p2 p3 p4:PV} {E:Int} (r5:R5 p0 p1 p2 p3 p4) (hr:AF Tryz.prog 132 [ζS (mkA (Zdv a b))] (· = .tup [.agg [p0,p1,p2,p3,p4],pInt E])):AF Tryz.prog 88 [ζS a,ζS b] (· = .tup [.agg [p0,p1,p2,p3,p4],pInt E]):=by
 obtain ⟨o0,o1,o2,o3,o4⟩:=r5.o
 obtain ⟨ha,hb,hs⟩:=ZhD hf0
 have hf:=Zie a b
 rw [hf0] at hf
 have hn0:=ha.n0
 have hn1:=ha.n1
 have k1:=ha.sl
 have k2:=hb.sl
 have k3:=ha.fl
 have k4:=hb.fl
 have m1:=hb.n1
 have kml:=Zpi ha.toAOk hb.toAOk
 have l1:=ZeK a.n b.start
 have l2:=ZeK a.n b.fin
 refine AF.of_body 42 Tryz.func88 rfl Tryz.ntmps88 (Xa rfl) ?_
 intro w0 M0 vs hl hv
 obtain ⟨v0,v1,rfl⟩:=Zbl hl
 clear hl hv
 refine nav ?_
 (refine ζa ?_<;>refine ζH 2 5 fun h2=>?_<;>refine ζH 3 5 fun h3=>?_<;>refine ζs [(.int .i64 0),(.int .i64 0),(.slice none 0 0),(.slice none 0 0),(.slice none 0 0)] 5 4 ζN fun h4=>?_<;>refine xL 5 ζc ?_<;>refine ζd ?_)
 (refine ζa ?_<;>(refine yL 8 (ζk 2 ζo) fun v8 h=>?_;cases h)<;>(refine yL 9 (ζk 3 ζo) fun v9 h=>?_;cases h)<;>(refine cS 10 (cA Tryz.call120 (hf)) fun v10 h=>?_;cases h)<;>refine xL 6 ζc ?_<;>refine ζd ?_)
 (refine ζa ?_<;>refine xL 11 ζb (xL 12 Zaz ?_)<;>refine ζd ?_)
 (first|refine cCd ?_ ?_|refine cC ?_ ?_)<;>intro hb12
 · first|omega|exact absurd rfl hb12|exact bN hb12
 · refine nav ?_;(refine ζa ?_<;>(refine yL 15 (ζk 2 ζo) fun v15 h=>?_;cases h)<;>(refine yL 16 (ζk 3 ζo) fun v16 h=>?_;cases h)<;>(refine ZbO [2,3,4] 17 (Tryz.call134) (Zn0 a b ha.toAOk hb.toAOk _ _) ?_;rintro V17 _ _ ⟨hM,hMo,rfl,rfl⟩;have qM:En.one (PV.val hM)=true:=hMo)<;>refine ζs [(.int .i64 0),(.int .i64 0),(.slice none 0 0),(.slice none 0 0),(.slice none 0 0)] 5 7 ζN fun h7=>?_<;>refine ζt 7 ζo ?_<;>refine ζd ?_)
   (refine ζY (fun i=>([]:List Nat).elem i) [2,3] kR ?_<;>refine xD 0 18 rfl (ζh 2 ZaJ) ?_<;>(refine yD 1 19 rfl (ζq 2 ζD) fun v19 h=>?_;cases h)<;>refine xD 3 21 rfl (ζh 3 ZaJ) ?_<;>(refine yD 4 22 rfl (ζq 3 ζD) fun v22 h=>?_;cases h)<;>refine xD 5 23 rfl (ζh 2 ζ5) ?_<;>(refine yD 6 24 rfl (ζq 2 ζp) fun v24 h=>?_;cases h)<;>(refine ζi 2 kR ?_)<;>(refine ζf rfl fun w9 M9 N9 DQ back=>?_)<;>refine cO 20 (cA Tryz.call135 (Zdg a.start (by omega))) fun v20 ho20=>?_<;>refine ζe (back _ (nrm ?_))<;>(refine ζi 7 kR ?_)<;>(refine ζf rfl fun w9 M9 N9 DQ back=>?_)<;>(refine cO 25 (cA Tryz.call136 (ZeS b.start a.n (by omega) (by omega) (fun x hx=>by have:=hb.st x hx;omega))) fun v25 ho25=>?_;refine ζr (En.freeze (l:=25) (t:=25) rfl rfl) fun _=>?_;rw [ζ2 _ _ _ rfl])<;>refine ζe (back _ (nrm ?_))<;>(refine ζi 8 kR ?_)<;>(refine ζf rfl fun w9 M9 N9 DQ back=>?_)<;>(refine ZgL 20 26 ζn (fun h26 ho26=>?_) (ZhC (ZbS a.n b.start)) (Zi1 (ZbS a.n b.start));have q26:En.one (PV.val h26)=true:=ho26)<;>refine ζe (back _ (nrm ?_))<;>refine xE 9 27 rfl (ζh 7 ZaJ) ?_<;>(refine ζi 10 kR ?_)<;>(refine ζf rfl fun w9 M9 N9 DQ back=>?_)<;>refine ZbQ 7 ζD Zcm ?_<;>refine ζe (back _ (nrm ?_))<;>refine Zam kR (nav ?_)<;>try dsimp only)
   refine ζw (ζM (l:=26) rfl (Zi2 _ a.start (ZbS a.n b.start))) fun _=>?_;refine ζw (ZaI (l:=7) (l':=26) (j:=2) rfl rfl rfl rfl) fun _=>?_;rw [ζ2 _ _ _ rfl];(refine ζY (fun i=>([]:List Nat).elem i) [2,3] kR ?_<;>refine xD 0 28 rfl (ζh 2 Zau) ?_<;>(refine yD 1 29 rfl (ζq 2 ζD) fun v29 h=>?_;cases h)<;>refine xD 3 31 rfl (ζh 3 Zau) ?_<;>(refine yD 4 32 rfl (ζq 3 ζD) fun v32 h=>?_;cases h)<;>refine xD 5 33 rfl (ζh 2 ζ5) ?_<;>(refine yD 6 34 rfl (ζq 2 ζp) fun v34 h=>?_;cases h)<;>(refine ζi 2 kR ?_)<;>(refine ζf rfl fun w9 M9 N9 DQ back=>?_)<;>refine cO 30 (cA Tryz.call135 (Zdg a.fin (by omega))) fun v30 ho30=>?_<;>refine ζe (back _ (nrm ?_))<;>(refine ζi 7 kR ?_)<;>(refine ζf rfl fun w9 M9 N9 DQ back=>?_)<;>(refine cO 35 (cA Tryz.call136 (ZeS b.fin a.n (by omega) (by omega) (fun x hx=>by have:=hb.fi x hx;omega))) fun v35 ho35=>?_;refine ζr (En.freeze (l:=35) (t:=35) rfl rfl) fun _=>?_;rw [ζ2 _ _ _ rfl])<;>refine ζe (back _ (nrm ?_))<;>(refine ζi 8 kR ?_)<;>(refine ζf rfl fun w9 M9 N9 DQ back=>?_)<;>(refine ZgL 30 36 ζn (fun h36 ho36=>?_) (ZhC (ZbS a.n b.fin)) (Zi1 (ZbS a.n b.fin));have q36:En.one (PV.val h36)=true:=ho36)<;>refine ζe (back _ (nrm ?_))<;>refine xE 9 37 rfl (ζh 7 Zau) ?_<;>(refine ζi 10 kR ?_)<;>(refine ζf rfl fun w9 M9 N9 DQ back=>?_)<;>refine ZbQ 7 ζD Zcm ?_<;>refine ζe (back _ (nrm ?_))<;>refine Zam kR (nav ?_)<;>try dsimp only)
   refine ζw (ζM (l:=36) rfl (Zi2 _ a.fin (ZbS a.n b.fin))) fun _=>?_;refine ζw (ZaI (l:=7) (l':=36) (j:=3) rfl rfl rfl rfl) fun _=>?_;rw [ζ2 _ _ _ rfl];(refine ζa ?_<;>(refine yL 38 (ζk (k:=5) (ps:=[pInt (a.n+b.n),pInt a.syms,pInts (a.start++ZbS a.n b.start),pInts (a.fin++ZbS a.n b.fin),PV.val hM]) 7 kR) fun v38 h=>?_;cases h)<;>(refine Zat [(1000,hM,PV.own 93 3 (Zdv a b).moves.length ((Zdv a b).moves.flatMap cMv)),(2,_,_),(3,_,_),(4,_,_),(7,_,_)] ⟨rfl,rfl,rfl,rfl,rfl,trivial⟩ ?_;refine ZbO [2,3,4,7] 39 (Tryz.call137) (Zo2 (Zdv a b) (by show (bsM a b).length≤1000000;omega) (ZlY ha hb) _ hM hMo r5 hr) ?_;rintro _ _ _ ⟨⟨V1,rfl⟩,rfl,rfl⟩)<;>refine xL 40 ζl (xL 41 ζl ?_)<;>refine ζt 4 ζo ?_<;>refine xL 5 ζc ?_<;>refine ζd ?_)
   exact Zaf (k:=5) 4 kR (Tryz.results88) rfl rfl rfl (Xa rfl) (by decide) r5.s rfl
theorem Zzl (a b:Aut):AF Tryz.prog 88 [ζS a,ζS b] (· =resW (Zgl a b)):=by
 unfold Zgl
 by_cases h0:Zb4 a b=0
 · rw [if_neg (fun h=>h h0)];obtain ⟨ha,hb,hs⟩:=ZhD h0;obtain ⟨p0,p1,p2,p3,p4,E,h5,h2,hr⟩:=Zgn (Zdv a b) (by have:=Zpi ha.toAOk hb.toAOk;show (bsM a b).length≤1000000;omega) (Zju ha hb hs);rw [h2];exact Zzk a b h0 h5 hr
 · rw [if_pos h0];exact Ztj a b _ h0 (Zie a b)
def ctM (a b:Aut) (i:Nat):List Mv:=bsM a b++Zg4 a.n (a.fin.take i) b.start
theorem ZrF (a b:Aut):ctM a b 0=bsM a b:=by show bsM a b++[]=bsM a b;rw [XB]
theorem Zzm {a b:Aut} {i:Nat} {f:Int} (h:a.fin[i]? =some f):ctM a b (i+1)=ctM a b i++Zff a.n f b.start:=by unfold ctM;rw [ZvL a.n b.start h,XA]
theorem ZBH (a b:Aut) {i:Nat} (h:a.fin.length≤i):ctM a b i=(ZcT a b).moves:=by unfold ctM;rw [Xo h];rfl
theorem ZBI {a b:Aut} {i j:Nat} (f:Int) (hi:i<a.fin.length) (hj:j≤b.start.length):(ctM a b i++Zff a.n f (b.start.take j)).length≤(ZcT a b).moves.length:=by
 rw [Zo3]
 unfold ctM bsM
 rw [Xc,Xc,Xc,ZiO,ZlW,Xu]
 unfold Zff
 rw [Xf,Xu]
 have h1:(i+1)*b.start.length≤a.fin.length*b.start.length:=X' _ hi
 rw [XQ] at h1
 rw [XU (VN hi),XU hj]
 omega
theorem ZrG (a b:Aut) (e:Int) (he:¬e=0) (hf:AF Tryz.prog 120 [ζS a,ζS b] (· =pInt e)):AF Tryz.prog 87 [ζS a,ζS b] (· = .tup [ZfG,pInt e]):=by
 refine AF.of_body 68 Tryz.func87 rfl Tryz.ntmps87 (Xa rfl) ?_
 intro w0 M0 vs hl hv
 obtain ⟨v0,v1,rfl⟩:=Zbl hl
 clear hl hv
 refine nav ?_
 (refine ζa ?_<;>refine ζH 2 5 fun h2=>?_<;>refine ζH 3 5 fun h3=>?_<;>refine ζs [(.int .i64 0),(.int .i64 0),(.slice none 0 0),(.slice none 0 0),(.slice none 0 0)] 5 4 ζN fun h4=>?_<;>refine xL 5 ζc ?_<;>refine ζd ?_)
 (refine ζa ?_<;>(refine yL 12 (ζk 2 ζo) fun v12 h=>?_;cases h)<;>(refine yL 13 (ζk 3 ζo) fun v13 h=>?_;cases h)<;>(refine cS 14 (cA Tryz.call120 (hf)) fun v14 h=>?_;cases h)<;>refine xL 6 ζc ?_<;>refine ζd ?_)
 (refine ζa ?_<;>refine xL 15 ζb (xL 16 Zaz ?_)<;>refine ζd ?_)
 (first|refine cCd ?_ ?_|refine cC ?_ ?_)<;>intro hb16
 · refine nav ?_;(refine ζa ?_<;>refine xL 17 (ζB ζX) (xL 18 ζb ?_)<;>refine ζt 4 ζo ?_<;>refine xL 5 ζc ?_<;>refine ζd ?_)
   exact Zaf (k:=5) 4 kR (Tryz.results87) rfl rfl rfl (Xa rfl) (by decide) rfl rfl
 · exact absurd (by simpa using hb16) he
set_option maxHeartbeats 2000000 in
theorem Zn3 (a b:Aut) (hf0:Zb4 a b=0) {p0 p1 p2 p3 p4:PV} {E:Int} (r5:R5 p0 p1 p2 p3 p4) (hr:(ZcT a b).moves.length≤40001→AF Tryz.prog 132 [ζS (mkA (ZcT a b))] (· = .tup [.agg [p0,p1,p2,p3,p4],pInt E])):AF Tryz.prog 87 [ζS a,ζS b] (fun p=>((ZcT a b).moves.length≤40001∧p= .tup [.agg [p0,p1,p2,p3,p4],pInt E])∨(20000<(ZcT a b).moves.length∧p= .tup [ZfG,pInt 13])):=by
 obtain ⟨o0,o1,o2,o3,o4⟩:=r5.o
 obtain ⟨ha,hb,hs⟩:=ZhD hf0
 have hf:=Zie a b
 rw [hf0] at hf
 have hn0:=ha.n0
 have hn1:=ha.n1
 have k1:=ha.sl
 have k2:=hb.sl
 have k3:=ha.fl
 have k4:=hb.fl
 have m1:=hb.n1
 have kml:=Zpi ha.toAOk hb.toAOk
 have l2:=ZeK a.n b.fin
 refine AF.of_body 68 Tryz.func87 rfl Tryz.ntmps87 (Xa rfl) ?_
 intro w0 M0 vs hl hv
 obtain ⟨v0,v1,rfl⟩:=Zbl hl
 clear hl hv
 refine nav ?_
 (refine ζa ?_<;>refine ζH 2 5 fun h2=>?_<;>refine ζH 3 5 fun h3=>?_<;>refine ζs [(.int .i64 0),(.int .i64 0),(.slice none 0 0),(.slice none 0 0),(.slice none 0 0)] 5 4 ζN fun h4=>?_<;>refine xL 5 ζc ?_<;>refine ζd ?_)
 (refine ζa ?_<;>(refine yL 12 (ζk 2 ζo) fun v12 h=>?_;cases h)<;>(refine yL 13 (ζk 3 ζo) fun v13 h=>?_;cases h)<;>(refine cS 14 (cA Tryz.call120 (hf)) fun v14 h=>?_;cases h)<;>refine xL 6 ζc ?_<;>refine ζd ?_)
 (refine ζa ?_<;>refine xL 15 ζb (xL 16 Zaz ?_)<;>refine ζd ?_)
 (first|refine cCd ?_ ?_|refine cC ?_ ?_)<;>intro hb16
 · first|omega|exact absurd rfl hb16|exact bN hb16
 · refine nav ?_;(refine ζa ?_<;>(refine yL 19 (ζk 2 ζo) fun v19 h=>?_;cases h)<;>(refine yL 20 (ζk 3 ζo) fun v20 h=>?_;cases h)<;>(refine ZbO [2,3,4] 21 (Tryz.call134) (Zn0 a b ha.toAOk hb.toAOk _ _) ?_;rintro V21 _ _ ⟨hM0,hM0o,rfl,rfl⟩;have qM:En.one (PV.val hM0)=true:=hM0o)<;>refine ζs [(.int .i64 0),(.int .i64 0),(.slice none 0 0),(.slice none 0 0),(.slice none 0 0)] 5 7 ζN fun h7=>?_<;>refine ζt 7 ζo ?_<;>refine ζd ?_)
   (refine ζY (fun i=>([9,10,11]:List Nat).elem i) [2,3,7] kR ?_<;>refine xDT 0 22 rfl (ζh 2 ZaJ) ?_<;>(refine yDT 1 23 rfl (ζq 2 ζD) fun v23 h=>?_;cases h)<;>refine xDT 3 25 rfl (ζh 3 Zau) ?_<;>(refine yDT 4 26 rfl (ζq 3 ζD) fun v26 h=>?_;cases h)<;>refine xDT 5 27 rfl (ζh 2 ζ5) ?_<;>(refine yDT 6 28 rfl (ζq 2 ζp) fun v28 h=>?_;cases h)<;>(refine ζi 2 kR ?_)<;>(refine ζf rfl fun w9 M9 N9 DQ back=>?_)<;>(refine cO 24 (cA Tryz.call135 (Zdg a.start (by omega))) fun v24 ho24=>?_;refine ζr (En.freeze (l:=24) (t:=24) rfl rfl) fun _=>?_;rw [ζ2 _ _ _ rfl])<;>refine ζe (back _ (nrm ?_))<;>refine xDT 8 30 rfl (ζh 7 ZaJ) ?_<;>(refine ζi 7 kR ?_)<;>(refine ζf rfl fun w9 M9 N9 DQ back=>?_)<;>(refine cO 29 (cA Tryz.call136 (ZeS b.fin a.n (by omega) (by omega) (fun x hx=>by have:=hb.fi x hx;omega))) fun v29 ho29=>?_;refine ζr (En.freeze (l:=29) (t:=29) rfl rfl) fun _=>?_;rw [ζ2 _ _ _ rfl])<;>refine ζe (back _ (nrm ?_))<;>(refine ζi 9 kR ?_)<;>(refine Zft rfl rfl fun DQ back=>?_)<;>refine ZbQ 7 ζD Zcm ?_<;>refine ζe (back _ ?_)<;>(refine Zdt 10 kR rfl rfl fun DQ back=>?_)<;>refine xL 31 (ζh 7 Zau) ?_<;>refine ζe (back _ ?_)<;>(refine Zdt 11 kR rfl rfl fun DQ back=>?_)<;>refine ZbQ 7 ζD Zcm ?_<;>refine ζe (back _ ?_)<;>refine Zhj kR (nav ?_)<;>try dsimp only)
   refine ζw (ζM (l:=1000) (p':= .own 93 3 (ctM a b 0).length ((ctM a b 0).flatMap cMv)) rfl (by rw [ZrF])) fun _=>?_;(refine ζa ?_<;>refine xL 32 (ζh 2 Zau) ?_<;>(refine yL 33 (ζq 2 ζD) fun v33 h=>?_;cases h)<;>refine xL 34 (ζU ζu) (xL 35 ζb ?_)<;>refine ζd ?_)
   refine ζy (ι:={q:Nat×Value//q.1≤a.fin.length∧q.2.oneCell'=true∧(ctM a b q.1).length≤40001}) (fun k=>⟨[(2,_,_),(3,_,_),(4,_,_),(7,_,_),(33,_,_),(34,_,_),(35, .int .i64 k.1.1,pInt k.1.1)],[(2,_,_),(3,_,_),(4,_,_),(7,h7, .own 39 5 1 [pInt (a.n+b.n),pInt a.syms,pInts a.start,pInts (ZbS a.n b.fin), .val k.1.2]),(1000,k.1.2, .own 93 3 (ctM a b k.1.1).length ((ctM a b k.1.1).flatMap cMv))]⟩) (fun k=>a.fin.length-k.1.1) ⟨(0,hM0),Xe _,hM0o,by show (ctM a b 0).length≤40001;rw [ZrF];omega⟩ (fun a w H=>H.weaken ⟨rfl,rfl,rfl,rfl,rfl,rfl,rfl,trivial⟩ ⟨rfl,rfl,rfl,rfl,rfl,trivial⟩) ?_;rintro ⟨⟨i,hI⟩,hi,hIo,hIl⟩;dsimp only;dsimp only at hi hIo hIl;have q5:En.one (PV.val hI)=true:=hIo;refine nav ?_;(refine ζa ?_<;>refine xL 36 ζK ?_<;>refine ζd ?_)
   (first|refine cCd ?_ ?_|refine cC ?_ ?_)<;>intro hb36
   · first
     |exact bN hb36
     | (
      obtain ⟨f,hf⟩:=ζm (show i<a.fin.length by omega);have e1:=Zas (f:=pInt) hf;have hfin:=ha.fi f (Xb hf);refine nav ?_;(refine ζa ?_<;>refine xL 37 (ζI ζu) ?_<;>(refine yL 38 (ZaE ζp) fun v38 h=>?_;cases h)<;>refine xL 9 ζc ?_<;>refine ζd ?_)
      (refine ζa ?_<;>refine xL 39 (ζh 3 ZaJ) ?_<;>(refine yL 40 (ζq 3 ζD) fun v40 h=>?_;cases h)<;>refine xL 41 (ζU ζu) (xL 42 ζb ?_)<;>refine ζd ?_)
      refine ζw (ζM (l:=1000) (p':= .own 93 3 (ctM a b i++Zff a.n f (b.start.take 0)).length ((ctM a b i++Zff a.n f (b.start.take 0)).flatMap cMv)) rfl (by rw [show Zff a.n f (b.start.take 0)=[] from rfl,XB])) fun _=>?_;refine ζy (ι:={q:Nat×Value//q.1≤b.start.length∧q.2.oneCell'=true∧(ctM a b i++Zff a.n f (b.start.take q.1)).length≤40001}) (fun k=>⟨[(2,_,_),(3,_,_),(4,_,_),(7,_,_),(9,_,_),(33,_,_),(34,_,_),(35,_,_),(40,_,_),(41,_,_),(42, .int .i64 k.1.1,pInt k.1.1)],[(2,_,_),(3,_,_),(4,_,_),(7,h7, .own 39 5 1 [pInt (a.n+b.n),pInt a.syms,pInts a.start,pInts (ZbS a.n b.fin), .val k.1.2]),(1000,k.1.2, .own 93 3 (ctM a b i++Zff a.n f (b.start.take k.1.1)).length ((ctM a b i++Zff a.n f (b.start.take k.1.1)).flatMap cMv))]⟩) (fun k=>b.start.length-k.1.1) ⟨(0,hI),Xe _,hIo,by show (ctM a b i++[]).length≤40001;rw [XB];exact hIl⟩ (fun a w H=>H.weaken ⟨rfl,rfl,rfl,rfl,rfl,rfl,rfl,rfl,rfl,rfl,rfl,trivial⟩ ⟨rfl,rfl,rfl,rfl,rfl,trivial⟩) ?_;rintro ⟨⟨j,hJ⟩,hj,hJo,hJl⟩;dsimp only;dsimp only at hj hJo hJl;have q6:En.one (PV.val hJ)=true:=hJo;refine nav ?_;(refine ζa ?_<;>refine xL 43 ζK ?_<;>refine ζd ?_)
      (first|refine cCd ?_ ?_|refine cC ?_ ?_)<;>intro hb43
      · first
        |exact bN hb43
        | (
         obtain ⟨s,hs⟩:=ζm (show j<b.start.length by omega);have e2:=Zas (f:=pInt) hs;have hsin:=hb.st s (Xb hs);have hpart:=ZBI f (by omega:i<a.fin.length) hj;refine nav ?_;(refine ζa ?_<;>refine xL 44 (ζI ζu) ?_<;>(refine yL 45 (ZaE ζp) fun v45 h=>?_;cases h)<;>refine xL 11 ζc ?_<;>refine ζd ?_)
         (refine ζa ?_<;>refine xL 46 (ζh 7 ζE) ?_<;>(refine yL 47 (ζq 7 ζO) fun v47 h=>?_;cases h)<;>refine xL 48 (ZaH 1000 ζR) (xL 49 ZaF ?_)<;>refine ζd ?_)
         (first|refine cCd ?_ ?_|refine cC ?_ ?_)<;>intro hb49
         · first
           |exact bN hb49
           | (
            refine nav ?_;(refine ζa ?_<;>refine xL 50 (ζB ζX) ?_<;>refine ζt 4 ζo ?_<;>refine xL 5 ζc ?_<;>refine ζd ?_)
            exact Zaf (k:=5) 4 kR (Tryz.results87) rfl rfl rfl (Xa rfl) (by decide) rfl (.inr ⟨by omega,rfl⟩))
         · first
           |exact bN hb49
           | (
            refine nav ?_;(refine ζa ?_<;>refine xL 51 (ζh 7 ζE) ?_<;>(refine yL 52 (ζq 7 ζO) fun v52 h=>?_;cases h)<;>refine xL 53 ζb (xL 54 ζb (xL 55 (ζh 2 ζ5) ?_))<;>(refine yL 56 (ζq 2 ζp) fun v56 h=>?_;cases h)<;>refine xL 57 ζG (xL 58 (ζB Zcn) ?_)<;>refine Zaw 59 Zaj fun h59 ho59=>?_<;>(refine ζ0 1000 59 60 Zaj fun h60 ho60=>?_;refine ζr (ζF (l:=60) 1000 rfl rfl) fun _=>?_;refine ζr (ζM (l:=1000) rfl ((Zcq _ (ctM a b i++Zff a.n f (b.start.take j)) ⟨f,s+a.n,-1⟩).trans (by rw [XA,←ZnA a.n f hs]))) fun _=>?_;have q60:En.one (PV.val h60)=true:=ho60)<;>refine xL 61 (ζh 7 ζE) ?_<;>refine ZbQ 7 ζO Zby ?_<;>refine ζd ?_)
            (refine ζa ?_<;>refine xL 62 ζG (xL 42 ζb ?_)<;>refine ζd ?_)
            (have hl3:(ctM a b i++Zff a.n f (b.start.take (j+1))).length≤40001:=by rw [ZnA a.n f hs,←XA,Xc,Xt];omega);refine ζj (
             ⟨(j+1,h60),ζg hs,ho60,hl3⟩
             ) (by dsimp only;omega) ⟨rfl,rfl,rfl,rfl,rfl,rfl,rfl,rfl,rfl,rfl,rfl,trivial⟩ ⟨rfl,rfl,rfl,rfl,rfl,trivial⟩))
      · first
        |exact bN hb43
        | (
         (have hctS:ctM a b i++Zff a.n f (b.start.take j)=ctM a b (i+1):=by rw [Xo (show b.start.length≤j by omega),Zzm hf]);rw [hctS] at hJl;refine ζw (ζM (l:=1000) (p':= .own 93 3 (ctM a b (i+1)).length ((ctM a b (i+1)).flatMap cMv)) rfl (by rw [hctS])) fun _=>?_;refine nav ?_;(refine ζa ?_<;>refine xL 63 ζG (xL 35 ζb ?_)<;>refine ζd ?_)
         refine ζj (
          ⟨(i+1,hJ),ζg hf,hJo,hJl⟩
          ) (by dsimp only;omega) ⟨rfl,rfl,rfl,rfl,rfl,rfl,rfl,trivial⟩ ⟨rfl,rfl,rfl,rfl,rfl,trivial⟩))
   · first
     |exact bN hb36
     | (
      have hctA:=ZBH a b (show a.fin.length≤i by omega);rw [hctA] at hIl;have hr:=hr hIl;refine ζw (ζM (l:=1000) (p':= .own 93 3 (ZcT a b).moves.length ((ZcT a b).moves.flatMap cMv)) rfl (by rw [hctA])) fun _=>?_;refine nav ?_;(refine ζa ?_<;>(refine yL 64 (ζk (k:=5) (ps:=[pInt (a.n+b.n),pInt a.syms,pInts a.start,pInts (ZbS a.n b.fin),PV.val hI]) 7 kR) fun v64 h=>?_;cases h)<;>(refine Zat [(1000,hI,PV.own 93 3 (ZcT a b).moves.length ((ZcT a b).moves.flatMap cMv)),(2,_,_),(3,_,_),(4,_,_),(7,_,_)] ⟨rfl,rfl,rfl,rfl,rfl,trivial⟩ ?_;refine ZbO [2,3,4,7] 65 (Tryz.call137) (Zo2 (ZcT a b) (by omega) (ZnC ha hb) _ hI hIo r5 hr) ?_;rintro _ _ _ ⟨⟨V1,rfl⟩,rfl,rfl⟩)<;>refine xL 66 ζl (xL 67 ζl ?_)<;>refine ζt 4 ζo ?_<;>refine xL 5 ζc ?_<;>refine ζd ?_)
      exact Zaf (k:=5) 4 kR (Tryz.results87) rfl rfl rfl (Xa rfl) (by decide) r5.s (.inl ⟨hIl,rfl⟩))
theorem ZjI (a b:Aut):AF Tryz.prog 87 [ζS a,ζS b] (· =resW (Zg5 a b)):=by
 unfold Zg5
 by_cases h0:Zb4 a b=0
 · rw [if_neg (fun h=>h h0)];obtain ⟨ha,hb,hs⟩:=ZhD h0;have h13:20000<(ZcT a b).moves.length→ZdB (ZcT a b)= .error 13:=fun h=>by
    rw [ZyA ha hb hs,ZvX ha hb (.inr (by rw [←Zo3];exact h))]
   rcases Xv 40001 (ZcT a b).moves.length with hl|hl
   · refine (Zn3 a b h0 R5.raw (E:=13) fun h=>by omega).mono fun p hp=>?_;rw [h13 (by omega)];rcases hp with ⟨h,_⟩|⟨_,h⟩
     · omega
     · exact h
   · obtain ⟨p0,p1,p2,p3,p4,E,h5,h2,hr⟩:=Zgn (ZcT a b) (by omega) (ZkP ha hb hs);refine (Zn3 a b h0 h5 fun _=>hr).mono fun p hp=>?_;rcases hp with ⟨_,h⟩|⟨hl2,h⟩
     · rw [h2];exact h
     · rw [h13 hl2];exact h
 · rw [if_pos h0];exact ZrG a b _ h0 (Zie a b)
theorem Zzn (L:List Mv) (k:Nat) (x:Mv) (h:k<L.length):ZdU (L.flatMap cMv) (k*3) (cMv x)=(L.set k x).flatMap cMv:=by
 have e:L=L.take k++[L[k]]++L.drop (k+1):=by
  rw [XA,List.singleton_append,List.getElem_cons_drop,Vq]
 have e2:L.set k x=L.take k++[x]++L.drop (k+1):=by
  rw [List.set_eq_take_append_cons_drop,if_pos h,XA];rfl
 rw [e2]
 conv=>lhs;rw [e]
 simp only [XS,VD]
 exact ZoC (α:=Int) (cMv x) _ _ _ _ (by rw [flat_len Zac,Xu,XU (VN h)]) rfl
theorem ZCn {x y:Mv} (h:¬Zea x y<0):y=x∨ZdK y x=true:=by
 rw [ZeP] at h
 cases h2:ZdK y x with
 |true=>exact .inr rfl
 |false=>exact .inl (ZlL h2 (by simpa using h))
theorem ZDz {l:List Mv} (h:1≤l.length):mkM (l.take 1)=l.take 1:=by
 cases l with
 |nil=>simp at h
 |cons x l=>rfl
theorem Zuy {l:List Mv} {p:Nat} {x y:Mv} (hy:l[p]? =some y) (hx:l[p+1]? =some x) (he:eqM x y=true):mkM (l.take (p+1+1))=mkM (l.take (p+1)):=by
 have e:=Ze5.1 he
 subst e
 refine ZlM (Zek _) (Zek _) fun z=>?_
 rw [Zc6,Zc6,ζQ hx,Xs,Xi]
 exact ⟨fun h=>h.elim id fun h=>by subst h;rw [ζQ hy];exact X3 _ (Xi.2 rfl), .inl⟩
theorem Zzo {l:List Mv} (hs:Sorted l) {p:Nat} {x y:Mv} (hy:l[p]? =some y) (hx:l[p+1]? =some x) (he:eqM x y=false):mkM (l.take (p+1+1))=mkM (l.take (p+1))++[x]:=by
 have hyx:ZdK y x=true:=by
  rcases ZCn (hs p (p+1) y x (by omega) hy hx) with h|h
  · subst h;rw [Ze5.2 rfl] at he;cases he
  · exact h
 refine (ZsU ?_ fun z=>?_).symm
 · refine UB.2 ⟨Zek _,VC ..,fun z hz w hw=>?_⟩;rw [Xi.1 hw];rw [Zc6] at hz;obtain ⟨i,hi⟩:=Ve hz;have hi':=ζg hi;rw [Xu] at hi';rw [XZ (by omega)] at hi;by_cases e:i=p
   · subst e;rw [hi] at hy;cases hy;exact hyx
   · rcases ZCn (hs i p z y (by omega) hi hy) with h|h
     · subst h;exact hyx
     · exact ZiK h hyx
 · rw [Xs,Zc6,Xi,ζQ hx,Xs,Xi]
theorem ZBJ {hv:Value} (h:hv.oneCell'=true) (i j k:Nat):(slc hv i j k).oneCell'=true:=by
 unfold slc;split
 · rfl
 · exact h
set_option maxHeartbeats 2000000 in
theorem ZrH (l : List Mv) (hl:l.length≤1000000) (hs:Sorted l) (hv:Value) (hvo:hv.oneCell'=true):AFh False Tryz.prog 189 [(0,hv, .val hv)] [(1000,hv, .own 93 3 l.length (l.flatMap cMv))] (fun v q h=>v.oneCell'=true∧q= .val v∧h=[(1000,v, .own 93 3 (mkM l).length ((mkM l).flatMap cMv))]):=by
 refine AFh.of_body 61 Tryz.func189 rfl Tryz.ntmps189 (Xa rfl) rfl ?_
 intro w0 M0 N0
 refine nav ?_
 (refine ζa ?_<;>refine xL 2 ζc ?_<;>refine ζd ?_)
 (refine ζa ?_<;>refine xL 6 ζb (xL 7 (ZaH 1000 ζR) (xL 8 ζK ?_))<;>refine ζd ?_)
 (first|refine cCd ?_ ?_|refine cC ?_ ?_)<;>intro hb8
 · first
   |exact bN hb8
   | (
    refine nav ?_;(refine ζa ?_<;>refine xL 9 ζb (xL 2 ζc ?_)<;>refine ζd ?_)
    refine ZhL [(1000,hv,PV.own 93 3 l.length (l.flatMap cMv))] (Tryz.results189) rfl ⟨rfl,trivial⟩ ⟨hvo,rfl,?_⟩;have hm:mkM l=l:=by
     match l,hl,hb8 with
     |[],_,_=>rfl
     |[_],_,_=>rfl
     |_::_::_,_,h=>simp at h;omega
    rw [hm])
 · first
   |exact bN hb8
   | (
    refine nav ?_;(refine ζa ?_<;>refine xL 3 ζc ?_<;>refine ζd ?_)
    refine ζy (ι:={k:Nat//1≤k∧k≤l.length∧mkM (l.take k)=l.take k}) (fun k=>⟨[(0,_,_),(3, .int .i64 k.1,pInt k.1)],[(1000,_,_)]⟩) (fun k=>l.length-k.1) ⟨1,Xd _,by omega,ZDz (by omega)⟩ (fun a w H=>H.weaken ⟨rfl,rfl,trivial⟩ ⟨rfl,trivial⟩) ?_;rintro ⟨k1,hk1,hk,hmk⟩;dsimp only;obtain ⟨k,rfl⟩:∃k,k1=k+1:=⟨k1-1,by omega⟩;refine nav ?_;(refine ζa ?_<;>refine xL 10 ζb (xL 11 ζb (xL 12 (ZaH 1000 ζR) (xL 13 ζK ?_)))<;>refine ζd ?_)
    (first|refine cCd ?_ ?_|refine cC ?_ ?_)<;>intro hb13
    · first
      |exact bN hb13
      | (
       obtain ⟨x,hx⟩:=ζm (show k+1<l.length by omega);obtain ⟨y,hy⟩:=ζm (show k<l.length by omega);have e1:=Zaq Zac l (k+1) x hx;have e2:=ZaP Zac hx;(have e3:((l.flatMap cMv).drop ((((k+1:Nat):Int)-1).toNat*3)).take 3=cMv y:=by rw [show (((k+1:Nat):Int)-1).toNat*3=k*3 by omega];exact Zaq Zac l k y hy);have e4:=ZaP Zac hy;have hlt:k+1<l.length:=ζg hx;refine nav ?_;(refine ζY (fun i=>([]:List Nat).elem i) [1000] kR ?_<;>refine xD 0 16 rfl ζb ?_<;>refine xD 1 17 rfl ζb ?_<;>refine xD 2 18 rfl (ζv 1000 ζR) ?_<;>(refine yD 3 19 rfl (ζk 1000 ζ8) fun v19 h=>?_;cases h)<;>refine xD 4 20 rfl ζb ?_<;>refine xE 5 21 rfl ζb ?_<;>refine xE 6 22 rfl ZeX ?_<;>refine xE 7 23 rfl (Zdp 1000 ζR) ?_<;>(refine yE 8 24 rfl (ζk 1000 ζ8) fun v24 h=>?_;cases h)<;>refine xE 9 25 rfl ((ZCf (us:=vMv x) (us':=vMv y) ZDn ZDo ZDp (Zjx x y) rfl rfl)) ?_<;>refine Zam kR (nav ?_)<;>try dsimp only)
       (first|refine cCd ?_ ?_|refine cC ?_ ?_)<;>intro hb25
       · first
         |exact bN hb25
         | (
          have hsm:=Zuy hy hx (by simpa using hb25);(have hl1:(mkM (l.take (k+1+1))).length=k+1:=by rw [hsm,hmk,Xu];omega);refine nav ?_;(refine ζa ?_<;>refine xL 26 ζb (xL 27 ζb ?_)<;>refine xL 28 (ZcP (i:=k+1) (j:=l.length) 1000 ζR rfl rfl rfl rfl rfl (VN hlt) (Xd _)) ?_<;>refine xL 4 ζc ?_<;>refine ζd ?_)
          (refine ζa ?_<;>refine xL 5 ζc ?_<;>refine ζd ?_)
          refine ζy (ι:={q:Nat×Nat×List Mv//1≤q.1∧k+1+q.1≤l.length∧q.2.1=(mkM (l.take (k+1+q.1))).length∧q.2.2.length=l.length∧q.2.2.take q.2.1=mkM (l.take (k+1+q.1))∧q.2.1≤k+q.1∧∀i,k+q.1≤i→q.2.2[i]? =l[i]? }) (fun k=>⟨[(0,_,_),(4,_,_),(3, .int .i64 k.1.2.1,pInt k.1.2.1),(5, .int .i64 k.1.1,pInt k.1.1)],[(1000,hv, .own 93 3 l.length (k.1.2.2.flatMap cMv))]⟩) (fun k=>l.length-k.1.1) ⟨(1,k+1,l),Xd _,by dsimp only;omega,hl1.symm,rfl,by dsimp only;rw [hsm,hmk],Xd _,fun i _=>rfl⟩ (fun a w H=>H.weaken ⟨rfl,rfl,rfl,rfl,trivial⟩ ⟨rfl,trivial⟩) ?_;rintro ⟨⟨j,K,L⟩,hj1,hj,hK,hLl,hLt,hKj,hLr⟩;dsimp only;dsimp only at hj1 hj hK hLl hLt hKj hLr;obtain ⟨j',rfl⟩:∃j',j=j'+1:=⟨j-1,by omega⟩;(have hK2:(K:Int)≤1000000:=by omega);rw [show k+1+(j'+1)=k+1+j'+1 from rfl] at hK hLt;refine nav ?_;(refine ζa ?_<;>refine xL 29 ζb (xL 30 ζb ?_)<;>refine xL 31 ((Zm9 (a:=k+1) (m:=l.length-(k+1)) 1000 ζR rfl rfl rfl rfl)) ?_<;>refine xL 32 ζK ?_<;>refine ζd ?_)
          (first|refine cCd ?_ ?_|refine cC ?_ ?_)<;>intro hb32
          · first
            |exact bN hb32
            | (
             obtain ⟨u,hu⟩:=ζm (show k+1+(j'+1)<l.length by omega);obtain ⟨v,hv2⟩:=ζm (show k+1+j'<l.length by omega);(have hu':L[k+1+(j'+1)]? =some u:=by rw [hLr _ (by omega)];exact hu);(have hv':L[k+1+j']? =some v:=by rw [hLr _ (by omega)];exact hv2);have g1:=Zaq Zac L _ u hu';have g2:=ZaP Zac hu';have g3:=Zaq Zac L _ v hv';have g4:=ZaP Zac hv';(have g5:K<L.length:=by omega);(have g6:K*3+3≤(L.flatMap cMv).length:=by rw [flat_len Zac];omega);refine nav ?_;(refine ζY (fun i=>([]:List Nat).elem i) [1000] kR ?_<;>refine xD 0 35 rfl ζb ?_<;>refine xD 1 36 rfl ζb ?_<;>refine xD 2 37 rfl ((Zep (a:=k+1) (m:=(k+1+(j'+1))*3) 1000 ζR rfl rfl rfl rfl (by omega) (by omega) (by omega))) ?_<;>(refine yD 3 38 rfl (ζk 1000 ζ8) fun v38 h=>?_;cases h)<;>refine xD 4 39 rfl ζb ?_<;>refine xE 5 40 rfl ζb ?_<;>refine xE 6 41 rfl ZeX ?_<;>refine xE 7 42 rfl ((Zep (a:=k+1) (m:=(k+1+j')*3) 1000 ζR rfl rfl rfl rfl (by omega) (by omega) (by omega))) ?_<;>(refine yE 8 43 rfl (ζk 1000 ζ8) fun v43 h=>?_;cases h)<;>refine xE 9 44 rfl ((ZD2 (us:=vMv u) (us':=vMv v) ZDn ZDo ZDp (Zjx u v) rfl rfl)) ?_<;>refine Zam kR (nav ?_)<;>try dsimp only)
             (first|refine cCd ?_ ?_|refine cC ?_ ?_)<;>intro hb44
             · first
               |exact bN hb44
               | (
                have hnw2:=Zzo hs hv2 hu (by simpa using hb44);have hset:=Zzn L K u g5;(have hlen2:K+1=(mkM (l.take (k+1+j'+1+1))).length:=by rw [hnw2,Xc,Xt,hK]);have htk2:(L.set K u).take (K+1)=mkM (l.take (k+1+j'+1+1)):=by
                 rw [hnw2,←hLt,List.take_set,ζQ (XM g5),Uz _ _ (by rw [Xu];omega),Xu,XU (by omega),VA];rfl
                refine nav ?_;(refine ζa ?_<;>refine xL 45 ζb (xL 46 ζb (xL 47 ζb (xL 48 ζb ?_)))<;>refine xL 49 ((Zep (a:=k+1) (m:=(k+1+(j'+1))*3) 1000 ζR rfl rfl rfl rfl (by omega) (by omega) (by omega))) ?_<;>(refine yL 50 (ζk 1000 ζ8) fun v50 h=>?_;cases h)<;>refine xL 51 (ζv 1000 ζR) ?_<;>refine ζt 1000 ζ8 ?_<;>refine ζd ?_)
                (refine ζa ?_<;>refine xL 52 ζb (xL 53 ζG (xL 3 ζc ?_))<;>refine ζd ?_)
                (refine ζa ?_<;>refine xL 33 ζb (xL 34 ζG (xL 5 ζc ?_))<;>refine ζd ?_)
                try rw [hset]
                first
                 | (exact ζj (
                     ⟨(j'+1+1,K+1,L.set K u),by dsimp only;omega,by dsimp only;omega,hlen2,by dsimp only;rw [Xp];exact hLl,htk2,by dsimp only;omega,fun i hi=>by dsimp only at hi ⊢;rw [X6 (by omega)];exact hLr i (by omega)⟩
                     ) (by dsimp only;omega) ⟨rfl,rfl,rfl,rfl,trivial⟩ ⟨rfl,trivial⟩)
                 | (exact ζj (
                     ⟨(j'+1+1,K,L),by dsimp only;omega,by dsimp only;omega,hK.trans (by rw [show k+1+(j'+1+1)=k+1+j'+1+1 by omega,hsm2]),hLl,hLt.trans (by rw [show k+1+(j'+1+1)=k+1+j'+1+1 by omega,hsm2]),by dsimp only;omega,fun i hi=>hLr i (by dsimp only at hi;omega)⟩
                     ) (by dsimp only;omega) ⟨rfl,rfl,rfl,rfl,trivial⟩ ⟨rfl,trivial⟩))
             · first
               |exact bN hb44
               | (
                have hsm2:=Zuy hv2 hu (by simpa using hb44);refine nav ?_;(refine ζa ?_<;>refine xL 33 ζb (xL 34 ζG (xL 5 ζc ?_))<;>refine ζd ?_)
                try rw [hset]
                first
                 | (exact ζj (
                     ⟨(j'+1+1,K+1,L.set K u),by dsimp only;omega,by dsimp only;omega,hlen2,by dsimp only;rw [Xp];exact hLl,htk2,by dsimp only;omega,fun i hi=>by dsimp only at hi ⊢;rw [X6 (by omega)];exact hLr i (by omega)⟩
                     ) (by dsimp only;omega) ⟨rfl,rfl,rfl,rfl,trivial⟩ ⟨rfl,trivial⟩)
                 | (exact ζj (
                     ⟨(j'+1+1,K,L),by dsimp only;omega,by dsimp only;omega,hK.trans (by rw [show k+1+(j'+1+1)=k+1+j'+1+1 by omega,hsm2]),hLl,hLt.trans (by rw [show k+1+(j'+1+1)=k+1+j'+1+1 by omega,hsm2]),by dsimp only;omega,fun i hi=>hLr i (by dsimp only at hi;omega)⟩
                     ) (by dsimp only;omega) ⟨rfl,rfl,rfl,rfl,trivial⟩ ⟨rfl,trivial⟩)))
          · first
            |exact bN hb32
            | (
             have hall:l.take (k+1+j'+1)=l:=Xo (by omega);rw [hall] at hK hLt;(have hKl:K≤l.length:=by omega);refine nav ?_;(refine ζa ?_<;>refine xL 54 ζb (xL 55 ζb ?_)<;>refine xL 56 (ZcP (i:=K) (j:=l.length) 1000 ζR rfl rfl rfl rfl rfl hKl (Xd _)) ?_<;>(refine Zk8 1000 Zaj (by decide) rfl rfl rfl rfl rfl hKl ?_;intro cs2 hcs1 hcs2)<;>refine ζd ?_)
             (refine ζa ?_<;>refine xL 57 ζb (xL 58 ζb ?_)<;>refine xL 59 (ZcP (i:=0) (j:=K) 1000 ζR rfl rfl rfl rfl rfl (Xe _) hKl) ?_<;>refine xL 2 ζc ?_<;>refine ζd ?_)
             refine Za2 (Zw2 (l:=1000) K rfl hKl) fun _=>?_;refine ZhL [(1000,slc hv 0 K 3,PV.own 93 3 K (cs2.take (K*3)))] (Tryz.results189) rfl ⟨rfl,trivial⟩ ⟨ZBJ hvo _ _ _,rfl,?_⟩;rw [hcs2,←hLt,Zl7 Zac];rw [show (L.take K).length=K by rw [Xu];omega]))
       · first
         |exact bN hb25
         | (
          have hnw:=Zzo hs hy hx (by simpa using hb25);rw [hmk,←ζQ hx] at hnw;refine nav ?_;(refine ζa ?_<;>refine xL 14 ζb (xL 15 ζG (xL 3 ζc ?_))<;>refine ζd ?_)
          refine ζj (
           ⟨k+1+1,by omega,by omega,hnw⟩
           ) (by dsimp only;omega) ⟨rfl,rfl,trivial⟩ ⟨rfl,trivial⟩))
    · first
      |exact bN hb13
      | (
       refine nav ?_;(refine ζa ?_<;>refine xL 60 ζb (xL 2 ζc ?_)<;>refine ζd ?_)
       refine ZhL [(1000,hv,PV.own 93 3 l.length (l.flatMap cMv))] (Tryz.results189) rfl ⟨rfl,trivial⟩ ⟨hvo,rfl,?_⟩;rw [Xo (show l.length≤k+1 by omega)] at hmk;rw [hmk]))
theorem ZBK {l m:List Mv} (h:l.Perm m):mkM l=mkM m:=ZsU (Zek l) fun x=>by rw [Zc6];exact h.mem_iff
theorem ZBL (a:Aut) (hl:a.moves.length≤1000000) (V hM:Value) (hMo:hM.oneCell'=true) {p0 p1 p2 p3 p4:PV} {E:Int} (h5:R5 p0 p1 p2 p3 p4) (hr:AF Tryz.prog 132 [ζS (mkA a)] (· = .tup [.agg [p0,p1,p2,p3,p4],pInt E])):AFh False Tryz.prog 137 [(0,V, .agg [pInt a.n,pInt a.syms,pInts a.start,pInts a.fin, .val hM])] [(1000,hM, .own 93 3 a.moves.length (a.moves.flatMap cMv))] (fun v q h=>(∃V1:Value,v= .tuple [V1, .int .i64 E].toArray)∧q= .tup [.agg [p0,p1,p2,p3,p4],pInt E]∧h=[]):=by
 obtain ⟨o0,o1,o2,o3,o4⟩:=h5.o
 refine AFh.of_body 15 Tryz.func137 rfl Tryz.ntmps137 (Xa rfl) rfl ?_
 intro w0 M0 N0
 have hone:En.one (PV.val hM)=true:=hMo
 refine nav ?_
 (refine ζa ?_<;>refine ζH 1 5 fun h1=>?_<;>refine ζs [(.int .i64 0),(.int .i64 0),(.slice none 0 0),(.slice none 0 0),(.slice none 0 0)] 5 2 ζN fun h2=>?_<;>refine xL 3 ζc ?_<;>refine ζd ?_)
 (refine ζa ?_<;>refine xL 4 (ζh 1 ζE) ?_<;>(refine yL 5 (ζq 1 ζO) fun v5 h=>?_;cases h)<;>(rcases Va a.moves.length with h0|h0<;>first|(refine ζr (ζM (l:=1000) (p':= .own 93 3 0 []) rfl (by rw [XO h0];rfl)) fun _=>?_;refine Zrj (l:=1000) Zki rfl rfl (Xa rfl) rfl (Tryz.call188) rfl rfl rfl ?_;obtain ⟨rows',hperm,hord⟩:∃rows':List Mv,rows'.Perm a.moves∧Sorted rows':=⟨[],by rw [XO h0],fun i j x y _ h=>by simp at h⟩;refine ζr (ζM (l:=1000) (p':= .own 93 3 rows'.length (rows'.flatMap cMv)) rfl (by rw [XO (hperm.length_eq.trans h0)];rfl)) fun _=>?_)|(refine ZtL (l:=1000) (β:=Mv) (f:=cMv) (cmp:=Zea) (rows:=a.moves) Zrm Zac (by decide) (fun _=>rfl) ZnL Zrk Zrl (fun x y M W u v _ _ hu hv=>ZnM x y M W u v hu hv) h0 (by omega) rfl rfl (Xa rfl) rfl (Tryz.call188) rfl rfl rfl (fun rows' hperm hord=>?_);refine ζr (ζM (l:=1000) (p':= .own 93 3 rows'.length (rows'.flatMap cMv)) rfl (by rw [hperm.length_eq])) fun _=>?_))<;>refine ζd ?_)<;>(
  (refine ζa ?_<;>refine xL 7 (ζh 1 ζE) ?_<;>(refine yL 8 (ζq 1 ζO) fun v8 h=>?_;cases h)<;>(refine Zat [(1000,hM,PV.own 93 3 rows'.length (rows'.flatMap cMv)),(1,_,_),(2,_,_)] ⟨rfl,rfl,rfl,trivial⟩ ?_;refine ZbO [1,2] 9 (Tryz.call189) (ZrH rows' (by have:=hperm.length_eq;omega) hord hM hMo) ?_;rintro v9 _ _ ⟨hv9,rfl,rfl⟩;refine ζr (ζM (l:=1000) (p':= .own 93 3 (mkM a.moves).length ((mkM a.moves).flatMap cMv)) rfl (by rw [ZBK hperm])) fun _=>?_;have hone9:En.one (PV.val v9)=true:=hv9)<;>refine xL 10 (ζh 1 ζE) ?_<;>refine ZbQ 1 ζO Zby ?_<;>refine ζd ?_)
  refine ζw (ZaI (l:=1) (l':=1000) (j:=4) rfl rfl rfl rfl) fun _=>?_;rw [Zjw _ _ _ rfl];(refine ζa ?_<;>(refine yL 11 (ζk 1 ζo) fun v11 h=>?_;cases h)<;>(refine cP 12 (cA Tryz.call132 hr) (fun va12 vb12 hva12 hvb12=>?_) (hsh:=h5.t E);cases hvb12)<;>refine xL 13 ζl (xL 14 ζl ?_)<;>refine ζt 2 ζo ?_<;>refine xL 3 ζc ?_<;>refine ζd ?_)
  exact ZtP (k:=5) 2 [] kR (Tryz.results137) rfl rfl rfl (Xa rfl) (by decide) h5.s trivial fun V=>⟨⟨V,rfl⟩,rfl,rfl⟩)
theorem Zha {x y X Y:Int} (hx:0≤x∧x≤X) (hy:0≤y∧y≤Y):0≤x*y∧x*y≤X*Y:=⟨Int.mul_nonneg hx.1 hy.1,Int.mul_le_mul hx.2 hy.2 hy.1 (by omega)⟩
def ZjJ (m:Int) (x:Mv) (j:Nat):List Mv:=(List.range j).map fun j=>⟨x.src*m+(j:Nat),x.dst*m+(j:Nat),x.sym⟩
theorem Zwj (m:Int) (x:Mv) (j:Nat):ZjJ m x (j+1)=ZjJ m x j++[⟨x.src*m+(j:Nat),x.dst*m+(j:Nat),x.sym⟩]:=by unfold ZjJ;rw [Uo,Xy];rfl
def ZjK (m:Int) (x:Mv) (i:Nat):List Mv:=(List.range i).map fun i=>⟨(i:Nat)*m+x.src,(i:Nat)*m+x.dst,x.sym⟩
theorem Zwk (m:Int) (x:Mv) (i:Nat):ZjK m x (i+1)=ZjK m x i++[⟨(i:Nat)*m+x.src,(i:Nat)*m+x.dst,x.sym⟩]:=by unfold ZjK;rw [Uo,Xy];rfl
def smA (a b:Aut) (k:Nat):List Mv:=(a.moves.take k).flatMap (shL b.n)
def smB (a b:Aut) (k:Nat):List Mv:=a.moves.flatMap (shL b.n)++(b.moves.take k).flatMap (shR a.n b.n)
theorem Zzp {a b:Aut} {k:Nat} {x:Mv} (h:a.moves[k]? =some x):smA a b (k+1)=smA a b k++ZjJ b.n x b.n.toNat:=by unfold smA;rw [ζQ h,XS,VD];rfl
theorem Zzq {a b:Aut} {k:Nat} {x:Mv} (h:b.moves[k]? =some x):smB a b (k+1)=smB a b k++ZjK b.n x a.n.toNat:=by unfold smB;rw [ζQ h,XS,VD,XA];rfl
theorem ZBM {a b:Aut} {k:Nat} (h:a.moves.length≤k):smA a b k=smB a b 0:=by unfold smA smB;rw [Xo h];exact (XB _).symm
theorem ZBN {a b:Aut} {k:Nat} (h:b.moves.length≤k):smB a b k=(ZcH a b).moves:=by unfold smB;rw [Xo h];rfl
theorem Zi3 (a b:Aut):(ZcH a b).moves.length=a.moves.length*b.n.toNat+b.moves.length*a.n.toNat:=by
 show (a.moves.flatMap (shL b.n)++b.moves.flatMap (shR a.n b.n)).length=_
 rw [Xc,flat_len (Zo4 b.n),flat_len (Zui a.n b.n)]
theorem Zzr {a b:Aut} {k j:Nat} (x:Mv) (hk:k<a.moves.length) (hj:j≤b.n.toNat):(smA a b k++ZjJ b.n x j).length≤(ZcH a b).moves.length:=by
 rw [Zi3]
 unfold smA ZjJ
 rw [Xc,flat_len (Zo4 b.n),Xu,Xf,Uq,XU (VN hk)]
 have h1:(k+1)*b.n.toNat≤a.moves.length*b.n.toNat:=X' _ hk
 rw [XQ] at h1
 omega
theorem Zzs {a b:Aut} {k i:Nat} (x:Mv) (hk:k<b.moves.length) (hi:i≤a.n.toNat):(smB a b k++ZjK b.n x i).length≤(ZcH a b).moves.length:=by
 rw [Zi3]
 unfold smB ZjK
 rw [Xc,Xc,flat_len (Zo4 b.n),flat_len (Zui a.n b.n),Xu,Xf,Uq,XU (VN hk)]
 have h1:(k+1)*a.n.toNat≤b.moves.length*a.n.toNat:=X' _ hk
 rw [XQ] at h1
 omega
theorem ZrI {m:Int} {l k:List Int} {i:Nat} {x:Int} (h:l[i]? =some x):shI m (l.take (i+1)) k=shI m (l.take i) k++ZbS (x*m) k:=by unfold shI;rw [ζQ h,XS,VD]
theorem Zuz (m:Int) (l k:List Int):(shI m l k).length=l.length*k.length:=flat_len (fun x=>ZeK _ _) l
theorem Zpm (a b:Aut) (e:Int) (he:¬e=0) (hf:AF Tryz.prog 120 [ζS a,ζS b] (· =pInt e)):AF Tryz.prog 89 [ζS a,ζS b] (· = .tup [ZfG,pInt e]):=by
 refine AF.of_body 162 Tryz.func89 rfl Tryz.ntmps89 (Xa rfl) ?_
 intro w0 M0 vs hl hv
 obtain ⟨v0,v1,rfl⟩:=Zbl hl
 clear hl hv
 refine nav ?_
 (refine ζa ?_<;>refine ζH 2 5 fun h2=>?_<;>refine ζH 3 5 fun h3=>?_<;>refine ζs [(.int .i64 0),(.int .i64 0),(.slice none 0 0),(.slice none 0 0),(.slice none 0 0)] 5 4 ζN fun h4=>?_<;>refine xL 5 ζc ?_<;>refine ζd ?_)
 (refine ζa ?_<;>(refine yL 20 (ζk 2 ζo) fun v20 h=>?_;cases h)<;>(refine yL 21 (ζk 3 ζo) fun v21 h=>?_;cases h)<;>(refine cS 22 (cA Tryz.call120 (hf)) fun v22 h=>?_;cases h)<;>refine xL 6 ζc ?_<;>refine ζd ?_)
 (refine ζa ?_<;>refine xL 23 ζb (xL 24 Zaz ?_)<;>refine ζd ?_)
 (first|refine cCd ?_ ?_|refine cC ?_ ?_)<;>intro hb24
 · refine nav ?_;(refine ζa ?_<;>refine xL 25 (ζB ζX) (xL 26 ζb ?_)<;>refine ζt 4 ζo ?_<;>refine xL 5 ζc ?_<;>refine ζd ?_)
   exact Zaf (k:=5) 4 kR (Tryz.results89) rfl rfl rfl (Xa rfl) (by decide) rfl rfl
 · exact absurd (by simpa using hb24) he
set_option maxHeartbeats 8000000 in
theorem Zms (a b : Aut) (hf0:Zb4 a b=0) {p0 p1 p2 p3 p4:PV} {E:Int} (r5:R5 p0 p1 p2 p3 p4) (hr:(ZcH a b).moves.length≤40000→AF Tryz.prog 132 [ζS (mkA (ZcH a b))] (· = .tup [.agg [p0,p1,p2,p3,p4],pInt E])):AF Tryz.prog 89 [ζS a,ζS b] (· =if 2000<a.n*b.n∨40000<(a.moves.length:Int)*b.n+(b.moves.length:Int)*a.n then .tup [ZfG,pInt 13] else .tup [.agg [p0,p1,p2,p3,p4],pInt E]):=by
 obtain ⟨o0,o1,o2,o3,o4⟩:=r5.o
 obtain ⟨ha,hb,hs⟩:=ZhD hf0
 have hf:=Zie a b
 rw [hf0] at hf
 have hn0:=ha.n0
 have hn1:=ha.n1
 have m0:=hb.n0
 have m1:=hb.n1
 have k1:=ha.sl
 have k2:=hb.sl
 have k3:=ha.fl
 have k4:=hb.fl
 have k5:=ha.ml
 have k6:=hb.ml
 have q1:=Zha (x:=a.n) (y:=b.n) ⟨hn0,hn1⟩ ⟨m0,m1⟩
 have q2:=Zha (x:=(a.moves.length:Int)) (y:=b.n) (X:=20000) ⟨by omega,by omega⟩ ⟨m0,m1⟩
 have q3:=Zha (x:=(b.moves.length:Int)) (y:=a.n) (X:=20000) ⟨by omega,by omega⟩ ⟨hn0,hn1⟩
 have eN:((a.n.toNat:Nat):Int)=a.n:=VT hn0
 have eM:((b.n.toNat:Nat):Int)=b.n:=VT m0
 have q4:(((ZcH a b).moves.length:Nat):Int)=(a.moves.length:Int)*b.n+(b.moves.length:Int)*a.n:=by
  rw [Zi3,Int.natCast_add,VZ,VZ,eN,eM]
 refine AF.of_body 162 Tryz.func89 rfl Tryz.ntmps89 (Xa rfl) ?_
 intro w0 M0 vs hl hv
 obtain ⟨v0,v1,rfl⟩:=Zbl hl
 clear hl hv
 refine nav ?_
 (refine ζa ?_<;>refine ζH 2 5 fun h2=>?_<;>refine ζH 3 5 fun h3=>?_<;>refine ζs [(.int .i64 0),(.int .i64 0),(.slice none 0 0),(.slice none 0 0),(.slice none 0 0)] 5 4 ζN fun h4=>?_<;>refine xL 5 ζc ?_<;>refine ζd ?_)
 (refine ζa ?_<;>(refine yL 20 (ζk 2 ζo) fun v20 h=>?_;cases h)<;>(refine yL 21 (ζk 3 ζo) fun v21 h=>?_;cases h)<;>(refine cS 22 (cA Tryz.call120 (hf)) fun v22 h=>?_;cases h)<;>refine xL 6 ζc ?_<;>refine ζd ?_)
 (refine ζa ?_<;>refine xL 23 ζb (xL 24 Zaz ?_)<;>refine ζd ?_)
 (first|refine cCd ?_ ?_|refine cC ?_ ?_)<;>intro hb24
 · first|omega|exact absurd rfl hb24|exact bN hb24
 · refine nav ?_;(refine ζY (fun i=>([]:List Nat).elem i) [2,3] kR ?_<;>refine xD 0 27 rfl (ζh 2 ζ5) ?_<;>(refine yD 1 28 rfl (ζq 2 ζp) fun v28 h=>?_;cases h)<;>refine xD 2 29 rfl (ζh 3 ζ5) ?_<;>(refine yD 3 30 rfl (ζq 3 ζp) fun v30 h=>?_;cases h)<;>refine xE 4 7 rfl ζc ?_<;>refine xE 5 8 rfl ζc ?_<;>refine Zam kR (nav ?_)<;>try dsimp only)
   (refine ζa ?_ <;> refine xL 31 ζb (xL 32 ζb (xL 33 ZgG (xL 34 ZaF (xL 35 ζb ?_))))<;>(refine bLd 35 (fun hb35=>?_) (fun hb35=>?_)<;>(first|refine kL 36 ?_|refine xL 36 (ζh 2 ζE) ?_))<;>(first|refine kL 37 ?_|(refine yL 37 (ζq 2 ζO) fun v37 h=>?_;cases h))<;>(first|refine kL 38 ?_|refine xL 38 (ζU ζR) ?_)<;>(first|refine kL 39 ?_|refine xL 39 ζb ?_)<;>(first|refine kL 40 ?_|refine xL 40 ZgG ?_)<;>(first|refine kL 41 ?_|refine xL 41 (ζh 3 ζE) ?_)<;>(first|refine kL 42 ?_|(refine yL 42 (ζq 3 ζO) fun v42 h=>?_;cases h))<;>(first|refine kL 43 ?_|refine xL 43 (ζU ζR) ?_)<;>(first|refine kL 44 ?_|refine xL 44 ζb ?_)<;>(first|refine kL 45 ?_|refine xL 45 ZgG ?_)<;>(first|refine kL 46 ?_|refine xL 46 ζG ?_)<;>(first|refine kL 47 ?_|refine xL 47 ZaF ?_)<;>refine xL 48 ζJ ?_<;>refine ζd ?_)<;>(
    (first|refine cCd ?_ ?_|refine cC ?_ ?_)<;>intro hb48
    · first
      |exact bN hb48
      | (
       refine nav ?_;(refine ζa ?_<;>refine xL 49 (ζB ζX) ?_<;>refine ζt 4 ζo ?_<;>refine xL 5 ζc ?_<;>refine ζd ?_)
       exact Zaf (k:=5) 4 kR (Tryz.results89) rfl rfl rfl (Xa rfl) (by decide) rfl (by rw [if_pos (by omega)];rfl))
    · first
      |exact bN hb48
      | (
       refine nav ?_;(have hnl:¬2000<a.n*b.n∧(ZcH a b).moves.length≤40000:=by omega);have hr:=hr hnl.2;have hnm:=hnl.1;have hml:=hnl.2;(refine ζa ?_<;>refine xL 50 ζb (xL 51 ζb (xL 52 ZgG (xL 53 (ζh 2 Zao) ?_)))<;>(refine yL 54 (ζq 2 ζp) fun v54 h=>?_;cases h)<;>refine xL 55 (ζB ζX) ?_<;>refine ζs [(.int .i64 0),(.int .i64 0),(.slice none 0 0),(.slice none 0 0),(.slice none 0 0)] 5 9 ζN fun h9=>?_<;>refine ζt 9 ζo ?_<;>refine ζd ?_)
       refine ζw (Zey (l:=9) [pInt (a.n*b.n),pInt a.syms, .own 3 1 0 [], .own 3 1 0 [], .own 93 3 0 []] rfl rfl (fun i p p' h1 h2=>by
        match i with
        |0=>cases h1;cases h2;exact .inl rfl
        |1=>cases h1;cases h2;exact .inl rfl
        |2=>cases h1;cases h2;exact .inr ⟨rfl,_,_,rfl⟩
        |3=>cases h1;cases h2;exact .inr ⟨rfl,_,_,rfl⟩
        |4=>cases h1;cases h2;exact .inr ⟨rfl,_,_,rfl⟩
        |i+5=>simp at h2)) fun _=>?_
       refine ζw (Zez (l:=9) (l':=302) (j:=2) rfl rfl rfl rfl) fun i=>?_;obtain ⟨v302,ho302⟩:=i;dsimp only [List.set];refine ζw (Zez (l:=9) (l':=303) (j:=3) rfl rfl rfl rfl) fun i=>?_;obtain ⟨v303,ho303⟩:=i;dsimp only [List.set];refine ζw (Zez (l:=9) (l':=1000) (j:=4) rfl rfl rfl rfl) fun i=>?_;obtain ⟨v1000,ho1000⟩:=i;dsimp only [List.set];have qo2:En.one (PV.val v302)=true:=ho302;have qo3:En.one (PV.val v303)=true:=ho303;refine ζw (ζM (l:=1000) (p':= .own 93 3 (smA a b 0).length ((smA a b 0).flatMap cMv)) rfl rfl) fun _=>?_;(refine ζa ?_<;>refine xL 56 (ζh 2 ζE) ?_<;>(refine yL 57 (ζq 2 ζO) fun v57 h=>?_;cases h)<;>refine xL 58 (ζU ζR) (xL 59 ζb ?_)<;>refine ζd ?_)
       refine ζy (ι:={q:Nat×Value//q.1≤a.moves.length∧q.2.oneCell'=true}) (fun k=>⟨[(2,_,_),(3,_,_),(4,_,_),(7,_,_),(8,_,_),(9,_,_),(57,_,_),(58,_,_),(59, .int .i64 k.1.1,pInt k.1.1)],[(2,_,_),(3,_,_),(4,_,_),(302,_,_),(303,_,_),(9,h9, .own 39 5 1 [pInt (a.n*b.n),pInt a.syms, .val v302, .val v303, .val k.1.2]),(1000,k.1.2, .own 93 3 (smA a b k.1.1).length ((smA a b k.1.1).flatMap cMv))]⟩) (fun k=>a.moves.length-k.1.1) ⟨(0,v1000),Xe _,ho1000⟩ (fun a w H=>H.weaken ⟨rfl,rfl,rfl,rfl,rfl,rfl,rfl,rfl,rfl,trivial⟩ ⟨rfl,rfl,rfl,rfl,rfl,rfl,rfl,trivial⟩) ?_;rintro ⟨⟨c,hI⟩,hc,hIo⟩;dsimp only;dsimp only at hc hIo;have q5:En.one (PV.val hI)=true:=hIo;refine nav ?_;(refine ζa ?_<;>refine xL 60 ζK ?_<;>refine ζd ?_)
       (first|refine cCd ?_ ?_|refine cC ?_ ?_)<;>intro hb60
       · first
         |exact bN hb60
         | (
          obtain ⟨x,hx⟩:=ζm (show c<a.moves.length by omega);have e1:=Zaq Zac a.moves c x hx;have e2:=ZaP Zac hx;have hxb:=ha.mv x (Xb hx);have hx1:=Zha (x:=x.src) (y:=b.n) (X:=2000) ⟨hxb.1,by omega⟩ ⟨m0,m1⟩;have hx2:=Zha (x:=x.dst) (y:=b.n) (X:=2000) ⟨hxb.2.2.1,by omega⟩ ⟨m0,m1⟩;refine nav ?_;(refine ζa ?_<;>refine xL 61 (ζI ζR) ?_<;>(refine yL 62 (ZaQ ζ8) fun v62 h=>?_;cases h)<;>refine ζs [(.int .i64 0),(.int .i64 0),(.int .i64 0)] 3 11 Zdf fun h11=>?_<;>refine ζt 11 ζ8 ?_<;>refine ζd ?_)
          (refine ζa ?_<;>refine xL 63 ζb (xL 64 ζb ?_)<;>refine ζd ?_)
          refine ζw (ζM (l:=1000) (p':= .own 93 3 (smA a b c++ZjJ b.n x 0).length ((smA a b c++ZjJ b.n x 0).flatMap cMv)) rfl (by rw [show ZjJ b.n x 0=[] from rfl,XB])) fun _=>?_;refine ζy (ι:={q:Nat×Value//q.1≤b.n.toNat∧q.2.oneCell'=true}) (fun k=>⟨[(2,_,_),(3,_,_),(4,_,_),(7,_,_),(8,_,_),(9,_,_),(11,_,_),(57,_,_),(58,_,_),(59,_,_),(63,_,_),(64, .int .i64 k.1.1,pInt k.1.1)],[(2,_,_),(3,_,_),(4,_,_),(11,_,_),(302,_,_),(303,_,_),(9,h9, .own 39 5 1 [pInt (a.n*b.n),pInt a.syms, .val v302, .val v303, .val k.1.2]),(1000,k.1.2, .own 93 3 (smA a b c++ZjJ b.n x k.1.1).length ((smA a b c++ZjJ b.n x k.1.1).flatMap cMv))]⟩) (fun k=>b.n.toNat-k.1.1) ⟨(0,hI),Xe _,hIo⟩ (fun a w H=>H.weaken ⟨rfl,rfl,rfl,rfl,rfl,rfl,rfl,rfl,rfl,rfl,rfl,rfl,trivial⟩ ⟨rfl,rfl,rfl,rfl,rfl,rfl,rfl,rfl,trivial⟩) ?_;rintro ⟨⟨j,hJ⟩,hj,hJo⟩;dsimp only;dsimp only at hj hJo;have q6:En.one (PV.val hJ)=true:=hJo;have hpt:=Zzr x (ζg hx) hj;refine nav ?_;(refine ζa ?_<;>refine xL 65 ζK ?_<;>refine ζd ?_)
          (first|refine cCd ?_ ?_|refine cC ?_ ?_)<;>intro hb65
          · first
            |exact bN hb65
            | (
             refine nav ?_;(refine ζa ?_<;>refine xL 66 ζb (xL 12 ζc ?_)<;>refine ζd ?_)
             (refine ζa ?_<;>refine xL 67 (ζh 9 ζE) ?_<;>(refine yL 68 (ζq 9 ζO) fun v68 h=>?_;cases h)<;>refine xL 69 (ζh 11 ZaB) ?_<;>(refine yL 70 (ζq 11 ζp) fun v70 h=>?_;cases h)<;>refine xL 71 ζb (xL 72 ZgG (xL 73 ζb (xL 74 ζG (xL 75 (ζh 11 ZaU) ?_))))<;>(refine yL 76 (ζq 11 ζp) fun v76 h=>?_;cases h)<;>refine xL 77 ζb (xL 78 ZgG (xL 79 ζb (xL 80 ζG (xL 81 (ζh 11 Zbq) ?_))))<;>(refine yL 82 (ζq 11 ζp) fun v82 h=>?_;cases h)<;>refine xL 83 (ζB Zcn) ?_<;>refine Zaw 84 Zaj fun h84 ho84=>?_<;>(refine ζ0 1000 84 85 Zaj fun h85 ho85=>?_;refine ζr (ζF (l:=85) 1000 rfl rfl) fun _=>?_;refine ζr (ζM (l:=1000) rfl ((Zcq _ (smA a b c++ZjJ b.n x j) ⟨x.src*b.n+(j:Nat),x.dst*b.n+(j:Nat),x.sym⟩).trans (by rw [XA,←Zwj]))) fun _=>?_;have q85:En.one (PV.val h85)=true:=ho85)<;>refine xL 86 (ζh 9 ζE) ?_<;>refine ZbQ 9 ζO Zby ?_<;>refine ζd ?_)
             (refine ζa ?_<;>refine xL 87 ζG (xL 64 ζb ?_)<;>refine ζd ?_)
             refine ζj (
              ⟨(j+1,h85),by dsimp only;omega,ho85⟩
              ) (by dsimp only;omega) ⟨rfl,rfl,rfl,rfl,rfl,rfl,rfl,rfl,rfl,rfl,rfl,rfl,trivial⟩ ⟨rfl,rfl,rfl,rfl,rfl,rfl,rfl,rfl,trivial⟩)
          · first
            |exact bN hb65
            | (
             refine ζw (ζM (l:=1000) (p':= .own 93 3 (smA a b (c+1)).length ((smA a b (c+1)).flatMap cMv)) rfl (by rw [show smA a b c++ZjJ b.n x j=smA a b (c+1) by rw [Zzp hx,show j=b.n.toNat by omega]])) fun _=>?_;refine nav ?_;(refine ζa ?_<;>refine xL 88 ζG (xL 59 ζb ?_)<;>refine ζd ?_)
             refine ζj (
              ⟨(c+1,hJ),ζg hx,hJo⟩
              ) (by dsimp only;omega) ⟨rfl,rfl,rfl,rfl,rfl,rfl,rfl,rfl,rfl,trivial⟩ ⟨rfl,rfl,rfl,rfl,rfl,rfl,rfl,trivial⟩))
       · first
         |exact bN hb60
         | (
          rw [ZBM (show a.moves.length≤c by omega)];refine nav ?_;(refine ζa ?_<;>refine xL 89 (ζh 3 ζE) ?_<;>(refine yL 90 (ζq 3 ζO) fun v90 h=>?_;cases h)<;>refine xL 91 (ζU ζR) (xL 92 ζb ?_)<;>refine ζd ?_)
          refine ζy (ι:={q:Nat×Value//q.1≤b.moves.length∧q.2.oneCell'=true}) (fun k=>⟨[(2,_,_),(3,_,_),(4,_,_),(7,_,_),(8,_,_),(9,_,_),(90,_,_),(91,_,_),(92, .int .i64 k.1.1,pInt k.1.1)],[(2,_,_),(3,_,_),(4,_,_),(302,_,_),(303,_,_),(9,h9, .own 39 5 1 [pInt (a.n*b.n),pInt a.syms, .val v302, .val v303, .val k.1.2]),(1000,k.1.2, .own 93 3 (smB a b k.1.1).length ((smB a b k.1.1).flatMap cMv))]⟩) (fun k=>b.moves.length-k.1.1) ⟨(0,hI),Xe _,hIo⟩ (fun a w H=>H.weaken ⟨rfl,rfl,rfl,rfl,rfl,rfl,rfl,rfl,rfl,trivial⟩ ⟨rfl,rfl,rfl,rfl,rfl,rfl,rfl,trivial⟩) ?_;rintro ⟨⟨u,hU⟩,hu,hUo⟩;dsimp only;dsimp only at hu hUo;have q7:En.one (PV.val hU)=true:=hUo;refine nav ?_;(refine ζa ?_<;>refine xL 93 ζK ?_<;>refine ζd ?_)
          (first|refine cCd ?_ ?_|refine cC ?_ ?_)<;>intro hb93
          · first
            |exact bN hb93
            | (
             obtain ⟨y,hy⟩:=ζm (show u<b.moves.length by omega);have e3:=Zaq Zac b.moves u y hy;have e4:=ZaP Zac hy;have hyb:=hb.mv y (Xb hy);refine nav ?_;(refine ζa ?_<;>refine xL 94 (ζI ζR) ?_<;>(refine yL 95 (ZaQ ζ8) fun v95 h=>?_;cases h)<;>refine ζs [(.int .i64 0),(.int .i64 0),(.int .i64 0)] 3 14 Zdf fun h14=>?_<;>refine ζt 14 ζ8 ?_<;>refine ζd ?_)
             (refine ζa ?_<;>refine xL 96 ζb (xL 97 ζb ?_)<;>refine ζd ?_)
             refine ζw (ζM (l:=1000) (p':= .own 93 3 (smB a b u++ZjK b.n y 0).length ((smB a b u++ZjK b.n y 0).flatMap cMv)) rfl (by rw [show ZjK b.n y 0=[] from rfl,XB])) fun _=>?_;refine ζy (ι:={q:Nat×Value//q.1≤a.n.toNat∧q.2.oneCell'=true}) (fun k=>⟨[(2,_,_),(3,_,_),(4,_,_),(7,_,_),(8,_,_),(9,_,_),(14,_,_),(90,_,_),(91,_,_),(92,_,_),(96,_,_),(97, .int .i64 k.1.1,pInt k.1.1)],[(2,_,_),(3,_,_),(4,_,_),(14,_,_),(302,_,_),(303,_,_),(9,h9, .own 39 5 1 [pInt (a.n*b.n),pInt a.syms, .val v302, .val v303, .val k.1.2]),(1000,k.1.2, .own 93 3 (smB a b u++ZjK b.n y k.1.1).length ((smB a b u++ZjK b.n y k.1.1).flatMap cMv))]⟩) (fun k=>a.n.toNat-k.1.1) ⟨(0,hU),Xe _,hUo⟩ (fun a w H=>H.weaken ⟨rfl,rfl,rfl,rfl,rfl,rfl,rfl,rfl,rfl,rfl,rfl,rfl,trivial⟩ ⟨rfl,rfl,rfl,rfl,rfl,rfl,rfl,rfl,trivial⟩) ?_;rintro ⟨⟨i,hV⟩,hi,hVo⟩;dsimp only;dsimp only at hi hVo;have q8:En.one (PV.val hV)=true:=hVo;have hpt2:=Zzs y (ζg hy) hi;have hx3:=Zha (x:=(i:Int)) (y:=b.n) (X:=2000) ⟨by omega,by omega⟩ ⟨m0,m1⟩;refine nav ?_;(refine ζa ?_<;>refine xL 98 ζK ?_<;>refine ζd ?_)
             (first|refine cCd ?_ ?_|refine cC ?_ ?_)<;>intro hb98
             · first
               |exact bN hb98
               | (
                refine nav ?_;(refine ζa ?_<;>refine xL 99 ζb (xL 15 ζc ?_)<;>refine ζd ?_)
                (refine ζa ?_<;>refine xL 100 (ζh 9 ζE) ?_<;>(refine yL 101 (ζq 9 ζO) fun v101 h=>?_;cases h)<;>refine xL 102 ζb (xL 103 ζb (xL 104 ZgG (xL 105 (ζh 14 ZaB) ?_)))<;>(refine yL 106 (ζq 14 ζp) fun v106 h=>?_;cases h)<;>refine xL 107 ζG (xL 108 ζb (xL 109 ζb (xL 110 ZgG (xL 111 (ζh 14 ZaU) ?_))))<;>(refine yL 112 (ζq 14 ζp) fun v112 h=>?_;cases h)<;>refine xL 113 ζG (xL 114 (ζh 14 Zbq) ?_)<;>(refine yL 115 (ζq 14 ζp) fun v115 h=>?_;cases h)<;>refine xL 116 (ζB Zcn) ?_<;>refine Zaw 117 Zaj fun h117 ho117=>?_<;>(refine ζ0 1000 117 118 Zaj fun h118 ho118=>?_;refine ζr (ζF (l:=118) 1000 rfl rfl) fun _=>?_;refine ζr (ζM (l:=1000) rfl ((Zcq _ (smB a b u++ZjK b.n y i) ⟨(i:Nat)*b.n+y.src,(i:Nat)*b.n+y.dst,y.sym⟩).trans (by rw [XA,←Zwk]))) fun _=>?_;have q118:En.one (PV.val h118)=true:=ho118)<;>refine xL 119 (ζh 9 ζE) ?_<;>refine ZbQ 9 ζO Zby ?_<;>refine ζd ?_)
                (refine ζa ?_<;>refine xL 120 ζG (xL 97 ζb ?_)<;>refine ζd ?_)
                refine ζj (
                 ⟨(i+1,h118),by dsimp only;omega,ho118⟩
                 ) (by dsimp only;omega) ⟨rfl,rfl,rfl,rfl,rfl,rfl,rfl,rfl,rfl,rfl,rfl,rfl,trivial⟩ ⟨rfl,rfl,rfl,rfl,rfl,rfl,rfl,rfl,trivial⟩)
             · first
               |exact bN hb98
               | (
                refine ζw (ζM (l:=1000) (p':= .own 93 3 (smB a b (u+1)).length ((smB a b (u+1)).flatMap cMv)) rfl (by rw [show smB a b u++ZjK b.n y i=smB a b (u+1) by rw [Zzq hy,show i=a.n.toNat by omega]])) fun _=>?_;refine nav ?_;(refine ζa ?_<;>refine xL 121 ζG (xL 92 ζb ?_)<;>refine ζd ?_)
                refine ζj (
                 ⟨(u+1,hV),ζg hy,hVo⟩
                 ) (by dsimp only;omega) ⟨rfl,rfl,rfl,rfl,rfl,rfl,rfl,rfl,rfl,trivial⟩ ⟨rfl,rfl,rfl,rfl,rfl,rfl,rfl,trivial⟩))
          · first
            |exact bN hb93
            | (
             rw [ZBN (show b.moves.length≤u by omega)];refine nav ?_;(refine ζa ?_<;>refine xL 122 (ζh 2 ZaJ) ?_<;>(refine yL 123 (ζq 2 ζD) fun v123 h=>?_;cases h)<;>refine xL 124 (ζU ζu) (xL 125 ζb ?_)<;>refine ζd ?_)
             refine ζw (ζM (l:=302) (p':= .own 3 1 (shI b.n (a.start.take 0) b.start).length ((shI b.n (a.start.take 0) b.start).map pInt)) rfl rfl) fun _=>?_;refine ζy (ι:={q:Nat×Value//q.1≤a.start.length∧q.2.oneCell'=true}) (fun k=>⟨[(2,_,_),(3,_,_),(4,_,_),(7,_,_),(8,_,_),(9,_,_),(123,_,_),(124,_,_),(125, .int .i64 k.1.1,pInt k.1.1)],[(2,_,_),(3,_,_),(4,_,_),(303,_,_),(1000,_,_),(9,h9, .own 39 5 1 [pInt (a.n*b.n),pInt a.syms, .val k.1.2, .val v303, .val hU]),(302,k.1.2, .own 3 1 (shI b.n (a.start.take k.1.1) b.start).length ((shI b.n (a.start.take k.1.1) b.start).map pInt))]⟩) (fun k=>a.start.length-k.1.1) ⟨(0,v302),Xe _,ho302⟩ (fun a w H=>H.weaken ⟨rfl,rfl,rfl,rfl,rfl,rfl,rfl,rfl,rfl,trivial⟩ ⟨rfl,rfl,rfl,rfl,rfl,rfl,rfl,trivial⟩) ?_;rintro ⟨⟨s,hS⟩,hs',hSo⟩;dsimp only;dsimp only at hs' hSo;have q9:En.one (PV.val hS)=true:=hSo;(have hSl:(shI b.n (a.start.take s) b.start).length≤2000*2000:=by rw [Zuz,Xu];exact Ug (by omega) k2);refine nav ?_;(refine ζa ?_<;>refine xL 126 ζK ?_<;>refine ζd ?_)
             (first|refine cCd ?_ ?_|refine cC ?_ ?_)<;>intro hb126
             · first
               |exact bN hb126
               | (
                obtain ⟨z,hz⟩:=ζm (show s<a.start.length by omega);have e5:=Zas (f:=pInt) hz;have hzb:=ha.st z (Xb hz);have hz1:=Zha (x:=z) (y:=b.n) (X:=a.n) (Y:=b.n) ⟨hzb.1,by omega⟩ ⟨m0,VG _⟩;have hal:=ZeK (z*b.n) b.start;refine nav ?_;(refine ζa ?_<;>refine xL 127 (ζI ζu) ?_<;>(refine yL 128 (ZaE ζp) fun v128 h=>?_;cases h)<;>refine xL 17 ζc ?_<;>refine ζd ?_)
                (refine ζY (fun i=>([10]:List Nat).elem i) [3,9] kR ?_<;>refine xD 0 129 rfl (ζh 9 ZaJ) ?_<;>(refine yD 1 130 rfl (ζq 9 ζD) fun v130 h=>?_;cases h)<;>refine xD 2 131 rfl (ζh 3 ZaJ) ?_<;>(refine yD 3 132 rfl (ζq 3 ζD) fun v132 h=>?_;cases h)<;>refine xD 4 133 rfl ζb ?_<;>refine xE 5 134 rfl ζb ?_<;>refine xE 6 135 rfl ZgG ?_<;>(refine ζi 7 kR ?_)<;>(refine ζf rfl fun w9 M9 N9 DQ back=>?_)<;>(refine cO 136 (cA Tryz.call136 (ZeS b.start (z*b.n) (by omega) (by omega) (fun x hx=>by have:=hb.st x hx;omega))) fun v136 ho136=>?_;refine ζr (En.freeze (l:=136) (t:=136) rfl rfl) fun _=>?_;rw [ζ2 _ _ _ rfl])<;>refine ζe (back _ (nrm ?_))<;>(refine ζi 8 kR ?_)<;>(refine ζf rfl fun w9 M9 N9 DQ back=>?_)<;>(refine ZgL 302 137 ζn (fun h137 ho137=>?_) (ZhC (ZbS (z*b.n) b.start)) (Zi1 (ZbS (z*b.n) b.start));have q137:En.one (PV.val h137)=true:=ho137;refine ζr (ζF (l:=137) 302 rfl rfl) fun _=>?_;refine ζr (ζM (l:=302) rfl ((Zi2 _ (shI b.n (a.start.take s) b.start) (ZbS (z*b.n) b.start)).trans (by rw [←ZrI hz]))) fun _=>?_)<;>refine ζe (back _ (nrm ?_))<;>refine xE 9 138 rfl (ζh 9 ZaJ) ?_<;>(refine ζi 10 kR ?_)<;>(refine Zil rfl rfl kR fun DQ back=>?_)<;>refine ZbQ 9 ζD Zcm ?_<;>refine ζe (back _ (nav ?_))<;>try dsimp only)
                (refine ζa ?_<;>refine xL 139 ζG (xL 125 ζb ?_)<;>refine ζd ?_)
                refine ζj (
                 ⟨(s+1,h137),ζg hz,ho137⟩
                 ) (by dsimp only;omega) ⟨rfl,rfl,rfl,rfl,rfl,rfl,rfl,rfl,rfl,trivial⟩ ⟨rfl,rfl,rfl,rfl,rfl,rfl,rfl,trivial⟩)
             · first
               |exact bN hb126
               | (
                rw [Xo (show a.start.length≤s by omega)];refine nav ?_;(refine ζa ?_<;>refine xL 140 (ζh 2 Zau) ?_<;>(refine yL 141 (ζq 2 ζD) fun v141 h=>?_;cases h)<;>refine xL 142 (ζU ζu) (xL 143 ζb ?_)<;>refine ζd ?_)
                refine ζw (ζM (l:=303) (p':= .own 3 1 (shI b.n (a.fin.take 0) b.fin).length ((shI b.n (a.fin.take 0) b.fin).map pInt)) rfl rfl) fun _=>?_;refine ζy (ι:={q:Nat×Value//q.1≤a.fin.length∧q.2.oneCell'=true}) (fun k=>⟨[(2,_,_),(3,_,_),(4,_,_),(7,_,_),(8,_,_),(9,_,_),(141,_,_),(142,_,_),(143, .int .i64 k.1.1,pInt k.1.1)],[(2,_,_),(3,_,_),(4,_,_),(302,_,_),(1000,_,_),(9,h9, .own 39 5 1 [pInt (a.n*b.n),pInt a.syms, .val hS, .val k.1.2, .val hU]),(303,k.1.2, .own 3 1 (shI b.n (a.fin.take k.1.1) b.fin).length ((shI b.n (a.fin.take k.1.1) b.fin).map pInt))]⟩) (fun k=>a.fin.length-k.1.1) ⟨(0,v303),Xe _,ho303⟩ (fun a w H=>H.weaken ⟨rfl,rfl,rfl,rfl,rfl,rfl,rfl,rfl,rfl,trivial⟩ ⟨rfl,rfl,rfl,rfl,rfl,rfl,rfl,trivial⟩) ?_;rintro ⟨⟨t,hT⟩,ht,hTo⟩;dsimp only;dsimp only at ht hTo;have q10:En.one (PV.val hT)=true:=hTo;(have hTl:(shI b.n (a.fin.take t) b.fin).length≤2000*2000:=by rw [Zuz,Xu];exact Ug (by omega) k4);refine nav ?_;(refine ζa ?_<;>refine xL 144 ζK ?_<;>refine ζd ?_)
                (first|refine cCd ?_ ?_|refine cC ?_ ?_)<;>intro hb144
                · first
                  |exact bN hb144
                  | (
                   obtain ⟨z2,hz2⟩:=ζm (show t<a.fin.length by omega);have e6:=Zas (f:=pInt) hz2;have hzb2:=ha.fi z2 (Xb hz2);have hz3:=Zha (x:=z2) (y:=b.n) (X:=a.n) (Y:=b.n) ⟨hzb2.1,by omega⟩ ⟨m0,VG _⟩;have hal2:=ZeK (z2*b.n) b.fin;refine nav ?_;(refine ζa ?_<;>refine xL 145 (ζI ζu) ?_<;>(refine yL 146 (ZaE ζp) fun v146 h=>?_;cases h)<;>refine xL 19 ζc ?_<;>refine ζd ?_)
                   (refine ζY (fun i=>([10]:List Nat).elem i) [3,9] kR ?_<;>refine xD 0 147 rfl (ζh 9 Zau) ?_<;>(refine yD 1 148 rfl (ζq 9 ζD) fun v148 h=>?_;cases h)<;>refine xD 2 149 rfl (ζh 3 Zau) ?_<;>(refine yD 3 150 rfl (ζq 3 ζD) fun v150 h=>?_;cases h)<;>refine xD 4 151 rfl ζb ?_<;>refine xE 5 152 rfl ζb ?_<;>refine xE 6 153 rfl ZgG ?_<;>(refine ζi 7 kR ?_)<;>(refine ζf rfl fun w9 M9 N9 DQ back=>?_)<;>(refine cO 154 (cA Tryz.call136 (ZeS b.fin (z2*b.n) (by omega) (by omega) (fun x hx=>by have:=hb.fi x hx;omega))) fun v154 ho154=>?_;refine ζr (En.freeze (l:=154) (t:=154) rfl rfl) fun _=>?_;rw [ζ2 _ _ _ rfl])<;>refine ζe (back _ (nrm ?_))<;>(refine ζi 8 kR ?_)<;>(refine ζf rfl fun w9 M9 N9 DQ back=>?_)<;>(refine ZgL 303 155 ζn (fun h155 ho155=>?_) (ZhC (ZbS (z2*b.n) b.fin)) (Zi1 (ZbS (z2*b.n) b.fin));have q155:En.one (PV.val h155)=true:=ho155;refine ζr (ζF (l:=155) 303 rfl rfl) fun _=>?_;refine ζr (ζM (l:=303) rfl ((Zi2 _ (shI b.n (a.fin.take t) b.fin) (ZbS (z2*b.n) b.fin)).trans (by rw [←ZrI hz2]))) fun _=>?_)<;>refine ζe (back _ (nrm ?_))<;>refine xE 9 156 rfl (ζh 9 Zau) ?_<;>(refine ζi 10 kR ?_)<;>(refine Zil rfl rfl kR fun DQ back=>?_)<;>refine ZbQ 9 ζD Zcm ?_<;>refine ζe (back _ (nav ?_))<;>try dsimp only)
                   (refine ζa ?_<;>refine xL 157 ζG (xL 143 ζb ?_)<;>refine ζd ?_)
                   refine ζj (
                    ⟨(t+1,h155),ζg hz2,ho155⟩
                    ) (by dsimp only;omega) ⟨rfl,rfl,rfl,rfl,rfl,rfl,rfl,rfl,rfl,trivial⟩ ⟨rfl,rfl,rfl,rfl,rfl,rfl,rfl,trivial⟩)
                · first
                  |exact bN hb144
                  | (
                   rw [Xo (show a.fin.length≤t by omega)];refine nav ?_;refine ζw (ZaI (l:=9) (l':=302) (j:=2) rfl rfl rfl rfl) fun _=>?_;refine ζw (ZaI (l:=9) (l':=303) (j:=3) rfl rfl rfl rfl) fun _=>?_;rw [ζ2 _ _ _ rfl,ζ2 _ _ _ rfl];(refine ζa ?_<;>(refine yL 158 (ζk (k:=5) (ps:=[pInt (a.n*b.n),pInt a.syms,pInts (shI b.n a.start b.start),pInts (shI b.n a.fin b.fin),PV.val hU]) 9 kR) fun v158 h=>?_;cases h)<;>(refine Zat [(1000,hU,PV.own 93 3 (ZcH a b).moves.length ((ZcH a b).moves.flatMap cMv)),(2,_,_),(3,_,_),(4,_,_),(9,_,_)] ⟨rfl,rfl,rfl,rfl,rfl,trivial⟩ ?_;refine ZbO [2,3,4,9] 159 (Tryz.call137) (ZBL (ZcH a b) (by omega) _ hU hUo r5 hr) ?_;rintro _ _ _ ⟨⟨V1,rfl⟩,rfl,rfl⟩)<;>refine xL 160 ζl (xL 161 ζl ?_)<;>refine ζt 4 ζo ?_<;>refine xL 5 ζc ?_<;>refine ζd ?_)
                   exact Zaf (k:=5) 4 kR (Tryz.results89) rfl rfl rfl (Xa rfl) (by decide) r5.s (by rw [if_neg (by omega)];rfl)))))))
theorem Ztk (a b:Aut):AF Tryz.prog 89 [ζS a,ζS b] (· =resW (ZiS a b)):=by
 unfold ZiS
 by_cases h0:Zb4 a b=0
 · rw [if_neg (fun h=>h h0)];obtain ⟨ha,hb,hs⟩:=ZhD h0;by_cases hl:(ZcH a b).moves.length≤40000
   · obtain ⟨p0,p1,p2,p3,p4,E,h5,h2,hr⟩:=Zgn (ZcH a b) (by omega) (Zl9 ha hb hs);refine (Zms a b h0 h5 fun _=>hr).mono fun p hp=>?_;rw [hp];split
     · rfl
     · exact h2.symm
   · refine (Zms a b h0 R5.raw (E:=13) fun h=>absurd h hl).mono fun p hp=>?_;have h1:=ha.n0;have h2:=hb.n0;have q4:(((ZcH a b).moves.length:Nat):Int)=(a.moves.length:Int)*b.n+(b.moves.length:Int)*a.n:=by
      rw [Zi3,Int.natCast_add,VZ,VZ,VT h1,VT h2]
     rw [hp,if_pos (.inr (by omega)),if_pos (.inr (by omega))];rfl
 · rw [if_pos h0];exact Zpm a b _ h0 (Zie a b)
theorem Zmt:AggT Tryz.prog 39 5=true:=by kernel_rfl
theorem Zn4:ElT Tryz.prog 27 9 1 16 (.string ByteArray.empty):=⟨Tryz.underlying27,by kernel_rfl,rfl,by decide⟩
theorem ZhE:ElT Tryz.prog 36 3 1 8 (.int .i64 0):=⟨Tryz.underlying36,by kernel_rfl,rfl,by decide⟩
theorem Zwl:ElT Tryz.prog 37 93 3 24 (.agg #[(.int .i64 0),(.int .i64 0),(.int .i64 0)]):=⟨Tryz.underlying37,by kernel_rfl,rfl,by decide⟩
theorem Zkj:FldT Tryz.prog 24 0 0=true:=by kernel_rfl
theorem ZrJ:FldT Tryz.prog 24 1 1=true:=by kernel_rfl
theorem Zmu:NoAgg Tryz.prog 3=true:=by kernel_rfl
theorem ZrK:NoAgg Tryz.prog 9=true:=by kernel_rfl
theorem ZjL:SlT Tryz.prog 27 9 1=true:=by kernel_rfl
theorem Zn5:SlT Tryz.prog 36 3 1=true:=by kernel_rfl
theorem Zn6:ZbX Tryz.prog 39=some ((.agg #[(.int .i64 0),(.int .i64 0),(.slice none 0 0),(.slice none 0 0),(.slice none 0 0)]),([0,1,2,3,4]:List Nat).map fun o=>(o,1)):=by kernel_rfl
theorem Zwm:ZbX Tryz.prog 93=some ((.agg #[(.int .i64 0),(.int .i64 0),(.int .i64 0)]),([0,1,2]:List Nat).map fun o=>(o,1)):=by kernel_rfl
theorem Zn7:ZeroT Tryz.prog 39 (.agg #[(.int .i64 0),(.int .i64 0),(.slice none 0 0),(.slice none 0 0),(.slice none 0 0)]):=by unfold ZeroT;kernel_rfl
theorem ZjM (x:Option Aut):∃p0 p1 p2 p3 p4 E,R5 p0 p1 p2 p3 p4∧resW (lim x)= .tup [.agg [p0,p1,p2,p3,p4],pInt E]∧((x=none∧E=13)∨∃A,x=some A∧E=0∧p0=pInt A.n∧p1=pInt A.syms∧p2=pInts A.start∧p3=pInts A.fin∧p4=pMvs A.moves):=by
 cases x with
 |none=>exact ⟨_,_,_,_,_,_,R5.raw,rfl, .inl ⟨rfl,rfl⟩⟩
 |some A=>exact ⟨_,_,_,_,_,_,R5.aut A,rfl, .inr ⟨A,rfl,rfl,rfl,rfl,rfl,rfl,rfl⟩⟩
theorem Zi4 (e:Nat) (L:List Aut) (x:Aut):PV.own e 5 (L.length+1) (L.flatMap Zc4++Zc4 x)= .own e 5 (L++[x]).length ((L++[x]).flatMap Zc4):=by simp
theorem Zgs (e n:Nat) (l:List Aut) (hn:n=l.length):share (.own e 5 n (l.flatMap Zc4))= .sl l.length (l.flatMap Zc4):=by
 subst hn
 rw [share,Zai,V8];rfl
theorem ZBO (n:Nat):Rr (.agg [pInt 1,pInt n,pInts [0],pInts [0], .val (.slice none 0 0)]) (ζS (ZjB n)):=Rr.agg rfl fun i p p' h1 h2=>by
 match i with
 |0=>cases h1;cases h2;exact Rr.rfl' _
 |1=>cases h1;cases h2;exact Rr.rfl' _
 |2=>cases h1;cases h2;exact Rr.rfl' _
 |3=>cases h1;cases h2;exact Rr.rfl' _
 |4=>cases h1;cases h2;exact Rr.nil
 |i+5=>simp at h1
theorem Zwn (l:List ByteArray) (s:ByteArray):AF Tryz.prog 67 [ZaY l,Zab s] (· =pInt (Zdx l s)):=by
 refine AF.of_body 8 Tryz.func67 rfl Tryz.ntmps67 (Xa rfl) ?_
 intro w0 M0 vs hl hv
 obtain ⟨v0,v1,rfl⟩:=Zbl hl
 clear hl hv
 refine nav ?_
 (refine ζa ?_<;>refine xL 4 ζc ?_<;>refine ζd ?_)
 (refine ζa ?_<;>refine xL 5 ζb (xL 6 ζb ?_)<;>(refine cS 7 (cA Tryz.call86 (ZpR l s)) fun v7 h=>?_;cases h)<;>refine xL 4 ζc ?_<;>refine ζd ?_)
 exact ζx Tryz.results67 rfl rfl
theorem Zzt (acts:List ByteArray) {l:List Int} {k:Nat} {i:Int} (h:l[k]? =some i):nmI acts (l.take (k+1))=nmI acts (l.take k)++[(acts[i.toNat]?).getD ByteArray.empty]:=by
 unfold nmI
 rw [ζQ h,Xy];rfl
theorem ZBP (acts:List ByteArray) (l:List Int):(nmI acts l).length=l.length:=Xf _
theorem Zn8 (l:List Int) (acts:List ByteArray) (hl:l.length≤1000000) (hin:∀i∈l,0≤i∧i<acts.length):AF Tryz.prog 53 [pInts l,ZaY acts] (· =ZaY (nmI acts l)):=by
 refine AF.of_body 23 Tryz.func53 rfl Tryz.ntmps53 (Xa rfl) ?_
 intro w0 M0 vs hl hv
 obtain ⟨v0,v1,rfl⟩:=Zbl hl
 clear hl hv
 refine nav ?_
 (refine ζa ?_<;>refine xL 4 ζc ?_<;>refine ζd ?_)
 (refine ζa ?_<;>refine xL 5 ζc ?_<;>refine ζd ?_)
 (refine ζa ?_<;>refine xL 8 ζb (xL 9 (ζU Zn5) (xL 10 ζb ?_))<;>refine ζd ?_)
 refine ζw (ZbW 200 9 1 rfl) fun _=>?_
 refine ζy (ι:={q:Nat×Value//q.1≤l.length∧q.2.oneCell'=true}) (fun k=>⟨[(0,_,_),(1,_,_),(8,_,_),(9,_,_),(5,k.1.2, .val k.1.2),(10, .int .i64 k.1.1,pInt k.1.1)],[(200,k.1.2, .own 9 1 (nmI acts (l.take k.1.1)).length ((nmI acts (l.take k.1.1)).map Zab))]⟩) (fun k=>l.length-k.1.1) ⟨(0, .slice none 0 0),Xe _,rfl⟩ (fun a w H=>H.weaken ⟨rfl,rfl,rfl,rfl,rfl,rfl,trivial⟩ ⟨rfl,trivial⟩) ?_
 rintro ⟨⟨i,hv⟩,hi,ho⟩
 dsimp only
 dsimp only at hi ho
 refine nav ?_
 (refine ζa ?_<;>refine xL 11 ζK ?_<;>refine ζd ?_)
 (first|refine cCd ?_ ?_|refine cC ?_ ?_)<;>intro hb11
 · first
   |exact bN hb11
   | (
    obtain ⟨x,hx⟩:=ζm (show i<l.length by omega);have e1:=Zas (f:=pInt) hx;have hin:=hin x (Xb hx);obtain ⟨j,rfl⟩:∃j:Nat,x=(j:Int):=⟨x.toNat,by omega⟩;obtain ⟨s,hs⟩:=ζm (show j<acts.length by omega);have e2:=Zas (f:=Zab) hs;(have hlen:(nmI acts (l.take i)).length≤1000000:=by rw [ZBP,Xu];omega);have hsn:nmI acts (l.take (i+1))=nmI acts (l.take i)++[s]:=by
     rw [Zzt acts hx];show _++[(acts[j]?).getD ByteArray.empty]=_;rw [hs];rfl
    refine nav ?_;(refine ζa ?_<;>refine xL 12 (ζI Zn5) ?_<;>(refine yL 13 (ZaE Zmu) fun v13 h=>?_;cases h)<;>refine xL 7 ζc ?_<;>refine ζd ?_)
    (refine ζa ?_<;>refine xL 14 ζb (xL 15 ζb (xL 16 ζb (xL 17 (ζI ZjL) ?_)))<;>(refine yL 18 (ZaE ZrK) fun v18 h=>?_;cases h)<;>refine ζP (kk:=1) 19 Zn4 fun h19 ho19=>?_<;>refine ζ0 200 19 20 Zn4 fun h20 ho20=>?_<;>refine xL 5 ζc ?_<;>refine ζd ?_)
    (refine ζa ?_<;>refine xL 21 ζG (xL 10 ζb ?_)<;>refine ζd ?_)
    refine Zbn (ζF (l:=20) 200 rfl rfl) fun _=>?_;rw [show (nmI acts (l.take i)).map Zab++[_]=(nmI acts (l.take (i+1))).map Zab from (by rw [hsn,Xy];rfl),show (nmI acts (l.take i)).length+1=(nmI acts (l.take (i+1))).length by rw [hsn];simp];refine ζj (
     ⟨(i+1,h20),ζg hx,ho20⟩
     ) (by dsimp only;omega) ⟨rfl,rfl,rfl,rfl,rfl,rfl,trivial⟩ ⟨rfl,trivial⟩)
 · first
   |exact bN hb11
   | (
    refine nav ?_;rw [Xo (show l.length≤i by omega)];refine ζw (En.freeze (l:=200) (t:=5) rfl rfl) fun _=>?_;rw [ZsF];(refine ζa ?_<;>refine xL 22 ζb (xL 4 ζc ?_)<;>refine ζd ?_)
    exact ζx Tryz.results53 rfl rfl)
theorem ZrL (acts:List ByteArray) (a:ByteArray) {p0 p1 p2 p3 p4:PV} {E:Int} (r5:R5 p0 p1 p2 p3 p4) (hm:AF Tryz.prog 84 [ζS (ZfP acts.length (Zdx acts a))] (· = .tup [.agg [p0,p1,p2,p3,p4],pInt E])):AF Tryz.prog 51 [.agg [pInt 1,Zab a,Zag []],ZaY acts] (· = .tup [.agg [p0,p1,p2,p3,p4],pInt E]):=by
 obtain ⟨o0,o1,o2,o3,o4⟩:=r5.o
 refine AF.of_body 130 Tryz.func51 rfl Tryz.ntmps51 (Xa rfl) ?_
 intro w0 M0 vs hl hv
 obtain ⟨v0,v1,rfl⟩:=Zbl hl
 clear hl hv
 refine nav ?_
 (refine ζa ?_<;>refine ζH 2 3 fun h2=>?_<;>refine ζs [(.int .i64 0),(.int .i64 0),(.slice none 0 0),(.slice none 0 0),(.slice none 0 0)] 5 4 Zn7 fun h4=>?_<;>refine xL 5 ζc ?_<;>refine ζd ?_)
 (refine ζa ?_<;>refine xL 18 (ζh 2 Zkj) ?_<;>(refine yL 19 (ζq 2 Zmu) fun v19 h=>?_;cases h)<;>refine ζd ?_)
 (refine ζa ?_<;>refine xL 21 ζ6 (xL 20 ζc ?_)<;>refine ζd ?_)
 (first|refine cCd ?_ ?_|refine cC ?_ ?_)<;>intro hb20
 · refine nav ?_;(refine ζa ?_<;>refine xL 22 ζb (xL 23 (ζU ZjL) ?_)<;>(refine ζP (kk:=1) 24 ZhE fun h24 ho24=>?_;refine ζr (En.freeze (l:=24) (t:=24) rfl rfl) fun _=>?_;refine ζr (Zbh (t:=24) (p':=pInts [0]) rfl rfl) fun _=>?_)<;>(refine ζP (kk:=1) 25 ZhE fun h25 ho25=>?_;refine ζr (En.freeze (l:=25) (t:=25) rfl rfl) fun _=>?_;refine ζr (Zbh (t:=25) (p':=pInts [1]) rfl rfl) fun _=>?_)<;>refine xL 26 ζb (xL 27 (ζh 2 ZrJ) ?_)<;>(refine yL 28 (ζq 2 ZrK) fun v28 h=>?_;cases h)<;>(refine cS 29 (cA Tryz.call67 (Zwn acts a)) fun v29 h=>?_;cases h)<;>refine xL 30 (ζB Zwm) ?_<;>(refine Zaw 31 Zwl fun h31 ho31=>?_;refine ζr (En.freeze (l:=31) (t:=31) rfl rfl) fun _=>?_;refine ζr (Zbh (t:=31) (p':=pMvs [⟨0,1,Zdx acts a⟩]) rfl rfl) fun _=>?_)<;>refine xL 32 (ζB Zn6) ?_<;>(refine cP 33 (cA (Tryz.call84) hm) (fun va33 vb33 hva33 hvb33=>?_) (hsh:=r5.t E);cases hvb33)<;>refine xL 34 ζl (xL 35 ζl ?_)<;>refine ζt 4 Zmt ?_<;>refine xL 5 ζc ?_<;>refine ζd ?_)
   exact Zaf (k:=5) 4 kR (Tryz.results51) rfl rfl rfl (Xa rfl) (by decide) r5.s rfl
 · exact absurd rfl hb20
theorem ZrM (acts:List ByteArray) (a:ByteArray) {p0 p1 p2 p3 p4:PV} {E:Int} (r5:R5 p0 p1 p2 p3 p4) (hm:AF Tryz.prog 84 [ζS (ZjB acts.length)] (· = .tup [.agg [p0,p1,p2,p3,p4],pInt E])):AF Tryz.prog 51 [.agg [pInt 2,Zab a,Zag []],ZaY acts] (· = .tup [.agg [p0,p1,p2,p3,p4],pInt E]):=by
 obtain ⟨o0,o1,o2,o3,o4⟩:=r5.o
 refine AF.of_body 130 Tryz.func51 rfl Tryz.ntmps51 (Xa rfl) ?_
 intro w0 M0 vs hl hv
 obtain ⟨v0,v1,rfl⟩:=Zbl hl
 clear hl hv
 refine nav ?_
 (refine ζa ?_<;>refine ζH 2 3 fun h2=>?_<;>refine ζs [(.int .i64 0),(.int .i64 0),(.slice none 0 0),(.slice none 0 0),(.slice none 0 0)] 5 4 Zn7 fun h4=>?_<;>refine xL 5 ζc ?_<;>refine ζd ?_)
 (refine ζa ?_<;>refine xL 18 (ζh 2 Zkj) ?_<;>(refine yL 19 (ζq 2 Zmu) fun v19 h=>?_;cases h)<;>refine ζd ?_)
 (refine ζa ?_<;>refine xL 21 ζ6 (xL 20 ζc ?_)<;>refine ζd ?_)
 (first|refine cCd ?_ ?_|refine cC ?_ ?_)<;>intro hb20
 · exact absurd hb20 (by decide)
 · refine nav ?_;(refine ζa ?_<;>refine xL 37 ζ6 (xL 36 ζc ?_)<;>refine ζd ?_)
   (first|refine cCd ?_ ?_|refine cC ?_ ?_)<;>intro hb36
   · refine nav ?_;(refine ζa ?_<;>refine xL 38 ζb (xL 39 (ζU ZjL) ?_)<;>(refine ζP (kk:=1) 40 ZhE fun h40 ho40=>?_;refine ζr (En.freeze (l:=40) (t:=40) rfl rfl) fun _=>?_;refine ζr (Zbh (t:=40) (p':=pInts [0]) rfl rfl) fun _=>?_)<;>(refine ζP (kk:=1) 41 ZhE fun h41 ho41=>?_;refine ζr (En.freeze (l:=41) (t:=41) rfl rfl) fun _=>?_;refine ζr (Zbh (t:=41) (p':=pInts [0]) rfl rfl) fun _=>?_)<;>(refine xL 42 (ζB Zn6) ?_;refine ζr (Zlb (t:=42) (p':=ζS (ZjB acts.length)) rfl (ZBO acts.length)) fun _=>?_)<;>(refine cP 43 (cA (Tryz.call84) hm) (fun va43 vb43 hva43 hvb43=>?_) (hsh:=r5.t E);cases hvb43)<;>refine xL 44 ζl (xL 45 ζl ?_)<;>refine ζt 4 Zmt ?_<;>refine xL 5 ζc ?_<;>refine ζd ?_)
     exact Zaf (k:=5) 4 kR (Tryz.results51) rfl rfl rfl (Xa rfl) (by decide) r5.s rfl
   · exact absurd rfl hb36
theorem Zbj:AggT Tryz.prog 24 3=true:=by kernel_rfl
theorem ζA:AggT Tryz.prog 39 5=true:=by kernel_rfl
theorem ZcJ:ElT Tryz.prog 122 39 5 88 (.agg #[(.int .i64 0),(.int .i64 0),(.slice none 0 0),(.slice none 0 0),(.slice none 0 0)]):=⟨Tryz.underlying122,by kernel_rfl,rfl,by decide⟩
theorem Zbd:FldT Tryz.prog 24 0 0=true:=by kernel_rfl
theorem Ze8:FldT Tryz.prog 24 2 2=true:=by kernel_rfl
theorem ZhF:NoAgg Tryz.prog 22=true:=by kernel_rfl
theorem ZcK:NoAgg Tryz.prog 3=true:=by kernel_rfl
theorem ZaO:SlT Tryz.prog 122 39 5=true:=by kernel_rfl
theorem Zdi:SlT Tryz.prog 22 24 3=true:=by kernel_rfl
theorem ZcV:ZbX Tryz.prog 39=some ((.agg #[(.int .i64 0),(.int .i64 0),(.slice none 0 0),(.slice none 0 0),(.slice none 0 0)]),([0,1,2,3,4]:List Nat).map fun o=>(o,1)):=by kernel_rfl
theorem ZhG:ZeroT Tryz.prog 24 (.agg #[(.int .i64 0),(.string ByteArray.empty),(.slice none 0 0)]):=by unfold ZeroT;kernel_rfl
theorem Za0:ZeroT Tryz.prog 39 (.agg #[(.int .i64 0),(.int .i64 0),(.slice none 0 0),(.slice none 0 0),(.slice none 0 0)]):=by unfold ZeroT;kernel_rfl
structure PtsOk (acts:List ByteArray) (l:List Nd) (i:Nat) (Ps:List Aut):Prop where
 le:i≤l.length
 eq:(l.take i).map (bldT acts)=Ps.map some
 ok:∀A∈Ps,IsMin A∧A.syms=acts.length
theorem PtsOk.len {acts:List ByteArray} {l:List Nd} {i:Nat} {Ps:List Aut} (h:PtsOk acts l i Ps):Ps.length=i:=by
 have:=congrArg List.length h.eq
 rw [Xf,Xf,Xu] at this
 have:=h.le;omega
theorem PtsOk.next {acts:List ByteArray} {l:List Nd} {i:Nat} {Ps:List Aut} {x:Nd} {A:Aut} (h:PtsOk acts l i Ps) (hx:l[i]? =some x) (hA:bldT acts x=some A) (hb:BldOk acts.length (bldT acts x)):PtsOk acts l (i+1) (Ps++[A]):=
 ⟨ζg hx,by rw [ζQ hx,Xy,Xy,h.eq,UH,UH,hA],fun B hB=>by
  rcases Xs.1 hB with h1|h1
  · exact h.ok B h1
  · rw [Xi.1 h1];exact hb A hA⟩
theorem PtsOk.all {acts:List ByteArray} {l:List Nd} {i:Nat} {Ps:List Aut} (h:PtsOk acts l i Ps) (hi:l.length≤i):l.map (bldT acts)=Ps.map some∧Ps.length=l.length:=by
 have h1:=h.eq
 rw [Xo hi] at h1
 exact ⟨h1,by have:=congrArg List.length h1;simpa using this.symm⟩
theorem Zpn {acts:List ByteArray} {a b:Aut} (o:Int) (ha:IsMin a∧a.syms=acts.length) (hb:IsMin b∧b.syms=acts.length):Zcj o a b=lim (okO (Zcj o a b)):=(Zhz o ha.1 hb.1 ha.2 hb.2).lim
theorem Zzu {acts:List ByteArray} {a b C:Aut} (o:Int) (ha:IsMin a∧a.syms=acts.length) (hb:IsMin b∧b.syms=acts.length) (h:okO (Zcj o a b)=some C):IsMin C∧C.syms=acts.length:=((Zhz o ha.1 hb.1 ha.2 hb.2).ok h).2
theorem Zwo {o:Int} {m n:List (Option Aut)} (h:m≠[]) (hn:foldX o m=none):foldX o (m++n)=none:=by
 cases m with
 |nil=>exact absurd rfl h
 | cons y m=>
   rw [X1];show (m++n).foldl (Zd7 o) y=none;rw [VE,show m.foldl (Zd7 o) y=none from hn,ZjC]
structure FldOk (acts:List ByteArray) (o:Int) (A0:Aut) (Qs:List Aut) (j:Nat) (R:Aut):Prop where
 le:j≤Qs.length
 eq:foldX o ((A0::Qs.take j).map some)=some R
 ok:IsMin R∧R.syms=acts.length
theorem FldOk.step {acts:List ByteArray} {o:Int} {A0 R B:Aut} {Qs:List Aut} {j:Nat} (h:FldOk acts o A0 Qs j R) (hB:Qs[j]? =some B):foldX o ((A0::Qs.take (j+1)).map some)=okO (Zcj o R B):=by
 rw [ζQ hB,←X1,Xy,UH,Zta (by simp),h.eq];rfl
theorem FldOk.next {acts:List ByteArray} {o:Int} {A0 R B C:Aut} {Qs:List Aut} {j:Nat} (h:FldOk acts o A0 Qs j R) (hB:Qs[j]? =some B) (hb:IsMin B∧B.syms=acts.length) (hC:okO (Zcj o R B)=some C):FldOk acts o A0 Qs (j+1) C:=
 ⟨ζg hB,by rw [h.step hB,hC],Zzu o h.ok hb hC⟩
theorem FldOk.none {acts:List ByteArray} {o:Int} {A0 R B:Aut} {Qs:List Aut} {j:Nat} (h:FldOk acts o A0 Qs j R) (hB:Qs[j]? =some B) (hC:okO (Zcj o R B)=Option.none):foldX o ((A0::Qs).map some)=Option.none:=by
 have h1:=h.step hB
 rw [hC] at h1
 have:=Zwo (n:=(Qs.drop (j+1)).map some) (by simp) h1
 rw [←Xy,X1,Vq] at this
 exact this
theorem FldOk.all {acts:List ByteArray} {o:Int} {A0 R:Aut} {Qs:List Aut} {j:Nat} (h:FldOk acts o A0 Qs j R) (hj:Qs.length≤j):foldX o ((A0::Qs).map some)=some R:=by
 have:=h.eq
 rwa [Xo hj] at this
theorem ZjN (A:Aut) (Qs:List Aut):PV.sl ((A::Qs).length-1) ((((A::Qs).flatMap Zc4).drop (1*5)).take (((A::Qs).length-1)*5))= .sl Qs.length (Qs.flatMap Zc4):=by
 have h:((A::Qs).flatMap Zc4).drop (1*5)=Qs.flatMap Zc4:=rfl
 rw [h,Xj,Nat.add_sub_cancel,Xo (by rw [flat_len ZcI];exact Xd _)]
set_option maxHeartbeats 4000000 in
theorem ZrN (acts : List ByteArray) (a:ByteArray) (x0:Nd) (l0 l:List Nd) (hl0:l=x0::l0) (hl:l.length≤1000000) (ih:∀x∈l,AF Tryz.prog 51 [pTr x,ZaY acts] (· =resW (lim (bldT acts x)))) (hb:∀x∈l,BldOk acts.length (bldT acts x)):AF Tryz.prog 51 [.agg [pInt 3,Zab a,Zag l],ZaY acts] (· =resW (lim (foldX 3 (l.map (bldT acts))))):=by
 have hlen0:l.length=l0.length+1:=by rw [hl0];rfl
 refine AF.of_body 130 Tryz.func51 rfl Tryz.ntmps51 (Xa rfl) ?_
 intro w0 M0 vs hl hv
 obtain ⟨v0,v1,rfl⟩:=Zbl hl
 clear hl hv
 refine nav ?_
 (refine ζa ?_<;>refine ζH 2 3 fun h2=>?_<;>refine ζs [(.int .i64 0),(.int .i64 0),(.slice none 0 0),(.slice none 0 0),(.slice none 0 0)] 5 4 Za0 fun h4=>?_<;>refine xL 5 ζc ?_<;>refine ζd ?_)
 (refine ζa ?_<;>refine xL 18 (ζh 2 Zbd) ?_<;>(refine yL 19 (ζq 2 ZcK) fun v19 h=>?_;cases h)<;>refine ζd ?_)
 (refine ζa ?_<;>refine xL 21 ζ6 (xL 20 ζc ?_)<;>refine ζd ?_)
 (first|refine cCd ?_ ?_|refine cC ?_ ?_)<;>intro hb20
 · exact absurd hb20 (by decide)
 · refine nav ?_;(refine ζa ?_<;>refine xL 37 ζ6 (xL 36 ζc ?_)<;>refine ζd ?_)
   (first|refine cCd ?_ ?_|refine cC ?_ ?_)<;>intro hb36
   · exact absurd hb36 (by decide)
   · refine nav ?_;(refine ζa ?_<;>refine xL 6 ζc ?_<;>refine ζd ?_)
     (refine ζa ?_<;>refine xL 46 (ζh 2 Ze8) ?_<;>(refine yL 47 (ζq 2 ZhF) fun v47 h=>?_;cases h)<;>refine xL 48 (ζU Zdi) (xL 49 ζb ?_)<;>refine ζd ?_)
     refine ζw (ZbW 200 39 5 rfl) fun _=>?_;refine ζy (ι:={q:Nat×Value×List Aut//PtsOk acts l q.1 q.2.2∧q.2.1.oneCell'=true}) (fun k=>⟨[(1,_,_),(2,_,_),(4,_,_),(5,_,_),(47,_,_),(48,_,_),(6,k.1.2.1, .val k.1.2.1),(49, .int .i64 k.1.1,pInt k.1.1)],[(2,_,_),(4,_,_),(200,k.1.2.1, .own 39 5 k.1.2.2.length (k.1.2.2.flatMap Zc4))]⟩) (fun k=>l.length-k.1.1) ⟨(0, .slice none 0 0,[]),⟨Xe _,rfl,fun _ h=>(by cases h)⟩,rfl⟩ (fun a w H=>H.weaken ⟨rfl,rfl,rfl,rfl,rfl,rfl,rfl,rfl,trivial⟩ ⟨rfl,rfl,rfl,trivial⟩) ?_;rintro ⟨⟨i,hv,Ps⟩,hP,ho⟩;dsimp only;dsimp only at hP ho;have hPl:=hP.len;have hPi:=hP.le;have hPc:(Ps.flatMap Zc4).length=Ps.length*5:=flat_len ZcI Ps;refine nav ?_;(refine ζa ?_<;>refine xL 50 ζK ?_<;>refine ζd ?_)
     (first|refine cCd ?_ ?_|refine cC ?_ ?_)<;>intro hb50
     · first
       |exact bN hb50
       | (
        obtain ⟨x,hx⟩:=ζm (show i<l.length by omega);have e1:((ζ3 l).drop (i*3)).take 3=[pInt x.op,Zab x.act,Zag x.l]:=ζ4 hx;have e2:=Zah hx;obtain ⟨p0,p1,p2,p3,p4,E,r5,hres,hc⟩:=ZjM (bldT acts x);have hxa:=ih x (Xb hx);rw [hres] at hxa;obtain ⟨o0,o1,o2,o3,o4⟩:=r5.o;refine nav ?_;(refine ζa ?_<;>refine xL 51 (ζI Zdi) ?_<;>(refine yL 52 (ZaQ Zbj) fun v52 h=>?_;cases h)<;>refine ζs [(.int .i64 0),(.string ByteArray.empty),(.slice none 0 0)] 3 8 ZhG fun h8=>?_<;>refine ζt 8 Zbj ?_<;>refine ζd ?_)
        (refine ζa ?_<;>(refine yL 54 (ζk 8 Zbj) fun v54 h=>?_;cases h)<;>refine xL 55 ζb ?_<;>(refine cP 56 (cA (Tryz.call51) hxa) (fun va56 vb56 hva56 hvb56=>?_) (hsh:=r5.t E);cases hvb56)<;>refine xL 53 ζb (xL 57 ζl (xL 58 ζl ?_))<;>refine ζs [(.int .i64 0),(.int .i64 0),(.slice none 0 0),(.slice none 0 0),(.slice none 0 0)] 5 9 Za0 fun h9=>?_<;>refine ζt 9 ζA ?_<;>refine xL 10 ζc ?_<;>refine ζd ?_)
        (refine ζa ?_<;>refine xL 59 ζb (xL 60 Zaz ?_)<;>refine ζd ?_)
        (first|refine cCd ?_ ?_|refine cC ?_ ?_)<;>intro hb60
        · first
          |exact bN hb60
          | (
           have hn:bldT acts x=none∧E=13:=by
            rcases hc with h|⟨A,_,h,_⟩
            · exact h
            · exact absurd h (by simpa using hb60)
           obtain ⟨hn,rfl⟩:=hn;have hF:foldX 3 (l.map (bldT acts))=none:=Zhw (Xh.2 ⟨x,Xb hx,hn⟩);rw [hF];refine nav ?_;(refine ζa ?_<;>refine xL 61 (ζB ZcV) (xL 62 ζb ?_)<;>refine ζt 4 ζA ?_<;>refine xL 5 ζc ?_<;>refine ζd ?_)
           exact Zaf (k:=5) 4 kR (Tryz.results51) rfl rfl rfl (Xa rfl) (by decide) rfl rfl)
        · first
          |exact bN hb60
          | (
           have hA:∃A,bldT acts x=some A∧E=0∧p0=pInt A.n∧p1=pInt A.syms∧p2=pInts A.start∧p3=pInts A.fin∧p4=pMvs A.moves:=by
            rcases hc with ⟨_,h⟩|h
            · exact absurd h (by simp at hb60;omega)
            · exact h
           clear hc;obtain ⟨A,hA,rfl,rfl,rfl,rfl,rfl,rfl⟩:=hA;have hnx:=hP.next hx hA (hb x (Xb hx))
           refine nav ?_;(refine ζa ?_<;>refine xL 63 ζb ?_<;>(refine yL 64 (ζk 9 ζA) fun v64 h=>?_;cases h)<;>refine Zaw 65 ZcJ fun h65 ho65=>?_<;>(refine ζ0 200 65 66 ZcJ fun h66 ho66=>?_;refine ζr (ζF (l:=66) 200 rfl rfl) fun _=>?_;refine ζr (ζM (l:=200) rfl (Zi4 _ Ps A)) fun _=>?_)<;>refine xL 6 ζc ?_<;>refine ζd ?_)
           (refine ζa ?_<;>refine xL 67 ζG (xL 49 ζb ?_)<;>refine ζd ?_)
           refine ζj (
            ⟨(i+1,h66,Ps++[A]),hnx,ho66⟩
            ) (by dsimp only;omega) ⟨rfl,rfl,rfl,rfl,rfl,rfl,rfl,rfl,trivial⟩ ⟨rfl,rfl,rfl,trivial⟩))
     · first
       |exact bN hb50
       | (
        obtain ⟨hall,hPll⟩:=hP.all (show l.length≤i by omega);have hok:=hP.ok;rw [hall];obtain ⟨A0,Qs,rfl⟩:∃A0 Qs,Ps=A0::Qs:=by
         cases Ps with
         |nil=>rw [Xz] at hPll;omega
         |cons y m=>exact ⟨y,m,rfl⟩
        refine ζw (En.freeze (l:=200) (t:=6) rfl rfl) fun _=>?_;rw [Zgs _ _ _ rfl];have e3:(((A0::Qs).flatMap Zc4).drop (0*5)).take 5=[pInt A0.n,pInt A0.syms,pInts A0.start,pInts A0.fin,pMvs A0.moves]:=rfl;(have e4:0*5+5≤((A0::Qs).flatMap Zc4).length:=by rw [hPc,Xj];omega);have hQl:0<(A0::Qs).length:=Nat.zero_lt_succ _;(have hQb:Qs.length≤1000000:=by rw [Xj] at hPll;omega);refine nav ?_;(refine ζa ?_<;>refine xL 68 (ζh 2 Zbd) ?_<;>(refine yL 69 (ζq 2 ZcK) fun v69 h=>?_;cases h)<;>refine xL 70 ζ6 ?_<;>refine ζd ?_)
        (first|refine cCd ?_ ?_|refine cC ?_ ?_)<;>intro hb70
        · exact absurd hb70 (by decide)
        · refine nav ?_;(refine ζa ?_<;>refine xL 13 ζc ?_<;>refine ζd ?_)
          (refine ζa ?_<;>refine xL 101 (ζh 2 Zbd) ?_<;>(refine yL 102 (ζq 2 ZcK) fun v102 h=>?_;cases h)<;>refine ζd ?_)
          (refine ζa ?_<;>refine xL 104 ζ6 (xL 103 ζc ?_)<;>refine ζd ?_)
          (first|refine cCd ?_ ?_|refine cC ?_ ?_)<;>intro hb103
          · try (exact absurd hb103 (by decide))
          · try (exact absurd rfl hb103)
            refine nav ?_;(refine ζa ?_<;>refine xL 106 ζ6 (xL 105 ζc ?_)<;>refine ζd ?_)
            (first|refine cCd ?_ ?_|refine cC ?_ ?_)<;>intro hb105
            · try (exact absurd hb105 (by decide))
            · try (exact absurd rfl hb105)
              refine nav ?_;(refine ζa ?_<;>refine xL 107 ζb (xL 108 (ζI ZaO) ?_)<;>(refine yL 109 (ZaQ ζA) fun v109 h=>?_;cases h)<;>refine ζs [(.int .i64 0),(.int .i64 0),(.slice none 0 0),(.slice none 0 0),(.slice none 0 0)] 5 14 Za0 fun h14=>?_<;>refine ζt 14 ζA ?_<;>refine ζd ?_)
              (refine ζa ?_<;>refine xL 110 ζb ?_<;>refine xL 111 (Zfi (i:=1) (j:=(A0::Qs).length) ZaO rfl rfl rfl rfl (Nat.succ_le_of_lt hQl) (Xd _) hPc) ?_<;>(refine ζr (Zbh (t:=111) (p':= .sl Qs.length (Qs.flatMap Zc4)) rfl (ZjN A0 Qs)) fun _=>?_;refine xL 112 (ζU ZaO) ?_)<;>refine xL 113 ζb ?_<;>refine ζd ?_)
              refine ζy (ι:={q:Nat×Aut//FldOk acts 3 A0 Qs q.1 q.2}) (fun k=>⟨[(2,_,_),(4,_,_),(13,_,_),(111,_,_),(112,_,_),(14,_,_),(113, .int .i64 k.1.1,pInt k.1.1)],[(2,_,_),(4,_,_),(14,h14, .own 39 5 1 (Zc4 k.1.2))]⟩) (fun k=>Qs.length-k.1.1) ⟨(0,A0),Xe _,rfl,hok A0 (Xk ..)⟩ (fun a w H=>H.weaken ⟨rfl,rfl,rfl,rfl,rfl,rfl,rfl,trivial⟩ ⟨rfl,rfl,rfl,trivial⟩) ?_;rintro ⟨⟨j,R⟩,hF⟩;dsimp only;dsimp only at hF;have hFj:=hF.le;refine nav ?_;(refine ζa ?_<;>refine xL 114 ζK ?_<;>refine ζd ?_)
              (first|refine cCd ?_ ?_|refine cC ?_ ?_)<;>intro hb114
              · first
                |exact bN hb114
                | (
                 obtain ⟨B,hB⟩:=ζm (show j<Qs.length by omega);have e5:=Zaq ZcI Qs j B hB;have e6:=ZaP ZcI hB;have hBm:=hok B (Xn _ (Xb hB));obtain ⟨p0,p1,p2,p3,p4,E,r5,hres,hc⟩:=ZjM (okO (Zcj 3 R B));have hj:AF Tryz.prog 87 [ζS R,ζS B] (· =resW (Zcj 3 R B)):=ZjI R B;rw [Zpn 3 hF.ok hBm,hres] at hj;obtain ⟨o0,o1,o2,o3,o4⟩:=r5.o;refine nav ?_;(refine ζa ?_<;>refine xL 115 (ζI ZaO) ?_<;>(refine yL 116 (ZaQ ζA) fun v116 h=>?_;cases h)<;>refine ζs [(.int .i64 0),(.int .i64 0),(.slice none 0 0),(.slice none 0 0),(.slice none 0 0)] 5 16 Za0 fun h16=>?_<;>refine ζt 16 ζA ?_<;>refine ζd ?_)
                 (refine ζa ?_<;>refine xL 17 ζc ?_<;>refine ζd ?_)
                 (refine ζa ?_<;>refine xL 118 ζb ?_<;>(refine yL 119 (ζk 14 ζA) fun v119 h=>?_;cases h)<;>(refine yL 120 (ζk 16 ζA) fun v120 h=>?_;cases h)<;>(refine cP 121 (Zb5 (f:=87) (ps:=[]) rfl ⟨_,rfl⟩ (Tryz.call87) rfl hj) (fun va121 vb121 hva121 hvb121=>?_) (hsh:=r5.t E);cases hvb121)<;>refine xL 117 ζb (xL 122 ζl (xL 123 ζl ?_))<;>refine ζt 14 ζA ?_<;>refine xL 17 ζc ?_<;>refine ζd ?_)
                 (refine ζa ?_<;>refine xL 124 ζb (xL 125 Zaz ?_)<;>refine ζd ?_)
                 (first|refine cCd ?_ ?_|refine cC ?_ ?_)<;>intro hb125
                 · first
                   |exact bN hb125
                   | (
                    have hn:okO (Zcj 3 R B)=none∧E=13:=by
                     rcases hc with h|⟨A,_,h,_⟩
                     · exact h
                     · exact absurd h (by simpa using hb125)
                    obtain ⟨hn,rfl⟩:=hn;rw [hF.none hB hn];refine nav ?_;(refine ζa ?_<;>refine xL 126 (ζB ZcV) (xL 127 ζb ?_)<;>refine ζt 4 ζA ?_<;>refine xL 5 ζc ?_<;>refine ζd ?_)
                    exact Zaf (k:=5) 4 kR (Tryz.results51) rfl rfl rfl (Xa rfl) (by decide) rfl rfl)
                 · first
                   |exact bN hb125
                   | (
                    have hA:∃A,okO (Zcj 3 R B)=some A∧E=0∧p0=pInt A.n∧p1=pInt A.syms∧p2=pInts A.start∧p3=pInts A.fin∧p4=pMvs A.moves:=by
                     rcases hc with ⟨_,h⟩|h
                     · exact absurd h (by simp at hb125;omega)
                     · exact h
                    clear hc;obtain ⟨C,hC,rfl,rfl,rfl,rfl,rfl,rfl⟩:=hA;have hFn:=hF.next hB hBm hC
                    refine nav ?_;(refine ζa ?_<;>refine xL 128 ζG (xL 113 ζb ?_)<;>refine ζd ?_)
                    refine ζj (
                     ⟨(j+1,C),hFn⟩
                     ) (by dsimp only;omega) ⟨rfl,rfl,rfl,rfl,rfl,rfl,rfl,trivial⟩ ⟨rfl,rfl,rfl,trivial⟩))
              · first
                |exact bN hb114
                | (
                 rw [hF.all (show Qs.length≤j by omega)];refine nav ?_;(refine ζa ?_<;>(refine yL 129 (ζk 14 ζA) fun v129 h=>?_;cases h)<;>refine ζt 4 ζA ?_<;>refine xL 5 ζc ?_<;>refine ζd ?_)
                 exact Zaf (k:=5) 4 kR (Tryz.results51) rfl rfl rfl (Xa rfl) (by decide) rfl rfl))
set_option maxHeartbeats 4000000 in
theorem ZrO (acts : List ByteArray) (a:ByteArray) (x0:Nd) (l0 l:List Nd) (hl0:l=x0::l0) (hl:l.length≤1000000) (ih:∀x∈l,AF Tryz.prog 51 [pTr x,ZaY acts] (· =resW (lim (bldT acts x)))) (hb:∀x∈l,BldOk acts.length (bldT acts x)):AF Tryz.prog 51 [.agg [pInt 4,Zab a,Zag l],ZaY acts] (· =resW (lim (foldX 4 (l.map (bldT acts))))):=by
 have hlen0:l.length=l0.length+1:=by rw [hl0];rfl
 refine AF.of_body 130 Tryz.func51 rfl Tryz.ntmps51 (Xa rfl) ?_
 intro w0 M0 vs hl hv
 obtain ⟨v0,v1,rfl⟩:=Zbl hl
 clear hl hv
 refine nav ?_
 (refine ζa ?_<;>refine ζH 2 3 fun h2=>?_<;>refine ζs [(.int .i64 0),(.int .i64 0),(.slice none 0 0),(.slice none 0 0),(.slice none 0 0)] 5 4 Za0 fun h4=>?_<;>refine xL 5 ζc ?_<;>refine ζd ?_)
 (refine ζa ?_<;>refine xL 18 (ζh 2 Zbd) ?_<;>(refine yL 19 (ζq 2 ZcK) fun v19 h=>?_;cases h)<;>refine ζd ?_)
 (refine ζa ?_<;>refine xL 21 ζ6 (xL 20 ζc ?_)<;>refine ζd ?_)
 (first|refine cCd ?_ ?_|refine cC ?_ ?_)<;>intro hb20
 · exact absurd hb20 (by decide)
 · refine nav ?_;(refine ζa ?_<;>refine xL 37 ζ6 (xL 36 ζc ?_)<;>refine ζd ?_)
   (first|refine cCd ?_ ?_|refine cC ?_ ?_)<;>intro hb36
   · exact absurd hb36 (by decide)
   · refine nav ?_;(refine ζa ?_<;>refine xL 6 ζc ?_<;>refine ζd ?_)
     (refine ζa ?_<;>refine xL 46 (ζh 2 Ze8) ?_<;>(refine yL 47 (ζq 2 ZhF) fun v47 h=>?_;cases h)<;>refine xL 48 (ζU Zdi) (xL 49 ζb ?_)<;>refine ζd ?_)
     refine ζw (ZbW 200 39 5 rfl) fun _=>?_;refine ζy (ι:={q:Nat×Value×List Aut//PtsOk acts l q.1 q.2.2∧q.2.1.oneCell'=true}) (fun k=>⟨[(1,_,_),(2,_,_),(4,_,_),(5,_,_),(47,_,_),(48,_,_),(6,k.1.2.1, .val k.1.2.1),(49, .int .i64 k.1.1,pInt k.1.1)],[(2,_,_),(4,_,_),(200,k.1.2.1, .own 39 5 k.1.2.2.length (k.1.2.2.flatMap Zc4))]⟩) (fun k=>l.length-k.1.1) ⟨(0, .slice none 0 0,[]),⟨Xe _,rfl,fun _ h=>(by cases h)⟩,rfl⟩ (fun a w H=>H.weaken ⟨rfl,rfl,rfl,rfl,rfl,rfl,rfl,rfl,trivial⟩ ⟨rfl,rfl,rfl,trivial⟩) ?_;rintro ⟨⟨i,hv,Ps⟩,hP,ho⟩;dsimp only;dsimp only at hP ho;have hPl:=hP.len;have hPi:=hP.le;have hPc:(Ps.flatMap Zc4).length=Ps.length*5:=flat_len ZcI Ps;refine nav ?_;(refine ζa ?_<;>refine xL 50 ζK ?_<;>refine ζd ?_)
     (first|refine cCd ?_ ?_|refine cC ?_ ?_)<;>intro hb50
     · first
       |exact bN hb50
       | (
        obtain ⟨x,hx⟩:=ζm (show i<l.length by omega);have e1:((ζ3 l).drop (i*3)).take 3=[pInt x.op,Zab x.act,Zag x.l]:=ζ4 hx;have e2:=Zah hx;obtain ⟨p0,p1,p2,p3,p4,E,r5,hres,hc⟩:=ZjM (bldT acts x);have hxa:=ih x (Xb hx);rw [hres] at hxa;obtain ⟨o0,o1,o2,o3,o4⟩:=r5.o;refine nav ?_;(refine ζa ?_<;>refine xL 51 (ζI Zdi) ?_<;>(refine yL 52 (ZaQ Zbj) fun v52 h=>?_;cases h)<;>refine ζs [(.int .i64 0),(.string ByteArray.empty),(.slice none 0 0)] 3 8 ZhG fun h8=>?_<;>refine ζt 8 Zbj ?_<;>refine ζd ?_)
        (refine ζa ?_<;>(refine yL 54 (ζk 8 Zbj) fun v54 h=>?_;cases h)<;>refine xL 55 ζb ?_<;>(refine cP 56 (cA (Tryz.call51) hxa) (fun va56 vb56 hva56 hvb56=>?_) (hsh:=r5.t E);cases hvb56)<;>refine xL 53 ζb (xL 57 ζl (xL 58 ζl ?_))<;>refine ζs [(.int .i64 0),(.int .i64 0),(.slice none 0 0),(.slice none 0 0),(.slice none 0 0)] 5 9 Za0 fun h9=>?_<;>refine ζt 9 ζA ?_<;>refine xL 10 ζc ?_<;>refine ζd ?_)
        (refine ζa ?_<;>refine xL 59 ζb (xL 60 Zaz ?_)<;>refine ζd ?_)
        (first|refine cCd ?_ ?_|refine cC ?_ ?_)<;>intro hb60
        · first
          |exact bN hb60
          | (
           have hn:bldT acts x=none∧E=13:=by
            rcases hc with h|⟨A,_,h,_⟩
            · exact h
            · exact absurd h (by simpa using hb60)
           obtain ⟨hn,rfl⟩:=hn;have hF:foldX 4 (l.map (bldT acts))=none:=Zhw (Xh.2 ⟨x,Xb hx,hn⟩);rw [hF];refine nav ?_;(refine ζa ?_<;>refine xL 61 (ζB ZcV) (xL 62 ζb ?_)<;>refine ζt 4 ζA ?_<;>refine xL 5 ζc ?_<;>refine ζd ?_)
           exact Zaf (k:=5) 4 kR (Tryz.results51) rfl rfl rfl (Xa rfl) (by decide) rfl rfl)
        · first
          |exact bN hb60
          | (
           have hA:∃A,bldT acts x=some A∧E=0∧p0=pInt A.n∧p1=pInt A.syms∧p2=pInts A.start∧p3=pInts A.fin∧p4=pMvs A.moves:=by
            rcases hc with ⟨_,h⟩|h
            · exact absurd h (by simp at hb60;omega)
            · exact h
           clear hc;obtain ⟨A,hA,rfl,rfl,rfl,rfl,rfl,rfl⟩:=hA;have hnx:=hP.next hx hA (hb x (Xb hx))
           refine nav ?_;(refine ζa ?_<;>refine xL 63 ζb ?_<;>(refine yL 64 (ζk 9 ζA) fun v64 h=>?_;cases h)<;>refine Zaw 65 ZcJ fun h65 ho65=>?_<;>(refine ζ0 200 65 66 ZcJ fun h66 ho66=>?_;refine ζr (ζF (l:=66) 200 rfl rfl) fun _=>?_;refine ζr (ζM (l:=200) rfl (Zi4 _ Ps A)) fun _=>?_)<;>refine xL 6 ζc ?_<;>refine ζd ?_)
           (refine ζa ?_<;>refine xL 67 ζG (xL 49 ζb ?_)<;>refine ζd ?_)
           refine ζj (
            ⟨(i+1,h66,Ps++[A]),hnx,ho66⟩
            ) (by dsimp only;omega) ⟨rfl,rfl,rfl,rfl,rfl,rfl,rfl,rfl,trivial⟩ ⟨rfl,rfl,rfl,trivial⟩))
     · first
       |exact bN hb50
       | (
        obtain ⟨hall,hPll⟩:=hP.all (show l.length≤i by omega);have hok:=hP.ok;rw [hall];obtain ⟨A0,Qs,rfl⟩:∃A0 Qs,Ps=A0::Qs:=by
         cases Ps with
         |nil=>rw [Xz] at hPll;omega
         |cons y m=>exact ⟨y,m,rfl⟩
        refine ζw (En.freeze (l:=200) (t:=6) rfl rfl) fun _=>?_;rw [Zgs _ _ _ rfl];have e3:(((A0::Qs).flatMap Zc4).drop (0*5)).take 5=[pInt A0.n,pInt A0.syms,pInts A0.start,pInts A0.fin,pMvs A0.moves]:=rfl;(have e4:0*5+5≤((A0::Qs).flatMap Zc4).length:=by rw [hPc,Xj];omega);have hQl:0<(A0::Qs).length:=Nat.zero_lt_succ _;(have hQb:Qs.length≤1000000:=by rw [Xj] at hPll;omega);refine nav ?_;(refine ζa ?_<;>refine xL 68 (ζh 2 Zbd) ?_<;>(refine yL 69 (ζq 2 ZcK) fun v69 h=>?_;cases h)<;>refine xL 70 ζ6 ?_<;>refine ζd ?_)
        (first|refine cCd ?_ ?_|refine cC ?_ ?_)<;>intro hb70
        · exact absurd hb70 (by decide)
        · refine nav ?_;(refine ζa ?_<;>refine xL 13 ζc ?_<;>refine ζd ?_)
          (refine ζa ?_<;>refine xL 101 (ζh 2 Zbd) ?_<;>(refine yL 102 (ζq 2 ZcK) fun v102 h=>?_;cases h)<;>refine ζd ?_)
          (refine ζa ?_<;>refine xL 104 ζ6 (xL 103 ζc ?_)<;>refine ζd ?_)
          (first|refine cCd ?_ ?_|refine cC ?_ ?_)<;>intro hb103
          · try (exact absurd hb103 (by decide))
            refine nav ?_;(refine ζa ?_<;>refine xL 13 ζc ?_<;>refine ζd ?_)
            (refine ζa ?_<;>refine xL 107 ζb (xL 108 (ζI ZaO) ?_)<;>(refine yL 109 (ZaQ ζA) fun v109 h=>?_;cases h)<;>refine ζs [(.int .i64 0),(.int .i64 0),(.slice none 0 0),(.slice none 0 0),(.slice none 0 0)] 5 14 Za0 fun h14=>?_<;>refine ζt 14 ζA ?_<;>refine ζd ?_)
            (refine ζa ?_<;>refine xL 110 ζb ?_<;>refine xL 111 (Zfi (i:=1) (j:=(A0::Qs).length) ZaO rfl rfl rfl rfl (Nat.succ_le_of_lt hQl) (Xd _) hPc) ?_<;>(refine ζr (Zbh (t:=111) (p':= .sl Qs.length (Qs.flatMap Zc4)) rfl (ZjN A0 Qs)) fun _=>?_;refine xL 112 (ζU ZaO) ?_)<;>refine xL 113 ζb ?_<;>refine ζd ?_)
            refine ζy (ι:={q:Nat×Aut//FldOk acts 4 A0 Qs q.1 q.2}) (fun k=>⟨[(2,_,_),(4,_,_),(13,_,_),(111,_,_),(112,_,_),(14,_,_),(113, .int .i64 k.1.1,pInt k.1.1)],[(2,_,_),(4,_,_),(14,h14, .own 39 5 1 (Zc4 k.1.2))]⟩) (fun k=>Qs.length-k.1.1) ⟨(0,A0),Xe _,rfl,hok A0 (Xk ..)⟩ (fun a w H=>H.weaken ⟨rfl,rfl,rfl,rfl,rfl,rfl,rfl,trivial⟩ ⟨rfl,rfl,rfl,trivial⟩) ?_;rintro ⟨⟨j,R⟩,hF⟩;dsimp only;dsimp only at hF;have hFj:=hF.le;refine nav ?_;(refine ζa ?_<;>refine xL 114 ζK ?_<;>refine ζd ?_)
            (first|refine cCd ?_ ?_|refine cC ?_ ?_)<;>intro hb114
            · first
              |exact bN hb114
              | (
               obtain ⟨B,hB⟩:=ζm (show j<Qs.length by omega);have e5:=Zaq ZcI Qs j B hB;have e6:=ZaP ZcI hB;have hBm:=hok B (Xn _ (Xb hB));obtain ⟨p0,p1,p2,p3,p4,E,r5,hres,hc⟩:=ZjM (okO (Zcj 4 R B));have hj:AF Tryz.prog 88 [ζS R,ζS B] (· =resW (Zcj 4 R B)):=Zzl R B;rw [Zpn 4 hF.ok hBm,hres] at hj;obtain ⟨o0,o1,o2,o3,o4⟩:=r5.o;refine nav ?_;(refine ζa ?_<;>refine xL 115 (ζI ZaO) ?_<;>(refine yL 116 (ZaQ ζA) fun v116 h=>?_;cases h)<;>refine ζs [(.int .i64 0),(.int .i64 0),(.slice none 0 0),(.slice none 0 0),(.slice none 0 0)] 5 16 Za0 fun h16=>?_<;>refine ζt 16 ζA ?_<;>refine ζd ?_)
               (refine ζa ?_<;>refine xL 17 ζc ?_<;>refine ζd ?_)
               (refine ζa ?_<;>refine xL 118 ζb ?_<;>(refine yL 119 (ζk 14 ζA) fun v119 h=>?_;cases h)<;>(refine yL 120 (ζk 16 ζA) fun v120 h=>?_;cases h)<;>(refine cP 121 (Zb5 (f:=88) (ps:=[]) rfl ⟨_,rfl⟩ (Tryz.call88) rfl hj) (fun va121 vb121 hva121 hvb121=>?_) (hsh:=r5.t E);cases hvb121)<;>refine xL 117 ζb (xL 122 ζl (xL 123 ζl ?_))<;>refine ζt 14 ζA ?_<;>refine xL 17 ζc ?_<;>refine ζd ?_)
               (refine ζa ?_<;>refine xL 124 ζb (xL 125 Zaz ?_)<;>refine ζd ?_)
               (first|refine cCd ?_ ?_|refine cC ?_ ?_)<;>intro hb125
               · first
                 |exact bN hb125
                 | (
                  have hn:okO (Zcj 4 R B)=none∧E=13:=by
                   rcases hc with h|⟨A,_,h,_⟩
                   · exact h
                   · exact absurd h (by simpa using hb125)
                  obtain ⟨hn,rfl⟩:=hn;rw [hF.none hB hn];refine nav ?_;(refine ζa ?_<;>refine xL 126 (ζB ZcV) (xL 127 ζb ?_)<;>refine ζt 4 ζA ?_<;>refine xL 5 ζc ?_<;>refine ζd ?_)
                  exact Zaf (k:=5) 4 kR (Tryz.results51) rfl rfl rfl (Xa rfl) (by decide) rfl rfl)
               · first
                 |exact bN hb125
                 | (
                  have hA:∃A,okO (Zcj 4 R B)=some A∧E=0∧p0=pInt A.n∧p1=pInt A.syms∧p2=pInts A.start∧p3=pInts A.fin∧p4=pMvs A.moves:=by
                   rcases hc with ⟨_,h⟩|h
                   · exact absurd h (by simp at hb125;omega)
                   · exact h
                  clear hc;obtain ⟨C,hC,rfl,rfl,rfl,rfl,rfl,rfl⟩:=hA;have hFn:=hF.next hB hBm hC
                  refine nav ?_;(refine ζa ?_<;>refine xL 128 ζG (xL 113 ζb ?_)<;>refine ζd ?_)
                  refine ζj (
                   ⟨(j+1,C),hFn⟩
                   ) (by dsimp only;omega) ⟨rfl,rfl,rfl,rfl,rfl,rfl,rfl,trivial⟩ ⟨rfl,rfl,rfl,trivial⟩))
            · first
              |exact bN hb114
              | (
               rw [hF.all (show Qs.length≤j by omega)];refine nav ?_;(refine ζa ?_<;>(refine yL 129 (ζk 14 ζA) fun v129 h=>?_;cases h)<;>refine ζt 4 ζA ?_<;>refine xL 5 ζc ?_<;>refine ζd ?_)
               exact Zaf (k:=5) 4 kR (Tryz.results51) rfl rfl rfl (Xa rfl) (by decide) rfl rfl)
          · try (exact absurd rfl hb103))
set_option maxHeartbeats 4000000 in
theorem ZrP (acts : List ByteArray) (a:ByteArray) (x0:Nd) (l0 l:List Nd) (hl0:l=x0::l0) (hl:l.length≤1000000) (ih:∀x∈l,AF Tryz.prog 51 [pTr x,ZaY acts] (· =resW (lim (bldT acts x)))) (hb:∀x∈l,BldOk acts.length (bldT acts x)):AF Tryz.prog 51 [.agg [pInt 5,Zab a,Zag l],ZaY acts] (· =resW (lim (foldX 5 (l.map (bldT acts))))):=by
 have hlen0:l.length=l0.length+1:=by rw [hl0];rfl
 refine AF.of_body 130 Tryz.func51 rfl Tryz.ntmps51 (Xa rfl) ?_
 intro w0 M0 vs hl hv
 obtain ⟨v0,v1,rfl⟩:=Zbl hl
 clear hl hv
 refine nav ?_
 (refine ζa ?_<;>refine ζH 2 3 fun h2=>?_<;>refine ζs [(.int .i64 0),(.int .i64 0),(.slice none 0 0),(.slice none 0 0),(.slice none 0 0)] 5 4 Za0 fun h4=>?_<;>refine xL 5 ζc ?_<;>refine ζd ?_)
 (refine ζa ?_<;>refine xL 18 (ζh 2 Zbd) ?_<;>(refine yL 19 (ζq 2 ZcK) fun v19 h=>?_;cases h)<;>refine ζd ?_)
 (refine ζa ?_<;>refine xL 21 ζ6 (xL 20 ζc ?_)<;>refine ζd ?_)
 (first|refine cCd ?_ ?_|refine cC ?_ ?_)<;>intro hb20
 · exact absurd hb20 (by decide)
 · refine nav ?_;(refine ζa ?_<;>refine xL 37 ζ6 (xL 36 ζc ?_)<;>refine ζd ?_)
   (first|refine cCd ?_ ?_|refine cC ?_ ?_)<;>intro hb36
   · exact absurd hb36 (by decide)
   · refine nav ?_;(refine ζa ?_<;>refine xL 6 ζc ?_<;>refine ζd ?_)
     (refine ζa ?_<;>refine xL 46 (ζh 2 Ze8) ?_<;>(refine yL 47 (ζq 2 ZhF) fun v47 h=>?_;cases h)<;>refine xL 48 (ζU Zdi) (xL 49 ζb ?_)<;>refine ζd ?_)
     refine ζw (ZbW 200 39 5 rfl) fun _=>?_;refine ζy (ι:={q:Nat×Value×List Aut//PtsOk acts l q.1 q.2.2∧q.2.1.oneCell'=true}) (fun k=>⟨[(1,_,_),(2,_,_),(4,_,_),(5,_,_),(47,_,_),(48,_,_),(6,k.1.2.1, .val k.1.2.1),(49, .int .i64 k.1.1,pInt k.1.1)],[(2,_,_),(4,_,_),(200,k.1.2.1, .own 39 5 k.1.2.2.length (k.1.2.2.flatMap Zc4))]⟩) (fun k=>l.length-k.1.1) ⟨(0, .slice none 0 0,[]),⟨Xe _,rfl,fun _ h=>(by cases h)⟩,rfl⟩ (fun a w H=>H.weaken ⟨rfl,rfl,rfl,rfl,rfl,rfl,rfl,rfl,trivial⟩ ⟨rfl,rfl,rfl,trivial⟩) ?_;rintro ⟨⟨i,hv,Ps⟩,hP,ho⟩;dsimp only;dsimp only at hP ho;have hPl:=hP.len;have hPi:=hP.le;have hPc:(Ps.flatMap Zc4).length=Ps.length*5:=flat_len ZcI Ps;refine nav ?_;(refine ζa ?_<;>refine xL 50 ζK ?_<;>refine ζd ?_)
     (first|refine cCd ?_ ?_|refine cC ?_ ?_)<;>intro hb50
     · first
       |exact bN hb50
       | (
        obtain ⟨x,hx⟩:=ζm (show i<l.length by omega);have e1:((ζ3 l).drop (i*3)).take 3=[pInt x.op,Zab x.act,Zag x.l]:=ζ4 hx;have e2:=Zah hx;obtain ⟨p0,p1,p2,p3,p4,E,r5,hres,hc⟩:=ZjM (bldT acts x);have hxa:=ih x (Xb hx);rw [hres] at hxa;obtain ⟨o0,o1,o2,o3,o4⟩:=r5.o;refine nav ?_;(refine ζa ?_<;>refine xL 51 (ζI Zdi) ?_<;>(refine yL 52 (ZaQ Zbj) fun v52 h=>?_;cases h)<;>refine ζs [(.int .i64 0),(.string ByteArray.empty),(.slice none 0 0)] 3 8 ZhG fun h8=>?_<;>refine ζt 8 Zbj ?_<;>refine ζd ?_)
        (refine ζa ?_<;>(refine yL 54 (ζk 8 Zbj) fun v54 h=>?_;cases h)<;>refine xL 55 ζb ?_<;>(refine cP 56 (cA (Tryz.call51) hxa) (fun va56 vb56 hva56 hvb56=>?_) (hsh:=r5.t E);cases hvb56)<;>refine xL 53 ζb (xL 57 ζl (xL 58 ζl ?_))<;>refine ζs [(.int .i64 0),(.int .i64 0),(.slice none 0 0),(.slice none 0 0),(.slice none 0 0)] 5 9 Za0 fun h9=>?_<;>refine ζt 9 ζA ?_<;>refine xL 10 ζc ?_<;>refine ζd ?_)
        (refine ζa ?_<;>refine xL 59 ζb (xL 60 Zaz ?_)<;>refine ζd ?_)
        (first|refine cCd ?_ ?_|refine cC ?_ ?_)<;>intro hb60
        · first
          |exact bN hb60
          | (
           have hn:bldT acts x=none∧E=13:=by
            rcases hc with h|⟨A,_,h,_⟩
            · exact h
            · exact absurd h (by simpa using hb60)
           obtain ⟨hn,rfl⟩:=hn;have hF:foldX 5 (l.map (bldT acts))=none:=Zhw (Xh.2 ⟨x,Xb hx,hn⟩);rw [hF];refine nav ?_;(refine ζa ?_<;>refine xL 61 (ζB ZcV) (xL 62 ζb ?_)<;>refine ζt 4 ζA ?_<;>refine xL 5 ζc ?_<;>refine ζd ?_)
           exact Zaf (k:=5) 4 kR (Tryz.results51) rfl rfl rfl (Xa rfl) (by decide) rfl rfl)
        · first
          |exact bN hb60
          | (
           have hA:∃A,bldT acts x=some A∧E=0∧p0=pInt A.n∧p1=pInt A.syms∧p2=pInts A.start∧p3=pInts A.fin∧p4=pMvs A.moves:=by
            rcases hc with ⟨_,h⟩|h
            · exact absurd h (by simp at hb60;omega)
            · exact h
           clear hc;obtain ⟨A,hA,rfl,rfl,rfl,rfl,rfl,rfl⟩:=hA;have hnx:=hP.next hx hA (hb x (Xb hx))
           refine nav ?_;(refine ζa ?_<;>refine xL 63 ζb ?_<;>(refine yL 64 (ζk 9 ζA) fun v64 h=>?_;cases h)<;>refine Zaw 65 ZcJ fun h65 ho65=>?_<;>(refine ζ0 200 65 66 ZcJ fun h66 ho66=>?_;refine ζr (ζF (l:=66) 200 rfl rfl) fun _=>?_;refine ζr (ζM (l:=200) rfl (Zi4 _ Ps A)) fun _=>?_)<;>refine xL 6 ζc ?_<;>refine ζd ?_)
           (refine ζa ?_<;>refine xL 67 ζG (xL 49 ζb ?_)<;>refine ζd ?_)
           refine ζj (
            ⟨(i+1,h66,Ps++[A]),hnx,ho66⟩
            ) (by dsimp only;omega) ⟨rfl,rfl,rfl,rfl,rfl,rfl,rfl,rfl,trivial⟩ ⟨rfl,rfl,rfl,trivial⟩))
     · first
       |exact bN hb50
       | (
        obtain ⟨hall,hPll⟩:=hP.all (show l.length≤i by omega);have hok:=hP.ok;rw [hall];obtain ⟨A0,Qs,rfl⟩:∃A0 Qs,Ps=A0::Qs:=by
         cases Ps with
         |nil=>rw [Xz] at hPll;omega
         |cons y m=>exact ⟨y,m,rfl⟩
        refine ζw (En.freeze (l:=200) (t:=6) rfl rfl) fun _=>?_;rw [Zgs _ _ _ rfl];have e3:(((A0::Qs).flatMap Zc4).drop (0*5)).take 5=[pInt A0.n,pInt A0.syms,pInts A0.start,pInts A0.fin,pMvs A0.moves]:=rfl;(have e4:0*5+5≤((A0::Qs).flatMap Zc4).length:=by rw [hPc,Xj];omega);have hQl:0<(A0::Qs).length:=Nat.zero_lt_succ _;(have hQb:Qs.length≤1000000:=by rw [Xj] at hPll;omega);refine nav ?_;(refine ζa ?_<;>refine xL 68 (ζh 2 Zbd) ?_<;>(refine yL 69 (ζq 2 ZcK) fun v69 h=>?_;cases h)<;>refine xL 70 ζ6 ?_<;>refine ζd ?_)
        (first|refine cCd ?_ ?_|refine cC ?_ ?_)<;>intro hb70
        · exact absurd hb70 (by decide)
        · refine nav ?_;(refine ζa ?_<;>refine xL 13 ζc ?_<;>refine ζd ?_)
          (refine ζa ?_<;>refine xL 101 (ζh 2 Zbd) ?_<;>(refine yL 102 (ζq 2 ZcK) fun v102 h=>?_;cases h)<;>refine ζd ?_)
          (refine ζa ?_<;>refine xL 104 ζ6 (xL 103 ζc ?_)<;>refine ζd ?_)
          (first|refine cCd ?_ ?_|refine cC ?_ ?_)<;>intro hb103
          · try (exact absurd hb103 (by decide))
          · try (exact absurd rfl hb103)
            refine nav ?_;(refine ζa ?_<;>refine xL 106 ζ6 (xL 105 ζc ?_)<;>refine ζd ?_)
            (first|refine cCd ?_ ?_|refine cC ?_ ?_)<;>intro hb105
            · try (exact absurd hb105 (by decide))
              refine nav ?_;(refine ζa ?_<;>refine xL 13 ζc ?_<;>refine ζd ?_)
              (refine ζa ?_<;>refine xL 107 ζb (xL 108 (ζI ZaO) ?_)<;>(refine yL 109 (ZaQ ζA) fun v109 h=>?_;cases h)<;>refine ζs [(.int .i64 0),(.int .i64 0),(.slice none 0 0),(.slice none 0 0),(.slice none 0 0)] 5 14 Za0 fun h14=>?_<;>refine ζt 14 ζA ?_<;>refine ζd ?_)
              (refine ζa ?_<;>refine xL 110 ζb ?_<;>refine xL 111 (Zfi (i:=1) (j:=(A0::Qs).length) ZaO rfl rfl rfl rfl (Nat.succ_le_of_lt hQl) (Xd _) hPc) ?_<;>(refine ζr (Zbh (t:=111) (p':= .sl Qs.length (Qs.flatMap Zc4)) rfl (ZjN A0 Qs)) fun _=>?_;refine xL 112 (ζU ZaO) ?_)<;>refine xL 113 ζb ?_<;>refine ζd ?_)
              refine ζy (ι:={q:Nat×Aut//FldOk acts 5 A0 Qs q.1 q.2}) (fun k=>⟨[(2,_,_),(4,_,_),(13,_,_),(111,_,_),(112,_,_),(14,_,_),(113, .int .i64 k.1.1,pInt k.1.1)],[(2,_,_),(4,_,_),(14,h14, .own 39 5 1 (Zc4 k.1.2))]⟩) (fun k=>Qs.length-k.1.1) ⟨(0,A0),Xe _,rfl,hok A0 (Xk ..)⟩ (fun a w H=>H.weaken ⟨rfl,rfl,rfl,rfl,rfl,rfl,rfl,trivial⟩ ⟨rfl,rfl,rfl,trivial⟩) ?_;rintro ⟨⟨j,R⟩,hF⟩;dsimp only;dsimp only at hF;have hFj:=hF.le;refine nav ?_;(refine ζa ?_<;>refine xL 114 ζK ?_<;>refine ζd ?_)
              (first|refine cCd ?_ ?_|refine cC ?_ ?_)<;>intro hb114
              · first
                |exact bN hb114
                | (
                 obtain ⟨B,hB⟩:=ζm (show j<Qs.length by omega);have e5:=Zaq ZcI Qs j B hB;have e6:=ZaP ZcI hB;have hBm:=hok B (Xn _ (Xb hB));obtain ⟨p0,p1,p2,p3,p4,E,r5,hres,hc⟩:=ZjM (okO (Zcj 5 R B));have hj:AF Tryz.prog 89 [ζS R,ζS B] (· =resW (Zcj 5 R B)):=Ztk R B;rw [Zpn 5 hF.ok hBm,hres] at hj;obtain ⟨o0,o1,o2,o3,o4⟩:=r5.o;refine nav ?_;(refine ζa ?_<;>refine xL 115 (ζI ZaO) ?_<;>(refine yL 116 (ZaQ ζA) fun v116 h=>?_;cases h)<;>refine ζs [(.int .i64 0),(.int .i64 0),(.slice none 0 0),(.slice none 0 0),(.slice none 0 0)] 5 16 Za0 fun h16=>?_<;>refine ζt 16 ζA ?_<;>refine ζd ?_)
                 (refine ζa ?_<;>refine xL 17 ζc ?_<;>refine ζd ?_)
                 (refine ζa ?_<;>refine xL 118 ζb ?_<;>(refine yL 119 (ζk 14 ζA) fun v119 h=>?_;cases h)<;>(refine yL 120 (ζk 16 ζA) fun v120 h=>?_;cases h)<;>(refine cP 121 (Zb5 (f:=89) (ps:=[]) rfl ⟨_,rfl⟩ (Tryz.call89) rfl hj) (fun va121 vb121 hva121 hvb121=>?_) (hsh:=r5.t E);cases hvb121)<;>refine xL 117 ζb (xL 122 ζl (xL 123 ζl ?_))<;>refine ζt 14 ζA ?_<;>refine xL 17 ζc ?_<;>refine ζd ?_)
                 (refine ζa ?_<;>refine xL 124 ζb (xL 125 Zaz ?_)<;>refine ζd ?_)
                 (first|refine cCd ?_ ?_|refine cC ?_ ?_)<;>intro hb125
                 · first
                   |exact bN hb125
                   | (
                    have hn:okO (Zcj 5 R B)=none∧E=13:=by
                     rcases hc with h|⟨A,_,h,_⟩
                     · exact h
                     · exact absurd h (by simpa using hb125)
                    obtain ⟨hn,rfl⟩:=hn;rw [hF.none hB hn];refine nav ?_;(refine ζa ?_<;>refine xL 126 (ζB ZcV) (xL 127 ζb ?_)<;>refine ζt 4 ζA ?_<;>refine xL 5 ζc ?_<;>refine ζd ?_)
                    exact Zaf (k:=5) 4 kR (Tryz.results51) rfl rfl rfl (Xa rfl) (by decide) rfl rfl)
                 · first
                   |exact bN hb125
                   | (
                    have hA:∃A,okO (Zcj 5 R B)=some A∧E=0∧p0=pInt A.n∧p1=pInt A.syms∧p2=pInts A.start∧p3=pInts A.fin∧p4=pMvs A.moves:=by
                     rcases hc with ⟨_,h⟩|h
                     · exact absurd h (by simp at hb125;omega)
                     · exact h
                    clear hc;obtain ⟨C,hC,rfl,rfl,rfl,rfl,rfl,rfl⟩:=hA;have hFn:=hF.next hB hBm hC
                    refine nav ?_;(refine ζa ?_<;>refine xL 128 ζG (xL 113 ζb ?_)<;>refine ζd ?_)
                    refine ζj (
                     ⟨(j+1,C),hFn⟩
                     ) (by dsimp only;omega) ⟨rfl,rfl,rfl,rfl,rfl,rfl,rfl,trivial⟩ ⟨rfl,rfl,rfl,trivial⟩))
              · first
                |exact bN hb114
                | (
                 rw [hF.all (show Qs.length≤j by omega)];refine nav ?_;(refine ζa ?_<;>(refine yL 129 (ζk 14 ζA) fun v129 h=>?_;cases h)<;>refine ζt 4 ζA ?_<;>refine xL 5 ζc ?_<;>refine ζd ?_)
                 exact Zaf (k:=5) 4 kR (Tryz.results51) rfl rfl rfl (Xa rfl) (by decide) rfl rfl)
            · try (exact absurd rfl hb105))
theorem ZrQ {acts:List ByteArray} {a b:Aut} (ha:IsMin a∧a.syms=acts.length) (hb:IsMin b∧b.syms=acts.length):MinO acts.length (Zg5 a b):=Zg8 ha.1 hb.1 ha.2 hb.2
set_option maxHeartbeats 4000000 in
theorem Zpo (acts :List ByteArray) (a:ByteArray) (x0 y0:Nd) (l:List Nd) (hl0:l=[x0,y0]) (ih:∀x∈l,AF Tryz.prog 51 [pTr x,ZaY acts] (· =resW (lim (bldT acts x)))) (hb:∀x∈l,BldOk acts.length (bldT acts x)):AF Tryz.prog 51 [.agg [pInt 6,Zab a,Zag l],ZaY acts] (· =resW (lim (foldX 6 (l.map (bldT acts))))):=by
 have hlen0:l.length=2:=by rw [hl0];rfl
 refine AF.of_body 130 Tryz.func51 rfl Tryz.ntmps51 (Xa rfl) ?_
 intro w0 M0 vs hl hv
 obtain ⟨v0,v1,rfl⟩:=Zbl hl
 clear hl hv
 refine nav ?_
 (refine ζa ?_<;>refine ζH 2 3 fun h2=>?_<;>refine ζs [(.int .i64 0),(.int .i64 0),(.slice none 0 0),(.slice none 0 0),(.slice none 0 0)] 5 4 Za0 fun h4=>?_<;>refine xL 5 ζc ?_<;>refine ζd ?_)
 (refine ζa ?_<;>refine xL 18 (ζh 2 Zbd) ?_<;>(refine yL 19 (ζq 2 ZcK) fun v19 h=>?_;cases h)<;>refine ζd ?_)
 (refine ζa ?_<;>refine xL 21 ζ6 (xL 20 ζc ?_)<;>refine ζd ?_)
 (first|refine cCd ?_ ?_|refine cC ?_ ?_)<;>intro hb20
 · exact absurd hb20 (by decide)
 · refine nav ?_;(refine ζa ?_<;>refine xL 37 ζ6 (xL 36 ζc ?_)<;>refine ζd ?_)
   (first|refine cCd ?_ ?_|refine cC ?_ ?_)<;>intro hb36
   · exact absurd hb36 (by decide)
   · refine nav ?_;(refine ζa ?_<;>refine xL 6 ζc ?_<;>refine ζd ?_)
     (refine ζa ?_<;>refine xL 46 (ζh 2 Ze8) ?_<;>(refine yL 47 (ζq 2 ZhF) fun v47 h=>?_;cases h)<;>refine xL 48 (ζU Zdi) (xL 49 ζb ?_)<;>refine ζd ?_)
     refine ζw (ZbW 200 39 5 rfl) fun _=>?_;refine ζy (ι:={q:Nat×Value×List Aut//PtsOk acts l q.1 q.2.2∧q.2.1.oneCell'=true}) (fun k=>⟨[(1,_,_),(2,_,_),(4,_,_),(5,_,_),(47,_,_),(48,_,_),(6,k.1.2.1, .val k.1.2.1),(49, .int .i64 k.1.1,pInt k.1.1)],[(2,_,_),(4,_,_),(200,k.1.2.1, .own 39 5 k.1.2.2.length (k.1.2.2.flatMap Zc4))]⟩) (fun k=>l.length-k.1.1) ⟨(0, .slice none 0 0,[]),⟨Xe _,rfl,fun _ h=>(by cases h)⟩,rfl⟩ (fun a w H=>H.weaken ⟨rfl,rfl,rfl,rfl,rfl,rfl,rfl,rfl,trivial⟩ ⟨rfl,rfl,rfl,trivial⟩) ?_;rintro ⟨⟨i,hv,Ps⟩,hP,ho⟩;dsimp only;dsimp only at hP ho;have hPl:=hP.len;have hPi:=hP.le;have hPc:(Ps.flatMap Zc4).length=Ps.length*5:=flat_len ZcI Ps;refine nav ?_;(refine ζa ?_<;>refine xL 50 ζK ?_<;>refine ζd ?_)
     (first|refine cCd ?_ ?_|refine cC ?_ ?_)<;>intro hb50
     · first
       |exact bN hb50
       | (
        obtain ⟨x,hx⟩:=ζm (show i<l.length by omega);have e1:((ζ3 l).drop (i*3)).take 3=[pInt x.op,Zab x.act,Zag x.l]:=ζ4 hx;have e2:=Zah hx;obtain ⟨p0,p1,p2,p3,p4,E,r5,hres,hc⟩:=ZjM (bldT acts x);have hxa:=ih x (Xb hx);rw [hres] at hxa;obtain ⟨o0,o1,o2,o3,o4⟩:=r5.o;refine nav ?_;(refine ζa ?_<;>refine xL 51 (ζI Zdi) ?_<;>(refine yL 52 (ZaQ Zbj) fun v52 h=>?_;cases h)<;>refine ζs [(.int .i64 0),(.string ByteArray.empty),(.slice none 0 0)] 3 8 ZhG fun h8=>?_<;>refine ζt 8 Zbj ?_<;>refine ζd ?_)
        (refine ζa ?_<;>(refine yL 54 (ζk 8 Zbj) fun v54 h=>?_;cases h)<;>refine xL 55 ζb ?_<;>(refine cP 56 (cA (Tryz.call51) hxa) (fun va56 vb56 hva56 hvb56=>?_) (hsh:=r5.t E);cases hvb56)<;>refine xL 53 ζb (xL 57 ζl (xL 58 ζl ?_))<;>refine ζs [(.int .i64 0),(.int .i64 0),(.slice none 0 0),(.slice none 0 0),(.slice none 0 0)] 5 9 Za0 fun h9=>?_<;>refine ζt 9 ζA ?_<;>refine xL 10 ζc ?_<;>refine ζd ?_)
        (refine ζa ?_<;>refine xL 59 ζb (xL 60 Zaz ?_)<;>refine ζd ?_)
        (first|refine cCd ?_ ?_|refine cC ?_ ?_)<;>intro hb60
        · first
          |exact bN hb60
          | (
           have hn:bldT acts x=none∧E=13:=by
            rcases hc with h|⟨A,_,h,_⟩
            · exact h
            · exact absurd h (by simpa using hb60)
           obtain ⟨hn,rfl⟩:=hn;have hF:foldX 6 (l.map (bldT acts))=none:=Zhw (Xh.2 ⟨x,Xb hx,hn⟩);rw [hF];refine nav ?_;(refine ζa ?_<;>refine xL 61 (ζB ZcV) (xL 62 ζb ?_)<;>refine ζt 4 ζA ?_<;>refine xL 5 ζc ?_<;>refine ζd ?_)
           exact Zaf (k:=5) 4 kR (Tryz.results51) rfl rfl rfl (Xa rfl) (by decide) rfl rfl)
        · first
          |exact bN hb60
          | (
           have hA:∃A,bldT acts x=some A∧E=0∧p0=pInt A.n∧p1=pInt A.syms∧p2=pInts A.start∧p3=pInts A.fin∧p4=pMvs A.moves:=by
            rcases hc with ⟨_,h⟩|h
            · exact absurd h (by simp at hb60;omega)
            · exact h
           clear hc;obtain ⟨A,hA,rfl,rfl,rfl,rfl,rfl,rfl⟩:=hA;have hnx:=hP.next hx hA (hb x (Xb hx))
           refine nav ?_;(refine ζa ?_<;>refine xL 63 ζb ?_<;>(refine yL 64 (ζk 9 ζA) fun v64 h=>?_;cases h)<;>refine Zaw 65 ZcJ fun h65 ho65=>?_<;>(refine ζ0 200 65 66 ZcJ fun h66 ho66=>?_;refine ζr (ζF (l:=66) 200 rfl rfl) fun _=>?_;refine ζr (ζM (l:=200) rfl (Zi4 _ Ps A)) fun _=>?_)<;>refine xL 6 ζc ?_<;>refine ζd ?_)
           (refine ζa ?_<;>refine xL 67 ζG (xL 49 ζb ?_)<;>refine ζd ?_)
           refine ζj (
            ⟨(i+1,h66,Ps++[A]),hnx,ho66⟩
            ) (by dsimp only;omega) ⟨rfl,rfl,rfl,rfl,rfl,rfl,rfl,rfl,trivial⟩ ⟨rfl,rfl,rfl,trivial⟩))
     · first
       |exact bN hb50
       | (
        obtain ⟨hall,hPll⟩:=hP.all (show l.length≤i by omega);have hok:=hP.ok;rw [hall];obtain ⟨A,B,rfl⟩:∃A B,Ps=[A,B]:=by
         match Ps,hPll.trans hlen0 with
         |[A,B],_=>exact ⟨A,B,rfl⟩
        refine ζw (En.freeze (l:=200) (t:=6) rfl rfl) fun _=>?_;rw [Zgs _ _ _ rfl];have e3:(([A,B].flatMap Zc4).drop (0*5)).take 5=[pInt A.n,pInt A.syms,pInts A.start,pInts A.fin,pMvs A.moves]:=rfl;have e4:(([A,B].flatMap Zc4).drop (1*5)).take 5=[pInt B.n,pInt B.syms,pInts B.start,pInts B.fin,pMvs B.moves]:=rfl;have hA:=hok A (Xk ..);have hB:=hok B (Xn _ (Xk ..));have hF:foldX 6 ([A,B].map some)=okO (Ze7 A B):=rfl;rw [hF];clear hF hall;have mX:=ZrQ hB hA;obtain ⟨p0,p1,p2,p3,p4,E,r5,hres,hc⟩:=ZjM (okO (Zg5 B A));have hj:=ZjI B A;rw [mX.lim,hres] at hj;obtain ⟨o0,o1,o2,o3,o4⟩:=r5.o;refine nav ?_;(refine ζa ?_<;>refine xL 68 (ζh 2 Zbd) ?_<;>(refine yL 69 (ζq 2 ZcK) fun v69 h=>?_;cases h)<;>refine xL 70 ζ6 ?_<;>refine ζd ?_)
        (first|refine cCd ?_ ?_|refine cC ?_ ?_)<;>intro hb70
        · refine nav ?_;(refine ζY (fun i=>([12]:List Nat).elem i) [] kR ?_<;>refine xD 0 72 rfl ζb ?_<;>refine xD 1 73 rfl (ζI ZaO) ?_<;>(refine yD 2 74 rfl (ZaQ ζA) fun v74 h=>?_;cases h)<;>refine xD 3 75 rfl ζb ?_<;>refine xD 4 76 rfl (ζI ZaO) ?_<;>(refine yD 5 77 rfl (ZaQ ζA) fun v77 h=>?_;cases h)<;>(refine Zad 6 10 kR ?_ ?_;rotate_right;(focus ((refine ζf rfl fun w9 M9 N9 DQ back=>?_)<;>refine ζs [(.int .i64 0),(.int .i64 0),(.slice none 0 0),(.slice none 0 0),(.slice none 0 0)] 5 11 Za0 fun h11=>?_<;>refine ζe (back _ (nrm ?_))<;>(refine ζi 6 kR ?_)<;>(refine ζf rfl fun w9 M9 N9 DQ back=>?_)<;>(refine cP 78 (cA (Tryz.call87) hj) (fun va78 vb78 hva78 hvb78=>?_) (hsh:=r5.t E);cases hvb78)<;>refine ζe (back _ (nrm ?_))<;>refine xE 7 71 rfl ζb ?_<;>refine xD 8 79 rfl ζl ?_<;>refine xD 9 80 rfl ζl ?_<;>(refine ζi 11 kR ?_)<;>(refine ζf rfl fun w9 M9 N9 DQ back=>?_)<;>refine ζt 11 ζA ?_<;>refine ζe (back _ (nrm ?_))));rotate_right;(focus ((refine ζf rfl fun w9 M9 N9 DQ back=>?_)<;>(refine cP 78 (cA (Tryz.call87) hj) (fun va78 vb78 hva78 hvb78=>?_) (hsh:=r5.t E);cases hvb78)<;>refine ζe (back _ (nrm ?_))<;>refine xD 7 71 rfl ζb ?_<;>refine xD 8 79 rfl ζl ?_<;>refine xD 9 80 rfl ζl ?_<;>(refine ζi 10 kR ?_)<;>(refine ζf rfl fun w9 M9 N9 DQ back=>?_)<;>refine ζs [(.int .i64 0),(.int .i64 0),(.slice none 0 0),(.slice none 0 0),(.slice none 0 0)] 5 11 Za0 fun h11=>?_<;>refine ζe (back _ (nrm ?_))<;>(refine ζi 11 kR ?_)<;>(refine ζf rfl fun w9 M9 N9 DQ back=>?_)<;>refine ζt 11 ζA ?_<;>refine ζe (back _ (nrm ?_)))))<;>refine xE 12 12 rfl ζc ?_<;>refine Zam kR (nav ?_)<;>try dsimp only)<;>(
           (refine ζa ?_<;>refine xL 81 ζb (xL 82 Zaz ?_)<;>refine ζd ?_)
           (first|refine cCd ?_ ?_|refine cC ?_ ?_)<;>intro hb82
           · first
             |exact bN hb82
             | (
              have hn:okO (Zg5 B A)=none∧E=13:=by
               rcases hc with h|⟨A,_,h,_⟩
               · exact h
               · exact absurd h (by simpa using hb82)
              obtain ⟨hn,rfl⟩:=hn;(have hlp:okO (Ze7 A B)=none:=by unfold Ze7;rw [mX.lim,hn];rfl);rw [hlp];refine nav ?_;(refine ζa ?_<;>refine xL 83 (ζB ZcV) (xL 84 ζb ?_)<;>refine ζt 4 ζA ?_<;>refine xL 5 ζc ?_<;>refine ζd ?_)
              exact Zaf (k:=5) 4 kR (Tryz.results51) rfl rfl rfl (Xa rfl) (by decide) rfl rfl)
           · first
             |exact bN hb82
             | (
              have hC:∃C,okO (Zg5 B A)=some C∧E=0∧p0=pInt C.n∧p1=pInt C.syms∧p2=pInts C.start∧p3=pInts C.fin∧p4=pMvs C.moves:=by
               rcases hc with ⟨_,h⟩|h
               · exact absurd h (by simp at hb82;omega)
               · exact h
              clear hc;obtain ⟨C,hC,rfl,rfl,rfl,rfl,rfl,rfl⟩:=hC;obtain ⟨hC1,hC2⟩:=mX.ok hC;have mS:=ZjD hC2.1 hC2.2;obtain ⟨p0,p1,p2,p3,p4,E,r5,hres,hc⟩:=ZjM (okO (ZeI C));have hj:=ZBv C;rw [mS.lim,hres] at hj;obtain ⟨o0,o1,o2,o3,o4⟩:=r5.o;refine nav ?_;(refine ζa ?_<;>(refine yL 86 (ζk 11 ζA) fun v86 h=>?_;cases h)<;>(refine cP 87 (cA (Tryz.call90) hj) (fun va87 vb87 hva87 hvb87=>?_) (hsh:=r5.t E);cases hvb87)<;>refine xL 85 ζb (xL 88 ζl (xL 89 ζl ?_))<;>refine ζt 11 ζA ?_<;>refine xL 12 ζc ?_<;>refine ζd ?_)
              (refine ζa ?_<;>refine xL 90 ζb (xL 91 Zaz ?_)<;>refine ζd ?_)
              (first|refine cCd ?_ ?_|refine cC ?_ ?_)<;>intro hb91
              · first
                |exact bN hb91
                | (
                 have hn:okO (ZeI C)=none∧E=13:=by
                  rcases hc with h|⟨A,_,h,_⟩
                  · exact h
                  · exact absurd h (by simpa using hb91)
                 obtain ⟨hn,rfl⟩:=hn;(have hlp:okO (Ze7 A B)=none:=by unfold Ze7;rw [hC1];dsimp only;rw [mS.lim,hn];rfl);rw [hlp];refine nav ?_;(refine ζa ?_<;>refine xL 92 (ζB ZcV) (xL 93 ζb ?_)<;>refine ζt 4 ζA ?_<;>refine xL 5 ζc ?_<;>refine ζd ?_)
                 exact Zaf (k:=5) 4 kR (Tryz.results51) rfl rfl rfl (Xa rfl) (by decide) rfl rfl)
              · first
                |exact bN hb91
                | (
                 have hS:∃S,okO (ZeI C)=some S∧E=0∧p0=pInt S.n∧p1=pInt S.syms∧p2=pInts S.start∧p3=pInts S.fin∧p4=pMvs S.moves:=by
                  rcases hc with ⟨_,h⟩|h
                  · exact absurd h (by simp at hb91;omega)
                  · exact h
                 clear hc;obtain ⟨S,hS,rfl,rfl,rfl,rfl,rfl,rfl⟩:=hS;obtain ⟨hS1,hS2⟩:=mS.ok hS;have mT:=ZrQ hA hS2;(have hlp:okO (Ze7 A B)=okO (Zg5 A S):=by unfold Ze7;rw [hC1];dsimp only;rw [hS1]);rw [hlp];obtain ⟨p0,p1,p2,p3,p4,E,r5,hres,hc⟩:=ZjM (okO (Zg5 A S));have hj:=ZjI A S;rw [mT.lim,hres] at hj;rw [hres];obtain ⟨o0,o1,o2,o3,o4⟩:=r5.o;refine nav ?_;(refine ζY (fun i=>([8]:List Nat).elem i) [11] kR ?_<;>refine xD 0 94 rfl ζb ?_<;>refine xD 1 95 rfl (ζI ZaO) ?_<;>(refine yD 2 96 rfl (ZaQ ζA) fun v96 h=>?_;cases h)<;>(refine yE 3 97 rfl (ζk 11 ζA) fun v97 h=>?_;cases h)<;>(refine ζi 4 kR ?_)<;>(refine ζf rfl fun w9 M9 N9 DQ back=>?_)<;>(refine cP 98 (cA (Tryz.call87) hj) (fun va98 vb98 hva98 hvb98=>?_) (hsh:=r5.t E);cases hvb98)<;>refine ζe (back _ (nrm ?_))<;>refine xD 5 99 rfl ζl ?_<;>refine xE 6 100 rfl ζl ?_<;>(refine ζi 7 kR ?_)<;>(refine ζf rfl fun w9 M9 N9 DQ back=>?_)<;>refine ζt 4 ζA ?_<;>refine ζe (back _ (nrm ?_))<;>refine xE 8 5 rfl ζc ?_<;>refine Zam kR (nav ?_)<;>try dsimp only)
                 exact Zaf (k:=5) 4 kR (Tryz.results51) rfl rfl rfl (Xa rfl) (by decide) r5.s rfl)))
        · exact absurd rfl hb70)
theorem ZjO (acts:List ByteArray) (hm:acts.length≤40):∀t:Nd,okT t=true→szT t≤1000→(∀s∈Zax t,s∈acts)→AF Tryz.prog 51 [pTr t,ZaY acts] (· =resW (lim (bldT acts t))):=Nd.ind fun o a l ih hok hsz ha=>by
 have e0:pTr (.mk o a l)= .agg [pInt o,Zab a,Zag l]:=rfl
 rw [e0]
 obtain ⟨hr,hp⟩:=Zbf.1 hok
 have hops:=ZdH hr
 simp only [Nd.op,Nd.l] at hops hp
 rw [szT] at hsz
 have hlz:=Zef l
 have hpa:∀x∈l,o≠1→∀s∈Zax x,s∈acts:=fun x hx h1 s hs=>ha s (by rw [Zax,if_neg h1];exact ZaS.2 ⟨x,hx,hs⟩)
 have hih:o≠1→∀x∈l,AF Tryz.prog 51 [pTr x,ZaY acts] (· =resW (lim (bldT acts x))):=fun h1 x hx=>ih x hx (hp x hx) (by have:=ZdT hx;omega) (hpa x hx h1)
 have hbo:o≠1→∀x∈l,BldOk acts.length (bldT acts x):=fun h1 x hx=>ZDs hm x (hpa x hx h1)
 by_cases h1:o=1
 · subst h1;have hmem:a∈acts:=ha a (by rw [Zax,if_pos rfl];exact Xk ..);obtain ⟨i,h2,h3,_⟩:=ZiW hmem;have hi:=ζg h3;have hM:=ZfQ (m:=acts.length) (ZkR hm (k:=Zdx acts a) (by rw [h2];omega)) rfl;have hl:l=[]:=by unfold rightT at hr;simp [Nd.op,Nd.l] at hr;exact hr.1
   subst hl;have hb:bldT acts (.mk 1 a [])=okO (Zfe (ZfP acts.length (Zdx acts a))):=by rw [bldT,if_pos rfl];rfl
   rw [hb];obtain ⟨p0,p1,p2,p3,p4,E,r5,hres,_⟩:=ZjM (okO (Zfe (ZfP acts.length (Zdx acts a))));have hj:=Zkh (ZfP acts.length (Zdx acts a));rw [hM.lim,hres] at hj;rw [hres];exact ZrL acts a r5 hj
 by_cases h2:o=2
 · subst h2;have hM:=ZfQ (m:=acts.length) (Zpa hm) rfl;have hl:l=[]:=by unfold rightT at hr;simp [Nd.op,Nd.l] at hr;exact hr.1
   subst hl;have hb:bldT acts (.mk 2 a [])=okO (Zfe (ZjB acts.length)):=by rw [bldT,if_neg (by decide),if_pos rfl]
   rw [hb];obtain ⟨p0,p1,p2,p3,p4,E,r5,hres,_⟩:=ZjM (okO (Zfe (ZjB acts.length)));have hj:=Zkh (ZjB acts.length);rw [hM.lim,hres] at hj;rw [hres];exact ZrM acts a r5 hj
 rw [ZyQ acts o a l h1 h2]
 by_cases h6:o=6
 · subst h6;obtain ⟨x,y,hxy⟩:=ZnV hr;exact Zpo acts a x y l hxy (hih h1) (hbo h1)
 have ho:o=3∨o=4∨o=5:=by omega
 obtain ⟨x,m,hxm⟩:=Zrz ho hr
 rcases ho with rfl|rfl|rfl
 · exact ZrN acts a x m l hxm (by omega) (hih h1) (hbo h1)
 · exact ZrO acts a x m l hxm (by omega) (hih h1) (hbo h1)
 · exact ZrP acts a x m l hxm (by omega) (hih h1) (hbo h1)
end Go.Proofs.YtgfabnhpllkebaaGreatDoor
