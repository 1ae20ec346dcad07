/-
  Walks: automata: Union.
  Walks: automata: Concat.
  Walks: automata: moves in order are kept once each.
  Walks: automata: what an operation made, moves more than once among them.
  Walks: automata: Shuffle.
  Walks: languages of trees: the automaton of a tree.
  Walks: languages of trees: the reference's lists of names; activities of a tree; names of words.
  Walks: languages of trees: the automaton of a tree, out of those of its parts.
  Walks: the reference's automata: the table of an automaton.
  Walks: automata: Product.
  Walks: the reference's automata: the table of the pairs of two automata.
-/
import Derived.Test.YtgfabnhpllkebaaGreatDoorPk10
import Derived.Test.YtgfabnhpllkebaaGreatDoorPk09
import Derived.Test.YtgfabnhpllkebaaGreatDoorPk04
import Derived.Test.YtgfabnhpllkebaaGreatDoorPk05
import Derived.Test.YtgfabnhpllkebaaGreatDoorPk06
import Derived.Test.YtgfabnhpllkebaaGreatDoorPk08
namespace Go.Proofs.YtgfabnhpllkebaaGreatDoor
open Go.RowKit Go.Cb Go.En
set_option linter.all false
set_option maxRecDepth 100000
theorem ZgE (l:List Int):(l.map pInt).all En.one=true:=by rw [List.all_eq_true];intro p hp;obtain ⟨z,_,rfl⟩:=List.mem_map.1 hp;rfl
theorem Zft (l:List Int):(l.map pInt).length=l.length*1:=by rw [List.length_map,Nat.mul_one]
theorem ZgF (e:Nat) (l m:List Int):PV.own e 1 (l.length+m.length) (l.map pInt++m.map pInt)= .own e 1 (l++m).length ((l++m).map pInt):=by rw [List.map_append,List.length_append]
theorem Zf5 {a b:Aut} (h:Zdl a b=0):VOk a∧VOk b∧a.syms=b.syms:=by
 obtain ⟨h1,h2,h3⟩:=Zkc h
 exact ⟨ZbA h1,ZbA h2,h3⟩
theorem Zqy (a b:Aut) (e:Int) (he:¬e=0) (hf:AF Tryz.prog 120 [ζW a,ζW b] (· =pInt e)):AF Tryz.prog 88 [ζW a,ζW b] (· = .tup [Zia,pInt e]):=by
 refine AF.of_body 42 Tryz.func88 rfl Tryz.ntmps88 (Nat.le_of_ble_eq_true rfl) ?_
 intro w0 M0 vs hl hv
 obtain ⟨v0,v1,rfl⟩:=Zb3 hl
 clear hl hv
 refine nav ?_
 (refine ζa ?_<;>refine ζE 2 5 fun h2=>?_<;>refine ζE 3 5 fun h3=>?_<;>refine ζr [(.int .i64 0),(.int .i64 0),(.slice none 0 0),(.slice none 0 0),(.slice none 0 0)] 5 4 ζz fun h4=>?_<;>refine xL 5 ζc ?_<;>refine ζb (nav ?_)<;>try dsimp only)
 (refine ζa ?_<;>(refine yL 8 (ζp 2 ζg) fun v8 h=>?_;cases h)<;>(refine yL 9 (ζp 3 ζg) fun v9 h=>?_;cases h)<;>(refine cS 10 (cA Tryz.call120 (hf)) fun v10 h=>?_;cases h)<;>refine xL 6 ζc ?_<;>refine ζb (nav ?_)<;>try dsimp only)
 (refine ζa ?_<;>refine xL 11 ζd ?_<;>refine xL 12 ZaD ?_<;>refine ζb (nav ?_)<;>try dsimp only)
 (first|refine cCd ?_ ?_|refine cC ?_ ?_)<;>intro hb12
 · refine nav ?_
   (refine ζa ?_<;>refine xL 13 (ζB ζK) ?_<;>refine xL 14 ζd ?_<;>refine ζC 4 ζg ?_<;>refine xL 5 ζc ?_<;>refine ζb (nav ?_)<;>try dsimp only)
   exact ζ6 (k:=5) 4 (by kernel_rfl) (Tryz.results88) rfl rfl rfl (Nat.le_of_ble_eq_true rfl) (by decide) rfl rfl
 · exact absurd (by simpa using hb12) he
set_option maxHeartbeats 2000000 in
theorem ZvD (a b:Aut) (hf0:Zdl a b=0) {p0 p1 p2 p3 p4:PV} {E:Int} (r5:R5 p0 p1 p2 p3 p4) (hr:AF Tryz.prog 132 [ζW (mkA (ZcL a b))] (· = .tup [.agg [p0,p1,p2,p3,p4],pInt E])):AF Tryz.prog 88 [ζW a,ζW b] (· = .tup [.agg [p0,p1,p2,p3,p4],pInt E]):=by
 obtain ⟨o0,o1,o2,o3,o4⟩:=r5.o
 obtain ⟨ha,hb,hs⟩:=Zf5 hf0
 have hf:=ZhU a b
 rw [hf0] at hf
 have hn0:=ha.n0
 have hn1:=ha.n1
 have k1:=ha.sl
 have k2:=hb.sl
 have k3:=ha.fl
 have k4:=hb.fl
 have m1:=hb.n1
 have kml:=Znk ha.toAOk hb.toAOk
 have l1:=Zdz a.n b.start
 have l2:=Zdz a.n b.fin
 refine AF.of_body 42 Tryz.func88 rfl Tryz.ntmps88 (Nat.le_of_ble_eq_true rfl) ?_
 intro w0 M0 vs hl hv
 obtain ⟨v0,v1,rfl⟩:=Zb3 hl
 clear hl hv
 refine nav ?_
 (refine ζa ?_<;>refine ζE 2 5 fun h2=>?_<;>refine ζE 3 5 fun h3=>?_<;>refine ζr [(.int .i64 0),(.int .i64 0),(.slice none 0 0),(.slice none 0 0),(.slice none 0 0)] 5 4 ζz fun h4=>?_<;>refine xL 5 ζc ?_<;>refine ζb (nav ?_)<;>try dsimp only)
 (refine ζa ?_<;>(refine yL 8 (ζp 2 ζg) fun v8 h=>?_;cases h)<;>(refine yL 9 (ζp 3 ζg) fun v9 h=>?_;cases h)<;>(refine cS 10 (cA Tryz.call120 (hf)) fun v10 h=>?_;cases h)<;>refine xL 6 ζc ?_<;>refine ζb (nav ?_)<;>try dsimp only)
 (refine ζa ?_<;>refine xL 11 ζd ?_<;>refine xL 12 ZaD ?_<;>refine ζb (nav ?_)<;>try dsimp only)
 (first|refine cCd ?_ ?_|refine cC ?_ ?_)<;>intro hb12
 · first|omega|exact absurd rfl hb12|exact Bool.noConfusion hb12
 · refine nav ?_
   (refine ζa ?_<;>(refine yL 15 (ζp 2 ζg) fun v15 h=>?_;cases h)<;>(refine yL 16 (ζp 3 ζg) fun v16 h=>?_;cases h)<;>(refine ZeG [2,3,4] 17 (Tryz.call134) (ZlT a b ha.toAOk hb.toAOk _ _) ?_;rintro V17 _ _ ⟨hM,hMo,rfl,rfl⟩;have qM:En.one (PV.val hM)=true:=hMo)<;>refine ζr [(.int .i64 0),(.int .i64 0),(.slice none 0 0),(.slice none 0 0),(.slice none 0 0)] 5 7 ζz fun h7=>?_<;>refine ζC 7 ζg ?_<;>refine ζb (nav ?_)<;>try dsimp only)
   (refine ζ4 (fun i=>([]:List Nat).elem i) [2,3] (by kernel_rfl) ?_<;>refine xD 0 18 rfl (ζh 2 Zab) ?_<;>(refine yD 1 19 rfl (ζs 2 ζx) fun v19 h=>?_;cases h)<;>refine xD 3 21 rfl (ζh 3 Zab) ?_<;>(refine yD 4 22 rfl (ζs 3 ζx) fun v22 h=>?_;cases h)<;>refine xD 5 23 rfl (ζh 2 ζP) ?_<;>(refine yD 6 24 rfl (ζs 2 ζj) fun v24 h=>?_;cases h)<;>(refine ζo 2 (by kernel_rfl) ?_)<;>(refine ζk rfl fun w9 M9 N9 DQ back=>?_)<;>refine cO 20 (cA Tryz.call135 (ZbY a.start (by omega))) fun v20 ho20=>?_<;>refine ζb (back _ (nrm ?_))<;>(refine ζo 7 (by kernel_rfl) ?_)<;>(refine ζk rfl fun w9 M9 N9 DQ back=>?_)<;>(refine cO 25 (cA Tryz.call136 (Zdk b.start a.n (by omega) (by omega) (fun x hx=>by have:=hb.st x hx;omega))) fun v25 ho25=>?_;refine ζq (En.freeze (l:=25) (t:=25) rfl rfl) fun _=>?_;rw [ζL _ _ _ rfl])<;>refine ζb (back _ (nrm ?_))<;>(refine ζo 8 (by kernel_rfl) ?_)<;>(refine ζk rfl fun w9 M9 N9 DQ back=>?_)<;>(refine Ziu 20 26 ζi (fun h26 ho26=>?_) (Zft (ZcT a.n b.start)) (ZgE (ZcT a.n b.start));have q26:En.one (PV.val h26)=true:=ho26)<;>refine ζb (back _ (nrm ?_))<;>refine xE 9 27 rfl (ζh 7 Zab) ?_<;>(refine ζo 10 (by kernel_rfl) ?_)<;>(refine ζk rfl fun w9 M9 N9 DQ back=>?_)<;>refine Zc1 7 ζx Zbo ?_<;>refine ζb (back _ (nrm ?_))<;>refine ZaM (by kernel_rfl) (nav ?_)<;>try dsimp only)
   refine ζv (ζN (l:=26) rfl (ZgF _ a.start (ZcT a.n b.start))) fun _=>?_
   refine ζv (Zaj (l:=7) (l':=26) (j:=2) rfl rfl rfl rfl) fun _=>?_
   rw [ζL _ _ _ rfl]
   (refine ζ4 (fun i=>([]:List Nat).elem i) [2,3] (by kernel_rfl) ?_<;>refine xD 0 28 rfl (ζh 2 ζ9) ?_<;>(refine yD 1 29 rfl (ζs 2 ζx) fun v29 h=>?_;cases h)<;>refine xD 3 31 rfl (ζh 3 ζ9) ?_<;>(refine yD 4 32 rfl (ζs 3 ζx) fun v32 h=>?_;cases h)<;>refine xD 5 33 rfl (ζh 2 ζP) ?_<;>(refine yD 6 34 rfl (ζs 2 ζj) fun v34 h=>?_;cases h)<;>(refine ζo 2 (by kernel_rfl) ?_)<;>(refine ζk rfl fun w9 M9 N9 DQ back=>?_)<;>refine cO 30 (cA Tryz.call135 (ZbY a.fin (by omega))) fun v30 ho30=>?_<;>refine ζb (back _ (nrm ?_))<;>(refine ζo 7 (by kernel_rfl) ?_)<;>(refine ζk rfl fun w9 M9 N9 DQ back=>?_)<;>(refine cO 35 (cA Tryz.call136 (Zdk b.fin a.n (by omega) (by omega) (fun x hx=>by have:=hb.fi x hx;omega))) fun v35 ho35=>?_;refine ζq (En.freeze (l:=35) (t:=35) rfl rfl) fun _=>?_;rw [ζL _ _ _ rfl])<;>refine ζb (back _ (nrm ?_))<;>(refine ζo 8 (by kernel_rfl) ?_)<;>(refine ζk rfl fun w9 M9 N9 DQ back=>?_)<;>(refine Ziu 30 36 ζi (fun h36 ho36=>?_) (Zft (ZcT a.n b.fin)) (ZgE (ZcT a.n b.fin));have q36:En.one (PV.val h36)=true:=ho36)<;>refine ζb (back _ (nrm ?_))<;>refine xE 9 37 rfl (ζh 7 ζ9) ?_<;>(refine ζo 10 (by kernel_rfl) ?_)<;>(refine ζk rfl fun w9 M9 N9 DQ back=>?_)<;>refine Zc1 7 ζx Zbo ?_<;>refine ζb (back _ (nrm ?_))<;>refine ZaM (by kernel_rfl) (nav ?_)<;>try dsimp only)
   refine ζv (ζN (l:=36) rfl (ZgF _ a.fin (ZcT a.n b.fin))) fun _=>?_
   refine ζv (Zaj (l:=7) (l':=36) (j:=3) rfl rfl rfl rfl) fun _=>?_
   rw [ζL _ _ _ rfl]
   (refine ζa ?_<;>(refine yL 38 (ζp (k:=5) (ps:=[pInt (a.n+b.n),pInt a.syms,pInts (a.start++ZcT a.n b.start),pInts (a.fin++ZcT a.n b.fin),PV.val hM]) 7 (by kernel_rfl)) fun v38 h=>?_;cases h)<;>(refine Za4 [(1000,hM,PV.own 93 3 (ZcL a b).moves.length ((ZcL a b).moves.flatMap cMv)),(2,_,_),(3,_,_),(4,_,_),(7,_,_)] ⟨rfl,rfl,rfl,rfl,rfl,trivial⟩ ?_;refine ZeG [2,3,4,7] 39 (Tryz.call137) (Zm6 (ZcL a b) (by show (bsM a b).length≤1000000;omega) (ZiM ha hb) _ hM hMo r5 hr) ?_;rintro _ _ _ ⟨⟨V1,rfl⟩,rfl,rfl⟩)<;>refine xL 40 ζf ?_<;>refine xL 41 ζf ?_<;>refine ζC 4 ζg ?_<;>refine xL 5 ζc ?_<;>refine ζb (nav ?_)<;>try dsimp only)
   exact ζ6 (k:=5) 4 (by kernel_rfl) (Tryz.results88) rfl rfl rfl (Nat.le_of_ble_eq_true rfl) (by decide) r5.s rfl
theorem ZvE (a b:Aut):AF Tryz.prog 88 [ζW a,ζW b] (· =resW (Zfn a b)):=by
 unfold Zfn
 by_cases h0:Zdl a b=0
 · rw [if_neg (fun h=>h h0)]
   obtain ⟨ha,hb,hs⟩:=Zf5 h0
   obtain ⟨p0,p1,p2,p3,p4,E,h5,h2,hr⟩:=Zev (ZcL a b) (by have:=Znk ha.toAOk hb.toAOk;show (bsM a b).length≤1000000;omega) (ZhA ha hb hs)
   rw [h2];exact ZvD a b h0 h5 hr
 · rw [if_pos h0]
   exact Zqy a b _ h0 (ZhU a b)
def ctM (a b:Aut) (i:Nat):List Mv:=bsM a b++Zlm a.n (a.fin.take i) b.start
theorem Zpk (a b:Aut):ctM a b 0=bsM a b:=by show bsM a b++[]=bsM a b;rw [List.append_nil]
theorem ZvF {a b:Aut} {i:Nat} {f:Int} (h:a.fin[i]? =some f):ctM a b (i+1)=ctM a b i++Zik a.n f b.start:=by unfold ctM;rw [Zst a.n b.start h,List.append_assoc]
theorem Zyk (a b:Aut) {i:Nat} (h:a.fin.length≤i):ctM a b i=(Zer a b).moves:=by unfold ctM;rw [List.take_of_length_le h];rfl
theorem Zyl {a b:Aut} {i j:Nat} (f:Int) (hi:i<a.fin.length) (hj:j≤b.start.length):(ctM a b i++Zik a.n f (b.start.take j)).length≤(Zer a b).moves.length:=by
 rw [Zm8]
 unfold ctM bsM
 rw [List.length_append,List.length_append,List.length_append,ZgA,ZjS,List.length_take]
 unfold Zik
 rw [List.length_map,List.length_take]
 have h1:(i+1)*b.start.length≤a.fin.length*b.start.length:=Nat.mul_le_mul_right _ hi
 rw [Nat.succ_mul] at h1
 rw [Nat.min_eq_left (Nat.le_of_lt hi),Nat.min_eq_left hj]
 omega
theorem Znp (a b:Aut) (e:Int) (he:¬e=0) (hf:AF Tryz.prog 120 [ζW a,ζW b] (· =pInt e)):AF Tryz.prog 87 [ζW a,ζW b] (· = .tup [Zia,pInt e]):=by
 refine AF.of_body 68 Tryz.func87 rfl Tryz.ntmps87 (Nat.le_of_ble_eq_true rfl) ?_
 intro w0 M0 vs hl hv
 obtain ⟨v0,v1,rfl⟩:=Zb3 hl
 clear hl hv
 refine nav ?_
 (refine ζa ?_<;>refine ζE 2 5 fun h2=>?_<;>refine ζE 3 5 fun h3=>?_<;>refine ζr [(.int .i64 0),(.int .i64 0),(.slice none 0 0),(.slice none 0 0),(.slice none 0 0)] 5 4 ζz fun h4=>?_<;>refine xL 5 ζc ?_<;>refine ζb (nav ?_)<;>try dsimp only)
 (refine ζa ?_<;>(refine yL 12 (ζp 2 ζg) fun v12 h=>?_;cases h)<;>(refine yL 13 (ζp 3 ζg) fun v13 h=>?_;cases h)<;>(refine cS 14 (cA Tryz.call120 (hf)) fun v14 h=>?_;cases h)<;>refine xL 6 ζc ?_<;>refine ζb (nav ?_)<;>try dsimp only)
 (refine ζa ?_<;>refine xL 15 ζd ?_<;>refine xL 16 ZaD ?_<;>refine ζb (nav ?_)<;>try dsimp only)
 (first|refine cCd ?_ ?_|refine cC ?_ ?_)<;>intro hb16
 · refine nav ?_
   (refine ζa ?_<;>refine xL 17 (ζB ζK) ?_<;>refine xL 18 ζd ?_<;>refine ζC 4 ζg ?_<;>refine xL 5 ζc ?_<;>refine ζb (nav ?_)<;>try dsimp only)
   exact ζ6 (k:=5) 4 (by kernel_rfl) (Tryz.results87) rfl rfl rfl (Nat.le_of_ble_eq_true rfl) (by decide) rfl rfl
 · exact absurd (by simpa using hb16) he
set_option maxHeartbeats 2000000 in
theorem ZlZ (a b:Aut) (hf0:Zdl a b=0) {p0 p1 p2 p3 p4:PV} {E:Int} (r5:R5 p0 p1 p2 p3 p4) (hr:(Zer a b).moves.length≤40001→AF Tryz.prog 132 [ζW (mkA (Zer a b))] (· = .tup [.agg [p0,p1,p2,p3,p4],pInt E])):AF Tryz.prog 87 [ζW a,ζW b] (fun p=>((Zer a b).moves.length≤40001∧p= .tup [.agg [p0,p1,p2,p3,p4],pInt E])∨(20000<(Zer a b).moves.length∧p= .tup [Zia,pInt 13])):=by
 obtain ⟨o0,o1,o2,o3,o4⟩:=r5.o
 obtain ⟨ha,hb,hs⟩:=Zf5 hf0
 have hf:=ZhU a b
 rw [hf0] at hf
 have hn0:=ha.n0
 have hn1:=ha.n1
 have k1:=ha.sl
 have k2:=hb.sl
 have k3:=ha.fl
 have k4:=hb.fl
 have m1:=hb.n1
 have kml:=Znk ha.toAOk hb.toAOk
 have l2:=Zdz a.n b.fin
 refine AF.of_body 68 Tryz.func87 rfl Tryz.ntmps87 (Nat.le_of_ble_eq_true rfl) ?_
 intro w0 M0 vs hl hv
 obtain ⟨v0,v1,rfl⟩:=Zb3 hl
 clear hl hv
 refine nav ?_
 (refine ζa ?_<;>refine ζE 2 5 fun h2=>?_<;>refine ζE 3 5 fun h3=>?_<;>refine ζr [(.int .i64 0),(.int .i64 0),(.slice none 0 0),(.slice none 0 0),(.slice none 0 0)] 5 4 ζz fun h4=>?_<;>refine xL 5 ζc ?_<;>refine ζb (nav ?_)<;>try dsimp only)
 (refine ζa ?_<;>(refine yL 12 (ζp 2 ζg) fun v12 h=>?_;cases h)<;>(refine yL 13 (ζp 3 ζg) fun v13 h=>?_;cases h)<;>(refine cS 14 (cA Tryz.call120 (hf)) fun v14 h=>?_;cases h)<;>refine xL 6 ζc ?_<;>refine ζb (nav ?_)<;>try dsimp only)
 (refine ζa ?_<;>refine xL 15 ζd ?_<;>refine xL 16 ZaD ?_<;>refine ζb (nav ?_)<;>try dsimp only)
 (first|refine cCd ?_ ?_|refine cC ?_ ?_)<;>intro hb16
 · first|omega|exact absurd rfl hb16|exact Bool.noConfusion hb16
 · refine nav ?_
   (refine ζa ?_<;>(refine yL 19 (ζp 2 ζg) fun v19 h=>?_;cases h)<;>(refine yL 20 (ζp 3 ζg) fun v20 h=>?_;cases h)<;>(refine ZeG [2,3,4] 21 (Tryz.call134) (ZlT a b ha.toAOk hb.toAOk _ _) ?_;rintro V21 _ _ ⟨hM0,hM0o,rfl,rfl⟩;have qM:En.one (PV.val hM0)=true:=hM0o)<;>refine ζr [(.int .i64 0),(.int .i64 0),(.slice none 0 0),(.slice none 0 0),(.slice none 0 0)] 5 7 ζz fun h7=>?_<;>refine ζC 7 ζg ?_<;>refine ζb (nav ?_)<;>try dsimp only)
   (refine ζ4 (fun i=>([9,10,11]:List Nat).elem i) [2,3,7] (by kernel_rfl) ?_<;>refine xDT 0 22 rfl (ζh 2 Zab) ?_<;>(refine yDT 1 23 rfl (ζs 2 ζx) fun v23 h=>?_;cases h)<;>refine xDT 3 25 rfl (ζh 3 ζ9) ?_<;>(refine yDT 4 26 rfl (ζs 3 ζx) fun v26 h=>?_;cases h)<;>refine xDT 5 27 rfl (ζh 2 ζP) ?_<;>(refine yDT 6 28 rfl (ζs 2 ζj) fun v28 h=>?_;cases h)<;>(refine ζo 2 (by kernel_rfl) ?_)<;>(refine ζk rfl fun w9 M9 N9 DQ back=>?_)<;>(refine cO 24 (cA Tryz.call135 (ZbY a.start (by omega))) fun v24 ho24=>?_;refine ζq (En.freeze (l:=24) (t:=24) rfl rfl) fun _=>?_;rw [ζL _ _ _ rfl])<;>refine ζb (back _ (nrm ?_))<;>refine xDT 8 30 rfl (ζh 7 Zab) ?_<;>(refine ζo 7 (by kernel_rfl) ?_)<;>(refine ζk rfl fun w9 M9 N9 DQ back=>?_)<;>(refine cO 29 (cA Tryz.call136 (Zdk b.fin a.n (by omega) (by omega) (fun x hx=>by have:=hb.fi x hx;omega))) fun v29 ho29=>?_;refine ζq (En.freeze (l:=29) (t:=29) rfl rfl) fun _=>?_;rw [ζL _ _ _ rfl])<;>refine ζb (back _ (nrm ?_))<;>(refine ζo 9 (by kernel_rfl) ?_)<;>(refine Zgq rfl rfl fun DQ back=>?_)<;>refine Zc1 7 ζx Zbo ?_<;>refine ζb (back _ ?_)<;>(refine Zdp 10 (by kernel_rfl) rfl rfl fun DQ back=>?_)<;>refine xL 31 (ζh 7 ζ9) ?_<;>refine ζb (back _ ?_)<;>(refine Zdp 11 (by kernel_rfl) rfl rfl fun DQ back=>?_)<;>refine Zc1 7 ζx Zbo ?_<;>refine ζb (back _ ?_)<;>refine Zjn (by kernel_rfl) (nav ?_)<;>try dsimp only)
   refine ζv (ζN (l:=1000) (p':= .own 93 3 (ctM a b 0).length ((ctM a b 0).flatMap cMv)) rfl (by rw [Zpk])) fun _=>?_
   (refine ζa ?_<;>refine xL 32 (ζh 2 ζ9) ?_<;>(refine yL 33 (ζs 2 ζx) fun v33 h=>?_;cases h)<;>refine xL 34 (ζV ζn) ?_<;>refine xL 35 ζd ?_<;>refine ζb (nav ?_)<;>try dsimp only)
   refine ζy (ι:={q:Nat×Value//q.1≤a.fin.length∧q.2.oneCell'=true∧(ctM a b q.1).length≤40001}) (fun k=>⟨[(2,_,_),(3,_,_),(4,_,_),(7,_,_),(33,_,_),(34,_,_),(35, .int .i64 k.1.1,pInt k.1.1)],[(2,_,_),(3,_,_),(4,_,_),(7,h7, .own 39 5 1 [pInt (a.n+b.n),pInt a.syms,pInts a.start,pInts (ZcT a.n b.fin), .val k.1.2]),(1000,k.1.2, .own 93 3 (ctM a b k.1.1).length ((ctM a b k.1.1).flatMap cMv))]⟩) (fun k=>a.fin.length-k.1.1) ⟨(0,hM0),Nat.zero_le _,hM0o,by show (ctM a b 0).length≤40001;rw [Zpk];omega⟩ (fun a w H=>H.weaken ⟨rfl,rfl,rfl,rfl,rfl,rfl,rfl,trivial⟩ ⟨rfl,rfl,rfl,rfl,rfl,trivial⟩) ?_
   rintro ⟨⟨i,hI⟩,hi,hIo,hIl⟩
   dsimp only
   dsimp only at hi hIo hIl
   have q5:En.one (PV.val hI)=true:=hIo
   refine nav ?_
   (refine ζa ?_<;>refine xL 36 ζS ?_<;>refine ζb (nav ?_)<;>try dsimp only)
   (first|refine cCd ?_ ?_|refine cC ?_ ?_)<;>intro hb36
   · first
     |exact Bool.noConfusion hb36
     | (
      obtain ⟨f,hf⟩:=ζm (show i<a.fin.length by omega)
      have e1:=Zaf (f:=pInt) hf
      have hfin:=ha.fi f (List.mem_of_getElem? hf)
      refine nav ?_
      (refine ζa ?_<;>refine xL 37 (ζJ ζn) ?_<;>(refine yL 38 (Za3 ζj) fun v38 h=>?_;cases h)<;>refine xL 9 ζc ?_<;>refine ζb (nav ?_)<;>try dsimp only)
      (refine ζa ?_<;>refine xL 39 (ζh 3 Zab) ?_<;>(refine yL 40 (ζs 3 ζx) fun v40 h=>?_;cases h)<;>refine xL 41 (ζV ζn) ?_<;>refine xL 42 ζd ?_<;>refine ζb (nav ?_)<;>try dsimp only)
      refine ζv (ζN (l:=1000) (p':= .own 93 3 (ctM a b i++Zik a.n f (b.start.take 0)).length ((ctM a b i++Zik a.n f (b.start.take 0)).flatMap cMv)) rfl (by rw [show Zik a.n f (b.start.take 0)=[] from rfl,List.append_nil])) fun _=>?_
      refine ζy (ι:={q:Nat×Value//q.1≤b.start.length∧q.2.oneCell'=true∧(ctM a b i++Zik a.n f (b.start.take q.1)).length≤40001}) (fun k=>⟨[(2,_,_),(3,_,_),(4,_,_),(7,_,_),(9,_,_),(33,_,_),(34,_,_),(35,_,_),(40,_,_),(41,_,_),(42, .int .i64 k.1.1,pInt k.1.1)],[(2,_,_),(3,_,_),(4,_,_),(7,h7, .own 39 5 1 [pInt (a.n+b.n),pInt a.syms,pInts a.start,pInts (ZcT a.n b.fin), .val k.1.2]),(1000,k.1.2, .own 93 3 (ctM a b i++Zik a.n f (b.start.take k.1.1)).length ((ctM a b i++Zik a.n f (b.start.take k.1.1)).flatMap cMv))]⟩) (fun k=>b.start.length-k.1.1) ⟨(0,hI),Nat.zero_le _,hIo,by show (ctM a b i++[]).length≤40001;rw [List.append_nil];exact hIl⟩ (fun a w H=>H.weaken ⟨rfl,rfl,rfl,rfl,rfl,rfl,rfl,rfl,rfl,rfl,rfl,trivial⟩ ⟨rfl,rfl,rfl,rfl,rfl,trivial⟩) ?_
      rintro ⟨⟨j,hJ⟩,hj,hJo,hJl⟩
      dsimp only
      dsimp only at hj hJo hJl
      have q6:En.one (PV.val hJ)=true:=hJo
      refine nav ?_
      (refine ζa ?_<;>refine xL 43 ζS ?_<;>refine ζb (nav ?_)<;>try dsimp only)
      (first|refine cCd ?_ ?_|refine cC ?_ ?_)<;>intro hb43
      · first
        |exact Bool.noConfusion hb43
        | (
         obtain ⟨s,hs⟩:=ζm (show j<b.start.length by omega)
         have e2:=Zaf (f:=pInt) hs
         have hsin:=hb.st s (List.mem_of_getElem? hs)
         have hpart:=Zyl f (by omega:i<a.fin.length) hj
         refine nav ?_
         (refine ζa ?_<;>refine xL 44 (ζJ ζn) ?_<;>(refine yL 45 (Za3 ζj) fun v45 h=>?_;cases h)<;>refine xL 11 ζc ?_<;>refine ζb (nav ?_)<;>try dsimp only)
         (refine ζa ?_<;>refine xL 46 (ζh 7 ζw) ?_<;>(refine yL 47 (ζs 7 ζA) fun v47 h=>?_;cases h)<;>refine xL 48 (ZaC 1000 ζG) ?_<;>refine xL 49 ZaH ?_<;>refine ζb (nav ?_)<;>try dsimp only)
         (first|refine cCd ?_ ?_|refine cC ?_ ?_)<;>intro hb49
         · first
           |exact Bool.noConfusion hb49
           | (
            refine nav ?_
            (refine ζa ?_<;>refine xL 50 (ζB ζK) ?_<;>refine ζC 4 ζg ?_<;>refine xL 5 ζc ?_<;>refine ζb (nav ?_)<;>try dsimp only)
            exact ζ6 (k:=5) 4 (by kernel_rfl) (Tryz.results87) rfl rfl rfl (Nat.le_of_ble_eq_true rfl) (by decide) rfl (.inr ⟨by omega,rfl⟩))
         · first
           |exact Bool.noConfusion hb49
           | (
            refine nav ?_
            (refine ζa ?_<;>refine xL 51 (ζh 7 ζw) ?_<;>(refine yL 52 (ζs 7 ζA) fun v52 h=>?_;cases h)<;>refine xL 53 ζd ?_<;>refine xL 54 ζd ?_<;>refine xL 55 (ζh 2 ζP) ?_<;>(refine yL 56 (ζs 2 ζj) fun v56 h=>?_;cases h)<;>refine xL 57 ζM ?_<;>refine xL 58 (ζB Zbp) ?_<;>refine Zar 59 ζ1 fun h59 ho59=>?_<;>(refine ζY 1000 59 60 ζ1 fun h60 ho60=>?_;refine ζq (ζD (l:=60) 1000 rfl rfl) fun _=>?_;refine ζq (ζN (l:=1000) rfl ((ZbP _ (ctM a b i++Zik a.n f (b.start.take j)) ⟨f,s+a.n,-1⟩).trans (by rw [List.append_assoc,←Zln a.n f hs]))) fun _=>?_;have q60:En.one (PV.val h60)=true:=ho60)<;>refine xL 61 (ζh 7 ζw) ?_<;>refine Zc1 7 ζA ZaP ?_<;>refine ζb (nav ?_)<;>try dsimp only)
            (refine ζa ?_<;>refine xL 62 ζM ?_<;>refine xL 42 ζd ?_<;>refine ζb (nav ?_)<;>try dsimp only)
            have hl3:(ctM a b i++Zik a.n f (b.start.take (j+1))).length≤40001:=by rw [Zln a.n f hs,←List.append_assoc,List.length_append,List.length_singleton];omega
            refine ζl (
             ⟨(j+1,h60),ζe hs,ho60,hl3⟩
             ) (by dsimp only;omega) ⟨rfl,rfl,rfl,rfl,rfl,rfl,rfl,rfl,rfl,rfl,rfl,trivial⟩ ⟨rfl,rfl,rfl,rfl,rfl,trivial⟩))
      · first
        |exact Bool.noConfusion hb43
        | (
         have hctS:ctM a b i++Zik a.n f (b.start.take j)=ctM a b (i+1):=by rw [List.take_of_length_le (show b.start.length≤j by omega),ZvF hf]
         rw [hctS] at hJl
         refine ζv (ζN (l:=1000) (p':= .own 93 3 (ctM a b (i+1)).length ((ctM a b (i+1)).flatMap cMv)) rfl (by rw [hctS])) fun _=>?_
         refine nav ?_
         (refine ζa ?_<;>refine xL 63 ζM ?_<;>refine xL 35 ζd ?_<;>refine ζb (nav ?_)<;>try dsimp only)
         refine ζl (
          ⟨(i+1,hJ),ζe hf,hJo,hJl⟩
          ) (by dsimp only;omega) ⟨rfl,rfl,rfl,rfl,rfl,rfl,rfl,trivial⟩ ⟨rfl,rfl,rfl,rfl,rfl,trivial⟩))
   · first
     |exact Bool.noConfusion hb36
     | (
      have hctA:=Zyk a b (show a.fin.length≤i by omega)
      rw [hctA] at hIl
      have hr:=hr hIl
      refine ζv (ζN (l:=1000) (p':= .own 93 3 (Zer a b).moves.length ((Zer a b).moves.flatMap cMv)) rfl (by rw [hctA])) fun _=>?_
      refine nav ?_
      (refine ζa ?_<;>(refine yL 64 (ζp (k:=5) (ps:=[pInt (a.n+b.n),pInt a.syms,pInts a.start,pInts (ZcT a.n b.fin),PV.val hI]) 7 (by kernel_rfl)) fun v64 h=>?_;cases h)<;>(refine Za4 [(1000,hI,PV.own 93 3 (Zer a b).moves.length ((Zer a b).moves.flatMap cMv)),(2,_,_),(3,_,_),(4,_,_),(7,_,_)] ⟨rfl,rfl,rfl,rfl,rfl,trivial⟩ ?_;refine ZeG [2,3,4,7] 65 (Tryz.call137) (Zm6 (Zer a b) (by omega) (Zlp ha hb) _ hI hIo r5 hr) ?_;rintro _ _ _ ⟨⟨V1,rfl⟩,rfl,rfl⟩)<;>refine xL 66 ζf ?_<;>refine xL 67 ζf ?_<;>refine ζC 4 ζg ?_<;>refine xL 5 ζc ?_<;>refine ζb (nav ?_)<;>try dsimp only)
      exact ζ6 (k:=5) 4 (by kernel_rfl) (Tryz.results87) rfl rfl rfl (Nat.le_of_ble_eq_true rfl) (by decide) r5.s (.inl ⟨hIl,rfl⟩))
theorem ZhV (a b:Aut):AF Tryz.prog 87 [ζW a,ζW b] (· =resW (Zlq a b)):=by
 unfold Zlq
 by_cases h0:Zdl a b=0
 · rw [if_neg (fun h=>h h0)]
   obtain ⟨ha,hb,hs⟩:=Zf5 h0
   have h13:20000<(Zer a b).moves.length→ZdG (Zer a b)= .error 13:=fun h=>by
    rw [Zu6 ha hb hs,ZsL ha hb (.inr (by rw [←Zm8];exact h))]
   rcases Nat.lt_or_ge 40001 (Zer a b).moves.length with hl|hl
   · refine (ZlZ a b h0 R5.raw (E:=13) fun h=>by omega).mono fun p hp=>?_
     rw [h13 (by omega)]
     rcases hp with ⟨h,_⟩|⟨_,h⟩
     · omega
     · exact h
   · obtain ⟨p0,p1,p2,p3,p4,E,h5,h2,hr⟩:=Zev (Zer a b) (by omega) (ZjT ha hb hs)
     refine (ZlZ a b h0 h5 fun _=>hr).mono fun p hp=>?_
     rcases hp with ⟨_,h⟩|⟨hl2,h⟩
     · rw [h2];exact h
     · rw [h13 hl2];exact h
 · rw [if_pos h0]
   exact Znp a b _ h0 (ZhU a b)
theorem ZvG (L:List Mv) (k:Nat) (x:Mv) (h:k<L.length):Zkr (L.flatMap cMv) (k*3) (cMv x)=(L.set k x).flatMap cMv:=by
 have e:L=L.take k++[L[k]]++L.drop (k+1):=by
  rw [List.append_assoc,List.singleton_append,List.getElem_cons_drop,List.take_append_drop]
 have e2:L.set k x=L.take k++[x]++L.drop (k+1):=by
  rw [List.set_eq_take_append_cons_drop,if_pos h,List.append_assoc];rfl
 rw [e2]
 conv=>lhs;rw [e]
 simp only [List.flatMap_append,List.flatMap_singleton]
 exact ZmD (α:=Int) (cMv x) _ _ _ _ (by rw [flat_len ζ0,List.length_take,Nat.min_eq_left (Nat.le_of_lt h)]) rfl
theorem Zz4 {x y:Mv} (h:¬ZeH x y<0):y=x∨ZfL y x=true:=by
 rw [ZdA] at h
 cases h2:ZfL y x with
 |true=>exact .inr rfl
 |false=>exact .inl (ZjJ h2 (by simpa using h))
theorem Zz5 {l:List Mv} (h:1≤l.length):mkM (l.take 1)=l.take 1:=by
 cases l with
 |nil=>simp at h
 |cons x l=>rfl
theorem Ztm {l:List Mv} {p:Nat} {x y:Mv} (hy:l[p]? =some y) (hx:l[p+1]? =some x) (he:eqM x y=true):mkM (l.take (p+1+1))=mkM (l.take (p+1)):=by
 have e:=Zd6.1 he
 subst e
 refine ZjK (Zdy _) (Zdy _) fun z=>?_
 rw [Zce,Zce,ζH hx,List.mem_append,List.mem_singleton]
 exact ⟨fun h=>h.elim id fun h=>by subst h;rw [ζH hy];exact List.mem_append_right _ (List.mem_singleton.2 rfl), .inl⟩
theorem ZwJ {l:List Mv} (hs:Sorted l) {p:Nat} {x y:Mv} (hy:l[p]? =some y) (hx:l[p+1]? =some x) (he:eqM x y=false):mkM (l.take (p+1+1))=mkM (l.take (p+1))++[x]:=by
 have hyx:ZfL y x=true:=by
  rcases Zz4 (hs p (p+1) y x (by omega) hy hx) with h|h
  · subst h;rw [Zd6.2 rfl] at he;cases he
  · exact h
 refine (Zsh ?_ fun z=>?_).symm
 · refine List.pairwise_append.2 ⟨Zdy _,List.pairwise_singleton ..,fun z hz w hw=>?_⟩
   rw [List.mem_singleton.1 hw]
   rw [Zce] at hz
   obtain ⟨i,hi⟩:=List.getElem?_of_mem hz
   have hi':=ζe hi
   rw [List.length_take] at hi'
   rw [List.getElem?_take_of_lt (by omega)] at hi
   by_cases e:i=p
   · subst e;rw [hi] at hy;cases hy;exact hyx
   · rcases Zz4 (hs i p z y (by omega) hi hy) with h|h
     · subst h;exact hyx
     · exact Zhs h hyx
 · rw [List.mem_append,Zce,List.mem_singleton,ζH hx,List.mem_append,List.mem_singleton]
theorem Zym {hv:Value} (h:hv.oneCell'=true) (i j k:Nat):(slc hv i j k).oneCell'=true:=by
 unfold slc;split
 · rfl
 · exact h
set_option maxHeartbeats 2000000 in
theorem Znq (l : List Mv) (hl:l.length≤1000000) (hs:Sorted l) (hv:Value) (hvo:hv.oneCell'=true):AFh False Tryz.prog 189 [(0,hv, .val hv)] [(1000,hv, .own 93 3 l.length (l.flatMap cMv))] (fun v q h=>v.oneCell'=true∧q= .val v∧h=[(1000,v, .own 93 3 (mkM l).length ((mkM l).flatMap cMv))]):=by
 refine AFh.of_body 61 Tryz.func189 rfl Tryz.ntmps189 (Nat.le_of_ble_eq_true rfl) rfl ?_
 intro w0 M0 N0
 refine nav ?_
 (refine ζa ?_<;>refine xL 2 ζc ?_<;>refine ζb (nav ?_)<;>try dsimp only)
 (refine ζa ?_<;>refine xL 6 ζd ?_<;>refine xL 7 (ZaC 1000 ζG) ?_<;>refine xL 8 ζS ?_<;>refine ζb (nav ?_)<;>try dsimp only)
 (first|refine cCd ?_ ?_|refine cC ?_ ?_)<;>intro hb8
 · first
   |exact Bool.noConfusion hb8
   | (
    refine nav ?_
    (refine ζa ?_<;>refine xL 9 ζd ?_<;>refine xL 2 ζc ?_<;>refine ζb (nav ?_)<;>try dsimp only)
    refine Zmy [(1000,hv,PV.own 93 3 l.length (l.flatMap cMv))] (Tryz.results189) rfl ⟨rfl,trivial⟩ ⟨hvo,rfl,?_⟩
    have hm:mkM l=l:=by
     match l,hl,hb8 with
     |[],_,_=>rfl
     |[_],_,_=>rfl
     |_::_::_,_,h=>simp at h;omega
    rw [hm])
 · first
   |exact Bool.noConfusion hb8
   | (
    refine nav ?_
    (refine ζa ?_<;>refine xL 3 ζc ?_<;>refine ζb (nav ?_)<;>try dsimp only)
    refine ζy (ι:={k:Nat//1≤k∧k≤l.length∧mkM (l.take k)=l.take k}) (fun k=>⟨[(0,_,_),(3, .int .i64 k.1,pInt k.1)],[(1000,_,_)]⟩) (fun k=>l.length-k.1) ⟨1,Nat.le_refl _,by omega,Zz5 (by omega)⟩ (fun a w H=>H.weaken ⟨rfl,rfl,trivial⟩ ⟨rfl,trivial⟩) ?_
    rintro ⟨k1,hk1,hk,hmk⟩
    dsimp only
    obtain ⟨k,rfl⟩:∃k,k1=k+1:=⟨k1-1,by omega⟩
    refine nav ?_
    (refine ζa ?_<;>refine xL 10 ζd ?_<;>refine xL 11 ζd ?_<;>refine xL 12 (ZaC 1000 ζG) ?_<;>refine xL 13 ζS ?_<;>refine ζb (nav ?_)<;>try dsimp only)
    (first|refine cCd ?_ ?_|refine cC ?_ ?_)<;>intro hb13
    · first
      |exact Bool.noConfusion hb13
      | (
       obtain ⟨x,hx⟩:=ζm (show k+1<l.length by omega)
       obtain ⟨y,hy⟩:=ζm (show k<l.length by omega)
       have e1:=ζ8 ζ0 l (k+1) x hx
       have e2:=Zaq ζ0 hx
       have e3:((l.flatMap cMv).drop ((((k+1:Nat):Int)-1).toNat*3)).take 3=cMv y:=by rw [show (((k+1:Nat):Int)-1).toNat*3=k*3 by omega];exact ζ8 ζ0 l k y hy
       have e4:=Zaq ζ0 hy
       have hlt:k+1<l.length:=ζe hx
       refine nav ?_
       (refine ζ4 (fun i=>([]:List Nat).elem i) [1000] (by kernel_rfl) ?_<;>refine xD 0 16 rfl ζd ?_<;>refine xD 1 17 rfl ζd ?_<;>refine xD 2 18 rfl (Zaw 1000 ζG) ?_<;>(refine yD 3 19 rfl (ζp 1000 ζR) fun v19 h=>?_;cases h)<;>refine xD 4 20 rfl ζd ?_<;>refine xE 5 21 rfl ζd ?_<;>refine xE 6 22 rfl ZgQ ?_<;>refine xE 7 23 rfl (ZcE 1000 ζG) ?_<;>(refine yE 8 24 rfl (ζp 1000 ζR) fun v24 h=>?_;cases h)<;>refine xE 9 25 rfl ((Zzt (us:=vMv x) (us':=vMv y) ZA5 ZA6 ZA7 (ZhG x y) rfl rfl)) ?_<;>refine ZaM (by kernel_rfl) (nav ?_)<;>try dsimp only)
       (first|refine cCd ?_ ?_|refine cC ?_ ?_)<;>intro hb25
       · first
         |exact Bool.noConfusion hb25
         | (
          have hsm:=Ztm hy hx (by simpa using hb25)
          have hl1:(mkM (l.take (k+1+1))).length=k+1:=by rw [hsm,hmk,List.length_take];omega
          refine nav ?_
          (refine ζa ?_<;>refine xL 26 ζd ?_<;>refine xL 27 ζd ?_<;>refine xL 28 (ZdI (i:=k+1) (j:=l.length) 1000 ζG rfl rfl rfl rfl rfl (Nat.le_of_lt hlt) (Nat.le_refl _)) ?_<;>refine xL 4 ζc ?_<;>refine ζb (nav ?_)<;>try dsimp only)
          (refine ζa ?_<;>refine xL 5 ζc ?_<;>refine ζb (nav ?_)<;>try dsimp only)
          refine ζy (ι:={q:Nat×Nat×List Mv//1≤q.1∧k+1+q.1≤l.length∧q.2.1=(mkM (l.take (k+1+q.1))).length∧q.2.2.length=l.length∧q.2.2.take q.2.1=mkM (l.take (k+1+q.1))∧q.2.1≤k+q.1∧∀i,k+q.1≤i→q.2.2[i]? =l[i]? }) (fun k=>⟨[(0,_,_),(4,_,_),(3, .int .i64 k.1.2.1,pInt k.1.2.1),(5, .int .i64 k.1.1,pInt k.1.1)],[(1000,hv, .own 93 3 l.length (k.1.2.2.flatMap cMv))]⟩) (fun k=>l.length-k.1.1) ⟨(1,k+1,l),Nat.le_refl _,by dsimp only;omega,hl1.symm,rfl,by dsimp only;rw [hsm,hmk],Nat.le_refl _,fun i _=>rfl⟩ (fun a w H=>H.weaken ⟨rfl,rfl,rfl,rfl,trivial⟩ ⟨rfl,trivial⟩) ?_
          rintro ⟨⟨j,K,L⟩,hj1,hj,hK,hLl,hLt,hKj,hLr⟩
          dsimp only
          dsimp only at hj1 hj hK hLl hLt hKj hLr
          obtain ⟨j',rfl⟩:∃j',j=j'+1:=⟨j-1,by omega⟩
          have hK2:(K:Int)≤1000000:=by omega
          rw [show k+1+(j'+1)=k+1+j'+1 from rfl] at hK hLt
          refine nav ?_
          (refine ζa ?_<;>refine xL 29 ζd ?_<;>refine xL 30 ζd ?_<;>refine xL 31 ((ZrC (a:=k+1) (m:=l.length-(k+1)) 1000 ζG rfl rfl rfl rfl)) ?_<;>refine xL 32 ζS ?_<;>refine ζb (nav ?_)<;>try dsimp only)
          (first|refine cCd ?_ ?_|refine cC ?_ ?_)<;>intro hb32
          · first
            |exact Bool.noConfusion hb32
            | (
             obtain ⟨u,hu⟩:=ζm (show k+1+(j'+1)<l.length by omega)
             obtain ⟨v,hv2⟩:=ζm (show k+1+j'<l.length by omega)
             have hu':L[k+1+(j'+1)]? =some u:=by rw [hLr _ (by omega)];exact hu
             have hv':L[k+1+j']? =some v:=by rw [hLr _ (by omega)];exact hv2
             have g1:=ζ8 ζ0 L _ u hu'
             have g2:=Zaq ζ0 hu'
             have g3:=ζ8 ζ0 L _ v hv'
             have g4:=Zaq ζ0 hv'
             have g5:K<L.length:=by omega
             have g6:K*3+3≤(L.flatMap cMv).length:=by rw [flat_len ζ0];omega
             refine nav ?_
             (refine ζ4 (fun i=>([]:List Nat).elem i) [1000] (by kernel_rfl) ?_<;>refine xD 0 35 rfl ζd ?_<;>refine xD 1 36 rfl ζd ?_<;>refine xD 2 37 rfl ((Zg6 (a:=k+1) (m:=(k+1+(j'+1))*3) 1000 ζG rfl rfl rfl rfl (by omega) (by omega) (by omega))) ?_<;>(refine yD 3 38 rfl (ζp 1000 ζR) fun v38 h=>?_;cases h)<;>refine xD 4 39 rfl ζd ?_<;>refine xE 5 40 rfl ζd ?_<;>refine xE 6 41 rfl ZgQ ?_<;>refine xE 7 42 rfl ((Zg6 (a:=k+1) (m:=(k+1+j')*3) 1000 ζG rfl rfl rfl rfl (by omega) (by omega) (by omega))) ?_<;>(refine yE 8 43 rfl (ζp 1000 ζR) fun v43 h=>?_;cases h)<;>refine xE 9 44 rfl ((ZAS (us:=vMv u) (us':=vMv v) ZA5 ZA6 ZA7 (ZhG u v) rfl rfl)) ?_<;>refine ZaM (by kernel_rfl) (nav ?_)<;>try dsimp only)
             (first|refine cCd ?_ ?_|refine cC ?_ ?_)<;>intro hb44
             · first
               |exact Bool.noConfusion hb44
               | (
                have hnw2:=ZwJ hs hv2 hu (by simpa using hb44)
                have hset:=ZvG L K u g5
                have hlen2:K+1=(mkM (l.take (k+1+j'+1+1))).length:=by rw [hnw2,List.length_append,List.length_singleton,hK]
                have htk2:(L.set K u).take (K+1)=mkM (l.take (k+1+j'+1+1)):=by
                 rw [hnw2,←hLt,List.take_set,ζH (List.getElem?_eq_getElem g5),List.set_append_right _ _ (by rw [List.length_take];omega),List.length_take,Nat.min_eq_left (by omega),Nat.sub_self];rfl
                refine nav ?_
                (refine ζa ?_<;>refine xL 45 ζd ?_<;>refine xL 46 ζd ?_<;>refine xL 47 ζd ?_<;>refine xL 48 ζd ?_<;>refine xL 49 ((Zg6 (a:=k+1) (m:=(k+1+(j'+1))*3) 1000 ζG rfl rfl rfl rfl (by omega) (by omega) (by omega))) ?_<;>(refine yL 50 (ζp 1000 ζR) fun v50 h=>?_;cases h)<;>refine xL 51 (Zaw 1000 ζG) ?_<;>refine ζC 1000 ζR ?_<;>refine ζb (nav ?_)<;>try dsimp only)
                (refine ζa ?_<;>refine xL 52 ζd ?_<;>refine xL 53 ζM ?_<;>refine xL 3 ζc ?_<;>refine ζb (nav ?_)<;>try dsimp only)
                (refine ζa ?_<;>refine xL 33 ζd ?_<;>refine xL 34 ζM ?_<;>refine xL 5 ζc ?_<;>refine ζb (nav ?_)<;>try dsimp only)
                try rw [hset]
                first
                 | (exact ζl (
                     ⟨(j'+1+1,K+1,L.set K u),by dsimp only;omega,by dsimp only;omega,hlen2,by dsimp only;rw [List.length_set];exact hLl,htk2,by dsimp only;omega,fun i hi=>by dsimp only at hi ⊢;rw [List.getElem?_set_ne (by omega)];exact hLr i (by omega)⟩
                     ) (by dsimp only;omega) ⟨rfl,rfl,rfl,rfl,trivial⟩ ⟨rfl,trivial⟩)
                 | (exact ζl (
                     ⟨(j'+1+1,K,L),by dsimp only;omega,by dsimp only;omega,hK.trans (by rw [show k+1+(j'+1+1)=k+1+j'+1+1 by omega,hsm2]),hLl,hLt.trans (by rw [show k+1+(j'+1+1)=k+1+j'+1+1 by omega,hsm2]),by dsimp only;omega,fun i hi=>hLr i (by dsimp only at hi;omega)⟩
                     ) (by dsimp only;omega) ⟨rfl,rfl,rfl,rfl,trivial⟩ ⟨rfl,trivial⟩))
             · first
               |exact Bool.noConfusion hb44
               | (
                have hsm2:=Ztm hv2 hu (by simpa using hb44)
                refine nav ?_
                (refine ζa ?_<;>refine xL 33 ζd ?_<;>refine xL 34 ζM ?_<;>refine xL 5 ζc ?_<;>refine ζb (nav ?_)<;>try dsimp only)
                try rw [hset]
                first
                 | (exact ζl (
                     ⟨(j'+1+1,K+1,L.set K u),by dsimp only;omega,by dsimp only;omega,hlen2,by dsimp only;rw [List.length_set];exact hLl,htk2,by dsimp only;omega,fun i hi=>by dsimp only at hi ⊢;rw [List.getElem?_set_ne (by omega)];exact hLr i (by omega)⟩
                     ) (by dsimp only;omega) ⟨rfl,rfl,rfl,rfl,trivial⟩ ⟨rfl,trivial⟩)
                 | (exact ζl (
                     ⟨(j'+1+1,K,L),by dsimp only;omega,by dsimp only;omega,hK.trans (by rw [show k+1+(j'+1+1)=k+1+j'+1+1 by omega,hsm2]),hLl,hLt.trans (by rw [show k+1+(j'+1+1)=k+1+j'+1+1 by omega,hsm2]),by dsimp only;omega,fun i hi=>hLr i (by dsimp only at hi;omega)⟩
                     ) (by dsimp only;omega) ⟨rfl,rfl,rfl,rfl,trivial⟩ ⟨rfl,trivial⟩)))
          · first
            |exact Bool.noConfusion hb32
            | (
             have hall:l.take (k+1+j'+1)=l:=List.take_of_length_le (by omega)
             rw [hall] at hK hLt
             have hKl:K≤l.length:=by omega
             refine nav ?_
             (refine ζa ?_<;>refine xL 54 ζd ?_<;>refine xL 55 ζd ?_<;>refine xL 56 (ZdI (i:=K) (j:=l.length) 1000 ζG rfl rfl rfl rfl rfl hKl (Nat.le_refl _)) ?_<;>(refine Zoc 1000 ζ1 (by decide) rfl rfl rfl rfl rfl hKl ?_;intro cs2 hcs1 hcs2)<;>refine ζb (nav ?_)<;>try dsimp only)
             (refine ζa ?_<;>refine xL 57 ζd ?_<;>refine xL 58 ζd ?_<;>refine xL 59 (ZdI (i:=0) (j:=K) 1000 ζG rfl rfl rfl rfl rfl (Nat.zero_le _) hKl) ?_<;>refine xL 2 ζc ?_<;>refine ζb (nav ?_)<;>try dsimp only)
             refine Za7 (ZBq (l:=1000) K rfl hKl) fun _=>?_
             refine Zmy [(1000,slc hv 0 K 3,PV.own 93 3 K (cs2.take (K*3)))] (Tryz.results189) rfl ⟨rfl,trivial⟩ ⟨Zym hvo _ _ _,rfl,?_⟩
             rw [hcs2,←hLt,ZiT ζ0]
             rw [show (L.take K).length=K by rw [List.length_take];omega]))
       · first
         |exact Bool.noConfusion hb25
         | (
          have hnw:=ZwJ hs hy hx (by simpa using hb25)
          rw [hmk,←ζH hx] at hnw
          refine nav ?_
          (refine ζa ?_<;>refine xL 14 ζd ?_<;>refine xL 15 ζM ?_<;>refine xL 3 ζc ?_<;>refine ζb (nav ?_)<;>try dsimp only)
          refine ζl (
           ⟨k+1+1,by omega,by omega,hnw⟩
           ) (by dsimp only;omega) ⟨rfl,rfl,trivial⟩ ⟨rfl,trivial⟩))
    · first
      |exact Bool.noConfusion hb13
      | (
       refine nav ?_
       (refine ζa ?_<;>refine xL 60 ζd ?_<;>refine xL 2 ζc ?_<;>refine ζb (nav ?_)<;>try dsimp only)
       refine Zmy [(1000,hv,PV.own 93 3 l.length (l.flatMap cMv))] (Tryz.results189) rfl ⟨rfl,trivial⟩ ⟨hvo,rfl,?_⟩
       rw [List.take_of_length_le (show l.length≤k+1 by omega)] at hmk
       rw [hmk]))
theorem Zyn {l m:List Mv} (h:l.Perm m):mkM l=mkM m:=Zsh (Zdy l) fun x=>by rw [Zce];exact h.mem_iff
theorem Zyo (a:Aut) (hl:a.moves.length≤1000000) (V hM:Value) (hMo:hM.oneCell'=true) {p0 p1 p2 p3 p4:PV} {E:Int} (h5:R5 p0 p1 p2 p3 p4) (hr:AF Tryz.prog 132 [ζW (mkA a)] (· = .tup [.agg [p0,p1,p2,p3,p4],pInt E])):AFh False Tryz.prog 137 [(0,V, .agg [pInt a.n,pInt a.syms,pInts a.start,pInts a.fin, .val hM])] [(1000,hM, .own 93 3 a.moves.length (a.moves.flatMap cMv))] (fun v q h=>(∃V1:Value,v= .tuple [V1, .int .i64 E].toArray)∧q= .tup [.agg [p0,p1,p2,p3,p4],pInt E]∧h=[]):=by
 obtain ⟨o0,o1,o2,o3,o4⟩:=h5.o
 refine AFh.of_body 15 Tryz.func137 rfl Tryz.ntmps137 (Nat.le_of_ble_eq_true rfl) rfl ?_
 intro w0 M0 N0
 have hone:En.one (PV.val hM)=true:=hMo
 refine nav ?_
 (refine ζa ?_<;>refine ζE 1 5 fun h1=>?_<;>refine ζr [(.int .i64 0),(.int .i64 0),(.slice none 0 0),(.slice none 0 0),(.slice none 0 0)] 5 2 ζz fun h2=>?_<;>refine xL 3 ζc ?_<;>refine ζb (nav ?_)<;>try dsimp only)
 (refine ζa ?_<;>refine xL 4 (ζh 1 ζw) ?_<;>(refine yL 5 (ζs 1 ζA) fun v5 h=>?_;cases h)<;>(rcases Nat.eq_zero_or_pos a.moves.length with h0|h0<;>first|(refine ζq (ζN (l:=1000) (p':= .own 93 3 0 []) rfl (by rw [List.eq_nil_of_length_eq_zero h0];rfl)) fun _=>?_;refine Zo1 (l:=1000) ZhH rfl rfl (Nat.le_of_ble_eq_true rfl) rfl (Tryz.call188) rfl rfl rfl ?_;obtain ⟨rows',hperm,hord⟩:∃rows':List Mv,rows'.Perm a.moves∧Sorted rows':=⟨[],by rw [List.eq_nil_of_length_eq_zero h0],fun i j x y _ h=>by simp at h⟩;refine ζq (ζN (l:=1000) (p':= .own 93 3 rows'.length (rows'.flatMap cMv)) rfl (by rw [List.eq_nil_of_length_eq_zero (hperm.length_eq.trans h0)];rfl)) fun _=>?_)|(refine Zrr (l:=1000) (β:=Mv) (f:=cMv) (cmp:=ZeH) (rows:=a.moves) Zo4 ζ0 (by decide) (fun _=>rfl) ZlE Zo2 Zo3 (fun x y M W u v _ _ hu hv=>ZlF x y M W u v hu hv) h0 (by omega) rfl rfl (Nat.le_of_ble_eq_true rfl) rfl (Tryz.call188) rfl rfl rfl (fun rows' hperm hord=>?_);refine ζq (ζN (l:=1000) (p':= .own 93 3 rows'.length (rows'.flatMap cMv)) rfl (by rw [hperm.length_eq])) fun _=>?_))<;>refine ζb (nav ?_)<;>try dsimp only)<;>(
  (refine ζa ?_<;>refine xL 7 (ζh 1 ζw) ?_<;>(refine yL 8 (ζs 1 ζA) fun v8 h=>?_;cases h)<;>(refine Za4 [(1000,hM,PV.own 93 3 rows'.length (rows'.flatMap cMv)),(1,_,_),(2,_,_)] ⟨rfl,rfl,rfl,trivial⟩ ?_;refine ZeG [1,2] 9 (Tryz.call189) (Znq rows' (by have:=hperm.length_eq;omega) hord hM hMo) ?_;rintro v9 _ _ ⟨hv9,rfl,rfl⟩;refine ζq (ζN (l:=1000) (p':= .own 93 3 (mkM a.moves).length ((mkM a.moves).flatMap cMv)) rfl (by rw [Zyn hperm])) fun _=>?_;have hone9:En.one (PV.val v9)=true:=hv9)<;>refine xL 10 (ζh 1 ζw) ?_<;>refine Zc1 1 ζA ZaP ?_<;>refine ζb (nav ?_)<;>try dsimp only)
  refine ζv (Zaj (l:=1) (l':=1000) (j:=4) rfl rfl rfl rfl) fun _=>?_
  rw [ZhE _ _ _ rfl]
  (refine ζa ?_<;>(refine yL 11 (ζp 1 ζg) fun v11 h=>?_;cases h)<;>(refine cP 12 (cA Tryz.call132 hr) (fun va12 vb12 hva12 hvb12=>?_) (hsh:=h5.t E);cases hvb12)<;>refine xL 13 ζf ?_<;>refine xL 14 ζf ?_<;>refine ζC 2 ζg ?_<;>refine xL 3 ζc ?_<;>refine ζb (nav ?_)<;>try dsimp only)
  exact Zrw (k:=5) 2 [] (by kernel_rfl) (Tryz.results137) rfl rfl rfl (Nat.le_of_ble_eq_true rfl) (by decide) h5.s trivial fun V=>⟨⟨V,rfl⟩,rfl,rfl⟩)
theorem Zgl {x y X Y:Int} (hx:0≤x∧x≤X) (hy:0≤y∧y≤Y):0≤x*y∧x*y≤X*Y:=⟨Int.mul_nonneg hx.1 hy.1,Int.mul_le_mul hx.2 hy.2 hy.1 (by omega)⟩
def Zqz (m:Int) (x:Mv) (j:Nat):List Mv:=(List.range j).map fun j=>⟨x.src*m+(j:Nat),x.dst*m+(j:Nat),x.sym⟩
theorem Ztn (m:Int) (x:Mv) (j:Nat):Zqz m x (j+1)=Zqz m x j++[⟨x.src*m+(j:Nat),x.dst*m+(j:Nat),x.sym⟩]:=by unfold Zqz;rw [List.range_succ,List.map_append];rfl
def ZqA (m:Int) (x:Mv) (i:Nat):List Mv:=(List.range i).map fun i=>⟨(i:Nat)*m+x.src,(i:Nat)*m+x.dst,x.sym⟩
theorem Zto (m:Int) (x:Mv) (i:Nat):ZqA m x (i+1)=ZqA m x i++[⟨(i:Nat)*m+x.src,(i:Nat)*m+x.dst,x.sym⟩]:=by unfold ZqA;rw [List.range_succ,List.map_append];rfl
def smA (a b:Aut) (k:Nat):List Mv:=(a.moves.take k).flatMap (shL b.n)
def smB (a b:Aut) (k:Nat):List Mv:=a.moves.flatMap (shL b.n)++(b.moves.take k).flatMap (shR a.n b.n)
theorem ZvH {a b:Aut} {k:Nat} {x:Mv} (h:a.moves[k]? =some x):smA a b (k+1)=smA a b k++Zqz b.n x b.n.toNat:=by unfold smA;rw [ζH h,List.flatMap_append,List.flatMap_singleton];rfl
theorem ZvI {a b:Aut} {k:Nat} {x:Mv} (h:b.moves[k]? =some x):smB a b (k+1)=smB a b k++ZqA b.n x a.n.toNat:=by unfold smB;rw [ζH h,List.flatMap_append,List.flatMap_singleton,List.append_assoc];rfl
theorem Zyp {a b:Aut} {k:Nat} (h:a.moves.length≤k):smA a b k=smB a b 0:=by unfold smA smB;rw [List.take_of_length_le h];exact (List.append_nil _).symm
theorem Zyq {a b:Aut} {k:Nat} (h:b.moves.length≤k):smB a b k=(ZcA a b).moves:=by unfold smB;rw [List.take_of_length_le h];rfl
theorem ZgG (a b:Aut):(ZcA a b).moves.length=a.moves.length*b.n.toNat+b.moves.length*a.n.toNat:=by
 show (a.moves.flatMap (shL b.n)++b.moves.flatMap (shR a.n b.n)).length=_
 rw [List.length_append,flat_len (Zm9 b.n),flat_len (ZsO a.n b.n)]
theorem ZvJ {a b:Aut} {k j:Nat} (x:Mv) (hk:k<a.moves.length) (hj:j≤b.n.toNat):(smA a b k++Zqz b.n x j).length≤(ZcA a b).moves.length:=by
 rw [ZgG]
 unfold smA Zqz
 rw [List.length_append,flat_len (Zm9 b.n),List.length_take,List.length_map,List.length_range,Nat.min_eq_left (Nat.le_of_lt hk)]
 have h1:(k+1)*b.n.toNat≤a.moves.length*b.n.toNat:=Nat.mul_le_mul_right _ hk
 rw [Nat.succ_mul] at h1
 omega
theorem ZvK {a b:Aut} {k i:Nat} (x:Mv) (hk:k<b.moves.length) (hi:i≤a.n.toNat):(smB a b k++ZqA b.n x i).length≤(ZcA a b).moves.length:=by
 rw [ZgG]
 unfold smB ZqA
 rw [List.length_append,List.length_append,flat_len (Zm9 b.n),flat_len (ZsO a.n b.n),List.length_take,List.length_map,List.length_range,Nat.min_eq_left (Nat.le_of_lt hk)]
 have h1:(k+1)*a.n.toNat≤b.moves.length*a.n.toNat:=Nat.mul_le_mul_right _ hk
 rw [Nat.succ_mul] at h1
 omega
theorem Zpl {m:Int} {l k:List Int} {i:Nat} {x:Int} (h:l[i]? =some x):shI m (l.take (i+1)) k=shI m (l.take i) k++ZcT (x*m) k:=by unfold shI;rw [ζH h,List.flatMap_append,List.flatMap_singleton]
theorem Ztp (m:Int) (l k:List Int):(shI m l k).length=l.length*k.length:=flat_len (fun x=>Zdz _ _) l
theorem Zl0 (a b:Aut) (e:Int) (he:¬e=0) (hf:AF Tryz.prog 120 [ζW a,ζW b] (· =pInt e)):AF Tryz.prog 89 [ζW a,ζW b] (· = .tup [Zia,pInt e]):=by
 refine AF.of_body 162 Tryz.func89 rfl Tryz.ntmps89 (Nat.le_of_ble_eq_true rfl) ?_
 intro w0 M0 vs hl hv
 obtain ⟨v0,v1,rfl⟩:=Zb3 hl
 clear hl hv
 refine nav ?_
 (refine ζa ?_<;>refine ζE 2 5 fun h2=>?_<;>refine ζE 3 5 fun h3=>?_<;>refine ζr [(.int .i64 0),(.int .i64 0),(.slice none 0 0),(.slice none 0 0),(.slice none 0 0)] 5 4 ζz fun h4=>?_<;>refine xL 5 ζc ?_<;>refine ζb (nav ?_)<;>try dsimp only)
 (refine ζa ?_<;>(refine yL 20 (ζp 2 ζg) fun v20 h=>?_;cases h)<;>(refine yL 21 (ζp 3 ζg) fun v21 h=>?_;cases h)<;>(refine cS 22 (cA Tryz.call120 (hf)) fun v22 h=>?_;cases h)<;>refine xL 6 ζc ?_<;>refine ζb (nav ?_)<;>try dsimp only)
 (refine ζa ?_<;>refine xL 23 ζd ?_<;>refine xL 24 ZaD ?_<;>refine ζb (nav ?_)<;>try dsimp only)
 (first|refine cCd ?_ ?_|refine cC ?_ ?_)<;>intro hb24
 · refine nav ?_
   (refine ζa ?_<;>refine xL 25 (ζB ζK) ?_<;>refine xL 26 ζd ?_<;>refine ζC 4 ζg ?_<;>refine xL 5 ζc ?_<;>refine ζb (nav ?_)<;>try dsimp only)
   exact ζ6 (k:=5) 4 (by kernel_rfl) (Tryz.results89) rfl rfl rfl (Nat.le_of_ble_eq_true rfl) (by decide) rfl rfl
 · exact absurd (by simpa using hb24) he
set_option maxHeartbeats 8000000 in
theorem Zi0 (a b : Aut) (hf0:Zdl a b=0) {p0 p1 p2 p3 p4:PV} {E:Int} (r5:R5 p0 p1 p2 p3 p4) (hr:(ZcA a b).moves.length≤40000→AF Tryz.prog 132 [ζW (mkA (ZcA a b))] (· = .tup [.agg [p0,p1,p2,p3,p4],pInt E])):AF Tryz.prog 89 [ζW a,ζW b] (· =if 2000<a.n*b.n∨40000<(a.moves.length:Int)*b.n+(b.moves.length:Int)*a.n then .tup [Zia,pInt 13] else .tup [.agg [p0,p1,p2,p3,p4],pInt E]):=by
 obtain ⟨o0,o1,o2,o3,o4⟩:=r5.o
 obtain ⟨ha,hb,hs⟩:=Zf5 hf0
 have hf:=ZhU a b
 rw [hf0] at hf
 have hn0:=ha.n0
 have hn1:=ha.n1
 have m0:=hb.n0
 have m1:=hb.n1
 have k1:=ha.sl
 have k2:=hb.sl
 have k3:=ha.fl
 have k4:=hb.fl
 have k5:=ha.ml
 have k6:=hb.ml
 have q1:=Zgl (x:=a.n) (y:=b.n) ⟨hn0,hn1⟩ ⟨m0,m1⟩
 have q2:=Zgl (x:=(a.moves.length:Int)) (y:=b.n) (X:=20000) ⟨by omega,by omega⟩ ⟨m0,m1⟩
 have q3:=Zgl (x:=(b.moves.length:Int)) (y:=a.n) (X:=20000) ⟨by omega,by omega⟩ ⟨hn0,hn1⟩
 have eN:((a.n.toNat:Nat):Int)=a.n:=Int.toNat_of_nonneg hn0
 have eM:((b.n.toNat:Nat):Int)=b.n:=Int.toNat_of_nonneg m0
 have q4:(((ZcA a b).moves.length:Nat):Int)=(a.moves.length:Int)*b.n+(b.moves.length:Int)*a.n:=by
  rw [ZgG,Int.natCast_add,Int.natCast_mul,Int.natCast_mul,eN,eM]
 refine AF.of_body 162 Tryz.func89 rfl Tryz.ntmps89 (Nat.le_of_ble_eq_true rfl) ?_
 intro w0 M0 vs hl hv
 obtain ⟨v0,v1,rfl⟩:=Zb3 hl
 clear hl hv
 refine nav ?_
 (refine ζa ?_<;>refine ζE 2 5 fun h2=>?_<;>refine ζE 3 5 fun h3=>?_<;>refine ζr [(.int .i64 0),(.int .i64 0),(.slice none 0 0),(.slice none 0 0),(.slice none 0 0)] 5 4 ζz fun h4=>?_<;>refine xL 5 ζc ?_<;>refine ζb (nav ?_)<;>try dsimp only)
 (refine ζa ?_<;>(refine yL 20 (ζp 2 ζg) fun v20 h=>?_;cases h)<;>(refine yL 21 (ζp 3 ζg) fun v21 h=>?_;cases h)<;>(refine cS 22 (cA Tryz.call120 (hf)) fun v22 h=>?_;cases h)<;>refine xL 6 ζc ?_<;>refine ζb (nav ?_)<;>try dsimp only)
 (refine ζa ?_<;>refine xL 23 ζd ?_<;>refine xL 24 ZaD ?_<;>refine ζb (nav ?_)<;>try dsimp only)
 (first|refine cCd ?_ ?_|refine cC ?_ ?_)<;>intro hb24
 · first|omega|exact absurd rfl hb24|exact Bool.noConfusion hb24
 · refine nav ?_
   (refine ζ4 (fun i=>([]:List Nat).elem i) [2,3] (by kernel_rfl) ?_<;>refine xD 0 27 rfl (ζh 2 ζP) ?_<;>(refine yD 1 28 rfl (ζs 2 ζj) fun v28 h=>?_;cases h)<;>refine xD 2 29 rfl (ζh 3 ζP) ?_<;>(refine yD 3 30 rfl (ζs 3 ζj) fun v30 h=>?_;cases h)<;>refine xE 4 7 rfl ζc ?_<;>refine xE 5 8 rfl ζc ?_<;>refine ZaM (by kernel_rfl) (nav ?_)<;>try dsimp only)
   (refine ζa ?_ <;> refine xL 31 ζd ?_<;>refine xL 32 ζd ?_<;>refine xL 33 ZgR ?_<;>refine xL 34 ZaH ?_<;>refine xL 35 ζd ?_<;>(refine bLd 35 (fun hb35=>?_) (fun hb35=>?_)<;>(first|refine kL 36 ?_|refine xL 36 (ζh 2 ζw) ?_))<;>(first|refine kL 37 ?_|(refine yL 37 (ζs 2 ζA) fun v37 h=>?_;cases h))<;>(first|refine kL 38 ?_|refine xL 38 (ζV ζG) ?_)<;>(first|refine kL 39 ?_|refine xL 39 ζd ?_)<;>(first|refine kL 40 ?_|refine xL 40 ZgR ?_)<;>(first|refine kL 41 ?_|refine xL 41 (ζh 3 ζw) ?_)<;>(first|refine kL 42 ?_|(refine yL 42 (ζs 3 ζA) fun v42 h=>?_;cases h))<;>(first|refine kL 43 ?_|refine xL 43 (ζV ζG) ?_)<;>(first|refine kL 44 ?_|refine xL 44 ζd ?_)<;>(first|refine kL 45 ?_|refine xL 45 ZgR ?_)<;>(first|refine kL 46 ?_|refine xL 46 ζM ?_)<;>(first|refine kL 47 ?_|refine xL 47 ZaH ?_)<;>refine xL 48 ζF ?_<;>refine ζb (nav ?_)<;>try dsimp only)<;>(
    (first|refine cCd ?_ ?_|refine cC ?_ ?_)<;>intro hb48
    · first
      |exact Bool.noConfusion hb48
      | (
       refine nav ?_
       (refine ζa ?_<;>refine xL 49 (ζB ζK) ?_<;>refine ζC 4 ζg ?_<;>refine xL 5 ζc ?_<;>refine ζb (nav ?_)<;>try dsimp only)
       exact ζ6 (k:=5) 4 (by kernel_rfl) (Tryz.results89) rfl rfl rfl (Nat.le_of_ble_eq_true rfl) (by decide) rfl (by rw [if_pos (by omega)];rfl))
    · first
      |exact Bool.noConfusion hb48
      | (
       refine nav ?_
       have hnl:¬2000<a.n*b.n∧(ZcA a b).moves.length≤40000:=by omega
       have hr:=hr hnl.2
       have hnm:=hnl.1
       have hml:=hnl.2
       (refine ζa ?_<;>refine xL 50 ζd ?_<;>refine xL 51 ζd ?_<;>refine xL 52 ZgR ?_<;>refine xL 53 (ζh 2 ζ2) ?_<;>(refine yL 54 (ζs 2 ζj) fun v54 h=>?_;cases h)<;>refine xL 55 (ζB ζK) ?_<;>refine ζr [(.int .i64 0),(.int .i64 0),(.slice none 0 0),(.slice none 0 0),(.slice none 0 0)] 5 9 ζz fun h9=>?_<;>refine ζC 9 ζg ?_<;>refine ζb (nav ?_)<;>try dsimp only)
       refine ζv (Zeh (l:=9) [pInt (a.n*b.n),pInt a.syms, .own 3 1 0 [], .own 3 1 0 [], .own 93 3 0 []] rfl rfl (fun i p p' h1 h2=>by
        match i with
        |0=>cases h1;cases h2;exact .inl rfl
        |1=>cases h1;cases h2;exact .inl rfl
        |2=>cases h1;cases h2;exact .inr ⟨rfl,_,_,rfl⟩
        |3=>cases h1;cases h2;exact .inr ⟨rfl,_,_,rfl⟩
        |4=>cases h1;cases h2;exact .inr ⟨rfl,_,_,rfl⟩
        |i+5=>simp at h2)) fun _=>?_
       refine ζv (ZeK (l:=9) (l':=302) (j:=2) rfl rfl rfl rfl) fun i=>?_
       obtain ⟨v302,ho302⟩:=i
       dsimp only [List.set]
       refine ζv (ZeK (l:=9) (l':=303) (j:=3) rfl rfl rfl rfl) fun i=>?_
       obtain ⟨v303,ho303⟩:=i
       dsimp only [List.set]
       refine ζv (ZeK (l:=9) (l':=1000) (j:=4) rfl rfl rfl rfl) fun i=>?_
       obtain ⟨v1000,ho1000⟩:=i
       dsimp only [List.set]
       have qo2:En.one (PV.val v302)=true:=ho302
       have qo3:En.one (PV.val v303)=true:=ho303
       refine ζv (ζN (l:=1000) (p':= .own 93 3 (smA a b 0).length ((smA a b 0).flatMap cMv)) rfl rfl) fun _=>?_
       (refine ζa ?_<;>refine xL 56 (ζh 2 ζw) ?_<;>(refine yL 57 (ζs 2 ζA) fun v57 h=>?_;cases h)<;>refine xL 58 (ζV ζG) ?_<;>refine xL 59 ζd ?_<;>refine ζb (nav ?_)<;>try dsimp only)
       refine ζy (ι:={q:Nat×Value//q.1≤a.moves.length∧q.2.oneCell'=true}) (fun k=>⟨[(2,_,_),(3,_,_),(4,_,_),(7,_,_),(8,_,_),(9,_,_),(57,_,_),(58,_,_),(59, .int .i64 k.1.1,pInt k.1.1)],[(2,_,_),(3,_,_),(4,_,_),(302,_,_),(303,_,_),(9,h9, .own 39 5 1 [pInt (a.n*b.n),pInt a.syms, .val v302, .val v303, .val k.1.2]),(1000,k.1.2, .own 93 3 (smA a b k.1.1).length ((smA a b k.1.1).flatMap cMv))]⟩) (fun k=>a.moves.length-k.1.1) ⟨(0,v1000),Nat.zero_le _,ho1000⟩ (fun a w H=>H.weaken ⟨rfl,rfl,rfl,rfl,rfl,rfl,rfl,rfl,rfl,trivial⟩ ⟨rfl,rfl,rfl,rfl,rfl,rfl,rfl,trivial⟩) ?_
       rintro ⟨⟨c,hI⟩,hc,hIo⟩
       dsimp only
       dsimp only at hc hIo
       have q5:En.one (PV.val hI)=true:=hIo
       refine nav ?_
       (refine ζa ?_<;>refine xL 60 ζS ?_<;>refine ζb (nav ?_)<;>try dsimp only)
       (first|refine cCd ?_ ?_|refine cC ?_ ?_)<;>intro hb60
       · first
         |exact Bool.noConfusion hb60
         | (
          obtain ⟨x,hx⟩:=ζm (show c<a.moves.length by omega)
          have e1:=ζ8 ζ0 a.moves c x hx
          have e2:=Zaq ζ0 hx
          have hxb:=ha.mv x (List.mem_of_getElem? hx)
          have hx1:=Zgl (x:=x.src) (y:=b.n) (X:=2000) ⟨hxb.1,by omega⟩ ⟨m0,m1⟩
          have hx2:=Zgl (x:=x.dst) (y:=b.n) (X:=2000) ⟨hxb.2.2.1,by omega⟩ ⟨m0,m1⟩
          refine nav ?_
          (refine ζa ?_<;>refine xL 61 (ζJ ζG) ?_<;>(refine yL 62 (Zbm ζR) fun v62 h=>?_;cases h)<;>refine ζr [(.int .i64 0),(.int .i64 0),(.int .i64 0)] 3 11 Zb5 fun h11=>?_<;>refine ζC 11 ζR ?_<;>refine ζb (nav ?_)<;>try dsimp only)
          (refine ζa ?_<;>refine xL 63 ζd ?_<;>refine xL 64 ζd ?_<;>refine ζb (nav ?_)<;>try dsimp only)
          refine ζv (ζN (l:=1000) (p':= .own 93 3 (smA a b c++Zqz b.n x 0).length ((smA a b c++Zqz b.n x 0).flatMap cMv)) rfl (by rw [show Zqz b.n x 0=[] from rfl,List.append_nil])) fun _=>?_
          refine ζy (ι:={q:Nat×Value//q.1≤b.n.toNat∧q.2.oneCell'=true}) (fun k=>⟨[(2,_,_),(3,_,_),(4,_,_),(7,_,_),(8,_,_),(9,_,_),(11,_,_),(57,_,_),(58,_,_),(59,_,_),(63,_,_),(64, .int .i64 k.1.1,pInt k.1.1)],[(2,_,_),(3,_,_),(4,_,_),(11,_,_),(302,_,_),(303,_,_),(9,h9, .own 39 5 1 [pInt (a.n*b.n),pInt a.syms, .val v302, .val v303, .val k.1.2]),(1000,k.1.2, .own 93 3 (smA a b c++Zqz b.n x k.1.1).length ((smA a b c++Zqz b.n x k.1.1).flatMap cMv))]⟩) (fun k=>b.n.toNat-k.1.1) ⟨(0,hI),Nat.zero_le _,hIo⟩ (fun a w H=>H.weaken ⟨rfl,rfl,rfl,rfl,rfl,rfl,rfl,rfl,rfl,rfl,rfl,rfl,trivial⟩ ⟨rfl,rfl,rfl,rfl,rfl,rfl,rfl,rfl,trivial⟩) ?_
          rintro ⟨⟨j,hJ⟩,hj,hJo⟩
          dsimp only
          dsimp only at hj hJo
          have q6:En.one (PV.val hJ)=true:=hJo
          have hpt:=ZvJ x (ζe hx) hj
          refine nav ?_
          (refine ζa ?_<;>refine xL 65 ζS ?_<;>refine ζb (nav ?_)<;>try dsimp only)
          (first|refine cCd ?_ ?_|refine cC ?_ ?_)<;>intro hb65
          · first
            |exact Bool.noConfusion hb65
            | (
             refine nav ?_
             (refine ζa ?_<;>refine xL 66 ζd ?_<;>refine xL 12 ζc ?_<;>refine ζb (nav ?_)<;>try dsimp only)
             (refine ζa ?_<;>refine xL 67 (ζh 9 ζw) ?_<;>(refine yL 68 (ζs 9 ζA) fun v68 h=>?_;cases h)<;>refine xL 69 (ζh 11 Zac) ?_<;>(refine yL 70 (ζs 11 ζj) fun v70 h=>?_;cases h)<;>refine xL 71 ζd ?_<;>refine xL 72 ZgR ?_<;>refine xL 73 ζd ?_<;>refine xL 74 ζM ?_<;>refine xL 75 (ζh 11 Zal) ?_<;>(refine yL 76 (ζs 11 ζj) fun v76 h=>?_;cases h)<;>refine xL 77 ζd ?_<;>refine xL 78 ZgR ?_<;>refine xL 79 ζd ?_<;>refine xL 80 ζM ?_<;>refine xL 81 (ζh 11 ZaK) ?_<;>(refine yL 82 (ζs 11 ζj) fun v82 h=>?_;cases h)<;>refine xL 83 (ζB Zbp) ?_<;>refine Zar 84 ζ1 fun h84 ho84=>?_<;>(refine ζY 1000 84 85 ζ1 fun h85 ho85=>?_;refine ζq (ζD (l:=85) 1000 rfl rfl) fun _=>?_;refine ζq (ζN (l:=1000) rfl ((ZbP _ (smA a b c++Zqz b.n x j) ⟨x.src*b.n+(j:Nat),x.dst*b.n+(j:Nat),x.sym⟩).trans (by rw [List.append_assoc,←Ztn]))) fun _=>?_;have q85:En.one (PV.val h85)=true:=ho85)<;>refine xL 86 (ζh 9 ζw) ?_<;>refine Zc1 9 ζA ZaP ?_<;>refine ζb (nav ?_)<;>try dsimp only)
             (refine ζa ?_<;>refine xL 87 ζM ?_<;>refine xL 64 ζd ?_<;>refine ζb (nav ?_)<;>try dsimp only)
             refine ζl (
              ⟨(j+1,h85),by dsimp only;omega,ho85⟩
              ) (by dsimp only;omega) ⟨rfl,rfl,rfl,rfl,rfl,rfl,rfl,rfl,rfl,rfl,rfl,rfl,trivial⟩ ⟨rfl,rfl,rfl,rfl,rfl,rfl,rfl,rfl,trivial⟩)
          · first
            |exact Bool.noConfusion hb65
            | (
             refine ζv (ζN (l:=1000) (p':= .own 93 3 (smA a b (c+1)).length ((smA a b (c+1)).flatMap cMv)) rfl (by rw [show smA a b c++Zqz b.n x j=smA a b (c+1) by rw [ZvH hx,show j=b.n.toNat by omega]])) fun _=>?_
             refine nav ?_
             (refine ζa ?_<;>refine xL 88 ζM ?_<;>refine xL 59 ζd ?_<;>refine ζb (nav ?_)<;>try dsimp only)
             refine ζl (
              ⟨(c+1,hJ),ζe hx,hJo⟩
              ) (by dsimp only;omega) ⟨rfl,rfl,rfl,rfl,rfl,rfl,rfl,rfl,rfl,trivial⟩ ⟨rfl,rfl,rfl,rfl,rfl,rfl,rfl,trivial⟩))
       · first
         |exact Bool.noConfusion hb60
         | (
          rw [Zyp (show a.moves.length≤c by omega)]
          refine nav ?_
          (refine ζa ?_<;>refine xL 89 (ζh 3 ζw) ?_<;>(refine yL 90 (ζs 3 ζA) fun v90 h=>?_;cases h)<;>refine xL 91 (ζV ζG) ?_<;>refine xL 92 ζd ?_<;>refine ζb (nav ?_)<;>try dsimp only)
          refine ζy (ι:={q:Nat×Value//q.1≤b.moves.length∧q.2.oneCell'=true}) (fun k=>⟨[(2,_,_),(3,_,_),(4,_,_),(7,_,_),(8,_,_),(9,_,_),(90,_,_),(91,_,_),(92, .int .i64 k.1.1,pInt k.1.1)],[(2,_,_),(3,_,_),(4,_,_),(302,_,_),(303,_,_),(9,h9, .own 39 5 1 [pInt (a.n*b.n),pInt a.syms, .val v302, .val v303, .val k.1.2]),(1000,k.1.2, .own 93 3 (smB a b k.1.1).length ((smB a b k.1.1).flatMap cMv))]⟩) (fun k=>b.moves.length-k.1.1) ⟨(0,hI),Nat.zero_le _,hIo⟩ (fun a w H=>H.weaken ⟨rfl,rfl,rfl,rfl,rfl,rfl,rfl,rfl,rfl,trivial⟩ ⟨rfl,rfl,rfl,rfl,rfl,rfl,rfl,trivial⟩) ?_
          rintro ⟨⟨u,hU⟩,hu,hUo⟩
          dsimp only
          dsimp only at hu hUo
          have q7:En.one (PV.val hU)=true:=hUo
          refine nav ?_
          (refine ζa ?_<;>refine xL 93 ζS ?_<;>refine ζb (nav ?_)<;>try dsimp only)
          (first|refine cCd ?_ ?_|refine cC ?_ ?_)<;>intro hb93
          · first
            |exact Bool.noConfusion hb93
            | (
             obtain ⟨y,hy⟩:=ζm (show u<b.moves.length by omega)
             have e3:=ζ8 ζ0 b.moves u y hy
             have e4:=Zaq ζ0 hy
             have hyb:=hb.mv y (List.mem_of_getElem? hy)
             refine nav ?_
             (refine ζa ?_<;>refine xL 94 (ζJ ζG) ?_<;>(refine yL 95 (Zbm ζR) fun v95 h=>?_;cases h)<;>refine ζr [(.int .i64 0),(.int .i64 0),(.int .i64 0)] 3 14 Zb5 fun h14=>?_<;>refine ζC 14 ζR ?_<;>refine ζb (nav ?_)<;>try dsimp only)
             (refine ζa ?_<;>refine xL 96 ζd ?_<;>refine xL 97 ζd ?_<;>refine ζb (nav ?_)<;>try dsimp only)
             refine ζv (ζN (l:=1000) (p':= .own 93 3 (smB a b u++ZqA b.n y 0).length ((smB a b u++ZqA b.n y 0).flatMap cMv)) rfl (by rw [show ZqA b.n y 0=[] from rfl,List.append_nil])) fun _=>?_
             refine ζy (ι:={q:Nat×Value//q.1≤a.n.toNat∧q.2.oneCell'=true}) (fun k=>⟨[(2,_,_),(3,_,_),(4,_,_),(7,_,_),(8,_,_),(9,_,_),(14,_,_),(90,_,_),(91,_,_),(92,_,_),(96,_,_),(97, .int .i64 k.1.1,pInt k.1.1)],[(2,_,_),(3,_,_),(4,_,_),(14,_,_),(302,_,_),(303,_,_),(9,h9, .own 39 5 1 [pInt (a.n*b.n),pInt a.syms, .val v302, .val v303, .val k.1.2]),(1000,k.1.2, .own 93 3 (smB a b u++ZqA b.n y k.1.1).length ((smB a b u++ZqA b.n y k.1.1).flatMap cMv))]⟩) (fun k=>a.n.toNat-k.1.1) ⟨(0,hU),Nat.zero_le _,hUo⟩ (fun a w H=>H.weaken ⟨rfl,rfl,rfl,rfl,rfl,rfl,rfl,rfl,rfl,rfl,rfl,rfl,trivial⟩ ⟨rfl,rfl,rfl,rfl,rfl,rfl,rfl,rfl,trivial⟩) ?_
             rintro ⟨⟨i,hV⟩,hi,hVo⟩
             dsimp only
             dsimp only at hi hVo
             have q8:En.one (PV.val hV)=true:=hVo
             have hpt2:=ZvK y (ζe hy) hi
             have hx3:=Zgl (x:=(i:Int)) (y:=b.n) (X:=2000) ⟨by omega,by omega⟩ ⟨m0,m1⟩
             refine nav ?_
             (refine ζa ?_<;>refine xL 98 ζS ?_<;>refine ζb (nav ?_)<;>try dsimp only)
             (first|refine cCd ?_ ?_|refine cC ?_ ?_)<;>intro hb98
             · first
               |exact Bool.noConfusion hb98
               | (
                refine nav ?_
                (refine ζa ?_<;>refine xL 99 ζd ?_<;>refine xL 15 ζc ?_<;>refine ζb (nav ?_)<;>try dsimp only)
                (refine ζa ?_<;>refine xL 100 (ζh 9 ζw) ?_<;>(refine yL 101 (ζs 9 ζA) fun v101 h=>?_;cases h)<;>refine xL 102 ζd ?_<;>refine xL 103 ζd ?_<;>refine xL 104 ZgR ?_<;>refine xL 105 (ζh 14 Zac) ?_<;>(refine yL 106 (ζs 14 ζj) fun v106 h=>?_;cases h)<;>refine xL 107 ζM ?_<;>refine xL 108 ζd ?_<;>refine xL 109 ζd ?_<;>refine xL 110 ZgR ?_<;>refine xL 111 (ζh 14 Zal) ?_<;>(refine yL 112 (ζs 14 ζj) fun v112 h=>?_;cases h)<;>refine xL 113 ζM ?_<;>refine xL 114 (ζh 14 ZaK) ?_<;>(refine yL 115 (ζs 14 ζj) fun v115 h=>?_;cases h)<;>refine xL 116 (ζB Zbp) ?_<;>refine Zar 117 ζ1 fun h117 ho117=>?_<;>(refine ζY 1000 117 118 ζ1 fun h118 ho118=>?_;refine ζq (ζD (l:=118) 1000 rfl rfl) fun _=>?_;refine ζq (ζN (l:=1000) rfl ((ZbP _ (smB a b u++ZqA b.n y i) ⟨(i:Nat)*b.n+y.src,(i:Nat)*b.n+y.dst,y.sym⟩).trans (by rw [List.append_assoc,←Zto]))) fun _=>?_;have q118:En.one (PV.val h118)=true:=ho118)<;>refine xL 119 (ζh 9 ζw) ?_<;>refine Zc1 9 ζA ZaP ?_<;>refine ζb (nav ?_)<;>try dsimp only)
                (refine ζa ?_<;>refine xL 120 ζM ?_<;>refine xL 97 ζd ?_<;>refine ζb (nav ?_)<;>try dsimp only)
                refine ζl (
                 ⟨(i+1,h118),by dsimp only;omega,ho118⟩
                 ) (by dsimp only;omega) ⟨rfl,rfl,rfl,rfl,rfl,rfl,rfl,rfl,rfl,rfl,rfl,rfl,trivial⟩ ⟨rfl,rfl,rfl,rfl,rfl,rfl,rfl,rfl,trivial⟩)
             · first
               |exact Bool.noConfusion hb98
               | (
                refine ζv (ζN (l:=1000) (p':= .own 93 3 (smB a b (u+1)).length ((smB a b (u+1)).flatMap cMv)) rfl (by rw [show smB a b u++ZqA b.n y i=smB a b (u+1) by rw [ZvI hy,show i=a.n.toNat by omega]])) fun _=>?_
                refine nav ?_
                (refine ζa ?_<;>refine xL 121 ζM ?_<;>refine xL 92 ζd ?_<;>refine ζb (nav ?_)<;>try dsimp only)
                refine ζl (
                 ⟨(u+1,hV),ζe hy,hVo⟩
                 ) (by dsimp only;omega) ⟨rfl,rfl,rfl,rfl,rfl,rfl,rfl,rfl,rfl,trivial⟩ ⟨rfl,rfl,rfl,rfl,rfl,rfl,rfl,trivial⟩))
          · first
            |exact Bool.noConfusion hb93
            | (
             rw [Zyq (show b.moves.length≤u by omega)]
             refine nav ?_
             (refine ζa ?_<;>refine xL 122 (ζh 2 Zab) ?_<;>(refine yL 123 (ζs 2 ζx) fun v123 h=>?_;cases h)<;>refine xL 124 (ζV ζn) ?_<;>refine xL 125 ζd ?_<;>refine ζb (nav ?_)<;>try dsimp only)
             refine ζv (ζN (l:=302) (p':= .own 3 1 (shI b.n (a.start.take 0) b.start).length ((shI b.n (a.start.take 0) b.start).map pInt)) rfl rfl) fun _=>?_
             refine ζy (ι:={q:Nat×Value//q.1≤a.start.length∧q.2.oneCell'=true}) (fun k=>⟨[(2,_,_),(3,_,_),(4,_,_),(7,_,_),(8,_,_),(9,_,_),(123,_,_),(124,_,_),(125, .int .i64 k.1.1,pInt k.1.1)],[(2,_,_),(3,_,_),(4,_,_),(303,_,_),(1000,_,_),(9,h9, .own 39 5 1 [pInt (a.n*b.n),pInt a.syms, .val k.1.2, .val v303, .val hU]),(302,k.1.2, .own 3 1 (shI b.n (a.start.take k.1.1) b.start).length ((shI b.n (a.start.take k.1.1) b.start).map pInt))]⟩) (fun k=>a.start.length-k.1.1) ⟨(0,v302),Nat.zero_le _,ho302⟩ (fun a w H=>H.weaken ⟨rfl,rfl,rfl,rfl,rfl,rfl,rfl,rfl,rfl,trivial⟩ ⟨rfl,rfl,rfl,rfl,rfl,rfl,rfl,trivial⟩) ?_
             rintro ⟨⟨s,hS⟩,hs',hSo⟩
             dsimp only
             dsimp only at hs' hSo
             have q9:En.one (PV.val hS)=true:=hSo
             have hSl:(shI b.n (a.start.take s) b.start).length≤2000*2000:=by rw [Ztp,List.length_take];exact Nat.mul_le_mul (by omega) k2
             refine nav ?_
             (refine ζa ?_<;>refine xL 126 ζS ?_<;>refine ζb (nav ?_)<;>try dsimp only)
             (first|refine cCd ?_ ?_|refine cC ?_ ?_)<;>intro hb126
             · first
               |exact Bool.noConfusion hb126
               | (
                obtain ⟨z,hz⟩:=ζm (show s<a.start.length by omega)
                have e5:=Zaf (f:=pInt) hz
                have hzb:=ha.st z (List.mem_of_getElem? hz)
                have hz1:=Zgl (x:=z) (y:=b.n) (X:=a.n) (Y:=b.n) ⟨hzb.1,by omega⟩ ⟨m0,Int.le_refl _⟩
                have hal:=Zdz (z*b.n) b.start
                refine nav ?_
                (refine ζa ?_<;>refine xL 127 (ζJ ζn) ?_<;>(refine yL 128 (Za3 ζj) fun v128 h=>?_;cases h)<;>refine xL 17 ζc ?_<;>refine ζb (nav ?_)<;>try dsimp only)
                (refine ζ4 (fun i=>([10]:List Nat).elem i) [3,9] (by kernel_rfl) ?_<;>refine xD 0 129 rfl (ζh 9 Zab) ?_<;>(refine yD 1 130 rfl (ζs 9 ζx) fun v130 h=>?_;cases h)<;>refine xD 2 131 rfl (ζh 3 Zab) ?_<;>(refine yD 3 132 rfl (ζs 3 ζx) fun v132 h=>?_;cases h)<;>refine xD 4 133 rfl ζd ?_<;>refine xE 5 134 rfl ζd ?_<;>refine xE 6 135 rfl ZgR ?_<;>(refine ζo 7 (by kernel_rfl) ?_)<;>(refine ζk rfl fun w9 M9 N9 DQ back=>?_)<;>(refine cO 136 (cA Tryz.call136 (Zdk b.start (z*b.n) (by omega) (by omega) (fun x hx=>by have:=hb.st x hx;omega))) fun v136 ho136=>?_;refine ζq (En.freeze (l:=136) (t:=136) rfl rfl) fun _=>?_;rw [ζL _ _ _ rfl])<;>refine ζb (back _ (nrm ?_))<;>(refine ζo 8 (by kernel_rfl) ?_)<;>(refine ζk rfl fun w9 M9 N9 DQ back=>?_)<;>(refine Ziu 302 137 ζi (fun h137 ho137=>?_) (Zft (ZcT (z*b.n) b.start)) (ZgE (ZcT (z*b.n) b.start));have q137:En.one (PV.val h137)=true:=ho137;refine ζq (ζD (l:=137) 302 rfl rfl) fun _=>?_;refine ζq (ζN (l:=302) rfl ((ZgF _ (shI b.n (a.start.take s) b.start) (ZcT (z*b.n) b.start)).trans (by rw [←Zpl hz]))) fun _=>?_)<;>refine ζb (back _ (nrm ?_))<;>refine xE 9 138 rfl (ζh 9 Zab) ?_<;>(refine ζo 10 (by kernel_rfl) ?_)<;>(refine Zmq rfl rfl (by kernel_rfl) fun DQ back=>?_)<;>refine Zc1 9 ζx Zbo ?_<;>refine ζb (back _ (nav ?_))<;>try dsimp only)
                (refine ζa ?_<;>refine xL 139 ζM ?_<;>refine xL 125 ζd ?_<;>refine ζb (nav ?_)<;>try dsimp only)
                refine ζl (
                 ⟨(s+1,h137),ζe hz,ho137⟩
                 ) (by dsimp only;omega) ⟨rfl,rfl,rfl,rfl,rfl,rfl,rfl,rfl,rfl,trivial⟩ ⟨rfl,rfl,rfl,rfl,rfl,rfl,rfl,trivial⟩)
             · first
               |exact Bool.noConfusion hb126
               | (
                rw [List.take_of_length_le (show a.start.length≤s by omega)]
                refine nav ?_
                (refine ζa ?_<;>refine xL 140 (ζh 2 ζ9) ?_<;>(refine yL 141 (ζs 2 ζx) fun v141 h=>?_;cases h)<;>refine xL 142 (ζV ζn) ?_<;>refine xL 143 ζd ?_<;>refine ζb (nav ?_)<;>try dsimp only)
                refine ζv (ζN (l:=303) (p':= .own 3 1 (shI b.n (a.fin.take 0) b.fin).length ((shI b.n (a.fin.take 0) b.fin).map pInt)) rfl rfl) fun _=>?_
                refine ζy (ι:={q:Nat×Value//q.1≤a.fin.length∧q.2.oneCell'=true}) (fun k=>⟨[(2,_,_),(3,_,_),(4,_,_),(7,_,_),(8,_,_),(9,_,_),(141,_,_),(142,_,_),(143, .int .i64 k.1.1,pInt k.1.1)],[(2,_,_),(3,_,_),(4,_,_),(302,_,_),(1000,_,_),(9,h9, .own 39 5 1 [pInt (a.n*b.n),pInt a.syms, .val hS, .val k.1.2, .val hU]),(303,k.1.2, .own 3 1 (shI b.n (a.fin.take k.1.1) b.fin).length ((shI b.n (a.fin.take k.1.1) b.fin).map pInt))]⟩) (fun k=>a.fin.length-k.1.1) ⟨(0,v303),Nat.zero_le _,ho303⟩ (fun a w H=>H.weaken ⟨rfl,rfl,rfl,rfl,rfl,rfl,rfl,rfl,rfl,trivial⟩ ⟨rfl,rfl,rfl,rfl,rfl,rfl,rfl,trivial⟩) ?_
                rintro ⟨⟨t,hT⟩,ht,hTo⟩
                dsimp only
                dsimp only at ht hTo
                have q10:En.one (PV.val hT)=true:=hTo
                have hTl:(shI b.n (a.fin.take t) b.fin).length≤2000*2000:=by rw [Ztp,List.length_take];exact Nat.mul_le_mul (by omega) k4
                refine nav ?_
                (refine ζa ?_<;>refine xL 144 ζS ?_<;>refine ζb (nav ?_)<;>try dsimp only)
                (first|refine cCd ?_ ?_|refine cC ?_ ?_)<;>intro hb144
                · first
                  |exact Bool.noConfusion hb144
                  | (
                   obtain ⟨z2,hz2⟩:=ζm (show t<a.fin.length by omega)
                   have e6:=Zaf (f:=pInt) hz2
                   have hzb2:=ha.fi z2 (List.mem_of_getElem? hz2)
                   have hz3:=Zgl (x:=z2) (y:=b.n) (X:=a.n) (Y:=b.n) ⟨hzb2.1,by omega⟩ ⟨m0,Int.le_refl _⟩
                   have hal2:=Zdz (z2*b.n) b.fin
                   refine nav ?_
                   (refine ζa ?_<;>refine xL 145 (ζJ ζn) ?_<;>(refine yL 146 (Za3 ζj) fun v146 h=>?_;cases h)<;>refine xL 19 ζc ?_<;>refine ζb (nav ?_)<;>try dsimp only)
                   (refine ζ4 (fun i=>([10]:List Nat).elem i) [3,9] (by kernel_rfl) ?_<;>refine xD 0 147 rfl (ζh 9 ζ9) ?_<;>(refine yD 1 148 rfl (ζs 9 ζx) fun v148 h=>?_;cases h)<;>refine xD 2 149 rfl (ζh 3 ζ9) ?_<;>(refine yD 3 150 rfl (ζs 3 ζx) fun v150 h=>?_;cases h)<;>refine xD 4 151 rfl ζd ?_<;>refine xE 5 152 rfl ζd ?_<;>refine xE 6 153 rfl ZgR ?_<;>(refine ζo 7 (by kernel_rfl) ?_)<;>(refine ζk rfl fun w9 M9 N9 DQ back=>?_)<;>(refine cO 154 (cA Tryz.call136 (Zdk b.fin (z2*b.n) (by omega) (by omega) (fun x hx=>by have:=hb.fi x hx;omega))) fun v154 ho154=>?_;refine ζq (En.freeze (l:=154) (t:=154) rfl rfl) fun _=>?_;rw [ζL _ _ _ rfl])<;>refine ζb (back _ (nrm ?_))<;>(refine ζo 8 (by kernel_rfl) ?_)<;>(refine ζk rfl fun w9 M9 N9 DQ back=>?_)<;>(refine Ziu 303 155 ζi (fun h155 ho155=>?_) (Zft (ZcT (z2*b.n) b.fin)) (ZgE (ZcT (z2*b.n) b.fin));have q155:En.one (PV.val h155)=true:=ho155;refine ζq (ζD (l:=155) 303 rfl rfl) fun _=>?_;refine ζq (ζN (l:=303) rfl ((ZgF _ (shI b.n (a.fin.take t) b.fin) (ZcT (z2*b.n) b.fin)).trans (by rw [←Zpl hz2]))) fun _=>?_)<;>refine ζb (back _ (nrm ?_))<;>refine xE 9 156 rfl (ζh 9 ζ9) ?_<;>(refine ζo 10 (by kernel_rfl) ?_)<;>(refine Zmq rfl rfl (by kernel_rfl) fun DQ back=>?_)<;>refine Zc1 9 ζx Zbo ?_<;>refine ζb (back _ (nav ?_))<;>try dsimp only)
                   (refine ζa ?_<;>refine xL 157 ζM ?_<;>refine xL 143 ζd ?_<;>refine ζb (nav ?_)<;>try dsimp only)
                   refine ζl (
                    ⟨(t+1,h155),ζe hz2,ho155⟩
                    ) (by dsimp only;omega) ⟨rfl,rfl,rfl,rfl,rfl,rfl,rfl,rfl,rfl,trivial⟩ ⟨rfl,rfl,rfl,rfl,rfl,rfl,rfl,trivial⟩)
                · first
                  |exact Bool.noConfusion hb144
                  | (
                   rw [List.take_of_length_le (show a.fin.length≤t by omega)]
                   refine nav ?_
                   refine ζv (Zaj (l:=9) (l':=302) (j:=2) rfl rfl rfl rfl) fun _=>?_
                   refine ζv (Zaj (l:=9) (l':=303) (j:=3) rfl rfl rfl rfl) fun _=>?_
                   rw [ζL _ _ _ rfl,ζL _ _ _ rfl]
                   (refine ζa ?_<;>(refine yL 158 (ζp (k:=5) (ps:=[pInt (a.n*b.n),pInt a.syms,pInts (shI b.n a.start b.start),pInts (shI b.n a.fin b.fin),PV.val hU]) 9 (by kernel_rfl)) fun v158 h=>?_;cases h)<;>(refine Za4 [(1000,hU,PV.own 93 3 (ZcA a b).moves.length ((ZcA a b).moves.flatMap cMv)),(2,_,_),(3,_,_),(4,_,_),(9,_,_)] ⟨rfl,rfl,rfl,rfl,rfl,trivial⟩ ?_;refine ZeG [2,3,4,9] 159 (Tryz.call137) (Zyo (ZcA a b) (by omega) _ hU hUo r5 hr) ?_;rintro _ _ _ ⟨⟨V1,rfl⟩,rfl,rfl⟩)<;>refine xL 160 ζf ?_<;>refine xL 161 ζf ?_<;>refine ζC 4 ζg ?_<;>refine xL 5 ζc ?_<;>refine ζb (nav ?_)<;>try dsimp only)
                   exact ζ6 (k:=5) 4 (by kernel_rfl) (Tryz.results89) rfl rfl rfl (Nat.le_of_ble_eq_true rfl) (by decide) r5.s (by rw [if_neg (by omega)];rfl)))))))
theorem ZqB (a b:Aut):AF Tryz.prog 89 [ζW a,ζW b] (· =resW (ZjZ a b)):=by
 unfold ZjZ
 by_cases h0:Zdl a b=0
 · rw [if_neg (fun h=>h h0)]
   obtain ⟨ha,hb,hs⟩:=Zf5 h0
   by_cases hl:(ZcA a b).moves.length≤40000
   · obtain ⟨p0,p1,p2,p3,p4,E,h5,h2,hr⟩:=Zev (ZcA a b) (by omega) (Zj0 ha hb hs)
     refine (Zi0 a b h0 h5 fun _=>hr).mono fun p hp=>?_
     rw [hp]
     split
     · rfl
     · exact h2.symm
   · refine (Zi0 a b h0 R5.raw (E:=13) fun h=>absurd h hl).mono fun p hp=>?_
     have h1:=ha.n0
     have h2:=hb.n0
     have q4:(((ZcA a b).moves.length:Nat):Int)=(a.moves.length:Int)*b.n+(b.moves.length:Int)*a.n:=by
      rw [ZgG,Int.natCast_add,Int.natCast_mul,Int.natCast_mul,Int.toNat_of_nonneg h1,Int.toNat_of_nonneg h2]
     rw [hp,if_pos (.inr (by omega)),if_pos (.inr (by omega))];rfl
 · rw [if_pos h0]
   exact Zl0 a b _ h0 (ZhU a b)
theorem Zi1:AggT Tryz.prog 39 5=true:=by kernel_rfl
theorem Zl1:ElT Tryz.prog 27 9 1 16 (.string ByteArray.empty):=⟨Tryz.underlying27,by kernel_rfl,rfl,by decide⟩
theorem Zfu:ElT Tryz.prog 36 3 1 8 (.int .i64 0):=⟨Tryz.underlying36,by kernel_rfl,rfl,by decide⟩
theorem Ztq:ElT Tryz.prog 37 93 3 24 (.agg #[(.int .i64 0),(.int .i64 0),(.int .i64 0)]):=⟨Tryz.underlying37,by kernel_rfl,rfl,by decide⟩
theorem ZhW:FldT Tryz.prog 24 0 0=true:=by kernel_rfl
theorem Znr:FldT Tryz.prog 24 1 1=true:=by kernel_rfl
theorem Zkg:NoAgg Tryz.prog 3=true:=by kernel_rfl
theorem Zpm:NoAgg Tryz.prog 9=true:=by kernel_rfl
theorem ZhX:SlT Tryz.prog 27 9 1=true:=by kernel_rfl
theorem Zl2:SlT Tryz.prog 36 3 1=true:=by kernel_rfl
theorem Zl3:Zbj Tryz.prog 39=some ((.agg #[(.int .i64 0),(.int .i64 0),(.slice none 0 0),(.slice none 0 0),(.slice none 0 0)]),([0,1,2,3,4]:List Nat).map fun o=>(o,1)):=by kernel_rfl
theorem Ztr:Zbj Tryz.prog 93=some ((.agg #[(.int .i64 0),(.int .i64 0),(.int .i64 0)]),([0,1,2]:List Nat).map fun o=>(o,1)):=by kernel_rfl
theorem Zl4:ZeroT Tryz.prog 39 (.agg #[(.int .i64 0),(.int .i64 0),(.slice none 0 0),(.slice none 0 0),(.slice none 0 0)]):=by unfold ZeroT;kernel_rfl
theorem ZqC (x:Option Aut):∃p0 p1 p2 p3 p4 E,R5 p0 p1 p2 p3 p4∧resW (lim x)= .tup [.agg [p0,p1,p2,p3,p4],pInt E]∧((x=none∧E=13)∨∃A,x=some A∧E=0∧p0=pInt A.n∧p1=pInt A.syms∧p2=pInts A.start∧p3=pInts A.fin∧p4=pMvs A.moves):=by
 cases x with
 |none=>exact ⟨_,_,_,_,_,_,R5.raw,rfl, .inl ⟨rfl,rfl⟩⟩
 |some A=>exact ⟨_,_,_,_,_,_,R5.aut A,rfl, .inr ⟨A,rfl,rfl,rfl,rfl,rfl,rfl,rfl⟩⟩
theorem ZgH (e:Nat) (L:List Aut) (x:Aut):PV.own e 5 (L.length+1) (L.flatMap ZeN++ZeN x)= .own e 5 (L++[x]).length ((L++[x]).flatMap ZeN):=by simp
theorem ZeC (e n:Nat) (l:List Aut) (hn:n=l.length):share (.own e 5 n (l.flatMap ZeN))= .sl l.length (l.flatMap ZeN):=by
 subst hn
 rw [share,ζ3,List.map_flatMap];rfl
theorem Zyr (n:Nat):Rr (.agg [pInt 1,pInt n,pInts [0],pInts [0], .val (.slice none 0 0)]) (ζW (Zqr n)):=Rr.agg rfl fun i p p' h1 h2=>by
 match i with
 |0=>cases h1;cases h2;exact Rr.rfl' _
 |1=>cases h1;cases h2;exact Rr.rfl' _
 |2=>cases h1;cases h2;exact Rr.rfl' _
 |3=>cases h1;cases h2;exact Rr.rfl' _
 |4=>cases h1;cases h2;exact Rr.nil
 |i+5=>simp at h1
theorem ZhY (l:List ByteArray) (s:ByteArray):AF Tryz.prog 67 [Zao l,ZaS s] (· =pInt (Zaz l s)):=by
 refine AF.of_body 8 Tryz.func67 rfl Tryz.ntmps67 (Nat.le_of_ble_eq_true rfl) ?_
 intro w0 M0 vs hl hv
 obtain ⟨v0,v1,rfl⟩:=Zb3 hl
 clear hl hv
 refine nav ?_
 (refine ζa ?_<;>refine xL 4 ζc ?_<;>refine ζb (nav ?_)<;>try dsimp only)
 (refine ζa ?_<;>refine xL 5 ζd ?_<;>refine xL 6 ζd ?_<;>(refine cS 7 (cA Tryz.call86 (Zmt l s)) fun v7 h=>?_;cases h)<;>refine xL 4 ζc ?_<;>refine ζb (nav ?_)<;>try dsimp only)
 exact ζt Tryz.results67 rfl rfl
theorem ZvL (acts:List ByteArray) {l:List Int} {k:Nat} {i:Int} (h:l[k]? =some i):nmI acts (l.take (k+1))=nmI acts (l.take k)++[(acts[i.toNat]?).getD ByteArray.empty]:=by
 unfold nmI
 rw [ζH h,List.map_append];rfl
theorem Zys (acts:List ByteArray) (l:List Int):(nmI acts l).length=l.length:=List.length_map _
theorem Zl5 (l:List Int) (acts:List ByteArray) (hl:l.length≤1000000) (hin:∀i∈l,0≤i∧i<acts.length):AF Tryz.prog 53 [pInts l,Zao acts] (· =Zao (nmI acts l)):=by
 refine AF.of_body 23 Tryz.func53 rfl Tryz.ntmps53 (Nat.le_of_ble_eq_true rfl) ?_
 intro w0 M0 vs hl hv
 obtain ⟨v0,v1,rfl⟩:=Zb3 hl
 clear hl hv
 refine nav ?_
 (refine ζa ?_<;>refine xL 4 ζc ?_<;>refine ζb (nav ?_)<;>try dsimp only)
 (refine ζa ?_<;>refine xL 5 ζc ?_<;>refine ζb (nav ?_)<;>try dsimp only)
 (refine ζa ?_<;>refine xL 8 ζd ?_<;>refine xL 9 (ζV Zl2) ?_<;>refine xL 10 ζd ?_<;>refine ζb (nav ?_)<;>try dsimp only)
 refine ζv (Zb2 200 9 1 rfl) fun _=>?_
 refine ζy (ι:={q:Nat×Value//q.1≤l.length∧q.2.oneCell'=true}) (fun k=>⟨[(0,_,_),(1,_,_),(8,_,_),(9,_,_),(5,k.1.2, .val k.1.2),(10, .int .i64 k.1.1,pInt k.1.1)],[(200,k.1.2, .own 9 1 (nmI acts (l.take k.1.1)).length ((nmI acts (l.take k.1.1)).map ZaS))]⟩) (fun k=>l.length-k.1.1) ⟨(0, .slice none 0 0),Nat.zero_le _,rfl⟩ (fun a w H=>H.weaken ⟨rfl,rfl,rfl,rfl,rfl,rfl,trivial⟩ ⟨rfl,trivial⟩) ?_
 rintro ⟨⟨i,hv⟩,hi,ho⟩
 dsimp only
 dsimp only at hi ho
 refine nav ?_
 (refine ζa ?_<;>refine xL 11 ζS ?_<;>refine ζb (nav ?_)<;>try dsimp only)
 (first|refine cCd ?_ ?_|refine cC ?_ ?_)<;>intro hb11
 · first
   |exact Bool.noConfusion hb11
   | (
    obtain ⟨x,hx⟩:=ζm (show i<l.length by omega)
    have e1:=Zaf (f:=pInt) hx
    have hin:=hin x (List.mem_of_getElem? hx)
    obtain ⟨j,rfl⟩:∃j:Nat,x=(j:Int):=⟨x.toNat,by omega⟩
    obtain ⟨s,hs⟩:=ζm (show j<acts.length by omega)
    have e2:=Zaf (f:=ZaS) hs
    have hlen:(nmI acts (l.take i)).length≤1000000:=by rw [Zys,List.length_take];omega
    have hsn:nmI acts (l.take (i+1))=nmI acts (l.take i)++[s]:=by
     rw [ZvL acts hx]
     show _++[(acts[j]?).getD ByteArray.empty]=_
     rw [hs];rfl
    refine nav ?_
    (refine ζa ?_<;>refine xL 12 (ζJ Zl2) ?_<;>(refine yL 13 (Za3 Zkg) fun v13 h=>?_;cases h)<;>refine xL 7 ζc ?_<;>refine ζb (nav ?_)<;>try dsimp only)
    (refine ζa ?_<;>refine xL 14 ζd ?_<;>refine xL 15 ζd ?_<;>refine xL 16 ζd ?_<;>refine xL 17 (ζJ ZhX) ?_<;>(refine yL 18 (Za3 Zpm) fun v18 h=>?_;cases h)<;>refine ζI (kk:=1) 19 Zl1 fun h19 ho19=>?_<;>refine ζY 200 19 20 Zl1 fun h20 ho20=>?_<;>refine xL 5 ζc ?_<;>refine ζb (nav ?_)<;>try dsimp only)
    (refine ζa ?_<;>refine xL 21 ζM ?_<;>refine xL 10 ζd ?_<;>refine ζb (nav ?_)<;>try dsimp only)
    refine ZbJ (ζD (l:=20) 200 rfl rfl) fun _=>?_
    rw [show (nmI acts (l.take i)).map ZaS++[_]=(nmI acts (l.take (i+1))).map ZaS from (by rw [hsn,List.map_append];rfl),show (nmI acts (l.take i)).length+1=(nmI acts (l.take (i+1))).length by rw [hsn];simp]
    refine ζl (
     ⟨(i+1,h20),ζe hx,ho20⟩
     ) (by dsimp only;omega) ⟨rfl,rfl,rfl,rfl,rfl,rfl,trivial⟩ ⟨rfl,trivial⟩)
 · first
   |exact Bool.noConfusion hb11
   | (
    refine nav ?_
    rw [List.take_of_length_le (show l.length≤i by omega)]
    refine ζv (En.freeze (l:=200) (t:=5) rfl rfl) fun _=>?_
    rw [ZpW]
    (refine ζa ?_<;>refine xL 22 ζd ?_<;>refine xL 4 ζc ?_<;>refine ζb (nav ?_)<;>try dsimp only)
    exact ζt Tryz.results53 rfl rfl)
theorem Zns (acts:List ByteArray) (a:ByteArray) {p0 p1 p2 p3 p4:PV} {E:Int} (r5:R5 p0 p1 p2 p3 p4) (hm:AF Tryz.prog 84 [ζW (Zf0 acts.length (Zaz acts a))] (· = .tup [.agg [p0,p1,p2,p3,p4],pInt E])):AF Tryz.prog 51 [.agg [pInt 1,ZaS a,ZbT []],Zao acts] (· = .tup [.agg [p0,p1,p2,p3,p4],pInt E]):=by
 obtain ⟨o0,o1,o2,o3,o4⟩:=r5.o
 refine AF.of_body 130 Tryz.func51 rfl Tryz.ntmps51 (Nat.le_of_ble_eq_true rfl) ?_
 intro w0 M0 vs hl hv
 obtain ⟨v0,v1,rfl⟩:=Zb3 hl
 clear hl hv
 refine nav ?_
 (refine ζa ?_<;>refine ζE 2 3 fun h2=>?_<;>refine ζr [(.int .i64 0),(.int .i64 0),(.slice none 0 0),(.slice none 0 0),(.slice none 0 0)] 5 4 Zl4 fun h4=>?_<;>refine xL 5 ζc ?_<;>refine ζb (nav ?_)<;>try dsimp only)
 (refine ζa ?_<;>refine xL 18 (ζh 2 ZhW) ?_<;>(refine yL 19 (ζs 2 Zkg) fun v19 h=>?_;cases h)<;>refine ζb (nav ?_)<;>try dsimp only)
 (refine ζa ?_<;>refine xL 21 Zag ?_<;>refine xL 20 ζc ?_<;>refine ζb (nav ?_)<;>try dsimp only)
 (first|refine cCd ?_ ?_|refine cC ?_ ?_)<;>intro hb20
 · refine nav ?_
   (refine ζa ?_<;>refine xL 22 ζd ?_<;>refine xL 23 (ζV ZhX) ?_<;>(refine ζI (kk:=1) 24 Zfu fun h24 ho24=>?_;refine ζq (En.freeze (l:=24) (t:=24) rfl rfl) fun _=>?_;refine ζq (ZbN (t:=24) (p':=pInts [0]) rfl rfl) fun _=>?_)<;>(refine ζI (kk:=1) 25 Zfu fun h25 ho25=>?_;refine ζq (En.freeze (l:=25) (t:=25) rfl rfl) fun _=>?_;refine ζq (ZbN (t:=25) (p':=pInts [1]) rfl rfl) fun _=>?_)<;>refine xL 26 ζd ?_<;>refine xL 27 (ζh 2 Znr) ?_<;>(refine yL 28 (ζs 2 Zpm) fun v28 h=>?_;cases h)<;>(refine cS 29 (cA Tryz.call67 (ZhY acts a)) fun v29 h=>?_;cases h)<;>refine xL 30 (ζB Ztr) ?_<;>(refine Zar 31 Ztq fun h31 ho31=>?_;refine ζq (En.freeze (l:=31) (t:=31) rfl rfl) fun _=>?_;refine ζq (ZbN (t:=31) (p':=pMvs [⟨0,1,Zaz acts a⟩]) rfl rfl) fun _=>?_)<;>refine xL 32 (ζB Zl3) ?_<;>(refine cP 33 (cA (Tryz.call84) hm) (fun va33 vb33 hva33 hvb33=>?_) (hsh:=r5.t E);cases hvb33)<;>refine xL 34 ζf ?_<;>refine xL 35 ζf ?_<;>refine ζC 4 Zi1 ?_<;>refine xL 5 ζc ?_<;>refine ζb (nav ?_)<;>try dsimp only)
   exact ζ6 (k:=5) 4 (by kernel_rfl) (Tryz.results51) rfl rfl rfl (Nat.le_of_ble_eq_true rfl) (by decide) r5.s rfl
 · exact absurd rfl hb20
theorem Znt (acts:List ByteArray) (a:ByteArray) {p0 p1 p2 p3 p4:PV} {E:Int} (r5:R5 p0 p1 p2 p3 p4) (hm:AF Tryz.prog 84 [ζW (Zqr acts.length)] (· = .tup [.agg [p0,p1,p2,p3,p4],pInt E])):AF Tryz.prog 51 [.agg [pInt 2,ZaS a,ZbT []],Zao acts] (· = .tup [.agg [p0,p1,p2,p3,p4],pInt E]):=by
 obtain ⟨o0,o1,o2,o3,o4⟩:=r5.o
 refine AF.of_body 130 Tryz.func51 rfl Tryz.ntmps51 (Nat.le_of_ble_eq_true rfl) ?_
 intro w0 M0 vs hl hv
 obtain ⟨v0,v1,rfl⟩:=Zb3 hl
 clear hl hv
 refine nav ?_
 (refine ζa ?_<;>refine ζE 2 3 fun h2=>?_<;>refine ζr [(.int .i64 0),(.int .i64 0),(.slice none 0 0),(.slice none 0 0),(.slice none 0 0)] 5 4 Zl4 fun h4=>?_<;>refine xL 5 ζc ?_<;>refine ζb (nav ?_)<;>try dsimp only)
 (refine ζa ?_<;>refine xL 18 (ζh 2 ZhW) ?_<;>(refine yL 19 (ζs 2 Zkg) fun v19 h=>?_;cases h)<;>refine ζb (nav ?_)<;>try dsimp only)
 (refine ζa ?_<;>refine xL 21 Zag ?_<;>refine xL 20 ζc ?_<;>refine ζb (nav ?_)<;>try dsimp only)
 (first|refine cCd ?_ ?_|refine cC ?_ ?_)<;>intro hb20
 · exact absurd hb20 (by decide)
 · refine nav ?_
   (refine ζa ?_<;>refine xL 37 Zag ?_<;>refine xL 36 ζc ?_<;>refine ζb (nav ?_)<;>try dsimp only)
   (first|refine cCd ?_ ?_|refine cC ?_ ?_)<;>intro hb36
   · refine nav ?_
     (refine ζa ?_<;>refine xL 38 ζd ?_<;>refine xL 39 (ζV ZhX) ?_<;>(refine ζI (kk:=1) 40 Zfu fun h40 ho40=>?_;refine ζq (En.freeze (l:=40) (t:=40) rfl rfl) fun _=>?_;refine ζq (ZbN (t:=40) (p':=pInts [0]) rfl rfl) fun _=>?_)<;>(refine ζI (kk:=1) 41 Zfu fun h41 ho41=>?_;refine ζq (En.freeze (l:=41) (t:=41) rfl rfl) fun _=>?_;refine ζq (ZbN (t:=41) (p':=pInts [0]) rfl rfl) fun _=>?_)<;>(refine xL 42 (ζB Zl3) ?_;refine ζq (Zzu (t:=42) (p':=ζW (Zqr acts.length)) rfl (Zyr acts.length)) fun _=>?_)<;>(refine cP 43 (cA (Tryz.call84) hm) (fun va43 vb43 hva43 hvb43=>?_) (hsh:=r5.t E);cases hvb43)<;>refine xL 44 ζf ?_<;>refine xL 45 ζf ?_<;>refine ζC 4 Zi1 ?_<;>refine xL 5 ζc ?_<;>refine ζb (nav ?_)<;>try dsimp only)
     exact ζ6 (k:=5) 4 (by kernel_rfl) (Tryz.results51) rfl rfl rfl (Nat.le_of_ble_eq_true rfl) (by decide) r5.s rfl
   · exact absurd rfl hb36
theorem ZvM {α:Type} {p:α→Bool} {l:List α} {k:Nat} {x:α} (h:l[k]? =some x):(l.take (k+1)).any p=((l.take k).any p||p x):=by
 rw [ζH h,List.any_append,List.any_cons,List.any_nil,Bool.or_false]
theorem Zpn {o:Int} {a:ByteArray} {l:List Nd} (hr:rightT (.mk o a l)=true) (h:o=1):Za5 (.mk o a l)=[a]:=by
 subst h
 unfold rightT at hr
 simp [Nd.op,Nd.l] at hr
 rw [Za5,if_pos rfl,hr.1];rfl
theorem ZaE:AggT Tryz.prog 24 3=true:=by kernel_rfl
theorem ζu:AggT Tryz.prog 39 5=true:=by kernel_rfl
theorem ZbD:ElT Tryz.prog 122 39 5 88 (.agg #[(.int .i64 0),(.int .i64 0),(.slice none 0 0),(.slice none 0 0),(.slice none 0 0)]):=⟨Tryz.underlying122,by kernel_rfl,rfl,by decide⟩
theorem ZaA:FldT Tryz.prog 24 0 0=true:=by kernel_rfl
theorem ZdB:FldT Tryz.prog 24 2 2=true:=by kernel_rfl
theorem Zfv:NoAgg Tryz.prog 22=true:=by kernel_rfl
theorem ZbR:NoAgg Tryz.prog 3=true:=by kernel_rfl
theorem Zan:SlT Tryz.prog 122 39 5=true:=by kernel_rfl
theorem Zca:SlT Tryz.prog 22 24 3=true:=by kernel_rfl
theorem ZbS:Zbj Tryz.prog 39=some ((.agg #[(.int .i64 0),(.int .i64 0),(.slice none 0 0),(.slice none 0 0),(.slice none 0 0)]),([0,1,2,3,4]:List Nat).map fun o=>(o,1)):=by kernel_rfl
theorem Zfw:ZeroT Tryz.prog 24 (.agg #[(.int .i64 0),(.string ByteArray.empty),(.slice none 0 0)]):=by unfold ZeroT;kernel_rfl
theorem Zat:ZeroT Tryz.prog 39 (.agg #[(.int .i64 0),(.int .i64 0),(.slice none 0 0),(.slice none 0 0),(.slice none 0 0)]):=by unfold ZeroT;kernel_rfl
structure PtsOk (acts:List ByteArray) (l:List Nd) (i:Nat) (Ps:List Aut):Prop where
 le:i≤l.length
 eq:(l.take i).map (bldT acts)=Ps.map some
 ok:∀A∈Ps,IsMin A∧A.syms=acts.length
theorem PtsOk.len {acts:List ByteArray} {l:List Nd} {i:Nat} {Ps:List Aut} (h:PtsOk acts l i Ps):Ps.length=i:=by
 have:=congrArg List.length h.eq
 rw [List.length_map,List.length_map,List.length_take] at this
 have:=h.le;omega
theorem PtsOk.next {acts:List ByteArray} {l:List Nd} {i:Nat} {Ps:List Aut} {x:Nd} {A:Aut} (h:PtsOk acts l i Ps) (hx:l[i]? =some x) (hA:bldT acts x=some A) (hb:BldOk acts.length (bldT acts x)):PtsOk acts l (i+1) (Ps++[A]):=
 ⟨ζe hx,by rw [ζH hx,List.map_append,List.map_append,h.eq,List.map_singleton,List.map_singleton,hA],fun B hB=>by
  rcases List.mem_append.1 hB with h1|h1
  · exact h.ok B h1
  · rw [List.mem_singleton.1 h1];exact hb A hA⟩
theorem PtsOk.all {acts:List ByteArray} {l:List Nd} {i:Nat} {Ps:List Aut} (h:PtsOk acts l i Ps) (hi:l.length≤i):l.map (bldT acts)=Ps.map some∧Ps.length=l.length:=by
 have h1:=h.eq
 rw [List.take_of_length_le hi] at h1
 exact ⟨h1,by have:=congrArg List.length h1;simpa using this.symm⟩
theorem Znu {acts:List ByteArray} {a b:Aut} (o:Int) (ha:IsMin a∧a.syms=acts.length) (hb:IsMin b∧b.syms=acts.length):Zcf o a b=lim (okO (Zcf o a b)):=(Zfs o ha.1 hb.1 ha.2 hb.2).lim
theorem ZvN {acts:List ByteArray} {a b C:Aut} (o:Int) (ha:IsMin a∧a.syms=acts.length) (hb:IsMin b∧b.syms=acts.length) (h:okO (Zcf o a b)=some C):IsMin C∧C.syms=acts.length:=((Zfs o ha.1 hb.1 ha.2 hb.2).ok h).2
theorem Zts {o:Int} {m n:List (Option Aut)} (h:m≠[]) (hn:foldX o m=none):foldX o (m++n)=none:=by
 cases m with
 |nil=>exact absurd rfl h
 | cons y m=>
   rw [List.cons_append]
   show (m++n).foldl (Zd8 o) y=none
   rw [List.foldl_append,show m.foldl (Zd8 o) y=none from hn,ZhL]
structure FldOk (acts:List ByteArray) (o:Int) (A0:Aut) (Qs:List Aut) (j:Nat) (R:Aut):Prop where
 le:j≤Qs.length
 eq:foldX o ((A0::Qs.take j).map some)=some R
 ok:IsMin R∧R.syms=acts.length
theorem FldOk.step {acts:List ByteArray} {o:Int} {A0 R B:Aut} {Qs:List Aut} {j:Nat} (h:FldOk acts o A0 Qs j R) (hB:Qs[j]? =some B):foldX o ((A0::Qs.take (j+1)).map some)=okO (Zcf o R B):=by
 rw [ζH hB,←List.cons_append,List.map_append,List.map_singleton,Zqt (by simp),h.eq];rfl
theorem FldOk.next {acts:List ByteArray} {o:Int} {A0 R B C:Aut} {Qs:List Aut} {j:Nat} (h:FldOk acts o A0 Qs j R) (hB:Qs[j]? =some B) (hb:IsMin B∧B.syms=acts.length) (hC:okO (Zcf o R B)=some C):FldOk acts o A0 Qs (j+1) C:=
 ⟨ζe hB,by rw [h.step hB,hC],ZvN o h.ok hb hC⟩
theorem FldOk.none {acts:List ByteArray} {o:Int} {A0 R B:Aut} {Qs:List Aut} {j:Nat} (h:FldOk acts o A0 Qs j R) (hB:Qs[j]? =some B) (hC:okO (Zcf o R B)=Option.none):foldX o ((A0::Qs).map some)=Option.none:=by
 have h1:=h.step hB
 rw [hC] at h1
 have:=Zts (n:=(Qs.drop (j+1)).map some) (by simp) h1
 rw [←List.map_append,List.cons_append,List.take_append_drop] at this
 exact this
theorem FldOk.all {acts:List ByteArray} {o:Int} {A0 R:Aut} {Qs:List Aut} {j:Nat} (h:FldOk acts o A0 Qs j R) (hj:Qs.length≤j):foldX o ((A0::Qs).map some)=some R:=by
 have:=h.eq
 rwa [List.take_of_length_le hj] at this
theorem ZhZ (A:Aut) (Qs:List Aut):PV.sl ((A::Qs).length-1) ((((A::Qs).flatMap ZeN).drop (1*5)).take (((A::Qs).length-1)*5))= .sl Qs.length (Qs.flatMap ZeN):=by
 have h:((A::Qs).flatMap ZeN).drop (1*5)=Qs.flatMap ZeN:=rfl
 rw [h,List.length_cons,Nat.add_sub_cancel,List.take_of_length_le (by rw [flat_len ZbQ];exact Nat.le_refl _)]
set_option maxHeartbeats 4000000 in
theorem Znv (acts : List ByteArray) (a:ByteArray) (x0:Nd) (l0 l:List Nd) (hl0:l=x0::l0) (hl:l.length≤1000000) (ih:∀x∈l,AF Tryz.prog 51 [pTr x,Zao acts] (· =resW (lim (bldT acts x)))) (hb:∀x∈l,BldOk acts.length (bldT acts x)):AF Tryz.prog 51 [.agg [pInt 3,ZaS a,ZbT l],Zao acts] (· =resW (lim (foldX 3 (l.map (bldT acts))))):=by
 have hlen0:l.length=l0.length+1:=by rw [hl0];rfl
 refine AF.of_body 130 Tryz.func51 rfl Tryz.ntmps51 (Nat.le_of_ble_eq_true rfl) ?_
 intro w0 M0 vs hl hv
 obtain ⟨v0,v1,rfl⟩:=Zb3 hl
 clear hl hv
 refine nav ?_
 (refine ζa ?_<;>refine ζE 2 3 fun h2=>?_<;>refine ζr [(.int .i64 0),(.int .i64 0),(.slice none 0 0),(.slice none 0 0),(.slice none 0 0)] 5 4 Zat fun h4=>?_<;>refine xL 5 ζc ?_<;>refine ζb (nav ?_)<;>try dsimp only)
 (refine ζa ?_<;>refine xL 18 (ζh 2 ZaA) ?_<;>(refine yL 19 (ζs 2 ZbR) fun v19 h=>?_;cases h)<;>refine ζb (nav ?_)<;>try dsimp only)
 (refine ζa ?_<;>refine xL 21 Zag ?_<;>refine xL 20 ζc ?_<;>refine ζb (nav ?_)<;>try dsimp only)
 (first|refine cCd ?_ ?_|refine cC ?_ ?_)<;>intro hb20
 · exact absurd hb20 (by decide)
 · refine nav ?_
   (refine ζa ?_<;>refine xL 37 Zag ?_<;>refine xL 36 ζc ?_<;>refine ζb (nav ?_)<;>try dsimp only)
   (first|refine cCd ?_ ?_|refine cC ?_ ?_)<;>intro hb36
   · exact absurd hb36 (by decide)
   · refine nav ?_
     (refine ζa ?_<;>refine xL 6 ζc ?_<;>refine ζb (nav ?_)<;>try dsimp only)
     (refine ζa ?_<;>refine xL 46 (ζh 2 ZdB) ?_<;>(refine yL 47 (ζs 2 Zfv) fun v47 h=>?_;cases h)<;>refine xL 48 (ζV Zca) ?_<;>refine xL 49 ζd ?_<;>refine ζb (nav ?_)<;>try dsimp only)
     refine ζv (Zb2 200 39 5 rfl) fun _=>?_
     refine ζy (ι:={q:Nat×Value×List Aut//PtsOk acts l q.1 q.2.2∧q.2.1.oneCell'=true}) (fun k=>⟨[(1,_,_),(2,_,_),(4,_,_),(5,_,_),(47,_,_),(48,_,_),(6,k.1.2.1, .val k.1.2.1),(49, .int .i64 k.1.1,pInt k.1.1)],[(2,_,_),(4,_,_),(200,k.1.2.1, .own 39 5 k.1.2.2.length (k.1.2.2.flatMap ZeN))]⟩) (fun k=>l.length-k.1.1) ⟨(0, .slice none 0 0,[]),⟨Nat.zero_le _,rfl,fun _ h=>(by cases h)⟩,rfl⟩ (fun a w H=>H.weaken ⟨rfl,rfl,rfl,rfl,rfl,rfl,rfl,rfl,trivial⟩ ⟨rfl,rfl,rfl,trivial⟩) ?_
     rintro ⟨⟨i,hv,Ps⟩,hP,ho⟩
     dsimp only
     dsimp only at hP ho
     have hPl:=hP.len
     have hPi:=hP.le
     have hPc:(Ps.flatMap ZeN).length=Ps.length*5:=flat_len ZbQ Ps
     refine nav ?_
     (refine ζa ?_<;>refine xL 50 ζS ?_<;>refine ζb (nav ?_)<;>try dsimp only)
     (first|refine cCd ?_ ?_|refine cC ?_ ?_)<;>intro hb50
     · first
       |exact Bool.noConfusion hb50
       | (
        obtain ⟨x,hx⟩:=ζm (show i<l.length by omega)
        have e1:((Zjh l).drop (i*3)).take 3=[pInt x.op,ZaS x.act,ZbT x.l]:=ZbX hx
        have e2:=Zc4 hx
        obtain ⟨p0,p1,p2,p3,p4,E,r5,hres,hc⟩:=ZqC (bldT acts x)
        have hxa:=ih x (List.mem_of_getElem? hx)
        rw [hres] at hxa
        obtain ⟨o0,o1,o2,o3,o4⟩:=r5.o
        refine nav ?_
        (refine ζa ?_<;>refine xL 51 (ζJ Zca) ?_<;>(refine yL 52 (Zbm ZaE) fun v52 h=>?_;cases h)<;>refine ζr [(.int .i64 0),(.string ByteArray.empty),(.slice none 0 0)] 3 8 Zfw fun h8=>?_<;>refine ζC 8 ZaE ?_<;>refine ζb (nav ?_)<;>try dsimp only)
        (refine ζa ?_<;>(refine yL 54 (ζp 8 ZaE) fun v54 h=>?_;cases h)<;>refine xL 55 ζd ?_<;>(refine cP 56 (cA (Tryz.call51) hxa) (fun va56 vb56 hva56 hvb56=>?_) (hsh:=r5.t E);cases hvb56)<;>refine xL 53 ζd ?_<;>refine xL 57 ζf ?_<;>refine xL 58 ζf ?_<;>refine ζr [(.int .i64 0),(.int .i64 0),(.slice none 0 0),(.slice none 0 0),(.slice none 0 0)] 5 9 Zat fun h9=>?_<;>refine ζC 9 ζu ?_<;>refine xL 10 ζc ?_<;>refine ζb (nav ?_)<;>try dsimp only)
        (refine ζa ?_<;>refine xL 59 ζd ?_<;>refine xL 60 ZaD ?_<;>refine ζb (nav ?_)<;>try dsimp only)
        (first|refine cCd ?_ ?_|refine cC ?_ ?_)<;>intro hb60
        · first
          |exact Bool.noConfusion hb60
          | (
           have hn:bldT acts x=none∧E=13:=by
            rcases hc with h|⟨A,_,h,_⟩
            · exact h
            · exact absurd h (by simpa using hb60)
           obtain ⟨hn,rfl⟩:=hn
           have hF:foldX 3 (l.map (bldT acts))=none:=Zfp (List.mem_map.2 ⟨x,List.mem_of_getElem? hx,hn⟩)
           rw [hF]
           refine nav ?_
           (refine ζa ?_<;>refine xL 61 (ζB ZbS) ?_<;>refine xL 62 ζd ?_<;>refine ζC 4 ζu ?_<;>refine xL 5 ζc ?_<;>refine ζb (nav ?_)<;>try dsimp only)
           exact ζ6 (k:=5) 4 (by kernel_rfl) (Tryz.results51) rfl rfl rfl (Nat.le_of_ble_eq_true rfl) (by decide) rfl rfl)
        · first
          |exact Bool.noConfusion hb60
          | (
           have hA:∃A,bldT acts x=some A∧E=0∧p0=pInt A.n∧p1=pInt A.syms∧p2=pInts A.start∧p3=pInts A.fin∧p4=pMvs A.moves:=by
            rcases hc with ⟨_,h⟩|h
            · exact absurd h (by simp at hb60;omega)
            · exact h
           clear hc
           obtain ⟨A,hA,rfl,rfl,rfl,rfl,rfl,rfl⟩:=hA
           have hnx:=hP.next hx hA (hb x (List.mem_of_getElem? hx))
           refine nav ?_
           (refine ζa ?_<;>refine xL 63 ζd ?_<;>(refine yL 64 (ζp 9 ζu) fun v64 h=>?_;cases h)<;>refine Zar 65 ZbD fun h65 ho65=>?_<;>(refine ζY 200 65 66 ZbD fun h66 ho66=>?_;refine ζq (ζD (l:=66) 200 rfl rfl) fun _=>?_;refine ζq (ζN (l:=200) rfl (ZgH _ Ps A)) fun _=>?_)<;>refine xL 6 ζc ?_<;>refine ζb (nav ?_)<;>try dsimp only)
           (refine ζa ?_<;>refine xL 67 ζM ?_<;>refine xL 49 ζd ?_<;>refine ζb (nav ?_)<;>try dsimp only)
           refine ζl (
            ⟨(i+1,h66,Ps++[A]),hnx,ho66⟩
            ) (by dsimp only;omega) ⟨rfl,rfl,rfl,rfl,rfl,rfl,rfl,rfl,trivial⟩ ⟨rfl,rfl,rfl,trivial⟩))
     · first
       |exact Bool.noConfusion hb50
       | (
        obtain ⟨hall,hPll⟩:=hP.all (show l.length≤i by omega)
        have hok:=hP.ok
        rw [hall]
        obtain ⟨A0,Qs,rfl⟩:∃A0 Qs,Ps=A0::Qs:=by
         cases Ps with
         |nil=>rw [List.length_nil] at hPll;omega
         |cons y m=>exact ⟨y,m,rfl⟩
        refine ζv (En.freeze (l:=200) (t:=6) rfl rfl) fun _=>?_
        rw [ZeC _ _ _ rfl]
        have e3:(((A0::Qs).flatMap ZeN).drop (0*5)).take 5=[pInt A0.n,pInt A0.syms,pInts A0.start,pInts A0.fin,pMvs A0.moves]:=rfl
        have e4:0*5+5≤((A0::Qs).flatMap ZeN).length:=by rw [hPc,List.length_cons];omega
        have hQl:0<(A0::Qs).length:=Nat.zero_lt_succ _
        have hQb:Qs.length≤1000000:=by rw [List.length_cons] at hPll;omega
        refine nav ?_
        (refine ζa ?_<;>refine xL 68 (ζh 2 ZaA) ?_<;>(refine yL 69 (ζs 2 ZbR) fun v69 h=>?_;cases h)<;>refine xL 70 Zag ?_<;>refine ζb (nav ?_)<;>try dsimp only)
        (first|refine cCd ?_ ?_|refine cC ?_ ?_)<;>intro hb70
        · exact absurd hb70 (by decide)
        · refine nav ?_
          (refine ζa ?_<;>refine xL 13 ζc ?_<;>refine ζb (nav ?_)<;>try dsimp only)
          (refine ζa ?_<;>refine xL 101 (ζh 2 ZaA) ?_<;>(refine yL 102 (ζs 2 ZbR) fun v102 h=>?_;cases h)<;>refine ζb (nav ?_)<;>try dsimp only)
          (refine ζa ?_<;>refine xL 104 Zag ?_<;>refine xL 103 ζc ?_<;>refine ζb (nav ?_)<;>try dsimp only)
          (first|refine cCd ?_ ?_|refine cC ?_ ?_)<;>intro hb103
          · try (exact absurd hb103 (by decide))
          · try (exact absurd rfl hb103)
            refine nav ?_
            (refine ζa ?_<;>refine xL 106 Zag ?_<;>refine xL 105 ζc ?_<;>refine ζb (nav ?_)<;>try dsimp only)
            (first|refine cCd ?_ ?_|refine cC ?_ ?_)<;>intro hb105
            · try (exact absurd hb105 (by decide))
            · try (exact absurd rfl hb105)
              refine nav ?_
              (refine ζa ?_<;>refine xL 107 ζd ?_<;>refine xL 108 (ζJ Zan) ?_<;>(refine yL 109 (Zbm ζu) fun v109 h=>?_;cases h)<;>refine ζr [(.int .i64 0),(.int .i64 0),(.slice none 0 0),(.slice none 0 0),(.slice none 0 0)] 5 14 Zat fun h14=>?_<;>refine ζC 14 ζu ?_<;>refine ζb (nav ?_)<;>try dsimp only)
              (refine ζa ?_<;>refine xL 110 ζd ?_<;>refine xL 111 (ZgL (i:=1) (j:=(A0::Qs).length) Zan rfl rfl rfl rfl (Nat.succ_le_of_lt hQl) (Nat.le_refl _) hPc) ?_<;>(refine ζq (ZbN (t:=111) (p':= .sl Qs.length (Qs.flatMap ZeN)) rfl (ZhZ A0 Qs)) fun _=>?_;refine xL 112 (ζV Zan) ?_)<;>refine xL 113 ζd ?_<;>refine ζb (nav ?_)<;>try dsimp only)
              refine ζy (ι:={q:Nat×Aut//FldOk acts 3 A0 Qs q.1 q.2}) (fun k=>⟨[(2,_,_),(4,_,_),(13,_,_),(111,_,_),(112,_,_),(14,_,_),(113, .int .i64 k.1.1,pInt k.1.1)],[(2,_,_),(4,_,_),(14,h14, .own 39 5 1 (ZeN k.1.2))]⟩) (fun k=>Qs.length-k.1.1) ⟨(0,A0),Nat.zero_le _,rfl,hok A0 (List.mem_cons_self ..)⟩ (fun a w H=>H.weaken ⟨rfl,rfl,rfl,rfl,rfl,rfl,rfl,trivial⟩ ⟨rfl,rfl,rfl,trivial⟩) ?_
              rintro ⟨⟨j,R⟩,hF⟩
              dsimp only
              dsimp only at hF
              have hFj:=hF.le
              refine nav ?_
              (refine ζa ?_<;>refine xL 114 ζS ?_<;>refine ζb (nav ?_)<;>try dsimp only)
              (first|refine cCd ?_ ?_|refine cC ?_ ?_)<;>intro hb114
              · first
                |exact Bool.noConfusion hb114
                | (
                 obtain ⟨B,hB⟩:=ζm (show j<Qs.length by omega)
                 have e5:=ζ8 ZbQ Qs j B hB
                 have e6:=Zaq ZbQ hB
                 have hBm:=hok B (List.mem_cons_of_mem _ (List.mem_of_getElem? hB))
                 obtain ⟨p0,p1,p2,p3,p4,E,r5,hres,hc⟩:=ZqC (okO (Zcf 3 R B))
                 have hj:AF Tryz.prog 87 [ζW R,ζW B] (· =resW (Zcf 3 R B)):=ZhV R B
                 rw [Znu 3 hF.ok hBm,hres] at hj
                 obtain ⟨o0,o1,o2,o3,o4⟩:=r5.o
                 refine nav ?_
                 (refine ζa ?_<;>refine xL 115 (ζJ Zan) ?_<;>(refine yL 116 (Zbm ζu) fun v116 h=>?_;cases h)<;>refine ζr [(.int .i64 0),(.int .i64 0),(.slice none 0 0),(.slice none 0 0),(.slice none 0 0)] 5 16 Zat fun h16=>?_<;>refine ζC 16 ζu ?_<;>refine ζb (nav ?_)<;>try dsimp only)
                 (refine ζa ?_<;>refine xL 17 ζc ?_<;>refine ζb (nav ?_)<;>try dsimp only)
                 (refine ζa ?_<;>refine xL 118 ζd ?_<;>(refine yL 119 (ζp 14 ζu) fun v119 h=>?_;cases h)<;>(refine yL 120 (ζp 16 ζu) fun v120 h=>?_;cases h)<;>(refine cP 121 (ZcY (f:=87) (ps:=[]) rfl ⟨_,rfl⟩ (Tryz.call87) rfl hj) (fun va121 vb121 hva121 hvb121=>?_) (hsh:=r5.t E);cases hvb121)<;>refine xL 117 ζd ?_<;>refine xL 122 ζf ?_<;>refine xL 123 ζf ?_<;>refine ζC 14 ζu ?_<;>refine xL 17 ζc ?_<;>refine ζb (nav ?_)<;>try dsimp only)
                 (refine ζa ?_<;>refine xL 124 ζd ?_<;>refine xL 125 ZaD ?_<;>refine ζb (nav ?_)<;>try dsimp only)
                 (first|refine cCd ?_ ?_|refine cC ?_ ?_)<;>intro hb125
                 · first
                   |exact Bool.noConfusion hb125
                   | (
                    have hn:okO (Zcf 3 R B)=none∧E=13:=by
                     rcases hc with h|⟨A,_,h,_⟩
                     · exact h
                     · exact absurd h (by simpa using hb125)
                    obtain ⟨hn,rfl⟩:=hn
                    rw [hF.none hB hn]
                    refine nav ?_
                    (refine ζa ?_<;>refine xL 126 (ζB ZbS) ?_<;>refine xL 127 ζd ?_<;>refine ζC 4 ζu ?_<;>refine xL 5 ζc ?_<;>refine ζb (nav ?_)<;>try dsimp only)
                    exact ζ6 (k:=5) 4 (by kernel_rfl) (Tryz.results51) rfl rfl rfl (Nat.le_of_ble_eq_true rfl) (by decide) rfl rfl)
                 · first
                   |exact Bool.noConfusion hb125
                   | (
                    have hA:∃A,okO (Zcf 3 R B)=some A∧E=0∧p0=pInt A.n∧p1=pInt A.syms∧p2=pInts A.start∧p3=pInts A.fin∧p4=pMvs A.moves:=by
                     rcases hc with ⟨_,h⟩|h
                     · exact absurd h (by simp at hb125;omega)
                     · exact h
                    clear hc
                    obtain ⟨C,hC,rfl,rfl,rfl,rfl,rfl,rfl⟩:=hA
                    have hFn:=hF.next hB hBm hC
                    refine nav ?_
                    (refine ζa ?_<;>refine xL 128 ζM ?_<;>refine xL 113 ζd ?_<;>refine ζb (nav ?_)<;>try dsimp only)
                    refine ζl (
                     ⟨(j+1,C),hFn⟩
                     ) (by dsimp only;omega) ⟨rfl,rfl,rfl,rfl,rfl,rfl,rfl,trivial⟩ ⟨rfl,rfl,rfl,trivial⟩))
              · first
                |exact Bool.noConfusion hb114
                | (
                 rw [hF.all (show Qs.length≤j by omega)]
                 refine nav ?_
                 (refine ζa ?_<;>(refine yL 129 (ζp 14 ζu) fun v129 h=>?_;cases h)<;>refine ζC 4 ζu ?_<;>refine xL 5 ζc ?_<;>refine ζb (nav ?_)<;>try dsimp only)
                 exact ζ6 (k:=5) 4 (by kernel_rfl) (Tryz.results51) rfl rfl rfl (Nat.le_of_ble_eq_true rfl) (by decide) rfl rfl))
set_option maxHeartbeats 4000000 in
theorem Znw (acts : List ByteArray) (a:ByteArray) (x0:Nd) (l0 l:List Nd) (hl0:l=x0::l0) (hl:l.length≤1000000) (ih:∀x∈l,AF Tryz.prog 51 [pTr x,Zao acts] (· =resW (lim (bldT acts x)))) (hb:∀x∈l,BldOk acts.length (bldT acts x)):AF Tryz.prog 51 [.agg [pInt 4,ZaS a,ZbT l],Zao acts] (· =resW (lim (foldX 4 (l.map (bldT acts))))):=by
 have hlen0:l.length=l0.length+1:=by rw [hl0];rfl
 refine AF.of_body 130 Tryz.func51 rfl Tryz.ntmps51 (Nat.le_of_ble_eq_true rfl) ?_
 intro w0 M0 vs hl hv
 obtain ⟨v0,v1,rfl⟩:=Zb3 hl
 clear hl hv
 refine nav ?_
 (refine ζa ?_<;>refine ζE 2 3 fun h2=>?_<;>refine ζr [(.int .i64 0),(.int .i64 0),(.slice none 0 0),(.slice none 0 0),(.slice none 0 0)] 5 4 Zat fun h4=>?_<;>refine xL 5 ζc ?_<;>refine ζb (nav ?_)<;>try dsimp only)
 (refine ζa ?_<;>refine xL 18 (ζh 2 ZaA) ?_<;>(refine yL 19 (ζs 2 ZbR) fun v19 h=>?_;cases h)<;>refine ζb (nav ?_)<;>try dsimp only)
 (refine ζa ?_<;>refine xL 21 Zag ?_<;>refine xL 20 ζc ?_<;>refine ζb (nav ?_)<;>try dsimp only)
 (first|refine cCd ?_ ?_|refine cC ?_ ?_)<;>intro hb20
 · exact absurd hb20 (by decide)
 · refine nav ?_
   (refine ζa ?_<;>refine xL 37 Zag ?_<;>refine xL 36 ζc ?_<;>refine ζb (nav ?_)<;>try dsimp only)
   (first|refine cCd ?_ ?_|refine cC ?_ ?_)<;>intro hb36
   · exact absurd hb36 (by decide)
   · refine nav ?_
     (refine ζa ?_<;>refine xL 6 ζc ?_<;>refine ζb (nav ?_)<;>try dsimp only)
     (refine ζa ?_<;>refine xL 46 (ζh 2 ZdB) ?_<;>(refine yL 47 (ζs 2 Zfv) fun v47 h=>?_;cases h)<;>refine xL 48 (ζV Zca) ?_<;>refine xL 49 ζd ?_<;>refine ζb (nav ?_)<;>try dsimp only)
     refine ζv (Zb2 200 39 5 rfl) fun _=>?_
     refine ζy (ι:={q:Nat×Value×List Aut//PtsOk acts l q.1 q.2.2∧q.2.1.oneCell'=true}) (fun k=>⟨[(1,_,_),(2,_,_),(4,_,_),(5,_,_),(47,_,_),(48,_,_),(6,k.1.2.1, .val k.1.2.1),(49, .int .i64 k.1.1,pInt k.1.1)],[(2,_,_),(4,_,_),(200,k.1.2.1, .own 39 5 k.1.2.2.length (k.1.2.2.flatMap ZeN))]⟩) (fun k=>l.length-k.1.1) ⟨(0, .slice none 0 0,[]),⟨Nat.zero_le _,rfl,fun _ h=>(by cases h)⟩,rfl⟩ (fun a w H=>H.weaken ⟨rfl,rfl,rfl,rfl,rfl,rfl,rfl,rfl,trivial⟩ ⟨rfl,rfl,rfl,trivial⟩) ?_
     rintro ⟨⟨i,hv,Ps⟩,hP,ho⟩
     dsimp only
     dsimp only at hP ho
     have hPl:=hP.len
     have hPi:=hP.le
     have hPc:(Ps.flatMap ZeN).length=Ps.length*5:=flat_len ZbQ Ps
     refine nav ?_
     (refine ζa ?_<;>refine xL 50 ζS ?_<;>refine ζb (nav ?_)<;>try dsimp only)
     (first|refine cCd ?_ ?_|refine cC ?_ ?_)<;>intro hb50
     · first
       |exact Bool.noConfusion hb50
       | (
        obtain ⟨x,hx⟩:=ζm (show i<l.length by omega)
        have e1:((Zjh l).drop (i*3)).take 3=[pInt x.op,ZaS x.act,ZbT x.l]:=ZbX hx
        have e2:=Zc4 hx
        obtain ⟨p0,p1,p2,p3,p4,E,r5,hres,hc⟩:=ZqC (bldT acts x)
        have hxa:=ih x (List.mem_of_getElem? hx)
        rw [hres] at hxa
        obtain ⟨o0,o1,o2,o3,o4⟩:=r5.o
        refine nav ?_
        (refine ζa ?_<;>refine xL 51 (ζJ Zca) ?_<;>(refine yL 52 (Zbm ZaE) fun v52 h=>?_;cases h)<;>refine ζr [(.int .i64 0),(.string ByteArray.empty),(.slice none 0 0)] 3 8 Zfw fun h8=>?_<;>refine ζC 8 ZaE ?_<;>refine ζb (nav ?_)<;>try dsimp only)
        (refine ζa ?_<;>(refine yL 54 (ζp 8 ZaE) fun v54 h=>?_;cases h)<;>refine xL 55 ζd ?_<;>(refine cP 56 (cA (Tryz.call51) hxa) (fun va56 vb56 hva56 hvb56=>?_) (hsh:=r5.t E);cases hvb56)<;>refine xL 53 ζd ?_<;>refine xL 57 ζf ?_<;>refine xL 58 ζf ?_<;>refine ζr [(.int .i64 0),(.int .i64 0),(.slice none 0 0),(.slice none 0 0),(.slice none 0 0)] 5 9 Zat fun h9=>?_<;>refine ζC 9 ζu ?_<;>refine xL 10 ζc ?_<;>refine ζb (nav ?_)<;>try dsimp only)
        (refine ζa ?_<;>refine xL 59 ζd ?_<;>refine xL 60 ZaD ?_<;>refine ζb (nav ?_)<;>try dsimp only)
        (first|refine cCd ?_ ?_|refine cC ?_ ?_)<;>intro hb60
        · first
          |exact Bool.noConfusion hb60
          | (
           have hn:bldT acts x=none∧E=13:=by
            rcases hc with h|⟨A,_,h,_⟩
            · exact h
            · exact absurd h (by simpa using hb60)
           obtain ⟨hn,rfl⟩:=hn
           have hF:foldX 4 (l.map (bldT acts))=none:=Zfp (List.mem_map.2 ⟨x,List.mem_of_getElem? hx,hn⟩)
           rw [hF]
           refine nav ?_
           (refine ζa ?_<;>refine xL 61 (ζB ZbS) ?_<;>refine xL 62 ζd ?_<;>refine ζC 4 ζu ?_<;>refine xL 5 ζc ?_<;>refine ζb (nav ?_)<;>try dsimp only)
           exact ζ6 (k:=5) 4 (by kernel_rfl) (Tryz.results51) rfl rfl rfl (Nat.le_of_ble_eq_true rfl) (by decide) rfl rfl)
        · first
          |exact Bool.noConfusion hb60
          | (
           have hA:∃A,bldT acts x=some A∧E=0∧p0=pInt A.n∧p1=pInt A.syms∧p2=pInts A.start∧p3=pInts A.fin∧p4=pMvs A.moves:=by
            rcases hc with ⟨_,h⟩|h
            · exact absurd h (by simp at hb60;omega)
            · exact h
           clear hc
           obtain ⟨A,hA,rfl,rfl,rfl,rfl,rfl,rfl⟩:=hA
           have hnx:=hP.next hx hA (hb x (List.mem_of_getElem? hx))
           refine nav ?_
           (refine ζa ?_<;>refine xL 63 ζd ?_<;>(refine yL 64 (ζp 9 ζu) fun v64 h=>?_;cases h)<;>refine Zar 65 ZbD fun h65 ho65=>?_<;>(refine ζY 200 65 66 ZbD fun h66 ho66=>?_;refine ζq (ζD (l:=66) 200 rfl rfl) fun _=>?_;refine ζq (ζN (l:=200) rfl (ZgH _ Ps A)) fun _=>?_)<;>refine xL 6 ζc ?_<;>refine ζb (nav ?_)<;>try dsimp only)
           (refine ζa ?_<;>refine xL 67 ζM ?_<;>refine xL 49 ζd ?_<;>refine ζb (nav ?_)<;>try dsimp only)
           refine ζl (
            ⟨(i+1,h66,Ps++[A]),hnx,ho66⟩
            ) (by dsimp only;omega) ⟨rfl,rfl,rfl,rfl,rfl,rfl,rfl,rfl,trivial⟩ ⟨rfl,rfl,rfl,trivial⟩))
     · first
       |exact Bool.noConfusion hb50
       | (
        obtain ⟨hall,hPll⟩:=hP.all (show l.length≤i by omega)
        have hok:=hP.ok
        rw [hall]
        obtain ⟨A0,Qs,rfl⟩:∃A0 Qs,Ps=A0::Qs:=by
         cases Ps with
         |nil=>rw [List.length_nil] at hPll;omega
         |cons y m=>exact ⟨y,m,rfl⟩
        refine ζv (En.freeze (l:=200) (t:=6) rfl rfl) fun _=>?_
        rw [ZeC _ _ _ rfl]
        have e3:(((A0::Qs).flatMap ZeN).drop (0*5)).take 5=[pInt A0.n,pInt A0.syms,pInts A0.start,pInts A0.fin,pMvs A0.moves]:=rfl
        have e4:0*5+5≤((A0::Qs).flatMap ZeN).length:=by rw [hPc,List.length_cons];omega
        have hQl:0<(A0::Qs).length:=Nat.zero_lt_succ _
        have hQb:Qs.length≤1000000:=by rw [List.length_cons] at hPll;omega
        refine nav ?_
        (refine ζa ?_<;>refine xL 68 (ζh 2 ZaA) ?_<;>(refine yL 69 (ζs 2 ZbR) fun v69 h=>?_;cases h)<;>refine xL 70 Zag ?_<;>refine ζb (nav ?_)<;>try dsimp only)
        (first|refine cCd ?_ ?_|refine cC ?_ ?_)<;>intro hb70
        · exact absurd hb70 (by decide)
        · refine nav ?_
          (refine ζa ?_<;>refine xL 13 ζc ?_<;>refine ζb (nav ?_)<;>try dsimp only)
          (refine ζa ?_<;>refine xL 101 (ζh 2 ZaA) ?_<;>(refine yL 102 (ζs 2 ZbR) fun v102 h=>?_;cases h)<;>refine ζb (nav ?_)<;>try dsimp only)
          (refine ζa ?_<;>refine xL 104 Zag ?_<;>refine xL 103 ζc ?_<;>refine ζb (nav ?_)<;>try dsimp only)
          (first|refine cCd ?_ ?_|refine cC ?_ ?_)<;>intro hb103
          · try (exact absurd hb103 (by decide))
            refine nav ?_
            (refine ζa ?_<;>refine xL 13 ζc ?_<;>refine ζb (nav ?_)<;>try dsimp only)
            (refine ζa ?_<;>refine xL 107 ζd ?_<;>refine xL 108 (ζJ Zan) ?_<;>(refine yL 109 (Zbm ζu) fun v109 h=>?_;cases h)<;>refine ζr [(.int .i64 0),(.int .i64 0),(.slice none 0 0),(.slice none 0 0),(.slice none 0 0)] 5 14 Zat fun h14=>?_<;>refine ζC 14 ζu ?_<;>refine ζb (nav ?_)<;>try dsimp only)
            (refine ζa ?_<;>refine xL 110 ζd ?_<;>refine xL 111 (ZgL (i:=1) (j:=(A0::Qs).length) Zan rfl rfl rfl rfl (Nat.succ_le_of_lt hQl) (Nat.le_refl _) hPc) ?_<;>(refine ζq (ZbN (t:=111) (p':= .sl Qs.length (Qs.flatMap ZeN)) rfl (ZhZ A0 Qs)) fun _=>?_;refine xL 112 (ζV Zan) ?_)<;>refine xL 113 ζd ?_<;>refine ζb (nav ?_)<;>try dsimp only)
            refine ζy (ι:={q:Nat×Aut//FldOk acts 4 A0 Qs q.1 q.2}) (fun k=>⟨[(2,_,_),(4,_,_),(13,_,_),(111,_,_),(112,_,_),(14,_,_),(113, .int .i64 k.1.1,pInt k.1.1)],[(2,_,_),(4,_,_),(14,h14, .own 39 5 1 (ZeN k.1.2))]⟩) (fun k=>Qs.length-k.1.1) ⟨(0,A0),Nat.zero_le _,rfl,hok A0 (List.mem_cons_self ..)⟩ (fun a w H=>H.weaken ⟨rfl,rfl,rfl,rfl,rfl,rfl,rfl,trivial⟩ ⟨rfl,rfl,rfl,trivial⟩) ?_
            rintro ⟨⟨j,R⟩,hF⟩
            dsimp only
            dsimp only at hF
            have hFj:=hF.le
            refine nav ?_
            (refine ζa ?_<;>refine xL 114 ζS ?_<;>refine ζb (nav ?_)<;>try dsimp only)
            (first|refine cCd ?_ ?_|refine cC ?_ ?_)<;>intro hb114
            · first
              |exact Bool.noConfusion hb114
              | (
               obtain ⟨B,hB⟩:=ζm (show j<Qs.length by omega)
               have e5:=ζ8 ZbQ Qs j B hB
               have e6:=Zaq ZbQ hB
               have hBm:=hok B (List.mem_cons_of_mem _ (List.mem_of_getElem? hB))
               obtain ⟨p0,p1,p2,p3,p4,E,r5,hres,hc⟩:=ZqC (okO (Zcf 4 R B))
               have hj:AF Tryz.prog 88 [ζW R,ζW B] (· =resW (Zcf 4 R B)):=ZvE R B
               rw [Znu 4 hF.ok hBm,hres] at hj
               obtain ⟨o0,o1,o2,o3,o4⟩:=r5.o
               refine nav ?_
               (refine ζa ?_<;>refine xL 115 (ζJ Zan) ?_<;>(refine yL 116 (Zbm ζu) fun v116 h=>?_;cases h)<;>refine ζr [(.int .i64 0),(.int .i64 0),(.slice none 0 0),(.slice none 0 0),(.slice none 0 0)] 5 16 Zat fun h16=>?_<;>refine ζC 16 ζu ?_<;>refine ζb (nav ?_)<;>try dsimp only)
               (refine ζa ?_<;>refine xL 17 ζc ?_<;>refine ζb (nav ?_)<;>try dsimp only)
               (refine ζa ?_<;>refine xL 118 ζd ?_<;>(refine yL 119 (ζp 14 ζu) fun v119 h=>?_;cases h)<;>(refine yL 120 (ζp 16 ζu) fun v120 h=>?_;cases h)<;>(refine cP 121 (ZcY (f:=88) (ps:=[]) rfl ⟨_,rfl⟩ (Tryz.call88) rfl hj) (fun va121 vb121 hva121 hvb121=>?_) (hsh:=r5.t E);cases hvb121)<;>refine xL 117 ζd ?_<;>refine xL 122 ζf ?_<;>refine xL 123 ζf ?_<;>refine ζC 14 ζu ?_<;>refine xL 17 ζc ?_<;>refine ζb (nav ?_)<;>try dsimp only)
               (refine ζa ?_<;>refine xL 124 ζd ?_<;>refine xL 125 ZaD ?_<;>refine ζb (nav ?_)<;>try dsimp only)
               (first|refine cCd ?_ ?_|refine cC ?_ ?_)<;>intro hb125
               · first
                 |exact Bool.noConfusion hb125
                 | (
                  have hn:okO (Zcf 4 R B)=none∧E=13:=by
                   rcases hc with h|⟨A,_,h,_⟩
                   · exact h
                   · exact absurd h (by simpa using hb125)
                  obtain ⟨hn,rfl⟩:=hn
                  rw [hF.none hB hn]
                  refine nav ?_
                  (refine ζa ?_<;>refine xL 126 (ζB ZbS) ?_<;>refine xL 127 ζd ?_<;>refine ζC 4 ζu ?_<;>refine xL 5 ζc ?_<;>refine ζb (nav ?_)<;>try dsimp only)
                  exact ζ6 (k:=5) 4 (by kernel_rfl) (Tryz.results51) rfl rfl rfl (Nat.le_of_ble_eq_true rfl) (by decide) rfl rfl)
               · first
                 |exact Bool.noConfusion hb125
                 | (
                  have hA:∃A,okO (Zcf 4 R B)=some A∧E=0∧p0=pInt A.n∧p1=pInt A.syms∧p2=pInts A.start∧p3=pInts A.fin∧p4=pMvs A.moves:=by
                   rcases hc with ⟨_,h⟩|h
                   · exact absurd h (by simp at hb125;omega)
                   · exact h
                  clear hc
                  obtain ⟨C,hC,rfl,rfl,rfl,rfl,rfl,rfl⟩:=hA
                  have hFn:=hF.next hB hBm hC
                  refine nav ?_
                  (refine ζa ?_<;>refine xL 128 ζM ?_<;>refine xL 113 ζd ?_<;>refine ζb (nav ?_)<;>try dsimp only)
                  refine ζl (
                   ⟨(j+1,C),hFn⟩
                   ) (by dsimp only;omega) ⟨rfl,rfl,rfl,rfl,rfl,rfl,rfl,trivial⟩ ⟨rfl,rfl,rfl,trivial⟩))
            · first
              |exact Bool.noConfusion hb114
              | (
               rw [hF.all (show Qs.length≤j by omega)]
               refine nav ?_
               (refine ζa ?_<;>(refine yL 129 (ζp 14 ζu) fun v129 h=>?_;cases h)<;>refine ζC 4 ζu ?_<;>refine xL 5 ζc ?_<;>refine ζb (nav ?_)<;>try dsimp only)
               exact ζ6 (k:=5) 4 (by kernel_rfl) (Tryz.results51) rfl rfl rfl (Nat.le_of_ble_eq_true rfl) (by decide) rfl rfl)
          · try (exact absurd rfl hb103))
set_option maxHeartbeats 4000000 in
theorem Znx (acts : List ByteArray) (a:ByteArray) (x0:Nd) (l0 l:List Nd) (hl0:l=x0::l0) (hl:l.length≤1000000) (ih:∀x∈l,AF Tryz.prog 51 [pTr x,Zao acts] (· =resW (lim (bldT acts x)))) (hb:∀x∈l,BldOk acts.length (bldT acts x)):AF Tryz.prog 51 [.agg [pInt 5,ZaS a,ZbT l],Zao acts] (· =resW (lim (foldX 5 (l.map (bldT acts))))):=by
 have hlen0:l.length=l0.length+1:=by rw [hl0];rfl
 refine AF.of_body 130 Tryz.func51 rfl Tryz.ntmps51 (Nat.le_of_ble_eq_true rfl) ?_
 intro w0 M0 vs hl hv
 obtain ⟨v0,v1,rfl⟩:=Zb3 hl
 clear hl hv
 refine nav ?_
 (refine ζa ?_<;>refine ζE 2 3 fun h2=>?_<;>refine ζr [(.int .i64 0),(.int .i64 0),(.slice none 0 0),(.slice none 0 0),(.slice none 0 0)] 5 4 Zat fun h4=>?_<;>refine xL 5 ζc ?_<;>refine ζb (nav ?_)<;>try dsimp only)
 (refine ζa ?_<;>refine xL 18 (ζh 2 ZaA) ?_<;>(refine yL 19 (ζs 2 ZbR) fun v19 h=>?_;cases h)<;>refine ζb (nav ?_)<;>try dsimp only)
 (refine ζa ?_<;>refine xL 21 Zag ?_<;>refine xL 20 ζc ?_<;>refine ζb (nav ?_)<;>try dsimp only)
 (first|refine cCd ?_ ?_|refine cC ?_ ?_)<;>intro hb20
 · exact absurd hb20 (by decide)
 · refine nav ?_
   (refine ζa ?_<;>refine xL 37 Zag ?_<;>refine xL 36 ζc ?_<;>refine ζb (nav ?_)<;>try dsimp only)
   (first|refine cCd ?_ ?_|refine cC ?_ ?_)<;>intro hb36
   · exact absurd hb36 (by decide)
   · refine nav ?_
     (refine ζa ?_<;>refine xL 6 ζc ?_<;>refine ζb (nav ?_)<;>try dsimp only)
     (refine ζa ?_<;>refine xL 46 (ζh 2 ZdB) ?_<;>(refine yL 47 (ζs 2 Zfv) fun v47 h=>?_;cases h)<;>refine xL 48 (ζV Zca) ?_<;>refine xL 49 ζd ?_<;>refine ζb (nav ?_)<;>try dsimp only)
     refine ζv (Zb2 200 39 5 rfl) fun _=>?_
     refine ζy (ι:={q:Nat×Value×List Aut//PtsOk acts l q.1 q.2.2∧q.2.1.oneCell'=true}) (fun k=>⟨[(1,_,_),(2,_,_),(4,_,_),(5,_,_),(47,_,_),(48,_,_),(6,k.1.2.1, .val k.1.2.1),(49, .int .i64 k.1.1,pInt k.1.1)],[(2,_,_),(4,_,_),(200,k.1.2.1, .own 39 5 k.1.2.2.length (k.1.2.2.flatMap ZeN))]⟩) (fun k=>l.length-k.1.1) ⟨(0, .slice none 0 0,[]),⟨Nat.zero_le _,rfl,fun _ h=>(by cases h)⟩,rfl⟩ (fun a w H=>H.weaken ⟨rfl,rfl,rfl,rfl,rfl,rfl,rfl,rfl,trivial⟩ ⟨rfl,rfl,rfl,trivial⟩) ?_
     rintro ⟨⟨i,hv,Ps⟩,hP,ho⟩
     dsimp only
     dsimp only at hP ho
     have hPl:=hP.len
     have hPi:=hP.le
     have hPc:(Ps.flatMap ZeN).length=Ps.length*5:=flat_len ZbQ Ps
     refine nav ?_
     (refine ζa ?_<;>refine xL 50 ζS ?_<;>refine ζb (nav ?_)<;>try dsimp only)
     (first|refine cCd ?_ ?_|refine cC ?_ ?_)<;>intro hb50
     · first
       |exact Bool.noConfusion hb50
       | (
        obtain ⟨x,hx⟩:=ζm (show i<l.length by omega)
        have e1:((Zjh l).drop (i*3)).take 3=[pInt x.op,ZaS x.act,ZbT x.l]:=ZbX hx
        have e2:=Zc4 hx
        obtain ⟨p0,p1,p2,p3,p4,E,r5,hres,hc⟩:=ZqC (bldT acts x)
        have hxa:=ih x (List.mem_of_getElem? hx)
        rw [hres] at hxa
        obtain ⟨o0,o1,o2,o3,o4⟩:=r5.o
        refine nav ?_
        (refine ζa ?_<;>refine xL 51 (ζJ Zca) ?_<;>(refine yL 52 (Zbm ZaE) fun v52 h=>?_;cases h)<;>refine ζr [(.int .i64 0),(.string ByteArray.empty),(.slice none 0 0)] 3 8 Zfw fun h8=>?_<;>refine ζC 8 ZaE ?_<;>refine ζb (nav ?_)<;>try dsimp only)
        (refine ζa ?_<;>(refine yL 54 (ζp 8 ZaE) fun v54 h=>?_;cases h)<;>refine xL 55 ζd ?_<;>(refine cP 56 (cA (Tryz.call51) hxa) (fun va56 vb56 hva56 hvb56=>?_) (hsh:=r5.t E);cases hvb56)<;>refine xL 53 ζd ?_<;>refine xL 57 ζf ?_<;>refine xL 58 ζf ?_<;>refine ζr [(.int .i64 0),(.int .i64 0),(.slice none 0 0),(.slice none 0 0),(.slice none 0 0)] 5 9 Zat fun h9=>?_<;>refine ζC 9 ζu ?_<;>refine xL 10 ζc ?_<;>refine ζb (nav ?_)<;>try dsimp only)
        (refine ζa ?_<;>refine xL 59 ζd ?_<;>refine xL 60 ZaD ?_<;>refine ζb (nav ?_)<;>try dsimp only)
        (first|refine cCd ?_ ?_|refine cC ?_ ?_)<;>intro hb60
        · first
          |exact Bool.noConfusion hb60
          | (
           have hn:bldT acts x=none∧E=13:=by
            rcases hc with h|⟨A,_,h,_⟩
            · exact h
            · exact absurd h (by simpa using hb60)
           obtain ⟨hn,rfl⟩:=hn
           have hF:foldX 5 (l.map (bldT acts))=none:=Zfp (List.mem_map.2 ⟨x,List.mem_of_getElem? hx,hn⟩)
           rw [hF]
           refine nav ?_
           (refine ζa ?_<;>refine xL 61 (ζB ZbS) ?_<;>refine xL 62 ζd ?_<;>refine ζC 4 ζu ?_<;>refine xL 5 ζc ?_<;>refine ζb (nav ?_)<;>try dsimp only)
           exact ζ6 (k:=5) 4 (by kernel_rfl) (Tryz.results51) rfl rfl rfl (Nat.le_of_ble_eq_true rfl) (by decide) rfl rfl)
        · first
          |exact Bool.noConfusion hb60
          | (
           have hA:∃A,bldT acts x=some A∧E=0∧p0=pInt A.n∧p1=pInt A.syms∧p2=pInts A.start∧p3=pInts A.fin∧p4=pMvs A.moves:=by
            rcases hc with ⟨_,h⟩|h
            · exact absurd h (by simp at hb60;omega)
            · exact h
           clear hc
           obtain ⟨A,hA,rfl,rfl,rfl,rfl,rfl,rfl⟩:=hA
           have hnx:=hP.next hx hA (hb x (List.mem_of_getElem? hx))
           refine nav ?_
           (refine ζa ?_<;>refine xL 63 ζd ?_<;>(refine yL 64 (ζp 9 ζu) fun v64 h=>?_;cases h)<;>refine Zar 65 ZbD fun h65 ho65=>?_<;>(refine ζY 200 65 66 ZbD fun h66 ho66=>?_;refine ζq (ζD (l:=66) 200 rfl rfl) fun _=>?_;refine ζq (ζN (l:=200) rfl (ZgH _ Ps A)) fun _=>?_)<;>refine xL 6 ζc ?_<;>refine ζb (nav ?_)<;>try dsimp only)
           (refine ζa ?_<;>refine xL 67 ζM ?_<;>refine xL 49 ζd ?_<;>refine ζb (nav ?_)<;>try dsimp only)
           refine ζl (
            ⟨(i+1,h66,Ps++[A]),hnx,ho66⟩
            ) (by dsimp only;omega) ⟨rfl,rfl,rfl,rfl,rfl,rfl,rfl,rfl,trivial⟩ ⟨rfl,rfl,rfl,trivial⟩))
     · first
       |exact Bool.noConfusion hb50
       | (
        obtain ⟨hall,hPll⟩:=hP.all (show l.length≤i by omega)
        have hok:=hP.ok
        rw [hall]
        obtain ⟨A0,Qs,rfl⟩:∃A0 Qs,Ps=A0::Qs:=by
         cases Ps with
         |nil=>rw [List.length_nil] at hPll;omega
         |cons y m=>exact ⟨y,m,rfl⟩
        refine ζv (En.freeze (l:=200) (t:=6) rfl rfl) fun _=>?_
        rw [ZeC _ _ _ rfl]
        have e3:(((A0::Qs).flatMap ZeN).drop (0*5)).take 5=[pInt A0.n,pInt A0.syms,pInts A0.start,pInts A0.fin,pMvs A0.moves]:=rfl
        have e4:0*5+5≤((A0::Qs).flatMap ZeN).length:=by rw [hPc,List.length_cons];omega
        have hQl:0<(A0::Qs).length:=Nat.zero_lt_succ _
        have hQb:Qs.length≤1000000:=by rw [List.length_cons] at hPll;omega
        refine nav ?_
        (refine ζa ?_<;>refine xL 68 (ζh 2 ZaA) ?_<;>(refine yL 69 (ζs 2 ZbR) fun v69 h=>?_;cases h)<;>refine xL 70 Zag ?_<;>refine ζb (nav ?_)<;>try dsimp only)
        (first|refine cCd ?_ ?_|refine cC ?_ ?_)<;>intro hb70
        · exact absurd hb70 (by decide)
        · refine nav ?_
          (refine ζa ?_<;>refine xL 13 ζc ?_<;>refine ζb (nav ?_)<;>try dsimp only)
          (refine ζa ?_<;>refine xL 101 (ζh 2 ZaA) ?_<;>(refine yL 102 (ζs 2 ZbR) fun v102 h=>?_;cases h)<;>refine ζb (nav ?_)<;>try dsimp only)
          (refine ζa ?_<;>refine xL 104 Zag ?_<;>refine xL 103 ζc ?_<;>refine ζb (nav ?_)<;>try dsimp only)
          (first|refine cCd ?_ ?_|refine cC ?_ ?_)<;>intro hb103
          · try (exact absurd hb103 (by decide))
          · try (exact absurd rfl hb103)
            refine nav ?_
            (refine ζa ?_<;>refine xL 106 Zag ?_<;>refine xL 105 ζc ?_<;>refine ζb (nav ?_)<;>try dsimp only)
            (first|refine cCd ?_ ?_|refine cC ?_ ?_)<;>intro hb105
            · try (exact absurd hb105 (by decide))
              refine nav ?_
              (refine ζa ?_<;>refine xL 13 ζc ?_<;>refine ζb (nav ?_)<;>try dsimp only)
              (refine ζa ?_<;>refine xL 107 ζd ?_<;>refine xL 108 (ζJ Zan) ?_<;>(refine yL 109 (Zbm ζu) fun v109 h=>?_;cases h)<;>refine ζr [(.int .i64 0),(.int .i64 0),(.slice none 0 0),(.slice none 0 0),(.slice none 0 0)] 5 14 Zat fun h14=>?_<;>refine ζC 14 ζu ?_<;>refine ζb (nav ?_)<;>try dsimp only)
              (refine ζa ?_<;>refine xL 110 ζd ?_<;>refine xL 111 (ZgL (i:=1) (j:=(A0::Qs).length) Zan rfl rfl rfl rfl (Nat.succ_le_of_lt hQl) (Nat.le_refl _) hPc) ?_<;>(refine ζq (ZbN (t:=111) (p':= .sl Qs.length (Qs.flatMap ZeN)) rfl (ZhZ A0 Qs)) fun _=>?_;refine xL 112 (ζV Zan) ?_)<;>refine xL 113 ζd ?_<;>refine ζb (nav ?_)<;>try dsimp only)
              refine ζy (ι:={q:Nat×Aut//FldOk acts 5 A0 Qs q.1 q.2}) (fun k=>⟨[(2,_,_),(4,_,_),(13,_,_),(111,_,_),(112,_,_),(14,_,_),(113, .int .i64 k.1.1,pInt k.1.1)],[(2,_,_),(4,_,_),(14,h14, .own 39 5 1 (ZeN k.1.2))]⟩) (fun k=>Qs.length-k.1.1) ⟨(0,A0),Nat.zero_le _,rfl,hok A0 (List.mem_cons_self ..)⟩ (fun a w H=>H.weaken ⟨rfl,rfl,rfl,rfl,rfl,rfl,rfl,trivial⟩ ⟨rfl,rfl,rfl,trivial⟩) ?_
              rintro ⟨⟨j,R⟩,hF⟩
              dsimp only
              dsimp only at hF
              have hFj:=hF.le
              refine nav ?_
              (refine ζa ?_<;>refine xL 114 ζS ?_<;>refine ζb (nav ?_)<;>try dsimp only)
              (first|refine cCd ?_ ?_|refine cC ?_ ?_)<;>intro hb114
              · first
                |exact Bool.noConfusion hb114
                | (
                 obtain ⟨B,hB⟩:=ζm (show j<Qs.length by omega)
                 have e5:=ζ8 ZbQ Qs j B hB
                 have e6:=Zaq ZbQ hB
                 have hBm:=hok B (List.mem_cons_of_mem _ (List.mem_of_getElem? hB))
                 obtain ⟨p0,p1,p2,p3,p4,E,r5,hres,hc⟩:=ZqC (okO (Zcf 5 R B))
                 have hj:AF Tryz.prog 89 [ζW R,ζW B] (· =resW (Zcf 5 R B)):=ZqB R B
                 rw [Znu 5 hF.ok hBm,hres] at hj
                 obtain ⟨o0,o1,o2,o3,o4⟩:=r5.o
                 refine nav ?_
                 (refine ζa ?_<;>refine xL 115 (ζJ Zan) ?_<;>(refine yL 116 (Zbm ζu) fun v116 h=>?_;cases h)<;>refine ζr [(.int .i64 0),(.int .i64 0),(.slice none 0 0),(.slice none 0 0),(.slice none 0 0)] 5 16 Zat fun h16=>?_<;>refine ζC 16 ζu ?_<;>refine ζb (nav ?_)<;>try dsimp only)
                 (refine ζa ?_<;>refine xL 17 ζc ?_<;>refine ζb (nav ?_)<;>try dsimp only)
                 (refine ζa ?_<;>refine xL 118 ζd ?_<;>(refine yL 119 (ζp 14 ζu) fun v119 h=>?_;cases h)<;>(refine yL 120 (ζp 16 ζu) fun v120 h=>?_;cases h)<;>(refine cP 121 (ZcY (f:=89) (ps:=[]) rfl ⟨_,rfl⟩ (Tryz.call89) rfl hj) (fun va121 vb121 hva121 hvb121=>?_) (hsh:=r5.t E);cases hvb121)<;>refine xL 117 ζd ?_<;>refine xL 122 ζf ?_<;>refine xL 123 ζf ?_<;>refine ζC 14 ζu ?_<;>refine xL 17 ζc ?_<;>refine ζb (nav ?_)<;>try dsimp only)
                 (refine ζa ?_<;>refine xL 124 ζd ?_<;>refine xL 125 ZaD ?_<;>refine ζb (nav ?_)<;>try dsimp only)
                 (first|refine cCd ?_ ?_|refine cC ?_ ?_)<;>intro hb125
                 · first
                   |exact Bool.noConfusion hb125
                   | (
                    have hn:okO (Zcf 5 R B)=none∧E=13:=by
                     rcases hc with h|⟨A,_,h,_⟩
                     · exact h
                     · exact absurd h (by simpa using hb125)
                    obtain ⟨hn,rfl⟩:=hn
                    rw [hF.none hB hn]
                    refine nav ?_
                    (refine ζa ?_<;>refine xL 126 (ζB ZbS) ?_<;>refine xL 127 ζd ?_<;>refine ζC 4 ζu ?_<;>refine xL 5 ζc ?_<;>refine ζb (nav ?_)<;>try dsimp only)
                    exact ζ6 (k:=5) 4 (by kernel_rfl) (Tryz.results51) rfl rfl rfl (Nat.le_of_ble_eq_true rfl) (by decide) rfl rfl)
                 · first
                   |exact Bool.noConfusion hb125
                   | (
                    have hA:∃A,okO (Zcf 5 R B)=some A∧E=0∧p0=pInt A.n∧p1=pInt A.syms∧p2=pInts A.start∧p3=pInts A.fin∧p4=pMvs A.moves:=by
                     rcases hc with ⟨_,h⟩|h
                     · exact absurd h (by simp at hb125;omega)
                     · exact h
                    clear hc
                    obtain ⟨C,hC,rfl,rfl,rfl,rfl,rfl,rfl⟩:=hA
                    have hFn:=hF.next hB hBm hC
                    refine nav ?_
                    (refine ζa ?_<;>refine xL 128 ζM ?_<;>refine xL 113 ζd ?_<;>refine ζb (nav ?_)<;>try dsimp only)
                    refine ζl (
                     ⟨(j+1,C),hFn⟩
                     ) (by dsimp only;omega) ⟨rfl,rfl,rfl,rfl,rfl,rfl,rfl,trivial⟩ ⟨rfl,rfl,rfl,trivial⟩))
              · first
                |exact Bool.noConfusion hb114
                | (
                 rw [hF.all (show Qs.length≤j by omega)]
                 refine nav ?_
                 (refine ζa ?_<;>(refine yL 129 (ζp 14 ζu) fun v129 h=>?_;cases h)<;>refine ζC 4 ζu ?_<;>refine xL 5 ζc ?_<;>refine ζb (nav ?_)<;>try dsimp only)
                 exact ζ6 (k:=5) 4 (by kernel_rfl) (Tryz.results51) rfl rfl rfl (Nat.le_of_ble_eq_true rfl) (by decide) rfl rfl)
            · try (exact absurd rfl hb105))
theorem Zpo {acts:List ByteArray} {a b:Aut} (ha:IsMin a∧a.syms=acts.length) (hb:IsMin b∧b.syms=acts.length):MinO acts.length (Zlq a b):=Zfr ha.1 hb.1 ha.2 hb.2
set_option maxHeartbeats 4000000 in
theorem Zl6 (acts :List ByteArray) (a:ByteArray) (x0 y0:Nd) (l:List Nd) (hl0:l=[x0,y0]) (ih:∀x∈l,AF Tryz.prog 51 [pTr x,Zao acts] (· =resW (lim (bldT acts x)))) (hb:∀x∈l,BldOk acts.length (bldT acts x)):AF Tryz.prog 51 [.agg [pInt 6,ZaS a,ZbT l],Zao acts] (· =resW (lim (foldX 6 (l.map (bldT acts))))):=by
 have hlen0:l.length=2:=by rw [hl0];rfl
 refine AF.of_body 130 Tryz.func51 rfl Tryz.ntmps51 (Nat.le_of_ble_eq_true rfl) ?_
 intro w0 M0 vs hl hv
 obtain ⟨v0,v1,rfl⟩:=Zb3 hl
 clear hl hv
 refine nav ?_
 (refine ζa ?_<;>refine ζE 2 3 fun h2=>?_<;>refine ζr [(.int .i64 0),(.int .i64 0),(.slice none 0 0),(.slice none 0 0),(.slice none 0 0)] 5 4 Zat fun h4=>?_<;>refine xL 5 ζc ?_<;>refine ζb (nav ?_)<;>try dsimp only)
 (refine ζa ?_<;>refine xL 18 (ζh 2 ZaA) ?_<;>(refine yL 19 (ζs 2 ZbR) fun v19 h=>?_;cases h)<;>refine ζb (nav ?_)<;>try dsimp only)
 (refine ζa ?_<;>refine xL 21 Zag ?_<;>refine xL 20 ζc ?_<;>refine ζb (nav ?_)<;>try dsimp only)
 (first|refine cCd ?_ ?_|refine cC ?_ ?_)<;>intro hb20
 · exact absurd hb20 (by decide)
 · refine nav ?_
   (refine ζa ?_<;>refine xL 37 Zag ?_<;>refine xL 36 ζc ?_<;>refine ζb (nav ?_)<;>try dsimp only)
   (first|refine cCd ?_ ?_|refine cC ?_ ?_)<;>intro hb36
   · exact absurd hb36 (by decide)
   · refine nav ?_
     (refine ζa ?_<;>refine xL 6 ζc ?_<;>refine ζb (nav ?_)<;>try dsimp only)
     (refine ζa ?_<;>refine xL 46 (ζh 2 ZdB) ?_<;>(refine yL 47 (ζs 2 Zfv) fun v47 h=>?_;cases h)<;>refine xL 48 (ζV Zca) ?_<;>refine xL 49 ζd ?_<;>refine ζb (nav ?_)<;>try dsimp only)
     refine ζv (Zb2 200 39 5 rfl) fun _=>?_
     refine ζy (ι:={q:Nat×Value×List Aut//PtsOk acts l q.1 q.2.2∧q.2.1.oneCell'=true}) (fun k=>⟨[(1,_,_),(2,_,_),(4,_,_),(5,_,_),(47,_,_),(48,_,_),(6,k.1.2.1, .val k.1.2.1),(49, .int .i64 k.1.1,pInt k.1.1)],[(2,_,_),(4,_,_),(200,k.1.2.1, .own 39 5 k.1.2.2.length (k.1.2.2.flatMap ZeN))]⟩) (fun k=>l.length-k.1.1) ⟨(0, .slice none 0 0,[]),⟨Nat.zero_le _,rfl,fun _ h=>(by cases h)⟩,rfl⟩ (fun a w H=>H.weaken ⟨rfl,rfl,rfl,rfl,rfl,rfl,rfl,rfl,trivial⟩ ⟨rfl,rfl,rfl,trivial⟩) ?_
     rintro ⟨⟨i,hv,Ps⟩,hP,ho⟩
     dsimp only
     dsimp only at hP ho
     have hPl:=hP.len
     have hPi:=hP.le
     have hPc:(Ps.flatMap ZeN).length=Ps.length*5:=flat_len ZbQ Ps
     refine nav ?_
     (refine ζa ?_<;>refine xL 50 ζS ?_<;>refine ζb (nav ?_)<;>try dsimp only)
     (first|refine cCd ?_ ?_|refine cC ?_ ?_)<;>intro hb50
     · first
       |exact Bool.noConfusion hb50
       | (
        obtain ⟨x,hx⟩:=ζm (show i<l.length by omega)
        have e1:((Zjh l).drop (i*3)).take 3=[pInt x.op,ZaS x.act,ZbT x.l]:=ZbX hx
        have e2:=Zc4 hx
        obtain ⟨p0,p1,p2,p3,p4,E,r5,hres,hc⟩:=ZqC (bldT acts x)
        have hxa:=ih x (List.mem_of_getElem? hx)
        rw [hres] at hxa
        obtain ⟨o0,o1,o2,o3,o4⟩:=r5.o
        refine nav ?_
        (refine ζa ?_<;>refine xL 51 (ζJ Zca) ?_<;>(refine yL 52 (Zbm ZaE) fun v52 h=>?_;cases h)<;>refine ζr [(.int .i64 0),(.string ByteArray.empty),(.slice none 0 0)] 3 8 Zfw fun h8=>?_<;>refine ζC 8 ZaE ?_<;>refine ζb (nav ?_)<;>try dsimp only)
        (refine ζa ?_<;>(refine yL 54 (ζp 8 ZaE) fun v54 h=>?_;cases h)<;>refine xL 55 ζd ?_<;>(refine cP 56 (cA (Tryz.call51) hxa) (fun va56 vb56 hva56 hvb56=>?_) (hsh:=r5.t E);cases hvb56)<;>refine xL 53 ζd ?_<;>refine xL 57 ζf ?_<;>refine xL 58 ζf ?_<;>refine ζr [(.int .i64 0),(.int .i64 0),(.slice none 0 0),(.slice none 0 0),(.slice none 0 0)] 5 9 Zat fun h9=>?_<;>refine ζC 9 ζu ?_<;>refine xL 10 ζc ?_<;>refine ζb (nav ?_)<;>try dsimp only)
        (refine ζa ?_<;>refine xL 59 ζd ?_<;>refine xL 60 ZaD ?_<;>refine ζb (nav ?_)<;>try dsimp only)
        (first|refine cCd ?_ ?_|refine cC ?_ ?_)<;>intro hb60
        · first
          |exact Bool.noConfusion hb60
          | (
           have hn:bldT acts x=none∧E=13:=by
            rcases hc with h|⟨A,_,h,_⟩
            · exact h
            · exact absurd h (by simpa using hb60)
           obtain ⟨hn,rfl⟩:=hn
           have hF:foldX 6 (l.map (bldT acts))=none:=Zfp (List.mem_map.2 ⟨x,List.mem_of_getElem? hx,hn⟩)
           rw [hF]
           refine nav ?_
           (refine ζa ?_<;>refine xL 61 (ζB ZbS) ?_<;>refine xL 62 ζd ?_<;>refine ζC 4 ζu ?_<;>refine xL 5 ζc ?_<;>refine ζb (nav ?_)<;>try dsimp only)
           exact ζ6 (k:=5) 4 (by kernel_rfl) (Tryz.results51) rfl rfl rfl (Nat.le_of_ble_eq_true rfl) (by decide) rfl rfl)
        · first
          |exact Bool.noConfusion hb60
          | (
           have hA:∃A,bldT acts x=some A∧E=0∧p0=pInt A.n∧p1=pInt A.syms∧p2=pInts A.start∧p3=pInts A.fin∧p4=pMvs A.moves:=by
            rcases hc with ⟨_,h⟩|h
            · exact absurd h (by simp at hb60;omega)
            · exact h
           clear hc
           obtain ⟨A,hA,rfl,rfl,rfl,rfl,rfl,rfl⟩:=hA
           have hnx:=hP.next hx hA (hb x (List.mem_of_getElem? hx))
           refine nav ?_
           (refine ζa ?_<;>refine xL 63 ζd ?_<;>(refine yL 64 (ζp 9 ζu) fun v64 h=>?_;cases h)<;>refine Zar 65 ZbD fun h65 ho65=>?_<;>(refine ζY 200 65 66 ZbD fun h66 ho66=>?_;refine ζq (ζD (l:=66) 200 rfl rfl) fun _=>?_;refine ζq (ζN (l:=200) rfl (ZgH _ Ps A)) fun _=>?_)<;>refine xL 6 ζc ?_<;>refine ζb (nav ?_)<;>try dsimp only)
           (refine ζa ?_<;>refine xL 67 ζM ?_<;>refine xL 49 ζd ?_<;>refine ζb (nav ?_)<;>try dsimp only)
           refine ζl (
            ⟨(i+1,h66,Ps++[A]),hnx,ho66⟩
            ) (by dsimp only;omega) ⟨rfl,rfl,rfl,rfl,rfl,rfl,rfl,rfl,trivial⟩ ⟨rfl,rfl,rfl,trivial⟩))
     · first
       |exact Bool.noConfusion hb50
       | (
        obtain ⟨hall,hPll⟩:=hP.all (show l.length≤i by omega)
        have hok:=hP.ok
        rw [hall]
        obtain ⟨A,B,rfl⟩:∃A B,Ps=[A,B]:=by
         match Ps,hPll.trans hlen0 with
         |[A,B],_=>exact ⟨A,B,rfl⟩
        refine ζv (En.freeze (l:=200) (t:=6) rfl rfl) fun _=>?_
        rw [ZeC _ _ _ rfl]
        have e3:(([A,B].flatMap ZeN).drop (0*5)).take 5=[pInt A.n,pInt A.syms,pInts A.start,pInts A.fin,pMvs A.moves]:=rfl
        have e4:(([A,B].flatMap ZeN).drop (1*5)).take 5=[pInt B.n,pInt B.syms,pInts B.start,pInts B.fin,pMvs B.moves]:=rfl
        have hA:=hok A (List.mem_cons_self ..)
        have hB:=hok B (List.mem_cons_of_mem _ (List.mem_cons_self ..))
        have hF:foldX 6 ([A,B].map some)=okO (Zfo A B):=rfl
        rw [hF]
        clear hF hall
        have mX:=Zpo hB hA
        obtain ⟨p0,p1,p2,p3,p4,E,r5,hres,hc⟩:=ZqC (okO (Zlq B A))
        have hj:=ZhV B A
        rw [mX.lim,hres] at hj
        obtain ⟨o0,o1,o2,o3,o4⟩:=r5.o
        refine nav ?_
        (refine ζa ?_<;>refine xL 68 (ζh 2 ZaA) ?_<;>(refine yL 69 (ζs 2 ZbR) fun v69 h=>?_;cases h)<;>refine xL 70 Zag ?_<;>refine ζb (nav ?_)<;>try dsimp only)
        (first|refine cCd ?_ ?_|refine cC ?_ ?_)<;>intro hb70
        · refine nav ?_
          (refine ζ4 (fun i=>([12]:List Nat).elem i) [] (by kernel_rfl) ?_<;>refine xD 0 72 rfl ζd ?_<;>refine xD 1 73 rfl (ζJ Zan) ?_<;>(refine yD 2 74 rfl (Zbm ζu) fun v74 h=>?_;cases h)<;>refine xD 3 75 rfl ζd ?_<;>refine xD 4 76 rfl (ζJ Zan) ?_<;>(refine yD 5 77 rfl (Zbm ζu) fun v77 h=>?_;cases h)<;>(refine Za0 6 10 (by kernel_rfl) ?_ ?_;rotate_right;(focus ((refine ζk rfl fun w9 M9 N9 DQ back=>?_)<;>refine ζr [(.int .i64 0),(.int .i64 0),(.slice none 0 0),(.slice none 0 0),(.slice none 0 0)] 5 11 Zat fun h11=>?_<;>refine ζb (back _ (nrm ?_))<;>(refine ζo 6 (by kernel_rfl) ?_)<;>(refine ζk rfl fun w9 M9 N9 DQ back=>?_)<;>(refine cP 78 (cA (Tryz.call87) hj) (fun va78 vb78 hva78 hvb78=>?_) (hsh:=r5.t E);cases hvb78)<;>refine ζb (back _ (nrm ?_))<;>refine xE 7 71 rfl ζd ?_<;>refine xD 8 79 rfl ζf ?_<;>refine xD 9 80 rfl ζf ?_<;>(refine ζo 11 (by kernel_rfl) ?_)<;>(refine ζk rfl fun w9 M9 N9 DQ back=>?_)<;>refine ζC 11 ζu ?_<;>refine ζb (back _ (nrm ?_))));rotate_right;(focus ((refine ζk rfl fun w9 M9 N9 DQ back=>?_)<;>(refine cP 78 (cA (Tryz.call87) hj) (fun va78 vb78 hva78 hvb78=>?_) (hsh:=r5.t E);cases hvb78)<;>refine ζb (back _ (nrm ?_))<;>refine xD 7 71 rfl ζd ?_<;>refine xD 8 79 rfl ζf ?_<;>refine xD 9 80 rfl ζf ?_<;>(refine ζo 10 (by kernel_rfl) ?_)<;>(refine ζk rfl fun w9 M9 N9 DQ back=>?_)<;>refine ζr [(.int .i64 0),(.int .i64 0),(.slice none 0 0),(.slice none 0 0),(.slice none 0 0)] 5 11 Zat fun h11=>?_<;>refine ζb (back _ (nrm ?_))<;>(refine ζo 11 (by kernel_rfl) ?_)<;>(refine ζk rfl fun w9 M9 N9 DQ back=>?_)<;>refine ζC 11 ζu ?_<;>refine ζb (back _ (nrm ?_)))))<;>refine xE 12 12 rfl ζc ?_<;>refine ZaM (by kernel_rfl) (nav ?_)<;>try dsimp only)<;>(
           (refine ζa ?_<;>refine xL 81 ζd ?_<;>refine xL 82 ZaD ?_<;>refine ζb (nav ?_)<;>try dsimp only)
           (first|refine cCd ?_ ?_|refine cC ?_ ?_)<;>intro hb82
           · first
             |exact Bool.noConfusion hb82
             | (
              have hn:okO (Zlq B A)=none∧E=13:=by
               rcases hc with h|⟨A,_,h,_⟩
               · exact h
               · exact absurd h (by simpa using hb82)
              obtain ⟨hn,rfl⟩:=hn
              have hlp:okO (Zfo A B)=none:=by unfold Zfo;rw [mX.lim,hn];rfl
              rw [hlp]
              refine nav ?_
              (refine ζa ?_<;>refine xL 83 (ζB ZbS) ?_<;>refine xL 84 ζd ?_<;>refine ζC 4 ζu ?_<;>refine xL 5 ζc ?_<;>refine ζb (nav ?_)<;>try dsimp only)
              exact ζ6 (k:=5) 4 (by kernel_rfl) (Tryz.results51) rfl rfl rfl (Nat.le_of_ble_eq_true rfl) (by decide) rfl rfl)
           · first
             |exact Bool.noConfusion hb82
             | (
              have hC:∃C,okO (Zlq B A)=some C∧E=0∧p0=pInt C.n∧p1=pInt C.syms∧p2=pInts C.start∧p3=pInts C.fin∧p4=pMvs C.moves:=by
               rcases hc with ⟨_,h⟩|h
               · exact absurd h (by simp at hb82;omega)
               · exact h
              clear hc
              obtain ⟨C,hC,rfl,rfl,rfl,rfl,rfl,rfl⟩:=hC
              obtain ⟨hC1,hC2⟩:=mX.ok hC
              have mS:=ZhM hC2.1 hC2.2
              obtain ⟨p0,p1,p2,p3,p4,E,r5,hres,hc⟩:=ZqC (okO (ZeW C))
              have hj:=Zx8 C
              rw [mS.lim,hres] at hj
              obtain ⟨o0,o1,o2,o3,o4⟩:=r5.o
              refine nav ?_
              (refine ζa ?_<;>(refine yL 86 (ζp 11 ζu) fun v86 h=>?_;cases h)<;>(refine cP 87 (cA (Tryz.call90) hj) (fun va87 vb87 hva87 hvb87=>?_) (hsh:=r5.t E);cases hvb87)<;>refine xL 85 ζd ?_<;>refine xL 88 ζf ?_<;>refine xL 89 ζf ?_<;>refine ζC 11 ζu ?_<;>refine xL 12 ζc ?_<;>refine ζb (nav ?_)<;>try dsimp only)
              (refine ζa ?_<;>refine xL 90 ζd ?_<;>refine xL 91 ZaD ?_<;>refine ζb (nav ?_)<;>try dsimp only)
              (first|refine cCd ?_ ?_|refine cC ?_ ?_)<;>intro hb91
              · first
                |exact Bool.noConfusion hb91
                | (
                 have hn:okO (ZeW C)=none∧E=13:=by
                  rcases hc with h|⟨A,_,h,_⟩
                  · exact h
                  · exact absurd h (by simpa using hb91)
                 obtain ⟨hn,rfl⟩:=hn
                 have hlp:okO (Zfo A B)=none:=by unfold Zfo;rw [hC1];dsimp only;rw [mS.lim,hn];rfl
                 rw [hlp]
                 refine nav ?_
                 (refine ζa ?_<;>refine xL 92 (ζB ZbS) ?_<;>refine xL 93 ζd ?_<;>refine ζC 4 ζu ?_<;>refine xL 5 ζc ?_<;>refine ζb (nav ?_)<;>try dsimp only)
                 exact ζ6 (k:=5) 4 (by kernel_rfl) (Tryz.results51) rfl rfl rfl (Nat.le_of_ble_eq_true rfl) (by decide) rfl rfl)
              · first
                |exact Bool.noConfusion hb91
                | (
                 have hS:∃S,okO (ZeW C)=some S∧E=0∧p0=pInt S.n∧p1=pInt S.syms∧p2=pInts S.start∧p3=pInts S.fin∧p4=pMvs S.moves:=by
                  rcases hc with ⟨_,h⟩|h
                  · exact absurd h (by simp at hb91;omega)
                  · exact h
                 clear hc
                 obtain ⟨S,hS,rfl,rfl,rfl,rfl,rfl,rfl⟩:=hS
                 obtain ⟨hS1,hS2⟩:=mS.ok hS
                 have mT:=Zpo hA hS2
                 have hlp:okO (Zfo A B)=okO (Zlq A S):=by unfold Zfo;rw [hC1];dsimp only;rw [hS1]
                 rw [hlp]
                 obtain ⟨p0,p1,p2,p3,p4,E,r5,hres,hc⟩:=ZqC (okO (Zlq A S))
                 have hj:=ZhV A S
                 rw [mT.lim,hres] at hj
                 rw [hres]
                 obtain ⟨o0,o1,o2,o3,o4⟩:=r5.o
                 refine nav ?_
                 (refine ζ4 (fun i=>([8]:List Nat).elem i) [11] (by kernel_rfl) ?_<;>refine xD 0 94 rfl ζd ?_<;>refine xD 1 95 rfl (ζJ Zan) ?_<;>(refine yD 2 96 rfl (Zbm ζu) fun v96 h=>?_;cases h)<;>(refine yE 3 97 rfl (ζp 11 ζu) fun v97 h=>?_;cases h)<;>(refine ζo 4 (by kernel_rfl) ?_)<;>(refine ζk rfl fun w9 M9 N9 DQ back=>?_)<;>(refine cP 98 (cA (Tryz.call87) hj) (fun va98 vb98 hva98 hvb98=>?_) (hsh:=r5.t E);cases hvb98)<;>refine ζb (back _ (nrm ?_))<;>refine xD 5 99 rfl ζf ?_<;>refine xE 6 100 rfl ζf ?_<;>(refine ζo 7 (by kernel_rfl) ?_)<;>(refine ζk rfl fun w9 M9 N9 DQ back=>?_)<;>refine ζC 4 ζu ?_<;>refine ζb (back _ (nrm ?_))<;>refine xE 8 5 rfl ζc ?_<;>refine ZaM (by kernel_rfl) (nav ?_)<;>try dsimp only)
                 exact ζ6 (k:=5) 4 (by kernel_rfl) (Tryz.results51) rfl rfl rfl (Nat.le_of_ble_eq_true rfl) (by decide) r5.s rfl)))
        · exact absurd rfl hb70)
theorem Zfx (acts:List ByteArray) (hm:acts.length≤40):∀t:Nd,okT t=true→szT t≤1000→(∀s∈Za5 t,s∈acts)→AF Tryz.prog 51 [pTr t,Zao acts] (· =resW (lim (bldT acts t))):=Nd.ind fun o a l ih hok hsz ha=>by
 have e0:pTr (.mk o a l)= .agg [pInt o,ZaS a,ZbT l]:=rfl
 rw [e0]
 obtain ⟨hr,hp⟩:=ZbM.1 hok
 have hops:=Ze8 hr
 simp only [Nd.op,Nd.l] at hops hp
 rw [szT] at hsz
 have hlz:=Zg8 l
 have hpa:∀x∈l,o≠1→∀s∈Za5 x,s∈acts:=fun x hx h1 s hs=>ha s (by rw [Za5,if_neg h1];exact Zdq.2 ⟨x,hx,hs⟩)
 have hih:o≠1→∀x∈l,AF Tryz.prog 51 [pTr x,Zao acts] (· =resW (lim (bldT acts x))):=fun h1 x hx=>ih x hx (hp x hx) (by have:=ZdN hx;omega) (hpa x hx h1)
 have hbo:o≠1→∀x∈l,BldOk acts.length (bldT acts x):=fun h1 x hx=>ZzZ hm x (hpa x hx h1)
 by_cases h1:o=1
 · subst h1
   have hmem:a∈acts:=ha a (by rw [Za5,if_pos rfl];exact List.mem_cons_self ..)
   obtain ⟨i,h2,h3,_⟩:=Zez hmem
   have hi:=ζe h3
   have hM:=Zey (m:=acts.length) (Zj4 hm (k:=Zaz acts a) (by rw [h2];omega)) rfl
   have hl:l=[]:=by unfold rightT at hr;simp [Nd.op,Nd.l] at hr;exact hr.1
   subst hl
   have hb:bldT acts (.mk 1 a [])=okO (Zij (Zf0 acts.length (Zaz acts a))):=by rw [bldT,if_pos rfl];rfl
   rw [hb]
   obtain ⟨p0,p1,p2,p3,p4,E,r5,hres,_⟩:=ZqC (okO (Zij (Zf0 acts.length (Zaz acts a))))
   have hj:=ZhF (Zf0 acts.length (Zaz acts a))
   rw [hM.lim,hres] at hj
   rw [hres]
   exact Zns acts a r5 hj
 by_cases h2:o=2
 · subst h2
   have hM:=Zey (m:=acts.length) (Zpa hm) rfl
   have hl:l=[]:=by unfold rightT at hr;simp [Nd.op,Nd.l] at hr;exact hr.1
   subst hl
   have hb:bldT acts (.mk 2 a [])=okO (Zij (Zqr acts.length)):=by rw [bldT,if_neg (by decide),if_pos rfl]
   rw [hb]
   obtain ⟨p0,p1,p2,p3,p4,E,r5,hres,_⟩:=ZqC (okO (Zij (Zqr acts.length)))
   have hj:=ZhF (Zqr acts.length)
   rw [hM.lim,hres] at hj
   rw [hres]
   exact Znt acts a r5 hj
 rw [ZwD acts o a l h1 h2]
 by_cases h6:o=6
 · subst h6
   obtain ⟨x,y,hxy⟩:=ZhP hr
   exact Zl6 acts a x y l hxy (hih h1) (hbo h1)
 have ho:o=3∨o=4∨o=5:=by omega
 obtain ⟨x,m,hxm⟩:=Zpd ho hr
 rcases ho with rfl|rfl|rfl
 · exact Znv acts a x m l hxm (by omega) (hih h1) (hbo h1)
 · exact Znw acts a x m l hxm (by omega) (hih h1) (hbo h1)
 · exact Znx acts a x m l hxm (by omega) (hih h1) (hbo h1)
end Go.Proofs.YtgfabnhpllkebaaGreatDoor
