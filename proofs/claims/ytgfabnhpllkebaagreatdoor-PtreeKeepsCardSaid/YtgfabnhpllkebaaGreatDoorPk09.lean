/-
  Walks: automata: products.
  Walks: automata: the first word of a product.
  Walks: automata: both, compare, Equivalent, Included, Product.
  Walks: automata: Union.
  Walks: automata: Concat.
  Walks: automata: moves in order are kept once each.
  Walks: automata: what an operation made, moves more than once among them.
  Walks: automata: Shuffle.
  Walks: languages of trees: the automaton of a tree.
  Process trees: tokens and reading, in plain Lean.
  The engine: ways that split meet again behind what splits them; shifts and bits. No program in sight.
  The engine: functions that may panic. No program in sight.
-/
import Derived.Recover
import Derived.Test.YtgfabnhpllkebaaGreatDoorPk08
import Derived.Test.YtgfabnhpllkebaaGreatDoorPk05
import Derived.Test.YtgfabnhpllkebaaGreatDoorPk07
import Derived.Test.YtgfabnhpllkebaaGreatDoorPk06
import Derived.Test.YtgfabnhpllkebaaGreatDoorMShelfG
import Derived.Test.YtgfabnhpllkebaaGreatDoorPk01
namespace Go.Proofs.YtgfabnhpllkebaaGreatDoor
open Go.RowKit Go.Cb Go.En
set_option linter.all false
set_option maxRecDepth 100000
theorem ZA8 {a b:Aut} (h:Zas a=false):ZgG a b=1:=by unfold ZgG;rw [if_pos (.inl h)]
theorem ZA9 {a b:Aut} (h:Zas b=false):ZgG a b=1:=by unfold ZgG;rw [if_pos (.inr h)]
theorem ZC4 {a b:Aut} (h1:Zas a=true) (h2:Zas b=true) (h:¬a.syms=b.syms):ZgG a b=29:=by unfold ZgG;rw [if_neg (by rw [h1,h2];simp),if_pos h]
theorem ZC5 {a b:Aut} (h1:Zas a=true) (h2:Zas b=true) (h:a.syms=b.syms):ZgG a b=0:=by unfold ZgG;rw [if_neg (by rw [h1,h2];simp),if_neg (fun e=>e h)]
theorem Zx6 {a b:Aut} (h:ZgG a b=0):Zas a=true∧Zas b=true∧a.syms=b.syms:=by
 unfold ZgG at h
 split at h
 · omega
 · rename_i h1;split at h
   · omega
   · rename_i h2;refine ⟨?_,?_,?_⟩
     · cases e:Zas a with
       |true=>rfl
       |false=>exact absurd (.inl e) h1
     · cases e:Zas b with
       |true=>rfl
       |false=>exact absurd (.inr e) h1
     · exact Decidable.not_not.1 h2
theorem ZBa (a b:Aut) (ha:Zas a=false) (hb:Zas b=false) (hs:True):AF Tryz.prog 120 [Zap a,Zap b] (· =pInt 1):=by
 have hva:=Zbj a
 have hvb:=Zbj b
 rw [ha] at hva
 rw [hb] at hvb
 refine AF.of_body 20 Tryz.func120 rfl Tryz.ntmps120 (Xa rfl) ?_
 intro w0 M0 vs hl hv
 obtain ⟨v0,v1,rfl⟩:=ZdW hl
 clear hl hv
 refine nav ?_
 (refine ζa ?_<;>refine ζS 2 5 fun h2=>?_<;>refine ζS 3 5 fun h3=>?_<;>refine xL 4 ζc ?_<;>refine ζd ?_)
 (refine ζa ?_<;>(refine yL 6 (ζm 2 ζr) fun v6 h=>?_;cases h)<;>(refine cS 7 (cA Tryz.call107 (hva)) fun v7 h=>?_;cases h)<;>refine xL 8 Zaw (xL 9 ζb ?_)<;>refine kL 10 ?_<;>refine kL 11 ?_<;>refine kL 12 ?_<;>refine xL 13 ζv (xL 5 ζc ?_)<;>refine ζd ?_)<;>(
  (first|refine cCd ?_ ?_|refine cC ?_ ?_)<;>intro hb5
  · first
    |exact bN hb5
    | (
     refine nav ?_;(refine ζa ?_<;>refine xL 4 ζc ?_<;>refine ζd ?_)
     exact ζp (Tryz.results120) rfl rfl)
  · first
    |exact bN hb5
    |skip)
theorem ZBb (a b:Aut) (ha:Zas a=false) (hb:Zas b=true) (hs:True):AF Tryz.prog 120 [Zap a,Zap b] (· =pInt 1):=by
 have hva:=Zbj a
 have hvb:=Zbj b
 rw [ha] at hva
 rw [hb] at hvb
 refine AF.of_body 20 Tryz.func120 rfl Tryz.ntmps120 (Xa rfl) ?_
 intro w0 M0 vs hl hv
 obtain ⟨v0,v1,rfl⟩:=ZdW hl
 clear hl hv
 refine nav ?_
 (refine ζa ?_<;>refine ζS 2 5 fun h2=>?_<;>refine ζS 3 5 fun h3=>?_<;>refine xL 4 ζc ?_<;>refine ζd ?_)
 (refine ζa ?_<;>(refine yL 6 (ζm 2 ζr) fun v6 h=>?_;cases h)<;>(refine cS 7 (cA Tryz.call107 (hva)) fun v7 h=>?_;cases h)<;>refine xL 8 Zaw (xL 9 ζb ?_)<;>refine kL 10 ?_<;>refine kL 11 ?_<;>refine kL 12 ?_<;>refine xL 13 ζv (xL 5 ζc ?_)<;>refine ζd ?_)<;>(
  (first|refine cCd ?_ ?_|refine cC ?_ ?_)<;>intro hb5
  · first
    |exact bN hb5
    | (
     refine nav ?_;(refine ζa ?_<;>refine xL 4 ζc ?_<;>refine ζd ?_)
     exact ζp (Tryz.results120) rfl rfl)
  · first
    |exact bN hb5
    |skip)
theorem ZBc (a b:Aut) (ha:Zas a=true) (hb:Zas b=false) (hs:True):AF Tryz.prog 120 [Zap a,Zap b] (· =pInt 1):=by
 have hva:=Zbj a
 have hvb:=Zbj b
 rw [ha] at hva
 rw [hb] at hvb
 refine AF.of_body 20 Tryz.func120 rfl Tryz.ntmps120 (Xa rfl) ?_
 intro w0 M0 vs hl hv
 obtain ⟨v0,v1,rfl⟩:=ZdW hl
 clear hl hv
 refine nav ?_
 (refine ζa ?_<;>refine ζS 2 5 fun h2=>?_<;>refine ζS 3 5 fun h3=>?_<;>refine xL 4 ζc ?_<;>refine ζd ?_)
 (refine ζa ?_<;>(refine yL 6 (ζm 2 ζr) fun v6 h=>?_;cases h)<;>(refine cS 7 (cA Tryz.call107 (hva)) fun v7 h=>?_;cases h)<;>refine xL 8 Zaw (xL 9 ζb ?_)<;>(refine yL 10 (ζm 3 ζr) fun v10 h=>?_;cases h)<;>(refine cS 11 (cA Tryz.call107 (hvb)) fun v11 h=>?_;cases h)<;>refine xL 12 Zaw (xL 13 ζv (xL 5 ζc ?_))<;>refine ζd ?_)<;>(
  (first|refine cCd ?_ ?_|refine cC ?_ ?_)<;>intro hb5
  · first
    |exact bN hb5
    | (
     refine nav ?_;(refine ζa ?_<;>refine xL 4 ζc ?_<;>refine ζd ?_)
     exact ζp (Tryz.results120) rfl rfl)
  · first
    |exact bN hb5
    |skip)
theorem ZBd (a b:Aut) (ha:Zas a=true) (hb:Zas b=true) (hs:¬a.syms=b.syms):AF Tryz.prog 120 [Zap a,Zap b] (· =pInt 29):=by
 have hva:=Zbj a
 have hvb:=Zbj b
 rw [ha] at hva
 rw [hb] at hvb
 refine AF.of_body 20 Tryz.func120 rfl Tryz.ntmps120 (Xa rfl) ?_
 intro w0 M0 vs hl hv
 obtain ⟨v0,v1,rfl⟩:=ZdW hl
 clear hl hv
 refine nav ?_
 (refine ζa ?_<;>refine ζS 2 5 fun h2=>?_<;>refine ζS 3 5 fun h3=>?_<;>refine xL 4 ζc ?_<;>refine ζd ?_)
 (refine ζa ?_<;>(refine yL 6 (ζm 2 ζr) fun v6 h=>?_;cases h)<;>(refine cS 7 (cA Tryz.call107 (hva)) fun v7 h=>?_;cases h)<;>refine xL 8 Zaw (xL 9 ζb ?_)<;>(refine yL 10 (ζm 3 ζr) fun v10 h=>?_;cases h)<;>(refine cS 11 (cA Tryz.call107 (hvb)) fun v11 h=>?_;cases h)<;>refine xL 12 Zaw (xL 13 ζv (xL 5 ζc ?_))<;>refine ζd ?_)<;>(
  (first|refine cCd ?_ ?_|refine cC ?_ ?_)<;>intro hb5
  · first
    |exact bN hb5
    | (
     refine nav ?_;(refine ζa ?_<;>refine xL 4 ζc ?_<;>refine ζd ?_)
     exact ζp (Tryz.results120) rfl rfl)
  · first
    |exact bN hb5
    | (
     refine nav ?_;(refine ζa ?_<;>refine xL 15 (ζe 2 Zam) ?_<;>(refine yL 16 (ζk 2 ζn) fun v16 h=>?_;cases h)<;>refine xL 17 (ζe 3 Zam) ?_<;>(refine yL 18 (ζk 3 ζn) fun v18 h=>?_;cases h)<;>refine xL 19 ZaN (xL 14 ζc ?_)<;>refine ζd ?_)
     (first|refine cCd ?_ ?_|refine cC ?_ ?_)<;>intro hb14
     · first
       |exact bN hb14
       | (
        refine nav ?_;(refine ζa ?_<;>refine xL 4 ζc ?_<;>refine ζd ?_)
        first|exact ζp (Tryz.results120) rfl rfl|exact absurd hs (by simpa using hb14))
     · first
       |exact bN hb14
       | (
        refine nav ?_;(refine ζa ?_<;>refine xL 4 ζc ?_<;>refine ζd ?_)
        first|exact ζp (Tryz.results120) rfl rfl|exact absurd (by simpa using hb14) hs)))
theorem ZBe (a b:Aut) (ha:Zas a=true) (hb:Zas b=true) (hs:a.syms=b.syms):AF Tryz.prog 120 [Zap a,Zap b] (· =pInt 0):=by
 have hva:=Zbj a
 have hvb:=Zbj b
 rw [ha] at hva
 rw [hb] at hvb
 refine AF.of_body 20 Tryz.func120 rfl Tryz.ntmps120 (Xa rfl) ?_
 intro w0 M0 vs hl hv
 obtain ⟨v0,v1,rfl⟩:=ZdW hl
 clear hl hv
 refine nav ?_
 (refine ζa ?_<;>refine ζS 2 5 fun h2=>?_<;>refine ζS 3 5 fun h3=>?_<;>refine xL 4 ζc ?_<;>refine ζd ?_)
 (refine ζa ?_<;>(refine yL 6 (ζm 2 ζr) fun v6 h=>?_;cases h)<;>(refine cS 7 (cA Tryz.call107 (hva)) fun v7 h=>?_;cases h)<;>refine xL 8 Zaw (xL 9 ζb ?_)<;>(refine yL 10 (ζm 3 ζr) fun v10 h=>?_;cases h)<;>(refine cS 11 (cA Tryz.call107 (hvb)) fun v11 h=>?_;cases h)<;>refine xL 12 Zaw (xL 13 ζv (xL 5 ζc ?_))<;>refine ζd ?_)<;>(
  (first|refine cCd ?_ ?_|refine cC ?_ ?_)<;>intro hb5
  · first
    |exact bN hb5
    | (
     refine nav ?_;(refine ζa ?_<;>refine xL 4 ζc ?_<;>refine ζd ?_)
     exact ζp (Tryz.results120) rfl rfl)
  · first
    |exact bN hb5
    | (
     refine nav ?_;(refine ζa ?_<;>refine xL 15 (ζe 2 Zam) ?_<;>(refine yL 16 (ζk 2 ζn) fun v16 h=>?_;cases h)<;>refine xL 17 (ζe 3 Zam) ?_<;>(refine yL 18 (ζk 3 ζn) fun v18 h=>?_;cases h)<;>refine xL 19 ZaN (xL 14 ζc ?_)<;>refine ζd ?_)
     (first|refine cCd ?_ ?_|refine cC ?_ ?_)<;>intro hb14
     · first
       |exact bN hb14
       | (
        refine nav ?_;(refine ζa ?_<;>refine xL 4 ζc ?_<;>refine ζd ?_)
        first|exact ζp (Tryz.results120) rfl rfl|exact absurd hs (by simpa using hb14))
     · first
       |exact bN hb14
       | (
        refine nav ?_;(refine ζa ?_<;>refine xL 4 ζc ?_<;>refine ζd ?_)
        first|exact ζp (Tryz.results120) rfl rfl|exact absurd (by simpa using hb14) hs)))
theorem Zkh (a b:Aut):AF Tryz.prog 120 [Zap a,Zap b] (· =pInt (ZgG a b)):=by
 cases ha:Zas a
 · rw [ZA8 ha]
   cases hb:Zas b
   · exact ZBa a b ha hb trivial
   · exact ZBb a b ha hb trivial
 · cases hb:Zas b
   · rw [ZA9 hb];exact ZBc a b ha hb trivial
   · by_cases hs:a.syms=b.syms
     · rw [ZC5 ha hb hs];exact ZBe a b ha hb hs
     · rw [ZC4 ha hb hs];exact ZBd a b ha hb hs
theorem Zh0 (l:List Int):(l.map pInt).all En.one=true:=by rw [Xy];intro p hp;obtain ⟨z,_,rfl⟩:=Xo.1 hp;rfl
theorem Zgi (l:List Int):(l.map pInt).length=l.length*1:=by rw [Xh,XJ]
theorem Zh1 (e:Nat) (l m:List Int):PV.own e 1 (l.length+m.length) (l.map pInt++m.map pInt)= .own e 1 (l++m).length ((l++m).map pInt):=by rw [XC,Xd]
theorem ZgU {a b:Aut} (h:ZgG a b=0):VOk a∧VOk b∧a.syms=b.syms:=by
 obtain ⟨h1,h2,h3⟩:=Zx6 h
 exact ⟨ZbW h1,ZbW h2,h3⟩
theorem Zr3 (a b:Aut) (e:Int) (he:¬e=0) (hf:AF Tryz.prog 120 [Zap a,Zap b] (· =pInt e)):AF Tryz.prog 88 [Zap a,Zap b] (· = .tup [ZlZ,pInt e]):=by
 refine AF.of_body 42 Tryz.func88 rfl Tryz.ntmps88 (Xa rfl) ?_
 intro w0 M0 vs hl hv
 obtain ⟨v0,v1,rfl⟩:=ZdW hl
 clear hl hv
 refine nav ?_
 (refine ζa ?_<;>refine ζS 2 5 fun h2=>?_<;>refine ζS 3 5 fun h3=>?_<;>refine ζs [(.int .i64 0),(.int .i64 0),(.slice none 0 0),(.slice none 0 0),(.slice none 0 0)] 5 4 ζL fun h4=>?_<;>refine xL 5 ζc ?_<;>refine ζd ?_)
 (refine ζa ?_<;>(refine yL 8 (ζm 2 ζr) fun v8 h=>?_;cases h)<;>(refine yL 9 (ζm 3 ζr) fun v9 h=>?_;cases h)<;>(refine cS 10 (cA Tryz.call120 (hf)) fun v10 h=>?_;cases h)<;>refine xL 6 ζc ?_<;>refine ζd ?_)
 (refine ζa ?_<;>refine xL 11 ζb (xL 12 ZaN ?_)<;>refine ζd ?_)
 (first|refine cCd ?_ ?_|refine cC ?_ ?_)<;>intro hb12
 · refine nav ?_;(refine ζa ?_<;>refine xL 13 (ζB ζN) (xL 14 ζb ?_)<;>refine ζt 4 ζr ?_<;>refine xL 5 ζc ?_<;>refine ζd ?_)
   exact ZaI (k:=5) 4 kR (Tryz.results88) rfl rfl rfl (Xa rfl) (by decide) rfl rfl
 · exact absurd (by simpa using hb12) he
set_option maxHeartbeats 2000000 in
theorem Zx7 (a b:Aut) (hf0:ZgG a b=0) {p0 p1 p2 p3 p4:PV} {E:Int} (r5:R5 p0 p1 p2 p3 p4) (hr:AF Tryz.prog 132 [Zap (mkA (ZdJ a b))] (· = .tup [.agg [p0,p1,p2,p3,p4],pInt E])):AF Tryz.prog 88 [Zap a,Zap b] (· = .tup [.agg [p0,p1,p2,p3,p4],pInt E]):=by
 obtain ⟨o0,o1,o2,o3,o4⟩:=r5.o
 obtain ⟨ha,hb,hs⟩:=ZgU hf0
 have hf:=Zkh a b
 rw [hf0] at hf
 have hn0:=ha.n0
 have hn1:=ha.n1
 have k1:=ha.sl
 have k2:=hb.sl
 have k3:=ha.fl
 have k4:=hb.fl
 have m1:=hb.n1
 have kml:=ZoS ha.toAOk hb.toAOk
 have l1:=Zd7 a.n b.start
 have l2:=Zd7 a.n b.fin
 refine AF.of_body 42 Tryz.func88 rfl Tryz.ntmps88 (Xa rfl) ?_
 intro w0 M0 vs hl hv
 obtain ⟨v0,v1,rfl⟩:=ZdW hl
 clear hl hv
 refine nav ?_
 (refine ζa ?_<;>refine ζS 2 5 fun h2=>?_<;>refine ζS 3 5 fun h3=>?_<;>refine ζs [(.int .i64 0),(.int .i64 0),(.slice none 0 0),(.slice none 0 0),(.slice none 0 0)] 5 4 ζL fun h4=>?_<;>refine xL 5 ζc ?_<;>refine ζd ?_)
 (refine ζa ?_<;>(refine yL 8 (ζm 2 ζr) fun v8 h=>?_;cases h)<;>(refine yL 9 (ζm 3 ζr) fun v9 h=>?_;cases h)<;>(refine cS 10 (cA Tryz.call120 (hf)) fun v10 h=>?_;cases h)<;>refine xL 6 ζc ?_<;>refine ζd ?_)
 (refine ζa ?_<;>refine xL 11 ζb (xL 12 ZaN ?_)<;>refine ζd ?_)
 (first|refine cCd ?_ ?_|refine cC ?_ ?_)<;>intro hb12
 · first|omega|exact absurd rfl hb12|exact bN hb12
 · refine nav ?_;(refine ζa ?_<;>(refine yL 15 (ζm 2 ζr) fun v15 h=>?_;cases h)<;>(refine yL 16 (ζm 3 ζr) fun v16 h=>?_;cases h)<;>(refine Zaa [2,3,4] 17 (Tryz.call134) (Znk a b ha.toAOk hb.toAOk _ _) ?_;rintro V17 _ _ ⟨hM,hMo,rfl,rfl⟩;have qM:En.one (PV.val hM)=true:=hMo)<;>refine ζs [(.int .i64 0),(.int .i64 0),(.slice none 0 0),(.slice none 0 0),(.slice none 0 0)] 5 7 ζL fun h7=>?_<;>refine ζt 7 ζr ?_<;>refine ζd ?_)
   (refine ζV (fun i=>([]:List Nat).elem i) [2,3] kR ?_<;>refine xD 0 18 rfl (ζe 2 Zan) ?_<;>(refine yD 1 19 rfl (ζk 2 ζH) fun v19 h=>?_;cases h)<;>refine xD 3 21 rfl (ζe 3 Zan) ?_<;>(refine yD 4 22 rfl (ζk 3 ζH) fun v22 h=>?_;cases h)<;>refine xD 5 23 rfl (ζe 2 ζX) ?_<;>(refine yD 6 24 rfl (ζk 2 ζn) fun v24 h=>?_;cases h)<;>(refine ζj 2 kR ?_)<;>(refine ζg rfl fun w9 M9 N9 DQ back=>?_)<;>refine cO 20 (cA Tryz.call135 (ZfF a.start (by omega))) fun v20 ho20=>?_<;>refine ζf (back _ (nrm ?_))<;>(refine ζj 7 kR ?_)<;>(refine ζg rfl fun w9 M9 N9 DQ back=>?_)<;>(refine cO 25 (cA Tryz.call136 (ZdR b.start a.n (by omega) (by omega) (fun x hx=>by have:=hb.st x hx;omega))) fun v25 ho25=>?_;refine ζq (En.freeze (l:=25) (t:=25) rfl rfl) fun _=>?_;rw [Zaq _ _ _ rfl])<;>refine ζf (back _ (nrm ?_))<;>(refine ζj 8 kR ?_)<;>(refine ζg rfl fun w9 M9 N9 DQ back=>?_)<;>(refine Zev 20 26 ζz (fun h26 ho26=>?_) (Zgi (Zdw a.n b.start)) (Zh0 (Zdw a.n b.start));have q26:En.one (PV.val h26)=true:=ho26)<;>refine ζf (back _ (nrm ?_))<;>refine xE 9 27 rfl (ζe 7 Zan) ?_<;>(refine ζj 10 kR ?_)<;>(refine ζg rfl fun w9 M9 N9 DQ back=>?_)<;>refine Zb7 7 ζH Zcw ?_<;>refine ζf (back _ (nrm ?_))<;>refine Zae kR (nav ?_)<;>try dsimp only)
   refine ζC (ζI (l:=26) rfl (Zh1 _ a.start (Zdw a.n b.start))) fun _=>?_;refine ζC (ZaW (l:=7) (l':=26) (j:=2) rfl rfl rfl rfl) fun _=>?_;rw [Zaq _ _ _ rfl];(refine ζV (fun i=>([]:List Nat).elem i) [2,3] kR ?_<;>refine xD 0 28 rfl (ζe 2 Zab) ?_<;>(refine yD 1 29 rfl (ζk 2 ζH) fun v29 h=>?_;cases h)<;>refine xD 3 31 rfl (ζe 3 Zab) ?_<;>(refine yD 4 32 rfl (ζk 3 ζH) fun v32 h=>?_;cases h)<;>refine xD 5 33 rfl (ζe 2 ζX) ?_<;>(refine yD 6 34 rfl (ζk 2 ζn) fun v34 h=>?_;cases h)<;>(refine ζj 2 kR ?_)<;>(refine ζg rfl fun w9 M9 N9 DQ back=>?_)<;>refine cO 30 (cA Tryz.call135 (ZfF a.fin (by omega))) fun v30 ho30=>?_<;>refine ζf (back _ (nrm ?_))<;>(refine ζj 7 kR ?_)<;>(refine ζg rfl fun w9 M9 N9 DQ back=>?_)<;>(refine cO 35 (cA Tryz.call136 (ZdR b.fin a.n (by omega) (by omega) (fun x hx=>by have:=hb.fi x hx;omega))) fun v35 ho35=>?_;refine ζq (En.freeze (l:=35) (t:=35) rfl rfl) fun _=>?_;rw [Zaq _ _ _ rfl])<;>refine ζf (back _ (nrm ?_))<;>(refine ζj 8 kR ?_)<;>(refine ζg rfl fun w9 M9 N9 DQ back=>?_)<;>(refine Zev 30 36 ζz (fun h36 ho36=>?_) (Zgi (Zdw a.n b.fin)) (Zh0 (Zdw a.n b.fin));have q36:En.one (PV.val h36)=true:=ho36)<;>refine ζf (back _ (nrm ?_))<;>refine xE 9 37 rfl (ζe 7 Zab) ?_<;>(refine ζj 10 kR ?_)<;>(refine ζg rfl fun w9 M9 N9 DQ back=>?_)<;>refine Zb7 7 ζH Zcw ?_<;>refine ζf (back _ (nrm ?_))<;>refine Zae kR (nav ?_)<;>try dsimp only)
   refine ζC (ζI (l:=36) rfl (Zh1 _ a.fin (Zdw a.n b.fin))) fun _=>?_;refine ζC (ZaW (l:=7) (l':=36) (j:=3) rfl rfl rfl rfl) fun _=>?_;rw [Zaq _ _ _ rfl];(refine ζa ?_<;>(refine yL 38 (ζm (k:=5) (ps:=[pInt (a.n+b.n),pInt a.syms,pInts (a.start++Zdw a.n b.start),pInts (a.fin++Zdw a.n b.fin),PV.val hM]) 7 kR) fun v38 h=>?_;cases h)<;>(refine ζ3 [(1000,hM,PV.own 93 3 (ZdJ a b).moves.length ((ZdJ a b).moves.flatMap cMv)),(2,_,_),(3,_,_),(4,_,_),(7,_,_)] ⟨rfl,rfl,rfl,rfl,rfl,trivial⟩ ?_;refine Zaa [2,3,4,7] 39 (Tryz.call137) (Zov (ZdJ a b) (by show (bsM a b).length≤1000000;omega) (ZjZ ha hb) _ hM hMo r5 hr) ?_;rintro _ _ _ ⟨⟨V1,rfl⟩,rfl,rfl⟩)<;>refine xL 40 ζl (xL 41 ζl ?_)<;>refine ζt 4 ζr ?_<;>refine xL 5 ζc ?_<;>refine ζd ?_)
   exact ZaI (k:=5) 4 kR (Tryz.results88) rfl rfl rfl (Xa rfl) (by decide) r5.s rfl
theorem Zx8 (a b:Aut):AF Tryz.prog 88 [Zap a,Zap b] (· =resW (ZiD a b)):=by
 unfold ZiD
 by_cases h0:ZgG a b=0
 · rw [if_neg (fun h=>h h0)];obtain ⟨ha,hb,hs⟩:=ZgU h0;obtain ⟨p0,p1,p2,p3,p4,E,h5,h2,hr⟩:=Ze4 (ZdJ a b) (by have:=ZoS ha.toAOk hb.toAOk;show (bsM a b).length≤1000000;omega) (ZiC ha hb hs);rw [h2];exact Zx7 a b h0 h5 hr
 · rw [if_pos h0];exact Zr3 a b _ h0 (Zkh a b)
def ctM (a b:Aut) (i:Nat):List Mv:=bsM a b++ZmF a.n (a.fin.take i) b.start
theorem ZqV (a b:Aut):ctM a b 0=bsM a b:=by show bsM a b++[]=bsM a b;rw [XA]
theorem Zx9 {a b:Aut} {i:Nat} {f:Int} (h:a.fin[i]? =some f):ctM a b (i+1)=ctM a b i++Zjx a.n f b.start:=by unfold ctM;rw [ZtN a.n b.start h,Xw]
theorem ZBf (a b:Aut) {i:Nat} (h:a.fin.length≤i):ctM a b i=(Zfv a b).moves:=by unfold ctM;rw [Xn h];rfl
theorem ZBg {a b:Aut} {i j:Nat} (f:Int) (hi:i<a.fin.length) (hj:j≤b.start.length):(ctM a b i++Zjx a.n f (b.start.take j)).length≤(Zfv a b).moves.length:=by
 rw [Zox]
 unfold ctM bsM
 rw [Xd,Xd,Xd,ZhS,Zk3,Xt]
 unfold Zjx
 rw [Xh,Xt]
 have h1:(i+1)*b.start.length≤a.fin.length*b.start.length:=Va _ hi
 rw [XS] at h1
 rw [XV (VZ hi),XV hj]
 omega
theorem ZoT (a b:Aut) (e:Int) (he:¬e=0) (hf:AF Tryz.prog 120 [Zap a,Zap b] (· =pInt e)):AF Tryz.prog 87 [Zap a,Zap b] (· = .tup [ZlZ,pInt e]):=by
 refine AF.of_body 68 Tryz.func87 rfl Tryz.ntmps87 (Xa rfl) ?_
 intro w0 M0 vs hl hv
 obtain ⟨v0,v1,rfl⟩:=ZdW hl
 clear hl hv
 refine nav ?_
 (refine ζa ?_<;>refine ζS 2 5 fun h2=>?_<;>refine ζS 3 5 fun h3=>?_<;>refine ζs [(.int .i64 0),(.int .i64 0),(.slice none 0 0),(.slice none 0 0),(.slice none 0 0)] 5 4 ζL fun h4=>?_<;>refine xL 5 ζc ?_<;>refine ζd ?_)
 (refine ζa ?_<;>(refine yL 12 (ζm 2 ζr) fun v12 h=>?_;cases h)<;>(refine yL 13 (ζm 3 ζr) fun v13 h=>?_;cases h)<;>(refine cS 14 (cA Tryz.call120 (hf)) fun v14 h=>?_;cases h)<;>refine xL 6 ζc ?_<;>refine ζd ?_)
 (refine ζa ?_<;>refine xL 15 ζb (xL 16 ZaN ?_)<;>refine ζd ?_)
 (first|refine cCd ?_ ?_|refine cC ?_ ?_)<;>intro hb16
 · refine nav ?_;(refine ζa ?_<;>refine xL 17 (ζB ζN) (xL 18 ζb ?_)<;>refine ζt 4 ζr ?_<;>refine xL 5 ζc ?_<;>refine ζd ?_)
   exact ZaI (k:=5) 4 kR (Tryz.results87) rfl rfl rfl (Xa rfl) (by decide) rfl rfl
 · exact absurd (by simpa using hb16) he
set_option maxHeartbeats 2000000 in
theorem Znl (a b:Aut) (hf0:ZgG a b=0) {p0 p1 p2 p3 p4:PV} {E:Int} (r5:R5 p0 p1 p2 p3 p4) (hr:(Zfv a b).moves.length≤40001→AF Tryz.prog 132 [Zap (mkA (Zfv a b))] (· = .tup [.agg [p0,p1,p2,p3,p4],pInt E])):AF Tryz.prog 87 [Zap a,Zap b] (fun p=>((Zfv a b).moves.length≤40001∧p= .tup [.agg [p0,p1,p2,p3,p4],pInt E])∨(20000<(Zfv a b).moves.length∧p= .tup [ZlZ,pInt 13])):=by
 obtain ⟨o0,o1,o2,o3,o4⟩:=r5.o
 obtain ⟨ha,hb,hs⟩:=ZgU hf0
 have hf:=Zkh a b
 rw [hf0] at hf
 have hn0:=ha.n0
 have hn1:=ha.n1
 have k1:=ha.sl
 have k2:=hb.sl
 have k3:=ha.fl
 have k4:=hb.fl
 have m1:=hb.n1
 have kml:=ZoS ha.toAOk hb.toAOk
 have l2:=Zd7 a.n b.fin
 refine AF.of_body 68 Tryz.func87 rfl Tryz.ntmps87 (Xa rfl) ?_
 intro w0 M0 vs hl hv
 obtain ⟨v0,v1,rfl⟩:=ZdW hl
 clear hl hv
 refine nav ?_
 (refine ζa ?_<;>refine ζS 2 5 fun h2=>?_<;>refine ζS 3 5 fun h3=>?_<;>refine ζs [(.int .i64 0),(.int .i64 0),(.slice none 0 0),(.slice none 0 0),(.slice none 0 0)] 5 4 ζL fun h4=>?_<;>refine xL 5 ζc ?_<;>refine ζd ?_)
 (refine ζa ?_<;>(refine yL 12 (ζm 2 ζr) fun v12 h=>?_;cases h)<;>(refine yL 13 (ζm 3 ζr) fun v13 h=>?_;cases h)<;>(refine cS 14 (cA Tryz.call120 (hf)) fun v14 h=>?_;cases h)<;>refine xL 6 ζc ?_<;>refine ζd ?_)
 (refine ζa ?_<;>refine xL 15 ζb (xL 16 ZaN ?_)<;>refine ζd ?_)
 (first|refine cCd ?_ ?_|refine cC ?_ ?_)<;>intro hb16
 · first|omega|exact absurd rfl hb16|exact bN hb16
 · refine nav ?_;(refine ζa ?_<;>(refine yL 19 (ζm 2 ζr) fun v19 h=>?_;cases h)<;>(refine yL 20 (ζm 3 ζr) fun v20 h=>?_;cases h)<;>(refine Zaa [2,3,4] 21 (Tryz.call134) (Znk a b ha.toAOk hb.toAOk _ _) ?_;rintro V21 _ _ ⟨hM0,hM0o,rfl,rfl⟩;have qM:En.one (PV.val hM0)=true:=hM0o)<;>refine ζs [(.int .i64 0),(.int .i64 0),(.slice none 0 0),(.slice none 0 0),(.slice none 0 0)] 5 7 ζL fun h7=>?_<;>refine ζt 7 ζr ?_<;>refine ζd ?_)
   (refine ζV (fun i=>([9,10,11]:List Nat).elem i) [2,3,7] kR ?_<;>refine xDT 0 22 rfl (ζe 2 Zan) ?_<;>(refine yDT 1 23 rfl (ζk 2 ζH) fun v23 h=>?_;cases h)<;>refine xDT 3 25 rfl (ζe 3 Zab) ?_<;>(refine yDT 4 26 rfl (ζk 3 ζH) fun v26 h=>?_;cases h)<;>refine xDT 5 27 rfl (ζe 2 ζX) ?_<;>(refine yDT 6 28 rfl (ζk 2 ζn) fun v28 h=>?_;cases h)<;>(refine ζj 2 kR ?_)<;>(refine ζg rfl fun w9 M9 N9 DQ back=>?_)<;>(refine cO 24 (cA Tryz.call135 (ZfF a.start (by omega))) fun v24 ho24=>?_;refine ζq (En.freeze (l:=24) (t:=24) rfl rfl) fun _=>?_;rw [Zaq _ _ _ rfl])<;>refine ζf (back _ (nrm ?_))<;>refine xDT 8 30 rfl (ζe 7 Zan) ?_<;>(refine ζj 7 kR ?_)<;>(refine ζg rfl fun w9 M9 N9 DQ back=>?_)<;>(refine cO 29 (cA Tryz.call136 (ZdR b.fin a.n (by omega) (by omega) (fun x hx=>by have:=hb.fi x hx;omega))) fun v29 ho29=>?_;refine ζq (En.freeze (l:=29) (t:=29) rfl rfl) fun _=>?_;rw [Zaq _ _ _ rfl])<;>refine ζf (back _ (nrm ?_))<;>(refine ζj 9 kR ?_)<;>(refine Zf5 rfl rfl fun DQ back=>?_)<;>refine Zb7 7 ζH Zcw ?_<;>refine ζf (back _ ?_)<;>(refine ZfI 10 kR rfl rfl fun DQ back=>?_)<;>refine xL 31 (ζe 7 Zab) ?_<;>refine ζf (back _ ?_)<;>(refine ZfI 11 kR rfl rfl fun DQ back=>?_)<;>refine Zb7 7 ζH Zcw ?_<;>refine ζf (back _ ?_)<;>refine ZiE kR (nav ?_)<;>try dsimp only)
   refine ζC (ζI (l:=1000) (p':= .own 93 3 (ctM a b 0).length ((ctM a b 0).flatMap cMv)) rfl (by rw [ZqV])) fun _=>?_;(refine ζa ?_<;>refine xL 32 (ζe 2 Zab) ?_<;>(refine yL 33 (ζk 2 ζH) fun v33 h=>?_;cases h)<;>refine xL 34 (ζ9 ζx) (xL 35 ζb ?_)<;>refine ζd ?_)
   refine ζD (ι:={q:Nat×Value//q.1≤a.fin.length∧q.2.oneCell'=true∧(ctM a b q.1).length≤40001}) (fun k=>⟨[(2,_,_),(3,_,_),(4,_,_),(7,_,_),(33,_,_),(34,_,_),(35, .int .i64 k.1.1,pInt k.1.1)],[(2,_,_),(3,_,_),(4,_,_),(7,h7, .own 39 5 1 [pInt (a.n+b.n),pInt a.syms,pInts a.start,pInts (Zdw a.n b.fin), .val k.1.2]),(1000,k.1.2, .own 93 3 (ctM a b k.1.1).length ((ctM a b k.1.1).flatMap cMv))]⟩) (fun k=>a.fin.length-k.1.1) ⟨(0,hM0),Xf _,hM0o,by show (ctM a b 0).length≤40001;rw [ZqV];omega⟩ (fun a w H=>H.weaken ⟨rfl,rfl,rfl,rfl,rfl,rfl,rfl,trivial⟩ ⟨rfl,rfl,rfl,rfl,rfl,trivial⟩) ?_;rintro ⟨⟨i,hI⟩,hi,hIo,hIl⟩;dsimp only;dsimp only at hi hIo hIl;have q5:En.one (PV.val hI)=true:=hIo;refine nav ?_;(refine ζa ?_<;>refine xL 36 ζP ?_<;>refine ζd ?_)
   (first|refine cCd ?_ ?_|refine cC ?_ ?_)<;>intro hb36
   · first
     |exact bN hb36
     | (
      obtain ⟨f,hf⟩:=ζo (show i<a.fin.length by omega);have e1:=Zbd (f:=pInt) hf;have hfin:=ha.fi f (Xg hf);refine nav ?_;(refine ζa ?_<;>refine xL 37 (ζW ζx) ?_<;>(refine yL 38 (Zc6 ζn) fun v38 h=>?_;cases h)<;>refine xL 9 ζc ?_<;>refine ζd ?_)
      (refine ζa ?_<;>refine xL 39 (ζe 3 Zan) ?_<;>(refine yL 40 (ζk 3 ζH) fun v40 h=>?_;cases h)<;>refine xL 41 (ζ9 ζx) (xL 42 ζb ?_)<;>refine ζd ?_)
      refine ζC (ζI (l:=1000) (p':= .own 93 3 (ctM a b i++Zjx a.n f (b.start.take 0)).length ((ctM a b i++Zjx a.n f (b.start.take 0)).flatMap cMv)) rfl (by rw [show Zjx a.n f (b.start.take 0)=[] from rfl,XA])) fun _=>?_;refine ζD (ι:={q:Nat×Value//q.1≤b.start.length∧q.2.oneCell'=true∧(ctM a b i++Zjx a.n f (b.start.take q.1)).length≤40001}) (fun k=>⟨[(2,_,_),(3,_,_),(4,_,_),(7,_,_),(9,_,_),(33,_,_),(34,_,_),(35,_,_),(40,_,_),(41,_,_),(42, .int .i64 k.1.1,pInt k.1.1)],[(2,_,_),(3,_,_),(4,_,_),(7,h7, .own 39 5 1 [pInt (a.n+b.n),pInt a.syms,pInts a.start,pInts (Zdw a.n b.fin), .val k.1.2]),(1000,k.1.2, .own 93 3 (ctM a b i++Zjx a.n f (b.start.take k.1.1)).length ((ctM a b i++Zjx a.n f (b.start.take k.1.1)).flatMap cMv))]⟩) (fun k=>b.start.length-k.1.1) ⟨(0,hI),Xf _,hIo,by show (ctM a b i++[]).length≤40001;rw [XA];exact hIl⟩ (fun a w H=>H.weaken ⟨rfl,rfl,rfl,rfl,rfl,rfl,rfl,rfl,rfl,rfl,rfl,trivial⟩ ⟨rfl,rfl,rfl,rfl,rfl,trivial⟩) ?_;rintro ⟨⟨j,hJ⟩,hj,hJo,hJl⟩;dsimp only;dsimp only at hj hJo hJl;have q6:En.one (PV.val hJ)=true:=hJo;refine nav ?_;(refine ζa ?_<;>refine xL 43 ζP ?_<;>refine ζd ?_)
      (first|refine cCd ?_ ?_|refine cC ?_ ?_)<;>intro hb43
      · first
        |exact bN hb43
        | (
         obtain ⟨s,hs⟩:=ζo (show j<b.start.length by omega);have e2:=Zbd (f:=pInt) hs;have hsin:=hb.st s (Xg hs);have hpart:=ZBg f (by omega:i<a.fin.length) hj;refine nav ?_;(refine ζa ?_<;>refine xL 44 (ζW ζx) ?_<;>(refine yL 45 (Zc6 ζn) fun v45 h=>?_;cases h)<;>refine xL 11 ζc ?_<;>refine ζd ?_)
         (refine ζa ?_<;>refine xL 46 (ζe 7 ζw) ?_<;>(refine yL 47 (ζk 7 ζF) fun v47 h=>?_;cases h)<;>refine xL 48 (Zbw 1000 ζG) (xL 49 ZaQ ?_)<;>refine ζd ?_)
         (first|refine cCd ?_ ?_|refine cC ?_ ?_)<;>intro hb49
         · first
           |exact bN hb49
           | (
            refine nav ?_;(refine ζa ?_<;>refine xL 50 (ζB ζN) ?_<;>refine ζt 4 ζr ?_<;>refine xL 5 ζc ?_<;>refine ζd ?_)
            exact ZaI (k:=5) 4 kR (Tryz.results87) rfl rfl rfl (Xa rfl) (by decide) rfl (.inr ⟨by omega,rfl⟩))
         · first
           |exact bN hb49
           | (
            refine nav ?_;(refine ζa ?_<;>refine xL 51 (ζe 7 ζw) ?_<;>(refine yL 52 (ζk 7 ζF) fun v52 h=>?_;cases h)<;>refine xL 53 ζb (xL 54 ζb (xL 55 (ζe 2 ζX) ?_))<;>(refine yL 56 (ζk 2 ζn) fun v56 h=>?_;cases h)<;>refine xL 57 ζM (xL 58 (ζB ZbK) ?_)<;>refine Zbi 59 ζR fun h59 ho59=>?_<;>(refine ZbH 1000 59 60 ζR fun h60 ho60=>?_;refine ζq (ζJ (l:=60) 1000 rfl rfl) fun _=>?_;refine ζq (ζI (l:=1000) rfl ((Zcb _ (ctM a b i++Zjx a.n f (b.start.take j)) ⟨f,s+a.n,-1⟩).trans (by rw [Xw,←ZmG a.n f hs]))) fun _=>?_;have q60:En.one (PV.val h60)=true:=ho60)<;>refine xL 61 (ζe 7 ζw) ?_<;>refine Zb7 7 ζF Za6 ?_<;>refine ζd ?_)
            (refine ζa ?_<;>refine xL 62 ζM (xL 42 ζb ?_)<;>refine ζd ?_)
            (have hl3:(ctM a b i++Zjx a.n f (b.start.take (j+1))).length≤40001:=by rw [ZmG a.n f hs,←Xw,Xd,Xz];omega);refine ζh (
             ⟨(j+1,h60),ζi hs,ho60,hl3⟩
             ) (by dsimp only;omega) ⟨rfl,rfl,rfl,rfl,rfl,rfl,rfl,rfl,rfl,rfl,rfl,trivial⟩ ⟨rfl,rfl,rfl,rfl,rfl,trivial⟩))
      · first
        |exact bN hb43
        | (
         (have hctS:ctM a b i++Zjx a.n f (b.start.take j)=ctM a b (i+1):=by rw [Xn (show b.start.length≤j by omega),Zx9 hf]);rw [hctS] at hJl;refine ζC (ζI (l:=1000) (p':= .own 93 3 (ctM a b (i+1)).length ((ctM a b (i+1)).flatMap cMv)) rfl (by rw [hctS])) fun _=>?_;refine nav ?_;(refine ζa ?_<;>refine xL 63 ζM (xL 35 ζb ?_)<;>refine ζd ?_)
         refine ζh (
          ⟨(i+1,hJ),ζi hf,hJo,hJl⟩
          ) (by dsimp only;omega) ⟨rfl,rfl,rfl,rfl,rfl,rfl,rfl,trivial⟩ ⟨rfl,rfl,rfl,rfl,rfl,trivial⟩))
   · first
     |exact bN hb36
     | (
      have hctA:=ZBf a b (show a.fin.length≤i by omega);rw [hctA] at hIl;have hr:=hr hIl;refine ζC (ζI (l:=1000) (p':= .own 93 3 (Zfv a b).moves.length ((Zfv a b).moves.flatMap cMv)) rfl (by rw [hctA])) fun _=>?_;refine nav ?_;(refine ζa ?_<;>(refine yL 64 (ζm (k:=5) (ps:=[pInt (a.n+b.n),pInt a.syms,pInts a.start,pInts (Zdw a.n b.fin),PV.val hI]) 7 kR) fun v64 h=>?_;cases h)<;>(refine ζ3 [(1000,hI,PV.own 93 3 (Zfv a b).moves.length ((Zfv a b).moves.flatMap cMv)),(2,_,_),(3,_,_),(4,_,_),(7,_,_)] ⟨rfl,rfl,rfl,rfl,rfl,trivial⟩ ?_;refine Zaa [2,3,4,7] 65 (Tryz.call137) (Zov (Zfv a b) (by omega) (ZmI ha hb) _ hI hIo r5 hr) ?_;rintro _ _ _ ⟨⟨V1,rfl⟩,rfl,rfl⟩)<;>refine xL 66 ζl (xL 67 ζl ?_)<;>refine ζt 4 ζr ?_<;>refine xL 5 ζc ?_<;>refine ζd ?_)
      exact ZaI (k:=5) 4 kR (Tryz.results87) rfl rfl rfl (Xa rfl) (by decide) r5.s (.inl ⟨hIl,rfl⟩))
theorem Zi2 (a b:Aut):AF Tryz.prog 87 [Zap a,Zap b] (· =resW (ZtP a b)):=by
 unfold ZtP
 by_cases h0:ZgG a b=0
 · rw [if_neg (fun h=>h h0)];obtain ⟨ha,hb,hs⟩:=ZgU h0;have h13:20000<(Zfv a b).moves.length→Zfu (Zfv a b)= .error 13:=fun h=>by
    rw [Zxe ha hb hs,Zuc ha hb (.inr (by rw [←Zox];exact h))]
   rcases Xq 40001 (Zfv a b).moves.length with hl|hl
   · refine (Znl a b h0 R5.raw (E:=13) fun h=>by omega).mono fun p hp=>?_;rw [h13 (by omega)];rcases hp with ⟨h,_⟩|⟨_,h⟩
     · omega
     · exact h
   · obtain ⟨p0,p1,p2,p3,p4,E,h5,h2,hr⟩:=Ze4 (Zfv a b) (by omega) (Zk4 ha hb hs);refine (Znl a b h0 h5 fun _=>hr).mono fun p hp=>?_;rcases hp with ⟨_,h⟩|⟨hl2,h⟩
     · rw [h2];exact h
     · rw [h13 hl2];exact h
 · rw [if_pos h0];exact ZoT a b _ h0 (Zkh a b)
theorem Zya (L:List Mv) (k:Nat) (x:Mv) (h:k<L.length):Zhu (L.flatMap cMv) (k*3) (cMv x)=(L.set k x).flatMap cMv:=by
 have e:L=L.take k++[L[k]]++L.drop (k+1):=by
  rw [Xw,List.singleton_append,List.getElem_cons_drop,Vt]
 have e2:L.set k x=L.take k++[x]++L.drop (k+1):=by
  rw [List.set_eq_take_append_cons_drop,if_pos h,Xw];rfl
 rw [e2]
 conv=>lhs;rw [e]
 simp only [XX,Vy]
 exact Ztn (α:=Int) (cMv x) _ _ _ _ (by rw [flat_len ζ0,Xt,XV (VZ h)]) rfl
theorem ZC6 {x y:Mv} (h:¬Zfs x y<0):y=x∨Zd3 y x=true:=by
 rw [ZcR] at h
 cases h2:Zd3 y x with
 |true=>exact .inr rfl
 |false=>exact .inl (ZhM h2 (by simpa using h))
theorem ZC7 {l:List Mv} (h:1≤l.length):mkM (l.take 1)=l.take 1:=by
 cases l with
 |nil=>simp at h
 |cons x l=>rfl
theorem Zvo {l:List Mv} {p:Nat} {x y:Mv} (hy:l[p]? =some y) (hx:l[p+1]? =some x) (he:eqM x y=true):mkM (l.take (p+1+1))=mkM (l.take (p+1)):=by
 have e:=ZcK.1 he
 subst e
 refine Zf1 (Zd6 _) (Zd6 _) fun z=>?_
 rw [ZcL,ZcL,ζU hx,Xp,Xi]
 exact ⟨fun h=>h.elim id fun h=>by subst h;rw [ζU hy];exact X6 _ (Xi.2 rfl), .inl⟩
theorem ZzB {l:List Mv} (hs:ZmW l) {p:Nat} {x y:Mv} (hy:l[p]? =some y) (hx:l[p+1]? =some x) (he:eqM x y=false):mkM (l.take (p+1+1))=mkM (l.take (p+1))++[x]:=by
 have hyx:Zd3 y x=true:=by
  rcases ZC6 (hs p (p+1) y x (by omega) hy hx) with h|h
  · subst h;rw [ZcK.2 rfl] at he;cases he
  · exact h
 refine (ZtF ?_ fun z=>?_).symm
 · refine V7.2 ⟨Zd6 _,Vx ..,fun z hz w hw=>?_⟩;rw [Xi.1 hw];rw [ZcL] at hz;obtain ⟨i,hi⟩:=Vc hz;have hi':=ζi hi;rw [Xt] at hi';rw [XW (by omega)] at hi;by_cases e:i=p
   · subst e;rw [hi] at hy;cases hy;exact hyx
   · rcases ZC6 (hs i p z y (by omega) hi hy) with h|h
     · subst h;exact hyx
     · exact ZfH h hyx
 · rw [Xp,ZcL,Xi,ζU hx,Xp,Xi]
theorem ZBh {hv:Value} (h:hv.oneCell'=true) (i j k:Nat):(slc hv i j k).oneCell'=true:=by
 unfold slc;split
 · rfl
 · exact h
set_option maxHeartbeats 2000000 in
theorem ZoU (l : List Mv) (hl:l.length≤1000000) (hs:ZmW l) (hv:Value) (hvo:hv.oneCell'=true):AFh False Tryz.prog 189 [(0,hv, .val hv)] [(1000,hv, .own 93 3 l.length (l.flatMap cMv))] (fun v q h=>v.oneCell'=true∧q= .val v∧h=[(1000,v, .own 93 3 (mkM l).length ((mkM l).flatMap cMv))]):=by
 refine AFh.of_body 61 Tryz.func189 rfl Tryz.ntmps189 (Xa rfl) rfl ?_
 intro w0 M0 N0
 refine nav ?_
 (refine ζa ?_<;>refine xL 2 ζc ?_<;>refine ζd ?_)
 (refine ζa ?_<;>refine xL 6 ζb (xL 7 (Zbw 1000 ζG) (xL 8 ζP ?_))<;>refine ζd ?_)
 (first|refine cCd ?_ ?_|refine cC ?_ ?_)<;>intro hb8
 · first
   |exact bN hb8
   | (
    refine nav ?_;(refine ζa ?_<;>refine xL 9 ζb (xL 2 ζc ?_)<;>refine ζd ?_)
    refine ZfE [(1000,hv,PV.own 93 3 l.length (l.flatMap cMv))] (Tryz.results189) rfl ⟨rfl,trivial⟩ ⟨hvo,rfl,?_⟩;have hm:mkM l=l:=by
     match l,hl,hb8 with
     |[],_,_=>rfl
     |[_],_,_=>rfl
     |_::_::_,_,h=>simp at h;omega
    rw [hm])
 · first
   |exact bN hb8
   | (
    refine nav ?_;(refine ζa ?_<;>refine xL 3 ζc ?_<;>refine ζd ?_)
    refine ζD (ι:={k:Nat//1≤k∧k≤l.length∧mkM (l.take k)=l.take k}) (fun k=>⟨[(0,_,_),(3, .int .i64 k.1,pInt k.1)],[(1000,_,_)]⟩) (fun k=>l.length-k.1) ⟨1,Xb _,by omega,ZC7 (by omega)⟩ (fun a w H=>H.weaken ⟨rfl,rfl,trivial⟩ ⟨rfl,trivial⟩) ?_;rintro ⟨k1,hk1,hk,hmk⟩;dsimp only;obtain ⟨k,rfl⟩:∃k,k1=k+1:=⟨k1-1,by omega⟩;refine nav ?_;(refine ζa ?_<;>refine xL 10 ζb (xL 11 ζb (xL 12 (Zbw 1000 ζG) (xL 13 ζP ?_)))<;>refine ζd ?_)
    (first|refine cCd ?_ ?_|refine cC ?_ ?_)<;>intro hb13
    · first
      |exact bN hb13
      | (
       obtain ⟨x,hx⟩:=ζo (show k+1<l.length by omega);obtain ⟨y,hy⟩:=ζo (show k<l.length by omega);have e1:=Zad ζ0 l (k+1) x hx;have e2:=ZaE ζ0 hx;(have e3:((l.flatMap cMv).drop ((((k+1:Nat):Int)-1).toNat*3)).take 3=cMv y:=by rw [show (((k+1:Nat):Int)-1).toNat*3=k*3 by omega];exact Zad ζ0 l k y hy);have e4:=ZaE ζ0 hy;have hlt:k+1<l.length:=ζi hx;refine nav ?_;(refine ζV (fun i=>([]:List Nat).elem i) [1000] kR ?_<;>refine xD 0 16 rfl ζb ?_<;>refine xD 1 17 rfl ζb ?_<;>refine xD 2 18 rfl (ζu 1000 ζG) ?_<;>(refine yD 3 19 rfl (ζm 1000 ζT) fun v19 h=>?_;cases h)<;>refine xD 4 20 rfl ζb ?_<;>refine xE 5 21 rfl ζb ?_<;>refine xE 6 22 rfl ZgB ?_<;>refine xE 7 23 rfl (Zma 1000 ζG) ?_<;>(refine yE 8 24 rfl (ζm 1000 ζT) fun v24 h=>?_;cases h)<;>refine xE 9 25 rfl ((ZtA (us:=vMv x) (us':=vMv y) ZCH ZCI ZCJ (ZeG x y) rfl rfl)) ?_<;>refine Zae kR (nav ?_)<;>try dsimp only)
       (first|refine cCd ?_ ?_|refine cC ?_ ?_)<;>intro hb25
       · first
         |exact bN hb25
         | (
          have hsm:=Zvo hy hx (by simpa using hb25);(have hl1:(mkM (l.take (k+1+1))).length=k+1:=by rw [hsm,hmk,Xt];omega);refine nav ?_;(refine ζa ?_<;>refine xL 26 ζb (xL 27 ζb ?_)<;>refine xL 28 (ZdA (i:=k+1) (j:=l.length) 1000 ζG rfl rfl rfl rfl rfl (VZ hlt) (Xb _)) ?_<;>refine xL 4 ζc ?_<;>refine ζd ?_)
          (refine ζa ?_<;>refine xL 5 ζc ?_<;>refine ζd ?_)
          refine ζD (ι:={q:Nat×Nat×List Mv//1≤q.1∧k+1+q.1≤l.length∧q.2.1=(mkM (l.take (k+1+q.1))).length∧q.2.2.length=l.length∧q.2.2.take q.2.1=mkM (l.take (k+1+q.1))∧q.2.1≤k+q.1∧∀i,k+q.1≤i→q.2.2[i]? =l[i]? }) (fun k=>⟨[(0,_,_),(4,_,_),(3, .int .i64 k.1.2.1,pInt k.1.2.1),(5, .int .i64 k.1.1,pInt k.1.1)],[(1000,hv, .own 93 3 l.length (k.1.2.2.flatMap cMv))]⟩) (fun k=>l.length-k.1.1) ⟨(1,k+1,l),Xb _,by dsimp only;omega,hl1.symm,rfl,by dsimp only;rw [hsm,hmk],Xb _,fun i _=>rfl⟩ (fun a w H=>H.weaken ⟨rfl,rfl,rfl,rfl,trivial⟩ ⟨rfl,trivial⟩) ?_;rintro ⟨⟨j,K,L⟩,hj1,hj,hK,hLl,hLt,hKj,hLr⟩;dsimp only;dsimp only at hj1 hj hK hLl hLt hKj hLr;obtain ⟨j',rfl⟩:∃j',j=j'+1:=⟨j-1,by omega⟩;(have hK2:(K:Int)≤1000000:=by omega);rw [show k+1+(j'+1)=k+1+j'+1 from rfl] at hK hLt;refine nav ?_;(refine ζa ?_<;>refine xL 29 ζb (xL 30 ζb ?_)<;>refine xL 31 ((Znd (a:=k+1) (m:=l.length-(k+1)) 1000 ζG rfl rfl rfl rfl)) ?_<;>refine xL 32 ζP ?_<;>refine ζd ?_)
          (first|refine cCd ?_ ?_|refine cC ?_ ?_)<;>intro hb32
          · first
            |exact bN hb32
            | (
             obtain ⟨u,hu⟩:=ζo (show k+1+(j'+1)<l.length by omega);obtain ⟨v,hv2⟩:=ζo (show k+1+j'<l.length by omega);(have hu':L[k+1+(j'+1)]? =some u:=by rw [hLr _ (by omega)];exact hu);(have hv':L[k+1+j']? =some v:=by rw [hLr _ (by omega)];exact hv2);have g1:=Zad ζ0 L _ u hu';have g2:=ZaE ζ0 hu';have g3:=Zad ζ0 L _ v hv';have g4:=ZaE ζ0 hv';(have g5:K<L.length:=by omega);(have g6:K*3+3≤(L.flatMap cMv).length:=by rw [flat_len ζ0];omega);refine nav ?_;(refine ζV (fun i=>([]:List Nat).elem i) [1000] kR ?_<;>refine xD 0 35 rfl ζb ?_<;>refine xD 1 36 rfl ζb ?_<;>refine xD 2 37 rfl ((ZdP (a:=k+1) (m:=(k+1+(j'+1))*3) 1000 ζG rfl rfl rfl rfl (by omega) (by omega) (by omega))) ?_<;>(refine yD 3 38 rfl (ζm 1000 ζT) fun v38 h=>?_;cases h)<;>refine xD 4 39 rfl ζb ?_<;>refine xE 5 40 rfl ζb ?_<;>refine xE 6 41 rfl ZgB ?_<;>refine xE 7 42 rfl ((ZdP (a:=k+1) (m:=(k+1+j')*3) 1000 ζG rfl rfl rfl rfl (by omega) (by omega) (by omega))) ?_<;>(refine yE 8 43 rfl (ζm 1000 ζT) fun v43 h=>?_;cases h)<;>refine xE 9 44 rfl ((ZCx (us:=vMv u) (us':=vMv v) ZCH ZCI ZCJ (ZeG u v) rfl rfl)) ?_<;>refine Zae kR (nav ?_)<;>try dsimp only)
             (first|refine cCd ?_ ?_|refine cC ?_ ?_)<;>intro hb44
             · first
               |exact bN hb44
               | (
                have hnw2:=ZzB hs hv2 hu (by simpa using hb44);have hset:=Zya L K u g5;(have hlen2:K+1=(mkM (l.take (k+1+j'+1+1))).length:=by rw [hnw2,Xd,Xz,hK]);have htk2:(L.set K u).take (K+1)=mkM (l.take (k+1+j'+1+1)):=by
                 rw [hnw2,←hLt,List.take_set,ζU (XE g5),Us _ _ (by rw [Xt];omega),Xt,XV (by omega),VB];rfl
                refine nav ?_;(refine ζa ?_<;>refine xL 45 ζb (xL 46 ζb (xL 47 ζb (xL 48 ζb ?_)))<;>refine xL 49 ((ZdP (a:=k+1) (m:=(k+1+(j'+1))*3) 1000 ζG rfl rfl rfl rfl (by omega) (by omega) (by omega))) ?_<;>(refine yL 50 (ζm 1000 ζT) fun v50 h=>?_;cases h)<;>refine xL 51 (ζu 1000 ζG) ?_<;>refine ζt 1000 ζT ?_<;>refine ζd ?_)
                (refine ζa ?_<;>refine xL 52 ζb (xL 53 ζM (xL 3 ζc ?_))<;>refine ζd ?_)
                (refine ζa ?_<;>refine xL 33 ζb (xL 34 ζM (xL 5 ζc ?_))<;>refine ζd ?_)
                try rw [hset]
                first
                 | (exact ζh (
                     ⟨(j'+1+1,K+1,L.set K u),by dsimp only;omega,by dsimp only;omega,hlen2,by dsimp only;rw [Xr];exact hLl,htk2,by dsimp only;omega,fun i hi=>by dsimp only at hi ⊢;rw [X' (by omega)];exact hLr i (by omega)⟩
                     ) (by dsimp only;omega) ⟨rfl,rfl,rfl,rfl,trivial⟩ ⟨rfl,trivial⟩)
                 | (exact ζh (
                     ⟨(j'+1+1,K,L),by dsimp only;omega,by dsimp only;omega,hK.trans (by rw [show k+1+(j'+1+1)=k+1+j'+1+1 by omega,hsm2]),hLl,hLt.trans (by rw [show k+1+(j'+1+1)=k+1+j'+1+1 by omega,hsm2]),by dsimp only;omega,fun i hi=>hLr i (by dsimp only at hi;omega)⟩
                     ) (by dsimp only;omega) ⟨rfl,rfl,rfl,rfl,trivial⟩ ⟨rfl,trivial⟩))
             · first
               |exact bN hb44
               | (
                have hsm2:=Zvo hv2 hu (by simpa using hb44);refine nav ?_;(refine ζa ?_<;>refine xL 33 ζb (xL 34 ζM (xL 5 ζc ?_))<;>refine ζd ?_)
                try rw [hset]
                first
                 | (exact ζh (
                     ⟨(j'+1+1,K+1,L.set K u),by dsimp only;omega,by dsimp only;omega,hlen2,by dsimp only;rw [Xr];exact hLl,htk2,by dsimp only;omega,fun i hi=>by dsimp only at hi ⊢;rw [X' (by omega)];exact hLr i (by omega)⟩
                     ) (by dsimp only;omega) ⟨rfl,rfl,rfl,rfl,trivial⟩ ⟨rfl,trivial⟩)
                 | (exact ζh (
                     ⟨(j'+1+1,K,L),by dsimp only;omega,by dsimp only;omega,hK.trans (by rw [show k+1+(j'+1+1)=k+1+j'+1+1 by omega,hsm2]),hLl,hLt.trans (by rw [show k+1+(j'+1+1)=k+1+j'+1+1 by omega,hsm2]),by dsimp only;omega,fun i hi=>hLr i (by dsimp only at hi;omega)⟩
                     ) (by dsimp only;omega) ⟨rfl,rfl,rfl,rfl,trivial⟩ ⟨rfl,trivial⟩)))
          · first
            |exact bN hb32
            | (
             have hall:l.take (k+1+j'+1)=l:=Xn (by omega);rw [hall] at hK hLt;(have hKl:K≤l.length:=by omega);refine nav ?_;(refine ζa ?_<;>refine xL 54 ζb (xL 55 ζb ?_)<;>refine xL 56 (ZdA (i:=K) (j:=l.length) 1000 ζG rfl rfl rfl rfl rfl hKl (Xb _)) ?_<;>(refine ZpO 1000 ζR (by decide) rfl rfl rfl rfl rfl hKl ?_;intro cs2 hcs1 hcs2)<;>refine ζd ?_)
             (refine ζa ?_<;>refine xL 57 ζb (xL 58 ζb ?_)<;>refine xL 59 (ZdA (i:=0) (j:=K) 1000 ζG rfl rfl rfl rfl rfl (Xf _) hKl) ?_<;>refine xL 2 ζc ?_<;>refine ζd ?_)
             refine Zcr (ZEj (l:=1000) K rfl hKl) fun _=>?_;refine ZfE [(1000,slc hv 0 K 3,PV.own 93 3 K (cs2.take (K*3)))] (Tryz.results189) rfl ⟨rfl,trivial⟩ ⟨ZBh hvo _ _ _,rfl,?_⟩;rw [hcs2,←hLt,ZgK ζ0];rw [show (L.take K).length=K by rw [Xt];omega]))
       · first
         |exact bN hb25
         | (
          have hnw:=ZzB hs hy hx (by simpa using hb25);rw [hmk,←ζU hx] at hnw;refine nav ?_;(refine ζa ?_<;>refine xL 14 ζb (xL 15 ζM (xL 3 ζc ?_))<;>refine ζd ?_)
          refine ζh (
           ⟨k+1+1,by omega,by omega,hnw⟩
           ) (by dsimp only;omega) ⟨rfl,rfl,trivial⟩ ⟨rfl,trivial⟩))
    · first
      |exact bN hb13
      | (
       refine nav ?_;(refine ζa ?_<;>refine xL 60 ζb (xL 2 ζc ?_)<;>refine ζd ?_)
       refine ZfE [(1000,hv,PV.own 93 3 l.length (l.flatMap cMv))] (Tryz.results189) rfl ⟨rfl,trivial⟩ ⟨hvo,rfl,?_⟩;rw [Xn (show l.length≤k+1 by omega)] at hmk;rw [hmk]))
theorem ZBi {l m:List Mv} (h:l.Perm m):mkM l=mkM m:=ZtF (Zd6 l) fun x=>by rw [ZcL];exact h.mem_iff
theorem ZBj (a:Aut) (hl:a.moves.length≤1000000) (V hM:Value) (hMo:hM.oneCell'=true) {p0 p1 p2 p3 p4:PV} {E:Int} (h5:R5 p0 p1 p2 p3 p4) (hr:AF Tryz.prog 132 [Zap (mkA a)] (· = .tup [.agg [p0,p1,p2,p3,p4],pInt E])):AFh False Tryz.prog 137 [(0,V, .agg [pInt a.n,pInt a.syms,pInts a.start,pInts a.fin, .val hM])] [(1000,hM, .own 93 3 a.moves.length (a.moves.flatMap cMv))] (fun v q h=>(∃V1:Value,v= .tuple [V1, .int .i64 E].toArray)∧q= .tup [.agg [p0,p1,p2,p3,p4],pInt E]∧h=[]):=by
 obtain ⟨o0,o1,o2,o3,o4⟩:=h5.o
 refine AFh.of_body 15 Tryz.func137 rfl Tryz.ntmps137 (Xa rfl) rfl ?_
 intro w0 M0 N0
 have hone:En.one (PV.val hM)=true:=hMo
 refine nav ?_
 (refine ζa ?_<;>refine ζS 1 5 fun h1=>?_<;>refine ζs [(.int .i64 0),(.int .i64 0),(.slice none 0 0),(.slice none 0 0),(.slice none 0 0)] 5 2 ζL fun h2=>?_<;>refine xL 3 ζc ?_<;>refine ζd ?_)
 (refine ζa ?_<;>refine xL 4 (ζe 1 ζw) ?_<;>(refine yL 5 (ζk 1 ζF) fun v5 h=>?_;cases h)<;>(rcases VV a.moves.length with h0|h0<;>first|(refine ζq (ζI (l:=1000) (p':= .own 93 3 0 []) rfl (by rw [XP h0];rfl)) fun _=>?_;refine Zqq (l:=1000) ZiH rfl rfl (Xa rfl) rfl (Tryz.call188) rfl rfl rfl ?_;obtain ⟨rows',hperm,hord⟩:∃rows':List Mv,rows'.Perm a.moves∧ZmW rows':=⟨[],by rw [XP h0],fun i j x y _ h=>by simp at h⟩;refine ζq (ζI (l:=1000) (p':= .own 93 3 rows'.length (rows'.flatMap cMv)) rfl (by rw [XP (hperm.length_eq.trans h0)];rfl)) fun _=>?_)|(refine Ztc (l:=1000) (β:=Mv) (f:=cMv) (cmp:=Zfs) (rows:=a.moves) Zqt ζ0 (by decide) (fun _=>rfl) ZmV Zqr Zqs (fun x y M W u v _ _ hu hv=>ZmX x y M W u v hu hv) h0 (by omega) rfl rfl (Xa rfl) rfl (Tryz.call188) rfl rfl rfl (fun rows' hperm hord=>?_);refine ζq (ζI (l:=1000) (p':= .own 93 3 rows'.length (rows'.flatMap cMv)) rfl (by rw [hperm.length_eq])) fun _=>?_))<;>refine ζd ?_)<;>(
  (refine ζa ?_<;>refine xL 7 (ζe 1 ζw) ?_<;>(refine yL 8 (ζk 1 ζF) fun v8 h=>?_;cases h)<;>(refine ζ3 [(1000,hM,PV.own 93 3 rows'.length (rows'.flatMap cMv)),(1,_,_),(2,_,_)] ⟨rfl,rfl,rfl,trivial⟩ ?_;refine Zaa [1,2] 9 (Tryz.call189) (ZoU rows' (by have:=hperm.length_eq;omega) hord hM hMo) ?_;rintro v9 _ _ ⟨hv9,rfl,rfl⟩;refine ζq (ζI (l:=1000) (p':= .own 93 3 (mkM a.moves).length ((mkM a.moves).flatMap cMv)) rfl (by rw [ZBi hperm])) fun _=>?_;have hone9:En.one (PV.val v9)=true:=hv9)<;>refine xL 10 (ζe 1 ζw) ?_<;>refine Zb7 1 ζF Za6 ?_<;>refine ζd ?_)
  refine ζC (ZaW (l:=1) (l':=1000) (j:=4) rfl rfl rfl rfl) fun _=>?_;rw [Zf6 _ _ _ rfl];(refine ζa ?_<;>(refine yL 11 (ζm 1 ζr) fun v11 h=>?_;cases h)<;>(refine cP 12 (cA Tryz.call132 hr) (fun va12 vb12 hva12 hvb12=>?_) (hsh:=h5.t E);cases hvb12)<;>refine xL 13 ζl (xL 14 ζl ?_)<;>refine ζt 2 ζr ?_<;>refine xL 3 ζc ?_<;>refine ζd ?_)
  exact Zt8 (k:=5) 2 [] kR (Tryz.results137) rfl rfl rfl (Xa rfl) (by decide) h5.s trivial fun V=>⟨⟨V,rfl⟩,rfl,rfl⟩)
theorem Zhi {x y X Y:Int} (hx:0≤x∧x≤X) (hy:0≤y∧y≤Y):0≤x*y∧x*y≤X*Y:=⟨Int.mul_nonneg hx.1 hy.1,Int.mul_le_mul hx.2 hy.2 hy.1 (by omega)⟩
def Zr4 (m:Int) (x:Mv) (j:Nat):List Mv:=(List.range j).map fun j=>⟨x.src*m+(j:Nat),x.dst*m+(j:Nat),x.sym⟩
theorem Zvp (m:Int) (x:Mv) (j:Nat):Zr4 m x (j+1)=Zr4 m x j++[⟨x.src*m+(j:Nat),x.dst*m+(j:Nat),x.sym⟩]:=by unfold Zr4;rw [List.range_succ,XC];rfl
def Zr5 (m:Int) (x:Mv) (i:Nat):List Mv:=(List.range i).map fun i=>⟨(i:Nat)*m+x.src,(i:Nat)*m+x.dst,x.sym⟩
theorem Zvq (m:Int) (x:Mv) (i:Nat):Zr5 m x (i+1)=Zr5 m x i++[⟨(i:Nat)*m+x.src,(i:Nat)*m+x.dst,x.sym⟩]:=by unfold Zr5;rw [List.range_succ,XC];rfl
def smA (a b:Aut) (k:Nat):List Mv:=(a.moves.take k).flatMap (shL b.n)
def smB (a b:Aut) (k:Nat):List Mv:=a.moves.flatMap (shL b.n)++(b.moves.take k).flatMap (shR a.n b.n)
theorem Zyb {a b:Aut} {k:Nat} {x:Mv} (h:a.moves[k]? =some x):smA a b (k+1)=smA a b k++Zr4 b.n x b.n.toNat:=by unfold smA;rw [ζU h,XX,Vy];rfl
theorem Zyc {a b:Aut} {k:Nat} {x:Mv} (h:b.moves[k]? =some x):smB a b (k+1)=smB a b k++Zr5 b.n x a.n.toNat:=by unfold smB;rw [ζU h,XX,Vy,Xw];rfl
theorem ZBk {a b:Aut} {k:Nat} (h:a.moves.length≤k):smA a b k=smB a b 0:=by unfold smA smB;rw [Xn h];exact (XA _).symm
theorem ZBl {a b:Aut} {k:Nat} (h:b.moves.length≤k):smB a b k=(Zc8 a b).moves:=by unfold smB;rw [Xn h];rfl
theorem Zh2 (a b:Aut):(Zc8 a b).moves.length=a.moves.length*b.n.toNat+b.moves.length*a.n.toNat:=by
 show (a.moves.flatMap (shL b.n)++b.moves.flatMap (shR a.n b.n)).length=_
 rw [Xd,flat_len (Zoz b.n),flat_len (Zug a.n b.n)]
theorem Zyd {a b:Aut} {k j:Nat} (x:Mv) (hk:k<a.moves.length) (hj:j≤b.n.toNat):(smA a b k++Zr4 b.n x j).length≤(Zc8 a b).moves.length:=by
 rw [Zh2]
 unfold smA Zr4
 rw [Xd,flat_len (Zoz b.n),Xt,Xh,Uj,XV (VZ hk)]
 have h1:(k+1)*b.n.toNat≤a.moves.length*b.n.toNat:=Va _ hk
 rw [XS] at h1
 omega
theorem Zye {a b:Aut} {k i:Nat} (x:Mv) (hk:k<b.moves.length) (hi:i≤a.n.toNat):(smB a b k++Zr5 b.n x i).length≤(Zc8 a b).moves.length:=by
 rw [Zh2]
 unfold smB Zr5
 rw [Xd,Xd,flat_len (Zoz b.n),flat_len (Zug a.n b.n),Xt,Xh,Uj,XV (VZ hk)]
 have h1:(k+1)*a.n.toNat≤b.moves.length*a.n.toNat:=Va _ hk
 rw [XS] at h1
 omega
theorem ZqW {m:Int} {l k:List Int} {i:Nat} {x:Int} (h:l[i]? =some x):shI m (l.take (i+1)) k=shI m (l.take i) k++Zdw (x*m) k:=by unfold shI;rw [ζU h,XX,Vy]
theorem Zvr (m:Int) (l k:List Int):(shI m l k).length=l.length*k.length:=flat_len (fun x=>Zd7 _ _) l
theorem Znm (a b:Aut) (e:Int) (he:¬e=0) (hf:AF Tryz.prog 120 [Zap a,Zap b] (· =pInt e)):AF Tryz.prog 89 [Zap a,Zap b] (· = .tup [ZlZ,pInt e]):=by
 refine AF.of_body 162 Tryz.func89 rfl Tryz.ntmps89 (Xa rfl) ?_
 intro w0 M0 vs hl hv
 obtain ⟨v0,v1,rfl⟩:=ZdW hl
 clear hl hv
 refine nav ?_
 (refine ζa ?_<;>refine ζS 2 5 fun h2=>?_<;>refine ζS 3 5 fun h3=>?_<;>refine ζs [(.int .i64 0),(.int .i64 0),(.slice none 0 0),(.slice none 0 0),(.slice none 0 0)] 5 4 ζL fun h4=>?_<;>refine xL 5 ζc ?_<;>refine ζd ?_)
 (refine ζa ?_<;>(refine yL 20 (ζm 2 ζr) fun v20 h=>?_;cases h)<;>(refine yL 21 (ζm 3 ζr) fun v21 h=>?_;cases h)<;>(refine cS 22 (cA Tryz.call120 (hf)) fun v22 h=>?_;cases h)<;>refine xL 6 ζc ?_<;>refine ζd ?_)
 (refine ζa ?_<;>refine xL 23 ζb (xL 24 ZaN ?_)<;>refine ζd ?_)
 (first|refine cCd ?_ ?_|refine cC ?_ ?_)<;>intro hb24
 · refine nav ?_;(refine ζa ?_<;>refine xL 25 (ζB ζN) (xL 26 ζb ?_)<;>refine ζt 4 ζr ?_<;>refine xL 5 ζc ?_<;>refine ζd ?_)
   exact ZaI (k:=5) 4 kR (Tryz.results89) rfl rfl rfl (Xa rfl) (by decide) rfl rfl
 · exact absurd (by simpa using hb24) he
set_option maxHeartbeats 8000000 in
theorem Zki (a b : Aut) (hf0:ZgG a b=0) {p0 p1 p2 p3 p4:PV} {E:Int} (r5:R5 p0 p1 p2 p3 p4) (hr:(Zc8 a b).moves.length≤40000→AF Tryz.prog 132 [Zap (mkA (Zc8 a b))] (· = .tup [.agg [p0,p1,p2,p3,p4],pInt E])):AF Tryz.prog 89 [Zap a,Zap b] (· =if 2000<a.n*b.n∨40000<(a.moves.length:Int)*b.n+(b.moves.length:Int)*a.n then .tup [ZlZ,pInt 13] else .tup [.agg [p0,p1,p2,p3,p4],pInt E]):=by
 obtain ⟨o0,o1,o2,o3,o4⟩:=r5.o
 obtain ⟨ha,hb,hs⟩:=ZgU hf0
 have hf:=Zkh a b
 rw [hf0] at hf
 have hn0:=ha.n0
 have hn1:=ha.n1
 have m0:=hb.n0
 have m1:=hb.n1
 have k1:=ha.sl
 have k2:=hb.sl
 have k3:=ha.fl
 have k4:=hb.fl
 have k5:=ha.ml
 have k6:=hb.ml
 have q1:=Zhi (x:=a.n) (y:=b.n) ⟨hn0,hn1⟩ ⟨m0,m1⟩
 have q2:=Zhi (x:=(a.moves.length:Int)) (y:=b.n) (X:=20000) ⟨by omega,by omega⟩ ⟨m0,m1⟩
 have q3:=Zhi (x:=(b.moves.length:Int)) (y:=a.n) (X:=20000) ⟨by omega,by omega⟩ ⟨hn0,hn1⟩
 have eN:((a.n.toNat:Nat):Int)=a.n:=VS hn0
 have eM:((b.n.toNat:Nat):Int)=b.n:=VS m0
 have q4:(((Zc8 a b).moves.length:Nat):Int)=(a.moves.length:Int)*b.n+(b.moves.length:Int)*a.n:=by
  rw [Zh2,Int.natCast_add,Ub,Ub,eN,eM]
 refine AF.of_body 162 Tryz.func89 rfl Tryz.ntmps89 (Xa rfl) ?_
 intro w0 M0 vs hl hv
 obtain ⟨v0,v1,rfl⟩:=ZdW hl
 clear hl hv
 refine nav ?_
 (refine ζa ?_<;>refine ζS 2 5 fun h2=>?_<;>refine ζS 3 5 fun h3=>?_<;>refine ζs [(.int .i64 0),(.int .i64 0),(.slice none 0 0),(.slice none 0 0),(.slice none 0 0)] 5 4 ζL fun h4=>?_<;>refine xL 5 ζc ?_<;>refine ζd ?_)
 (refine ζa ?_<;>(refine yL 20 (ζm 2 ζr) fun v20 h=>?_;cases h)<;>(refine yL 21 (ζm 3 ζr) fun v21 h=>?_;cases h)<;>(refine cS 22 (cA Tryz.call120 (hf)) fun v22 h=>?_;cases h)<;>refine xL 6 ζc ?_<;>refine ζd ?_)
 (refine ζa ?_<;>refine xL 23 ζb (xL 24 ZaN ?_)<;>refine ζd ?_)
 (first|refine cCd ?_ ?_|refine cC ?_ ?_)<;>intro hb24
 · first|omega|exact absurd rfl hb24|exact bN hb24
 · refine nav ?_;(refine ζV (fun i=>([]:List Nat).elem i) [2,3] kR ?_<;>refine xD 0 27 rfl (ζe 2 ζX) ?_<;>(refine yD 1 28 rfl (ζk 2 ζn) fun v28 h=>?_;cases h)<;>refine xD 2 29 rfl (ζe 3 ζX) ?_<;>(refine yD 3 30 rfl (ζk 3 ζn) fun v30 h=>?_;cases h)<;>refine xE 4 7 rfl ζc ?_<;>refine xE 5 8 rfl ζc ?_<;>refine Zae kR (nav ?_)<;>try dsimp only)
   (refine ζa ?_ <;> refine xL 31 ζb (xL 32 ζb (xL 33 Zjs (xL 34 ZaQ (xL 35 ζb ?_))))<;>(refine bLd 35 (fun hb35=>?_) (fun hb35=>?_)<;>(first|refine kL 36 ?_|refine xL 36 (ζe 2 ζw) ?_))<;>(first|refine kL 37 ?_|(refine yL 37 (ζk 2 ζF) fun v37 h=>?_;cases h))<;>(first|refine kL 38 ?_|refine xL 38 (ζ9 ζG) ?_)<;>(first|refine kL 39 ?_|refine xL 39 ζb ?_)<;>(first|refine kL 40 ?_|refine xL 40 Zjs ?_)<;>(first|refine kL 41 ?_|refine xL 41 (ζe 3 ζw) ?_)<;>(first|refine kL 42 ?_|(refine yL 42 (ζk 3 ζF) fun v42 h=>?_;cases h))<;>(first|refine kL 43 ?_|refine xL 43 (ζ9 ζG) ?_)<;>(first|refine kL 44 ?_|refine xL 44 ζb ?_)<;>(first|refine kL 45 ?_|refine xL 45 Zjs ?_)<;>(first|refine kL 46 ?_|refine xL 46 ζM ?_)<;>(first|refine kL 47 ?_|refine xL 47 ZaQ ?_)<;>refine xL 48 ζv ?_<;>refine ζd ?_)<;>(
    (first|refine cCd ?_ ?_|refine cC ?_ ?_)<;>intro hb48
    · first
      |exact bN hb48
      | (
       refine nav ?_;(refine ζa ?_<;>refine xL 49 (ζB ζN) ?_<;>refine ζt 4 ζr ?_<;>refine xL 5 ζc ?_<;>refine ζd ?_)
       exact ZaI (k:=5) 4 kR (Tryz.results89) rfl rfl rfl (Xa rfl) (by decide) rfl (by rw [if_pos (by omega)];rfl))
    · first
      |exact bN hb48
      | (
       refine nav ?_;(have hnl:¬2000<a.n*b.n∧(Zc8 a b).moves.length≤40000:=by omega);have hr:=hr hnl.2;have hnm:=hnl.1;have hml:=hnl.2;(refine ζa ?_<;>refine xL 50 ζb (xL 51 ζb (xL 52 Zjs (xL 53 (ζe 2 Zam) ?_)))<;>(refine yL 54 (ζk 2 ζn) fun v54 h=>?_;cases h)<;>refine xL 55 (ζB ζN) ?_<;>refine ζs [(.int .i64 0),(.int .i64 0),(.slice none 0 0),(.slice none 0 0),(.slice none 0 0)] 5 9 ζL fun h9=>?_<;>refine ζt 9 ζr ?_<;>refine ζd ?_)
       refine ζC (ZfU (l:=9) [pInt (a.n*b.n),pInt a.syms, .own 3 1 0 [], .own 3 1 0 [], .own 93 3 0 []] rfl rfl (fun i p p' h1 h2=>by
        match i with
        |0=>cases h1;cases h2;exact .inl rfl
        |1=>cases h1;cases h2;exact .inl rfl
        |2=>cases h1;cases h2;exact .inr ⟨rfl,_,_,rfl⟩
        |3=>cases h1;cases h2;exact .inr ⟨rfl,_,_,rfl⟩
        |4=>cases h1;cases h2;exact .inr ⟨rfl,_,_,rfl⟩
        |i+5=>simp at h2)) fun _=>?_
       refine ζC (ZfV (l:=9) (l':=302) (j:=2) rfl rfl rfl rfl) fun i=>?_;obtain ⟨v302,ho302⟩:=i;dsimp only [List.set];refine ζC (ZfV (l:=9) (l':=303) (j:=3) rfl rfl rfl rfl) fun i=>?_;obtain ⟨v303,ho303⟩:=i;dsimp only [List.set];refine ζC (ZfV (l:=9) (l':=1000) (j:=4) rfl rfl rfl rfl) fun i=>?_;obtain ⟨v1000,ho1000⟩:=i;dsimp only [List.set];have qo2:En.one (PV.val v302)=true:=ho302;have qo3:En.one (PV.val v303)=true:=ho303;refine ζC (ζI (l:=1000) (p':= .own 93 3 (smA a b 0).length ((smA a b 0).flatMap cMv)) rfl rfl) fun _=>?_;(refine ζa ?_<;>refine xL 56 (ζe 2 ζw) ?_<;>(refine yL 57 (ζk 2 ζF) fun v57 h=>?_;cases h)<;>refine xL 58 (ζ9 ζG) (xL 59 ζb ?_)<;>refine ζd ?_)
       refine ζD (ι:={q:Nat×Value//q.1≤a.moves.length∧q.2.oneCell'=true}) (fun k=>⟨[(2,_,_),(3,_,_),(4,_,_),(7,_,_),(8,_,_),(9,_,_),(57,_,_),(58,_,_),(59, .int .i64 k.1.1,pInt k.1.1)],[(2,_,_),(3,_,_),(4,_,_),(302,_,_),(303,_,_),(9,h9, .own 39 5 1 [pInt (a.n*b.n),pInt a.syms, .val v302, .val v303, .val k.1.2]),(1000,k.1.2, .own 93 3 (smA a b k.1.1).length ((smA a b k.1.1).flatMap cMv))]⟩) (fun k=>a.moves.length-k.1.1) ⟨(0,v1000),Xf _,ho1000⟩ (fun a w H=>H.weaken ⟨rfl,rfl,rfl,rfl,rfl,rfl,rfl,rfl,rfl,trivial⟩ ⟨rfl,rfl,rfl,rfl,rfl,rfl,rfl,trivial⟩) ?_;rintro ⟨⟨c,hI⟩,hc,hIo⟩;dsimp only;dsimp only at hc hIo;have q5:En.one (PV.val hI)=true:=hIo;refine nav ?_;(refine ζa ?_<;>refine xL 60 ζP ?_<;>refine ζd ?_)
       (first|refine cCd ?_ ?_|refine cC ?_ ?_)<;>intro hb60
       · first
         |exact bN hb60
         | (
          obtain ⟨x,hx⟩:=ζo (show c<a.moves.length by omega);have e1:=Zad ζ0 a.moves c x hx;have e2:=ZaE ζ0 hx;have hxb:=ha.mv x (Xg hx);have hx1:=Zhi (x:=x.src) (y:=b.n) (X:=2000) ⟨hxb.1,by omega⟩ ⟨m0,m1⟩;have hx2:=Zhi (x:=x.dst) (y:=b.n) (X:=2000) ⟨hxb.2.2.1,by omega⟩ ⟨m0,m1⟩;refine nav ?_;(refine ζa ?_<;>refine xL 61 (ζW ζG) ?_<;>(refine yL 62 (Zby ζT) fun v62 h=>?_;cases h)<;>refine ζs [(.int .i64 0),(.int .i64 0),(.int .i64 0)] 3 11 Zc1 fun h11=>?_<;>refine ζt 11 ζT ?_<;>refine ζd ?_)
          (refine ζa ?_<;>refine xL 63 ζb (xL 64 ζb ?_)<;>refine ζd ?_)
          refine ζC (ζI (l:=1000) (p':= .own 93 3 (smA a b c++Zr4 b.n x 0).length ((smA a b c++Zr4 b.n x 0).flatMap cMv)) rfl (by rw [show Zr4 b.n x 0=[] from rfl,XA])) fun _=>?_;refine ζD (ι:={q:Nat×Value//q.1≤b.n.toNat∧q.2.oneCell'=true}) (fun k=>⟨[(2,_,_),(3,_,_),(4,_,_),(7,_,_),(8,_,_),(9,_,_),(11,_,_),(57,_,_),(58,_,_),(59,_,_),(63,_,_),(64, .int .i64 k.1.1,pInt k.1.1)],[(2,_,_),(3,_,_),(4,_,_),(11,_,_),(302,_,_),(303,_,_),(9,h9, .own 39 5 1 [pInt (a.n*b.n),pInt a.syms, .val v302, .val v303, .val k.1.2]),(1000,k.1.2, .own 93 3 (smA a b c++Zr4 b.n x k.1.1).length ((smA a b c++Zr4 b.n x k.1.1).flatMap cMv))]⟩) (fun k=>b.n.toNat-k.1.1) ⟨(0,hI),Xf _,hIo⟩ (fun a w H=>H.weaken ⟨rfl,rfl,rfl,rfl,rfl,rfl,rfl,rfl,rfl,rfl,rfl,rfl,trivial⟩ ⟨rfl,rfl,rfl,rfl,rfl,rfl,rfl,rfl,trivial⟩) ?_;rintro ⟨⟨j,hJ⟩,hj,hJo⟩;dsimp only;dsimp only at hj hJo;have q6:En.one (PV.val hJ)=true:=hJo;have hpt:=Zyd x (ζi hx) hj;refine nav ?_;(refine ζa ?_<;>refine xL 65 ζP ?_<;>refine ζd ?_)
          (first|refine cCd ?_ ?_|refine cC ?_ ?_)<;>intro hb65
          · first
            |exact bN hb65
            | (
             refine nav ?_;(refine ζa ?_<;>refine xL 66 ζb (xL 12 ζc ?_)<;>refine ζd ?_)
             (refine ζa ?_<;>refine xL 67 (ζe 9 ζw) ?_<;>(refine yL 68 (ζk 9 ζF) fun v68 h=>?_;cases h)<;>refine xL 69 (ζe 11 Zaz) ?_<;>(refine yL 70 (ζk 11 ζn) fun v70 h=>?_;cases h)<;>refine xL 71 ζb (xL 72 Zjs (xL 73 ζb (xL 74 ζM (xL 75 (ζe 11 ZaR) ?_))))<;>(refine yL 76 (ζk 11 ζn) fun v76 h=>?_;cases h)<;>refine xL 77 ζb (xL 78 Zjs (xL 79 ζb (xL 80 ζM (xL 81 (ζe 11 ZaA) ?_))))<;>(refine yL 82 (ζk 11 ζn) fun v82 h=>?_;cases h)<;>refine xL 83 (ζB ZbK) ?_<;>refine Zbi 84 ζR fun h84 ho84=>?_<;>(refine ZbH 1000 84 85 ζR fun h85 ho85=>?_;refine ζq (ζJ (l:=85) 1000 rfl rfl) fun _=>?_;refine ζq (ζI (l:=1000) rfl ((Zcb _ (smA a b c++Zr4 b.n x j) ⟨x.src*b.n+(j:Nat),x.dst*b.n+(j:Nat),x.sym⟩).trans (by rw [Xw,←Zvp]))) fun _=>?_;have q85:En.one (PV.val h85)=true:=ho85)<;>refine xL 86 (ζe 9 ζw) ?_<;>refine Zb7 9 ζF Za6 ?_<;>refine ζd ?_)
             (refine ζa ?_<;>refine xL 87 ζM (xL 64 ζb ?_)<;>refine ζd ?_)
             refine ζh (
              ⟨(j+1,h85),by dsimp only;omega,ho85⟩
              ) (by dsimp only;omega) ⟨rfl,rfl,rfl,rfl,rfl,rfl,rfl,rfl,rfl,rfl,rfl,rfl,trivial⟩ ⟨rfl,rfl,rfl,rfl,rfl,rfl,rfl,rfl,trivial⟩)
          · first
            |exact bN hb65
            | (
             refine ζC (ζI (l:=1000) (p':= .own 93 3 (smA a b (c+1)).length ((smA a b (c+1)).flatMap cMv)) rfl (by rw [show smA a b c++Zr4 b.n x j=smA a b (c+1) by rw [Zyb hx,show j=b.n.toNat by omega]])) fun _=>?_;refine nav ?_;(refine ζa ?_<;>refine xL 88 ζM (xL 59 ζb ?_)<;>refine ζd ?_)
             refine ζh (
              ⟨(c+1,hJ),ζi hx,hJo⟩
              ) (by dsimp only;omega) ⟨rfl,rfl,rfl,rfl,rfl,rfl,rfl,rfl,rfl,trivial⟩ ⟨rfl,rfl,rfl,rfl,rfl,rfl,rfl,trivial⟩))
       · first
         |exact bN hb60
         | (
          rw [ZBk (show a.moves.length≤c by omega)];refine nav ?_;(refine ζa ?_<;>refine xL 89 (ζe 3 ζw) ?_<;>(refine yL 90 (ζk 3 ζF) fun v90 h=>?_;cases h)<;>refine xL 91 (ζ9 ζG) (xL 92 ζb ?_)<;>refine ζd ?_)
          refine ζD (ι:={q:Nat×Value//q.1≤b.moves.length∧q.2.oneCell'=true}) (fun k=>⟨[(2,_,_),(3,_,_),(4,_,_),(7,_,_),(8,_,_),(9,_,_),(90,_,_),(91,_,_),(92, .int .i64 k.1.1,pInt k.1.1)],[(2,_,_),(3,_,_),(4,_,_),(302,_,_),(303,_,_),(9,h9, .own 39 5 1 [pInt (a.n*b.n),pInt a.syms, .val v302, .val v303, .val k.1.2]),(1000,k.1.2, .own 93 3 (smB a b k.1.1).length ((smB a b k.1.1).flatMap cMv))]⟩) (fun k=>b.moves.length-k.1.1) ⟨(0,hI),Xf _,hIo⟩ (fun a w H=>H.weaken ⟨rfl,rfl,rfl,rfl,rfl,rfl,rfl,rfl,rfl,trivial⟩ ⟨rfl,rfl,rfl,rfl,rfl,rfl,rfl,trivial⟩) ?_;rintro ⟨⟨u,hU⟩,hu,hUo⟩;dsimp only;dsimp only at hu hUo;have q7:En.one (PV.val hU)=true:=hUo;refine nav ?_;(refine ζa ?_<;>refine xL 93 ζP ?_<;>refine ζd ?_)
          (first|refine cCd ?_ ?_|refine cC ?_ ?_)<;>intro hb93
          · first
            |exact bN hb93
            | (
             obtain ⟨y,hy⟩:=ζo (show u<b.moves.length by omega);have e3:=Zad ζ0 b.moves u y hy;have e4:=ZaE ζ0 hy;have hyb:=hb.mv y (Xg hy);refine nav ?_;(refine ζa ?_<;>refine xL 94 (ζW ζG) ?_<;>(refine yL 95 (Zby ζT) fun v95 h=>?_;cases h)<;>refine ζs [(.int .i64 0),(.int .i64 0),(.int .i64 0)] 3 14 Zc1 fun h14=>?_<;>refine ζt 14 ζT ?_<;>refine ζd ?_)
             (refine ζa ?_<;>refine xL 96 ζb (xL 97 ζb ?_)<;>refine ζd ?_)
             refine ζC (ζI (l:=1000) (p':= .own 93 3 (smB a b u++Zr5 b.n y 0).length ((smB a b u++Zr5 b.n y 0).flatMap cMv)) rfl (by rw [show Zr5 b.n y 0=[] from rfl,XA])) fun _=>?_;refine ζD (ι:={q:Nat×Value//q.1≤a.n.toNat∧q.2.oneCell'=true}) (fun k=>⟨[(2,_,_),(3,_,_),(4,_,_),(7,_,_),(8,_,_),(9,_,_),(14,_,_),(90,_,_),(91,_,_),(92,_,_),(96,_,_),(97, .int .i64 k.1.1,pInt k.1.1)],[(2,_,_),(3,_,_),(4,_,_),(14,_,_),(302,_,_),(303,_,_),(9,h9, .own 39 5 1 [pInt (a.n*b.n),pInt a.syms, .val v302, .val v303, .val k.1.2]),(1000,k.1.2, .own 93 3 (smB a b u++Zr5 b.n y k.1.1).length ((smB a b u++Zr5 b.n y k.1.1).flatMap cMv))]⟩) (fun k=>a.n.toNat-k.1.1) ⟨(0,hU),Xf _,hUo⟩ (fun a w H=>H.weaken ⟨rfl,rfl,rfl,rfl,rfl,rfl,rfl,rfl,rfl,rfl,rfl,rfl,trivial⟩ ⟨rfl,rfl,rfl,rfl,rfl,rfl,rfl,rfl,trivial⟩) ?_;rintro ⟨⟨i,hV⟩,hi,hVo⟩;dsimp only;dsimp only at hi hVo;have q8:En.one (PV.val hV)=true:=hVo;have hpt2:=Zye y (ζi hy) hi;have hx3:=Zhi (x:=(i:Int)) (y:=b.n) (X:=2000) ⟨by omega,by omega⟩ ⟨m0,m1⟩;refine nav ?_;(refine ζa ?_<;>refine xL 98 ζP ?_<;>refine ζd ?_)
             (first|refine cCd ?_ ?_|refine cC ?_ ?_)<;>intro hb98
             · first
               |exact bN hb98
               | (
                refine nav ?_;(refine ζa ?_<;>refine xL 99 ζb (xL 15 ζc ?_)<;>refine ζd ?_)
                (refine ζa ?_<;>refine xL 100 (ζe 9 ζw) ?_<;>(refine yL 101 (ζk 9 ζF) fun v101 h=>?_;cases h)<;>refine xL 102 ζb (xL 103 ζb (xL 104 Zjs (xL 105 (ζe 14 Zaz) ?_)))<;>(refine yL 106 (ζk 14 ζn) fun v106 h=>?_;cases h)<;>refine xL 107 ζM (xL 108 ζb (xL 109 ζb (xL 110 Zjs (xL 111 (ζe 14 ZaR) ?_))))<;>(refine yL 112 (ζk 14 ζn) fun v112 h=>?_;cases h)<;>refine xL 113 ζM (xL 114 (ζe 14 ZaA) ?_)<;>(refine yL 115 (ζk 14 ζn) fun v115 h=>?_;cases h)<;>refine xL 116 (ζB ZbK) ?_<;>refine Zbi 117 ζR fun h117 ho117=>?_<;>(refine ZbH 1000 117 118 ζR fun h118 ho118=>?_;refine ζq (ζJ (l:=118) 1000 rfl rfl) fun _=>?_;refine ζq (ζI (l:=1000) rfl ((Zcb _ (smB a b u++Zr5 b.n y i) ⟨(i:Nat)*b.n+y.src,(i:Nat)*b.n+y.dst,y.sym⟩).trans (by rw [Xw,←Zvq]))) fun _=>?_;have q118:En.one (PV.val h118)=true:=ho118)<;>refine xL 119 (ζe 9 ζw) ?_<;>refine Zb7 9 ζF Za6 ?_<;>refine ζd ?_)
                (refine ζa ?_<;>refine xL 120 ζM (xL 97 ζb ?_)<;>refine ζd ?_)
                refine ζh (
                 ⟨(i+1,h118),by dsimp only;omega,ho118⟩
                 ) (by dsimp only;omega) ⟨rfl,rfl,rfl,rfl,rfl,rfl,rfl,rfl,rfl,rfl,rfl,rfl,trivial⟩ ⟨rfl,rfl,rfl,rfl,rfl,rfl,rfl,rfl,trivial⟩)
             · first
               |exact bN hb98
               | (
                refine ζC (ζI (l:=1000) (p':= .own 93 3 (smB a b (u+1)).length ((smB a b (u+1)).flatMap cMv)) rfl (by rw [show smB a b u++Zr5 b.n y i=smB a b (u+1) by rw [Zyc hy,show i=a.n.toNat by omega]])) fun _=>?_;refine nav ?_;(refine ζa ?_<;>refine xL 121 ζM (xL 92 ζb ?_)<;>refine ζd ?_)
                refine ζh (
                 ⟨(u+1,hV),ζi hy,hVo⟩
                 ) (by dsimp only;omega) ⟨rfl,rfl,rfl,rfl,rfl,rfl,rfl,rfl,rfl,trivial⟩ ⟨rfl,rfl,rfl,rfl,rfl,rfl,rfl,trivial⟩))
          · first
            |exact bN hb93
            | (
             rw [ZBl (show b.moves.length≤u by omega)];refine nav ?_;(refine ζa ?_<;>refine xL 122 (ζe 2 Zan) ?_<;>(refine yL 123 (ζk 2 ζH) fun v123 h=>?_;cases h)<;>refine xL 124 (ζ9 ζx) (xL 125 ζb ?_)<;>refine ζd ?_)
             refine ζC (ζI (l:=302) (p':= .own 3 1 (shI b.n (a.start.take 0) b.start).length ((shI b.n (a.start.take 0) b.start).map pInt)) rfl rfl) fun _=>?_;refine ζD (ι:={q:Nat×Value//q.1≤a.start.length∧q.2.oneCell'=true}) (fun k=>⟨[(2,_,_),(3,_,_),(4,_,_),(7,_,_),(8,_,_),(9,_,_),(123,_,_),(124,_,_),(125, .int .i64 k.1.1,pInt k.1.1)],[(2,_,_),(3,_,_),(4,_,_),(303,_,_),(1000,_,_),(9,h9, .own 39 5 1 [pInt (a.n*b.n),pInt a.syms, .val k.1.2, .val v303, .val hU]),(302,k.1.2, .own 3 1 (shI b.n (a.start.take k.1.1) b.start).length ((shI b.n (a.start.take k.1.1) b.start).map pInt))]⟩) (fun k=>a.start.length-k.1.1) ⟨(0,v302),Xf _,ho302⟩ (fun a w H=>H.weaken ⟨rfl,rfl,rfl,rfl,rfl,rfl,rfl,rfl,rfl,trivial⟩ ⟨rfl,rfl,rfl,rfl,rfl,rfl,rfl,trivial⟩) ?_;rintro ⟨⟨s,hS⟩,hs',hSo⟩;dsimp only;dsimp only at hs' hSo;have q9:En.one (PV.val hS)=true:=hSo;(have hSl:(shI b.n (a.start.take s) b.start).length≤2000*2000:=by rw [Zvr,Xt];exact Uf (by omega) k2);refine nav ?_;(refine ζa ?_<;>refine xL 126 ζP ?_<;>refine ζd ?_)
             (first|refine cCd ?_ ?_|refine cC ?_ ?_)<;>intro hb126
             · first
               |exact bN hb126
               | (
                obtain ⟨z,hz⟩:=ζo (show s<a.start.length by omega);have e5:=Zbd (f:=pInt) hz;have hzb:=ha.st z (Xg hz);have hz1:=Zhi (x:=z) (y:=b.n) (X:=a.n) (Y:=b.n) ⟨hzb.1,by omega⟩ ⟨m0,Int.le_refl _⟩;have hal:=Zd7 (z*b.n) b.start;refine nav ?_;(refine ζa ?_<;>refine xL 127 (ζW ζx) ?_<;>(refine yL 128 (Zc6 ζn) fun v128 h=>?_;cases h)<;>refine xL 17 ζc ?_<;>refine ζd ?_)
                (refine ζV (fun i=>([10]:List Nat).elem i) [3,9] kR ?_<;>refine xD 0 129 rfl (ζe 9 Zan) ?_<;>(refine yD 1 130 rfl (ζk 9 ζH) fun v130 h=>?_;cases h)<;>refine xD 2 131 rfl (ζe 3 Zan) ?_<;>(refine yD 3 132 rfl (ζk 3 ζH) fun v132 h=>?_;cases h)<;>refine xD 4 133 rfl ζb ?_<;>refine xE 5 134 rfl ζb ?_<;>refine xE 6 135 rfl Zjs ?_<;>(refine ζj 7 kR ?_)<;>(refine ζg rfl fun w9 M9 N9 DQ back=>?_)<;>(refine cO 136 (cA Tryz.call136 (ZdR b.start (z*b.n) (by omega) (by omega) (fun x hx=>by have:=hb.st x hx;omega))) fun v136 ho136=>?_;refine ζq (En.freeze (l:=136) (t:=136) rfl rfl) fun _=>?_;rw [Zaq _ _ _ rfl])<;>refine ζf (back _ (nrm ?_))<;>(refine ζj 8 kR ?_)<;>(refine ζg rfl fun w9 M9 N9 DQ back=>?_)<;>(refine Zev 302 137 ζz (fun h137 ho137=>?_) (Zgi (Zdw (z*b.n) b.start)) (Zh0 (Zdw (z*b.n) b.start));have q137:En.one (PV.val h137)=true:=ho137;refine ζq (ζJ (l:=137) 302 rfl rfl) fun _=>?_;refine ζq (ζI (l:=302) rfl ((Zh1 _ (shI b.n (a.start.take s) b.start) (Zdw (z*b.n) b.start)).trans (by rw [←ZqW hz]))) fun _=>?_)<;>refine ζf (back _ (nrm ?_))<;>refine xE 9 138 rfl (ζe 9 Zan) ?_<;>(refine ζj 10 kR ?_)<;>(refine ZkJ rfl rfl kR fun DQ back=>?_)<;>refine Zb7 9 ζH Zcw ?_<;>refine ζf (back _ (nav ?_))<;>try dsimp only)
                (refine ζa ?_<;>refine xL 139 ζM (xL 125 ζb ?_)<;>refine ζd ?_)
                refine ζh (
                 ⟨(s+1,h137),ζi hz,ho137⟩
                 ) (by dsimp only;omega) ⟨rfl,rfl,rfl,rfl,rfl,rfl,rfl,rfl,rfl,trivial⟩ ⟨rfl,rfl,rfl,rfl,rfl,rfl,rfl,trivial⟩)
             · first
               |exact bN hb126
               | (
                rw [Xn (show a.start.length≤s by omega)];refine nav ?_;(refine ζa ?_<;>refine xL 140 (ζe 2 Zab) ?_<;>(refine yL 141 (ζk 2 ζH) fun v141 h=>?_;cases h)<;>refine xL 142 (ζ9 ζx) (xL 143 ζb ?_)<;>refine ζd ?_)
                refine ζC (ζI (l:=303) (p':= .own 3 1 (shI b.n (a.fin.take 0) b.fin).length ((shI b.n (a.fin.take 0) b.fin).map pInt)) rfl rfl) fun _=>?_;refine ζD (ι:={q:Nat×Value//q.1≤a.fin.length∧q.2.oneCell'=true}) (fun k=>⟨[(2,_,_),(3,_,_),(4,_,_),(7,_,_),(8,_,_),(9,_,_),(141,_,_),(142,_,_),(143, .int .i64 k.1.1,pInt k.1.1)],[(2,_,_),(3,_,_),(4,_,_),(302,_,_),(1000,_,_),(9,h9, .own 39 5 1 [pInt (a.n*b.n),pInt a.syms, .val hS, .val k.1.2, .val hU]),(303,k.1.2, .own 3 1 (shI b.n (a.fin.take k.1.1) b.fin).length ((shI b.n (a.fin.take k.1.1) b.fin).map pInt))]⟩) (fun k=>a.fin.length-k.1.1) ⟨(0,v303),Xf _,ho303⟩ (fun a w H=>H.weaken ⟨rfl,rfl,rfl,rfl,rfl,rfl,rfl,rfl,rfl,trivial⟩ ⟨rfl,rfl,rfl,rfl,rfl,rfl,rfl,trivial⟩) ?_;rintro ⟨⟨t,hT⟩,ht,hTo⟩;dsimp only;dsimp only at ht hTo;have q10:En.one (PV.val hT)=true:=hTo;(have hTl:(shI b.n (a.fin.take t) b.fin).length≤2000*2000:=by rw [Zvr,Xt];exact Uf (by omega) k4);refine nav ?_;(refine ζa ?_<;>refine xL 144 ζP ?_<;>refine ζd ?_)
                (first|refine cCd ?_ ?_|refine cC ?_ ?_)<;>intro hb144
                · first
                  |exact bN hb144
                  | (
                   obtain ⟨z2,hz2⟩:=ζo (show t<a.fin.length by omega);have e6:=Zbd (f:=pInt) hz2;have hzb2:=ha.fi z2 (Xg hz2);have hz3:=Zhi (x:=z2) (y:=b.n) (X:=a.n) (Y:=b.n) ⟨hzb2.1,by omega⟩ ⟨m0,Int.le_refl _⟩;have hal2:=Zd7 (z2*b.n) b.fin;refine nav ?_;(refine ζa ?_<;>refine xL 145 (ζW ζx) ?_<;>(refine yL 146 (Zc6 ζn) fun v146 h=>?_;cases h)<;>refine xL 19 ζc ?_<;>refine ζd ?_)
                   (refine ζV (fun i=>([10]:List Nat).elem i) [3,9] kR ?_<;>refine xD 0 147 rfl (ζe 9 Zab) ?_<;>(refine yD 1 148 rfl (ζk 9 ζH) fun v148 h=>?_;cases h)<;>refine xD 2 149 rfl (ζe 3 Zab) ?_<;>(refine yD 3 150 rfl (ζk 3 ζH) fun v150 h=>?_;cases h)<;>refine xD 4 151 rfl ζb ?_<;>refine xE 5 152 rfl ζb ?_<;>refine xE 6 153 rfl Zjs ?_<;>(refine ζj 7 kR ?_)<;>(refine ζg rfl fun w9 M9 N9 DQ back=>?_)<;>(refine cO 154 (cA Tryz.call136 (ZdR b.fin (z2*b.n) (by omega) (by omega) (fun x hx=>by have:=hb.fi x hx;omega))) fun v154 ho154=>?_;refine ζq (En.freeze (l:=154) (t:=154) rfl rfl) fun _=>?_;rw [Zaq _ _ _ rfl])<;>refine ζf (back _ (nrm ?_))<;>(refine ζj 8 kR ?_)<;>(refine ζg rfl fun w9 M9 N9 DQ back=>?_)<;>(refine Zev 303 155 ζz (fun h155 ho155=>?_) (Zgi (Zdw (z2*b.n) b.fin)) (Zh0 (Zdw (z2*b.n) b.fin));have q155:En.one (PV.val h155)=true:=ho155;refine ζq (ζJ (l:=155) 303 rfl rfl) fun _=>?_;refine ζq (ζI (l:=303) rfl ((Zh1 _ (shI b.n (a.fin.take t) b.fin) (Zdw (z2*b.n) b.fin)).trans (by rw [←ZqW hz2]))) fun _=>?_)<;>refine ζf (back _ (nrm ?_))<;>refine xE 9 156 rfl (ζe 9 Zab) ?_<;>(refine ζj 10 kR ?_)<;>(refine ZkJ rfl rfl kR fun DQ back=>?_)<;>refine Zb7 9 ζH Zcw ?_<;>refine ζf (back _ (nav ?_))<;>try dsimp only)
                   (refine ζa ?_<;>refine xL 157 ζM (xL 143 ζb ?_)<;>refine ζd ?_)
                   refine ζh (
                    ⟨(t+1,h155),ζi hz2,ho155⟩
                    ) (by dsimp only;omega) ⟨rfl,rfl,rfl,rfl,rfl,rfl,rfl,rfl,rfl,trivial⟩ ⟨rfl,rfl,rfl,rfl,rfl,rfl,rfl,trivial⟩)
                · first
                  |exact bN hb144
                  | (
                   rw [Xn (show a.fin.length≤t by omega)];refine nav ?_;refine ζC (ZaW (l:=9) (l':=302) (j:=2) rfl rfl rfl rfl) fun _=>?_;refine ζC (ZaW (l:=9) (l':=303) (j:=3) rfl rfl rfl rfl) fun _=>?_;rw [Zaq _ _ _ rfl,Zaq _ _ _ rfl];(refine ζa ?_<;>(refine yL 158 (ζm (k:=5) (ps:=[pInt (a.n*b.n),pInt a.syms,pInts (shI b.n a.start b.start),pInts (shI b.n a.fin b.fin),PV.val hU]) 9 kR) fun v158 h=>?_;cases h)<;>(refine ζ3 [(1000,hU,PV.own 93 3 (Zc8 a b).moves.length ((Zc8 a b).moves.flatMap cMv)),(2,_,_),(3,_,_),(4,_,_),(9,_,_)] ⟨rfl,rfl,rfl,rfl,rfl,trivial⟩ ?_;refine Zaa [2,3,4,9] 159 (Tryz.call137) (ZBj (Zc8 a b) (by omega) _ hU hUo r5 hr) ?_;rintro _ _ _ ⟨⟨V1,rfl⟩,rfl,rfl⟩)<;>refine xL 160 ζl (xL 161 ζl ?_)<;>refine ζt 4 ζr ?_<;>refine xL 5 ζc ?_<;>refine ζd ?_)
                   exact ZaI (k:=5) 4 kR (Tryz.results89) rfl rfl rfl (Xa rfl) (by decide) r5.s (by rw [if_neg (by omega)];rfl)))))))
theorem Zr6 (a b:Aut):AF Tryz.prog 89 [Zap a,Zap b] (· =resW (Zoy a b)):=by
 unfold Zoy
 by_cases h0:ZgG a b=0
 · rw [if_neg (fun h=>h h0)];obtain ⟨ha,hb,hs⟩:=ZgU h0;by_cases hl:(Zc8 a b).moves.length≤40000
   · obtain ⟨p0,p1,p2,p3,p4,E,h5,h2,hr⟩:=Ze4 (Zc8 a b) (by omega) (Zle ha hb hs);refine (Zki a b h0 h5 fun _=>hr).mono fun p hp=>?_;rw [hp];split
     · rfl
     · exact h2.symm
   · refine (Zki a b h0 R5.raw (E:=13) fun h=>absurd h hl).mono fun p hp=>?_;have h1:=ha.n0;have h2:=hb.n0;have q4:(((Zc8 a b).moves.length:Nat):Int)=(a.moves.length:Int)*b.n+(b.moves.length:Int)*a.n:=by
      rw [Zh2,Int.natCast_add,Ub,Ub,VS h1,VS h2]
     rw [hp,if_pos (.inr (by omega)),if_pos (.inr (by omega))];rfl
 · rw [if_pos h0];exact Znm a b _ h0 (Zkh a b)
def bst (l:List UInt8):ByteArray:=⟨l.toArray⟩
theorem ZBm (s:ByteArray):bst s.data.toList=s:=by cases s;simp [bst]
theorem Zfb (l:List UInt8):(bst l).data.toList=l:=by simp [bst]
theorem Zao (l:List UInt8):(bst l).size=l.length:=by simp [bst,ByteArray.size]
theorem ZfN (l:List UInt8) (i:Nat):(bst l).data[i]? =l[i]? :=by simp [bst]
theorem ZBn {l m:List UInt8} (h:bst l=bst m):l=m:=by rw [←Zfb l,h,Zfb]
theorem Zyf (l:List UInt8) (n:Nat):(bst l).extract n (bst l).size=bst (l.drop n):=by
 apply ByteArray.ext
 apply Array.toList_inj.1
 rw [ByteArray.data_extract,Un,Zfb,Zao]
 simp only [List.extract,bst]
 exact Xn (by rw [XQ];exact Xb _)
theorem Zyg (l:List UInt8) (n:Nat):(bst l).extract 0 n=bst (l.take n):=by
 apply ByteArray.ext
 apply Array.toList_inj.1
 rw [ByteArray.data_extract,Un,Zfb]
 simp [List.extract,bst]
structure Tk where
 kind:Int
 text:List UInt8
 n:Int
 ln:Int
 col:Int
def Zr7 (c:UInt8):Bool:=ZfS c.toNat
def Zwt (c:UInt8):Bool:=ZcH c.toNat
def ZeO (c:UInt8):Bool:=decide (48≤c.toNat)&&decide (c.toNat≤57)
def Zhj (c:UInt8):Bool:=c.toNat==32||c.toNat==9||c.toNat==10||c.toNat==13
def ZaU:Bool→List UInt8→Nat
 |_,[]=>0
 |true,c::m=>1+ZaU (c.toNat !=10) m
 |false,c::m=>if Zhj c then 1+ZaU false m else if c.toNat=35 then 1+ZaU true m else 0
theorem ZlB:∀(m:List UInt8) (b:Bool),ZaU b m≤m.length
 |[],b=>by cases b<;>exact Xb _
 |c::m,true=>by have:=ZlB m (c.toNat !=10);rw [ZaU,Xc];omega
 | c::m,false=>by
   have h1:=ZlB m false;have h2:=ZlB m true;rw [ZaU,Xc];split
   · omega
   · split<;>omega
theorem Zh3 {c:UInt8} {m:List UInt8} (h1:Zhj c=false) (h2:c.toNat≠35):ZaU false (c::m)=0:=by rw [ZaU,if_neg (by rw [h1];exact X7),if_neg h2]
def adv (p:Int×Int) (c:UInt8):Int×Int:=if c.toNat=10 then (p.1+1,1) else (p.1,p.2+1)
def Za2 (p:Int×Int) (l:List UInt8):Int×Int:=l.foldl adv p
theorem Zyh (p:Int×Int) (l:List UInt8) (n k:Nat):Za2 (Za2 p (l.take n)) ((l.drop n).take k)=Za2 p (l.take (n+k)):=by
 unfold Za2
 rw [←VN,List.take_add]
def syms:List (List UInt8):=[[45,62],[61,62],[60,61],[62,61],[33,61],[61,61],[58,61],[46,46],[40],[41],[91],[93],[123],[125],[44],[59],[58],[46],[124],[38],[33],[63],[43],[45],[42],[47],[61],[60],[62],[64],[37],[94],[126]]
def ZsN (l:List UInt8):Option (List UInt8):=syms.find? (·.isPrefixOf l)
theorem Zvs {l x:List UInt8} (h:ZsN l=some x):x∈syms∧x.isPrefixOf l=true:=by
 refine ⟨List.mem_of_find?_eq_some h,?_⟩
 have:=List.find?_some (p:=fun x:List UInt8=>x.isPrefixOf l) h
 exact this
theorem ZqX {x:List UInt8} (h:x∈syms):1≤x.length∧x.length≤2:=by
 have:syms.all (fun x=>decide (1≤x.length∧x.length≤2))=true:=by decide
 simpa using Xy.1 this x h
inductive Lt where
 |ok (n:Nat) (t:List UInt8)
 |err (e:Int)
def ZbG:List UInt8→Lt
 |[]=> .err 4
 | c ::m=>if c.toNat=34 then .ok 1 [] else if c.toNat<32∨126<c.toNat then .err 3 else if c.toNat=92 then
    match m with
    |[]=> .err 4
    |d::m2=>if d.toNat=34∨d.toNat=92 then (match ZbG m2 with| .ok n t=> .ok (n+2) (d::t)| .err e=> .err e) else .err 3
   else match ZbG m with| .ok n t=> .ok (n+1) (c::t)| .err e=> .err e
theorem Zfc : ∀(m:List UInt8) {n:Nat} {t:List UInt8},ZbG m= .ok n t→1≤n∧n≤m.length∧t.length+1≤n
 |[],n,t,h=>by simp [ZbG] at h
 | [c], n,t,h=>by
   rw [ZbG.eq_def] at h;simp only at h;split at h
   · cases h;simp
   · split at h
     · cases h
     · split at h
       · cases h
       · simp [ZbG] at h
 | c :: d :: m,n,t,h=>by
   rw [ZbG.eq_def] at h;simp only at h;split at h
   · cases h;simp
   · split at h
     · cases h
     · split at h
       · split at h
         · cases h2:ZbG m with
           |err e=>rw [h2] at h;cases h
           | ok n2 t2=>
             rw [h2] at h;cases h;have:=Zfc m h2;simp only [Xc];omega
         · cases h
       · cases h2:ZbG (d::m) with
         |err e=>rw [h2] at h;cases h
         | ok n2 t2=>
           rw [h2] at h;cases h;have:=Zfc (d::m) h2;simp only [Xc] at this ⊢;omega
def Zi3 (l:List UInt8):Nat:=l.foldl (fun n c=>10*n+(c.toNat-48)) 0
inductive Lx where
 |ok (kind:Int) (text:List UInt8) (n:Int) (len:Nat)
 |err (e:Int)
def ZjC:List UInt8→Lx
 |[]=> .ok 5 [] 0 0
 | c ::m=>
   if Zwt c then (if 40<((c::m).takeWhile Zr7).length then .err 5 else .ok 1 ((c::m).takeWhile Zr7) 0 ((c::m).takeWhile Zr7).length)
   else if ZeO c then (if ((c::m).dropWhile ZeO).head?.any (fun d=>Zwt d||d.toNat==95) then .err 3 else if 4503599627370496<Zi3 ((c::m).takeWhile ZeO) then .err 6 else .ok 2 [] (Zi3 ((c::m).takeWhile ZeO)) ((c::m).takeWhile ZeO).length)
   else if c.toNat=34 then (match ZbG m with| .err e=> .err e| .ok n t=> .ok 3 t 0 (n+1))
   else match ZsN (c::m) with
    |some x=> .ok 4 x 0 x.length
    |none=> .err 3
theorem Zvt {p:UInt8→Bool} {c:UInt8} {m:List UInt8} (h:p c=true):1≤((c::m).takeWhile p).length:=by rw [V3,h];simp
theorem Zyi (p:UInt8→Bool) (l:List UInt8):(l.takeWhile p).length≤l.length:=(List.takeWhile_sublist p).length_le
theorem ZBo {c:UInt8} (h:Zwt c=true):Zr7 c=true:=by
 unfold Zr7 ZfS
 unfold Zwt at h
 rw [h];rfl
structure LexOk (l:List UInt8) (kd:Int) (tx:List UInt8) (n:Int) (len:Nat):Prop where
 le:len≤l.length
 endk:l=[]↔kd=5
 pos:l≠[]→1≤len
 tlen:tx.length≤len
 lo:0≤n
 hi:n≤4503599627370496
theorem ZlC {l:List UInt8} {kd:Int} {tx:List UInt8} {n:Int} {len:Nat} (h:ZjC l= .ok kd tx n len):LexOk l kd tx n len:=by
 cases l with
 |nil=>cases h;exact ⟨Xb _,⟨fun _=>rfl,fun _=>rfl⟩,fun h=>absurd rfl h,Xb _,by omega,by omega⟩
 | cons c m =>
   rw [ZjC] at h;split at h
   · rename_i hc;have h1:=Zvt (p:=Zr7) (m:=m) (ZBo hc);have h2:=Zyi Zr7 (c::m);split at h
     · cases h
     · cases h;exact ⟨h2,by simp,fun _=>h1,Xb _,by omega,by omega⟩
   · split at h
     · rename_i hc;have h1:=Zvt (p:=ZeO) (m:=m) hc;have h2:=Zyi ZeO (c::m);split at h
       · cases h
       · split at h
         · cases h
         · cases h;exact ⟨h2,by simp,fun _=>h1,by simp,by omega,by omega⟩
     · split at h
       · cases h2:ZbG m with
         |err e=>rw [h2] at h;cases h
         | ok n2 t2=>
           rw [h2] at h;cases h;have:=Zfc m h2;exact ⟨by rw [Xc];omega,by simp,fun _=>by omega,by omega,by omega,by omega⟩
       · cases h2:ZsN (c::m) with
         |none=>rw [h2] at h;cases h
         | some x=>
           rw [h2] at h;cases h;obtain ⟨h3,h4⟩:=Zvs h2;have h5:=ZqX h3;exact ⟨(UG.1 h4).length_le,by simp,fun _=>h5.1,Xb _,by omega,by omega⟩
def ZhA:Nat→List UInt8→Int×Int→List Tk→List Tk×(Int×Int)×Int
 |0,_,p,_=>([],p,5)
 | f +1,l,p,out=>
   match ZjC (l.drop (ZaU false l)) with
   | .err e=>([],Za2 p (l.take (ZaU false l)),e)
   | .ok kd tx n len=>
     if kd≠5∧out.length=4000 then ([],Za2 p (l.take (ZaU false l)),5)
     else if kd=5 then (out++[⟨kd,tx,n,(Za2 p (l.take (ZaU false l))).1,(Za2 p (l.take (ZaU false l))).2⟩],(0,0),0)
     else ZhA f (l.drop (ZaU false l+len)) (Za2 p (l.take (ZaU false l+len))) (out++[⟨kd,tx,n,(Za2 p (l.take (ZaU false l))).1,(Za2 p (l.take (ZaU false l))).2⟩])
theorem Zkj:∀(f g:Nat) (l:List UInt8) (p:Int×Int) (out:List Tk),l.length<f→l.length<g→ZhA f l p out=ZhA g l p out
 |0,_,_,_,_,h,_=>by omega
 |_+1,0,_,_,_,_,h=>by omega
 | f + 1, g+1,l,p,out,h1,h2=>by
   rw [ZhA,ZhA]
   cases h:ZjC (l.drop (ZaU false l)) with
   |err e=>rfl
   | ok kd tx n len=>
     have hk:=ZlC h;simp only;split
     · rfl
     · split
       · rfl
       · rename_i h5;have hne:l.drop (ZaU false l)≠[]:=fun e=>h5 (hk.endk.1 e);have h6:=hk.pos hne;have h7:=hk.le;rw [XQ] at h7;exact Zkj f g _ _ _ (by rw [XQ];omega) (by rw [XQ];omega)
def toksB (l:List UInt8) (p:Int×Int) (out:List Tk):List Tk×(Int×Int)×Int:=ZhA (l.length+1) l p out
theorem Zyj (l:List UInt8) (p:Int×Int) (out:List Tk):toksB l p out=match ZjC (l.drop (ZaU false l)) with
 | .err e=>([],Za2 p (l.take (ZaU false l)),e)
 | .ok kd tx n len=>
   if kd≠5∧out.length=4000 then ([],Za2 p (l.take (ZaU false l)),5)
   else if kd=5 then (out++[⟨kd,tx,n,(Za2 p (l.take (ZaU false l))).1,(Za2 p (l.take (ZaU false l))).2⟩],(0,0),0)
   else toksB (l.drop (ZaU false l+len)) (Za2 p (l.take (ZaU false l+len))) (out++[⟨kd,tx,n,(Za2 p (l.take (ZaU false l))).1,(Za2 p (l.take (ZaU false l))).2⟩]):=by
 rw [toksB,ZhA]
 cases h:ZjC (l.drop (ZaU false l)) with
 |err e=>rfl
 | ok kd tx n len=>
   have hk:=ZlC h;simp only;split
   · rfl
   · split
     · rfl
     · rename_i h5;have hne:l.drop (ZaU false l)≠[]:=fun e=>h5 (hk.endk.1 e);have h6:=hk.pos hne;have h7:=hk.le;rw [XQ] at h7;exact Zkj _ _ _ _ _ (by rw [XQ];omega) (by rw [XQ];omega)
def EndL (l:List Tk):Prop:=∃a e,l=a++[e]∧e.kind=5∧∀x∈a,x.kind≠5
theorem EndL.ne {l:List Tk} (h:EndL l):l≠[]:=by obtain ⟨a,e,rfl,_⟩:=h;simp
theorem EndL.tail {t:Tk} {m:List Tk} (h:EndL (t::m)) (ht:t.kind≠5):EndL m:=by
 obtain ⟨a,e,h1,h2,h3⟩:=h
 cases a with
 |nil=>simp at h1;rw [h1.1] at ht;exact absurd h2 ht
 | cons b a=>
   rw [Vj,List.cons.injEq] at h1;exact ⟨a,e,h1.2,h2,fun x hx=>h3 x (Xj _ hx)⟩
structure TkOk (t:Tk):Prop where
 text:t.text.length≤16384
 lo:0≤t.n
 hi:t.n≤4503599627370496
theorem ZqY : ∀ (f : Nat) (l:List UInt8) (p:Int×Int) (out:List Tk),l.length<f→l.length≤16384→out.length≤4000→(∀x∈out,x.kind≠5∧TkOk x)→(ZhA f l p out).2.2=0→EndL (ZhA f l p out).1∧(ZhA f l p out).1.length≤4001∧∀x∈(ZhA f l p out).1,TkOk x
 |0,l,p,out,h,_,_,_=>by omega
 | f + 1, l, p, out, hf,hl,ho,hx=>by
   rw [ZhA]
   cases h:ZjC (l.drop (ZaU false l)) with
   | err e =>
     intro he;simp only at he;exfalso;subst he
     cases hd:l.drop (ZaU false l) with
     |nil=>rw [hd] at h;cases h
     | cons c m =>
       rw [hd,ZjC] at h;have key : ∀ (m :List UInt8) (e:Int),ZbG m= .err e→e=3∨e=4:=fun m=>by
        have : ∀ (k : Nat) (m:List UInt8),m.length≤k→∀e,ZbG m= .err e→e=3∨e=4:=fun k=>by
         induction k with
         |zero=>intro m hm e he;obtain rfl:m=[]:=XP (by omega);simp [ZbG] at he;omega
         | succ k ih =>
           intro m hm e he
           cases m with
           |nil=>simp [ZbG] at he;omega
           | cons c m =>
             rw [ZbG.eq_def] at he;simp only at he;rw [Xc] at hm;split at he
             · cases he
             · split at he
               · cases he;omega
               · split at he
                 · cases m with
                   |nil=>cases he;omega
                   | cons d m2=>
                     rw [Xc] at hm;simp only at he;split at he
                     · cases h2:ZbG m2 with
                       |err e2=>rw [h2] at he;cases he;exact ih m2 (by omega) _ h2
                       |ok n2 t2=>rw [h2] at he;cases he
                     · cases he;omega
                 · cases h2:ZbG m with
                   |err e2=>rw [h2] at he;cases he;exact ih m (by omega) _ h2
                   |ok n2 t2=>rw [h2] at he;cases he
        exact this m.length m (Xb _)
       split at h
       · split at h<;>cases h
       · split at h
         · split at h
           · cases h
           · split at h<;>cases h
         · split at h
           · cases h2:ZbG m with
             |err e=>rw [h2] at h;cases h;have:=key m 0 h2;omega
             |ok n2 t2=>rw [h2] at h;cases h
           · cases h2:ZsN (c::m) with
             |none=>rw [h2] at h;cases h
             |some x=>rw [h2] at h;cases h
   | ok kd tx n len=>
     have hk:=ZlC h;have h7:=hk.le;rw [XQ] at h7;have htk:∀a b:Int,TkOk ⟨kd,tx,n,a,b⟩:=fun a b=>⟨by have:=hk.tlen;show tx.length≤_;omega,hk.lo,hk.hi⟩;simp only;split
     · intro he;cases he
     · rename_i h4;split
       · rename_i h5;intro _;refine ⟨⟨out,_,rfl,h5,fun x hx'=>(hx x hx').1⟩,by rw [Xd];simp;omega,fun x hx'=>?_⟩;rcases Xp.1 hx' with h8|h8
         · exact (hx x h8).2
         · rw [Xi] at h8;subst h8;exact htk _ _
       · rename_i h5;have hne:l.drop (ZaU false l)≠[]:=fun e=>h5 (hk.endk.1 e);have h6:=hk.pos hne;refine ZqY f _ _ _ (by rw [XQ];omega) (by rw [XQ];omega) (by rw [Xd];simp;omega) fun x hx'=>?_;rcases Xp.1 hx' with h8|h8
         · exact hx x h8
         · rw [Xi] at h8;subst h8;exact ⟨h5,htk _ _⟩
def tk0:Tk:=⟨0,[],0,0,0⟩
def ZeP (m:List Tk) (s:List UInt8):Bool:=match m with
 |[]=>false
 |t::_=>decide (t.kind=4)&&t.text==s
def ZsO (s:List UInt8):Int:=if s=[115,101,113] then 3 else if s=[120,111,114] then 4 else if s=[97,110,100] then 5 else if s=[108,111,111,112] then 6 else 0
inductive Rd where
 |ok (t:Nd) (m:List Tk)
 |err (t:Tk)
mutual
def rdT:Nat→List Tk→Rd
 |0,_=> .err tk0
 | f +1,m=>match m with
   |[]=> .err tk0
   | t::m1=>if ZeP (t::m1) [40] then (if ZeP m1 [41] then .ok ZnZ m1.tail else .err (m1.headD tk0))
     else if t.kind≠1 then .err t
     else if ZsO t.text=0 then (if ZeP m1 [40] then .err (m1.headD tk0) else .ok (.mk 1 (bst t.text) []) m1)
     else if ZeP m1 [40] then (match rdT f m1.tail with| .err e=> .err e| .ok x m2=>rdL f (ZsO t.text) [x] m2)
     else .ok (.mk 1 (bst t.text) []) m1
def rdL:Nat→Int→List Nd→List Tk→Rd
 |0,_,_,_=> .err tk0
 | f +1,op,l,m=>if (op=6∧l.length<2)∨(op≠6∧ZeP m [44]=true) then
    (if ZeP m [44] then (match rdT f m.tail with| .err e=> .err e| .ok x m2=>rdL f op (l++[x]) m2) else .err (m.headD tk0))
   else if ZeP m [41] then .ok (.mk op ByteArray.empty l) m.tail else .err (m.headD tk0)
end
theorem ZbN {m:List Tk} {s:List UInt8} (h:ZeP m s=true):∃t m1,m=t::m1∧t.kind=4∧t.text=s:=by
 cases m with
 |nil=>cases h
 | cons t m1=>
   unfold ZeP at h;simp only [Xe,decide_eq_true_eq,beq_iff_eq] at h;exact ⟨t,m1,rfl,h.1,h.2⟩
structure RdOk (m:List Tk) (t:Nd) (m2:List Tk):Prop where
 lt:m2.length<m.length
 suf:m2<:+m
 endl:EndL m2
theorem Zr8 : ∀ (f:Nat),(∀(m:List Tk) t m2,EndL m→rdT f m= .ok t m2→RdOk m t m2)∧(∀op l (m:List Tk) t m2,EndL m→rdL f op l m= .ok t m2→RdOk m t m2)
 |0=>⟨fun _ _ _ _ h=>by simp [rdT] at h,fun _ _ _ _ _ _ h=>by simp [rdL] at h⟩
 | f + 1 => by
   obtain ⟨ih1,ih2⟩:=Zr8 f;refine ⟨fun m t m2 he h=>?_,fun op l m t m2 he h=>?_⟩
   · cases m with
     |nil=>exact absurd rfl he.ne
     | cons t0 m1 =>
       rw [rdT] at h;split at h
       · rename_i h40;obtain ⟨t',m',hcons,hk,_⟩:=ZbN h40
         cases hcons;have he1:=he.tail (by omega);split at h
         · rename_i h41;obtain ⟨t',m',hcons,hk,_⟩:=ZbN h41;subst hcons
           cases h;exact ⟨by simp only [Xc,VH];omega,⟨[t0,t'],rfl⟩,he1.tail (by omega)⟩
         · cases h
       · split at h
         · cases h
         · rename_i hk1;(have hk1:t0.kind=1:=by simpa using hk1);have he1:=he.tail (by omega);split at h
           · split at h
             · cases h
             · cases h;exact ⟨by simp,⟨[t0],rfl⟩,he1⟩
           · split at h
             · rename_i h40;obtain ⟨t',m',hcons,hk,_⟩:=ZbN h40;subst hcons;have he2:=he1.tail (by omega)
               cases h2:rdT f m' with
               |err e=>simp only [VH,h2] at h;cases h
               | ok x m3=>
                 simp only [VH,h2] at h;have r1:=ih1 _ _ _ he2 h2;have r2:=ih2 _ _ _ _ _ r1.endl h;refine ⟨?_,r2.suf.trans (r1.suf.trans ⟨[t0,t'],rfl⟩),r2.endl⟩;have:=r1.lt;have:=r2.lt;simp only [Xc];omega
             · cases h;exact ⟨by simp,⟨[t0],rfl⟩,he1⟩
   · rw [rdL] at h;split at h
     · split at h
       · rename_i h44;obtain ⟨t',m',hcons,hk,_⟩:=ZbN h44;subst hcons;have he2:=he.tail (by omega)
         cases h2:rdT f m' with
         |err e=>simp only [VH,h2] at h;cases h
         | ok x m3=>
           simp only [VH,h2] at h;have r1:=ih1 _ _ _ he2 h2;have r2:=ih2 _ _ _ _ _ r1.endl h;refine ⟨?_,r2.suf.trans (r1.suf.trans ⟨[t'],rfl⟩),r2.endl⟩;have:=r1.lt;have:=r2.lt;simp only [Xc];omega
       · cases h
     · split at h
       · rename_i h41;obtain ⟨t',m',hcons,hk,_⟩:=ZbN h41;subst hcons
         cases h;exact ⟨by simp,⟨[t'],rfl⟩,he.tail (by omega)⟩
       · cases h
theorem Zvu (s:List UInt8):0≤ZsO s∧ZsO s≤6:=by
 unfold ZsO
 split
 · omega
 · split
   · omega
   · split
     · omega
     · split<;>omega
theorem Zvv {t:Tk} (h:t.text.length≤16384):FitT (.mk 1 (bst t.text) []):= .mk _ (Xf _) (by show (bst t.text).size≤_;rw [Zao];omega) (show (-9223372036854775808:Int)≤1 by decide) (show (1:Int)≤9223372036854775807 by decide) (fun x hx=>by cases hx)
theorem ZBp:FitT ZnZ:= .mk _ (Xf _) (Xf _) (by decide) (by decide) (fun x hx=>by cases hx)
theorem ZzC : ∀ (f:Nat),(∀(m:List Tk) t m2,EndL m→(∀x∈m,x.text.length≤16384)→m.length≤10000→rdT f m= .ok t m2→FitT t)∧(∀op l (m:List Tk) t m2,EndL m→(∀x∈m,x.text.length≤16384)→0≤op→op≤6→(∀x∈l,FitT x)→l.length+m.length≤10000→rdL f op l m= .ok t m2→FitT t)
 |0=>⟨fun _ _ _ _ _ _ h=>by simp [rdT] at h,fun _ _ _ _ _ _ _ _ _ _ _ h=>by simp [rdL] at h⟩
 | f + 1 => by
   obtain ⟨ih1,ih2⟩:=ZzC f;refine ⟨fun m t m2 he hx hl h=>?_,fun op l m t m2 he hx ho1 ho2 hll hl h=>?_⟩
   · cases m with
     |nil=>exact absurd rfl he.ne
     | cons t0 m1 =>
       have hx0:=hx t0 (Xk ..);have hob:=Zvu t0.text;rw [rdT] at h;split at h
       · split at h
         · cases h;exact ZBp
         · cases h
       · split at h
         · cases h
         · rename_i hk1;(have hk1:t0.kind=1:=by simpa using hk1);have he1:=he.tail (by omega);split at h
           · split at h
             · cases h
             · cases h;exact Zvv hx0
           · split at h
             · rename_i h40;obtain ⟨t',m',hcons,hk,_⟩:=ZbN h40;subst hcons;have he2:=he1.tail (by omega);have hx2:∀x∈m',x.text.length≤16384:=fun x hx'=>hx x (Xj _ (Xj _ hx'));simp only [Xc] at hl
               cases h2:rdT f m' with
               |err e=>simp only [VH,h2] at h;cases h
               | ok x m3=>
                 simp only [VH,h2] at h;have r1:=(Zr8 f).1 _ _ _ he2 h2;have r2:=ih1 _ _ _ he2 hx2 (by omega) h2;have:=r1.lt;exact ih2 _ _ _ _ _ r1.endl (fun x hx'=>hx2 x (r1.suf.subset hx')) (by omega) (by omega) (fun y hy=>by rw [Xi] at hy;subst hy;exact r2) (by simp only [Xc,Xs];omega) h
             · cases h;exact Zvv hx0
   · rw [rdL] at h;split at h
     · split at h
       · rename_i h44;obtain ⟨t',m',hcons,hk,_⟩:=ZbN h44;subst hcons;have he2:=he.tail (by omega);have hx2:∀x∈m',x.text.length≤16384:=fun x hx'=>hx x (Xj _ hx');simp only [Xc] at hl
         cases h2:rdT f m' with
         |err e=>simp only [VH,h2] at h;cases h
         | ok x m3=>
           simp only [VH,h2] at h;have r1:=(Zr8 f).1 _ _ _ he2 h2;have r2:=ih1 _ _ _ he2 hx2 (by omega) h2;have:=r1.lt;exact ih2 _ _ _ _ _ r1.endl (fun x hx'=>hx2 x (r1.suf.subset hx')) ho1 ho2 (fun y hy=>by
            rcases Xp.1 hy with h8|h8
            · exact hll y h8
            · rw [Xi] at h8;subst h8;exact r2) (by simp only [Xd,Xc,Xs];omega) h
       · cases h
     · split at h
       · cases h;exact .mk _ (by show l.length≤_;omega) (Xf _) (by show _≤op;omega) (by show op≤_;omega) hll
       · cases h
def Zgj (s:List UInt8):Nd×(Int×Int)×Int:=
 if 16384<s.length then (nd0,(0,0),5)
 else if (toksB s (1,1) []).2.2≠0 then (nd0,(toksB s (1,1) []).2)
 else match rdT ((toksB s (1,1) []).1.length+1) (toksB s (1,1) []).1 with
  | .err t=>(nd0,(t.ln,t.col),if t.kind=5 then 4 else 3)
  | .ok t m=>if (m.headD tk0).kind≠5 then (nd0,((m.headD tk0).ln,(m.headD tk0).col),3) else if Zen t then (t,(0,0),0) else (nd0,(0,0),5)
end Go.Proofs.YtgfabnhpllkebaaGreatDoor
namespace Go.En
open Go.RowKit Go.Cb
set_option linter.all false
section
variable {P:Program} {c:Ctx} {Q:Exit→Act→World→Prop} {sL hP:List (Nat×Ent)}
end
section
variable {P:Program} {st:St} {o:Oper} {x y:Operand} {q q':PV} {t t':TypeId}
theorem and_one {a:Nat} (h:a<128):IntKind.wrap .i64 ((BitVec.ofInt 64 (a:Int)&&& BitVec.ofInt 64 1).toNat:Nat)=((a % 2:Nat):Int):=by
 have key:∀a:Fin 128,IntKind.wrap .i64 ((BitVec.ofInt 64 ((a:Nat):Int)&&& BitVec.ofInt 64 1).toNat:Nat)=(((a:Nat) % 2:Nat):Int):=by decide
 exact key ⟨a,h⟩
end
def Zyk (c:Ctx) (R:Value→PV→List (Nat×Ent)→Prop) (Rp:List PanicEntry→List (Nat×Ent)→Prop) (e:Ending) (w':World):Prop:=
 Zrt c R e w'∨∃ch h F,e= .panicked ch∧Rp ch h∧HeapF c h F w'
def AFp (dd:Prop) (P:Program) (f:FuncId) (ar h:List (Nat×Ent)) (R:Value→PV→List (Nat×Ent)→Prop) (Rp:List PanicEntry→List (Nat×Ent)→Prop):Prop:=
 ∀(M N:BS) (w:World) (F:Nat→BS),HeapF ⟨w,M,N,0,dd,[]⟩ h F w→(∀i x,lk ar i=some x→Shr (mof ⟨w,M,N,0,dd,[]⟩ h F) w x.1 x.2)→Calls P f (ar.map (·.2.1)).toArray w (Zyk ⟨w,M,N,0,dd,[]⟩ R Rp)
def aP (c:Ctx) (Q:Exit→Act→World→Prop) (ch:List PanicEntry) (st:St):Prop:=∀a w F,HoldsF c st F a w→Q (.panic ch) a w
section
variable {P:Program}
theorem AFp.of_body {dd:Prop} {f:FuncId} {fn:Func} {code:Code} {ar h:List (Nat×Ent)} {R:Value→PV→List (Nat×Ent)→Prop} {Rp:List PanicEntry→List (Nat×Ent)→Prop} (nt:Nat) (hf:P.funcs[f]? =some fn) (hb:fn.body=some code) (hnt:fn.ntmps=nt) (hn:ar.length≤nt) (ho:Zca 0 ar=true)
 (H:∀(w0:World) (M0 N0:BS),aC P ⟨w0,M0,N0,nt,dd,[]⟩ code (bodyPost P fn (Zyk ⟨w0,M0,N0,nt,dd,[]⟩ R Rp)) ⟨ar,h⟩):AFp dd P f ar h R Rp:=fun M N w F HF hv=>by
 subst hnt
 refine calls_of_wp hf hb ?_
 refine wp_mono (H w M N _ w ⟨F,⟨HF.nt rfl rfl rfl id HF.m0,fun t v p ht=>?_,?_,rfl⟩⟩) fun e a w' hq=>?_
 · obtain ⟨_,h1⟩:=ZgD ar 0 t (v,p) ho ht;refine ⟨?_,hv t (v,p) ht⟩;simp only [Vg] at h1;have:=ζi h1;rw [Vh (by simpa using this)];simpa using h1
 · simp;omega
 · have key:∀e w',Zyk ⟨w,M,N,fn.ntmps,dd,[]⟩ R Rp e w'→Zyk ⟨w,M,N,0,dd,[]⟩ R Rp e w':=fun _ _ h=>by
    rcases h with ⟨v',p,h',F',h3,h4,h5,h6⟩|⟨ch,h',F',h3,h4,h5⟩
    · exact .inl ⟨v',p,h',F',h3,h4,h5.nt rfl rfl rfl id h5.m0,h6⟩
    · exact .inr ⟨ch,h',F',h3,h4,h5.nt rfl rfl rfl id h5.m0⟩
   cases e with
   |ret=>obtain ⟨h1,v,h2,h3⟩:=hq;exact ⟨h1,v,h2,key _ _ h3⟩
   |normal=>obtain ⟨h1,v,h2,h3⟩:=hq;exact ⟨h1,v,h2,key _ _ h3⟩
   |panic ch=>obtain ⟨h1,h3⟩:=hq;exact ⟨h1,key _ _ h3⟩
   |outgrown=>exact key _ _ hq
   |_=>exact hq.elim
end
section
variable {P:Program} {c:Ctx} {ops:Array Oper} {Q:Exit→Act→World→Prop} {rest:List Oper} {sL hP:List (Nat×Ent)} {o:Oper}
theorem ZC8 {fn:Func} {R:Value→PV→List (Nat×Ent)→Prop} {Rp:List PanicEntry→List (Nat×Ent)→Prop} (h:List (Nat×Ent)) (hr:fn.results= #[]) (hs:Sub h hP) (hR:R (.tuple #[]) (.val (.tuple #[])) h) (hdf:c.df=[]:=by exact rfl):aR c (bodyPost P fn (Zyk c R Rp)) (⟨sL,hP⟩:St):=fun a w ⟨F,H0⟩=>by
 have H:HoldsF c (⟨sL,h⟩:St) F a w:=H0.less (fun _ _ h=>h) fun t x hx=>hs.lk hx
 refine ⟨H.df.trans hdf, .tuple #[],?_, .inl ⟨.tuple #[], .val (.tuple #[]),h,F,rfl,hR,H.toHeapF, .val _⟩⟩
 simp [results,hr]
theorem ZC9 {fn:Func} {R:Value→PV→List (Nat×Ent)→Prop} {Rp:List PanicEntry→List (Nat×Ent)→Prop} (h:List (Nat×Ent)) (hr:fn.results= #[]) (hs:Sub h hP) (hR:R (.tuple #[]) (.val (.tuple #[])) h) (hdf:c.df=[]:=by exact rfl):aN c (bodyPost P fn (Zyk c R Rp)) (⟨sL,hP⟩:St):=ZC8 h hr hs hR hdf
theorem ZqZ {x:Operand} {t:TypeId} {v:Value} {q:PV} (k:aP c Q [{v:= .iface t v,recovered:=false}] (⟨sL,hP⟩:St)) (hw:ζ2 ops sL o=some true:=by exact rfl) (ho:o.op= .panic x:=by exact rfl) (hx:ev sL x=some (.iface t v,q):=by exact rfl):aL P c ops Q (o::rest) (⟨sL,hP⟩:St):=
 Zav hw fun a w F H=>by
  have hxv:=(H.rd.ev hx).1;unfold Oper.wp execOp;simp [ho,hxv,Instr.panic,goPanic,Sem.run,Oper.upon];exact k a w F H
theorem ZDa {dd:Prop} {f:Nat} {ar:List (Nat×Ent)} {R:Value→PV→List (Nat×Ent)→Prop} {Rp:List PanicEntry→List (Nat×Ent)→Prop} (K:List Nat) (d:Nat) (hw:ζ2 ops sL o=some true) (hd:o.dst=some d) (hn:d<c.nt)
 (hE:∀a w F,HoldsF c (⟨sL,hP⟩:St) F a w→(execOp a.eval o).run P w= .ok (.enter f (ar.map (·.2.1)).toArray) w∧∀(i:Nat) (x:Value) (q:PV),((ar.map (·.2)).map (·.1))[i]? =some x→((ar.map (·.2)).map (·.2))[i]? =some q→Shr (mof c hP F) w x q)
 (hA:AFp dd P f ar (Zbv K hP) R Rp) (hio:Zca 0 ar=true) (hdd:c.dr→dd)
 (k:∀v p h,R v p h→aL P c ops Q rest ⟨put d (v,p) sL,h++ZaP K hP⟩) (kp:∀ch h,Rp ch h→aP c Q ch ⟨[],h++ZaP K hP⟩):aL P c ops Q (o::rest) (⟨sL,hP⟩:St):=
 Zav hw fun a w F H=>by
  obtain ⟨hr,h2⟩:=hE a w F H;have hfr:=H.frame K;have hin:∀b,mof ⟨w,fun b=>c.M0 b∨∃l x,K.elem l=true∧lk hP l=some x∧F l b,nK K hP F,c.nt,c.dr,c.df⟩ (Zbv K hP) F b→mof c hP F b:=by
   rintro b ((h|⟨l,x,_,h1,h2⟩)|⟨l,x,h1,h2⟩)
   · exact .inl h
   · exact .inr ⟨l,x,h1,h2⟩
   · exact .inr ⟨l,x,(ZbA.1 h1).2,h2⟩
  have hcall:=hA (fun b=>c.M0 b∨∃l x,K.elem l=true∧lk hP l=some x∧F l b) (nK K hP F) w F
   ⟨hfr.tr,hfr.lo,hfr.dj,hfr.m0.up hdd,hfr.ext,fun _=>Xb _⟩
   (fun i x hi=>by
     obtain ⟨_,h3⟩:=Zd2 ar 0 i x hio hi;rw [Vg] at h3;exact (h2 i x.1 x.2 (by rw [Xl,Xl,h3];rfl) (by rw [Xl,Xl,h3];rfl)).anti fun b _ hb=>hin b hb)
  unfold Oper.wp;rw [hr,Oper.upon_enter];refine hcall.mono fun e w' he=>?_;rcases he with ⟨v,p,h,F',e1,e2,e3,e4⟩|⟨ch,h,F',e1,e2,e3⟩
  · subst e1;have hch:Chg (nK K hP F) w w':=e3.ext;have hlow:∀b,b<w.heap.size→mof ⟨w,fun b=>c.M0 b∨∃l x,K.elem l=true∧lk hP l=some x∧F l b,nK K hP F,0,dd,[]⟩ h F' b→mof c hP F b:=by
     rintro b hlt ((h1|⟨l,x,_,h1,h2⟩)|⟨l,x,h1,h2⟩)
     · exact .inl h1
     · exact .inr ⟨l,x,h1,h2⟩
     · rcases e3.lo l x b h1 h2 with h3|⟨l',x',_,h3,h4⟩
       · exact absurd hlt (by simp only at h3;omega)
       · exact .inr ⟨l',x',h3,h4⟩
    have H':HoldsF ⟨w,fun b=>c.M0 b∨∃l x,K.elem l=true∧lk hP l=some x∧F l b,nK K hP F,c.nt,c.dr,c.df⟩ (⟨put d (v,p) sL,h⟩:St) F' (a.put o.dst v) w':=by
     refine ⟨e3.nt rfl rfl rfl hdd hfr.m0,fun t u q ht=>?_,by rw [hd];simpa [Act.put] using H.size,by rw [hd];exact H.df⟩;rw [hd];rcases Zag ht with ⟨rfl,e⟩|⟨hne,e⟩
     · cases e;refine ⟨?_,e4⟩;simp [Act.put,H.size,hn]
     · obtain ⟨h3,h4⟩:=H.sl t u q e;refine ⟨?_,h4.to hch (fun b _ ⟨l,x,_,h5,h6⟩=> .inr ⟨l,x,h5,h6⟩) (fun b hlt hb=>hlow b hlt hb)⟩;simpa [Act.put,Ur,hne] using h3
    obtain ⟨H2,_,_⟩:=H.unframe H';exact k v p h e2 _ _ ⟨_,H2⟩
  · subst e1;have H':HoldsF ⟨w,fun b=>c.M0 b∨∃l x,K.elem l=true∧lk hP l=some x∧F l b,nK K hP F,c.nt,c.dr,c.df⟩ (⟨[],h⟩:St) F' a w':=
     ⟨e3.nt rfl rfl rfl hdd hfr.m0,fun t u q ht=>by simp [lk] at ht,H.size,H.df⟩
    obtain ⟨H2,_,_⟩:=H.unframe H';exact kp ch h e2 _ _ _ H2
theorem Zvw {dd:Prop} {f:Nat} {ar h0:List (Nat×Ent)} {R:Value→PV→List (Nat×Ent)→Prop} {Rp:List PanicEntry→List (Nat×Ent)→Prop} {xs:Array Operand} {ats:Array TypeId} (K:List Nat) (d:Nat) (hc:∀args w,(callFunc f args).run P w= .ok (.enter f args) w) (hA:AFp dd P f ar h0 R Rp)
 (k:∀v p h,R v p h→aL P c ops Q rest ⟨put d (v,p) sL,h++ZaP K hP⟩) (kp:∀ch h,Rp ch h→aP c Q ch ⟨[],h++ZaP K hP⟩) (hw:ζ2 ops sL o=some true:=by exact rfl) (hd:o.dst=some d:=by exact rfl) (hn:d<c.nt:=by exact Xa rfl)
 (ho:o.op= .call {callee:= .value (.func f),args:=xs,argTypes:=ats}:=by exact rfl) (hx:evL sL xs.toList=some (ar.map (·.2)):=by exact rfl) (hh0:h0=Zbv K hP:=by exact rfl) (hio:Zca 0 ar=true:=by exact rfl) (hdd:c.dr→dd:=by first|exact id|exact fun h=>h.elim|exact fun _=>trivial):aL P c ops Q (o::rest) (⟨sL,hP⟩:St):=by
 subst hh0
 refine ZDa K d hw hd hn (fun a w F H=>?_) hA hio hdd k kp
 obtain ⟨h1,h2⟩:=Zb6 H.rd hx
 refine ⟨?_,h2⟩
 have hargs:xs.map a.eval=(ar.map (·.2.1)).toArray:=by
  rw [show ar.map (·.2.1)=(ar.map (·.2)).map (·.1) by rw [XN];rfl,←h1,←Vr,Vq]
 simp [execOp,ho,resolve,Act.eval,Deferred.ofValue,invoke,hargs,hc]
end
end Go.En
