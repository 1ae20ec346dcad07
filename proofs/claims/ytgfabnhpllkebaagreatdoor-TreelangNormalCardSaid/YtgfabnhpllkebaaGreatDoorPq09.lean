/-
  Walks: automata: the minimal automaton of a table.
  Walks: automata: the minimal automaton of an automaton.
  Walks: automata: Minimal and Complement.
  Walks: the reference's automata: lists of numbers as texts.
  Walks: the reference's automata: the subset automaton. Its final states are handed over.
  Walks: the reference's automata: the classes of a table's states.
  Walks: the reference's automata: the automaton of a table.
  Walks: the reference's automata: the least automaton of a table.
  Walks: the reference's automata: Minimal and Complement.
  Walks: automata: moves are sorted, each is kept once.
  Walks: automata: what an operation made is minimized; Star.
  Plain laws: what the reference finishes; a move put in its place. No program in sight.
  Plain laws: shuffles. No program in sight.
  Plain laws: the words of unions, concatenations, stars, reversals, shuffles. No program in sight.
  Plain laws: how what a search has met was met; ways back; turning round. No program in sight.
  Plain laws: searches go by ages; first words of products. No program in sight.
  Plain laws: minimal automata are unique; first differences. No program in sight.
-/
import Derived.Test.YtgfabnhpllkebaaGreatDoorPq08
import Derived.Test.YtgfabnhpllkebaaGreatDoorPq03
import Derived.Test.YtgfabnhpllkebaaGreatDoorMShelfF
import Derived.Test.YtgfabnhpllkebaaGreatDoorPq01
namespace Go.Proofs.YtgfabnhpllkebaaGreatDoor
open Go.RowKit Go.Cb Go.En
set_option linter.all false
set_option maxRecDepth 100000
theorem ZoY:FldT Tryz.prog 147 0 0=true:=by kernel_rfl
theorem ZeN:MpT Tryz.prog 279 3 3 (.int .i64) (.int .i64 0):=⟨Tryz.underlying279,Tryz.underlying3, .inr ⟨_,rfl⟩,by show ZeroT _ _ _;unfold ZeroT;kernel_rfl⟩
theorem ζX:ZbX Tryz.prog 39=some ((.agg #[(.int .i64 0),(.int .i64 0),(.slice none 0 0),(.slice none 0 0),(.slice none 0 0)]),([0,1,2,3,4]:List Nat).map fun o=>(o,1)):=by kernel_rfl
theorem Zcn:ZbX Tryz.prog 93=some ((.agg #[(.int .i64 0),(.int .i64 0),(.int .i64 0)]),([0,1,2]:List Nat).map fun o=>(o,1)):=by kernel_rfl
theorem ζN:ZeroT Tryz.prog 39 (.agg #[(.int .i64 0),(.int .i64 0),(.slice none 0 0),(.slice none 0 0),(.slice none 0 0)]):=by unfold ZeroT;kernel_rfl
section
variable {α:Type}
def Zbc (f:α→Int) (o:List α) (x:α):Nat:=if posK f o (f x)<o.length then posK f o (f x) else 0
theorem ZnJ (f:α→Int) (o:List α) (x:α):(Zca (ikv (ZaT f 0 o)) (.int .i64 (f x))).getD (.int .i64 0)= .int .i64 (Zbc f o x:Nat)∧(Zca (ikv (ZaT f 0 o)) (.int .i64 (f x))).isSome=decide (posK f o (f x)<o.length):=by
 rw [ZpJ,ZgV]
 unfold Zbc
 by_cases h:posK f o (f x)<o.length
 · rw [if_pos h,if_pos h,decide_eq_true h,Xw];exact ⟨rfl,rfl⟩
 · rw [if_neg h,if_neg h,decide_eq_false h];exact ⟨rfl,rfl⟩
theorem Zrh {f:α→Int} {o:List α} {x:α} (h:¬posK f o (f x)<o.length):Zdn (ikv (ZaT f 0 o)) (.int .i64 (f x)) (.int .i64 (o.length:Nat))=ikv (ZaT f 0 (o++[x])):=by
 have:=Zln f x o 0 h
 rw [Xw] at this
 rw [ZpK,this]
end
section
variable {α:Type} {P:Program} {sL hP:List (Nat×Ent)} {o:Oper}
theorem Zud {t ks e:Nat} {kd:TypeDesc} {z:Value} {x y:Operand} {m:Value} {f:α→Int} {L:List α} {a:α} {p q:PV} (l:Nat) (hT:MpT P t ks e kd z) (hz:z= .int .i64 0) (hkd:kd= .int .i64) (ho:o.op= .lookup t x y true:=by exact rfl) (hx:ev sL x=some (m,p):=by exact rfl) (hl:lk hP l=some (m, .omap (ikv (ZaT f 0 L))):=by exact rfl) (hy:ev sL y=some (.int .i64 (f a),q):=by exact rfl):
 YE P (⟨sL,hP⟩:St) o (· = .tuple [.int .i64 (Zbc f L a:Nat), .bool (decide (posK f L (f a)<L.length))].toArray) (.tup [.val (.int .i64 (Zbc f L a:Nat)), .val (.bool (decide (posK f L (f a)<L.length)))]):=by
 subst hz hkd
 have h:=ZpM (sL:=sL) (hP:=hP) (o:=o) l hT ho hx hl hy (Zij _ _)
 rw [(ZnJ f L a).1,(ZnJ f L a).2] at h
 exact h
end
def Zb3 (t:Tab) (x:Nat):Int:=(ZbU t x:Nat)
theorem Zue (t:Tab) (o:List Nat) (x:Nat):posK (Zb3 t) o (Zb3 t x)=posK (ZbU t) o (ZbU t x):=ZgU fun y _=>by unfold Zb3;omega
theorem Zg7 {t:Tab} {o o':List Nat} (h:o<+:o'):∀k,k≤o.length→Zbg k (ZdA t o)=Zbg k (ZdA t o')
 |0,_=>rfl
 | k+1,hk=>by
   rw [Zdu,Zdu,Zg7 h k (by omega)];obtain ⟨x,hx⟩:=ζm (show k<o.length by omega);unfold ZdA;rw [hx,ZcA h hx]
theorem Zcq (e:Nat) (L:List Mv) (x:Mv):PV.own e 3 (L.length+1) (L.flatMap cMv++cMv x)= .own e 3 (L++[x]).length ((L++[x]).flatMap cMv):=by simp
theorem Zjw (e n:Nat) (l:List Mv) (hn:n=l.length):share (.own e 3 n (l.flatMap cMv))=pMvs l:=by
 subst hn
 rw [share,Zai,V8];rfl
theorem ZeO (e:Nat) (L:List Int) (x:Int):PV.own e 1 (L.length+1) (L.map pInt++[pInt x])= .own e 1 (L++[x]).length ((L++[x]).map pInt):=by simp
theorem Zuf {rows:List (List Nat)} {r:List Nat} {n m:Nat} (h:∀x∈rows,x.length=m) (hm:m≤40) (hn:rows.length≤2000) (hr:r.length≤m):(ζ1 rows++Zan n r).length≤80040:=by
 rw [Xc,ZsT rows h,Zes]
 have:rows.length*m≤2000*40:=Ug hn hm
 omega
set_option maxHeartbeats 4000000 in
theorem Zs3 (t : Tab) (ht:TOk t):AF Tryz.prog 186 [Zrd t] (· =resW (lim (Zb0 t))):=by
 have hn1:=ht.n1
 have hfl:=ht.fl
 have hm1:=ht.m1
 have hpos:=ht.pos
 refine AF.of_body 101 Tryz.func186 rfl Tryz.ntmps186 (Xa rfl) ?_
 intro w0 M0 vs hl hv
 obtain ⟨v0,rfl⟩:=Zco hl
 clear hl hv
 refine nav ?_
 (refine ζa ?_<;>refine ζH 1 3 fun h1=>?_<;>refine ζs [(.int .i64 0),(.int .i64 0),(.slice none 0 0),(.slice none 0 0),(.slice none 0 0)] 5 2 ζN fun h2=>?_<;>refine xL 3 ζc ?_<;>refine ζd ?_)
 (refine ζa ?_<;>(refine yL 13 (ζk 1 Zbt) fun v13 h=>?_;cases h)<;>(refine cO 14 (cA Tryz.call232 (Zs2 t ht)) fun v14 ho14=>?_;refine ζr (En.freeze (l:=14) (t:=14) rfl rfl) fun _=>?_;rw [show share (.own 3 1 t.rows.length (vec t.rows.length fun s=>pInt (ZbU t s:Nat)))= .sl t.rows.length (vec t.rows.length fun s=>pInt (ZbU t s:Nat)) by rw [share,Zai,ZAY];rfl])<;>refine xL 4 ζc ?_<;>refine ζd ?_)
 have e1:=ZiH (fun s=>pInt (ZbU t s:Nat)) hpos
 (refine ζa ?_<;>refine ZfZ 15 fun h15 ho15=>?_<;>refine xL 16 ζb ?_<;>refine xL 17 (ζI (i:=0) ζu) ?_<;>(refine yL 18 (ZaE ζp) fun v18 h=>?_;cases h)<;>(refine Zxi 15 ZeN ?_;rw [show Zdn [] (.int .i64 ((ZbU t 0:Nat):Int)) (.int .i64 0)=ikv (ZaT (Zb3 t) 0 [0]) from rfl])<;>refine xL 19 ζb (xL 5 ζc ?_)<;>refine ζd ?_)
 (refine ζa ?_<;>refine ζP (kk:=1) 20 ζn fun h20 ho20=>?_<;>refine xL 6 ζc ?_<;>refine ζd ?_)
 refine ζw (ζF (l:=15) 304 rfl rfl) fun _=>?_
 refine ζw (ζF (l:=20) 303 rfl rfl) fun _=>?_
 refine ζw (ζM (l:=303) (p':= .own 3 1 ([0]:List Nat).length ((toI [0]).map pInt)) rfl rfl) fun _=>?_
 (refine ζa ?_<;>refine xL 21 (ζh 1 ZoY) ?_<;>(refine yL 22 (ζq 1 ζp) fun v22 h=>?_;cases h)<;>(refine ζP (kk:=1) 23 ζn fun h23 ho23=>?_;refine ζr (En.freeze (l:=23) (t:=23) rfl rfl) fun _=>?_;rw [show share (PV.own 3 1 1 [PV.val (.int .i64 0)])=pInts [0] from rfl])<;>refine xL 24 (ζB ζX) ?_<;>refine ζs [(.int .i64 0),(.int .i64 0),(.slice none 0 0),(.slice none 0 0),(.slice none 0 0)] 5 7 ζN fun h7=>?_<;>refine ζt 7 ζo ?_<;>refine ζd ?_)
 refine ζw (Zey (l:=7) [pInt 0,pInt (t.m:Nat),pInts [0], .own 3 1 0 [], .own 93 3 0 []] rfl rfl (fun i p p' h1 h2=>by
  match i with
  |0=>cases h1;cases h2;exact .inl rfl
  |1=>cases h1;cases h2;exact .inl rfl
  |2=>cases h1;cases h2;exact .inl rfl
  |3=>cases h1;cases h2;exact .inr ⟨rfl,_,_,rfl⟩
  |4=>cases h1;cases h2;exact .inr ⟨rfl,_,_,rfl⟩
  |i+5=>simp at h2)) fun _=>?_
 refine ζw (Zez (l:=7) (l':=301) (j:=3) rfl rfl rfl rfl) fun i=>?_
 obtain ⟨v301,ho301⟩:=i
 refine ζw (Zez (l:=7) (l':=302) (j:=4) rfl rfl rfl rfl) fun i=>?_
 obtain ⟨v302,ho302⟩:=i
 dsimp only [List.set]
 (refine ζa ?_<;>refine xL 8 ζc ?_<;>refine ζd ?_)
 refine ζy (ι:={q:Nat×Value×Value×Value×List Nat×List (List Nat)//(minW t).upto 0 q.1=some (q.2.2.2.2.1,q.2.2.2.2.2)∧q.1≤q.2.2.2.2.1.length∧q.2.1.oneCell'=true∧q.2.2.1.oneCell'=true∧q.2.2.2.1.oneCell'=true}) (fun k=>⟨[(1,_,_),(2,_,_),(3,_,_),(4,_,_),(5,_,_),(7,_,_),(6,k.1.2.2.2.1, .val k.1.2.2.2.1),(8, .int .i64 k.1.1,pInt k.1.1)],[(1,_,_),(2,_,_),(7,h7, .own 39 5 1 [pInt 0,pInt (t.m:Nat),pInts [0], .val k.1.2.1, .val k.1.2.2.1]),(301,k.1.2.1, .own 3 1 (Zbg k.1.1 (ZdA t k.1.2.2.2.2.1)).length ((Zbg k.1.1 (ZdA t k.1.2.2.2.2.1)).map pInt)),(302,k.1.2.2.1, .own 93 3 (ζ1 k.1.2.2.2.2.2).length ((ζ1 k.1.2.2.2.2.2).flatMap cMv)),(303,k.1.2.2.2.1, .own 3 1 k.1.2.2.2.2.1.length ((toI k.1.2.2.2.2.1).map pInt)),(304,h15, .omap (ikv (ZaT (Zb3 t) 0 k.1.2.2.2.2.1)))]⟩) (fun k=>2000-k.1.1) ⟨(0,v301,v302,h20,[0],[]),rfl,Xe _,ho301,ho302,ho20⟩ (fun a w H=>H.weaken ⟨rfl,rfl,rfl,rfl,rfl,rfl,rfl,rfl,trivial⟩ ⟨rfl,rfl,rfl,rfl,rfl,rfl,rfl,trivial⟩) ?_
 rintro ⟨⟨i,hF,hM,hO,o,rows⟩,hU,hi,hFo,hMo,hOo⟩
 dsimp only
 dsimp only at hU hi hFo hMo hOo
 obtain ⟨hOk,hRl,_⟩:=ZsS ht hU
 have hRl:=hRl hi
 have hcap:o.length≤t.rows.length:=hOk.cap
 have hrw:=hOk.len
 have htl:=Ze6 o
 have hll:=Zkc i (ZdA t o)
 refine nav ?_
 (refine ζa ?_<;>refine xL 25 ζb (xL 26 ζb (xL 27 (ZaH 303 ζu) (xL 28 ζK ?_)))<;>refine ζd ?_)
 (first|refine cCd ?_ ?_|refine cC ?_ ?_)<;>intro hb28
 · first
   |exact bN hb28
   | (
    obtain ⟨x,hx⟩:=ζm (show i<o.length by omega);have hxn:x<t.rows.length:=hOk.p x (Xb hx);(have e1:((toI o).map pInt)[i*1]? =some (pInt (x:Nat)):=by rw [Xx,Xm];unfold toI;rw [Xm,hx];rfl);obtain ⟨b,hb⟩:=ζm (show x<t.fin.length by omega);have e2:=Zas (f:=ζV) hb;obtain ⟨row,hrow⟩:=ζm hxn;have e3:=Zas (f:=ZfK) hrow;have hrl:=ht.rl row (Xb hrow);have hrt:=ht.to row (Xb hrow);have hrtl:=Ze6 row;(have hfa:ZdA t o i=b:=by unfold ZdA;rw [hx];show (t.fin[x]?).getD false=b;rw [hb];rfl);have hL1:=Zdu i (ZdA t o);rw [hfa] at hL1;refine nav ?_;(refine ζY (fun i=>([]:List Nat).elem i) [1,303] kR ?_<;>refine xD 0 31 rfl (ζh 1 Zcd) ?_<;>(refine yD 1 32 rfl (ζq 1 ZbB) fun v32 h=>?_;cases h)<;>refine xD 2 33 rfl ζb ?_<;>refine xE 3 34 rfl ζb ?_<;>refine xE 4 35 rfl (ζv 303 ζu) ?_<;>(refine yE 5 36 rfl (ζq 303 ζp) fun v36 h=>?_;cases h)<;>refine xE 6 37 rfl (ζI Zcb) ?_<;>(refine yE 7 38 rfl (ZaE ZeD) fun v38 h=>?_;cases h)<;>refine Zam kR (nav ?_)<;>try dsimp only)
    (first|refine cCd ?_ ?_|refine cC ?_ ?_)<;>intro hb38
    · first
      |exact bN hb38
      | (
       rw [if_pos hb38] at hL1;refine nav ?_;(refine ζa ?_<;>refine xL 39 (ζh 7 Zau) ?_<;>(refine yL 40 (ζq 7 ζD) fun v40 h=>?_;cases h)<;>refine xL 41 ζb ?_<;>refine ζP (kk:=1) 42 ζn fun h42 ho42=>?_<;>(refine ζ0 301 42 43 ζn fun h43 ho43=>?_;refine ζr (ζF (l:=43) 301 rfl rfl) fun _=>?_;refine ζr (ζM (l:=301) rfl (ZeO _ (Zbg i (ZdA t o)) i)) fun _=>?_)<;>refine xL 44 (ζh 7 Zau) ?_<;>refine ZbQ 7 ζD Zcm ?_<;>refine ζd ?_)
       (refine ζY (fun i=>([]:List Nat).elem i) [1,303] kR ?_<;>refine xD 0 45 rfl (ζh 1 ZbP) ?_<;>(refine yD 1 46 rfl (ζq 1 ZcG) fun v46 h=>?_;cases h)<;>refine xD 2 47 rfl ζb ?_<;>refine xD 3 48 rfl ζb ?_<;>refine xD 4 49 rfl (ζv 303 ζu) ?_<;>(refine yD 5 50 rfl (ζq 303 ζp) fun v50 h=>?_;cases h)<;>refine xD 6 51 rfl (ζI ZaN) ?_<;>(refine yD 7 52 rfl (ZaE ζD) fun v52 h=>?_;cases h)<;>refine xD 8 53 rfl (ζU ζu) ?_<;>refine xE 9 54 rfl ζb ?_<;>refine Zam kR (nav ?_)<;>try dsimp only)
       rw [←hL1];rw [show ζ1 rows=ζ1 rows++Zan i ([]:List Nat) from (XB _).symm];refine ζy (ι:={q:Nat×Value×Value×List Nat×List Nat//(minW t).row i x o q.1=some (q.2.2.2.1,q.2.2.2.2)∧q.1≤t.m∧q.2.1.oneCell'=true∧q.2.2.1.oneCell'=true}) (fun k=>⟨[(1,_,_),(2,_,_),(3,_,_),(4,_,_),(5,_,_),(7,_,_),(8,_,_),(52,_,_),(53,_,_),(6,k.1.2.2.1, .val k.1.2.2.1),(54, .int .i64 k.1.1,pInt k.1.1)],[(1,_,_),(2,_,_),(301,_,_),(7,h7, .own 39 5 1 [pInt 0,pInt (t.m:Nat),pInts [0],_, .val k.1.2.1]),(302,k.1.2.1, .own 93 3 (ζ1 rows++Zan i k.1.2.2.2.2).length ((ζ1 rows++Zan i k.1.2.2.2.2).flatMap cMv)),(303,k.1.2.2.1, .own 3 1 k.1.2.2.2.1.length ((toI k.1.2.2.2.1).map pInt)),(304,h15, .omap (ikv (ZaT (Zb3 t) 0 k.1.2.2.2.1)))]⟩) (fun k=>t.m-k.1.1) ⟨(0,hM,hO,o,[]),rfl,Xe _,hMo,hOo⟩ (fun a w H=>H.weaken ⟨rfl,rfl,rfl,rfl,rfl,rfl,rfl,rfl,rfl,rfl,rfl,trivial⟩ ⟨rfl,rfl,rfl,rfl,rfl,rfl,rfl,trivial⟩) ?_;rintro ⟨⟨s,hM',hO',o',r⟩,hW,hs,hM'o,hO'o⟩;dsimp only;dsimp only at hW hs hM'o hO'o;obtain ⟨hMt,hpr,hrl2,_⟩:=hOk.toMet.row (fun s _=>ZcE ht) (show s≤(minW t).m from hs) hW;have hcap':o'.length≤t.rows.length:=hMt.cap;have htl':=Ze6 o';have hmr:=Zuf (n:=i) hrw hm1 (by omega) (show r.length≤t.m by omega);refine nav ?_;(refine ζa ?_<;>refine xL 55 ζK ?_<;>refine ζd ?_)
       (first|refine cCd ?_ ?_|refine cC ?_ ?_)<;>intro hb55
       · first
         |exact bN hb55
         | (
          obtain ⟨y,hy⟩:=ζm (show s<row.length by omega);have hyn:=hrt y (Xb hy);(have e4:((toI row).map pInt)[s*1]? =some (pInt (y:Nat)):=by rw [Xx,Xm];unfold toI;rw [Xm,hy];rfl);have e5:=ZiH (fun s=>pInt (ZbU t s:Nat)) hyn;have hto:(minW t).step i x s=y:=Zjo hrow hy;have hid:=Zue t o' y;refine nav ?_;(refine ζa ?_<;>refine xL 56 ζb (xL 57 (ζI ζu) ?_)<;>(refine yL 58 (ZaE ζp) fun v58 h=>?_;cases h)<;>refine xL 9 ζc (xL 10 ζc ?_)<;>refine ζd ?_)
          (refine ζa ?_<;>refine xL 60 ζb (xL 61 ζb (xL 62 ζb (xL 63 (ζI ζu) ?_)))<;>(refine yL 64 (ZaE ζp) fun v64 h=>?_;cases h)<;>refine xL 65 (Zud (f:=Zb3 t) (L:=o') (a:=y) 304 ZeN rfl rfl) ?_<;>refine xL 59 ζb (xL 66 ζl (xL 67 ζl (xL 11 ζc (xL 12 ζc ?_))))<;>refine ζd ?_)
          (refine ζa ?_<;>refine xL 68 ζb (xL 69 Zav ?_)<;>refine ζd ?_)
          (first|refine cCd ?_ ?_|refine cC ?_ ?_)<;>intro hb69
          · first
            |exact bN hb69
            | (
             (have hnew:¬posK (Zb3 t) o' (Zb3 t y)<o'.length:=by simpa using hb69);have hnew2:¬posK (minW t).key o' ((minW t).key ((minW t).step i x s))<o'.length:=by
              rw [hto];show ¬posK (ZbU t) o' (ZbU t y)<o'.length;rw [←hid];exact hnew
             have hroom:=Zjp ht hMt (show (minW t).step i x s<t.rows.length by rw [hto];exact hyn) hnew2;refine nav ?_;(refine ζa ?_<;>refine xL 70 ζb (xL 71 (ZaH 303 ζu) (xL 11 ζc ?_))<;>refine ζd ?_)
             (refine ζa ?_<;>refine xL 72 ζb (xL 73 ζb (xL 74 ζb (xL 75 (ζI ζu) ?_)))<;>(refine yL 76 (ZaE ζp) fun v76 h=>?_;cases h)<;>refine xL 77 ζb ?_<;>(refine ZhU 304 ZeN ?_;rw [show Zdn (ikv (ZaT (Zb3 t) 0 o')) (.int .i64 ((ZbU t y:Nat):Int)) (.int .i64 ((o'.length:Nat):Int))=ikv (ZaT (Zb3 t) 0 (o'++[y])) from Zrh hnew])<;>refine ζd ?_)
             (refine ζa ?_<;>refine xL 78 ζb (xL 79 ζb ?_)<;>refine ζP (kk:=1) 80 ζn fun h80 ho80=>?_<;>(refine ζ0 303 80 81 ζn fun h81 ho81=>?_;refine ζr (ζF (l:=81) 303 rfl rfl) fun _=>?_;refine ζr (ζM (l:=303) rfl (Zl5 _ o' y)) fun _=>?_)<;>refine xL 6 ζc ?_<;>refine ζd ?_)
             (refine ζa ?_<;>refine xL 82 (ζh 7 ζE) ?_<;>(refine yL 83 (ζq 7 ζO) fun v83 h=>?_;cases h)<;>refine xL 84 ζb (xL 85 ζb (xL 86 ζb (xL 87 (ζB Zcn) ?_)))<;>refine Zaw 88 Zaj fun h88 ho88=>?_<;>(refine ζ0 302 88 89 Zaj fun h89 ho89=>?_;refine ζr (ζF (l:=89) 302 rfl rfl) fun _=>?_;first|refine ζr (ζM (l:=302) rfl (Zcq _ (ζ1 rows++Zan i r) ⟨(i:Nat),(o'.length:Nat),(s:Nat)⟩)) fun _=>?_|refine ζr (ζM (l:=302) rfl (Zcq _ (ζ1 rows++Zan i r) ⟨(i:Nat),(Zbc (Zb3 t) o' y:Nat),(s:Nat)⟩)) fun _=>?_)<;>refine xL 90 (ζh 7 ζE) ?_<;>refine ZbQ 7 ζO Zby ?_<;>refine ζd ?_)
             (refine ζa ?_<;>refine xL 91 ζG (xL 54 ζb ?_)<;>refine ζd ?_)
             try rw [show (ζ1 rows++Zan i r)++[(⟨(i:Nat),(o'.length:Nat),(s:Nat)⟩:Mv)]=ζ1 rows++Zan i (r++[o'.length]) by rw [ZcF,hrl2,XA]]
             try rw [show (ζ1 rows++Zan i r)++[(⟨(i:Nat),(Zbc (Zb3 t) o' y:Nat),(s:Nat)⟩:Mv)]=ζ1 rows++Zan i (r++[Zbc (Zb3 t) o' y]) by rw [ZcF,hrl2,XA]]
             first
              | (exact ζj (
                  ⟨(s+1,h89,h81,o'++[y],r++[o'.length]),(by dsimp only;exact (by have h9:=Srch.row_snoc hW (ZbZ hnew2 hroom);rwa [hto] at h9)),(by dsimp only;omega),ho89,ho81⟩
                  ) (by dsimp only;omega) ⟨rfl,rfl,rfl,rfl,rfl,rfl,rfl,rfl,rfl,rfl,rfl,trivial⟩ ⟨rfl,rfl,rfl,rfl,rfl,rfl,rfl,trivial⟩)
              | (exact ζj (
                  ⟨(s+1,h89,hO',o',r++[Zbc (Zb3 t) o' y]),(by dsimp only;rw [hnum];exact Srch.row_snoc hW (ZbY hold2)),(by dsimp only;omega),ho89,hO'o⟩
                  ) (by dsimp only;omega) ⟨rfl,rfl,rfl,rfl,rfl,rfl,rfl,rfl,rfl,rfl,rfl,trivial⟩ ⟨rfl,rfl,rfl,rfl,rfl,rfl,rfl,trivial⟩))
          · first
            |exact bN hb69
            | (
             (have hold:posK (Zb3 t) o' (Zb3 t y)<o'.length:=by simpa using hb69);have hold2:posK (minW t).key o' ((minW t).key ((minW t).step i x s))<o'.length:=by
              rw [hto];show posK (ZbU t) o' (ZbU t y)<o'.length;rw [←hid];exact hold
             have hnum:Zbc (Zb3 t) o' y=posK (minW t).key o' ((minW t).key ((minW t).step i x s)):=by
              rw [hto];show Zbc (Zb3 t) o' y=posK (ZbU t) o' (ZbU t y);unfold Zbc;rw [if_pos hold,hid]
             refine nav ?_;(refine ζa ?_<;>refine xL 82 (ζh 7 ζE) ?_<;>(refine yL 83 (ζq 7 ζO) fun v83 h=>?_;cases h)<;>refine xL 84 ζb (xL 85 ζb (xL 86 ζb (xL 87 (ζB Zcn) ?_)))<;>refine Zaw 88 Zaj fun h88 ho88=>?_<;>(refine ζ0 302 88 89 Zaj fun h89 ho89=>?_;refine ζr (ζF (l:=89) 302 rfl rfl) fun _=>?_;first|refine ζr (ζM (l:=302) rfl (Zcq _ (ζ1 rows++Zan i r) ⟨(i:Nat),(o'.length:Nat),(s:Nat)⟩)) fun _=>?_|refine ζr (ζM (l:=302) rfl (Zcq _ (ζ1 rows++Zan i r) ⟨(i:Nat),(Zbc (Zb3 t) o' y:Nat),(s:Nat)⟩)) fun _=>?_)<;>refine xL 90 (ζh 7 ζE) ?_<;>refine ZbQ 7 ζO Zby ?_<;>refine ζd ?_)
             (refine ζa ?_<;>refine xL 91 ζG (xL 54 ζb ?_)<;>refine ζd ?_)
             try rw [show (ζ1 rows++Zan i r)++[(⟨(i:Nat),(o'.length:Nat),(s:Nat)⟩:Mv)]=ζ1 rows++Zan i (r++[o'.length]) by rw [ZcF,hrl2,XA]]
             try rw [show (ζ1 rows++Zan i r)++[(⟨(i:Nat),(Zbc (Zb3 t) o' y:Nat),(s:Nat)⟩:Mv)]=ζ1 rows++Zan i (r++[Zbc (Zb3 t) o' y]) by rw [ZcF,hrl2,XA]]
             first
              | (exact ζj (
                  ⟨(s+1,h89,h81,o'++[y],r++[o'.length]),(by dsimp only;exact (by have h9:=Srch.row_snoc hW (ZbZ hnew2 hroom);rwa [hto] at h9)),(by dsimp only;omega),ho89,ho81⟩
                  ) (by dsimp only;omega) ⟨rfl,rfl,rfl,rfl,rfl,rfl,rfl,rfl,rfl,rfl,rfl,trivial⟩ ⟨rfl,rfl,rfl,rfl,rfl,rfl,rfl,trivial⟩)
              | (exact ζj (
                  ⟨(s+1,h89,hO',o',r++[Zbc (Zb3 t) o' y]),(by dsimp only;rw [hnum];exact Srch.row_snoc hW (ZbY hold2)),(by dsimp only;omega),ho89,hO'o⟩
                  ) (by dsimp only;omega) ⟨rfl,rfl,rfl,rfl,rfl,rfl,rfl,rfl,rfl,rfl,rfl,trivial⟩ ⟨rfl,rfl,rfl,rfl,rfl,rfl,rfl,trivial⟩)))
       · first
         |exact bN hb55
         | (
          (have hsm:s=t.m:=by omega);subst hsm;have hU2:=Srch.upto_snoc hU hx hW;rw [show ζ1 rows++Zan i r=ζ1 (rows++[r]) by rw [Zke,hRl]];rw [Zg7 hpr (i+1) (by omega)];refine nav ?_;(refine ζa ?_<;>refine xL 29 ζb (xL 30 ζG (xL 8 ζc ?_))<;>refine ζd ?_)
          first
           | (exact ζj (
               ⟨(i+1,h43,hM',hO',o',rows++[r]),hU2,(by dsimp only;have:=hpr.length_le;omega),ho43,hM'o,hO'o⟩
               ) (by dsimp only;omega) ⟨rfl,rfl,rfl,rfl,rfl,rfl,rfl,rfl,trivial⟩ ⟨rfl,rfl,rfl,rfl,rfl,rfl,rfl,trivial⟩)
           | (exact ζj (
               ⟨(i+1,hF,hM',hO',o',rows++[r]),hU2,(by dsimp only;have:=hpr.length_le;omega),hFo,hM'o,hO'o⟩
               ) (by dsimp only;omega) ⟨rfl,rfl,rfl,rfl,rfl,rfl,rfl,rfl,trivial⟩ ⟨rfl,rfl,rfl,rfl,rfl,rfl,rfl,trivial⟩)))
    · first
      |exact bN hb38
      | (
       rw [if_neg (by simpa using hb38),XB] at hL1;refine nav ?_;(refine ζY (fun i=>([]:List Nat).elem i) [1,303] kR ?_<;>refine xD 0 45 rfl (ζh 1 ZbP) ?_<;>(refine yD 1 46 rfl (ζq 1 ZcG) fun v46 h=>?_;cases h)<;>refine xD 2 47 rfl ζb ?_<;>refine xD 3 48 rfl ζb ?_<;>refine xD 4 49 rfl (ζv 303 ζu) ?_<;>(refine yD 5 50 rfl (ζq 303 ζp) fun v50 h=>?_;cases h)<;>refine xD 6 51 rfl (ζI ZaN) ?_<;>(refine yD 7 52 rfl (ZaE ζD) fun v52 h=>?_;cases h)<;>refine xD 8 53 rfl (ζU ζu) ?_<;>refine xE 9 54 rfl ζb ?_<;>refine Zam kR (nav ?_)<;>try dsimp only)
       rw [←hL1];rw [show ζ1 rows=ζ1 rows++Zan i ([]:List Nat) from (XB _).symm];refine ζy (ι:={q:Nat×Value×Value×List Nat×List Nat//(minW t).row i x o q.1=some (q.2.2.2.1,q.2.2.2.2)∧q.1≤t.m∧q.2.1.oneCell'=true∧q.2.2.1.oneCell'=true}) (fun k=>⟨[(1,_,_),(2,_,_),(3,_,_),(4,_,_),(5,_,_),(7,_,_),(8,_,_),(52,_,_),(53,_,_),(6,k.1.2.2.1, .val k.1.2.2.1),(54, .int .i64 k.1.1,pInt k.1.1)],[(1,_,_),(2,_,_),(301,_,_),(7,h7, .own 39 5 1 [pInt 0,pInt (t.m:Nat),pInts [0],_, .val k.1.2.1]),(302,k.1.2.1, .own 93 3 (ζ1 rows++Zan i k.1.2.2.2.2).length ((ζ1 rows++Zan i k.1.2.2.2.2).flatMap cMv)),(303,k.1.2.2.1, .own 3 1 k.1.2.2.2.1.length ((toI k.1.2.2.2.1).map pInt)),(304,h15, .omap (ikv (ZaT (Zb3 t) 0 k.1.2.2.2.1)))]⟩) (fun k=>t.m-k.1.1) ⟨(0,hM,hO,o,[]),rfl,Xe _,hMo,hOo⟩ (fun a w H=>H.weaken ⟨rfl,rfl,rfl,rfl,rfl,rfl,rfl,rfl,rfl,rfl,rfl,trivial⟩ ⟨rfl,rfl,rfl,rfl,rfl,rfl,rfl,trivial⟩) ?_;rintro ⟨⟨s,hM',hO',o',r⟩,hW,hs,hM'o,hO'o⟩;dsimp only;dsimp only at hW hs hM'o hO'o;obtain ⟨hMt,hpr,hrl2,_⟩:=hOk.toMet.row (fun s _=>ZcE ht) (show s≤(minW t).m from hs) hW;have hcap':o'.length≤t.rows.length:=hMt.cap;have htl':=Ze6 o';have hmr:=Zuf (n:=i) hrw hm1 (by omega) (show r.length≤t.m by omega);refine nav ?_;(refine ζa ?_<;>refine xL 55 ζK ?_<;>refine ζd ?_)
       (first|refine cCd ?_ ?_|refine cC ?_ ?_)<;>intro hb55
       · first
         |exact bN hb55
         | (
          obtain ⟨y,hy⟩:=ζm (show s<row.length by omega);have hyn:=hrt y (Xb hy);(have e4:((toI row).map pInt)[s*1]? =some (pInt (y:Nat)):=by rw [Xx,Xm];unfold toI;rw [Xm,hy];rfl);have e5:=ZiH (fun s=>pInt (ZbU t s:Nat)) hyn;have hto:(minW t).step i x s=y:=Zjo hrow hy;have hid:=Zue t o' y;refine nav ?_;(refine ζa ?_<;>refine xL 56 ζb (xL 57 (ζI ζu) ?_)<;>(refine yL 58 (ZaE ζp) fun v58 h=>?_;cases h)<;>refine xL 9 ζc (xL 10 ζc ?_)<;>refine ζd ?_)
          (refine ζa ?_<;>refine xL 60 ζb (xL 61 ζb (xL 62 ζb (xL 63 (ζI ζu) ?_)))<;>(refine yL 64 (ZaE ζp) fun v64 h=>?_;cases h)<;>refine xL 65 (Zud (f:=Zb3 t) (L:=o') (a:=y) 304 ZeN rfl rfl) ?_<;>refine xL 59 ζb (xL 66 ζl (xL 67 ζl (xL 11 ζc (xL 12 ζc ?_))))<;>refine ζd ?_)
          (refine ζa ?_<;>refine xL 68 ζb (xL 69 Zav ?_)<;>refine ζd ?_)
          (first|refine cCd ?_ ?_|refine cC ?_ ?_)<;>intro hb69
          · first
            |exact bN hb69
            | (
             (have hnew:¬posK (Zb3 t) o' (Zb3 t y)<o'.length:=by simpa using hb69);have hnew2:¬posK (minW t).key o' ((minW t).key ((minW t).step i x s))<o'.length:=by
              rw [hto];show ¬posK (ZbU t) o' (ZbU t y)<o'.length;rw [←hid];exact hnew
             have hroom:=Zjp ht hMt (show (minW t).step i x s<t.rows.length by rw [hto];exact hyn) hnew2;refine nav ?_;(refine ζa ?_<;>refine xL 70 ζb (xL 71 (ZaH 303 ζu) (xL 11 ζc ?_))<;>refine ζd ?_)
             (refine ζa ?_<;>refine xL 72 ζb (xL 73 ζb (xL 74 ζb (xL 75 (ζI ζu) ?_)))<;>(refine yL 76 (ZaE ζp) fun v76 h=>?_;cases h)<;>refine xL 77 ζb ?_<;>(refine ZhU 304 ZeN ?_;rw [show Zdn (ikv (ZaT (Zb3 t) 0 o')) (.int .i64 ((ZbU t y:Nat):Int)) (.int .i64 ((o'.length:Nat):Int))=ikv (ZaT (Zb3 t) 0 (o'++[y])) from Zrh hnew])<;>refine ζd ?_)
             (refine ζa ?_<;>refine xL 78 ζb (xL 79 ζb ?_)<;>refine ζP (kk:=1) 80 ζn fun h80 ho80=>?_<;>(refine ζ0 303 80 81 ζn fun h81 ho81=>?_;refine ζr (ζF (l:=81) 303 rfl rfl) fun _=>?_;refine ζr (ζM (l:=303) rfl (Zl5 _ o' y)) fun _=>?_)<;>refine xL 6 ζc ?_<;>refine ζd ?_)
             (refine ζa ?_<;>refine xL 82 (ζh 7 ζE) ?_<;>(refine yL 83 (ζq 7 ζO) fun v83 h=>?_;cases h)<;>refine xL 84 ζb (xL 85 ζb (xL 86 ζb (xL 87 (ζB Zcn) ?_)))<;>refine Zaw 88 Zaj fun h88 ho88=>?_<;>(refine ζ0 302 88 89 Zaj fun h89 ho89=>?_;refine ζr (ζF (l:=89) 302 rfl rfl) fun _=>?_;first|refine ζr (ζM (l:=302) rfl (Zcq _ (ζ1 rows++Zan i r) ⟨(i:Nat),(o'.length:Nat),(s:Nat)⟩)) fun _=>?_|refine ζr (ζM (l:=302) rfl (Zcq _ (ζ1 rows++Zan i r) ⟨(i:Nat),(Zbc (Zb3 t) o' y:Nat),(s:Nat)⟩)) fun _=>?_)<;>refine xL 90 (ζh 7 ζE) ?_<;>refine ZbQ 7 ζO Zby ?_<;>refine ζd ?_)
             (refine ζa ?_<;>refine xL 91 ζG (xL 54 ζb ?_)<;>refine ζd ?_)
             try rw [show (ζ1 rows++Zan i r)++[(⟨(i:Nat),(o'.length:Nat),(s:Nat)⟩:Mv)]=ζ1 rows++Zan i (r++[o'.length]) by rw [ZcF,hrl2,XA]]
             try rw [show (ζ1 rows++Zan i r)++[(⟨(i:Nat),(Zbc (Zb3 t) o' y:Nat),(s:Nat)⟩:Mv)]=ζ1 rows++Zan i (r++[Zbc (Zb3 t) o' y]) by rw [ZcF,hrl2,XA]]
             first
              | (exact ζj (
                  ⟨(s+1,h89,h81,o'++[y],r++[o'.length]),(by dsimp only;exact (by have h9:=Srch.row_snoc hW (ZbZ hnew2 hroom);rwa [hto] at h9)),(by dsimp only;omega),ho89,ho81⟩
                  ) (by dsimp only;omega) ⟨rfl,rfl,rfl,rfl,rfl,rfl,rfl,rfl,rfl,rfl,rfl,trivial⟩ ⟨rfl,rfl,rfl,rfl,rfl,rfl,rfl,trivial⟩)
              | (exact ζj (
                  ⟨(s+1,h89,hO',o',r++[Zbc (Zb3 t) o' y]),(by dsimp only;rw [hnum];exact Srch.row_snoc hW (ZbY hold2)),(by dsimp only;omega),ho89,hO'o⟩
                  ) (by dsimp only;omega) ⟨rfl,rfl,rfl,rfl,rfl,rfl,rfl,rfl,rfl,rfl,rfl,trivial⟩ ⟨rfl,rfl,rfl,rfl,rfl,rfl,rfl,trivial⟩))
          · first
            |exact bN hb69
            | (
             (have hold:posK (Zb3 t) o' (Zb3 t y)<o'.length:=by simpa using hb69);have hold2:posK (minW t).key o' ((minW t).key ((minW t).step i x s))<o'.length:=by
              rw [hto];show posK (ZbU t) o' (ZbU t y)<o'.length;rw [←hid];exact hold
             have hnum:Zbc (Zb3 t) o' y=posK (minW t).key o' ((minW t).key ((minW t).step i x s)):=by
              rw [hto];show Zbc (Zb3 t) o' y=posK (ZbU t) o' (ZbU t y);unfold Zbc;rw [if_pos hold,hid]
             refine nav ?_;(refine ζa ?_<;>refine xL 82 (ζh 7 ζE) ?_<;>(refine yL 83 (ζq 7 ζO) fun v83 h=>?_;cases h)<;>refine xL 84 ζb (xL 85 ζb (xL 86 ζb (xL 87 (ζB Zcn) ?_)))<;>refine Zaw 88 Zaj fun h88 ho88=>?_<;>(refine ζ0 302 88 89 Zaj fun h89 ho89=>?_;refine ζr (ζF (l:=89) 302 rfl rfl) fun _=>?_;first|refine ζr (ζM (l:=302) rfl (Zcq _ (ζ1 rows++Zan i r) ⟨(i:Nat),(o'.length:Nat),(s:Nat)⟩)) fun _=>?_|refine ζr (ζM (l:=302) rfl (Zcq _ (ζ1 rows++Zan i r) ⟨(i:Nat),(Zbc (Zb3 t) o' y:Nat),(s:Nat)⟩)) fun _=>?_)<;>refine xL 90 (ζh 7 ζE) ?_<;>refine ZbQ 7 ζO Zby ?_<;>refine ζd ?_)
             (refine ζa ?_<;>refine xL 91 ζG (xL 54 ζb ?_)<;>refine ζd ?_)
             try rw [show (ζ1 rows++Zan i r)++[(⟨(i:Nat),(o'.length:Nat),(s:Nat)⟩:Mv)]=ζ1 rows++Zan i (r++[o'.length]) by rw [ZcF,hrl2,XA]]
             try rw [show (ζ1 rows++Zan i r)++[(⟨(i:Nat),(Zbc (Zb3 t) o' y:Nat),(s:Nat)⟩:Mv)]=ζ1 rows++Zan i (r++[Zbc (Zb3 t) o' y]) by rw [ZcF,hrl2,XA]]
             first
              | (exact ζj (
                  ⟨(s+1,h89,h81,o'++[y],r++[o'.length]),(by dsimp only;exact (by have h9:=Srch.row_snoc hW (ZbZ hnew2 hroom);rwa [hto] at h9)),(by dsimp only;omega),ho89,ho81⟩
                  ) (by dsimp only;omega) ⟨rfl,rfl,rfl,rfl,rfl,rfl,rfl,rfl,rfl,rfl,rfl,trivial⟩ ⟨rfl,rfl,rfl,rfl,rfl,rfl,rfl,trivial⟩)
              | (exact ζj (
                  ⟨(s+1,h89,hO',o',r++[Zbc (Zb3 t) o' y]),(by dsimp only;rw [hnum];exact Srch.row_snoc hW (ZbY hold2)),(by dsimp only;omega),ho89,hO'o⟩
                  ) (by dsimp only;omega) ⟨rfl,rfl,rfl,rfl,rfl,rfl,rfl,rfl,rfl,rfl,rfl,trivial⟩ ⟨rfl,rfl,rfl,rfl,rfl,rfl,rfl,trivial⟩)))
       · first
         |exact bN hb55
         | (
          (have hsm:s=t.m:=by omega);subst hsm;have hU2:=Srch.upto_snoc hU hx hW;rw [show ζ1 rows++Zan i r=ζ1 (rows++[r]) by rw [Zke,hRl]];rw [Zg7 hpr (i+1) (by omega)];refine nav ?_;(refine ζa ?_<;>refine xL 29 ζb (xL 30 ζG (xL 8 ζc ?_))<;>refine ζd ?_)
          first
           | (exact ζj (
               ⟨(i+1,h43,hM',hO',o',rows++[r]),hU2,(by dsimp only;have:=hpr.length_le;omega),ho43,hM'o,hO'o⟩
               ) (by dsimp only;omega) ⟨rfl,rfl,rfl,rfl,rfl,rfl,rfl,rfl,trivial⟩ ⟨rfl,rfl,rfl,rfl,rfl,rfl,rfl,trivial⟩)
           | (exact ζj (
               ⟨(i+1,hF,hM',hO',o',rows++[r]),hU2,(by dsimp only;have:=hpr.length_le;omega),hFo,hM'o,hO'o⟩
               ) (by dsimp only;omega) ⟨rfl,rfl,rfl,rfl,rfl,rfl,rfl,rfl,trivial⟩ ⟨rfl,rfl,rfl,rfl,rfl,rfl,rfl,trivial⟩))))
 · first
   |exact bN hb28
   | (
    (have hio:i=o.length:=by omega);subst hio;have hA:=Srch.all_some hU (Xd _) (show o.length≤(minW t).cap from hcap);refine nav ?_;(refine ζa ?_<;>refine xL 92 ζb (xL 93 (ZaH 303 ζu) (xL 94 (ζh 7 ζ5) ?_))<;>refine ZbQ 7 ζp Zcg ?_<;>refine ζd ?_)
    (refine ζa ?_<;>refine xL 95 (ζh 7 ζE) ?_<;>(refine yL 96 (ζq 7 ζO) fun v96 h=>?_;cases h)<;>refine xL 97 (ZaH 302 ζR) (xL 98 ZaF ?_)<;>refine ζd ?_)
    (first|refine cCd ?_ ?_|refine cC ?_ ?_)<;>intro hb98
    · first
      |exact bN hb98
      | (
       refine nav ?_;(refine ζa ?_<;>refine xL 99 (ζB ζX) ?_<;>refine ζt 2 ζo ?_<;>refine xL 3 ζc ?_<;>refine ζd ?_)
       refine Zaf (k:=5) 2 kR (Tryz.results186) rfl rfl rfl (Xa rfl) (by decide) rfl ?_;unfold Zb0;rw [hA,Vj,if_pos (by dsimp only;omega)];rfl)
    · first
      |exact bN hb98
      | (
       refine nav ?_;refine ζw (ZaI (l:=7) (l':=301) (j:=3) rfl rfl rfl rfl) fun _=>?_;refine ζw (ZaI (l:=7) (l':=302) (j:=4) rfl rfl rfl rfl) fun _=>?_;rw [ζ2 _ _ _ rfl,Zjw _ _ _ rfl];(refine ζa ?_<;>(refine yL 100 (ζk 7 ζo) fun v100 h=>?_;cases h)<;>refine ζt 2 ζo ?_<;>refine xL 3 ζc ?_<;>refine ζd ?_)
       refine Zaf (k:=5) 2 kR (Tryz.results186) rfl rfl rfl (Xa rfl) (by decide) rfl ?_;unfold Zb0;rw [hA,Vj,if_neg (by dsimp only;omega)];rfl))
theorem Zyx {a:Aut} (h:2000<a.n∨20000<a.moves.length):ZlO a= .error 13:=by unfold ZlO;rw [if_pos h]
theorem ZA9 {a:Aut} (h:¬(2000<a.n∨20000<a.moves.length)):ZlO a=ZbR a:=by unfold ZlO;rw [if_neg h]
theorem ZvS (x:Option Aut):(∃A,x=some A∧resW (lim x)= .tup [ζS A,pInt 0])∨(x=none∧resW (lim x)= .tup [ZfG,pInt 13]):=by
 cases x with
 |none=>exact .inr ⟨rfl,rfl⟩
 |some A=>exact .inl ⟨A,rfl,rfl⟩
theorem ZnK (x:Except Int Aut):(∃A,x= .ok A∧resW x= .tup [ζS A,pInt 0])∨(∃e,x= .error e∧resW x= .tup [ZfG,pInt e]):=by
 cases x with
 |error e=>exact .inr ⟨e,rfl,rfl⟩
 |ok A=>exact .inl ⟨A,rfl,rfl⟩
theorem ZvT {a:Aut} {t:Tab} (h:Zej a=some t):ZbR a=lim (Zb0 t):=by unfold ZbR;rw [h]
theorem ZvU {a:Aut} (h:Zej a=none):ZbR a= .error 13:=by unfold ZbR;rw [h]
theorem ZoZ (a:Aut) (hl:a.moves.length≤1000000) (hb:2000<a.n∨20000<a.moves.length):AF Tryz.prog 132 [ζS a] (· = .tup [ZfG,pInt 13]):=by
 refine AF.of_body 28 Tryz.func132 rfl Tryz.ntmps132 (Xa rfl) ?_
 intro w0 M0 vs hl hv
 obtain ⟨v0,rfl⟩:=Zco hl
 clear hl hv
 refine nav ?_
 (refine ζa ?_<;>refine ζH 1 5 fun h1=>?_<;>refine ζs [(.int .i64 0),(.int .i64 0),(.slice none 0 0),(.slice none 0 0),(.slice none 0 0)] 5 2 ζN fun h2=>?_<;>refine xL 3 ζc ?_<;>refine ζd ?_)
 (refine ζa ?_<;>refine xL 6 (ζh 1 ζ5) ?_<;>(refine yL 7 (ζq 1 ζp) fun v7 h=>?_;cases h)<;>refine xL 8 ZaF (xL 9 ζb ?_)<;>(refine bLd 9 (fun hb9=>?_) (fun hb9=>?_)<;>(first|refine kL 10 ?_|refine xL 10 (ζh 1 ζE) ?_))<;>(first|refine kL 11 ?_|(refine yL 11 (ζq 1 ζO) fun v11 h=>?_;cases h))<;>(first|refine kL 12 ?_|refine xL 12 (ζU ζR) ?_)<;>(first|refine kL 13 ?_|refine xL 13 ZaF ?_)<;>refine xL 14 ζJ ?_<;>refine ζd ?_)<;>(
  (first|refine cCd ?_ ?_|refine cC ?_ ?_)<;>intro hb14
  · refine nav ?_;(refine ζa ?_<;>refine xL 15 (ζB ζX) ?_<;>refine ζt 2 ζo ?_<;>refine xL 3 ζc ?_<;>refine ζd ?_)
    exact Zaf (k:=5) 2 kR (Tryz.results132) rfl rfl rfl (Xa rfl) (by decide) rfl rfl
  · exfalso
    first
     |omega
     |(simp at hb14;done)
     |(simp at hb14;omega))
theorem ZmH (a:Aut) (h:AOk a) (hs:Zej a=none):AF Tryz.prog 132 [ζS a] (· = .tup [ZfG,pInt 13]):=by
 have hn1:=h.n1
 have hml:=h.ml
 have hS:AF Tryz.prog 185 [ζS a] (fun p=>∃i:{i:Value×Value×Value//i.1.oneCell'=true∧i.2.1.oneCell'=true∧i.2.2.oneCell'=true},p= .tup [.agg [.val i.1.1, .val i.1.2.1, .val i.1.2.2],ζV false]):=(Zic a h).mono fun p hp=>by
  rcases hp with ⟨t,h1,_⟩|⟨_,u1,u2,u3,o1,o2,o3,h2⟩
  · rw [hs] at h1;cases h1
  · exact ⟨⟨(u1,u2,u3),o1,o2,o3⟩,h2⟩
 refine AF.of_body 28 Tryz.func132 rfl Tryz.ntmps132 (Xa rfl) ?_
 intro w0 M0 vs hl hv
 obtain ⟨v0,rfl⟩:=Zco hl
 clear hl hv
 refine nav ?_
 (refine ζa ?_<;>refine ζH 1 5 fun h1=>?_<;>refine ζs [(.int .i64 0),(.int .i64 0),(.slice none 0 0),(.slice none 0 0),(.slice none 0 0)] 5 2 ζN fun h2=>?_<;>refine xL 3 ζc ?_<;>refine ζd ?_)
 (refine ζa ?_<;>refine xL 6 (ζh 1 ζ5) ?_<;>(refine yL 7 (ζq 1 ζp) fun v7 h=>?_;cases h)<;>refine xL 8 ZaF (xL 9 ζb ?_)<;>(refine bLd 9 (fun hb9=>?_) (fun hb9=>?_)<;>(first|refine kL 10 ?_|refine xL 10 (ζh 1 ζE) ?_))<;>(first|refine kL 11 ?_|(refine yL 11 (ζq 1 ζO) fun v11 h=>?_;cases h))<;>(first|refine kL 12 ?_|refine xL 12 (ζU ζR) ?_)<;>(first|refine kL 13 ?_|refine xL 13 ZaF ?_)<;>refine xL 14 ζJ ?_<;>refine ζd ?_)<;>(
  (first|refine cCd ?_ ?_|refine cC ?_ ?_)<;>intro hb14
  · exfalso
    first
     |omega
     |(simp at hb14;done)
     |(simp at hb14;omega)
  · refine nav ?_;(refine ζa ?_<;>(refine yL 17 (ζk 1 ζo) fun v17 h=>?_;cases h)<;>(refine cPx 18 (cA Tryz.call185 hS) (fun i va18 vb18 hva18 hvb18=>?_) (fun _=>rfl);cases hvb18;obtain ⟨⟨u1,u2,u3⟩,o1,o2,o3⟩:=i;dsimp only at o1 o2 o3 hva18 ⊢;have q1:En.one (PV.val u1)=true:=o1;have q2:En.one (PV.val u2)=true:=o2;have q3:En.one (PV.val u3)=true:=o3)<;>refine xL 16 ζb (xL 19 ζl (xL 20 ζl ?_))<;>refine ζs [(.int .i64 0),(.slice none 0 0),(.slice none 0 0)] 3 4 ZeM fun h4=>?_<;>refine ζt 4 Zbt ?_<;>refine xL 5 ζc ?_<;>refine ζd ?_)
    (refine ζa ?_<;>refine xL 21 ζb (xL 22 Zav ?_)<;>refine ζd ?_)
    refine cCt ?_;refine nav ?_;(refine ζa ?_<;>refine xL 23 (ζB ζX) ?_<;>refine ζt 2 ζo ?_<;>refine xL 3 ζc ?_<;>refine ζd ?_)
    exact Zaf (k:=5) 2 kR (Tryz.results132) rfl rfl rfl (Xa rfl) (by decide) rfl rfl)
theorem Zri (a:Aut) (h:AOk a) {t:Tab} (hs:Zej a=some t) {A:Aut} (hm:AF Tryz.prog 186 [Zrd t] (· = .tup [ζS A,pInt 0])):AF Tryz.prog 132 [ζS a] (· = .tup [ζS A,pInt 0]):=by
 have hn1:=h.n1
 have hml:=h.ml
 have hS:AF Tryz.prog 185 [ζS a] (· = .tup [Zrd t,ζV true]):=(Zic a h).mono fun p hp=>by
  rcases hp with ⟨t',h1,h2⟩|⟨h1,_⟩
  · rw [hs] at h1;cases h1;exact h2
  · rw [hs] at h1;cases h1
 refine AF.of_body 28 Tryz.func132 rfl Tryz.ntmps132 (Xa rfl) ?_
 intro w0 M0 vs hl hv
 obtain ⟨v0,rfl⟩:=Zco hl
 clear hl hv
 refine nav ?_
 (refine ζa ?_<;>refine ζH 1 5 fun h1=>?_<;>refine ζs [(.int .i64 0),(.int .i64 0),(.slice none 0 0),(.slice none 0 0),(.slice none 0 0)] 5 2 ζN fun h2=>?_<;>refine xL 3 ζc ?_<;>refine ζd ?_)
 (refine ζa ?_<;>refine xL 6 (ζh 1 ζ5) ?_<;>(refine yL 7 (ζq 1 ζp) fun v7 h=>?_;cases h)<;>refine xL 8 ZaF (xL 9 ζb ?_)<;>(refine bLd 9 (fun hb9=>?_) (fun hb9=>?_)<;>(first|refine kL 10 ?_|refine xL 10 (ζh 1 ζE) ?_))<;>(first|refine kL 11 ?_|(refine yL 11 (ζq 1 ζO) fun v11 h=>?_;cases h))<;>(first|refine kL 12 ?_|refine xL 12 (ζU ζR) ?_)<;>(first|refine kL 13 ?_|refine xL 13 ZaF ?_)<;>refine xL 14 ζJ ?_<;>refine ζd ?_)<;>(
  (first|refine cCd ?_ ?_|refine cC ?_ ?_)<;>intro hb14
  · exfalso
    first
     |omega
     |(simp at hb14;done)
     |(simp at hb14;omega)
  · refine nav ?_;(refine ζa ?_<;>(refine yL 17 (ζk 1 ζo) fun v17 h=>?_;cases h)<;>(refine cP 18 (cA Tryz.call185 (hS)) fun va18 vb18 hva18 h=>?_;cases h)<;>refine xL 16 ζb (xL 19 ζl (xL 20 ζl ?_))<;>refine ζs [(.int .i64 0),(.slice none 0 0),(.slice none 0 0)] 3 4 ZeM fun h4=>?_<;>refine ζt 4 Zbt ?_<;>refine xL 5 ζc ?_<;>refine ζd ?_)
    (refine ζa ?_<;>refine xL 21 ζb (xL 22 Zav ?_)<;>refine ζd ?_)
    refine cCf ?_;refine nav ?_;(refine ζa ?_<;>(refine yL 24 (ζk 4 Zbt) fun v24 h=>?_;cases h)<;>(refine cP 25 (cA Tryz.call186 (hm)) fun va25 vb25 hva25 h=>?_;cases h)<;>refine xL 26 ζl (xL 27 ζl ?_)<;>refine ζt 2 ζo ?_<;>refine xL 3 ζc ?_<;>refine ζd ?_)
    exact Zaf (k:=5) 2 kR (Tryz.results132) rfl rfl rfl (Xa rfl) (by decide) rfl rfl)
theorem Zo0 (a:Aut) (h:AOk a) {t:Tab} (hs:Zej a=some t) (hm:AF Tryz.prog 186 [Zrd t] (· = .tup [ZfG,pInt 13])):AF Tryz.prog 132 [ζS a] (· = .tup [ZfG,pInt 13]):=by
 have hn1:=h.n1
 have hml:=h.ml
 have hS:AF Tryz.prog 185 [ζS a] (· = .tup [Zrd t,ζV true]):=(Zic a h).mono fun p hp=>by
  rcases hp with ⟨t',h1,h2⟩|⟨h1,_⟩
  · rw [hs] at h1;cases h1;exact h2
  · rw [hs] at h1;cases h1
 refine AF.of_body 28 Tryz.func132 rfl Tryz.ntmps132 (Xa rfl) ?_
 intro w0 M0 vs hl hv
 obtain ⟨v0,rfl⟩:=Zco hl
 clear hl hv
 refine nav ?_
 (refine ζa ?_<;>refine ζH 1 5 fun h1=>?_<;>refine ζs [(.int .i64 0),(.int .i64 0),(.slice none 0 0),(.slice none 0 0),(.slice none 0 0)] 5 2 ζN fun h2=>?_<;>refine xL 3 ζc ?_<;>refine ζd ?_)
 (refine ζa ?_<;>refine xL 6 (ζh 1 ζ5) ?_<;>(refine yL 7 (ζq 1 ζp) fun v7 h=>?_;cases h)<;>refine xL 8 ZaF (xL 9 ζb ?_)<;>(refine bLd 9 (fun hb9=>?_) (fun hb9=>?_)<;>(first|refine kL 10 ?_|refine xL 10 (ζh 1 ζE) ?_))<;>(first|refine kL 11 ?_|(refine yL 11 (ζq 1 ζO) fun v11 h=>?_;cases h))<;>(first|refine kL 12 ?_|refine xL 12 (ζU ζR) ?_)<;>(first|refine kL 13 ?_|refine xL 13 ZaF ?_)<;>refine xL 14 ζJ ?_<;>refine ζd ?_)<;>(
  (first|refine cCd ?_ ?_|refine cC ?_ ?_)<;>intro hb14
  · exfalso
    first
     |omega
     |(simp at hb14;done)
     |(simp at hb14;omega)
  · refine nav ?_;(refine ζa ?_<;>(refine yL 17 (ζk 1 ζo) fun v17 h=>?_;cases h)<;>(refine cP 18 (cA Tryz.call185 (hS)) fun va18 vb18 hva18 h=>?_;cases h)<;>refine xL 16 ζb (xL 19 ζl (xL 20 ζl ?_))<;>refine ζs [(.int .i64 0),(.slice none 0 0),(.slice none 0 0)] 3 4 ZeM fun h4=>?_<;>refine ζt 4 Zbt ?_<;>refine xL 5 ζc ?_<;>refine ζd ?_)
    (refine ζa ?_<;>refine xL 21 ζb (xL 22 Zav ?_)<;>refine ζd ?_)
    refine cCf ?_;refine nav ?_;(refine ζa ?_<;>(refine yL 24 (ζk 4 Zbt) fun v24 h=>?_;cases h)<;>(refine cP 25 (cA Tryz.call186 (hm)) fun va25 vb25 hva25 h=>?_;cases h)<;>refine xL 26 ζl (xL 27 ζl ?_)<;>refine ζt 2 ζo ?_<;>refine xL 3 ζc ?_<;>refine ζd ?_)
    exact Zaf (k:=5) 2 kR (Tryz.results132) rfl rfl rfl (Xa rfl) (by decide) rfl rfl)
theorem Zgm (a:Aut) (h:AOk a):AF Tryz.prog 132 [ζS a] (· =resW (ZbR a)):=by
 rcases hs:Zej a with _|t
 · rw [ZvU hs];exact ZmH a h hs
 · have hm:=Zs3 t (ZoO h hs);rw [ZvT hs];rcases ZvS (Zb0 t) with ⟨A,_,h2⟩|⟨_,h2⟩
   · rw [h2] at hm ⊢;exact Zri a h hs hm
   · rw [h2] at hm ⊢;exact Zo0 a h hs hm
theorem Zs4 (a:Aut) (hl:a.moves.length≤1000000) (h:¬(2000<a.n∨20000<a.moves.length)→AOk a):AF Tryz.prog 132 [ζS a] (· =resW (ZlO a)):=by
 by_cases hb:2000<a.n∨20000<a.moves.length
 · rw [Zyx hb];exact ZoZ a hl hb
 · rw [ZA9 hb];exact Zgm a (h hb)
theorem ZmI (a:Aut) (hv:Zaa a=false):AF Tryz.prog 84 [ζS a] (· = .tup [ZfG,pInt 1]):=by
 refine AF.of_body 12 Tryz.func84 rfl Tryz.ntmps84 (Xa rfl) ?_
 intro w0 M0 vs hl hv
 obtain ⟨v0,rfl⟩:=Zco hl
 clear hl hv
 refine nav ?_
 (refine ζa ?_<;>refine ζH 1 5 fun h1=>?_<;>refine ζs [(.int .i64 0),(.int .i64 0),(.slice none 0 0),(.slice none 0 0),(.slice none 0 0)] 5 2 ζN fun h2=>?_<;>refine xL 3 ζc ?_<;>refine ζd ?_)
 (refine ζa ?_<;>(refine yL 4 (ζk 1 ζo) fun v4 h=>?_;cases h)<;>(refine cS 5 (cA Tryz.call107 (Zbm a)) fun v5 h=>?_;cases h)<;>refine xL 6 Zav ?_<;>refine ζd ?_)
 (first|refine cCd ?_ ?_|refine cC ?_ ?_)<;>intro hb6
 · refine nav ?_;(refine ζa ?_<;>refine xL 7 (ζB ζX) ?_<;>refine ζt 2 ζo ?_<;>refine xL 3 ζc ?_<;>refine ζd ?_)
   exact Zaf (k:=5) 2 kR (Tryz.results84) rfl rfl rfl (Xa rfl) (by decide) rfl rfl
 · rw [hv] at hb6;simp at hb6
theorem Zo1 (a:Aut) (hv:Zaa a=true) {A:Aut} (hm:AF Tryz.prog 132 [ζS a] (· = .tup [ζS A,pInt 0])):AF Tryz.prog 84 [ζS a] (· = .tup [ζS A,pInt 0]):=by
 refine AF.of_body 12 Tryz.func84 rfl Tryz.ntmps84 (Xa rfl) ?_
 intro w0 M0 vs hl hv
 obtain ⟨v0,rfl⟩:=Zco hl
 clear hl hv
 refine nav ?_
 (refine ζa ?_<;>refine ζH 1 5 fun h1=>?_<;>refine ζs [(.int .i64 0),(.int .i64 0),(.slice none 0 0),(.slice none 0 0),(.slice none 0 0)] 5 2 ζN fun h2=>?_<;>refine xL 3 ζc ?_<;>refine ζd ?_)
 (refine ζa ?_<;>(refine yL 4 (ζk 1 ζo) fun v4 h=>?_;cases h)<;>(refine cS 5 (cA Tryz.call107 (Zbm a)) fun v5 h=>?_;cases h)<;>refine xL 6 Zav ?_<;>refine ζd ?_)
 (first|refine cCd ?_ ?_|refine cC ?_ ?_)<;>intro hb6
 · rw [hv] at hb6;simp at hb6
 · refine nav ?_;(refine ζa ?_<;>(refine yL 8 (ζk 1 ζo) fun v8 h=>?_;cases h)<;>(refine cP 9 (cA Tryz.call132 (hm)) fun va9 vb9 hva9 h=>?_;cases h)<;>refine xL 10 ζl (xL 11 ζl ?_)<;>refine ζt 2 ζo ?_<;>refine xL 3 ζc ?_<;>refine ζd ?_)
   exact Zaf (k:=5) 2 kR (Tryz.results84) rfl rfl rfl (Xa rfl) (by decide) rfl rfl
theorem ZmJ (a:Aut) (hv:Zaa a=true) {e:Int} (hm:AF Tryz.prog 132 [ζS a] (· = .tup [ZfG,pInt e])):AF Tryz.prog 84 [ζS a] (· = .tup [ZfG,pInt e]):=by
 refine AF.of_body 12 Tryz.func84 rfl Tryz.ntmps84 (Xa rfl) ?_
 intro w0 M0 vs hl hv
 obtain ⟨v0,rfl⟩:=Zco hl
 clear hl hv
 refine nav ?_
 (refine ζa ?_<;>refine ζH 1 5 fun h1=>?_<;>refine ζs [(.int .i64 0),(.int .i64 0),(.slice none 0 0),(.slice none 0 0),(.slice none 0 0)] 5 2 ζN fun h2=>?_<;>refine xL 3 ζc ?_<;>refine ζd ?_)
 (refine ζa ?_<;>(refine yL 4 (ζk 1 ζo) fun v4 h=>?_;cases h)<;>(refine cS 5 (cA Tryz.call107 (Zbm a)) fun v5 h=>?_;cases h)<;>refine xL 6 Zav ?_<;>refine ζd ?_)
 (first|refine cCd ?_ ?_|refine cC ?_ ?_)<;>intro hb6
 · rw [hv] at hb6;simp at hb6
 · refine nav ?_;(refine ζa ?_<;>(refine yL 8 (ζk 1 ζo) fun v8 h=>?_;cases h)<;>(refine cP 9 (cA Tryz.call132 (hm)) fun va9 vb9 hva9 h=>?_;cases h)<;>refine xL 10 ζl (xL 11 ζl ?_)<;>refine ζt 2 ζo ?_<;>refine xL 3 ζc ?_<;>refine ζd ?_)
   exact Zaf (k:=5) 2 kR (Tryz.results84) rfl rfl rfl (Xa rfl) (by decide) rfl rfl
theorem Zkh (a:Aut):AF Tryz.prog 84 [ζS a] (· =resW (Zfe a)):=by
 unfold Zfe
 cases hv:Zaa a with
 |false=>rw [if_neg (by simp)];exact ZmI a hv
 | true=>
   rw [if_pos rfl];have hm:=Zgm a (Zfd hv);rcases ZnK (ZbR a) with ⟨A,_,h2⟩|⟨e,_,h2⟩
   · rw [h2] at hm ⊢;exact Zo1 a hv hm
   · rw [h2] at hm ⊢;exact ZmJ a hv hm
section
variable {α:Type}
end
theorem Zrj {P:Program} {c:Ctx} {sL hP:List (Nat×Ent)} {ops:Array Oper} {Q:Exit→Act→World→Prop} {o:Oper} {rest:List Oper} {fs g k e d l:Nat} {cs:List PV} {h:Value} {q q':PV} {x y:Operand} {ats:Array TypeId} (hS:∀(p:Option Addr) (cap:Nat) (fv:Value) (w:World),Calls P fs #[.slice p 0 cap,fv] w fun e w'=>e= .returned (.tuple #[])∧w'=w)
 (hw:ζZ ops sL o=some true) (hd:o.dst=some d) (hdn:d<c.nt) (ho:o.op= .call {callee:= .value (.func fs),args:= #[x,y],argTypes:=ats}) (hc:∀args w,(callFunc fs args).run P w= .ok (.enter fs args) w) (hx:ev sL x=some (h,q)) (hy:ev sL y=some (.func (.func g) #[] #[],q')) (hl:lk hP l=some (h, .own e k 0 cs))
 (kk:aL P c ops Q rest ⟨put d (.tuple #[], .val (.tuple #[])) sL,hP⟩):aL P c ops Q (o::rest) (⟨sL,hP⟩:St):=
 ZaG hw fun a w F H=>by
  have hxv:=(H.rd.ev hx).1;have hyv:=(H.rd.ev hy).1;obtain ⟨xs,Fs,hrow,_⟩:=(H.tr l _ _ hl).row;obtain ⟨p,cap,rfl⟩:∃p cap,h= .slice p 0 cap:=by
   rcases ZaX hrow with ⟨h1,_⟩|⟨g,cap,h1,_⟩
   · exact ⟨_,_,h1⟩
   · exact ⟨_,_,h1⟩
  unfold Oper.wp;have hrun:(execOp a.eval o).run P w= .ok (.enter fs #[.slice p 0 cap, .func (.func g) #[] #[]]) w:=by
   have hev:a.eval (.func fs)= .func (.func fs) #[] #[]:=rfl;simp [execOp,ho,resolve,Deferred.ofValue,hev,invoke,hxv,hyv,hc]
  rw [hrun,Oper.upon_enter];refine (hS p cap _ w).mono fun e' w' ⟨he',hw'⟩=>?_;subst he' hw';rw [hd];exact kk _ _ ⟨F,H.put hdn (.val _)⟩
theorem ZeP {a b:Mv}:Zea a b<0↔ZdK a b=true:=by unfold ZdK;rw [decide_eq_true_eq]
theorem ZnL (a:Mv):¬Zea a a<0:=fun h=>by have:=ZeP.1 h;rw [ZeH] at this;cases this
theorem Zrk (a b c:Mv) (h1:Zea a b<0) (h2:Zea b c<0):Zea a c<0:=ZeP.2 (ZiK (ZeP.1 h1) (ZeP.1 h2))
theorem Zrl (a b c:Mv) (h1:¬Zea a b<0) (h2:¬Zea b c<0):¬Zea a c<0:=fun h=>by
 rw [ZeP,ZfE] at h1 h2 h
 omega
def Sorted (l:List Mv):Prop:=∀(i j:Nat) (a b:Mv),i<j→l[i]? =some a→l[j]? =some b→¬Zea b a<0
theorem Zs5 {l:List Mv} (h:Sorted l) (hn:l.Nodup):AscM l:=by
 unfold AscM
 rw [V7]
 intro i j hi hj hij
 have h1:=h i j l[i] l[j] hij (XM hi) (XM hj)
 rw [ZeP] at h1
 cases h2:ZdK l[i] l[j] with
 |true=>rfl
 | false=>
   have h3:=ZlL h2 (by simpa using h1);exact absurd (List.getElem_inj hn |>.1 h3) (by omega)
theorem Zyy {l:List Mv} (h:AscM l) {k:Nat} {x y:Mv} (hy:l[k]? =some y) (hx:l[k+1]? =some x):eqM x y=false:=by
 have h1:=V7.1 h k (k+1) (ζg hy) (ζg hx) (by omega)
 rw [(XI.1 hy).2,(XI.1 hx).2] at h1
 cases h2:eqM x y with
 |false=>rfl
 |true=>rw [Ze5.1 h2,ZeH] at h1;cases h1
theorem ZDn:Tryz.prog.underlying 93=some (.struct (Tryz.prog.fieldsOf 93)):=by kernel_rfl
theorem ZDo:Tryz.prog.stoodInHeld 93=false:=by kernel_rfl
theorem ZDp:Tryz.prog.eqGuardType Tryz.prog.depth 93=false:=by kernel_rfl
def vMv (m:Mv):List Value:=[Value.int .i64 m.src, .int .i64 m.dst, .int .i64 m.sym]
theorem Zjx (x y:Mv) (w:World):(Op.eqFields 9999 (vMv x).toArray (vMv y).toArray (Tryz.prog.fieldsOf 93).toList).run Tryz.prog w= .ok (eqM x y) w:=by
 unfold vMv eqM
 simp only [Program.fieldsOf,Tryz.underlying93]
 simp [Op.eqFields,part,run_equalIn_int w 9998 3 .i64 .i64 x.src y.src Tryz.underlying3,run_equalIn_int w 9998 3 .i64 .i64 x.dst y.dst Tryz.underlying3,run_equalIn_int w 9998 3 .i64 .i64 x.sym y.sym Tryz.underlying3]
 by_cases h1:x.src=y.src<;>by_cases h2:x.dst=y.dst<;>by_cases h3:x.sym=y.sym<;>simp [h1,h2,h3]
theorem ZaK (l:List Mv) (hl:l.length≤1000000):AF Tryz.prog 138 [pMvs l] (· = .own 93 3 l.length (l.flatMap cMv)):=by
 refine AF.of_body 8 Tryz.func138 rfl Tryz.ntmps138 (Xa rfl) ?_
 intro w0 M0 vs hl hv
 obtain ⟨v0,rfl⟩:=Zco hl
 clear hl hv
 have f3:(l.flatMap cMv).length=l.length*3:=flat_len Zac l
 have f4:(l.flatMap cMv).all En.one=true:=ZAS l
 refine nav ?_
 (refine ζa ?_<;>refine xL 2 ζc ?_<;>refine ζd ?_)
 (refine ζa ?_<;>refine xL 3 ζb ?_<;>(refine yL 4 (ZtM ζR) fun v4 hv4=>?_;rcases hv4 with rfl|⟨rfl,hn0⟩)<;>refine ζd ?_)<;>(
  (first|refine cCd ?_ ?_|refine cC ?_ ?_)<;>intro hb4
  · first
    |exact bN hb4
    | (
     refine nav ?_;(refine ζa ?_<;>refine xL 2 ζc ?_<;>refine ζd ?_)
     have hl0:l=[]:=XO hn0;subst hl0;refine Za2 (ZbW 200 93 3 rfl) fun _=>?_;exact Zb8 200 (Tryz.results138) rfl rfl rfl)
  · first
    |exact bN hb4
    | (
     refine nav ?_;(refine ζa ?_<;>refine ZwR 5 Zaj fun h5 ho5=>?_<;>refine xL 6 ζb ?_<;>refine ZgL 5 7 Zaj (fun h7 ho7=>?_) f3 f4<;>refine xL 2 ζc ?_<;>refine ζd ?_)
     refine Zb8 7 (Tryz.results138) rfl rfl ?_;rw [Xw,Vy]))
theorem Zyz:AggT Tryz.prog 93 3=true:=by kernel_rfl
theorem Zrm:ZCd Tryz.prog 188 153 3:=fun enc hk h1 cf hO blk cap d w hcmp hH hblk hsz=>
 AnyQ.slices_SortFunc Tryz.sortMvL 3 (fun w=>AggT.run Zyz w) (fun w=>AggT.size Zyz w) enc hk h1 cf hO 153 #[] blk 0 cap d w (Tryz.call153) hcmp hH hblk hsz
theorem Zki (p:Option Addr) (cap:Nat) (fv:Value) (w:World):Calls Tryz.prog 188 #[.slice p 0 cap,fv] w fun e w'=>e= .returned (.tuple #[])∧w'=w:=(AnyF.slices_SortFunc_none Tryz.sortMvL p cap fv w).mono fun e w' ⟨h1,h2⟩=>⟨h1,h2⟩
theorem ZnM (x y:Mv) (M:BS) (W:World) (u v:Value) (hu:Shr M W u (.agg (cMv x))) (hv:Shr M W v (.agg (cMv y))):Calls Tryz.prog 153 #[u,v] W fun e w'=>e= .returned (.int .i64 (Zea x y))∧∃q os',w'=Go.Sort.grow (W.drewN q) os':=(Zj6 x y).exact2 hu hv
theorem ZmK (l:List Mv) (hl:l.length≤1000000) (ha:AscM l) (hv:Value):AFh False Tryz.prog 189 [(0,hv, .val hv)] [(1000,hv, .own 93 3 l.length (l.flatMap cMv))] (fun v q h=>v=hv∧q= .val hv∧h=[(1000,hv, .own 93 3 l.length (l.flatMap cMv))]):=by
 refine AFh.of_body 61 Tryz.func189 rfl Tryz.ntmps189 (Xa rfl) rfl ?_
 intro w0 M0 N0
 refine nav ?_
 (refine ζa ?_<;>refine xL 2 ζc ?_<;>refine ζd ?_)
 (refine ζa ?_<;>refine xL 6 ζb (xL 7 (ZaH 1000 ζR) (xL 8 ζK ?_))<;>refine ζd ?_)
 (first|refine cCd ?_ ?_|refine cC ?_ ?_)<;>intro hb8
 · first
   |exact bN hb8
   | (
    refine nav ?_;(refine ζa ?_<;>refine xL 9 ζb (xL 2 ζc ?_)<;>refine ζd ?_)
    exact ZhL [(1000,hv,PV.own 93 3 l.length (l.flatMap cMv))] (Tryz.results189) rfl ⟨rfl,trivial⟩ ⟨rfl,rfl,rfl⟩)
 · first
   |exact bN hb8
   | (
    refine nav ?_;(refine ζa ?_<;>refine xL 3 ζc ?_<;>refine ζd ?_)
    refine ζy (ι:={k:Nat//1≤k∧k≤l.length}) (fun k=>⟨[(0,_,_),(3, .int .i64 k.1,pInt k.1)],[(1000,_,_)]⟩) (fun k=>l.length-k.1) ⟨1,Xd _,by omega⟩ (fun a w H=>H.weaken ⟨rfl,rfl,trivial⟩ ⟨rfl,trivial⟩) ?_;rintro ⟨k1,hk1,hk⟩;dsimp only;obtain ⟨k,rfl⟩:∃k,k1=k+1:=⟨k1-1,by omega⟩;refine nav ?_;(refine ζa ?_<;>refine xL 10 ζb (xL 11 ζb (xL 12 (ZaH 1000 ζR) (xL 13 ζK ?_)))<;>refine ζd ?_)
    (first|refine cCd ?_ ?_|refine cC ?_ ?_)<;>intro hb13
    · first
      |exact bN hb13
      | (
       obtain ⟨x,hx⟩:=ζm (show k+1<l.length by omega);obtain ⟨y,hy⟩:=ζm (show k<l.length by omega);have e1:=Zaq Zac l (k+1) x hx;have e2:=ZaP Zac hx;(have e3:((l.flatMap cMv).drop ((((k+1:Nat):Int)-1).toNat*3)).take 3=cMv y:=by rw [show (((k+1:Nat):Int)-1).toNat*3=k*3 by omega];exact Zaq Zac l k y hy);have e4:=ZaP Zac hy;have hne:=Zyy ha hy hx;refine nav ?_;(refine ζY (fun i=>([]:List Nat).elem i) [1000] kR ?_<;>refine xD 0 16 rfl ζb ?_<;>refine xD 1 17 rfl ζb ?_<;>refine xD 2 18 rfl (ζv 1000 ζR) ?_<;>(refine yD 3 19 rfl (ζk 1000 ζ8) fun v19 h=>?_;cases h)<;>refine xD 4 20 rfl ζb ?_<;>refine xE 5 21 rfl ζb ?_<;>refine xE 6 22 rfl ZeX ?_<;>refine xE 7 23 rfl (Zdp 1000 ζR) ?_<;>(refine yE 8 24 rfl (ζk 1000 ζ8) fun v24 h=>?_;cases h)<;>refine xE 9 25 rfl ((ZCf (us:=vMv x) (us':=vMv y) ZDn ZDo ZDp (Zjx x y) rfl rfl)) ?_<;>refine Zam kR (nav ?_)<;>try dsimp only)
       (first|refine cCd ?_ ?_|refine cC ?_ ?_)<;>intro hb25
       · rw [hne] at hb25;cases hb25
       · refine nav ?_;(refine ζa ?_<;>refine xL 14 ζb (xL 15 ζG (xL 3 ζc ?_))<;>refine ζd ?_)
         refine ζj (
          ⟨k+1+1,by omega,by omega⟩
          ) (by dsimp only;omega) ⟨rfl,rfl,trivial⟩ ⟨rfl,trivial⟩)
    · first
      |exact bN hb13
      | (
       refine nav ?_;(refine ζa ?_<;>refine xL 60 ζb (xL 2 ζc ?_)<;>refine ζd ?_)
       exact ZhL [(1000,hv,PV.own 93 3 l.length (l.flatMap cMv))] (Tryz.results189) rfl ⟨rfl,trivial⟩ ⟨rfl,rfl,rfl⟩))
theorem ZvV {l r:List Mv} (hp:r.Perm l) (hs:Sorted r) (hn:l.Nodup):r=mkM l:=ZsU (Zs5 hs (hp.nodup_iff.2 hn)) fun x=>hp.mem_iff
theorem Zl6 {l:List Mv} (hn:l.Nodup):(mkM l).length=l.length:=by
 refine Nat.le_antisymm (ZoR l) ?_
 have : ∀{l:List Mv} {m:List Mv},l.Nodup→(∀x∈l,x∈m)→l.length≤m.length:=fun {l}=>by
  induction l with
  |nil=>intro m _ _;exact Xe _
  | cons x l ih=>
    intro m h hm;rw [Vf] at h;obtain ⟨a,b,rfl⟩:=List.append_of_mem (hm x (Xk ..));have:=ih (m:=a++b) h.2 fun y hy=>by
     rcases Xs.1 (hm y (Xn _ hy)) with h1|h1
     · exact Vb _ h1
     · rcases Xl.1 h1 with rfl|h1
       · exact absurd hy h.1
       · exact X3 _ h1
    simp only [Xc,Xj] at this ⊢;omega
 exact this hn fun x hx=>Zc6.2 hx
structure R5 (p0 p1 p2 p3 p4:PV):Prop where
 o:En.one p0=true∧En.one p1=true∧En.one p2=true∧En.one p3=true∧En.one p4=true
 s:[p0,p1,p2,p3,p4].all isSh=true
 d:shD (.agg [p0,p1,p2,p3,p4])=true
theorem R5.aut (A:Aut):R5 (pInt A.n) (pInt A.syms) (pInts A.start) (pInts A.fin) (pMvs A.moves):=⟨⟨rfl,rfl,rfl,rfl,rfl⟩,rfl,rfl⟩
theorem R5.raw:R5 (pInt 0) (pInt 0) (.val (.slice none 0 0)) (.val (.slice none 0 0)) (.val (.slice none 0 0)):=⟨⟨rfl,rfl,rfl,rfl,rfl⟩,rfl,rfl⟩
theorem R5.t {p0 p1 p2 p3 p4:PV} (h:R5 p0 p1 p2 p3 p4) (E:Int):shD (.tup [.agg [p0,p1,p2,p3,p4],pInt E])=true:=by
 show (shD (.agg [p0,p1,p2,p3,p4])&&(true&&true))=true
 rw [h.d];rfl
theorem Zo2 (a:Aut) (hl:a.moves.length≤1000000) (hnd:a.moves.Nodup) (V hM:Value) (hMo:hM.oneCell'=true) {p0 p1 p2 p3 p4:PV} {E:Int} (h5:R5 p0 p1 p2 p3 p4) (hr:AF Tryz.prog 132 [ζS (mkA a)] (· = .tup [.agg [p0,p1,p2,p3,p4],pInt E])):AFh False Tryz.prog 137 [(0,V, .agg [pInt a.n,pInt a.syms,pInts a.start,pInts a.fin, .val hM])] [(1000,hM, .own 93 3 a.moves.length (a.moves.flatMap cMv))] (fun v q h=>(∃V1:Value,v= .tuple [V1, .int .i64 E].toArray)∧q= .tup [.agg [p0,p1,p2,p3,p4],pInt E]∧h=[]):=by
 obtain ⟨o0,o1,o2,o3,o4⟩:=h5.o
 refine AFh.of_body 15 Tryz.func137 rfl Tryz.ntmps137 (Xa rfl) rfl ?_
 intro w0 M0 N0
 have hone:En.one (PV.val hM)=true:=hMo
 refine nav ?_
 (refine ζa ?_<;>refine ζH 1 5 fun h1=>?_<;>refine ζs [(.int .i64 0),(.int .i64 0),(.slice none 0 0),(.slice none 0 0),(.slice none 0 0)] 5 2 ζN fun h2=>?_<;>refine xL 3 ζc ?_<;>refine ζd ?_)
 (refine ζa ?_<;>refine xL 4 (ζh 1 ζE) ?_<;>(refine yL 5 (ζq 1 ζO) fun v5 h=>?_;cases h)<;>(rcases Va a.moves.length with h0|h0<;>first|(refine ζr (ζM (l:=1000) (p':= .own 93 3 0 []) rfl (by rw [XO h0];rfl)) fun _=>?_;refine Zrj (l:=1000) Zki rfl rfl (Xa rfl) rfl (Tryz.call188) rfl rfl rfl ?_;refine ζr (ζM (l:=1000) (p':= .own 93 3 (mkM a.moves).length ((mkM a.moves).flatMap cMv)) rfl (by rw [XO h0];rfl)) fun _=>?_)|(refine ZtL (l:=1000) (β:=Mv) (f:=cMv) (cmp:=Zea) (rows:=a.moves) Zrm Zac (by decide) (fun _=>rfl) ZnL Zrk Zrl (fun x y M W u v _ _ hu hv=>ZnM x y M W u v hu hv) h0 (by omega) rfl rfl (Xa rfl) rfl (Tryz.call188) rfl rfl rfl (fun rows' hperm hord=>?_);refine ζr (ζM (l:=1000) (p':= .own 93 3 (mkM a.moves).length ((mkM a.moves).flatMap cMv)) rfl (by rw [ZvV hperm hord hnd,Zl6 hnd])) fun _=>?_))<;>refine ζd ?_)<;>(
  (refine ζa ?_<;>refine xL 7 (ζh 1 ζE) ?_<;>(refine yL 8 (ζq 1 ζO) fun v8 h=>?_;cases h)<;>(refine Zat [(1000,hM,PV.own 93 3 (mkM a.moves).length ((mkM a.moves).flatMap cMv)),(1,_,_),(2,_,_)] ⟨rfl,rfl,rfl,trivial⟩ ?_;refine ZbO [1,2] 9 (Tryz.call189) (ZmK (mkM a.moves) (by have:=ZoR a.moves;omega) (Zek _) hM) ?_;rintro v9 _ _ ⟨hv9,rfl,rfl⟩;have hv9':=hv9.symm;subst hv9')<;>refine xL 10 (ζh 1 ζE) ?_<;>refine ZbQ 1 ζO Zby ?_<;>refine ζd ?_)
  refine ζw (ZaI (l:=1) (l':=1000) (j:=4) rfl rfl rfl rfl) fun _=>?_;rw [Zjw _ _ _ rfl];(refine ζa ?_<;>(refine yL 11 (ζk 1 ζo) fun v11 h=>?_;cases h)<;>(refine cP 12 (cA Tryz.call132 hr) (fun va12 vb12 hva12 hvb12=>?_) (hsh:=h5.t E);cases hvb12)<;>refine xL 13 ζl (xL 14 ζl ?_)<;>refine ζt 2 ζo ?_<;>refine xL 3 ζc ?_<;>refine ζd ?_)
  exact ZtP (k:=5) 2 [] kR (Tryz.results137) rfl rfl rfl (Xa rfl) (by decide) h5.s trivial fun V=>⟨⟨V,rfl⟩,rfl,rfl⟩)
theorem Zrn (a:Aut) (hl:a.moves.length≤1000000) (h:PreA a):AF Tryz.prog 132 [ζS (mkA a)] (· =resW (ZdB a)):=
 Zs4 (mkA a) (by have:=ZoR a.moves;show (mkM a.moves).length≤1000000;omega) h.aok
theorem Zgn (a:Aut) (hl:a.moves.length≤1000000) (h:PreA a):∃p0 p1 p2 p3 p4 E,R5 p0 p1 p2 p3 p4∧resW (ZdB a)= .tup [.agg [p0,p1,p2,p3,p4],pInt E]∧AF Tryz.prog 132 [ζS (mkA a)] (· = .tup [.agg [p0,p1,p2,p3,p4],pInt E]):=by
 have hr:=Zrn a hl h
 rcases ZnK (ZdB a) with ⟨A,_,h2⟩|⟨e,_,h2⟩
 · rw [h2] at hr ⊢;exact ⟨_,_,_,_,_,_,R5.aut A,rfl,hr⟩
 · rw [h2] at hr ⊢;exact ⟨_,_,_,_,_,_,R5.raw,rfl,hr⟩
theorem Zl7 {α β:Type} {f:α→List β} {m:Nat} (hf:∀x,(f x).length=m):∀(L:List α) (k:Nat),(L.flatMap f).take (k*m)=(L.take k).flatMap f
 |[],k=>by simp
 |x::L,0=>by simp
 | x::L,k+1=>by
   rw [List.take_succ_cons,Xr,Xr,←Zl7 hf L k,List.take_append,Xo (by rw [hf,X9];omega),hf,show (k+1)*m-m=k*m by rw [X9];omega]
theorem Zjy:∀{l:List Mv},AscM l→Zbz ZdK l=true
 |[],_=>rfl
 |[_],_=>rfl
 | x::y::l,h=>by
   have h':=XK.1 h;rw [Zbz,Xg];exact ⟨h'.1 y (Xk ..),Zjy h'.2⟩
theorem ZnN:∀{l:List Int},Srt l→Zbz ltI l=true
 |[],_=>rfl
 |[_],_=>rfl
 | x::y::l,h=>by
   have h':=XK.1 h;rw [Zbz,Xg];exact ⟨by unfold ltI;simpa using h'.1 y (Xk ..),ZnN h'.2⟩
theorem Zug {a:Aut} {l:List Int} (h:InS a l) (hs:Srt l):Zga a.n l=true:=by
 unfold Zga
 rw [Xg,XD]
 refine ⟨fun x hx=>?_,ZnN hs⟩
 have:=h x hx
 simp [this.1,this.2]
theorem ZEe {a:Aut} (h:PreA a) (hs:Srt a.start) (hf:Srt a.fin) (hn:¬2000<a.n) (hm:¬20000<(mkM a.moves).length):Zaa (mkA a)=true:=by
 have h1:=h.n0
 have h2:=h.s0
 have h3:=h.s1
 unfold Zaa
 simp only [Xg,decide_eq_true_eq]
 refine ⟨⟨⟨⟨⟨⟨⟨⟨h1,by show a.n≤2000;omega⟩,h2⟩,h3⟩,by show (mkM a.moves).length≤20000;omega⟩,Zug h.st hs⟩,Zug h.fi hf⟩,?_⟩,Zjy (Zek _)⟩
 rw [XD]
 intro m hm'
 have hm':m∈mkM a.moves:=hm'
 have:=h.mv m (Zc6.1 hm')
 unfold Zlq
 simp only [Xg,decide_eq_true_eq]
 show ((((0≤m.src∧m.src<a.n)∧0≤m.dst)∧m.dst<a.n)∧-1≤m.sym)∧m.sym<a.syms
 omega
def Zro (b:Aut):Except Int Aut:=if 2000<b.n∨20000<b.moves.length then .error 13 else Zfe b
theorem ZvW {a:Aut} (h:PreA a) (hs:Srt a.start) (hf:Srt a.fin):ZdB a=Zro (mkA a):=by
 unfold ZdB ZlO Zro Zfe
 show (if 2000<a.n∨20000<(mkM a.moves).length then _ else ZbR (mkA a))=(if 2000<a.n∨20000<(mkM a.moves).length then _ else _)
 by_cases hb:2000<a.n∨20000<(mkM a.moves).length
 · rw [if_pos hb,if_pos hb]
 · rw [if_neg hb,if_neg hb,if_pos (ZEe h hs hf (fun h=>hb (.inl h)) (fun h=>hb (.inr h)))]
section
variable {a b:Aut}
theorem Zrp {n:Int} {l:List Int} (h:Srt l):Srt (ZbS n l):=Ul.2 (h.imp fun h=>by omega)
theorem ZyA (ha:VOk a) (hb:VOk b) (hs:a.syms=b.syms):ZdB (ZcT a b)=Zro (mkA (ZcT a b)):=ZvW (ZkP ha hb hs) ha.ss (Zrp hb.fs)
theorem Zo3 (a b:Aut):(ZcT a b).moves.length=a.moves.length+b.moves.length+a.fin.length*b.start.length:=by
 show (a.moves++Zel a.n b.moves++Zg4 a.n a.fin b.start).length=_
 rw [Xc,Xc,ZiO,ZlW]
theorem ZvX (ha:VOk a) (hb:VOk b) (h:2000<a.n+b.n∨20000<a.moves.length+b.moves.length+a.fin.length*b.start.length):Zro (mkA (ZcT a b))= .error 13:=by
 unfold Zro
 rw [if_pos]
 show 2000<a.n+b.n∨20000<(mkM (ZcT a b).moves).length
 rw [Zl6 (ZnC ha hb),Zo3];exact h
end
def shL (m:Int) (x:Mv):List Mv:=(List.range m.toNat).map fun j=>⟨x.src*m+(j:Nat),x.dst*m+(j:Nat),x.sym⟩
def shR (n m:Int) (x:Mv):List Mv:=(List.range n.toNat).map fun i=>⟨(i:Nat)*m+x.src,(i:Nat)*m+x.dst,x.sym⟩
def shI (m:Int) (l k:List Int):List Int:=l.flatMap fun i=>ZbS (i*m) k
def shM (n m:Int) (l k:List Mv):List Mv:=l.flatMap (shL m)++k.flatMap (shR n m)
def ZcH (a b:Aut):Aut:=⟨a.n*b.n,a.syms,shI b.n a.start b.start,shI b.n a.fin b.fin,shM a.n b.n a.moves b.moves⟩
def ZiS (a b:Aut):Except Int Aut:=if ¬Zb4 a b=0 then .error (Zb4 a b) else if 2000<a.n*b.n∨40000<(a.moves.length:Int)*b.n+(b.moves.length:Int)*a.n then .error 13 else ZdB (ZcH a b)
theorem Zs6 {m i j i' j':Int} (h:i<i') (h0:0≤j) (h1:j<m) (h2:0≤j'):i*m+j<i'*m+j':=by
 have h3:(i+1)*m≤i'*m:=Int.mul_le_mul_of_nonneg_right (by omega) (by omega)
 rw [Int.add_mul,Int.one_mul] at h3
 omega
theorem ZiT {m i j i' j':Int} (h:i*m+j=i'*m+j') (h1:0≤j∧j<m) (h2:0≤j'∧j'<m):i=i'∧j=j':=by
 have h3:i=i':=by
  rcases Int.lt_trichotomy i i' with h3|h3|h3
  · have:=Zs6 h3 h1.1 h1.2 h2.1;omega
  · exact h3
  · have:=Zs6 h3 h2.1 h2.2 h1.1;omega
 subst h3
 exact ⟨rfl,by omega⟩
theorem Zl8 {n m i j:Int} (hi:0≤i∧i<n) (hj:0≤j∧j<m):0≤i*m+j∧i*m+j<n*m:=by
 have h3:(i+1)*m≤n*m:=Int.mul_le_mul_of_nonneg_right (by omega) (by omega)
 have h4:0≤i*m:=Int.mul_nonneg hi.1 (by omega)
 rw [Int.add_mul,Int.one_mul] at h3
 omega
theorem Zhu {m x:Int} {l k:List Int}:x∈shI m l k↔∃i∈l,∃j∈k,i*m+j=x:=by
 unfold shI
 simp only [XR,Zci]
 constructor
 · rintro ⟨i,h1,j,h2,h3⟩;exact ⟨i,h1,j,h2,by omega⟩
 · rintro ⟨i,h1,j,h2,h3⟩;exact ⟨i,h1,j,h2,by omega⟩
theorem ZBa {m:Int} {x y:Mv}:y∈shL m x↔∃j:Nat,(j:Int)<m∧(⟨x.src*m+(j:Nat),x.dst*m+(j:Nat),x.sym⟩:Mv)=y:=by
 unfold shL
 rw [Xh]
 constructor
 · rintro ⟨j,h1,h2⟩;rw [Vd] at h1;exact ⟨j,by omega,h2⟩
 · rintro ⟨j,h1,h2⟩;exact ⟨j,by rw [Vd];omega,h2⟩
theorem ZBb {n m:Int} {x y:Mv}:y∈shR n m x↔∃i:Nat,(i:Int)<n∧(⟨(i:Nat)*m+x.src,(i:Nat)*m+x.dst,x.sym⟩:Mv)=y:=by
 unfold shR
 rw [Xh]
 constructor
 · rintro ⟨j,h1,h2⟩;rw [Vd] at h1;exact ⟨j,by omega,h2⟩
 · rintro ⟨j,h1,h2⟩;exact ⟨j,by rw [Vd];omega,h2⟩
theorem Zuh {m:Int} {l k:List Int} (hk:∀j∈k,0≤j∧j<m) (h1:Srt l) (h2:Srt k):Srt (shI m l k):=by
 induction l with
 |nil=>exact .nil
 | cons i l ih=>
   have h:=XK.1 h1;show Srt (ZbS (i*m) k++shI m l k);refine UB.2 ⟨Zrp h2,ih h.2,fun x hx y hy=>?_⟩;obtain ⟨j,hj,rfl⟩:=Zci.1 hx;obtain ⟨i',hi',j',hj',rfl⟩:=Zhu.1 hy;have:=Zs6 (h.1 i' hi') (hk j hj).1 (hk j hj).2 (hk j' hj').1;omega
section
variable {a b:Aut}
theorem Zgo {x:Mv}:x∈shM a.n b.n a.moves b.moves↔(∃y∈a.moves,∃j:Nat,(j:Int)<b.n∧(⟨y.src*b.n+(j:Nat),y.dst*b.n+(j:Nat),y.sym⟩:Mv)=x)∨∃y∈b.moves,∃i:Nat,(i:Int)<a.n∧(⟨(i:Nat)*b.n+y.src,(i:Nat)*b.n+y.dst,y.sym⟩:Mv)=x:=by
 unfold shM
 simp only [Xs,XR,ZBa,ZBb]
theorem Zl9 (ha:VOk a) (hb:VOk b) (hs:a.syms=b.syms):PreA (ZcH a b):=by
 have h1:=ha.n0
 have h2:=hb.n0
 have hI:∀{l k:List Int},InS a l→InS b k→∀x∈shI b.n l k,0≤x∧x<a.n*b.n:=fun hl hk x hx=>by
  obtain ⟨i,hi,j,hj,rfl⟩:=Zhu.1 hx;exact Zl8 (hl i hi) (hk j hj)
 refine ⟨Int.mul_nonneg h1 h2,ha.s0,ha.s1,hI ha.st hb.st,hI ha.fi hb.fi,ZbK (Zuh hb.st ha.ss hb.ss),ZbK (Zuh hb.fi ha.fs hb.fs),fun x hx=>?_⟩
 rcases Zgo.1 hx with ⟨y,hy,j,hj,rfl⟩|⟨y,hy,i,hi,rfl⟩
 · have h3:=ha.mv y hy;have h4:=Zl8 (m:=b.n) (n:=a.n) (i:=y.src) (j:=j) ⟨h3.1,h3.2.1⟩ ⟨by omega,hj⟩;have h5:=Zl8 (m:=b.n) (n:=a.n) (i:=y.dst) (j:=j) ⟨h3.2.2.1,h3.2.2.2.1⟩ ⟨by omega,hj⟩;exact ⟨h4.1,h4.2,h5.1,h5.2,h3.2.2.2.2⟩
 · have h3:=hb.mv y hy;have h4:=Zl8 (m:=b.n) (n:=a.n) (i:=i) (j:=y.src) ⟨by omega,hi⟩ ⟨h3.1,h3.2.1⟩;have h5:=Zl8 (m:=b.n) (n:=a.n) (i:=i) (j:=y.dst) ⟨by omega,hi⟩ ⟨h3.2.2.1,h3.2.2.2.1⟩;exact ⟨h4.1,h4.2,h5.1,h5.2,h3.2.2.2.2.1,by have:=h3.2.2.2.2.2;show y.sym<a.syms;omega⟩
theorem Zo4 (m:Int) (x:Mv):(shL m x).length=m.toNat:=by unfold shL;simp
theorem Zui (n m:Int) (x:Mv):(shR n m x).length=n.toNat:=by unfold shR;simp
theorem flat_len {α β:Type} {f:α→List β} {n:Nat} (h:∀x,(f x).length=n):∀l:List α,(l.flatMap f).length=l.length*n
 |[]=>by simp
 |x::l=>by rw [Xr,Xc,h,flat_len h l,Xj,XQ,Nat.add_comm]
end
section
variable {a b:Aut}
theorem Zma {X a:Aut} {n:Int} (hX:∀(s:Int) (m:Mv),0≤s∧s<a.n→m∈X.moves→m.src=s+n→∃m'∈a.moves,m'.src=s∧m.dst=m'.dst+n∧m.sym=m'.sym) (ha:∀m∈a.moves,0≤m.dst∧m.dst<a.n) {s y:Int} {w:List Int} (hs:0≤s∧s<a.n) (h:Pth X (s+n) w y):∃t,y=t+n∧(0≤t∧t<a.n)∧Pth a s w t:=by
 generalize e:s+n=x at h
 induction h generalizing s with
 |nil x=>exact ⟨s,e.symm,hs, .nil s⟩
 | eps hm h1 _ ih=>
   obtain ⟨m',h2,h3,h4,h5⟩:=hX s _ hs hm e.symm;obtain ⟨t,h6,h7,h8⟩:=ih (ha m' h2) h4.symm;exact ⟨t,h6,h7,h3▸Pth.eps h2 (by rw [←h5];exact h1) h8⟩
 | sym hm h1 _ ih=>
   obtain ⟨m',h2,h3,h4,h5⟩:=hX s _ hs hm e.symm;obtain ⟨t,h6,h7,h8⟩:=ih (ha m' h2) h4.symm;refine ⟨t,h6,h7,?_⟩;rw [h5];exact h3▸Pth.sym h2 (by rw [←h5];exact h1) h8
theorem Zmb {X a:Aut} {n:Int} (hX:∀m∈a.moves,(⟨m.src+n,m.dst+n,m.sym⟩:Mv)∈X.moves) {s t:Int} {w:List Int} (h:Pth a s w t):Pth X (s+n) w (t+n):=by
 induction h with
 |nil x=>exact .nil _
 |eps hm h1 _ ih=>exact .eps (hX _ hm) h1 ih
 |sym hm h1 _ ih=>exact .sym (hX _ hm) h1 ih
theorem ZnO (ha:VOk a) {x:Int} {m:Mv} {l:List Mv} (hl:∀m∈l,m.src<a.n) (hx:0≤x) (hm:m∈a.moves++Zel a.n b.moves++l) (hs:m.src=x+a.n):∃m'∈b.moves,m'.src=x∧m.dst=m'.dst+a.n∧m.sym=m'.sym:=by
 rcases Xs.1 hm with hm|hm
 · rcases Xs.1 hm with hm|hm
   · have:=ha.mv m hm;omega
   · obtain ⟨y,hy,rfl⟩:=Zd6.1 hm;exact ⟨y,hy,by dsimp only at hs;omega,rfl,rfl⟩
 · have:=hl m hm;omega
theorem ZvY (ha:VOk a) (hb:VOk b) {w:List Int}:Lng (Zdv a b) w↔Lng a w∨Lng b w:=by
 have hmL:∀(s:Int) (m:Mv),0≤s∧s<a.n→m∈(Zdv a b).moves→m.src=s+0→∃m'∈a.moves,m'.src=s∧m.dst=m'.dst+0∧m.sym=m'.sym:=fun s m hs hm e=>by
  rcases Xs.1 (show m∈a.moves++Zel a.n b.moves from hm) with hm|hm
  · exact ⟨m,hm,by omega,by omega,rfl⟩
  · obtain ⟨y,hy,rfl⟩:=Zd6.1 hm;have:=hb.mv y hy;dsimp only at e;omega
 have hmR:∀(s:Int) (m:Mv),0≤s∧s<b.n→m∈(Zdv a b).moves→m.src=s+a.n→∃m'∈b.moves,m'.src=s∧m.dst=m'.dst+a.n∧m.sym=m'.sym:=fun s m hs hm e=>ZnO (l:=[]) ha (fun m hm=>by cases hm) hs.1 (by rw [XB];exact hm) e
 have hinA:∀m∈a.moves,(⟨m.src+0,m.dst+0,m.sym⟩:Mv)∈(Zdv a b).moves:=fun m hm=>by
  rw [Uc,Uc];exact Vb _ hm
 have hinB:∀m∈b.moves,(⟨m.src+a.n,m.dst+a.n,m.sym⟩:Mv)∈(Zdv a b).moves:=fun m hm=>X3 _ (Zd6.2 ⟨m,hm,rfl⟩)
 have hda:∀m∈a.moves,0≤m.dst∧m.dst<a.n:=fun m hm=>by have:=ha.mv m hm;omega
 have hdb:∀m∈b.moves,0≤m.dst∧m.dst<b.n:=fun m hm=>by have:=hb.mv m hm;omega
 constructor
 · rintro ⟨s,hs,f,hf,h⟩;rcases Xs.1 (show s∈a.start++ZbS a.n b.start from hs) with hs|hs
   · obtain ⟨t,e,h1,h2⟩:=Zma (n:=0) hmL hda (ha.st s hs) (by rw [Uc];exact h);rw [Uc] at e;subst e;rcases Xs.1 (show f∈a.fin++ZbS a.n b.fin from hf) with hf|hf
     · exact .inl ⟨s,hs,f,hf,h2⟩
     · obtain ⟨y,hy,rfl⟩:=Zci.1 hf;have:=hb.fi y hy;omega
   · obtain ⟨y,hy,rfl⟩:=Zci.1 hs;obtain ⟨t,rfl,h1,h2⟩:=Zma hmR hdb (hb.st y hy) h;rcases Xs.1 (show t+a.n∈a.fin++ZbS a.n b.fin from hf) with hf|hf
     · have:=ha.fi _ hf;omega
     · obtain ⟨z,hz,e⟩:=Zci.1 hf;(have:z=t:=by omega);subst this;exact .inr ⟨y,hy,z,hz,h2⟩
 · rintro (⟨s,hs,f,hf,h⟩|⟨s,hs,f,hf,h⟩)
   · have:=Zmb (n:=0) hinA h;rw [Uc,Uc] at this;exact ⟨s,Vb _ hs,f,Vb _ hf,this⟩
   · exact ⟨s+a.n,X3 _ (Zci.2 ⟨s,hs,rfl⟩),f+a.n,X3 _ (Zci.2 ⟨f,hf,rfl⟩),Zmb hinB h⟩
theorem ZyB {m:Mv} (ha:VOk a) (hb:VOk b) (hm:m∈(ZcT a b).moves) (hs:m.src<a.n):m∈a.moves∨∃f∈a.fin,∃s∈b.start,(⟨f,s+a.n,-1⟩:Mv)=m:=by
 rcases Xs.1 (show m∈a.moves++Zel a.n b.moves++Zg4 a.n a.fin b.start from hm) with hm|hm
 · rcases Xs.1 hm with hm|hm
   · exact .inl hm
   · obtain ⟨y,hy,rfl⟩:=Zd6.1 hm;have:=hb.mv y hy;dsimp only at hs;omega
 · exact .inr (ZfJ.1 hm)
theorem ZvZ (ha:VOk a) (hb:VOk b) {s y:Int} {w:List Int} (hs:0≤s∧s<b.n) (h:Pth (ZcT a b) (s+a.n) w y):∃t,y=t+a.n∧Pth b s w t:=by
 obtain ⟨t,h1,_,h2⟩:=Zma (X:=ZcT a b) (a:=b) (n:=a.n) (fun s m hs hm e=>ZnO (l:=Zg4 a.n a.fin b.start) ha (fun m hm=>by
  obtain ⟨f,hf,s,_,rfl⟩:=ZfJ.1 hm;exact (ha.fi f hf).2) hs.1 hm e) (fun m hm=>by have:=hb.mv m hm;omega) hs h
 exact ⟨t,h1,h2⟩
theorem ZyC (ha:VOk a) (hb:VOk b) {s y:Int} {w:List Int} (hs:s<a.n) (hy:a.n≤y) (h:Pth (ZcT a b) s w y):∃u v f s',w=u++v∧Pth a s u f∧f∈a.fin∧s'∈b.start∧Pth (ZcT a b) (s'+a.n) v y:=by
 induction h with
 |nil x=>omega
 | eps hm h1 h ih=>
   rcases ZyB ha hb hm hs with h2|⟨f,hf,s',hs',rfl⟩
   · obtain ⟨u,v,f,s',e,h3,h4⟩:=ih (by have:=ha.mv _ h2;omega) hy;exact ⟨u,v,f,s',e, .eps h2 h1 h3,h4⟩
   · exact ⟨[],_,f,s',rfl, .nil _,hf,hs',h⟩
 | sym hm h1 h ih=>
   rcases ZyB ha hb hm hs with h2|⟨f,hf,s',hs',rfl⟩
   · obtain ⟨u,v,f,s',e,h3,h4⟩:=ih (by have:=ha.mv _ h2;omega) hy;exact ⟨_::u,v,f,s',by rw [e];rfl, .sym h2 h1 h3,h4⟩
   · exact absurd rfl h1
theorem ZBc (ha:VOk a) (hb:VOk b) {w:List Int}:Lng (ZcT a b) w↔∃u v,w=u++v∧Lng a u∧Lng b v:=by
 constructor
 · rintro ⟨s,hs,f,hf,h⟩;obtain ⟨y,hy,rfl⟩:=Zci.1 (show f∈ZbS a.n b.fin from hf);have hyb:=hb.fi y hy;obtain ⟨u,v,f,s',e,h1,h2,h3,h4⟩:=ZyC ha hb (ha.st s hs).2 (by omega) h;obtain ⟨t,e2,h5⟩:=ZvZ ha hb (hb.st s' h3) h4;have:t=y:=by omega
   subst this;exact ⟨u,v,e,⟨s,hs,f,h2,h1⟩,⟨s',h3,t,hy,h5⟩⟩
 · rintro ⟨u,v,rfl,⟨s,hs,f,hf,h⟩,⟨s',hs',f',hf',h'⟩⟩;refine ⟨s,hs,f'+a.n,Zci.2 ⟨f',hf',rfl⟩,?_⟩;have h1:Pth (ZcT a b) s u f:=h.mono fun m hm=>Vb _ (Vb _ hm);have h2:Pth (ZcT a b) (s'+a.n) v (f'+a.n):=Zmb (fun m hm=>Vb _ (X3 _ (Zd6.2 ⟨m,hm,rfl⟩))) h';have h3:Pth (ZcT a b) f v (f'+a.n):=Pth.eps (m:=⟨f,s'+a.n,-1⟩) (X3 _ (ZfJ.2 ⟨f,hf,s',hs',rfl⟩)) rfl h2;exact h1.app h3
inductive Star (L:List Int→Prop):List Int→Prop
 |nil:Star L []
 |app {u v:List Int} (h:L u) (h':Star L v):Star L (u++v)
theorem ZfM {m:Mv}:m∈(ZdC a).moves↔m∈a.moves∨(∃s∈a.start,(⟨a.n,s,-1⟩:Mv)=m)∨∃s∈a.fin,(⟨s,a.n,-1⟩:Mv)=m:=by
 show m∈a.moves++(a.start.map fun s=>(⟨a.n,s,-1⟩:Mv))++a.fin.map (fun s=>(⟨s,a.n,-1⟩:Mv))↔_
 simp only [Xs,Xh,or_assoc]
theorem ZyD (ha:VOk a) {x y:Int} {w:List Int} (h:Pth (ZdC a) x w y) (hy:y=a.n):(x=a.n→Star (Lng a) w)∧(x<a.n→∃u v f,w=u++v∧f∈a.fin∧Pth a x u f∧Star (Lng a) v):=by
 induction h with
 |nil x=>exact ⟨fun _=> .nil,fun h=>by omega⟩
 | eps hm h1 _ ih=>
   have ih:=ih hy;refine ⟨fun e=>?_,fun e=>?_⟩
   · rcases ZfM.1 hm with h2|⟨s,hs,rfl⟩|⟨s,hs,rfl⟩
     · have:=ha.mv _ h2;omega
     · obtain ⟨u,v,f,rfl,hf,h3,h4⟩:=ih.2 (ha.st s hs).2;exact .app ⟨s,hs,f,hf,h3⟩ h4
     · have:=ha.fi s hs;dsimp only at e;omega
   · rcases ZfM.1 hm with h2|⟨s,hs,rfl⟩|⟨s,hs,rfl⟩
     · obtain ⟨u,v,f,e2,hf,h3,h4⟩:=ih.2 (by have:=ha.mv _ h2;omega);exact ⟨u,v,f,e2,hf, .eps h2 h1 h3,h4⟩
     · dsimp only at e;omega
     · exact ⟨[],_,s,rfl,hs, .nil _,ih.1 rfl⟩
 | sym hm h1 _ ih=>
   have ih:=ih hy;rcases ZfM.1 hm with h2|⟨s,hs,rfl⟩|⟨s,hs,rfl⟩
   · refine ⟨fun e=>by have:=ha.mv _ h2;omega,fun e=>?_⟩;obtain ⟨u,v,f,e2,hf,h3,h4⟩:=ih.2 (by have:=ha.mv _ h2;omega);exact ⟨_::u,v,f,by rw [e2];rfl,hf, .sym h2 h1 h3,h4⟩
   · exact absurd rfl h1
   · exact absurd rfl h1
theorem ZyE (ha:VOk a) {w:List Int}:Lng (ZdC a) w↔Star (Lng a) w:=by
 constructor
 · rintro ⟨s,hs,f,hf,h⟩;have hs:s=a.n:=Xi.1 hs;have hf:f=a.n:=Xi.1 hf;exact (ZyD ha h hf).1 hs
 · intro h;refine ⟨a.n,Xi.2 rfl,a.n,Xi.2 rfl,?_⟩;induction h with
   |nil=>exact .nil _
   | app h _ ih=>
     obtain ⟨s,hs,f,hf,h⟩:=h;have h1:Pth (ZdC a) s _ f:=h.mono fun m hm=>ZfM.2 (.inl hm);have h2:Pth (ZdC a) f _ a.n:=Pth.eps (m:=⟨f,a.n,-1⟩) (ZfM.2 (.inr (.inr ⟨f,hf,rfl⟩))) rfl ih;exact Pth.eps (m:=⟨a.n,s,-1⟩) (ZfM.2 (.inr (.inl ⟨s,hs,rfl⟩))) rfl (h1.app h2)
inductive Mix:List Int→List Int→List Int→Prop
 |nil:Mix [] [] []
 |one {w u v:List Int} (c:Int) (h:Mix w u v):Mix (c::w) (c::u) v
 |two {w u v:List Int} (c:Int) (h:Mix w u v):Mix (c::w) u (c::v)
theorem ZyF (ha:VOk a) (hb:VOk b) {x y:Int} {w:List Int} (h:Pth (ZcH a b) x w y):∀i j,(0≤i∧i<a.n)→(0≤j∧j<b.n)→x=i*b.n+j→∃i' j' u v,(0≤i'∧i'<a.n)∧(0≤j'∧j'<b.n)∧y=i'*b.n+j'∧Mix w u v∧Pth a i u i'∧Pth b j v j':=by
 induction h with
 |nil x=>exact fun i j hi hj e=>⟨i,j,[],[],hi,hj,e, .nil, .nil _, .nil _⟩
 | eps hm h1 _ ih=>
   intro i j hi hj e;rcases Zgo.1 hm with ⟨z,hz,k,hk,rfl⟩|⟨z,hz,k,hk,rfl⟩
   · have h2:=ha.mv z hz;obtain ⟨rfl,e2⟩:=ZiT e ⟨by omega,hk⟩ hj;obtain ⟨i',j',u,v,h3,h4,h5,h6,h7,h8⟩:=ih z.dst k ⟨h2.2.2.1,h2.2.2.2.1⟩ ⟨by omega,hk⟩ rfl;exact ⟨i',j',u,v,h3,h4,h5,h6, .eps hz h1 h7,e2▸h8⟩
   · have h2:=hb.mv z hz;obtain ⟨e2,rfl⟩:=ZiT e ⟨h2.1,h2.2.1⟩ hj;obtain ⟨i',j',u,v,h3,h4,h5,h6,h7,h8⟩:=ih k z.dst ⟨by omega,hk⟩ ⟨h2.2.2.1,h2.2.2.2.1⟩ rfl;exact ⟨i',j',u,v,h3,h4,h5,h6,e2▸h7, .eps hz h1 h8⟩
 | sym hm h1 _ ih=>
   intro i j hi hj e;rcases Zgo.1 hm with ⟨z,hz,k,hk,rfl⟩|⟨z,hz,k,hk,rfl⟩
   · have h2:=ha.mv z hz;obtain ⟨rfl,e2⟩:=ZiT e ⟨by omega,hk⟩ hj;obtain ⟨i',j',u,v,h3,h4,h5,h6,h7,h8⟩:=ih z.dst k ⟨h2.2.2.1,h2.2.2.2.1⟩ ⟨by omega,hk⟩ rfl;exact ⟨i',j',_::u,v,h3,h4,h5, .one _ h6, .sym hz h1 h7,e2▸h8⟩
   · have h2:=hb.mv z hz;obtain ⟨e2,rfl⟩:=ZiT e ⟨h2.1,h2.2.1⟩ hj;obtain ⟨i',j',u,v,h3,h4,h5,h6,h7,h8⟩:=ih k z.dst ⟨by omega,hk⟩ ⟨h2.2.2.1,h2.2.2.2.1⟩ rfl;exact ⟨i',j',u,_::v,h3,h4,h5, .two _ h6,e2▸h7, .sym hz h1 h8⟩
theorem Zmc (hb:VOk b) {i i' j:Int} {u:List Int} (hj:0≤j∧j<b.n) (h:Pth a i u i'):Pth (ZcH a b) (i*b.n+j) u (i'*b.n+j):=by
 have e:((j.toNat:Nat):Int)=j:=VT hj.1
 induction h with
 |nil s=>exact .nil _
 | @eps m w t hm h1 _ ih=>exact Pth.eps (m:=⟨m.src*b.n+j,m.dst*b.n+j,m.sym⟩) (Zgo.2 (.inl ⟨m,hm,j.toNat,by omega,by rw [e]⟩)) h1 ih
 | @sym m w t hm h1 _ ih=>exact Pth.sym (m:=⟨m.src*b.n+j,m.dst*b.n+j,m.sym⟩) (Zgo.2 (.inl ⟨m,hm,j.toNat,by omega,by rw [e]⟩)) h1 ih
theorem Zjz {i j j':Int} {u:List Int} (hi:0≤i∧i<a.n) (h:Pth b j u j'):Pth (ZcH a b) (i*b.n+j) u (i*b.n+j'):=by
 have e:((i.toNat:Nat):Int)=i:=VT hi.1
 induction h with
 |nil s=>exact .nil _
 | @eps m w t hm h1 _ ih=>exact Pth.eps (m:=⟨i*b.n+m.src,i*b.n+m.dst,m.sym⟩) (Zgo.2 (.inr ⟨m,hm,i.toNat,by omega,by rw [e]⟩)) h1 ih
 | @sym m w t hm h1 _ ih=>exact Pth.sym (m:=⟨i*b.n+m.src,i*b.n+m.dst,m.sym⟩) (Zgo.2 (.inr ⟨m,hm,i.toNat,by omega,by rw [e]⟩)) h1 ih
theorem ZDq (ha:AOk a) {s t:Int} {w:List Int} (h:Pth a s w t) (hs:0≤s∧s<a.n):0≤t∧t<a.n:=by
 induction h with
 |nil s=>exact hs
 |eps hm _ _ ih=>exact ih (by have:=ha.mv _ hm;omega)
 |sym hm _ _ ih=>exact ih (by have:=ha.mv _ hm;omega)
theorem ZyG (ha:VOk a) (hb:VOk b) {w u v:List Int} (hm:Mix w u v):∀{i i' j j':Int},(0≤i∧i<a.n)→(0≤j∧j<b.n)→Pth a i u i'→Pth b j v j'→Pth (ZcH a b) (i*b.n+j) w (i'*b.n+j'):=by
 induction hm with
 | nil=>
   intro i i' j j' hi hj h1 h2;have h3:=(Zmc hb hj h1).app (Zjz (ZDq ha.toAOk h1 hi) h2);exact h3
 | one c _ ih=>
   intro i i' j j' hi hj h1 h2;obtain ⟨m,hm,h3,rfl,h4,h5⟩:=h1.cons;have h6:=ha.mv m hm;have h7:Pth a m.src [m.sym] m.dst:= .sym hm h4 (.nil _);have h8:=(Zmc hb hj h3).app ((Zmc hb hj h7).app (ih ⟨h6.2.2.1,h6.2.2.2.1⟩ hj h5 h2));exact h8
 | two c _ ih=>
   intro i i' j j' hi hj h1 h2;obtain ⟨m,hm,h3,rfl,h4,h5⟩:=h2.cons;have h6:=hb.mv m hm;have h7:Pth b m.src [m.sym] m.dst:= .sym hm h4 (.nil _);have h8:=(Zjz hi h3).app ((Zjz hi h7).app (ih hi ⟨h6.2.2.1,h6.2.2.2.1⟩ h1 h5));exact h8
theorem ZyH (ha:VOk a) (hb:VOk b) {w:List Int}:Lng (ZcH a b) w↔∃u v,Mix w u v∧Lng a u∧Lng b v:=by
 constructor
 · rintro ⟨s,hs,f,hf,h⟩;obtain ⟨i,hi,j,hj,rfl⟩:=Zhu.1 (show s∈shI b.n a.start b.start from hs);obtain ⟨i',hi',j',hj',rfl⟩:=Zhu.1 (show f∈shI b.n a.fin b.fin from hf);obtain ⟨i2,j2,u,v,h1,h2,h3,h4,h5,h6⟩:=ZyF ha hb h i j (ha.st i hi) (hb.st j hj) rfl;obtain ⟨rfl,rfl⟩:=ZiT h3 (hb.fi j' hj') h2;exact ⟨u,v,h4,⟨i,hi,i',hi',h5⟩,⟨j,hj,j',hj',h6⟩⟩
 · rintro ⟨u,v,hm,⟨i,hi,i',hi',h5⟩,⟨j,hj,j',hj',h6⟩⟩;exact ⟨_,Zhu.2 ⟨i,hi,j,hj,rfl⟩,_,Zhu.2 ⟨i',hi',j',hj',rfl⟩,ZyG ha hb hm (ha.st i hi) (hb.st j hj) h5 h6⟩
end
section
variable {α κ:Type} [DecidableEq κ] {W:Srch α κ}
def Srch.Born (W:Srch α κ) (o:List α):Prop:=∀j x,0<j→o[j]? =some x→∃i y s,i<j∧o[i]? =some y∧s<W.m∧x=W.step i y s
theorem Srch.Born.visit {o o':List α} {i s n:Nat} {y:α} (h:W.Born o) (hy:o[i]? =some y) (hs:s<W.m) (hv:visit W.key W.cap o (W.step i y s)=some (o',n)):W.Born o':=by
 unfold Go.Proofs.YtgfabnhpllkebaaGreatDoor.visit at hv
 split at hv
 · cases hv;exact h
 · split at hv
   · cases hv
   · cases hv;intro j x hj hx;rw [VX] at hx;split at hx
     · obtain ⟨i',y',s',h1,h2,h3,h4⟩:=h j x hj hx;exact ⟨i',y',s',h1,ZcA (Um ..) h2,h3,h4⟩
     · rename_i hjl;have h1:=ζg hx;rw [Xt] at h1;rw [show j-o.length=0 by omega,Vt] at hx
       cases hx;exact ⟨i,y,s,by have:=ζg hy;omega,ZcA (Um ..) hy,hs,rfl⟩
theorem Srch.Born.row {o:List α} {i:Nat} {y:α} (h:W.Born o) (hy:o[i]? =some y):∀{s:Nat} {o':List α} {r:List Nat},s≤W.m→W.row i y o s=some (o',r)→W.Born o'∧o<+:o'
 | 0,o',r,_,hr=>by
   rw [Srch.row] at hr;cases hr;exact ⟨h,Vu _⟩
 | s+1,o',r,hs,hr=>by
   rw [Srch.row,XW] at hr;obtain ⟨⟨o1,r1⟩,h1,h2⟩:=hr;obtain ⟨⟨o2,n⟩,h3,h4⟩:=XC.1 h2
   cases h4;obtain ⟨h5,h6⟩:=Srch.Born.row h hy (by omega) h1;exact ⟨h5.visit (ZcA h6 hy) (by omega) h3,h6.trans (Zjj h3).1⟩
theorem Srch.born {x0:α}:∀{i:Nat} {o:List α} {rows:List (List Nat)},W.upto x0 i=some (o,rows)→W.Born o
 | 0,o,rows,h=>by
   rw [Srch.upto] at h;cases h;intro j x hj hx;have:=ζg hx;rw [Xt] at this;omega
 | i +1,o,rows,h=>by
   rw [Srch.upto,XW] at h;obtain ⟨⟨o1,rows1⟩,h1,h2⟩:=h;have h3:=Srch.born h1;dsimp only at h2
   cases hx:o1[i]? with
   |none=>rw [hx] at h2;cases h2;exact h3
   | some x=>
     rw [hx] at h2;obtain ⟨⟨o2,r⟩,h5,h6⟩:=XC.1 h2
     cases h6;exact (h3.row hx (Xd _) h5).1
end
def ZBd (par:List (Int×Int)):Prop:=∀(j:Nat) (x:Int×Int),par[j]? =some x→x.1<(j:Int)
theorem Zmd {par:List (Int×Int)} (h:ZBd par):∀(f g i:Nat),i<f→i<g→Zg0 par f i=Zg0 par g i
 |0,_,_,h1,_=>by omega
 |f+1,0,_,_,h2=>by omega
 | f +1,g+1,i,h1,h2=>by
   rw [Zg0,Zg0]
   cases hx:par[i]? with
   |none=>rfl
   | some x=>
     dsimp only;have:=h i x hx;by_cases h0:x.1<0
     · rw [if_pos h0,if_pos h0]
     · rw [if_neg h0,if_neg h0,Zmd h f g x.1.toNat (by omega) (by omega)]
def ZiU (par:List (Int×Int)) (i:Nat):List Int:=Zg0 par (i+1) i
theorem Zrq {par:List (Int×Int)} {i:Nat} {x:Int×Int} (hx:par[i]? =some x) (h0:x.1<0):ZiU par i=[]:=by
 unfold ZiU;rw [Zg0,hx];dsimp only;rw [if_pos h0]
theorem Zuj {par:List (Int×Int)} (h:ZBd par) {i:Nat} {x:Int×Int} (hx:par[i]? =some x) (h0:¬x.1<0):ZiU par i=ZiU par x.1.toNat++[x.2]:=by
 unfold ZiU;rw [Zg0,hx];dsimp only;rw [if_neg h0,Zmd h i (x.1.toNat+1) x.1.toNat (by have:=h i x hx;omega) (by omega)]
theorem ZnP {A B:Aut} {i:Nat} {o:List ((Nat×Nat)×(Int×Int))} {rows:List (List Nat)} (hu:(Zbb A B).upto ((0,0),(-1,-1)) i=some (o,rows)) (h0:o[0]? =some ((0,0),(-1,-1))):ZBd (o.map (·.2)):=fun j x hx=>by
 rw [Xm] at hx
 obtain ⟨y,hy,rfl⟩:=XC.1 hx
 rcases Va j with rfl|hj
 · rw [h0] at hy;cases hy;decide
 · obtain ⟨i',y',s,h1,_,_,rfl⟩:=Srch.born hu j y hj hy;show ((i':Nat):Int)<_;omega
theorem ZEf (l:List Bool):idx (fun x=>x==true) l=match l.idxOf? true with|some i=>(i:Int)|none=> -1:=rfl
section
variable {α κ:Type} [DecidableEq κ] {W:Srch α κ} {g:α→Int}
theorem Srch.row_ages (hg:∀i x s,g (W.step i x s)=((i:Nat):Int)) {i:Nat} {x:α} {o:List α}:∀{s:Nat} {o':List α} {r:List Nat},W.row i x o s=some (o',r)→o<+:o'∧(∀k y,o.length≤k→o'[k]? =some y→g y=((i:Nat):Int))∧∀c n:Nat,r[c]? =some n→n<o'.length
 | 0,o',r,h=>by
   rw [Srch.row] at h;cases h;exact ⟨Vu _,fun k y hk hy=>by have:=ζg hy;omega,fun c n h=>by simp at h⟩
 | s + 1, o',r,h=>by
   rw [Srch.row,XW] at h;obtain ⟨⟨o1,r1⟩,h1,h2⟩:=h;obtain ⟨⟨o2,n⟩,h3,h4⟩:=XC.1 h2
   cases h4;obtain ⟨h5,h6,h7⟩:=Srch.row_ages hg h1;obtain ⟨h8,h9,_⟩:=Zjj h3;dsimp only at h3 h8 h9 ⊢;refine ⟨h5.trans h8,fun k y hk hy=>?_,fun c m hc=>?_⟩
   · rcases Xv k o1.length with hkl|hkl
     · obtain ⟨z,hz⟩:=ζm hkl;have:=ZcA h8 hz;rw [this] at hy;cases hy;exact h6 k y hk hz
     · have hv:=h3;unfold Go.Proofs.YtgfabnhpllkebaaGreatDoor.visit at hv;split at hv
       · cases hv;have:=ζg hy;omega
       · split at hv
         · cases hv
         · cases hv;have h10:=ζg hy;rw [Xc,Xt] at h10;rw [Vl hkl,show k-o1.length=0 by omega] at hy
           cases hy;exact hg i x s
   · rw [VX] at hc;split at hc
     · have:=h7 c m hc;have:=h8.length_le;omega
     · have h10:=ζg hc;rw [Xt] at h10;rw [show c-r1.length=0 by omega] at hc
       cases hc;exact h9
structure Srch.Aged (g:α→Int) (i:Nat) (o:List α) (rows:List (List Nat)):Prop where
 mono:∀(j k:Nat) (x y:α),j≤k→o[j]? =some x→o[k]? =some y→g x≤g y
 lt:∀(j:Nat) (x:α),o[j]? =some x→g x<(i:Nat)
 len:i≤o.length→rows.length=i
 to:∀(p:Nat) (r:List Nat) (c n:Nat),rows[p]? =some r→r[c]? =some n→∃x,o[n]? =some x∧g x≤(p:Nat)
theorem Srch.ages (hg:∀i x s,g (W.step i x s)=((i:Nat):Int)) {x0:α} (h0:g x0= -1):∀{i:Nat} {o:List α} {rows:List (List Nat)},W.upto x0 i=some (o,rows)→Srch.Aged g i o rows
 | 0, o,rows,h=>by
   rw [Srch.upto] at h;cases h;refine ⟨fun j k x y _ hx hy=>?_,fun j x hx=>?_,fun _=>rfl,fun p r c n h=>by simp at h⟩
   · have h1:=ζg hx;have h2:=ζg hy;rw [Xt] at h1 h2;(have e1:j=0:=by omega);(have e2:k=0:=by omega);subst e1 e2;rw [hx] at hy;cases hy;exact VG _
   · have h1:=ζg hx;rw [Xt] at h1;(have e1:j=0:=by omega);subst e1
     cases hx;omega
 | i + 1, o,rows,h=>by
   rw [Srch.upto,XW] at h;obtain ⟨⟨o1,rows1⟩,h1,h2⟩:=h;have h3:=Srch.ages hg h0 h1;dsimp only at h2
   cases hx:o1[i]? with
   | none=>
     rw [hx] at h2;cases h2;have:=Uh.1 hx;exact ⟨h3.mono,fun j x hx=>by have:=h3.lt j x hx;omega,fun h=>by omega,h3.to⟩
   | some x=>
     rw [hx] at h2;obtain ⟨⟨o2,r⟩,h5,h6⟩:=XC.1 h2
     cases h6;dsimp only;have hil:=ζg hx;have hrl:=h3.len (by omega);obtain ⟨h7,h8,h9⟩:=Srch.row_ages hg h5;have old:∀{k:Nat} {y:α},k<o1.length→o2[k]? =some y→o1[k]? =some y:=fun {k y} hk hy=>by
      obtain ⟨z,hz⟩:=ζm hk;have:=ZcA h7 hz;rw [this] at hy;cases hy;exact hz
     have lt:∀(j:Nat) (x:α),o2[j]? =some x→g x<((i+1:Nat):Int):=fun j y hy=>by
      rcases Xv j o1.length with hj|hj
      · have:=h3.lt j y (old hj hy);omega
      · have:=h8 j y hj hy;omega
     refine ⟨fun j k y z hjk hy hz=>?_,lt,fun _=>by rw [Xc,hrl];rfl,fun p r' c n hr hn=>?_⟩
     · rcases Xv k o1.length with hk|hk
       · exact h3.mono j k y z hjk (old (by omega) hy) (old hk hz)
       · have e:=h8 k z hk hz;have:=lt j y hy;omega
     · rw [VX] at hr;split at hr
       · obtain ⟨y,hy,hle⟩:=h3.to p r' c n hr hn;exact ⟨y,ZcA h7 hy,hle⟩
       · have hp:=ζg hr;rw [Xt] at hp;rename_i hpl;(have ep:p=i:=by omega);subst ep;rw [hrl,VA] at hr
         cases hr;obtain ⟨y,hy⟩:=ζm (h9 c n hn);exact ⟨y,hy,by have:=lt n y hy;omega⟩
end
abbrev PrS2:=(Nat×Nat)×(Int×Int)
structure PQ (A B:Aut) (o:List PrS2) (rows:List (List Nat)):Prop where
 mA:IsMin A
 mB:IsMin B
 sy:A.syms=B.syms
 hu:prodQ A B=some (o,rows)
section
variable {A B:Aut} {o:List PrS2} {rows:List (List Nat)}
theorem PQ.ok (h:PQ A B o rows):(Zbb A B).Ok (ZoT A B) ((0,0),(-1,-1)) o rows∧rows.length=o.length∧o.length≤2000:=by
 obtain ⟨h1,_,h3⟩:=ZiM h.mA.det h.mB.det h.sy h.hu
 have hcap:o.length≤2000:=h1.cap
 exact ⟨h1,h3 hcap,hcap⟩
theorem PQ.back (h:PQ A B o rows):ZBd (o.map (·.2)):=ZnP h.hu h.ok.1.zero
theorem PQ.aged (h:PQ A B o rows):Srch.Aged (fun x:PrS2=>x.2.1) (Zbb A B).cap o rows:=by
 have hu:(Zbb A B).upto ((0,0),(-1,-1)) (Zbb A B).cap=some (o,rows):=h.hu
 exact Srch.ages (g:=fun x:PrS2=>x.2.1) (fun _ _ _=>rfl) rfl hu
def Zkv (o:List PrS2) (j:Nat):Nat:=(ZiU (o.map (·.2)) j).length
theorem PQ.zero (h:PQ A B o rows):ZiU (o.map (·.2)) 0=[]:=Zrq (x:=(-1,-1)) (by rw [Xm,h.ok.1.zero];rfl) (by decide)
theorem PQ.on (h:PQ A B o rows) {j:Nat} (hj:0<j) (hjl:j<o.length):∃(i s:Nat) (x y:PrS2),i<j∧o[j]? =some x∧o[i]? =some y∧s<A.syms.toNat∧x=(Zbb A B).step i y s∧x.2.1=(i:Int)∧ZiU (o.map (·.2)) j=ZiU (o.map (·.2)) i++[(s:Int)]:=by
 obtain ⟨x,hx⟩:=ζm hjl
 obtain ⟨i,y,s,h1,h2,h3,h4⟩:=Srch.born h.hu j x hj hx
 have e:x.2=(((i:Nat):Int),((s:Nat):Int)):=by rw [h4];rfl
 refine ⟨i,s,x,y,h1,hx,h2,h3,h4,by rw [e],?_⟩
 have hw:=Zuj h.back (i:=j) (x:=(((i:Nat):Int),((s:Nat):Int))) (by rw [Xm,hx,←e];rfl) (by dsimp only;omega)
 dsimp only at hw
 rw [XT] at hw
 exact hw
theorem PQ.mono (h:PQ A B o rows):∀(k:Nat),k<o.length→∀j,j≤k→Zkv o j≤Zkv o k:=fun k=>by
 induction k using Nat.strongRecOn with
 | ind k ih=>
   intro hk j hjk;rcases Va j with rfl|hj
   · unfold Zkv;rw [h.zero];exact Xe _
   · obtain ⟨i,s,x,y,h1,h2,h3,_,_,h6,h7⟩:=h.on hj (by omega);obtain ⟨i',s',x',y',h1',h2',h3',_,_,h6',h7'⟩:=h.on (show 0<k by omega) hk;have hle:x.2.1≤x'.2.1:=h.aged.mono j k x x' hjk h2 h2';have:=ih i' h1' (by omega) i (by omega);unfold Zkv at this ⊢;rw [h7,h7',Xc,Xc];exact Nat.add_le_add_right this _
theorem PQ.step (h:PQ A B o rows) {p c n:Nat} {r:List Nat} (hr:rows[p]? =some r) (hn:r[c]? =some n):Zkv o n≤Zkv o p+1:=by
 obtain ⟨x,hx,hle⟩:=h.aged.to p r c n hr hn
 have hle:x.2.1≤(p:Int):=hle
 rcases Va n with rfl|hn0
 · unfold Zkv;rw [h.zero];exact Xe _
 · obtain ⟨i,s,x',y,h1,h2,h3,_,_,h6,h7⟩:=h.on hn0 (ζg hx);rw [hx] at h2;cases h2;have hpl:p<o.length:=by rw [←h.ok.2.1];exact ζg hr
   have:=h.mono p hpl i (by omega);unfold Zkv at this ⊢;rw [h7,Xc,Xt];omega
theorem PQ.row (h:PQ A B o rows) {op:Int} {p c:Nat} (hp:p<o.length) (hc:c<A.syms.toNat):∃(r:List Nat) (n:Nat),rows[p]? =some r∧r[c]? =some n∧toT (Zgv A B op (o,rows)) p c=n∧n<o.length:=by
 obtain ⟨r,hr⟩:=ζm (show p<rows.length by rw [h.ok.2.1];exact hp)
 have hl:r.length=A.syms.toNat:=h.ok.1.len r (Xb hr)
 obtain ⟨n,hn⟩:=ζm (show c<r.length by omega)
 obtain ⟨x,hx⟩:=ζm hp
 exact ⟨r,n,hr,hn,Zjo (t:=Zgv A B op (o,rows)) hr hn,(h.ok.1.to p x r c n hx hr hn).1⟩
theorem ZnQ (t:Tab) (x:Nat) (w:List Nat) (c:Nat):ZlS t x (w++[c])=toT t (ZlS t x w) c:=by unfold ZlS;rw [VE];rfl
theorem ZyI {α:Type} {P:List α→Prop} (h0:P []) (h1:∀l x,P l→P (l++[x])) (l:List α):P l:=by
 have:∀m:List α,P m.reverse:=fun m=>by
  induction m with
  |nil=>exact h0
  |cons x m ih=>rw [List.reverse_cons];exact h1 _ _ ih
 have h:=this l.reverse
 rw [List.reverse_reverse] at h;exact h
theorem PQ.run (h:PQ A B o rows) {op:Int} (w:List Nat):Zb2 A.syms.toNat w→ZlS (Zgv A B op (o,rows)) 0 w<o.length∧Zkv o (ZlS (Zgv A B op (o,rows)) 0 w)≤w.length:=by
 refine ZyI (P:=fun w=>Zb2 A.syms.toNat w→ZlS (Zgv A B op (o,rows)) 0 w<o.length∧Zkv o (ZlS (Zgv A B op (o,rows)) 0 w)≤w.length) ?_ ?_ w
 · intro _;refine ⟨h.ok.1.pos,?_⟩;show Zkv o 0≤0;unfold Zkv;rw [h.zero];exact Xd _
 · intro w c ih hw;obtain ⟨h1,h2⟩:=ih fun c hc=>hw c (Vb _ hc);obtain ⟨r,n,hr,hn,e,hno⟩:=h.row (op:=op) h1 (hw c (X3 _ (Xi.2 rfl)));rw [ZnQ,e];have:=h.step hr hn;rw [Xc,Xt];exact ⟨hno,by omega⟩
theorem PQ.way (h:PQ A B o rows) {op:Int}:∀(j:Nat),j<o.length→∃w:List Nat,Zb2 A.syms.toNat w∧wI w=ZiU (o.map (·.2)) j∧ZlS (Zgv A B op (o,rows)) 0 w=j:=fun j=>by
 induction j using Nat.strongRecOn with
 | ind j ih=>
   intro hj;rcases Va j with rfl|hj0
   · exact ⟨[],(fun c hc=>by cases hc),(by rw [h.zero];rfl),rfl⟩
   · obtain ⟨i,s,x,y,h1,h2,h3,h4,h5,_,h7⟩:=h.on hj0 hj;obtain ⟨w,hw,he,hr⟩:=ih i h1 (by omega);refine ⟨w++[s],fun c hc=>?_,?_,?_⟩
     · rcases Xs.1 hc with hc|hc
       · exact hw c hc
       · rw [Xi.1 hc];exact h4
     · rw [h7,←he];unfold wI;rw [Xy];rfl
     · obtain ⟨r,n,hr',hn,e,hno⟩:=h.row (op:=op) (ζg h3) h4;rw [ZnQ,hr,e];have h8:=(h.ok.1.to i y r s n h3 hr' hn).2;rw [←h5] at h8;rw [←h8];exact ZeC h.ok.1.nd h2
theorem PQ.fin (h:PQ A B o rows) {op:Int} {w:List Nat} (hw:Zb2 A.syms.toNat w) {x:PrS2} (hx:o[ZlS (Zgv A B op (o,rows)) 0 w]? =some x):ZbF A B op x=Zkt op (ZeV A (wI w)) (ZeV B (wI w)):=by
 have:=ZvI h.mA h.mB h.sy (op:=op) h.hu hw
 rw [←this]
 show _=((o.map (ZbF A B op))[ZlS (Zgv A B op (o,rows)) 0 w]?).getD false
 rw [Xm,hx];rfl
end
theorem Zrr {l:List Bool}:∀{i:Nat},l.idxOf? true=some i↔l[i]? =some true∧∀j,j<i→l[j]? =some false:=by
 induction l with
 |nil=>intro i;simp
 | cons b l ih=>
   intro i;rw [List.idxOf?_cons]
   cases b with
   | true=>
     simp only [beq_self_eq_true,if_true];constructor
     · intro h;cases h;exact ⟨rfl,fun j hj=>by omega⟩
     · rintro ⟨h1,h2⟩;rcases Va i with rfl|hi
       · rfl
       · have:=h2 0 hi;simp at this
   | false=>
     simp only [show (false==true)=false from rfl,V3,if_false]
     cases i with
     |zero=>simp
     | succ i=>
       rw [XC];constructor
       · rintro ⟨k,hk,e⟩;(have:k=i:=by omega);subst this;obtain ⟨h1,h2⟩:=ih.1 hk;refine ⟨h1,fun j hj=>?_⟩
         cases j with
         |zero=>rfl
         |succ j=>exact h2 j (by omega)
       · rintro ⟨h1,h2⟩;exact ⟨i,ih.2 ⟨h1,fun j hj=>h2 (j+1) (by omega)⟩,rfl⟩
theorem Zv0 (i:Nat) (r:List Nat):AscM (Zan i r):=by
 unfold AscM
 rw [V7]
 intro j k hj hk hjk
 unfold Zan at hj hk ⊢
 rw [Xf,List.length_zipIdx] at hj hk
 rw [ZfE,List.getElem_map,List.getElem_map,List.getElem_zipIdx,List.getElem_zipIdx]
 dsimp only
 omega
theorem Zme:∀(rows:List (List Nat)) (k:Nat),AscM (Zg2 k rows)
 |[],_=> .nil
 | r::rows,k=>by
   rw [Zd5];refine UB.2 ⟨Zv0 k r,Zme rows (k+1),fun x hx y hy=>?_⟩;have h1:=Zhs x hx;have h2:=ZlQ y hy;rw [ZfE];omega
theorem IsMin.valid {A:Aut} (h:IsMin A):Zaa A=true:=by
 have hok:=h.aok
 obtain ⟨t,o,rows,hT,hu,rfl,hm⟩:=h
 have h1:=hok.n0
 have h2:=hok.n1
 have h3:=hok.s0
 have h4:=hok.s1
 have h5:=hok.ml
 unfold Zaa
 simp only [Xg,decide_eq_true_eq]
 refine ⟨⟨⟨⟨⟨⟨⟨⟨h1,h2⟩,h3⟩,h4⟩,h5⟩,Zug hok.st (VC ..)⟩,Zug hok.fi (ZqR _ _)⟩,?_⟩,Zjy (Zme rows 0)⟩
 rw [XD]
 intro m hm'
 have:=hok.mv m hm'
 unfold Zlq
 simp only [Xg,decide_eq_true_eq]
 omega
theorem Zs7 {a b A B:Aut} (ha:ZbR a= .ok A) (hb:ZbR b= .ok B) {q:List PrS2×List (List Nat)} (hq:prodQ A B=some q):ZfI a b= .ok (A,B,q):=by unfold ZfI;rw [ha,hb];dsimp only;rw [hq]
theorem Zs8 {a b A B:Aut} (ha:ZbR a= .ok A) (hb:ZbR b= .ok B) (hq:prodQ A B=none):ZfI a b= .error 13:=by unfold ZfI;rw [ha,hb];dsimp only;rw [hq]
theorem Zo5 {a b:Aut} (h1:Zaa a=true) (h2:Zaa b=true) (h:a.syms=b.syms):Zb4 a b=0:=by unfold Zb4;rw [if_neg (by rw [h1,h2];simp),if_neg (fun e=>e h)]
theorem ZnR {a b A B:Aut} {op:Int} (hf:Zb4 a b=0) (ha:ZbR a= .ok A) (hb:ZbR b= .ok B) {q:List PrS2×List (List Nat)} (hq:prodQ A B=some q):cmpX a b op=((Zgk A B op q).1,(Zgk A B op q).2,0):=by
 unfold cmpX;rw [if_neg (fun h=>h hf),Zs7 ha hb hq]
theorem ZnS {a b A B:Aut} {op:Int} (hf:Zb4 a b=0) (ha:ZbR a= .ok A) (hb:ZbR b= .ok B) (hq:prodQ A B=none):cmpX a b op=(false,[],13):=by
 unfold cmpX;rw [if_neg (fun h=>h hf),Zs8 ha hb hq]
section
variable {A B:Aut} {o:List PrS2} {rows:List (List Nat)}
theorem Zv1 {op:Int} {i:Nat} (h:(o.map (ZbF A B op)).idxOf? true=some i):Zgk A B op (o,rows)=(false,ZiU (o.map (·.2)) i):=by unfold Zgk;dsimp only;rw [h];rfl
theorem Zv2 {op:Int} (h:(o.map (ZbF A B op)).idxOf? true=none):Zgk A B op (o,rows)=(true,[]):=by unfold Zgk;dsimp only;rw [h]
end
end Go.Proofs.YtgfabnhpllkebaaGreatDoor
