/-
  Walks: automata: the minimal automaton of a table.
  Walks: automata: the minimal automaton of an automaton.
  Walks: automata: Minimal and Complement.
  Walks: the reference's automata: lists of numbers as texts.
  Walks: the reference's automata: the subset automaton. Its final states are handed over.
  Walks: the reference's automata: the classes of a table's states.
  Walks: the reference's automata: the automaton of a table.
  Walks: the reference's automata: the least automaton of a table.
  Walks: the reference's automata: Minimal and Complement.
  Walks: automata: moves are sorted, each is kept once.
  Walks: automata: what an operation made is minimized; Star.
  Plain laws: what the reference finishes; a move put in its place. No program in sight.
  Plain laws: shuffles. No program in sight.
  Plain laws: the words of unions, concatenations, stars, reversals, shuffles. No program in sight.
  Plain laws: how what a search has met was met; ways back; turning round. No program in sight.
  Plain laws: searches go by ages; first words of products. No program in sight.
  Plain laws: minimal automata are unique; first differences. No program in sight.
-/
import Derived.Test.YtgfabnhpllkebaaGreatDoorPk08
import Derived.Test.YtgfabnhpllkebaaGreatDoorPk03
import Derived.Test.YtgfabnhpllkebaaGreatDoorMShelfF
namespace Go.Proofs.YtgfabnhpllkebaaGreatDoor
open Go.RowKit Go.Cb Go.En
set_option linter.all false
set_option maxRecDepth 100000
theorem Zly:FldT Tryz.prog 147 0 0=true:=by kernel_rfl
theorem Zdi:MpT Tryz.prog 279 3 3 (.int .i64) (.int .i64 0):=⟨Tryz.underlying279,Tryz.underlying3, .inr ⟨_,rfl⟩,by show ZeroT _ _ _;unfold ZeroT;kernel_rfl⟩
theorem ζK:Zbj Tryz.prog 39=some ((.agg #[(.int .i64 0),(.int .i64 0),(.slice none 0 0),(.slice none 0 0),(.slice none 0 0)]),([0,1,2,3,4]:List Nat).map fun o=>(o,1)):=by kernel_rfl
theorem Zbp:Zbj Tryz.prog 93=some ((.agg #[(.int .i64 0),(.int .i64 0),(.int .i64 0)]),([0,1,2]:List Nat).map fun o=>(o,1)):=by kernel_rfl
theorem ζz:ZeroT Tryz.prog 39 (.agg #[(.int .i64 0),(.int .i64 0),(.slice none 0 0),(.slice none 0 0),(.slice none 0 0)]):=by unfold ZeroT;kernel_rfl
section
variable {α:Type}
def ZaW (f:α→Int) (o:List α) (x:α):Nat:=if posK f o (f x)<o.length then posK f o (f x) else 0
theorem Zlz (f:α→Int) (o:List α) (x:α):(Zdo (ikv (Zbv f 0 o)) (.int .i64 (f x))).getD (.int .i64 0)= .int .i64 (ZaW f o x:Nat)∧(Zdo (ikv (Zbv f 0 o)) (.int .i64 (f x))).isSome=decide (posK f o (f x)<o.length):=by
 rw [ZnZ,Zff]
 unfold ZaW
 by_cases h:posK f o (f x)<o.length
 · rw [if_pos h,if_pos h,decide_eq_true h,Nat.zero_add];exact ⟨rfl,rfl⟩
 · rw [if_neg h,if_neg h,decide_eq_false h];exact ⟨rfl,rfl⟩
theorem Zo0 {f:α→Int} {o:List α} {x:α} (h:¬posK f o (f x)<o.length):Ze5 (ikv (Zbv f 0 o)) (.int .i64 (f x)) (.int .i64 (o.length:Nat))=ikv (Zbv f 0 (o++[x])):=by
 have:=Zjs f x o 0 h
 rw [Nat.zero_add] at this
 rw [Zn0,this]
end
section
variable {α:Type} {P:Program} {sL hP:List (Nat×Ent)} {o:Oper}
theorem ZsC {t ks e:Nat} {kd:TypeDesc} {z:Value} {x y:Operand} {m:Value} {f:α→Int} {L:List α} {a:α} {p q:PV} (l:Nat) (hT:MpT P t ks e kd z) (hz:z= .int .i64 0) (hkd:kd= .int .i64) (ho:o.op= .lookup t x y true:=by exact rfl) (hx:ev sL x=some (m,p):=by exact rfl) (hl:lk hP l=some (m, .omap (ikv (Zbv f 0 L))):=by exact rfl) (hy:ev sL y=some (.int .i64 (f a),q):=by exact rfl):
 YE P (⟨sL,hP⟩:St) o (· = .tuple [.int .i64 (ZaW f L a:Nat), .bool (decide (posK f L (f a)<L.length))].toArray) (.tup [.val (.int .i64 (ZaW f L a:Nat)), .val (.bool (decide (posK f L (f a)<L.length)))]):=by
 subst hz hkd
 have h:=Zn1 (sL:=sL) (hP:=hP) (o:=o) l hT ho hx hl hy (ZgO _ _)
 rw [(Zlz f L a).1,(Zlz f L a).2] at h
 exact h
end
def Zdj (t:Tab) (x:Nat):Int:=(ZcV t x:Nat)
theorem ZsD (t:Tab) (o:List Nat) (x:Nat):posK (Zdj t) o (Zdj t x)=posK (ZcV t) o (ZcV t x):=Zfe fun y _=>by unfold Zdj;omega
theorem ZeX {t:Tab} {o o':List Nat} (h:o<+:o'):∀k,k≤o.length→ZaQ k (ZdF t o)=ZaQ k (ZdF t o')
 |0,_=>rfl
 | k+1,hk=>by
   rw [Zb7,Zb7,ZeX h k (by omega)]
   obtain ⟨x,hx⟩:=ζm (show k<o.length by omega)
   unfold ZdF
   rw [hx,ZbO h hx]
theorem ZbP (e:Nat) (L:List Mv) (x:Mv):PV.own e 3 (L.length+1) (L.flatMap cMv++cMv x)= .own e 3 (L++[x]).length ((L++[x]).flatMap cMv):=by simp
theorem ZhE (e n:Nat) (l:List Mv) (hn:n=l.length):share (.own e 3 n (l.flatMap cMv))=pMvs l:=by
 subst hn
 rw [share,ζ3,List.map_flatMap];rfl
theorem ZcN (e:Nat) (L:List Int) (x:Int):PV.own e 1 (L.length+1) (L.map pInt++[pInt x])= .own e 1 (L++[x]).length ((L++[x]).map pInt):=by simp
theorem ZsE {rows:List (List Nat)} {r:List Nat} {n m:Nat} (h:∀x∈rows,x.length=m) (hm:m≤40) (hn:rows.length≤2000) (hr:r.length≤m):(ζT rows++Zap n r).length≤80040:=by
 rw [List.length_append,Zqd rows h,Zdc]
 have:rows.length*m≤2000*40:=Nat.mul_le_mul hn hm
 omega
set_option maxHeartbeats 4000000 in
theorem Zql (t : Tab) (ht:TOk t):AF Tryz.prog 186 [Zwy t] (· =resW (lim (Zbz t))):=by
 have hn1:=ht.n1
 have hfl:=ht.fl
 have hm1:=ht.m1
 have hpos:=ht.pos
 refine AF.of_body 101 Tryz.func186 rfl Tryz.ntmps186 (Nat.le_of_ble_eq_true rfl) ?_
 intro w0 M0 vs hl hv
 obtain ⟨v0,rfl⟩:=ZdL hl
 clear hl hv
 refine nav ?_
 (refine ζa ?_<;>refine ζE 1 3 fun h1=>?_<;>refine ζr [(.int .i64 0),(.int .i64 0),(.slice none 0 0),(.slice none 0 0),(.slice none 0 0)] 5 2 ζz fun h2=>?_<;>refine xL 3 ζc ?_<;>refine ζb (nav ?_)<;>try dsimp only)
 (refine ζa ?_<;>(refine yL 13 (ζp 1 ZaL) fun v13 h=>?_;cases h)<;>(refine cO 14 (cA Tryz.call232 (Zqk t ht)) fun v14 ho14=>?_;refine ζq (En.freeze (l:=14) (t:=14) rfl rfl) fun _=>?_;rw [show share (.own 3 1 t.rows.length (vec t.rows.length fun s=>pInt (ZcV t s:Nat)))= .sl t.rows.length (vec t.rows.length fun s=>pInt (ZcV t s:Nat)) by rw [share,ζ3,ZxC];rfl])<;>refine xL 4 ζc ?_<;>refine ζb (nav ?_)<;>try dsimp only)
 have e1:=Zhn (fun s=>pInt (ZcV t s:Nat)) hpos
 (refine ζa ?_<;>refine ZeT 15 fun h15 ho15=>?_<;>refine xL 16 ζd ?_<;>refine xL 17 (ζJ (i:=0) ζn) ?_<;>(refine yL 18 (Za3 ζj) fun v18 h=>?_;cases h)<;>(refine Zwk 15 Zdi ?_;rw [show Ze5 [] (.int .i64 ((ZcV t 0:Nat):Int)) (.int .i64 0)=ikv (Zbv (Zdj t) 0 [0]) from rfl])<;>refine xL 19 ζd ?_<;>refine xL 5 ζc ?_<;>refine ζb (nav ?_)<;>try dsimp only)
 (refine ζa ?_<;>refine ζI (kk:=1) 20 ζi fun h20 ho20=>?_<;>refine xL 6 ζc ?_<;>refine ζb (nav ?_)<;>try dsimp only)
 refine ζv (ζD (l:=15) 304 rfl rfl) fun _=>?_
 refine ζv (ζD (l:=20) 303 rfl rfl) fun _=>?_
 refine ζv (ζN (l:=303) (p':= .own 3 1 ([0]:List Nat).length ((toI [0]).map pInt)) rfl rfl) fun _=>?_
 (refine ζa ?_<;>refine xL 21 (ζh 1 Zly) ?_<;>(refine yL 22 (ζs 1 ζj) fun v22 h=>?_;cases h)<;>(refine ζI (kk:=1) 23 ζi fun h23 ho23=>?_;refine ζq (En.freeze (l:=23) (t:=23) rfl rfl) fun _=>?_;rw [show share (PV.own 3 1 1 [PV.val (.int .i64 0)])=pInts [0] from rfl])<;>refine xL 24 (ζB ζK) ?_<;>refine ζr [(.int .i64 0),(.int .i64 0),(.slice none 0 0),(.slice none 0 0),(.slice none 0 0)] 5 7 ζz fun h7=>?_<;>refine ζC 7 ζg ?_<;>refine ζb (nav ?_)<;>try dsimp only)
 refine ζv (Zeh (l:=7) [pInt 0,pInt (t.m:Nat),pInts [0], .own 3 1 0 [], .own 93 3 0 []] rfl rfl (fun i p p' h1 h2=>by
  match i with
  |0=>cases h1;cases h2;exact .inl rfl
  |1=>cases h1;cases h2;exact .inl rfl
  |2=>cases h1;cases h2;exact .inl rfl
  |3=>cases h1;cases h2;exact .inr ⟨rfl,_,_,rfl⟩
  |4=>cases h1;cases h2;exact .inr ⟨rfl,_,_,rfl⟩
  |i+5=>simp at h2)) fun _=>?_
 refine ζv (ZeK (l:=7) (l':=301) (j:=3) rfl rfl rfl rfl) fun i=>?_
 obtain ⟨v301,ho301⟩:=i
 refine ζv (ZeK (l:=7) (l':=302) (j:=4) rfl rfl rfl rfl) fun i=>?_
 obtain ⟨v302,ho302⟩:=i
 dsimp only [List.set]
 (refine ζa ?_<;>refine xL 8 ζc ?_<;>refine ζb (nav ?_)<;>try dsimp only)
 refine ζy (ι:={q:Nat×Value×Value×Value×List Nat×List (List Nat)//(minW t).upto 0 q.1=some (q.2.2.2.2.1,q.2.2.2.2.2)∧q.1≤q.2.2.2.2.1.length∧q.2.1.oneCell'=true∧q.2.2.1.oneCell'=true∧q.2.2.2.1.oneCell'=true}) (fun k=>⟨[(1,_,_),(2,_,_),(3,_,_),(4,_,_),(5,_,_),(7,_,_),(6,k.1.2.2.2.1, .val k.1.2.2.2.1),(8, .int .i64 k.1.1,pInt k.1.1)],[(1,_,_),(2,_,_),(7,h7, .own 39 5 1 [pInt 0,pInt (t.m:Nat),pInts [0], .val k.1.2.1, .val k.1.2.2.1]),(301,k.1.2.1, .own 3 1 (ZaQ k.1.1 (ZdF t k.1.2.2.2.2.1)).length ((ZaQ k.1.1 (ZdF t k.1.2.2.2.2.1)).map pInt)),(302,k.1.2.2.1, .own 93 3 (ζT k.1.2.2.2.2.2).length ((ζT k.1.2.2.2.2.2).flatMap cMv)),(303,k.1.2.2.2.1, .own 3 1 k.1.2.2.2.2.1.length ((toI k.1.2.2.2.2.1).map pInt)),(304,h15, .omap (ikv (Zbv (Zdj t) 0 k.1.2.2.2.2.1)))]⟩) (fun k=>2000-k.1.1) ⟨(0,v301,v302,h20,[0],[]),rfl,Nat.zero_le _,ho301,ho302,ho20⟩ (fun a w H=>H.weaken ⟨rfl,rfl,rfl,rfl,rfl,rfl,rfl,rfl,trivial⟩ ⟨rfl,rfl,rfl,rfl,rfl,rfl,rfl,trivial⟩) ?_
 rintro ⟨⟨i,hF,hM,hO,o,rows⟩,hU,hi,hFo,hMo,hOo⟩
 dsimp only
 dsimp only at hU hi hFo hMo hOo
 obtain ⟨hOk,hRl,_⟩:=Zsf ht hU
 have hRl:=hRl hi
 have hcap:o.length≤t.rows.length:=hOk.cap
 have hrw:=hOk.len
 have htl:=Zd7 o
 have hll:=Zho i (ZdF t o)
 refine nav ?_
 (refine ζa ?_<;>refine xL 25 ζd ?_<;>refine xL 26 ζd ?_<;>refine xL 27 (ZaC 303 ζn) ?_<;>refine xL 28 ζS ?_<;>refine ζb (nav ?_)<;>try dsimp only)
 (first|refine cCd ?_ ?_|refine cC ?_ ?_)<;>intro hb28
 · first
   |exact Bool.noConfusion hb28
   | (
    obtain ⟨x,hx⟩:=ζm (show i<o.length by omega)
    have hxn:x<t.rows.length:=hOk.p x (List.mem_of_getElem? hx)
    have e1:((toI o).map pInt)[i*1]? =some (pInt (x:Nat)):=by rw [Nat.mul_one,List.getElem?_map];unfold toI;rw [List.getElem?_map,hx];rfl
    obtain ⟨b,hb⟩:=ζm (show x<t.fin.length by omega)
    have e2:=Zaf (f:=ζO) hb
    obtain ⟨row,hrow⟩:=ζm hxn
    have e3:=Zaf (f:=ZfX) hrow
    have hrl:=ht.rl row (List.mem_of_getElem? hrow)
    have hrt:=ht.to row (List.mem_of_getElem? hrow)
    have hrtl:=Zd7 row
    have hfa:ZdF t o i=b:=by unfold ZdF;rw [hx];show (t.fin[x]?).getD false=b;rw [hb];rfl
    have hL1:=Zb7 i (ZdF t o)
    rw [hfa] at hL1
    refine nav ?_
    (refine ζ4 (fun i=>([]:List Nat).elem i) [1,303] (by kernel_rfl) ?_<;>refine xD 0 31 rfl (ζh 1 Zbf) ?_<;>(refine yD 1 32 rfl (ζs 1 ZaO) fun v32 h=>?_;cases h)<;>refine xD 2 33 rfl ζd ?_<;>refine xE 3 34 rfl ζd ?_<;>refine xE 4 35 rfl (Zaw 303 ζn) ?_<;>(refine yE 5 36 rfl (ζs 303 ζj) fun v36 h=>?_;cases h)<;>refine xE 6 37 rfl (ζJ Zbg) ?_<;>(refine yE 7 38 rfl (Za3 Zds) fun v38 h=>?_;cases h)<;>refine ZaM (by kernel_rfl) (nav ?_)<;>try dsimp only)
    (first|refine cCd ?_ ?_|refine cC ?_ ?_)<;>intro hb38
    · first
      |exact Bool.noConfusion hb38
      | (
       rw [if_pos hb38] at hL1
       refine nav ?_
       (refine ζa ?_<;>refine xL 39 (ζh 7 ζ9) ?_<;>(refine yL 40 (ζs 7 ζx) fun v40 h=>?_;cases h)<;>refine xL 41 ζd ?_<;>refine ζI (kk:=1) 42 ζi fun h42 ho42=>?_<;>(refine ζY 301 42 43 ζi fun h43 ho43=>?_;refine ζq (ζD (l:=43) 301 rfl rfl) fun _=>?_;refine ζq (ζN (l:=301) rfl (ZcN _ (ZaQ i (ZdF t o)) i)) fun _=>?_)<;>refine xL 44 (ζh 7 ζ9) ?_<;>refine Zc1 7 ζx Zbo ?_<;>refine ζb (nav ?_)<;>try dsimp only)
       (refine ζ4 (fun i=>([]:List Nat).elem i) [1,303] (by kernel_rfl) ?_<;>refine xD 0 45 rfl (ζh 1 ZaV) ?_<;>(refine yD 1 46 rfl (ζs 1 ZbB) fun v46 h=>?_;cases h)<;>refine xD 2 47 rfl ζd ?_<;>refine xD 3 48 rfl ζd ?_<;>refine xD 4 49 rfl (Zaw 303 ζn) ?_<;>(refine yD 5 50 rfl (ζs 303 ζj) fun v50 h=>?_;cases h)<;>refine xD 6 51 rfl (ζJ Zam) ?_<;>(refine yD 7 52 rfl (Za3 ζx) fun v52 h=>?_;cases h)<;>refine xD 8 53 rfl (ζV ζn) ?_<;>refine xE 9 54 rfl ζd ?_<;>refine ZaM (by kernel_rfl) (nav ?_)<;>try dsimp only)
       rw [←hL1]
       rw [show ζT rows=ζT rows++Zap i ([]:List Nat) from (List.append_nil _).symm]
       refine ζy (ι:={q:Nat×Value×Value×List Nat×List Nat//(minW t).row i x o q.1=some (q.2.2.2.1,q.2.2.2.2)∧q.1≤t.m∧q.2.1.oneCell'=true∧q.2.2.1.oneCell'=true}) (fun k=>⟨[(1,_,_),(2,_,_),(3,_,_),(4,_,_),(5,_,_),(7,_,_),(8,_,_),(52,_,_),(53,_,_),(6,k.1.2.2.1, .val k.1.2.2.1),(54, .int .i64 k.1.1,pInt k.1.1)],[(1,_,_),(2,_,_),(301,_,_),(7,h7, .own 39 5 1 [pInt 0,pInt (t.m:Nat),pInts [0],_, .val k.1.2.1]),(302,k.1.2.1, .own 93 3 (ζT rows++Zap i k.1.2.2.2.2).length ((ζT rows++Zap i k.1.2.2.2.2).flatMap cMv)),(303,k.1.2.2.1, .own 3 1 k.1.2.2.2.1.length ((toI k.1.2.2.2.1).map pInt)),(304,h15, .omap (ikv (Zbv (Zdj t) 0 k.1.2.2.2.1)))]⟩) (fun k=>t.m-k.1.1) ⟨(0,hM,hO,o,[]),rfl,Nat.zero_le _,hMo,hOo⟩ (fun a w H=>H.weaken ⟨rfl,rfl,rfl,rfl,rfl,rfl,rfl,rfl,rfl,rfl,rfl,trivial⟩ ⟨rfl,rfl,rfl,rfl,rfl,rfl,rfl,trivial⟩) ?_
       rintro ⟨⟨s,hM',hO',o',r⟩,hW,hs,hM'o,hO'o⟩
       dsimp only
       dsimp only at hW hs hM'o hO'o
       obtain ⟨hMt,hpr,hrl2,_⟩:=hOk.toMet.row (fun s _=>Zb8 ht) (show s≤(minW t).m from hs) hW
       have hcap':o'.length≤t.rows.length:=hMt.cap
       have htl':=Zd7 o'
       have hmr:=ZsE (n:=i) hrw hm1 (by omega) (show r.length≤t.m by omega)
       refine nav ?_
       (refine ζa ?_<;>refine xL 55 ζS ?_<;>refine ζb (nav ?_)<;>try dsimp only)
       (first|refine cCd ?_ ?_|refine cC ?_ ?_)<;>intro hb55
       · first
         |exact Bool.noConfusion hb55
         | (
          obtain ⟨y,hy⟩:=ζm (show s<row.length by omega)
          have hyn:=hrt y (List.mem_of_getElem? hy)
          have e4:((toI row).map pInt)[s*1]? =some (pInt (y:Nat)):=by rw [Nat.mul_one,List.getElem?_map];unfold toI;rw [List.getElem?_map,hy];rfl
          have e5:=Zhn (fun s=>pInt (ZcV t s:Nat)) hyn
          have hto:(minW t).step i x s=y:=ZiI hrow hy
          have hid:=ZsD t o' y
          refine nav ?_
          (refine ζa ?_<;>refine xL 56 ζd ?_<;>refine xL 57 (ζJ ζn) ?_<;>(refine yL 58 (Za3 ζj) fun v58 h=>?_;cases h)<;>refine xL 9 ζc ?_<;>refine xL 10 ζc ?_<;>refine ζb (nav ?_)<;>try dsimp only)
          (refine ζa ?_<;>refine xL 60 ζd ?_<;>refine xL 61 ζd ?_<;>refine xL 62 ζd ?_<;>refine xL 63 (ζJ ζn) ?_<;>(refine yL 64 (Za3 ζj) fun v64 h=>?_;cases h)<;>refine xL 65 (ZsC (f:=Zdj t) (L:=o') (a:=y) 304 Zdi rfl rfl) ?_<;>refine xL 59 ζd ?_<;>refine xL 66 ζf ?_<;>refine xL 67 ζf ?_<;>refine xL 11 ζc ?_<;>refine xL 12 ζc ?_<;>refine ζb (nav ?_)<;>try dsimp only)
          (refine ζa ?_<;>refine xL 68 ζd ?_<;>refine xL 69 Zak ?_<;>refine ζb (nav ?_)<;>try dsimp only)
          (first|refine cCd ?_ ?_|refine cC ?_ ?_)<;>intro hb69
          · first
            |exact Bool.noConfusion hb69
            | (
             have hnew:¬posK (Zdj t) o' (Zdj t y)<o'.length:=by simpa using hb69
             have hnew2:¬posK (minW t).key o' ((minW t).key ((minW t).step i x s))<o'.length:=by
              rw [hto]
              show ¬posK (ZcV t) o' (ZcV t y)<o'.length
              rw [←hid];exact hnew
             have hroom:=Zhq ht hMt (show (minW t).step i x s<t.rows.length by rw [hto];exact hyn) hnew2
             refine nav ?_
             (refine ζa ?_<;>refine xL 70 ζd ?_<;>refine xL 71 (ZaC 303 ζn) ?_<;>refine xL 11 ζc ?_<;>refine ζb (nav ?_)<;>try dsimp only)
             (refine ζa ?_<;>refine xL 72 ζd ?_<;>refine xL 73 ζd ?_<;>refine xL 74 ζd ?_<;>refine xL 75 (ζJ ζn) ?_<;>(refine yL 76 (Za3 ζj) fun v76 h=>?_;cases h)<;>refine xL 77 ζd ?_<;>(refine ZgT 304 Zdi ?_;rw [show Ze5 (ikv (Zbv (Zdj t) 0 o')) (.int .i64 ((ZcV t y:Nat):Int)) (.int .i64 ((o'.length:Nat):Int))=ikv (Zbv (Zdj t) 0 (o'++[y])) from Zo0 hnew])<;>refine ζb (nav ?_)<;>try dsimp only)
             (refine ζa ?_<;>refine xL 78 ζd ?_<;>refine xL 79 ζd ?_<;>refine ζI (kk:=1) 80 ζi fun h80 ho80=>?_<;>(refine ζY 303 80 81 ζi fun h81 ho81=>?_;refine ζq (ζD (l:=81) 303 rfl rfl) fun _=>?_;refine ζq (ζN (l:=303) rfl (ZjU _ o' y)) fun _=>?_)<;>refine xL 6 ζc ?_<;>refine ζb (nav ?_)<;>try dsimp only)
             (refine ζa ?_<;>refine xL 82 (ζh 7 ζw) ?_<;>(refine yL 83 (ζs 7 ζA) fun v83 h=>?_;cases h)<;>refine xL 84 ζd ?_<;>refine xL 85 ζd ?_<;>refine xL 86 ζd ?_<;>refine xL 87 (ζB Zbp) ?_<;>refine Zar 88 ζ1 fun h88 ho88=>?_<;>(refine ζY 302 88 89 ζ1 fun h89 ho89=>?_;refine ζq (ζD (l:=89) 302 rfl rfl) fun _=>?_;first|refine ζq (ζN (l:=302) rfl (ZbP _ (ζT rows++Zap i r) ⟨(i:Nat),(o'.length:Nat),(s:Nat)⟩)) fun _=>?_|refine ζq (ζN (l:=302) rfl (ZbP _ (ζT rows++Zap i r) ⟨(i:Nat),(ZaW (Zdj t) o' y:Nat),(s:Nat)⟩)) fun _=>?_)<;>refine xL 90 (ζh 7 ζw) ?_<;>refine Zc1 7 ζA ZaP ?_<;>refine ζb (nav ?_)<;>try dsimp only)
             (refine ζa ?_<;>refine xL 91 ζM ?_<;>refine xL 54 ζd ?_<;>refine ζb (nav ?_)<;>try dsimp only)
             try rw [show (ζT rows++Zap i r)++[(⟨(i:Nat),(o'.length:Nat),(s:Nat)⟩:Mv)]=ζT rows++Zap i (r++[o'.length]) by rw [Zby,hrl2,List.append_assoc]]
             try rw [show (ζT rows++Zap i r)++[(⟨(i:Nat),(ZaW (Zdj t) o' y:Nat),(s:Nat)⟩:Mv)]=ζT rows++Zap i (r++[ZaW (Zdj t) o' y]) by rw [Zby,hrl2,List.append_assoc]]
             first
              | (exact ζl (
                  ⟨(s+1,h89,h81,o'++[y],r++[o'.length]),(by dsimp only;exact (by have h9:=Srch.row_snoc hW (Zbd hnew2 hroom);rwa [hto] at h9)),(by dsimp only;omega),ho89,ho81⟩
                  ) (by dsimp only;omega) ⟨rfl,rfl,rfl,rfl,rfl,rfl,rfl,rfl,rfl,rfl,rfl,trivial⟩ ⟨rfl,rfl,rfl,rfl,rfl,rfl,rfl,trivial⟩)
              | (exact ζl (
                  ⟨(s+1,h89,hO',o',r++[ZaW (Zdj t) o' y]),(by dsimp only;rw [hnum];exact Srch.row_snoc hW (Zbc hold2)),(by dsimp only;omega),ho89,hO'o⟩
                  ) (by dsimp only;omega) ⟨rfl,rfl,rfl,rfl,rfl,rfl,rfl,rfl,rfl,rfl,rfl,trivial⟩ ⟨rfl,rfl,rfl,rfl,rfl,rfl,rfl,trivial⟩))
          · first
            |exact Bool.noConfusion hb69
            | (
             have hold:posK (Zdj t) o' (Zdj t y)<o'.length:=by simpa using hb69
             have hold2:posK (minW t).key o' ((minW t).key ((minW t).step i x s))<o'.length:=by
              rw [hto]
              show posK (ZcV t) o' (ZcV t y)<o'.length
              rw [←hid];exact hold
             have hnum:ZaW (Zdj t) o' y=posK (minW t).key o' ((minW t).key ((minW t).step i x s)):=by
              rw [hto]
              show ZaW (Zdj t) o' y=posK (ZcV t) o' (ZcV t y)
              unfold ZaW
              rw [if_pos hold,hid]
             refine nav ?_
             (refine ζa ?_<;>refine xL 82 (ζh 7 ζw) ?_<;>(refine yL 83 (ζs 7 ζA) fun v83 h=>?_;cases h)<;>refine xL 84 ζd ?_<;>refine xL 85 ζd ?_<;>refine xL 86 ζd ?_<;>refine xL 87 (ζB Zbp) ?_<;>refine Zar 88 ζ1 fun h88 ho88=>?_<;>(refine ζY 302 88 89 ζ1 fun h89 ho89=>?_;refine ζq (ζD (l:=89) 302 rfl rfl) fun _=>?_;first|refine ζq (ζN (l:=302) rfl (ZbP _ (ζT rows++Zap i r) ⟨(i:Nat),(o'.length:Nat),(s:Nat)⟩)) fun _=>?_|refine ζq (ζN (l:=302) rfl (ZbP _ (ζT rows++Zap i r) ⟨(i:Nat),(ZaW (Zdj t) o' y:Nat),(s:Nat)⟩)) fun _=>?_)<;>refine xL 90 (ζh 7 ζw) ?_<;>refine Zc1 7 ζA ZaP ?_<;>refine ζb (nav ?_)<;>try dsimp only)
             (refine ζa ?_<;>refine xL 91 ζM ?_<;>refine xL 54 ζd ?_<;>refine ζb (nav ?_)<;>try dsimp only)
             try rw [show (ζT rows++Zap i r)++[(⟨(i:Nat),(o'.length:Nat),(s:Nat)⟩:Mv)]=ζT rows++Zap i (r++[o'.length]) by rw [Zby,hrl2,List.append_assoc]]
             try rw [show (ζT rows++Zap i r)++[(⟨(i:Nat),(ZaW (Zdj t) o' y:Nat),(s:Nat)⟩:Mv)]=ζT rows++Zap i (r++[ZaW (Zdj t) o' y]) by rw [Zby,hrl2,List.append_assoc]]
             first
              | (exact ζl (
                  ⟨(s+1,h89,h81,o'++[y],r++[o'.length]),(by dsimp only;exact (by have h9:=Srch.row_snoc hW (Zbd hnew2 hroom);rwa [hto] at h9)),(by dsimp only;omega),ho89,ho81⟩
                  ) (by dsimp only;omega) ⟨rfl,rfl,rfl,rfl,rfl,rfl,rfl,rfl,rfl,rfl,rfl,trivial⟩ ⟨rfl,rfl,rfl,rfl,rfl,rfl,rfl,trivial⟩)
              | (exact ζl (
                  ⟨(s+1,h89,hO',o',r++[ZaW (Zdj t) o' y]),(by dsimp only;rw [hnum];exact Srch.row_snoc hW (Zbc hold2)),(by dsimp only;omega),ho89,hO'o⟩
                  ) (by dsimp only;omega) ⟨rfl,rfl,rfl,rfl,rfl,rfl,rfl,rfl,rfl,rfl,rfl,trivial⟩ ⟨rfl,rfl,rfl,rfl,rfl,rfl,rfl,trivial⟩)))
       · first
         |exact Bool.noConfusion hb55
         | (
          have hsm:s=t.m:=by omega
          subst hsm
          have hU2:=Srch.upto_snoc hU hx hW
          rw [show ζT rows++Zap i r=ζT (rows++[r]) by rw [Zhr,hRl]]
          rw [ZeX hpr (i+1) (by omega)]
          refine nav ?_
          (refine ζa ?_<;>refine xL 29 ζd ?_<;>refine xL 30 ζM ?_<;>refine xL 8 ζc ?_<;>refine ζb (nav ?_)<;>try dsimp only)
          first
           | (exact ζl (
               ⟨(i+1,h43,hM',hO',o',rows++[r]),hU2,(by dsimp only;have:=hpr.length_le;omega),ho43,hM'o,hO'o⟩
               ) (by dsimp only;omega) ⟨rfl,rfl,rfl,rfl,rfl,rfl,rfl,rfl,trivial⟩ ⟨rfl,rfl,rfl,rfl,rfl,rfl,rfl,trivial⟩)
           | (exact ζl (
               ⟨(i+1,hF,hM',hO',o',rows++[r]),hU2,(by dsimp only;have:=hpr.length_le;omega),hFo,hM'o,hO'o⟩
               ) (by dsimp only;omega) ⟨rfl,rfl,rfl,rfl,rfl,rfl,rfl,rfl,trivial⟩ ⟨rfl,rfl,rfl,rfl,rfl,rfl,rfl,trivial⟩)))
    · first
      |exact Bool.noConfusion hb38
      | (
       rw [if_neg (by simpa using hb38),List.append_nil] at hL1
       refine nav ?_
       (refine ζ4 (fun i=>([]:List Nat).elem i) [1,303] (by kernel_rfl) ?_<;>refine xD 0 45 rfl (ζh 1 ZaV) ?_<;>(refine yD 1 46 rfl (ζs 1 ZbB) fun v46 h=>?_;cases h)<;>refine xD 2 47 rfl ζd ?_<;>refine xD 3 48 rfl ζd ?_<;>refine xD 4 49 rfl (Zaw 303 ζn) ?_<;>(refine yD 5 50 rfl (ζs 303 ζj) fun v50 h=>?_;cases h)<;>refine xD 6 51 rfl (ζJ Zam) ?_<;>(refine yD 7 52 rfl (Za3 ζx) fun v52 h=>?_;cases h)<;>refine xD 8 53 rfl (ζV ζn) ?_<;>refine xE 9 54 rfl ζd ?_<;>refine ZaM (by kernel_rfl) (nav ?_)<;>try dsimp only)
       rw [←hL1]
       rw [show ζT rows=ζT rows++Zap i ([]:List Nat) from (List.append_nil _).symm]
       refine ζy (ι:={q:Nat×Value×Value×List Nat×List Nat//(minW t).row i x o q.1=some (q.2.2.2.1,q.2.2.2.2)∧q.1≤t.m∧q.2.1.oneCell'=true∧q.2.2.1.oneCell'=true}) (fun k=>⟨[(1,_,_),(2,_,_),(3,_,_),(4,_,_),(5,_,_),(7,_,_),(8,_,_),(52,_,_),(53,_,_),(6,k.1.2.2.1, .val k.1.2.2.1),(54, .int .i64 k.1.1,pInt k.1.1)],[(1,_,_),(2,_,_),(301,_,_),(7,h7, .own 39 5 1 [pInt 0,pInt (t.m:Nat),pInts [0],_, .val k.1.2.1]),(302,k.1.2.1, .own 93 3 (ζT rows++Zap i k.1.2.2.2.2).length ((ζT rows++Zap i k.1.2.2.2.2).flatMap cMv)),(303,k.1.2.2.1, .own 3 1 k.1.2.2.2.1.length ((toI k.1.2.2.2.1).map pInt)),(304,h15, .omap (ikv (Zbv (Zdj t) 0 k.1.2.2.2.1)))]⟩) (fun k=>t.m-k.1.1) ⟨(0,hM,hO,o,[]),rfl,Nat.zero_le _,hMo,hOo⟩ (fun a w H=>H.weaken ⟨rfl,rfl,rfl,rfl,rfl,rfl,rfl,rfl,rfl,rfl,rfl,trivial⟩ ⟨rfl,rfl,rfl,rfl,rfl,rfl,rfl,trivial⟩) ?_
       rintro ⟨⟨s,hM',hO',o',r⟩,hW,hs,hM'o,hO'o⟩
       dsimp only
       dsimp only at hW hs hM'o hO'o
       obtain ⟨hMt,hpr,hrl2,_⟩:=hOk.toMet.row (fun s _=>Zb8 ht) (show s≤(minW t).m from hs) hW
       have hcap':o'.length≤t.rows.length:=hMt.cap
       have htl':=Zd7 o'
       have hmr:=ZsE (n:=i) hrw hm1 (by omega) (show r.length≤t.m by omega)
       refine nav ?_
       (refine ζa ?_<;>refine xL 55 ζS ?_<;>refine ζb (nav ?_)<;>try dsimp only)
       (first|refine cCd ?_ ?_|refine cC ?_ ?_)<;>intro hb55
       · first
         |exact Bool.noConfusion hb55
         | (
          obtain ⟨y,hy⟩:=ζm (show s<row.length by omega)
          have hyn:=hrt y (List.mem_of_getElem? hy)
          have e4:((toI row).map pInt)[s*1]? =some (pInt (y:Nat)):=by rw [Nat.mul_one,List.getElem?_map];unfold toI;rw [List.getElem?_map,hy];rfl
          have e5:=Zhn (fun s=>pInt (ZcV t s:Nat)) hyn
          have hto:(minW t).step i x s=y:=ZiI hrow hy
          have hid:=ZsD t o' y
          refine nav ?_
          (refine ζa ?_<;>refine xL 56 ζd ?_<;>refine xL 57 (ζJ ζn) ?_<;>(refine yL 58 (Za3 ζj) fun v58 h=>?_;cases h)<;>refine xL 9 ζc ?_<;>refine xL 10 ζc ?_<;>refine ζb (nav ?_)<;>try dsimp only)
          (refine ζa ?_<;>refine xL 60 ζd ?_<;>refine xL 61 ζd ?_<;>refine xL 62 ζd ?_<;>refine xL 63 (ζJ ζn) ?_<;>(refine yL 64 (Za3 ζj) fun v64 h=>?_;cases h)<;>refine xL 65 (ZsC (f:=Zdj t) (L:=o') (a:=y) 304 Zdi rfl rfl) ?_<;>refine xL 59 ζd ?_<;>refine xL 66 ζf ?_<;>refine xL 67 ζf ?_<;>refine xL 11 ζc ?_<;>refine xL 12 ζc ?_<;>refine ζb (nav ?_)<;>try dsimp only)
          (refine ζa ?_<;>refine xL 68 ζd ?_<;>refine xL 69 Zak ?_<;>refine ζb (nav ?_)<;>try dsimp only)
          (first|refine cCd ?_ ?_|refine cC ?_ ?_)<;>intro hb69
          · first
            |exact Bool.noConfusion hb69
            | (
             have hnew:¬posK (Zdj t) o' (Zdj t y)<o'.length:=by simpa using hb69
             have hnew2:¬posK (minW t).key o' ((minW t).key ((minW t).step i x s))<o'.length:=by
              rw [hto]
              show ¬posK (ZcV t) o' (ZcV t y)<o'.length
              rw [←hid];exact hnew
             have hroom:=Zhq ht hMt (show (minW t).step i x s<t.rows.length by rw [hto];exact hyn) hnew2
             refine nav ?_
             (refine ζa ?_<;>refine xL 70 ζd ?_<;>refine xL 71 (ZaC 303 ζn) ?_<;>refine xL 11 ζc ?_<;>refine ζb (nav ?_)<;>try dsimp only)
             (refine ζa ?_<;>refine xL 72 ζd ?_<;>refine xL 73 ζd ?_<;>refine xL 74 ζd ?_<;>refine xL 75 (ζJ ζn) ?_<;>(refine yL 76 (Za3 ζj) fun v76 h=>?_;cases h)<;>refine xL 77 ζd ?_<;>(refine ZgT 304 Zdi ?_;rw [show Ze5 (ikv (Zbv (Zdj t) 0 o')) (.int .i64 ((ZcV t y:Nat):Int)) (.int .i64 ((o'.length:Nat):Int))=ikv (Zbv (Zdj t) 0 (o'++[y])) from Zo0 hnew])<;>refine ζb (nav ?_)<;>try dsimp only)
             (refine ζa ?_<;>refine xL 78 ζd ?_<;>refine xL 79 ζd ?_<;>refine ζI (kk:=1) 80 ζi fun h80 ho80=>?_<;>(refine ζY 303 80 81 ζi fun h81 ho81=>?_;refine ζq (ζD (l:=81) 303 rfl rfl) fun _=>?_;refine ζq (ζN (l:=303) rfl (ZjU _ o' y)) fun _=>?_)<;>refine xL 6 ζc ?_<;>refine ζb (nav ?_)<;>try dsimp only)
             (refine ζa ?_<;>refine xL 82 (ζh 7 ζw) ?_<;>(refine yL 83 (ζs 7 ζA) fun v83 h=>?_;cases h)<;>refine xL 84 ζd ?_<;>refine xL 85 ζd ?_<;>refine xL 86 ζd ?_<;>refine xL 87 (ζB Zbp) ?_<;>refine Zar 88 ζ1 fun h88 ho88=>?_<;>(refine ζY 302 88 89 ζ1 fun h89 ho89=>?_;refine ζq (ζD (l:=89) 302 rfl rfl) fun _=>?_;first|refine ζq (ζN (l:=302) rfl (ZbP _ (ζT rows++Zap i r) ⟨(i:Nat),(o'.length:Nat),(s:Nat)⟩)) fun _=>?_|refine ζq (ζN (l:=302) rfl (ZbP _ (ζT rows++Zap i r) ⟨(i:Nat),(ZaW (Zdj t) o' y:Nat),(s:Nat)⟩)) fun _=>?_)<;>refine xL 90 (ζh 7 ζw) ?_<;>refine Zc1 7 ζA ZaP ?_<;>refine ζb (nav ?_)<;>try dsimp only)
             (refine ζa ?_<;>refine xL 91 ζM ?_<;>refine xL 54 ζd ?_<;>refine ζb (nav ?_)<;>try dsimp only)
             try rw [show (ζT rows++Zap i r)++[(⟨(i:Nat),(o'.length:Nat),(s:Nat)⟩:Mv)]=ζT rows++Zap i (r++[o'.length]) by rw [Zby,hrl2,List.append_assoc]]
             try rw [show (ζT rows++Zap i r)++[(⟨(i:Nat),(ZaW (Zdj t) o' y:Nat),(s:Nat)⟩:Mv)]=ζT rows++Zap i (r++[ZaW (Zdj t) o' y]) by rw [Zby,hrl2,List.append_assoc]]
             first
              | (exact ζl (
                  ⟨(s+1,h89,h81,o'++[y],r++[o'.length]),(by dsimp only;exact (by have h9:=Srch.row_snoc hW (Zbd hnew2 hroom);rwa [hto] at h9)),(by dsimp only;omega),ho89,ho81⟩
                  ) (by dsimp only;omega) ⟨rfl,rfl,rfl,rfl,rfl,rfl,rfl,rfl,rfl,rfl,rfl,trivial⟩ ⟨rfl,rfl,rfl,rfl,rfl,rfl,rfl,trivial⟩)
              | (exact ζl (
                  ⟨(s+1,h89,hO',o',r++[ZaW (Zdj t) o' y]),(by dsimp only;rw [hnum];exact Srch.row_snoc hW (Zbc hold2)),(by dsimp only;omega),ho89,hO'o⟩
                  ) (by dsimp only;omega) ⟨rfl,rfl,rfl,rfl,rfl,rfl,rfl,rfl,rfl,rfl,rfl,trivial⟩ ⟨rfl,rfl,rfl,rfl,rfl,rfl,rfl,trivial⟩))
          · first
            |exact Bool.noConfusion hb69
            | (
             have hold:posK (Zdj t) o' (Zdj t y)<o'.length:=by simpa using hb69
             have hold2:posK (minW t).key o' ((minW t).key ((minW t).step i x s))<o'.length:=by
              rw [hto]
              show posK (ZcV t) o' (ZcV t y)<o'.length
              rw [←hid];exact hold
             have hnum:ZaW (Zdj t) o' y=posK (minW t).key o' ((minW t).key ((minW t).step i x s)):=by
              rw [hto]
              show ZaW (Zdj t) o' y=posK (ZcV t) o' (ZcV t y)
              unfold ZaW
              rw [if_pos hold,hid]
             refine nav ?_
             (refine ζa ?_<;>refine xL 82 (ζh 7 ζw) ?_<;>(refine yL 83 (ζs 7 ζA) fun v83 h=>?_;cases h)<;>refine xL 84 ζd ?_<;>refine xL 85 ζd ?_<;>refine xL 86 ζd ?_<;>refine xL 87 (ζB Zbp) ?_<;>refine Zar 88 ζ1 fun h88 ho88=>?_<;>(refine ζY 302 88 89 ζ1 fun h89 ho89=>?_;refine ζq (ζD (l:=89) 302 rfl rfl) fun _=>?_;first|refine ζq (ζN (l:=302) rfl (ZbP _ (ζT rows++Zap i r) ⟨(i:Nat),(o'.length:Nat),(s:Nat)⟩)) fun _=>?_|refine ζq (ζN (l:=302) rfl (ZbP _ (ζT rows++Zap i r) ⟨(i:Nat),(ZaW (Zdj t) o' y:Nat),(s:Nat)⟩)) fun _=>?_)<;>refine xL 90 (ζh 7 ζw) ?_<;>refine Zc1 7 ζA ZaP ?_<;>refine ζb (nav ?_)<;>try dsimp only)
             (refine ζa ?_<;>refine xL 91 ζM ?_<;>refine xL 54 ζd ?_<;>refine ζb (nav ?_)<;>try dsimp only)
             try rw [show (ζT rows++Zap i r)++[(⟨(i:Nat),(o'.length:Nat),(s:Nat)⟩:Mv)]=ζT rows++Zap i (r++[o'.length]) by rw [Zby,hrl2,List.append_assoc]]
             try rw [show (ζT rows++Zap i r)++[(⟨(i:Nat),(ZaW (Zdj t) o' y:Nat),(s:Nat)⟩:Mv)]=ζT rows++Zap i (r++[ZaW (Zdj t) o' y]) by rw [Zby,hrl2,List.append_assoc]]
             first
              | (exact ζl (
                  ⟨(s+1,h89,h81,o'++[y],r++[o'.length]),(by dsimp only;exact (by have h9:=Srch.row_snoc hW (Zbd hnew2 hroom);rwa [hto] at h9)),(by dsimp only;omega),ho89,ho81⟩
                  ) (by dsimp only;omega) ⟨rfl,rfl,rfl,rfl,rfl,rfl,rfl,rfl,rfl,rfl,rfl,trivial⟩ ⟨rfl,rfl,rfl,rfl,rfl,rfl,rfl,trivial⟩)
              | (exact ζl (
                  ⟨(s+1,h89,hO',o',r++[ZaW (Zdj t) o' y]),(by dsimp only;rw [hnum];exact Srch.row_snoc hW (Zbc hold2)),(by dsimp only;omega),ho89,hO'o⟩
                  ) (by dsimp only;omega) ⟨rfl,rfl,rfl,rfl,rfl,rfl,rfl,rfl,rfl,rfl,rfl,trivial⟩ ⟨rfl,rfl,rfl,rfl,rfl,rfl,rfl,trivial⟩)))
       · first
         |exact Bool.noConfusion hb55
         | (
          have hsm:s=t.m:=by omega
          subst hsm
          have hU2:=Srch.upto_snoc hU hx hW
          rw [show ζT rows++Zap i r=ζT (rows++[r]) by rw [Zhr,hRl]]
          rw [ZeX hpr (i+1) (by omega)]
          refine nav ?_
          (refine ζa ?_<;>refine xL 29 ζd ?_<;>refine xL 30 ζM ?_<;>refine xL 8 ζc ?_<;>refine ζb (nav ?_)<;>try dsimp only)
          first
           | (exact ζl (
               ⟨(i+1,h43,hM',hO',o',rows++[r]),hU2,(by dsimp only;have:=hpr.length_le;omega),ho43,hM'o,hO'o⟩
               ) (by dsimp only;omega) ⟨rfl,rfl,rfl,rfl,rfl,rfl,rfl,rfl,trivial⟩ ⟨rfl,rfl,rfl,rfl,rfl,rfl,rfl,trivial⟩)
           | (exact ζl (
               ⟨(i+1,hF,hM',hO',o',rows++[r]),hU2,(by dsimp only;have:=hpr.length_le;omega),hFo,hM'o,hO'o⟩
               ) (by dsimp only;omega) ⟨rfl,rfl,rfl,rfl,rfl,rfl,rfl,rfl,trivial⟩ ⟨rfl,rfl,rfl,rfl,rfl,rfl,rfl,trivial⟩))))
 · first
   |exact Bool.noConfusion hb28
   | (
    have hio:i=o.length:=by omega
    subst hio
    have hA:=Srch.all_some hU (Nat.le_refl _) (show o.length≤(minW t).cap from hcap)
    refine nav ?_
    (refine ζa ?_<;>refine xL 92 ζd ?_<;>refine xL 93 (ZaC 303 ζn) ?_<;>refine xL 94 (ζh 7 ζP) ?_<;>refine Zc1 7 ζj Zbq ?_<;>refine ζb (nav ?_)<;>try dsimp only)
    (refine ζa ?_<;>refine xL 95 (ζh 7 ζw) ?_<;>(refine yL 96 (ζs 7 ζA) fun v96 h=>?_;cases h)<;>refine xL 97 (ZaC 302 ζG) ?_<;>refine xL 98 ZaH ?_<;>refine ζb (nav ?_)<;>try dsimp only)
    (first|refine cCd ?_ ?_|refine cC ?_ ?_)<;>intro hb98
    · first
      |exact Bool.noConfusion hb98
      | (
       refine nav ?_
       (refine ζa ?_<;>refine xL 99 (ζB ζK) ?_<;>refine ζC 2 ζg ?_<;>refine xL 3 ζc ?_<;>refine ζb (nav ?_)<;>try dsimp only)
       refine ζ6 (k:=5) 2 (by kernel_rfl) (Tryz.results186) rfl rfl rfl (Nat.le_of_ble_eq_true rfl) (by decide) rfl ?_
       unfold Zbz
       rw [hA,Option.bind_some,if_pos (by dsimp only;omega)];rfl)
    · first
      |exact Bool.noConfusion hb98
      | (
       refine nav ?_
       refine ζv (Zaj (l:=7) (l':=301) (j:=3) rfl rfl rfl rfl) fun _=>?_
       refine ζv (Zaj (l:=7) (l':=302) (j:=4) rfl rfl rfl rfl) fun _=>?_
       rw [ζL _ _ _ rfl,ZhE _ _ _ rfl]
       (refine ζa ?_<;>(refine yL 100 (ζp 7 ζg) fun v100 h=>?_;cases h)<;>refine ζC 2 ζg ?_<;>refine xL 3 ζc ?_<;>refine ζb (nav ?_)<;>try dsimp only)
       refine ζ6 (k:=5) 2 (by kernel_rfl) (Tryz.results186) rfl rfl rfl (Nat.le_of_ble_eq_true rfl) (by decide) rfl ?_
       unfold Zbz
       rw [hA,Option.bind_some,if_neg (by dsimp only;omega)];rfl))
theorem Zu3 {a:Aut} (h:2000<a.n∨20000<a.moves.length):Zsi a= .error 13:=by unfold Zsi;rw [if_pos h]
theorem ZxP {a:Aut} (h:¬(2000<a.n∨20000<a.moves.length)):Zsi a=ZcS a:=by unfold Zsi;rw [if_neg h]
theorem ZsF (x:Option Aut):(∃A,x=some A∧resW (lim x)= .tup [ζW A,pInt 0])∨(x=none∧resW (lim x)= .tup [Zia,pInt 13]):=by
 cases x with
 |none=>exact .inr ⟨rfl,rfl⟩
 |some A=>exact .inl ⟨A,rfl,rfl⟩
theorem ZlA (x:Except Int Aut):(∃A,x= .ok A∧resW x= .tup [ζW A,pInt 0])∨(∃e,x= .error e∧resW x= .tup [Zia,pInt e]):=by
 cases x with
 |error e=>exact .inr ⟨e,rfl,rfl⟩
 |ok A=>exact .inl ⟨A,rfl,rfl⟩
theorem ZsG {a:Aut} {t:Tab} (h:Zgv a=some t):ZcS a=lim (Zbz t):=by unfold ZcS;rw [h]
theorem ZsH {a:Aut} (h:Zgv a=none):ZcS a= .error 13:=by unfold ZcS;rw [h]
theorem ZlB (a:Aut) (hl:a.moves.length≤1000000) (hb:2000<a.n∨20000<a.moves.length):AF Tryz.prog 132 [ζW a] (· = .tup [Zia,pInt 13]):=by
 refine AF.of_body 28 Tryz.func132 rfl Tryz.ntmps132 (Nat.le_of_ble_eq_true rfl) ?_
 intro w0 M0 vs hl hv
 obtain ⟨v0,rfl⟩:=ZdL hl
 clear hl hv
 refine nav ?_
 (refine ζa ?_<;>refine ζE 1 5 fun h1=>?_<;>refine ζr [(.int .i64 0),(.int .i64 0),(.slice none 0 0),(.slice none 0 0),(.slice none 0 0)] 5 2 ζz fun h2=>?_<;>refine xL 3 ζc ?_<;>refine ζb (nav ?_)<;>try dsimp only)
 (refine ζa ?_<;>refine xL 6 (ζh 1 ζP) ?_<;>(refine yL 7 (ζs 1 ζj) fun v7 h=>?_;cases h)<;>refine xL 8 ZaH ?_<;>refine xL 9 ζd ?_<;>(refine bLd 9 (fun hb9=>?_) (fun hb9=>?_)<;>(first|refine kL 10 ?_|refine xL 10 (ζh 1 ζw) ?_))<;>(first|refine kL 11 ?_|(refine yL 11 (ζs 1 ζA) fun v11 h=>?_;cases h))<;>(first|refine kL 12 ?_|refine xL 12 (ζV ζG) ?_)<;>(first|refine kL 13 ?_|refine xL 13 ZaH ?_)<;>refine xL 14 ζF ?_<;>refine ζb (nav ?_)<;>try dsimp only)<;>(
  (first|refine cCd ?_ ?_|refine cC ?_ ?_)<;>intro hb14
  · refine nav ?_
    (refine ζa ?_<;>refine xL 15 (ζB ζK) ?_<;>refine ζC 2 ζg ?_<;>refine xL 3 ζc ?_<;>refine ζb (nav ?_)<;>try dsimp only)
    exact ζ6 (k:=5) 2 (by kernel_rfl) (Tryz.results132) rfl rfl rfl (Nat.le_of_ble_eq_true rfl) (by decide) rfl rfl
  · exfalso
    first
     |omega
     |(simp at hb14;done)
     |(simp at hb14;omega))
theorem ZjV (a:Aut) (h:AOk a) (hs:Zgv a=none):AF Tryz.prog 132 [ζW a] (· = .tup [Zia,pInt 13]):=by
 have hn1:=h.n1
 have hml:=h.ml
 have hS:AF Tryz.prog 185 [ζW a] (fun p=>∃i:{i:Value×Value×Value//i.1.oneCell'=true∧i.2.1.oneCell'=true∧i.2.2.oneCell'=true},p= .tup [.agg [.val i.1.1, .val i.1.2.1, .val i.1.2.2],ζO false]):=(ZfY a h).mono fun p hp=>by
  rcases hp with ⟨t,h1,_⟩|⟨_,u1,u2,u3,o1,o2,o3,h2⟩
  · rw [hs] at h1;cases h1
  · exact ⟨⟨(u1,u2,u3),o1,o2,o3⟩,h2⟩
 refine AF.of_body 28 Tryz.func132 rfl Tryz.ntmps132 (Nat.le_of_ble_eq_true rfl) ?_
 intro w0 M0 vs hl hv
 obtain ⟨v0,rfl⟩:=ZdL hl
 clear hl hv
 refine nav ?_
 (refine ζa ?_<;>refine ζE 1 5 fun h1=>?_<;>refine ζr [(.int .i64 0),(.int .i64 0),(.slice none 0 0),(.slice none 0 0),(.slice none 0 0)] 5 2 ζz fun h2=>?_<;>refine xL 3 ζc ?_<;>refine ζb (nav ?_)<;>try dsimp only)
 (refine ζa ?_<;>refine xL 6 (ζh 1 ζP) ?_<;>(refine yL 7 (ζs 1 ζj) fun v7 h=>?_;cases h)<;>refine xL 8 ZaH ?_<;>refine xL 9 ζd ?_<;>(refine bLd 9 (fun hb9=>?_) (fun hb9=>?_)<;>(first|refine kL 10 ?_|refine xL 10 (ζh 1 ζw) ?_))<;>(first|refine kL 11 ?_|(refine yL 11 (ζs 1 ζA) fun v11 h=>?_;cases h))<;>(first|refine kL 12 ?_|refine xL 12 (ζV ζG) ?_)<;>(first|refine kL 13 ?_|refine xL 13 ZaH ?_)<;>refine xL 14 ζF ?_<;>refine ζb (nav ?_)<;>try dsimp only)<;>(
  (first|refine cCd ?_ ?_|refine cC ?_ ?_)<;>intro hb14
  · exfalso
    first
     |omega
     |(simp at hb14;done)
     |(simp at hb14;omega)
  · refine nav ?_
    (refine ζa ?_<;>(refine yL 17 (ζp 1 ζg) fun v17 h=>?_;cases h)<;>(refine cPx 18 (cA Tryz.call185 hS) (fun i va18 vb18 hva18 hvb18=>?_) (fun _=>rfl);cases hvb18;obtain ⟨⟨u1,u2,u3⟩,o1,o2,o3⟩:=i;dsimp only at o1 o2 o3 hva18 ⊢;have q1:En.one (PV.val u1)=true:=o1;have q2:En.one (PV.val u2)=true:=o2;have q3:En.one (PV.val u3)=true:=o3)<;>refine xL 16 ζd ?_<;>refine xL 19 ζf ?_<;>refine xL 20 ζf ?_<;>refine ζr [(.int .i64 0),(.slice none 0 0),(.slice none 0 0)] 3 4 Zdh fun h4=>?_<;>refine ζC 4 ZaL ?_<;>refine xL 5 ζc ?_<;>refine ζb (nav ?_)<;>try dsimp only)
    (refine ζa ?_<;>refine xL 21 ζd ?_<;>refine xL 22 Zak ?_<;>refine ζb (nav ?_)<;>try dsimp only)
    refine cCt ?_
    refine nav ?_
    (refine ζa ?_<;>refine xL 23 (ζB ζK) ?_<;>refine ζC 2 ζg ?_<;>refine xL 3 ζc ?_<;>refine ζb (nav ?_)<;>try dsimp only)
    exact ζ6 (k:=5) 2 (by kernel_rfl) (Tryz.results132) rfl rfl rfl (Nat.le_of_ble_eq_true rfl) (by decide) rfl rfl)
theorem Zm5 (a:Aut) (h:AOk a) {t:Tab} (hs:Zgv a=some t) {A:Aut} (hm:AF Tryz.prog 186 [Zwy t] (· = .tup [ζW A,pInt 0])):AF Tryz.prog 132 [ζW a] (· = .tup [ζW A,pInt 0]):=by
 have hn1:=h.n1
 have hml:=h.ml
 have hS:AF Tryz.prog 185 [ζW a] (· = .tup [Zwy t,ζO true]):=(ZfY a h).mono fun p hp=>by
  rcases hp with ⟨t',h1,h2⟩|⟨h1,_⟩
  · rw [hs] at h1;cases h1;exact h2
  · rw [hs] at h1;cases h1
 refine AF.of_body 28 Tryz.func132 rfl Tryz.ntmps132 (Nat.le_of_ble_eq_true rfl) ?_
 intro w0 M0 vs hl hv
 obtain ⟨v0,rfl⟩:=ZdL hl
 clear hl hv
 refine nav ?_
 (refine ζa ?_<;>refine ζE 1 5 fun h1=>?_<;>refine ζr [(.int .i64 0),(.int .i64 0),(.slice none 0 0),(.slice none 0 0),(.slice none 0 0)] 5 2 ζz fun h2=>?_<;>refine xL 3 ζc ?_<;>refine ζb (nav ?_)<;>try dsimp only)
 (refine ζa ?_<;>refine xL 6 (ζh 1 ζP) ?_<;>(refine yL 7 (ζs 1 ζj) fun v7 h=>?_;cases h)<;>refine xL 8 ZaH ?_<;>refine xL 9 ζd ?_<;>(refine bLd 9 (fun hb9=>?_) (fun hb9=>?_)<;>(first|refine kL 10 ?_|refine xL 10 (ζh 1 ζw) ?_))<;>(first|refine kL 11 ?_|(refine yL 11 (ζs 1 ζA) fun v11 h=>?_;cases h))<;>(first|refine kL 12 ?_|refine xL 12 (ζV ζG) ?_)<;>(first|refine kL 13 ?_|refine xL 13 ZaH ?_)<;>refine xL 14 ζF ?_<;>refine ζb (nav ?_)<;>try dsimp only)<;>(
  (first|refine cCd ?_ ?_|refine cC ?_ ?_)<;>intro hb14
  · exfalso
    first
     |omega
     |(simp at hb14;done)
     |(simp at hb14;omega)
  · refine nav ?_
    (refine ζa ?_<;>(refine yL 17 (ζp 1 ζg) fun v17 h=>?_;cases h)<;>(refine cP 18 (cA Tryz.call185 (hS)) fun va18 vb18 hva18 h=>?_;cases h)<;>refine xL 16 ζd ?_<;>refine xL 19 ζf ?_<;>refine xL 20 ζf ?_<;>refine ζr [(.int .i64 0),(.slice none 0 0),(.slice none 0 0)] 3 4 Zdh fun h4=>?_<;>refine ζC 4 ZaL ?_<;>refine xL 5 ζc ?_<;>refine ζb (nav ?_)<;>try dsimp only)
    (refine ζa ?_<;>refine xL 21 ζd ?_<;>refine xL 22 Zak ?_<;>refine ζb (nav ?_)<;>try dsimp only)
    refine cCf ?_
    refine nav ?_
    (refine ζa ?_<;>(refine yL 24 (ζp 4 ZaL) fun v24 h=>?_;cases h)<;>(refine cP 25 (cA Tryz.call186 (hm)) fun va25 vb25 hva25 h=>?_;cases h)<;>refine xL 26 ζf ?_<;>refine xL 27 ζf ?_<;>refine ζC 2 ζg ?_<;>refine xL 3 ζc ?_<;>refine ζb (nav ?_)<;>try dsimp only)
    exact ζ6 (k:=5) 2 (by kernel_rfl) (Tryz.results132) rfl rfl rfl (Nat.le_of_ble_eq_true rfl) (by decide) rfl rfl)
theorem ZlC (a:Aut) (h:AOk a) {t:Tab} (hs:Zgv a=some t) (hm:AF Tryz.prog 186 [Zwy t] (· = .tup [Zia,pInt 13])):AF Tryz.prog 132 [ζW a] (· = .tup [Zia,pInt 13]):=by
 have hn1:=h.n1
 have hml:=h.ml
 have hS:AF Tryz.prog 185 [ζW a] (· = .tup [Zwy t,ζO true]):=(ZfY a h).mono fun p hp=>by
  rcases hp with ⟨t',h1,h2⟩|⟨h1,_⟩
  · rw [hs] at h1;cases h1;exact h2
  · rw [hs] at h1;cases h1
 refine AF.of_body 28 Tryz.func132 rfl Tryz.ntmps132 (Nat.le_of_ble_eq_true rfl) ?_
 intro w0 M0 vs hl hv
 obtain ⟨v0,rfl⟩:=ZdL hl
 clear hl hv
 refine nav ?_
 (refine ζa ?_<;>refine ζE 1 5 fun h1=>?_<;>refine ζr [(.int .i64 0),(.int .i64 0),(.slice none 0 0),(.slice none 0 0),(.slice none 0 0)] 5 2 ζz fun h2=>?_<;>refine xL 3 ζc ?_<;>refine ζb (nav ?_)<;>try dsimp only)
 (refine ζa ?_<;>refine xL 6 (ζh 1 ζP) ?_<;>(refine yL 7 (ζs 1 ζj) fun v7 h=>?_;cases h)<;>refine xL 8 ZaH ?_<;>refine xL 9 ζd ?_<;>(refine bLd 9 (fun hb9=>?_) (fun hb9=>?_)<;>(first|refine kL 10 ?_|refine xL 10 (ζh 1 ζw) ?_))<;>(first|refine kL 11 ?_|(refine yL 11 (ζs 1 ζA) fun v11 h=>?_;cases h))<;>(first|refine kL 12 ?_|refine xL 12 (ζV ζG) ?_)<;>(first|refine kL 13 ?_|refine xL 13 ZaH ?_)<;>refine xL 14 ζF ?_<;>refine ζb (nav ?_)<;>try dsimp only)<;>(
  (first|refine cCd ?_ ?_|refine cC ?_ ?_)<;>intro hb14
  · exfalso
    first
     |omega
     |(simp at hb14;done)
     |(simp at hb14;omega)
  · refine nav ?_
    (refine ζa ?_<;>(refine yL 17 (ζp 1 ζg) fun v17 h=>?_;cases h)<;>(refine cP 18 (cA Tryz.call185 (hS)) fun va18 vb18 hva18 h=>?_;cases h)<;>refine xL 16 ζd ?_<;>refine xL 19 ζf ?_<;>refine xL 20 ζf ?_<;>refine ζr [(.int .i64 0),(.slice none 0 0),(.slice none 0 0)] 3 4 Zdh fun h4=>?_<;>refine ζC 4 ZaL ?_<;>refine xL 5 ζc ?_<;>refine ζb (nav ?_)<;>try dsimp only)
    (refine ζa ?_<;>refine xL 21 ζd ?_<;>refine xL 22 Zak ?_<;>refine ζb (nav ?_)<;>try dsimp only)
    refine cCf ?_
    refine nav ?_
    (refine ζa ?_<;>(refine yL 24 (ζp 4 ZaL) fun v24 h=>?_;cases h)<;>(refine cP 25 (cA Tryz.call186 (hm)) fun va25 vb25 hva25 h=>?_;cases h)<;>refine xL 26 ζf ?_<;>refine xL 27 ζf ?_<;>refine ζC 2 ζg ?_<;>refine xL 3 ζc ?_<;>refine ζb (nav ?_)<;>try dsimp only)
    exact ζ6 (k:=5) 2 (by kernel_rfl) (Tryz.results132) rfl rfl rfl (Nat.le_of_ble_eq_true rfl) (by decide) rfl rfl)
theorem Zeu (a:Aut) (h:AOk a):AF Tryz.prog 132 [ζW a] (· =resW (ZcS a)):=by
 rcases hs:Zgv a with _|t
 · rw [ZsH hs];exact ZjV a h hs
 · have hm:=Zql t (ZmT h hs)
   rw [ZsG hs]
   rcases ZsF (Zbz t) with ⟨A,_,h2⟩|⟨_,h2⟩
   · rw [h2] at hm ⊢;exact Zm5 a h hs hm
   · rw [h2] at hm ⊢;exact ZlC a h hs hm
theorem Zqm (a:Aut) (hl:a.moves.length≤1000000) (h:¬(2000<a.n∨20000<a.moves.length)→AOk a):AF Tryz.prog 132 [ζW a] (· =resW (Zsi a)):=by
 by_cases hb:2000<a.n∨20000<a.moves.length
 · rw [Zu3 hb];exact ZlB a hl hb
 · rw [ZxP hb];exact Zeu a (h hb)
theorem ZxQ (e:Int):Rr (.tup [Zia,pInt e]) (.tup [ζW ZA3,pInt e]):=Rr.tup2 (Rr.agg rfl fun i p p' h1 h2=>by
 match i with
 |0=>cases h1;cases h2;exact Rr.rfl' _
 |1=>cases h1;cases h2;exact Rr.rfl' _
 |2=>cases h1;cases h2;exact Rr.nil
 |3=>cases h1;cases h2;exact Rr.nil
 |4=>cases h1;cases h2;exact Rr.nil
 |i+5=>simp at h1)
theorem ZzX {P:Program} {f:Nat} {ps:List PV} {x:Except Int Aut} (h:AF P f ps (· =resW x)):AF P f ps (· =ZBw x):=by
 cases x with
 |ok A=>exact h
 |error e=>exact h.reread rfl (ZxQ e)
theorem ZjW (a:Aut) (hv:ζ5 a=false):AF Tryz.prog 84 [ζW a] (· = .tup [Zia,pInt 1]):=by
 refine AF.of_body 12 Tryz.func84 rfl Tryz.ntmps84 (Nat.le_of_ble_eq_true rfl) ?_
 intro w0 M0 vs hl hv
 obtain ⟨v0,rfl⟩:=ZdL hl
 clear hl hv
 refine nav ?_
 (refine ζa ?_<;>refine ζE 1 5 fun h1=>?_<;>refine ζr [(.int .i64 0),(.int .i64 0),(.slice none 0 0),(.slice none 0 0),(.slice none 0 0)] 5 2 ζz fun h2=>?_<;>refine xL 3 ζc ?_<;>refine ζb (nav ?_)<;>try dsimp only)
 (refine ζa ?_<;>(refine yL 4 (ζp 1 ζg) fun v4 h=>?_;cases h)<;>(refine cS 5 (cA Tryz.call107 (ZaI a)) fun v5 h=>?_;cases h)<;>refine xL 6 Zak ?_<;>refine ζb (nav ?_)<;>try dsimp only)
 (first|refine cCd ?_ ?_|refine cC ?_ ?_)<;>intro hb6
 · refine nav ?_
   (refine ζa ?_<;>refine xL 7 (ζB ζK) ?_<;>refine ζC 2 ζg ?_<;>refine xL 3 ζc ?_<;>refine ζb (nav ?_)<;>try dsimp only)
   exact ζ6 (k:=5) 2 (by kernel_rfl) (Tryz.results84) rfl rfl rfl (Nat.le_of_ble_eq_true rfl) (by decide) rfl rfl
 · rw [hv] at hb6;simp at hb6
theorem ZlD (a:Aut) (hv:ζ5 a=true) {A:Aut} (hm:AF Tryz.prog 132 [ζW a] (· = .tup [ζW A,pInt 0])):AF Tryz.prog 84 [ζW a] (· = .tup [ζW A,pInt 0]):=by
 refine AF.of_body 12 Tryz.func84 rfl Tryz.ntmps84 (Nat.le_of_ble_eq_true rfl) ?_
 intro w0 M0 vs hl hv
 obtain ⟨v0,rfl⟩:=ZdL hl
 clear hl hv
 refine nav ?_
 (refine ζa ?_<;>refine ζE 1 5 fun h1=>?_<;>refine ζr [(.int .i64 0),(.int .i64 0),(.slice none 0 0),(.slice none 0 0),(.slice none 0 0)] 5 2 ζz fun h2=>?_<;>refine xL 3 ζc ?_<;>refine ζb (nav ?_)<;>try dsimp only)
 (refine ζa ?_<;>(refine yL 4 (ζp 1 ζg) fun v4 h=>?_;cases h)<;>(refine cS 5 (cA Tryz.call107 (ZaI a)) fun v5 h=>?_;cases h)<;>refine xL 6 Zak ?_<;>refine ζb (nav ?_)<;>try dsimp only)
 (first|refine cCd ?_ ?_|refine cC ?_ ?_)<;>intro hb6
 · rw [hv] at hb6;simp at hb6
 · refine nav ?_
   (refine ζa ?_<;>(refine yL 8 (ζp 1 ζg) fun v8 h=>?_;cases h)<;>(refine cP 9 (cA Tryz.call132 (hm)) fun va9 vb9 hva9 h=>?_;cases h)<;>refine xL 10 ζf ?_<;>refine xL 11 ζf ?_<;>refine ζC 2 ζg ?_<;>refine xL 3 ζc ?_<;>refine ζb (nav ?_)<;>try dsimp only)
   exact ζ6 (k:=5) 2 (by kernel_rfl) (Tryz.results84) rfl rfl rfl (Nat.le_of_ble_eq_true rfl) (by decide) rfl rfl
theorem ZjX (a:Aut) (hv:ζ5 a=true) {e:Int} (hm:AF Tryz.prog 132 [ζW a] (· = .tup [Zia,pInt e])):AF Tryz.prog 84 [ζW a] (· = .tup [Zia,pInt e]):=by
 refine AF.of_body 12 Tryz.func84 rfl Tryz.ntmps84 (Nat.le_of_ble_eq_true rfl) ?_
 intro w0 M0 vs hl hv
 obtain ⟨v0,rfl⟩:=ZdL hl
 clear hl hv
 refine nav ?_
 (refine ζa ?_<;>refine ζE 1 5 fun h1=>?_<;>refine ζr [(.int .i64 0),(.int .i64 0),(.slice none 0 0),(.slice none 0 0),(.slice none 0 0)] 5 2 ζz fun h2=>?_<;>refine xL 3 ζc ?_<;>refine ζb (nav ?_)<;>try dsimp only)
 (refine ζa ?_<;>(refine yL 4 (ζp 1 ζg) fun v4 h=>?_;cases h)<;>(refine cS 5 (cA Tryz.call107 (ZaI a)) fun v5 h=>?_;cases h)<;>refine xL 6 Zak ?_<;>refine ζb (nav ?_)<;>try dsimp only)
 (first|refine cCd ?_ ?_|refine cC ?_ ?_)<;>intro hb6
 · rw [hv] at hb6;simp at hb6
 · refine nav ?_
   (refine ζa ?_<;>(refine yL 8 (ζp 1 ζg) fun v8 h=>?_;cases h)<;>(refine cP 9 (cA Tryz.call132 (hm)) fun va9 vb9 hva9 h=>?_;cases h)<;>refine xL 10 ζf ?_<;>refine xL 11 ζf ?_<;>refine ζC 2 ζg ?_<;>refine xL 3 ζc ?_<;>refine ζb (nav ?_)<;>try dsimp only)
   exact ζ6 (k:=5) 2 (by kernel_rfl) (Tryz.results84) rfl rfl rfl (Nat.le_of_ble_eq_true rfl) (by decide) rfl rfl
theorem ZhF (a:Aut):AF Tryz.prog 84 [ζW a] (· =resW (Zij a)):=by
 unfold Zij
 cases hv:ζ5 a with
 |false=>rw [if_neg (by simp)];exact ZjW a hv
 | true=>
   rw [if_pos rfl]
   have hm:=Zeu a (Zd0 hv)
   rcases ZlA (ZcS a) with ⟨A,_,h2⟩|⟨e,_,h2⟩
   · rw [h2] at hm ⊢;exact ZlD a hv hm
   · rw [h2] at hm ⊢;exact ZjX a hv hm
section
variable {α:Type}
end
theorem Zo1 {P:Program} {c:Ctx} {sL hP:List (Nat×Ent)} {ops:Array Oper} {Q:Exit→Act→World→Prop} {o:Oper} {rest:List Oper} {fs g k e d l:Nat} {cs:List PV} {h:Value} {q q':PV} {x y:Operand} {ats:Array TypeId} (hS:∀(p:Option Addr) (cap:Nat) (fv:Value) (w:World),Calls P fs #[.slice p 0 cap,fv] w fun e w'=>e= .returned (.tuple #[])∧w'=w)
 (hw:ζX ops sL o=some true) (hd:o.dst=some d) (hdn:d<c.nt) (ho:o.op= .call {callee:= .value (.func fs),args:= #[x,y],argTypes:=ats}) (hc:∀args w,(callFunc fs args).run P w= .ok (.enter fs args) w) (hx:ev sL x=some (h,q)) (hy:ev sL y=some (.func (.func g) #[] #[],q')) (hl:lk hP l=some (h, .own e k 0 cs))
 (kk:aL P c ops Q rest ⟨put d (.tuple #[], .val (.tuple #[])) sL,hP⟩):aL P c ops Q (o::rest) (⟨sL,hP⟩:St):=
 Zas hw fun a w F H=>by
  have hxv:=(H.rd.ev hx).1
  have hyv:=(H.rd.ev hy).1
  obtain ⟨xs,Fs,hrow,_⟩:=(H.tr l _ _ hl).row
  obtain ⟨p,cap,rfl⟩:∃p cap,h= .slice p 0 cap:=by
   rcases Zau hrow with ⟨h1,_⟩|⟨g,cap,h1,_⟩
   · exact ⟨_,_,h1⟩
   · exact ⟨_,_,h1⟩
  unfold Oper.wp
  have hrun:(execOp a.eval o).run P w= .ok (.enter fs #[.slice p 0 cap, .func (.func g) #[] #[]]) w:=by
   have hev:a.eval (.func fs)= .func (.func fs) #[] #[]:=rfl
   simp [execOp,ho,resolve,Deferred.ofValue,hev,invoke,hxv,hyv,hc]
  rw [hrun,Oper.upon_enter]
  refine (hS p cap _ w).mono fun e' w' ⟨he',hw'⟩=>?_
  subst he' hw'
  rw [hd]
  exact kk _ _ ⟨F,H.put hdn (.val _)⟩
theorem ZdA {a b:Mv}:ZeH a b<0↔ZfL a b=true:=by unfold ZfL;rw [decide_eq_true_eq]
theorem ZlE (a:Mv):¬ZeH a a<0:=fun h=>by have:=ZdA.1 h;rw [Zdx] at this;cases this
theorem Zo2 (a b c:Mv) (h1:ZeH a b<0) (h2:ZeH b c<0):ZeH a c<0:=ZdA.2 (Zhs (ZdA.1 h1) (ZdA.1 h2))
theorem Zo3 (a b c:Mv) (h1:¬ZeH a b<0) (h2:¬ZeH b c<0):¬ZeH a c<0:=fun h=>by
 rw [ZdA,Zeq] at h1 h2 h
 omega
def Sorted (l:List Mv):Prop:=∀(i j:Nat) (a b:Mv),i<j→l[i]? =some a→l[j]? =some b→¬ZeH b a<0
theorem Zqn {l:List Mv} (h:Sorted l) (hn:l.Nodup):AscM l:=by
 unfold AscM
 rw [List.pairwise_iff_getElem]
 intro i j hi hj hij
 have h1:=h i j l[i] l[j] hij (List.getElem?_eq_getElem hi) (List.getElem?_eq_getElem hj)
 rw [ZdA] at h1
 cases h2:ZfL l[i] l[j] with
 |true=>rfl
 | false=>
   have h3:=ZjJ h2 (by simpa using h1)
   exact absurd (List.getElem_inj hn |>.1 h3) (by omega)
theorem Zu4 {l:List Mv} (h:AscM l) {k:Nat} {x y:Mv} (hy:l[k]? =some y) (hx:l[k+1]? =some x):eqM x y=false:=by
 have h1:=List.pairwise_iff_getElem.1 h k (k+1) (ζe hy) (ζe hx) (by omega)
 rw [(List.getElem?_eq_some_iff.1 hy).2,(List.getElem?_eq_some_iff.1 hx).2] at h1
 cases h2:eqM x y with
 |false=>rfl
 |true=>rw [Zd6.1 h2,Zdx] at h1;cases h1
theorem ZA5:Tryz.prog.underlying 93=some (.struct (Tryz.prog.fieldsOf 93)):=by kernel_rfl
theorem ZA6:Tryz.prog.stoodInHeld 93=false:=by kernel_rfl
theorem ZA7:Tryz.prog.eqGuardType Tryz.prog.depth 93=false:=by kernel_rfl
def vMv (m:Mv):List Value:=[Value.int .i64 m.src, .int .i64 m.dst, .int .i64 m.sym]
theorem ZhG (x y:Mv) (w:World):(Op.eqFields 9999 (vMv x).toArray (vMv y).toArray (Tryz.prog.fieldsOf 93).toList).run Tryz.prog w= .ok (eqM x y) w:=by
 unfold vMv eqM
 simp only [Program.fieldsOf,Tryz.underlying93]
 simp [Op.eqFields,part,run_equalIn_int w 9998 3 .i64 .i64 x.src y.src Tryz.underlying3,run_equalIn_int w 9998 3 .i64 .i64 x.dst y.dst Tryz.underlying3,run_equalIn_int w 9998 3 .i64 .i64 x.sym y.sym Tryz.underlying3]
 by_cases h1:x.src=y.src<;>by_cases h2:x.dst=y.dst<;>by_cases h3:x.sym=y.sym<;>simp [h1,h2,h3]
theorem Zai (l:List Mv) (hl:l.length≤1000000):AF Tryz.prog 138 [pMvs l] (· = .own 93 3 l.length (l.flatMap cMv)):=by
 refine AF.of_body 8 Tryz.func138 rfl Tryz.ntmps138 (Nat.le_of_ble_eq_true rfl) ?_
 intro w0 M0 vs hl hv
 obtain ⟨v0,rfl⟩:=ZdL hl
 clear hl hv
 have f3:(l.flatMap cMv).length=l.length*3:=flat_len ζ0 l
 have f4:(l.flatMap cMv).all En.one=true:=Zxw l
 refine nav ?_
 (refine ζa ?_<;>refine xL 2 ζc ?_<;>refine ζb (nav ?_)<;>try dsimp only)
 (refine ζa ?_<;>refine xL 3 ζd ?_<;>(refine yL 4 (Zrt ζG) fun v4 hv4=>?_;rcases hv4 with rfl|⟨rfl,hn0⟩)<;>refine ζb (nav ?_)<;>try dsimp only)<;>(
  (first|refine cCd ?_ ?_|refine cC ?_ ?_)<;>intro hb4
  · first
    |exact Bool.noConfusion hb4
    | (
     refine nav ?_
     (refine ζa ?_<;>refine xL 2 ζc ?_<;>refine ζb (nav ?_)<;>try dsimp only)
     have hl0:l=[]:=List.eq_nil_of_length_eq_zero hn0
     subst hl0
     refine Za7 (Zb2 200 93 3 rfl) fun _=>?_
     exact ZcO 200 (Tryz.results138) rfl rfl rfl)
  · first
    |exact Bool.noConfusion hb4
    | (
     refine nav ?_
     (refine ζa ?_<;>refine Zwc 5 ζ1 fun h5 ho5=>?_<;>refine xL 6 ζd ?_<;>refine Ziu 5 7 ζ1 (fun h7 ho7=>?_) f3 f4<;>refine xL 2 ζc ?_<;>refine ζb (nav ?_)<;>try dsimp only)
     refine ZcO 7 (Tryz.results138) rfl rfl ?_
     rw [Nat.zero_add,List.nil_append]))
theorem ZwB:AggT Tryz.prog 93 3=true:=by kernel_rfl
theorem Zo4:Zzp Tryz.prog 188 153 3:=fun enc hk h1 cf hO blk cap d w hcmp hH hblk hsz=>
 AnyQ.slices_SortFunc Tryz.sortMvL 3 (fun w=>AggT.run ZwB w) (fun w=>AggT.size ZwB w) enc hk h1 cf hO 153 #[] blk 0 cap d w (Tryz.call153) hcmp hH hblk hsz
theorem ZhH (p:Option Addr) (cap:Nat) (fv:Value) (w:World):Calls Tryz.prog 188 #[.slice p 0 cap,fv] w fun e w'=>e= .returned (.tuple #[])∧w'=w:=(AnyF.slices_SortFunc_none Tryz.sortMvL p cap fv w).mono fun e w' ⟨h1,h2⟩=>⟨h1,h2⟩
theorem ZlF (x y:Mv) (M:BS) (W:World) (u v:Value) (hu:Shr M W u (.agg (cMv x))) (hv:Shr M W v (.agg (cMv y))):Calls Tryz.prog 153 #[u,v] W fun e w'=>e= .returned (.int .i64 (ZeH x y))∧∃q os',w'=Go.Sort.grow (W.drewN q) os':=(Zhd x y).exact2 hu hv
theorem ZjY (l:List Mv) (hl:l.length≤1000000) (ha:AscM l) (hv:Value):AFh False Tryz.prog 189 [(0,hv, .val hv)] [(1000,hv, .own 93 3 l.length (l.flatMap cMv))] (fun v q h=>v=hv∧q= .val hv∧h=[(1000,hv, .own 93 3 l.length (l.flatMap cMv))]):=by
 refine AFh.of_body 61 Tryz.func189 rfl Tryz.ntmps189 (Nat.le_of_ble_eq_true rfl) rfl ?_
 intro w0 M0 N0
 refine nav ?_
 (refine ζa ?_<;>refine xL 2 ζc ?_<;>refine ζb (nav ?_)<;>try dsimp only)
 (refine ζa ?_<;>refine xL 6 ζd ?_<;>refine xL 7 (ZaC 1000 ζG) ?_<;>refine xL 8 ζS ?_<;>refine ζb (nav ?_)<;>try dsimp only)
 (first|refine cCd ?_ ?_|refine cC ?_ ?_)<;>intro hb8
 · first
   |exact Bool.noConfusion hb8
   | (
    refine nav ?_
    (refine ζa ?_<;>refine xL 9 ζd ?_<;>refine xL 2 ζc ?_<;>refine ζb (nav ?_)<;>try dsimp only)
    exact Zmy [(1000,hv,PV.own 93 3 l.length (l.flatMap cMv))] (Tryz.results189) rfl ⟨rfl,trivial⟩ ⟨rfl,rfl,rfl⟩)
 · first
   |exact Bool.noConfusion hb8
   | (
    refine nav ?_
    (refine ζa ?_<;>refine xL 3 ζc ?_<;>refine ζb (nav ?_)<;>try dsimp only)
    refine ζy (ι:={k:Nat//1≤k∧k≤l.length}) (fun k=>⟨[(0,_,_),(3, .int .i64 k.1,pInt k.1)],[(1000,_,_)]⟩) (fun k=>l.length-k.1) ⟨1,Nat.le_refl _,by omega⟩ (fun a w H=>H.weaken ⟨rfl,rfl,trivial⟩ ⟨rfl,trivial⟩) ?_
    rintro ⟨k1,hk1,hk⟩
    dsimp only
    obtain ⟨k,rfl⟩:∃k,k1=k+1:=⟨k1-1,by omega⟩
    refine nav ?_
    (refine ζa ?_<;>refine xL 10 ζd ?_<;>refine xL 11 ζd ?_<;>refine xL 12 (ZaC 1000 ζG) ?_<;>refine xL 13 ζS ?_<;>refine ζb (nav ?_)<;>try dsimp only)
    (first|refine cCd ?_ ?_|refine cC ?_ ?_)<;>intro hb13
    · first
      |exact Bool.noConfusion hb13
      | (
       obtain ⟨x,hx⟩:=ζm (show k+1<l.length by omega)
       obtain ⟨y,hy⟩:=ζm (show k<l.length by omega)
       have e1:=ζ8 ζ0 l (k+1) x hx
       have e2:=Zaq ζ0 hx
       have e3:((l.flatMap cMv).drop ((((k+1:Nat):Int)-1).toNat*3)).take 3=cMv y:=by rw [show (((k+1:Nat):Int)-1).toNat*3=k*3 by omega];exact ζ8 ζ0 l k y hy
       have e4:=Zaq ζ0 hy
       have hne:=Zu4 ha hy hx
       refine nav ?_
       (refine ζ4 (fun i=>([]:List Nat).elem i) [1000] (by kernel_rfl) ?_<;>refine xD 0 16 rfl ζd ?_<;>refine xD 1 17 rfl ζd ?_<;>refine xD 2 18 rfl (Zaw 1000 ζG) ?_<;>(refine yD 3 19 rfl (ζp 1000 ζR) fun v19 h=>?_;cases h)<;>refine xD 4 20 rfl ζd ?_<;>refine xE 5 21 rfl ζd ?_<;>refine xE 6 22 rfl ZgQ ?_<;>refine xE 7 23 rfl (ZcE 1000 ζG) ?_<;>(refine yE 8 24 rfl (ζp 1000 ζR) fun v24 h=>?_;cases h)<;>refine xE 9 25 rfl ((Zzt (us:=vMv x) (us':=vMv y) ZA5 ZA6 ZA7 (ZhG x y) rfl rfl)) ?_<;>refine ZaM (by kernel_rfl) (nav ?_)<;>try dsimp only)
       (first|refine cCd ?_ ?_|refine cC ?_ ?_)<;>intro hb25
       · rw [hne] at hb25;cases hb25
       · refine nav ?_
         (refine ζa ?_<;>refine xL 14 ζd ?_<;>refine xL 15 ζM ?_<;>refine xL 3 ζc ?_<;>refine ζb (nav ?_)<;>try dsimp only)
         refine ζl (
          ⟨k+1+1,by omega,by omega⟩
          ) (by dsimp only;omega) ⟨rfl,rfl,trivial⟩ ⟨rfl,trivial⟩)
    · first
      |exact Bool.noConfusion hb13
      | (
       refine nav ?_
       (refine ζa ?_<;>refine xL 60 ζd ?_<;>refine xL 2 ζc ?_<;>refine ζb (nav ?_)<;>try dsimp only)
       exact Zmy [(1000,hv,PV.own 93 3 l.length (l.flatMap cMv))] (Tryz.results189) rfl ⟨rfl,trivial⟩ ⟨rfl,rfl,rfl⟩))
theorem ZsI {l r:List Mv} (hp:r.Perm l) (hs:Sorted r) (hn:l.Nodup):r=mkM l:=Zsh (Zqn hs (hp.nodup_iff.2 hn)) fun x=>hp.mem_iff
theorem ZiS {l:List Mv} (hn:l.Nodup):(mkM l).length=l.length:=by
 refine Nat.le_antisymm (ZmW l) ?_
 have : ∀{l:List Mv} {m:List Mv},l.Nodup→(∀x∈l,x∈m)→l.length≤m.length:=fun {l}=>by
  induction l with
  |nil=>intro m _ _;exact Nat.zero_le _
  | cons x l ih=>
    intro m h hm
    rw [List.nodup_cons] at h
    obtain ⟨a,b,rfl⟩:=List.append_of_mem (hm x (List.mem_cons_self ..))
    have:=ih (m:=a++b) h.2 fun y hy=>by
     rcases List.mem_append.1 (hm y (List.mem_cons_of_mem _ hy)) with h1|h1
     · exact List.mem_append_left _ h1
     · rcases List.mem_cons.1 h1 with rfl|h1
       · exact absurd hy h.1
       · exact List.mem_append_right _ h1
    simp only [List.length_append,List.length_cons] at this ⊢
    omega
 exact this hn fun x hx=>Zce.2 hx
structure R5 (p0 p1 p2 p3 p4:PV):Prop where
 o:En.one p0=true∧En.one p1=true∧En.one p2=true∧En.one p3=true∧En.one p4=true
 s:[p0,p1,p2,p3,p4].all isSh=true
 d:shD (.agg [p0,p1,p2,p3,p4])=true
theorem R5.aut (A:Aut):R5 (pInt A.n) (pInt A.syms) (pInts A.start) (pInts A.fin) (pMvs A.moves):=⟨⟨rfl,rfl,rfl,rfl,rfl⟩,rfl,rfl⟩
theorem R5.raw:R5 (pInt 0) (pInt 0) (.val (.slice none 0 0)) (.val (.slice none 0 0)) (.val (.slice none 0 0)):=⟨⟨rfl,rfl,rfl,rfl,rfl⟩,rfl,rfl⟩
theorem R5.t {p0 p1 p2 p3 p4:PV} (h:R5 p0 p1 p2 p3 p4) (E:Int):shD (.tup [.agg [p0,p1,p2,p3,p4],pInt E])=true:=by
 show (shD (.agg [p0,p1,p2,p3,p4])&&(true&&true))=true
 rw [h.d];rfl
theorem Zm6 (a:Aut) (hl:a.moves.length≤1000000) (hnd:a.moves.Nodup) (V hM:Value) (hMo:hM.oneCell'=true) {p0 p1 p2 p3 p4:PV} {E:Int} (h5:R5 p0 p1 p2 p3 p4) (hr:AF Tryz.prog 132 [ζW (mkA a)] (· = .tup [.agg [p0,p1,p2,p3,p4],pInt E])):AFh False Tryz.prog 137 [(0,V, .agg [pInt a.n,pInt a.syms,pInts a.start,pInts a.fin, .val hM])] [(1000,hM, .own 93 3 a.moves.length (a.moves.flatMap cMv))] (fun v q h=>(∃V1:Value,v= .tuple [V1, .int .i64 E].toArray)∧q= .tup [.agg [p0,p1,p2,p3,p4],pInt E]∧h=[]):=by
 obtain ⟨o0,o1,o2,o3,o4⟩:=h5.o
 refine AFh.of_body 15 Tryz.func137 rfl Tryz.ntmps137 (Nat.le_of_ble_eq_true rfl) rfl ?_
 intro w0 M0 N0
 have hone:En.one (PV.val hM)=true:=hMo
 refine nav ?_
 (refine ζa ?_<;>refine ζE 1 5 fun h1=>?_<;>refine ζr [(.int .i64 0),(.int .i64 0),(.slice none 0 0),(.slice none 0 0),(.slice none 0 0)] 5 2 ζz fun h2=>?_<;>refine xL 3 ζc ?_<;>refine ζb (nav ?_)<;>try dsimp only)
 (refine ζa ?_<;>refine xL 4 (ζh 1 ζw) ?_<;>(refine yL 5 (ζs 1 ζA) fun v5 h=>?_;cases h)<;>(rcases Nat.eq_zero_or_pos a.moves.length with h0|h0<;>first|(refine ζq (ζN (l:=1000) (p':= .own 93 3 0 []) rfl (by rw [List.eq_nil_of_length_eq_zero h0];rfl)) fun _=>?_;refine Zo1 (l:=1000) ZhH rfl rfl (Nat.le_of_ble_eq_true rfl) rfl (Tryz.call188) rfl rfl rfl ?_;refine ζq (ζN (l:=1000) (p':= .own 93 3 (mkM a.moves).length ((mkM a.moves).flatMap cMv)) rfl (by rw [List.eq_nil_of_length_eq_zero h0];rfl)) fun _=>?_)|(refine Zrr (l:=1000) (β:=Mv) (f:=cMv) (cmp:=ZeH) (rows:=a.moves) Zo4 ζ0 (by decide) (fun _=>rfl) ZlE Zo2 Zo3 (fun x y M W u v _ _ hu hv=>ZlF x y M W u v hu hv) h0 (by omega) rfl rfl (Nat.le_of_ble_eq_true rfl) rfl (Tryz.call188) rfl rfl rfl (fun rows' hperm hord=>?_);refine ζq (ζN (l:=1000) (p':= .own 93 3 (mkM a.moves).length ((mkM a.moves).flatMap cMv)) rfl (by rw [ZsI hperm hord hnd,ZiS hnd])) fun _=>?_))<;>refine ζb (nav ?_)<;>try dsimp only)<;>(
  (refine ζa ?_<;>refine xL 7 (ζh 1 ζw) ?_<;>(refine yL 8 (ζs 1 ζA) fun v8 h=>?_;cases h)<;>(refine Za4 [(1000,hM,PV.own 93 3 (mkM a.moves).length ((mkM a.moves).flatMap cMv)),(1,_,_),(2,_,_)] ⟨rfl,rfl,rfl,trivial⟩ ?_;refine ZeG [1,2] 9 (Tryz.call189) (ZjY (mkM a.moves) (by have:=ZmW a.moves;omega) (Zdy _) hM) ?_;rintro v9 _ _ ⟨hv9,rfl,rfl⟩;have hv9':=hv9.symm;subst hv9')<;>refine xL 10 (ζh 1 ζw) ?_<;>refine Zc1 1 ζA ZaP ?_<;>refine ζb (nav ?_)<;>try dsimp only)
  refine ζv (Zaj (l:=1) (l':=1000) (j:=4) rfl rfl rfl rfl) fun _=>?_
  rw [ZhE _ _ _ rfl]
  (refine ζa ?_<;>(refine yL 11 (ζp 1 ζg) fun v11 h=>?_;cases h)<;>(refine cP 12 (cA Tryz.call132 hr) (fun va12 vb12 hva12 hvb12=>?_) (hsh:=h5.t E);cases hvb12)<;>refine xL 13 ζf ?_<;>refine xL 14 ζf ?_<;>refine ζC 2 ζg ?_<;>refine xL 3 ζc ?_<;>refine ζb (nav ?_)<;>try dsimp only)
  exact Zrw (k:=5) 2 [] (by kernel_rfl) (Tryz.results137) rfl rfl rfl (Nat.le_of_ble_eq_true rfl) (by decide) h5.s trivial fun V=>⟨⟨V,rfl⟩,rfl,rfl⟩)
theorem Zm7 (a:Aut) (hl:a.moves.length≤1000000) (h:PreA a):AF Tryz.prog 132 [ζW (mkA a)] (· =resW (ZdG a)):=
 Zqm (mkA a) (by have:=ZmW a.moves;show (mkM a.moves).length≤1000000;omega) h.aok
theorem Zev (a:Aut) (hl:a.moves.length≤1000000) (h:PreA a):∃p0 p1 p2 p3 p4 E,R5 p0 p1 p2 p3 p4∧resW (ZdG a)= .tup [.agg [p0,p1,p2,p3,p4],pInt E]∧AF Tryz.prog 132 [ζW (mkA a)] (· = .tup [.agg [p0,p1,p2,p3,p4],pInt E]):=by
 have hr:=Zm7 a hl h
 rcases ZlA (ZdG a) with ⟨A,_,h2⟩|⟨e,_,h2⟩
 · rw [h2] at hr ⊢;exact ⟨_,_,_,_,_,_,R5.aut A,rfl,hr⟩
 · rw [h2] at hr ⊢;exact ⟨_,_,_,_,_,_,R5.raw,rfl,hr⟩
theorem ZiT {α β:Type} {f:α→List β} {m:Nat} (hf:∀x,(f x).length=m):∀(L:List α) (k:Nat),(L.flatMap f).take (k*m)=(L.take k).flatMap f
 |[],k=>by simp
 |x::L,0=>by simp
 | x::L,k+1=>by
   rw [List.take_succ_cons,List.flatMap_cons,List.flatMap_cons,←ZiT hf L k,List.take_append,List.take_of_length_le (by rw [hf,Nat.add_mul];omega),hf,show (k+1)*m-m=k*m by rw [Nat.add_mul];omega]
theorem ZhI:∀{l:List Mv},AscM l→ZaU ZfL l=true
 |[],_=>rfl
 |[_],_=>rfl
 | x::y::l,h=>by
   have h':=List.pairwise_cons.1 h
   rw [ZaU,Bool.and_eq_true]
   exact ⟨h'.1 y (List.mem_cons_self ..),ZhI h'.2⟩
theorem ZlG:∀{l:List Int},Srt l→ZaU ltI l=true
 |[],_=>rfl
 |[_],_=>rfl
 | x::y::l,h=>by
   have h':=List.pairwise_cons.1 h
   rw [ZaU,Bool.and_eq_true]
   exact ⟨by unfold ltI;simpa using h'.1 y (List.mem_cons_self ..),ZlG h'.2⟩
theorem Zu5 {a:Aut} {l:List Int} (h:InS a l) (hs:Srt l):Zjv a.n l=true:=by
 unfold Zjv
 rw [Bool.and_eq_true,List.all_eq_true]
 refine ⟨fun x hx=>?_,ZlG hs⟩
 have:=h x hx
 simp [this.1,this.2]
theorem ZA8 {a:Aut} (h:PreA a) (hs:Srt a.start) (hf:Srt a.fin) (hn:¬2000<a.n) (hm:¬20000<(mkM a.moves).length):ζ5 (mkA a)=true:=by
 have h1:=h.n0
 have h2:=h.s0
 have h3:=h.s1
 unfold ζ5
 simp only [Bool.and_eq_true,decide_eq_true_eq]
 refine ⟨⟨⟨⟨⟨⟨⟨⟨h1,by show a.n≤2000;omega⟩,h2⟩,h3⟩,by show (mkM a.moves).length≤20000;omega⟩,Zu5 h.st hs⟩,Zu5 h.fi hf⟩,?_⟩,ZhI (Zdy _)⟩
 rw [List.all_eq_true]
 intro m hm'
 have hm':m∈mkM a.moves:=hm'
 have:=h.mv m (Zce.1 hm')
 unfold ZrV
 simp only [Bool.and_eq_true,decide_eq_true_eq]
 show ((((0≤m.src∧m.src<a.n)∧0≤m.dst)∧m.dst<a.n)∧-1≤m.sym)∧m.sym<a.syms
 omega
def ZsJ (b:Aut):Except Int Aut:=if 2000<b.n∨20000<b.moves.length then .error 13 else Zij b
theorem ZsK {a:Aut} (h:PreA a) (hs:Srt a.start) (hf:Srt a.fin):ZdG a=ZsJ (mkA a):=by
 unfold ZdG Zsi ZsJ Zij
 show (if 2000<a.n∨20000<(mkM a.moves).length then _ else ZcS (mkA a))=(if 2000<a.n∨20000<(mkM a.moves).length then _ else _)
 by_cases hb:2000<a.n∨20000<(mkM a.moves).length
 · rw [if_pos hb,if_pos hb]
 · rw [if_neg hb,if_neg hb,if_pos (ZA8 h hs hf (fun h=>hb (.inl h)) (fun h=>hb (.inr h)))]
section
variable {a b:Aut}
theorem Zo5 {n:Int} {l:List Int} (h:Srt l):Srt (ZcT n l):=List.pairwise_map.2 (h.imp fun h=>by omega)
theorem Zu6 (ha:VOk a) (hb:VOk b) (hs:a.syms=b.syms):ZdG (Zer a b)=ZsJ (mkA (Zer a b)):=ZsK (ZjT ha hb hs) ha.ss (Zo5 hb.fs)
theorem Zm8 (a b:Aut):(Zer a b).moves.length=a.moves.length+b.moves.length+a.fin.length*b.start.length:=by
 show (a.moves++Zgz a.n b.moves++Zlm a.n a.fin b.start).length=_
 rw [List.length_append,List.length_append,ZgA,ZjS]
theorem ZsL (ha:VOk a) (hb:VOk b) (h:2000<a.n+b.n∨20000<a.moves.length+b.moves.length+a.fin.length*b.start.length):ZsJ (mkA (Zer a b))= .error 13:=by
 unfold ZsJ
 rw [if_pos]
 show 2000<a.n+b.n∨20000<(mkM (Zer a b).moves).length
 rw [ZiS (Zlp ha hb),Zm8];exact h
end
def shL (m:Int) (x:Mv):List Mv:=(List.range m.toNat).map fun j=>⟨x.src*m+(j:Nat),x.dst*m+(j:Nat),x.sym⟩
def shR (n m:Int) (x:Mv):List Mv:=(List.range n.toNat).map fun i=>⟨(i:Nat)*m+x.src,(i:Nat)*m+x.dst,x.sym⟩
def shI (m:Int) (l k:List Int):List Int:=l.flatMap fun i=>ZcT (i*m) k
def shM (n m:Int) (l k:List Mv):List Mv:=l.flatMap (shL m)++k.flatMap (shR n m)
def ZcA (a b:Aut):Aut:=⟨a.n*b.n,a.syms,shI b.n a.start b.start,shI b.n a.fin b.fin,shM a.n b.n a.moves b.moves⟩
def ZjZ (a b:Aut):Except Int Aut:=if ¬Zdl a b=0 then .error (Zdl a b) else if 2000<a.n*b.n∨40000<(a.moves.length:Int)*b.n+(b.moves.length:Int)*a.n then .error 13 else ZdG (ZcA a b)
theorem ZsM {m i j i' j':Int} (h:i<i') (h0:0≤j) (h1:j<m) (h2:0≤j'):i*m+j<i'*m+j':=by
 have h3:(i+1)*m≤i'*m:=Int.mul_le_mul_of_nonneg_right (by omega) (by omega)
 rw [Int.add_mul,Int.one_mul] at h3
 omega
theorem ZhJ {m i j i' j':Int} (h:i*m+j=i'*m+j') (h1:0≤j∧j<m) (h2:0≤j'∧j'<m):i=i'∧j=j':=by
 have h3:i=i':=by
  rcases Int.lt_trichotomy i i' with h3|h3|h3
  · have:=ZsM h3 h1.1 h1.2 h2.1;omega
  · exact h3
  · have:=ZsM h3 h2.1 h2.2 h1.1;omega
 subst h3
 exact ⟨rfl,by omega⟩
theorem ZlH {n m i j:Int} (hi:0≤i∧i<n) (hj:0≤j∧j<m):0≤i*m+j∧i*m+j<n*m:=by
 have h3:(i+1)*m≤n*m:=Int.mul_le_mul_of_nonneg_right (by omega) (by omega)
 have h4:0≤i*m:=Int.mul_nonneg hi.1 (by omega)
 rw [Int.add_mul,Int.one_mul] at h3
 omega
theorem ZfZ {m x:Int} {l k:List Int}:x∈shI m l k↔∃i∈l,∃j∈k,i*m+j=x:=by
 unfold shI
 simp only [List.mem_flatMap,Zbs]
 constructor
 · rintro ⟨i,h1,j,h2,h3⟩;exact ⟨i,h1,j,h2,by omega⟩
 · rintro ⟨i,h1,j,h2,h3⟩;exact ⟨i,h1,j,h2,by omega⟩
theorem ZxR {m:Int} {x y:Mv}:y∈shL m x↔∃j:Nat,(j:Int)<m∧(⟨x.src*m+(j:Nat),x.dst*m+(j:Nat),x.sym⟩:Mv)=y:=by
 unfold shL
 rw [List.mem_map]
 constructor
 · rintro ⟨j,h1,h2⟩;rw [List.mem_range] at h1;exact ⟨j,by omega,h2⟩
 · rintro ⟨j,h1,h2⟩;exact ⟨j,by rw [List.mem_range];omega,h2⟩
theorem ZxS {n m:Int} {x y:Mv}:y∈shR n m x↔∃i:Nat,(i:Int)<n∧(⟨(i:Nat)*m+x.src,(i:Nat)*m+x.dst,x.sym⟩:Mv)=y:=by
 unfold shR
 rw [List.mem_map]
 constructor
 · rintro ⟨j,h1,h2⟩;rw [List.mem_range] at h1;exact ⟨j,by omega,h2⟩
 · rintro ⟨j,h1,h2⟩;exact ⟨j,by rw [List.mem_range];omega,h2⟩
theorem ZsN {m:Int} {l k:List Int} (hk:∀j∈k,0≤j∧j<m) (h1:Srt l) (h2:Srt k):Srt (shI m l k):=by
 induction l with
 |nil=>exact .nil
 | cons i l ih=>
   have h:=List.pairwise_cons.1 h1
   show Srt (ZcT (i*m) k++shI m l k)
   refine List.pairwise_append.2 ⟨Zo5 h2,ih h.2,fun x hx y hy=>?_⟩
   obtain ⟨j,hj,rfl⟩:=Zbs.1 hx
   obtain ⟨i',hi',j',hj',rfl⟩:=ZfZ.1 hy
   have:=ZsM (h.1 i' hi') (hk j hj).1 (hk j hj).2 (hk j' hj').1
   omega
section
variable {a b:Aut}
theorem ZeY {x:Mv}:x∈shM a.n b.n a.moves b.moves↔(∃y∈a.moves,∃j:Nat,(j:Int)<b.n∧(⟨y.src*b.n+(j:Nat),y.dst*b.n+(j:Nat),y.sym⟩:Mv)=x)∨∃y∈b.moves,∃i:Nat,(i:Int)<a.n∧(⟨(i:Nat)*b.n+y.src,(i:Nat)*b.n+y.dst,y.sym⟩:Mv)=x:=by
 unfold shM
 simp only [List.mem_append,List.mem_flatMap,ZxR,ZxS]
theorem Zj0 (ha:VOk a) (hb:VOk b) (hs:a.syms=b.syms):PreA (ZcA a b):=by
 have h1:=ha.n0
 have h2:=hb.n0
 have hI:∀{l k:List Int},InS a l→InS b k→∀x∈shI b.n l k,0≤x∧x<a.n*b.n:=fun hl hk x hx=>by
  obtain ⟨i,hi,j,hj,rfl⟩:=ZfZ.1 hx
  exact ZlH (hl i hi) (hk j hj)
 refine ⟨Int.mul_nonneg h1 h2,ha.s0,ha.s1,hI ha.st hb.st,hI ha.fi hb.fi,Za2 (ZsN hb.st ha.ss hb.ss),Za2 (ZsN hb.fi ha.fs hb.fs),fun x hx=>?_⟩
 rcases ZeY.1 hx with ⟨y,hy,j,hj,rfl⟩|⟨y,hy,i,hi,rfl⟩
 · have h3:=ha.mv y hy
   have h4:=ZlH (m:=b.n) (n:=a.n) (i:=y.src) (j:=j) ⟨h3.1,h3.2.1⟩ ⟨by omega,hj⟩
   have h5:=ZlH (m:=b.n) (n:=a.n) (i:=y.dst) (j:=j) ⟨h3.2.2.1,h3.2.2.2.1⟩ ⟨by omega,hj⟩
   exact ⟨h4.1,h4.2,h5.1,h5.2,h3.2.2.2.2⟩
 · have h3:=hb.mv y hy
   have h4:=ZlH (m:=b.n) (n:=a.n) (i:=i) (j:=y.src) ⟨by omega,hi⟩ ⟨h3.1,h3.2.1⟩
   have h5:=ZlH (m:=b.n) (n:=a.n) (i:=i) (j:=y.dst) ⟨by omega,hi⟩ ⟨h3.2.2.1,h3.2.2.2.1⟩
   exact ⟨h4.1,h4.2,h5.1,h5.2,h3.2.2.2.2.1,by have:=h3.2.2.2.2.2;show y.sym<a.syms;omega⟩
theorem Zm9 (m:Int) (x:Mv):(shL m x).length=m.toNat:=by unfold shL;simp
theorem ZsO (n m:Int) (x:Mv):(shR n m x).length=n.toNat:=by unfold shR;simp
theorem flat_len {α β:Type} {f:α→List β} {n:Nat} (h:∀x,(f x).length=n):∀l:List α,(l.flatMap f).length=l.length*n
 |[]=>by simp
 |x::l=>by rw [List.flatMap_cons,List.length_append,h,flat_len h l,List.length_cons,Nat.succ_mul,Nat.add_comm]
end
section
variable {a b:Aut}
theorem Zj1 {X a:Aut} {n:Int} (hX:∀(s:Int) (m:Mv),0≤s∧s<a.n→m∈X.moves→m.src=s+n→∃m'∈a.moves,m'.src=s∧m.dst=m'.dst+n∧m.sym=m'.sym) (ha:∀m∈a.moves,0≤m.dst∧m.dst<a.n) {s y:Int} {w:List Int} (hs:0≤s∧s<a.n) (h:Pth X (s+n) w y):∃t,y=t+n∧(0≤t∧t<a.n)∧Pth a s w t:=by
 generalize e:s+n=x at h
 induction h generalizing s with
 |nil x=>exact ⟨s,e.symm,hs, .nil s⟩
 | eps hm h1 _ ih=>
   obtain ⟨m',h2,h3,h4,h5⟩:=hX s _ hs hm e.symm
   obtain ⟨t,h6,h7,h8⟩:=ih (ha m' h2) h4.symm
   exact ⟨t,h6,h7,h3▸Pth.eps h2 (by rw [←h5];exact h1) h8⟩
 | sym hm h1 _ ih=>
   obtain ⟨m',h2,h3,h4,h5⟩:=hX s _ hs hm e.symm
   obtain ⟨t,h6,h7,h8⟩:=ih (ha m' h2) h4.symm
   refine ⟨t,h6,h7,?_⟩
   rw [h5]
   exact h3▸Pth.sym h2 (by rw [←h5];exact h1) h8
theorem Zj2 {X a:Aut} {n:Int} (hX:∀m∈a.moves,(⟨m.src+n,m.dst+n,m.sym⟩:Mv)∈X.moves) {s t:Int} {w:List Int} (h:Pth a s w t):Pth X (s+n) w (t+n):=by
 induction h with
 |nil x=>exact .nil _
 |eps hm h1 _ ih=>exact .eps (hX _ hm) h1 ih
 |sym hm h1 _ ih=>exact .sym (hX _ hm) h1 ih
theorem ZlI (ha:VOk a) {x:Int} {m:Mv} {l:List Mv} (hl:∀m∈l,m.src<a.n) (hx:0≤x) (hm:m∈a.moves++Zgz a.n b.moves++l) (hs:m.src=x+a.n):∃m'∈b.moves,m'.src=x∧m.dst=m'.dst+a.n∧m.sym=m'.sym:=by
 rcases List.mem_append.1 hm with hm|hm
 · rcases List.mem_append.1 hm with hm|hm
   · have:=ha.mv m hm;omega
   · obtain ⟨y,hy,rfl⟩:=ZcM.1 hm
     exact ⟨y,hy,by dsimp only at hs;omega,rfl,rfl⟩
 · have:=hl m hm;omega
theorem ZsP (ha:VOk a) (hb:VOk b) {w:List Int}:Lng (ZcL a b) w↔Lng a w∨Lng b w:=by
 have hmL:∀(s:Int) (m:Mv),0≤s∧s<a.n→m∈(ZcL a b).moves→m.src=s+0→∃m'∈a.moves,m'.src=s∧m.dst=m'.dst+0∧m.sym=m'.sym:=fun s m hs hm e=>by
  rcases List.mem_append.1 (show m∈a.moves++Zgz a.n b.moves from hm) with hm|hm
  · exact ⟨m,hm,by omega,by omega,rfl⟩
  · obtain ⟨y,hy,rfl⟩:=ZcM.1 hm
    have:=hb.mv y hy
    dsimp only at e;omega
 have hmR:∀(s:Int) (m:Mv),0≤s∧s<b.n→m∈(ZcL a b).moves→m.src=s+a.n→∃m'∈b.moves,m'.src=s∧m.dst=m'.dst+a.n∧m.sym=m'.sym:=fun s m hs hm e=>ZlI (l:=[]) ha (fun m hm=>by cases hm) hs.1 (by rw [List.append_nil];exact hm) e
 have hinA:∀m∈a.moves,(⟨m.src+0,m.dst+0,m.sym⟩:Mv)∈(ZcL a b).moves:=fun m hm=>by
  rw [Int.add_zero,Int.add_zero];exact List.mem_append_left _ hm
 have hinB:∀m∈b.moves,(⟨m.src+a.n,m.dst+a.n,m.sym⟩:Mv)∈(ZcL a b).moves:=fun m hm=>List.mem_append_right _ (ZcM.2 ⟨m,hm,rfl⟩)
 have hda:∀m∈a.moves,0≤m.dst∧m.dst<a.n:=fun m hm=>by have:=ha.mv m hm;omega
 have hdb:∀m∈b.moves,0≤m.dst∧m.dst<b.n:=fun m hm=>by have:=hb.mv m hm;omega
 constructor
 · rintro ⟨s,hs,f,hf,h⟩
   rcases List.mem_append.1 (show s∈a.start++ZcT a.n b.start from hs) with hs|hs
   · obtain ⟨t,e,h1,h2⟩:=Zj1 (n:=0) hmL hda (ha.st s hs) (by rw [Int.add_zero];exact h)
     rw [Int.add_zero] at e
     subst e
     rcases List.mem_append.1 (show f∈a.fin++ZcT a.n b.fin from hf) with hf|hf
     · exact .inl ⟨s,hs,f,hf,h2⟩
     · obtain ⟨y,hy,rfl⟩:=Zbs.1 hf
       have:=hb.fi y hy;omega
   · obtain ⟨y,hy,rfl⟩:=Zbs.1 hs
     obtain ⟨t,rfl,h1,h2⟩:=Zj1 hmR hdb (hb.st y hy) h
     rcases List.mem_append.1 (show t+a.n∈a.fin++ZcT a.n b.fin from hf) with hf|hf
     · have:=ha.fi _ hf;omega
     · obtain ⟨z,hz,e⟩:=Zbs.1 hf
       have:z=t:=by omega
       subst this
       exact .inr ⟨y,hy,z,hz,h2⟩
 · rintro (⟨s,hs,f,hf,h⟩|⟨s,hs,f,hf,h⟩)
   · have:=Zj2 (n:=0) hinA h
     rw [Int.add_zero,Int.add_zero] at this
     exact ⟨s,List.mem_append_left _ hs,f,List.mem_append_left _ hf,this⟩
   · exact ⟨s+a.n,List.mem_append_right _ (Zbs.2 ⟨s,hs,rfl⟩),f+a.n,List.mem_append_right _ (Zbs.2 ⟨f,hf,rfl⟩),Zj2 hinB h⟩
theorem ZwC {m:Mv} (ha:VOk a) (hb:VOk b) (hm:m∈(Zer a b).moves) (hs:m.src<a.n):m∈a.moves∨∃f∈a.fin,∃s∈b.start,(⟨f,s+a.n,-1⟩:Mv)=m:=by
 rcases List.mem_append.1 (show m∈a.moves++Zgz a.n b.moves++Zlm a.n a.fin b.start from hm) with hm|hm
 · rcases List.mem_append.1 hm with hm|hm
   · exact .inl hm
   · obtain ⟨y,hy,rfl⟩:=ZcM.1 hm
     have:=hb.mv y hy
     dsimp only at hs;omega
 · exact .inr (Zes.1 hm)
theorem ZsQ (ha:VOk a) (hb:VOk b) {s y:Int} {w:List Int} (hs:0≤s∧s<b.n) (h:Pth (Zer a b) (s+a.n) w y):∃t,y=t+a.n∧Pth b s w t:=by
 obtain ⟨t,h1,_,h2⟩:=Zj1 (X:=Zer a b) (a:=b) (n:=a.n) (fun s m hs hm e=>ZlI (l:=Zlm a.n a.fin b.start) ha (fun m hm=>by
  obtain ⟨f,hf,s,_,rfl⟩:=Zes.1 hm
  exact (ha.fi f hf).2) hs.1 hm e) (fun m hm=>by have:=hb.mv m hm;omega) hs h
 exact ⟨t,h1,h2⟩
theorem Zu7 (ha:VOk a) (hb:VOk b) {s y:Int} {w:List Int} (hs:s<a.n) (hy:a.n≤y) (h:Pth (Zer a b) s w y):∃u v f s',w=u++v∧Pth a s u f∧f∈a.fin∧s'∈b.start∧Pth (Zer a b) (s'+a.n) v y:=by
 induction h with
 |nil x=>omega
 | eps hm h1 h ih=>
   rcases ZwC ha hb hm hs with h2|⟨f,hf,s',hs',rfl⟩
   · obtain ⟨u,v,f,s',e,h3,h4⟩:=ih (by have:=ha.mv _ h2;omega) hy
     exact ⟨u,v,f,s',e, .eps h2 h1 h3,h4⟩
   · exact ⟨[],_,f,s',rfl, .nil _,hf,hs',h⟩
 | sym hm h1 h ih=>
   rcases ZwC ha hb hm hs with h2|⟨f,hf,s',hs',rfl⟩
   · obtain ⟨u,v,f,s',e,h3,h4⟩:=ih (by have:=ha.mv _ h2;omega) hy
     exact ⟨_::u,v,f,s',by rw [e];rfl, .sym h2 h1 h3,h4⟩
   · exact absurd rfl h1
theorem ZxT (ha:VOk a) (hb:VOk b) {w:List Int}:Lng (Zer a b) w↔∃u v,w=u++v∧Lng a u∧Lng b v:=by
 constructor
 · rintro ⟨s,hs,f,hf,h⟩
   obtain ⟨y,hy,rfl⟩:=Zbs.1 (show f∈ZcT a.n b.fin from hf)
   have hyb:=hb.fi y hy
   obtain ⟨u,v,f,s',e,h1,h2,h3,h4⟩:=Zu7 ha hb (ha.st s hs).2 (by omega) h
   obtain ⟨t,e2,h5⟩:=ZsQ ha hb (hb.st s' h3) h4
   have:t=y:=by omega
   subst this
   exact ⟨u,v,e,⟨s,hs,f,h2,h1⟩,⟨s',h3,t,hy,h5⟩⟩
 · rintro ⟨u,v,rfl,⟨s,hs,f,hf,h⟩,⟨s',hs',f',hf',h'⟩⟩
   refine ⟨s,hs,f'+a.n,Zbs.2 ⟨f',hf',rfl⟩,?_⟩
   have h1:Pth (Zer a b) s u f:=h.mono fun m hm=>List.mem_append_left _ (List.mem_append_left _ hm)
   have h2:Pth (Zer a b) (s'+a.n) v (f'+a.n):=Zj2 (fun m hm=>List.mem_append_left _ (List.mem_append_right _ (ZcM.2 ⟨m,hm,rfl⟩))) h'
   have h3:Pth (Zer a b) f v (f'+a.n):=Pth.eps (m:=⟨f,s'+a.n,-1⟩) (List.mem_append_right _ (Zes.2 ⟨f,hf,s',hs',rfl⟩)) rfl h2
   exact h1.app h3
inductive Star (L:List Int→Prop):List Int→Prop
 |nil:Star L []
 |app {u v:List Int} (h:L u) (h':Star L v):Star L (u++v)
theorem Zew {m:Mv}:m∈(ZdH a).moves↔m∈a.moves∨(∃s∈a.start,(⟨a.n,s,-1⟩:Mv)=m)∨∃s∈a.fin,(⟨s,a.n,-1⟩:Mv)=m:=by
 show m∈a.moves++(a.start.map fun s=>(⟨a.n,s,-1⟩:Mv))++a.fin.map (fun s=>(⟨s,a.n,-1⟩:Mv))↔_
 simp only [List.mem_append,List.mem_map,or_assoc]
theorem Zu8 (ha:VOk a) {x y:Int} {w:List Int} (h:Pth (ZdH a) x w y) (hy:y=a.n):(x=a.n→Star (Lng a) w)∧(x<a.n→∃u v f,w=u++v∧f∈a.fin∧Pth a x u f∧Star (Lng a) v):=by
 induction h with
 |nil x=>exact ⟨fun _=> .nil,fun h=>by omega⟩
 | eps hm h1 _ ih=>
   have ih:=ih hy
   refine ⟨fun e=>?_,fun e=>?_⟩
   · rcases Zew.1 hm with h2|⟨s,hs,rfl⟩|⟨s,hs,rfl⟩
     · have:=ha.mv _ h2;omega
     · obtain ⟨u,v,f,rfl,hf,h3,h4⟩:=ih.2 (ha.st s hs).2
       exact .app ⟨s,hs,f,hf,h3⟩ h4
     · have:=ha.fi s hs
       dsimp only at e;omega
   · rcases Zew.1 hm with h2|⟨s,hs,rfl⟩|⟨s,hs,rfl⟩
     · obtain ⟨u,v,f,e2,hf,h3,h4⟩:=ih.2 (by have:=ha.mv _ h2;omega)
       exact ⟨u,v,f,e2,hf, .eps h2 h1 h3,h4⟩
     · dsimp only at e;omega
     · exact ⟨[],_,s,rfl,hs, .nil _,ih.1 rfl⟩
 | sym hm h1 _ ih=>
   have ih:=ih hy
   rcases Zew.1 hm with h2|⟨s,hs,rfl⟩|⟨s,hs,rfl⟩
   · refine ⟨fun e=>by have:=ha.mv _ h2;omega,fun e=>?_⟩
     obtain ⟨u,v,f,e2,hf,h3,h4⟩:=ih.2 (by have:=ha.mv _ h2;omega)
     exact ⟨_::u,v,f,by rw [e2];rfl,hf, .sym h2 h1 h3,h4⟩
   · exact absurd rfl h1
   · exact absurd rfl h1
theorem Zu9 (ha:VOk a) {w:List Int}:Lng (ZdH a) w↔Star (Lng a) w:=by
 constructor
 · rintro ⟨s,hs,f,hf,h⟩
   have hs:s=a.n:=List.mem_singleton.1 hs
   have hf:f=a.n:=List.mem_singleton.1 hf
   exact (Zu8 ha h hf).1 hs
 · intro h
   refine ⟨a.n,List.mem_singleton.2 rfl,a.n,List.mem_singleton.2 rfl,?_⟩
   induction h with
   |nil=>exact .nil _
   | app h _ ih=>
     obtain ⟨s,hs,f,hf,h⟩:=h
     have h1:Pth (ZdH a) s _ f:=h.mono fun m hm=>Zew.2 (.inl hm)
     have h2:Pth (ZdH a) f _ a.n:=Pth.eps (m:=⟨f,a.n,-1⟩) (Zew.2 (.inr (.inr ⟨f,hf,rfl⟩))) rfl ih
     exact Pth.eps (m:=⟨a.n,s,-1⟩) (Zew.2 (.inr (.inl ⟨s,hs,rfl⟩))) rfl (h1.app h2)
inductive Mix:List Int→List Int→List Int→Prop
 |nil:Mix [] [] []
 |one {w u v:List Int} (c:Int) (h:Mix w u v):Mix (c::w) (c::u) v
 |two {w u v:List Int} (c:Int) (h:Mix w u v):Mix (c::w) u (c::v)
theorem Zva (ha:VOk a) (hb:VOk b) {x y:Int} {w:List Int} (h:Pth (ZcA a b) x w y):∀i j,(0≤i∧i<a.n)→(0≤j∧j<b.n)→x=i*b.n+j→∃i' j' u v,(0≤i'∧i'<a.n)∧(0≤j'∧j'<b.n)∧y=i'*b.n+j'∧Mix w u v∧Pth a i u i'∧Pth b j v j':=by
 induction h with
 |nil x=>exact fun i j hi hj e=>⟨i,j,[],[],hi,hj,e, .nil, .nil _, .nil _⟩
 | eps hm h1 _ ih=>
   intro i j hi hj e
   rcases ZeY.1 hm with ⟨z,hz,k,hk,rfl⟩|⟨z,hz,k,hk,rfl⟩
   · have h2:=ha.mv z hz
     obtain ⟨rfl,e2⟩:=ZhJ e ⟨by omega,hk⟩ hj
     obtain ⟨i',j',u,v,h3,h4,h5,h6,h7,h8⟩:=ih z.dst k ⟨h2.2.2.1,h2.2.2.2.1⟩ ⟨by omega,hk⟩ rfl
     exact ⟨i',j',u,v,h3,h4,h5,h6, .eps hz h1 h7,e2▸h8⟩
   · have h2:=hb.mv z hz
     obtain ⟨e2,rfl⟩:=ZhJ e ⟨h2.1,h2.2.1⟩ hj
     obtain ⟨i',j',u,v,h3,h4,h5,h6,h7,h8⟩:=ih k z.dst ⟨by omega,hk⟩ ⟨h2.2.2.1,h2.2.2.2.1⟩ rfl
     exact ⟨i',j',u,v,h3,h4,h5,h6,e2▸h7, .eps hz h1 h8⟩
 | sym hm h1 _ ih=>
   intro i j hi hj e
   rcases ZeY.1 hm with ⟨z,hz,k,hk,rfl⟩|⟨z,hz,k,hk,rfl⟩
   · have h2:=ha.mv z hz
     obtain ⟨rfl,e2⟩:=ZhJ e ⟨by omega,hk⟩ hj
     obtain ⟨i',j',u,v,h3,h4,h5,h6,h7,h8⟩:=ih z.dst k ⟨h2.2.2.1,h2.2.2.2.1⟩ ⟨by omega,hk⟩ rfl
     exact ⟨i',j',_::u,v,h3,h4,h5, .one _ h6, .sym hz h1 h7,e2▸h8⟩
   · have h2:=hb.mv z hz
     obtain ⟨e2,rfl⟩:=ZhJ e ⟨h2.1,h2.2.1⟩ hj
     obtain ⟨i',j',u,v,h3,h4,h5,h6,h7,h8⟩:=ih k z.dst ⟨by omega,hk⟩ ⟨h2.2.2.1,h2.2.2.2.1⟩ rfl
     exact ⟨i',j',u,_::v,h3,h4,h5, .two _ h6,e2▸h7, .sym hz h1 h8⟩
theorem Zj3 (hb:VOk b) {i i' j:Int} {u:List Int} (hj:0≤j∧j<b.n) (h:Pth a i u i'):Pth (ZcA a b) (i*b.n+j) u (i'*b.n+j):=by
 have e:((j.toNat:Nat):Int)=j:=Int.toNat_of_nonneg hj.1
 induction h with
 |nil s=>exact .nil _
 | @eps m w t hm h1 _ ih=>exact Pth.eps (m:=⟨m.src*b.n+j,m.dst*b.n+j,m.sym⟩) (ZeY.2 (.inl ⟨m,hm,j.toNat,by omega,by rw [e]⟩)) h1 ih
 | @sym m w t hm h1 _ ih=>exact Pth.sym (m:=⟨m.src*b.n+j,m.dst*b.n+j,m.sym⟩) (ZeY.2 (.inl ⟨m,hm,j.toNat,by omega,by rw [e]⟩)) h1 ih
theorem ZhK {i j j':Int} {u:List Int} (hi:0≤i∧i<a.n) (h:Pth b j u j'):Pth (ZcA a b) (i*b.n+j) u (i*b.n+j'):=by
 have e:((i.toNat:Nat):Int)=i:=Int.toNat_of_nonneg hi.1
 induction h with
 |nil s=>exact .nil _
 | @eps m w t hm h1 _ ih=>exact Pth.eps (m:=⟨i*b.n+m.src,i*b.n+m.dst,m.sym⟩) (ZeY.2 (.inr ⟨m,hm,i.toNat,by omega,by rw [e]⟩)) h1 ih
 | @sym m w t hm h1 _ ih=>exact Pth.sym (m:=⟨i*b.n+m.src,i*b.n+m.dst,m.sym⟩) (ZeY.2 (.inr ⟨m,hm,i.toNat,by omega,by rw [e]⟩)) h1 ih
theorem ZzY (ha:AOk a) {s t:Int} {w:List Int} (h:Pth a s w t) (hs:0≤s∧s<a.n):0≤t∧t<a.n:=by
 induction h with
 |nil s=>exact hs
 |eps hm _ _ ih=>exact ih (by have:=ha.mv _ hm;omega)
 |sym hm _ _ ih=>exact ih (by have:=ha.mv _ hm;omega)
theorem Zvb (ha:VOk a) (hb:VOk b) {w u v:List Int} (hm:Mix w u v):∀{i i' j j':Int},(0≤i∧i<a.n)→(0≤j∧j<b.n)→Pth a i u i'→Pth b j v j'→Pth (ZcA a b) (i*b.n+j) w (i'*b.n+j'):=by
 induction hm with
 | nil=>
   intro i i' j j' hi hj h1 h2
   have h3:=(Zj3 hb hj h1).app (ZhK (ZzY ha.toAOk h1 hi) h2)
   exact h3
 | one c _ ih=>
   intro i i' j j' hi hj h1 h2
   obtain ⟨m,hm,h3,rfl,h4,h5⟩:=h1.cons
   have h6:=ha.mv m hm
   have h7:Pth a m.src [m.sym] m.dst:= .sym hm h4 (.nil _)
   have h8:=(Zj3 hb hj h3).app ((Zj3 hb hj h7).app (ih ⟨h6.2.2.1,h6.2.2.2.1⟩ hj h5 h2))
   exact h8
 | two c _ ih=>
   intro i i' j j' hi hj h1 h2
   obtain ⟨m,hm,h3,rfl,h4,h5⟩:=h2.cons
   have h6:=hb.mv m hm
   have h7:Pth b m.src [m.sym] m.dst:= .sym hm h4 (.nil _)
   have h8:=(ZhK hi h3).app ((ZhK hi h7).app (ih hi ⟨h6.2.2.1,h6.2.2.2.1⟩ h1 h5))
   exact h8
theorem Zvc (ha:VOk a) (hb:VOk b) {w:List Int}:Lng (ZcA a b) w↔∃u v,Mix w u v∧Lng a u∧Lng b v:=by
 constructor
 · rintro ⟨s,hs,f,hf,h⟩
   obtain ⟨i,hi,j,hj,rfl⟩:=ZfZ.1 (show s∈shI b.n a.start b.start from hs)
   obtain ⟨i',hi',j',hj',rfl⟩:=ZfZ.1 (show f∈shI b.n a.fin b.fin from hf)
   obtain ⟨i2,j2,u,v,h1,h2,h3,h4,h5,h6⟩:=Zva ha hb h i j (ha.st i hi) (hb.st j hj) rfl
   obtain ⟨rfl,rfl⟩:=ZhJ h3 (hb.fi j' hj') h2
   exact ⟨u,v,h4,⟨i,hi,i',hi',h5⟩,⟨j,hj,j',hj',h6⟩⟩
 · rintro ⟨u,v,hm,⟨i,hi,i',hi',h5⟩,⟨j,hj,j',hj',h6⟩⟩
   exact ⟨_,ZfZ.2 ⟨i,hi,j,hj,rfl⟩,_,ZfZ.2 ⟨i',hi',j',hj',rfl⟩,Zvb ha hb hm (ha.st i hi) (hb.st j hj) h5 h6⟩
end
section
variable {α κ:Type} [DecidableEq κ] {W:Srch α κ}
def Srch.Born (W:Srch α κ) (o:List α):Prop:=∀j x,0<j→o[j]? =some x→∃i y s,i<j∧o[i]? =some y∧s<W.m∧x=W.step i y s
theorem Srch.Born.visit {o o':List α} {i s n:Nat} {y:α} (h:W.Born o) (hy:o[i]? =some y) (hs:s<W.m) (hv:visit W.key W.cap o (W.step i y s)=some (o',n)):W.Born o':=by
 unfold Go.Proofs.YtgfabnhpllkebaaGreatDoor.visit at hv
 split at hv
 · cases hv;exact h
 · split at hv
   · cases hv
   · cases hv
     intro j x hj hx
     rw [List.getElem?_append] at hx
     split at hx
     · obtain ⟨i',y',s',h1,h2,h3,h4⟩:=h j x hj hx
       exact ⟨i',y',s',h1,ZbO (List.prefix_append ..) h2,h3,h4⟩
     · rename_i hjl
       have h1:=ζe hx
       rw [List.length_singleton] at h1
       rw [show j-o.length=0 by omega,List.getElem?_cons_zero] at hx
       cases hx
       exact ⟨i,y,s,by have:=ζe hy;omega,ZbO (List.prefix_append ..) hy,hs,rfl⟩
theorem Srch.Born.row {o:List α} {i:Nat} {y:α} (h:W.Born o) (hy:o[i]? =some y):∀{s:Nat} {o':List α} {r:List Nat},s≤W.m→W.row i y o s=some (o',r)→W.Born o'∧o<+:o'
 | 0,o',r,_,hr=>by
   rw [Srch.row] at hr;cases hr
   exact ⟨h,List.prefix_refl _⟩
 | s+1,o',r,hs,hr=>by
   rw [Srch.row,Option.bind_eq_some_iff] at hr
   obtain ⟨⟨o1,r1⟩,h1,h2⟩:=hr
   obtain ⟨⟨o2,n⟩,h3,h4⟩:=Option.map_eq_some_iff.1 h2
   cases h4
   obtain ⟨h5,h6⟩:=Srch.Born.row h hy (by omega) h1
   exact ⟨h5.visit (ZbO h6 hy) (by omega) h3,h6.trans (Zhb h3).1⟩
theorem Srch.born {x0:α}:∀{i:Nat} {o:List α} {rows:List (List Nat)},W.upto x0 i=some (o,rows)→W.Born o
 | 0,o,rows,h=>by
   rw [Srch.upto] at h;cases h
   intro j x hj hx
   have:=ζe hx
   rw [List.length_singleton] at this;omega
 | i +1,o,rows,h=>by
   rw [Srch.upto,Option.bind_eq_some_iff] at h
   obtain ⟨⟨o1,rows1⟩,h1,h2⟩:=h
   have h3:=Srch.born h1
   dsimp only at h2
   cases hx:o1[i]? with
   |none=>rw [hx] at h2;cases h2;exact h3
   | some x=>
     rw [hx] at h2
     obtain ⟨⟨o2,r⟩,h5,h6⟩:=Option.map_eq_some_iff.1 h2
     cases h6
     exact (h3.row hx (Nat.le_refl _) h5).1
end
def ZAt (par:List (Int×Int)):Prop:=∀(j:Nat) (x:Int×Int),par[j]? =some x→x.1<(j:Int)
theorem ZiU {par:List (Int×Int)} (h:ZAt par):∀(f g i:Nat),i<f→i<g→Zht par f i=Zht par g i
 |0,_,_,h1,_=>by omega
 |f+1,0,_,_,h2=>by omega
 | f +1,g+1,i,h1,h2=>by
   rw [Zht,Zht]
   cases hx:par[i]? with
   |none=>rfl
   | some x=>
     dsimp only
     have:=h i x hx
     by_cases h0:x.1<0
     · rw [if_pos h0,if_pos h0]
     · rw [if_neg h0,if_neg h0,ZiU h f g x.1.toNat (by omega) (by omega)]
def Zo6 (par:List (Int×Int)) (i:Nat):List Int:=Zht par (i+1) i
theorem Zo7 {par:List (Int×Int)} {i:Nat} {x:Int×Int} (hx:par[i]? =some x) (h0:x.1<0):Zo6 par i=[]:=by
 unfold Zo6;rw [Zht,hx];dsimp only;rw [if_pos h0]
theorem ZsR {par:List (Int×Int)} (h:ZAt par) {i:Nat} {x:Int×Int} (hx:par[i]? =some x) (h0:¬x.1<0):Zo6 par i=Zo6 par x.1.toNat++[x.2]:=by
 unfold Zo6;rw [Zht,hx];dsimp only;rw [if_neg h0,ZiU h i (x.1.toNat+1) x.1.toNat (by have:=h i x hx;omega) (by omega)]
theorem ZlJ {A B:Aut} {i:Nat} {o:List ((Nat×Nat)×(Int×Int))} {rows:List (List Nat)} (hu:(Zbe A B).upto ((0,0),(-1,-1)) i=some (o,rows)) (h0:o[0]? =some ((0,0),(-1,-1))):ZAt (o.map (·.2)):=fun j x hx=>by
 rw [List.getElem?_map] at hx
 obtain ⟨y,hy,rfl⟩:=Option.map_eq_some_iff.1 hx
 rcases Nat.eq_zero_or_pos j with rfl|hj
 · rw [h0] at hy;cases hy;decide
 · obtain ⟨i',y',s,h1,_,_,rfl⟩:=Srch.born hu j y hj hy
   show ((i':Nat):Int)<_
   omega
theorem ZBx (l:List Bool):idx (fun x=>x==true) l=match l.idxOf? true with|some i=>(i:Int)|none=> -1:=rfl
section
variable {α κ:Type} [DecidableEq κ] {W:Srch α κ} {g:α→Int}
theorem Srch.row_ages (hg:∀i x s,g (W.step i x s)=((i:Nat):Int)) {i:Nat} {x:α} {o:List α}:∀{s:Nat} {o':List α} {r:List Nat},W.row i x o s=some (o',r)→o<+:o'∧(∀k y,o.length≤k→o'[k]? =some y→g y=((i:Nat):Int))∧∀c n:Nat,r[c]? =some n→n<o'.length
 | 0,o',r,h=>by
   rw [Srch.row] at h;cases h
   exact ⟨List.prefix_refl _,fun k y hk hy=>by have:=ζe hy;omega,fun c n h=>by simp at h⟩
 | s + 1, o',r,h=>by
   rw [Srch.row,Option.bind_eq_some_iff] at h
   obtain ⟨⟨o1,r1⟩,h1,h2⟩:=h
   obtain ⟨⟨o2,n⟩,h3,h4⟩:=Option.map_eq_some_iff.1 h2
   cases h4
   obtain ⟨h5,h6,h7⟩:=Srch.row_ages hg h1
   obtain ⟨h8,h9,_⟩:=Zhb h3
   dsimp only at h3 h8 h9 ⊢
   refine ⟨h5.trans h8,fun k y hk hy=>?_,fun c m hc=>?_⟩
   · rcases Nat.lt_or_ge k o1.length with hkl|hkl
     · obtain ⟨z,hz⟩:=ζm hkl
       have:=ZbO h8 hz
       rw [this] at hy;cases hy
       exact h6 k y hk hz
     · have hv:=h3
       unfold Go.Proofs.YtgfabnhpllkebaaGreatDoor.visit at hv
       split at hv
       · cases hv;have:=ζe hy;omega
       · split at hv
         · cases hv
         · cases hv
           have h10:=ζe hy
           rw [List.length_append,List.length_singleton] at h10
           rw [List.getElem?_append_right hkl,show k-o1.length=0 by omega] at hy
           cases hy
           exact hg i x s
   · rw [List.getElem?_append] at hc
     split at hc
     · have:=h7 c m hc
       have:=h8.length_le
       omega
     · have h10:=ζe hc
       rw [List.length_singleton] at h10
       rw [show c-r1.length=0 by omega] at hc
       cases hc;exact h9
structure Srch.Aged (g:α→Int) (i:Nat) (o:List α) (rows:List (List Nat)):Prop where
 mono:∀(j k:Nat) (x y:α),j≤k→o[j]? =some x→o[k]? =some y→g x≤g y
 lt:∀(j:Nat) (x:α),o[j]? =some x→g x<(i:Nat)
 len:i≤o.length→rows.length=i
 to:∀(p:Nat) (r:List Nat) (c n:Nat),rows[p]? =some r→r[c]? =some n→∃x,o[n]? =some x∧g x≤(p:Nat)
theorem Srch.ages (hg:∀i x s,g (W.step i x s)=((i:Nat):Int)) {x0:α} (h0:g x0= -1):∀{i:Nat} {o:List α} {rows:List (List Nat)},W.upto x0 i=some (o,rows)→Srch.Aged g i o rows
 | 0, o,rows,h=>by
   rw [Srch.upto] at h;cases h
   refine ⟨fun j k x y _ hx hy=>?_,fun j x hx=>?_,fun _=>rfl,fun p r c n h=>by simp at h⟩
   · have h1:=ζe hx
     have h2:=ζe hy
     rw [List.length_singleton] at h1 h2
     have e1:j=0:=by omega
     have e2:k=0:=by omega
     subst e1 e2
     rw [hx] at hy;cases hy;exact Int.le_refl _
   · have h1:=ζe hx
     rw [List.length_singleton] at h1
     have e1:j=0:=by omega
     subst e1
     cases hx
     omega
 | i + 1, o,rows,h=>by
   rw [Srch.upto,Option.bind_eq_some_iff] at h
   obtain ⟨⟨o1,rows1⟩,h1,h2⟩:=h
   have h3:=Srch.ages hg h0 h1
   dsimp only at h2
   cases hx:o1[i]? with
   | none=>
     rw [hx] at h2;cases h2
     have:=List.getElem?_eq_none_iff.1 hx
     exact ⟨h3.mono,fun j x hx=>by have:=h3.lt j x hx;omega,fun h=>by omega,h3.to⟩
   | some x=>
     rw [hx] at h2
     obtain ⟨⟨o2,r⟩,h5,h6⟩:=Option.map_eq_some_iff.1 h2
     cases h6
     dsimp only
     have hil:=ζe hx
     have hrl:=h3.len (by omega)
     obtain ⟨h7,h8,h9⟩:=Srch.row_ages hg h5
     have old:∀{k:Nat} {y:α},k<o1.length→o2[k]? =some y→o1[k]? =some y:=fun {k y} hk hy=>by
      obtain ⟨z,hz⟩:=ζm hk
      have:=ZbO h7 hz
      rw [this] at hy;cases hy;exact hz
     have lt:∀(j:Nat) (x:α),o2[j]? =some x→g x<((i+1:Nat):Int):=fun j y hy=>by
      rcases Nat.lt_or_ge j o1.length with hj|hj
      · have:=h3.lt j y (old hj hy);omega
      · have:=h8 j y hj hy;omega
     refine ⟨fun j k y z hjk hy hz=>?_,lt,fun _=>by rw [List.length_append,hrl];rfl,fun p r' c n hr hn=>?_⟩
     · rcases Nat.lt_or_ge k o1.length with hk|hk
       · exact h3.mono j k y z hjk (old (by omega) hy) (old hk hz)
       · have e:=h8 k z hk hz
         have:=lt j y hy
         omega
     · rw [List.getElem?_append] at hr
       split at hr
       · obtain ⟨y,hy,hle⟩:=h3.to p r' c n hr hn
         exact ⟨y,ZbO h7 hy,hle⟩
       · have hp:=ζe hr
         rw [List.length_singleton] at hp
         rename_i hpl
         have ep:p=i:=by omega
         subst ep
         rw [hrl,Nat.sub_self] at hr
         cases hr
         obtain ⟨y,hy⟩:=ζm (h9 c n hn)
         exact ⟨y,hy,by have:=lt n y hy;omega⟩
end
abbrev PrS2:=(Nat×Nat)×(Int×Int)
structure PQ (A B:Aut) (o:List PrS2) (rows:List (List Nat)):Prop where
 mA:IsMin A
 mB:IsMin B
 sy:A.syms=B.syms
 hu:prodQ A B=some (o,rows)
section
variable {A B:Aut} {o:List PrS2} {rows:List (List Nat)}
theorem PQ.ok (h:PQ A B o rows):(Zbe A B).Ok (ZoO A B) ((0,0),(-1,-1)) o rows∧rows.length=o.length∧o.length≤2000:=by
 obtain ⟨h1,_,h3⟩:=Zhx h.mA.det h.mB.det h.sy h.hu
 have hcap:o.length≤2000:=h1.cap
 exact ⟨h1,h3 hcap,hcap⟩
theorem PQ.back (h:PQ A B o rows):ZAt (o.map (·.2)):=ZlJ h.hu h.ok.1.zero
theorem PQ.aged (h:PQ A B o rows):Srch.Aged (fun x:PrS2=>x.2.1) (Zbe A B).cap o rows:=by
 have hu:(Zbe A B).upto ((0,0),(-1,-1)) (Zbe A B).cap=some (o,rows):=h.hu
 exact Srch.ages (g:=fun x:PrS2=>x.2.1) (fun _ _ _=>rfl) rfl hu
def ZqT (o:List PrS2) (j:Nat):Nat:=(Zo6 (o.map (·.2)) j).length
theorem PQ.zero (h:PQ A B o rows):Zo6 (o.map (·.2)) 0=[]:=Zo7 (x:=(-1,-1)) (by rw [List.getElem?_map,h.ok.1.zero];rfl) (by decide)
theorem PQ.on (h:PQ A B o rows) {j:Nat} (hj:0<j) (hjl:j<o.length):∃(i s:Nat) (x y:PrS2),i<j∧o[j]? =some x∧o[i]? =some y∧s<A.syms.toNat∧x=(Zbe A B).step i y s∧x.2.1=(i:Int)∧Zo6 (o.map (·.2)) j=Zo6 (o.map (·.2)) i++[(s:Int)]:=by
 obtain ⟨x,hx⟩:=ζm hjl
 obtain ⟨i,y,s,h1,h2,h3,h4⟩:=Srch.born h.hu j x hj hx
 have e:x.2=(((i:Nat):Int),((s:Nat):Int)):=by rw [h4];rfl
 refine ⟨i,s,x,y,h1,hx,h2,h3,h4,by rw [e],?_⟩
 have hw:=ZsR h.back (i:=j) (x:=(((i:Nat):Int),((s:Nat):Int))) (by rw [List.getElem?_map,hx,←e];rfl) (by dsimp only;omega)
 dsimp only at hw
 rw [Int.toNat_natCast] at hw
 exact hw
theorem PQ.mono (h:PQ A B o rows):∀(k:Nat),k<o.length→∀j,j≤k→ZqT o j≤ZqT o k:=fun k=>by
 induction k using Nat.strongRecOn with
 | ind k ih=>
   intro hk j hjk
   rcases Nat.eq_zero_or_pos j with rfl|hj
   · unfold ZqT;rw [h.zero];exact Nat.zero_le _
   · obtain ⟨i,s,x,y,h1,h2,h3,_,_,h6,h7⟩:=h.on hj (by omega)
     obtain ⟨i',s',x',y',h1',h2',h3',_,_,h6',h7'⟩:=h.on (show 0<k by omega) hk
     have hle:x.2.1≤x'.2.1:=h.aged.mono j k x x' hjk h2 h2'
     have:=ih i' h1' (by omega) i (by omega)
     unfold ZqT at this ⊢
     rw [h7,h7',List.length_append,List.length_append]
     exact Nat.add_le_add_right this _
theorem PQ.step (h:PQ A B o rows) {p c n:Nat} {r:List Nat} (hr:rows[p]? =some r) (hn:r[c]? =some n):ZqT o n≤ZqT o p+1:=by
 obtain ⟨x,hx,hle⟩:=h.aged.to p r c n hr hn
 have hle:x.2.1≤(p:Int):=hle
 rcases Nat.eq_zero_or_pos n with rfl|hn0
 · unfold ZqT;rw [h.zero];exact Nat.zero_le _
 · obtain ⟨i,s,x',y,h1,h2,h3,_,_,h6,h7⟩:=h.on hn0 (ζe hx)
   rw [hx] at h2;cases h2
   have hpl:p<o.length:=by rw [←h.ok.2.1];exact ζe hr
   have:=h.mono p hpl i (by omega)
   unfold ZqT at this ⊢
   rw [h7,List.length_append,List.length_singleton]
   omega
theorem PQ.row (h:PQ A B o rows) {op:Int} {p c:Nat} (hp:p<o.length) (hc:c<A.syms.toNat):∃(r:List Nat) (n:Nat),rows[p]? =some r∧r[c]? =some n∧toT (Zgn A B op (o,rows)) p c=n∧n<o.length:=by
 obtain ⟨r,hr⟩:=ζm (show p<rows.length by rw [h.ok.2.1];exact hp)
 have hl:r.length=A.syms.toNat:=h.ok.1.len r (List.mem_of_getElem? hr)
 obtain ⟨n,hn⟩:=ζm (show c<r.length by omega)
 obtain ⟨x,hx⟩:=ζm hp
 exact ⟨r,n,hr,hn,ZiI (t:=Zgn A B op (o,rows)) hr hn,(h.ok.1.to p x r c n hx hr hn).1⟩
theorem ZlK (t:Tab) (x:Nat) (w:List Nat) (c:Nat):Zsj t x (w++[c])=toT t (Zsj t x w) c:=by unfold Zsj;rw [List.foldl_append];rfl
theorem Zvd {α:Type} {P:List α→Prop} (h0:P []) (h1:∀l x,P l→P (l++[x])) (l:List α):P l:=by
 have:∀m:List α,P m.reverse:=fun m=>by
  induction m with
  |nil=>exact h0
  |cons x m ih=>rw [List.reverse_cons];exact h1 _ _ ih
 have h:=this l.reverse
 rw [List.reverse_reverse] at h;exact h
theorem PQ.run (h:PQ A B o rows) {op:Int} (w:List Nat):ZbU A.syms.toNat w→Zsj (Zgn A B op (o,rows)) 0 w<o.length∧ZqT o (Zsj (Zgn A B op (o,rows)) 0 w)≤w.length:=by
 refine Zvd (P:=fun w=>ZbU A.syms.toNat w→Zsj (Zgn A B op (o,rows)) 0 w<o.length∧ZqT o (Zsj (Zgn A B op (o,rows)) 0 w)≤w.length) ?_ ?_ w
 · intro _
   refine ⟨h.ok.1.pos,?_⟩
   show ZqT o 0≤0
   unfold ZqT;rw [h.zero];exact Nat.le_refl _
 · intro w c ih hw
   obtain ⟨h1,h2⟩:=ih fun c hc=>hw c (List.mem_append_left _ hc)
   obtain ⟨r,n,hr,hn,e,hno⟩:=h.row (op:=op) h1 (hw c (List.mem_append_right _ (List.mem_singleton.2 rfl)))
   rw [ZlK,e]
   have:=h.step hr hn
   rw [List.length_append,List.length_singleton]
   exact ⟨hno,by omega⟩
theorem PQ.way (h:PQ A B o rows) {op:Int}:∀(j:Nat),j<o.length→∃w:List Nat,ZbU A.syms.toNat w∧wI w=Zo6 (o.map (·.2)) j∧Zsj (Zgn A B op (o,rows)) 0 w=j:=fun j=>by
 induction j using Nat.strongRecOn with
 | ind j ih=>
   intro hj
   rcases Nat.eq_zero_or_pos j with rfl|hj0
   · exact ⟨[],(fun c hc=>by cases hc),(by rw [h.zero];rfl),rfl⟩
   · obtain ⟨i,s,x,y,h1,h2,h3,h4,h5,_,h7⟩:=h.on hj0 hj
     obtain ⟨w,hw,he,hr⟩:=ih i h1 (by omega)
     refine ⟨w++[s],fun c hc=>?_,?_,?_⟩
     · rcases List.mem_append.1 hc with hc|hc
       · exact hw c hc
       · rw [List.mem_singleton.1 hc];exact h4
     · rw [h7,←he];unfold wI;rw [List.map_append];rfl
     · obtain ⟨r,n,hr',hn,e,hno⟩:=h.row (op:=op) (ζe h3) h4
       rw [ZlK,hr,e]
       have h8:=(h.ok.1.to i y r s n h3 hr' hn).2
       rw [←h5] at h8
       rw [←h8]
       exact Zdr h.ok.1.nd h2
theorem PQ.fin (h:PQ A B o rows) {op:Int} {w:List Nat} (hw:ZbU A.syms.toNat w) {x:PrS2} (hx:o[Zsj (Zgn A B op (o,rows)) 0 w]? =some x):ZbI A B op x=ZqQ op (ZfV A (wI w)) (ZfV B (wI w)):=by
 have:=Zsq h.mA h.mB h.sy (op:=op) h.hu hw
 rw [←this]
 show _=((o.map (ZbI A B op))[Zsj (Zgn A B op (o,rows)) 0 w]?).getD false
 rw [List.getElem?_map,hx];rfl
end
theorem Zo8 {l:List Bool}:∀{i:Nat},l.idxOf? true=some i↔l[i]? =some true∧∀j,j<i→l[j]? =some false:=by
 induction l with
 |nil=>intro i;simp
 | cons b l ih=>
   intro i
   rw [List.idxOf?_cons]
   cases b with
   | true=>
     simp only [beq_self_eq_true,if_true]
     constructor
     · intro h;cases h;exact ⟨rfl,fun j hj=>by omega⟩
     · rintro ⟨h1,h2⟩
       rcases Nat.eq_zero_or_pos i with rfl|hi
       · rfl
       · have:=h2 0 hi;simp at this
   | false=>
     simp only [show (false==true)=false from rfl,Bool.false_eq_true,if_false]
     cases i with
     |zero=>simp
     | succ i=>
       rw [Option.map_eq_some_iff]
       constructor
       · rintro ⟨k,hk,e⟩
         have:k=i:=by omega
         subst this
         obtain ⟨h1,h2⟩:=ih.1 hk
         refine ⟨h1,fun j hj=>?_⟩
         cases j with
         |zero=>rfl
         |succ j=>exact h2 j (by omega)
       · rintro ⟨h1,h2⟩
         exact ⟨i,ih.2 ⟨h1,fun j hj=>h2 (j+1) (by omega)⟩,rfl⟩
theorem ZsS (i:Nat) (r:List Nat):AscM (Zap i r):=by
 unfold AscM
 rw [List.pairwise_iff_getElem]
 intro j k hj hk hjk
 unfold Zap at hj hk ⊢
 rw [List.length_map,List.length_zipIdx] at hj hk
 rw [Zeq,List.getElem_map,List.getElem_map,List.getElem_zipIdx,List.getElem_zipIdx]
 dsimp only
 omega
theorem ZiV:∀(rows:List (List Nat)) (k:Nat),AscM (Zgi k rows)
 |[],_=> .nil
 | r::rows,k=>by
   rw [Zcz]
   refine List.pairwise_append.2 ⟨ZsS k r,ZiV rows (k+1),fun x hx y hy=>?_⟩
   have h1:=Zfk x hx
   have h2:=ZiK y hy
   rw [Zeq]
   omega
theorem IsMin.valid {A:Aut} (h:IsMin A):ζ5 A=true:=by
 have hok:=h.aok
 obtain ⟨t,o,rows,hT,hu,rfl,hm⟩:=h
 have h1:=hok.n0
 have h2:=hok.n1
 have h3:=hok.s0
 have h4:=hok.s1
 have h5:=hok.ml
 unfold ζ5
 simp only [Bool.and_eq_true,decide_eq_true_eq]
 refine ⟨⟨⟨⟨⟨⟨⟨⟨h1,h2⟩,h3⟩,h4⟩,h5⟩,Zu5 hok.st (List.pairwise_singleton ..)⟩,Zu5 hok.fi (ZmS _ _)⟩,?_⟩,ZhI (ZiV rows 0)⟩
 rw [List.all_eq_true]
 intro m hm'
 have:=hok.mv m hm'
 unfold ZrV
 simp only [Bool.and_eq_true,decide_eq_true_eq]
 omega
theorem Zqo {a b A B:Aut} (ha:ZcS a= .ok A) (hb:ZcS b= .ok B) {q:List PrS2×List (List Nat)} (hq:prodQ A B=some q):ZfS a b= .ok (A,B,q):=by unfold ZfS;rw [ha,hb];dsimp only;rw [hq]
theorem Zqp {a b A B:Aut} (ha:ZcS a= .ok A) (hb:ZcS b= .ok B) (hq:prodQ A B=none):ZfS a b= .error 13:=by unfold ZfS;rw [ha,hb];dsimp only;rw [hq]
theorem Zna {a b:Aut} (h1:ζ5 a=true) (h2:ζ5 b=true) (h:a.syms=b.syms):Zdl a b=0:=by unfold Zdl;rw [if_neg (by rw [h1,h2];simp),if_neg (fun e=>e h)]
theorem ZlL {a b A B:Aut} {op:Int} (hf:Zdl a b=0) (ha:ZcS a= .ok A) (hb:ZcS b= .ok B) {q:List PrS2×List (List Nat)} (hq:prodQ A B=some q):cmpX a b op=((ZjM A B op q).1,(ZjM A B op q).2,0):=by
 unfold cmpX;rw [if_neg (fun h=>h hf),Zqo ha hb hq]
theorem ZlM {a b A B:Aut} {op:Int} (hf:Zdl a b=0) (ha:ZcS a= .ok A) (hb:ZcS b= .ok B) (hq:prodQ A B=none):cmpX a b op=(false,[],13):=by
 unfold cmpX;rw [if_neg (fun h=>h hf),Zqp ha hb hq]
section
variable {A B:Aut} {o:List PrS2} {rows:List (List Nat)}
theorem ZsT {op:Int} {i:Nat} (h:(o.map (ZbI A B op)).idxOf? true=some i):ZjM A B op (o,rows)=(false,Zo6 (o.map (·.2)) i):=by unfold ZjM;dsimp only;rw [h];rfl
theorem ZsU {op:Int} (h:(o.map (ZbI A B op)).idxOf? true=none):ZjM A B op (o,rows)=(true,[]):=by unfold ZjM;dsimp only;rw [h]
end
end Go.Proofs.YtgfabnhpllkebaaGreatDoor
